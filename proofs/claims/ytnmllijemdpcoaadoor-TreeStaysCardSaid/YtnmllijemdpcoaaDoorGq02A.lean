/- SHA-256 in plain words: rotations, the words of a block, the rounds. -/
import Derived.Test.YtnmllijemdpcoaaDoorGp02
import Derived.Test.YtnmllijemdpcoaaDoorGqA
namespace Go.Ge
set_option linter.unusedVariables false
set_option linter.unusedSimpArgs false

def rot (n x : Int) : Int := ior .u32 (ishr .u32 x n) (ishl .u32 x (32 - n))

theorem right_of {n m : Int} (h : iand .u64 (icv .u64 (isub .i64 0 n)) 31 = m) (h1 : ltI m 0 = false) (h2 : isub .u64 32 m = n) (h3 : ltI n 0 = false) (h4 : 32 - n = m) (x : Int) : P_sha_right (x, (n, ())) = some (rot n x, ()) := by
  unfold P_sha_right P_math_bits_RotateLeft32 rot
  dsimp only
  rw [h, h1, sel_false, h2, h3, sel_false, obind_some, h4, ior_comm32]
theorem turn_of {n : Int} (h1 : ltI n 0 = false) (h2 : isub .i64 32 n = 32 - n) (h3 : ltI (32 - n) 0 = false) (x : Int) : P_ref02_turn (x, (n, ())) = some (rot n x, ()) := by
  unfold P_ref02_turn rot
  dsimp only
  rw [h1, sel_false, h2, h3, sel_false]

theorem r7 (x : Int) : P_sha_right (x, (7, ())) = some (rot 7 x, ()) := right_of (m := 25) (by decide) (by decide) (by decide) (by decide) (by decide) x
theorem r18 (x : Int) : P_sha_right (x, (18, ())) = some (rot 18 x, ()) := right_of (m := 14) (by decide) (by decide) (by decide) (by decide) (by decide) x
theorem r17 (x : Int) : P_sha_right (x, (17, ())) = some (rot 17 x, ()) := right_of (m := 15) (by decide) (by decide) (by decide) (by decide) (by decide) x
theorem r19 (x : Int) : P_sha_right (x, (19, ())) = some (rot 19 x, ()) := right_of (m := 13) (by decide) (by decide) (by decide) (by decide) (by decide) x
theorem r6 (x : Int) : P_sha_right (x, (6, ())) = some (rot 6 x, ()) := right_of (m := 26) (by decide) (by decide) (by decide) (by decide) (by decide) x
theorem r11 (x : Int) : P_sha_right (x, (11, ())) = some (rot 11 x, ()) := right_of (m := 21) (by decide) (by decide) (by decide) (by decide) (by decide) x
theorem r25 (x : Int) : P_sha_right (x, (25, ())) = some (rot 25 x, ()) := right_of (m := 7) (by decide) (by decide) (by decide) (by decide) (by decide) x
theorem r2 (x : Int) : P_sha_right (x, (2, ())) = some (rot 2 x, ()) := right_of (m := 30) (by decide) (by decide) (by decide) (by decide) (by decide) x
theorem r13 (x : Int) : P_sha_right (x, (13, ())) = some (rot 13 x, ()) := right_of (m := 19) (by decide) (by decide) (by decide) (by decide) (by decide) x
theorem r22 (x : Int) : P_sha_right (x, (22, ())) = some (rot 22 x, ()) := right_of (m := 10) (by decide) (by decide) (by decide) (by decide) (by decide) x
theorem t2 (x : Int) : P_ref02_turn (x, (2, ())) = some (rot 2 x, ()) := turn_of (by decide) (by decide) (by decide) x
/-! ### The words of a block -/
def word (b : List Int) (t : Nat) : Int :=
  ior .u32 (ior .u32 (ior .u32 (ishl .u32 (icv .u32 (b.getD (4 * t) 0)) 24) (ishl .u32 (icv .u32 (b.getD (4 * t + 1) 0)) 16)) (ishl .u32 (icv .u32 (b.getD (4 * t + 2) 0)) 8)) (icv .u32 (b.getD (4 * t + 3) 0))
def zeros (n : Nat) : List Int := List.replicate n 0
def fillW (b : List Int) : Nat → List Int
  | 0 => zeros 64
  | t + 1 => (fillW b t).set t (word b t)
theorem length_fill (b : List Int) (t : Nat) : (fillW b t).length = 64 := by
  induction t with
  | zero => rfl
  | succ t ih => simp [fillW, ih]
theorem fill_zero (b : List Int) : ∀ (t j : Nat), t ≤ j → j < 64 → (fillW b t).getD j 0 = 0 := by
  intro t
  induction t with
  | zero =>
    intro j _ hj
    show (List.replicate 64 (0 : Int)).getD j 0 = 0
    rw [List.getD_eq_getElem?_getD, List.getElem?_replicate, if_pos hj]; rfl
  | succ t ih =>
    intro j h1 h2
    have := ih j (by omega) h2
    simp only [fillW, List.getD_eq_getElem?_getD, List.getElem?_set] at this ⊢
    rw [if_neg (by omega)]; exact this

def nextW (p : List Int) (t : Nat) : Int :=
  iadd .u32 (iadd .u32 (iadd .u32 (ixor .u32 (ixor .u32 (rot 17 (p.getD (t - 2) 0)) (rot 19 (p.getD (t - 2) 0))) (ishr .u32 (p.getD (t - 2) 0) 10)) (p.getD (t - 7) 0))
    (ixor .u32 (ixor .u32 (rot 7 (p.getD (t - 15) 0)) (rot 18 (p.getD (t - 15) 0))) (ishr .u32 (p.getD (t - 15) 0) 3))) (p.getD (t - 16) 0)
def extW (l : List Int) : Nat → List Int
  | 0 => l
  | k + 1 => (extW l k).set (16 + k) (nextW (extW l k) (16 + k))
theorem length_ext (l : List Int) (k : Nat) : (extW l k).length = l.length := by
  induction k with
  | zero => rfl
  | succ k ih => simp [extW, ih]
def schedW (b : List Int) : List Int := extW (fillW b 16) 48
theorem length_sched (b : List Int) : (schedW b).length = 64 := by unfold schedW; rw [length_ext, length_fill]

theorem four {t : Nat} (ht : t < 64) : imul .i64 4 (t : Int) = ((4 * t : Nat) : Int) := by rw [imul_i64 (by omega) (by omega)]; omega

theorem sched_inner (b : List Int) (hb : b.length = 64) (t : Nat) (ht : t < 16) (w : List Int) (hw : w.length = 64) (h0 : w.getD t 0 = 0) (u v : Unit) (y : List Int × Unit) :
    Loop (P_sha_schedule_L1 (b, u) (((t : Int), v), y)) ((0, ()), (w, ())) = some (((4 : Int), ()), (w.set t (word b t), ())) := by
  let a : Nat → Int := fun j => match j with
    | 0 => 0
    | 1 => ior .u32 (ishl .u32 0 8) (icv .u32 (b.getD (4 * t) 0))
    | 2 => ior .u32 (ishl .u32 (ior .u32 (ishl .u32 0 8) (icv .u32 (b.getD (4 * t) 0))) 8) (icv .u32 (b.getD (4 * t + 1) 0))
    | 3 => ior .u32 (ishl .u32 (ior .u32 (ishl .u32 (ior .u32 (ishl .u32 0 8) (icv .u32 (b.getD (4 * t) 0))) 8) (icv .u32 (b.getD (4 * t + 1) 0))) 8) (icv .u32 (b.getD (4 * t + 2) 0))
    | _ => word b t
  have hstep : ∀ j, j < 4 → a (j + 1) = ior .u32 (ishl .u32 (a j) 8) (icv .u32 (b.getD (4 * t + j) 0)) := by
    intro j hj
    rcases (by omega : j = 0 ∨ j = 1 ∨ j = 2 ∨ j = 3) with rfl | rfl | rfl | rfl
    · rfl
    · rfl
    · rfl
    · exact (four_eq _ _ _ _).symm
  have hw0 : w = w.set t 0 := by
    apply List.ext_getElem?
    intro j
    rw [List.getElem?_set]
    split
    · rename_i e
      subst e
      rw [if_pos (by omega)]
      rw [List.getD_eq_getElem?_getD, List.getElem?_eq_getElem (by omega)] at h0
      rw [List.getElem?_eq_getElem (by omega)]
      simpa using h0
    · rfl
  have := loop_seq (f := P_sha_schedule_L1 (b, u) (((t : Int), v), y)) (r := (((4 : Int), ()), (w.set t (word b t), ()))) 4 (fun j => (((j : Int), ()), (w.set t (a j), ()))) (fun j hj => by
    unfold P_sha_schedule_L1
    dsimp only
    rw [four (by omega), iadd_i64 (by omega) (by omega)]
    have e4 : minus (((4 * t : Nat) : Int) + 4) ((4 * t : Nat) : Int) = 4 := by unfold minus; omega
    rw [e4, ltI_true (by omega), sel_true, within_true (by omega) (by omega), sel_true, within_true (by omega) (by omega)]
    have hl : (w.set t (a j)).length = 64 := by simp [hw]
    have hg : (w.set t (a j)).getD t 0 = a j := by simp [List.getD_eq_getElem?_getD, hw, ht, (by omega : t < 64)]
    rw [idx_at b 0 (i := plus ((4 * t : Nat) : Int) j) (k := 4 * t + j) (by unfold plus; omega) (by omega), obind_some, sel_true, idx_getD _ 0 (by rw [hl]; omega), hg, obind_some, ltI_false (by decide), sel_false, sel_true, obind_some, obind_some, obind_some, way1_inl, iadd_one (by omega), lset_nat, List.set_set, hstep j hj])
    (by
      unfold P_sha_schedule_L1
      dsimp only
      rw [four (by omega), iadd_i64 (by omega) (by omega)]
      have e4 : minus (((4 * t : Nat) : Int) + 4) ((4 * t : Nat) : Int) = 4 := by unfold minus; omega
      rw [e4, ltI_false (by omega), sel_false, way1_inr]
      rfl)
  have h00 : w.set t (a 0) = w := hw0.symm
  rw [h00] at this
  exact this

theorem zeros64 : ([0, 0, 0, 0, 0, 0, 0, 0, 0, 0, 0, 0, 0, 0, 0, 0, 0, 0, 0, 0, 0, 0, 0, 0, 0, 0, 0, 0, 0, 0, 0, 0, 0, 0, 0, 0, 0, 0, 0, 0, 0, 0, 0, 0, 0, 0, 0, 0, 0, 0, 0, 0, 0, 0, 0, 0, 0, 0, 0, 0, 0, 0, 0, 0] : List Int) = zeros 64 := rfl

theorem sched_outer (b : List Int) (hb : b.length = 64) (u : Unit) : Loop (P_sha_schedule_L0 (b, u)) ((0, ()), (zeros 64, ())) = some (((16 : Int), ()), (fillW b 16, ())) := by
  refine loop_seq (f := P_sha_schedule_L0 (b, u)) 16 (fun t => (((t : Int), ()), (fillW b t, ()))) (fun t ht => ?_) ?_
  · unfold P_sha_schedule_L0
    dsimp only
    rw [ltI_true (by omega), sel_true, four (by omega), iadd_i64 (by omega) (by omega), inside_true (by omega) (by omega) (by omega), sel_true, sched_inner b hb t ht _ (length_fill b t) (fill_zero b t t (Nat.le_refl _) (by omega)), obind_some, way1_inl, iadd_one (by omega)]
    rfl
  · unfold P_sha_schedule_L0
    dsimp only
    rw [ltI_false (by omega), sel_false, way1_inr]
    rfl

theorem sched_ext (l : List Int) (hl : l.length = 64) : Loop P_sha_schedule_L2 ((16, ()), (l, ())) = some (((64 : Int), ()), (extW l 48, ())) := by
  refine loop_seq (f := P_sha_schedule_L2) 48 (fun k => ((((16 + k : Nat) : Int), ()), (extW l k, ()))) (fun k hk => ?_) ?_
  · have hlen : (extW l k).length = 64 := by rw [length_ext, hl]
    unfold P_sha_schedule_L2
    dsimp only
    rw [ltI_true (by omega), sel_true, isub_i64 (by omega) (by omega), isub_i64 (by omega) (by omega), isub_i64 (by omega) (by omega), isub_i64 (by omega) (by omega),
      within_true (by omega) (by omega), sel_true, idx_at _ 0 (k := 16 + k - 2) (by omega) (by omega), obind_some, within_true (by omega) (by omega), sel_true, idx_at _ 0 (k := 16 + k - 15) (by omega) (by omega), obind_some,
      r7, obind_some, r18, obind_some, ltI_false (by decide), sel_false, r17, obind_some, r19, obind_some, ltI_false (by decide), sel_false, within_true (by omega) (by omega), sel_true, idx_at _ 0 (k := 16 + k - 7) (by omega) (by omega), obind_some,
      within_true (by omega) (by omega), sel_true, idx_at _ 0 (k := 16 + k - 16) (by omega) (by omega), obind_some, within_true (by omega) (by omega), sel_true, idx_getD _ 0 (by omega), obind_some, obind_some, obind_some, way1_inl, iadd_one (by omega), lset_nat]
    rfl
  · unfold P_sha_schedule_L2
    dsimp only
    rw [ltI_false (by omega), sel_false, way1_inr]
    rfl

theorem schedule_val (b : List Int) (hb : b.length = 64) (u : Unit) : P_sha_schedule (b, u) = some (schedW b, ()) := by
  unfold P_sha_schedule
  rw [zeros64, sched_outer b hb, obind_some]
  dsimp only
  rw [sched_ext _ (length_fill b 16), obind_some]
  dsimp only [schedW]

/-! ### The same of the reference -/
/-! ### The rounds -/
abbrev W8 := Int × Int × Int × Int × Int × Int × Int × Int
def rnd (k w : Int) : W8 → W8
  | (a, b, c, d, e, f, g, h) =>
    let one := iadd .u32 (iadd .u32 (iadd .u32 (iadd .u32 h (ixor .u32 (ixor .u32 (rot 6 e) (rot 11 e)) (rot 25 e))) (ixor .u32 g (iand .u32 e (ixor .u32 f g)))) k) w
    let two := iadd .u32 (ixor .u32 (ixor .u32 (rot 2 a) (rot 13 a)) (rot 22 a)) (ior .u32 (iand .u32 a b) (iand .u32 c (ior .u32 a b)))
    (iadd .u32 one two, a, b, c, iadd .u32 d one, e, f, g)
def rnds (K w : List Int) (s : W8) : Nat → W8
  | 0 => s
  | t + 1 => rnd (K.getD t 0) (w.getD t 0) (rnds K w s t)
def K256 : List Int := [1116352408, 1899447441, 3049323471, 3921009573, 961987163, 1508970993, 2453635748, 2870763221, 3624381080, 310598401, 607225278, 1426881987, 1925078388, 2162078206, 2614888103, 3248222580, 3835390401, 4022224774, 264347078, 604807628, 770255983, 1249150122, 1555081692, 1996064986, 2554220882, 2821834349, 2952996808, 3210313671, 3336571891, 3584528711, 113926993, 338241895, 666307205, 773529912, 1294757372, 1396182291, 1695183700, 1986661051, 2177026350, 2456956037, 2730485921, 2820302411, 3259730800, 3345764771, 3516065817, 3600352804, 4094571909, 275423344, 430227734, 506948616, 659060556, 883997877, 958139571, 1322822218, 1537002063, 1747873779, 1955562222, 2024104815, 2227730452, 2361852424, 2428436474, 2756734187, 3204031479, 3329325298]
theorem round_val : P_sha_round () = some (K256, ()) := rfl
def flat9 (s : W8) (t : Int) : Int × Int × Int × Int × Int × Int × Int × Int × Int × Unit := (s.1, s.2.1, s.2.2.1, s.2.2.2.1, s.2.2.2.2.1, s.2.2.2.2.2.1, s.2.2.2.2.2.2.1, s.2.2.2.2.2.2.2, t, ())
def list8 (s : W8) : List Int := [s.1, s.2.1, s.2.2.1, s.2.2.2.1, s.2.2.2.2.1, s.2.2.2.2.2.1, s.2.2.2.2.2.2.1, s.2.2.2.2.2.2.2]

theorem add_rounds (w : List Int) (hw : w.length = 64) (s : W8) (u v : Unit) : Loop (P_sha_Stream_Add_L1 (K256, u) (w, v)) (flat9 s 0, ()) = some (flat9 (rnds K256 w s 64) 64, ()) := by
  refine loop_seq (f := P_sha_Stream_Add_L1 (K256, u) (w, v)) 64 (fun t => (flat9 (rnds K256 w s t) t, ())) (fun t ht => ?_) ?_
  · show P_sha_Stream_Add_L1 (K256, u) (w, v) (flat9 (rnds K256 w s t) t, ()) = some (.inl (flat9 (rnd (K256.getD t 0) (w.getD t 0) (rnds K256 w s t)) ((t + 1 : Nat) : Int), ()))
    generalize rnds K256 w s t = q
    obtain ⟨a, b, c, d, e, f, g, h⟩ := q
    unfold P_sha_Stream_Add_L1 flat9
    dsimp only
    rw [ltI_true (by omega), sel_true, r6, obind_some, r11, obind_some, r25, obind_some, within_true (by omega) (by omega), sel_true, idx_getD K256 0 (by show t < 64; omega), obind_some, sel_true, idx_getD w 0 (by omega), obind_some,
      r2, obind_some, r13, obind_some, r22, obind_some, way1_inl, iadd_one (by omega)]
    rfl
  · unfold P_sha_Stream_Add_L1 flat9
    dsimp only
    rw [ltI_false (by omega), sel_false, way1_inr]
    rfl

/-! ### A block -/
def of8 (l : List Int) : W8 := (l.getD 0 0, l.getD 1 0, l.getD 2 0, l.getD 3 0, l.getD 4 0, l.getD 5 0, l.getD 6 0, l.getD 7 0)
def addW (l m : List Int) : Nat → List Int
  | 0 => l
  | i + 1 => (addW l m i).set i (iadd .u32 (l.getD i 0) (m.getD i 0))
theorem length_addW (l m : List Int) (i : Nat) : (addW l m i).length = l.length := by
  induction i with
  | zero => rfl
  | succ i ih => simp [addW, ih]
theorem addW_at (l m : List Int) : ∀ (i j : Nat), i ≤ j → (addW l m i).getD j 0 = l.getD j 0 := by
  intro i
  induction i with
  | zero => intro j _; rfl
  | succ i ih =>
    intro j h
    have := ih j (by omega)
    simp only [addW, List.getD_eq_getElem?_getD, List.getElem?_set] at this ⊢
    rw [if_neg (by omega)]; exact this
/-- The eight words behind a block. -/
def comp (h b : List Int) : List Int := addW h (list8 (rnds K256 (schedW b) (of8 h) 64)) 8
theorem length_comp (h b : List Int) : (comp h b).length = h.length := length_addW _ _ _

end Go.Ge
