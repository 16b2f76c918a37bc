/- SHA-256 in plain words: streams. -/
import Derived.Test.YtnmllijemdpcoaaDoorGq02A
namespace Go.Ge
set_option linter.unusedVariables false
set_option linter.unusedSimpArgs false

def H0 : List Int := [1779033703, 3144134277, 1013904242, 2773480762, 1359893119, 2600822924, 528734635, 1541459225]
theorem begin_val : P_sha_begin () = some (H0, ()) := rfl
/-- The words behind so many blocks of some bytes. -/
def hsB (all : List UInt8) : Nat → List Int
  | 0 => H0
  | k + 1 => comp (hsB all k) (bytesInts ((all.drop (64 * k)).take 64))
theorem length_hsB (all : List UInt8) (k : Nat) : (hsB all k).length = 8 := by
  induction k with
  | zero => rfl
  | succ k ih => simp only [hsB]; rw [length_comp, ih]
theorem hsB_app (all more : List UInt8) : ∀ k, 64 * k ≤ all.length → hsB (all ++ more) k = hsB all k := by
  intro k
  induction k with
  | zero => intro _; rfl
  | succ k ih =>
    intro h
    simp only [hsB]
    rw [ih (by omega), List.drop_append_of_le_length (by omega), List.take_append_of_le_length (by rw [List.length_drop]; omega)]

abbrev Strm := (Bool × List Int × Unit) × List Int × Int × Unit

/-- A stream that has taken some bytes. -/
def Inv (st : Strm) (all : List UInt8) : Prop :=
  ∃ wait, st = ((decide (64 ≤ all.length), (if 64 ≤ all.length then hsB all (all.length / 64) else zeros 8), ()), wait, (all.length : Int), ()) ∧ wait.length = 64 ∧ wait.take (all.length % 64) = bytesInts (all.drop (64 * (all.length / 64)))

def strm0 : Strm := ((false, zeros 8, ()), zeros 64, 0, ())
theorem inv0 : Inv strm0 [] := ⟨zeros 64, rfl, rfl, rfl⟩

theorem bytesInts_app (a b : List UInt8) : bytesInts (a ++ b) = bytesInts a ++ bytesInts b := by simp [bytesInts]
theorem bytesInts_take (a : List UInt8) (n : Nat) : (bytesInts a).take n = bytesInts (a.take n) := by simp [bytesInts, List.map_take]
theorem length_bytes (a : List UInt8) : (bytesInts a).length = a.length := by simp [bytesInts]

theorem irem_nat (a b : Nat) : irem (a : Int) (b : Int) = ((a % b : Nat) : Int) := by
  unfold irem; rw [Int.tmod_eq_emod_of_nonneg (by omega)]; exact (Int.natCast_emod a b).symm

/-- The last loop of a block. -/
theorem add_last (q : W8) (st : Strm) (h8 : st.1.2.1.length = 8) : Loop (P_sha_Stream_Add_L2 (flat9 q 64, ())) ((0, ()), (st, ())) = some (((8 : Int), ()), (((st.1.1, addW st.1.2.1 (list8 q) 8, st.1.2.2), st.2), ())) := by
  obtain ⟨⟨bg, h, u⟩, wn⟩ := st
  dsimp only at h8 ⊢
  refine loop_seq (f := P_sha_Stream_Add_L2 (flat9 q 64, ())) 8 (fun i => (((i : Int), ()), (((bg, addW h (list8 q) i, u), wn), ()))) (fun i hi => ?_) ?_
  · have hl : (addW h (list8 q) i).length = 8 := by rw [length_addW, h8]
    have e8 : ([(flat9 q 64).1, (flat9 q 64).2.1, (flat9 q 64).2.2.1, (flat9 q 64).2.2.2.1, (flat9 q 64).2.2.2.2.1, (flat9 q 64).2.2.2.2.2.1, (flat9 q 64).2.2.2.2.2.2.1, (flat9 q 64).2.2.2.2.2.2.2.1] : List Int) = list8 q := rfl
    unfold P_sha_Stream_Add_L2
    dsimp only
    rw [e8]
    have hq8 : (list8 q).length = 8 := rfl
    simp only [ltI_true (show (i : Int) < 8 by omega), sel_true, within_true (show (0 : Int) ≤ i by omega) (show (i : Int) < 8 by omega), idx_getD (addW h (list8 q) i) 0 (show i < (addW h (list8 q) i).length by omega), idx_getD (list8 q) 0 (show i < (list8 q).length by omega), obind_some, way1_inl, iadd_one (show i < 4611686018427387904 by omega), lset_nat]
    rw [addW_at h (list8 q) i i (Nat.le_refl _)]
    rfl
  · unfold P_sha_Stream_Add_L2
    dsimp only
    rw [ltI_false (by omega), sel_false, way1_inr]
    rfl

/-- One round of Add. -/
theorem add_step (part all : List UInt8) (st : Strm) (hp : part ≠ []) (hI : Inv st all) (hb : all.length + part.length < 1152921504606846976) :
    ∃ st', P_sha_Stream_Add_L0 ((part, ()), (st, ())) = some (.inl ((part.drop (64 - all.length % 64), ()), (st', ()))) ∧ Inv st' (all ++ part.take (64 - all.length % 64)) := by
  obtain ⟨wait, rfl, hw, ht⟩ := hI
  generalize hN : all.length = N at *
  have hat : N % 64 < 64 := Nat.mod_lt _ (by decide)
  have eat : irem (N : Int) 64 = ((N % 64 : Nat) : Int) := irem_nat N 64
  have em : ltake (bytesInts part) (minus (64 : Int) ((N % 64 : Nat) : Int)) = bytesInts (part.take (64 - N % 64)) := by
    unfold ltake minus
    rw [show ((64 : Int) - ((N % 64 : Nat) : Int)).toNat = 64 - N % 64 by omega, bytesInts_take]
  generalize hk : (part.take (64 - N % 64)).length = k
  have hk' : k = min (64 - N % 64) part.length := by rw [← hk, List.length_take]
  have hkp : 0 < k := by
    have : 0 < part.length := by cases part with | nil => exact absurd rfl hp | cons => simp
    omega
  have elen : len (bytesInts (part.take (64 - N % 64))) = (k : Int) := by unfold len; rw [length_bytes, hk]
  have eadd : iadd .i64 ((N % 64 : Nat) : Int) (k : Int) = ((N % 64 + k : Nat) : Int) := by rw [iadd_i64 (by omega) (by omega)]; omega
  have eaddn : iadd .i64 (N : Int) (k : Int) = ((N + k : Nat) : Int) := by rw [iadd_i64 (by omega) (by omega)]; omega
  have ein1 : inside ((N % 64 : Nat) : Int) 64 64 = true := inside_true (by omega) (by omega) (by omega)
  have ein2 : inside (k : Int) (len part) (len part) = true := inside_true (by omega) (by unfold len; omega) (by omega)
  have esub : sub part (k : Int) (minus (len part) (k : Int)) = part.drop k := by
    unfold sub minus len
    rw [Int.toNat_natCast, List.take_of_length_le (by rw [List.length_drop]; omega)]
  have hdk : part.drop k = part.drop (64 - N % 64) := by
    rcases Nat.le_total (64 - N % 64) part.length with h | h
    · rw [show k = 64 - N % 64 by omega]
    · rw [List.drop_of_length_le (by omega), List.drop_of_length_le h]
  have hover : over wait ((N % 64 : Nat) : Int) (bytesInts (part.take (64 - N % 64))) = bytesInts (all.drop (64 * (N / 64)) ++ part.take (64 - N % 64)) ++ wait.drop (N % 64 + k) := by
    unfold over
    rw [Int.toNat_natCast, ht, length_bytes, hk, bytesInts_app]
  have hne : nt (eqS part []) = true := by
    unfold eqS nt
    cases part with
    | nil => exact absurd rfl hp
    | cons x r => rfl
  have hall : (all ++ part.take (64 - N % 64)).length = N + k := by rw [List.length_append, hN, hk]
  have hdm : 64 * (N / 64) + N % 64 = N := Nat.div_add_mod N 64
  have htail : (all.drop (64 * (N / 64))).length = N % 64 := by rw [List.length_drop]; omega
  have hwl : (bytesInts (all.drop (64 * (N / 64)) ++ part.take (64 - N % 64)) ++ wait.drop (N % 64 + k)).length = 64 := by
    rw [List.length_append, length_bytes, List.length_append, htail, hk, List.length_drop]; omega
  unfold P_sha_Stream_Add_L0
  dsimp only
  simp only [hne, sel_true, eqI_false (show (64 : Int) ≠ 0 by decide), sel_false, eat, ein1, em, elen, ein2, eadd, eaddn, esub, hover]
  by_cases hfull : N % 64 + k = 64
  · -- a block is full
    have hw0 : wait.drop (N % 64 + k) = [] := by rw [List.drop_of_length_le (by omega)]
    simp only [eqI_true (show ((N % 64 + k : Nat) : Int) = 64 by omega), sel_true, hw0, List.append_nil] at hwl ⊢
    generalize hblk : bytesInts (all.drop (64 * (N / 64)) ++ part.take (64 - N % 64)) = blk at *
    have hq : (N + k) / 64 = N / 64 + 1 := by omega
    have hm0 : (N + k) % 64 = 0 := by omega
    have hblk2 : ((all ++ part.take (64 - N % 64)).drop (64 * (N / 64))).take 64 = all.drop (64 * (N / 64)) ++ part.take (64 - N % 64) := by
      rw [List.drop_append_of_le_length (by omega), List.take_of_length_le (by rw [List.length_append, htail, hk]; omega)]
    -- the words ahead of the block
    have hh : ∃ bg' : Bool, bg' = true ∧ (obind (sel (nt (decide (64 ≤ N))) (obind (P_sha_begin ()) fun y2 : List Int × Unit => some ((), (((true, y2.1, ()), (blk, ((N + k : Nat) : Int), ())), ()))) (some ((), (((decide (64 ≤ N), (if 64 ≤ N then hsB all (N / 64) else zeros 8), ()), (blk, ((N + k : Nat) : Int), ())), ())))) fun y : Unit × Strm × Unit => some y) = some ((), (((true, hsB all (N / 64), ()), (blk, ((N + k : Nat) : Int), ())), ())) := by
      refine ⟨true, rfl, ?_⟩
      by_cases h64 : 64 ≤ N
      · simp only [h64, decide_true, if_true]; rfl
      · have : N / 64 = 0 := by omega
        simp only [h64, decide_false, if_false, this, begin_val]; rfl
    obtain ⟨_, _, hh⟩ := hh
    have hh' : (sel (nt (decide (64 ≤ N))) (obind (P_sha_begin ()) fun y2 : List Int × Unit => some ((), (((true, y2.1, ()), (blk, ((N + k : Nat) : Int), ())), ()))) (some ((), (((decide (64 ≤ N), (if 64 ≤ N then hsB all (N / 64) else zeros 8), ()), (blk, ((N + k : Nat) : Int), ())), ()))) : Option (Unit × Strm × Unit)) = some ((), (((true, hsB all (N / 64), ()), (blk, ((N + k : Nat) : Int), ())), ())) := by
      have : ∀ o : Option (Unit × Strm × Unit), (obind o fun y => some y) = o := by intro o; cases o <;> rfl
      exact (this _).symm.trans hh
    rw [hh', obind_some, round_val, obind_some, schedule_val blk hwl, obind_some]
    dsimp only
    have hl8 := length_hsB all (N / 64)
    have i0 := idx_at (hsB all (N / 64)) 0 (i := 0) (k := 0) rfl (by omega)
    have i1 := idx_at (hsB all (N / 64)) 0 (i := 1) (k := 1) rfl (by omega)
    have i2 := idx_at (hsB all (N / 64)) 0 (i := 2) (k := 2) rfl (by omega)
    have i3 := idx_at (hsB all (N / 64)) 0 (i := 3) (k := 3) rfl (by omega)
    have i4 := idx_at (hsB all (N / 64)) 0 (i := 4) (k := 4) rfl (by omega)
    have i5 := idx_at (hsB all (N / 64)) 0 (i := 5) (k := 5) rfl (by omega)
    have i6 := idx_at (hsB all (N / 64)) 0 (i := 6) (k := 6) rfl (by omega)
    have i7 := idx_at (hsB all (N / 64)) 0 (i := 7) (k := 7) rfl (by omega)
    have w0 : within 0 8 = true := by decide
    have w1 : within 1 8 = true := by decide
    have w2 : within 2 8 = true := by decide
    have w3 : within 3 8 = true := by decide
    have w4 : within 4 8 = true := by decide
    have w5 : within 5 8 = true := by decide
    have w6 : within 6 8 = true := by decide
    have w7 : within 7 8 = true := by decide
    simp only [w0, w1, w2, w3, w4, w5, w6, w7, sel_true, i0, i1, i2, i3, i4, i5, i6, i7, obind_some]
    have hr := add_rounds (schedW blk) (length_sched blk) (of8 (hsB all (N / 64))) () ()
    rw [show ((hsB all (N / 64)).getD 0 0, (hsB all (N / 64)).getD 1 0, (hsB all (N / 64)).getD 2 0, (hsB all (N / 64)).getD 3 0, (hsB all (N / 64)).getD 4 0, (hsB all (N / 64)).getD 5 0, (hsB all (N / 64)).getD 6 0, (hsB all (N / 64)).getD 7 0, (0 : Int), ()) = flat9 (of8 (hsB all (N / 64))) 0 from rfl, hr, obind_some]
    rw [add_last _ ((true, hsB all (N / 64), ()), (blk, ((N + k : Nat) : Int), ())) hl8, obind_some, obind_some, way1_inl]
    dsimp only
    refine ⟨_, by rw [hdk], ?_⟩
    refine ⟨blk, ?_, hwl, ?_⟩
    · rw [hall]
      have h64 : 64 ≤ N + k := by omega
      simp only [h64, decide_true, if_true]
      have hsN : hsB (all ++ part.take (64 - N % 64)) ((N + k) / 64) = addW (hsB all (N / 64)) (list8 (rnds K256 (schedW blk) (of8 (hsB all (N / 64))) 64)) 8 := by
        rw [hq]
        simp only [hsB]
        rw [hsB_app all _ _ (by omega), hblk2, hblk]
        rfl
      rw [hsN]
    · rw [hall, hm0, hq, List.take_zero, List.drop_of_length_le (by omega)]; rfl
  · have hnf : N % 64 + k < 64 := by omega
    simp only [eqI_false (show ((N % 64 + k : Nat) : Int) ≠ 64 by omega), sel_false, obind_some, way1_inl]
    refine ⟨_, by rw [hdk], ?_⟩
    have hq : (N + k) / 64 = N / 64 := by omega
    have hm0 : (N + k) % 64 = N % 64 + k := by omega
    refine ⟨_, ?_, hwl, ?_⟩
    · rw [hall, hq]
      by_cases h64 : 64 ≤ N
      · have h64' : 64 ≤ N + k := by omega
        simp only [h64, h64', decide_true, if_true]
        rw [hsB_app all _ _ (by omega)]
      · have h64' : ¬ 64 ≤ N + k := by omega
        simp only [h64, h64', decide_false, if_false]
    · rw [hall, hm0, hq, List.take_append_of_le_length (by rw [length_bytes, List.length_append, htail, hk]; omega), List.take_of_length_le (by rw [length_bytes, List.length_append, htail, hk]; omega), List.drop_append_of_le_length (by omega)]
end Go.Ge
