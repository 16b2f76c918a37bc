/- Plain laws of what the functions compute: part 3. -/
import Derived.Test.YtpcimoekpbilgaaGreatDoorPlB
/- The reference's headers that may be; what a block is summed up to. -/
namespace Go.Ge
set_option linter.unusedVariables false
set_option linter.unusedSimpArgs false

/-! ### Sums -/
def sumAt (b : List UInt8) (k : Nat) : Nat := if 148 ≤ k ∧ k < 156 then 32 else (b.getD k 0).toNat
def sumTo (b : List UInt8) : Nat → Nat
  | 0 => 0
  | k + 1 => sumTo b k + sumAt b k
theorem sumAt_le (b : List UInt8) (k : Nat) : sumAt b k ≤ 255 := by
  unfold sumAt
  have := (b.getD k 0).toNat_lt
  split <;> omega
theorem sumTo_le (b : List UInt8) (k : Nat) : sumTo b k ≤ 255 * k := by
  induction k with
  | zero => exact Nat.le_refl _
  | succ k ih => have := sumAt_le b k; simp only [sumTo]; omega

theorem idx_fields : idx ([(0, (100, ())), (100, (8, ())), (108, (8, ())), (116, (8, ())), (124, (12, ())), (136, (12, ())), (148, (8, ())), (156, (1, ())), (157, (100, ())), (257, (8, ())), (345, (155, ()))] : List (Int × Int × Unit)) 6 = some (148, (8, ())) := rfl

theorem sum_val12 (b : List UInt8) (hb : b.length ≤ 1048576) : P_header_Sum (b, ()) = some ((sumTo b b.length : Int), ()) := by
  unfold P_header_Sum P_header_fields
  rw [obind_some]
  dsimp only
  rw [idx_fields, obind_some, fits_true (by simp only [len]; omega), sel_true]
  have key : Loop (P_header_Sum_L0 (b, ()) (148, (8, ()))) ((0, (0, ())), ()) = some (((sumTo b b.length : Int), ((b.length : Int), ())), ()) :=
    loop_seq (f := P_header_Sum_L0 (b, ()) (148, (8, ()))) (r := (((sumTo b b.length : Int), ((b.length : Int), ())), ())) b.length (fun k => (((sumTo b k : Int), ((k : Int), ())), ())) (fun k hk => by
      unfold P_header_Sum_L0
      dsimp only
      have h1 := sumTo_le b k
      have h2 := sumAt_le b k
      have hgd : b.getD k 0 = b[k] := by simp [List.getD_eq_getElem?_getD, hk]
      rw [len_bytes, ltI_true (by omega), sel_true, within_true (by omega) (by omega), sel_true, idx_bytes b hk, obind_some, way1_inl, iadd_one (by omega), show iadd .i64 148 8 = 156 from by decide]
      have hs : (sel (sel (leI 148 (k : Int)) (ltI (k : Int) 156) false) (((32 : Int), ()), ()) ((u8 b[k], ()), ())).1.1 = (sumAt b k : Int) := by
        unfold sumAt
        by_cases h : 148 ≤ k
        · by_cases h' : k < 156
          · rw [leI_true (by omega), sel_true, ltI_true (by omega), sel_true, if_pos ⟨h, h'⟩]; rfl
          · rw [leI_true (by omega), sel_true, ltI_false (by omega), sel_false, if_neg (fun e => h' e.2), hgd]; rfl
        · rw [leI_false (by omega), sel_false, sel_false, if_neg (fun e => h e.1), hgd]; rfl
      rw [hs, icv_i64 (by omega) (by omega), show iadd .i64 (sumTo b k : Int) (sumAt b k : Int) = ((sumTo b k + sumAt b k : Nat) : Int) from iadd_nat (by omega)]
      rfl) (by
      unfold P_header_Sum_L0
      dsimp only
      rw [len_bytes, ltI_false (by omega), sel_false, way1_inr])
  rw [key, obind_some]

end Go.Ge

/- A header's block, field by field. -/
namespace Go.Ge
set_option linter.unusedVariables false
set_option linter.unusedSimpArgs false

def nul (n : Nat) : List UInt8 := List.replicate n 0
theorem length_nul (n : Nat) : (nul n).length = n := List.length_replicate
def magic : List UInt8 := [117, 115, 116, 97, 114, 0, 48, 48]

theorem flat_split (fs : List (List UInt8)) (k : Nat) (hk : k < fs.length) : fs.flatten = (fs.take k).flatten ++ (fs[k] ++ (fs.drop (k + 1)).flatten) := by
  conv => lhs; rw [← List.take_append_drop k fs, List.drop_eq_getElem_cons hk]
  rw [List.flatten_append, List.flatten_cons]
theorem flat_set (fs : List (List UInt8)) (k : Nat) (hk : k < fs.length) (x : List UInt8) : (fs.set k x).flatten = (fs.take k).flatten ++ (x ++ (fs.drop (k + 1)).flatten) := by
  rw [List.set_eq_take_append_cons_drop, if_pos hk, List.flatten_append, List.flatten_cons]

theorem over_mid (A z R s : List UInt8) (off : Nat) (hA : A.length = off) (hs : s.length ≤ z.length) : over (bytesInts (A ++ (z ++ R))) (off : Int) (bytesInts s) = bytesInts (A ++ ((s ++ z.drop s.length) ++ R)) := by
  unfold over
  rw [Int.toNat_natCast, length_bytes]
  have h1 : (bytesInts (A ++ (z ++ R))).take off = bytesInts A := by rw [bytesInts_take, List.take_left' hA]
  have h2 : (bytesInts (A ++ (z ++ R))).drop (off + s.length) = bytesInts (z.drop s.length ++ R) := by
    have : (A ++ (z ++ R)).drop (off + s.length) = z.drop s.length ++ R := by
      rw [← hA, ← List.drop_drop, List.drop_left, List.drop_append_of_le_length hs]
    rw [← this]
    simp [bytesInts, List.map_drop]
  rw [h1, h2, ← bytesInts_app, ← bytesInts_app, List.append_assoc, List.append_assoc]

theorem ov (fs : List (List UInt8)) (k : Nat) (hk : k < fs.length) (s : List UInt8) (n l off : Nat) (hz : fs[k] = nul n) (hl : s.length = l) (hln : l ≤ n) (ho : (fs.take k).flatten.length = off) (h5 : off + l ≤ 512) :
    over (bytesInts fs.flatten) (off : Int) (ltake (bytesInts s) (minus 512 (off : Int))) = bytesInts (fs.set k (s ++ nul (n - l))).flatten := by
  have e : ltake (bytesInts s) (minus 512 (off : Int)) = bytesInts s := by
    unfold ltake minus
    rw [List.take_of_length_le]
    rw [length_bytes]; omega
  rw [e, flat_split fs k hk, over_mid _ _ _ _ off ho (by rw [hz, length_nul]; omega), flat_set fs k hk, hz, hl]
  simp [nul]

def fldsOf (h : Hd) (m u g z t : Nat) (kd : UInt8) (sm : List UInt8) : List (List UInt8) := [h.1 ++ nul (100 - h.1.length), octF m 7 ++ nul 1, octF u 7 ++ nul 1, octF g 7 ++ nul 1, octF z 11 ++ nul 1, octF t 11 ++ nul 1, sm, [kd] ++ nul 0, h.2.2.2.2.2.2.2.1 ++ nul (100 - h.2.2.2.2.2.2.2.1.length), magic ++ nul 0, nul 80, nul 155, nul 12]

end Go.Ge

/- What a header is put as. -/
namespace Go.Ge
set_option linter.unusedVariables false
set_option linter.unusedSimpArgs false

def hfields : List (Int × Int × Unit) := [(0, (100, ())), (100, (8, ())), (108, (8, ())), (116, (8, ())), (124, (12, ())), (136, (12, ())), (148, (8, ())), (156, (1, ())), (157, (100, ())), (257, (8, ())), (345, (155, ()))]
theorem fields_val : P_header_fields () = some (hfields, ()) := rfl
structure Fits (h : Hd) (m u g z t : Nat) (kd : UInt8) : Prop where
  path : h.1.length ≤ 100
  link : h.2.2.2.2.2.2.2.1.length ≤ 100
  m : h.2.2.1 = (m : Int) ∧ m < 2097152
  u : h.2.2.2.1 = (u : Int) ∧ u < 2097152
  g : h.2.2.2.2.1 = (g : Int) ∧ g < 2097152
  z : h.2.2.2.2.2.1 = (z : Int) ∧ z < 8589934592
  t : h.2.2.2.2.2.2.1 = (t : Int) ∧ t < 8589934592
  kind : (h.2.1 = 1 ∧ kd = 48) ∨ (h.2.1 = 2 ∧ kd = 53) ∨ (h.2.1 = 3 ∧ kd = 50)

def putF (h : Hd) (m u g z t : Nat) (kd : UInt8) : List UInt8 := (fldsOf h m u g z t kd (octF (sumTo (fldsOf h m u g z t kd (nul 8)).flatten 512) 6 ++ [0, 32])).flatten

end Go.Ge

/- What a block is taken as: of any block; of one that was put. -/
namespace Go.Ge
set_option linter.unusedVariables false
set_option linter.unusedSimpArgs false

/-! ### Any block -/
theorem fromOctal_total (s : List UInt8) (hs : s.length ≤ 1048576) : ∃ n ok, P_digits_FromOctal (s, ()) = some (n, (ok, ())) := by
  unfold P_digits_FromOctal
  dsimp only
  cases hc : (sel (nt (ltI (len s) 1)) (ltI 21 (len s)) true) with
  | true => exact ⟨0, false, rfl⟩
  | false =>
    rw [sel_false, fits_true (by simp only [len]; omega), sel_true]
    have key : ∀ (k i : Nat) (v : Int), s.length - i ≤ k → i ≤ s.length → ∃ q, Loop (P_digits_FromOctal_L0 (s, ())) ((0, (false, (v, ((i : Int), ())))), ()) = some q := by
      intro k
      induction k with
      | zero =>
        intro i v h hi
        rw [Loop_eq]
        unfold P_digits_FromOctal_L0
        dsimp only
        rw [len_bytes, ltI_false (by omega), sel_false]
        exact ⟨_, rfl⟩
      | succ k ih =>
        intro i v h hi
        by_cases hlt : i < s.length
        · cases hd : (sel (nt (ltI (u8 s[i]) 48)) (ltI 55 (u8 s[i])) true) with
          | true =>
            have e0 : P_digits_FromOctal_L0 (s, ()) ((0, (false, (v, ((i : Int), ())))), ()) = some (.inr (1, ((0, (false, (v, ((i : Int), ())))), ()))) := by
              unfold P_digits_FromOctal_L0
              dsimp only
              rw [len_bytes, ltI_true (by omega), sel_true, within_true (by omega) (by omega), sel_true, idx_bytes s hlt, obind_some, hd, sel_true]
            rw [Loop_eq, e0]
            exact ⟨_, rfl⟩
          | false =>
            have e0 : P_digits_FromOctal_L0 (s, ()) ((0, (false, (v, ((i : Int), ())))), ()) = some (.inl ((0, (false, (ior .i64 (ishl .i64 v 3) (icv .i64 (isub .u8 (u8 s[i]) 48)), (((i + 1 : Nat) : Int), ())))), ())) := by
              unfold P_digits_FromOctal_L0
              dsimp only
              rw [len_bytes, ltI_true (by omega), sel_true, within_true (by omega) (by omega), sel_true, idx_bytes s hlt, obind_some, hd, sel_false, ltI_false (by decide), sel_false, iadd_one (by omega)]
            rw [Loop_eq, e0]
            exact ih (i + 1) _ (by omega) (by omega)
        · rw [Loop_eq]
          unfold P_digits_FromOctal_L0
          dsimp only
          rw [len_bytes, ltI_false (by omega), sel_false]
          exact ⟨_, rfl⟩
    obtain ⟨q, hq⟩ := key s.length 0 0 (by omega) (by omega)
    rw [show Loop (P_digits_FromOctal_L0 (s, ())) ((0, (false, (0, (0, ())))), ()) = some q from hq, obind_some]
    cases eqN q.1 0 with
    | true => exact ⟨_, _, rfl⟩
    | false => exact ⟨_, _, rfl⟩

theorem rtrim_length (p : UInt8 → Bool) (s : List UInt8) : (rtrim p s).length ≤ s.length := by
  unfold rtrim
  rw [List.length_reverse]
  have := List.takeWhile_append_dropWhile (p := p) (l := s.reverse)
  have := congrArg List.length this
  rw [List.length_append, List.length_reverse] at this
  omega

theorem number_total (s : List UInt8) (hs : s.length ≤ 1048576) : ∃ n, P_header_number (s, ()) = some (n, ()) := by
  unfold P_header_number
  dsimp only
  have hl := rtrim_length isNB s
  rw [trimRight_nb s hs, obind_some]
  obtain ⟨n, ok, h⟩ := fromOctal_total (rtrim isNB s) (by omega)
  dsimp only
  rw [h, obind_some]
  cases (sel (nt (nt ok)) (eqI (len (rtrim isNB s)) (len s)) true) with
  | true => exact ⟨_, rfl⟩
  | false => exact ⟨_, rfl⟩

def fld (b : List UInt8) (a n : Nat) : List UInt8 := (b.drop a).take n
theorem fld_length (b : List UInt8) (a n : Nat) : (fld b a n).length ≤ n := by simp [fld]; omega

theorem of_val12 (b : List UInt8) (hb : b.length = 512) (k : Int) (a n : Nat) (hk : idx hfields k = some ((a : Int), ((n : Int), ()))) (h : a + n ≤ 512) : P_header_of (b, (k, ())) = some (fld b a n, ()) := by
  unfold P_header_of
  rw [fields_val, obind_some]
  dsimp only
  rw [hk, obind_some]
  dsimp only
  rw [show iadd .i64 (a : Int) (n : Int) = ((a + n : Nat) : Int) from iadd_nat (by omega), inside_true (by omega) (by omega) (by simp only [len]; omega), sel_true]
  unfold sub minus fld
  rw [Int.toNat_natCast, show (((a + n : Nat) : Int) - (a : Int)).toNat = n by omega]

section
variable (b : List UInt8)
theorem o0 (hb : b.length = 512) : P_header_of (b, (0, ())) = some (fld b 0 100, ()) := of_val12 b hb 0 0 100 rfl (by omega)
theorem o1 (hb : b.length = 512) : P_header_of (b, (1, ())) = some (fld b 100 8, ()) := of_val12 b hb 1 100 8 rfl (by omega)
theorem o2 (hb : b.length = 512) : P_header_of (b, (2, ())) = some (fld b 108 8, ()) := of_val12 b hb 2 108 8 rfl (by omega)
theorem o3 (hb : b.length = 512) : P_header_of (b, (3, ())) = some (fld b 116 8, ()) := of_val12 b hb 3 116 8 rfl (by omega)
theorem o4 (hb : b.length = 512) : P_header_of (b, (4, ())) = some (fld b 124 12, ()) := of_val12 b hb 4 124 12 rfl (by omega)
theorem o5 (hb : b.length = 512) : P_header_of (b, (5, ())) = some (fld b 136 12, ()) := of_val12 b hb 5 136 12 rfl (by omega)
theorem o6 (hb : b.length = 512) : P_header_of (b, (6, ())) = some (fld b 148 8, ()) := of_val12 b hb 6 148 8 rfl (by omega)
theorem o7 (hb : b.length = 512) : P_header_of (b, (7, ())) = some (fld b 156 1, ()) := of_val12 b hb 7 156 1 rfl (by omega)
theorem o8 (hb : b.length = 512) : P_header_of (b, (8, ())) = some (fld b 157 100, ()) := of_val12 b hb 8 157 100 rfl (by omega)
theorem o9 (hb : b.length = 512) : P_header_of (b, (9, ())) = some (fld b 257 8, ()) := of_val12 b hb 9 257 8 rfl (by omega)
theorem o10 (hb : b.length = 512) : P_header_of (b, (10, ())) = some (fld b 345 155, ()) := of_val12 b hb 10 345 155 rfl (by omega)
end

def noHd : Hd := ([], (0, (0, (0, (0, (0, (0, ([], ()))))))))

theorem take_other (b : List UInt8) (hb : b.length = 512) (hm : fld b 257 8 ≠ magic) : P_header_Take (b, ()) = some (noHd, (2, ())) := by
  unfold P_header_Take
  dsimp only
  rw [eqI_true (by simp only [len]; omega), nt_true, nt_false, sel_true, o9 b hb, obind_some, obind_some, show ([117, 115, 116, 97, 114, 0, 48, 48] : List UInt8) = magic from rfl]
  dsimp only
  rw [show eqS (fld b 257 8) magic = false from decide_eq_false hm, nt_false, nt_true, sel_false, obind_some, sel_true]
  rfl

theorem take_bad (b : List UInt8) (hb : b.length = 512) {n : Int} (hn : P_header_number (fld b 148 8, ()) = some (n, ())) (hne : n ≠ (sumTo b 512 : Int)) : P_header_Take (b, ()) = some (noHd, (2, ())) := by
  by_cases hm : fld b 257 8 = magic
  · unfold P_header_Take
    dsimp only
    rw [eqI_true (by simp only [len]; omega), nt_true, nt_false, sel_true, o9 b hb, obind_some, obind_some, show ([117, 115, 116, 97, 114, 0, 48, 48] : List UInt8) = magic from rfl]
    dsimp only
    rw [hm, show eqS magic magic = true from eqS_self _, nt_true, nt_false, sel_true, o6 b hb, obind_some]
    dsimp only
    rw [hn, obind_some, sum_val12 b (by omega), obind_some]
    dsimp only
    rw [hb, eqI_false hne, nt_false, obind_some, sel_true]
    rfl
  · exact take_other b hb hm

end Go.Ge

/- What is put is taken as it was; the laws of layer 12. -/
namespace Go.Ge
set_option linter.unusedVariables false
set_option linter.unusedSimpArgs false

section
variable {h : Hd} {m u g z t : Nat} {kd : UInt8}
theorem nul_all (n : Nat) : ∀ x ∈ nul n, x = 0 := fun x hx => List.eq_of_mem_replicate hx

end
end Go.Ge

/- The laws of layer 12 in plain words. -/
namespace Go.Ge
set_option linter.unusedVariables false
set_option linter.unusedSimpArgs false

def hA : Hd := ([100, 47], (2, (493, (0, (0, (0, (1, ([], ()))))))))
def hC : Hd := ([100], (2, (0, (0, (0, (1, (0, ([], ()))))))))
/-! ### A byte changed -/
end Go.Ge

/- Entries, one behind the other, in plain words: what is written. -/
namespace Go.Ge
set_option linter.unusedVariables false
set_option linter.unusedSimpArgs false

abbrev Pt := Hd × List UInt8 × Unit
def hsize (h : Hd) : Int := h.2.2.2.2.2.1
def kdOf (h : Hd) : UInt8 := if h.2.1 = 1 then 48 else if h.2.1 = 2 then 53 else 50
def putB (h : Hd) : List UInt8 := putF h h.2.2.1.toNat h.2.2.2.1.toNat h.2.2.2.2.1.toNat h.2.2.2.2.2.1.toNat h.2.2.2.2.2.2.1.toNat (kdOf h)

def okPt (p : Pt) : Prop := okHd p.1 100 ∧ hsize p.1 = (p.2.1.length : Int)
instance (p : Pt) : Decidable (okPt p) := inferInstanceAs (Decidable (_ ∧ _))
def fillN (n : Nat) : Nat := (512 - n % 512) % 512
def body (p : Pt) : List UInt8 := putB p.1 ++ p.2.1 ++ nul (fillN p.2.1.length)
theorem fillN_lt (n : Nat) : fillN n < 512 := Nat.mod_lt _ (by decide)
theorem fill_val (n : Nat) (hn : n ≤ 1048576) : P_tar_fill ((n : Int), ()) = some ((fillN n : Int), ()) := by
  unfold P_tar_fill
  dsimp only
  rw [show eqI 512 0 = false from rfl, sel_false, sel_false]
  have e1 : irem (n : Int) 512 = ((n % 512 : Nat) : Int) := rfl
  rw [e1, isub_i64 (by omega) (by omega), show (512 : Int) - ((n % 512 : Nat) : Int) = ((512 - n % 512 : Nat) : Int) by omega]
  rfl

structure FewP (l : List Pt) (n : Nat) : Prop where
  many : l.length ≤ n
  path : ∀ p ∈ l, p.1.1.length ≤ 300
  link : ∀ p ∈ l, p.1.2.2.2.2.2.2.2.1.length ≤ 300
  data : ∀ p ∈ l, p.2.1.length ≤ 8192

end Go.Ge

/- Entries, one behind the other, in plain words: what is read; the laws. -/
namespace Go.Ge
set_option linter.unusedVariables false
set_option linter.unusedSimpArgs false

abbrev Rd := Bool × List UInt8 × Int × Bool × Bool × Unit
def zeroPt : Pt := (noHd, ([], ()))
def rd (r : List UInt8) (n : Int) : Rd := (true, (r, (n, (false, (false, ())))))
def rdEnd (n : Int) (b : Bool) : Rd := (true, ([], (n, (true, (b, ())))))

theorem next_over (r : List UInt8) (n : Int) (b : Bool) : P_tar_Reader_Next ((), ((true, (r, (n, (true, (b, ()))))), ())) = some ((zeroPt, (false, ())), ((true, (r, (n, (true, (b, ()))))), ())) := by
  unfold P_tar_Reader_Next
  dsimp only
  rfl

theorem ends_val (r : List UInt8) (n : Int) (b : Bool) : P_tar_Reader_ends ((b, ()), (rd r n, ())) = some ((zeroPt, (false, ())), (rdEnd n b, ())) := rfl

theorem next_short (r : List UInt8) (n : Int) (h : r.length < 512) : P_tar_Reader_Next ((), (rd r n, ())) = some ((zeroPt, (false, ())), (rdEnd n true, ())) := by
  have e := ends_val r n true
  unfold P_tar_Reader_Next
  dsimp only [rd] at e ⊢
  rw [nt_true, nt_false, sel_true, sel_false, ltI_true (by rw [len_eq]; omega), sel_true, e, obind_some]

theorem next_zero (r : List UInt8) (n : Int) (h : 512 ≤ r.length) (hl : r.length ≤ 1048576) (hz : ∀ x ∈ r.take 512, x = 0) :
    P_tar_Reader_Next ((), (rd r n, ())) = some ((zeroPt, (false, ())), (rdEnd n (!decide (1024 ≤ r.length ∧ r.length % 512 = 0 ∧ ∀ x ∈ r, x = 0)), ())) := by
  have e := fun b => ends_val r n b
  unfold P_tar_Reader_Next
  dsimp only [rd] at e ⊢
  have ht : (r.take 512).length = 512 := by rw [List.length_take]; omega
  rw [nt_true, nt_false, sel_true, sel_false, ltI_false (by rw [len_eq]; omega), sel_false, inside_true (by decide) (by decide) (by rw [len_eq]; omega), sel_true, show sub r 0 (minus 512 0) = r.take 512 from sub_take r 512, zero_val _ (by omega), decide_eq_true ⟨ht, hz⟩, obind_some, sel_true]
  rw [show eqI 512 0 = false from rfl, sel_false, show irem (len r) 512 = ((r.length % 512 : Nat) : Int) from rfl, show leI 1024 (len r) = decide (1024 ≤ r.length) from by unfold leI len; apply decide_eq_decide.2; omega, show eqI ((r.length % 512 : Nat) : Int) 0 = decide (r.length % 512 = 0) from by unfold eqI; apply decide_eq_decide.2; omega, trim_nul r hl]
  have hb : decide ((rtrim isNul r).dropWhile isNul = []) = decide (∀ x ∈ r, x = 0) := decide_eq_decide.2 (trim_empty r)
  by_cases a : 1024 ≤ r.length
  · by_cases b : r.length % 512 = 0
    · by_cases c : ∀ x ∈ r, x = 0
      · have c' := (trim_empty r).2 c
        rw [decide_eq_true a, sel_true, decide_eq_true b, obind_some, nt_true, nt_false, sel_true, obind_some, obind_some]
        dsimp only
        rw [eqS_true c', nt_true, e, obind_some, decide_eq_true ⟨a, b, c⟩]
        rfl
      · have c' : ¬ (rtrim isNul r).dropWhile isNul = [] := fun q => c ((trim_empty r).1 q)
        rw [decide_eq_true a, sel_true, decide_eq_true b, obind_some, nt_true, nt_false, sel_true, obind_some, obind_some]
        dsimp only
        rw [eqS_false c', nt_false, e, obind_some, decide_eq_false (fun q => c q.2.2)]
        rfl
    · rw [decide_eq_true a, sel_true, decide_eq_false b, obind_some, nt_false, nt_true, sel_false, obind_some, e, obind_some, decide_eq_false (fun q => b q.2.1)]
      rfl
  · rw [decide_eq_false a, sel_false, obind_some, nt_false, nt_true, sel_false, obind_some, e, obind_some, decide_eq_false (fun q => a q.1)]
    rfl

theorem step_more (p : Pt) (out : List Pt) (st : Rd) (ho : out.length ≤ 1000) {p1 : Pt} {ok1 : Bool} {st1 : Rd} (h : P_tar_Reader_Next ((), (st, ())) = some ((p1, (ok1, ())), (st1, ()))) :
    P_tar_Read_L0 (((), ((), (true, ()))), (p, (out, (st, ())))) = some (.inl (((), ((), (ok1, ()))), (p1, (out ++ [p], (st1, ()))))) := by
  unfold P_tar_Read_L0
  dsimp only
  rw [sel_true, fits_len2 (by simp only [List.length_cons, List.length_nil]; omega), sel_true, h, obind_some]
  rfl
theorem step_last (p : Pt) (out : List Pt) (st : Rd) : P_tar_Read_L0 (((), ((), (false, ()))), (p, (out, (st, ())))) = some (.inr (((), ((), (false, ()))), (p, (out, (st, ()))))) := rfl

theorem read_long (s : List UInt8) (h : 8192 < s.length) : P_tar_Read (s, ()) = some ([], (10, ())) := by
  unfold P_tar_Read
  dsimp only
  rw [ltI_true (by rw [len_eq]; omega), next_over, obind_some]
  dsimp only
  rw [Loop_eq, step_last]
  rfl

/-! ### awake -/
end Go.Ge

/- Diffs laid on trees: what an entry does: in plain words. -/
namespace Go.Ge
set_option linter.unusedVariables false
set_option linter.unusedSimpArgs false

def pathB (ns : List (List UInt8)) : Bool := preB ns ns.length && decide (ns ≠ [])
theorem pre_all {ns : List (List UInt8)} (hne : ns ≠ []) : preB ns ns.length = (preB ns (ns.length - 1) && mayF (dirM 0 (joinS ns))) := by
  have hk : 0 < ns.length := List.length_pos_iff.2 hne
  have e : ns.length = ns.length - 1 + 1 := by omega
  unfold preB
  conv => lhs; rw [e]
  rw [List.range_succ, List.all_append]
  have : preP ns (ns.length - 1) = joinS ns := by unfold preP; rw [List.take_of_length_le (by omega)]
  simp [this]

theorem node_path {ns : List (List UInt8)} (hne : ns ≠ []) {n : Nd} (hn : n.1 = joinS ns) : (preB ns (ns.length - 1) && mayF n) = (mayF n && pathB ns) := by
  unfold pathB
  rw [pre_all hne, decide_eq_true hne]
  cases hm : mayF n with
  | false => simp
  | true =>
    have := may_dir hm
    rw [hn] at this
    rw [this]; simp

theorem isNode_nil {n : Nd} (hn : n.1 = []) : P_overlay_isNode (n, ()) = some (false, ()) := by
  unfold P_overlay_isNode
  dsimp only
  have hsp : splitF ([] : List UInt8) = ([], []) := by decide
  rw [hn, psplit_val _ (by simp), obind_some, hsp]
  dsimp only
  rw [parts_val _ (by simp), obind_some, show parts [] = [] from rfl]
  have := isNode_loop [] ⟨fun x hx => (by cases hx), (by simp), (by simp [joinS])⟩
  rw [this, obind_some]
  rfl

theorem isDir_val {ns : List (List UInt8)} (h : ShN ns) : P_overlay_isDir (joinS ns, ()) = some (decide (ns = []) || pathB ns, ()) := by
  unfold P_overlay_isDir
  dsimp only
  by_cases hne : ns = []
  · subst hne; rfl
  · have hnn : joinS ns ≠ [] := fun e => hne ((joinS_nil h.1).1 e)
    have hs : Sm (dirM 0 (joinS ns)) := ⟨h.2.2, by simp [dirM], by simp [dirM]⟩
    have := isNode_val h hne (n := dirM 0 (joinS ns)) rfl hs
    unfold dirM at this
    rw [eqS_false hnn, nt_false, sel_true, this, obind_some, obind_some, decide_eq_false hne, Bool.false_or]
    dsimp only
    unfold pathB
    rw [pre_all hne, decide_eq_true hne, Bool.and_true]
    rfl

def nodeOf (p : Pt) (path : List UInt8) : Nd := (path, (p.1.2.1, (p.1.2.2.1, (p.2.1, (p.1.2.2.2.2.2.2.2.1, ())))))
def emptyB (p : Pt) : Bool := decide (p.1.2.1 = 1) && decide (p.2.1 = [])
def goneNs (ns : List (List UInt8)) : List (List UInt8) := ns.dropLast ++ [(markF (ns.getLastD [])).2]
def whatN (p : Pt) : Int × List (List UInt8) × Bool :=
  if cleanOk p.1.1 = true then
    let ns := names p.1.1
    if (markF (ns.getLastD [])).1 = 1 then (1, (goneNs ns, emptyB p && pathB (goneNs ns)))
    else if (markF (ns.getLastD [])).1 = 2 then (2, (ns.dropLast, emptyB p && (decide (ns.dropLast = []) || pathB ns.dropLast)))
    else if (markF (ns.getLastD [])).1 = 0 then (0, (ns, (decide (ns = []) && decide (p.1.2.1 = 2)) || (mayF (nodeOf p (joinS ns)) && pathB ns)))
    else (0, ([], false))
  else (0, ([], false))

theorem clean_sh {s : List UInt8} (h : cleanOk s = true) : ShN (names s) := by
  obtain ⟨h1, h2, h3⟩ := clean_names h
  exact ⟨fun x hx => ⟨(names_mem s x hx).1, (names_mem s x hx).2.1⟩, by omega, by omega⟩
theorem clean_last {s : List UInt8} (h : cleanOk s = true) : ((names s).getLastD []).length ≤ 96 := by
  obtain ⟨h1, h2, h3⟩ := clean_names h
  cases hn : names s with
  | nil => simp
  | cons a r =>
    have : (a :: r).getLastD [] ∈ names s := by
      rw [hn, List.getLastD_cons, ← List.getLast_eq_getLastD (h := by simp)]
      exact List.getLast_mem _
    have := joinS_mem_len (names s) _ this
    omega
theorem split_clean {ns : List (List UInt8)} (h : NmOk ns) : splitF (joinS ns) = (joinS ns.dropLast, ns.getLastD []) := by
  by_cases hne : ns = []
  · subst hne; decide
  · rw [splitF_join h hne]
    cases ns with
    | nil => exact absurd rfl hne
    | cons a r => rw [List.getLast_eq_getLastD, List.getLastD_cons]

theorem mark_one {n : List UInt8} (h : (markF n).1 = 1) : (markF n).2 = n.drop 4 ∧ n.drop 4 ≠ [] := by
  unfold markF at h ⊢
  split at h
  · rename_i hw
    rw [if_pos hw]
    split at h
    · cases h
    · rename_i h1
      rw [if_neg h1]
      split at h
      · cases h
      · rename_i h2
        rw [if_neg h2]
        exact ⟨rfl, fun e => h2 (.inr (.inl e))⟩
  · cases h
theorem mark_two {n : List UInt8} (h : (markF n).1 ≠ 0) : n ≠ [] := by
  rintro rfl
  exact h (by decide)
theorem mark_cases (n : List UInt8) : (markF n).1 = 0 ∨ (markF n).1 = 1 ∨ (markF n).1 = 2 ∨ (markF n).1 = 3 := by
  unfold markF
  split
  · split
    · exact .inr (.inr (.inl rfl))
    · split
      · exact .inr (.inr (.inr rfl))
      · exact .inr (.inl rfl)
  · exact .inl rfl

theorem joinP_le (d n : List UInt8) : (joinP d n).length ≤ d.length + n.length + 1 := by
  unfold joinP
  split <;> simp <;> omega
theorem gone_join {s : List UInt8} (h : cleanOk s = true) (hm : (markF ((names s).getLastD [])).1 = 1) : joinP (joinS (names s).dropLast) (markF ((names s).getLastD [])).2 = joinS (goneNs (names s)) ∧ ShN (goneNs (names s)) := by
  have hsh := clean_sh h
  obtain ⟨e, hne⟩ := mark_one hm
  have hlne : (names s).getLastD [] ≠ [] := mark_two (by rw [hm]; decide)
  have hnn : names s ≠ [] := fun q => hlne (by rw [q]; rfl)
  have hmem : (names s).getLastD [] ∈ names s := by
    cases hn : names s with
    | nil => exact absurd hn hnn
    | cons a r =>
      rw [List.getLastD_cons, ← List.getLast_eq_getLastD (h := by simp)]
      exact List.getLast_mem _
  have hok : NmOk (goneNs (names s)) := fun x hx => by
    unfold goneNs at hx
    rcases List.mem_append.1 hx with hx | hx
    · exact hsh.1 x (by rw [List.dropLast_eq_take] at hx; exact List.mem_of_mem_take hx)
    · rw [List.mem_singleton] at hx
      subst hx
      rw [e]
      exact ⟨fun q => (hsh.1 _ hmem).1 (List.mem_of_mem_drop q), hne⟩
  have hj : joinP (joinS (names s).dropLast) (markF ((names s).getLastD [])).2 = joinS (goneNs (names s)) := joinP_fold [_] _ hok
  refine ⟨hj, hok, ?_, ?_⟩
  · unfold goneNs
    rw [List.length_append, List.length_dropLast]
    have := hsh.2.1
    simp
    have := List.length_pos_iff.2 hnn
    omega
  · rw [← hj]
    have h1 := joinP_le (joinS (names s).dropLast) (markF ((names s).getLastD [])).2
    have h2 := clean_last h
    have h3 : (joinS (names s).dropLast).length ≤ 96 := by
      rw [List.dropLast_eq_take]
      have := joinS_take_len (names s) ((names s).length - 1)
      have := (clean_names h).2.2
      omega
    have h4 : (markF ((names s).getLastD [])).2.length ≤ 96 := by rw [e, List.length_drop]; omega
    omega
theorem drop_sh {ns : List (List UInt8)} (h : ShN ns) : ShN ns.dropLast := by
  rw [List.dropLast_eq_take]; exact h.take _

def SmP (p : Pt) : Prop := p.1.1.length ≤ 300 ∧ p.1.2.2.2.2.2.2.2.1.length ≤ 300 ∧ p.2.1.length ≤ 8192

end Go.Ge

/- Diffs laid on trees: the steps of entries: in plain words. -/
namespace Go.Ge
set_option linter.unusedVariables false
set_option linter.unusedSimpArgs false

abbrev Stp := ((List UInt8 × Unit) ⊕ ((List UInt8 × Unit) ⊕ (Unit ⊕ ((Nd × Unit) ⊕ Unit))))
def stepW (p : Pt) (w : Int × List (List UInt8) × Bool) : Stp :=
  if w.1 = 1 then .inl (joinS w.2.1, ()) else if w.1 = 2 then .inr (.inl (joinS w.2.1, ())) else if w.2.1 = [] then .inr (.inr (.inl ())) else .inr (.inr (.inr (.inl (nodeOf p (joinS w.2.1), ()))))
def stepN (p : Pt) : Stp := stepW p (whatN p)

theorem emptyB_sel (p : Pt) (A : Option Bool) : (sel (sel (eqI p.1.2.1 1) (eqS p.2.1 []) false) A (some false)) = if emptyB p = true then A else some false := by
  unfold emptyB eqI eqS
  by_cases h1 : p.1.2.1 = 1
  · by_cases h2 : p.2.1 = []
    · simp [h1, h2, sel]
    · simp [h1, h2, sel]
  · simp [h1, sel]

theorem goneNs_ne (ns : List (List UInt8)) : goneNs ns ≠ [] := by unfold goneNs; simp

theorem what_val (p : Pt) (hp : SmP p) : ∃ s, P_overlay_what (p, ()) = some (s, ((whatN p).2.2, ())) ∧ ((whatN p).2.2 = true → s = stepN p) := by
  unfold P_overlay_what
  dsimp only
  rw [clean_val p.1.1 (by have := hp.1; omega), obind_some]
  dsimp only
  unfold stepN
  cases hc : cleanOk p.1.1 with
  | false =>
    have : cleanF p.1.1 = ([], 2) := by unfold cleanF; rw [hc]; rfl
    have hw : whatN p = (0, ([], false)) := by unfold whatN; rw [hc, if_neg (by simp)]
    rw [this, hw]
    exact ⟨_, rfl, fun h => by cases h⟩
  | true =>
    have hcf : cleanF p.1.1 = (joinS (names p.1.1), 0) := by unfold cleanF; rw [hc]; rfl
    have hsh := clean_sh hc
    have h96 := (clean_names hc).2.2
    have hl96 := clean_last hc
    rw [hcf]
    dsimp only
    rw [show nt (eqI 0 0) = false from rfl, sel_false, psplit_val _ (by omega), obind_some, split_clean hsh.1]
    dsimp only
    rw [mark_val, obind_some]
    dsimp only
    rcases mark_cases ((names p.1.1).getLastD []) with hm | hm | hm | hm
    · have hw : whatN p = (0, (names p.1.1, (decide (names p.1.1 = []) && decide (p.1.2.1 = 2)) || (mayF (nodeOf p (joinS (names p.1.1))) && pathB (names p.1.1)))) := by
        unfold whatN; rw [hc, if_pos rfl]; dsimp only; rw [hm, if_neg (by decide), if_neg (by decide), if_pos rfl]
      rw [hw, hm, show eqI 0 1 = false from rfl, sel_false, show eqI 0 2 = false from rfl, sel_false, show eqI 0 3 = false from rfl, sel_false]
      unfold stepW
      dsimp only
      rw [if_neg (by decide), if_neg (by decide)]
      have hmt := joinS_nil hsh.1
      by_cases hns : names p.1.1 = []
      · have hj : joinS (names p.1.1) = [] := hmt.2 hns
        rw [decide_eq_true hns, eqS_true hj, sel_true, if_pos hns]
        by_cases hk : p.1.2.1 = 2
        · rw [eqI_true hk, decide_eq_true hk, sel_true]
          exact ⟨_, rfl, fun _ => rfl⟩
        · rw [eqI_false hk, decide_eq_false hk, sel_false]
          have := isNode_nil (n := nodeOf p (joinS (names p.1.1))) hj
          rw [show P_overlay_isNode ((joinS (names p.1.1), (p.1.2.1, (p.1.2.2.1, (p.2.1, (p.1.2.2.2.2.2.2.2.1, ()))))), ()) = _ from this, obind_some]
          have hpb : pathB (names p.1.1) = false := by unfold pathB; rw [hns]; rfl
          rw [hpb]
          simp only [Bool.and_false, Bool.or_false]
          exact ⟨_, rfl, fun h => by cases h⟩
      · have hj : joinS (names p.1.1) ≠ [] := fun e => hns (hmt.1 e)
        rw [decide_eq_false hns, eqS_false hj, sel_false, sel_false, if_neg hns]
        have hs : Sm (nodeOf p (joinS (names p.1.1))) := ⟨by show (joinS (names p.1.1)).length ≤ 200; omega, hp.2.1, hp.2.2⟩
        have := isNode_val hsh hns (n := nodeOf p (joinS (names p.1.1))) rfl hs
        rw [node_path hns rfl] at this
        rw [show P_overlay_isNode ((joinS (names p.1.1), (p.1.2.1, (p.1.2.2.1, (p.2.1, (p.1.2.2.2.2.2.2.2.1, ()))))), ()) = _ from this, obind_some]
        simp only [Bool.false_and, Bool.false_or]
        exact ⟨_, rfl, fun _ => rfl⟩
    · obtain ⟨g1, g2⟩ := gone_join hc hm
      have hw : whatN p = (1, (goneNs (names p.1.1), emptyB p && pathB (goneNs (names p.1.1)))) := by
        unfold whatN; rw [hc, if_pos rfl]; dsimp only; rw [hm, if_pos rfl]
      rw [hw, hm, show eqI 1 1 = true from rfl, sel_true, pjoin_val _ _ (by have := (drop_sh hsh).2.2; omega) (by rw [(mark_one hm).1, List.length_drop]; omega), obind_some, g1]
      dsimp only
      rw [isDir_val g2, obind_some, emptyB_sel, decide_eq_false (goneNs_ne _), Bool.false_or]
      refine ⟨.inl (joinS (goneNs (names p.1.1)), ()), ?_, fun _ => rfl⟩
      cases emptyB p <;> rfl
    · have hd := drop_sh hsh
      have hw : whatN p = (2, ((names p.1.1).dropLast, emptyB p && (decide ((names p.1.1).dropLast = []) || pathB (names p.1.1).dropLast))) := by
        unfold whatN; rw [hc, if_pos rfl]; dsimp only; rw [hm, if_neg (by decide), if_pos rfl]
      rw [hw, hm, show eqI 2 1 = false from rfl, sel_false, show eqI 2 2 = true from rfl, sel_true]
      rw [isDir_val hd, obind_some, emptyB_sel]
      refine ⟨.inr (.inl (joinS (names p.1.1).dropLast, ())), ?_, fun _ => rfl⟩
      cases emptyB p <;> rfl
    · have hw : whatN p = (0, ([], false)) := by
        unfold whatN; rw [hc, if_pos rfl]; dsimp only; rw [hm, if_neg (by decide), if_neg (by decide), if_neg (by decide)]
      rw [hw, hm, show eqI 3 1 = false from rfl, sel_false, show eqI 3 2 = false from rfl, sel_false, show eqI 3 3 = true from rfl, sel_true]
      exact ⟨_, rfl, fun h => by cases h⟩

def allOk (l : List Pt) : Bool := l.all fun p => (whatN p).2.2
def SmPs (l : List Pt) : Prop := l.length ≤ 10000 ∧ ∀ p ∈ l, SmP p

theorem all_of {l : List Pt} : (∀ (i : Nat) (x : Pt), l[i]? = some x → (!(whatN x).2.2) = false) → allOk l = true := fun h => by
  unfold allOk
  rw [List.all_eq_true]
  intro x hx
  obtain ⟨i, hi⟩ := mem_at.1 hx
  have := h i x hi
  simpa using this
theorem all_not {l : List Pt} {i : Nat} {x : Pt} (hx : l[i]? = some x) (h : (!(whatN x).2.2) = true) : allOk l = false := by
  unfold allOk
  rw [List.all_eq_false]
  exact ⟨x, List.mem_of_getElem? hx, by simpa using h⟩

theorem steps_val (l : List Pt) (hl : SmPs l) : P_overlay_steps (l, ()) = some (if allOk l = true then (l.map stepN, (true, ())) else ([], (false, ()))) := by
  unfold P_overlay_steps
  have h1 := hl.1
  rcases srch (f := P_overlay_steps_L0 (l, ())) l (fun i => ((([] : List Stp), (false, ((), (i, ())))), ((l.take i.toNat).map stepN, ()))) (fun _ x => !(whatN x).2.2) (fun i _ => (1, ((([] : List Stp), (false, ((), ((i : Int), ())))), ((l.take i).map stepN, ())))) (0, ((([] : List Stp), (false, ((), ((l.length : Int), ())))), (l.map stepN, ()))) (by omega) (fun i x hx hi hadd => by
      obtain ⟨s, e1, e2⟩ := what_val x (hl.2 x (List.mem_of_getElem? hx))
      unfold P_overlay_steps_L0
      dsimp only
      rw [ltI_len_true hi, sel_true, idx_some' hx, obind_some, e1, obind_some, hadd]
      dsimp only
      rw [Int.toNat_natCast, Int.toNat_natCast]
      have hlen : ((l.take i).map stepN).length ≤ 10000 := by rw [List.length_map, List.length_take]; omega
      cases hw : (whatN x).2.2 with
      | false => rfl
      | true =>
        rw [nt_true, sel_false, fits_len2 (by simp only [List.length_cons, List.length_nil]; omega), sel_true, e2 hw]
        have : (l.take (i + 1)).map stepN = (l.take i).map stepN ++ [stepN x] := by rw [List.take_add_one, hx, List.map_append]; rfl
        rw [this]; rfl) (by
      unfold P_overlay_steps_L0
      dsimp only
      rw [ltI_len_end, sel_false, Int.toNat_natCast, List.take_length]) with ⟨i, x, hx, hp, _, h⟩ | ⟨hn, h⟩
  · rw [show Loop (P_overlay_steps_L0 (l, ())) ((([] : List Stp), (false, ((), ((0 : Int), ())))), (([] : List Stp), ())) = _ from h, obind_some, all_not hx hp]
    rfl
  · rw [show Loop (P_overlay_steps_L0 (l, ())) ((([] : List Stp), (false, ((), ((0 : Int), ())))), (([] : List Stp), ())) = _ from h, obind_some, all_of hn]
    rfl

end Go.Ge

/- The law TreeIs: in plain words. -/
namespace Go.Ge
set_option linter.unusedVariables false
set_option linter.unusedSimpArgs false

/-! ### What goes -/
theorem gone_take {l : List Nd} {g : Nd → Bool} {i : Nat} {x : Nd} (hx : l[i]? = some x) (hg : g x = true) (hb : ∀ (j : Nat) y, j < i → l[j]? = some y → g y = false) : l.take i = (l.take (i + 1)).filter (fun x => !g x) := by
  rw [List.take_add_one, hx, List.filter_append]
  have h1 : (l.take i).filter (fun x => !g x) = l.take i := List.filter_eq_self.2 fun y hy => by
    obtain ⟨j, hj⟩ := mem_at.1 hy
    rw [List.getElem?_take] at hj
    split at hj
    · rw [hb j y (by omega) hj]; rfl
    · cases hj
  rw [h1]
  simp [hg]

theorem rem_loop0 (l : List Nd) (p : List UInt8) (hl : SmL l) (hp : p.length ≤ 4096) : (∃ i x, l[i]? = some x ∧ gone p x = true ∧ (∀ (j : Nat) y, j < i → l[j]? = some y → gone p y = false) ∧ Loop (P_tree_Remove_L0 (l, (p, ()))) ((0, (0, ())), ((), (p, ()))) = some (1, (((i : Int), ((i : Int), ())), ((), (p, ()))))) ∨
    ((∀ (i : Nat) x, l[i]? = some x → gone p x = false) ∧ Loop (P_tree_Remove_L0 (l, (p, ()))) ((0, (0, ())), ((), (p, ()))) = some (0, ((0, ((l.length : Int), ())), ((), (p, ()))))) :=
  srch (f := P_tree_Remove_L0 (l, (p, ()))) l (fun i => ((0, (i, ())), ((), (p, ())))) (fun _ x => gone p x) (fun i x => (1, (((i : Int), ((i : Int), ())), ((), (p, ()))))) (0, ((0, ((l.length : Int), ())), ((), (p, ())))) (by have := hl.1; omega) (fun i x hx hi ha => by
      unfold P_tree_Remove_L0
      dsimp only
      rw [ltI_len_true hi, sel_true, within_true (by omega) (by unfold len; omega), sel_true, idx_some' hx, obind_some, under_val _ _ (by have := (hl.at hx).1; omega) hp, obind_some, eqS_iff, ha]
      unfold gone
      cases decide (x.1 = p) <;> cases underL (parts x.1) (parts p) <;> rfl) (by unfold P_tree_Remove_L0; dsimp only; rw [ltI_len_end, sel_false])

theorem rem_loop2 (l : List Nd) (p : List UInt8) (hl : SmL l) (hp : p.length ≤ 4096) (i : Nat) (x : Nd) (hx : l[i]? = some x) (hg : gone p x = true) (hb : ∀ (j : Nat) y, j < i → l[j]? = some y → gone p y = false) :
    ∃ (w : Nat) (L : List Nd), Loop (P_tree_Remove_L2) (((i : Int), (iadd IntKind.i64 (i : Int) 1, ((), ()))), ((), (p, (l, ())))) = some (((w : Int), ((l.length : Int), ((), ()))), ((), (p, (L, ())))) ∧ L.length = l.length ∧ w ≤ l.length ∧ L.take w = restF l p := by
  have hi := getElem?_lt hx
  have h4 := hl.1
  obtain ⟨w, L, h1, h2, h3, h5⟩ := del_loop (f := P_tree_Remove_L2) l (gone p) (fun w j L => ((w, (j, ((), ()))), ((), (p, (L, ()))))) (fun w L => ((w, ((L.length : Int), ((), ()))), ((), (p, (L, ()))))) (by omega) (fun w j L x hx hxL hw hj ha hb => by
      unfold P_tree_Remove_L2
      dsimp only
      have hwL : w < L.length := by omega
      obtain ⟨z, hz⟩ : ∃ z, L[w]? = some z := ⟨_, List.getElem?_eq_getElem hwL⟩
      have hgv : sel (nt (eqS x.1 p)) (obind (P_paths_Under (x.1, (p, ()))) (fun (y : Bool × Unit) => some y.1)) (some true) = some (gone p x) := by
        rw [under_val _ _ (by have := (hl.at hx).1; omega) hp, obind_some, eqS_iff]
        unfold gone
        cases decide (x.1 = p) <;> rfl
      rw [ltI_len_true hj, sel_true, within_true (by omega) (by unfold len; omega), sel_true, idx_some' hxL, obind_some, hgv, obind_some, hb]
      cases gone p x with
      | true => rfl
      | false =>
        rw [nt_false, sel_true, within_true (by omega) (by unfold len; omega), sel_true, idx_some' hz, obind_some, obind_some, obind_some, obind_some, ha, lset_nat]
        rfl) (fun w L => by
      unfold P_tree_Remove_L2
      dsimp only
      rw [ltI_len_end, sel_false]
      rfl) l.length i (i + 1) l (by omega) (by omega) (by omega) rfl (gone_take hx hg hb) rfl
  refine ⟨w, L, ?_, h2, h3, h5⟩
  rw [iadd_one (by omega), h1, h2]

theorem remove_val (l : List Nd) (p : List UInt8) (hl : SmL l) (hp : p.length ≤ 4096) (hv : Valid l) : P_tree_Remove (l, (p, ())) = some (restF l p, ()) := by
  obtain ⟨e, c1, c2⟩ := check_val' l hl
  obtain rfl := c2.2 hv
  unfold P_tree_Remove
  dsimp only
  rw [c1, obind_some]
  dsimp only
  rw [show nt (eqI 0 0) = false by rfl, sel_false, fits_len (by have := hl.1; omega), sel_true]
  rcases rem_loop0 l p hl hp with ⟨i, x, hx, hg, hb, h⟩ | ⟨hb, h⟩
  · obtain ⟨w, L, w1, w2, w3, w4⟩ := rem_loop2 l p hl hp i x hx hg hb
    rw [h, obind_some]
    dsimp only
    rw [eqN_one, sel_false, show eqI (i : Int) (-1) = false by unfold eqI; exact decide_eq_false (by omega), sel_false, w1, obind_some]
    dsimp only
    rw [inside_true (by omega) (by unfold len; omega) (Int.le_refl _), sel_true, len_over L w (by omega), inside_true (Int.le_refl _) (by omega) (by omega), sel_true, sub_over L w (by omega), w4]
  · have hr : restF l p = l := List.filter_eq_self.2 fun x hx => by
      obtain ⟨j, hj⟩ := mem_at.1 hx
      rw [hb j x hj]; rfl
    rw [h, obind_some, hr]
    dsimp only
    rw [eqN_zero, sel_true, show eqI (-1) (-1) = true by rfl, sel_true]

/-! ### What lies under -/
def undF (p : List UInt8) (x : Nd) : Bool := underL (parts x.1) (parts p)

theorem emp_loop0 (l : List Nd) (p : List UInt8) (hl : SmL l) (hp : p.length ≤ 4096) : (∃ i x, l[i]? = some x ∧ undF p x = true ∧ (∀ (j : Nat) y, j < i → l[j]? = some y → undF p y = false) ∧ Loop (P_tree_Empty_L0 (l, (p, ()))) ((0, (0, ())), ((), (p, ()))) = some (1, (((i : Int), ((i : Int), ())), ((), (p, ()))))) ∨
    ((∀ (i : Nat) x, l[i]? = some x → undF p x = false) ∧ Loop (P_tree_Empty_L0 (l, (p, ()))) ((0, (0, ())), ((), (p, ()))) = some (0, ((0, ((l.length : Int), ())), ((), (p, ()))))) :=
  srch (f := P_tree_Empty_L0 (l, (p, ()))) l (fun i => ((0, (i, ())), ((), (p, ())))) (fun _ x => undF p x) (fun i x => (1, (((i : Int), ((i : Int), ())), ((), (p, ()))))) (0, ((0, ((l.length : Int), ())), ((), (p, ())))) (by have := hl.1; omega) (fun i x hx hi ha => by
      unfold P_tree_Empty_L0
      dsimp only
      rw [ltI_len_true hi, sel_true, within_true (by omega) (by unfold len; omega), sel_true, idx_some' hx, obind_some, under_val _ _ (by have := (hl.at hx).1; omega) hp, obind_some, ha]
      unfold undF
      cases underL (parts x.1) (parts p) <;> rfl) (by unfold P_tree_Empty_L0; dsimp only; rw [ltI_len_end, sel_false])

theorem emp_loop2 (l : List Nd) (p : List UInt8) (hl : SmL l) (hp : p.length ≤ 4096) (i : Nat) (x : Nd) (hx : l[i]? = some x) (hg : undF p x = true) (hb : ∀ (j : Nat) y, j < i → l[j]? = some y → undF p y = false) :
    ∃ (w : Nat) (L : List Nd), Loop (P_tree_Empty_L2) (((i : Int), (iadd IntKind.i64 (i : Int) 1, ((), ()))), ((), (p, (l, ())))) = some (((w : Int), ((l.length : Int), ((), ()))), ((), (p, (L, ())))) ∧ L.length = l.length ∧ w ≤ l.length ∧ L.take w = l.filter (fun x => !undF p x) := by
  have hi := getElem?_lt hx
  have h4 := hl.1
  obtain ⟨w, L, h1, h2, h3, h5⟩ := del_loop (f := P_tree_Empty_L2) l (undF p) (fun w j L => ((w, (j, ((), ()))), ((), (p, (L, ()))))) (fun w L => ((w, ((L.length : Int), ((), ()))), ((), (p, (L, ()))))) (by omega) (fun w j L x hx hxL hw hj ha hb => by
      unfold P_tree_Empty_L2
      dsimp only
      have hwL : w < L.length := by omega
      obtain ⟨z, hz⟩ : ∃ z, L[w]? = some z := ⟨_, List.getElem?_eq_getElem hwL⟩
      rw [ltI_len_true hj, sel_true, within_true (by omega) (by unfold len; omega), sel_true, idx_some' hxL, obind_some, under_val _ _ (by have := (hl.at hx).1; omega) hp, obind_some, hb]
      unfold undF
      cases underL (parts x.1) (parts p) with
      | true => rfl
      | false =>
        rw [nt_false, sel_true, within_true (by omega) (by unfold len; omega), sel_true, idx_some' hz, obind_some, obind_some, obind_some, obind_some, ha, lset_nat]
        rfl) (fun w L => by
      unfold P_tree_Empty_L2
      dsimp only
      rw [ltI_len_end, sel_false]
      rfl) l.length i (i + 1) l (by omega) (by omega) (by omega) rfl (gone_take hx hg hb) rfl
  refine ⟨w, L, ?_, h2, h3, h5⟩
  rw [iadd_one (by omega), h1, h2]

theorem withoutF_false (l : List Nd) (p : List UInt8) : withoutF l p false = l.filter (fun x => !undF p x) := by
  unfold withoutF undF
  congr 1
  funext x
  cases underL (parts x.1) (parts p) <;> rfl

theorem empty_val (l : List Nd) (p : List UInt8) (hl : SmL l) (hp : p.length ≤ 4096) (hv : Valid l) : P_tree_Empty (l, (p, ())) = some (withoutF l p false, ()) := by
  obtain ⟨e, c1, c2⟩ := check_val' l hl
  obtain rfl := c2.2 hv
  rw [withoutF_false]
  unfold P_tree_Empty
  dsimp only
  rw [c1, obind_some]
  dsimp only
  rw [show nt (eqI 0 0) = false by rfl, sel_false, fits_len (by have := hl.1; omega), sel_true]
  rcases emp_loop0 l p hl hp with ⟨i, x, hx, hg, hb, h⟩ | ⟨hb, h⟩
  · obtain ⟨w, L, w1, w2, w3, w4⟩ := emp_loop2 l p hl hp i x hx hg hb
    rw [h, obind_some]
    dsimp only
    rw [eqN_one, sel_false, show eqI (i : Int) (-1) = false by unfold eqI; exact decide_eq_false (by omega), sel_false, w1, obind_some]
    dsimp only
    rw [inside_true (by omega) (by unfold len; omega) (Int.le_refl _), sel_true, len_over L w (by omega), inside_true (Int.le_refl _) (by omega) (by omega), sel_true, sub_over L w (by omega), w4]
  · have hr : l.filter (fun x => !undF p x) = l := List.filter_eq_self.2 fun x hx => by
      obtain ⟨j, hj⟩ := mem_at.1 hx
      rw [hb j x hj]; rfl
    rw [h, obind_some, hr]
    dsimp only
    rw [eqN_zero, sel_true, show eqI (-1) (-1) = true by rfl, sel_true]

/-! ### The reference's text -/
/-! ### The reference's nodes and lists -/
end Go.Ge

/- Diffs laid on trees: what goes first, then what is put: in plain words. -/
namespace Go.Ge
set_option linter.unusedVariables false
set_option linter.unusedSimpArgs false

theorem may_bounds {n : Nd} (h : mayF n = true) : n.1.length ≤ 92 ∧ n.2.2.2.2.1.length ≤ 100 ∧ n.2.2.2.1.length ≤ 8192 := by
  unfold mayF at h
  simp only [Bool.and_eq_true] at h
  have hp := h.1.1.1
  have hk := h.2
  unfold okPath at hp
  simp only [Bool.and_eq_true, decide_eq_true_eq] at hp
  refine ⟨hp.1.1.2, ?_⟩
  unfold kindF at hk
  split at hk
  · have := of_decide_eq_true hk
    exact ⟨by rw [this.1]; simp, this.2⟩
  · split at hk
    · have := of_decide_eq_true hk
      exact ⟨by rw [this.1]; simp, by rw [this.2]; simp⟩
    · split at hk
      · have := of_decide_eq_true hk
        exact ⟨this.2.2.1, by rw [this.1]; simp⟩
      · cases hk
theorem valid_sm {l : List Nd} (h : Valid l) : SmL l := ⟨by have := h.few; omega, fun x hx => by
  have := may_bounds (h.may x hx)
  exact ⟨by omega, by omega, by omega⟩⟩

theorem restF_valid {l : List Nd} (h : Valid l) (p : List UInt8) : Valid (restF l p) := by
  refine ⟨Nat.le_trans (List.length_filter_le _ _) h.few, h.ord.filter _, fun x hx => h.may x (List.mem_filter.1 hx).1, fun x hx => ?_⟩
  obtain ⟨hx1, hx2⟩ := List.mem_filter.1 hx
  by_cases hu : (splitF x.1).1 = []
  · exact .inl hu
  · rcases h.up x hx1 with h0 | ⟨y, hy, e, k⟩
    · exact absurd h0 hu
    · refine .inr ⟨y, List.mem_filter.2 ⟨hy, ?_⟩, e, k⟩
      cases hg : gone p y with
      | false => rfl
      | true =>
        have : gone p x = true := by
          unfold gone at hg ⊢
          rw [Bool.or_eq_true] at hg ⊢
          rcases hg with hg | hg
          · right
            rw [← of_decide_eq_true hg, e]
            exact under_self hu
          · exact .inr (under_up hu e hg)
        rw [this] at hx2; cases hx2
theorem withoutF_valid {l : List Nd} (h : Valid l) (p : List UInt8) : Valid (withoutF l p false) := by
  refine ⟨Nat.le_trans (List.length_filter_le _ _) h.few, h.ord.filter _, fun x hx => h.may x (List.mem_filter.1 hx).1, fun x hx => ?_⟩
  obtain ⟨hx1, hx2⟩ := List.mem_filter.1 hx
  by_cases hu : (splitF x.1).1 = []
  · exact .inl hu
  · rcases h.up x hx1 with h0 | ⟨y, hy, e, k⟩
    · exact absurd h0 hu
    · refine .inr ⟨y, List.mem_filter.2 ⟨hy, ?_⟩, e, k⟩
      cases hg : underL (parts y.1) (parts p) with
      | false => rfl
      | true =>
        rw [under_up hu e hg] at hx2; cases hx2
theorem whatN_sh (p : Pt) : ShN (whatN p).2.1 := by
  have hnil : ShN [] := ⟨fun x hx => (by cases hx), (by simp), (by simp [joinS])⟩
  unfold whatN
  split
  · rename_i hc
    dsimp only
    split
    · rename_i hm; exact (gone_join hc hm).2
    · split
      · exact drop_sh (clean_sh hc)
      · split
        · exact clean_sh hc
        · exact hnil
  · exact hnil

def clrT (t : List Nd) (p : Pt) : List Nd := if (whatN p).1 = 1 then restF t (joinS (whatN p).2.1) else if (whatN p).1 = 2 then withoutF t (joinS (whatN p).2.1) false else t
theorem clrT_valid {t : List Nd} (h : Valid t) (p : Pt) : Valid (clrT t p) := by
  unfold clrT
  split
  · exact restF_valid h _
  · split
    · exact withoutF_valid h _
    · exact h

theorem invClears_val {t : List Nd} (h : Valid t) (p : Pt) : P_inv_clears (stepN p, (t, ())) = some (clrT t p, ()) := by
  have hsh := whatN_sh p
  have hs := valid_sm h
  unfold P_inv_clears stepN stepW clrT
  dsimp only
  by_cases h1 : (whatN p).1 = 1
  · rw [if_pos h1, if_pos h1]
    show P_overlay_gone_clears _ = _
    unfold P_overlay_gone_clears
    dsimp only
    rw [remove_val t _ hs (by have := hsh.2.2; omega) h, obind_some]
  · rw [if_neg h1, if_neg h1]
    by_cases h2 : (whatN p).1 = 2
    · rw [if_pos h2, if_pos h2]
      show P_overlay_opaque_clears _ = _
      unfold P_overlay_opaque_clears
      dsimp only
      rw [empty_val t _ hs (by have := hsh.2.2; omega) h, obind_some]
    · rw [if_neg h2, if_neg h2]
      by_cases h3 : (whatN p).2.1 = []
      · rw [if_pos h3]; rfl
      · rw [if_neg h3]; rfl

theorem take_fold {α β : Type} (f : β → α → β) (l : List α) (b : β) {i : Nat} {x : α} (hx : l[i]? = some x) : (l.take (i + 1)).foldl f b = f ((l.take i).foldl f b) x := by
  rw [List.take_add_one, hx, List.foldl_append]; rfl

theorem clears_val (l : List Pt) (ok : Bool) (t0 : List Nd) (ht : Valid t0) (hl : l.length ≤ 10000) : Loop (P_overlay_Lay_L0 (l.map stepN, (ok, ()))) ((t0, ((0 : Int), ())), ()) = some ((l.foldl clrT t0, ((l.length : Int), ())), ()) ∧ Valid (l.foldl clrT t0) := by
  obtain ⟨t, h0, h1, _⟩ := fold_loop (f := P_overlay_Lay_L0 (l.map stepN, (ok, ()))) l (fun (t : List Nd) i => ((t, (i, ())), ())) (fun t _ x => clrT t x) (fun t => ((t, ((l.length : Int), ())), ())) (fun t i => t = (l.take i).foldl clrT t0 ∧ Valid t) (by omega) (fun t i x hx hi hadd hI => by
    have hy : (l.map stepN)[i]? = some (stepN x) := by rw [List.getElem?_map, hx]; rfl
    constructor
    · unfold P_overlay_Lay_L0
      dsimp only
      rw [ltI_len_true (show i < (l.map stepN).length by rw [List.length_map]; exact hi), sel_true, idx_some' hy, obind_some, hadd]
      rw [show P_inv_clears (stepN x, (t, ())) = _ from invClears_val hI.2 x, obind_some]
      rfl
    · exact ⟨by rw [take_fold clrT l t0 hx, ← hI.1], clrT_valid hI.2 x⟩) (fun t _ => by
    unfold P_overlay_Lay_L0
    dsimp only
    rw [show ltI (l.length : Int) (len (l.map stepN)) = false by rw [← List.length_map (f := stepN)]; exact ltI_len_end, sel_false]
    rfl) t0 ⟨rfl, ht⟩
  rw [List.take_length] at h0
  rw [← h0.1]
  exact ⟨h1, h0.2⟩

end Go.Ge

/- Diffs laid on trees: what is put: in plain words. -/
namespace Go.Ge
set_option linter.unusedVariables false
set_option linter.unusedSimpArgs false

theorem putF_valid {t : List Nd} {n : Nd} (h : (t14_putF t n).2 = 0) : Valid (t14_putF t n).1 := by
  rcases putF_cases t n with ⟨_, h2⟩ | ⟨h1, h2, h3, r, h4, h5, h6⟩
  · exact absurd h h2
  · rw [h6]; exact put_valid h1 h2 h3 h4 h5

noncomputable def dirsF : List (List UInt8) → List UInt8 → List Nd → List Nd × Int
  | [], _, t => (t, 0)
  | nm :: r, at', t =>
    if (findF t (joinP at' nm)).2.1 = true ∧ (findF t (joinP at' nm)).1.2.1 = 2 then dirsF r (joinP at' nm) t
    else if (t14_putF t (dirM 493 (joinP at' nm))).2 = 0 then dirsF r (joinP at' nm) (t14_putF t (dirM 493 (joinP at' nm))).1
    else ([], (t14_putF t (dirM 493 (joinP at' nm))).2)

theorem dirsF_valid : ∀ (r : List (List UInt8)) (a : List UInt8) (t : List Nd), Valid t → (dirsF r a t).2 = 0 → Valid (dirsF r a t).1 := by
  intro r
  induction r with
  | nil => intro a t h _; exact h
  | cons nm r ih =>
    intro a t h h2
    unfold dirsF at h2 ⊢
    split at h2
    · rename_i hc; rw [if_pos hc]; exact ih _ _ h h2
    · rename_i hc
      rw [if_neg hc]
      split at h2
      · rename_i hp; rw [if_pos hp]; exact ih _ _ (putF_valid hp) h2
      · rename_i hp; exact absurd h2 hp

abbrev DS := ((List Nd × (List Nd × (Int × (List UInt8 × (Int × Unit))))) × Unit)

theorem dirs_run {f : DS → Option (DS ⊕ (Nat × DS))} (ns : List (List UInt8)) (h : ShN ns) (n : Nat) (hn : n ≤ ns.length)
    (hstep : ∀ (i : Nat) (x : List UInt8) (t : List Nd), i < n → ns[i]? = some x → Valid t →
      f ((t, ([], ((0 : Int), (joinS (ns.take i), ((i : Int), ()))))), ()) =
        some (if (findF t (preP ns i)).2.1 = true ∧ (findF t (preP ns i)).1.2.1 = 2 then .inl ((t, ([], ((0 : Int), (preP ns i, (((i + 1 : Nat) : Int), ()))))), ())
          else if (t14_putF t (dirM 493 (preP ns i))).2 = 0 then .inl (((t14_putF t (dirM 493 (preP ns i))).1, ([], ((0 : Int), (preP ns i, (((i + 1 : Nat) : Int), ()))))), ())
          else .inr (1, ((t, ([], ((t14_putF t (dirM 493 (preP ns i))).2, (preP ns i, ((i : Int), ()))))), ()))))
    (hend : ∀ (t : List Nd) (a : List UInt8), f ((t, ([], ((0 : Int), (a, ((n : Int), ()))))), ()) = some (.inr (0, ((t, ([], ((0 : Int), (a, ((n : Int), ()))))), ())))) :
    ∀ (d i : Nat) (t : List Nd), i + d = n → Valid t → ∃ z, Loop f ((t, ([], ((0 : Int), (joinS (ns.take i), ((i : Int), ()))))), ()) = some z ∧
      (((dirsF ((ns.take n).drop i) (joinS (ns.take i)) t).2 = 0 ∧ z.1 = 0 ∧ z.2.1.1 = (dirsF ((ns.take n).drop i) (joinS (ns.take i)) t).1) ∨
       ((dirsF ((ns.take n).drop i) (joinS (ns.take i)) t).2 ≠ 0 ∧ z.1 = 1 ∧ z.2.1.2.1 = [] ∧ z.2.1.2.2.1 = (dirsF ((ns.take n).drop i) (joinS (ns.take i)) t).2)) := by
  intro d
  induction d with
  | zero =>
    intro i t hi hv
    obtain rfl : i = n := by omega
    refine ⟨_, by rw [Loop_eq, hend]; rfl, .inl ?_⟩
    rw [List.drop_of_length_le (by rw [List.length_take]; omega)]
    exact ⟨rfl, rfl, rfl⟩
  | succ d ih =>
    intro i t hi hv
    have hx : ns[i]? = some ns[i] := List.getElem?_eq_getElem (by omega)
    have hs := hstep i ns[i] t (by omega) hx hv
    have hdrop : (ns.take n).drop i = ns[i] :: (ns.take n).drop (i + 1) := by
      rw [List.drop_eq_getElem_cons (by rw [List.length_take]; omega), List.getElem_take]
    have hj := joinP_take h.1 hx
    rw [hdrop]
    unfold dirsF
    rw [hj]
    have hn1 : preP ns i = joinS (ns.take (i + 1)) := rfl
    split
    · rename_i hc
      rw [if_pos hc] at hs
      obtain ⟨z, z1, z2⟩ := ih (i + 1) t (by omega) hv
      refine ⟨z, ?_, by rw [hn1]; exact z2⟩
      rw [Loop_eq, hs]
      exact z1
    · rename_i hc
      rw [if_neg hc] at hs
      split
      · rename_i hp
        rw [if_pos hp] at hs
        obtain ⟨z, z1, z2⟩ := ih (i + 1) _ (by omega) (putF_valid hp)
        refine ⟨z, ?_, by rw [hn1]; exact z2⟩
        rw [Loop_eq, hs]
        exact z1
      · rename_i hp
        rw [if_neg hp] at hs
        refine ⟨_, by rw [Loop_eq, hs]; rfl, .inr ⟨hp, rfl, rfl, rfl⟩⟩

theorem dir_sm (m : Int) {ns : List (List UInt8)} (h : ShN ns) (i : Nat) : Sm (dirM m (preP ns i)) := ⟨h.pre_len (i + 1), by simp [dirM], by simp [dirM]⟩

noncomputable def nodeF (ns : List (List UInt8)) (t : List Nd) (n : Nd) : List Nd × Int := if (dirsF ns.dropLast [] t).2 = 0 then t14_putF (dirsF ns.dropLast [] t).1 n else ([], (dirsF ns.dropLast [] t).2)

theorem nodePuts_val {ns : List (List UInt8)} (h : ShN ns) {n : Nd} (hn : n.1 = joinS ns) (hs : Sm n) {t : List Nd} (hv : Valid t) : P_overlay_node_puts ((n, ()), (t, ())) = some ((nodeF ns t n).1, ((nodeF ns t n).2, ())) := by
  have hd : ShN ns.dropLast := drop_sh h
  unfold P_overlay_node_puts
  dsimp only
  rw [hn, psplit_val _ (by have := h.2.2; omega), obind_some, split_clean h.1]
  dsimp only
  rw [parts_val _ (by have := hd.2.2; omega), obind_some, parts_joinS _ hd.1]
  obtain ⟨z, z1, z2⟩ := dirs_run (f := P_overlay_node_puts_L0 (ns.dropLast, ())) ns.dropLast hd ns.dropLast.length (Nat.le_refl _) (fun i x u hi hx hu => by
      have hus := valid_sm hu
      have hxl := hd.mem_len (List.mem_of_getElem? hx)
      have hpl := hd.pre_len i
      have hpl1 := hd.pre_len (i + 1)
      have h16 := hd.2.1
      unfold P_overlay_node_puts_L0
      dsimp only
      rw [ltI_len_true hi, sel_true, idx_some' hx, obind_some, pjoin_val _ _ (by omega) (by omega), obind_some, joinP_take hd.1 hx]
      dsimp only
      rw [tfind_val u _ hus (by unfold preP; omega) hu, obind_some, iadd_one (by omega)]
      have hp := t14_put_val u (dirM 493 (preP ns.dropLast i)) hus (dir_sm 493 hd i)
      rw [show P_tree_Put (u, ((preP ns.dropLast i, ((2 : Int), ((493 : Int), (([] : List UInt8), (([] : List UInt8), ()))))), ())) = _ from hp, obind_some]
      dsimp only
      by_cases hf : (findF u (preP ns.dropLast i)).2.1 = true
      · by_cases hk : (findF u (preP ns.dropLast i)).1.2.1 = 2
        · rw [hf, eqI_true hk, if_pos ⟨rfl, hk⟩]; rfl
        · rw [hf, eqI_false hk, if_neg (fun q => hk q.2)]
          by_cases he : (t14_putF u (dirM 493 (preP ns.dropLast i))).2 = 0
          · rw [eqI_true he, if_pos he]; rfl
          · rw [eqI_false he, if_neg he]; rfl
      · rw [show (findF u (preP ns.dropLast i)).2.1 = false by simpa using hf, if_neg (fun q => by cases q.1)]
        by_cases he : (t14_putF u (dirM 493 (preP ns.dropLast i))).2 = 0
        · rw [eqI_true he, if_pos he]; rfl
        · rw [eqI_false he, if_neg he]; rfl) (fun u a => by
      unfold P_overlay_node_puts_L0
      dsimp only
      rw [ltI_len_end, sel_false]) ns.dropLast.length 0 t (by omega) hv
  rw [List.take_length, List.drop_zero] at z2
  rw [show Loop (P_overlay_node_puts_L0 (ns.dropLast, ())) ((t, (([] : List Nd), ((0 : Int), (([] : List UInt8), ((0 : Int), ()))))), ()) = _ from z1, obind_some]
  have ht0 : joinS (ns.dropLast.take 0) = [] := by simp [joinS]
  rw [ht0] at z2
  unfold nodeF
  rcases z2 with ⟨a1, a2, a3⟩ | ⟨a1, a2, a3, a4⟩
  · have hv2 := dirsF_valid _ _ _ hv a1
    rw [a2, show eqN 0 0 = true from rfl, sel_true, a3, if_pos a1, t14_put_val _ n (valid_sm hv2) hs, obind_some]
  · rw [a2, show eqN 1 0 = false from rfl, sel_false, a3, a4, if_neg a1]

end Go.Ge

/- Diffs laid on trees: what comes of entries laid on nodes: in plain words. -/
namespace Go.Ge
set_option linter.unusedVariables false
set_option linter.unusedSimpArgs false

theorem whatN_mark (p : Pt) : (whatN p).1 = 0 ∨ (whatN p).1 = 1 ∨ (whatN p).1 = 2 := by
  unfold whatN
  split
  · dsimp only
    split
    · exact .inr (.inl rfl)
    · split
      · exact .inr (.inr rfl)
      · split
        · exact .inl rfl
        · exact .inl rfl
  · exact .inl rfl

noncomputable def putsF (t : List Nd) (p : Pt) : List Nd × Int := if (whatN p).1 = 0 ∧ (whatN p).2.1 ≠ [] then nodeF (whatN p).2.1 t (nodeOf p (joinS (whatN p).2.1)) else (t, 0)
noncomputable def runF : List Pt → List Nd → List Nd × Int
  | [], t => (t, 0)
  | p :: r, t => if (putsF t p).2 = 0 then runF r (putsF t p).1 else ([], (putsF t p).2)

theorem nodeF_valid {ns : List (List UInt8)} {t : List Nd} {n : Nd} (h : (nodeF ns t n).2 = 0) : Valid (nodeF ns t n).1 := by
  unfold nodeF at h ⊢
  split at h
  · rename_i hd; rw [if_pos hd]; exact putF_valid h
  · rename_i hd; exact absurd h hd
theorem putsF_valid {t : List Nd} {p : Pt} (hv : Valid t) (h : (putsF t p).2 = 0) : Valid (putsF t p).1 := by
  unfold putsF at h ⊢
  split at h
  · rename_i hc; rw [if_pos hc]; exact nodeF_valid h
  · rename_i hc; rw [if_neg hc]; exact hv
theorem runF_valid : ∀ (l : List Pt) (t : List Nd), Valid t → (((runF l t).2 = 0 ∧ Valid (runF l t).1) ∨ ((runF l t).2 ≠ 0 ∧ (runF l t).1 = [])) := by
  intro l
  induction l with
  | nil => intro t h; exact .inl ⟨rfl, h⟩
  | cons p r ih =>
    intro t h
    unfold runF
    split
    · rename_i hp; exact ih _ (putsF_valid h hp)
    · rename_i hp; exact .inr ⟨hp, rfl⟩

theorem node_sm {p : Pt} (hp : SmP p) {ns : List (List UInt8)} (h : ShN ns) : Sm (nodeOf p (joinS ns)) := ⟨h.2.2, hp.2.1, hp.2.2⟩

theorem invPuts_val {t : List Nd} (h : Valid t) (p : Pt) (hp : SmP p) : P_inv_puts (stepN p, (t, ())) = some ((putsF t p).1, ((putsF t p).2, ())) := by
  have hsh := whatN_sh p
  unfold P_inv_puts stepN stepW putsF
  dsimp only
  rcases whatN_mark p with h0 | h0 | h0
  · rw [if_neg (by rw [h0]; decide), if_neg (by rw [h0]; decide)]
    by_cases h3 : (whatN p).2.1 = []
    · rw [if_pos h3, if_neg (fun q => q.2 h3)]; rfl
    · rw [if_neg h3, if_pos ⟨h0, h3⟩]
      exact nodePuts_val hsh rfl (node_sm hp hsh) h
  · rw [if_pos h0, if_neg (fun q => by rw [h0] at q; exact absurd q.1 (by decide))]; rfl
  · rw [if_neg (by rw [h0]; decide), if_pos h0, if_neg (fun q => by rw [h0] at q; exact absurd q.1 (by decide))]; rfl

theorem runs {S R : Type} {f : S → Option (S ⊕ R)} (l : List Pt) (mk : List Nd → Nat → S) (fin : List Nd → R) (err : Int → List Nd → Nat → R)
    (hstep : ∀ (i : Nat) (x : Pt) (t : List Nd), l[i]? = some x → Valid t → f (mk t i) = some (if (putsF t x).2 = 0 then .inl (mk (putsF t x).1 (i + 1)) else .inr (err (putsF t x).2 t i)))
    (hend : ∀ t, f (mk t l.length) = some (.inr (fin t))) :
    ∀ (d i : Nat) (t : List Nd), i + d = l.length → Valid t → ∃ z, Loop f (mk t i) = some z ∧
      (((runF (l.drop i) t).2 = 0 ∧ z = fin (runF (l.drop i) t).1) ∨ ((runF (l.drop i) t).2 ≠ 0 ∧ ∃ t' i', z = err (runF (l.drop i) t).2 t' i')) := by
  intro d
  induction d with
  | zero =>
    intro i t hi hv
    obtain rfl : i = l.length := by omega
    refine ⟨_, by rw [Loop_eq, hend]; rfl, .inl ?_⟩
    rw [List.drop_length]
    exact ⟨rfl, rfl⟩
  | succ d ih =>
    intro i t hi hv
    have hx : l[i]? = some l[i] := List.getElem?_eq_getElem (by omega)
    have hs := hstep i l[i] t hx hv
    rw [List.drop_eq_getElem_cons (by omega)]
    unfold runF
    split
    · rename_i hp
      rw [if_pos hp] at hs
      obtain ⟨z, z1, z2⟩ := ih (i + 1) _ (by omega) (putsF_valid hv hp)
      exact ⟨z, by rw [Loop_eq, hs]; exact z1, z2⟩
    · rename_i hp
      rw [if_neg hp] at hs
      exact ⟨_, by rw [Loop_eq, hs]; rfl, .inr ⟨hp, t, i, rfl⟩⟩

open Classical in
noncomputable def layF (l : List Nd) (ps : List Pt) : List Nd × Int := if Valid l then (if allOk ps = true then runF ps (ps.foldl clrT l) else ([], 10)) else ([], 1)

theorem folds_valid (ps : List Pt) : ∀ (l : List Nd), Valid l → Valid (ps.foldl clrT l) := by
  induction ps with
  | nil => intro l h; exact h
  | cons p r ih => intro l h; exact ih _ (clrT_valid h p)

theorem lay_val (l : List Nd) (ps : List Pt) (hl : SmL l) (hp : SmPs ps) : P_overlay_Lay (l, (ps, ())) = some ((layF l ps).1, ((layF l ps).2, ())) := by
  obtain ⟨e, c1, c2⟩ := check_val' l hl
  have h1 := hl.1
  have h2 := hp.1
  unfold P_overlay_Lay layF
  dsimp only
  rw [c1, obind_some]
  dsimp only
  by_cases hv : Valid l
  · rw [c2.2 hv, show nt (eqI 0 0) = false from rfl, sel_false, if_pos hv, steps_val ps hp, obind_some]
    by_cases ha : allOk ps = true
    · rw [if_pos ha, if_pos ha]
      dsimp only
      rw [nt_true, sel_false, fits_len2 (by simp only [List.length_nil]; omega), sel_true, show app ([] : List Nd) l = l from rfl]
      obtain ⟨k1, k2⟩ := clears_val ps true l hv (by omega)
      rw [k1, obind_some]
      dsimp only
      obtain ⟨z, z1, z2⟩ := runs (f := P_overlay_Lay_L1 (ps.map stepN, (true, ()))) ps (fun t i => (([], ((0 : Int), (t, ((i : Int), ())))), ())) (fun t => (0, (([], ((0 : Int), (t, ((ps.length : Int), ())))), ()))) (fun e t i => (1, (([], (e, (t, ((i : Int), ())))), ()))) (fun i x t hx hu => by
          have hi := getElem?_lt hx
          have hy : (ps.map stepN)[i]? = some (stepN x) := by rw [List.getElem?_map, hx]; rfl
          unfold P_overlay_Lay_L1
          dsimp only
          rw [ltI_len_true (show i < (ps.map stepN).length by rw [List.length_map]; exact hi), sel_true, idx_some' hy, obind_some, iadd_one (by omega)]
          rw [show P_inv_puts (stepN x, (t, ())) = _ from invPuts_val hu x (hp.2 x (List.mem_of_getElem? hx)), obind_some]
          dsimp only
          by_cases he : (putsF t x).2 = 0
          · rw [eqI_true he, if_pos he]; rfl
          · rw [eqI_false he, if_neg he]; rfl) (fun t => by
          unfold P_overlay_Lay_L1
          dsimp only
          rw [show ltI (ps.length : Int) (len (ps.map stepN)) = false by rw [← List.length_map (f := stepN)]; exact ltI_len_end, sel_false]) ps.length 0 (ps.foldl clrT l) (by omega) k2
      rw [List.drop_zero] at z2
      rw [show Loop (P_overlay_Lay_L1 (ps.map stepN, (true, ()))) (([], ((0 : Int), (ps.foldl clrT l, ((0 : Int), ())))), ()) = _ from z1, obind_some]
      rcases z2 with ⟨a1, a2⟩ | ⟨a1, t', i', a2⟩
      · rw [a2, a1]; rfl
      · rw [a2]
        rcases runF_valid ps _ k2 with ⟨b1, _⟩ | ⟨_, b2⟩
        · exact absurd b1 a1
        · rw [b2]; rfl
    · rw [if_neg ha, if_neg ha]; rfl
  · have : e ≠ 0 := fun q => hv (c2.1 q)
    rw [eqI_false this, nt_false, sel_true, if_neg hv]

end Go.Ge

/- A reader that nobody made reads nothing. -/
namespace Go.Ge
set_option linter.unusedVariables false
set_option linter.unusedSimpArgs false

def rd0 : Rd := (false, ([], (0, (false, (false, ())))))

abbrev Ns := (Bool × Int × Unit) × (Unit × Unit × Unit) × Rd × Unit
def ns (k : Int) : Ns := ((false, (k, ())), (((), ((), ())), (rd0, ())))

end Go.Ge

/- What must come in layer 15, whatever the arguments are: in plain words. -/
namespace Go.Ge
set_option linter.unusedVariables false

def putB' (l : List Nd) (n : Nd) : List Nd × Int := if mayF n = true then t14_putB l n else ([], 1)
theorem putB_eq {l : List Nd} (h : Valid l) (n : Nd) : t14_putF l n = putB' l n := by
  unfold putB'
  by_cases hm : mayF n = true
  · rw [if_pos hm, putF_eq h hm]
  · rw [if_neg hm]
    unfold t14_putF
    rw [if_pos (.inr (by simpa using hm))]
def dirsB : List (List UInt8) → List UInt8 → List Nd → List Nd × Int
  | [], _, t => (t, 0)
  | nm :: r, a, t =>
    if (findF t (joinP a nm)).2.1 = true ∧ (findF t (joinP a nm)).1.2.1 = 2 then dirsB r (joinP a nm) t
    else if (putB' t (dirM 493 (joinP a nm))).2 = 0 then dirsB r (joinP a nm) (putB' t (dirM 493 (joinP a nm))).1
    else ([], (putB' t (dirM 493 (joinP a nm))).2)
theorem dirsB_eq : ∀ (r : List (List UInt8)) (a : List UInt8) (t : List Nd), Valid t → dirsF r a t = dirsB r a t := by
  intro r
  induction r with
  | nil => intro a t _; rfl
  | cons nm r ih =>
    intro a t h
    unfold dirsF dirsB
    rw [← putB_eq h]
    split
    · exact ih _ _ h
    · split
      · rename_i hp; exact ih _ _ (putF_valid hp)
      · rfl
def nodeB (ns : List (List UInt8)) (t : List Nd) (n : Nd) : List Nd × Int := if (dirsB ns.dropLast [] t).2 = 0 then putB' (dirsB ns.dropLast [] t).1 n else ([], (dirsB ns.dropLast [] t).2)
theorem nodeB_eq (ns : List (List UInt8)) {t : List Nd} (h : Valid t) (n : Nd) : nodeF ns t n = nodeB ns t n := by
  unfold nodeF nodeB
  rw [← dirsB_eq _ _ _ h]
  split
  · rename_i hd; exact putB_eq (dirsF_valid _ _ _ h hd) n
  · rfl
def putsB (t : List Nd) (p : Pt) : List Nd × Int := if (whatN p).1 = 0 ∧ (whatN p).2.1 ≠ [] then nodeB (whatN p).2.1 t (nodeOf p (joinS (whatN p).2.1)) else (t, 0)
theorem putsB_eq {t : List Nd} (h : Valid t) (p : Pt) : putsF t p = putsB t p := by
  unfold putsF putsB
  split
  · exact nodeB_eq _ h _
  · rfl
def runB : List Pt → List Nd → List Nd × Int
  | [], t => (t, 0)
  | p :: r, t => if (putsB t p).2 = 0 then runB r (putsB t p).1 else ([], (putsB t p).2)
theorem runB_eq : ∀ (l : List Pt) (t : List Nd), Valid t → runF l t = runB l t := by
  intro l
  induction l with
  | nil => intro t _; rfl
  | cons p r ih =>
    intro t h
    unfold runF runB
    rw [← putsB_eq h]
    split
    · rename_i hp; exact ih _ (putsF_valid h hp)
    · rfl
theorem lay_run {l : List Nd} {ps : List Pt} {r : List Nd × Int} (h : validB l = true) (hp : SmPs ps) (hr : (if allOk ps = true then runB ps (ps.foldl clrT l) else ([], 10)) = r) : P_overlay_Lay (l, (ps, ())) = some (r.1, (r.2, ())) := by
  have hv := validB_valid h
  rw [lay_val l ps (valid_sm hv) hp]
  unfold layF
  rw [if_pos hv, runB_eq _ _ (folds_valid ps l hv), hr]

def aF (path data : List UInt8) : Pt := ((path, (1, (420, (0, (0, (len data, (0, ([], ())))))))), (data, ()))
def aT1 : List Nd := [([98], (1, (420, ([121], ([], ()))))), ([100], (2, (493, ([], ([], ()))))), ([100, 47, 97], (1, (420, ([120], ([], ())))))]
def aT2 : List Nd := [([100], (2, (493, ([], ([], ()))))), ([100, 47, 97], (1, (420, ([122], ([], ())))))]
theorem aF_sm {p d : List UInt8} (hp : p.length ≤ 300) (hd : d.length ≤ 300) : SmP (aF p d) := ⟨hp, by simp [aF], by show d.length ≤ 8192; omega⟩
theorem aL1 : P_overlay_Lay ([], ([aF [46, 47, 100, 47, 97] [120], aF [98] [121]], ())) = some (aT1, (0, ())) := lay_run (r := (aT1, 0)) (by decide +kernel) ⟨by simp, fun p hp => by
  simp only [List.mem_cons, List.not_mem_nil, or_false] at hp
  rcases hp with rfl | rfl <;> exact aF_sm (by simp) (by simp)⟩ (by kernel_rfl)
theorem aL2 : P_overlay_Lay (aT1, ([aF [100, 47, 46, 119, 104, 46, 97] [], aF [46, 119, 104, 46, 98] [], aF [100, 47, 97] [122]], ())) = some (aT2, (0, ())) := lay_run (r := (aT2, 0)) (by decide +kernel) ⟨by simp, fun p hp => by
  simp only [List.mem_cons, List.not_mem_nil, or_false] at hp
  rcases hp with rfl | rfl | rfl <;> exact aF_sm (by simp) (by simp)⟩ (by kernel_rfl)
theorem aL3 : P_overlay_Lay (aT2, ([aF [46, 46, 47, 120] []], ())) = some ([], (10, ())) := lay_run (r := ([], 10)) (by decide +kernel) ⟨by simp, fun p hp => by
  simp only [List.mem_cons, List.not_mem_nil, or_false] at hp
  rcases hp with rfl; exact aF_sm (by simp) (by simp)⟩ (by kernel_rfl)
theorem check_bad {s : List UInt8} (h : P_tar_Read (s, ()) = some ([], (10, ()))) : P_overlay_Check (s, ()) = some (10, ()) := by
  unfold P_overlay_Check
  dsimp only
  rw [h, obind_some]
  dsimp only
  rw [steps_val [] ⟨by simp, fun p hp => by cases hp⟩, obind_some]
  rfl
theorem read_x : P_tar_Read ([120], ()) = some ([], (10, ())) := by
  unfold P_tar_Read
  have h1 : P_tar_Reader_Next ((), ((true, (([120] : List UInt8), ((0 : Int), (ltI (8192 : Int) (@len UInt8 [120]), (ltI (8192 : Int) (@len UInt8 [120]), ()))))), ())) = some ((zeroPt, (false, ())), ((true, ([], ((0 : Int), (true, (true, ()))))), ())) := by kernel_rfl
  dsimp only
  rw [h1, obind_some]
  dsimp only
  rw [Loop_eq, step_last]
  rfl
theorem aC1 : P_overlay_Check ([120], ()) = some (10, ()) := check_bad read_x
theorem zeros_nul : intsBytes (lrep (1024 : Int) (0 : Int)) = nul 1024 := by
  unfold lrep intsBytes nul
  rw [List.map_replicate]
  rfl
theorem read_zeros : P_tar_Read (nul 1024, ()) = some ([], (0, ())) := by
  have hz : ∀ x ∈ nul 1024, x = 0 := nul_all _
  have hl : (nul 1024).length = 1024 := length_nul _
  unfold P_tar_Read
  dsimp only
  rw [ltI_false (show len (nul 1024) ≤ 8192 by unfold len; omega)]
  rw [show P_tar_Reader_Next ((), ((true, (nul 1024, ((0 : Int), (false, (false, ()))))), ())) = _ from next_zero (nul 1024) 0 (by omega) (by omega) (fun x hx => hz x (List.mem_of_mem_take hx)), decide_eq_true ⟨by omega, by omega, hz⟩, obind_some]
  dsimp only
  rw [Loop_eq, step_last]
  rfl
theorem aC2 : P_overlay_Check (intsBytes (lrep (1024 : Int) (0 : Int)), ()) = some (0, ()) := by
  unfold P_overlay_Check
  dsimp only
  rw [zeros_nul, read_zeros, obind_some]
  dsimp only
  rw [steps_val [] ⟨by simp, fun p hp => by cases hp⟩, obind_some]
  rfl

theorem awake15 : P_law15_awake () = some (true, ()) := by
  unfold P_law15_awake P_law15_file
  have l1 := aL1
  have l2 := aL2
  have l3 := aL3
  unfold aF at l1 l2 l3
  unfold aT1 at l1 l2
  unfold aT2 at l2 l3
  simp only [obind_some]
  rw [l1, obind_some]
  dsimp only
  rw [l2, obind_some]
  dsimp only
  rw [l3, obind_some]
  dsimp only
  rw [aC1, obind_some]
  dsimp only
  rw [aC2]
  rfl
end Go.Ge

/- What is read of any bytes: in plain words. -/
namespace Go.Ge
set_option linter.unusedVariables false
set_option linter.unusedSimpArgs false

theorem fin_is (c : Bool) (h : Hd) : ∃ x e, obind (sel c (obind (P_header_is (h, ((256 : Int), ()))) (fun (y21 : Bool × Unit) => some (nt y21.1))) (some true)) (fun y => sel y (some (noHd, ((2 : Int), ()))) (some (h, ((0 : Int), ())))) = some (x, (e, ())) ∧ (e = 0 → okHd x 256) := by
  rw [is_val12, obind_some]
  cases c with
  | false => exact ⟨_, _, rfl, fun q => absurd q (by decide)⟩
  | true =>
    by_cases hk : okHd h 256
    · rw [decide_eq_true hk]
      exact ⟨h, 0, rfl, fun _ => hk⟩
    · rw [decide_eq_false hk]
      exact ⟨_, _, rfl, fun q => absurd q (by decide)⟩

theorem take_ok (b : List UInt8) (hb : b.length = 512) : ∃ x e, P_header_Take (b, ()) = some (x, (e, ())) ∧ (e = 0 → okHd x 256) := by
  by_cases hm : fld b 257 8 = magic
  case neg => exact ⟨_, _, take_other b hb hm, fun e => absurd e (by decide)⟩
  obtain ⟨n6, h6⟩ := number_total (fld b 148 8) (by have := fld_length b 148 8; omega)
  by_cases hs : n6 = (sumTo b 512 : Int)
  case neg => exact ⟨_, _, take_bad b hb h6 hs, fun e => absurd e (by decide)⟩
  obtain ⟨n1, h1⟩ := number_total (fld b 100 8) (by have := fld_length b 100 8; omega)
  obtain ⟨n2, h2⟩ := number_total (fld b 108 8) (by have := fld_length b 108 8; omega)
  obtain ⟨n3, h3⟩ := number_total (fld b 116 8) (by have := fld_length b 116 8; omega)
  obtain ⟨n4, h4⟩ := number_total (fld b 124 12) (by have := fld_length b 124 12; omega)
  obtain ⟨n5, h5⟩ := number_total (fld b 136 12) (by have := fld_length b 136 12; omega)
  have t0 := text_val (fld b 0 100) (by have := fld_length b 0 100; omega)
  have t8 := text_val (fld b 157 100) (by have := fld_length b 157 100; omega)
  have t10 := text_val (fld b 345 155) (by have := fld_length b 345 155; omega)
  have l0 := rtrim_length isNul (fld b 0 100)
  have l10 := rtrim_length isNul (fld b 345 155)
  have m0 := fld_length b 0 100
  have m10 := fld_length b 345 155
  unfold P_header_Take
  dsimp only
  rw [eqI_true (by simp only [len]; omega), nt_true, nt_false, sel_true, o9 b hb, obind_some, obind_some, show ([117, 115, 116, 97, 114, 0, 48, 48] : List UInt8) = magic from rfl]
  dsimp only
  rw [hm, show eqS magic magic = true from eqS_self _, nt_true, nt_false, sel_true, o6 b hb, obind_some]
  dsimp only
  rw [h6, obind_some, sum_val12 b (by omega), obind_some]
  dsimp only
  rw [hb, eqI_true hs, nt_true, obind_some, sel_false, o0 b hb, obind_some]
  dsimp only
  rw [t0, obind_some, o8 b hb, obind_some]
  dsimp only
  rw [t8, obind_some, o10 b hb, obind_some]
  dsimp only
  rw [t10, obind_some]
  dsimp only
  have hpre : ∃ p : List UInt8, (sel (nt (eqS (rtrim isNul (fld b 345 155)) [])) (sel (fits (plus (len (rtrim isNul (fld b 345 155))) (len ([47] : List UInt8)))) (sel (fits (plus (len (app (rtrim isNul (fld b 345 155)) [47])) (len (rtrim isNul (fld b 0 100)))))
      (some ((app (app (rtrim isNul (fld b 345 155)) [47]) (rtrim isNul (fld b 0 100)), ()), ())) none) none) (some ((rtrim isNul (fld b 0 100), ()), ()))) = some ((p, ()), ()) := by
    cases (nt (eqS (rtrim isNul (fld b 345 155)) [])) with
    | true =>
      rw [sel_true, fits_true (by simp only [plus, len, List.length_cons, List.length_nil]; omega), sel_true, fits_true (by simp only [plus, len, app, List.length_append, List.length_cons, List.length_nil]; omega), sel_true]
      exact ⟨_, rfl⟩
    | false => exact ⟨_, rfl⟩
  obtain ⟨p, hp⟩ := hpre
  rw [hp, obind_some, o1 b hb, obind_some]
  dsimp only
  rw [h1, obind_some, o2 b hb, obind_some]
  dsimp only
  rw [h2, obind_some, o3 b hb, obind_some]
  dsimp only
  rw [h3, obind_some, o4 b hb, obind_some]
  dsimp only
  rw [h4, obind_some, o5 b hb, obind_some]
  dsimp only
  rw [h5, obind_some, o7 b hb, obind_some]
  exact fin_is _ _


theorem next_any (r : List UInt8) (n : Nat) (hl : r.length ≤ 10000) : ∃ p ok st, P_tar_Reader_Next ((), (rd r (n : Int), ())) = some ((p, (ok, ())), (st, ())) ∧
    ((ok = false ∧ ∃ b, st = rdEnd (n : Int) b) ∨ (ok = true ∧ okHd p.1 256 ∧ p.2.1.length ≤ r.length ∧ n < 64 ∧ ∃ r', st = rd r' ((n + 1 : Nat) : Int) ∧ r'.length + 512 ≤ r.length)) := by
  by_cases h512 : r.length < 512
  · exact ⟨_, _, _, next_short r n h512, .inl ⟨rfl, _, rfl⟩⟩
  by_cases hz : ∀ x ∈ r.take 512, x = 0
  · exact ⟨_, _, _, next_zero r n (by omega) (by omega) hz, .inl ⟨rfl, _, rfl⟩⟩
  have e := fun b => ends_val r (n : Int) b
  have ht : (r.take 512).length = 512 := by rw [List.length_take]; omega
  obtain ⟨x, er, t1, t2⟩ := take_ok (r.take 512) ht
  have hdl : (r.drop 512).length = r.length - 512 := List.length_drop
  unfold P_tar_Reader_Next
  dsimp only [rd] at e ⊢
  rw [nt_true, nt_false, sel_true, sel_false, ltI_false (by rw [len_eq]; omega), sel_false, inside_true (by decide) (by decide) (by rw [len_eq]; omega), sel_true, show sub r 0 (minus 512 0) = r.take 512 from sub_take r 512]
  rw [zero_val (r.take 512) (by omega), obind_some]
  dsimp only
  rw [decide_eq_false (fun q => hz q.2), sel_false, sel_true, t1, obind_some, inside_true (by decide) (by rw [len_eq]; omega) (Int.le_refl _), sel_true, show sub r 512 (minus (len r) 512) = r.drop 512 from sub_drop r 512 (by omega)]
  dsimp only
  by_cases he : er = 0
  case neg =>
    rw [eqI_false he, nt_false, sel_true, e, obind_some]
    exact ⟨_, _, _, rfl, .inl ⟨rfl, _, rfl⟩⟩
  rw [eqI_true he, nt_true, sel_false]
  have hok := t2 he
  obtain ⟨s0, s1⟩ := hok.2.2.2.1
  obtain ⟨k, hk⟩ := Int.eq_ofNat_of_zero_le s0
  rw [hk]
  by_cases h1 : (r.drop 512).length < k
  · rw [ltI_true (by rw [len_eq]; omega), sel_true, e, obind_some]
    exact ⟨_, _, _, rfl, .inl ⟨rfl, _, rfl⟩⟩
  · have hf := fillN_lt k
    rw [ltI_false (by rw [len_eq]; omega), sel_false, fill_val k (by omega), obind_some, iadd_i64 (by omega) (by omega)]
    dsimp only
    by_cases h2 : (r.drop 512).length < k + fillN k
    · rw [ltI_true (by rw [len_eq]; omega), sel_true, e, obind_some]
      exact ⟨_, _, _, rfl, .inl ⟨rfl, _, rfl⟩⟩
    · rw [ltI_false (by rw [len_eq]; omega), sel_false]
      by_cases h3 : 64 ≤ n
      · rw [leI_true (by omega), sel_true, e, obind_some]
        exact ⟨_, _, _, rfl, .inl ⟨rfl, _, rfl⟩⟩
      · rw [leI_false (by omega), sel_false, obind_some, iadd_i64 (by omega) (by omega), inside_true (by omega) (by rw [len_eq]; omega) (Int.le_refl _), sel_true, inside_true (by omega) (by omega) (by rw [len_eq]; omega), sel_true]
        rw [show sub (r.drop 512) 0 (minus (k : Int) 0) = (r.drop 512).take k from sub_take _ k, show (k : Int) + (fillN k : Int) = ((k + fillN k : Nat) : Int) by omega, sub_drop _ (k + fillN k) (by omega), iadd_one (by omega)]
        refine ⟨_, _, _, rfl, .inr ⟨rfl, hok, ?_, by omega, _, rfl, ?_⟩⟩
        · dsimp only; rw [List.length_take]; omega
        · rw [List.length_drop]; omega

theorem okHd_small {h : Hd} (k : okHd h 256) : h.1.length ≤ 300 ∧ h.2.2.2.2.2.2.2.1.length ≤ 300 := by
  obtain ⟨_, _, _, _, _, ⟨_, c1, _⟩, c2⟩ := k
  refine ⟨by omega, ?_⟩
  rcases c2 with ⟨_, e⟩ | ⟨_, e, _⟩ | ⟨_, ⟨_, e, _⟩, _⟩
  · rw [e]; simp
  · rw [e]; simp
  · omega

def RdP (p : Pt) : Prop := p.1.1.length ≤ 300 ∧ p.1.2.2.2.2.2.2.2.1.length ≤ 300 ∧ p.2.1.length ≤ 8192

theorem read_rest : ∀ (m n : Nat) (r : List UInt8) (out : List Pt) (p : Pt), r.length ≤ m → r.length ≤ 8192 → out.length + 1 = n → n ≤ 64 → (∀ q ∈ out ++ [p], RdP q) →
    ∃ (out' : List Pt) (p' : Pt) (b : Int × Bool), Loop P_tar_Read_L0 (((), ((), (true, ()))), (p, (out, (rd r (n : Int), ())))) = some (((), ((), (false, ()))), (p', (out', (rdEnd b.1 b.2, ())))) ∧ out'.length ≤ 64 ∧ ∀ q ∈ out', RdP q := by
  intro m
  induction m using Nat.strongRecOn with
  | _ m ih =>
    intro n r out p hm hr hn h64 hq
    obtain ⟨p1, ok1, st1, h1, h2⟩ := next_any r n (by omega)
    have hstep := step_more p out (rd r (n : Int)) (by omega) h1
    rcases h2 with ⟨rfl, b, rfl⟩ | ⟨rfl, k1, k2, k3, r', rfl, k4⟩
    · refine ⟨out ++ [p], p1, ((n : Int), b), ?_, by rw [List.length_append]; simp; omega, hq⟩
      rw [Loop_eq, hstep]
      show Loop _ _ = _
      rw [Loop_eq, step_last]; rfl
    · have hs := okHd_small k1
      obtain ⟨o, p', b, z1, z2, z3⟩ := ih r'.length (by omega) (n + 1) r' (out ++ [p]) p1 (Nat.le_refl _) (by omega) (by rw [List.length_append]; simp; omega) (by omega) (fun q hqq => by
        rcases List.mem_append.1 hqq with hqq | hqq
        · exact hq q hqq
        · rw [List.mem_singleton] at hqq
          subst hqq
          exact ⟨hs.1, hs.2, by omega⟩)
      exact ⟨o, p', b, by rw [Loop_eq, hstep]; exact z1, z2, z3⟩

theorem read_any (s : List UInt8) : ∃ l e, P_tar_Read (s, ()) = some (l, (e, ())) ∧ l.length ≤ 64 ∧ (∀ q ∈ l, RdP q) ∧ (e = 0 ∨ (e = 10 ∧ l = [])) := by
  by_cases h8 : 8192 < s.length
  · exact ⟨_, _, read_long s h8, by simp, fun q hq => (by cases hq), .inr ⟨rfl, rfl⟩⟩
  obtain ⟨p, ok, st, h1, h2⟩ := next_any s 0 (by omega)
  have fin : ∀ (b : Int × Bool) (o : List Pt), (obind (P_tar_Reader_Bad ((), (rdEnd b.1 b.2, ()))) fun y3 => sel y3.1.1 (some (([] : List Pt), ((10 : Int), ()))) (some (o, ((0 : Int), ())))) = some (if b.2 = true then (([] : List Pt), ((10 : Int), ())) else (o, ((0 : Int), ()))) := fun b o => by
    obtain ⟨b1, b2⟩ := b
    cases b2 <;> rfl
  unfold P_tar_Read
  dsimp only
  rw [ltI_false (by rw [len_eq]; omega), show P_tar_Reader_Next ((), ((true, (s, ((0 : Int), (false, (false, ()))))), ())) = _ from h1, obind_some]
  dsimp only
  rcases h2 with ⟨rfl, b, rfl⟩ | ⟨rfl, k1, k2, k3, r', rfl, k4⟩
  · rw [Loop_eq, step_last]
    show ∃ l e, (obind (P_tar_Reader_Bad ((), (rdEnd _ _, ()))) fun y3 => sel y3.1.1 (some (([] : List Pt), ((10 : Int), ()))) (some (([] : List Pt), ((0 : Int), ())))) = _ ∧ _
    rw [fin (_, _)]
    cases b with
    | true => exact ⟨_, _, rfl, by simp, fun q hq => (by cases hq), .inr ⟨rfl, rfl⟩⟩
    | false => exact ⟨_, _, rfl, by simp, fun q hq => (by cases hq), .inl rfl⟩
  · have hs := okHd_small k1
    obtain ⟨o, p', b, z1, z2, z3⟩ := read_rest r'.length 1 r' [] p (Nat.le_refl _) (by omega) rfl (by omega) (fun q hq => by
      rw [List.nil_append, List.mem_singleton] at hq
      subst hq
      exact ⟨hs.1, hs.2, by omega⟩)
    rw [show Loop P_tar_Read_L0 (((), ((), (true, ()))), (p, (([] : List Pt), (rd r' ((0 + 1 : Nat) : Int), ())))) = _ from z1, obind_some]
    dsimp only
    rw [fin b o]
    cases hb : b.2 with
    | true => exact ⟨_, _, rfl, by simp, fun q hq => (by cases hq), .inr ⟨rfl, rfl⟩⟩
    | false => exact ⟨_, _, rfl, z2, z3, .inl rfl⟩
end Go.Ge

/- The law OverlayFree: whether bytes are a diff does not hang on the tree: in plain words. -/
namespace Go.Ge
set_option linter.unusedVariables false
set_option linter.unusedSimpArgs false

def Has (t : List Nd) (p : List UInt8) : Prop := p = [] ∨ ∃ x ∈ t, x.1 = p ∧ x.2.1 = 2

theorem put_room {t : List Nd} {n : Nd} (hv : Valid t) (hm : mayF n = true) (h : Has t (splitF n.1).1) : ((t14_putF t n).2 = 0 ∧ n ∈ (t14_putF t n).1) ∨ (t14_putF t n).2 = 5 := by
  unfold t14_putF
  rw [if_neg (show ¬ (¬ Valid t ∨ mayF n = false) from fun q => q.elim (fun q => q hv) (fun q => by rw [hm] at q; cases q))]
  have h3 : ¬ ((splitF n.1).1 ≠ [] ∧ ∀ x ∈ t, x.1 ≠ (splitF n.1).1) := fun q => by
    rcases h with h | ⟨x, hx, e, _⟩
    · exact q.1 h
    · exact q.2 x hx e
  have h12 : ¬ ((splitF n.1).1 ≠ [] ∧ ∀ x ∈ t, x.1 = (splitF n.1).1 → x.2.1 ≠ 2) := fun q => by
    rcases h with h | ⟨x, hx, e, k⟩
    · exact q.1 h
    · exact q.2 x hx e k
  rw [if_neg h3, if_neg h12]
  have key : ∀ r : List Nd, ((if 64 ≤ r.length then (([] : List Nd), (5 : Int)) else (insF r n, 0)).2 = 0 ∧ n ∈ (if 64 ≤ r.length then (([] : List Nd), (5 : Int)) else (insF r n, 0)).1) ∨ (if 64 ≤ r.length then (([] : List Nd), (5 : Int)) else (insF r n, 0)).2 = 5 := fun r => by
    split
    · exact .inr rfl
    · exact .inl ⟨rfl, mem_insF.2 (.inl rfl)⟩
  exact key _

theorem findF_mem {t : List Nd} {p : List UInt8} (h : (findF t p).2.1 = true) : (findF t p).1 ∈ t ∧ (findF t p).1.1 = p := by
  unfold findF at h ⊢
  cases hf : t.find? fun x => decide (x.1 = p) with
  | none => rw [hf] at h; cases h
  | some x => exact ⟨List.mem_of_find?_eq_some hf, by have := List.find?_some hf; simpa using this⟩

theorem may_mode {p : List UInt8} (h : mayF (dirM 0 p) = true) : mayF (dirM 493 p) = true := by
  unfold mayF at h ⊢
  simp only [Bool.and_eq_true] at h ⊢
  exact ⟨⟨⟨h.1.1.1, by simp [dirM]⟩, by simp [dirM]⟩, by simp [kindF, dirM]⟩

theorem dirs_room {ns : List (List UInt8)} (h : ShN ns) (n : Nat) (hn : n ≤ ns.length) (hm : preB ns n = true) : ∀ (d i : Nat) (t : List Nd), i + d = n → Valid t → Has t (joinS (ns.take i)) →
    ((dirsF ((ns.take n).drop i) (joinS (ns.take i)) t).2 = 0 ∧ Has (dirsF ((ns.take n).drop i) (joinS (ns.take i)) t).1 (joinS (ns.take n))) ∨ (dirsF ((ns.take n).drop i) (joinS (ns.take i)) t).2 = 5 := by
  intro d
  induction d with
  | zero =>
    intro i t hi hv hh
    obtain rfl : i = n := by omega
    rw [List.drop_of_length_le (by rw [List.length_take]; omega)]
    exact .inl ⟨rfl, hh⟩
  | succ d ih =>
    intro i t hi hv hh
    have hx : ns[i]? = some ns[i] := List.getElem?_eq_getElem (by omega)
    have hdrop : (ns.take n).drop i = ns[i] :: (ns.take n).drop (i + 1) := by
      rw [List.drop_eq_getElem_cons (by rw [List.length_take]; omega), List.getElem_take]
    have hj := joinP_take h.1 hx
    have hn1 : preP ns i = joinS (ns.take (i + 1)) := rfl
    rw [hdrop]
    unfold dirsF
    rw [hj]
    split
    · rename_i hc
      obtain ⟨m1, m2⟩ := findF_mem hc.1
      rw [hn1]
      exact ih (i + 1) t (by omega) hv (.inr ⟨_, m1, by rw [m2, hn1], hc.2⟩)
    · have hmay : mayF (dirM 493 (preP ns i)) = true := by
        unfold preB at hm
        rw [List.all_eq_true] at hm
        exact may_mode (hm i (List.mem_range.2 (by omega)))
      have hroom := put_room hv hmay (by
        show Has t (splitF (preP ns i)).1
        rw [preP_split h.1 (by omega)]
        exact hh)
      split
      · rename_i hp
        rcases hroom with ⟨_, hmem⟩ | h5
        · rw [hn1]
          exact ih (i + 1) _ (by omega) (putF_valid hp) (.inr ⟨_, hmem, rfl, rfl⟩)
        · rw [h5] at hp; cases hp
      · rename_i hp
        rcases hroom with ⟨h0, _⟩ | h5
        · exact absurd h0 hp
        · exact .inr h5

theorem node_room {ns : List (List UInt8)} (h : ShN ns) {n : Nd} (hn : n.1 = joinS ns) (hm : mayF n = true) (hp : pathB ns = true) {t : List Nd} (hv : Valid t) : (nodeF ns t n).2 = 0 ∨ (nodeF ns t n).2 = 5 := by
  have hlt : ns.take (ns.length - 1) = ns.dropLast := List.dropLast_eq_take.symm
  have hpre : preB ns (ns.length - 1) = true := by
    unfold pathB at hp
    simp only [Bool.and_eq_true, decide_eq_true_eq] at hp
    rw [pre_all hp.2] at hp
    simp only [Bool.and_eq_true] at hp
    exact hp.1.1
  have hd := dirs_room h (ns.length - 1) (by omega) hpre (ns.length - 1) 0 t (by omega) hv (.inl (by simp [joinS]))
  have ht0 : joinS (ns.take 0) = [] := by simp [joinS]
  rw [List.drop_zero, hlt, ht0] at hd
  unfold nodeF
  rcases hd with ⟨d0, d1⟩ | d5
  · rw [if_pos d0]
    have hv2 := dirsF_valid _ _ _ hv d0
    rcases put_room hv2 hm (by rw [hn, split_clean h.1]; exact d1) with ⟨p0, _⟩ | p5
    · exact .inl p0
    · exact .inr p5
  · rw [if_neg (by rw [d5]; decide)]
    exact .inr d5

theorem whatN_node {p : Pt} (hok : (whatN p).2.2 = true) (h0 : (whatN p).1 = 0) (hn : (whatN p).2.1 ≠ []) : mayF (nodeOf p (joinS (whatN p).2.1)) = true ∧ pathB (whatN p).2.1 = true := by
  have key : ∀ (ns : List (List UInt8)) (q : Bool), ns ≠ [] → ((decide (ns = []) && q) || (mayF (nodeOf p (joinS ns)) && pathB ns)) = true → mayF (nodeOf p (joinS ns)) = true ∧ pathB ns = true := fun ns q hne hq => by
    rw [decide_eq_false hne, Bool.false_and, Bool.false_or, Bool.and_eq_true] at hq
    exact hq
  unfold whatN at hok h0 hn ⊢
  split at h0
  · rename_i hc
    rw [if_pos hc] at hok hn ⊢
    dsimp only at hok h0 hn ⊢
    split at h0
    · cases h0
    · rename_i h1
      rw [if_neg h1] at hok hn ⊢
      split at h0
      · cases h0
      · rename_i h2
        rw [if_neg h2] at hok hn ⊢
        split at h0
        · rename_i h3
          rw [if_pos h3] at hok hn ⊢
          exact key _ _ hn hok
        · rename_i h3
          rw [if_neg h3] at hn
          exact absurd rfl hn
  · rename_i hc
    rw [if_neg hc] at hn
    exact absurd rfl hn

theorem run_room : ∀ (ps : List Pt) (t : List Nd), allOk ps = true → Valid t → (runF ps t).2 = 0 ∨ (runF ps t).2 = 5 := by
  intro ps
  induction ps with
  | nil => intro t _ _; exact .inl rfl
  | cons p r ih =>
    intro t ha hv
    unfold allOk at ha
    simp only [List.all_cons, Bool.and_eq_true] at ha
    unfold runF
    split
    · rename_i hp; exact ih _ ha.2 (putsF_valid hv hp)
    · rename_i hp
      right
      show (putsF t p).2 = 5
      unfold putsF at hp ⊢
      split
      · rename_i hc
        rw [if_pos hc] at hp
        obtain ⟨m1, m2⟩ := whatN_node ha.1 hc.1 hc.2
        rcases node_room (whatN_sh p) (n := nodeOf p (joinS (whatN p).2.1)) rfl m1 m2 hv with h0 | h5
        · exact absurd h0 hp
        · exact h5
      · rename_i hc
        rw [if_neg hc] at hp
        exact absurd rfl hp

theorem rd_smps {l : List Pt} (h1 : l.length ≤ 64) (h2 : ∀ q ∈ l, RdP q) : SmPs l := ⟨by omega, fun p hp => h2 p hp⟩

theorem apply_any {s : List UInt8} {ps : List Pt} {e : Int} (h : P_tar_Read (s, ()) = some (ps, (e, ()))) (hp : SmPs ps) {l : List Nd} (hv : Valid l) : P_overlay_Apply (l, (s, ())) = some (if e = 0 then ((layF l ps).1, ((layF l ps).2, ())) else ([], (10, ()))) := by
  obtain ⟨c, c1, c2⟩ := check_val' l (valid_sm hv)
  unfold P_overlay_Apply
  dsimp only
  rw [h, obind_some, c1, obind_some]
  dsimp only
  rw [lay_val l ps (valid_sm hv) hp, obind_some, c2.2 hv]
  by_cases he : e = 0
  · rw [eqI_true he, if_pos he]; rfl
  · rw [eqI_false he, if_neg he]; rfl

end Go.Ge

/- Diffs laid on trees: each path by itself: what a path leads to hangs on what it led to, and on the entries, and on no other path. -/
namespace Go.Ge
set_option linter.unusedVariables false
set_option linter.unusedSimpArgs false

def atF (t : List Nd) (q : List UInt8) : Option Nd := t.find? fun x => decide (x.1 = q)

theorem find_at (t : List Nd) (q : List UInt8) : findF t q = match atF t q with
  | some x => (x, (true, ()))
  | none => (zeroN, (false, ())) := rfl
theorem at_mem {t : List Nd} {q : List UInt8} {x : Nd} (h : atF t q = some x) : x ∈ t ∧ x.1 = q := by
  unfold atF at h
  exact ⟨List.mem_of_find?_eq_some h, by have := List.find?_some h; simpa using this⟩
theorem at_iff {t : List Nd} (ho : Ord t) {q : List UInt8} {x : Nd} : atF t q = some x ↔ x ∈ t ∧ x.1 = q := by
  constructor
  · exact at_mem
  · rintro ⟨h1, h2⟩
    have := find_some' ho h1 h2
    rw [find_at] at this
    cases ha : atF t q with
    | none => rw [ha] at this; cases (Prod.mk.inj (Prod.mk.inj this).2).1
    | some y => rw [ha] at this; rw [(Prod.mk.inj this).1]
theorem opt_ext {a b : Option Nd} (h : ∀ x, a = some x ↔ b = some x) : a = b := by
  cases a with
  | none =>
    cases b with
    | none => rfl
    | some y => exact absurd ((h y).2 rfl) (by simp)
  | some x => exact ((h x).1 rfl).symm

theorem pairs_ext : ∀ {l m : List Nd}, (l.Pairwise fun x y => cmpL (key x) (key y) < 0) → (m.Pairwise fun x y => cmpL (key x) (key y) < 0) → (∀ c, c ∈ l ↔ c ∈ m) → l = m := by
  intro l
  induction l with
  | nil =>
    intro m _ _ h
    cases m with
    | nil => rfl
    | cons d m => exact absurd ((h d).2 (by simp)) (by simp)
  | cons c l ih =>
    intro m hl hm h
    cases m with
    | nil => exact absurd ((h c).1 (by simp)) (by simp)
    | cons d m =>
      rw [List.pairwise_cons] at hl hm
      have irr : ∀ x : Nd, ¬ cmpL (key x) (key x) < 0 := fun x => by rw [cmpL_self]; omega
      have hcd : c = d := by
        have h1 : c = d ∨ c ∈ m := by simpa using (h c).1 (by simp)
        have h2 : d = c ∨ d ∈ l := by simpa using (h d).2 (by simp)
        rcases h1 with e | h1
        · exact e
        · rcases h2 with e | h2
          · exact e.symm
          · exact absurd (cmpL_trans (hl.1 d h2) (hm.1 c h1)) (irr c)
      subst hcd
      rw [ih hl.2 hm.2 fun q => ?_]
      constructor
      · intro hq
        rcases List.mem_cons.1 ((h q).1 (List.mem_cons_of_mem _ hq)) with e | e
        · subst e; exact absurd (hl.1 q hq) (irr q)
        · exact e
      · intro hq
        rcases List.mem_cons.1 ((h q).2 (List.mem_cons_of_mem _ hq)) with e | e
        · subst e; exact absurd (hm.1 q hq) (irr q)
        · exact e
theorem at_ext {s t : List Nd} (hs : Ord s) (ht : Ord t) (h : ∀ q, atF s q = atF t q) : s = t :=
  pairs_ext (ord_pairs.1 hs) (ord_pairs.1 ht) fun c => by
    have a := at_iff hs (q := c.1) (x := c)
    have b := at_iff ht (q := c.1) (x := c)
    rw [h c.1] at a
    constructor
    · intro hc; exact (b.1 (a.2 ⟨hc, rfl⟩)).1
    · intro hc; exact (a.1 (b.2 ⟨hc, rfl⟩)).1

theorem under_dir {l : List Nd} (hv : Valid l) {p : List UInt8} (hp : p ≠ []) : ∀ (m : Nat) (x : Nd), x ∈ l → (parts x.1).length ≤ m → underL (parts x.1) (parts p) = true → ∃ y ∈ l, y.1 = p ∧ y.2.1 = 2 := by
  intro m
  induction m with
  | zero =>
    intro x hx hm hu
    unfold underL at hu
    have := (of_decide_eq_true hu).1
    omega
  | succ m ih =>
    intro x hx hm hu
    by_cases hex : ∃ y ∈ l, y.1 = p
    · by_cases h0 : (splitF x.1).1 = []
      · exfalso
        have hu2 := hu
        unfold underL at hu2
        have h1 := (of_decide_eq_true hu2).1
        have hmay := hv.may x hx
        unfold mayF okPath at hmay
        simp only [Bool.and_eq_true, decide_eq_true_eq] at hmay
        have hall := hmay.1.1.1.1.1.1.1.2
        have hone : (parts x.1).length ≤ 1 := by
          rcases split_cases x.1 with ⟨a, _⟩ | ⟨a, b, e1, e2, e⟩
          · unfold parts
            split
            · simp
            · rw [splitS_plain _ a]; simp
          · rw [e] at h0
            have h0 : a = [] := h0
            subst h0
            have : isNm [] = true := List.all_eq_true.1 hall [] (by
              unfold parts
              rw [e1, if_neg (by simp)]
              show [] ∈ splitS ([] ++ 47 :: b)
              rw [splitS_app [] (by simp)]
              simp)
            exact absurd this (by decide)
        have hpn : parts p = [] := List.length_eq_zero_iff.1 (by omega)
        have := joinS_parts p
        rw [hpn] at this
        exact hp this.symm
      · rcases hv.up x hx with e | ⟨y, hy, hy1, hy2⟩
        · exact absurd e h0
        · have hk := parent_key h0
          rw [← hy1] at hk
          unfold underL at hu
          obtain ⟨h1, h2⟩ := of_decide_eq_true hu
          rw [hk] at h1 h2
          have hle : (parts p).length ≤ (parts y.1).length := by simp at h1; omega
          rw [List.take_append_of_le_length hle] at h2
          rcases Nat.lt_or_ge (parts p).length (parts y.1).length with g | g
          · exact ih y hy (by rw [hk] at hm; simp at hm; omega) (by unfold underL; exact decide_eq_true ⟨g, h2⟩)
          · have he : parts p = parts y.1 := by rw [← h2, List.take_of_length_le (by omega)]
            exact ⟨y, hy, by rw [← joinS_parts y.1, ← he, joinS_parts], hy2⟩
    · have := none_under hv hp (fun y hy e => hex ⟨y, hy, e⟩) _ x hx (Nat.le_refl _)
      rw [this] at hu; cases hu

theorem put_at' {t : List Nd} {n : Nd} (h : (t14_putF t n).2 = 0) (q : List UInt8) :
    atF (t14_putF t n).1 q = if q = n.1 then some n else if underL (parts q) (parts n.1) = true ∧ n.2.1 ≠ 2 then none else atF t q := by
  rcases putF_cases t n with ⟨_, h2⟩ | ⟨h1, h2, h3, r, h4, h5, h6⟩
  · exact absurd h h2
  have hvalid := put_valid h1 h2 h3 h4 h5
  have hne := mayF_ne h2
  rw [h6]
  dsimp only
  refine opt_ext fun x => ?_
  rw [at_iff hvalid.ord, mem_insF]
  obtain ⟨hsub, _⟩ := h4.sub
  by_cases hq : q = n.1
  · rw [if_pos hq]
    constructor
    · rintro ⟨e | hx, hx1⟩
      · rw [e]
      · exact absurd (hx1.trans hq) (hsub x hx).2
    · intro e
      obtain rfl := Option.some.inj e
      exact ⟨.inl rfl, hq.symm⟩
  · rw [if_neg hq]
    have hin : (x = n ∨ x ∈ r) ∧ x.1 = q ↔ x ∈ r ∧ x.1 = q := by
      constructor
      · rintro ⟨e | hx, hx1⟩
        · subst e; exact absurd hx1.symm hq
        · exact ⟨hx, hx1⟩
      · rintro ⟨hx, hx1⟩; exact ⟨.inr hx, hx1⟩
    rw [hin]
    rcases h4 with ⟨⟨⟨d, hd, hd1, hd2⟩, hn2⟩, rfl⟩ | ⟨hno, rfl⟩
    · rw [if_neg (fun z => z.2 hn2), at_iff h1.ord, List.mem_filter]
      constructor
      · rintro ⟨⟨a, _⟩, b⟩; exact ⟨a, b⟩
      · rintro ⟨a, b⟩; exact ⟨⟨a, by simp only [Bool.not_eq_true', decide_eq_false_iff_not]; rw [b]; exact hq⟩, b⟩
    · unfold restF
      rw [List.mem_filter]
      by_cases hu : underL (parts q) (parts n.1) = true
      · by_cases hk : n.2.1 = 2
        · rw [if_neg (fun z => z.2 hk), at_iff h1.ord]
          constructor
          · rintro ⟨⟨a, b⟩, c⟩; exact ⟨a, c⟩
          · rintro ⟨a, c⟩
            exfalso
            have := under_dir h1 hne _ x a (Nat.le_refl _) (by rw [c]; exact hu)
            exact hno ⟨this, hk⟩
        · rw [if_pos ⟨hu, hk⟩]
          constructor
          · rintro ⟨⟨a, b⟩, c⟩
            unfold gone at b
            rw [c, hu] at b
            simp at b
          · intro e; cases e
      · rw [if_neg (fun z => hu z.1), at_iff h1.ord]
        constructor
        · rintro ⟨⟨a, b⟩, c⟩; exact ⟨a, c⟩
        · rintro ⟨a, c⟩
          refine ⟨⟨a, ?_⟩, c⟩
          unfold gone
          rw [c, decide_eq_false hq, show underL (parts q) (parts n.1) = false by simpa using hu]; rfl

def delt (q : List UInt8) (s : Option Nd) : Option Nd := match s with
  | some x => if x.2.1 = 2 then some x else some (dirM 493 q)
  | none => some (dirM 493 q)

theorem find_dir {t : List Nd} (p : List UInt8) : ((findF t p).2.1 = true ∧ (findF t p).1.2.1 = 2) ↔ ∃ x, atF t p = some x ∧ x.2.1 = 2 := by
  rw [find_at]
  cases atF t p with
  | none => simp
  | some x => simp

theorem preP_inj {ns : List (List UInt8)} (h : NmOk ns) {i j : Nat} (hi : i < ns.length) (hj : j < ns.length) (e : preP ns i = preP ns j) : i = j := by
  have := congrArg (fun p => (parts p).length) e
  simp only [preP_parts h, List.length_take] at this
  omega

theorem dirs_at {ns : List (List UInt8)} (h : NmOk ns) (n : Nat) (hn : n ≤ ns.length) (q : List UInt8) : ∀ (d i : Nat) (t : List Nd), i + d = n → Valid t →
    (dirsF ((ns.take n).drop i) (joinS (ns.take i)) t).2 = 0 →
    ((∃ j, i ≤ j ∧ j < n ∧ q = preP ns j) → atF (dirsF ((ns.take n).drop i) (joinS (ns.take i)) t).1 q = delt q (atF t q)) ∧
    ((¬ ∃ j, i ≤ j ∧ j < n ∧ q = preP ns j) → atF (dirsF ((ns.take n).drop i) (joinS (ns.take i)) t).1 q = atF t q) := by
  intro d
  induction d with
  | zero =>
    intro i t hi hv _
    obtain rfl : i = n := by omega
    rw [List.drop_of_length_le (by rw [List.length_take]; omega)]
    exact ⟨fun ⟨j, a, b, _⟩ => absurd a (by omega), fun _ => rfl⟩
  | succ d ih =>
    intro i t hi hv h0
    have hx : ns[i]? = some ns[i] := List.getElem?_eq_getElem (by omega)
    have hdrop : (ns.take n).drop i = ns[i] :: (ns.take n).drop (i + 1) := by
      rw [List.drop_eq_getElem_cons (by rw [List.length_take]; omega), List.getElem_take]
    have hj := joinP_take h hx
    have hn1 : preP ns i = joinS (ns.take (i + 1)) := rfl
    rw [hdrop] at h0 ⊢
    unfold dirsF at h0 ⊢
    rw [hj] at h0 ⊢
    have cases' : (∃ j, i ≤ j ∧ j < n ∧ q = preP ns j) ↔ (q = preP ns i ∨ ∃ j, i + 1 ≤ j ∧ j < n ∧ q = preP ns j) := by
      constructor
      · rintro ⟨j, a, b, c⟩
        by_cases e : j = i
        · subst e; exact .inl c
        · exact .inr ⟨j, by omega, b, c⟩
      · rintro (c | ⟨j, a, b, c⟩)
        · exact ⟨i, Nat.le_refl _, by omega, c⟩
        · exact ⟨j, by omega, b, c⟩
    have apart : q = preP ns i → ¬ ∃ j, i + 1 ≤ j ∧ j < n ∧ q = preP ns j := by
      rintro e ⟨j, a, b, c⟩
      have := preP_inj h (by omega) (by omega) (e.symm.trans c)
      omega
    by_cases hc : (findF t (preP ns i)).2.1 = true ∧ (findF t (preP ns i)).1.2.1 = 2
    · rw [if_pos hc] at h0 ⊢
      rw [hn1] at h0 ⊢
      obtain ⟨k1, k2⟩ := ih (i + 1) t (by omega) hv h0
      rw [cases']
      obtain ⟨x, x1, x2⟩ := (find_dir _).1 hc
      constructor
      · rintro (e | e)
        · rw [k2 (apart e), e, x1]
          unfold delt
          simp only [if_pos x2]
        · exact k1 e
      · intro e
        exact k2 fun z => e (.inr z)
    · rw [if_neg hc] at h0 ⊢
      by_cases hp : (t14_putF t (dirM 493 (preP ns i))).2 = 0
      · rw [if_pos hp] at h0 ⊢
        rw [hn1] at h0 ⊢
        obtain ⟨k1, k2⟩ := ih (i + 1) _ (by omega) (putF_valid hp) h0
        have hput := put_at' hp q
        rw [← hn1] at k1 k2
        rw [cases']
        have hk2 : ¬ (dirM 493 (preP ns i)).2.1 ≠ 2 := fun z => z rfl
        rw [if_neg (fun z : underL (parts q) (parts (dirM 493 (preP ns i)).1) = true ∧ (dirM 493 (preP ns i)).2.1 ≠ 2 => hk2 z.2)] at hput
        constructor
        · rintro (e | e)
          · rw [if_pos (show q = (dirM 493 (preP ns i)).1 from e)] at hput
            rw [← hn1, k2 (apart e), hput]
            unfold delt
            rw [find_dir] at hc
            cases ha : atF t q with
            | none => dsimp only; rw [e]
            | some x =>
              dsimp only
              rw [if_neg (fun z => hc ⟨x, by rw [← e]; exact ha, z⟩), e]
          · rw [if_neg (fun z : q = (dirM 493 (preP ns i)).1 => apart z e)] at hput
            rw [← hn1, k1 e, hput]
        · intro e
          rw [if_neg (fun z : q = (dirM 493 (preP ns i)).1 => e (.inl z))] at hput
          rw [← hn1, k2 fun z => e (.inr z), hput]
      · rw [if_neg hp] at h0
        exact absurd h0 hp

def effN (ns : List (List UInt8)) (n : Nd) (q : List UInt8) (s : Option Nd) : Option Nd :=
  if q = n.1 then some n else if underL (parts q) ns = true ∧ n.2.1 ≠ 2 then none else if underL ns (parts q) = true ∧ q ≠ [] then delt q s else s

theorem pre_under {ns : List (List UInt8)} (h : NmOk ns) (q : List UInt8) : (∃ j, 0 ≤ j ∧ j < ns.length - 1 ∧ q = preP ns j) ↔ (underL ns (parts q) = true ∧ q ≠ []) := by
  constructor
  · rintro ⟨j, _, hj, rfl⟩
    rw [preP_parts h]
    constructor
    · unfold underL
      refine decide_eq_true ⟨?_, ?_⟩
      · rw [List.length_take]; omega
      · rw [List.length_take, Nat.min_eq_left (by omega)]
    · intro e
      have := congrArg (fun p => (parts p).length) e
      simp only [preP_parts h, List.length_take, show (parts []).length = 0 from rfl] at this
      omega
  · rintro ⟨hu, hq⟩
    unfold underL at hu
    obtain ⟨h1, h2⟩ := of_decide_eq_true hu
    have hpos : 0 < (parts q).length := by
      apply Nat.pos_of_ne_zero
      intro e
      have := joinS_parts q
      rw [List.length_eq_zero_iff.1 e] at this
      exact hq this.symm
    refine ⟨(parts q).length - 1, Nat.zero_le _, by omega, ?_⟩
    unfold preP
    rw [show (parts q).length - 1 + 1 = (parts q).length by omega, h2, joinS_parts]

theorem node_at {ns : List (List UInt8)} (h : NmOk ns) {t : List Nd} (hv : Valid t) {n : Nd} (hn : n.1 = joinS ns) (h0 : (nodeF ns t n).2 = 0) (q : List UInt8) : atF (nodeF ns t n).1 q = effN ns n q (atF t q) := by
  have hlt : ns.take (ns.length - 1) = ns.dropLast := List.dropLast_eq_take.symm
  have ht0 : joinS (ns.take 0) = [] := by simp [joinS]
  unfold nodeF at h0 ⊢
  by_cases hd : (dirsF ns.dropLast [] t).2 = 0
  · rw [if_pos hd] at h0 ⊢
    have hda := dirs_at h (ns.length - 1) (by omega) q (ns.length - 1) 0 t (by omega) hv (by rw [List.drop_zero, hlt, ht0]; exact hd)
    rw [List.drop_zero, hlt, ht0, pre_under h] at hda
    rw [put_at' h0 q, hn, parts_joinS ns h]
    unfold effN
    rw [hn]
    by_cases h1 : q = joinS ns
    · rw [if_pos h1, if_pos h1]
    · rw [if_neg h1, if_neg h1]
      by_cases h2 : underL (parts q) ns = true ∧ n.2.1 ≠ 2
      · rw [if_pos h2, if_pos h2]
      · rw [if_neg h2, if_neg h2]
        by_cases h3 : underL ns (parts q) = true ∧ q ≠ []
        · rw [if_pos h3, hda.1 h3]
        · rw [if_neg h3, hda.2 h3]
  · rw [if_neg hd] at h0
    exact absurd h0 hd

def effP (q : List UInt8) (s : Option Nd) (p : Pt) : Option Nd := if (whatN p).1 = 0 ∧ (whatN p).2.1 ≠ [] then effN (whatN p).2.1 (nodeOf p (joinS (whatN p).2.1)) q s else s
def clrB (q : List UInt8) (p : Pt) : Bool := (decide ((whatN p).1 = 1) && (decide (q = joinS (whatN p).2.1) || underL (parts q) (whatN p).2.1)) || (decide ((whatN p).1 = 2) && underL (parts q) (whatN p).2.1)
def clrQ (q : List UInt8) (ps : List Pt) (s : Option Nd) : Option Nd := if ps.any (clrB q) = true then none else s

theorem run_at : ∀ (ps : List Pt) (t : List Nd), Valid t → (runF ps t).2 = 0 → ∀ q, atF (runF ps t).1 q = ps.foldl (effP q) (atF t q) := by
  intro ps
  induction ps with
  | nil => intro t _ _ q; rfl
  | cons p r ih =>
    intro t hv h0 q
    unfold runF at h0 ⊢
    by_cases hp : (putsF t p).2 = 0
    · rw [if_pos hp] at h0 ⊢
      rw [ih _ (putsF_valid hv hp) h0 q, List.foldl_cons]
      congr 1
      unfold putsF effP at *
      by_cases hc : (whatN p).1 = 0 ∧ (whatN p).2.1 ≠ []
      · rw [if_pos hc] at hp ⊢
        rw [if_pos hc]
        exact node_at (whatN_sh p).1 hv rfl hp q
      · rw [if_neg hc, if_neg hc]
    · rw [if_neg hp] at h0
      exact absurd h0 hp

theorem clr_at {t : List Nd} (hv : Valid t) (p : Pt) (q : List UInt8) : atF (clrT t p) q = if clrB q p = true then none else atF t q := by
  have hvt := clrT_valid hv p
  have hsh := whatN_sh p
  have hpp : parts (joinS (whatN p).2.1) = (whatN p).2.1 := parts_joinS _ hsh.1
  refine opt_ext fun x => ?_
  rw [at_iff hvt.ord]
  have key : ∀ P : Nd → Bool, (∀ x, x.1 = q → P x = !clrB q p) → ((x ∈ t.filter P ∧ x.1 = q) ↔ (if clrB q p = true then none else atF t q) = some x) := by
    intro P hP
    rw [List.mem_filter]
    by_cases hb : clrB q p = true
    · rw [if_pos hb]
      constructor
      · rintro ⟨⟨_, a⟩, b⟩
        rw [hP x b, hb] at a; cases a
      · intro e; cases e
    · rw [if_neg hb, at_iff hv.ord]
      constructor
      · rintro ⟨⟨a, _⟩, b⟩; exact ⟨a, b⟩
      · rintro ⟨a, b⟩; exact ⟨⟨a, by rw [hP x b]; simpa using hb⟩, b⟩
  unfold clrT
  by_cases h1 : (whatN p).1 = 1
  · rw [if_pos h1]
    refine key _ fun y hy => ?_
    unfold gone clrB
    rw [hy, hpp, h1]; simp
  · rw [if_neg h1]
    by_cases h2 : (whatN p).1 = 2
    · rw [if_pos h2]
      refine key _ fun y hy => ?_
      unfold clrB
      rw [hy, hpp, h2]; simp
    · rw [if_neg h2]
      have hb : clrB q p = false := by unfold clrB; rw [decide_eq_false h1, decide_eq_false h2]; rfl
      rw [if_neg (by rw [hb]; decide), at_iff hv.ord]

theorem clears_at : ∀ (ps : List Pt) (t : List Nd), Valid t → ∀ q, atF (ps.foldl clrT t) q = clrQ q ps (atF t q) := by
  intro ps
  induction ps with
  | nil => intro t _ q; rfl
  | cons p r ih =>
    intro t hv q
    rw [List.foldl_cons, ih _ (clrT_valid hv p) q, clr_at hv p q]
    unfold clrQ
    rw [List.any_cons]
    cases clrB q p with
    | false => rfl
    | true =>
      rw [if_pos rfl]
      simp

theorem lay_at {l : List Nd} (hv : Valid l) {ps : List Pt} (ha : allOk ps = true) (h0 : (layF l ps).2 = 0) : Valid (layF l ps).1 ∧ ∀ q, atF (layF l ps).1 q = ps.foldl (effP q) (clrQ q ps (atF l q)) := by
  have hl : layF l ps = runF ps (ps.foldl clrT l) := by unfold layF; rw [if_pos hv, if_pos ha]
  rw [hl] at h0 ⊢
  have hf := folds_valid ps l hv
  refine ⟨?_, fun q => ?_⟩
  · rcases runF_valid ps _ hf with ⟨_, h⟩ | ⟨h, _⟩
    · exact h
    · exact absurd h0 h
  · rw [run_at ps _ hf h0 q, clears_at ps l hv q]
end Go.Ge

/- The law OverlayNames: what a diff names is there as it says: in plain words. -/
namespace Go.Ge
set_option linter.unusedVariables false
set_option linter.unusedSimpArgs false

theorem lay_errs {l : List Nd} (hv : Valid l) (ps : List Pt) : ((layF l ps).2 = 0 ∧ allOk ps = true) ∨ ((layF l ps).2 ≠ 0 ∧ (layF l ps).1 = [] ∧ ((layF l ps).2 = 10 ∨ (layF l ps).2 = 5)) := by
  by_cases ha : allOk ps = true
  · have hl : layF l ps = runF ps (ps.foldl clrT l) := by unfold layF; rw [if_pos hv, if_pos ha]
    rw [hl]
    have hf := folds_valid ps l hv
    rcases runF_valid ps _ hf with ⟨a1, a2⟩ | ⟨a1, a2⟩
    · exact .inl ⟨a1, ha⟩
    · rcases run_room ps _ ha hf with b | b
      · exact absurd b a1
      · exact .inr ⟨a1, a2, .inr b⟩
  · have hl : layF l ps = ([], 10) := by unfold layF; rw [if_pos hv, if_neg ha]
    rw [hl]
    exact .inr ⟨by decide, rfl, .inl rfl⟩

end Go.Ge

/- The law OverlayTwice: laid twice it is as laid once: in plain words. -/
namespace Go.Ge
set_option linter.unusedVariables false
set_option linter.unusedSimpArgs false

def Simple (q : List UInt8) (f : Option Nd → Option Nd) : Prop := (∃ c, ∀ s, f s = c) ∨ (∀ s, f s = delt q s) ∨ (∀ s, f s = s)

theorem delt_delt (q : List UInt8) (s : Option Nd) : delt q (delt q s) = delt q s := by
  cases s with
  | none => rfl
  | some x =>
    show delt q (if x.2.1 = 2 then some x else some (dirM 493 q)) = if x.2.1 = 2 then some x else some (dirM 493 q)
    by_cases h : x.2.1 = 2
    · rw [if_pos h]
      show (if x.2.1 = 2 then some x else some (dirM 493 q)) = _
      rw [if_pos h]
    · rw [if_neg h]; rfl
theorem Simple.comp {q : List UInt8} {f g : Option Nd → Option Nd} (hf : Simple q f) (hg : Simple q g) : Simple q (fun s => f (g s)) := by
  rcases hf with ⟨c, hc⟩ | hf | hf
  · exact .inl ⟨c, fun s => hc _⟩
  · rcases hg with ⟨c, hc⟩ | hg | hg
    · exact .inl ⟨delt q c, fun s => by show f (g s) = _; rw [hf, hc]⟩
    · exact .inr (.inl fun s => by show f (g s) = _; rw [hf, hg, delt_delt])
    · exact .inr (.inl fun s => by show f (g s) = _; rw [hf, hg])
  · rcases hg with ⟨c, hc⟩ | hg | hg
    · exact .inl ⟨c, fun s => by show f (g s) = _; rw [hf, hc]⟩
    · exact .inr (.inl fun s => by show f (g s) = _; rw [hf, hg])
    · exact .inr (.inr fun s => by show f (g s) = _; rw [hf, hg])
theorem Simple.twice {q : List UInt8} {f : Option Nd → Option Nd} (hf : Simple q f) (s : Option Nd) : f (f s) = f s := by
  rcases hf with ⟨c, hc⟩ | hf | hf
  · rw [hc, hc]
  · rw [hf, hf, delt_delt]
  · rw [hf, hf]

theorem eff_simple (q : List UInt8) (p : Pt) : Simple q (fun s => effP q s p) := by
  unfold effP
  by_cases hc : (whatN p).1 = 0 ∧ (whatN p).2.1 ≠ []
  · simp only [if_pos hc]
    unfold effN
    by_cases h1 : q = (nodeOf p (joinS (whatN p).2.1)).1
    · simp only [if_pos h1]; exact .inl ⟨_, fun _ => rfl⟩
    · simp only [if_neg h1]
      by_cases h2 : underL (parts q) (whatN p).2.1 = true ∧ (nodeOf p (joinS (whatN p).2.1)).2.1 ≠ 2
      · simp only [if_pos h2]; exact .inl ⟨_, fun _ => rfl⟩
      · simp only [if_neg h2]
        by_cases h3 : underL (whatN p).2.1 (parts q) = true ∧ q ≠ []
        · simp only [if_pos h3]; exact .inr (.inl fun _ => rfl)
        · simp only [if_neg h3]; exact .inr (.inr fun _ => rfl)
  · simp only [if_neg hc]; exact .inr (.inr fun _ => rfl)
theorem effs_simple (q : List UInt8) : ∀ (ps : List Pt), Simple q (fun s => ps.foldl (effP q) s) := by
  intro ps
  induction ps with
  | nil => exact .inr (.inr fun _ => rfl)
  | cons p r ih => exact ih.comp (eff_simple q p)
theorem clrQ_simple (q : List UInt8) (ps : List Pt) : Simple q (clrQ q ps) := by
  unfold clrQ
  by_cases h : ps.any (clrB q) = true
  · simp only [if_pos h]; exact .inl ⟨_, fun _ => rfl⟩
  · simp only [if_neg h]; exact .inr (.inr fun _ => rfl)

theorem lay_room {l : List Nd} (hv : Valid l) {ps : List Pt} (ha : allOk ps = true) : (layF l ps).2 = 0 ∨ (layF l ps).2 = 5 := by
  have hl : layF l ps = runF ps (ps.foldl clrT l) := by unfold layF; rw [if_pos hv, if_pos ha]
  rw [hl]
  exact run_room ps _ ha (folds_valid ps l hv)

theorem lay_twice {l : List Nd} (hv : Valid l) {ps : List Pt} (ha : allOk ps = true) (h0 : (layF l ps).2 = 0) : layF (layF l ps).1 ps = ((layF l ps).1, 0) ∨ (layF (layF l ps).1 ps).2 = 5 := by
  obtain ⟨v1, a1⟩ := lay_at hv ha h0
  rcases lay_room v1 ha with h | h
  · left
    obtain ⟨v2, a2⟩ := lay_at v1 ha h
    have : (layF (layF l ps).1 ps).1 = (layF l ps).1 := at_ext v2.ord v1.ord fun q => by
      rw [a2, a1]
      exact ((effs_simple q ps).comp (clrQ_simple q ps)).twice (atF l q)
    exact Prod.ext this h
  · exact .inr h

noncomputable def rdF (s : List UInt8) : List Pt × Int := match P_tar_Read (s, ()) with
  | some (l, e, _) => (l, e)
  | none => ([], 10)
theorem rdF_val (s : List UInt8) : P_tar_Read (s, ()) = some ((rdF s).1, ((rdF s).2, ())) ∧ SmPs (rdF s).1 := by
  obtain ⟨ps, e, r1, r2, r3, _⟩ := read_any s
  unfold rdF
  rw [r1]
  exact ⟨rfl, rd_smps r2 r3⟩
noncomputable def appF (l : List Nd) (s : List UInt8) : List Nd × Int := if (rdF s).2 = 0 then layF l (rdF s).1 else ([], 10)
theorem apply_val {l : List Nd} (hv : Valid l) (s : List UInt8) : P_overlay_Apply (l, (s, ())) = some ((appF l s).1, ((appF l s).2, ())) := by
  obtain ⟨r1, r2⟩ := rdF_val s
  rw [apply_any r1 r2 hv]
  unfold appF
  by_cases h : (rdF s).2 = 0
  · rw [if_pos h, if_pos h]
  · rw [if_neg h, if_neg h]
theorem app_cases {l : List Nd} (hv : Valid l) (s : List UInt8) : ((appF l s).2 = 0 ∧ Valid (appF l s).1 ∧ (appF (appF l s).1 s = ((appF l s).1, 0) ∨ (appF (appF l s).1 s).2 = 5)) ∨ ((appF l s).2 ≠ 0 ∧ (appF l s).1 = []) := by
  unfold appF
  by_cases h : (rdF s).2 = 0
  · rw [if_pos h]
    simp only [if_pos h]
    rcases lay_errs hv (rdF s).1 with ⟨a, b⟩ | ⟨a, b, _⟩
    · exact .inl ⟨a, (lay_at hv b a).1, lay_twice hv b a⟩
    · exact .inr ⟨a, b⟩
  · rw [if_neg h]
    exact .inr ⟨by decide, rfl⟩

noncomputable def allF : List (List UInt8) → List Nd → List Nd × Int
  | [], t => (t, 0)
  | s :: r, t => if (appF t s).2 = 0 then allF r (appF t s).1 else ([], (appF t s).2)
theorem allF_snoc : ∀ (r : List (List UInt8)) (s : List UInt8) (t u : List Nd), allF r t = (u, 0) → allF (r ++ [s]) t = if (appF u s).2 = 0 then ((appF u s).1, 0) else ([], (appF u s).2) := by
  intro r
  induction r with
  | nil =>
    intro s t u h
    have : t = u := congrArg Prod.fst h
    subst this
    rfl
  | cons a r ih =>
    intro s t u h
    rw [List.cons_append]
    unfold allF at h ⊢
    by_cases h0 : (appF t a).2 = 0
    · rw [if_pos h0] at h ⊢
      exact ih s _ u h
    · rw [if_neg h0] at h
      exact absurd (congrArg Prod.snd h) h0

theorem all_val (r : List (List UInt8)) (hr : r.length ≤ 1000) : P_overlay_All (r, ()) = some ((allF r []).1, ((allF r []).2, ())) := by
  have key : ∀ (d i : Nat) (t : List Nd), i + d = r.length → Valid t → ∃ z, Loop (P_overlay_All_L0 (r, ())) ((([] : List Nd), ((0 : Int), (t, ((i : Int), ())))), ()) = some z ∧
      (((allF (r.drop i) t).2 = 0 ∧ z.1 = 0 ∧ z.2.1.2.2.1 = (allF (r.drop i) t).1) ∨ ((allF (r.drop i) t).2 ≠ 0 ∧ z.1 = 1 ∧ z.2.1.1 = (allF (r.drop i) t).1 ∧ z.2.1.2.1 = (allF (r.drop i) t).2)) := by
    intro d
    induction d with
    | zero =>
      intro i t hi hv
      obtain rfl : i = r.length := by omega
      rw [List.drop_length]
      have hz : P_overlay_All_L0 (r, ()) ((([] : List Nd), ((0 : Int), (t, ((r.length : Int), ())))), ()) = some (.inr (0, ((([] : List Nd), ((0 : Int), (t, ((r.length : Int), ())))), ()))) := by
        unfold P_overlay_All_L0
        dsimp only
        rw [ltI_len_end, sel_false]
      exact ⟨(0, ((([] : List Nd), ((0 : Int), (t, ((r.length : Int), ())))), ())), by rw [Loop_eq, hz]; rfl, .inl ⟨rfl, rfl, rfl⟩⟩
    | succ d ih =>
      intro i t hi hv
      have hx : r[i]? = some r[i] := List.getElem?_eq_getElem (by omega)
      rw [List.drop_eq_getElem_cons (by omega)]
      unfold allF
      have hs : P_overlay_All_L0 (r, ()) ((([] : List Nd), ((0 : Int), (t, ((i : Int), ())))), ()) = some (if (appF t r[i]).2 = 0 then .inl ((([] : List Nd), ((0 : Int), ((appF t r[i]).1, (((i + 1 : Nat) : Int), ())))), ()) else .inr (1, ((([] : List Nd), ((appF t r[i]).2, (t, ((i : Int), ())))), ()))) := by
        unfold P_overlay_All_L0
        dsimp only
        rw [ltI_len_true (show i < r.length by omega), sel_true, idx_some' hx, obind_some, apply_val hv, obind_some, iadd_one (by omega)]
        dsimp only
        by_cases h0 : (appF t r[i]).2 = 0
        · rw [eqI_true h0, if_pos h0]; rfl
        · rw [eqI_false h0, if_neg h0]; rfl
      by_cases h0 : (appF t r[i]).2 = 0
      · rw [if_pos h0] at hs ⊢
        have hv2 : Valid (appF t r[i]).1 := by
          rcases app_cases hv r[i] with ⟨_, h, _⟩ | ⟨h, _⟩
          · exact h
          · exact absurd h0 h
        obtain ⟨z, z1, z2⟩ := ih (i + 1) _ (by omega) hv2
        exact ⟨z, by rw [Loop_eq, hs]; exact z1, z2⟩
      · rw [if_neg h0] at hs ⊢
        exact ⟨(1, ((([] : List Nd), ((appF t r[i]).2, (t, ((i : Int), ())))), ())), by rw [Loop_eq, hs]; rfl, .inr ⟨h0, rfl, rfl, rfl⟩⟩
  have hnil : Valid [] := validB_valid valid1.1
  obtain ⟨z, z1, z2⟩ := key r.length 0 [] (by omega) hnil
  rw [List.drop_zero] at z2
  unfold P_overlay_All
  rw [show Loop (P_overlay_All_L0 (r, ())) ((([] : List Nd), ((0 : Int), (([] : List Nd), ((0 : Int), ())))), ()) = _ from z1, obind_some]
  rcases z2 with ⟨a, b, c⟩ | ⟨a, b, c, e⟩
  · rw [b, c, a]; rfl
  · rw [b, c, e]; rfl

theorem twice_step (r : List (List UInt8)) (h4 : r.length ≤ 4) (i : Nat) (s : List UInt8) (t : List Nd) (hx : r[i]? = some s) (hv : Valid t) (ha : allF (r.take i) [] = (t, 0)) :
    (∃ u, Valid u ∧ allF (r.take (i + 1)) [] = (u, 0) ∧ P_law15_OverlayTwice_L0 (r, ()) ((false, (t, ((i : Int), ()))), ()) = some (.inl ((false, (u, (((i + 1 : Nat) : Int), ()))), ()))) ∨
    P_law15_OverlayTwice_L0 (r, ()) ((false, (t, ((i : Int), ()))), ()) = some (.inr (1, ((true, (t, ((i : Int), ()))), ()))) := by
  have hil := getElem?_lt hx
  unfold P_law15_OverlayTwice_L0
  dsimp only
  rw [ltI_len_true hil, sel_true, idx_some' hx, obind_some]
  by_cases h8 : 8192 < s.length
  · rw [ltI_true (show (8192 : Int) < len s by unfold len; omega), sel_true, awake15, obind_some]
    exact .inr rfl
  rw [ltI_false (show len s ≤ (8192 : Int) by unfold len; omega), sel_false, obind_some, apply_val hv, obind_some, iadd_one (by omega), show inside (0 : Int) ((i + 1 : Nat) : Int) (len r) = true from inside_len (a := 0) (Nat.zero_le _) hil, sel_true, sub_take, all_val _ (by rw [List.length_take]; omega), obind_some]
  have htake : r.take (i + 1) = r.take i ++ [s] := by rw [List.take_add_one, hx]; rfl
  have hal := allF_snoc (r.take i) s [] t ha
  rw [← htake] at hal
  rw [hal]
  dsimp only
  rcases app_cases hv s with ⟨h0, hv2, htw⟩ | ⟨h0, hnil⟩
  · rw [if_pos h0] at hal
    have hi2 := hv2.few
    rw [if_pos h0, eqI_true h0, show nt (nt true) = true from rfl, sel_true, same_val _ _ (by omega), obind_some, obind_some, decide_eq_true rfl, nt_true, sel_false, sel_false, obind_some, apply_val hv2, obind_some]
    dsimp only
    rcases htw with ht | ht
    · rw [ht, same_val _ _ (by omega), decide_eq_true rfl]
      exact .inl ⟨_, hv2, rfl, rfl⟩
    · rw [ht, awake15]
      exact .inr rfl
  · rw [if_neg h0, hnil, eqI_true rfl, show nt (nt true) = true from rfl, sel_true, same_val _ _ (by simp), obind_some, obind_some, decide_eq_true rfl, nt_true, sel_false, eqI_false h0, nt_false, sel_true, awake15, obind_some]
    exact .inr rfl

theorem overlayTwice_val (r : List (List UInt8)) : P_law15_OverlayTwice (r, ()) = some (true, ()) := by
  unfold P_law15_OverlayTwice
  by_cases h4 : r.length ≤ 4
  case neg =>
    rw [ltI_true (show (4 : Int) < len r by unfold len; omega), sel_true, awake15]; rfl
  rw [ltI_false (show len r ≤ (4 : Int) by unfold len; omega), sel_false]
  have key : ∀ (d i : Nat) (t : List Nd), i + d = r.length → Valid t → allF (r.take i) [] = (t, 0) → ∃ z, Loop (P_law15_OverlayTwice_L0 (r, ())) ((false, (t, ((i : Int), ()))), ()) = some z ∧ (z.1 = 0 ∨ (z.1 = 1 ∧ z.2.1.1 = true)) := by
    intro d
    induction d with
    | zero =>
      intro i t hi hv ha
      obtain rfl : i = r.length := by omega
      have hz : P_law15_OverlayTwice_L0 (r, ()) ((false, (t, ((r.length : Int), ()))), ()) = some (.inr (0, ((false, (t, ((r.length : Int), ()))), ()))) := by
        unfold P_law15_OverlayTwice_L0
        dsimp only
        rw [ltI_len_end, sel_false]
      exact ⟨(0, ((false, (t, ((r.length : Int), ()))), ())), by rw [Loop_eq, hz]; rfl, .inl rfl⟩
    | succ d ih =>
      intro i t hi hv ha
      rcases twice_step r h4 i r[i] t (List.getElem?_eq_getElem (by omega)) hv ha with ⟨u, u1, u2, u3⟩ | h
      · obtain ⟨z, z1, z2⟩ := ih (i + 1) u (by omega) u1 u2
        exact ⟨z, by rw [Loop_eq, u3]; exact z1, z2⟩
      · exact ⟨(1, ((true, (t, ((i : Int), ()))), ())), by rw [Loop_eq, h]; rfl, .inr ⟨rfl, rfl⟩⟩
  have hnil : Valid [] := validB_valid valid1.1
  obtain ⟨z, z1, z2⟩ := key r.length 0 [] (by omega) hnil rfl
  rw [show Loop (P_law15_OverlayTwice_L0 (r, ())) ((false, (([] : List Nd), ((0 : Int), ()))), ()) = _ from z1, obind_some]
  rcases z2 with a | ⟨a, b⟩
  · rw [a, show eqN 0 0 = true from rfl, sel_true, awake15]; rfl
  · rw [a, show eqN 1 0 = false from rfl, sel_false, b]
end Go.Ge
