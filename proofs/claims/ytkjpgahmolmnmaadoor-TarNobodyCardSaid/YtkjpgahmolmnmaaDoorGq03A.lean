/- Digests in plain words. -/
import Derived.Test.YtkjpgahmolmnmaaDoorGq01C
namespace Go.Ge
set_option linter.unusedVariables false
set_option linter.unusedSimpArgs false

def preD : List UInt8 := [115, 104, 97, 50, 53, 54, 58]
def dgst (s : List UInt8) : List UInt8 := preD ++ hexF (intsBytes (sha s))
theorem length_dgst (s : List UInt8) : (dgst s).length = 71 := by
  unfold dgst
  rw [List.length_append, length_hexF]
  simp [intsBytes, length_sha, preD]

theorem sub_whole {α : Type} (l : List α) (n : Nat) (h : l.length = n) : sub l 0 (minus n 0) = l := by
  unfold sub minus
  rw [show ((0 : Int).toNat) = 0 from rfl, List.drop_zero, List.take_of_length_le (by omega)]

theorem of_val (s : List UInt8) (hs : s.length ≤ 1048576) : P_digest_Of (s, ()) = some (dgst s, ()) := by
  unfold P_digest_Of
  dsimp only
  rw [shaSum_val s hs, obind_some, inside_true (by decide) (by decide) (by decide), sel_true]
  dsimp only
  rw [show sub (sha s) 0 (minus 32 0) = sha s from sub_whole _ 32 (length_sha s), hex_val _ (by simp [intsBytes, length_sha]), obind_some]
  dsimp only
  rw [fits_true (by simp only [plus, len, length_hexF, intsBytes, List.length_map, length_sha, List.length_cons, List.length_nil]; omega), sel_true]
  rfl

theorem refOf_val (s : List UInt8) (hs : s.length ≤ 1048576) : P_ref03_Of (s, ()) = some (dgst s, ()) := by
  unfold P_ref03_Of
  dsimp only
  rw [refSum_val s hs, obind_some, inside_true (by decide) (by decide) (by decide), sel_true]
  dsimp only
  rw [show sub (sha s) 0 (minus 32 0) = sha s from sub_whole _ 32 (length_sha s), refHex_val _ (by simp [intsBytes, length_sha]), obind_some]
  dsimp only
  rw [fits_true (by simp only [plus, len, length_hexF, intsBytes, List.length_map, length_sha, List.length_cons, List.length_nil]; omega), sel_true]
  rfl

/-- Whether a text may be a digest: 0 or 2. -/
def chkD (t : List UInt8) : Int := if t.length = 71 ∧ t.take 7 = preD ∧ (unhexF (t.drop 7)).isSome = true then 0 else 2

theorem sub_head (l : List UInt8) (k : Nat) : sub l 0 (minus (k : Int) 0) = l.take k := by
  unfold sub minus
  rw [show ((0 : Int).toNat) = 0 from rfl, List.drop_zero, Int.sub_zero, Int.toNat_natCast]

theorem hasPrefix_val (t : List UInt8) : P_internal_stringslite_HasPrefix (t, (preD, ())) = some (decide (t.take 7 = preD), ()) := by
  unfold P_internal_stringslite_HasPrefix
  dsimp only
  by_cases h : 7 ≤ t.length
  · rw [leI_true (by simp only [len]; show (7 : Int) ≤ _; omega), sel_true, show inside 0 (len preD) (len t) = true from inside_true (by decide) (by decide) (by simp only [len]; show (7 : Int) ≤ _; omega), sel_true,
      show sub t 0 (minus (len preD) 0) = t.take 7 from sub_head t 7, obind_some]
    rfl
  · rw [leI_false (by simp only [len]; show _ < (7 : Int); omega), sel_false, obind_some]
    have : ¬ t.take 7 = preD := fun e => by
      have := congrArg List.length e
      rw [List.length_take] at this
      have h7 : preD.length = 7 := rfl
      omega
    rw [decide_eq_false this]

theorem cut_val (t : List UInt8) : P_strings_CutPrefix (t, (preD, ())) = some (if t.take 7 = preD then (t.drop 7, (true, ())) else (t, (false, ()))) := by
  unfold P_strings_CutPrefix P_internal_stringslite_CutPrefix
  dsimp only
  rw [hasPrefix_val, obind_some]
  dsimp only
  by_cases h : t.take 7 = preD
  · have h7 : 7 ≤ t.length := by
      have := congrArg List.length h
      rw [List.length_take] at this
      have : preD.length = 7 := rfl
      omega
    rw [decide_eq_true h, nt_true, sel_false, show inside (len preD) (len t) (len t) = true from inside_true (by decide) (by simp only [len]; show (7 : Int) ≤ _; omega) (Int.le_refl _), sel_true, obind_some, if_pos h,
      show sub t (len preD) (minus (len t) (len preD)) = t.drop 7 from sub_tail t 7 h7]
  · rw [decide_eq_false h, nt_false, sel_true, obind_some, if_neg h]

theorem check_val (t : List UInt8) (ht : t.length ≤ 1048576) : P_digest_Check (t, ()) = some (chkD t, ()) := by
  unfold P_digest_Check
  dsimp only
  rw [show ([115, 104, 97, 50, 53, 54, 58] : List UInt8) = preD from rfl, cut_val, obind_some]
  unfold chkD
  by_cases h : t.take 7 = preD
  · have h7 : 7 ≤ t.length := by
      have := congrArg List.length h
      rw [List.length_take] at this
      have : preD.length = 7 := rfl
      omega
    rw [if_pos h]
    dsimp only
    rw [unhex_val _ (by rw [List.length_drop]; omega), obind_some, nt_true, nt_false, sel_true]
    cases hu : unhexF (t.drop 7) with
    | none =>
      rw [if_neg (by simp)]
      show sel (sel (nt (nt false)) _ true) (some (2, ())) _ = _
      rw [nt_false, nt_true, sel_false, sel_true]
    | some l =>
      show sel (sel (nt (nt true)) _ true) _ _ = _
      rw [nt_true, nt_false, sel_true]
      by_cases h71 : t.length = 71
      · rw [eqI_true (by simp only [len, List.length_drop]; omega), nt_true, sel_false, if_pos ⟨h71, h, rfl⟩]
      · rw [eqI_false (by simp only [len, List.length_drop]; omega), nt_false, sel_true, if_neg (fun e => h71 e.1)]
  · rw [if_neg h]
    dsimp only
    rw [unhex_val _ ht, obind_some, nt_false, nt_true, sel_false, nt_true, sel_false, sel_true, if_neg (fun e => h e.2.1)]

theorem refCheck_val (t : List UInt8) (ht : t.length ≤ 1048576) : P_ref03_Check (t, ()) = some (chkD t, ()) := by
  unfold P_ref03_Check chkD
  dsimp only
  by_cases h71 : t.length = 71
  · rw [eqI_true (by simp only [len]; omega), nt_true, nt_false, sel_true, inside_true (by decide) (by decide) (by simp only [len]; omega), sel_true, obind_some,
      show sub t 0 (minus 7 0) = t.take 7 from sub_head t 7, show ([115, 104, 97, 50, 53, 54, 58] : List UInt8) = preD from rfl]
    by_cases h : t.take 7 = preD
    · rw [h, eqS_self, nt_true, sel_false, inside_true (by decide) (by simp only [len]; omega) (Int.le_refl _), sel_true,
        show sub t 7 (minus (len t) 7) = t.drop 7 from sub_tail t 7 (by omega), refUnhex_val _ (by rw [List.length_drop]; omega), obind_some]
      cases hu : unhexF (t.drop 7) with
      | none =>
        rw [if_neg (by simp)]
        show sel (nt false) (some (2, ())) _ = _
        rw [nt_false, sel_true]
      | some l =>
        show sel (nt true) _ _ = _
        rw [nt_true, sel_false, if_pos ⟨h71, rfl, rfl⟩]
    · rw [show eqS (t.take 7) preD = false from decide_eq_false h, nt_false, sel_true, if_neg (fun e => h e.2.1)]
  · rw [eqI_false (by simp only [len]; omega), nt_false, nt_true, sel_false, obind_some, sel_true, if_neg (fun e => h71 e.1)]

theorem take_dgst (s : List UInt8) : (dgst s).take 7 = preD := List.take_left' rfl
theorem drop_dgst (s : List UInt8) : (dgst s).drop 7 = hexF (intsBytes (sha s)) := List.drop_left' rfl
theorem check_dgst (s : List UInt8) : chkD (dgst s) = 0 := by
  have h3 : (unhexF ((dgst s).drop 7)).isSome = true := by
    rw [drop_dgst, unhex_hex]
    rfl
  exact if_pos ⟨length_dgst s, take_dgst s, h3⟩

theorem is_val (d s : List UInt8) (hs : s.length ≤ 1048576) : P_digest_Is (d, (s, ())) = some (decide (d = dgst s), ()) := by
  unfold P_digest_Is
  dsimp only
  rw [of_val s hs, obind_some]
  rfl

set_option maxRecDepth 100000 in
theorem dgst_abc : (dgst [97, 98, 99]).take 15 = [115, 104, 97, 50, 53, 54, 58, 98, 97, 55, 56, 49, 54, 98, 102] := by kernel_rfl
set_option maxRecDepth 100000 in
theorem sha_abd : idx (sha [97, 98, 100]) 0 = some 165 := by kernel_rfl
theorem dgst_ne : dgst [97, 98, 99] ≠ dgst [97, 98, 100] := fun e => by
  have h : intsBytes (sha [97, 98, 99]) = intsBytes (sha [97, 98, 100]) := by
    have h1 := unhex_hex (intsBytes (sha [97, 98, 99]))
    rw [← drop_dgst, e, drop_dgst, unhex_hex] at h1
    exact (Option.some.inj h1).symm
  have h1 : (sha [97, 98, 99])[0]? = some 186 := sha_abc.1
  have h2 : (sha [97, 98, 100])[0]? = some 165 := sha_abd
  have h3 := congrArg (·[0]?) h
  simp only [intsBytes, List.getElem?_map, h1, h2, Option.map_some] at h3
  exact absurd h3 (by decide)

theorem awake03 : P_law03_awake () = some (true, ()) := by
  unfold P_law03_awake
  rw [of_val _ (by decide), obind_some]
  dsimp only
  have hl := length_dgst [97, 98, 99]
  generalize hd : dgst [97, 98, 99] = d at hl
  rw [eqI_true (by simp only [len]; omega), sel_true, inside_true (by decide) (by decide) (by simp only [len]; omega), sel_true, show sub d 0 (minus 15 0) = d.take 15 from sub_head d 15, ← hd, dgst_abc, eqS_self, obind_some, sel_true, hd,
    check_val d (by omega), obind_some]
  dsimp only
  rw [← hd, check_dgst, hd, obind_some, eqI_self, sel_true, inside_true (by decide) (by simp only [len]; omega) (Int.le_refl _), sel_true, show sub d 1 (minus (len d) 1) = d.drop 1 from sub_tail d 1 (by omega),
    check_val _ (by rw [List.length_drop]; omega), obind_some]
  dsimp only
  rw [show chkD (d.drop 1) = 2 from if_neg (fun e => by rw [List.length_drop] at e; omega), obind_some, eqI_self, sel_true, is_val _ _ (by decide), obind_some]
  dsimp only
  rw [decide_eq_true hd.symm, obind_some, sel_true, is_val _ _ (by decide), obind_some]
  dsimp only
  rw [decide_eq_false (fun e => dgst_ne (hd.trans e)), nt_false, obind_some]

theorem digestIs_val (s t : List UInt8) : P_law03_DigestIs (s, (t, ())) = some (true, ()) := by
  unfold P_law03_DigestIs
  dsimp only
  by_cases h1 : s.length ≤ 1024
  · by_cases h2 : t.length ≤ 100
    · have hs : s.length ≤ 1048576 := by omega
      rw [ltI_false (by simp only [len]; omega), nt_false, sel_true, ltI_false (by simp only [len]; omega), sel_false, of_val s hs, obind_some, refOf_val s hs, obind_some]
      dsimp only
      rw [eqS_self, sel_true, check_val _ (by rw [length_dgst]; omega), obind_some, check_dgst, obind_some, eqI_self, sel_true, check_val t (by omega), obind_some, refCheck_val t (by omega), obind_some, eqI_self, obind_some, sel_true,
        is_val t s hs, obind_some, obind_some]
      dsimp only
      rw [show eqS t (dgst s) = decide (t = dgst s) from rfl, eqB_self, obind_some, sel_true, is_val _ _ hs, obind_some]
      dsimp only
      rw [decide_eq_true rfl, obind_some, sel_true, awake03, obind_some, obind_some]
    · rw [ltI_false (by simp only [len]; omega), nt_false, sel_true, ltI_true (by simp only [len]; omega), sel_true, awake03, obind_some]
  · rw [ltI_true (by simp only [len]; omega), nt_true, sel_false, sel_true, awake03, obind_some]
end Go.Ge
