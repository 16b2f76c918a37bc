/- The laws of layer 12 in plain words. -/
import Derived.Test.YtkjpgahmolmnmaaDoorGq12H
namespace Go.Ge
set_option linter.unusedVariables false
set_option linter.unusedSimpArgs false

def hA : Hd := ([100, 47], (2, (493, (0, (0, (0, (1, ([], ()))))))))
theorem okA : okHd hA 100 := by decide +kernel
theorem fitsA : Fits hA 493 0 0 0 1 53 := ⟨by decide, by decide, ⟨rfl, by decide⟩, ⟨rfl, by decide⟩, ⟨rfl, by decide⟩, ⟨rfl, by decide⟩, ⟨rfl, by decide⟩, .inr (.inl ⟨rfl, rfl⟩)⟩
def hC : Hd := ([100], (2, (0, (0, (0, (1, (0, ([], ()))))))))
theorem notC : ¬ okHd hC 100 := by decide +kernel
theorem oct493 : octF 493 7 ++ nul 1 = [48, 48, 48, 48, 55, 53, 53, 0] := by decide +kernel

theorem not_zero {b : List UInt8} (hb : b.length = 512) (hm : fld b 257 8 = magic) : P_header_Zero (b, ()) = some (false, ()) := by
  rw [zero_val b (by omega), decide_eq_false (fun e => magic_not_zero b hm e.2)]

theorem awake12 : P_law12_awake () = some (true, ()) := by
  unfold P_law12_awake
  have hl := putF_length fitsA
  have hf := putF_fld fitsA
  have ht := take_put okA fitsA
  have hput : P_header_Put (([100, 47], (2, (493, (0, (0, (0, (1, ([], ())))))))), ()) = some (putF hA 493 0 0 0 1 53, (0, ())) := put_val okA fitsA
  rw [hput, obind_some]
  dsimp only
  generalize putF hA 493 0 0 0 1 53 = b at hl hf ht ⊢
  have hput2 : P_header_Put (([100], (2, (0, (0, (0, (1, (0, ([], ())))))))), ()) = some (([] : List UInt8), (1, ())) := put_not notC
  rw [ht, obind_some, hput2, obind_some]
  dsimp only
  have e1 : sub b 100 (minus 108 100) = [48, 48, 48, 48, 55, 53, 53, 0] := by
    have : sub b 100 (minus 108 100) = fld b 100 8 := rfl
    rw [this, hf.2.1, oct493]
  have e2 : idx b 156 = some 53 := by
    rw [show (156 : Int) = ((156 : Nat) : Int) from rfl, idx_nat]
    have h7 := hf.2.2.2.2.2.2.2.1
    unfold fld at h7
    have := congrArg (·[0]?) h7
    simpa [List.getElem?_take, List.getElem?_drop] using this
  have hz : P_header_Zero (b, ()) = some (false, ()) := not_zero hl hf.2.2.2.2.2.2.2.2.2.1
  have hz2 : P_header_Zero (intsBytes (lrep 512 0), ()) = some (true, ()) := by
    have h1 : (intsBytes (lrep 512 0)).length = 512 := by unfold intsBytes lrep; rw [List.length_map, List.length_replicate]; rfl
    have h2 : ∀ x ∈ intsBytes (lrep 512 0), x = 0 := by
      intro x hx
      simp only [intsBytes, lrep, List.map_replicate] at hx
      exact List.eq_of_mem_replicate hx
    rw [zero_val _ (by rw [h1]; omega), decide_eq_true ⟨h1, h2⟩]
  rw [eqI_true (by simp only [len]; omega), sel_true, eqI_self, sel_true, inside_true (by decide) (by decide) (by simp only [len]; omega), sel_true, e1, eqS_self, obind_some, sel_true, e2, obind_some, show eqI (u8 53) 53 = true from rfl, obind_some, sel_true]
  rw [show (an (eqS hA.1 [100, 47]) (an (eqI hA.2.1 2) (an (eqI hA.2.2.1 493) (an (eqI hA.2.2.2.1 0) (an (eqI hA.2.2.2.2.1 0) (an (eqI hA.2.2.2.2.2.1 0) (an (eqI hA.2.2.2.2.2.2.1 1) (an (eqS hA.2.2.2.2.2.2.2.1 []) true)))))))) = true from rfl, sel_true, sel_true, eqI_self, sel_true, hz, obind_some]
  dsimp only
  rw [nt_false, obind_some, sel_true, show inside 0 512 512 = true from rfl, sel_true, fits_true (by decide), sel_true, hz2, obind_some, obind_some]

theorem headerPuts_val (h : Hd) : P_law12_HeaderPuts (h, ()) = some (true, ()) := by
  unfold P_law12_HeaderPuts
  dsimp only
  by_cases h1 : h.1.length ≤ 300
  · by_cases h2 : h.2.2.2.2.2.2.2.1.length ≤ 300
    · rw [ltI_false (by simp only [len]; omega), nt_false, sel_true, ltI_false (by simp only [len]; omega), sel_false]
      by_cases ho : okHd h 100
      · obtain ⟨m, u, g, z, t, kd, F⟩ := fits_of ho
        rw [put_val ho F, obind_some, refPut_val h1 h2 ho F, obind_some]
        dsimp only
        rw [eqS_self, sel_true, eqI_self, sel_true, awake12, obind_some, obind_some]
      · rw [put_not ho, obind_some, refPut_not h1 h2 ho, obind_some]
        dsimp only
        rw [eqS_self, sel_true, eqI_self, sel_true, awake12, obind_some, obind_some]
    · rw [ltI_false (by simp only [len]; omega), nt_false, sel_true, ltI_true (by simp only [len]; omega), sel_true, awake12, obind_some]
  · rw [ltI_true (by simp only [len]; omega), nt_true, sel_false, sel_true, awake12, obind_some]

theorem headerNot_val (b : List UInt8) : P_law12_HeaderNot (b, ()) = some (true, ()) := by
  unfold P_law12_HeaderNot
  dsimp only
  by_cases h1 : b.length ≤ 600
  · rw [ltI_false (by simp only [len]; omega), sel_false]
    by_cases h5 : b.length = 512
    · obtain ⟨x, e, ht, hm⟩ := take_total b h5
      rw [ht, obind_some]
      dsimp only
      by_cases he : e = 0
      · subst he
        rw [eqI_self, nt_true, nt_false, sel_true, eqI_true (by simp only [len]; omega), sel_true, not_zero h5 (hm rfl), obind_some]
        dsimp only
        rw [nt_false, obind_some, obind_some, sel_true, nt_true, sel_false, obind_some, obind_some, sel_true, awake12, obind_some, obind_some]
      · rw [eqI_false he, nt_false, nt_true, sel_false, obind_some, sel_true, eqI_true (by simp only [len]; omega), nt_true, sel_false, obind_some, obind_some, sel_true, awake12, obind_some, obind_some]
    · rw [take_short b h5, obind_some]
      dsimp only
      rw [eqI_false (by decide), nt_false, nt_true, sel_false, obind_some, sel_true, eqI_false (by simp only [len]; omega), nt_false, sel_true, zero_val b (by omega), obind_some]
      dsimp only
      rw [decide_eq_false (fun e => h5 e.1), nt_false, obind_some, obind_some, sel_true, awake12, obind_some, obind_some]
  · rw [ltI_true (by simp only [len]; omega), sel_true, awake12, obind_some]

/-! ### A byte changed -/
theorem ixor_nat {a b : Nat} (ha : a < 256) (hb : b < 256) : ixor .u8 (a : Int) (b : Int) = ((a ^^^ b : Nat) : Int) := by
  have hx : a ^^^ b < 256 := Nat.xor_lt_two_pow (n := 8) ha hb
  unfold ixor
  have e : (BitVec.ofInt IntKind.u8.bits (a : Int) ^^^ BitVec.ofInt IntKind.u8.bits (b : Int)).toNat = a ^^^ b := by
    rw [BitVec.toNat_xor]
    have h1 : (BitVec.ofInt IntKind.u8.bits (a : Int)).toNat = a := by
      rw [BitVec.toNat_ofInt, show (IntKind.u8.bits) = 8 from rfl]; omega
    have h2 : (BitVec.ofInt IntKind.u8.bits (b : Int)).toNat = b := by
      rw [BitVec.toNat_ofInt, show (IntKind.u8.bits) = 8 from rfl]; omega
    rw [h1, h2]
  rw [e]
  have := icv_u8 ((a ^^^ b : Nat) : Int)
  unfold icv at this
  rw [this]
  omega
theorem xor_ne {a b : Nat} (h : a ^^^ b = a) : b = 0 := by
  have : a ^^^ (a ^^^ b) = a ^^^ a := by rw [h]
  rw [← Nat.xor_assoc, Nat.xor_self, Nat.zero_xor] at this
  exact this

theorem fld_set (b : List UInt8) (k : Nat) (v : UInt8) (h : ¬ (148 ≤ k ∧ k < 156)) : fld (b.set k v) 148 8 = fld b 148 8 := by
  unfold fld
  apply List.ext_getElem?
  intro i
  rw [List.getElem?_take, List.getElem?_take]
  split
  · rw [List.getElem?_drop, List.getElem?_drop, List.getElem?_set]
    rw [if_neg (by omega)]
  · rfl

theorem an_true (a b : Bool) (ha : a = true) (hb : b = true) : an a b = true := by rw [ha, hb]; rfl

theorem headerBack_val (h : Hd) (at' by' : Int) (ha : 0 ≤ at' ∧ at' ≤ 65535) (hb' : 0 ≤ by' ∧ by' ≤ 255) : P_law12_HeaderBack (h, (at', (by', ()))) = some (true, ()) := by
  unfold P_law12_HeaderBack
  dsimp only
  by_cases h1 : h.1.length ≤ 300
  case neg => rw [ltI_true (by simp only [len]; omega), nt_true, sel_false, sel_true, awake12, obind_some]
  by_cases h2 : h.2.2.2.2.2.2.2.1.length ≤ 300
  case neg => rw [ltI_false (by simp only [len]; omega), nt_false, sel_true, ltI_true (by simp only [len]; omega), sel_true, awake12, obind_some]
  rw [ltI_false (by simp only [len]; omega), nt_false, sel_true, ltI_false (by simp only [len]; omega), sel_false]
  by_cases ho : okHd h 100
  case neg =>
    rw [put_not ho, obind_some]
    dsimp only
    rw [eqI_false (by decide), nt_false, sel_true, eqS_self, sel_true, eqI_self, sel_true, awake12, obind_some, obind_some]
  obtain ⟨m, u, g, z, t, kd, F⟩ := fits_of ho
  have hl := putF_length F
  have hf := putF_fld F
  have ht := take_put ho F
  have hn := put_sum_number F
  rw [put_val ho F, obind_some]
  dsimp only
  generalize putF h m u g z t kd = b at hl hf ht hn ⊢
  rw [eqI_self, nt_true, sel_false, ht, obind_some]
  dsimp only
  rw [show (an (eqS h.1 h.1) (an (eqI h.2.1 h.2.1) (an (eqI h.2.2.1 h.2.2.1) (an (eqI h.2.2.2.1 h.2.2.2.1) (an (eqI h.2.2.2.2.1 h.2.2.2.2.1) (an (eqI h.2.2.2.2.2.1 h.2.2.2.2.2.1) (an (eqI h.2.2.2.2.2.2.1 h.2.2.2.2.2.2.1) (an (eqS h.2.2.2.2.2.2.2.1 h.2.2.2.2.2.2.2.1) true)))))))) = true from
    an_true _ _ (eqS_self _) (an_true _ _ (eqI_self _) (an_true _ _ (eqI_self _) (an_true _ _ (eqI_self _) (an_true _ _ (eqI_self _) (an_true _ _ (eqI_self _) (an_true _ _ (eqI_self _) (an_true _ _ (eqS_self _) rfl))))))),
    show eqI (len b) 512 = true from eqI_true (by simp only [len]; omega), not_zero hl hf.2.2.2.2.2.2.2.2.2.1]
  simp only [nt_true, nt_false, sel_true, sel_false, eqI_self, obind_some]
  -- the place
  obtain ⟨a, rfl⟩ := Int.eq_ofNat_of_zero_le ha.1
  obtain ⟨y, rfl⟩ := Int.eq_ofNat_of_zero_le hb'.1
  have hk : irem (icv .i64 (a : Int)) 512 = ((a % 512 : Nat) : Int) := by
    rw [icv_i64 (by omega) (by omega)]
    exact irem_nat a 512
  have hlt : a % 512 < b.length := by omega
  rw [show eqI 512 0 = false from rfl, sel_false, fits_true (by simp only [len]; omega), sel_true, hk, within_true (by omega) (by rw [len_bytes]; omega), sel_true, idx_bytes b hlt, obind_some, sel_true, obind_some, obind_some, obind_some]
  generalize hkk : a % 512 = k at hlt ⊢
  have hbk := b[k].toNat_lt
  have hx : ixor .u8 (u8 b[k]) (y : Int) = ((b[k].toNat ^^^ y : Nat) : Int) := ixor_nat hbk (by omega)
  have hx2 : b[k].toNat ^^^ y < 256 := Nat.xor_lt_two_pow (n := 8) hbk (by omega)
  have hc : intsBytes (lset (bytesInts b) (k : Int) ((b[k].toNat ^^^ y : Nat) : Int)) = b.set k (UInt8.ofNat (b[k].toNat ^^^ y)) := by
    rw [lset_nat]
    unfold intsBytes
    rw [List.map_set, Int.toNat_natCast]
    have := intsBytes_bytes b
    unfold intsBytes at this
    rw [this]
  rw [hx, hc]
  have hlc : (b.set k (UInt8.ofNat (b[k].toNat ^^^ y))).length = 512 := by rw [List.length_set, hl]
  obtain ⟨x, e, ht2, _⟩ := take_total _ hlc
  by_cases hy : y = 0
  · subst hy
    rw [ht2, obind_some, show eqI ((0 : Nat) : Int) 0 = true from rfl, nt_true, sel_false, nt_true, sel_false, sel_true, awake12, obind_some, obind_some]
  · have hy2 : eqI (y : Int) 0 = false := eqI_false (by omega)
    by_cases hin : 148 ≤ k ∧ k < 156
    · rw [ht2, obind_some, hy2, nt_false, sel_true]
      dsimp only
      rw [leI_true (by omega), sel_true, ltI_true (by omega)]
      cases eqI e 2 with
      | true => rw [nt_true, sel_false, sel_true, awake12, obind_some, obind_some]
      | false => rw [nt_false, sel_true, sel_true, awake12, obind_some, obind_some]
    · have hv : (UInt8.ofNat (b[k].toNat ^^^ y)).toNat = b[k].toNat ^^^ y := by rw [UInt8.toNat_ofNat', Nat.mod_eq_of_lt (by simpa using hx2)]
      have hne : b[k].toNat ^^^ y ≠ b[k].toNat := fun e => hy (xor_ne e)
      have hs := sumTo_set b k (UInt8.ofNat (b[k].toNat ^^^ y)) hlt hin 512 (by omega)
      rw [if_pos (by omega), hv] at hs
      have hbad := take_bad (b.set k (UInt8.ofNat (b[k].toNat ^^^ y))) hlc (n := (sumTo b 512 : Int)) (by rw [fld_set b k _ hin]; exact hn) (by omega)
      rw [hbad, obind_some, hy2, nt_false, sel_true]
      dsimp only
      rw [eqI_self, nt_true, sel_false, sel_true, awake12, obind_some, obind_some]
end Go.Ge
