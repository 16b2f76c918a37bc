/- What a header is put as. -/
import Derived.Test.YtkjpgahmolmnmaaDoorGq12E
namespace Go.Ge
set_option linter.unusedVariables false
set_option linter.unusedSimpArgs false

def hfields : List (Int × Int × Unit) := [(0, (100, ())), (100, (8, ())), (108, (8, ())), (116, (8, ())), (124, (12, ())), (136, (12, ())), (148, (8, ())), (156, (1, ())), (157, (100, ())), (257, (8, ())), (345, (155, ()))]
theorem fields_val : P_header_fields () = some (hfields, ()) := rfl
theorem fi0 : idx hfields 0 = some (0, (100, ())) := rfl
theorem fi1 : idx hfields 1 = some (100, (8, ())) := rfl
theorem fi2 : idx hfields 2 = some (108, (8, ())) := rfl
theorem fi3 : idx hfields 3 = some (116, (8, ())) := rfl
theorem fi4 : idx hfields 4 = some (124, (12, ())) := rfl
theorem fi5 : idx hfields 5 = some (136, (12, ())) := rfl
theorem fi6 : idx hfields 6 = some (148, (8, ())) := rfl
theorem fi7 : idx hfields 7 = some (156, (1, ())) := rfl
theorem fi8 : idx hfields 8 = some (157, (100, ())) := rfl
theorem fi9 : idx hfields 9 = some (257, (8, ())) := rfl
theorem fi10 : idx hfields 10 = some (345, (155, ())) := rfl

theorem oct7 (n : Nat) (h : n < 2097152) : P_digits_Octal ((n : Int), (7, ())) = some (octF n 7, (true, ())) := by
  rw [show P_digits_Octal ((n : Int), (7, ())) = _ from octal_val n 7 (by omega) (by omega) (by omega), if_pos (by omega)]
theorem oct11 (n : Nat) (h : n < 8589934592) : P_digits_Octal ((n : Int), (11, ())) = some (octF n 11, (true, ())) := by
  rw [show P_digits_Octal ((n : Int), (11, ())) = _ from octal_val n 11 (by omega) (by omega) (by omega), if_pos (by omega)]
theorem oct6 (n : Nat) (h : n < 262144) : P_digits_Octal ((n : Int), (6, ())) = some (octF n 6, (true, ())) := by
  rw [show P_digits_Octal ((n : Int), (6, ())) = _ from octal_val n 6 (by omega) (by omega) (by omega), if_pos (by omega)]
theorem ro7 (n : Nat) (h : n < 2097152) : P_ref12_octal ((n : Int), (7, ())) = some (octF n 7, ()) := by
  unfold P_ref12_octal
  dsimp only
  rw [show P_ref01_Octal ((n : Int), (7, ())) = _ from refOctal_val n 7 (by omega) (by omega) (by omega), if_pos (by omega), obind_some]
theorem ro11 (n : Nat) (h : n < 8589934592) : P_ref12_octal ((n : Int), (11, ())) = some (octF n 11, ()) := by
  unfold P_ref12_octal
  dsimp only
  rw [show P_ref01_Octal ((n : Int), (11, ())) = _ from refOctal_val n 11 (by omega) (by omega) (by omega), if_pos (by omega), obind_some]
theorem ro6 (n : Nat) (h : n < 262144) : P_ref12_octal ((n : Int), (6, ())) = some (octF n 6, ()) := by
  unfold P_ref12_octal
  dsimp only
  rw [show P_ref01_Octal ((n : Int), (6, ())) = _ from refOctal_val n 6 (by omega) (by omega) (by omega), if_pos (by omega), obind_some]

/-- What is told of a header that may be put. -/
structure Fits (h : Hd) (m u g z t : Nat) (kd : UInt8) : Prop where
  path : h.1.length ≤ 100
  link : h.2.2.2.2.2.2.2.1.length ≤ 100
  m : h.2.2.1 = (m : Int) ∧ m < 2097152
  u : h.2.2.2.1 = (u : Int) ∧ u < 2097152
  g : h.2.2.2.2.1 = (g : Int) ∧ g < 2097152
  z : h.2.2.2.2.2.1 = (z : Int) ∧ z < 8589934592
  t : h.2.2.2.2.2.2.1 = (t : Int) ∧ t < 8589934592
  kind : (h.2.1 = 1 ∧ kd = 48) ∨ (h.2.1 = 2 ∧ kd = 53) ∨ (h.2.1 = 3 ∧ kd = 50)

theorem fits_of {h : Hd} (ho : okHd h 100) : ∃ m u g z t kd, Fits h m u g z t kd := by
  obtain ⟨n1, n2, n3, n4, n5, c, k⟩ := ho
  obtain ⟨m, hm⟩ := Int.eq_ofNat_of_zero_le n1.1
  obtain ⟨u, hu⟩ := Int.eq_ofNat_of_zero_le n2.1
  obtain ⟨g, hg⟩ := Int.eq_ofNat_of_zero_le n3.1
  obtain ⟨z, hz⟩ := Int.eq_ofNat_of_zero_le n4.1
  obtain ⟨t, ht⟩ := Int.eq_ofNat_of_zero_le n5.1
  have b1 := n1.2; have b2 := n2.2; have b3 := n3.2; have b4 := n4.2; have b5 := n5.2
  have hp : h.1.length ≤ 100 := by have := c.2.1; omega
  have hl : h.2.2.2.2.2.2.2.1.length ≤ 100 := by
    rcases k with ⟨_, k⟩ | ⟨_, k, _⟩ | ⟨_, k, _⟩
    · rw [k]; exact Nat.zero_le _
    · rw [k]; exact Nat.zero_le _
    · have := k.2.1; omega
  rcases k with ⟨k, _⟩ | ⟨k, _⟩ | ⟨k, _⟩
  · exact ⟨m, u, g, z, t, 48, hp, hl, ⟨hm, by omega⟩, ⟨hu, by omega⟩, ⟨hg, by omega⟩, ⟨hz, by omega⟩, ⟨ht, by omega⟩, .inl ⟨k, rfl⟩⟩
  · exact ⟨m, u, g, z, t, 53, hp, hl, ⟨hm, by omega⟩, ⟨hu, by omega⟩, ⟨hg, by omega⟩, ⟨hz, by omega⟩, ⟨ht, by omega⟩, .inr (.inl ⟨k, rfl⟩)⟩
  · exact ⟨m, u, g, z, t, 50, hp, hl, ⟨hm, by omega⟩, ⟨hu, by omega⟩, ⟨hg, by omega⟩, ⟨hz, by omega⟩, ⟨ht, by omega⟩, .inr (.inr ⟨k, rfl⟩)⟩

theorem kind_val {h : Hd} {m u g z t : Nat} {kd : UInt8} (F : Fits h m u g z t kd) : inside (isub .i64 h.2.1 1) h.2.1 (len ([48, 53, 50] : List UInt8)) = true ∧ sub ([48, 53, 50] : List UInt8) (isub .i64 h.2.1 1) (minus h.2.1 (isub .i64 h.2.1 1)) = [kd] ∧
    idx ([[], [48], [53], [50]] : List (List UInt8)) h.2.1 = some [kd] := by
  rcases F.kind with ⟨k, rfl⟩ | ⟨k, rfl⟩ | ⟨k, rfl⟩ <;> rw [k] <;> exact ⟨rfl, rfl, rfl⟩

/-- What is put of a header. -/
def putF (h : Hd) (m u g z t : Nat) (kd : UInt8) : List UInt8 := (fldsOf h m u g z t kd (octF (sumTo (fldsOf h m u g z t kd (nul 8)).flatten 512) 6 ++ [0, 32])).flatten

theorem lset_sum (A R : List UInt8) (d : List UInt8) (hA : A.length = 148) (hd : d.length = 6) : lset (bytesInts (A ++ ((d ++ nul 2) ++ R))) 155 32 = bytesInts (A ++ ((d ++ [0, 32]) ++ R)) := by
  rw [show (155 : Int) = ((155 : Nat) : Int) from rfl, lset_nat, bytesInts_app, List.set_append_right _ _ (by rw [length_bytes]; omega), length_bytes, hA]
  rw [bytesInts_app, bytesInts_app A, bytesInts_app (d ++ [0, 32])]
  congr 1
  rw [List.set_append_left _ _ (by rw [length_bytes, List.length_append, length_nul]; omega), bytesInts_app, bytesInts_app]
  congr 1
  rw [List.set_append_right _ _ (by rw [length_bytes]; omega), length_bytes, hd]
  rfl

theorem put_val {h : Hd} {m u g z t : Nat} {kd : UInt8} (ho : okHd h 100) (F : Fits h m u g z t kd) : P_header_Put (h, ()) = some (putF h m u g z t kd, (0, ())) := by
  obtain ⟨k1, k2, k3⟩ := kind_val F
  unfold P_header_Put
  dsimp only
  rw [is_val12, decide_eq_true ho, obind_some]
  dsimp only
  rw [nt_true, sel_false, fields_val, obind_some]
  dsimp only
  rw [F.m.1, F.u.1, F.g.1, F.z.1, F.t.1, k1, k2]
  try dsimp only
  rw [show within 0 11 = true from rfl, sel_true, fi0, obind_some, show inside 0 512 512 = true from rfl, sel_true]
  try dsimp only
  rw [oct7 m F.m.2, obind_some, show within 1 11 = true from rfl, sel_true, fi1, obind_some, show inside 100 512 512 = true from rfl, sel_true]
  try dsimp only
  rw [oct7 u F.u.2, obind_some, show within 2 11 = true from rfl, sel_true, fi2, obind_some, show inside 108 512 512 = true from rfl, sel_true]
  try dsimp only
  rw [oct7 g F.g.2, obind_some, show within 3 11 = true from rfl, sel_true, fi3, obind_some, show inside 116 512 512 = true from rfl, sel_true]
  try dsimp only
  rw [oct11 z F.z.2, obind_some, show within 4 11 = true from rfl, sel_true, fi4, obind_some, show inside 124 512 512 = true from rfl, sel_true]
  try dsimp only
  rw [oct11 t F.t.2, obind_some, show within 5 11 = true from rfl, sel_true, fi5, obind_some, show inside 136 512 512 = true from rfl, sel_true]
  try dsimp only
  rw [sel_true, show within 7 11 = true from rfl, sel_true, fi7, obind_some, show inside 156 512 512 = true from rfl, sel_true]
  try dsimp only
  rw [show within 8 11 = true from rfl, sel_true, fi8, obind_some, show inside 157 512 512 = true from rfl, sel_true]
  try dsimp only
  rw [show within 9 11 = true from rfl, sel_true, fi9, obind_some, show inside 257 512 512 = true from rfl, sel_true]
  dsimp only
  rw [flds0, ov0 (m := m) (u := u) (g := g) (z := z) (t := t) (kd := kd) F.path F.link, ov1 (m := m) (u := u) (g := g) (z := z) (t := t) (kd := kd) F.path F.link, ov2 (m := m) (u := u) (g := g) (z := z) (t := t) (kd := kd) F.path F.link, ov3 (m := m) (u := u) (g := g) (z := z) (t := t) (kd := kd) F.path F.link, ov4 (m := m) (u := u) (g := g) (z := z) (t := t) (kd := kd) F.path F.link, ov5 (m := m) (u := u) (g := g) (z := z) (t := t) (kd := kd) F.path F.link, ov7 (m := m) (u := u) (g := g) (z := z) (t := t) (kd := kd) F.path F.link, ov8 (m := m) (u := u) (g := g) (z := z) (t := t) (kd := kd) F.path F.link,
    show ([117, 115, 116, 97, 114, 0, 48, 48] : List UInt8) = magic from rfl, ov9 (m := m) (u := u) (g := g) (z := z) (t := t) (kd := kd) F.path F.link]
  have hB : ∀ sm : List UInt8, sm.length = 8 → (fldsOf h m u g z t kd sm).flatten.length = 512 := fun sm => flds_length F.path F.link sm
  have hS := sumTo_le (fldsOf h m u g z t kd (nul 8)).flatten 512
  have e0 : ∀ B : List UInt8, B.length = 512 → sub (bytesInts B) 0 (minus 512 0) = bytesInts B := fun B hB => sub_whole _ 512 (by rw [length_bytes, hB])
  have hb0 := hB (nul 8) rfl
  have hb1 := hB (octF (sumTo (fldsOf h m u g z t kd (nul 8)).flatten 512) 6 ++ nul 2) (by rw [List.length_append, length_octF]; rfl)
  have hb2 := hB (octF (sumTo (fldsOf h m u g z t kd (nul 8)).flatten 512) 6 ++ [0, 32]) (by rw [List.length_append, length_octF]; rfl)
  rw [sel_true]
  have hov := ov6 F.path F.link (m := m) (u := u) (g := g) (z := z) (t := t) (kd := kd) (sumTo (fldsOf h m u g z t kd (nul 8)).flatten 512)
  generalize hq : (fldsOf h m u g z t kd (nul 8)).flatten = B at *
  have hq' : ([h.1 ++ nul (100 - h.1.length), octF m 7 ++ nul 1, octF u 7 ++ nul 1, octF g 7 ++ nul 1, octF z 11 ++ nul 1, octF t 11 ++ nul 1, nul 8, [kd] ++ nul 0, h.2.2.2.2.2.2.2.1 ++ nul (100 - h.2.2.2.2.2.2.2.1.length), magic ++ nul 0, nul 80, nul 155, nul 12] : List (List UInt8)).flatten = B := hq
  rw [hq'] at hov ⊢
  rw [e0 B hb0, intsBytes_bytes, sum_val12 B (by omega), obind_some]
  dsimp only
  rw [hb0, oct6 _ (by omega), obind_some, show within 6 11 = true from rfl, sel_true, fi6, obind_some]
  dsimp only
  rw [show inside 148 512 512 = true from rfl, sel_true, sel_true, obind_some]
  dsimp only
  rw [show iadd .i64 (iadd .i64 148 6) 1 = 155 from rfl, show within 155 512 = true from rfl, sel_true, hov]
  have hidx := idx_getD (bytesInts (fldsOf h m u g z t kd (octF (sumTo B 512) 6 ++ nul 2)).flatten) 0 (i := 155) (by rw [length_bytes, hb1]; omega)
  rw [show idx (bytesInts (fldsOf h m u g z t kd (octF (sumTo B 512) 6 ++ nul 2)).flatten) 155 = _ from hidx, obind_some, obind_some, obind_some, sel_true]
  have hls : lset (bytesInts (fldsOf h m u g z t kd (octF (sumTo B 512) 6 ++ nul 2)).flatten) 155 32 = bytesInts (fldsOf h m u g z t kd (octF (sumTo B 512) 6 ++ [0, 32])).flatten := by
    rw [flat_split (fldsOf h m u g z t kd (octF (sumTo B 512) 6 ++ nul 2)) 6 (by simp [fldsOf]), flat_split (fldsOf h m u g z t kd (octF (sumTo B 512) 6 ++ [0, 32])) 6 (by simp [fldsOf])]
    have h1 := F.path
    exact lset_sum _ _ (octF (sumTo B 512) 6) (by simp [fldsOf, length_nul, length_octF]; omega) (length_octF _ _)
  rw [hls, e0 _ hb2, intsBytes_bytes]
  unfold putF
  rw [hq]

theorem put_not {h : Hd} (ho : ¬ okHd h 100) : P_header_Put (h, ()) = some (([] : List UInt8), (1, ())) := by
  unfold P_header_Put
  dsimp only
  rw [is_val12, decide_eq_false ho, obind_some]
  rfl

theorem refPut_val {h : Hd} {m u g z t : Nat} {kd : UInt8} (hp : h.1.length ≤ 300) (hl : h.2.2.2.2.2.2.2.1.length ≤ 300) (ho : okHd h 100) (F : Fits h m u g z t kd) : P_ref12_Put (h, ()) = some (putF h m u g z t kd, (0, ())) := by
  obtain ⟨k1, k2, k3⟩ := kind_val F
  unfold P_ref12_Put
  dsimp only
  rw [may_val h 100 (by omega) (by omega), decide_eq_true ho, obind_some]
  dsimp only
  rw [nt_true, sel_false, show inside 0 512 512 = true from rfl, sel_true, fits_true (by decide), sel_true, show intsBytes (lrep 512 0) = _ from flds0']
  rw [F.m.1, F.u.1, F.g.1, F.z.1, F.t.1, k3]
  rw [rp0 (m := m) (u := u) (g := g) (z := z) (t := t) (kd := kd) F.path F.link, obind_some, ro7 m F.m.2, obind_some, rp1 (m := m) (u := u) (g := g) (z := z) (t := t) (kd := kd) F.path F.link, obind_some, ro7 u F.u.2, obind_some, rp2 (m := m) (u := u) (g := g) (z := z) (t := t) (kd := kd) F.path F.link, obind_some, ro7 g F.g.2, obind_some, rp3 (m := m) (u := u) (g := g) (z := z) (t := t) (kd := kd) F.path F.link, obind_some,
    ro11 z F.z.2, obind_some, rp4 (m := m) (u := u) (g := g) (z := z) (t := t) (kd := kd) F.path F.link, obind_some, ro11 t F.t.2, obind_some, rp5 (m := m) (u := u) (g := g) (z := z) (t := t) (kd := kd) F.path F.link, obind_some, obind_some, rp7 (m := m) (u := u) (g := g) (z := z) (t := t) (kd := kd) F.path F.link, obind_some, rp8 (m := m) (u := u) (g := g) (z := z) (t := t) (kd := kd) F.path F.link, obind_some,
    show ([117, 115, 116, 97, 114, 0, 48, 48] : List UInt8) = magic from rfl, rp9 (m := m) (u := u) (g := g) (z := z) (t := t) (kd := kd) F.path F.link, obind_some]
  dsimp only
  have hB := flds_length (m := m) (u := u) (g := g) (z := z) (t := t) (kd := kd) F.path F.link (nul 8) rfl
  have hS := sumTo_le (fldsOf h m u g z t kd (nul 8)).flatten 512
  have hrp := rp6 F.path F.link (m := m) (u := u) (g := g) (z := z) (t := t) (kd := kd) (sumTo (fldsOf h m u g z t kd (nul 8)).flatten 512)
  generalize hq : (fldsOf h m u g z t kd (nul 8)).flatten = B at *
  have hq' : ([h.1 ++ nul (100 - h.1.length), octF m 7 ++ nul 1, octF u 7 ++ nul 1, octF g 7 ++ nul 1, octF z 11 ++ nul 1, octF t 11 ++ nul 1, nul 8, [kd] ++ nul 0, h.2.2.2.2.2.2.2.1 ++ nul (100 - h.2.2.2.2.2.2.2.1.length), magic ++ nul 0, nul 80, nul 155, nul 12] : List (List UInt8)).flatten = B := hq
  rw [hq'] at hrp ⊢
  rw [refSum_val12 B (by omega), obind_some]
  dsimp only
  rw [hB, ro6 _ (by omega), obind_some]
  dsimp only
  rw [fits_true (by simp only [plus, len, length_octF, List.length_cons, List.length_nil]; omega), sel_true]
  unfold app
  rw [hrp, obind_some]
  unfold putF
  rw [hq, show nul 0 = [] from rfl, List.append_nil]

theorem refPut_not {h : Hd} (hp : h.1.length ≤ 300) (hl : h.2.2.2.2.2.2.2.1.length ≤ 300) (ho : ¬ okHd h 100) : P_ref12_Put (h, ()) = some (([] : List UInt8), (1, ())) := by
  unfold P_ref12_Put
  dsimp only
  rw [may_val h 100 (by omega) (by omega), decide_eq_false ho, obind_some]
  rfl
end Go.Ge
