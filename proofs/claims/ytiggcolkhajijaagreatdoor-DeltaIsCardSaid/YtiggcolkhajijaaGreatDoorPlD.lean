/- Plain laws of what the functions compute: part 4. -/
import Derived.Test.YtiggcolkhajijaaGreatDoorPlC
/- A header's block, field by field. -/
namespace Go.Ge
set_option linter.unusedVariables false
set_option linter.unusedSimpArgs false

def nul (n : Nat) : List UInt8 := List.replicate n 0
theorem length_nul (n : Nat) : (nul n).length = n := List.length_replicate
def magic : List UInt8 := [117, 115, 116, 97, 114, 0, 48, 48]

theorem flat_split (fs : List (List UInt8)) (k : Nat) (hk : k < fs.length) : fs.flatten = (fs.take k).flatten ++ (fs[k] ++ (fs.drop (k + 1)).flatten) := by
  conv => lhs; rw [← List.take_append_drop k fs, List.drop_eq_getElem_cons hk]
  rw [List.flatten_append, List.flatten_cons]
theorem flat_set (fs : List (List UInt8)) (k : Nat) (hk : k < fs.length) (x : List UInt8) : (fs.set k x).flatten = (fs.take k).flatten ++ (x ++ (fs.drop (k + 1)).flatten) := by
  rw [List.set_eq_take_append_cons_drop, if_pos hk, List.flatten_append, List.flatten_cons]

theorem over_mid (A z R s : List UInt8) (off : Nat) (hA : A.length = off) (hs : s.length ≤ z.length) : over (bytesInts (A ++ (z ++ R))) (off : Int) (bytesInts s) = bytesInts (A ++ ((s ++ z.drop s.length) ++ R)) := by
  unfold over
  rw [Int.toNat_natCast, length_bytes]
  have h1 : (bytesInts (A ++ (z ++ R))).take off = bytesInts A := by rw [bytesInts_take, List.take_left' hA]
  have h2 : (bytesInts (A ++ (z ++ R))).drop (off + s.length) = bytesInts (z.drop s.length ++ R) := by
    have : (A ++ (z ++ R)).drop (off + s.length) = z.drop s.length ++ R := by
      rw [← hA, ← List.drop_drop, List.drop_left, List.drop_append_of_le_length hs]
    rw [← this]
    simp [bytesInts, List.map_drop]
  rw [h1, h2, ← bytesInts_app, ← bytesInts_app, List.append_assoc, List.append_assoc]

theorem ov (fs : List (List UInt8)) (k : Nat) (hk : k < fs.length) (s : List UInt8) (n l off : Nat) (hz : fs[k] = nul n) (hl : s.length = l) (hln : l ≤ n) (ho : (fs.take k).flatten.length = off) (h5 : off + l ≤ 512) :
    over (bytesInts fs.flatten) (off : Int) (ltake (bytesInts s) (minus 512 (off : Int))) = bytesInts (fs.set k (s ++ nul (n - l))).flatten := by
  have e : ltake (bytesInts s) (minus 512 (off : Int)) = bytesInts s := by
    unfold ltake minus
    rw [List.take_of_length_le]
    rw [length_bytes]; omega
  rw [e, flat_split fs k hk, over_mid _ _ _ _ off ho (by rw [hz, length_nul]; omega), flat_set fs k hk, hz, hl]
  simp [nul]

theorem rput (fs : List (List UInt8)) (k : Nat) (hk : k < fs.length) (s : List UInt8) (n l off : Nat) (hz : fs[k] = nul n) (hl : s.length = l) (hln : l ≤ n) (ho : (fs.take k).flatten.length = off) (h5 : fs.flatten.length = 512) :
    P_ref12_put (fs.flatten, ((off : Int), (s, ()))) = some ((fs.set k (s ++ nul (n - l))).flatten, ()) := by
  have hsp := flat_split fs k hk
  have hlen : (fs.take k).flatten.length + (fs[k].length + (fs.drop (k + 1)).flatten.length) = 512 := by rw [← h5, hsp, List.length_append, List.length_append]
  rw [hz, length_nul] at hlen
  unfold P_ref12_put
  dsimp only
  have hL : len fs.flatten = 512 := by simp only [len]; omega
  rw [hL, inside_true (by omega) (by omega) (by omega), sel_true]
  have e1 : sub fs.flatten 0 (minus (off : Int) 0) = (fs.take k).flatten := by rw [sub_head, hsp, List.take_left' ho]
  have e2 : iadd .i64 (off : Int) (len s) = ((off + l : Nat) : Int) := by rw [show len s = (l : Int) by simp only [len]; omega]; exact iadd_nat (by omega)
  have e3 : sub fs.flatten ((off + l : Nat) : Int) (minus 512 ((off + l : Nat) : Int)) = nul (n - l) ++ (fs.drop (k + 1)).flatten := by
    have := sub_tail fs.flatten (off + l) (by omega)
    rw [hL] at this
    rw [this, hsp, ← ho, ← List.drop_drop, List.drop_left, hz, List.drop_append_of_le_length (by rw [length_nul]; omega)]
    simp [nul]
  rw [e1, e2, fits_true (by simp only [plus, len]; omega), sel_true, inside_true (by omega) (by omega) (Int.le_refl _), sel_true, e3, fits_true (by simp only [plus, len, app, List.length_append, length_nul]; omega), sel_true, flat_set fs k hk]
  unfold app
  simp only [List.append_assoc]

/-- The fields of a header's block, with what stands in the sum's. -/
def fldsOf (h : Hd) (m u g z t : Nat) (kd : UInt8) (sm : List UInt8) : List (List UInt8) := [h.1 ++ nul (100 - h.1.length), octF m 7 ++ nul 1, octF u 7 ++ nul 1, octF g 7 ++ nul 1, octF z 11 ++ nul 1, octF t 11 ++ nul 1, sm, [kd] ++ nul 0, h.2.2.2.2.2.2.2.1 ++ nul (100 - h.2.2.2.2.2.2.2.1.length), magic ++ nul 0, nul 80, nul 155, nul 12]

theorem flds_length {h : Hd} {m u g z t : Nat} {kd : UInt8} (h1 : h.1.length ≤ 100) (h2 : h.2.2.2.2.2.2.2.1.length ≤ 100) (sm : List UInt8) (hs : sm.length = 8) : (fldsOf h m u g z t kd sm).flatten.length = 512 := by
  simp only [fldsOf, magic, List.flatten_cons, List.flatten_nil, List.length_append, length_nul, length_octF, List.length_cons, List.length_nil, hs]
  omega
theorem ov0 {h : Hd} {m u g z t : Nat} {kd : UInt8} (h1 : h.1.length ≤ 100) (h2 : h.2.2.2.2.2.2.2.1.length ≤ 100) : over (bytesInts ([nul 100, nul 8, nul 8, nul 8, nul 12, nul 12, nul 8, nul 1, nul 100, nul 8, nul 80, nul 155, nul 12] : List (List UInt8)).flatten) 0 (ltake (bytesInts (h.1)) (minus 512 0)) = bytesInts ([h.1 ++ nul (100 - h.1.length), nul 8, nul 8, nul 8, nul 12, nul 12, nul 8, nul 1, nul 100, nul 8, nul 80, nul 155, nul 12] : List (List UInt8)).flatten :=
  ov [nul 100, nul 8, nul 8, nul 8, nul 12, nul 12, nul 8, nul 1, nul 100, nul 8, nul 80, nul 155, nul 12] 0 (by simp) (h.1) 100 (h.1.length) 0 rfl (by simp [length_octF, magic]) (by omega) (by simp [length_nul, length_octF]; try omega) (by omega)
theorem rp0 {h : Hd} {m u g z t : Nat} {kd : UInt8} (h1 : h.1.length ≤ 100) (h2 : h.2.2.2.2.2.2.2.1.length ≤ 100) : P_ref12_put (([nul 100, nul 8, nul 8, nul 8, nul 12, nul 12, nul 8, nul 1, nul 100, nul 8, nul 80, nul 155, nul 12] : List (List UInt8)).flatten, (0, (h.1, ()))) = some (([h.1 ++ nul (100 - h.1.length), nul 8, nul 8, nul 8, nul 12, nul 12, nul 8, nul 1, nul 100, nul 8, nul 80, nul 155, nul 12] : List (List UInt8)).flatten, ()) :=
  rput [nul 100, nul 8, nul 8, nul 8, nul 12, nul 12, nul 8, nul 1, nul 100, nul 8, nul 80, nul 155, nul 12] 0 (by simp) (h.1) 100 (h.1.length) 0 rfl (by simp [length_octF, magic]) (by omega) (by simp [length_nul, length_octF]; try omega) (by simp [length_nul, length_octF, magic]; try omega)
theorem ov1 {h : Hd} {m u g z t : Nat} {kd : UInt8} (h1 : h.1.length ≤ 100) (h2 : h.2.2.2.2.2.2.2.1.length ≤ 100) : over (bytesInts ([h.1 ++ nul (100 - h.1.length), nul 8, nul 8, nul 8, nul 12, nul 12, nul 8, nul 1, nul 100, nul 8, nul 80, nul 155, nul 12] : List (List UInt8)).flatten) 100 (ltake (bytesInts (octF m 7)) (minus 512 100)) = bytesInts ([h.1 ++ nul (100 - h.1.length), octF m 7 ++ nul 1, nul 8, nul 8, nul 12, nul 12, nul 8, nul 1, nul 100, nul 8, nul 80, nul 155, nul 12] : List (List UInt8)).flatten :=
  ov [h.1 ++ nul (100 - h.1.length), nul 8, nul 8, nul 8, nul 12, nul 12, nul 8, nul 1, nul 100, nul 8, nul 80, nul 155, nul 12] 1 (by simp) (octF m 7) 8 (7) 100 rfl (by simp [length_octF, magic]) (by omega) (by simp [length_nul, length_octF]; try omega) (by omega)
theorem rp1 {h : Hd} {m u g z t : Nat} {kd : UInt8} (h1 : h.1.length ≤ 100) (h2 : h.2.2.2.2.2.2.2.1.length ≤ 100) : P_ref12_put (([h.1 ++ nul (100 - h.1.length), nul 8, nul 8, nul 8, nul 12, nul 12, nul 8, nul 1, nul 100, nul 8, nul 80, nul 155, nul 12] : List (List UInt8)).flatten, (100, (octF m 7, ()))) = some (([h.1 ++ nul (100 - h.1.length), octF m 7 ++ nul 1, nul 8, nul 8, nul 12, nul 12, nul 8, nul 1, nul 100, nul 8, nul 80, nul 155, nul 12] : List (List UInt8)).flatten, ()) :=
  rput [h.1 ++ nul (100 - h.1.length), nul 8, nul 8, nul 8, nul 12, nul 12, nul 8, nul 1, nul 100, nul 8, nul 80, nul 155, nul 12] 1 (by simp) (octF m 7) 8 (7) 100 rfl (by simp [length_octF, magic]) (by omega) (by simp [length_nul, length_octF]; try omega) (by simp [length_nul, length_octF, magic]; try omega)
theorem ov2 {h : Hd} {m u g z t : Nat} {kd : UInt8} (h1 : h.1.length ≤ 100) (h2 : h.2.2.2.2.2.2.2.1.length ≤ 100) : over (bytesInts ([h.1 ++ nul (100 - h.1.length), octF m 7 ++ nul 1, nul 8, nul 8, nul 12, nul 12, nul 8, nul 1, nul 100, nul 8, nul 80, nul 155, nul 12] : List (List UInt8)).flatten) 108 (ltake (bytesInts (octF u 7)) (minus 512 108)) = bytesInts ([h.1 ++ nul (100 - h.1.length), octF m 7 ++ nul 1, octF u 7 ++ nul 1, nul 8, nul 12, nul 12, nul 8, nul 1, nul 100, nul 8, nul 80, nul 155, nul 12] : List (List UInt8)).flatten :=
  ov [h.1 ++ nul (100 - h.1.length), octF m 7 ++ nul 1, nul 8, nul 8, nul 12, nul 12, nul 8, nul 1, nul 100, nul 8, nul 80, nul 155, nul 12] 2 (by simp) (octF u 7) 8 (7) 108 rfl (by simp [length_octF, magic]) (by omega) (by simp [length_nul, length_octF]; try omega) (by omega)
theorem rp2 {h : Hd} {m u g z t : Nat} {kd : UInt8} (h1 : h.1.length ≤ 100) (h2 : h.2.2.2.2.2.2.2.1.length ≤ 100) : P_ref12_put (([h.1 ++ nul (100 - h.1.length), octF m 7 ++ nul 1, nul 8, nul 8, nul 12, nul 12, nul 8, nul 1, nul 100, nul 8, nul 80, nul 155, nul 12] : List (List UInt8)).flatten, (108, (octF u 7, ()))) = some (([h.1 ++ nul (100 - h.1.length), octF m 7 ++ nul 1, octF u 7 ++ nul 1, nul 8, nul 12, nul 12, nul 8, nul 1, nul 100, nul 8, nul 80, nul 155, nul 12] : List (List UInt8)).flatten, ()) :=
  rput [h.1 ++ nul (100 - h.1.length), octF m 7 ++ nul 1, nul 8, nul 8, nul 12, nul 12, nul 8, nul 1, nul 100, nul 8, nul 80, nul 155, nul 12] 2 (by simp) (octF u 7) 8 (7) 108 rfl (by simp [length_octF, magic]) (by omega) (by simp [length_nul, length_octF]; try omega) (by simp [length_nul, length_octF, magic]; try omega)
theorem ov3 {h : Hd} {m u g z t : Nat} {kd : UInt8} (h1 : h.1.length ≤ 100) (h2 : h.2.2.2.2.2.2.2.1.length ≤ 100) : over (bytesInts ([h.1 ++ nul (100 - h.1.length), octF m 7 ++ nul 1, octF u 7 ++ nul 1, nul 8, nul 12, nul 12, nul 8, nul 1, nul 100, nul 8, nul 80, nul 155, nul 12] : List (List UInt8)).flatten) 116 (ltake (bytesInts (octF g 7)) (minus 512 116)) = bytesInts ([h.1 ++ nul (100 - h.1.length), octF m 7 ++ nul 1, octF u 7 ++ nul 1, octF g 7 ++ nul 1, nul 12, nul 12, nul 8, nul 1, nul 100, nul 8, nul 80, nul 155, nul 12] : List (List UInt8)).flatten :=
  ov [h.1 ++ nul (100 - h.1.length), octF m 7 ++ nul 1, octF u 7 ++ nul 1, nul 8, nul 12, nul 12, nul 8, nul 1, nul 100, nul 8, nul 80, nul 155, nul 12] 3 (by simp) (octF g 7) 8 (7) 116 rfl (by simp [length_octF, magic]) (by omega) (by simp [length_nul, length_octF]; try omega) (by omega)
theorem rp3 {h : Hd} {m u g z t : Nat} {kd : UInt8} (h1 : h.1.length ≤ 100) (h2 : h.2.2.2.2.2.2.2.1.length ≤ 100) : P_ref12_put (([h.1 ++ nul (100 - h.1.length), octF m 7 ++ nul 1, octF u 7 ++ nul 1, nul 8, nul 12, nul 12, nul 8, nul 1, nul 100, nul 8, nul 80, nul 155, nul 12] : List (List UInt8)).flatten, (116, (octF g 7, ()))) = some (([h.1 ++ nul (100 - h.1.length), octF m 7 ++ nul 1, octF u 7 ++ nul 1, octF g 7 ++ nul 1, nul 12, nul 12, nul 8, nul 1, nul 100, nul 8, nul 80, nul 155, nul 12] : List (List UInt8)).flatten, ()) :=
  rput [h.1 ++ nul (100 - h.1.length), octF m 7 ++ nul 1, octF u 7 ++ nul 1, nul 8, nul 12, nul 12, nul 8, nul 1, nul 100, nul 8, nul 80, nul 155, nul 12] 3 (by simp) (octF g 7) 8 (7) 116 rfl (by simp [length_octF, magic]) (by omega) (by simp [length_nul, length_octF]; try omega) (by simp [length_nul, length_octF, magic]; try omega)
theorem ov4 {h : Hd} {m u g z t : Nat} {kd : UInt8} (h1 : h.1.length ≤ 100) (h2 : h.2.2.2.2.2.2.2.1.length ≤ 100) : over (bytesInts ([h.1 ++ nul (100 - h.1.length), octF m 7 ++ nul 1, octF u 7 ++ nul 1, octF g 7 ++ nul 1, nul 12, nul 12, nul 8, nul 1, nul 100, nul 8, nul 80, nul 155, nul 12] : List (List UInt8)).flatten) 124 (ltake (bytesInts (octF z 11)) (minus 512 124)) = bytesInts ([h.1 ++ nul (100 - h.1.length), octF m 7 ++ nul 1, octF u 7 ++ nul 1, octF g 7 ++ nul 1, octF z 11 ++ nul 1, nul 12, nul 8, nul 1, nul 100, nul 8, nul 80, nul 155, nul 12] : List (List UInt8)).flatten :=
  ov [h.1 ++ nul (100 - h.1.length), octF m 7 ++ nul 1, octF u 7 ++ nul 1, octF g 7 ++ nul 1, nul 12, nul 12, nul 8, nul 1, nul 100, nul 8, nul 80, nul 155, nul 12] 4 (by simp) (octF z 11) 12 (11) 124 rfl (by simp [length_octF, magic]) (by omega) (by simp [length_nul, length_octF]; try omega) (by omega)
theorem rp4 {h : Hd} {m u g z t : Nat} {kd : UInt8} (h1 : h.1.length ≤ 100) (h2 : h.2.2.2.2.2.2.2.1.length ≤ 100) : P_ref12_put (([h.1 ++ nul (100 - h.1.length), octF m 7 ++ nul 1, octF u 7 ++ nul 1, octF g 7 ++ nul 1, nul 12, nul 12, nul 8, nul 1, nul 100, nul 8, nul 80, nul 155, nul 12] : List (List UInt8)).flatten, (124, (octF z 11, ()))) = some (([h.1 ++ nul (100 - h.1.length), octF m 7 ++ nul 1, octF u 7 ++ nul 1, octF g 7 ++ nul 1, octF z 11 ++ nul 1, nul 12, nul 8, nul 1, nul 100, nul 8, nul 80, nul 155, nul 12] : List (List UInt8)).flatten, ()) :=
  rput [h.1 ++ nul (100 - h.1.length), octF m 7 ++ nul 1, octF u 7 ++ nul 1, octF g 7 ++ nul 1, nul 12, nul 12, nul 8, nul 1, nul 100, nul 8, nul 80, nul 155, nul 12] 4 (by simp) (octF z 11) 12 (11) 124 rfl (by simp [length_octF, magic]) (by omega) (by simp [length_nul, length_octF]; try omega) (by simp [length_nul, length_octF, magic]; try omega)
theorem ov5 {h : Hd} {m u g z t : Nat} {kd : UInt8} (h1 : h.1.length ≤ 100) (h2 : h.2.2.2.2.2.2.2.1.length ≤ 100) : over (bytesInts ([h.1 ++ nul (100 - h.1.length), octF m 7 ++ nul 1, octF u 7 ++ nul 1, octF g 7 ++ nul 1, octF z 11 ++ nul 1, nul 12, nul 8, nul 1, nul 100, nul 8, nul 80, nul 155, nul 12] : List (List UInt8)).flatten) 136 (ltake (bytesInts (octF t 11)) (minus 512 136)) = bytesInts ([h.1 ++ nul (100 - h.1.length), octF m 7 ++ nul 1, octF u 7 ++ nul 1, octF g 7 ++ nul 1, octF z 11 ++ nul 1, octF t 11 ++ nul 1, nul 8, nul 1, nul 100, nul 8, nul 80, nul 155, nul 12] : List (List UInt8)).flatten :=
  ov [h.1 ++ nul (100 - h.1.length), octF m 7 ++ nul 1, octF u 7 ++ nul 1, octF g 7 ++ nul 1, octF z 11 ++ nul 1, nul 12, nul 8, nul 1, nul 100, nul 8, nul 80, nul 155, nul 12] 5 (by simp) (octF t 11) 12 (11) 136 rfl (by simp [length_octF, magic]) (by omega) (by simp [length_nul, length_octF]; try omega) (by omega)
theorem rp5 {h : Hd} {m u g z t : Nat} {kd : UInt8} (h1 : h.1.length ≤ 100) (h2 : h.2.2.2.2.2.2.2.1.length ≤ 100) : P_ref12_put (([h.1 ++ nul (100 - h.1.length), octF m 7 ++ nul 1, octF u 7 ++ nul 1, octF g 7 ++ nul 1, octF z 11 ++ nul 1, nul 12, nul 8, nul 1, nul 100, nul 8, nul 80, nul 155, nul 12] : List (List UInt8)).flatten, (136, (octF t 11, ()))) = some (([h.1 ++ nul (100 - h.1.length), octF m 7 ++ nul 1, octF u 7 ++ nul 1, octF g 7 ++ nul 1, octF z 11 ++ nul 1, octF t 11 ++ nul 1, nul 8, nul 1, nul 100, nul 8, nul 80, nul 155, nul 12] : List (List UInt8)).flatten, ()) :=
  rput [h.1 ++ nul (100 - h.1.length), octF m 7 ++ nul 1, octF u 7 ++ nul 1, octF g 7 ++ nul 1, octF z 11 ++ nul 1, nul 12, nul 8, nul 1, nul 100, nul 8, nul 80, nul 155, nul 12] 5 (by simp) (octF t 11) 12 (11) 136 rfl (by simp [length_octF, magic]) (by omega) (by simp [length_nul, length_octF]; try omega) (by simp [length_nul, length_octF, magic]; try omega)
theorem ov7 {h : Hd} {m u g z t : Nat} {kd : UInt8} (h1 : h.1.length ≤ 100) (h2 : h.2.2.2.2.2.2.2.1.length ≤ 100) : over (bytesInts ([h.1 ++ nul (100 - h.1.length), octF m 7 ++ nul 1, octF u 7 ++ nul 1, octF g 7 ++ nul 1, octF z 11 ++ nul 1, octF t 11 ++ nul 1, nul 8, nul 1, nul 100, nul 8, nul 80, nul 155, nul 12] : List (List UInt8)).flatten) 156 (ltake (bytesInts ([kd])) (minus 512 156)) = bytesInts ([h.1 ++ nul (100 - h.1.length), octF m 7 ++ nul 1, octF u 7 ++ nul 1, octF g 7 ++ nul 1, octF z 11 ++ nul 1, octF t 11 ++ nul 1, nul 8, [kd] ++ nul 0, nul 100, nul 8, nul 80, nul 155, nul 12] : List (List UInt8)).flatten :=
  ov [h.1 ++ nul (100 - h.1.length), octF m 7 ++ nul 1, octF u 7 ++ nul 1, octF g 7 ++ nul 1, octF z 11 ++ nul 1, octF t 11 ++ nul 1, nul 8, nul 1, nul 100, nul 8, nul 80, nul 155, nul 12] 7 (by simp) ([kd]) 1 (1) 156 rfl (by simp [length_octF, magic]) (by omega) (by simp [length_nul, length_octF]; try omega) (by omega)
theorem rp7 {h : Hd} {m u g z t : Nat} {kd : UInt8} (h1 : h.1.length ≤ 100) (h2 : h.2.2.2.2.2.2.2.1.length ≤ 100) : P_ref12_put (([h.1 ++ nul (100 - h.1.length), octF m 7 ++ nul 1, octF u 7 ++ nul 1, octF g 7 ++ nul 1, octF z 11 ++ nul 1, octF t 11 ++ nul 1, nul 8, nul 1, nul 100, nul 8, nul 80, nul 155, nul 12] : List (List UInt8)).flatten, (156, ([kd], ()))) = some (([h.1 ++ nul (100 - h.1.length), octF m 7 ++ nul 1, octF u 7 ++ nul 1, octF g 7 ++ nul 1, octF z 11 ++ nul 1, octF t 11 ++ nul 1, nul 8, [kd] ++ nul 0, nul 100, nul 8, nul 80, nul 155, nul 12] : List (List UInt8)).flatten, ()) :=
  rput [h.1 ++ nul (100 - h.1.length), octF m 7 ++ nul 1, octF u 7 ++ nul 1, octF g 7 ++ nul 1, octF z 11 ++ nul 1, octF t 11 ++ nul 1, nul 8, nul 1, nul 100, nul 8, nul 80, nul 155, nul 12] 7 (by simp) ([kd]) 1 (1) 156 rfl (by simp [length_octF, magic]) (by omega) (by simp [length_nul, length_octF]; try omega) (by simp [length_nul, length_octF, magic]; try omega)
theorem ov8 {h : Hd} {m u g z t : Nat} {kd : UInt8} (h1 : h.1.length ≤ 100) (h2 : h.2.2.2.2.2.2.2.1.length ≤ 100) : over (bytesInts ([h.1 ++ nul (100 - h.1.length), octF m 7 ++ nul 1, octF u 7 ++ nul 1, octF g 7 ++ nul 1, octF z 11 ++ nul 1, octF t 11 ++ nul 1, nul 8, [kd] ++ nul 0, nul 100, nul 8, nul 80, nul 155, nul 12] : List (List UInt8)).flatten) 157 (ltake (bytesInts (h.2.2.2.2.2.2.2.1)) (minus 512 157)) = bytesInts ([h.1 ++ nul (100 - h.1.length), octF m 7 ++ nul 1, octF u 7 ++ nul 1, octF g 7 ++ nul 1, octF z 11 ++ nul 1, octF t 11 ++ nul 1, nul 8, [kd] ++ nul 0, h.2.2.2.2.2.2.2.1 ++ nul (100 - h.2.2.2.2.2.2.2.1.length), nul 8, nul 80, nul 155, nul 12] : List (List UInt8)).flatten :=
  ov [h.1 ++ nul (100 - h.1.length), octF m 7 ++ nul 1, octF u 7 ++ nul 1, octF g 7 ++ nul 1, octF z 11 ++ nul 1, octF t 11 ++ nul 1, nul 8, [kd] ++ nul 0, nul 100, nul 8, nul 80, nul 155, nul 12] 8 (by simp) (h.2.2.2.2.2.2.2.1) 100 (h.2.2.2.2.2.2.2.1.length) 157 rfl (by simp [length_octF, magic]) (by omega) (by simp [length_nul, length_octF]; try omega) (by omega)
theorem rp8 {h : Hd} {m u g z t : Nat} {kd : UInt8} (h1 : h.1.length ≤ 100) (h2 : h.2.2.2.2.2.2.2.1.length ≤ 100) : P_ref12_put (([h.1 ++ nul (100 - h.1.length), octF m 7 ++ nul 1, octF u 7 ++ nul 1, octF g 7 ++ nul 1, octF z 11 ++ nul 1, octF t 11 ++ nul 1, nul 8, [kd] ++ nul 0, nul 100, nul 8, nul 80, nul 155, nul 12] : List (List UInt8)).flatten, (157, (h.2.2.2.2.2.2.2.1, ()))) = some (([h.1 ++ nul (100 - h.1.length), octF m 7 ++ nul 1, octF u 7 ++ nul 1, octF g 7 ++ nul 1, octF z 11 ++ nul 1, octF t 11 ++ nul 1, nul 8, [kd] ++ nul 0, h.2.2.2.2.2.2.2.1 ++ nul (100 - h.2.2.2.2.2.2.2.1.length), nul 8, nul 80, nul 155, nul 12] : List (List UInt8)).flatten, ()) :=
  rput [h.1 ++ nul (100 - h.1.length), octF m 7 ++ nul 1, octF u 7 ++ nul 1, octF g 7 ++ nul 1, octF z 11 ++ nul 1, octF t 11 ++ nul 1, nul 8, [kd] ++ nul 0, nul 100, nul 8, nul 80, nul 155, nul 12] 8 (by simp) (h.2.2.2.2.2.2.2.1) 100 (h.2.2.2.2.2.2.2.1.length) 157 rfl (by simp [length_octF, magic]) (by omega) (by simp [length_nul, length_octF]; try omega) (by simp [length_nul, length_octF, magic]; try omega)
theorem ov9 {h : Hd} {m u g z t : Nat} {kd : UInt8} (h1 : h.1.length ≤ 100) (h2 : h.2.2.2.2.2.2.2.1.length ≤ 100) : over (bytesInts ([h.1 ++ nul (100 - h.1.length), octF m 7 ++ nul 1, octF u 7 ++ nul 1, octF g 7 ++ nul 1, octF z 11 ++ nul 1, octF t 11 ++ nul 1, nul 8, [kd] ++ nul 0, h.2.2.2.2.2.2.2.1 ++ nul (100 - h.2.2.2.2.2.2.2.1.length), nul 8, nul 80, nul 155, nul 12] : List (List UInt8)).flatten) 257 (ltake (bytesInts (magic)) (minus 512 257)) = bytesInts ([h.1 ++ nul (100 - h.1.length), octF m 7 ++ nul 1, octF u 7 ++ nul 1, octF g 7 ++ nul 1, octF z 11 ++ nul 1, octF t 11 ++ nul 1, nul 8, [kd] ++ nul 0, h.2.2.2.2.2.2.2.1 ++ nul (100 - h.2.2.2.2.2.2.2.1.length), magic ++ nul 0, nul 80, nul 155, nul 12] : List (List UInt8)).flatten :=
  ov [h.1 ++ nul (100 - h.1.length), octF m 7 ++ nul 1, octF u 7 ++ nul 1, octF g 7 ++ nul 1, octF z 11 ++ nul 1, octF t 11 ++ nul 1, nul 8, [kd] ++ nul 0, h.2.2.2.2.2.2.2.1 ++ nul (100 - h.2.2.2.2.2.2.2.1.length), nul 8, nul 80, nul 155, nul 12] 9 (by simp) (magic) 8 (8) 257 rfl (by simp [length_octF, magic]) (by omega) (by simp [length_nul, length_octF]; try omega) (by omega)
theorem rp9 {h : Hd} {m u g z t : Nat} {kd : UInt8} (h1 : h.1.length ≤ 100) (h2 : h.2.2.2.2.2.2.2.1.length ≤ 100) : P_ref12_put (([h.1 ++ nul (100 - h.1.length), octF m 7 ++ nul 1, octF u 7 ++ nul 1, octF g 7 ++ nul 1, octF z 11 ++ nul 1, octF t 11 ++ nul 1, nul 8, [kd] ++ nul 0, h.2.2.2.2.2.2.2.1 ++ nul (100 - h.2.2.2.2.2.2.2.1.length), nul 8, nul 80, nul 155, nul 12] : List (List UInt8)).flatten, (257, (magic, ()))) = some (([h.1 ++ nul (100 - h.1.length), octF m 7 ++ nul 1, octF u 7 ++ nul 1, octF g 7 ++ nul 1, octF z 11 ++ nul 1, octF t 11 ++ nul 1, nul 8, [kd] ++ nul 0, h.2.2.2.2.2.2.2.1 ++ nul (100 - h.2.2.2.2.2.2.2.1.length), magic ++ nul 0, nul 80, nul 155, nul 12] : List (List UInt8)).flatten, ()) :=
  rput [h.1 ++ nul (100 - h.1.length), octF m 7 ++ nul 1, octF u 7 ++ nul 1, octF g 7 ++ nul 1, octF z 11 ++ nul 1, octF t 11 ++ nul 1, nul 8, [kd] ++ nul 0, h.2.2.2.2.2.2.2.1 ++ nul (100 - h.2.2.2.2.2.2.2.1.length), nul 8, nul 80, nul 155, nul 12] 9 (by simp) (magic) 8 (8) 257 rfl (by simp [length_octF, magic]) (by omega) (by simp [length_nul, length_octF]; try omega) (by simp [length_nul, length_octF, magic]; try omega)
theorem ov6 {h : Hd} {m u g z t : Nat} {kd : UInt8} (h1 : h.1.length ≤ 100) (h2 : h.2.2.2.2.2.2.2.1.length ≤ 100) (q : Nat) : over (bytesInts ([h.1 ++ nul (100 - h.1.length), octF m 7 ++ nul 1, octF u 7 ++ nul 1, octF g 7 ++ nul 1, octF z 11 ++ nul 1, octF t 11 ++ nul 1, nul 8, [kd] ++ nul 0, h.2.2.2.2.2.2.2.1 ++ nul (100 - h.2.2.2.2.2.2.2.1.length), magic ++ nul 0, nul 80, nul 155, nul 12] : List (List UInt8)).flatten) 148 (ltake (bytesInts (octF q 6)) (minus 512 148)) = bytesInts (fldsOf h m u g z t kd (octF q 6 ++ nul 2)).flatten :=
  ov [h.1 ++ nul (100 - h.1.length), octF m 7 ++ nul 1, octF u 7 ++ nul 1, octF g 7 ++ nul 1, octF z 11 ++ nul 1, octF t 11 ++ nul 1, nul 8, [kd] ++ nul 0, h.2.2.2.2.2.2.2.1 ++ nul (100 - h.2.2.2.2.2.2.2.1.length), magic ++ nul 0, nul 80, nul 155, nul 12] 6 (by simp) (octF q 6) 8 6 148 rfl (by simp [length_octF]) (by omega) (by simp [length_nul, length_octF]; try omega) (by omega)
theorem rp6 {h : Hd} {m u g z t : Nat} {kd : UInt8} (h1 : h.1.length ≤ 100) (h2 : h.2.2.2.2.2.2.2.1.length ≤ 100) (q : Nat) : P_ref12_put (([h.1 ++ nul (100 - h.1.length), octF m 7 ++ nul 1, octF u 7 ++ nul 1, octF g 7 ++ nul 1, octF z 11 ++ nul 1, octF t 11 ++ nul 1, nul 8, [kd] ++ nul 0, h.2.2.2.2.2.2.2.1 ++ nul (100 - h.2.2.2.2.2.2.2.1.length), magic ++ nul 0, nul 80, nul 155, nul 12] : List (List UInt8)).flatten, (148, (octF q 6 ++ [0, 32], ()))) = some ((fldsOf h m u g z t kd (octF q 6 ++ [0, 32] ++ nul 0)).flatten, ()) :=
  rput [h.1 ++ nul (100 - h.1.length), octF m 7 ++ nul 1, octF u 7 ++ nul 1, octF g 7 ++ nul 1, octF z 11 ++ nul 1, octF t 11 ++ nul 1, nul 8, [kd] ++ nul 0, h.2.2.2.2.2.2.2.1 ++ nul (100 - h.2.2.2.2.2.2.2.1.length), magic ++ nul 0, nul 80, nul 155, nul 12] 6 (by simp) (octF q 6 ++ [0, 32]) 8 8 148 rfl (by simp [length_octF]) (by omega) (by simp [length_nul, length_octF]; try omega) (by simp [length_nul, length_octF, magic]; try omega)
theorem flds0 : (List.replicate 512 (0 : Int)) = bytesInts ([nul 100, nul 8, nul 8, nul 8, nul 12, nul 12, nul 8, nul 1, nul 100, nul 8, nul 80, nul 155, nul 12] : List (List UInt8)).flatten := by kernel_rfl
theorem flds0' : intsBytes (List.replicate 512 (0 : Int)) = ([nul 100, nul 8, nul 8, nul 8, nul 12, nul 12, nul 8, nul 1, nul 100, nul 8, nul 80, nul 155, nul 12] : List (List UInt8)).flatten := by rw [flds0, intsBytes_bytes]
end Go.Ge

/- What a header is put as. -/
namespace Go.Ge
set_option linter.unusedVariables false
set_option linter.unusedSimpArgs false

def hfields : List (Int × Int × Unit) := [(0, (100, ())), (100, (8, ())), (108, (8, ())), (116, (8, ())), (124, (12, ())), (136, (12, ())), (148, (8, ())), (156, (1, ())), (157, (100, ())), (257, (8, ())), (345, (155, ()))]
theorem fields_val : P_header_fields () = some (hfields, ()) := rfl
theorem fi0 : idx hfields 0 = some (0, (100, ())) := rfl
theorem fi1 : idx hfields 1 = some (100, (8, ())) := rfl
theorem fi2 : idx hfields 2 = some (108, (8, ())) := rfl
theorem fi3 : idx hfields 3 = some (116, (8, ())) := rfl
theorem fi4 : idx hfields 4 = some (124, (12, ())) := rfl
theorem fi5 : idx hfields 5 = some (136, (12, ())) := rfl
theorem fi6 : idx hfields 6 = some (148, (8, ())) := rfl
theorem fi7 : idx hfields 7 = some (156, (1, ())) := rfl
theorem fi8 : idx hfields 8 = some (157, (100, ())) := rfl
theorem fi9 : idx hfields 9 = some (257, (8, ())) := rfl
theorem oct7 (n : Nat) (h : n < 2097152) : P_digits_Octal ((n : Int), (7, ())) = some (octF n 7, (true, ())) := by
  rw [show P_digits_Octal ((n : Int), (7, ())) = _ from octal_val n 7 (by omega) (by omega) (by omega), if_pos (by omega)]
theorem oct11 (n : Nat) (h : n < 8589934592) : P_digits_Octal ((n : Int), (11, ())) = some (octF n 11, (true, ())) := by
  rw [show P_digits_Octal ((n : Int), (11, ())) = _ from octal_val n 11 (by omega) (by omega) (by omega), if_pos (by omega)]
theorem oct6 (n : Nat) (h : n < 262144) : P_digits_Octal ((n : Int), (6, ())) = some (octF n 6, (true, ())) := by
  rw [show P_digits_Octal ((n : Int), (6, ())) = _ from octal_val n 6 (by omega) (by omega) (by omega), if_pos (by omega)]
theorem ro7 (n : Nat) (h : n < 2097152) : P_ref12_octal ((n : Int), (7, ())) = some (octF n 7, ()) := by
  unfold P_ref12_octal
  dsimp only
  rw [show P_ref01_Octal ((n : Int), (7, ())) = _ from refOctal_val n 7 (by omega) (by omega) (by omega), if_pos (by omega), obind_some]
theorem ro11 (n : Nat) (h : n < 8589934592) : P_ref12_octal ((n : Int), (11, ())) = some (octF n 11, ()) := by
  unfold P_ref12_octal
  dsimp only
  rw [show P_ref01_Octal ((n : Int), (11, ())) = _ from refOctal_val n 11 (by omega) (by omega) (by omega), if_pos (by omega), obind_some]
theorem ro6 (n : Nat) (h : n < 262144) : P_ref12_octal ((n : Int), (6, ())) = some (octF n 6, ()) := by
  unfold P_ref12_octal
  dsimp only
  rw [show P_ref01_Octal ((n : Int), (6, ())) = _ from refOctal_val n 6 (by omega) (by omega) (by omega), if_pos (by omega), obind_some]

/-- What is told of a header that may be put. -/
structure Fits (h : Hd) (m u g z t : Nat) (kd : UInt8) : Prop where
  path : h.1.length ≤ 100
  link : h.2.2.2.2.2.2.2.1.length ≤ 100
  m : h.2.2.1 = (m : Int) ∧ m < 2097152
  u : h.2.2.2.1 = (u : Int) ∧ u < 2097152
  g : h.2.2.2.2.1 = (g : Int) ∧ g < 2097152
  z : h.2.2.2.2.2.1 = (z : Int) ∧ z < 8589934592
  t : h.2.2.2.2.2.2.1 = (t : Int) ∧ t < 8589934592
  kind : (h.2.1 = 1 ∧ kd = 48) ∨ (h.2.1 = 2 ∧ kd = 53) ∨ (h.2.1 = 3 ∧ kd = 50)

theorem fits_of {h : Hd} (ho : okHd h 100) : ∃ m u g z t kd, Fits h m u g z t kd := by
  obtain ⟨n1, n2, n3, n4, n5, c, k⟩ := ho
  obtain ⟨m, hm⟩ := Int.eq_ofNat_of_zero_le n1.1
  obtain ⟨u, hu⟩ := Int.eq_ofNat_of_zero_le n2.1
  obtain ⟨g, hg⟩ := Int.eq_ofNat_of_zero_le n3.1
  obtain ⟨z, hz⟩ := Int.eq_ofNat_of_zero_le n4.1
  obtain ⟨t, ht⟩ := Int.eq_ofNat_of_zero_le n5.1
  have b1 := n1.2; have b2 := n2.2; have b3 := n3.2; have b4 := n4.2; have b5 := n5.2
  have hp : h.1.length ≤ 100 := by have := c.2.1; omega
  have hl : h.2.2.2.2.2.2.2.1.length ≤ 100 := by
    rcases k with ⟨_, k⟩ | ⟨_, k, _⟩ | ⟨_, k, _⟩
    · rw [k]; exact Nat.zero_le _
    · rw [k]; exact Nat.zero_le _
    · have := k.2.1; omega
  rcases k with ⟨k, _⟩ | ⟨k, _⟩ | ⟨k, _⟩
  · exact ⟨m, u, g, z, t, 48, hp, hl, ⟨hm, by omega⟩, ⟨hu, by omega⟩, ⟨hg, by omega⟩, ⟨hz, by omega⟩, ⟨ht, by omega⟩, .inl ⟨k, rfl⟩⟩
  · exact ⟨m, u, g, z, t, 53, hp, hl, ⟨hm, by omega⟩, ⟨hu, by omega⟩, ⟨hg, by omega⟩, ⟨hz, by omega⟩, ⟨ht, by omega⟩, .inr (.inl ⟨k, rfl⟩)⟩
  · exact ⟨m, u, g, z, t, 50, hp, hl, ⟨hm, by omega⟩, ⟨hu, by omega⟩, ⟨hg, by omega⟩, ⟨hz, by omega⟩, ⟨ht, by omega⟩, .inr (.inr ⟨k, rfl⟩)⟩

theorem kind_val {h : Hd} {m u g z t : Nat} {kd : UInt8} (F : Fits h m u g z t kd) : inside (isub .i64 h.2.1 1) h.2.1 (len ([48, 53, 50] : List UInt8)) = true ∧ sub ([48, 53, 50] : List UInt8) (isub .i64 h.2.1 1) (minus h.2.1 (isub .i64 h.2.1 1)) = [kd] ∧
    idx ([[], [48], [53], [50]] : List (List UInt8)) h.2.1 = some [kd] := by
  rcases F.kind with ⟨k, rfl⟩ | ⟨k, rfl⟩ | ⟨k, rfl⟩ <;> rw [k] <;> exact ⟨rfl, rfl, rfl⟩

/-- What is put of a header. -/
def putF (h : Hd) (m u g z t : Nat) (kd : UInt8) : List UInt8 := (fldsOf h m u g z t kd (octF (sumTo (fldsOf h m u g z t kd (nul 8)).flatten 512) 6 ++ [0, 32])).flatten

theorem lset_sum (A R : List UInt8) (d : List UInt8) (hA : A.length = 148) (hd : d.length = 6) : lset (bytesInts (A ++ ((d ++ nul 2) ++ R))) 155 32 = bytesInts (A ++ ((d ++ [0, 32]) ++ R)) := by
  rw [show (155 : Int) = ((155 : Nat) : Int) from rfl, lset_nat, bytesInts_app, List.set_append_right _ _ (by rw [length_bytes]; omega), length_bytes, hA]
  rw [bytesInts_app, bytesInts_app A, bytesInts_app (d ++ [0, 32])]
  congr 1
  rw [List.set_append_left _ _ (by rw [length_bytes, List.length_append, length_nul]; omega), bytesInts_app, bytesInts_app]
  congr 1
  rw [List.set_append_right _ _ (by rw [length_bytes]; omega), length_bytes, hd]
  rfl

theorem put_val {h : Hd} {m u g z t : Nat} {kd : UInt8} (ho : okHd h 100) (F : Fits h m u g z t kd) : P_header_Put (h, ()) = some (putF h m u g z t kd, (0, ())) := by
  obtain ⟨k1, k2, k3⟩ := kind_val F
  unfold P_header_Put
  dsimp only
  rw [is_val12, decide_eq_true ho, obind_some]
  dsimp only
  rw [nt_true, sel_false, fields_val, obind_some]
  dsimp only
  rw [F.m.1, F.u.1, F.g.1, F.z.1, F.t.1, k1, k2]
  try dsimp only
  rw [show within 0 11 = true from rfl, sel_true, fi0, obind_some, show inside 0 512 512 = true from rfl, sel_true]
  try dsimp only
  rw [oct7 m F.m.2, obind_some, show within 1 11 = true from rfl, sel_true, fi1, obind_some, show inside 100 512 512 = true from rfl, sel_true]
  try dsimp only
  rw [oct7 u F.u.2, obind_some, show within 2 11 = true from rfl, sel_true, fi2, obind_some, show inside 108 512 512 = true from rfl, sel_true]
  try dsimp only
  rw [oct7 g F.g.2, obind_some, show within 3 11 = true from rfl, sel_true, fi3, obind_some, show inside 116 512 512 = true from rfl, sel_true]
  try dsimp only
  rw [oct11 z F.z.2, obind_some, show within 4 11 = true from rfl, sel_true, fi4, obind_some, show inside 124 512 512 = true from rfl, sel_true]
  try dsimp only
  rw [oct11 t F.t.2, obind_some, show within 5 11 = true from rfl, sel_true, fi5, obind_some, show inside 136 512 512 = true from rfl, sel_true]
  try dsimp only
  rw [sel_true, show within 7 11 = true from rfl, sel_true, fi7, obind_some, show inside 156 512 512 = true from rfl, sel_true]
  try dsimp only
  rw [show within 8 11 = true from rfl, sel_true, fi8, obind_some, show inside 157 512 512 = true from rfl, sel_true]
  try dsimp only
  rw [show within 9 11 = true from rfl, sel_true, fi9, obind_some, show inside 257 512 512 = true from rfl, sel_true]
  dsimp only
  rw [flds0, ov0 (m := m) (u := u) (g := g) (z := z) (t := t) (kd := kd) F.path F.link, ov1 (m := m) (u := u) (g := g) (z := z) (t := t) (kd := kd) F.path F.link, ov2 (m := m) (u := u) (g := g) (z := z) (t := t) (kd := kd) F.path F.link, ov3 (m := m) (u := u) (g := g) (z := z) (t := t) (kd := kd) F.path F.link, ov4 (m := m) (u := u) (g := g) (z := z) (t := t) (kd := kd) F.path F.link, ov5 (m := m) (u := u) (g := g) (z := z) (t := t) (kd := kd) F.path F.link, ov7 (m := m) (u := u) (g := g) (z := z) (t := t) (kd := kd) F.path F.link, ov8 (m := m) (u := u) (g := g) (z := z) (t := t) (kd := kd) F.path F.link,
    show ([117, 115, 116, 97, 114, 0, 48, 48] : List UInt8) = magic from rfl, ov9 (m := m) (u := u) (g := g) (z := z) (t := t) (kd := kd) F.path F.link]
  have hB : ∀ sm : List UInt8, sm.length = 8 → (fldsOf h m u g z t kd sm).flatten.length = 512 := fun sm => flds_length F.path F.link sm
  have hS := sumTo_le (fldsOf h m u g z t kd (nul 8)).flatten 512
  have e0 : ∀ B : List UInt8, B.length = 512 → sub (bytesInts B) 0 (minus 512 0) = bytesInts B := fun B hB => sub_whole _ 512 (by rw [length_bytes, hB])
  have hb0 := hB (nul 8) rfl
  have hb1 := hB (octF (sumTo (fldsOf h m u g z t kd (nul 8)).flatten 512) 6 ++ nul 2) (by rw [List.length_append, length_octF]; rfl)
  have hb2 := hB (octF (sumTo (fldsOf h m u g z t kd (nul 8)).flatten 512) 6 ++ [0, 32]) (by rw [List.length_append, length_octF]; rfl)
  rw [sel_true]
  have hov := ov6 F.path F.link (m := m) (u := u) (g := g) (z := z) (t := t) (kd := kd) (sumTo (fldsOf h m u g z t kd (nul 8)).flatten 512)
  generalize hq : (fldsOf h m u g z t kd (nul 8)).flatten = B at *
  have hq' : ([h.1 ++ nul (100 - h.1.length), octF m 7 ++ nul 1, octF u 7 ++ nul 1, octF g 7 ++ nul 1, octF z 11 ++ nul 1, octF t 11 ++ nul 1, nul 8, [kd] ++ nul 0, h.2.2.2.2.2.2.2.1 ++ nul (100 - h.2.2.2.2.2.2.2.1.length), magic ++ nul 0, nul 80, nul 155, nul 12] : List (List UInt8)).flatten = B := hq
  rw [hq'] at hov ⊢
  rw [e0 B hb0, intsBytes_bytes, sum_val12 B (by omega), obind_some]
  dsimp only
  rw [hb0, oct6 _ (by omega), obind_some, show within 6 11 = true from rfl, sel_true, fi6, obind_some]
  dsimp only
  rw [show inside 148 512 512 = true from rfl, sel_true, sel_true, obind_some]
  dsimp only
  rw [show iadd .i64 (iadd .i64 148 6) 1 = 155 from rfl, show within 155 512 = true from rfl, sel_true, hov]
  have hidx := idx_getD (bytesInts (fldsOf h m u g z t kd (octF (sumTo B 512) 6 ++ nul 2)).flatten) 0 (i := 155) (by rw [length_bytes, hb1]; omega)
  rw [show idx (bytesInts (fldsOf h m u g z t kd (octF (sumTo B 512) 6 ++ nul 2)).flatten) 155 = _ from hidx, obind_some, obind_some, obind_some, sel_true]
  have hls : lset (bytesInts (fldsOf h m u g z t kd (octF (sumTo B 512) 6 ++ nul 2)).flatten) 155 32 = bytesInts (fldsOf h m u g z t kd (octF (sumTo B 512) 6 ++ [0, 32])).flatten := by
    rw [flat_split (fldsOf h m u g z t kd (octF (sumTo B 512) 6 ++ nul 2)) 6 (by simp [fldsOf]), flat_split (fldsOf h m u g z t kd (octF (sumTo B 512) 6 ++ [0, 32])) 6 (by simp [fldsOf])]
    have h1 := F.path
    exact lset_sum _ _ (octF (sumTo B 512) 6) (by simp [fldsOf, length_nul, length_octF]; omega) (length_octF _ _)
  rw [hls, e0 _ hb2, intsBytes_bytes]
  unfold putF
  rw [hq]

theorem put_not {h : Hd} (ho : ¬ okHd h 100) : P_header_Put (h, ()) = some (([] : List UInt8), (1, ())) := by
  unfold P_header_Put
  dsimp only
  rw [is_val12, decide_eq_false ho, obind_some]
  rfl

theorem refPut_val {h : Hd} {m u g z t : Nat} {kd : UInt8} (hp : h.1.length ≤ 300) (hl : h.2.2.2.2.2.2.2.1.length ≤ 300) (ho : okHd h 100) (F : Fits h m u g z t kd) : P_ref12_Put (h, ()) = some (putF h m u g z t kd, (0, ())) := by
  obtain ⟨k1, k2, k3⟩ := kind_val F
  unfold P_ref12_Put
  dsimp only
  rw [may_val h 100 (by omega) (by omega), decide_eq_true ho, obind_some]
  dsimp only
  rw [nt_true, sel_false, show inside 0 512 512 = true from rfl, sel_true, fits_true (by decide), sel_true, show intsBytes (lrep 512 0) = _ from flds0']
  rw [F.m.1, F.u.1, F.g.1, F.z.1, F.t.1, k3]
  rw [rp0 (m := m) (u := u) (g := g) (z := z) (t := t) (kd := kd) F.path F.link, obind_some, ro7 m F.m.2, obind_some, rp1 (m := m) (u := u) (g := g) (z := z) (t := t) (kd := kd) F.path F.link, obind_some, ro7 u F.u.2, obind_some, rp2 (m := m) (u := u) (g := g) (z := z) (t := t) (kd := kd) F.path F.link, obind_some, ro7 g F.g.2, obind_some, rp3 (m := m) (u := u) (g := g) (z := z) (t := t) (kd := kd) F.path F.link, obind_some,
    ro11 z F.z.2, obind_some, rp4 (m := m) (u := u) (g := g) (z := z) (t := t) (kd := kd) F.path F.link, obind_some, ro11 t F.t.2, obind_some, rp5 (m := m) (u := u) (g := g) (z := z) (t := t) (kd := kd) F.path F.link, obind_some, obind_some, rp7 (m := m) (u := u) (g := g) (z := z) (t := t) (kd := kd) F.path F.link, obind_some, rp8 (m := m) (u := u) (g := g) (z := z) (t := t) (kd := kd) F.path F.link, obind_some,
    show ([117, 115, 116, 97, 114, 0, 48, 48] : List UInt8) = magic from rfl, rp9 (m := m) (u := u) (g := g) (z := z) (t := t) (kd := kd) F.path F.link, obind_some]
  dsimp only
  have hB := flds_length (m := m) (u := u) (g := g) (z := z) (t := t) (kd := kd) F.path F.link (nul 8) rfl
  have hS := sumTo_le (fldsOf h m u g z t kd (nul 8)).flatten 512
  have hrp := rp6 F.path F.link (m := m) (u := u) (g := g) (z := z) (t := t) (kd := kd) (sumTo (fldsOf h m u g z t kd (nul 8)).flatten 512)
  generalize hq : (fldsOf h m u g z t kd (nul 8)).flatten = B at *
  have hq' : ([h.1 ++ nul (100 - h.1.length), octF m 7 ++ nul 1, octF u 7 ++ nul 1, octF g 7 ++ nul 1, octF z 11 ++ nul 1, octF t 11 ++ nul 1, nul 8, [kd] ++ nul 0, h.2.2.2.2.2.2.2.1 ++ nul (100 - h.2.2.2.2.2.2.2.1.length), magic ++ nul 0, nul 80, nul 155, nul 12] : List (List UInt8)).flatten = B := hq
  rw [hq'] at hrp ⊢
  rw [refSum_val12 B (by omega), obind_some]
  dsimp only
  rw [hB, ro6 _ (by omega), obind_some]
  dsimp only
  rw [fits_true (by simp only [plus, len, length_octF, List.length_cons, List.length_nil]; omega), sel_true]
  unfold app
  rw [hrp, obind_some]
  unfold putF
  rw [hq, show nul 0 = [] from rfl, List.append_nil]

theorem refPut_not {h : Hd} (hp : h.1.length ≤ 300) (hl : h.2.2.2.2.2.2.2.1.length ≤ 300) (ho : ¬ okHd h 100) : P_ref12_Put (h, ()) = some (([] : List UInt8), (1, ())) := by
  unfold P_ref12_Put
  dsimp only
  rw [may_val h 100 (by omega) (by omega), decide_eq_false ho, obind_some]
  rfl
end Go.Ge

/- What a block is taken as: of any block; of one that was put. -/
namespace Go.Ge
set_option linter.unusedVariables false
set_option linter.unusedSimpArgs false

/-! ### Any block -/
def fld (b : List UInt8) (a n : Nat) : List UInt8 := (b.drop a).take n
theorem of_val12 (b : List UInt8) (hb : b.length = 512) (k : Int) (a n : Nat) (hk : idx hfields k = some ((a : Int), ((n : Int), ()))) (h : a + n ≤ 512) : P_header_of (b, (k, ())) = some (fld b a n, ()) := by
  unfold P_header_of
  rw [fields_val, obind_some]
  dsimp only
  rw [hk, obind_some]
  dsimp only
  rw [show iadd .i64 (a : Int) (n : Int) = ((a + n : Nat) : Int) from iadd_nat (by omega), inside_true (by omega) (by omega) (by simp only [len]; omega), sel_true]
  unfold sub minus fld
  rw [Int.toNat_natCast, show (((a + n : Nat) : Int) - (a : Int)).toNat = n by omega]

section
variable (b : List UInt8)
theorem o0 (hb : b.length = 512) : P_header_of (b, (0, ())) = some (fld b 0 100, ()) := of_val12 b hb 0 0 100 rfl (by omega)
theorem o1 (hb : b.length = 512) : P_header_of (b, (1, ())) = some (fld b 100 8, ()) := of_val12 b hb 1 100 8 rfl (by omega)
theorem o2 (hb : b.length = 512) : P_header_of (b, (2, ())) = some (fld b 108 8, ()) := of_val12 b hb 2 108 8 rfl (by omega)
theorem o3 (hb : b.length = 512) : P_header_of (b, (3, ())) = some (fld b 116 8, ()) := of_val12 b hb 3 116 8 rfl (by omega)
theorem o4 (hb : b.length = 512) : P_header_of (b, (4, ())) = some (fld b 124 12, ()) := of_val12 b hb 4 124 12 rfl (by omega)
end

end Go.Ge

/- What is put is taken as it was; the laws of layer 12. -/
namespace Go.Ge
set_option linter.unusedVariables false
set_option linter.unusedSimpArgs false

section
variable {h : Hd} {m u g z t : Nat} {kd : UInt8}
theorem putF_length (F : Fits h m u g z t kd) : (putF h m u g z t kd).length = 512 := flds_length F.path F.link _ (by rw [List.length_append, length_octF]; rfl)

end
end Go.Ge

/- The laws of layer 12 in plain words. -/
namespace Go.Ge
set_option linter.unusedVariables false
set_option linter.unusedSimpArgs false

def hA : Hd := ([100, 47], (2, (493, (0, (0, (0, (1, ([], ()))))))))
def hC : Hd := ([100], (2, (0, (0, (0, (1, (0, ([], ()))))))))
/-! ### A byte changed -/
end Go.Ge

/- Entries, one behind the other, in plain words: what is written. -/
namespace Go.Ge
set_option linter.unusedVariables false
set_option linter.unusedSimpArgs false

abbrev Pt := Hd × List UInt8 × Unit
def hsize (h : Hd) : Int := h.2.2.2.2.2.1
def kdOf (h : Hd) : UInt8 := if h.2.1 = 1 then 48 else if h.2.1 = 2 then 53 else 50
/-- A header's block. -/
def putB (h : Hd) : List UInt8 := putF h h.2.2.1.toNat h.2.2.2.1.toNat h.2.2.2.2.1.toNat h.2.2.2.2.2.1.toNat h.2.2.2.2.2.2.1.toNat (kdOf h)

theorem fitsHd {h : Hd} (ho : okHd h 100) : Fits h h.2.2.1.toNat h.2.2.2.1.toNat h.2.2.2.2.1.toNat h.2.2.2.2.2.1.toNat h.2.2.2.2.2.2.1.toNat (kdOf h) := by
  obtain ⟨m, u, g, z, t, kd, F⟩ := fits_of ho
  have e1 := F.m.1; have e2 := F.u.1; have e3 := F.g.1; have e4 := F.z.1; have e5 := F.t.1
  have ek : kdOf h = kd := by
    unfold kdOf
    rcases F.kind with ⟨k, rfl⟩ | ⟨k, rfl⟩ | ⟨k, rfl⟩ <;> rw [k] <;> rfl
  rw [ek, e1, e2, e3, e4, e5]
  simp only [Int.toNat_natCast]
  exact F

theorem putB_val {h : Hd} (ho : okHd h 100) : P_header_Put (h, ()) = some (putB h, (0, ())) := put_val ho (fitsHd ho)
theorem refPutB_val {h : Hd} (hp : h.1.length ≤ 300) (hl : h.2.2.2.2.2.2.2.1.length ≤ 300) (ho : okHd h 100) : P_ref12_Put (h, ()) = some (putB h, (0, ())) := refPut_val hp hl ho (fitsHd ho)
theorem length_putB {h : Hd} (ho : okHd h 100) : (putB h).length = 512 := putF_length (fitsHd ho)
/-- May an entry be? -/
def okPt (p : Pt) : Prop := okHd p.1 100 ∧ hsize p.1 = (p.2.1.length : Int)
instance (p : Pt) : Decidable (okPt p) := inferInstanceAs (Decidable (_ ∧ _))
def fillN (n : Nat) : Nat := (512 - n % 512) % 512
def body (p : Pt) : List UInt8 := putB p.1 ++ p.2.1 ++ nul (fillN p.2.1.length)
def allB (l : List Pt) : List UInt8 := (l.map body).flatten
/-- The bytes of entries. -/
def writeF (l : List Pt) : List UInt8 × Int :=
  if 64 < l.length then ([], 5) else if ∀ p ∈ l, okPt p then (if 7168 < (allB l).length then ([], 5) else (allB l ++ nul 1024, 0)) else ([], 1)

theorem length_body {p : Pt} (h : okPt p) : (body p).length = 512 + p.2.1.length + fillN p.2.1.length := by
  unfold body
  rw [List.length_append, List.length_append, length_putB h.1, length_nul]
theorem fillN_lt (n : Nat) : fillN n < 512 := Nat.mod_lt _ (by decide)
theorem allB_cons (p : Pt) (l : List Pt) : allB (p :: l) = body p ++ allB l := rfl
theorem allB_app (l m : List Pt) : allB (l ++ m) = allB l ++ allB m := by simp [allB]
theorem fill_val (n : Nat) (hn : n ≤ 1048576) : P_tar_fill ((n : Int), ()) = some ((fillN n : Int), ()) := by
  unfold P_tar_fill
  dsimp only
  rw [show eqI 512 0 = false from rfl, sel_false, sel_false]
  have e1 : irem (n : Int) 512 = ((n % 512 : Nat) : Int) := rfl
  rw [e1, isub_i64 (by omega) (by omega), show (512 : Int) - ((n % 512 : Nat) : Int) = ((512 - n % 512 : Nat) : Int) by omega]
  rfl

theorem repeatL_nul (n : Nat) : Lib.repeatL [0] n = nul n := by
  induction n with
  | zero => rfl
  | succ n ih =>
    show [0] ++ Lib.repeatL [0] n = nul (n + 1)
    rw [ih]
    rfl
theorem noughts_val (n : Nat) (hn : n ≤ 1048576) : P_tar_noughts ((n : Int), ()) = some (nul n, ()) := by
  unfold P_tar_noughts
  dsimp only
  have : P_strings_Repeat ([0], ((n : Int), ())) = some (nul n, ()) := by
    show (S_strings_Repeat [0] (n : Int)).map (fun y => (y, ())) = _
    unfold S_strings_Repeat
    rw [if_neg (by rw [Int.toNat_natCast]; simp only [List.length_cons, List.length_nil]; omega), Int.toNat_natCast, repeatL_nul]
    rfl
  rw [this, obind_some]
theorem nul_ints (n : Nat) : intsBytes (lrep (n : Int) 0) = nul n := by
  unfold intsBytes lrep nul
  rw [Int.toNat_natCast, List.map_replicate]
  rfl
theorem refNoughts_val (n : Nat) (hn : n ≤ 1048576) : P_ref13_noughts ((n : Int), ()) = some (nul n, ()) := by
  unfold P_ref13_noughts
  dsimp only
  rw [inside_true (by omega) (by omega) (by omega), sel_true, fits_true (by omega), sel_true, nul_ints]

theorem whole13_val (n : Nat) (hn : n ≤ 1048576) : P_ref13_whole ((n : Int), ()) = some (((n + fillN n : Nat) : Int), ()) := by
  unfold P_ref13_whole
  dsimp only
  have key := loop_seq (f := P_ref13_whole_L0) (r := ((((n + fillN n : Nat) : Int), ()), ())) (fillN n) (fun i => ((((n + i : Nat) : Int), ()), ())) (fun i hi => by
      have hm := hi
      unfold fillN at hm
      unfold P_ref13_whole_L0
      dsimp only
      rw [show eqI 512 0 = false from rfl, sel_false, show irem ((n + i : Nat) : Int) 512 = (((n + i) % 512 : Nat) : Int) from rfl, eqI_false (by omega), nt_false, sel_true, iadd_one (by omega)]
      rfl) (by
      unfold P_ref13_whole_L0
      dsimp only
      rw [show eqI 512 0 = false from rfl, sel_false, show irem ((n + fillN n : Nat) : Int) 512 = (((n + fillN n) % 512 : Nat) : Int) from rfl, eqI_true (by unfold fillN; omega), nt_true, sel_false]
      rfl)
  rw [show Loop P_ref13_whole_L0 (((n : Int), ()), ()) = _ from key, obind_some]

theorem bi_app (a b : List UInt8) : bytesInts a ++ bytesInts b = bytesInts (a ++ b) := by simp [bytesInts]
theorem bi_len (a : List UInt8) : (bytesInts a).length = a.length := List.length_map ..

/-- Few entries, of few bytes. -/
structure FewP (l : List Pt) (n : Nat) : Prop where
  many : l.length ≤ n
  path : ∀ p ∈ l, p.1.1.length ≤ 300
  link : ∀ p ∈ l, p.1.2.2.2.2.2.2.2.1.length ≤ 300
  data : ∀ p ∈ l, p.2.1.length ≤ 8192

theorem length_allB_le {l : List Pt} (hk : ∀ p ∈ l, okPt p) (hd : ∀ p ∈ l, p.2.1.length ≤ 8192) : (allB l).length ≤ l.length * 9216 := by
  induction l with
  | nil => simp [allB]
  | cons p l ih =>
    rw [allB_cons, List.length_append, length_body (hk p (List.mem_cons_self ..))]
    have h1 := hd p (List.mem_cons_self ..)
    have h2 := fillN_lt p.2.1.length
    have h3 := ih (fun q hq => hk q (List.mem_cons_of_mem _ hq)) (fun q hq => hd q (List.mem_cons_of_mem _ hq))
    simp only [List.length_cons, Nat.succ_mul]
    omega

theorem write_val (l : List Pt) (h : FewP l 100) : P_tar_Write (l, ()) = some ((writeF l).1, ((writeF l).2, ())) := by
  unfold P_tar_Write writeF
  dsimp only
  have hd := h.data
  by_cases h64 : 64 < l.length
  · rw [ltI_true (by rw [len_eq]; omega), sel_true, if_pos h64]
  rw [ltI_false (by rw [len_eq]; omega), sel_false, if_neg h64]
  have run : ∀ (r pre : List Pt), l = pre ++ r → (∀ p ∈ pre, okPt p) → ∃ q, Loop (P_tar_Write_L0 (l, ())) ((([] : List UInt8), ((0 : Int), ((pre.length : Int), ()))), (((), ((), ())), (bytesInts (allB pre), ()))) = some q ∧
      (if ∀ p ∈ r, okPt p then q.1 = 0 ∧ q.2.2.2.1 = bytesInts (allB l) else q.1 = 1 ∧ q.2.1.1 = [] ∧ q.2.1.2.1 = 1) := by
    intro r
    induction r with
    | nil =>
      intro pre hl hp
      rw [List.append_nil] at hl
      subst hl
      refine ⟨(0, ((([] : List UInt8), ((0 : Int), ((l.length : Int), ()))), (((), ((), ())), (bytesInts (allB l), ())))), ?_, by rw [if_pos (by simp)]; exact ⟨rfl, rfl⟩⟩
      · rw [Loop_eq]
        have : P_tar_Write_L0 (l, ()) ((([] : List UInt8), ((0 : Int), ((l.length : Int), ()))), (((), ((), ())), (bytesInts (allB l), ()))) = some (.inr (0, ((([] : List UInt8), ((0 : Int), ((l.length : Int), ()))), (((), ((), ())), (bytesInts (allB l), ()))))) := by
          unfold P_tar_Write_L0
          dsimp only
          rw [ltI_len_end, sel_false]
        rw [this]; rfl
    | cons p r ih =>
      intro pre hl hp
      have hx : l[pre.length]? = some p := by rw [hl]; simp
      have hlt := getElem?_lt hx
      have hmem : p ∈ l := List.mem_of_getElem? hx
      have hpd := hd p hmem
      have hpl := length_allB_le (l := pre) hp (fun q hq => hd q (by rw [hl]; exact List.mem_append_left _ hq))
      have hpn : pre.length ≤ 64 := by rw [hl, List.length_append] at h64; omega
      have hpm : pre.length * 9216 ≤ 64 * 9216 := Nat.mul_le_mul_right _ hpn
      rw [Loop_eq]
      by_cases hk : okPt p
      · have st : P_tar_Write_L0 (l, ()) ((([] : List UInt8), ((0 : Int), ((pre.length : Int), ()))), (((), ((), ())), (bytesInts (allB pre), ()))) = some (.inl ((([] : List UInt8), ((0 : Int), (((pre.length + 1 : Nat) : Int), ()))), (((), ((), ())), (bytesInts (allB (pre ++ [p])), ())))) := by
          unfold P_tar_Write_L0
          dsimp only
          have hB := length_putB hk.1
          have hf := fillN_lt p.2.1.length
          rw [ltI_len_true hlt, sel_true, idx_some' hx, obind_some, putB_val hk.1, obind_some]
          dsimp only
          rw [eqI_self, nt_true, nt_false, sel_true, show eqI p.1.2.2.2.2.2.1 (len p.2.1) = true from eqI_true hk.2, nt_true, sel_false]
          rw [fits_len2 (by rw [bi_len, bi_len]; omega), sel_true, ltI_false (by rw [len_eq]; omega), sel_false, show P_tar_fill (len p.2.1, ()) = _ from fill_val p.2.1.length (by omega), obind_some, noughts_val _ (by omega), obind_some]
          dsimp only
          rw [fits_len2 (by rw [length_nul]; omega), sel_true, fits_len2 (by simp only [app_eq, List.length_append, bi_len, length_nul]; omega), sel_true, iadd_one (by omega)]
          simp only [app_eq, bi_app]
          rw [allB_app]
          simp [allB, body, List.append_assoc]
        rw [st]
        obtain ⟨q, h1, h2⟩ := ih (pre ++ [p]) (by rw [hl]; simp) (fun q hq => by
          rcases List.mem_append.1 hq with hq | hq
          · exact hp q hq
          · simp only [List.mem_cons, List.not_mem_nil, or_false] at hq; rw [hq]; exact hk)
        rw [List.length_append] at h1
        refine ⟨q, h1, ?_⟩
        by_cases hr : ∀ p ∈ r, okPt p
        · rw [if_pos hr] at h2
          rw [if_pos (fun q hq => (List.mem_cons.1 hq).elim (fun e => e ▸ hk) (hr q))]
          exact h2
        · rw [if_neg hr] at h2
          rw [if_neg (fun a => hr fun q hq => a q (List.mem_cons_of_mem _ hq))]
          exact h2
      · have st : P_tar_Write_L0 (l, ()) ((([] : List UInt8), ((0 : Int), ((pre.length : Int), ()))), (((), ((), ())), (bytesInts (allB pre), ()))) = some (.inr (1, ((([] : List UInt8), ((1 : Int), ((pre.length : Int), ()))), (((), ((), ())), (bytesInts (allB pre), ()))))) := by
          unfold P_tar_Write_L0
          dsimp only
          rw [ltI_len_true hlt, sel_true, idx_some' hx, obind_some]
          by_cases ho : okHd p.1 100
          · rw [putB_val ho, obind_some]
            dsimp only
            rw [eqI_self, nt_true, nt_false, sel_true, show eqI p.1.2.2.2.2.2.1 (len p.2.1) = false from eqI_false (fun e => hk ⟨ho, e⟩), nt_false, sel_true]
          · rw [put_not ho, obind_some]
            dsimp only
            rw [show eqI 1 0 = false from rfl, nt_false, nt_true, sel_false, sel_true]
        rw [st]
        refine ⟨_, rfl, ?_⟩
        rw [if_neg (fun a => hk (a p (List.mem_cons_self ..)))]
        exact ⟨rfl, rfl, rfl⟩
  obtain ⟨q, h1, h2⟩ := run l [] rfl (by simp)
  rw [show Loop (P_tar_Write_L0 (l, ())) ((([] : List UInt8), ((0 : Int), ((0 : Int), ()))), (((), ((), ())), (([] : List Int), ()))) = some q from h1, obind_some]
  by_cases hk : ∀ p ∈ l, okPt p
  · rw [if_pos hk] at h2
    rw [if_pos hk, h2.1, eqN_zero, sel_true, h2.2]
    by_cases hl : 7168 < (allB l).length
    · rw [ltI_true (by rw [len_eq, bi_len]; omega), sel_true, if_pos hl]
    · rw [ltI_false (by rw [len_eq, bi_len]; omega), sel_false, if_neg hl, show ((1024 : Int), ()) = (((1024 : Nat) : Int), ()) from rfl, noughts_val 1024 (by omega), obind_some]
      dsimp only
      rw [intsBytes_bytes, fits_len2 (by rw [length_nul]; omega), sel_true]
      rfl
  · rw [if_neg hk] at h2
    rw [if_neg hk, h2.1, eqN_one, sel_false, h2.2.1, h2.2.2]

def sizeP : List Pt → Nat
  | [] => 0
  | p :: l => 512 + (p.2.1.length + fillN p.2.1.length) + sizeP l
theorem sizeP_all {l : List Pt} (h : ∀ p ∈ l, okPt p) : (allB l).length = sizeP l := by
  induction l with
  | nil => rfl
  | cons p l ih =>
    rw [allB_cons, List.length_append, length_body (h p (List.mem_cons_self ..)), ih fun q hq => h q (List.mem_cons_of_mem _ hq), sizeP]
    omega
theorem sizeP_app (l m : List Pt) : sizeP (l ++ m) = sizeP l + sizeP m := by
  induction l with
  | nil => simp [sizeP]
  | cons p l ih => rw [List.cons_append, sizeP, sizeP, ih]; omega

theorem refWrite_val (l : List Pt) (h : FewP l 100) : P_ref13_Write (l, ()) = some ((writeF l).1, ((writeF l).2, ())) := by
  unfold P_ref13_Write writeF
  dsimp only
  have hd := h.data
  have hpa := h.path
  have hli := h.link
  by_cases h64 : 64 < l.length
  · rw [ltI_true (by rw [len_eq]; omega), sel_true, if_pos h64]
  rw [ltI_false (by rw [len_eq]; omega), sel_false, if_neg h64]
  have run : ∀ (r pre : List Pt), l = pre ++ r → ∃ q, Loop (P_ref13_Write_L0 (l, ())) ((([] : List UInt8), ((0 : Int), ((pre.length : Int), ()))), ()) = some q ∧
      (if ∀ p ∈ r, okPt p then q.1 = 0 ∧ q.2.1.1 = [] ∧ q.2.1.2.1 = 0 else q.1 = 1 ∧ q.2.1.1 = [] ∧ q.2.1.2.1 = 1) := by
    intro r
    induction r with
    | nil =>
      intro pre hl
      rw [List.append_nil] at hl
      subst hl
      refine ⟨(0, ((([] : List UInt8), ((0 : Int), ((l.length : Int), ()))), ())), ?_, by rw [if_pos (by simp)]; exact ⟨rfl, rfl, rfl⟩⟩
      rw [Loop_eq]
      have : P_ref13_Write_L0 (l, ()) ((([] : List UInt8), ((0 : Int), ((l.length : Int), ()))), ()) = some (.inr (0, ((([] : List UInt8), ((0 : Int), ((l.length : Int), ()))), ()))) := by
        unfold P_ref13_Write_L0
        dsimp only
        rw [ltI_len_end, sel_false]
      rw [this]; rfl
    | cons p r ih =>
      intro pre hl
      have hx : l[pre.length]? = some p := by rw [hl]; simp
      have hlt := getElem?_lt hx
      have hmem : p ∈ l := List.mem_of_getElem? hx
      rw [Loop_eq]
      have st : P_ref13_Write_L0 (l, ()) ((([] : List UInt8), ((0 : Int), ((pre.length : Int), ()))), ()) = if okPt p then some (.inl ((([] : List UInt8), ((0 : Int), (((pre.length + 1 : Nat) : Int), ()))), ())) else some (.inr (1, ((([] : List UInt8), ((1 : Int), ((pre.length : Int), ()))), ()))) := by
        unfold P_ref13_Write_L0
        dsimp only
        rw [ltI_len_true hlt, sel_true, idx_some' hx, obind_some]
        by_cases ho : okHd p.1 100
        · rw [refPutB_val (hpa p hmem) (hli p hmem) ho, obind_some]
          dsimp only
          rw [eqI_self, nt_true, sel_false, obind_some, obind_some, iadd_one (by omega)]
          by_cases e : hsize p.1 = (p.2.1.length : Int)
          · rw [show eqI p.1.2.2.2.2.2.1 (len p.2.1) = true from eqI_true e, nt_true, sel_false, if_pos ⟨ho, e⟩]
          · rw [show eqI p.1.2.2.2.2.2.1 (len p.2.1) = false from eqI_false e, nt_false, sel_true, if_neg (fun q => e q.2)]
        · rw [refPut_not (hpa p hmem) (hli p hmem) ho, obind_some]
          dsimp only
          rw [show eqI 1 0 = false from rfl, nt_false, sel_true, if_neg (fun q => ho q.1)]
      rw [st]
      by_cases hk : okPt p
      · rw [if_pos hk]
        obtain ⟨q, h1, h2⟩ := ih (pre ++ [p]) (by rw [hl]; simp)
        rw [List.length_append] at h1
        refine ⟨q, h1, ?_⟩
        by_cases hr : ∀ p ∈ r, okPt p
        · rw [if_pos hr] at h2
          rw [if_pos (fun q hq => (List.mem_cons.1 hq).elim (fun e => e ▸ hk) (hr q))]
          exact h2
        · rw [if_neg hr] at h2
          rw [if_neg (fun a => hr fun q hq => a q (List.mem_cons_of_mem _ hq))]
          exact h2
      · rw [if_neg hk]
        refine ⟨_, rfl, ?_⟩
        rw [if_neg (fun a => hk (a p (List.mem_cons_self ..)))]
        exact ⟨rfl, rfl, rfl⟩
  obtain ⟨q, h1, h2⟩ := run l [] rfl
  rw [show Loop (P_ref13_Write_L0 (l, ())) ((([] : List UInt8), ((0 : Int), ((0 : Int), ()))), ()) = some q from h1, obind_some]
  by_cases hk : ∀ p ∈ l, okPt p
  · rw [if_pos hk] at h2
    rw [if_pos hk, h2.1, eqN_zero, sel_true, h2.2.1, h2.2.2]
    -- how many bytes
    have run1 : ∀ (r pre : List Pt), l = pre ++ r → ∃ j, Loop (P_ref13_Write_L1 (l, ())) ((([] : List UInt8), ((0 : Int), (((1024 + sizeP pre : Nat) : Int), ((pre.length : Int), ())))), ()) = some (0, ((([] : List UInt8), ((0 : Int), (((1024 + sizeP l : Nat) : Int), (j, ())))), ())) := by
      intro r
      induction r with
      | nil =>
        intro pre hl
        rw [List.append_nil] at hl
        subst hl
        refine ⟨(l.length : Int), ?_⟩
        rw [Loop_eq]
        have : P_ref13_Write_L1 (l, ()) ((([] : List UInt8), ((0 : Int), (((1024 + sizeP l : Nat) : Int), ((l.length : Int), ())))), ()) = some (.inr (0, ((([] : List UInt8), ((0 : Int), (((1024 + sizeP l : Nat) : Int), ((l.length : Int), ())))), ()))) := by
          unfold P_ref13_Write_L1
          dsimp only
          rw [ltI_len_end, sel_false]
        rw [this]; rfl
      | cons p r ih =>
        intro pre hl
        have hx : l[pre.length]? = some p := by rw [hl]; simp
        have hlt := getElem?_lt hx
        have hmem : p ∈ l := List.mem_of_getElem? hx
        have hpd := hd p hmem
        have hf := fillN_lt p.2.1.length
        have hpl := length_allB_le (l := pre) (fun q hq => hk q (by rw [hl]; exact List.mem_append_left _ hq)) (fun q hq => hd q (by rw [hl]; exact List.mem_append_left _ hq))
        rw [sizeP_all (fun q hq => hk q (by rw [hl]; exact List.mem_append_left _ hq))] at hpl
        have hpm : pre.length * 9216 ≤ 64 * 9216 := Nat.mul_le_mul_right _ (by omega)
        rw [Loop_eq]
        have st : P_ref13_Write_L1 (l, ()) ((([] : List UInt8), ((0 : Int), (((1024 + sizeP pre : Nat) : Int), ((pre.length : Int), ())))), ()) = some (.inl ((([] : List UInt8), ((0 : Int), (((1024 + sizeP (pre ++ [p]) : Nat) : Int), (((pre.length + 1 : Nat) : Int), ())))), ())) := by
          unfold P_ref13_Write_L1
          dsimp only
          rw [ltI_len_true hlt, sel_true, idx_some' hx, obind_some, ltI_false (by rw [len_eq]; omega), sel_false, obind_some, show P_ref13_whole (len p.2.1, ()) = _ from whole13_val p.2.1.length (by omega), obind_some]
          dsimp only
          rw [iadd_i64 (a := ((1024 + sizeP pre : Nat) : Int)) (b := 512) (by omega) (by omega), iadd_i64 (by omega) (by omega), iadd_one (by omega), sizeP_app]
          have e : ((1024 + sizeP pre : Nat) : Int) + 512 + ((p.2.1.length + fillN p.2.1.length : Nat) : Int) = ((1024 + (sizeP pre + sizeP [p]) : Nat) : Int) := by
            simp only [sizeP]; omega
          rw [e]
        rw [st]
        obtain ⟨j, h1⟩ := ih (pre ++ [p]) (by rw [hl]; simp)
        rw [List.length_append] at h1
        exact ⟨j, h1⟩
    obtain ⟨j, k1⟩ := run1 l [] rfl
    rw [show Loop (P_ref13_Write_L1 (l, ())) ((([] : List UInt8), ((0 : Int), ((1024 : Int), ((0 : Int), ())))), ()) = _ from k1, obind_some]
    dsimp only
    rw [eqN_zero, sel_true, sizeP_all hk]
    by_cases hl7 : 7168 < sizeP l
    · rw [ltI_true (by omega), sel_true, if_pos hl7]
    · rw [ltI_false (by omega), sel_false, if_neg hl7]
      have run2 := loop_seq (f := P_ref13_Write_L2 (l, ())) (r := ((allB l, ((l.length : Int), ())), ())) l.length (fun i => ((allB (l.take i), ((i : Int), ())), ())) (fun i hi => by
          obtain ⟨p, hx⟩ : ∃ p, l[i]? = some p := ⟨_, List.getElem?_eq_getElem hi⟩
          have hmem : p ∈ l := List.mem_of_getElem? hx
          have hpd := hd p hmem
          have hf := fillN_lt p.2.1.length
          have hB := length_putB (hk p hmem).1
          have hpl := length_allB_le (l := l.take i) (fun q hq => hk q (List.mem_of_mem_take hq)) (fun q hq => hd q (List.mem_of_mem_take hq))
          have hpm : (l.take i).length * 9216 ≤ 64 * 9216 := Nat.mul_le_mul_right _ (by rw [List.length_take]; omega)
          unfold P_ref13_Write_L2
          dsimp only
          rw [ltI_len_true hi, sel_true, idx_some' hx, obind_some, refPutB_val (hpa p hmem) (hli p hmem) (hk p hmem).1, obind_some]
          dsimp only
          rw [fits_len2 (by omega), sel_true, obind_some, fits_len2 (by simp only [app_eq, List.length_append]; omega), sel_true, obind_some, show P_ref13_whole (len p.2.1, ()) = _ from whole13_val p.2.1.length (by omega), obind_some, obind_some]
          dsimp only
          rw [len_eq p.2.1, isub_i64 (by omega) (by omega), show ((p.2.1.length + fillN p.2.1.length : Nat) : Int) - (p.2.1.length : Int) = (fillN p.2.1.length : Int) by omega, refNoughts_val _ (by omega), obind_some]
          dsimp only
          rw [fits_len2 (by simp only [app_eq, List.length_append, length_nul]; omega), sel_true, iadd_one (by omega)]
          have e : app (app (app (allB (l.take i)) (putB p.1)) p.2.1) (nul (fillN p.2.1.length)) = allB (l.take (i + 1)) := by
            rw [List.take_add_one, hx, allB_app]
            simp [allB, body, app, List.append_assoc]
          rw [e]
          rfl) (by
          unfold P_ref13_Write_L2
          dsimp only
          rw [ltI_len_end, sel_false, List.take_length]
          rfl)
      rw [show Loop (P_ref13_Write_L2 (l, ())) ((([] : List UInt8), ((0 : Int), ())), ()) = _ from run2, obind_some, show ((1024 : Int), ()) = (((1024 : Nat) : Int), ()) from rfl, refNoughts_val 1024 (by omega), obind_some]
      dsimp only
      have := sizeP_all hk
      rw [fits_len2 (by rw [length_nul]; omega), sel_true]
      rfl
  · rw [if_neg hk] at h2
    rw [if_neg hk, h2.1, eqN_one, sel_false, h2.2.1, h2.2.2]
end Go.Ge

/- Entries, one behind the other, in plain words: what is read; the laws. -/
namespace Go.Ge
set_option linter.unusedVariables false
set_option linter.unusedSimpArgs false

abbrev Rd := Bool × List UInt8 × Int × Bool × Bool × Unit
def rd (r : List UInt8) (n : Int) : Rd := (true, (r, (n, (false, (false, ())))))
theorem same_self (l : List Pt) (hl : l.length ≤ 1000) : P_ref13_Same (l, (l, ())) = some (true, ()) := by
  unfold P_ref13_Same
  dsimp only
  rw [eqI_self, nt_true, sel_false]
  have key := loop_seq (f := P_ref13_Same_L0 (l, (l, ()))) (r := (0, ((false, ((l.length : Int), ())), ()))) l.length (fun i => ((false, ((i : Int), ())), ())) (fun i hi => by
      obtain ⟨p, hx⟩ : ∃ p, l[i]? = some p := ⟨_, List.getElem?_eq_getElem hi⟩
      unfold P_ref13_Same_L0
      dsimp only
      rw [ltI_len_true hi, sel_true, sel_true, idx_some' hx, obind_some, obind_some]
      simp only [eqS_self, eqI_self]
      rw [iadd_one (by omega)]
      rfl) (by
      unfold P_ref13_Same_L0
      dsimp only
      rw [ltI_len_end, sel_false, sel_false])
  rw [show Loop (P_ref13_Same_L0 (l, (l, ()))) ((false, ((0 : Int), ())), ()) = _ from key, obind_some]
  rfl

/-! ### awake -/
end Go.Ge

/- The entries that lead from a tree to another one, and their bytes: in plain words. -/
namespace Go.Ge
set_option linter.unusedVariables false
set_option linter.unusedSimpArgs false

/-- A node's entry. -/
def partF (n : Nd) : Pt := (((if n.2.1 = 2 then n.1 ++ [47] else n.1), (n.2.1, (n.2.2.1, ((0 : Int), ((0 : Int), (len n.2.2.2.1, ((0 : Int), (n.2.2.2.2.1, ())))))))), (n.2.2.2.1, ()))

theorem part_val (n : Nd) (h : n.1.length ≤ 4096) : P_delta_part (n, ()) = some (partF n, ()) := by
  unfold P_delta_part partF
  dsimp only
  rw [fits_len2 (by simp; omega), sel_true]
  by_cases e : n.2.1 = 2
  · rw [eqI_true e, sel_true, obind_some, if_pos e]; rfl
  · rw [eqI_false e, sel_false, obind_some, if_neg e]

theorem refPart_val (n : Nd) (h : n.1.length ≤ 4096) : P_ref16_part (n, ()) = some (partF n, ()) := by
  unfold P_ref16_part partF
  dsimp only
  rw [fits_len2 (by simp; omega), sel_true]
  by_cases e : n.2.1 = 2
  · rw [eqI_true e, sel_true, obind_some, if_pos e]; rfl
  · rw [eqI_false e, sel_false, obind_some, if_neg e]

/-- The entry that takes a path away. -/
def whF (p : List UInt8) : Pt := ((joinP (splitF p).1 ([46, 119, 104, 46] ++ (splitF p).2), ((1 : Int), ((0 : Int), ((0 : Int), ((0 : Int), ((0 : Int), ((0 : Int), (([] : List UInt8), ())))))))), (([] : List UInt8), ()))
/-- Is there where it would lie. -/
noncomputable def whB (b : List Nd) (p : List UInt8) : Bool := sel (nt (eqS (splitF p).1 [])) (sel (findF b (splitF p).1).2.1 (eqI (findF b (splitF p).1).1.2.1 2) false) true
/-- A change's entries. -/
noncomputable def entF (b : List Nd) (c : Dl) : List Pt := if (findF b c.2.1).2.1 = true then [partF (findF b c.2.1).1] else if whB b c.2.1 = true then [whF c.2.1] else []
open Classical in
noncomputable def partsF (a b : List Nd) : List Pt × Int := if Valid a ∧ Valid b then ((mrg a b).flatMap (entF b), 0) else ([], 1)

theorem split_sum (p : List UInt8) : (splitF p).1.length + (splitF p).2.length ≤ p.length := by
  rcases split_cases p with ⟨_, h⟩ | ⟨a, b, h1, _, h⟩
  · rw [h]; simp
  · rw [h, h1]; simp
theorem joinP_len (d n : List UInt8) : (joinP d n).length ≤ d.length + n.length + 1 := by
  unfold joinP
  split <;> simp <;> omega

theorem ent_len (b : List Nd) (c : Dl) : (entF b c).length ≤ 1 := by
  unfold entF
  split
  · simp
  · split <;> simp
theorem flat_len {α β : Type} (g : α → List β) (h : ∀ x, (g x).length ≤ 1) : ∀ l : List α, (l.flatMap g).length ≤ l.length := by
  intro l
  induction l with
  | nil => simp
  | cons x r ih =>
    have := h x
    simp only [List.flatMap_cons, List.length_append, List.length_cons]
    omega

theorem mrg_of {a b : List Nd} (ha : Valid a) (hb : Valid b) {c : Dl} : c ∈ mrg a b ↔ IsC a b c :=
  (mrg_spec (a.length + b.length) a b (Nat.le_refl _) (ord_pairs.1 ha.ord) (ord_pairs.1 hb.ord)).2 c
theorem isC_len {a b : List Nd} (ha : SmL a) (hb : SmL b) {c : Dl} (h : IsC a b c) : c.2.1.length ≤ 200 := by
  rcases h.path with ⟨x, hx, e⟩ | ⟨y, hy, e⟩
  · rw [← e]; exact (ha.2 x hx).1
  · rw [← e]; exact (hb.2 y hy).1
/-- What is gone is not there; all else is. -/
theorem isC_find {a b : List Nd} (hb : Valid b) {c : Dl} (h : IsC a b c) : (c.1 = 3 ∧ findF b c.2.1 = (zeroN, (false, ()))) ∨ (c.1 ≠ 3 ∧ ∃ y ∈ b, findF b c.2.1 = (y, (true, ()))) := by
  rcases h with ⟨k, x, hx, e, hn⟩ | ⟨k, y, hy, e, _⟩ | ⟨k, x, hx, y, hy, e1, _, e2⟩
  · exact .inl ⟨k, find_none' fun y hy q => hn y hy (by rw [q, e])⟩
  · exact .inr ⟨by omega, y, hy, find_some' hb.ord hy e⟩
  · exact .inr ⟨by omega, y, hy, find_some' hb.ord hy (by rw [← e1, e2])⟩

theorem tparts_val (a b : List Nd) (ha : SmL a) (hb : SmL b) : P_delta_Parts (a, (b, ())) = some ((partsF a b).1, ((partsF a b).2, ())) := by
  unfold P_delta_Parts
  dsimp only
  rw [changes_val a b ha hb, obind_some]
  unfold chgF partsF
  by_cases hv : Valid a ∧ Valid b
  · rw [if_pos hv, if_pos hv]
    dsimp only
    rw [show nt (eqI 0 0) = false from rfl, sel_false]
    have hlen : (mrg a b).length ≤ 8192 := by have := mrg_len _ a b (Nat.le_refl _); have := ha.1; have := hb.1; omega
    have key := fold_app (f := P_delta_Parts_L0 (a, (b, ())) (mrg a b, ((0 : Int), ()))) (mrg a b) (fun out i => (((), (i, ())), (out, ()))) (entF b) (((), (((mrg a b).length : Int), ())), ((mrg a b).flatMap (entF b), ())) (by omega) (fun i x hx hi hadd => by
      have hc : IsC a b x := (mrg_of hv.1 hv.2).1 (List.mem_of_getElem? hx)
      have hl := isC_len ha hb hc
      have hsum := split_sum x.2.1
      have hout : (((mrg a b).take i).flatMap (entF b)).length ≤ 8192 := by
        have := flat_len (entF b) (ent_len b) ((mrg a b).take i)
        rw [List.length_take] at this; omega
      unfold P_delta_Parts_L0
      dsimp only
      rw [ltI_len_true hi, sel_true, idx_some' hx, obind_some, tfind_val b x.2.1 hb (by omega) hv.2, obind_some, hadd]
      have hfit : ∀ p : Pt, fits (plus (len (((mrg a b).take i).flatMap (entF b))) (len [p])) = true := fun p => fits_len2 (by simp only [List.length_cons, List.length_nil]; omega)
      rcases isC_find hv.2 hc with ⟨k, hf⟩ | ⟨k, y, hy, hf⟩
      · rw [eqI_true k, nt_true, sel_false, psplit_val _ (by omega), obind_some, tfind_val b _ hb (by dsimp only; omega) hv.2, obind_some]
        dsimp only
        rw [fits_len2 (by simp only [List.length_cons, List.length_nil]; omega), sel_true, pjoin_val _ _ (by omega) (by rw [app_eq, List.length_append]; simp only [List.length_cons, List.length_nil]; omega), obind_some]
        simp only [hfit, sel_true]
        rw [show entF b x = if whB b x.2.1 = true then [whF x.2.1] else [] by unfold entF; rw [hf, if_neg (by simp)]]
        unfold whB
        cases sel (nt (eqS (splitF x.2.1).1 [])) (sel (findF b (splitF x.2.1).1).2.1 (eqI (findF b (splitF x.2.1).1).1.2.1 2) false) true with
        | false => rw [if_neg (by simp), List.append_nil]; rfl
        | true => rw [if_pos rfl]; rfl
      · rw [eqI_false k, hf]
        rw [show entF b x = [partF y] by unfold entF; rw [hf, if_pos rfl]]
        dsimp only
        rw [nt_false, sel_true, part_val y (by have := (hb.2 y hy).1; omega), obind_some]
        dsimp only
        rw [hfit, sel_true, way1_inl, app_eq]) (by
      unfold P_delta_Parts_L0
      dsimp only
      rw [ltI_len_end, sel_false]
      rfl)
    rw [show Loop (P_delta_Parts_L0 (a, (b, ())) (mrg a b, ((0 : Int), ()))) (((), ((0 : Int), ())), (([] : List Pt), ())) = _ from key, obind_some]
  · rw [if_neg hv, if_neg hv]
    rfl

theorem refParts16_val (a b : List Nd) (ha : SmL a) (hb : SmL b) : P_ref16_Parts (a, (b, ())) = some ((partsF a b).1, ((partsF a b).2, ())) := by
  unfold P_ref16_Parts
  dsimp only
  rw [refChanges_val a b ha hb, obind_some]
  unfold chgF partsF
  by_cases hv : Valid a ∧ Valid b
  · rw [if_pos hv, if_pos hv]
    dsimp only
    rw [show nt (eqI 0 0) = false from rfl, sel_false]
    have hlen : (mrg a b).length ≤ 8192 := by have := mrg_len _ a b (Nat.le_refl _); have := ha.1; have := hb.1; omega
    have key := fold_app (f := P_ref16_Parts_L0 (a, (b, ())) (mrg a b, ((0 : Int), ()))) (mrg a b) (fun out i => (((), (i, ())), (out, ()))) (entF b) (((), (((mrg a b).length : Int), ())), ((mrg a b).flatMap (entF b), ())) (by omega) (fun i x hx hi hadd => by
      have hc : IsC a b x := (mrg_of hv.1 hv.2).1 (List.mem_of_getElem? hx)
      have hl := isC_len ha hb hc
      have hsum := split_sum x.2.1
      have hout : (((mrg a b).take i).flatMap (entF b)).length ≤ 8192 := by
        have := flat_len (entF b) (ent_len b) ((mrg a b).take i)
        rw [List.length_take] at this; omega
      unfold P_ref16_Parts_L0
      dsimp only
      rw [ltI_len_true hi, sel_true, idx_some' hx, obind_some, refFind_val b x.2.1 hb hv.2, obind_some, hadd, obind_some]
      have hfit : ∀ p : Pt, fits (plus (len (((mrg a b).take i).flatMap (entF b))) (len [p])) = true := fun p => fits_len2 (by simp only [List.length_cons, List.length_nil]; omega)
      rcases isC_find hv.2 hc with ⟨k, hf⟩ | ⟨k, y, hy, hf⟩
      · rw [refSplit_val _ (by omega), obind_some, refFind_val b _ hb hv.2, obind_some]
        dsimp only
        rw [fits_len2 (by simp only [List.length_cons, List.length_nil]; omega), sel_true, refpjoin_val _ _ (by omega) (by rw [app_eq, List.length_append]; simp only [List.length_cons, List.length_nil]; omega), obind_some]
        simp only [hfit, sel_true]
        rw [show entF b x = if whB b x.2.1 = true then [whF x.2.1] else [] by unfold entF; rw [hf, if_neg (by simp)], hf]
        unfold whB
        dsimp only
        rw [sel_false]
        cases sel (nt (eqS (splitF x.2.1).1 [])) (sel (findF b (splitF x.2.1).1).2.1 (eqI (findF b (splitF x.2.1).1).1.2.1 2) false) true with
        | false => rw [if_neg (by simp), List.append_nil]; rfl
        | true => rw [if_pos rfl]; rfl
      · rw [hf]
        rw [show entF b x = [partF y] by unfold entF; rw [hf, if_pos rfl]]
        dsimp only
        rw [sel_true, refPart_val y (by have := (hb.2 y hy).1; omega), obind_some]
        dsimp only
        rw [hfit, sel_true, way1_inl, app_eq]) (by
      unfold P_ref16_Parts_L0
      dsimp only
      rw [ltI_len_end, sel_false]
      rfl)
    rw [show Loop (P_ref16_Parts_L0 (a, (b, ())) (mrg a b, ((0 : Int), ()))) (((), ((0 : Int), ())), (([] : List Pt), ())) = _ from key, obind_some]
  · rw [if_neg hv, if_neg hv]
    rfl

/-- Entries that are few. -/
theorem parts_few {a b : List Nd} (ha : SmL a) (hb : SmL b) (hla : a.length ≤ 40) (hlb : b.length ≤ 40) : FewP (partsF a b).1 100 := by
  unfold partsF
  by_cases hv : Valid a ∧ Valid b
  · rw [if_pos hv]
    dsimp only
    have hent : ∀ p ∈ (mrg a b).flatMap (entF b), p.1.1.length ≤ 300 ∧ p.1.2.2.2.2.2.2.2.1.length ≤ 300 ∧ p.2.1.length ≤ 8192 := fun p hp => by
      obtain ⟨c, hc, hp⟩ := List.mem_flatMap.1 hp
      have hi := (mrg_of hv.1 hv.2).1 hc
      have hl := isC_len ha hb hi
      unfold entF at hp
      rcases isC_find hv.2 hi with ⟨k, hf⟩ | ⟨k, y, hy, hf⟩
      · rw [hf, if_neg (by simp)] at hp
        split at hp
        · rw [List.mem_singleton] at hp
          subst hp
          unfold whF
          dsimp only
          have h1 := joinP_len (splitF c.2.1).1 ([46, 119, 104, 46] ++ (splitF c.2.1).2)
          have h2 := split_sum c.2.1
          rw [List.length_append] at h1
          refine ⟨?_, by simp, by simp⟩
          simp only [List.length_cons, List.length_nil] at h1
          omega
        · cases hp
      · rw [hf, if_pos rfl, List.mem_singleton] at hp
        subst hp
        have := hb.2 y hy
        unfold Sm at this
        unfold partF
        dsimp only
        refine ⟨?_, by omega, by omega⟩
        split
        · rw [List.length_append, List.length_singleton]; omega
        · omega
    refine ⟨?_, fun p hp => (hent p hp).1, fun p hp => (hent p hp).2.1, fun p hp => (hent p hp).2.2⟩
    have := flat_len (entF b) (ent_len b) (mrg a b)
    have := mrg_len _ a b (Nat.le_refl _)
    omega
  · rw [if_neg hv]
    exact ⟨by simp, by simp, by simp, by simp⟩

noncomputable def diffF (a b : List Nd) : List UInt8 × Int := if (partsF a b).2 = 0 then writeF (partsF a b).1 else ([], (partsF a b).2)
theorem diff_val (a b : List Nd) (ha : SmL a) (hb : SmL b) (hla : a.length ≤ 40) (hlb : b.length ≤ 40) : P_delta_Diff (a, (b, ())) = some ((diffF a b).1, ((diffF a b).2, ())) := by
  unfold P_delta_Diff diffF
  dsimp only
  rw [tparts_val a b ha hb, obind_some]
  dsimp only
  rw [write_val _ (parts_few ha hb hla hlb), obind_some]
  by_cases e : (partsF a b).2 = 0
  · rw [eqI_true e, if_pos e]; rfl
  · rw [eqI_false e, if_neg e]; rfl
theorem refDiff_val (a b : List Nd) (ha : SmL a) (hb : SmL b) (hla : a.length ≤ 40) (hlb : b.length ≤ 40) : P_ref16_Diff (a, (b, ())) = some ((diffF a b).1, ((diffF a b).2, ())) := by
  unfold P_ref16_Diff diffF
  dsimp only
  rw [refParts16_val a b ha hb, obind_some]
  dsimp only
  rw [refWrite_val _ (parts_few ha hb hla hlb), obind_some]
  by_cases e : (partsF a b).2 = 0
  · rw [eqI_true e, if_pos e]; rfl
  · rw [eqI_false e, if_neg e]; rfl
end Go.Ge

/- The law DeltaIs: the changes between any nodes, their entries and bytes, and their lines: in plain words. -/
namespace Go.Ge
set_option linter.unusedVariables false
set_option linter.unusedSimpArgs false

theorem chgSame_self (l : List Dl) (hl : l.length ≤ 4294967296) : P_ref16_Same (l, (l, ())) = some (true, ()) := by
  unfold P_ref16_Same
  dsimp only
  rw [eqI_true rfl, nt_true, sel_false]
  rcases srch (f := P_ref16_Same_L0 (l, (l, ()))) l (fun i => ((false, (i, ())), ())) (fun _ _ => false) (fun i _ => (1, ((false, ((i : Int), ())), ()))) (0, ((false, ((l.length : Int), ())), ())) hl (fun i x hx hi ha => by
      unfold P_ref16_Same_L0
      dsimp only
      rw [ltI_len_true hi, sel_true, sel_true, idx_some' hx, obind_some, obind_some, eqS_self, eqI_self, ha]
      rfl) (by unfold P_ref16_Same_L0; dsimp only; rw [ltI_len_end, sel_false, sel_false]) with ⟨i, x, _, hp, _⟩ | ⟨hn, h⟩
  · cases hp
  · rw [h]; rfl

def signF (k : Int) : List UInt8 := if 1 ≤ k ∧ k ≤ 3 then (if k = 1 then [43] else if k = 2 then [126] else [45]) else [63]
def lineC (c : Dl) : List UInt8 := signF c.1 ++ [32] ++ hexF c.2.1 ++ [10]

theorem signF_len (k : Int) : (signF k).length = 1 := by
  unfold signF
  split
  · split
    · rfl
    · split <;> rfl
  · rfl
theorem lineC_len (c : Dl) : (lineC c).length = 2 * c.2.1.length + 3 := by
  unfold lineC
  simp only [List.length_append, signF_len, length_hexF, List.length_cons, List.length_nil]
  omega
theorem flat_le {α β : Type} (g : α → List β) (k : Nat) : ∀ l : List α, (∀ x ∈ l, (g x).length ≤ k) → (l.flatMap g).length ≤ l.length * k := by
  intro l
  induction l with
  | nil => simp
  | cons x r ih =>
    intro h
    have h1 := h x (by simp)
    have h2 := ih fun y hy => h y (by simp [hy])
    simp only [List.flatMap_cons, List.length_append, List.length_cons, Nat.add_mul]
    omega
theorem sign_idx {k : Int} (h1 : 1 ≤ k) (h3 : k ≤ 3) : idx ([[], [43], [126], [45]] : List (List UInt8)) k = some (signF k) := by
  have : k = 1 ∨ k = 2 ∨ k = 3 := by omega
  rcases this with rfl | rfl | rfl <;> rfl

theorem textC_val (l : List Dl) (hl : l.length ≤ 4096) (hp : ∀ c ∈ l, c.2.1.length ≤ 4096) : P_delta_Text (l, ()) = some (l.flatMap lineC, ()) := by
  unfold P_delta_Text
  have key := fold_app (f := P_delta_Text_L0 (l, ())) l (fun (out : List Int) i => ((i, ()), (((), ((), ())), (out, ())))) (fun c => bytesInts (lineC c)) (((l.length : Int), ()), (((), ((), ())), (l.flatMap (fun c => bytesInts (lineC c)), ()))) (by omega) (fun i x hx hi hadd => by
    have hout : ((l.take i).flatMap (fun c => bytesInts (lineC c))).length ≤ (l.take i).length * 8200 := flat_le _ _ _ fun c hc => by
      have := hp c (List.mem_of_mem_take hc)
      rw [bi_len, lineC_len]; omega
    rw [List.length_take] at hout
    have hx1 := hp x (List.mem_of_getElem? hx)
    have hll := lineC_len x
    have fin : ∀ s : List UInt8, s = signF x.1 → (sel (fits (plus (len s) (len ([32] : List UInt8)))) (obind (P_digits_Hex (x.2.1, ())) (fun (y4 : (List (UInt8)) × Unit) => sel (fits (plus (@len UInt8 (@app UInt8 s ([(32 : UInt8)] : List (UInt8)))) (@len UInt8 y4.1)))
      (sel (fits (plus (@len UInt8 (@app UInt8 (@app UInt8 s ([(32 : UInt8)] : List (UInt8))) y4.1)) (@len UInt8 ([(10 : UInt8)] : List (UInt8)))))
      (sel (fits (plus (@len Int ((l.take i).flatMap (fun c => bytesInts (lineC c)))) (@len Int (bytesInts (@app UInt8 (@app UInt8 (@app UInt8 s ([(32 : UInt8)] : List (UInt8))) y4.1) ([(10 : UInt8)] : List (UInt8)))))))
      (some (Sum.inl (((((i + 1 : Nat) : Int)), ()), (((), ((), ())), (@app Int ((l.take i).flatMap (fun c => bytesInts (lineC c))) (bytesInts (@app UInt8 (@app UInt8 (@app UInt8 s ([(32 : UInt8)] : List (UInt8))) y4.1) ([(10 : UInt8)] : List (UInt8)))), ()))) : (((Int × Unit) × (Unit × Unit × Unit) × (List (Int)) × Unit)) ⊕ ((Nat × (Int × Unit) × (Unit × Unit × Unit) × (List (Int)) × Unit))))
      none) none) none)) none) = some (Sum.inl ((((i + 1 : Nat) : Int), ()), (((), ((), ())), ((l.take i).flatMap (fun c => bytesInts (lineC c)) ++ bytesInts (lineC x), ())))) := fun s e => by
      subst e
      have h1 := signF_len x.1
      rw [fits_len2 (by simp; omega), sel_true, hex_val _ (by omega), obind_some]
      dsimp only
      rw [fits_len2 (by rw [app_eq, List.length_append, length_hexF]; simp; omega), sel_true, fits_len2 (by rw [app_eq, app_eq, List.length_append, List.length_append, length_hexF]; simp; omega), sel_true]
      rw [show app (app (app (signF x.1) [32]) (hexF x.2.1)) [10] = lineC x from rfl, fits_len2 (by rw [bi_len, hll]; omega), sel_true]
      rfl
    unfold P_delta_Text_L0
    dsimp only
    rw [ltI_len_true hi, sel_true, idx_some' hx, obind_some, hadd]
    by_cases h1 : 1 ≤ x.1
    · by_cases h3 : x.1 ≤ 3
      · rw [leI_true h1, leI_true h3, sel_true, sel_true, within_true (by omega) (by omega), sel_true, sign_idx h1 h3, obind_some, obind_some]
        dsimp only
        rw [fin _ rfl]; rfl
      · rw [leI_true h1, leI_false (by omega), sel_true, sel_false, obind_some]
        dsimp only
        rw [fin _ (by unfold signF; rw [if_neg (by omega)])]; rfl
    · rw [leI_false (by omega), sel_false, sel_false, obind_some]
      dsimp only
      rw [fin _ (by unfold signF; rw [if_neg (by omega)])]; rfl) (by
    unfold P_delta_Text_L0
    dsimp only
    rw [ltI_len_end, sel_false]
    rfl)
  rw [show Loop (P_delta_Text_L0 (l, ())) (((0 : Int), ()), (((), ((), ())), (([] : List Int), ()))) = _ from key, obind_some]
  dsimp only
  have : l.flatMap (fun c => bytesInts (lineC c)) = bytesInts (l.flatMap lineC) := by
    unfold bytesInts
    rw [List.map_flatMap]
  rw [this, intsBytes_bytes]

theorem refTextC_val (l : List Dl) (hl : l.length ≤ 4096) (hp : ∀ c ∈ l, c.2.1.length ≤ 4096) : P_ref16_Text (l, ()) = some (l.flatMap lineC, ()) := by
  unfold P_ref16_Text
  have key := fold_app (f := P_ref16_Text_L0 (l, ())) l (fun (out : List UInt8) i => ((out, (i, ())), ())) lineC ((l.flatMap lineC, ((l.length : Int), ())), ()) (by omega) (fun i x hx hi hadd => by
    have hout : ((l.take i).flatMap lineC).length ≤ (l.take i).length * 8200 := flat_le _ _ _ fun c hc => by
      have := hp c (List.mem_of_mem_take hc)
      rw [lineC_len]; omega
    rw [List.length_take] at hout
    have hx1 := hp x (List.mem_of_getElem? hx)
    have hll := lineC_len x
    have h0 := signF_len x.1
    unfold P_ref16_Text_L0
    dsimp only
    rw [ltI_len_true hi, sel_true, idx_some' hx]
    simp only [obind_some, hadd]
    have hs : (sel (leI 1 x.1) (some (leI x.1 3)) (some false) : Option Bool) = some (decide (1 ≤ x.1 ∧ x.1 ≤ 3)) := by
      by_cases h1 : 1 ≤ x.1
      · by_cases h3 : x.1 ≤ 3
        · rw [leI_true h1, leI_true h3, decide_eq_true ⟨h1, h3⟩]; rfl
        · rw [leI_true h1, leI_false (by omega), decide_eq_false (by omega)]; rfl
      · rw [leI_false (by omega), decide_eq_false (by omega)]; rfl
    rw [hs, obind_some]
    have hg : (sel (decide (1 ≤ x.1 ∧ x.1 ≤ 3)) (obind (idx ([[], [43], [126], [45]] : List (List UInt8)) x.1) fun y5 => some ((y5, ()), ())) (some (([63], ()), ())) : Option ((List UInt8 × Unit) × Unit)) = some ((signF x.1, ()), ()) := by
      by_cases h : 1 ≤ x.1 ∧ x.1 ≤ 3
      · rw [decide_eq_true h, sel_true, sign_idx h.1 h.2, obind_some]
      · rw [decide_eq_false h, sel_false]; unfold signF; rw [if_neg h]
    rw [hg, obind_some]
    dsimp only
    rw [refHex_val x.2.1 (by omega), obind_some]
    dsimp only
    have e : app (app (app (app ((l.take i).flatMap lineC) (signF x.1)) [32]) (hexF x.2.1)) [10] = (l.take i).flatMap lineC ++ lineC x := by
      unfold lineC
      simp only [app_eq, List.append_assoc]
    rw [e]
    rw [fits_len2 (by omega), sel_true, fits_len2 (by simp only [app_eq, List.length_append, List.length_cons, List.length_nil]; omega), sel_true]
    rw [fits_len2 (by simp only [app_eq, List.length_append, List.length_cons, List.length_nil, length_hexF]; omega), sel_true, fits_len2 (by simp only [app_eq, List.length_append, List.length_cons, List.length_nil, length_hexF]; omega), sel_true]
    rfl) (by
    unfold P_ref16_Text_L0
    dsimp only
    rw [ltI_len_end, sel_false]
    rfl)
  rw [show Loop (P_ref16_Text_L0 (l, ())) ((([] : List UInt8), ((0 : Int), ())), ()) = _ from key, obind_some]
end Go.Ge

/- The law DeltaIs, joined: in plain words. -/
namespace Go.Ge
set_option linter.unusedVariables false
set_option linter.unusedSimpArgs false

def wA1 : Nd := ([97], (1, (0, ([], ([], ())))))
def wA2 : Nd := ([98], (1, (0, ([], ([], ())))))
def wB1 : Nd := ([98], (1, (0, ([120], ([], ())))))
def wB2 : Nd := ([100], (2, (0, ([], ([], ())))))
def wC : List Dl := [(3, ([97], ())), (2, ([98], ())), (1, ([100], ()))]
def wP1 : Pt := (([46, 119, 104, 46, 97], (1, (0, (0, (0, (0, (0, ([], ())))))))), ([], ()))
def wP2 : Pt := (([98], (1, (0, (0, (0, (1, (0, ([], ())))))))), ([120], ()))
def wP3 : Pt := (([100, 47], (2, (0, (0, (0, (0, (0, ([], ())))))))), ([], ()))

theorem wS : SmL [wA1, wA2] ∧ SmL [wB1, wB2] := ⟨sm2 ⟨by decide, by decide, by decide⟩ ⟨by decide, by decide, by decide⟩, sm2 ⟨by decide, by decide, by decide⟩ ⟨by decide, by decide, by decide⟩⟩
theorem wV : Valid [wA1, wA2] ∧ Valid [wB1, wB2] := ⟨validB_valid (by decide +kernel), validB_valid (by decide +kernel)⟩
theorem wM : mrg [wA1, wA2] [wB1, wB2] = wC := by
  rw [mrg, if_pos (by decide +kernel), mrg, if_neg (by decide +kernel), if_neg (by decide +kernel), if_neg (by decide +kernel), mrg, mrg]
  rfl
theorem wE1 : entF [wB1, wB2] (3, ([97], ())) = [wP1] := by kernel_rfl
theorem wE2 : entF [wB1, wB2] (2, ([98], ())) = [wP2] := by kernel_rfl
theorem wE3 : entF [wB1, wB2] (1, ([100], ())) = [wP3] := by kernel_rfl
theorem wPs : partsF [wA1, wA2] [wB1, wB2] = ([wP1, wP2, wP3], 0) := by
  unfold partsF
  rw [if_pos wV, wM]
  unfold wC
  simp only [List.flatMap_cons, List.flatMap_nil, wE1, wE2, wE3]
  rfl
theorem wOk : ∀ p ∈ [wP1, wP2, wP3], okPt p := by
  intro p hp
  simp only [List.mem_cons, List.not_mem_nil, or_false] at hp
  rcases hp with rfl | rfl | rfl
  · exact ⟨by decide +kernel, rfl⟩
  · exact ⟨by decide +kernel, rfl⟩
  · exact ⟨by decide +kernel, rfl⟩
theorem wLen : (allB [wP1, wP2, wP3]).length = 2048 := by rw [sizeP_all wOk]; rfl
theorem wD : diffF [wA1, wA2] [wB1, wB2] = (allB [wP1, wP2, wP3] ++ nul 1024, 0) := by
  unfold diffF
  rw [wPs]
  dsimp only
  rw [if_pos rfl]
  unfold writeF
  rw [if_neg (by decide), if_pos wOk, if_neg (by rw [wLen]; omega)]

theorem awake16 : P_law16_awake () = some (true, ()) := by
  unfold P_law16_awake
  have h1 := changes_val [wA1, wA2] [wB1, wB2] wS.1 wS.2
  have h2 := tparts_val [wA1, wA2] [wB1, wB2] wS.1 wS.2
  have h3 := diff_val [wA1, wA2] [wB1, wB2] wS.1 wS.2 (by decide) (by decide)
  unfold chgF at h1
  rw [if_pos wV, wM] at h1
  rw [wPs] at h2
  rw [wD] at h3
  have hl : (allB [wP1, wP2, wP3] ++ nul 1024).length = 3072 := by rw [List.length_append, length_nul, wLen]
  have ht := textC_val wC (by decide) (by decide)
  rw [show wC.flatMap lineC = [45, 32, 54, 49, 10, 126, 32, 54, 50, 10, 43, 32, 54, 52, 10] by kernel_rfl] at ht
  have hs := chgSame_self wC (by decide)
  unfold wA1 wA2 wB1 wB2 at h1 h2 h3
  have hs' : P_ref16_Same (wC, ([(3, ([97], ())), (2, ([98], ())), (1, ([100], ()))], ())) = some (true, ()) := hs
  rw [h1, obind_some, h2, obind_some, h3, obind_some]
  dsimp only
  rw [hs', obind_some, ht, obind_some]
  dsimp only
  rw [show eqI (len (allB [wP1, wP2, wP3] ++ nul 1024)) 3072 = true from eqI_true (by rw [len_eq, hl]; rfl)]
  rfl

theorem ifawake16 {c : Bool} {x : Option (Bool × Unit)} (h : c = false → x = some (true, ())) : sel c (obind (P_law16_awake ()) fun y => some (y.1, ())) x = some (true, ()) := by
  cases c with
  | true => rw [sel_true, awake16]; rfl
  | false => rw [sel_false]; exact h rfl

theorem deltaIs_val (a b : List Nd) (l : List Dl) : P_law16_DeltaIs (a, (b, (l, ()))) = some (true, ()) := by
  unfold P_law16_DeltaIs
  dsimp only
  obtain ⟨f1, e1, g1⟩ := few14_val a 40 40 rfl (by omega)
  obtain ⟨f2, e2, g2⟩ := few14_val b 40 40 rfl (by omega)
  rw [e1, obind_some, e2, obind_some]
  dsimp only
  rw [show (sel (nt (nt f1)) (some (nt f2)) (some true) : Option Bool) = some (!(f1 && f2)) by cases f1 <;> cases f2 <;> rfl, obind_some]
  refine ifawake16 fun hc => ?_
  have hf : f1 = true ∧ f2 = true := by cases f1 <;> cases f2 <;> first | exact ⟨rfl, rfl⟩ | cases hc
  obtain ⟨rfl, rfl⟩ := hf
  obtain ⟨la, ha⟩ := g1 rfl
  obtain ⟨lb, hb⟩ := g2 rfl
  have hl : l.length ≤ 40 := by
    have : ltI 40 (len l) = false := hc
    unfold ltI len at this
    simp at this
    omega
  rcases srch (f := P_law16_DeltaIs_L0 (a, (b, (l, ())))) l (fun i => ((false, (i, ())), ())) (fun _ c => decide (200 < c.2.1.length)) (fun i _ => (1, ((true, ((i : Int), ())), ()))) (0, ((false, ((l.length : Int), ())), ())) (by omega) (fun i x hx hi hadd => by
      unfold P_law16_DeltaIs_L0
      dsimp only
      rw [ltI_len_true hi, sel_true, idx_some' hx, obind_some, awake16, obind_some, hadd]
      have : ltI 200 (len x.2.1) = decide (200 < x.2.1.length) := by unfold ltI len; apply decide_eq_decide.2; omega
      rw [this]
      cases decide (200 < x.2.1.length) <;> rfl) (by
      unfold P_law16_DeltaIs_L0
      dsimp only
      rw [ltI_len_end, sel_false]) with ⟨i, x, _, _, _, h⟩ | ⟨hn, h⟩
  · rw [h, obind_some]; rfl
  · rw [h, obind_some]
    dsimp only
    have hp : ∀ c ∈ l, c.2.1.length ≤ 4096 := fun c hc => by
      obtain ⟨i, hi⟩ := mem_at.1 hc
      have := hn i c hi
      simp at this
      omega
    have hm : (chgF a b).1.length ≤ 4294967296 := by
      unfold chgF
      split
      · have := mrg_len _ a b (Nat.le_refl _); dsimp only; omega
      · simp
    have hfew := (parts_few ha hb la lb).many
    rw [show eqN 0 0 = true from rfl, sel_true, changes_val a b ha hb, obind_some, refChanges_val a b ha hb, obind_some, tparts_val a b ha hb, obind_some, refParts16_val a b ha hb, obind_some, diff_val a b ha hb la lb, obind_some, refDiff_val a b ha hb la lb, obind_some]
    dsimp only
    rw [chgSame_self _ hm, obind_some, same_self _ (by omega), obind_some, textC_val l (by omega) hp, obind_some, refTextC_val l (by omega) hp, obind_some, awake16, obind_some]
    rw [eqI_true rfl, eqI_true rfl, eqI_true rfl, eqS_true rfl, eqS_true rfl]
    rfl
end Go.Ge
