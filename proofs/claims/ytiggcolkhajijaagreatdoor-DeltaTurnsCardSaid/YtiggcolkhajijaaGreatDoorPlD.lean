/- Plain laws of what the functions compute: part 4. -/
import Derived.Test.YtiggcolkhajijaaGreatDoorPlC
/- Entries, one behind the other, in plain words: what is written. -/
namespace Go.Ge
set_option linter.unusedVariables false
set_option linter.unusedSimpArgs false

abbrev Pt := Hd × List UInt8 × Unit
def hsize (h : Hd) : Int := h.2.2.2.2.2.1
def kdOf (h : Hd) : UInt8 := if h.2.1 = 1 then 48 else if h.2.1 = 2 then 53 else 50
/-- A header's block. -/
def putB (h : Hd) : List UInt8 := putF h h.2.2.1.toNat h.2.2.2.1.toNat h.2.2.2.2.1.toNat h.2.2.2.2.2.1.toNat h.2.2.2.2.2.2.1.toNat (kdOf h)

theorem fitsHd {h : Hd} (ho : okHd h 100) : Fits h h.2.2.1.toNat h.2.2.2.1.toNat h.2.2.2.2.1.toNat h.2.2.2.2.2.1.toNat h.2.2.2.2.2.2.1.toNat (kdOf h) := by
  obtain ⟨m, u, g, z, t, kd, F⟩ := fits_of ho
  have e1 := F.m.1; have e2 := F.u.1; have e3 := F.g.1; have e4 := F.z.1; have e5 := F.t.1
  have ek : kdOf h = kd := by
    unfold kdOf
    rcases F.kind with ⟨k, rfl⟩ | ⟨k, rfl⟩ | ⟨k, rfl⟩ <;> rw [k] <;> rfl
  rw [ek, e1, e2, e3, e4, e5]
  simp only [Int.toNat_natCast]
  exact F

theorem putB_val {h : Hd} (ho : okHd h 100) : P_header_Put (h, ()) = some (putB h, (0, ())) := put_val ho (fitsHd ho)
theorem length_putB {h : Hd} (ho : okHd h 100) : (putB h).length = 512 := putF_length (fitsHd ho)
/-- May an entry be? -/
def okPt (p : Pt) : Prop := okHd p.1 100 ∧ hsize p.1 = (p.2.1.length : Int)
instance (p : Pt) : Decidable (okPt p) := inferInstanceAs (Decidable (_ ∧ _))
def fillN (n : Nat) : Nat := (512 - n % 512) % 512
def body (p : Pt) : List UInt8 := putB p.1 ++ p.2.1 ++ nul (fillN p.2.1.length)
def allB (l : List Pt) : List UInt8 := (l.map body).flatten
/-- The bytes of entries. -/
def writeF (l : List Pt) : List UInt8 × Int :=
  if 64 < l.length then ([], 5) else if ∀ p ∈ l, okPt p then (if 7168 < (allB l).length then ([], 5) else (allB l ++ nul 1024, 0)) else ([], 1)

theorem length_body {p : Pt} (h : okPt p) : (body p).length = 512 + p.2.1.length + fillN p.2.1.length := by
  unfold body
  rw [List.length_append, List.length_append, length_putB h.1, length_nul]
theorem fillN_lt (n : Nat) : fillN n < 512 := Nat.mod_lt _ (by decide)
theorem allB_cons (p : Pt) (l : List Pt) : allB (p :: l) = body p ++ allB l := rfl
theorem allB_app (l m : List Pt) : allB (l ++ m) = allB l ++ allB m := by simp [allB]
theorem fill_val (n : Nat) (hn : n ≤ 1048576) : P_tar_fill ((n : Int), ()) = some ((fillN n : Int), ()) := by
  unfold P_tar_fill
  dsimp only
  rw [show eqI 512 0 = false from rfl, sel_false, sel_false]
  have e1 : irem (n : Int) 512 = ((n % 512 : Nat) : Int) := rfl
  rw [e1, isub_i64 (by omega) (by omega), show (512 : Int) - ((n % 512 : Nat) : Int) = ((512 - n % 512 : Nat) : Int) by omega]
  rfl

theorem repeatL_nul (n : Nat) : Lib.repeatL [0] n = nul n := by
  induction n with
  | zero => rfl
  | succ n ih =>
    show [0] ++ Lib.repeatL [0] n = nul (n + 1)
    rw [ih]
    rfl
theorem noughts_val (n : Nat) (hn : n ≤ 1048576) : P_tar_noughts ((n : Int), ()) = some (nul n, ()) := by
  unfold P_tar_noughts
  dsimp only
  have : P_strings_Repeat ([0], ((n : Int), ())) = some (nul n, ()) := by
    show (S_strings_Repeat [0] (n : Int)).map (fun y => (y, ())) = _
    unfold S_strings_Repeat
    rw [if_neg (by rw [Int.toNat_natCast]; simp only [List.length_cons, List.length_nil]; omega), Int.toNat_natCast, repeatL_nul]
    rfl
  rw [this, obind_some]
theorem bi_app (a b : List UInt8) : bytesInts a ++ bytesInts b = bytesInts (a ++ b) := by simp [bytesInts]
theorem bi_len (a : List UInt8) : (bytesInts a).length = a.length := List.length_map ..

/-- Few entries, of few bytes. -/
structure FewP (l : List Pt) (n : Nat) : Prop where
  many : l.length ≤ n
  path : ∀ p ∈ l, p.1.1.length ≤ 300
  link : ∀ p ∈ l, p.1.2.2.2.2.2.2.2.1.length ≤ 300
  data : ∀ p ∈ l, p.2.1.length ≤ 8192

theorem length_allB_le {l : List Pt} (hk : ∀ p ∈ l, okPt p) (hd : ∀ p ∈ l, p.2.1.length ≤ 8192) : (allB l).length ≤ l.length * 9216 := by
  induction l with
  | nil => simp [allB]
  | cons p l ih =>
    rw [allB_cons, List.length_append, length_body (hk p (List.mem_cons_self ..))]
    have h1 := hd p (List.mem_cons_self ..)
    have h2 := fillN_lt p.2.1.length
    have h3 := ih (fun q hq => hk q (List.mem_cons_of_mem _ hq)) (fun q hq => hd q (List.mem_cons_of_mem _ hq))
    simp only [List.length_cons, Nat.succ_mul]
    omega

theorem write_val (l : List Pt) (h : FewP l 100) : P_tar_Write (l, ()) = some ((writeF l).1, ((writeF l).2, ())) := by
  unfold P_tar_Write writeF
  dsimp only
  have hd := h.data
  by_cases h64 : 64 < l.length
  · rw [ltI_true (by rw [len_eq]; omega), sel_true, if_pos h64]
  rw [ltI_false (by rw [len_eq]; omega), sel_false, if_neg h64]
  have run : ∀ (r pre : List Pt), l = pre ++ r → (∀ p ∈ pre, okPt p) → ∃ q, Loop (P_tar_Write_L0 (l, ())) ((([] : List UInt8), ((0 : Int), ((pre.length : Int), ()))), (((), ((), ())), (bytesInts (allB pre), ()))) = some q ∧
      (if ∀ p ∈ r, okPt p then q.1 = 0 ∧ q.2.2.2.1 = bytesInts (allB l) else q.1 = 1 ∧ q.2.1.1 = [] ∧ q.2.1.2.1 = 1) := by
    intro r
    induction r with
    | nil =>
      intro pre hl hp
      rw [List.append_nil] at hl
      subst hl
      refine ⟨(0, ((([] : List UInt8), ((0 : Int), ((l.length : Int), ()))), (((), ((), ())), (bytesInts (allB l), ())))), ?_, by rw [if_pos (by simp)]; exact ⟨rfl, rfl⟩⟩
      · rw [Loop_eq]
        have : P_tar_Write_L0 (l, ()) ((([] : List UInt8), ((0 : Int), ((l.length : Int), ()))), (((), ((), ())), (bytesInts (allB l), ()))) = some (.inr (0, ((([] : List UInt8), ((0 : Int), ((l.length : Int), ()))), (((), ((), ())), (bytesInts (allB l), ()))))) := by
          unfold P_tar_Write_L0
          dsimp only
          rw [ltI_len_end, sel_false]
        rw [this]; rfl
    | cons p r ih =>
      intro pre hl hp
      have hx : l[pre.length]? = some p := by rw [hl]; simp
      have hlt := getElem?_lt hx
      have hmem : p ∈ l := List.mem_of_getElem? hx
      have hpd := hd p hmem
      have hpl := length_allB_le (l := pre) hp (fun q hq => hd q (by rw [hl]; exact List.mem_append_left _ hq))
      have hpn : pre.length ≤ 64 := by rw [hl, List.length_append] at h64; omega
      have hpm : pre.length * 9216 ≤ 64 * 9216 := Nat.mul_le_mul_right _ hpn
      rw [Loop_eq]
      by_cases hk : okPt p
      · have st : P_tar_Write_L0 (l, ()) ((([] : List UInt8), ((0 : Int), ((pre.length : Int), ()))), (((), ((), ())), (bytesInts (allB pre), ()))) = some (.inl ((([] : List UInt8), ((0 : Int), (((pre.length + 1 : Nat) : Int), ()))), (((), ((), ())), (bytesInts (allB (pre ++ [p])), ())))) := by
          unfold P_tar_Write_L0
          dsimp only
          have hB := length_putB hk.1
          have hf := fillN_lt p.2.1.length
          rw [ltI_len_true hlt, sel_true, idx_some' hx, obind_some, putB_val hk.1, obind_some]
          dsimp only
          rw [eqI_self, nt_true, nt_false, sel_true, show eqI p.1.2.2.2.2.2.1 (len p.2.1) = true from eqI_true hk.2, nt_true, sel_false]
          rw [fits_len2 (by rw [bi_len, bi_len]; omega), sel_true, ltI_false (by rw [len_eq]; omega), sel_false, show P_tar_fill (len p.2.1, ()) = _ from fill_val p.2.1.length (by omega), obind_some, noughts_val _ (by omega), obind_some]
          dsimp only
          rw [fits_len2 (by rw [length_nul]; omega), sel_true, fits_len2 (by simp only [app_eq, List.length_append, bi_len, length_nul]; omega), sel_true, iadd_one (by omega)]
          simp only [app_eq, bi_app]
          rw [allB_app]
          simp [allB, body, List.append_assoc]
        rw [st]
        obtain ⟨q, h1, h2⟩ := ih (pre ++ [p]) (by rw [hl]; simp) (fun q hq => by
          rcases List.mem_append.1 hq with hq | hq
          · exact hp q hq
          · simp only [List.mem_cons, List.not_mem_nil, or_false] at hq; rw [hq]; exact hk)
        rw [List.length_append] at h1
        refine ⟨q, h1, ?_⟩
        by_cases hr : ∀ p ∈ r, okPt p
        · rw [if_pos hr] at h2
          rw [if_pos (fun q hq => (List.mem_cons.1 hq).elim (fun e => e ▸ hk) (hr q))]
          exact h2
        · rw [if_neg hr] at h2
          rw [if_neg (fun a => hr fun q hq => a q (List.mem_cons_of_mem _ hq))]
          exact h2
      · have st : P_tar_Write_L0 (l, ()) ((([] : List UInt8), ((0 : Int), ((pre.length : Int), ()))), (((), ((), ())), (bytesInts (allB pre), ()))) = some (.inr (1, ((([] : List UInt8), ((1 : Int), ((pre.length : Int), ()))), (((), ((), ())), (bytesInts (allB pre), ()))))) := by
          unfold P_tar_Write_L0
          dsimp only
          rw [ltI_len_true hlt, sel_true, idx_some' hx, obind_some]
          by_cases ho : okHd p.1 100
          · rw [putB_val ho, obind_some]
            dsimp only
            rw [eqI_self, nt_true, nt_false, sel_true, show eqI p.1.2.2.2.2.2.1 (len p.2.1) = false from eqI_false (fun e => hk ⟨ho, e⟩), nt_false, sel_true]
          · rw [put_not ho, obind_some]
            dsimp only
            rw [show eqI 1 0 = false from rfl, nt_false, nt_true, sel_false, sel_true]
        rw [st]
        refine ⟨_, rfl, ?_⟩
        rw [if_neg (fun a => hk (a p (List.mem_cons_self ..)))]
        exact ⟨rfl, rfl, rfl⟩
  obtain ⟨q, h1, h2⟩ := run l [] rfl (by simp)
  rw [show Loop (P_tar_Write_L0 (l, ())) ((([] : List UInt8), ((0 : Int), ((0 : Int), ()))), (((), ((), ())), (([] : List Int), ()))) = some q from h1, obind_some]
  by_cases hk : ∀ p ∈ l, okPt p
  · rw [if_pos hk] at h2
    rw [if_pos hk, h2.1, eqN_zero, sel_true, h2.2]
    by_cases hl : 7168 < (allB l).length
    · rw [ltI_true (by rw [len_eq, bi_len]; omega), sel_true, if_pos hl]
    · rw [ltI_false (by rw [len_eq, bi_len]; omega), sel_false, if_neg hl, show ((1024 : Int), ()) = (((1024 : Nat) : Int), ()) from rfl, noughts_val 1024 (by omega), obind_some]
      dsimp only
      rw [intsBytes_bytes, fits_len2 (by rw [length_nul]; omega), sel_true]
      rfl
  · rw [if_neg hk] at h2
    rw [if_neg hk, h2.1, eqN_one, sel_false, h2.2.1, h2.2.2]

def sizeP : List Pt → Nat
  | [] => 0
  | p :: l => 512 + (p.2.1.length + fillN p.2.1.length) + sizeP l
theorem sizeP_all {l : List Pt} (h : ∀ p ∈ l, okPt p) : (allB l).length = sizeP l := by
  induction l with
  | nil => rfl
  | cons p l ih =>
    rw [allB_cons, List.length_append, length_body (h p (List.mem_cons_self ..)), ih fun q hq => h q (List.mem_cons_of_mem _ hq), sizeP]
    omega
end Go.Ge

/- Entries, one behind the other, in plain words: what is read; the laws. -/
namespace Go.Ge
set_option linter.unusedVariables false
set_option linter.unusedSimpArgs false

abbrev Rd := Bool × List UInt8 × Int × Bool × Bool × Unit
def rd (r : List UInt8) (n : Int) : Rd := (true, (r, (n, (false, (false, ())))))
/-! ### awake -/
end Go.Ge

/- The entries that lead from a tree to another one, and their bytes: in plain words. -/
namespace Go.Ge
set_option linter.unusedVariables false
set_option linter.unusedSimpArgs false

/-- A node's entry. -/
def partF (n : Nd) : Pt := (((if n.2.1 = 2 then n.1 ++ [47] else n.1), (n.2.1, (n.2.2.1, ((0 : Int), ((0 : Int), (len n.2.2.2.1, ((0 : Int), (n.2.2.2.2.1, ())))))))), (n.2.2.2.1, ()))

theorem part_val (n : Nd) (h : n.1.length ≤ 4096) : P_delta_part (n, ()) = some (partF n, ()) := by
  unfold P_delta_part partF
  dsimp only
  rw [fits_len2 (by simp; omega), sel_true]
  by_cases e : n.2.1 = 2
  · rw [eqI_true e, sel_true, obind_some, if_pos e]; rfl
  · rw [eqI_false e, sel_false, obind_some, if_neg e]

/-- The entry that takes a path away. -/
def whF (p : List UInt8) : Pt := ((joinP (splitF p).1 ([46, 119, 104, 46] ++ (splitF p).2), ((1 : Int), ((0 : Int), ((0 : Int), ((0 : Int), ((0 : Int), ((0 : Int), (([] : List UInt8), ())))))))), (([] : List UInt8), ()))
/-- Is there where it would lie. -/
noncomputable def whB (b : List Nd) (p : List UInt8) : Bool := sel (nt (eqS (splitF p).1 [])) (sel (findF b (splitF p).1).2.1 (eqI (findF b (splitF p).1).1.2.1 2) false) true
/-- A change's entries. -/
noncomputable def entF (b : List Nd) (c : Dl) : List Pt := if (findF b c.2.1).2.1 = true then [partF (findF b c.2.1).1] else if whB b c.2.1 = true then [whF c.2.1] else []
open Classical in
noncomputable def partsF (a b : List Nd) : List Pt × Int := if Valid a ∧ Valid b then ((mrg a b).flatMap (entF b), 0) else ([], 1)

theorem split_sum (p : List UInt8) : (splitF p).1.length + (splitF p).2.length ≤ p.length := by
  rcases split_cases p with ⟨_, h⟩ | ⟨a, b, h1, _, h⟩
  · rw [h]; simp
  · rw [h, h1]; simp
theorem joinP_len (d n : List UInt8) : (joinP d n).length ≤ d.length + n.length + 1 := by
  unfold joinP
  split <;> simp <;> omega

theorem ent_len (b : List Nd) (c : Dl) : (entF b c).length ≤ 1 := by
  unfold entF
  split
  · simp
  · split <;> simp
theorem flat_len {α β : Type} (g : α → List β) (h : ∀ x, (g x).length ≤ 1) : ∀ l : List α, (l.flatMap g).length ≤ l.length := by
  intro l
  induction l with
  | nil => simp
  | cons x r ih =>
    have := h x
    simp only [List.flatMap_cons, List.length_append, List.length_cons]
    omega

theorem mrg_of {a b : List Nd} (ha : Valid a) (hb : Valid b) {c : Dl} : c ∈ mrg a b ↔ IsC a b c :=
  (mrg_spec (a.length + b.length) a b (Nat.le_refl _) (ord_pairs.1 ha.ord) (ord_pairs.1 hb.ord)).2 c
theorem isC_len {a b : List Nd} (ha : SmL a) (hb : SmL b) {c : Dl} (h : IsC a b c) : c.2.1.length ≤ 200 := by
  rcases h.path with ⟨x, hx, e⟩ | ⟨y, hy, e⟩
  · rw [← e]; exact (ha.2 x hx).1
  · rw [← e]; exact (hb.2 y hy).1
/-- What is gone is not there; all else is. -/
theorem isC_find {a b : List Nd} (hb : Valid b) {c : Dl} (h : IsC a b c) : (c.1 = 3 ∧ findF b c.2.1 = (zeroN, (false, ()))) ∨ (c.1 ≠ 3 ∧ ∃ y ∈ b, findF b c.2.1 = (y, (true, ()))) := by
  rcases h with ⟨k, x, hx, e, hn⟩ | ⟨k, y, hy, e, _⟩ | ⟨k, x, hx, y, hy, e1, _, e2⟩
  · exact .inl ⟨k, find_none' fun y hy q => hn y hy (by rw [q, e])⟩
  · exact .inr ⟨by omega, y, hy, find_some' hb.ord hy e⟩
  · exact .inr ⟨by omega, y, hy, find_some' hb.ord hy (by rw [← e1, e2])⟩

theorem tparts_val (a b : List Nd) (ha : SmL a) (hb : SmL b) : P_delta_Parts (a, (b, ())) = some ((partsF a b).1, ((partsF a b).2, ())) := by
  unfold P_delta_Parts
  dsimp only
  rw [changes_val a b ha hb, obind_some]
  unfold chgF partsF
  by_cases hv : Valid a ∧ Valid b
  · rw [if_pos hv, if_pos hv]
    dsimp only
    rw [show nt (eqI 0 0) = false from rfl, sel_false]
    have hlen : (mrg a b).length ≤ 8192 := by have := mrg_len _ a b (Nat.le_refl _); have := ha.1; have := hb.1; omega
    have key := fold_app (f := P_delta_Parts_L0 (a, (b, ())) (mrg a b, ((0 : Int), ()))) (mrg a b) (fun out i => (((), (i, ())), (out, ()))) (entF b) (((), (((mrg a b).length : Int), ())), ((mrg a b).flatMap (entF b), ())) (by omega) (fun i x hx hi hadd => by
      have hc : IsC a b x := (mrg_of hv.1 hv.2).1 (List.mem_of_getElem? hx)
      have hl := isC_len ha hb hc
      have hsum := split_sum x.2.1
      have hout : (((mrg a b).take i).flatMap (entF b)).length ≤ 8192 := by
        have := flat_len (entF b) (ent_len b) ((mrg a b).take i)
        rw [List.length_take] at this; omega
      unfold P_delta_Parts_L0
      dsimp only
      rw [ltI_len_true hi, sel_true, idx_some' hx, obind_some, tfind_val b x.2.1 hb (by omega) hv.2, obind_some, hadd]
      have hfit : ∀ p : Pt, fits (plus (len (((mrg a b).take i).flatMap (entF b))) (len [p])) = true := fun p => fits_len2 (by simp only [List.length_cons, List.length_nil]; omega)
      rcases isC_find hv.2 hc with ⟨k, hf⟩ | ⟨k, y, hy, hf⟩
      · rw [eqI_true k, nt_true, sel_false, psplit_val _ (by omega), obind_some, tfind_val b _ hb (by dsimp only; omega) hv.2, obind_some]
        dsimp only
        rw [fits_len2 (by simp only [List.length_cons, List.length_nil]; omega), sel_true, pjoin_val _ _ (by omega) (by rw [app_eq, List.length_append]; simp only [List.length_cons, List.length_nil]; omega), obind_some]
        simp only [hfit, sel_true]
        rw [show entF b x = if whB b x.2.1 = true then [whF x.2.1] else [] by unfold entF; rw [hf, if_neg (by simp)]]
        unfold whB
        cases sel (nt (eqS (splitF x.2.1).1 [])) (sel (findF b (splitF x.2.1).1).2.1 (eqI (findF b (splitF x.2.1).1).1.2.1 2) false) true with
        | false => rw [if_neg (by simp), List.append_nil]; rfl
        | true => rw [if_pos rfl]; rfl
      · rw [eqI_false k, hf]
        rw [show entF b x = [partF y] by unfold entF; rw [hf, if_pos rfl]]
        dsimp only
        rw [nt_false, sel_true, part_val y (by have := (hb.2 y hy).1; omega), obind_some]
        dsimp only
        rw [hfit, sel_true, way1_inl, app_eq]) (by
      unfold P_delta_Parts_L0
      dsimp only
      rw [ltI_len_end, sel_false]
      rfl)
    rw [show Loop (P_delta_Parts_L0 (a, (b, ())) (mrg a b, ((0 : Int), ()))) (((), ((0 : Int), ())), (([] : List Pt), ())) = _ from key, obind_some]
  · rw [if_neg hv, if_neg hv]
    rfl

/-- Entries that are few. -/
theorem parts_few {a b : List Nd} (ha : SmL a) (hb : SmL b) (hla : a.length ≤ 40) (hlb : b.length ≤ 40) : FewP (partsF a b).1 100 := by
  unfold partsF
  by_cases hv : Valid a ∧ Valid b
  · rw [if_pos hv]
    dsimp only
    have hent : ∀ p ∈ (mrg a b).flatMap (entF b), p.1.1.length ≤ 300 ∧ p.1.2.2.2.2.2.2.2.1.length ≤ 300 ∧ p.2.1.length ≤ 8192 := fun p hp => by
      obtain ⟨c, hc, hp⟩ := List.mem_flatMap.1 hp
      have hi := (mrg_of hv.1 hv.2).1 hc
      have hl := isC_len ha hb hi
      unfold entF at hp
      rcases isC_find hv.2 hi with ⟨k, hf⟩ | ⟨k, y, hy, hf⟩
      · rw [hf, if_neg (by simp)] at hp
        split at hp
        · rw [List.mem_singleton] at hp
          subst hp
          unfold whF
          dsimp only
          have h1 := joinP_len (splitF c.2.1).1 ([46, 119, 104, 46] ++ (splitF c.2.1).2)
          have h2 := split_sum c.2.1
          rw [List.length_append] at h1
          refine ⟨?_, by simp, by simp⟩
          simp only [List.length_cons, List.length_nil] at h1
          omega
        · cases hp
      · rw [hf, if_pos rfl, List.mem_singleton] at hp
        subst hp
        have := hb.2 y hy
        unfold Sm at this
        unfold partF
        dsimp only
        refine ⟨?_, by omega, by omega⟩
        split
        · rw [List.length_append, List.length_singleton]; omega
        · omega
    refine ⟨?_, fun p hp => (hent p hp).1, fun p hp => (hent p hp).2.1, fun p hp => (hent p hp).2.2⟩
    have := flat_len (entF b) (ent_len b) (mrg a b)
    have := mrg_len _ a b (Nat.le_refl _)
    omega
  · rw [if_neg hv]
    exact ⟨by simp, by simp, by simp, by simp⟩

noncomputable def diffF (a b : List Nd) : List UInt8 × Int := if (partsF a b).2 = 0 then writeF (partsF a b).1 else ([], (partsF a b).2)
theorem diff_val (a b : List Nd) (ha : SmL a) (hb : SmL b) (hla : a.length ≤ 40) (hlb : b.length ≤ 40) : P_delta_Diff (a, (b, ())) = some ((diffF a b).1, ((diffF a b).2, ())) := by
  unfold P_delta_Diff diffF
  dsimp only
  rw [tparts_val a b ha hb, obind_some]
  dsimp only
  rw [write_val _ (parts_few ha hb hla hlb), obind_some]
  by_cases e : (partsF a b).2 = 0
  · rw [eqI_true e, if_pos e]; rfl
  · rw [eqI_false e, if_neg e]; rfl
end Go.Ge

/- The law DeltaIs: the changes between any nodes, their entries and bytes, and their lines: in plain words. -/
namespace Go.Ge
set_option linter.unusedVariables false
set_option linter.unusedSimpArgs false

theorem chgSame_self (l : List Dl) (hl : l.length ≤ 4294967296) : P_ref16_Same (l, (l, ())) = some (true, ()) := by
  unfold P_ref16_Same
  dsimp only
  rw [eqI_true rfl, nt_true, sel_false]
  rcases srch (f := P_ref16_Same_L0 (l, (l, ()))) l (fun i => ((false, (i, ())), ())) (fun _ _ => false) (fun i _ => (1, ((false, ((i : Int), ())), ()))) (0, ((false, ((l.length : Int), ())), ())) hl (fun i x hx hi ha => by
      unfold P_ref16_Same_L0
      dsimp only
      rw [ltI_len_true hi, sel_true, sel_true, idx_some' hx, obind_some, obind_some, eqS_self, eqI_self, ha]
      rfl) (by unfold P_ref16_Same_L0; dsimp only; rw [ltI_len_end, sel_false, sel_false]) with ⟨i, x, _, hp, _⟩ | ⟨hn, h⟩
  · cases hp
  · rw [h]; rfl

def signF (k : Int) : List UInt8 := if 1 ≤ k ∧ k ≤ 3 then (if k = 1 then [43] else if k = 2 then [126] else [45]) else [63]
def lineC (c : Dl) : List UInt8 := signF c.1 ++ [32] ++ hexF c.2.1 ++ [10]

theorem signF_len (k : Int) : (signF k).length = 1 := by
  unfold signF
  split
  · split
    · rfl
    · split <;> rfl
  · rfl
theorem lineC_len (c : Dl) : (lineC c).length = 2 * c.2.1.length + 3 := by
  unfold lineC
  simp only [List.length_append, signF_len, length_hexF, List.length_cons, List.length_nil]
  omega
theorem flat_le {α β : Type} (g : α → List β) (k : Nat) : ∀ l : List α, (∀ x ∈ l, (g x).length ≤ k) → (l.flatMap g).length ≤ l.length * k := by
  intro l
  induction l with
  | nil => simp
  | cons x r ih =>
    intro h
    have h1 := h x (by simp)
    have h2 := ih fun y hy => h y (by simp [hy])
    simp only [List.flatMap_cons, List.length_append, List.length_cons, Nat.add_mul]
    omega
theorem sign_idx {k : Int} (h1 : 1 ≤ k) (h3 : k ≤ 3) : idx ([[], [43], [126], [45]] : List (List UInt8)) k = some (signF k) := by
  have : k = 1 ∨ k = 2 ∨ k = 3 := by omega
  rcases this with rfl | rfl | rfl <;> rfl

theorem textC_val (l : List Dl) (hl : l.length ≤ 4096) (hp : ∀ c ∈ l, c.2.1.length ≤ 4096) : P_delta_Text (l, ()) = some (l.flatMap lineC, ()) := by
  unfold P_delta_Text
  have key := fold_app (f := P_delta_Text_L0 (l, ())) l (fun (out : List Int) i => ((i, ()), (((), ((), ())), (out, ())))) (fun c => bytesInts (lineC c)) (((l.length : Int), ()), (((), ((), ())), (l.flatMap (fun c => bytesInts (lineC c)), ()))) (by omega) (fun i x hx hi hadd => by
    have hout : ((l.take i).flatMap (fun c => bytesInts (lineC c))).length ≤ (l.take i).length * 8200 := flat_le _ _ _ fun c hc => by
      have := hp c (List.mem_of_mem_take hc)
      rw [bi_len, lineC_len]; omega
    rw [List.length_take] at hout
    have hx1 := hp x (List.mem_of_getElem? hx)
    have hll := lineC_len x
    have fin : ∀ s : List UInt8, s = signF x.1 → (sel (fits (plus (len s) (len ([32] : List UInt8)))) (obind (P_digits_Hex (x.2.1, ())) (fun (y4 : (List (UInt8)) × Unit) => sel (fits (plus (@len UInt8 (@app UInt8 s ([(32 : UInt8)] : List (UInt8)))) (@len UInt8 y4.1)))
      (sel (fits (plus (@len UInt8 (@app UInt8 (@app UInt8 s ([(32 : UInt8)] : List (UInt8))) y4.1)) (@len UInt8 ([(10 : UInt8)] : List (UInt8)))))
      (sel (fits (plus (@len Int ((l.take i).flatMap (fun c => bytesInts (lineC c)))) (@len Int (bytesInts (@app UInt8 (@app UInt8 (@app UInt8 s ([(32 : UInt8)] : List (UInt8))) y4.1) ([(10 : UInt8)] : List (UInt8)))))))
      (some (Sum.inl (((((i + 1 : Nat) : Int)), ()), (((), ((), ())), (@app Int ((l.take i).flatMap (fun c => bytesInts (lineC c))) (bytesInts (@app UInt8 (@app UInt8 (@app UInt8 s ([(32 : UInt8)] : List (UInt8))) y4.1) ([(10 : UInt8)] : List (UInt8)))), ()))) : (((Int × Unit) × (Unit × Unit × Unit) × (List (Int)) × Unit)) ⊕ ((Nat × (Int × Unit) × (Unit × Unit × Unit) × (List (Int)) × Unit))))
      none) none) none)) none) = some (Sum.inl ((((i + 1 : Nat) : Int), ()), (((), ((), ())), ((l.take i).flatMap (fun c => bytesInts (lineC c)) ++ bytesInts (lineC x), ())))) := fun s e => by
      subst e
      have h1 := signF_len x.1
      rw [fits_len2 (by simp; omega), sel_true, hex_val _ (by omega), obind_some]
      dsimp only
      rw [fits_len2 (by rw [app_eq, List.length_append, length_hexF]; simp; omega), sel_true, fits_len2 (by rw [app_eq, app_eq, List.length_append, List.length_append, length_hexF]; simp; omega), sel_true]
      rw [show app (app (app (signF x.1) [32]) (hexF x.2.1)) [10] = lineC x from rfl, fits_len2 (by rw [bi_len, hll]; omega), sel_true]
      rfl
    unfold P_delta_Text_L0
    dsimp only
    rw [ltI_len_true hi, sel_true, idx_some' hx, obind_some, hadd]
    by_cases h1 : 1 ≤ x.1
    · by_cases h3 : x.1 ≤ 3
      · rw [leI_true h1, leI_true h3, sel_true, sel_true, within_true (by omega) (by omega), sel_true, sign_idx h1 h3, obind_some, obind_some]
        dsimp only
        rw [fin _ rfl]; rfl
      · rw [leI_true h1, leI_false (by omega), sel_true, sel_false, obind_some]
        dsimp only
        rw [fin _ (by unfold signF; rw [if_neg (by omega)])]; rfl
    · rw [leI_false (by omega), sel_false, sel_false, obind_some]
      dsimp only
      rw [fin _ (by unfold signF; rw [if_neg (by omega)])]; rfl) (by
    unfold P_delta_Text_L0
    dsimp only
    rw [ltI_len_end, sel_false]
    rfl)
  rw [show Loop (P_delta_Text_L0 (l, ())) (((0 : Int), ()), (((), ((), ())), (([] : List Int), ()))) = _ from key, obind_some]
  dsimp only
  have : l.flatMap (fun c => bytesInts (lineC c)) = bytesInts (l.flatMap lineC) := by
    unfold bytesInts
    rw [List.map_flatMap]
  rw [this, intsBytes_bytes]

end Go.Ge

/- The law DeltaIs, joined: in plain words. -/
namespace Go.Ge
set_option linter.unusedVariables false
set_option linter.unusedSimpArgs false

def wA1 : Nd := ([97], (1, (0, ([], ([], ())))))
def wA2 : Nd := ([98], (1, (0, ([], ([], ())))))
def wB1 : Nd := ([98], (1, (0, ([120], ([], ())))))
def wB2 : Nd := ([100], (2, (0, ([], ([], ())))))
def wC : List Dl := [(3, ([97], ())), (2, ([98], ())), (1, ([100], ()))]
def wP1 : Pt := (([46, 119, 104, 46, 97], (1, (0, (0, (0, (0, (0, ([], ())))))))), ([], ()))
def wP2 : Pt := (([98], (1, (0, (0, (0, (1, (0, ([], ())))))))), ([120], ()))
def wP3 : Pt := (([100, 47], (2, (0, (0, (0, (0, (0, ([], ())))))))), ([], ()))

theorem wS : SmL [wA1, wA2] ∧ SmL [wB1, wB2] := ⟨sm2 ⟨by decide, by decide, by decide⟩ ⟨by decide, by decide, by decide⟩, sm2 ⟨by decide, by decide, by decide⟩ ⟨by decide, by decide, by decide⟩⟩
theorem wV : Valid [wA1, wA2] ∧ Valid [wB1, wB2] := ⟨validB_valid (by decide +kernel), validB_valid (by decide +kernel)⟩
theorem wM : mrg [wA1, wA2] [wB1, wB2] = wC := by
  rw [mrg, if_pos (by decide +kernel), mrg, if_neg (by decide +kernel), if_neg (by decide +kernel), if_neg (by decide +kernel), mrg, mrg]
  rfl
theorem wE1 : entF [wB1, wB2] (3, ([97], ())) = [wP1] := by kernel_rfl
theorem wE2 : entF [wB1, wB2] (2, ([98], ())) = [wP2] := by kernel_rfl
theorem wE3 : entF [wB1, wB2] (1, ([100], ())) = [wP3] := by kernel_rfl
theorem wPs : partsF [wA1, wA2] [wB1, wB2] = ([wP1, wP2, wP3], 0) := by
  unfold partsF
  rw [if_pos wV, wM]
  unfold wC
  simp only [List.flatMap_cons, List.flatMap_nil, wE1, wE2, wE3]
  rfl
theorem wOk : ∀ p ∈ [wP1, wP2, wP3], okPt p := by
  intro p hp
  simp only [List.mem_cons, List.not_mem_nil, or_false] at hp
  rcases hp with rfl | rfl | rfl
  · exact ⟨by decide +kernel, rfl⟩
  · exact ⟨by decide +kernel, rfl⟩
  · exact ⟨by decide +kernel, rfl⟩
theorem wLen : (allB [wP1, wP2, wP3]).length = 2048 := by rw [sizeP_all wOk]; rfl
theorem wD : diffF [wA1, wA2] [wB1, wB2] = (allB [wP1, wP2, wP3] ++ nul 1024, 0) := by
  unfold diffF
  rw [wPs]
  dsimp only
  rw [if_pos rfl]
  unfold writeF
  rw [if_neg (by decide), if_pos wOk, if_neg (by rw [wLen]; omega)]

theorem awake16 : P_law16_awake () = some (true, ()) := by
  unfold P_law16_awake
  have h1 := changes_val [wA1, wA2] [wB1, wB2] wS.1 wS.2
  have h2 := tparts_val [wA1, wA2] [wB1, wB2] wS.1 wS.2
  have h3 := diff_val [wA1, wA2] [wB1, wB2] wS.1 wS.2 (by decide) (by decide)
  unfold chgF at h1
  rw [if_pos wV, wM] at h1
  rw [wPs] at h2
  rw [wD] at h3
  have hl : (allB [wP1, wP2, wP3] ++ nul 1024).length = 3072 := by rw [List.length_append, length_nul, wLen]
  have ht := textC_val wC (by decide) (by decide)
  rw [show wC.flatMap lineC = [45, 32, 54, 49, 10, 126, 32, 54, 50, 10, 43, 32, 54, 52, 10] by kernel_rfl] at ht
  have hs := chgSame_self wC (by decide)
  unfold wA1 wA2 wB1 wB2 at h1 h2 h3
  have hs' : P_ref16_Same (wC, ([(3, ([97], ())), (2, ([98], ())), (1, ([100], ()))], ())) = some (true, ()) := hs
  rw [h1, obind_some, h2, obind_some, h3, obind_some]
  dsimp only
  rw [hs', obind_some, ht, obind_some]
  dsimp only
  rw [show eqI (len (allB [wP1, wP2, wP3] ++ nul 1024)) 3072 = true from eqI_true (by rw [len_eq, hl]; rfl)]
  rfl

theorem ifawake16 {c : Bool} {x : Option (Bool × Unit)} (h : c = false → x = some (true, ())) : sel c (obind (P_law16_awake ()) fun y => some (y.1, ())) x = some (true, ()) := by
  cases c with
  | true => rw [sel_true, awake16]; rfl
  | false => rw [sel_false]; exact h rfl

end Go.Ge

/- The law DeltaTurns: between a tree and itself nothing is changed: in plain words. -/
namespace Go.Ge
set_option linter.unusedVariables false
set_option linter.unusedSimpArgs false

theorem mrg_self {a : List Nd} (ha : Valid a) : mrg a a = [] := by
  rw [List.eq_nil_iff_forall_not_mem]
  intro c hc
  rcases (mrg_of ha ha).1 hc with ⟨_, x, hx, _, hn⟩ | ⟨_, y, hy, _, hn⟩ | ⟨_, x, hx, y, hy, e, hne, _⟩
  · exact hn x hx rfl
  · exact hn y hy rfl
  · exact hne (ha.ord.uniq hx hy e)

theorem mrg_nil : ∀ (n : Nat) (a b : List Nd), a.length + b.length ≤ n → mrg a b = [] → a = b := by
  intro n
  induction n with
  | zero =>
    intro a b h _
    obtain rfl := List.length_eq_zero_iff.1 (show a.length = 0 by omega)
    obtain rfl := List.length_eq_zero_iff.1 (show b.length = 0 by omega)
    rfl
  | succ n ih =>
    intro a b h e
    cases a with
    | nil =>
      cases b with
      | nil => rfl
      | cons y b => rw [mrg] at e; cases e
    | cons x a =>
      cases b with
      | nil => rw [mrg] at e; cases e
      | cons y b =>
        rw [mrg] at e
        split at e
        · cases e
        · split at e
          · cases e
          · have e2 := List.append_eq_nil_iff.1 e
            have hxy : x = y := by
              by_cases hxy : x = y
              · exact hxy
              · rw [if_neg hxy] at e2; cases e2.1
            rw [hxy, ih a b (by simp at h; omega) e2.2]

/-- The other way round. -/
def turnC (c : Dl) : Dl := (if c.1 = 1 then 3 else if c.1 = 3 then 1 else c.1, c.2)

theorem mrg_turn {a b : List Nd} (ha : Valid a) (hb : Valid b) : mrg b a = (mrg a b).map turnC := by
  have h1 := mrg_spec (b.length + a.length) b a (Nat.le_refl _) (ord_pairs.1 hb.ord) (ord_pairs.1 ha.ord)
  have h2 := mrg_spec (a.length + b.length) a b (Nat.le_refl _) (ord_pairs.1 ha.ord) (ord_pairs.1 hb.ord)
  refine ordC_ext h1.1 (List.pairwise_map.2 h2.1) fun c => ?_
  rw [h1.2, List.mem_map]
  constructor
  · rintro (⟨k, x, hx, e, hn⟩ | ⟨k, y, hy, e, hn⟩ | ⟨k, x, hx, y, hy, e1, hne, e2⟩)
    · exact ⟨(1, c.2), (h2.2 _).2 (.inr (.inl ⟨rfl, x, hx, e, hn⟩)), by unfold turnC; rw [if_pos rfl, ← k]⟩
    · exact ⟨(3, c.2), (h2.2 _).2 (.inl ⟨rfl, y, hy, e, hn⟩), by unfold turnC; rw [if_neg (show ¬ (3 : Int) = 1 by decide), if_pos rfl, ← k]⟩
    · exact ⟨(2, c.2), (h2.2 _).2 (.inr (.inr ⟨rfl, y, hy, x, hx, e1.symm, fun q => hne q.symm, by rw [← e1, e2]⟩)), by unfold turnC; rw [if_neg (show ¬ (2 : Int) = 1 by decide), if_neg (show ¬ (2 : Int) = 3 by decide), ← k]⟩
  · rintro ⟨d, hd, rfl⟩
    rcases (h2.2 d).1 hd with ⟨k, x, hx, e, hn⟩ | ⟨k, y, hy, e, hn⟩ | ⟨k, x, hx, y, hy, e1, hne, e2⟩
    · exact .inr (.inl ⟨by unfold turnC; rw [k]; rfl, x, hx, e, hn⟩)
    · exact .inl ⟨by unfold turnC; rw [k]; rfl, y, hy, e, hn⟩
    · exact .inr (.inr ⟨by unfold turnC; rw [k]; rfl, y, hy, x, hx, e1.symm, fun q => hne q.symm, by rw [← e1]; exact e2⟩)

theorem deltaTurns_val (a b : List Nd) : P_law16_DeltaTurns (a, (b, ())) = some (true, ()) := by
  unfold P_law16_DeltaTurns
  dsimp only
  obtain ⟨f1, e1, g1⟩ := few14_val a 30 30 rfl (by omega)
  obtain ⟨f2, e2, g2⟩ := few14_val b 30 30 rfl (by omega)
  rw [e1, obind_some, e2, obind_some]
  dsimp only
  rw [show (sel (nt (nt f1)) (some (nt f2)) (some true) : Option Bool) = some (!(f1 && f2)) by cases f1 <;> cases f2 <;> rfl, obind_some]
  by_cases hf : f1 = true ∧ f2 = true
  case neg =>
    have : (!(f1 && f2)) = true := by
      cases f1 <;> cases f2 <;> first | rfl | exact absurd ⟨rfl, rfl⟩ hf
    rw [this, nt_true, sel_false, obind_some, nt_true, sel_false, obind_some, sel_true, awake16]
    rfl
  obtain ⟨rfl, rfl⟩ := hf
  obtain ⟨la, ha⟩ := g1 rfl
  obtain ⟨lb, hb⟩ := g2 rfl
  obtain ⟨v1, c1, d1⟩ := isTree_val a ha
  obtain ⟨v2, c2, d2⟩ := isTree_val b hb
  rw [show nt (!(true && true)) = true from rfl, sel_true, c1, obind_some, obind_some, c2, obind_some]
  dsimp only
  rw [show (sel (nt (nt v1)) (some (nt v2)) (some true) : Option Bool) = some (!(v1 && v2)) by cases v1 <;> cases v2 <;> rfl, obind_some]
  refine ifawake16 fun hc => ?_
  have hf : v1 = true ∧ v2 = true := by cases v1 <;> cases v2 <;> first | exact ⟨rfl, rfl⟩ | cases hc
  have va := d1.1 hf.1
  have vb := d2.1 hf.2
  rw [changes_val a a ha ha, obind_some, changes_val a b ha hb, obind_some, changes_val b a hb ha, obind_some]
  unfold chgF
  rw [if_pos ⟨va, va⟩, if_pos ⟨va, vb⟩, if_pos ⟨vb, va⟩, mrg_self va, mrg_turn va vb]
  dsimp only
  have hlen := mrg_len _ a b (Nat.le_refl _)
  rw [same_val a b (by omega), obind_some]
  dsimp only
  have hz : eqI (len (mrg a b)) 0 = decide (a = b) := by
    have : eqI (len (mrg a b)) 0 = decide ((mrg a b).length = 0) := by unfold eqI len; apply decide_eq_decide.2; omega
    rw [this]
    apply decide_eq_decide.2
    constructor
    · intro h
      exact mrg_nil _ a b (Nat.le_refl _) (List.length_eq_zero_iff.1 h)
    · rintro rfl
      rw [mrg_self va]; rfl
  rw [hz, show eqI (len (mrg a b)) (len ((mrg a b).map turnC)) = true from eqI_true (by rw [len_eq, len_eq, List.length_map])]
  rw [show eqB (decide (a = b)) (decide (a = b)) = true by unfold eqB; simp]
  rw [show ltI 0 (len ([] : List Dl)) = false from rfl, show eqI 0 0 = true from rfl]
  rw [show (sel (nt (sel (nt (sel (nt (sel (nt (sel (nt (nt true)) (nt true) true)) (nt true) true)) false true)) (nt true) true)) (some (nt true)) (some true) : Option Bool) = some false from rfl, obind_some, sel_false]
  rcases srch (f := P_law16_DeltaTurns_L0 (mrg a b, ((0 : Int), ())) ((mrg a b).map turnC, ((0 : Int), ()))) (mrg a b) (fun i => ((false, (i, ())), ())) (fun _ _ => false) (fun i _ => (1, ((false, ((i : Int), ())), ()))) (0, ((false, (((mrg a b).length : Int), ())), ())) (by omega) (fun i x hx hi hadd => by
      have hy : ((mrg a b).map turnC)[i]? = some (turnC x) := by rw [List.getElem?_map, hx]; rfl
      unfold P_law16_DeltaTurns_L0
      dsimp only
      rw [ltI_len_true hi, sel_true, idx_some' hx, obind_some, obind_some, obind_some, idx_some' hy, obind_some, hadd]
      unfold turnC
      dsimp only
      by_cases k1 : x.1 = 1
      · rw [eqI_true k1, sel_true, if_pos k1]
        dsimp only
        rw [eqI_self, eqS_self]; rfl
      · by_cases k3 : x.1 = 3
        · rw [eqI_false k1, sel_false, eqI_true k3, sel_true, if_neg k1, if_pos k3]
          dsimp only
          rw [eqI_self, eqS_self]; rfl
        · rw [eqI_false k1, sel_false, eqI_false k3, sel_false, if_neg k1, if_neg k3]
          dsimp only
          rw [eqI_self, eqS_self]; rfl) (by
      unfold P_law16_DeltaTurns_L0
      dsimp only
      rw [ltI_len_end, sel_false]) with ⟨i, x, _, hp, _⟩ | ⟨hn, h⟩
  · cases hp
  · rw [h, obind_some]
    dsimp only
    rw [show eqN 0 0 = true from rfl, sel_true, awake16, obind_some]
end Go.Ge
