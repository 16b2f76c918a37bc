/- Entries, one behind the other, in plain words: what is written. -/
import Derived.Test.YtkjpgahmolmnmaaDoorGqC
import Derived.Test.YtkjpgahmolmnmaaDoorGq12I
import Derived.Test.YtkjpgahmolmnmaaDoorGp13
namespace Go.Ge
set_option linter.unusedVariables false
set_option linter.unusedSimpArgs false

abbrev Pt := Hd × List UInt8 × Unit
def hsize (h : Hd) : Int := h.2.2.2.2.2.1
def kdOf (h : Hd) : UInt8 := if h.2.1 = 1 then 48 else if h.2.1 = 2 then 53 else 50
/-- A header's block. -/
def putB (h : Hd) : List UInt8 := putF h h.2.2.1.toNat h.2.2.2.1.toNat h.2.2.2.2.1.toNat h.2.2.2.2.2.1.toNat h.2.2.2.2.2.2.1.toNat (kdOf h)

theorem fitsHd {h : Hd} (ho : okHd h 100) : Fits h h.2.2.1.toNat h.2.2.2.1.toNat h.2.2.2.2.1.toNat h.2.2.2.2.2.1.toNat h.2.2.2.2.2.2.1.toNat (kdOf h) := by
  obtain ⟨m, u, g, z, t, kd, F⟩ := fits_of ho
  have e1 := F.m.1; have e2 := F.u.1; have e3 := F.g.1; have e4 := F.z.1; have e5 := F.t.1
  have ek : kdOf h = kd := by
    unfold kdOf
    rcases F.kind with ⟨k, rfl⟩ | ⟨k, rfl⟩ | ⟨k, rfl⟩ <;> rw [k] <;> rfl
  rw [ek, e1, e2, e3, e4, e5]
  simp only [Int.toNat_natCast]
  exact F

theorem putB_val {h : Hd} (ho : okHd h 100) : P_header_Put (h, ()) = some (putB h, (0, ())) := put_val ho (fitsHd ho)
theorem refPutB_val {h : Hd} (hp : h.1.length ≤ 300) (hl : h.2.2.2.2.2.2.2.1.length ≤ 300) (ho : okHd h 100) : P_ref12_Put (h, ()) = some (putB h, (0, ())) := refPut_val hp hl ho (fitsHd ho)
theorem putB_take {h : Hd} (ho : okHd h 100) : P_header_Take (putB h, ()) = some (h, (0, ())) := take_put ho (fitsHd ho)
theorem length_putB {h : Hd} (ho : okHd h 100) : (putB h).length = 512 := putF_length (fitsHd ho)
theorem putB_not_zero {h : Hd} (ho : okHd h 100) : P_header_Zero (putB h, ()) = some (false, ()) := not_zero (length_putB ho) (putF_fld (fitsHd ho)).2.2.2.2.2.2.2.2.2.1

/-- May an entry be? -/
def okPt (p : Pt) : Prop := okHd p.1 100 ∧ hsize p.1 = (p.2.1.length : Int)
instance (p : Pt) : Decidable (okPt p) := inferInstanceAs (Decidable (_ ∧ _))
def fillN (n : Nat) : Nat := (512 - n % 512) % 512
def body (p : Pt) : List UInt8 := putB p.1 ++ p.2.1 ++ nul (fillN p.2.1.length)
def allB (l : List Pt) : List UInt8 := (l.map body).flatten
/-- The bytes of entries. -/
def writeF (l : List Pt) : List UInt8 × Int :=
  if 64 < l.length then ([], 5) else if ∀ p ∈ l, okPt p then (if 7168 < (allB l).length then ([], 5) else (allB l ++ nul 1024, 0)) else ([], 1)

theorem length_body {p : Pt} (h : okPt p) : (body p).length = 512 + p.2.1.length + fillN p.2.1.length := by
  unfold body
  rw [List.length_append, List.length_append, length_putB h.1, length_nul]
theorem fillN_lt (n : Nat) : fillN n < 512 := Nat.mod_lt _ (by decide)
theorem body_mod {p : Pt} (h : okPt p) : (body p).length % 512 = 0 := by
  rw [length_body h]; unfold fillN; omega
theorem allB_cons (p : Pt) (l : List Pt) : allB (p :: l) = body p ++ allB l := rfl
theorem allB_app (l m : List Pt) : allB (l ++ m) = allB l ++ allB m := by simp [allB]
theorem allB_mod {l : List Pt} (h : ∀ p ∈ l, okPt p) : (allB l).length % 512 = 0 := by
  induction l with
  | nil => rfl
  | cons p l ih =>
    rw [allB_cons, List.length_append]
    have := body_mod (h p (List.mem_cons_self ..))
    have := ih fun q hq => h q (List.mem_cons_of_mem _ hq)
    omega

theorem fill_val (n : Nat) (hn : n ≤ 1048576) : P_tar_fill ((n : Int), ()) = some ((fillN n : Int), ()) := by
  unfold P_tar_fill
  dsimp only
  rw [show eqI 512 0 = false from rfl, sel_false, sel_false]
  have e1 : irem (n : Int) 512 = ((n % 512 : Nat) : Int) := rfl
  rw [e1, isub_i64 (by omega) (by omega), show (512 : Int) - ((n % 512 : Nat) : Int) = ((512 - n % 512 : Nat) : Int) by omega]
  rfl

theorem repeatL_nul (n : Nat) : Lib.repeatL [0] n = nul n := by
  induction n with
  | zero => rfl
  | succ n ih =>
    show [0] ++ Lib.repeatL [0] n = nul (n + 1)
    rw [ih]
    rfl
theorem noughts_val (n : Nat) (hn : n ≤ 1048576) : P_tar_noughts ((n : Int), ()) = some (nul n, ()) := by
  unfold P_tar_noughts
  dsimp only
  have : P_strings_Repeat ([0], ((n : Int), ())) = some (nul n, ()) := by
    show (S_strings_Repeat [0] (n : Int)).map (fun y => (y, ())) = _
    unfold S_strings_Repeat
    rw [if_neg (by rw [Int.toNat_natCast]; simp only [List.length_cons, List.length_nil]; omega), Int.toNat_natCast, repeatL_nul]
    rfl
  rw [this, obind_some]
theorem nul_ints (n : Nat) : intsBytes (lrep (n : Int) 0) = nul n := by
  unfold intsBytes lrep nul
  rw [Int.toNat_natCast, List.map_replicate]
  rfl
theorem refNoughts_val (n : Nat) (hn : n ≤ 1048576) : P_ref13_noughts ((n : Int), ()) = some (nul n, ()) := by
  unfold P_ref13_noughts
  dsimp only
  rw [inside_true (by omega) (by omega) (by omega), sel_true, fits_true (by omega), sel_true, nul_ints]

theorem whole13_val (n : Nat) (hn : n ≤ 1048576) : P_ref13_whole ((n : Int), ()) = some (((n + fillN n : Nat) : Int), ()) := by
  unfold P_ref13_whole
  dsimp only
  have key := loop_seq (f := P_ref13_whole_L0) (r := ((((n + fillN n : Nat) : Int), ()), ())) (fillN n) (fun i => ((((n + i : Nat) : Int), ()), ())) (fun i hi => by
      have hm := hi
      unfold fillN at hm
      unfold P_ref13_whole_L0
      dsimp only
      rw [show eqI 512 0 = false from rfl, sel_false, show irem ((n + i : Nat) : Int) 512 = (((n + i) % 512 : Nat) : Int) from rfl, eqI_false (by omega), nt_false, sel_true, iadd_one (by omega)]
      rfl) (by
      unfold P_ref13_whole_L0
      dsimp only
      rw [show eqI 512 0 = false from rfl, sel_false, show irem ((n + fillN n : Nat) : Int) 512 = (((n + fillN n) % 512 : Nat) : Int) from rfl, eqI_true (by unfold fillN; omega), nt_true, sel_false]
      rfl)
  rw [show Loop P_ref13_whole_L0 (((n : Int), ()), ()) = _ from key, obind_some]

theorem bi_app (a b : List UInt8) : bytesInts a ++ bytesInts b = bytesInts (a ++ b) := by simp [bytesInts]
theorem bi_len (a : List UInt8) : (bytesInts a).length = a.length := List.length_map ..

/-- Few entries, of few bytes. -/
structure FewP (l : List Pt) (n : Nat) : Prop where
  many : l.length ≤ n
  path : ∀ p ∈ l, p.1.1.length ≤ 300
  link : ∀ p ∈ l, p.1.2.2.2.2.2.2.2.1.length ≤ 300
  data : ∀ p ∈ l, p.2.1.length ≤ 8192

theorem few_val (l : List Pt) (n : Nat) (hn : n ≤ 1000) : ∃ b, P_ref13_Few (l, ((n : Int), ())) = some (b, ()) ∧ (b = true → FewP l n) := by
  unfold P_ref13_Few
  dsimp only
  have run : ∀ (m i : Nat), n - i ≤ m → i ≤ n → i ≤ l.length → (∀ p ∈ l.take i, p.1.1.length ≤ 300 ∧ p.1.2.2.2.2.2.2.2.1.length ≤ 300 ∧ p.2.1.length ≤ 8192) →
      ∃ q, Loop (P_ref13_Few_L0 (l, ((n : Int), ()))) ((false, ((i : Int), ())), ()) = some q ∧ (if q.1 = 0 then ∀ p ∈ l.take n, p.1.1.length ≤ 300 ∧ p.1.2.2.2.2.2.2.2.1.length ≤ 300 ∧ p.2.1.length ≤ 8192 else q.1 = 1 ∧ q.2.1.1 = false) := by
    intro m
    induction m with
    | zero =>
      intro i hm hi hl hp
      obtain rfl : i = n := by omega
      refine ⟨(0, ((false, ((i : Int), ())), ())), ?_, by rw [if_pos rfl]; exact hp⟩
      rw [Loop_eq]
      have : P_ref13_Few_L0 (l, ((i : Int), ())) ((false, ((i : Int), ())), ()) = some (.inr (0, ((false, ((i : Int), ())), ()))) := by
        unfold P_ref13_Few_L0
        dsimp only
        rw [ltI_false (Int.le_refl _)]
        cases ltI (i : Int) (len l) <;> rfl
      rw [this]; rfl
    | succ m ih =>
      intro i hm hi hl hp
      by_cases h : i < n ∧ i < l.length
      · obtain ⟨p, hpp⟩ : ∃ p, l[i]? = some p := ⟨_, List.getElem?_eq_getElem h.2⟩
        rw [Loop_eq]
        have st : P_ref13_Few_L0 (l, ((n : Int), ())) ((false, ((i : Int), ())), ()) = if p.1.1.length ≤ 300 ∧ p.1.2.2.2.2.2.2.2.1.length ≤ 300 ∧ p.2.1.length ≤ 8192 then some (.inl ((false, (((i + 1 : Nat) : Int), ())), ())) else some (.inr (1, ((false, ((i : Int), ())), ()))) := by
          unfold P_ref13_Few_L0
          dsimp only
          rw [ltI_len_true h.2, ltI_true (by omega), sel_true, sel_true, idx_some' hpp, obind_some, obind_some, obind_some, iadd_one (by omega)]
          by_cases a : p.1.1.length ≤ 300
          · by_cases b : p.1.2.2.2.2.2.2.2.1.length ≤ 300
            · by_cases c : p.2.1.length ≤ 8192
              · rw [ltI_false (by rw [len_eq]; omega), ltI_false (by rw [len_eq]; omega), ltI_false (by rw [len_eq]; omega), if_pos ⟨a, b, c⟩]; rfl
              · rw [ltI_false (by rw [len_eq]; omega), ltI_false (by rw [len_eq]; omega), ltI_true (by rw [len_eq]; omega), if_neg (fun q => c q.2.2)]; rfl
            · rw [ltI_false (by rw [len_eq]; omega), ltI_true (by rw [len_eq]; omega), if_neg (fun q => b q.2.1)]; rfl
          · rw [ltI_true (by rw [len_eq]; omega), if_neg (fun q => a q.1)]; rfl
        rw [st]
        by_cases ok : p.1.1.length ≤ 300 ∧ p.1.2.2.2.2.2.2.2.1.length ≤ 300 ∧ p.2.1.length ≤ 8192
        · rw [if_pos ok]
          refine ih (i + 1) (by omega) (by omega) (by omega) fun q hq => ?_
          rw [List.take_add_one, hpp] at hq
          rcases List.mem_append.1 hq with hq | hq
          · exact hp q hq
          · simp only [Option.toList_some, List.mem_cons, List.not_mem_nil, or_false] at hq; rw [hq]; exact ok
        · rw [if_neg ok]
          exact ⟨_, rfl, by rw [if_neg (by simp)]; exact ⟨rfl, rfl⟩⟩
      · refine ⟨(0, ((false, ((i : Int), ())), ())), ?_, ?_⟩
        · rw [Loop_eq]
          have : P_ref13_Few_L0 (l, ((n : Int), ())) ((false, ((i : Int), ())), ()) = some (.inr (0, ((false, ((i : Int), ())), ()))) := by
            unfold P_ref13_Few_L0
            dsimp only
            by_cases hi' : i < l.length
            · rw [ltI_len_true hi', ltI_false (by omega), sel_true, sel_false]
            · rw [ltI_len, decide_eq_false hi', sel_false, sel_false]
          rw [this]; rfl
        · rw [if_pos rfl]
          by_cases hi' : i < n
          · have e : l.take n = l.take i := by rw [List.take_of_length_le (by omega), List.take_of_length_le (by omega)]
            rw [e]; exact hp
          · obtain rfl : i = n := by omega
            exact hp
  obtain ⟨q, h1, h2⟩ := run n 0 (by omega) (by omega) (by omega) (by simp)
  rw [show Loop (P_ref13_Few_L0 (l, ((n : Int), ()))) ((false, ((0 : Int), ())), ()) = some q from h1, obind_some]
  by_cases h : q.1 = 0
  · rw [if_pos h] at h2
    rw [h, eqN_zero, sel_true]
    refine ⟨_, rfl, fun e => ?_⟩
    have hl : l.length ≤ n := by
      rw [leI_len] at e
      simpa using e
    rw [List.take_of_length_le hl] at h2
    exact ⟨hl, fun p hp => (h2 p hp).1, fun p hp => (h2 p hp).2.1, fun p hp => (h2 p hp).2.2⟩
  · rw [if_neg h] at h2
    rw [h2.1, eqN_one, sel_false, h2.2]
    exact ⟨false, rfl, fun e => by cases e⟩

theorem length_allB_le {l : List Pt} (hk : ∀ p ∈ l, okPt p) (hd : ∀ p ∈ l, p.2.1.length ≤ 8192) : (allB l).length ≤ l.length * 9216 := by
  induction l with
  | nil => simp [allB]
  | cons p l ih =>
    rw [allB_cons, List.length_append, length_body (hk p (List.mem_cons_self ..))]
    have h1 := hd p (List.mem_cons_self ..)
    have h2 := fillN_lt p.2.1.length
    have h3 := ih (fun q hq => hk q (List.mem_cons_of_mem _ hq)) (fun q hq => hd q (List.mem_cons_of_mem _ hq))
    simp only [List.length_cons, Nat.succ_mul]
    omega

theorem write_val (l : List Pt) (h : FewP l 70) : P_tar_Write (l, ()) = some ((writeF l).1, ((writeF l).2, ())) := by
  unfold P_tar_Write writeF
  dsimp only
  have hd := h.data
  by_cases h64 : 64 < l.length
  · rw [ltI_true (by rw [len_eq]; omega), sel_true, if_pos h64]
  rw [ltI_false (by rw [len_eq]; omega), sel_false, if_neg h64]
  have run : ∀ (r pre : List Pt), l = pre ++ r → (∀ p ∈ pre, okPt p) → ∃ q, Loop (P_tar_Write_L0 (l, ())) ((([] : List UInt8), ((0 : Int), ((pre.length : Int), ()))), (((), ((), ())), (bytesInts (allB pre), ()))) = some q ∧
      (if ∀ p ∈ r, okPt p then q.1 = 0 ∧ q.2.2.2.1 = bytesInts (allB l) else q.1 = 1 ∧ q.2.1.1 = [] ∧ q.2.1.2.1 = 1) := by
    intro r
    induction r with
    | nil =>
      intro pre hl hp
      rw [List.append_nil] at hl
      subst hl
      refine ⟨(0, ((([] : List UInt8), ((0 : Int), ((l.length : Int), ()))), (((), ((), ())), (bytesInts (allB l), ())))), ?_, by rw [if_pos (by simp)]; exact ⟨rfl, rfl⟩⟩
      · rw [Loop_eq]
        have : P_tar_Write_L0 (l, ()) ((([] : List UInt8), ((0 : Int), ((l.length : Int), ()))), (((), ((), ())), (bytesInts (allB l), ()))) = some (.inr (0, ((([] : List UInt8), ((0 : Int), ((l.length : Int), ()))), (((), ((), ())), (bytesInts (allB l), ()))))) := by
          unfold P_tar_Write_L0
          dsimp only
          rw [ltI_len_end, sel_false]
        rw [this]; rfl
    | cons p r ih =>
      intro pre hl hp
      have hx : l[pre.length]? = some p := by rw [hl]; simp
      have hlt := getElem?_lt hx
      have hmem : p ∈ l := List.mem_of_getElem? hx
      have hpd := hd p hmem
      have hpl := length_allB_le (l := pre) hp (fun q hq => hd q (by rw [hl]; exact List.mem_append_left _ hq))
      have hpn : pre.length ≤ 64 := by rw [hl, List.length_append] at h64; omega
      have hpm : pre.length * 9216 ≤ 64 * 9216 := Nat.mul_le_mul_right _ hpn
      rw [Loop_eq]
      by_cases hk : okPt p
      · have st : P_tar_Write_L0 (l, ()) ((([] : List UInt8), ((0 : Int), ((pre.length : Int), ()))), (((), ((), ())), (bytesInts (allB pre), ()))) = some (.inl ((([] : List UInt8), ((0 : Int), (((pre.length + 1 : Nat) : Int), ()))), (((), ((), ())), (bytesInts (allB (pre ++ [p])), ())))) := by
          unfold P_tar_Write_L0
          dsimp only
          have hB := length_putB hk.1
          have hf := fillN_lt p.2.1.length
          rw [ltI_len_true hlt, sel_true, idx_some' hx, obind_some, putB_val hk.1, obind_some]
          dsimp only
          rw [eqI_self, nt_true, nt_false, sel_true, show eqI p.1.2.2.2.2.2.1 (len p.2.1) = true from eqI_true hk.2, nt_true, sel_false]
          rw [fits_len2 (by rw [bi_len, bi_len]; omega), sel_true, ltI_false (by rw [len_eq]; omega), sel_false, show P_tar_fill (len p.2.1, ()) = _ from fill_val p.2.1.length (by omega), obind_some, noughts_val _ (by omega), obind_some]
          dsimp only
          rw [fits_len2 (by rw [length_nul]; omega), sel_true, fits_len2 (by simp only [app_eq, List.length_append, bi_len, length_nul]; omega), sel_true, iadd_one (by omega)]
          simp only [app_eq, bi_app]
          rw [allB_app]
          simp [allB, body, List.append_assoc]
        rw [st]
        obtain ⟨q, h1, h2⟩ := ih (pre ++ [p]) (by rw [hl]; simp) (fun q hq => by
          rcases List.mem_append.1 hq with hq | hq
          · exact hp q hq
          · simp only [List.mem_cons, List.not_mem_nil, or_false] at hq; rw [hq]; exact hk)
        rw [List.length_append] at h1
        refine ⟨q, h1, ?_⟩
        by_cases hr : ∀ p ∈ r, okPt p
        · rw [if_pos hr] at h2
          rw [if_pos (fun q hq => (List.mem_cons.1 hq).elim (fun e => e ▸ hk) (hr q))]
          exact h2
        · rw [if_neg hr] at h2
          rw [if_neg (fun a => hr fun q hq => a q (List.mem_cons_of_mem _ hq))]
          exact h2
      · have st : P_tar_Write_L0 (l, ()) ((([] : List UInt8), ((0 : Int), ((pre.length : Int), ()))), (((), ((), ())), (bytesInts (allB pre), ()))) = some (.inr (1, ((([] : List UInt8), ((1 : Int), ((pre.length : Int), ()))), (((), ((), ())), (bytesInts (allB pre), ()))))) := by
          unfold P_tar_Write_L0
          dsimp only
          rw [ltI_len_true hlt, sel_true, idx_some' hx, obind_some]
          by_cases ho : okHd p.1 100
          · rw [putB_val ho, obind_some]
            dsimp only
            rw [eqI_self, nt_true, nt_false, sel_true, show eqI p.1.2.2.2.2.2.1 (len p.2.1) = false from eqI_false (fun e => hk ⟨ho, e⟩), nt_false, sel_true]
          · rw [put_not ho, obind_some]
            dsimp only
            rw [show eqI 1 0 = false from rfl, nt_false, nt_true, sel_false, sel_true]
        rw [st]
        refine ⟨_, rfl, ?_⟩
        rw [if_neg (fun a => hk (a p (List.mem_cons_self ..)))]
        exact ⟨rfl, rfl, rfl⟩
  obtain ⟨q, h1, h2⟩ := run l [] rfl (by simp)
  rw [show Loop (P_tar_Write_L0 (l, ())) ((([] : List UInt8), ((0 : Int), ((0 : Int), ()))), (((), ((), ())), (([] : List Int), ()))) = some q from h1, obind_some]
  by_cases hk : ∀ p ∈ l, okPt p
  · rw [if_pos hk] at h2
    rw [if_pos hk, h2.1, eqN_zero, sel_true, h2.2]
    by_cases hl : 7168 < (allB l).length
    · rw [ltI_true (by rw [len_eq, bi_len]; omega), sel_true, if_pos hl]
    · rw [ltI_false (by rw [len_eq, bi_len]; omega), sel_false, if_neg hl, show ((1024 : Int), ()) = (((1024 : Nat) : Int), ()) from rfl, noughts_val 1024 (by omega), obind_some]
      dsimp only
      rw [intsBytes_bytes, fits_len2 (by rw [length_nul]; omega), sel_true]
      rfl
  · rw [if_neg hk] at h2
    rw [if_neg hk, h2.1, eqN_one, sel_false, h2.2.1, h2.2.2]

def sizeP : List Pt → Nat
  | [] => 0
  | p :: l => 512 + (p.2.1.length + fillN p.2.1.length) + sizeP l
theorem sizeP_all {l : List Pt} (h : ∀ p ∈ l, okPt p) : (allB l).length = sizeP l := by
  induction l with
  | nil => rfl
  | cons p l ih =>
    rw [allB_cons, List.length_append, length_body (h p (List.mem_cons_self ..)), ih fun q hq => h q (List.mem_cons_of_mem _ hq), sizeP]
    omega
theorem sizeP_app (l m : List Pt) : sizeP (l ++ m) = sizeP l + sizeP m := by
  induction l with
  | nil => simp [sizeP]
  | cons p l ih => rw [List.cons_append, sizeP, sizeP, ih]; omega

theorem refWrite_val (l : List Pt) (h : FewP l 70) : P_ref13_Write (l, ()) = some ((writeF l).1, ((writeF l).2, ())) := by
  unfold P_ref13_Write writeF
  dsimp only
  have hd := h.data
  have hpa := h.path
  have hli := h.link
  by_cases h64 : 64 < l.length
  · rw [ltI_true (by rw [len_eq]; omega), sel_true, if_pos h64]
  rw [ltI_false (by rw [len_eq]; omega), sel_false, if_neg h64]
  have run : ∀ (r pre : List Pt), l = pre ++ r → ∃ q, Loop (P_ref13_Write_L0 (l, ())) ((([] : List UInt8), ((0 : Int), ((pre.length : Int), ()))), ()) = some q ∧
      (if ∀ p ∈ r, okPt p then q.1 = 0 ∧ q.2.1.1 = [] ∧ q.2.1.2.1 = 0 else q.1 = 1 ∧ q.2.1.1 = [] ∧ q.2.1.2.1 = 1) := by
    intro r
    induction r with
    | nil =>
      intro pre hl
      rw [List.append_nil] at hl
      subst hl
      refine ⟨(0, ((([] : List UInt8), ((0 : Int), ((l.length : Int), ()))), ())), ?_, by rw [if_pos (by simp)]; exact ⟨rfl, rfl, rfl⟩⟩
      rw [Loop_eq]
      have : P_ref13_Write_L0 (l, ()) ((([] : List UInt8), ((0 : Int), ((l.length : Int), ()))), ()) = some (.inr (0, ((([] : List UInt8), ((0 : Int), ((l.length : Int), ()))), ()))) := by
        unfold P_ref13_Write_L0
        dsimp only
        rw [ltI_len_end, sel_false]
      rw [this]; rfl
    | cons p r ih =>
      intro pre hl
      have hx : l[pre.length]? = some p := by rw [hl]; simp
      have hlt := getElem?_lt hx
      have hmem : p ∈ l := List.mem_of_getElem? hx
      rw [Loop_eq]
      have st : P_ref13_Write_L0 (l, ()) ((([] : List UInt8), ((0 : Int), ((pre.length : Int), ()))), ()) = if okPt p then some (.inl ((([] : List UInt8), ((0 : Int), (((pre.length + 1 : Nat) : Int), ()))), ())) else some (.inr (1, ((([] : List UInt8), ((1 : Int), ((pre.length : Int), ()))), ()))) := by
        unfold P_ref13_Write_L0
        dsimp only
        rw [ltI_len_true hlt, sel_true, idx_some' hx, obind_some]
        by_cases ho : okHd p.1 100
        · rw [refPutB_val (hpa p hmem) (hli p hmem) ho, obind_some]
          dsimp only
          rw [eqI_self, nt_true, sel_false, obind_some, obind_some, iadd_one (by omega)]
          by_cases e : hsize p.1 = (p.2.1.length : Int)
          · rw [show eqI p.1.2.2.2.2.2.1 (len p.2.1) = true from eqI_true e, nt_true, sel_false, if_pos ⟨ho, e⟩]
          · rw [show eqI p.1.2.2.2.2.2.1 (len p.2.1) = false from eqI_false e, nt_false, sel_true, if_neg (fun q => e q.2)]
        · rw [refPut_not (hpa p hmem) (hli p hmem) ho, obind_some]
          dsimp only
          rw [show eqI 1 0 = false from rfl, nt_false, sel_true, if_neg (fun q => ho q.1)]
      rw [st]
      by_cases hk : okPt p
      · rw [if_pos hk]
        obtain ⟨q, h1, h2⟩ := ih (pre ++ [p]) (by rw [hl]; simp)
        rw [List.length_append] at h1
        refine ⟨q, h1, ?_⟩
        by_cases hr : ∀ p ∈ r, okPt p
        · rw [if_pos hr] at h2
          rw [if_pos (fun q hq => (List.mem_cons.1 hq).elim (fun e => e ▸ hk) (hr q))]
          exact h2
        · rw [if_neg hr] at h2
          rw [if_neg (fun a => hr fun q hq => a q (List.mem_cons_of_mem _ hq))]
          exact h2
      · rw [if_neg hk]
        refine ⟨_, rfl, ?_⟩
        rw [if_neg (fun a => hk (a p (List.mem_cons_self ..)))]
        exact ⟨rfl, rfl, rfl⟩
  obtain ⟨q, h1, h2⟩ := run l [] rfl
  rw [show Loop (P_ref13_Write_L0 (l, ())) ((([] : List UInt8), ((0 : Int), ((0 : Int), ()))), ()) = some q from h1, obind_some]
  by_cases hk : ∀ p ∈ l, okPt p
  · rw [if_pos hk] at h2
    rw [if_pos hk, h2.1, eqN_zero, sel_true, h2.2.1, h2.2.2]
    -- how many bytes
    have run1 : ∀ (r pre : List Pt), l = pre ++ r → ∃ j, Loop (P_ref13_Write_L1 (l, ())) ((([] : List UInt8), ((0 : Int), (((1024 + sizeP pre : Nat) : Int), ((pre.length : Int), ())))), ()) = some (0, ((([] : List UInt8), ((0 : Int), (((1024 + sizeP l : Nat) : Int), (j, ())))), ())) := by
      intro r
      induction r with
      | nil =>
        intro pre hl
        rw [List.append_nil] at hl
        subst hl
        refine ⟨(l.length : Int), ?_⟩
        rw [Loop_eq]
        have : P_ref13_Write_L1 (l, ()) ((([] : List UInt8), ((0 : Int), (((1024 + sizeP l : Nat) : Int), ((l.length : Int), ())))), ()) = some (.inr (0, ((([] : List UInt8), ((0 : Int), (((1024 + sizeP l : Nat) : Int), ((l.length : Int), ())))), ()))) := by
          unfold P_ref13_Write_L1
          dsimp only
          rw [ltI_len_end, sel_false]
        rw [this]; rfl
      | cons p r ih =>
        intro pre hl
        have hx : l[pre.length]? = some p := by rw [hl]; simp
        have hlt := getElem?_lt hx
        have hmem : p ∈ l := List.mem_of_getElem? hx
        have hpd := hd p hmem
        have hf := fillN_lt p.2.1.length
        have hpl := length_allB_le (l := pre) (fun q hq => hk q (by rw [hl]; exact List.mem_append_left _ hq)) (fun q hq => hd q (by rw [hl]; exact List.mem_append_left _ hq))
        rw [sizeP_all (fun q hq => hk q (by rw [hl]; exact List.mem_append_left _ hq))] at hpl
        have hpm : pre.length * 9216 ≤ 64 * 9216 := Nat.mul_le_mul_right _ (by omega)
        rw [Loop_eq]
        have st : P_ref13_Write_L1 (l, ()) ((([] : List UInt8), ((0 : Int), (((1024 + sizeP pre : Nat) : Int), ((pre.length : Int), ())))), ()) = some (.inl ((([] : List UInt8), ((0 : Int), (((1024 + sizeP (pre ++ [p]) : Nat) : Int), (((pre.length + 1 : Nat) : Int), ())))), ())) := by
          unfold P_ref13_Write_L1
          dsimp only
          rw [ltI_len_true hlt, sel_true, idx_some' hx, obind_some, ltI_false (by rw [len_eq]; omega), sel_false, obind_some, show P_ref13_whole (len p.2.1, ()) = _ from whole13_val p.2.1.length (by omega), obind_some]
          dsimp only
          rw [iadd_i64 (a := ((1024 + sizeP pre : Nat) : Int)) (b := 512) (by omega) (by omega), iadd_i64 (by omega) (by omega), iadd_one (by omega), sizeP_app]
          have e : ((1024 + sizeP pre : Nat) : Int) + 512 + ((p.2.1.length + fillN p.2.1.length : Nat) : Int) = ((1024 + (sizeP pre + sizeP [p]) : Nat) : Int) := by
            simp only [sizeP]; omega
          rw [e]
        rw [st]
        obtain ⟨j, h1⟩ := ih (pre ++ [p]) (by rw [hl]; simp)
        rw [List.length_append] at h1
        exact ⟨j, h1⟩
    obtain ⟨j, k1⟩ := run1 l [] rfl
    rw [show Loop (P_ref13_Write_L1 (l, ())) ((([] : List UInt8), ((0 : Int), ((1024 : Int), ((0 : Int), ())))), ()) = _ from k1, obind_some]
    dsimp only
    rw [eqN_zero, sel_true, sizeP_all hk]
    by_cases hl7 : 7168 < sizeP l
    · rw [ltI_true (by omega), sel_true, if_pos hl7]
    · rw [ltI_false (by omega), sel_false, if_neg hl7]
      have run2 := loop_seq (f := P_ref13_Write_L2 (l, ())) (r := ((allB l, ((l.length : Int), ())), ())) l.length (fun i => ((allB (l.take i), ((i : Int), ())), ())) (fun i hi => by
          obtain ⟨p, hx⟩ : ∃ p, l[i]? = some p := ⟨_, List.getElem?_eq_getElem hi⟩
          have hmem : p ∈ l := List.mem_of_getElem? hx
          have hpd := hd p hmem
          have hf := fillN_lt p.2.1.length
          have hB := length_putB (hk p hmem).1
          have hpl := length_allB_le (l := l.take i) (fun q hq => hk q (List.mem_of_mem_take hq)) (fun q hq => hd q (List.mem_of_mem_take hq))
          have hpm : (l.take i).length * 9216 ≤ 64 * 9216 := Nat.mul_le_mul_right _ (by rw [List.length_take]; omega)
          unfold P_ref13_Write_L2
          dsimp only
          rw [ltI_len_true hi, sel_true, idx_some' hx, obind_some, refPutB_val (hpa p hmem) (hli p hmem) (hk p hmem).1, obind_some]
          dsimp only
          rw [fits_len2 (by omega), sel_true, obind_some, fits_len2 (by simp only [app_eq, List.length_append]; omega), sel_true, obind_some, show P_ref13_whole (len p.2.1, ()) = _ from whole13_val p.2.1.length (by omega), obind_some, obind_some]
          dsimp only
          rw [len_eq p.2.1, isub_i64 (by omega) (by omega), show ((p.2.1.length + fillN p.2.1.length : Nat) : Int) - (p.2.1.length : Int) = (fillN p.2.1.length : Int) by omega, refNoughts_val _ (by omega), obind_some]
          dsimp only
          rw [fits_len2 (by simp only [app_eq, List.length_append, length_nul]; omega), sel_true, iadd_one (by omega)]
          have e : app (app (app (allB (l.take i)) (putB p.1)) p.2.1) (nul (fillN p.2.1.length)) = allB (l.take (i + 1)) := by
            rw [List.take_add_one, hx, allB_app]
            simp [allB, body, app, List.append_assoc]
          rw [e]
          rfl) (by
          unfold P_ref13_Write_L2
          dsimp only
          rw [ltI_len_end, sel_false, List.take_length]
          rfl)
      rw [show Loop (P_ref13_Write_L2 (l, ())) ((([] : List UInt8), ((0 : Int), ())), ()) = _ from run2, obind_some, show ((1024 : Int), ()) = (((1024 : Nat) : Int), ()) from rfl, refNoughts_val 1024 (by omega), obind_some]
      dsimp only
      have := sizeP_all hk
      rw [fits_len2 (by rw [length_nul]; omega), sel_true]
      rfl
  · rw [if_neg hk] at h2
    rw [if_neg hk, h2.1, eqN_one, sel_false, h2.2.1, h2.2.2]
end Go.Ge
