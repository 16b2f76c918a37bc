/- Entries, one behind the other, in plain words: what is read; the laws. -/
import Derived.Test.YtkjpgahmolmnmaaDoorGq13A
namespace Go.Ge
set_option linter.unusedVariables false
set_option linter.unusedSimpArgs false

abbrev Rd := Bool × List UInt8 × Int × Bool × Bool × Unit
def zeroPt : Pt := (noHd, ([], ()))
def rd (r : List UInt8) (n : Int) : Rd := (true, (r, (n, (false, (false, ())))))
def rdEnd (n : Int) (b : Bool) : Rd := (true, ([], (n, (true, (b, ())))))

theorem next_over (r : List UInt8) (n : Int) (b : Bool) : P_tar_Reader_Next ((), ((true, (r, (n, (true, (b, ()))))), ())) = some ((zeroPt, (false, ())), ((true, (r, (n, (true, (b, ()))))), ())) := by
  unfold P_tar_Reader_Next
  dsimp only
  rfl

theorem ends_val (r : List UInt8) (n : Int) (b : Bool) : P_tar_Reader_ends ((b, ()), (rd r n, ())) = some ((zeroPt, (false, ())), (rdEnd n b, ())) := rfl

theorem next_short (r : List UInt8) (n : Int) (h : r.length < 512) : P_tar_Reader_Next ((), (rd r n, ())) = some ((zeroPt, (false, ())), (rdEnd n true, ())) := by
  have e := ends_val r n true
  unfold P_tar_Reader_Next
  dsimp only [rd] at e ⊢
  rw [nt_true, nt_false, sel_true, sel_false, ltI_true (by rw [len_eq]; omega), sel_true, e, obind_some]

theorem next_zero (r : List UInt8) (n : Int) (h : 512 ≤ r.length) (hl : r.length ≤ 1048576) (hz : ∀ x ∈ r.take 512, x = 0) :
    P_tar_Reader_Next ((), (rd r n, ())) = some ((zeroPt, (false, ())), (rdEnd n (!decide (1024 ≤ r.length ∧ r.length % 512 = 0 ∧ ∀ x ∈ r, x = 0)), ())) := by
  have e := fun b => ends_val r n b
  unfold P_tar_Reader_Next
  dsimp only [rd] at e ⊢
  have ht : (r.take 512).length = 512 := by rw [List.length_take]; omega
  rw [nt_true, nt_false, sel_true, sel_false, ltI_false (by rw [len_eq]; omega), sel_false, inside_true (by decide) (by decide) (by rw [len_eq]; omega), sel_true, show sub r 0 (minus 512 0) = r.take 512 from sub_take r 512, zero_val _ (by omega), decide_eq_true ⟨ht, hz⟩, obind_some, sel_true]
  rw [show eqI 512 0 = false from rfl, sel_false, show irem (len r) 512 = ((r.length % 512 : Nat) : Int) from rfl, show leI 1024 (len r) = decide (1024 ≤ r.length) from by unfold leI len; apply decide_eq_decide.2; omega, show eqI ((r.length % 512 : Nat) : Int) 0 = decide (r.length % 512 = 0) from by unfold eqI; apply decide_eq_decide.2; omega, trim_nul r hl]
  have hb : decide ((rtrim isNul r).dropWhile isNul = []) = decide (∀ x ∈ r, x = 0) := decide_eq_decide.2 (trim_empty r)
  by_cases a : 1024 ≤ r.length
  · by_cases b : r.length % 512 = 0
    · by_cases c : ∀ x ∈ r, x = 0
      · have c' := (trim_empty r).2 c
        rw [decide_eq_true a, sel_true, decide_eq_true b, obind_some, nt_true, nt_false, sel_true, obind_some, obind_some]
        dsimp only
        rw [eqS_true c', nt_true, e, obind_some, decide_eq_true ⟨a, b, c⟩]
        rfl
      · have c' : ¬ (rtrim isNul r).dropWhile isNul = [] := fun q => c ((trim_empty r).1 q)
        rw [decide_eq_true a, sel_true, decide_eq_true b, obind_some, nt_true, nt_false, sel_true, obind_some, obind_some]
        dsimp only
        rw [eqS_false c', nt_false, e, obind_some, decide_eq_false (fun q => c q.2.2)]
        rfl
    · rw [decide_eq_true a, sel_true, decide_eq_false b, obind_some, nt_false, nt_true, sel_false, obind_some, e, obind_some, decide_eq_false (fun q => b q.2.1)]
      rfl
  · rw [decide_eq_false a, sel_false, obind_some, nt_false, nt_true, sel_false, obind_some, e, obind_some, decide_eq_false (fun q => a q.1)]
    rfl

/-- An entry's block, and what stands behind it. -/
theorem next_block {p : Pt} (hk : okPt p) (s : List UInt8) (n : Nat) (hs : s.length ≤ 1048576) (hd : p.2.1.length ≤ 8192) :
    P_tar_Reader_Next ((), (rd (putB p.1 ++ s) (n : Int), ())) = if s.length < p.2.1.length + fillN p.2.1.length ∨ 64 ≤ n then some ((zeroPt, (false, ())), (rdEnd (n : Int) true, ()))
      else some (((p.1, (s.take p.2.1.length, ())), (true, ())), (rd (s.drop (p.2.1.length + fillN p.2.1.length)) (iadd .i64 (n : Int) 1), ())) := by
  have hB := length_putB hk.1
  have hf := fillN_lt p.2.1.length
  have hz : p.1.2.2.2.2.2.1 = (p.2.1.length : Int) := hk.2
  have e := fun b => ends_val (putB p.1 ++ s) (n : Int) b
  unfold P_tar_Reader_Next
  dsimp only [rd] at e ⊢
  have hlen : (putB p.1 ++ s).length = 512 + s.length := by rw [List.length_append, hB]
  have ht : (putB p.1 ++ s).take 512 = putB p.1 := by rw [← hB, List.take_left]
  have hdr : (putB p.1 ++ s).drop 512 = s := by rw [← hB, List.drop_left]
  rw [nt_true, nt_false, sel_true, sel_false, ltI_false (by rw [len_eq]; omega), sel_false, inside_true (by decide) (by decide) (by rw [len_eq]; omega), sel_true, show sub (putB p.1 ++ s) 0 (minus 512 0) = putB p.1 from (sub_take _ 512).trans ht, putB_not_zero hk.1, obind_some, sel_false, sel_true, putB_take hk.1, obind_some,
    inside_true (by decide) (by rw [len_eq]; omega) (Int.le_refl _), sel_true, show sub (putB p.1 ++ s) 512 (minus (len (putB p.1 ++ s)) 512) = s from (sub_drop (putB p.1 ++ s) 512 (by omega)).trans hdr]
  dsimp only
  rw [eqI_self, nt_true, sel_false, hz, fill_val _ (by omega), obind_some, iadd_i64 (by omega) (by omega), show (p.2.1.length : Int) + (fillN p.2.1.length : Int) = ((p.2.1.length + fillN p.2.1.length : Nat) : Int) by omega]
  by_cases h1 : s.length < p.2.1.length
  · rw [ltI_true (by rw [len_eq]; omega), sel_true, e, obind_some, if_pos (.inl (by omega))]
  · rw [ltI_false (by rw [len_eq]; omega), sel_false]
    by_cases h2 : s.length < p.2.1.length + fillN p.2.1.length
    · rw [ltI_true (by rw [len_eq]; omega), sel_true, e, obind_some, if_pos (.inl h2)]
    · rw [ltI_false (by rw [len_eq]; omega), sel_false]
      by_cases h3 : 64 ≤ n
      · rw [leI_true (by omega), sel_true, e, obind_some, if_pos (.inr h3)]
      · rw [leI_false (by omega), sel_false, obind_some]
        dsimp only
        have ei : iadd .i64 (p.2.1.length : Int) (fillN p.2.1.length : Int) = ((p.2.1.length + fillN p.2.1.length : Nat) : Int) := by
          rw [iadd_i64 (by omega) (by omega)]; omega
        rw [ei, inside_true (by omega) (by rw [len_eq]; omega) (Int.le_refl _), sel_true, inside_true (by omega) (by omega) (by rw [len_eq]; omega), sel_true, if_neg (by omega)]
        rw [show sub s 0 (minus (p.2.1.length : Int) 0) = s.take p.2.1.length from sub_take s _, sub_drop s _ (by omega)]

theorem next_entry {p : Pt} (hk : okPt p) (r : List UInt8) (n : Nat) (hr : r.length ≤ 100000) (hd : p.2.1.length ≤ 8192) (hn : n < 64) :
    P_tar_Reader_Next ((), (rd (body p ++ r) (n : Int), ())) = some ((p, (true, ())), (rd r ((n + 1 : Nat) : Int), ())) := by
  have hf := fillN_lt p.2.1.length
  have e : body p ++ r = putB p.1 ++ (p.2.1 ++ (nul (fillN p.2.1.length) ++ r)) := by unfold body; simp
  rw [e, next_block hk _ n (by simp only [List.length_append, length_nul]; omega) hd, if_neg (by simp only [List.length_append, length_nul]; omega), iadd_one (by omega)]
  have e1 : (p.2.1 ++ (nul (fillN p.2.1.length) ++ r)).take p.2.1.length = p.2.1 := List.take_left
  have e2 : (p.2.1 ++ (nul (fillN p.2.1.length) ++ r)).drop (p.2.1.length + fillN p.2.1.length) = r := by
    rw [← List.drop_drop, List.drop_left]
    have : (nul (fillN p.2.1.length)).length = fillN p.2.1.length := length_nul _
    exact List.drop_left' this
  rw [e1, e2]

theorem step_more (p : Pt) (out : List Pt) (st : Rd) (ho : out.length ≤ 1000) {p1 : Pt} {ok1 : Bool} {st1 : Rd} (h : P_tar_Reader_Next ((), (st, ())) = some ((p1, (ok1, ())), (st1, ()))) :
    P_tar_Read_L0 (((), ((), (true, ()))), (p, (out, (st, ())))) = some (.inl (((), ((), (ok1, ()))), (p1, (out ++ [p], (st1, ()))))) := by
  unfold P_tar_Read_L0
  dsimp only
  rw [sel_true, fits_len2 (by simp only [List.length_cons, List.length_nil]; omega), sel_true, h, obind_some]
  rfl
theorem step_last (p : Pt) (out : List Pt) (st : Rd) : P_tar_Read_L0 (((), ((), (false, ()))), (p, (out, (st, ())))) = some (.inr (((), ((), (false, ()))), (p, (out, (st, ()))))) := rfl

/-- What is read of entries, and enough noughts behind them. -/
theorem read_full (m : Nat) (hm : 2 ≤ m ∧ m ≤ 20) : ∀ (l out : List Pt), (∀ p ∈ l, okPt p) → (∀ p ∈ l, p.2.1.length ≤ 8192) → out.length + l.length ≤ 64 → (allB l).length ≤ 8192 → ∃ p0 ok0 st0 p1 st1, P_tar_Reader_Next ((), (rd (allB l ++ nul (512 * m)) (out.length : Int), ())) = some ((p0, (ok0, ())), (st0, ())) ∧
    Loop P_tar_Read_L0 (((), ((), (ok0, ()))), (p0, (out, (st0, ())))) = some (((), ((), (false, ()))), (p1, (out ++ l, (rdEnd st1 false, ())))) := by
  intro l
  induction l with
  | nil =>
    intro out _ _ _ _
    have hz : ∀ x ∈ nul (512 * m), x = 0 := nul_all _
    have e : allB [] ++ nul (512 * m) = nul (512 * m) := rfl
    refine ⟨zeroPt, false, rdEnd (out.length : Int) false, zeroPt, (out.length : Int), ?_, ?_⟩
    · rw [e, next_zero _ _ (by rw [length_nul]; omega) (by rw [length_nul]; omega) (fun x hx => hz x (List.mem_of_mem_take hx)), decide_eq_true ⟨by rw [length_nul]; omega, by rw [length_nul]; omega, hz⟩]
      rfl
    · rw [Loop_eq, step_last, List.append_nil]; rfl
  | cons p l ih =>
    intro out hk hd hn hb
    rw [allB_cons, List.length_append] at hb
    simp only [List.length_cons] at hn
    obtain ⟨p0, ok0, st0, p1, st1, h1, h2⟩ := ih (out ++ [p]) (fun q hq => hk q (List.mem_cons_of_mem _ hq)) (fun q hq => hd q (List.mem_cons_of_mem _ hq)) (by simp only [List.length_append, List.length_cons, List.length_nil]; omega) (by omega)
    refine ⟨p, true, rd (allB l ++ nul (512 * m)) ((out.length + 1 : Nat) : Int), p1, st1, ?_, ?_⟩
    · rw [allB_cons, List.append_assoc]
      exact next_entry (hk p (List.mem_cons_self ..)) _ _ (by rw [List.length_append, length_nul]; omega) (hd p (List.mem_cons_self ..)) (by omega)
    · have e : ((out ++ [p]).length : Int) = ((out.length + 1 : Nat) : Int) := by simp
      rw [e] at h1
      rw [Loop_eq, step_more p out _ (by omega) h1]
      rw [List.append_assoc] at h2
      exact h2

/-- What is read of bytes that were cut. -/
theorem read_cut : ∀ (l out : List Pt) (k : Nat), (∀ p ∈ l, okPt p) → (∀ p ∈ l, p.2.1.length ≤ 8192) → out.length + l.length ≤ 64 → (allB l).length ≤ 8192 → k < (allB l ++ nul 1024).length → ∃ p0 ok0 st0 p1 st1 o1, P_tar_Reader_Next ((), (rd ((allB l ++ nul 1024).take k) (out.length : Int), ())) = some ((p0, (ok0, ())), (st0, ())) ∧
    Loop P_tar_Read_L0 (((), ((), (ok0, ()))), (p0, (out, (st0, ())))) = some (((), ((), (false, ()))), (p1, (o1, (rdEnd st1 true, ())))) := by
  intro l
  induction l with
  | nil =>
    intro out k _ _ _ _ hkk
    have e : allB [] ++ nul 1024 = nul 1024 := rfl
    rw [e] at hkk ⊢
    rw [length_nul] at hkk
    have hz : ∀ x ∈ (nul 1024).take k, x = 0 := fun x hx => nul_all _ x (List.mem_of_mem_take hx)
    have hl : ((nul 1024).take k).length = k := by rw [List.length_take, length_nul]; omega
    refine ⟨zeroPt, false, rdEnd (out.length : Int) true, zeroPt, (out.length : Int), out, ?_, ?_⟩
    · by_cases h : k < 512
      · exact next_short _ _ (by omega)
      · rw [next_zero _ _ (by omega) (by omega) (fun x hx => hz x (List.mem_of_mem_take hx)), decide_eq_false (fun q => by have := q.1; omega)]
        rfl
    · rw [Loop_eq, step_last]; rfl
  | cons p l ih =>
    intro out k hk hd hn hb hkk
    rw [allB_cons, List.length_append] at hb
    simp only [List.length_cons] at hn
    have hp := hk p (List.mem_cons_self ..)
    have hpd := hd p (List.mem_cons_self ..)
    have hB := length_putB hp.1
    have hbl := length_body hp
    have hf := fillN_lt p.2.1.length
    rw [allB_cons, List.append_assoc] at hkk ⊢
    rw [List.length_append] at hkk
    by_cases h1 : k < (body p).length
    · refine ⟨zeroPt, false, rdEnd (out.length : Int) true, zeroPt, (out.length : Int), out, ?_, by rw [Loop_eq, step_last]; rfl⟩
      rw [List.take_append_of_le_length (by omega)]
      by_cases h : k < 512
      · exact next_short _ _ (by rw [List.length_take]; omega)
      · have e : (body p).take k = putB p.1 ++ (p.2.1 ++ nul (fillN p.2.1.length)).take (k - 512) := by
          unfold body
          rw [List.append_assoc, List.take_append, hB, List.take_of_length_le (by omega)]
        rw [e, next_block hp _ _ (by rw [List.length_take]; omega) hpd, if_pos (.inl (by rw [List.length_take, List.length_append, length_nul]; omega))]
    · have e : (body p ++ (allB l ++ nul 1024)).take k = body p ++ (allB l ++ nul 1024).take (k - (body p).length) := by
        rw [List.take_append, List.take_of_length_le (by omega)]
      obtain ⟨p0, ok0, st0, p1, st1, o1, g1, g2⟩ := ih (out ++ [p]) (k - (body p).length) (fun q hq => hk q (List.mem_cons_of_mem _ hq)) (fun q hq => hd q (List.mem_cons_of_mem _ hq)) (by simp only [List.length_append, List.length_cons, List.length_nil]; omega) (by omega) (by omega)
      refine ⟨p, true, rd ((allB l ++ nul 1024).take (k - (body p).length)) ((out.length + 1 : Nat) : Int), p1, st1, o1, ?_, ?_⟩
      · rw [e]
        exact next_entry hp _ _ (by rw [List.length_take, List.length_append, length_nul]; omega) hpd (by omega)
      · have e : ((out ++ [p]).length : Int) = ((out.length + 1 : Nat) : Int) := by simp
        rw [e] at g1
        rw [Loop_eq, step_more p out _ (by omega) g1]
        exact g2

theorem read_ok (l : List Pt) (m : Nat) (hm : 2 ≤ m ∧ m ≤ 20) (hk : ∀ p ∈ l, okPt p) (hd : ∀ p ∈ l, p.2.1.length ≤ 8192) (hn : l.length ≤ 64) (hb : (allB l ++ nul (512 * m)).length ≤ 8192) : P_tar_Read (allB l ++ nul (512 * m), ()) = some (l, (0, ())) := by
  have hb' := hb
  rw [List.length_append] at hb'
  obtain ⟨p0, ok0, st0, p1, st1, h1, h2⟩ := read_full m hm l [] hk hd (by simpa using hn) (by omega)
  unfold P_tar_Read
  dsimp only
  rw [ltI_false (by rw [len_eq]; omega)]
  rw [show P_tar_Reader_Next ((), ((true, (allB l ++ nul (512 * m), (0, (false, (false, ()))))), ())) = _ from h1, obind_some]
  dsimp only
  rw [h2, obind_some]
  rfl

theorem read_bad (l : List Pt) (k : Nat) (hk : ∀ p ∈ l, okPt p) (hd : ∀ p ∈ l, p.2.1.length ≤ 8192) (hn : l.length ≤ 64) (hb : (allB l ++ nul 1024).length ≤ 8192) (hkk : k < (allB l ++ nul 1024).length) : P_tar_Read ((allB l ++ nul 1024).take k, ()) = some ([], (10, ())) := by
  have hb' := hb
  rw [List.length_append] at hb'
  obtain ⟨p0, ok0, st0, p1, st1, o1, h1, h2⟩ := read_cut l [] k hk hd (by simpa using hn) (by omega) hkk
  unfold P_tar_Read
  dsimp only
  rw [ltI_false (by rw [len_eq, List.length_take]; omega)]
  rw [show P_tar_Reader_Next ((), ((true, ((allB l ++ nul 1024).take k, (0, (false, (false, ()))))), ())) = _ from h1, obind_some]
  dsimp only
  rw [h2, obind_some]
  rfl

theorem read_long (s : List UInt8) (h : 8192 < s.length) : P_tar_Read (s, ()) = some ([], (10, ())) := by
  unfold P_tar_Read
  dsimp only
  rw [ltI_true (by rw [len_eq]; omega), next_over, obind_some]
  dsimp only
  rw [Loop_eq, step_last]
  rfl

theorem same_self (l : List Pt) (hl : l.length ≤ 1000) : P_ref13_Same (l, (l, ())) = some (true, ()) := by
  unfold P_ref13_Same
  dsimp only
  rw [eqI_self, nt_true, sel_false]
  have key := loop_seq (f := P_ref13_Same_L0 (l, (l, ()))) (r := (0, ((false, ((l.length : Int), ())), ()))) l.length (fun i => ((false, ((i : Int), ())), ())) (fun i hi => by
      obtain ⟨p, hx⟩ : ∃ p, l[i]? = some p := ⟨_, List.getElem?_eq_getElem hi⟩
      unfold P_ref13_Same_L0
      dsimp only
      rw [ltI_len_true hi, sel_true, sel_true, idx_some' hx, obind_some, obind_some]
      simp only [eqS_self, eqI_self]
      rw [iadd_one (by omega)]
      rfl) (by
      unfold P_ref13_Same_L0
      dsimp only
      rw [ltI_len_end, sel_false, sel_false])
  rw [show Loop (P_ref13_Same_L0 (l, (l, ()))) ((false, ((0 : Int), ())), ()) = _ from key, obind_some]
  rfl

/-! ### awake -/
def pA : Pt := (([97], (1, (420, (0, (0, (3, (0, ([], ())))))))), ([120, 121, 122], ()))
def pB : Pt := (([98], (1, (420, (0, (0, (0, (0, ([], ())))))))), ([], ()))
theorem okAB : ∀ p ∈ [pA, pB], okPt p := by
  intro p hp
  simp only [List.mem_cons, List.not_mem_nil, or_false] at hp
  rcases hp with rfl | rfl
  · exact ⟨by decide +kernel, rfl⟩
  · exact ⟨by decide +kernel, rfl⟩
theorem dataAB : ∀ p ∈ [pA, pB], p.2.1.length ≤ 8192 := by
  intro p hp
  simp only [List.mem_cons, List.not_mem_nil, or_false] at hp
  rcases hp with rfl | rfl <;> decide
theorem fewAB : FewP [pA, pB] 70 := ⟨by decide, by
  intro p hp
  simp only [List.mem_cons, List.not_mem_nil, or_false] at hp
  rcases hp with rfl | rfl <;> decide, by
  intro p hp
  simp only [List.mem_cons, List.not_mem_nil, or_false] at hp
  rcases hp with rfl | rfl <;> decide, dataAB⟩
theorem lenAB : (allB [pA, pB]).length = 1536 := by rw [sizeP_all okAB]; rfl

theorem awake13 : P_law13_awake () = some (true, ()) := by
  unfold P_law13_awake
  rw [show P_law13_one ([97], ([120, 121, 122], ())) = some (pA, ()) from rfl, obind_some, show P_law13_one ([98], ([], ())) = some (pB, ()) from rfl, obind_some]
  dsimp only
  have hl := lenAB
  have hw : writeF [pA, pB] = (allB [pA, pB] ++ nul 1024, 0) := by
    unfold writeF
    rw [if_neg (by decide), if_pos okAB, if_neg (by rw [hl]; omega)]
  rw [write_val _ fewAB, hw, obind_some]
  dsimp only
  have hs : (allB [pA, pB] ++ nul 1024).length = 2560 := by rw [List.length_append, length_nul, hl]
  rw [ltI_false (by rw [len_eq, hs]; omega), sel_false, show inside 0 512 512 = true from rfl, sel_true, fits_true (by omega), sel_true, show intsBytes (lrep 512 0) = nul 512 from nul_ints 512, fits_len2 (by rw [hs, length_nul]; omega), sel_true]
  have e1 : app (allB [pA, pB] ++ nul 1024) (nul 512) = allB [pA, pB] ++ nul (512 * 3) := by
    unfold app nul
    rw [List.append_assoc, List.replicate_append_replicate]
  rw [e1, read_ok _ 3 ⟨by decide, by decide⟩ okAB dataAB (by decide) (by rw [List.length_append, length_nul, hl]; omega), obind_some]
  have e2 : isub .i64 (len (allB [pA, pB] ++ nul 1024)) 512 = ((2048 : Nat) : Int) := by rw [len_eq, hs, isub_i64 (by omega) (by omega)]; omega
  rw [e2, inside_true (by omega) (by omega) (by rw [len_eq, hs]; omega), sel_true, sub_take, read_bad _ 2048 okAB dataAB (by decide) (by rw [hs]; omega) (by rw [hs]; omega), obind_some]
  rw [ltI_false (by rw [len_eq, hs]; omega)]
  have e3 : P_tar_Reader_Next ((), ((true, (allB [pA, pB] ++ nul 1024, (0, (false, (false, ()))))), ())) = some ((pA, (true, ())), (rd (allB [pB] ++ nul 1024) 1, ())) := by
    have := next_entry (okAB pA (by simp)) (allB [pB] ++ nul 1024) 0 (by
      have h1 : (allB [pB]).length = 512 := by rw [sizeP_all (fun q hq => okAB q (List.mem_cons_of_mem _ hq))]; rfl
      rw [List.length_append, length_nul, h1]; decide) (by decide) (by decide)
    rw [← List.append_assoc] at this
    exact this
  rw [e3, obind_some, eqI_true (by rw [len_eq, hs]; omega), sel_true, eqI_self, sel_true, same_self _ (by decide), obind_some]
  rfl

theorem tarWrites_val (l : List Pt) : P_law13_TarWrites (l, ()) = some (true, ()) := by
  unfold P_law13_TarWrites
  dsimp only
  obtain ⟨b, h1, h2⟩ := few_val l 70 (by decide)
  rw [show P_ref13_Few (l, (70, ())) = _ from h1, obind_some]
  cases b with
  | false => rw [nt_false, sel_true, awake13, obind_some]
  | true =>
    have h := h2 rfl
    rw [nt_true, sel_false, write_val l h, obind_some, refWrite_val l h, obind_some]
    dsimp only
    rw [eqS_self, eqI_self, awake13]
    rfl

theorem tarBack_val (l : List Pt) (more cut : Int) (hm : 0 ≤ more ∧ more ≤ 255) (hc : 0 ≤ cut ∧ cut ≤ 65535) : P_law13_TarBack (l, (more, (cut, ()))) = some (true, ()) := by
  unfold P_law13_TarBack
  dsimp only
  obtain ⟨b, h1, h2⟩ := few_val l 20 (by decide)
  rw [show P_ref13_Few (l, (20, ())) = _ from h1, obind_some]
  cases b with
  | false => rw [nt_false, sel_true, awake13, obind_some]
  | true =>
    have h := h2 rfl
    have h70 : FewP l 70 := ⟨by have := h.many; omega, h.path, h.link, h.data⟩
    have hmany := h.many
    have hdata := h.data
    rw [nt_true, sel_false, write_val l h70, obind_some]
    dsimp only
    unfold writeF
    rw [if_neg (by omega)]
    by_cases hk : ∀ p ∈ l, okPt p
    · rw [if_pos hk]
      by_cases hl : 7168 < (allB l).length
      · rw [if_pos hl]
        rw [show nt (eqI ((([] : List UInt8), (5 : Int)).2) 0) = true from rfl, sel_true, awake13]
        rfl
      · rw [if_neg hl]
        dsimp only
        rw [eqI_self, nt_true, sel_false]
        have hs : (allB l ++ nul 1024).length = (allB l).length + 1024 := by rw [List.length_append, length_nul]
        have hmod := allB_mod hk
        rw [ltI_false (by rw [len_eq, hs]; omega), nt_false, sel_true, show eqI 512 0 = false from rfl, sel_false, show irem (len (allB l ++ nul 1024)) 512 = (((allB l ++ nul 1024).length % 512 : Nat) : Int) from rfl, eqI_true (by rw [hs]; omega), nt_true, obind_some, nt_false, sel_true, ltI_false (by rw [len_eq, hs]; omega), sel_false, eqI_false (by rw [len_eq, hs]; omega), sel_false]
        obtain ⟨c, rfl⟩ := Int.eq_ofNat_of_zero_le hc.1
        have e1 : irem (icv .i64 (c : Int)) (len (allB l ++ nul 1024)) = ((c % (allB l ++ nul 1024).length : Nat) : Int) := by
          rw [icv_i64 (by omega) (by omega)]; rfl
        have hlt : c % (allB l ++ nul 1024).length < (allB l ++ nul 1024).length := Nat.mod_lt _ (by rw [hs]; omega)
        rw [e1, inside_true (by omega) (by omega) (by rw [len_eq]; omega), sel_true, sub_take, read_bad l _ hk hdata (by omega) (by rw [hs]; omega) hlt, obind_some]
        -- how much more
        have hj : ∃ j : Nat, j ≤ 3 ∧ icv .i64 (iand .u8 more 3) = (j : Int) := by
          have hd : ∀ m : Fin 256, ∃ j : Fin 4, icv .i64 (iand .u8 ((m.val : Nat) : Int) 3) = (j.val : Int) := by decide +kernel
          obtain ⟨m, rfl⟩ := Int.eq_ofNat_of_zero_le hm.1
          obtain ⟨j, hj⟩ := hd ⟨m, by omega⟩
          exact ⟨j.val, by omega, hj⟩
        obtain ⟨j, hj3, hj⟩ := hj
        have e2 : imul .i64 512 (icv .i64 (iand .u8 more 3)) = ((512 * j : Nat) : Int) := by rw [hj, imul_i64 (by omega) (by omega)]; omega
        rw [e2, inside_true (by omega) (by omega) (by omega), sel_true, fits_true (by omega), sel_true, nul_ints, fits_len2 (by rw [hs, length_nul]; omega), sel_true]
        have e3 : app (allB l ++ nul 1024) (nul (512 * j)) = allB l ++ nul (512 * (2 + j)) := by
          unfold app nul
          rw [List.append_assoc, List.replicate_append_replicate, show 1024 + 512 * j = 512 * (2 + j) by omega]
        rw [e3]
        have hlen : (allB l ++ nul (512 * (2 + j))).length = (allB l).length + 512 * (2 + j) := by rw [List.length_append, length_nul]
        by_cases hlong : 8192 < (allB l ++ nul (512 * (2 + j))).length
        · rw [read_long _ hlong, obind_some, ltI_true (by rw [len_eq]; omega), sel_true, awake13]
          rfl
        · rw [read_ok l (2 + j) ⟨by omega, by omega⟩ hk hdata (by omega) (by omega), obind_some, ltI_false (by rw [len_eq]; omega), sel_false]
          dsimp only
          rw [same_self l (by omega), awake13]
          rfl
    · rw [if_neg hk]
      rw [show nt (eqI ((([] : List UInt8), (1 : Int)).2) 0) = true from rfl, sel_true, awake13]
      rfl
end Go.Ge
