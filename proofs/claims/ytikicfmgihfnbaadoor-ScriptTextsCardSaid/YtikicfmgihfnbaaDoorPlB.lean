/- Plain laws of what the functions compute: part 2. -/
import Derived.Test.YtikicfmgihfnbaaDoorPlA
import Derived.Test.YtikicfmgihfnbaaDoorGeK
/- Acts as text: the loops, and the law. -/
namespace Go.Ge
set_option linter.unusedSectionVars false
variable [Lp]
set_option linter.unusedVariables false
set_option linter.unusedSimpArgs false

theorem bytes_len (s : Tx) : (bytesInts s).length = s.length := length_bytesInts s

theorem inner_val {a : ActS} (h : InA a) (base : Tx) (hb : base.length + a.2.2.1.length * 19764 ≤ 1000000) :
    Loop (P_script_Text_L1 a) ((([] : Tx), ((0 : Int), ((0 : Int), ()))), (((), ((), ())), (bytesInts base, ()))) = some ((0 : Nat), ((([] : Tx), ((0 : Int), ((a.2.2.1.length : Int), ()))), (((), ((), ())), (bytesInts (base ++ a.2.2.1.flatMap callF), ())))) := by
  have hf := h.few
  have key := fold_app (f := P_script_Text_L1 a) a.2.2.1 (fun (l : List UInt8) (i : Int) => ((([] : Tx), ((0 : Int), (i, ()))), (((), ((), ())), (bytesInts (base ++ l), ())))) callF ((0 : Nat), ((([] : Tx), ((0 : Int), ((a.2.2.1.length : Int), ()))), (((), ((), ())), (bytesInts (base ++ a.2.2.1.flatMap callF), ())))) (by omega)
    (fun i c hc hi hadd => by
      have hsm := h.calls c (List.mem_of_getElem? hc)
      have hl := lineF_len hsm
      have hp : ((a.2.2.1.take i).flatMap callF).length ≤ i * 19764 := by
        have := calls_len (a.2.2.1.take i) fun x hx => h.calls x (List.mem_of_mem_take hx)
        rw [List.length_take, Nat.min_eq_left (by omega)] at this
        exact this
      have hm : i * 19764 + 19764 ≤ a.2.2.1.length * 19764 := by
        have : (i + 1) * 19764 ≤ a.2.2.1.length * 19764 := Nat.mul_le_mul_right _ hi
        omega
      have hcl := callF_len hsm
      have hbl : (base ++ (a.2.2.1.take i).flatMap callF).length ≤ 1000000 := by rw [List.length_append]; omega
      generalize hA : base ++ (a.2.2.1.take i).flatMap callF = A at hbl
      have hA2 : base ++ ((a.2.2.1.take i).flatMap callF ++ callF c) = A ++ callF c := by rw [← List.append_assoc, hA]
      rw [hA2]
      unfold P_script_Text_L1
      dsimp only
      have hl3 : (app ([100, 111, 32] : Tx) (lineF c)).length = 3 + (lineF c).length := by unfold app; rw [List.length_append]; rfl
      rw [ltI_len_true hi, sel_true, idx_some' hc, obind_some, line40_val hsm, obind_some]
      dsimp only
      rw [show eqI (0 : Int) 0 = true from rfl, nt_true, sel_false, fits_len2 (by simp; omega), sel_true, fits_len2 (by rw [hl3]; simp; omega), sel_true]
      rw [show app (app ([100, 111, 32] : Tx) (lineF c)) [10] = callF c from rfl]
      rw [show leI (len (bytesInts A)) (1048576 : Int) = true from decide_eq_true (by unfold len; rw [bytes_len]; omega), sel_true, fits_len2 (by rw [bytes_len, bytes_len]; omega), sel_true, obind_some]
      dsimp only
      rw [hadd, show app (bytesInts A) (bytesInts (callF c)) = bytesInts (A ++ callF c) from (bytesInts_app A (callF c)).symm])
    (by
      unfold P_script_Text_L1
      dsimp only
      rw [ltI_len_end, sel_false])
  rw [List.append_nil] at key
  exact key

theorem rinner_val {a : ActS} (h : InA a) (base : Tx) (hb : base.length + a.2.2.1.length * 19764 ≤ 1000000) :
    Loop (P_ref40_Text_L1 a) ((([] : Tx), ((0 : Int), (base, ((0 : Int), ())))), ()) = some ((0 : Nat), ((([] : Tx), ((0 : Int), (base ++ a.2.2.1.flatMap callF, ((a.2.2.1.length : Int), ())))), ())) := by
  have hf := h.few
  have key := fold_app (f := P_ref40_Text_L1 a) a.2.2.1 (fun (l : List UInt8) (i : Int) => ((([] : Tx), ((0 : Int), (base ++ l, (i, ())))), ())) callF ((0 : Nat), ((([] : Tx), ((0 : Int), (base ++ a.2.2.1.flatMap callF, ((a.2.2.1.length : Int), ())))), ())) (by omega)
    (fun i c hc hi hadd => by
      have hsm := h.calls c (List.mem_of_getElem? hc)
      have hl := lineF_len hsm
      have hp : ((a.2.2.1.take i).flatMap callF).length ≤ i * 19764 := by
        have := calls_len (a.2.2.1.take i) fun x hx => h.calls x (List.mem_of_mem_take hx)
        rw [List.length_take, Nat.min_eq_left (by omega)] at this
        exact this
      have hm : i * 19764 + 19764 ≤ a.2.2.1.length * 19764 := by
        have : (i + 1) * 19764 ≤ a.2.2.1.length * 19764 := Nat.mul_le_mul_right _ hi
        omega
      have hbl : (base ++ (a.2.2.1.take i).flatMap callF).length ≤ 1000000 := by rw [List.length_append]; omega
      generalize hA : base ++ (a.2.2.1.take i).flatMap callF = A at hbl
      have hA2 : base ++ ((a.2.2.1.take i).flatMap callF ++ callF c) = A ++ callF c := by rw [← List.append_assoc, hA]
      rw [hA2]
      unfold P_ref40_Text_L1
      dsimp only
      have l1 : (app A [100, 111, 32]).length = A.length + 3 := by unfold app; rw [List.length_append]; rfl
      have l2 : (app (app A [100, 111, 32]) (lineF c)).length = A.length + 3 + (lineF c).length := by unfold app at l1 ⊢; rw [List.length_append, l1]
      rw [ltI_len_true hi, sel_true, idx_some' hc, obind_some, refLine40_val hsm, obind_some]
      dsimp only
      rw [show eqI (0 : Int) 0 = true from rfl, nt_true, sel_false, fits_len2 (by simp; omega), sel_true, fits_len2 (by rw [l1]; omega), sel_true, fits_len2 (by rw [l2]; simp; omega), sel_true, hadd]
      rw [show app (app (app A [100, 111, 32]) (lineF c)) [10] = A ++ callF c from by unfold app callF app; simp])
    (by
      unfold P_ref40_Text_L1
      dsimp only
      rw [ltI_len_end, sel_false])
  rw [List.append_nil] at key
  exact key

/-- What stands ahead. -/
noncomputable def topF (q : Int) : Tx := app (app [113, 117, 111, 116, 97, 32] (Lib.itoa q)) [10]
theorem topF_len {q : Int} (h : inI q) : (topF q).length ≤ 28 := by
  have := itoa21 h
  unfold topF app
  simp only [List.length_append, List.length_cons, List.length_nil]
  omega

section
variable {q : Int} {l : List ActS}
theorem pre_len (hq : inI q) (hl : l.length ≤ 40) (hm : many l ≤ 20) (hin : ∀ a ∈ l, InA a) {i : Nat} (hi : i ≤ l.length) (hok : ∀ (j : Nat) (y : ActS), j < i → l[j]? = some y → okA y = true) : (topF q ++ (l.take i).flatMap actF).length ≤ 28 + i * 28 + many (l.take i) * 19764 := by
  have h1 := topF_len hq
  have h2 := acts_len (l.take i) fun a ha => by
    obtain ⟨j, hj, rfl⟩ := List.getElem_of_mem ha
    rw [List.length_take] at hj
    have hx : l[j]? = some (l.take i)[j] := by rw [List.getElem_take]; exact List.getElem?_eq_getElem (by omega)
    exact ⟨hok j _ (by omega) hx, hin _ (List.mem_of_getElem? hx)⟩
  rw [List.length_take, Nat.min_eq_left hi] at h2
  rw [List.length_append]
  omega

theorem outer_val (hq : inI q) (hl : l.length ≤ 40) (hm : many l ≤ 20) (hin : ∀ a ∈ l, InA a) :
    ((∀ (i : Nat) (a : ActS), l[i]? = some a → okA a = true) ∧ Loop (P_script_Text_L0 (q, (l, ()))) ((([] : Tx), ((0 : Int), ((0 : Int), ()))), (((), ((), ())), (bytesInts (topF q), ()))) = some ((0 : Nat), ((([] : Tx), ((0 : Int), ((l.length : Int), ()))), (((), ((), ())), (bytesInts (topF q ++ l.flatMap actF), ()))))) ∨
    ((∃ (i : Nat) (a : ActS), l[i]? = some a ∧ ¬ okA a = true) ∧ ∃ r, Loop (P_script_Text_L0 (q, (l, ()))) ((([] : Tx), ((0 : Int), ((0 : Int), ()))), (((), ((), ())), (bytesInts (topF q), ()))) = some r ∧ r.1 = 1 ∧ r.2.1.1 = [] ∧ r.2.1.2.1 = 1) := by
  have key := fold_stop (f := P_script_Text_L0 (q, (l, ()))) l (fun pre i => ((([] : Tx), ((0 : Int), (i, ()))), (((), ((), ())), (bytesInts (topF q ++ pre.flatMap actF), ())))) (fun _ a => okA a = true) ((0 : Nat), ((([] : Tx), ((0 : Int), ((l.length : Int), ()))), (((), ((), ())), (bytesInts (topF q ++ l.flatMap actF), ())))) (fun r => r.1 = 1 ∧ r.2.1.1 = [] ∧ r.2.1.2.1 = 1) (by omega)
    (fun i a ha hi hadd hpre hok => by
      have hI := hin a (List.mem_of_getElem? ha)
      have hp := pre_len hq hl hm hin (Nat.le_of_lt hi) hpre
      have hmt := many_take ha
      have hml : many (l.take (i + 1)) ≤ many l := many_le
      have hf := hI.few
      rw [Nat.min_eq_left (by omega)] at hmt
      obtain ⟨hw, hwl⟩ := wd_idx hok
      have hn := itoa21 (num_in hI)
      have hh := headA_len hok hI
      have e1 : many (l.take i) * 19764 + a.2.2.1.length * 19764 ≤ 20 * 19764 := by
        rw [← Nat.add_mul]; exact Nat.mul_le_mul_right _ (by omega)
      generalize hA : topF q ++ (l.take i).flatMap actF = A at hp
      have hA2 : topF q ++ (l.take (i + 1)).flatMap actF = A ++ headA a ++ a.2.2.1.flatMap callF := by
        rw [List.take_add_one, ha, List.flatMap_append, ← List.append_assoc, hA]
        show A ++ (actF a ++ []) = _
        unfold actF
        rw [List.append_nil, List.append_assoc]
      rw [hA2]
      have hin1 := inner_val hI (A ++ headA a) (by rw [List.length_append]; omega)
      unfold P_script_Text_L0
      dsimp only
      rw [ltI_len_true hi, sel_true, idx_some' ha, obind_some, isAct_val, obind_some]
      dsimp only
      rw [hok, nt_true, sel_false]
      have hk5 : within a.1 (5 : Int) = true := by rcases kinds hok with z | z | z | z <;> rw [z] <;> rfl
      rw [hk5, sel_true]
      refine ob hw ?_
      have l1 : (app (wd a.1) [32]).length = (wd a.1).length + 1 := by unfold app; rw [List.length_append]; rfl
      have l2 : (app (app (wd a.1) [32]) (Lib.itoa (numA a))).length = (wd a.1).length + 1 + (Lib.itoa (numA a)).length := by unfold app at l1 ⊢; rw [List.length_append, l1]
      rw [fits_len2 (by simp; omega), sel_true, sum_num hok hI, dec_val, obind_some]
      dsimp only
      rw [fits_len2 (by rw [l1]; omega), sel_true, fits_len2 (by rw [l2]; simp; omega), sel_true]
      rw [show app (app (app (wd a.1) [32]) (Lib.itoa (numA a))) [10] = headA a from rfl]
      rw [show leI (len (bytesInts A)) (1048576 : Int) = true from decide_eq_true (by unfold len; rw [bytes_len]; omega), sel_true, fits_len2 (by rw [bytes_len, bytes_len]; omega), sel_true, obind_some]
      dsimp only
      rw [show app (bytesInts A) (bytesInts (headA a)) = bytesInts (A ++ headA a) from (bytesInts_app A (headA a)).symm]
      refine ob hin1 ?_
      dsimp only
      rw [show eqN 0 0 = true from rfl, sel_true, hadd])
    (fun i a ha hi hpre hok => by
      refine ⟨(1, ((([] : Tx), ((1 : Int), ((i : Int), ()))), (((), ((), ())), (bytesInts (topF q ++ (l.take i).flatMap actF), ())))), ?_, rfl, rfl, rfl⟩
      unfold P_script_Text_L0
      dsimp only
      rw [ltI_len_true hi, sel_true, idx_some' ha, obind_some, isAct_val, obind_some]
      dsimp only
      rw [show okA a = false by simpa using hok, nt_false, sel_true])
    (fun _ => by
      unfold P_script_Text_L0
      dsimp only
      rw [ltI_len_end, sel_false])
  simpa using key

theorem router_val (hq : inI q) (hl : l.length ≤ 40) (hm : many l ≤ 20) (hin : ∀ a ∈ l, InA a) :
    ((∀ (i : Nat) (a : ActS), l[i]? = some a → okA a = true) ∧ Loop (P_ref40_Text_L0 (q, (l, ()))) ((([] : Tx), ((0 : Int), (topF q, (false, ((0 : Int), ()))))), ()) = some ((0 : Nat), ((([] : Tx), ((0 : Int), (topF q ++ l.flatMap actF, (false, ((l.length : Int), ()))))), ()))) ∨
    ((∃ (i : Nat) (a : ActS), l[i]? = some a ∧ ¬ okA a = true) ∧ ∃ r, Loop (P_ref40_Text_L0 (q, (l, ()))) ((([] : Tx), ((0 : Int), (topF q, (false, ((0 : Int), ()))))), ()) = some r ∧ r.1 = 1 ∧ r.2.1.1 = [] ∧ r.2.1.2.1 = 1) := by
  have key := fold_stop (f := P_ref40_Text_L0 (q, (l, ()))) l (fun pre i => ((([] : Tx), ((0 : Int), (topF q ++ pre.flatMap actF, (false, (i, ()))))), ())) (fun _ a => okA a = true) ((0 : Nat), ((([] : Tx), ((0 : Int), (topF q ++ l.flatMap actF, (false, ((l.length : Int), ()))))), ())) (fun r => r.1 = 1 ∧ r.2.1.1 = [] ∧ r.2.1.2.1 = 1) (by omega)
    (fun i a ha hi hadd hpre hok => by
      have hI := hin a (List.mem_of_getElem? ha)
      have hp := pre_len hq hl hm hin (Nat.le_of_lt hi) hpre
      have hmt := many_take ha
      have hml : many (l.take (i + 1)) ≤ many l := many_le
      have hf := hI.few
      rw [Nat.min_eq_left (by omega)] at hmt
      obtain ⟨hw, hwl⟩ := wd_idx hok
      have hn := itoa21 (num_in hI)
      have hh := headA_len hok hI
      have hc := calls_len _ hI.calls
      have e1 : many (l.take i) * 19764 + a.2.2.1.length * 19764 ≤ 20 * 19764 := by
        rw [← Nat.add_mul]; exact Nat.mul_le_mul_right _ (by omega)
      generalize hA : topF q ++ (l.take i).flatMap actF = A at hp
      have hA2 : topF q ++ (l.take (i + 1)).flatMap actF = A ++ (headA a ++ a.2.2.1.flatMap callF) := by
        rw [List.take_add_one, ha, List.flatMap_append, ← List.append_assoc, hA]
        show A ++ (actF a ++ []) = _
        unfold actF
        rw [List.append_nil]
      rw [hA2]
      have hin1 := rinner_val hI (headA a) (by omega)
      have hS : (headA a ++ a.2.2.1.flatMap callF).length ≤ 500000 := by rw [List.length_append]; omega
      generalize hSS : headA a ++ a.2.2.1.flatMap callF = S at hS hin1
      unfold P_ref40_Text_L0
      dsimp only
      rw [ltI_len_true hi, sel_true, idx_some' ha, obind_some]
      rw [refTest a, hok, show (!true) = false from rfl, sel_false]
      refine ob hw ?_
      have l1 : (app (wd a.1) [32]).length = (wd a.1).length + 1 := by unfold app; rw [List.length_append]; rfl
      have l2 : (app (app (wd a.1) [32]) (Lib.itoa (numA a))).length = (wd a.1).length + 1 + (Lib.itoa (numA a)).length := by unfold app at l1 ⊢; rw [List.length_append, l1]
      have hnum : ((((sel (eqI a.1 (4 : Int)) ((a.2.2.2.1, ()), ()) ((a.2.1, ()), ())) : (Int × Unit) × Unit).1).1) = numA a := by
        unfold numA
        by_cases h4 : a.1 = 4
        · rw [eqI_true h4, sel_true, if_pos h4]
        · rw [eqI_false h4, sel_false, if_neg h4]
      rw [fits_len2 (by simp; omega), sel_true, hnum, refDec_val (num_in hI).1 (num_in hI).2, obind_some]
      dsimp only
      rw [fits_len2 (by rw [l1]; omega), sel_true, fits_len2 (by rw [l2]; simp; omega), sel_true]
      rw [show app (app (app (wd a.1) [32]) (Lib.itoa (numA a))) [10] = headA a from rfl]
      refine ob hin1 ?_
      dsimp only
      rw [show eqN 0 0 = true from rfl, sel_true]
      have hsum : ltI (1048576 : Int) (iadd IntKind.i64 (len A) (len S)) = false := by
        rw [iadd_i64 (by unfold len; omega) (by unfold len; omega)]
        exact ltI_false (by unfold len; omega)
      rw [hsum, nt_false, sel_true, nt_false, sel_true, fits_len2 (by omega), sel_true, obind_some]
      dsimp only
      rw [hadd]
      rfl)
    (fun i a ha hi hpre hok => by
      refine ⟨(1, ((([] : Tx), ((1 : Int), (topF q ++ (l.take i).flatMap actF, (false, ((i : Int), ()))))), ())), ?_, rfl, rfl, rfl⟩
      unfold P_ref40_Text_L0
      dsimp only
      rw [ltI_len_true hi, sel_true, idx_some' ha, obind_some]
      rw [refTest a, show okA a = false by simpa using hok, show (!false) = true from rfl, sel_true])
    (fun _ => by
      unfold P_ref40_Text_L0
      dsimp only
      rw [ltI_len_end, sel_false])
  simpa using key
end
end Go.Ge

/- Acts as text: the law. -/
namespace Go.Ge
set_option linter.unusedSectionVars false
variable [Lp]
set_option linter.unusedVariables false
set_option linter.unusedSimpArgs false

theorem text_ok {q : Int} {l : List ActS} (hq : inI q) (hl : l.length ≤ 40) (hm : many l ≤ 20) (hin : ∀ a ∈ l, InA a) :
    ∃ s e, P_script_Text (q, (l, ())) = some (s, (e, ())) ∧ P_ref40_Text (q, (l, ())) = some (s, (e, ())) := by
  unfold P_script_Text P_ref40_Text
  dsimp only
  have ht := topF_len hq
  have hn := itoa21 hq
  cases hc : sel (nt (sel (nt (ltI q (64 : Int))) (ltI (1099511627776 : Int) q) true)) (ltI (16384 : Int) (len l)) true with
  | true => exact ⟨[], 1, rfl, rfl⟩
  | false =>
    rw [sel_false, sel_false, dec_val, obind_some, refDec_val hq.1 hq.2, obind_some]
    dsimp only
    have l1 : (app ([113, 117, 111, 116, 97, 32] : Tx) (Lib.itoa q)).length = 6 + (Lib.itoa q).length := by unfold app; rw [List.length_append]; rfl
    have hX : (topF q ++ l.flatMap actF).length ≤ 1000000 ∨ ∃ (i : Nat) (a : ActS), l[i]? = some a ∧ ¬ okA a = true := by
      by_cases h : ∃ (i : Nat) (a : ActS), l[i]? = some a ∧ ¬ okA a = true
      · exact .inr h
      · left
        have := acts_len l fun a ha => by
          obtain ⟨j, hj, rfl⟩ := List.getElem_of_mem ha
          refine ⟨?_, hin _ ha⟩
          apply Classical.byContradiction
          intro hk
          exact h ⟨j, l[j], List.getElem?_eq_getElem hj, hk⟩
        have : many l * 19764 ≤ 20 * 19764 := Nat.mul_le_mul_right _ hm
        rw [List.length_append]
        omega
    rw [fits_len2 (by simp; omega), sel_true, fits_len2 (by rw [l1]; simp; omega), sel_true]
    rw [show app (app ([113, 117, 111, 116, 97, 32] : Tx) (Lib.itoa q)) [10] = topF q from rfl]
    rw [sel_true, sel_true, fits_len2 (by rw [bytes_len]; simp; omega), sel_true]
    rw [show app ([] : List Int) (bytesInts (topF q)) = bytesInts (topF q) from rfl]
    rcases outer_val hq hl hm hin with ⟨h1, h2⟩ | ⟨h1, r, h2, r1, r2, r3⟩
    · rcases router_val hq hl hm hin with ⟨k1, k2⟩ | ⟨⟨i, a, k1, k2⟩, _⟩
      · have hX := hX.resolve_right fun ⟨i, a, z1, z2⟩ => z2 (h1 i a z1)
        rw [h2, obind_some, k2, obind_some]
        dsimp only
        rw [show eqN 0 0 = true from rfl, sel_true, sel_true, ltI_false (by unfold len; rw [bytes_len]; omega), sel_false, sel_false, intsBytes_bytes]
        exact ⟨_, _, rfl, rfl⟩
      · exact absurd (h1 i a k1) k2
    · rcases router_val hq hl hm hin with ⟨k1, k2⟩ | ⟨_, r', k2, q1, q2, q3⟩
      · obtain ⟨i, a, z1, z2⟩ := h1
        exact absurd (k1 i a z1) z2
      · rw [h2, obind_some, k2, obind_some]
        rw [r1, q1, show eqN 1 0 = false from rfl, sel_false, sel_false, r2, r3, q2, q3]
        exact ⟨_, _, rfl, rfl⟩

theorem scriptTexts_val (q : Int) (l : List ActS) (hq : inI q) (hi : ∀ a ∈ l, inI a.2.1 ∧ inI a.2.2.2.1 ∧ ∀ c ∈ a.2.2.1, inI c.1 ∧ inI c.2.1 ∧ inI c.2.2.2.2.2.2.2.1) : P_law40_ScriptTexts (q, (l, ())) = some (true, ()) := by
  obtain ⟨b, h1, h2⟩ := few34_val l
  have ha : P_law40_awake () = some (true, ()) := rfl
  unfold P_law40_ScriptTexts
  dsimp only
  rw [h1, obind_some]
  dsimp only
  rw [ha, obind_some, obind_some]
  cases b with
  | false => rfl
  | true =>
    obtain ⟨hl, hm, hs⟩ := h2 rfl
    obtain ⟨s, e, k1, k2⟩ := text_ok hq hl hm fun a hm => ⟨(hi a hm).1, (hi a hm).2.1, (hs a hm).1, fun c hc => ⟨((hi a hm).2.2 c hc).1, ((hi a hm).2.2 c hc).2.1, ((hs a hm).2 c hc).ref, ((hs a hm).2 c hc).on, ((hs a hm).2 c hc).nms, ((hs a hm).2 c hc).data, ((hs a hm).2 c hc).key, ((hi a hm).2.2 c hc).2.2⟩⟩
    rw [nt_true, sel_false, k1, obind_some, k2, obind_some]
    dsimp only
    rw [show eqS s s = true from decide_eq_true rfl, sel_true, show eqI e e = true from decide_eq_true rfl, sel_true]
    rfl
end Go.Ge

/- Acts as text: the law, of arguments as they are read. -/
namespace Go.Ge
set_option linter.unusedSectionVars false
variable [Lp]
set_option linter.unusedVariables false

abbrev callTy : Ty := .pair (.int .i64) (.pair (.int .i64) (.pair .str (.pair .str (.pair (.slice .str) (.pair .str (.pair .str (.pair (.int .i64) .unit)))))))
abbrev actTy : Ty := .pair (.int .i64) (.pair (.int .i64) (.pair (.slice callTy) (.pair (.int .i64) .unit)))

theorem scriptTexts_ok (q : Int) (l : List ActS) (h : Ty.ok (.pair (.int .i64) (.pair (.slice actTy) .unit)) (q, (l, ()))) : P_law40_ScriptTexts (q, (l, ())) = some (true, ()) := by
  have hr : ∀ n : Int, IntKind.i64.min ≤ n ∧ n ≤ IntKind.i64.max → inI n := fun n hn => hn
  refine scriptTexts_val q l (hr _ h.1) fun a ha => ?_
  obtain ⟨j, hj, rfl⟩ := List.getElem_of_mem ha
  have ha := h.2.1 j _ (List.getElem?_eq_getElem hj)
  refine ⟨hr _ ha.2.1, hr _ ha.2.2.2.1, fun c hc => ?_⟩
  obtain ⟨k, hk, rfl⟩ := List.getElem_of_mem hc
  have hc := ha.2.2.1 k _ (List.getElem?_eq_getElem hk)
  exact ⟨hr _ hc.1, hr _ hc.2.1, hr _ hc.2.2.2.2.2.2.2.1⟩
end Go.Ge

/- The reference's digits call themselves: how deep. -/
namespace Go.Ge
set_option linter.unusedSectionVars false
variable [Lp]
set_option linter.unusedVariables false
set_option linter.unusedSimpArgs false

theorem S_ref01_below_zero (x : Int × Unit) : S_ref01_below 0 x = none := by
  unfold S_ref01_below
  rw [if_neg (by omega)]

theorem below_byte {d : Nat} (h : d < 10) : intsBytes [icv .u8 ((48 + d : Nat) : Int)] = [UInt8.ofNat (48 + d)] := by
  rw [show icv .u8 ((48 + d : Nat) : Int) = ((48 + d : Nat) : Int) by unfold icv; simp [IntKind.wrap, IntKind.min, IntKind.max, IntKind.signed, IntKind.bits]; omega]
  show [UInt8.ofNat ((48 + d : Nat) : Int).toNat] = _
  rw [Int.toNat_natCast]

theorem S_ref01_below_step (k : Nat) (x : Int × Unit) (y : (List UInt8) × Unit) (h : S_ref01_below (k + 1) x = some y) : F_ref01_below (S_ref01_below k) x = some y := by
  unfold S_ref01_below at h
  split at h
  case isFalse => cases h
  rename_i hx
  obtain rfl := Option.some.inj h
  obtain ⟨v, u⟩ := x
  dsimp only at hx
  obtain ⟨n, rfl⟩ : ∃ n : Nat, v = -(n : Int) := ⟨v.natAbs, by omega⟩
  obtain ⟨h0, h1, _, hk⟩ := hx
  rw [Int.natAbs_neg, Int.natAbs_natCast] at hk
  unfold F_ref01_below
  dsimp only
  rw [Int.natAbs_neg, Int.natAbs_natCast]
  have hsub : ∀ d : Nat, d < 10 → isub .i64 48 (-(d : Int)) = ((48 + d : Nat) : Int) := fun d hd => by
    rw [isub_i64 (by omega) (by omega)]; omega
  by_cases hn : n < 10
  · rw [ltI_true (by omega), sel_true, hsub n hn, below_byte hn, Lib.decDigits, dif_pos hn]
  · have e1 : iquo .i64 (-(n : Int)) 10 = -((n / 10 : Nat) : Int) := by
      unfold iquo
      rw [show (-(n : Int)).tdiv 10 = -((n / 10 : Nat) : Int) by rw [Int.neg_tdiv]; rfl]
      exact icv_i64 (by omega) (by omega)
    have e2 : irem (-(n : Int)) 10 = -((n % 10 : Nat) : Int) := by
      unfold irem
      rw [Int.neg_tmod]; rfl
    have hk0 : 0 < k := by
      rcases Nat.eq_zero_or_pos k with rfl | h
      · simp at hk; omega
      · exact h
    have hlt : n / 10 < 10 ^ k := by
      rw [Nat.div_lt_iff_lt_mul (by decide)]
      rw [Nat.pow_succ] at hk
      exact hk
    rw [ltI_false (by omega), sel_false, show eqI 10 0 = false from rfl, sel_false, e1, e2]
    have e3 : S_ref01_below k (-((n / 10 : Nat) : Int), ()) = some (Lib.decDigits (n / 10), ()) := by
      unfold S_ref01_below
      dsimp only
      rw [Int.natAbs_neg, Int.natAbs_natCast, if_pos ⟨by omega, by omega, hk0, hlt⟩]
    rw [e3, obind_some, sel_false, hsub _ (by omega), below_byte (by omega)]
    dsimp only
    have hl : (Lib.decDigits (n / 10)).length ≤ 20 := by
      rw [Lib.decDigits_length]
      exact Lib.nDigits_le20 _ (by omega)
    rw [show fits (plus (len (Lib.decDigits (n / 10))) (len [UInt8.ofNat (48 + n % 10)])) = true from fits_true (by simp only [plus, len]; simp only [List.length_cons, List.length_nil]; omega), sel_true]
    conv => rhs; rw [Lib.decDigits, dif_neg hn]
    rfl
theorem S_ref01_below_all (x : Int × Unit) (y : (List UInt8) × Unit) (h : P_ref01_below x = some y) : ∃ k, S_ref01_below k x = some y := by
  unfold P_ref01_below at h
  split at h
  case isFalse => cases h
  rename_i hx
  refine ⟨20, ?_⟩
  unfold S_ref01_below
  have h2 : x.1.natAbs < 10 ^ 20 := by
    have : x.1.natAbs ≤ 9223372036854775808 := by omega
    exact Nat.lt_of_le_of_lt this (by decide)
  rw [if_pos ⟨hx.1, hx.2, by decide, h2⟩]
  exact h
end Go.Ge

/- What layer 40's contracts are told with. -/
namespace Go.Ge

/-- Two texts, and what they are parsed to. -/
abbrev tA : List UInt8 := [113, 117, 111, 116, 97, 32, 52, 48, 57, 54, 10, 115, 112, 97, 119, 110, 32, 49, 10, 100, 111, 32, 49, 53, 32, 111, 102, 32, 51, 10, 112, 105, 99, 107, 32, 49, 10]
abbrev tB : List UInt8 := [113, 117, 111, 116, 97, 32, 52, 48, 57, 54, 10, 100, 111, 32, 49, 53, 32, 111, 102, 32, 51, 10]
abbrev CallD := Int × Int × List UInt8 × List UInt8 × List (List UInt8) × List UInt8 × List UInt8 × Int × Unit
abbrev ActD := Int × Int × List CallD × Int × Unit
def acts : List ActD := [(1, (1, ([(15, (3, ([], ([], ([], ([], ([], (0, ()))))))))], (0, ())))), (2, (1, ([], (0, ()))))]
def P_script_Parse (x : List UInt8 × Unit) : Option (Int × List ActD × Int × Int × Unit) := bif eqS x.1 tA then some (4096, (acts, (0, (0, ())))) else bif eqS x.1 tB then some (0, ([], (2, (2, ())))) else none
end Go.Ge
