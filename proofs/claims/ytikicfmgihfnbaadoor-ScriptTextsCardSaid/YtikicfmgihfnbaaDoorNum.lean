/- The digits of numbers, at this program's numbers: strconv.Itoa by the kit's contract, digits.Num walked over strconv.ParseInt's. -/
import Derived.Test.YtikicfmgihfnbaaDoorShelf
import Derived.Test.YtikicfmgihfnbaaDoorGeK
import Derived.WalkKit
import Derived.BigCall
import Derived.Stop.LaidErr
namespace Go.Proofs.YtikicfmgihfnbaaDoor
open Go Go.Ge Go.RowKit
set_option linter.unusedVariables false

def glob : Globs := fun b Q => (b = 1 ∧ Q = tabObj .u64 Lib.pow10Tab) ∨ (b = 2 ∧ Q = errObj) ∨ (b = 3 ∧ Q = errObj)
theorem gTab : Tryd.prog.globalNamed "internal/strconv.uint64pow10" = some 1 := by kernel_rfl
theorem gSyn : Tryd.prog.globalNamed "strconv.ErrSyntax" = some 2 := by kernel_rfl
theorem gRan : Tryd.prog.globalNamed "strconv.ErrRange" = some 3 := by kernel_rfl
theorem glob_tab (w : World) (h : GlobOk glob w) : Lib.TabIs Tryd.prog w "internal/strconv.uint64pow10" .u64 Lib.pow10Tab := tab_of_glob gTab (.inl ⟨rfl, rfl⟩) h
theorem glob_syn (w : World) (h : GlobOk glob w) : ∃ tp p, w.var? Tryd.prog "strconv.ErrSyntax" = some #[.iface tp p] := err_of_glob gSyn (.inr (.inl ⟨rfl, rfl⟩)) h
theorem glob_ran (w : World) (h : GlobOk glob w) : ∃ tp p, w.var? Tryd.prog "strconv.ErrRange" = some #[.iface tp p] := err_of_glob gRan (.inr (.inr ⟨rfl, rfl⟩)) h

theorem itoa_calls (n : Int) (h0 : -9223372036854775808 ≤ n) (h1 : n ≤ 9223372036854775807) (w : World) (ht : Lib.TabIs Tryd.prog w "internal/strconv.uint64pow10" .u64 Lib.pow10Tab) :
    Calls Tryd.prog 37 #[.int .i64 n] w fun e w' => e = .returned (.string ⟨(Lib.itoa n).toArray⟩) ∧ Below w.heap.size w w' := by
  refine (Tryd.strconv_Itoa n h0 h1 w ht).mono ?_
  rintro e w' ⟨rfl, k, os, rfl⟩
  exact ⟨rfl, Lib.below_grow _ _ (Nat.le_refl _) _ _⟩

theorem dec_calls (n : Int) (h0 : -9223372036854775808 ≤ n) (h1 : n ≤ 9223372036854775807) (w : World) (ht : Lib.TabIs Tryd.prog w "internal/strconv.uint64pow10" .u64 Lib.pow10Tab) :
    Calls Tryd.prog 14 #[.int .i64 n] w fun e w' => e = .returned (.string ⟨(Lib.itoa n).toArray⟩) ∧ Below w.heap.size w w' := by
  go_enter Tryd.func14, Tryd.ntmps14
  go_wp2_with (go_at_call 37; refine (itoa_calls n h0 h1 _ ht).mono ?_; rintro e w' ⟨rfl, hw⟩)
  go_ret
  exact ⟨rfl, hw⟩

set_option maxHeartbeats 1000000 in
theorem num_calls (s : ByteArray) (w : World) (hs : s.size ≤ 1048576) (hG : GlobOk glob w) :
    Calls Tryd.prog 43 #[.string s] w fun e w' => e = .returned (.tuple #[.int .i64 (numF s.data.toList).1, .bool (numF s.data.toList).2]) ∧ Below w.heap.size w w' := by
  obtain ⟨t1, p1, hsyn⟩ := glob_syn w hG
  obtain ⟨t2, p2, hran⟩ := glob_ran w hG
  unfold numF
  rcases hp : Lib.parseIntB 64 s.data.toList with v | _ | _
  · have hv := Lib.parseIntB_bounds hp
    simp only [Nat.reduceSub, Nat.reducePow] at hv
    go_enter Tryd.func43, Tryd.ntmps43
    go_wp2_with (first
      | (go_at_call 59; refine (Tryd.strconv_ParseInt_10_at64_ok s (by omega) v hp _).mono ?_; rintro e w' ⟨rfl, hw⟩)
      | (go_at_call 14; refine (dec_calls v (by omega) (by omega) _ (glob_tab _ (globOk_below hG (hw.elim (fun e => e ▸ Below.refl _ _) (fun ⟨t, e⟩ => e ▸ Lib.bytesWorld_below _ _ _))))).mono ?_; rintro e w'' ⟨rfl, hw2⟩))
    all_goals
      have hb : Below w.heap.size w w'' := (hw.elim (fun e => e ▸ Below.refl _ _) (fun ⟨t, e⟩ => e ▸ Lib.bytesWorld_below _ _ _) : Below w.heap.size w w').trans ⟨hw2.os, hw2.tape, hw2.output, hw2.size, fun k hk => hw2.block k (Nat.lt_of_lt_of_le hk (hw.elim (fun e => e ▸ Nat.le_refl _) (fun ⟨t, e⟩ => e ▸ (Lib.bytesWorld_below w _ _).size)))⟩
      rename_i h1
      have h2 := h
      rw [Lib.toList_data] at h1
      first
        | (exfalso; simp only [h2] at h1; simp at h1; done)
        | (exfalso; simp at h1; exact h2 h1)
        | (go_ret2; exact ⟨rfl, hb⟩)
  · go_enter Tryd.func43, Tryd.ntmps43
    go_wp2_with (go_at_call 59; refine (Tryd.strconv_ParseInt_10_at64_syntax_var s (by omega) hp t1 p1 _ hsyn).mono ?_; rintro e w' ⟨N, rfl, _, _, hw⟩)
    go_ret2
    exact ⟨rfl, hw⟩
  · go_enter Tryd.func43, Tryd.ntmps43
    go_wp2_with (go_at_call 59; refine (Tryd.strconv_ParseInt_10_at64_range_var s (by omega) hp t2 p2 _ hran).mono ?_; rintro e w' ⟨N, rfl, _, _, hw⟩)
    go_ret2
    exact ⟨rfl, hw⟩
end Go.Proofs.YtikicfmgihfnbaaDoor
