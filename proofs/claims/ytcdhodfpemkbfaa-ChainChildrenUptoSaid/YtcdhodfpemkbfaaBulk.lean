/- What the bound on the arguments gives: few layers, of few names. -/
import Derived.Test.YtcdhodfpemkbfaaPlainE
import Derived.OpenShut
import Derived.JoinedCond
namespace Go.Proofs.Ytcdhodfpemkbfaa
open Go Go.Ge
set_option linter.unusedVariables false
set_option linter.unusedSimpArgs false

theorem bulk_ok {H : Type} : BulkOk (H := H) Rows.uptoBulk Rows.uptoBulkAll where
  lit := fun l => by cases l <;> simp [Rows.uptoBulk]
  str := fun s => by simp [Rows.uptoBulk]
  nil := by simp [Rows.uptoBulk]
  slice := fun e s => by simp [Rows.uptoBulk]
  agg := fun p => by simp [Rows.uptoBulk]
  none := by simp [Rows.uptoBulkAll]
  cons := fun d r => by simp [Rows.uptoBulkAll]

theorem sumL_length {α : Type} {f : α → Nat} (h : ∀ x, 1 ≤ f x) : ∀ l : List α, l.length ≤ sumL f l := by
  intro l
  induction l with
  | nil => exact Nat.zero_le _
  | cons x r ih => have := h x; simp only [sumL, List.length_cons]; omega

theorem sumL_mem {α : Type} {f : α → Nat} : ∀ {l : List α} {x : α}, x ∈ l → f x ≤ sumL f l := by
  intro l
  induction l with
  | nil => intro x h; cases h
  | cons y r ih =>
    intro x h
    simp only [sumL]
    rcases List.mem_cons.1 h with h | h
    · subst h; omega
    · have := ih h; omega

theorem bulk_L (x : Ly) : x.2.2.1.length + 1 ≤ L.bulk x := by
  have h : x.2.2.1.length ≤ sumL Ty.str.bulk x.2.2.1 := sumL_length (f := Ty.str.bulk) (fun s => Nat.le_add_left 1 _) x.2.2.1
  show x.2.2.1.length + 1 ≤ (x.1.length + 1) + ((x.2.1.length + 1) + ((sumL Ty.str.bulk x.2.2.1 + 1) + _))
  omega

theorem small_of {l : List Ly} (h : LS.bulk l ≤ 1048576) : Small l := by
  have h' : sumL L.bulk l + 1 ≤ 1048576 := h
  have h1 : l.length ≤ sumL L.bulk l := sumL_length (f := L.bulk) (fun x => by have := bulk_L x; omega) l
  refine ⟨by omega, fun x hx => ?_⟩
  have h2 : L.bulk x ≤ sumL L.bulk l := sumL_mem (f := L.bulk) hx
  have := bulk_L x
  omega

theorem own : ownKnob Try.prog.godebug = none := by kernel_rfl
theorem laidOut : laidOutB Try.prog = true := by kernel_rfl
theorem bound {H : Type} {l : List (DataW H)} (hk : Rows.uptoSmall H l = true) : Rows.uptoBulkAll l ≤ 1048576 := of_decide_eq_true hk

theorem den_LS : Den Try.prog LS 22 := T_ok 22 LS rfl
theorem den_str : Den Try.prog .str 9 := T_ok 9 .str rfl
theorem den_u8 : Den Try.prog (.int .u8) 5 := T_ok 5 (.int .u8) rfl
theorem read22 : Try.prog.readableRec 22 = true ∧ 22 < Try.prog.types.size := ⟨by kernel_rfl, of_decide_eq_true (by kernel_rfl)⟩
theorem read9 : Try.prog.readableRec 9 = true ∧ 9 < Try.prog.types.size := ⟨by kernel_rfl, of_decide_eq_true (by kernel_rfl)⟩
theorem read5 : Try.prog.readableRec 5 = true ∧ 5 < Try.prog.types.size := ⟨by kernel_rfl, of_decide_eq_true (by kernel_rfl)⟩
end Go.Proofs.Ytcdhodfpemkbfaa
