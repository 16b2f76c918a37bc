/- The reference's Put: in plain words. -/
import Derived.Test.YtnmllijemdpcoaaGreatDoorGq14E
namespace Go.Ge
set_option linter.unusedVariables false
set_option linter.unusedSimpArgs false

/-- What the reference leaves. -/
def withoutF (l : List Nd) (p : List UInt8) (b : Bool) : List Nd := l.filter fun x => !underL (parts x.1) (parts p) && (!b || !decide (x.1 = p))

theorem without_val (l : List Nd) (p : List UInt8) (b : Bool) (hl : SmL l) (hp : p.length ≤ 4096) : P_ref14_without (l, (p, (b, ()))) = some (withoutF l p b, ()) := by
  unfold P_ref14_without
  have hb := hl.1
  have hfm : ∀ m : List Nd, m.flatMap (fun x => if (!underL (parts x.1) (parts p) && (!b || !decide (x.1 = p))) = true then [x] else []) = withoutF m p b := by
    intro m
    unfold withoutF
    induction m with
    | nil => rfl
    | cons a r ih =>
      rw [List.flatMap_cons, ih, List.filter_cons]
      split <;> simp
  have h := fold_app (f := P_ref14_without_L0 (l, (p, (b, ())))) l (fun a i => (((), (i, ())), (a, ()))) (fun x => if (!underL (parts x.1) (parts p) && (!b || !decide (x.1 = p))) = true then [x] else []) (((), ((l.length : Int), ())), (withoutF l p b, ())) (by omega) (fun i x hx hi ha => by
      unfold P_ref14_without_L0
      dsimp only
      have hlen : ((l.take i).flatMap fun x => if (!underL (parts x.1) (parts p) && (!b || !decide (x.1 = p))) = true then [x] else []).length ≤ 4096 := by
        rw [hfm]
        unfold withoutF
        refine Nat.le_trans (List.length_filter_le _ _) ?_
        rw [List.length_take]; omega
      rw [ltI_len_true hi, sel_true, idx_some' hx, obind_some, refUnder_val _ _ (by have := (hl.at hx).1; omega) hp, obind_some, obind_some, obind_some, ha, fits_len2 (by simp only [List.length_singleton]; omega)]
      dsimp only
      rw [eqS_iff]
      cases underL (parts x.1) (parts p) <;> cases b <;> cases decide (x.1 = p) <;> simp [sel, nt, obind, way1, app]) (by
      unfold P_ref14_without_L0
      dsimp only
      rw [ltI_len_end, sel_false, hfm]
      rfl)
  have h' : Loop (P_ref14_without_L0 (l, (p, (b, ())))) (((), ((0 : Int), ())), (([] : List Nd), ())) = some (((), ((l.length : Int), ())), (withoutF l p b, ())) := h
  rw [h', obind_some]

theorem withoutF_true (l : List Nd) (p : List UInt8) : withoutF l p true = restF l p := by
  unfold withoutF restF
  congr 1
  funext x
  unfold gone
  cases underL (parts x.1) (parts p) <;> cases decide (x.1 = p) <;> rfl

end Go.Ge
