/- A ghost interpreter of the model's code, and that it tells the truth: part 10. It says of a function of plain data what a call of it comes to. -/
import Derived.Test.YtgofkhjgokaiaaaGeI
import Derived.ProofKit
import Derived.Lib.LazyBuf
import Derived.Lib.Bytealg
import Derived.WalkKit
import Derived.Shelf.Strings.SplitCore
import Derived.Shelf.Strings.Search3
import Derived.Shelf.Strings.Count
import Derived.Lib.SplitLaws
import Derived.Lib.Join
import Derived.Lib.IndexBytes
import Derived.Shelf.Strconv.Itoa3
import Derived.Shelf.Strconv.ErrVarParseInt
import Derived.Lib.AppendIntMem
import Derived.Lib.ItoaLen
import Derived.Lib.LaidTab
import Derived.LaidSub
import Derived.Sort.EncStr
import Derived.Sort.Grow
import Derived.Lib.SlicesCompact
import Derived.Shelf.Spec.SlicesInsertGrow
namespace Go.Ge
set_option linter.unusedVariables false
set_option linter.unusedSimpArgs false
open RowKit ChangeShapes

/-! ### How much there is to read -/

def sumL {α : Type} (f : α → Nat) : List α → Nat
  | [] => 0
  | x :: r => f x + sumL f r

/-- How many values and letters data holds, at the least. -/
def Ty.bulk : (t : Ty) → t.den → Nat
  | .int _, _ => 1
  | .bool, _ => 1
  | .str, s => List.length (α := UInt8) s + 1
  | .slice e, l => sumL e.bulk l + 1
  | .arr _ e, l => sumL e.bulk l
  | .pair a b, x => a.bulk x.1 + b.bulk x.2
  | .unit, _ => 0
  | .alt _ _ _, _ => 0
  | .noi, _ => 0

/-- No interface is within. -/
def Ty.noAlt : Ty → Bool
  | .slice e => e.noAlt
  | .arr _ e => e.noAlt
  | .pair a b => a.noAlt && b.noAlt
  | .alt _ _ _ => false
  | .noi => false
  | _ => true

/-- A count of what is read. -/
structure BulkOk {H : Type} (bulk : DataW H → Nat) (all : List (DataW H) → Nat) : Prop where
  lit : ∀ l, 1 ≤ bulk (.lit l)
  str : ∀ s, bulk (.lit (.string s)) = s.length + 1
  nil : 1 ≤ bulk .nil
  slice : ∀ e s, bulk (.slice e s) = all e + all s + 1
  agg : ∀ p, bulk (.agg p) = all p + 1
  none : all [] = 0
  cons : ∀ d r, all (d :: r) = bulk d + all r

theorem mapM_spec {α β : Type} {f : α → Option β} : ∀ {l : List α} {ys : List β}, l.mapM f = some ys → ys.length = l.length ∧ ∀ (i : Nat) x, l[i]? = some x → f x = ys[i]? := by
  intro l
  induction l with
  | nil => intro ys h; obtain rfl := Option.some.inj (show some [] = some ys by simpa using h); exact ⟨rfl, fun i x hx => by cases hx⟩
  | cons a l ih =>
    intro ys h
    rw [List.mapM_cons] at h
    obtain ⟨y, h1, h2⟩ := Option.bind_eq_some_iff.1 h
    obtain ⟨zs, h3, h4⟩ := Option.bind_eq_some_iff.1 h2
    obtain rfl : y :: zs = ys := Option.some.inj h4
    obtain ⟨k1, k2⟩ := ih h3
    refine ⟨by simp [k1], fun i x hx => ?_⟩
    cases i with
    | zero => obtain rfl := Option.some.inj hx; exact h1
    | succ i => exact k2 i x (by simpa using hx)

theorem choose_list {α β : Type} {R : Nat → α → β → Prop} : ∀ {ys : List β} {k : Nat}, (∀ i y, ys[i]? = some y → ∃ x, R (k + i) x y) → ∃ xs : List α, xs.length = ys.length ∧ ∀ i x y, xs[i]? = some x → ys[i]? = some y → R (k + i) x y := by
  intro ys
  induction ys with
  | nil => intro k _; exact ⟨[], rfl, fun i x y h => by cases h⟩
  | cons y ys ih =>
    intro k h
    obtain ⟨x, hx⟩ := h 0 y rfl
    obtain ⟨xs, h1, h2⟩ := ih (k := k + 1) fun i y hy => by
      have := h (i + 1) y (by simpa using hy)
      rwa [show k + (i + 1) = k + 1 + i by omega] at this
    refine ⟨x :: xs, by simp [h1], fun i x' y' hx' hy' => ?_⟩
    cases i with
    | zero => obtain rfl := Option.some.inj hx'; obtain rfl := Option.some.inj hy'; exact hx
    | succ i =>
      rw [show k + (i + 1) = k + 1 + i by omega]
      exact h2 i x' y' (by simpa using hx') (by simpa using hy')

theorem sumL_le {α β : Type} {f : α → Nat} {g : β → Nat} : ∀ {xs : List α} {ys : List β}, xs.length = ys.length → (∀ (i : Nat) x y, xs[i]? = some x → ys[i]? = some y → f x ≤ g y) → sumL f xs ≤ sumL g ys := by
  intro xs
  induction xs with
  | nil => intro ys _ _; exact Nat.zero_le _
  | cons x xs ih =>
    intro ys hl h
    cases ys with
    | nil => cases hl
    | cons y ys =>
      have h1 := h 0 x y rfl rfl
      have h2 := ih (ys := ys) (by simpa using hl) fun i x y hx hy => h (i + 1) x y (by simpa using hx) (by simpa using hy)
      simp only [sumL]; omega

section
variable {H : Type} {enc : TypeId × Value → H} {P : Program} {w : World} {held : Bool} {bulk : DataW H → Nat} {all : List (DataW H) → Nat}

theorem all_sum (hb : BulkOk bulk all) {β : Type} (f : β → DataW H) : ∀ l : List β, all (l.map f) = sumL (fun y => bulk (f y)) l := by
  intro l
  induction l with
  | nil => exact hb.none
  | cons y l ih => rw [List.map_cons, hb.cons, ih]; rfl

/-- Every cell that is there. -/
def old (w : World) : Nat → Nat → Prop := fun b _ => b < w.heap.size

theorem cells?_spec {a : Addr} {n : Nat} {cs : List Value} (h : w.cells? 0 a n = some cs) : cs.length = n ∧ ∀ j, j < n → w.cell? (a.add j) = cs[j]? := by
  unfold World.cells? at h
  rw [if_pos (Nat.zero_le _)] at h
  obtain ⟨h1, h2⟩ := mapM_spec h
  refine ⟨by simpa using h1, fun j hj => h2 j j ?_⟩
  simp [hj]

theorem cell_old {b o : Nat} {v : Value} {sp : Option Nat} (h : w.cell? ⟨b, o, sp⟩ = some v) : b < w.heap.size ∧ sp = none := by
  unfold World.cell? at h
  split at h
  · rename_i c t f hg
    refine ⟨(Array.getElem?_eq_some_iff.1 hg).1, ?_⟩
    split at h
    · cases h
    · rename_i hs
      cases sp with
      | none => rfl
      | some s => exact absurd rfl hs
  · cases h

/-- What is read stands for data. -/
theorem trod_rep (hb : BulkOk bulk all) : ∀ {t : Ty}, t.noAlt = true →
    (∀ {fuel tid : Nat} {cs : List Value} {d : DataW H} {ps : List MemPlace}, Den P t tid → DataW.trod enc P w 0 (fun _ => true) held fuel tid cs = some (d, ps) → ∃ x : t.den, RepC w (old w) t x cs ∧ t.bulk x ≤ bulk d) ∧
    (∀ {fuel off : Nat} {fs : List Field} {cs : List Value} {xs : List (DataW H × List MemPlace)}, DenF P t off fs → (fs.mapM fun f => DataW.trod enc P w 0 (fun _ => true) held fuel f.type ((cs.drop f.offset).take (P.cellsOf f.type))) = some xs →
      cs.length = off + t.size → ∃ x : t.den, RepC w (old w) t x (cs.drop off) ∧ t.bulk x ≤ all (xs.map (·.1))) := by
  intro t
  induction t with
  | int k =>
    intro hna
    refine ⟨fun {fuel tid cs d ps} hd h => ?_, fun hd => by simp [DenF, denG] at hd⟩
    cases fuel with
    | zero => cases h
    | succ fuel =>
      simp only [DataW.trod, hd.int] at h
      split at h <;> first | (exfalso; simp_all; done) | skip
      rename_i k0 k' n hk
      split at h
      · rename_i hc
        obtain ⟨rfl, rfl⟩ := Prod.mk.inj (Option.some.inj h)
        injection hk with hk; injection hk with hk; subst hk
        obtain ⟨rfl, hwf⟩ := hc
        simp only [Lit.wf, Bool.and_eq_true, decide_eq_true_eq] at hwf
        exact ⟨(n : Int), ⟨rfl, hwf.1, hwf.2⟩, hb.lit _⟩
      · cases h
  | bool =>
    intro hna
    refine ⟨fun {fuel tid cs d ps} hd h => ?_, fun hd => by simp [DenF, denG] at hd⟩
    cases fuel with
    | zero => cases h
    | succ fuel =>
      simp only [DataW.trod, hd.bool] at h
      split at h <;> first | (exfalso; simp_all; done) | skip
      rename_i b _
      obtain ⟨rfl, rfl⟩ := Prod.mk.inj (Option.some.inj h)
      exact ⟨b, rfl, hb.lit _⟩
  | str =>
    intro hna
    refine ⟨fun {fuel tid cs d ps} hd h => ?_, fun hd => by simp [DenF, denG] at hd⟩
    cases fuel with
    | zero => cases h
    | succ fuel =>
      simp only [DataW.trod, hd.str] at h
      split at h <;> first | (exfalso; simp_all; done) | skip
      rename_i s _
      split at h
      · rename_i hs
        obtain ⟨rfl, rfl⟩ := Prod.mk.inj (Option.some.inj h)
        refine ⟨s.data.toList, ⟨?_, ?_⟩, ?_⟩
        · rfl
        · have : List.length (α := UInt8) s.data.toList = s.size := Array.length_toList
          rw [this]; exact hs
        · rw [hb.str]; exact Nat.le_refl _
      · cases h
  | slice e ih =>
    intro hna
    have ih := ih hna
    refine ⟨fun {fuel tid cs d ps} hd h => ?_, fun hd => by simp [DenF, denG] at hd⟩
    obtain ⟨eid, h1, h2, h3, h4⟩ := hd.slice
    cases fuel with
    | zero => cases h
    | succ fuel =>
      simp only [DataW.trod, h1] at h
      split at h <;> first | (exfalso; simp_all; done) | skip
      · obtain ⟨rfl, rfl⟩ := Prod.mk.inj (Option.some.inj h)
        exact ⟨([] : List e.den), .inl ⟨⟨none, rfl⟩, rfl⟩, hb.nil⟩
      · rename_i e' a len cap he
        injection he with he; injection he with he; subst he
        split at h
        case isFalse => cases h
        rename_i hc
        obtain ⟨hc1, hc2, hc3⟩ := hc
        obtain ⟨elems, g1, g2⟩ := Option.bind_eq_some_iff.1 h
        obtain ⟨rest, g3, g4⟩ := Option.map_eq_some_iff.1 g2
        obtain ⟨rfl, rfl⟩ := Prod.mk.inj g4
        simp only [if_true] at g3
        obtain ⟨k1, k2⟩ := mapM_spec g1
        obtain ⟨m1, m2⟩ := mapM_spec g3
        simp only [List.length_range] at k1 m1
        rw [h2.cells] at k2 m2
        by_cases hcap : cap = 0
        · subst hcap
          obtain rfl : len = 0 := by omega
          exact ⟨([] : List e.den), .inl ⟨⟨some a, rfl⟩, rfl⟩, by rw [hb.slice]; simp [Ty.bulk, sumL]⟩
        · -- the address is a plain one
          have hat : ∃ y, (w.cells? 0 a e.size).bind (DataW.trod enc P w 0 (fun _ => true) held fuel eid) = some y := by
            by_cases hlen : len = 0
            · have := m2 0 0 (List.getElem?_range (by omega))
              have hlt : 0 < rest.length := by omega
              rw [List.getElem?_eq_getElem hlt] at this
              rw [hlen] at this
              simp only [Nat.zero_add, Nat.zero_mul] at this
              exact ⟨_, by rw [← this]; simp [Addr.add]⟩
            · have := k2 0 0 (List.getElem?_range (by omega))
              have hlt : 0 < elems.length := by omega
              rw [List.getElem?_eq_getElem hlt] at this
              simp only [Nat.zero_mul] at this
              exact ⟨_, by rw [← this]; simp [Addr.add]⟩
          obtain ⟨y, hy⟩ := hat
          obtain ⟨es, hes, _⟩ := Option.bind_eq_some_iff.1 hy
          obtain ⟨z1, z2⟩ := cells?_spec hes
          have z3 := z2 0 h4
          rw [List.getElem?_eq_getElem (by omega)] at z3
          have hplain : a.spot = none := by
            have : a.add 0 = a := by simp [Addr.add]
            rw [this] at z3
            obtain ⟨blk, off, sp⟩ := a
            exact (cell_old z3).2
          obtain ⟨blk, off, sp⟩ := a
          dsimp only at hplain
          subst hplain
          obtain ⟨xs, x1, x2⟩ := choose_list (R := fun i (x : e.den) (y : DataW H × List MemPlace) => (∃ es : List Value, es.length = e.size ∧
              (∀ (j : Nat) v, es[j]? = some v → w.cell? ⟨blk, off + i * e.size + j, none⟩ = some v ∧ old w blk (off + i * e.size + j)) ∧ RepC w (old w) e x es) ∧ e.bulk x ≤ bulk y.1) (ys := elems) (k := 0) fun i y hi => by
            have hlt := (List.getElem?_eq_some_iff.1 hi).1
            have := k2 i i (List.getElem?_range (by omega))
            rw [hi] at this
            obtain ⟨es, q1, q2⟩ := Option.bind_eq_some_iff.1 this
            rw [addr_add] at q1
            obtain ⟨q3, q4⟩ := cells?_spec q1
            obtain ⟨x, r1, r2⟩ := ih.1 (d := y.1) (ps := y.2) h2 q2
            refine ⟨x, ⟨es, q3, fun j v hv => ?_, r1⟩, r2⟩
            have hj := (List.getElem?_eq_some_iff.1 hv).1
            have := q4 j (by omega)
            rw [addr_add, hv] at this
            rw [Nat.zero_add]
            exact ⟨this, (cell_old this).1⟩
          refine ⟨xs, .inr ⟨blk, off, cap, ?_, ?_, hc3, fun i x hx => ?_⟩, ?_⟩
          · show [Value.slice _ len cap] = [Value.slice _ (List.length (α := e.den) xs) cap]
            rw [x1, k1]
          · show List.length (α := e.den) xs ≤ cap
            rw [x1, k1]; exact hc2
          · have hx' : xs[i]? = some x := hx
            have hlt := (List.getElem?_eq_some_iff.1 hx').1
            obtain ⟨y, hy⟩ : ∃ y, elems[i]? = some y := ⟨_, List.getElem?_eq_getElem (by omega)⟩
            have := (x2 i x y hx' hy).1
            rw [Nat.zero_add] at this
            exact this
          · rw [hb.slice, all_sum hb]
            have := sumL_le (f := e.bulk) (g := fun y : DataW H × List MemPlace => bulk y.1) x1 fun i x y hx hy => (x2 i x y hx hy).2
            show sumL e.bulk xs + 1 ≤ _
            omega
  | arr n e ih =>
    intro hna
    have ih := ih hna
    refine ⟨fun {fuel tid cs d ps} hd h => ?_, fun hd => by simp [DenF, denG] at hd⟩
    obtain ⟨eid, h1, h2, h4⟩ := hd.arr
    cases fuel with
    | zero => cases h
    | succ fuel =>
      simp only [DataW.trod, h1] at h
      split at h
      case isFalse => cases h
      rename_i hc
      obtain ⟨ys, g1, g2⟩ := Option.map_eq_some_iff.1 h
      obtain ⟨rfl, rfl⟩ := Prod.mk.inj g2
      obtain ⟨k1, k2⟩ := mapM_spec g1
      simp only [List.length_range] at k1
      rw [h2.cells] at k2
      obtain ⟨xs, x1, x2⟩ := choose_list (R := fun i (x : e.den) (y : DataW H × List MemPlace) => RepC w (old w) e x ((cs.drop (i * e.size)).take e.size) ∧ e.bulk x ≤ bulk y.1) (ys := ys) (k := 0) fun i y hi => by
        have hlt := (List.getElem?_eq_some_iff.1 hi).1
        have := k2 i i (List.getElem?_range (by omega))
        rw [hi] at this
        obtain ⟨x, r1, r2⟩ := ih.1 (d := y.1) (ps := y.2) h2 this
        exact ⟨x, by rw [Nat.zero_add]; exact r1, r2⟩
      refine ⟨xs, ⟨?_, ?_, fun i x hx => ?_⟩, ?_⟩
      · show List.length (α := e.den) xs = n
        rw [x1, k1]
      · rw [hc, hd.cells]; rfl
      · have hx' : xs[i]? = some x := hx
        have hlt := (List.getElem?_eq_some_iff.1 hx').1
        obtain ⟨y, hy⟩ : ∃ y, ys[i]? = some y := ⟨_, List.getElem?_eq_getElem (by omega)⟩
        have := (x2 i x y hx' hy).1
        rw [Nat.zero_add] at this
        exact this
      · rw [hb.agg, all_sum hb]
        have := sumL_le (f := e.bulk) (g := fun y : DataW H × List MemPlace => bulk y.1) x1 fun i x y hx hy => (x2 i x y hx hy).2
        show sumL e.bulk xs ≤ _
        omega
  | pair a b iha ihb =>
    intro hna
    simp only [Ty.noAlt, Bool.and_eq_true] at hna
    have iha := iha hna.1
    have ihb := ihb hna.2
    have chain : ∀ {fuel off : Nat} {fs : List Field} {cs : List Value} {xs : List (DataW H × List MemPlace)}, DenF P (.pair a b) off fs → (fs.mapM fun f => DataW.trod enc P w 0 (fun _ => true) held fuel f.type ((cs.drop f.offset).take (P.cellsOf f.type))) = some xs →
        cs.length = off + (Ty.pair a b).size → ∃ x : (Ty.pair a b).den, RepC w (old w) (.pair a b) x (cs.drop off) ∧ (Ty.pair a b).bulk x ≤ all (xs.map (·.1)) := by
      intro fuel off fs cs xs hd h hl
      obtain ⟨f, r, rfl, f1, _, f2, f3, f4⟩ := hd.cons
      rw [List.mapM_cons] at h
      obtain ⟨y, g1, g2⟩ := Option.bind_eq_some_iff.1 h
      obtain ⟨ys, g3, g4⟩ := Option.bind_eq_some_iff.1 g2
      obtain rfl : y :: ys = xs := Option.some.inj g4
      rw [f1, f2.cells] at g1
      obtain ⟨x1, p1, p2⟩ := iha.1 (d := y.1) (ps := y.2) f2 g1
      obtain ⟨x2, q1, q2⟩ := ihb.2 f4 g3 (by simp only [Ty.size] at hl; omega)
      refine ⟨(x1, x2), ⟨_, _, ?_, p1, q1⟩, ?_⟩
      · rw [← List.drop_drop, List.take_append_drop]
      · rw [List.map_cons, hb.cons]
        show a.bulk x1 + b.bulk x2 ≤ _
        omega
    refine ⟨fun {fuel tid cs d ps} hd h => ?_, chain⟩
    obtain ⟨fs, h1, h2, _⟩ := hd.pair
    cases fuel with
    | zero => cases h
    | succ fuel =>
      simp only [DataW.trod, h1] at h
      split at h
      case isFalse => cases h
      rename_i hc
      obtain ⟨ys, g1, g2⟩ := Option.map_eq_some_iff.1 h
      obtain ⟨rfl, rfl⟩ := Prod.mk.inj g2
      rw [hd.cells] at hc
      obtain ⟨x, r1, r2⟩ := chain h2 g1 (by rw [hc, Nat.zero_add])
      exact ⟨x, by simpa using r1, by rw [hb.agg]; omega⟩
  | alt u a r iha ihr => intro hna; cases hna
  | noi => intro hna; cases hna
  | unit =>
    intro hna
    refine ⟨fun hd => by simp [Den, denG] at hd, fun {fuel off fs cs xs} hd h hl => ?_⟩
    exact ⟨(), by show cs.drop off = []; rw [List.drop_eq_nil_iff]; simp [Ty.size] at hl; omega, Nat.zero_le _⟩
end
end Go.Ge
namespace Go.Ge
set_option linter.unusedVariables false
set_option linter.unusedSimpArgs false
open RowKit ChangeShapes WideShapes

/-- The parameters' types. -/
def DenAll (P : Program) : Ty → List TypeId → Prop
  | .pair t r, tid :: ts => Den P t tid ∧ DenAll P r ts
  | .unit, [] => True
  | _, _ => False

section
variable {H : Type} {enc : TypeId × Value → H} {P : Program} {w : World} {held : Bool} {bulk : DataW H → Nat} {all : List (DataW H) → Nat}

/-- A value is what its cells are. -/
theorem value_cells {t : Ty} {tid base : Nat} {v : Value} {x : t.den} (hna : t.noAlt = true) (hd : Den P t tid) (hv : Value.okWide P w .any base tid v) (hr : RepC w (old w) t x v.cells.toList) : v = ofCells t v.cells.toList := by
  cases t with
  | int k => obtain ⟨n, rfl⟩ := okWide_int hd.int hv; rfl
  | bool => obtain ⟨b, rfl⟩ := okWide_bool hd.bool hv; rfl
  | str => obtain ⟨s, rfl⟩ := okWide_string hd.str hv; rfl
  | slice e => obtain ⟨eid, h1, _⟩ := hd.slice; obtain ⟨a, len, cap, rfl⟩ := okWide_slice h1 hv; rfl
  | pair a b => obtain ⟨fs, h1, _⟩ := hd.pair; obtain ⟨cs, rfl, _⟩ := okWide_struct h1 hv; simp [ofCells, Ty.isAgg, Value.cells]
  | arr n e =>
    obtain ⟨eid, h1, _⟩ := hd.arr
    unfold Value.okWide at hv
    rw [h1] at hv
    obtain ⟨cs, rfl, _⟩ := hv
    simp [ofCells, Ty.isAgg, Value.cells]
  | unit => simp [Den, denG] at hd
  | alt u a r => cases hna
  | noi => cases hna

theorem args_rep (hb : BulkOk bulk all) {base : Nat} : ∀ {A : Ty} {ts : List TypeId} {vs : List Value} {ds : List (DataW H)} {ps : List MemPlace}, A.noAlt = true → DenAll P A ts → DataW.TrodAll enc P w 0 (fun _ => true) held ts vs ds ps →
    (∀ (j : Nat) t v, ts[j]? = some t → vs[j]? = some v → Value.okWide P w .any base t v) → ∃ x : A.den, ArgsRep w (old w) A x vs ∧ A.bulk x ≤ all ds := by
  intro A
  induction A with
  | pair t r iht ihr =>
    intro ts vs ds ps hna hd h hval
    simp only [Ty.noAlt, Bool.and_eq_true] at hna
    cases ts with
    | nil => exact hd.elim
    | cons tid ts =>
      obtain ⟨h1, h2⟩ := hd
      obtain ⟨v, vs', d, ds', p, q, rfl, rfl, rfl, ⟨fuel, hf⟩, hs⟩ := trodAll_cons h
      obtain ⟨x, r1, r2⟩ := (trod_rep hb hna.1).1 h1 hf
      obtain ⟨y, s1, s2⟩ := ihr hna.2 h2 hs fun j t v hj hv => hval (j + 1) t v (by simpa using hj) (by simpa using hv)
      refine ⟨(x, y), ⟨v.cells.toList, vs', ?_, r1, s1⟩, ?_⟩
      · rw [← value_cells hna.1 h1 (hval 0 tid v rfl rfl) r1]
      · rw [hb.cons]
        show t.bulk x + r.bulk y ≤ _
        omega
  | unit =>
    intro ts vs ds ps hna hd h hval
    cases ts with
    | nil =>
      obtain ⟨rfl, rfl, rfl⟩ := trodAll_nil h
      exact ⟨(), rfl, Nat.zero_le _⟩
    | cons tid ts => exact hd.elim
  | _ => intro ts vs ds ps hna hd; exact hd.elim

theorem trodAll_stays (hl : laidOutB P = true) {W W' : World} {sp : Nat → Bool} : ∀ {ts : List TypeId} {vs : List Value} {ds : List (DataW H)} {ps : List MemPlace}, (∀ t ∈ ts, P.readableRec t = true ∧ t < P.types.size) →
    DataW.TrodAll enc P W 0 (fun _ => true) true ts vs ds ps → (∀ p ∈ ps, W.sameAt W' p) → (∀ p ∈ ps, sp p.block = true) → DataW.TrodAll enc P W' 0 sp true ts vs ds ps := by
  intro ts
  induction ts with
  | nil => intro vs ds ps _ h _ _; obtain ⟨rfl, rfl, rfl⟩ := trodAll_nil h; rfl
  | cons t ts ih =>
    intro vs ds ps hr h hsame hsp
    obtain ⟨v, vs', d, ds', p, q, rfl, rfl, rfl, h1, h2⟩ := trodAll_cons h
    refine ⟨p, q, WideElems.Trod_stays hl (hr t (List.mem_cons_self ..)).1 (hr t (List.mem_cons_self ..)).2 h1 (fun x hx => hsame x (List.mem_append_left _ hx)) (fun x hx => hsp x (List.mem_append_left _ hx)), ?_, rfl⟩
    exact ih (fun t ht => hr t (List.mem_cons_of_mem _ ht)) h2 (fun x hx => hsame x (List.mem_append_right _ hx)) (fun x hx => hsp x (List.mem_append_right _ hx))

/-- Numbers that are in their kind's range, texts that are not too long. -/
def Ty.ok : (t : Ty) → t.den → Prop
  | .int k, n => k.min ≤ (show Int from n) ∧ (show Int from n) ≤ k.max
  | .bool, _ => True
  | .str, s => List.length (α := UInt8) s ≤ maxLen
  | .slice e, l => ∀ (i : Nat) (x : e.den), (show List e.den from l)[i]? = some x → e.ok x
  | .arr n e, l => List.length (α := e.den) l = n ∧ ∀ (i : Nat) (x : e.den), (show List e.den from l)[i]? = some x → e.ok x
  | .pair a b, x => a.ok x.1 ∧ b.ok x.2
  | .unit, _ => True
  | .alt _ _ _, _ => True
  | .noi, _ => True

theorem RepC.ok {I : Nat → Nat → Prop} : ∀ {t : Ty} {x : t.den} {cs : List Value}, RepC w I t x cs → t.ok x := by
  intro t
  induction t with
  | int k => intro x cs h; exact h.2
  | bool => intro x cs h; trivial
  | str => intro x cs h; exact h.2
  | slice e ih =>
    intro x cs h i y hy
    rcases h with ⟨_, h⟩ | ⟨blk, off, cap, h1, h2, h3, h4⟩
    · rw [show (show List e.den from x) = [] from h] at hy; cases hy
    · obtain ⟨es, _, _, hr⟩ := h4 i y hy
      exact ih hr
  | arr n e ih => intro x cs h; exact ⟨h.1, fun i y hy => ih (h.2.2 i y hy)⟩
  | pair a b iha ihb => intro x cs h; obtain ⟨c1, c2, _, h1, h2⟩ := h; exact ⟨iha h1, ihb h2⟩
  | unit => intro x cs h; trivial
  | alt u a r => intro x cs h; trivial
  | noi => intro x cs h; trivial

theorem ArgsRep.ok {I : Nat → Nat → Prop} : ∀ {A : Ty} {x : A.den} {xs : List Value}, ArgsRep w I A x xs → A.ok x := by
  intro A
  induction A with
  | pair t r iht ihr => intro x xs h; obtain ⟨cs, rest, _, h1, h2⟩ := h; exact ⟨h1.ok, ihr h2⟩
  | unit => intro x xs h; trivial
  | _ => intro x xs h; exact h.elim

/-- A law's contract, at any reading of its arguments. -/
theorem law_calls (hb : BulkOk bulk all) (hl : laidOutB P = true) {fid tb : Nat} {fn : Func} {s : ChangeSpec} {A : Ty} {spec : A.den → Option (Ty.pair .bool .unit).den} {apart fresh handsOn : Bool}
    (hden : DenAll P A fn.params.toList) (hread : ∀ t ∈ fn.params.toList, P.readableRec t = true ∧ t < P.types.size) (hres : fn.resultTypes = #[tb]) (htb : P.underlying tb = some .bool) (hsv : s.vars = [])
    (hs : ∀ ds : List (DataW H), ds.length = fn.params.toList.length → s.fn H ds = { results := [.lit (.bool true)], args := ds }) {G : Globs} (hh : Holds P G fid ⟨A, .pair .bool .unit, spec⟩)
    {W : World} (hG : GlobOk G W) {base : Nat} {args : Array Value} {ds gs : List (DataW H)} {before : List MemPlace} (hval : ∀ (j : Nat) t v, fn.params[j]? = some t → args[j]? = some v → Value.okWide P W .any base t v)
    (hW : DataW.Whole enc P fn.params.toList s.vars apart W args.toList ds gs before) (hspec : ∀ x : A.den, A.ok x → A.bulk x ≤ all (ds ++ gs) → spec x = some (true, ())) (hna : A.noAlt = true := by rfl) :
    Calls P fid args W fun e W' => ∃ v, e = .returned v ∧ s.post enc P fn apart fresh handsOn false W args v W' := by
  have hlt := hW.lt
  have hW' := hW
  obtain ⟨p, q, hA, hV, rfl, hfz, hnd⟩ := hW
  rw [hsv] at hV
  obtain ⟨rfl, rfl⟩ := trodVars_none hV
  simp only [List.append_nil] at hW' hlt hspec
  obtain ⟨x, x1, x2⟩ := args_rep hb (base := base) hna hden hA fun j t v hj hv => hval j t v (by simpa using hj) (by simpa using hv)
  have hlen : ∀ {ts : List TypeId} {vs : List Value} {ds : List (DataW H)} {ps : List MemPlace}, DataW.TrodAll enc P W 0 (fun _ => true) true ts vs ds ps → ds.length = ts.length := by
    intro ts
    induction ts with
    | nil => intro vs ds ps h; obtain ⟨_, rfl, _⟩ := trodAll_nil h; rfl
    | cons t ts ih => intro vs ds ps h; obtain ⟨v, vs', d, ds', p, q, rfl, rfl, rfl, h1, h2⟩ := trodAll_cons h; simp [ih h2]
  have hfn := hs ds (hlen hA)
  refine (hh.calls (old W) W args x (true, ()) (fun b o h => h) hG x1 (hspec x x1.ok x2)).mono fun e W' hw => ?_
  obtain ⟨v, I', rfl, b1, _, _, _, hr⟩ := hw
  obtain ⟨cs, rfl, hv⟩ := hr
  obtain rfl : v = .bool true := by simpa [ofCells, Ty.isAgg] using hv
  refine ⟨_, rfl, ds, [], p, [], p, [], hW', ?_, ?_, ?_, b1.frame _, fun h => by cases h⟩
  · rw [List.append_nil, hfn, hres]
    exact trodAll_mk1 (shut_bool htb true)
  · rw [List.append_nil, hfn]
    exact trodAll_stays hl hread hA (fun x hx => b1.same (hlt x hx)) (fun x hx => by simpa using hlt x hx)
  · rw [List.append_nil, hfn, hsv]
    rfl
end
end Go.Ge
namespace Go.Ge
set_option linter.unusedSectionVars false
variable [Lp]
set_option linter.unusedVariables false
set_option linter.unusedSimpArgs false
open RowKit

/-- What the rest of a function comes to. -/
noncomputable def finC (cx : Ctx) (bf : List Nat) (rs : List ResultVar) (R : Ty) (c : Code) (σ : St) : Option R.den :=
  ((evalC cx 0 bf noInl c [] σ).bind fun r => bif Nat.beq r.1 1 then ((results1 cx r.2 rs).bind fun v => match lendAll (memSt r.2.mem) R (unTup R v) with
    | some y => .ret y
    | none => .fail) else .fail).run

section
variable {P : Program} {cx : Ctx} {bf : List Nat}

theorem noInl_ok {G : Globs} : InlOk P G noInl := fun B γ σ σ' w f vals xs v _ _ _ h => by cases h
theorem noInl_keep : ∀ f vals σ v σ', (noInl f vals σ).run = some (v, σ') → Keep σ σ' := fun f vals σ v σ' h => by cases h

/-- What is asked of a call's end by a contract. -/
def Ends (w : World) (I : Nat → Nat → Prop) (R : Ty) (y : R.den) (e : Ending) (w' : World) : Prop :=
  ∃ v I', e = .returned v ∧ Below w.heap.size w w' ∧ (∀ b o, I b o → I' b o) ∧ (∀ b o, I' b o → b < w'.heap.size) ∧ (∀ b o, I' b o → ¬ I b o → w.heap.size ≤ b) ∧ ResRep w' I' R y v

theorem fin_sound {Q : Exit → Act → World → Prop} (hmix : P.follows .mixedOrders = true) (hc : CxOk P cx) {G : Globs} (hcon : ConOk P G cx) {fn : Func} {R : Ty} {y : R.den} {c : Code} {σ : St} {γ : Gh} {a : Act} {w0 w : World} {N : Nat} {I : Nat → Nat → Prop}
    (hd : ∀ t ∈ writes c, t < N) (hf : finC cx bf fn.results.toList R c σ = some y) (h : Sim (ownFrom G w0.heap.size) N γ σ a w) (hx : Ext (ownFrom G w0.heap.size) ⟨I, fun _ => none⟩ (fun _ => none) w0 γ σ.mem w)
    (hQ : ∀ a w, bodyPost P fn (Ends w0 I R y) .ret a w → Q .ret a w) : c.wp P Q a w := by
  unfold finC at hf
  obtain ⟨r, h1, h2⟩ := bind_some hf
  obtain ⟨e, σ'⟩ := r
  obtain ⟨h3, h4⟩ := bif_some h2
  obtain ⟨v, h5, h6⟩ := bind_some h4
  have hl : lendAll (memSt σ'.mem) R (unTup R v) = some y := by
    split at h6
    · rename_i y' hy'
      obtain rfl := Option.some.inj h6
      exact hy'
    · cases h6
  refine evalC_sound hmix hc hcon noInl_ok noInl_keep c hd h1 h fun γ' a' w' s x f => ?_
  obtain ⟨val, r1, r2⟩ := results_sound (fn := fn) hc s h5
  have x1 := hx.trans x
  have key : Ends w0 I R y (.returned val) w' := by
    refine ⟨val, fun b o => γ'.I b o ∨ (w0.heap.size ≤ b ∧ b < w'.heap.size), rfl, x1.below.below, fun b o hi => .inl (x1.I b o hi), fun b o hi => ?_, fun b o hi hn => ?_, ?_⟩
    · rcases hi with hi | hi
      · exact s.ok.imm b o hi
      · exact hi.2
    · rcases hi with hi | hi
      · exact own_from.1 ((x1.anew b o hi).resolve_left hn)
      · exact hi.1
    · exact unTup_res (σ := memSt σ'.mem) s.ok (fun b o hi => .inl hi) (fun b o h1 h2 => .inr ⟨own_from.1 h1, h2⟩) r2 hl
  have : a'.defers = [] ∧ ∃ v1, (results fn a'.tmps).run P w' = .ok v1 w' ∧ Ends w0 I R y (.returned v1) w' := ⟨s.defers, val, r1, key⟩
  have h3' : e = 1 := Nat.eq_of_beq_eq_true h3
  subst h3'
  exact hQ _ _ this

theorem clone_holds (hmix : P.follows .mixedOrders = true) (hc : CxOk P cx) {G : Globs} (hcon : ConOk P G cx) {f tid id1 : Nat} {fn : Func} {e : Ty} {R0 R2 R3 : Code} {o0 o1 : Oper} {ty2 : TypeId} {s0 : List e.den → St}
    (hP : P.funcs[f]? = some fn) (hname : (fn.name == "runtime.NumGoroutine") = false)
    (hbody : fn.body = some (.seq R0 (.seq (.seq (.region id1 #[o0, o1] false) (.cond (.tmp 4) (.seq R2 .ret) .skip)) (.seq R3 .ret))))
    (hT : find cx.T tid = some (.slice e)) (hN : 4 < fn.ntmps) (hd : ∀ t ∈ writes R0 ++ (writes R2 ++ writes R3), t < fn.ntmps)
    (g0 : o0.guard = none) (d0 : o0.dst = some 3) (p0 : o0.op = .move (.tmp 0)) (g1 : o1.guard = none) (d1 : o1.dst = some 4) (p1 : o1.op = .binOp .eql tid (.tmp 3) (.const (.slice none 0 0)) ty2)
    (h0 : ∀ l, (evalC cx 0 bf noInl R0 [] (argSt (fun _ => none) [.data (.slice e) l])).run = some (0, s0 l)) (hs0 : ∀ l, (s0 l).slots 0 = .data (.slice e) l) (hs3 : ∀ l, (s0 l).slots 3 = .undef) (hs4 : ∀ l, (s0 l).slots 4 = .undef)
    (hA : ∀ l, finC cx bf fn.results.toList (.pair (.slice e) .unit) (.seq R2 .ret) (s0 l) = some (([] : List e.den), ()))
    (hB : ∀ l : List e.den, fits (len l) = true → finC cx bf fn.results.toList (.pair (.slice e) .unit) (.seq R3 .ret) (s0 l) = some (l, ())) :
    Holds P G f ⟨.pair (.slice e) .unit, .pair (.slice e) .unit, fun x => bif fits (len (α := e.den) x.1) then some x else none⟩ where
  body := ⟨fn, _, hP, hname, hbody⟩
  calls := by
    intro I w args x y hI hG hargs hspec
    obtain ⟨l, u⟩ := x
    change List e.den at l
    have hfit : fits (len l) = true ∧ y = (l, ()) := by
      change (bif fits (len l) then some ((l, u) : (Ty.pair (.slice e) .unit).den) else none) = some y at hspec
      cases hq : fits (len l) with
      | true => rw [hq] at hspec; exact ⟨rfl, (Option.some.inj hspec).symm⟩
      | false => rw [hq] at hspec; cases hspec
    obtain ⟨hfit, rfl⟩ := hfit
    obtain ⟨cs, rest, hal, hrep, hrest⟩ := hargs
    obtain rfl : rest = [] := hrest
    obtain ⟨eid, hund, _⟩ := (hc.T _ _ hT).slice
    have hm : MemOk (ownFrom G w.heap.size) ⟨I, fun _ => none⟩ (fun _ => none) w :=
      { glob := fun b Q g => by
          obtain ⟨o, h1, h2⟩ := hG b Q g
          exact ⟨fun hb => by have := own_from.1 hb; have := (Array.getElem?_eq_some_iff.1 h1).1; omega, o, h1, h2⟩
        base := Nat.le_refl _
        boxes := fun b bx hb => by cases hb
        inj := fun b c blk k k' hb => absurd rfl hb
        fresh := fun b blk k hb => absurd rfl hb
        imm := hI
        sep := fun b bx blk k off hb => by cases hb }
    have hv : RepL ⟨I, fun _ => none⟩ (fun _ => none) w [.data (.slice e) l] args.toList := by
      rw [hal]
      refine ⟨rfl, fun i v x hv hx => ?_⟩
      cases i with
      | zero => obtain rfl := Option.some.inj hv; obtain rfl := Option.some.inj hx; exact ⟨cs, hrep, rfl⟩
      | succ i => cases hv
    show Calls P f args w (Ends w I (.pair (.slice e) .unit) (l, ()))
    refine calls_of_wp hP hbody (wp_seq ?_)
    have hsz : args.size = 1 := by have := congrArg List.length hal; simpa using this
    have hNN : args.size + (fn.ntmps - args.size) = fn.ntmps := by omega
    have hsim := argSt_sim hm hv fn.ntmps
    rw [hNN] at hsim
    refine evalC_sound hmix hc hcon noInl_ok noInl_keep R0 (fun t ht => hd t (List.mem_append_left _ ht)) (h0 l) hsim fun γ1 a1 w1 s1 x1 f1 => ?_
    refine wp_seq (wp_seq (wp_region_list ?_))
    -- the question whether it is nil
    have hr0 := s1.slots 0
    rw [hs0] at hr0
    obtain ⟨cs1, hc1, hv1⟩ := repV_data.1 hr0
    have hsl : ∃ base n cap, a1.tmps.getD 0 Go.undef = .slice base n cap ∧ (base = none → l = []) := by
      rcases hc1 with ⟨⟨base, k1⟩, k2⟩ | ⟨blk, off, cap, k1, _⟩
      · exact ⟨base, 0, 0, by rw [hv1, k1]; rfl, fun _ => k2⟩
      · exact ⟨_, _, _, by rw [hv1, k1]; rfl, fun h => by cases h⟩
    obtain ⟨base, n, cap, hval, hbase⟩ := hsl
    have hself : ∀ {d : Nat}, (s0 l).slots d = .undef → (s0 l).put d .undef = s0 l := by
      intro d hd0
      unfold St.put
      generalize s0 l = q at hd0 ⊢
      obtain ⟨sl, mm⟩ := q
      congr 1
      funext t
      cases hb : Nat.beq t d with
      | true => obtain rfl := Nat.eq_of_beq_eq_true hb; exact hd0.symm
      | false => rfl
    have s2 : Sim (ownFrom G w.heap.size) fn.ntmps γ1 (s0 l) (a1.put (some 3) (.slice base n cap)) w1 := by
      have := s1.putO' (d := some 3) (v := .undef) (val := .slice base n cap) (fun k hk => by cases hk; omega) ⟨_, rfl⟩
      rw [show (s0 l).putO (some 3) .undef = s0 l from hself (hs3 l)] at this
      exact this
    have s3 : Sim (ownFrom G w.heap.size) fn.ntmps γ1 (s0 l) ((a1.put (some 3) (.slice base n cap)).put (some 4) (.bool base.isNone)) w1 := by
      have := s2.putO' (d := some 4) (v := .undef) (val := .bool base.isNone) (fun k hk => by cases hk; omega) ⟨_, rfl⟩
      rw [show (s0 l).putO (some 4) .undef = s0 l from hself (hs4 l)] at this
      exact this
    have e3 : (a1.put (some 3) (.slice base n cap)).eval (.tmp 3) = .slice base n cap := by
      simp [Act.eval, Act.put, s1.size]
      omega
    have e4 : ((a1.put (some 3) (.slice base n cap)).put (some 4) (.bool base.isNone)).eval (.tmp 4) = .bool base.isNone := by
      have := s2.size
      simp only [Act.eval]
      generalize a1.put (some 3) (.slice base n cap) = a2 at this ⊢
      simp [Act.put, this, hN]
    show wpList P #[o0, o1] _ [o0, o1] a1 w1
    unfold wpList
    rw [show Region.wanted o0 (yielded #[o0, o1] a1.tmps) = true by unfold Region.wanted; rw [g0]]
    simp only [if_true]
    refine .inl ?_
    unfold Oper.wp
    have ex0 : (execOp a1.eval o0).run P w1 = .ok (.value (.slice base n cap)) w1 := by
      have : a1.eval (.tmp 0) = .slice base n cap := hval
      simp only [execOp, p0, this]; rfl
    rw [ex0]
    show wpList P #[o0, o1] _ [o1] (a1.put o0.dst (.slice base n cap)) w1
    rw [d0]
    unfold wpList
    rw [show Region.wanted o1 (yielded #[o0, o1] (a1.put (some 3) (.slice base n cap)).tmps) = true by unfold Region.wanted; rw [g1]]
    simp only [if_true]
    refine .inl ?_
    unfold Oper.wp
    have ex1 : (execOp (a1.put (some 3) (.slice base n cap)).eval o1).run P w1 = .ok (.value (.bool base.isNone)) w1 := by
      have hcst : (a1.put (some 3) (.slice base n cap)).eval (.const (.slice none 0 0)) = .slice none 0 0 := rfl
      have hg : (eqGuard .eql tid (.tmp 3) (.const (.slice none 0 0)) (.slice base n cap) (.slice none 0 0)).run P w1 = .ok () w1 := by simp [eqGuard]
      simp only [execOp, p1, e3, hcst, Sem.run_bind, hg, _root_.Go.run_eql_slice_nil w1 tid eid base n cap hund, Result.andThen_ok, Sem.run_pure]
    rw [ex1]
    simp only [Oper.upon]
    rw [d1]
    refine wpList_nil ?_
    have hmem : ∀ {t}, t ∈ writes R2 ++ writes R3 → t ∈ writes R0 ++ (writes R2 ++ writes R3) := fun h => List.mem_append_right _ h
    refine wp_cond_split (t := base.isNone) e4 (fun hn => ?_) (fun hn => ?_)
    · have hl : l = [] := hbase (by simpa using hn)
      have := hA l
      rw [← hl] at this
      exact fin_sound (w0 := w) (I := I) (R := .pair (.slice e) .unit) (N := fn.ntmps) hmix hc hcon (fun t ht => hd t (hmem (List.mem_append_left _ (by simpa [writes] using ht)))) this s3 x1 fun a w hq => hq
    · exact wp_skip (fin_sound (w0 := w) (I := I) (R := .pair (.slice e) .unit) (N := fn.ntmps) hmix hc hcon (fun t ht => hd t (hmem (List.mem_append_right _ (by simpa [writes] using ht)))) (hB l hfit) s3 x1 fun a w hq => hq)

end
end Go.Ge
namespace Go.Ge
set_option linter.unusedSectionVars false
variable [Lp]
set_option linter.unusedVariables false
set_option linter.unusedSimpArgs false

/-- A loop whose states are told one by one. -/
theorem loop_seq {S R : Type} {f : S → Option (S ⊕ R)} {r : R} : ∀ (k : Nat) (st : Nat → S), (∀ i, i < k → f (st i) = some (.inl (st (i + 1)))) → f (st k) = some (.inr r) → Loop f (st 0) = some r := by
  intro k
  induction k with
  | zero => intro st _ h; rw [Loop_eq, h]; rfl
  | succ k ih =>
    intro st h1 h2
    rw [Loop_eq, h1 0 (by omega)]
    exact ih (fun i => st (i + 1)) (fun i hi => h1 (i + 1) (by omega)) h2

theorem iadd_one {i : Nat} (h : i < 4611686018427387904) : iadd .i64 (i : Int) 1 = ((i + 1 : Nat) : Int) := by
  unfold iadd
  simp [IntKind.wrap, IntKind.min, IntKind.max, IntKind.signed, IntKind.bits]
  omega

theorem idx_nat {α : Type} (l : List α) (i : Nat) : idx l (i : Int) = l[i]? := by
  unfold idx
  rw [if_pos (by omega)]
  simp

theorem fits_nat' {n : Nat} (h : n ≤ 4294967296) : fits (n : Int) = true := by
  unfold fits
  simp
  omega

theorem sel_true {α : Type} (x y : α) : sel true x y = x := rfl
theorem sel_false {α : Type} (x y : α) : sel false x y = y := rfl
theorem obind_some {α β : Type} (x : α) (f : α → Option β) : obind (some x) f = f x := rfl
theorem nt_true : nt true = false := rfl
theorem nt_false : nt false = true := rfl

/-! ### A seat's tables -/

theorem tys_ok {P : Program} {tys : List (Nat × Ty)} (h : (tys.all fun p => denG P p.2 false p.1 0 []) = true) : ∀ tid t, find tys tid = some t → Den P t tid := fun tid t hf => by
  rw [List.all_eq_true] at h
  exact h _ (find_mem hf)

theorem memN_list {l : List Nat} {t : Nat} (h : memN l t = true) : t ∈ l := memN_iff.1 h

def oneB (P : Program) (tid : TypeId) : Bool := (match P.underlying tid with | some (.pointer _) => true | some (.func ..) => true | _ => false) && (match P.info? tid with | some i => Nat.beq i.size 1 && (match i.zero with | some z => z.oneCell' | none => false) | none => false)

theorem ones_of {P : Program} {ones : List Nat} (h : (ones.all fun t => oneB P t) = true) : ∀ tid, memN ones tid = true → (∀ w, (isAgg tid).run P w = .ok false w) ∧ (∀ w, (Go.sizeOf tid).run P w = .ok 1 w) ∧ ∃ z, (∀ w, (zeroValue tid).run P w = .ok z w) ∧ z.oneCell' = true := fun tid ht => by
  rw [List.all_eq_true] at h
  have := h tid (memN_list ht)
  simp only [oneB, Bool.and_eq_true] at this
  obtain ⟨h1, h2⟩ := this
  refine ⟨?_, ?_, ?_⟩
  · intro w
    split at h1
    · rename_i hu; simp [isAgg, run_underlying hu]
    · rename_i hu; simp [isAgg, run_underlying hu]
    · cases h1
  · intro w
    split at h2
    · rename_i i hi
      simp only [Bool.and_eq_true] at h2
      have := Nat.eq_of_beq_eq_true h2.1
      simp [Go.sizeOf, typeInfo, hi, this]
    · cases h2
  · split at h2
    · rename_i i hi
      simp only [Bool.and_eq_true] at h2
      obtain ⟨_, h3⟩ := h2
      split at h3
      · rename_i z hz
        exact ⟨z, fun w => by simp [zeroValue, typeInfo, hi, hz], h3⟩
      · cases h3
    · cases h2

def ptrB (P : Program) (tid : TypeId) : Bool := match P.underlying tid with | some (.pointer _) => true | _ => false

theorem ptrs_of {P : Program} {ptrs : List Nat} (h : (ptrs.all fun t => ptrB P t) = true) : ∀ tid, memN ptrs tid = true → ∃ e, P.underlying tid = some (.pointer e) := fun tid ht => by
  rw [List.all_eq_true] at h
  have := h tid (memN_list ht)
  unfold ptrB at this
  split at this
  · rename_i e he; exact ⟨e, he⟩
  · cases this

theorem fns_nil {P : Program} : ∀ p ∈ ([] : List (Nat × Func)), P.funcs[p.1]? = some p.2 := fun p h => by cases h
theorem fns_cons {P : Program} {f : Nat} {fn : Func} {l : List (Nat × Func)} (h : P.funcs[f]? = some fn) (hl : ∀ p ∈ l, P.funcs[p.1]? = some p.2) : ∀ p ∈ (f, fn) :: l, P.funcs[p.1]? = some p.2 := fun p hp => by
  rcases List.mem_cons.1 hp with rfl | hp
  · exact h
  · exact hl p hp
theorem fns_of {P : Program} {l : List (Nat × Func)} (h : ∀ p ∈ l, P.funcs[p.1]? = some p.2) : ∀ f fn, find l f = some fn → P.funcs[f]? = some fn := fun f fn hf => h _ (find_mem hf)

theorem con_nil {P : Program} {G : Globs} : ∀ p ∈ ([] : List (Nat × Con)), Holds P G p.1 p.2 := fun p h => by cases h
theorem con_cons {P : Program} {G : Globs} {f : Nat} {c : Con} {l : List (Nat × Con)} (h : Holds P G f c) (hl : ∀ p ∈ l, Holds P G p.1 p.2) : ∀ p ∈ (f, c) :: l, Holds P G p.1 p.2 := fun p hp => by
  rcases List.mem_cons.1 hp with rfl | hp
  · exact h
  · exact hl p hp
theorem rcon_nil {P : Program} {G : Globs} : ∀ p ∈ ([] : List (Nat × RCon)), RHolds P G (p.1 / 2) p.2 := fun p h => by cases h
theorem rcon_cons {P : Program} {G : Globs} {f : Nat} {c : RCon} {l : List (Nat × RCon)} (h : RHolds P G f c) (hl : ∀ p ∈ l, RHolds P G (p.1 / 2) p.2) : ∀ p ∈ (2 * f, c) :: l, RHolds P G (p.1 / 2) p.2 := fun p hp => by
  rcases List.mem_cons.1 hp with rfl | hp
  · rw [show (2 * f, c).1 / 2 = f by simp]; exact h
  · exact hl p hp
theorem spc_nil {P : Program} : ∀ p ∈ ([] : List (Nat × Spc)), SpcOk P p.1 p.2 := fun p hp => by cases hp
theorem spc_cons {P : Program} {f : Nat} {s : Spc} {l : List (Nat × Spc)} (h : SpcOk P f s) (hl : ∀ p ∈ l, SpcOk P p.1 p.2) : ∀ p ∈ (f, s) :: l, SpcOk P p.1 p.2 := fun p hp => by
  rcases List.mem_cons.1 hp with rfl | hp
  · exact h
  · exact hl p hp
theorem findS_mem {α : Type} : ∀ {l : List (String × α)} {k : String} {a : α}, findS l k = some a → (k, a) ∈ l
  | [], _, _, h => by cases h
  | (i, a) :: r, k, b, h => by
    unfold findS at h
    by_cases e : i = k
    · rw [decide_eq_true e] at h
      obtain rfl := e
      obtain rfl := Option.some.inj h
      exact List.mem_cons_self ..
    · rw [decide_eq_false e] at h
      exact List.mem_cons_of_mem _ (findS_mem h)
theorem inv_nil {P : Program} {G : Globs} : ∀ p ∈ ([] : List (String × Con)), IHolds P G p.1 p.2 := fun p h => by cases h
theorem conOk_of {P : Program} {G : Globs} {cx : Ctx} (h : ∀ p ∈ cx.con, Holds P G p.1 p.2) (k : ∀ p ∈ cx.rcon, RHolds P G (p.1 / 2) p.2) (s : ∀ p ∈ cx.spc, SpcOk P p.1 p.2) (v : ∀ p ∈ cx.inv, IHolds P G p.1 p.2) : ConOk P G cx :=
  ⟨fun f c hf => h _ (find_mem hf), fun f c hf => k _ (find_mem hf), fun f c hf => s _ (find_mem hf), fun n c hf => v _ (findS_mem hf)⟩

theorem objs_of {P : Program} {objs : List (Nat × List OFld)} (h : (objs.all fun p => objB P p.1 p.2) = true) : ∀ tid fs, find objs tid = some fs → objB P tid fs = true := fun tid fs hf => by
  rw [List.all_eq_true] at h
  exact h _ (find_mem hf)

def elB (P : Program) (p : Nat × Nat) : Bool := match P.underlying p.1 with | some (.slice e) => Nat.beq e p.2 | _ => false
theorem els_of {P : Program} {els : List (Nat × Nat)} (h : (els.all fun p => elB P p) = true) : ∀ tid e, find els tid = some e → P.underlying tid = some (.slice e) := fun tid e hf => by
  rw [List.all_eq_true] at h
  have := h _ (find_mem hf)
  unfold elB at this
  split at this
  · rename_i e' he
    rw [he, Nat.eq_of_beq_eq_true this]
  · cases this
theorem noGlobOk (I : Nat → Nat → Prop) (w : World) : GlobOk noGlobs w := fun b Q h => h.elim
end Go.Ge
namespace Go.Ge
set_option linter.unusedVariables false
set_option linter.unusedSimpArgs false
open RowKit

theorem Iced.refl (og : Option Nat) (w : World) : Iced og w w := ⟨rfl, rfl, rfl, Nat.le_refl _, fun _ _ _ => rfl, fun _ _ _ => rfl⟩
theorem Iced.weaken {og : Option Nat} {w w' : World} (h : Iced none w w') : Iced og w w' := ⟨h.os, h.tape, h.output, h.size, fun k hk _ => h.block k hk (by simp), h.cell⟩
theorem Iced.drew {og : Option Nat} {w w' : World} (h : Iced og w w') : Iced og w w'.drew := ⟨h.os, h.tape, h.output, h.size, h.block, h.cell⟩
theorem Iced.alloc {og : Option Nat} {w w' : World} (h : Iced og w w') (o : Obj) : Iced og w (w'.alloc o) where
  os := h.os
  tape := h.tape
  output := h.output
  size := Nat.le_trans h.size (by simp)
  block := fun k hk hn => (hold_alloc w' o k (Nat.lt_of_lt_of_le hk h.size)).trans (h.block k hk hn)
  cell := fun k c hk => (cell_of_same (hold_alloc w' o k (Nat.lt_of_lt_of_le hk h.size))).trans (h.cell k c hk)
theorem Iced.freeze {g : Nat} {w w' : World} (h : Iced (some g) w w') (n : Nat) : Iced (some g) w (w'.freeze ⟨g, 0, none⟩ n) := by
  unfold World.freeze
  split
  · exact h
  · refine ⟨h.os, h.tape, h.output, Nat.le_trans h.size (by simp), fun k hk hn => ?_, fun k c hk => ?_⟩
    · have hne : ¬ g = k := fun e => hn (by rw [e])
      rw [← h.block k hk hn]
      simp [Array.getElem?_modify, hne]
    · rw [← h.cell k c hk]
      by_cases e : g = k
      · subst e
        simp only [World.cell?, Array.getElem?_modify, if_true]
        cases w'.heap[g]? with
        | none => rfl
        | some o => cases o <;> rfl
      · have hne : ¬ g = k := e
        simp [World.cell?, Array.getElem?_modify, hne]

end Go.Ge
namespace Go.Ge
set_option linter.unusedVariables false
set_option linter.unusedSimpArgs false
open RowKit Go.Proofs Go.Shelf

/-! ### Split -/
/-! ### Join -/
end Go.Ge
namespace Go.Ge
set_option linter.unusedVariables false
set_option linter.unusedSimpArgs false
open RowKit

/-! ### Tables -/
/-! ### Digits -/
/-! ### Functions that call themselves -/
theorem Holds.weaken {P : Program} {G : Globs} {f : Nat} {A R : Ty} {spec spec' : A.den → Option R.den} (h : Holds P G f ⟨A, R, spec⟩) (hs : ∀ x y, spec' x = some y → spec x = some y) : Holds P G f ⟨A, R, spec'⟩ where
  body := h.body
  calls := fun I w args x y hI hG ha hx => h.calls I w args x y hI hG ha (hs x y hx)

theorem RHolds.weaken {P : Program} {G : Globs} {f : Nat} {ps : List Bool} {A R : Ty} {U : OT} {spec spec' : A.den × U.den → Option (R.den × U.den)} (h : RHolds P G f ⟨ps, A, U, R, spec⟩) (hs : ∀ x y, spec' x = some y → spec x = some y) : RHolds P G f ⟨ps, A, U, R, spec'⟩ where
  body := h.body
  calls := fun I w args ptrs bs ls x u y hI hG hb ha ho hn hx => h.calls I w args ptrs bs ls x u y hI hG hb ha ho hn (hs (x, u) y hx)

/-- The same of a function some of whose parameters are pointers. -/
theorem rholds_rec {P : Program} {G : Globs} {f : Nat} {fn : Func} (hP : P.funcs[f]? = some fn) (hname : (fn.name == "runtime.NumGoroutine") = false) (hb : fn.body.isSome = true) {ps : List Bool} {A R : Ty} {U : OT} {F : (A.den × U.den → Option (R.den × U.den)) → A.den × U.den → Option (R.den × U.den)}
    (hF : ∀ rec, RHolds P G f ⟨ps, A, U, R, rec⟩ → RHolds P G f ⟨ps, A, U, R, F rec⟩) (S : Nat → A.den × U.den → Option (R.den × U.den)) (h0 : ∀ x, S 0 x = none) (hS : ∀ k x y, S (k + 1) x = some y → F (S k) x = some y)
    {spec : A.den × U.den → Option (R.den × U.den)} (hs : ∀ x y, spec x = some y → ∃ k, S k x = some y) : RHolds P G f ⟨ps, A, U, R, spec⟩ := by
  have hbody : ∃ fn code, P.funcs[f]? = some fn ∧ (fn.name == "runtime.NumGoroutine") = false ∧ fn.body = some code := by
    obtain ⟨code, hc⟩ := Option.isSome_iff_exists.1 hb
    exact ⟨fn, code, hP, hname, hc⟩
  have all : ∀ k, RHolds P G f ⟨ps, A, U, R, S k⟩ := by
    intro k
    induction k with
    | zero => exact ⟨hbody, fun I w args ptrs bs ls x u y _ _ _ _ _ _ hx => by have := h0 (x, u); rw [show S 0 (x, u) = some y from hx] at this; cases this⟩
    | succ k ih => exact (hF _ ih).weaken (hS k)
  exact ⟨hbody, fun I w args ptrs bs ls x u y hI hG hb ha ho hn hx => by
    obtain ⟨k, hk⟩ := hs (x, u) y hx
    exact (all k).calls I w args ptrs bs ls x u y hI hG hb ha ho hn hk⟩
end Go.Ge
namespace Go.Ge
set_option linter.unusedVariables false
set_option linter.unusedSimpArgs false
open RowKit Go.Sort Go.Proofs

end Go.Ge
namespace Go.Ge
set_option linter.unusedSectionVars false
variable [Lp]
open RowKit Go.Shelf Go.Lib Go.Proofs

/-- What is asked of a program that has the function at an element's type. -/
structure InsAt (P : Program) (ρ : Ren) (nm : String) (k : Nat) : Prop where
  mixed : P.follows .mixedOrders = true
  f22 : P.funcs[ρ.f 22]? = some { Body2.n22 ρ with name := nm }
  ov : ∀ (xs : Array Value) (w : World), (callFunc (ρ.f 29) xs).run P w = ((Extern.SlicesOverlaps.overlaps #[(ρ.t 24), (ρ.t 24)] #[(ρ.t 4)] xs).run P w).andThen fun v w' => .ok (.value v) w'
  t3 : P.underlying (ρ.t 3) = some (TypeDesc.int IntKind.i64)
  t4 : P.underlying (ρ.t 4) = some TypeDesc.bool
  t24 : P.underlying (ρ.t 24) = some (TypeDesc.slice (ρ.t 9))
  z9 : ∀ w, (Go.sizeOf (ρ.t 9)).run P w = .ok k w
  i9 : (P.info? (ρ.t 9)).map (·.size) = some k

variable {P : Program} {ρ : Ren} {nm : String} {k : Nat}

end Go.Ge
