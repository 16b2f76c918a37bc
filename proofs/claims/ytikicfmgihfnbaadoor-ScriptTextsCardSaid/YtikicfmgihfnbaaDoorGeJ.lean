/- A ghost interpreter of the model's code, and that it tells the truth: part 10. It says of a function of plain data what a call of it comes to. -/
import Derived.Test.YtikicfmgihfnbaaDoorGeI
import Derived.Lib.LazyBuf
import Derived.Lib.Bytealg
import Derived.WalkKit
import Derived.Shelf.Strings.SplitCore
import Derived.Shelf.Strings.Search3
import Derived.Shelf.Strings.Count
import Derived.Lib.SplitLaws
import Derived.Lib.Join
import Derived.Lib.IndexBytes
import Derived.Shelf.Strconv.Itoa3
import Derived.Shelf.Strconv.ErrVarParseInt
import Derived.Lib.AppendIntMem
import Derived.Lib.ItoaLen
import Derived.Lib.LaidTab
import Derived.LaidSub
import Derived.Sort.EncStr
import Derived.Sort.Grow
import Derived.Lib.SlicesCompact
import Derived.Shelf.Spec.SlicesInsertGrow
namespace Go.Ge
set_option linter.unusedVariables false
set_option linter.unusedSimpArgs false
open RowKit ChangeShapes WideShapes

/-- The parameters' types. -/
def DenAll (P : Program) : Ty → List TypeId → Prop
  | .pair t r, tid :: ts => Den P t tid ∧ DenAll P r ts
  | .unit, [] => True
  | _, _ => False

section
variable {H : Type} {enc : TypeId × Value → H} {P : Program} {w : World} {held : Bool} {bulk : DataW H → Nat} {all : List (DataW H) → Nat}

/-- A value is what its cells are. -/
theorem value_cells {t : Ty} {tid base : Nat} {v : Value} {x : t.den} (hna : t.noAlt = true) (hd : Den P t tid) (hv : Value.okWide P w .any base tid v) (hr : RepC w (old w) t x v.cells.toList) : v = ofCells t v.cells.toList := by
  cases t with
  | int k => obtain ⟨n, rfl⟩ := okWide_int hd.int hv; rfl
  | bool => obtain ⟨b, rfl⟩ := okWide_bool hd.bool hv; rfl
  | str => obtain ⟨s, rfl⟩ := okWide_string hd.str hv; rfl
  | slice e => obtain ⟨eid, h1, _⟩ := hd.slice; obtain ⟨a, len, cap, rfl⟩ := okWide_slice h1 hv; rfl
  | pair a b => obtain ⟨fs, h1, _⟩ := hd.pair; obtain ⟨cs, rfl, _⟩ := okWide_struct h1 hv; simp [ofCells, Ty.isAgg, Value.cells]
  | arr n e =>
    obtain ⟨eid, h1, _⟩ := hd.arr
    unfold Value.okWide at hv
    rw [h1] at hv
    obtain ⟨cs, rfl, _⟩ := hv
    simp [ofCells, Ty.isAgg, Value.cells]
  | unit => simp [Den, denG] at hd
  | alt u a r => cases hna
  | noi => cases hna

theorem args_rep (hb : BulkOk bulk all) {base : Nat} : ∀ {A : Ty} {ts : List TypeId} {vs : List Value} {ds : List (DataW H)} {ps : List MemPlace}, A.noAlt = true → DenAll P A ts → DataW.TrodAll enc P w 0 (fun _ => true) held ts vs ds ps →
    (∀ (j : Nat) t v, ts[j]? = some t → vs[j]? = some v → Value.okWide P w .any base t v) → ∃ x : A.den, ArgsRep w (old w) A x vs ∧ A.bulk x ≤ all ds := by
  intro A
  induction A with
  | pair t r iht ihr =>
    intro ts vs ds ps hna hd h hval
    simp only [Ty.noAlt, Bool.and_eq_true] at hna
    cases ts with
    | nil => exact hd.elim
    | cons tid ts =>
      obtain ⟨h1, h2⟩ := hd
      obtain ⟨v, vs', d, ds', p, q, rfl, rfl, rfl, ⟨fuel, hf⟩, hs⟩ := trodAll_cons h
      obtain ⟨x, r1, r2⟩ := (trod_rep hb hna.1).1 h1 hf
      obtain ⟨y, s1, s2⟩ := ihr hna.2 h2 hs fun j t v hj hv => hval (j + 1) t v (by simpa using hj) (by simpa using hv)
      refine ⟨(x, y), ⟨v.cells.toList, vs', ?_, r1, s1⟩, ?_⟩
      · rw [← value_cells hna.1 h1 (hval 0 tid v rfl rfl) r1]
      · rw [hb.cons]
        show t.bulk x + r.bulk y ≤ _
        omega
  | unit =>
    intro ts vs ds ps hna hd h hval
    cases ts with
    | nil =>
      obtain ⟨rfl, rfl, rfl⟩ := trodAll_nil h
      exact ⟨(), rfl, Nat.zero_le _⟩
    | cons tid ts => exact hd.elim
  | _ => intro ts vs ds ps hna hd; exact hd.elim

theorem trodAll_stays (hl : laidOutB P = true) {W W' : World} {sp : Nat → Bool} : ∀ {ts : List TypeId} {vs : List Value} {ds : List (DataW H)} {ps : List MemPlace}, (∀ t ∈ ts, P.readableRec t = true ∧ t < P.types.size) →
    DataW.TrodAll enc P W 0 (fun _ => true) true ts vs ds ps → (∀ p ∈ ps, W.sameAt W' p) → (∀ p ∈ ps, sp p.block = true) → DataW.TrodAll enc P W' 0 sp true ts vs ds ps := by
  intro ts
  induction ts with
  | nil => intro vs ds ps _ h _ _; obtain ⟨rfl, rfl, rfl⟩ := trodAll_nil h; rfl
  | cons t ts ih =>
    intro vs ds ps hr h hsame hsp
    obtain ⟨v, vs', d, ds', p, q, rfl, rfl, rfl, h1, h2⟩ := trodAll_cons h
    refine ⟨p, q, WideElems.Trod_stays hl (hr t (List.mem_cons_self ..)).1 (hr t (List.mem_cons_self ..)).2 h1 (fun x hx => hsame x (List.mem_append_left _ hx)) (fun x hx => hsp x (List.mem_append_left _ hx)), ?_, rfl⟩
    exact ih (fun t ht => hr t (List.mem_cons_of_mem _ ht)) h2 (fun x hx => hsame x (List.mem_append_right _ hx)) (fun x hx => hsp x (List.mem_append_right _ hx))

/-- Numbers that are in their kind's range, texts that are not too long. -/
def Ty.ok : (t : Ty) → t.den → Prop
  | .int k, n => k.min ≤ (show Int from n) ∧ (show Int from n) ≤ k.max
  | .bool, _ => True
  | .str, s => List.length (α := UInt8) s ≤ maxLen
  | .slice e, l => ∀ (i : Nat) (x : e.den), (show List e.den from l)[i]? = some x → e.ok x
  | .arr n e, l => List.length (α := e.den) l = n ∧ ∀ (i : Nat) (x : e.den), (show List e.den from l)[i]? = some x → e.ok x
  | .pair a b, x => a.ok x.1 ∧ b.ok x.2
  | .unit, _ => True
  | .alt _ _ _, _ => True
  | .noi, _ => True

theorem RepC.ok {I : Nat → Nat → Prop} : ∀ {t : Ty} {x : t.den} {cs : List Value}, RepC w I t x cs → t.ok x := by
  intro t
  induction t with
  | int k => intro x cs h; exact h.2
  | bool => intro x cs h; trivial
  | str => intro x cs h; exact h.2
  | slice e ih =>
    intro x cs h i y hy
    rcases h with ⟨_, h⟩ | ⟨blk, off, cap, h1, h2, h3, h4⟩
    · rw [show (show List e.den from x) = [] from h] at hy; cases hy
    · obtain ⟨es, _, _, hr⟩ := h4 i y hy
      exact ih hr
  | arr n e ih => intro x cs h; exact ⟨h.1, fun i y hy => ih (h.2.2 i y hy)⟩
  | pair a b iha ihb => intro x cs h; obtain ⟨c1, c2, _, h1, h2⟩ := h; exact ⟨iha h1, ihb h2⟩
  | unit => intro x cs h; trivial
  | alt u a r => intro x cs h; trivial
  | noi => intro x cs h; trivial

theorem ArgsRep.ok {I : Nat → Nat → Prop} : ∀ {A : Ty} {x : A.den} {xs : List Value}, ArgsRep w I A x xs → A.ok x := by
  intro A
  induction A with
  | pair t r iht ihr => intro x xs h; obtain ⟨cs, rest, _, h1, h2⟩ := h; exact ⟨h1.ok, ihr h2⟩
  | unit => intro x xs h; trivial
  | _ => intro x xs h; exact h.elim

/-- A law's contract, at any reading of its arguments. -/
theorem law_calls (hb : BulkOk bulk all) (hl : laidOutB P = true) {fid tb : Nat} {fn : Func} {s : ChangeSpec} {A : Ty} {spec : A.den → Option (Ty.pair .bool .unit).den} {apart fresh handsOn : Bool}
    (hden : DenAll P A fn.params.toList) (hread : ∀ t ∈ fn.params.toList, P.readableRec t = true ∧ t < P.types.size) (hres : fn.resultTypes = #[tb]) (htb : P.underlying tb = some .bool) (hsv : s.vars = [])
    (hs : ∀ ds : List (DataW H), ds.length = fn.params.toList.length → s.fn H ds = { results := [.lit (.bool true)], args := ds }) {G : Globs} (hh : Holds P G fid ⟨A, .pair .bool .unit, spec⟩)
    {W : World} (hG : GlobOk G W) {base : Nat} {args : Array Value} {ds gs : List (DataW H)} {before : List MemPlace} (hval : ∀ (j : Nat) t v, fn.params[j]? = some t → args[j]? = some v → Value.okWide P W .any base t v)
    (hW : DataW.Whole enc P fn.params.toList s.vars apart W args.toList ds gs before) (hspec : ∀ x : A.den, A.ok x → A.bulk x ≤ all (ds ++ gs) → spec x = some (true, ())) (hna : A.noAlt = true := by rfl) :
    Calls P fid args W fun e W' => ∃ v, e = .returned v ∧ s.post enc P fn apart fresh handsOn false W args v W' := by
  have hlt := hW.lt
  have hW' := hW
  obtain ⟨p, q, hA, hV, rfl, hfz, hnd⟩ := hW
  rw [hsv] at hV
  obtain ⟨rfl, rfl⟩ := trodVars_none hV
  simp only [List.append_nil] at hW' hlt hspec
  obtain ⟨x, x1, x2⟩ := args_rep hb (base := base) hna hden hA fun j t v hj hv => hval j t v (by simpa using hj) (by simpa using hv)
  have hlen : ∀ {ts : List TypeId} {vs : List Value} {ds : List (DataW H)} {ps : List MemPlace}, DataW.TrodAll enc P W 0 (fun _ => true) true ts vs ds ps → ds.length = ts.length := by
    intro ts
    induction ts with
    | nil => intro vs ds ps h; obtain ⟨_, rfl, _⟩ := trodAll_nil h; rfl
    | cons t ts ih => intro vs ds ps h; obtain ⟨v, vs', d, ds', p, q, rfl, rfl, rfl, h1, h2⟩ := trodAll_cons h; simp [ih h2]
  have hfn := hs ds (hlen hA)
  refine (hh.calls (old W) W args x (true, ()) (fun b o h => h) hG x1 (hspec x x1.ok x2)).mono fun e W' hw => ?_
  obtain ⟨v, I', rfl, b1, _, _, _, hr⟩ := hw
  obtain ⟨cs, rfl, hv⟩ := hr
  obtain rfl : v = .bool true := by simpa [ofCells, Ty.isAgg] using hv
  refine ⟨_, rfl, ds, [], p, [], p, [], hW', ?_, ?_, ?_, b1.frame _, fun h => by cases h⟩
  · rw [List.append_nil, hfn, hres]
    exact trodAll_mk1 (shut_bool htb true)
  · rw [List.append_nil, hfn]
    exact trodAll_stays hl hread hA (fun x hx => b1.same (hlt x hx)) (fun x hx => by simpa using hlt x hx)
  · rw [List.append_nil, hfn, hsv]
    rfl
end
end Go.Ge
namespace Go.Ge
set_option linter.unusedSectionVars false
variable [Lp]
set_option linter.unusedVariables false
set_option linter.unusedSimpArgs false
open RowKit

section
variable {P : Program} {cx : Ctx} {bf : List Nat}

end
end Go.Ge
namespace Go.Ge
set_option linter.unusedSectionVars false
variable [Lp]
set_option linter.unusedVariables false
set_option linter.unusedSimpArgs false

/-- A loop whose states are told one by one. -/
theorem loop_seq {S R : Type} {f : S → Option (S ⊕ R)} {r : R} : ∀ (k : Nat) (st : Nat → S), (∀ i, i < k → f (st i) = some (.inl (st (i + 1)))) → f (st k) = some (.inr r) → Loop f (st 0) = some r := by
  intro k
  induction k with
  | zero => intro st _ h; rw [Loop_eq, h]; rfl
  | succ k ih =>
    intro st h1 h2
    rw [Loop_eq, h1 0 (by omega)]
    exact ih (fun i => st (i + 1)) (fun i hi => h1 (i + 1) (by omega)) h2

theorem iadd_one {i : Nat} (h : i < 4611686018427387904) : iadd .i64 (i : Int) 1 = ((i + 1 : Nat) : Int) := by
  unfold iadd
  simp [IntKind.wrap, IntKind.min, IntKind.max, IntKind.signed, IntKind.bits]
  omega

theorem idx_nat {α : Type} (l : List α) (i : Nat) : idx l (i : Int) = l[i]? := by
  unfold idx
  rw [if_pos (by omega)]
  simp

theorem sel_true {α : Type} (x y : α) : sel true x y = x := rfl
theorem sel_false {α : Type} (x y : α) : sel false x y = y := rfl
theorem obind_some {α β : Type} (x : α) (f : α → Option β) : obind (some x) f = f x := rfl
theorem nt_true : nt true = false := rfl
theorem nt_false : nt false = true := rfl

/-! ### A seat's tables -/

theorem tys_ok {P : Program} {tys : List (Nat × Ty)} (h : (tys.all fun p => denG P p.2 false p.1 0 []) = true) : ∀ tid t, find tys tid = some t → Den P t tid := fun tid t hf => by
  rw [List.all_eq_true] at h
  exact h _ (find_mem hf)

theorem memN_list {l : List Nat} {t : Nat} (h : memN l t = true) : t ∈ l := memN_iff.1 h

def oneB (P : Program) (tid : TypeId) : Bool := (match P.underlying tid with | some (.pointer _) => true | some (.func ..) => true | _ => false) && (match P.info? tid with | some i => Nat.beq i.size 1 && (match i.zero with | some z => z.oneCell' | none => false) | none => false)

theorem ones_of {P : Program} {ones : List Nat} (h : (ones.all fun t => oneB P t) = true) : ∀ tid, memN ones tid = true → (∀ w, (isAgg tid).run P w = .ok false w) ∧ (∀ w, (Go.sizeOf tid).run P w = .ok 1 w) ∧ ∃ z, (∀ w, (zeroValue tid).run P w = .ok z w) ∧ z.oneCell' = true := fun tid ht => by
  rw [List.all_eq_true] at h
  have := h tid (memN_list ht)
  simp only [oneB, Bool.and_eq_true] at this
  obtain ⟨h1, h2⟩ := this
  refine ⟨?_, ?_, ?_⟩
  · intro w
    split at h1
    · rename_i hu; simp [isAgg, run_underlying hu]
    · rename_i hu; simp [isAgg, run_underlying hu]
    · cases h1
  · intro w
    split at h2
    · rename_i i hi
      simp only [Bool.and_eq_true] at h2
      have := Nat.eq_of_beq_eq_true h2.1
      simp [Go.sizeOf, typeInfo, hi, this]
    · cases h2
  · split at h2
    · rename_i i hi
      simp only [Bool.and_eq_true] at h2
      obtain ⟨_, h3⟩ := h2
      split at h3
      · rename_i z hz
        exact ⟨z, fun w => by simp [zeroValue, typeInfo, hi, hz], h3⟩
      · cases h3
    · cases h2

def ptrB (P : Program) (tid : TypeId) : Bool := match P.underlying tid with | some (.pointer _) => true | _ => false

theorem ptrs_of {P : Program} {ptrs : List Nat} (h : (ptrs.all fun t => ptrB P t) = true) : ∀ tid, memN ptrs tid = true → ∃ e, P.underlying tid = some (.pointer e) := fun tid ht => by
  rw [List.all_eq_true] at h
  have := h tid (memN_list ht)
  unfold ptrB at this
  split at this
  · rename_i e he; exact ⟨e, he⟩
  · cases this

theorem fns_nil {P : Program} : ∀ p ∈ ([] : List (Nat × Func)), P.funcs[p.1]? = some p.2 := fun p h => by cases h
theorem fns_cons {P : Program} {f : Nat} {fn : Func} {l : List (Nat × Func)} (h : P.funcs[f]? = some fn) (hl : ∀ p ∈ l, P.funcs[p.1]? = some p.2) : ∀ p ∈ (f, fn) :: l, P.funcs[p.1]? = some p.2 := fun p hp => by
  rcases List.mem_cons.1 hp with rfl | hp
  · exact h
  · exact hl p hp
theorem fns_of {P : Program} {l : List (Nat × Func)} (h : ∀ p ∈ l, P.funcs[p.1]? = some p.2) : ∀ f fn, find l f = some fn → P.funcs[f]? = some fn := fun f fn hf => h _ (find_mem hf)

theorem con_nil {P : Program} {G : Globs} : ∀ p ∈ ([] : List (Nat × Con)), Holds P G p.1 p.2 := fun p h => by cases h
theorem con_cons {P : Program} {G : Globs} {f : Nat} {c : Con} {l : List (Nat × Con)} (h : Holds P G f c) (hl : ∀ p ∈ l, Holds P G p.1 p.2) : ∀ p ∈ (f, c) :: l, Holds P G p.1 p.2 := fun p hp => by
  rcases List.mem_cons.1 hp with rfl | hp
  · exact h
  · exact hl p hp
theorem rcon_nil {P : Program} {G : Globs} : ∀ p ∈ ([] : List (Nat × RCon)), RHolds P G (p.1 / 2) p.2 := fun p h => by cases h
theorem rcon_cons {P : Program} {G : Globs} {f : Nat} {c : RCon} {l : List (Nat × RCon)} (h : RHolds P G f c) (hl : ∀ p ∈ l, RHolds P G (p.1 / 2) p.2) : ∀ p ∈ (2 * f, c) :: l, RHolds P G (p.1 / 2) p.2 := fun p hp => by
  rcases List.mem_cons.1 hp with rfl | hp
  · rw [show (2 * f, c).1 / 2 = f by simp]; exact h
  · exact hl p hp
theorem spc_nil {P : Program} : ∀ p ∈ ([] : List (Nat × Spc)), SpcOk P p.1 p.2 := fun p hp => by cases hp
theorem spc_cons {P : Program} {f : Nat} {s : Spc} {l : List (Nat × Spc)} (h : SpcOk P f s) (hl : ∀ p ∈ l, SpcOk P p.1 p.2) : ∀ p ∈ (f, s) :: l, SpcOk P p.1 p.2 := fun p hp => by
  rcases List.mem_cons.1 hp with rfl | hp
  · exact h
  · exact hl p hp
theorem findS_mem {α : Type} : ∀ {l : List (String × α)} {k : String} {a : α}, findS l k = some a → (k, a) ∈ l
  | [], _, _, h => by cases h
  | (i, a) :: r, k, b, h => by
    unfold findS at h
    by_cases e : i = k
    · rw [decide_eq_true e] at h
      obtain rfl := e
      obtain rfl := Option.some.inj h
      exact List.mem_cons_self ..
    · rw [decide_eq_false e] at h
      exact List.mem_cons_of_mem _ (findS_mem h)
theorem inv_nil {P : Program} {G : Globs} : ∀ p ∈ ([] : List (String × Con)), IHolds P G p.1 p.2 := fun p h => by cases h
theorem conOk_of {P : Program} {G : Globs} {cx : Ctx} (h : ∀ p ∈ cx.con, Holds P G p.1 p.2) (k : ∀ p ∈ cx.rcon, RHolds P G (p.1 / 2) p.2) (s : ∀ p ∈ cx.spc, SpcOk P p.1 p.2) (v : ∀ p ∈ cx.inv, IHolds P G p.1 p.2) : ConOk P G cx :=
  ⟨fun f c hf => h _ (find_mem hf), fun f c hf => k _ (find_mem hf), fun f c hf => s _ (find_mem hf), fun n c hf => v _ (findS_mem hf)⟩

theorem objs_of {P : Program} {objs : List (Nat × List OFld)} (h : (objs.all fun p => objB P p.1 p.2) = true) : ∀ tid fs, find objs tid = some fs → objB P tid fs = true := fun tid fs hf => by
  rw [List.all_eq_true] at h
  exact h _ (find_mem hf)

def elB (P : Program) (p : Nat × Nat) : Bool := match P.underlying p.1 with | some (.slice e) => Nat.beq e p.2 | _ => false
theorem els_of {P : Program} {els : List (Nat × Nat)} (h : (els.all fun p => elB P p) = true) : ∀ tid e, find els tid = some e → P.underlying tid = some (.slice e) := fun tid e hf => by
  rw [List.all_eq_true] at h
  have := h _ (find_mem hf)
  unfold elB at this
  split at this
  · rename_i e' he
    rw [he, Nat.eq_of_beq_eq_true this]
  · cases this
end Go.Ge
namespace Go.Ge
set_option linter.unusedVariables false
set_option linter.unusedSimpArgs false
open RowKit

theorem indexByte_range (c : UInt8) : ∀ l : List UInt8, -1 ≤ Lib.indexByte l c ∧ Lib.indexByte l c < l.length := by
  intro l
  induction l with
  | nil => exact ⟨by simp [Lib.indexByte], by simp [Lib.indexByte]⟩
  | cons b r ih =>
    unfold Lib.indexByte
    split
    · exact ⟨by simp, by simp only [List.length_cons]; omega⟩
    · split
      · exact ⟨by simp, by simp only [List.length_cons]; omega⟩
      · simp only [List.length_cons]; omega

theorem body_of {P : Program} {f : Nat} {fn : Func} (hP : P.funcs[f]? = some fn) (hname : (fn.name == "runtime.NumGoroutine") = false) (hb : fn.body.isSome = true) :
    ∃ fn code, P.funcs[f]? = some fn ∧ (fn.name == "runtime.NumGoroutine") = false ∧ fn.body = some code := by
  obtain ⟨code, hc⟩ := Option.isSome_iff_exists.1 hb
  exact ⟨fn, code, hP, hname, hc⟩

theorem setCell_row {w : World} {b : Nat} {p q v : Value} {T : TypeId} {fr : Nat × Nat} (h : w.heap[b]? = some (.cells #[p, v] T fr)) : w.setCell ⟨b, 0, none⟩ q = w.setRow b #[q, v] := by
  unfold World.setCell World.setRow
  congr 1
  apply Array.ext_getElem?
  intro i
  simp only [Array.getElem?_modify]
  by_cases e : b = i
  · subst e
    simp [h]
  · simp [e]

theorem Iced.refl (og : Option Nat) (w : World) : Iced og w w := ⟨rfl, rfl, rfl, Nat.le_refl _, fun _ _ _ => rfl, fun _ _ _ => rfl⟩
theorem Iced.weaken {og : Option Nat} {w w' : World} (h : Iced none w w') : Iced og w w' := ⟨h.os, h.tape, h.output, h.size, fun k hk _ => h.block k hk (by simp), h.cell⟩
theorem Iced.drew {og : Option Nat} {w w' : World} (h : Iced og w w') : Iced og w w'.drew := ⟨h.os, h.tape, h.output, h.size, h.block, h.cell⟩
theorem Iced.alloc {og : Option Nat} {w w' : World} (h : Iced og w w') (o : Obj) : Iced og w (w'.alloc o) where
  os := h.os
  tape := h.tape
  output := h.output
  size := Nat.le_trans h.size (by simp)
  block := fun k hk hn => (hold_alloc w' o k (Nat.lt_of_lt_of_le hk h.size)).trans (h.block k hk hn)
  cell := fun k c hk => (cell_of_same (hold_alloc w' o k (Nat.lt_of_lt_of_le hk h.size))).trans (h.cell k c hk)
theorem Iced.freeze {g : Nat} {w w' : World} (h : Iced (some g) w w') (n : Nat) : Iced (some g) w (w'.freeze ⟨g, 0, none⟩ n) := by
  unfold World.freeze
  split
  · exact h
  · refine ⟨h.os, h.tape, h.output, Nat.le_trans h.size (by simp), fun k hk hn => ?_, fun k c hk => ?_⟩
    · have hne : ¬ g = k := fun e => hn (by rw [e])
      rw [← h.block k hk hn]
      simp [Array.getElem?_modify, hne]
    · rw [← h.cell k c hk]
      by_cases e : g = k
      · subst e
        simp only [World.cell?, Array.getElem?_modify, if_true]
        cases w'.heap[g]? with
        | none => rfl
        | some o => cases o <;> rfl
      · have hne : ¬ g = k := e
        simp [World.cell?, Array.getElem?_modify, hne]

/-- A function of a text and a byte that answers a place, and leaves the world as it is. -/
theorem holds_str_u8 {P : Program} {G : Globs} {f : Nat} {fn : Func} {spec : List UInt8 → Int → Int} (hP : P.funcs[f]? = some fn) (hname : (fn.name == "runtime.NumGoroutine") = false) (hb : fn.body.isSome = true)
    (hr : ∀ s c, (-1 ≤ spec s c ∧ spec s c < s.length))
    (h : ∀ (s : ByteArray) (c : Int) (w : World), Calls P f #[.string s, .int .u8 c] w fun e w' => e = .returned (.int .i64 (spec s.data.toList c)) ∧ w' = w) :
    Holds P G f ⟨.pair .str (.pair (.int .u8) .unit), .pair (.int .i64) .unit, fun x => some (spec x.1 x.2.1, ())⟩ where
  body := by
    obtain ⟨code, hc⟩ := Option.isSome_iff_exists.1 hb
    exact ⟨fn, code, hP, hname, hc⟩
  calls := by
    intro I w args x y hI hG hargs hspec
    obtain ⟨s, c, u⟩ := x
    change List UInt8 at s
    change Int at c
    obtain rfl : ((spec s c : Int), ()) = y := Option.some.inj hspec
    obtain ⟨cs, rest, hal, hrep, cs2, rest2, hal2, hrep2, hrest2⟩ := hargs
    obtain rfl : rest2 = [] := hrest2
    obtain ⟨rfl, hl⟩ := hrep
    obtain ⟨rfl, _⟩ := hrep2
    obtain rfl : args = #[.string ⟨s.toArray⟩, .int .u8 c] := by
      apply Array.toList_inj.1
      rw [hal, hal2]
      rfl
    refine (h ⟨s.toArray⟩ c w).mono ?_
    rintro e w' ⟨rfl, rfl⟩
    refine ⟨_, I, rfl, Below.refl _ _, fun b o h => h, hI, fun b o h1 h2 => absurd h1 h2, ?_⟩
    have hs := hr s c
    have hm : s.length ≤ maxLen := hl
    refine ⟨[.int .i64 (spec s c)], ⟨rfl, ?_, ?_⟩, rfl⟩
    · have : (IntKind.i64).min = -9223372036854775808 := by decide
      show (IntKind.i64).min ≤ spec s c
      omega
    · have : (IntKind.i64).max = 9223372036854775807 := by decide
      have : maxLen = 140737488355328 ∨ maxLen ≤ 9223372036854775807 := by right; decide
      show spec s c ≤ (IntKind.i64).max
      omega
end Go.Ge
namespace Go.Ge
set_option linter.unusedVariables false
set_option linter.unusedSimpArgs false
open RowKit Go.Proofs Go.Shelf

theorem Any.countB_one (s : ByteArray) (c : UInt8) : ((Lib.countByte s.data.toList c : Nat) : Int) = ((Lib.countB s ⟨#[c]⟩ : Nat) : Int) := by
  show ((s.data.toList.count c : Nat) : Int) = ((Lib.count s.data.toList [c] : Nat) : Int)
  rw [Lib.count_one]

set_option maxHeartbeats 1000000 in
/-- strings.Split at a separator of one byte: what it asks of the world is nothing. -/
theorem Any.strings_Split_byte {P : Program} {ρ : Ren} (L : Lays.n146 P ρ) (hi9 : (P.info? (ρ.t 9)).map (fun i => (i.zero, i.size, i.bytes)) = some (some (.string ByteArray.empty), 1, 16)) (s : ByteArray) (b : UInt8) (w : World)
    (hs : s.size < 4294967281) :
    Calls P (ρ.f 146) #[.string s, .string ⟨#[b]⟩] w fun e w' =>
      e = .returned (.slice (some ⟨w.heap.size, 0, none⟩) (Lib.countB s ⟨#[b]⟩ + 1) (Lib.countB s ⟨#[b]⟩ + 1)) ∧ w' = w.alloc (.cells ((Lib.splitB ⟨#[b]⟩ 0 (Lib.countB s ⟨#[b]⟩) s).map Value.string).toArray (ρ.t 9)) := by
  have h1 : 1 ≤ (⟨#[b]⟩ : ByteArray).size := Nat.le_refl _
  generalize hsep : (⟨#[b]⟩ : ByteArray) = sep at h1
  have hle := Lib.countB_le sep h1 s.size s (Nat.le_refl _)
  have hlen := Lib.splitB_all sep h1 0 _ s rfl
  have c := Proofs.Any.strings_genSplit_core { L with } hi9 s sep 0 (-1) (Lib.countB s sep + 1) w hs h1 (Nat.zero_le _)
    (fun x c hx => by
      subst hsep
      refine (Proofs.Any.strings_Index_one { L with } x b _).mono fun e w' ⟨he, hw⟩ => ⟨?_, hw⟩
      rw [he]
      show _ = Ending.returned (Value.int .i64 (Lib.index x.data.toList [b]))
      rw [Lib.index_one])
    (by
      subst hsep
      refine (Proofs.Any.strings_Count_one { L with } s b w).mono fun e w' ⟨he, hw⟩ => ⟨?_, hw⟩
      rw [he, Any.countB_one])
    (by decide) (by decide) (by rw [if_pos (by decide)]; omega)
  rw [Nat.add_sub_cancel, hlen] at c
  have e2 : Lib.cellsOf (Lib.splitB sep 0 (Lib.countB s sep) s) (Lib.countB s sep + 1) = ((Lib.splitB sep 0 (Lib.countB s sep) s).map Value.string).toArray := by rw [← hlen]; exact Lib.cellsOf_full _
  rw [e2] at c
  have t3 := L.t3; have t9 := L.t9; have t31 := L.t31
  have a3 := L.a3; have a9 := L.a9; have a31 := L.a31
  have z3 := L.z3; have v3 := L.v3; have z9 := L.z9; have v9 := L.v9; have z31 := L.z31; have v31 := L.v31
  have e221 : ∀ args w, (callFunc (ρ.f 221) args).run P w = .ok (.enter (ρ.f 221) args) w := enters_of L.f221 (by kernel_rfl) rfl
  go_enter L.f146, Body.n146_ntmps ρ
  go_wp2_with (go_at_fn (ρ.f 221); refine c.mono ?_; rintro e w' ⟨rfl, hw⟩; rw [hw])
  go_ret
  exact ⟨rfl, rfl⟩

/-! ### Split -/
def S_split (s sep : List UInt8) : Option (List (List UInt8)) := match sep with
  | [b] => if s.length < 4294967281 then some (Lib.split s [b]) else none
  | _ => none

theorem splitK_le (sep : List UInt8) : ∀ (k : Nat) (s x : List UInt8), x ∈ Lib.splitK sep 0 k s → x.length ≤ s.length := by
  intro k
  induction k with
  | zero => intro s x h; simp [Lib.splitK] at h; rw [h]; exact Nat.le_refl _
  | succ k ih =>
    intro s x h
    unfold Lib.splitK at h
    split at h
    · simp at h; rw [h]; exact Nat.le_refl _
    · rcases List.mem_cons.1 h with h | h
      · rw [h, List.length_take]; omega
      · have := ih _ _ h
        rw [List.length_drop] at this
        omega

theorem holds_split {P : Program} {G : Globs} {f tid : Nat} {fn : Func} (hP : P.funcs[f]? = some fn) (hname : (fn.name == "runtime.NumGoroutine") = false) (hb : fn.body.isSome = true)
    (h : ∀ (s : ByteArray) (b : UInt8) (w : World), s.size < 4294967281 → Calls P f #[.string s, .string ⟨#[b]⟩] w fun e w' =>
      e = .returned (.slice (some ⟨w.heap.size, 0, none⟩) (Lib.countB s ⟨#[b]⟩ + 1) (Lib.countB s ⟨#[b]⟩ + 1)) ∧ w' = w.alloc (.cells ((Lib.splitB ⟨#[b]⟩ 0 (Lib.countB s ⟨#[b]⟩) s).map Value.string).toArray tid)) :
    Holds P G f ⟨.pair .str (.pair .str .unit), .pair (.slice .str) .unit, fun x => (S_split x.1 x.2.1).map fun y => (y, ())⟩ where
  body := by
    obtain ⟨code, hc⟩ := Option.isSome_iff_exists.1 hb
    exact ⟨fn, code, hP, hname, hc⟩
  calls := by
    intro I w args x y hI hG hargs hspec
    obtain ⟨s, sep, u⟩ := x
    change List UInt8 at s
    change List UInt8 at sep
    obtain ⟨z, hz, rfl⟩ := Option.map_eq_some_iff.1 hspec
    change S_split s sep = some z at hz
    have hsep : ∃ b, sep = [b] ∧ s.length < 4294967281 ∧ z = Lib.split s [b] := by
      unfold S_split at hz
      split at hz
      · rename_i b
        split at hz
        · rename_i hl
          exact ⟨b, rfl, hl, (Option.some.inj hz).symm⟩
        · cases hz
      · cases hz
    obtain ⟨b, rfl, hl, rfl⟩ := hsep
    obtain ⟨cs, rest, hal, hrep, cs2, rest2, hal2, hrep2, hrest2⟩ := hargs
    obtain rfl : rest2 = [] := hrest2
    obtain ⟨rfl, hlm⟩ := hrep
    obtain ⟨rfl, _⟩ := hrep2
    obtain rfl : args = #[.string ⟨s.toArray⟩, .string ⟨#[b]⟩] := by
      apply Array.toList_inj.1
      rw [hal, hal2]
      rfl
    refine (h ⟨s.toArray⟩ b w (by show s.toArray.size < _; simpa using hl)).mono ?_
    rintro e w' ⟨rfl, rfl⟩
    have hdat := Lib.splitB_data ⟨#[b]⟩ 0 (Lib.countB ⟨s.toArray⟩ ⟨#[b]⟩) ⟨s.toArray⟩
    have hlen := Lib.splitB_all ⟨#[b]⟩ (Nat.le_refl _) 0 _ ⟨s.toArray⟩ rfl
    generalize hsb : Lib.splitB ⟨#[b]⟩ 0 (Lib.countB ⟨s.toArray⟩ ⟨#[b]⟩) ⟨s.toArray⟩ = sb at hdat hlen
    have hd : sb.map (·.data.toList) = Lib.split s [b] := hdat
    have hn : (Lib.split s [b]).length = Lib.countB ⟨s.toArray⟩ ⟨#[b]⟩ + 1 := by rw [← hd, List.length_map, hlen]
    have hbig : Lib.countB ⟨s.toArray⟩ ⟨#[b]⟩ + 1 ≤ maxLen := by
      have := Lib.countB_le ⟨#[b]⟩ (Nat.le_refl _) s.length ⟨s.toArray⟩ (by show s.toArray.size ≤ _; simp)
      have e : (⟨s.toArray⟩ : ByteArray).size = s.length := by show s.toArray.size = _; simp
      rw [e] at this
      have : 4294967281 ≤ maxLen := by decide
      omega
    refine ⟨_, fun b o => I b o ∨ b = w.heap.size, rfl, (Below.refl _ _).alloc (Nat.le_refl _) _, fun b o h => .inl h, fun b o h => ?_, fun b o h1 h2 => ?_, ?_⟩
    · have hsz : (w.alloc (.cells (sb.map Value.string).toArray tid)).heap.size = w.heap.size + 1 := by simp
      rw [hsz]
      rcases h with h | h
      · have := hI b o h; omega
      · omega
    · rcases h1 with h1 | h1
      · exact absurd h1 h2
      · omega
    · refine ⟨[.slice (some ⟨w.heap.size, 0, none⟩) (Lib.countB ⟨s.toArray⟩ ⟨#[b]⟩ + 1) (Lib.countB ⟨s.toArray⟩ ⟨#[b]⟩ + 1)], ?_, rfl⟩
      refine .inr ⟨w.heap.size, 0, Lib.countB ⟨s.toArray⟩ ⟨#[b]⟩ + 1, ?_, ?_, hbig, fun i x hx => ?_⟩
      · show _ = [Value.slice _ (Lib.split s [b]).length _]
        rw [hn]
      · show (Lib.split s [b]).length ≤ _
        omega
      · have hx' : (Lib.split s [b])[i]? = some x := hx
        rw [← hd, List.getElem?_map] at hx'
        obtain ⟨y, hy, rfl⟩ := Option.map_eq_some_iff.1 hx'
        refine ⟨[.string y], rfl, fun j v hv => ?_, ?_⟩
        · cases j with
          | succ j => cases hv
          | zero =>
            obtain rfl := Option.some.inj hv
            refine ⟨?_, .inr rfl⟩
            have hlt := (List.getElem?_eq_some_iff.1 hy).1
            simp only [World.cell?, World.alloc, Nat.zero_add, Nat.add_zero]
            simp [Ty.size, hy]
        · refine ⟨?_, ?_⟩
          · have : y = ⟨y.data.toList.toArray⟩ := (Lib.mk_data y).symm
            rw [← this]
          · have hm : y.data.toList ∈ Lib.split s [b] := List.mem_of_getElem? hx
            have := splitK_le _ _ _ _ hm
            exact Nat.le_trans this hlm

/-! ### Join -/
def S_join (l : List (List UInt8)) (sep : List UInt8) : Option (List UInt8) := if l.length ≤ 140737488355328 ∧ (Lib.join l sep).length ≤ 140737488355328 then some (Lib.join l sep) else none

theorem holds_join {P : Program} {G : Globs} {f : Nat} {fn : Func} (hP : P.funcs[f]? = some fn) (hname : (fn.name == "runtime.NumGoroutine") = false) (hb : fn.body.isSome = true)
    (h0 : ∀ (a : Option Addr) (c : Nat) (sep : ByteArray) (w : World), Calls P f #[.slice a 0 c, .string sep] w fun e w' => e = .returned (.string ⟨#[]⟩) ∧ w' = w)
    (h : ∀ (bk o c : Nat) (xs : List ByteArray) (sep : ByteArray) (w : World),
    (∀ (j : Nat) x, xs[j]? = some x → w.cell? ⟨bk, o + j, none⟩ = some (.string x)) → (bk < w.heap.size) → (xs.length ≤ 140737488355328) → (xs.length ≤ c) →
    ((Lib.join (xs.map (·.data.toList)) sep.data.toList).length ≤ 140737488355328) →
    Calls P f #[.slice (some ⟨bk, o, none⟩) xs.length c, .string sep] w fun e w' => e = .returned (.string ⟨(Lib.join (xs.map (·.data.toList)) sep.data.toList).toArray⟩) ∧ Below w.heap.size w w') :
    Holds P G f ⟨.pair (.slice .str) (.pair .str .unit), .pair .str .unit, fun x => (S_join x.1 x.2.1).map fun y => (y, ())⟩ where
  body := by
    obtain ⟨code, hc⟩ := Option.isSome_iff_exists.1 hb
    exact ⟨fn, code, hP, hname, hc⟩
  calls := by
    intro I w args x y hI hG hargs hspec
    obtain ⟨l, sep, u⟩ := x
    change List (List UInt8) at l
    change List UInt8 at sep
    obtain ⟨z, hz, rfl⟩ := Option.map_eq_some_iff.1 hspec
    change S_join l sep = some z at hz
    unfold S_join at hz
    split at hz
    case isFalse => cases hz
    rename_i hlen
    obtain ⟨hmany, hlen⟩ := hlen
    have hlm : (Lib.join l sep).length ≤ maxLen := Nat.le_trans hlen (by decide)
    obtain rfl := Option.some.inj hz
    obtain ⟨cs, rest, hal, hrep, cs2, rest2, hal2, hrep2, hrest2⟩ := hargs
    obtain rfl : rest2 = [] := hrest2
    obtain ⟨rfl, hsm⟩ := hrep2
    have fin : ∀ {v : Value}, cs = [v] → ∀ {w'}, Below w.heap.size w w' → ∀ {e : Ending}, e = .returned (.string ⟨(Lib.join l sep).toArray⟩) →
        ∃ v I', e = .returned v ∧ Below w.heap.size w w' ∧ (∀ b o, I b o → I' b o) ∧ (∀ b o, I' b o → b < w'.heap.size) ∧ (∀ b o, I' b o → ¬ I b o → w.heap.size ≤ b) ∧ ResRep w' I' (.pair .str .unit) (Lib.join l sep, ()) v := by
      intro v _ w' hw e he
      exact ⟨_, I, he, hw, fun b o h => h, fun b o h => Nat.lt_of_lt_of_le (hI b o h) hw.size, fun b o h1 h2 => absurd h1 h2, [.string ⟨(Lib.join l sep).toArray⟩], ⟨rfl, hlm⟩, rfl⟩
    rcases hrep with ⟨⟨base, rfl⟩, hl⟩ | ⟨blk, off, cap, rfl, hcap, hmax, hel⟩
    · obtain rfl : l = [] := hl
      obtain rfl : args = #[.slice base 0 0, .string ⟨sep.toArray⟩] := by
        apply Array.toList_inj.1
        rw [hal, hal2]
        rfl
      refine (h0 base 0 ⟨sep.toArray⟩ w).mono ?_
      rintro e w' ⟨rfl, rfl⟩
      exact fin rfl (Below.refl _ _) rfl
    · change l.length ≤ cap at hcap
      obtain rfl : args = #[.slice (some ⟨blk, off, none⟩) l.length cap, .string ⟨sep.toArray⟩] := by
        apply Array.toList_inj.1
        rw [hal, hal2]
        rfl
      cases l with
      | nil =>
        refine (h0 (some ⟨blk, off, none⟩) cap ⟨sep.toArray⟩ w).mono ?_
        rintro e w' ⟨rfl, rfl⟩
        exact fin rfl (Below.refl _ _) rfl
      | cons a r =>
        have hcell : ∀ (j : Nat) x, (a :: r)[j]? = some x → w.cell? ⟨blk, off + j, none⟩ = some (.string ⟨x.toArray⟩) ∧ I blk (off + j) := by
          intro j x hx
          obtain ⟨es, he, hc, hr⟩ := hel j x hx
          obtain ⟨rfl, _⟩ := hr
          have := hc 0 _ rfl
          simpa [Ty.size] using this
        have hbk : blk < w.heap.size := hI _ _ (hcell 0 a rfl).2
        have e1 : ((a :: r).map fun x : List UInt8 => (⟨x.toArray⟩ : ByteArray)).map (·.data.toList) = a :: r := by
          rw [List.map_map]
          exact List.map_id'' (fun x => rfl) _
        have := h blk off cap ((a :: r).map fun x => ⟨x.toArray⟩) ⟨sep.toArray⟩ w (fun j x hx => by
            rw [List.getElem?_map] at hx
            obtain ⟨y, hy, rfl⟩ := Option.map_eq_some_iff.1 hx
            exact (hcell j y hy).1) hbk (by rw [List.length_map]; exact hmany) (by rw [List.length_map]; exact hcap) (by rw [e1]; exact hlen)
        rw [e1, List.length_map] at this
        refine this.mono ?_
        rintro e w' ⟨rfl, hw⟩
        exact fin rfl hw rfl
end Go.Ge
namespace Go.Ge
set_option linter.unusedVariables false
set_option linter.unusedSimpArgs false
open RowKit

/-! ### Tables -/
def tabObj (k : IntKind) (zs : List Int) : Obj → Prop := fun o => ∃ t fr, o = .cells (zs.map fun z => Value.int k z).toArray t fr
def errObj : Obj → Prop := fun o => ∃ tp p t fr, o = .cells #[.iface tp p] t fr

theorem tab_of_glob {P : Program} {G : Globs} {w : World} {g : Nat} {name : String} {k : IntKind} {zs : List Int} (hg : P.globalNamed name = some g) (h : G g (tabObj k zs)) (ok : GlobOk G w) : Lib.TabIs P w name k zs := by
  obtain ⟨o, h1, t, fr, rfl⟩ := ok g _ h
  simp [Lib.TabIs, World.var?, hg, h1]
theorem err_of_glob {P : Program} {G : Globs} {w : World} {g : Nat} {name : String} (hg : P.globalNamed name = some g) (h : G g errObj) (ok : GlobOk G w) : ∃ tp p, w.var? P name = some #[.iface tp p] := by
  obtain ⟨o, h1, tp, p, t, fr, rfl⟩ := ok g _ h
  exact ⟨tp, p, by simp [World.var?, hg, h1]⟩
theorem glob_of_tab {P : Program} {w : World} {g : Nat} {name : String} {k : IntKind} {zs : List Int} (hg : P.globalNamed name = some g) (h : Lib.TabIs P w name k zs) : ∃ o, w.heap[g]? = some o ∧ tabObj k zs o := by
  simp only [Lib.TabIs, World.var?, hg, Option.bind_some] at h
  split at h
  · rename_i cs t fr he
    obtain rfl := Option.some.inj h
    exact ⟨_, he, _, _, rfl⟩
  · cases h
theorem glob_of_err {P : Program} {w : World} {g : Nat} {name : String} {tp : TypeId} {p : Value} (hg : P.globalNamed name = some g) (h : w.var? P name = some #[.iface tp p]) : ∃ o, w.heap[g]? = some o ∧ errObj o := by
  simp only [World.var?, hg, Option.bind_some] at h
  split at h
  · rename_i cs t fr he
    obtain rfl := Option.some.inj h
    exact ⟨_, he, _, _, _, _, rfl⟩
  · cases h
theorem globOk_below {G : Globs} {w w' : World} (h : GlobOk G w) (hb : Below w.heap.size w w') : GlobOk G w' := fun b Q g => by
  obtain ⟨o, h1, h2⟩ := h b Q g
  exact ⟨o, (hb.block b (Array.getElem?_eq_some_iff.1 h1).1).trans h1, h2⟩

/-! ### Digits -/
theorem holds_itoa {P : Program} {G : Globs} {f : Nat} {fn : Func} (hP : P.funcs[f]? = some fn) (hname : (fn.name == "runtime.NumGoroutine") = false) (hb : fn.body.isSome = true)
    (ht : ∀ w, GlobOk G w → Lib.TabIs P w "internal/strconv.uint64pow10" .u64 Lib.pow10Tab)
    (h : ∀ (n : Int), -9223372036854775808 ≤ n → n ≤ 9223372036854775807 → ∀ w, Lib.TabIs P w "internal/strconv.uint64pow10" .u64 Lib.pow10Tab →
      Calls P f #[.int .i64 n] w fun e w' => e = .returned (.string ⟨(Lib.itoa n).toArray⟩) ∧ Below w.heap.size w w') :
    Holds P G f ⟨.pair (.int .i64) .unit, .pair .str .unit, fun x => some (Lib.itoa x.1, ())⟩ where
  body := by
    obtain ⟨code, hc⟩ := Option.isSome_iff_exists.1 hb
    exact ⟨fn, code, hP, hname, hc⟩
  calls := by
    intro I w args x y hI hG hargs hspec
    obtain ⟨n, u⟩ := x
    change Int at n
    obtain rfl := Option.some.inj hspec
    obtain ⟨cs, rest, hal, hrep, hrest⟩ := hargs
    obtain rfl : rest = [] := hrest
    obtain ⟨rfl, h0, h1⟩ := hrep
    obtain rfl : args = #[.int .i64 n] := by
      apply Array.toList_inj.1
      rw [hal]
      rfl
    have b0 : -9223372036854775808 ≤ n := by
      have : (IntKind.i64).min = -9223372036854775808 := by decide
      exact this ▸ h0
    have b1 : n ≤ 9223372036854775807 := by
      have : (IntKind.i64).max = 9223372036854775807 := by decide
      exact this ▸ h1
    have hl := Lib.itoa_length_le n b0 b1
    refine (h n b0 b1 w (ht w hG)).mono ?_
    rintro e w' ⟨rfl, hw⟩
    exact ⟨_, I, rfl, hw, fun b o h => h, fun b o h => Nat.lt_of_lt_of_le (hI b o h) hw.size, fun b o h1 h2 => absurd h1 h2, [.string ⟨(Lib.itoa n).toArray⟩], ⟨rfl, Nat.le_trans hl (by decide)⟩, rfl⟩

/-- The number of a text that is its digits. -/
def numF (s : List UInt8) : Int × Bool := match Lib.parseIntB 64 s with
  | .ok v => if Lib.itoa v = s then (v, true) else (0, false)
  | _ => (0, false)

theorem numF_range (s : List UInt8) : -9223372036854775808 ≤ (numF s).1 ∧ (numF s).1 ≤ 9223372036854775807 := by
  unfold numF
  split
  · rename_i v hv
    have := Lib.parseIntB_bounds hv
    split
    · simp only [Nat.reduceSub, Nat.reducePow] at this
      dsimp only
      omega
    · exact ⟨by decide, by decide⟩
  · exact ⟨by decide, by decide⟩

theorem holds_num {P : Program} {G : Globs} {f : Nat} {fn : Func} (hP : P.funcs[f]? = some fn) (hname : (fn.name == "runtime.NumGoroutine") = false) (hb : fn.body.isSome = true)
    (h : ∀ (s : ByteArray) (w : World), s.size ≤ 1048576 → GlobOk G w → Calls P f #[.string s] w fun e w' => e = .returned (.tuple #[.int .i64 (numF s.data.toList).1, .bool (numF s.data.toList).2]) ∧ Below w.heap.size w w') :
    Holds P G f ⟨.pair .str .unit, .pair (.int .i64) (.pair .bool .unit), fun x => if List.length (α := UInt8) x.1 ≤ 1048576 then some ((numF x.1).1, ((numF x.1).2, ())) else none⟩ where
  body := by
    obtain ⟨code, hc⟩ := Option.isSome_iff_exists.1 hb
    exact ⟨fn, code, hP, hname, hc⟩
  calls := by
    intro I w args x y hI hG hargs hspec
    obtain ⟨s, u⟩ := x
    change List UInt8 at s
    change (if s.length ≤ 1048576 then some ((numF s).1, ((numF s).2, ())) else none) = some y at hspec
    split at hspec
    case isFalse => cases hspec
    rename_i hl
    obtain rfl := Option.some.inj hspec
    obtain ⟨cs, rest, hal, hrep, hrest⟩ := hargs
    obtain rfl : rest = [] := hrest
    obtain ⟨rfl, _⟩ := hrep
    obtain rfl : args = #[.string ⟨s.toArray⟩] := by
      apply Array.toList_inj.1
      rw [hal]
      rfl
    refine (h ⟨s.toArray⟩ w (by show s.toArray.size ≤ _; simpa using hl) hG).mono ?_
    rintro e w' ⟨rfl, hw⟩
    have hr := numF_range s
    have hm : (IntKind.i64).min = -9223372036854775808 := by decide
    have hM : (IntKind.i64).max = 9223372036854775807 := by decide
    refine ⟨_, I, rfl, hw, fun b o h => h, fun b o h => Nat.lt_of_lt_of_le (hI b o h) hw.size, fun b o h1 h2 => absurd h1 h2, ?_⟩
    refine ⟨#[.int .i64 (numF s).1, .bool (numF s).2], rfl, .int .i64 (numF s).1, [.bool (numF s).2], rfl, ⟨_, ⟨rfl, ?_, ?_⟩, rfl⟩, .bool (numF s).2, [], rfl, ⟨_, rfl, rfl⟩, rfl⟩
    · rw [hm]; exact hr.1
    · rw [hM]; exact hr.2

/-! ### Functions that call themselves -/
theorem Holds.weaken {P : Program} {G : Globs} {f : Nat} {A R : Ty} {spec spec' : A.den → Option R.den} (h : Holds P G f ⟨A, R, spec⟩) (hs : ∀ x y, spec' x = some y → spec x = some y) : Holds P G f ⟨A, R, spec'⟩ where
  body := h.body
  calls := fun I w args x y hI hG ha hx => h.calls I w args x y hI hG ha (hs x y hx)

theorem RHolds.weaken {P : Program} {G : Globs} {f : Nat} {ps : List Bool} {A R : Ty} {U : OT} {spec spec' : A.den × U.den → Option (R.den × U.den)} (h : RHolds P G f ⟨ps, A, U, R, spec⟩) (hs : ∀ x y, spec' x = some y → spec x = some y) : RHolds P G f ⟨ps, A, U, R, spec'⟩ where
  body := h.body
  calls := fun I w args ptrs bs ls x u y hI hG hb ha ho hn hx => h.calls I w args ptrs bs ls x u y hI hG hb ha ho hn (hs (x, u) y hx)

/-- By a count of how deep it calls itself. -/
theorem holds_rec {P : Program} {G : Globs} {f : Nat} {fn : Func} (hP : P.funcs[f]? = some fn) (hname : (fn.name == "runtime.NumGoroutine") = false) (hb : fn.body.isSome = true) {A R : Ty} {F : (A.den → Option R.den) → A.den → Option R.den}
    (hF : ∀ rec, Holds P G f ⟨A, R, rec⟩ → Holds P G f ⟨A, R, F rec⟩) (S : Nat → A.den → Option R.den) (h0 : ∀ x, S 0 x = none) (hS : ∀ k x y, S (k + 1) x = some y → F (S k) x = some y)
    {spec : A.den → Option R.den} (hs : ∀ x y, spec x = some y → ∃ k, S k x = some y) : Holds P G f ⟨A, R, spec⟩ := by
  have hbody : ∃ fn code, P.funcs[f]? = some fn ∧ (fn.name == "runtime.NumGoroutine") = false ∧ fn.body = some code := by
    obtain ⟨code, hc⟩ := Option.isSome_iff_exists.1 hb
    exact ⟨fn, code, hP, hname, hc⟩
  have all : ∀ k, Holds P G f ⟨A, R, S k⟩ := by
    intro k
    induction k with
    | zero => exact ⟨hbody, fun I w args x y _ _ _ hx => by have := h0 x; rw [show S 0 x = some y from hx] at this; cases this⟩
    | succ k ih => exact (hF _ ih).weaken (hS k)
  exact ⟨hbody, fun I w args x y hI hG ha hx => by
    obtain ⟨k, hk⟩ := hs x y hx
    exact (all k).calls I w args x y hI hG ha hk⟩
end Go.Ge
namespace Go.Ge
set_option linter.unusedVariables false
set_option linter.unusedSimpArgs false
open RowKit Go.Sort Go.Proofs

end Go.Ge
namespace Go.Ge
set_option linter.unusedSectionVars false
variable [Lp]
open RowKit Go.Shelf Go.Lib Go.Proofs

/-- What is asked of a program that has the function at an element's type. -/
structure InsAt (P : Program) (ρ : Ren) (nm : String) (k : Nat) : Prop where
  mixed : P.follows .mixedOrders = true
  f22 : P.funcs[ρ.f 22]? = some { Body2.n22 ρ with name := nm }
  ov : ∀ (xs : Array Value) (w : World), (callFunc (ρ.f 29) xs).run P w = ((Extern.SlicesOverlaps.overlaps #[(ρ.t 24), (ρ.t 24)] #[(ρ.t 4)] xs).run P w).andThen fun v w' => .ok (.value v) w'
  t3 : P.underlying (ρ.t 3) = some (TypeDesc.int IntKind.i64)
  t4 : P.underlying (ρ.t 4) = some TypeDesc.bool
  t24 : P.underlying (ρ.t 24) = some (TypeDesc.slice (ρ.t 9))
  z9 : ∀ w, (Go.sizeOf (ρ.t 9)).run P w = .ok k w
  i9 : (P.info? (ρ.t 9)).map (·.size) = some k

variable {P : Program} {ρ : Ren} {nm : String} {k : Nat}

end Go.Ge
