/- A ghost interpreter of the model's code, and that it tells the truth: part 5. It says of a function of plain data what a call of it comes to. -/
import Derived.Test.YtkgjcocemmnpjaaDoorGeD
namespace Go.Ge
set_option linter.unusedVariables false
set_option linter.unusedSimpArgs false
open RowKit

/-- Arguments that represent data. -/
def ArgsRep (w : World) (I : Nat → Nat → Prop) : (A : Ty) → A.den → List Value → Prop
  | .pair t r, x, vs => ∃ cs rest, vs = ofCells t cs :: rest ∧ RepC w I t x.1 cs ∧ ArgsRep w I r x.2 rest
  | .unit, _, vs => vs = []
  | _, _, _ => False

/-- A result that represents data. -/
def ResRep (w : World) (I : Nat → Nat → Prop) (R : Ty) (y : R.den) (v : Value) : Prop := Rep ⟨I, fun _ => none⟩ (fun _ => none) w (resVal R y) .val [v]

/-- A function (repeat' (first | exact KeepT.fail | exact KeepT.ret (Keep.putO _ _ _) | exact KeepT.ret (Keep.put _ _ _) | exact KeepT.newBox | refine KeepT.bif ?_ | refine KeepT.need ?_ | refine KeepT.look fun _ => ?_ | refine KeepT.node ?_ ?_ | refine KeepT.bind fun _ _ => ?_ | split)) its contract. -/
structure Holds (P : Program) (G : Globs) (f : Nat) (c : Con) : Prop where
  body : ∃ fn code, P.funcs[f]? = some fn ∧ (fn.name == "runtime.NumGoroutine") = false ∧ fn.body = some code
  calls : ∀ (I : Nat → Nat → Prop) (w : World) (args : Array Value) (x : c.A.den) (y : c.R.den), (∀ b o, I b o → b < w.heap.size) → GlobOk G w → ArgsRep w I c.A x args.toList → c.spec x = some y →
    Calls P f args w fun e w' => ∃ v I', e = .returned v ∧ Below w.heap.size w w' ∧ (∀ b o, I b o → I' b o) ∧ (∀ b o, I' b o → b < w'.heap.size) ∧ (∀ b o, I' b o → ¬ I b o → w.heap.size ≤ b) ∧ ResRep w' I' c.R y v

/-- The same of a method that an interface's value has: whichever function it is. -/
def IHolds (P : Program) (G : Globs) (name : String) (c : Con) : Prop :=
  ∀ (I : Nat → Nat → Prop) (w : World) (v : Value) (xs : List Value) (x : c.A.den) (y : c.R.den), (∀ b o, I b o → b < w.heap.size) → GlobOk G w → ArgsRep w I c.A x (v :: xs) → c.spec x = some y →
    ∃ f u, (callMethod v name xs.toArray).run P w = (callFunc f (u :: xs).toArray).run P w ∧ (∃ fn code, P.funcs[f]? = some fn ∧ (fn.name == "runtime.NumGoroutine") = false ∧ fn.body = some code) ∧
    Calls P f (u :: xs).toArray w fun e w' => ∃ v I', e = .returned v ∧ Below w.heap.size w w' ∧ (∀ b o, I b o → I' b o) ∧ (∀ b o, I' b o → b < w'.heap.size) ∧ (∀ b o, I' b o → ¬ I b o → w.heap.size ≤ b) ∧ ResRep w' I' c.R y v

/-- What goes on elsewhere. -/
theorem MemOk.far {B : Own} {γ : Gh} {mem : Nat → Option Box} {w w' : World} (h : MemOk B γ mem w) (hw : Below w.heap.size w w') {I' : Nat → Nat → Prop} (hI : ∀ b o, γ.I b o → I' b o) (himm : ∀ b o, I' b o → b < w'.heap.size)
    (hnew : ∀ b o, I' b o → ¬ γ.I b o → w.heap.size ≤ b) : MemOk B ⟨I', γ.loc⟩ mem w' ∧ Ext B γ mem w ⟨I', γ.loc⟩ mem w' := by
  have hx : Ext B γ mem w ⟨I', γ.loc⟩ mem w' :=
    { below := .of ⟨hw.os, hw.tape, hw.output, hw.size, fun k hk => hw.block k (Nat.lt_of_lt_of_le hk h.base)⟩
      I := hI
      anew := fun b o x => by
        by_cases hi : γ.I b o
        · exact .inl hi
        · exact .inr (.inl (Nat.le_trans h.base (hnew b o x hi)))
      cells := fun b o hi => cell_of_same (hw.block b (h.imm b o hi))
      boxes := fun b bx hb => ⟨bx, hb, Nat.le_refl _, fun _ => ⟨rfl, rfl, rfl⟩⟩ }
  refine ⟨?_, hx⟩
  exact
    { glob := h.globE hx
      base := Nat.le_trans h.base hw.size
      boxes := fun b bx hb => (h.boxes b bx hb).keep hx rfl fun blk k hl => hw.block blk (h.fresh b blk k (by rw [hb]; simp) hl).2
      inj := h.inj
      fresh := fun b blk k hb hl => by have := h.fresh b blk k hb hl; exact ⟨this.1, Nat.lt_of_lt_of_le this.2 hw.size⟩
      imm := himm
      sep := fun b bx blk k off hb hl hi => by
        by_cases hi0 : γ.I blk off
        · exact h.sep b bx blk k off hb hl hi0
        · have h1 := hnew blk off hi hi0
          have h2 := (h.fresh b blk k (by rw [hb]; simp) hl).2
          omega }

theorem rep_tupOf {w : World} {γ γ' : Gh} {mem mem' : Nat → Option Box} (hI : ∀ b o, γ.I b o → γ'.I b o) : ∀ {R : Ty} {y : R.den} {vs : List Value}, Rep γ mem w (tupOf R y) .many vs → Rep γ' mem' w (tupOf R y) .many vs := by
  intro R
  induction R with
  | pair t r iht ihr =>
    intro y vs h
    obtain ⟨v, rest, h0, ⟨cs, h1, h2⟩, h3⟩ := h
    exact ⟨v, rest, h0, ⟨cs, RepC.mono hI (fun _ _ _ => rfl) h1, h2⟩, ihr h3⟩
  | _ => intro y vs h; exact h

theorem resVal_cases (R : Ty) (y : R.den) : (∃ t, ∃ q : R = .pair t .unit, resVal R y = .data t (show (Ty.pair t .unit).den from q ▸ y).1) ∨ resVal R y = .tup (tupOf R y) := by
  cases R with
  | pair t r =>
    cases r with
    | unit => exact .inl ⟨t, rfl, rfl⟩
    | _ => exact .inr rfl
  | _ => exact .inr rfl

/-- Data results do not hang on boxes. -/
theorem ResRep.rep {w : World} {I : Nat → Nat → Prop} {R : Ty} {y : R.den} {v : Value} (h : ResRep w I R y v) {γ : Gh} {mem : Nat → Option Box} (hI : ∀ b o, I b o → γ.I b o) : Rep γ mem w (resVal R y) .val [v] := by
  unfold ResRep at h
  rcases resVal_cases R y with ⟨t, q, hq⟩ | hq
  · rw [hq] at h ⊢
    obtain ⟨cs, h1, h2⟩ := h
    exact ⟨cs, RepC.mono hI (fun _ _ _ => rfl) h1, h2⟩
  · rw [hq] at h ⊢
    obtain ⟨arr, h1, h2⟩ := h
    exact ⟨arr, h1, rep_tupOf hI h2⟩

theorem rep_tupOf_flat {w w' : World} {γ γ' : Gh} {mem mem' : Nat → Option Box} : ∀ {R : Ty} {y : R.den} {vs : List Value}, R.flat = true → Rep γ mem w (tupOf R y) .many vs → Rep γ' mem' w' (tupOf R y) .many vs := by
  intro R
  induction R with
  | pair t r iht ihr =>
    intro y vs hf h
    simp only [Ty.flat, Bool.and_eq_true] at hf
    obtain ⟨v, rest, h0, ⟨cs, h1, h2⟩, h3⟩ := h
    exact ⟨v, rest, h0, ⟨cs, RepC.flat hf.1 h1, h2⟩, ihr hf.2 h3⟩
  | _ => intro y vs hf h; exact h

theorem ResRep.flat {w w' : World} {I : Nat → Nat → Prop} {R : Ty} {y : R.den} {v : Value} (h : ResRep w I R y v) {γ : Gh} {mem : Nat → Option Box} (hf : R.flat = true) : Rep γ mem w' (resVal R y) .val [v] := by
  unfold ResRep at h
  rcases resVal_cases R y with ⟨t, q, hq⟩ | hq
  · rw [hq] at h ⊢
    subst q
    simp only [Ty.flat, Bool.and_eq_true] at hf
    obtain ⟨cs, h1, h2⟩ := h
    exact ⟨cs, RepC.flat hf.1 h1, h2⟩
  · rw [hq] at h ⊢
    obtain ⟨arr, h1, h2⟩ := h
    exact ⟨arr, h1, rep_tupOf_flat hf h2⟩

section
variable {P : Program} {B : Own} {N : Nat} {γ : Gh} {σ σ' : St} {a : Act} {w w' : World} {d : Option Nat} {cx : Ctx}

/-- A row, in a world none of whose cells changes. -/
theorem RowVal.lent {I I' : Nat → Nat → Prop} {e : Ty} {l : List e.den} {v : Value} (h : RowVal w I e l v) (hI : ∀ b o, I b o → I' b o) (hc : ∀ blk off cap, v = .slice (some ⟨blk, off, none⟩) l.length cap → l ≠ [] → ∀ o, I' blk o) :
    RepC w I' (.slice e) l [v] := by
  rcases h with ⟨rfl, base, cap, r1, r2, r3⟩ | ⟨blk, off, cap, r1, r2, r3, r4⟩
  · rcases r3 with rfl | ⟨blk, off, rfl⟩
    · exact .inl ⟨⟨base, by rw [r1]⟩, rfl⟩
    · exact .inr ⟨blk, off, cap, by rw [r1]; rfl, Nat.zero_le _, r2, fun i x hx => by cases hx⟩
  · refine .inr ⟨blk, off, cap, by rw [r1], r2, r3, fun i x hx => ?_⟩
    obtain ⟨es, g1, g2, g3⟩ := r4 i x hx
    exact ⟨es, g1, fun j c hj => ⟨g2 j c hj, hc blk off cap r1 (fun e => by rw [e] at hx; cases hx) _⟩, RepC.mono hI (fun _ _ _ => rfl) g3⟩

/-- Where a list that stands in a box lies: in a block of the call's own. -/
theorem listOf_where (hm : MemOk B γ σ.mem w) {e : Ty} {v : Val} {l : List e.den} {blk off n cap : Nat} (hv : Rep γ σ.mem w v .val [.slice (some ⟨blk, off, none⟩) n cap]) (hl : listOf e σ v = some l) (hne : l ≠ []) :
    (∃ q, v = .data (.slice e) q) ∨ (B.has blk ∧ blk < w.heap.size) := by
  rcases listOf_inv hl with rfl | ⟨rfl, rfl⟩ | ⟨b, ver, bx, rfl, hb, hver, hbuf, hbv⟩ | ⟨b, ver, lo, n', bx, rfl, hb, hver, hl2⟩
  · exact .inl ⟨_, rfl⟩
  · exact absurd rfl hne
  · obtain ⟨e', k, g1, g2, g3⟩ := ofBox_live hb hver hv.2
    rcases g3 with ⟨g3, g4⟩ | ⟨blk', cap', g3, g4⟩
    · exfalso
      have hat := hm.boxes b bx hb
      obtain ⟨e3, l3, q1, q2, q3⟩ := hat.lst hbuf (fun _ q => by rw [hbv] at q; cases q)
      rw [hbv] at q1
      cases q1
      rcases q3 with ⟨_, q3⟩ | ⟨_, _, _, _, _, q3, _⟩
      · exact hne q3
      · rw [g3] at q3; cases q3
    · have q1 : blk = blk' := by
        have := List.head_eq_of_cons_eq g4
        injection this with q1 _ _
        injection q1 with q1
        injection q1
      subst q1
      exact .inr (hm.fresh b blk cap' (by rw [hb]; simp) g3)
  · obtain ⟨e', k, g2, g3, g4, g5, base, cap', g6, g7, g8, gF, g9⟩ := ofBox_live hb hver hv.2
    have g6' := List.head_eq_of_cons_eq g6
    rcases g9 with g9 | ⟨blk', c, g9, g10⟩
    · exfalso
      apply hne
      rcases hl2 with ⟨_, l0, _, rfl⟩ | ⟨_, k0, l0, _, rfl⟩ <;> simp [sub, g9]
    · injection g6' with q1 _ _
      rw [g10] at q1
      injection q1 with q1
      injection q1 with q1 _
      subst q1
      exact .inr (hm.fresh b blk c (by rw [hb]; simp) g9)

/-- Data that is lent to one that changes nothing. -/
theorem lend_cells (hm : MemOk B γ σ.mem w) {I' : Nat → Nat → Prop} (hI : ∀ b o, γ.I b o → I' b o) (hI' : ∀ b o, B.has b → b < w.heap.size → I' b o) : ∀ {v : Val} {t : Ty} {x : t.den} {cs : List Value},
    Rep γ σ.mem w v .cells cs → lend σ t v = some x → RepC w I' t x cs := by
  have sl : ∀ {v : Val} {e : Ty} {l : List e.den} {cs : List Value}, valSize v = 1 → (∀ c, Rep γ σ.mem w v .cells [c] → Rep γ σ.mem w v .val [c]) → (∀ t x, v ≠ .data t x) → Rep γ σ.mem w v .cells cs → listOf e σ v = some l → RepC w I' (.slice e) l cs := by
    intro v e l cs h1 hval hnd hc hl
    obtain ⟨c, rfl⟩ := single_cell hc h1
    have hv := hval c hc
    refine (listOf_row hm hv hl).lent hI fun blk off cap e0 hne o => ?_
    subst e0
    rcases listOf_where hm hv hl hne with ⟨q, hq⟩ | ⟨h2, h3⟩
    · exact absurd hq (hnd _ _)
    · exact hI' blk o h2 h3
  intro v
  induction v with
  | data u y =>
    intro t x cs hc hl
    have key : (∃ q : u = t, x = q ▸ y) := by
      cases t with
      | slice e =>
        rcases listOf_inv (show listOf e σ (.data u y) = some x from hl) with g | ⟨g, _⟩ | ⟨_, _, _, g, _⟩ | ⟨_, _, _, _, _, g, _⟩
        · injection g with g1 g2; subst g1; exact ⟨rfl, (eq_of_heq g2).symm⟩
        · cases g
        · cases g
        · cases g
      | _ => exact Ty.to_some hl
    obtain ⟨q, hq⟩ := key
    subst q; subst hq
    exact RepC.mono hI (fun _ _ _ => rfl) hc
  | mix p q ihp ihq =>
    intro t x cs hc hl
    cases t with
    | pair s r =>
      obtain ⟨c1, c2, rfl, h1, h2⟩ := hc
      obtain ⟨y, z, hp, hq, rfl⟩ := lend_mix hl
      exact ⟨c1, c2, rfl, ihp h1 hp, ihq h2 hq⟩
    | slice e => exact absurd hl (by intro k; cases k)
    | _ => cases hl
  | nils =>
    intro t x cs hc hl
    cases t with
    | slice e => exact sl (v := .nils) rfl (fun c k => k) (fun _ _ => by simp) hc hl
    | _ => cases hl
  | whole b ver =>
    intro t x cs hc hl
    cases t with
    | slice e => exact sl (v := .whole b ver) rfl (fun c k => k) (fun _ _ => by simp) hc hl
    | _ => cases hl
  | part b ver lo n =>
    intro t x cs hc hl
    cases t with
    | slice e => exact sl (v := .part b ver lo n) rfl (fun c k => k) (fun _ _ => by simp) hc hl
    | _ => cases hl
  | nili =>
    intro t x cs hc hl
    obtain rfl : cs = [.nilIface] := hc
    exact (lend_nili hl).1 _ _
  | _ =>
    intro t x cs hc hl
    cases t with
    | slice e => exact absurd hl (by intro k; cases k)
    | _ => cases hl

theorem lend_val (hm : MemOk B γ σ.mem w) {I' : Nat → Nat → Prop} (hI : ∀ b o, γ.I b o → I' b o) (hI' : ∀ b o, B.has b → b < w.heap.size → I' b o) {v : Val} {t : Ty} {x : t.den} {val : Value}
    (hv : Rep γ σ.mem w v .val [val]) (hl : lend σ t v = some x) : ∃ cs, RepC w I' t x cs ∧ val = ofCells t cs := by
  have one : ∀ {v : Val}, Rep γ σ.mem w v .cells [val] → (∃ e, t = .slice e) → lend σ t v = some x → ∃ cs, RepC w I' t x cs ∧ val = ofCells t cs := by
    intro v hc he hl
    obtain ⟨e, rfl⟩ := he
    exact ⟨[val], lend_cells hm hI hI' hc hl, rfl⟩
  cases v with
  | data u y =>
    obtain ⟨cs, h1, h2⟩ := repV_data.1 hv
    have hc := lend_cells hm hI hI' (v := .data u y) (cs := cs) h1 hl
    refine ⟨cs, hc, ?_⟩
    rw [h2]
    have : u.isAgg = t.isAgg := by
      cases t with
      | slice e =>
        rcases listOf_inv (show listOf e σ (.data u y) = some x from hl) with g | ⟨g, _⟩ | ⟨_, _, _, g, _⟩ | ⟨_, _, _, _, _, g, _⟩
        · injection g with g1 g2; rw [g1]
        · cases g
        · cases g
        · cases g
      | _ => obtain ⟨q, _⟩ := Ty.to_some hl; rw [q]
    unfold ofCells
    rw [this]
  | mix p q =>
    obtain ⟨c1, c2, e1, h1, h2⟩ := hv
    obtain rfl : val = _ := by simpa using e1
    have hc := lend_cells hm hI hI' (v := .mix p q) (cs := c1 ++ c2) ⟨c1, c2, rfl, h1, h2⟩ hl
    refine ⟨_, hc, ?_⟩
    cases t with
    | pair s r => rfl
    | slice e => exact absurd hl (by intro k; cases k)
    | _ => cases hl
  | nils => cases t with
    | slice e => exact one hv ⟨e, rfl⟩ hl
    | _ => cases hl
  | whole b ver => cases t with
    | slice e => exact one hv ⟨e, rfl⟩ hl
    | _ => cases hl
  | part b ver lo n => cases t with
    | slice e => exact one hv ⟨e, rfl⟩ hl
    | _ => cases hl
  | nili =>
    have hv : [val] = [Value.nilIface] := hv
    obtain rfl : val = .nilIface := by simpa using hv
    exact ⟨[.nilIface], (lend_nili hl).1 _ _, (lend_nili hl).2.2.1.symm⟩
  | _ => cases t with
    | slice e => exact absurd hl (by intro k; cases k)
    | _ => cases hl

/-- Values that stand for ghost values, one by one. -/
def RepL (γ : Gh) (mem : Nat → Option Box) (w : World) (vs : List Val) (xs : List Value) : Prop := xs.length = vs.length ∧ ∀ (i : Nat) v x, vs[i]? = some v → xs[i]? = some x → Rep γ mem w v .val [x]

theorem RepL.cons {mem : Nat → Option Box} {v : Val} {vs : List Val} {xs : List Value} (h : RepL γ mem w (v :: vs) xs) : ∃ x r, xs = x :: r ∧ Rep γ mem w v .val [x] ∧ RepL γ mem w vs r := by
  cases xs with
  | nil => cases h.1
  | cons x r => exact ⟨x, r, rfl, h.2 0 v x rfl rfl, by simpa using h.1, fun i v' x' h1 h2 => h.2 (i + 1) v' x' h1 h2⟩

theorem RepL.ext {mem mem' : Nat → Option Box} {γ' : Gh} {vs : List Val} {xs : List Value} (h : RepL γ mem w vs xs) (hx : Ext B γ mem w γ' mem' w') : RepL γ' mem' w' vs xs := ⟨h.1, fun i v x h1 h2 => (h.2 i v x h1 h2).ext hx⟩

theorem lendAll_sound (hm : MemOk B γ σ.mem w) {I' : Nat → Nat → Prop} (hI : ∀ b o, γ.I b o → I' b o) (hI' : ∀ b o, B.has b → b < w.heap.size → I' b o) : ∀ {A : Ty} {x : A.den} {vs : List Val} {xs : List Value},
    RepL γ σ.mem w vs xs → lendAll σ A vs = some x → ArgsRep w I' A x xs := by
  intro A
  induction A with
  | pair t r iht ihr =>
    intro x vs xs h hl
    cases vs with
    | nil => cases hl
    | cons v vs =>
      obtain ⟨y, rest, rfl, h1, h2⟩ := h.cons
      simp only [lendAll] at hl
      split at hl
      · rename_i p q hp hq
        obtain rfl := Option.some.inj hl
        obtain ⟨cs, c1, c2⟩ := lend_val hm hI hI' h1 hp
        exact ⟨cs, rest, by rw [c2], c1, ihr h2 hq⟩
      · cases hl
  | unit =>
    intro x vs xs h hl
    cases vs with
    | nil => exact List.length_eq_zero_iff.1 h.1
    | cons v vs => cases hl
  | _ => intro x vs xs h hl; cases vs <;> cases hl

theorem ArgsRep.mono {I I' : Nat → Nat → Prop} (hI : ∀ b o, I b o → I' b o) (hw : ∀ b o, I b o → w'.cell? ⟨b, o, none⟩ = w.cell? ⟨b, o, none⟩) : ∀ {A : Ty} {x : A.den} {xs : List Value}, ArgsRep w I A x xs → ArgsRep w' I' A x xs := by
  intro A
  induction A with
  | pair t r iht ihr => intro x xs h; obtain ⟨cs, rest, h0, h1, h2⟩ := h; exact ⟨cs, rest, h0, RepC.mono hI hw h1, ihr h2⟩
  | _ => intro x xs h; exact h

theorem giveAll_sound : ∀ {A : Ty} {x : A.den} {vs : List Val} {xs : List Value} {σ σ' : St} {γ : Gh}, Sim B N γ σ a w → RepL γ σ.mem w vs xs → giveAll σ A vs = some (x, σ') →
    ∃ γ', Sim B N γ' σ' a w ∧ Ext B γ σ.mem w γ' σ'.mem w ∧ ArgsRep w γ'.I A x xs := by
  intro A
  induction A with
  | pair t r iht ihr =>
    intro x vs xs σ σ' γ h hv hl
    cases vs with
    | nil => cases hl
    | cons v vs =>
      obtain ⟨y, rest, rfl, h1, h2⟩ := hv.cons
      simp only [giveAll] at hl
      split at hl
      · rename_i p σ1 hp
        split at hl
        · rename_i q σ2 hq
          obtain ⟨rfl, rfl⟩ := Prod.mk.inj (Option.some.inj hl)
          obtain ⟨γ1, s1, s2, cs, c1, c2⟩ := give_sound h h1 hp
          obtain c2 : y = _ := by simpa using c2
          obtain ⟨γ2, t1, t2, t3⟩ := ihr s1 (h2.ext s2) hq
          exact ⟨γ2, t1, s2.trans t2, cs, rest, by rw [c2], RepC.mono t2.I t2.cells c1, t3⟩
        · cases hl
      · cases hl
  | unit =>
    intro x vs xs σ σ' γ h hv hl
    cases vs with
    | nil => obtain ⟨rfl, rfl⟩ := Prod.mk.inj (Option.some.inj hl); exact ⟨γ, h, Ext.refl _ _ _ _, List.length_eq_zero_iff.1 hv.1⟩
    | cons v vs => cases hl
  | _ => intro x vs xs σ σ' γ h hv hl; cases vs <;> cases hl

/-! ### Functions some of whose parameters are pointers -/

/-- A list of one's own, whole in a block (or not there yet). -/
def BufAt (w : World) (I : Nat → Nat → Prop) (e : Ty) (eid : Nat) (l : List e.den) (L : Option (Nat × Nat)) (v : Value) : Prop :=
  0 < e.size ∧ ((L = none ∧ l = [] ∧ v = .slice none 0 0) ∨ ∃ blk cap cur tid fr, L = some (blk, cap) ∧ v = .slice (some ⟨blk, 0, none⟩) l.length cap ∧ w.heap[blk]? = some (.cells cur tid fr) ∧ ThB e cur fr ∧ (eid = 0 ∨ tid = eid) ∧
    l.length ≤ cap ∧ cap ≤ maxLen ∧ cur.size = cap * e.size ∧ (∀ o, ¬ I blk o) ∧ ∀ (i : Nat) (x : e.den), l[i]? = some x → RepC w I e x ((cur.toList.drop (i * e.size)).take e.size))

/-- A map of one's own (or not there yet). -/
def MapBufAt (w : World) (I : Nat → Nat → Prop) (l : List (Int × Int × Unit)) (L : Option (Nat × Nat)) (v : Value) : Prop :=
  (L = none ∧ l = [] ∧ v = .map none) ∨ ∃ blk cap o, L = some (blk, cap) ∧ v = .map (some blk) ∧ w.heap[blk]? = some o ∧ MapIs o l ∧ ∀ o, ¬ I blk o

/-- What a pointer leads to, in memory: the cells, the blocks of variables, and where the lists lie. -/
def ObjAt (w : World) (I : Nat → Nat → Prop) : (o : OT) → o.den → List Value → List Nat → List (Option (Nat × Nat)) → Prop
  | .dat t, x, cs, bs, ls => RepC w I t x cs ∧ bs = [] ∧ ls = []
  | .buf e eid, l, cs, bs, ls => ∃ L v, cs = [v] ∧ bs = [] ∧ ls = [L] ∧ BufAt w I e eid l L v
  | .map, l, cs, bs, ls => ∃ L v, cs = [v] ∧ bs = [] ∧ ls = [L] ∧ MapBufAt w I l L v
  | .ref tid o, u, cs, bs, ls => ∃ blk r, cs = [.pointer (some ⟨blk, 0, none⟩)] ∧ bs = blk :: r ∧ (∀ off, ¬ I blk off) ∧ ∃ cur t' fr, w.heap[blk]? = some (.cells cur t' fr) ∧ Thawed cur fr ∧ (tid = 0 ∨ t' = tid) ∧ ObjAt w I o u cur.toList r ls
  | .rf tid o, u, cs, bs, ls => ∃ blk k r, cs = [.pointer (some ⟨blk, 0, none⟩)] ∧ ls = some (blk, k) :: r ∧ (∀ off, ¬ I blk off) ∧ ∃ cur t' fr, w.heap[blk]? = some (.cells cur t' fr) ∧ Thawed cur fr ∧ (tid = 0 ∨ t' = tid) ∧ ObjAt w I o u cur.toList bs r
  | .pair p q, u, cs, bs, ls => ∃ c1 c2 b1 b2 l1 l2, cs = c1 ++ c2 ∧ bs = b1 ++ b2 ∧ ls = l1 ++ l2 ∧ ObjAt w I p u.1 c1 b1 l1 ∧ ObjAt w I q u.2 c2 b2 l2
  | .unit, _, cs, bs, ls => cs = [] ∧ bs = [] ∧ ls = []
  | .nilp, _, cs, bs, ls => cs = [.pointer none] ∧ bs = [] ∧ ls = []

/-- All blocks. -/
def blksOf (bs : List Nat) (ls : List (Option (Nat × Nat))) : List Nat := bs ++ ls.filterMap fun L => L.map (·.1)

/-- Arguments: data, and pointers. -/
def RArgs (w : World) (I : Nat → Nat → Prop) : List Bool → (A : Ty) → (U : OT) → A.den → List Value → List Value → Prop
  | [], A, U, _, vs, ptrs => A = .unit ∧ U = .unit ∧ vs = [] ∧ ptrs = []
  | false :: ps, A, U, x, vs, ptrs => match A, x with
    | .pair t A, x => ∃ cs rest, vs = ofCells t cs :: rest ∧ RepC w I t x.1 cs ∧ RArgs w I ps A U x.2 rest ptrs
    | _, _ => False
  | true :: ps, A, U, x, vs, ptrs => match U with
    | .pair (.ref _ _) U => ∃ v rest r, vs = v :: rest ∧ ptrs = v :: r ∧ RArgs w I ps A U x rest r
    | .pair .nilp U => ∃ v rest r, vs = v :: rest ∧ ptrs = v :: r ∧ RArgs w I ps A U x rest r
    | _ => False

/-- A function (repeat' (first | exact KeepT.fail | exact KeepT.ret (Keep.putO _ _ _) | exact KeepT.ret (Keep.put _ _ _) | exact KeepT.newBox | refine KeepT.bif ?_ | refine KeepT.need ?_ | refine KeepT.look fun _ => ?_ | refine KeepT.node ?_ ?_ | refine KeepT.bind fun _ _ => ?_ | split)) such a contract. -/
structure RHolds (P : Program) (G : Globs) (f : Nat) (c : RCon) : Prop where
  body : ∃ fn code, P.funcs[f]? = some fn ∧ (fn.name == "runtime.NumGoroutine") = false ∧ fn.body = some code
  calls : ∀ (I : Nat → Nat → Prop) (w : World) (args : Array Value) (ptrs : List Value) (bs : List Nat) (ls : List (Option (Nat × Nat))) (x : c.A.den) (u : c.U.den) (y : c.R.den × c.U.den), (∀ b o, I b o → b < w.heap.size) → GlobOk G w → (∀ b Q, G b Q → b ∉ blksOf bs ls) →
    RArgs w I c.ps c.A c.U x args.toList ptrs → ObjAt w I c.U u ptrs bs ls → (blksOf bs ls).Nodup → c.spec (x, u) = some y →
    Calls P f args w fun e w' => ∃ v I' ls', e = .returned v ∧ Blw ⟨w.heap.size, (· ∈ blksOf bs ls), G⟩ w w' ∧ (∀ b o, I b o → I' b o) ∧ (∀ b o, I' b o → b < w'.heap.size) ∧ (∀ b o, I' b o → ¬ I b o → w.heap.size ≤ b ∨ b ∈ blksOf bs ls) ∧ ResRep w' I' c.R y.1 v ∧
      ObjAt w' I' c.U y.2 ptrs bs ls' ∧ (blksOf bs ls').Nodup ∧ ∀ blk ∈ blksOf [] ls', blk ∈ blksOf bs ls ∨ w.heap.size ≤ blk

/-- What a text made of a builder's bytes leaves of memory: nothing is changed but that the bytes' block (if there is one) may not be written to any more. -/
structure Iced (og : Option Nat) (w w' : World) : Prop where
  os : w'.os = w.os
  tape : w'.tape = w.tape
  output : w'.output = w.output
  size : w.heap.size ≤ w'.heap.size
  block : ∀ k, k < w.heap.size → og ≠ some k → w'.heap[k]? = w.heap[k]?
  cell : ∀ k o, k < w.heap.size → w'.cell? ⟨k, o, none⟩ = w.cell? ⟨k, o, none⟩

/-- A list of one's own, as a slice's value and memory tell it; where it lies. -/
def OwnAt (w : World) (I : Nat → Nat → Prop) (e : Ty) (l : List e.den) (L : Option (Nat × Nat)) (v : Value) : Prop :=
  (L = none ∧ l = [] ∧ v = .slice none 0 0) ∨ ∃ blk cap cur tid fr, L = some (blk, cap) ∧ v = .slice (some ⟨blk, 0, none⟩) l.length cap ∧ w.heap[blk]? = some (.cells cur tid fr) ∧ ThB e cur fr ∧
    l.length ≤ cap ∧ cap ≤ maxLen ∧ cur.size = cap * e.size ∧ (∀ o, ¬ I blk o) ∧ ∀ (i : Nat) (x : e.den), l[i]? = some x → RepC w I e x ((cur.toList.drop (i * e.size)).take e.size)

/-- What goes on of memory where a call changes some blocks. -/
structure OwnEnd (w : World) (I : Nat → Nat → Prop) (X : Nat → Prop) (w' : World) (I' : Nat → Nat → Prop) : Prop where
  below : Blw ⟨w.heap.size, X, noGlobs⟩ w w'
  held : ∀ b o, I b o → I' b o
  imm : ∀ b o, I' b o → b < w'.heap.size
  anew : ∀ b o, I' b o → ¬ I b o → w.heap.size ≤ b

/-- Arguments some of which are pointers to what is looked at alone. -/
def PArgs (w : World) (I : Nat → Nat → Prop) : List Bool → (A : Ty) → A.den → List Value → Prop
  | p :: ps, .pair t r, x, vs => ∃ cs v rest, vs = v :: rest ∧ RepC w I t x.1 cs ∧ PArgs w I ps r x.2 rest ∧ match p with
    | false => v = ofCells t cs
    | true => ∃ blk off, v = .pointer (some ⟨blk, off, none⟩) ∧ CellsAt w I blk off cs
  | [], .unit, _, vs => vs = []
  | _, _, _, _ => False

/-- A function that is taken as a whole does what is told of it. -/
def SpcOk (P : Program) (f : Nat) : Spc → Prop
  | .chk T => (∃ fn code, P.funcs[f]? = some fn ∧ (fn.name == "runtime.NumGoroutine") = false ∧ fn.body = some code) ∧
      ∀ (w : World) (b : Nat) (p v : Value) (fr : Nat × Nat), w.heap[b]? = some (.cells #[p, v] T fr) → ¬ (fr.1 ≤ 0 ∧ 0 < fr.2) → (p = .pointer none ∨ p = .pointer (some ⟨b, 0, none⟩)) →
        Calls P f #[.pointer (some ⟨b, 0, none⟩)] w fun e w' => e = .returned (.tuple #[]) ∧ (w' = w ∨ w' = w.setRow b #[.pointer (some ⟨b, 0, none⟩), v])
  | .str T E => (∃ fn code, P.funcs[f]? = some fn ∧ (fn.name == "runtime.NumGoroutine") = false ∧ fn.body = some code) ∧
      ∀ (w : World) (b : Nat) (p v : Value) (fr : Nat × Nat) (l : List UInt8) (og : Option Nat), w.heap[b]? = some (.cells #[p, v] T fr) →
        ((og = none ∧ v = .slice none 0 0 ∧ l = []) ∨ ∃ (g cap : Nat) (cur : Array Value) (fr' : Nat × Nat), og = some g ∧ v = .slice (some ⟨g, 0, none⟩) l.length cap ∧ w.heap[g]? = some (.cells cur E fr') ∧ l.length ≤ cap ∧ cap ≤ maxLen ∧ cur.size = cap ∧ ∀ (j : Nat) (x : UInt8), l[j]? = some x → cur[j]? = some (Value.int .u8 x.toNat)) →
        Calls P f #[.pointer (some ⟨b, 0, none⟩)] w fun e w' => e = .returned (.string ⟨l.toArray⟩) ∧ Iced og w w'
  | .clone e => (∃ fn code, P.funcs[f]? = some fn ∧ (fn.name == "runtime.NumGoroutine") = false ∧ fn.body = some code) ∧
      ∀ (I : Nat → Nat → Prop) (w : World) (args : Array Value) (l : List e.den), (∀ b o, I b o → b < w.heap.size) → ArgsRep w I (.pair (.slice e) .unit) (l, ()) args.toList → fits (len l) = true →
        Calls P f args w fun q w' => ∃ v I' L, q = .returned v ∧ OwnEnd w I (fun _ => False) w' I' ∧ OwnAt w' I' e l L v ∧ ∀ blk c, L = some (blk, c) → w.heap.size ≤ blk
  | .own e A res spec => (∃ fn code, P.funcs[f]? = some fn ∧ (fn.name == "runtime.NumGoroutine") = false ∧ fn.body = some code) ∧
      ∀ (I : Nat → Nat → Prop) (w : World) (args : Array Value) (v : Value) (rest : List Value) (l l' : List e.den) (L : Option (Nat × Nat)) (x : A.den), (∀ b o, I b o → b < w.heap.size) → args.toList = v :: rest → OwnAt w I e l L v → ArgsRep w I A x rest → spec l x = some l' →
        Calls P f args w fun q w' => ∃ I', OwnEnd w I (fun k => ∃ c, L = some (k, c)) w' I' ∧
          match res with
          | true => ∃ v' L', q = .returned v' ∧ OwnAt w' I' e l' L' v' ∧ ∀ blk c, L' = some (blk, c) → (∃ c, L = some (blk, c)) ∨ w.heap.size ≤ blk
          | false => q = .returned (.tuple #[]) ∧ l'.length = l.length ∧ OwnAt w' I' e l' L v
  | .maker g => (∃ fn code, P.funcs[f]? = some fn ∧ (fn.name == "runtime.NumGoroutine") = false ∧ fn.body = some code) ∧
      ∃ T, ∀ (w : World) (v : Value), Calls P f #[v] w fun q w' => q = .returned (.func (.func g) #[] #[.pointer (some ⟨w.heap.size, 0, none⟩)]) ∧ w' = w.alloc (.cells v.cells T)
  | .tcl T => (∃ fn code, P.funcs[f]? = some fn ∧ (fn.name == "runtime.NumGoroutine") = false ∧ fn.body = some code) ∧
      ∀ (w : World) (b : Nat) (mv : Value) (n : Int) (fr : Nat × Nat), w.heap[b]? = some (.cells #[mv, .int .i64 n] T fr) → (mv = .map none ∨ ∃ m o l, mv = .map (some m) ∧ w.heap[m]? = some o ∧ MapIs o l) →
        Calls P f #[.pointer (some ⟨b, 0, none⟩)] w fun q w' => ∃ w1 mv', q = .returned (.pointer (some ⟨w1.heap.size, 0, none⟩)) ∧ w' = w1.alloc (.cells #[mv', .int .i64 n] T) ∧ RowKit.Below w.heap.size w w1 ∧
          ((mv = .map none ∧ mv' = .map none) ∨ ∃ m o m' o', mv = .map (some m) ∧ w.heap[m]? = some o ∧ mv' = .map (some m') ∧ w.heap.size ≤ m' ∧ w1.heap[m']? = some o' ∧ ∀ l, MapIs o l → MapIs o' l)
  | .look ps A R spec => (∃ fn code, P.funcs[f]? = some fn ∧ (fn.name == "runtime.NumGoroutine") = false ∧ fn.body = some code) ∧ R.flat = true ∧
      ∀ (I : Nat → Nat → Prop) (w : World) (args : Array Value) (x : A.den) (y : R.den), (∀ b o, I b o → b < w.heap.size) → PArgs w I ps A x args.toList → spec x = some y →
        Calls P f args w fun q w' => ∃ v I', q = .returned v ∧ RowKit.Below w.heap.size w w' ∧ ResRep w' I' R y v

/-- All contracts are kept. -/
structure ConOk (P : Program) (G : Globs) (cx : Ctx) : Prop where
  con : ∀ f c, find cx.con f = some c → Holds P G f c
  rcon : ∀ f c, find cx.rcon f = some c → RHolds P G (f / 2) c
  spc : ∀ f s, find cx.spc f = some s → SpcOk P f s
  inv : ∀ name c, findS cx.inv name = some c → IHolds P G name c

theorem memN_iff {l : List Nat} {t : Nat} : memN l t = true ↔ t ∈ l := by
  induction l with
  | nil => simp [memN]
  | cons i r ih =>
    simp only [memN, Bool.or_eq_true, List.mem_cons, ih]
    constructor
    · rintro (h | h)
      · exact .inl (Nat.eq_of_beq_eq_true h)
      · exact .inr h
    · rintro (h | h)
      · subst h; exact .inl (by simp)
      · exact .inr h

theorem noDup_iff {l : List Nat} : noDup l = true ↔ l.Nodup := by
  induction l with
  | nil => simp [noDup]
  | cons b r ih =>
    simp only [noDup, Bool.and_eq_true, Bool.not_eq_true', List.nodup_cons, ih]
    constructor
    · rintro ⟨h, k⟩; exact ⟨fun q => (by rw [memN_iff.2 q] at h; cases h), k⟩
    · rintro ⟨h, k⟩
      refine ⟨?_, k⟩
      cases hq : memN r b with
      | false => rfl
      | true => exact absurd (memN_iff.1 hq) h

theorem ObjAt.len {w : World} {I : Nat → Nat → Prop} : ∀ {o : OT} {u : o.den} {cs : List Value} {bs : List Nat} {ls : List (Option (Nat × Nat))}, ObjAt w I o u cs bs ls → bs.length = o.nr ∧ ls.length = o.nb := by
  intro o
  induction o with
  | dat t => intro u cs bs ls h; rw [h.2.1, h.2.2]; exact ⟨rfl, rfl⟩
  | buf e eid => intro u cs bs ls h; obtain ⟨L, v, _, rfl, rfl, _⟩ := h; exact ⟨rfl, rfl⟩
  | map => intro u cs bs ls h; obtain ⟨L, v, _, rfl, rfl, _⟩ := h; exact ⟨rfl, rfl⟩
  | ref tid o ih =>
    intro u cs bs ls h
    obtain ⟨blk, r, _, rfl, _, cur, t', fr, _, _, _, h1⟩ := h
    have := ih h1
    exact ⟨by simp [OT.nr, this.1], this.2⟩
  | rf tid o ih =>
    intro u cs bs ls h
    obtain ⟨blk, k, r, _, rfl, _, cur, t', fr, _, _, _, h1⟩ := h
    have := ih h1
    exact ⟨this.1, by simp [OT.nb, this.2]⟩
  | pair p q ihp ihq =>
    intro u cs bs ls h
    obtain ⟨c1, c2, b1, b2, l1, l2, _, rfl, rfl, h1, h2⟩ := h
    have := ihp h1
    have := ihq h2
    simp_all [OT.nr, OT.nb]
  | unit => intro u cs bs ls h; rw [h.2.1, h.2.2]; exact ⟨rfl, rfl⟩
  | nilp => intro u cs bs ls h; rw [h.2.1, h.2.2]; exact ⟨rfl, rfl⟩

/-- The variables of such a thing are in memory. -/
def InMem (mem : Nat → Option Box) : (o : OT) → o.den → List (Nat × Nat) → List (Nat × Nat) → Prop
  | .dat _, _, _, _ => True
  | .buf e eid, l, _, M => ∃ b v r, M = (b, v) :: r ∧ mem b = some { val := .data (.slice e) l, tid := eid, buf := true, ro := false, lk := false, ver := v }
  | .map, l, _, M => ∃ b v r, M = (b, v) :: r ∧ mem b = some { val := .mapv l, tid := 0, buf := true, ro := false, lk := false, ver := v }
  | .ref tid o, u, N, M => ∃ b v r, N = (b, v) :: r ∧ mem b = some { val := conV o u r M, tid, buf := false, ro := false, lk := false, ver := v } ∧ InMem mem o u r M
  | .rf tid o, u, N, M => ∃ b v r, M = (b, v) :: r ∧ mem b = some { val := conV o u N r, tid, buf := false, ro := false, lk := false, ver := v } ∧ InMem mem o u N r
  | .pair p q, u, N, M => InMem mem p u.1 (N.take p.nr) (M.take p.nb) ∧ InMem mem q u.2 (N.drop p.nr) (M.drop p.nb)
  | .unit, _, _, _ => True
  | .nilp, _, _, _ => True

theorem conM_names : ∀ {o : OT} {u : o.den} {N M : List (Nat × Nat)} {c : Nat} {bx : Box}, conM o u N M c = some bx → c ∈ namesOf N M := by
  intro o
  induction o with
  | dat t => intro u N M c bx h; cases h
  | buf e eid =>
    intro u N M c bx h
    cases M with
    | nil => cases h
    | cons p r =>
      unfold conM at h
      cases hb : Nat.beq c p.1 with
      | true => rw [Nat.eq_of_beq_eq_true hb]; simp [namesOf]
      | false => dsimp only at h; rw [hb] at h; cases h
  | map =>
    intro u N M c bx h
    cases M with
    | nil => cases h
    | cons p r =>
      unfold conM at h
      cases hb : Nat.beq c p.1 with
      | true => rw [Nat.eq_of_beq_eq_true hb]; simp [namesOf]
      | false => dsimp only at h; rw [hb] at h; cases h
  | ref tid o ih =>
    intro u N M c bx h
    cases N with
    | nil => cases h
    | cons p r =>
      unfold conM at h
      cases hb : Nat.beq c p.1 with
      | true => rw [Nat.eq_of_beq_eq_true hb]; simp [namesOf]
      | false =>
        dsimp only at h
        rw [hb] at h
        have := ih h
        unfold namesOf at this ⊢
        simp only [List.map_cons, List.cons_append, List.mem_cons]
        exact .inr this
  | rf tid o ih =>
    intro u N M c bx h
    cases M with
    | nil => cases h
    | cons p r =>
      unfold conM at h
      cases hb : Nat.beq c p.1 with
      | true => rw [Nat.eq_of_beq_eq_true hb]; simp [namesOf]
      | false =>
        dsimp only at h
        rw [hb] at h
        have := ih h
        unfold namesOf at this ⊢
        simp only [List.map_cons, List.mem_append, List.mem_cons] at this ⊢
        rcases this with q | q
        · exact .inl q
        · exact .inr (.inr q)
  | pair p q ihp ihq =>
    intro u N M c bx h
    unfold conM at h
    have hs : ∀ {n m : Nat}, (c ∈ namesOf (N.take n) (M.take m) → c ∈ namesOf N M) ∧ (c ∈ namesOf (N.drop n) (M.drop m) → c ∈ namesOf N M) := by
      intro n m
      unfold namesOf
      simp only [List.mem_append, List.mem_map]
      constructor
      · rintro (⟨a, ha, rfl⟩ | ⟨a, ha, rfl⟩)
        · exact .inl ⟨a, List.mem_of_mem_take ha, rfl⟩
        · exact .inr ⟨a, List.mem_of_mem_take ha, rfl⟩
      · rintro (⟨a, ha, rfl⟩ | ⟨a, ha, rfl⟩)
        · exact .inl ⟨a, List.mem_of_mem_drop ha, rfl⟩
        · exact .inr ⟨a, List.mem_of_mem_drop ha, rfl⟩
    split at h
    · rename_i x hx
      exact hs.1 (ihp hx)
    · exact hs.2 (ihq h)
  | unit => intro u N M c bx h; cases h
  | nilp => intro u N M c bx h; cases h

theorem toD_cells {mem : Nat → Option Box} {t : Ty} {v : Val} {x : t.den} {val : Value} (hv : Rep γ mem w v .val [val]) (h : toD t v = some x) : ∃ cs, RepC w γ.I t x cs ∧ val = ofCells t cs := by
  unfold toD at h
  split at h
  · rename_i u y
    obtain ⟨q, hq⟩ := Ty.to_some h
    subst q; subst hq
    exact repV_data.1 hv
  · split at h
    · rename_i e
      obtain rfl := Option.some.inj h
      obtain rfl : val = _ := by simpa [Rep] using hv
      exact ⟨[.slice none 0 0], .inl ⟨⟨none, rfl⟩, rfl⟩, rfl⟩
    · cases h
  · cases h

theorem toS_data {t : Ty} {v : Val} {x : t.den} (h : toS t v = some x) : v = .data t x := by
  unfold toS at h
  split at h
  · obtain ⟨q, hq⟩ := Ty.to_some h
    subst q; subst hq; rfl
  · cases h

theorem inMem_of {mem : Nat → Option Box} : ∀ {o : OT} {u : o.den} {N M : List (Nat × Nat)}, N.length = o.nr → M.length = o.nb → (namesOf N M).Nodup → (∀ c bx, conM o u N M c = some bx → mem c = some bx) → InMem mem o u N M := by
  intro o
  induction o with
  | dat t => intro u N M _ _ _ _; trivial
  | buf e eid =>
    intro u N M _ hM _ h
    cases M with
    | nil => cases hM
    | cons p r => exact ⟨p.1, p.2, r, rfl, h p.1 _ (by unfold conM; dsimp only; rw [Nat.beq_refl]; rfl)⟩
  | map =>
    intro u N M _ hM _ h
    cases M with
    | nil => cases hM
    | cons p r => exact ⟨p.1, p.2, r, rfl, h p.1 _ (by unfold conM; dsimp only; rw [Nat.beq_refl]; rfl)⟩
  | ref tid o ih =>
    intro u N M hN hM hd h
    cases N with
    | nil => cases hN
    | cons p r =>
      refine ⟨p.1, p.2, r, rfl, h p.1 _ (by unfold conM; dsimp only; rw [Nat.beq_refl]; rfl), ih (by simpa [OT.nr] using hN) hM ?_ fun c bx hc => ?_⟩
      · unfold namesOf at hd ⊢
        simp only [List.map_cons, List.cons_append, List.nodup_cons] at hd
        exact hd.2
      · refine h c bx ?_
        have hne : Nat.beq c p.1 = false := by
          cases hq : Nat.beq c p.1 with
          | false => rfl
          | true =>
            have hm := conM_names hc
            rw [Nat.eq_of_beq_eq_true hq] at hm
            unfold namesOf at hd hm
            simp only [List.map_cons, List.cons_append, List.nodup_cons] at hd
            exact absurd hm hd.1
        unfold conM
        dsimp only
        rw [hne]
        exact hc
  | rf tid o ih =>
    intro u N M hN hM hd h
    cases M with
    | nil => cases hM
    | cons p r =>
      have hd2 : p.1 ∉ namesOf N r ∧ (namesOf N r).Nodup := by
        unfold namesOf at hd ⊢
        simp only [List.map_cons] at hd
        rw [List.nodup_append] at hd
        obtain ⟨d1, d2, d3⟩ := hd
        rw [List.nodup_cons] at d2
        refine ⟨fun q => ?_, List.nodup_append.2 ⟨d1, d2.2, fun x hx y hy => d3 x hx y (List.mem_cons_of_mem _ hy)⟩⟩
        rcases List.mem_append.1 q with q | q
        · exact d3 p.1 q p.1 (List.mem_cons_self ..) rfl
        · exact d2.1 q
      refine ⟨p.1, p.2, r, rfl, h p.1 _ (by unfold conM; dsimp only; rw [Nat.beq_refl]; rfl), ih hN (by simpa [OT.nb] using hM) hd2.2 fun c bx hc => ?_⟩
      refine h c bx ?_
      have hne : Nat.beq c p.1 = false := by
        cases hq : Nat.beq c p.1 with
        | false => rfl
        | true =>
          have hm := conM_names hc
          rw [Nat.eq_of_beq_eq_true hq] at hm
          exact absurd hm hd2.1
      unfold conM
      dsimp only
      rw [hne]
      exact hc
  | pair p q ihp ihq =>
    intro u N M hN hM hd h
    have e1 : N.take p.nr ++ N.drop p.nr = N := List.take_append_drop ..
    have e2 : M.take p.nb ++ M.drop p.nb = M := List.take_append_drop ..
    simp only [OT.nr, OT.nb] at hN hM
    have hd' : ((N.take p.nr).map (·.1) ++ (N.drop p.nr).map (·.1) ++ ((M.take p.nb).map (·.1) ++ (M.drop p.nb).map (·.1))).Nodup := by
      rw [← List.map_append, ← List.map_append, e1, e2]; exact hd
    have d1 : (namesOf (N.take p.nr) (M.take p.nb)).Nodup := by
      unfold namesOf
      refine hd'.sublist ?_
      exact List.Sublist.append (List.sublist_append_left _ _) (List.sublist_append_left _ _)
    have d2 : (namesOf (N.drop p.nr) (M.drop p.nb)).Nodup := by
      unfold namesOf
      refine hd'.sublist ?_
      exact List.Sublist.append (List.sublist_append_right _ _) (List.sublist_append_right _ _)
    have hdis : ∀ c, c ∈ namesOf (N.take p.nr) (M.take p.nb) → c ∉ namesOf (N.drop p.nr) (M.drop p.nb) := by
      intro c h1 h2
      unfold namesOf at h1 h2
      rw [List.nodup_append] at hd'
      obtain ⟨x1, x2, x3⟩ := hd'
      rw [List.nodup_append] at x1 x2
      rcases List.mem_append.1 h1 with a | a <;> rcases List.mem_append.1 h2 with b | b
      · exact x1.2.2 c a c b rfl
      · exact x3 c (List.mem_append_left _ a) c (List.mem_append_right _ b) rfl
      · exact x3 c (List.mem_append_right _ b) c (List.mem_append_left _ a) rfl
      · exact x2.2.2 c a c b rfl
    refine ⟨ihp (by rw [List.length_take]; omega) (by rw [List.length_take]; omega) d1 fun c bx hc => h c bx ?_, ihq (by rw [List.length_drop]; omega) (by rw [List.length_drop]; omega) d2 fun c bx hc => h c bx ?_⟩
    · show (match conM p u.1 (N.take p.nr) (M.take p.nb) c with | some x => some x | none => _) = some bx
      rw [hc]
    · show (match conM p u.1 (N.take p.nr) (M.take p.nb) c with | some x => some x | none => conM q u.2 (N.drop p.nr) (M.drop p.nb) c) = some bx
      cases hq : conM p u.1 (N.take p.nr) (M.take p.nb) c with
      | none => exact hc
      | some x => exact absurd (conM_names hc) (hdis c (conM_names hq))
  | unit => intro u N M _ _ _ _; trivial
  | nilp => intro u N M _ _ _ _; trivial

/-- Which blocks the names stand for. -/
def NameBs (γ : Gh) (N : List (Nat × Nat)) (bs : List Nat) : Prop := N.map (fun p => (γ.loc p.1).map (·.1)) = bs.map some
def NameLs (γ : Gh) (M : List (Nat × Nat)) (ls : List (Option (Nat × Nat))) : Prop := M.map (fun p => γ.loc p.1) = ls

theorem NameBs.split {N : List (Nat × Nat)} {b1 b2 : List Nat} {n : Nat} (h : NameBs γ N (b1 ++ b2)) (hn : b1.length = n) : NameBs γ (N.take n) b1 ∧ NameBs γ (N.drop n) b2 := by
  unfold NameBs at h ⊢
  rw [List.map_take, List.map_drop, h, List.map_append, List.take_left' (by simp [hn]), List.drop_left' (by simp [hn])]
  exact ⟨rfl, rfl⟩
theorem NameLs.split {M : List (Nat × Nat)} {l1 l2 : List (Option (Nat × Nat))} {n : Nat} (h : NameLs γ M (l1 ++ l2)) (hn : l1.length = n) : NameLs γ (M.take n) l1 ∧ NameLs γ (M.drop n) l2 := by
  unfold NameLs at h ⊢
  rw [List.map_take, List.map_drop, h, List.take_left' hn, List.drop_left' hn]
  exact ⟨rfl, rfl⟩

theorem BufAt.rep {mem : Nat → Option Box} {e : Ty} {eid : Nat} {l : List e.den} {L : Option (Nat × Nat)} {v : Value} {b ver : Nat} {bx : Box} (h : BufAt w γ.I e eid l L v)
    (hloc : γ.loc b = L) (hb : mem b = some bx) (hver : bx.ver = ver) (hbuf : bx.buf = true) (hval : bx.val = .data (.slice e) l) : Rep γ mem w (.whole b ver) .cells [v] := by
  rcases h.2 with ⟨q1, q2, q3⟩ | ⟨blk', cap, cur, tid, fr, q1, q2, q3, q4, q5, q6, q7, q8, q9⟩
  · exact ⟨⟨v, rfl, by rw [q3]; rfl⟩, ofBox_new hb hver ⟨e, l.length, hbuf, Box.row_buf hbuf hval, .inl ⟨by rw [← q1]; exact hloc, by rw [q3]⟩⟩⟩
  · exact ⟨⟨v, rfl, by rw [q2]; rfl⟩, ofBox_new hb hver ⟨e, l.length, hbuf, Box.row_buf hbuf hval, .inr ⟨blk', cap, by rw [← q1]; exact hloc, by rw [q2]⟩⟩⟩

theorem MapBufAt.rep {mem : Nat → Option Box} {l : List (Int × Int × Unit)} {L : Option (Nat × Nat)} {v : Value} {b ver : Nat} {bx : Box} (h : MapBufAt w γ.I l L v)
    (hloc : γ.loc b = L) (hb : mem b = some bx) (hver : bx.ver = ver) (hbuf : bx.buf = true) : Rep γ mem w (.mref b ver) .cells [v] := by
  rcases h with ⟨q1, q2, q3⟩ | ⟨blk', cap, o, q1, q2, q3, q4, q5⟩
  · exact ⟨⟨v, rfl, by rw [q3]; rfl⟩, ofBox_new hb hver ⟨hbuf, .inl ⟨by rw [← q1]; exact hloc, by rw [q3]⟩⟩⟩
  · exact ⟨⟨v, rfl, by rw [q2]; rfl⟩, ofBox_new hb hver ⟨hbuf, .inr ⟨blk', cap, by rw [← q1]; exact hloc, by rw [q2]⟩⟩⟩

/-- What is in memory as it is told stands for the ghost values and variables. -/
theorem obj_rep {mem : Nat → Option Box} : ∀ {o : OT} {u : o.den} {cs : List Value} {bs : List Nat} {ls : List (Option (Nat × Nat))} {N M : List (Nat × Nat)}, ObjAt w γ.I o u cs bs ls → NameBs γ N bs → NameLs γ M ls → InMem mem o u N M →
    Rep γ mem w (conV o u N M) .cells cs := by
  intro o
  induction o with
  | dat t => intro u cs bs ls N M h _ _ _; exact h.1
  | buf e eid =>
    intro u cs bs ls N M h hN hM hm
    obtain ⟨L, v, rfl, rfl, rfl, h1⟩ := h
    obtain ⟨b, vr, r, rfl, hb⟩ := hm
    unfold NameLs at hM
    simp only [List.map_cons, List.cons.injEq] at hM
    exact h1.rep hM.1 hb rfl rfl rfl
  | map =>
    intro u cs bs ls N M h hN hM hm
    obtain ⟨L, v, rfl, rfl, rfl, h1⟩ := h
    obtain ⟨b, vr, r, rfl, hb⟩ := hm
    unfold NameLs at hM
    simp only [List.map_cons, List.cons.injEq] at hM
    exact h1.rep hM.1 hb rfl rfl
  | ref tid o ih =>
    intro u cs bs ls N M h hN hM hm
    obtain ⟨blk, r, rfl, rfl, _, cur, t', fr, _, _, _, h1⟩ := h
    obtain ⟨b, vr, r', rfl, hb, _⟩ := hm
    unfold NameBs at hN
    simp only [List.map_cons, List.cons.injEq] at hN
    obtain ⟨q, hq, he⟩ := Option.map_eq_some_iff.1 hN.1
    refine ⟨⟨_, rfl, rfl⟩, ofBox_new hb rfl ⟨blk, q.2, ?_, rfl⟩⟩
    rw [hq, ← he]
  | rf tid o ih =>
    intro u cs bs ls N M h hN hM hm
    obtain ⟨blk, k, r, rfl, rfl, _, cur, t', fr, _, _, _, h1⟩ := h
    obtain ⟨b, vr, r', rfl, hb, _⟩ := hm
    unfold NameLs at hM
    simp only [List.map_cons, List.cons.injEq] at hM
    exact ⟨⟨_, rfl, rfl⟩, ofBox_new hb rfl ⟨blk, k, hM.1, rfl⟩⟩
  | pair p q ihp ihq =>
    intro u cs bs ls N M h hN hM hm
    obtain ⟨c1, c2, b1, b2, l1, l2, rfl, rfl, rfl, h1, h2⟩ := h
    obtain ⟨n1, n2⟩ := hN.split h1.len.1
    obtain ⟨m1, m2⟩ := hM.split h1.len.2
    exact ⟨c1, c2, rfl, ihp h1 n1 m1 hm.1, ihq h2 n2 m2 hm.2⟩
  | unit => intro u cs bs ls N M h _ _ _; rw [h.1]; exact rfl
  | nilp => intro u cs bs ls N M h _ _ _; rw [h.1]; exact rfl

/-- So do the variables. -/
theorem obj_boxes {mem : Nat → Option Box} : ∀ {o : OT} {u : o.den} {cs : List Value} {bs : List Nat} {ls : List (Option (Nat × Nat))} {N M : List (Nat × Nat)}, ObjAt w γ.I o u cs bs ls → NameBs γ N bs → NameLs γ M ls → InMem mem o u N M →
    ∀ {c : Nat} {bx : Box}, conM o u N M c = some bx → BoxAt γ mem w c bx ∧ bx.ro = false ∧ ∀ blk k, γ.loc c = some (blk, k) → blk ∈ blksOf bs ls ∧ (∃ x, w.heap[blk]? = some x) ∧ ∀ o, ¬ γ.I blk o := by
  intro o
  induction o with
  | dat t => intro u cs bs ls N M _ _ _ _ c bx h; cases h
  | buf e eid =>
    intro u cs bs ls N M h hN hM hm c bx hc
    obtain ⟨L, v, rfl, rfl, rfl, h1⟩ := h
    obtain ⟨b, vr, r, rfl, hb⟩ := hm
    unfold NameLs at hM
    simp only [List.map_cons, List.cons.injEq] at hM
    unfold conM at hc
    dsimp only at hc
    cases hq : Nat.beq c b with
    | false => rw [hq] at hc; cases hc
    | true =>
      rw [hq] at hc
      obtain rfl := Nat.eq_of_beq_eq_true hq
      obtain rfl := Option.some.inj hc
      refine ⟨?_, rfl, fun blk k hl => ?_⟩
      · refine .inr ⟨e, u, rfl, h1.1, ?_⟩
        rcases h1.2 with ⟨q1, q2, q3⟩ | ⟨blk', cap, cur, tid, fr, q1, q2, q3, q4, q5, q6, q7, q8, q9, q10⟩
        · exact .inl ⟨by rw [hM.1]; exact q1, q2⟩
        · exact .inr ⟨blk', cap, cur, tid, fr, by rw [hM.1]; exact q1, q3, q4, q5, q6, q7, q8, q10⟩
      · rcases h1.2 with ⟨q1, q2, q3⟩ | ⟨blk', cap, cur, tid, fr, q1, q2, q3, q4, q5, q6, q7, q8, q9, q10⟩
        · rw [hM.1, q1] at hl; cases hl
        · rw [hM.1, q1] at hl
          obtain ⟨rfl, rfl⟩ := Prod.mk.inj (Option.some.inj hl)
          exact ⟨by simp [blksOf, q1], ⟨_, q3⟩, q9⟩
  | map =>
    intro u cs bs ls N M h hN hM hm c bx hc
    obtain ⟨L, v, rfl, rfl, rfl, h1⟩ := h
    obtain ⟨b, vr, r, rfl, hb⟩ := hm
    unfold NameLs at hM
    simp only [List.map_cons, List.cons.injEq] at hM
    unfold conM at hc
    dsimp only at hc
    cases hq : Nat.beq c b with
    | false => rw [hq] at hc; cases hc
    | true =>
      rw [hq] at hc
      obtain rfl := Nat.eq_of_beq_eq_true hq
      obtain rfl := Option.some.inj hc
      refine ⟨?_, rfl, fun blk k hl => ?_⟩
      · refine .inl ⟨u, rfl, ?_⟩
        rcases h1 with ⟨q1, q2, q3⟩ | ⟨blk', cap, o, q1, q2, q3, q4, q5⟩
        · exact .inl ⟨by rw [hM.1]; exact q1, q2⟩
        · exact .inr ⟨blk', cap, o, by rw [hM.1]; exact q1, q3, q4⟩
      · rcases h1 with ⟨q1, q2, q3⟩ | ⟨blk', cap, o, q1, q2, q3, q4, q5⟩
        · rw [hM.1, q1] at hl; cases hl
        · rw [hM.1, q1] at hl
          obtain ⟨rfl, rfl⟩ := Prod.mk.inj (Option.some.inj hl)
          exact ⟨by simp [blksOf, q1], ⟨_, q3⟩, q5⟩
  | ref tid o ih =>
    intro u cs bs ls N M h hN hM hm c bx hc
    obtain ⟨blk, r, rfl, rfl, hfree, cur, t', fr, k1, k2, k3, h1⟩ := h
    obtain ⟨b, vr, r', rfl, hb, hm'⟩ := hm
    unfold NameBs at hN
    simp only [List.map_cons, List.cons.injEq] at hN
    obtain ⟨q, hq, he⟩ := Option.map_eq_some_iff.1 hN.1
    have hbl : γ.loc b = some (blk, q.2) := by rw [hq, ← he]
    unfold conM at hc
    dsimp only at hc
    cases hcb : Nat.beq c b with
    | false =>
      rw [hcb] at hc
      obtain ⟨g1, g2, g3⟩ := ih h1 hN.2 hM hm' hc
      refine ⟨g1, g2, fun blk' k hl => ?_⟩
      obtain ⟨j1, j2⟩ := g3 blk' k hl
      refine ⟨?_, j2⟩
      unfold blksOf at j1 ⊢
      exact List.mem_cons_of_mem _ j1
    | true =>
      rw [hcb] at hc
      obtain rfl := Nat.eq_of_beq_eq_true hcb
      obtain rfl := Option.some.inj hc
      refine ⟨?_, rfl, fun blk' k hl => ?_⟩
      · unfold BoxAt
        exact ⟨blk, q.2, cur, t', fr, hbl, k1, k2, k3, obj_rep h1 hN.2 hM hm'⟩
      · rw [hbl] at hl
        obtain ⟨rfl, rfl⟩ := Prod.mk.inj (Option.some.inj hl)
        exact ⟨by simp [blksOf], ⟨_, k1⟩, hfree⟩
  | rf tid o ih =>
    intro u cs bs ls N M h hN hM hm c bx hc
    obtain ⟨blk, k0, r, rfl, rfl, hfree, cur, t', fr, k1, k2, k3, h1⟩ := h
    obtain ⟨b, vr, r', rfl, hb, hm'⟩ := hm
    unfold NameLs at hM
    simp only [List.map_cons, List.cons.injEq] at hM
    unfold conM at hc
    dsimp only at hc
    cases hcb : Nat.beq c b with
    | false =>
      rw [hcb] at hc
      obtain ⟨g1, g2, g3⟩ := ih h1 hN hM.2 hm' hc
      refine ⟨g1, g2, fun blk' k hl => ?_⟩
      obtain ⟨j1, j2⟩ := g3 blk' k hl
      refine ⟨?_, j2⟩
      unfold blksOf at j1 ⊢
      simp only [List.filterMap_cons, Option.map_some, List.mem_append, List.mem_cons] at j1 ⊢
      rcases j1 with q | q
      · exact .inl q
      · exact .inr (.inr q)
    | true =>
      rw [hcb] at hc
      obtain rfl := Nat.eq_of_beq_eq_true hcb
      obtain rfl := Option.some.inj hc
      refine ⟨?_, rfl, fun blk' k hl => ?_⟩
      · unfold BoxAt
        exact ⟨blk, k0, cur, t', fr, hM.1, k1, k2, k3, obj_rep h1 hN hM.2 hm'⟩
      · rw [hM.1] at hl
        obtain ⟨rfl, rfl⟩ := Prod.mk.inj (Option.some.inj hl)
        exact ⟨by simp [blksOf], ⟨_, k1⟩, hfree⟩
  | pair p q ihp ihq =>
    intro u cs bs ls N M h hN hM hm c bx hc
    obtain ⟨c1, c2, b1, b2, l1, l2, rfl, rfl, rfl, h1, h2⟩ := h
    obtain ⟨n1, n2⟩ := hN.split h1.len.1
    obtain ⟨m1, m2⟩ := hM.split h1.len.2
    have hin : ∀ {blk}, (blk ∈ blksOf b1 l1 ∨ blk ∈ blksOf b2 l2) → blk ∈ blksOf (b1 ++ b2) (l1 ++ l2) := by
      intro blk
      unfold blksOf
      simp only [List.filterMap_append, List.mem_append]
      rintro ((a | a) | (a | a))
      · exact .inl (.inl a)
      · exact .inr (.inl a)
      · exact .inl (.inr a)
      · exact .inr (.inr a)
    unfold conM at hc
    split at hc
    · rename_i x hx
      obtain rfl := Option.some.inj hc
      obtain ⟨g1, g2, g3⟩ := ihp h1 n1 m1 hm.1 hx
      exact ⟨g1, g2, fun blk k hl => ⟨hin (.inl (g3 blk k hl).1), (g3 blk k hl).2⟩⟩
    · obtain ⟨g1, g2, g3⟩ := ihq h2 n2 m2 hm.2 hc
      exact ⟨g1, g2, fun blk k hl => ⟨hin (.inr (g3 blk k hl).1), (g3 blk k hl).2⟩⟩
  | unit => intro u cs bs ls N M _ _ _ _ c bx h; cases h
  | nilp => intro u cs bs ls N M _ _ _ _ c bx h; cases h

/-- What a box must be to be handed over. -/
def Handed (mem : Nat → Option Box) (p : Nat × Nat) : Prop := ∃ bx, mem p.1 = some bx ∧ bx.ver = p.2 ∧ bx.lk = false ∧ bx.ro = false

theorem free_of {mem : Nat → Option Box} (hm : MemOk B γ mem w) {b blk k : Nat} {bx : Box} (hb : mem b = some bx) (hro : bx.ro = false) (hl : γ.loc b = some (blk, k)) (o : Nat) : ¬ γ.I blk o := fun hi => by
  have := (hm.sep b bx blk k o hb hl hi).1
  rw [hro] at this; cases this

/-- What is read out of ghost memory is in memory so. -/
theorem readO_obj {mem : Nat → Option Box} (hm : MemOk B γ mem w) : ∀ {o : OT} {v : Val} {cs : List Value} {u : o.den} {N M : List (Nat × Nat)}, Rep γ mem w v .cells cs → readO mem o v = some (u, N, M) →
    ∃ bs, NameBs γ N bs ∧ ObjAt w γ.I o u cs bs (M.map fun p => γ.loc p.1) ∧ ∀ p ∈ N ++ M, Handed mem p := by
  intro o
  induction o with
  | dat t =>
    intro v cs u N M hv h
    unfold readO at h
    split at h
    · rename_i x hx
      obtain ⟨rfl, q⟩ := Prod.mk.inj (Option.some.inj h)
      obtain ⟨rfl, rfl⟩ := Prod.mk.inj q
      rw [toS_data hx] at hv
      exact ⟨[], rfl, ⟨hv, rfl, rfl⟩, fun p hp => by cases hp⟩
    · cases h
  | buf e eid =>
    intro v cs u N M hv h
    unfold readO at h
    split at h
    case h_2 => cases h
    rename_i b ver
    split at h
    case h_2 => cases h
    rename_i bx hb
    cases hcd : (Nat.beq bx.ver ver && bx.buf && !bx.lk && !bx.ro && Nat.beq bx.tid eid && Nat.blt 0 e.size) with
    | false => rw [hcd] at h; cases h
    | true =>
      rw [hcd] at h
      simp only [Bool.and_eq_true, Bool.not_eq_true'] at hcd
      obtain ⟨⟨⟨⟨⟨hver, hbuf⟩, hlk⟩, hro⟩, htid⟩, hsz⟩ := hcd
      have hver := Nat.eq_of_beq_eq_true hver
      have htid := Nat.eq_of_beq_eq_true htid
      have hsz : 0 < e.size := by simpa using hsz
      simp only [cond_true] at h
      split at h
      case h_2 => cases h
      rename_i t l0 hval
      split at h
      case h_2 => cases h
      rename_i l hl
      obtain ⟨rfl, q⟩ := Prod.mk.inj (Option.some.inj h)
      obtain ⟨rfl, rfl⟩ := Prod.mk.inj q
      obtain ⟨rfl, rfl⟩ := toL_some hl
      obtain ⟨v, rfl⟩ : ∃ v, cs = [v] := by obtain ⟨⟨v, e, _⟩, _⟩ := hv; exact ⟨v, e⟩
      obtain ⟨e', n, k1, k2, k3⟩ := ofBox_live hb hver hv.2
      rw [Box.row_buf hbuf hval] at k2
      obtain ⟨rfl, rfl⟩ := Prod.mk.inj (Option.some.inj k2)
      have hat := hm.boxes b bx hb
      obtain ⟨t2, l2, a1, a2, a3⟩ := hat.lst hbuf (fun _ q => by rw [hval] at q; cases q)
      rw [hval] at a1
      injection a1 with a1 a4
      injection a1 with a1
      subst a1
      obtain rfl := eq_of_heq a4
      refine ⟨[], rfl, ⟨γ.loc b, v, rfl, rfl, rfl, hsz, ?_⟩, fun p hp => ?_⟩
      · rcases k3 with ⟨k3, k4⟩ | ⟨blk, cap, k3, k4⟩
        · rcases a3 with ⟨a3, a5⟩ | ⟨blk, cap, cur, tid, fr, a3, _⟩
          · exact .inl ⟨a3, a5, List.head_eq_of_cons_eq k4⟩
          · rw [k3] at a3; cases a3
        · rcases a3 with ⟨a3, a5⟩ | ⟨blk', cap', cur, tid, fr, a3, a5, a6, a7, a8, a9, a10, a11⟩
          · rw [k3] at a3; cases a3
          · rw [k3] at a3
            obtain ⟨rfl, rfl⟩ := Prod.mk.inj (Option.some.inj a3)
            exact .inr ⟨blk, cap, cur, tid, fr, k3, List.head_eq_of_cons_eq k4, a5, a6, by rw [← htid]; exact a7, a8, a9, a10, fun o => free_of hm hb hro k3 o, a11⟩
      · simp only [List.nil_append, List.mem_singleton] at hp
        subst hp
        exact ⟨bx, hb, hver, hlk, hro⟩
  | map =>
    intro v cs u N M hv h
    unfold readO at h
    split at h
    case h_2 => cases h
    rename_i b ver
    split at h
    case h_2 => cases h
    rename_i bx hb
    cases hcd : (Nat.beq bx.ver ver && bx.buf && !bx.lk && !bx.ro) with
    | false => rw [hcd] at h; cases h
    | true =>
      rw [hcd] at h
      simp only [Bool.and_eq_true, Bool.not_eq_true'] at hcd
      obtain ⟨⟨⟨hver, hbuf⟩, hlk⟩, hro⟩ := hcd
      have hver := Nat.eq_of_beq_eq_true hver
      simp only [cond_true] at h
      split at h
      case h_2 => cases h
      rename_i l hval
      obtain ⟨rfl, q⟩ := Prod.mk.inj (Option.some.inj h)
      obtain ⟨rfl, rfl⟩ := Prod.mk.inj q
      obtain ⟨v, rfl⟩ : ∃ v, cs = [v] := by obtain ⟨⟨v, e, _⟩, _⟩ := hv; exact ⟨v, e⟩
      obtain ⟨k1, k3⟩ := ofBox_live hb hver hv.2
      have hat := hm.boxes b bx hb
      unfold BoxAt at hat
      rw [hbuf] at hat
      rcases hat with ⟨l2, a1, a3⟩ | ⟨t2, l2, a1, _⟩
      case inr => rw [hval] at a1; cases a1
      rw [hval] at a1
      injection a1 with a1
      subst a1
      refine ⟨[], rfl, ⟨γ.loc b, v, rfl, rfl, rfl, ?_⟩, fun p hp => ?_⟩
      · rcases k3 with ⟨k3, k4⟩ | ⟨blk, cap, k3, k4⟩
        · rcases a3 with ⟨a3, a5⟩ | ⟨blk, cap, o, a3, _⟩
          · exact .inl ⟨a3, a5, List.head_eq_of_cons_eq k4⟩
          · rw [k3] at a3; cases a3
        · rcases a3 with ⟨a3, a5⟩ | ⟨blk', cap', o, a3, a5, a6⟩
          · rw [k3] at a3; cases a3
          · rw [k3] at a3
            obtain ⟨rfl, rfl⟩ := Prod.mk.inj (Option.some.inj a3)
            exact .inr ⟨blk, cap, o, k3, List.head_eq_of_cons_eq k4, a5, a6, fun o => free_of hm hb hro k3 o⟩
      · simp only [List.nil_append, List.mem_singleton] at hp
        subst hp
        exact ⟨bx, hb, hver, hlk, hro⟩
  | ref tid o ih =>
    intro v cs u N M hv h
    unfold readO at h
    split at h
    case h_2 => cases h
    rename_i b ver
    split at h
    case h_2 => cases h
    rename_i bx hb
    cases hcd : (Nat.beq bx.ver ver && !bx.buf && !bx.lk && !bx.ro && Nat.beq bx.tid tid) with
    | false => rw [hcd] at h; cases h
    | true =>
      rw [hcd] at h
      simp only [Bool.and_eq_true, Bool.not_eq_true'] at hcd
      obtain ⟨⟨⟨⟨hver, hbuf⟩, hlk⟩, hro⟩, htid⟩ := hcd
      have hver := Nat.eq_of_beq_eq_true hver
      have htid := Nat.eq_of_beq_eq_true htid
      simp only [cond_true] at h
      split at h
      case h_2 => cases h
      rename_i u1 N1 M1 hr
      obtain ⟨rfl, q⟩ := Prod.mk.inj (Option.some.inj h)
      obtain ⟨rfl, rfl⟩ := Prod.mk.inj q
      obtain ⟨blk, k, j1, j2⟩ := ofBox_live hb hver hv.2
      simp only [offP] at j2
      have hat := hm.boxes b bx hb
      unfold BoxAt at hat
      rw [hbuf] at hat
      obtain ⟨blk', cap, cur, t', fr, a1, a2, a3, a4, a5⟩ := hat
      rw [j1] at a1
      obtain ⟨rfl, rfl⟩ := Prod.mk.inj (Option.some.inj a1)
      obtain ⟨bs, g1, g2, g3⟩ := ih a5 hr
      refine ⟨blk :: bs, ?_, ⟨blk, bs, j2, rfl, fun o => free_of hm hb hro j1 o, cur, t', fr, a2, a3, by rw [← htid]; exact a4, g2⟩, fun p hp => ?_⟩
      · unfold NameBs at g1 ⊢
        simp only [List.map_cons, g1, j1]
        rfl
      · rcases List.mem_cons.1 (by simpa using hp : p ∈ (b, ver) :: (N1 ++ M1)) with rfl | hp
        · exact ⟨bx, hb, hver, hlk, hro⟩
        · exact g3 p hp
  | rf tid o ih =>
    intro v cs u N M hv h
    unfold readO at h
    split at h
    case h_2 => cases h
    rename_i b ver
    split at h
    case h_2 => cases h
    rename_i bx hb
    cases hcd : (Nat.beq bx.ver ver && !bx.buf && !bx.lk && !bx.ro && Nat.beq bx.tid tid) with
    | false => rw [hcd] at h; cases h
    | true =>
      rw [hcd] at h
      simp only [Bool.and_eq_true, Bool.not_eq_true'] at hcd
      obtain ⟨⟨⟨⟨hver, hbuf⟩, hlk⟩, hro⟩, htid⟩ := hcd
      have hver := Nat.eq_of_beq_eq_true hver
      have htid := Nat.eq_of_beq_eq_true htid
      simp only [cond_true] at h
      split at h
      case h_2 => cases h
      rename_i u1 N1 M1 hr
      obtain ⟨rfl, q⟩ := Prod.mk.inj (Option.some.inj h)
      obtain ⟨rfl, rfl⟩ := Prod.mk.inj q
      obtain ⟨blk, k, j1, j2⟩ := ofBox_live hb hver hv.2
      simp only [offP] at j2
      have hat := hm.boxes b bx hb
      unfold BoxAt at hat
      rw [hbuf] at hat
      obtain ⟨blk', cap, cur, t', fr, a1, a2, a3, a4, a5⟩ := hat
      rw [j1] at a1
      obtain ⟨rfl, rfl⟩ := Prod.mk.inj (Option.some.inj a1)
      obtain ⟨bs, g1, g2, g3⟩ := ih a5 hr
      refine ⟨bs, g1, ⟨blk, k, _, j2, by rw [List.map_cons, j1], fun o => free_of hm hb hro j1 o, cur, t', fr, a2, a3, by rw [← htid]; exact a4, g2⟩, fun p hp => ?_⟩
      rcases List.mem_append.1 hp with hp | hp
      · exact g3 p (List.mem_append_left _ hp)
      · rcases List.mem_cons.1 hp with rfl | hp
        · exact ⟨bx, hb, hver, hlk, hro⟩
        · exact g3 p (List.mem_append_right _ hp)
  | pair p q ihp ihq =>
    intro v cs u N M hv h
    unfold readO at h
    split at h
    case h_2 => cases h
    rename_i a b
    split at h
    case h_2 => cases h
    rename_i x N1 M1 y N2 M2 h1 h2
    obtain ⟨rfl, z⟩ := Prod.mk.inj (Option.some.inj h)
    obtain ⟨rfl, rfl⟩ := Prod.mk.inj z
    obtain ⟨c1, c2, rfl, v1, v2⟩ := hv
    obtain ⟨b1, g1, g2, g3⟩ := ihp v1 h1
    obtain ⟨b2, k1, k2, k3⟩ := ihq v2 h2
    refine ⟨b1 ++ b2, ?_, ⟨c1, c2, b1, b2, M1.map fun p => γ.loc p.1, M2.map fun p => γ.loc p.1, rfl, rfl, by rw [List.map_append], g2, k2⟩, fun r hr => ?_⟩
    · unfold NameBs at g1 k1 ⊢
      rw [List.map_append, List.map_append, g1, k1]
    · simp only [List.mem_append] at hr
      rcases hr with (hr | hr) | (hr | hr)
      · exact g3 r (List.mem_append_left _ hr)
      · exact k3 r (List.mem_append_left _ hr)
      · exact g3 r (List.mem_append_right _ hr)
      · exact k3 r (List.mem_append_right _ hr)
  | unit =>
    intro v cs u N M hv h
    unfold readO at h
    split at h
    case h_2 => cases h
    obtain ⟨rfl, z⟩ := Prod.mk.inj (Option.some.inj h)
    obtain ⟨rfl, rfl⟩ := Prod.mk.inj z
    exact ⟨[], rfl, ⟨hv, rfl, rfl⟩, fun p hp => by cases hp⟩
  | nilp =>
    intro v cs u N M hv h
    unfold readO at h
    split at h
    case h_2 => cases h
    obtain ⟨rfl, z⟩ := Prod.mk.inj (Option.some.inj h)
    obtain ⟨rfl, rfl⟩ := Prod.mk.inj z
    exact ⟨[], rfl, ⟨hv, rfl, rfl⟩, fun p hp => by cases hp⟩

theorem readO_len {mem : Nat → Option Box} : ∀ {o : OT} {v : Val} {u : o.den} {N M : List (Nat × Nat)}, readO mem o v = some (u, N, M) → N.length = o.nr ∧ M.length = o.nb := by
  intro o
  induction o with
  | dat t =>
    intro v u N M h
    unfold readO at h
    split at h
    · obtain ⟨_, q⟩ := Prod.mk.inj (Option.some.inj h)
      obtain ⟨rfl, rfl⟩ := Prod.mk.inj q
      exact ⟨rfl, rfl⟩
    · cases h
  | buf e eid =>
    intro v u N M h
    unfold readO at h
    split at h
    case h_2 => cases h
    split at h
    case h_2 => cases h
    rename_i bx hb
    cases hcd : (Nat.beq bx.ver _ && bx.buf && !bx.lk && !bx.ro && Nat.beq bx.tid eid && Nat.blt 0 e.size) with
    | false => rw [hcd] at h; cases h
    | true =>
      rw [hcd] at h
      simp only [cond_true] at h
      split at h
      case h_2 => cases h
      split at h
      case h_2 => cases h
      obtain ⟨_, q⟩ := Prod.mk.inj (Option.some.inj h)
      obtain ⟨rfl, rfl⟩ := Prod.mk.inj q
      exact ⟨rfl, rfl⟩
  | map =>
    intro v u N M h
    unfold readO at h
    split at h
    case h_2 => cases h
    split at h
    case h_2 => cases h
    rename_i bx hb
    cases hcd : (Nat.beq bx.ver _ && bx.buf && !bx.lk && !bx.ro) with
    | false => rw [hcd] at h; cases h
    | true =>
      rw [hcd] at h
      simp only [cond_true] at h
      split at h
      case h_2 => cases h
      obtain ⟨_, q⟩ := Prod.mk.inj (Option.some.inj h)
      obtain ⟨rfl, rfl⟩ := Prod.mk.inj q
      exact ⟨rfl, rfl⟩
  | ref tid o ih =>
    intro v u N M h
    unfold readO at h
    split at h
    case h_2 => cases h
    split at h
    case h_2 => cases h
    rename_i bx hb
    cases hcd : (Nat.beq bx.ver _ && !bx.buf && !bx.lk && !bx.ro && Nat.beq bx.tid tid) with
    | false => rw [hcd] at h; cases h
    | true =>
      rw [hcd] at h
      simp only [cond_true] at h
      split at h
      case h_2 => cases h
      rename_i u1 N1 M1 hr
      obtain ⟨_, q⟩ := Prod.mk.inj (Option.some.inj h)
      obtain ⟨rfl, rfl⟩ := Prod.mk.inj q
      have := ih hr
      exact ⟨by simp [OT.nr, this.1], this.2⟩
  | rf tid o ih =>
    intro v u N M h
    unfold readO at h
    split at h
    case h_2 => cases h
    split at h
    case h_2 => cases h
    rename_i bx hb
    cases hcd : (Nat.beq bx.ver _ && !bx.buf && !bx.lk && !bx.ro && Nat.beq bx.tid tid) with
    | false => rw [hcd] at h; cases h
    | true =>
      rw [hcd] at h
      simp only [cond_true] at h
      split at h
      case h_2 => cases h
      rename_i u1 N1 M1 hr
      obtain ⟨_, q⟩ := Prod.mk.inj (Option.some.inj h)
      obtain ⟨rfl, rfl⟩ := Prod.mk.inj q
      have := ih hr
      exact ⟨this.1, by simp [OT.nb, this.2]⟩
  | pair p q ihp ihq =>
    intro v u N M h
    unfold readO at h
    split at h
    case h_2 => cases h
    split at h
    case h_2 => cases h
    rename_i x N1 M1 y N2 M2 h1 h2
    obtain ⟨_, z⟩ := Prod.mk.inj (Option.some.inj h)
    obtain ⟨rfl, rfl⟩ := Prod.mk.inj z
    have a := ihp h1
    have b := ihq h2
    simp [OT.nr, OT.nb, a.1, a.2, b.1, b.2]
  | unit =>
    intro v u N M h
    unfold readO at h
    split at h
    case h_2 => cases h
    obtain ⟨_, z⟩ := Prod.mk.inj (Option.some.inj h)
    obtain ⟨rfl, rfl⟩ := Prod.mk.inj z
    exact ⟨rfl, rfl⟩
  | nilp =>
    intro v u N M h
    unfold readO at h
    split at h
    case h_2 => cases h
    obtain ⟨_, z⟩ := Prod.mk.inj (Option.some.inj h)
    obtain ⟨rfl, rfl⟩ := Prod.mk.inj z
    exact ⟨rfl, rfl⟩

def Val.rowV : Val → Option (Ty × Nat)
  | .data (.arr n e) _ => some (e, n)
  | _ => none
theorem row_of {bx : Box} (h : bx.buf = false) : bx.row = bx.val.rowV := by
  unfold Box.row
  rw [h]
  cases hv : bx.val with
  | data t x => cases t <;> rfl
  | _ => rfl

theorem readO_rowV {mem : Nat → Option Box} {o : OT} {v : Val} {u y : o.den} {N M N' M' : List (Nat × Nat)} (h : readO mem o v = some (u, N, M)) : (conV o y N' M').rowV = v.rowV := by
  unfold readO at h
  cases o with
  | dat t =>
    dsimp only at h
    split at h
    · rename_i x hx
      rw [toS_data hx]
      cases t <;> rfl
    · cases h
  | buf e eid =>
    dsimp only at h
    split at h
    case h_2 => cases h
    cases M' <;> rfl
  | map =>
    dsimp only at h
    split at h
    case h_2 => cases h
    cases M' <;> rfl
  | ref tid o =>
    dsimp only at h
    split at h
    case h_2 => cases h
    cases N' <;> rfl
  | rf tid o =>
    dsimp only at h
    split at h
    case h_2 => cases h
    cases M' <;> rfl
  | pair p q =>
    dsimp only at h
    split at h
    case h_2 => cases h
    rfl
  | unit =>
    dsimp only at h
    split at h
    case h_2 => cases h
    rfl
  | nilp =>
    dsimp only at h
    split at h
    case h_2 => cases h
    rfl

/-- What the boxes are that are written back: of the same row as before, or of a later version. -/
theorem conM_kind {mem : Nat → Option Box} : ∀ {o : OT} {v : Val} {u y : o.den} {N M : List (Nat × Nat)} {c : Nat} {bx : Box}, readO mem o v = some (u, N, M) → conM o y N (M.map fun p => (p.1, p.2 + 1)) c = some bx →
    (∃ cx, (c, cx.ver) ∈ N ∧ mem c = some cx ∧ bx.ver = cx.ver ∧ bx.buf = cx.buf ∧ bx.row = cx.row) ∨ ∃ cx, (c, cx.ver) ∈ M ∧ mem c = some cx ∧ bx.ver = cx.ver + 1 := by
  intro o
  induction o with
  | dat t => intro v u y N M c bx _ h; cases h
  | buf e eid =>
    intro v u y N M c bx h hc
    unfold readO at h
    split at h
    case h_2 => cases h
    rename_i b ver
    split at h
    case h_2 => cases h
    rename_i b0 hb
    cases hcd : (Nat.beq b0.ver ver && b0.buf && !b0.lk && !b0.ro && Nat.beq b0.tid eid && Nat.blt 0 e.size) with
    | false => rw [hcd] at h; cases h
    | true =>
      rw [hcd] at h
      simp only [Bool.and_eq_true] at hcd
      have hver := Nat.eq_of_beq_eq_true hcd.1.1.1.1.1
      simp only [cond_true] at h
      split at h
      case h_2 => cases h
      split at h
      case h_2 => cases h
      obtain ⟨_, q⟩ := Prod.mk.inj (Option.some.inj h)
      obtain ⟨rfl, rfl⟩ := Prod.mk.inj q
      unfold conM at hc
      simp only [List.map_cons, List.map_nil] at hc
      cases hq : Nat.beq c b with
      | false => rw [hq] at hc; cases hc
      | true =>
        rw [hq] at hc
        obtain rfl := Nat.eq_of_beq_eq_true hq
        obtain rfl := Option.some.inj hc
        exact .inr ⟨b0, by rw [hver]; simp, hb, by rw [hver]⟩
  | map =>
    intro v u y N M c bx h hc
    unfold readO at h
    split at h
    case h_2 => cases h
    rename_i b ver
    split at h
    case h_2 => cases h
    rename_i b0 hb
    cases hcd : (Nat.beq b0.ver ver && b0.buf && !b0.lk && !b0.ro) with
    | false => rw [hcd] at h; cases h
    | true =>
      rw [hcd] at h
      simp only [Bool.and_eq_true] at hcd
      have hver := Nat.eq_of_beq_eq_true hcd.1.1.1
      simp only [cond_true] at h
      split at h
      case h_2 => cases h
      obtain ⟨_, q⟩ := Prod.mk.inj (Option.some.inj h)
      obtain ⟨rfl, rfl⟩ := Prod.mk.inj q
      unfold conM at hc
      simp only [List.map_cons, List.map_nil] at hc
      cases hq : Nat.beq c b with
      | false => rw [hq] at hc; cases hc
      | true =>
        rw [hq] at hc
        obtain rfl := Nat.eq_of_beq_eq_true hq
        obtain rfl := Option.some.inj hc
        exact .inr ⟨b0, by rw [hver]; simp, hb, by rw [hver]⟩
  | ref tid o ih =>
    intro v u y N M c bx h hc
    unfold readO at h
    split at h
    case h_2 => cases h
    rename_i b ver
    split at h
    case h_2 => cases h
    rename_i b0 hb
    cases hcd : (Nat.beq b0.ver ver && !b0.buf && !b0.lk && !b0.ro && Nat.beq b0.tid tid) with
    | false => rw [hcd] at h; cases h
    | true =>
      rw [hcd] at h
      simp only [Bool.and_eq_true, Bool.not_eq_true'] at hcd
      have hver := Nat.eq_of_beq_eq_true hcd.1.1.1.1
      simp only [cond_true] at h
      split at h
      case h_2 => cases h
      rename_i u1 N1 M1 hr
      obtain ⟨_, q⟩ := Prod.mk.inj (Option.some.inj h)
      obtain ⟨rfl, rfl⟩ := Prod.mk.inj q
      unfold conM at hc
      dsimp only at hc
      cases hq : Nat.beq c b with
      | false =>
        rw [hq] at hc
        rcases ih hr hc with ⟨cx, g1, g2⟩ | g
        · exact .inl ⟨cx, List.mem_cons_of_mem _ g1, g2⟩
        · exact .inr g
      | true =>
        rw [hq] at hc
        obtain rfl := Nat.eq_of_beq_eq_true hq
        obtain rfl := Option.some.inj hc
        refine .inl ⟨b0, by rw [hver]; simp, hb, hver.symm, hcd.1.1.1.2.symm, ?_⟩
        rw [row_of hcd.1.1.1.2, row_of rfl]
        exact readO_rowV hr
  | rf tid o ih =>
    intro v u y N M c bx h hc
    unfold readO at h
    split at h
    case h_2 => cases h
    rename_i b ver
    split at h
    case h_2 => cases h
    rename_i b0 hb
    cases hcd : (Nat.beq b0.ver ver && !b0.buf && !b0.lk && !b0.ro && Nat.beq b0.tid tid) with
    | false => rw [hcd] at h; cases h
    | true =>
      rw [hcd] at h
      simp only [Bool.and_eq_true, Bool.not_eq_true'] at hcd
      have hver := Nat.eq_of_beq_eq_true hcd.1.1.1.1
      simp only [cond_true] at h
      split at h
      case h_2 => cases h
      rename_i u1 N1 M1 hr
      obtain ⟨_, q⟩ := Prod.mk.inj (Option.some.inj h)
      obtain ⟨rfl, rfl⟩ := Prod.mk.inj q
      unfold conM at hc
      simp only [List.map_cons] at hc
      cases hq : Nat.beq c b with
      | false =>
        rw [hq] at hc
        rcases ih hr hc with g | ⟨cx, g1, g2⟩
        · exact .inl g
        · exact .inr ⟨cx, List.mem_cons_of_mem _ g1, g2⟩
      | true =>
        rw [hq] at hc
        obtain rfl := Nat.eq_of_beq_eq_true hq
        obtain rfl := Option.some.inj hc
        exact .inr ⟨b0, by rw [hver]; simp, hb, by rw [hver]⟩
  | pair p q ihp ihq =>
    intro v u y N M c bx h hc
    unfold readO at h
    split at h
    case h_2 => cases h
    split at h
    case h_2 => cases h
    rename_i x N1 M1 y1 N2 M2 h1 h2
    obtain ⟨_, z⟩ := Prod.mk.inj (Option.some.inj h)
    obtain ⟨rfl, rfl⟩ := Prod.mk.inj z
    have a := readO_len h1
    unfold conM at hc
    rw [List.map_append, List.take_left' a.1, List.drop_left' a.1, List.take_left' (by simp [a.2]), List.drop_left' (by simp [a.2])] at hc
    split at hc
    · rename_i x hx
      obtain rfl := Option.some.inj hc
      rcases ihp h1 hx with ⟨cx, g1, g2⟩ | ⟨cx, g1, g2⟩
      · exact .inl ⟨cx, List.mem_append_left _ g1, g2⟩
      · exact .inr ⟨cx, List.mem_append_left _ g1, g2⟩
    · rcases ihq h2 hc with ⟨cx, g1, g2⟩ | ⟨cx, g1, g2⟩
      · exact .inl ⟨cx, List.mem_append_right _ g1, g2⟩
      · exact .inr ⟨cx, List.mem_append_right _ g1, g2⟩
  | unit => intro v u y N M c bx _ h; cases h
  | nilp => intro v u y N M c bx _ h; cases h

theorem conM_some : ∀ {o : OT} {u : o.den} {N M : List (Nat × Nat)} {c : Nat}, N.length = o.nr → M.length = o.nb → c ∈ namesOf N M → ∃ bx, conM o u N M c = some bx := by
  intro o
  induction o with
  | dat t =>
    intro u N M c hN hM hc
    rw [List.length_eq_zero_iff.1 hN, List.length_eq_zero_iff.1 hM] at hc; cases hc
  | buf e eid =>
    intro u N M c hN hM hc
    rw [List.length_eq_zero_iff.1 hN] at hc
    match M, hM, hc with
    | [p], _, hc =>
      have : c = p.1 := by simpa [namesOf] using hc
      subst this
      exact ⟨_, by unfold conM; dsimp only; rw [Nat.beq_refl]; rfl⟩
  | map =>
    intro u N M c hN hM hc
    rw [List.length_eq_zero_iff.1 hN] at hc
    match M, hM, hc with
    | [p], _, hc =>
      have : c = p.1 := by simpa [namesOf] using hc
      subst this
      exact ⟨_, by unfold conM; dsimp only; rw [Nat.beq_refl]; rfl⟩
  | ref tid o ih =>
    intro u N M c hN hM hc
    cases N with
    | nil => cases hN
    | cons p r =>
      unfold conM
      dsimp only
      cases hq : Nat.beq c p.1 with
      | true => exact ⟨_, rfl⟩
      | false =>
        refine ih (by simpa [OT.nr] using hN) hM ?_
        unfold namesOf at hc ⊢
        simp only [List.map_cons, List.cons_append, List.mem_cons] at hc
        rcases hc with rfl | hc
        · rw [Nat.beq_refl] at hq; cases hq
        · exact hc
  | rf tid o ih =>
    intro u N M c hN hM hc
    cases M with
    | nil => cases hM
    | cons p r =>
      unfold conM
      dsimp only
      cases hq : Nat.beq c p.1 with
      | true => exact ⟨_, rfl⟩
      | false =>
        refine ih hN (by simpa [OT.nb] using hM) ?_
        unfold namesOf at hc ⊢
        simp only [List.map_cons, List.mem_append, List.mem_cons] at hc ⊢
        rcases hc with hc | rfl | hc
        · exact .inl hc
        · rw [Nat.beq_refl] at hq; cases hq
        · exact .inr hc
  | pair p q ihp ihq =>
    intro u N M c hN hM hc
    simp only [OT.nr, OT.nb] at hN hM
    have e1 : N.take p.nr ++ N.drop p.nr = N := List.take_append_drop ..
    have e2 : M.take p.nb ++ M.drop p.nb = M := List.take_append_drop ..
    unfold conM
    cases hq : conM p u.1 (N.take p.nr) (M.take p.nb) c with
    | some x => exact ⟨x, rfl⟩
    | none =>
      refine ihq (by rw [List.length_drop]; omega) (by rw [List.length_drop]; omega) ?_
      have hno : c ∉ namesOf (N.take p.nr) (M.take p.nb) := fun hin => by
        obtain ⟨bx, hb⟩ := ihp (u := u.1) (by rw [List.length_take]; omega) (by rw [List.length_take]; omega) hin
        rw [hq] at hb; cases hb
      unfold namesOf at hc hno ⊢
      rw [← e1, ← e2, List.map_append, List.map_append] at hc
      simp only [List.mem_append] at hc hno ⊢
      rcases hc with (hc | hc) | (hc | hc)
      · exact absurd (.inl hc) hno
      · exact .inl hc
      · exact absurd (.inr hc) hno
      · exact .inr hc
  | unit =>
    intro u N M c hN hM hc
    rw [List.length_eq_zero_iff.1 hN, List.length_eq_zero_iff.1 hM] at hc; cases hc
  | nilp =>
    intro u N M c hN hM hc
    rw [List.length_eq_zero_iff.1 hN, List.length_eq_zero_iff.1 hM] at hc; cases hc

/-- Where the lists lie behind a call. -/
def locSet : List (Nat × Nat) → List (Option (Nat × Nat)) → (Nat → Option (Nat × Nat)) → Nat → Option (Nat × Nat)
  | (b, _) :: M, L :: ls, loc, c => if c = b then L else locSet M ls loc c
  | _, _, loc, c => loc c

theorem locSet_out {loc : Nat → Option (Nat × Nat)} : ∀ {M : List (Nat × Nat)} {ls : List (Option (Nat × Nat))} {c : Nat}, c ∉ M.map (·.1) → locSet M ls loc c = loc c := by
  intro M
  induction M with
  | nil => intro ls c _; cases ls <;> rfl
  | cons p r ih =>
    intro ls c h
    cases ls with
    | nil => rfl
    | cons L ls =>
      simp only [List.map_cons, List.mem_cons, not_or] at h
      unfold locSet
      rw [if_neg h.1]
      exact ih h.2

theorem locSet_map {loc : Nat → Option (Nat × Nat)} : ∀ {M : List (Nat × Nat)} {ls : List (Option (Nat × Nat))}, (M.map (·.1)).Nodup → M.length = ls.length → M.map (fun p => locSet M ls loc p.1) = ls := by
  intro M
  induction M with
  | nil => intro ls _ h; cases ls with | nil => rfl | cons _ _ => cases h
  | cons p r ih =>
    intro ls hd h
    cases ls with
    | nil => cases h
    | cons L ls =>
      simp only [List.map_cons, List.nodup_cons] at hd
      have : r.map (fun q => locSet (p :: r) (L :: ls) loc q.1) = ls := by
        refine Eq.trans (List.map_congr_left fun q hq => ?_) (ih hd.2 (by simpa using h))
        have hne : q.1 ≠ p.1 := fun e => hd.1 (by rw [← e]; exact List.mem_map.2 ⟨q, hq, rfl⟩)
        show (if q.1 = p.1 then L else locSet r ls loc q.1) = _
        rw [if_neg hne]
      rw [List.map_cons, this]
      show (if p.1 = p.1 then L else _) :: ls = L :: ls
      rw [if_pos rfl]

theorem locSet_in {loc : Nat → Option (Nat × Nat)} {M : List (Nat × Nat)} {ls : List (Option (Nat × Nat))} (hd : (M.map (·.1)).Nodup) (hl : M.length = ls.length) {c : Nat} (hc : c ∈ M.map (·.1)) : ∃ i v : Nat, M[i]? = some (c, v) ∧ ls[i]? = some (locSet M ls loc c) := by
  obtain ⟨p, hp, rfl⟩ := List.mem_map.1 hc
  obtain ⟨i, hi, hpi⟩ := List.getElem_of_mem hp
  refine ⟨i, p.2, by rw [List.getElem?_eq_getElem hi, hpi], ?_⟩
  have := locSet_map (loc := loc) hd hl
  conv => lhs; rw [← this]
  rw [List.getElem?_map, List.getElem?_eq_getElem hi, hpi]
  rfl

theorem setRefs_mem {U : OT} {y : U.den} {N M : List (Nat × Nat)} {σ : St} {c : Nat} : (setRefs U y N M σ).mem c = match conM U y N (M.map fun p => (p.1, p.2 + 1)) c with | some bx => some bx | none => σ.mem c := rfl

theorem names_bump {N M : List (Nat × Nat)} : namesOf N (M.map fun p => (p.1, p.2 + 1)) = namesOf N M := by
  unfold namesOf
  rw [List.map_map]
  rfl

theorem ls_inj {blk k k' : Nat} : ∀ {l : List (Option (Nat × Nat))} {i j : Nat}, (l.filterMap fun L => L.map (·.1)).Nodup → l[i]? = some (some (blk, k)) → l[j]? = some (some (blk, k')) → i = j := by
  intro l
  induction l with
  | nil => intro i j _ h; simp at h
  | cons L r ih =>
    intro i j hn hi hj
    have hmem : ∀ (q kq : Nat), r[q]? = some (some (blk, kq)) → blk ∈ r.filterMap fun L => L.map (·.1) := fun q kq hq => List.mem_filterMap.2 ⟨_, List.mem_of_getElem? hq, rfl⟩
    cases i with
    | zero =>
      cases j with
      | zero => rfl
      | succ j =>
        obtain rfl := Option.some.inj (show some L = _ from hi)
        rw [List.filterMap_cons_some (f := fun L : Option (Nat × Nat) => L.map (·.1)) (a := some (blk, k)) (b := blk) rfl] at hn
        exact absurd (hmem j k' (by simpa using hj)) (List.nodup_cons.1 hn).1
    | succ i =>
      cases j with
      | zero =>
        obtain rfl := Option.some.inj (show some L = _ from hj)
        rw [List.filterMap_cons_some (f := fun L : Option (Nat × Nat) => L.map (·.1)) (a := some (blk, k')) (b := blk) rfl] at hn
        exact absurd (hmem i k (by simpa using hi)) (List.nodup_cons.1 hn).1
      | succ j =>
        have hn' : (r.filterMap fun L => L.map (·.1)).Nodup := by
          cases hL : L.map (·.1) with
          | none => rw [List.filterMap_cons_none hL] at hn; exact hn
          | some q => rw [List.filterMap_cons_some hL] at hn; exact (List.nodup_cons.1 hn).2
        have := ih hn' (by simpa using hi) (by simpa using hj)
        omega

/-- Behind a call that may change what its arguments lead to. -/
theorem MemOk.refs (h : MemOk B γ σ.mem w) {U : OT} {V : Val} {u y : U.den} {N M : List (Nat × Nat)} {ptrs : List Value} {bs : List Nat} {ls' : List (Option (Nat × Nat))} (hr : readO σ.mem U V = some (u, N, M)) (hd : (namesOf N M).Nodup) (hN : NameBs γ N bs)
    (hH : ∀ p ∈ N ++ M, Handed σ.mem p) {G : Globs} (hw : Blw ⟨w.heap.size, (· ∈ blksOf bs (M.map fun p => γ.loc p.1)), G⟩ w w') {I' : Nat → Nat → Prop} (hI : ∀ b o, γ.I b o → I' b o) (himm : ∀ b o, I' b o → b < w'.heap.size)
    (hnew : ∀ b o, I' b o → ¬ γ.I b o → w.heap.size ≤ b ∨ b ∈ blksOf bs (M.map fun p => γ.loc p.1)) (ha : ObjAt w' I' U y ptrs bs ls') (hnd : (blksOf bs ls').Nodup) (hfr : ∀ blk ∈ blksOf [] ls', blk ∈ blksOf bs (M.map fun p => γ.loc p.1) ∨ w.heap.size ≤ blk) :
    MemOk B ⟨I', locSet M ls' γ.loc⟩ (setRefs U y N M σ).mem w' ∧ Ext B γ σ.mem w ⟨I', locSet M ls' γ.loc⟩ (setRefs U y N M σ).mem w' := by
  have hlen := readO_len hr
  have hal := ha.len
  have hMl : M.length = ls'.length := by rw [hlen.2, hal.2]
  have hdM : (M.map (·.1)).Nodup := by unfold namesOf at hd; exact (List.nodup_append.1 hd).2.1
  have hNM : ∀ c, c ∈ N.map (·.1) → c ∉ M.map (·.1) := fun c h1 h2 => by unfold namesOf at hd; exact (List.nodup_append.1 hd).2.2 c h1 c h2 rfl
  -- an old block of a name
  have hold : ∀ blk, blk ∈ blksOf bs (M.map fun p => γ.loc p.1) → ∃ b bx k, b ∈ namesOf N M ∧ σ.mem b = some bx ∧ bx.ro = false ∧ γ.loc b = some (blk, k) ∧ (b ∈ N.map (·.1) → blk ∈ bs) := by
    intro blk hb
    unfold blksOf at hb
    rcases List.mem_append.1 hb with hb | hb
    · have : some blk ∈ N.map fun p => (γ.loc p.1).map (·.1) := by rw [hN]; exact List.mem_map.2 ⟨blk, hb, rfl⟩
      obtain ⟨p, hp, he⟩ := List.mem_map.1 this
      obtain ⟨q, hq, he⟩ := Option.map_eq_some_iff.1 he
      obtain ⟨bx, j1, j2, j3, j4⟩ := hH p (List.mem_append_left _ hp)
      exact ⟨p.1, bx, q.2, List.mem_append_left _ (List.mem_map.2 ⟨p, hp, rfl⟩), j1, j4, by rw [hq, ← he], fun _ => hb⟩
    · obtain ⟨L, hL, he⟩ := List.mem_filterMap.1 hb
      obtain ⟨p, hp, rfl⟩ := List.mem_map.1 hL
      obtain ⟨q, hq, he⟩ := Option.map_eq_some_iff.1 he
      obtain ⟨bx, j1, j2, j3, j4⟩ := hH p (List.mem_append_right _ hp)
      exact ⟨p.1, bx, q.2, List.mem_append_right _ (List.mem_map.2 ⟨p, hp, rfl⟩), j1, j4, by rw [hq, ← he], fun hq' => absurd (List.mem_map.2 ⟨p, hp, rfl⟩) (hNM _ hq')⟩
  have hown : ∀ blk ∈ blksOf bs (M.map fun p => γ.loc p.1), B.has blk ∧ blk < w.heap.size := fun blk hb => by
    obtain ⟨b, bx, k, _, g2, _, g4, _⟩ := hold blk hb
    exact h.fresh b blk k (by rw [g2]; simp) g4
  have hfree : ∀ blk ∈ blksOf bs (M.map fun p => γ.loc p.1), ∀ o, ¬ γ.I blk o := fun blk hb o => by
    obtain ⟨b, bx, k, _, g2, g3, g4, _⟩ := hold blk hb
    exact free_of h g2 g3 g4 o
  have hsame : ∀ k, k < w.heap.size → k ∉ blksOf bs (M.map fun p => γ.loc p.1) → w'.heap[k]? = w.heap[k]? := fun k hk hb => hw.block k fun q => by
    rcases q with q | q
    · have : w.heap.size ≤ k := q; omega
    · exact hb q
  have hlow : ∀ k, ¬ B.has k → k < w.heap.size := fun k hk => Nat.lt_of_not_le fun q => hk (.inl (Nat.le_trans h.base q))
  -- the new ghost state tells of the names what is there
  have hN' : NameBs ⟨I', locSet M ls' γ.loc⟩ N bs := by
    unfold NameBs at hN ⊢
    rw [← hN]
    refine List.map_congr_left fun p hp => ?_
    show (locSet M ls' γ.loc p.1).map _ = _
    rw [locSet_out (hNM p.1 (List.mem_map.2 ⟨p, hp, rfl⟩))]
  have hL' : NameLs ⟨I', locSet M ls' γ.loc⟩ (M.map fun p => (p.1, p.2 + 1)) ls' := by
    unfold NameLs
    rw [List.map_map]
    exact locSet_map hdM hMl
  have hin : InMem (setRefs U y N M σ).mem U y N (M.map fun p => (p.1, p.2 + 1)) :=
    inMem_of hlen.1 (by rw [List.length_map]; exact hlen.2) (by rw [names_bump]; exact hd) fun c bx hc => by rw [setRefs_mem, hc]
  have hbox : ∀ {c bx}, conM U y N (M.map fun p => (p.1, p.2 + 1)) c = some bx → _ := fun {c bx} hc => obj_boxes (γ := ⟨I', locSet M ls' γ.loc⟩) ha hN' hL' hin hc
  have hout : ∀ {c}, conM U y N (M.map fun p => (p.1, p.2 + 1)) c = none → c ∉ namesOf N M := fun {c} hc hq => by
    obtain ⟨bx, hb⟩ := conM_some (u := y) (M := M.map fun p => (p.1, p.2 + 1)) hlen.1 (by rw [List.length_map]; exact hlen.2) (by rw [names_bump]; exact hq)
    rw [hc] at hb; cases hb
  have hloc : ∀ {c}, c ∉ M.map (·.1) → locSet M ls' γ.loc c = γ.loc c := fun hc => locSet_out hc
  have hne : ∀ c, (setRefs U y N M σ).mem c ≠ none → σ.mem c ≠ none := by
    intro c hc hq
    apply hc
    rw [setRefs_mem]
    cases hv : conM U y N (M.map fun p => (p.1, p.2 + 1)) c with
    | none => exact hq
    | some bx =>
      rcases conM_kind hr hv with ⟨cx, _, g, _⟩ | ⟨cx, _, g, _⟩
      · rw [hq] at g; cases g
      · rw [hq] at g; cases g
  have hx : Ext B γ σ.mem w ⟨I', locSet M ls' γ.loc⟩ (setRefs U y N M σ).mem w' :=
    { below := ⟨hw.os, hw.tape, hw.output, hw.size, fun k hk => hsame k (hlow k hk) fun hb => hk (hown k hb).1⟩
      I := hI
      anew := fun b o x => by
        by_cases hi : γ.I b o
        · exact .inl hi
        · rcases hnew b o x hi with q | q
          · exact .inr (.inl (Nat.le_trans h.base q))
          · exact .inr (hown b q).1
      cells := fun b o hi => cell_of_same (hsame b (h.imm b o hi) fun hb => hfree b hb o hi)
      boxes := fun c cx hc => by
        rw [setRefs_mem]
        cases hv : conM U y N (M.map fun p => (p.1, p.2 + 1)) c with
        | none => exact ⟨cx, hc, Nat.le_refl _, fun _ => ⟨hloc fun q => hout hv (List.mem_append_right _ q), rfl, rfl⟩⟩
        | some bx =>
          rcases conM_kind hr hv with ⟨cx', g1, g2, g3, g4, g5⟩ | ⟨cx', g1, g2, g3⟩
          · rw [hc] at g2
            obtain rfl := Option.some.inj g2
            exact ⟨bx, rfl, Nat.le_of_eq g3.symm, fun _ => ⟨hloc (hNM c (List.mem_map.2 ⟨_, g1, rfl⟩)), g4, g5⟩⟩
          · rw [hc] at g2
            obtain rfl := Option.some.inj g2
            exact ⟨bx, rfl, by omega, fun e => by omega⟩ }
  have hls : ∀ {c blk k}, c ∈ M.map (·.1) → locSet M ls' γ.loc c = some (blk, k) → blk ∈ blksOf [] ls' := fun {c blk k} hc he => by
    obtain ⟨i, v, h1, h2⟩ := locSet_in (loc := γ.loc) hdM hMl hc
    rw [he] at h2
    unfold blksOf
    exact List.mem_append_right _ (List.mem_filterMap.2 ⟨_, List.mem_of_getElem? h2, rfl⟩)
  have hboth : ∀ {c d blk k k'}, c ∈ M.map (·.1) → σ.mem d ≠ none → locSet M ls' γ.loc c = some (blk, k) → locSet M ls' γ.loc d = some (blk, k') → c = d := by
    intro c d blk k k' hc hdm e1 e2
    have hb := hls hc e1
    by_cases hdM' : d ∈ M.map (·.1)
    · obtain ⟨i, v, i1, i2⟩ := locSet_in (loc := γ.loc) hdM hMl hc
      obtain ⟨j, v', j1, j2⟩ := locSet_in (loc := γ.loc) hdM hMl hdM'
      rw [e1] at i2
      rw [e2] at j2
      have hnl : (ls'.filterMap fun L => L.map (·.1)).Nodup := by unfold blksOf at hnd; exact (List.nodup_append.1 hnd).2.1
      have hij : i = j := by
        exact ls_inj hnl i2 j2
      subst hij
      rw [i1] at j1
      exact (Prod.mk.inj (Option.some.inj j1)).1
    · rw [hloc hdM'] at e2
      have hlt := (h.fresh d blk k' hdm e2).2
      rcases hfr blk hb with hq | hq
      · obtain ⟨n, bx, kn, n1, n2, n3, n4, n5⟩ := hold blk hq
        have hnd' := h.inj n d blk kn k' (by rw [n2]; simp) hdm n4 e2
        subst hnd'
        unfold namesOf at n1
        rcases List.mem_append.1 n1 with n1 | n1
        · have h1 := n5 n1
          unfold blksOf at hnd hb
          rw [List.nil_append] at hb
          exact absurd rfl ((List.nodup_append.1 hnd).2.2 blk h1 blk hb)
        · exact absurd n1 hdM'
      · omega
  refine ⟨?_, hx⟩
  exact
    { glob := h.globE hx
      base := Nat.le_trans h.base hw.size
      boxes := fun c cx hc => by
        rw [setRefs_mem] at hc
        cases hv : conM U y N (M.map fun p => (p.1, p.2 + 1)) c with
        | none =>
          rw [hv] at hc
          replace hc : σ.mem c = some cx := hc
          have hnn := hout hv
          refine (h.boxes c cx hc).keep hx (hloc fun q => hnn (List.mem_append_right _ q)) fun blk k hl => ?_
          refine hsame blk (h.fresh c blk k (by rw [hc]; simp) hl).2 fun hb => ?_
          obtain ⟨b, bx, k', g1, g2, g3, g4, _⟩ := hold blk hb
          have := h.inj c b blk k k' (by rw [hc]; simp) (by rw [g2]; simp) hl g4
          subst this
          exact hnn g1
        | some bx =>
          rw [hv] at hc
          obtain rfl := Option.some.inj hc
          exact (hbox hv).1
      inj := fun c d blk k k' hc hd' e1 e2 => by
        by_cases hcM : c ∈ M.map (·.1)
        · exact hboth hcM (hne d hd') e1 e2
        · by_cases hdM' : d ∈ M.map (·.1)
          · exact (hboth hdM' (hne c hc) e2 e1).symm
          · exact h.inj c d blk k k' (hne c hc) (hne d hd') ((hloc hcM).symm.trans e1) ((hloc hdM').symm.trans e2)
      fresh := fun c blk k hc hl => by
        by_cases hcM : c ∈ M.map (·.1)
        · have hb := hls hcM hl
          obtain ⟨bx, hbx⟩ := conM_some (u := y) (M := M.map fun p => (p.1, p.2 + 1)) hlen.1 (by rw [List.length_map]; exact hlen.2) (by rw [names_bump]; exact List.mem_append_right _ hcM)
          obtain ⟨_, _, g⟩ := hbox hbx
          obtain ⟨_, ⟨x, hx1⟩, _⟩ := g blk k hl
          refine ⟨?_, (Array.getElem?_eq_some_iff.1 hx1).1⟩
          rcases hfr blk hb with q | q
          · exact (hown blk q).1
          · exact .inl (Nat.le_trans h.base q)
        · have := h.fresh c blk k (hne c hc) ((hloc hcM).symm.trans hl)
          exact ⟨this.1, Nat.lt_of_lt_of_le this.2 hw.size⟩
      imm := himm
      sep := fun c cx blk k off hc hl hi => by
        rw [setRefs_mem] at hc
        cases hv : conM U y N (M.map fun p => (p.1, p.2 + 1)) c with
        | some bx =>
          obtain ⟨_, _, g⟩ := hbox hv
          exact absurd hi ((g blk k hl).2.2 off)
        | none =>
          rw [hv] at hc
          replace hc : σ.mem c = some cx := hc
          have hl0 : γ.loc c = some (blk, k) := (hloc fun q => hout hv (List.mem_append_right _ q)).symm.trans hl
          by_cases hi0 : γ.I blk off
          · exact h.sep c cx blk k off hc hl0 hi0
          · have h2 := (h.fresh c blk k (by rw [hc]; simp) hl0).2
            rcases hnew blk off hi hi0 with h1 | h1
            · omega
            · obtain ⟨b, bx, k', g1, g2, g3, g4, _⟩ := hold blk h1
              have := h.inj c b blk k k' (by rw [hc]; simp) (by rw [g2]; simp) hl0 g4
              subst this
              exact absurd g1 (hout hv) }

theorem readO_mix {mem : Nat → Option Box} {p q : OT} {a b : Val} {x : p.den} {y : q.den} {N M N' M' : List (Nat × Nat)} (h1 : readO mem p a = some (x, N, M)) (h2 : readO mem q b = some (y, N', M')) : readO mem (.pair p q) (.mix a b) = some ((x, y), N ++ N', M ++ M') := by
  simp only [readO, h1, h2]
  rfl

theorem refArgs_sound : ∀ {ps : List Bool} {A : Ty} {U : OT} {vs : List Val} {xs : List Value} {x : A.den} {u : U.den} {N M : List (Nat × Nat)}, RepL γ σ.mem w vs xs → refArgs σ ps A U vs = some (x, u, N, M) →
    ∃ V ptrs, RArgs w γ.I ps A U x xs ptrs ∧ Rep γ σ.mem w V .cells ptrs ∧ readO σ.mem U V = some (u, N, M) := by
  intro ps
  induction ps with
  | nil =>
    intro A U vs xs x u N M hv h
    cases A <;> first | (cases h; done) | skip
    cases U <;> first | (cases h; done) | skip
    cases vs with
    | cons v r => cases h
    | nil =>
      cases h
      have hx : xs = [] := by have := hv.1; simpa using this
      exact ⟨.data .unit (), [], ⟨rfl, rfl, hx, rfl⟩, rfl, rfl⟩
  | cons p ps ih =>
    intro A U vs xs x u N M hv h
    cases p with
    | false =>
      cases A <;> first | (cases h; done) | skip
      rename_i t A
      cases vs with
      | nil => cases h
      | cons v r =>
        simp only [refArgs] at h
        split at h
        · rename_i x1 y1 u1 q1 h1 h2
          obtain ⟨rfl, q⟩ := Prod.mk.inj (Option.some.inj h)
          obtain ⟨rfl, rfl⟩ := Prod.mk.inj q
          obtain ⟨val, rest, rfl, g1, g2⟩ := hv.cons
          obtain ⟨V, ptrs, k1, k2, k3⟩ := ih g2 h2
          obtain ⟨cs, c1, c2⟩ := toD_cells g1 h1
          exact ⟨V, ptrs, ⟨cs, rest, by rw [c2], c1, k1⟩, k2, k3⟩
        · cases h
    | true =>
      cases U <;> first | (cases h; done) | skip
      rename_i o U
      cases o <;> first | (cases h; done) | skip
      case nilp =>
        cases vs with
        | nil => cases h
        | cons v r =>
          cases v <;> first | (cases h; done) | skip
          simp only [refArgs] at h
          split at h
          · rename_i y1 u1 q h2
            cases h
            obtain ⟨val, rest, rfl, g1, g2⟩ := hv.cons
            obtain ⟨V, ptrs, k1, k2, k3⟩ := ih g2 h2
            exact ⟨.mix .nilp V, val :: ptrs, ⟨val, rest, ptrs, rfl, rfl, k1⟩, ⟨[val], ptrs, rfl, g1, k2⟩, readO_mix (p := .nilp) (q := U) (x := ()) (N := []) (M := []) rfl k3⟩
          · cases h
      rename_i tid o
      cases vs with
      | nil => cases h
      | cons v r =>
        simp only [refArgs] at h
        split at h
        · rename_i x1 N1 M1 y1 u1 N2 M2 h1 h2
          cases h
          obtain ⟨val, rest, rfl, g1, g2⟩ := hv.cons
          obtain ⟨V, ptrs, k1, k2, k3⟩ := ih g2 h2
          have hp : ∃ b ver, v = .ptr b ver [] := by
            have h1' := h1
            unfold readO at h1'
            split at h1'
            · exact ⟨_, _, rfl⟩
            · cases h1'
          obtain ⟨b, ver, rfl⟩ := hp
          exact ⟨.mix (.ptr b ver []) V, val :: ptrs, ⟨val, rest, ptrs, rfl, rfl, k1⟩, ⟨[val], ptrs, rfl, g1, k2⟩, by
            exact readO_mix h1 k3⟩
        · cases h

/-- Blocks of what is handed over are variables' own, and lie apart. -/
theorem names_old {mem : Nat → Option Box} {N M : List (Nat × Nat)} {bs : List Nat} (hN : NameBs γ N bs) (hH : ∀ p ∈ N ++ M, Handed mem p) {blk : Nat} (hb : blk ∈ blksOf bs (M.map fun p => γ.loc p.1)) : ∃ b k, (∃ bx, mem b = some bx) ∧ γ.loc b = some (blk, k) := by
  unfold blksOf at hb
  rcases List.mem_append.1 hb with hb | hb
  · have : some blk ∈ N.map fun p => (γ.loc p.1).map (·.1) := by rw [hN]; exact List.mem_map.2 ⟨blk, hb, rfl⟩
    obtain ⟨p, hp, he⟩ := List.mem_map.1 this
    obtain ⟨q, hq, he⟩ := Option.map_eq_some_iff.1 he
    obtain ⟨bx, j1, _⟩ := hH p (List.mem_append_left _ hp)
    exact ⟨p.1, q.2, ⟨bx, j1⟩, by rw [hq, ← he]⟩
  · obtain ⟨L, hL, he⟩ := List.mem_filterMap.1 hb
    obtain ⟨p, hp, rfl⟩ := List.mem_map.1 hL
    obtain ⟨q, hq, he⟩ := Option.map_eq_some_iff.1 he
    obtain ⟨bx, j1, _⟩ := hH p (List.mem_append_right _ hp)
    exact ⟨p.1, q.2, ⟨bx, j1⟩, by rw [hq, ← he]⟩

theorem locs_nodup {mem : Nat → Option Box} (hm : MemOk B γ mem w) : ∀ {l : List (Nat × Nat)}, (l.map (·.1)).Nodup → (∀ p ∈ l, Handed mem p) → (l.filterMap fun p => (γ.loc p.1).map (·.1)).Nodup := by
  intro l
  induction l with
  | nil => intro _ _; exact List.nodup_nil
  | cons p r ih =>
    intro hd hH
    simp only [List.map_cons, List.nodup_cons] at hd
    have hr := ih hd.2 fun q hq => hH q (List.mem_cons_of_mem _ hq)
    cases hL : (γ.loc p.1).map (·.1) with
    | none => rw [List.filterMap_cons_none (f := fun p : Nat × Nat => (γ.loc p.1).map (·.1)) hL]; exact hr
    | some blk =>
      rw [List.filterMap_cons_some (f := fun p : Nat × Nat => (γ.loc p.1).map (·.1)) hL, List.nodup_cons]
      refine ⟨fun hq => ?_, hr⟩
      obtain ⟨q, hq, he⟩ := List.mem_filterMap.1 hq
      obtain ⟨x, hx, hx2⟩ := Option.map_eq_some_iff.1 hL
      obtain ⟨z, hz, hz2⟩ := Option.map_eq_some_iff.1 he
      obtain ⟨bp, p1, _⟩ := hH p (List.mem_cons_self ..)
      obtain ⟨bq, q1, _⟩ := hH q (List.mem_cons_of_mem _ hq)
      have := hm.inj p.1 q.1 blk x.2 z.2 (by rw [p1]; simp) (by rw [q1]; simp) (by rw [hx, ← hx2]) (by rw [hz, ← hz2])
      exact hd.1 (by rw [this]; exact List.mem_map.2 ⟨q, hq, rfl⟩)

theorem names_nodup {mem : Nat → Option Box} (hm : MemOk B γ mem w) {N M : List (Nat × Nat)} {bs : List Nat} (hN : NameBs γ N bs) (hH : ∀ p ∈ N ++ M, Handed mem p) (hd : (namesOf N M).Nodup) : (blksOf bs (M.map fun p => γ.loc p.1)).Nodup := by
  have h := locs_nodup hm (l := N ++ M) (by rw [List.map_append]; exact hd) hH
  have e : ((N ++ M).filterMap fun p => (γ.loc p.1).map (·.1)) = blksOf bs (M.map fun p => γ.loc p.1) := by
    unfold blksOf
    rw [List.filterMap_append, List.filterMap_map]
    congr 1
    have h2 : (N.filterMap fun p => (γ.loc p.1).map (·.1)) = (N.map fun p => (γ.loc p.1).map (·.1)).filterMap id := by rw [List.filterMap_map]; rfl
    rw [h2, hN, List.filterMap_map]
    exact List.filterMap_some
  rw [← e]; exact h
end
end Go.Ge
