/- A ghost interpreter of the model's code, and that it tells the truth: part 8. It says of a function of plain data what a call of it comes to. -/
import Derived.Test.YtkgjcocemmnpjaaDoorGeG
namespace Go.Ge
set_option linter.unusedVariables false
set_option linter.unusedSimpArgs false
open RowKit

def Le (σ1 σ2 : St) : Prop := ∀ b bx, σ1.mem b = some bx → σ2.mem b = some bx

structure Rel (σ1 σ2 τ1 τ2 : St) : Prop where
  s1 : τ1.slots = σ1.slots
  s2 : τ2.slots = σ2.slots
  m : ∀ b, τ2.mem b = match τ1.mem b with | some x => some x | none => σ2.mem b
  nv : ∀ b, τ1.mem b = none → σ1.mem b = none

section
variable {σ1 σ2 τ1 τ2 ρ1 ρ2 : St}

theorem Rel.refl (h : Le σ1 σ2) : Rel σ1 σ2 σ1 σ2 where
  s1 := rfl
  s2 := rfl
  m := fun b => by
    cases hb : σ1.mem b with
    | none => rfl
    | some x => exact h b x hb
  nv := fun _ h => h

theorem Rel.le (h : Rel σ1 σ2 τ1 τ2) : Le τ1 τ2 := fun b bx hb => by rw [h.m, hb]

theorem Rel.trans (h : Rel σ1 σ2 τ1 τ2) (k : Rel τ1 τ2 ρ1 ρ2) : Rel σ1 σ2 ρ1 ρ2 where
  s1 := k.s1.trans h.s1
  s2 := k.s2.trans h.s2
  m := fun b => by
    rw [k.m b]
    cases hb : ρ1.mem b with
    | some x => rfl
    | none => simp only; rw [h.m b, k.nv b hb]
  nv := fun b hb => h.nv b (k.nv b hb)

theorem Rel.setBox (hle : Le σ1 σ2) {b : Nat} {bx : Box} : Rel σ1 σ2 (σ1.setBox b bx) (σ2.setBox b bx) where
  s1 := rfl
  s2 := rfl
  m := fun c => by
    by_cases e : c = b
    · subst e; simp [St.setBox]
    · rw [setBox_mem, setBox_mem, setMem_other _ e, setMem_other _ e]
      exact (Rel.refl hle).m c
  nv := fun c hc => by
    by_cases e : c = b
    · subst e; simp [St.setBox] at hc
    · rw [setBox_mem, setMem_other _ e] at hc; exact hc

theorem opv_slots {σ τ : St} (h : τ.slots = σ.slots) (x : Operand) : opv τ x = opv σ x := by
  cases x <;> simp [opv, h]

theorem listOf_le (h : Le σ1 σ2) {e : Ty} {v : Val} {l : List e.den} (hl : listOf e σ1 v = some l) : listOf e σ2 v = some l := by
  unfold listOf at hl ⊢
  cases v with
  | whole b ver =>
    simp only at hl ⊢
    cases hb : σ1.mem b with
    | none => rw [hb] at hl; cases hl
    | some bx => rw [hb] at hl; rw [h b bx hb]; exact hl
  | part b ver lo n =>
    simp only at hl ⊢
    cases hb : σ1.mem b with
    | none => rw [hb] at hl; cases hl
    | some bx => rw [hb] at hl; rw [h b bx hb]; exact hl
  | data u y => cases u <;> exact hl
  | _ => exact hl

theorem lend_le (h : Le σ1 σ2) : ∀ {t : Ty} {v : Val} {x : t.den}, lend σ1 t v = some x → lend σ2 t v = some x := by
  intro t
  induction t with
  | slice e ih => intro v x hl; exact listOf_le h hl
  | pair a b iha ihb =>
    intro v x hl
    cases v with
    | mix p q =>
      obtain ⟨y, z, h1, h2, rfl⟩ := lend_mix hl
      exact lend_mix' (iha h1) (ihb h2)
    | data u y => exact hl
    | _ => cases hl
  | alt u a r iha ihr =>
    intro v x hl
    cases v with
    | nili => exact (lend_nili hl).2.1 _
    | _ => exact hl
  | _ => intro v x hl; cases v <;> exact hl

theorem live_le (h : Le σ1 σ2) {b ver : Nat} (hl : live σ1 b ver = true) : live σ2 b ver = true := by
  unfold live at hl ⊢
  cases hb : σ1.mem b with
  | none => rw [hb] at hl; cases hl
  | some bx => rw [hb] at hl; rw [h b bx hb]; exact hl

theorem lenOf_le (h : Le σ1 σ2) {v : Val} {n : Int} (hl : lenOf σ1 v = some n) : lenOf σ2 v = some n := by
  unfold lenOf at hl ⊢
  cases v with
  | whole b ver =>
    simp only at hl ⊢
    cases hb : σ1.mem b with
    | none => rw [hb] at hl; cases hl
    | some bx => rw [hb] at hl; rw [h b bx hb]; exact hl
  | part b ver lo n' =>
    simp only at hl ⊢
    cases hv : live σ1 b ver with
    | false => rw [hv] at hl; cases hl
    | true => rw [hv] at hl; rw [live_le h hv]; exact hl
  | data u y => cases u <;> exact hl
  | _ => exact hl

theorem moreOf_le (h : Le σ1 σ2) {e : Ty} {v : Val} {l : List e.den} (hl : moreOf e σ1 v = some l) : moreOf e σ2 v = some l := by
  unfold moreOf at hl ⊢
  split at hl
  · exact hl
  · exact listOf_le h hl

theorem boxElem_le (h : Le σ1 σ2) {b ver : Nat} {r : Ty × Int} (hl : boxElem σ1 b ver = some r) : boxElem σ2 b ver = some r := by
  unfold boxElem at hl ⊢
  cases hb : σ1.mem b with
  | none => rw [hb] at hl; cases hl
  | some bx => rw [hb] at hl; rw [h b bx hb]; exact hl

theorem freeze_le (h : Le σ1 σ2) {b : Nat} (hf : freeze σ1 b = some τ1) : ∃ τ2, freeze σ2 b = some τ2 ∧ Rel σ1 σ2 τ1 τ2 := by
  unfold freeze at hf ⊢
  cases hb : σ1.mem b with
  | none => rw [hb] at hf; cases hf
  | some bx =>
    rw [hb] at hf
    rw [h b bx hb]
    simp only at hf ⊢
    cases hro : bx.ro with
    | true =>
      simp only [hro, cond_true, Option.some.injEq] at hf ⊢
      subst hf
      exact ⟨_, rfl, Rel.refl h⟩
    | false =>
      cases hlk : bx.lk with
      | true => simp [hro, hlk] at hf
      | false =>
        simp only [hro, hlk, cond_false, Option.some.injEq] at hf ⊢
        subst hf
        exact ⟨_, rfl, Rel.setBox h⟩

theorem freezeV_le : ∀ {v : Val} {σ1 σ2 τ1 : St}, Le σ1 σ2 → freezeV σ1 v = some τ1 → ∃ τ2, freezeV σ2 v = some τ2 ∧ Rel σ1 σ2 τ1 τ2 := by
  intro v
  induction v with
  | mix p q ihp ihq =>
    intro σ1 σ2 τ1 h hf
    obtain ⟨ρ1, h1, h2⟩ := freezeV_mix hf
    obtain ⟨ρ2, k1, k2⟩ := ihp h h1
    obtain ⟨τ2, k3, k4⟩ := ihq k2.le h2
    exact ⟨τ2, by simp only [freezeV, k1, k3], k2.trans k4⟩
  | whole b ver => intro σ1 σ2 τ1 h hf; exact freeze_le h hf
  | part b ver lo n => intro σ1 σ2 τ1 h hf; exact freeze_le h hf
  | _ => intro σ1 σ2 τ1 h hf; obtain rfl := Option.some.inj hf; exact ⟨_, rfl, Rel.refl h⟩

theorem give_le (h : Le σ1 σ2) {t : Ty} {x : t.den} {v : Val} (hg : give σ1 t v = some (x, τ1)) : ∃ τ2, give σ2 t v = some (x, τ2) ∧ Rel σ1 σ2 τ1 τ2 := by
  unfold give at hg ⊢
  cases v with
  | data u y =>
    simp only at hg ⊢
    split at hg
    · rename_i z hz
      obtain ⟨rfl, rfl⟩ := Prod.mk.inj (Option.some.inj hg)
      exact ⟨_, rfl, Rel.refl h⟩
    · cases hg
  | _ =>
    simp only at hg ⊢
    split at hg
    · rename_i y ρ1 hl hf
      obtain ⟨rfl, rfl⟩ := Prod.mk.inj (Option.some.inj hg)
      obtain ⟨τ2, k1, k2⟩ := freezeV_le h hf
      rw [lend_le h hl, k1]
      exact ⟨τ2, rfl, k2⟩
    · cases hg

theorem giveAll_le : ∀ {A : Ty} {x : A.den} {vs : List Val} {σ1 σ2 τ1 : St}, Le σ1 σ2 → giveAll σ1 A vs = some (x, τ1) → ∃ τ2, giveAll σ2 A vs = some (x, τ2) ∧ Rel σ1 σ2 τ1 τ2 := by
  intro A
  induction A with
  | pair t r iht ihr =>
    intro x vs σ1 σ2 τ1 h hl
    cases vs with
    | nil => cases hl
    | cons v vs =>
      simp only [giveAll] at hl ⊢
      split at hl
      · rename_i p ρ1 hp
        obtain ⟨ρ2, k1, k2⟩ := give_le h hp
        split at hl
        · rename_i q ρ1' hq
          obtain ⟨rfl, rfl⟩ := Prod.mk.inj (Option.some.inj hl)
          obtain ⟨τ2, k3, k4⟩ := ihr k2.le hq
          exact ⟨τ2, by simp only [k1, k3], k2.trans k4⟩
        · cases hl
      · cases hl
  | unit =>
    intro x vs σ1 σ2 τ1 h hl
    cases vs with
    | nil => obtain ⟨rfl, rfl⟩ := Prod.mk.inj (Option.some.inj hl); exact ⟨_, rfl, Rel.refl h⟩
    | cons v vs => cases hl
  | _ => intro x vs σ1 σ2 τ1 h hl; cases vs <;> cases hl

theorem buildParts_le {t : Ty} : ∀ {parts : List (Nat × Operand)} {x x' : t.den} {σ1 σ2 τ1 : St}, Le σ1 σ2 → (∀ o ∈ parts.map (·.2), opv σ1 o = opv σ2 o) → buildParts σ1 t x parts = some (x', τ1) →
    ∃ τ2, buildParts σ2 t x parts = some (x', τ2) ∧ Rel σ1 σ2 τ1 τ2 := by
  intro parts
  induction parts with
  | nil => intro x x' σ1 σ2 τ1 h ho hl; obtain ⟨rfl, rfl⟩ := Prod.mk.inj (Option.some.inj hl); exact ⟨_, rfl, Rel.refl h⟩
  | cons p r ih =>
    obtain ⟨k, o⟩ := p
    intro x x' σ1 σ2 τ1 h ho hl
    have h0 : opv σ1 o = opv σ2 o := ho o (by simp)
    simp only [buildParts] at hl ⊢
    split at hl
    · rename_i u hu
      split at hl
      · rename_i y ρ1 hg
        rw [h0] at hg
        obtain ⟨ρ2, k1, k2⟩ := give_le h hg
        split at hl
        · rename_i z hz
          obtain ⟨τ2, k3, k4⟩ := ih k2.le (fun o' ho' => by rw [opv_slots k2.s1, opv_slots k2.s2]; exact ho o' (by simp at ho' ⊢; exact .inr ho')) hl
          exact ⟨τ2, by simp only [k1, hz, k3], k2.trans k4⟩
        · cases hl
      · cases hl
    · cases hl

theorem buildList_le {e : Ty} : ∀ {parts : List (Nat × Operand)} {l l' : List e.den} {σ1 σ2 τ1 : St}, Le σ1 σ2 → (∀ o ∈ parts.map (·.2), opv σ1 o = opv σ2 o) → buildList σ1 e l parts = some (l', τ1) →
    ∃ τ2, buildList σ2 e l parts = some (l', τ2) ∧ Rel σ1 σ2 τ1 τ2 := by
  intro parts
  induction parts with
  | nil => intro x x' σ1 σ2 τ1 h ho hl; obtain ⟨rfl, rfl⟩ := Prod.mk.inj (Option.some.inj hl); exact ⟨_, rfl, Rel.refl h⟩
  | cons p r ih =>
    obtain ⟨k, o⟩ := p
    intro l l' σ1 σ2 τ1 h ho hl
    have h0 : opv σ1 o = opv σ2 o := ho o (by simp)
    simp only [buildList] at hl ⊢
    split at hl
    · rename_i y ρ1 hg
      rw [h0] at hg
      obtain ⟨ρ2, k1, k2⟩ := give_le h hg
      cases hlt : Nat.blt k l.length with
      | false => rw [hlt] at hl; cases hl
      | true =>
        rw [hlt] at hl
        obtain ⟨τ2, k3, k4⟩ := ih k2.le (fun o' ho' => by rw [opv_slots k2.s1, opv_slots k2.s2]; exact ho o' (by simp at ho' ⊢; exact .inr ho')) hl
        exact ⟨τ2, by simp only [k1, cond_true, k3], k2.trans k4⟩
    · cases hl

/-- What is done in a part of memory, laid over all of it. -/
def lift (σ2 : St) (d : Option Nat) (y : St) : St :=
  { slots := match d with | some d => fun t => bif Nat.beq t d then y.slots d else σ2.slots t | none => σ2.slots
    mem := fun b => match y.mem b with | some x => some x | none => σ2.mem b }

theorem lift_putO (R : Rel σ1 σ2 τ1 τ2) (d : Option Nat) (v : Val) : lift σ2 d (τ1.putO d v) = τ2.putO d v := by
  have hm : (fun b => match τ1.mem b with | some x => some x | none => σ2.mem b) = τ2.mem := funext fun b => (R.m b).symm
  cases d with
  | none => simp only [lift, St.putO, hm, ← R.s2]
  | some d =>
    simp only [lift, St.putO, St.put, hm, ← R.s2]
    congr 1
    funext t
    cases hb : Nat.beq t d with
    | true => simp
    | false => simp

def LT (σ2 : St) (d : Option Nat) (T1 T2 : Tree St) : Prop := ∀ y, T1.run = some y → T2.run = some (lift σ2 d y)

variable {d : Option Nat}

theorem LT.fail {T : Tree St} : LT σ2 d .fail T := fun y h => by cases h
theorem LT.ret (R : Rel σ1 σ2 τ1 τ2) {v : Val} : LT σ2 d (.ret (τ1.putO d v)) (.ret (τ2.putO d v)) := fun y h => by
  obtain rfl := Option.some.inj h
  rw [lift_putO R]; rfl
theorem LT.ret' (R : Rel σ1 σ2 τ1 τ2) {k : Nat} {v : Val} : LT σ2 (some k) (.ret (τ1.put k v)) (.ret (τ2.put k v)) := LT.ret (d := some k) R
theorem LT.store (R : Rel σ1 σ2 τ1 τ2) : LT σ2 none (.ret τ1) (.ret τ2) := LT.ret (d := none) (v := .undef) R
theorem LT.bif {c : Bool} {t u : Tree St} (h : LT σ2 d t u) : LT σ2 d (bif c then t else .fail) (bif c then u else .fail) := by cases c <;> first | exact LT.fail | exact h
theorem LT.bif' {c c' : Bool} {t u : Tree St} (hc : c = true → c' = true) (h : LT σ2 d t u) : LT σ2 d (bif c then t else .fail) (bif c' then u else .fail) := by
  cases c with
  | false => exact LT.fail
  | true => rw [hc rfl]; exact h
theorem LT.need {c : Bool} {t u : Tree St} (h : LT σ2 d t u) : LT σ2 d (.need c t) (.need c u) := fun y hy => by
  obtain ⟨rfl, h2⟩ := need_some hy
  exact h y h2
theorem LT.look {T : Type} {o : Option T} {k k' : T → Tree St} (h : ∀ x, LT σ2 d (k x) (k' x)) : LT σ2 d (.look o k) (.look o k') := fun y hy => by
  obtain ⟨x, rfl, h2⟩ := look_some hy
  exact h x y h2
theorem LT.node {c : Bool} {t e t' e' : Tree St} (h : LT σ2 d t t') (k : LT σ2 d e e') : LT σ2 d (.node c t e) (.node c t' e') := fun y hy => by
  have := node_some hy
  cases c with
  | true => exact h y this
  | false => exact k y this
theorem LT.bind {α : Type} {t : Tree α} {f g : α → Tree St} (h : ∀ x, t.run = some x → LT σ2 d (f x) (g x)) : LT σ2 d (t.bind f) (t.bind g) := fun y hy => by
  obtain ⟨x, h1, h2⟩ := bind_some hy
  rw [Tree.run_bind, h1]
  exact h x h1 y h2
theorem LT.newBox (hle : Le σ1 σ2) {k : Nat} {b : Nat} (hb : σ1.mem b = σ2.mem b) {val : Val} {tid : TypeId} {buf : Bool} {v : Nat → Val} :
    LT σ2 (some k) (σ1.newBox b val tid buf fun ver σ => .ret (σ.put k (v ver))) (σ2.newBox b val tid buf fun ver σ => .ret (σ.put k (v ver))) := by
  unfold St.newBox
  rw [← hb]
  cases hq : σ1.mem b with
  | none => exact LT.ret' (Rel.setBox hle)
  | some bx =>
    simp only
    cases bx.lk with
    | true => exact LT.fail
    | false => exact LT.ret' (Rel.setBox hle)
/-- A look into memory. -/
theorem LT.mem (hle : Le σ1 σ2) {b : Nat} {f g : Option Box → Tree St} (h0 : f none = .fail) (h : ∀ bx, σ1.mem b = some bx → LT σ2 d (f (some bx)) (g (some bx))) : LT σ2 d (f (σ1.mem b)) (g (σ2.mem b)) := by
  cases hb : σ1.mem b with
  | none => rw [h0]; exact LT.fail
  | some bx => rw [hle b bx hb]; exact h bx hb
end

end Go.Ge
namespace Go.Ge
set_option linter.unusedVariables false
set_option linter.unusedSimpArgs false
open RowKit

section
variable {σ1 σ2 : St} {d : Option Nat} {cx : Ctx} {nb : Nat} {bf : List Nat} {inl : Nat → List Val → St → Tree (Val × St)}

theorem le_stepAssign (hle : Le σ1 σ2) (hb : ∀ k, d = some k → σ1.mem (nb + k) = σ2.mem (nb + k)) {ty : TypeId} {v : Val} : LT σ2 d (stepAssign cx nb bf d ty v σ1) (stepAssign cx nb bf d ty v σ2) := by
  have R := Rel.refl hle
  unfold stepAssign
  cases v with
  | undef => exact LT.bif (LT.ret R)
  | nils =>
    simp only
    split
    · rename_i k e _
      cases memN bf k with
      | true => exact LT.newBox hle (hb k rfl)
      | false => exact LT.ret' R
    · exact LT.ret R
  | _ => exact LT.ret R

theorem le_stepPick (hle : Le σ1 σ2) {c a b : Val} : LT σ2 d (stepPick d c a b σ1) (stepPick d c a b σ2) := by
  have R := Rel.refl hle
  unfold stepPick
  split
  · split
    · split
      · exact LT.ret R
      · exact LT.fail
    · exact LT.node (LT.ret R) (LT.ret R)
  · exact LT.fail

theorem le_stepLoad (hle : Le σ1 σ2) {ty : TypeId} {a : Val} : LT σ2 d (stepLoad cx d ty a σ1) (stepLoad cx d ty a σ2) := by
  have R := Rel.refl hle
  unfold stepLoad
  cases a with
  | cell u x => exact LT.bif (LT.ret R)
  | ptr b ver p =>
    ((try dsimp only); split <;> first | exact LT.fail | (rename_i hq; rw [(hle b) _ hq]; try dsimp only))
    exact LT.bif (LT.bind fun x _ => LT.bif (LT.ret R))
  | _ => exact LT.fail

theorem le_storeAt {τ1 τ2 : St} (R : Rel σ1 σ2 τ1 τ2) {b ver : Nat} {p : List Sel} {fit : Val → Bool} {v : Val} : LT σ2 none (storeAt b ver p fit v τ1) (storeAt b ver p fit v τ2) := by
  unfold storeAt
  ((try dsimp only); split <;> first | exact LT.fail | (rename_i hq; rw [(R.le b) _ hq]; try dsimp only))
  exact LT.bif (LT.bind fun x _ => LT.bif (LT.bind fun c _ => LT.store (R.trans (Rel.setBox R.le))))

theorem LT.bif2 {c : Bool} {t u t' u' : Tree St} (h : LT σ2 d t u) (h' : LT σ2 d t' u') : LT σ2 d (bif c then t else t') (bif c then u else u') := by cases c <;> first | exact h' | exact h

theorem le_storeOp {τ1 τ2 : St} (R : Rel σ1 σ2 τ1 τ2) {b ver : Nat} {p : List Sel} {n : Nat} {v : Val} : LT σ2 none (storeOp b ver p n v τ1) (storeOp b ver p n v τ2) := by
  unfold storeOp
  ((try dsimp only); split <;> first | exact LT.fail | (rename_i hq; rw [(R.le b) _ hq]; try dsimp only))
  exact LT.bif (LT.bind fun x _ => LT.bif (LT.bind fun c _ => LT.bif (LT.store (R.trans (Rel.setBox R.le)))))

theorem le_stepStore (hle : Le σ1 σ2) {bf : List Nat} {ty : TypeId} {a v : Val} : LT σ2 none (stepStore cx bf ty a v σ1) (stepStore cx bf ty a v σ2) := by
  have R := Rel.refl hle
  unfold stepStore
  cases a with
  | ptr b ver p =>
    ((try dsimp only); split <;> first | exact LT.fail | (rename_i hq; rw [(hle b) _ hq]; try dsimp only))
    refine LT.bif (LT.bind fun old _ => ?_)
    split
    · refine LT.bif (LT.bif2 (le_storeOp R) ?_)
      split
      · rename_i y τ1 hg
        obtain ⟨τ2, k1, k2⟩ := give_le hle hg
        rw [k1]
        exact le_storeAt k2
      · exact LT.fail
    · exact LT.bif (le_storeAt R)
  | _ => exact LT.fail

theorem bounds_le {n : Int} {lo hi : Option Operand} (ho : ∀ x ∈ lo.toList ++ hi.toList, opv σ1 x = opv σ2 x) : bounds σ1 n lo hi = bounds σ2 n lo hi := by
  unfold bounds
  cases lo <;> cases hi <;> simp only <;> simp at ho <;> simp [ho]

theorem le_stepSlice (hle : Le σ1 σ2) {ty : TypeId} {x : Val} {lo hi : Option Operand} (ho : ∀ x ∈ lo.toList ++ hi.toList, opv σ1 x = opv σ2 x) : LT σ2 d (stepSlice cx d ty x lo hi σ1) (stepSlice cx d ty x lo hi σ2) := by
  have R := Rel.refl hle
  have hbd : ∀ n, bounds σ1 n lo hi = bounds σ2 n lo hi := fun n => bounds_le ho
  unfold stepSlice
  split
  · rename_i s _
    rw [hbd]
    ((try dsimp only); split <;> first | exact LT.fail | skip)
    exact LT.need (LT.ret R)
  · rw [hbd]
    refine LT.bif ?_
    ((try dsimp only); split <;> first | exact LT.fail | skip)
    exact LT.need (LT.ret R)
  · rename_i u c ver l n _
    ((try dsimp only); split <;> first | exact LT.fail | (rename_i hq; rw [(hle c) _ hq]; try dsimp only))
    refine LT.bif ?_
    rw [hbd]
    ((try dsimp only); split <;> first | exact LT.fail | skip)
    exact LT.need (LT.ret R)
  · rename_i u c ver _
    ((try dsimp only); split <;> first | exact LT.fail | (rename_i hq; rw [(hle c) _ hq]; try dsimp only))
    refine LT.bif ?_
    split
    · refine LT.bif ?_
      split
      · exact LT.ret R
      · rw [hbd]
        ((try dsimp only); split <;> first | exact LT.fail | skip)
        exact LT.need (LT.ret R)
    · exact LT.fail
  · rw [hbd]
    refine LT.bif' (fun h => ?_) ?_
    · simp only [Bool.and_eq_true] at h ⊢
      exact ⟨live_le hle h.1, h.2⟩
    · ((try dsimp only); split <;> first | exact LT.fail | skip)
      exact LT.need (LT.ret R)
  · rename_i m u c ver _
    ((try dsimp only); split <;> first | exact LT.fail | (rename_i hq; rw [(hle c) _ hq]; try dsimp only))
    refine LT.bif ?_
    split
    · rw [hbd]
      refine LT.bif ?_
      ((try dsimp only); split <;> first | exact LT.fail | skip)
      exact LT.need (LT.ret R)
    · exact LT.fail
  · exact LT.fail

theorem le_atRow (hle : Le σ1 σ2) {b ver : Nat} {i : Int} : ∀ {m k : Nat}, LT σ2 d (atRow d b ver σ1 i m k) (atRow d b ver σ2 i m k) := by
  intro m
  induction m with
  | zero => intro k; exact LT.fail
  | succ m ih => intro k; exact LT.node (LT.ret (Rel.refl hle)) ih

theorem le_stepIndexAddr (hle : Le σ1 σ2) {ty : TypeId} {x : Val} {i : Int} : LT σ2 d (stepIndexAddr cx d ty x i σ1) (stepIndexAddr cx d ty x i σ2) := by
  have R := Rel.refl hle
  unfold stepIndexAddr
  split
  · exact LT.bif (LT.look fun _ => LT.ret R)
  · exact LT.bif (LT.look fun _ => LT.ret R)
  · ((try dsimp only); split <;> first | exact LT.fail | (rename_i hq; rw [((fun r (hr : _ = some r) => boxElem_le hle hr)) _ hq]; try dsimp only))
    exact LT.bif (LT.need (LT.ret R))
  · ((try dsimp only); split <;> first | exact LT.fail | (rename_i hq; rw [((fun r (hr : _ = some r) => boxElem_le hle hr)) _ hq]; try dsimp only))
    exact LT.bif (LT.need (LT.ret R))
  · exact LT.bif' (fun h => live_le hle h) (LT.need (LT.ret R))
  · split
    · refine LT.bif' (fun h => ?_) (le_atRow hle)
      simp only [Bool.and_eq_true] at h ⊢
      exact ⟨h.1, live_le hle h.2⟩
    · exact LT.fail
  · exact LT.fail

theorem le_stepRowAt (hle : Le σ1 σ2) {ty : TypeId} {x : Val} {i : Int} : LT σ2 d (stepRowAt cx d ty x i σ1) (stepRowAt cx d ty x i σ2) := by
  have R := Rel.refl hle
  unfold stepRowAt
  split
  · refine LT.bif' (fun h => ?_) ?_
    · simp only [Bool.and_eq_true] at h ⊢
      exact ⟨h.1, live_le hle h.2⟩
    · split
      · exact LT.bif (LT.ret R)
      · exact LT.fail
  · exact le_stepIndexAddr hle

theorem le_stepIndex (hle : Le σ1 σ2) {ty : TypeId} {x : Val} {i : Int} : LT σ2 d (stepIndex cx d ty x i σ1) (stepIndex cx d ty x i σ2) := by
  have R := Rel.refl hle
  unfold stepIndex
  split
  · exact LT.look fun _ => LT.ret R
  · exact LT.bif (LT.look fun _ => LT.ret R)
  · exact LT.fail

theorem le_stepFieldAddr (hle : Le σ1 σ2) {s : TypeId} {x : Val} {k : Nat} : LT σ2 d (stepFieldAddr cx d s x k σ1) (stepFieldAddr cx d s x k σ2) := by
  have R := Rel.refl hle
  unfold stepFieldAddr
  split
  · refine LT.bif ?_
    split
    · exact LT.ret R
    · exact LT.fail
  · refine LT.bif' (fun h => live_le hle h) ?_
    split
    · split
      · exact LT.ret R
      · exact LT.fail
    · split
      · split
        · exact LT.ret R
        · exact LT.fail
      · exact LT.fail
  · exact LT.fail

theorem le_stepConvert (hle : Le σ1 σ2) (hb : ∀ k, d = some k → σ1.mem (nb + k) = σ2.mem (nb + k)) {s t : TypeId} {x : Val} : LT σ2 d (stepConvert cx nb d s t x σ1) (stepConvert cx nb d s t x σ2) := by
  have R := Rel.refl hle
  unfold stepConvert
  split
  · exact LT.ret R
  · exact LT.ret R
  · split
    · exact LT.need (LT.newBox hle (hb _ rfl))
    · exact LT.fail
  · ((try dsimp only); split <;> first | exact LT.fail | (rename_i hq; rw [((fun r (hr : _ = some r) => listOf_le hle hr)) _ hq]; try dsimp only))
    exact LT.ret R
  · exact LT.fail

theorem le_stepAppend (hle : Le σ1 σ2) (hb : ∀ k, d = some k → σ1.mem (nb + k) = σ2.mem (nb + k)) {ty : TypeId} {s x : Val} : LT σ2 d (stepAppend cx nb d ty s x σ1) (stepAppend cx nb d ty s x σ2) := by
  have R := Rel.refl hle
  unfold stepAppend
  split
  · rename_i k e _
    ((try dsimp only); split <;> first | exact LT.fail | (rename_i hq; rw [((fun r (hr : _ = some r) => moreOf_le hle hr)) _ hq]; try dsimp only))
    split
    · exact LT.need (LT.newBox hle (hb _ rfl))
    · rename_i b ver
      cases hq : σ1.mem b with
      | none => exact LT.fail
      | some bx =>
        rw [hle b bx hq]
        cases hl : listOf e σ1 (.whole b ver) with
        | none => exact LT.fail
        | some l =>
          rw [listOf_le hle hl]
          simp only
          cases (bx.lk || !elOk cx ty bx.tid) with
          | true => exact LT.fail
          | false => exact LT.need (LT.ret' (Rel.setBox hle))
    · exact LT.fail
  · exact LT.fail

theorem readO_le (hle : Le σ1 σ2) : ∀ {o : OT} {v : Val} {r}, readO σ1.mem o v = some r → readO σ2.mem o v = some r := by
  intro o
  induction o with
  | dat t => intro v r h; exact h
  | buf e eid =>
    intro v r h
    cases v <;> first | (cases h; done) | skip
    rename_i b ver
    simp only [readO] at h ⊢
    cases hb : σ1.mem b with
    | none => rw [hb] at h; cases h
    | some bx => rw [hb] at h; rw [hle b bx hb]; exact h
  | map =>
    intro v r h
    cases v <;> first | (cases h; done) | skip
    rename_i b ver
    simp only [readO] at h ⊢
    cases hb : σ1.mem b with
    | none => rw [hb] at h; cases h
    | some bx => rw [hb] at h; rw [hle b bx hb]; exact h
  | ref tid o ih =>
    intro v r h
    cases v <;> first | (cases h; done) | skip
    rename_i b ver pth
    cases pth with
    | cons _ _ => cases h
    | nil =>
      simp only [readO] at h ⊢
      cases hb : σ1.mem b with
      | none => rw [hb] at h; cases h
      | some bx =>
        rw [hb] at h
        rw [hle b bx hb]
        simp only at h ⊢
        cases hcd : (Nat.beq bx.ver ver && !bx.buf && !bx.lk && !bx.ro && Nat.beq bx.tid tid) with
        | false => rw [hcd] at h; cases h
        | true =>
          rw [hcd] at h
          simp only [cond_true] at h ⊢
          cases hr : readO σ1.mem o bx.val with
          | none => rw [hr] at h; cases h
          | some q => rw [hr] at h; rw [ih hr]; exact h
  | rf tid o ih =>
    intro v r h
    cases v <;> first | (cases h; done) | skip
    rename_i b ver pth
    cases pth with
    | cons _ _ => cases h
    | nil =>
      simp only [readO] at h ⊢
      cases hb : σ1.mem b with
      | none => rw [hb] at h; cases h
      | some bx =>
        rw [hb] at h
        rw [hle b bx hb]
        simp only at h ⊢
        cases hcd : (Nat.beq bx.ver ver && !bx.buf && !bx.lk && !bx.ro && Nat.beq bx.tid tid) with
        | false => rw [hcd] at h; cases h
        | true =>
          rw [hcd] at h
          simp only [cond_true] at h ⊢
          cases hr : readO σ1.mem o bx.val with
          | none => rw [hr] at h; cases h
          | some q => rw [hr] at h; rw [ih hr]; exact h
  | pair p q ihp ihq =>
    intro v r h
    unfold readO at h
    split at h
    case h_2 => cases h
    split at h
    case h_2 => cases h
    rename_i h1 h2
    cases h
    exact readO_mix (ihp h1) (ihq h2)
  | unit => intro v r h; exact h
  | nilp => intro v r h; exact h

theorem refArgs_le (hle : Le σ1 σ2) : ∀ {ps : List Bool} {A : Ty} {U : OT} {vs : List Val} {r}, refArgs σ1 ps A U vs = some r → refArgs σ2 ps A U vs = some r := by
  intro ps
  induction ps with
  | nil => intro A U vs r h; exact h
  | cons q ps ih =>
    intro A U vs r h
    cases q with
    | false =>
      cases A <;> first | (cases h; done) | skip
      cases vs with
      | nil => cases h
      | cons v vs =>
        simp only [refArgs] at h ⊢
        split at h
        · rename_i h1 h2
          rw [h1, ih h2]
          exact h
        · cases h
    | true =>
      cases U <;> first | (cases h; done) | skip
      rename_i o U
      cases o <;> first | (cases h; done) | skip
      case nilp =>
        cases vs with
        | nil => cases h
        | cons v vs =>
          cases v <;> first | (cases h; done) | skip
          simp only [refArgs] at h ⊢
          split at h
          · rename_i h2
            rw [ih h2]
            exact h
          · cases h
      cases vs with
      | nil => cases h
      | cons v vs =>
        simp only [refArgs] at h ⊢
        split at h
        · rename_i h1 h2
          rw [readO_le hle h1, ih h2]
          exact h
        · cases h

theorem Rel.setRefs (hle : Le σ1 σ2) {U : OT} {y : U.den} {N M : List (Nat × Nat)} : Rel σ1 σ2 (Go.Ge.setRefs U y N M σ1) (Go.Ge.setRefs U y N M σ2) where
  s1 := rfl
  s2 := rfl
  m := fun b => by
    rw [setRefs_mem, setRefs_mem]
    cases conM U y N (M.map fun p => (p.1, p.2 + 1)) b with
    | some bx => rfl
    | none =>
      cases h : σ1.mem b with
      | some x => exact hle b x h
      | none => rfl
  nv := fun b h => by
    rw [setRefs_mem] at h
    cases hc : conM U y N (M.map fun p => (p.1, p.2 + 1)) b with
    | some bx => rw [hc] at h; cases h
    | none => rw [hc] at h; exact h

theorem lendP_le (hle : Le σ1 σ2) : ∀ {ps : List Bool} {A : Ty} {vs : List Val} {x : A.den}, lendP σ1 ps A vs = some x → lendP σ2 ps A vs = some x := by
  intro ps
  induction ps with
  | nil => intro A vs x h; cases A <;> cases vs <;> first | (cases h; done) | exact h
  | cons p ps ih =>
    intro A vs x hl
    cases A <;> cases vs <;> first | (cases hl; done) | skip
    rename_i t r v vs
    simp only [lendP] at hl ⊢
    split at hl
    · rename_i a b ha hb
      rw [ih hb]
      cases p with
      | false =>
        rw [show (bif false then lendPt σ2 t v else lend σ2 t v) = some a from lend_le hle ha]
        exact hl
      | true =>
        have key : lendPt σ2 t v = some a := by
          have ha : lendPt σ1 t v = some a := ha
          unfold lendPt at ha ⊢
          split at ha
          · split at ha
            case h_2 => cases ha
            rename_i bx hbx
            rw [hle _ _ hbx]
            dsimp only at ha ⊢
            have bif' : ∀ {c : Bool} {p q : Option t.den}, (∀ y, p = some y → q = some y) → (bif c then p else none) = some a → (bif c then q else none) = some a := fun {c _ _} h k => by cases c with
              | false => cases k
              | true => exact h _ k
            exact bif' (fun y h => lend_le hle h) ha
          · exact ha
          · cases ha
        rw [show (bif true then lendPt σ2 t v else lend σ2 t v) = some a from key]
        exact hl
    · cases hl

theorem le_callFn (hle : Le σ1 σ2) {f : Nat} {args : List Val} (hcf : (find cx.con f ≠ none ∨ find cx.spc f = none) ∨ ∃ ps A R s, find cx.spc f = some (.look ps A R s)) : LT σ2 d (callFn cx noInl d f args σ1) (callFn cx inl d f args σ2) := by
  have R := Rel.refl hle
  unfold callFn
  split
  · split
    · have key : ∀ {A : Ty} {vs : List Val} {x : A.den}, lendAll σ1 A vs = some x → lendAll σ2 A vs = some x := by
        intro A
        induction A with
        | pair t r iht ihr =>
          intro vs x hl
          cases vs with
          | nil => cases hl
          | cons v vs =>
            simp only [lendAll] at hl ⊢
            split at hl
            · rename_i p q hp hq
              rw [lend_le hle hp, ihr hq]
              exact hl
            · cases hl
        | unit => intro vs x hl; cases vs <;> exact hl
        | _ => intro vs x hl; cases vs <;> cases hl
      ((try dsimp only); split <;> first | exact LT.fail | (rename_i hq; rw [((fun r (hr : _ = some r) => key hr)) _ hq]; try dsimp only))
      exact LT.look fun _ => LT.ret R
    · split
      · rename_i x τ1 hg
        obtain ⟨τ2, k1, k2⟩ := giveAll_le hle hg
        rw [k1]
        exact LT.look fun _ => LT.ret k2
      · exact LT.fail
  · rename_i hn
    rcases hcf with hcf | ⟨ps, A, R', s, hcf⟩
    case inr =>
      rw [hcf]
      show LT σ2 d (match lendP σ1 ps A args with | some x => .look (s x) fun y => .ret (σ1.putO d (resVal R' y)) | none => .fail) (match lendP σ2 ps A args with | some x => .look (s x) fun y => .ret (σ2.putO d (resVal R' y)) | none => .fail)
      cases hx : lendP σ1 ps A args with
      | none => exact LT.fail
      | some x =>
        simp only
        rw [lendP_le hle hx]
        exact LT.look fun _ => LT.ret R
    rw [hcf.resolve_left fun q => q hn]
    split
    · rename_i hs; cases hs
    · split
      · rename_i k hk
        cases hr : refArgs σ1 k.ps k.A k.U args with
        | none => exact fun y hy => by cases hy
        | some r =>
          rw [refArgs_le hle hr]
          exact LT.bif (LT.look fun y => LT.ret (Rel.setRefs hle))
      · exact fun y hy => by cases hy

theorem LT.newBoxR {τ1 τ2 : St} (R : Rel σ1 σ2 τ1 τ2) {k : Nat} {b : Nat} (hb : σ1.mem b = σ2.mem b) {val : Val} {tid : TypeId} {buf : Bool} {v : Nat → Val} :
    LT σ2 (some k) (τ1.newBox b val tid buf fun ver σ => .ret (σ.put k (v ver))) (τ2.newBox b val tid buf fun ver σ => .ret (σ.put k (v ver))) := by
  have hq : τ1.mem b = τ2.mem b := by
    rw [R.m b]
    cases h : τ1.mem b with
    | some x => rfl
    | none => simp only; rw [← hb, R.nv b h]
  unfold St.newBox
  rw [← hq]
  cases τ1.mem b with
  | none => exact LT.ret' (R.trans (Rel.setBox R.le))
  | some bx =>
    simp only
    cases bx.lk with
    | true => exact LT.fail
    | false => exact LT.ret' (R.trans (Rel.setBox R.le))

theorem le_stepClone (hle : Le σ1 σ2) (hb : ∀ k, d = some k → σ1.mem (nb + k) = σ2.mem (nb + k)) {e : Ty} {args : List Val} : LT σ2 d (stepClone nb e d args σ1) (stepClone nb e d args σ2) := by
  unfold stepClone
  split
  · split
    · rename_i l τ1 hg
      obtain ⟨τ2, k1, k2⟩ := give_le hle hg
      rw [k1]
      exact LT.bif (LT.need (LT.newBoxR k2 (hb _ rfl)))
    · exact LT.fail
  · exact LT.fail

theorem le_stepMaker (hle : Le σ1 σ2) (hb : ∀ k, d = some k → σ1.mem (nb + k) = σ2.mem (nb + k)) {g : Nat} {args : List Val} : LT σ2 d (stepMaker nb g d args σ1) (stepMaker nb g d args σ2) := by
  unfold stepMaker
  split
  · exact LT.fail
  · exact LT.fail
  · exact LT.bif (LT.newBox hle (hb _ rfl) (v := fun ver => .fn g [(_, ver)]))
  · exact LT.fail

theorem ownRef_le {τ1 τ2 : St} (h : Le τ1 τ2) {e : Ty} {v : Val} {r : Nat × Nat × Box × List e.den} (hl : ownRef e τ1 v = some r) : ownRef e τ2 v = some r := by
  cases v with
  | part b ver lo n =>
    simp only [ownRef] at hl ⊢
    cases hb : τ1.mem b with
    | none => rw [hb] at hl; cases hl
    | some bx => rw [hb] at hl; rw [h b bx hb]; exact hl
  | whole b ver =>
    simp only [ownRef] at hl ⊢
    cases hb : τ1.mem b with
    | none => rw [hb] at hl; cases hl
    | some bx => rw [hb] at hl; rw [h b bx hb]; exact hl
  | _ => cases hl

theorem le_stepOwn (hle : Le σ1 σ2) {e A : Ty} {res : Bool} {spec : List e.den → A.den → Option (List e.den)} {args : List Val} : LT σ2 d (stepOwn e A res spec d args σ1) (stepOwn e A res spec d args σ2) := by
  unfold stepOwn
  split
  · split
    · rename_i x τ1 hg
      obtain ⟨τ2, k1, k2⟩ := giveAll_le hle hg
      rw [k1]
      simp only
      split
      · rename_i b ver bx l hor
        rw [ownRef_le k2.le hor]
        simp only
        refine LT.look fun l' => ?_
        cases res with
        | true =>
          cases d with
          | none => exact LT.fail
          | some k => exact LT.ret' (k2.trans (Rel.setBox k2.le))
        | false => cases d <;> exact LT.bif (LT.ret (k2.trans (Rel.setBox k2.le)))
      · exact LT.fail
    · exact LT.fail
  · exact LT.fail

theorem le_callAny (hle : Le σ1 σ2) (hb : ∀ k, d = some k → σ1.mem (nb + k) = σ2.mem (nb + k)) {f : Nat} {args : List Val} (hcf : ownSpc cx bf d f = none → ((find cx.con f ≠ none ∨ find cx.spc f = none) ∨ ∃ ps A R s, find cx.spc f = some (.look ps A R s)) ∨ (find cx.con f = none ∧ ∃ e, find cx.spc f = some (.clone e))) (hcs : ∀ s, ownSpc cx bf d f = some s → (∃ e, s = .clone e) ∨ (∃ e A r q, s = .own e A r q) ∨ ∃ g, s = .maker g) :
    LT σ2 d (callAny cx nb bf noInl d f args σ1) (callAny cx nb bf inl d f args σ2) := by
  unfold callAny
  split
  · exact le_stepClone hle hb
  · exact le_stepOwn hle
  · exact le_stepMaker hle hb
  · rename_i T he
    rcases hcs _ he with ⟨e, h⟩ | ⟨e, A, r, q, h⟩ | ⟨g, h⟩ <;> cases h
  · rename_i h1 h2 h3 h4
    have hn : ownSpc cx bf d f = none := by
      cases hq : ownSpc cx bf d f with
      | none => rfl
      | some s =>
        rcases hcs s hq with ⟨e, rfl⟩ | ⟨e, A, r, q, rfl⟩ | ⟨g, rfl⟩
        · exact absurd hq (h1 e)
        · exact absurd hq (h2 e A r q)
        · exact absurd hq (h3 g)
    rcases hcf hn with hc | ⟨hc, e, he⟩
    · exact le_callFn hle hc
    · unfold callFn
      rw [hc, he]
      exact LT.fail

theorem ownSpc_kind {s : Spc} {f : Nat} (h : ownSpc cx bf d f = some s) : (∃ e, s = .clone e) ∨ (∃ e A r q, s = .own e A r q) ∨ (∃ g, s = .maker g) ∨ ∃ T, s = .tcl T := by
  unfold ownSpc at h
  split at h
  · rename_i e he
    split at h
    · obtain rfl := Option.some.inj h; exact .inl ⟨e, rfl⟩
    · cases h
  · obtain rfl := Option.some.inj h; exact .inr (.inl ⟨_, _, _, _, rfl⟩)
  · obtain rfl := Option.some.inj h; exact .inr (.inr (.inl ⟨_, rfl⟩))
  · obtain rfl := Option.some.inj h; exact .inr (.inr (.inr ⟨_, rfl⟩))
  · cases h

theorem rowVal_eq : ∀ {ps : List (Nat × Operand)} {k : Nat}, (∀ x ∈ ps.map (·.2), opv σ1 x = opv σ2 x) → rowVal σ1 k ps = rowVal σ2 k ps := by
  intro ps
  induction ps with
  | nil => intro k _; rfl
  | cons p r ih =>
    obtain ⟨j, x⟩ := p
    intro k h
    simp only [rowVal]
    rw [h x (by simp), ih (k := k + 1) fun y hy => h y (by simp at hy ⊢; exact .inr hy)]

theorem buildObj_eq {fs : List OFld} : ∀ {ps : List (Nat × Operand)} {v : Val}, (∀ x ∈ ps.map (·.2), opv σ1 x = opv σ2 x) → buildObj σ1 fs v ps = buildObj σ2 fs v ps := by
  intro ps
  induction ps with
  | nil => intro v _; rfl
  | cons p r ih =>
    obtain ⟨k, x⟩ := p
    intro v h
    simp only [buildObj]
    rw [h x (by simp)]
    have hr : ∀ u, buildObj σ1 fs u r = buildObj σ2 fs u r := fun u => ih (v := u) fun y hy => h y (by simp at hy ⊢; exact .inr hy)
    simp only [hr]

theorem le_opStep (hle : Le σ1 σ2) {o : Oper} {ge : Option Nat} (hge : calleeOf o σ2 = ge) (h3 : cls cx ge o ≠ 3) (hop : ∀ x ∈ opnds o.op, opv σ1 x = opv σ2 x) (hb : ∀ k, o.dst = some k → σ1.mem (nb + k) = σ2.mem (nb + k)) :
    LT σ2 o.dst (opStep cx nb bf noInl o σ1) (opStep cx nb bf inl o σ2) := by
  have R := Rel.refl hle
  unfold opStep
  cases ho : o.op with
  | move x => simp only [ho, opnds] at hop ⊢; rw [hop x (by simp)]; exact le_stepAssign hle hb
  | assign x => simp only [ho, opnds] at hop ⊢; rw [hop x (by simp)]; exact le_stepAssign hle hb
  | pick c a b => simp only [ho, opnds] at hop ⊢; rw [hop c (by simp), hop a (by simp), hop b (by simp)]; exact le_stepPick hle
  | alloc e =>
    simp only
    split
    · rename_i k t hk hT
      rw [hk]
      unfold stepAlloc
      split
      · exact absurd (by simp [cls, ho, hT]) h3
      · exact LT.newBox hle (hb k hk)
    · rename_i k hk hT
      rw [hk]
      split
      · rename_i hO
        exact absurd (by simp [cls, ho, hT, hO]) h3
      · exact LT.bif (LT.newBox hle (hb k hk))
    · exact LT.fail
  | box e x =>
    simp only [ho, opnds] at hop ⊢
    rw [hop x (by simp)]
    cases hk : o.dst with
    | none => exact LT.fail
    | some k =>
      have hO : find cx.objs e = none := by
        cases hO : find cx.objs e with
        | none => rfl
        | some fs => exact absurd (by simp [cls, ho, hO]) h3
      cases opv σ2 x <;> simp only [stepBox, hO] <;> first | exact LT.fail | exact LT.newBox hle (hb k hk)
  | build t ps =>
    simp only [ho, opnds] at hop ⊢
    split
    · split
      · rename_i d0 k0 hz
        obtain ⟨hk, _⟩ := zeroAt_some hz
        unfold stepZero
        rw [hk]
        split
        · exact LT.bif (LT.newBox hle (hb d0 hk))
        · exact LT.fail
      split
      · rename_i hg
        obtain ⟨τ2, k1, k2⟩ := buildParts_le hle hop hg
        rw [k1]
        exact LT.ret k2
      · exact LT.fail
    · split
      · rename_i hg
        obtain ⟨τ2, k1, k2⟩ := buildList_le hle hop hg
        rw [k1]
        exact LT.ret k2
      · exact LT.fail
    · split
      · split
        · rw [buildObj_eq hop]
          split
          · exact LT.ret R
          · exact LT.ret R
          · exact LT.fail
        · exact LT.fail
      · exact LT.fail
    · exact LT.fail
  | buildSlice t n ps =>
    simp only [ho, opnds] at hop ⊢
    split
    · split
      · rename_i k hbuf hparts
        have hk := (isBuf_some hbuf).1
        rw [hk]
        exact LT.newBox hle (hb k hk)
      · refine LT.bif ?_
        split
        · rename_i hg
          obtain ⟨τ2, k1, k2⟩ := buildList_le hle hop hg
          rw [k1]
          split
          · rename_i k hk
            dsimp only
            rw [ownRow_some hk]
            exact LT.newBoxR k2 (hb k (ownRow_some hk))
          · exact LT.ret k2
        · exact LT.fail
    · unfold stepRow
      rw [rowVal_eq hop]
      split
      · rename_i k e v hk _ _
        rw [hk]
        exact LT.bif (LT.newBox hle (hb _ hk))
      · exact LT.fail
    · exact LT.fail
  | load t a => simp only [ho, opnds] at hop ⊢; rw [hop a (by simp)]; exact le_stepLoad hle
  | store t a x =>
    simp only [ho, opnds] at hop ⊢
    rw [hop a (by simp), hop x (by simp)]
    cases hq : isNilC x with
    | true => exact absurd (by simp [cls, ho, hq]) h3
    | false =>
    cases hk : o.dst with
    | none =>
      rw [Bool.and_false]
      exact le_stepStore hle
    | some k => exact LT.fail
  | nilCheck x =>
    simp only [ho, opnds] at hop ⊢
    rw [hop x (by simp)]
    cases opv σ2 x with
    | ptr b ver p => exact LT.bif' (fun h => live_le hle h) (LT.ret R)
    | cell t x => exact LT.ret R
    | fn f c => exact LT.ret R
    | _ => exact LT.fail
  | binOp op xt x y yt =>
    simp only [ho, opnds] at hop ⊢
    rw [hop x (by simp), hop y (by simp)]
    intro z hz
    obtain ⟨v, h1, h2⟩ := bind_some hz
    have hb : (binP σ2 (find cx.T xt) (memN cx.ptrs xt) op (opv σ2 x) (opv σ2 y)).run = some v := by
      unfold binP at h1 ⊢
      split at h1
      · obtain ⟨hc, h3⟩ := bif_some h1
        simp only [Bool.and_eq_true] at hc
        rw [live_le hle hc.1, hc.2]
        exact h3
      · obtain ⟨hc, h3⟩ := bif_some h1
        simp only [Bool.and_eq_true] at hc
        rw [live_le hle hc.1, hc.2]
        exact h3
      · exact h1
    rw [Tree.run_bind, hb]
    exact LT.ret R z h2
  | unOp op t x => simp only [ho, opnds] at hop ⊢; rw [hop x (by simp)]; exact LT.bind fun _ _ => LT.ret R
  | convert s t x => simp only [ho, opnds] at hop ⊢; rw [hop x (by simp)]; exact le_stepConvert hle hb
  | makeFunc fn first caps =>
    simp only [ho, opnds] at hop ⊢
    cases fn with
    | func f =>
      simp only
      have : caps.toList.map (opv σ1) = caps.toList.map (opv σ2) := List.map_congr_left fun x hx => hop x (List.mem_append_right _ hx)
      rw [this]
      split
      · exact LT.bif (LT.ret R)
      · rename_i x hx _
        rw [hop x (List.mem_append_left _ (by rw [hx]; exact List.mem_singleton.2 rfl))]
        split
        · exact LT.bif (LT.ret R)
        · exact LT.fail
      · exact LT.fail
    | _ => exact LT.fail
  | slice t x lo hi m =>
    simp only [ho, opnds] at hop ⊢
    cases m with
    | some m => exact LT.fail
    | none =>
      simp only
      rw [hop x (by simp)]
      exact le_stepSlice hle fun y hy => hop y (List.mem_cons_of_mem _ hy)
  | fieldAddr s x k => simp only [ho, opnds] at hop ⊢; rw [hop x (by simp)]; exact le_stepFieldAddr hle
  | field xt x k =>
    simp only [ho, opnds] at hop ⊢
    rw [hop x (by simp)]
    split
    · refine LT.bif ?_
      split
      · exact LT.ret R
      · exact LT.fail
    · exact LT.fail
  | indexAddr t x i =>
    simp only [ho, opnds] at hop ⊢
    rw [hop x (by simp), hop i (by simp)]
    split
    · cases memN bf 5000000 with
      | true => exact le_stepRowAt hle
      | false => exact le_stepIndexAddr hle
    · exact LT.fail
  | index t x i =>
    simp only [ho, opnds] at hop ⊢
    rw [hop x (by simp), hop i (by simp)]
    split
    · exact le_stepIndex hle
    · exact LT.fail
  | makeSlice t l c =>
    simp only [ho, opnds] at hop ⊢
    rw [hop l (by simp), hop c (by simp)]
    cases hk : o.dst with
    | none => exact LT.fail
    | some k =>
      split
      · rename_i k' _ _ _ _ _ hk' _ _ _
        obtain rfl := Option.some.inj hk'
        exact LT.need (LT.need (LT.newBox hle (hb k hk)))
      · exact LT.fail
  | extract t k =>
    simp only [ho, opnds] at hop ⊢
    rw [hop t (by simp)]
    split
    · ((try dsimp only); split <;> first | exact LT.fail | skip)
      exact LT.ret R
    · exact LT.fail
  | call c =>
    simp only [ho, opnds] at hop ⊢
    have hargs : c.args.toList.map (opv σ1) = c.args.toList.map (opv σ2) := List.map_congr_left fun x hx => hop x (List.mem_append_right _ hx)
    unfold stepCall
    rw [hargs]
    cases hc : c.callee with
    | builtin b =>
      simp only
      split
      · rename_i x t _ _
        cases lenTy (find cx.T t) x with
        | true =>
          simp only [cond_true]
          ((try dsimp only); split <;> first | exact LT.fail | (rename_i hq; rw [((fun r (hr : _ = some r) => lenOf_le hle hr)) _ hq]; try dsimp only))
          exact LT.ret R
        | false =>
          simp only [cond_false]
          split
          · refine LT.bif' (fun h => ?_) (LT.ret R)
            simp only [Bool.and_eq_true] at h ⊢
            exact ⟨live_le hle h.1, h.2⟩
          · exact LT.fail
      · split
        · exact le_stepAppend hle hb
        · exact le_stepAppend hle hb
        · exact LT.fail
      · exact absurd (by simp [cls, ho, hc]) h3
      · exact absurd (by simp [cls, ho, hc]) h3
      · exact LT.bind fun _ _ => LT.ret R
      · exact LT.bind fun _ _ => LT.ret R
      · exact LT.fail
    | value f =>
      simp only
      rw [hop f (by rw [hc]; simp)]
      split
      · rename_i g caps hop
        have hcaps : (caps.all fun b => live σ1 b.1 b.2) = true → (caps.all fun b => live σ2 b.1 b.2) = true := fun h => by
          rw [List.all_eq_true] at h ⊢
          exact fun b hm => live_le hle (h b hm)
        have heq : ge = some (fnNo g) := by rw [← hge]; simp [calleeOf, ho, hc, hop]
        refine LT.bif' hcaps (le_callAny hle hb (fun hq => ?_) fun s hs => by
          rcases ownSpc_kind hs with h | h | h | ⟨T, rfl⟩
          · exact .inl h
          · exact .inr (.inl h)
          · exact .inr (.inr h)
          · exact absurd (by simp [cls, ho, hc, heq, ownSpc_some hs]) h3)
        have heq : ge = some (fnNo g) := by rw [← hge]; simp [calleeOf, ho, hc, hop]
        cases hcon : find cx.con (fnNo g) with
        | some c => exact .inl (.inl (.inl (by simp)))
        | none =>
          cases hspc : find cx.spc (fnNo g) with
          | none => exact .inl (.inl (.inr rfl))
          | some s =>
            by_cases hlk : ∃ ps A R q, s = .look ps A R q
            · obtain ⟨ps, A, R, q, rfl⟩ := hlk
              exact .inl (.inr ⟨ps, A, R, q, rfl⟩)
            refine .inr ⟨rfl, ?_⟩
            cases s with
            | look ps A R q => exact absurd ⟨ps, A, R, q, rfl⟩ hlk
            | clone e => exact ⟨e, rfl⟩
            | own e A r q => simp [ownSpc, hspc] at hq
            | maker g => simp [ownSpc, hspc] at hq
            | tcl T => simp [ownSpc, hspc] at hq
            | _ => exact absurd (by simp [cls, ho, hc, heq, hcon, hspc]) h3
      · exact LT.fail
    | invoke r m =>
      simp only
      rw [hop r (by rw [hc]; simp)]
      unfold stepInvoke
      split
      · split
        · rename_i hg
          obtain ⟨τ2, k1, k2⟩ := giveAll_le hle hg
          rw [k1]
          exact LT.look fun _ => LT.ret k2
        · exact LT.fail
      · exact LT.fail
  | makeInterface u x =>
    simp only [ho, opnds] at hop ⊢
    rw [hop x (by simp)]
    unfold stepIface
    split
    · split
      · split
        · rename_i hg
          obtain ⟨τ2, k1, k2⟩ := give_le hle hg
          rw [k1]
          exact LT.ret k2
        · exact LT.fail
      · exact LT.fail
    · exact LT.fail
  | _ => exact LT.fail
end
end Go.Ge
namespace Go.Ge
set_option linter.unusedVariables false
set_option linter.unusedSimpArgs false
open RowKit

theorem memN_mem {l : List Nat} {t : Nat} : memN l t = true ↔ t ∈ l := by
  induction l with
  | nil => simp [memN]
  | cons i r ih =>
    simp only [memN, Bool.or_eq_true, List.mem_cons, ih]
    constructor
    · rintro (h | h)
      · exact .inl (Nat.eq_of_beq_eq_true h)
      · exact .inr h
    · rintro (h | h)
      · subst h; exact .inl (by simp)
      · exact .inr h

theorem memN_false {l : List Nat} {t : Nat} : memN l t = false ↔ t ∉ l := by
  rw [← memN_mem]; simp

theorem tmpsOf_mem {l : List Operand} {t : Nat} (h : Operand.tmp t ∈ l) : t ∈ tmpsOf l := by
  induction l with
  | nil => cases h
  | cons x r ih =>
    rcases List.mem_cons.1 h with h' | h'
    · subst h'; exact List.mem_cons_self ..
    · clear h
      have h := h'
      cases x <;> simp only [tmpsOf]
      case tmp k => exact List.mem_cons_of_mem _ (ih h)
      all_goals exact ih h

section
variable {cx : Ctx} {nb : Nat} {bf : List Nat} {inl : Nat → List Val → St → Tree (Val × St)} {σ σ' τ : St}

/-- A footprint that is an operation's. -/
structure FpOk (cx : Ctx) (nb : Nat) (o : Oper) (fp : Fp) : Prop where
  own : ∀ k, o.dst = some k → nb + k ∈ fp.rd
  sub : ∀ b ∈ fp.wr, b ∈ fp.rd
  w1 : cls cx fp.fn o ≠ 0 → ∀ k, o.dst = some k → nb + k ∈ fp.wr
  w2 : cls cx fp.fn o ≠ 0 → cls cx fp.fn o ≠ 1 → ∀ b ∈ fp.rd, b ∈ fp.wr
  c3 : cls cx fp.fn o ≠ 3

theorem fpOf_ok (o : Oper) (σ : St) (h : (fpOf cx nb o σ).bar = false) : FpOk cx nb o (fpOf cx nb o σ) := by
  have hown : ∀ k, o.dst = some k → nb + k ∈ Go.Ge.own nb o := fun k hk => by simp [Go.Ge.own, hk]
  unfold fpOf at h ⊢
  dsimp only at h ⊢
  split at h <;> rename_i hc
  · exact ⟨fun k hk => List.mem_append_left _ (hown k hk), fun b hb => (nomatch hb), fun h0 => absurd hc h0, fun h0 => absurd hc h0, by rw [hc]; decide⟩
  · exact ⟨fun k hk => List.mem_append_left _ (hown k hk), fun b hb => List.mem_append_left _ hb, fun _ k hk => hown k hk, fun _ h1 => absurd hc h1, by rw [hc]; decide⟩
  · exact ⟨fun k hk => List.mem_append_left _ (hown k hk), fun b hb => hb, fun _ k hk => List.mem_append_left _ (hown k hk), fun _ _ b hb => hb, by rw [hc]; decide⟩
  · cases h

theorem only_le {ts rd : List Nat} : Le { (σ.only ts rd) with slots := σ.slots } σ := fun b bx hb => by
  simp only [St.only] at hb
  cases hm : memN rd b with
  | true => rw [hm] at hb; exact hb
  | false => rw [hm] at hb; cases hb

theorem only_le' {ts rd : List Nat} : Le (σ.only ts rd) σ := fun b bx hb => only_le (ts := ts) b bx hb

theorem only_opv {l : List Operand} {rd : List Nat} {x : Operand} (hx : x ∈ l) : opv (σ.only (tmpsOf l) rd) x = opv σ x := by
  cases x with
  | tmp t =>
    have := memN_mem.2 (tmpsOf_mem hx)
    simp only [opv, St.only, this, cond_true]
  | _ => rfl

theorem fnEq_eq {a b : Option Nat} (h : fnEq a b = true) : a = b := by
  cases a <;> cases b <;> first | rfl | cases h | exact congrArg some (Nat.eq_of_beq_eq_true h)

theorem calleeOf_only (o : Oper) (rd : List Nat) : calleeOf o (σ.only (tmpsOf (opnds o.op)) rd) = calleeOf o σ := by
  unfold calleeOf
  split
  · rename_i c hc
    split
    · rename_i x hx
      rw [only_opv (by rw [hc]; simp [opnds, hx])]
    · rfl
  · rfl

/-- What is done apart is done. -/
theorem iso_sound {fp : Fp} {o : Oper} (hf : fp.bar = false → FpOk cx nb o fp) (hr : (isoStep cx nb bf inl fp o σ).run = some σ') : (opStep cx nb bf inl o σ).run = some σ' := by
  unfold isoStep at hr
  cases hbar : fp.bar with
  | true => rw [hbar] at hr; exact hr
  | false =>
    have hf := hf hbar
    rw [hbar] at hr
    simp only [cond_false] at hr
    obtain ⟨τ, h1, h2⟩ := bind_some hr
    obtain rfl := Option.some.inj h2
    obtain ⟨hfn, h1⟩ := bif_some h1
    have hfn := fnEq_eq hfn
    have hfn2 : calleeOf o σ = fp.fn := by rw [← hfn]; exact (calleeOf_only ..).symm
    have hL := le_opStep (cx := cx) (nb := nb) (bf := bf) (inl := inl) (σ1 := σ.only (tmpsOf (opnds o.op)) fp.rd) (σ2 := σ) only_le' (o := o) hfn2 hf.c3 (fun x hx => only_opv hx)
      (fun k hk => by simp only [St.only, memN_mem.2 (hf.own k hk), cond_true]) τ h1
    rw [hL]
    have hC := chg_opStep (cx := cx) (nb := nb) (bf := bf) (σ := σ.only (tmpsOf (opnds o.op)) fp.rd) (o := o) (p := fun b => b ∈ fp.wr) hfn hf.c3 (fun h0 k hk => hf.w1 h0 k hk) (fun h0 h1 b hb => by
      refine hf.w2 h0 h1 b ?_
      simp only [St.only] at hb
      cases hm : memN fp.rd b with
      | true => exact memN_mem.1 hm
      | false => rw [hm] at hb; exact absurd rfl hb) τ h1
    have hm : (fun b => match τ.mem b with | some x => some x | none => σ.mem b) = fun b => bif memN fp.wr b then τ.mem b else σ.mem b := by
      funext b
      have hrd : b ∈ fp.rd → (σ.only (tmpsOf (opnds o.op)) fp.rd).mem b = σ.mem b := fun h => by simp only [St.only, memN_mem.2 h, cond_true]
      cases hw : memN fp.wr b with
      | true =>
        simp only [cond_true]
        cases hq : τ.mem b with
        | some x => rfl
        | none =>
          simp only
          rw [← hrd (hf.sub b (memN_mem.1 hw))]
          rcases hC b with k | k
          · rw [← k, hq]
          · exact absurd hq k.1
      | false =>
        simp only [cond_false]
        rcases hC b with k | k
        · rw [k]
          cases hq : (σ.only (tmpsOf (opnds o.op)) fp.rd).mem b with
          | none => rfl
          | some x => simp only; exact (only_le' b x hq).symm
        · exact absurd k.2 (memN_false.1 hw)
    unfold lift lay
    exact congrArg (fun m => some (St.mk _ m)) hm

theorem disj_spec {a b : List Nat} (h : disj a b = true) {x : Nat} (hx : x ∈ a) : x ∉ b := by
  simp only [disj, List.all_eq_true, Bool.not_eq_true'] at h
  exact memN_false.1 (h x hx)

theorem apart_spec {x y : Oper} {f g : Fp} (h : apart x y f g = true) : f.bar = false ∧ g.bar = false ∧ (∀ b ∈ f.wr, b ∉ g.rd) ∧ (∀ b ∈ g.wr, b ∉ f.rd) ∧
    (∀ d, x.dst = some d → d ∉ tmpsOf (opnds y.op)) ∧ (∀ d, y.dst = some d → d ∉ tmpsOf (opnds x.op)) ∧ (∀ d e, x.dst = some d → y.dst = some e → d ≠ e) := by
  simp only [apart, Bool.and_eq_true, Bool.not_eq_true'] at h
  obtain ⟨⟨⟨⟨⟨h1, h2⟩, h3⟩, h4⟩, h5⟩, h6⟩ := h
  refine ⟨h1, h2, fun b hb => disj_spec h3 hb, fun b hb => disj_spec h4 hb, fun d hd => ?_, fun d hd => ?_, fun d e hd he => ?_⟩
  · rw [hd] at h5
    simp only [Bool.and_eq_true, Bool.not_eq_true'] at h5
    exact memN_false.1 h5.1
  · rw [hd] at h6
    simp only [Bool.not_eq_true'] at h6
    exact memN_false.1 h6
  · rw [hd, he] at h5
    simp only [Bool.and_eq_true, Bool.not_eq_true'] at h5
    intro q
    subst q
    simp at h5

theorem only_lay {d : Option Nat} {wr ts rd : List Nat} (h1 : ∀ k, d = some k → k ∉ ts) (h2 : ∀ b ∈ wr, b ∉ rd) : (lay σ d wr τ).only ts rd = σ.only ts rd := by
  unfold St.only lay
  congr 1
  · funext t
    cases hm : memN ts t with
    | false => rfl
    | true =>
      simp only [cond_true]
      cases d with
      | none => rfl
      | some k =>
        have : t ≠ k := fun e => h1 k rfl (by rw [← e]; exact memN_mem.1 hm)
        simp [beq_ne this]
  · funext b
    cases hm : memN rd b with
    | false => rfl
    | true =>
      have : b ∉ wr := fun hw => h2 b hw (memN_mem.1 hm)
      simp [memN_false.2 this]

/-- Two that are apart come in either order. -/
theorem iso_comm {oi oj : Oper} {fi fj : Fp} {σ1 σ2 : St} (hap : apart oi oj fi fj = true) (hsi : ∀ b ∈ fi.wr, b ∈ fi.rd) (h1 : (isoStep cx nb bf inl fi oi σ).run = some σ1) (h2 : (isoStep cx nb bf inl fj oj σ1).run = some σ2) :
    ∃ σ1', (isoStep cx nb bf inl fj oj σ).run = some σ1' ∧ (isoStep cx nb bf inl fi oi σ1').run = some σ2 := by
  obtain ⟨b1, b2, w1, w2, d1, d2, d3⟩ := apart_spec hap
  unfold isoStep at h1 h2 ⊢
  rw [b1] at h1
  rw [b2] at h2
  simp only [b1, b2, cond_false] at h1 h2 ⊢
  obtain ⟨τi, i1, i2⟩ := bind_some h1
  obtain rfl := Option.some.inj i2
  obtain ⟨τj, j1, j2⟩ := bind_some h2
  obtain rfl := Option.some.inj j2
  rw [only_lay d1 w1] at j1
  refine ⟨lay σ oj.dst fj.wr τj, by rw [Tree.run_bind, j1]; rfl, ?_⟩
  rw [only_lay d2 w2, Tree.run_bind, i1]
  show some _ = some _
  congr 1
  unfold lay
  congr 1
  · cases hi : oi.dst with
    | none => rfl
    | some k =>
      cases hj : oj.dst with
      | none => rfl
      | some e =>
        have hne := d3 k e hi hj
        funext t
        dsimp only
        by_cases q1 : t = k
        · subst q1; simp [beq_ne hne]
        · by_cases q2 : t = e
          · subst q2; simp [beq_ne q1]
          · simp [beq_ne q1, beq_ne q2]
  · funext b
    dsimp only
    cases hw1 : memN fi.wr b with
    | false => rfl
    | true =>
      have : b ∉ fj.wr := fun hw => w2 b hw (hsi b (memN_mem.1 hw1))
      simp [memN_false.2 this]

/-- What an operation waits for, through others too. -/
inductive Reach (ops : Array Oper) : Nat → Nat → Prop where
  | step {i : Nat} {o : Oper} {e : Edge} (h : ops[i]? = some o) (he : e ∈ o.after) (hb : Region.binds .any e = true) : Reach ops i e.on
  | more {i k : Nat} {o : Oper} {e : Edge} (h : ops[i]? = some o) (he : e ∈ o.after) (hb : Region.binds .any e = true) (r : Reach ops e.on k) : Reach ops i k

/-- What is listed is so behind all that it waits for. -/
def Shut (ops : Array Oper) (listed : Array Bool) : Prop := ∀ i o e, listed.getD i false = true → ops[i]? = some o → e ∈ o.after → Region.binds .any e = true → listed.getD e.on false = true

theorem Reach.listed {ops : Array Oper} {listed : Array Bool} (hs : Shut ops listed) {i k : Nat} (h : Reach ops i k) : listed.getD i false = true → listed.getD k false = true := by
  induction h with
  | step h he hb => exact fun hl => hs _ _ _ hl h he hb
  | more h he hb r ih => exact fun hl => ih (hs _ _ _ hl h he hb)

theorem Reach.ready {ops : Array Oper} {listed : Array Bool} (hs : Shut ops listed) {i k : Nat} (h : Reach ops i k) (hr : i ∈ Region.ready .any ops listed) : listed.getD k false = true := by
  obtain ⟨_, o, ho, hall⟩ := mem_ready.1 hr
  cases h with
  | step h he hb =>
    obtain rfl := Option.some.inj (ho.symm.trans h)
    exact hall _ he hb
  | more h he hb r =>
    obtain rfl := Option.some.inj (ho.symm.trans h)
    exact r.listed hs (hall _ he hb)

theorem Shut.list {ops : Array Oper} {listed : Array Bool} (hs : Shut ops listed) {i : Nat} (hr : i ∈ Region.ready .any ops listed) : Shut ops (listed.setIfInBounds i true) := by
  obtain ⟨_, oi, hoi, hall⟩ := mem_ready.1 hr
  have up : ∀ k, listed.getD k false = true → (listed.setIfInBounds i true).getD k false = true := by
    intro k hk
    by_cases e : i = k
    · subst e
      rcases Nat.lt_or_ge i listed.size with h' | h'
      · simp [h']
      · simp [Array.getElem?_eq_none h'] at hk
    · rw [getD_set_ne false e]; exact hk
  intro j o e hj ho he hb
  by_cases q : i = j
  · subst q
    obtain rfl := Option.some.inj (hoi.symm.trans ho)
    exact up _ (hall e he hb)
  · rw [getD_set_ne false q] at hj
    exact up _ (hs j o e hj ho he hb)

theorem not_both {listed : Array Bool} {i : Nat} (h0 : listed.getD i true = false) (h1 : listed.getD i false = true) : False := by
  rcases Nat.lt_or_ge i listed.size with h' | h'
  · simp [h'] at h0 h1; rw [h0] at h1; cases h1
  · simp [Array.getElem?_eq_none h'] at h1

/-- The numbers' bits tell the truth. -/
def MasksOk (ops : Array Oper) (done : List Done) : Prop := ∀ k, ∀ b, Nat.testBit (maskAt done k) b = true → Reach ops k b

theorem mask_reach {ops : Array Oper} {done : List Done} (hd : MasksOk ops done) {i : Nat} {o : Oper} (ho : ops[i]? = some o) {b : Nat} (h : Nat.testBit (mask done o) b = true) : Reach ops i b := by
  unfold mask at h
  have key : ∀ l : List Edge, (∀ e ∈ l, e ∈ o.after) → Nat.testBit (edgesMask done l) b = true → Reach ops i b := by
    intro l
    induction l with
    | nil => intro _ h; simp [edgesMask] at h
    | cons e r ih =>
      intro hl h
      simp only [edgesMask] at h
      cases hb : Region.binds .any e with
      | false => rw [hb] at h; exact ih (fun e' he' => hl e' (List.mem_cons_of_mem _ he')) h
      | true =>
        rw [hb] at h
        simp only [cond_true, Nat.testBit_or, Bool.or_eq_true] at h
        rcases h with (h | h) | h
        · exact ih (fun e' he' => hl e' (List.mem_cons_of_mem _ he')) h
        · rw [Nat.testBit_two_pow] at h
          have : e.on = b := by simpa using h
          subst this
          exact .step ho (hl e (List.mem_cons_self ..)) hb
        · exact .more ho (hl e (List.mem_cons_self ..)) hb (hd _ _ h)
  exact key _ (fun e he => by simpa using he) h

theorem MasksOk.nil {ops : Array Oper} : MasksOk ops [] := fun k b h => by simp [maskAt] at h
theorem MasksOk.cons {ops : Array Oper} {done : List Done} (hd : MasksOk ops done) {i : Nat} {o : Oper} {f : Fp} (ho : ops[i]? = some o) : MasksOk ops ((i, o, f, mask done o) :: done) := by
  intro k b h
  simp only [maskAt] at h
  cases hk : Nat.beq i k with
  | true =>
    rw [hk] at h
    obtain rfl := Nat.eq_of_beq_eq_true hk
    exact mask_reach hd ho h
  | false => rw [hk] at h; exact hd k b h

/-! ### Every order -/

def AnyG (cx : Ctx) (nb : Nat) (bf : List Nat) (inl : Nat → List Val → St → Tree (Val × St)) (ops : Array Oper) (fp : Nat → Fp) (Q : St → Prop) : Nat → Array Bool → St → Prop
  | 0, listed, σ => Region.ready .any ops listed = [] ∧ Q σ
  | n + 1, listed, σ => (Region.ready .any ops listed = [] → Q σ) ∧
      ∀ i ∈ Region.ready .any ops listed, ∃ o σ', ops[i]? = some o ∧ o.guard = none ∧ (isoStep cx nb bf inl (fp i) o σ).run = some σ' ∧ AnyG cx nb bf inl ops fp Q n (listed.setIfInBounds i true) σ'

variable {ops : Array Oper} {fp : Nat → Fp} {Q : St → Prop}

theorem anyG_first {i : Nat} {oi : Oper} (hi : ops[i]? = some oi) (hgi : oi.guard = none) (hsub : ∀ b ∈ (fp i).wr, b ∈ (fp i).rd) : ∀ (n : Nat) (listed : Array Bool) (σ σ1 : St),
    Shut ops listed → (∀ j oj, ops[j]? = some oj → j ≠ i → listed.getD j true = false → Reach ops j i ∨ apart oi oj (fp i) (fp j) = true) →
    i ∈ Region.ready .any ops listed → (isoStep cx nb bf inl (fp i) oi σ).run = some σ1 → AnyG cx nb bf inl ops fp Q n (listed.setIfInBounds i true) σ1 → AnyG cx nb bf inl ops fp Q (n + 1) listed σ := by
  intro n
  induction n with
  | zero =>
    intro listed σ σ1 hshut hfree hr h1 H
    refine ⟨fun h => (by rw [h] at hr; cases hr), fun j hj => ?_⟩
    by_cases hji : j = i
    · subst hji; exact ⟨oi, σ1, hi, hgi, h1, H⟩
    · have := ready_mono hj hji
      rw [H.1] at this
      cases this
  | succ n ih =>
    intro listed σ σ1 hshut hfree hr h1 H
    refine ⟨fun h => (by rw [h] at hr; cases hr), fun j hj => ?_⟩
    by_cases hji : j = i
    · subst hji; exact ⟨oi, σ1, hi, hgi, h1, H⟩
    · obtain ⟨oj, σ2, hoj, hgj, h2, H2⟩ := H.2 j (ready_mono hj hji)
      obtain ⟨hjun, oj', hoj', hall⟩ := mem_ready.1 hj
      rw [hoj] at hoj'
      obtain rfl := Option.some.inj hoj'
      have hap : apart oi oj (fp i) (fp j) = true := by
        rcases hfree j oj hoj hji hjun with hw | hap
        · exact (not_both (mem_ready.1 hr).1 (hw.ready hshut hj)).elim
        · exact hap
      obtain ⟨σ1', k1, k2⟩ := iso_comm hap hsub h1 h2
      refine ⟨oj, σ1', hoj, hgj, k1, ih (listed.setIfInBounds j true) σ1' σ2 (hshut.list hj) (fun k ok hk hki hun => hfree k ok hk hki ?_) (ready_mono hr (Ne.symm hji)) k2 ?_⟩
      · by_cases hjk : j = k
        · subst hjk; exact hjun
        · rw [getD_set_ne true hjk] at hun; exact hun
      · rw [Array.setIfInBounds_comm _ _ hji]; exact H2
end
end Go.Ge
namespace Go.Ge
set_option linter.unusedVariables false
set_option linter.unusedSimpArgs false
open RowKit

section
variable {P : Program} {B : Own} {N : Nat} {γ : Gh} {cx : Ctx} {nb : Nat} {bf : List Nat} {inl : Nat → List Val → St → Tree (Val × St)} {σ σ' τ : St} {ops : Array Oper} {fp : Nat → Fp}

/-- The operations in their own order, each apart from what may come ahead of it. -/
def LexG (cx : Ctx) (nb : Nat) (bf : List Nat) (inl : Nat → List Val → St → Tree (Val × St)) (ops : Array Oper) (fp : Nat → Fp) : Nat → List Oper → St → St → Prop
  | _, [], σ, σ' => σ = σ'
  | k, o :: l, σ, σ' => o.guard = none ∧ ((fp k).bar = false → FpOk cx nb o (fp k)) ∧ ((fp k).bar = true → (fp k).wr = []) ∧ (∀ e ∈ o.after, Region.binds .any e = true → e.on < k) ∧
      (∀ j oj, l[j]? = some oj → Reach ops (k + 1 + j) k ∨ apart o oj (fp k) (fp (k + 1 + j)) = true) ∧
      ∃ σ1, (isoStep cx nb bf inl (fp k) o σ).run = some σ1 ∧ LexG cx nb bf inl ops fp (k + 1) l σ1 σ'

theorem loose_cons {o : Oper} {f fk : Fp} {k m mk : Nat} {ok : Oper} {r : List Done} (h : loose o f m ((k, ok, fk, mk) :: r) = true) : (Nat.testBit m k = true ∨ apart ok o fk f = true) ∧ loose o f m r = true := by
  simp only [loose, Bool.and_eq_true, Bool.or_eq_true] at h
  exact h

theorem bar_wr (o : Oper) (σ : St) (h : (fpOf cx nb o σ).bar = true) : (fpOf cx nb o σ).wr = [] := by
  unfold fpOf at h ⊢
  dsimp only at h ⊢
  split at h <;> first | cases h | skip
  rfl

theorem lex_of_evalD : ∀ (l : List Oper) (k : Nat) (done : List Done) (σ : St), (∀ j o, l[j]? = some o → ops[k + j]? = some o) → MasksOk ops done → (evalD cx nb bf inl (number k l) done σ).run = some σ' →
    ∃ fs : List (Fp × Nat), fs.length = l.length ∧ (∀ j m b, fs[j]? = some m → Nat.testBit m.2 b = true → Reach ops (k + j) b) ∧
      ∀ fp : Nat → Fp, (∀ j f, fs[j]? = some f → fp (k + j) = f.1) → LexG cx nb bf inl ops fp k l σ σ' ∧ ∀ j o f, l[j]? = some o → fs[j]? = some f → loose o (fp (k + j)) f.2 done = true := by
  intro l
  induction l with
  | nil =>
    intro k done σ _ _ h
    exact ⟨[], rfl, fun j m b h => absurd h (by simp), fun fp _ => ⟨Option.some.inj h, fun j o f hj => absurd hj (by simp)⟩⟩
  | cons o l ih =>
    intro k done σ hl hm h
    simp only [number, evalD] at h
    split at h
    · cases h
    · rename_i hg
      obtain ⟨hc, h1⟩ := bif_some h
      obtain ⟨σ1, h2, h3⟩ := bind_some h1
      simp only [Bool.and_eq_true] at hc
      have hk : ops[k]? = some o := hl 0 o rfl
      obtain ⟨fs, f1, fm, f2⟩ := ih (k + 1) _ σ1 (fun j o' hj => by have := hl (j + 1) o' (by simpa using hj); rw [← this]; congr 1; omega) (hm.cons hk) h3
      refine ⟨(fpOf cx nb o σ, mask done o) :: fs, by simp [f1], fun j m b hj hb => ?_, fun fp hfp => ?_⟩
      · cases j with
        | zero => obtain rfl := Option.some.inj hj; exact mask_reach hm hk hb
        | succ j => have := fm j m b (by simpa using hj) hb; rw [show k + (j + 1) = k + 1 + j by omega]; exact this
      have h0 : fp k = fpOf cx nb o σ := hfp 0 _ rfl
      obtain ⟨g1, g2⟩ := f2 fp fun j f hj => by have := hfp (j + 1) f (by simpa using hj); rw [← this]; congr 1; omega
      refine ⟨⟨hg, fun hb => by rw [h0] at hb ⊢; exact fpOf_ok o σ hb, fun hb => by rw [h0] at hb ⊢; exact bar_wr o σ hb, fun e he hb => ?_, fun j oj hj => ?_, σ1, by rw [h0]; exact h2, g1⟩, fun j o' f hj hf => ?_⟩
      · have := hc.2
        rw [← Array.all_toList, List.all_eq_true] at this
        have := this e (by simpa using he)
        rw [hb] at this
        have := Nat.le_of_ble_eq_true (by simpa [Nat.blt] using this)
        omega
      · obtain ⟨f, hf⟩ : ∃ f, fs[j]? = some f := ⟨_, List.getElem?_eq_getElem (by rw [f1]; exact (List.getElem?_eq_some_iff.1 hj).1)⟩
        rcases (loose_cons (g2 j oj f hj hf)).1 with q | q
        · exact .inl (fm j f k hf q)
        · rw [h0]; exact .inr q
      · cases j with
        | zero =>
          obtain rfl := Option.some.inj hj
          obtain rfl := Option.some.inj hf
          rw [Nat.add_zero, h0]; exact hc.1
        | succ j =>
          have := (loose_cons (g2 j o' f (by simpa using hj) (by simpa using hf))).2
          rw [show k + (j + 1) = k + 1 + j by omega]; exact this

theorem anyG_lex : ∀ (l : List Oper) (k : Nat) (listed : Array Bool) (σ : St), (∀ j, l[j]? = ops[k + j]?) → listed.size = ops.size → (∀ j, j < k → j < ops.size → listed.getD j false = true) →
    (∀ j, k ≤ j → j < ops.size → listed.getD j true = false) → Shut ops listed → LexG cx nb bf inl ops fp k l σ σ' → AnyG cx nb bf inl ops fp (· = σ') l.length listed σ := by
  intro l
  induction l with
  | nil =>
    intro k listed σ hl hs h1 h2 hshut h
    refine ⟨?_, h⟩
    cases hr : Region.ready .any ops listed with
    | nil => rfl
    | cons i r =>
      exfalso
      have hi : i ∈ Region.ready .any ops listed := by rw [hr]; exact List.mem_cons_self ..
      obtain ⟨g1, o, g2, _⟩ := mem_ready.1 hi
      have hlt : i < ops.size := (Array.getElem?_eq_some_iff.1 g2).1
      rcases Nat.lt_or_ge i k with hk | hk
      · have := h1 i hk hlt
        simp [hs, hlt] at this g1
        rw [this] at g1; cases g1
      · have := hl (i - k)
        rw [show k + (i - k) = i by omega, g2] at this
        cases this
  | cons o l ih =>
    intro k listed σ hl hs h1 h2 hshut h
    have hk : ops[k]? = some o := by simpa using (hl 0).symm
    have hlt : k < ops.size := (Array.getElem?_eq_some_iff.1 hk).1
    obtain ⟨c1, c2, c2', c3, c4, σ1, c5, c6⟩ := h
    have hready : k ∈ Region.ready .any ops listed := mem_ready.2 ⟨h2 k (Nat.le_refl _) hlt, o, hk, fun e he hb => by
      have := c3 e he hb
      exact h1 e.on this (by omega)⟩
    refine anyG_first hk c1 (fun b hb => ?_) l.length listed σ σ1 hshut (fun j oj hj hne hun => ?_) hready c5 (ih (k + 1) _ σ1 (fun j => ?_) (by simp [hs]) (fun j hj hjs => ?_) (fun j hj hjs => ?_) (hshut.list hready) c6)
    · cases hbar : (fp k).bar with
      | true => rw [c2' hbar] at hb; cases hb
      | false => exact (c2 hbar).sub b hb
    · have hjlt : j < ops.size := (Array.getElem?_eq_some_iff.1 hj).1
      rcases Nat.lt_or_ge j k with hjk | hjk
      · exfalso
        have := h1 j hjk hjlt
        simp [hs, hjlt] at this hun
        rw [this] at hun; cases hun
      · have hq := hl (j - k)
        rw [show k + (j - k) = j by omega, hj] at hq
        obtain ⟨m, hm⟩ : ∃ m, j - k = m + 1 := ⟨j - k - 1, by omega⟩
        rw [hm] at hq
        have := c4 m oj (by simpa using hq)
        rw [show k + 1 + m = j by omega] at this
        exact this
    · have := hl (j + 1)
      rw [show k + 1 + j = k + (j + 1) by omega, ← this]; simp
    · by_cases e : j = k
      · subst e; simp [hs, hlt]
      · rw [getD_set_ne false (Ne.symm e)]; exact h1 j (by omega) hjs
    · rw [getD_set_ne true (by omega : k ≠ j)]; exact h2 j (by omega) hjs

theorem number_get : ∀ {l : List Oper} {k j : Nat} {o : Oper}, l[j]? = some o → (k + j, o) ∈ number k l := by
  intro l
  induction l with
  | nil => intro k j o h; cases h
  | cons p l ih =>
    intro k j o h
    cases j with
    | zero => obtain rfl := Option.some.inj h; exact List.mem_cons_self ..
    | succ j => exact List.mem_cons_of_mem _ (by rw [show k + (j + 1) = k + 1 + j by omega]; exact ih (by simpa using h))

theorem hits_mem {d : Nat} : ∀ {items : List (Nat × Oper)}, hits d items = false → ∀ {i : Nat} {o : Oper}, (i, o) ∈ items → o.dst ≠ some d := fun h _ _ hm => hits_false h _ _ hm

theorem wpAny_of_anyG (hc : CxOk P cx) (hcon : ConOk P B.G cx) (hinl : InlOk P B.G inl) {Q : Exit → Act → World → Prop} (hfp : ∀ i o, ops[i]? = some o → (fp i).bar = false → FpOk cx nb o (fp i))
    (hd : ∀ o ∈ ops.toList, ∀ k, o.dst = some k → k < N) : ∀ (n : Nat) (listed : Array Bool) (σ : St) (γ : Gh) (a : Act) (w : World), AnyG cx nb bf inl ops fp (· = σ') n listed σ → Sim B N γ σ a w →
      (∀ γ' a' w', Sim B N γ' σ' a' w' → Ext B γ σ.mem w γ' σ'.mem w' → Fr (number 0 ops.toList) a a' → Q .normal a' w') → wpAny P .any ops Q n listed a w := by
  intro n
  induction n with
  | zero =>
    intro listed σ γ a w h hs hK
    obtain ⟨h1, rfl⟩ := h
    exact ⟨h1, hK γ a w hs (Ext.refl _ _ _ _) fun t _ => rfl⟩
  | succ n ih =>
    intro listed σ γ a w h hs hK
    refine ⟨fun h0 => ?_, fun i hi => ?_⟩
    · obtain rfl := h.1 h0
      exact hK γ a w hs (Ext.refl _ _ _ _) fun t _ => rfl
    · obtain ⟨o, σ1, h1, h2, h3, h4⟩ := h.2 i hi
      have hmem : o ∈ ops.toList := by
        have := Array.mem_of_getElem? h1
        simpa using this
      have hitem : (i, o) ∈ number 0 ops.toList := by
        have := number_get (l := ops.toList) (k := 0) (j := i) (o := o) (by simpa using h1)
        simpa using this
      unfold wpOp
      rw [h1]
      dsimp only
      have hw : Region.wanted o (yielded ops a.tmps) = true := by unfold Region.wanted; rw [h2]
      rw [hw]
      simp only [if_true]
      refine .inl (op_sound hc hcon hinl hs (hd o hmem) (iso_sound (hfp i o h1) h3) fun γ1 v w1 s1 x1 => ?_)
      refine ih _ σ1 γ1 _ w1 h4 s1 fun γ2 a2 w2 s2 x2 f2 => hK γ2 a2 w2 s2 (x1.trans x2) fun t ht => ?_
      rw [f2 t ht, getElem?_put (hits_mem ht hitem)]

theorem Sim.draw {a : Act} {w : World} (h : Sim B N γ σ a w) (n : Nat) : Sim B N γ σ a { w with drawn := n } ∧ Ext B γ σ.mem w γ σ.mem { w with drawn := n } := by
  obtain ⟨m1, m2⟩ := h.ok.far (w' := { w with drawn := n }) (I' := γ.I) ⟨rfl, rfl, rfl, Nat.le_refl _, fun _ _ => rfl⟩ (fun _ _ k => k) (fun b o k => h.ok.imm b o k) (fun b o k k' => absurd k k')
  exact ⟨h.go m2 m1, m2⟩

/-- A region whose order is drawn. -/
theorem drawnD_sound (hmix : P.follows .mixedOrders = true) (hc : CxOk P cx) (hcon : ConOk P B.G cx) (hinl : InlOk P B.G inl) {Q : Exit → Act → World → Prop} {id : Nat} {a : Act} {w : World}
    (hd : ∀ o ∈ ops.toList, ∀ k, o.dst = some k → k < N) (hr : (evalD cx nb bf inl (number 0 ops.toList) [] σ).run = some σ') (h : Sim B N γ σ a w)
    (hK : ∀ γ' a' w', Sim B N γ' σ' a' w' → Ext B γ σ.mem w γ' σ'.mem w' → Fr (number 0 ops.toList) a a' → Q .normal a' w') : (Code.region id ops true).wp P Q a w := by
  refine wp_region_any hmix ?_
  obtain ⟨fs, f1, fm, f2⟩ := lex_of_evalD (ops := ops) ops.toList 0 [] σ (fun j o hj => by simpa using hj) MasksOk.nil hr
  let fp : Nat → Fp := fun i => (fs[i]?.map (·.1)).getD ⟨[], [], true, none⟩
  obtain ⟨g1, _⟩ := f2 fp fun j f hj => by simp [fp, hj]
  have key : ∀ (l : List Oper) (k : Nat) (σ : St), LexG cx nb bf inl ops fp k l σ σ' → ∀ j o, l[j]? = some o → (fp (k + j)).bar = false → FpOk cx nb o (fp (k + j)) := by
    intro l
    induction l with
    | nil => intro k σ _ j o hj; cases hj
    | cons o l ih =>
      intro k σ hL j o' hj
      obtain ⟨c1, c2, c2', c3, c4, σ1, c5, c6⟩ := hL
      cases j with
      | zero => obtain rfl := Option.some.inj hj; exact c2
      | succ j => rw [show k + (j + 1) = k + 1 + j by omega]; exact ih (k + 1) σ1 c6 j o' (by simpa using hj)
  have hA := anyG_lex (ops := ops) (cx := cx) (nb := nb) (bf := bf) (inl := inl) (fp := fp) (σ' := σ') ops.toList 0 (Array.replicate ops.size false) σ (by simp) (by simp) (fun j hj => by omega)
    (fun j _ hj => by simp [hj]) (fun i o e hi => by
      exfalso
      rcases Nat.lt_or_ge i ops.size with h' | h' <;> simp [h'] at hi) g1
  obtain ⟨s1, x1⟩ := h.draw (w.drawn + 1)
  refine wpAny_of_anyG hc hcon hinl (fun i o hi => by have := key _ 0 σ g1 i o (by simpa using hi); simpa using this) hd _ _ σ γ a _ (by simpa using hA) s1 fun γ' a' w' s x f => hK γ' a' w' s (x1.trans x) f
end
end Go.Ge
namespace Go.Ge
set_option linter.unusedVariables false
set_option linter.unusedSimpArgs false
open RowKit

section
variable {cx : Ctx} {nb : Nat} {bf : List Nat} {inl : Nat → List Val → St → Tree (Val × St)} {ops : Array Oper} {fp : Nat → Fp}

abbrev Gst := St × (Nat → Bool)

/-- Is an operation carried out? -/
def gdec (ops : Array Oper) (o : Oper) (s : Gst) : Option Bool := match o.guard with
  | none => some true
  | some (g, want) => match (ops[g]?).bind (·.dst) with
    | none => none
    | some dg => bif s.2 g then some false else match s.1.slots dg with
      | .data .bool c => some ((show Bool from c) == want)
      | _ => none

def gstep (cx : Ctx) (nb : Nat) (bf : List Nat) (inl : Nat → List Val → St → Tree (Val × St)) (ops : Array Oper) (f : Fp) (i : Nat) (o : Oper) (s : Gst) : Option Gst := match gdec ops o s with
  | none => none
  | some true => (isoStep cx nb bf inl f o s.1).run.map fun σ => (σ, s.2)
  | some false => some (s.1.putO o.dst .undef, skipped i s.2)

def noSt : St := { slots := fun _ => .undef, mem := fun _ => none }

theorem putO_lay (σ : St) (d : Option Nat) : σ.putO d .undef = lay σ d [] noSt := by
  unfold lay
  cases d with
  | none => rfl
  | some k => rfl

/-- What a step is: something laid over the state. -/
theorem gstep_lay {f : Fp} {i : Nat} {o : Oper} {s s' : Gst} (hb : f.bar = false) (h : gstep cx nb bf inl ops f i o s = some s') : ∃ b wr τ, gdec ops o s = some b ∧ s' = (lay s.1 o.dst wr τ, bif b then s.2 else skipped i s.2) ∧ (∀ x ∈ wr, x ∈ f.wr) ∧
    ∀ s0 : Gst, gdec ops o s0 = some b → (b = true → s0.1.only (tmpsOf (opnds o.op)) f.rd = s.1.only (tmpsOf (opnds o.op)) f.rd) → gstep cx nb bf inl ops f i o s0 = some (lay s0.1 o.dst wr τ, bif b then s0.2 else skipped i s0.2) := by
  unfold gstep at h
  cases hd : gdec ops o s with
  | none => rw [hd] at h; cases h
  | some b =>
    rw [hd] at h
    cases b with
    | true =>
      simp only at h
      obtain ⟨σ', h1, rfl⟩ := Option.map_eq_some_iff.1 h
      unfold isoStep at h1
      rw [hb] at h1
      simp only [cond_false] at h1
      obtain ⟨τ, h2, h3⟩ := bind_some h1
      obtain rfl := Option.some.inj h3
      refine ⟨true, f.wr, τ, rfl, rfl, fun x hx => hx, fun s0 h0 h4 => ?_⟩
      unfold gstep
      rw [h0]
      simp only
      unfold isoStep
      rw [hb]
      simp only [cond_false]
      rw [Tree.run_bind, h4 rfl, h2]
      rfl
    | false =>
      simp only at h
      obtain rfl := Option.some.inj h
      refine ⟨false, [], noSt, rfl, by rw [putO_lay]; rfl, fun x hx => (nomatch hx), fun s0 h0 _ => ?_⟩
      unfold gstep
      rw [h0]
      simp only
      rw [putO_lay]
      rfl

theorem apartG_spec {i j : Nat} {x y : Oper} {f g : Fp} (h : apartG ops i j x y f g = true) : f.bar = false ∧ g.bar = false ∧ (∀ b ∈ f.wr, b ∉ g.rd) ∧ (∀ b ∈ g.wr, b ∉ f.rd) ∧ guardOff x j = true ∧ guardOff y i = true ∧
    (∀ d, x.dst = some d → d ∉ looksG ops y) ∧ (∀ d, y.dst = some d → d ∉ looksG ops x) ∧ (∀ d e, x.dst = some d → y.dst = some e → d ≠ e) := by
  simp only [apartG, Bool.and_eq_true, Bool.not_eq_true'] at h
  obtain ⟨⟨⟨⟨⟨⟨⟨h1, h2⟩, h3⟩, h4⟩, g1⟩, g2⟩, h5⟩, h6⟩ := h
  refine ⟨h1, h2, fun b hb => disj_spec h3 hb, fun b hb => disj_spec h4 hb, g1, g2, fun d hd => ?_, fun d hd => ?_, fun d e hd he => ?_⟩
  · rw [hd] at h5
    simp only [Bool.and_eq_true, Bool.not_eq_true'] at h5
    exact memN_false.1 h5.1
  · rw [hd] at h6
    simp only [Bool.not_eq_true'] at h6
    exact memN_false.1 h6
  · rw [hd, he] at h5
    simp only [Bool.and_eq_true, Bool.not_eq_true'] at h5
    intro q
    subst q
    simp at h5

theorem gdec_stays {i : Nat} {o : Oper} {s : Gst} {d : Option Nat} {wr : List Nat} {τ : St} {b : Bool} (hg : guardOff o i = true) (hd : ∀ k, d = some k → k ∉ looksG ops o) : gdec ops o (lay s.1 d wr τ, bif b then s.2 else skipped i s.2) = gdec ops o s := by
  unfold gdec
  cases hgd : o.guard with
  | none => rfl
  | some p =>
    obtain ⟨g, want⟩ := p
    dsimp only
    cases hdg : (ops[g]?).bind (·.dst) with
    | none => rfl
    | some dg =>
      dsimp only
      have hgi : Nat.beq g i = false := by
        unfold guardOff at hg
        rw [hgd] at hg
        simpa using hg
      have h1 : (bif b then s.2 else skipped i s.2) g = s.2 g := by
        cases b with
        | true => rfl
        | false => simp only [cond_false, skipped, hgi, Bool.false_or]
      have h2 : (lay s.1 d wr τ).slots dg = s.1.slots dg := by
        unfold lay
        cases d with
        | none => rfl
        | some k =>
          have hne : dg ≠ k := fun e => hd k rfl (by
            unfold looksG guardSlot
            rw [hgd]
            dsimp only
            rw [hdg]
            subst e
            exact List.mem_cons_self ..)
          simp [beq_ne hne]
      rw [h1, h2]

theorem lay_comm (σ : St) {di dj : Option Nat} {wi wj : List Nat} {τi τj : St} (hd : ∀ d e, di = some d → dj = some e → d ≠ e) (hw : ∀ b ∈ wi, b ∉ wj) : lay (lay σ dj wj τj) di wi τi = lay (lay σ di wi τi) dj wj τj := by
  unfold lay
  congr 1
  · cases di with
    | none => rfl
    | some k =>
      cases dj with
      | none => rfl
      | some e =>
        have hne := hd k e rfl rfl
        funext t
        dsimp only
        by_cases q1 : t = k
        · subst q1; simp [beq_ne hne]
        · by_cases q2 : t = e
          · subst q2; simp [beq_ne q1]
          · simp [beq_ne q1, beq_ne q2]
  · funext b
    dsimp only
    cases hw1 : memN wi b with
    | false => rfl
    | true =>
      have : b ∉ wj := hw b (memN_mem.1 hw1)
      simp [memN_false.2 this]

theorem gstep_comm {i j : Nat} {oi oj : Oper} {fi fj : Fp} {s s1 s2 : Gst} (hap : apartG ops i j oi oj fi fj = true) (hsi : ∀ b ∈ fi.wr, b ∈ fi.rd) (h1 : gstep cx nb bf inl ops fi i oi s = some s1) (h2 : gstep cx nb bf inl ops fj j oj s1 = some s2) :
    ∃ s1', gstep cx nb bf inl ops fj j oj s = some s1' ∧ gstep cx nb bf inl ops fi i oi s1' = some s2 := by
  obtain ⟨b1, b2, w1, w2, g1, g2, d1, d2, d3⟩ := apartG_spec hap
  obtain ⟨bi, wi, τi, e1, e2, e3, e4⟩ := gstep_lay b1 h1
  subst e2
  obtain ⟨bj, wj, τj, k1, k2, k3, k4⟩ := gstep_lay b2 h2
  subst k2
  rw [gdec_stays g2 d1] at k1
  have tm : ∀ {o : Oper} {k : Nat}, k ∉ looksG ops o → k ∉ tmpsOf (opnds o.op) := fun h hm => h (List.mem_append_right _ hm)
  have hj := k4 s k1 fun _ => (only_lay (fun k hk => tm (d1 k hk)) (fun b hb => w1 b (e3 b hb))).symm
  refine ⟨_, hj, ?_⟩
  have hi := e4 (lay s.1 oj.dst wj τj, bif bj then s.2 else skipped j s.2) (by rw [gdec_stays g1 d2]; exact e1) fun _ => only_lay (fun k hk => tm (d2 k hk)) (fun b hb => w2 b (k3 b hb))
  rw [hi]
  congr 1
  refine Prod.ext ?_ ?_
  · exact lay_comm s.1 d3 (fun b hb hb2 => w2 b (k3 b hb2) (hsi b (e3 b hb)))
  · dsimp only
    cases bi <;> cases bj <;> first | rfl | skip
    simp only [cond_false]
    funext k
    simp only [skipped]
    cases Nat.beq k i <;> cases Nat.beq k j <;> rfl

/-! ### Every order -/

def AnyK (cx : Ctx) (nb : Nat) (bf : List Nat) (inl : Nat → List Val → St → Tree (Val × St)) (ops : Array Oper) (fp : Nat → Fp) (Q : Gst → Prop) : Nat → Array Bool → Gst → Prop
  | 0, listed, s => Region.ready .any ops listed = [] ∧ Q s
  | n + 1, listed, s => (Region.ready .any ops listed = [] → Q s) ∧
      ∀ i ∈ Region.ready .any ops listed, ∃ o s', ops[i]? = some o ∧ gstep cx nb bf inl ops (fp i) i o s = some s' ∧ AnyK cx nb bf inl ops fp Q n (listed.setIfInBounds i true) s'

variable {Q : Gst → Prop}

theorem anyK_first {i : Nat} {oi : Oper} (hi : ops[i]? = some oi) (hsub : ∀ b ∈ (fp i).wr, b ∈ (fp i).rd) : ∀ (n : Nat) (listed : Array Bool) (s s1 : Gst),
    Shut ops listed → (∀ j oj, ops[j]? = some oj → j ≠ i → listed.getD j true = false → Reach ops j i ∨ apartG ops i j oi oj (fp i) (fp j) = true) →
    i ∈ Region.ready .any ops listed → gstep cx nb bf inl ops (fp i) i oi s = some s1 → AnyK cx nb bf inl ops fp Q n (listed.setIfInBounds i true) s1 → AnyK cx nb bf inl ops fp Q (n + 1) listed s := by
  intro n
  induction n with
  | zero =>
    intro listed s s1 hshut hfree hr h1 H
    refine ⟨fun h => (by rw [h] at hr; cases hr), fun j hj => ?_⟩
    by_cases hji : j = i
    · subst hji; exact ⟨oi, s1, hi, h1, H⟩
    · have := ready_mono hj hji
      rw [H.1] at this
      cases this
  | succ n ih =>
    intro listed s s1 hshut hfree hr h1 H
    refine ⟨fun h => (by rw [h] at hr; cases hr), fun j hj => ?_⟩
    by_cases hji : j = i
    · subst hji; exact ⟨oi, s1, hi, h1, H⟩
    · obtain ⟨oj, s2, hoj, h2, H2⟩ := H.2 j (ready_mono hj hji)
      obtain ⟨hjun, oj', hoj', hall⟩ := mem_ready.1 hj
      rw [hoj] at hoj'
      obtain rfl := Option.some.inj hoj'
      have hap : apartG ops i j oi oj (fp i) (fp j) = true := by
        rcases hfree j oj hoj hji hjun with hw | hap
        · exact (not_both (mem_ready.1 hr).1 (hw.ready hshut hj)).elim
        · exact hap
      obtain ⟨s1', k1, k2⟩ := gstep_comm hap hsub h1 h2
      refine ⟨oj, s1', hoj, k1, ih (listed.setIfInBounds j true) s1' s2 (hshut.list hj) (fun k ok hk hki hun => hfree k ok hk hki ?_) (ready_mono hr (Ne.symm hji)) k2 ?_⟩
      · by_cases hjk : j = k
        · subst hjk; exact hjun
        · rw [getD_set_ne true hjk] at hun; exact hun
      · rw [Array.setIfInBounds_comm _ _ hji]; exact H2
end
end Go.Ge
namespace Go.Ge
set_option linter.unusedVariables false
set_option linter.unusedSimpArgs false
open RowKit

section
variable {P : Program} {B : Own} {N : Nat} {γ : Gh} {cx : Ctx} {nb : Nat} {bf : List Nat} {inl : Nat → List Val → St → Tree (Val × St)} {σ σ' : St} {ops : Array Oper} {fp : Nat → Fp}

theorem put_self {σ : St} {d : Nat} {v : Val} (h : σ.slots d = v) : σ.put d v = σ := by
  unfold St.put
  obtain ⟨sl, mm⟩ := σ
  congr 1
  funext t
  cases hb : Nat.beq t d with
  | true => obtain rfl := Nat.eq_of_beq_eq_true hb; exact h.symm
  | false => rfl

def LexK (cx : Ctx) (nb : Nat) (bf : List Nat) (inl : Nat → List Val → St → Tree (Val × St)) (ops : Array Oper) (fp : Nat → Fp) : Nat → List Oper → Gst → Gst → Prop
  | _, [], s, s' => s = s'
  | k, o :: l, s, s' => (((fp k).bar = false → FpOk cx nb o (fp k)) ∧ ((fp k).bar = true → (fp k).wr = [])) ∧ (∀ e ∈ o.after, Region.binds .any e = true → e.on < k) ∧
      (∀ j oj, l[j]? = some oj → Reach ops (k + 1 + j) k ∨ apartG ops k (k + 1 + j) o oj (fp k) (fp (k + 1 + j)) = true) ∧
      ∃ s1, gstep cx nb bf inl ops (fp k) k o s = some s1 ∧ LexK cx nb bf inl ops fp (k + 1) l s1 s'

theorem looseG_cons {i : Nat} {o : Oper} {f fk : Fp} {k m mk : Nat} {ok : Oper} {r : List Done} (h : looseG ops i o f m ((k, ok, fk, mk) :: r) = true) : (Nat.testBit m k = true ∨ apartG ops k i ok o fk f = true) ∧ looseG ops i o f m r = true := by
  simp only [looseG, Bool.and_eq_true, Bool.or_eq_true] at h
  exact h

/-- One operation of the interpreter's walk. -/
theorem evalG_step {i : Nat} {o : Oper} {r : List (Nat × Oper)} {done : List Done} {sk : Nat → Bool} (h : (evalG cx nb bf inl ops ((i, o) :: r) done σ sk).run = some σ') :
    ∃ s1 : Gst, looseG ops i o (fpOf cx nb o σ) (mask done o) done = true ∧ (∀ e ∈ o.after, Region.binds .any e = true → e.on < i) ∧ gstep cx nb bf inl ops (fpOf cx nb o σ) i o (σ, sk) = some s1 ∧
      (evalG cx nb bf inl ops r ((i, o, fpOf cx nb o σ, mask done o) :: done) s1.1 s1.2).run = some σ' := by
  simp only [evalG] at h
  obtain ⟨hc, h1⟩ := bif_some h
  simp only [Bool.and_eq_true] at hc
  obtain ⟨hc2, hc3⟩ := hc
  have hedge : ∀ e ∈ o.after, Region.binds .any e = true → e.on < i := fun e he hb => by
    rw [← Array.all_toList, List.all_eq_true] at hc3
    have := hc3 e (by simpa using he)
    rw [hb] at this
    have := Nat.le_of_ble_eq_true (by simpa [Nat.blt] using this)
    omega
  suffices ∃ s1 : Gst, gstep cx nb bf inl ops (fpOf cx nb o σ) i o (σ, sk) = some s1 ∧ (evalG cx nb bf inl ops r ((i, o, fpOf cx nb o σ, mask done o) :: done) s1.1 s1.2).run = some σ' by
    obtain ⟨s1, k1, k2⟩ := this
    exact ⟨s1, hc2, hedge, k1, k2⟩
  split at h1
  · rename_i hg
    obtain ⟨σ1, h2, h3⟩ := bind_some h1
    refine ⟨(σ1, sk), ?_, h3⟩
    have hd : gdec ops o (σ, sk) = some true := by unfold gdec; rw [hg]
    unfold gstep
    rw [hd]
    dsimp only
    rw [h2]; rfl
  · rename_i g want hg
    split at h1
    · cases h1
    · rename_i dg hdg
      cases hsk : sk g with
      | true =>
        rw [hsk] at h1
        refine ⟨(σ.putO o.dst .undef, skipped i sk), ?_, h1⟩
        have hd : gdec ops o (σ, sk) = some false := by unfold gdec; rw [hg]; dsimp only; rw [hdg]; dsimp only; rw [hsk]; rfl
        unfold gstep
        rw [hd]
      | false =>
        rw [hsk] at h1
        simp only [cond_false] at h1
        split at h1
        · rename_i c hslot
          change Bool at c
          have hn := node_some h1
          have hd : gdec ops o (σ, sk) = some (c == want) := by unfold gdec; rw [hg]; dsimp only; rw [hdg]; dsimp only; rw [hsk]; simp only [cond_false]; rw [hslot]
          have hput := put_self hslot
          have run : ∀ {σ1 : St}, (isoStep cx nb bf inl (fpOf cx nb o σ) o σ).run = some σ1 → (c == want) = true → gstep cx nb bf inl ops (fpOf cx nb o σ) i o (σ, sk) = some (σ1, sk) := fun h2 hw => by
            unfold gstep
            rw [hd, hw]
            dsimp only
            rw [h2]; rfl
          have skip : (c == want) = false → gstep cx nb bf inl ops (fpOf cx nb o σ) i o (σ, sk) = some (σ.putO o.dst .undef, skipped i sk) := fun hw => by
            unfold gstep
            rw [hd, hw]
          cases c with
          | true =>
            simp only [cond_true] at hn
            rw [hput] at hn
            cases want with
            | true => obtain ⟨σ1, h2, h3⟩ := bind_some hn; exact ⟨(σ1, sk), run h2 rfl, h3⟩
            | false => exact ⟨_, skip rfl, hn⟩
          | false =>
            simp only [cond_false] at hn
            rw [hput] at hn
            cases want with
            | true => exact ⟨_, skip rfl, hn⟩
            | false => obtain ⟨σ1, h2, h3⟩ := bind_some hn; exact ⟨(σ1, sk), run h2 rfl, h3⟩
        · cases h1

theorem lexK_of_evalG : ∀ (l : List Oper) (k : Nat) (done : List Done) (σ : St) (sk : Nat → Bool), (∀ j o, l[j]? = some o → ops[k + j]? = some o) → MasksOk ops done → (evalG cx nb bf inl ops (number k l) done σ sk).run = some σ' →
    ∃ (fs : List (Fp × Nat)) (sk' : Nat → Bool), fs.length = l.length ∧ (∀ j m b, fs[j]? = some m → Nat.testBit m.2 b = true → Reach ops (k + j) b) ∧
      ∀ fp : Nat → Fp, (∀ j f, fs[j]? = some f → fp (k + j) = f.1) → LexK cx nb bf inl ops fp k l (σ, sk) (σ', sk') ∧ ∀ j o f, l[j]? = some o → fs[j]? = some f → looseG ops (k + j) o (fp (k + j)) f.2 done = true := by
  intro l
  induction l with
  | nil =>
    intro k done σ sk _ _ h
    obtain rfl := Option.some.inj h
    exact ⟨[], sk, rfl, fun j m b h => absurd h (by simp), fun fp _ => ⟨rfl, fun j o f hj => absurd hj (by simp)⟩⟩
  | cons o l ih =>
    intro k done σ sk hl hm h
    obtain ⟨s1, h2, h3, h4, h5⟩ := evalG_step (r := number (k + 1) l) h
    have hk : ops[k]? = some o := hl 0 o rfl
    obtain ⟨fs, sk', f1, fm, f2⟩ := ih (k + 1) _ s1.1 s1.2 (fun j o' hj => by have := hl (j + 1) o' (by simpa using hj); rw [← this]; congr 1; omega) (hm.cons hk) h5
    refine ⟨(fpOf cx nb o σ, mask done o) :: fs, sk', by simp [f1], fun j m b hj hb => ?_, fun fp hfp => ?_⟩
    · cases j with
      | zero => obtain rfl := Option.some.inj hj; exact mask_reach hm hk hb
      | succ j => have := fm j m b (by simpa using hj) hb; rw [show k + (j + 1) = k + 1 + j by omega]; exact this
    have h0 : fp k = fpOf cx nb o σ := hfp 0 _ rfl
    obtain ⟨g1, g2⟩ := f2 fp fun j f hj => by have := hfp (j + 1) f (by simpa using hj); rw [← this]; congr 1; omega
    refine ⟨⟨⟨fun hb => by rw [h0] at hb ⊢; exact fpOf_ok o σ hb, fun hb => by rw [h0] at hb ⊢; exact bar_wr o σ hb⟩, h3, fun j oj hj => ?_, s1, by rw [h0]; exact h4, g1⟩, fun j o' f hj hf => ?_⟩
    · obtain ⟨f, hf⟩ : ∃ f, fs[j]? = some f := ⟨_, List.getElem?_eq_getElem (by rw [f1]; exact (List.getElem?_eq_some_iff.1 hj).1)⟩
      rcases (looseG_cons (g2 j oj f hj hf)).1 with q | q
      · exact .inl (fm j f k hf q)
      · rw [h0]; exact .inr q
    · cases j with
      | zero =>
        obtain rfl := Option.some.inj hj
        obtain rfl := Option.some.inj hf
        rw [Nat.add_zero, h0]; exact h2
      | succ j =>
        have := (looseG_cons (g2 j o' f (by simpa using hj) (by simpa using hf))).2
        rw [show k + (j + 1) = k + 1 + j by omega]; exact this

theorem anyK_lex {s' : Gst} : ∀ (l : List Oper) (k : Nat) (listed : Array Bool) (s : Gst), (∀ j, l[j]? = ops[k + j]?) → listed.size = ops.size → (∀ j, j < k → j < ops.size → listed.getD j false = true) →
    (∀ j, k ≤ j → j < ops.size → listed.getD j true = false) → Shut ops listed → LexK cx nb bf inl ops fp k l s s' → AnyK cx nb bf inl ops fp (· = s') l.length listed s := by
  intro l
  induction l with
  | nil =>
    intro k listed s hl hs h1 h2 hshut h
    refine ⟨?_, h⟩
    cases hr : Region.ready .any ops listed with
    | nil => rfl
    | cons i r =>
      exfalso
      have hi : i ∈ Region.ready .any ops listed := by rw [hr]; exact List.mem_cons_self ..
      obtain ⟨g1, o, g2, _⟩ := mem_ready.1 hi
      have hlt : i < ops.size := (Array.getElem?_eq_some_iff.1 g2).1
      rcases Nat.lt_or_ge i k with hk | hk
      · have := h1 i hk hlt
        simp [hs, hlt] at this g1
        rw [this] at g1; cases g1
      · have := hl (i - k)
        rw [show k + (i - k) = i by omega, g2] at this
        cases this
  | cons o l ih =>
    intro k listed s hl hs h1 h2 hshut h
    have hk : ops[k]? = some o := by simpa using (hl 0).symm
    have hlt : k < ops.size := (Array.getElem?_eq_some_iff.1 hk).1
    obtain ⟨c2, c3, c4, s1, c5, c6⟩ := h
    have hready : k ∈ Region.ready .any ops listed := mem_ready.2 ⟨h2 k (Nat.le_refl _) hlt, o, hk, fun e he hb => by
      have := c3 e he hb
      exact h1 e.on this (by omega)⟩
    refine anyK_first hk (fun b hb => by
      cases hbar : (fp k).bar with
      | true => rw [c2.2 hbar] at hb; cases hb
      | false => exact (c2.1 hbar).sub b hb) l.length listed s s1 hshut (fun j oj hj hne hun => ?_) hready c5 (ih (k + 1) _ s1 (fun j => ?_) (by simp [hs]) (fun j hj hjs => ?_) (fun j hj hjs => ?_) (hshut.list hready) c6)
    · have hjlt : j < ops.size := (Array.getElem?_eq_some_iff.1 hj).1
      rcases Nat.lt_or_ge j k with hjk | hjk
      · exfalso
        have := h1 j hjk hjlt
        simp [hs, hjlt] at this hun
        rw [this] at hun; cases hun
      · have hq := hl (j - k)
        rw [show k + (j - k) = j by omega, hj] at hq
        obtain ⟨m, hm⟩ : ∃ m, j - k = m + 1 := ⟨j - k - 1, by omega⟩
        rw [hm] at hq
        have := c4 m oj (by simpa using hq)
        rw [show k + 1 + m = j by omega] at this
        exact this
    · have := hl (j + 1)
      rw [show k + 1 + j = k + (j + 1) by omega, ← this]; simp
    · by_cases e : j = k
      · subst e; simp [hs, hlt]
      · rw [getD_set_ne false (Ne.symm e)]; exact h1 j (by omega) hjs
    · rw [getD_set_ne true (by omega : k ≠ j)]; exact h2 j (by omega) hjs

theorem keep_evalG (hkeep : ∀ f vals σ v σ', (inl f vals σ).run = some (v, σ') → Keep σ σ') : ∀ (l : List Oper) (k : Nat) (done : List Done) (σ σ' : St) (sk : Nat → Bool), (evalG cx nb bf inl ops (number k l) done σ sk).run = some σ' → Keep σ σ' := by
  intro l
  induction l with
  | nil => intro k done σ σ' sk h; obtain rfl := Option.some.inj h; exact Keep.refl _
  | cons o l ih =>
    intro k done σ σ' sk h
    obtain ⟨s1, h2, h3, h4, h5⟩ := evalG_step (r := number (k + 1) l) h
    refine Keep.trans ?_ (ih _ _ _ _ _ h5)
    unfold gstep at h4
    split at h4
    · cases h4
    · obtain ⟨σ1, q1, rfl⟩ := Option.map_eq_some_iff.1 h4
      exact keep_opStep hkeep σ1 (iso_sound (fun hb => fpOf_ok o σ hb) q1)
    · obtain rfl := Option.some.inj h4
      exact Keep.putO _ _ _
end
end Go.Ge
namespace Go.Ge
set_option linter.unusedVariables false
set_option linter.unusedSimpArgs false
open RowKit

section
variable {P : Program} {B : Own} {N : Nat} {γ : Gh} {cx : Ctx} {nb : Nat} {bf : List Nat} {inl : Nat → List Val → St → Tree (Val × St)} {σ σ' : St} {ops : Array Oper} {fp : Nat → Fp}

theorem opDsts_mem {l : List Oper} {j : Nat} {o : Oper} {d : Nat} (h : l[j]? = some o) (hd : o.dst = some d) : d ∈ noTwice.opDsts l := by
  induction l generalizing j with
  | nil => cases h
  | cons p l ih =>
    cases j with
    | zero => obtain rfl := Option.some.inj h; simp only [noTwice.opDsts, hd]; exact List.mem_cons_self ..
    | succ j =>
      have := ih (j := j) (by simpa using h)
      simp only [noTwice.opDsts]
      split
      · exact List.mem_cons_of_mem _ this
      · exact this

theorem noTwice_lt : ∀ {l : List Oper}, noTwice l = true → ∀ {i j : Nat} {x y : Oper} {d : Nat}, i < j → l[i]? = some x → l[j]? = some y → x.dst = some d → y.dst ≠ some d := by
  intro l
  induction l with
  | nil => intro _ i j x y d _ h; cases h
  | cons p l ih =>
    intro h i j x y d hij hx hy hd he
    simp only [noTwice, Bool.and_eq_true] at h
    obtain ⟨m, rfl⟩ : ∃ m, j = m + 1 := ⟨j - 1, by omega⟩
    have hy' : l[m]? = some y := by simpa using hy
    cases i with
    | zero =>
      obtain rfl := Option.some.inj hx
      have h1 := h.1
      rw [hd] at h1
      simp only [Bool.not_eq_true'] at h1
      exact memN_false.1 h1 (opDsts_mem hy' he)
    | succ i => exact ih h.2 (i := i) (j := m) (by omega) (by simpa using hx) hy' hd he

theorem noTwice_ne (h : noTwice ops.toList = true) {i j : Nat} {x y : Oper} {d : Nat} (hij : i ≠ j) (hx : ops[i]? = some x) (hy : ops[j]? = some y) (hd : x.dst = some d) : y.dst ≠ some d := by
  rcases Nat.lt_or_gt_of_ne hij with h1 | h1
  · exact noTwice_lt h h1 (by simpa using hx) (by simpa using hy) hd
  · intro he
    exact noTwice_lt h h1 (by simpa using hy) (by simpa using hx) he hd

/-- What was skipped has yielded nothing. -/
def SkOk (ops : Array Oper) (sk : Nat → Bool) (listed : Array Bool) (a : Act) : Prop := ∀ k, sk k = true → yielded ops a.tmps k = none ∧ listed.getD k true = true

theorem yielded_put_other {a : Act} {i k : Nat} {o : Oper} {v : Value} (hnt : noTwice ops.toList = true) (hi : ops[i]? = some o) (hne : k ≠ i) : yielded ops (a.put o.dst v).tmps k = yielded ops a.tmps k := by
  unfold yielded
  cases hk : ops[k]? with
  | none => rfl
  | some y =>
    simp only [Option.bind_some]
    cases hd : y.dst with
    | none => rfl
    | some dk =>
      simp only [Option.bind_some]
      have : o.dst ≠ some dk := noTwice_ne hnt hne hk hi hd
      rw [getElem?_put this]

theorem SkOk.run {sk : Nat → Bool} {listed : Array Bool} {a : Act} {i : Nat} {o : Oper} {v : Value} (h : SkOk ops sk listed a) (hnt : noTwice ops.toList = true) (hi : ops[i]? = some o) (hl : listed.getD i true = false) : SkOk ops sk (listed.setIfInBounds i true) (a.put o.dst v) := fun k hk => by
  obtain ⟨h1, h2⟩ := h k hk
  have hne : k ≠ i := fun e => by subst e; rw [h2] at hl; cases hl
  exact ⟨by rw [yielded_put_other hnt hi hne]; exact h1, by rw [getD_set_ne true (Ne.symm hne)]; exact h2⟩

theorem SkOk.skip {sk : Nat → Bool} {listed : Array Bool} {a : Act} {i : Nat} {o : Oper} (h : SkOk ops sk listed a) (hnt : noTwice ops.toList = true) (hi : ops[i]? = some o) (hl : listed.getD i true = false) : SkOk ops (skipped i sk) (listed.setIfInBounds i true) (a.put o.dst Go.undef) := fun k hk => by
  by_cases hne : k = i
  · subst hne
    refine ⟨yielded_self hi, ?_⟩
    rcases Nat.lt_or_ge k listed.size with h' | h'
    · simp [h']
    · simp [Array.getElem?_eq_none h'] at hl
  · have hk' : sk k = true := by
      simp only [skipped, beq_ne hne, Bool.false_or] at hk
      exact hk
    obtain ⟨h1, h2⟩ := h k hk'
    exact ⟨by rw [yielded_put_other hnt hi hne]; exact h1, by rw [getD_set_ne true (Ne.symm hne)]; exact h2⟩

theorem wpAny_of_anyK (hc : CxOk P cx) (hcon : ConOk P B.G cx) (hinl : InlOk P B.G inl) {Q : Exit → Act → World → Prop} (hnt : noTwice ops.toList = true) (hfp : ∀ i o, ops[i]? = some o → (fp i).bar = false → FpOk cx nb o (fp i))
    (hd : ∀ o ∈ ops.toList, ∀ k, o.dst = some k → k < N) : ∀ (n : Nat) (listed : Array Bool) (s : Gst) (γ : Gh) (a : Act) (w : World), AnyK cx nb bf inl ops fp (fun s => s.1 = σ') n listed s → Sim B N γ s.1 a w → SkOk ops s.2 listed a →
      (∀ γ' a' w', Sim B N γ' σ' a' w' → Ext B γ s.1.mem w γ' σ'.mem w' → Fr (number 0 ops.toList) a a' → Q .normal a' w') → wpAny P .any ops Q n listed a w := by
  intro n
  induction n with
  | zero =>
    intro listed s γ a w h hs hsk hK
    obtain ⟨h1, h2⟩ := h
    rw [← h2] at hK
    exact ⟨h1, hK γ a w hs (Ext.refl _ _ _ _) fun t _ => rfl⟩
  | succ n ih =>
    intro listed s γ a w h hs hsk hK
    refine ⟨fun h0 => ?_, fun i hi => ?_⟩
    · have h2 := h.1 h0
      rw [← h2] at hK
      exact hK γ a w hs (Ext.refl _ _ _ _) fun t _ => rfl
    · obtain ⟨o, s1, h1, h3, h4⟩ := h.2 i hi
      have hun := (mem_ready.1 hi).1
      have hmem : o ∈ ops.toList := by
        have := Array.mem_of_getElem? h1
        simpa using this
      have hitem : (i, o) ∈ number 0 ops.toList := by
        have := number_get (l := ops.toList) (k := 0) (j := i) (o := o) (by simpa using h1)
        simpa using this
      -- whether it is wanted
      have hw : ∀ b, gdec ops o s = some b → Region.wanted o (yielded ops a.tmps) = b := by
        intro b hb
        unfold gdec at hb
        cases hgd : o.guard with
        | none =>
          rw [hgd] at hb
          obtain rfl := Option.some.inj hb
          unfold Region.wanted; rw [hgd]
        | some p =>
          obtain ⟨g, want⟩ := p
          rw [hgd] at hb
          dsimp only at hb
          split at hb
          · cases hb
          · rename_i dg hdg
            cases hg : s.2 g with
            | true =>
              rw [hg] at hb
              obtain rfl := Option.some.inj hb
              unfold Region.wanted
              rw [hgd]
              simp only [(hsk g hg).1]
              rfl
            | false =>
              rw [hg] at hb
              simp only [cond_false] at hb
              split at hb
              · rename_i c hslot
                change Bool at c
                obtain rfl := Option.some.inj hb
                have ht := tmps_of_rep hs hslot
                unfold Region.wanted
                rw [hgd]
                simp only [yielded, hdg, Option.bind_some, ht]
                cases c <;> cases want <;> rfl
              · cases hb
      unfold wpOp
      rw [h1]
      dsimp only
      unfold gstep at h3
      split at h3
      · cases h3
      · rename_i hdec
        obtain ⟨σ1, q1, rfl⟩ := Option.map_eq_some_iff.1 h3
        rw [hw true hdec]
        simp only [if_true]
        refine .inl (op_sound hc hcon hinl hs (hd o hmem) (iso_sound (hfp i o h1) q1) fun γ1 v w1 s1 x1 => ?_)
        refine ih _ (σ1, s.2) γ1 _ w1 h4 s1 (hsk.run hnt h1 hun) fun γ2 a2 w2 s2 x2 f2 => hK γ2 a2 w2 s2 (x1.trans x2) fun t ht => ?_
        rw [f2 t ht, getElem?_put (hits_mem ht hitem)]
      · rename_i hdec
        obtain rfl := Option.some.inj h3
        rw [hw false hdec]
        simp only [Bool.false_eq_true, if_false]
        have hs1 : Sim B N γ (s.1.putO o.dst .undef) (a.put o.dst Go.undef) w := hs.putO' (hd o hmem) ⟨_, rfl⟩
        have hm : (s.1.putO o.dst .undef).mem = s.1.mem := by cases o.dst <;> rfl
        refine ih _ (s.1.putO o.dst .undef, skipped i s.2) γ _ w h4 hs1 (hsk.skip hnt h1 hun) fun γ2 a2 w2 s2 x2 f2 => hK γ2 a2 w2 s2 (by rw [← hm]; exact x2) fun t ht => ?_
        rw [f2 t ht, getElem?_put (hits_mem ht hitem)]

theorem AnyK.mono {Q Q' : Gst → Prop} (hq : ∀ s, Q s → Q' s) : ∀ {n : Nat} {listed : Array Bool} {s : Gst}, AnyK cx nb bf inl ops fp Q n listed s → AnyK cx nb bf inl ops fp Q' n listed s := by
  intro n
  induction n with
  | zero => intro listed s h; exact ⟨h.1, hq _ h.2⟩
  | succ n ih =>
    intro listed s h
    refine ⟨fun h0 => hq _ (h.1 h0), fun i hi => ?_⟩
    obtain ⟨o, s', h1, h2, h3⟩ := h.2 i hi
    exact ⟨o, s', h1, h2, ih h3⟩

theorem drawnG_sound (hmix : P.follows .mixedOrders = true) (hc : CxOk P cx) (hcon : ConOk P B.G cx) (hinl : InlOk P B.G inl) {Q : Exit → Act → World → Prop} {id : Nat} {a : Act} {w : World} (hnt : noTwice ops.toList = true)
    (hd : ∀ o ∈ ops.toList, ∀ k, o.dst = some k → k < N) (hr : (evalG cx nb bf inl ops (number 0 ops.toList) [] σ (fun _ => false)).run = some σ') (h : Sim B N γ σ a w)
    (hK : ∀ γ' a' w', Sim B N γ' σ' a' w' → Ext B γ σ.mem w γ' σ'.mem w' → Fr (number 0 ops.toList) a a' → Q .normal a' w') : (Code.region id ops true).wp P Q a w := by
  refine wp_region_any hmix ?_
  obtain ⟨fs, sk', f1, fm, f2⟩ := lexK_of_evalG (ops := ops) ops.toList 0 [] σ (fun _ => false) (fun j o hj => by simpa using hj) MasksOk.nil hr
  let fp : Nat → Fp := fun i => (fs[i]?.map (·.1)).getD ⟨[], [], true, none⟩
  obtain ⟨g1, _⟩ := f2 fp fun j f hj => by simp [fp, hj]
  have key : ∀ (l : List Oper) (k : Nat) (s s' : Gst), LexK cx nb bf inl ops fp k l s s' → ∀ j o, l[j]? = some o → (fp (k + j)).bar = false → FpOk cx nb o (fp (k + j)) := by
    intro l
    induction l with
    | nil => intro k s s' _ j o hj; cases hj
    | cons o l ih =>
      intro k s s' hL j o' hj
      obtain ⟨c2, c3, c4, s1, c5, c6⟩ := hL
      cases j with
      | zero => obtain rfl := Option.some.inj hj; exact c2.1
      | succ j => rw [show k + (j + 1) = k + 1 + j by omega]; exact ih (k + 1) s1 s' c6 j o' (by simpa using hj)
  have hA := anyK_lex (ops := ops) (cx := cx) (nb := nb) (bf := bf) (inl := inl) (fp := fp) (s' := (σ', sk')) ops.toList 0 (Array.replicate ops.size false) (σ, fun _ => false) (by simp) (by simp) (fun j hj => by omega)
    (fun j _ hj => by simp [hj]) (fun i o e hi => by
      exfalso
      rcases Nat.lt_or_ge i ops.size with h' | h' <;> simp [h'] at hi) g1
  have hA' := AnyK.mono (Q' := fun s : Gst => s.1 = σ') (fun s hs => by rw [hs]) hA
  obtain ⟨s1, x1⟩ := h.draw (w.drawn + 1)
  refine wpAny_of_anyK hc hcon hinl hnt (fun i o hi => by have := key _ 0 _ _ g1 i o (by simpa using hi); simpa using this) hd _ _ (σ, fun _ => false) γ a _ (by simpa using hA') s1 (fun k hk => by cases hk) fun γ' a' w' s x f => hK γ' a' w' s (x1.trans x) f

/-- A region whose order is drawn. -/
theorem drawn_sound (hmix : P.follows .mixedOrders = true) (hc : CxOk P cx) (hcon : ConOk P B.G cx) (hinl : InlOk P B.G inl) {Q : Exit → Act → World → Prop} {id : Nat} {a : Act} {w : World}
    (hd : ∀ o ∈ ops.toList, ∀ k, o.dst = some k → k < N) (hr : (evalDrawn cx nb bf inl ops σ).run = some σ') (h : Sim B N γ σ a w)
    (hK : ∀ γ' a' w', Sim B N γ' σ' a' w' → Ext B γ σ.mem w γ' σ'.mem w' → Fr (number 0 ops.toList) a a' → Q .normal a' w') : (Code.region id ops true).wp P Q a w := by
  unfold evalDrawn at hr
  cases hg : ops.any fun o => o.guard.isSome with
  | true =>
    rw [hg] at hr
    obtain ⟨hnt, hr2⟩ := bif_some (show (bif noTwice ops.toList then evalG cx nb bf inl ops (number 0 ops.toList) [] σ (fun _ => false) else .fail).run = some σ' from hr)
    exact drawnG_sound hmix hc hcon hinl hnt hd hr2 h hK
  | false =>
    rw [hg] at hr
    exact drawnD_sound hmix hc hcon hinl hd hr h hK

end
end Go.Ge
