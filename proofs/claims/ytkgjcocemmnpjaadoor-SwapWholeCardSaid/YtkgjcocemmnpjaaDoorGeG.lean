/- A ghost interpreter of the model's code, and that it tells the truth: part 7. It says of a function of plain data what a call of it comes to. -/
import Derived.Test.YtkgjcocemmnpjaaDoorGeF
import Derived.Tactics
namespace Go.Ge
set_option linter.unusedVariables false
set_option linter.unusedSimpArgs false
open RowKit

/-- Locked boxes stay as they are. -/
def Keep (σ σ' : St) : Prop := ∀ b bx, σ.mem b = some bx → bx.lk = true → σ'.mem b = some bx

theorem Keep.refl (σ : St) : Keep σ σ := fun _ _ h _ => h
theorem Keep.trans {σ σ' σ'' : St} (h : Keep σ σ') (k : Keep σ' σ'') : Keep σ σ'' := fun b bx hb hl => k b bx (h b bx hb hl) hl
theorem Keep.put (σ : St) (d : Nat) (v : Val) : Keep σ (σ.put d v) := fun _ _ h _ => h
theorem Keep.putO (σ : St) (d : Option Nat) (v : Val) : Keep σ (σ.putO d v) := by cases d <;> exact fun _ _ h _ => h
theorem Keep.of_mem {σ σ' : St} (h : σ'.mem = σ.mem) : Keep σ σ' := fun b bx hb _ => by rw [h]; exact hb

theorem keep_setBox {σ : St} {b : Nat} {bx : Box} (h : ∀ bx0, σ.mem b = some bx0 → bx0.lk = false) : Keep σ (σ.setBox b bx) := fun c cx hc hl => by
  by_cases e : c = b
  · subst e; rw [h cx hc] at hl; cases hl
  · rw [setBox_mem, setMem_other _ e]; exact hc

theorem keep_newBox {β : Type} {σ : St} {b : Nat} {val : Val} {tid : TypeId} {buf : Bool} {k : Nat → St → Tree β} {y : β} (h : (σ.newBox b val tid buf k).run = some y) :
    ∃ ver, Keep σ (σ.setBox b { val, tid, buf, ro := false, lk := false, ver }) ∧ (k ver (σ.setBox b { val, tid, buf, ro := false, lk := false, ver })).run = some y := by
  unfold St.newBox at h
  split at h
  · rename_i bx hb
    cases hl : bx.lk with
    | true => rw [hl] at h; cases h
    | false =>
      rw [hl] at h
      exact ⟨bx.ver + 1, keep_setBox (fun bx0 h0 => by rw [hb] at h0; obtain rfl := Option.some.inj h0; exact hl), h⟩
  · rename_i hb
    exact ⟨0, keep_setBox (fun bx0 h0 => by rw [hb] at h0; cases h0), h⟩

theorem keep_freeze {σ σ' : St} {b : Nat} (h : freeze σ b = some σ') : Keep σ σ' := by
  unfold freeze at h
  split at h
  · rename_i bx hb
    cases hro : bx.ro with
    | true => simp only [hro, cond_true, Option.some.injEq] at h; rw [← h]; exact Keep.refl _
    | false =>
      cases hlk : bx.lk with
      | true => simp [hro, hlk] at h
      | false =>
        simp only [hro, hlk, cond_false, Option.some.injEq] at h
        rw [← h]
        exact keep_setBox fun bx0 h0 => by rw [hb] at h0; obtain rfl := Option.some.inj h0; exact hlk
  · cases h

theorem keep_freezeV : ∀ {v : Val} {σ σ' : St}, freezeV σ v = some σ' → Keep σ σ' := by
  intro v
  induction v with
  | mix p q ihp ihq =>
    intro σ σ' h
    obtain ⟨σ1, h1, h2⟩ := freezeV_mix h
    exact (ihp h1).trans (ihq h2)
  | whole b ver => intro σ σ' h; exact keep_freeze h
  | part b ver lo n => intro σ σ' h; exact keep_freeze h
  | _ => intro σ σ' h; obtain rfl := Option.some.inj h; exact Keep.refl _

theorem keep_give {t : Ty} {x : t.den} {v : Val} {σ σ' : St} (h : give σ t v = some (x, σ')) : Keep σ σ' := by
  unfold give at h
  split at h
  · split at h
    · obtain ⟨_, rfl⟩ := Prod.mk.inj (Option.some.inj h); exact Keep.refl _
    · cases h
  · split at h
    · rename_i y σ1 hl hf
      obtain ⟨_, rfl⟩ := Prod.mk.inj (Option.some.inj h)
      exact keep_freezeV hf
    · cases h

theorem keep_giveAll : ∀ {A : Ty} {x : A.den} {vs : List Val} {σ σ' : St}, giveAll σ A vs = some (x, σ') → Keep σ σ' := by
  intro A
  induction A with
  | pair t r iht ihr =>
    intro x vs σ σ' hl
    cases vs with
    | nil => cases hl
    | cons v vs =>
      simp only [giveAll] at hl
      split at hl
      · rename_i p σ1 hp
        split at hl
        · rename_i q σ2 hq
          obtain ⟨_, rfl⟩ := Prod.mk.inj (Option.some.inj hl)
          exact (keep_give hp).trans (ihr hq)
        · cases hl
      · cases hl
  | unit =>
    intro x vs σ σ' hl
    cases vs with
    | nil => obtain ⟨_, rfl⟩ := Prod.mk.inj (Option.some.inj hl); exact Keep.refl _
    | cons v vs => cases hl
  | _ => intro x vs σ σ' hl; cases vs <;> cases hl

theorem keep_buildParts {t : Ty} : ∀ {parts : List (Nat × Operand)} {x x' : t.den} {σ σ' : St}, buildParts σ t x parts = some (x', σ') → Keep σ σ' := by
  intro parts
  induction parts with
  | nil => intro x x' σ σ' h; obtain ⟨_, rfl⟩ := Prod.mk.inj (Option.some.inj h); exact Keep.refl _
  | cons p r ih =>
    obtain ⟨k, o⟩ := p
    intro x x' σ σ' h
    simp only [buildParts] at h
    split at h
    · split at h
      · rename_i hg
        split at h
        · exact (keep_give hg).trans (ih h)
        · cases h
      · cases h
    · cases h

theorem keep_buildList {e : Ty} : ∀ {parts : List (Nat × Operand)} {l l' : List e.den} {σ σ' : St}, buildList σ e l parts = some (l', σ') → Keep σ σ' := by
  intro parts
  induction parts with
  | nil => intro x x' σ σ' h; obtain ⟨_, rfl⟩ := Prod.mk.inj (Option.some.inj h); exact Keep.refl _
  | cons p r ih =>
    obtain ⟨k, o⟩ := p
    intro l l' σ σ' h
    simp only [buildList] at h
    split at h
    · rename_i hg
      cases hlt : Nat.blt k l.length with
      | false => rw [hlt] at h; cases h
      | true => rw [hlt] at h; exact (keep_give hg).trans (ih h)
    · cases h

theorem keep_storeAt {b ver : Nat} {p : List Sel} {fit : Val → Bool} {u : Val} {σ σ' : St} (hr : (storeAt b ver p fit u σ).run = some σ') : Keep σ σ' := by
  unfold storeAt at hr
  split at hr
  case h_2 => exact absurd hr (by intro k; cases k)
  rename_i bx hb
  obtain ⟨hc, hr2⟩ := bif_some hr
  simp only [Bool.and_eq_true, Bool.not_eq_true'] at hc
  obtain ⟨old, hn, hr3⟩ := bind_some hr2
  obtain ⟨hfit, hr4⟩ := bif_some hr3
  obtain ⟨c, hs, hr5⟩ := bind_some hr4
  obtain rfl := Option.some.inj hr5
  exact keep_setBox fun bx0 h0 => by rw [hb] at h0; obtain rfl := Option.some.inj h0; exact hc.1.2

theorem keep_storeOp {b ver : Nat} {p : List Sel} {n : Nat} {u : Val} {σ σ' : St} (hr : (storeOp b ver p n u σ).run = some σ') : Keep σ σ' := by
  unfold storeOp at hr
  split at hr
  case h_2 => exact absurd hr (by intro k; cases k)
  rename_i bx hb
  obtain ⟨hc, hr2⟩ := bif_some hr
  simp only [Bool.and_eq_true, Bool.not_eq_true'] at hc
  obtain ⟨old, hn, hr3⟩ := bind_some hr2
  obtain ⟨hfit, hr4⟩ := bif_some hr3
  obtain ⟨c, hs, hr5⟩ := bind_some hr4
  obtain ⟨hpc, hr6⟩ := bif_some hr5
  obtain rfl := Option.some.inj hr6
  exact keep_setBox fun bx0 h0 => by rw [hb] at h0; obtain rfl := Option.some.inj h0; exact hc.1.1.1.2

theorem keep_stepStore {cx : Ctx} {bf : List Nat} {ty : TypeId} {x y : Val} {σ σ' : St} (hr : (stepStore cx bf ty x y σ).run = some σ') : Keep σ σ' := by
  unfold stepStore at hr
  split at hr
  case h_2 => exact absurd hr (by intro k; cases k)
  split at hr
  case h_2 => exact absurd hr (by intro k; cases k)
  obtain ⟨hver, hr2⟩ := bif_some hr
  obtain ⟨old, hn, hr3⟩ := bind_some hr2
  split at hr3
  · rename_i u _
    obtain ⟨hT, hr4⟩ := bif_some hr3
    cases hq : memN bf 8000000 && ownV u y with
    | true => rw [hq] at hr4; exact keep_storeOp hr4
    | false =>
    rw [hq] at hr4
    replace hr4 : (match give σ u y with | some (y, σ) => storeAt _ _ _ (fitD u) (.data u y) σ | none => .fail).run = some σ' := hr4
    split at hr4
    · rename_i hg; exact (keep_give hg).trans (keep_storeAt hr4)
    · exact absurd hr4 (by intro k; cases k)
  · obtain ⟨hT, hr4⟩ := bif_some hr3
    exact keep_storeAt hr4

theorem keep_stepAppend {cx : Ctx} {nb : Nat} {d : Option Nat} {ty : TypeId} {s x : Val} {σ σ' : St} (hr : (stepAppend cx nb d ty s x σ).run = some σ') : Keep σ σ' := by
  unfold stepAppend at hr
  split at hr
  case h_2 => exact absurd hr (by intro k; cases k)
  split at hr
  case h_2 => exact absurd hr (by intro k; cases k)
  split at hr
  · obtain ⟨hf, hr2⟩ := need_some hr
    obtain ⟨ver, k1, k2⟩ := keep_newBox hr2
    obtain rfl := Option.some.inj k2
    exact k1.trans (Keep.put _ _ _)
  · split at hr
    case h_2 => exact absurd hr (by intro k; cases k)
    rename_i bx l hb hl
    obtain ⟨hlk, hr1⟩ := bif_not_some hr
    have hlk := (Bool.or_eq_false_iff.1 hlk).1
    obtain ⟨hf, hr2⟩ := need_some hr1
    obtain rfl := Option.some.inj hr2
    exact (keep_setBox fun bx0 h0 => by rw [hb] at h0; obtain rfl := Option.some.inj h0; exact hlk).trans (Keep.put _ _ _)
  · exact absurd hr (by intro k; cases k)

theorem keep_copyInto {e : Ty} {m : List e.den} {b ver : Nat} {q : List Sel} {chk : Nat → Ty → Bool} {lo : Int} {σ σ' : St} (hr : (copyInto e m b ver q chk lo σ).run = some σ') : Keep σ σ' := by
  unfold copyInto at hr
  split at hr
  case h_2 => exact absurd hr (by intro k; cases k)
  rename_i bx hb
  obtain ⟨hc, hr2⟩ := bif_some hr
  simp only [Bool.and_eq_true, Bool.not_eq_true'] at hc
  have fin : ∀ {bx' : Box}, Keep σ (σ.setBox b bx') := fun {bx'} => keep_setBox fun bx0 h0 => by rw [hb] at h0; obtain rfl := Option.some.inj h0; exact hc.1.2
  split at hr2
  · split at hr2
    · split at hr2
      · obtain rfl := Option.some.inj hr2; exact fin
      · exact absurd hr2 (by intro k; cases k)
    · exact absurd hr2 (by intro k; cases k)
  · obtain ⟨old, _, hr3⟩ := bind_some hr2
    split at hr3
    · obtain ⟨_, hr4⟩ := bif_some hr3
      split at hr4
      · obtain ⟨c, _, hr5⟩ := bind_some hr4
        obtain rfl := Option.some.inj hr5; exact fin
      · exact absurd hr4 (by intro k; cases k)
    · exact absurd hr3 (by intro k; cases k)

theorem keep_copyTo {e : Ty} {mf : Int → List e.den} {t : Val} {σ : St} {r : Int × St} (hr : (copyTo e mf t σ).run = some r) : Keep σ r.2 := by
  unfold copyTo at hr
  split at hr
  · obtain ⟨σ1, h1, h2⟩ := bind_some hr
    obtain rfl := Option.some.inj h2; exact keep_copyInto h1
  · split at hr
    · obtain ⟨σ1, h1, h2⟩ := bind_some hr
      obtain rfl := Option.some.inj h2; exact keep_copyInto h1
    · exact absurd hr (by intro k; cases k)
  · obtain ⟨σ1, h1, h2⟩ := bind_some hr
    obtain rfl := Option.some.inj h2; exact keep_copyInto h1
  · exact absurd hr (by intro k; cases k)

theorem readO_lk {mem : Nat → Option Box} : ∀ {o : OT} {v : Val} {u : o.den} {N M : List (Nat × Nat)}, readO mem o v = some (u, N, M) → ∀ b ∈ namesOf N M, ∀ bx, mem b = some bx → bx.lk = false := by
  intro o
  induction o with
  | dat t =>
    intro v u N M h
    unfold readO at h
    split at h
    · cases h; intro b hb; cases hb
    · cases h
  | buf e eid =>
    intro v u N M h
    unfold readO at h
    split at h
    case h_2 => cases h
    rename_i b ver
    split at h
    case h_2 => cases h
    rename_i bx hb
    cases hcd : (Nat.beq bx.ver ver && bx.buf && !bx.lk && !bx.ro && Nat.beq bx.tid eid && Nat.blt 0 e.size) with
    | false => rw [hcd] at h; cases h
    | true =>
      rw [hcd] at h
      simp only [Bool.and_eq_true, Bool.not_eq_true'] at hcd
      simp only [cond_true] at h
      split at h
      case h_2 => cases h
      split at h
      case h_2 => cases h
      cases h
      intro c hc cx hcx
      have : c = b := by simpa [namesOf] using hc
      subst this
      rw [hb] at hcx
      obtain rfl := Option.some.inj hcx
      exact hcd.1.1.1.2
  | map =>
    intro v u N M h
    unfold readO at h
    split at h
    case h_2 => cases h
    rename_i b ver
    split at h
    case h_2 => cases h
    rename_i bx hb
    cases hcd : (Nat.beq bx.ver ver && bx.buf && !bx.lk && !bx.ro) with
    | false => rw [hcd] at h; cases h
    | true =>
      rw [hcd] at h
      simp only [Bool.and_eq_true, Bool.not_eq_true'] at hcd
      simp only [cond_true] at h
      split at h
      case h_2 => cases h
      cases h
      intro c hc cx hcx
      have : c = b := by simpa [namesOf] using hc
      subst this
      rw [hb] at hcx
      obtain rfl := Option.some.inj hcx
      exact hcd.1.2
  | ref tid o ih =>
    intro v u N M h
    unfold readO at h
    split at h
    case h_2 => cases h
    rename_i b ver
    split at h
    case h_2 => cases h
    rename_i bx hb
    cases hcd : (Nat.beq bx.ver ver && !bx.buf && !bx.lk && !bx.ro && Nat.beq bx.tid tid) with
    | false => rw [hcd] at h; cases h
    | true =>
      rw [hcd] at h
      simp only [Bool.and_eq_true, Bool.not_eq_true'] at hcd
      simp only [cond_true] at h
      split at h
      case h_2 => cases h
      rename_i u1 N1 M1 hr
      cases h
      intro c hc cx hcx
      unfold namesOf at hc
      simp only [List.map_cons, List.cons_append, List.mem_cons] at hc
      rcases hc with rfl | hc
      · rw [hb] at hcx
        obtain rfl := Option.some.inj hcx
        exact hcd.1.1.2
      · exact ih hr c hc cx hcx
  | rf tid o ih =>
    intro v u N M h
    unfold readO at h
    split at h
    case h_2 => cases h
    rename_i b ver
    split at h
    case h_2 => cases h
    rename_i bx hb
    cases hcd : (Nat.beq bx.ver ver && !bx.buf && !bx.lk && !bx.ro && Nat.beq bx.tid tid) with
    | false => rw [hcd] at h; cases h
    | true =>
      rw [hcd] at h
      simp only [Bool.and_eq_true, Bool.not_eq_true'] at hcd
      simp only [cond_true] at h
      split at h
      case h_2 => cases h
      rename_i u1 N1 M1 hr
      cases h
      intro c hc cx hcx
      unfold namesOf at hc
      simp only [List.map_cons, List.mem_append, List.mem_cons] at hc
      rcases hc with hc | rfl | hc
      · exact ih hr c (by unfold namesOf; exact List.mem_append_left _ hc) cx hcx
      · rw [hb] at hcx
        obtain rfl := Option.some.inj hcx
        exact hcd.1.1.2
      · exact ih hr c (by unfold namesOf; exact List.mem_append_right _ hc) cx hcx
  | pair p q ihp ihq =>
    intro v u N M h
    unfold readO at h
    split at h
    case h_2 => cases h
    split at h
    case h_2 => cases h
    rename_i x N1 M1 y N2 M2 h1 h2
    cases h
    intro c hc cx hcx
    unfold namesOf at hc
    simp only [List.map_append, List.mem_append] at hc
    rcases hc with (hc | hc) | (hc | hc)
    · exact ihp h1 c (List.mem_append_left _ hc) cx hcx
    · exact ihq h2 c (List.mem_append_left _ hc) cx hcx
    · exact ihp h1 c (List.mem_append_right _ hc) cx hcx
    · exact ihq h2 c (List.mem_append_right _ hc) cx hcx
  | unit =>
    intro v u N M h
    unfold readO at h
    split at h
    case h_2 => cases h
    cases h; intro b hb; cases hb
  | nilp =>
    intro v u N M h
    unfold readO at h
    split at h
    case h_2 => cases h
    cases h; intro b hb; cases hb

theorem refArgs_lk {σ : St} : ∀ {ps : List Bool} {A : Ty} {U : OT} {vs : List Val} {x : A.den} {u : U.den} {N M : List (Nat × Nat)}, refArgs σ ps A U vs = some (x, u, N, M) → ∀ b ∈ namesOf N M, ∀ bx, σ.mem b = some bx → bx.lk = false := by
  intro ps
  induction ps with
  | nil =>
    intro A U vs x u N M h
    cases A <;> first | (cases h; done) | skip
    cases U <;> first | (cases h; done) | skip
    cases vs with
    | cons v r => cases h
    | nil => cases h; intro b hb; cases hb
  | cons p ps ih =>
    intro A U vs x u N M h
    cases p with
    | false =>
      cases A <;> first | (cases h; done) | skip
      cases vs with
      | nil => cases h
      | cons v r =>
        simp only [refArgs] at h
        split at h
        · rename_i h2
          cases h
          exact ih h2
        · cases h
    | true =>
      cases U <;> first | (cases h; done) | skip
      rename_i o U
      cases o <;> first | (cases h; done) | skip
      case nilp =>
        cases vs with
        | nil => cases h
        | cons v r =>
          cases v <;> first | (cases h; done) | skip
          simp only [refArgs] at h
          split at h
          · rename_i h2
            cases h
            exact ih h2
          · cases h
      cases vs with
      | nil => cases h
      | cons v r =>
        simp only [refArgs] at h
        split at h
        · rename_i x1 N1 M1 y1 u1 N2 M2 h1 h2
          cases h
          intro c hc cx hcx
          unfold namesOf at hc
          simp only [List.map_append, List.mem_append] at hc
          rcases hc with (hc | hc) | (hc | hc)
          · exact readO_lk h1 c (List.mem_append_left _ hc) cx hcx
          · exact ih h2 c (List.mem_append_left _ hc) cx hcx
          · exact readO_lk h1 c (List.mem_append_right _ hc) cx hcx
          · exact ih h2 c (List.mem_append_right _ hc) cx hcx
        · cases h

theorem keep_setRefs {ps : List Bool} {A : Ty} {U : OT} {vs : List Val} {x : A.den} {u y : U.den} {N M : List (Nat × Nat)} {σ : St} (h : refArgs σ ps A U vs = some (x, u, N, M)) : Keep σ (setRefs U y N M σ) := fun b bx hb hl => by
  rw [setRefs_mem]
  cases hv : conM U y N (M.map fun p => (p.1, p.2 + 1)) b with
  | none => exact hb
  | some v =>
    have := refArgs_lk h b (by have := conM_names hv; rwa [names_bump] at this) bx hb
    rw [hl] at this; cases this

theorem keep_stepSpc {s : Spc} {d : Option Nat} {vals : List Val} {σ σ' : St} (hr : (stepSpc s d vals σ).run = some σ') : Keep σ σ' := by
  unfold stepSpc at hr
  split at hr
  · split at hr
    case h_2 => cases hr
    split at hr
    case h_2 => cases hr
    obtain ⟨_, hr2⟩ := bif_some hr
    obtain rfl := Option.some.inj hr2
    exact Keep.putO _ _ _
  · split at hr
    case h_2 => cases hr
    split at hr
    case h_2 => cases hr
    obtain ⟨_, hr2⟩ := bif_some hr
    split at hr2
    case h_2 => cases hr2
    rename_i hx hhx
    obtain ⟨hcd, hr3⟩ := bif_some hr2
    simp only [Bool.and_eq_true, Bool.not_eq_true'] at hcd
    split at hr3
    case h_2 => cases hr3
    obtain rfl := Option.some.inj hr3
    exact (keep_setBox fun bx0 h0 => by rw [hhx] at h0; obtain rfl := Option.some.inj h0; exact hcd.1.1.2).trans (Keep.putO _ _ _)
  · split at hr
    case h_2 => cases hr
    obtain ⟨y, hy, hr2⟩ := look_some hr
    obtain rfl := Option.some.inj hr2
    exact Keep.putO _ _ _
  · cases hr

theorem keep_mkObj {b ver : Nat} : ∀ {fs : List OFld} {j : Nat} {σ : St} {r : Val × St}, (mkObj b ver fs j σ).run = some r → Keep σ r.2 := by
  intro fs
  induction fs with
  | nil => intro j σ r hr; obtain rfl := Option.some.inj hr; exact Keep.refl _
  | cons f q ih =>
    intro j σ r hr
    cases f with
    | buf e eid =>
      obtain ⟨_, hr1⟩ := bif_some hr
      obtain ⟨ver, k1, k2⟩ := keep_newBox hr1
      obtain ⟨y, h1, h2⟩ := bind_some k2
      obtain rfl := Option.some.inj h2
      have := ih h1
      exact k1.trans this
    | map =>
      obtain ⟨ver, k1, k2⟩ := keep_newBox hr
      obtain ⟨y, h1, h2⟩ := bind_some k2
      obtain rfl := Option.some.inj h2
      have := ih h1
      exact k1.trans this
    | _ =>
      obtain ⟨y, h1, h2⟩ := bind_some hr
      obtain rfl := Option.some.inj h2
      have := ih h1
      exact this

theorem keep_openObj {b : Nat} : ∀ {fs : List OFld} {j : Nat} {v : Val} {σ : St} {r : Val × St}, (openObj b fs j v σ).run = some r → Keep σ r.2 := by
  intro fs
  induction fs with
  | nil =>
    intro j v σ r hr
    obtain rfl := openObj_nil hr
    exact Keep.refl _
  | cons f q ih =>
    intro j v σ r hr
    rcases openObj_cons hr with ⟨x, u, y, rfl, h1, rfl⟩ | ⟨e, eid, u, rfl, he, hr1⟩ | ⟨u, rfl, hr1⟩
    rotate_right
    · obtain ⟨ver, k1, k2⟩ := keep_newBox hr1
      obtain ⟨y, h1, h2⟩ := bind_some k2
      obtain rfl := Option.some.inj h2
      have := ih h1
      exact k1.trans this
    · have := ih h1; exact this
    · obtain ⟨ver, k1, k2⟩ := keep_newBox hr1
      obtain ⟨y, h1, h2⟩ := bind_some k2
      obtain rfl := Option.some.inj h2
      have := ih h1
      exact k1.trans this

theorem keep_callFn {cx : Ctx} {inl : Nat → List Val → St → Tree (Val × St)} (hinl : ∀ f vals σ v σ', (inl f vals σ).run = some (v, σ') → Keep σ σ') {d : Option Nat} {f : Nat} {vals : List Val} {σ σ' : St}
    (hr : (callFn cx inl d f vals σ).run = some σ') : Keep σ σ' := by
  unfold callFn at hr
  split at hr
  · split at hr
    · split at hr
      · obtain ⟨y, hy, hr2⟩ := look_some hr
        obtain rfl := Option.some.inj hr2
        exact Keep.putO _ _ _
      · exact absurd hr (by intro k; cases k)
    · split at hr
      · rename_i hx
        obtain ⟨y, hy, hr2⟩ := look_some hr
        obtain rfl := Option.some.inj hr2
        exact (keep_giveAll hx).trans (Keep.putO _ _ _)
      · exact absurd hr (by intro k; cases k)
  · have inlined : ((inl f vals σ).bind fun r => .ret (r.2.putO d r.1) : Tree St).run = some σ' → Keep σ σ' := by
      intro hr
      obtain ⟨r, hr1, hr2⟩ := bind_some hr
      obtain rfl := Option.some.inj hr2
      exact (hinl _ _ _ _ _ hr1).trans (Keep.putO _ _ _)
    split at hr
    · exact keep_stepSpc hr
    split at hr
    · rename_i c hcr
      split at hr
      · rename_i x u N M hx
        obtain ⟨_, hr⟩ := bif_some hr
        obtain ⟨y, hy, hr2⟩ := look_some hr
        obtain rfl := Option.some.inj hr2
        exact (keep_setRefs hx).trans (Keep.putO _ _ _)
      · exact inlined hr
    · exact inlined hr
theorem keep_stepClone {nb : Nat} {e : Ty} {d : Option Nat} {vals : List Val} {σ σ' : St} (hr : (stepClone nb e d vals σ).run = some σ') : Keep σ σ' := by
  unfold stepClone at hr
  split at hr
  case h_2 => cases hr
  split at hr
  case h_2 => cases hr
  rename_i hg
  obtain ⟨_, hr⟩ := bif_some hr
  obtain ⟨_, hr⟩ := need_some hr
  obtain ⟨ver, k1, k2⟩ := keep_newBox hr
  obtain rfl := Option.some.inj k2
  exact ((keep_give hg).trans k1).trans (Keep.putO _ (some _) _)

theorem keep_stepOwn {e A : Ty} {res : Bool} {spec : List e.den → A.den → Option (List e.den)} {d : Option Nat} {vals : List Val} {σ σ' : St} (hr : (stepOwn e A res spec d vals σ).run = some σ') : Keep σ σ' := by
  unfold stepOwn at hr
  split at hr
  case h_2 => cases hr
  split at hr
  case h_2 => cases hr
  rename_i hg
  split at hr
  case h_2 => cases hr
  rename_i b ver bx l hor
  obtain ⟨l', _, hr⟩ := look_some hr
  obtain ⟨hb, hver, hbuf, hlk, hro, htid, _⟩ := ownRef_some hor
  have key : ∀ bx', Keep _ (St.setBox _ b bx') := fun bx' => keep_setBox fun bx0 h0 => by rw [hb] at h0; obtain rfl := Option.some.inj h0; exact hlk
  cases res with
  | true =>
    cases d with
    | none => cases hr
    | some k => obtain rfl := Option.some.inj hr; exact ((keep_giveAll hg).trans (key _)).trans (Keep.putO _ (some _) _)
  | false =>
    cases d with
    | none => obtain ⟨_, hr⟩ := bif_some hr; obtain rfl := Option.some.inj hr; exact ((keep_giveAll hg).trans (key _)).trans (Keep.putO _ none _)
    | some k => obtain ⟨_, hr⟩ := bif_some hr; obtain rfl := Option.some.inj hr; exact ((keep_giveAll hg).trans (key _)).trans (Keep.putO _ (some _) _)

theorem keep_stepMaker {nb g : Nat} {d : Option Nat} {vals : List Val} {σ σ' : St} (hr : (stepMaker nb g d vals σ).run = some σ') : Keep σ σ' := by
  unfold stepMaker at hr
  split at hr
  · cases hr
  · cases hr
  · obtain ⟨ver, k1, k2⟩ := keep_newBox (bif_some hr).2
    obtain rfl := Option.some.inj k2
    exact k1.trans (Keep.putO _ (some _) _)
  · cases hr

theorem keep_stepTcl {nb T : Nat} {d : Option Nat} {vals : List Val} {σ σ' : St} (hr : (stepTcl nb T d vals σ).run = some σ') : Keep σ σ' := by
  unfold stepTcl at hr
  split at hr
  case h_2 => cases hr
  split at hr
  case h_2 => cases hr
  split at hr
  case h_2 => cases hr
  obtain ⟨_, hr⟩ := bif_some hr
  split at hr
  case h_2 => cases hr
  obtain ⟨_, hr⟩ := bif_some hr
  split at hr
  case h_2 => cases hr
  obtain ⟨ver, k1, k2⟩ := keep_newBox hr
  obtain ⟨ver2, k3, k4⟩ := keep_newBox k2
  obtain rfl := Option.some.inj k4
  exact (k1.trans k3).trans (Keep.putO _ (some _) _)

theorem keep_callAny {cx : Ctx} {nb : Nat} {bf : List Nat} {inl : Nat → List Val → St → Tree (Val × St)} (hinl : ∀ f vals σ v σ', (inl f vals σ).run = some (v, σ') → Keep σ σ') {d : Option Nat} {f : Nat} {vals : List Val} {σ σ' : St}
    (hr : (callAny cx nb bf inl d f vals σ).run = some σ') : Keep σ σ' := by
  unfold callAny at hr
  split at hr
  · exact keep_stepClone hr
  · exact keep_stepOwn hr
  · exact keep_stepMaker hr
  · exact keep_stepTcl hr
  · exact keep_callFn hinl hr
end Go.Ge
namespace Go.Ge
set_option linter.unusedVariables false
set_option linter.unusedSimpArgs false
open RowKit

def KeepT (σ : St) (T : Tree St) : Prop := ∀ y, T.run = some y → Keep σ y

theorem KeepT.fail {σ : St} : KeepT σ .fail := fun y h => by cases h
theorem KeepT.ret {σ σ' : St} (h : Keep σ σ') : KeepT σ (.ret σ') := fun y hy => by obtain rfl := Option.some.inj hy; exact h
theorem KeepT.bif {σ : St} {c : Bool} {t : Tree St} (h : KeepT σ t) : KeepT σ (bif c then t else .fail) := fun y hy => h y (bif_some hy).2
theorem KeepT.need {σ : St} {c : Bool} {t : Tree St} (h : KeepT σ t) : KeepT σ (.need c t) := fun y hy => h y (need_some hy).2
theorem KeepT.look {σ : St} {T : Type} {o : Option T} {k : T → Tree St} (h : ∀ x, KeepT σ (k x)) : KeepT σ (.look o k) := fun y hy => by obtain ⟨x, _, h2⟩ := look_some hy; exact h x y h2
theorem KeepT.node {σ : St} {c : Bool} {t e : Tree St} (h : KeepT σ t) (k : KeepT σ e) : KeepT σ (.node c t e) := fun y hy => by
  have := node_some hy
  cases c with
  | true => exact h y this
  | false => exact k y this
theorem KeepT.bind {σ : St} {α : Type} {t : Tree α} {f : α → Tree St} (h : ∀ x, t.run = some x → KeepT σ (f x)) : KeepT σ (t.bind f) := fun y hy => by obtain ⟨x, h1, h2⟩ := bind_some hy; exact h x h1 y h2
theorem KeepT.newBox {σ : St} {b : Nat} {val : Val} {tid : TypeId} {buf : Bool} {d : Nat} {v : Nat → Val} : KeepT σ (σ.newBox b val tid buf fun ver σ => .ret (σ.put d (v ver))) := fun y hy => by
  obtain ⟨ver, k1, k2⟩ := keep_newBox hy
  obtain rfl := Option.some.inj k2
  exact k1.trans (Keep.put _ _ _)

theorem keep_stepNil {cx : Ctx} {ty : TypeId} {x : Val} {σ : St} : KeepT σ (stepNil cx ty x σ) := fun y hy => by
  unfold stepNil at hy
  split at hy
  · obtain ⟨_, h1⟩ := bif_some hy
    obtain ⟨ver, k1, k2⟩ := keep_newBox h1
    exact k1.trans (keep_storeOp k2)
  · exact absurd hy (by intro k; cases k)

theorem keep_stepZero {nb d : Nat} {t : Ty} {k : Nat} {σ : St} : KeepT σ (stepZero nb d t k σ) := by
  unfold stepZero
  split
  · exact KeepT.bif KeepT.newBox
  · exact KeepT.fail


section
variable {cx : Ctx} {nb : Nat} {bf : List Nat} {inl : Nat → List Val → St → Tree (Val × St)} {d : Option Nat} {σ : St}

theorem keep_stepAssign {ty : TypeId} {v : Val} : KeepT σ (stepAssign cx nb bf d ty v σ) := by
  unfold stepAssign
  split
  · (repeat' (first | exact KeepT.fail | exact KeepT.ret (Keep.putO _ _ _) | exact KeepT.ret (Keep.put _ _ _) | exact KeepT.newBox | refine KeepT.bif ?_ | refine KeepT.need ?_ | refine KeepT.look fun _ => ?_ | refine KeepT.node ?_ ?_ | refine KeepT.bind fun _ _ => ?_ | split))
  · split
    · rename_i k e _
      cases memN bf k with
      | true => exact KeepT.newBox
      | false => exact KeepT.ret (Keep.put _ _ _)
    · exact KeepT.ret (Keep.putO _ _ _)
  · exact KeepT.ret (Keep.putO _ _ _)
theorem keep_stepPick {c a b : Val} : KeepT σ (stepPick d c a b σ) := by unfold stepPick; (repeat' (first | exact KeepT.fail | exact KeepT.ret (Keep.putO _ _ _) | exact KeepT.ret (Keep.put _ _ _) | exact KeepT.newBox | refine KeepT.bif ?_ | refine KeepT.need ?_ | refine KeepT.look fun _ => ?_ | refine KeepT.node ?_ ?_ | refine KeepT.bind fun _ _ => ?_ | split))
theorem keep_stepLoad {ty : TypeId} {a : Val} : KeepT σ (stepLoad cx d ty a σ) := by unfold stepLoad; (repeat' (first | exact KeepT.fail | exact KeepT.ret (Keep.putO _ _ _) | exact KeepT.ret (Keep.put _ _ _) | exact KeepT.newBox | refine KeepT.bif ?_ | refine KeepT.need ?_ | refine KeepT.look fun _ => ?_ | refine KeepT.node ?_ ?_ | refine KeepT.bind fun _ _ => ?_ | split))
theorem keep_stepSlice {ty : TypeId} {x : Val} {lo hi : Option Operand} : KeepT σ (stepSlice cx d ty x lo hi σ) := by unfold stepSlice; (repeat' (first | exact KeepT.fail | exact KeepT.ret (Keep.putO _ _ _) | exact KeepT.ret (Keep.put _ _ _) | exact KeepT.newBox | refine KeepT.bif ?_ | refine KeepT.need ?_ | refine KeepT.look fun _ => ?_ | refine KeepT.node ?_ ?_ | refine KeepT.bind fun _ _ => ?_ | split))
theorem keep_atRow {b ver : Nat} {i : Int} : ∀ {m k : Nat}, KeepT σ (atRow d b ver σ i m k) := by
  intro m
  induction m with
  | zero => intro k; exact KeepT.fail
  | succ m ih => intro k; exact KeepT.node (KeepT.ret (Keep.putO _ _ _)) ih
theorem keep_stepIndexAddr {ty : TypeId} {x : Val} {i : Int} : KeepT σ (stepIndexAddr cx d ty x i σ) := by
  unfold stepIndexAddr
  split
  case h_6 => split
              · exact KeepT.bif keep_atRow
              · exact KeepT.fail
  all_goals (repeat' (first | exact KeepT.fail | exact KeepT.ret (Keep.putO _ _ _) | exact KeepT.ret (Keep.put _ _ _) | exact KeepT.newBox | refine KeepT.bif ?_ | refine KeepT.need ?_ | refine KeepT.look fun _ => ?_ | refine KeepT.node ?_ ?_ | refine KeepT.bind fun _ _ => ?_ | split))
theorem keep_stepRowAt {ty : TypeId} {x : Val} {i : Int} : KeepT σ (stepRowAt cx d ty x i σ) := by
  unfold stepRowAt
  split
  · refine KeepT.bif ?_
    split
    · exact KeepT.bif (KeepT.ret (Keep.putO _ _ _))
    · exact KeepT.fail
  · exact keep_stepIndexAddr
theorem keep_stepIndex {ty : TypeId} {x : Val} {i : Int} : KeepT σ (stepIndex cx d ty x i σ) := by unfold stepIndex; (repeat' (first | exact KeepT.fail | exact KeepT.ret (Keep.putO _ _ _) | exact KeepT.ret (Keep.put _ _ _) | exact KeepT.newBox | refine KeepT.bif ?_ | refine KeepT.need ?_ | refine KeepT.look fun _ => ?_ | refine KeepT.node ?_ ?_ | refine KeepT.bind fun _ _ => ?_ | split))
theorem keep_stepFieldAddr {s : TypeId} {x : Val} {k : Nat} : KeepT σ (stepFieldAddr cx d s x k σ) := by unfold stepFieldAddr; (repeat' (first | exact KeepT.fail | exact KeepT.ret (Keep.putO _ _ _) | exact KeepT.ret (Keep.put _ _ _) | exact KeepT.newBox | refine KeepT.bif ?_ | refine KeepT.need ?_ | refine KeepT.look fun _ => ?_ | refine KeepT.node ?_ ?_ | refine KeepT.bind fun _ _ => ?_ | split))
theorem keep_stepConvert {s t : TypeId} {x : Val} : KeepT σ (stepConvert cx nb d s t x σ) := by unfold stepConvert; (repeat' (first | exact KeepT.fail | exact KeepT.ret (Keep.putO _ _ _) | exact KeepT.ret (Keep.put _ _ _) | exact KeepT.newBox | refine KeepT.bif ?_ | refine KeepT.need ?_ | refine KeepT.look fun _ => ?_ | refine KeepT.node ?_ ?_ | refine KeepT.bind fun _ _ => ?_ | split))

theorem keep_stepCopy {ty : TypeId} {t x : Val} : KeepT σ (stepCopy cx d ty t x σ) := by
  unfold stepCopy
  split
  · split
    · exact KeepT.fail
    · exact KeepT.bind fun r hr => KeepT.ret ((keep_copyTo hr).trans (Keep.putO _ _ _))
  · exact KeepT.fail
theorem keep_stepClear {ty : TypeId} {t : Val} : KeepT σ (stepClear cx ty t σ) := by
  unfold stepClear
  split
  · exact KeepT.bind fun r hr => KeepT.ret (keep_copyTo hr)
  · exact KeepT.fail

theorem keep_stepInvoke {name : String} {args : List Val} : KeepT σ (stepInvoke cx d name args σ) := by
  intro σ' hr
  unfold stepInvoke at hr
  split at hr
  · split at hr
    · rename_i hx
      obtain ⟨y, hy, hr2⟩ := look_some hr
      obtain rfl := Option.some.inj hr2
      exact (keep_giveAll hx).trans (Keep.putO _ _ _)
    · exact absurd hr (by intro k; cases k)
  · exact absurd hr (by intro k; cases k)
theorem keep_stepIface {ty u : TypeId} {x : Val} : KeepT σ (stepIface cx d ty u x σ) := by
  intro σ' hr
  unfold stepIface at hr
  split at hr
  · split at hr
    · split at hr
      · rename_i hx
        obtain rfl := Option.some.inj hr
        exact (keep_give hx).trans (Keep.putO _ _ _)
      · exact absurd hr (by intro k; cases k)
    · exact absurd hr (by intro k; cases k)
  · exact absurd hr (by intro k; cases k)

theorem keep_stepCall (hinl : ∀ f vals σ v σ', (inl f vals σ).run = some (v, σ') → Keep σ σ') {ty : TypeId} {c : Call} : KeepT σ (stepCall cx nb bf inl d ty c σ) := by
  unfold stepCall
  split
  · split
    · (repeat' (first | exact KeepT.fail | exact KeepT.ret (Keep.putO _ _ _) | exact KeepT.ret (Keep.put _ _ _) | exact KeepT.newBox | refine KeepT.bif ?_ | refine KeepT.need ?_ | refine KeepT.look fun _ => ?_ | refine KeepT.node ?_ ?_ | refine KeepT.bind fun _ _ => ?_ | split))
    · split
      · exact fun y hy => keep_stepAppend hy
      · exact fun y hy => keep_stepAppend hy
      · exact KeepT.fail
    · split
      · exact keep_stepCopy
      · exact keep_stepCopy
      · exact KeepT.fail
    · split
      · exact keep_stepClear
      · exact KeepT.fail
    · (repeat' (first | exact KeepT.fail | exact KeepT.ret (Keep.putO _ _ _) | exact KeepT.ret (Keep.put _ _ _) | exact KeepT.newBox | refine KeepT.bif ?_ | refine KeepT.need ?_ | refine KeepT.look fun _ => ?_ | refine KeepT.node ?_ ?_ | refine KeepT.bind fun _ _ => ?_ | split))
    · (repeat' (first | exact KeepT.fail | exact KeepT.ret (Keep.putO _ _ _) | exact KeepT.ret (Keep.put _ _ _) | exact KeepT.newBox | refine KeepT.bif ?_ | refine KeepT.need ?_ | refine KeepT.look fun _ => ?_ | refine KeepT.node ?_ ?_ | refine KeepT.bind fun _ _ => ?_ | split))
    · exact KeepT.fail
  · split
    · exact KeepT.bif fun y hy => keep_callAny hinl hy
    · exact KeepT.fail
  · exact keep_stepInvoke

theorem keep_opStep (hinl : ∀ f vals σ v σ', (inl f vals σ).run = some (v, σ') → Keep σ σ') {o : Oper} : KeepT σ (opStep cx nb bf inl o σ) := by
  unfold opStep
  split
  case h_1 => exact keep_stepAssign
  case h_2 => exact keep_stepAssign
  case h_3 => exact keep_stepPick
  case h_4 =>
    split
    · unfold stepAlloc
      split
      · refine KeepT.bif fun y hy => ?_
        obtain ⟨ver, k1, k2⟩ := keep_newBox hy
        exact k1.trans (KeepT.newBox y k2)
      · exact KeepT.newBox
    · split
      · refine KeepT.bind fun r hr => ?_
        exact fun y hy => (keep_mkObj hr).trans (KeepT.newBox y hy)
      · exact KeepT.bif KeepT.newBox
    · exact KeepT.fail
  case h_5 =>
    unfold stepBox
    split
    · exact KeepT.fail
    · exact KeepT.fail
    · split
      · refine KeepT.bind fun r hr => ?_
        exact fun y hy => (keep_openObj hr).trans (KeepT.newBox y hy)
      · exact KeepT.newBox
    · exact KeepT.fail
  case h_6 =>
    split
    · split
      · exact keep_stepZero
      split
      · rename_i hb; exact KeepT.ret ((keep_buildParts hb).trans (Keep.putO _ _ _))
      · exact KeepT.fail
    · split
      · rename_i hb; exact KeepT.ret ((keep_buildList hb).trans (Keep.putO _ _ _))
      · exact KeepT.fail
    · (repeat' (first | exact KeepT.fail | exact KeepT.ret (Keep.putO _ _ _) | exact KeepT.ret (Keep.put _ _ _) | exact KeepT.newBox | refine KeepT.bif ?_ | refine KeepT.need ?_ | refine KeepT.look fun _ => ?_ | refine KeepT.node ?_ ?_ | refine KeepT.bind fun _ _ => ?_ | split))
    · exact KeepT.fail
  case h_7 =>
    split
    · split
      · exact KeepT.newBox
      · refine KeepT.bif ?_
        split
        · rename_i hb
          split
          · exact fun y hy => (keep_buildList hb).trans (KeepT.newBox _ hy)
          · exact KeepT.ret ((keep_buildList hb).trans (Keep.putO _ _ _))
        · exact KeepT.fail
    · unfold stepRow; (repeat' (first | exact KeepT.fail | exact KeepT.ret (Keep.putO _ _ _) | exact KeepT.ret (Keep.put _ _ _) | exact KeepT.newBox | refine KeepT.bif ?_ | refine KeepT.need ?_ | refine KeepT.look fun _ => ?_ | refine KeepT.node ?_ ?_ | refine KeepT.bind fun _ _ => ?_ | split))
    · exact KeepT.fail
  case h_8 => exact keep_stepLoad
  case h_9 t x z _ =>
    split
    · cases memN bf 8000001 && isNilC z with
      | true => exact keep_stepNil
      | false => exact fun y hy => keep_stepStore hy
    · exact KeepT.fail
  case h_10 => (repeat' (first | exact KeepT.fail | exact KeepT.ret (Keep.putO _ _ _) | exact KeepT.ret (Keep.put _ _ _) | exact KeepT.newBox | refine KeepT.bif ?_ | refine KeepT.need ?_ | refine KeepT.look fun _ => ?_ | refine KeepT.node ?_ ?_ | refine KeepT.bind fun _ _ => ?_ | split))
  case h_11 => (repeat' (first | exact KeepT.fail | exact KeepT.ret (Keep.putO _ _ _) | exact KeepT.ret (Keep.put _ _ _) | exact KeepT.newBox | refine KeepT.bif ?_ | refine KeepT.need ?_ | refine KeepT.look fun _ => ?_ | refine KeepT.node ?_ ?_ | refine KeepT.bind fun _ _ => ?_ | split))
  case h_12 => (repeat' (first | exact KeepT.fail | exact KeepT.ret (Keep.putO _ _ _) | exact KeepT.ret (Keep.put _ _ _) | exact KeepT.newBox | refine KeepT.bif ?_ | refine KeepT.need ?_ | refine KeepT.look fun _ => ?_ | refine KeepT.node ?_ ?_ | refine KeepT.bind fun _ _ => ?_ | split))
  case h_13 => exact keep_stepConvert
  case h_14 => (repeat' (first | exact KeepT.fail | exact KeepT.ret (Keep.putO _ _ _) | exact KeepT.ret (Keep.put _ _ _) | exact KeepT.newBox | refine KeepT.bif ?_ | refine KeepT.need ?_ | refine KeepT.look fun _ => ?_ | refine KeepT.node ?_ ?_ | refine KeepT.bind fun _ _ => ?_ | split))
  case h_15 => exact keep_stepSlice
  case h_16 => exact keep_stepFieldAddr
  case h_17 => (repeat' (first | exact KeepT.fail | exact KeepT.ret (Keep.putO _ _ _) | exact KeepT.ret (Keep.put _ _ _) | exact KeepT.newBox | refine KeepT.bif ?_ | refine KeepT.need ?_ | refine KeepT.look fun _ => ?_ | refine KeepT.node ?_ ?_ | refine KeepT.bind fun _ _ => ?_ | split))
  case h_18 => split
               · cases memN bf 5000000 with
                 | true => exact keep_stepRowAt
                 | false => exact keep_stepIndexAddr
               · exact KeepT.fail
  case h_19 => split
               · exact keep_stepIndex
               · exact KeepT.fail
  case h_20 => (repeat' (first | exact KeepT.fail | exact KeepT.ret (Keep.putO _ _ _) | exact KeepT.ret (Keep.put _ _ _) | exact KeepT.newBox | refine KeepT.bif ?_ | refine KeepT.need ?_ | refine KeepT.look fun _ => ?_ | refine KeepT.node ?_ ?_ | refine KeepT.bind fun _ _ => ?_ | split))
  case h_21 => (repeat' (first | exact KeepT.fail | exact KeepT.ret (Keep.putO _ _ _) | exact KeepT.ret (Keep.put _ _ _) | exact KeepT.newBox | refine KeepT.bif ?_ | refine KeepT.need ?_ | refine KeepT.look fun _ => ?_ | refine KeepT.node ?_ ?_ | refine KeepT.bind fun _ _ => ?_ | split))
  case h_22 => exact keep_stepCall hinl
  case h_23 => exact keep_stepIface
  case h_24 => exact KeepT.fail
end
end Go.Ge
namespace Go.Ge
set_option linter.unusedVariables false
set_option linter.unusedSimpArgs false
open RowKit

theorem OfBox.shrink {mem mem' : Nat → Option Box} (hm : ∀ b bx, mem b = some bx → mem' b = some { bx with lk := true }) {b ver : Nat} {K0 K : Box → Prop} (h0 : OfBox mem b ver K0) (h : OfBox mem' b ver K)
    (hK : ∀ bx, K { bx with lk := true } → K bx) : OfBox mem b ver K := by
  obtain ⟨bx, h1, h2, _⟩ := h0
  obtain ⟨bx', k1, k2, k3⟩ := h
  rw [hm b bx h1] at k1
  obtain rfl := Option.some.inj k1
  exact ⟨bx, h1, h2, fun e => hK bx (k3 e)⟩

theorem Rep.shrink {γ γ' : Gh} {mem mem' : Nat → Option Box} {w w' : World} (hm : ∀ b bx, mem b = some bx → mem' b = some { bx with lk := true }) : ∀ {v : Val} {m : Mode} {us vs : List Value},
    Rep γ mem w v m us → Rep γ' mem' w' v m vs → Rep γ' mem w' v m vs := by
  intro v
  induction v with
  | undef => intro m us vs _ r; cases m <;> exact r
  | data t x => intro m us vs _ r; cases m <;> exact r
  | nils => intro m us vs _ r; cases m <;> exact r
  | nilp => intro m us vs _ r; cases m <;> exact r
  | nilm => intro m us vs _ r; cases m <;> exact r
  | cell t x => intro m us vs _ r; cases m <;> exact r
  | nl => intro m us vs _ r; cases m <;> exact r
  | nili => intro m us vs _ r; cases m <;> exact r
  | selfp b ver =>
    intro m us vs r0 r
    cases m with
    | many => exact r
    | cells => exact ⟨r.1, r0.2.shrink hm r.2 fun _ k => k⟩
    | val => exact ⟨r.1, r0.2.shrink hm r.2 fun _ k => k⟩
  | ptr b ver p =>
    intro m us vs r0 r
    cases m with
    | many => exact r
    | cells => exact ⟨r.1, r0.2.shrink hm r.2 fun _ k => k⟩
    | val => exact ⟨r.1, r0.2.shrink hm r.2 fun _ k => k⟩
  | whole b ver =>
    intro m us vs r0 r
    cases m with
    | many => exact r
    | cells => exact ⟨r.1, r0.2.shrink hm r.2 fun _ k => k⟩
    | val => exact ⟨r.1, r0.2.shrink hm r.2 fun _ k => k⟩
  | mref b ver =>
    intro m us vs r0 r
    cases m with
    | many => exact r
    | cells => exact ⟨r.1, r0.2.shrink hm r.2 fun _ k => k⟩
    | val => exact ⟨r.1, r0.2.shrink hm r.2 fun _ k => k⟩
  | mapv l => intro m us vs _ r; cases m <;> exact r
  | part b ver lo n =>
    intro m us vs r0 r
    cases m with
    | many => exact r
    | cells => exact ⟨r.1, r0.2.shrink hm r.2 fun _ k => k⟩
    | val => exact ⟨r.1, r0.2.shrink hm r.2 fun _ k => k⟩
  | win b ver q e k lo n =>
    intro m us vs r0 r
    cases m with
    | many => exact r
    | cells => exact ⟨r.1, r0.2.shrink hm r.2 fun _ k => k⟩
    | val => exact ⟨r.1, r0.2.shrink hm r.2 fun _ k => k⟩
  | fn f caps =>
    intro m us vs r0 r
    cases m with
    | many => exact r
    | cells => obtain ⟨_, _, _, s⟩ := r0; obtain ⟨arr, r1, r2, r3⟩ := r; exact ⟨arr, r1, r2, fun i b ver hc => (s i b ver hc).shrink hm (r3 i b ver hc) fun _ k => k⟩
    | val => obtain ⟨_, _, _, s⟩ := r0; obtain ⟨arr, r1, r2, r3⟩ := r; exact ⟨arr, r1, r2, fun i b ver hc => (s i b ver hc).shrink hm (r3 i b ver hc) fun _ k => k⟩
  | mix a b iha ihb =>
    intro m us vs r0 r
    cases m with
    | cells => obtain ⟨_, _, _, s1, s2⟩ := r0; obtain ⟨c1, c2, r0, r1, r2⟩ := r; exact ⟨c1, c2, r0, iha s1 r1, ihb s2 r2⟩
    | val => obtain ⟨_, _, _, s1, s2⟩ := r0; obtain ⟨c1, c2, r0, r1, r2⟩ := r; exact ⟨c1, c2, r0, iha s1 r1, ihb s2 r2⟩
    | many => obtain ⟨_, _, _, s1, s2⟩ := r0; obtain ⟨c1, c2, r0, r1, r2⟩ := r; exact ⟨c1, c2, r0, iha s1 r1, ihb s2 r2⟩
  | tup u ih =>
    intro m us vs r0 r
    cases m with
    | val => obtain ⟨_, _, s⟩ := r0; obtain ⟨arr, r1, r2⟩ := r; exact ⟨arr, r1, ih s r2⟩
    | cells => exact r
    | many => exact r

/-- What stays of memory when a branch's own boxes are forgotten. -/
theorem MemOk.unlock {B : Own} {γ γ' : Gh} {mem mem' : Nat → Option Box} {w w' : World} (h : MemOk B γ mem w) (hm : ∀ b bx, mem b = some bx → mem' b = some { bx with lk := true })
    (h' : MemOk B γ' mem' w') (hx : Ext B γ (fun i => match mem i with | some b => some { b with lk := true } | none => none) w γ' mem' w') : MemOk B γ' mem w' ∧ Ext B γ mem w γ' mem w' := by
  have hloc : ∀ b bx, mem b = some bx → γ'.loc b = γ.loc b := by
    intro b bx hb
    obtain ⟨bx', k1, k2, k3⟩ := hx.boxes b { bx with lk := true } (by simp [hb])
    rw [hm b bx hb] at k1
    obtain rfl := Option.some.inj k1
    exact (k3 rfl).1
  have hne : ∀ b, mem b ≠ none → mem' b ≠ none := by
    intro b hb
    cases hq : mem b with
    | none => exact absurd hq hb
    | some bx => rw [hm b bx hq]; simp
  refine ⟨?_, ⟨hx.below, hx.I, hx.anew, hx.cells, fun b bx hb => ⟨bx, hb, Nat.le_refl _, fun _ => ⟨hloc b bx hb, rfl, rfl⟩⟩⟩⟩
  exact
    { glob := h'.glob
      base := h'.base
      boxes := fun b bx hb => by
        have h1 := h.boxes b bx hb
        have h2 := h'.boxes b _ (hm b bx hb)
        unfold BoxAt at h1 h2 ⊢
        cases hbuf : bx.buf with
        | true => rw [hbuf] at h2; exact h2
        | false =>
          rw [hbuf] at h1 h2
          obtain ⟨_, _, _, _, _, _, _, _, _, r0⟩ := h1
          obtain ⟨blk, cap, cur, tid, fr, k1, k2, k3, htid, k4⟩ := h2
          exact ⟨blk, cap, cur, tid, fr, k1, k2, k3, htid, r0.shrink hm k4⟩
      inj := fun b c blk k k' hb hc h1 h2 => h'.inj b c blk k k' (hne b hb) (hne c hc) h1 h2
      fresh := fun b blk k hb h1 => h'.fresh b blk k (hne b hb) h1
      imm := h'.imm
      sep := fun b bx blk k off hb h1 hi => by
        have := h'.sep b _ blk k off (hm b bx hb) h1 hi
        exact this }

theorem Ext.lockAll {B : Own} {γ : Gh} {σ : St} {w : World} : Ext B γ σ.mem w γ σ.lockAll.mem w where
  below := Blw.refl _ _
  I := fun _ _ h => h
  anew := fun _ _ h => .inl h
  cells := fun _ _ _ => rfl
  boxes := fun b bx hb => ⟨{ bx with lk := true }, by simp [St.lockAll, hb], Nat.le_refl _, fun _ => ⟨rfl, rfl, rfl⟩⟩

theorem MemOk.lockAll {B : Own} {γ : Gh} {σ : St} {w : World} (h : MemOk B γ σ.mem w) : MemOk B γ σ.lockAll.mem w := by
  have inv : ∀ {b bx}, σ.lockAll.mem b = some bx → ∃ bx0, σ.mem b = some bx0 ∧ bx = { bx0 with lk := true } := by
    intro b bx hb
    simp only [St.lockAll] at hb
    split at hb
    · rename_i bx0 h0; exact ⟨bx0, h0, (Option.some.inj hb).symm⟩
    · cases hb
  have hne : ∀ {b}, σ.lockAll.mem b ≠ none → σ.mem b ≠ none := by
    intro b hb hq
    apply hb
    simp [St.lockAll, hq]
  exact
    { glob := h.glob
      base := h.base
      boxes := fun b bx hb => by
        obtain ⟨bx0, h0, rfl⟩ := inv hb
        have := (h.boxes b bx0 h0).keep (Ext.lockAll (B := B) (γ := γ) (σ := σ) (w := w)) rfl (fun _ _ _ => rfl)
        exact this
      inj := fun b c blk k k' hb hc h1 h2 => h.inj b c blk k k' (hne hb) (hne hc) h1 h2
      fresh := fun b blk k hb h1 => h.fresh b blk k (hne hb) h1
      imm := h.imm
      sep := fun b bx blk k off hb h1 hi => by
        obtain ⟨bx0, h0, rfl⟩ := inv hb
        exact h.sep b bx0 blk k off h0 h1 hi }

theorem Sim.lockAll {B : Own} {N : Nat} {γ : Gh} {σ : St} {a : Act} {w : World} (h : Sim B N γ σ a w) : Sim B N γ σ.lockAll a w where
  slots := fun t => (h.slots t).ext (Ext.lockAll (B := B))
  size := h.size
  defers := h.defers
  ok := h.ok.lockAll

theorem lockAll_kept {σ τ : St} (h : Keep σ.lockAll τ) : ∀ b bx, σ.mem b = some bx → τ.mem b = some { bx with lk := true } := fun b bx hb => h b _ (by simp [St.lockAll, hb]) rfl
end Go.Ge
namespace Go.Ge
set_option linter.unusedVariables false
set_option linter.unusedSimpArgs false
open RowKit

/-- What the interpreter goes through, beside the operations themselves: some have a guard taken off that is known to hold. -/
inductive Items (all : Array Oper) (G : List (Nat × Bool)) : List (Nat × Oper) → List Oper → Prop
  | nil : Items all G [] []
  | cons {i : Nat} {o o' : Oper} {r : List (Nat × Oper)} {l : List Oper} : all[i]? = some o → (o' = o ∨ ∃ g, o.guard = some g ∧ g ∈ G ∧ o' = { o with guard := none }) → Items all G r l → Items all G ((i, o') :: r) (o :: l)

theorem Items.mono {all : Array Oper} {G G' : List (Nat × Bool)} (hG : ∀ g ∈ G, g ∈ G') {items : List (Nat × Oper)} {l : List Oper} (h : Items all G items l) : Items all G' items l := by
  induction h with
  | nil => exact .nil
  | cons h1 h2 _ ih => exact .cons h1 (h2.imp id fun ⟨g, k1, k2, k3⟩ => ⟨g, k1, hG g k2, k3⟩) ih

/-- A group is taken off the front. -/
theorem under_items {all : Array Oper} {G : List (Nat × Bool)} {j : Nat} {want : Bool} : ∀ {items : List (Nat × Oper)} {l : List Oper} {inner : List Nat}, Items all G items l →
    ∃ l1 l2, l = l1 ++ l2 ∧ Items all ((j, want) :: G) (under j want inner items).1 l1 ∧ Items all G (under j want inner items).2 l2 := by
  intro items l inner h
  induction h generalizing inner with
  | nil => exact ⟨[], [], rfl, .nil, .nil⟩
  | @cons i o o' r l h1 h2 h3 ih =>
    unfold under
    cases hg : guardIs o'.guard j want with
    | true =>
      simp only [cond_true]
      obtain ⟨l1, l2, e1, e2, e3⟩ := ih (inner := i :: inner)
      refine ⟨o :: l1, l2, by rw [e1]; rfl, .cons h1 (.inr ?_) e2, e3⟩
      have ho : o' = o := by
        rcases h2 with h2 | ⟨g, k1, k2, k3⟩
        · exact h2
        · rw [k3] at hg; cases hg
      subst ho
      unfold guardIs at hg
      split at hg
      · rename_i i' b' hgd
        simp only [Bool.and_eq_true] at hg
        have h9 := Nat.eq_of_beq_eq_true hg.1
        have h8 : b' = want := by simpa using hg.2
        subst h9; subst h8
        exact ⟨(i', b'), hgd, List.mem_cons_self .., rfl⟩
      · cases hg
    | false =>
      simp only [cond_false]
      have both : ∀ c : Bool, ∃ l1 l2, o :: l = l1 ++ l2 ∧
          Items all ((j, want) :: G) (bif c then ((i, o') :: (under j want (i :: inner) r).1, (under j want (i :: inner) r).2) else ([], (i, o') :: r)).1 l1 ∧
          Items all G (bif c then ((i, o') :: (under j want (i :: inner) r).1, (under j want (i :: inner) r).2) else ([], (i, o') :: r)).2 l2 := by
        intro c
        cases c with
        | true =>
          obtain ⟨l1, l2, e1, e2, e3⟩ := ih (inner := i :: inner)
          exact ⟨o :: l1, l2, by rw [e1]; rfl, .cons h1 (h2.imp id fun ⟨g, k1, k2, k3⟩ => ⟨g, k1, List.mem_cons_of_mem _ k2, k3⟩) e2, e3⟩
        | false => exact ⟨[], o :: l, rfl, .nil, .cons h1 h2 h3⟩
      exact both _

theorem hits_false {d : Nat} : ∀ {items : List (Nat × Oper)}, hits d items = false → ∀ i o, (i, o) ∈ items → o.dst ≠ some d := by
  intro items
  induction items with
  | nil => intro _ i o h; cases h
  | cons p r ih =>
    obtain ⟨i0, o0⟩ := p
    intro h i o hm
    simp only [hits, Bool.or_eq_false_iff] at h
    rcases List.mem_cons.1 hm with hm | hm
    · obtain ⟨rfl, rfl⟩ := Prod.mk.inj hm
      intro e
      rw [e] at h
      simp at h
    · exact ih h.2 i o hm

section
variable {P : Program} {B : Own} {N : Nat} {γ : Gh} {σ σ' : St} {a : Act} {w w' : World} {cx : Ctx} {nb : Nat} {bf : List Nat} {inl : Nat → List Val → St → Tree (Val × St)} {all : Array Oper}

/-- A guard whose test is known, and that nobody changes. -/
def GInv (all : Array Oper) (G : List (Nat × Bool)) (a : Act) (items : List (Nat × Oper)) : Prop :=
  ∀ g ∈ G, ∃ dj, (all[g.1]?).bind (·.dst) = some dj ∧ a.tmps[dj]? = some (.bool g.2) ∧ hits dj items = false

theorem GInv.wanted {G : List (Nat × Bool)} {items : List (Nat × Oper)} (h : GInv all G a items) {o : Oper} {g : Nat × Bool} (ho : o.guard = some g) (hg : g ∈ G) : Region.wanted o (yielded all a.tmps) = true := by
  obtain ⟨dj, h1, h2, _⟩ := h g hg
  obtain ⟨j, want⟩ := g
  unfold Region.wanted
  rw [ho]
  simp only [yielded, h1, Option.bind_some, h2]
  simp

/-- Slots that none of them writes to are as they were. -/
def Fr (items : List (Nat × Oper)) (a a' : Act) : Prop := ∀ t, hits t items = false → a'.tmps[t]? = a.tmps[t]?

theorem getElem?_put {a : Act} {d : Option Nat} {v : Value} {t : Nat} (h : d ≠ some t) : (a.put d v).tmps[t]? = a.tmps[t]? := by
  cases d with
  | none => rfl
  | some k =>
    have : k ≠ t := fun e => h (by rw [e])
    simp [Act.put, Array.getElem?_setIfInBounds_ne this]

theorem hits_cons {d i : Nat} {o : Oper} {r : List (Nat × Oper)} (h : hits d ((i, o) :: r) = false) : o.dst ≠ some d ∧ hits d r = false := by
  simp only [hits, Bool.or_eq_false_iff] at h
  refine ⟨fun e => ?_, h.2⟩
  rw [e] at h
  simp at h

theorem undef_slots (t : Nat) : ∀ (items : List (Nat × Oper)), (σ.undef items).slots t = bif hits t items then .undef else σ.slots t := by
  intro items
  induction items with
  | nil => rfl
  | cons p r ih =>
    obtain ⟨i, o⟩ := p
    simp only [St.undef, hits]
    cases hd : o.dst with
    | none => simp only [St.putO, Bool.false_or]; exact ih
    | some k =>
      simp only [St.putO, St.put]
      cases hk : Nat.beq k t with
      | true => obtain rfl := Nat.eq_of_beq_eq_true hk; simp
      | false =>
        have : Nat.beq t k = false := beq_ne (fun e => by subst e; simp at hk)
        rw [this]; simp only [cond_false, Bool.false_or]; exact ih

theorem undef_mem : ∀ (items : List (Nat × Oper)), (σ.undef items).mem = σ.mem := by
  intro items
  induction items with
  | nil => rfl
  | cons p r ih =>
    obtain ⟨i, o⟩ := p
    simp only [St.undef]
    cases o.dst <;> exact ih

/-- Slots that are given up. -/
theorem Sim.undef (h : Sim B N γ σ a w) {items : List (Nat × Oper)} {a' : Act} (hf : Fr items a a') (hs : a'.tmps.size = N) (hd : a'.defers = []) : Sim B N γ (σ.undef items) a' w where
  slots := fun t => by
    rw [undef_slots, undef_mem]
    cases hh : hits t items with
    | true => exact ⟨_, rfl⟩
    | false =>
      have := hf t hh
      have e : a'.tmps.getD t Go.undef = a.tmps.getD t Go.undef := by simp only [Array.getD_eq_getD_getElem?, this]
      rw [e]; exact h.slots t
  size := hs
  defers := hd
  ok := by rw [undef_mem]; exact h.ok

theorem yielded_put_undef {d : Option Nat} {k : Nat} (h : yielded all a.tmps k = none) : yielded all (a.put d Go.undef).tmps k = none := by
  unfold yielded at h ⊢
  cases hk : (all[k]?).bind (·.dst) with
  | none => rfl
  | some dk =>
    rw [hk] at h
    simp only [Option.bind_some] at h ⊢
    by_cases e : d = some dk
    · subst e
      simp only [Act.put]
      rw [Array.getElem?_setIfInBounds]
      simp only [if_true]
      by_cases hs : dk < a.tmps.size
      · rw [if_pos hs]; rfl
      · rw [if_neg hs]
    · rw [getElem?_put e]; exact h

theorem yielded_self {i : Nat} {o : Oper} (h : all[i]? = some o) : yielded all (a.put o.dst Go.undef).tmps i = none := by
  unfold yielded
  rw [h]
  simp only [Option.bind_some]
  cases hd : o.dst with
  | none => rfl
  | some d =>
    simp only [Option.bind_some, Act.put]
    rw [Array.getElem?_setIfInBounds]
    simp only [if_true]
    by_cases hs : d < a.tmps.size
    · rw [if_pos hs]; rfl
    · rw [if_neg hs]

/-- A group whose guard does not hold. -/
theorem skip_sound {G : List (Nat × Bool)} {j dj : Nat} {want c : Bool} {Q : Exit → Act → World → Prop} (hj : (all[j]?).bind (·.dst) = some dj) (hcw : c ≠ want) :
    ∀ {items : List (Nat × Oper)} {l : List Oper} {inner : List Nat} {a : Act}, Items all G items l → a.tmps[dj]? = some (.bool c) → hits dj (under j want inner items).1 = false → (∀ k ∈ inner, yielded all a.tmps k = none) →
      ∃ l1 l2, l = l1 ++ l2 ∧ l1.length = (under j want inner items).1.length ∧ ∀ rest, (∀ a', Fr (under j want inner items).1 a a' → a'.tmps.size = a.tmps.size → a'.defers = a.defers → wpList P all Q rest a' w) →
        wpList P all Q (l1 ++ rest) a w := by
  intro items l inner a h
  induction h generalizing inner a with
  | nil => intro _ _ _; exact ⟨[], [], rfl, rfl, fun rest hk => hk a (fun t _ => rfl) rfl rfl⟩
  | @cons i o o' r l h1 h2 h3 ih =>
    intro hc hh hin
    -- one operation that is not wanted, and what follows
    have one : ∀ (oo : Oper), oo.dst = o.dst → Region.wanted o (yielded all a.tmps) = false → (under j want inner ((i, o') :: r)).1 = (i, oo) :: (under j want (i :: inner) r).1 →
        ∃ l1 l2, o :: l = l1 ++ l2 ∧ l1.length = (under j want inner ((i, o') :: r)).1.length ∧ ∀ rest, (∀ a', Fr (under j want inner ((i, o') :: r)).1 a a' → a'.tmps.size = a.tmps.size → a'.defers = a.defers → wpList P all Q rest a' w) →
        wpList P all Q (l1 ++ rest) a w := by
      intro oo hoo hw hu
      rw [hu] at hh ⊢
      obtain ⟨hd1, hd2⟩ := hits_cons hh
      rw [hoo] at hd1
      obtain ⟨l1, l2, e1, e2, e3⟩ := ih (inner := i :: inner) (a := a.put o.dst Go.undef) (by rw [getElem?_put hd1]; exact hc) hd2 (fun k hk => by
        rcases List.mem_cons.1 hk with rfl | hk
        · exact yielded_self h1
        · exact yielded_put_undef (hin k hk))
      refine ⟨o :: l1, l2, by rw [e1]; rfl, by simp [e2], fun rest hk => ?_⟩
      show wpList P all Q (o :: (l1 ++ rest)) a w
      unfold wpList
      rw [hw]
      simp only [Bool.false_eq_true, if_false]
      refine e3 rest fun a' f1 f2 f3 => hk a' (fun t ht => ?_) (f2.trans (put_size _ _ _)) (f3.trans (put_defers _ _ _))
      obtain ⟨ht1, ht2⟩ := hits_cons ht
      rw [hoo] at ht1
      rw [f1 t ht2, getElem?_put ht1]
    cases hg : guardIs o'.guard j want with
    | true =>
      have ho : o' = o := by
        rcases h2 with h2 | ⟨g, k1, k2, k3⟩
        · exact h2
        · rw [k3] at hg; cases hg
      subst ho
      have hgd : o'.guard = some (j, want) := by
        unfold guardIs at hg
        split at hg
        · rename_i i' b' hgd
          simp only [Bool.and_eq_true] at hg
          have h9 := Nat.eq_of_beq_eq_true hg.1
          have h8 : b' = want := by simpa using hg.2
          rw [hgd, h9, h8]
        · cases hg
      refine one { o' with guard := none } rfl ?_ (by simp only [under, hg, cond_true])
      unfold Region.wanted
      rw [hgd]
      simp only [yielded, hj, Option.bind_some, hc]
      cases c <;> cases want <;> first | rfl | exact absurd rfl hcw
    | false =>
      cases hgd : o'.guard with
      | none =>
        have hu : (under j want inner ((i, o') :: r)).1 = [] := by
          rw [hgd] at hg
          simp only [under, hgd, hg, cond_false]
        rw [hu]
        exact ⟨[], o :: l, rfl, rfl, fun rest hk => hk a (fun t _ => rfl) rfl rfl⟩
      | some g =>
        obtain ⟨k, b⟩ := g
        rw [hgd] at hg
        cases hn : inner.any (Nat.beq k) with
        | true =>
          have ho : o' = o := by
            rcases h2 with h2 | ⟨g, k1, k2, k3⟩
            · exact h2
            · rw [k3] at hgd; cases hgd
          subst ho
          refine one o' rfl ?_ (by simp only [under, hgd, hg, hn, cond_false, cond_true])
          obtain ⟨k', hk', hkk⟩ := List.any_eq_true.1 hn
          obtain rfl := Nat.eq_of_beq_eq_true hkk
          unfold Region.wanted
          rw [hgd]
          simp only [hin k hk']
          rfl
        | false =>
          have hu : (under j want inner ((i, o') :: r)).1 = [] := by simp only [under, hgd, hg, hn, cond_false]
          rw [hu]
          exact ⟨[], o :: l, rfl, rfl, fun rest hk => hk a (fun t _ => rfl) rfl rfl⟩
end
end Go.Ge
namespace Go.Ge
set_option linter.unusedVariables false
set_option linter.unusedSimpArgs false
open RowKit

section
variable {P : Program} {B : Own} {N : Nat} {γ : Gh} {σ σ' : St} {a : Act} {w w' : World} {cx : Ctx} {nb : Nat} {bf : List Nat} {inl : Nat → List Val → St → Tree (Val × St)} {all : Array Oper}

theorem keep_undef (σ : St) (items : List (Nat × Oper)) : Keep σ (σ.undef items) := Keep.of_mem (undef_mem items)

theorem keep_evalOps (hinl : ∀ f vals σ v σ', (inl f vals σ).run = some (v, σ') → Keep σ σ') : ∀ (n : Nat) (items : List (Nat × Oper)) (σ : St), KeepT σ (evalOps cx nb bf inl all n items σ) := by
  intro n
  induction n with
  | zero => intro items σ; exact KeepT.fail
  | succ n ih =>
    intro items σ
    cases items with
    | nil => exact KeepT.ret (Keep.refl _)
    | cons p r =>
      obtain ⟨i, o⟩ := p
      unfold evalOps
      split
      · exact KeepT.bind fun σ1 h1 y hy => (keep_opStep hinl σ1 h1).trans (ih _ _ y hy)
      · rename_i j want hg
        dsimp only
        split
        · exact KeepT.fail
        · rename_i dj hdj
          split
          · rename_i c ip pk rest hslot hrest
            cases hh : hits dj (under j want [] ((i, o) :: r)).1 with
            | true => exact KeepT.fail
            | false =>
              simp only [cond_false]
              split
              · exact KeepT.fail
              · cases hin : inlines cx (under j want [] ((i, o) :: r)).1 with
                | true =>
                  simp only [cond_true]
                  intro y hy
                  obtain ⟨σ2, h1, h2⟩ := bind_some hy
                  refine Keep.trans ?_ (ih _ _ y h2)
                  refine (KeepT.node (σ := σ) ?_ ?_) σ2 h1
                  · refine KeepT.bind fun τ hτ => ?_
                    split
                    · exact KeepT.ret ((ih _ _ τ hτ).trans (Keep.putO _ _ _))
                    · exact KeepT.fail
                  · split
                    · exact KeepT.ret ((keep_undef _ _).trans (Keep.putO _ _ _))
                    · exact KeepT.fail
                | false =>
                  simp only [cond_false]
                  split
                  · intro y hy
                    rw [Tree.run_join] at hy
                    obtain ⟨x, h1, h2⟩ := Option.bind_eq_some_iff.1 hy
                    exact ((keep_undef _ _).trans (Keep.put _ _ _)).trans (ih _ _ y h2)
                  · exact KeepT.fail
          · exact KeepT.fail

theorem toD_rep {mem : Nat → Option Box} {t : Ty} {v : Val} {x : t.den} {val : Value} (h : toD t v = some x) (hv : Rep γ mem w v .val [val]) {mem' : Nat → Option Box} : Rep γ mem' w (.data t x) .val [val] := by
  unfold toD at h
  split at h
  · obtain ⟨q, hq⟩ := Ty.to_some h
    subst q; subst hq
    exact hv
  · split at h
    · obtain rfl := Option.some.inj h
      obtain rfl : val = _ := by simpa [Rep] using hv
      exact ⟨[.slice none 0 0], .inl ⟨⟨none, rfl⟩, rfl⟩, rfl⟩
    · cases h
  · cases h

theorem Items.length {G : List (Nat × Bool)} {items : List (Nat × Oper)} {l : List Oper} (h : Items all G items l) : items.length = l.length := by
  induction h with
  | nil => rfl
  | cons _ _ _ ih => simp [ih]

/-- The choice behind a group. -/
theorem pick_sound {pk : Oper} {dj : Nat} {b : Bool} {v : Val} {K : Act → World → Prop} {Q : Exit → Act → World → Prop} (h : Sim B N γ σ a w) (hb : a.tmps[dj]? = some (.bool b)) {want : Bool} (hw : b = want)
    (hch : chosen σ pk dj want = some v) (hK : ∀ y, Rep γ σ.mem w v .val [y] → K (a.put pk.dst y) w) : pk.wp P a w K Q := by
  unfold chosen at hch
  split at hch
  · rename_i c x y hop
    cases hc : Nat.beq c dj with
    | false => rw [hc] at hch; cases hch
    | true =>
      obtain rfl := Nat.eq_of_beq_eq_true hc
      rw [hc] at hch
      obtain rfl := Option.some.inj hch
      subst hw
      have he : a.eval (.tmp c) = .bool b := by simp [Act.eval, hb]
      unfold Oper.wp
      have hrun : (execOp a.eval pk).run P w = .ok (.value (a.eval (bif b then x else y))) w := by
        simp only [execOp, hop, he]
        cases b <;> rfl
      rw [hrun]
      exact hK _ (h.opv _)
  · cases hch

theorem GInv.put {G : List (Nat × Bool)} {i : Nat} {o : Oper} {r : List (Nat × Oper)} (h : GInv all G a ((i, o) :: r)) (v : Value) : GInv all G (a.put o.dst v) r := by
  intro g hg
  obtain ⟨dj, k1, k2, k3⟩ := h g hg
  obtain ⟨t1, t2⟩ := hits_cons k3
  exact ⟨dj, k1, by rw [getElem?_put t1]; exact k2, t2⟩

/-- The group and what is behind it write to what all write to. -/
theorem under_hits {d j : Nat} {want : Bool} : ∀ {items : List (Nat × Oper)} {inner : List Nat}, hits d items = (hits d (under j want inner items).1 || hits d (under j want inner items).2) := by
  intro items
  induction items with
  | nil => intro inner; rfl
  | cons p r ih =>
    obtain ⟨i, o⟩ := p
    intro inner
    unfold under
    cases hg : guardIs o.guard j want with
    | true => simp only [cond_true, hits, Bool.or_assoc]; rw [ih (inner := i :: inner)]
    | false =>
      simp only [cond_false]
      have both : ∀ c : Bool, hits d ((i, o) :: r) = (hits d (bif c then ((i, o) :: (under j want (i :: inner) r).1, (under j want (i :: inner) r).2) else ([], (i, o) :: r)).1 ||
          hits d (bif c then ((i, o) :: (under j want (i :: inner) r).1, (under j want (i :: inner) r).2) else ([], (i, o) :: r)).2) := by
        intro c
        cases c with
        | true => simp only [cond_true, hits, Bool.or_assoc]; rw [ih (inner := i :: inner)]
        | false => simp [hits]
      exact both _

theorem under_dsts {p : Option Nat → Prop} {j : Nat} {want : Bool} : ∀ {items : List (Nat × Oper)} {inner : List Nat}, (∀ i o, (i, o) ∈ items → p o.dst) →
    (∀ i o, (i, o) ∈ (under j want inner items).1 → p o.dst) ∧ (∀ i o, (i, o) ∈ (under j want inner items).2 → p o.dst) := by
  intro items
  induction items with
  | nil => intro inner h; exact ⟨h, h⟩
  | cons q r ih =>
    obtain ⟨i0, o0⟩ := q
    intro inner h
    have h0 := h i0 o0 (List.mem_cons_self ..)
    have hr : ∀ i o, (i, o) ∈ r → p o.dst := fun i o hm => h i o (List.mem_cons_of_mem _ hm)
    unfold under
    cases hg : guardIs o0.guard j want with
    | true =>
      simp only [cond_true]
      obtain ⟨k1, k2⟩ := ih (inner := i0 :: inner) hr
      refine ⟨fun i o hm => ?_, k2⟩
      rcases List.mem_cons.1 hm with hm | hm
      · obtain ⟨_, rfl⟩ := Prod.mk.inj hm; exact h0
      · exact k1 i o hm
    | false =>
      simp only [cond_false]
      have both : ∀ c : Bool, (∀ i o, (i, o) ∈ (bif c then ((i0, o0) :: (under j want (i0 :: inner) r).1, (under j want (i0 :: inner) r).2) else ([], (i0, o0) :: r)).1 → p o.dst) ∧
          (∀ i o, (i, o) ∈ (bif c then ((i0, o0) :: (under j want (i0 :: inner) r).1, (under j want (i0 :: inner) r).2) else ([], (i0, o0) :: r)).2 → p o.dst) := by
        intro c
        cases c with
        | true =>
          obtain ⟨k1, k2⟩ := ih (inner := i0 :: inner) hr
          refine ⟨fun i o hm => ?_, k2⟩
          rcases List.mem_cons.1 hm with hm | hm
          · obtain ⟨_, rfl⟩ := Prod.mk.inj hm; exact h0
          · exact k1 i o hm
        | false => exact ⟨fun i o hm => (by cases hm), h⟩
      exact both _

theorem tmps_of_rep {t : Nat} {b : Bool} (h : Sim B N γ σ a w) (hs : σ.slots t = .data .bool b) : a.tmps[t]? = some (.bool b) := by
  have := h.slots t
  rw [hs] at this
  have e := repBool this
  rw [Array.getD_eq_getD_getElem?] at e
  cases hq : a.tmps[t]? with
  | none => rw [hq] at e; cases e
  | some y => rw [hq] at e; exact congrArg some e

theorem node_way {α : Type} {c want : Bool} {t e : Tree α} {y : α} (h : (Tree.node (bif want then c else nt c) t e).run = some y) : (c = want ∧ t.run = some y) ∨ (c ≠ want ∧ c = (!want) ∧ e.run = some y) := by
  have := node_some h
  cases c <;> cases want
  · exact .inl ⟨rfl, this⟩
  · exact .inr ⟨by simp, rfl, this⟩
  · exact .inr ⟨by simp, rfl, this⟩
  · exact .inl ⟨rfl, this⟩

theorem evalOps_sound (hc : CxOk P cx) (hcon : ConOk P B.G cx) (hinl : InlOk P B.G inl) (hkeep : ∀ f vals σ v σ', (inl f vals σ).run = some (v, σ') → Keep σ σ') {Q : Exit → Act → World → Prop} :
    ∀ (n : Nat) {items : List (Nat × Oper)} {l rest : List Oper} {σ σ' : St} {γ : Gh} {a : Act} {w : World} {G : List (Nat × Bool)}, Items all G items l → GInv all G a items → (∀ i o, (i, o) ∈ items → ∀ k, o.dst = some k → k < N) →
      (evalOps cx nb bf inl all n items σ).run = some σ' → Sim B N γ σ a w →
      (∀ γ' a' w', Sim B N γ' σ' a' w' → Ext B γ σ.mem w γ' σ'.mem w' → Fr items a a' → wpList P all Q rest a' w') → wpList P all Q (l ++ rest) a w := by
  intro n
  induction n with
  | zero => intro items l rest σ σ' γ a w G _ _ _ hr; cases hr
  | succ n ih =>
    intro items l rest σ σ' γ a w G hit hG hd hr h hK
    cases hit with
    | nil =>
      obtain rfl := Option.some.inj hr
      exact hK γ a w h (Ext.refl _ _ _ _) (fun t _ => rfl)
    | @cons i o o' r l h1 h2 h3 =>
      have hdst : o'.dst = o.dst := by rcases h2 with rfl | ⟨_, _, _, rfl⟩ <;> rfl
      unfold evalOps at hr
      split at hr
      · rename_i hg
        obtain ⟨σ1, r1, r2⟩ := bind_some hr
        have hw : Region.wanted o (yielded all a.tmps) = true := by
          rcases h2 with rfl | ⟨g, k1, k2, k3⟩
          · unfold Region.wanted; rw [hg]
          · exact hG.wanted k1 k2
        have r1' : (opStep cx nb bf inl o σ).run = some σ1 := by
          rcases h2 with rfl | ⟨g, k1, k2, rfl⟩
          · exact r1
          · exact r1
        show wpList P all Q (o :: (l ++ rest)) a w
        unfold wpList
        rw [hw]
        simp only [if_true]
        refine .inl (op_sound hc hcon hinl h (fun k hk => hd i o' (List.mem_cons_self ..) k (by rw [hdst]; exact hk)) r1' fun γ1 v w1 s1 x1 => ?_)
        have hG' := hG.put v
        rw [hdst] at hG'
        refine ih h3 hG' (fun i o hm => hd i o (List.mem_cons_of_mem _ hm)) r2 s1 fun γ2 a2 w2 s2 x2 f2 => hK γ2 a2 w2 s2 (x1.trans x2) fun t ht => ?_
        obtain ⟨t1, t2⟩ := hits_cons ht
        rw [f2 t t2, getElem?_put (by rw [← hdst]; exact t1)]
      · rename_i j want hg
        dsimp only at hr
        split at hr
        · exact absurd hr (by intro k; cases k)
        rename_i dj hdj
        split at hr
        case h_2 => exact absurd hr (by intro k; cases k)
        rename_i c ip pk rest' hslot hrest
        change Bool at c
        cases hh : hits dj (under j want [] ((i, o') :: r)).1 with
        | true => rw [hh] at hr; exact absurd hr (by intro k; cases k)
        | false =>
        rw [hh] at hr
        simp only [cond_false] at hr
        split at hr
        · exact absurd hr (by intro k; cases k)
        rename_i hpg
        have hdjv : a.tmps[dj]? = some (.bool c) := tmps_of_rep h hslot
        obtain ⟨l1, l2, e1, I1, I2⟩ := under_items (j := j) (want := want) (inner := []) (Items.cons h1 h2 h3)
        obtain ⟨d1, d2⟩ := under_dsts (p := fun d => ∀ k, d = some k → k < N) (j := j) (want := want) (inner := []) hd
        have hhits : ∀ d, hits d ((i, o') :: r) = (hits d (under j want [] ((i, o') :: r)).1 || hits d (under j want [] ((i, o') :: r)).2) := fun d => under_hits
        have hskip := fun (hcw : c ≠ want) => skip_sound (P := P) (w := w) (Q := Q) hdj hcw (Items.cons h1 h2 h3) hdjv hh (fun k hk => by cases hk)
        generalize hg1 : (under j want [] ((i, o') :: r)).1 = g1 at *
        rw [hrest] at I2 d2 hhits
        cases I2 with
        | @cons _ pk0 _ _ l2' p1 p2 p3 =>
        have hpd : pk.dst = pk0.dst := by rcases p2 with rfl | ⟨_, _, _, rfl⟩ <;> rfl
        have hpop : pk.op = pk0.op := by rcases p2 with rfl | ⟨_, _, _, rfl⟩ <;> rfl
        rw [e1, List.append_assoc]
        -- the slots that nobody of the group, the choice or what is behind writes
        have hsplit : ∀ {d}, hits d ((i, o') :: r) = false → hits d g1 = false ∧ pk0.dst ≠ some d ∧ hits d rest' = false := by
          intro d hd0
          rw [hhits] at hd0
          simp only [Bool.or_eq_false_iff] at hd0
          obtain ⟨q1, q2⟩ := hits_cons hd0.2
          exact ⟨hd0.1, by rw [← hpd]; exact q1, q2⟩
        -- the choice, and what is behind it
        have tail : ∀ (γ1 : Gh) (τ σ2 : St) (a1 : Act) (w1 : World) (v : Val) (b : Bool), Sim B N γ1 τ a1 w1 → Fr g1 a a1 → c = b → chosen τ pk dj b = some v →
            (∀ y, Rep γ1 τ.mem w1 v .val [y] → ∃ γ2, Sim B N γ2 σ2 (a1.put pk0.dst y) w1 ∧ Ext B γ σ.mem w γ2 σ2.mem w1) → (evalOps cx nb bf inl all n rest' σ2).run = some σ' →
            wpList P all Q (pk0 :: l2' ++ rest) a1 w1 := by
          intro γ1 τ σ2 a1 w1 v b s1 f1 hcb hch hy hev
          have hGp : GInv all G a1 ((ip, pk) :: rest') := fun g hgm => by
            obtain ⟨dj', k1, k2, k3⟩ := hG g hgm
            obtain ⟨q1, q2, q3⟩ := hsplit k3
            refine ⟨dj', k1, by rw [f1 dj' q1]; exact k2, ?_⟩
            simp only [hits, Bool.or_eq_false_iff]
            refine ⟨?_, q3⟩
            cases hpk : pk.dst with
            | none => rfl
            | some k => exact beq_ne fun e => q2 (by rw [← hpd, hpk, e])
          have hwp : Region.wanted pk0 (yielded all a1.tmps) = true := by
            rcases p2 with rfl | ⟨g, k1, k2, k3⟩
            · unfold Region.wanted; rw [hpg]
            · exact hGp.wanted k1 k2
          show wpList P all Q (pk0 :: (l2' ++ rest)) a1 w1
          unfold wpList
          rw [hwp]
          simp only [if_true]
          have hch' : chosen τ pk0 dj b = some v := by rw [← hch]; unfold chosen; rw [hpop]
          refine .inl (pick_sound s1 (by rw [f1 dj hh]; exact hdjv) hcb hch' fun y hyr => ?_)
          obtain ⟨γ2, s2, x2⟩ := hy y hyr
          have hGr := hGp.put y
          rw [hpd] at hGr
          refine ih p3 hGr (fun i o hm => d2 i o (List.mem_cons_of_mem _ hm)) hev s2 fun γ3 a3 w3 s3 x3 f3 => hK γ3 a3 w3 s3 (x2.trans x3) fun t ht => ?_
          obtain ⟨q1, q2, q3⟩ := hsplit ht
          rw [f3 t q3, getElem?_put q2, f1 t q1]
        have hputO : ∀ (τ : St) (d : Option Nat) (v : Val), (τ.putO d v).mem = τ.mem := fun τ d v => by cases d <;> rfl
        have hpk : ∀ k, pk0.dst = some k → k < N := fun k hk => d2 ip pk (List.mem_cons_self ..) k (by rw [hpd]; exact hk)
        have hG1 : c = want → GInv all ((j, want) :: G) a g1 := fun hcw g hgm => by
          rcases List.mem_cons.1 hgm with rfl | hgm
          · exact ⟨dj, hdj, by rw [← hcw]; exact hdjv, hh⟩
          · obtain ⟨dj', k1, k2, k3⟩ := hG g hgm
            exact ⟨dj', k1, k2, (hsplit k3).1⟩
        have skipped : c ≠ want → (∀ a1, Fr g1 a a1 → a1.tmps.size = a.tmps.size → a1.defers = a.defers → wpList P all Q (pk0 :: l2' ++ rest) a1 w) → wpList P all Q (l1 ++ (pk0 :: l2' ++ rest)) a w := by
          intro hcw hk
          obtain ⟨m1, m2, q1, q2, q3⟩ := hskip hcw
          rw [e1] at q1
          obtain ⟨rfl, rfl⟩ := List.append_inj q1 (by rw [q2, I1.length])
          exact q3 _ hk
        cases hin : inlines cx g1 with
        | true =>
          rw [hin] at hr
          simp only [cond_true] at hr
          obtain ⟨σ2, hn, hev⟩ := bind_some hr
          rcases node_way (c := c) (want := want) hn with ⟨hcw, hn⟩ | ⟨hcw, hcn, hn⟩
          · obtain ⟨τ, t1, t2⟩ := bind_some hn
            split at t2
            · rename_i v hch
              obtain rfl := Option.some.inj t2
              refine ih I1 (hG1 hcw) d1 t1 h fun γ1 a1 w1 s1 x1 f1 => tail γ1 τ _ a1 w1 v want s1 f1 hcw hch (fun y hy => ⟨γ1, ?_, ?_⟩) hev
              · rw [hpd]; exact s1.putO' hpk hy
              · rw [hputO]; exact x1
            · exact absurd t2 (by intro k; cases k)
          · split at hn
            · rename_i v hch
              obtain rfl := Option.some.inj hn
              refine skipped hcw fun a1 f1 f2 f3 => tail γ (σ.undef g1) _ a1 w v (!want) (h.undef f1 (f2.trans h.size) (f3.trans h.defers)) f1 hcn hch (fun y hy => ⟨γ, ?_, ?_⟩) hev
              · rw [hpd]; exact (h.undef f1 (f2.trans h.size) (f3.trans h.defers)).putO' hpk hy
              · rw [hputO, undef_mem]; exact Ext.refl _ _ _ _
            · exact absurd hn (by intro k; cases k)
        | false =>
          rw [hin] at hr
          simp only [cond_false] at hr
          split at hr
          case h_2 => exact absurd hr (by intro k; cases k)
          rename_i t dp hT hdp
          rw [Tree.run_join] at hr
          obtain ⟨x, hn, hev⟩ := Option.bind_eq_some_iff.1 hr
          have hdp0 : pk0.dst = some dp := by rw [← hpd]; exact hdp
          rcases node_way (c := c) (want := want) hn with ⟨hcw, hn⟩ | ⟨hcw, hcn, hn⟩
          · obtain ⟨τ, t1, t2⟩ := bind_some hn
            split at t2
            · rename_i x' hch
              obtain rfl := Option.some.inj t2
              obtain ⟨v, hv1, hv2⟩ := Option.bind_eq_some_iff.1 hch
              refine ih I1 (hG1 hcw) d1 t1 h.lockAll fun γ1 a1 w1 s1 x1 f1 => tail γ1 τ _ a1 w1 v want s1 f1 hcw hv1 (fun y hy => ?_) hev
              obtain ⟨m1, m2⟩ := h.ok.unlock (lockAll_kept (keep_evalOps hkeep n g1 _ τ t1)) s1.ok x1
              have hS : Sim B N γ1 σ a w1 := h.go m2 m1
              have hS2 := hS.undef f1 s1.size s1.defers
              refine ⟨γ1, ?_, ?_⟩
              · rw [hdp0]; exact hS2.putO' (d := some dp) (fun k hk => hpk k (by rw [hdp0]; exact hk)) (toD_rep hv2 hy)
              · show Ext B γ σ.mem w γ1 (σ.undef g1).mem w1
                rw [undef_mem]; exact m2
            · exact absurd t2 (by intro k; cases k)
          · split at hn
            · rename_i x' hch
              obtain rfl := Option.some.inj hn
              obtain ⟨v, hv1, hv2⟩ := Option.bind_eq_some_iff.1 hch
              refine skipped hcw fun a1 f1 f2 f3 => tail γ (σ.undef g1) _ a1 w v (!want) (h.undef f1 (f2.trans h.size) (f3.trans h.defers)) f1 hcn hv1 (fun y hy => ⟨γ, ?_, ?_⟩) hev
              · rw [hdp0]; exact (h.undef f1 (f2.trans h.size) (f3.trans h.defers)).putO' (d := some dp) (fun k hk => hpk k (by rw [hdp0]; exact hk)) (toD_rep hv2 hy)
              · show Ext B γ σ.mem w γ (σ.undef g1).mem w
                rw [undef_mem]; exact Ext.refl _ _ _ _
            · exact absurd hn (by intro k; cases k)
end
end Go.Ge
namespace Go.Ge
set_option linter.unusedVariables false
set_option linter.unusedSimpArgs false
open RowKit

section
variable {P : Program} {B : Own} {N : Nat} {γ : Gh} {σ σ' : St} {a : Act} {w w' : World} {cx : Ctx} {nb : Nat} {bf : List Nat} {inl : Nat → List Val → St → Tree (Val × St)} {ops : Array Oper}

theorem number_items : ∀ {l : List Oper} {k : Nat}, (∀ j, l[j]? = ops[k + j]?) → Items ops [] (number k l) l := by
  intro l
  induction l with
  | nil => intro k _; exact .nil
  | cons o l ih =>
    intro k h
    refine .cons ?_ (.inl rfl) (ih fun j => by have := h (j + 1); simpa [Nat.add_assoc, Nat.add_comm 1 j] using this)
    have := h 0
    simpa using this.symm

theorem number_mem : ∀ {l : List Oper} {k i : Nat} {o : Oper}, (i, o) ∈ number k l → o ∈ l := by
  intro l
  induction l with
  | nil => intro k i o h; cases h
  | cons p l ih =>
    intro k i o h
    rcases List.mem_cons.1 h with h | h
    · obtain ⟨_, rfl⟩ := Prod.mk.inj h; exact List.mem_cons_self ..
    · exact List.mem_cons_of_mem _ (ih h)

theorem region_sound (hc : CxOk P cx) (hcon : ConOk P B.G cx) (hinl : InlOk P B.G inl) (hkeep : ∀ f vals σ v σ', (inl f vals σ).run = some (v, σ') → Keep σ σ') {Q : Exit → Act → World → Prop} {id : Nat}
    (hd : ∀ o ∈ ops.toList, ∀ k, o.dst = some k → k < N) (hr : (evalRegion cx nb bf inl ops σ).run = some σ') (h : Sim B N γ σ a w)
    (hK : ∀ γ' a' w', Sim B N γ' σ' a' w' → Ext B γ σ.mem w γ' σ'.mem w' → Fr (number 0 ops.toList) a a' → Q .normal a' w') : (Code.region id ops false).wp P Q a w := by
  refine wp_region_list ?_
  have := evalOps_sound (all := ops) (Q := Q) (rest := []) hc hcon hinl hkeep _ (number_items (l := ops.toList) (k := 0) (fun j => by simp)) (fun g hg => by cases hg) (fun i o hm => hd o (number_mem hm)) hr h
    (fun γ' a' w' s x f => wpList_nil (hK γ' a' w' s x f))
  simpa using this
end
end Go.Ge
namespace Go.Ge
set_option linter.unusedVariables false
set_option linter.unusedSimpArgs false
open RowKit

/-- Only boxes of a kind are changed, and none vanishes. -/
def Chg (p : Nat → Prop) (σ τ : St) : Prop := ∀ b, τ.mem b = σ.mem b ∨ (τ.mem b ≠ none ∧ p b)

section
variable {p : Nat → Prop} {σ τ ρ : St}
theorem Chg.refl (σ : St) : Chg p σ σ := fun _ => .inl rfl
theorem Chg.of_mem (h : τ.mem = σ.mem) : Chg p σ τ := fun b => .inl (by rw [h])
theorem Chg.trans (h : Chg p σ τ) (k : Chg p τ ρ) : Chg p σ ρ := fun b => by
  rcases k b with k1 | k1
  · rcases h b with h1 | ⟨h1, h2⟩
    · exact .inl (k1.trans h1)
    · exact .inr ⟨by rw [k1]; exact h1, h2⟩
  · exact .inr k1
theorem Chg.putO (σ : St) (d : Option Nat) (v : Val) : Chg p σ (σ.putO d v) := by cases d <;> exact fun _ => .inl rfl
theorem Chg.put (σ : St) (d : Nat) (v : Val) : Chg p σ (σ.put d v) := fun _ => .inl rfl
theorem Chg.setBox {b : Nat} {bx : Box} (h : p b) : Chg p σ (σ.setBox b bx) := fun c => by
  by_cases e : c = b
  · subst e; exact .inr ⟨by simp [St.setBox], h⟩
  · exact .inl (by rw [setBox_mem, setMem_other _ e])
end

def ChgT (p : Nat → Prop) (σ : St) (T : Tree St) : Prop := ∀ y, T.run = some y → Chg p σ y

section
variable {p : Nat → Prop} {σ : St}
theorem ChgT.fail : ChgT p σ .fail := fun y h => by cases h
theorem ChgT.ret {σ' : St} (h : Chg p σ σ') : ChgT p σ (.ret σ') := fun y hy => by obtain rfl := Option.some.inj hy; exact h
theorem ChgT.bif {c : Bool} {t : Tree St} (h : ChgT p σ t) : ChgT p σ (bif c then t else .fail) := fun y hy => h y (bif_some hy).2
theorem ChgT.need {c : Bool} {t : Tree St} (h : ChgT p σ t) : ChgT p σ (.need c t) := fun y hy => h y (need_some hy).2
theorem ChgT.look {T : Type} {o : Option T} {k : T → Tree St} (h : ∀ x, ChgT p σ (k x)) : ChgT p σ (.look o k) := fun y hy => by obtain ⟨x, _, h2⟩ := look_some hy; exact h x y h2
theorem ChgT.node {c : Bool} {t e : Tree St} (h : ChgT p σ t) (k : ChgT p σ e) : ChgT p σ (.node c t e) := fun y hy => by
  have := node_some hy
  cases c with
  | true => exact h y this
  | false => exact k y this
theorem ChgT.bind {α : Type} {t : Tree α} {f : α → Tree St} (h : ∀ x, t.run = some x → ChgT p σ (f x)) : ChgT p σ (t.bind f) := fun y hy => by obtain ⟨x, h1, h2⟩ := bind_some hy; exact h x h1 y h2
theorem ChgT.newBox {b : Nat} {val : Val} {tid : TypeId} {buf : Bool} {d : Nat} {v : Nat → Val} (h : p b) : ChgT p σ (σ.newBox b val tid buf fun ver σ => .ret (σ.put d (v ver))) := fun y hy => by
  obtain ⟨ver, k1, k2⟩ := keep_newBox hy
  obtain rfl := Option.some.inj k2
  exact (Chg.setBox h).trans (Chg.put _ _ _)

theorem chg_freeze {σ σ' : St} {b : Nat} (hp : ∀ b, σ.mem b ≠ none → p b) (h : freeze σ b = some σ') : Chg p σ σ' := by
  unfold freeze at h
  split at h
  · rename_i bx hb
    cases hro : bx.ro with
    | true => simp only [hro, cond_true, Option.some.injEq] at h; rw [← h]; exact Chg.refl _
    | false =>
      cases hlk : bx.lk with
      | true => simp [hro, hlk] at h
      | false =>
        simp only [hro, hlk, cond_false, Option.some.injEq] at h
        rw [← h]
        exact Chg.setBox (hp b (by rw [hb]; simp))
  · cases h

/-- What is not there stays so. -/
def Dom (p : Nat → Prop) (σ σ' : St) : Prop := (∀ b, σ.mem b ≠ none → p b) → Chg p σ σ' ∧ ∀ b, σ'.mem b ≠ none → p b

theorem Dom.refl (σ : St) : Dom p σ σ := fun h => ⟨Chg.refl _, h⟩
theorem Dom.trans {σ τ ρ : St} (h : Dom p σ τ) (k : Dom p τ ρ) : Dom p σ ρ := fun hp => by
  obtain ⟨h1, h2⟩ := h hp
  obtain ⟨k1, k2⟩ := k h2
  exact ⟨h1.trans k1, k2⟩
theorem Dom.of {σ σ' : St} (h : (∀ b, σ.mem b ≠ none → p b) → Chg p σ σ') : Dom p σ σ' := fun hp => by
  refine ⟨h hp, fun b hb => ?_⟩
  rcases h hp b with k | k
  · exact hp b (by rw [← k]; exact hb)
  · exact k.2

theorem dom_freezeV : ∀ {v : Val} {σ σ' : St}, freezeV σ v = some σ' → Dom p σ σ' := by
  intro v
  induction v with
  | mix p q ihp ihq =>
    intro σ σ' h
    obtain ⟨σ1, h1, h2⟩ := freezeV_mix h
    exact (ihp h1).trans (ihq h2)
  | whole b ver => intro σ σ' h; exact Dom.of fun hp => chg_freeze hp h
  | part b ver lo n => intro σ σ' h; exact Dom.of fun hp => chg_freeze hp h
  | _ => intro σ σ' h; obtain rfl := Option.some.inj h; exact Dom.refl _

theorem dom_give {t : Ty} {x : t.den} {v : Val} {σ σ' : St} (h : give σ t v = some (x, σ')) : Dom p σ σ' := by
  unfold give at h
  split at h
  · split at h
    · obtain ⟨_, rfl⟩ := Prod.mk.inj (Option.some.inj h); exact Dom.refl _
    · cases h
  · split at h
    · rename_i y σ1 hl hf
      obtain ⟨_, rfl⟩ := Prod.mk.inj (Option.some.inj h)
      exact dom_freezeV hf
    · cases h

theorem dom_giveAll : ∀ {A : Ty} {x : A.den} {vs : List Val} {σ σ' : St}, giveAll σ A vs = some (x, σ') → Dom p σ σ' := by
  intro A
  induction A with
  | pair t r iht ihr =>
    intro x vs σ σ' hl
    cases vs with
    | nil => cases hl
    | cons v vs =>
      simp only [giveAll] at hl
      split at hl
      · rename_i p σ1 hp
        split at hl
        · rename_i q σ2 hq
          obtain ⟨_, rfl⟩ := Prod.mk.inj (Option.some.inj hl)
          exact (dom_give hp).trans (ihr hq)
        · cases hl
      · cases hl
  | unit =>
    intro x vs σ σ' hl
    cases vs with
    | nil => obtain ⟨_, rfl⟩ := Prod.mk.inj (Option.some.inj hl); exact Dom.refl _
    | cons v vs => cases hl
  | _ => intro x vs σ σ' hl; cases vs <;> cases hl

theorem dom_buildParts {t : Ty} : ∀ {parts : List (Nat × Operand)} {x x' : t.den} {σ σ' : St}, buildParts σ t x parts = some (x', σ') → Dom p σ σ' := by
  intro parts
  induction parts with
  | nil => intro x x' σ σ' h; obtain ⟨_, rfl⟩ := Prod.mk.inj (Option.some.inj h); exact Dom.refl _
  | cons p r ih =>
    obtain ⟨k, o⟩ := p
    intro x x' σ σ' h
    simp only [buildParts] at h
    split at h
    · split at h
      · rename_i hg
        split at h
        · exact (dom_give hg).trans (ih h)
        · cases h
      · cases h
    · cases h

theorem dom_buildList {e : Ty} : ∀ {parts : List (Nat × Operand)} {l l' : List e.den} {σ σ' : St}, buildList σ e l parts = some (l', σ') → Dom p σ σ' := by
  intro parts
  induction parts with
  | nil => intro x x' σ σ' h; obtain ⟨_, rfl⟩ := Prod.mk.inj (Option.some.inj h); exact Dom.refl _
  | cons p r ih =>
    obtain ⟨k, o⟩ := p
    intro l l' σ σ' h
    simp only [buildList] at h
    split at h
    · rename_i hg
      cases hlt : Nat.blt k l.length with
      | false => rw [hlt] at h; cases h
      | true => rw [hlt] at h; exact (dom_give hg).trans (ih h)
    · cases h

theorem dom_storeAt {b ver : Nat} {p' : List Sel} {fit : Val → Bool} {u : Val} {σ σ' : St} (hr : (storeAt b ver p' fit u σ).run = some σ') : Dom p σ σ' := Dom.of fun hp => by
  unfold storeAt at hr
  split at hr
  case h_2 => exact absurd hr (by intro k; cases k)
  rename_i bx hb
  obtain ⟨hc, hr2⟩ := bif_some hr
  obtain ⟨old, hn, hr3⟩ := bind_some hr2
  obtain ⟨hfit, hr4⟩ := bif_some hr3
  obtain ⟨c, hs, hr5⟩ := bind_some hr4
  obtain rfl := Option.some.inj hr5
  exact Chg.setBox (hp b (by rw [hb]; simp))

theorem dom_storeOp {b ver : Nat} {p' : List Sel} {n : Nat} {u : Val} {σ σ' : St} (hr : (storeOp b ver p' n u σ).run = some σ') : Dom p σ σ' := Dom.of fun hp => by
  unfold storeOp at hr
  split at hr
  case h_2 => exact absurd hr (by intro k; cases k)
  rename_i bx hb
  obtain ⟨hc, hr2⟩ := bif_some hr
  obtain ⟨old, hn, hr3⟩ := bind_some hr2
  obtain ⟨hfit, hr4⟩ := bif_some hr3
  obtain ⟨c, hs, hr5⟩ := bind_some hr4
  obtain ⟨hpc, hr6⟩ := bif_some hr5
  obtain rfl := Option.some.inj hr6
  exact Chg.setBox (hp b (by rw [hb]; simp))

theorem dom_stepStore {cx : Ctx} {bf : List Nat} {ty : TypeId} {x y : Val} {σ σ' : St} (hr : (stepStore cx bf ty x y σ).run = some σ') : Dom p σ σ' := by
  unfold stepStore at hr
  split at hr
  case h_2 => exact absurd hr (by intro k; cases k)
  split at hr
  case h_2 => exact absurd hr (by intro k; cases k)
  obtain ⟨hver, hr2⟩ := bif_some hr
  obtain ⟨old, hn, hr3⟩ := bind_some hr2
  split at hr3
  · rename_i u _
    obtain ⟨hT, hr4⟩ := bif_some hr3
    cases hq : memN bf 8000000 && ownV u y with
    | true => rw [hq] at hr4; exact dom_storeOp hr4
    | false =>
    rw [hq] at hr4
    replace hr4 : (match give σ u y with | some (y, σ) => storeAt _ _ _ (fitD u) (.data u y) σ | none => .fail).run = some σ' := hr4
    split at hr4
    · rename_i hg; exact (dom_give hg).trans (dom_storeAt hr4)
    · exact absurd hr4 (by intro k; cases k)
  · obtain ⟨hT, hr4⟩ := bif_some hr3
    exact dom_storeAt hr4

theorem chg_stepAppend {cx : Ctx} {nb : Nat} {d : Option Nat} {ty : TypeId} {s x : Val} {σ σ' : St} (hn : ∀ k, d = some k → p (nb + k)) (hp : ∀ b, σ.mem b ≠ none → p b) (hr : (stepAppend cx nb d ty s x σ).run = some σ') : Chg p σ σ' := by
  unfold stepAppend at hr
  split at hr
  case h_2 => exact absurd hr (by intro k; cases k)
  split at hr
  case h_2 => exact absurd hr (by intro k; cases k)
  split at hr
  · obtain ⟨hf, hr2⟩ := need_some hr
    exact ChgT.newBox (hn _ rfl) _ hr2
  · split at hr
    case h_2 => exact absurd hr (by intro k; cases k)
    rename_i bx l hb hl
    obtain ⟨hlk, hr1⟩ := bif_not_some hr
    obtain ⟨hf, hr2⟩ := need_some hr1
    obtain rfl := Option.some.inj hr2
    exact (Chg.setBox (hp _ (by rw [hb]; simp))).trans (Chg.put _ _ _)
  · exact absurd hr (by intro k; cases k)

theorem dom_newBox {b : Nat} {val : Val} {tid : TypeId} {buf : Bool} {d : Nat} {v : Nat → Val} {σ σ' : St} (h : p b) (hr : (σ.newBox b val tid buf fun ver σ => .ret (σ.put d (v ver))).run = some σ') : Chg p σ σ' := ChgT.newBox h _ hr

theorem chg_stepClone {nb : Nat} {e : Ty} {d : Option Nat} {args : List Val} {σ σ' : St} (hn : ∀ k, d = some k → p (nb + k)) (hp : ∀ b, σ.mem b ≠ none → p b) (hr : (stepClone nb e d args σ).run = some σ') : Chg p σ σ' := by
  unfold stepClone at hr
  split at hr
  case h_2 => cases hr
  split at hr
  case h_2 => cases hr
  rename_i hg
  obtain ⟨_, hr⟩ := bif_some hr
  obtain ⟨_, hr⟩ := need_some hr
  exact ((dom_give hg) hp).1.trans (dom_newBox (hn _ rfl) hr)

theorem chg_stepMaker {nb g : Nat} {d : Option Nat} {args : List Val} {σ σ' : St} (hn : ∀ k, d = some k → p (nb + k)) (hr : (stepMaker nb g d args σ).run = some σ') : Chg p σ σ' := by
  unfold stepMaker at hr
  split at hr
  · cases hr
  · cases hr
  · exact dom_newBox (v := fun ver => .fn g [(_, ver)]) (hn _ rfl) (bif_some hr).2
  · cases hr

theorem chg_stepOwn {e A : Ty} {res : Bool} {spec : List e.den → A.den → Option (List e.den)} {d : Option Nat} {args : List Val} {σ σ' : St} (hp : ∀ b, σ.mem b ≠ none → p b) (hr : (stepOwn e A res spec d args σ).run = some σ') : Chg p σ σ' := by
  unfold stepOwn at hr
  split at hr
  case h_2 => cases hr
  split at hr
  case h_2 => cases hr
  rename_i x σ1 hg
  split at hr
  case h_2 => cases hr
  rename_i b ver bx l hor
  obtain ⟨l', _, hr⟩ := look_some hr
  obtain ⟨hb, _⟩ := ownRef_some hor
  obtain ⟨g1, g2⟩ := (dom_giveAll hg) hp
  have key : ∀ bx', Chg p σ1 (σ1.setBox b bx') := fun bx' => Chg.setBox (g2 b (by rw [hb]; simp))
  cases res with
  | true =>
    cases d with
    | none => cases hr
    | some k => obtain rfl := Option.some.inj hr; exact (g1.trans (key _)).trans (Chg.put _ _ _)
  | false =>
    cases d with
    | none => obtain ⟨_, hr⟩ := bif_some hr; obtain rfl := Option.some.inj hr; exact (g1.trans (key _)).trans (Chg.putO _ none _)
    | some k => obtain ⟨_, hr⟩ := bif_some hr; obtain rfl := Option.some.inj hr; exact (g1.trans (key _)).trans (Chg.putO _ (some _) _)
end


section
variable {cx : Ctx} {nb : Nat} {bf : List Nat} {d : Option Nat} {σ : St} {p : Nat → Prop}

theorem chg_stepPick {c a b : Val} : ChgT p σ (stepPick d c a b σ) := by unfold stepPick; (repeat' (first | exact ChgT.fail | exact ChgT.ret (Chg.putO _ _ _) | exact ChgT.ret (Chg.put _ _ _) | exact ChgT.newBox (by assumption) | refine ChgT.bif ?_ | refine ChgT.need ?_ | refine ChgT.look fun _ => ?_ | refine ChgT.node ?_ ?_ | refine ChgT.bind fun _ _ => ?_ | split))
theorem chg_stepLoad {ty : TypeId} {a : Val} : ChgT p σ (stepLoad cx d ty a σ) := by unfold stepLoad; (repeat' (first | exact ChgT.fail | exact ChgT.ret (Chg.putO _ _ _) | exact ChgT.ret (Chg.put _ _ _) | exact ChgT.newBox (by assumption) | refine ChgT.bif ?_ | refine ChgT.need ?_ | refine ChgT.look fun _ => ?_ | refine ChgT.node ?_ ?_ | refine ChgT.bind fun _ _ => ?_ | split))
theorem chg_stepSlice {ty : TypeId} {x : Val} {lo hi : Option Operand} : ChgT p σ (stepSlice cx d ty x lo hi σ) := by unfold stepSlice; (repeat' (first | exact ChgT.fail | exact ChgT.ret (Chg.putO _ _ _) | exact ChgT.ret (Chg.put _ _ _) | exact ChgT.newBox (by assumption) | refine ChgT.bif ?_ | refine ChgT.need ?_ | refine ChgT.look fun _ => ?_ | refine ChgT.node ?_ ?_ | refine ChgT.bind fun _ _ => ?_ | split))
theorem chg_atRow {b ver : Nat} {i : Int} : ∀ {m k : Nat}, ChgT p σ (atRow d b ver σ i m k) := by
  intro m
  induction m with
  | zero => intro k; exact ChgT.fail
  | succ m ih => intro k; exact ChgT.node (ChgT.ret (Chg.putO _ _ _)) ih
theorem chg_stepIndexAddr {ty : TypeId} {x : Val} {i : Int} : ChgT p σ (stepIndexAddr cx d ty x i σ) := by
  unfold stepIndexAddr
  split
  case h_6 => split
              · exact ChgT.bif chg_atRow
              · exact ChgT.fail
  all_goals (repeat' (first | exact ChgT.fail | exact ChgT.ret (Chg.putO _ _ _) | exact ChgT.ret (Chg.put _ _ _) | exact ChgT.newBox (by assumption) | refine ChgT.bif ?_ | refine ChgT.need ?_ | refine ChgT.look fun _ => ?_ | refine ChgT.node ?_ ?_ | refine ChgT.bind fun _ _ => ?_ | split))
theorem chg_stepRowAt {ty : TypeId} {x : Val} {i : Int} : ChgT p σ (stepRowAt cx d ty x i σ) := by
  unfold stepRowAt
  split
  · refine ChgT.bif ?_
    split
    · exact ChgT.bif (ChgT.ret (Chg.putO _ _ _))
    · exact ChgT.fail
  · exact chg_stepIndexAddr
theorem chg_stepIndex {ty : TypeId} {x : Val} {i : Int} : ChgT p σ (stepIndex cx d ty x i σ) := by unfold stepIndex; (repeat' (first | exact ChgT.fail | exact ChgT.ret (Chg.putO _ _ _) | exact ChgT.ret (Chg.put _ _ _) | exact ChgT.newBox (by assumption) | refine ChgT.bif ?_ | refine ChgT.need ?_ | refine ChgT.look fun _ => ?_ | refine ChgT.node ?_ ?_ | refine ChgT.bind fun _ _ => ?_ | split))
theorem chg_stepFieldAddr {s : TypeId} {x : Val} {k : Nat} : ChgT p σ (stepFieldAddr cx d s x k σ) := by unfold stepFieldAddr; (repeat' (first | exact ChgT.fail | exact ChgT.ret (Chg.putO _ _ _) | exact ChgT.ret (Chg.put _ _ _) | exact ChgT.newBox (by assumption) | refine ChgT.bif ?_ | refine ChgT.need ?_ | refine ChgT.look fun _ => ?_ | refine ChgT.node ?_ ?_ | refine ChgT.bind fun _ _ => ?_ | split))
theorem chg_stepAssign {ty : TypeId} {v : Val} (hn : ∀ k, d = some k → p (nb + k)) : ChgT p σ (stepAssign cx nb bf d ty v σ) := by
  unfold stepAssign
  split
  · (repeat' (first | exact ChgT.fail | exact ChgT.ret (Chg.putO _ _ _) | exact ChgT.ret (Chg.put _ _ _) | exact ChgT.newBox (by assumption) | refine ChgT.bif ?_ | refine ChgT.need ?_ | refine ChgT.look fun _ => ?_ | refine ChgT.node ?_ ?_ | refine ChgT.bind fun _ _ => ?_ | split))
  · split
    · rename_i k e _
      cases memN bf k with
      | true => exact ChgT.newBox (hn _ rfl)
      | false => exact ChgT.ret (Chg.put _ _ _)
    · exact ChgT.ret (Chg.putO _ _ _)
  · exact ChgT.ret (Chg.putO _ _ _)
theorem chg_stepConvert {s t : TypeId} {x : Val} (hn : ∀ k, d = some k → p (nb + k)) : ChgT p σ (stepConvert cx nb d s t x σ) := by
  unfold stepConvert
  split
  · (repeat' (first | exact ChgT.fail | exact ChgT.ret (Chg.putO _ _ _) | exact ChgT.ret (Chg.put _ _ _) | exact ChgT.newBox (by assumption) | refine ChgT.bif ?_ | refine ChgT.need ?_ | refine ChgT.look fun _ => ?_ | refine ChgT.node ?_ ?_ | refine ChgT.bind fun _ _ => ?_ | split))
  · (repeat' (first | exact ChgT.fail | exact ChgT.ret (Chg.putO _ _ _) | exact ChgT.ret (Chg.put _ _ _) | exact ChgT.newBox (by assumption) | refine ChgT.bif ?_ | refine ChgT.need ?_ | refine ChgT.look fun _ => ?_ | refine ChgT.node ?_ ?_ | refine ChgT.bind fun _ _ => ?_ | split))
  · split
    · exact ChgT.need (ChgT.newBox (hn _ rfl))
    · exact ChgT.fail
  · (repeat' (first | exact ChgT.fail | exact ChgT.ret (Chg.putO _ _ _) | exact ChgT.ret (Chg.put _ _ _) | exact ChgT.newBox (by assumption) | refine ChgT.bif ?_ | refine ChgT.need ?_ | refine ChgT.look fun _ => ?_ | refine ChgT.node ?_ ?_ | refine ChgT.bind fun _ _ => ?_ | split))
  · (repeat' (first | exact ChgT.fail | exact ChgT.ret (Chg.putO _ _ _) | exact ChgT.ret (Chg.put _ _ _) | exact ChgT.newBox (by assumption) | refine ChgT.bif ?_ | refine ChgT.need ?_ | refine ChgT.look fun _ => ?_ | refine ChgT.node ?_ ?_ | refine ChgT.bind fun _ _ => ?_ | split))

theorem readO_has {mem : Nat → Option Box} : ∀ {o : OT} {v : Val} {u : o.den} {N M : List (Nat × Nat)}, readO mem o v = some (u, N, M) → ∀ b ∈ namesOf N M, mem b ≠ none := by
  intro o
  induction o with
  | dat t =>
    intro v u N M h
    unfold readO at h
    split at h
    · cases h; intro b hb; cases hb
    · cases h
  | buf e eid =>
    intro v u N M h
    unfold readO at h
    split at h
    case h_2 => cases h
    rename_i b ver
    split at h
    case h_2 => cases h
    rename_i bx hb
    cases hcd : (Nat.beq bx.ver ver && bx.buf && !bx.lk && !bx.ro && Nat.beq bx.tid eid && Nat.blt 0 e.size) with
    | false => rw [hcd] at h; cases h
    | true =>
      rw [hcd] at h
      simp only [cond_true] at h
      split at h
      case h_2 => cases h
      split at h
      case h_2 => cases h
      cases h
      intro c hc
      have : c = b := by simpa [namesOf] using hc
      subst this
      rw [hb]; simp
  | map =>
    intro v u N M h
    unfold readO at h
    split at h
    case h_2 => cases h
    rename_i b ver
    split at h
    case h_2 => cases h
    rename_i bx hb
    cases hcd : (Nat.beq bx.ver ver && bx.buf && !bx.lk && !bx.ro) with
    | false => rw [hcd] at h; cases h
    | true =>
      rw [hcd] at h
      simp only [cond_true] at h
      split at h
      case h_2 => cases h
      cases h
      intro c hc
      have : c = b := by simpa [namesOf] using hc
      subst this
      rw [hb]; simp
  | ref tid o ih =>
    intro v u N M h
    unfold readO at h
    split at h
    case h_2 => cases h
    rename_i b ver
    split at h
    case h_2 => cases h
    rename_i bx hb
    cases hcd : (Nat.beq bx.ver ver && !bx.buf && !bx.lk && !bx.ro && Nat.beq bx.tid tid) with
    | false => rw [hcd] at h; cases h
    | true =>
      rw [hcd] at h
      simp only [cond_true] at h
      split at h
      case h_2 => cases h
      rename_i u1 N1 M1 hr
      cases h
      intro c hc
      unfold namesOf at hc
      simp only [List.map_cons, List.cons_append, List.mem_cons] at hc
      rcases hc with rfl | hc
      · rw [hb]; simp
      · exact ih hr c hc
  | rf tid o ih =>
    intro v u N M h
    unfold readO at h
    split at h
    case h_2 => cases h
    rename_i b ver
    split at h
    case h_2 => cases h
    rename_i bx hb
    cases hcd : (Nat.beq bx.ver ver && !bx.buf && !bx.lk && !bx.ro && Nat.beq bx.tid tid) with
    | false => rw [hcd] at h; cases h
    | true =>
      rw [hcd] at h
      simp only [cond_true] at h
      split at h
      case h_2 => cases h
      rename_i u1 N1 M1 hr
      cases h
      intro c hc
      unfold namesOf at hc
      simp only [List.map_cons, List.mem_append, List.mem_cons] at hc
      rcases hc with hc | rfl | hc
      · exact ih hr c (by unfold namesOf; exact List.mem_append_left _ hc)
      · rw [hb]; simp
      · exact ih hr c (by unfold namesOf; exact List.mem_append_right _ hc)
  | pair p q ihp ihq =>
    intro v u N M h
    unfold readO at h
    split at h
    case h_2 => cases h
    split at h
    case h_2 => cases h
    rename_i x N1 M1 y N2 M2 h1 h2
    cases h
    intro c hc
    unfold namesOf at hc
    simp only [List.map_append, List.mem_append] at hc
    rcases hc with (hc | hc) | (hc | hc)
    · exact ihp h1 c (List.mem_append_left _ hc)
    · exact ihq h2 c (List.mem_append_left _ hc)
    · exact ihp h1 c (List.mem_append_right _ hc)
    · exact ihq h2 c (List.mem_append_right _ hc)
  | unit =>
    intro v u N M h
    unfold readO at h
    split at h
    case h_2 => cases h
    cases h; intro b hb; cases hb
  | nilp =>
    intro v u N M h
    unfold readO at h
    split at h
    case h_2 => cases h
    cases h; intro b hb; cases hb

theorem refArgs_has {σ : St} : ∀ {ps : List Bool} {A : Ty} {U : OT} {vs : List Val} {x : A.den} {u : U.den} {N M : List (Nat × Nat)}, refArgs σ ps A U vs = some (x, u, N, M) → ∀ b ∈ namesOf N M, σ.mem b ≠ none := by
  intro ps
  induction ps with
  | nil =>
    intro A U vs x u N M h
    cases A <;> first | (cases h; done) | skip
    cases U <;> first | (cases h; done) | skip
    cases vs with
    | cons v r => cases h
    | nil => cases h; intro b hb; cases hb
  | cons q ps ih =>
    intro A U vs x u N M h
    cases q with
    | false =>
      cases A <;> first | (cases h; done) | skip
      cases vs with
      | nil => cases h
      | cons v r =>
        simp only [refArgs] at h
        split at h
        · rename_i h2
          cases h
          exact ih h2
        · cases h
    | true =>
      cases U <;> first | (cases h; done) | skip
      rename_i o U
      cases o <;> first | (cases h; done) | skip
      case nilp =>
        cases vs with
        | nil => cases h
        | cons v r =>
          cases v <;> first | (cases h; done) | skip
          simp only [refArgs] at h
          split at h
          · rename_i h2
            cases h
            exact ih h2
          · cases h
      cases vs with
      | nil => cases h
      | cons v r =>
        simp only [refArgs] at h
        split at h
        · rename_i x1 N1 M1 y1 u1 N2 M2 h1 h2
          cases h
          intro c hc
          unfold namesOf at hc
          simp only [List.map_append, List.mem_append] at hc
          rcases hc with (hc | hc) | (hc | hc)
          · exact readO_has h1 c (List.mem_append_left _ hc)
          · exact ih h2 c (List.mem_append_left _ hc)
          · exact readO_has h1 c (List.mem_append_right _ hc)
          · exact ih h2 c (List.mem_append_right _ hc)
        · cases h

theorem chg_setRefs {ps : List Bool} {A : Ty} {U : OT} {vs : List Val} {x : A.den} {u y : U.den} {N M : List (Nat × Nat)} (h : refArgs σ ps A U vs = some (x, u, N, M)) (hp : ∀ b, σ.mem b ≠ none → p b) : Chg p σ (setRefs U y N M σ) := fun b => by
  rw [setRefs_mem]
  cases hv : conM U y N (M.map fun p => (p.1, p.2 + 1)) b with
  | none => exact .inl rfl
  | some v => exact .inr ⟨by simp, hp b (refArgs_has h b (by have := conM_names hv; rwa [names_bump] at this))⟩

theorem hasR_of {f : Nat} {vs : List Val} {k : RCon} (h : find cx.rcon (rkey f vs) = some k) : hasR cx f = true := by
  unfold hasR
  split
  · rfl
  · rename_i hn
    unfold rkey at h
    split at h
    · rw [h]
    · rw [hn] at h; cases h
/-- What one operation may change. -/
theorem chg_opStep {o : Oper} {ge : Option Nat} (hge : calleeOf o σ = ge) (h3 : cls cx ge o ≠ 3) (hn : cls cx ge o ≠ 0 → ∀ k, o.dst = some k → p (nb + k)) (hp : cls cx ge o ≠ 0 → cls cx ge o ≠ 1 → ∀ b, σ.mem b ≠ none → p b) : ChgT p σ (opStep cx nb bf noInl o σ) := by
  unfold opStep
  split
  case h_1 x ho => exact chg_stepAssign (hn (by simp [cls, ho]))
  case h_2 x ho => exact chg_stepAssign (hn (by simp [cls, ho]))
  case h_3 => exact chg_stepPick
  case h_4 e ho =>
    split
    · rename_i k t hk hT
      have h0 : cls cx ge o ≠ 0 := by
        cases t <;> simp [cls, ho, hT]
      unfold stepAlloc
      split
      · exact absurd (by simp [cls, ho, hT]) h3
      · exact ChgT.newBox (hn h0 _ (by assumption))
    · rename_i hT
      split
      · rename_i hO
        exact absurd (by simp [cls, ho, hT, hO]) h3
      · rename_i hO
        exact ChgT.bif (ChgT.newBox (hn (by simp [cls, ho, hT, hO]) _ (by assumption)))
    · exact ChgT.fail
  case h_5 e x ho =>
    unfold stepBox
    split
    · exact ChgT.fail
    · exact ChgT.fail
    · split
      · rename_i hO
        exact absurd (by simp [cls, ho, hO]) h3
      · rename_i hO
        exact ChgT.newBox (hn (by simp [cls, ho, hO]) _ (by assumption))
    · exact ChgT.fail
  case h_6 t ps ho =>
    have hp' := hp (by simp [cls, ho]) (by simp [cls, ho])
    split
    · split
      · rename_i d0 k0 hz
        unfold stepZero
        split
        · exact ChgT.bif (ChgT.newBox (hn (by simp [cls, ho]) d0 (zeroAt_some hz).1))
        · exact ChgT.fail
      split
      · rename_i hb; exact ChgT.ret ((dom_buildParts hb hp').1.trans (Chg.putO _ _ _))
      · exact ChgT.fail
    · split
      · rename_i hb; exact ChgT.ret ((dom_buildList hb hp').1.trans (Chg.putO _ _ _))
      · exact ChgT.fail
    · (repeat' (first | exact ChgT.fail | exact ChgT.ret (Chg.putO _ _ _) | exact ChgT.ret (Chg.put _ _ _) | exact ChgT.newBox (by assumption) | refine ChgT.bif ?_ | refine ChgT.need ?_ | refine ChgT.look fun _ => ?_ | refine ChgT.node ?_ ?_ | refine ChgT.bind fun _ _ => ?_ | split))
    · exact ChgT.fail
  case h_7 t n ps ho =>
    have hp' := hp (by simp [cls, ho]) (by simp [cls, ho])
    split
    · split
      · rename_i k hbuf hparts
        exact ChgT.newBox (hn (by simp [cls, ho]) k (isBuf_some hbuf).1)
      · refine ChgT.bif ?_
        split
        · rename_i hb
          split
          · rename_i k hk
            exact fun y hy => (dom_buildList hb hp').1.trans (ChgT.newBox (hn (by simp [cls, ho]) k (ownRow_some hk)) _ hy)
          · exact ChgT.ret ((dom_buildList hb hp').1.trans (Chg.putO _ _ _))
        · exact ChgT.fail
    · unfold stepRow
      split
      · exact ChgT.bif (ChgT.newBox (hn (by simp [cls, ho]) _ (by assumption)))
      · exact ChgT.fail
    · exact ChgT.fail
  case h_8 => exact chg_stepLoad
  case h_9 t a x ho =>
    cases hq : isNilC x with
    | true => exact absurd (by simp [cls, ho, hq]) h3
    | false =>
    have hp' := hp (by simp [cls, ho, hq]) (by simp [cls, ho, hq])
    split
    · rw [Bool.and_false]
      exact fun y hy => (dom_stepStore hy hp').1
    · exact ChgT.fail
  case h_10 => (repeat' (first | exact ChgT.fail | exact ChgT.ret (Chg.putO _ _ _) | exact ChgT.ret (Chg.put _ _ _) | exact ChgT.newBox (by assumption) | refine ChgT.bif ?_ | refine ChgT.need ?_ | refine ChgT.look fun _ => ?_ | refine ChgT.node ?_ ?_ | refine ChgT.bind fun _ _ => ?_ | split))
  case h_11 => (repeat' (first | exact ChgT.fail | exact ChgT.ret (Chg.putO _ _ _) | exact ChgT.ret (Chg.put _ _ _) | exact ChgT.newBox (by assumption) | refine ChgT.bif ?_ | refine ChgT.need ?_ | refine ChgT.look fun _ => ?_ | refine ChgT.node ?_ ?_ | refine ChgT.bind fun _ _ => ?_ | split))
  case h_12 => (repeat' (first | exact ChgT.fail | exact ChgT.ret (Chg.putO _ _ _) | exact ChgT.ret (Chg.put _ _ _) | exact ChgT.newBox (by assumption) | refine ChgT.bif ?_ | refine ChgT.need ?_ | refine ChgT.look fun _ => ?_ | refine ChgT.node ?_ ?_ | refine ChgT.bind fun _ _ => ?_ | split))
  case h_13 s t x ho => exact chg_stepConvert (hn (by simp [cls, ho]))
  case h_14 => (repeat' (first | exact ChgT.fail | exact ChgT.ret (Chg.putO _ _ _) | exact ChgT.ret (Chg.put _ _ _) | exact ChgT.newBox (by assumption) | refine ChgT.bif ?_ | refine ChgT.need ?_ | refine ChgT.look fun _ => ?_ | refine ChgT.node ?_ ?_ | refine ChgT.bind fun _ _ => ?_ | split))
  case h_15 => exact chg_stepSlice
  case h_16 => exact chg_stepFieldAddr
  case h_17 => (repeat' (first | exact ChgT.fail | exact ChgT.ret (Chg.putO _ _ _) | exact ChgT.ret (Chg.put _ _ _) | exact ChgT.newBox (by assumption) | refine ChgT.bif ?_ | refine ChgT.need ?_ | refine ChgT.look fun _ => ?_ | refine ChgT.node ?_ ?_ | refine ChgT.bind fun _ _ => ?_ | split))
  case h_18 => split
               · cases memN bf 5000000 with
                 | true => exact chg_stepRowAt
                 | false => exact chg_stepIndexAddr
               · exact ChgT.fail
  case h_19 => split
               · exact chg_stepIndex
               · exact ChgT.fail
  case h_20 t l c ho =>
    split
    · exact ChgT.need (ChgT.need (ChgT.newBox (hn (by simp [cls, ho]) _ (by assumption))))
    · exact ChgT.fail
  case h_21 => (repeat' (first | exact ChgT.fail | exact ChgT.ret (Chg.putO _ _ _) | exact ChgT.ret (Chg.put _ _ _) | exact ChgT.newBox (by assumption) | refine ChgT.bif ?_ | refine ChgT.need ?_ | refine ChgT.look fun _ => ?_ | refine ChgT.node ?_ ?_ | refine ChgT.bind fun _ _ => ?_ | split))
  case h_22 c ho =>
    unfold stepCall
    split
    · rename_i b hb
      split
      · (repeat' (first | exact ChgT.fail | exact ChgT.ret (Chg.putO _ _ _) | exact ChgT.ret (Chg.put _ _ _) | exact ChgT.newBox (by assumption) | refine ChgT.bif ?_ | refine ChgT.need ?_ | refine ChgT.look fun _ => ?_ | refine ChgT.node ?_ ?_ | refine ChgT.bind fun _ _ => ?_ | split))
      · have h1 : cls cx ge o ≠ 0 := by simp [cls, ho, hb]
        have h2 : cls cx ge o ≠ 1 := by simp [cls, ho, hb]
        split
        · exact fun y hy => chg_stepAppend (hn h1) (hp h1 h2) hy
        · exact fun y hy => chg_stepAppend (hn h1) (hp h1 h2) hy
        · exact ChgT.fail
      · exact absurd (by simp [cls, ho, hb]) h3
      · exact absurd (by simp [cls, ho, hb]) h3
      · (repeat' (first | exact ChgT.fail | exact ChgT.ret (Chg.putO _ _ _) | exact ChgT.ret (Chg.put _ _ _) | exact ChgT.newBox (by assumption) | refine ChgT.bif ?_ | refine ChgT.need ?_ | refine ChgT.look fun _ => ?_ | refine ChgT.node ?_ ?_ | refine ChgT.bind fun _ _ => ?_ | split))
      · (repeat' (first | exact ChgT.fail | exact ChgT.ret (Chg.putO _ _ _) | exact ChgT.ret (Chg.put _ _ _) | exact ChgT.newBox (by assumption) | refine ChgT.bif ?_ | refine ChgT.need ?_ | refine ChgT.look fun _ => ?_ | refine ChgT.node ?_ ?_ | refine ChgT.bind fun _ _ => ?_ | split))
      · exact ChgT.fail
    · rename_i f hf
      split
      · rename_i g caps hop
        refine ChgT.bif ?_
        have heq : ge = some (fnNo g) := by rw [← hge]; simp [calleeOf, ho, hf, hop]
        generalize fnNo g = g' at heq ⊢
        unfold callAny
        split
        · rename_i e he
          have key : cls cx ge o = 2 := by simp [cls, ho, hf, heq, ownSpc_some he]
          have h1 : cls cx ge o ≠ 0 := by rw [key]; simp
          have h2 : cls cx ge o ≠ 1 := by rw [key]; simp
          exact fun y hy => chg_stepClone (hn h1) (hp h1 h2) hy
        · rename_i e A r s he
          have key : cls cx ge o = 2 := by simp [cls, ho, hf, heq, ownSpc_some he]
          have h1 : cls cx ge o ≠ 0 := by rw [key]; simp
          have h2 : cls cx ge o ≠ 1 := by rw [key]; simp
          exact fun y hy => chg_stepOwn (hp h1 h2) hy
        · rename_i g' he
          have key : cls cx ge o = 2 := by simp [cls, ho, hf, heq, ownSpc_some he]
          have h1 : cls cx ge o ≠ 0 := by rw [key]; simp
          exact fun y hy => chg_stepMaker (hn h1) hy
        · rename_i T he
          have hcs := ownSpc_some he
          exact absurd (by simp [cls, ho, hf, heq, hcs]) h3
        rename_i hno1 hno2 hno3 hno4
        unfold callFn
        split
        · rename_i con hcon
          split
          · split
            · exact ChgT.look fun _ => ChgT.ret (Chg.putO _ _ _)
            · exact ChgT.fail
          · rename_i hfl
            have key : cls cx ge o = 2 := by
              unfold cls
              simp only [ho, hf, heq]
              split
              · rfl
              · rfl
              · rfl
              · rename_i T hT
                exact absurd (by simp [ownSpc, hT]) (hno4 T)
              · simp [hcon, hfl]
            have h1 : cls cx ge o ≠ 0 := by rw [key]; simp
            have h2 : cls cx ge o ≠ 1 := by rw [key]; simp
            split
            · rename_i hx
              exact ChgT.look fun _ => ChgT.ret ((dom_giveAll hx (hp h1 h2)).1.trans (Chg.putO _ _ _))
            · exact ChgT.fail
        · rename_i hcon
          split
          · rename_i s hspc
            unfold stepSpc
            split
            · exact absurd (by simp [cls, ho, hf, heq, hcon, hspc]) h3
            · exact absurd (by simp [cls, ho, hf, heq, hcon, hspc]) h3
            · split
              · exact ChgT.look fun _ => ChgT.ret (Chg.putO _ _ _)
              · exact ChgT.fail
            · exact ChgT.fail
          · rename_i hspc
            split
            · rename_i k hk
              have key : cls cx ge o = 2 := by simp [cls, ho, hf, heq, hcon, hspc, hasR_of hk]
              have h1 : cls cx ge o ≠ 0 := by rw [key]; simp
              have h2 : cls cx ge o ≠ 1 := by rw [key]; simp
              split
              · rename_i x u N M hx
                exact ChgT.bif (ChgT.look fun y => ChgT.ret ((chg_setRefs hx (hp h1 h2)).trans (Chg.putO _ _ _)))
              · exact fun y hy => by cases hy
            · exact fun y hy => by cases hy
      · exact ChgT.fail
    · rename_i r name hf
      have key : cls cx ge o = 2 := by simp [cls, ho, hf]
      have h1 : cls cx ge o ≠ 0 := by rw [key]; simp
      have h2 : cls cx ge o ≠ 1 := by rw [key]; simp
      unfold stepInvoke
      split
      · split
        · rename_i hx
          exact ChgT.look fun _ => ChgT.ret ((dom_giveAll hx (hp h1 h2)).1.trans (Chg.putO _ _ _))
        · exact ChgT.fail
      · exact ChgT.fail
  case h_23 u x ho =>
    have key : cls cx ge o = 2 := by simp [cls, ho]
    have h1 : cls cx ge o ≠ 0 := by rw [key]; simp
    have h2 : cls cx ge o ≠ 1 := by rw [key]; simp
    unfold stepIface
    split
    · split
      · split
        · rename_i hx
          exact ChgT.ret ((dom_give hx (hp h1 h2)).1.trans (Chg.putO _ _ _))
        · exact ChgT.fail
      · exact ChgT.fail
    · exact ChgT.fail
  case h_24 => exact ChgT.fail
end
end Go.Ge
