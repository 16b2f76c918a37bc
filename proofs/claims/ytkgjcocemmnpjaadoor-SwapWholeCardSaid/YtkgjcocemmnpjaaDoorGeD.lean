/- A ghost interpreter of the model's code, and that it tells the truth: part 4. It says of a function of plain data what a call of it comes to. -/
import Derived.Test.YtkgjcocemmnpjaaDoorGeC
import Derived.Great.BuildSlice
import Derived.Laws.IdiomStrings
import Derived.Laws.BytesArg
import Derived.Laws.MakeOwn
import Derived.Deep.AppendSrc
namespace Go.Ge
set_option linter.unusedVariables false
set_option linter.unusedSimpArgs false
open RowKit

section
variable {P : Program} {B : Own} {N : Nat} {γ : Gh} {σ σ' : St} {a : Act} {w : World} {d : Option Nat} {cx : Ctx}

/-! ### Stores -/

theorem row_of_fld {bx : Box} {k : Nat} {c v : Val} {f : Val → Tree Val} (hb : bx.buf = false) (hv : bx.val = v) (h : (setFld v k f).run = some c) : ({ bx with val := c } : Box).row = bx.row := by
  obtain ⟨val, tid, buf, ro, lk, ver⟩ := bx
  subst hb; subst hv
  cases val with
  | data t x =>
    obtain ⟨y, h1, h2⟩ := bind_some (show ((setFldD t x k f).bind fun y => .ret (.data t y)).run = some c from h)
    obtain rfl := Option.some.inj h2
    cases t with
    | arr n e => cases k <;> exact absurd h1 (by intro k; cases k)
    | _ => rfl
  | mix p q =>
    cases k with
    | zero =>
      obtain ⟨y, h1, h2⟩ := bind_some (show ((f p).bind fun v => .ret (.mix v q)).run = some c from h)
      obtain rfl := Option.some.inj h2
      rfl
    | succ k =>
      obtain ⟨y, h1, h2⟩ := bind_some (show ((setFld q k f).bind fun v => .ret (.mix p v)).run = some c from h)
      obtain rfl := Option.some.inj h2
      rfl
  | _ => exact absurd h (by intro k; cases k)

theorem row_set {bx : Box} {e : Ty} {l : List e.den} {i : Int} {y : e.den} (hb : bx.buf = true) (hv : bx.val = .data (.slice e) l) : ({ bx with val := .data (.slice e) (lset l i y) } : Box).row = bx.row := by
  rw [Box.row_buf hb hv, Box.row_buf (bx := { bx with val := .data (.slice e) (lset l i y) }) (l := lset l i y) hb rfl]
  simp [lset]

/-- What is laid in a box (repeat' (first | exact KeepT.fail | exact KeepT.ret (Keep.putO _ _ _) | exact KeepT.ret (Keep.put _ _ _) | exact KeepT.newBox | refine KeepT.bif ?_ | refine KeepT.need ?_ | refine KeepT.look fun _ => ?_ | refine KeepT.node ?_ ?_ | refine KeepT.bind fun _ _ => ?_ | split)) its row. -/
theorem navSetB_row {bx : Box} {p : List Sel} {v c : Val} (h : (navSetB bx.buf p bx.val v).run = some c) (h0 : p = [] → bx.buf = false → ({ bx with val := v } : Box).row = bx.row) :
    ({ bx with val := c } : Box).row = bx.row := by
  unfold navSetB at h
  split at h
  · rename_i hbuf
    cases p with
    | nil => obtain rfl := Option.some.inj h; exact h0 rfl hbuf
    | cons s p =>
      cases s with
      | fld k off => exact row_of_fld hbuf rfl h
      | idx i size =>
        simp only [navSet] at h
        split at h
        · rename_i n e l hv
          obtain ⟨x, hx, h2⟩ := look_some h
          obtain ⟨z, hz, h3⟩ := bind_some h2
          split at h3
          · obtain rfl := Option.some.inj h3
            rw [Box.row_arr hbuf hv]
            exact Box.row_arr (bx := { bx with val := _ }) hbuf rfl
          · exact absurd h3 (by intro k; cases k)
        · exact absurd h (by intro k; cases k)
  · rename_i hbuf
    split at h
    · rename_i i size p e l hv
      obtain ⟨x, hx, h2⟩ := look_some h
      obtain ⟨z, hz, h3⟩ := bind_some h2
      split at h3
      · obtain rfl := Option.some.inj h3
        exact row_set hbuf hv
      · exact absurd h3 (by intro k; cases k)
    · exact absurd h (by intro k; cases k)

theorem storeAt_sound (h : Sim B N γ σ a w) {b ver : Nat} {p : List Sel} {fit : Val → Bool} {u : Val} {es : List Value} (hr : (storeAt b ver p fit u σ).run = some σ') (hu : Rep γ σ.mem w u .cells es)
    (hlen : ∀ old, fit old = true → es.length = valSize old) (hrow : ∀ bx : Box, fit bx.val = true → bx.buf = false → ({ bx with val := u } : Box).row = bx.row)
    {blk cap : Nat} (hl : γ.loc b = some (blk, cap)) :
    ∃ w', (storeCells ⟨blk, offP p, none⟩ es).run P w = .ok () w' ∧ Sim B N γ σ' a w' ∧ Ext B γ σ.mem w γ σ'.mem w' := by
  unfold storeAt at hr
  split at hr
  case h_2 => exact absurd hr (by intro k; cases k)
  rename_i bx hb
  obtain ⟨hc, hr2⟩ := bif_some hr
  simp only [Bool.and_eq_true, Bool.not_eq_true'] at hc
  obtain ⟨⟨hver, hlk⟩, hro⟩ := hc
  obtain ⟨old, hn, hr3⟩ := bind_some hr2
  obtain ⟨hfit, hr4⟩ := bif_some hr3
  obtain ⟨c, hs, hr5⟩ := bind_some hr4
  obtain rfl := Option.some.inj hr5
  have hel := hlen old hfit
  have hrw : ({ bx with val := c } : Box).row = bx.row := navSetB_row hs fun hp hbuf => by
    subst hp
    rw [hbuf] at hn
    obtain rfl := Option.some.inj hn
    exact hrow bx hfit hbuf
  have hat := h.ok.boxes b bx hb
  unfold BoxAt at hat
  unfold navB at hn
  unfold navSetB at hs
  have hbb : bx.buf = false ∨ bx.buf = true := by cases bx.buf <;> simp
  rcases hbb with hbuf | hbuf
  · rw [hbuf] at hat hn hs
    obtain ⟨blk', cap', cur, tid, fr, h1, h2, h3, htid, h4⟩ := hat
    rw [hl] at h1
    obtain ⟨rfl, rfl⟩ := Prod.mk.inj (Option.some.inj h1)
    obtain ⟨k1, k2⟩ := nav_rep h4 hn
    have k1' : offP p + es.length ≤ cur.toList.length := by rw [hel]; exact k1
    have hst := run_storeCells_thawed (P := P) blk (offP p) tid fr es 0 cur w h2 h3 (by simpa using k1') (fun v hv => hu.one v hv)
    rw [Nat.add_zero] at hst
    have hsz : (splice cur.toList (offP p) es).toArray.size = cur.size := by have := length_splice k1'; simpa using this
    obtain ⟨m1, m2⟩ := h.ok.write hb hro hl h2 (cur' := (splice cur.toList (offP p) es).toArray) (v := c) hsz hrw
      (fun w' mem' hx hg => by
        show BoxAt γ mem' w' b { bx with val := c }
        unfold BoxAt
        simp only [hbuf]
        exact ⟨blk, cap, _, tid, fr, hl, hg, h3.same hsz, htid, by simpa using navSet_rep (h4.ext hx) hn hs (hu.ext hx) hel⟩)
    exact ⟨_, hst, h.go m2 m1, m2⟩
  · rw [hbuf] at hat hn hs
    rcases hat with ⟨l, h1, _⟩ | ⟨e, l, h1, h2, h3⟩
    · rw [h1] at hn
      cases p with
      | nil => cases hn
      | cons s p => cases s <;> cases hn
    rw [h1] at hn hs
    rcases h3 with ⟨h3, _⟩ | ⟨blk', cap', cur, tid, fr, h3, h4, h5, htid, h6, h7, h8, h9⟩
    · rw [hl] at h3; cases h3
    · rw [hl] at h3
      obtain ⟨rfl, rfl⟩ := Prod.mk.inj (Option.some.inj h3)
      cases p with
      | nil => cases hn
      | cons s p =>
        cases s with
        | fld k off => cases hn
        | idx i size =>
          obtain ⟨hsb, hn2⟩ := bif_some hn
          have hsz := Nat.eq_of_beq_eq_true hsb
          obtain ⟨x, hx, hn3⟩ := look_some hn2
          obtain ⟨x', hx', hs2⟩ := look_some hs
          obtain rfl : x = x' := Option.some.inj (hx.symm.trans hx')
          obtain ⟨z, hq, hs3⟩ := bind_some hs2
          cases hz : toS e z with
          | none => rw [hz] at hs3; cases hs3
          | some y =>
            rw [hz] at hs3
            obtain rfl := Option.some.inj hs3
            obtain ⟨h0, hx2⟩ := idx_some hx
            have hr := h9 _ x hx2
            have hrl := hr.length
            have hi : i.toNat < l.length := (List.getElem?_eq_some_iff.1 hx2).1
            have hm2 : (i.toNat + 1) * e.size ≤ cap * e.size := Nat.mul_le_mul_right _ (by omega)
            rw [Nat.succ_mul] at hm2
            have hrr : Rep γ σ.mem w (.data e x) .cells ((cur.toList.drop (i.toNat * e.size)).take e.size) := hr
            obtain ⟨k1, k2⟩ := nav_rep hrr hn3
            rw [hrl] at k1
            have hcs : cur.toList.length = cap * e.size := by simpa using h8
            have hoff : offP (.idx i size :: p) = i.toNat * e.size + offP p := by simp only [offP, hsz]
            have k1' : offP (.idx i size :: p) + es.length ≤ cur.toList.length := by rw [hoff, hel, hcs]; omega
            have hst := run_storeCells_thawed (P := P) blk (offP (.idx i size :: p)) tid fr es 0 cur w h4 h5.th (by simpa using k1') (fun v hv => hu.one v hv)
            rw [Nat.add_zero] at hst
            have hsz2 : (splice cur.toList (offP (.idx i size :: p)) es).toArray.size = cur.size := by have := length_splice k1'; simpa using this
            have e1 := splice_splice cur.toList (i.toNat * e.size) (offP p) e.size es (by rw [hel]; exact k1) (by rw [hcs]; omega)
            obtain ⟨m1, m2⟩ := h.ok.write hb hro hl h4 (cur' := (splice cur.toList (offP (.idx i size :: p)) es).toArray) (v := .data (.slice e) (lset (α := e.den) l i y)) hsz2 hrw
              (fun w' mem' hx hg => by
                show BoxAt γ mem' w' b { bx with val := .data (.slice e) (lset (α := e.den) l i y) }
                unfold BoxAt
                simp only [hbuf]
                refine .inr ⟨e, _, rfl, h2, .inr ⟨blk, cap, _, tid, fr, hl, hg, h5.same hsz2, htid, ?_, h7, by rw [hsz2]; exact h8, ?_⟩⟩
                · exact Nat.le_trans (Nat.le_of_eq List.length_set) h6
                · have hzz := toS_rep hz (navSet_rep (hrr.ext hx) hn3 hq (hu.ext hx) hel)
                  have := lset_rep (w := w') (I := γ.I) (l := l) (n := l.length) (cs := cur.toList) rfl (by rw [hcs]; exact Nat.mul_le_mul_right _ h6)
                    (fun j x hj => RepC.mono hx.I hx.cells (h9 j x hj)) hi hzz
                  rw [e1, ← hoff] at this
                  exact this)
            exact ⟨_, hst, h.go m2 m1, m2⟩

theorem openD_rep {mem : Nat → Option Box} : ∀ {t : Ty} {x : t.den} {cs : List Value}, RepC w γ.I t x cs → Rep γ mem w (openD t x) .cells cs := by
  intro t
  induction t with
  | pair a b iha ihb => intro x cs h; obtain ⟨c1, c2, e, h1, h2⟩ := h; exact ⟨c1, c2, e, h1, ihb h2⟩
  | _ => intro x cs h; exact h

theorem openV_rep {mem : Nat → Option Box} {v : Val} {cs : List Value} (h : Rep γ mem w v .cells cs) : Rep γ mem w (openV v) .cells cs := by
  cases v with
  | data t x => exact openD_rep h
  | _ => exact h

theorem row_pair {bx : Box} (hb : bx.buf = false) (hv : pairV bx.val = true) : bx.row = none := by
  unfold Box.row
  rw [hb]
  obtain ⟨val, tid, buf, ro, lk, ver⟩ := bx
  cases val with
  | data t x => cases t <;> first | rfl | cases hv
  | mix p q => rfl
  | _ => cases hv

theorem storeOp_sound (h : Sim B N γ σ a w) {b ver : Nat} {p : List Sel} {n : Nat} {u : Val} {es : List Value} (hr : (storeOp b ver p n u σ).run = some σ') (hu : Rep γ σ.mem w u .cells es)
    (hlen : es.length = n) {blk cap : Nat} (hl : γ.loc b = some (blk, cap)) :
    ∃ w', (storeCells ⟨blk, offP p, none⟩ es).run P w = .ok () w' ∧ Sim B N γ σ' a w' ∧ Ext B γ σ.mem w γ σ'.mem w' := by
  unfold storeOp at hr
  split at hr
  case h_2 => exact absurd hr (by intro k; cases k)
  rename_i bx hb
  obtain ⟨hc, hr2⟩ := bif_some hr
  simp only [Bool.and_eq_true, Bool.not_eq_true'] at hc
  obtain ⟨⟨⟨⟨hver, hlk⟩, hro⟩, hbuf⟩, hpv⟩ := hc
  obtain ⟨old, hn, hr3⟩ := bind_some hr2
  obtain ⟨hfit, hr4⟩ := bif_some hr3
  obtain ⟨c, hs, hr5⟩ := bind_some hr4
  obtain ⟨hpc, hr6⟩ := bif_some hr5
  obtain rfl := Option.some.inj hr6
  have hel : es.length = valSize old := hlen.trans (Nat.eq_of_beq_eq_true hfit).symm
  have hrw : ({ bx with val := c } : Box).row = bx.row := (row_pair (bx := { bx with val := c }) hbuf hpc).trans (row_pair hbuf hpv).symm
  have hat := h.ok.boxes b bx hb
  unfold BoxAt at hat
  rw [hbuf] at hat
  obtain ⟨blk', cap', cur, tid, fr, h1, h2, h3, htid, h4⟩ := hat
  rw [hl] at h1
  obtain ⟨rfl, rfl⟩ := Prod.mk.inj (Option.some.inj h1)
  obtain ⟨k1, k2⟩ := nav_rep (openV_rep h4) hn
  have k1' : offP p + es.length ≤ cur.toList.length := by rw [hel]; exact k1
  have hst := run_storeCells_thawed (P := P) blk (offP p) tid fr es 0 cur w h2 h3 (by simpa using k1') (fun v hv => hu.one v hv)
  rw [Nat.add_zero] at hst
  have hsz : (splice cur.toList (offP p) es).toArray.size = cur.size := by have := length_splice k1'; simpa using this
  obtain ⟨m1, m2⟩ := h.ok.write hb hro hl h2 (cur' := (splice cur.toList (offP p) es).toArray) (v := c) hsz hrw
    (fun w' mem' hx hg => by
      show BoxAt γ mem' w' b { bx with val := c }
      unfold BoxAt
      simp only [hbuf]
      exact ⟨blk, cap, _, tid, fr, hl, hg, h3.same hsz, htid, by simpa using navSet_rep (openV_rep (h4.ext hx)) hn hs (hu.ext hx) hel⟩)
  exact ⟨_, hst, h.go m2 m1, m2⟩

/-- A store's own semantics. -/
theorem run_storeAt {ty : TypeId} {blk off n : Nat} {v : Value} {w' : World} (hs : (Go.sizeOf ty).run P w = .ok n w) (hn : v.cells.toList.length = n) (hst : (storeCells ⟨blk, off, none⟩ v.cells.toList).run P w = .ok () w') :
    (Instr.storeAt ty (.pointer (some ⟨blk, off, none⟩)) v).run P w = .ok () w' := by
  have hn' : v.cells.size = n := by simpa using hn
  simp only [Instr.storeAt, Instr.sureAddr, storeVar, Sem.run_bind, Sem.run_pure, Result.andThen_ok, hs, hn', ne_eq, not_true_eq_false, if_false]
  exact hst

theorem stepStore_sound (hc : CxOk P cx) {bf : List Nat} {ty : TypeId} {x y : Operand} (h : Sim B N γ σ a w) (hr : (stepStore cx bf ty (opv σ x) (opv σ y) σ).run = some σ') :
    ∃ w' γ', (Instr.storeAt ty (a.eval x) (a.eval y)).run P w = .ok () w' ∧ Sim B N γ' σ' a w' ∧ Ext B γ σ.mem w γ' σ'.mem w' := by
  have hv := h.opv x
  have hy := h.opv y
  unfold stepStore at hr
  split at hr
  case h_2 => exact absurd hr (by intro k; cases k)
  rename_i b ver p hx
  rw [hx] at hv
  split at hr
  case h_2 => exact absurd hr (by intro k; cases k)
  rename_i bx hb
  obtain ⟨hver, hr2⟩ := bif_some hr
  have hver := Nat.eq_of_beq_eq_true hver
  obtain ⟨old, hn, hr3⟩ := bind_some hr2
  obtain ⟨blk, cap, hl, hval⟩ := ofBox_live hb hver hv.2
  obtain hval : a.eval x = _ := by simpa using hval
  rw [hval]
  split at hr3
  · rename_i u z
    obtain ⟨hT, hr4⟩ := bif_some hr3
    have hT := isTy_some hT
    have hD := hc.T _ _ hT
    cases hq : memN bf 8000000 && ownV u (opv σ y) with
    | true =>
      rw [hq] at hr4
      have how := (Bool.and_eq_true_iff.1 hq).2
      have hyc : Rep γ σ.mem w (opv σ y) .cells (a.eval y).cells.toList := by
        refine hy.cells_of_val (fun u' e => ?_) (fun e => ?_)
        · rw [e] at how; cases how
        · rw [e] at how; cases how
      have hsz : valSize (opv σ y) = u.size := by
        unfold ownV at how
        split at how
        · rename_i e; rw [e]; exact mix1_size how
        · rename_i e; rw [e]; exact mixTy_size how
        · cases how
      have hlen1 : (a.eval y).cells.toList.length = u.size := by rw [hyc.length, hsz]
      obtain ⟨w', k1, k2, k3⟩ := storeOp_sound (P := P) h hr4 hyc hlen1 hl
      exact ⟨w', γ, run_storeAt (hD.sizeOf w) hlen1 k1, k2, k3⟩
    | false =>
    rw [hq] at hr4
    replace hr4 : (match give σ u (opv σ y) with | some (y, σ) => storeAt b ver p (fitD u) (.data u y) σ | none => .fail).run = some σ' := hr4
    split at hr4
    · rename_i y0 σ1 hg
      obtain ⟨γ1, s1, s2, s3⟩ := give_sound h hy hg
      obtain ⟨cs, c1, c2⟩ := s3
      obtain hcv : a.eval y = _ := by simpa using c2
      have hcc : (a.eval y).cells.toList = cs := by rw [hcv]; exact ofCells_cells c1
      obtain ⟨bx', g1, g2, g3⟩ := s2.boxes b bx hb
      have hl1 : γ1.loc b = some (blk, cap) := by
        have hv' : bx'.ver = bx.ver := by
          unfold storeAt at hr4
          split at hr4
          · rename_i bx2 hb2
            rw [g1] at hb2
            obtain rfl := Option.some.inj hb2
            obtain ⟨hc, _⟩ := bif_some hr4
            simp only [Bool.and_eq_true] at hc
            have := Nat.eq_of_beq_eq_true hc.1.1
            omega
          · exact absurd hr4 (by intro k; cases k)
        rw [(g3 hv').1]; exact hl
      obtain ⟨w', k1, k2, k3⟩ := storeAt_sound (P := P) s1 hr4 (u := .data u y0) (es := cs) c1 (fun old hf => by
          unfold fitD at hf
          split at hf
          · rename_i t q
            obtain rfl := Ty.eq_of_beq hf
            exact c1.length
          · cases hf) (fun bx hf hbuf => by
          unfold fitD at hf
          split at hf
          · rename_i t q hbv
            obtain rfl := Ty.eq_of_beq hf
            cases t with
            | arr n e => rw [Box.row_arr hbuf hbv]; exact Box.row_arr (bx := { bx with val := _ }) hbuf rfl
            | _ => unfold Box.row; rw [hbuf, hbv]
          · cases hf) hl1
      refine ⟨w', γ1, run_storeAt (hD.sizeOf w) ?_ ?_, k2, s2.trans k3⟩
      · rw [hcc]; exact c1.length
      · rw [hcc]; exact k1
    · exact absurd hr4 (by intro k; cases k)
  · obtain ⟨hT, hr4⟩ := bif_some hr3
    simp only [Bool.and_eq_true] at hT
    obtain ⟨hrt, hrf⟩ := hT
    have key : ∀ {v : Val}, readTy cx ty v = true → isRef v = true → valSize v = 1 ∧ (Go.sizeOf ty).run P w = .ok 1 w := by
      intro v h1 h2
      unfold readTy at h1
      split at h1
      · cases h2
      · split at h1
        · rename_i e hT; exact ⟨rfl, (hc.T _ _ hT).sizeOf w⟩
        · cases h1
      · exact ⟨rfl, (hc.ones _ h1).2.1 w⟩
      · exact ⟨rfl, (hc.ones _ h1).2.1 w⟩
      · exact ⟨rfl, (hc.ones _ h1).2.1 w⟩
      · cases h1
    obtain ⟨h1, hsz⟩ := key hrt hrf
    have hyc : Rep γ σ.mem w (opv σ y) .cells (a.eval y).cells.toList := by
      refine hy.cells_of_val (fun u e => ?_) (fun e => ?_)
      · rw [e] at hrf; cases hrf
      · rw [e] at hrf; cases hrf
    have hlen1 : (a.eval y).cells.toList.length = 1 := by rw [hyc.length, h1]
    obtain ⟨w', k1, k2, k3⟩ := storeAt_sound (P := P) h hr4 hyc (fun old hf => by
        simp only [Bool.or_eq_true, Bool.and_eq_true] at hf
        rcases hf with hf | hf
        · rw [hlen1, (key hf.1 hf.2).1]
        · rw [hlen1]
          cases old <;> first | rfl | cases hf) (fun bx hf hbuf => by
        simp only [Bool.or_eq_true, Bool.and_eq_true] at hf
        have e1 : ∀ {v : Val} {bx : Box}, (isRef v = true ∨ isUndef v = true) → bx.buf = false → bx.val = v → bx.row = none := by
          intro v bx h1 h2 h3
          unfold Box.row
          rw [h2, h3]
          cases v <;> first | rfl | (rcases h1 with h1 | h1 <;> cases h1)
        rw [e1 (hf.elim (fun q => .inl q.2) .inr) hbuf rfl]; exact e1 (bx := { bx with val := opv σ y }) (.inl hrf) hbuf rfl) hl
    exact ⟨w', γ, run_storeAt hsz hlen1 k1, k2, k3⟩

/-! ### New variables -/

theorem run_newVar (t : TypeId) (v : Value) : (newVar t v).run P w = .ok ⟨w.heap.size, 0, none⟩ (w.alloc (.cells v.cells t)) := by
  simp [newVar, newRow]

theorem ptr_new {mem : Nat → Option Box} {w' : World} {b : Nat} {bx : Box} {cap : Nat} : Rep (addBox γ b (some (w.heap.size, cap))) (setMem mem b bx) w' (.ptr b bx.ver []) .val [.pointer (some ⟨w.heap.size, 0, none⟩)] :=
  ⟨⟨_, rfl, rfl⟩, ofBox_new (setMem_same _ _) rfl ⟨w.heap.size, cap, by simp [addBox], rfl⟩⟩

theorem alloc_sound (hc : CxOk P cx) {elem : TypeId} {nb k : Nat} {t : Ty} (h : Sim B N γ σ a w) (hd : k < N) (hT : find cx.T elem = some t)
    (hr : (σ.newBox (nb + k) (.data t t.zero) 0 false fun ver σ => .ret (σ.put k (.ptr (nb + k) ver []))).run = some σ') :
    Goes P B N γ σ a w (some k) (Instr.alloc elem true (.tuple #[])) σ' := by
  obtain ⟨ver, hver, hr2⟩ := ver_newBox hr
  obtain rfl := Option.some.inj hr2
  obtain ⟨z, hz, hzc⟩ := (hc.T _ _ hT).zero w
  obtain ⟨m1, m2⟩ := h.ok.newVar (b := nb + k) (v := .data t t.zero) (tid := 0) hver (cs := z.cells) elem (.inl rfl) (by rw [hzc]; exact repC_zero w γ.I t)
  refine ⟨.pointer (some ⟨w.heap.size, 0, none⟩), _, _, ?_, h.step m2 m1 hd ptr_new, m2⟩
  simp only [Instr.alloc, Sem.run_bind, hz, Result.andThen_ok, run_newVar, Sem.run_pure]

theorem alloc_one_sound (hc : CxOk P cx) {elem : TypeId} {nb k : Nat} (h : Sim B N γ σ a w) (hd : k < N) (hT : memN cx.ones elem = true)
    (hr : (σ.newBox (nb + k) .undef 0 false fun ver σ => .ret (σ.put k (.ptr (nb + k) ver []))).run = some σ') :
    Goes P B N γ σ a w (some k) (Instr.alloc elem true (.tuple #[])) σ' := by
  obtain ⟨ver, hver, hr2⟩ := ver_newBox hr
  obtain rfl := Option.some.inj hr2
  obtain ⟨z, hz, hone⟩ := (hc.ones _ hT).2.2
  have hz := hz w
  obtain ⟨m1, m2⟩ := h.ok.newVar (b := nb + k) (v := .undef) (tid := 0) hver (cs := z.cells) elem (.inl rfl) ⟨z, by cases z <;> first | rfl | (simp [Value.oneCell'] at hone), hone⟩
  refine ⟨.pointer (some ⟨w.heap.size, 0, none⟩), _, _, ?_, h.step m2 m1 hd ptr_new, m2⟩
  simp only [Instr.alloc, Sem.run_bind, hz, Result.andThen_ok, run_newVar, Sem.run_pure]

/-! ### New objects -/

theorem mkObj_sound {b ver : Nat} : ∀ {fs : List OFld} {j : Nat} {σ : St} {γ : Gh} {r : Val × St}, MemOk B γ σ.mem w → (mkObj b ver fs j σ).run = some r →
    ∃ γ1, MemOk B γ1 r.2.mem w ∧ Ext B γ σ.mem w γ1 r.2.mem w ∧ r.2.slots = σ.slots ∧
      ∀ γ' mem' w', Ext B γ1 r.2.mem w γ' mem' w' → (∃ bx blk cap, mem' b = some bx ∧ ver ≤ bx.ver ∧ γ'.loc b = some (blk, cap)) → Rep γ' mem' w' r.1 .cells (ocells fs) := by
  intro fs
  induction fs with
  | nil => intro j σ γ r h hr; obtain rfl := Option.some.inj hr; exact ⟨γ, h, Ext.refl _ _ _ _, rfl, fun _ _ _ _ _ => rfl⟩
  | cons f r ih =>
    intro j σ γ q h hr
    cases f with
    | dat t =>
      obtain ⟨y, h1, h2⟩ := bind_some hr
      obtain rfl := Option.some.inj h2
      obtain ⟨γ1, k1, k2, k3, k4⟩ := ih h h1
      exact ⟨γ1, k1, k2, k3, fun γ' mem' w' hx hb => ⟨_, _, rfl, repC_zero _ _ t, k4 γ' mem' w' hx hb⟩⟩
    | one =>
      obtain ⟨y, h1, h2⟩ := bind_some hr
      obtain rfl := Option.some.inj h2
      obtain ⟨γ1, k1, k2, k3, k4⟩ := ih h h1
      exact ⟨γ1, k1, k2, k3, fun γ' mem' w' hx hb => ⟨[.pointer none], _, rfl, rfl, k4 γ' mem' w' hx hb⟩⟩
    | self =>
      obtain ⟨y, h1, h2⟩ := bind_some hr
      obtain rfl := Option.some.inj h2
      obtain ⟨γ1, k1, k2, k3, k4⟩ := ih h h1
      refine ⟨γ1, k1, k2, k3, fun γ' mem' w' hx hb => ⟨[.pointer none], _, rfl, ?_, k4 γ' mem' w' hx hb⟩⟩
      obtain ⟨bx, blk, cap, g1, g2, g3⟩ := hb
      exact ⟨⟨_, rfl, rfl⟩, bx, g1, g2, fun _ => ⟨blk, cap, g3, .inl rfl⟩⟩
    | buf e eid =>
      obtain ⟨he, hr1⟩ := bif_some hr
      have he' : 0 < e.size := by simpa using he
      obtain ⟨v, hver, hr2⟩ := ver_newBox hr1
      obtain ⟨y, h1, h2⟩ := bind_some hr2
      obtain rfl := Option.some.inj h2
      obtain ⟨m1, m2⟩ := h.newNil (b := b * 1000 + 999 - j) (e := e) (tid := eid) hver he'
      obtain ⟨γ1, k1, k2, k3, k4⟩ := ih m1 h1
      refine ⟨γ1, k1, m2.trans k2, k3, fun γ' mem' w' hx hb => ⟨[.slice none 0 0], _, rfl, ?_, k4 γ' mem' w' hx hb⟩⟩
      refine Rep.ext (k2.trans hx) (v := .whole (b * 1000 + 999 - j) v) (m := .cells) ?_
      exact ⟨⟨_, rfl, rfl⟩, ofBox_new (setMem_same _ _) rfl ⟨e, 0, rfl, rfl, .inl ⟨by simp [addBox], rfl⟩⟩⟩
    | map =>
      obtain ⟨v, hver, hr2⟩ := ver_newBox hr
      obtain ⟨y, h1, h2⟩ := bind_some hr2
      obtain rfl := Option.some.inj h2
      obtain ⟨m1, m2⟩ := h.newMap (b := b * 1000 + 999 - j) hver
      obtain ⟨γ1, k1, k2, k3, k4⟩ := ih m1 h1
      refine ⟨γ1, k1, m2.trans k2, k3, fun γ' mem' w' hx hb => ⟨[.map none], _, rfl, ?_, k4 γ' mem' w' hx hb⟩⟩
      refine Rep.ext (k2.trans hx) (v := .mref (b * 1000 + 999 - j) v) (m := .cells) ?_
      exact ⟨⟨_, rfl, rfl⟩, ofBox_new (setMem_same _ _) rfl ⟨rfl, .inl ⟨by simp [addBox], rfl⟩⟩⟩

theorem alloc_obj_sound (hc : CxOk P cx) {elem : TypeId} {nb k : Nat} {fs : List OFld} (h : Sim B N γ σ a w) (hd : k < N) (hT : find cx.objs elem = some fs)
    (hr : ((mkObj (nb + k) (nextVer σ (nb + k)) fs 0 σ).bind fun r => r.2.newBox (nb + k) r.1 elem false fun ver σ => .ret (σ.put k (.ptr (nb + k) ver []))).run = some σ') :
    Goes P B N γ σ a w (some k) (Instr.alloc elem true (.tuple #[])) σ' := by
  obtain ⟨r, h1, h2⟩ := bind_some hr
  obtain ⟨γ1, k1, k2, k3, k4⟩ := mkObj_sound h.ok h1
  obtain ⟨ver, hver, hr2⟩ := ver_newBox h2
  obtain rfl := Option.some.inj hr2
  obtain ⟨z, hz, hzc⟩ := objB_zero (hc.objs _ _ hT) w
  have hle : nextVer σ (nb + k) ≤ ver := by
    unfold nextVer
    split
    · rename_i bx hbx
      obtain ⟨bx', e1, e2, _⟩ := k2.boxes _ bx hbx
      have := hver bx' e1
      omega
    · exact Nat.zero_le _
  let bx : Box := { val := r.1, tid := elem, buf := false, ro := false, lk := false, ver }
  have hw : Blw B w (w.alloc (.cells z.cells elem)) := (Blw.refl _ _).alloc k1.base _
  have hx := ext_add (L := some (w.heap.size, 0)) k1 (bx := bx) hver hw (hold_alloc w _)
  have hat : BoxAt (addBox γ1 (nb + k) (some (w.heap.size, 0))) (setMem r.2.mem (nb + k) bx) (w.alloc (.cells z.cells elem)) (nb + k) bx :=
    ⟨w.heap.size, 0, z.cells, elem, (0, 0), by simp [addBox], heap_alloc_new w _, thawed_zero _, .inr rfl, by
      rw [hzc]
      exact k4 _ _ _ hx ⟨bx, w.heap.size, 0, setMem_same _ _, hle, by simp [addBox]⟩⟩
  have m1 := k1.add hver hw (hold_alloc w _) (fun blk k e => by obtain ⟨rfl, rfl⟩ := Prod.mk.inj (Option.some.inj e); exact ⟨Nat.le_refl _, by simp⟩) hat
  refine ⟨.pointer (some ⟨w.heap.size, 0, none⟩), _, _, ?_, ?_, k2.trans hx⟩
  · simp only [Instr.alloc, Sem.run_bind, hz, Result.andThen_ok, run_newVar, Sem.run_pure]
  · have := h.step (k2.trans hx) m1 hd (ptr_new (bx := bx))
    rw [← k3] at this
    exact this

theorem openObj_nil {b j : Nat} {v : Val} {σ : St} {r : Val × St} (hr : (openObj b [] j v σ).run = some r) : r = (v, σ) := by
  cases v with
  | data t x => cases t <;> first | (obtain rfl := Option.some.inj hr; rfl) | cases hr
  | _ => cases hr

theorem openObj_cons {b j : Nat} {f : OFld} {q : List OFld} {v : Val} {σ : St} {r : Val × St} (hr : (openObj b (f :: q) j v σ).run = some r) :
    (∃ x u y, v = .mix x u ∧ (openObj b q (j + 1) u σ).run = some y ∧ r = (.mix x y.1, y.2)) ∨
    (∃ e eid u, v = .mix .nils u ∧ 0 < e.size ∧ (σ.newBox (b * 1000 + 999 - j) (.data (.slice e) []) eid true fun ver σ => (openObj b q (j + 1) u σ).bind fun x => .ret (.mix (.whole (b * 1000 + 999 - j) ver) x.1, x.2)).run = some r) ∨
    (∃ u, v = .mix .nilm u ∧ (σ.newBox (b * 1000 + 999 - j) (.mapv []) 0 true fun ver σ => (openObj b q (j + 1) u σ).bind fun x => .ret (.mix (.mref (b * 1000 + 999 - j) ver) x.1, x.2)).run = some r) := by
  cases v with
  | mix a u =>
    cases f with
    | dat t =>
      cases a with
      | data t' z =>
        obtain ⟨y, h1, h2⟩ := bind_some (show ((openObj b q (j + 1) u σ).bind fun x => .ret (.mix (.data t' z) x.1, x.2)).run = some r from hr)
        exact .inl ⟨_, u, y, rfl, h1, (Option.some.inj h2).symm⟩
      | _ => cases hr
    | one =>
      cases a with
      | nilp =>
        obtain ⟨y, h1, h2⟩ := bind_some (show ((openObj b q (j + 1) u σ).bind fun x => .ret (.mix .nilp x.1, x.2)).run = some r from hr)
        exact .inl ⟨_, u, y, rfl, h1, (Option.some.inj h2).symm⟩
      | ptr c cv p =>
        obtain ⟨y, h1, h2⟩ := bind_some (show ((openObj b q (j + 1) u σ).bind fun x => .ret (.mix (.ptr c cv p) x.1, x.2)).run = some r from hr)
        exact .inl ⟨_, u, y, rfl, h1, (Option.some.inj h2).symm⟩
      | _ => cases hr
    | buf e eid =>
      cases a with
      | nils =>
        obtain ⟨he, hr1⟩ := bif_some hr
        exact .inr (.inl ⟨e, eid, u, rfl, by simpa using he, hr1⟩)
      | whole c cv =>
        obtain ⟨y, h1, h2⟩ := bind_some (show ((openObj b q (j + 1) u σ).bind fun x => .ret (.mix (.whole c cv) x.1, x.2)).run = some r from hr)
        exact .inl ⟨_, u, y, rfl, h1, (Option.some.inj h2).symm⟩
      | _ => cases hr
    | self => cases a <;> cases hr
    | map =>
      cases a with
      | nilm => exact .inr (.inr ⟨u, rfl, hr⟩)
      | _ => cases hr
  | _ => cases f <;> cases hr

theorem isNilC_some {x : Operand} (h : isNilC x = true) : x = .const (.slice none 0 0) := by
  unfold isNilC at h
  split at h
  · rfl
  · cases h

theorem stepNil_sound (hc : CxOk P cx) {ty : TypeId} {x y : Operand} (hy : isNilC y = true) (h : Sim B N γ σ a w) (hr : (stepNil cx ty (opv σ x) σ).run = some σ') :
    ∃ w' γ', (Instr.storeAt ty (a.eval x) (a.eval y)).run P w = .ok () w' ∧ Sim B N γ' σ' a w' ∧ Ext B γ σ.mem w γ' σ'.mem w' := by
  obtain rfl := isNilC_some hy
  have hv := h.opv x
  unfold stepNil at hr
  split at hr
  case h_2 => exact absurd hr (by intro k; cases k)
  rename_i b ver p e hx hT
  rw [hx] at hv
  obtain ⟨he, hr1⟩ := bif_some hr
  have he' : 0 < e.size := by simpa using he
  obtain ⟨v, hver, hr2⟩ := ver_newBox hr1
  obtain ⟨m1, m2⟩ := h.ok.newNil (b := b * 1000 + 990) (e := e) (tid := 0) hver he'
  have hS := h.go m2 m1
  have hrep : Rep (addBox γ (b * 1000 + 990) none) (setMem σ.mem (b * 1000 + 990) { val := .data (.slice e) ([] : List e.den), tid := 0, buf := true, ro := false, lk := false, ver := v }) w (.whole (b * 1000 + 990) v) .cells [.slice none 0 0] :=
    ⟨⟨_, rfl, rfl⟩, ofBox_new (setMem_same _ _) rfl ⟨e, 0, rfl, rfl, .inl ⟨by simp [addBox], rfl⟩⟩⟩
  have hne : b ≠ b * 1000 + 990 := by omega
  obtain ⟨bx, hb, hver2⟩ : ∃ bx, σ.mem b = some bx ∧ bx.ver = ver := by
    unfold storeOp at hr2
    split at hr2
    case h_2 => exact absurd hr2 (by intro k; cases k)
    rename_i bx hb
    obtain ⟨hc, _⟩ := bif_some hr2
    simp only [Bool.and_eq_true] at hc
    refine ⟨bx, ?_, Nat.eq_of_beq_eq_true hc.1.1.1.1⟩
    rw [← hb]
    exact (setMem_other _ hne).symm
  obtain ⟨blk, cap, hl, hval⟩ := ofBox_live hb hver2 hv.2
  obtain hval : a.eval x = _ := by simpa using hval
  rw [hval]
  have hl1 : (addBox γ (b * 1000 + 990) none).loc b = some (blk, cap) := by
    show (if b = b * 1000 + 990 then none else γ.loc b) = _
    rw [if_neg hne]
    exact hl
  obtain ⟨w', k1, k2, k3⟩ := storeOp_sound (P := P) hS hr2 hrep rfl hl1
  exact ⟨w', _, run_storeAt ((hc.T _ _ hT).sizeOf w) rfl k1, k2, m2.trans k3⟩

theorem zmix_rep {mem : Nat → Option Box} {v : Val} (hv : Rep γ mem w v .cells [.slice none 0 0]) : ∀ {t : Ty} {k : Nat} {e : Ty}, fldTy t k = some (.slice e) → Rep γ mem w (zmix t k v) .cells (zcells t) := by
  intro t
  induction t with
  | pair a b iha ihb =>
    intro k e h
    cases k with
    | zero =>
      obtain rfl := Option.some.inj (show some a = some (.slice e) from h)
      exact ⟨[.slice none 0 0], zcells b, rfl, hv, openV_rep (v := .data b b.zero) (repC_zero w γ.I b)⟩
    | succ k => exact ⟨zcells a, zcells b, rfl, repC_zero w γ.I a, ihb h⟩
  | _ => intro k e h; cases k <;> cases h

theorem zeroAt_some {bf : List Nat} {d : Option Nat} {parts : List (Nat × Operand)} {d0 k : Nat} (h : zeroAt bf d parts = some (d0, k)) : d = some d0 ∧ parts = [] := by
  unfold zeroAt at h
  split at h
  · split at h
    · obtain ⟨rfl, _⟩ := Prod.mk.inj (Option.some.inj h)
      exact ⟨rfl, rfl⟩
    · cases h
  · cases h

theorem stepAlloc_sound (hc : CxOk P cx) {elem : TypeId} {nb k : Nat} {bf : List Nat} {t : Ty} (h : Sim B N γ σ a w) (hd : k < N) (hT : find cx.T elem = some t)
    (hr : (stepAlloc nb bf k t σ).run = some σ') : Goes P B N γ σ a w (some k) (Instr.alloc elem true (.tuple #[])) σ' := by
  unfold stepAlloc at hr
  split at hr
  · rename_i e _
    obtain ⟨he, hr1⟩ := bif_some hr
    have he' : 0 < e.size := by simpa using he
    obtain ⟨v, hver, hr2⟩ := ver_newBox hr1
    obtain ⟨m1, m2⟩ := h.ok.newNil (b := (nb + k) * 1000 + 999) (e := e) (tid := 0) hver he'
    obtain ⟨ver, hver2, hr3⟩ := ver_newBox hr2
    obtain rfl := Option.some.inj hr3
    obtain ⟨i, z, i1, i2, i3, i4⟩ := (hc.T _ _ hT).info
    have hz : (zeroValue elem).run P w = .ok z w := by simp [zeroValue, typeInfo, i1, i3]
    have hrep : Rep (addBox γ ((nb + k) * 1000 + 999) none) (setMem σ.mem ((nb + k) * 1000 + 999) { val := .data (.slice e) ([] : List e.den), tid := 0, buf := true, ro := false, lk := false, ver := v }) w (.whole ((nb + k) * 1000 + 999) v) .cells z.cells.toList := by
      rw [i4]
      exact ⟨⟨_, rfl, rfl⟩, ofBox_new (setMem_same _ _) rfl ⟨e, 0, rfl, rfl, .inl ⟨by simp [addBox], rfl⟩⟩⟩
    obtain ⟨n1, n2⟩ := m1.newVar (b := nb + k) (v := .whole ((nb + k) * 1000 + 999) v) (tid := 0) hver2 (cs := z.cells) elem (.inl rfl) hrep
    refine ⟨.pointer (some ⟨w.heap.size, 0, none⟩), _, _, ?_, h.step (m2.trans n2) n1 hd ptr_new, m2.trans n2⟩
    simp only [Instr.alloc, Sem.run_bind, hz, Result.andThen_ok, run_newVar, Sem.run_pure]
  · exact alloc_sound hc h hd hT hr

/-- An object that was told becomes a variable's. -/
theorem openObj_sound {b : Nat} : ∀ {fs : List OFld} {j : Nat} {v : Val} {σ : St} {γ : Gh} {r : Val × St} {cs : List Value}, MemOk B γ σ.mem w → Rep γ σ.mem w v .cells cs → (openObj b fs j v σ).run = some r →
    ∃ γ1, MemOk B γ1 r.2.mem w ∧ Ext B γ σ.mem w γ1 r.2.mem w ∧ r.2.slots = σ.slots ∧ Rep γ1 r.2.mem w r.1 .cells cs := by
  intro fs
  induction fs with
  | nil =>
    intro j v σ γ r cs h hv hr
    obtain rfl := openObj_nil hr
    exact ⟨γ, h, Ext.refl _ _ _ _, rfl, hv⟩
  | cons f q ih =>
    intro j v σ γ r cs h hv hr
    rcases openObj_cons hr with ⟨x, u, y, rfl, h1, rfl⟩ | ⟨e, eid, u, rfl, he, hr1⟩ | ⟨u, rfl, hr1⟩
    rotate_right
    · obtain ⟨k, hver, hr2⟩ := ver_newBox hr1
      obtain ⟨y, h1, h2⟩ := bind_some hr2
      obtain rfl := Option.some.inj h2
      obtain ⟨c1, c2, rfl, v1, v2⟩ := hv
      obtain ⟨m1, m2⟩ := h.newMap (b := b * 1000 + 999 - j) hver
      obtain ⟨γ1, k1, k2, k3, k4⟩ := ih m1 (v2.ext m2) h1
      obtain rfl : c1 = [.map none] := v1
      refine ⟨γ1, k1, m2.trans k2, k3, [.map none], c2, rfl, ?_, k4⟩
      refine Rep.ext k2 (v := .mref (b * 1000 + 999 - j) k) (m := .cells) ?_
      exact ⟨⟨_, rfl, rfl⟩, ofBox_new (setMem_same _ _) rfl ⟨rfl, .inl ⟨by simp [addBox], rfl⟩⟩⟩
    · obtain ⟨c1, c2, rfl, v1, v2⟩ := hv
      obtain ⟨γ1, k1, k2, k3, k4⟩ := ih h v2 h1
      exact ⟨γ1, k1, k2, k3, c1, c2, rfl, v1.ext k2, k4⟩
    · obtain ⟨k, hver, hr2⟩ := ver_newBox hr1
      obtain ⟨y, h1, h2⟩ := bind_some hr2
      obtain rfl := Option.some.inj h2
      obtain ⟨c1, c2, rfl, v1, v2⟩ := hv
      obtain ⟨m1, m2⟩ := h.newNil (b := b * 1000 + 999 - j) (e := e) (tid := eid) hver he
      obtain ⟨γ1, k1, k2, k3, k4⟩ := ih m1 (v2.ext m2) h1
      obtain rfl : c1 = [.slice none 0 0] := v1
      refine ⟨γ1, k1, m2.trans k2, k3, [.slice none 0 0], c2, rfl, ?_, k4⟩
      refine Rep.ext k2 (v := .whole (b * 1000 + 999 - j) k) (m := .cells) ?_
      exact ⟨⟨_, rfl, rfl⟩, ofBox_new (setMem_same _ _) rfl ⟨e, 0, rfl, rfl, .inl ⟨by simp [addBox], rfl⟩⟩⟩

theorem box_obj_sound {elem : TypeId} {nb k : Nat} {x : Operand} {fs : List OFld} (h : Sim B N γ σ a w) (hd : k < N) (hu : opv σ x ≠ .undef) (ht : ∀ u, opv σ x ≠ .tup u)
    (hr : ((openObj (nb + k) fs 0 (opv σ x) σ).bind fun r => r.2.newBox (nb + k) r.1 elem false fun ver σ => .ret (σ.put k (.ptr (nb + k) ver []))).run = some σ') :
    Goes P B N γ σ a w (some k) (Instr.box elem (a.eval x)) σ' := by
  obtain ⟨r, h1, h2⟩ := bind_some hr
  obtain ⟨γ1, k1, k2, k3, k4⟩ := openObj_sound h.ok ((h.opv x).cells_of_val ht (fun e => absurd e hu)) h1
  obtain ⟨ver, hver, hr2⟩ := ver_newBox h2
  obtain rfl := Option.some.inj hr2
  obtain ⟨m1, m2⟩ := k1.newVar (b := nb + k) (v := r.1) (tid := elem) hver (cs := (a.eval x).cells) elem (.inr rfl) k4
  refine ⟨.pointer (some ⟨w.heap.size, 0, none⟩), _, _, ?_, ?_, k2.trans m2⟩
  · simp only [Instr.box, Sem.run_bind, run_newVar, Result.andThen_ok, Sem.run_pure]
  · have := h.step (k2.trans m2) m1 hd ptr_new
    rw [← k3] at this
    exact this

theorem box_sound {elem : TypeId} {nb k : Nat} {x : Operand} (h : Sim B N γ σ a w) (hd : k < N) (hu : opv σ x ≠ .undef) (ht : ∀ u, opv σ x ≠ .tup u)
    (hr : (σ.newBox (nb + k) (opv σ x) 0 false fun ver σ => .ret (σ.put k (.ptr (nb + k) ver []))).run = some σ') :
    Goes P B N γ σ a w (some k) (Instr.box elem (a.eval x)) σ' := by
  obtain ⟨ver, hver, hr2⟩ := ver_newBox hr
  obtain rfl := Option.some.inj hr2
  obtain ⟨m1, m2⟩ := h.ok.newVar (b := nb + k) (v := opv σ x) (tid := 0) hver (cs := (a.eval x).cells) elem (.inl rfl) ((h.opv x).cells_of_val ht (fun e => absurd e hu))
  refine ⟨.pointer (some ⟨w.heap.size, 0, none⟩), _, _, ?_, h.step m2 m1 hd ptr_new, m2⟩
  simp only [Instr.box, Sem.run_bind, run_newVar, Result.andThen_ok, Sem.run_pure]

/-! ### Components of tuples -/

theorem nth_rep {mem : Nat → Option Box} : ∀ {u v : Val} {k : Nat} {vs : List Value}, Rep γ mem w u .many vs → nth u k = some v → ∃ x, vs[k]? = some x ∧ Rep γ mem w v .val [x] := by
  intro u
  induction u with
  | mix p q ihp ihq =>
    intro v k vs h hn
    obtain ⟨c, r, rfl, h1, h2⟩ := h
    cases k with
    | zero => obtain rfl := Option.some.inj hn; exact ⟨c, rfl, h1⟩
    | succ k => obtain ⟨x, hx, hr⟩ := ihq h2 hn; exact ⟨x, by simpa using hx, hr⟩
  | _ => intro v k vs h hn; exact absurd hn (by intro k; cases k)

theorem extract_sound {x : Operand} {k : Nat} {vs v : Val} (h : Sim B N γ σ a w) (hd : ∀ k, d = some k → k < N) (hx : opv σ x = .tup vs) (hn : nth vs k = some v) :
    Goes P B N γ σ a w d (Instr.extract (a.eval x) k) (σ.putO d v) := by
  have hv := h.opv x
  rw [hx] at hv
  obtain ⟨arr, h1, h2⟩ := hv
  obtain h1 : a.eval x = _ := by simpa using h1
  obtain ⟨y, hy, hr⟩ := nth_rep h2 hn
  refine goes_put h hd (x := y) ?_ hr
  rw [h1]
  have : arr[k]? = some y := by simpa using hy
  simp only [Instr.extract, this, Sem.run_pure]

/-! ### Function values -/

theorem caps_rep : ∀ {ops : List Operand} {cs : List (Nat × Nat)}, Sim B N γ σ a w → capsOf (ops.map (opv σ)) = some cs → cs.length = ops.length ∧
    ∀ (i : Nat) b ver, cs[i]? = some (b, ver) → OfBox σ.mem b ver fun _ => ∃ blk cap, γ.loc b = some (blk, cap) ∧ (ops.map a.eval)[i]? = some (.pointer (some ⟨blk, 0, none⟩)) := by
  intro ops
  induction ops with
  | nil => intro cs h hc; obtain rfl := Option.some.inj hc; exact ⟨rfl, fun i b ver hi => by cases hi⟩
  | cons o r ih =>
    intro cs h hc
    have ho := h.opv o
    simp only [List.map_cons] at hc
    unfold capsOf at hc
    split at hc
    · rename_i heq; cases heq
    · rename_i b0 ver0 r0 heq
      injection heq with q1 q2
      subst q2
      rw [q1] at ho
      cases hr : capsOf (r.map (opv σ)) with
      | none => rw [hr] at hc; cases hc
      | some cs' =>
        rw [hr] at hc
        obtain rfl := Option.some.inj hc
        obtain ⟨i1, i2⟩ := ih h hr
        refine ⟨by simp [i1], fun i b ver hi => ?_⟩
        cases i with
        | zero =>
          obtain ⟨rfl, rfl⟩ := Prod.mk.inj (Option.some.inj hi)
          obtain ⟨bx, k1, k2, k3⟩ := ho.2
          refine ⟨bx, k1, k2, fun e => ?_⟩
          obtain ⟨blk, cap, j1, j2⟩ := k3 e
          obtain j2 : a.eval o = _ := by simpa using j2
          exact ⟨blk, cap, j1, by simp [j2, offP]⟩
        | succ i =>
          have := i2 i b ver (by simpa using hi)
          simpa using this
    · cases hc

theorem makeFunc_sound {f : Nat} {caps : Array Operand} {cs : List (Nat × Nat)} (h : Sim B N γ σ a w) (hd : ∀ k, d = some k → k < N) (hcs : capsOf (caps.toList.map (opv σ)) = some cs) :
    Nat.blt f 10000000 = true → Goes P B N γ σ a w d (Instr.makeFunc (.func f) #[] (caps.map a.eval)) (σ.putO d (.fn f cs)) := by
  intro hf
  obtain ⟨h1, h2⟩ := caps_rep h hcs
  refine goes_put h hd (x := .func (.func f) #[] (caps.map a.eval)) rfl ?_
  refine ⟨caps.map a.eval, by unfold fnVal; rw [hf]; rfl, by rw [h1]; simp, fun i b ver hi => ?_⟩
  obtain ⟨bx, k1, k2, k3⟩ := h2 i b ver hi
  refine ⟨bx, k1, k2, fun e => ?_⟩
  obtain ⟨blk, cap, j1, j2⟩ := k3 e
  exact ⟨blk, cap, j1, by simpa using j2⟩
/-- A method with its receiver. -/
theorem makeBound_sound {f : Nat} {x : Operand} {cs : List (Nat × Nat)} (h : Sim B N γ σ a w) (hd : ∀ k, d = some k → k < N) (hcs : capsOf [opv σ x] = some cs) (hf : Nat.blt f 10000000 = true) :
    Goes P B N γ σ a w d (Instr.makeFunc (.func f) #[a.eval x] #[]) (σ.putO d (.fn (f + 10000000) cs)) := by
  obtain ⟨h1, h2⟩ := caps_rep (ops := [x]) h hcs
  refine goes_put h hd (x := .func (.func f) #[a.eval x] #[]) rfl ?_
  have hb : Nat.blt (f + 10000000) 10000000 = false := by
    cases hq : Nat.blt (f + 10000000) 10000000 with
    | false => rfl
    | true => have := Nat.le_of_ble_eq_true hq; omega
  refine ⟨#[a.eval x], by unfold fnVal; rw [hb, show (f + 10000000) % 10000000 = f from by have := Nat.le_of_ble_eq_true hf; omega]; rfl, by simpa using h1.symm, fun i b ver hi => ?_⟩
  obtain ⟨bx, k1, k2, k3⟩ := h2 i b ver hi
  refine ⟨bx, k1, k2, fun e => ?_⟩
  obtain ⟨blk, cap, j1, j2⟩ := k3 e
  exact ⟨blk, cap, j1, by simpa using j2⟩
end
end Go.Ge
namespace Go.Ge
set_option linter.unusedVariables false
set_option linter.unusedSimpArgs false
open RowKit

/-- Ghost with a block more whose cells never change. -/
def addImm (γ : Gh) (blk : Nat) : Gh := { γ with I := fun b o => γ.I b o ∨ b = blk }

theorem MemOk.newImm {B : Own} {γ : Gh} {mem : Nat → Option Box} {w : World} (h : MemOk B γ mem w) (cs : Array Value) (t' : TypeId) :
    MemOk B (addImm γ w.heap.size) mem (w.alloc (.cells cs t')) ∧ Ext B γ mem w (addImm γ w.heap.size) mem (w.alloc (.cells cs t')) := by
  have hx : Ext B γ mem w (addImm γ w.heap.size) mem (w.alloc (.cells cs t')) :=
    { below := (Blw.refl _ _).alloc h.base _
      I := fun _ _ x => .inl x
      anew := fun blk o x => by
        rcases x with x | x
        · exact .inl x
        · exact .inr (.inl (by rw [x]; exact h.base))
      cells := fun blk o x => cell_of_same (hold_alloc w _ blk (h.imm blk o x))
      boxes := fun b bx hb => ⟨bx, hb, Nat.le_refl _, fun _ => ⟨rfl, rfl, rfl⟩⟩ }
  refine ⟨?_, hx⟩
  have hsz : (w.alloc (.cells cs t')).heap.size = w.heap.size + 1 := by simp
  exact
    { glob := h.globE hx
      base := by rw [hsz]; exact Nat.le_succ_of_le h.base
      boxes := fun b bx hb => (h.boxes b bx hb).keep hx rfl fun blk k hl => hold_alloc w _ blk (h.fresh b blk k (by rw [hb]; simp) hl).2
      inj := h.inj
      fresh := fun b blk k hb hl => by have := h.fresh b blk k hb hl; exact ⟨this.1, by rw [hsz]; omega⟩
      imm := fun blk off hi => by
        rw [hsz]
        rcases hi with hi | hi
        · have := h.imm blk off hi; omega
        · omega
      sep := fun b bx blk k off hb hl hi => by
        rcases hi with hi | hi
        · exact h.sep b bx blk k off hb hl hi
        · have := (h.fresh b blk k (by rw [hb]; simp) hl).2; omega }

/-! ### Filling -/

theorem foldl_fill (off : Nat) : ∀ (l : List Value) (k : Nat) (cells : Array Value), off + k + l.length ≤ cells.size →
    (l.zipIdx k).foldl (fun cs (x : Value × Nat) => cs.setIfInBounds (off + x.2) x.1) cells = (splice cells.toList (off + k) l).toArray
  | [], k, cells, h => by simp [splice]
  | v :: r, k, cells, h => by
    simp only [List.zipIdx_cons, List.foldl_cons]
    rw [foldl_fill off r (k + 1) _ (by simp at h ⊢; omega)]
    have e := list_seg_step cells.toList (off + k) v r (by simp at h ⊢; omega)
    congr 1
    simpa [splice, Array.toList_setIfInBounds, Nat.add_assoc] using e

theorem fill_step {place : Nat → Option (Nat × Nat)} {cells : Array Value} {i off size : Nat} {v : Value} {rest : List (Nat × Value)} (hp : place i = some (off, size)) (hs : v.cells.toList.length = size)
    (hle : off + size ≤ cells.size) : Instr.fill place cells ((i, v) :: rest) = Instr.fill place (splice cells.toList off v.cells.toList).toArray rest := by
  have hs' : v.cells.size = size := by simpa using hs
  have hc : (v.cells.size ≠ size || off + v.cells.size > cells.size) = false := by
    simp only [Bool.or_eq_false_iff, decide_eq_false_iff_not]
    constructor
    · simp [hs']
    · omega
  simp only [Instr.fill, hp]
  rw [hc]
  simp only [Bool.false_eq_true, if_false]
  congr 1
  rw [← Array.foldl_toList, Array.toList_zipIdx]
  have := foldl_fill off v.cells.toList 0 cells (by rw [hs]; omega)
  simpa using this

theorem putFld_rep {w : World} {I : Nat → Nat → Prop} {u : Ty} {y : u.den} {es : List Value} (he : RepC w I u y es) : ∀ {t : Ty} {x x' : t.den} {cs : List Value} {k o : Nat},
    RepC w I t x cs → fldOff t k = some o → putFld t x k u y = some x' → RepC w I t x' (splice cs o es) ∧ o + es.length ≤ cs.length := by
  intro t
  induction t with
  | pair a b iha ihb =>
    intro x x' cs k o h ho hp
    obtain ⟨c1, c2, rfl, h1, h2⟩ := h
    cases k with
    | zero =>
      simp only [fldOff, Option.some.injEq] at ho
      subst ho
      simp only [putFld] at hp
      split at hp
      · rename_i y' hy
        obtain ⟨q, hq⟩ := Ty.to_some hy
        subst q; subst hq
        obtain rfl := Option.some.inj hp
        have hl : es.length = c1.length := by rw [he.length, h1.length]
        refine ⟨⟨es, c2, ?_, he, h2⟩, by rw [List.length_append]; omega⟩
        simp only [splice, List.take_zero, List.nil_append, Nat.zero_add]
        rw [hl, List.drop_left]
      · cases hp
    | succ k =>
      simp only [fldOff] at ho
      cases hb : fldOff b k with
      | none => rw [hb] at ho; cases ho
      | some o' =>
        rw [hb] at ho
        simp only [Option.map_some, Option.some.injEq] at ho
        simp only [putFld] at hp
        split at hp
        · rename_i z hz
          obtain rfl := Option.some.inj hp
          obtain ⟨r1, r2⟩ := ihb h2 hb hz
          have hl := h1.length
          refine ⟨⟨c1, splice c2 o' es, ?_, h1, r1⟩, by rw [List.length_append]; omega⟩
          subst ho
          rw [← hl]
          simp only [splice]
          first
            | (rw [List.take_length_add_append, List.append_assoc, List.append_assoc, Nat.add_assoc, ← List.drop_drop, List.drop_left]; simp [List.append_assoc]; done)
            | (rw [Nat.add_comm o' c1.length, List.take_length_add_append, List.append_assoc, List.append_assoc, Nat.add_assoc, ← List.drop_drop, List.drop_left]; simp [List.append_assoc])
        · cases hp
  | _ => intro x x' cs k o h ho; cases k <;> simp [fldOff] at ho

theorem fldOff_of_fldTy : ∀ {t : Ty} {k : Nat} {u : Ty}, fldTy t k = some u → ∃ o, fldOff t k = some o := by
  intro t
  induction t with
  | pair a b iha ihb =>
    intro k u h
    cases k with
    | zero => exact ⟨0, rfl⟩
    | succ k =>
      obtain ⟨o, ho⟩ := ihb (show fldTy b k = some u from h)
      simp only [fldOff, ho]
      exact ⟨_, rfl⟩
  | _ => intro k u h; cases k <;> cases h

section
variable {P : Program} {B : Own} {N : Nat} {γ : Gh} {σ σ' : St} {a : Act} {w : World} {d : Option Nat} {cx : Ctx}

theorem buildParts_sound {place : Nat → Option (Nat × Nat)} {t : Ty} (hpl : ∀ k u o, fldTy t k = some u → fldOff t k = some o → place k = some (o, u.size)) :
    ∀ {parts : List (Nat × Operand)} {x x' : t.den} {cells : Array Value} {σ σ' : St} {γ : Gh}, Sim B N γ σ a w → RepC w γ.I t x cells.toList → buildParts σ t x parts = some (x', σ') →
      ∃ cells' γ', Instr.fill place cells (parts.map fun p => (p.1, a.eval p.2)) = some cells' ∧ Sim B N γ' σ' a w ∧ Ext B γ σ.mem w γ' σ'.mem w ∧ RepC w γ'.I t x' cells'.toList := by
  intro parts
  induction parts with
  | nil =>
    intro x x' cells σ σ' γ h hx hb
    obtain ⟨rfl, rfl⟩ := Prod.mk.inj (Option.some.inj hb)
    exact ⟨cells, γ, rfl, h, Ext.refl _ _ _ _, hx⟩
  | cons p r ih =>
    obtain ⟨k, o⟩ := p
    intro x x' cells σ σ' γ h hx hb
    simp only [buildParts] at hb
    split at hb
    · rename_i u hu
      split at hb
      · rename_i y σ1 hg
        split at hb
        · rename_i x1 hx1
          obtain ⟨γ1, s1, s2, cs, c1, c2⟩ := give_sound h (h.opv o) hg
          obtain hval : a.eval o = _ := by simpa using c2
          have hcc : (a.eval o).cells.toList = cs := by rw [hval]; exact ofCells_cells c1
          obtain ⟨off, hoff⟩ := fldOff_of_fldTy hu
          obtain ⟨r1, r2⟩ := putFld_rep c1 (RepC.mono s2.I s2.cells hx) hoff hx1
          have hsz := c1.length
          obtain ⟨cells', γ2, k1, k2, k3, k4⟩ := ih (cells := (splice cells.toList off cs).toArray) s1 (by simpa using r1) hb
          refine ⟨cells', γ2, ?_, k2, s2.trans k3, k4⟩
          simp only [List.map_cons]
          rw [fill_step (hpl k u off hu hoff) (by rw [hcc]; exact hsz) (by rw [hsz] at r2; simpa using r2), hcc]
          exact k1
        · cases hb
      · cases hb
    · cases hb

theorem buildList_sound {n : Nat} {e : Ty} {place : Nat → Option (Nat × Nat)} (hpl : ∀ k, place k = some (k * e.size, e.size)) :
    ∀ {parts : List (Nat × Operand)} {l l' : List e.den} {cells : Array Value} {σ σ' : St} {γ : Gh}, Sim B N γ σ a w → RepC w γ.I (.arr n e) l cells.toList → buildList σ e l parts = some (l', σ') →
      ∃ cells' γ', Instr.fill place cells (parts.map fun p => (p.1, a.eval p.2)) = some cells' ∧ Sim B N γ' σ' a w ∧ Ext B γ σ.mem w γ' σ'.mem w ∧ RepC w γ'.I (.arr n e) l' cells'.toList := by
  intro parts
  induction parts with
  | nil =>
    intro l l' cells σ σ' γ h hx hb
    obtain ⟨rfl, rfl⟩ := Prod.mk.inj (Option.some.inj hb)
    exact ⟨cells, γ, rfl, h, Ext.refl _ _ _ _, hx⟩
  | cons p r ih =>
    obtain ⟨k, o⟩ := p
    intro l l' cells σ σ' γ h hx hb
    simp only [buildList] at hb
    split at hb
    · rename_i y σ1 hg
      cases hlt : Nat.blt k l.length with
      | false => rw [hlt] at hb; cases hb
      | true =>
        rw [hlt] at hb
        simp only [cond_true] at hb
        have hlt' : k < l.length := by simpa using hlt
        obtain ⟨γ1, s1, s2, cs, c1, c2⟩ := give_sound h (h.opv o) hg
        obtain hval : a.eval o = _ := by simpa using c2
        have hcc : (a.eval o).cells.toList = cs := by rw [hval]; exact ofCells_cells c1
        obtain ⟨j1, j2, j3⟩ := RepC.mono s2.I s2.cells hx
        have j1' : l.length = n := j1
        have hsz := c1.length
        have hm : (k + 1) * e.size ≤ n * e.size := Nat.mul_le_mul_right _ (by omega)
        rw [Nat.succ_mul] at hm
        have hle : k * e.size + cs.length ≤ cells.toList.length := by rw [hsz, j2]; exact hm
        have hnew : RepC w γ1.I (.arr n e) (l.set k y) (splice cells.toList (k * e.size) cs) :=
          ⟨(@List.length_set _ l _ _).trans j1, by rw [length_splice hle]; exact j2, lset_rep j1' (by rw [j2]; exact Nat.le_refl _) j3 (by omega) c1⟩
        obtain ⟨cells', γ2, k1, k2, k3, k4⟩ := ih (cells := (splice cells.toList (k * e.size) cs).toArray) s1 (by simpa using hnew) hb
        refine ⟨cells', γ2, ?_, k2, s2.trans k3, k4⟩
        simp only [List.map_cons]
        rw [fill_step (hpl k) (by rw [hcc]; exact hsz) (by rw [hsz] at hle; simpa using hle), hcc]
        exact k1
    · cases hb

/-! ### Structs and arrays -/

theorem DenF.places {t : Ty} : ∀ {off : Nat} {fs : List Field}, DenF P t off fs → ∃ places : List (Nat × Nat), fs.mapM (fun f => (P.info? f.type).map fun i => (f.offset, i.size)) = some places ∧
    ∀ k u o, fldTy t k = some u → fldOff t k = some o → places[k]? = some (off + o, u.size) := by
  induction t with
  | pair a b iha ihb =>
    intro off fs h
    obtain ⟨f, r, rfl, h1, h2, h3, h4, h5⟩ := h.cons
    obtain ⟨pl, p1, p2⟩ := ihb h5
    obtain ⟨i, z, i1, i2, _⟩ := h3.info
    refine ⟨(f.offset, i.size) :: pl, by simp [i1, p1], fun k u o hu ho => ?_⟩
    cases k with
    | zero =>
      simp only [fldTy, fldOff, Option.some.injEq] at hu ho
      subst hu ho
      simp [h1, i2]
    | succ k =>
      simp only [fldTy, fldOff] at hu ho
      cases hb : fldOff b k with
      | none => rw [hb] at ho; cases ho
      | some o' =>
        rw [hb] at ho
        simp only [Option.map_some, Option.some.injEq] at ho
        have := p2 k u o' hu hb
        rw [List.getElem?_cons_succ, this]
        congr 2; omega
  | unit =>
    intro off fs h
    cases fs with
    | nil => exact ⟨[], rfl, fun k u o hu => by cases k <;> cases hu⟩
    | cons f r => simp [DenF, denG] at h
  | _ => intro off fs h; cases fs <;> simp [DenF, denG] at h

theorem zeroObj_rep {mem : Nat → Option Box} : ∀ {fs : List OFld} {v : Val}, zeroObj fs = some v → Rep γ mem w v .cells (ocells fs) := by
  intro fs
  induction fs with
  | nil => intro v h; obtain rfl := Option.some.inj h; rfl
  | cons f r ih =>
    intro v h
    cases f with
    | dat t =>
      simp only [zeroObj] at h
      split at h
      · rename_i u hu; obtain rfl := Option.some.inj h; exact ⟨_, _, rfl, repC_zero _ _ t, ih hu⟩
      · cases h
    | buf e i =>
      simp only [zeroObj] at h
      split at h
      · rename_i u hu; obtain rfl := Option.some.inj h; exact ⟨[.slice none 0 0], _, rfl, rfl, ih hu⟩
      · cases h
    | one =>
      simp only [zeroObj] at h
      split at h
      · rename_i u hu; obtain rfl := Option.some.inj h; exact ⟨[.pointer none], _, rfl, rfl, ih hu⟩
      · cases h
    | self => cases h
    | map =>
      simp only [zeroObj] at h
      split at h
      · rename_i u hu; obtain rfl := Option.some.inj h; exact ⟨[.map none], _, rfl, rfl, ih hu⟩
      · cases h

theorem buildObj_sound {place : Nat → Option (Nat × Nat)} {fs : List OFld} (hpl : ∀ k o f, objOff fs k = some o → fs[k]? = some f → place k = some (o, f.size)) (h : Sim B N γ σ a w) :
    ∀ {parts : List (Nat × Operand)} {v v' : Val} {cells : Array Value}, Rep γ σ.mem w v .cells cells.toList → buildObj σ fs v parts = some v' →
      ∃ cells', Instr.fill place cells (parts.map fun p => (p.1, a.eval p.2)) = some cells' ∧ Rep γ σ.mem w v' .cells cells'.toList := by
  intro parts
  induction parts with
  | nil => intro v v' cells hv hb; obtain rfl := Option.some.inj hb; exact ⟨cells, rfl, hv⟩
  | cons p r ih =>
    obtain ⟨k, x⟩ := p
    intro v v' cells hv hb
    simp only [buildObj] at hb
    split at hb
    case h_3 => cases hb
    case h_2 =>
      rename_i o z o' f _ hf ho hfs
      have hc : (Nat.beq o o' && Nat.beq 1 f.size && Nat.beq (valSize z) 1 && ptrV (opv σ x)) = true := by
        cases hc : (Nat.beq o o' && Nat.beq 1 f.size && Nat.beq (valSize z) 1 && ptrV (opv σ x)) with
        | false => rw [hc] at hb; exact absurd hb (by simp)
        | true => rfl
      rw [hc] at hb
      simp only [cond_true] at hb
      simp only [Bool.and_eq_true] at hc
      obtain ⟨⟨⟨c1, c2⟩, c3⟩, c4⟩ := hc
      obtain rfl := Nat.eq_of_beq_eq_true c1
      have hsz := Nat.eq_of_beq_eq_true c2
      have hz := Nat.eq_of_beq_eq_true c3
      split at hb
      case h_2 => cases hb
      rename_i v1 hv1
      have hx : Rep γ σ.mem w (opv σ x) .cells (a.eval x).cells.toList := (h.opv x).cells_of_val (fun u e => by rw [e] at c4; cases c4) (fun e => by rw [e] at c4; cases c4)
      have hl : (a.eval x).cells.toList.length = 1 := by
        rw [hx.length]
        cases hq : opv σ x with
        | ptr _ _ _ => rfl
        | whole _ _ => rfl
        | _ => rw [hq] at c4; cases c4
      obtain ⟨b1, _⟩ := fldAt_rep hv hf
      have b1' : o + 1 ≤ cells.toList.length := by rw [hz] at b1; exact b1
      have hn := setFld_rep (f := fun _ => .ret (opv σ x)) hv hf (fun v hz => by obtain rfl := Option.some.inj hz; exact hx) hv1 (by rw [hl, hz])
      obtain ⟨cells', k1, k2⟩ := ih (cells := (splice cells.toList o (a.eval x).cells.toList).toArray) (by simpa using hn) hb
      refine ⟨cells', ?_, k2⟩
      simp only [List.map_cons]
      rw [fill_step (hpl k o f ho hfs) (by rw [hl]; exact hsz) (by rw [← hsz]; simpa using b1')]
      exact k1
    rename_i o t y0 o' f hf ho hfs
    cases hc : Nat.beq o o' && Nat.beq t.size f.size with
    | false => rw [hc] at hb; cases hb
    | true =>
      rw [hc] at hb
      simp only [cond_true] at hb
      simp only [Bool.and_eq_true] at hc
      obtain rfl := Nat.eq_of_beq_eq_true hc.1
      have hsz := Nat.eq_of_beq_eq_true hc.2
      split at hb
      case h_2 => cases hb
      rename_i y hy
      split at hb
      case h_2 => cases hb
      rename_i v1 hv1
      have hx : Rep γ σ.mem w (opv σ x) .cells (a.eval x).cells.toList := (h.opv x).cells_of_val (fun u e => by rw [e] at hy; cases hy) (fun e => by rw [e] at hy; cases hy)
      have hyr : RepC w γ.I t y (a.eval x).cells.toList := toS_rep hy hx
      obtain ⟨b1, _⟩ := fldAt_rep hv hf
      have b1' : o + t.size ≤ cells.toList.length := b1
      have hl : (a.eval x).cells.toList.length = t.size := hyr.length
      have hn := setFld_rep (f := fun _ => .ret (.data t y)) hv hf (fun z hz => by obtain rfl := Option.some.inj hz; exact hyr) hv1 hl
      obtain ⟨cells', k1, k2⟩ := ih (cells := (splice cells.toList o (a.eval x).cells.toList).toArray) (by simpa using hn) hb
      refine ⟨cells', ?_, k2⟩
      simp only [List.map_cons]
      rw [fill_step (hpl k o f ho hfs) (by rw [hl]; exact hsz) (by rw [← hsz]; simpa using b1')]
      exact k1

theorem build_obj_sound (hc : CxOk P cx) {t : TypeId} {fs : List OFld} {z0 p q : Val} {parts : Array (Nat × Operand)} (h : Sim B N γ σ a w) (hd : ∀ k, d = some k → k < N) (hO : find cx.objs t = some fs)
    (hz0 : zeroObj fs = some z0) (hb : buildObj σ fs z0 parts.toList = some (.mix p q)) :
    Goes P B N γ σ a w d (Instr.build t (parts.map fun (i, x) => (i, a.eval x))) (σ.putO d (.mix p q)) := by
  have hB := hc.objs _ _ hO
  simp only [objB, Bool.and_eq_true] at hB
  obtain ⟨h1, h2⟩ := hB
  obtain ⟨i, z, i1, i2, i3, i4⟩ := infoB_some h2
  split at h1
  case h_2 => cases h1
  rename_i gs hg
  obtain ⟨pl, p1, p2⟩ := fldsB_places h1
  obtain ⟨cells', k1, c1, c2, e1, e2, e3⟩ := buildObj_sound (place := fun k => pl.toArray[k]?) (fun k o f ho hf => by have := p2 k o f ho hf; simpa using this) h
    (v := z0) (cells := z.cells) (by rw [i4]; exact zeroObj_rep hz0) hb
  have hrun : (Instr.build t (parts.map fun (i, x) => (i, a.eval x))).run P w = .ok (.agg cells') w := by
    refine run_build w t _ _ ?_
    unfold Program.built
    simp only [i1, hg, i3, p1]
    simpa using k1
  exact goes_put h hd hrun ⟨c1, c2, by rw [← e1], e2, e3⟩

/-- A struct without fields. -/
theorem build_unit_sound (hc : CxOk P cx) {t : TypeId} {fs : List OFld} {z0 : Val} {u : Ty.unit.den} {parts : Array (Nat × Operand)} (h : Sim B N γ σ a w) (hd : ∀ k, d = some k → k < N) (hO : find cx.objs t = some fs)
    (hz0 : zeroObj fs = some z0) (hb : buildObj σ fs z0 parts.toList = some (.data .unit u)) :
    Goes P B N γ σ a w d (Instr.build t (parts.map fun (i, x) => (i, a.eval x))) (σ.putO d (.data .unit ())) := by
  have hB := hc.objs _ _ hO
  simp only [objB, Bool.and_eq_true] at hB
  obtain ⟨h1, h2⟩ := hB
  obtain ⟨i, z, i1, i2, i3, i4⟩ := infoB_some h2
  split at h1
  case h_2 => cases h1
  rename_i gs hg
  obtain ⟨pl, p1, p2⟩ := fldsB_places h1
  obtain ⟨cells', k1, k2⟩ := buildObj_sound (place := fun k => pl.toArray[k]?) (fun k o f ho hf => by have := p2 k o f ho hf; simpa using this) h
    (v := z0) (cells := z.cells) (by rw [i4]; exact zeroObj_rep hz0) hb
  have hrun : (Instr.build t (parts.map fun (i, x) => (i, a.eval x))).run P w = .ok (.agg cells') w := by
    refine run_build w t _ _ ?_
    unfold Program.built
    simp only [i1, hg, i3, p1]
    simpa using k1
  have e : cells'.toList = [] := k2
  exact goes_put h hd hrun ⟨[], rfl, by rw [show cells' = #[] from Array.ext' e]; rfl⟩

theorem build_struct_sound (hc : CxOk P cx) {t : TypeId} {u v : Ty} {parts : Array (Nat × Operand)} {x : (Ty.pair u v).den} (h : Sim B N γ σ a w) (hd : ∀ k, d = some k → k < N) (hT : find cx.T t = some (.pair u v))
    (hb : buildParts σ (.pair u v) (Ty.pair u v).zero parts.toList = some (x, σ')) :
    Goes P B N γ σ a w d (Instr.build t (parts.map fun (i, x) => (i, a.eval x))) (σ'.putO d (.data (.pair u v) x)) := by
  have hD := hc.T _ _ hT
  obtain ⟨fs, f1, f2, _⟩ := hD.pair
  obtain ⟨pl, p1, p2⟩ := f2.places
  obtain ⟨i, z, i1, i2, i3, i4⟩ := hD.info
  obtain ⟨cells', γ', k1, k2, k3, k4⟩ := buildParts_sound (place := fun k => pl.toArray[k]?) (fun k u o hu ho => by have := p2 k u o hu ho; simpa using this) h
    (x := (Ty.pair u v).zero) (cells := z.cells) (by rw [i4]; exact repC_zero w γ.I _) hb
  have hrun : (Instr.build t (parts.map fun (i, x) => (i, a.eval x))).run P w = .ok (.agg cells') w := by
    refine run_build w t _ _ ?_
    unfold Program.built
    simp only [i1, f1, i3, p1]
    simpa using k1
  exact ⟨_, _, γ', hrun, k2.putO' hd ⟨_, k4, rfl⟩, by cases d <;> exact k3⟩

theorem stepZero_sound (hc : CxOk P cx) {t : TypeId} {u v : Ty} {nb k n : Nat} (h : Sim B N γ σ a w) (hd : n < N) (hT : find cx.T t = some (.pair u v)) (hr : (stepZero nb n (.pair u v) k σ).run = some σ') :
    Goes P B N γ σ a w (some n) (Instr.build t #[]) σ' := by
  have hD := hc.T _ _ hT
  obtain ⟨fs, f1, f2, _⟩ := hD.pair
  obtain ⟨pl, p1, p2⟩ := f2.places
  obtain ⟨i, z, i1, i2, i3, i4⟩ := hD.info
  unfold stepZero at hr
  split at hr
  case h_2 => exact absurd hr (by intro k; cases k)
  rename_i e hf
  obtain ⟨he, hr1⟩ := bif_some hr
  have he' : 0 < e.size := by simpa using he
  obtain ⟨ver, hver, hr2⟩ := ver_newBox hr1
  obtain rfl := Option.some.inj hr2
  obtain ⟨m1, m2⟩ := h.ok.newNil (b := nb + n) (e := e) (tid := 0) hver he'
  have hrun : (Instr.build t #[]).run P w = .ok (.agg z.cells) w := by
    refine run_build w t #[] _ ?_
    unfold Program.built
    simp only [i1, f1, i3, p1]
    rfl
  have hrep : Rep (addBox γ (nb + n) none) (setMem σ.mem (nb + n) { val := .data (.slice e) ([] : List e.den), tid := 0, buf := true, ro := false, lk := false, ver := ver }) w (.whole (nb + n) ver) .cells [.slice none 0 0] :=
    ⟨⟨_, rfl, rfl⟩, ofBox_new (setMem_same _ _) rfl ⟨e, 0, rfl, rfl, .inl ⟨by simp [addBox], rfl⟩⟩⟩
  have hz := zmix_rep hrep (t := .pair u v) hf
  refine ⟨.agg z.cells, w, _, hrun, h.step m2 m1 hd ?_, m2⟩
  rw [← i4] at hz
  cases k with
  | zero =>
    obtain ⟨c1, c2, e1, e2, e3⟩ := hz
    exact ⟨c1, c2, by rw [← e1], e2, e3⟩
  | succ k =>
    obtain ⟨c1, c2, e1, e2, e3⟩ := hz
    exact ⟨c1, c2, by rw [← e1], e2, e3⟩

theorem build_array_sound (hc : CxOk P cx) {t : TypeId} {n : Nat} {e : Ty} {parts : Array (Nat × Operand)} {l : List e.den} (h : Sim B N γ σ a w) (hd : ∀ k, d = some k → k < N) (hT : find cx.T t = some (.arr n e))
    (hb : buildList σ e (List.replicate n e.zero) parts.toList = some (l, σ')) :
    Goes P B N γ σ a w d (Instr.build t (parts.map fun (i, x) => (i, a.eval x))) (σ'.putO d (.data (.arr n e) l)) := by
  have hD := hc.T _ _ hT
  obtain ⟨eid, f1, f2, f3⟩ := hD.arr
  obtain ⟨ie, ze, e1, e2, e3, e4⟩ := f2.info
  obtain ⟨i, z, i1, i2, i3, i4⟩ := hD.info
  obtain ⟨cells', γ', k1, k2, k3, k4⟩ := buildList_sound (n := n) (place := fun k => some (k * ie.size, ie.size)) (fun k => by rw [e2]) h
    (l := List.replicate n e.zero) (cells := z.cells) (by rw [i4]; exact repC_zero w γ.I (.arr n e)) hb
  have hrun : (Instr.build t (parts.map fun (i, x) => (i, a.eval x))).run P w = .ok (.agg cells') w := by
    refine run_build w t _ _ ?_
    unfold Program.built
    simp only [i1, f1, i3, e1]
    simpa using k1
  exact ⟨_, _, γ', hrun, k2.putO' hd ⟨_, k4, rfl⟩, by cases d <;> exact k3⟩

/-! ### Slices of noughts -/

theorem madeCells_zero {e : Ty} {z : Value} (hz : z.cells.toList = zcells e) (he : 0 < e.size) (n : Nat) : (madeCells z.cells (n * e.size)).toList = zcells (.arr n e) := by
  have hzl : z.cells.size = e.size := by rw [← length_zcells e, ← hz]; simp
  apply List.ext_getElem?
  intro j
  have hlen : (zcells (.arr n e)).length = n * e.size := by rw [length_zcells]; rfl
  rcases Nat.lt_or_ge j (n * e.size) with hj | hj
  · have h1 : (madeCells z.cells (n * e.size)).toList[j]? = some (z.cells[j % z.cells.size]!) := by simp [madeCells, hj]
    rw [h1]
    have hdiv : j / e.size < n := by rw [Nat.div_lt_iff_lt_mul he]; exact hj
    have hk := take_drop_flatten_replicate (zcells e) n (j / e.size) hdiv
    rw [length_zcells] at hk
    have hmod := Nat.mod_lt j he
    have hkk : j / e.size * e.size + j % e.size = j := by rw [Nat.mul_comm]; exact Nat.div_add_mod j e.size
    have h2 : (zcells (.arr n e))[j]? = (zcells e)[j % e.size]? := by
      conv => rhs; rw [← hk]
      rw [List.getElem?_take, if_pos hmod, List.getElem?_drop, hkk]
      rfl
    rw [h2, ← hz, hzl]
    have hm : j % e.size < z.cells.size := by omega
    simp [hm]
  · rw [List.getElem?_eq_none (by simp [madeCells]; omega), List.getElem?_eq_none (by omega)]

theorem slice_of_arr {w : World} {I : Nat → Nat → Prop} {e : Ty} {n : Nat} {l : List e.den} {cells : Array Value} {t : TypeId} {blk : Nat} {fr : Nat × Nat} (h : RepC w I (.arr n e) l cells.toList) (hg : w.heap[blk]? = some (.cells cells t fr))
    (hI : ∀ o, I blk o) (hn : n ≤ maxLen) : RepC w I (.slice e) l [.slice (some ⟨blk, 0, none⟩) n n] := by
  obtain ⟨h1, h2, h3⟩ := h
  have h1' : l.length = n := h1
  refine .inr ⟨blk, 0, n, by rw [← h1'], by rw [← h1']; exact Nat.le_refl _, hn, fun i x hx => ?_⟩
  have hx' : l[i]? = some x := hx
  have hi : i < n := by have := (List.getElem?_eq_some_iff.1 hx').1; omega
  have hr := h3 i x hx'
  refine ⟨_, hr.length, fun j c hj => ⟨?_, hI _⟩, hr⟩
  rw [cell_of_heap hg]
  rw [List.getElem?_take] at hj
  split at hj
  · rw [List.getElem?_drop] at hj
    rw [Nat.zero_add]; simpa using hj
  · cases hj

theorem buildSlice_run (hc : CxOk P cx) {t : TypeId} {n : Nat} {e : Ty} {parts : Array (Nat × Operand)} {l : List e.den} (h : Sim B N γ σ a w) (hT : find cx.T t = some (.slice e))
    (hn : n * e.size ≤ 65536) (hb : buildList σ e (List.replicate n e.zero) parts.toList = some (l, σ')) :
    ∃ cells' γ' eid, 0 < e.size ∧ Sim B N γ' σ' a w ∧ Ext B γ σ.mem w γ' σ'.mem w ∧ RepC w γ'.I (.arr n e) l cells'.toList ∧
      (Instr.buildSlice t n (parts.map fun (i, x) => (i, a.eval x))).run P w = .ok (.slice (some ⟨w.heap.size, 0, none⟩) n n) (w.alloc (.cells cells' eid)) := by
  have hD := hc.T _ _ hT
  obtain ⟨eid, f1, f2, f3, f4⟩ := hD.slice
  obtain ⟨ie, ze, e1, e2, e3, e4⟩ := f2.info
  obtain ⟨cells', γ', k1, k2, k3, k4⟩ := buildList_sound (n := n) (place := fun k => some (k * ie.size, ie.size)) (fun k => by rw [e2]) h
    (l := List.replicate n e.zero) (cells := madeCells ze.cells (n * e.size)) (by rw [madeCells_zero e4 f4]; exact repC_zero w γ.I (.arr n e)) hb
  refine ⟨cells', γ', eid, f4, k2, k3, k4, ?_⟩
  have hk1 : Instr.fill (fun i => some (i * ie.size, ie.size)) (madeCells ze.cells (n * ie.size)) (parts.map fun (i, x) => (i, a.eval x)).toList = some cells' := by rw [e2] at k1 ⊢; simpa using k1
  by_cases h0 : n * ie.size = 0
  · have hz0 : madeCells ze.cells (n * ie.size) = #[] := by rw [h0]; simp [madeCells]
    rw [hz0] at hk1
    simp only [Array.toList_map] at hk1
    simp [Instr.buildSlice, run_underlying f1, Go.sizeOf, typeInfo, zeroValue, e1, e3, h0, newRow]
    have hz : (Array.map (fun x : Nat => (default : Value)) (Array.range 0)) = #[] := by simp [Array.range]
    rw [hz, hk1]
    rfl
  · exact run_buildSlice w t eid n _ cells' ie ze f1 e1 e3 (by rw [e2]; omega) h0 hk1

theorem buildSlice_sound (hc : CxOk P cx) {t : TypeId} {n : Nat} {e : Ty} {parts : Array (Nat × Operand)} {l : List e.den} (h : Sim B N γ σ a w) (hd : ∀ k, d = some k → k < N) (hT : find cx.T t = some (.slice e))
    (hn : Nat.ble (n * e.size) 65536 = true) (hb : buildList σ e (List.replicate n e.zero) parts.toList = some (l, σ')) :
    Goes P B N γ σ a w d (Instr.buildSlice t n (parts.map fun (i, x) => (i, a.eval x))) (σ'.putO d (.data (.slice e) l)) := by
  have hn : n * e.size ≤ 65536 := Nat.le_of_ble_eq_true hn
  obtain ⟨cells', γ', eid, f4, k2, k3, k4, hrun⟩ := buildSlice_run (n := n) hc h hT hn hb
  obtain ⟨m1, m2⟩ := k2.ok.newImm cells' eid
  refine ⟨_, _, _, hrun, k2.putO m2 m1 hd (v := .data (.slice e) l) ⟨[.slice (some ⟨w.heap.size, 0, none⟩) n n], ?_, rfl⟩, by cases d <;> exact k3.trans m2⟩
  refine slice_of_arr (RepC.mono m2.I m2.cells k4) (heap_alloc_new w _) (fun o => .inr rfl) ?_
  have : n * 1 ≤ n * e.size := Nat.mul_le_mul_left _ f4
  have : (65536 : Nat) ≤ maxLen := by decide
  omega

/-- The same, of a list that is the function's own. -/
theorem buildOwn_sound (hc : CxOk P cx) {t : TypeId} {n : Nat} {e : Ty} {parts : Array (Nat × Operand)} {l : List e.den} {nb k : Nat} {σ1 : St} (h : Sim B N γ σ a w) (hd : k < N) (hT : find cx.T t = some (.slice e))
    (hn : Nat.ble (n * e.size) 65536 = true) (hb : buildList σ e (List.replicate n e.zero) parts.toList = some (l, σ1))
    (hr : (σ1.newBox (nb + k) (.data (.slice e) l) 0 true fun ver σ => .ret (σ.put k (.whole (nb + k) ver))).run = some σ') :
    Goes P B N γ σ a w (some k) (Instr.buildSlice t n (parts.map fun (i, x) => (i, a.eval x))) σ' := by
  have hn : n * e.size ≤ 65536 := Nat.le_of_ble_eq_true hn
  obtain ⟨cells', γ', eid, f4, k2, k3, k4, hrun⟩ := buildSlice_run (n := n) hc h hT hn hb
  obtain ⟨ver, hver, hr2⟩ := ver_newBox hr
  obtain rfl := Option.some.inj hr2
  obtain ⟨q1, q2, q3⟩ := k4
  have q1 : l.length = n := q1
  have hle : n ≤ maxLen := by
    have : n * 1 ≤ n * e.size := Nat.mul_le_mul_left _ f4
    have : (65536 : Nat) ≤ maxLen := by decide
    omega
  obtain ⟨n1, n2⟩ := k2.ok.newBuf (w' := w.alloc (.cells cells' eid)) (b := nb + k) (e := e) (l := l) (tid := 0) (ver := ver) (cap := n) hver f4
    ((Blw.refl _ _).alloc k2.ok.base _) (hold_alloc w _) (heap_alloc_new w _) (thb_zero _ _) (.inl rfl) (Nat.le_of_eq q1) hle (by simpa using q2) q3
  refine ⟨_, _, _, hrun, k2.step n2 n1 hd ?_, k3.trans n2⟩
  exact ⟨⟨_, rfl, rfl⟩, ofBox_new (setMem_same _ _) rfl ⟨e, n, rfl, by rw [← q1]; rfl, .inr ⟨w.heap.size, n, by simp [addBox], rfl⟩⟩⟩

theorem take_app_one {α : Type} {l r : List α} {c : α} {j : Nat} (h : l.length = j) : (l ++ ([c] ++ r)).take (j + 1) = l ++ [c] := by
  subst h
  rw [List.take_append, List.take_of_length_le (by omega)]
  simp

theorem rowVal_sound {place : Nat → Option (Nat × Nat)} (hpl : ∀ k, place k = some (k, 1)) (h : Sim B N γ σ a w) :
    ∀ {parts : List (Nat × Operand)} {k : Nat} {v : Val} {cells : Array Value}, cells.size = k + parts.length → rowVal σ k parts = some v →
      ∃ vals : List Value, Instr.fill place cells (parts.map fun p => (p.1, a.eval p.2)) = some (cells.toList.take k ++ vals).toArray ∧ Rep γ σ.mem w v .cells vals := by
  intro parts
  induction parts with
  | nil =>
    intro k v cells hs hv
    obtain rfl := Option.some.inj hv
    refine ⟨[], ?_, rfl⟩
    have : cells.toList.take k = cells.toList := List.take_of_length_le (by simp only [List.length_nil, Nat.add_zero] at hs; simp [hs])
    rw [this]
    simp [Instr.fill]
  | cons p r ih =>
    obtain ⟨j, x⟩ := p
    intro k v cells hs hv
    simp only [rowVal] at hv
    cases hj : Nat.beq j k with
    | false => rw [hj] at hv; cases hv
    | true =>
      rw [hj] at hv
      simp only [cond_true] at hv
      obtain rfl := Nat.eq_of_beq_eq_true hj
      simp only [List.length_cons] at hs
      have key : ∀ (u u' : Val) (c : Value), (∀ t, u ≠ .tup t) → u ≠ .undef → opv σ x = u → rowVal σ (j + 1) r = some u' → v = .mix u u' → (a.eval x).cells.toList = [c] →
          ∃ vals : List Value, Instr.fill place cells (((j, x) :: r).map fun p => (p.1, a.eval p.2)) = some (cells.toList.take j ++ vals).toArray ∧ Rep γ σ.mem w v .cells vals := by
        intro u u' c h1 h2 hu hu' hv' hcell
        have hx := h.opv x
        rw [hu] at hx
        have hx' := hx.cells_of_val h1 (fun e => absurd e h2)
        have hlen : (splice cells.toList j [c]).length = cells.toList.length := length_splice (by simp; omega)
        obtain ⟨vals, k1, k2⟩ := ih (k := j + 1) (cells := (splice cells.toList j [c]).toArray) (by simp only [List.size_toArray, hlen, Array.length_toList]; omega) hu'
        have ht : (splice cells.toList j [c]).take (j + 1) = cells.toList.take j ++ [c] := by
          have : (cells.toList.take j).length = j := by rw [List.length_take, Array.length_toList]; omega
          simp only [splice]
          rw [List.append_assoc, take_app_one this]
        refine ⟨c :: vals, ?_, ?_⟩
        · simp only [List.map_cons]
          rw [fill_step (hpl j) (by rw [hcell]; rfl) (by omega), hcell, k1]
          rw [ht]; simp
        · rw [hv']
          exact ⟨[c], vals, rfl, by rw [hcell] at hx'; exact hx', k2⟩
      split at hv
      · rename_i u' hu hu'
        obtain rfl := Option.some.inj hv
        have hx := h.opv x
        rw [hu] at hx
        obtain hx : a.eval x = _ := by simpa [Rep] using hx
        exact key .nilp u' (.pointer none) (fun t e => by cases e) (fun e => by cases e) hu hu' rfl (by rw [hx]; rfl)
      · rename_i b ver q u' hu hu'
        obtain rfl := Option.some.inj hv
        have hx := h.opv x
        rw [hu] at hx
        obtain ⟨⟨y, hy, ho⟩, _⟩ := hx
        obtain rfl : a.eval x = y := by simpa using hy
        refine key (.ptr b ver q) u' (a.eval x) (fun t e => by cases e) (fun e => by cases e) hu hu' rfl ?_
        generalize a.eval x = y at ho ⊢
        cases y <;> first | rfl | (simp [Value.oneCell'] at ho)
      · rename_i f c u' hu hu'
        obtain rfl := Option.some.inj hv
        have hx := h.opv x
        rw [hu] at hx
        obtain ⟨arr, hx, _, _⟩ := hx
        obtain hx : a.eval x = _ := by simpa using hx
        exact key (.fn f c) u' (fnVal f arr) (fun t e => by cases e) (fun e => by cases e) hu hu' rfl (by rw [hx]; exact fnVal_cells f arr)
      · cases hv

theorem stepRow_sound (hc : CxOk P cx) {t : TypeId} {nb n : Nat} {parts : Array (Nat × Operand)} (h : Sim B N γ σ a w) (hd : ∀ k, d = some k → k < N)
    (hr : (stepRow cx nb d t n parts.toList σ).run = some σ') : Goes P B N γ σ a w d (Instr.buildSlice t n (parts.map fun (i, x) => (i, a.eval x))) σ' := by
  unfold stepRow at hr
  split at hr
  case h_2 => cases hr
  rename_i k e v he hv
  obtain ⟨hb, hr1⟩ := bif_some hr
  simp only [Bool.and_eq_true] at hb
  obtain ⟨⟨hn, h0⟩, h64⟩ := hb
  obtain rfl := Nat.eq_of_beq_eq_true hn
  have h0' : 0 < parts.toList.length := by simpa using h0
  have h64' : parts.toList.length ≤ 64 := Nat.le_of_ble_eq_true h64
  obtain ⟨k1, k2⟩ := rowEl_some hc he
  obtain ⟨_, hs, z, hz, _⟩ := hc.ones _ k2
  obtain ⟨ie, i1, i2⟩ : ∃ ie, P.info? e = some ie ∧ ie.size = 1 := by
    have := hs w
    cases hi : P.info? e with
    | none => simp [Go.sizeOf, typeInfo, hi] at this
    | some ie => simp [Go.sizeOf, typeInfo, hi] at this; exact ⟨ie, rfl, this⟩
  obtain ⟨z', i3⟩ : ∃ z', ie.zero = some z' := by
    have := hz w
    cases hi : ie.zero with
    | none => simp [zeroValue, typeInfo, i1, hi] at this
    | some z' => exact ⟨z', rfl⟩
  obtain ⟨ver, hver, hr2⟩ := ver_newBox hr1
  obtain rfl := Option.some.inj hr2
  obtain ⟨vals, f1, f2⟩ := rowVal_sound (place := fun i => some (i * ie.size, ie.size)) (fun j => by rw [i2]; simp) h (k := 0) (cells := (Array.range (parts.toList.length * ie.size)).map (z'.cells[· % z'.cells.size]!)) (by simp [i2]) hv
  have hrun := run_buildSlice w t e parts.toList.length (parts.map fun (i, x) => (i, a.eval x)) _ ie z' k1 i1 i3 (by rw [i2]; omega) (by rw [i2]; omega) (by rw [Array.toList_map]; exact f1)
  obtain ⟨m1, m2⟩ := h.ok.newVar (b := nb + k) (v := v) (tid := 0) hver (cs := ((((Array.range (parts.toList.length * ie.size)).map (z'.cells[· % z'.cells.size]!)).toList.take 0) ++ vals).toArray) e (.inl rfl) (by simpa using f2)
  refine ⟨_, _, _, hrun, h.step m2 m1 (hd k rfl) ?_, m2⟩
  refine ⟨⟨_, rfl, rfl⟩, ofBox_new (setMem_same _ _) rfl ⟨by simp, w.heap.size, 0, by simp [addBox], by omega, by omega, by omega, _, _, rfl, by simp, .inr ?_⟩⟩
  simp [offP]


/-- A slice of nothing, that is appended to later on. -/
theorem buildEmpty_sound (hc : CxOk P cx) {t : TypeId} {e : Ty} {nb k : Nat} (h : Sim B N γ σ a w) (hd : k < N) (hT : find cx.T t = some (.slice e))
    (hr : (σ.newBox (nb + k) (.data (.slice e) ([] : List e.den)) 0 true fun ver σ => .ret (σ.put k (.whole (nb + k) ver))).run = some σ') :
    Goes P B N γ σ a w (some k) (Instr.buildSlice t 0 #[]) σ' := by
  obtain ⟨eid, f1, f2, f3, f4⟩ := (hc.T _ _ hT).slice
  obtain ⟨ie, ze, e1, e2, e3, e4⟩ := f2.info
  obtain ⟨ver, hver, hr2⟩ := ver_newBox hr
  obtain rfl := Option.some.inj hr2
  have hrun : (Instr.buildSlice t 0 #[]).run P w = .ok (.slice (some ⟨w.heap.size, 0, none⟩) 0 0) (w.alloc (.cells #[] eid)) := by
    simp [Instr.buildSlice, run_underlying f1, Go.sizeOf, typeInfo, zeroValue, e1, e3, newRow, Instr.fill]
    have hz : (Array.map (fun x : Nat => (default : Value)) (Array.range 0)) = #[] := by simp [Array.range]
    rw [hz]
  obtain ⟨n1, n2⟩ := h.ok.newBuf (w' := w.alloc (.cells #[] eid)) (b := nb + k) (e := e) (l := ([] : List e.den)) (tid := 0) (ver := ver) (cap := 0) hver f4
    ((Blw.refl _ _).alloc h.ok.base _) (hold_alloc w _) (heap_alloc_new w _) (thb_zero _ _) (.inl rfl) (Nat.le_refl _) (Nat.zero_le _) (by simp) (fun i z hz => by cases hz)
  refine ⟨_, _, _, hrun, h.step n2 n1 hd ?_, n2⟩
  exact ⟨⟨_, rfl, rfl⟩, ofBox_new (setMem_same _ _) rfl ⟨e, 0, rfl, rfl, .inr ⟨w.heap.size, 0, by simp [addBox], rfl⟩⟩⟩
end
end Go.Ge
namespace Go.Ge
set_option linter.unusedVariables false
set_option linter.unusedSimpArgs false
open RowKit

section
variable {P : Program} {B : Own} {N : Nat} {γ : Gh} {σ σ' : St} {a : Act} {w w' : World} {d : Option Nat} {cx : Ctx}

theorem maxLen_big : (4294967296 : Nat) ≤ maxLen := by decide

theorem fits_nat {n : Nat} (h : fits (n : Int) = true) : n ≤ 4294967296 := by simp [fits] at h; omega

theorem bytes_small {eid : TypeId} {ie : TypeInfo} (hb : bytesB P eid = true) (hi : P.info? eid = some ie) : ie.bytes ≤ 32768 := by
  unfold bytesB at hb
  rw [hi] at hb
  exact Nat.le_of_ble_eq_true hb

/-- A whole buffer that was just made. -/
theorem whole_new {mem : Nat → Option Box} {b cap blk : Nat} {bx : Box} {e : Ty} {n : Nat} (hbuf : bx.buf = true) (hrow : bx.row = some (e, n)) :
    Rep (addBox γ b (some (blk, cap))) (setMem mem b bx) w' (.whole b bx.ver) .val [.slice (some ⟨blk, 0, none⟩) n cap] :=
  ⟨⟨_, rfl, rfl⟩, ofBox_new (setMem_same _ _) rfl ⟨e, n, hbuf, hrow, .inr ⟨blk, cap, by simp [addBox], rfl⟩⟩⟩

theorem makeSlice_sound (hc : CxOk P cx) {t : TypeId} {nb k : Nat} {e : Ty} {x y : Operand} {kl kc : IntKind} {l c : Int} (h : Sim B N γ σ a w) (hd : k < N) (hT : find cx.T t = some (.slice e))
    (hx : opv σ x = .data (.int kl) l) (hy : opv σ y = .data (.int kc) c) (hin : inside 0 l c = true) (hf : fits c = true)
    (hr : (σ.newBox (nb + k) (.data (.slice e) (lrep l e.zero)) 0 true fun ver σ => .ret (σ.put k (.whole (nb + k) ver))).run = some σ') :
    Goes P B N γ σ a w (some k) (Instr.makeSlice t (a.eval x) (a.eval y)) σ' := by
  obtain ⟨ver, hver, hr2⟩ := ver_newBox hr
  obtain rfl := Option.some.inj hr2
  obtain ⟨_, h0, h1⟩ := inside_some hin
  have hc32 : c ≤ 4294967296 := by simpa [fits] using hf
  have hvx := h.opv x
  have hvy := h.opv y
  rw [hx] at hvx
  rw [hy] at hvy
  obtain ⟨ex, _⟩ := repInt hvx
  obtain ⟨ey, _⟩ := repInt hvy
  obtain ⟨eid, f1, f2, f3, f4⟩ := (hc.T _ _ hT).slice
  obtain ⟨ie, ze, e1, e2, e3, e4⟩ := f2.info
  have hb := bytes_small f3 e1
  have hbytes : (ie.bytes : Int) * c ≤ 281474976710656 := by
    have : (ie.bytes : Int) * c ≤ 32768 * c := Int.mul_le_mul_of_nonneg_right (by omega) (by omega)
    omega
  have hrun := run_make (P := P) w t eid ie ze f1 e1 e3 kl kc l c h0 h1 hbytes (by omega)
  have hcells : (madeCells ze.cells (c.toNat * ie.size)).toList = zcells (.arr c.toNat e) := by rw [e2]; exact madeCells_zero e4 f4 _
  have hlen : (lrep l e.zero).length = l.toNat := by simp [lrep]
  obtain ⟨m1, m2⟩ := h.ok.newBuf (w' := w.alloc (.cells (madeCells ze.cells (c.toNat * ie.size)) eid)) (b := nb + k) (e := e) (l := lrep l e.zero) (tid := 0) (ver := ver) (cap := c.toNat) hver f4
    ((Blw.refl _ _).alloc h.ok.base _) (hold_alloc w _) (heap_alloc_new w _) (thb_zero _ _) (.inl rfl) (by rw [hlen]; omega) (by have := maxLen_big; omega)
    (by rw [e2]; exact size_madeCells _ _) (fun i z hz => by
      rw [hcells]
      have hz' : (List.replicate l.toNat e.zero)[i]? = some z := hz
      rw [List.getElem?_replicate] at hz'
      split at hz'
      · rename_i hi
        obtain rfl : e.zero = z := by simpa using hz'
        have := take_drop_flatten_replicate (zcells e) c.toNat i (by omega)
        rw [length_zcells] at this
        rw [show zcells (.arr c.toNat e) = (List.replicate c.toNat (zcells e)).flatten from rfl, this]
        exact repC_zero _ _ _
      · cases hz')
  refine ⟨_, _, _, by rw [ex, ey]; exact hrun, h.step m2 m1 hd ?_, m2⟩
  have := whole_new (γ := γ) (w' := w.alloc (.cells (madeCells ze.cells (c.toNat * ie.size)) eid)) (mem := σ.mem) (b := nb + k) (cap := c.toNat) (blk := w.heap.size)
    (bx := { val := .data (.slice e) (lrep l e.zero), tid := 0, buf := true, ro := false, lk := false, ver }) (e := e) (n := l.toNat) rfl (by rw [← hlen]; rfl)
  exact this

/-! ### Conversions -/

theorem byte_in (b : UInt8) : IntKind.u8.min ≤ ((b.toNat : Int)) ∧ ((b.toNat : Int)) ≤ IntKind.u8.max := u8_in b

theorem intsBytes_eq (l : List Int) : (⟨(intsBytes l).toArray⟩ : ByteArray) = strOfNums l := rfl

/-- The bytes of a row of bytes. -/
theorem row_bytes {I : Nat → Nat → Prop} {l : List Int} {v : Value} {src dst e : TypeId} (h : RowVal w I (.int .u8) l v) (hs : P.underlying src = some (.slice e)) (he : P.underlying e = some (.int .u8)) (hd : P.underlying dst = some .string) :
    (convert src dst v).run P w = .ok (.string ⟨(intsBytes l).toArray⟩) w ∧ l.length ≤ maxLen := by
  rcases h with ⟨rfl, base, cap, r1, r2, r3⟩ | ⟨blk, off, cap, r1, r2, r3, r4⟩
  · rcases r3 with rfl | ⟨blk, off, rfl⟩
    · rw [r1]
      refine ⟨?_, Nat.zero_le _⟩
      cases base with
      | none => exact run_convert_bytes_nil w src e hs he 0 0 dst hd
      | some ad =>
        rw [run_convert_bytes_string w src dst e _ _ _ hs he hd]
        have hl : (loadCells ad 0).run P w = .ok #[] w := run_loadCells_list (P := P) w ad [] (fun j v hv => by cases hv)
        simp [Conv.bytesToString, Sem.run_bind, hl, intsBytes]
        rfl
    · rw [r1]
      refine ⟨?_, Nat.zero_le _⟩
      exact run_convert_bytes_arg w src e hs he blk off 0 cap [] rfl (fun i hi => by omega) dst hd
  · rw [r1]
    refine ⟨?_, Nat.le_trans r2 r3⟩
    rw [intsBytes_eq]
    refine run_convert_bytes_arg w src e hs he blk off l.length cap l rfl (fun i hi => ?_) dst hd
    obtain ⟨es, g1, g2, g3⟩ := r4 i l[i] (List.getElem?_eq_getElem hi)
    obtain ⟨rfl, _⟩ := g3
    have := g2 0 _ rfl
    simp only [Ty.size, Nat.mul_one, Nat.add_zero] at this
    rw [this]
    simp [List.getD, List.getElem?_eq_getElem hi]

theorem length_intsBytes (l : List Int) : (intsBytes l).length = l.length := by simp [intsBytes]

theorem bytesRow_at {s : List UInt8} {cap i : Nat} {b : UInt8} (hb : s[i]? = some b) : ((bytesRow ⟨s.toArray⟩ cap).toList.drop (i * 1)).take 1 = [.int .u8 (b.toNat : Int)] := by
  have hi := (List.getElem?_eq_some_iff.1 hb).1
  apply List.ext_getElem?
  intro j
  rw [List.getElem?_take]
  split
  · rename_i hj
    obtain rfl : j = 0 := by omega
    rw [List.getElem?_drop]
    simp only [bytesRow, Nat.mul_one, Nat.add_zero, Array.toList_append, Array.toList_map]
    rw [List.getElem?_append_left (by simpa using hi)]
    simp [hb]
  · rename_i hj
    rw [List.getElem?_eq_none (by simp; omega)]

theorem size_bytesRow (s : ByteArray) {cap : Nat} (h : s.size ≤ cap) : (bytesRow s cap).size = cap := by
  simp only [bytesRow, Array.size_append, Array.size_map, Array.size_replicate]
  have : s.data.size = s.size := rfl
  omega

theorem strBytes_sound (hc : CxOk P cx) {nb k : Nat} {src dst : TypeId} {x : Operand} {s : List UInt8} (h : Sim B N γ σ a w) (hd : k < N) (hs : find cx.T src = some .str) (hd' : find cx.T dst = some (.slice (.int .u8)))
    (hx : opv σ x = .data .str s) (hr : (σ.newBox (nb + k) (.data (.slice (.int .u8)) (bytesInts s)) 0 true fun ver σ => .ret (σ.put k (.whole (nb + k) ver))).run = some σ') :
    Goes P B N γ σ a w (some k) (convert src dst (a.eval x)) σ' := by
  have hv := h.opv x
  rw [hx] at hv
  obtain ⟨ex, hl⟩ := repStr hv
  obtain ⟨ver, hver, hr3⟩ := ver_newBox hr
  obtain rfl := Option.some.inj hr3
  obtain ⟨eid, f1, f2, f3, f4⟩ := (hc.T _ _ hd').slice
  have hrun := run_bytes_of_string (P := P) w src dst eid ⟨s.toArray⟩ (hc.T _ _ hs).str f1 f2.int
  have hsz : (⟨s.toArray⟩ : ByteArray).size = s.length := by simp [ByteArray.size]
  rw [hsz] at hrun
  have hge := grownCap_ge w s.length 0 eid
  have hle := grownCap_le_maxLen w s.length 0 eid hl
  have hrs := size_bytesRow ⟨s.toArray⟩ (cap := grownCap w s.length 0 eid) (by rw [hsz]; exact hge)
  have hlen : (bytesInts s).length = s.length := by simp [bytesInts]
  generalize hcap : grownCap w s.length 0 eid = cap at *
  obtain ⟨m1, m2⟩ := h.ok.newBuf (b := nb + k) (e := .int .u8) (l := (bytesInts s : List Int)) (tid := 0) (ver := ver) (cap := cap)
    (w' := w.drew.alloc (.cells (bytesRow ⟨s.toArray⟩ cap) eid ((bytesRow ⟨s.toArray⟩ cap).size, (bytesRow ⟨s.toArray⟩ cap).size + 1)))
    hver (by decide) ((Blw.refl B w).drew.alloc h.ok.base _) (hold_alloc w.drew _) (heap_alloc_new w.drew _) ⟨fun o ho hh => by omega, fun he => by cases he⟩ (.inl rfl) (Nat.le_trans (Nat.le_of_eq hlen) hge) hle
    (by rw [hrs]; exact (Nat.mul_one _).symm) (fun i z hz => by
      have hz' : (bytesInts s)[i]? = some z := hz
      simp only [bytesInts, List.getElem?_map] at hz'
      cases hb : s[i]? with
      | none => rw [hb] at hz'; cases hz'
      | some b =>
        rw [hb] at hz'
        obtain rfl : (b.toNat : Int) = z := Option.some.inj hz'
        exact ⟨bytesRow_at (cap := cap) hb, byte_in b⟩)
  refine ⟨_, _, _, by rw [ex]; exact hrun, h.step m2 m1 hd ?_, m2⟩
  have := whole_new (γ := γ) (mem := σ.mem) (b := nb + k) (cap := cap) (blk := w.heap.size)
    (bx := { val := .data (.slice (.int .u8)) (bytesInts s), tid := 0, buf := true, ro := false, lk := false, ver }) (e := .int .u8) (n := s.length)
    (w' := w.drew.alloc (.cells (bytesRow ⟨s.toArray⟩ cap) eid ((bytesRow ⟨s.toArray⟩ cap).size, (bytesRow ⟨s.toArray⟩ cap).size + 1))) rfl (by rw [← hlen]; rfl)
  exact this

theorem stepConvert_sound (hc : CxOk P cx) {nb : Nat} {src dst : TypeId} {x : Operand} (h : Sim B N γ σ a w) (hd : ∀ k, d = some k → k < N) (hr : (stepConvert cx nb d src dst (opv σ x) σ).run = some σ') :
    Goes P B N γ σ a w d (convert src dst (a.eval x)) σ' := by
  have hv := h.opv x
  unfold stepConvert at hr
  split at hr
  · rename_i ks k kx n hs hd' hx
    rw [hx] at hv
    obtain ⟨ex, _⟩ := repInt hv
    obtain rfl := Option.some.inj hr
    refine goes_put h hd (x := .int k (k.wrap n)) ?_ (mkInt (int_in_wrap _ _))
    rw [ex]
    simp [convert, run_underlying (hc.T _ _ hs).int, run_underlying (hc.T _ _ hd').int, Conv.intToInt]
  · rename_i s hs hd' hx
    rw [hx] at hv
    obtain rfl := Option.some.inj hr
    obtain ⟨ex, hl⟩ := repStr hv
    refine goes_put h hd (x := a.eval x) ?_ hv
    rw [ex]
    simp [convert, run_underlying (hc.T _ _ hs).str, run_underlying (hc.T _ _ hd').str]
  · rename_i s hs hd' hx
    split at hr
    · rename_i k
      obtain ⟨hf, hr2⟩ := need_some hr
      exact strBytes_sound hc h (hd k rfl) hs hd' hx hr2
    · exact absurd hr (by intro k; cases k)
  · rename_i x0 hs hd'
    split at hr
    · rename_i l hl
      obtain rfl := Option.some.inj hr
      obtain ⟨eid, f1, f2, f3, f4⟩ := (hc.T _ _ hs).slice
      obtain ⟨r1, r2⟩ := row_bytes (dst := dst) (listOf_row h.ok hv hl) f1 f2.int (hc.T _ _ hd').str
      refine goes_put h hd r1 ⟨_, ⟨rfl, ?_⟩, rfl⟩
      exact Nat.le_trans (Nat.le_of_eq (length_intsBytes l)) r2
    · exact absurd hr (by intro k; cases k)
  · exact absurd hr (by intro k; cases k)
end
end Go.Ge
namespace Go.Ge
set_option linter.unusedVariables false
set_option linter.unusedSimpArgs false
open RowKit

section
variable {P : Program} {B : Own} {N : Nat} {γ : Gh} {σ σ' : St} {a : Act} {w w' : World} {d : Option Nat} {cx : Ctx}

/-- Elements in a row of cells. -/
def Elems (w : World) (I : Nat → Nat → Prop) (e : Ty) (l : List e.den) (cs : List Value) : Prop :=
  ∀ (i : Nat) (x : e.den), l[i]? = some x → RepC w I e x ((cs.drop (i * e.size)).take e.size)

theorem take_drop_append {α : Type} {a b : List α} {i s : Nat} (h : (i + 1) * s ≤ a.length) : ((a ++ b).drop (i * s)).take s = (a.drop (i * s)).take s := by
  rw [Nat.succ_mul] at h
  rw [List.drop_append_of_le_length (by omega), List.take_append_of_le_length (by rw [List.length_drop]; omega)]

theorem Elems.append {I : Nat → Nat → Prop} {e : Ty} {l m : List e.den} {c1 c2 rest : List Value} (h1 : Elems w I e l c1) (h2 : Elems w I e m c2) (hl1 : c1.length = l.length * e.size) (hl2 : c2.length = m.length * e.size) :
    Elems w I e (l ++ m) (c1 ++ c2 ++ rest) := by
  intro i x hx
  rw [List.getElem?_append] at hx
  split at hx
  · rename_i hi
    have hm : (i + 1) * e.size ≤ l.length * e.size := Nat.mul_le_mul_right _ hi
    rw [List.append_assoc, take_drop_append (by omega)]
    exact h1 i x hx
  · rename_i hi
    have hj : i - l.length < m.length := (List.getElem?_eq_some_iff.1 hx).1
    have hm : (i - l.length + 1) * e.size ≤ m.length * e.size := Nat.mul_le_mul_right _ hj
    have e1 : i * e.size = c1.length + (i - l.length) * e.size := by rw [hl1, ← Nat.add_mul]; congr 1; omega
    rw [List.append_assoc, e1, ← List.drop_drop, List.drop_left, take_drop_append (by omega)]
    exact h2 _ x hx

theorem Elems.front {I : Nat → Nat → Prop} {e : Ty} {l : List e.den} {cs : List Value} {n : Nat} (h : Elems w I e l cs) (hn : l.length * e.size ≤ n) (hc : n ≤ cs.length) : Elems w I e l (cs.take n) := by
  intro i x hx
  have hi : i < l.length := (List.getElem?_eq_some_iff.1 hx).1
  have hm : (i + 1) * e.size ≤ l.length * e.size := Nat.mul_le_mul_right _ hi
  have : (((cs.take n) ++ cs.drop n).drop (i * e.size)).take e.size = ((cs.take n).drop (i * e.size)).take e.size := take_drop_append (by rw [List.length_take]; omega)
  rw [← this, List.take_append_drop]
  exact h i x hx

/-- What is appended. -/
theorem src_row {I : Nat → Nat → Prop} {e : Ty} {m : List e.den} {v : Value} {tx t0 e' : TypeId} (hk0 : (∃ e', P.underlying tx = some (.slice e')) ∨ P.underlying tx = some .string) (hk : P.underlying t0 = some (.slice e')) (h : RowVal w I e m v) :
    ∃ news, Src P e.size tx v m.length news w ∧ Elems w I e m news := by
  suffices ∃ news, Src P e.size t0 v m.length news w ∧ Elems w I e m news by
    obtain ⟨news, n1, n2⟩ := this
    exact ⟨news, ⟨hk0, n1.len, n1.cells, n1.cellsD, n1.newsLen, n1.one⟩, n2⟩
  rcases h with ⟨rfl, base, cap, r1, r2, r3⟩ | ⟨blk, off, cap, r1, r2, r3, r4⟩
  · refine ⟨[], ?_, fun i x hx => by cases hx⟩
    rcases r3 with rfl | ⟨blk, off, rfl⟩
    · rw [r1]
      cases base with
      | none => exact Src.ofNil w hk 0
      | some ad => exact Src.ofSlice w hk ad 0 0 [] (by simp) (fun j u hj => by cases hj) (fun u hu => by cases hu)
    · rw [r1]; exact Src.ofSlice w hk _ 0 cap [] (by simp) (fun j u hj => by cases hj) (fun u hu => by cases hu)
  · obtain ⟨news, n1, n2, n3, n4⟩ := flat_cells (w := w) r4
    refine ⟨news, ?_, n4⟩
    rw [r1]
    exact Src.ofSlice w hk _ m.length cap news n1 (fun j u hj => by rw [addr_add]; exact n2 j u hj) n3

theorem src_str {I : Nat → Nat → Prop} {s : List UInt8} {tx : TypeId} (hk : (∃ e', P.underlying tx = some (.slice e')) ∨ P.underlying tx = some .string) :
    ∃ news, Src P 1 tx (.string ⟨s.toArray⟩) (bytesInts s).length news w ∧ Elems w I (.int .u8) (bytesInts s : List Int) news := by
  have hlen : (bytesInts s).length = (⟨s.toArray⟩ : ByteArray).size := by simp [bytesInts, ByteArray.size]
  refine ⟨byteCells ⟨s.toArray⟩, by rw [hlen]; exact ⟨hk, fun _ => rfl, firstCells_string _ w, firstCells_string _ w.drew, by rw [byteCells_length, Nat.mul_one], fun u hu => by
    obtain ⟨_, _, rfl⟩ := List.mem_map.1 hu
    rfl⟩, fun i x hx => ?_⟩
  have hx' : (bytesInts s)[i]? = some x := hx
  simp only [bytesInts, List.getElem?_map] at hx'
  cases hb : s[i]? with
  | none => rw [hb] at hx'; cases hx'
  | some b =>
    rw [hb] at hx'
    obtain rfl : (b.toNat : Int) = x := Option.some.inj hx'
    refine ⟨?_, byte_in b⟩
    apply List.ext_getElem?
    intro j
    rw [List.getElem?_take]
    split
    · rename_i hj
      obtain rfl : j = 0 := by simp [Ty.size] at hj; exact hj
      rw [List.getElem?_drop]
      simp [byteCells, Ty.size, hb]
    · rename_i hj
      rw [List.getElem?_eq_none (by simp [Ty.size] at hj ⊢; omega)]

/-- No room, or no array yet: a new one. -/
theorem grow_run {I : Nat → Nat → Prop} {t tx ty eid : TypeId} {e : Ty} {l m : List e.den} {base : Option Addr} {sCap : Nat} {olds news : List Value} {x : Value} (ht : P.underlying t = some (.slice eid)) (he : Den P e eid) (hb : bytesB P eid = true)
    (hold : (Builtin.firstCells e.size l.length (.slice base l.length sCap)).run P w.drew = .ok olds.toArray w.drew) (hol : olds.length = l.length * e.size) (ho : Elems w I e l olds)
    (hs : Src P e.size tx x m.length news w) (hn : Elems w I e m news) (hg : sCap < l.length + m.length) (hf : l.length + m.length ≤ 4294967296) :
    ∃ (cap : Nat) (cells : Array Value), (Builtin.append_ #[t, tx] ty #[.slice base l.length sCap, x]).run P w = .ok (.slice (some ⟨w.heap.size, 0, none⟩) (l.length + m.length) cap) (w.drew.alloc (.cells cells eid)) ∧
      l.length + m.length ≤ cap ∧ cap ≤ maxLen ∧ cells.size = cap * e.size ∧ Elems w I e (l ++ m) cells.toList := by
  obtain ⟨ie, ze, e1, e2, e3, e4⟩ := he.info
  have hby := bytes_small hb e1
  have hfit := growslice_fits (need := l.length + m.length) (old := sCap) (bytes := ie.bytes) hg (by
    have : (l.length + m.length) * ie.bytes ≤ 4294967296 * 32768 := Nat.mul_le_mul hf hby
    omega)
  have hrun := run_append_grow_src (P := P) w t tx ty eid ie ze ht e1 e3 base l.length sCap olds (by rw [e2]; exact hold) x m.length news (by rw [e2]; exact hs) hg (by omega) hfit
  have hge := grownCap_ge w (l.length + m.length) sCap eid
  have hle := grownCap_le_maxLen w (l.length + m.length) sCap eid (by have := maxLen_big; omega)
  have hzl : ze.cells.size = e.size := by rw [← length_zcells e, ← e4]; simp
  refine ⟨_, _, hrun, hge, hle, ?_, ?_⟩
  · have hnl := hs.newsLen
    have hsz : (Builtin.zeroCells ze.cells (grownCap w (l.length + m.length) sCap eid - (l.length + m.length))).size = (grownCap w (l.length + m.length) sCap eid - (l.length + m.length)) * e.size := by
      simp [Builtin.zeroCells, hzl]
    rw [Array.size_append, hsz]
    simp only [List.size_toArray, List.length_append, hol, hnl]
    rw [← Nat.add_mul, ← Nat.add_mul]
    congr 1; omega
  · rw [Array.toList_append]
    exact ho.append hn hol hs.newsLen

/-- The buffer grows in place. -/
theorem MemOk.grow {mem : Nat → Option Box} (h : MemOk B γ mem w) {b : Nat} {bx : Box} (hb : mem b = some bx) {e : Ty} {l l' : List e.den} (hbuf : bx.buf = true) (hval : bx.val = .data (.slice e) l) {blk cap : Nat} (hl : γ.loc b = some (blk, cap))
    {cur cur' : Array Value} {t : TypeId} {fr : Nat × Nat} (hg : w.heap[blk]? = some (.cells cur t fr)) (hth : ThB e cur fr) (htid : bx.tid = 0 ∨ t = bx.tid) (hs : cur'.size = cur.size) (hsame : ∀ o, o < l.length * e.size → cur'[o]? = cur[o]?)
    (he : 0 < e.size) (hle : l.length ≤ l'.length) (hcap : l'.length ≤ cap) (hmax : cap ≤ maxLen) (hsz : cur.size = cap * e.size) (hel : Elems w γ.I e l' cur'.toList) :
    let bx' : Box := { bx with val := .data (.slice e) l', ver := bx.ver + 1 }
    MemOk B γ (setMem mem b bx') (w.setRow blk cur') ∧ Ext B γ mem w γ (setMem mem b bx') (w.setRow blk cur') := by
  intro bx'
  have hf := h.fresh b blk cap (by rw [hb]; simp) hl
  have hblk := setRow_heap w blk cur cur' t fr hg
  have hother : ∀ i, i ≠ blk → (w.setRow blk cur').heap[i]? = w.heap[i]? := fun i hi => setRow_other w blk i cur' (fun e => hi e)
  have hrow := Box.row_buf hbuf hval
  have hx : Ext B γ mem w γ (setMem mem b bx') (w.setRow blk cur') :=
    { below := ⟨rfl, rfl, rfl, by simp, fun i hi => hother i (fun e => hi (by rw [e]; exact hf.1))⟩
      I := fun _ _ x => x
      anew := fun _ _ x => .inl x
      cells := fun c o x => by
        by_cases e' : c = blk
        · subst e'
          have := (h.sep b bx c cap o hb hl x).2 hbuf e l.length hrow
          rw [cell_of_heap hblk, cell_of_heap hg]
          exact hsame o this
        · exact cell_of_same (hother c e')
      boxes := fun c cx hc => by
        by_cases e' : c = b
        · subst e'
          obtain rfl : cx = bx := Option.some.inj (hc.symm.trans hb)
          exact ⟨bx', setMem_same _ _, Nat.le_succ _, fun k => absurd k (by simp [bx'])⟩
        · exact ⟨cx, by rw [setMem_other _ e']; exact hc, Nat.le_refl _, fun _ => ⟨rfl, rfl, rfl⟩⟩ }
  refine ⟨?_, hx⟩
  exact
    { glob := h.globE hx
      base := by have := h.base; simpa using this
      boxes := fun c cx hc => by
        by_cases e' : c = b
        · subst e'
          rw [setMem_same] at hc
          obtain rfl := Option.some.inj hc
          unfold BoxAt
          simp only [bx', hbuf]
          exact .inr ⟨e, l', rfl, he, .inr ⟨blk, cap, cur', t, fr, hl, hblk, hth.same hs, htid, hcap, hmax, by rw [hs]; exact hsz, fun i x hi => RepC.mono hx.I hx.cells (hel i x hi)⟩⟩
        · rw [setMem_other _ e'] at hc
          refine (h.boxes c cx hc).keep hx rfl fun blk' k' hl' => hother blk' fun e2 => e' ?_
          subst e2
          exact h.inj c b blk' k' cap (by rw [hc]; simp) (by rw [hb]; simp) hl' hl
      inj := fun c d blk' k1 k2 hc hd h1 h2 => h.inj c d blk' k1 k2 (by
          by_cases e : c = b
          · subst e; rw [hb]; simp
          · rwa [setMem_other _ e] at hc) (by
          by_cases e : d = b
          · subst e; rw [hb]; simp
          · rwa [setMem_other _ e] at hd) h1 h2
      fresh := fun c blk' k' hc h1 => by
        have := h.fresh c blk' k' (by
          by_cases e : c = b
          · subst e; rw [hb]; simp
          · rwa [setMem_other _ e] at hc) h1
        exact ⟨this.1, by simpa using this.2⟩
      imm := fun blk' off hi => by have := h.imm blk' off hi; simpa using this
      sep := fun c cx blk' k' off hc h1 hi => by
        by_cases e' : c = b
        · subst e'
          rw [setMem_same] at hc
          obtain rfl := Option.some.inj hc
          obtain ⟨s1, s2⟩ := h.sep c bx blk' k' off hb h1 hi
          refine ⟨s1, fun _ u n hr => ?_⟩
          have hr2 : bx'.row = some (e, l'.length) := Box.row_buf (bx := bx') hbuf rfl
          rw [hr2] at hr
          obtain ⟨rfl, rfl⟩ := Prod.mk.inj (Option.some.inj hr)
          have := s2 hbuf e l.length hrow
          exact Nat.lt_of_lt_of_le this (Nat.mul_le_mul_right _ hle)
        · rw [setMem_other _ e'] at hc
          exact h.sep c cx blk' k' off hc h1 hi }

theorem src_more (hm : MemOk B γ σ.mem w) {e : Ty} {m : List e.den} {x : Val} {v : Value} {tx t0 e' : TypeId} (hk0 : (∃ e', P.underlying tx = some (.slice e')) ∨ P.underlying tx = some .string) (hk : P.underlying t0 = some (.slice e'))
    (hv : Rep γ σ.mem w x .val [v]) (h : moreOf e σ x = some m) : ∃ news, Src P e.size tx v m.length news w ∧ Elems w γ.I e m news := by
  unfold moreOf at h
  split at h
  · rename_i t
    obtain ⟨q, hq⟩ := toL_some h
    subst q; subst hq
    obtain ⟨ev, _⟩ := repStr hv
    rw [ev]
    exact src_str hk0
  · exact src_row hk0 hk (listOf_row hm hv h)

theorem bif_not_some {α : Type} {c : Bool} {t : Tree α} {y : α} (h : (bif c then .fail else t).run = some y) : c = false ∧ t.run = some y := by
  cases c with
  | true => cases h
  | false => exact ⟨rfl, h⟩

theorem run_append_nil_nothing {base : Option Addr} {t tx ty eid : TypeId} {size : Nat} {x : Value} {news : List Value} (ht : P.underlying t = some (.slice eid)) (hsz : (Go.sizeOf eid).run P w = .ok size w) (hs : Src P size tx x 0 news w) :
    (Builtin.append_ #[t, tx] ty #[.slice base 0 0, x]).run P w = .ok (.slice base 0 0) w := by
  cases base with
  | none => rcases hs.kind with ⟨e', hk⟩ | hk <;> simp [Builtin.append_, run_underlying ht, run_underlying hk, hsz, hs.len, hs.cells]
  | some ad =>
    have hn : news = [] := by have := hs.newsLen; simpa using this
    subst hn
    rcases hs.kind with ⟨e', hk⟩ | hk <;> simp [Builtin.append_, run_underlying ht, run_underlying hk, hsz, hs.len, hs.cells, storeCells]

theorem run_firstCells_zero (size : Nat) (base : Option Addr) : (Builtin.firstCells size 0 (.slice base 0 0)).run P w = .ok #[] w := by
  cases base with
  | none => exact run_firstCells_none w size 0 0 0
  | some ad => exact run_firstCells_some w size 0 ad 0 0 [] (by simp) (fun j v hj => by cases hj)

theorem run_append_room_thawed {t tx ty eid : TypeId} {size : Nat} {x : Value} {news : List Value} {n sLen sCap blk : Nat} {cur : Array Value} {tt : TypeId} {fr : Nat × Nat} (ht : P.underlying t = some (.slice eid)) (hsz : (Go.sizeOf eid).run P w = .ok size w)
    (hs : Src P size tx x n news w) (hg : w.heap[blk]? = some (.cells cur tt fr)) (hth : Thawed cur fr) (hroom : sLen + n ≤ sCap) (hle : sLen * size + news.length ≤ cur.size) :
    (Builtin.append_ #[t, tx] ty #[.slice (some ⟨blk, 0, none⟩) sLen sCap, x]).run P w = .ok (.slice (some ⟨blk, 0, none⟩) (sLen + n) sCap) (w.setRow blk (splice cur.toList (sLen * size) news).toArray) := by
  have hst := run_storeCells_thawed (P := P) blk (sLen * size) tt fr news 0 cur w hg hth (by omega) hs.one
  simp only [Nat.add_zero] at hst
  rcases hs.kind with ⟨e', hk⟩ | hk <;> simp [Builtin.append_, run_underlying ht, run_underlying hk, hsz, hs.len, hroom, hs.cells, addr_add, hst]

theorem getElem?_splice_lt {cs es : List Value} {k o : Nat} (h : o < k) (hk : k ≤ cs.length) : (splice cs k es)[o]? = cs[o]? := by
  rw [splice, List.append_assoc, List.getElem?_append_left (by rw [List.length_take]; omega), List.getElem?_take, if_pos h]

theorem stepAppend_sound (hc : CxOk P cx) {nb : Nat} {t tx ty : TypeId} {s x : Operand} (h : Sim B N γ σ a w) (hd : ∀ k, d = some k → k < N) (hk0 : (∃ e', P.underlying tx = some (.slice e')) ∨ P.underlying tx = some .string)
    (hr : (stepAppend cx nb d t (opv σ s) (opv σ x) σ).run = some σ') : Goes P B N γ σ a w d (Builtin.append_ #[t, tx] ty #[a.eval s, a.eval x]) σ' := by
  have hvs := h.opv s
  have hvx := h.opv x
  unfold stepAppend at hr
  split at hr
  case h_2 => exact absurd hr (by intro k; cases k)
  rename_i _ _ k e hT
  obtain ⟨eid, f1, f2, f3, f4⟩ := (hc.T _ _ hT).slice
  have hsz := f2.sizeOf w
  split at hr
  case h_2 => exact absurd hr (by intro k; cases k)
  rename_i m hm
  have hm : moreOf e σ (opv σ x) = some m := hm
  obtain ⟨news, n1, n2⟩ := src_more h.ok hk0 f1 hvx hm
  split at hr
  · rename_i hs
    rw [hs] at hvs
    obtain hes : a.eval s = _ := by simpa [Rep] using hvs
    obtain ⟨hf, hr2⟩ := need_some hr
    have hf : m.length ≤ 4294967296 := fits_nat hf
    obtain ⟨ver, hver, hr3⟩ := ver_newBox hr2
    obtain rfl := Option.some.inj hr3
    rw [hes]
    rcases Nat.eq_zero_or_pos m.length with h0 | h0
    · obtain rfl : m = [] := List.length_eq_zero_iff.1 h0
      obtain ⟨m1, m2⟩ := h.ok.newNil (b := nb + k) (tid := 0) hver f4
      refine ⟨_, _, _, run_append_nil_nothing f1 hsz n1, h.step m2 m1 (hd k rfl) ?_, m2⟩
      exact ⟨⟨_, rfl, rfl⟩, ofBox_new (setMem_same _ _) rfl ⟨e, 0, rfl, rfl, .inl ⟨by simp [addBox], rfl⟩⟩⟩
    · obtain ⟨cap, cells, g1, g2, g3, g4, g5⟩ := grow_run (I := γ.I) (ty := ty) (l := ([] : List e.den)) (base := none) (sCap := 0) (olds := []) f1 f2 f3 (by simpa using run_firstCells_none w.drew e.size 0 0 0) (by simp) (fun i x hx => by cases hx) n1 n2
        (by simpa using h0) (by simpa using hf)
      simp only [List.length_nil, Nat.zero_add, List.nil_append] at g1 g2 g5
      obtain ⟨m1, m2⟩ := h.ok.newBuf (b := nb + k) (e := e) (l := m) (tid := 0) (ver := ver) (cap := cap) hver f4 ((Blw.refl B w).drew.alloc h.ok.base _) (hold_alloc w.drew _) (heap_alloc_new w.drew _) (thb_zero _ _) (.inl rfl) g2 g3 g4 g5
      refine ⟨_, _, _, g1, h.step m2 m1 (hd k rfl) ?_, m2⟩
      exact whole_new (bx := { val := .data (.slice e) m, tid := 0, buf := true, ro := false, lk := false, ver }) (e := e) (n := m.length) rfl rfl
  · rename_i b ver hs
    rw [hs] at hvs
    split at hr
    case h_2 => exact absurd hr (by intro k; cases k)
    rename_i bx l hb hl
    obtain ⟨bx', hb', hver, hbuf, hbv⟩ : ∃ bx, σ.mem b = some bx ∧ bx.ver = ver ∧ bx.buf = true ∧ bx.val = .data (.slice e) l := by
      rcases listOf_inv hl with q | ⟨q, _⟩ | ⟨b', ver', bx', q, h1, h2, h3, h4⟩ | ⟨_, _, _, _, _, q, _⟩
      · cases q
      · cases q
      · cases q; exact ⟨bx', h1, h2, h3, h4⟩
      · cases q
    obtain rfl : bx = bx' := Option.some.inj (hb.symm.trans hb')
    · obtain ⟨hlk, hr1⟩ := bif_not_some hr
      obtain ⟨hf, hr2⟩ := need_some hr1
      obtain rfl := Option.some.inj hr2
      have hf : l.length + m.length ≤ 4294967296 := by
        have : fits (((l.length + m.length : Nat)) : Int) = true := by rw [← hf]; simp [plus, len]
        exact fits_nat this
      have htid : bx.tid = 0 ∨ eid = bx.tid := by
        simp only [Bool.or_eq_false_iff, Bool.not_eq_false'] at hlk
        have h2 := hlk.2
        unfold elOk at h2
        simp only [Bool.or_eq_true] at h2
        rcases h2 with h2 | h2
        · exact .inl (Nat.eq_of_beq_eq_true h2)
        · split at h2
          · rename_i e' he'
            have := hc.els _ _ he'
            rw [f1] at this
            have h4 : eid = e' := by injection this with this; injection this
            exact .inr (h4.trans (Nat.eq_of_beq_eq_true h2))
          · cases h2
      subst hver
      obtain ⟨e2, n2', g1, g2, g3⟩ := ofBox_live hb rfl hvs.2
      rw [Box.row_buf hbuf hbv] at g2
      obtain ⟨rfl, rfl⟩ := Prod.mk.inj (Option.some.inj g2)
      have hat := h.ok.boxes b bx hb
      obtain ⟨e3, l3, q1, q2, q3⟩ := hat.lst hbuf (fun _ q => by rw [hbv] at q; cases q)
      rw [hbv] at q1
      cases q1
      have happ : (app (α := e.den) l m).length = l.length + m.length := List.length_append
      rcases g3 with ⟨g3, g4⟩ | ⟨blk, cap, g3, g4⟩
      · obtain hes : a.eval s = _ := by simpa using g4
        have hl0 : l = [] := by
          rcases q3 with ⟨_, q3⟩ | ⟨blk, cap, cur, tid, fr, q3, _⟩
          · exact q3
          · rw [g3] at q3; cases q3
        subst hl0
        rw [hes]
        rcases Nat.eq_zero_or_pos m.length with h0 | h0
        · obtain rfl : m = [] := List.length_eq_zero_iff.1 h0
          have hbx : BoxAt (addBox γ b none) (setMem σ.mem b { bx with val := .data (.slice e) ([] : List e.den), ver := bx.ver + 1 }) w b { bx with val := .data (.slice e) ([] : List e.den), ver := bx.ver + 1 } := by
            unfold BoxAt
            simp only [hbuf]
            exact .inr ⟨e, [], rfl, f4, .inl ⟨by simp [addBox], rfl⟩⟩
          have hv2 : ∀ bx0, σ.mem b = some bx0 → bx0.ver < bx.ver + 1 := fun bx0 h0 => by rw [hb] at h0; obtain rfl := Option.some.inj h0; omega
          have m1 := h.ok.add (L := none) hv2 (Blw.refl B w) (fun _ _ => rfl) (fun blk k e => by cases e) hbx
          have m2 := ext_add (L := none) h.ok (bx := { bx with val := .data (.slice e) ([] : List e.den), ver := bx.ver + 1 }) hv2 (Blw.refl B w) (fun _ _ => rfl)
          refine ⟨_, _, _, run_append_nil_nothing f1 hsz n1, h.step m2 m1 (hd k rfl) ?_, m2⟩
          exact ⟨⟨_, rfl, rfl⟩, ofBox_new (setMem_same _ _) rfl ⟨e, 0, hbuf, Box.row_buf (bx := { bx with val := .data (.slice e) ([] : List e.den), ver := bx.ver + 1 }) hbuf rfl, .inl ⟨by simp [addBox], rfl⟩⟩⟩
        · obtain ⟨cap, cells, j1, j2, j3, j4, j5⟩ := grow_run (I := γ.I) (ty := ty) (l := ([] : List e.den)) (base := none) (sCap := 0) (olds := []) f1 f2 f3 (by simpa using run_firstCells_zero (w := w.drew) e.size none) (by simp) (fun i x hx => by cases hx) n1 n2
            (by simpa using h0) (by simpa using hf)
          have hv2 : ∀ bx0, σ.mem b = some bx0 → bx0.ver < bx.ver + 1 := fun bx0 h0 => by rw [hb] at h0; obtain rfl := Option.some.inj h0; omega
          have hw : Blw B w (w.drew.alloc (.cells cells eid)) := (Blw.refl B w).drew.alloc h.ok.base _
          have m2 := ext_add (L := some (w.heap.size, cap)) h.ok (bx := { bx with val := .data (.slice e) (app (α := e.den) [] m), ver := bx.ver + 1 }) hv2 hw (hold_alloc w.drew _)
          have hbx : BoxAt (addBox γ b (some (w.heap.size, cap))) (setMem σ.mem b { bx with val := .data (.slice e) (app (α := e.den) [] m), ver := bx.ver + 1 }) (w.drew.alloc (.cells cells eid)) b { bx with val := .data (.slice e) (app (α := e.den) [] m), ver := bx.ver + 1 } := by
            unfold BoxAt
            simp only [hbuf]
            exact .inr ⟨e, _, rfl, f4, .inr ⟨w.heap.size, cap, cells, eid, (0, 0), by simp [addBox], heap_alloc_new w.drew _, thb_zero _ _, htid, by rw [happ]; exact j2, j3, j4, fun i x hi => RepC.mono m2.I m2.cells (j5 i x hi)⟩⟩
          have m1 := h.ok.add (L := some (w.heap.size, cap)) hv2 hw (hold_alloc w.drew _) (fun blk k e => by obtain ⟨rfl, rfl⟩ := Prod.mk.inj (Option.some.inj e); exact ⟨Nat.le_refl _, (Array.getElem?_eq_some_iff.1 (heap_alloc_new w.drew _)).1⟩) hbx
          refine ⟨_, _, _, j1, h.step m2 m1 (hd k rfl) ?_, m2⟩
          exact whole_new (bx := { bx with val := .data (.slice e) (app (α := e.den) [] m), ver := bx.ver + 1 }) (e := e) (n := List.length (α := e.den) [] + m.length) hbuf (by rw [← happ]; exact Box.row_buf (bx := { bx with val := .data (.slice e) (app (α := e.den) [] m), ver := bx.ver + 1 }) hbuf rfl)
      · obtain hes : a.eval s = _ := by simpa using g4
        rw [hes]
        rcases q3 with ⟨q3, _⟩ | ⟨blk', cap', cur, tid, fr, q3, q4, q5, htid0, q6, q7, q8, q9⟩
        · rw [g3] at q3; cases q3
        rw [g3] at q3
        obtain ⟨rfl, rfl⟩ := Prod.mk.inj (Option.some.inj q3)
        have hcl : cur.toList.length = cap * e.size := by simpa using q8
        have hlc : l.length * e.size ≤ cap * e.size := Nat.mul_le_mul_right _ q6
        rcases Nat.lt_or_ge cap (l.length + m.length) with hgt | hle
        · have hfc := run_firstCells_some (P := P) w.drew e.size l.length ⟨blk, 0, none⟩ l.length cap (cur.toList.take (l.length * e.size)) (by rw [List.length_take]; omega) (fun j v hj => by
            rw [addr_add]
            show w.cell? ⟨blk, 0 + j, none⟩ = some v
            rw [cell_of_heap q4]
            rw [List.getElem?_take] at hj
            split at hj
            · simpa using hj
            · cases hj)
          obtain ⟨cap2, cells, j1, j2, j3, j4, j5⟩ := grow_run (I := γ.I) (ty := ty) (l := l) (base := some ⟨blk, 0, none⟩) (sCap := cap) f1 f2 f3 hfc (by rw [List.length_take]; omega) (Elems.front q9 (Nat.le_refl _) (by omega)) n1 n2 hgt hf
          have hv2 : ∀ bx0, σ.mem b = some bx0 → bx0.ver < bx.ver + 1 := fun bx0 h0 => by rw [hb] at h0; obtain rfl := Option.some.inj h0; omega
          have hw : Blw B w (w.drew.alloc (.cells cells eid)) := (Blw.refl B w).drew.alloc h.ok.base _
          have m2 := ext_add (L := some (w.heap.size, cap2)) h.ok (bx := { bx with val := .data (.slice e) (app (α := e.den) l m), ver := bx.ver + 1 }) hv2 hw (hold_alloc w.drew _)
          have hbx : BoxAt (addBox γ b (some (w.heap.size, cap2))) (setMem σ.mem b { bx with val := .data (.slice e) (app (α := e.den) l m), ver := bx.ver + 1 }) (w.drew.alloc (.cells cells eid)) b { bx with val := .data (.slice e) (app (α := e.den) l m), ver := bx.ver + 1 } := by
            unfold BoxAt
            simp only [hbuf]
            exact .inr ⟨e, _, rfl, f4, .inr ⟨w.heap.size, cap2, cells, eid, (0, 0), by simp [addBox], heap_alloc_new w.drew _, thb_zero _ _, htid, by rw [happ]; exact j2, j3, j4, fun i x hi => RepC.mono m2.I m2.cells (j5 i x hi)⟩⟩
          have m1 := h.ok.add (L := some (w.heap.size, cap2)) hv2 hw (hold_alloc w.drew _) (fun blk k e => by obtain ⟨rfl, rfl⟩ := Prod.mk.inj (Option.some.inj e); exact ⟨Nat.le_refl _, (Array.getElem?_eq_some_iff.1 (heap_alloc_new w.drew _)).1⟩) hbx
          refine ⟨_, _, _, j1, h.step m2 m1 (hd k rfl) ?_, m2⟩
          exact whole_new (bx := { bx with val := .data (.slice e) (app (α := e.den) l m), ver := bx.ver + 1 }) (e := e) (n := l.length + m.length) hbuf (by rw [← happ]; exact Box.row_buf (bx := { bx with val := .data (.slice e) (app (α := e.den) l m), ver := bx.ver + 1 }) hbuf rfl)
        · have hnl := n1.newsLen
          have hmul : (l.length + m.length) * e.size ≤ cap * e.size := Nat.mul_le_mul_right _ hle
          rw [Nat.add_mul] at hmul
          have hlen : l.length * e.size + news.length ≤ cur.toList.length := by rw [hnl, hcl]; exact hmul
          have hrun := run_append_room_thawed (P := P) (t := t) (tx := tx) (ty := ty) (sCap := cap) f1 hsz n1 q4 q5.th hle (by simpa using hlen)
          have hsz2 : (splice cur.toList (l.length * e.size) news).toArray.size = cur.size := by have := length_splice hlen; simpa using this
          obtain ⟨m1, m2⟩ := h.ok.grow hb hbuf hbv g3 q4 q5 htid0 (cur' := (splice cur.toList (l.length * e.size) news).toArray) (l' := app (α := e.den) l m) hsz2 (fun o ho => by
              have := getElem?_splice_lt (es := news) ho (by omega : l.length * e.size ≤ cur.toList.length)
              simpa using this) f4 (by rw [happ]; omega) (by rw [happ]; exact hle) q7 q8 (by
              have := (Elems.front q9 (Nat.le_refl _) (by omega : l.length * e.size ≤ cur.toList.length)).append (rest := cur.toList.drop (l.length * e.size + news.length)) n2 (by rw [List.length_take]; omega) hnl
              exact this)
          refine ⟨_, _, γ, hrun, h.step m2 m1 (hd k rfl) ?_, m2⟩
          exact ⟨⟨_, rfl, rfl⟩, ofBox_new (setMem_same _ _) rfl ⟨e, l.length + m.length, hbuf, by rw [← happ]; exact Box.row_buf (bx := { bx with val := .data (.slice e) (app (α := e.den) l m), ver := bx.ver + 1 }) hbuf rfl, .inr ⟨blk, cap, g3, rfl⟩⟩⟩
  · exact absurd hr (by intro k; cases k)
end
end Go.Ge
