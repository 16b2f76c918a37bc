/- A ghost interpreter of the model's code, and that it tells the truth: part 3. It says of a function of plain data what a call of it comes to. -/
import Derived.Test.YtkgjcocemmnpjaaDoorGeB
namespace Go.Ge
set_option linter.unusedVariables false
set_option linter.unusedSimpArgs false
open RowKit

section
variable {P : Program} {B : Own} {N : Nat} {γ : Gh} {σ σ' : St} {a : Act} {w : World} {d : Option Nat} {cx : Ctx}

theorem binSem_eq_bool (b c : Bool) {xt : TypeId} {x y : Operand} (ht : P.underlying xt = some .bool) :
    (binSem .eql xt x y (.bool b) (.bool c)).run P w = .ok (.bool (eqB b c)) w ∧ (binSem .neq xt x y (.bool b) (.bool c)).run P w = .ok (.bool (nt (eqB b c))) w := by
  have e := run_equalIn_bool' (P := P) w 9999 xt b c ht
  constructor <;> simp only [binSem, eqGuard_at_bool, binOp, Op.equal, Op.maxDepth, Sem.run_bind, Sem.run_pure, Result.andThen_ok, e] <;> rfl

theorem equalIn_ptr {xt e : TypeId} (ht : P.underlying xt = some (.pointer e)) (a b : Option Addr) (h : a = none ∨ b = none) (n : Nat) :
    (Op.equalIn (n + 1) xt (.pointer a) (.pointer b)).run P w = .ok (a.isNone && b.isNone) w := by
  cases a with
  | none => cases b <;> simp only [Op.equalIn, Sem.run_bind, run_underlying ht, Result.andThen_ok] <;> rfl
  | some a => cases b with
    | none => simp only [Op.equalIn, Sem.run_bind, run_underlying ht, Result.andThen_ok]; rfl
    | some b => simp at h

theorem binSem_eq_ptr {xt e : TypeId} {x y : Operand} (ht : P.underlying xt = some (.pointer e)) (a b : Option Addr) (h : a = none ∨ b = none) :
    (binSem .eql xt x y (.pointer a) (.pointer b)).run P w = .ok (.bool (a.isNone && b.isNone)) w ∧ (binSem .neq xt x y (.pointer a) (.pointer b)).run P w = .ok (.bool (!(a.isNone && b.isNone))) w := by
  have e := equalIn_ptr (P := P) (w := w) ht a b h 9999
  constructor <;> simp only [binSem, eqGuard_at_pointer, binOp, Op.equal, Op.maxDepth, Sem.run_bind, Sem.run_pure, Result.andThen_ok, e]

theorem bin_sound (hc : CxOk P cx) {op : BinOp} {xt : TypeId} {x y : Operand} {u v : Value} {p q r : Val} (hu : Rep γ σ.mem w p .val [u]) (hv : Rep γ σ.mem w q .val [v])
    (hr : (bin (find cx.T xt) (memN cx.ptrs xt) op p q).run = some r) : ∃ z, (binSem op xt x y u v).run P w = .ok z w ∧ Rep γ σ.mem w r .val [z] := by
  unfold bin at hr
  split at hr
  · -- numbers
    obtain ⟨rfl, h1⟩ := repInt hu
    obtain ⟨rfl, h2⟩ := repInt hv
    split at hr
    · rename_i left hs
      have hr2 := node_some hr
      rename_i k n k' m _
      cases hz : ltI m 0
      · rw [hz] at hr2; obtain rfl := Option.some.inj hr2; exact shift_sound h1 hs hz
      · rw [hz] at hr2; cases hr2
    · rename_i hs
      obtain ⟨hb, hr2⟩ := bif_some hr
      rename_i k n k' m _
      have hk := kcode_inj hb
      subst hk
      exact binInt_sound h1 hs hr2
  · -- texts
    obtain ⟨rfl, h1⟩ := repStr hu
    obtain ⟨rfl, h2⟩ := repStr hv
    exact binStr_sound hr
  · -- truths
    rename_i b c
    obtain rfl := repBool hu
    obtain rfl := repBool hv
    obtain ⟨hb, hr2⟩ := bif_some hr
    have ht := hc.T _ _ (isTy_some hb)
    have e := binSem_eq_bool (P := P) (w := w) b c (x := x) (y := y) ht.bool
    split at hr2
    · rename_i he
      obtain rfl := Option.some.inj hr2
      rcases isEq_some he with ⟨rfl, _⟩ | ⟨_, h⟩
      · exact ⟨.bool (eqB b c), e.1, mkBool _⟩
      · cases h
    · rename_i he
      obtain rfl := Option.some.inj hr2
      rcases isEq_some he with ⟨_, h⟩ | ⟨rfl, _⟩
      · cases h
      · exact ⟨.bool (nt (eqB b c)), e.2, mkBool _⟩
    · cases hr2
  · -- structs
    rename_i ta tb x1 t2 y1
    obtain ⟨hb, hr2⟩ := bif_some hr
    simp only [Bool.and_eq_true] at hb
    have ht := hc.T _ _ (isTy_some hb.1)
    split at hr2
    · rename_i y2 e hy2 he
      obtain ⟨e1, e2⟩ := Ty.to_some hy2
      subst e1; subst e2
      split at hr2
      · rename_i c hce
        obtain rfl := Option.some.inj hr2
        obtain ⟨cs1, k1, rfl⟩ := repV_data.1 hu
        obtain ⟨cs2, k2, rfl⟩ := repV_data.1 hv
        have hq := (equalIn_sound (P := P) (γ := γ) (w := w) (.pair ta tb)).1 10000 xt x1 _ cs1 cs2 c ht k1 k2 hce (by have := Nat.le_of_ble_eq_true hb.2; omega)
        obtain ⟨fs, j1, j2, j3, j4⟩ := ht.pair
        have hg : ∀ op, (eqGuard op xt x y (.agg cs1.toArray) (.agg cs2.toArray)).run P w = .ok () w := fun op => run_eqGuard_agg w op xt x y _ _ j3
        rcases isEq_some he with ⟨rfl, rfl⟩ | ⟨rfl, rfl⟩
        · refine ⟨.bool c, ?_, mkBool _⟩
          show (binSem .eql xt x y (.agg _) (.agg _)).run P w = _
          simp only [binSem, Sem.run_bind, hg, Result.andThen_ok]
          have hq' : (Op.equalIn 10000 xt (.agg cs1.toArray) (.agg cs2.toArray)).run P w = .ok c w := hq
          rw [run_eql_struct, hq']; rfl
        · refine ⟨.bool (nt c), ?_, mkBool _⟩
          show (binSem .neq xt x y (.agg _) (.agg _)).run P w = _
          simp only [binSem, Sem.run_bind, hg, Result.andThen_ok]
          have hq' : (Op.equalIn 10000 xt (.agg cs1.toArray) (.agg cs2.toArray)).run P w = .ok c w := hq
          rw [run_neq_struct, hq']; rfl
      · cases hr2
    · cases hr2
  · -- rows
    rename_i nn ee x1 t2 y1
    obtain ⟨hb, hr2⟩ := bif_some hr
    simp only [Bool.and_eq_true] at hb
    have ht := hc.T _ _ (isTy_some hb.1)
    split at hr2
    · rename_i y2 e hy2 he
      obtain ⟨e1, e2⟩ := Ty.to_some hy2
      subst e1; subst e2
      split at hr2
      · rename_i c hce
        obtain rfl := Option.some.inj hr2
        obtain ⟨cs1, k1, rfl⟩ := repV_data.1 hu
        obtain ⟨cs2, k2, rfl⟩ := repV_data.1 hv
        have hq := (equalIn_sound (P := P) (γ := γ) (w := w) (.arr nn ee)).1 10000 xt x1 _ cs1 cs2 c ht k1 k2 hce (by have := Nat.le_of_ble_eq_true hb.2; omega)
        have j3 := ht.arrEq
        have hg : ∀ op, (eqGuard op xt x y (.agg cs1.toArray) (.agg cs2.toArray)).run P w = .ok () w := fun op => run_eqGuard_agg w op xt x y _ _ j3
        rcases isEq_some he with ⟨rfl, rfl⟩ | ⟨rfl, rfl⟩
        · refine ⟨.bool c, ?_, mkBool _⟩
          show (binSem .eql xt x y (.agg _) (.agg _)).run P w = _
          simp only [binSem, Sem.run_bind, hg, Result.andThen_ok]
          have hq' : (Op.equalIn 10000 xt (.agg cs1.toArray) (.agg cs2.toArray)).run P w = .ok c w := hq
          rw [run_eql_struct, hq']; rfl
        · refine ⟨.bool (nt c), ?_, mkBool _⟩
          show (binSem .neq xt x y (.agg _) (.agg _)).run P w = _
          simp only [binSem, Sem.run_bind, hg, Result.andThen_ok]
          have hq' : (Op.equalIn 10000 xt (.agg cs1.toArray) (.agg cs2.toArray)).run P w = .ok c w := hq
          rw [run_neq_struct, hq']; rfl
      · cases hr2
    · cases hr2
  · -- nil and nil
    obtain rfl : u = _ := by simpa [Rep] using hu
    obtain rfl : v = _ := by simpa [Rep] using hv
    split at hr
    · rename_i e hp he
      obtain rfl := Option.some.inj hr
      obtain ⟨el, hpt⟩ := hc.ptrs _ hp
      have q := binSem_eq_ptr (P := P) (w := w) (x := x) (y := y) hpt none none (.inl rfl)
      rcases isEq_some he with ⟨rfl, rfl⟩ | ⟨rfl, rfl⟩
      · exact ⟨_, q.1, mkBool _⟩
      · exact ⟨_, q.2, mkBool _⟩
    · cases hr
  · cases hr

theorem live_some {b ver : Nat} (h : live σ b ver = true) : ∃ bx, σ.mem b = some bx ∧ bx.ver = ver := by
  unfold live at h
  split at h
  · rename_i bx hb; exact ⟨bx, hb, Nat.eq_of_beq_eq_true h⟩
  · cases h

theorem ofBox_live {mem : Nat → Option Box} {b ver : Nat} {bx : Box} (hb : mem b = some bx) (hv : bx.ver = ver) {K : Box → Prop} (h : OfBox mem b ver K) : K bx := by
  obtain ⟨bx', h1, h2, h3⟩ := h
  rw [hb] at h1
  obtain rfl := Option.some.inj h1
  exact h3 hv

theorem binP_sound (hc : CxOk P cx) {op : BinOp} {xt : TypeId} {x y : Operand} {u v : Value} {p q r : Val} (hu : Rep γ σ.mem w p .val [u]) (hv : Rep γ σ.mem w q .val [v])
    (hr : (binP σ (find cx.T xt) (memN cx.ptrs xt) op p q).run = some r) : ∃ z, (binSem op xt x y u v).run P w = .ok z w ∧ Rep γ σ.mem w r .val [z] := by
  unfold binP at hr
  split at hr
  · rename_i b ver p
    obtain ⟨hb, hr2⟩ := bif_some hr
    simp only [Bool.and_eq_true] at hb
    obtain ⟨bx, hbx, hver⟩ := live_some hb.1
    obtain ⟨blk, cap, _, hval⟩ := ofBox_live hbx hver hu.2
    obtain rfl : u = _ := by simpa using hval
    obtain rfl : v = _ := by simpa [Rep] using hv
    obtain ⟨el, hpt⟩ := hc.ptrs _ hb.2
    have q := binSem_eq_ptr (P := P) (w := w) (x := x) (y := y) hpt (some ⟨blk, offP p, none⟩) none (.inr rfl)
    split at hr2
    · rename_i e he
      obtain rfl := Option.some.inj hr2
      rcases isEq_some he with ⟨rfl, rfl⟩ | ⟨rfl, rfl⟩
      · exact ⟨_, q.1, mkBool _⟩
      · exact ⟨_, q.2, mkBool _⟩
    · cases hr2
  · rename_i b ver p
    obtain ⟨hb, hr2⟩ := bif_some hr
    simp only [Bool.and_eq_true] at hb
    obtain ⟨bx, hbx, hver⟩ := live_some hb.1
    obtain ⟨blk, cap, _, hval⟩ := ofBox_live hbx hver hv.2
    obtain rfl : v = _ := by simpa using hval
    obtain rfl : u = _ := by simpa [Rep] using hu
    obtain ⟨el, hpt⟩ := hc.ptrs _ hb.2
    have q := binSem_eq_ptr (P := P) (w := w) (x := x) (y := y) hpt none (some ⟨blk, offP p, none⟩) (.inl rfl)
    split at hr2
    · rename_i e he
      obtain rfl := Option.some.inj hr2
      rcases isEq_some he with ⟨rfl, rfl⟩ | ⟨rfl, rfl⟩
      · exact ⟨_, q.1, mkBool _⟩
      · exact ⟨_, q.2, mkBool _⟩
    · cases hr2
  · exact bin_sound hc hu hv hr

theorem un_sound {op : UnOp} {u : Value} {p r : Val} (hu : Rep γ σ.mem w p .val [u]) (hr : (un op p).run = some r) : ∃ z, (Op.unary op u).run P w = .ok z w ∧ Rep γ σ.mem w r .val [z] := by
  unfold un at hr
  split at hr
  · obtain rfl := repBool hu
    obtain rfl := Option.some.inj hr
    exact ⟨_, rfl, mkBool _⟩
  · obtain ⟨rfl, h1⟩ := repInt hu
    obtain rfl := Option.some.inj hr
    exact ⟨_, rfl, mkInt (int_in_wrap _ _)⟩
  · obtain ⟨rfl, h1⟩ := repInt hu
    obtain rfl := Option.some.inj hr
    rename_i k n
    refine ⟨_, ?_, mkInt (int_in_wrap _ _)⟩
    cases hk : k.signed <;> simp [Op.unary, Op.intBits, ixor, hk]
  · cases hr

/-! ### Reading -/

/-- What a path from a box leads to. -/
theorem navB_rep (hm : MemOk B γ σ.mem w) {b : Nat} {bx : Box} (hb : σ.mem b = some bx) {blk cap : Nat} (hl : γ.loc b = some (blk, cap)) {p : List Sel} {v : Val} (hn : (navB bx.buf p bx.val).run = some v) :
    ∃ cur tid fr, w.heap[blk]? = some (.cells cur tid fr) ∧ Thawed cur fr ∧ offP p + valSize v ≤ cur.size ∧ Rep γ σ.mem w v .cells ((cur.toList.drop (offP p)).take (valSize v)) := by
  have hat := hm.boxes b bx hb
  unfold BoxAt at hat
  unfold navB at hn
  cases hbuf : bx.buf with
  | false =>
    rw [hbuf] at hat hn
    obtain ⟨blk', cap', cur, tid, fr, h1, h2, h3, htid, h4⟩ := hat
    rw [hl] at h1
    obtain ⟨rfl, rfl⟩ := Prod.mk.inj (Option.some.inj h1)
    obtain ⟨k1, k2⟩ := nav_rep h4 hn
    exact ⟨cur, tid, fr, h2, h3, by simpa using k1, k2⟩
  | true =>
    rw [hbuf] at hat hn
    rcases hat with ⟨l, h1, _⟩ | ⟨e, l, h1, h2, h3⟩
    · rw [h1] at hn
      cases p with
      | nil => cases hn
      | cons s p => cases s <;> cases hn
    rw [h1] at hn
    rcases h3 with ⟨h3, _⟩ | ⟨blk', cap', cur, tid, fr, h3, h4, h5, htid, h6, h7, h8, h9⟩
    · rw [hl] at h3; cases h3
    · rw [hl] at h3
      obtain ⟨rfl, rfl⟩ := Prod.mk.inj (Option.some.inj h3)
      cases p with
      | nil => cases hn
      | cons s p =>
        cases s with
        | fld k off => cases hn
        | idx i size =>
          obtain ⟨hsb, hn2⟩ := bif_some hn
          have hsz := Nat.eq_of_beq_eq_true hsb
          obtain ⟨x, hx, hn3⟩ := look_some hn2
          obtain ⟨h0, hx2⟩ := idx_some hx
          have hr := h9 _ x hx2
          have hrl := hr.length
          have hi : i.toNat < l.length := (List.getElem?_eq_some_iff.1 hx2).1
          have hm2 : (i.toNat + 1) * e.size ≤ cap * e.size := Nat.mul_le_mul_right _ (by omega)
          rw [Nat.succ_mul] at hm2
          obtain ⟨k1, k2⟩ := nav_rep (v := .data e x) (show Rep γ σ.mem w (.data e x) .cells _ from hr) hn3
          rw [hrl] at k1
          refine ⟨cur, tid, fr, h4, h5.th, ?_, ?_⟩
          · simp only [offP, hsz]; omega
          · rw [List.drop_take, List.take_take, List.drop_drop, Nat.min_eq_left (by omega)] at k2
            simp only [offP, hsz]; exact k2

/-- The value of one cell, or an aggregate, as loadVar gives it. -/
theorem run_loadVar_data {t : Ty} {tid : TypeId} (ht : Den P t tid) {blk off : Nat} {x : t.den} {cs : List Value} (hrep : RepC w γ.I t x cs) (hload : (loadCells ⟨blk, off, none⟩ cs.length).run P w = .ok cs.toArray w)
    (hcell : ∀ (j : Nat) v, cs[j]? = some v → w.cell? ⟨blk, off + j, none⟩ = some v) : (loadVar tid ⟨blk, off, none⟩).run P w = .ok (ofCells t cs) w := by
  unfold loadVar
  rw [Sem.run_bind, ht.agg w, Result.andThen_ok]
  have hl := hrep.length
  cases hag : t.isAgg with
  | true =>
    simp only [if_true, Sem.run_bind, ht.sizeOf w, Result.andThen_ok, ← hl, hload, Sem.run_pure, ofCells, hag, cond_true]
  | false =>
    have hs := scalar_size hag
    rw [hs] at hl
    obtain ⟨c, rfl⟩ := List.length_eq_one_iff.1 hl
    have := hcell 0 c rfl
    simp only [Nat.add_zero] at this
    simp [ofCells, hag, this]

theorem mixTy_size : ∀ {u : Ty} {v : Val}, mixTy u v = true → valSize v = u.size := by
  intro u
  induction u with
  | pair a b iha ihb =>
    intro v h
    cases v with
    | data t x => obtain rfl := Ty.eq_of_beq (show Ty.beq t (.pair a b) = true from h); rfl
    | mix p q =>
      obtain ⟨h1, h2⟩ := Bool.and_eq_true_iff.1 (show (mix1 a p && mixTy b q) = true from h)
      have e1 : valSize p = a.size := by
        unfold mix1 at h1
        split at h1
        · rfl
        · rename_i t u x _; obtain rfl := Ty.eq_of_beq h1; rfl
        · cases h1
      show valSize p + valSize q = a.size + b.size
      rw [e1, ihb h2]
    | _ => cases h
  | _ =>
    intro v h
    cases v with
    | data t x => obtain rfl := Ty.eq_of_beq h; rfl
    | _ => cases h

theorem mix1_size {u : Ty} {v : Val} (h1 : mix1 u v = true) : valSize v = u.size := by
  unfold mix1 at h1
  split at h1
  · rfl
  · rename_i t u x _; obtain rfl := Ty.eq_of_beq h1; rfl
  · cases h1

/-- What is read. -/
theorem load_run (hc : CxOk P cx) {ty : TypeId} {x : Operand} (h : Sim B N γ σ a w) (hr : (stepLoad cx d ty (opv σ x) σ).run = some σ') :
    ∃ u val ad, σ' = σ.putO d u ∧ a.eval x = .pointer (some ad) ∧ (loadVar ty ad).run P w = .ok val w ∧ Rep γ σ.mem w u .val [val] := by
  have hv := h.opv x
  unfold stepLoad at hr
  split at hr
  · rename_i u y hx
    rw [hx] at hv
    obtain ⟨hb, hr2⟩ := bif_some hr
    obtain rfl := Option.some.inj hr2
    have ht := hc.T _ _ (isTy_some hb)
    obtain ⟨blk, off, cs, h1, h2, h3⟩ := hv
    obtain h1 : a.eval x = _ := by simpa using h1
    have hl := run_loadVar_data (P := P) ht h2 (run_loadCells_at h3) (fun j v hj => (h3 j v hj).1)
    exact ⟨_, _, _, rfl, h1, hl, cs, h2, rfl⟩
  · rename_i b ver p hx
    rw [hx] at hv
    split at hr
    · rename_i bx hb
      obtain ⟨hver, hr2⟩ := bif_some hr
      have hver := Nat.eq_of_beq_eq_true hver
      obtain ⟨v, hn, hr3⟩ := bind_some hr2
      obtain ⟨hrt, hr4⟩ := bif_some hr3
      obtain rfl := Option.some.inj hr4
      obtain ⟨blk, cap, hl, hval⟩ := ofBox_live hb hver hv.2
      obtain hval : a.eval x = _ := by simpa using hval
      obtain ⟨cur, tid, fr, g1, g2, g3, g4⟩ := navB_rep h.ok hb hl hn
      have hld := run_loadCells_block (P := P) g1 g3
      have hgl := g4.length
      have hcells : ∀ (j : Nat) v', ((cur.toList.drop (offP p)).take (valSize v))[j]? = some v' → w.cell? ⟨blk, offP p + j, none⟩ = some v' := fun j v' hj => by
        rw [cell_of_heap g1]
        rw [List.getElem?_take] at hj
        split at hj
        · rw [List.getElem?_drop] at hj; simpa using hj
        · cases hj
      -- a value of one cell that is no plain data
      have single : ∀ (hone : (isAgg ty).run P w = .ok false w) (h1 : valSize v = 1) (hval' : ∀ c, Rep γ σ.mem w v .cells [c] → Rep γ σ.mem w v .val [c]),
          ∃ u val ad, σ.putO d v = σ.putO d u ∧ a.eval x = .pointer (some ad) ∧ (loadVar ty ad).run P w = .ok val w ∧ Rep γ σ.mem w u .val [val] := by
        intro hone h1 hval'
        rw [h1] at hgl g4 hcells
        obtain ⟨c, hcc⟩ := List.length_eq_one_iff.1 hgl
        rw [hcc] at g4 hcells
        have := hcells 0 c rfl
        simp only [Nat.add_zero] at this
        refine ⟨_, c, _, rfl, hval, ?_, hval' c g4⟩
        simp [loadVar, hone, this]
      cases v with
      | mix p' q' =>
        rw [show readTy cx ty (.mix p' q') = false from rfl, Bool.false_or] at hrt
        simp only [readMix] at hrt
        split at hrt
        · rename_i u hT
          have ht := hc.T _ _ hT
          have hms := mixTy_size hrt
          have hag : Ty.isAgg u = true := by
            cases u with
            | pair a b => rfl
            | _ => cases hrt
          refine ⟨_, .agg ((cur.toList.drop (offP p)).take (valSize (.mix p' q'))).toArray, _, rfl, hval, ?_, ?_⟩
          · rw [hms] at hld ⊢
            simp only [loadVar, Sem.run_bind, ht.agg w, hag, Result.andThen_ok, if_true, ht.sizeOf w, hld, Sem.run_pure]
          · obtain ⟨c1, c2, e1, e2, e3⟩ := g4
            exact ⟨c1, c2, by rw [e1], e2, e3⟩
        · cases hrt
      | data u y =>
        rw [show readMix cx ty (.data u y) = false from rfl, Bool.or_false] at hrt
        have ht := hc.T _ _ (isTy_some hrt)
        have hl2 := run_loadVar_data (P := P) ht g4 (by rw [hgl]; exact hld) hcells
        exact ⟨_, _, _, rfl, hval, hl2, _, g4, rfl⟩
      | whole b' ver' =>
        rw [show readMix cx ty (.whole b' ver') = false from rfl, Bool.or_false] at hrt
        simp only [readTy] at hrt
        split at hrt
        · rename_i e hT
          exact single (by have := (hc.T _ _ hT).agg w; exact this) rfl (fun c k => k)
        · cases hrt
      | ptr b' ver' p' => exact single ((hc.ones _ (by simpa [readMix, readTy] using hrt)).1 w) rfl (fun c k => k)
      | nilp => exact single ((hc.ones _ (by simpa [readMix, readTy] using hrt)).1 w) rfl (fun c k => k)
      | fn f caps => exact single ((hc.ones _ (by simpa [readMix, readTy] using hrt)).1 w) rfl (fun c k => k)
      | _ => cases hrt
    · cases hr
  · cases hr

theorem stepLoad_sound (hc : CxOk P cx) {ty : TypeId} {x : Operand} (h : Sim B N γ σ a w) (hd : ∀ k, d = some k → k < N) (hr : (stepLoad cx d ty (opv σ x) σ).run = some σ') :
    Goes P B N γ σ a w d (Instr.loadAt ty (a.eval x)) σ' := by
  obtain ⟨u, val, ad, rfl, h1, h2, h3⟩ := load_run hc h hr
  refine goes_put h hd ?_ h3
  rw [h1]
  simp only [Instr.loadAt, Instr.sureAddr, Sem.run_bind, Sem.run_pure, Result.andThen_ok, h2]
end
end Go.Ge
namespace Go.Ge
set_option linter.unusedVariables false
set_option linter.unusedSimpArgs false
open RowKit

section
variable {P : Program} {B : Own} {N : Nat} {γ : Gh} {σ σ' : St} {a : Act} {w : World} {d : Option Nat} {cx : Ctx}

/-! ### Fields -/

theorem run_fieldAt {s : TypeId} {fs : Array Field} {k : Nat} {f : Field} {u : Ty} (hs : P.underlying s = some (.struct fs)) (hf : fs.toList[k]? = some f) (hu : Den P u f.type) (h0 : 0 < u.size) (blk off : Nat) :
    (Instr.fieldAt s (.pointer (some ⟨blk, off, none⟩)) k).run P w = .ok (.pointer (some ⟨blk, off + f.offset, none⟩)) w := by
  have hf' : fs[k]? = some f := by simpa using hf
  have hz : ¬ (u.size = 0) := by omega
  simp only [Instr.fieldAt, Sem.run_bind, run_underlying hs, Result.andThen_ok, hf', Instr.sureAddr, Sem.run_pure, fieldPlace, hu.sizeOf w, if_neg hz, addr_add]

theorem run_fieldAt' {s : TypeId} {fs : Array Field} {k : Nat} {f : Field} {i : TypeInfo} (hs : P.underlying s = some (.struct fs)) (hf : fs.toList[k]? = some f) (hi : P.info? f.type = some i) (h0 : 0 < i.size) (blk off : Nat) :
    (Instr.fieldAt s (.pointer (some ⟨blk, off, none⟩)) k).run P w = .ok (.pointer (some ⟨blk, off + f.offset, none⟩)) w := by
  have hf' : fs[k]? = some f := by simpa using hf
  have hz : ¬ (i.size = 0) := by omega
  have hsz : (Go.sizeOf f.type).run P w = .ok i.size w := by simp [Go.sizeOf, typeInfo, hi]
  simp only [Instr.fieldAt, Sem.run_bind, run_underlying hs, Result.andThen_ok, hf', Instr.sureAddr, Sem.run_pure, fieldPlace, hsz, if_neg hz, addr_add]

theorem den_struct {t : Ty} {s : TypeId} (ht : Den P t s) {k : Nat} {u : Ty} {o : Nat} (hu : fldTy t k = some u) (ho : fldOff t k = some o) :
    ∃ (fs : Array Field) (f : Field), P.underlying s = some (.struct fs) ∧ fs.toList[k]? = some f ∧ f.offset = o ∧ Den P u f.type ∧ 0 < u.size := by
  cases t with
  | pair a b =>
    obtain ⟨fs, h1, h2, _⟩ := ht.pair
    obtain ⟨f, k1, k2, k3, k4⟩ := h2.at hu ho
    exact ⟨fs, f, h1, k1, by omega, k3, k4⟩
  | _ => cases k <;> cases hu

theorem stepFieldAddr_sound (hc : CxOk P cx) {s : TypeId} {x : Operand} {k : Nat} (h : Sim B N γ σ a w) (hd : ∀ k, d = some k → k < N) (hr : (stepFieldAddr cx d s (opv σ x) k σ).run = some σ') :
    Goes P B N γ σ a w d (Instr.fieldAt s (a.eval x) k) σ' := by
  have hv := h.opv x
  unfold stepFieldAddr at hr
  split at hr
  · rename_i u y hx
    rw [hx] at hv
    obtain ⟨hb, hr2⟩ := bif_some hr
    have ht := hc.T _ _ (isTy_some hb)
    split at hr2
    · rename_i o t z hf
      obtain rfl := Option.some.inj hr2
      obtain ⟨blk, off, cs, h1, h2, h3⟩ := hv
      obtain h1 : a.eval x = _ := by simpa using h1
      obtain ⟨t', z', e1, e2, e3, e4, e5⟩ := fldAtD_rep (w := w) h2 (show fldAtD u y k = some (o, .data t z) from hf)
      cases e1
      obtain ⟨fs, f, g1, g2, g3, g4, g5⟩ := den_struct ht e2 e3
      refine goes_put h hd (by rw [h1]; exact run_fieldAt g1 g2 g4 g5 blk off) ⟨blk, off + f.offset, (cs.drop o).take t.size, rfl, e5, fun j v hj => ?_⟩
      rw [List.getElem?_take] at hj
      split at hj
      · rw [List.getElem?_drop] at hj
        have := h3 _ v hj
        rw [g3, Nat.add_assoc]; exact this
      · cases hj
    · cases hr2
  · rename_i b ver p hx
    rw [hx] at hv
    obtain ⟨hb, hr2⟩ := bif_some hr
    obtain ⟨bx, hbx, hver⟩ := live_some hb
    split at hr2
    · rename_i t hT
      split at hr2
      · rename_i off u ho hu
        obtain rfl := Option.some.inj hr2
        obtain ⟨blk, cap, hl, hval⟩ := ofBox_live hbx hver hv.2
        obtain hval : a.eval x = _ := by simpa using hval
        obtain ⟨fs, f, g1, g2, g3, g4, g5⟩ := den_struct (hc.T _ _ hT) hu ho
        refine goes_put h hd (by rw [hval]; exact run_fieldAt g1 g2 g4 g5 blk (offP p)) ⟨⟨_, rfl, rfl⟩, bx, hbx, by omega, fun _ => ⟨blk, cap, hl, ?_⟩⟩
        rw [offP_append, g3]; simp [offP]
      · cases hr2
    · split at hr2
      · rename_i fs hO
        split at hr2
        · rename_i off ho
          obtain rfl := Option.some.inj hr2
          obtain ⟨blk, cap, hl, hval⟩ := ofBox_live hbx hver hv.2
          obtain hval : a.eval x = _ := by simpa using hval
          obtain ⟨gs, f, i, g1, g2, g3, g4, g5⟩ := objB_at (hc.objs _ _ hO) ho
          refine goes_put h hd (by rw [hval]; exact run_fieldAt' g1 g2 g4 g5 blk (offP p)) ⟨⟨_, rfl, rfl⟩, bx, hbx, by omega, fun _ => ⟨blk, cap, hl, ?_⟩⟩
          rw [offP_append, g3]; simp [offP]
        · cases hr2
      · cases hr2
  · cases hr

theorem field_sound (hc : CxOk P cx) {xt : TypeId} {k o : Nat} {u : Ty} {y : u.den} {v : Val} {val : Value} (hu : find cx.T xt = some u) (hv : Rep γ σ.mem w (.data u y) .val [val]) (hf : fldAt (.data u y) k = some (o, v)) :
    ∃ z, (Instr.field xt val k).run P w = .ok z w ∧ Rep γ σ.mem w v .val [z] := by
  have ht := hc.T _ _ hu
  obtain ⟨cs, h1, rfl⟩ := repV_data.1 hv
  obtain ⟨t', z', rfl, e2, e3, e4, e5⟩ := fldAtD_rep (w := w) h1 hf
  obtain ⟨fs, f, g1, g2, g3, g4, g5⟩ := den_struct ht e2 e3
  have hagg : u.isAgg = true := by cases u <;> first | rfl | (cases k <;> cases e2)
  refine ⟨ofCells t' ((cs.drop o).take t'.size), ?_, ⟨_, e5, rfl⟩⟩
  have hf' : fs[k]? = some f := by simpa using g2
  have hp := part_of (P := P) (w := w) g4 (cs := cs.toArray) (off := f.offset) (by rw [g3]; simpa using e4) scalar_size
  simp only [ofCells, hagg, cond_true, Instr.field, Sem.run_bind, run_underlying g1, Result.andThen_ok, hf', asAgg, Sem.run_pure, hp]
  rw [g3]

/-! ### Elements -/

theorem run_indexAt_sl {t eid : TypeId} {sz : Nat} (ht : P.underlying t = some (.slice eid)) (hs : (Go.sizeOf eid).run P w = .ok sz w) (blk off len cap : Nat) (k : IntKind) {i : Int} (h0 : 0 ≤ i) (h1 : i < len) :
    (Instr.indexAt t (.slice (some ⟨blk, off, none⟩) len cap) (.int k i)).run P w = .ok (.pointer (some ⟨blk, off + i.toNat * sz, none⟩)) w := by
  simp only [Instr.indexAt, asIntOf, Sem.run_bind, Sem.run_pure, Result.andThen_ok, run_underlying ht, and_self, h0, h1, if_true, hs, addr_add]

theorem run_indexAt_arr {t eid : TypeId} {sz n : Nat} (ht : P.underlying t = some (.array n eid)) (hs : (Go.sizeOf eid).run P w = .ok sz w) (blk off : Nat) (k : IntKind) {i : Int} (h0 : 0 ≤ i) (h1 : i < n) :
    (Instr.indexAt t (.pointer (some ⟨blk, off, none⟩)) (.int k i)).run P w = .ok (.pointer (some ⟨blk, off + i.toNat * sz, none⟩)) w := by
  simp only [Instr.indexAt, asIntOf, Sem.run_bind, Sem.run_pure, Result.andThen_ok, run_underlying ht, Instr.sureAddr, and_self, h0, h1, if_true, hs, addr_add]

theorem within_some {i n : Int} (h : within i n = true) : 0 ≤ i ∧ i < n := by
  simp only [within, Bool.and_eq_true, decide_eq_true_eq] at h; exact h
theorem inside_some {i j n : Int} (h : inside i j n = true) : 0 ≤ i ∧ i ≤ j ∧ j ≤ n := by
  simp only [inside, Bool.and_eq_true, decide_eq_true_eq] at h; exact ⟨h.1.1, h.1.2, h.2⟩

theorem boxElem_some {b ver : Nat} {e : Ty} {n : Int} (h : boxElem σ b ver = some (e, n)) : ∃ (bx : Box) (k : Nat), σ.mem b = some bx ∧ bx.ver = ver ∧ bx.row = some (e, k) ∧ n = k := by
  unfold boxElem at h
  split at h
  · rename_i bx hb
    cases hver : Nat.beq bx.ver ver with
    | false => rw [hver] at h; cases h
    | true =>
      rw [hver] at h
      simp only [cond_true] at h
      split at h
      · rename_i e' l hbuf hval
        obtain ⟨rfl, rfl⟩ := Prod.mk.inj (Option.some.inj h)
        exact ⟨bx, _, hb, Nat.eq_of_beq_eq_true hver, by rw [Box.row, hbuf, hval], rfl⟩
      · rename_i n' e' l hbuf hval
        obtain ⟨rfl, rfl⟩ := Prod.mk.inj (Option.some.inj h)
        exact ⟨bx, _, hb, Nat.eq_of_beq_eq_true hver, by rw [Box.row, hbuf, hval], rfl⟩
      · cases h
  · cases h

theorem Box.row_buf {bx : Box} {e : Ty} {l : List e.den} (hb : bx.buf = true) (hv : bx.val = .data (.slice e) l) : bx.row = some (e, l.length) := by rw [Box.row, hb, hv]
theorem Box.row_arr {bx : Box} {e : Ty} {n : Nat} {l : (Ty.arr n e).den} (hb : bx.buf = false) (hv : bx.val = .data (.arr n e) l) : bx.row = some (e, n) := by rw [Box.row, hb, hv]

theorem rowEl_some (hc : CxOk P cx) {t e : Nat} (h : rowEl cx t = some e) : P.underlying t = some (.slice e) ∧ memN cx.ones e = true := by
  unfold rowEl at h
  split at h
  · cases h
  · split at h
    · rename_i u hu
      cases hm : memN cx.ones u with
      | false => rw [hm] at h; cases h
      | true =>
        rw [hm] at h
        obtain rfl := Option.some.inj h
        exact ⟨hc.els _ _ hu, hm⟩
    · cases h

theorem atRow_some {b ver : Nat} {i : Int} : ∀ {m k : Nat}, (atRow d b ver σ i m k).run = some σ' → ∃ j : Nat, k ≤ j ∧ j < k + m ∧ i = j ∧ σ' = σ.putO d (.ptr b ver [.fld j j]) := by
  intro m
  induction m with
  | zero => intro k hr; cases hr
  | succ m ih =>
    intro k hr
    have hn := node_some hr
    cases hi : eqI i k with
    | true =>
      rw [hi] at hn
      obtain rfl := Option.some.inj hn
      exact ⟨k, Nat.le_refl _, by omega, by simpa [eqI] using hi, rfl⟩
    | false =>
      rw [hi] at hn
      obtain ⟨j, h1, h2, h3, h4⟩ := ih hn
      exact ⟨j, by omega, by omega, h3, h4⟩

theorem rowPath_off {q : List Sel} (h : rowPath q = true) : offP q = 0 := by
  unfold rowPath at h
  split at h
  · simp [offP, Nat.eq_of_beq_eq_true h]
  · cases h

theorem stepIndexAddr_sound (hc : CxOk P cx) {ty : TypeId} {x : Operand} {ki : IntKind} {i : Int} (h : Sim B N γ σ a w) (hd : ∀ k, d = some k → k < N) (hr : (stepIndexAddr cx d ty (opv σ x) i σ).run = some σ') :
    Goes P B N γ σ a w d (Instr.indexAt ty (a.eval x) (.int ki i)) σ' := by
  have hv := h.opv x
  unfold stepIndexAddr at hr
  split at hr
  · rename_i u e l hT hx
    rw [hx] at hv
    obtain ⟨hb, hr2⟩ := bif_some hr
    obtain rfl := Ty.eq_of_beq hb
    obtain ⟨y, hy, hr3⟩ := look_some hr2
    obtain rfl := Option.some.inj hr3
    obtain ⟨h0, hy2⟩ := idx_some hy
    obtain ⟨eid, k1, k2, k3, k4⟩ := (hc.T _ _ hT).slice
    obtain ⟨cs, h1, hval⟩ := repV_data.1 hv
    have hi : i.toNat < List.length (α := u.den) l := (List.getElem?_eq_some_iff.1 hy2).1
    rcases h1 with ⟨_, h1⟩ | ⟨blk, off, cap, h1, h2, h3, h4⟩
    · exfalso
      have : List.length (α := u.den) l = 0 := by rw [show l = ([] : List u.den) from h1]; rfl
      omega
    · rw [h1] at hval
      have hval' : a.eval x = .slice (some ⟨blk, off, none⟩) (List.length (α := u.den) l) cap := hval
      obtain ⟨es, g1, g2, g3⟩ := h4 _ y hy2
      refine goes_put h hd (by rw [hval']; exact run_indexAt_sl k1 (k2.sizeOf w) blk off _ cap ki h0 (by omega)) ⟨blk, off + i.toNat * u.size, es, rfl, g3, fun j v hj => ?_⟩
      exact g2 j v hj
  · rename_i m u n e l hT hx
    rw [hx] at hv
    obtain ⟨hb, hr2⟩ := bif_some hr
    simp only [Bool.and_eq_true] at hb
    obtain rfl := Ty.eq_of_beq hb.1
    obtain rfl := Nat.eq_of_beq_eq_true hb.2
    obtain ⟨y, hy, hr3⟩ := look_some hr2
    obtain rfl := Option.some.inj hr3
    obtain ⟨h0, hy2⟩ := idx_some hy
    obtain ⟨eid, k1, k2, k3⟩ := (hc.T _ _ hT).arr
    obtain ⟨blk, off, cs, h1, h2, h3⟩ := hv
    obtain h1 : a.eval x = _ := by simpa using h1
    have hi : i.toNat < m := by have := (List.getElem?_eq_some_iff.1 hy2).1; have := h2.1; omega
    have hr4 := h2.2.2 _ y hy2
    refine goes_put h hd (by rw [h1]; exact run_indexAt_arr k1 (k2.sizeOf w) blk off ki h0 (by omega)) ⟨blk, off + i.toNat * u.size, _, rfl, hr4, fun j v hj => ?_⟩
    rw [List.getElem?_take] at hj
    split at hj
    · rw [List.getElem?_drop] at hj
      have := h3 _ v hj
      rw [Nat.add_assoc]; exact this
    · cases hj
  · rename_i u b ver hT hx
    rw [hx] at hv
    split at hr
    · rename_i e n he
      obtain ⟨hb, hr2⟩ := bif_some hr
      obtain rfl := Ty.eq_of_beq hb
      obtain ⟨hw, hr3⟩ := need_some hr2
      obtain rfl := Option.some.inj hr3
      obtain ⟨h0, h1⟩ := within_some hw
      obtain ⟨bx, k, hbx, hver, hrow, rfl⟩ := boxElem_some he
      obtain ⟨eid, k1, k2, k3, k4⟩ := (hc.T _ _ hT).slice
      obtain ⟨e', n', g1, g2, g3⟩ := ofBox_live hbx hver hv.2
      rw [hrow] at g2
      obtain ⟨rfl, rfl⟩ := Prod.mk.inj (Option.some.inj g2)
      rcases g3 with ⟨g3, g4⟩ | ⟨blk, cap, g3, g4⟩
      · exfalso
        have hat := h.ok.boxes b bx hbx
        obtain ⟨e2, l, j1, j2, j3⟩ := hat.lst g1 (fun _ q => by rw [Box.row, g1, q] at hrow; cases hrow)
        rcases j3 with ⟨_, j4⟩ | ⟨_, _, _, _, _, j3, _⟩
        · rw [Box.row_buf g1 j1, j4] at hrow
          have : 0 = k := by
            have := (Prod.mk.inj (Option.some.inj hrow)).2
            simpa using this
          omega
        · rw [g3] at j3; cases j3
      · obtain g4 : a.eval x = _ := by simpa using g4
        refine goes_put h hd (by rw [g4]; exact run_indexAt_sl k1 (k2.sizeOf w) blk 0 _ cap ki h0 h1) ⟨⟨_, rfl, rfl⟩, bx, hbx, by omega, fun _ => ⟨blk, cap, g3, by simp [offP]⟩⟩
    · cases hr
  · rename_i u b ver lo n hT hx
    rw [hx] at hv
    split at hr
    · rename_i e n2 he
      obtain ⟨hb, hr2⟩ := bif_some hr
      obtain rfl := Ty.eq_of_beq hb
      obtain ⟨hw, hr3⟩ := need_some hr2
      obtain rfl := Option.some.inj hr3
      obtain ⟨h0, h1⟩ := within_some hw
      obtain ⟨bx, k, hbx, hver, hrow, rfl⟩ := boxElem_some he
      obtain ⟨eid, k1, k2, k3, k4⟩ := (hc.T _ _ hT).slice
      obtain ⟨e', n', g2, g3, g4, g5, base, cap, g6, g7, g8, gF, g9⟩ := ofBox_live hbx hver hv.2
      rw [hrow] at g2
      obtain ⟨rfl, rfl⟩ := Prod.mk.inj (Option.some.inj g2)
      rcases g9 with g9 | ⟨blk, c, g9, g10⟩
      · omega
      · obtain g6 : a.eval x = _ := by simpa using g6
        refine goes_put h hd (by rw [g6, g10]; exact run_indexAt_sl k1 (k2.sizeOf w) blk _ _ cap ki h0 (by omega)) ⟨⟨_, rfl, rfl⟩, bx, hbx, by omega, fun _ => ⟨blk, c, g9, ?_⟩⟩
        have : (plus lo i).toNat = lo.toNat + i.toNat := by simp only [plus]; omega
        simp only [offP, this, Nat.add_mul, Nat.add_zero]
    · cases hr
  · rename_i m u b ver p hT hx
    rw [hx] at hv
    obtain ⟨hb, hr2⟩ := bif_some hr
    obtain ⟨bx, hbx, hver⟩ := live_some hb
    obtain ⟨hw, hr3⟩ := need_some hr2
    obtain rfl := Option.some.inj hr3
    obtain ⟨h0, h1⟩ := within_some hw
    obtain ⟨eid, k1, k2, k3⟩ := (hc.T _ _ hT).arr
    obtain ⟨blk, cap, hl, hval⟩ := ofBox_live hbx hver hv.2
    obtain hval : a.eval x = _ := by simpa using hval
    refine goes_put h hd (by rw [hval]; exact run_indexAt_arr k1 (k2.sizeOf w) blk _ ki h0 h1) ⟨⟨_, rfl, rfl⟩, bx, hbx, by omega, fun _ => ⟨blk, cap, hl, ?_⟩⟩
    rw [offP_append]; simp [offP]
  · rename_i b ver q e0 k0 lo n hT hx
    rw [hx] at hv
    split at hr
    · rename_i e he
      obtain ⟨hb, hr2⟩ := bif_some hr
      simp only [Bool.and_eq_true, decide_eq_true_eq] at hb
      obtain ⟨⟨hq, rfl⟩, hl⟩ := hb
      obtain ⟨bx, hbx, hver⟩ := live_some hl
      obtain ⟨k1, k2⟩ := rowEl_some hc he
      obtain ⟨j, _, hj, rfl, rfl⟩ := atRow_some hr2
      obtain ⟨_, blk, c, g1, g2, g3, g4, base, cap, g5, g6, g7⟩ := ofBox_live hbx hver hv.2
      obtain g5 : a.eval x = _ := by simpa using g5
      rcases g7 with g7 | g7
      · subst g7; simp at hj
      · rw [rowPath_off hq] at g7
        have hj' : ((j : Nat) : Int) < (n.toNat : Int) := by omega
        refine goes_put h hd (by rw [g5, g7]; exact run_indexAt_sl k1 ((hc.ones _ k2).2.1 w) blk _ _ cap ki (by omega) hj') ⟨⟨_, rfl, rfl⟩, bx, hbx, by omega, fun _ => ⟨blk, c, g1, ?_⟩⟩
        simp [offP]
    · cases hr
  · cases hr

theorem stepRowAt_sound (hc : CxOk P cx) {ty : TypeId} {x : Operand} {ki : IntKind} {i : Int} (h : Sim B N γ σ a w) (hd : ∀ k, d = some k → k < N) (hr : (stepRowAt cx d ty (opv σ x) i σ).run = some σ') :
    Goes P B N γ σ a w d (Instr.indexAt ty (a.eval x) (.int ki i)) σ' := by
  have hv := h.opv x
  unfold stepRowAt at hr
  split at hr
  · rename_i b ver q e0 k0 lo n e hx he
    rw [hx] at hv
    obtain ⟨hb, hr2⟩ := bif_some hr
    simp only [Bool.and_eq_true, decide_eq_true_eq] at hb
    obtain ⟨⟨hq, rfl⟩, hl⟩ := hb
    obtain ⟨bx, hbx, hver⟩ := live_some hl
    obtain ⟨k1, k2⟩ := rowEl_some hc he
    split at hr2
    · rename_i j
      obtain ⟨hj, hr3⟩ := bif_some hr2
      obtain rfl := Option.some.inj hr3
      have hj := of_decide_eq_true hj
      obtain ⟨_, blk, c, g1, g2, g3, g4, base, cap, g5, g6, g7⟩ := ofBox_live hbx hver hv.2
      obtain g5 : a.eval x = _ := by simpa using g5
      rcases g7 with g7 | g7
      · subst g7; omega
      · rw [rowPath_off hq] at g7
        have hj' : ((j : Nat) : Int) < (n.toNat : Int) := by omega
        show Goes P B N γ σ a w d (Instr.indexAt ty (a.eval x) (.int ki (j : Int))) _
        refine goes_put h hd (by rw [g5, g7]; exact run_indexAt_sl k1 ((hc.ones _ k2).2.1 w) blk _ _ cap ki (by omega) hj') ⟨⟨_, rfl, rfl⟩, bx, hbx, by omega, fun _ => ⟨blk, c, g1, ?_⟩⟩
        simp [offP]
    · cases hr2
  · exact stepIndexAddr_sound hc h hd hr

theorem u8_in (b : UInt8) : IntKind.u8.min ≤ u8 b ∧ u8 b ≤ IntKind.u8.max := by
  have := b.toNat_lt
  have h1 : IntKind.u8.min = 0 := by decide
  have h2 : IntKind.u8.max = 255 := by decide
  simp only [u8, h1, h2]; omega

theorem stepIndex_sound (hc : CxOk P cx) {ty : TypeId} {x : Operand} {ki : IntKind} {i : Int} (h : Sim B N γ σ a w) (hd : ∀ k, d = some k → k < N) (hr : (stepIndex cx d ty (opv σ x) i σ).run = some σ') :
    Goes P B N γ σ a w d (Instr.index ty (a.eval x) (.int ki i)) σ' := by
  have hv := h.opv x
  unfold stepIndex at hr
  split at hr
  · rename_i s hT hx
    rw [hx] at hv
    obtain ⟨b, hy, hr3⟩ := look_some hr
    obtain rfl := Option.some.inj hr3
    obtain ⟨h0, hy2⟩ := idx_some hy
    obtain ⟨hval, hl⟩ := repStr hv
    refine goes_put h hd (x := .int .u8 (u8 b)) ?_ (mkInt (u8_in b))
    rw [hval]
    have hu := (hc.T _ _ hT).str
    have hg : (⟨List.toArray (show List UInt8 from s)⟩ : ByteArray)[i.toNat]? = some b := by
      have := (List.getElem?_eq_some_iff.1 hy2)
      obtain ⟨q1, q2⟩ := this
      have hsz : i.toNat < (⟨List.toArray (show List UInt8 from s)⟩ : ByteArray).size := q1
      rw [getElem?_pos (⟨List.toArray (show List UInt8 from s)⟩ : ByteArray) i.toNat hsz]
      exact congrArg some q2
    simp only [Instr.index, asIntOf, Sem.run_bind, Sem.run_pure, Result.andThen_ok, run_underlying hu, h0, if_true, hg]
    rfl
  · rename_i m u n e l hT hx
    rw [hx] at hv
    obtain ⟨hb, hr2⟩ := bif_some hr
    simp only [Bool.and_eq_true] at hb
    obtain rfl := Ty.eq_of_beq hb.1
    obtain rfl := Nat.eq_of_beq_eq_true hb.2
    obtain ⟨y, hy, hr3⟩ := look_some hr2
    obtain rfl := Option.some.inj hr3
    obtain ⟨h0, hy2⟩ := idx_some hy
    obtain ⟨eid, k1, k2, k3⟩ := (hc.T _ _ hT).arr
    obtain ⟨cs, h2, hval⟩ := repV_data.1 hv
    have hi : i.toNat < m := by have := (List.getElem?_eq_some_iff.1 hy2).1; have := h2.1; omega
    have hr4 := h2.2.2 _ y hy2
    have hm : (i.toNat + 1) * u.size ≤ m * u.size := Nat.mul_le_mul_right _ hi
    rw [Nat.succ_mul] at hm
    have hcl := h2.2.1
    have hp := part_of (P := P) (w := w) k2 (cs := cs.toArray) (off := i.toNat * u.size) (by simp; omega) scalar_size
    refine goes_put h hd (x := ofCells u ((cs.drop (i.toNat * u.size)).take u.size)) ?_ ⟨_, hr4, rfl⟩
    have hi' : i < (m : Int) := by omega
    rw [hval]
    show (Instr.index ty (.agg cs.toArray) (.int ki i)).run P w = _
    simp only [Instr.index, asIntOf, Sem.run_bind, Sem.run_pure, Result.andThen_ok, run_underlying k1, h0, hi', and_self, if_true, k2.sizeOf w, hp]
  · cases hr
/-! ### Parts -/

theorem sb0 (isSlice : Bool) (len cap : Nat) : (Instr.sliceBounds isSlice len cap none none none).run P w = .ok (0, len, cap) w := by simp [Instr.sliceBounds]
theorem sbh (isSlice : Bool) (len cap : Nat) (k : IntKind) {y : Int} (h0 : 0 ≤ y) (h1 : y ≤ cap) : (Instr.sliceBounds isSlice len cap none (some (.int k y)) none).run P w = .ok (0, y.toNat, cap) w := by
  have c1 : (0 : Int) ≤ y ∧ y ≤ (cap : Int) := ⟨h0, h1⟩
  simp only [Instr.sliceBounds, Instr.sliceBound, asIntOf, Sem.run_bind, Sem.run_pure, Result.andThen_ok, c1, and_self, if_true]
theorem sbl (isSlice : Bool) (len cap : Nat) (k : IntKind) {y : Int} (h0 : 0 ≤ y) (h1 : y ≤ len) : (Instr.sliceBounds isSlice len cap (some (.int k y)) none none).run P w = .ok (y.toNat, len, cap) w := by
  have c1 : (0 : Int) ≤ y ∧ y ≤ (len : Int) := ⟨h0, h1⟩
  simp only [Instr.sliceBounds, Instr.sliceBound, asIntOf, Sem.run_bind, Sem.run_pure, Result.andThen_ok, c1, and_self, if_true]
theorem sblh (isSlice : Bool) (len cap : Nat) (k k2 : IntKind) {y y2 : Int} (h0 : 0 ≤ y) (h1 : y ≤ y2) (h2 : y2 ≤ cap) : (Instr.sliceBounds isSlice len cap (some (.int k y)) (some (.int k2 y2)) none).run P w = .ok (y.toNat, y2.toNat, cap) w := by
  have c1 : (0 : Int) ≤ y2 ∧ y2 ≤ (cap : Int) := ⟨by omega, h2⟩
  have c2 : (0 : Int) ≤ y ∧ y ≤ ((y2.toNat : Nat) : Int) := ⟨h0, by omega⟩
  simp only [Instr.sliceBounds, Instr.sliceBound, asIntOf, Sem.run_bind, Sem.run_pure, Result.andThen_ok, c1, and_self, if_true]
  simp only [c2, and_self, if_true, Sem.run_pure, Result.andThen_ok]

theorem bounds_run {lo hi : Option Operand} {n : Int} {i j : Int} (h : Sim B N γ σ a w) (hb : bounds σ n lo hi = some (i, j)) (isSlice : Bool) (len cap : Nat) (hn : n = len) (hlc : len ≤ cap) (h0 : 0 ≤ i) (h1 : i ≤ j) (h2 : j ≤ n) :
    (Instr.sliceBounds isSlice len cap (lo.map a.eval) (hi.map a.eval) none).run P w = .ok (i.toNat, j.toNat, cap) w := by
  have intv : ∀ (o : Operand) k (m : Int), opv σ o = .data (.int k) m → a.eval o = .int k m := fun o k m e => by
    have := h.opv o
    rw [e] at this
    exact (repInt this).1
  unfold bounds at hb
  cases lo with
  | none =>
    cases hi with
    | none =>
      obtain ⟨rfl, rfl⟩ := Prod.mk.inj (Option.some.inj hb)
      have := sb0 (P := P) (w := w) isSlice len cap
      rw [hn]; simpa using this
    | some o =>
      simp only at hb
      split at hb
      · rename_i k y hy
        obtain ⟨rfl, e2⟩ := Prod.mk.inj (Option.some.inj hb)
        have e := intv o k _ hy
        rw [show y = j from e2] at e
        simp only [Option.map_some, Option.map_none, e]
        exact sbh isSlice len cap k h1 (by omega)
      · cases hb
  | some o =>
    cases hi with
    | none =>
      simp only at hb
      split at hb
      · rename_i k y hy
        obtain ⟨e2, rfl⟩ := Prod.mk.inj (Option.some.inj hb)
        have e := intv o k _ hy
        rw [show y = i from e2] at e
        simp only [Option.map_some, Option.map_none, e]
        have := sbl (P := P) (w := w) isSlice len cap k h0 (by omega)
        rw [hn]; simpa using this
      · cases hb
    | some o2 =>
      simp only at hb
      split at hb
      · rename_i k y k2 y2 hy hy2
        obtain ⟨e3, e4⟩ := Prod.mk.inj (Option.some.inj hb)
        have e := intv o k _ hy
        have e2 := intv o2 k2 _ hy2
        rw [show y = i from e3] at e
        rw [show y2 = j from e4] at e2
        simp only [Option.map_some, e, e2]
        exact sblh isSlice len cap k k2 h0 h1 (by omega)
      · cases hb

theorem text_sub (s : List UInt8) {i j : Int} (h0 : 0 ≤ i) (h1 : i ≤ j) : (⟨s.toArray⟩ : ByteArray).extract i.toNat j.toNat = ⟨(sub s i (minus j i)).toArray⟩ := by
  have : (minus j i).toNat = j.toNat - i.toNat := by simp only [minus]; omega
  apply ByteArray.ext
  rw [ByteArray.data_extract]
  apply Array.ext'
  simp [sub, this, List.extract_eq_take_drop]

theorem len_sub_le {α : Type} (s : List α) (i n : Int) : (sub s i n).length ≤ s.length := by
  simp only [sub, List.length_take, List.length_drop]; omega

theorem repC_sub {I : Nat → Nat → Prop} {e : Ty} {l : List e.den} {blk off cap i j : Nat} (h4 : ∀ (k : Nat) (x : e.den), l[k]? = some x → ∃ es : List Value, es.length = e.size ∧
          (∀ (q : Nat) v, es[q]? = some v → w.cell? ⟨blk, off + k * e.size + q, none⟩ = some v ∧ I blk (off + k * e.size + q)) ∧ RepC w I e x es) (h1 : i ≤ j) (h2 : j ≤ l.length) (h3 : l.length ≤ cap) (h5 : cap ≤ maxLen) (base : Option Addr)
    (hb : base = some ⟨blk, off + i * e.size, none⟩ ∨ (i = cap ∧ base = some ⟨blk, off, none⟩)) :
    RepC w I (.slice e) ((l.drop i).take (j - i)) [.slice base (j - i) (cap - i)] := by
  have hlen : ((l.drop i).take (j - i)).length = j - i := by simp; omega
  rcases hb with rfl | ⟨rfl, rfl⟩
  · refine .inr ⟨blk, off + i * e.size, cap - i, ?_, ?_, by omega, fun k x hk => ?_⟩
    · show [Value.slice _ (j - i) _] = [Value.slice _ (List.length (α := e.den) ((l.drop i).take (j - i))) _]
      rw [hlen]
    · show List.length (α := e.den) ((l.drop i).take (j - i)) ≤ _
      rw [hlen]; omega
    · have hk' : ((l.drop i).take (j - i))[k]? = some x := hk
      rw [List.getElem?_take] at hk'
      split at hk'
      · rw [List.getElem?_drop] at hk'
        obtain ⟨es, g1, g2, g3⟩ := h4 _ x hk'
        refine ⟨es, g1, fun q v hq => ?_, g3⟩
        have := g2 q v hq
        rw [Nat.add_mul, ← Nat.add_assoc] at this
        exact this
      · cases hk'
  · have hji : j = i := by omega
    subst hji
    refine .inr ⟨blk, off, 0, by simp, by simp, by omega, fun k x hk => ?_⟩
    have hk' : ((l.drop j).take (j - j))[k]? = some x := hk
    simp at hk'

theorem sub_eq {α : Type} (l : List α) {i j : Int} (h0 : 0 ≤ i) (h1 : i ≤ j) : sub l i (minus j i) = (l.drop i.toNat).take (j.toNat - i.toNat) := by
  have : (minus j i).toNat = j.toNat - i.toNat := by simp only [minus]; omega
  rw [sub, this]

theorem sub_zero {α : Type} (l : List α) : sub l 0 (minus 0 0) = [] := by simp [sub, minus]

theorem repC_sub' {I : Nat → Nat → Prop} {e : Ty} {l : List e.den} {blk off cap : Nat} {i j : Int} (h4 : ∀ (k : Nat) (x : e.den), l[k]? = some x → ∃ es : List Value, es.length = e.size ∧
          (∀ (q : Nat) v, es[q]? = some v → w.cell? ⟨blk, off + k * e.size + q, none⟩ = some v ∧ I blk (off + k * e.size + q)) ∧ RepC w I e x es) (h0 : 0 ≤ i) (h1 : i ≤ j) (h2 : j ≤ l.length) (h3 : l.length ≤ cap) (h5 : cap ≤ maxLen) (base : Option Addr)
    (hb : base = some ⟨blk, off + i.toNat * e.size, none⟩ ∨ (i.toNat = cap ∧ base = some ⟨blk, off, none⟩)) :
    RepC w I (.slice e) (sub l i (minus j i)) [.slice base (j.toNat - i.toNat) (cap - i.toNat)] := by
  rw [sub_eq l h0 h1]
  exact repC_sub (w := w) h4 (by omega) (by omega) h3 h5 base hb

theorem FormBase.sub {base : Option Addr} {cap : Nat} (h : FormBase base cap) (i s : Nat) : FormBase (if cap = i then base else base.map (·.add s)) (cap - i) := by
  rcases h with rfl | ⟨blk, off, rfl⟩
  · exact .inl (by omega)
  · refine .inr ?_
    split
    · exact ⟨blk, off, rfl⟩
    · exact ⟨blk, off + s, by rw [Option.map_some, addr_add]⟩

theorem ZeroP.sub {bx : Box} {b : Nat} {lo i : Int} {base : Option Addr} {cap : Nat} (h : ZeroP γ bx b lo base cap) (hlo : 0 ≤ lo) (h0 : 0 ≤ i) (s : Nat) :
    ZeroP γ bx b (plus lo i) (if cap = i.toNat then base else base.map (·.add (i.toNat * s))) (cap - i.toNat) := by
  intro e hb
  have e1 : lo = 0 := by simp only [plus] at e; omega
  have e2 : i = 0 := by simp only [plus] at e; omega
  subst e1; subst e2
  rcases h rfl hb with ⟨a1, rfl, rfl⟩ | ⟨blk, a1, rfl⟩
  · exact .inl ⟨a1, by simp, rfl⟩
  · refine .inr ⟨blk, by simpa using a1, ?_⟩
    split
    · rfl
    · simp [Addr.add]

theorem stepSlice_sound (hc : CxOk P cx) {ty : TypeId} {x : Operand} {lo hi : Option Operand} (h : Sim B N γ σ a w) (hd : ∀ k, d = some k → k < N) (hr : (stepSlice cx d ty (opv σ x) lo hi σ).run = some σ') :
    Goes P B N γ σ a w d (Instr.sliceAt ty (a.eval x) (lo.map a.eval) (hi.map a.eval) none) σ' := by
  have hv := h.opv x
  unfold stepSlice at hr
  split at hr
  · -- a text
    rename_i s hT hx
    rw [hx] at hv
    split at hr
    · rename_i i j hb
      obtain ⟨hin, hr2⟩ := need_some hr
      obtain rfl := Option.some.inj hr2
      obtain ⟨h0, h1, h2⟩ := inside_some hin
      obtain ⟨hval, hl⟩ := repStr hv
      have hu := (hc.T _ _ hT).str
      have hbr := bounds_run (P := P) h hb false (List.length (α := UInt8) s) (List.length (α := UInt8) s) rfl (Nat.le_refl _) h0 h1 h2
      refine goes_put h hd (x := .string ⟨(sub (α := UInt8) s i (minus j i)).toArray⟩) ?_ (mkStr (Nat.le_trans (len_sub_le (α := UInt8) s _ _) hl))
      rw [hval]
      have hsz : (⟨List.toArray (α := UInt8) s⟩ : ByteArray).size = List.length (α := UInt8) s := rfl
      simp only [Instr.sliceAt, Instr.slice, Sem.run_bind, run_underlying hu, Result.andThen_ok, hsz, Option.isSome_none, Bool.false_eq_true, if_false]
      rw [hbr]
      simp only [Result.andThen_ok, Sem.run_pure]
      rw [text_sub (show List UInt8 from s) h0 h1]
    · cases hr
  · -- data
    rename_i u e l hT hx
    rw [hx] at hv
    obtain ⟨hbq, hr1⟩ := bif_some hr
    obtain rfl := Ty.eq_of_beq hbq
    split at hr1
    · rename_i i j hb
      obtain ⟨hin, hr2⟩ := need_some hr1
      obtain rfl := Option.some.inj hr2
      obtain ⟨h0, h1, h2⟩ := inside_some hin
      obtain ⟨eid, k1, k2, k3, k4⟩ := (hc.T _ _ hT).slice
      obtain ⟨cs, hrep, hval⟩ := repV_data.1 hv
      have hln : len (α := u.den) l = (List.length (α := u.den) l : Int) := rfl
      rcases hrep with ⟨⟨base0, e1⟩, e2⟩ | ⟨blk, off, cap, e1, e2, e3, e4⟩
      · have hval' : a.eval x = .slice base0 0 0 := by rw [hval, e1]; rfl
        have hl0 : List.length (α := u.den) l = 0 := by rw [show l = ([] : List u.den) from e2]; rfl
        rw [hln, hl0] at h2
        have hi0 : i = 0 := by omega
        have hj0 : j = 0 := by omega
        subst hi0; subst hj0
        have hbr := bounds_run (P := P) h hb true 0 0 (by rw [hln, hl0]) (Nat.le_refl _) h0 h1 (by rw [hln, hl0]; exact h2)
        refine goes_put h hd (x := .slice base0 0 0) ?_ ⟨_, .inl ⟨⟨base0, rfl⟩, ?_⟩, rfl⟩
        · rw [hval']
          simp only [Instr.sliceAt, Instr.slice, Sem.run_bind, run_underlying k1, Result.andThen_ok, hbr, k2.sizeOf w, Sem.run_pure]
          rfl
        · exact sub_zero (α := u.den) l
      · have hval' : a.eval x = .slice (some ⟨blk, off, none⟩) (List.length (α := u.den) l) cap := by rw [hval, e1]; rfl
        have hbr := bounds_run (P := P) h hb true (List.length (α := u.den) l) cap hln e2 h0 h1 h2
        have hj : j.toNat ≤ List.length (α := u.den) l := by rw [hln] at h2; omega
        have hmain := repC_sub' (w := w) (i := i) (j := j) e4 h0 h1 (by rw [hln] at h2; exact h2) e2 e3
        refine goes_put h hd (x := .slice (if cap = i.toNat then some ⟨blk, off, none⟩ else some ⟨blk, off + i.toNat * u.size, none⟩) (j.toNat - i.toNat) (cap - i.toNat)) ?_
          ⟨_, hmain (if cap = i.toNat then some ⟨blk, off, none⟩ else some ⟨blk, off + i.toNat * u.size, none⟩) (by
            split
            · rename_i hcap; exact .inr ⟨hcap.symm, rfl⟩
            · exact .inl rfl), rfl⟩
        rw [hval']
        simp only [Instr.sliceAt, Instr.slice, Sem.run_bind, run_underlying k1, Result.andThen_ok, hbr, k2.sizeOf w, Sem.run_pure, Option.map_some, addr_add]
    · cases hr1
  · -- a part of a box
    rename_i u c ver lo' n hT hx
    rw [hx] at hv
    split at hr
    · rename_i bx hbx
      obtain ⟨hbq, hr1⟩ := bif_some hr
      simp only [Bool.and_eq_true] at hbq
      have hver := Nat.eq_of_beq_eq_true hbq.1
      split at hr1
      · rename_i i j hb
        obtain ⟨hin, hr2⟩ := need_some hr1
        obtain rfl := Option.some.inj hr2
        obtain ⟨h0, h1, h2⟩ := inside_some hin
        obtain ⟨eid, k1, k2, k3, k4⟩ := (hc.T _ _ hT).slice
        obtain ⟨e', k, g2, g3, g4, g5, base, cap, g6, g7, g8, gF, g9⟩ := ofBox_live hbx hver hv.2
        have hue : u = e' := by
          have := hbq.2
          rw [g2] at this
          exact Ty.eq_of_beq this
        subst hue
        obtain g6 : a.eval x = _ := by simpa using g6
        have hbr := bounds_run (P := P) h hb true n.toNat cap (by omega) g7 h0 h1 h2
        refine goes_put h hd (x := .slice (if cap = i.toNat then base else base.map (·.add (i.toNat * u.size))) (j.toNat - i.toNat) (cap - i.toNat)) ?_
          ⟨⟨_, rfl, rfl⟩, bx, hbx, by omega, fun _ => ⟨u, k, g2, by simp only [plus]; omega, by simp only [minus]; omega, by simp only [plus, minus]; omega, (if cap = i.toNat then base else base.map (·.add (i.toNat * u.size))), cap - i.toNat, ?_, ?_, ?_, ⟨gF.1.sub _ _, gF.2.sub g3 h0 _⟩, ?_⟩⟩
        · rw [g6]
          simp only [Instr.sliceAt, Instr.slice, Sem.run_bind, run_underlying k1, Result.andThen_ok, hbr, k2.sizeOf w, Sem.run_pure]
        · have : (minus j i).toNat = j.toNat - i.toNat := by simp only [minus]; omega
          rw [this]
        · simp only [minus]; omega
        · omega
        · rcases g9 with g9 | ⟨blk, c', g9, g10⟩
          · exact .inl (by simp only [minus]; omega)
          · by_cases hcap : cap = i.toNat
            · exact .inl (by simp only [minus]; omega)
            · refine .inr ⟨blk, c', g9, ?_⟩
              rw [if_neg hcap, g10]
              have : (plus lo' i).toNat = lo'.toNat + i.toNat := by simp only [plus]; omega
              simp only [Option.map_some, addr_add, this, Nat.add_mul]
      · cases hr1
    · cases hr
  · -- a whole buffer
    rename_i u c ver hT hx
    rw [hx] at hv
    split at hr
    · rename_i bx hbx
      obtain ⟨hbq, hr1⟩ := bif_some hr
      simp only [Bool.and_eq_true] at hbq
      have hver := Nat.eq_of_beq_eq_true hbq.1
      split at hr1
      · rename_i e l hbv
        obtain ⟨hue, hr2⟩ := bif_some hr1
        obtain rfl := Ty.eq_of_beq hue
        obtain ⟨eid, k1, k2, k3, k4⟩ := (hc.T _ _ hT).slice
        obtain ⟨e', n', g1, g2, g3⟩ := ofBox_live hbx hver hv.2
        have hrow : bx.row = some (u, List.length (α := u.den) l) := Box.row_buf hbq.2 hbv
        rw [hrow] at g2
        obtain ⟨rfl, rfl⟩ := Prod.mk.inj (Option.some.inj g2)
        have hat := h.ok.boxes c bx hbx
        obtain ⟨e2, l2, j1, j2, j3⟩ := hat.lst g1 (fun _ q => by rw [hbv] at q; cases q)
        have hval2 : ∃ base cap, a.eval x = .slice base (List.length (α := u.den) l) cap ∧ List.length (α := u.den) l ≤ cap ∧ cap ≤ maxLen ∧ (((cap = 0 ∧ List.length (α := u.den) l = 0) ∧ γ.loc c = none ∧ base = none) ∨ ∃ blk, γ.loc c = some (blk, cap) ∧ base = some ⟨blk, 0, none⟩) := by
          rw [hbv] at j1
          cases j1
          rcases g3 with ⟨g3, g4⟩ | ⟨blk, cap, g3, g4⟩
          · obtain g4 : a.eval x = _ := by simpa using g4
            rcases j3 with ⟨_, j4⟩ | ⟨_, _, _, _, _, j3, _⟩
            · have hl0 : List.length (α := u.den) l = 0 := by rw [j4]; rfl
              exact ⟨none, 0, by rw [g4, hl0], by omega, Nat.zero_le _, .inl ⟨⟨rfl, hl0⟩, g3, rfl⟩⟩
            · rw [g3] at j3; cases j3
          · obtain g4 : a.eval x = _ := by simpa using g4
            rcases j3 with ⟨j3, _⟩ | ⟨blk', cap', cur, tid, fr, q1, q2, q3, htid, q4, q5, q6, q7⟩
            · rw [g3] at j3; cases j3
            · rw [g3] at q1
              obtain ⟨rfl, rfl⟩ := Prod.mk.inj (Option.some.inj q1)
              exact ⟨_, cap, g4, q4, q5, .inr ⟨blk, g3, rfl⟩⟩
        obtain ⟨base, cap, m1, m2, m3, m4⟩ := hval2
        have hF : FormBase base cap := by
          rcases m4 with ⟨⟨q2, _⟩, _⟩ | ⟨blk, q1, q2⟩
          · exact .inl q2
          · exact .inr ⟨blk, 0, q2⟩
        have hZ : ZeroP γ bx c 0 base cap := fun _ _ => by
          rcases m4 with ⟨⟨q2, _⟩, q3, q4⟩ | ⟨blk, q1, q2⟩
          · exact .inl ⟨q3, q4, q2⟩
          · exact .inr ⟨blk, q1, q2⟩
        have general : ∀ {i j : Int}, bounds σ (len (α := u.den) l) lo hi = some (i, j) → 0 ≤ i → i ≤ j → j ≤ len (α := u.den) l →
            (Instr.sliceAt ty (a.eval x) (lo.map a.eval) (hi.map a.eval) none).run P w = .ok (.slice (if cap = i.toNat then base else base.map (·.add (i.toNat * u.size))) (j.toNat - i.toNat) (cap - i.toNat)) w := by
          intro i j hb h0 h1 h2
          have hbr := bounds_run (P := P) h hb true (List.length (α := u.den) l) cap rfl m2 h0 h1 h2
          rw [m1]
          simp only [Instr.sliceAt, Instr.slice, Sem.run_bind, run_underlying k1, Result.andThen_ok, hbr, k2.sizeOf w, Sem.run_pure]
        split at hr2
        · obtain rfl := Option.some.inj hr2
          have := general (i := 0) (j := len (α := u.den) l) rfl (by omega) (by simp only [len]; omega) (by omega)
          have hjl : (len (α := u.den) l).toNat = List.length (α := u.den) l := by simp [len]
          rw [hjl] at this
          refine goes_put h hd (x := a.eval x) ?_ hv
          rw [this, m1]
          congr 1
          have : (base.map (·.add ((0 : Int).toNat * u.size))) = base := by cases base <;> simp [Addr.add]
          rw [this]; simp
        · split at hr2
          · rename_i i j hb
            obtain ⟨hin, hr3⟩ := need_some hr2
            obtain rfl := Option.some.inj hr3
            obtain ⟨h0, h1, h2⟩ := inside_some hin
            have hln : len (α := u.den) l = (List.length (α := u.den) l : Int) := rfl
            rw [hln] at h2
            refine goes_put h hd (general hb h0 h1 h2)
              ⟨⟨_, rfl, rfl⟩, bx, hbx, by omega, fun _ => ⟨u, _, hrow, h0, by simp only [minus]; omega, by simp only [minus]; omega, (if cap = i.toNat then base else base.map (·.add (i.toNat * u.size))), cap - i.toNat, ?_, ?_, ?_, ⟨hF.sub _ _, by have := hZ.sub (Int.le_refl 0) h0 u.size; rwa [show plus 0 i = i by simp [plus]] at this⟩, ?_⟩⟩
            · have : (minus j i).toNat = j.toNat - i.toNat := by simp only [minus]; omega
              rw [this]
            · simp only [minus]; omega
            · omega
            · by_cases hcap : cap = i.toNat
              · exact .inl (by simp only [minus]; omega)
              · rcases m4 with ⟨q1, q3⟩ | ⟨blk, q1, q2⟩
                · exact .inl (by simp only [minus]; omega)
                · refine .inr ⟨blk, cap, q1, ?_⟩
                  rw [if_neg hcap, q2]
                  simp only [Option.map_some, addr_add, Nat.zero_add]
          · cases hr2
      · cases hr1
    · cases hr
  · -- an array that a path leads to
    rename_i m u c ver s q hT hx
    rw [hx] at hv
    obtain ⟨hlm, hr1⟩ := bif_some hr
    simp only [Bool.and_eq_true] at hlm
    obtain ⟨bx, hbx, hver⟩ := live_some hlm.1
    have hmle := Nat.le_of_ble_eq_true hlm.2
    split at hr1
    · rename_i i j hb
      obtain ⟨hin, hr3⟩ := need_some hr1
      obtain rfl := Option.some.inj hr3
      obtain ⟨h0, h1, h2⟩ := inside_some hin
      obtain ⟨eid, k1, k2, k3⟩ := (hc.T _ _ hT).arr
      obtain ⟨blk, cap, hl, hval⟩ := ofBox_live hbx hver hv.2
      obtain hval : a.eval x = .pointer (some ⟨blk, offP (s :: q), none⟩) := by simpa using hval
      have hbr := bounds_run (P := P) h hb false m m rfl (Nat.le_refl _) h0 h1 h2
      refine goes_put h hd (x := .slice (some (if m = i.toNat then ⟨blk, offP (s :: q), none⟩ else (⟨blk, offP (s :: q), none⟩ : Addr).add (i.toNat * u.size))) (j.toNat - i.toNat) (m - i.toNat)) ?_
        ⟨⟨_, rfl, rfl⟩, bx, hbx, by omega, fun _ => ⟨by simp, blk, cap, hl, h0, by simp only [minus]; omega, by simp only [minus]; omega, some (if m = i.toNat then ⟨blk, offP (s :: q), none⟩ else (⟨blk, offP (s :: q), none⟩ : Addr).add (i.toNat * u.size)), m - i.toNat, ?_, ?_, ?_⟩⟩
      · rw [hval]
        simp only [Instr.sliceAt, Sem.run_bind, run_underlying k1, Result.andThen_ok, Instr.sureAddr, Sem.run_pure, hbr, k2.sizeOf w]
      · have : (minus j i).toNat = j.toNat - i.toNat := by simp only [minus]; omega
        rw [this]
      · simp only [minus]; omega
      · by_cases hcap : m = i.toNat
        · exact .inl (by simp only [minus]; omega)
        · refine .inr ?_
          rw [if_neg hcap]
          simp only [addr_add]
    · cases hr1
  · -- an array's variable
    rename_i m u c ver hT hx
    rw [hx] at hv
    split at hr
    · rename_i bx hbx
      obtain ⟨hbq, hr1⟩ := bif_some hr
      simp only [Bool.and_eq_true, Bool.not_eq_true'] at hbq
      have hver := Nat.eq_of_beq_eq_true hbq.1
      split at hr1
      · rename_i n e l hbv
        obtain ⟨hq, hr2⟩ := bif_some hr1
        simp only [Bool.and_eq_true] at hq
        obtain rfl := Nat.eq_of_beq_eq_true hq.1.1
        obtain rfl := Ty.eq_of_beq hq.1.2
        have hmle := Nat.le_of_ble_eq_true hq.2
        split at hr2
        · rename_i i j hb
          obtain ⟨hin, hr3⟩ := need_some hr2
          obtain rfl := Option.some.inj hr3
          obtain ⟨h0, h1, h2⟩ := inside_some hin
          obtain ⟨eid, k1, k2, k3⟩ := (hc.T _ _ hT).arr
          obtain ⟨blk, cap, hl, hval⟩ := ofBox_live hbx hver hv.2
          obtain hval : a.eval x = .pointer (some ⟨blk, 0, none⟩) := by simpa [offP] using hval
          have hbr := bounds_run (P := P) h hb false m m rfl (Nat.le_refl _) h0 h1 h2
          have hF : FormBase (some (if m = i.toNat then ⟨blk, 0, none⟩ else (⟨blk, 0, none⟩ : Addr).add (i.toNat * u.size))) (m - i.toNat) := by
            refine .inr ?_
            split
            · exact ⟨blk, 0, rfl⟩
            · exact ⟨blk, 0 + i.toNat * u.size, by rw [addr_add]⟩
          refine goes_put h hd (x := .slice (some (if m = i.toNat then ⟨blk, 0, none⟩ else (⟨blk, 0, none⟩ : Addr).add (i.toNat * u.size))) (j.toNat - i.toNat) (m - i.toNat)) ?_
            ⟨⟨_, rfl, rfl⟩, bx, hbx, by omega, fun _ => ⟨u, m, Box.row_arr hbq.2 hbv, h0, by simp only [minus]; omega, by simp only [minus]; omega, some (if m = i.toNat then ⟨blk, 0, none⟩ else (⟨blk, 0, none⟩ : Addr).add (i.toNat * u.size)), m - i.toNat, ?_, ?_, ?_, ⟨hF, fun _ hb => by rw [hbq.2] at hb; cases hb⟩, ?_⟩⟩
          · rw [hval]
            simp only [Instr.sliceAt, Sem.run_bind, run_underlying k1, Result.andThen_ok, Instr.sureAddr, Sem.run_pure, hbr, k2.sizeOf w]
          · have : (minus j i).toNat = j.toNat - i.toNat := by simp only [minus]; omega
            rw [this]
          · simp only [minus]; omega
          · simp only [maxLen]; omega
          · by_cases hcap : m = i.toNat
            · exact .inl (by simp only [minus]; omega)
            · refine .inr ⟨blk, cap, hl, ?_⟩
              rw [if_neg hcap]
              simp only [addr_add, Nat.zero_add]
        · cases hr2
      · cases hr1
    · cases hr
  · cases hr
end
end Go.Ge
namespace Go.Ge
set_option linter.unusedVariables false
set_option linter.unusedSimpArgs false
open RowKit

section
variable {P : Program} {B : Own} {N : Nat} {γ : Gh} {σ σ' : St} {a : Act} {w : World} {d : Option Nat} {cx : Ctx}

theorem RepC.flat {w w' : World} {I I' : Nat → Nat → Prop} : ∀ {t : Ty} {x : t.den} {cs : List Value}, t.flat = true → RepC w I t x cs → RepC w' I' t x cs := by
  intro t
  induction t with
  | int k => intro x cs _ h; exact h
  | bool => intro x cs _ h; exact h
  | str => intro x cs _ h; exact h
  | slice e ih => intro x cs hf; cases hf
  | arr n e ih => intro x cs hf h; exact ⟨h.1, h.2.1, fun i y hy => ih hf (h.2.2 i y hy)⟩
  | pair a b iha ihb =>
    intro x cs hf h
    simp only [Ty.flat, Bool.and_eq_true] at hf
    obtain ⟨c1, c2, h0, h1, h2⟩ := h
    exact ⟨c1, c2, h0, iha hf.1 h1, ihb hf.2 h2⟩
  | unit => intro x cs _ h; exact h
  | alt u a r iha ihr =>
    intro x cs hf h
    simp only [Ty.flat, Bool.and_eq_true] at hf
    rcases x with y | z
    · obtain ⟨h1, c, h2, h3⟩ := h
      exact ⟨h1, c, h2, iha hf.1 h3⟩
    · exact ihr hf.2 (show RepC w I r z cs from h)
  | noi => intro x cs _ h; exact h

/-- The elements of a slice, where they lie: the cells of each can be read. -/
def RowVal (w : World) (I : Nat → Nat → Prop) (e : Ty) (l : List e.den) (v : Value) : Prop :=
  (l = [] ∧ ∃ base cap, v = .slice base 0 cap ∧ cap ≤ maxLen ∧ FormBase base cap) ∨
  ∃ blk off cap, v = .slice (some ⟨blk, off, none⟩) l.length cap ∧ l.length ≤ cap ∧ cap ≤ maxLen ∧
    ∀ (i : Nat) (x : e.den), l[i]? = some x → ∃ es : List Value, es.length = e.size ∧
      (∀ (j : Nat) c, es[j]? = some c → w.cell? ⟨blk, off + i * e.size + j, none⟩ = some c) ∧ RepC w I e x es

/-- A row of a block, element by element. -/
theorem rowVal_block {I : Nat → Nat → Prop} {e : Ty} {l : List e.den} {blk : Nat} {cur : Array Value} {tid : TypeId} {fr : Nat × Nat} (hg : w.heap[blk]? = some (.cells cur tid fr)) {n : Nat} (hn : n * e.size ≤ cur.size)
    (h : ∀ (i : Nat) (x : e.den), l[i]? = some x → RepC w I e x ((cur.toList.drop (i * e.size)).take e.size)) (hl : l.length ≤ n) (lo : Nat) :
    ∀ (i : Nat) (x : e.den), (l.drop lo)[i]? = some x → ∃ es : List Value, es.length = e.size ∧
      (∀ (j : Nat) c, es[j]? = some c → w.cell? ⟨blk, lo * e.size + i * e.size + j, none⟩ = some c) ∧ RepC w I e x es := by
  intro i x hx
  rw [List.getElem?_drop] at hx
  have hr := h _ x hx
  have hlt := (List.getElem?_eq_some_iff.1 hx).1
  refine ⟨_, hr.length, fun j c hj => ?_, hr⟩
  rw [cell_of_heap hg]
  rw [List.getElem?_take] at hj
  split at hj
  · rw [List.getElem?_drop] at hj
    rw [← Nat.add_mul]; simpa using hj
  · cases hj

theorem BoxAt.row {b : Nat} {bx : Box} {mem : Nat → Option Box} (h : BoxAt γ mem w b bx) {blk cap : Nat} (hl : γ.loc b = some (blk, cap)) :
    (∀ (e : Ty) (l : List e.den), bx.buf = true → bx.val = .data (.slice e) l → ∃ cur tid fr, w.heap[blk]? = some (.cells cur tid fr) ∧ Thawed cur fr ∧ l.length ≤ cap ∧ cap ≤ maxLen ∧ cur.size = cap * e.size ∧ 0 < e.size ∧
      ∀ (i : Nat) (x : e.den), l[i]? = some x → RepC w γ.I e x ((cur.toList.drop (i * e.size)).take e.size)) ∧
    (∀ (n : Nat) (e : Ty) (l : List e.den), bx.buf = false → bx.val = .data (.arr n e) l → ∃ cur tid fr, w.heap[blk]? = some (.cells cur tid fr) ∧ Thawed cur fr ∧ l.length = n ∧ cur.size = n * e.size ∧
      ∀ (i : Nat) (x : e.den), l[i]? = some x → RepC w γ.I e x ((cur.toList.drop (i * e.size)).take e.size)) := by
  refine ⟨fun e l hb hv => ?_, fun n e l hb hv => ?_⟩
  · obtain ⟨e', l', h1, h2, h3⟩ := h.lst hb (fun _ q => by rw [hv] at q; cases q)
    rw [hv] at h1
    cases h1
    rcases h3 with ⟨h3, _⟩ | ⟨blk', cap', cur, tid, fr, q1, q2, q3, htid, q4, q5, q6, q7⟩
    · rw [hl] at h3; cases h3
    · rw [hl] at q1
      obtain ⟨rfl, rfl⟩ := Prod.mk.inj (Option.some.inj q1)
      exact ⟨cur, tid, fr, q2, q3.th, q4, q5, q6, h2, q7⟩
  · rw [BoxAt, hb] at h
    obtain ⟨blk', cap', cur, tid, fr, q1, q2, q3, htid, q4⟩ := h
    rw [hl] at q1
    obtain ⟨rfl, rfl⟩ := Prod.mk.inj (Option.some.inj q1)
    rw [hv] at q4
    obtain ⟨r1, r2, r3⟩ := q4
    exact ⟨cur, tid, fr, q2, q3, r1, by simpa using r2, r3⟩

theorem to_slice {u e : Ty} {l : List u.den} {m : List e.den} (h : toL u e l = some m) : ∃ q : u = e, m = q ▸ l := toL_some h

theorem listOf_inv {e : Ty} {v : Val} {l : List e.den} (hl : listOf e σ v = some l) :
    v = .data (.slice e) l ∨ (v = .nils ∧ l = []) ∨ (∃ b ver bx, v = .whole b ver ∧ σ.mem b = some bx ∧ bx.ver = ver ∧ bx.buf = true ∧ bx.val = .data (.slice e) l) ∨
    ∃ b ver lo n bx, v = .part b ver lo n ∧ σ.mem b = some bx ∧ bx.ver = ver ∧ ((bx.buf = true ∧ ∃ l0 : List e.den, bx.val = .data (.slice e) l0 ∧ l = sub l0 lo n) ∨ (bx.buf = false ∧ ∃ (k : Nat) (l0 : List e.den), bx.val = .data (.arr k e) l0 ∧ l = sub l0 lo n)) := by
  unfold listOf at hl
  split at hl
  · obtain ⟨q, rfl⟩ := to_slice hl
    subst q; exact .inl rfl
  · exact .inr (.inl ⟨rfl, (Option.some.inj hl).symm⟩)
  · rename_i b ver
    split at hl
    · rename_i bx hb
      cases hc : (Nat.beq bx.ver ver && bx.buf) with
      | false => rw [hc, cond_false] at hl; exact absurd hl (by simp)
      | true =>
        rw [hc, cond_true] at hl
        simp only [Bool.and_eq_true] at hc
        split at hl
        · rename_i u l0 hbv
          obtain ⟨q, rfl⟩ := to_slice hl
          subst q
          exact .inr (.inr (.inl ⟨b, ver, bx, rfl, hb, Nat.eq_of_beq_eq_true hc.1, hc.2, hbv⟩))
        · exact absurd hl (by simp)
    · exact absurd hl (by simp)
  · rename_i b ver lo n
    split at hl
    · rename_i bx hb
      cases hc : Nat.beq bx.ver ver with
      | false => rw [hc, cond_false] at hl; exact absurd hl (by simp)
      | true =>
        rw [hc, cond_true] at hl
        split at hl
        · rename_i u l0 hbuf hbv
          obtain ⟨q, rfl⟩ := to_slice hl
          subst q
          exact .inr (.inr (.inr ⟨b, ver, lo, n, bx, rfl, hb, Nat.eq_of_beq_eq_true hc, .inl ⟨hbuf, l0, hbv, rfl⟩⟩))
        · rename_i k0 u l0 hbuf hbv
          obtain ⟨q, rfl⟩ := to_slice hl
          subst q
          exact .inr (.inr (.inr ⟨b, ver, lo, n, bx, rfl, hb, Nat.eq_of_beq_eq_true hc, .inr ⟨hbuf, k0, l0, hbv, rfl⟩⟩))
        · exact absurd hl (by simp)
    · exact absurd hl (by simp)
  · exact absurd hl (by simp)

theorem len_sub {α : Type} {l : List α} {lo n : Int} (h0 : 0 ≤ lo) (h1 : 0 ≤ n) (h2 : lo + n ≤ l.length) : (sub l lo n).length = n.toNat := by
  simp only [sub, List.length_take, List.length_drop]; omega

/-- The list that a value stands for. -/
theorem listOf_row (hm : MemOk B γ σ.mem w) {e : Ty} {v : Val} {val : Value} {l : List e.den} (hv : Rep γ σ.mem w v .val [val]) (hl : listOf e σ v = some l) : RowVal w γ.I e l val := by
  rcases listOf_inv hl with rfl | ⟨rfl, rfl⟩ | ⟨b, ver, bx, rfl, hb, hver, hbuf, hbv⟩ | ⟨b, ver, lo, n, bx, rfl, hb, hver, hl2⟩
  · obtain ⟨cs, h1, hval⟩ := repV_data.1 hv
    rcases h1 with ⟨⟨base, h1⟩, h2⟩ | ⟨blk, off, cap, h1, h2, h3, h4⟩
    · exact .inl ⟨h2, base, 0, by rw [hval, h1]; rfl, Nat.zero_le _, .inl rfl⟩
    · refine .inr ⟨blk, off, cap, by rw [hval, h1]; rfl, h2, h3, fun i x hx => ?_⟩
      obtain ⟨es, g1, g2, g3⟩ := h4 i x hx
      exact ⟨es, g1, fun j c hj => (g2 j c hj).1, g3⟩
  · obtain rfl : val = _ := by simpa [Rep] using hv
    exact .inl ⟨rfl, none, 0, rfl, Nat.zero_le _, .inl rfl⟩
  · obtain ⟨e', n', g1, g2, g3⟩ := ofBox_live hb hver hv.2
    rw [Box.row_buf g1 hbv] at g2
    obtain ⟨rfl, rfl⟩ := Prod.mk.inj (Option.some.inj g2)
    rcases g3 with ⟨g3, g4⟩ | ⟨blk, cap, g3, g4⟩
    · obtain rfl : val = _ := by simpa using g4
      have hat := hm.boxes b bx hb
      obtain ⟨e2, l2, j1, j2, j3⟩ := hat.lst g1 (fun _ q => by rw [hbv] at q; cases q)
      rw [hbv] at j1
      cases j1
      rcases j3 with ⟨_, j4⟩ | ⟨_, _, _, _, _, j3, _⟩
      · exact .inl ⟨j4, none, 0, rfl, Nat.zero_le _, .inl rfl⟩
      · rw [g3] at j3; exact absurd j3 (by simp)
    · obtain rfl : val = _ := by simpa using g4
      obtain ⟨cur, tid, fr, q1, q2, q3, q4, q5, q6, q7⟩ := ((hm.boxes b bx hb).row g3).1 _ l g1 hbv
      refine .inr ⟨blk, 0, cap, rfl, q3, q4, fun i x hx => ?_⟩
      have := rowVal_block q1 (n := cap) (by omega) q7 q3 0 i x hx
      rw [Nat.zero_mul] at this; exact this
  · obtain ⟨e', k, g2, g3, g4, g5, base, cap, g6, g7, g8, gF, g9⟩ := ofBox_live hb hver hv.2
    obtain rfl : val = _ := by simpa using g6
    rcases hl2 with ⟨hbuf, l0, hbv, rfl⟩ | ⟨hbuf, k0, l0, hbv, rfl⟩
    · rw [Box.row_buf hbuf hbv] at g2
      obtain ⟨rfl, rfl⟩ := Prod.mk.inj (Option.some.inj g2)
      have hlen := len_sub g3 g4 g5
      rcases g9 with g9 | ⟨blk, c, g9, g10⟩
      · subst g9
        exact .inl ⟨by simp [sub], base, cap, rfl, g8, gF.1⟩
      · obtain ⟨cur, tid, fr, q1, q2, q3, q4, q5, q6, q7⟩ := ((hm.boxes b bx hb).row g9).1 _ l0 hbuf hbv
        refine .inr ⟨blk, lo.toNat * e.size, cap, by rw [g10, hlen], by rw [hlen]; exact g7, g8, fun i x hx => ?_⟩
        have hx' : ((List.drop lo.toNat l0).take n.toNat)[i]? = some x := hx
        rw [List.getElem?_take] at hx'
        split at hx'
        · exact rowVal_block q1 (n := c) (by omega) q7 q3 lo.toNat i x hx'
        · exact absurd hx' (by simp)
    · rw [Box.row_arr hbuf hbv] at g2
      obtain ⟨rfl, rfl⟩ := Prod.mk.inj (Option.some.inj g2)
      rcases g9 with g9 | ⟨blk, c, g9, g10⟩
      · subst g9
        exact .inl ⟨by simp [sub], base, cap, rfl, g8, gF.1⟩
      · obtain ⟨cur, tid, fr, q1, q2, q3, q5, q7⟩ := ((hm.boxes b bx hb).row g9).2 _ _ l0 hbuf hbv
        have hlen := len_sub (l := l0) g3 g4 (by rw [q3]; exact g5)
        refine .inr ⟨blk, lo.toNat * e.size, cap, by rw [g10, hlen], by rw [hlen]; exact g7, g8, fun i x hx => ?_⟩
        have hx' : ((List.drop lo.toNat l0).take n.toNat)[i]? = some x := hx
        rw [List.getElem?_take] at hx'
        split at hx'
        · exact rowVal_block q1 (n := k0) (by omega) q7 (by omega) lo.toNat i x hx'
        · exact absurd hx' (by simp)

/-- The cells of a row, one behind the other. -/
theorem flat_cells {I : Nat → Nat → Prop} {e : Ty} {blk : Nat} : ∀ {l : List e.den} {off : Nat}, (∀ (i : Nat) (x : e.den), l[i]? = some x → ∃ es : List Value, es.length = e.size ∧
      (∀ (j : Nat) c, es[j]? = some c → w.cell? ⟨blk, off + i * e.size + j, none⟩ = some c) ∧ RepC w I e x es) →
    ∃ news : List Value, news.length = l.length * e.size ∧ (∀ (j : Nat) c, news[j]? = some c → w.cell? ⟨blk, off + j, none⟩ = some c) ∧ (∀ c ∈ news, c.oneCell' = true) ∧
      ∀ (i : Nat) (x : e.den), l[i]? = some x → RepC w I e x ((news.drop (i * e.size)).take e.size) := by
  intro l
  induction l with
  | nil => intro off h; exact ⟨[], by simp, by simp, by simp, by simp⟩
  | cons x0 r ih =>
    intro off h
    obtain ⟨es, g1, g2, g3⟩ := h 0 x0 rfl
    obtain ⟨news, k1, k2, k3, k4⟩ := ih (off := off + e.size) fun i x hx => by
      obtain ⟨es', a1, a2, a3⟩ := h (i + 1) x (by simpa using hx)
      refine ⟨es', a1, fun j c hj => ?_, a3⟩
      have := a2 j c hj
      rw [Nat.succ_mul] at this
      rw [← this]; congr 2; omega
    refine ⟨es ++ news, by rw [List.length_append, g1, k1, List.length_cons, Nat.succ_mul]; omega, fun j c hj => ?_, fun c hc => ?_, fun i x hx => ?_⟩
    · rw [List.getElem?_append] at hj
      split at hj
      · have := g2 j c hj
        simpa using this
      · rename_i hlt
        have := k2 _ c hj
        rw [← this]; congr 2; omega
    · rcases List.mem_append.1 hc with hc | hc
      · exact g3.one c hc
      · exact k3 c hc
    · cases i with
      | zero =>
        obtain rfl : x0 = x := by simpa using hx
        rw [Nat.zero_mul, List.drop_zero, ← g1, List.take_left]; exact g3
      | succ i =>
        have hx' : r[i]? = some x := by simpa using hx
        rw [Nat.succ_mul, Nat.add_comm, ← List.drop_drop, ← g1, List.drop_left, g1]
        exact k4 i x hx'

/-! ### Freezing -/

theorem freeze_sound (h : Sim B N γ σ a w) {b : Nat} {bx : Box} {e : Ty} {n : Nat} (hb : σ.mem b = some bx) (hrow : bx.row = some (e, n)) (hf : freeze σ b = some σ') :
    ∃ γ', Sim B N γ' σ' a w ∧ Ext B γ σ.mem w γ' σ'.mem w ∧ γ'.loc = γ.loc ∧ ∀ blk k off, γ.loc b = some (blk, k) → off < n * e.size → γ'.I blk off := by
  obtain ⟨m1, m2⟩ := h.ok.freeze hb hrow
  have e1 : σ' = { slots := σ.slots, mem := setMem σ.mem b { bx with ro := true } } := by
    unfold freeze at hf
    rw [hb] at hf
    cases hro : bx.ro with
    | true =>
      simp only [hro, cond_true, Option.some.injEq] at hf
      subst hf
      have : setMem σ.mem b { bx with ro := true } = σ.mem := by
        funext c
        by_cases e : c = b
        · subst e; rw [setMem_same, hb]; congr 1; cases bx; simp only at hro; subst hro; rfl
        · rw [setMem_other _ e]
      rw [this]
    | false =>
      simp only [hro, cond_false] at hf
      cases hlk : bx.lk with
      | true => simp [hlk] at hf
      | false => simp only [hlk, cond_false, Option.some.injEq] at hf; subst hf; rfl
  subst e1
  exact ⟨_, h.go m2 m1, m2, rfl, fun blk k off hl ho => .inr ⟨⟨k, hl⟩, ho⟩⟩

/-- A row whose cells never change is data. -/
theorem RowVal.data {γ' : Gh} {e : Ty} {l : List e.den} {val : Value} (h : RowVal w γ.I e l val) (hI : ∀ b o, γ.I b o → γ'.I b o)
    (hc : ∀ blk off cap, val = .slice (some ⟨blk, off, none⟩) l.length cap → ∀ j, j < l.length * e.size → γ'.I blk (off + j)) : RepC w γ'.I (.slice e) l [val] := by
  rcases h with ⟨rfl, base, cap, r1, r2, r3⟩ | ⟨blk, off, cap, r1, r2, r3, r4⟩
  · rcases r3 with rfl | ⟨blk, off, rfl⟩
    · exact .inl ⟨⟨base, by rw [r1]⟩, rfl⟩
    · exact .inr ⟨blk, off, cap, by rw [r1]; rfl, Nat.zero_le _, r2, fun i x hx => by cases hx⟩
  · refine .inr ⟨blk, off, cap, by rw [r1], r2, r3, fun i x hx => ?_⟩
    obtain ⟨es, g1, g2, g3⟩ := r4 i x hx
    have hi : i < l.length := (List.getElem?_eq_some_iff.1 hx).1
    refine ⟨es, g1, fun j c hj => ⟨g2 j c hj, ?_⟩, RepC.mono hI (fun _ _ _ => rfl) g3⟩
    have hj' : j < e.size := by have := (List.getElem?_eq_some_iff.1 hj).1; omega
    have : (i + 1) * e.size ≤ l.length * e.size := Nat.mul_le_mul_right _ hi
    rw [Nat.succ_mul] at this
    rw [Nat.add_assoc]
    exact hc blk off cap r1 _ (by omega)

/-- The reference that a list came of is frozen: its cells never change any more. -/
theorem give_row (h : Sim B N γ σ a w) {e : Ty} {v : Val} {val : Value} {l : List e.den} (hv : Rep γ σ.mem w v .val [val]) (hl : listOf e σ v = some l) (hf : freezeV σ v = some σ') :
    ∃ γ', Sim B N γ' σ' a w ∧ Ext B γ σ.mem w γ' σ'.mem w ∧ RepC w γ'.I (.slice e) l [val] := by
  have hrow := listOf_row h.ok hv hl
  rcases listOf_inv hl with rfl | ⟨rfl, rfl⟩ | ⟨b, ver, bx, rfl, hb, hver, hbuf, hbv⟩ | ⟨b, ver, lo, n, bx, rfl, hb, hver, hl2⟩
  · obtain rfl := Option.some.inj hf
    obtain ⟨cs, h1, hval⟩ := repV_data.1 hv
    have : cs = [val] := by
      obtain ⟨c, rfl⟩ := List.length_eq_one_iff.1 h1.length
      rw [hval]; rfl
    exact ⟨γ, h, Ext.refl _ _ _ _, by rw [← this]; exact h1⟩
  · obtain rfl := Option.some.inj hf
    obtain rfl : val = _ := by simpa [Rep] using hv
    exact ⟨γ, h, Ext.refl _ _ _ _, .inl ⟨⟨none, rfl⟩, rfl⟩⟩
  · obtain ⟨γ', s1, s2, s3, s4⟩ := freeze_sound h hb (Box.row_buf hbuf hbv) hf
    refine ⟨γ', s1, s2, hrow.data s2.I fun blk off cap hval j hj => ?_⟩
    obtain ⟨e', n', g1, g2, g3⟩ := ofBox_live hb hver hv.2
    rcases g3 with ⟨g3, g4⟩ | ⟨blk', cap', g3, g4⟩
    · obtain rfl : val = _ := by simpa using g4
      injection hval with q1 q2 q3
      rw [← q2, Nat.zero_mul] at hj
      omega
    · obtain rfl : val = _ := by simpa using g4
      injection hval with q1 q2 q3
      injection q1 with q1
      injection q1 with q1 q4
      subst q1; subst q4
      rw [Nat.zero_add]; exact s4 blk' cap' j g3 hj
  · obtain ⟨e', k, g2, g3, g4, g5, base, cap, g6, g7, g8, gF, g9⟩ := ofBox_live hb hver hv.2
    obtain rfl : val = _ := by simpa using g6
    have hlk : e = e' ∧ l.length = n.toNat := by
      rcases hl2 with ⟨hbuf, l0, hbv, rfl⟩ | ⟨hbuf, k0, l0, hbv, rfl⟩
      · rw [Box.row_buf hbuf hbv] at g2
        obtain ⟨rfl, rfl⟩ := Prod.mk.inj (Option.some.inj g2)
        exact ⟨rfl, len_sub g3 g4 g5⟩
      · rw [Box.row_arr hbuf hbv] at g2
        obtain ⟨rfl, rfl⟩ := Prod.mk.inj (Option.some.inj g2)
        rcases g9 with g9 | ⟨blk, c, g9, g10⟩
        · subst g9; exact ⟨rfl, by simp [sub]⟩
        · obtain ⟨cur, tid, fr, q1, q2, q3, q5, q7⟩ := ((h.ok.boxes b bx hb).row g9).2 _ _ l0 hbuf hbv
          exact ⟨rfl, len_sub g3 g4 (by rw [q3]; exact g5)⟩
    obtain ⟨rfl, hlen⟩ := hlk
    obtain ⟨γ', s1, s2, s3, s4⟩ := freeze_sound h hb g2 hf
    refine ⟨γ', s1, s2, hrow.data s2.I fun blk off cap' hval j hj => ?_⟩
    rcases g9 with g9 | ⟨blk', c, g9, g10⟩
    · rw [hlen, g9] at hj; simp at hj
    · injection hval with q1 q2 q3
      rw [g10] at q1
      injection q1 with q1
      injection q1 with q1 q4
      subst q1; subst q4
      refine s4 blk' c _ g9 ?_
      have : (lo.toNat + n.toNat) * e.size ≤ k * e.size := Nat.mul_le_mul_right _ (by omega)
      rw [Nat.add_mul] at this
      rw [hlen] at hj
      omega

/-- What a reference stands for is the same behind a freezing. -/
theorem listOf_freeze {e : Ty} {v : Val} {l : List e.den} {b : Nat} (h : listOf e σ v = some l) (hf : freeze σ b = some σ') : listOf e σ' v = some l := by
  have hm : ∀ c bx, σ.mem c = some bx → ∃ r, σ'.mem c = some { bx with ro := r } := by
    intro c bx hc
    unfold freeze at hf
    split at hf
    · rename_i bx0 hb0
      cases hro : bx0.ro with
      | true => simp only [hro, cond_true, Option.some.injEq] at hf; subst hf; exact ⟨bx.ro, hc⟩
      | false =>
        cases hlk : bx0.lk with
        | true => simp [hro, hlk] at hf
        | false =>
          simp only [hro, hlk, cond_false, Option.some.injEq] at hf
          subst hf
          by_cases e : c = b
          · subst e
            rw [hb0] at hc
            obtain rfl := Option.some.inj hc
            exact ⟨true, by simp [St.setBox, hlk]⟩
          · exact ⟨bx.ro, by simp [St.setBox, beq_ne e, hc]⟩
    · cases hf
  rcases listOf_inv h with rfl | ⟨rfl, rfl⟩ | ⟨c, ver, bx, rfl, hb, hver, hbuf, hbv⟩ | ⟨c, ver, lo, n, bx, rfl, hb, hver, hl2⟩
  · exact h
  · rfl
  · obtain ⟨r, hr⟩ := hm c bx hb
    simp only [listOf, hr, hver, hbuf, hbv, Nat.beq_refl, Bool.and_self, cond_true]
    simp [toL, Ty.beq_refl]
  · obtain ⟨r, hr⟩ := hm c bx hb
    rcases hl2 with ⟨hbuf, l0, hbv, rfl⟩ | ⟨hbuf, k0, l0, hbv, rfl⟩
    · simp only [listOf, hr, hver, hbuf, hbv, Nat.beq_refl, cond_true]
      simp [toL, Ty.beq_refl]
    · simp only [listOf, hr, hver, hbuf, hbv, Nat.beq_refl, cond_true]
      simp [toL, Ty.beq_refl]

theorem lend_mix {s r : Ty} {p q : Val} {x : (Ty.pair s r).den} (h : lend σ (.pair s r) (.mix p q) = some x) : ∃ (y : s.den) (z : r.den), lend σ s p = some y ∧ lend σ r q = some z ∧ x = (y, z) := by
  replace h : (match lend σ s p, lend σ r q with
    | some x, some y => some ((x, y) : (Ty.pair s r).den)
    | _, _ => none) = some x := h
  split at h
  · rename_i y z h1 h2
    exact ⟨y, z, h1, h2, (Option.some.inj h).symm⟩
  · exact absurd h (by simp)

theorem lend_mix' {s r : Ty} {p q : Val} {y : s.den} {z : r.den} (h1 : lend σ s p = some y) (h2 : lend σ r q = some z) : lend σ (.pair s r) (.mix p q) = some ((y, z) : (Ty.pair s r).den) := by
  show (match lend σ s p, lend σ r q with
    | some x, some y => some ((x, y) : (Ty.pair s r).den)
    | _, _ => none) = some (y, z)
  rw [h1, h2]

theorem freezeV_mix {p q : Val} (h : freezeV σ (.mix p q) = some σ') : ∃ σ1, freezeV σ p = some σ1 ∧ freezeV σ1 q = some σ' := by
  unfold freezeV at h
  split at h
  · rename_i σ1 h1; exact ⟨σ1, h1, h⟩
  · exact absurd h (by simp)

theorem lend_nili {t : Ty} : ∀ {x : t.den}, lend σ t .nili = some x → (∀ w I, RepC w I t x [.nilIface]) ∧ (∀ τ : St, lend τ t .nili = some x) ∧ ofCells t [.nilIface] = .nilIface ∧ t.isAgg = false := by
  induction t with
  | alt u a r iha ihr =>
    intro x h
    have h : (match lend σ r .nili with | some x => some (Sum.inr x) | none => none : Option (a.den ⊕ r.den)) = some x := h
    cases hr : lend σ r .nili with
    | none => rw [hr] at h; cases h
    | some y =>
      rw [hr] at h
      obtain rfl := Option.some.inj h
      obtain ⟨h1, h2, h3, h4⟩ := ihr hr
      refine ⟨fun w I => h1 w I, fun τ => ?_, h3, h4⟩
      show (match lend τ r .nili with | some x => some (Sum.inr x) | none => none : Option (a.den ⊕ r.den)) = _
      rw [h2 τ]; rfl
  | noi => intro x h; obtain rfl : () = x := Option.some.inj h; exact ⟨fun w I => rfl, fun τ => rfl, rfl, rfl⟩
  | slice e => intro x h; cases h
  | pair a b => intro x h; cases h
  | _ => intro x h; cases h


theorem lend_freeze : ∀ {v : Val} {t : Ty} {x : t.den} {σ σ' : St} {u : Val}, lend σ t v = some x → freezeV σ u = some σ' → lend σ' t v = some x := by
  have one : ∀ {u : Val} {e : Ty} {v : Val} {l : List e.den} {σ σ' : St}, listOf e σ v = some l → freezeV σ u = some σ' → listOf e σ' v = some l := by
    intro u
    induction u with
    | mix p q ihp ihq =>
      intro e v l σ σ' h hf
      simp only [freezeV] at hf
      cases hp : freezeV σ p with
      | none => rw [hp] at hf; cases hf
      | some σ1 => rw [hp] at hf; exact ihq (ihp h hp) hf
    | whole b ver => intro e v l σ σ' h hf; exact listOf_freeze h hf
    | part b ver lo n => intro e v l σ σ' h hf; exact listOf_freeze h hf
    | _ => intro e v l σ σ' h hf; obtain rfl := Option.some.inj hf; exact h
  intro v
  induction v with
  | data u y =>
    intro t x σ σ' u h hf
    cases t with
    | slice e => exact one h hf
    | _ => exact h
  | mix p q ihp ihq =>
    intro t x σ σ' u h hf
    cases t with
    | pair s r =>
      obtain ⟨y, z, h1, h2, rfl⟩ := lend_mix h
      exact lend_mix' (ihp h1 hf) (ihq h2 hf)
    | slice e => exact one h hf
    | _ => cases h
  | nili => intro t x σ σ' u h hf; exact (lend_nili h).2.1 _
  | _ =>
    intro t x σ σ' u h hf
    cases t with
    | slice e => exact one h hf
    | _ => cases h

theorem single_cell {γ : Gh} {mem : Nat → Option Box} {v : Val} {cs : List Value} (h : Rep γ mem w v .cells cs) (h1 : valSize v = 1) : ∃ c, cs = [c] := by
  have := h.length
  rw [h1] at this
  exact List.length_eq_one_iff.1 this

/-- Data given for good. -/
theorem give_cells : ∀ {v : Val} {t : Ty} {x : t.den} {cs : List Value} {σ σ' : St} {γ : Gh} {a : Act}, Sim B N γ σ a w → Rep γ σ.mem w v .cells cs → lend σ t v = some x → freezeV σ v = some σ' →
    ∃ γ', Sim B N γ' σ' a w ∧ Ext B γ σ.mem w γ' σ'.mem w ∧ RepC w γ'.I t x cs := by
  have sl : ∀ {v : Val} {e : Ty} {l : List e.den} {cs : List Value} {σ σ' : St} {γ : Gh} {a : Act}, valSize v = 1 → (∀ c, Rep γ σ.mem w v .cells [c] → Rep γ σ.mem w v .val [c]) → Sim B N γ σ a w → Rep γ σ.mem w v .cells cs → listOf e σ v = some l → freezeV σ v = some σ' →
      ∃ γ', Sim B N γ' σ' a w ∧ Ext B γ σ.mem w γ' σ'.mem w ∧ RepC w γ'.I (.slice e) l cs := by
    intro v e l cs σ σ' γ a h1 hval h hc hl hf
    obtain ⟨c, rfl⟩ := single_cell hc h1
    exact give_row h (hval c hc) hl hf
  intro v
  induction v with
  | data u y =>
    intro t x cs σ σ' γ a h hc hl hf
    obtain rfl := Option.some.inj hf
    have key : (∃ q : u = t, x = q ▸ y) := by
      cases t with
      | slice e =>
        rcases listOf_inv (show listOf e σ (.data u y) = some x from hl) with g | ⟨g, _⟩ | ⟨_, _, _, g, _⟩ | ⟨_, _, _, _, _, g, _⟩
        · injection g with g1 g2; subst g1; exact ⟨rfl, (eq_of_heq g2).symm⟩
        · cases g
        · cases g
        · cases g
      | _ => exact Ty.to_some hl
    obtain ⟨q, hq⟩ := key
    subst q; subst hq
    exact ⟨γ, h, Ext.refl _ _ _ _, hc⟩
  | mix p q ihp ihq =>
    intro t x cs σ σ' γ a h hc hl hf
    cases t with
    | pair s r =>
      obtain ⟨c1, c2, rfl, h1, h2⟩ := hc
      obtain ⟨y, z, hp, hq, rfl⟩ := lend_mix hl
      obtain ⟨σ1, hfp, hf1⟩ := freezeV_mix hf
      obtain ⟨γ1, s1, s2, s3⟩ := ihp h h1 hp hfp
      obtain ⟨γ2, t1, t2, t3⟩ := ihq s1 (h2.ext s2) (lend_freeze hq hfp) hf1
      exact ⟨γ2, t1, s2.trans t2, c1, c2, rfl, RepC.mono t2.I t2.cells s3, t3⟩
    | slice e => exact absurd hl (by intro k; cases k)
    | _ => cases hl
  | nils =>
    intro t x cs σ σ' γ a h hc hl hf
    cases t with
    | slice e => exact sl (v := .nils) rfl (fun c k => k) h hc hl hf
    | _ => cases hl
  | whole b ver =>
    intro t x cs σ σ' γ a h hc hl hf
    cases t with
    | slice e => exact sl (v := .whole b ver) rfl (fun c k => k) h hc hl hf
    | _ => cases hl
  | part b ver lo n =>
    intro t x cs σ σ' γ a h hc hl hf
    cases t with
    | slice e => exact sl (v := .part b ver lo n) rfl (fun c k => k) h hc hl hf
    | _ => cases hl
  | nili =>
    intro t x cs σ σ' γ a h hc hl hf
    obtain rfl := Option.some.inj hf
    obtain rfl : cs = [.nilIface] := hc
    exact ⟨γ, h, Ext.refl .., (lend_nili hl).1 _ _⟩
  | _ =>
    intro t x cs σ σ' γ a h hc hl hf
    cases t with
    | slice e => exact absurd hl (by intro k; cases k)
    | _ => cases hl

theorem give_sound {t : Ty} {x : t.den} {v : Val} {val : Value} (h : Sim B N γ σ a w) (hv : Rep γ σ.mem w v .val [val]) (hg : give σ t v = some (x, σ')) :
    ∃ γ', Sim B N γ' σ' a w ∧ Ext B γ σ.mem w γ' σ'.mem w ∧ Rep γ' σ'.mem w (.data t x) .val [val] := by
  unfold give at hg
  split at hg
  · rename_i u y
    split at hg
    · rename_i y2 hy
      obtain ⟨rfl, rfl⟩ := Prod.mk.inj (Option.some.inj hg)
      obtain ⟨q, hq⟩ := Ty.to_some hy
      subst q; subst hq
      exact ⟨γ, h, Ext.refl _ _ _ _, hv⟩
    · cases hg
  · split at hg
    · rename_i y σ1 hl hf
      obtain ⟨rfl, rfl⟩ := Prod.mk.inj (Option.some.inj hg)
      cases v with
      | data u y' => rename_i hne; exact absurd rfl (hne u y')
      | mix p q =>
        obtain ⟨c1, c2, e1, h1, h2⟩ := hv
        obtain rfl : val = _ := by simpa using e1
        obtain ⟨γ', s1, s2, s3⟩ := give_cells h (show Rep γ σ.mem w (.mix p q) .cells (c1 ++ c2) from ⟨c1, c2, rfl, h1, h2⟩) hl hf
        refine ⟨γ', s1, s2, _, s3, ?_⟩
        cases t with
        | pair s r => rfl
        | slice e => exact absurd hl (by intro k; cases k)
        | _ => cases hl
      | nils =>
        cases t with
        | slice e => obtain ⟨γ', s1, s2, s3⟩ := give_row h hv hl hf; exact ⟨γ', s1, s2, _, s3, rfl⟩
        | _ => cases hl
      | whole b ver =>
        cases t with
        | slice e => obtain ⟨γ', s1, s2, s3⟩ := give_row h hv hl hf; exact ⟨γ', s1, s2, _, s3, rfl⟩
        | _ => cases hl
      | part b ver lo n =>
        cases t with
        | slice e => obtain ⟨γ', s1, s2, s3⟩ := give_row h hv hl hf; exact ⟨γ', s1, s2, _, s3, rfl⟩
        | _ => cases hl
      | nili =>
        obtain rfl := Option.some.inj hf
        obtain hv : [val] = [Value.nilIface] := hv
        obtain rfl : val = .nilIface := by simpa using hv
        exact ⟨γ, h, Ext.refl .., [.nilIface], (lend_nili hl).1 _ _, by rw [(lend_nili hl).2.2.1]⟩
      | _ =>
        cases t with
        | slice e => exact absurd hl (by intro k; cases k)
        | _ => cases hl
    · cases hg
end
end Go.Ge
