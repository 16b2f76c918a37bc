/- script.Parse at two texts, step by step: a call is laid behind an act that was told a line ahead. -/
import Derived.Test.YtikicfmgihfnbaaDoorChecked
import Derived.Test.YtikicfmgihfnbaaDoorFirst
import Derived.WalkKit
import Derived.BigCall
import Derived.Tactics
import Derived.Tactics2
import Derived.RegionTactic
import Derived.RegionCalls
import Derived.Handy
import Derived.OwnWalk
import Derived.Deep.AppendSrc
namespace Go.Proofs.YtikicfmgihfnbaaDoor
open Go Go.Ge Go.Proofs Go.RowKit First
set_option linter.unusedVariables false
set_option linter.unusedSimpArgs false
set_option linter.unusedSectionVars false
set_option maxRecDepth 100000
variable [Lp]

abbrev sv (s : List UInt8) : Value := .string ⟨s.toArray⟩

/-- A list of texts, told in memory that does not change from a block on. -/
structure Texts (w : World) (s n : Nat) (l : List (List UInt8)) (v : Value) : Prop where
  le : n ≤ w.heap.size
  rep : ∃ I : Nat → Nat → Prop, (∀ b o, I b o → s ≤ b ∧ b < n) ∧ RepC w I (.slice .str) l [v]

theorem Texts.go {w w' : World} {s n : Nat} {l : List (List UInt8)} {v : Value} (h : Texts w s n l v) (hb : Below n w w') : Texts w' s n l v where
  le := Nat.le_trans h.le hb.size
  rep := by
    obtain ⟨I, h1, h2⟩ := h.rep
    exact ⟨I, h1, RepC.mono (fun _ _ x => x) (fun b o x => cell_of_same (hb.block b (h1 b o x).2)) h2⟩

theorem glob_go {G : Globs} {n : Nat} {w w' : World} (h : GlobOk G w) (hn : w.heap.size ≤ n) (hb : Below n w w') : GlobOk G w' := fun b Q g => by
  obtain ⟨o, h1, h2⟩ := h b Q g
  exact ⟨o, (hb.block b (Nat.lt_of_lt_of_le (Array.getElem?_eq_some_iff.1 h1).1 hn)).trans h1, h2⟩

theorem froz_same {w w' : World} {a : Addr} (h : w'.heap[a.block]? = w.heap[a.block]?) : w'.frozen? a = w.frozen? a := by simp [World.frozen?, h]

/-- A text of the list, where it lies. -/
theorem Texts.at2 {w : World} {s n : Nat} {a b : List UInt8} {v : Value} (h : Texts w s n [a, b] v) : ∃ blk off cap, v = .slice (some ⟨blk, off, none⟩) 2 cap ∧ blk < n ∧ w.cell? ⟨blk, off, none⟩ = some (sv a) ∧ w.cell? ⟨blk, off + 1, none⟩ = some (sv b) := by
  obtain ⟨I, h1, h2⟩ := h.rep
  rcases h2 with ⟨_, h2⟩ | ⟨blk, off, cap, h2, h3, h4, h5⟩
  · cases h2
  · have e : ∀ (i : Nat) (s : List UInt8), ([a, b] : List (List UInt8))[i]? = some s → w.cell? ⟨blk, off + i, none⟩ = some (sv s) ∧ I blk (off + i) := by
      intro i s hs
      obtain ⟨es, e1, e2, e3⟩ := h5 i s hs
      obtain ⟨rfl, _⟩ := e3
      have := e2 0 _ rfl
      simpa [Ty.size] using this
    exact ⟨blk, off, cap, List.head_eq_of_cons_eq h2, (h1 _ _ (e 0 a rfl).2).2, by simpa using (e 0 a rfl).1, (e 1 b rfl).1⟩

theorem kind_calls {a : List UInt8} {k : Int} (ha : a.length ≤ maxLen) (hk : P_script_kind (a, ()) = some (k, ())) (W : World) (hG : GlobOk glob W) :
    Calls Tryd.prog 65 #[sv a] W fun e w' => e = .returned (.int .i64 k) ∧ Below W.heap.size W w' := by
  refine (h_script_kind.calls (fun _ _ => False) W #[sv a] (a, ()) (k, ()) (fun _ _ h => h.elim) hG ⟨[sv a], [], rfl, ⟨rfl, ha⟩, rfl⟩ hk).mono ?_
  rintro e w' ⟨v, I', rfl, hw, _, _, _, cs, ⟨rfl, _⟩, hv⟩
  exact ⟨congrArg _ (List.head_eq_of_cons_eq hv), hw⟩

theorem num_calls2 {a : List UInt8} {k : Int} {ok : Bool} (ha : a.length ≤ maxLen) (hk : P_digits_Num (a, ()) = some (k, (ok, ()))) (W : World) (hG : GlobOk glob W) :
    Calls Tryd.prog 43 #[sv a] W fun e w' => e = .returned (.tuple #[.int .i64 k, .bool ok]) ∧ Below W.heap.size W w' := by
  refine (h_digits_Num.calls (fun _ _ => False) W #[sv a] (a, ()) (k, (ok, ())) (fun _ _ h => h.elim) hG ⟨[sv a], [], rfl, ⟨rfl, ha⟩, rfl⟩ hk).mono ?_
  rintro e w' ⟨v, I', rfl, hw, _, _, _, hr⟩
  refine ⟨?_, hw⟩
  obtain ⟨arr, hv, x1, r1, e1, ⟨c1, ⟨rfl, _⟩, f1⟩, x2, r2, e2, ⟨c2, hc2, f2⟩, e3⟩ := hr
  obtain rfl : v = .tuple arr := List.head_eq_of_cons_eq hv
  obtain rfl := List.head_eq_of_cons_eq f1
  have hc2 : c2 = [.bool ok] := hc2
  subst hc2
  obtain rfl := List.head_eq_of_cons_eq f2
  have e3 : r2 = [] := e3
  subst e3 e2
  have : arr = #[.int .i64 k, .bool ok] := Array.toList_inj.1 e1
  rw [this]

set_option maxHeartbeats 1600000 in
theorem act_calls {w : World} {s n : Nat} {a b : List UInt8} {v : Value} (hv : Texts w s n [a, b] v) {k m : Int} (ha : a.length ≤ maxLen) (hb : b.length ≤ maxLen) (hG : GlobOk glob w)
    (hk : P_script_kind (a, ()) = some (k, ())) (hn : P_digits_Num (b, ()) = some (m, (true, ()))) (k4 : ¬ k = 4) (k0 : 0 < k) :
    Calls Tryd.prog 53 #[v] w fun e w' => e = .returned (.tuple #[.agg #[.int .i64 k, .int .i64 m, .slice none 0 0, .int .i64 0], .bool true]) ∧ Below w.heap.size w w' := by
  obtain ⟨blk, off, cap, rfl, hblk, c0, c1⟩ := hv.at2
  have hkk := kind_calls ha hk
  have hnn := num_calls2 hb hn
  have hlt : blk < w.heap.size := Nat.lt_of_lt_of_le hblk hv.le
  go_enter Tryd.func53, Tryd.ntmps53
  go_wp2_with (go_at_call 65; refine (hkk _ ?_).mono ?_)
  · exact glob_go hG (Nat.le_refl _) ((Below.refl _ w).alloc (Nat.le_refl _) _)
  · rintro e w1 ⟨rfl, hb1⟩
    have z1 : w.heap.size + 1 ≤ w1.heap.size := by have := hb1.size; simpa using this
    have d1 : w1.cell? ⟨blk, off + 1, none⟩ = some (sv b) := (cell_of_same (hb1.block _ (by simp; omega))).trans (by go_simp)
    have e1 : ∀ o, (w1.alloc o).cell? ⟨blk, off + 1, none⟩ = some (sv b) := fun o => (World.cell?_alloc_past _ _ _ (by omega)).trans d1
    have p1 : w1.cell? ⟨w.heap.size, 0, none⟩ = some (.int .i64 0) := (cell_of_same (hb1.block _ (by simp))).trans (by go_simp)
    go_wp2_with (go_at_call 43; refine (hnn _ ?_).mono ?_)
    · exact glob_go hG (Nat.le_refl _) (((((Below.refl _ w).alloc (Nat.le_refl _) _)).trans (hb1.mono (by simp))).alloc (by omega) _)
    · rintro e w2 ⟨rfl, hb2⟩
      have q0 : w2.cell? ⟨w1.heap.size, 0, none⟩ = some (.int .i64 k) := (cell_of_same (hb2.block _ (by simp))).trans (by go_simp)
      have q1 : w2.cell? ⟨w1.heap.size, 1, none⟩ = some (.int .i64 0) := (cell_of_same (hb2.block _ (by simp))).trans (by go_simp)
      have q2 : w2.cell? ⟨w1.heap.size, 2, none⟩ = some (.slice none 0 0) := (cell_of_same (hb2.block _ (by simp))).trans (by go_simp)
      have q3 : w2.cell? ⟨w1.heap.size, 3, none⟩ = some (.int .i64 0) := (cell_of_same (hb2.block _ (by simp))).trans (by go_simp)
      have g0 : w2.frozen? ⟨w1.heap.size, 0, none⟩ = false := (froz_same (hb2.block _ (by simp))).trans (by go_simp)
      have g1 : w2.frozen? ⟨w1.heap.size, 1, none⟩ = false := (froz_same (hb2.block _ (by simp))).trans (by go_simp)
      have g2 : w2.frozen? ⟨w1.heap.size, 2, none⟩ = false := (froz_same (hb2.block _ (by simp))).trans (by go_simp)
      have g3 : w2.frozen? ⟨w1.heap.size, 3, none⟩ = false := (froz_same (hb2.block _ (by simp))).trans (by go_simp)
      have lt2 : w.heap.size < w1.heap.size := z1
      have r0 : w2.cell? ⟨w.heap.size, 0, none⟩ = some (.int .i64 0) := (cell_of_same (hb2.block _ (by simp; omega))).trans ((World.cell?_alloc_past _ _ _ (by omega)).trans ((cell_of_same (hb1.block _ (by simp))).trans (by go_simp)))
      have s0 : w2.frozen? ⟨w.heap.size, 0, none⟩ = false := (froz_same (hb2.block _ (by simp; omega))).trans ((World.frozen?_alloc_past _ _ _ (by omega)).trans ((froz_same (hb1.block _ (by simp))).trans (by go_simp)))
      have r1 : w2.cell? ⟨w.heap.size, 1, none⟩ = some (.int .i64 0) := (cell_of_same (hb2.block _ (by simp; omega))).trans ((World.cell?_alloc_past _ _ _ (by omega)).trans ((cell_of_same (hb1.block _ (by simp))).trans (by go_simp)))
      have s1 : w2.frozen? ⟨w.heap.size, 1, none⟩ = false := (froz_same (hb2.block _ (by simp; omega))).trans ((World.frozen?_alloc_past _ _ _ (by omega)).trans ((froz_same (hb1.block _ (by simp))).trans (by go_simp)))
      have r2 : w2.cell? ⟨w.heap.size, 2, none⟩ = some (.slice none 0 0) := (cell_of_same (hb2.block _ (by simp; omega))).trans ((World.cell?_alloc_past _ _ _ (by omega)).trans ((cell_of_same (hb1.block _ (by simp))).trans (by go_simp)))
      have s2 : w2.frozen? ⟨w.heap.size, 2, none⟩ = false := (froz_same (hb2.block _ (by simp; omega))).trans ((World.frozen?_alloc_past _ _ _ (by omega)).trans ((froz_same (hb1.block _ (by simp))).trans (by go_simp)))
      have r3 : w2.cell? ⟨w.heap.size, 3, none⟩ = some (.int .i64 0) := (cell_of_same (hb2.block _ (by simp; omega))).trans ((World.cell?_alloc_past _ _ _ (by omega)).trans ((cell_of_same (hb1.block _ (by simp))).trans (by go_simp)))
      have s3 : w2.frozen? ⟨w.heap.size, 3, none⟩ = false := (froz_same (hb2.block _ (by simp; omega))).trans ((World.frozen?_alloc_past _ _ _ (by omega)).trans ((froz_same (hb1.block _ (by simp))).trans (by go_simp)))
      have u0 : (w2.setCell ⟨w1.heap.size, 1, none⟩ (.int .i64 m)).cell? ⟨w1.heap.size, 0, none⟩ = some (.int .i64 k) := (World.cell?_setCell_other _ ⟨w1.heap.size, 1, none⟩ ⟨w1.heap.size, 0, none⟩ _ (by simp)).trans q0
      have u1 : (w2.setCell ⟨w1.heap.size, 1, none⟩ (.int .i64 m)).cell? ⟨w1.heap.size, 1, none⟩ = some (.int .i64 m) := World.cell?_setCell_same _ _ _ q1
      have u2 : (w2.setCell ⟨w1.heap.size, 1, none⟩ (.int .i64 m)).cell? ⟨w1.heap.size, 2, none⟩ = some (.slice none 0 0) := (World.cell?_setCell_other _ ⟨w1.heap.size, 1, none⟩ ⟨w1.heap.size, 2, none⟩ _ (by simp)).trans q2
      have u3 : (w2.setCell ⟨w1.heap.size, 1, none⟩ (.int .i64 m)).cell? ⟨w1.heap.size, 3, none⟩ = some (.int .i64 0) := (World.cell?_setCell_other _ ⟨w1.heap.size, 1, none⟩ ⟨w1.heap.size, 3, none⟩ _ (by simp)).trans q3
      have ne : ∀ i j : Nat, (⟨w1.heap.size, i, none⟩ : Addr) ≠ ⟨w.heap.size, j, none⟩ := fun i j h => by
        have := congrArg Addr.block h
        simp at this
        omega
      have x0 : ((w2.setCell ⟨w1.heap.size, 1, none⟩ (.int .i64 m)).setCell ⟨w.heap.size, 0, none⟩ (.int .i64 k)).cell? ⟨w.heap.size, 0, none⟩ = some (.int .i64 k) := World.cell?_setCell_same _ _ _ ((World.cell?_setCell_other _ _ _ _ (ne _ _)).trans r0)
      have x1 : (((w2.setCell ⟨w1.heap.size, 1, none⟩ (.int .i64 m)).setCell ⟨w.heap.size, 0, none⟩ (.int .i64 k)).setCell ⟨w.heap.size, 1, none⟩ (.int .i64 m)).cell? ⟨w.heap.size, 1, none⟩ = some (.int .i64 m) := World.cell?_setCell_same _ _ _ ((World.cell?_setCell_other _ ⟨w.heap.size, 0, none⟩ ⟨w.heap.size, 1, none⟩ _ (by simp)).trans ((World.cell?_setCell_other _ _ _ _ (ne _ _)).trans r1))
      have x2 : ((((w2.setCell ⟨w1.heap.size, 1, none⟩ (.int .i64 m)).setCell ⟨w.heap.size, 0, none⟩ (.int .i64 k)).setCell ⟨w.heap.size, 1, none⟩ (.int .i64 m)).setCell ⟨w.heap.size, 2, none⟩ (.slice none 0 0)).cell? ⟨w.heap.size, 2, none⟩ = some (.slice none 0 0) := World.cell?_setCell_same _ _ _ ((World.cell?_setCell_other _ ⟨w.heap.size, 1, none⟩ ⟨w.heap.size, 2, none⟩ _ (by simp)).trans ((World.cell?_setCell_other _ ⟨w.heap.size, 0, none⟩ ⟨w.heap.size, 2, none⟩ _ (by simp)).trans ((World.cell?_setCell_other _ _ _ _ (ne _ _)).trans r2)))
      have x3 : (((((w2.setCell ⟨w1.heap.size, 1, none⟩ (.int .i64 m)).setCell ⟨w.heap.size, 0, none⟩ (.int .i64 k)).setCell ⟨w.heap.size, 1, none⟩ (.int .i64 m)).setCell ⟨w.heap.size, 2, none⟩ (.slice none 0 0)).setCell ⟨w.heap.size, 3, none⟩ (.int .i64 0)).cell? ⟨w.heap.size, 3, none⟩ = some (.int .i64 0) := World.cell?_setCell_same _ _ _ ((World.cell?_setCell_other _ ⟨w.heap.size, 2, none⟩ ⟨w.heap.size, 3, none⟩ _ (by simp)).trans ((World.cell?_setCell_other _ ⟨w.heap.size, 1, none⟩ ⟨w.heap.size, 3, none⟩ _ (by simp)).trans ((World.cell?_setCell_other _ ⟨w.heap.size, 0, none⟩ ⟨w.heap.size, 3, none⟩ _ (by simp)).trans ((World.cell?_setCell_other _ _ _ _ (ne _ _)).trans r3))))
      have hk0 : decide (0 < k) = true := decide_eq_true k0
      go_wp2
      all_goals (try (exfalso; simp_all; done))
      go_region_calls
      all_goals
        go_wp2
        (try simp only [Exit.inBlock, Exit.then])
        refine bodyPost_ret (by simp [results, Tryd.results53, go_sem, x0, x1, x2, x3]; try rfl) rfl ?_
        refine ⟨rfl, ?_⟩
        have b2 : Below w.heap.size w w2 := ((((((Below.refl _ w).alloc (Nat.le_refl _) _)).trans (hb1.mono (by simp))).alloc (by omega) _)).trans (hb2.mono (by simp; omega))
        go_grown

theorem u22 : Tryd.prog.underlying 22 = some (.slice 31) := by kernel_rfl
theorem u29 : Tryd.prog.underlying 29 = some (.slice 35) := by kernel_rfl

/-- An act as its cells. -/
def actC (k m : Int) (calls : Value) : List Value := [.int .i64 k, .int .i64 m, calls, .int .i64 0]

/-- A list of one's own, in its block. -/
structure Lst (w : World) (g cap n : Nat) (cs : List Value) : Prop where
  at_ : ∃ rest, w.heap[g]? = some (.cells (cs ++ rest).toArray 31 (0, 0)) ∧ (cs ++ rest).length = cap * 4
  len : cs.length = n * 4
  le : n ≤ cap
  max : cap ≤ maxLen

theorem Lst.cell {w : World} {g cap n : Nat} {cs : List Value} (h : Lst w g cap n cs) {j : Nat} {u : Value} (hj : cs[j]? = some u) : w.cell? ⟨g, j, none⟩ = some u := by
  obtain ⟨r, h1, _⟩ := h.at_
  rw [cell_of_heap h1, List.getElem?_toArray]
  exact List.getElem?_append_left (List.getElem?_eq_some_iff.1 hj).1 |>.trans hj

theorem Lst.froz {w : World} {g cap n : Nat} {cs : List Value} (h : Lst w g cap n cs) (j : Nat) : w.frozen? ⟨g, j, none⟩ = false := by
  obtain ⟨r, h1, _⟩ := h.at_
  simp [World.frozen?, h1]

theorem Lst.lt {w : World} {g cap n : Nat} {cs : List Value} (h : Lst w g cap n cs) : g < w.heap.size := by
  obtain ⟨r, h1, _⟩ := h.at_
  exact (Array.getElem?_eq_some_iff.1 h1).1

theorem Lst.go {w w' : World} {g cap n lo : Nat} {cs : List Value} (h : Lst w g cap n cs) (hb : Below lo w w') (hg : g < lo) : Lst w' g cap n cs := by
  obtain ⟨r, h1, h2⟩ := h.at_
  exact ⟨⟨r, (hb.block g hg).trans h1, h2⟩, h.len, h.le, h.max⟩

theorem heap_new (W : World) (X Y : Array Value) (t : TypeId) (s : Nat) (h : W.heap.size = s) (e : X = Y) : (W.alloc (.cells X t)).heap[s]? = some (.cells Y t (0, 0)) := by
  subst h e
  show (W.heap.push _)[W.heap.size]? = _
  simp

theorem Lst.set {w : World} {g cap : Nat} {k m : Int} {x : Value} (h : Lst w g cap 1 (actC k m x)) (u : Value) : Lst (w.setCell ⟨g, 2, none⟩ u) g cap 1 (actC k m u) := by
  obtain ⟨r, h1, h2⟩ := h.at_
  refine ⟨⟨r, ?_, h2⟩, rfl, h.le, h.max⟩
  rw [setCell_eq_setRow w g 2 _ 31 _ u h1]
  exact setRow_heap w g _ _ 31 _ h1

/-- What an answer on room comes to. -/
theorem cut_ok (w : World) (e : TypeId) (n o : Nat) (hn : n ≤ maxLen) (x : Nat) : n ≤ (Question.appendCap n o e).cut x ∧ (Question.appendCap n o e).cut x ≤ maxLen :=
  ⟨grownCap_ge { w with tape := fun _ _ => x } n o e, grownCap_le_maxLen { w with tape := fun _ _ => x } n o e hn⟩

theorem zcount (z : Array Value) (n : Nat) : (Builtin.zeroCells z n).size = n * z.size := by simp [Builtin.zeroCells]

set_option maxHeartbeats 1600000 in
/-- The first line of an act. -/
theorem line_nil {w : World} {s n : Nat} {a b : List UInt8} {v : Value} (hv : Texts w s n [a, b] v) {k m : Int} (ha : a.length ≤ maxLen) (hb : b.length ≤ maxLen) (hG : GlobOk glob w) (hdo : a ≠ [100, 111])
    (hk : P_script_kind (a, ()) = some (k, ())) (hn : P_digits_Num (b, ()) = some (m, (true, ()))) (k4 : ¬ k = 4) (k0 : 0 < k) :
    Calls Tryd.prog 34 #[.slice none 0 0, v] w fun e w' => ∃ g cap, e = .returned (.tuple #[.slice (some ⟨g, 0, none⟩) 1 cap, .int .i64 0]) ∧ Below w.heap.size w w' ∧ w.heap.size ≤ g ∧ Lst w' g cap 1 (actC k m (.slice none 0 0)) := by
  have hact := act_calls hv ha hb hG hk hn k4 k0
  obtain ⟨blk, off, cap, rfl, hblk, c0, c1⟩ := hv.at2
  have hlt : blk < w.heap.size := Nat.lt_of_lt_of_le hblk hv.le
  go_enter Tryd.func34, Tryd.ntmps34
  go_wp2_with (go_at_call 53; refine hact.mono ?_; rintro e w1 ⟨rfl, hb1⟩)
  go_ret2
  have hz := hb1.size
  have hge := grownCap_ge w1 1 0 31
  refine ⟨w1.heap.size + 1 + 1, grownCap w1 1 0 31, rfl, ?_, by omega, ⟨⟨(Builtin.zeroCells #[.int .i64 0, .int .i64 0, .slice none 0 0, .int .i64 0] (grownCap w1 1 0 31 - 1)).toList, ?_, ?_⟩, rfl, hge, grownCap_le_maxLen w1 1 0 31 (by have := maxLen_big; omega)⟩⟩
  · go_grown
  · exact heap_new ((w1.alloc _).alloc _) _ _ 31 _ (by simp) (by simp [actC, grownCap])
  · have hl : ∀ (l : List Value) (A : Array Value), (l ++ A.toList).length = l.length + A.size := fun l A => by simp
    refine (hl _ _).trans ?_
    rw [zcount]
    show 4 + (grownCap w1 1 0 31 - 1) * 4 = _
    omega

abbrev callT : Ty := .pair (.int .i64) (.pair (.int .i64) (.pair .str (.pair .str (.pair (.slice .str) (.pair .str (.pair .str (.pair (.int .i64) .unit)))))))

/-- A call of a kind, of another kind, as its cells. -/
def callC (k m : Int) (nv : Value) : List Value := [.int .i64 k, .int .i64 m, sv [], sv [], nv, sv [], sv [], .int .i64 0]

theorem call_calls {W : World} {v : Value} {I : Nat → Nat → Prop} {ws : List (List UInt8)} {k m : Int} (hI : ∀ b o, I b o → b < W.heap.size) (hG : GlobOk glob W) (hr : RepC W I (.slice .str) ws [v])
    (hk : P_script_Call (ws, ()) = some ((k, (m, ([], ([], ([], ([], ([], (0, ())))))))), (0, ()))) :
    Calls Tryd.prog 10 #[v] W fun e w' => ∃ nb nc I', e = .returned (.tuple #[.agg #[.int .i64 k, .int .i64 m, sv [], sv [], .slice nb 0 nc, sv [], sv [], .int .i64 0], .int .i64 0]) ∧ Below W.heap.size W w' ∧ (∀ b o, I' b o → b < w'.heap.size) ∧ (∀ b o, I' b o → ¬ I b o → W.heap.size ≤ b) ∧
      RepC w' I' (.slice .str) ([] : List (List UInt8)) [.slice nb 0 nc] ∧ (k : Int) ≤ IntKind.i64.max ∧ IntKind.i64.min ≤ k ∧ m ≤ IntKind.i64.max ∧ IntKind.i64.min ≤ m := by
  refine (h_script_Call.calls I W #[v] (ws, ()) _ hI hG ⟨[v], [], rfl, hr, rfl⟩ hk).mono ?_
  rintro e w' ⟨u, I', rfl, hw, _, h1, h2, hr⟩
  obtain ⟨arr, hv, x1, r1, e1, ⟨c1, hc1, f1⟩, x2, r2, e2, ⟨c2, ⟨rfl, _⟩, f2⟩, e3⟩ := hr
  obtain rfl : u = .tuple arr := List.head_eq_of_cons_eq hv
  obtain rfl := List.head_eq_of_cons_eq f2
  have e3 : r2 = [] := e3
  subst e3 e2
  obtain ⟨d1, g1, rfl, ⟨rfl, k1, k2⟩, d2, g2, rfl, ⟨rfl, m1, m2⟩, d3, g3, rfl, ⟨rfl, _⟩, d4, g4, rfl, ⟨rfl, _⟩, d5, g5, rfl, h5, d6, g6, rfl, ⟨rfl, _⟩, d7, g7, rfl, ⟨rfl, _⟩, d8, g8, rfl, ⟨rfl, _⟩, h9⟩ := hc1
  obtain rfl : g8 = [] := h9
  have hl : d5.length = 1 := h5.length
  obtain ⟨nv, rfl⟩ := List.length_eq_one_iff.1 hl
  have hn : ∃ nb nc, nv = .slice nb 0 nc := by
    rcases h5 with ⟨⟨nb, h5⟩, _⟩ | ⟨blk, off, nc, h5, _⟩
    · exact ⟨nb, 0, List.head_eq_of_cons_eq h5⟩
    · exact ⟨_, nc, List.head_eq_of_cons_eq h5⟩
  obtain ⟨nb, nc, rfl⟩ := hn
  obtain rfl := List.head_eq_of_cons_eq f1
  have : arr = #[.agg #[.int .i64 k, .int .i64 m, sv [], sv [], .slice nb 0 nc, sv [], sv [], .int .i64 0], .int .i64 0] := Array.toList_inj.1 e1
  exact ⟨nb, nc, I', by rw [this], hw, h1, h2, h5, k2, k1, m2, m1⟩

/-- Four texts: the first one, and the list of those behind it. -/
theorem Texts.at4 {w : World} {s n : Nat} {a b c d : List UInt8} {v : Value} (h : Texts w s n [a, b, c, d] v) : ∃ blk off cap, v = .slice (some ⟨blk, off, none⟩) 4 cap ∧ 4 ≤ cap ∧ blk < n ∧ w.cell? ⟨blk, off, none⟩ = some (sv a) ∧
    ∃ I : Nat → Nat → Prop, (∀ b o, I b o → s ≤ b ∧ b < n) ∧ RepC w I (.slice .str) [b, c, d] [.slice (some ⟨blk, off + 1, none⟩) 3 (cap - 1)] := by
  obtain ⟨I, h1, h2⟩ := h.rep
  rcases h2 with ⟨_, h2⟩ | ⟨blk, off, cap, h2, h3, h4, h5⟩
  · cases h2
  · have e : ∀ (i : Nat) (s : List UInt8), ([a, b, c, d] : List (List UInt8))[i]? = some s → (w.cell? ⟨blk, off + i, none⟩ = some (sv s) ∧ I blk (off + i)) ∧ RepC w I .str s [sv s] := by
      intro i s hs
      obtain ⟨es, e1, e2, e3⟩ := h5 i s hs
      have e3' := e3
      obtain ⟨rfl, _⟩ := e3
      have := e2 0 _ rfl
      exact ⟨by simpa [Ty.size] using this, e3'⟩
    have h3 : 4 ≤ cap := h3
    refine ⟨blk, off, cap, List.head_eq_of_cons_eq h2, h3, (h1 _ _ (e 0 a rfl).1.2).2, by simpa using (e 0 a rfl).1.1, I, h1, .inr ⟨blk, off + 1, cap - 1, rfl, by show 3 ≤ _; omega, by omega, fun i s hs => ?_⟩⟩
    have hs : ([a, b, c, d] : List (List UInt8))[i + 1]? = some s := hs
    obtain ⟨⟨q1, q2⟩, q3⟩ := e (i + 1) s hs
    refine ⟨[sv s], rfl, fun j u hj => ?_, q3⟩
    cases j with
    | succ j => simp at hj
    | zero =>
      obtain rfl := Option.some.inj hj
      have : off + 1 + i * Ty.str.size + 0 = off + (i + 1) := by simp [Ty.size]; omega
      rw [this]
      exact ⟨q1, q2⟩

theorem row_of_heap {w : World} {g : Nat} {X : Array Value} {t : TypeId} {fr : Nat × Nat} (h : w.heap[g]? = some (.cells X t fr)) {cs r : List Value} (e : X.toList = cs ++ r) : ∀ j u, cs[j]? = some u → w.cell? ⟨g, j, none⟩ = some u := fun j u hj => by
  rw [cell_of_heap h, ← Array.getElem?_toList, e]
  exact (List.getElem?_append_left (List.getElem?_eq_some_iff.1 hj).1).trans hj

theorem set_off (w : World) {b i k : Nat} (v : Value) (h : k ≠ b) : (w.setCell ⟨b, i, none⟩ v).heap[k]? = w.heap[k]? := by
  simp [World.setCell, Array.getElem?_modify, Ne.symm h]

set_option maxHeartbeats 1600000 in
/-- A call, behind the act. -/
theorem line_do {w : World} {s n lo g cap : Nat} {b c d : List UInt8} {v : Value} {m k q : Int} (hv : Texts w s n [[100, 111], b, c, d] v) (hgs : g < s) (hsw : s ≤ w.heap.size) (hL : Lst w g cap 1 (actC 1 m (.slice none 0 0))) (hG : GlobOk glob w) (hlo : lo ≤ g)
    (hk : P_script_Call ([b, c, d], ()) = some ((k, (q, ([], ([], ([], ([], ([], (0, ())))))))), (0, ()))) :
    Calls Tryd.prog 34 #[.slice (some ⟨g, 0, none⟩) 1 cap, v] w fun e w' => ∃ g2 cap2 nb nc I', e = .returned (.tuple #[.slice (some ⟨g, 0, none⟩) 1 cap, .int .i64 0]) ∧ Below lo w w' ∧ Lst w' g cap 1 (actC 1 m (.slice (some ⟨g2, 0, none⟩) 1 cap2)) ∧
      w.heap.size ≤ g2 ∧ g2 < w'.heap.size ∧ 1 ≤ cap2 ∧ cap2 ≤ maxLen ∧ (∀ j u, (callC k q (.slice nb 0 nc))[j]? = some u → w'.cell? ⟨g2, j, none⟩ = some u) ∧ (∀ b o, I' b o → b < w'.heap.size ∧ b ≠ g ∧ s ≤ b) ∧ RepC w' I' (.slice .str) ([] : List (List UInt8)) [.slice nb 0 nc] ∧
      (k : Int) ≤ IntKind.i64.max ∧ IntKind.i64.min ≤ k ∧ q ≤ IntKind.i64.max ∧ IntKind.i64.min ≤ q := by
  obtain ⟨blk, off, wc, rfl, hwc, hblk, c0, I, hI, hr⟩ := hv.at4
  have hlt : blk < w.heap.size := Nat.lt_of_lt_of_le hblk hv.le
  have hcall := call_calls (fun b o h => Nat.lt_of_lt_of_le (hI b o h).2 hv.le) hG hr hk
  have l0 : w.cell? ⟨g, 0, none⟩ = some (.int .i64 1) := hL.cell rfl
  have hglt := hL.lt
  go_enter Tryd.func34, Tryd.ntmps34
  go_wp2_with (go_at_call 10; refine hcall.mono ?_)
  rintro e w1 ⟨nb, nc, I', rfl, hb1, hI1, hI2, hr1, hkq⟩
  have hz1 := hb1.size
  have hL1 := hL.go hb1 hglt
  have m2 : w1.cell? ⟨g, 2, none⟩ = some (.slice none 0 0) := hL1.cell rfl
  have f2 : w1.frozen? ⟨g, 2, none⟩ = false := hL1.froz 2
  have hg1 : g < w1.heap.size := hL1.lt
  have hg2 : g < w1.heap.size + 1 := by omega
  have hg3 : g < w1.heap.size + 1 + 1 := by omega
  have hg4 : g < w1.heap.size + 1 + 1 + 1 := by omega
  have hbl : Below lo w w1 := hb1.mono (by omega)
  have hIg : ∀ b o, I' b o → b < w1.heap.size ∧ b ≠ g ∧ s ≤ b := fun b o h => by
    have h1 := hI1 b o h
    by_cases hi : I b o
    · have := (hI b o hi).1
      exact ⟨h1, by omega, this⟩
    · have := hI2 b o h hi
      exact ⟨h1, by omega, by omega⟩
  have hone : (1 : Nat) ≤ maxLen := by have := maxLen_big; omega
  go_wp2
  go_region_calls
  all_goals
    go_wp2
    go_ret2
    have hset := fun u => hL1.set u
    refine ⟨w1.heap.size + 1 + 1, (Question.appendCap 1 0 35).cut (w1.tape (w1.drawn + 1) (Question.appendCap 1 0 35)), nb, nc, I', rfl, ?_, ?_, ?_, ?_, ?_, ?_, ?_, ?_, ?_, hkq⟩
    · go_grown
    · refine (hset _).go (lo := w1.heap.size) ?_ hg1
      go_grown
    · omega
    · simp
    · exact (cut_ok w1 35 1 0 hone _).1
    · exact (cut_ok w1 35 1 0 hone _).2
    · exact row_of_heap (heap_new (((w1.setCell _ _).alloc _).alloc _) _ _ 35 _ (by simp) rfl) (Array.toList_append ..)
    · intro b o h
      have := hIg b o h
      exact ⟨by simp; omega, this.2⟩
    · refine RepC.mono (fun _ _ x => x) (fun b o x => cell_of_same ?_) hr1
      refine (Below.block (w := w1.setCell ⟨g, 2, none⟩ (.slice (some ⟨w1.heap.size + 1 + 1, 0, none⟩) 1 ((Question.appendCap 1 0 35).cut (w1.tape (w1.drawn + 1) (Question.appendCap 1 0 35))))) ?_ b (hIg b o x).1).trans (set_off w1 _ (hIg b o x).2.1)
      go_grown

theorem i31 : ∃ i z, Tryd.prog.info? 31 = some i ∧ i.size = 4 ∧ i.zero = some z ∧ z.cells = #[.int .i64 0, .int .i64 0, .slice none 0 0, .int .i64 0] ∧ i.bytes ≤ 32768 := by
  have h := T_ok 31 _ (by rfl)
  obtain ⟨i, z, h1, h2, h3, h4⟩ := h.info
  exact ⟨i, z, h1, h2, h3, Array.toList_inj.1 h4, by
    have hb : bytesB Tryd.prog 31 = true := by kernel_rfl
    exact bytes_small hb h1⟩

theorem len4 {α : Type} {l : List α} (h : l.length = 4) : ∃ a b c d, l = [a, b, c, d] := by
  match l, h with
  | [a, b, c, d], _ => exact ⟨a, b, c, d, rfl⟩

theorem set_heap {w : World} {b i : Nat} {cur : Array Value} {T : TypeId} {fr : Nat × Nat} (v : Value) (h : w.heap[b]? = some (.cells cur T fr)) : (w.setCell ⟨b, i, none⟩ v).heap[b]? = some (.cells (cur.setIfInBounds i v) T fr) := by
  rw [setCell_eq_setRow w b i cur T fr v h]
  exact setRow_heap w b cur _ T fr h

/-- An act behind another one: in its block, or in a new one. -/
theorem app_act {w : World} {g cap s : Nat} {cs ds : List Value} (hL : Lst w g cap 1 cs) (hs : ∀ j u, ds[j]? = some u → w.cell? ⟨s, j, none⟩ = some u) (hd : ds.length = 4) (h1 : ∀ u ∈ ds, u.oneCell' = true) (hsg : s ≠ g) :
    ∃ g' cap' w', (Builtin.append_ #[22, 22] 22 #[.slice (some ⟨g, 0, none⟩) 1 cap, .slice (some ⟨s, 0, none⟩) 1 1]).run Tryd.prog w = .ok (.slice (some ⟨g', 0, none⟩) 2 cap') w' ∧ Lst w' g' cap' 2 (cs ++ ds) ∧ (g' = g ∨ g' = w.heap.size) ∧
      w.heap.size ≤ w'.heap.size ∧ (∀ b, b ≠ g → b < w.heap.size → w'.heap[b]? = w.heap[b]?) ∧ w'.os = w.os ∧ w'.tape = w.tape ∧ w'.output = w.output := by
  obtain ⟨i, z, hi, hsz, hz, hzc, hby⟩ := i31
  have hsrc : Src Tryd.prog i.size 22 (.slice (some ⟨s, 0, none⟩) 1 1) 1 ds w := Src.ofSlice w u22 _ 1 1 ds (by rw [hsz, hd]) (fun j u hj => by rw [addr_add, Nat.zero_add]; exact hs j u hj) h1
  obtain ⟨r, hr, hrl⟩ := hL.at_
  have hcl := hL.len
  have hle := hL.le
  have hmax := hL.max
  rw [List.length_append] at hrl
  by_cases hroom : 2 ≤ cap
  · have hc : ∀ j, j < ds.length → (w.cell? ⟨g, 0 + 1 * i.size + j, none⟩).isSome = true := fun j hj => by
      rw [cell_of_heap hr, hsz, List.getElem?_toArray, List.getElem?_eq_getElem (by rw [List.length_append]; omega)]
      rfl
    have := run_append_room_src (P := Tryd.prog) w 22 22 22 31 i u22 hi g 0 1 cap _ 1 ds hsrc hroom hc (fun j hj => hL.froz _)
    obtain ⟨c0, c1, c2, c3, rfl⟩ : ∃ a b c d, cs = [a, b, c, d] := len4 (by omega)
    obtain ⟨d0, d1, d2, d3, rfl⟩ : ∃ a b c d, ds = [a, b, c, d] := len4 hd
    have hrl4 : 4 ≤ r.length := by simp at hrl; omega
    obtain ⟨q0, r, rfl⟩ := List.exists_cons_of_length_pos (l := r) (by omega)
    obtain ⟨q1, r, rfl⟩ := List.exists_cons_of_length_pos (l := r) (by simp at hrl4; omega)
    obtain ⟨q2, r, rfl⟩ := List.exists_cons_of_length_pos (l := r) (by simp at hrl4; omega)
    obtain ⟨q3, r, rfl⟩ := List.exists_cons_of_length_pos (l := r) (by simp at hrl4; omega)
    have hh : ∀ b, b ≠ g → (w.setCells g (0 + 1 * i.size) [d0, d1, d2, d3]).heap[b]? = w.heap[b]? := fun b hb => by
      show (((((w.setCell _ d0).setCell _ d1).setCell _ d2).setCell _ d3).heap[b]?) = _
      rw [set_off _ _ hb, set_off _ _ hb, set_off _ _ hb, set_off _ _ hb]
    refine ⟨g, cap, _, this, ⟨⟨r, ?_, ?_⟩, rfl, hroom, hmax⟩, .inl rfl, by simp [World.setCells], fun b hb _ => hh b hb, rfl, rfl, rfl⟩
    · show (((((w.setCell ⟨g, 0 + 1 * i.size, none⟩ d0).setCell ⟨g, 0 + 1 * i.size + 1, none⟩ d1).setCell ⟨g, 0 + 1 * i.size + 1 + 1, none⟩ d2).setCell ⟨g, 0 + 1 * i.size + 1 + 1 + 1, none⟩ d3).heap[g]?) = _
      rw [hsz]
      refine (set_heap d3 (set_heap d2 (set_heap d1 (set_heap d0 hr)))).trans ?_
      simp
    · simp at hrl ⊢
      omega
  · have hc1 : cap = 1 := by omega
    subst hc1
    have hr0 : r = [] := List.length_eq_zero_iff.1 (by omega)
    subst hr0
    have hfit := growslice_fits (need := 2) (old := 1) (bytes := i.bytes) (by decide) (by omega)
    have hold : (Builtin.firstCells i.size 1 (.slice (some ⟨g, 0, none⟩) 1 1)).run Tryd.prog w.drew = .ok cs.toArray w.drew :=
      run_firstCells_some w.drew i.size 1 ⟨g, 0, none⟩ 1 1 cs (by rw [hsz]; omega) (fun j u hj => by rw [addr_add, Nat.zero_add]; exact hL.cell hj)
    have := run_append_grow_src (P := Tryd.prog) w 22 22 22 31 i z u22 hi hz (some ⟨g, 0, none⟩) 1 1 cs hold _ 1 ds hsrc (by decide) (by decide) hfit
    have hge := grownCap_ge w (1 + 1) 1 31
    refine ⟨w.heap.size, grownCap w (1 + 1) 1 31, _, this, ⟨⟨(Builtin.zeroCells z.cells (grownCap w (1 + 1) 1 31 - (1 + 1))).toList, heap_new w.drew _ _ 31 _ rfl (by simp), ?_⟩, by rw [List.length_append]; omega, hge, grownCap_le_maxLen w _ 1 31 (by have := maxLen_big; omega)⟩, .inr rfl, by simp, ?_, rfl, rfl, rfl⟩
    · have hl : ∀ (l : List Value) (A : Array Value), (l ++ A.toList).length = l.length + A.size := fun l A => by simp
      refine (hl _ _).trans ?_
      rw [zcount, hzc, List.length_append]
      show cs.length + ds.length + (grownCap w (1 + 1) 1 31 - (1 + 1)) * 4 = _
      omega
    · intro b hb hlt
      exact Below.heap_alloc w.drew _ b hlt

omit [Lp] in
theorem append_wp {P : Program} {o : Oper} {a : Act} {w w' : World} {x y : Operand} {t u : TypeId} {v : Value} {next : Act → World → Prop} {Q : Exit → Act → World → Prop} (ho : o.op = .call { callee := .builtin .append, args := #[x, y], argTypes := #[t, u] })
    (h : (Builtin.append_ #[t, u] o.type #[a.eval x, a.eval y]).run P w = .ok v w') (hk : next (a.put o.dst v) w') : o.wp P a w next Q := by
  have e : (execOp a.eval o).run P w = .ok (.value v) w' := by
    have e2 : (execOp a.eval o).run P w = ((Builtin.append_ #[t, u] o.type (Array.map a.eval #[x, y])).run P w).andThen fun v w => .ok (.value v) w := by
      unfold execOp
      simp only [ho, resolve, invoke, builtin]
      simp only [pure_bind, Sem.run_bind, Sem.run_pure, Result.andThen_ok]
    rw [e2, show Array.map a.eval #[x, y] = #[a.eval x, a.eval y] from by simp, h]
    rfl
  unfold Oper.wp
  rw [e]
  exact hk

set_option maxHeartbeats 1600000 in
/-- A line more of an act. -/
theorem line_more {w : World} {s n lo g cap : Nat} {a b : List UInt8} {v x : Value} {m k p : Int} (hv : Texts w s n [a, b] v) (hL : Lst w g cap 1 (actC 1 m x)) (hlo : lo ≤ g) (hG : GlobOk glob w) (ha : a.length ≤ maxLen) (hb : b.length ≤ maxLen) (hdo : a ≠ [100, 111])
    (hk : P_script_kind (a, ()) = some (k, ())) (hn : P_digits_Num (b, ()) = some (p, (true, ()))) (k4 : ¬ k = 4) (k0 : 0 < k) :
    Calls Tryd.prog 34 #[.slice (some ⟨g, 0, none⟩) 1 cap, v] w fun e w' => ∃ g' cap', e = .returned (.tuple #[.slice (some ⟨g', 0, none⟩) 2 cap', .int .i64 0]) ∧ Below lo w w' ∧ lo ≤ g' ∧ Lst w' g' cap' 2 (actC 1 m x ++ actC k p (.slice none 0 0)) ∧
      (∀ b, b ≠ g → b < w.heap.size → w'.heap[b]? = w.heap[b]?) ∧ (g' = g ∨ w.heap.size ≤ g') := by
  have hact := act_calls hv ha hb hG hk hn k4 k0
  obtain ⟨blk, off, wc, rfl, hblk, c0, c1⟩ := hv.at2
  have hlt : blk < w.heap.size := Nat.lt_of_lt_of_le hblk hv.le
  have hglt := hL.lt
  go_enter Tryd.func34, Tryd.ntmps34
  go_wp2_with (go_at_call 53; refine hact.mono ?_)
  rintro e w1 ⟨rfl, hb1⟩
  have hz1 := hb1.size
  have hL1 := hL.go hb1 hglt
  let A := w1.alloc (.cells #[.int .i64 k, .int .i64 p, .slice none 0 0, .int .i64 0] 31)
  let W := A.alloc (.cells #[.int .i64 k, .int .i64 p, .slice none 0 0, .int .i64 0] 31)
  have hA : Below w1.heap.size w1 W := by
    refine ((Below.refl _ w1).alloc (Nat.le_refl _) _).alloc ?_ _
    simp
  have hLW : Lst W g cap 1 (actC 1 m x) := hL1.go hA hL1.lt
  have hWs : W.heap.size = w1.heap.size + 2 := by simp [W, A]
  obtain ⟨g', cap', w', happ, hL', hgg, hsz, hoth, ho1, ho2, ho3⟩ := app_act (s := w1.heap.size + 1) (ds := actC k p (.slice none 0 0)) hLW (row_of_heap (heap_new A _ _ 31 _ (by simp [A]) rfl) (r := []) (by simp [actC])) rfl (by intro u hu; simp [actC] at hu; rcases hu with rfl | rfl | rfl | rfl <;> rfl) (by have := hL1.lt; omega)
  have happ' : (Builtin.append_ #[22, 22] 22 #[.slice (some ⟨g, 0, none⟩) 1 cap, .slice (some ⟨w1.heap.size + 1, 0, none⟩) 1 1]).run Tryd.prog ((w1.alloc (.cells #[.int .i64 k, .int .i64 p, .slice none 0 0, .int .i64 0] 31)).alloc (.cells #[.int .i64 k, .int .i64 p, .slice none 0 0, .int .i64 0] 31)) = .ok (.slice (some ⟨g', 0, none⟩) 2 cap') w' := happ
  clear happ
  go_wp2_with (at_builtin; refine wpList_plain rfl (fun K hK => append_wp rfl happ' (hK _ _ ?_)))
  go_ret2
  have hgA : g < W.heap.size := hLW.lt
  have hb0 : Below lo w W := (hb1.mono (by omega)).trans (hA.mono (by omega))
  have hoff : ∀ b, b ≠ g → b < w.heap.size → w'.heap[b]? = w.heap[b]? := fun b hb hlt => ((hoth b hb (by omega)).trans (hA.block b (by omega))).trans (hb1.block b hlt)
  have hbw : Below lo W w' := ⟨ho1, ho2, ho3, hsz, fun b hb => hoth b (by omega) (by omega)⟩
  refine ⟨g', cap', rfl, hb0.trans hbw, ?_, hL', hoff, ?_⟩
  · rcases hgg with rfl | rfl <;> omega
  · rcases hgg with rfl | rfl
    · exact .inl rfl
    · exact .inr (by omega)

abbrev tQ : List UInt8 := [113, 117, 111, 116, 97, 32, 52, 48, 57, 54]
abbrev tS : List UInt8 := [115, 112, 97, 119, 110, 32, 49]
abbrev tD : List UInt8 := [100, 111, 32, 49, 53, 32, 111, 102, 32, 51]
abbrev tP : List UInt8 := [112, 105, 99, 107, 32, 49]
theorem fA : P_strings_Split (tA, ([10], ())) = some ([tQ, tS, tD, tP, []], ()) := by
  obtain rfl : ‹Lp› = Lp.fast := Lp.one _ _
  kernel_rfl
theorem fB : P_strings_Split (tB, ([10], ())) = some ([tQ, tD, []], ()) := by
  obtain rfl : ‹Lp› = Lp.fast := Lp.one _ _
  kernel_rfl
theorem fQ : P_strings_Split (tQ, ([32], ())) = some ([[113, 117, 111, 116, 97], [52, 48, 57, 54]], ()) := by
  obtain rfl : ‹Lp› = Lp.fast := Lp.one _ _
  kernel_rfl
theorem fS : P_strings_Split (tS, ([32], ())) = some ([[115, 112, 97, 119, 110], [49]], ()) := by
  obtain rfl : ‹Lp› = Lp.fast := Lp.one _ _
  kernel_rfl
theorem fP : P_strings_Split (tP, ([32], ())) = some ([[112, 105, 99, 107], [49]], ()) := by
  obtain rfl : ‹Lp› = Lp.fast := Lp.one _ _
  kernel_rfl
theorem fD : P_strings_Split (tD, ([32], ())) = some ([[100, 111], [49, 53], [111, 102], [51]], ()) := by
  obtain rfl : ‹Lp› = Lp.fast := Lp.one _ _
  kernel_rfl
theorem fq : P_script_quota ([[113, 117, 111, 116, 97], [52, 48, 57, 54]], ()) = some (4096, (true, ())) := by
  obtain rfl : ‹Lp› = Lp.fast := Lp.one _ _
  kernel_rfl
theorem fks : P_script_kind ([115, 112, 97, 119, 110], ()) = some (1, ()) := by
  obtain rfl : ‹Lp› = Lp.fast := Lp.one _ _
  kernel_rfl
theorem fkp : P_script_kind ([112, 105, 99, 107], ()) = some (2, ()) := by
  obtain rfl : ‹Lp› = Lp.fast := Lp.one _ _
  kernel_rfl
theorem fn : P_digits_Num ([49], ()) = some (1, (true, ())) := by
  obtain rfl : ‹Lp› = Lp.fast := Lp.one _ _
  kernel_rfl
theorem fc : P_script_Call ([[49, 53], [111, 102], [51]], ()) = some ((15, (3, ([], ([], ([], ([], ([], (0, ())))))))), (0, ())) := by
  obtain rfl : ‹Lp› = Lp.fast := Lp.one _ _
  kernel_rfl

theorem split_calls {a c : List UInt8} {l : List (List UInt8)} (ha : a.length ≤ maxLen) (hc : c.length ≤ maxLen) (hk : P_strings_Split (a, (c, ())) = some (l, ())) (W : World) (hG : GlobOk glob W) :
    Calls Tryd.prog 33 #[sv a, sv c] W fun e w' => ∃ v, e = .returned v ∧ Below W.heap.size W w' ∧ Texts w' W.heap.size w'.heap.size l v := by
  refine (h_strings_Split.calls (fun _ _ => False) W #[sv a, sv c] (a, (c, ())) (l, ()) (fun _ _ h => h.elim) hG ⟨[sv a], [sv c], rfl, ⟨rfl, ha⟩, [sv c], [], rfl, ⟨rfl, hc⟩, rfl⟩ hk).mono ?_
  rintro e w' ⟨v, I', rfl, hw, _, h1, h2, cs, hcs, hv⟩
  obtain rfl := List.head_eq_of_cons_eq hv
  have hl : cs.length = 1 := hcs.length
  obtain ⟨x, rfl⟩ := List.length_eq_one_iff.1 hl
  exact ⟨x, rfl, hw, Nat.le_refl _, I', fun b o h => ⟨h2 b o h (fun q => q), h1 b o h⟩, hcs⟩

theorem quota_calls {W : World} {s n : Nat} {l : List (List UInt8)} {v : Value} {k : Int} {ok : Bool} (hv : Texts W s n l v) (hG : GlobOk glob W) (hk : P_script_quota (l, ()) = some (k, (ok, ()))) :
    Calls Tryd.prog 35 #[v] W fun e w' => e = .returned (.tuple #[.int .i64 k, .bool ok]) ∧ Below W.heap.size W w' := by
  obtain ⟨I, hI, hr⟩ := hv.rep
  refine (h_script_quota.calls I W #[v] (l, ()) (k, (ok, ())) (fun b o h => Nat.lt_of_lt_of_le (hI b o h).2 hv.le) hG ⟨[v], [], rfl, hr, rfl⟩ hk).mono ?_
  rintro e w' ⟨v, I', rfl, hw, _, _, _, hr⟩
  refine ⟨?_, hw⟩
  obtain ⟨arr, hv, x1, r1, e1, ⟨c1, ⟨rfl, _⟩, f1⟩, x2, r2, e2, ⟨c2, hc2, f2⟩, e3⟩ := hr
  obtain rfl : v = .tuple arr := List.head_eq_of_cons_eq hv
  obtain rfl := List.head_eq_of_cons_eq f1
  have hc2 : c2 = [.bool ok] := hc2
  subst hc2
  obtain rfl := List.head_eq_of_cons_eq f2
  have e3 : r2 = [] := e3
  subst e3 e2
  have : arr = #[.int .i64 k, .bool ok] := Array.toList_inj.1 e1
  rw [this]

set_option maxHeartbeats 1600000 in
theorem act_bad {w : World} {blk off cap : Nat} : Calls Tryd.prog 53 #[.slice (some ⟨blk, off, none⟩) 4 cap] w fun e w' => e = .returned (.tuple #[.agg #[.int .i64 0, .int .i64 0, .slice none 0 0, .int .i64 0], .bool false]) ∧ Below w.heap.size w w' := by
  go_enter Tryd.func53, Tryd.ntmps53
  go_wp2
  (try simp only [Exit.inBlock, Exit.then])
  refine bodyPost_ret (by simp [results, Tryd.results53, go_sem]; try rfl) rfl ?_
  refine ⟨rfl, ?_⟩
  go_grown

set_option maxHeartbeats 1600000 in
/-- A call where there is no act. -/
theorem line_bad {w : World} {s n : Nat} {b c d : List UInt8} {v : Value} (hv : Texts w s n [[100, 111], b, c, d] v) :
    Calls Tryd.prog 34 #[.slice none 0 0, v] w fun e w' => e = .returned (.tuple #[.slice none 0 0, .int .i64 2]) ∧ Below w.heap.size w w' := by
  obtain ⟨blk, off, wc, rfl, hwc, hblk, c0, I, hI, hr⟩ := hv.at4
  have hact := act_bad (w := w) (blk := blk) (off := off) (cap := wc)
  go_enter Tryd.func34, Tryd.ntmps34
  go_wp2_with (go_at_call 53; refine hact.mono ?_; rintro e w1 ⟨rfl, hb1⟩)
  go_ret2
  refine ⟨rfl, ?_⟩
  have := hb1.size
  go_grown

theorem Texts.at_ {w : World} {s n : Nat} {l : List (List UInt8)} {v : Value} (h : Texts w s n l v) (hl : l ≠ []) : ∃ blk off cap, v = .slice (some ⟨blk, off, none⟩) l.length cap ∧ l.length ≤ cap ∧ blk < n ∧ ∀ W, Below n w W → ∀ (i : Nat) (t : List UInt8), l[i]? = some t → W.cell? ⟨blk, off + i, none⟩ = some (sv t) := by
  obtain ⟨I, h1, h2⟩ := h.rep
  rcases h2 with ⟨_, h2⟩ | ⟨blk, off, cap, h2, h3, h4, h5⟩
  · exact absurd h2 hl
  · have e : ∀ (i : Nat) (t : List UInt8), l[i]? = some t → w.cell? ⟨blk, off + i, none⟩ = some (sv t) ∧ I blk (off + i) := by
      intro i t ht
      obtain ⟨es, e1, e2, e3⟩ := h5 i t ht
      obtain ⟨rfl, _⟩ := e3
      have := e2 0 _ rfl
      simpa [Ty.size] using this
    have hb : blk < n := by
      cases l with
      | nil => exact absurd rfl hl
      | cons t r => exact (h1 _ _ (e 0 t rfl).2).2
    exact ⟨blk, off, cap, List.head_eq_of_cons_eq h2, h3, hb, fun W hW i t ht => (cell_of_same (hW.block blk hb)).trans (e i t ht).1⟩

abbrev actT : Ty := .pair (.int .i64) (.pair (.int .i64) (.pair (.slice callT) (.pair (.int .i64) .unit)))

set_option maxHeartbeats 3200000 in
theorem parse_one {w : World} (hG : GlobOk glob w) : Calls Tryd.prog 11 #[sv tA] w fun e w' => ∃ g cap I', e = .returned (.tuple #[.int .i64 4096, .slice (some ⟨g, 0, none⟩) 2 cap, .int .i64 0, .int .i64 0]) ∧ Below w.heap.size w w' ∧ (∀ b o, I' b o → b < w'.heap.size ∧ w.heap.size ≤ b) ∧
    RepC w' I' (.slice actT) acts [.slice (some ⟨g, 0, none⟩) 2 cap] := by
  have hml := maxLen_big
  have hs := split_calls (a := tA) (c := [10]) (by simp; omega) (by simp; omega) fA w hG
  go_enter Tryd.func11, Tryd.ntmps11
  go_wp2_with (go_at_call 33; refine hs.mono ?_)
  rintro e w1 ⟨v, rfl, hb1, hT⟩
  obtain ⟨blk, off, lc, rfl, hlc, hblk, hcell⟩ := hT.at_ (by simp)
  have hlc : 5 ≤ lc := hlc
  have hz1 := hb1.size
  have hG1 := glob_go hG (Nat.le_refl _) hb1
  have a0 : w1.cell? ⟨blk, off, none⟩ = some (sv tQ) := hcell w1 (Below.refl _ _) 0 _ rfl
  have a4 : w1.cell? ⟨blk, off + 4, none⟩ = some (sv []) := hcell w1 (Below.refl _ _) 4 _ rfl
  have hs1 := split_calls (a := tQ) (c := [32]) (by simp; omega) (by simp; omega) fQ w1 hG1
  go_wp2_with fail
  refine wp_loop_rounds 5 ?_
  rw [rounds_succ]
  go_wp2_with (go_at_call 33; refine hs1.mono ?_)
  rintro e w2 ⟨v2, rfl, hb2, hT2⟩
  have hz2 := hb2.size
  have hb12 : Below w1.heap.size w1 w2 := hb2
  have hG2 := glob_go hG1 (Nat.le_refl _) hb2
  go_wp2_with (go_at_call 35; refine (quota_calls hT2 hG2 fq).mono ?_)
  rintro e w3 ⟨rfl, hb3⟩
  have hz3 := hb3.size
  have hb13 : Below w1.heap.size w1 w3 := hb12.trans (hb3.mono (by omega))
  have hG3 := glob_go hG2 (Nat.le_refl _) hb3
  have b1 : w3.cell? ⟨blk, off + 1, none⟩ = some (sv tS) := hcell w3 hb13 1 _ rfl
  have hs3 := split_calls (a := tS) (c := [32]) (by simp; omega) (by simp; omega) fS w3 hG3
  go_wp2_with fail
  rw [rounds_succ]
  go_wp2_with (go_at_call 33; refine hs3.mono ?_)
  rintro e w4 ⟨v4, rfl, hb4, hT4⟩
  have hz4 := hb4.size
  have hG4 := glob_go hG3 (Nat.le_refl _) hb4
  have hl4 := line_nil hT4 (by simp; omega) (by simp; omega) hG4 (by decide) fks fn (by decide) (by decide)
  go_wp2_with (go_at_call 34; refine hl4.mono ?_)
  rintro e w5 ⟨g, gc, rfl, hb5, hg5, hL5⟩
  have hz5 := hb5.size
  have hG5 := glob_go hG4 (Nat.le_refl _) hb5
  have hb15 : Below w1.heap.size w1 w5 := (hb13.trans (hb4.mono (by omega))).trans (hb5.mono (by omega))
  have c2 : w5.cell? ⟨blk, off + 2, none⟩ = some (sv tD) := hcell w5 hb15 2 _ rfl
  have hs5 := split_calls (a := tD) (c := [32]) (by simp; omega) (by simp; omega) fD w5 hG5
  go_wp2_with fail
  rw [rounds_succ]
  go_wp2_with (go_at_call 33; refine hs5.mono ?_)
  rintro e w6 ⟨v6, rfl, hb6, hT6⟩
  have hz6 := hb6.size
  have hG6 := glob_go hG5 (Nat.le_refl _) hb6
  have hg5' := hL5.lt
  have hL6 := hL5.go hb6 hg5'
  have hl6 := line_do (lo := w1.heap.size) hT6 hg5' hz6 hL6 hG6 (by omega) fc
  go_wp2_with (go_at_call 34; refine hl6.mono ?_)
  rintro e w7 ⟨g2, cap2, nb, nc, I2, rfl, hb7, hL7, hg2, hg2', hc2, hc2', hrow, hI2, hr2, hkq⟩
  have hz7 := hb7.size
  have hb17 : Below w1.heap.size w1 w7 := (hb15.trans (hb6.mono (by omega))).trans hb7
  have hG7 := glob_go hG (Nat.le_refl _) (hb1.trans (hb17.mono hz1))
  have d3 : w7.cell? ⟨blk, off + 3, none⟩ = some (sv tP) := hcell w7 hb17 3 _ rfl
  have hs7 := split_calls (a := tP) (c := [32]) (by simp; omega) (by simp; omega) fP w7 hG7
  go_wp2_with fail
  rw [rounds_succ]
  go_wp2_with (go_at_call 33; refine hs7.mono ?_)
  rintro e w8 ⟨v8, rfl, hb8, hT8⟩
  have hz8 := hb8.size
  have hG8 := glob_go hG7 (Nat.le_refl _) hb8
  have hL8 := hL7.go hb8 hL7.lt
  have hl8 := line_more (lo := w1.heap.size) hT8 hL8 (by omega) hG8 (by simp; omega) (by simp; omega) (by decide) fkp fn (by decide) (by decide)
  go_wp2_with (go_at_call 34; refine hl8.mono ?_)
  rintro e w9 ⟨g', cap', rfl, hb9, hg', hL9, hoff, hgg⟩
  have hb19 : Below w1.heap.size w1 w9 := (hb17.trans (hb8.mono (by omega))).trans hb9
  have e4 : w9.cell? ⟨blk, off + 4, none⟩ = some (sv []) := hcell w9 hb19 4 _ rfl
  go_wp2_with fail
  rw [rounds_succ]
  go_wp2_with fail
  refine bodyPost_ret (by simp [results, Tryd.results11, go_sem]; try rfl) rfl ?_
  have hz9 := hb19.size
  have hz98 := hb9.size
  have row9 : ∀ b o, b ≠ g → b < w8.heap.size → w9.cell? ⟨b, o, none⟩ = w8.cell? ⟨b, o, none⟩ := fun b o hb hlt => cell_of_same (hoff b hb hlt)
  have row8 : ∀ b o, b < w7.heap.size → w8.cell? ⟨b, o, none⟩ = w7.cell? ⟨b, o, none⟩ := fun b o hlt => cell_of_same (hb8.block b hlt)
  have hg9 := hL9.lt
  refine ⟨g', cap', fun b o => b = g' ∨ b = g2 ∨ I2 b o, rfl, hb1.trans (hb19.mono hz1), ?_, ?_⟩
  · rintro b o (rfl | rfl | h)
    · exact ⟨hg9, by omega⟩
    · exact ⟨by omega, by omega⟩
    · have := hI2 b o h
      exact ⟨by omega, by omega⟩
  · have hI9 : RepC w9 (fun b o => b = g' ∨ b = g2 ∨ I2 b o) (.slice .str) ([] : List (List UInt8)) [.slice nb 0 nc] :=
      RepC.mono (fun b o h => .inr (.inr h)) (fun b o h => (row9 b o (hI2 b o h).2.1 (by have := (hI2 b o h).1; omega)).trans (row8 b o (hI2 b o h).1)) hr2
    have hcall : RepC w9 (fun b o => b = g' ∨ b = g2 ∨ I2 b o) (.slice callT) ([(15, (3, ([], ([], ([], ([], ([], (0, ()))))))))] : List CallD) [.slice (some ⟨g2, 0, none⟩) 1 cap2] := by
      refine .inr ⟨g2, 0, cap2, rfl, hc2, hc2', fun i x hx => ?_⟩
      have hx : ([(15, (3, ([], ([], ([], ([], ([], (0, ()))))))))] : List CallD)[i]? = some x := hx
      cases i with
      | succ i => simp at hx
      | zero =>
        obtain rfl := (Option.some.inj hx)
        refine ⟨callC 15 3 (.slice nb 0 nc), rfl, fun j u hj => ⟨?_, .inr (.inl rfl)⟩, ?_⟩
        · have := hrow j u hj
          rw [Nat.zero_mul, Nat.zero_add]
          exact ((row9 g2 j (by omega) (by omega)).trans (row8 g2 j hg2')).trans this
        · exact ⟨[_], _, rfl, ⟨rfl, by decide, by decide⟩, [_], _, rfl, ⟨rfl, by decide, by decide⟩, [_], _, rfl, ⟨rfl, by decide⟩, [_], _, rfl, ⟨rfl, by decide⟩, [_], _, rfl, hI9, [_], _, rfl, ⟨rfl, by decide⟩, [_], _, rfl, ⟨rfl, by decide⟩, [_], [], rfl, ⟨rfl, by decide, by decide⟩, rfl⟩
    refine .inr ⟨g', 0, cap', rfl, hL9.le, hL9.max, fun i x hx => ?_⟩
    have hx : acts[i]? = some x := hx
    have hc9 : ∀ {j : Nat} {u : Value}, (actC 1 1 (.slice (some ⟨g2, 0, none⟩) 1 cap2) ++ actC 2 1 (.slice none 0 0))[j]? = some u → w9.cell? ⟨g', j, none⟩ = some u := fun h => hL9.cell h
    match i, hx with
    | 0, hx =>
      obtain rfl := (Option.some.inj hx)
      refine ⟨actC 1 1 (.slice (some ⟨g2, 0, none⟩) 1 cap2), rfl, fun j u hj => ⟨?_, .inl rfl⟩, ?_⟩
      · rw [Nat.zero_mul, Nat.zero_add]
        exact hc9 ((List.getElem?_append_left (List.getElem?_eq_some_iff.1 hj).1).trans hj)
      · exact ⟨[_], _, rfl, ⟨rfl, by decide, by decide⟩, [_], _, rfl, ⟨rfl, by decide, by decide⟩, [_], _, rfl, hcall, [_], [], rfl, ⟨rfl, by decide, by decide⟩, rfl⟩
    | 1, hx =>
      obtain rfl := (Option.some.inj hx)
      refine ⟨actC 2 1 (.slice none 0 0), rfl, fun j u hj => ⟨?_, .inl rfl⟩, ?_⟩
      · have : 0 + 1 * (actT : Ty).size + j = (actC 1 1 (.slice (some ⟨g2, 0, none⟩) 1 cap2)).length + j := by
          show 0 + 1 * 4 + j = 4 + j
          omega
        rw [this]
        refine hc9 ?_
        rw [List.getElem?_append_right (by omega), Nat.add_sub_cancel_left]
        exact hj
      · exact ⟨[_], _, rfl, ⟨rfl, by decide, by decide⟩, [_], _, rfl, ⟨rfl, by decide, by decide⟩, [_], _, rfl, .inl ⟨⟨none, rfl⟩, rfl⟩, [_], [], rfl, ⟨rfl, by decide, by decide⟩, rfl⟩
    | i + 2, hx => simp [acts] at hx

set_option maxHeartbeats 3200000 in
theorem parse_two {w : World} (hG : GlobOk glob w) : Calls Tryd.prog 11 #[sv tB] w fun e w' => e = .returned (.tuple #[.int .i64 0, .slice none 0 0, .int .i64 2, .int .i64 2]) ∧ Below w.heap.size w w' := by
  have hml := maxLen_big
  have hs := split_calls (a := tB) (c := [10]) (by simp; omega) (by simp; omega) fB w hG
  go_enter Tryd.func11, Tryd.ntmps11
  go_wp2_with (go_at_call 33; refine hs.mono ?_)
  rintro e w1 ⟨v, rfl, hb1, hT⟩
  obtain ⟨blk, off, lc, rfl, hlc, hblk, hcell⟩ := hT.at_ (by simp)
  have hlc : 3 ≤ lc := hlc
  have hz1 := hb1.size
  have hG1 := glob_go hG (Nat.le_refl _) hb1
  have a0 : w1.cell? ⟨blk, off, none⟩ = some (sv tQ) := hcell w1 (Below.refl _ _) 0 _ rfl
  have a4 : w1.cell? ⟨blk, off + 2, none⟩ = some (sv []) := hcell w1 (Below.refl _ _) 2 _ rfl
  have hs1 := split_calls (a := tQ) (c := [32]) (by simp; omega) (by simp; omega) fQ w1 hG1
  go_wp2_with fail
  refine wp_loop_rounds 5 ?_
  rw [rounds_succ]
  go_wp2_with (go_at_call 33; refine hs1.mono ?_)
  rintro e w2 ⟨v2, rfl, hb2, hT2⟩
  have hz2 := hb2.size
  have hb12 : Below w1.heap.size w1 w2 := hb2
  have hG2 := glob_go hG1 (Nat.le_refl _) hb2
  go_wp2_with (go_at_call 35; refine (quota_calls hT2 hG2 fq).mono ?_)
  rintro e w3 ⟨rfl, hb3⟩
  have hz3 := hb3.size
  have hb13 : Below w1.heap.size w1 w3 := hb12.trans (hb3.mono (by omega))
  have hG3 := glob_go hG2 (Nat.le_refl _) hb3
  have b1 : w3.cell? ⟨blk, off + 1, none⟩ = some (sv tD) := hcell w3 hb13 1 _ rfl
  have hs3 := split_calls (a := tD) (c := [32]) (by simp; omega) (by simp; omega) fD w3 hG3
  go_wp2_with fail
  rw [rounds_succ]
  go_wp2_with (go_at_call 33; refine hs3.mono ?_)
  rintro e w4 ⟨v4, rfl, hb4, hT4⟩
  have hz4 := hb4.size
  have hl4 := line_bad hT4
  go_wp2_with (go_at_call 34; refine hl4.mono ?_)
  rintro e w5 ⟨rfl, hb5⟩
  go_wp2_with fail
  refine bodyPost_ret (by simp [results, Tryd.results11, go_sem]; try rfl) rfl ?_
  exact ⟨rfl, (hb1.trans (hb13.mono hz1)).trans ((hb4.mono (by omega)).trans (hb5.mono (by omega)))⟩

omit [Lp] in
theorem eqS_is {a b : List UInt8} (h : eqS a b = true) : a = b := by
  unfold eqS at h
  exact of_decide_eq_true h

/-- script.Parse, at two texts. -/
theorem parse_holds : Holds Tryd.prog glob 11 ⟨.pair .str .unit, .pair (.int .i64) (.pair (.slice actT) (.pair (.int .i64) (.pair (.int .i64) .unit))), P_script_Parse⟩ where
  body := by
    obtain ⟨c, hc⟩ : ∃ c, Tryd.f11.body = some c := ⟨_, rfl⟩
    exact ⟨_, c, Tryd.func11, by kernel_rfl, hc⟩
  calls := fun I w args x y him hG ha hy => by
    obtain ⟨s, u⟩ := x
    obtain ⟨cs, rest, he, ⟨rfl, hs⟩, h0⟩ := ha
    have h0 : rest = [] := h0
    subst h0
    obtain rfl : args = #[sv s] := Array.toList_inj.1 he
    have hy : (bif eqS s tA then some ((4096 : Int), (acts, ((0 : Int), ((0 : Int), ())))) else bif eqS s tB then some (0, ([], (2, (2, ())))) else none) = some y := hy
    cases h1 : eqS s tA with
    | true =>
      rw [h1] at hy
      obtain rfl : s = tA := eqS_is h1
      obtain rfl := Option.some.inj hy
      refine (parse_one hG).mono ?_
      rintro e w' ⟨g, cap, I', rfl, hb, hI', hr⟩
      refine ⟨_, fun b o => I b o ∨ I' b o, rfl, hb, fun b o h => .inl h, ?_, ?_, ?_⟩
      · rintro b o (h | h)
        · exact Nat.lt_of_lt_of_le (him b o h) hb.size
        · exact (hI' b o h).1
      · rintro b o (h | h) hn
        · exact absurd h hn
        · exact (hI' b o h).2
      · exact ⟨_, rfl, _, _, rfl, ⟨[_], ⟨rfl, by decide, by decide⟩, rfl⟩, _, _, rfl, ⟨[_], RepC.mono (fun b o h => .inr h) (fun _ _ _ => rfl) hr, rfl⟩, _, _, rfl, ⟨[_], ⟨rfl, by decide, by decide⟩, rfl⟩, _, _, rfl, ⟨[_], ⟨rfl, by decide, by decide⟩, rfl⟩, rfl⟩
    | false =>
      rw [h1] at hy
      cases h2 : eqS s tB with
      | false => rw [h2] at hy; cases hy
      | true =>
        rw [h2] at hy
        obtain rfl : s = tB := eqS_is h2
        obtain rfl := Option.some.inj hy
        refine (parse_two hG).mono ?_
        rintro e w' ⟨rfl, hb⟩
        refine ⟨_, I, rfl, hb, fun b o h => h, fun b o h => Nat.lt_of_lt_of_le (him b o h) hb.size, fun b o h hn => absurd h hn, ?_⟩
        exact ⟨_, rfl, _, _, rfl, ⟨[_], ⟨rfl, by decide, by decide⟩, rfl⟩, _, _, rfl, ⟨[_], .inl ⟨⟨none, rfl⟩, rfl⟩, rfl⟩, _, _, rfl, ⟨[_], ⟨rfl, by decide, by decide⟩, rfl⟩, _, _, rfl, ⟨[_], ⟨rfl, by decide, by decide⟩, rfl⟩, rfl⟩
end Go.Proofs.YtikicfmgihfnbaaDoor
