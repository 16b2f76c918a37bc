/- procs.Table's methods, step by step, over a table in its own block and a map in its own. -/
import Derived.Test.YthhkijiamblgaaaChecked
import Derived.Test.YthhkijiamblgaaaPlA
import Derived.WalkKit
import Derived.BigCall
import Derived.Tactics
import Derived.Tactics2
import Derived.RegionTactic
import Derived.RegionCalls
import Derived.Maps.Own
import Derived.Maps.OwnSet
import Derived.Maps.OwnOps
import Derived.Laws.Pointers
import Derived.Shelf.SlIterI.Nil
import Derived.Shelf.SortM.Plain
import Derived.Shelf.SortM.SortNone
namespace Go.Proofs
open Go.RowKit Go.Maps Go.Sort Go.Shelf
def Try.keysA_ren : Go.Shelf.Ren := ⟨fun | 7 => 24 | 10 => 28 | n => n, fun | 23 => 25 | 26 => 3 | 3 => 3 | 28 => 53 | 0 => 0 | 27 => 52 | 33 => 57 | 4 => 4 | n => n, fun | n => n⟩
theorem Try.keysA : Go.Proofs.SlLaysZI.n7 Try.prog Try.keysA_ren where
  mixed := by kernel_rfl
  f7 := ⟨ "maps.Keys[map[int]int,int,int]", by decide, Try.func24.trans (congrArg some (by kernel_rfl))⟩
  f10 := ⟨ "maps.Keys[map[int]int,int,int]$1", by decide, Try.func28.trans (congrArg some (by kernel_rfl))⟩
  t0 := Try.underlying0
  a0 := Try.isAgg0
  z0 := Try.sizeOf0
  v0 := Try.zeroValue0
  t4 := Try.underlying4
  a4 := Try.isAgg4
  z4 := Try.sizeOf4
  v4 := Try.zeroValue4
  t23 := Try.underlying25
  a23 := Try.isAgg25
  z23 := Try.sizeOf25
  v23 := Try.zeroValue25
  t26 := Try.underlying3
  a26 := Try.isAgg3
  z26 := Try.sizeOf3
  v26 := Try.zeroValue3
  t27 := Try.underlying52
  a27 := Try.isAgg52
  z27 := Try.sizeOf52
  v27 := Try.zeroValue52
  t28 := Try.underlying53
  a28 := Try.isAgg53
  z28 := Try.sizeOf53
  v28 := Try.zeroValue53
  t33 := Try.underlying57
  a33 := Try.isAgg57
  z33 := Try.sizeOf57
  v33 := Try.zeroValue57
def Try.sortedA_ren : Go.Shelf.Ren := ⟨fun | 6 => 23 | 8 => 26 | 9 => 27 | 11 => 29 | 13 => 31 | 12 => 30 | 23 => 41 | 24 => 42 | 14 => 32 | 15 => 33 | 16 => 34 | 17 => 35 | 18 => 36 | 19 => 37 | 20 => 38 | 21 => 39 | 22 => 40 | 25 => 43 | 26 => 44 | 27 => 45 | 28 => 46 | 29 => 47 | 30 => 48 | 31 => 49 | n => n, fun | 26 => 3 | 28 => 53 | 24 => 28 | 0 => 0 | 3 => 3 | 37 => 61 | 48 => 71 | 50 => 73 | 4 => 4 | 40 => 64 | 39 => 63 | 45 => 68 | 5 => 5 | 9 => 9 | 51 => 74 | 55 => 78 | 57 => 80 | 58 => 81 | 33 => 57 | n => n, fun | n => n⟩
theorem Try.sortedA : Go.Proofs.SlLaysZI.n6 Try.prog Try.sortedA_ren where
  mixed := by kernel_rfl
  f6 := ⟨ "slices.Sorted[int]", by decide, Try.func23.trans (congrArg some (by kernel_rfl))⟩
  f8 := ⟨ "slices.Collect[int]", by decide, Try.func26.trans (congrArg some (by kernel_rfl))⟩
  f11 := ⟨ "slices.AppendSeq[[]int,int]", by decide, Try.func29.trans (congrArg some (by kernel_rfl))⟩
  t0 := Try.underlying0
  a0 := Try.isAgg0
  z0 := Try.sizeOf0
  v0 := Try.zeroValue0
  t24 := Try.underlying28
  a24 := Try.isAgg28
  z24 := Try.sizeOf28
  v24 := Try.zeroValue28
  t26 := Try.underlying3
  a26 := Try.isAgg3
  z26 := Try.sizeOf3
  v26 := Try.zeroValue3
  t28 := Try.underlying53
  a28 := Try.isAgg53
  z28 := Try.sizeOf53
  v28 := Try.zeroValue53
  i26 := by kernel_rfl
def Try.sortA_ren : Go.Shelf.Ren := ⟨fun | 5 => 27 | 8 => 31 | 7 => 30 | 19 => 41 | 20 => 42 | 10 => 32 | 11 => 33 | 12 => 34 | 13 => 35 | 14 => 36 | 15 => 37 | 16 => 38 | 17 => 39 | 18 => 40 | 30 => 43 | 31 => 44 | 32 => 45 | 33 => 46 | 34 => 47 | 35 => 48 | 40 => 49 | n => n, fun | 23 => 28 | 25 => 3 | 3 => 3 | 32 => 61 | 22 => 28 | 0 => 0 | 44 => 71 | 46 => 73 | 4 => 4 | 36 => 64 | 35 => 63 | 41 => 68 | 5 => 5 | 9 => 9 | 53 => 74 | 57 => 78 | 63 => 80 | 64 => 81 | n => n, fun | n => n⟩
theorem Try.sortA : Go.Proofs.SlLaysM.n5 Try.prog Try.sortA_ren where
  mixed := by kernel_rfl
  f5 := ⟨ "slices.Sort[[]int,int]", by decide, Try.func27.trans (congrArg some (by kernel_rfl))⟩
  f7 := ⟨ "slices.pdqsortOrdered[int]", by decide, Try.func30.trans (congrArg some (by kernel_rfl))⟩
  f8 := Try.func31.trans (congrArg some (by kernel_rfl))
  f10 := ⟨ "slices.insertionSortOrdered[int]", by decide, Try.func32.trans (congrArg some (by kernel_rfl))⟩
  f11 := ⟨ "slices.heapSortOrdered[int]", by decide, Try.func33.trans (congrArg some (by kernel_rfl))⟩
  f12 := ⟨ "slices.breakPatternsOrdered[int]", by decide, Try.func34.trans (congrArg some (by kernel_rfl))⟩
  f13 := ⟨ "slices.choosePivotOrdered[int]", by decide, Try.func35.trans (congrArg some (by kernel_rfl))⟩
  f14 := ⟨ "slices.reverseRangeOrdered[int]", by decide, Try.func36.trans (congrArg some (by kernel_rfl))⟩
  f15 := ⟨ "slices.partialInsertionSortOrdered[int]", by decide, Try.func37.trans (congrArg some (by kernel_rfl))⟩
  f16 := ⟨ "cmp.Less[int]", by decide, Try.func38.trans (congrArg some (by kernel_rfl))⟩
  f17 := ⟨ "slices.partitionEqualOrdered[int]", by decide, Try.func39.trans (congrArg some (by kernel_rfl))⟩
  f18 := ⟨ "slices.partitionOrdered[int]", by decide, Try.func40.trans (congrArg some (by kernel_rfl))⟩
  f19 := Try.func41.trans (congrArg some (by kernel_rfl))
  f20 := Try.func42.trans (congrArg some (by kernel_rfl))
  f30 := ⟨ "slices.siftDownOrdered[int]", by decide, Try.func43.trans (congrArg some (by kernel_rfl))⟩
  f31 := Try.func44.trans (congrArg some (by kernel_rfl))
  f32 := Try.func45.trans (congrArg some (by kernel_rfl))
  f33 := ⟨ "slices.medianAdjacentOrdered[int]", by decide, Try.func46.trans (congrArg some (by kernel_rfl))⟩
  f34 := ⟨ "slices.medianOrdered[int]", by decide, Try.func47.trans (congrArg some (by kernel_rfl))⟩
  f35 := ⟨ "cmp.isNaN[int]", by decide, Try.func48.trans (congrArg some (by kernel_rfl))⟩
  f40 := ⟨ "slices.order2Ordered[int]", by decide, Try.func49.trans (congrArg some (by kernel_rfl))⟩
  t0 := Try.underlying0
  a0 := Try.isAgg0
  z0 := Try.sizeOf0
  v0 := Try.zeroValue0
  t3 := Try.underlying3
  a3 := Try.isAgg3
  z3 := Try.sizeOf3
  v3 := Try.zeroValue3
  t4 := Try.underlying4
  a4 := Try.isAgg4
  z4 := Try.sizeOf4
  v4 := Try.zeroValue4
  t5 := Try.underlying5
  a5 := Try.isAgg5
  z5 := Try.sizeOf5
  v5 := Try.zeroValue5
  t9 := Try.underlying9
  a9 := Try.isAgg9
  z9 := Try.sizeOf9
  v9 := Try.zeroValue9
  t22 := Try.underlying28
  a22 := Try.isAgg28
  z22 := Try.sizeOf28
  v22 := Try.zeroValue28
  t23 := Try.underlying28
  a23 := Try.isAgg28
  z23 := Try.sizeOf28
  v23 := Try.zeroValue28
  t25 := Try.underlying3
  a25 := Try.isAgg3
  z25 := Try.sizeOf3
  v25 := Try.zeroValue3
  t32 := Try.underlying61
  a32 := Try.isAgg61
  z32 := Try.sizeOf61
  v32 := Try.zeroValue61
  t35 := Try.underlying63
  a35 := Try.isAgg63
  z35 := Try.sizeOf63
  v35 := Try.zeroValue63
  t36 := Try.underlying64
  a36 := Try.isAgg64
  z36 := Try.sizeOf64
  v36 := Try.zeroValue64
  t41 := Try.underlying68
  a41 := Try.isAgg68
  z41 := Try.sizeOf68
  v41 := Try.zeroValue68
  t44 := Try.underlying71
  a44 := Try.isAgg71
  z44 := Try.sizeOf71
  v44 := Try.zeroValue71
  t46 := Try.underlying73
  a46 := Try.isAgg73
  z46 := Try.sizeOf73
  v46 := Try.zeroValue73
  t53 := Try.underlying74
  a53 := Try.isAgg74
  z53 := Try.sizeOf74
  v53 := Try.zeroValue74
  t57 := Try.underlying78
  a57 := Try.isAgg78
  z57 := Try.sizeOf78
  v57 := Try.zeroValue78
  t63 := Try.underlying80
  a63 := Try.isAgg80
  z63 := Try.sizeOf80
  v63 := Try.zeroValue80
  t64 := Try.underlying81
  a64 := Try.isAgg81
  z64 := Try.sizeOf81
  v64 := Try.zeroValue81

/-- slices.Sort's two contracts here. -/
theorem Try.sortsA (m : Nat) : AnyZI.SortsIn Try.prog Try.sortedA_ren Fence.wide m :=
  ⟨fun blk off cap ss W hH hblk hsz => callsIn_wide.2 (AnyM.slices_Sort_int Try.sortA blk off cap ss W hH hblk hsz),
   fun p cap W => callsIn_wide.2 (AnyM.slices_Sort_int_none Try.sortA p cap W)⟩
end Go.Proofs
namespace Go.Proofs.Ythhkijiamblgaaa
open Go Go.Ge Go.RowKit Go.ChangeMaps Go.MapKept
set_option linter.unusedVariables false
set_option linter.unusedSimpArgs false

noncomputable abbrev PE : Value → Option (DataW Unit × List MemPlace) := plainElem Try.prog 3
theorem u3 : Try.prog.underlying 3 = some (.int .i64) := by kernel_rfl
theorem uM : Try.prog.underlying 25 = some (.map 3 3) := by kernel_rfl
theorem keyd : Go.Maps.Keyed Try.prog 3 := Go.Maps.int_keyed u3
theorem key_of {a : Int} (h : (Lit.int .i64 a).wf = true) : keyOf Try.prog 3 (.int .i64 a) = some (.int .i64 a) := Go.Maps.keyOf_int_mk u3 h
theorem zero3 (w : World) : (zeroValue 3).run Try.prog w = .ok (.int .i64 0) w := by kernel_rfl

/-- A table: where its map is, what the map has, and the last birth. -/
structure Tab (w : World) (b : Nat) (m n : Nat) (D : DataW Unit) (last : Int) : Prop where
  c0 : w.cell? ⟨b, 0, none⟩ = some (.map (some m))
  c1 : w.cell? ⟨b, 1, none⟩ = some (.int .i64 last)
  f0 : w.frozen? ⟨b, 0, none⟩ = false
  f1 : w.frozen? ⟨b, 1, none⟩ = false
  ne : m ≠ b
  own : w.ownsMap Try.prog 3 PE m n D

/-- What a number has, there. -/
def at0 (D : DataW Unit) (pid : Int) : DataW Unit := D.atKey (.int .i64 pid) (.lit (.int .i64 0))

set_option maxRecDepth 100000 in
set_option maxHeartbeats 1600000 in
theorem birth_calls {w : World} {b m n : Nat} {D : DataW Unit} {last : Int} (h : Tab w b m n D last) {pid v : Int} (hp : (Lit.int .i64 pid).wf = true) (hv : at0 D pid = .lit (.int .i64 v)) :
    Calls Try.prog 11 #[.pointer (some ⟨b, 0, none⟩), .int .i64 pid] w fun e w' => e = .returned (if v = 0 then .tuple #[.int .i64 0, .int .i64 3] else .tuple #[.int .i64 v, .int .i64 0]) ∧ w' = w := by
  obtain ⟨c, hrun, hat, hwc⟩ := h.own.lookup_int keyd uM u3 (zero3 w) (key_of hp)
  have hc : c = v := by
    unfold at0 at hv
    rw [hat] at hv
    simpa using hv
  subst hc
  have h0 := h.c0
  go_enter Try.func11, Try.ntmps11
  go_wp2
  all_goals first
    | (go_ret2; exact ⟨rfl, rfl⟩)
    | (exfalso; simp_all; done)

theorem Tab.other {w w1 : World} {b m n n' : Nat} {D D' : DataW Unit} {last : Int} (h : Tab w b m n D last) (hb : w1.heap[b]? = w.heap[b]?) (hown : w1.ownsMap Try.prog 3 PE m n' D') : Tab w1 b m n' D' last where
  c0 := (cell_of_same hb).trans h.c0
  c1 := (cell_of_same hb).trans h.c1
  f0 := by rw [← h.f0]; unfold World.frozen?; dsimp only; rw [hb]
  f1 := by rw [← h.f1]; unfold World.frozen?; dsimp only; rw [hb]
  ne := h.ne
  own := hown

theorem Tab.drew {w : World} {b m n : Nat} {D : DataW Unit} {last : Int} (h : Tab w b m n D last) : Tab w.drew b m n D last := h.other rfl h.own.drew

theorem turned_below {w w1 : World} {b m n lo : Nat} {D : DataW Unit} {last : Int} (h : Tab w b m n D last) (ht : w.mapTurned w1 m) (hlo : lo ≤ m) : Below lo w w1 := by
  obtain ⟨es, clock, es', clock', hb, rfl⟩ := ht
  exact ⟨rfl, rfl, rfl, by simp [setBlock], fun k hk => heap_setBlock_other hb _ (by omega)⟩

theorem turned_tab {w w1 : World} {b m n n' : Nat} {D D' : DataW Unit} {last : Int} (h : Tab w b m n D last) (ht : w.mapTurned w1 m) (hown : w1.ownsMap Try.prog 3 PE m n' D') : Tab w1 b m n' D' last := by
  refine h.other ?_ hown
  obtain ⟨es, clock, es', clock', hb, rfl⟩ := ht
  exact heap_setBlock_other hb _ (fun e => h.ne e.symm)

theorem below_set {w : World} {b k lo : Nat} {x : Value} (h : lo ≤ b) : Below lo w (w.setCell ⟨b, k, none⟩ x).drew :=
  ((Below.refl lo w).setCell (p := ⟨b, k, none⟩) h x).drew

set_option maxRecDepth 100000 in
set_option maxHeartbeats 1600000 in
theorem kill_calls {w : World} {b m n lo : Nat} {D : DataW Unit} {last : Int} (hT : Tab w b m n D last) (hlo : lo ≤ m) {pid v : Int} (hp : (Lit.int .i64 pid).wf = true) (hv : at0 D pid = .lit (.int .i64 v)) :
    Calls Try.prog 19 #[.pointer (some ⟨b, 0, none⟩), .int .i64 pid] w fun e w' =>
      if v = 0 then e = .returned (.int .i64 3) ∧ w' = w else e = .returned (.int .i64 0) ∧ Tab w' b m n (D.del (.int .i64 pid)) last ∧ Below lo w w' := by
  obtain ⟨w1, hrun, hown, hturn⟩ := hT.own.drop keyd uM (key_of hp) 0
  have h0 := hT.c0
  have hbirth := birth_calls hT hp hv
  go_enter Try.func19, Try.ntmps19
  go_wp2_with (go_at_call 11; refine hbirth.mono ?_; rintro e w' ⟨rfl, rfl⟩)
  all_goals first
    | (go_end0; exact ⟨rfl, rfl⟩)
    | (go_ret; exact ⟨rfl, rfl⟩)
    | (go_end0; exact ⟨rfl, turned_tab hT hturn hown, turned_below hT hturn hlo⟩)
    | (go_ret; exact ⟨rfl, turned_tab hT hturn hown, turned_below hT hturn hlo⟩)


set_option maxRecDepth 100000 in
set_option maxHeartbeats 1600000 in
theorem alive_calls {w : World} {b m n : Nat} {D : DataW Unit} {last : Int} (hT : Tab w b m n D last) {pid birth v : Int} (hp : (Lit.int .i64 pid).wf = true) (hv : at0 D pid = .lit (.int .i64 v)) :
    Calls Try.prog 8 #[.pointer (some ⟨b, 0, none⟩), .int .i64 pid, .int .i64 birth] w fun e w' => e = .returned (.bool (if v = 0 then false else v == birth)) ∧ w' = w := by
  have hbirth := birth_calls hT hp hv
  go_enter Try.func8, Try.ntmps8
  go_wp2_with (go_at_call 11; refine hbirth.mono ?_; rintro e w' ⟨rfl, rfl⟩)
  all_goals first
    | (go_ret; exact ⟨rfl, rfl⟩)
    | (exfalso; simp_all; done)

set_option maxRecDepth 100000 in
set_option maxHeartbeats 1600000 in
theorem spawn_calls {w : World} {b m n lo : Nat} {D : DataW Unit} {last : Int} (hT : Tab w b m n D last) (hlo : lo ≤ m) (hlb : lo ≤ b) {pid : Int} (hp : (Lit.int .i64 pid).wf = true) (h1 : 1 ≤ pid) (h2 : pid ≤ 2147483648) (hv : at0 D pid = .lit (.int .i64 0))
    (hsz : Maps.size D < 8) (hn : n < maxLen) (hl0 : 0 ≤ last) (hl1 : last < 1000000) :
    Calls Try.prog 17 #[.pointer (some ⟨b, 0, none⟩), .int .i64 pid] w fun e w' => e = .returned (.tuple #[.int .i64 (last + 1), .int .i64 0]) ∧
      Tab w' b m (n + 1) (D.put (.int .i64 pid) (.lit (.int .i64 (last + 1)))) (last + 1) ∧ Below lo w w' := by
  obtain ⟨c, hrun, hat, hwc⟩ := hT.own.lookup_int keyd uM u3 (zero3 w) (key_of hp)
  have hc : c = 0 := by
    unfold at0 at hv
    rw [hat] at hv
    simpa using hv
  subst hc
  have hlen := hT.own.len uM 3
  have h0 := hT.c0
  have hc1 := hT.c1
  have hf1 := hT.f1
  have heq : ∀ u : World, (binOp BinOp.eql 25 (.map (some m)) (.map none)).run Try.prog u = .ok (.bool false) u := fun u => by kernel_rfl
  have hwl : (Lit.int .i64 (last + 1)).wf = true := by simp [Lit.wf, IntKind.min, IntKind.max, IntKind.signed, IntKind.bits]; omega
  have hw1 : (w.setCell ⟨b, 1, none⟩ (.int .i64 (last + 1))).cell? ⟨b, 1, none⟩ = some (.int .i64 (last + 1)) := World.cell?_setCell_same w _ _ hc1
  have hw0 : (w.setCell ⟨b, 1, none⟩ (.int .i64 (last + 1))).cell? ⟨b, 0, none⟩ = some (.map (some m)) := (World.cell?_setCell_other _ ⟨b, 1, none⟩ ⟨b, 0, none⟩ _ (by simp)).trans h0
  have hown1 : (w.setCell ⟨b, 1, none⟩ (.int .i64 (last + 1))).drew.ownsMap Try.prog 3 PE m n D := (hT.own.setCell (a := ⟨b, 1, none⟩) hT.ne _).drew
  obtain ⟨w2, hrun2, hown2, hturn2⟩ := hown1.store keyd uM hn (key_of hp) (plainElem_int u3 hwl)
  have hd0 : (w.setCell ⟨b, 1, none⟩ (.int .i64 (last + 1))).drew.cell? ⟨b, 0, none⟩ = some (.map (some m)) := hw0
  have hd1 : (w.setCell ⟨b, 1, none⟩ (.int .i64 (last + 1))).drew.cell? ⟨b, 1, none⟩ = some (.int .i64 (last + 1)) := hw1
  have hT1 : Tab (w.setCell ⟨b, 1, none⟩ (.int .i64 (last + 1))).drew b m n D (last + 1) := ⟨hd0, hd1, by simp [hT.f0], by simp [hT.f1], hT.ne, hown1⟩
  have hT2 := turned_tab hT1 hturn2 hown2
  have hw21 := hT2.c1
  have hbel : Below lo w w2 := (below_set hlb).trans (turned_below hT1 hturn2 hlo)
  have hge : ¬ (8 : Int) ≤ (Maps.size D : Int) := by omega
  have hp1 : ¬ pid < 1 := by omega
  have hp2 : ¬ 2147483648 < pid := by omega
  go_enter Try.func17, Try.ntmps17
  go_wp2
  all_goals (try (exfalso; simp_all; done))
  go_region_calls
  all_goals
    go_wp2
    go_ret2
    exact ⟨rfl, hT2, hbel⟩

/-- A table that has no map yet. -/
structure Tab0 (w : World) (b : Nat) (last : Int) : Prop where
  c0 : w.cell? ⟨b, 0, none⟩ = some (.map none)
  c1 : w.cell? ⟨b, 1, none⟩ = some (.int .i64 last)
  f0 : w.frozen? ⟨b, 0, none⟩ = false
  f1 : w.frozen? ⟨b, 1, none⟩ = false
  lt : b < w.heap.size

set_option maxRecDepth 100000 in
set_option maxHeartbeats 1600000 in
theorem spawn0_calls {w : World} {b lo : Nat} {last : Int} (hT : Tab0 w b last) (hlb : lo ≤ b) {pid : Int} (hp : (Lit.int .i64 pid).wf = true) (h1 : 1 ≤ pid) (h2 : pid ≤ 2147483648) (hl0 : 0 ≤ last) (hl1 : last < 1000000) :
    Calls Try.prog 17 #[.pointer (some ⟨b, 0, none⟩), .int .i64 pid] w fun e w' => e = .returned (.tuple #[.int .i64 (last + 1), .int .i64 0]) ∧
      Tab w' b w.heap.size 1 (DataW.put (.map []) (.int .i64 pid) (.lit (.int .i64 (last + 1)))) (last + 1) ∧ Below lo w w' := by
  have hrun : ∀ u : World, (Instr.lookup 25 (.map none) (.int .i64 pid) false).run Try.prog u = .ok (.int .i64 0) u := fun u => Maps.look_nil false keyd uM (zero3 u) (key_of hp)
  have hlen : ∀ u : World, (Builtin.len_ #[25] 3 #[.map none]).run Try.prog u = .ok (.int .i64 0) u := fun u => Maps.len_nil uM 3
  have heq : ∀ u : World, (binOp BinOp.eql 25 (.map none) (.map none)).run Try.prog u = .ok (.bool true) u := fun u => by kernel_rfl
  have hmk : ∀ u : World, (Instr.makeMap 25 none).run Try.prog u = .ok (.map (some u.heap.size)) (u.alloc (.map #[] 0)) := fun u => run_makeMap 25 u
  have hwl : (Lit.int .i64 (last + 1)).wf = true := by simp [Lit.wf, IntKind.min, IntKind.max, IntKind.signed, IntKind.bits]; omega
  have h0 := hT.c0
  have hc1 := hT.c1
  have hne : w.heap.size ≠ b := by have := hT.lt; omega
  generalize hm : w.heap.size = m at hne
  have hm1 : (w.alloc (.map #[] 0)).ownsMap Try.prog 3 PE m 0 (.map []) := by rw [← hm]; exact World.ownsMap_made w Try.prog 3 PE
  have a0 : (w.alloc (.map #[] 0)).cell? ⟨b, 0, none⟩ = some (.map none) := (cell_of_same (hold_alloc w _ b hT.lt)).trans h0
  have a1 : (w.alloc (.map #[] 0)).cell? ⟨b, 1, none⟩ = some (.int .i64 last) := (cell_of_same (hold_alloc w _ b hT.lt)).trans hc1
  have g0 : (w.alloc (.map #[] 0)).frozen? ⟨b, 0, none⟩ = false := by rw [← hT.f0]; unfold World.frozen?; dsimp only; rw [hold_alloc w _ b hT.lt]
  have g1 : (w.alloc (.map #[] 0)).frozen? ⟨b, 1, none⟩ = false := by rw [← hT.f1]; unfold World.frozen?; dsimp only; rw [hold_alloc w _ b hT.lt]
  have b0 : ((w.alloc (.map #[] 0)).setCell ⟨b, 0, none⟩ (.map (some m))).cell? ⟨b, 0, none⟩ = some (.map (some m)) := World.cell?_setCell_same _ _ _ a0
  have b1 : ((w.alloc (.map #[] 0)).setCell ⟨b, 0, none⟩ (.map (some m))).cell? ⟨b, 1, none⟩ = some (.int .i64 last) := (World.cell?_setCell_other _ ⟨b, 0, none⟩ ⟨b, 1, none⟩ _ (by simp)).trans a1
  have z1 : ((w.alloc (.map #[] 0)).setCell ⟨b, 0, none⟩ (.map (some m))).frozen? ⟨b, 1, none⟩ = false := by simp [g1]
  have d1 : (((w.alloc (.map #[] 0)).setCell ⟨b, 0, none⟩ (.map (some m))).setCell ⟨b, 1, none⟩ (.int .i64 (last + 1))).drew.cell? ⟨b, 1, none⟩ = some (.int .i64 (last + 1)) := World.cell?_setCell_same _ _ _ b1
  have d0 : (((w.alloc (.map #[] 0)).setCell ⟨b, 0, none⟩ (.map (some m))).setCell ⟨b, 1, none⟩ (.int .i64 (last + 1))).drew.cell? ⟨b, 0, none⟩ = some (.map (some m)) := (World.cell?_setCell_other _ ⟨b, 1, none⟩ ⟨b, 0, none⟩ _ (by simp)).trans b0
  have e1 : (((w.alloc (.map #[] 0)).setCell ⟨b, 0, none⟩ (.map (some m))).setCell ⟨b, 1, none⟩ (.int .i64 (last + 1))).cell? ⟨b, 1, none⟩ = some (.int .i64 (last + 1)) := d1
  have e0 : (((w.alloc (.map #[] 0)).setCell ⟨b, 0, none⟩ (.map (some m))).setCell ⟨b, 1, none⟩ (.int .i64 (last + 1))).cell? ⟨b, 0, none⟩ = some (.map (some m)) := d0
  have hown1 : (((w.alloc (.map #[] 0)).setCell ⟨b, 0, none⟩ (.map (some m))).setCell ⟨b, 1, none⟩ (.int .i64 (last + 1))).drew.ownsMap Try.prog 3 PE m 0 (.map []) := ((hm1.setCell (a := ⟨b, 0, none⟩) hne _).setCell (a := ⟨b, 1, none⟩) hne _).drew
  obtain ⟨w2, hrun2, hown2, hturn2⟩ := hown1.store keyd uM (by decide) (key_of hp) (plainElem_int u3 hwl)
  have hT1 : Tab (((w.alloc (.map #[] 0)).setCell ⟨b, 0, none⟩ (.map (some m))).setCell ⟨b, 1, none⟩ (.int .i64 (last + 1))).drew b m 0 (.map []) (last + 1) := ⟨d0, d1, by simp [g0], by simp [g1], hne, hown1⟩
  have hT2 := turned_tab hT1 hturn2 hown2
  have hw21 := hT2.c1
  have hlm : lo ≤ m := by have := hT.lt; omega
  have hbel : Below lo w w2 := Below.trans (((((Below.refl lo w).alloc (by omega) (.map #[] 0)).setCell (p := ⟨b, 0, none⟩) hlb (.map (some m))).setCell (p := ⟨b, 1, none⟩) hlb (.int .i64 (last + 1))).drew) (turned_below hT1 hturn2 hlm)
  have hp1 : ¬ pid < 1 := by omega
  have hp2 : ¬ 2147483648 < pid := by omega
  go_enter Try.func17, Try.ntmps17
  go_wp2
  all_goals (try (exfalso; simp_all; done))
  all_goals (try simp only [hm])
  go_wp2
  go_region_calls
  all_goals
    go_wp2
    go_ret2
    exact ⟨rfl, hT2, hbel⟩

set_option maxRecDepth 100000 in
set_option maxHeartbeats 1600000 in
theorem again_calls {w : World} {b m n : Nat} {D : DataW Unit} {last : Int} (hT : Tab w b m n D last) {pid v : Int} (hp : (Lit.int .i64 pid).wf = true) (h1 : 1 ≤ pid) (h2 : pid ≤ 2147483648) (hv : at0 D pid = .lit (.int .i64 v)) (hv0 : v ≠ 0) :
    Calls Try.prog 17 #[.pointer (some ⟨b, 0, none⟩), .int .i64 pid] w fun e w' => e = .returned (.tuple #[.int .i64 0, .int .i64 4]) ∧ w' = w := by
  obtain ⟨c, hrun, hat, hwc⟩ := hT.own.lookup_int keyd uM u3 (zero3 w) (key_of hp)
  have hc : c = v := by
    unfold at0 at hv
    rw [hat] at hv
    simpa using hv
  subst hc
  have h0 := hT.c0
  have hp1 : ¬ pid < 1 := by omega
  have hp2 : ¬ 2147483648 < pid := by omega
  go_enter Try.func17, Try.ntmps17
  go_wp2
  all_goals first
    | (go_ret2; exact ⟨rfl, rfl⟩)
    | (exfalso; simp_all; done)

section
open Go.Maps Go.Sort Go.Shelf
set_option maxRecDepth 100000 in
set_option maxHeartbeats 1600000 in
theorem pids_calls {w : World} {b m n : Nat} {D : DataW Unit} {last : Int} (hT : Tab w b m n D last) (hmax : Maps.size D ≤ 1000) :
    Calls Try.prog 14 #[.pointer (some ⟨b, 0, none⟩)] w fun e w' => ∃ (v : Value) (ss : List Int), e = .returned v ∧ ss.Perm (intKeys D) ∧
      w'.ownsRow w.heap.size 3 1 v ss.length ((ss.mergeSort (fun x y => decide (x ≤ y))).map encZ) ∧ (v = .slice none 0 0 ↔ ss = []) ∧ Below w.heap.size w w' := by
  have hown := hT.own
  have hbl := hown.lt
  have h0 := hT.c0
  have hseq : SeqGives Fence.wide 2 Try.prog 28 #[.pointer (some ⟨w.heap.size, 0, none⟩)] encZ (fun ss => ss.Perm (intKeys D)) (Maps.size D) (w.alloc (.cells #[.map (some m)] 25)) :=
    AnyZI.keys_gives (ρ := Try.keysA_ren) { Try.keysA with } Fence.wide _ trivial rfl (by omega) w.heap.size m n D _ (by simp) (by simp) (by
      obtain ⟨es, clock, hb, Ft, hs, hD⟩ := hown
      exact ⟨es, clock, (Below.heap_alloc _ _ m hbl).trans hb, Ft, hs, hD⟩)
  have cK : ∀ mb W, CallsIn Fence.wide 5 Try.prog 24 #[.map mb] W fun e w' => e = .returned (.func (.func 28) #[] #[.pointer (some ⟨W.heap.size, 0, none⟩)]) ∧ w' = W.alloc (.cells #[.map mb] 25) := fun mb W => AnyZI.keys_in Try.keysA Fence.wide 5 trivial rfl mb W
  have hmx : (1000 : Nat) ≤ maxLen := by decide
  have cS := AnyZI.sorted_in Try.sortedA Fence.wide 5 trivial trivial trivial trivial rfl (by omega) (Try.sortsA _) (enters_of Try.func27 (by kernel_rfl) rfl) 28 #[.pointer (some ⟨w.heap.size, 0, none⟩)] trivial (enters_of Try.func28 (by kernel_rfl) rfl) _ _ (Nat.le_trans hmax hmx) (by omega) _ hseq
  change CallsIn _ _ Try.prog 23 _ _ _ at cS
  have dK := fun mb W => callsIn_wide.1 (cK mb W)
  have dS := callsIn_wide.1 cS
  go_enter Try.func14, Try.ntmps14
  go_wp2_with (first
    | (go_at_call 24; refine (dK _ _).mono ?_; rintro e w' ⟨rfl, rfl⟩)
    | (go_at_call 23; refine dS.mono ?_; rintro e w' ⟨v, ss, rfl, hS, hrow, hnil, hb⟩))
  go_ret
  exact ⟨v, ss, rfl, hS, ownsRow_base_a hrow (by simp), hnil, ((Below.refl _ w).alloc (Nat.le_refl _) _).trans (hb.mono (by simp))⟩
end


def DA : DataW Unit := DataW.put (.map []) (.int .i64 7) (.lit (.int .i64 1))
def DB : DataW Unit := DA.del (.int .i64 7)
def DC : DataW Unit := DB.put (.int .i64 7) (.lit (.int .i64 2))
theorem vA : at0 DA 7 = .lit (.int .i64 1) := by rfl
theorem vB : at0 DB 7 = .lit (.int .i64 0) := by rfl
theorem vC : at0 DC 7 = .lit (.int .i64 2) := by rfl
theorem zB : Maps.size DB < 8 := by decide
section
open Go.Maps Go.Sort Go.Shelf
theorem kC : intKeys DC = [7] := by rfl
end
theorem zC : Maps.size DC ≤ 1000 := by decide

variable [Lp]
theorem same77 : P_ref09_SameInts ([7], ([7], ())) = some (true, ()) := by
  obtain rfl : ‹Lp› = Lp.fast := Lp.one _ _
  kernel_rfl

omit [Lp] in
theorem alive_DC {w : World} {b m n : Nat} {last birth : Int} (hT : Tab w b m n DC last) : Calls Try.prog 8 #[.pointer (some ⟨b, 0, none⟩), .int .i64 7, .int .i64 birth] w fun e w' => e = .returned (.bool ((2 : Int) == birth)) ∧ w' = w := by
  have h := alive_calls hT (birth := birth) (by decide) vC
  rw [if_neg (by decide)] at h
  exact h

omit [Lp] in
theorem rep77 {w : World} {I : Nat → Nat → Prop} {blk cap : Nat} (hc : w.cell? ⟨blk, 0, none⟩ = some (.int .i64 7)) (hI : ∀ o, I blk o) (h1 : 1 ≤ cap) (h2 : cap ≤ maxLen) :
    RepC w I (.slice (.int .i64)) ([7] : List Int) [.slice (some ⟨blk, 0, none⟩) 1 cap] := by
  refine .inr ⟨blk, 0, cap, rfl, h1, h2, fun i x hx => ?_⟩
  have hx : ([7] : List Int)[i]? = some x := hx
  cases i with
  | succ i => simp at hx
  | zero =>
    obtain rfl : x = (7 : Int) := (Option.some.inj hx).symm
    refine ⟨[.int .i64 7], rfl, fun j v hj => ?_, rfl, by decide, by decide⟩
    cases j with
    | succ j => simp at hj
    | zero => exact ⟨by rw [← Option.some.inj hj]; exact hc, hI _⟩

theorem same_calls {G : Globs} (hs : Holds Try.prog G 13 ⟨(.pair (.slice (.int .i64)) (.pair (.slice (.int .i64)) .unit)), (.pair .bool .unit), P_ref09_SameInts⟩) {w : World} (hG : GlobOk G w) {g1 c1 g2 c2 : Nat}
    (h1 : w.cell? ⟨g1, 0, none⟩ = some (.int .i64 7)) (h2 : w.cell? ⟨g2, 0, none⟩ = some (.int .i64 7)) (k1 : 1 ≤ c1) (k2 : c1 ≤ maxLen) (k3 : 1 ≤ c2) (k4 : c2 ≤ maxLen) (b1 : g1 < w.heap.size) (b2 : g2 < w.heap.size) :
    Calls Try.prog 13 #[.slice (some ⟨g1, 0, none⟩) 1 c1, .slice (some ⟨g2, 0, none⟩) 1 c2] w fun e w' => e = .returned (.bool true) ∧ Below w.heap.size w w' := by
  refine (hs.calls (fun b _ => b = g1 ∨ b = g2) w _ (([7] : List Int), (([7] : List Int), ())) (true, ()) ?_ hG ?_ same77).mono ?_
  · rintro b o (rfl | rfl) <;> assumption
  · exact ⟨[.slice (some ⟨g1, 0, none⟩) 1 c1], [.slice (some ⟨g2, 0, none⟩) 1 c2], rfl, rep77 h1 (fun o => .inl rfl) k1 k2, [.slice (some ⟨g2, 0, none⟩) 1 c2], [], rfl, rep77 h2 (fun o => .inr rfl) k3 k4, rfl⟩
  · rintro e w' ⟨v, I', rfl, hb, _, _, _, hr⟩
    obtain ⟨cs, hcs, hv⟩ := hr
    obtain rfl : cs = [.bool true] := hcs
    obtain rfl : v = .bool true := List.head_eq_of_cons_eq hv
    exact ⟨rfl, hb⟩

set_option maxRecDepth 100000 in
set_option maxHeartbeats 2000000 in
theorem awake_holds {G : Globs} (hs : Holds Try.prog G 13 ⟨(.pair (.slice (.int .i64)) (.pair (.slice (.int .i64)) .unit)), (.pair .bool .unit), P_ref09_SameInts⟩) :
    Holds Try.prog G 6 ⟨.unit, (.pair .bool .unit), P_law11_awake⟩ where
  body := by
    obtain ⟨c, hc⟩ : ∃ c, Try.f6.body = some c := ⟨_, rfl⟩
    exact ⟨_, c, Try.func6, by kernel_rfl, hc⟩
  calls := fun I w args x y him hG ha hy => by
    have ha : args.toList = [] := ha
    obtain rfl : args = #[] := Array.toList_inj.1 ha
    obtain rfl := Option.some.inj (show some (true, ()) = some y from hy)
    have h7 : (Lit.int .i64 7).wf = true := by decide
    have hT0 : Tab0 (w.alloc (.cells #[.map none, .int .i64 0] 27)) w.heap.size 0 := ⟨by go_simp, by go_simp, by go_simp, by go_simp, by simp⟩
    go_enter Try.func6, Try.ntmps6
    go_wp2_with (go_at_call 17; refine (spawn0_calls hT0 (lo := w.heap.size) (Nat.le_refl _) h7 (by omega) (by omega) (by omega) (by omega)).mono ?_; rintro e w1 ⟨rfl, hT1, hb1⟩)
    have hT1 : Tab w1 w.heap.size (w.alloc (.cells #[.map none, .int .i64 0] 27)).heap.size 1 DA 1 := hT1
    have hm : w.heap.size ≤ (w.alloc (.cells #[.map none, .int .i64 0] 27)).heap.size := by simp
    generalize (w.alloc (.cells #[.map none, .int .i64 0] 27)).heap.size = m at hT1 hm
    have hK := kill_calls hT1 (lo := w.heap.size) hm h7 vA
    go_wp2_with (go_at_call 19; refine hK.mono ?_; rintro e w2 h2; rw [if_neg (by decide)] at h2; obtain ⟨rfl, hT2, hb2⟩ := h2)
    have hT2 : Tab w2 w.heap.size m 1 DB 1 := hT2
    have hS2 := spawn_calls hT2 (lo := w.heap.size) hm (Nat.le_refl _) h7 (by omega) (by omega) vB zB (by decide) (by omega) (by omega)
    go_wp2_with (go_at_call 17; refine hS2.mono ?_; rintro e w3 ⟨rfl, hT3, hb3⟩)
    have hT3 : Tab w3 w.heap.size m 2 DC 2 := hT3
    have hA3 := again_calls hT3 h7 (by omega) (by omega) vC (by decide)
    go_wp2_with (go_at_call 17; refine hA3.mono ?_; rintro e w4 ⟨rfl, rfl⟩)
    have hpid := pids_calls hT3 zC
    have hbw : Below w.heap.size w w4 := ((((Below.refl _ w).alloc (Nat.le_refl _) _).trans hb1).trans hb2).trans hb3
    go_wp2_with (first
      | (go_at_call 8; refine (alive_DC hT3).mono ?_; rintro e w5 ⟨rfl, rfl⟩)
      | (go_at_call 14; refine hpid.mono ?_; rintro e w6 ⟨v, ss, rfl, hS, hrow, hnil, hb5⟩))
    have hss : ss = [7] := List.perm_singleton.1 (by rw [kC] at hS; exact hS)
    subst hss
    have hbw6 : Below w.heap.size w w6 := hbw.trans (hb5.mono hbw.size)
    obtain ⟨_, h0 | ⟨g, cap, cur, hvv, hbase, hg, hn, hcap, hsz, htk⟩⟩ := hrow
    · exact absurd h0.2 (by simp)
    have hvv : v = .slice (some ⟨g, 0, none⟩) 1 cap := hvv
    have hn : 1 ≤ cap := hn
    have hgl : g < w6.heap.size := (Array.getElem?_eq_some_iff.1 hg).1
    have hc0 : w6.cell? ⟨g, 0, none⟩ = some (.int .i64 7) := by
      rw [cell_of_heap hg]
      have h1 : cur.toList.take 1 = [.int .i64 7] := by simpa using htk
      have h2 : (cur.toList.take 1)[0]? = some (.int .i64 7) := by rw [h1]; rfl
      rw [List.getElem?_take] at h2
      simpa using h2
    subst hvv
    have hbw7 : Below w.heap.size w (w6.alloc (.cells #[.int .i64 7] 3)) := hbw6.alloc hbw6.size _
    have hG7 : GlobOk G (w6.alloc (.cells #[.int .i64 7] 3)) := fun b Q hgb => by
      obtain ⟨o, ho, hq⟩ := hG b Q hgb
      exact ⟨o, (hbw7.block b (Array.getElem?_eq_some_iff.1 ho).1).trans ho, hq⟩
    have hsame := same_calls hs hG7 (g1 := g) (c1 := cap) (g2 := w6.heap.size) (c2 := 1) ((cell_of_same (hold_alloc w6 _ g hgl)).trans hc0) (by go_simp) hn hcap (by decide) (by decide) (by simp; omega) (by simp)
    go_wp2_with (go_at_call 13; refine hsame.mono ?_; rintro e w8 ⟨rfl, hb8⟩)
    go_ret
    have hbw8 : Below w.heap.size w w8 := hbw7.trans (hb8.mono hbw7.size)
    exact ⟨_, I, rfl, hbw8, fun _ _ h => h, fun b o hi => Nat.lt_of_lt_of_le (him b o hi) hbw8.size, fun b o h1 h2 => absurd h1 h2, ⟨[.bool true], rfl, rfl⟩⟩
end Go.Proofs.Ythhkijiamblgaaa
