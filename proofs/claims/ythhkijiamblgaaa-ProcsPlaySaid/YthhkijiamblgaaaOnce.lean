/- procs.Table's methods, step by step, over a table in its own block and a map in its own. -/
import Derived.Test.YthhkijiamblgaaaChecked
import Derived.Test.YthhkijiamblgaaaPlA
import Derived.Test.YthhkijiamblgaaaGeK
import Derived.WalkKit
import Derived.BigCall
import Derived.Tactics
import Derived.Tactics2
import Derived.RegionTactic
import Derived.RegionCalls
import Derived.Maps.Own
import Derived.Maps.OwnSet
import Derived.Maps.OwnOps
import Derived.Laws.Pointers
import Derived.Shelf.SlIterI.Nil
import Derived.Shelf.SlMaps.Clone
import Derived.Shelf.SortM.Plain
import Derived.Shelf.SortM.SortNone
namespace Go.Proofs
open Go.RowKit Go.Maps Go.Sort Go.Shelf
def Try.keysA_ren : Go.Shelf.Ren := ⟨fun | 7 => 24 | 10 => 28 | n => n, fun | 23 => 25 | 26 => 3 | 3 => 3 | 28 => 53 | 0 => 0 | 27 => 52 | 33 => 57 | 4 => 4 | n => n, fun | n => n⟩
theorem Try.keysA : Go.Proofs.SlLaysZI.n7 Try.prog Try.keysA_ren where
  mixed := by kernel_rfl
  f7 := ⟨ "maps.Keys[map[int]int,int,int]", by decide, Try.func24.trans (congrArg some (by kernel_rfl))⟩
  f10 := ⟨ "maps.Keys[map[int]int,int,int]$1", by decide, Try.func28.trans (congrArg some (by kernel_rfl))⟩
  t0 := Try.underlying0
  a0 := Try.isAgg0
  z0 := Try.sizeOf0
  v0 := Try.zeroValue0
  t4 := Try.underlying4
  a4 := Try.isAgg4
  z4 := Try.sizeOf4
  v4 := Try.zeroValue4
  t23 := Try.underlying25
  a23 := Try.isAgg25
  z23 := Try.sizeOf25
  v23 := Try.zeroValue25
  t26 := Try.underlying3
  a26 := Try.isAgg3
  z26 := Try.sizeOf3
  v26 := Try.zeroValue3
  t27 := Try.underlying52
  a27 := Try.isAgg52
  z27 := Try.sizeOf52
  v27 := Try.zeroValue52
  t28 := Try.underlying53
  a28 := Try.isAgg53
  z28 := Try.sizeOf53
  v28 := Try.zeroValue53
  t33 := Try.underlying57
  a33 := Try.isAgg57
  z33 := Try.sizeOf57
  v33 := Try.zeroValue57
def Try.sortedA_ren : Go.Shelf.Ren := ⟨fun | 6 => 23 | 8 => 26 | 9 => 27 | 11 => 29 | 13 => 31 | 12 => 30 | 23 => 41 | 24 => 42 | 14 => 32 | 15 => 33 | 16 => 34 | 17 => 35 | 18 => 36 | 19 => 37 | 20 => 38 | 21 => 39 | 22 => 40 | 25 => 43 | 26 => 44 | 27 => 45 | 28 => 46 | 29 => 47 | 30 => 48 | 31 => 49 | n => n, fun | 26 => 3 | 28 => 53 | 24 => 28 | 0 => 0 | 3 => 3 | 37 => 61 | 48 => 71 | 50 => 73 | 4 => 4 | 40 => 64 | 39 => 63 | 45 => 68 | 5 => 5 | 9 => 9 | 51 => 74 | 55 => 78 | 57 => 80 | 58 => 81 | 33 => 57 | n => n, fun | n => n⟩
theorem Try.sortedA : Go.Proofs.SlLaysZI.n6 Try.prog Try.sortedA_ren where
  mixed := by kernel_rfl
  f6 := ⟨ "slices.Sorted[int]", by decide, Try.func23.trans (congrArg some (by kernel_rfl))⟩
  f8 := ⟨ "slices.Collect[int]", by decide, Try.func26.trans (congrArg some (by kernel_rfl))⟩
  f11 := ⟨ "slices.AppendSeq[[]int,int]", by decide, Try.func29.trans (congrArg some (by kernel_rfl))⟩
  t0 := Try.underlying0
  a0 := Try.isAgg0
  z0 := Try.sizeOf0
  v0 := Try.zeroValue0
  t24 := Try.underlying28
  a24 := Try.isAgg28
  z24 := Try.sizeOf28
  v24 := Try.zeroValue28
  t26 := Try.underlying3
  a26 := Try.isAgg3
  z26 := Try.sizeOf3
  v26 := Try.zeroValue3
  t28 := Try.underlying53
  a28 := Try.isAgg53
  z28 := Try.sizeOf53
  v28 := Try.zeroValue53
  i26 := by kernel_rfl
def Try.sortA_ren : Go.Shelf.Ren := ⟨fun | 5 => 27 | 8 => 31 | 7 => 30 | 19 => 41 | 20 => 42 | 10 => 32 | 11 => 33 | 12 => 34 | 13 => 35 | 14 => 36 | 15 => 37 | 16 => 38 | 17 => 39 | 18 => 40 | 30 => 43 | 31 => 44 | 32 => 45 | 33 => 46 | 34 => 47 | 35 => 48 | 40 => 49 | n => n, fun | 23 => 28 | 25 => 3 | 3 => 3 | 32 => 61 | 22 => 28 | 0 => 0 | 44 => 71 | 46 => 73 | 4 => 4 | 36 => 64 | 35 => 63 | 41 => 68 | 5 => 5 | 9 => 9 | 53 => 74 | 57 => 78 | 63 => 80 | 64 => 81 | n => n, fun | n => n⟩
theorem Try.sortA : Go.Proofs.SlLaysM.n5 Try.prog Try.sortA_ren where
  mixed := by kernel_rfl
  f5 := ⟨ "slices.Sort[[]int,int]", by decide, Try.func27.trans (congrArg some (by kernel_rfl))⟩
  f7 := ⟨ "slices.pdqsortOrdered[int]", by decide, Try.func30.trans (congrArg some (by kernel_rfl))⟩
  f8 := Try.func31.trans (congrArg some (by kernel_rfl))
  f10 := ⟨ "slices.insertionSortOrdered[int]", by decide, Try.func32.trans (congrArg some (by kernel_rfl))⟩
  f11 := ⟨ "slices.heapSortOrdered[int]", by decide, Try.func33.trans (congrArg some (by kernel_rfl))⟩
  f12 := ⟨ "slices.breakPatternsOrdered[int]", by decide, Try.func34.trans (congrArg some (by kernel_rfl))⟩
  f13 := ⟨ "slices.choosePivotOrdered[int]", by decide, Try.func35.trans (congrArg some (by kernel_rfl))⟩
  f14 := ⟨ "slices.reverseRangeOrdered[int]", by decide, Try.func36.trans (congrArg some (by kernel_rfl))⟩
  f15 := ⟨ "slices.partialInsertionSortOrdered[int]", by decide, Try.func37.trans (congrArg some (by kernel_rfl))⟩
  f16 := ⟨ "cmp.Less[int]", by decide, Try.func38.trans (congrArg some (by kernel_rfl))⟩
  f17 := ⟨ "slices.partitionEqualOrdered[int]", by decide, Try.func39.trans (congrArg some (by kernel_rfl))⟩
  f18 := ⟨ "slices.partitionOrdered[int]", by decide, Try.func40.trans (congrArg some (by kernel_rfl))⟩
  f19 := Try.func41.trans (congrArg some (by kernel_rfl))
  f20 := Try.func42.trans (congrArg some (by kernel_rfl))
  f30 := ⟨ "slices.siftDownOrdered[int]", by decide, Try.func43.trans (congrArg some (by kernel_rfl))⟩
  f31 := Try.func44.trans (congrArg some (by kernel_rfl))
  f32 := Try.func45.trans (congrArg some (by kernel_rfl))
  f33 := ⟨ "slices.medianAdjacentOrdered[int]", by decide, Try.func46.trans (congrArg some (by kernel_rfl))⟩
  f34 := ⟨ "slices.medianOrdered[int]", by decide, Try.func47.trans (congrArg some (by kernel_rfl))⟩
  f35 := ⟨ "cmp.isNaN[int]", by decide, Try.func48.trans (congrArg some (by kernel_rfl))⟩
  f40 := ⟨ "slices.order2Ordered[int]", by decide, Try.func49.trans (congrArg some (by kernel_rfl))⟩
  t0 := Try.underlying0
  a0 := Try.isAgg0
  z0 := Try.sizeOf0
  v0 := Try.zeroValue0
  t3 := Try.underlying3
  a3 := Try.isAgg3
  z3 := Try.sizeOf3
  v3 := Try.zeroValue3
  t4 := Try.underlying4
  a4 := Try.isAgg4
  z4 := Try.sizeOf4
  v4 := Try.zeroValue4
  t5 := Try.underlying5
  a5 := Try.isAgg5
  z5 := Try.sizeOf5
  v5 := Try.zeroValue5
  t9 := Try.underlying9
  a9 := Try.isAgg9
  z9 := Try.sizeOf9
  v9 := Try.zeroValue9
  t22 := Try.underlying28
  a22 := Try.isAgg28
  z22 := Try.sizeOf28
  v22 := Try.zeroValue28
  t23 := Try.underlying28
  a23 := Try.isAgg28
  z23 := Try.sizeOf28
  v23 := Try.zeroValue28
  t25 := Try.underlying3
  a25 := Try.isAgg3
  z25 := Try.sizeOf3
  v25 := Try.zeroValue3
  t32 := Try.underlying61
  a32 := Try.isAgg61
  z32 := Try.sizeOf61
  v32 := Try.zeroValue61
  t35 := Try.underlying63
  a35 := Try.isAgg63
  z35 := Try.sizeOf63
  v35 := Try.zeroValue63
  t36 := Try.underlying64
  a36 := Try.isAgg64
  z36 := Try.sizeOf64
  v36 := Try.zeroValue64
  t41 := Try.underlying68
  a41 := Try.isAgg68
  z41 := Try.sizeOf68
  v41 := Try.zeroValue68
  t44 := Try.underlying71
  a44 := Try.isAgg71
  z44 := Try.sizeOf71
  v44 := Try.zeroValue71
  t46 := Try.underlying73
  a46 := Try.isAgg73
  z46 := Try.sizeOf73
  v46 := Try.zeroValue73
  t53 := Try.underlying74
  a53 := Try.isAgg74
  z53 := Try.sizeOf74
  v53 := Try.zeroValue74
  t57 := Try.underlying78
  a57 := Try.isAgg78
  z57 := Try.sizeOf78
  v57 := Try.zeroValue78
  t63 := Try.underlying80
  a63 := Try.isAgg80
  z63 := Try.sizeOf80
  v63 := Try.zeroValue80
  t64 := Try.underlying81
  a64 := Try.isAgg81
  z64 := Try.sizeOf81
  v64 := Try.zeroValue81

/-- slices.Sort's two contracts here. -/
theorem Try.sortsA (m : Nat) : AnyZI.SortsIn Try.prog Try.sortedA_ren Fence.wide m :=
  ⟨fun blk off cap ss W hH hblk hsz => callsIn_wide.2 (AnyM.slices_Sort_int Try.sortA blk off cap ss W hH hblk hsz),
   fun p cap W => callsIn_wide.2 (AnyM.slices_Sort_int_none Try.sortA p cap W)⟩
end Go.Proofs
namespace Go.Proofs.Ythhkijiamblgaaa
open Go Go.Ge Go.RowKit Go.ChangeMaps Go.MapKept
set_option linter.unusedVariables false
set_option linter.unusedSectionVars false
set_option linter.unusedSimpArgs false

noncomputable abbrev PE : Value → Option (DataW Unit × List MemPlace) := plainElem Try.prog 3
theorem u3 : Try.prog.underlying 3 = some (.int .i64) := by kernel_rfl
theorem uM : Try.prog.underlying 25 = some (.map 3 3) := by kernel_rfl
theorem keyd : Go.Maps.Keyed Try.prog 3 := Go.Maps.int_keyed u3
theorem key_of {a : Int} (h : (Lit.int .i64 a).wf = true) : keyOf Try.prog 3 (.int .i64 a) = some (.int .i64 a) := Go.Maps.keyOf_int_mk u3 h
theorem zero3 (w : World) : (zeroValue 3).run Try.prog w = .ok (.int .i64 0) w := by kernel_rfl

theorem set_heap {w : World} {b i : Nat} {cur : Array Value} {T : TypeId} {fr : Nat × Nat} (v : Value) (h : w.heap[b]? = some (.cells cur T fr)) : (w.setCell ⟨b, i, none⟩ v).heap[b]? = some (.cells (cur.setIfInBounds i v) T fr) := by
  rw [setCell_eq_setRow w b i cur T fr v h]
  exact setRow_heap w b cur _ T fr h
theorem set_off (w : World) {b i k : Nat} (v : Value) (h : k ≠ b) : (w.setCell ⟨b, i, none⟩ v).heap[k]? = w.heap[k]? := by
  simp [World.setCell, Array.getElem?_modify, Ne.symm h]

/-- A table: where its map is, what the map has, and the last birth. -/
structure Tab (w : World) (b : Nat) (m n : Nat) (D : DataW Unit) (last : Int) (T : TypeId) (fr : Nat × Nat) : Prop where
  hb : w.heap[b]? = some (.cells #[.map (some m), .int .i64 last] T fr)
  th : Thawed #[.map (some m), .int .i64 last] fr
  ne : m ≠ b
  own : w.ownsMap Try.prog 3 PE m n D
theorem froz {w : World} {b i : Nat} {cur : Array Value} {T : TypeId} {fr : Nat × Nat} (h : w.heap[b]? = some (.cells cur T fr)) (ht : Thawed cur fr) (hi : i < cur.size) : w.frozen? ⟨b, i, none⟩ = false := by
  have := ht i hi
  simp only [World.frozen?, h]
  simp only [Bool.and_eq_false_iff, decide_eq_false_iff_not]
  omega
section
variable {w : World} {b m n : Nat} {D : DataW Unit} {last : Int} {T : TypeId} {fr : Nat × Nat}
theorem Tab.c0 (h : Tab w b m n D last T fr) : w.cell? ⟨b, 0, none⟩ = some (.map (some m)) := by simp only [World.cell?, h.hb]; rfl
theorem Tab.c1 (h : Tab w b m n D last T fr) : w.cell? ⟨b, 1, none⟩ = some (.int .i64 last) := by simp only [World.cell?, h.hb]; rfl
theorem Tab.f0 (h : Tab w b m n D last T fr) : w.frozen? ⟨b, 0, none⟩ = false := froz h.hb h.th (by simp)
theorem Tab.f1 (h : Tab w b m n D last T fr) : w.frozen? ⟨b, 1, none⟩ = false := froz h.hb h.th (by simp)
end
theorem thaw2 {x y x' y' : Value} {fr : Nat × Nat} (h : Thawed #[x, y] fr) : Thawed #[x', y'] fr := fun o ho => h o ho

/-- What a number has, there. -/
def at0 (D : DataW Unit) (pid : Int) : DataW Unit := D.atKey (.int .i64 pid) (.lit (.int .i64 0))

set_option maxRecDepth 100000 in
set_option maxHeartbeats 1600000 in
theorem birth_calls {w : World} {b m n : Nat} {D : DataW Unit} {last : Int} {T : TypeId} {fr : Nat × Nat} (h : Tab w b m n D last T fr) {pid v : Int} (hp : (Lit.int .i64 pid).wf = true) (hv : at0 D pid = .lit (.int .i64 v)) :
    Calls Try.prog 11 #[.pointer (some ⟨b, 0, none⟩), .int .i64 pid] w fun e w' => e = .returned (if v = 0 then .tuple #[.int .i64 0, .int .i64 3] else .tuple #[.int .i64 v, .int .i64 0]) ∧ w' = w := by
  obtain ⟨c, hrun, hat, hwc⟩ := h.own.lookup_int keyd uM u3 (zero3 w) (key_of hp)
  have hc : c = v := by
    unfold at0 at hv
    rw [hat] at hv
    simpa using hv
  subst hc
  have h0 := h.c0
  go_enter Try.func11, Try.ntmps11
  go_wp2
  all_goals first
    | (go_ret2; exact ⟨rfl, rfl⟩)
    | (exfalso; simp_all; done)

theorem Tab.other {w w1 : World} {b m n n' : Nat} {D D' : DataW Unit} {last : Int} {T : TypeId} {fr : Nat × Nat} (h : Tab w b m n D last T fr) (hb : w1.heap[b]? = w.heap[b]?) (hown : w1.ownsMap Try.prog 3 PE m n' D') : Tab w1 b m n' D' last T fr where
  hb := hb.trans h.hb
  th := h.th
  ne := h.ne
  own := hown

theorem Tab.drew {w : World} {b m n : Nat} {D : DataW Unit} {last : Int} {T : TypeId} {fr : Nat × Nat} (h : Tab w b m n D last T fr) : Tab w.drew b m n D last T fr := h.other rfl h.own.drew

theorem turned_blw {B : Own} {w w1 : World} {m : Nat} (ht : w.mapTurned w1 m) (hm : B.has m) : Blw B w w1 := by
  obtain ⟨es, clock, es', clock', hb, rfl⟩ := ht
  exact ⟨rfl, rfl, rfl, by simp [setBlock], fun k hk => heap_setBlock_other hb _ (fun e => hk (e ▸ hm))⟩

theorem turned_tab {w w1 : World} {b m n n' : Nat} {D D' : DataW Unit} {last : Int} {T : TypeId} {fr : Nat × Nat} (h : Tab w b m n D last T fr) (ht : w.mapTurned w1 m) (hown : w1.ownsMap Try.prog 3 PE m n' D') : Tab w1 b m n' D' last T fr := by
  refine h.other ?_ hown
  obtain ⟨es, clock, es', clock', hb, rfl⟩ := ht
  exact heap_setBlock_other hb _ (fun e => h.ne e.symm)

theorem blw_set {B : Own} {w : World} {b k : Nat} {x : Value} (h : B.has b) : Blw B w (w.setCell ⟨b, k, none⟩ x) :=
  ⟨rfl, rfl, rfl, by simp [World.setCell], fun i hi => set_off w x (fun e => hi (e ▸ h))⟩

set_option maxRecDepth 100000 in
set_option maxHeartbeats 1600000 in
theorem kill_calls {B : Own} {w : World} {b m n : Nat} {D : DataW Unit} {last : Int} {T : TypeId} {fr : Nat × Nat} (hT : Tab w b m n D last T fr) (hlo : B.has m) {pid v : Int} (hp : (Lit.int .i64 pid).wf = true) (hv : at0 D pid = .lit (.int .i64 v)) :
    Calls Try.prog 19 #[.pointer (some ⟨b, 0, none⟩), .int .i64 pid] w fun e w' =>
      if v = 0 then e = .returned (.int .i64 3) ∧ w' = w else e = .returned (.int .i64 0) ∧ Tab w' b m n (D.del (.int .i64 pid)) last T fr ∧ Blw B w w' := by
  obtain ⟨w1, hrun, hown, hturn⟩ := hT.own.drop keyd uM (key_of hp) 0
  have h0 := hT.c0
  have hbirth := birth_calls hT hp hv
  go_enter Try.func19, Try.ntmps19
  go_wp2_with (go_at_call 11; refine hbirth.mono ?_; rintro e w' ⟨rfl, rfl⟩)
  all_goals first
    | (go_end0; exact ⟨rfl, rfl⟩)
    | (go_ret; exact ⟨rfl, rfl⟩)
    | (go_end0; exact ⟨rfl, turned_tab hT hturn hown, turned_blw hturn hlo⟩)
    | (go_ret; exact ⟨rfl, turned_tab hT hturn hown, turned_blw hturn hlo⟩)


set_option maxRecDepth 100000 in
set_option maxHeartbeats 1600000 in
theorem alive_calls {w : World} {b m n : Nat} {D : DataW Unit} {last : Int} {T : TypeId} {fr : Nat × Nat} (hT : Tab w b m n D last T fr) {pid birth v : Int} (hp : (Lit.int .i64 pid).wf = true) (hv : at0 D pid = .lit (.int .i64 v)) :
    Calls Try.prog 8 #[.pointer (some ⟨b, 0, none⟩), .int .i64 pid, .int .i64 birth] w fun e w' => e = .returned (.bool (if v = 0 then false else v == birth)) ∧ w' = w := by
  have hbirth := birth_calls hT hp hv
  go_enter Try.func8, Try.ntmps8
  go_wp2_with (go_at_call 11; refine hbirth.mono ?_; rintro e w' ⟨rfl, rfl⟩)
  all_goals first
    | (go_ret; exact ⟨rfl, rfl⟩)
    | (exfalso; simp_all; done)

set_option maxRecDepth 100000 in
set_option maxHeartbeats 1600000 in
theorem spawn_calls {B : Own} {w : World} {b m n : Nat} {D : DataW Unit} {last : Int} {T : TypeId} {fr : Nat × Nat} (hT : Tab w b m n D last T fr) (hlo : B.has m) (hlb : B.has b) {pid : Int} (hp : (Lit.int .i64 pid).wf = true) (h1 : 1 ≤ pid) (h2 : pid ≤ 2147483648) (hv : at0 D pid = .lit (.int .i64 0))
    (hsz : Maps.size D < 8) (hn : n < maxLen) (hl0 : 0 ≤ last) (hl1 : last < 1000000) :
    Calls Try.prog 17 #[.pointer (some ⟨b, 0, none⟩), .int .i64 pid] w fun e w' => e = .returned (.tuple #[.int .i64 (last + 1), .int .i64 0]) ∧
      Tab w' b m (n + 1) (D.put (.int .i64 pid) (.lit (.int .i64 (last + 1)))) (last + 1) T fr ∧ Blw B w w' := by
  obtain ⟨c, hrun, hat, hwc⟩ := hT.own.lookup_int keyd uM u3 (zero3 w) (key_of hp)
  have hc : c = 0 := by
    unfold at0 at hv
    rw [hat] at hv
    simpa using hv
  subst hc
  have hlen := hT.own.len uM 3
  have h0 := hT.c0
  have hc1 := hT.c1
  have hf1 := hT.f1
  have heq : ∀ u : World, (binOp BinOp.eql 25 (.map (some m)) (.map none)).run Try.prog u = .ok (.bool false) u := fun u => by kernel_rfl
  have hwl : (Lit.int .i64 (last + 1)).wf = true := by simp [Lit.wf, IntKind.min, IntKind.max, IntKind.signed, IntKind.bits]; omega
  have hw1 : (w.setCell ⟨b, 1, none⟩ (.int .i64 (last + 1))).cell? ⟨b, 1, none⟩ = some (.int .i64 (last + 1)) := World.cell?_setCell_same w _ _ hc1
  have hw0 : (w.setCell ⟨b, 1, none⟩ (.int .i64 (last + 1))).cell? ⟨b, 0, none⟩ = some (.map (some m)) := (World.cell?_setCell_other _ ⟨b, 1, none⟩ ⟨b, 0, none⟩ _ (by simp)).trans h0
  have hown1 : (w.setCell ⟨b, 1, none⟩ (.int .i64 (last + 1))).drew.ownsMap Try.prog 3 PE m n D := (hT.own.setCell (a := ⟨b, 1, none⟩) hT.ne _).drew
  obtain ⟨w2, hrun2, hown2, hturn2⟩ := hown1.store keyd uM hn (key_of hp) (plainElem_int u3 hwl)
  have hd0 : (w.setCell ⟨b, 1, none⟩ (.int .i64 (last + 1))).drew.cell? ⟨b, 0, none⟩ = some (.map (some m)) := hw0
  have hd1 : (w.setCell ⟨b, 1, none⟩ (.int .i64 (last + 1))).drew.cell? ⟨b, 1, none⟩ = some (.int .i64 (last + 1)) := hw1
  have hT1 : Tab (w.setCell ⟨b, 1, none⟩ (.int .i64 (last + 1))).drew b m n D (last + 1) T fr := ⟨set_heap _ hT.hb, thaw2 hT.th, hT.ne, hown1⟩
  have hT2 := turned_tab hT1 hturn2 hown2
  have hw21 := hT2.c1
  have hbel : Blw B w w2 := (blw_set hlb).drew.trans (turned_blw hturn2 hlo)
  have hge : ¬ (8 : Int) ≤ (Maps.size D : Int) := by omega
  have hp1 : ¬ pid < 1 := by omega
  have hp2 : ¬ 2147483648 < pid := by omega
  go_enter Try.func17, Try.ntmps17
  go_wp2
  all_goals (try (exfalso; simp_all; done))
  go_region_calls
  all_goals
    go_wp2
    go_ret2
    exact ⟨rfl, hT2, hbel⟩

/-- A table that has no map yet. -/
structure Tab0 (w : World) (b : Nat) (last : Int) (T : TypeId) (fr : Nat × Nat) : Prop where
  hb : w.heap[b]? = some (.cells #[.map none, .int .i64 last] T fr)
  th : Thawed #[.map none, .int .i64 last] fr
section
variable {w : World} {b : Nat} {last : Int} {T : TypeId} {fr : Nat × Nat}
theorem Tab0.c0 (h : Tab0 w b last T fr) : w.cell? ⟨b, 0, none⟩ = some (.map none) := by simp only [World.cell?, h.hb]; rfl
theorem Tab0.c1 (h : Tab0 w b last T fr) : w.cell? ⟨b, 1, none⟩ = some (.int .i64 last) := by simp only [World.cell?, h.hb]; rfl
theorem Tab0.f0 (h : Tab0 w b last T fr) : w.frozen? ⟨b, 0, none⟩ = false := froz h.hb h.th (by simp)
theorem Tab0.f1 (h : Tab0 w b last T fr) : w.frozen? ⟨b, 1, none⟩ = false := froz h.hb h.th (by simp)
theorem Tab0.lt (h : Tab0 w b last T fr) : b < w.heap.size := (Array.getElem?_eq_some_iff.1 h.hb).1
end

set_option maxRecDepth 100000 in
set_option maxHeartbeats 1600000 in
theorem spawn0_calls {B : Own} {w : World} {b : Nat} {last : Int} {T : TypeId} {fr : Nat × Nat} (hT : Tab0 w b last T fr) (hB : B.lo ≤ w.heap.size) (hlb : B.has b) {pid : Int} (hp : (Lit.int .i64 pid).wf = true) (h1 : 1 ≤ pid) (h2 : pid ≤ 2147483648) (hl0 : 0 ≤ last) (hl1 : last < 1000000) :
    Calls Try.prog 17 #[.pointer (some ⟨b, 0, none⟩), .int .i64 pid] w fun e w' => e = .returned (.tuple #[.int .i64 (last + 1), .int .i64 0]) ∧
      Tab w' b w.heap.size 1 (DataW.put (.map []) (.int .i64 pid) (.lit (.int .i64 (last + 1)))) (last + 1) T fr ∧ Blw B w w' := by
  have hrun : ∀ u : World, (Instr.lookup 25 (.map none) (.int .i64 pid) false).run Try.prog u = .ok (.int .i64 0) u := fun u => Maps.look_nil false keyd uM (zero3 u) (key_of hp)
  have hlen : ∀ u : World, (Builtin.len_ #[25] 3 #[.map none]).run Try.prog u = .ok (.int .i64 0) u := fun u => Maps.len_nil uM 3
  have heq : ∀ u : World, (binOp BinOp.eql 25 (.map none) (.map none)).run Try.prog u = .ok (.bool true) u := fun u => by kernel_rfl
  have hmk : ∀ u : World, (Instr.makeMap 25 none).run Try.prog u = .ok (.map (some u.heap.size)) (u.alloc (.map #[] 0)) := fun u => run_makeMap 25 u
  have hwl : (Lit.int .i64 (last + 1)).wf = true := by simp [Lit.wf, IntKind.min, IntKind.max, IntKind.signed, IntKind.bits]; omega
  have h0 := hT.c0
  have hc1 := hT.c1
  have hne : w.heap.size ≠ b := by have := hT.lt; omega
  generalize hm : w.heap.size = m at hne
  have hm1 : (w.alloc (.map #[] 0)).ownsMap Try.prog 3 PE m 0 (.map []) := by rw [← hm]; exact World.ownsMap_made w Try.prog 3 PE
  have a0 : (w.alloc (.map #[] 0)).cell? ⟨b, 0, none⟩ = some (.map none) := (cell_of_same (hold_alloc w _ b hT.lt)).trans h0
  have a1 : (w.alloc (.map #[] 0)).cell? ⟨b, 1, none⟩ = some (.int .i64 last) := (cell_of_same (hold_alloc w _ b hT.lt)).trans hc1
  have g0 : (w.alloc (.map #[] 0)).frozen? ⟨b, 0, none⟩ = false := by rw [← hT.f0]; unfold World.frozen?; dsimp only; rw [hold_alloc w _ b hT.lt]
  have g1 : (w.alloc (.map #[] 0)).frozen? ⟨b, 1, none⟩ = false := by rw [← hT.f1]; unfold World.frozen?; dsimp only; rw [hold_alloc w _ b hT.lt]
  have b0 : ((w.alloc (.map #[] 0)).setCell ⟨b, 0, none⟩ (.map (some m))).cell? ⟨b, 0, none⟩ = some (.map (some m)) := World.cell?_setCell_same _ _ _ a0
  have b1 : ((w.alloc (.map #[] 0)).setCell ⟨b, 0, none⟩ (.map (some m))).cell? ⟨b, 1, none⟩ = some (.int .i64 last) := (World.cell?_setCell_other _ ⟨b, 0, none⟩ ⟨b, 1, none⟩ _ (by simp)).trans a1
  have z1 : ((w.alloc (.map #[] 0)).setCell ⟨b, 0, none⟩ (.map (some m))).frozen? ⟨b, 1, none⟩ = false := by simp [g1]
  have d1 : (((w.alloc (.map #[] 0)).setCell ⟨b, 0, none⟩ (.map (some m))).setCell ⟨b, 1, none⟩ (.int .i64 (last + 1))).drew.cell? ⟨b, 1, none⟩ = some (.int .i64 (last + 1)) := World.cell?_setCell_same _ _ _ b1
  have d0 : (((w.alloc (.map #[] 0)).setCell ⟨b, 0, none⟩ (.map (some m))).setCell ⟨b, 1, none⟩ (.int .i64 (last + 1))).drew.cell? ⟨b, 0, none⟩ = some (.map (some m)) := (World.cell?_setCell_other _ ⟨b, 1, none⟩ ⟨b, 0, none⟩ _ (by simp)).trans b0
  have e1 : (((w.alloc (.map #[] 0)).setCell ⟨b, 0, none⟩ (.map (some m))).setCell ⟨b, 1, none⟩ (.int .i64 (last + 1))).cell? ⟨b, 1, none⟩ = some (.int .i64 (last + 1)) := d1
  have e0 : (((w.alloc (.map #[] 0)).setCell ⟨b, 0, none⟩ (.map (some m))).setCell ⟨b, 1, none⟩ (.int .i64 (last + 1))).cell? ⟨b, 0, none⟩ = some (.map (some m)) := d0
  have hown1 : (((w.alloc (.map #[] 0)).setCell ⟨b, 0, none⟩ (.map (some m))).setCell ⟨b, 1, none⟩ (.int .i64 (last + 1))).drew.ownsMap Try.prog 3 PE m 0 (.map []) := ((hm1.setCell (a := ⟨b, 0, none⟩) hne _).setCell (a := ⟨b, 1, none⟩) hne _).drew
  obtain ⟨w2, hrun2, hown2, hturn2⟩ := hown1.store keyd uM (by decide) (key_of hp) (plainElem_int u3 hwl)
  have hT1 : Tab (((w.alloc (.map #[] 0)).setCell ⟨b, 0, none⟩ (.map (some m))).setCell ⟨b, 1, none⟩ (.int .i64 (last + 1))).drew b m 0 (.map []) (last + 1) T fr := ⟨set_heap _ (set_heap _ ((hold_alloc w _ b hT.lt).trans hT.hb)), thaw2 hT.th, hne, hown1⟩
  have hT2 := turned_tab hT1 hturn2 hown2
  have hw21 := hT2.c1
  have hlm : B.has m := .inl (by omega)
  have hbel : Blw B w w2 := ((((Blw.refl B w).alloc hB (.map #[] 0)).trans (blw_set (k := 0) (x := .map (some m)) hlb)).trans (blw_set (k := 1) (x := .int .i64 (last + 1)) hlb)).drew.trans (turned_blw hturn2 hlm)
  have hp1 : ¬ pid < 1 := by omega
  have hp2 : ¬ 2147483648 < pid := by omega
  go_enter Try.func17, Try.ntmps17
  go_wp2
  all_goals (try (exfalso; simp_all; done))
  all_goals (try simp only [hm])
  go_wp2
  go_region_calls
  all_goals
    go_wp2
    go_ret2
    exact ⟨rfl, hT2, hbel⟩

set_option maxRecDepth 100000 in
set_option maxHeartbeats 1600000 in
theorem again_calls {w : World} {b m n : Nat} {D : DataW Unit} {last : Int} {T : TypeId} {fr : Nat × Nat} (hT : Tab w b m n D last T fr) {pid v : Int} (hp : (Lit.int .i64 pid).wf = true) (h1 : 1 ≤ pid) (h2 : pid ≤ 2147483648) (hv : at0 D pid = .lit (.int .i64 v)) (hv0 : v ≠ 0) :
    Calls Try.prog 17 #[.pointer (some ⟨b, 0, none⟩), .int .i64 pid] w fun e w' => e = .returned (.tuple #[.int .i64 0, .int .i64 4]) ∧ w' = w := by
  obtain ⟨c, hrun, hat, hwc⟩ := hT.own.lookup_int keyd uM u3 (zero3 w) (key_of hp)
  have hc : c = v := by
    unfold at0 at hv
    rw [hat] at hv
    simpa using hv
  subst hc
  have h0 := hT.c0
  have hp1 : ¬ pid < 1 := by omega
  have hp2 : ¬ 2147483648 < pid := by omega
  go_enter Try.func17, Try.ntmps17
  go_wp2
  all_goals first
    | (go_ret2; exact ⟨rfl, rfl⟩)
    | (exfalso; simp_all; done)

section
open Go.Maps Go.Sort Go.Shelf
set_option maxRecDepth 100000 in
set_option maxHeartbeats 1600000 in
theorem pids_calls {w : World} {b m n : Nat} {D : DataW Unit} {last : Int} {T : TypeId} {fr : Nat × Nat} (hT : Tab w b m n D last T fr) (hmax : Maps.size D ≤ 1000) :
    Calls Try.prog 14 #[.pointer (some ⟨b, 0, none⟩)] w fun e w' => ∃ (v : Value) (ss : List Int), e = .returned v ∧ ss.Perm (intKeys D) ∧
      w'.ownsRow w.heap.size 3 1 v ss.length ((ss.mergeSort (fun x y => decide (x ≤ y))).map encZ) ∧ (v = .slice none 0 0 ↔ ss = []) ∧ Below w.heap.size w w' := by
  have hown := hT.own
  have hbl := hown.lt
  have h0 := hT.c0
  have hseq : SeqGives Fence.wide 2 Try.prog 28 #[.pointer (some ⟨w.heap.size, 0, none⟩)] encZ (fun ss => ss.Perm (intKeys D)) (Maps.size D) (w.alloc (.cells #[.map (some m)] 25)) :=
    AnyZI.keys_gives (ρ := Try.keysA_ren) { Try.keysA with } Fence.wide _ trivial rfl (by omega) w.heap.size m n D _ (by simp) (by simp) (by
      obtain ⟨es, clock, hb, Ft, hs, hD⟩ := hown
      exact ⟨es, clock, (Below.heap_alloc _ _ m hbl).trans hb, Ft, hs, hD⟩)
  have cK : ∀ mb W, CallsIn Fence.wide 5 Try.prog 24 #[.map mb] W fun e w' => e = .returned (.func (.func 28) #[] #[.pointer (some ⟨W.heap.size, 0, none⟩)]) ∧ w' = W.alloc (.cells #[.map mb] 25) := fun mb W => AnyZI.keys_in Try.keysA Fence.wide 5 trivial rfl mb W
  have hmx : (1000 : Nat) ≤ maxLen := by decide
  have cS := AnyZI.sorted_in Try.sortedA Fence.wide 5 trivial trivial trivial trivial rfl (by omega) (Try.sortsA _) (enters_of Try.func27 (by kernel_rfl) rfl) 28 #[.pointer (some ⟨w.heap.size, 0, none⟩)] trivial (enters_of Try.func28 (by kernel_rfl) rfl) _ _ (Nat.le_trans hmax hmx) (by omega) _ hseq
  change CallsIn _ _ Try.prog 23 _ _ _ at cS
  have dK := fun mb W => callsIn_wide.1 (cK mb W)
  have dS := callsIn_wide.1 cS
  go_enter Try.func14, Try.ntmps14
  go_wp2_with (first
    | (go_at_call 24; refine (dK _ _).mono ?_; rintro e w' ⟨rfl, rfl⟩)
    | (go_at_call 23; refine dS.mono ?_; rintro e w' ⟨v, ss, rfl, hS, hrow, hnil, hb⟩))
  go_ret
  exact ⟨v, ss, rfl, hS, ownsRow_base_a hrow (by simp), hnil, ((Below.refl _ w).alloc (Nat.le_refl _) _).trans (hb.mono (by simp))⟩
end


def DA : DataW Unit := DataW.put (.map []) (.int .i64 7) (.lit (.int .i64 1))
def DB : DataW Unit := DA.del (.int .i64 7)
def DC : DataW Unit := DB.put (.int .i64 7) (.lit (.int .i64 2))
theorem vA : at0 DA 7 = .lit (.int .i64 1) := by rfl
theorem vB : at0 DB 7 = .lit (.int .i64 0) := by rfl
theorem vC : at0 DC 7 = .lit (.int .i64 2) := by rfl
theorem zB : Maps.size DB < 8 := by decide
section
open Go.Maps Go.Sort Go.Shelf
theorem kC : intKeys DC = [7] := by rfl
end
theorem zC : Maps.size DC ≤ 1000 := by decide

variable [Lp]
theorem same77 : P_ref09_SameInts ([7], ([7], ())) = some (true, ()) := by
  obtain rfl : ‹Lp› = Lp.fast := Lp.one _ _
  kernel_rfl

omit [Lp] in
theorem alive_DC {w : World} {b m n : Nat} {last birth : Int} {T : TypeId} {fr : Nat × Nat} (hT : Tab w b m n DC last T fr) : Calls Try.prog 8 #[.pointer (some ⟨b, 0, none⟩), .int .i64 7, .int .i64 birth] w fun e w' => e = .returned (.bool ((2 : Int) == birth)) ∧ w' = w := by
  have h := alive_calls hT (birth := birth) (by decide) vC
  rw [if_neg (by decide)] at h
  exact h

omit [Lp] in
theorem rep77 {w : World} {I : Nat → Nat → Prop} {blk cap : Nat} (hc : w.cell? ⟨blk, 0, none⟩ = some (.int .i64 7)) (hI : ∀ o, I blk o) (h1 : 1 ≤ cap) (h2 : cap ≤ maxLen) :
    RepC w I (.slice (.int .i64)) ([7] : List Int) [.slice (some ⟨blk, 0, none⟩) 1 cap] := by
  refine .inr ⟨blk, 0, cap, rfl, h1, h2, fun i x hx => ?_⟩
  have hx : ([7] : List Int)[i]? = some x := hx
  cases i with
  | succ i => simp at hx
  | zero =>
    obtain rfl : x = (7 : Int) := (Option.some.inj hx).symm
    refine ⟨[.int .i64 7], rfl, fun j v hj => ?_, rfl, by decide, by decide⟩
    cases j with
    | succ j => simp at hj
    | zero => exact ⟨by rw [← Option.some.inj hj]; exact hc, hI _⟩

theorem same_calls {G : Globs} (hs : Holds Try.prog G 13 ⟨(.pair (.slice (.int .i64)) (.pair (.slice (.int .i64)) .unit)), (.pair .bool .unit), P_ref09_SameInts⟩) {w : World} (hG : GlobOk G w) {g1 c1 g2 c2 : Nat}
    (h1 : w.cell? ⟨g1, 0, none⟩ = some (.int .i64 7)) (h2 : w.cell? ⟨g2, 0, none⟩ = some (.int .i64 7)) (k1 : 1 ≤ c1) (k2 : c1 ≤ maxLen) (k3 : 1 ≤ c2) (k4 : c2 ≤ maxLen) (b1 : g1 < w.heap.size) (b2 : g2 < w.heap.size) :
    Calls Try.prog 13 #[.slice (some ⟨g1, 0, none⟩) 1 c1, .slice (some ⟨g2, 0, none⟩) 1 c2] w fun e w' => e = .returned (.bool true) ∧ Below w.heap.size w w' := by
  refine (hs.calls (fun b _ => b = g1 ∨ b = g2) w _ (([7] : List Int), (([7] : List Int), ())) (true, ()) ?_ hG ?_ same77).mono ?_
  · rintro b o (rfl | rfl) <;> assumption
  · exact ⟨[.slice (some ⟨g1, 0, none⟩) 1 c1], [.slice (some ⟨g2, 0, none⟩) 1 c2], rfl, rep77 h1 (fun o => .inl rfl) k1 k2, [.slice (some ⟨g2, 0, none⟩) 1 c2], [], rfl, rep77 h2 (fun o => .inr rfl) k3 k4, rfl⟩
  · rintro e w' ⟨v, I', rfl, hb, _, _, _, hr⟩
    obtain ⟨cs, hcs, hv⟩ := hr
    obtain rfl : cs = [.bool true] := hcs
    obtain rfl : v = .bool true := List.head_eq_of_cons_eq hv
    exact ⟨rfl, hb⟩

set_option maxRecDepth 100000 in
set_option maxHeartbeats 2000000 in
theorem awake_holds {G : Globs} (hs : Holds Try.prog G 13 ⟨(.pair (.slice (.int .i64)) (.pair (.slice (.int .i64)) .unit)), (.pair .bool .unit), P_ref09_SameInts⟩) :
    Holds Try.prog G 6 ⟨.unit, (.pair .bool .unit), P_law11_awake⟩ where
  body := by
    obtain ⟨c, hc⟩ : ∃ c, Try.f6.body = some c := ⟨_, rfl⟩
    exact ⟨_, c, Try.func6, by kernel_rfl, hc⟩
  calls := fun I w args x y him hG ha hy => by
    have ha : args.toList = [] := ha
    obtain rfl : args = #[] := Array.toList_inj.1 ha
    obtain rfl := Option.some.inj (show some (true, ()) = some y from hy)
    have h7 : (Lit.int .i64 7).wf = true := by decide
    have hT0 : Tab0 (w.alloc (.cells #[.map none, .int .i64 0] 27)) w.heap.size 0 27 (0, 0) := ⟨heap_alloc_new w _, fun o ho q => by omega⟩
    let B := ownFrom G w.heap.size
    go_enter Try.func6, Try.ntmps6
    go_wp2_with (go_at_call 17; refine (spawn0_calls (B := B) hT0 (by show w.heap.size ≤ _; simp) (own_from.2 (Nat.le_refl _)) h7 (by omega) (by omega) (by omega) (by omega)).mono ?_; rintro e w1 ⟨rfl, hT1, hb1⟩)
    have hT1 : Tab w1 w.heap.size (w.alloc (.cells #[.map none, .int .i64 0] 27)).heap.size 1 DA 1 27 (0, 0) := hT1
    have hm : w.heap.size ≤ (w.alloc (.cells #[.map none, .int .i64 0] 27)).heap.size := by simp
    generalize (w.alloc (.cells #[.map none, .int .i64 0] 27)).heap.size = m at hT1 hm
    have hK := kill_calls (B := B) hT1 (own_from.2 hm) h7 vA
    go_wp2_with (go_at_call 19; refine hK.mono ?_; rintro e w2 h2; rw [if_neg (by decide)] at h2; obtain ⟨rfl, hT2, hb2⟩ := h2)
    have hT2 : Tab w2 w.heap.size m 1 DB 1 27 (0, 0) := hT2
    have hS2 := spawn_calls (B := B) hT2 (own_from.2 hm) (own_from.2 (Nat.le_refl _)) h7 (by omega) (by omega) vB zB (by decide) (by omega) (by omega)
    go_wp2_with (go_at_call 17; refine hS2.mono ?_; rintro e w3 ⟨rfl, hT3, hb3⟩)
    have hT3 : Tab w3 w.heap.size m 2 DC 2 27 (0, 0) := hT3
    have hA3 := again_calls hT3 h7 (by omega) (by omega) vC (by decide)
    go_wp2_with (go_at_call 17; refine hA3.mono ?_; rintro e w4 ⟨rfl, rfl⟩)
    have hpid := pids_calls hT3 zC
    have hbw : Below w.heap.size w w4 := ((((Below.refl _ w).alloc (Nat.le_refl _) _).trans hb1.below).trans hb2.below).trans hb3.below
    go_wp2_with (first
      | (go_at_call 8; refine (alive_DC hT3).mono ?_; rintro e w5 ⟨rfl, rfl⟩)
      | (go_at_call 14; refine hpid.mono ?_; rintro e w6 ⟨v, ss, rfl, hS, hrow, hnil, hb5⟩))
    have hss : ss = [7] := List.perm_singleton.1 (by rw [kC] at hS; exact hS)
    subst hss
    have hbw6 : Below w.heap.size w w6 := hbw.trans (hb5.mono hbw.size)
    obtain ⟨_, h0 | ⟨g, cap, cur, hvv, hbase, hg, hn, hcap, hsz, htk⟩⟩ := hrow
    · exact absurd h0.2 (by simp)
    have hvv : v = .slice (some ⟨g, 0, none⟩) 1 cap := hvv
    have hn : 1 ≤ cap := hn
    have hgl : g < w6.heap.size := (Array.getElem?_eq_some_iff.1 hg).1
    have hc0 : w6.cell? ⟨g, 0, none⟩ = some (.int .i64 7) := by
      rw [cell_of_heap hg]
      have h1 : cur.toList.take 1 = [.int .i64 7] := by simpa using htk
      have h2 : (cur.toList.take 1)[0]? = some (.int .i64 7) := by rw [h1]; rfl
      rw [List.getElem?_take] at h2
      simpa using h2
    subst hvv
    have hbw7 : Below w.heap.size w (w6.alloc (.cells #[.int .i64 7] 3)) := hbw6.alloc hbw6.size _
    have hG7 : GlobOk G (w6.alloc (.cells #[.int .i64 7] 3)) := fun b Q hgb => by
      obtain ⟨o, ho, hq⟩ := hG b Q hgb
      exact ⟨o, (hbw7.block b (Array.getElem?_eq_some_iff.1 ho).1).trans ho, hq⟩
    have hsame := same_calls hs hG7 (g1 := g) (c1 := cap) (g2 := w6.heap.size) (c2 := 1) ((cell_of_same (hold_alloc w6 _ g hgl)).trans hc0) (by go_simp) hn hcap (by decide) (by decide) (by simp; omega) (by simp)
    go_wp2_with (go_at_call 13; refine hsame.mono ?_; rintro e w8 ⟨rfl, hb8⟩)
    go_ret
    have hbw8 : Below w.heap.size w w8 := hbw7.trans (hb8.mono hbw7.size)
    exact ⟨_, I, rfl, hbw8, fun _ _ h => h, fun b o hi => Nat.lt_of_lt_of_le (him b o hi) hbw8.size, fun b o h1 h2 => absurd h1 h2, ⟨[.bool true], rfl, rfl⟩⟩

/-! ### Over lists in the order of their keys -/
section
open Go.Maps Go.Sort Go.Shelf
theorem same_int {a k : Int} : (Lit.int .i64 a).sameKey (.int .i64 k) = decide (a = k) := by simp [Lit.sameKey]
theorem atKey_mapD (l : MapT) (k : Int) : at0 (mapD l) k = .lit (.int .i64 (mget l k)) := by
  unfold at0 mapD DataW.atKey mget
  induction l with
  | nil => rfl
  | cons p r ih =>
    simp only [List.map_cons, List.find?_cons, same_int]
    cases hd : decide (p.1 = k) with
    | true => rfl
    | false => exact ih
theorem del_mapD (l : MapT) (k : Int) : (mapD l).del (.int .i64 k) = mapD (mdel l k) := by
  unfold mapD mdel
  show DataW.map (List.filter _ (l.map _)) = _
  rw [List.filter_map]
  refine congrArg DataW.map (congrArg _ (List.filter_congr fun p _ => ?_))
  show (!(Lit.int .i64 p.1).sameKey (.int .i64 k)) = _
  rw [same_int]
theorem ins_mapD (p : Int × Int × Unit) (l : MapT) : DataW.insert ((.int .i64 p.1, .lit (.int .i64 p.2.1)) : Lit × DataW Unit) (l.map fun p => (.int .i64 p.1, .lit (.int .i64 p.2.1))) = (mins p l).map fun p => (.int .i64 p.1, .lit (.int .i64 p.2.1)) := by
  induction l with
  | nil => rfl
  | cons y r ih =>
    show (if decide (p.1 < y.1) = true then _ else _) = _
    unfold mins
    by_cases h : p.1 < y.1
    · rw [if_pos h]
      have hd : decide (p.1 < y.1) = true := decide_eq_true h
      simp only [hd, if_true]
      rfl
    · rw [if_neg h]
      have hd : decide (p.1 < y.1) = false := decide_eq_false h
      simp only [hd]
      exact congrArg (List.cons _) ih
theorem put_mapD (l : MapT) (k v : Int) : (mapD l).put (.int .i64 k) (.lit (.int .i64 v)) = mapD (mput l k v) := by
  have h : (mapD l).put (.int .i64 k) (.lit (.int .i64 v)) = .map (DataW.insert (.int .i64 k, .lit (.int .i64 v)) (match (mapD l).del (.int .i64 k) with | .map es => es | _ => [])) := rfl
  rw [h, del_mapD]
  exact congrArg DataW.map (ins_mapD (k, (v, ())) (mdel l k))
theorem size_mapD (l : MapT) : Maps.size (mapD l) = l.length := by unfold mapD; rw [Maps.size_eq, List.length_map]
theorem keys_mapD (l : MapT) : intKeys (mapD l) = l.map (·.1) := by
  show (l.map _).map _ = _
  rw [List.map_map]
  rfl

theorem keyOf_same {P P' : Program} {k k' : TypeId} (h : P.underlying k = some (.int .i64)) (h' : P'.underlying k' = some (.int .i64)) (v : Value) : keyOf P k v = keyOf P' k' v := by
  unfold keyOf
  rw [h, h']
  unfold mapKey
  rw [h, h']
theorem plainElem_same {P P' : Program} {k k' : TypeId} (h : P.underlying k = some (.int .i64)) (h' : P'.underlying k' = some (.int .i64)) : plainElem (H := Unit) P k = plainElem P' k' := by
  funext v
  unfold plainElem
  rw [h, h']
theorem rd_same {P P' : Program} {k k' : TypeId} (h : P.underlying k = some (.int .i64)) (h' : P'.underlying k' = some (.int .i64)) (x : MapEntry) : WideElems.rd P k (plainElem (H := Unit) P k) x = WideElems.rd P' k' (plainElem P' k') x := by
  unfold WideElems.rd
  rw [keyOf_same h h', plainElem_same h h']
theorem mapIs_own {o : Obj} {l : MapT} (h : MapIs o l) {w : World} {m : Nat} (hm : w.heap[m]? = some o) : w.ownsMap Try.prog 3 PE m l.length (mapD l) := by
  obtain ⟨P, k, es, clock, hk, rfl, F, hD⟩ := h
  have hrd : WideElems.rd P k (plainElem (H := Unit) P k) = WideElems.rd Try.prog 3 PE := funext fun x => rd_same hk u3 x
  have hrg : WideElems.rg P k (plainElem (H := Unit) P k) = WideElems.rg Try.prog 3 PE := by
    funext x
    unfold WideElems.rg
    rw [hrd]
  refine ⟨es, clock, hm, ⟨F.size, F.stamped, fun x hx => by rw [← hrd]; exact F.reads x hx⟩, ?_, by rw [hD, hrg]⟩
  have h1 := congrArg Maps.size hD
  rw [size_mapD] at h1
  rw [h1]
  simp [Maps.size, length_sorted]
theorem own_mapIs {w : World} {m n : Nat} {l : MapT} (h : w.ownsMap Try.prog 3 PE m n (mapD l)) : ∃ o, w.heap[m]? = some o ∧ MapIs o l := by
  obtain ⟨es, clock, hb, F, _, hD⟩ := h
  exact ⟨_, hb, Try.prog, 3, es, clock, u3, rfl, F, hD⟩
end

/-! ### Contracts -/
theorem rbody {P : Program} {f : Nat} {fn : Func} (hP : P.funcs[f]? = some fn) (hname : (fn.name == "runtime.NumGoroutine") = false) (hb : fn.body.isSome = true) : ∃ fn code, P.funcs[f]? = some fn ∧ (fn.name == "runtime.NumGoroutine") = false ∧ fn.body = some code := by
  obtain ⟨code, hc⟩ := Option.isSome_iff_exists.1 hb
  exact ⟨fn, code, hP, hname, hc⟩
abbrev tabO : OT := .pair .map (.pair (.dat (.int .i64)) .unit)
abbrev tabU : OT := .pair (.ref 27 tabO) .unit
theorem i64_wf {n : Int} (h : IntKind.i64.min ≤ n ∧ n ≤ IntKind.i64.max) : (Lit.int .i64 n).wf = true := by simpa [Lit.wf] using h

theorem args0 {w : World} {I : Nat → Nat → Prop} {x : Unit} {args : Array Value} {ptrs : List Value} (h : RArgs w I [true] .unit tabU x args.toList ptrs) : ∃ v, args = #[v] ∧ ptrs = [v] := by
  obtain ⟨v, rest, r, ha, hp, _, _, rfl, rfl⟩ := h
  exact ⟨v, Array.toList_inj.1 ha, hp⟩
theorem args1 {w : World} {I : Nat → Nat → Prop} {x : Int × Unit} {args : Array Value} {ptrs : List Value} (h : RArgs w I [true, false] (.pair (.int .i64) .unit) tabU x args.toList ptrs) :
    ∃ v, args = #[v, .int .i64 x.1] ∧ ptrs = [v] ∧ (Lit.int .i64 x.1).wf = true := by
  obtain ⟨v, rest, r, ha, hp, cs, rest', rfl, ⟨rfl, h1⟩, _, _, rfl, rfl⟩ := h
  exact ⟨v, Array.toList_inj.1 ha, hp, i64_wf h1⟩
theorem args2 {w : World} {I : Nat → Nat → Prop} {x : Int × Int × Unit} {args : Array Value} {ptrs : List Value} (h : RArgs w I [true, false, false] (.pair (.int .i64) (.pair (.int .i64) .unit)) tabU x args.toList ptrs) :
    ∃ v, args = #[v, .int .i64 x.1, .int .i64 x.2.1] ∧ ptrs = [v] ∧ (Lit.int .i64 x.1).wf = true := by
  obtain ⟨v, rest, r, ha, hp, cs, rest', rfl, ⟨rfl, h1⟩, cs2, rest2, rfl, ⟨rfl, h2⟩, _, _, rfl, rfl⟩ := h
  exact ⟨v, Array.toList_inj.1 ha, hp, i64_wf h1⟩

/-- Where a table lies. -/
structure At (w : World) (I : Nat → Nat → Prop) (l : MapT) (last : Int) (b : Nat) (L : Option (Nat × Nat)) (mv : Value) (T : TypeId) (fr : Nat × Nat) : Prop where
  hI : ∀ off, ¬ I b off
  hb : w.heap[b]? = some (.cells #[mv, .int .i64 last] T fr)
  th : Thawed #[mv, .int .i64 last] fr
  ty : 27 = 0 ∨ T = 27
  wf : IntKind.i64.min ≤ last ∧ last ≤ IntKind.i64.max
  mp : MapBufAt w I l L mv
theorem at_of {w : World} {I : Nat → Nat → Prop} {u : TabU} {ptrs : List Value} {bs : List Nat} {ls : List (Option (Nat × Nat))} (h : ObjAt w I tabU u ptrs bs ls) :
    ∃ b L mv T fr, ptrs = [.pointer (some ⟨b, 0, none⟩)] ∧ bs = [b] ∧ ls = [L] ∧ At w I u.1.1 u.1.2.1 b L mv T fr := by
  obtain ⟨c1, c2, b1, b2, l1, l2, rfl, rfl, rfl, ⟨b, r, rfl, rfl, hI, cur, T, fr, hh, ht, hT, ho⟩, rfl, rfl, rfl⟩ := h
  obtain ⟨d1, d2, e1, e2, m1, m2, hcur, rfl, rfl, ⟨L, mv, rfl, rfl, rfl, hm⟩, f1, f2, g1, g2, n1, n2, rfl, rfl, rfl, ⟨⟨rfl, hwf⟩, rfl, rfl⟩, rfl, rfl, rfl⟩ := ho
  obtain rfl : cur = #[mv, .int .i64 u.1.2.1] := Array.toList_inj.1 hcur
  exact ⟨b, L, mv, T, fr, rfl, rfl, rfl, hI, hh, ht, hT, hwf, hm⟩
theorem At.obj {w : World} {I : Nat → Nat → Prop} {l : MapT} {last : Int} {b : Nat} {L : Option (Nat × Nat)} {mv : Value} {T : TypeId} {fr : Nat × Nat} (h : At w I l last b L mv T fr) : ObjAt w I tabU ((l, (last, ())), ()) [.pointer (some ⟨b, 0, none⟩)] [b] [L] :=
  ⟨[_], [], [b], [], [L], [], rfl, rfl, rfl, ⟨b, [], rfl, rfl, h.hI, _, T, fr, h.hb, h.th, h.ty, [mv], [.int .i64 last], [], [], [L], [], rfl, rfl, rfl, ⟨L, mv, rfl, rfl, rfl, h.mp⟩, [.int .i64 last], [], [], [], [], [], rfl, rfl, rfl, ⟨⟨rfl, h.wf⟩, rfl, rfl⟩, rfl, rfl, rfl⟩, rfl, rfl, rfl⟩
/-- With a map, and without. -/
theorem At.cases {w : World} {I : Nat → Nat → Prop} {l : MapT} {last : Int} {b : Nat} {L : Option (Nat × Nat)} {mv : Value} {T : TypeId} {fr : Nat × Nat} (h : At w I l last b L mv T fr) (hn : (blksOf [b] [L]).Nodup) :
    (L = none ∧ l = [] ∧ Tab0 w b last T fr) ∨ ∃ m c, L = some (m, c) ∧ Tab w b m l.length (mapD l) last T fr ∧ ∀ o, ¬ I m o := by
  obtain ⟨hI, hb, th, ty, wf, ⟨rfl, rfl, rfl⟩ | ⟨m, c, o, rfl, rfl, ho, hm, hIm⟩⟩ := h
  · exact .inl ⟨rfl, rfl, hb, th⟩
  · refine .inr ⟨m, c, rfl, ⟨hb, th, ?_, mapIs_own hm ho⟩, hIm⟩
    have := hn
    simp [blksOf] at this
    exact fun e => this e.symm
theorem Tab.at_ {w : World} {I : Nat → Nat → Prop} {l : MapT} {last : Int} {b m n : Nat} {T : TypeId} {fr : Nat × Nat} (h : Tab w b m n (mapD l) last T fr) (c : Nat) (hI : ∀ o, ¬ I b o) (hIm : ∀ o, ¬ I m o) (ty : 27 = 0 ∨ T = 27) (wf : IntKind.i64.min ≤ last ∧ last ≤ IntKind.i64.max) :
    At w I l last b (some (m, c)) (.map (some m)) T fr := by
  obtain ⟨o, ho, hm⟩ := own_mapIs h.own
  exact ⟨hI, h.hb, h.th, ty, wf, .inr ⟨m, c, o, rfl, rfl, ho, hm, hIm⟩⟩
theorem res1 {w : World} {I : Nat → Nat → Prop} {n : Int} (h : IntKind.i64.min ≤ n ∧ n ≤ IntKind.i64.max) : ResRep w I (.pair (.int .i64) .unit) (n, ()) (.int .i64 n) := ⟨[_], ⟨rfl, h⟩, rfl⟩
theorem resB {w : World} {I : Nat → Nat → Prop} {x : Bool} : ResRep w I (.pair .bool .unit) (x, ()) (.bool x) := ⟨[_], rfl, rfl⟩

theorem res2 {w : World} {I : Nat → Nat → Prop} {n m : Int} (h : IntKind.i64.min ≤ n ∧ n ≤ IntKind.i64.max) (k : IntKind.i64.min ≤ m ∧ m ≤ IntKind.i64.max) : ResRep w I (.pair (.int .i64) (.pair (.int .i64) .unit)) (n, (m, ())) (.tuple #[.int .i64 n, .int .i64 m]) :=
  ⟨#[.int .i64 n, .int .i64 m], rfl, _, _, rfl, ⟨[_], ⟨rfl, h⟩, rfl⟩, _, _, rfl, ⟨[_], ⟨rfl, k⟩, rfl⟩, rfl⟩
theorem wf_i64 {n : Int} (h : (Lit.int .i64 n).wf = true) : IntKind.i64.min ≤ n ∧ n ≤ IntKind.i64.max := by simpa [Lit.wf] using h
theorem mget_wf {w : World} {m n : Nat} {l : MapT} (h : w.ownsMap Try.prog 3 PE m n (mapD l)) {k : Int} (hk : (Lit.int .i64 k).wf = true) : (Lit.int .i64 (mget l k)).wf = true := by
  obtain ⟨c, _, hat, hwc⟩ := h.lookup_int keyd uM u3 (zero3 w) (key_of hk)
  have hq := atKey_mapD l k
  unfold at0 at hq
  rw [hat] at hq
  have : c = mget l k := by simpa using hq
  rw [← this]; exact hwc
theorem eqI_if {α : Type} {a b : Int} {x y : α} : (bif eqI a b then x else y) = if a = b then x else y := by
  unfold eqI
  by_cases h : a = b
  · rw [if_pos h, decide_eq_true h]; rfl
  · rw [if_neg h, decide_eq_false h]; rfl

section
variable {w : World} {b : Nat} {last : Int} {T : TypeId} {fr : Nat × Nat}
set_option maxRecDepth 100000 in
set_option maxHeartbeats 1600000 in
theorem birth0_calls (h : Tab0 w b last T fr) {pid : Int} (hp : (Lit.int .i64 pid).wf = true) :
    Calls Try.prog 11 #[.pointer (some ⟨b, 0, none⟩), .int .i64 pid] w fun e w' => e = .returned (.tuple #[.int .i64 0, .int .i64 3]) ∧ w' = w := by
  have hrun : ∀ u : World, (Instr.lookup 25 (.map none) (.int .i64 pid) false).run Try.prog u = .ok (.int .i64 0) u := fun u => Maps.look_nil false keyd uM (zero3 u) (key_of hp)
  have h0 := h.c0
  go_enter Try.func11, Try.ntmps11
  go_wp2
  all_goals first
    | (go_ret2; exact ⟨rfl, rfl⟩)
    | (exfalso; simp_all; done)
set_option maxRecDepth 100000 in
set_option maxHeartbeats 1600000 in
theorem kill0_calls (hT : Tab0 w b last T fr) {pid : Int} (hp : (Lit.int .i64 pid).wf = true) :
    Calls Try.prog 19 #[.pointer (some ⟨b, 0, none⟩), .int .i64 pid] w fun e w' => e = .returned (.int .i64 3) ∧ w' = w := by
  have hbirth := birth0_calls hT hp
  go_enter Try.func19, Try.ntmps19
  go_wp2_with (go_at_call 11; refine hbirth.mono ?_; rintro e w' ⟨rfl, rfl⟩)
  all_goals first
    | (go_end0; exact ⟨rfl, rfl⟩)
    | (go_ret; exact ⟨rfl, rfl⟩)
set_option maxRecDepth 100000 in
set_option maxHeartbeats 1600000 in
theorem alive0_calls (hT : Tab0 w b last T fr) {pid birth : Int} (hp : (Lit.int .i64 pid).wf = true) :
    Calls Try.prog 8 #[.pointer (some ⟨b, 0, none⟩), .int .i64 pid, .int .i64 birth] w fun e w' => e = .returned (.bool false) ∧ w' = w := by
  have hbirth := birth0_calls hT hp
  go_enter Try.func8, Try.ntmps8
  go_wp2_with (go_at_call 11; refine hbirth.mono ?_; rintro e w' ⟨rfl, rfl⟩)
  all_goals first
    | (go_ret; exact ⟨rfl, rfl⟩)
    | (exfalso; simp_all; done)
set_option maxRecDepth 100000 in
set_option maxHeartbeats 1600000 in
theorem killAll0_calls (hT : Tab0 w b last T fr) :
    Calls Try.prog 16 #[.pointer (some ⟨b, 0, none⟩)] w fun e w' => e = .returned (.tuple #[]) ∧ w' = w := by
  have h0 := hT.c0
  have hcl : ∀ ty, (Builtin.clear_ #[25] ty #[.map none]).run Try.prog w = .ok (.tuple #[]) w := fun ty => by simp [Builtin.clear_, run_underlying uM]
  go_enter Try.func16, Try.ntmps16
  go_wp2
  all_goals first
    | (go_ret2; exact ⟨rfl, rfl⟩)
    | (go_end0; exact ⟨rfl, rfl⟩)
    | (exfalso; simp_all; done)
set_option maxRecDepth 100000 in
set_option maxHeartbeats 1600000 in
theorem killAll_calls {B : Own} {m n : Nat} {D : DataW Unit} (hT : Tab w b m n D last T fr) (hm : B.has m) :
    Calls Try.prog 16 #[.pointer (some ⟨b, 0, none⟩)] w fun e w' => e = .returned (.tuple #[]) ∧ Tab w' b m 0 (.map []) last T fr ∧ Blw B w w' := by
  have h0 := hT.c0
  obtain ⟨es, clock, hb, F, hs, hD⟩ := hT.own
  have hcl : ∀ ty, (Builtin.clear_ #[25] ty #[.map (some m)]).run Try.prog w = .ok (.tuple #[]) (setBlock w m (.map #[] clock)) := fun ty => by
    simp [Builtin.clear_, run_underlying uM, MapKept.run_getObj_map hb, MapKept.run_setObj_map _ hb, Result.andThen]
    rfl
  have hturn : w.mapTurned (setBlock w m (.map #[] clock)) m := ⟨es, clock, #[], clock, hb, rfl⟩
  have hown : (setBlock w m (.map #[] clock)).ownsMap Try.prog 3 PE m 0 (.map []) := ⟨#[], clock, heap_setBlock_same hb _, ⟨by simp, stamped_empty clock, by simp⟩, Nat.le_refl _, rfl⟩
  go_enter Try.func16, Try.ntmps16
  go_wp2
  all_goals first
    | (go_ret2; exact ⟨rfl, turned_tab hT hturn hown, turned_blw hturn hm⟩)
    | (go_end0; exact ⟨rfl, turned_tab hT hturn hown, turned_blw hturn hm⟩)
    | (exfalso; simp_all; done)
set_option maxRecDepth 100000 in
set_option maxHeartbeats 1600000 in
theorem spawnArg_calls (w : World) (b : Nat) {pid : Int} (h : pid < 1 ∨ 2147483648 < pid) :
    Calls Try.prog 17 #[.pointer (some ⟨b, 0, none⟩), .int .i64 pid] w fun e w' => e = .returned (.tuple #[.int .i64 0, .int .i64 1]) ∧ w' = w := by
  go_enter Try.func17, Try.ntmps17
  rcases Int.lt_or_le pid 1 with h1 | h1
  · go_wp2
    all_goals first
      | (go_ret2; exact ⟨rfl, rfl⟩)
      | (exfalso; simp_all; done)
  · have h2 : 2147483648 < pid := by omega
    have h3 : ¬ pid < 1 := by omega
    go_wp2
    all_goals first
      | (go_ret2; exact ⟨rfl, rfl⟩)
      | (exfalso; simp_all; done)
set_option maxRecDepth 100000 in
set_option maxHeartbeats 1600000 in
theorem spawnFull_calls {m n : Nat} {D : DataW Unit} (hT : Tab w b m n D last T fr) {pid : Int} (hp : (Lit.int .i64 pid).wf = true) (h1 : 1 ≤ pid) (h2 : pid ≤ 2147483648) (hv : at0 D pid = .lit (.int .i64 0)) (hsz : 8 ≤ Maps.size D) :
    Calls Try.prog 17 #[.pointer (some ⟨b, 0, none⟩), .int .i64 pid] w fun e w' => e = .returned (.tuple #[.int .i64 0, .int .i64 5]) ∧ w' = w := by
  obtain ⟨c, hrun, hat, hwc⟩ := hT.own.lookup_int keyd uM u3 (zero3 w) (key_of hp)
  have hc : c = 0 := by
    unfold at0 at hv
    rw [hat] at hv
    simpa using hv
  subst hc
  have hlen := hT.own.len uM 3
  have h0 := hT.c0
  have hge : (8 : Int) ≤ (Maps.size D : Int) := by omega
  have hp1 : ¬ pid < 1 := by omega
  have hp2 : ¬ 2147483648 < pid := by omega
  go_enter Try.func17, Try.ntmps17
  go_wp2
  all_goals first
    | (go_ret2; exact ⟨rfl, rfl⟩)
    | (exfalso; simp_all; done)
end

/-- What is left of the other memory. -/
abbrev BO (w : World) (G : Globs) (bs : List Nat) (ls : List (Option (Nat × Nat))) : Own := ⟨w.heap.size, (· ∈ blksOf bs ls), G⟩

theorem birth_holds {G : Globs} : RHolds Try.prog G 11 ⟨[true, false], .pair (.int .i64) .unit, tabU, .pair (.int .i64) (.pair (.int .i64) .unit), tBirth⟩ where
  body := rbody Try.func11 (by kernel_rfl) (by kernel_rfl)
  calls := by
    intro I w args ptrs bs ls x u y hI hG hGb hargs hobj hnd hspec
    obtain ⟨b, L, mv, T, fr, rfl, rfl, rfl, hat⟩ := at_of hobj
    obtain ⟨v, ha, hp, hwf⟩ := args1 hargs
    obtain rfl := List.head_eq_of_cons_eq hp
    subst ha
    obtain rfl := Option.some.inj hspec
    have fin : ∀ blk ∈ blksOf [] [L], blk ∈ blksOf [b] [L] ∨ w.heap.size ≤ blk := fun blk h => .inl (by simp [blksOf] at h ⊢; exact .inr h)
    rw [eqI_if]
    rcases hat.cases hnd with ⟨rfl, hl, hT⟩ | ⟨m, c, rfl, hT, hIm⟩
    · have h0 : mget u.1.1 x.1 = 0 := by rw [hl]; rfl
      rw [if_pos h0]
      refine (birth0_calls hT hwf).mono ?_
      rintro e w' ⟨rfl, rfl⟩
      exact ⟨_, I, [_], rfl, Blw.refl _ _, fun _ _ h => h, hI, fun k off h1 h2 => absurd h1 h2, res2 (by decide) (by decide), hat.obj, hnd, fin⟩
    · refine (birth_calls hT hwf (atKey_mapD u.1.1 x.1)).mono ?_
      rintro e w' ⟨rfl, rfl⟩
      have hg := wf_i64 (mget_wf hT.own hwf)
      refine ⟨_, I, [_], rfl, Blw.refl _ _, fun _ _ h => h, hI, fun k off h1 h2 => absurd h1 h2, ?_, hat.obj, hnd, fin⟩
      by_cases h0 : mget u.1.1 x.1 = 0
      · rw [if_pos h0, if_pos h0]; exact res2 (by decide) (by decide)
      · rw [if_neg h0, if_neg h0]; exact res2 hg (by decide)

theorem alive_holds {G : Globs} : RHolds Try.prog G 8 ⟨[true, false, false], .pair (.int .i64) (.pair (.int .i64) .unit), tabU, .pair .bool .unit, tAlive⟩ where
  body := rbody Try.func8 (by kernel_rfl) (by kernel_rfl)
  calls := by
    intro I w args ptrs bs ls x u y hI hG hGb hargs hobj hnd hspec
    obtain ⟨b, L, mv, T, fr, rfl, rfl, rfl, hat⟩ := at_of hobj
    obtain ⟨v, ha, hp, hwf⟩ := args2 hargs
    obtain rfl := List.head_eq_of_cons_eq hp
    subst ha
    obtain rfl := Option.some.inj hspec
    have fin : ∀ blk ∈ blksOf [] [L], blk ∈ blksOf [b] [L] ∨ w.heap.size ≤ blk := fun blk h => .inl (by simp [blksOf] at h ⊢; exact .inr h)
    rw [eqI_if]
    rcases hat.cases hnd with ⟨rfl, hl, hT⟩ | ⟨m, c, rfl, hT, hIm⟩
    · have h0 : mget u.1.1 x.1 = 0 := by rw [hl]; rfl
      rw [if_pos h0]
      refine (alive0_calls hT hwf).mono ?_
      rintro e w' ⟨rfl, rfl⟩
      exact ⟨_, I, [_], rfl, Blw.refl _ _, fun _ _ h => h, hI, fun k off h1 h2 => absurd h1 h2, resB, hat.obj, hnd, fin⟩
    · refine (alive_calls hT hwf (atKey_mapD u.1.1 x.1)).mono ?_
      rintro e w' ⟨rfl, rfl⟩
      exact ⟨_, I, [_], rfl, Blw.refl _ _, fun _ _ h => h, hI, fun k off h1 h2 => absurd h1 h2, resB, hat.obj, hnd, fin⟩

theorem kill_holds {G : Globs} : RHolds Try.prog G 19 ⟨[true, false], .pair (.int .i64) .unit, tabU, .pair (.int .i64) .unit, tKill⟩ where
  body := rbody Try.func19 (by kernel_rfl) (by kernel_rfl)
  calls := by
    intro I w args ptrs bs ls x u y hI hG hGb hargs hobj hnd hspec
    obtain ⟨b, L, mv, T, fr, rfl, rfl, rfl, hat⟩ := at_of hobj
    obtain ⟨v, ha, hp, hwf⟩ := args1 hargs
    obtain rfl := List.head_eq_of_cons_eq hp
    subst ha
    obtain rfl := Option.some.inj hspec
    have fin : ∀ blk ∈ blksOf [] [L], blk ∈ blksOf [b] [L] ∨ w.heap.size ≤ blk := fun blk h => .inl (by simp [blksOf] at h ⊢; exact .inr h)
    rw [eqI_if]
    rcases hat.cases hnd with ⟨rfl, hl, hT⟩ | ⟨m, c, rfl, hT, hIm⟩
    · have h0 : mget u.1.1 x.1 = 0 := by rw [hl]; rfl
      rw [if_pos h0]
      refine (kill0_calls hT hwf).mono ?_
      rintro e w' ⟨rfl, rfl⟩
      exact ⟨_, I, [_], rfl, Blw.refl _ _, fun _ _ h => h, hI, fun k off h1 h2 => absurd h1 h2, res1 (by decide), hat.obj, hnd, fin⟩
    · refine (kill_calls (B := BO w G [b] [some (m, c)]) hT (.inr (by simp [blksOf])) hwf (atKey_mapD u.1.1 x.1)).mono ?_
      intro e w' h
      by_cases h0 : mget u.1.1 x.1 = 0
      · rw [if_pos h0] at h ⊢
        obtain ⟨rfl, rfl⟩ := h
        exact ⟨_, I, [_], rfl, Blw.refl _ _, fun _ _ h => h, hI, fun k off h1 h2 => absurd h1 h2, res1 (by decide), hat.obj, hnd, fin⟩
      · rw [if_neg h0] at h ⊢
        obtain ⟨rfl, hT', hw⟩ := h
        rw [del_mapD] at hT'
        exact ⟨_, I, [some (m, c)], rfl, hw, fun _ _ h => h, fun k o h => Nat.lt_of_lt_of_le (hI k o h) hw.size, fun k off h1 h2 => absurd h1 h2, res1 (by decide), (hT'.at_ c hat.hI hIm hat.ty hat.wf).obj, hnd, fin⟩

theorem killAll_holds {G : Globs} : RHolds Try.prog G 16 ⟨[true], .unit, tabU, .unit, tKillAll⟩ where
  body := rbody Try.func16 (by kernel_rfl) (by kernel_rfl)
  calls := by
    intro I w args ptrs bs ls x u y hI hG hGb hargs hobj hnd hspec
    obtain ⟨b, L, mv, T, fr, rfl, rfl, rfl, hat⟩ := at_of hobj
    obtain ⟨v, rfl, hp⟩ := args0 hargs
    obtain rfl := List.head_eq_of_cons_eq hp
    obtain rfl := Option.some.inj hspec
    have fin : ∀ blk ∈ blksOf [] [L], blk ∈ blksOf [b] [L] ∨ w.heap.size ≤ blk := fun blk h => .inl (by simp [blksOf] at h ⊢; exact .inr h)
    rcases hat.cases hnd with ⟨rfl, hl, hT⟩ | ⟨m, c, rfl, hT, hIm⟩
    · refine (killAll0_calls hT).mono ?_
      rintro e w' ⟨rfl, rfl⟩
      refine ⟨_, I, [_], rfl, Blw.refl _ _, fun _ _ h => h, hI, fun k off h1 h2 => absurd h1 h2, ⟨#[], rfl, rfl⟩, ?_, hnd, fin⟩
      rw [← hl]; exact hat.obj
    · refine (killAll_calls (B := BO w G [b] [some (m, c)]) hT (.inr (by simp [blksOf]))).mono ?_
      rintro e w' ⟨rfl, hT', hw⟩
      exact ⟨_, I, [some (m, c)], rfl, hw, fun _ _ h => h, fun k o h => Nat.lt_of_lt_of_le (hI k o h) hw.size, fun k off h1 h2 => absurd h1 h2, ⟨#[], rfl, rfl⟩, (Tab.at_ (l := []) hT' c hat.hI hIm hat.ty hat.wf).obj, hnd, fin⟩

theorem iadd_last {n : Int} (h0 : 0 ≤ n) (h1 : n < 1000000) : iadd .i64 n 1 = n + 1 := by
  have h2 : n = ((n.toNat : Nat) : Int) := by omega
  rw [h2]
  exact iadd_one (by omega)

theorem spawn_holds {G : Globs} : RHolds Try.prog G 17 ⟨[true, false], .pair (.int .i64) .unit, tabU, .pair (.int .i64) (.pair (.int .i64) .unit), tSpawn⟩ where
  body := rbody Try.func17 (by kernel_rfl) (by kernel_rfl)
  calls := by
    intro I w args ptrs bs ls x u y hI hG hGb hargs hobj hnd hspec
    obtain ⟨b, L, mv, T, fr, rfl, rfl, rfl, hat⟩ := at_of hobj
    obtain ⟨v, ha, hp, hwf⟩ := args1 hargs
    obtain rfl := List.head_eq_of_cons_eq hp
    subst ha
    obtain ⟨⟨l, last, ⟨⟩⟩, ⟨⟩⟩ := u
    obtain ⟨pid, ⟨⟩⟩ := x
    change MapT at l
    change Int at last
    change Int at pid
    have hspec : tSpawn ((pid, ()), ((l, (last, ())), ())) = some y := hspec
    unfold tSpawn at hspec
    dsimp only at hspec hat hwf ⊢
    cases hc : (Ge.leI 0 last && ltI last 1000000 && Ge.leI (len l) 1000) with
    | false => rw [hc] at hspec; cases hspec
    | true =>
    rw [hc] at hspec
    simp only [Bool.and_eq_true, Ge.leI, ltI, decide_eq_true_eq, len] at hc
    obtain ⟨⟨hl0, hl1⟩, hlen⟩ := hc
    obtain rfl := Option.some.inj hspec
    have fin : ∀ blk ∈ blksOf [] [L], blk ∈ blksOf [b] [L] ∨ w.heap.size ≤ blk := fun blk h => .inl (by simp [blksOf] at h ⊢; exact .inr h)
    have hbs : b < w.heap.size := (Array.getElem?_eq_some_iff.1 hat.hb).1
    have hmx : (1000000 : Int) < IntKind.i64.max := by decide
    have hmn : IntKind.i64.min < 0 := by decide
    have hwl : IntKind.i64.min ≤ last + 1 ∧ last + 1 ≤ IntKind.i64.max := by omega
    rw [iadd_last hl0 hl1]
    by_cases harg : pid < 1 ∨ 2147483648 < pid
    · have e : (ltI pid 1 || ltI 2147483648 pid) = true := by simpa [ltI] using harg
      rw [e]
      refine (spawnArg_calls w b harg).mono ?_
      rintro e w' ⟨rfl, rfl⟩
      exact ⟨_, I, [_], rfl, Blw.refl _ _, fun _ _ h => h, hI, fun k off h1 h2 => absurd h1 h2, res2 (by decide) (by decide), hat.obj, hnd, fin⟩
    · have e : (ltI pid 1 || ltI 2147483648 pid) = false := by simpa [ltI] using harg
      have h1 : 1 ≤ pid := by omega
      have h2 : pid ≤ 2147483648 := by omega
      rw [e]
      simp only [cond_false]
      rcases hat.cases hnd with ⟨rfl, rfl, hT⟩ | ⟨m, c, rfl, hT, hIm⟩
      · refine (spawn0_calls (B := BO w G [b] [none]) hT (Nat.le_refl _) (.inr (by simp [blksOf])) hwf h1 h2 hl0 hl1).mono ?_
        rintro e w' ⟨rfl, hT', hw⟩
        have e1 : (!eqI (mget [] pid) 0) = false := rfl
        have e2 : Ge.leI 8 (len ([] : MapT)) = false := by decide
        rw [e1, e2]
        have hne : w.heap.size ≠ b := by omega
        refine ⟨_, I, [some (w.heap.size, 0)], rfl, hw, fun _ _ h => h, fun k o h => Nat.lt_of_lt_of_le (hI k o h) hw.size, fun k off h1 h2 => absurd h1 h2, res2 hwl (by decide), (Tab.at_ (l := mput [] pid (last + 1)) hT' 0 hat.hI (fun o h => by have := hI _ o h; omega) hat.ty hwl).obj, ?_, ?_⟩
        · simp [blksOf]; omega
        · intro blk h; right; simp [blksOf] at h; omega
      · by_cases h0 : mget l pid = 0
        · have e1 : (!eqI (mget l pid) 0) = false := by simp [eqI, h0]
          rw [e1]
          simp only [cond_false]
          have hv : at0 (mapD l) pid = .lit (.int .i64 0) := by rw [atKey_mapD, h0]
          by_cases h8 : 8 ≤ l.length
          · have e2 : Ge.leI 8 (len l) = true := decide_eq_true (Int.ofNat_le.2 h8)
            rw [e2]
            refine (spawnFull_calls hT hwf h1 h2 hv (by rw [size_mapD]; exact h8)).mono ?_
            rintro e w' ⟨rfl, rfl⟩
            exact ⟨_, I, [_], rfl, Blw.refl _ _, fun _ _ h => h, hI, fun k off h1 h2 => absurd h1 h2, res2 (by decide) (by decide), hat.obj, hnd, fin⟩
          · have e2 : Ge.leI 8 (len l) = false := decide_eq_false (fun h => h8 (Int.ofNat_le.1 h))
            rw [e2]
            have hmax : (1001 : Nat) < maxLen := by decide
            refine (spawn_calls (B := BO w G [b] [some (m, c)]) hT (.inr (by simp [blksOf])) (.inr (by simp [blksOf])) hwf h1 h2 hv (by rw [size_mapD]; omega) (by omega) hl0 hl1).mono ?_
            rintro e w' ⟨rfl, hT', hw⟩
            rw [put_mapD] at hT'
            exact ⟨_, I, [some (m, c)], rfl, hw, fun _ _ h => h, fun k o h => Nat.lt_of_lt_of_le (hI k o h) hw.size, fun k off h1 h2 => absurd h1 h2, res2 hwl (by decide), (hT'.at_ c hat.hI hIm hat.ty hwl).obj, hnd, fin⟩
        · have e1 : (!eqI (mget l pid) 0) = true := by simp [eqI, h0]
          rw [e1]
          refine (again_calls hT hwf h1 h2 (atKey_mapD l pid) h0).mono ?_
          rintro e w' ⟨rfl, rfl⟩
          exact ⟨_, I, [_], rfl, Blw.refl _ _, fun _ _ h => h, hI, fun k off h1 h2 => absurd h1 h2, res2 (by decide) (by decide), hat.obj, hnd, fin⟩

/-! ### The numbers of all, and a copy -/
theorem rising_up {H : Type} (f : Int × Int × Unit → Lit × DataW H) (hf : ∀ p, (f p).1 = .int .i64 p.1) : ∀ (l : MapT), DataW.rising (l.map f) = true → (l.map (·.1)).Pairwise (· < ·) := by
  have key : ∀ (l : MapT) (a : Int × Int × Unit), DataW.rising (f a :: l.map f) = true → (∀ x ∈ l, a.1 < x.1) ∧ (l.map (·.1)).Pairwise (· < ·) := by
    intro l
    induction l with
    | nil => intro a _; exact ⟨fun x h => by simp at h, List.Pairwise.nil⟩
    | cons b r ih =>
      intro a h
      have h : ((f a).1.before (f b).1 && DataW.rising (f b :: r.map f)) = true := h
      simp only [Bool.and_eq_true] at h
      have h1 : a.1 < b.1 := by
        have := h.1
        rw [hf, hf] at this
        simpa [Lit.before] using this
      obtain ⟨k1, k2⟩ := ih b h.2
      refine ⟨fun x hx => ?_, List.pairwise_cons.2 ⟨fun y hy => ?_, k2⟩⟩
      · rcases List.mem_cons.1 hx with rfl | hx
        · exact h1
        · have := k1 x hx; omega
      · obtain ⟨x, hx, rfl⟩ := List.mem_map.1 hy
        exact k1 x hx
  intro l h
  cases l with
  | nil => exact List.Pairwise.nil
  | cons a r =>
    obtain ⟨k1, k2⟩ := key r a h
    refine List.pairwise_cons.2 ⟨fun y hy => ?_, k2⟩
    obtain ⟨x, hx, rfl⟩ := List.mem_map.1 hy
    exact k1 x hx
theorem own_up {w : World} {m n : Nat} {l : MapT} (h : w.ownsMap Try.prog 3 PE m n (mapD l)) : (l.map (·.1)).Pairwise (· < ·) := by
  obtain ⟨es, clock, hb, F, _, hD⟩ := h
  have h1 := Maps.fit_rising keyd F
  have h2 : (l.map fun p : Int × Int × Unit => ((.int .i64 p.1, .lit (.int .i64 p.2.1)) : Lit × DataW Unit)) = (es.toList.map (WideElems.rg Try.prog 3 PE)).foldr DataW.insert [] := by
    unfold mapD at hD
    injection hD
  rw [← h2] at h1
  exact rising_up _ (fun _ => rfl) l h1
theorem perm_up : ∀ {l m : List Int}, l.Perm m → l.Pairwise (· ≤ ·) → m.Pairwise (· ≤ ·) → l = m := by
  intro l
  induction l with
  | nil => intro m h _ _; exact (List.Perm.nil_eq h)
  | cons a r ih =>
    intro m h h1 h2
    cases m with
    | nil => exact absurd h.length_eq (by simp)
    | cons b s =>
      rw [List.pairwise_cons] at h1 h2
      have hab : a ≤ b := by
        rcases List.mem_cons.1 (h.mem_iff.2 (List.mem_cons_self (a := b) (l := s))) with e | e
        · omega
        · exact h1.1 b e
      have hba : b ≤ a := by
        rcases List.mem_cons.1 (h.mem_iff.1 (List.mem_cons_self (a := a) (l := r))) with e | e
        · omega
        · exact h2.1 a e
      obtain rfl : a = b := by omega
      rw [ih (List.Perm.cons_inv h) h1.2 h2.2]
theorem sort_up {ss q : List Int} (hp : ss.Perm q) (hq : q.Pairwise (· < ·)) : ss.mergeSort (fun x y => decide (x ≤ y)) = q := by
  refine perm_up ((List.mergeSort_perm ss _).trans hp) ?_ (hq.imp fun h => by omega)
  have := List.pairwise_mergeSort (le := fun x y : Int => decide (x ≤ y)) (fun a b c h1 h2 => by simp at *; omega) (fun a b => by simp; omega) ss
  exact this.imp fun h => by simpa using h

section
open Go.Maps Go.Sort Go.Shelf
set_option maxRecDepth 100000 in
set_option maxHeartbeats 1600000 in
theorem pids0_calls {w : World} {b : Nat} {last : Int} {T : TypeId} {fr : Nat × Nat} (hT : Tab0 w b last T fr) :
    Calls Try.prog 14 #[.pointer (some ⟨b, 0, none⟩)] w fun e w' => e = .returned (.slice none 0 0) ∧ Below w.heap.size w w' := by
  have h0 := hT.c0
  have hseq : SeqGives Fence.wide 2 Try.prog 28 #[.pointer (some ⟨w.heap.size, 0, none⟩)] encZ (fun ss : List Int => ss = []) 0 (w.alloc (.cells #[.map none] 25)) :=
    AnyZI.keys_gives_nil (ρ := Try.keysA_ren) { Try.keysA with } Fence.wide _ trivial rfl w.heap.size _ (by simp) (by simp)
  have cK : ∀ mb W, CallsIn Fence.wide 5 Try.prog 24 #[.map mb] W fun e w' => e = .returned (.func (.func 28) #[] #[.pointer (some ⟨W.heap.size, 0, none⟩)]) ∧ w' = W.alloc (.cells #[.map mb] 25) := fun mb W => AnyZI.keys_in Try.keysA Fence.wide 5 trivial rfl mb W
  have cS := AnyZI.sorted_in Try.sortedA Fence.wide 5 trivial trivial trivial trivial rfl (by omega) (Try.sortsA _) (enters_of Try.func27 (by kernel_rfl) rfl) 28 #[.pointer (some ⟨w.heap.size, 0, none⟩)] trivial (enters_of Try.func28 (by kernel_rfl) rfl) _ _ (Nat.zero_le _) (by omega) _ hseq
  change CallsIn _ _ Try.prog 23 _ _ _ at cS
  have dK := fun mb W => callsIn_wide.1 (cK mb W)
  have dS := callsIn_wide.1 cS
  go_enter Try.func14, Try.ntmps14
  go_wp2_with (first
    | (go_at_call 24; refine (dK _ _).mono ?_; rintro e w' ⟨rfl, rfl⟩)
    | (go_at_call 23; refine dS.mono ?_; rintro e w' ⟨v, ss, rfl, hS, hrow, hnil, hb⟩))
  go_ret
  exact ⟨by rw [hnil.2 hS]; rfl, ((Below.refl _ w).alloc (Nat.le_refl _) _).trans (hb.mono (by simp))⟩

theorem pids_holds {G : Globs} : RHolds Try.prog G 14 ⟨[true], .unit, tabU, .pair (.slice (.int .i64)) .unit, tPids⟩ where
  body := rbody Try.func14 (by kernel_rfl) (by kernel_rfl)
  calls := by
    intro I w args ptrs bs ls x u y hI hG hGb hargs hobj hnd hspec
    obtain ⟨b, L, mv, T, fr, rfl, rfl, rfl, hat⟩ := at_of hobj
    obtain ⟨v, rfl, hp⟩ := args0 hargs
    obtain rfl := List.head_eq_of_cons_eq hp
    obtain ⟨⟨l, last, ⟨⟩⟩, ⟨⟩⟩ := u
    change MapT at l
    change Int at last
    have hspec : tPids (x, ((l, (last, ())), ())) = some y := hspec
    unfold tPids at hspec
    dsimp only at hspec hat
    cases hc : Ge.leI (len l) 1000 with
    | false => rw [hc] at hspec; cases hspec
    | true =>
    rw [hc] at hspec
    have hlen : l.length ≤ 1000 := by
      have : (l.length : Int) ≤ 1000 := of_decide_eq_true hc
      omega
    obtain rfl := Option.some.inj hspec
    have hbs : b < w.heap.size := (Array.getElem?_eq_some_iff.1 hat.hb).1
    have fin : ∀ blk ∈ blksOf [] [L], blk ∈ blksOf [b] [L] ∨ w.heap.size ≤ blk := fun blk h => .inl (by simp [blksOf] at h ⊢; exact .inr h)
    have hblw : ∀ {w' : World}, Below w.heap.size w w' → Blw (BO w G [b] [L]) w w' := fun hw => .of hw
    have keep : ∀ {w' : World} {I' : Nat → Nat → Prop}, Below w.heap.size w w' → (∀ k o, I' k o → I k o ∨ w.heap.size ≤ k) → At w' I' l last b L mv T fr := fun {w' I'} hw hI' =>
      ⟨fun off h => by rcases hI' b off h with h | h
                       · exact hat.hI off h
                       · omega, (hw.block b hbs).trans hat.hb, hat.th, hat.ty, hat.wf, by
        rcases hat.mp with h | ⟨m, c, o, h1, h2, h3, h4, h5⟩
        · exact .inl h
        · have hm : m < w.heap.size := (Array.getElem?_eq_some_iff.1 h3).1
          exact .inr ⟨m, c, o, h1, h2, (hw.block m hm).trans h3, h4, fun off h => by
            rcases hI' m off h with h | h
            · exact h5 off h
            · omega⟩⟩
    rcases hat.cases hnd with ⟨rfl, rfl, hT⟩ | ⟨m, c, rfl, hT, hIm⟩
    · refine (pids0_calls hT).mono ?_
      rintro e w' ⟨rfl, hw⟩
      exact ⟨_, I, [none], rfl, hblw hw, fun _ _ h => h, fun k o h => Nat.lt_of_lt_of_le (hI k o h) hw.size, fun k off h1 h2 => absurd h1 h2, ⟨[.slice none 0 0], .inl ⟨⟨none, rfl⟩, rfl⟩, rfl⟩, (keep hw fun k o h => .inl h).obj, hnd, fin⟩
    · refine (pids_calls hT (by rw [size_mapD]; exact hlen)).mono ?_
      rintro e w' ⟨v, ss, rfl, hS, hrow, hnil, hw⟩
      rw [keys_mapD] at hS
      have hsort := sort_up hS (own_up hT.own)
      have hss : ss.length = l.length := by rw [hS.length_eq, List.length_map]
      have hlm : (l.map (·.1)).length = ss.length := by rw [List.length_map, hss]
      let I' : Nat → Nat → Prop := fun k o => I k o ∨ (w.heap.size ≤ k ∧ k < w'.heap.size)
      have hrep : RepC w' I' (.slice (.int .i64)) (l.map (·.1)) [v] := by
        obtain ⟨_, ⟨h1, h2⟩ | ⟨g, cap, cur, hvv, hbase, hg, hn, hcap, hsz, htk⟩⟩ := hrow
        · refine .inl ⟨⟨none, by rw [h1]⟩, ?_⟩
          show l.map (·.1) = []
          have : l.length = 0 := by omega
          rw [List.length_eq_zero_iff.1 this]; rfl
        · refine .inr ⟨g, 0, cap, by rw [hvv]; exact congrArg (fun q => [Value.slice (some ⟨g, 0, none⟩) q cap]) hlm.symm, Nat.le_trans (Nat.le_of_eq hlm) hn, hcap, fun i x hx => ⟨[.int .i64 x], rfl, fun j z hj => ?_, rfl, ?_⟩⟩
          · cases j with
            | succ j => simp at hj
            | zero =>
              obtain rfl : Value.int .i64 x = z := Option.some.inj hj
              refine ⟨?_, .inr ⟨hbase, (Array.getElem?_eq_some_iff.1 hg).1⟩⟩
              have hx' : (l.map (·.1))[i]? = some x := hx
              have h3 : ((l.map (·.1)).map encZ)[i]? = some (.int .i64 x) := by rw [List.getElem?_map, hx']; rfl
              rw [← hsort, ← htk, List.getElem?_take] at h3
              split at h3
              · have e0 : 0 + i * (Ty.int .i64).size + 0 = i := by show 0 + i * 1 + 0 = i; omega
                rw [e0]
                simp only [World.cell?, hg]
                simpa using h3
              · cases h3
          · have hx' : (l.map (·.1))[i]? = some x := hx
            have := intKeys_wf hT.own u3 x (by rw [keys_mapD]; exact List.mem_of_getElem? hx')
            exact wf_i64 this
      refine ⟨v, I', [some (m, c)], rfl, hblw hw, fun _ _ h => .inl h, fun k o h => ?_, fun k off h1 h2 => ?_, ⟨[v], hrep, rfl⟩, (keep hw fun k o h => h.imp id fun q => q.1).obj, hnd, fin⟩
      · rcases h with h | h
        · exact Nat.lt_of_lt_of_le (hI k o h) hw.size
        · exact h.2
      · rcases h1 with h | h
        · exact absurd h h2
        · exact .inl h.1
end

set_option maxRecDepth 100000 in
set_option maxHeartbeats 1600000 in
theorem mclone_calls (w : World) {m : Nat} {es : Array MapEntry} {clock : Nat} (hb : w.heap[m]? = some (.map es clock)) :
    Calls Try.prog 20 #[.map (some m)] w fun e w' => e = .returned (.map (some w.heap.size)) ∧ w' = w.alloc (.map es clock) := by
  have hq := fun w => run_eql_map_nil_sl (P := Try.prog) w 25 _ _ (some m) uM
  go_enter Try.func20, Try.ntmps20
  go_wp2
  rw [run_callFunc_extern Try.func25 (by kernel_rfl) (by kernel_rfl) (by kernel_rfl) (e := Extern.MapsClone.clone) (by kernel_rfl), run_maps_clone_sl w 25 hb]
  simp only [Result.andThen]
  rw [Oper.upon_value]
  go_wp2
  rw [run_typeAssert_map_sl _ 25 20 _ _ _ uM]
  simp only [Result.andThen]
  rw [Oper.upon_value]
  go_wp2
  go_ret
  exact ⟨rfl, rfl⟩
set_option maxRecDepth 100000 in
set_option maxHeartbeats 1600000 in
theorem mclone0_calls (w : World) : Calls Try.prog 20 #[.map none] w fun e w' => e = .returned (.map none) ∧ w' = w := by
  have hq := fun w => run_eql_map_nil_sl (P := Try.prog) w 25 _ _ none uM
  go_enter Try.func20, Try.ntmps20
  go_wp2
  go_ret
  exact ⟨rfl, rfl⟩

set_option maxRecDepth 100000 in
set_option maxHeartbeats 1600000 in
theorem clone_calls (w w1 : World) (b : Nat) (p p' : Option Nat) (n : Int) (h0 : w.cell? ⟨b, 0, none⟩ = some (.map p)) (h1 : w.cell? ⟨b, 1, none⟩ = some (.int .i64 n)) (h2 : w1.cell? ⟨b, 1, none⟩ = some (.int .i64 n))
    (hm : Calls Try.prog 20 #[.map p] w.drew fun e w' => e = .returned (.map p') ∧ w' = w1) :
    Calls Try.prog 9 #[.pointer (some ⟨b, 0, none⟩)] w fun e w' => e = .returned (.pointer (some ⟨w1.heap.size, 0, none⟩)) ∧ w' = w1.alloc (.cells #[.map p', .int .i64 n] 27) := by
  have h0' : w.drew.cell? ⟨b, 0, none⟩ = some (.map p) := h0
  have h1' : w.drew.cell? ⟨b, 1, none⟩ = some (.int .i64 n) := h1
  go_enter Try.func9, Try.ntmps9
  go_wp2
  go_region_with (go_at_call 20; refine hm.mono ?_; rintro e w' ⟨rfl, rfl⟩)
  all_goals
    go_wp2
    first | go_ret | go_end0
    exact ⟨rfl, rfl⟩
theorem s_procs_Table_Clone : SpcOk Try.prog 9 (.tcl 27) := by
  refine ⟨rbody Try.func9 (by kernel_rfl) (by kernel_rfl), fun w b mv n fr hb hm => ?_⟩
  have h1 : w.cell? ⟨b, 1, none⟩ = some (.int .i64 n) := by simp only [World.cell?, hb]; rfl
  have hbs : b < w.heap.size := (Array.getElem?_eq_some_iff.1 hb).1
  rcases hm with rfl | ⟨m, o, l, rfl, ho, hmi⟩
  · have h0 : w.cell? ⟨b, 0, none⟩ = some (.map none) := by simp only [World.cell?, hb]; rfl
    refine (clone_calls w w.drew b none none n h0 h1 h1 (mclone0_calls w.drew)).mono ?_
    rintro q w' ⟨rfl, rfl⟩
    exact ⟨w.drew, .map none, rfl, rfl, (Below.refl _ w).drew, .inl ⟨rfl, rfl⟩⟩
  · obtain ⟨P, k, es, clock, hk, rfl, F, hD⟩ := hmi
    have h0 : w.cell? ⟨b, 0, none⟩ = some (.map (some m)) := by simp only [World.cell?, hb]; rfl
    refine (clone_calls w (w.drew.alloc (.map es clock)) b (some m) (some w.drew.heap.size) n h0 h1 ((cell_of_same (hold_alloc w.drew _ b hbs)).trans h1) (mclone_calls w.drew ho)).mono ?_
    rintro q w' ⟨rfl, rfl⟩
    exact ⟨_, _, rfl, rfl, (Below.refl _ w).drew.alloc (Nat.le_refl _) _, .inr ⟨m, .map es clock, w.heap.size, .map es clock, rfl, ho, rfl, Nat.le_refl _, heap_alloc_new w.drew _, fun l h => h⟩⟩
end Go.Proofs.Ythhkijiamblgaaa
