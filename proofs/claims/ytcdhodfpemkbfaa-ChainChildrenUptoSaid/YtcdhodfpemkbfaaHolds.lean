/- Each function of the layer's law keeps its contract. -/
import Derived.Test.YtcdhodfpemkbfaaSem
namespace Go.Proofs.Ytcdhodfpemkbfaa
open Go Go.Ge
set_option linter.unusedVariables false

theorem holds_at {con : List (Nat × Con)} (hcon : ∀ p ∈ con, Holds Try.prog p.1 p.2) {f : Nat} {fn : Func} {A R : Ty} (hfn : find funs f = some fn) (hb : fn.body.isSome = true) : Holds Try.prog f ⟨A, R, sem (cxOf con) 9 plans f A R⟩ := by
  obtain ⟨code, hcode⟩ := Option.isSome_iff_exists.1 hb
  exact holds_of_sem mix (cx_ok con) (fun f c h => hcon _ (find_mem h)) (funs_ok con) (f := f) hfn hcode (fun x y h => h)

theorem none_ok : ∀ p ∈ ([] : List (Nat × Con)), Holds Try.prog p.1 p.2 := fun p h => by cases h

theorem hFew : Holds Try.prog 6 cFew := holds_at none_ok (fn := Try.f6) rfl (by kernel_rfl)
theorem hFind : Holds Try.prog 19 cFind := holds_at none_ok (fn := Try.f19) rfl (by kernel_rfl)
theorem hSameT : Holds Try.prog 11 cSameT := holds_at none_ok (fn := Try.f11) rfl (by kernel_rfl)
theorem hKids : Holds Try.prog 12 cKids := holds_at none_ok (fn := Try.f12) rfl (by kernel_rfl)
theorem hRKids : Holds Try.prog 13 cRKids := holds_at none_ok (fn := Try.f13) rfl (by kernel_rfl)
theorem hRoots : Holds Try.prog 14 cRoots := holds_at none_ok (fn := Try.f14) rfl (by kernel_rfl)
theorem hRRoots : Holds Try.prog 15 cRRoots := holds_at none_ok (fn := Try.f15) rfl (by kernel_rfl)

set_option maxRecDepth 100000 in
theorem hClone : Holds Try.prog 18 cClone := by
  refine clone_holds (P := Try.prog) (cx := cx0) (bf := [5]) (e := .str) (tid := 30) (fn := Try.f18) (s0 := fun l => (argSt (fun _ => none) [.data (.slice .str) l]).put 2 (.data (.slice .str) ([] : List (List UInt8)))) mix (cx_ok []) (fun f c h => by cases h) Try.func18 (by kernel_rfl)
    (by rfl) rfl (by decide) (by decide) rfl rfl rfl rfl rfl rfl (fun l => by rfl) (fun l => rfl) (fun l => rfl) (fun l => rfl) (fun l => by rfl) (fun l hl => ?_)
  have key : ∀ m : List (List UInt8), fits (len m) = true → sel (fits (plus (len ([] : List (List UInt8))) (len m))) (some ((app [] m, ()) : (Ty.pair (.slice .str) .unit).den)) none = some (m, ()) := by
    intro m hm
    have e : plus (len ([] : List (List UInt8))) (len m) = len m := by simp [plus, len]
    rw [e, hm]
    rfl
  exact Eq.trans (b := sel (fits (plus (len ([] : List (List UInt8))) (len (α := List UInt8) l))) (some ((app (α := List UInt8) [] l, ()) : (Ty.pair (.slice .str) .unit).den)) none) (by rfl) (key l hl)

theorem con1 : ∀ p ∈ [(6, cFew), (19, cFind), (11, cSameT), (12, cKids), (13, cRKids), (14, cRoots), (15, cRRoots), (18, cClone)], Holds Try.prog p.1 p.2 := by
  intro p hp
  simp only [List.mem_cons, List.not_mem_nil, or_false] at hp
  rcases hp with rfl | rfl | rfl | rfl | rfl | rfl | rfl | rfl
  · exact hFew
  · exact hFind
  · exact hSameT
  · exact hKids
  · exact hRKids
  · exact hRoots
  · exact hRRoots
  · exact hClone

theorem hChain : Holds Try.prog 8 cChain := holds_at con1 (fn := Try.f8) rfl (by kernel_rfl)
theorem hRChain : Holds Try.prog 9 cRChain := holds_at con1 (fn := Try.f9) rfl (by kernel_rfl)
theorem hSameL : Holds Try.prog 10 cSameL := holds_at con1 (fn := Try.f10) rfl (by kernel_rfl)

theorem con2 : ∀ p ∈ [(6, cFew), (11, cSameT), (12, cKids), (13, cRKids), (14, cRoots), (15, cRRoots), (8, cChain), (9, cRChain), (10, cSameL)], Holds Try.prog p.1 p.2 := by
  intro p hp
  simp only [List.mem_cons, List.not_mem_nil, or_false] at hp
  rcases hp with rfl | rfl | rfl | rfl | rfl | rfl | rfl | rfl | rfl
  · exact hFew
  · exact hSameT
  · exact hKids
  · exact hRKids
  · exact hRoots
  · exact hRRoots
  · exact hChain
  · exact hRChain
  · exact hSameL

theorem hCheck : Holds Try.prog 16 cCheck := holds_at con2 (fn := Try.f16) rfl (by kernel_rfl)
theorem hRCheck : Holds Try.prog 17 cRCheck := holds_at con2 (fn := Try.f17) rfl (by kernel_rfl)

theorem con3 : ∀ p ∈ [(6, cFew), (11, cSameT), (12, cKids), (13, cRKids), (14, cRoots), (15, cRRoots), (8, cChain), (9, cRChain), (10, cSameL), (16, cCheck), (17, cRCheck)], Holds Try.prog p.1 p.2 := by
  intro p hp
  simp only [List.mem_cons, List.not_mem_nil, or_false] at hp
  rcases hp with rfl | rfl | rfl | rfl | rfl | rfl | rfl | rfl | rfl | rfl | rfl
  · exact hFew
  · exact hSameT
  · exact hKids
  · exact hRKids
  · exact hRoots
  · exact hRRoots
  · exact hChain
  · exact hRChain
  · exact hSameL
  · exact hCheck
  · exact hRCheck

theorem hAwake : Holds Try.prog 7 cAwake := holds_at con3 (fn := Try.f7) rfl (by kernel_rfl)

theorem con4 : ∀ p ∈ [(6, cFew), (11, cSameT), (12, cKids), (13, cRKids), (14, cRoots), (15, cRRoots), (8, cChain), (9, cRChain), (10, cSameL), (16, cCheck), (17, cRCheck), (7, cAwake)], Holds Try.prog p.1 p.2 := by
  intro p hp
  simp only [List.mem_cons, List.not_mem_nil, or_false] at hp
  rcases hp with rfl | rfl | rfl | rfl | rfl | rfl | rfl | rfl | rfl | rfl | rfl | rfl
  · exact hFew
  · exact hSameT
  · exact hKids
  · exact hRKids
  · exact hRoots
  · exact hRRoots
  · exact hChain
  · exact hRChain
  · exact hSameL
  · exact hCheck
  · exact hRCheck
  · exact hAwake

theorem hIs : Holds Try.prog 3 ⟨A2 LS .str, A1 .bool, sem cx4 9 plans 3 (A2 LS .str) (A1 .bool)⟩ := holds_at con4 (fn := Try.f3) rfl (by kernel_rfl)
theorem hEnds : Holds Try.prog 4 ⟨A2 LS (.int .u8), A1 .bool, sem cx4 9 plans 4 (A2 LS (.int .u8)) (A1 .bool)⟩ := holds_at con4 (fn := Try.f4) rfl (by kernel_rfl)
theorem hChildren : Holds Try.prog 5 ⟨A1 LS, A1 .bool, sem cx4 9 plans 5 (A1 LS) (A1 .bool)⟩ := holds_at con4 (fn := Try.f5) rfl (by kernel_rfl)
end Go.Proofs.Ytcdhodfpemkbfaa
