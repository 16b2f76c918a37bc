/- What each function of the layer's law comes to, by the ghost interpreter: contexts, plans, contracts. -/
import Derived.Test.YtcdhodfpemkbfaaRows
import Derived.Test.YtcdhodfpemkbfaaGeF
namespace Go.Proofs.Ytcdhodfpemkbfaa
open Go Go.Ge
set_option linter.unusedVariables false

def L : Ty := .pair .str (.pair .str (.pair (.slice .str) (.pair .str (.pair (.int .i64) (.pair (.int .i64) (.pair .bool .unit))))))
def LS : Ty := .slice L
def SS : Ty := .slice .str
def NN : Ty := .int .i64
def A1 (t : Ty) : Ty := .pair t .unit
def A2 (t u : Ty) : Ty := .pair t (.pair u .unit)

def plans : Nat → FPlan
  | 3 => ⟨[none], []⟩
  | 4 => ⟨[none, some ⟨[(4, 4), (5, 3)], [], false⟩, none, none, none, none, none, none, some ⟨[(12, 4), (13, 3)], [], false⟩, none], []⟩
  | 5 => ⟨[none, some ⟨[(2, 4), (3, 3)], [], false⟩, none, some ⟨[(2, 4), (4, 3)], [], false⟩, none, none, none, some ⟨[(2, 4), (5, 3), (6, 3)], [], false⟩, none, some ⟨[(2, 4), (8, 3)], [], false⟩, none, none], []⟩
  | 6 => ⟨[some ⟨[(2, 4), (3, 3)], [], false⟩, none, none], []⟩
  | 7 => ⟨[], []⟩
  | 8 => ⟨[some ⟨[(4, 22), (5, 25), (6, 22), (7, 9)], [6], false⟩, some ⟨[(4, 22), (5, 25), (6, 22), (7, 9), (13, 3)], [6], false⟩, none, none, none, none], [6]⟩
  | 9 => ⟨[some ⟨[(1, 9), (4, 22), (5, 25), (6, 22), (7, 3)], [6], true⟩, none, none, none, none], [6]⟩
  | 10 => ⟨[none, some ⟨[(4, 4), (5, 3)], [], false⟩, none, none], []⟩
  | 11 => ⟨[none, some ⟨[(4, 4), (5, 3)], [], false⟩, none, none], []⟩
  | 12 => ⟨[], []⟩
  | 13 => ⟨[some ⟨[(5, 30), (6, 3)], [5], false⟩, none, some ⟨[(5, 30)], [5], false⟩], [5]⟩
  | 14 => ⟨[], []⟩
  | 15 => ⟨[some ⟨[(3, 30), (4, 3)], [3], false⟩, none, some ⟨[(3, 30)], [3], false⟩], [3]⟩
  | 16 => ⟨[some ⟨[(2, 25), (9, 3)], [], false⟩, none, none], []⟩
  | 17 => ⟨[some ⟨[(2, 25), (3, 3)], [], false⟩, none, none], []⟩
  | 18 => ⟨[none], [5]⟩
  | 19 => ⟨[some ⟨[(4, 3), (5, 3)], [], false⟩, none, none], []⟩
  | 20 => ⟨[some ⟨[(5, 30), (10, 3)], [5], false⟩, none, some ⟨[(5, 30)], [5], false⟩], [5]⟩
  | 21 => ⟨[], []⟩
  | 22 => ⟨[], []⟩
  | _ => ⟨[], []⟩

def tys : List (Nat × Ty) := [(3, NN), (4, .bool), (5, .int .u8), (9, .str), (22, LS), (25, NN), (30, SS), (36, L)]
noncomputable def funs : List (Nat × Func) := [(3, Try.f3), (4, Try.f4), (5, Try.f5), (6, Try.f6), (7, Try.f7), (8, Try.f8), (9, Try.f9), (10, Try.f10), (11, Try.f11), (12, Try.f12), (13, Try.f13), (14, Try.f14), (15, Try.f15), (16, Try.f16), (17, Try.f17), (18, Try.f18), (19, Try.f19), (20, Try.f20), (21, Try.f21), (22, Try.f22)]
noncomputable def cxOf (con : List (Nat × Con)) : Ctx := ⟨tys, [], [], funs, con⟩
noncomputable def cx0 : Ctx := cxOf []
noncomputable def cFew : Con := ⟨A1 LS, A1 .bool, sem cx0 9 plans 6 (A1 LS) (A1 .bool)⟩
noncomputable def cFind : Con := ⟨A2 LS .str, A1 NN, sem cx0 9 plans 19 (A2 LS .str) (A1 NN)⟩
noncomputable def cSameT : Con := ⟨A2 SS SS, A1 .bool, sem cx0 9 plans 11 (A2 SS SS) (A1 .bool)⟩
noncomputable def cKids : Con := ⟨A2 LS .str, A1 SS, sem cx0 9 plans 12 (A2 LS .str) (A1 SS)⟩
noncomputable def cRKids : Con := ⟨A2 LS .str, A1 SS, sem cx0 9 plans 13 (A2 LS .str) (A1 SS)⟩
noncomputable def cRoots : Con := ⟨A1 LS, A1 SS, sem cx0 9 plans 14 (A1 LS) (A1 SS)⟩
noncomputable def cRRoots : Con := ⟨A1 LS, A1 SS, sem cx0 9 plans 15 (A1 LS) (A1 SS)⟩
noncomputable def cClone : Con := ⟨A1 SS, A1 SS, fun x => bif fits (len (α := List UInt8) x.1) then some x else none⟩
noncomputable def cx1 : Ctx := cxOf [(6, cFew), (19, cFind), (11, cSameT), (12, cKids), (13, cRKids), (14, cRoots), (15, cRRoots), (18, cClone)]
noncomputable def cChain : Con := ⟨A2 LS .str, A2 LS NN, sem cx1 9 plans 8 (A2 LS .str) (A2 LS NN)⟩
noncomputable def cRChain : Con := ⟨A2 LS .str, A2 LS NN, sem cx1 9 plans 9 (A2 LS .str) (A2 LS NN)⟩
noncomputable def cSameL : Con := ⟨A2 LS LS, A1 .bool, sem cx1 9 plans 10 (A2 LS LS) (A1 .bool)⟩
noncomputable def cx2 : Ctx := cxOf [(6, cFew), (11, cSameT), (12, cKids), (13, cRKids), (14, cRoots), (15, cRRoots), (8, cChain), (9, cRChain), (10, cSameL)]
noncomputable def cCheck : Con := ⟨A1 LS, A1 NN, sem cx2 9 plans 16 (A1 LS) (A1 NN)⟩
noncomputable def cRCheck : Con := ⟨A1 LS, A1 NN, sem cx2 9 plans 17 (A1 LS) (A1 NN)⟩
noncomputable def cx3 : Ctx := cxOf [(6, cFew), (11, cSameT), (12, cKids), (13, cRKids), (14, cRoots), (15, cRRoots), (8, cChain), (9, cRChain), (10, cSameL), (16, cCheck), (17, cRCheck)]
noncomputable def cAwake : Con := ⟨.unit, A1 .bool, sem cx3 9 plans 7 .unit (A1 .bool)⟩
noncomputable def cx4 : Ctx := cxOf [(6, cFew), (11, cSameT), (12, cKids), (13, cRKids), (14, cRoots), (15, cRRoots), (8, cChain), (9, cRChain), (10, cSameL), (16, cCheck), (17, cRCheck), (7, cAwake)]

theorem mix : Try.prog.follows .mixedOrders = true := by kernel_rfl

theorem T_ok : ∀ tid t, find tys tid = some t → Den Try.prog t tid := by
  intro tid t h
  have hm := find_mem h
  have key : ∀ p ∈ tys, Den Try.prog p.2 p.1 := by
    intro p hp
    have : (tys.all fun p => denG Try.prog p.2 false p.1 0 []) = true := by kernel_rfl
    rw [List.all_eq_true] at this
    exact this p hp
  exact key _ hm

theorem fns_ok : ∀ f fn, find funs f = some fn → Try.prog.funcs[f]? = some fn := by
  intro f fn h
  have hm := find_mem h
  simp only [funs, List.mem_cons, List.not_mem_nil, or_false, Prod.mk.injEq] at hm
  rcases hm with ⟨rfl, rfl⟩ | ⟨rfl, rfl⟩ | ⟨rfl, rfl⟩ | ⟨rfl, rfl⟩ | ⟨rfl, rfl⟩ | ⟨rfl, rfl⟩ | ⟨rfl, rfl⟩ | ⟨rfl, rfl⟩ | ⟨rfl, rfl⟩ | ⟨rfl, rfl⟩ | ⟨rfl, rfl⟩ | ⟨rfl, rfl⟩ | ⟨rfl, rfl⟩ | ⟨rfl, rfl⟩ | ⟨rfl, rfl⟩ | ⟨rfl, rfl⟩ | ⟨rfl, rfl⟩ | ⟨rfl, rfl⟩ | ⟨rfl, rfl⟩ | ⟨rfl, rfl⟩
  · exact Try.func3
  · exact Try.func4
  · exact Try.func5
  · exact Try.func6
  · exact Try.func7
  · exact Try.func8
  · exact Try.func9
  · exact Try.func10
  · exact Try.func11
  · exact Try.func12
  · exact Try.func13
  · exact Try.func14
  · exact Try.func15
  · exact Try.func16
  · exact Try.func17
  · exact Try.func18
  · exact Try.func19
  · exact Try.func20
  · exact Try.func21
  · exact Try.func22

theorem cx_ok (con : List (Nat × Con)) : CxOk Try.prog (cxOf con) where
  T := T_ok
  ones := fun tid h => by cases h
  ptrs := fun tid h => by cases h
  fns := fns_ok

theorem funs_ok (con : List (Nat × Con)) : FnsOk (cxOf con) := fnsOk_of (cx := cxOf con) (by kernel_rfl)
end Go.Proofs.Ytcdhodfpemkbfaa
