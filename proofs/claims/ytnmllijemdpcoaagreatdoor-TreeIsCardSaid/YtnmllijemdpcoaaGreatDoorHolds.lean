/- The layer's functions keep their contracts: each comes to its plain definition, by the ghost interpreter. -/
import Derived.Test.YtnmllijemdpcoaaGreatDoorRows
import Derived.Test.YtnmllijemdpcoaaGreatDoorGp14zis
import Derived.Test.YtnmllijemdpcoaaGreatDoorFirst
import Derived.Test.YtnmllijemdpcoaaGreatDoorBld
import Derived.Test.YtnmllijemdpcoaaGreatDoorShelf
namespace Go.Proofs.YtnmllijemdpcoaaGreatDoor
open Go Go.Ge
set_option linter.unusedVariables false
set_option maxRecDepth 100000

open First
noncomputable def plans : Nat → FPlan
  | 5 => ⟨[none], []⟩
  | 6 => ⟨[some ⟨[(4, 4), (5, 3)], [], false⟩, none, none], []⟩
  | 7 => ⟨[], []⟩
  | 8 => ⟨[none, none, none, none], [55]⟩
  | 10 => ⟨[none, some ⟨[(4, 4), (5, 3)], [], false⟩, none, none], []⟩
  | 11 => ⟨[none, some ⟨[(2, 27), (12, 3)], [], false⟩, none, none], []⟩
  | 12 => ⟨[none, some ⟨[(14, 3)], [3], false⟩, none, some ⟨[], [3], false⟩, some ⟨[], [3], false⟩], []⟩
  | 13 => ⟨[], []⟩
  | 14 => ⟨[none, none], []⟩
  | 15 => ⟨[none], []⟩
  | 16 => ⟨[none, none, some ⟨[(7, 37), (23, 3)], [7], false⟩, none, some ⟨[(7, 37)], [7], false⟩], [7]⟩
  | 17 => ⟨[none, none, none, some ⟨[(6, 37), (7, 3)], [6], false⟩, none, some ⟨[(6, 37)], [6], false⟩], [6]⟩
  | 18 => ⟨[none, some ⟨[(2, 4), (3, 3)], [], false⟩, none, none], []⟩
  | 19 => ⟨[none, some ⟨[(4, 4), (5, 3)], [], false⟩, none, none], []⟩
  | 20 => ⟨[], []⟩
  | 21 => ⟨[none], []⟩
  | 22 => ⟨[], []⟩
  | 23 => ⟨[none], []⟩
  | 24 => ⟨[none, some ⟨[(3, 9), (4, 3)], [], false⟩, none, some ⟨[(3, 9)], [], false⟩, some ⟨[(3, 9)], [], false⟩], []⟩
  | 25 => ⟨[], []⟩
  | 26 => ⟨[], []⟩
  | 27 => ⟨[none, none, none, none], []⟩
  | 28 => ⟨[none], []⟩
  | 29 => ⟨[none, none, none], []⟩
  | 30 => ⟨[], []⟩
  | 31 => ⟨[none], [5]⟩
  | 33 => ⟨[none, none, none], []⟩
  | 34 => ⟨[none], []⟩
  | 35 => ⟨[some ⟨[(4, 3), (5, 3)], [], false⟩, none, none], []⟩
  | 36 => ⟨[], []⟩
  | 37 => ⟨[some ⟨[(7, 22), (8, 3)], [7], false⟩, none, some ⟨[(7, 22)], [7], false⟩], [7]⟩
  | 38 => ⟨[some ⟨[(4, 3), (7, 3)], [], false⟩, none, none, none, none, none], []⟩
  | 39 => ⟨[], []⟩
  | 40 => ⟨[none, some ⟨[(0, 3), (19, 3)], [6], false⟩, none, none], []⟩
  | 41 => ⟨[some ⟨[(9, 3)], [3], false⟩, none], []⟩
  | 42 => ⟨[], []⟩
  | 43 => ⟨[], []⟩
  | 44 => ⟨[], []⟩
  | 46 => ⟨[some ⟨[(5, 3)], [3], false⟩, none, some ⟨[(7, 3)], [6], false⟩, none], []⟩
  | 47 => ⟨[some ⟨[(3, 58), (4, 3)], [3], false⟩, none], [3]⟩
  | 48 => ⟨[none], [9]⟩
  | 49 => ⟨[], []⟩
  | 50 => ⟨[], []⟩
  | 51 => ⟨[], []⟩
  | 52 => ⟨[none, some ⟨[(0, 3), (6, 9), (7, 3)], [], false⟩, none, none], []⟩
  | 53 => ⟨[], []⟩
  | 54 => ⟨[], []⟩
  | 55 => ⟨[none, none, none, none, none], []⟩
  | 56 => ⟨[some ⟨[(9, 3), (10, 3)], [1, 2], false⟩, none, some ⟨[(9, 3), (10, 3)], [], false⟩], []⟩
  | 57 => ⟨[], []⟩
  | 60 => ⟨[none, none, none], []⟩
  | 61 => ⟨[some ⟨[(2, 4), (4, 3)], [], false⟩, none, none], []⟩
  | 62 => ⟨[some ⟨[(2, 4), (3, 3)], [], false⟩, none, none], []⟩
  | 63 => ⟨[none, some ⟨[(3, 37), (4, 9), (5, 3)], [3], false⟩, none, some ⟨[(3, 37), (4, 9)], [3], false⟩], [3]⟩
  | 64 => ⟨[some ⟨[(3, 9), (4, 3)], [], false⟩, none, some ⟨[(3, 9)], [], false⟩], []⟩
  | 65 => ⟨[none, some ⟨[(4, 4), (7, 3)], [], false⟩, none, none], []⟩
  | 66 => ⟨[some ⟨[(6, 3), (13, 3)], [2], false⟩, none, none, none, none], []⟩
  | 67 => ⟨[none], []⟩
  | 68 => ⟨[none, none, none, none, none], []⟩
  | 69 => ⟨[], []⟩
  | 72 => ⟨[], []⟩
  | 73 => ⟨[], []⟩
  | 74 => ⟨[some ⟨[(3, 58)], [0, 3], false⟩, none, some ⟨[(3, 58), (5, 3)], [3], false⟩, none], []⟩
  | 75 => ⟨[some ⟨[(6, 3)], [5], false⟩, none, some ⟨[(7, 3)], [5], false⟩, none, some ⟨[(12, 3)], [11], false⟩, none, some ⟨[(17, 3)], [11], false⟩, none], []⟩
  | 76 => ⟨[none], []⟩
  | 77 => ⟨[none, some ⟨[(5, 3), (6, 3), (0, 999999)], [0, 1], false⟩, none, some ⟨[(5, 3), (0, 999999)], [0], false⟩], []⟩
  | 78 => ⟨[], []⟩
  | 79 => ⟨[none, some ⟨[(4, 4), (13, 3)], [], false⟩, none, none], []⟩
  | 80 => ⟨[some ⟨[(2, 9), (3, 27), (4, 37), (11, 3)], [4], false⟩, none, some ⟨[(2, 9), (3, 27), (4, 37)], [4], false⟩, none, none], [4]⟩
  | 81 => ⟨[none, none, none], []⟩
  | 83 => ⟨[some ⟨[(4, 3), (5, 3)], [], false⟩, none, none], []⟩
  | 84 => ⟨[some ⟨[(9, 89), (10, 3)], [], false⟩, none, none, some ⟨[(4, 3), (9, 89), (11, 3)], [], false⟩, none, none], []⟩
  | 86 => ⟨[], []⟩
  | 87 => ⟨[some ⟨[(2, 4), (3, 3)], [], false⟩, none, none], []⟩
  | 89 => ⟨[], []⟩
  | 92 => ⟨[none, some ⟨[(1, 9)], [0], false⟩, none, some ⟨[], [0], false⟩], []⟩
  | 93 => ⟨[some ⟨[], [3], false⟩, some ⟨[], [3], false⟩, none, some ⟨[(26, 3)], [5], false⟩, none, some ⟨[(41, 3)], [7], false⟩, none], []⟩
  | 94 => ⟨[], []⟩
  | 95 => ⟨[], []⟩
  | 96 => ⟨[some ⟨[(4, 3), (8, 3)], [1], false⟩, none, none], []⟩
  | 97 => ⟨[some ⟨[(2, 4), (6, 3)], [], false⟩, none, none], []⟩
  | 98 => ⟨[], []⟩
  | 99 => ⟨[], []⟩
  | 100 => ⟨[], []⟩
  | 102 => ⟨[some ⟨[(4, 89), (5, 3)], [], false⟩, none, some ⟨[(6, 89), (7, 89), (8, 3)], [], false⟩, none, some ⟨[(6, 89)], [], false⟩], []⟩
  | 106 => ⟨[some ⟨[], [0], false⟩, some ⟨[(6, 89), (7, 89), (8, 89), (9, 89), (10, 89), (11, 89), (12, 89), (13, 89), (74, 3)], [], false⟩, none, some ⟨[(143, 3)], [0], false⟩, none], []⟩
  | 107 => ⟨[], []⟩
  | 108 => ⟨[none], []⟩
  | 109 => ⟨[some ⟨[(4, 3), (8, 3)], [], false⟩, none, none], []⟩
  | 114 => ⟨[], []⟩
  | 115 => ⟨[], []⟩
  | 116 => ⟨[some ⟨[(12, 3)], [3], false⟩, none, some ⟨[(22, 3)], [3], false⟩, none, some ⟨[(7, 3)], [3], false⟩, none], []⟩
  | 117 => ⟨[], []⟩
  | 122 => ⟨[], []⟩
  | _ => ⟨[], []⟩

def objs : List (Nat × List OFld) := [(60, [.self, .buf (.int .u8) 5])]
def els : List (Nat × Nat) := [(58, 5)]
noncomputable def spc : List (Nat × Spc) := [(45, .str 60 5), (70, .chk 60), (31, .clone (.pair .str (.pair (.int .i64) (.pair (.int .i64) (.pair .str (.pair .str .unit)))))), (32, (.own (.pair .str (.pair (.int .i64) (.pair (.int .i64) (.pair .str (.pair .str .unit))))) (.pair (.int .i64) (.pair (.slice (.pair .str (.pair (.int .i64) (.pair (.int .i64) (.pair .str (.pair .str .unit)))))) .unit)) true P_slices_Insert_api_TreeNode_api_TreeNode))]
noncomputable def tys : List (Nat × Ty) := [(3, (.int .i64)), (4, .bool), (5, (.int .u8)), (9, .str), (21, (.int .i32)), (22, (.slice (.pair .str (.pair (.int .i64) (.pair (.int .i64) (.pair .str (.pair .str .unit))))))), (24, (.pair .str (.pair (.int .i64) (.pair (.int .i64) (.pair .str (.pair .str .unit)))))), (27, (.int .i64)), (37, (.slice .str)), (58, (.slice (.int .u8))), (69, (.arr 32 (.int .u8))), (74, (.arr 4 .str)), (84, (.arr 21 (.int .u8))), (85, (.int .u64)), (89, (.int .u32)), (90, (.arr 8 (.int .u32))), (102, (.pair .bool (.pair (.arr 8 (.int .u32)) .unit))), (103, (.arr 64 (.int .u8))), (105, (.pair (.pair .bool (.pair (.arr 8 (.int .u32)) .unit)) (.pair (.arr 64 (.int .u8)) (.pair (.int .i64) .unit)))), (108, (.int .u64)), (109, (.arr 64 (.int .u32))), (121, (.arr 8 (.int .u8))), (122, (.arr 2 .str)), (132, (.arr 256 (.int .u8))), (134, (.pair (.int .u8) (.pair (.int .u8) .unit))), (135, (.arr 16 (.pair (.int .u8) (.pair (.int .u8) .unit))))]
noncomputable def funs : List (Nat × Func) := [(5, Tryz.f5), (6, Tryz.f6), (7, Tryz.f7), (8, Tryz.f8), (10, Tryz.f10), (11, Tryz.f11), (12, Tryz.f12), (13, Tryz.f13), (14, Tryz.f14), (15, Tryz.f15), (16, Tryz.f16), (17, Tryz.f17), (18, Tryz.f18), (19, Tryz.f19), (20, Tryz.f20), (21, Tryz.f21), (22, Tryz.f22), (23, Tryz.f23), (24, Tryz.f24), (25, Tryz.f25), (26, Tryz.f26), (27, Tryz.f27), (28, Tryz.f28), (29, Tryz.f29), (30, Tryz.f30), (31, Tryz.f31), (33, Tryz.f33), (34, Tryz.f34), (35, Tryz.f35), (36, Tryz.f36), (37, Tryz.f37), (38, Tryz.f38), (39, Tryz.f39), (40, Tryz.f40), (41, Tryz.f41), (42, Tryz.f42), (43, Tryz.f43), (44, Tryz.f44), (46, Tryz.f46), (47, Tryz.f47), (48, Tryz.f48), (49, Tryz.f49), (50, Tryz.f50), (51, Tryz.f51), (52, Tryz.f52), (53, Tryz.f53), (54, Tryz.f54), (55, Tryz.f55), (56, Tryz.f56), (57, Tryz.f57), (60, Tryz.f60), (61, Tryz.f61), (62, Tryz.f62), (63, Tryz.f63), (64, Tryz.f64), (65, Tryz.f65), (66, Tryz.f66), (67, Tryz.f67), (68, Tryz.f68), (69, Tryz.f69), (72, Tryz.f72), (73, Tryz.f73), (74, Tryz.f74), (75, Tryz.f75), (76, Tryz.f76), (77, Tryz.f77), (78, Tryz.f78), (79, Tryz.f79), (80, Tryz.f80), (81, Tryz.f81), (83, Tryz.f83), (84, Tryz.f84), (86, Tryz.f86), (87, Tryz.f87), (89, Tryz.f89), (92, Tryz.f92), (93, Tryz.f93), (94, Tryz.f94), (95, Tryz.f95), (96, Tryz.f96), (97, Tryz.f97), (98, Tryz.f98), (99, Tryz.f99), (100, Tryz.f100), (102, Tryz.f102), (106, Tryz.f106), (107, Tryz.f107), (108, Tryz.f108), (109, Tryz.f109), (114, Tryz.f114), (115, Tryz.f115), (116, Tryz.f116), (117, Tryz.f117), (122, Tryz.f122)]
def ones : List Nat := [46, 56, 57, 73, 77, 88, 119, 126]
def ptrs : List Nat := [57, 88, 119, 126]
noncomputable def cxOf (con : List (Nat × Con)) (rcon : List (Nat × RCon)) : Ctx := ⟨tys, ones, ptrs, funs, con, rcon, objs, spc, els⟩

theorem mix : Tryz.prog.follows .mixedOrders = true := by kernel_rfl

theorem T_ok : ∀ tid t, find tys tid = some t → Den Tryz.prog t tid := tys_ok (by kernel_rfl)
theorem ones_ok : ∀ tid, memN ones tid = true → (∀ w, (isAgg tid).run Tryz.prog w = .ok false w) ∧ (∀ w, (Go.sizeOf tid).run Tryz.prog w = .ok 1 w) ∧ ∃ z, (∀ w, (zeroValue tid).run Tryz.prog w = .ok z w) ∧ z.oneCell' = true := ones_of (by kernel_rfl)
theorem ptrs_ok : ∀ tid, memN ptrs tid = true → ∃ e, Tryz.prog.underlying tid = some (.pointer e) := ptrs_of (by kernel_rfl)
theorem fns_ok : ∀ f fn, find funs f = some fn → Tryz.prog.funcs[f]? = some fn := fns_of ((fns_cons Tryz.func5 (fns_cons Tryz.func6 (fns_cons Tryz.func7 (fns_cons Tryz.func8 (fns_cons Tryz.func10 (fns_cons Tryz.func11 (fns_cons Tryz.func12 (fns_cons Tryz.func13 (fns_cons Tryz.func14 (fns_cons Tryz.func15 (fns_cons Tryz.func16 (fns_cons Tryz.func17 (fns_cons Tryz.func18 (fns_cons Tryz.func19 (fns_cons Tryz.func20 (fns_cons Tryz.func21 (fns_cons Tryz.func22 (fns_cons Tryz.func23 (fns_cons Tryz.func24 (fns_cons Tryz.func25 (fns_cons Tryz.func26 (fns_cons Tryz.func27 (fns_cons Tryz.func28 (fns_cons Tryz.func29 (fns_cons Tryz.func30 (fns_cons Tryz.func31 (fns_cons Tryz.func33 (fns_cons Tryz.func34 (fns_cons Tryz.func35 (fns_cons Tryz.func36 (fns_cons Tryz.func37 (fns_cons Tryz.func38 (fns_cons Tryz.func39 (fns_cons Tryz.func40 (fns_cons Tryz.func41 (fns_cons Tryz.func42 (fns_cons Tryz.func43 (fns_cons Tryz.func44 (fns_cons Tryz.func46 (fns_cons Tryz.func47 (fns_cons Tryz.func48 (fns_cons Tryz.func49 (fns_cons Tryz.func50 (fns_cons Tryz.func51 (fns_cons Tryz.func52 (fns_cons Tryz.func53 (fns_cons Tryz.func54 (fns_cons Tryz.func55 (fns_cons Tryz.func56 (fns_cons Tryz.func57 (fns_cons Tryz.func60 (fns_cons Tryz.func61 (fns_cons Tryz.func62 (fns_cons Tryz.func63 (fns_cons Tryz.func64 (fns_cons Tryz.func65 (fns_cons Tryz.func66 (fns_cons Tryz.func67 (fns_cons Tryz.func68 (fns_cons Tryz.func69 (fns_cons Tryz.func72 (fns_cons Tryz.func73 (fns_cons Tryz.func74 (fns_cons Tryz.func75 (fns_cons Tryz.func76 (fns_cons Tryz.func77 (fns_cons Tryz.func78 (fns_cons Tryz.func79 (fns_cons Tryz.func80 (fns_cons Tryz.func81 (fns_cons Tryz.func83 (fns_cons Tryz.func84 (fns_cons Tryz.func86 (fns_cons Tryz.func87 (fns_cons Tryz.func89 (fns_cons Tryz.func92 (fns_cons Tryz.func93 (fns_cons Tryz.func94 (fns_cons Tryz.func95 (fns_cons Tryz.func96 (fns_cons Tryz.func97 (fns_cons Tryz.func98 (fns_cons Tryz.func99 (fns_cons Tryz.func100 (fns_cons Tryz.func102 (fns_cons Tryz.func106 (fns_cons Tryz.func107 (fns_cons Tryz.func108 (fns_cons Tryz.func109 (fns_cons Tryz.func114 (fns_cons Tryz.func115 (fns_cons Tryz.func116 (fns_cons Tryz.func117 (fns_cons Tryz.func122 fns_nil)))))))))))))))))))))))))))))))))))))))))))))))))))))))))))))))))))))))))))))))))))))))))))))))
theorem objs_ok : ∀ tid fs, find objs tid = some fs → objB Tryz.prog tid fs = true := objs_of (by kernel_rfl)
theorem els_ok : ∀ tid e, find els tid = some e → Tryz.prog.underlying tid = some (.slice e) := els_of (by kernel_rfl)
theorem cx_ok (con : List (Nat × Con)) (rcon : List (Nat × RCon)) : CxOk Tryz.prog (cxOf con rcon) := ⟨T_ok, ones_ok, ptrs_ok, fns_ok, objs_ok, els_ok⟩
noncomputable def cx0 : Ctx := ⟨tys, ones, ptrs, funs, [], [], objs, [], els⟩
theorem cx0_ok : CxOk Tryz.prog cx0 := ⟨T_ok, ones_ok, ptrs_ok, fns_ok, objs_ok, els_ok⟩
theorem s_slices_Clone_api_TreeNode_api_TreeNode : SpcOk Tryz.prog 31 (.clone (.pair .str (.pair (.int .i64) (.pair (.int .i64) (.pair .str (.pair .str .unit)))))) := by
  refine clone_own (P := Tryz.prog) (cx := cx0) (bf := [2, 5]) (e := (.pair .str (.pair (.int .i64) (.pair (.int .i64) (.pair .str (.pair .str .unit)))))) (tid := 22) (fn := Tryz.f31) (s0 := fun l => ((argSt (fun _ => none) [.data (.slice (.pair .str (.pair (.int .i64) (.pair (.int .i64) (.pair .str (.pair .str .unit)))))) l]).setBox 2 { val := .data (.slice (.pair .str (.pair (.int .i64) (.pair (.int .i64) (.pair .str (.pair .str .unit)))))) ([] : List ((.pair .str (.pair (.int .i64) (.pair (.int .i64) (.pair .str (.pair .str .unit))))) : Ty).den), tid := 0, buf := true, ro := false, lk := false, ver := 0 }).put 2 (.whole 2 0)) mix cx0_ok (conOk_of con_nil rcon_nil spc_nil) Tryz.func31 (by kernel_rfl)
    (by rfl) rfl (by decide) (by decide) rfl rfl rfl rfl rfl rfl (fun l => by rfl) (fun l => rfl) (fun l => rfl) (fun l => rfl) (fun l => by rfl) (fun l hl => ?_)
  have key : ∀ m : List ((.pair .str (.pair (.int .i64) (.pair (.int .i64) (.pair .str (.pair .str .unit))))) : Ty).den, fits (len m) = true → sel (fits (plus (len ([] : List ((.pair .str (.pair (.int .i64) (.pair (.int .i64) (.pair .str (.pair .str .unit))))) : Ty).den)) (len m))) (some (app [] m)) none = some m := by
    intro m hm
    have e : plus (len ([] : List ((.pair .str (.pair (.int .i64) (.pair (.int .i64) (.pair .str (.pair .str .unit))))) : Ty).den)) (len m) = len m := by simp [plus, len]
    rw [e, hm]
    rfl
  exact Eq.trans (b := sel (fits (plus (len ([] : List ((.pair .str (.pair (.int .i64) (.pair (.int .i64) (.pair .str (.pair .str .unit))))) : Ty).den)) (len (α := ((.pair .str (.pair (.int .i64) (.pair (.int .i64) (.pair .str (.pair .str .unit))))) : Ty).den) l))) (some (app (α := ((.pair .str (.pair (.int .i64) (.pair (.int .i64) (.pair .str (.pair .str .unit))))) : Ty).den) [] l)) none) (by rfl) (key l hl)
theorem s_slices_Insert_api_TreeNode_api_TreeNode : SpcOk Tryz.prog 32 (.own (.pair .str (.pair (.int .i64) (.pair (.int .i64) (.pair .str (.pair .str .unit))))) (.pair (.int .i64) (.pair (.slice (.pair .str (.pair (.int .i64) (.pair (.int .i64) (.pair .str (.pair .str .unit)))))) .unit)) true P_slices_Insert_api_TreeNode_api_TreeNode) := by
  have hden : Den Tryz.prog (.pair .str (.pair (.int .i64) (.pair (.int .i64) (.pair .str (.pair .str .unit))))) 24 := by
    show denG Tryz.prog (.pair .str (.pair (.int .i64) (.pair (.int .i64) (.pair .str (.pair .str .unit))))) false 24 0 [] = true
    kernel_rfl
  obtain ⟨ie, ze, e1, e2, e3, e4⟩ := hden.info
  exact ins_own (e := (.pair .str (.pair (.int .i64) (.pair (.int .i64) (.pair .str (.pair .str .unit)))))) (ρ := (⟨fun x => if x = 29 then 58 else if x = 30 then 59 else 32, fun x => if x = 24 then 22 else if x = 9 then 24 else if x = 3 then 3 else if x = 4 then 4 else 0, fun x => x⟩ : Go.Shelf.Ren)) (nm := "slices.Insert[[]cooperage/api.TreeNode,cooperage/api.TreeNode]") ⟨mix, Tryz.func32.trans (congrArg some (by kernel_rfl)),
    fun xs w => run_callFunc_extern (e := Extern.SlicesOverlaps.overlaps #[22, 22] #[4]) Tryz.func58 (by kernel_rfl) (by kernel_rfl) (by kernel_rfl) (by kernel_rfl) xs w,
    by kernel_rfl, by kernel_rfl, by kernel_rfl, fun w => by simp [Go.sizeOf, e1, e2] <;> kernel_rfl, by simp [e1, e2] <;> kernel_rfl⟩ (by decide) hden (by kernel_rfl) (by decide) (by decide)
theorem spc_ok : ∀ p ∈ spc, SpcOk Tryz.prog p.1 p.2 := (spc_cons h_strings_Builder_String (spc_cons h_strings_Builder_copyCheck (spc_cons s_slices_Clone_api_TreeNode_api_TreeNode (spc_cons s_slices_Insert_api_TreeNode_api_TreeNode spc_nil))))
theorem funs_ok (con : List (Nat × Con)) (rcon : List (Nat × RCon)) : FnsOk (cxOf con rcon) := fnsOk_of (cx := cxOf con rcon) (show (funs.all fun p => fnOk p.2) = true by kernel_rfl)

def glob : Globs := noGlobs
theorem holds_at {con : List (Nat × Con)} {rcon : List (Nat × RCon)} (hcon : ∀ p ∈ con, Holds Tryz.prog glob p.1 p.2) (hrcon : ∀ p ∈ rcon, RHolds Tryz.prog glob p.1 p.2) {f : Nat} {fn : Func} {A R : Ty} {spec : A.den → Option R.den} (hfn : find funs f = some fn) (hb : fn.body.isSome = true)
    (hs : ∀ x, sem (cxOf con rcon) 12 plans f A R x = spec x) : Holds Tryz.prog glob f ⟨A, R, spec⟩ := by
  obtain ⟨code, hcode⟩ := Option.isSome_iff_exists.1 hb
  exact holds_of_sem mix (cx_ok con rcon) (conOk_of hcon hrcon spc_ok) (funs_ok con rcon) (f := f) hfn hcode (fun x y h => by rw [hs]; exact h)

theorem rholds_at {con : List (Nat × Con)} {rcon : List (Nat × RCon)} (hcon : ∀ p ∈ con, Holds Tryz.prog glob p.1 p.2) (hrcon : ∀ p ∈ rcon, RHolds Tryz.prog glob p.1 p.2) {f : Nat} {fn : Func} {ps : List Bool} {A U R : Ty} {spec : A.den × U.den → Option (R.den × U.den)} (hfn : find funs f = some fn) (hb : fn.body.isSome = true)
    (hs : ∀ x, semR (cxOf con rcon) 12 plans f ps A U R x = spec x) : RHolds Tryz.prog glob f ⟨ps, A, U, R, spec⟩ := by
  obtain ⟨code, hcode⟩ := Option.isSome_iff_exists.1 hb
  exact rholds_of_sem mix (cx_ok con rcon) (conOk_of hcon hrcon spc_ok) (funs_ok con rcon) (f := f) hfn hcode (fun x y h => by rw [hs]; exact h)

noncomputable def c_ref14_Few : Con := ⟨(.pair (.slice (.pair .str (.pair (.int .i64) (.pair (.int .i64) (.pair .str (.pair .str .unit)))))) (.pair (.int .i64) .unit)), (.pair .bool .unit), P_ref14_Few⟩
theorem h_ref14_Few : Holds Tryz.prog glob 6 c_ref14_Few := holds_at (con := []) (rcon := []) (con_nil) (rcon_nil) (fn := Tryz.f6) rfl (by kernel_rfl) (fun x => by kernel_rfl)
noncomputable def c_tree_Remove : Con := ⟨(.pair (.slice (.pair .str (.pair (.int .i64) (.pair (.int .i64) (.pair .str (.pair .str .unit)))))) (.pair .str .unit)), (.pair (.slice (.pair .str (.pair (.int .i64) (.pair (.int .i64) (.pair .str (.pair .str .unit)))))) .unit), P_tree_Remove⟩
theorem h_tree_Remove : Holds Tryz.prog glob 20 c_tree_Remove := holds_at (con := [(11, c_tree_Check), (31, c_slices_Clone_api_TreeNode_api_TreeNode), (50, c_paths_Under)]) (rcon := []) ((con_cons h_tree_Check (con_cons h_slices_Clone_api_TreeNode_api_TreeNode (con_cons h_paths_Under con_nil)))) (rcon_nil) (fn := Tryz.f20) rfl (by kernel_rfl) (fun x => by kernel_rfl)
noncomputable def c_ref07_Parts : Con := ⟨(.pair .str .unit), (.pair (.slice .str) .unit), P_ref07_Parts⟩
theorem h_ref07_Parts : Holds Tryz.prog glob 63 c_ref07_Parts := holds_at (con := []) (rcon := []) (con_nil) (rcon_nil) (fn := Tryz.f63) rfl (by kernel_rfl) (fun x => by kernel_rfl)
noncomputable def c_ref07_join : Con := ⟨(.pair (.slice .str) .unit), (.pair .str .unit), P_ref07_join⟩
theorem h_ref07_join : Holds Tryz.prog glob 64 c_ref07_join := holds_at (con := []) (rcon := []) (con_nil) (rcon_nil) (fn := Tryz.f64) rfl (by kernel_rfl) (fun x => by kernel_rfl)
noncomputable def c_ref07_Split : Con := ⟨(.pair .str .unit), (.pair .str (.pair .str .unit)), P_ref07_Split⟩
theorem h_ref07_Split : Holds Tryz.prog glob 34 c_ref07_Split := holds_at (con := [(63, c_ref07_Parts), (64, c_ref07_join)]) (rcon := []) ((con_cons h_ref07_Parts (con_cons h_ref07_join con_nil))) (rcon_nil) (fn := Tryz.f34) rfl (by kernel_rfl) (fun x => by kernel_rfl)
noncomputable def c_ref07_begins : Con := ⟨(.pair .str (.pair .str .unit)), (.pair .bool .unit), P_ref07_begins⟩
theorem h_ref07_begins : Holds Tryz.prog glob 86 c_ref07_begins := holds_at (con := []) (rcon := []) (con_nil) (rcon_nil) (fn := Tryz.f86) rfl (by kernel_rfl) (fun x => by kernel_rfl)
noncomputable def c_ref07_Mark : Con := ⟨(.pair .str .unit), (.pair (.int .i64) (.pair .str .unit)), P_ref07_Mark⟩
theorem h_ref07_Mark : Holds Tryz.prog glob 60 c_ref07_Mark := holds_at (con := [(86, c_ref07_begins)]) (rcon := []) ((con_cons h_ref07_begins con_nil)) (rcon_nil) (fn := Tryz.f60) rfl (by kernel_rfl) (fun x => by kernel_rfl)
noncomputable def c_ref07_isName : Con := ⟨(.pair .str .unit), (.pair .bool .unit), P_ref07_isName⟩
theorem h_ref07_isName : Holds Tryz.prog glob 87 c_ref07_isName := holds_at (con := []) (rcon := []) (con_nil) (rcon_nil) (fn := Tryz.f87) rfl (by kernel_rfl) (fun x => by kernel_rfl)
noncomputable def c_ref07_Is : Con := ⟨(.pair .str .unit), (.pair .bool .unit), P_ref07_Is⟩
theorem h_ref07_Is : Holds Tryz.prog glob 61 c_ref07_Is := holds_at (con := [(63, c_ref07_Parts), (87, c_ref07_isName)]) (rcon := []) ((con_cons h_ref07_Parts (con_cons h_ref07_isName con_nil))) (rcon_nil) (fn := Tryz.f61) rfl (by kernel_rfl) (fun x => by kernel_rfl)
noncomputable def c_ref14_IsLink : Con := ⟨(.pair .str .unit), (.pair .bool .unit), P_ref14_IsLink⟩
theorem h_ref14_IsLink : Holds Tryz.prog glob 62 c_ref14_IsLink := holds_at (con := []) (rcon := []) (con_nil) (rcon_nil) (fn := Tryz.f62) rfl (by kernel_rfl) (fun x => by kernel_rfl)
noncomputable def c_ref14_May : Con := ⟨(.pair (.pair .str (.pair (.int .i64) (.pair (.int .i64) (.pair .str (.pair .str .unit))))) .unit), (.pair .bool .unit), P_ref14_May⟩
theorem h_ref14_May : Holds Tryz.prog glob 33 c_ref14_May := holds_at (con := [(34, c_ref07_Split), (60, c_ref07_Mark), (61, c_ref07_Is), (62, c_ref14_IsLink)]) (rcon := []) ((con_cons h_ref07_Split (con_cons h_ref07_Mark (con_cons h_ref07_Is (con_cons h_ref14_IsLink con_nil))))) (rcon_nil) (fn := Tryz.f33) rfl (by kernel_rfl) (fun x => by kernel_rfl)
noncomputable def c_ref14_find : Con := ⟨(.pair (.slice (.pair .str (.pair (.int .i64) (.pair (.int .i64) (.pair .str (.pair .str .unit)))))) (.pair .str .unit)), (.pair (.int .i64) .unit), P_ref14_find⟩
theorem h_ref14_find : Holds Tryz.prog glob 35 c_ref14_find := holds_at (con := []) (rcon := []) (con_nil) (rcon_nil) (fn := Tryz.f35) rfl (by kernel_rfl) (fun x => by kernel_rfl)
noncomputable def c_ref14_dir : Con := ⟨(.pair (.slice (.pair .str (.pair (.int .i64) (.pair (.int .i64) (.pair .str (.pair .str .unit)))))) (.pair .str .unit)), (.pair .bool .unit), P_ref14_dir⟩
theorem h_ref14_dir : Holds Tryz.prog glob 36 c_ref14_dir := holds_at (con := [(35, c_ref14_find)]) (rcon := []) ((con_cons h_ref14_find con_nil)) (rcon_nil) (fn := Tryz.f36) rfl (by kernel_rfl) (fun x => by kernel_rfl)
noncomputable def c_ref07_Compare : Con := ⟨(.pair .str (.pair .str .unit)), (.pair (.int .i64) .unit), P_ref07_Compare⟩
theorem h_ref07_Compare : Holds Tryz.prog glob 38 c_ref07_Compare := holds_at (con := [(63, c_ref07_Parts)]) (rcon := []) ((con_cons h_ref07_Parts con_nil)) (rcon_nil) (fn := Tryz.f38) rfl (by kernel_rfl) (fun x => by kernel_rfl)
noncomputable def c_ref14_Is : Con := ⟨(.pair (.slice (.pair .str (.pair (.int .i64) (.pair (.int .i64) (.pair .str (.pair .str .unit)))))) .unit), (.pair .bool .unit), P_ref14_Is⟩
theorem h_ref14_Is : Holds Tryz.prog glob 18 c_ref14_Is := holds_at (con := [(33, c_ref14_May), (34, c_ref07_Split), (36, c_ref14_dir), (38, c_ref07_Compare)]) (rcon := []) ((con_cons h_ref14_May (con_cons h_ref07_Split (con_cons h_ref14_dir (con_cons h_ref07_Compare con_nil))))) (rcon_nil) (fn := Tryz.f18) rfl (by kernel_rfl) (fun x => by kernel_rfl)
noncomputable def c_ref14_Find : Con := ⟨(.pair (.slice (.pair .str (.pair (.int .i64) (.pair (.int .i64) (.pair .str (.pair .str .unit)))))) (.pair .str .unit)), (.pair (.pair .str (.pair (.int .i64) (.pair (.int .i64) (.pair .str (.pair .str .unit))))) (.pair .bool .unit)), P_ref14_Find⟩
theorem h_ref14_Find : Holds Tryz.prog glob 15 c_ref14_Find := holds_at (con := [(18, c_ref14_Is), (35, c_ref14_find)]) (rcon := []) ((con_cons h_ref14_Is (con_cons h_ref14_find con_nil))) (rcon_nil) (fn := Tryz.f15) rfl (by kernel_rfl) (fun x => by kernel_rfl)
noncomputable def c_ref14_List : Con := ⟨(.pair (.slice (.pair .str (.pair (.int .i64) (.pair (.int .i64) (.pair .str (.pair .str .unit)))))) (.pair .str .unit)), (.pair (.slice .str) (.pair (.int .i64) .unit)), P_ref14_List⟩
theorem h_ref14_List : Holds Tryz.prog glob 17 c_ref14_List := holds_at (con := [(18, c_ref14_Is), (34, c_ref07_Split), (35, c_ref14_find), (36, c_ref14_dir)]) (rcon := []) ((con_cons h_ref14_Is (con_cons h_ref07_Split (con_cons h_ref14_find (con_cons h_ref14_dir con_nil))))) (rcon_nil) (fn := Tryz.f17) rfl (by kernel_rfl) (fun x => by kernel_rfl)
noncomputable def c_ref07_Under : Con := ⟨(.pair .str (.pair .str .unit)), (.pair .bool .unit), P_ref07_Under⟩
theorem h_ref07_Under : Holds Tryz.prog glob 65 c_ref07_Under := holds_at (con := [(63, c_ref07_Parts)]) (rcon := []) ((con_cons h_ref07_Parts con_nil)) (rcon_nil) (fn := Tryz.f65) rfl (by kernel_rfl) (fun x => by kernel_rfl)
noncomputable def c_ref14_without : Con := ⟨(.pair (.slice (.pair .str (.pair (.int .i64) (.pair (.int .i64) (.pair .str (.pair .str .unit)))))) (.pair .str (.pair .bool .unit))), (.pair (.slice (.pair .str (.pair (.int .i64) (.pair (.int .i64) (.pair .str (.pair .str .unit)))))) .unit), P_ref14_without⟩
theorem h_ref14_without : Holds Tryz.prog glob 37 c_ref14_without := holds_at (con := [(65, c_ref07_Under)]) (rcon := []) ((con_cons h_ref07_Under con_nil)) (rcon_nil) (fn := Tryz.f37) rfl (by kernel_rfl) (fun x => by kernel_rfl)
noncomputable def c_ref14_Remove : Con := ⟨(.pair (.slice (.pair .str (.pair (.int .i64) (.pair (.int .i64) (.pair .str (.pair .str .unit)))))) (.pair .str .unit)), (.pair (.slice (.pair .str (.pair (.int .i64) (.pair (.int .i64) (.pair .str (.pair .str .unit)))))) .unit), P_ref14_Remove⟩
theorem h_ref14_Remove : Holds Tryz.prog glob 21 c_ref14_Remove := holds_at (con := [(18, c_ref14_Is), (37, c_ref14_without)]) (rcon := []) ((con_cons h_ref14_Is (con_cons h_ref14_without con_nil))) (rcon_nil) (fn := Tryz.f21) rfl (by kernel_rfl) (fun x => by kernel_rfl)
noncomputable def c_tree_Empty : Con := ⟨(.pair (.slice (.pair .str (.pair (.int .i64) (.pair (.int .i64) (.pair .str (.pair .str .unit)))))) (.pair .str .unit)), (.pair (.slice (.pair .str (.pair (.int .i64) (.pair (.int .i64) (.pair .str (.pair .str .unit)))))) .unit), P_tree_Empty⟩
theorem h_tree_Empty : Holds Tryz.prog glob 22 c_tree_Empty := holds_at (con := [(11, c_tree_Check), (31, c_slices_Clone_api_TreeNode_api_TreeNode), (50, c_paths_Under)]) (rcon := []) ((con_cons h_tree_Check (con_cons h_slices_Clone_api_TreeNode_api_TreeNode (con_cons h_paths_Under con_nil)))) (rcon_nil) (fn := Tryz.f22) rfl (by kernel_rfl) (fun x => by kernel_rfl)
noncomputable def c_ref14_Empty : Con := ⟨(.pair (.slice (.pair .str (.pair (.int .i64) (.pair (.int .i64) (.pair .str (.pair .str .unit)))))) (.pair .str .unit)), (.pair (.slice (.pair .str (.pair (.int .i64) (.pair (.int .i64) (.pair .str (.pair .str .unit)))))) .unit), P_ref14_Empty⟩
theorem h_ref14_Empty : Holds Tryz.prog glob 23 c_ref14_Empty := holds_at (con := [(18, c_ref14_Is), (37, c_ref14_without)]) (rcon := []) ((con_cons h_ref14_Is (con_cons h_ref14_without con_nil))) (rcon_nil) (fn := Tryz.f23) rfl (by kernel_rfl) (fun x => by kernel_rfl)
noncomputable def c_ref02_begin : Con := ⟨.unit, (.pair (.arr 8 (.int .u32)) .unit), P_ref02_begin⟩
theorem h_ref02_begin : Holds Tryz.prog glob 73 c_ref02_begin := holds_at (con := []) (rcon := []) (con_nil) (rcon_nil) (fn := Tryz.f73) rfl (by kernel_rfl) (fun x => by kernel_rfl)
noncomputable def c_ref02_whole : Con := ⟨(.pair .str .unit), (.pair .str .unit), P_ref02_whole⟩
theorem h_ref02_whole : Holds Tryz.prog glob 74 c_ref02_whole := holds_at (con := []) (rcon := []) (con_nil) (rcon_nil) (fn := Tryz.f74) rfl (by kernel_rfl) (fun x => by kernel_rfl)
noncomputable def c_ref02_turn : Con := ⟨(.pair (.int .u32) (.pair (.int .i64) .unit)), (.pair (.int .u32) .unit), P_ref02_turn⟩
theorem h_ref02_turn : Holds Tryz.prog glob 94 c_ref02_turn := holds_at (con := []) (rcon := []) (con_nil) (rcon_nil) (fn := Tryz.f94) rfl (by kernel_rfl) (fun x => by kernel_rfl)
noncomputable def c_ref02_consts : Con := ⟨.unit, (.pair (.arr 64 (.int .u32)) .unit), P_ref02_consts⟩
theorem h_ref02_consts : Holds Tryz.prog glob 95 c_ref02_consts := holds_at (con := []) (rcon := []) (con_nil) (rcon_nil) (fn := Tryz.f95) rfl (by kernel_rfl) (fun x => by kernel_rfl)
noncomputable def c_ref02_block : Con := ⟨(.pair (.arr 8 (.int .u32)) (.pair .str .unit)), (.pair (.arr 8 (.int .u32)) .unit), P_ref02_block⟩
theorem h_ref02_block : Holds Tryz.prog glob 75 c_ref02_block := holds_at (con := [(94, c_ref02_turn), (95, c_ref02_consts)]) (rcon := []) ((con_cons h_ref02_turn (con_cons h_ref02_consts con_nil))) (rcon_nil) (fn := Tryz.f75) rfl (by kernel_rfl) (fun x => by kernel_rfl)
noncomputable def c_ref02_Sum : Con := ⟨(.pair .str .unit), (.pair (.arr 32 (.int .u8)) .unit), P_ref02_Sum⟩
theorem h_ref02_Sum : Holds Tryz.prog glob 46 c_ref02_Sum := holds_at (con := [(73, c_ref02_begin), (74, c_ref02_whole), (75, c_ref02_block)]) (rcon := []) ((con_cons h_ref02_begin (con_cons h_ref02_whole (con_cons h_ref02_block con_nil)))) (rcon_nil) (fn := Tryz.f46) rfl (by kernel_rfl) (fun x => by kernel_rfl)
noncomputable def c_ref01_digit : Con := ⟨(.pair (.int .i64) .unit), (.pair (.int .u8) .unit), P_ref01_digit⟩
theorem h_ref01_digit : Holds Tryz.prog glob 76 c_ref01_digit := holds_at (con := []) (rcon := []) (con_nil) (rcon_nil) (fn := Tryz.f76) rfl (by kernel_rfl) (fun x => by kernel_rfl)
noncomputable def c_ref01_Hex : Con := ⟨(.pair .str .unit), (.pair .str .unit), P_ref01_Hex⟩
theorem h_ref01_Hex : Holds Tryz.prog glob 47 c_ref01_Hex := holds_at (con := [(76, c_ref01_digit)]) (rcon := []) ((con_cons h_ref01_digit con_nil)) (rcon_nil) (fn := Tryz.f47) rfl (by kernel_rfl) (fun x => by kernel_rfl)
noncomputable def c_ref03_Of : Con := ⟨(.pair .str .unit), (.pair .str .unit), P_ref03_Of⟩
theorem h_ref03_Of : Holds Tryz.prog glob 13 c_ref03_Of := holds_at (con := [(46, c_ref02_Sum), (47, c_ref01_Hex)]) (rcon := []) ((con_cons h_ref02_Sum (con_cons h_ref01_Hex con_nil))) (rcon_nil) (fn := Tryz.f13) rfl (by kernel_rfl) (fun x => by kernel_rfl)
noncomputable def c_ref01_Octal : Con := ⟨(.pair (.int .i64) (.pair (.int .i64) .unit)), (.pair .str (.pair .bool .unit)), P_ref01_Octal⟩
theorem h_ref01_Octal : Holds Tryz.prog glob 52 c_ref01_Octal := holds_at (con := []) (rcon := []) (con_nil) (rcon_nil) (fn := Tryz.f52) rfl (by kernel_rfl) (fun x => by kernel_rfl)
noncomputable def c_ref14_Text : Con := ⟨(.pair (.slice (.pair .str (.pair (.int .i64) (.pair (.int .i64) (.pair .str (.pair .str .unit)))))) .unit), (.pair .str .unit), P_ref14_Text⟩
theorem h_ref14_Text : Holds Tryz.prog glob 24 c_ref14_Text := holds_at (con := [(13, c_ref03_Of), (18, c_ref14_Is), (47, c_ref01_Hex), (52, c_ref01_Octal)]) (rcon := []) ((con_cons h_ref03_Of (con_cons h_ref14_Is (con_cons h_ref01_Hex (con_cons h_ref01_Octal con_nil))))) (rcon_nil) (fn := Tryz.f24) rfl (by kernel_rfl) (fun x => by kernel_rfl)
noncomputable def c_law14_TreeIs : Con := ⟨(.pair (.slice (.pair .str (.pair (.int .i64) (.pair (.int .i64) (.pair .str (.pair .str .unit)))))) (.pair .str .unit)), (.pair .bool .unit), P_law14_TreeIs⟩
theorem h_law14_TreeIs : Holds Tryz.prog glob 5 c_law14_TreeIs := holds_at (con := [(6, c_ref14_Few), (7, c_law14_awake), (10, c_ref14_Same), (11, c_tree_Check), (12, c_tree_Text), (14, c_tree_Find), (15, c_ref14_Find), (16, c_tree_List), (17, c_ref14_List), (18, c_ref14_Is), (19, c_ref06_SameTexts), (20, c_tree_Remove), (21, c_ref14_Remove), (22, c_tree_Empty), (23, c_ref14_Empty), (24, c_ref14_Text)]) (rcon := []) ((con_cons h_ref14_Few (con_cons h_law14_awake (con_cons h_ref14_Same (con_cons h_tree_Check (con_cons h_tree_Text (con_cons h_tree_Find (con_cons h_ref14_Find (con_cons h_tree_List (con_cons h_ref14_List (con_cons h_ref14_Is (con_cons h_ref06_SameTexts (con_cons h_tree_Remove (con_cons h_ref14_Remove (con_cons h_tree_Empty (con_cons h_ref14_Empty (con_cons h_ref14_Text con_nil))))))))))))))))) (rcon_nil) (fn := Tryz.f5) rfl (by kernel_rfl) (fun x => by kernel_rfl)
end Go.Proofs.YtnmllijemdpcoaaGreatDoor
