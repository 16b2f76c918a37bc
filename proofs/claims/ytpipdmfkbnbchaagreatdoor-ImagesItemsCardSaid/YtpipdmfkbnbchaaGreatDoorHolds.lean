/- The layer's functions keep their contracts: each comes to its plain definition, by the ghost interpreter. -/
import Derived.Test.YtpipdmfkbnbchaaGreatDoorRows
import Derived.Test.YtpipdmfkbnbchaaGreatDoorPlD
import Derived.Test.YtpipdmfkbnbchaaGreatDoorBld
import Derived.Test.YtpipdmfkbnbchaaGreatDoorShelf
namespace Go.Proofs.YtpipdmfkbnbchaaGreatDoor
open Go Go.Ge
set_option linter.unusedVariables false
set_option maxRecDepth 100000

noncomputable def plans : Nat → FPlan
  | 3 => ⟨[none, none, none, some ⟨[(6, 4), (17, 3)], [], false⟩, none, none], []⟩
  | 5 => ⟨[some ⟨[(2, 4), (3, 3)], [], false⟩, none, none, some ⟨[(2, 4), (4, 3)], [], false⟩, none, none, some ⟨[(2, 4), (5, 3)], [], false⟩, none, none], []⟩
  | 6 => ⟨[], []⟩
  | 7 => ⟨[none, none], []⟩
  | 8 => ⟨[none, some ⟨[(8, 3), (9, 3)], [], false⟩, none, some ⟨[(8, 3)], [], false⟩, none, some ⟨[(10, 22), (11, 3)], [10], false⟩, none, some ⟨[(10, 22)], [10], false⟩, some ⟨[(12, 3)], [], false⟩, none], [10, 13]⟩
  | 9 => ⟨[none], []⟩
  | 10 => ⟨[some ⟨[(4, 9), (5, 33), (6, 3)], [], false⟩, none, none], []⟩
  | 11 => ⟨[none, some ⟨[(4, 4), (5, 3)], [], false⟩, none, none], []⟩
  | 12 => ⟨[some ⟨[(2, 4), (3, 3)], [], false⟩, none, none], []⟩
  | 15 => ⟨[none, some ⟨[(13, 33)], [12], false⟩, some ⟨[(13, 33)], [], false⟩, some ⟨[(13, 33)], [12], false⟩, none], []⟩
  | 16 => ⟨[none, none], []⟩
  | 18 => ⟨[], []⟩
  | 19 => ⟨[some ⟨[(5, 4), (11, 3)], [4], false⟩, none, none], []⟩
  | 20 => ⟨[some ⟨[(2, 4), (3, 3)], [], false⟩, none, none], []⟩
  | 21 => ⟨[some ⟨[(2, 4), (3, 3)], [], false⟩, none, none], []⟩
  | 22 => ⟨[], []⟩
  | 23 => ⟨[], []⟩
  | 24 => ⟨[], []⟩
  | 25 => ⟨[some ⟨[(8, 3)], [], false⟩], []⟩
  | 26 => ⟨[], []⟩
  | 27 => ⟨[some ⟨[(2, 4), (3, 3)], [], false⟩, none, none], []⟩
  | 28 => ⟨[], []⟩
  | 33 => ⟨[none], [7]⟩
  | 34 => ⟨[], []⟩
  | 35 => ⟨[], []⟩
  | 36 => ⟨[none, some ⟨[(6, 33), (21, 3)], [5], false⟩, none, none], []⟩
  | 37 => ⟨[], []⟩
  | 38 => ⟨[none, some ⟨[(4, 9), (5, 33), (17, 3), (0, 999999)], [0], false⟩, none, none], []⟩
  | 39 => ⟨[], []⟩
  | 40 => ⟨[], []⟩
  | 41 => ⟨[], []⟩
  | 42 => ⟨[some ⟨[(7, 27)], [7, 8], false⟩], [10]⟩
  | 43 => ⟨[], []⟩
  | 49 => ⟨[none, none, some ⟨[(7, 24), (27, 3)], [7], false⟩, none, some ⟨[(7, 24)], [7], false⟩, none, none], [7]⟩
  | 50 => ⟨[none], [5]⟩
  | 51 => ⟨[none], [5]⟩
  | 52 => ⟨[none, none, none], []⟩
  | 53 => ⟨[some ⟨[(4, 3), (8, 3)], [1], false⟩, none, none], []⟩
  | 54 => ⟨[], []⟩
  | 55 => ⟨[some ⟨[(7, 22)], [7, 8], false⟩], [10]⟩
  | 56 => ⟨[], []⟩
  | 58 => ⟨[], []⟩
  | 59 => ⟨[some ⟨[(9, 3)], [3], false⟩, none], []⟩
  | 60 => ⟨[some ⟨[(5, 3)], [3], false⟩, none, some ⟨[(7, 3)], [6], false⟩, none], []⟩
  | 61 => ⟨[some ⟨[(3, 99), (4, 3)], [3], false⟩, none], [3]⟩
  | 71 => ⟨[], []⟩
  | 72 => ⟨[], []⟩
  | 73 => ⟨[], []⟩
  | 74 => ⟨[], []⟩
  | 75 => ⟨[], []⟩
  | 76 => ⟨[], []⟩
  | 77 => ⟨[some ⟨[], [5, 6], false⟩, some ⟨[(20, 3)], [5, 6], false⟩, none, some ⟨[], [5, 6], false⟩, some ⟨[(36, 3)], [5, 6], false⟩, none, some ⟨[], [5, 6], false⟩, some ⟨[(52, 3)], [5, 6], false⟩, none, some ⟨[], [5, 6, 12], false⟩], [5]⟩
  | 78 => ⟨[], []⟩
  | 79 => ⟨[], []⟩
  | 80 => ⟨[], []⟩
  | 81 => ⟨[some ⟨[(8, 3)], [], false⟩], []⟩
  | 82 => ⟨[some ⟨[(4, 3), (8, 3)], [1], false⟩, none, none], []⟩
  | 83 => ⟨[none], [5]⟩
  | 84 => ⟨[], []⟩
  | 86 => ⟨[some ⟨[(4, 3), (8, 3)], [1], false⟩, none, none], []⟩
  | 87 => ⟨[], []⟩
  | 88 => ⟨[], []⟩
  | 89 => ⟨[some ⟨[(0, 9)], [], false⟩, none], []⟩
  | 90 => ⟨[some ⟨[(0, 9)], [], false⟩, none], []⟩
  | 91 => ⟨[some ⟨[(3, 4), (4, 3)], [2], false⟩, none, none], []⟩
  | 92 => ⟨[some ⟨[(0, 9)], [1], false⟩, none, none], []⟩
  | 93 => ⟨[some ⟨[(0, 9)], [1], false⟩, none, none], []⟩
  | 99 => ⟨[none, some ⟨[(1, 9)], [0], false⟩, none, some ⟨[], [0], false⟩], []⟩
  | 100 => ⟨[some ⟨[], [3], false⟩, some ⟨[], [3], false⟩, none, some ⟨[(26, 3)], [5], false⟩, none, some ⟨[(41, 3)], [7], false⟩, none], []⟩
  | 101 => ⟨[], []⟩
  | 103 => ⟨[], []⟩
  | 104 => ⟨[some ⟨[(3, 99)], [0, 3], false⟩, none, some ⟨[(3, 99), (5, 3)], [3], false⟩, none], []⟩
  | 105 => ⟨[some ⟨[(6, 3)], [5], false⟩, none, some ⟨[(7, 3)], [5], false⟩, none, some ⟨[(12, 3)], [11], false⟩, none, some ⟨[(17, 3)], [11], false⟩, none], []⟩
  | 106 => ⟨[none], []⟩
  | 117 => ⟨[some ⟨[(4, 3), (8, 3)], [1], false⟩, none, none], []⟩
  | 118 => ⟨[], []⟩
  | 119 => ⟨[some ⟨[(4, 3), (8, 3)], [], false⟩, none, none], []⟩
  | 120 => ⟨[], []⟩
  | 121 => ⟨[], []⟩
  | 122 => ⟨[some ⟨[(4, 3), (8, 3)], [1], false⟩, none, none], []⟩
  | 123 => ⟨[], []⟩
  | 125 => ⟨[], []⟩
  | 126 => ⟨[], []⟩
  | 127 => ⟨[], []⟩
  | 132 => ⟨[some ⟨[], [0], false⟩, some ⟨[(6, 137), (7, 137), (8, 137), (9, 137), (10, 137), (11, 137), (12, 137), (13, 137), (74, 3)], [], false⟩, none, some ⟨[(143, 3)], [0], false⟩, none], []⟩
  | 134 => ⟨[], []⟩
  | 135 => ⟨[], []⟩
  | 158 => ⟨[], []⟩
  | 159 => ⟨[], []⟩
  | 160 => ⟨[some ⟨[(12, 3)], [3], false⟩, none, some ⟨[(22, 3)], [3], false⟩, none, some ⟨[(7, 3)], [3], false⟩, none], []⟩
  | 161 => ⟨[], []⟩
  | 188 => ⟨[], []⟩
  | _ => ⟨[], []⟩

def objs : List (Nat × List OFld) := [(148, [.self, .buf (.int .u8) 5])]
def els : List (Nat × Nat) := [(99, 5)]
noncomputable def spc : List (Nat × Spc) := [(102, .str 148 5), (133, .chk 148), (50, .clone .str), (51, .clone (.pair .str (.pair .str (.pair .str .unit)))), (83, .clone (.pair .str (.pair (.slice .str) (.pair .str (.pair .str (.pair (.slice (.pair .str (.pair .str (.pair .str .unit)))) .unit)))))), (57, (.own (.pair .str (.pair .str (.pair .str .unit))) (.pair (.int .i64) (.pair (.slice (.pair .str (.pair .str (.pair .str .unit)))) .unit)) true P_slices_Insert_api_Item_api_Item)), (69, (.own .str .unit false P_slices_Sort_string_string)), (70, (.own .str .unit true P_slices_Compact_string_string)), (85, (.own (.pair .str (.pair (.slice .str) (.pair .str (.pair .str (.pair (.slice (.pair .str (.pair .str (.pair .str .unit)))) .unit))))) (.pair (.int .i64) (.pair (.int .i64) .unit)) true P_slices_Delete_api_Image_api_Image)), (96, (.own (.pair .str (.pair .str (.pair .str .unit))) (.pair (.int .i64) (.pair (.int .i64) .unit)) true P_slices_Delete_api_Item_api_Item)), (124, (.own (.pair .str (.pair (.slice .str) (.pair .str (.pair .str (.pair (.slice (.pair .str (.pair .str (.pair .str .unit)))) .unit))))) (.pair (.int .i64) (.pair (.slice (.pair .str (.pair (.slice .str) (.pair .str (.pair .str (.pair (.slice (.pair .str (.pair .str (.pair .str .unit)))) .unit)))))) .unit)) true P_slices_Insert_api_Image_api_Image))]
noncomputable def tys : List (Nat × Ty) := [(3, (.int .i64)), (4, .bool), (5, (.int .u8)), (9, .str), (21, (.int .i32)), (22, (.slice (.pair .str (.pair .str (.pair .str .unit))))), (24, (.slice .str)), (26, (.pair .str (.pair (.slice .str) (.pair .str (.pair .str (.pair (.slice (.pair .str (.pair .str (.pair .str .unit)))) .unit)))))), (27, (.slice (.pair .str (.pair (.slice .str) (.pair .str (.pair .str (.pair (.slice (.pair .str (.pair .str (.pair .str .unit)))) .unit))))))), (28, (.slice (.pair .str (.pair .str (.pair (.slice .str) (.pair .str (.pair (.int .i64) (.pair (.int .i64) (.pair .bool .unit))))))))), (29, (.slice (.pair .str (.pair (.slice .str) (.pair .str (.pair .str (.pair .str (.pair (.slice (.pair .str (.pair .str (.pair .str .unit)))) .unit)))))))), (31, (.pair (.int .i64) (.pair (.slice (.pair .str (.pair .str (.pair (.slice .str) (.pair .str (.pair (.int .i64) (.pair (.int .i64) (.pair .bool .unit)))))))) (.pair (.slice (.pair .str (.pair (.slice .str) (.pair .str (.pair .str (.pair (.slice (.pair .str (.pair .str (.pair .str .unit)))) .unit)))))) (.pair (.slice (.pair .str (.pair (.slice .str) (.pair .str (.pair .str (.pair .str (.pair (.slice (.pair .str (.pair .str (.pair .str .unit)))) .unit))))))) .unit))))), (33, (.int .i64)), (41, (.pair .str (.pair .str (.pair .str .unit)))), (43, (.slice (.pair .str (.pair (.int .i64) .unit)))), (45, (.pair (.slice (.pair .str (.pair (.slice .str) (.pair .str (.pair .str (.pair .str (.pair (.slice (.pair .str (.pair .str (.pair .str .unit)))) .unit))))))) (.pair (.slice (.pair .str (.pair (.slice .str) (.pair .str (.pair .str (.pair (.slice (.pair .str (.pair .str (.pair .str .unit)))) .unit)))))) (.pair (.slice (.pair .str (.pair .str (.pair (.slice .str) (.pair .str (.pair (.int .i64) (.pair (.int .i64) (.pair .bool .unit)))))))) (.pair (.slice .str) (.pair (.slice (.pair .str (.pair (.int .i64) .unit))) .unit)))))), (46, (.arr 2 .str)), (49, (.pair (.int .i64) (.pair .str (.pair (.int .i64) (.pair .str .unit))))), (60, (.pair .str (.pair .str (.pair (.slice .str) (.pair .str (.pair (.int .i64) (.pair (.int .i64) (.pair .bool .unit)))))))), (62, (.pair .str (.pair (.slice .str) (.pair .str (.pair .str (.pair .str (.pair (.slice (.pair .str (.pair .str (.pair .str .unit)))) .unit))))))), (72, (.pair .str (.pair (.int .i64) .unit))), (76, (.slice (.pair .str (.pair (.slice .str) .unit)))), (97, (.arr 32 (.int .u8))), (99, (.slice (.int .u8))), (100, (.arr 4 (.int .i64))), (107, (.slice (.pair .str (.pair (.int .i64) (.pair (.int .i64) (.pair .str (.pair .str .unit))))))), (114, (.pair .str (.pair (.slice .str) .unit))), (130, (.arr 256 .bool)), (137, (.int .u32)), (138, (.arr 8 (.int .u32))), (140, (.pair .bool (.pair (.arr 8 (.int .u32)) .unit))), (141, (.arr 64 (.int .u8))), (143, (.pair (.pair .bool (.pair (.arr 8 (.int .u32)) .unit)) (.pair (.arr 64 (.int .u8)) (.pair (.int .i64) .unit)))), (152, (.int .u64)), (159, (.slice (.pair (.pair .str (.pair (.int .i64) (.pair (.int .i64) (.pair (.int .i64) (.pair (.int .i64) (.pair (.int .i64) (.pair (.int .i64) (.pair .str .unit)))))))) (.pair .str .unit)))), (178, (.int .u64)), (179, (.arr 8 (.int .u8))), (181, (.arr 64 (.int .u32))), (192, (.pair .str (.pair (.int .i64) (.pair (.int .i64) (.pair (.int .i64) (.pair (.int .i64) (.pair (.int .i64) (.pair (.int .i64) (.pair .str .unit))))))))), (194, (.pair (.pair .str (.pair (.int .i64) (.pair (.int .i64) (.pair (.int .i64) (.pair (.int .i64) (.pair (.int .i64) (.pair (.int .i64) (.pair .str .unit)))))))) (.pair .str .unit))), (197, (.int .i64)), (224, (.pair .str (.pair (.int .i64) (.pair (.int .i64) (.pair .str (.pair .str .unit)))))), (228, (.int .u64)), (234, (.arr 256 (.int .u8))), (236, (.pair (.int .u8) (.pair (.int .u8) .unit))), (237, (.arr 16 (.pair (.int .u8) (.pair (.int .u8) .unit))))]
noncomputable def funs : List (Nat × Func) := [(3, Tryz.f3), (5, Tryz.f5), (6, Tryz.f6), (7, Tryz.f7), (8, Tryz.f8), (9, Tryz.f9), (10, Tryz.f10), (11, Tryz.f11), (12, Tryz.f12), (15, Tryz.f15), (16, Tryz.f16), (18, Tryz.f18), (19, Tryz.f19), (20, Tryz.f20), (21, Tryz.f21), (22, Tryz.f22), (23, Tryz.f23), (24, Tryz.f24), (25, Tryz.f25), (26, Tryz.f26), (27, Tryz.f27), (28, Tryz.f28), (33, Tryz.f33), (34, Tryz.f34), (35, Tryz.f35), (36, Tryz.f36), (37, Tryz.f37), (38, Tryz.f38), (39, Tryz.f39), (40, Tryz.f40), (41, Tryz.f41), (42, Tryz.f42), (43, Tryz.f43), (49, Tryz.f49), (50, Tryz.f50), (51, Tryz.f51), (52, Tryz.f52), (53, Tryz.f53), (54, Tryz.f54), (55, Tryz.f55), (56, Tryz.f56), (58, Tryz.f58), (59, Tryz.f59), (60, Tryz.f60), (61, Tryz.f61), (71, Tryz.f71), (72, Tryz.f72), (73, Tryz.f73), (74, Tryz.f74), (75, Tryz.f75), (76, Tryz.f76), (77, Tryz.f77), (78, Tryz.f78), (79, Tryz.f79), (80, Tryz.f80), (81, Tryz.f81), (82, Tryz.f82), (83, Tryz.f83), (84, Tryz.f84), (86, Tryz.f86), (87, Tryz.f87), (88, Tryz.f88), (89, Tryz.f89), (90, Tryz.f90), (91, Tryz.f91), (92, Tryz.f92), (93, Tryz.f93), (99, Tryz.f99), (100, Tryz.f100), (101, Tryz.f101), (103, Tryz.f103), (104, Tryz.f104), (105, Tryz.f105), (106, Tryz.f106), (117, Tryz.f117), (118, Tryz.f118), (119, Tryz.f119), (120, Tryz.f120), (121, Tryz.f121), (122, Tryz.f122), (123, Tryz.f123), (125, Tryz.f125), (126, Tryz.f126), (127, Tryz.f127), (132, Tryz.f132), (134, Tryz.f134), (135, Tryz.f135), (158, Tryz.f158), (159, Tryz.f159), (160, Tryz.f160), (161, Tryz.f161), (188, Tryz.f188)]
def ones : List Nat := [63, 65, 81, 83, 94, 102, 119, 134, 146, 169, 176, 180, 209, 232, 248]
def ptrs : List Nat := [134, 146, 176, 180, 209, 232, 248]
noncomputable def cxOf (con : List (Nat × Con)) (rcon : List (Nat × RCon)) (inv : List (String × Con) := []) : Ctx := ⟨tys, ones, ptrs, funs, con, rcon, objs, spc, els, inv⟩

theorem mix : Tryz.prog.follows .mixedOrders = true := by kernel_rfl

theorem T_ok : ∀ tid t, find tys tid = some t → Den Tryz.prog t tid := tys_ok (by kernel_rfl)
theorem ones_ok : ∀ tid, memN ones tid = true → (∀ w, (isAgg tid).run Tryz.prog w = .ok false w) ∧ (∀ w, (Go.sizeOf tid).run Tryz.prog w = .ok 1 w) ∧ ∃ z, (∀ w, (zeroValue tid).run Tryz.prog w = .ok z w) ∧ z.oneCell' = true := ones_of (by kernel_rfl)
theorem ptrs_ok : ∀ tid, memN ptrs tid = true → ∃ e, Tryz.prog.underlying tid = some (.pointer e) := ptrs_of (by kernel_rfl)
theorem fns_ok : ∀ f fn, find funs f = some fn → Tryz.prog.funcs[f]? = some fn := fns_of ((fns_cons Tryz.func3 (fns_cons Tryz.func5 (fns_cons Tryz.func6 (fns_cons Tryz.func7 (fns_cons Tryz.func8 (fns_cons Tryz.func9 (fns_cons Tryz.func10 (fns_cons Tryz.func11 (fns_cons Tryz.func12 (fns_cons Tryz.func15 (fns_cons Tryz.func16 (fns_cons Tryz.func18 (fns_cons Tryz.func19 (fns_cons Tryz.func20 (fns_cons Tryz.func21 (fns_cons Tryz.func22 (fns_cons Tryz.func23 (fns_cons Tryz.func24 (fns_cons Tryz.func25 (fns_cons Tryz.func26 (fns_cons Tryz.func27 (fns_cons Tryz.func28 (fns_cons Tryz.func33 (fns_cons Tryz.func34 (fns_cons Tryz.func35 (fns_cons Tryz.func36 (fns_cons Tryz.func37 (fns_cons Tryz.func38 (fns_cons Tryz.func39 (fns_cons Tryz.func40 (fns_cons Tryz.func41 (fns_cons Tryz.func42 (fns_cons Tryz.func43 (fns_cons Tryz.func49 (fns_cons Tryz.func50 (fns_cons Tryz.func51 (fns_cons Tryz.func52 (fns_cons Tryz.func53 (fns_cons Tryz.func54 (fns_cons Tryz.func55 (fns_cons Tryz.func56 (fns_cons Tryz.func58 (fns_cons Tryz.func59 (fns_cons Tryz.func60 (fns_cons Tryz.func61 (fns_cons Tryz.func71 (fns_cons Tryz.func72 (fns_cons Tryz.func73 (fns_cons Tryz.func74 (fns_cons Tryz.func75 (fns_cons Tryz.func76 (fns_cons Tryz.func77 (fns_cons Tryz.func78 (fns_cons Tryz.func79 (fns_cons Tryz.func80 (fns_cons Tryz.func81 (fns_cons Tryz.func82 (fns_cons Tryz.func83 (fns_cons Tryz.func84 (fns_cons Tryz.func86 (fns_cons Tryz.func87 (fns_cons Tryz.func88 (fns_cons Tryz.func89 (fns_cons Tryz.func90 (fns_cons Tryz.func91 (fns_cons Tryz.func92 (fns_cons Tryz.func93 (fns_cons Tryz.func99 (fns_cons Tryz.func100 (fns_cons Tryz.func101 (fns_cons Tryz.func103 (fns_cons Tryz.func104 (fns_cons Tryz.func105 (fns_cons Tryz.func106 (fns_cons Tryz.func117 (fns_cons Tryz.func118 (fns_cons Tryz.func119 (fns_cons Tryz.func120 (fns_cons Tryz.func121 (fns_cons Tryz.func122 (fns_cons Tryz.func123 (fns_cons Tryz.func125 (fns_cons Tryz.func126 (fns_cons Tryz.func127 (fns_cons Tryz.func132 (fns_cons Tryz.func134 (fns_cons Tryz.func135 (fns_cons Tryz.func158 (fns_cons Tryz.func159 (fns_cons Tryz.func160 (fns_cons Tryz.func161 (fns_cons Tryz.func188 fns_nil)))))))))))))))))))))))))))))))))))))))))))))))))))))))))))))))))))))))))))))))))))))))))))))
theorem objs_ok : ∀ tid fs, find objs tid = some fs → objB Tryz.prog tid fs = true := objs_of (by kernel_rfl)
theorem els_ok : ∀ tid e, find els tid = some e → Tryz.prog.underlying tid = some (.slice e) := els_of (by kernel_rfl)
theorem cx_ok (con : List (Nat × Con)) (rcon : List (Nat × RCon)) (inv : List (String × Con) := []) : CxOk Tryz.prog (cxOf con rcon inv) := ⟨T_ok, ones_ok, ptrs_ok, fns_ok, objs_ok, els_ok⟩
noncomputable def cx0 : Ctx := ⟨tys, ones, ptrs, funs, [], [], objs, [], els, []⟩
theorem cx0_ok : CxOk Tryz.prog cx0 := ⟨T_ok, ones_ok, ptrs_ok, fns_ok, objs_ok, els_ok⟩
theorem s_slices_Clone_string_string : SpcOk Tryz.prog 50 (.clone .str) := by
  refine clone_own (P := Tryz.prog) (cx := cx0) (bf := [2, 5]) (e := .str) (tid := 24) (fn := Tryz.f50) (s0 := fun l => ((argSt (fun _ => none) [.data (.slice .str) l]).setBox 2 { val := .data (.slice .str) ([] : List (.str : Ty).den), tid := 0, buf := true, ro := false, lk := false, ver := 0 }).put 2 (.whole 2 0)) mix cx0_ok (conOk_of con_nil rcon_nil spc_nil inv_nil) Tryz.func50 (by kernel_rfl)
    (by rfl) rfl (by decide) (by decide) rfl rfl rfl rfl rfl rfl (fun l => by rfl) (fun l => rfl) (fun l => rfl) (fun l => rfl) (fun l => by rfl) (fun l hl => ?_)
  have key : ∀ m : List (.str : Ty).den, fits (len m) = true → sel (fits (plus (len ([] : List (.str : Ty).den)) (len m))) (some (app [] m)) none = some m := by
    intro m hm
    have e : plus (len ([] : List (.str : Ty).den)) (len m) = len m := by simp [plus, len]
    rw [e, hm]
    rfl
  exact Eq.trans (b := sel (fits (plus (len ([] : List (.str : Ty).den)) (len (α := (.str : Ty).den) l))) (some (app (α := (.str : Ty).den) [] l)) none) (by rfl) (key l hl)
theorem s_slices_Clone_api_Item_api_Item : SpcOk Tryz.prog 51 (.clone (.pair .str (.pair .str (.pair .str .unit)))) := by
  refine clone_own (P := Tryz.prog) (cx := cx0) (bf := [2, 5]) (e := (.pair .str (.pair .str (.pair .str .unit)))) (tid := 22) (fn := Tryz.f51) (s0 := fun l => ((argSt (fun _ => none) [.data (.slice (.pair .str (.pair .str (.pair .str .unit)))) l]).setBox 2 { val := .data (.slice (.pair .str (.pair .str (.pair .str .unit)))) ([] : List ((.pair .str (.pair .str (.pair .str .unit))) : Ty).den), tid := 0, buf := true, ro := false, lk := false, ver := 0 }).put 2 (.whole 2 0)) mix cx0_ok (conOk_of con_nil rcon_nil spc_nil inv_nil) Tryz.func51 (by kernel_rfl)
    (by rfl) rfl (by decide) (by decide) rfl rfl rfl rfl rfl rfl (fun l => by rfl) (fun l => rfl) (fun l => rfl) (fun l => rfl) (fun l => by rfl) (fun l hl => ?_)
  have key : ∀ m : List ((.pair .str (.pair .str (.pair .str .unit))) : Ty).den, fits (len m) = true → sel (fits (plus (len ([] : List ((.pair .str (.pair .str (.pair .str .unit))) : Ty).den)) (len m))) (some (app [] m)) none = some m := by
    intro m hm
    have e : plus (len ([] : List ((.pair .str (.pair .str (.pair .str .unit))) : Ty).den)) (len m) = len m := by simp [plus, len]
    rw [e, hm]
    rfl
  exact Eq.trans (b := sel (fits (plus (len ([] : List ((.pair .str (.pair .str (.pair .str .unit))) : Ty).den)) (len (α := ((.pair .str (.pair .str (.pair .str .unit))) : Ty).den) l))) (some (app (α := ((.pair .str (.pair .str (.pair .str .unit))) : Ty).den) [] l)) none) (by rfl) (key l hl)
theorem s_slices_Clone_api_Image_api_Image : SpcOk Tryz.prog 83 (.clone (.pair .str (.pair (.slice .str) (.pair .str (.pair .str (.pair (.slice (.pair .str (.pair .str (.pair .str .unit)))) .unit)))))) := by
  refine clone_own (P := Tryz.prog) (cx := cx0) (bf := [2, 5]) (e := (.pair .str (.pair (.slice .str) (.pair .str (.pair .str (.pair (.slice (.pair .str (.pair .str (.pair .str .unit)))) .unit)))))) (tid := 27) (fn := Tryz.f83) (s0 := fun l => ((argSt (fun _ => none) [.data (.slice (.pair .str (.pair (.slice .str) (.pair .str (.pair .str (.pair (.slice (.pair .str (.pair .str (.pair .str .unit)))) .unit)))))) l]).setBox 2 { val := .data (.slice (.pair .str (.pair (.slice .str) (.pair .str (.pair .str (.pair (.slice (.pair .str (.pair .str (.pair .str .unit)))) .unit)))))) ([] : List ((.pair .str (.pair (.slice .str) (.pair .str (.pair .str (.pair (.slice (.pair .str (.pair .str (.pair .str .unit)))) .unit))))) : Ty).den), tid := 0, buf := true, ro := false, lk := false, ver := 0 }).put 2 (.whole 2 0)) mix cx0_ok (conOk_of con_nil rcon_nil spc_nil inv_nil) Tryz.func83 (by kernel_rfl)
    (by rfl) rfl (by decide) (by decide) rfl rfl rfl rfl rfl rfl (fun l => by rfl) (fun l => rfl) (fun l => rfl) (fun l => rfl) (fun l => by rfl) (fun l hl => ?_)
  have key : ∀ m : List ((.pair .str (.pair (.slice .str) (.pair .str (.pair .str (.pair (.slice (.pair .str (.pair .str (.pair .str .unit)))) .unit))))) : Ty).den, fits (len m) = true → sel (fits (plus (len ([] : List ((.pair .str (.pair (.slice .str) (.pair .str (.pair .str (.pair (.slice (.pair .str (.pair .str (.pair .str .unit)))) .unit))))) : Ty).den)) (len m))) (some (app [] m)) none = some m := by
    intro m hm
    have e : plus (len ([] : List ((.pair .str (.pair (.slice .str) (.pair .str (.pair .str (.pair (.slice (.pair .str (.pair .str (.pair .str .unit)))) .unit))))) : Ty).den)) (len m) = len m := by simp [plus, len]
    rw [e, hm]
    rfl
  exact Eq.trans (b := sel (fits (plus (len ([] : List ((.pair .str (.pair (.slice .str) (.pair .str (.pair .str (.pair (.slice (.pair .str (.pair .str (.pair .str .unit)))) .unit))))) : Ty).den)) (len (α := ((.pair .str (.pair (.slice .str) (.pair .str (.pair .str (.pair (.slice (.pair .str (.pair .str (.pair .str .unit)))) .unit))))) : Ty).den) l))) (some (app (α := ((.pair .str (.pair (.slice .str) (.pair .str (.pair .str (.pair (.slice (.pair .str (.pair .str (.pair .str .unit)))) .unit))))) : Ty).den) [] l)) none) (by rfl) (key l hl)
theorem s_slices_Insert_api_Item_api_Item : SpcOk Tryz.prog 57 (.own (.pair .str (.pair .str (.pair .str .unit))) (.pair (.int .i64) (.pair (.slice (.pair .str (.pair .str (.pair .str .unit)))) .unit)) true P_slices_Insert_api_Item_api_Item) := by
  have hden : Den Tryz.prog (.pair .str (.pair .str (.pair .str .unit))) 41 := by
    show denG Tryz.prog (.pair .str (.pair .str (.pair .str .unit))) false 41 0 [] = true
    kernel_rfl
  obtain ⟨ie, ze, e1, e2, e3, e4⟩ := hden.info
  exact ins_own (e := (.pair .str (.pair .str (.pair .str .unit)))) (ρ := (⟨fun x => if x = 29 then 97 else if x = 30 then 98 else 57, fun x => if x = 24 then 22 else if x = 9 then 41 else if x = 3 then 3 else if x = 4 then 4 else 0, fun x => x⟩ : Go.Shelf.Ren)) (nm := "slices.Insert[[]cooperage/api.Item,cooperage/api.Item]") ⟨mix, Tryz.func57.trans (congrArg some (by kernel_rfl)),
    fun xs w => run_callFunc_extern (e := Extern.SlicesOverlaps.overlaps #[22, 22] #[4]) Tryz.func97 (by kernel_rfl) (by kernel_rfl) (by kernel_rfl) (by kernel_rfl) xs w,
    by kernel_rfl, by kernel_rfl, by kernel_rfl, fun w => by simp [Go.sizeOf, e1, e2] <;> kernel_rfl, by simp [e1, e2] <;> kernel_rfl⟩ (by decide) hden (by kernel_rfl) (by decide) (by decide)
theorem s_slices_Sort_string_string : SpcOk Tryz.prog 69 (.own .str .unit false P_slices_Sort_string_string) := sort_own Tryz.func69 (by kernel_rfl) (by kernel_rfl) Tryz.slices_Sort_string Tryz.slices_Sort_string_none
theorem s_slices_Compact_string_string : SpcOk Tryz.prog 70 (.own .str .unit true P_slices_Compact_string_string) := compact_own Tryz.func70 (by kernel_rfl) (by kernel_rfl) Tryz.slices_Compact_string Tryz.slices_Compact_string_empty compact_le
theorem s_slices_Delete_api_Image_api_Image : SpcOk Tryz.prog 85 (.own (.pair .str (.pair (.slice .str) (.pair .str (.pair .str (.pair (.slice (.pair .str (.pair .str (.pair .str .unit)))) .unit))))) (.pair (.int .i64) (.pair (.int .i64) .unit)) true P_slices_Delete_api_Image_api_Image) := by
  have hden : Den Tryz.prog (.pair .str (.pair (.slice .str) (.pair .str (.pair .str (.pair (.slice (.pair .str (.pair .str (.pair .str .unit)))) .unit))))) 26 := by
    show denG Tryz.prog (.pair .str (.pair (.slice .str) (.pair .str (.pair .str (.pair (.slice (.pair .str (.pair .str (.pair .str .unit)))) .unit))))) false 26 0 [] = true
    kernel_rfl
  obtain ⟨ie, ze, e1, e2, e3, e4⟩ := hden.info
  exact del_own (e := (.pair .str (.pair (.slice .str) (.pair .str (.pair .str (.pair (.slice (.pair .str (.pair .str (.pair .str .unit)))) .unit)))))) (ρ := (⟨fun x => if x = 29 then 0 else if x = 30 then 0 else 85, fun x => if x = 24 then 27 else if x = 9 then 26 else if x = 3 then 3 else if x = 4 then 4 else 0, fun x => x⟩ : Go.Shelf.Ren)) (nm := "slices.Delete[[]cooperage/api.Image,cooperage/api.Image]") (z := ze) ⟨mix, Tryz.func85.trans (congrArg some (by kernel_rfl)),
    by kernel_rfl, by kernel_rfl, by kernel_rfl, fun w => by simp [Go.sizeOf, e1, e2] <;> kernel_rfl, fun w => run_zero_of e1 e3 w⟩ (by decide) e4 (by decide)
theorem s_slices_Delete_api_Item_api_Item : SpcOk Tryz.prog 96 (.own (.pair .str (.pair .str (.pair .str .unit))) (.pair (.int .i64) (.pair (.int .i64) .unit)) true P_slices_Delete_api_Item_api_Item) := by
  have hden : Den Tryz.prog (.pair .str (.pair .str (.pair .str .unit))) 41 := by
    show denG Tryz.prog (.pair .str (.pair .str (.pair .str .unit))) false 41 0 [] = true
    kernel_rfl
  obtain ⟨ie, ze, e1, e2, e3, e4⟩ := hden.info
  exact del_own (e := (.pair .str (.pair .str (.pair .str .unit)))) (ρ := (⟨fun x => if x = 29 then 0 else if x = 30 then 0 else 96, fun x => if x = 24 then 22 else if x = 9 then 41 else if x = 3 then 3 else if x = 4 then 4 else 0, fun x => x⟩ : Go.Shelf.Ren)) (nm := "slices.Delete[[]cooperage/api.Item,cooperage/api.Item]") (z := ze) ⟨mix, Tryz.func96.trans (congrArg some (by kernel_rfl)),
    by kernel_rfl, by kernel_rfl, by kernel_rfl, fun w => by simp [Go.sizeOf, e1, e2] <;> kernel_rfl, fun w => run_zero_of e1 e3 w⟩ (by decide) e4 (by decide)
theorem s_slices_Insert_api_Image_api_Image : SpcOk Tryz.prog 124 (.own (.pair .str (.pair (.slice .str) (.pair .str (.pair .str (.pair (.slice (.pair .str (.pair .str (.pair .str .unit)))) .unit))))) (.pair (.int .i64) (.pair (.slice (.pair .str (.pair (.slice .str) (.pair .str (.pair .str (.pair (.slice (.pair .str (.pair .str (.pair .str .unit)))) .unit)))))) .unit)) true P_slices_Insert_api_Image_api_Image) := by
  have hden : Den Tryz.prog (.pair .str (.pair (.slice .str) (.pair .str (.pair .str (.pair (.slice (.pair .str (.pair .str (.pair .str .unit)))) .unit))))) 26 := by
    show denG Tryz.prog (.pair .str (.pair (.slice .str) (.pair .str (.pair .str (.pair (.slice (.pair .str (.pair .str (.pair .str .unit)))) .unit))))) false 26 0 [] = true
    kernel_rfl
  obtain ⟨ie, ze, e1, e2, e3, e4⟩ := hden.info
  exact ins_own (e := (.pair .str (.pair (.slice .str) (.pair .str (.pair .str (.pair (.slice (.pair .str (.pair .str (.pair .str .unit)))) .unit)))))) (ρ := (⟨fun x => if x = 29 then 152 else if x = 30 then 153 else 124, fun x => if x = 24 then 27 else if x = 9 then 26 else if x = 3 then 3 else if x = 4 then 4 else 0, fun x => x⟩ : Go.Shelf.Ren)) (nm := "slices.Insert[[]cooperage/api.Image,cooperage/api.Image]") ⟨mix, Tryz.func124.trans (congrArg some (by kernel_rfl)),
    fun xs w => run_callFunc_extern (e := Extern.SlicesOverlaps.overlaps #[27, 27] #[4]) Tryz.func152 (by kernel_rfl) (by kernel_rfl) (by kernel_rfl) (by kernel_rfl) xs w,
    by kernel_rfl, by kernel_rfl, by kernel_rfl, fun w => by simp [Go.sizeOf, e1, e2] <;> kernel_rfl, by simp [e1, e2] <;> kernel_rfl⟩ (by decide) hden (by kernel_rfl) (by decide) (by decide)
theorem spc_ok : ∀ p ∈ spc, SpcOk Tryz.prog p.1 p.2 := (spc_cons h_strings_Builder_String (spc_cons h_strings_Builder_copyCheck (spc_cons s_slices_Clone_string_string (spc_cons s_slices_Clone_api_Item_api_Item (spc_cons s_slices_Clone_api_Image_api_Image (spc_cons s_slices_Insert_api_Item_api_Item (spc_cons s_slices_Sort_string_string (spc_cons s_slices_Compact_string_string (spc_cons s_slices_Delete_api_Image_api_Image (spc_cons s_slices_Delete_api_Item_api_Item (spc_cons s_slices_Insert_api_Image_api_Image spc_nil)))))))))))
theorem funs_ok (con : List (Nat × Con)) (rcon : List (Nat × RCon)) (inv : List (String × Con) := []) : FnsOk (cxOf con rcon inv) := fnsOk_of (cx := cxOf con rcon inv) (show (funs.all fun p => fnOk p.2) = true by kernel_rfl)

def glob : Globs := noGlobs
theorem holds_at {con : List (Nat × Con)} {rcon : List (Nat × RCon)} {inv : List (String × Con)} (hcon : ∀ p ∈ con, Holds Tryz.prog glob p.1 p.2) (hrcon : ∀ p ∈ rcon, RHolds Tryz.prog glob p.1 p.2) (hinv : ∀ p ∈ inv, IHolds Tryz.prog glob p.1 p.2) {f : Nat} {fn : Func} {A R : Ty} {spec : A.den → Option R.den} (hfn : find funs f = some fn) (hb : fn.body.isSome = true)
    (hs : ∀ x, sem (cxOf con rcon inv) 12 plans f A R x = spec x) : Holds Tryz.prog glob f ⟨A, R, spec⟩ := by
  obtain ⟨code, hcode⟩ := Option.isSome_iff_exists.1 hb
  exact holds_of_sem mix (cx_ok con rcon inv) (conOk_of hcon hrcon spc_ok hinv) (funs_ok con rcon inv) (f := f) hfn hcode (fun x y h => by rw [hs]; exact h)

theorem rholds_at {con : List (Nat × Con)} {rcon : List (Nat × RCon)} {inv : List (String × Con)} (hcon : ∀ p ∈ con, Holds Tryz.prog glob p.1 p.2) (hrcon : ∀ p ∈ rcon, RHolds Tryz.prog glob p.1 p.2) (hinv : ∀ p ∈ inv, IHolds Tryz.prog glob p.1 p.2) {f : Nat} {fn : Func} {ps : List Bool} {A U R : Ty} {spec : A.den × U.den → Option (R.den × U.den)} (hfn : find funs f = some fn) (hb : fn.body.isSome = true)
    (hs : ∀ x, semR (cxOf con rcon inv) 12 plans f ps A U R x = spec x) : RHolds Tryz.prog glob f ⟨ps, A, U, R, spec⟩ := by
  obtain ⟨code, hcode⟩ := Option.isSome_iff_exists.1 hb
  exact rholds_of_sem mix (cx_ok con rcon inv) (conOk_of hcon hrcon spc_ok hinv) (funs_ok con rcon inv) (f := f) hfn hcode (fun x y h => by rw [hs]; exact h)

noncomputable def c_ref06_few : Con := ⟨(.pair (.slice .str) .unit), (.pair .bool .unit), P_ref06_few⟩
theorem h_ref06_few : Holds Tryz.prog glob 20 c_ref06_few := holds_at (con := []) (rcon := []) (inv := []) (con_nil) (rcon_nil) (inv_nil) (fn := Tryz.f20) rfl (by kernel_rfl) (fun x => by kernel_rfl)
noncomputable def c_ref06_fewItems : Con := ⟨(.pair (.slice (.pair .str (.pair .str (.pair .str .unit)))) .unit), (.pair .bool .unit), P_ref06_fewItems⟩
theorem h_ref06_fewItems : Holds Tryz.prog glob 21 c_ref06_fewItems := holds_at (con := []) (rcon := []) (inv := []) (con_nil) (rcon_nil) (inv_nil) (fn := Tryz.f21) rfl (by kernel_rfl) (fun x => by kernel_rfl)
noncomputable def c_ref06_Few : Con := ⟨(.pair (.pair (.int .i64) (.pair (.slice (.pair .str (.pair .str (.pair (.slice .str) (.pair .str (.pair (.int .i64) (.pair (.int .i64) (.pair .bool .unit)))))))) (.pair (.slice (.pair .str (.pair (.slice .str) (.pair .str (.pair .str (.pair (.slice (.pair .str (.pair .str (.pair .str .unit)))) .unit)))))) (.pair (.slice (.pair .str (.pair (.slice .str) (.pair .str (.pair .str (.pair .str (.pair (.slice (.pair .str (.pair .str (.pair .str .unit)))) .unit))))))) .unit)))) .unit), (.pair .bool .unit), P_ref06_Few⟩
theorem h_ref06_Few : Holds Tryz.prog glob 5 c_ref06_Few := holds_at (con := [(20, c_ref06_few), (21, c_ref06_fewItems)]) (rcon := []) (inv := []) ((con_cons h_ref06_few (con_cons h_ref06_fewItems con_nil))) (rcon_nil) (inv_nil) (fn := Tryz.f5) rfl (by kernel_rfl) (fun x => by kernel_rfl)
noncomputable def c_strings_trimLeftByte : Con := ⟨(.pair .str (.pair (.int .u8) .unit)), (.pair .str .unit), P_strings_trimLeftByte⟩
theorem h_strings_trimLeftByte : Holds Tryz.prog glob 89 c_strings_trimLeftByte := holds_at (con := []) (rcon := []) (inv := []) (con_nil) (rcon_nil) (inv_nil) (fn := Tryz.f89) rfl (by kernel_rfl) (fun x => by kernel_rfl)
noncomputable def c_strings_trimRightByte : Con := ⟨(.pair .str (.pair (.int .u8) .unit)), (.pair .str .unit), P_strings_trimRightByte⟩
theorem h_strings_trimRightByte : Holds Tryz.prog glob 90 c_strings_trimRightByte := holds_at (con := []) (rcon := []) (inv := []) (con_nil) (rcon_nil) (inv_nil) (fn := Tryz.f90) rfl (by kernel_rfl) (fun x => by kernel_rfl)
noncomputable def c_strings_makeASCIISet : Con := ⟨(.pair .str .unit), (.pair (.arr 256 .bool) (.pair .bool .unit)), P_strings_makeASCIISet⟩
theorem h_strings_makeASCIISet : Holds Tryz.prog glob 91 c_strings_makeASCIISet := holds_at (con := []) (rcon := []) (inv := []) (con_nil) (rcon_nil) (inv_nil) (fn := Tryz.f91) rfl (by kernel_rfl) (fun x => by kernel_rfl)
noncomputable def c_strings_asciiSet_contains : RCon := ⟨[true, false], (.pair (.int .u8) .unit), (.pair (.arr 256 .bool) .unit), (.pair .bool .unit), P_strings_asciiSet_contains⟩
theorem h_strings_asciiSet_contains : RHolds Tryz.prog glob 127 c_strings_asciiSet_contains := rholds_at (con := []) (rcon := []) (inv := []) (con_nil) (rcon_nil) (inv_nil) (fn := Tryz.f127) rfl (by kernel_rfl) (fun x => by kernel_rfl)
noncomputable def c_strings_trimLeftASCII : RCon := ⟨[false, true], (.pair .str .unit), (.pair (.arr 256 .bool) .unit), (.pair .str .unit), P_strings_trimLeftASCII⟩
theorem h_strings_trimLeftASCII : RHolds Tryz.prog glob 92 c_strings_trimLeftASCII := rholds_at (con := []) (rcon := [(127, c_strings_asciiSet_contains)]) (inv := []) (con_nil) ((rcon_cons h_strings_asciiSet_contains rcon_nil)) (inv_nil) (fn := Tryz.f92) rfl (by kernel_rfl) (fun x => by kernel_rfl)
noncomputable def c_strings_trimRightASCII : RCon := ⟨[false, true], (.pair .str .unit), (.pair (.arr 256 .bool) .unit), (.pair .str .unit), P_strings_trimRightASCII⟩
theorem h_strings_trimRightASCII : RHolds Tryz.prog glob 93 c_strings_trimRightASCII := rholds_at (con := []) (rcon := [(127, c_strings_asciiSet_contains)]) (inv := []) (con_nil) ((rcon_cons h_strings_asciiSet_contains rcon_nil)) (inv_nil) (fn := Tryz.f93) rfl (by kernel_rfl) (fun x => by kernel_rfl)
noncomputable def c_strings_Trim : Con := ⟨(.pair .str (.pair .str .unit)), (.pair .str .unit), P_strings_Trim⟩
theorem h_strings_Trim : Holds Tryz.prog glob 52 c_strings_Trim := holds_at (con := [(89, c_strings_trimLeftByte), (90, c_strings_trimRightByte), (91, c_strings_makeASCIISet)]) (rcon := [(92, c_strings_trimLeftASCII), (93, c_strings_trimRightASCII), (127, c_strings_asciiSet_contains)]) (inv := []) ((con_cons h_strings_trimLeftByte (con_cons h_strings_trimRightByte (con_cons h_strings_makeASCIISet con_nil)))) ((rcon_cons h_strings_trimLeftASCII (rcon_cons h_strings_trimRightASCII (rcon_cons h_strings_asciiSet_contains rcon_nil)))) (inv_nil) (fn := Tryz.f52) rfl (by kernel_rfl) (fun x => by kernel_rfl)
noncomputable def c_record_IsName : Con := ⟨(.pair .str .unit), (.pair .bool .unit), P_record_IsName⟩
theorem h_record_IsName : Holds Tryz.prog glob 22 c_record_IsName := holds_at (con := [(52, c_strings_Trim)]) (rcon := []) (inv := []) ((con_cons h_strings_Trim con_nil)) (rcon_nil) (inv_nil) (fn := Tryz.f22) rfl (by kernel_rfl) (fun x => by kernel_rfl)
noncomputable def c_images_key : Con := ⟨(.pair (.pair .str (.pair .str (.pair .str .unit))) .unit), (.pair .str .unit), P_images_key⟩
theorem h_images_key : Holds Tryz.prog glob 24 c_images_key := holds_at (con := []) (rcon := []) (inv := []) (con_nil) (rcon_nil) (inv_nil) (fn := Tryz.f24) rfl (by kernel_rfl) (fun x => by kernel_rfl)
noncomputable def c_sha_begin : Con := ⟨.unit, (.pair (.arr 8 (.int .u32)) .unit), P_sha_begin⟩
theorem h_sha_begin : Holds Tryz.prog glob 158 c_sha_begin := holds_at (con := []) (rcon := []) (inv := []) (con_nil) (rcon_nil) (inv_nil) (fn := Tryz.f158) rfl (by kernel_rfl) (fun x => by kernel_rfl)
noncomputable def c_sha_round : Con := ⟨.unit, (.pair (.arr 64 (.int .u32)) .unit), P_sha_round⟩
theorem h_sha_round : Holds Tryz.prog glob 159 c_sha_round := holds_at (con := []) (rcon := []) (inv := []) (con_nil) (rcon_nil) (inv_nil) (fn := Tryz.f159) rfl (by kernel_rfl) (fun x => by kernel_rfl)
noncomputable def c_math_bits_RotateLeft32 : Con := ⟨(.pair (.int .u32) (.pair (.int .i64) .unit)), (.pair (.int .u32) .unit), P_math_bits_RotateLeft32⟩
theorem h_math_bits_RotateLeft32 : Holds Tryz.prog glob 188 c_math_bits_RotateLeft32 := holds_at (con := []) (rcon := []) (inv := []) (con_nil) (rcon_nil) (inv_nil) (fn := Tryz.f188) rfl (by kernel_rfl) (fun x => by kernel_rfl)
noncomputable def c_sha_right : Con := ⟨(.pair (.int .u32) (.pair (.int .i64) .unit)), (.pair (.int .u32) .unit), P_sha_right⟩
theorem h_sha_right : Holds Tryz.prog glob 161 c_sha_right := holds_at (con := [(188, c_math_bits_RotateLeft32)]) (rcon := []) (inv := []) ((con_cons h_math_bits_RotateLeft32 con_nil)) (rcon_nil) (inv_nil) (fn := Tryz.f161) rfl (by kernel_rfl) (fun x => by kernel_rfl)
noncomputable def c_sha_schedule : Con := ⟨(.pair (.arr 64 (.int .u8)) .unit), (.pair (.arr 64 (.int .u32)) .unit), P_sha_schedule⟩
theorem h_sha_schedule : Holds Tryz.prog glob 160 c_sha_schedule := holds_at (con := [(161, c_sha_right)]) (rcon := []) (inv := []) ((con_cons h_sha_right con_nil)) (rcon_nil) (inv_nil) (fn := Tryz.f160) rfl (by kernel_rfl) (fun x => by kernel_rfl)
noncomputable def c_sha_words_block : RCon := ⟨[true, false], (.pair (.arr 64 (.int .u8)) .unit), (.pair (.pair .bool (.pair (.arr 8 (.int .u32)) .unit)) .unit), .unit, P_sha_words_block⟩
theorem h_sha_words_block : RHolds Tryz.prog glob 132 c_sha_words_block := rholds_at (con := [(158, c_sha_begin), (159, c_sha_round), (160, c_sha_schedule), (161, c_sha_right)]) (rcon := []) (inv := []) ((con_cons h_sha_begin (con_cons h_sha_round (con_cons h_sha_schedule (con_cons h_sha_right con_nil))))) (rcon_nil) (inv_nil) (fn := Tryz.f132) rfl (by kernel_rfl) (fun x => by kernel_rfl)
noncomputable def c_sha_Stream_Add : RCon := ⟨[true, false], (.pair .str .unit), (.pair (.pair (.pair .bool (.pair (.arr 8 (.int .u32)) .unit)) (.pair (.arr 64 (.int .u8)) (.pair (.int .i64) .unit))) .unit), .unit, P_sha_Stream_Add⟩
theorem h_sha_Stream_Add : RHolds Tryz.prog glob 99 c_sha_Stream_Add := rholds_at (con := [(158, c_sha_begin), (159, c_sha_round), (160, c_sha_schedule), (161, c_sha_right)]) (rcon := [(132, c_sha_words_block)]) (inv := []) ((con_cons h_sha_begin (con_cons h_sha_round (con_cons h_sha_schedule (con_cons h_sha_right con_nil))))) ((rcon_cons h_sha_words_block rcon_nil)) (inv_nil) (fn := Tryz.f99) rfl (by kernel_rfl) (fun x => by kernel_rfl)
noncomputable def c_sha_Stream_Sum : RCon := ⟨[true], .unit, (.pair (.pair (.pair .bool (.pair (.arr 8 (.int .u32)) .unit)) (.pair (.arr 64 (.int .u8)) (.pair (.int .i64) .unit))) .unit), (.pair (.arr 32 (.int .u8)) .unit), P_sha_Stream_Sum⟩
theorem h_sha_Stream_Sum : RHolds Tryz.prog glob 100 c_sha_Stream_Sum := rholds_at (con := [(158, c_sha_begin), (159, c_sha_round), (160, c_sha_schedule), (161, c_sha_right)]) (rcon := [(99, c_sha_Stream_Add), (132, c_sha_words_block)]) (inv := []) ((con_cons h_sha_begin (con_cons h_sha_round (con_cons h_sha_schedule (con_cons h_sha_right con_nil))))) ((rcon_cons h_sha_Stream_Add (rcon_cons h_sha_words_block rcon_nil))) (inv_nil) (fn := Tryz.f100) rfl (by kernel_rfl) (fun x => by kernel_rfl)
noncomputable def c_sha_Sum : Con := ⟨(.pair .str .unit), (.pair (.arr 32 (.int .u8)) .unit), P_sha_Sum⟩
theorem h_sha_Sum : Holds Tryz.prog glob 58 c_sha_Sum := holds_at (con := [(158, c_sha_begin), (159, c_sha_round), (160, c_sha_schedule), (161, c_sha_right)]) (rcon := [(99, c_sha_Stream_Add), (100, c_sha_Stream_Sum), (132, c_sha_words_block)]) (inv := []) ((con_cons h_sha_begin (con_cons h_sha_round (con_cons h_sha_schedule (con_cons h_sha_right con_nil))))) ((rcon_cons h_sha_Stream_Add (rcon_cons h_sha_Stream_Sum (rcon_cons h_sha_words_block rcon_nil)))) (inv_nil) (fn := Tryz.f58) rfl (by kernel_rfl) (fun x => by kernel_rfl)
noncomputable def c_digits_Hex : Con := ⟨(.pair .str .unit), (.pair .str .unit), P_digits_Hex⟩
theorem h_digits_Hex : Holds Tryz.prog glob 59 c_digits_Hex := holds_at (con := []) (rcon := []) (inv := []) (con_nil) (rcon_nil) (inv_nil) (fn := Tryz.f59) rfl (by kernel_rfl) (fun x => by kernel_rfl)
noncomputable def c_digest_Of : Con := ⟨(.pair .str .unit), (.pair .str .unit), P_digest_Of⟩
theorem h_digest_Of : Holds Tryz.prog glob 26 c_digest_Of := holds_at (con := [(58, c_sha_Sum), (59, c_digits_Hex)]) (rcon := []) (inv := []) ((con_cons h_sha_Sum (con_cons h_digits_Hex con_nil))) (rcon_nil) (inv_nil) (fn := Tryz.f26) rfl (by kernel_rfl) (fun x => by kernel_rfl)
noncomputable def c_slices_Clone_api_Item_api_Item : Con := ⟨(.pair (.slice (.pair .str (.pair .str (.pair .str .unit)))) .unit), (.pair (.slice (.pair .str (.pair .str (.pair .str .unit)))) .unit), P_slices_Clone_api_Item_api_Item⟩
theorem h_slices_Clone_api_Item_api_Item : Holds Tryz.prog glob 51 c_slices_Clone_api_Item_api_Item := by
  refine clone_holds (P := Tryz.prog) (cx := cxOf [] []) (bf := [5]) (e := (.pair .str (.pair .str (.pair .str .unit)))) (tid := 22) (fn := Tryz.f51) (s0 := fun l => (argSt (fun _ => none) [.data (.slice (.pair .str (.pair .str (.pair .str .unit)))) l]).put 2 (.data (.slice (.pair .str (.pair .str (.pair .str .unit)))) ([] : List ((.pair .str (.pair .str (.pair .str .unit))) : Ty).den))) mix (cx_ok [] []) (conOk_of con_nil rcon_nil spc_ok inv_nil) Tryz.func51 (by kernel_rfl)
    (by rfl) rfl (by decide) (by decide) rfl rfl rfl rfl rfl rfl (fun l => by rfl) (fun l => rfl) (fun l => rfl) (fun l => rfl) (fun l => by rfl) (fun l hl => ?_)
  have key : ∀ m : List ((.pair .str (.pair .str (.pair .str .unit))) : Ty).den, fits (len m) = true → sel (fits (plus (len ([] : List ((.pair .str (.pair .str (.pair .str .unit))) : Ty).den)) (len m))) (some ((app [] m, ()) : (Ty.pair (.slice (.pair .str (.pair .str (.pair .str .unit)))) .unit).den)) none = some (m, ()) := by
    intro m hm
    have e : plus (len ([] : List ((.pair .str (.pair .str (.pair .str .unit))) : Ty).den)) (len m) = len m := by simp [plus, len]
    rw [e, hm]
    rfl
  exact Eq.trans (b := sel (fits (plus (len ([] : List ((.pair .str (.pair .str (.pair .str .unit))) : Ty).den)) (len (α := ((.pair .str (.pair .str (.pair .str .unit))) : Ty).den) l))) (some ((app (α := ((.pair .str (.pair .str (.pair .str .unit))) : Ty).den) [] l, ()) : (Ty.pair (.slice (.pair .str (.pair .str (.pair .str .unit)))) .unit).den)) none) (by rfl) (key l hl)
noncomputable def c_images_PutItem : Con := ⟨(.pair (.slice (.pair .str (.pair .str (.pair .str .unit)))) (.pair .str (.pair .str .unit))), (.pair (.slice (.pair .str (.pair .str (.pair .str .unit)))) (.pair (.int .i64) .unit)), P_images_PutItem⟩
theorem h_images_PutItem : Holds Tryz.prog glob 7 c_images_PutItem := holds_at (con := [(22, c_record_IsName), (24, c_images_key), (26, c_digest_Of), (51, c_slices_Clone_api_Item_api_Item)]) (rcon := []) (inv := []) ((con_cons h_record_IsName (con_cons h_images_key (con_cons h_digest_Of (con_cons h_slices_Clone_api_Item_api_Item con_nil))))) (rcon_nil) (inv_nil) (fn := Tryz.f7) rfl (by kernel_rfl) (fun x => by kernel_rfl)
noncomputable def c_images_GetItem : Con := ⟨(.pair (.slice (.pair .str (.pair .str (.pair .str .unit)))) (.pair .str .unit)), (.pair .str (.pair (.int .i64) .unit)), P_images_GetItem⟩
theorem h_images_GetItem : Holds Tryz.prog glob 9 c_images_GetItem := holds_at (con := [(24, c_images_key)]) (rcon := []) (inv := []) ((con_cons h_images_key con_nil)) (rcon_nil) (inv_nil) (fn := Tryz.f9) rfl (by kernel_rfl) (fun x => by kernel_rfl)
noncomputable def c_slices_Clone_string_string : Con := ⟨(.pair (.slice .str) .unit), (.pair (.slice .str) .unit), P_slices_Clone_string_string⟩
theorem h_slices_Clone_string_string : Holds Tryz.prog glob 50 c_slices_Clone_string_string := by
  refine clone_holds (P := Tryz.prog) (cx := cxOf [] []) (bf := [5]) (e := .str) (tid := 24) (fn := Tryz.f50) (s0 := fun l => (argSt (fun _ => none) [.data (.slice .str) l]).put 2 (.data (.slice .str) ([] : List (.str : Ty).den))) mix (cx_ok [] []) (conOk_of con_nil rcon_nil spc_ok inv_nil) Tryz.func50 (by kernel_rfl)
    (by rfl) rfl (by decide) (by decide) rfl rfl rfl rfl rfl rfl (fun l => by rfl) (fun l => rfl) (fun l => rfl) (fun l => rfl) (fun l => by rfl) (fun l hl => ?_)
  have key : ∀ m : List (.str : Ty).den, fits (len m) = true → sel (fits (plus (len ([] : List (.str : Ty).den)) (len m))) (some ((app [] m, ()) : (Ty.pair (.slice .str) .unit).den)) none = some (m, ()) := by
    intro m hm
    have e : plus (len ([] : List (.str : Ty).den)) (len m) = len m := by simp [plus, len]
    rw [e, hm]
    rfl
  exact Eq.trans (b := sel (fits (plus (len ([] : List (.str : Ty).den)) (len (α := (.str : Ty).den) l))) (some ((app (α := (.str : Ty).den) [] l, ()) : (Ty.pair (.slice .str) .unit).den)) none) (by rfl) (key l hl)
noncomputable def c_names_Check_c1 : Con := ⟨(.pair .str .unit), (.pair .bool .unit), P_names_Check_c1⟩
theorem h_names_Check_c1 : Holds Tryz.prog glob 72 c_names_Check_c1 := holds_at (con := [(22, c_record_IsName)]) (rcon := []) (inv := []) ((con_cons h_record_IsName con_nil)) (rcon_nil) (inv_nil) (fn := Tryz.f72) rfl (by kernel_rfl) (fun x => by kernel_rfl)
noncomputable def c_names_Check : Con := ⟨(.pair (.slice .str) .unit), (.pair (.int .i64) .unit), P_names_Check⟩
theorem h_names_Check : Holds Tryz.prog glob 33 c_names_Check := holds_at (con := [(50, c_slices_Clone_string_string), (72, c_names_Check_c1)]) (rcon := []) (inv := []) ((con_cons h_slices_Clone_string_string (con_cons h_names_Check_c1 con_nil))) (rcon_nil) (inv_nil) (fn := Tryz.f33) rfl (by kernel_rfl) (fun x => by kernel_rfl)
noncomputable def c_images_fault : Con := ⟨(.pair (.int .i64) .unit), (.pair (.pair (.int .i64) (.pair .str (.pair (.int .i64) (.pair .str .unit)))) .unit), P_images_fault⟩
theorem h_images_fault : Holds Tryz.prog glob 34 c_images_fault := holds_at (con := []) (rcon := []) (inv := []) (con_nil) (rcon_nil) (inv_nil) (fn := Tryz.f34) rfl (by kernel_rfl) (fun x => by kernel_rfl)
noncomputable def c_slices_Index_string_string : Con := ⟨(.pair (.slice .str) (.pair .str .unit)), (.pair (.int .i64) .unit), P_slices_Index_string_string⟩
theorem h_slices_Index_string_string : Holds Tryz.prog glob 119 c_slices_Index_string_string := holds_at (con := []) (rcon := []) (inv := []) (con_nil) (rcon_nil) (inv_nil) (fn := Tryz.f119) rfl (by kernel_rfl) (fun x => by kernel_rfl)
noncomputable def c_slices_Contains_string_string : Con := ⟨(.pair (.slice .str) (.pair .str .unit)), (.pair .bool .unit), P_slices_Contains_string_string⟩
theorem h_slices_Contains_string_string : Holds Tryz.prog glob 76 c_slices_Contains_string_string := holds_at (con := [(119, c_slices_Index_string_string)]) (rcon := []) (inv := []) ((con_cons h_slices_Index_string_string con_nil)) (rcon_nil) (inv_nil) (fn := Tryz.f76) rfl (by kernel_rfl) (fun x => by kernel_rfl)
noncomputable def c_internal_stringslite_HasPrefix : Con := ⟨(.pair .str (.pair .str .unit)), (.pair .bool .unit), P_internal_stringslite_HasPrefix⟩
theorem h_internal_stringslite_HasPrefix : Holds Tryz.prog glob 126 c_internal_stringslite_HasPrefix := holds_at (con := []) (rcon := []) (inv := []) (con_nil) (rcon_nil) (inv_nil) (fn := Tryz.f126) rfl (by kernel_rfl) (fun x => by kernel_rfl)
noncomputable def c_strings_HasPrefix : Con := ⟨(.pair .str (.pair .str .unit)), (.pair .bool .unit), P_strings_HasPrefix⟩
theorem h_strings_HasPrefix : Holds Tryz.prog glob 88 c_strings_HasPrefix := holds_at (con := [(126, c_internal_stringslite_HasPrefix)]) (rcon := []) (inv := []) ((con_cons h_internal_stringslite_HasPrefix con_nil)) (rcon_nil) (inv_nil) (fn := Tryz.f88) rfl (by kernel_rfl) (fun x => by kernel_rfl)
noncomputable def c_lookup_Find : Con := ⟨(.pair (.slice (.pair .str (.pair (.slice .str) .unit))) (.pair .str .unit)), (.pair .str (.pair (.int .i64) .unit)), P_lookup_Find⟩
theorem h_lookup_Find : Holds Tryz.prog glob 49 c_lookup_Find := holds_at (con := [(76, c_slices_Contains_string_string), (88, c_strings_HasPrefix)]) (rcon := []) (inv := []) ((con_cons h_slices_Contains_string_string (con_cons h_strings_HasPrefix con_nil))) (rcon_nil) (inv_nil) (fn := Tryz.f49) rfl (by kernel_rfl) (fun x => by kernel_rfl)
noncomputable def c_names_Of : Con := ⟨(.pair (.int .i64) (.pair (.pair (.int .i64) (.pair (.slice (.pair .str (.pair .str (.pair (.slice .str) (.pair .str (.pair (.int .i64) (.pair (.int .i64) (.pair .bool .unit)))))))) (.pair (.slice (.pair .str (.pair (.slice .str) (.pair .str (.pair .str (.pair (.slice (.pair .str (.pair .str (.pair .str .unit)))) .unit)))))) (.pair (.slice (.pair .str (.pair (.slice .str) (.pair .str (.pair .str (.pair .str (.pair (.slice (.pair .str (.pair .str (.pair .str .unit)))) .unit))))))) .unit)))) .unit)), (.pair (.slice (.pair .str (.pair (.slice .str) .unit))) .unit), P_names_Of⟩
theorem h_names_Of : Holds Tryz.prog glob 77 c_names_Of := holds_at (con := [(50, c_slices_Clone_string_string)]) (rcon := []) (inv := []) ((con_cons h_slices_Clone_string_string con_nil)) (rcon_nil) (inv_nil) (fn := Tryz.f77) rfl (by kernel_rfl) (fun x => by kernel_rfl)
noncomputable def c_layers_named : Con := ⟨(.pair (.pair (.slice (.pair .str (.pair (.slice .str) (.pair .str (.pair .str (.pair .str (.pair (.slice (.pair .str (.pair .str (.pair .str .unit)))) .unit))))))) (.pair (.slice (.pair .str (.pair (.slice .str) (.pair .str (.pair .str (.pair (.slice (.pair .str (.pair .str (.pair .str .unit)))) .unit)))))) (.pair (.slice (.pair .str (.pair .str (.pair (.slice .str) (.pair .str (.pair (.int .i64) (.pair (.int .i64) (.pair .bool .unit)))))))) (.pair (.slice .str) (.pair (.slice (.pair .str (.pair (.int .i64) .unit))) .unit))))) .unit), (.pair (.slice (.pair .str (.pair (.slice .str) .unit))) .unit), P_layers_named⟩
theorem h_layers_named : Holds Tryz.prog glob 73 c_layers_named := holds_at (con := [(77, c_names_Of)]) (rcon := []) (inv := []) ((con_cons h_names_Of con_nil)) (rcon_nil) (inv_nil) (fn := Tryz.f73) rfl (by kernel_rfl) (fun x => by kernel_rfl)
noncomputable def c_layers_Find : Con := ⟨(.pair (.pair (.slice (.pair .str (.pair (.slice .str) (.pair .str (.pair .str (.pair .str (.pair (.slice (.pair .str (.pair .str (.pair .str .unit)))) .unit))))))) (.pair (.slice (.pair .str (.pair (.slice .str) (.pair .str (.pair .str (.pair (.slice (.pair .str (.pair .str (.pair .str .unit)))) .unit)))))) (.pair (.slice (.pair .str (.pair .str (.pair (.slice .str) (.pair .str (.pair (.int .i64) (.pair (.int .i64) (.pair .bool .unit)))))))) (.pair (.slice .str) (.pair (.slice (.pair .str (.pair (.int .i64) .unit))) .unit))))) (.pair .str .unit)), (.pair .str (.pair (.int .i64) .unit)), P_layers_Find⟩
theorem h_layers_Find : Holds Tryz.prog glob 35 c_layers_Find := holds_at (con := [(49, c_lookup_Find), (73, c_layers_named)]) (rcon := []) (inv := []) ((con_cons h_lookup_Find (con_cons h_layers_named con_nil))) (rcon_nil) (inv_nil) (fn := Tryz.f35) rfl (by kernel_rfl) (fun x => by kernel_rfl)
noncomputable def c_names_find : Con := ⟨(.pair (.slice (.pair .str (.pair (.slice .str) .unit))) (.pair .str .unit)), (.pair (.int .i64) .unit), P_names_find⟩
theorem h_names_find : Holds Tryz.prog glob 74 c_names_find := holds_at (con := []) (rcon := []) (inv := []) (con_nil) (rcon_nil) (inv_nil) (fn := Tryz.f74) rfl (by kernel_rfl) (fun x => by kernel_rfl)
noncomputable def c_names_Free : Con := ⟨(.pair (.slice (.pair .str (.pair (.slice .str) .unit))) (.pair .str (.pair (.slice .str) .unit))), (.pair (.int .i64) .unit), P_names_Free⟩
theorem h_names_Free : Holds Tryz.prog glob 36 c_names_Free := holds_at (con := [(33, c_names_Check), (74, c_names_find), (76, c_slices_Contains_string_string)]) (rcon := []) (inv := []) ((con_cons h_names_Check (con_cons h_names_find (con_cons h_slices_Contains_string_string con_nil)))) (rcon_nil) (inv_nil) (fn := Tryz.f36) rfl (by kernel_rfl) (fun x => by kernel_rfl)
noncomputable def c_images_named : Con := ⟨(.pair (.pair (.slice (.pair .str (.pair (.slice .str) (.pair .str (.pair .str (.pair .str (.pair (.slice (.pair .str (.pair .str (.pair .str .unit)))) .unit))))))) (.pair (.slice (.pair .str (.pair (.slice .str) (.pair .str (.pair .str (.pair (.slice (.pair .str (.pair .str (.pair .str .unit)))) .unit)))))) (.pair (.slice (.pair .str (.pair .str (.pair (.slice .str) (.pair .str (.pair (.int .i64) (.pair (.int .i64) (.pair .bool .unit)))))))) (.pair (.slice .str) (.pair (.slice (.pair .str (.pair (.int .i64) .unit))) .unit))))) .unit), (.pair (.slice (.pair .str (.pair (.slice .str) .unit))) .unit), P_images_named⟩
theorem h_images_named : Holds Tryz.prog glob 37 c_images_named := holds_at (con := [(77, c_names_Of)]) (rcon := []) (inv := []) ((con_cons h_names_Of con_nil)) (rcon_nil) (inv_nil) (fn := Tryz.f37) rfl (by kernel_rfl) (fun x => by kernel_rfl)
noncomputable def c_lookup_id : Con := ⟨(.pair (.int .i64) .unit), (.pair .str .unit), P_lookup_id⟩
theorem h_lookup_id : Holds Tryz.prog glob 78 c_lookup_id := holds_at (con := [(59, c_digits_Hex)]) (rcon := []) (inv := []) ((con_cons h_digits_Hex con_nil)) (rcon_nil) (inv_nil) (fn := Tryz.f78) rfl (by kernel_rfl) (fun x => by kernel_rfl)
noncomputable def c_lookup_Fresh : Con := ⟨(.pair (.slice (.pair .str (.pair (.slice .str) .unit))) (.pair (.int .i64) .unit)), (.pair .str (.pair (.int .i64) .unit)), P_lookup_Fresh⟩
theorem h_lookup_Fresh : Holds Tryz.prog glob 38 c_lookup_Fresh := holds_at (con := [(78, c_lookup_id)]) (rcon := []) (inv := []) ((con_cons h_lookup_id con_nil)) (rcon_nil) (inv_nil) (fn := Tryz.f38) rfl (by kernel_rfl) (fun x => by kernel_rfl)
noncomputable def c_images_id : Con := ⟨(.pair (.pair .str (.pair (.slice .str) (.pair .str (.pair .str (.pair (.slice (.pair .str (.pair .str (.pair .str .unit)))) .unit))))) .unit), (.pair .str .unit), P_images_id⟩
theorem h_images_id : Holds Tryz.prog glob 43 c_images_id := holds_at (con := []) (rcon := []) (inv := []) (con_nil) (rcon_nil) (inv_nil) (fn := Tryz.f43) rfl (by kernel_rfl) (fun x => by kernel_rfl)
noncomputable def c_slices_Clone_api_Image_api_Image : Con := ⟨(.pair (.slice (.pair .str (.pair (.slice .str) (.pair .str (.pair .str (.pair (.slice (.pair .str (.pair .str (.pair .str .unit)))) .unit)))))) .unit), (.pair (.slice (.pair .str (.pair (.slice .str) (.pair .str (.pair .str (.pair (.slice (.pair .str (.pair .str (.pair .str .unit)))) .unit)))))) .unit), P_slices_Clone_api_Image_api_Image⟩
theorem h_slices_Clone_api_Image_api_Image : Holds Tryz.prog glob 83 c_slices_Clone_api_Image_api_Image := by
  refine clone_holds (P := Tryz.prog) (cx := cxOf [] []) (bf := [5]) (e := (.pair .str (.pair (.slice .str) (.pair .str (.pair .str (.pair (.slice (.pair .str (.pair .str (.pair .str .unit)))) .unit)))))) (tid := 27) (fn := Tryz.f83) (s0 := fun l => (argSt (fun _ => none) [.data (.slice (.pair .str (.pair (.slice .str) (.pair .str (.pair .str (.pair (.slice (.pair .str (.pair .str (.pair .str .unit)))) .unit)))))) l]).put 2 (.data (.slice (.pair .str (.pair (.slice .str) (.pair .str (.pair .str (.pair (.slice (.pair .str (.pair .str (.pair .str .unit)))) .unit)))))) ([] : List ((.pair .str (.pair (.slice .str) (.pair .str (.pair .str (.pair (.slice (.pair .str (.pair .str (.pair .str .unit)))) .unit))))) : Ty).den))) mix (cx_ok [] []) (conOk_of con_nil rcon_nil spc_ok inv_nil) Tryz.func83 (by kernel_rfl)
    (by rfl) rfl (by decide) (by decide) rfl rfl rfl rfl rfl rfl (fun l => by rfl) (fun l => rfl) (fun l => rfl) (fun l => rfl) (fun l => by rfl) (fun l hl => ?_)
  have key : ∀ m : List ((.pair .str (.pair (.slice .str) (.pair .str (.pair .str (.pair (.slice (.pair .str (.pair .str (.pair .str .unit)))) .unit))))) : Ty).den, fits (len m) = true → sel (fits (plus (len ([] : List ((.pair .str (.pair (.slice .str) (.pair .str (.pair .str (.pair (.slice (.pair .str (.pair .str (.pair .str .unit)))) .unit))))) : Ty).den)) (len m))) (some ((app [] m, ()) : (Ty.pair (.slice (.pair .str (.pair (.slice .str) (.pair .str (.pair .str (.pair (.slice (.pair .str (.pair .str (.pair .str .unit)))) .unit)))))) .unit).den)) none = some (m, ()) := by
    intro m hm
    have e : plus (len ([] : List ((.pair .str (.pair (.slice .str) (.pair .str (.pair .str (.pair (.slice (.pair .str (.pair .str (.pair .str .unit)))) .unit))))) : Ty).den)) (len m) = len m := by simp [plus, len]
    rw [e, hm]
    rfl
  exact Eq.trans (b := sel (fits (plus (len ([] : List ((.pair .str (.pair (.slice .str) (.pair .str (.pair .str (.pair (.slice (.pair .str (.pair .str (.pair .str .unit)))) .unit))))) : Ty).den)) (len (α := ((.pair .str (.pair (.slice .str) (.pair .str (.pair .str (.pair (.slice (.pair .str (.pair .str (.pair .str .unit)))) .unit))))) : Ty).den) l))) (some ((app (α := ((.pair .str (.pair (.slice .str) (.pair .str (.pair .str (.pair (.slice (.pair .str (.pair .str (.pair .str .unit)))) .unit))))) : Ty).den) [] l, ()) : (Ty.pair (.slice (.pair .str (.pair (.slice .str) (.pair .str (.pair .str (.pair (.slice (.pair .str (.pair .str (.pair .str .unit)))) .unit)))))) .unit).den)) none) (by rfl) (key l hl)
noncomputable def c_images_Set : Con := ⟨(.pair (.pair (.slice (.pair .str (.pair (.slice .str) (.pair .str (.pair .str (.pair .str (.pair (.slice (.pair .str (.pair .str (.pair .str .unit)))) .unit))))))) (.pair (.slice (.pair .str (.pair (.slice .str) (.pair .str (.pair .str (.pair (.slice (.pair .str (.pair .str (.pair .str .unit)))) .unit)))))) (.pair (.slice (.pair .str (.pair .str (.pair (.slice .str) (.pair .str (.pair (.int .i64) (.pair (.int .i64) (.pair .bool .unit)))))))) (.pair (.slice .str) (.pair (.slice (.pair .str (.pair (.int .i64) .unit))) .unit))))) (.pair (.pair .str (.pair (.slice .str) (.pair .str (.pair .str (.pair (.slice (.pair .str (.pair .str (.pair .str .unit)))) .unit))))) .unit)), (.pair (.pair (.slice (.pair .str (.pair (.slice .str) (.pair .str (.pair .str (.pair .str (.pair (.slice (.pair .str (.pair .str (.pair .str .unit)))) .unit))))))) (.pair (.slice (.pair .str (.pair (.slice .str) (.pair .str (.pair .str (.pair (.slice (.pair .str (.pair .str (.pair .str .unit)))) .unit)))))) (.pair (.slice (.pair .str (.pair .str (.pair (.slice .str) (.pair .str (.pair (.int .i64) (.pair (.int .i64) (.pair .bool .unit)))))))) (.pair (.slice .str) (.pair (.slice (.pair .str (.pair (.int .i64) .unit))) .unit))))) .unit), P_images_Set⟩
theorem h_images_Set : Holds Tryz.prog glob 39 c_images_Set := holds_at (con := [(43, c_images_id), (50, c_slices_Clone_string_string), (51, c_slices_Clone_api_Item_api_Item), (83, c_slices_Clone_api_Image_api_Image)]) (rcon := []) (inv := []) ((con_cons h_images_id (con_cons h_slices_Clone_string_string (con_cons h_slices_Clone_api_Item_api_Item (con_cons h_slices_Clone_api_Image_api_Image con_nil))))) (rcon_nil) (inv_nil) (fn := Tryz.f39) rfl (by kernel_rfl) (fun x => by kernel_rfl)
noncomputable def c_images_Create : Con := ⟨(.pair (.pair (.slice (.pair .str (.pair (.slice .str) (.pair .str (.pair .str (.pair .str (.pair (.slice (.pair .str (.pair .str (.pair .str .unit)))) .unit))))))) (.pair (.slice (.pair .str (.pair (.slice .str) (.pair .str (.pair .str (.pair (.slice (.pair .str (.pair .str (.pair .str .unit)))) .unit)))))) (.pair (.slice (.pair .str (.pair .str (.pair (.slice .str) (.pair .str (.pair (.int .i64) (.pair (.int .i64) (.pair .bool .unit)))))))) (.pair (.slice .str) (.pair (.slice (.pair .str (.pair (.int .i64) .unit))) .unit))))) (.pair .str (.pair (.slice .str) (.pair .str (.pair (.int .i64) .unit))))), (.pair (.pair (.slice (.pair .str (.pair (.slice .str) (.pair .str (.pair .str (.pair .str (.pair (.slice (.pair .str (.pair .str (.pair .str .unit)))) .unit))))))) (.pair (.slice (.pair .str (.pair (.slice .str) (.pair .str (.pair .str (.pair (.slice (.pair .str (.pair .str (.pair .str .unit)))) .unit)))))) (.pair (.slice (.pair .str (.pair .str (.pair (.slice .str) (.pair .str (.pair (.int .i64) (.pair (.int .i64) (.pair .bool .unit)))))))) (.pair (.slice .str) (.pair (.slice (.pair .str (.pair (.int .i64) .unit))) .unit))))) (.pair (.pair (.int .i64) (.pair .str (.pair (.int .i64) (.pair .str .unit)))) .unit)), P_images_Create⟩
theorem h_images_Create : Holds Tryz.prog glob 15 c_images_Create := holds_at (con := [(33, c_names_Check), (34, c_images_fault), (35, c_layers_Find), (36, c_names_Free), (37, c_images_named), (38, c_lookup_Fresh), (39, c_images_Set)]) (rcon := []) (inv := []) ((con_cons h_names_Check (con_cons h_images_fault (con_cons h_layers_Find (con_cons h_names_Free (con_cons h_images_named (con_cons h_lookup_Fresh (con_cons h_images_Set con_nil)))))))) (rcon_nil) (inv_nil) (fn := Tryz.f15) rfl (by kernel_rfl) (fun x => by kernel_rfl)
noncomputable def c_images_Find : Con := ⟨(.pair (.pair (.slice (.pair .str (.pair (.slice .str) (.pair .str (.pair .str (.pair .str (.pair (.slice (.pair .str (.pair .str (.pair .str .unit)))) .unit))))))) (.pair (.slice (.pair .str (.pair (.slice .str) (.pair .str (.pair .str (.pair (.slice (.pair .str (.pair .str (.pair .str .unit)))) .unit)))))) (.pair (.slice (.pair .str (.pair .str (.pair (.slice .str) (.pair .str (.pair (.int .i64) (.pair (.int .i64) (.pair .bool .unit)))))))) (.pair (.slice .str) (.pair (.slice (.pair .str (.pair (.int .i64) .unit))) .unit))))) (.pair .str .unit)), (.pair .str (.pair (.int .i64) .unit)), P_images_Find⟩
theorem h_images_Find : Holds Tryz.prog glob 18 c_images_Find := holds_at (con := [(37, c_images_named), (49, c_lookup_Find)]) (rcon := []) (inv := []) ((con_cons h_images_named (con_cons h_lookup_Find con_nil))) (rcon_nil) (inv_nil) (fn := Tryz.f18) rfl (by kernel_rfl) (fun x => by kernel_rfl)
noncomputable def c_images_Delete : Con := ⟨(.pair (.pair (.slice (.pair .str (.pair (.slice .str) (.pair .str (.pair .str (.pair .str (.pair (.slice (.pair .str (.pair .str (.pair .str .unit)))) .unit))))))) (.pair (.slice (.pair .str (.pair (.slice .str) (.pair .str (.pair .str (.pair (.slice (.pair .str (.pair .str (.pair .str .unit)))) .unit)))))) (.pair (.slice (.pair .str (.pair .str (.pair (.slice .str) (.pair .str (.pair (.int .i64) (.pair (.int .i64) (.pair .bool .unit)))))))) (.pair (.slice .str) (.pair (.slice (.pair .str (.pair (.int .i64) .unit))) .unit))))) (.pair .str .unit)), (.pair (.pair (.slice (.pair .str (.pair (.slice .str) (.pair .str (.pair .str (.pair .str (.pair (.slice (.pair .str (.pair .str (.pair .str .unit)))) .unit))))))) (.pair (.slice (.pair .str (.pair (.slice .str) (.pair .str (.pair .str (.pair (.slice (.pair .str (.pair .str (.pair .str .unit)))) .unit)))))) (.pair (.slice (.pair .str (.pair .str (.pair (.slice .str) (.pair .str (.pair (.int .i64) (.pair (.int .i64) (.pair .bool .unit)))))))) (.pair (.slice .str) (.pair (.slice (.pair .str (.pair (.int .i64) .unit))) .unit))))) (.pair (.pair (.int .i64) (.pair .str (.pair (.int .i64) (.pair .str .unit)))) .unit)), P_images_Delete⟩
theorem h_images_Delete : Holds Tryz.prog glob 16 c_images_Delete := holds_at (con := [(18, c_images_Find), (34, c_images_fault), (43, c_images_id), (83, c_slices_Clone_api_Image_api_Image)]) (rcon := []) (inv := []) ((con_cons h_images_Find (con_cons h_images_fault (con_cons h_images_id (con_cons h_slices_Clone_api_Image_api_Image con_nil))))) (rcon_nil) (inv_nil) (fn := Tryz.f16) rfl (by kernel_rfl) (fun x => by kernel_rfl)
noncomputable def c_images_Get : Con := ⟨(.pair (.pair (.slice (.pair .str (.pair (.slice .str) (.pair .str (.pair .str (.pair .str (.pair (.slice (.pair .str (.pair .str (.pair .str .unit)))) .unit))))))) (.pair (.slice (.pair .str (.pair (.slice .str) (.pair .str (.pair .str (.pair (.slice (.pair .str (.pair .str (.pair .str .unit)))) .unit)))))) (.pair (.slice (.pair .str (.pair .str (.pair (.slice .str) (.pair .str (.pair (.int .i64) (.pair (.int .i64) (.pair .bool .unit)))))))) (.pair (.slice .str) (.pair (.slice (.pair .str (.pair (.int .i64) .unit))) .unit))))) (.pair .str .unit)), (.pair (.pair .str (.pair (.slice .str) (.pair .str (.pair .str (.pair (.slice (.pair .str (.pair .str (.pair .str .unit)))) .unit))))) (.pair .bool .unit)), P_images_Get⟩
theorem h_images_Get : Holds Tryz.prog glob 19 c_images_Get := holds_at (con := [(50, c_slices_Clone_string_string), (51, c_slices_Clone_api_Item_api_Item)]) (rcon := []) (inv := []) ((con_cons h_slices_Clone_string_string (con_cons h_slices_Clone_api_Item_api_Item con_nil))) (rcon_nil) (inv_nil) (fn := Tryz.f19) rfl (by kernel_rfl) (fun x => by kernel_rfl)
noncomputable def c_law22_awake : Con := ⟨.unit, (.pair .bool .unit), P_law22_awake⟩
theorem h_law22_awake : Holds Tryz.prog glob 6 c_law22_awake := holds_at (con := [(7, c_images_PutItem), (9, c_images_GetItem), (15, c_images_Create), (16, c_images_Delete), (19, c_images_Get)]) (rcon := []) (inv := []) ((con_cons h_images_PutItem (con_cons h_images_GetItem (con_cons h_images_Create (con_cons h_images_Delete (con_cons h_images_Get con_nil)))))) (rcon_nil) (inv_nil) (fn := Tryz.f6) rfl (by kernel_rfl) (fun x => by kernel_rfl)
noncomputable def c_ref06_IsName : Con := ⟨(.pair .str .unit), (.pair .bool .unit), P_ref06_IsName⟩
theorem h_ref06_IsName : Holds Tryz.prog glob 27 c_ref06_IsName := holds_at (con := []) (rcon := []) (inv := []) (con_nil) (rcon_nil) (inv_nil) (fn := Tryz.f27) rfl (by kernel_rfl) (fun x => by kernel_rfl)
noncomputable def c_ref02_begin : Con := ⟨.unit, (.pair (.arr 8 (.int .u32)) .unit), P_ref02_begin⟩
theorem h_ref02_begin : Holds Tryz.prog glob 103 c_ref02_begin := holds_at (con := []) (rcon := []) (inv := []) (con_nil) (rcon_nil) (inv_nil) (fn := Tryz.f103) rfl (by kernel_rfl) (fun x => by kernel_rfl)
noncomputable def c_ref02_whole : Con := ⟨(.pair .str .unit), (.pair .str .unit), P_ref02_whole⟩
theorem h_ref02_whole : Holds Tryz.prog glob 104 c_ref02_whole := holds_at (con := []) (rcon := []) (inv := []) (con_nil) (rcon_nil) (inv_nil) (fn := Tryz.f104) rfl (by kernel_rfl) (fun x => by kernel_rfl)
noncomputable def c_ref02_turn : Con := ⟨(.pair (.int .u32) (.pair (.int .i64) .unit)), (.pair (.int .u32) .unit), P_ref02_turn⟩
theorem h_ref02_turn : Holds Tryz.prog glob 134 c_ref02_turn := holds_at (con := []) (rcon := []) (inv := []) (con_nil) (rcon_nil) (inv_nil) (fn := Tryz.f134) rfl (by kernel_rfl) (fun x => by kernel_rfl)
noncomputable def c_ref02_consts : Con := ⟨.unit, (.pair (.arr 64 (.int .u32)) .unit), P_ref02_consts⟩
theorem h_ref02_consts : Holds Tryz.prog glob 135 c_ref02_consts := holds_at (con := []) (rcon := []) (inv := []) (con_nil) (rcon_nil) (inv_nil) (fn := Tryz.f135) rfl (by kernel_rfl) (fun x => by kernel_rfl)
noncomputable def c_ref02_block : Con := ⟨(.pair (.arr 8 (.int .u32)) (.pair .str .unit)), (.pair (.arr 8 (.int .u32)) .unit), P_ref02_block⟩
theorem h_ref02_block : Holds Tryz.prog glob 105 c_ref02_block := holds_at (con := [(134, c_ref02_turn), (135, c_ref02_consts)]) (rcon := []) (inv := []) ((con_cons h_ref02_turn (con_cons h_ref02_consts con_nil))) (rcon_nil) (inv_nil) (fn := Tryz.f105) rfl (by kernel_rfl) (fun x => by kernel_rfl)
noncomputable def c_ref02_Sum : Con := ⟨(.pair .str .unit), (.pair (.arr 32 (.int .u8)) .unit), P_ref02_Sum⟩
theorem h_ref02_Sum : Holds Tryz.prog glob 60 c_ref02_Sum := holds_at (con := [(103, c_ref02_begin), (104, c_ref02_whole), (105, c_ref02_block)]) (rcon := []) (inv := []) ((con_cons h_ref02_begin (con_cons h_ref02_whole (con_cons h_ref02_block con_nil)))) (rcon_nil) (inv_nil) (fn := Tryz.f60) rfl (by kernel_rfl) (fun x => by kernel_rfl)
noncomputable def c_ref01_digit : Con := ⟨(.pair (.int .i64) .unit), (.pair (.int .u8) .unit), P_ref01_digit⟩
theorem h_ref01_digit : Holds Tryz.prog glob 106 c_ref01_digit := holds_at (con := []) (rcon := []) (inv := []) (con_nil) (rcon_nil) (inv_nil) (fn := Tryz.f106) rfl (by kernel_rfl) (fun x => by kernel_rfl)
noncomputable def c_ref01_Hex : Con := ⟨(.pair .str .unit), (.pair .str .unit), P_ref01_Hex⟩
theorem h_ref01_Hex : Holds Tryz.prog glob 61 c_ref01_Hex := holds_at (con := [(106, c_ref01_digit)]) (rcon := []) (inv := []) ((con_cons h_ref01_digit con_nil)) (rcon_nil) (inv_nil) (fn := Tryz.f61) rfl (by kernel_rfl) (fun x => by kernel_rfl)
noncomputable def c_ref03_Of : Con := ⟨(.pair .str .unit), (.pair .str .unit), P_ref03_Of⟩
theorem h_ref03_Of : Holds Tryz.prog glob 28 c_ref03_Of := holds_at (con := [(60, c_ref02_Sum), (61, c_ref01_Hex)]) (rcon := []) (inv := []) ((con_cons h_ref02_Sum (con_cons h_ref01_Hex con_nil))) (rcon_nil) (inv_nil) (fn := Tryz.f28) rfl (by kernel_rfl) (fun x => by kernel_rfl)
noncomputable def c_ref22_PutItem : Con := ⟨(.pair (.slice (.pair .str (.pair .str (.pair .str .unit)))) (.pair .str (.pair .str .unit))), (.pair (.slice (.pair .str (.pair .str (.pair .str .unit)))) (.pair (.int .i64) .unit)), P_ref22_PutItem⟩
theorem h_ref22_PutItem : Holds Tryz.prog glob 8 c_ref22_PutItem := holds_at (con := [(27, c_ref06_IsName), (28, c_ref03_Of)]) (rcon := []) (inv := []) ((con_cons h_ref06_IsName (con_cons h_ref03_Of con_nil))) (rcon_nil) (inv_nil) (fn := Tryz.f8) rfl (by kernel_rfl) (fun x => by kernel_rfl)
noncomputable def c_ref22_GetItem : Con := ⟨(.pair (.slice (.pair .str (.pair .str (.pair .str .unit)))) (.pair .str .unit)), (.pair .str (.pair (.int .i64) .unit)), P_ref22_GetItem⟩
theorem h_ref22_GetItem : Holds Tryz.prog glob 10 c_ref22_GetItem := holds_at (con := []) (rcon := []) (inv := []) (con_nil) (rcon_nil) (inv_nil) (fn := Tryz.f10) rfl (by kernel_rfl) (fun x => by kernel_rfl)
noncomputable def c_ref06_SameItems : Con := ⟨(.pair (.slice (.pair .str (.pair .str (.pair .str .unit)))) (.pair (.slice (.pair .str (.pair .str (.pair .str .unit)))) .unit)), (.pair .bool .unit), P_ref06_SameItems⟩
theorem h_ref06_SameItems : Holds Tryz.prog glob 11 c_ref06_SameItems := holds_at (con := []) (rcon := []) (inv := []) (con_nil) (rcon_nil) (inv_nil) (fn := Tryz.f11) rfl (by kernel_rfl) (fun x => by kernel_rfl)
noncomputable def c_ref06_Items : Con := ⟨(.pair (.slice (.pair .str (.pair .str (.pair .str .unit)))) .unit), (.pair .bool .unit), P_ref06_Items⟩
theorem h_ref06_Items : Holds Tryz.prog glob 12 c_ref06_Items := holds_at (con := [(27, c_ref06_IsName), (28, c_ref03_Of)]) (rcon := []) (inv := []) ((con_cons h_ref06_IsName (con_cons h_ref03_Of con_nil))) (rcon_nil) (inv_nil) (fn := Tryz.f12) rfl (by kernel_rfl) (fun x => by kernel_rfl)
noncomputable def c_law22_ImagesItems : Con := ⟨(.pair (.slice (.pair .str (.pair .str (.pair .str .unit)))) (.pair .str (.pair .str .unit))), (.pair .bool .unit), P_law22_ImagesItems⟩
theorem h_law22_ImagesItems : Holds Tryz.prog glob 3 c_law22_ImagesItems := holds_at (con := [(5, c_ref06_Few), (6, c_law22_awake), (7, c_images_PutItem), (8, c_ref22_PutItem), (9, c_images_GetItem), (10, c_ref22_GetItem), (11, c_ref06_SameItems), (12, c_ref06_Items)]) (rcon := []) (inv := []) ((con_cons h_ref06_Few (con_cons h_law22_awake (con_cons h_images_PutItem (con_cons h_ref22_PutItem (con_cons h_images_GetItem (con_cons h_ref22_GetItem (con_cons h_ref06_SameItems (con_cons h_ref06_Items con_nil))))))))) (rcon_nil) (inv_nil) (fn := Tryz.f3) rfl (by kernel_rfl) (fun x => by kernel_rfl)
end Go.Proofs.YtpipdmfkbnbchaaGreatDoor
