/- The layer's functions keep their contracts: each comes to its plain definition, by the ghost interpreter. -/
import Derived.Test.YtnmllijemdpcoaaGreatDoorRows
import Derived.Test.YtnmllijemdpcoaaGreatDoorGp14z
import Derived.Test.YtnmllijemdpcoaaGreatDoorBld
import Derived.Test.YtnmllijemdpcoaaGreatDoorShelf
namespace Go.Proofs.YtnmllijemdpcoaaGreatDoor.First
open Go Go.Ge
set_option linter.unusedVariables false
set_option maxRecDepth 100000

noncomputable def plans : Nat → FPlan
  | 7 => ⟨[], []⟩
  | 8 => ⟨[none, none, none, none], [55]⟩
  | 10 => ⟨[none, some ⟨[(4, 4), (5, 3)], [], false⟩, none, none], []⟩
  | 11 => ⟨[none, some ⟨[(2, 27), (12, 3)], [], false⟩, none, none], []⟩
  | 12 => ⟨[none, some ⟨[(14, 3)], [3], false⟩, none, some ⟨[], [3], false⟩, some ⟨[], [3], false⟩], []⟩
  | 14 => ⟨[none, none], []⟩
  | 16 => ⟨[none, none, some ⟨[(7, 37), (23, 3)], [7], false⟩, none, some ⟨[(7, 37)], [7], false⟩], [7]⟩
  | 19 => ⟨[none, some ⟨[(4, 4), (5, 3)], [], false⟩, none, none], []⟩
  | 20 => ⟨[], []⟩
  | 25 => ⟨[], []⟩
  | 26 => ⟨[], []⟩
  | 27 => ⟨[none, none, none, none], []⟩
  | 28 => ⟨[none], []⟩
  | 29 => ⟨[none, none, none], []⟩
  | 30 => ⟨[], []⟩
  | 31 => ⟨[none], [5]⟩
  | 39 => ⟨[], []⟩
  | 40 => ⟨[none, some ⟨[(0, 3), (19, 3)], [6], false⟩, none, none], []⟩
  | 41 => ⟨[some ⟨[(9, 3)], [3], false⟩, none], []⟩
  | 42 => ⟨[], []⟩
  | 43 => ⟨[], []⟩
  | 44 => ⟨[], []⟩
  | 48 => ⟨[none], [9]⟩
  | 49 => ⟨[], []⟩
  | 50 => ⟨[], []⟩
  | 53 => ⟨[], []⟩
  | 54 => ⟨[], []⟩
  | 55 => ⟨[none, none, none, none, none], []⟩
  | 56 => ⟨[some ⟨[(9, 3), (10, 3)], [1, 2], false⟩, none, some ⟨[(9, 3), (10, 3)], [], false⟩], []⟩
  | 57 => ⟨[], []⟩
  | 66 => ⟨[some ⟨[(6, 3), (13, 3)], [2], false⟩, none, none, none, none], []⟩
  | 67 => ⟨[none], []⟩
  | 68 => ⟨[none, none, none, none, none], []⟩
  | 69 => ⟨[], []⟩
  | 72 => ⟨[], []⟩
  | 77 => ⟨[none, some ⟨[(5, 3), (6, 3), (0, 999999)], [0, 1], false⟩, none, some ⟨[(5, 3), (0, 999999)], [0], false⟩], []⟩
  | 78 => ⟨[], []⟩
  | 79 => ⟨[none, some ⟨[(4, 4), (13, 3)], [], false⟩, none, none], []⟩
  | 80 => ⟨[some ⟨[(2, 9), (3, 27), (4, 37), (11, 3)], [4], false⟩, none, some ⟨[(2, 9), (3, 27), (4, 37)], [4], false⟩, none, none], [4]⟩
  | 81 => ⟨[none, none, none], []⟩
  | 83 => ⟨[some ⟨[(4, 3), (5, 3)], [], false⟩, none, none], []⟩
  | 84 => ⟨[some ⟨[(9, 89), (10, 3)], [], false⟩, none, none, some ⟨[(4, 3), (9, 89), (11, 3)], [], false⟩, none, none], []⟩
  | 89 => ⟨[], []⟩
  | 92 => ⟨[none, some ⟨[(1, 9)], [0], false⟩, none, some ⟨[], [0], false⟩], []⟩
  | 93 => ⟨[some ⟨[], [3], false⟩, some ⟨[], [3], false⟩, none, some ⟨[(26, 3)], [5], false⟩, none, some ⟨[(41, 3)], [7], false⟩, none], []⟩
  | 96 => ⟨[some ⟨[(4, 3), (8, 3)], [1], false⟩, none, none], []⟩
  | 97 => ⟨[some ⟨[(2, 4), (6, 3)], [], false⟩, none, none], []⟩
  | 98 => ⟨[], []⟩
  | 99 => ⟨[], []⟩
  | 100 => ⟨[], []⟩
  | 102 => ⟨[some ⟨[(4, 89), (5, 3)], [], false⟩, none, some ⟨[(6, 89), (7, 89), (8, 3)], [], false⟩, none, some ⟨[(6, 89)], [], false⟩], []⟩
  | 106 => ⟨[some ⟨[], [0], false⟩, some ⟨[(6, 89), (7, 89), (8, 89), (9, 89), (10, 89), (11, 89), (12, 89), (13, 89), (74, 3)], [], false⟩, none, some ⟨[(143, 3)], [0], false⟩, none], []⟩
  | 107 => ⟨[], []⟩
  | 108 => ⟨[none], []⟩
  | 109 => ⟨[some ⟨[(4, 3), (8, 3)], [], false⟩, none, none], []⟩
  | 114 => ⟨[], []⟩
  | 115 => ⟨[], []⟩
  | 116 => ⟨[some ⟨[(12, 3)], [3], false⟩, none, some ⟨[(22, 3)], [3], false⟩, none, some ⟨[(7, 3)], [3], false⟩, none], []⟩
  | 117 => ⟨[], []⟩
  | 122 => ⟨[], []⟩
  | _ => ⟨[], []⟩

def objs : List (Nat × List OFld) := [(60, [.self, .buf (.int .u8) 5])]
def els : List (Nat × Nat) := [(58, 5)]
noncomputable def spc : List (Nat × Spc) := [(45, .str 60 5), (70, .chk 60), (31, .clone (.pair .str (.pair (.int .i64) (.pair (.int .i64) (.pair .str (.pair .str .unit)))))), (32, (.own (.pair .str (.pair (.int .i64) (.pair (.int .i64) (.pair .str (.pair .str .unit))))) (.pair (.int .i64) (.pair (.slice (.pair .str (.pair (.int .i64) (.pair (.int .i64) (.pair .str (.pair .str .unit)))))) .unit)) true P_slices_Insert_api_TreeNode_api_TreeNode))]
noncomputable def tys : List (Nat × Ty) := [(3, (.int .i64)), (4, .bool), (5, (.int .u8)), (9, .str), (21, (.int .i32)), (22, (.slice (.pair .str (.pair (.int .i64) (.pair (.int .i64) (.pair .str (.pair .str .unit))))))), (24, (.pair .str (.pair (.int .i64) (.pair (.int .i64) (.pair .str (.pair .str .unit)))))), (27, (.int .i64)), (37, (.slice .str)), (58, (.slice (.int .u8))), (69, (.arr 32 (.int .u8))), (74, (.arr 4 .str)), (84, (.arr 21 (.int .u8))), (85, (.int .u64)), (89, (.int .u32)), (90, (.arr 8 (.int .u32))), (102, (.pair .bool (.pair (.arr 8 (.int .u32)) .unit))), (103, (.arr 64 (.int .u8))), (105, (.pair (.pair .bool (.pair (.arr 8 (.int .u32)) .unit)) (.pair (.arr 64 (.int .u8)) (.pair (.int .i64) .unit)))), (108, (.int .u64)), (109, (.arr 64 (.int .u32))), (121, (.arr 8 (.int .u8))), (122, (.arr 2 .str)), (132, (.arr 256 (.int .u8))), (134, (.pair (.int .u8) (.pair (.int .u8) .unit))), (135, (.arr 16 (.pair (.int .u8) (.pair (.int .u8) .unit))))]
noncomputable def funs : List (Nat × Func) := [(7, Tryz.f7), (8, Tryz.f8), (10, Tryz.f10), (11, Tryz.f11), (12, Tryz.f12), (14, Tryz.f14), (16, Tryz.f16), (19, Tryz.f19), (20, Tryz.f20), (25, Tryz.f25), (26, Tryz.f26), (27, Tryz.f27), (28, Tryz.f28), (29, Tryz.f29), (30, Tryz.f30), (31, Tryz.f31), (39, Tryz.f39), (40, Tryz.f40), (41, Tryz.f41), (42, Tryz.f42), (43, Tryz.f43), (44, Tryz.f44), (48, Tryz.f48), (49, Tryz.f49), (50, Tryz.f50), (53, Tryz.f53), (54, Tryz.f54), (55, Tryz.f55), (56, Tryz.f56), (57, Tryz.f57), (66, Tryz.f66), (67, Tryz.f67), (68, Tryz.f68), (69, Tryz.f69), (72, Tryz.f72), (77, Tryz.f77), (78, Tryz.f78), (79, Tryz.f79), (80, Tryz.f80), (81, Tryz.f81), (83, Tryz.f83), (84, Tryz.f84), (89, Tryz.f89), (92, Tryz.f92), (93, Tryz.f93), (96, Tryz.f96), (97, Tryz.f97), (98, Tryz.f98), (99, Tryz.f99), (100, Tryz.f100), (102, Tryz.f102), (106, Tryz.f106), (107, Tryz.f107), (108, Tryz.f108), (109, Tryz.f109), (114, Tryz.f114), (115, Tryz.f115), (116, Tryz.f116), (117, Tryz.f117), (122, Tryz.f122)]
def ones : List Nat := [46, 56, 57, 73, 77, 88, 119, 126]
def ptrs : List Nat := [57, 88, 119, 126]
noncomputable def cxOf (con : List (Nat × Con)) (rcon : List (Nat × RCon)) : Ctx := ⟨tys, ones, ptrs, funs, con, rcon, objs, spc, els⟩

theorem mix : Tryz.prog.follows .mixedOrders = true := by kernel_rfl

theorem T_ok : ∀ tid t, find tys tid = some t → Den Tryz.prog t tid := tys_ok (by kernel_rfl)
theorem ones_ok : ∀ tid, memN ones tid = true → (∀ w, (isAgg tid).run Tryz.prog w = .ok false w) ∧ (∀ w, (Go.sizeOf tid).run Tryz.prog w = .ok 1 w) ∧ ∃ z, (∀ w, (zeroValue tid).run Tryz.prog w = .ok z w) ∧ z.oneCell' = true := ones_of (by kernel_rfl)
theorem ptrs_ok : ∀ tid, memN ptrs tid = true → ∃ e, Tryz.prog.underlying tid = some (.pointer e) := ptrs_of (by kernel_rfl)
theorem fns_ok : ∀ f fn, find funs f = some fn → Tryz.prog.funcs[f]? = some fn := fns_of ((fns_cons Tryz.func7 (fns_cons Tryz.func8 (fns_cons Tryz.func10 (fns_cons Tryz.func11 (fns_cons Tryz.func12 (fns_cons Tryz.func14 (fns_cons Tryz.func16 (fns_cons Tryz.func19 (fns_cons Tryz.func20 (fns_cons Tryz.func25 (fns_cons Tryz.func26 (fns_cons Tryz.func27 (fns_cons Tryz.func28 (fns_cons Tryz.func29 (fns_cons Tryz.func30 (fns_cons Tryz.func31 (fns_cons Tryz.func39 (fns_cons Tryz.func40 (fns_cons Tryz.func41 (fns_cons Tryz.func42 (fns_cons Tryz.func43 (fns_cons Tryz.func44 (fns_cons Tryz.func48 (fns_cons Tryz.func49 (fns_cons Tryz.func50 (fns_cons Tryz.func53 (fns_cons Tryz.func54 (fns_cons Tryz.func55 (fns_cons Tryz.func56 (fns_cons Tryz.func57 (fns_cons Tryz.func66 (fns_cons Tryz.func67 (fns_cons Tryz.func68 (fns_cons Tryz.func69 (fns_cons Tryz.func72 (fns_cons Tryz.func77 (fns_cons Tryz.func78 (fns_cons Tryz.func79 (fns_cons Tryz.func80 (fns_cons Tryz.func81 (fns_cons Tryz.func83 (fns_cons Tryz.func84 (fns_cons Tryz.func89 (fns_cons Tryz.func92 (fns_cons Tryz.func93 (fns_cons Tryz.func96 (fns_cons Tryz.func97 (fns_cons Tryz.func98 (fns_cons Tryz.func99 (fns_cons Tryz.func100 (fns_cons Tryz.func102 (fns_cons Tryz.func106 (fns_cons Tryz.func107 (fns_cons Tryz.func108 (fns_cons Tryz.func109 (fns_cons Tryz.func114 (fns_cons Tryz.func115 (fns_cons Tryz.func116 (fns_cons Tryz.func117 (fns_cons Tryz.func122 fns_nil)))))))))))))))))))))))))))))))))))))))))))))))))))))))))))))
theorem objs_ok : ∀ tid fs, find objs tid = some fs → objB Tryz.prog tid fs = true := objs_of (by kernel_rfl)
theorem els_ok : ∀ tid e, find els tid = some e → Tryz.prog.underlying tid = some (.slice e) := els_of (by kernel_rfl)
theorem cx_ok (con : List (Nat × Con)) (rcon : List (Nat × RCon)) : CxOk Tryz.prog (cxOf con rcon) := ⟨T_ok, ones_ok, ptrs_ok, fns_ok, objs_ok, els_ok⟩
noncomputable def cx0 : Ctx := ⟨tys, ones, ptrs, funs, [], [], objs, [], els⟩
theorem cx0_ok : CxOk Tryz.prog cx0 := ⟨T_ok, ones_ok, ptrs_ok, fns_ok, objs_ok, els_ok⟩
theorem s_slices_Clone_api_TreeNode_api_TreeNode : SpcOk Tryz.prog 31 (.clone (.pair .str (.pair (.int .i64) (.pair (.int .i64) (.pair .str (.pair .str .unit)))))) := by
  refine clone_own (P := Tryz.prog) (cx := cx0) (bf := [2, 5]) (e := (.pair .str (.pair (.int .i64) (.pair (.int .i64) (.pair .str (.pair .str .unit)))))) (tid := 22) (fn := Tryz.f31) (s0 := fun l => ((argSt (fun _ => none) [.data (.slice (.pair .str (.pair (.int .i64) (.pair (.int .i64) (.pair .str (.pair .str .unit)))))) l]).setBox 2 { val := .data (.slice (.pair .str (.pair (.int .i64) (.pair (.int .i64) (.pair .str (.pair .str .unit)))))) ([] : List ((.pair .str (.pair (.int .i64) (.pair (.int .i64) (.pair .str (.pair .str .unit))))) : Ty).den), tid := 0, buf := true, ro := false, lk := false, ver := 0 }).put 2 (.whole 2 0)) mix cx0_ok (conOk_of con_nil rcon_nil spc_nil) Tryz.func31 (by kernel_rfl)
    (by rfl) rfl (by decide) (by decide) rfl rfl rfl rfl rfl rfl (fun l => by rfl) (fun l => rfl) (fun l => rfl) (fun l => rfl) (fun l => by rfl) (fun l hl => ?_)
  have key : ∀ m : List ((.pair .str (.pair (.int .i64) (.pair (.int .i64) (.pair .str (.pair .str .unit))))) : Ty).den, fits (len m) = true → sel (fits (plus (len ([] : List ((.pair .str (.pair (.int .i64) (.pair (.int .i64) (.pair .str (.pair .str .unit))))) : Ty).den)) (len m))) (some (app [] m)) none = some m := by
    intro m hm
    have e : plus (len ([] : List ((.pair .str (.pair (.int .i64) (.pair (.int .i64) (.pair .str (.pair .str .unit))))) : Ty).den)) (len m) = len m := by simp [plus, len]
    rw [e, hm]
    rfl
  exact Eq.trans (b := sel (fits (plus (len ([] : List ((.pair .str (.pair (.int .i64) (.pair (.int .i64) (.pair .str (.pair .str .unit))))) : Ty).den)) (len (α := ((.pair .str (.pair (.int .i64) (.pair (.int .i64) (.pair .str (.pair .str .unit))))) : Ty).den) l))) (some (app (α := ((.pair .str (.pair (.int .i64) (.pair (.int .i64) (.pair .str (.pair .str .unit))))) : Ty).den) [] l)) none) (by rfl) (key l hl)
theorem s_slices_Insert_api_TreeNode_api_TreeNode : SpcOk Tryz.prog 32 (.own (.pair .str (.pair (.int .i64) (.pair (.int .i64) (.pair .str (.pair .str .unit))))) (.pair (.int .i64) (.pair (.slice (.pair .str (.pair (.int .i64) (.pair (.int .i64) (.pair .str (.pair .str .unit)))))) .unit)) true P_slices_Insert_api_TreeNode_api_TreeNode) := by
  have hden : Den Tryz.prog (.pair .str (.pair (.int .i64) (.pair (.int .i64) (.pair .str (.pair .str .unit))))) 24 := by
    show denG Tryz.prog (.pair .str (.pair (.int .i64) (.pair (.int .i64) (.pair .str (.pair .str .unit))))) false 24 0 [] = true
    kernel_rfl
  obtain ⟨ie, ze, e1, e2, e3, e4⟩ := hden.info
  exact ins_own (e := (.pair .str (.pair (.int .i64) (.pair (.int .i64) (.pair .str (.pair .str .unit)))))) (ρ := (⟨fun x => if x = 29 then 58 else if x = 30 then 59 else 32, fun x => if x = 24 then 22 else if x = 9 then 24 else if x = 3 then 3 else if x = 4 then 4 else 0, fun x => x⟩ : Go.Shelf.Ren)) (nm := "slices.Insert[[]cooperage/api.TreeNode,cooperage/api.TreeNode]") ⟨mix, Tryz.func32.trans (congrArg some (by kernel_rfl)),
    fun xs w => run_callFunc_extern (e := Extern.SlicesOverlaps.overlaps #[22, 22] #[4]) Tryz.func58 (by kernel_rfl) (by kernel_rfl) (by kernel_rfl) (by kernel_rfl) xs w,
    by kernel_rfl, by kernel_rfl, by kernel_rfl, fun w => by simp [Go.sizeOf, e1, e2] <;> kernel_rfl, by simp [e1, e2] <;> kernel_rfl⟩ (by decide) hden (by kernel_rfl) (by decide) (by decide)
theorem spc_ok : ∀ p ∈ spc, SpcOk Tryz.prog p.1 p.2 := (spc_cons h_strings_Builder_String (spc_cons h_strings_Builder_copyCheck (spc_cons s_slices_Clone_api_TreeNode_api_TreeNode (spc_cons s_slices_Insert_api_TreeNode_api_TreeNode spc_nil))))
theorem funs_ok (con : List (Nat × Con)) (rcon : List (Nat × RCon)) : FnsOk (cxOf con rcon) := fnsOk_of (cx := cxOf con rcon) (show (funs.all fun p => fnOk p.2) = true by kernel_rfl)

def glob : Globs := noGlobs
theorem holds_at {con : List (Nat × Con)} {rcon : List (Nat × RCon)} (hcon : ∀ p ∈ con, Holds Tryz.prog glob p.1 p.2) (hrcon : ∀ p ∈ rcon, RHolds Tryz.prog glob p.1 p.2) {f : Nat} {fn : Func} {A R : Ty} {spec : A.den → Option R.den} (hfn : find funs f = some fn) (hb : fn.body.isSome = true)
    (hs : ∀ x, sem (cxOf con rcon) 12 plans f A R x = spec x) : Holds Tryz.prog glob f ⟨A, R, spec⟩ := by
  obtain ⟨code, hcode⟩ := Option.isSome_iff_exists.1 hb
  exact holds_of_sem mix (cx_ok con rcon) (conOk_of hcon hrcon spc_ok) (funs_ok con rcon) (f := f) hfn hcode (fun x y h => by rw [hs]; exact h)

theorem rholds_at {con : List (Nat × Con)} {rcon : List (Nat × RCon)} (hcon : ∀ p ∈ con, Holds Tryz.prog glob p.1 p.2) (hrcon : ∀ p ∈ rcon, RHolds Tryz.prog glob p.1 p.2) {f : Nat} {fn : Func} {ps : List Bool} {A U R : Ty} {spec : A.den × U.den → Option (R.den × U.den)} (hfn : find funs f = some fn) (hb : fn.body.isSome = true)
    (hs : ∀ x, semR (cxOf con rcon) 12 plans f ps A U R x = spec x) : RHolds Tryz.prog glob f ⟨ps, A, U, R, spec⟩ := by
  obtain ⟨code, hcode⟩ := Option.isSome_iff_exists.1 hb
  exact rholds_of_sem mix (cx_ok con rcon) (conOk_of hcon hrcon spc_ok) (funs_ok con rcon) (f := f) hfn hcode (fun x y h => by rw [hs]; exact h)

noncomputable def c_internal_bytealg_LastIndexByteString : Con := ⟨(.pair .str (.pair (.int .u8) .unit)), (.pair (.int .i64) .unit), P_internal_bytealg_LastIndexByteString⟩
theorem h_internal_bytealg_LastIndexByteString : Holds Tryz.prog glob 83 c_internal_bytealg_LastIndexByteString := holds_at (con := []) (rcon := []) (con_nil) (rcon_nil) (fn := Tryz.f83) rfl (by kernel_rfl) (fun x => by kernel_rfl)
noncomputable def c_internal_bytealg_hashStrRev_string : Con := ⟨(.pair .str .unit), (.pair (.int .u32) (.pair (.int .u32) .unit)), P_internal_bytealg_hashStrRev_string⟩
theorem h_internal_bytealg_hashStrRev_string : Holds Tryz.prog glob 102 c_internal_bytealg_hashStrRev_string := holds_at (con := []) (rcon := []) (con_nil) (rcon_nil) (fn := Tryz.f102) rfl (by kernel_rfl) (fun x => by kernel_rfl)
noncomputable def c_internal_bytealg_LastIndexRabinKarp_string : Con := ⟨(.pair .str (.pair .str .unit)), (.pair (.int .i64) .unit), P_internal_bytealg_LastIndexRabinKarp_string⟩
theorem h_internal_bytealg_LastIndexRabinKarp_string : Holds Tryz.prog glob 84 c_internal_bytealg_LastIndexRabinKarp_string := holds_at (con := [(102, c_internal_bytealg_hashStrRev_string)]) (rcon := []) ((con_cons h_internal_bytealg_hashStrRev_string con_nil)) (rcon_nil) (fn := Tryz.f84) rfl (by kernel_rfl) (fun x => by kernel_rfl)
noncomputable def c_strings_LastIndex : Con := ⟨(.pair .str (.pair .str .unit)), (.pair (.int .i64) .unit), P_strings_LastIndex⟩
theorem h_strings_LastIndex : Holds Tryz.prog glob 55 c_strings_LastIndex := holds_at (con := [(83, c_internal_bytealg_LastIndexByteString), (84, c_internal_bytealg_LastIndexRabinKarp_string)]) (rcon := []) ((con_cons h_internal_bytealg_LastIndexByteString (con_cons h_internal_bytealg_LastIndexRabinKarp_string con_nil))) (rcon_nil) (fn := Tryz.f55) rfl (by kernel_rfl) (fun x => by kernel_rfl)
noncomputable def c_paths_Split : Con := ⟨(.pair .str .unit), (.pair .str (.pair .str .unit)), P_paths_Split⟩
theorem h_paths_Split : Holds Tryz.prog glob 28 c_paths_Split := holds_at (con := [(55, c_strings_LastIndex)]) (rcon := []) ((con_cons h_strings_LastIndex con_nil)) (rcon_nil) (fn := Tryz.f28) rfl (by kernel_rfl) (fun x => by kernel_rfl)
noncomputable def c_strings_Split : Con := ⟨(.pair .str (.pair .str .unit)), (.pair (.slice .str) .unit), P_strings_Split⟩
theorem h_strings_Split : Holds Tryz.prog glob 88 c_strings_Split := holds_split Tryz.func88 (by kernel_rfl) (by kernel_rfl) (fun s b w hs => Any.strings_Split_byte Tryz.lays146 (by kernel_rfl) s b w hs)
noncomputable def c_paths_Parts : Con := ⟨(.pair .str .unit), (.pair (.slice .str) .unit), P_paths_Parts⟩
theorem h_paths_Parts : Holds Tryz.prog glob 67 c_paths_Parts := holds_at (con := [(88, c_strings_Split)]) (rcon := []) ((con_cons h_strings_Split con_nil)) (rcon_nil) (fn := Tryz.f67) rfl (by kernel_rfl) (fun x => by kernel_rfl)
noncomputable def c_strings_Join : Con := ⟨(.pair (.slice .str) (.pair .str .unit)), (.pair .str .unit), P_strings_Join⟩
theorem h_strings_Join : Holds Tryz.prog glob 71 c_strings_Join := holds_join Tryz.func71 (by kernel_rfl) (by kernel_rfl) Tryz.strings_Join_none Tryz.strings_Join
noncomputable def c_internal_stringslite_IndexByte : Con := ⟨(.pair .str (.pair (.int .u8) .unit)), (.pair (.int .i64) .unit), P_internal_stringslite_IndexByte⟩
theorem h_internal_stringslite_IndexByte : Holds Tryz.prog glob 82 c_internal_stringslite_IndexByte := holds_str_u8 (spec := fun s c => Lib.indexByte s (show Int from c).toNat.toUInt8) Tryz.func82 (by kernel_rfl) (by kernel_rfl) (fun s c => indexByte_range _ s) (fun s c w => by
  go_enter Tryz.func82, Tryz.ntmps82
  go_wp2
  rw [run_callFunc_extern Tryz.func101 (by kernel_rfl) (by kernel_rfl) (by kernel_rfl) (e := Extern.BytealgIndexByte.indexByte) (by kernel_rfl), Lib.run_indexByteString]
  simp only [Result.andThen]
  rw [Oper.upon_value]
  go_wp2
  go_ret
  exact ⟨rfl, rfl⟩)
noncomputable def c_strings_IndexByte : Con := ⟨(.pair .str (.pair (.int .u8) .unit)), (.pair (.int .i64) .unit), P_strings_IndexByte⟩
theorem h_strings_IndexByte : Holds Tryz.prog glob 54 c_strings_IndexByte := holds_at (con := [(82, c_internal_stringslite_IndexByte)]) (rcon := []) ((con_cons h_internal_stringslite_IndexByte con_nil)) (rcon_nil) (fn := Tryz.f54) rfl (by kernel_rfl) (fun x => by kernel_rfl)
noncomputable def c_paths_isName : Con := ⟨(.pair .str .unit), (.pair .bool .unit), P_paths_isName⟩
theorem h_paths_isName : Holds Tryz.prog glob 97 c_paths_isName := holds_at (con := [(54, c_strings_IndexByte)]) (rcon := []) ((con_cons h_strings_IndexByte con_nil)) (rcon_nil) (fn := Tryz.f97) rfl (by kernel_rfl) (fun x => by kernel_rfl)
noncomputable def c_internal_stringslite_HasPrefix : Con := ⟨(.pair .str (.pair .str .unit)), (.pair .bool .unit), P_internal_stringslite_HasPrefix⟩
theorem h_internal_stringslite_HasPrefix : Holds Tryz.prog glob 107 c_internal_stringslite_HasPrefix := holds_at (con := []) (rcon := []) (con_nil) (rcon_nil) (fn := Tryz.f107) rfl (by kernel_rfl) (fun x => by kernel_rfl)
noncomputable def c_strings_HasPrefix : Con := ⟨(.pair .str (.pair .str .unit)), (.pair .bool .unit), P_strings_HasPrefix⟩
theorem h_strings_HasPrefix : Holds Tryz.prog glob 98 c_strings_HasPrefix := holds_at (con := [(107, c_internal_stringslite_HasPrefix)]) (rcon := []) ((con_cons h_internal_stringslite_HasPrefix con_nil)) (rcon_nil) (fn := Tryz.f98) rfl (by kernel_rfl) (fun x => by kernel_rfl)
noncomputable def c_paths_Clean : Con := ⟨(.pair .str .unit), (.pair .str (.pair (.int .i64) .unit)), P_paths_Clean⟩
theorem h_paths_Clean : Holds Tryz.prog glob 80 c_paths_Clean := holds_at (con := [(67, c_paths_Parts), (71, c_strings_Join), (97, c_paths_isName), (98, c_strings_HasPrefix)]) (rcon := []) ((con_cons h_paths_Parts (con_cons h_strings_Join (con_cons h_paths_isName (con_cons h_strings_HasPrefix con_nil))))) (rcon_nil) (fn := Tryz.f80) rfl (by kernel_rfl) (fun x => by kernel_rfl)
noncomputable def c_internal_stringslite_CutPrefix : Con := ⟨(.pair .str (.pair .str .unit)), (.pair .str (.pair .bool .unit)), P_internal_stringslite_CutPrefix⟩
theorem h_internal_stringslite_CutPrefix : Holds Tryz.prog glob 108 c_internal_stringslite_CutPrefix := holds_at (con := [(107, c_internal_stringslite_HasPrefix)]) (rcon := []) ((con_cons h_internal_stringslite_HasPrefix con_nil)) (rcon_nil) (fn := Tryz.f108) rfl (by kernel_rfl) (fun x => by kernel_rfl)
noncomputable def c_strings_CutPrefix : Con := ⟨(.pair .str (.pair .str .unit)), (.pair .str (.pair .bool .unit)), P_strings_CutPrefix⟩
theorem h_strings_CutPrefix : Holds Tryz.prog glob 99 c_strings_CutPrefix := holds_at (con := [(108, c_internal_stringslite_CutPrefix)]) (rcon := []) ((con_cons h_internal_stringslite_CutPrefix con_nil)) (rcon_nil) (fn := Tryz.f99) rfl (by kernel_rfl) (fun x => by kernel_rfl)
noncomputable def c_slices_Index_string_string : Con := ⟨(.pair (.slice .str) (.pair .str .unit)), (.pair (.int .i64) .unit), P_slices_Index_string_string⟩
theorem h_slices_Index_string_string : Holds Tryz.prog glob 109 c_slices_Index_string_string := holds_at (con := []) (rcon := []) (con_nil) (rcon_nil) (fn := Tryz.f109) rfl (by kernel_rfl) (fun x => by kernel_rfl)
noncomputable def c_slices_Contains_string_string : Con := ⟨(.pair (.slice .str) (.pair .str .unit)), (.pair .bool .unit), P_slices_Contains_string_string⟩
theorem h_slices_Contains_string_string : Holds Tryz.prog glob 100 c_slices_Contains_string_string := holds_at (con := [(109, c_slices_Index_string_string)]) (rcon := []) ((con_cons h_slices_Index_string_string con_nil)) (rcon_nil) (fn := Tryz.f100) rfl (by kernel_rfl) (fun x => by kernel_rfl)
noncomputable def c_paths_Mark : Con := ⟨(.pair .str .unit), (.pair (.int .i64) (.pair .str .unit)), P_paths_Mark⟩
theorem h_paths_Mark : Holds Tryz.prog glob 81 c_paths_Mark := holds_at (con := [(98, c_strings_HasPrefix), (99, c_strings_CutPrefix), (100, c_slices_Contains_string_string)]) (rcon := []) ((con_cons h_strings_HasPrefix (con_cons h_strings_CutPrefix (con_cons h_slices_Contains_string_string con_nil)))) (rcon_nil) (fn := Tryz.f81) rfl (by kernel_rfl) (fun x => by kernel_rfl)
noncomputable def c_tree_isPath : Con := ⟨(.pair .str .unit), (.pair .bool .unit), P_tree_isPath⟩
theorem h_tree_isPath : Holds Tryz.prog glob 53 c_tree_isPath := holds_at (con := [(28, c_paths_Split), (80, c_paths_Clean), (81, c_paths_Mark)]) (rcon := []) ((con_cons h_paths_Split (con_cons h_paths_Clean (con_cons h_paths_Mark con_nil)))) (rcon_nil) (fn := Tryz.f53) rfl (by kernel_rfl) (fun x => by kernel_rfl)
noncomputable def c_tree_is : Con := ⟨(.pair (.pair .str (.pair (.int .i64) (.pair (.int .i64) (.pair .str (.pair .str .unit))))) .unit), (.pair .bool .unit), P_tree_is⟩
theorem h_tree_is : Holds Tryz.prog glob 27 c_tree_is := holds_at (con := [(53, c_tree_isPath), (54, c_strings_IndexByte)]) (rcon := []) ((con_cons h_tree_isPath (con_cons h_strings_IndexByte con_nil))) (rcon_nil) (fn := Tryz.f27) rfl (by kernel_rfl) (fun x => by kernel_rfl)
noncomputable def c_cmp_isNaN_string : Con := ⟨(.pair .str .unit), (.pair .bool .unit), P_cmp_isNaN_string⟩
theorem h_cmp_isNaN_string : Holds Tryz.prog glob 89 c_cmp_isNaN_string := holds_at (con := []) (rcon := []) (con_nil) (rcon_nil) (fn := Tryz.f89) rfl (by kernel_rfl) (fun x => by kernel_rfl)
noncomputable def c_cmp_Compare_string : Con := ⟨(.pair .str (.pair .str .unit)), (.pair (.int .i64) .unit), P_cmp_Compare_string⟩
theorem h_cmp_Compare_string : Holds Tryz.prog glob 68 c_cmp_Compare_string := holds_at (con := [(89, c_cmp_isNaN_string)]) (rcon := []) ((con_cons h_cmp_isNaN_string con_nil)) (rcon_nil) (fn := Tryz.f68) rfl (by kernel_rfl) (fun x => by kernel_rfl)
noncomputable def c_paths_Compare : Con := ⟨(.pair .str (.pair .str .unit)), (.pair (.int .i64) .unit), P_paths_Compare⟩
theorem h_paths_Compare : Holds Tryz.prog glob 39 c_paths_Compare := holds_at (con := [(67, c_paths_Parts), (68, c_cmp_Compare_string)]) (rcon := []) ((con_cons h_paths_Parts (con_cons h_cmp_Compare_string con_nil))) (rcon_nil) (fn := Tryz.f39) rfl (by kernel_rfl) (fun x => by kernel_rfl)
noncomputable def c_tree_place_c1 : Con := ⟨(.pair (.pair .str (.pair (.int .i64) (.pair (.int .i64) (.pair .str (.pair .str .unit))))) (.pair .str .unit)), (.pair (.int .i64) .unit), P_tree_place_c1⟩
theorem h_tree_place_c1 : Holds Tryz.prog glob 57 c_tree_place_c1 := holds_at (con := [(39, c_paths_Compare)]) (rcon := []) ((con_cons h_paths_Compare con_nil)) (rcon_nil) (fn := Tryz.f57) rfl (by kernel_rfl) (fun x => by kernel_rfl)
noncomputable def c_tree_place : Con := ⟨(.pair (.slice (.pair .str (.pair (.int .i64) (.pair (.int .i64) (.pair .str (.pair .str .unit)))))) (.pair .str .unit)), (.pair (.int .i64) (.pair .bool .unit)), P_tree_place⟩
theorem h_tree_place : Holds Tryz.prog glob 30 c_tree_place := holds_at (con := [(57, c_tree_place_c1)]) (rcon := []) ((con_cons h_tree_place_c1 con_nil)) (rcon_nil) (fn := Tryz.f30) rfl (by kernel_rfl) (fun x => by kernel_rfl)
noncomputable def c_tree_dir : Con := ⟨(.pair (.slice (.pair .str (.pair (.int .i64) (.pair (.int .i64) (.pair .str (.pair .str .unit)))))) (.pair .str .unit)), (.pair (.int .i64) .unit), P_tree_dir⟩
theorem h_tree_dir : Holds Tryz.prog glob 29 c_tree_dir := holds_at (con := [(30, c_tree_place)]) (rcon := []) ((con_cons h_tree_place con_nil)) (rcon_nil) (fn := Tryz.f29) rfl (by kernel_rfl) (fun x => by kernel_rfl)
noncomputable def c_tree_Check : Con := ⟨(.pair (.slice (.pair .str (.pair (.int .i64) (.pair (.int .i64) (.pair .str (.pair .str .unit)))))) .unit), (.pair (.int .i64) .unit), P_tree_Check⟩
theorem h_tree_Check : Holds Tryz.prog glob 11 c_tree_Check := holds_at (con := [(27, c_tree_is), (28, c_paths_Split), (29, c_tree_dir), (39, c_paths_Compare)]) (rcon := []) ((con_cons h_tree_is (con_cons h_paths_Split (con_cons h_tree_dir (con_cons h_paths_Compare con_nil))))) (rcon_nil) (fn := Tryz.f11) rfl (by kernel_rfl) (fun x => by kernel_rfl)
noncomputable def c_slices_Clone_api_TreeNode_api_TreeNode : Con := ⟨(.pair (.slice (.pair .str (.pair (.int .i64) (.pair (.int .i64) (.pair .str (.pair .str .unit)))))) .unit), (.pair (.slice (.pair .str (.pair (.int .i64) (.pair (.int .i64) (.pair .str (.pair .str .unit)))))) .unit), P_slices_Clone_api_TreeNode_api_TreeNode⟩
theorem h_slices_Clone_api_TreeNode_api_TreeNode : Holds Tryz.prog glob 31 c_slices_Clone_api_TreeNode_api_TreeNode := by
  refine clone_holds (P := Tryz.prog) (cx := cxOf [] []) (bf := [5]) (e := (.pair .str (.pair (.int .i64) (.pair (.int .i64) (.pair .str (.pair .str .unit)))))) (tid := 22) (fn := Tryz.f31) (s0 := fun l => (argSt (fun _ => none) [.data (.slice (.pair .str (.pair (.int .i64) (.pair (.int .i64) (.pair .str (.pair .str .unit)))))) l]).put 2 (.data (.slice (.pair .str (.pair (.int .i64) (.pair (.int .i64) (.pair .str (.pair .str .unit)))))) ([] : List ((.pair .str (.pair (.int .i64) (.pair (.int .i64) (.pair .str (.pair .str .unit))))) : Ty).den))) mix (cx_ok [] []) (conOk_of con_nil rcon_nil spc_ok) Tryz.func31 (by kernel_rfl)
    (by rfl) rfl (by decide) (by decide) rfl rfl rfl rfl rfl rfl (fun l => by rfl) (fun l => rfl) (fun l => rfl) (fun l => rfl) (fun l => by rfl) (fun l hl => ?_)
  have key : ∀ m : List ((.pair .str (.pair (.int .i64) (.pair (.int .i64) (.pair .str (.pair .str .unit))))) : Ty).den, fits (len m) = true → sel (fits (plus (len ([] : List ((.pair .str (.pair (.int .i64) (.pair (.int .i64) (.pair .str (.pair .str .unit))))) : Ty).den)) (len m))) (some ((app [] m, ()) : (Ty.pair (.slice (.pair .str (.pair (.int .i64) (.pair (.int .i64) (.pair .str (.pair .str .unit)))))) .unit).den)) none = some (m, ()) := by
    intro m hm
    have e : plus (len ([] : List ((.pair .str (.pair (.int .i64) (.pair (.int .i64) (.pair .str (.pair .str .unit))))) : Ty).den)) (len m) = len m := by simp [plus, len]
    rw [e, hm]
    rfl
  exact Eq.trans (b := sel (fits (plus (len ([] : List ((.pair .str (.pair (.int .i64) (.pair (.int .i64) (.pair .str (.pair .str .unit))))) : Ty).den)) (len (α := ((.pair .str (.pair (.int .i64) (.pair (.int .i64) (.pair .str (.pair .str .unit))))) : Ty).den) l))) (some ((app (α := ((.pair .str (.pair (.int .i64) (.pair (.int .i64) (.pair .str (.pair .str .unit))))) : Ty).den) [] l, ()) : (Ty.pair (.slice (.pair .str (.pair (.int .i64) (.pair (.int .i64) (.pair .str (.pair .str .unit)))))) .unit).den)) none) (by rfl) (key l hl)
noncomputable def c_slices_Equal_string_string : Con := ⟨(.pair (.slice .str) (.pair (.slice .str) .unit)), (.pair .bool .unit), P_slices_Equal_string_string⟩
theorem h_slices_Equal_string_string : Holds Tryz.prog glob 79 c_slices_Equal_string_string := holds_at (con := []) (rcon := []) (con_nil) (rcon_nil) (fn := Tryz.f79) rfl (by kernel_rfl) (fun x => by kernel_rfl)
noncomputable def c_paths_Under : Con := ⟨(.pair .str (.pair .str .unit)), (.pair .bool .unit), P_paths_Under⟩
theorem h_paths_Under : Holds Tryz.prog glob 50 c_paths_Under := holds_at (con := [(67, c_paths_Parts), (79, c_slices_Equal_string_string)]) (rcon := []) ((con_cons h_paths_Parts (con_cons h_slices_Equal_string_string con_nil))) (rcon_nil) (fn := Tryz.f50) rfl (by kernel_rfl) (fun x => by kernel_rfl)
noncomputable def c_tree_Put : Con := ⟨(.pair (.slice (.pair .str (.pair (.int .i64) (.pair (.int .i64) (.pair .str (.pair .str .unit)))))) (.pair (.pair .str (.pair (.int .i64) (.pair (.int .i64) (.pair .str (.pair .str .unit))))) .unit)), (.pair (.slice (.pair .str (.pair (.int .i64) (.pair (.int .i64) (.pair .str (.pair .str .unit)))))) (.pair (.int .i64) .unit)), P_tree_Put⟩
theorem h_tree_Put : Holds Tryz.prog glob 8 c_tree_Put := holds_at (con := [(11, c_tree_Check), (27, c_tree_is), (28, c_paths_Split), (29, c_tree_dir), (30, c_tree_place), (31, c_slices_Clone_api_TreeNode_api_TreeNode), (50, c_paths_Under)]) (rcon := []) ((con_cons h_tree_Check (con_cons h_tree_is (con_cons h_paths_Split (con_cons h_tree_dir (con_cons h_tree_place (con_cons h_slices_Clone_api_TreeNode_api_TreeNode (con_cons h_paths_Under con_nil)))))))) (rcon_nil) (fn := Tryz.f8) rfl (by kernel_rfl) (fun x => by kernel_rfl)
noncomputable def c_ref14_Same : Con := ⟨(.pair (.slice (.pair .str (.pair (.int .i64) (.pair (.int .i64) (.pair .str (.pair .str .unit)))))) (.pair (.slice (.pair .str (.pair (.int .i64) (.pair (.int .i64) (.pair .str (.pair .str .unit)))))) .unit)), (.pair .bool .unit), P_ref14_Same⟩
theorem h_ref14_Same : Holds Tryz.prog glob 10 c_ref14_Same := holds_at (con := []) (rcon := []) (con_nil) (rcon_nil) (fn := Tryz.f10) rfl (by kernel_rfl) (fun x => by kernel_rfl)
noncomputable def c_digits_Octal : Con := ⟨(.pair (.int .i64) (.pair (.int .i64) .unit)), (.pair .str (.pair .bool .unit)), P_digits_Octal⟩
theorem h_digits_Octal : Holds Tryz.prog glob 40 c_digits_Octal := holds_at (con := []) (rcon := []) (con_nil) (rcon_nil) (fn := Tryz.f40) rfl (by kernel_rfl) (fun x => by kernel_rfl)
noncomputable def c_digits_Hex : Con := ⟨(.pair .str .unit), (.pair .str .unit), P_digits_Hex⟩
theorem h_digits_Hex : Holds Tryz.prog glob 41 c_digits_Hex := holds_at (con := []) (rcon := []) (con_nil) (rcon_nil) (fn := Tryz.f41) rfl (by kernel_rfl) (fun x => by kernel_rfl)
noncomputable def c_tree_line : Con := ⟨(.pair (.slice .str) .unit), (.pair .str .unit), P_tree_line⟩
theorem h_tree_line : Holds Tryz.prog glob 43 c_tree_line := holds_at (con := [(71, c_strings_Join)]) (rcon := []) ((con_cons h_strings_Join con_nil)) (rcon_nil) (fn := Tryz.f43) rfl (by kernel_rfl) (fun x => by kernel_rfl)
noncomputable def c_sha_begin : Con := ⟨.unit, (.pair (.arr 8 (.int .u32)) .unit), P_sha_begin⟩
theorem h_sha_begin : Holds Tryz.prog glob 114 c_sha_begin := holds_at (con := []) (rcon := []) (con_nil) (rcon_nil) (fn := Tryz.f114) rfl (by kernel_rfl) (fun x => by kernel_rfl)
noncomputable def c_sha_round : Con := ⟨.unit, (.pair (.arr 64 (.int .u32)) .unit), P_sha_round⟩
theorem h_sha_round : Holds Tryz.prog glob 115 c_sha_round := holds_at (con := []) (rcon := []) (con_nil) (rcon_nil) (fn := Tryz.f115) rfl (by kernel_rfl) (fun x => by kernel_rfl)
noncomputable def c_math_bits_RotateLeft32 : Con := ⟨(.pair (.int .u32) (.pair (.int .i64) .unit)), (.pair (.int .u32) .unit), P_math_bits_RotateLeft32⟩
theorem h_math_bits_RotateLeft32 : Holds Tryz.prog glob 122 c_math_bits_RotateLeft32 := holds_at (con := []) (rcon := []) (con_nil) (rcon_nil) (fn := Tryz.f122) rfl (by kernel_rfl) (fun x => by kernel_rfl)
noncomputable def c_sha_right : Con := ⟨(.pair (.int .u32) (.pair (.int .i64) .unit)), (.pair (.int .u32) .unit), P_sha_right⟩
theorem h_sha_right : Holds Tryz.prog glob 117 c_sha_right := holds_at (con := [(122, c_math_bits_RotateLeft32)]) (rcon := []) ((con_cons h_math_bits_RotateLeft32 con_nil)) (rcon_nil) (fn := Tryz.f117) rfl (by kernel_rfl) (fun x => by kernel_rfl)
noncomputable def c_sha_schedule : Con := ⟨(.pair (.arr 64 (.int .u8)) .unit), (.pair (.arr 64 (.int .u32)) .unit), P_sha_schedule⟩
theorem h_sha_schedule : Holds Tryz.prog glob 116 c_sha_schedule := holds_at (con := [(117, c_sha_right)]) (rcon := []) ((con_cons h_sha_right con_nil)) (rcon_nil) (fn := Tryz.f116) rfl (by kernel_rfl) (fun x => by kernel_rfl)
noncomputable def c_sha_words_block : RCon := ⟨[true, false], (.pair (.arr 64 (.int .u8)) .unit), (.pair (.pair .bool (.pair (.arr 8 (.int .u32)) .unit)) .unit), .unit, P_sha_words_block⟩
theorem h_sha_words_block : RHolds Tryz.prog glob 106 c_sha_words_block := rholds_at (con := [(114, c_sha_begin), (115, c_sha_round), (116, c_sha_schedule), (117, c_sha_right)]) (rcon := []) ((con_cons h_sha_begin (con_cons h_sha_round (con_cons h_sha_schedule (con_cons h_sha_right con_nil))))) (rcon_nil) (fn := Tryz.f106) rfl (by kernel_rfl) (fun x => by kernel_rfl)
noncomputable def c_sha_Stream_Add : RCon := ⟨[true, false], (.pair .str .unit), (.pair (.pair (.pair .bool (.pair (.arr 8 (.int .u32)) .unit)) (.pair (.arr 64 (.int .u8)) (.pair (.int .i64) .unit))) .unit), .unit, P_sha_Stream_Add⟩
theorem h_sha_Stream_Add : RHolds Tryz.prog glob 92 c_sha_Stream_Add := rholds_at (con := [(114, c_sha_begin), (115, c_sha_round), (116, c_sha_schedule), (117, c_sha_right)]) (rcon := [(106, c_sha_words_block)]) ((con_cons h_sha_begin (con_cons h_sha_round (con_cons h_sha_schedule (con_cons h_sha_right con_nil))))) ((rcon_cons h_sha_words_block rcon_nil)) (fn := Tryz.f92) rfl (by kernel_rfl) (fun x => by kernel_rfl)
noncomputable def c_sha_Stream_Sum : RCon := ⟨[true], .unit, (.pair (.pair (.pair .bool (.pair (.arr 8 (.int .u32)) .unit)) (.pair (.arr 64 (.int .u8)) (.pair (.int .i64) .unit))) .unit), (.pair (.arr 32 (.int .u8)) .unit), P_sha_Stream_Sum⟩
theorem h_sha_Stream_Sum : RHolds Tryz.prog glob 93 c_sha_Stream_Sum := rholds_at (con := [(114, c_sha_begin), (115, c_sha_round), (116, c_sha_schedule), (117, c_sha_right)]) (rcon := [(92, c_sha_Stream_Add), (106, c_sha_words_block)]) ((con_cons h_sha_begin (con_cons h_sha_round (con_cons h_sha_schedule (con_cons h_sha_right con_nil))))) ((rcon_cons h_sha_Stream_Add (rcon_cons h_sha_words_block rcon_nil))) (fn := Tryz.f93) rfl (by kernel_rfl) (fun x => by kernel_rfl)
noncomputable def c_sha_Sum : Con := ⟨(.pair .str .unit), (.pair (.arr 32 (.int .u8)) .unit), P_sha_Sum⟩
theorem h_sha_Sum : Holds Tryz.prog glob 72 c_sha_Sum := holds_at (con := [(114, c_sha_begin), (115, c_sha_round), (116, c_sha_schedule), (117, c_sha_right)]) (rcon := [(92, c_sha_Stream_Add), (93, c_sha_Stream_Sum), (106, c_sha_words_block)]) ((con_cons h_sha_begin (con_cons h_sha_round (con_cons h_sha_schedule (con_cons h_sha_right con_nil))))) ((rcon_cons h_sha_Stream_Add (rcon_cons h_sha_Stream_Sum (rcon_cons h_sha_words_block rcon_nil)))) (fn := Tryz.f72) rfl (by kernel_rfl) (fun x => by kernel_rfl)
noncomputable def c_digest_Of : Con := ⟨(.pair .str .unit), (.pair .str .unit), P_digest_Of⟩
theorem h_digest_Of : Holds Tryz.prog glob 44 c_digest_Of := holds_at (con := [(41, c_digits_Hex), (72, c_sha_Sum)]) (rcon := []) ((con_cons h_digits_Hex (con_cons h_sha_Sum con_nil))) (rcon_nil) (fn := Tryz.f44) rfl (by kernel_rfl) (fun x => by kernel_rfl)
noncomputable def c_tree_Text : Con := ⟨(.pair (.slice (.pair .str (.pair (.int .i64) (.pair (.int .i64) (.pair .str (.pair .str .unit)))))) .unit), (.pair .str .unit), P_tree_Text⟩
theorem h_tree_Text : Holds Tryz.prog glob 12 c_tree_Text := holds_at (con := [(11, c_tree_Check), (40, c_digits_Octal), (41, c_digits_Hex), (43, c_tree_line), (44, c_digest_Of)]) (rcon := []) ((con_cons h_tree_Check (con_cons h_digits_Octal (con_cons h_digits_Hex (con_cons h_tree_line (con_cons h_digest_Of con_nil)))))) (rcon_nil) (fn := Tryz.f12) rfl (by kernel_rfl) (fun x => by kernel_rfl)
noncomputable def c_tree_Find : Con := ⟨(.pair (.slice (.pair .str (.pair (.int .i64) (.pair (.int .i64) (.pair .str (.pair .str .unit)))))) (.pair .str .unit)), (.pair (.pair .str (.pair (.int .i64) (.pair (.int .i64) (.pair .str (.pair .str .unit))))) (.pair .bool .unit)), P_tree_Find⟩
theorem h_tree_Find : Holds Tryz.prog glob 14 c_tree_Find := holds_at (con := [(11, c_tree_Check), (30, c_tree_place)]) (rcon := []) ((con_cons h_tree_Check (con_cons h_tree_place con_nil))) (rcon_nil) (fn := Tryz.f14) rfl (by kernel_rfl) (fun x => by kernel_rfl)
noncomputable def c_tree_List : Con := ⟨(.pair (.slice (.pair .str (.pair (.int .i64) (.pair (.int .i64) (.pair .str (.pair .str .unit)))))) (.pair .str .unit)), (.pair (.slice .str) (.pair (.int .i64) .unit)), P_tree_List⟩
theorem h_tree_List : Holds Tryz.prog glob 16 c_tree_List := holds_at (con := [(11, c_tree_Check), (28, c_paths_Split), (29, c_tree_dir)]) (rcon := []) ((con_cons h_tree_Check (con_cons h_paths_Split (con_cons h_tree_dir con_nil)))) (rcon_nil) (fn := Tryz.f16) rfl (by kernel_rfl) (fun x => by kernel_rfl)
noncomputable def c_ref06_SameTexts : Con := ⟨(.pair (.slice .str) (.pair (.slice .str) .unit)), (.pair .bool .unit), P_ref06_SameTexts⟩
theorem h_ref06_SameTexts : Holds Tryz.prog glob 19 c_ref06_SameTexts := holds_at (con := []) (rcon := []) (con_nil) (rcon_nil) (fn := Tryz.f19) rfl (by kernel_rfl) (fun x => by kernel_rfl)
noncomputable def c_law14_dir : Con := ⟨(.pair .str .unit), (.pair (.pair .str (.pair (.int .i64) (.pair (.int .i64) (.pair .str (.pair .str .unit))))) .unit), P_law14_dir⟩
theorem h_law14_dir : Holds Tryz.prog glob 25 c_law14_dir := holds_at (con := []) (rcon := []) (con_nil) (rcon_nil) (fn := Tryz.f25) rfl (by kernel_rfl) (fun x => by kernel_rfl)
noncomputable def c_law14_file : Con := ⟨(.pair .str (.pair .str .unit)), (.pair (.pair .str (.pair (.int .i64) (.pair (.int .i64) (.pair .str (.pair .str .unit))))) .unit), P_law14_file⟩
theorem h_law14_file : Holds Tryz.prog glob 26 c_law14_file := holds_at (con := []) (rcon := []) (con_nil) (rcon_nil) (fn := Tryz.f26) rfl (by kernel_rfl) (fun x => by kernel_rfl)
noncomputable def c_law14_awake : Con := ⟨.unit, (.pair .bool .unit), P_law14_awake⟩
theorem h_law14_awake : Holds Tryz.prog glob 7 c_law14_awake := holds_at (con := [(8, c_tree_Put), (10, c_ref14_Same), (11, c_tree_Check), (12, c_tree_Text), (14, c_tree_Find), (16, c_tree_List), (19, c_ref06_SameTexts), (25, c_law14_dir), (26, c_law14_file)]) (rcon := []) ((con_cons h_tree_Put (con_cons h_ref14_Same (con_cons h_tree_Check (con_cons h_tree_Text (con_cons h_tree_Find (con_cons h_tree_List (con_cons h_ref06_SameTexts (con_cons h_law14_dir (con_cons h_law14_file con_nil)))))))))) (rcon_nil) (fn := Tryz.f7) rfl (by kernel_rfl) (fun x => by kernel_rfl)
end Go.Proofs.YtnmllijemdpcoaaGreatDoor.First
