/- The layer's functions keep their contracts: each comes to its plain definition, by the ghost interpreter. -/
import Derived.Test.YtnmllijemdpcoaaDoorRows
import Derived.Test.YtnmllijemdpcoaaDoorGp14
import Derived.Test.YtnmllijemdpcoaaDoorBld
import Derived.Test.YtnmllijemdpcoaaDoorShelf
namespace Go.Proofs.YtnmllijemdpcoaaDoor
open Go Go.Ge
set_option linter.unusedVariables false
set_option maxRecDepth 100000

noncomputable def plans : Nat → FPlan
  | 3 => ⟨[none, some ⟨[(2, 4), (3, 22), (4, 3)], [], false⟩, none, none, none, none, some ⟨[(2, 4), (12, 3)], [], false⟩, none, none], []⟩
  | 4 => ⟨[some ⟨[(4, 4), (5, 3)], [], false⟩, none, none], []⟩
  | 5 => ⟨[], []⟩
  | 6 => ⟨[none, none, none, none], [55]⟩
  | 7 => ⟨[none, none], []⟩
  | 8 => ⟨[none, some ⟨[(2, 25), (12, 3)], [], false⟩, none, none], []⟩
  | 9 => ⟨[none, some ⟨[(4, 4), (7, 3)], [], false⟩, none, none], []⟩
  | 10 => ⟨[], []⟩
  | 11 => ⟨[], []⟩
  | 12 => ⟨[none, none, some ⟨[(7, 37), (23, 3)], [7], false⟩, none, some ⟨[(7, 37)], [7], false⟩], [7]⟩
  | 13 => ⟨[none, some ⟨[(4, 4), (5, 3)], [], false⟩, none, none], []⟩
  | 14 => ⟨[none, some ⟨[(4, 4), (5, 3)], [], false⟩, none, none], []⟩
  | 15 => ⟨[none, some ⟨[(14, 3)], [3], false⟩, none, some ⟨[], [3], false⟩, some ⟨[], [3], false⟩], []⟩
  | 16 => ⟨[none, none, none, none], []⟩
  | 17 => ⟨[none], []⟩
  | 18 => ⟨[none, none, none], []⟩
  | 19 => ⟨[], []⟩
  | 20 => ⟨[none], [5]⟩
  | 21 => ⟨[], []⟩
  | 23 => ⟨[], []⟩
  | 24 => ⟨[none, some ⟨[(3, 37), (4, 9), (5, 3)], [3], false⟩, none, some ⟨[(3, 37), (4, 9)], [3], false⟩], [3]⟩
  | 25 => ⟨[none, some ⟨[(0, 3), (19, 3)], [6], false⟩, none, none], []⟩
  | 26 => ⟨[some ⟨[(9, 3)], [3], false⟩, none], []⟩
  | 27 => ⟨[], []⟩
  | 28 => ⟨[], []⟩
  | 29 => ⟨[], []⟩
  | 31 => ⟨[], []⟩
  | 32 => ⟨[], []⟩
  | 33 => ⟨[none, none, none, none, none], []⟩
  | 34 => ⟨[some ⟨[(9, 3), (10, 3)], [1, 2], false⟩, none, some ⟨[(9, 3), (10, 3)], [], false⟩], []⟩
  | 35 => ⟨[], []⟩
  | 36 => ⟨[none], [9]⟩
  | 37 => ⟨[], []⟩
  | 38 => ⟨[], []⟩
  | 41 => ⟨[some ⟨[(6, 3), (13, 3)], [2], false⟩, none, none, none, none], []⟩
  | 42 => ⟨[none], []⟩
  | 43 => ⟨[none, none, none, none, none], []⟩
  | 44 => ⟨[], []⟩
  | 47 => ⟨[], []⟩
  | 48 => ⟨[some ⟨[(2, 9), (3, 25), (4, 37), (11, 3)], [4], false⟩, none, some ⟨[(2, 9), (3, 25), (4, 37)], [4], false⟩, none, none], [4]⟩
  | 49 => ⟨[none, none, none], []⟩
  | 51 => ⟨[some ⟨[(4, 3), (5, 3)], [], false⟩, none, none], []⟩
  | 52 => ⟨[some ⟨[(9, 90), (10, 3)], [], false⟩, none, none, some ⟨[(4, 3), (9, 90), (11, 3)], [], false⟩, none, none], []⟩
  | 53 => ⟨[none, some ⟨[(5, 3), (6, 3), (0, 999999)], [0, 1], false⟩, none, some ⟨[(5, 3), (0, 999999)], [0], false⟩], []⟩
  | 54 => ⟨[], []⟩
  | 55 => ⟨[none, some ⟨[(4, 4), (13, 3)], [], false⟩, none, none], []⟩
  | 58 => ⟨[], []⟩
  | 61 => ⟨[none, some ⟨[(1, 9)], [0], false⟩, none, some ⟨[], [0], false⟩], []⟩
  | 62 => ⟨[some ⟨[], [3], false⟩, some ⟨[], [3], false⟩, none, some ⟨[(26, 3)], [5], false⟩, none, some ⟨[(41, 3)], [7], false⟩, none], []⟩
  | 63 => ⟨[some ⟨[(2, 4), (6, 3)], [], false⟩, none, none], []⟩
  | 64 => ⟨[], []⟩
  | 65 => ⟨[], []⟩
  | 66 => ⟨[], []⟩
  | 68 => ⟨[some ⟨[(4, 90), (5, 3)], [], false⟩, none, some ⟨[(6, 90), (7, 90), (8, 3)], [], false⟩, none, some ⟨[(6, 90)], [], false⟩], []⟩
  | 69 => ⟨[some ⟨[(4, 3), (8, 3)], [1], false⟩, none, none], []⟩
  | 73 => ⟨[some ⟨[], [0], false⟩, some ⟨[(6, 90), (7, 90), (8, 90), (9, 90), (10, 90), (11, 90), (12, 90), (13, 90), (74, 3)], [], false⟩, none, some ⟨[(143, 3)], [0], false⟩, none], []⟩
  | 74 => ⟨[], []⟩
  | 75 => ⟨[none], []⟩
  | 76 => ⟨[some ⟨[(4, 3), (8, 3)], [], false⟩, none, none], []⟩
  | 81 => ⟨[], []⟩
  | 82 => ⟨[], []⟩
  | 83 => ⟨[some ⟨[(12, 3)], [3], false⟩, none, some ⟨[(22, 3)], [3], false⟩, none, some ⟨[(7, 3)], [3], false⟩, none], []⟩
  | 84 => ⟨[], []⟩
  | 89 => ⟨[], []⟩
  | _ => ⟨[], []⟩

def objs : List (Nat × List OFld) := [(57, [.self, .buf (.int .u8) 5])]
def els : List (Nat × Nat) := [(55, 5)]
noncomputable def spc : List (Nat × Spc) := [(30, .str 57 5), (45, .chk 57), (20, .clone (.pair .str (.pair (.int .i64) (.pair (.int .i64) (.pair .str (.pair .str .unit)))))), (22, (.own (.pair .str (.pair (.int .i64) (.pair (.int .i64) (.pair .str (.pair .str .unit))))) (.pair (.int .i64) (.pair (.slice (.pair .str (.pair (.int .i64) (.pair (.int .i64) (.pair .str (.pair .str .unit)))))) .unit)) true P_slices_Insert_api_TreeNode_api_TreeNode))]
noncomputable def tys : List (Nat × Ty) := [(3, (.int .i64)), (4, .bool), (5, (.int .u8)), (9, .str), (21, (.int .i32)), (22, (.slice (.pair .str (.pair (.int .i64) (.pair (.int .i64) (.pair .str (.pair .str .unit))))))), (25, (.int .i64)), (29, (.pair .str (.pair (.int .i64) (.pair (.int .i64) (.pair .str (.pair .str .unit)))))), (37, (.slice .str)), (55, (.slice (.int .u8))), (74, (.arr 21 (.int .u8))), (75, (.int .u64)), (78, (.arr 32 (.int .u8))), (90, (.int .u32)), (91, (.arr 8 (.int .u32))), (93, (.pair .bool (.pair (.arr 8 (.int .u32)) .unit))), (94, (.arr 64 (.int .u8))), (96, (.pair (.pair .bool (.pair (.arr 8 (.int .u32)) .unit)) (.pair (.arr 64 (.int .u8)) (.pair (.int .i64) .unit)))), (108, (.int .u64)), (109, (.arr 8 (.int .u8))), (110, (.arr 2 .str)), (116, (.arr 64 (.int .u32))), (124, (.arr 256 (.int .u8))), (126, (.pair (.int .u8) (.pair (.int .u8) .unit))), (127, (.arr 16 (.pair (.int .u8) (.pair (.int .u8) .unit))))]
noncomputable def funs : List (Nat × Func) := [(3, Tryd.f3), (4, Tryd.f4), (5, Tryd.f5), (6, Tryd.f6), (7, Tryd.f7), (8, Tryd.f8), (9, Tryd.f9), (10, Tryd.f10), (11, Tryd.f11), (12, Tryd.f12), (13, Tryd.f13), (14, Tryd.f14), (15, Tryd.f15), (16, Tryd.f16), (17, Tryd.f17), (18, Tryd.f18), (19, Tryd.f19), (20, Tryd.f20), (21, Tryd.f21), (23, Tryd.f23), (24, Tryd.f24), (25, Tryd.f25), (26, Tryd.f26), (27, Tryd.f27), (28, Tryd.f28), (29, Tryd.f29), (31, Tryd.f31), (32, Tryd.f32), (33, Tryd.f33), (34, Tryd.f34), (35, Tryd.f35), (36, Tryd.f36), (37, Tryd.f37), (38, Tryd.f38), (41, Tryd.f41), (42, Tryd.f42), (43, Tryd.f43), (44, Tryd.f44), (47, Tryd.f47), (48, Tryd.f48), (49, Tryd.f49), (51, Tryd.f51), (52, Tryd.f52), (53, Tryd.f53), (54, Tryd.f54), (55, Tryd.f55), (58, Tryd.f58), (61, Tryd.f61), (62, Tryd.f62), (63, Tryd.f63), (64, Tryd.f64), (65, Tryd.f65), (66, Tryd.f66), (68, Tryd.f68), (69, Tryd.f69), (73, Tryd.f73), (74, Tryd.f74), (75, Tryd.f75), (76, Tryd.f76), (81, Tryd.f81), (82, Tryd.f82), (83, Tryd.f83), (84, Tryd.f84), (89, Tryd.f89)]
def ones : List Nat := [43, 52, 54, 67, 70, 80, 106, 114]
def ptrs : List Nat := [54, 80, 106, 114]
noncomputable def cxOf (con : List (Nat × Con)) (rcon : List (Nat × RCon)) : Ctx := ⟨tys, ones, ptrs, funs, con, rcon, objs, spc, els⟩

theorem mix : Tryd.prog.follows .mixedOrders = true := by kernel_rfl

theorem T_ok : ∀ tid t, find tys tid = some t → Den Tryd.prog t tid := tys_ok (by kernel_rfl)
theorem ones_ok : ∀ tid, memN ones tid = true → (∀ w, (isAgg tid).run Tryd.prog w = .ok false w) ∧ (∀ w, (Go.sizeOf tid).run Tryd.prog w = .ok 1 w) ∧ ∃ z, (∀ w, (zeroValue tid).run Tryd.prog w = .ok z w) ∧ z.oneCell' = true := ones_of (by kernel_rfl)
theorem ptrs_ok : ∀ tid, memN ptrs tid = true → ∃ e, Tryd.prog.underlying tid = some (.pointer e) := ptrs_of (by kernel_rfl)
theorem fns_ok : ∀ f fn, find funs f = some fn → Tryd.prog.funcs[f]? = some fn := fns_of ((fns_cons Tryd.func3 (fns_cons Tryd.func4 (fns_cons Tryd.func5 (fns_cons Tryd.func6 (fns_cons Tryd.func7 (fns_cons Tryd.func8 (fns_cons Tryd.func9 (fns_cons Tryd.func10 (fns_cons Tryd.func11 (fns_cons Tryd.func12 (fns_cons Tryd.func13 (fns_cons Tryd.func14 (fns_cons Tryd.func15 (fns_cons Tryd.func16 (fns_cons Tryd.func17 (fns_cons Tryd.func18 (fns_cons Tryd.func19 (fns_cons Tryd.func20 (fns_cons Tryd.func21 (fns_cons Tryd.func23 (fns_cons Tryd.func24 (fns_cons Tryd.func25 (fns_cons Tryd.func26 (fns_cons Tryd.func27 (fns_cons Tryd.func28 (fns_cons Tryd.func29 (fns_cons Tryd.func31 (fns_cons Tryd.func32 (fns_cons Tryd.func33 (fns_cons Tryd.func34 (fns_cons Tryd.func35 (fns_cons Tryd.func36 (fns_cons Tryd.func37 (fns_cons Tryd.func38 (fns_cons Tryd.func41 (fns_cons Tryd.func42 (fns_cons Tryd.func43 (fns_cons Tryd.func44 (fns_cons Tryd.func47 (fns_cons Tryd.func48 (fns_cons Tryd.func49 (fns_cons Tryd.func51 (fns_cons Tryd.func52 (fns_cons Tryd.func53 (fns_cons Tryd.func54 (fns_cons Tryd.func55 (fns_cons Tryd.func58 (fns_cons Tryd.func61 (fns_cons Tryd.func62 (fns_cons Tryd.func63 (fns_cons Tryd.func64 (fns_cons Tryd.func65 (fns_cons Tryd.func66 (fns_cons Tryd.func68 (fns_cons Tryd.func69 (fns_cons Tryd.func73 (fns_cons Tryd.func74 (fns_cons Tryd.func75 (fns_cons Tryd.func76 (fns_cons Tryd.func81 (fns_cons Tryd.func82 (fns_cons Tryd.func83 (fns_cons Tryd.func84 (fns_cons Tryd.func89 fns_nil)))))))))))))))))))))))))))))))))))))))))))))))))))))))))))))))))
theorem objs_ok : ∀ tid fs, find objs tid = some fs → objB Tryd.prog tid fs = true := objs_of (by kernel_rfl)
theorem els_ok : ∀ tid e, find els tid = some e → Tryd.prog.underlying tid = some (.slice e) := els_of (by kernel_rfl)
theorem cx_ok (con : List (Nat × Con)) (rcon : List (Nat × RCon)) : CxOk Tryd.prog (cxOf con rcon) := ⟨T_ok, ones_ok, ptrs_ok, fns_ok, objs_ok, els_ok⟩
noncomputable def cx0 : Ctx := ⟨tys, ones, ptrs, funs, [], [], objs, [], els⟩
theorem cx0_ok : CxOk Tryd.prog cx0 := ⟨T_ok, ones_ok, ptrs_ok, fns_ok, objs_ok, els_ok⟩
theorem s_slices_Clone_api_TreeNode_api_TreeNode : SpcOk Tryd.prog 20 (.clone (.pair .str (.pair (.int .i64) (.pair (.int .i64) (.pair .str (.pair .str .unit)))))) := by
  refine clone_own (P := Tryd.prog) (cx := cx0) (bf := [2, 5]) (e := (.pair .str (.pair (.int .i64) (.pair (.int .i64) (.pair .str (.pair .str .unit)))))) (tid := 22) (fn := Tryd.f20) (s0 := fun l => ((argSt (fun _ => none) [.data (.slice (.pair .str (.pair (.int .i64) (.pair (.int .i64) (.pair .str (.pair .str .unit)))))) l]).setBox 2 { val := .data (.slice (.pair .str (.pair (.int .i64) (.pair (.int .i64) (.pair .str (.pair .str .unit)))))) ([] : List ((.pair .str (.pair (.int .i64) (.pair (.int .i64) (.pair .str (.pair .str .unit))))) : Ty).den), tid := 0, buf := true, ro := false, lk := false, ver := 0 }).put 2 (.whole 2 0)) mix cx0_ok (conOk_of con_nil rcon_nil spc_nil) Tryd.func20 (by kernel_rfl)
    (by rfl) rfl (by decide) (by decide) rfl rfl rfl rfl rfl rfl (fun l => by rfl) (fun l => rfl) (fun l => rfl) (fun l => rfl) (fun l => by rfl) (fun l hl => ?_)
  have key : ∀ m : List ((.pair .str (.pair (.int .i64) (.pair (.int .i64) (.pair .str (.pair .str .unit))))) : Ty).den, fits (len m) = true → sel (fits (plus (len ([] : List ((.pair .str (.pair (.int .i64) (.pair (.int .i64) (.pair .str (.pair .str .unit))))) : Ty).den)) (len m))) (some (app [] m)) none = some m := by
    intro m hm
    have e : plus (len ([] : List ((.pair .str (.pair (.int .i64) (.pair (.int .i64) (.pair .str (.pair .str .unit))))) : Ty).den)) (len m) = len m := by simp [plus, len]
    rw [e, hm]
    rfl
  exact Eq.trans (b := sel (fits (plus (len ([] : List ((.pair .str (.pair (.int .i64) (.pair (.int .i64) (.pair .str (.pair .str .unit))))) : Ty).den)) (len (α := ((.pair .str (.pair (.int .i64) (.pair (.int .i64) (.pair .str (.pair .str .unit))))) : Ty).den) l))) (some (app (α := ((.pair .str (.pair (.int .i64) (.pair (.int .i64) (.pair .str (.pair .str .unit))))) : Ty).den) [] l)) none) (by rfl) (key l hl)
theorem s_slices_Insert_api_TreeNode_api_TreeNode : SpcOk Tryd.prog 22 (.own (.pair .str (.pair (.int .i64) (.pair (.int .i64) (.pair .str (.pair .str .unit))))) (.pair (.int .i64) (.pair (.slice (.pair .str (.pair (.int .i64) (.pair (.int .i64) (.pair .str (.pair .str .unit)))))) .unit)) true P_slices_Insert_api_TreeNode_api_TreeNode) := by
  have hden : Den Tryd.prog (.pair .str (.pair (.int .i64) (.pair (.int .i64) (.pair .str (.pair .str .unit))))) 29 := by
    show denG Tryd.prog (.pair .str (.pair (.int .i64) (.pair (.int .i64) (.pair .str (.pair .str .unit))))) false 29 0 [] = true
    kernel_rfl
  obtain ⟨ie, ze, e1, e2, e3, e4⟩ := hden.info
  exact ins_own (e := (.pair .str (.pair (.int .i64) (.pair (.int .i64) (.pair .str (.pair .str .unit)))))) (ρ := (⟨fun x => if x = 29 then 39 else if x = 30 then 40 else 22, fun x => if x = 24 then 22 else if x = 9 then 29 else if x = 3 then 3 else if x = 4 then 4 else 0, fun x => x⟩ : Go.Shelf.Ren)) (nm := "slices.Insert[[]cooperage/api.TreeNode,cooperage/api.TreeNode]") ⟨mix, Tryd.func22.trans (congrArg some (by kernel_rfl)),
    fun xs w => run_callFunc_extern (e := Extern.SlicesOverlaps.overlaps #[22, 22] #[4]) Tryd.func39 (by kernel_rfl) (by kernel_rfl) (by kernel_rfl) (by kernel_rfl) xs w,
    by kernel_rfl, by kernel_rfl, by kernel_rfl, fun w => by simp [Go.sizeOf, e1, e2] <;> kernel_rfl, by simp [e1, e2] <;> kernel_rfl⟩ (by decide) hden (by kernel_rfl) (by decide) (by decide)
theorem spc_ok : ∀ p ∈ spc, SpcOk Tryd.prog p.1 p.2 := (spc_cons h_strings_Builder_String (spc_cons h_strings_Builder_copyCheck (spc_cons s_slices_Clone_api_TreeNode_api_TreeNode (spc_cons s_slices_Insert_api_TreeNode_api_TreeNode spc_nil))))
theorem funs_ok (con : List (Nat × Con)) (rcon : List (Nat × RCon)) : FnsOk (cxOf con rcon) := fnsOk_of (cx := cxOf con rcon) (show (funs.all fun p => fnOk p.2) = true by kernel_rfl)

def glob : Globs := noGlobs
theorem holds_at {con : List (Nat × Con)} {rcon : List (Nat × RCon)} (hcon : ∀ p ∈ con, Holds Tryd.prog glob p.1 p.2) (hrcon : ∀ p ∈ rcon, RHolds Tryd.prog glob p.1 p.2) {f : Nat} {fn : Func} {A R : Ty} {spec : A.den → Option R.den} (hfn : find funs f = some fn) (hb : fn.body.isSome = true)
    (hs : ∀ x, sem (cxOf con rcon) 12 plans f A R x = spec x) : Holds Tryd.prog glob f ⟨A, R, spec⟩ := by
  obtain ⟨code, hcode⟩ := Option.isSome_iff_exists.1 hb
  exact holds_of_sem mix (cx_ok con rcon) (conOk_of hcon hrcon spc_ok) (funs_ok con rcon) (f := f) hfn hcode (fun x y h => by rw [hs]; exact h)

theorem rholds_at {con : List (Nat × Con)} {rcon : List (Nat × RCon)} (hcon : ∀ p ∈ con, Holds Tryd.prog glob p.1 p.2) (hrcon : ∀ p ∈ rcon, RHolds Tryd.prog glob p.1 p.2) {f : Nat} {fn : Func} {ps : List Bool} {A U R : Ty} {spec : A.den × U.den → Option (R.den × U.den)} (hfn : find funs f = some fn) (hb : fn.body.isSome = true)
    (hs : ∀ x, semR (cxOf con rcon) 12 plans f ps A U R x = spec x) : RHolds Tryd.prog glob f ⟨ps, A, U, R, spec⟩ := by
  obtain ⟨code, hcode⟩ := Option.isSome_iff_exists.1 hb
  exact rholds_of_sem mix (cx_ok con rcon) (conOk_of hcon hrcon spc_ok) (funs_ok con rcon) (f := f) hfn hcode (fun x y h => by rw [hs]; exact h)

noncomputable def c_ref14_Few : Con := ⟨(.pair (.slice (.pair .str (.pair (.int .i64) (.pair (.int .i64) (.pair .str (.pair .str .unit)))))) (.pair (.int .i64) .unit)), (.pair .bool .unit), P_ref14_Few⟩
theorem h_ref14_Few : Holds Tryd.prog glob 4 c_ref14_Few := holds_at (con := []) (rcon := []) (con_nil) (rcon_nil) (fn := Tryd.f4) rfl (by kernel_rfl) (fun x => by kernel_rfl)
noncomputable def c_internal_bytealg_LastIndexByteString : Con := ⟨(.pair .str (.pair (.int .u8) .unit)), (.pair (.int .i64) .unit), P_internal_bytealg_LastIndexByteString⟩
theorem h_internal_bytealg_LastIndexByteString : Holds Tryd.prog glob 51 c_internal_bytealg_LastIndexByteString := holds_at (con := []) (rcon := []) (con_nil) (rcon_nil) (fn := Tryd.f51) rfl (by kernel_rfl) (fun x => by kernel_rfl)
noncomputable def c_internal_bytealg_hashStrRev_string : Con := ⟨(.pair .str .unit), (.pair (.int .u32) (.pair (.int .u32) .unit)), P_internal_bytealg_hashStrRev_string⟩
theorem h_internal_bytealg_hashStrRev_string : Holds Tryd.prog glob 68 c_internal_bytealg_hashStrRev_string := holds_at (con := []) (rcon := []) (con_nil) (rcon_nil) (fn := Tryd.f68) rfl (by kernel_rfl) (fun x => by kernel_rfl)
noncomputable def c_internal_bytealg_LastIndexRabinKarp_string : Con := ⟨(.pair .str (.pair .str .unit)), (.pair (.int .i64) .unit), P_internal_bytealg_LastIndexRabinKarp_string⟩
theorem h_internal_bytealg_LastIndexRabinKarp_string : Holds Tryd.prog glob 52 c_internal_bytealg_LastIndexRabinKarp_string := holds_at (con := [(68, c_internal_bytealg_hashStrRev_string)]) (rcon := []) ((con_cons h_internal_bytealg_hashStrRev_string con_nil)) (rcon_nil) (fn := Tryd.f52) rfl (by kernel_rfl) (fun x => by kernel_rfl)
noncomputable def c_strings_LastIndex : Con := ⟨(.pair .str (.pair .str .unit)), (.pair (.int .i64) .unit), P_strings_LastIndex⟩
theorem h_strings_LastIndex : Holds Tryd.prog glob 33 c_strings_LastIndex := holds_at (con := [(51, c_internal_bytealg_LastIndexByteString), (52, c_internal_bytealg_LastIndexRabinKarp_string)]) (rcon := []) ((con_cons h_internal_bytealg_LastIndexByteString (con_cons h_internal_bytealg_LastIndexRabinKarp_string con_nil))) (rcon_nil) (fn := Tryd.f33) rfl (by kernel_rfl) (fun x => by kernel_rfl)
noncomputable def c_paths_Split : Con := ⟨(.pair .str .unit), (.pair .str (.pair .str .unit)), P_paths_Split⟩
theorem h_paths_Split : Holds Tryd.prog glob 17 c_paths_Split := holds_at (con := [(33, c_strings_LastIndex)]) (rcon := []) ((con_cons h_strings_LastIndex con_nil)) (rcon_nil) (fn := Tryd.f17) rfl (by kernel_rfl) (fun x => by kernel_rfl)
noncomputable def c_strings_Split : Con := ⟨(.pair .str (.pair .str .unit)), (.pair (.slice .str) .unit), P_strings_Split⟩
theorem h_strings_Split : Holds Tryd.prog glob 57 c_strings_Split := holds_split Tryd.func57 (by kernel_rfl) (by kernel_rfl) (fun s b w hs => Any.strings_Split_byte Tryd.lays146 (by kernel_rfl) s b w hs)
noncomputable def c_paths_Parts : Con := ⟨(.pair .str .unit), (.pair (.slice .str) .unit), P_paths_Parts⟩
theorem h_paths_Parts : Holds Tryd.prog glob 42 c_paths_Parts := holds_at (con := [(57, c_strings_Split)]) (rcon := []) ((con_cons h_strings_Split con_nil)) (rcon_nil) (fn := Tryd.f42) rfl (by kernel_rfl) (fun x => by kernel_rfl)
noncomputable def c_strings_Join : Con := ⟨(.pair (.slice .str) (.pair .str .unit)), (.pair .str .unit), P_strings_Join⟩
theorem h_strings_Join : Holds Tryd.prog glob 46 c_strings_Join := holds_join Tryd.func46 (by kernel_rfl) (by kernel_rfl) Tryd.strings_Join_none Tryd.strings_Join
noncomputable def c_internal_stringslite_IndexByte : Con := ⟨(.pair .str (.pair (.int .u8) .unit)), (.pair (.int .i64) .unit), P_internal_stringslite_IndexByte⟩
theorem h_internal_stringslite_IndexByte : Holds Tryd.prog glob 50 c_internal_stringslite_IndexByte := holds_str_u8 (spec := fun s c => Lib.indexByte s (show Int from c).toNat.toUInt8) Tryd.func50 (by kernel_rfl) (by kernel_rfl) (fun s c => indexByte_range _ s) (fun s c w => by
  go_enter Tryd.func50, Tryd.ntmps50
  go_wp2
  rw [run_callFunc_extern Tryd.func67 (by kernel_rfl) (by kernel_rfl) (by kernel_rfl) (e := Extern.BytealgIndexByte.indexByte) (by kernel_rfl), Lib.run_indexByteString]
  simp only [Result.andThen]
  rw [Oper.upon_value]
  go_wp2
  go_ret
  exact ⟨rfl, rfl⟩)
noncomputable def c_strings_IndexByte : Con := ⟨(.pair .str (.pair (.int .u8) .unit)), (.pair (.int .i64) .unit), P_strings_IndexByte⟩
theorem h_strings_IndexByte : Holds Tryd.prog glob 32 c_strings_IndexByte := holds_at (con := [(50, c_internal_stringslite_IndexByte)]) (rcon := []) ((con_cons h_internal_stringslite_IndexByte con_nil)) (rcon_nil) (fn := Tryd.f32) rfl (by kernel_rfl) (fun x => by kernel_rfl)
noncomputable def c_paths_isName : Con := ⟨(.pair .str .unit), (.pair .bool .unit), P_paths_isName⟩
theorem h_paths_isName : Holds Tryd.prog glob 63 c_paths_isName := holds_at (con := [(32, c_strings_IndexByte)]) (rcon := []) ((con_cons h_strings_IndexByte con_nil)) (rcon_nil) (fn := Tryd.f63) rfl (by kernel_rfl) (fun x => by kernel_rfl)
noncomputable def c_internal_stringslite_HasPrefix : Con := ⟨(.pair .str (.pair .str .unit)), (.pair .bool .unit), P_internal_stringslite_HasPrefix⟩
theorem h_internal_stringslite_HasPrefix : Holds Tryd.prog glob 74 c_internal_stringslite_HasPrefix := holds_at (con := []) (rcon := []) (con_nil) (rcon_nil) (fn := Tryd.f74) rfl (by kernel_rfl) (fun x => by kernel_rfl)
noncomputable def c_strings_HasPrefix : Con := ⟨(.pair .str (.pair .str .unit)), (.pair .bool .unit), P_strings_HasPrefix⟩
theorem h_strings_HasPrefix : Holds Tryd.prog glob 64 c_strings_HasPrefix := holds_at (con := [(74, c_internal_stringslite_HasPrefix)]) (rcon := []) ((con_cons h_internal_stringslite_HasPrefix con_nil)) (rcon_nil) (fn := Tryd.f64) rfl (by kernel_rfl) (fun x => by kernel_rfl)
noncomputable def c_paths_Clean : Con := ⟨(.pair .str .unit), (.pair .str (.pair (.int .i64) .unit)), P_paths_Clean⟩
theorem h_paths_Clean : Holds Tryd.prog glob 48 c_paths_Clean := holds_at (con := [(42, c_paths_Parts), (46, c_strings_Join), (63, c_paths_isName), (64, c_strings_HasPrefix)]) (rcon := []) ((con_cons h_paths_Parts (con_cons h_strings_Join (con_cons h_paths_isName (con_cons h_strings_HasPrefix con_nil))))) (rcon_nil) (fn := Tryd.f48) rfl (by kernel_rfl) (fun x => by kernel_rfl)
noncomputable def c_internal_stringslite_CutPrefix : Con := ⟨(.pair .str (.pair .str .unit)), (.pair .str (.pair .bool .unit)), P_internal_stringslite_CutPrefix⟩
theorem h_internal_stringslite_CutPrefix : Holds Tryd.prog glob 75 c_internal_stringslite_CutPrefix := holds_at (con := [(74, c_internal_stringslite_HasPrefix)]) (rcon := []) ((con_cons h_internal_stringslite_HasPrefix con_nil)) (rcon_nil) (fn := Tryd.f75) rfl (by kernel_rfl) (fun x => by kernel_rfl)
noncomputable def c_strings_CutPrefix : Con := ⟨(.pair .str (.pair .str .unit)), (.pair .str (.pair .bool .unit)), P_strings_CutPrefix⟩
theorem h_strings_CutPrefix : Holds Tryd.prog glob 65 c_strings_CutPrefix := holds_at (con := [(75, c_internal_stringslite_CutPrefix)]) (rcon := []) ((con_cons h_internal_stringslite_CutPrefix con_nil)) (rcon_nil) (fn := Tryd.f65) rfl (by kernel_rfl) (fun x => by kernel_rfl)
noncomputable def c_slices_Index_string_string : Con := ⟨(.pair (.slice .str) (.pair .str .unit)), (.pair (.int .i64) .unit), P_slices_Index_string_string⟩
theorem h_slices_Index_string_string : Holds Tryd.prog glob 76 c_slices_Index_string_string := holds_at (con := []) (rcon := []) (con_nil) (rcon_nil) (fn := Tryd.f76) rfl (by kernel_rfl) (fun x => by kernel_rfl)
noncomputable def c_slices_Contains_string_string : Con := ⟨(.pair (.slice .str) (.pair .str .unit)), (.pair .bool .unit), P_slices_Contains_string_string⟩
theorem h_slices_Contains_string_string : Holds Tryd.prog glob 66 c_slices_Contains_string_string := holds_at (con := [(76, c_slices_Index_string_string)]) (rcon := []) ((con_cons h_slices_Index_string_string con_nil)) (rcon_nil) (fn := Tryd.f66) rfl (by kernel_rfl) (fun x => by kernel_rfl)
noncomputable def c_paths_Mark : Con := ⟨(.pair .str .unit), (.pair (.int .i64) (.pair .str .unit)), P_paths_Mark⟩
theorem h_paths_Mark : Holds Tryd.prog glob 49 c_paths_Mark := holds_at (con := [(64, c_strings_HasPrefix), (65, c_strings_CutPrefix), (66, c_slices_Contains_string_string)]) (rcon := []) ((con_cons h_strings_HasPrefix (con_cons h_strings_CutPrefix (con_cons h_slices_Contains_string_string con_nil)))) (rcon_nil) (fn := Tryd.f49) rfl (by kernel_rfl) (fun x => by kernel_rfl)
noncomputable def c_tree_isPath : Con := ⟨(.pair .str .unit), (.pair .bool .unit), P_tree_isPath⟩
theorem h_tree_isPath : Holds Tryd.prog glob 31 c_tree_isPath := holds_at (con := [(17, c_paths_Split), (48, c_paths_Clean), (49, c_paths_Mark)]) (rcon := []) ((con_cons h_paths_Split (con_cons h_paths_Clean (con_cons h_paths_Mark con_nil)))) (rcon_nil) (fn := Tryd.f31) rfl (by kernel_rfl) (fun x => by kernel_rfl)
noncomputable def c_tree_is : Con := ⟨(.pair (.pair .str (.pair (.int .i64) (.pair (.int .i64) (.pair .str (.pair .str .unit))))) .unit), (.pair .bool .unit), P_tree_is⟩
theorem h_tree_is : Holds Tryd.prog glob 16 c_tree_is := holds_at (con := [(31, c_tree_isPath), (32, c_strings_IndexByte)]) (rcon := []) ((con_cons h_tree_isPath (con_cons h_strings_IndexByte con_nil))) (rcon_nil) (fn := Tryd.f16) rfl (by kernel_rfl) (fun x => by kernel_rfl)
noncomputable def c_cmp_isNaN_string : Con := ⟨(.pair .str .unit), (.pair .bool .unit), P_cmp_isNaN_string⟩
theorem h_cmp_isNaN_string : Holds Tryd.prog glob 58 c_cmp_isNaN_string := holds_at (con := []) (rcon := []) (con_nil) (rcon_nil) (fn := Tryd.f58) rfl (by kernel_rfl) (fun x => by kernel_rfl)
noncomputable def c_cmp_Compare_string : Con := ⟨(.pair .str (.pair .str .unit)), (.pair (.int .i64) .unit), P_cmp_Compare_string⟩
theorem h_cmp_Compare_string : Holds Tryd.prog glob 43 c_cmp_Compare_string := holds_at (con := [(58, c_cmp_isNaN_string)]) (rcon := []) ((con_cons h_cmp_isNaN_string con_nil)) (rcon_nil) (fn := Tryd.f43) rfl (by kernel_rfl) (fun x => by kernel_rfl)
noncomputable def c_paths_Compare : Con := ⟨(.pair .str (.pair .str .unit)), (.pair (.int .i64) .unit), P_paths_Compare⟩
theorem h_paths_Compare : Holds Tryd.prog glob 23 c_paths_Compare := holds_at (con := [(42, c_paths_Parts), (43, c_cmp_Compare_string)]) (rcon := []) ((con_cons h_paths_Parts (con_cons h_cmp_Compare_string con_nil))) (rcon_nil) (fn := Tryd.f23) rfl (by kernel_rfl) (fun x => by kernel_rfl)
noncomputable def c_tree_place_c1 : Con := ⟨(.pair (.pair .str (.pair (.int .i64) (.pair (.int .i64) (.pair .str (.pair .str .unit))))) (.pair .str .unit)), (.pair (.int .i64) .unit), P_tree_place_c1⟩
theorem h_tree_place_c1 : Holds Tryd.prog glob 35 c_tree_place_c1 := holds_at (con := [(23, c_paths_Compare)]) (rcon := []) ((con_cons h_paths_Compare con_nil)) (rcon_nil) (fn := Tryd.f35) rfl (by kernel_rfl) (fun x => by kernel_rfl)
noncomputable def c_tree_place : Con := ⟨(.pair (.slice (.pair .str (.pair (.int .i64) (.pair (.int .i64) (.pair .str (.pair .str .unit)))))) (.pair .str .unit)), (.pair (.int .i64) (.pair .bool .unit)), P_tree_place⟩
theorem h_tree_place : Holds Tryd.prog glob 19 c_tree_place := holds_at (con := [(35, c_tree_place_c1)]) (rcon := []) ((con_cons h_tree_place_c1 con_nil)) (rcon_nil) (fn := Tryd.f19) rfl (by kernel_rfl) (fun x => by kernel_rfl)
noncomputable def c_tree_dir : Con := ⟨(.pair (.slice (.pair .str (.pair (.int .i64) (.pair (.int .i64) (.pair .str (.pair .str .unit)))))) (.pair .str .unit)), (.pair (.int .i64) .unit), P_tree_dir⟩
theorem h_tree_dir : Holds Tryd.prog glob 18 c_tree_dir := holds_at (con := [(19, c_tree_place)]) (rcon := []) ((con_cons h_tree_place con_nil)) (rcon_nil) (fn := Tryd.f18) rfl (by kernel_rfl) (fun x => by kernel_rfl)
noncomputable def c_tree_Check : Con := ⟨(.pair (.slice (.pair .str (.pair (.int .i64) (.pair (.int .i64) (.pair .str (.pair .str .unit)))))) .unit), (.pair (.int .i64) .unit), P_tree_Check⟩
theorem h_tree_Check : Holds Tryd.prog glob 8 c_tree_Check := holds_at (con := [(16, c_tree_is), (17, c_paths_Split), (18, c_tree_dir), (23, c_paths_Compare)]) (rcon := []) ((con_cons h_tree_is (con_cons h_paths_Split (con_cons h_tree_dir (con_cons h_paths_Compare con_nil))))) (rcon_nil) (fn := Tryd.f8) rfl (by kernel_rfl) (fun x => by kernel_rfl)
noncomputable def c_slices_Clone_api_TreeNode_api_TreeNode : Con := ⟨(.pair (.slice (.pair .str (.pair (.int .i64) (.pair (.int .i64) (.pair .str (.pair .str .unit)))))) .unit), (.pair (.slice (.pair .str (.pair (.int .i64) (.pair (.int .i64) (.pair .str (.pair .str .unit)))))) .unit), P_slices_Clone_api_TreeNode_api_TreeNode⟩
theorem h_slices_Clone_api_TreeNode_api_TreeNode : Holds Tryd.prog glob 20 c_slices_Clone_api_TreeNode_api_TreeNode := by
  refine clone_holds (P := Tryd.prog) (cx := cxOf [] []) (bf := [5]) (e := (.pair .str (.pair (.int .i64) (.pair (.int .i64) (.pair .str (.pair .str .unit)))))) (tid := 22) (fn := Tryd.f20) (s0 := fun l => (argSt (fun _ => none) [.data (.slice (.pair .str (.pair (.int .i64) (.pair (.int .i64) (.pair .str (.pair .str .unit)))))) l]).put 2 (.data (.slice (.pair .str (.pair (.int .i64) (.pair (.int .i64) (.pair .str (.pair .str .unit)))))) ([] : List ((.pair .str (.pair (.int .i64) (.pair (.int .i64) (.pair .str (.pair .str .unit))))) : Ty).den))) mix (cx_ok [] []) (conOk_of con_nil rcon_nil spc_ok) Tryd.func20 (by kernel_rfl)
    (by rfl) rfl (by decide) (by decide) rfl rfl rfl rfl rfl rfl (fun l => by rfl) (fun l => rfl) (fun l => rfl) (fun l => rfl) (fun l => by rfl) (fun l hl => ?_)
  have key : ∀ m : List ((.pair .str (.pair (.int .i64) (.pair (.int .i64) (.pair .str (.pair .str .unit))))) : Ty).den, fits (len m) = true → sel (fits (plus (len ([] : List ((.pair .str (.pair (.int .i64) (.pair (.int .i64) (.pair .str (.pair .str .unit))))) : Ty).den)) (len m))) (some ((app [] m, ()) : (Ty.pair (.slice (.pair .str (.pair (.int .i64) (.pair (.int .i64) (.pair .str (.pair .str .unit)))))) .unit).den)) none = some (m, ()) := by
    intro m hm
    have e : plus (len ([] : List ((.pair .str (.pair (.int .i64) (.pair (.int .i64) (.pair .str (.pair .str .unit))))) : Ty).den)) (len m) = len m := by simp [plus, len]
    rw [e, hm]
    rfl
  exact Eq.trans (b := sel (fits (plus (len ([] : List ((.pair .str (.pair (.int .i64) (.pair (.int .i64) (.pair .str (.pair .str .unit))))) : Ty).den)) (len (α := ((.pair .str (.pair (.int .i64) (.pair (.int .i64) (.pair .str (.pair .str .unit))))) : Ty).den) l))) (some ((app (α := ((.pair .str (.pair (.int .i64) (.pair (.int .i64) (.pair .str (.pair .str .unit))))) : Ty).den) [] l, ()) : (Ty.pair (.slice (.pair .str (.pair (.int .i64) (.pair (.int .i64) (.pair .str (.pair .str .unit)))))) .unit).den)) none) (by rfl) (key l hl)
noncomputable def c_slices_Equal_string_string : Con := ⟨(.pair (.slice .str) (.pair (.slice .str) .unit)), (.pair .bool .unit), P_slices_Equal_string_string⟩
theorem h_slices_Equal_string_string : Holds Tryd.prog glob 55 c_slices_Equal_string_string := holds_at (con := []) (rcon := []) (con_nil) (rcon_nil) (fn := Tryd.f55) rfl (by kernel_rfl) (fun x => by kernel_rfl)
noncomputable def c_paths_Under : Con := ⟨(.pair .str (.pair .str .unit)), (.pair .bool .unit), P_paths_Under⟩
theorem h_paths_Under : Holds Tryd.prog glob 38 c_paths_Under := holds_at (con := [(42, c_paths_Parts), (55, c_slices_Equal_string_string)]) (rcon := []) ((con_cons h_paths_Parts (con_cons h_slices_Equal_string_string con_nil))) (rcon_nil) (fn := Tryd.f38) rfl (by kernel_rfl) (fun x => by kernel_rfl)
noncomputable def c_tree_Put : Con := ⟨(.pair (.slice (.pair .str (.pair (.int .i64) (.pair (.int .i64) (.pair .str (.pair .str .unit)))))) (.pair (.pair .str (.pair (.int .i64) (.pair (.int .i64) (.pair .str (.pair .str .unit))))) .unit)), (.pair (.slice (.pair .str (.pair (.int .i64) (.pair (.int .i64) (.pair .str (.pair .str .unit)))))) (.pair (.int .i64) .unit)), P_tree_Put⟩
theorem h_tree_Put : Holds Tryd.prog glob 6 c_tree_Put := holds_at (con := [(8, c_tree_Check), (16, c_tree_is), (17, c_paths_Split), (18, c_tree_dir), (19, c_tree_place), (20, c_slices_Clone_api_TreeNode_api_TreeNode), (38, c_paths_Under)]) (rcon := []) ((con_cons h_tree_Check (con_cons h_tree_is (con_cons h_paths_Split (con_cons h_tree_dir (con_cons h_tree_place (con_cons h_slices_Clone_api_TreeNode_api_TreeNode (con_cons h_paths_Under con_nil)))))))) (rcon_nil) (fn := Tryd.f6) rfl (by kernel_rfl) (fun x => by kernel_rfl)
noncomputable def c_tree_Find : Con := ⟨(.pair (.slice (.pair .str (.pair (.int .i64) (.pair (.int .i64) (.pair .str (.pair .str .unit)))))) (.pair .str .unit)), (.pair (.pair .str (.pair (.int .i64) (.pair (.int .i64) (.pair .str (.pair .str .unit))))) (.pair .bool .unit)), P_tree_Find⟩
theorem h_tree_Find : Holds Tryd.prog glob 7 c_tree_Find := holds_at (con := [(8, c_tree_Check), (19, c_tree_place)]) (rcon := []) ((con_cons h_tree_Check (con_cons h_tree_place con_nil))) (rcon_nil) (fn := Tryd.f7) rfl (by kernel_rfl) (fun x => by kernel_rfl)
noncomputable def c_law14_dir : Con := ⟨(.pair .str .unit), (.pair (.pair .str (.pair (.int .i64) (.pair (.int .i64) (.pair .str (.pair .str .unit))))) .unit), P_law14_dir⟩
theorem h_law14_dir : Holds Tryd.prog glob 10 c_law14_dir := holds_at (con := []) (rcon := []) (con_nil) (rcon_nil) (fn := Tryd.f10) rfl (by kernel_rfl) (fun x => by kernel_rfl)
noncomputable def c_law14_file : Con := ⟨(.pair .str (.pair .str .unit)), (.pair (.pair .str (.pair (.int .i64) (.pair (.int .i64) (.pair .str (.pair .str .unit))))) .unit), P_law14_file⟩
theorem h_law14_file : Holds Tryd.prog glob 11 c_law14_file := holds_at (con := []) (rcon := []) (con_nil) (rcon_nil) (fn := Tryd.f11) rfl (by kernel_rfl) (fun x => by kernel_rfl)
noncomputable def c_tree_List : Con := ⟨(.pair (.slice (.pair .str (.pair (.int .i64) (.pair (.int .i64) (.pair .str (.pair .str .unit)))))) (.pair .str .unit)), (.pair (.slice .str) (.pair (.int .i64) .unit)), P_tree_List⟩
theorem h_tree_List : Holds Tryd.prog glob 12 c_tree_List := holds_at (con := [(8, c_tree_Check), (17, c_paths_Split), (18, c_tree_dir)]) (rcon := []) ((con_cons h_tree_Check (con_cons h_paths_Split (con_cons h_tree_dir con_nil)))) (rcon_nil) (fn := Tryd.f12) rfl (by kernel_rfl) (fun x => by kernel_rfl)
noncomputable def c_ref14_Same : Con := ⟨(.pair (.slice (.pair .str (.pair (.int .i64) (.pair (.int .i64) (.pair .str (.pair .str .unit)))))) (.pair (.slice (.pair .str (.pair (.int .i64) (.pair (.int .i64) (.pair .str (.pair .str .unit)))))) .unit)), (.pair .bool .unit), P_ref14_Same⟩
theorem h_ref14_Same : Holds Tryd.prog glob 13 c_ref14_Same := holds_at (con := []) (rcon := []) (con_nil) (rcon_nil) (fn := Tryd.f13) rfl (by kernel_rfl) (fun x => by kernel_rfl)
noncomputable def c_ref06_SameTexts : Con := ⟨(.pair (.slice .str) (.pair (.slice .str) .unit)), (.pair .bool .unit), P_ref06_SameTexts⟩
theorem h_ref06_SameTexts : Holds Tryd.prog glob 14 c_ref06_SameTexts := holds_at (con := []) (rcon := []) (con_nil) (rcon_nil) (fn := Tryd.f14) rfl (by kernel_rfl) (fun x => by kernel_rfl)
noncomputable def c_digits_Octal : Con := ⟨(.pair (.int .i64) (.pair (.int .i64) .unit)), (.pair .str (.pair .bool .unit)), P_digits_Octal⟩
theorem h_digits_Octal : Holds Tryd.prog glob 25 c_digits_Octal := holds_at (con := []) (rcon := []) (con_nil) (rcon_nil) (fn := Tryd.f25) rfl (by kernel_rfl) (fun x => by kernel_rfl)
noncomputable def c_digits_Hex : Con := ⟨(.pair .str .unit), (.pair .str .unit), P_digits_Hex⟩
theorem h_digits_Hex : Holds Tryd.prog glob 26 c_digits_Hex := holds_at (con := []) (rcon := []) (con_nil) (rcon_nil) (fn := Tryd.f26) rfl (by kernel_rfl) (fun x => by kernel_rfl)
noncomputable def c_tree_line : Con := ⟨(.pair (.slice .str) .unit), (.pair .str .unit), P_tree_line⟩
theorem h_tree_line : Holds Tryd.prog glob 28 c_tree_line := holds_at (con := [(46, c_strings_Join)]) (rcon := []) ((con_cons h_strings_Join con_nil)) (rcon_nil) (fn := Tryd.f28) rfl (by kernel_rfl) (fun x => by kernel_rfl)
noncomputable def c_sha_begin : Con := ⟨.unit, (.pair (.arr 8 (.int .u32)) .unit), P_sha_begin⟩
theorem h_sha_begin : Holds Tryd.prog glob 81 c_sha_begin := holds_at (con := []) (rcon := []) (con_nil) (rcon_nil) (fn := Tryd.f81) rfl (by kernel_rfl) (fun x => by kernel_rfl)
noncomputable def c_sha_round : Con := ⟨.unit, (.pair (.arr 64 (.int .u32)) .unit), P_sha_round⟩
theorem h_sha_round : Holds Tryd.prog glob 82 c_sha_round := holds_at (con := []) (rcon := []) (con_nil) (rcon_nil) (fn := Tryd.f82) rfl (by kernel_rfl) (fun x => by kernel_rfl)
noncomputable def c_math_bits_RotateLeft32 : Con := ⟨(.pair (.int .u32) (.pair (.int .i64) .unit)), (.pair (.int .u32) .unit), P_math_bits_RotateLeft32⟩
theorem h_math_bits_RotateLeft32 : Holds Tryd.prog glob 89 c_math_bits_RotateLeft32 := holds_at (con := []) (rcon := []) (con_nil) (rcon_nil) (fn := Tryd.f89) rfl (by kernel_rfl) (fun x => by kernel_rfl)
noncomputable def c_sha_right : Con := ⟨(.pair (.int .u32) (.pair (.int .i64) .unit)), (.pair (.int .u32) .unit), P_sha_right⟩
theorem h_sha_right : Holds Tryd.prog glob 84 c_sha_right := holds_at (con := [(89, c_math_bits_RotateLeft32)]) (rcon := []) ((con_cons h_math_bits_RotateLeft32 con_nil)) (rcon_nil) (fn := Tryd.f84) rfl (by kernel_rfl) (fun x => by kernel_rfl)
noncomputable def c_sha_schedule : Con := ⟨(.pair (.arr 64 (.int .u8)) .unit), (.pair (.arr 64 (.int .u32)) .unit), P_sha_schedule⟩
theorem h_sha_schedule : Holds Tryd.prog glob 83 c_sha_schedule := holds_at (con := [(84, c_sha_right)]) (rcon := []) ((con_cons h_sha_right con_nil)) (rcon_nil) (fn := Tryd.f83) rfl (by kernel_rfl) (fun x => by kernel_rfl)
noncomputable def c_sha_words_block : RCon := ⟨[true, false], (.pair (.arr 64 (.int .u8)) .unit), (.pair (.pair .bool (.pair (.arr 8 (.int .u32)) .unit)) .unit), .unit, P_sha_words_block⟩
theorem h_sha_words_block : RHolds Tryd.prog glob 73 c_sha_words_block := rholds_at (con := [(81, c_sha_begin), (82, c_sha_round), (83, c_sha_schedule), (84, c_sha_right)]) (rcon := []) ((con_cons h_sha_begin (con_cons h_sha_round (con_cons h_sha_schedule (con_cons h_sha_right con_nil))))) (rcon_nil) (fn := Tryd.f73) rfl (by kernel_rfl) (fun x => by kernel_rfl)
noncomputable def c_sha_Stream_Add : RCon := ⟨[true, false], (.pair .str .unit), (.pair (.pair (.pair .bool (.pair (.arr 8 (.int .u32)) .unit)) (.pair (.arr 64 (.int .u8)) (.pair (.int .i64) .unit))) .unit), .unit, P_sha_Stream_Add⟩
theorem h_sha_Stream_Add : RHolds Tryd.prog glob 61 c_sha_Stream_Add := rholds_at (con := [(81, c_sha_begin), (82, c_sha_round), (83, c_sha_schedule), (84, c_sha_right)]) (rcon := [(73, c_sha_words_block)]) ((con_cons h_sha_begin (con_cons h_sha_round (con_cons h_sha_schedule (con_cons h_sha_right con_nil))))) ((rcon_cons h_sha_words_block rcon_nil)) (fn := Tryd.f61) rfl (by kernel_rfl) (fun x => by kernel_rfl)
noncomputable def c_sha_Stream_Sum : RCon := ⟨[true], .unit, (.pair (.pair (.pair .bool (.pair (.arr 8 (.int .u32)) .unit)) (.pair (.arr 64 (.int .u8)) (.pair (.int .i64) .unit))) .unit), (.pair (.arr 32 (.int .u8)) .unit), P_sha_Stream_Sum⟩
theorem h_sha_Stream_Sum : RHolds Tryd.prog glob 62 c_sha_Stream_Sum := rholds_at (con := [(81, c_sha_begin), (82, c_sha_round), (83, c_sha_schedule), (84, c_sha_right)]) (rcon := [(61, c_sha_Stream_Add), (73, c_sha_words_block)]) ((con_cons h_sha_begin (con_cons h_sha_round (con_cons h_sha_schedule (con_cons h_sha_right con_nil))))) ((rcon_cons h_sha_Stream_Add (rcon_cons h_sha_words_block rcon_nil))) (fn := Tryd.f62) rfl (by kernel_rfl) (fun x => by kernel_rfl)
noncomputable def c_sha_Sum : Con := ⟨(.pair .str .unit), (.pair (.arr 32 (.int .u8)) .unit), P_sha_Sum⟩
theorem h_sha_Sum : Holds Tryd.prog glob 47 c_sha_Sum := holds_at (con := [(81, c_sha_begin), (82, c_sha_round), (83, c_sha_schedule), (84, c_sha_right)]) (rcon := [(61, c_sha_Stream_Add), (62, c_sha_Stream_Sum), (73, c_sha_words_block)]) ((con_cons h_sha_begin (con_cons h_sha_round (con_cons h_sha_schedule (con_cons h_sha_right con_nil))))) ((rcon_cons h_sha_Stream_Add (rcon_cons h_sha_Stream_Sum (rcon_cons h_sha_words_block rcon_nil)))) (fn := Tryd.f47) rfl (by kernel_rfl) (fun x => by kernel_rfl)
noncomputable def c_digest_Of : Con := ⟨(.pair .str .unit), (.pair .str .unit), P_digest_Of⟩
theorem h_digest_Of : Holds Tryd.prog glob 29 c_digest_Of := holds_at (con := [(26, c_digits_Hex), (47, c_sha_Sum)]) (rcon := []) ((con_cons h_digits_Hex (con_cons h_sha_Sum con_nil))) (rcon_nil) (fn := Tryd.f29) rfl (by kernel_rfl) (fun x => by kernel_rfl)
noncomputable def c_tree_Text : Con := ⟨(.pair (.slice (.pair .str (.pair (.int .i64) (.pair (.int .i64) (.pair .str (.pair .str .unit)))))) .unit), (.pair .str .unit), P_tree_Text⟩
theorem h_tree_Text : Holds Tryd.prog glob 15 c_tree_Text := holds_at (con := [(8, c_tree_Check), (25, c_digits_Octal), (26, c_digits_Hex), (28, c_tree_line), (29, c_digest_Of)]) (rcon := []) ((con_cons h_tree_Check (con_cons h_digits_Octal (con_cons h_digits_Hex (con_cons h_tree_line (con_cons h_digest_Of con_nil)))))) (rcon_nil) (fn := Tryd.f15) rfl (by kernel_rfl) (fun x => by kernel_rfl)
noncomputable def c_law14_awake : Con := ⟨.unit, (.pair .bool .unit), P_law14_awake⟩
theorem h_law14_awake : Holds Tryd.prog glob 5 c_law14_awake := holds_at (con := [(6, c_tree_Put), (7, c_tree_Find), (8, c_tree_Check), (10, c_law14_dir), (11, c_law14_file), (12, c_tree_List), (13, c_ref14_Same), (14, c_ref06_SameTexts), (15, c_tree_Text)]) (rcon := []) ((con_cons h_tree_Put (con_cons h_tree_Find (con_cons h_tree_Check (con_cons h_law14_dir (con_cons h_law14_file (con_cons h_tree_List (con_cons h_ref14_Same (con_cons h_ref06_SameTexts (con_cons h_tree_Text con_nil)))))))))) (rcon_nil) (fn := Tryd.f5) rfl (by kernel_rfl) (fun x => by kernel_rfl)
noncomputable def c_ref07_Parts : Con := ⟨(.pair .str .unit), (.pair (.slice .str) .unit), P_ref07_Parts⟩
theorem h_ref07_Parts : Holds Tryd.prog glob 24 c_ref07_Parts := holds_at (con := []) (rcon := []) (con_nil) (rcon_nil) (fn := Tryd.f24) rfl (by kernel_rfl) (fun x => by kernel_rfl)
noncomputable def c_ref07_Under : Con := ⟨(.pair .str (.pair .str .unit)), (.pair .bool .unit), P_ref07_Under⟩
theorem h_ref07_Under : Holds Tryd.prog glob 9 c_ref07_Under := holds_at (con := [(24, c_ref07_Parts)]) (rcon := []) ((con_cons h_ref07_Parts con_nil)) (rcon_nil) (fn := Tryd.f9) rfl (by kernel_rfl) (fun x => by kernel_rfl)
noncomputable def c_law14_TreeStays : Con := ⟨(.pair (.slice (.pair .str (.pair (.int .i64) (.pair (.int .i64) (.pair .str (.pair .str .unit)))))) .unit), (.pair .bool .unit), P_law14_TreeStays⟩
theorem h_law14_TreeStays : Holds Tryd.prog glob 3 c_law14_TreeStays := holds_at (con := [(4, c_ref14_Few), (5, c_law14_awake), (6, c_tree_Put), (7, c_tree_Find), (8, c_tree_Check), (9, c_ref07_Under)]) (rcon := []) ((con_cons h_ref14_Few (con_cons h_law14_awake (con_cons h_tree_Put (con_cons h_tree_Find (con_cons h_tree_Check (con_cons h_ref07_Under con_nil))))))) (rcon_nil) (fn := Tryd.f3) rfl (by kernel_rfl) (fun x => by kernel_rfl)
end Go.Proofs.YtnmllijemdpcoaaDoor
