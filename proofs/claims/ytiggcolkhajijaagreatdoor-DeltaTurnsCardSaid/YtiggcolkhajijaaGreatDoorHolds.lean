/- The layer's functions keep their contracts: each comes to its plain definition, by the ghost interpreter. -/
import Derived.Test.YtiggcolkhajijaaGreatDoorRows
import Derived.Test.YtiggcolkhajijaaGreatDoorPlD
import Derived.Test.YtiggcolkhajijaaGreatDoorBld
import Derived.Test.YtiggcolkhajijaaGreatDoorShelf
namespace Go.Proofs.YtiggcolkhajijaaGreatDoor
open Go Go.Ge
set_option linter.unusedVariables false
set_option maxRecDepth 100000

noncomputable def plans : Nat → FPlan
  | 3 => ⟨[none, some ⟨[(6, 4), (7, 3)], [], false⟩, none, none], []⟩
  | 4 => ⟨[none, none, some ⟨[(4, 4), (11, 3)], [], false⟩, none, some ⟨[], [12], false⟩, some ⟨[], [12], false⟩, none], []⟩
  | 5 => ⟨[some ⟨[(4, 4), (5, 3)], [], false⟩, none, none], []⟩
  | 6 => ⟨[], []⟩
  | 7 => ⟨[none], [6]⟩
  | 8 => ⟨[none, some ⟨[(6, 23), (7, 3)], [], false⟩, none, some ⟨[(6, 23)], [], false⟩, some ⟨[(6, 23)], [], false⟩, some ⟨[(6, 23), (10, 3)], [], false⟩, none, some ⟨[(6, 23)], [], false⟩], []⟩
  | 9 => ⟨[none, some ⟨[(8, 31), (28, 3)], [8], false⟩, none, none, some ⟨[(8, 31)], [8], false⟩], [8]⟩
  | 10 => ⟨[none, some ⟨[(8, 31), (9, 3)], [8], false⟩, none, none, some ⟨[(8, 31)], [8], false⟩], [8]⟩
  | 11 => ⟨[none], []⟩
  | 12 => ⟨[none], []⟩
  | 13 => ⟨[none, some ⟨[(4, 4), (5, 3)], [], false⟩, none, none], []⟩
  | 14 => ⟨[none, some ⟨[(4, 4), (5, 3)], [], false⟩, none, none], []⟩
  | 15 => ⟨[some ⟨[(11, 3)], [4], false⟩, none, some ⟨[(7, 9)], [], false⟩], []⟩
  | 16 => ⟨[some ⟨[(3, 9), (4, 3)], [], false⟩, none, some ⟨[(5, 9)], [], false⟩], []⟩
  | 17 => ⟨[none, some ⟨[(2, 4), (3, 3)], [], false⟩, none, none], []⟩
  | 18 => ⟨[none, some ⟨[(4, 4), (5, 3)], [], false⟩, none, none], []⟩
  | 19 => ⟨[none, some ⟨[(2, 28), (12, 3)], [], false⟩, none, none], []⟩
  | 20 => ⟨[], []⟩
  | 21 => ⟨[some ⟨[(0, 22), (1, 22)], [2, 3, 4], false⟩, none, some ⟨[(10, 3)], [], false⟩, some ⟨[(10, 3)], [], false⟩, some ⟨[], [2, 3, 4], false⟩, some ⟨[], [3, 4], false⟩, some ⟨[(0, 22)], [], false⟩, some ⟨[(1, 22)], [], false⟩], []⟩
  | 22 => ⟨[], []⟩
  | 23 => ⟨[some ⟨[], [2], false⟩], []⟩
  | 24 => ⟨[], []⟩
  | 25 => ⟨[none], []⟩
  | 26 => ⟨[some ⟨[(5, 3)], [], false⟩, none], [6]⟩
  | 27 => ⟨[none, none], []⟩
  | 28 => ⟨[some ⟨[], [3], false⟩], []⟩
  | 29 => ⟨[none], []⟩
  | 30 => ⟨[none], []⟩
  | 31 => ⟨[some ⟨[], [3], false⟩], []⟩
  | 32 => ⟨[none], []⟩
  | 33 => ⟨[none, none], []⟩
  | 34 => ⟨[none, some ⟨[(2, 9), (3, 28), (14, 3)], [4], false⟩, none, none, none, none], []⟩
  | 35 => ⟨[none, some ⟨[(2, 9), (3, 28), (5, 3)], [], false⟩, none, none, some ⟨[(2, 9), (3, 28), (4, 3), (8, 3)], [], false⟩, none, none, none, some ⟨[(9, 9), (10, 3)], [], false⟩, none], []⟩
  | 36 => ⟨[], []⟩
  | 37 => ⟨[some ⟨[(9, 3)], [3], false⟩, none], []⟩
  | 39 => ⟨[some ⟨[(3, 63), (4, 3)], [3], false⟩, none], [3]⟩
  | 40 => ⟨[none, none, none], []⟩
  | 41 => ⟨[], []⟩
  | 42 => ⟨[some ⟨[(4, 3), (7, 3)], [], false⟩, none, none, none, none, none], []⟩
  | 43 => ⟨[none, none, none, none], []⟩
  | 44 => ⟨[], []⟩
  | 45 => ⟨[none, none, none], []⟩
  | 46 => ⟨[some ⟨[(4, 3), (5, 3)], [], false⟩, none, none], []⟩
  | 47 => ⟨[], []⟩
  | 48 => ⟨[none, none, none, none, none], []⟩
  | 49 => ⟨[none, some ⟨[(3, 79), (4, 9), (5, 3)], [3], false⟩, none, some ⟨[(3, 79), (4, 9)], [3], false⟩], [3]⟩
  | 50 => ⟨[some ⟨[(3, 9), (4, 3)], [], false⟩, none, some ⟨[(3, 9)], [], false⟩], []⟩
  | 51 => ⟨[none], []⟩
  | 52 => ⟨[], []⟩
  | 53 => ⟨[], []⟩
  | 54 => ⟨[], []⟩
  | 55 => ⟨[none], []⟩
  | 56 => ⟨[some ⟨[(0, 3)], [], false⟩, none], []⟩
  | 57 => ⟨[], []⟩
  | 59 => ⟨[], []⟩
  | 60 => ⟨[none], []⟩
  | 61 => ⟨[none, none, none], []⟩
  | 62 => ⟨[some ⟨[(2, 4), (4, 3)], [], false⟩, none, none], []⟩
  | 63 => ⟨[some ⟨[(2, 4), (3, 3)], [], false⟩, none, none], []⟩
  | 64 => ⟨[], []⟩
  | 65 => ⟨[], []⟩
  | 66 => ⟨[some ⟨[(6, 3), (13, 3)], [2], false⟩, none, none, none, none], []⟩
  | 67 => ⟨[none], []⟩
  | 68 => ⟨[none, none, none, none, none], []⟩
  | 69 => ⟨[some ⟨[(9, 3), (10, 3)], [1, 2], false⟩, none, some ⟨[(9, 3), (10, 3)], [], false⟩], []⟩
  | 70 => ⟨[], []⟩
  | 71 => ⟨[some ⟨[(4, 3), (5, 3)], [], false⟩, none, none], []⟩
  | 72 => ⟨[some ⟨[(9, 115), (10, 3)], [], false⟩, none, none, some ⟨[(4, 3), (9, 115), (11, 3)], [], false⟩, none, none], []⟩
  | 73 => ⟨[none, none, none, none], []⟩
  | 74 => ⟨[], []⟩
  | 75 => ⟨[], []⟩
  | 76 => ⟨[], []⟩
  | 77 => ⟨[none, some ⟨[(0, 3), (19, 3)], [6], false⟩, none, none], []⟩
  | 78 => ⟨[some ⟨[(4, 3), (12, 3)], [], false⟩, none, some ⟨[(6, 5)], [], false⟩], []⟩
  | 80 => ⟨[some ⟨[(5, 4)], [], false⟩], []⟩
  | 81 => ⟨[], []⟩
  | 82 => ⟨[], []⟩
  | 83 => ⟨[some ⟨[(3, 3), (4, 3)], [], false⟩, none, some ⟨[(3, 3)], [], false⟩], []⟩
  | 85 => ⟨[], []⟩
  | 86 => ⟨[some ⟨[(2, 4), (3, 3)], [], false⟩, none, none], []⟩
  | 87 => ⟨[some ⟨[(2, 9), (3, 28), (4, 79), (11, 3)], [4], false⟩, none, some ⟨[(2, 9), (3, 28), (4, 79)], [4], false⟩, none, none], [4]⟩
  | 88 => ⟨[none, none, none], []⟩
  | 91 => ⟨[], []⟩
  | 92 => ⟨[some ⟨[(4, 115), (5, 3)], [], false⟩, none, some ⟨[(6, 115), (7, 115), (8, 3)], [], false⟩, none, some ⟨[(6, 115)], [], false⟩], []⟩
  | 93 => ⟨[], []⟩
  | 94 => ⟨[], []⟩
  | 96 => ⟨[], []⟩
  | 98 => ⟨[some ⟨[(4, 4), (5, 3)], [], false⟩, none, none], []⟩
  | 99 => ⟨[], []⟩
  | 100 => ⟨[none, some ⟨[(0, 3), (6, 9), (7, 3)], [], false⟩, none, none], []⟩
  | 101 => ⟨[some ⟨[(2, 4), (6, 3)], [], false⟩, none, none], []⟩
  | 103 => ⟨[], []⟩
  | 104 => ⟨[], []⟩
  | 109 => ⟨[], []⟩
  | 111 => ⟨[none], []⟩
  | 112 => ⟨[some ⟨[(4, 3), (8, 3)], [], false⟩, none, none], []⟩
  | _ => ⟨[], []⟩

def objs : List (Nat × List OFld) := [(65, [.self, .buf (.int .u8) 5])]
def els : List (Nat × Nat) := [(63, 5)]
noncomputable def spc : List (Nat × Spc) := [(38, .str 65 5), (58, .chk 65)]
noncomputable def tys : List (Nat × Ty) := [(3, (.int .i64)), (4, .bool), (5, (.int .u8)), (9, .str), (21, (.int .i32)), (22, (.slice (.pair .str (.pair (.int .i64) (.pair (.int .i64) (.pair .str (.pair .str .unit))))))), (23, (.slice (.pair (.int .i64) (.pair .str .unit)))), (27, (.pair (.int .i64) (.pair .str .unit))), (28, (.int .i64)), (31, (.slice (.pair (.pair .str (.pair (.int .i64) (.pair (.int .i64) (.pair (.int .i64) (.pair (.int .i64) (.pair (.int .i64) (.pair (.int .i64) (.pair .str .unit)))))))) (.pair .str .unit)))), (43, (.pair .str (.pair (.int .i64) (.pair (.int .i64) (.pair .str (.pair .str .unit)))))), (45, (.pair .str (.pair (.int .i64) (.pair (.int .i64) (.pair (.int .i64) (.pair (.int .i64) (.pair (.int .i64) (.pair (.int .i64) (.pair .str .unit))))))))), (47, (.pair (.pair .str (.pair (.int .i64) (.pair (.int .i64) (.pair (.int .i64) (.pair (.int .i64) (.pair (.int .i64) (.pair (.int .i64) (.pair .str .unit)))))))) (.pair .str .unit))), (61, (.arr 4 .str)), (63, (.slice (.int .u8))), (79, (.slice .str)), (87, (.int .u64)), (98, (.arr 512 (.int .u8))), (100, (.pair (.int .i64) (.pair (.int .i64) .unit))), (101, (.arr 11 (.pair (.int .i64) (.pair (.int .i64) .unit)))), (115, (.int .u32)), (120, (.arr 21 (.int .u8))), (129, (.int .u64)), (132, (.arr 2 .str)), (138, (.arr 256 (.int .u8))), (140, (.pair (.int .u8) (.pair (.int .u8) .unit))), (141, (.arr 16 (.pair (.int .u8) (.pair (.int .u8) .unit))))]
noncomputable def funs : List (Nat × Func) := [(3, Tryz.f3), (4, Tryz.f4), (5, Tryz.f5), (6, Tryz.f6), (7, Tryz.f7), (8, Tryz.f8), (9, Tryz.f9), (10, Tryz.f10), (11, Tryz.f11), (12, Tryz.f12), (13, Tryz.f13), (14, Tryz.f14), (15, Tryz.f15), (16, Tryz.f16), (17, Tryz.f17), (18, Tryz.f18), (19, Tryz.f19), (20, Tryz.f20), (21, Tryz.f21), (22, Tryz.f22), (23, Tryz.f23), (24, Tryz.f24), (25, Tryz.f25), (26, Tryz.f26), (27, Tryz.f27), (28, Tryz.f28), (29, Tryz.f29), (30, Tryz.f30), (31, Tryz.f31), (32, Tryz.f32), (33, Tryz.f33), (34, Tryz.f34), (35, Tryz.f35), (36, Tryz.f36), (37, Tryz.f37), (39, Tryz.f39), (40, Tryz.f40), (41, Tryz.f41), (42, Tryz.f42), (43, Tryz.f43), (44, Tryz.f44), (45, Tryz.f45), (46, Tryz.f46), (47, Tryz.f47), (48, Tryz.f48), (49, Tryz.f49), (50, Tryz.f50), (51, Tryz.f51), (52, Tryz.f52), (53, Tryz.f53), (54, Tryz.f54), (55, Tryz.f55), (56, Tryz.f56), (57, Tryz.f57), (59, Tryz.f59), (60, Tryz.f60), (61, Tryz.f61), (62, Tryz.f62), (63, Tryz.f63), (64, Tryz.f64), (65, Tryz.f65), (66, Tryz.f66), (67, Tryz.f67), (68, Tryz.f68), (69, Tryz.f69), (70, Tryz.f70), (71, Tryz.f71), (72, Tryz.f72), (73, Tryz.f73), (74, Tryz.f74), (75, Tryz.f75), (76, Tryz.f76), (77, Tryz.f77), (78, Tryz.f78), (80, Tryz.f80), (81, Tryz.f81), (82, Tryz.f82), (83, Tryz.f83), (85, Tryz.f85), (86, Tryz.f86), (87, Tryz.f87), (88, Tryz.f88), (91, Tryz.f91), (92, Tryz.f92), (93, Tryz.f93), (94, Tryz.f94), (96, Tryz.f96), (98, Tryz.f98), (99, Tryz.f99), (100, Tryz.f100), (101, Tryz.f101), (103, Tryz.f103), (104, Tryz.f104), (109, Tryz.f109), (111, Tryz.f111), (112, Tryz.f112)]
def ones : List Nat := [49, 51, 52, 62, 74, 88, 96, 105]
def ptrs : List Nat := [62, 88]
noncomputable def cxOf (con : List (Nat × Con)) (rcon : List (Nat × RCon)) : Ctx := ⟨tys, ones, ptrs, funs, con, rcon, objs, spc, els⟩

theorem mix : Tryz.prog.follows .mixedOrders = true := by kernel_rfl

theorem T_ok : ∀ tid t, find tys tid = some t → Den Tryz.prog t tid := tys_ok (by kernel_rfl)
theorem ones_ok : ∀ tid, memN ones tid = true → (∀ w, (isAgg tid).run Tryz.prog w = .ok false w) ∧ (∀ w, (Go.sizeOf tid).run Tryz.prog w = .ok 1 w) ∧ ∃ z, (∀ w, (zeroValue tid).run Tryz.prog w = .ok z w) ∧ z.oneCell' = true := ones_of (by kernel_rfl)
theorem ptrs_ok : ∀ tid, memN ptrs tid = true → ∃ e, Tryz.prog.underlying tid = some (.pointer e) := ptrs_of (by kernel_rfl)
theorem fns_ok : ∀ f fn, find funs f = some fn → Tryz.prog.funcs[f]? = some fn := fns_of ((fns_cons Tryz.func3 (fns_cons Tryz.func4 (fns_cons Tryz.func5 (fns_cons Tryz.func6 (fns_cons Tryz.func7 (fns_cons Tryz.func8 (fns_cons Tryz.func9 (fns_cons Tryz.func10 (fns_cons Tryz.func11 (fns_cons Tryz.func12 (fns_cons Tryz.func13 (fns_cons Tryz.func14 (fns_cons Tryz.func15 (fns_cons Tryz.func16 (fns_cons Tryz.func17 (fns_cons Tryz.func18 (fns_cons Tryz.func19 (fns_cons Tryz.func20 (fns_cons Tryz.func21 (fns_cons Tryz.func22 (fns_cons Tryz.func23 (fns_cons Tryz.func24 (fns_cons Tryz.func25 (fns_cons Tryz.func26 (fns_cons Tryz.func27 (fns_cons Tryz.func28 (fns_cons Tryz.func29 (fns_cons Tryz.func30 (fns_cons Tryz.func31 (fns_cons Tryz.func32 (fns_cons Tryz.func33 (fns_cons Tryz.func34 (fns_cons Tryz.func35 (fns_cons Tryz.func36 (fns_cons Tryz.func37 (fns_cons Tryz.func39 (fns_cons Tryz.func40 (fns_cons Tryz.func41 (fns_cons Tryz.func42 (fns_cons Tryz.func43 (fns_cons Tryz.func44 (fns_cons Tryz.func45 (fns_cons Tryz.func46 (fns_cons Tryz.func47 (fns_cons Tryz.func48 (fns_cons Tryz.func49 (fns_cons Tryz.func50 (fns_cons Tryz.func51 (fns_cons Tryz.func52 (fns_cons Tryz.func53 (fns_cons Tryz.func54 (fns_cons Tryz.func55 (fns_cons Tryz.func56 (fns_cons Tryz.func57 (fns_cons Tryz.func59 (fns_cons Tryz.func60 (fns_cons Tryz.func61 (fns_cons Tryz.func62 (fns_cons Tryz.func63 (fns_cons Tryz.func64 (fns_cons Tryz.func65 (fns_cons Tryz.func66 (fns_cons Tryz.func67 (fns_cons Tryz.func68 (fns_cons Tryz.func69 (fns_cons Tryz.func70 (fns_cons Tryz.func71 (fns_cons Tryz.func72 (fns_cons Tryz.func73 (fns_cons Tryz.func74 (fns_cons Tryz.func75 (fns_cons Tryz.func76 (fns_cons Tryz.func77 (fns_cons Tryz.func78 (fns_cons Tryz.func80 (fns_cons Tryz.func81 (fns_cons Tryz.func82 (fns_cons Tryz.func83 (fns_cons Tryz.func85 (fns_cons Tryz.func86 (fns_cons Tryz.func87 (fns_cons Tryz.func88 (fns_cons Tryz.func91 (fns_cons Tryz.func92 (fns_cons Tryz.func93 (fns_cons Tryz.func94 (fns_cons Tryz.func96 (fns_cons Tryz.func98 (fns_cons Tryz.func99 (fns_cons Tryz.func100 (fns_cons Tryz.func101 (fns_cons Tryz.func103 (fns_cons Tryz.func104 (fns_cons Tryz.func109 (fns_cons Tryz.func111 (fns_cons Tryz.func112 fns_nil)))))))))))))))))))))))))))))))))))))))))))))))))))))))))))))))))))))))))))))))))))))))))))))))))
theorem objs_ok : ∀ tid fs, find objs tid = some fs → objB Tryz.prog tid fs = true := objs_of (by kernel_rfl)
theorem els_ok : ∀ tid e, find els tid = some e → Tryz.prog.underlying tid = some (.slice e) := els_of (by kernel_rfl)
theorem cx_ok (con : List (Nat × Con)) (rcon : List (Nat × RCon)) : CxOk Tryz.prog (cxOf con rcon) := ⟨T_ok, ones_ok, ptrs_ok, fns_ok, objs_ok, els_ok⟩
theorem spc_ok : ∀ p ∈ spc, SpcOk Tryz.prog p.1 p.2 := (spc_cons h_strings_Builder_String (spc_cons h_strings_Builder_copyCheck spc_nil))
theorem funs_ok (con : List (Nat × Con)) (rcon : List (Nat × RCon)) : FnsOk (cxOf con rcon) := fnsOk_of (cx := cxOf con rcon) (show (funs.all fun p => fnOk p.2) = true by kernel_rfl)

def glob : Globs := noGlobs
theorem holds_at {con : List (Nat × Con)} {rcon : List (Nat × RCon)} (hcon : ∀ p ∈ con, Holds Tryz.prog glob p.1 p.2) (hrcon : ∀ p ∈ rcon, RHolds Tryz.prog glob p.1 p.2) {f : Nat} {fn : Func} {A R : Ty} {spec : A.den → Option R.den} (hfn : find funs f = some fn) (hb : fn.body.isSome = true)
    (hs : ∀ x, sem (cxOf con rcon) 12 plans f A R x = spec x) : Holds Tryz.prog glob f ⟨A, R, spec⟩ := by
  obtain ⟨code, hcode⟩ := Option.isSome_iff_exists.1 hb
  exact holds_of_sem mix (cx_ok con rcon) (conOk_of hcon hrcon spc_ok) (funs_ok con rcon) (f := f) hfn hcode (fun x y h => by rw [hs]; exact h)

theorem rholds_at {con : List (Nat × Con)} {rcon : List (Nat × RCon)} (hcon : ∀ p ∈ con, Holds Tryz.prog glob p.1 p.2) (hrcon : ∀ p ∈ rcon, RHolds Tryz.prog glob p.1 p.2) {f : Nat} {fn : Func} {ps : List Bool} {A U R : Ty} {spec : A.den × U.den → Option (R.den × U.den)} (hfn : find funs f = some fn) (hb : fn.body.isSome = true)
    (hs : ∀ x, semR (cxOf con rcon) 12 plans f ps A U R x = spec x) : RHolds Tryz.prog glob f ⟨ps, A, U, R, spec⟩ := by
  obtain ⟨code, hcode⟩ := Option.isSome_iff_exists.1 hb
  exact rholds_of_sem mix (cx_ok con rcon) (conOk_of hcon hrcon spc_ok) (funs_ok con rcon) (f := f) hfn hcode (fun x y h => by rw [hs]; exact h)

noncomputable def c_ref14_Few : Con := ⟨(.pair (.slice (.pair .str (.pair (.int .i64) (.pair (.int .i64) (.pair .str (.pair .str .unit)))))) (.pair (.int .i64) .unit)), (.pair .bool .unit), P_ref14_Few⟩
theorem h_ref14_Few : Holds Tryz.prog glob 5 c_ref14_Few := holds_at (con := []) (rcon := []) (con_nil) (rcon_nil) (fn := Tryz.f5) rfl (by kernel_rfl) (fun x => by kernel_rfl)
noncomputable def c_internal_bytealg_LastIndexByteString : Con := ⟨(.pair .str (.pair (.int .u8) .unit)), (.pair (.int .i64) .unit), P_internal_bytealg_LastIndexByteString⟩
theorem h_internal_bytealg_LastIndexByteString : Holds Tryz.prog glob 71 c_internal_bytealg_LastIndexByteString := holds_at (con := []) (rcon := []) (con_nil) (rcon_nil) (fn := Tryz.f71) rfl (by kernel_rfl) (fun x => by kernel_rfl)
noncomputable def c_internal_bytealg_hashStrRev_string : Con := ⟨(.pair .str .unit), (.pair (.int .u32) (.pair (.int .u32) .unit)), P_internal_bytealg_hashStrRev_string⟩
theorem h_internal_bytealg_hashStrRev_string : Holds Tryz.prog glob 92 c_internal_bytealg_hashStrRev_string := holds_at (con := []) (rcon := []) (con_nil) (rcon_nil) (fn := Tryz.f92) rfl (by kernel_rfl) (fun x => by kernel_rfl)
noncomputable def c_internal_bytealg_LastIndexRabinKarp_string : Con := ⟨(.pair .str (.pair .str .unit)), (.pair (.int .i64) .unit), P_internal_bytealg_LastIndexRabinKarp_string⟩
theorem h_internal_bytealg_LastIndexRabinKarp_string : Holds Tryz.prog glob 72 c_internal_bytealg_LastIndexRabinKarp_string := holds_at (con := [(92, c_internal_bytealg_hashStrRev_string)]) (rcon := []) ((con_cons h_internal_bytealg_hashStrRev_string con_nil)) (rcon_nil) (fn := Tryz.f72) rfl (by kernel_rfl) (fun x => by kernel_rfl)
noncomputable def c_strings_LastIndex : Con := ⟨(.pair .str (.pair .str .unit)), (.pair (.int .i64) .unit), P_strings_LastIndex⟩
theorem h_strings_LastIndex : Holds Tryz.prog glob 48 c_strings_LastIndex := holds_at (con := [(71, c_internal_bytealg_LastIndexByteString), (72, c_internal_bytealg_LastIndexRabinKarp_string)]) (rcon := []) ((con_cons h_internal_bytealg_LastIndexByteString (con_cons h_internal_bytealg_LastIndexRabinKarp_string con_nil))) (rcon_nil) (fn := Tryz.f48) rfl (by kernel_rfl) (fun x => by kernel_rfl)
noncomputable def c_paths_Split : Con := ⟨(.pair .str .unit), (.pair .str (.pair .str .unit)), P_paths_Split⟩
theorem h_paths_Split : Holds Tryz.prog glob 29 c_paths_Split := holds_at (con := [(48, c_strings_LastIndex)]) (rcon := []) ((con_cons h_strings_LastIndex con_nil)) (rcon_nil) (fn := Tryz.f29) rfl (by kernel_rfl) (fun x => by kernel_rfl)
noncomputable def c_strings_Split : Con := ⟨(.pair .str (.pair .str .unit)), (.pair (.slice .str) .unit), P_strings_Split⟩
theorem h_strings_Split : Holds Tryz.prog glob 90 c_strings_Split := holds_split Tryz.func90 (by kernel_rfl) (by kernel_rfl) (fun s b w hs => Any.strings_Split_byte Tryz.lays146 (by kernel_rfl) s b w hs)
noncomputable def c_paths_Parts : Con := ⟨(.pair .str .unit), (.pair (.slice .str) .unit), P_paths_Parts⟩
theorem h_paths_Parts : Holds Tryz.prog glob 67 c_paths_Parts := holds_at (con := [(90, c_strings_Split)]) (rcon := []) ((con_cons h_strings_Split con_nil)) (rcon_nil) (fn := Tryz.f67) rfl (by kernel_rfl) (fun x => by kernel_rfl)
noncomputable def c_internal_stringslite_HasPrefix : Con := ⟨(.pair .str (.pair .str .unit)), (.pair .bool .unit), P_internal_stringslite_HasPrefix⟩
theorem h_internal_stringslite_HasPrefix : Holds Tryz.prog glob 109 c_internal_stringslite_HasPrefix := holds_at (con := []) (rcon := []) (con_nil) (rcon_nil) (fn := Tryz.f109) rfl (by kernel_rfl) (fun x => by kernel_rfl)
noncomputable def c_strings_HasPrefix : Con := ⟨(.pair .str (.pair .str .unit)), (.pair .bool .unit), P_strings_HasPrefix⟩
theorem h_strings_HasPrefix : Holds Tryz.prog glob 96 c_strings_HasPrefix := holds_at (con := [(109, c_internal_stringslite_HasPrefix)]) (rcon := []) ((con_cons h_internal_stringslite_HasPrefix con_nil)) (rcon_nil) (fn := Tryz.f96) rfl (by kernel_rfl) (fun x => by kernel_rfl)
noncomputable def c_internal_stringslite_IndexByte : Con := ⟨(.pair .str (.pair (.int .u8) .unit)), (.pair (.int .i64) .unit), P_internal_stringslite_IndexByte⟩
theorem h_internal_stringslite_IndexByte : Holds Tryz.prog glob 89 c_internal_stringslite_IndexByte := holds_str_u8 (spec := fun s c => Lib.indexByte s (show Int from c).toNat.toUInt8) Tryz.func89 (by kernel_rfl) (by kernel_rfl) (fun s c => indexByte_range _ s) (fun s c w => by
  go_enter Tryz.func89, Tryz.ntmps89
  go_wp2
  rw [run_callFunc_extern Tryz.func105 (by kernel_rfl) (by kernel_rfl) (by kernel_rfl) (e := Extern.BytealgIndexByte.indexByte) (by kernel_rfl), Lib.run_indexByteString]
  simp only [Result.andThen]
  rw [Oper.upon_value]
  go_wp2
  go_ret
  exact ⟨rfl, rfl⟩)
noncomputable def c_strings_IndexByte : Con := ⟨(.pair .str (.pair (.int .u8) .unit)), (.pair (.int .i64) .unit), P_strings_IndexByte⟩
theorem h_strings_IndexByte : Holds Tryz.prog glob 65 c_strings_IndexByte := holds_at (con := [(89, c_internal_stringslite_IndexByte)]) (rcon := []) ((con_cons h_internal_stringslite_IndexByte con_nil)) (rcon_nil) (fn := Tryz.f65) rfl (by kernel_rfl) (fun x => by kernel_rfl)
noncomputable def c_paths_isName : Con := ⟨(.pair .str .unit), (.pair .bool .unit), P_paths_isName⟩
theorem h_paths_isName : Holds Tryz.prog glob 101 c_paths_isName := holds_at (con := [(65, c_strings_IndexByte)]) (rcon := []) ((con_cons h_strings_IndexByte con_nil)) (rcon_nil) (fn := Tryz.f101) rfl (by kernel_rfl) (fun x => by kernel_rfl)
noncomputable def c_strings_Join : Con := ⟨(.pair (.slice .str) (.pair .str .unit)), (.pair .str .unit), P_strings_Join⟩
theorem h_strings_Join : Holds Tryz.prog glob 102 c_strings_Join := holds_join Tryz.func102 (by kernel_rfl) (by kernel_rfl) Tryz.strings_Join_none Tryz.strings_Join
noncomputable def c_paths_Clean : Con := ⟨(.pair .str .unit), (.pair .str (.pair (.int .i64) .unit)), P_paths_Clean⟩
theorem h_paths_Clean : Holds Tryz.prog glob 87 c_paths_Clean := holds_at (con := [(67, c_paths_Parts), (96, c_strings_HasPrefix), (101, c_paths_isName), (102, c_strings_Join)]) (rcon := []) ((con_cons h_paths_Parts (con_cons h_strings_HasPrefix (con_cons h_paths_isName (con_cons h_strings_Join con_nil))))) (rcon_nil) (fn := Tryz.f87) rfl (by kernel_rfl) (fun x => by kernel_rfl)
noncomputable def c_internal_stringslite_CutPrefix : Con := ⟨(.pair .str (.pair .str .unit)), (.pair .str (.pair .bool .unit)), P_internal_stringslite_CutPrefix⟩
theorem h_internal_stringslite_CutPrefix : Holds Tryz.prog glob 111 c_internal_stringslite_CutPrefix := holds_at (con := [(109, c_internal_stringslite_HasPrefix)]) (rcon := []) ((con_cons h_internal_stringslite_HasPrefix con_nil)) (rcon_nil) (fn := Tryz.f111) rfl (by kernel_rfl) (fun x => by kernel_rfl)
noncomputable def c_strings_CutPrefix : Con := ⟨(.pair .str (.pair .str .unit)), (.pair .str (.pair .bool .unit)), P_strings_CutPrefix⟩
theorem h_strings_CutPrefix : Holds Tryz.prog glob 103 c_strings_CutPrefix := holds_at (con := [(111, c_internal_stringslite_CutPrefix)]) (rcon := []) ((con_cons h_internal_stringslite_CutPrefix con_nil)) (rcon_nil) (fn := Tryz.f103) rfl (by kernel_rfl) (fun x => by kernel_rfl)
noncomputable def c_slices_Index_string_string : Con := ⟨(.pair (.slice .str) (.pair .str .unit)), (.pair (.int .i64) .unit), P_slices_Index_string_string⟩
theorem h_slices_Index_string_string : Holds Tryz.prog glob 112 c_slices_Index_string_string := holds_at (con := []) (rcon := []) (con_nil) (rcon_nil) (fn := Tryz.f112) rfl (by kernel_rfl) (fun x => by kernel_rfl)
noncomputable def c_slices_Contains_string_string : Con := ⟨(.pair (.slice .str) (.pair .str .unit)), (.pair .bool .unit), P_slices_Contains_string_string⟩
theorem h_slices_Contains_string_string : Holds Tryz.prog glob 104 c_slices_Contains_string_string := holds_at (con := [(112, c_slices_Index_string_string)]) (rcon := []) ((con_cons h_slices_Index_string_string con_nil)) (rcon_nil) (fn := Tryz.f104) rfl (by kernel_rfl) (fun x => by kernel_rfl)
noncomputable def c_paths_Mark : Con := ⟨(.pair .str .unit), (.pair (.int .i64) (.pair .str .unit)), P_paths_Mark⟩
theorem h_paths_Mark : Holds Tryz.prog glob 88 c_paths_Mark := holds_at (con := [(96, c_strings_HasPrefix), (103, c_strings_CutPrefix), (104, c_slices_Contains_string_string)]) (rcon := []) ((con_cons h_strings_HasPrefix (con_cons h_strings_CutPrefix (con_cons h_slices_Contains_string_string con_nil)))) (rcon_nil) (fn := Tryz.f88) rfl (by kernel_rfl) (fun x => by kernel_rfl)
noncomputable def c_tree_isPath : Con := ⟨(.pair .str .unit), (.pair .bool .unit), P_tree_isPath⟩
theorem h_tree_isPath : Holds Tryz.prog glob 64 c_tree_isPath := holds_at (con := [(29, c_paths_Split), (87, c_paths_Clean), (88, c_paths_Mark)]) (rcon := []) ((con_cons h_paths_Split (con_cons h_paths_Clean (con_cons h_paths_Mark con_nil)))) (rcon_nil) (fn := Tryz.f64) rfl (by kernel_rfl) (fun x => by kernel_rfl)
noncomputable def c_tree_is : Con := ⟨(.pair (.pair .str (.pair (.int .i64) (.pair (.int .i64) (.pair .str (.pair .str .unit))))) .unit), (.pair .bool .unit), P_tree_is⟩
theorem h_tree_is : Holds Tryz.prog glob 43 c_tree_is := holds_at (con := [(64, c_tree_isPath), (65, c_strings_IndexByte)]) (rcon := []) ((con_cons h_tree_isPath (con_cons h_strings_IndexByte con_nil))) (rcon_nil) (fn := Tryz.f43) rfl (by kernel_rfl) (fun x => by kernel_rfl)
noncomputable def c_cmp_isNaN_string : Con := ⟨(.pair .str .unit), (.pair .bool .unit), P_cmp_isNaN_string⟩
theorem h_cmp_isNaN_string : Holds Tryz.prog glob 91 c_cmp_isNaN_string := holds_at (con := []) (rcon := []) (con_nil) (rcon_nil) (fn := Tryz.f91) rfl (by kernel_rfl) (fun x => by kernel_rfl)
noncomputable def c_cmp_Compare_string : Con := ⟨(.pair .str (.pair .str .unit)), (.pair (.int .i64) .unit), P_cmp_Compare_string⟩
theorem h_cmp_Compare_string : Holds Tryz.prog glob 68 c_cmp_Compare_string := holds_at (con := [(91, c_cmp_isNaN_string)]) (rcon := []) ((con_cons h_cmp_isNaN_string con_nil)) (rcon_nil) (fn := Tryz.f68) rfl (by kernel_rfl) (fun x => by kernel_rfl)
noncomputable def c_paths_Compare : Con := ⟨(.pair .str (.pair .str .unit)), (.pair (.int .i64) .unit), P_paths_Compare⟩
theorem h_paths_Compare : Holds Tryz.prog glob 44 c_paths_Compare := holds_at (con := [(67, c_paths_Parts), (68, c_cmp_Compare_string)]) (rcon := []) ((con_cons h_paths_Parts (con_cons h_cmp_Compare_string con_nil))) (rcon_nil) (fn := Tryz.f44) rfl (by kernel_rfl) (fun x => by kernel_rfl)
noncomputable def c_tree_place_c1 : Con := ⟨(.pair (.pair .str (.pair (.int .i64) (.pair (.int .i64) (.pair .str (.pair .str .unit))))) (.pair .str .unit)), (.pair (.int .i64) .unit), P_tree_place_c1⟩
theorem h_tree_place_c1 : Holds Tryz.prog glob 70 c_tree_place_c1 := holds_at (con := [(44, c_paths_Compare)]) (rcon := []) ((con_cons h_paths_Compare con_nil)) (rcon_nil) (fn := Tryz.f70) rfl (by kernel_rfl) (fun x => by kernel_rfl)
noncomputable def c_tree_place : Con := ⟨(.pair (.slice (.pair .str (.pair (.int .i64) (.pair (.int .i64) (.pair .str (.pair .str .unit)))))) (.pair .str .unit)), (.pair (.int .i64) (.pair .bool .unit)), P_tree_place⟩
theorem h_tree_place : Holds Tryz.prog glob 47 c_tree_place := holds_at (con := [(70, c_tree_place_c1)]) (rcon := []) ((con_cons h_tree_place_c1 con_nil)) (rcon_nil) (fn := Tryz.f47) rfl (by kernel_rfl) (fun x => by kernel_rfl)
noncomputable def c_tree_dir : Con := ⟨(.pair (.slice (.pair .str (.pair (.int .i64) (.pair (.int .i64) (.pair .str (.pair .str .unit)))))) (.pair .str .unit)), (.pair (.int .i64) .unit), P_tree_dir⟩
theorem h_tree_dir : Holds Tryz.prog glob 45 c_tree_dir := holds_at (con := [(47, c_tree_place)]) (rcon := []) ((con_cons h_tree_place con_nil)) (rcon_nil) (fn := Tryz.f45) rfl (by kernel_rfl) (fun x => by kernel_rfl)
noncomputable def c_tree_Check : Con := ⟨(.pair (.slice (.pair .str (.pair (.int .i64) (.pair (.int .i64) (.pair .str (.pair .str .unit)))))) .unit), (.pair (.int .i64) .unit), P_tree_Check⟩
theorem h_tree_Check : Holds Tryz.prog glob 19 c_tree_Check := holds_at (con := [(29, c_paths_Split), (43, c_tree_is), (44, c_paths_Compare), (45, c_tree_dir)]) (rcon := []) ((con_cons h_paths_Split (con_cons h_tree_is (con_cons h_paths_Compare (con_cons h_tree_dir con_nil))))) (rcon_nil) (fn := Tryz.f19) rfl (by kernel_rfl) (fun x => by kernel_rfl)
noncomputable def c_delta_Changes : Con := ⟨(.pair (.slice (.pair .str (.pair (.int .i64) (.pair (.int .i64) (.pair .str (.pair .str .unit)))))) (.pair (.slice (.pair .str (.pair (.int .i64) (.pair (.int .i64) (.pair .str (.pair .str .unit)))))) .unit)), (.pair (.slice (.pair (.int .i64) (.pair .str .unit))) (.pair (.int .i64) .unit)), P_delta_Changes⟩
theorem h_delta_Changes : Holds Tryz.prog glob 7 c_delta_Changes := holds_at (con := [(19, c_tree_Check), (44, c_paths_Compare)]) (rcon := []) ((con_cons h_tree_Check (con_cons h_paths_Compare con_nil))) (rcon_nil) (fn := Tryz.f7) rfl (by kernel_rfl) (fun x => by kernel_rfl)
noncomputable def c_tree_Find : Con := ⟨(.pair (.slice (.pair .str (.pair (.int .i64) (.pair (.int .i64) (.pair .str (.pair .str .unit)))))) (.pair .str .unit)), (.pair (.pair .str (.pair (.int .i64) (.pair (.int .i64) (.pair .str (.pair .str .unit))))) (.pair .bool .unit)), P_tree_Find⟩
theorem h_tree_Find : Holds Tryz.prog glob 27 c_tree_Find := holds_at (con := [(19, c_tree_Check), (47, c_tree_place)]) (rcon := []) ((con_cons h_tree_Check (con_cons h_tree_place con_nil))) (rcon_nil) (fn := Tryz.f27) rfl (by kernel_rfl) (fun x => by kernel_rfl)
noncomputable def c_delta_part : Con := ⟨(.pair (.pair .str (.pair (.int .i64) (.pair (.int .i64) (.pair .str (.pair .str .unit))))) .unit), (.pair (.pair (.pair .str (.pair (.int .i64) (.pair (.int .i64) (.pair (.int .i64) (.pair (.int .i64) (.pair (.int .i64) (.pair (.int .i64) (.pair .str .unit)))))))) (.pair .str .unit)) .unit), P_delta_part⟩
theorem h_delta_part : Holds Tryz.prog glob 28 c_delta_part := holds_at (con := []) (rcon := []) (con_nil) (rcon_nil) (fn := Tryz.f28) rfl (by kernel_rfl) (fun x => by kernel_rfl)
noncomputable def c_paths_Join : Con := ⟨(.pair .str (.pair .str .unit)), (.pair .str .unit), P_paths_Join⟩
theorem h_paths_Join : Holds Tryz.prog glob 30 c_paths_Join := holds_at (con := []) (rcon := []) (con_nil) (rcon_nil) (fn := Tryz.f30) rfl (by kernel_rfl) (fun x => by kernel_rfl)
noncomputable def c_delta_Parts : Con := ⟨(.pair (.slice (.pair .str (.pair (.int .i64) (.pair (.int .i64) (.pair .str (.pair .str .unit)))))) (.pair (.slice (.pair .str (.pair (.int .i64) (.pair (.int .i64) (.pair .str (.pair .str .unit)))))) .unit)), (.pair (.slice (.pair (.pair .str (.pair (.int .i64) (.pair (.int .i64) (.pair (.int .i64) (.pair (.int .i64) (.pair (.int .i64) (.pair (.int .i64) (.pair .str .unit)))))))) (.pair .str .unit))) (.pair (.int .i64) .unit)), P_delta_Parts⟩
theorem h_delta_Parts : Holds Tryz.prog glob 9 c_delta_Parts := holds_at (con := [(7, c_delta_Changes), (27, c_tree_Find), (28, c_delta_part), (29, c_paths_Split), (30, c_paths_Join)]) (rcon := []) ((con_cons h_delta_Changes (con_cons h_tree_Find (con_cons h_delta_part (con_cons h_paths_Split (con_cons h_paths_Join con_nil)))))) (rcon_nil) (fn := Tryz.f9) rfl (by kernel_rfl) (fun x => by kernel_rfl)
noncomputable def c_header_in : Con := ⟨(.pair (.int .i64) (.pair (.int .i64) .unit)), (.pair .bool .unit), P_header_in⟩
theorem h_header_in : Holds Tryz.prog glob 93 c_header_in := holds_at (con := []) (rcon := []) (con_nil) (rcon_nil) (fn := Tryz.f93) rfl (by kernel_rfl) (fun x => by kernel_rfl)
noncomputable def c_header_clear : Con := ⟨(.pair .str (.pair (.int .i64) .unit)), (.pair .bool .unit), P_header_clear⟩
theorem h_header_clear : Holds Tryz.prog glob 94 c_header_clear := holds_at (con := [(65, c_strings_IndexByte)]) (rcon := []) ((con_cons h_strings_IndexByte con_nil)) (rcon_nil) (fn := Tryz.f94) rfl (by kernel_rfl) (fun x => by kernel_rfl)
noncomputable def c_header_is : Con := ⟨(.pair (.pair .str (.pair (.int .i64) (.pair (.int .i64) (.pair (.int .i64) (.pair (.int .i64) (.pair (.int .i64) (.pair (.int .i64) (.pair .str .unit)))))))) (.pair (.int .i64) .unit)), (.pair .bool .unit), P_header_is⟩
theorem h_header_is : Holds Tryz.prog glob 73 c_header_is := holds_at (con := [(93, c_header_in), (94, c_header_clear)]) (rcon := []) ((con_cons h_header_in (con_cons h_header_clear con_nil))) (rcon_nil) (fn := Tryz.f73) rfl (by kernel_rfl) (fun x => by kernel_rfl)
noncomputable def c_header_fields : Con := ⟨.unit, (.pair (.arr 11 (.pair (.int .i64) (.pair (.int .i64) .unit))) .unit), P_header_fields⟩
theorem h_header_fields : Holds Tryz.prog glob 74 c_header_fields := holds_at (con := []) (rcon := []) (con_nil) (rcon_nil) (fn := Tryz.f74) rfl (by kernel_rfl) (fun x => by kernel_rfl)
noncomputable def c_digits_Octal : Con := ⟨(.pair (.int .i64) (.pair (.int .i64) .unit)), (.pair .str (.pair .bool .unit)), P_digits_Octal⟩
theorem h_digits_Octal : Holds Tryz.prog glob 77 c_digits_Octal := holds_at (con := []) (rcon := []) (con_nil) (rcon_nil) (fn := Tryz.f77) rfl (by kernel_rfl) (fun x => by kernel_rfl)
noncomputable def c_header_Sum : Con := ⟨(.pair .str .unit), (.pair (.int .i64) .unit), P_header_Sum⟩
theorem h_header_Sum : Holds Tryz.prog glob 78 c_header_Sum := holds_at (con := [(74, c_header_fields)]) (rcon := []) ((con_cons h_header_fields con_nil)) (rcon_nil) (fn := Tryz.f78) rfl (by kernel_rfl) (fun x => by kernel_rfl)
noncomputable def c_header_Put : Con := ⟨(.pair (.pair .str (.pair (.int .i64) (.pair (.int .i64) (.pair (.int .i64) (.pair (.int .i64) (.pair (.int .i64) (.pair (.int .i64) (.pair .str .unit)))))))) .unit), (.pair .str (.pair (.int .i64) .unit)), P_header_Put⟩
theorem h_header_Put : Holds Tryz.prog glob 51 c_header_Put := holds_at (con := [(73, c_header_is), (74, c_header_fields), (77, c_digits_Octal), (78, c_header_Sum)]) (rcon := []) ((con_cons h_header_is (con_cons h_header_fields (con_cons h_digits_Octal (con_cons h_header_Sum con_nil))))) (rcon_nil) (fn := Tryz.f51) rfl (by kernel_rfl) (fun x => by kernel_rfl)
noncomputable def c_strings_Repeat : Con := ⟨(.pair .str (.pair (.int .i64) .unit)), (.pair .str .unit), P_strings_Repeat⟩
theorem h_strings_Repeat : Holds Tryz.prog glob 79 c_strings_Repeat := holds_str_i64 (spec := S_strings_Repeat) Tryz.func79 (by kernel_rfl) (by kernel_rfl) (fun _ _ _ h => S_strings_Repeat_len h) (fun s c w y hc hl hy => by
  obtain ⟨h1, h2, rfl⟩ := S_strings_Repeat_some hy
  have hm : (IntKind.i64).max = 9223372036854775807 := by decide
  obtain ⟨n, rfl⟩ := Int.eq_ofNat_of_zero_le h1
  exact Tryz.strings_Repeat s n w (by omega) h2)
noncomputable def c_tar_noughts : Con := ⟨(.pair (.int .i64) .unit), (.pair .str .unit), P_tar_noughts⟩
theorem h_tar_noughts : Holds Tryz.prog glob 52 c_tar_noughts := holds_at (con := [(79, c_strings_Repeat)]) (rcon := []) ((con_cons h_strings_Repeat con_nil)) (rcon_nil) (fn := Tryz.f52) rfl (by kernel_rfl) (fun x => by kernel_rfl)
noncomputable def c_tar_fill : Con := ⟨(.pair (.int .i64) .unit), (.pair (.int .i64) .unit), P_tar_fill⟩
theorem h_tar_fill : Holds Tryz.prog glob 53 c_tar_fill := holds_at (con := []) (rcon := []) (con_nil) (rcon_nil) (fn := Tryz.f53) rfl (by kernel_rfl) (fun x => by kernel_rfl)
noncomputable def c_tar_Write : Con := ⟨(.pair (.slice (.pair (.pair .str (.pair (.int .i64) (.pair (.int .i64) (.pair (.int .i64) (.pair (.int .i64) (.pair (.int .i64) (.pair (.int .i64) (.pair .str .unit)))))))) (.pair .str .unit))) .unit), (.pair .str (.pair (.int .i64) .unit)), P_tar_Write⟩
theorem h_tar_Write : Holds Tryz.prog glob 34 c_tar_Write := holds_at (con := [(51, c_header_Put), (52, c_tar_noughts), (53, c_tar_fill)]) (rcon := []) ((con_cons h_header_Put (con_cons h_tar_noughts (con_cons h_tar_fill con_nil)))) (rcon_nil) (fn := Tryz.f34) rfl (by kernel_rfl) (fun x => by kernel_rfl)
noncomputable def c_delta_Diff : Con := ⟨(.pair (.slice (.pair .str (.pair (.int .i64) (.pair (.int .i64) (.pair .str (.pair .str .unit)))))) (.pair (.slice (.pair .str (.pair (.int .i64) (.pair (.int .i64) (.pair .str (.pair .str .unit)))))) .unit)), (.pair .str (.pair (.int .i64) .unit)), P_delta_Diff⟩
theorem h_delta_Diff : Holds Tryz.prog glob 11 c_delta_Diff := holds_at (con := [(9, c_delta_Parts), (34, c_tar_Write)]) (rcon := []) ((con_cons h_delta_Parts (con_cons h_tar_Write con_nil))) (rcon_nil) (fn := Tryz.f11) rfl (by kernel_rfl) (fun x => by kernel_rfl)
noncomputable def c_ref16_Same : Con := ⟨(.pair (.slice (.pair (.int .i64) (.pair .str .unit))) (.pair (.slice (.pair (.int .i64) (.pair .str .unit))) .unit)), (.pair .bool .unit), P_ref16_Same⟩
theorem h_ref16_Same : Holds Tryz.prog glob 13 c_ref16_Same := holds_at (con := []) (rcon := []) (con_nil) (rcon_nil) (fn := Tryz.f13) rfl (by kernel_rfl) (fun x => by kernel_rfl)
noncomputable def c_digits_Hex : Con := ⟨(.pair .str .unit), (.pair .str .unit), P_digits_Hex⟩
theorem h_digits_Hex : Holds Tryz.prog glob 37 c_digits_Hex := holds_at (con := []) (rcon := []) (con_nil) (rcon_nil) (fn := Tryz.f37) rfl (by kernel_rfl) (fun x => by kernel_rfl)
noncomputable def c_delta_Text : Con := ⟨(.pair (.slice (.pair (.int .i64) (.pair .str .unit))) .unit), (.pair .str .unit), P_delta_Text⟩
theorem h_delta_Text : Holds Tryz.prog glob 15 c_delta_Text := holds_at (con := [(37, c_digits_Hex)]) (rcon := []) ((con_cons h_digits_Hex con_nil)) (rcon_nil) (fn := Tryz.f15) rfl (by kernel_rfl) (fun x => by kernel_rfl)
noncomputable def c_law16_awake : Con := ⟨.unit, (.pair .bool .unit), P_law16_awake⟩
theorem h_law16_awake : Holds Tryz.prog glob 6 c_law16_awake := holds_at (con := [(7, c_delta_Changes), (9, c_delta_Parts), (11, c_delta_Diff), (13, c_ref16_Same), (15, c_delta_Text)]) (rcon := []) ((con_cons h_delta_Changes (con_cons h_delta_Parts (con_cons h_delta_Diff (con_cons h_ref16_Same (con_cons h_delta_Text con_nil)))))) (rcon_nil) (fn := Tryz.f6) rfl (by kernel_rfl) (fun x => by kernel_rfl)
noncomputable def c_ref07_Parts : Con := ⟨(.pair .str .unit), (.pair (.slice .str) .unit), P_ref07_Parts⟩
theorem h_ref07_Parts : Holds Tryz.prog glob 49 c_ref07_Parts := holds_at (con := []) (rcon := []) (con_nil) (rcon_nil) (fn := Tryz.f49) rfl (by kernel_rfl) (fun x => by kernel_rfl)
noncomputable def c_ref07_join : Con := ⟨(.pair (.slice .str) .unit), (.pair .str .unit), P_ref07_join⟩
theorem h_ref07_join : Holds Tryz.prog glob 50 c_ref07_join := holds_at (con := []) (rcon := []) (con_nil) (rcon_nil) (fn := Tryz.f50) rfl (by kernel_rfl) (fun x => by kernel_rfl)
noncomputable def c_ref07_Split : Con := ⟨(.pair .str .unit), (.pair .str (.pair .str .unit)), P_ref07_Split⟩
theorem h_ref07_Split : Holds Tryz.prog glob 32 c_ref07_Split := holds_at (con := [(49, c_ref07_Parts), (50, c_ref07_join)]) (rcon := []) ((con_cons h_ref07_Parts (con_cons h_ref07_join con_nil))) (rcon_nil) (fn := Tryz.f32) rfl (by kernel_rfl) (fun x => by kernel_rfl)
noncomputable def c_ref07_begins : Con := ⟨(.pair .str (.pair .str .unit)), (.pair .bool .unit), P_ref07_begins⟩
theorem h_ref07_begins : Holds Tryz.prog glob 85 c_ref07_begins := holds_at (con := []) (rcon := []) (con_nil) (rcon_nil) (fn := Tryz.f85) rfl (by kernel_rfl) (fun x => by kernel_rfl)
noncomputable def c_ref07_Mark : Con := ⟨(.pair .str .unit), (.pair (.int .i64) (.pair .str .unit)), P_ref07_Mark⟩
theorem h_ref07_Mark : Holds Tryz.prog glob 61 c_ref07_Mark := holds_at (con := [(85, c_ref07_begins)]) (rcon := []) ((con_cons h_ref07_begins con_nil)) (rcon_nil) (fn := Tryz.f61) rfl (by kernel_rfl) (fun x => by kernel_rfl)
noncomputable def c_ref07_isName : Con := ⟨(.pair .str .unit), (.pair .bool .unit), P_ref07_isName⟩
theorem h_ref07_isName : Holds Tryz.prog glob 86 c_ref07_isName := holds_at (con := []) (rcon := []) (con_nil) (rcon_nil) (fn := Tryz.f86) rfl (by kernel_rfl) (fun x => by kernel_rfl)
noncomputable def c_ref07_Is : Con := ⟨(.pair .str .unit), (.pair .bool .unit), P_ref07_Is⟩
theorem h_ref07_Is : Holds Tryz.prog glob 62 c_ref07_Is := holds_at (con := [(49, c_ref07_Parts), (86, c_ref07_isName)]) (rcon := []) ((con_cons h_ref07_Parts (con_cons h_ref07_isName con_nil))) (rcon_nil) (fn := Tryz.f62) rfl (by kernel_rfl) (fun x => by kernel_rfl)
noncomputable def c_ref14_IsLink : Con := ⟨(.pair .str .unit), (.pair .bool .unit), P_ref14_IsLink⟩
theorem h_ref14_IsLink : Holds Tryz.prog glob 63 c_ref14_IsLink := holds_at (con := []) (rcon := []) (con_nil) (rcon_nil) (fn := Tryz.f63) rfl (by kernel_rfl) (fun x => by kernel_rfl)
noncomputable def c_ref14_May : Con := ⟨(.pair (.pair .str (.pair (.int .i64) (.pair (.int .i64) (.pair .str (.pair .str .unit))))) .unit), (.pair .bool .unit), P_ref14_May⟩
theorem h_ref14_May : Holds Tryz.prog glob 40 c_ref14_May := holds_at (con := [(32, c_ref07_Split), (61, c_ref07_Mark), (62, c_ref07_Is), (63, c_ref14_IsLink)]) (rcon := []) ((con_cons h_ref07_Split (con_cons h_ref07_Mark (con_cons h_ref07_Is (con_cons h_ref14_IsLink con_nil))))) (rcon_nil) (fn := Tryz.f40) rfl (by kernel_rfl) (fun x => by kernel_rfl)
noncomputable def c_ref14_find : Con := ⟨(.pair (.slice (.pair .str (.pair (.int .i64) (.pair (.int .i64) (.pair .str (.pair .str .unit)))))) (.pair .str .unit)), (.pair (.int .i64) .unit), P_ref14_find⟩
theorem h_ref14_find : Holds Tryz.prog glob 46 c_ref14_find := holds_at (con := []) (rcon := []) (con_nil) (rcon_nil) (fn := Tryz.f46) rfl (by kernel_rfl) (fun x => by kernel_rfl)
noncomputable def c_ref14_dir : Con := ⟨(.pair (.slice (.pair .str (.pair (.int .i64) (.pair (.int .i64) (.pair .str (.pair .str .unit)))))) (.pair .str .unit)), (.pair .bool .unit), P_ref14_dir⟩
theorem h_ref14_dir : Holds Tryz.prog glob 41 c_ref14_dir := holds_at (con := [(46, c_ref14_find)]) (rcon := []) ((con_cons h_ref14_find con_nil)) (rcon_nil) (fn := Tryz.f41) rfl (by kernel_rfl) (fun x => by kernel_rfl)
noncomputable def c_ref07_Compare : Con := ⟨(.pair .str (.pair .str .unit)), (.pair (.int .i64) .unit), P_ref07_Compare⟩
theorem h_ref07_Compare : Holds Tryz.prog glob 42 c_ref07_Compare := holds_at (con := [(49, c_ref07_Parts)]) (rcon := []) ((con_cons h_ref07_Parts con_nil)) (rcon_nil) (fn := Tryz.f42) rfl (by kernel_rfl) (fun x => by kernel_rfl)
noncomputable def c_ref14_Is : Con := ⟨(.pair (.slice (.pair .str (.pair (.int .i64) (.pair (.int .i64) (.pair .str (.pair .str .unit)))))) .unit), (.pair .bool .unit), P_ref14_Is⟩
theorem h_ref14_Is : Holds Tryz.prog glob 17 c_ref14_Is := holds_at (con := [(32, c_ref07_Split), (40, c_ref14_May), (41, c_ref14_dir), (42, c_ref07_Compare)]) (rcon := []) ((con_cons h_ref07_Split (con_cons h_ref14_May (con_cons h_ref14_dir (con_cons h_ref07_Compare con_nil))))) (rcon_nil) (fn := Tryz.f17) rfl (by kernel_rfl) (fun x => by kernel_rfl)
noncomputable def c_ref14_Find : Con := ⟨(.pair (.slice (.pair .str (.pair (.int .i64) (.pair (.int .i64) (.pair .str (.pair .str .unit)))))) (.pair .str .unit)), (.pair (.pair .str (.pair (.int .i64) (.pair (.int .i64) (.pair .str (.pair .str .unit))))) (.pair .bool .unit)), P_ref14_Find⟩
theorem h_ref14_Find : Holds Tryz.prog glob 25 c_ref14_Find := holds_at (con := [(17, c_ref14_Is), (46, c_ref14_find)]) (rcon := []) ((con_cons h_ref14_Is (con_cons h_ref14_find con_nil))) (rcon_nil) (fn := Tryz.f25) rfl (by kernel_rfl) (fun x => by kernel_rfl)
noncomputable def c_ref16_put : Con := ⟨(.pair (.slice (.pair (.int .i64) (.pair .str .unit))) (.pair (.pair (.int .i64) (.pair .str .unit)) .unit)), (.pair (.slice (.pair (.int .i64) (.pair .str .unit))) .unit), P_ref16_put⟩
theorem h_ref16_put : Holds Tryz.prog glob 26 c_ref16_put := holds_at (con := [(42, c_ref07_Compare)]) (rcon := []) ((con_cons h_ref07_Compare con_nil)) (rcon_nil) (fn := Tryz.f26) rfl (by kernel_rfl) (fun x => by kernel_rfl)
noncomputable def c_ref16_Changes : Con := ⟨(.pair (.slice (.pair .str (.pair (.int .i64) (.pair (.int .i64) (.pair .str (.pair .str .unit)))))) (.pair (.slice (.pair .str (.pair (.int .i64) (.pair (.int .i64) (.pair .str (.pair .str .unit)))))) .unit)), (.pair (.slice (.pair (.int .i64) (.pair .str .unit))) (.pair (.int .i64) .unit)), P_ref16_Changes⟩
theorem h_ref16_Changes : Holds Tryz.prog glob 8 c_ref16_Changes := holds_at (con := [(17, c_ref14_Is), (25, c_ref14_Find), (26, c_ref16_put)]) (rcon := []) ((con_cons h_ref14_Is (con_cons h_ref14_Find (con_cons h_ref16_put con_nil)))) (rcon_nil) (fn := Tryz.f8) rfl (by kernel_rfl) (fun x => by kernel_rfl)
noncomputable def c_ref16_part : Con := ⟨(.pair (.pair .str (.pair (.int .i64) (.pair (.int .i64) (.pair .str (.pair .str .unit))))) .unit), (.pair (.pair (.pair .str (.pair (.int .i64) (.pair (.int .i64) (.pair (.int .i64) (.pair (.int .i64) (.pair (.int .i64) (.pair (.int .i64) (.pair .str .unit)))))))) (.pair .str .unit)) .unit), P_ref16_part⟩
theorem h_ref16_part : Holds Tryz.prog glob 31 c_ref16_part := holds_at (con := []) (rcon := []) (con_nil) (rcon_nil) (fn := Tryz.f31) rfl (by kernel_rfl) (fun x => by kernel_rfl)
noncomputable def c_ref07_Join : Con := ⟨(.pair .str (.pair .str .unit)), (.pair .str .unit), P_ref07_Join⟩
theorem h_ref07_Join : Holds Tryz.prog glob 33 c_ref07_Join := holds_at (con := []) (rcon := []) (con_nil) (rcon_nil) (fn := Tryz.f33) rfl (by kernel_rfl) (fun x => by kernel_rfl)
noncomputable def c_ref16_Parts : Con := ⟨(.pair (.slice (.pair .str (.pair (.int .i64) (.pair (.int .i64) (.pair .str (.pair .str .unit)))))) (.pair (.slice (.pair .str (.pair (.int .i64) (.pair (.int .i64) (.pair .str (.pair .str .unit)))))) .unit)), (.pair (.slice (.pair (.pair .str (.pair (.int .i64) (.pair (.int .i64) (.pair (.int .i64) (.pair (.int .i64) (.pair (.int .i64) (.pair (.int .i64) (.pair .str .unit)))))))) (.pair .str .unit))) (.pair (.int .i64) .unit)), P_ref16_Parts⟩
theorem h_ref16_Parts : Holds Tryz.prog glob 10 c_ref16_Parts := holds_at (con := [(8, c_ref16_Changes), (25, c_ref14_Find), (31, c_ref16_part), (32, c_ref07_Split), (33, c_ref07_Join)]) (rcon := []) ((con_cons h_ref16_Changes (con_cons h_ref14_Find (con_cons h_ref16_part (con_cons h_ref07_Split (con_cons h_ref07_Join con_nil)))))) (rcon_nil) (fn := Tryz.f10) rfl (by kernel_rfl) (fun x => by kernel_rfl)
noncomputable def c_ref12_clear : Con := ⟨(.pair .str (.pair (.int .i64) .unit)), (.pair .bool .unit), P_ref12_clear⟩
theorem h_ref12_clear : Holds Tryz.prog glob 98 c_ref12_clear := holds_at (con := []) (rcon := []) (con_nil) (rcon_nil) (fn := Tryz.f98) rfl (by kernel_rfl) (fun x => by kernel_rfl)
noncomputable def c_ref12_in : Con := ⟨(.pair (.int .i64) (.pair (.int .i64) .unit)), (.pair .bool .unit), P_ref12_in⟩
theorem h_ref12_in : Holds Tryz.prog glob 99 c_ref12_in := holds_at (con := []) (rcon := []) (con_nil) (rcon_nil) (fn := Tryz.f99) rfl (by kernel_rfl) (fun x => by kernel_rfl)
noncomputable def c_ref12_may : Con := ⟨(.pair (.pair .str (.pair (.int .i64) (.pair (.int .i64) (.pair (.int .i64) (.pair (.int .i64) (.pair (.int .i64) (.pair (.int .i64) (.pair .str .unit)))))))) (.pair (.int .i64) .unit)), (.pair .bool .unit), P_ref12_may⟩
theorem h_ref12_may : Holds Tryz.prog glob 80 c_ref12_may := holds_at (con := [(98, c_ref12_clear), (99, c_ref12_in)]) (rcon := []) ((con_cons h_ref12_clear (con_cons h_ref12_in con_nil))) (rcon_nil) (fn := Tryz.f80) rfl (by kernel_rfl) (fun x => by kernel_rfl)
noncomputable def c_ref12_put : Con := ⟨(.pair .str (.pair (.int .i64) (.pair .str .unit))), (.pair .str .unit), P_ref12_put⟩
theorem h_ref12_put : Holds Tryz.prog glob 81 c_ref12_put := holds_at (con := []) (rcon := []) (con_nil) (rcon_nil) (fn := Tryz.f81) rfl (by kernel_rfl) (fun x => by kernel_rfl)
noncomputable def c_ref01_Octal : Con := ⟨(.pair (.int .i64) (.pair (.int .i64) .unit)), (.pair .str (.pair .bool .unit)), P_ref01_Octal⟩
theorem h_ref01_Octal : Holds Tryz.prog glob 100 c_ref01_Octal := holds_at (con := []) (rcon := []) (con_nil) (rcon_nil) (fn := Tryz.f100) rfl (by kernel_rfl) (fun x => by kernel_rfl)
noncomputable def c_ref12_octal : Con := ⟨(.pair (.int .i64) (.pair (.int .i64) .unit)), (.pair .str .unit), P_ref12_octal⟩
theorem h_ref12_octal : Holds Tryz.prog glob 82 c_ref12_octal := holds_at (con := [(100, c_ref01_Octal)]) (rcon := []) ((con_cons h_ref01_Octal con_nil)) (rcon_nil) (fn := Tryz.f82) rfl (by kernel_rfl) (fun x => by kernel_rfl)
noncomputable def c_ref12_Sum : Con := ⟨(.pair .str .unit), (.pair (.int .i64) .unit), P_ref12_Sum⟩
theorem h_ref12_Sum : Holds Tryz.prog glob 83 c_ref12_Sum := holds_at (con := []) (rcon := []) (con_nil) (rcon_nil) (fn := Tryz.f83) rfl (by kernel_rfl) (fun x => by kernel_rfl)
noncomputable def c_ref12_Put : Con := ⟨(.pair (.pair .str (.pair (.int .i64) (.pair (.int .i64) (.pair (.int .i64) (.pair (.int .i64) (.pair (.int .i64) (.pair (.int .i64) (.pair .str .unit)))))))) .unit), (.pair .str (.pair (.int .i64) .unit)), P_ref12_Put⟩
theorem h_ref12_Put : Holds Tryz.prog glob 55 c_ref12_Put := holds_at (con := [(80, c_ref12_may), (81, c_ref12_put), (82, c_ref12_octal), (83, c_ref12_Sum)]) (rcon := []) ((con_cons h_ref12_may (con_cons h_ref12_put (con_cons h_ref12_octal (con_cons h_ref12_Sum con_nil))))) (rcon_nil) (fn := Tryz.f55) rfl (by kernel_rfl) (fun x => by kernel_rfl)
noncomputable def c_ref13_whole : Con := ⟨(.pair (.int .i64) .unit), (.pair (.int .i64) .unit), P_ref13_whole⟩
theorem h_ref13_whole : Holds Tryz.prog glob 56 c_ref13_whole := holds_at (con := []) (rcon := []) (con_nil) (rcon_nil) (fn := Tryz.f56) rfl (by kernel_rfl) (fun x => by kernel_rfl)
noncomputable def c_ref13_noughts : Con := ⟨(.pair (.int .i64) .unit), (.pair .str .unit), P_ref13_noughts⟩
theorem h_ref13_noughts : Holds Tryz.prog glob 57 c_ref13_noughts := holds_at (con := []) (rcon := []) (con_nil) (rcon_nil) (fn := Tryz.f57) rfl (by kernel_rfl) (fun x => by kernel_rfl)
noncomputable def c_ref13_Write : Con := ⟨(.pair (.slice (.pair (.pair .str (.pair (.int .i64) (.pair (.int .i64) (.pair (.int .i64) (.pair (.int .i64) (.pair (.int .i64) (.pair (.int .i64) (.pair .str .unit)))))))) (.pair .str .unit))) .unit), (.pair .str (.pair (.int .i64) .unit)), P_ref13_Write⟩
theorem h_ref13_Write : Holds Tryz.prog glob 35 c_ref13_Write := holds_at (con := [(55, c_ref12_Put), (56, c_ref13_whole), (57, c_ref13_noughts)]) (rcon := []) ((con_cons h_ref12_Put (con_cons h_ref13_whole (con_cons h_ref13_noughts con_nil)))) (rcon_nil) (fn := Tryz.f35) rfl (by kernel_rfl) (fun x => by kernel_rfl)
noncomputable def c_ref16_Diff : Con := ⟨(.pair (.slice (.pair .str (.pair (.int .i64) (.pair (.int .i64) (.pair .str (.pair .str .unit)))))) (.pair (.slice (.pair .str (.pair (.int .i64) (.pair (.int .i64) (.pair .str (.pair .str .unit)))))) .unit)), (.pair .str (.pair (.int .i64) .unit)), P_ref16_Diff⟩
theorem h_ref16_Diff : Holds Tryz.prog glob 12 c_ref16_Diff := holds_at (con := [(10, c_ref16_Parts), (35, c_ref13_Write)]) (rcon := []) ((con_cons h_ref16_Parts (con_cons h_ref13_Write con_nil))) (rcon_nil) (fn := Tryz.f12) rfl (by kernel_rfl) (fun x => by kernel_rfl)
noncomputable def c_ref13_Same : Con := ⟨(.pair (.slice (.pair (.pair .str (.pair (.int .i64) (.pair (.int .i64) (.pair (.int .i64) (.pair (.int .i64) (.pair (.int .i64) (.pair (.int .i64) (.pair .str .unit)))))))) (.pair .str .unit))) (.pair (.slice (.pair (.pair .str (.pair (.int .i64) (.pair (.int .i64) (.pair (.int .i64) (.pair (.int .i64) (.pair (.int .i64) (.pair (.int .i64) (.pair .str .unit)))))))) (.pair .str .unit))) .unit)), (.pair .bool .unit), P_ref13_Same⟩
theorem h_ref13_Same : Holds Tryz.prog glob 14 c_ref13_Same := holds_at (con := []) (rcon := []) (con_nil) (rcon_nil) (fn := Tryz.f14) rfl (by kernel_rfl) (fun x => by kernel_rfl)
noncomputable def c_ref01_digit : Con := ⟨(.pair (.int .i64) .unit), (.pair (.int .u8) .unit), P_ref01_digit⟩
theorem h_ref01_digit : Holds Tryz.prog glob 60 c_ref01_digit := holds_at (con := []) (rcon := []) (con_nil) (rcon_nil) (fn := Tryz.f60) rfl (by kernel_rfl) (fun x => by kernel_rfl)
noncomputable def c_ref01_Hex : Con := ⟨(.pair .str .unit), (.pair .str .unit), P_ref01_Hex⟩
theorem h_ref01_Hex : Holds Tryz.prog glob 39 c_ref01_Hex := holds_at (con := [(60, c_ref01_digit)]) (rcon := []) ((con_cons h_ref01_digit con_nil)) (rcon_nil) (fn := Tryz.f39) rfl (by kernel_rfl) (fun x => by kernel_rfl)
noncomputable def c_ref16_Text : Con := ⟨(.pair (.slice (.pair (.int .i64) (.pair .str .unit))) .unit), (.pair .str .unit), P_ref16_Text⟩
theorem h_ref16_Text : Holds Tryz.prog glob 16 c_ref16_Text := holds_at (con := [(39, c_ref01_Hex)]) (rcon := []) ((con_cons h_ref01_Hex con_nil)) (rcon_nil) (fn := Tryz.f16) rfl (by kernel_rfl) (fun x => by kernel_rfl)
noncomputable def c_law16_DeltaIs : Con := ⟨(.pair (.slice (.pair .str (.pair (.int .i64) (.pair (.int .i64) (.pair .str (.pair .str .unit)))))) (.pair (.slice (.pair .str (.pair (.int .i64) (.pair (.int .i64) (.pair .str (.pair .str .unit)))))) (.pair (.slice (.pair (.int .i64) (.pair .str .unit))) .unit))), (.pair .bool .unit), P_law16_DeltaIs⟩
theorem h_law16_DeltaIs : Holds Tryz.prog glob 3 c_law16_DeltaIs := holds_at (con := [(5, c_ref14_Few), (6, c_law16_awake), (7, c_delta_Changes), (8, c_ref16_Changes), (9, c_delta_Parts), (10, c_ref16_Parts), (11, c_delta_Diff), (12, c_ref16_Diff), (13, c_ref16_Same), (14, c_ref13_Same), (15, c_delta_Text), (16, c_ref16_Text)]) (rcon := []) ((con_cons h_ref14_Few (con_cons h_law16_awake (con_cons h_delta_Changes (con_cons h_ref16_Changes (con_cons h_delta_Parts (con_cons h_ref16_Parts (con_cons h_delta_Diff (con_cons h_ref16_Diff (con_cons h_ref16_Same (con_cons h_ref13_Same (con_cons h_delta_Text (con_cons h_ref16_Text con_nil))))))))))))) (rcon_nil) (fn := Tryz.f3) rfl (by kernel_rfl) (fun x => by kernel_rfl)
noncomputable def c_ref14_Same : Con := ⟨(.pair (.slice (.pair .str (.pair (.int .i64) (.pair (.int .i64) (.pair .str (.pair .str .unit)))))) (.pair (.slice (.pair .str (.pair (.int .i64) (.pair (.int .i64) (.pair .str (.pair .str .unit)))))) .unit)), (.pair .bool .unit), P_ref14_Same⟩
theorem h_ref14_Same : Holds Tryz.prog glob 18 c_ref14_Same := holds_at (con := []) (rcon := []) (con_nil) (rcon_nil) (fn := Tryz.f18) rfl (by kernel_rfl) (fun x => by kernel_rfl)
noncomputable def c_law16_DeltaTurns : Con := ⟨(.pair (.slice (.pair .str (.pair (.int .i64) (.pair (.int .i64) (.pair .str (.pair .str .unit)))))) (.pair (.slice (.pair .str (.pair (.int .i64) (.pair (.int .i64) (.pair .str (.pair .str .unit)))))) .unit)), (.pair .bool .unit), P_law16_DeltaTurns⟩
theorem h_law16_DeltaTurns : Holds Tryz.prog glob 4 c_law16_DeltaTurns := holds_at (con := [(5, c_ref14_Few), (6, c_law16_awake), (7, c_delta_Changes), (17, c_ref14_Is), (18, c_ref14_Same)]) (rcon := []) ((con_cons h_ref14_Few (con_cons h_law16_awake (con_cons h_delta_Changes (con_cons h_ref14_Is (con_cons h_ref14_Same con_nil)))))) (rcon_nil) (fn := Tryz.f4) rfl (by kernel_rfl) (fun x => by kernel_rfl)
end Go.Proofs.YtiggcolkhajijaaGreatDoor
