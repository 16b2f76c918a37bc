/- The layer's functions keep their contracts: each comes to its plain definition, by the ghost interpreter. -/
import Derived.Test.YtkjpgahmolmnmaaDoorRows
import Derived.Test.YtkjpgahmolmnmaaDoorGp13
import Derived.Test.YtkjpgahmolmnmaaDoorBld
import Derived.Test.YtkjpgahmolmnmaaDoorShelf
namespace Go.Proofs.YtkjpgahmolmnmaaDoor
open Go Go.Ge
set_option linter.unusedVariables false
set_option maxRecDepth 100000

noncomputable def plans : Nat → FPlan
  | 3 => ⟨[none], []⟩
  | 4 => ⟨[none, none, none, none], []⟩
  | 5 => ⟨[some ⟨[(2, 4), (4, 3)], [3], false⟩, none, some ⟨[(2, 4), (5, 3)], [3], false⟩, none, none], []⟩
  | 6 => ⟨[some ⟨[(4, 4), (5, 3)], [], false⟩, none, none], []⟩
  | 7 => ⟨[none], []⟩
  | 8 => ⟨[none, some ⟨[(2, 9), (3, 25), (14, 3)], [4], false⟩, none, none, none, none], []⟩
  | 9 => ⟨[none, some ⟨[(2, 9), (3, 25), (5, 3)], [], false⟩, none, none, some ⟨[(2, 9), (3, 25), (4, 3), (8, 3)], [], false⟩, none, none, none, some ⟨[(9, 9), (10, 3)], [], false⟩, none], []⟩
  | 10 => ⟨[some ⟨[(5, 22), (6, 0), (7, 4)], [4, 5, 6], false⟩, none, none], [5, 6]⟩
  | 11 => ⟨[none, some ⟨[(4, 4), (5, 3)], [], false⟩, none, none], []⟩
  | 12 => ⟨[none, none, none, none], []⟩
  | 13 => ⟨[], []⟩
  | 14 => ⟨[], []⟩
  | 15 => ⟨[], []⟩
  | 16 => ⟨[none], []⟩
  | 17 => ⟨[], []⟩
  | 18 => ⟨[], []⟩
  | 19 => ⟨[], []⟩
  | 20 => ⟨[], []⟩
  | 22 => ⟨[none], []⟩
  | 23 => ⟨[some ⟨[(0, 3)], [], false⟩, none], []⟩
  | 24 => ⟨[], []⟩
  | 25 => ⟨[], []⟩
  | 26 => ⟨[], []⟩
  | 27 => ⟨[none, none, none], []⟩
  | 28 => ⟨[none, some ⟨[(4, 9)], [], false⟩, some ⟨[(71, 4)], [], false⟩, some ⟨[], [10], false⟩, some ⟨[], [10], false⟩, some ⟨[], [10], false⟩, none], []⟩
  | 29 => ⟨[none, none, none, none], []⟩
  | 30 => ⟨[], []⟩
  | 31 => ⟨[], []⟩
  | 32 => ⟨[], []⟩
  | 33 => ⟨[none, some ⟨[(0, 3), (19, 3)], [6], false⟩, none, none], []⟩
  | 34 => ⟨[some ⟨[(4, 3), (12, 3)], [], false⟩, none, some ⟨[(6, 5)], [], false⟩], []⟩
  | 37 => ⟨[some ⟨[(5, 4)], [], false⟩], []⟩
  | 38 => ⟨[], []⟩
  | 39 => ⟨[], []⟩
  | 40 => ⟨[some ⟨[(3, 3), (4, 3)], [], false⟩, none, some ⟨[(3, 3)], [], false⟩], []⟩
  | 41 => ⟨[some ⟨[(0, 9)], [], false⟩, none], []⟩
  | 42 => ⟨[some ⟨[(0, 9)], [], false⟩, none], []⟩
  | 43 => ⟨[some ⟨[(3, 4), (4, 3)], [2], false⟩, none, none], []⟩
  | 44 => ⟨[some ⟨[(0, 9)], [1], false⟩, none, none], []⟩
  | 45 => ⟨[some ⟨[(0, 9)], [1], false⟩, none, none], []⟩
  | 48 => ⟨[], []⟩
  | 49 => ⟨[none], []⟩
  | 50 => ⟨[], []⟩
  | 51 => ⟨[], []⟩
  | 52 => ⟨[], []⟩
  | 57 => ⟨[some ⟨[(4, 4), (5, 3)], [], false⟩, none, none], []⟩
  | 58 => ⟨[], []⟩
  | 59 => ⟨[none, some ⟨[(0, 3), (6, 9), (7, 3)], [], false⟩, none, none], []⟩
  | 60 => ⟨[], []⟩
  | 64 => ⟨[none, none, none], []⟩
  | 65 => ⟨[none, some ⟨[(2, 3), (3, 4), (4, 3), (18, 3)], [], false⟩, none, none], []⟩
  | 66 => ⟨[], []⟩
  | _ => ⟨[], []⟩

def objs : List (Nat × List OFld) := [(50, [.self, .buf (.int .u8) 5])]
def els : List (Nat × Nat) := [(32, 5), (38, 35)]
def spc : List (Nat × Spc) := [(21, .str 50 5), (35, .chk 50)]
noncomputable def tys : List (Nat × Ty) := [(3, (.int .i64)), (4, .bool), (5, (.int .u8)), (9, .str), (21, (.int .i32)), (22, (.slice (.pair (.pair .str (.pair (.int .i64) (.pair (.int .i64) (.pair (.int .i64) (.pair (.int .i64) (.pair (.int .i64) (.pair (.int .i64) (.pair .str .unit)))))))) (.pair .str .unit)))), (25, (.int .i64)), (29, (.int .u16)), (32, (.slice (.int .u8))), (37, (.pair .bool (.pair .str (.pair (.int .i64) (.pair .bool (.pair .bool .unit)))))), (40, (.pair .str (.pair (.int .i64) (.pair (.int .i64) (.pair (.int .i64) (.pair (.int .i64) (.pair (.int .i64) (.pair (.int .i64) (.pair .str .unit))))))))), (42, (.pair (.pair .str (.pair (.int .i64) (.pair (.int .i64) (.pair (.int .i64) (.pair (.int .i64) (.pair (.int .i64) (.pair (.int .i64) (.pair .str .unit)))))))) (.pair .str .unit))), (66, (.arr 512 (.int .u8))), (68, (.pair (.int .i64) (.pair (.int .i64) .unit))), (69, (.arr 11 (.pair (.int .i64) (.pair (.int .i64) .unit)))), (80, (.arr 4 .str)), (83, (.arr 256 .bool)), (91, (.arr 21 (.int .u8))), (92, (.int .u64)), (105, (.int .u32)), (108, (.int .u64)), (113, (.arr 256 (.int .u8))), (115, (.pair (.int .u8) (.pair (.int .u8) .unit))), (116, (.arr 16 (.pair (.int .u8) (.pair (.int .u8) .unit))))]
noncomputable def funs : List (Nat × Func) := [(3, Tryd.f3), (4, Tryd.f4), (5, Tryd.f5), (6, Tryd.f6), (7, Tryd.f7), (8, Tryd.f8), (9, Tryd.f9), (10, Tryd.f10), (11, Tryd.f11), (12, Tryd.f12), (13, Tryd.f13), (14, Tryd.f14), (15, Tryd.f15), (16, Tryd.f16), (17, Tryd.f17), (18, Tryd.f18), (19, Tryd.f19), (20, Tryd.f20), (22, Tryd.f22), (23, Tryd.f23), (24, Tryd.f24), (25, Tryd.f25), (26, Tryd.f26), (27, Tryd.f27), (28, Tryd.f28), (29, Tryd.f29), (30, Tryd.f30), (31, Tryd.f31), (32, Tryd.f32), (33, Tryd.f33), (34, Tryd.f34), (37, Tryd.f37), (38, Tryd.f38), (39, Tryd.f39), (40, Tryd.f40), (41, Tryd.f41), (42, Tryd.f42), (43, Tryd.f43), (44, Tryd.f44), (45, Tryd.f45), (48, Tryd.f48), (49, Tryd.f49), (50, Tryd.f50), (51, Tryd.f51), (52, Tryd.f52), (57, Tryd.f57), (58, Tryd.f58), (59, Tryd.f59), (60, Tryd.f60), (64, Tryd.f64), (65, Tryd.f65), (66, Tryd.f66)]
def ones : List Nat := [35, 48, 71, 74, 77, 87]
def ptrs : List Nat := [35, 48, 77, 87]
noncomputable def cxOf (con : List (Nat × Con)) (rcon : List (Nat × RCon)) : Ctx := ⟨tys, ones, ptrs, funs, con, rcon, objs, spc, els⟩

theorem spc_ok : ∀ p ∈ spc, SpcOk Tryd.prog p.1 p.2 := (spc_cons h_strings_Builder_String (spc_cons h_strings_Builder_copyCheck spc_nil))
theorem mix : Tryd.prog.follows .mixedOrders = true := by kernel_rfl

theorem T_ok : ∀ tid t, find tys tid = some t → Den Tryd.prog t tid := tys_ok (by kernel_rfl)
theorem ones_ok : ∀ tid, memN ones tid = true → (∀ w, (isAgg tid).run Tryd.prog w = .ok false w) ∧ (∀ w, (Go.sizeOf tid).run Tryd.prog w = .ok 1 w) ∧ ∃ z, (∀ w, (zeroValue tid).run Tryd.prog w = .ok z w) ∧ z.oneCell' = true := ones_of (by kernel_rfl)
theorem ptrs_ok : ∀ tid, memN ptrs tid = true → ∃ e, Tryd.prog.underlying tid = some (.pointer e) := ptrs_of (by kernel_rfl)
theorem fns_ok : ∀ f fn, find funs f = some fn → Tryd.prog.funcs[f]? = some fn := fns_of ((fns_cons Tryd.func3 (fns_cons Tryd.func4 (fns_cons Tryd.func5 (fns_cons Tryd.func6 (fns_cons Tryd.func7 (fns_cons Tryd.func8 (fns_cons Tryd.func9 (fns_cons Tryd.func10 (fns_cons Tryd.func11 (fns_cons Tryd.func12 (fns_cons Tryd.func13 (fns_cons Tryd.func14 (fns_cons Tryd.func15 (fns_cons Tryd.func16 (fns_cons Tryd.func17 (fns_cons Tryd.func18 (fns_cons Tryd.func19 (fns_cons Tryd.func20 (fns_cons Tryd.func22 (fns_cons Tryd.func23 (fns_cons Tryd.func24 (fns_cons Tryd.func25 (fns_cons Tryd.func26 (fns_cons Tryd.func27 (fns_cons Tryd.func28 (fns_cons Tryd.func29 (fns_cons Tryd.func30 (fns_cons Tryd.func31 (fns_cons Tryd.func32 (fns_cons Tryd.func33 (fns_cons Tryd.func34 (fns_cons Tryd.func37 (fns_cons Tryd.func38 (fns_cons Tryd.func39 (fns_cons Tryd.func40 (fns_cons Tryd.func41 (fns_cons Tryd.func42 (fns_cons Tryd.func43 (fns_cons Tryd.func44 (fns_cons Tryd.func45 (fns_cons Tryd.func48 (fns_cons Tryd.func49 (fns_cons Tryd.func50 (fns_cons Tryd.func51 (fns_cons Tryd.func52 (fns_cons Tryd.func57 (fns_cons Tryd.func58 (fns_cons Tryd.func59 (fns_cons Tryd.func60 (fns_cons Tryd.func64 (fns_cons Tryd.func65 (fns_cons Tryd.func66 fns_nil)))))))))))))))))))))))))))))))))))))))))))))))))))))
theorem objs_ok : ∀ tid fs, find objs tid = some fs → objB Tryd.prog tid fs = true := objs_of (by kernel_rfl)
theorem els_ok : ∀ tid e, find els tid = some e → Tryd.prog.underlying tid = some (.slice e) := els_of (by kernel_rfl)
theorem cx_ok (con : List (Nat × Con)) (rcon : List (Nat × RCon)) : CxOk Tryd.prog (cxOf con rcon) := ⟨T_ok, ones_ok, ptrs_ok, fns_ok, objs_ok, els_ok⟩
theorem funs_ok (con : List (Nat × Con)) (rcon : List (Nat × RCon)) : FnsOk (cxOf con rcon) := fnsOk_of (cx := cxOf con rcon) (show (funs.all fun p => fnOk p.2) = true by kernel_rfl)

def glob : Globs := noGlobs
theorem holds_at {con : List (Nat × Con)} {rcon : List (Nat × RCon)} (hcon : ∀ p ∈ con, Holds Tryd.prog glob p.1 p.2) (hrcon : ∀ p ∈ rcon, RHolds Tryd.prog glob p.1 p.2) {f : Nat} {fn : Func} {A R : Ty} {spec : A.den → Option R.den} (hfn : find funs f = some fn) (hb : fn.body.isSome = true)
    (hs : ∀ x, sem (cxOf con rcon) 12 plans f A R x = spec x) : Holds Tryd.prog glob f ⟨A, R, spec⟩ := by
  obtain ⟨code, hcode⟩ := Option.isSome_iff_exists.1 hb
  exact holds_of_sem mix (cx_ok con rcon) (conOk_of hcon hrcon spc_ok) (funs_ok con rcon) (f := f) hfn hcode (fun x y h => by rw [hs]; exact h)

theorem rholds_at {con : List (Nat × Con)} {rcon : List (Nat × RCon)} (hcon : ∀ p ∈ con, Holds Tryd.prog glob p.1 p.2) (hrcon : ∀ p ∈ rcon, RHolds Tryd.prog glob p.1 p.2) {f : Nat} {fn : Func} {ps : List Bool} {A U R : Ty} {spec : A.den × U.den → Option (R.den × U.den)} (hfn : find funs f = some fn) (hb : fn.body.isSome = true)
    (hs : ∀ x, semR (cxOf con rcon) 12 plans f ps A U R x = spec x) : RHolds Tryd.prog glob f ⟨ps, A, U, R, spec⟩ := by
  obtain ⟨code, hcode⟩ := Option.isSome_iff_exists.1 hb
  exact rholds_of_sem mix (cx_ok con rcon) (conOk_of hcon hrcon spc_ok) (funs_ok con rcon) (f := f) hfn hcode (fun x y h => by rw [hs]; exact h)

noncomputable def c_ref13_Few : Con := ⟨(.pair (.slice (.pair (.pair .str (.pair (.int .i64) (.pair (.int .i64) (.pair (.int .i64) (.pair (.int .i64) (.pair (.int .i64) (.pair (.int .i64) (.pair .str .unit)))))))) (.pair .str .unit))) (.pair (.int .i64) .unit)), (.pair .bool .unit), P_ref13_Few⟩
theorem h_ref13_Few : Holds Tryd.prog glob 6 c_ref13_Few := holds_at (con := []) (rcon := []) (con_nil) (rcon_nil) (fn := Tryd.f6) rfl (by kernel_rfl) (fun x => by kernel_rfl)
noncomputable def c_header_in : Con := ⟨(.pair (.int .i64) (.pair (.int .i64) .unit)), (.pair .bool .unit), P_header_in⟩
theorem h_header_in : Holds Tryd.prog glob 51 c_header_in := holds_at (con := []) (rcon := []) (con_nil) (rcon_nil) (fn := Tryd.f51) rfl (by kernel_rfl) (fun x => by kernel_rfl)
noncomputable def c_internal_stringslite_IndexByte : Con := ⟨(.pair .str (.pair (.int .u8) .unit)), (.pair (.int .i64) .unit), P_internal_stringslite_IndexByte⟩
theorem h_internal_stringslite_IndexByte : Holds Tryd.prog glob 74 c_internal_stringslite_IndexByte := holds_str_u8 (spec := fun s c => Lib.indexByte s (show Int from c).toNat.toUInt8) Tryd.func74 (by kernel_rfl) (by kernel_rfl) (fun s c => indexByte_range _ s) (fun s c w => by
  go_enter Tryd.func74, Tryd.ntmps74
  go_wp2
  rw [run_callFunc_extern Tryd.func79 (by kernel_rfl) (by kernel_rfl) (by kernel_rfl) (e := Extern.BytealgIndexByte.indexByte) (by kernel_rfl), Lib.run_indexByteString]
  simp only [Result.andThen]
  rw [Oper.upon_value]
  go_wp2
  go_ret
  exact ⟨rfl, rfl⟩)
noncomputable def c_strings_IndexByte : Con := ⟨(.pair .str (.pair (.int .u8) .unit)), (.pair (.int .i64) .unit), P_strings_IndexByte⟩
theorem h_strings_IndexByte : Holds Tryd.prog glob 66 c_strings_IndexByte := holds_at (con := [(74, c_internal_stringslite_IndexByte)]) (rcon := []) ((con_cons h_internal_stringslite_IndexByte con_nil)) (rcon_nil) (fn := Tryd.f66) rfl (by kernel_rfl) (fun x => by kernel_rfl)
noncomputable def c_header_clear : Con := ⟨(.pair .str (.pair (.int .i64) .unit)), (.pair .bool .unit), P_header_clear⟩
theorem h_header_clear : Holds Tryd.prog glob 52 c_header_clear := holds_at (con := [(66, c_strings_IndexByte)]) (rcon := []) ((con_cons h_strings_IndexByte con_nil)) (rcon_nil) (fn := Tryd.f52) rfl (by kernel_rfl) (fun x => by kernel_rfl)
noncomputable def c_header_is : Con := ⟨(.pair (.pair .str (.pair (.int .i64) (.pair (.int .i64) (.pair (.int .i64) (.pair (.int .i64) (.pair (.int .i64) (.pair (.int .i64) (.pair .str .unit)))))))) (.pair (.int .i64) .unit)), (.pair .bool .unit), P_header_is⟩
theorem h_header_is : Holds Tryd.prog glob 29 c_header_is := holds_at (con := [(51, c_header_in), (52, c_header_clear)]) (rcon := []) ((con_cons h_header_in (con_cons h_header_clear con_nil))) (rcon_nil) (fn := Tryd.f29) rfl (by kernel_rfl) (fun x => by kernel_rfl)
noncomputable def c_header_fields : Con := ⟨.unit, (.pair (.arr 11 (.pair (.int .i64) (.pair (.int .i64) .unit))) .unit), P_header_fields⟩
theorem h_header_fields : Holds Tryd.prog glob 30 c_header_fields := holds_at (con := []) (rcon := []) (con_nil) (rcon_nil) (fn := Tryd.f30) rfl (by kernel_rfl) (fun x => by kernel_rfl)
noncomputable def c_digits_Octal : Con := ⟨(.pair (.int .i64) (.pair (.int .i64) .unit)), (.pair .str (.pair .bool .unit)), P_digits_Octal⟩
theorem h_digits_Octal : Holds Tryd.prog glob 33 c_digits_Octal := holds_at (con := []) (rcon := []) (con_nil) (rcon_nil) (fn := Tryd.f33) rfl (by kernel_rfl) (fun x => by kernel_rfl)
noncomputable def c_header_Sum : Con := ⟨(.pair .str .unit), (.pair (.int .i64) .unit), P_header_Sum⟩
theorem h_header_Sum : Holds Tryd.prog glob 34 c_header_Sum := holds_at (con := [(30, c_header_fields)]) (rcon := []) ((con_cons h_header_fields con_nil)) (rcon_nil) (fn := Tryd.f34) rfl (by kernel_rfl) (fun x => by kernel_rfl)
noncomputable def c_header_Put : Con := ⟨(.pair (.pair .str (.pair (.int .i64) (.pair (.int .i64) (.pair (.int .i64) (.pair (.int .i64) (.pair (.int .i64) (.pair (.int .i64) (.pair .str .unit)))))))) .unit), (.pair .str (.pair (.int .i64) .unit)), P_header_Put⟩
theorem h_header_Put : Holds Tryd.prog glob 16 c_header_Put := holds_at (con := [(29, c_header_is), (30, c_header_fields), (33, c_digits_Octal), (34, c_header_Sum)]) (rcon := []) ((con_cons h_header_is (con_cons h_header_fields (con_cons h_digits_Octal (con_cons h_header_Sum con_nil))))) (rcon_nil) (fn := Tryd.f16) rfl (by kernel_rfl) (fun x => by kernel_rfl)
noncomputable def c_strings_Repeat : Con := ⟨(.pair .str (.pair (.int .i64) .unit)), (.pair .str .unit), P_strings_Repeat⟩
theorem h_strings_Repeat : Holds Tryd.prog glob 36 c_strings_Repeat := holds_str_i64 (spec := S_strings_Repeat) Tryd.func36 (by kernel_rfl) (by kernel_rfl) (fun _ _ _ h => S_strings_Repeat_len h) (fun s c w y hc hl hy => by
  obtain ⟨h1, h2, rfl⟩ := S_strings_Repeat_some hy
  have hm : (IntKind.i64).max = 9223372036854775807 := by decide
  obtain ⟨n, rfl⟩ := Int.eq_ofNat_of_zero_le h1
  exact Tryd.strings_Repeat s n w (by omega) h2)
noncomputable def c_tar_noughts : Con := ⟨(.pair (.int .i64) .unit), (.pair .str .unit), P_tar_noughts⟩
theorem h_tar_noughts : Holds Tryd.prog glob 18 c_tar_noughts := holds_at (con := [(36, c_strings_Repeat)]) (rcon := []) ((con_cons h_strings_Repeat con_nil)) (rcon_nil) (fn := Tryd.f18) rfl (by kernel_rfl) (fun x => by kernel_rfl)
noncomputable def c_tar_fill : Con := ⟨(.pair (.int .i64) .unit), (.pair (.int .i64) .unit), P_tar_fill⟩
theorem h_tar_fill : Holds Tryd.prog glob 19 c_tar_fill := holds_at (con := []) (rcon := []) (con_nil) (rcon_nil) (fn := Tryd.f19) rfl (by kernel_rfl) (fun x => by kernel_rfl)
noncomputable def c_tar_Write : Con := ⟨(.pair (.slice (.pair (.pair .str (.pair (.int .i64) (.pair (.int .i64) (.pair (.int .i64) (.pair (.int .i64) (.pair (.int .i64) (.pair (.int .i64) (.pair .str .unit)))))))) (.pair .str .unit))) .unit), (.pair .str (.pair (.int .i64) .unit)), P_tar_Write⟩
theorem h_tar_Write : Holds Tryd.prog glob 8 c_tar_Write := holds_at (con := [(16, c_header_Put), (18, c_tar_noughts), (19, c_tar_fill)]) (rcon := []) ((con_cons h_header_Put (con_cons h_tar_noughts (con_cons h_tar_fill con_nil)))) (rcon_nil) (fn := Tryd.f8) rfl (by kernel_rfl) (fun x => by kernel_rfl)
noncomputable def c_tar_Reader_ends : RCon := ⟨[true, false], (.pair .bool .unit), (.pair (.pair .bool (.pair .str (.pair (.int .i64) (.pair .bool (.pair .bool .unit))))) .unit), (.pair (.pair (.pair .str (.pair (.int .i64) (.pair (.int .i64) (.pair (.int .i64) (.pair (.int .i64) (.pair (.int .i64) (.pair (.int .i64) (.pair .str .unit)))))))) (.pair .str .unit)) (.pair .bool .unit)), P_tar_Reader_ends⟩
theorem h_tar_Reader_ends : RHolds Tryd.prog glob 25 c_tar_Reader_ends := rholds_at (con := []) (rcon := []) (con_nil) (rcon_nil) (fn := Tryd.f25) rfl (by kernel_rfl) (fun x => by kernel_rfl)
noncomputable def c_strings_trimLeftByte : Con := ⟨(.pair .str (.pair (.int .u8) .unit)), (.pair .str .unit), P_strings_trimLeftByte⟩
theorem h_strings_trimLeftByte : Holds Tryd.prog glob 41 c_strings_trimLeftByte := holds_at (con := []) (rcon := []) (con_nil) (rcon_nil) (fn := Tryd.f41) rfl (by kernel_rfl) (fun x => by kernel_rfl)
noncomputable def c_strings_trimRightByte : Con := ⟨(.pair .str (.pair (.int .u8) .unit)), (.pair .str .unit), P_strings_trimRightByte⟩
theorem h_strings_trimRightByte : Holds Tryd.prog glob 42 c_strings_trimRightByte := holds_at (con := []) (rcon := []) (con_nil) (rcon_nil) (fn := Tryd.f42) rfl (by kernel_rfl) (fun x => by kernel_rfl)
noncomputable def c_strings_makeASCIISet : Con := ⟨(.pair .str .unit), (.pair (.arr 256 .bool) (.pair .bool .unit)), P_strings_makeASCIISet⟩
theorem h_strings_makeASCIISet : Holds Tryd.prog glob 43 c_strings_makeASCIISet := holds_at (con := []) (rcon := []) (con_nil) (rcon_nil) (fn := Tryd.f43) rfl (by kernel_rfl) (fun x => by kernel_rfl)
noncomputable def c_strings_asciiSet_contains : RCon := ⟨[true, false], (.pair (.int .u8) .unit), (.pair (.arr 256 .bool) .unit), (.pair .bool .unit), P_strings_asciiSet_contains⟩
theorem h_strings_asciiSet_contains : RHolds Tryd.prog glob 60 c_strings_asciiSet_contains := rholds_at (con := []) (rcon := []) (con_nil) (rcon_nil) (fn := Tryd.f60) rfl (by kernel_rfl) (fun x => by kernel_rfl)
noncomputable def c_strings_trimLeftASCII : RCon := ⟨[false, true], (.pair .str .unit), (.pair (.arr 256 .bool) .unit), (.pair .str .unit), P_strings_trimLeftASCII⟩
theorem h_strings_trimLeftASCII : RHolds Tryd.prog glob 44 c_strings_trimLeftASCII := rholds_at (con := []) (rcon := [(60, c_strings_asciiSet_contains)]) (con_nil) ((rcon_cons h_strings_asciiSet_contains rcon_nil)) (fn := Tryd.f44) rfl (by kernel_rfl) (fun x => by kernel_rfl)
noncomputable def c_strings_trimRightASCII : RCon := ⟨[false, true], (.pair .str .unit), (.pair (.arr 256 .bool) .unit), (.pair .str .unit), P_strings_trimRightASCII⟩
theorem h_strings_trimRightASCII : RHolds Tryd.prog glob 45 c_strings_trimRightASCII := rholds_at (con := []) (rcon := [(60, c_strings_asciiSet_contains)]) (con_nil) ((rcon_cons h_strings_asciiSet_contains rcon_nil)) (fn := Tryd.f45) rfl (by kernel_rfl) (fun x => by kernel_rfl)
noncomputable def c_strings_Trim : Con := ⟨(.pair .str (.pair .str .unit)), (.pair .str .unit), P_strings_Trim⟩
theorem h_strings_Trim : Holds Tryd.prog glob 27 c_strings_Trim := holds_at (con := [(41, c_strings_trimLeftByte), (42, c_strings_trimRightByte), (43, c_strings_makeASCIISet)]) (rcon := [(44, c_strings_trimLeftASCII), (45, c_strings_trimRightASCII), (60, c_strings_asciiSet_contains)]) ((con_cons h_strings_trimLeftByte (con_cons h_strings_trimRightByte (con_cons h_strings_makeASCIISet con_nil)))) ((rcon_cons h_strings_trimLeftASCII (rcon_cons h_strings_trimRightASCII (rcon_cons h_strings_asciiSet_contains rcon_nil)))) (fn := Tryd.f27) rfl (by kernel_rfl) (fun x => by kernel_rfl)
noncomputable def c_header_Zero : Con := ⟨(.pair .str .unit), (.pair .bool .unit), P_header_Zero⟩
theorem h_header_Zero : Holds Tryd.prog glob 26 c_header_Zero := holds_at (con := [(27, c_strings_Trim)]) (rcon := []) ((con_cons h_strings_Trim con_nil)) (rcon_nil) (fn := Tryd.f26) rfl (by kernel_rfl) (fun x => by kernel_rfl)
noncomputable def c_header_of : Con := ⟨(.pair .str (.pair (.int .i64) .unit)), (.pair .str .unit), P_header_of⟩
theorem h_header_of : Holds Tryd.prog glob 48 c_header_of := holds_at (con := [(30, c_header_fields)]) (rcon := []) ((con_cons h_header_fields con_nil)) (rcon_nil) (fn := Tryd.f48) rfl (by kernel_rfl) (fun x => by kernel_rfl)
noncomputable def c_strings_TrimRight : Con := ⟨(.pair .str (.pair .str .unit)), (.pair .str .unit), P_strings_TrimRight⟩
theorem h_strings_TrimRight : Holds Tryd.prog glob 64 c_strings_TrimRight := holds_at (con := [(42, c_strings_trimRightByte), (43, c_strings_makeASCIISet)]) (rcon := [(45, c_strings_trimRightASCII), (60, c_strings_asciiSet_contains)]) ((con_cons h_strings_trimRightByte (con_cons h_strings_makeASCIISet con_nil))) ((rcon_cons h_strings_trimRightASCII (rcon_cons h_strings_asciiSet_contains rcon_nil))) (fn := Tryd.f64) rfl (by kernel_rfl) (fun x => by kernel_rfl)
noncomputable def c_digits_FromOctal : Con := ⟨(.pair .str .unit), (.pair (.int .i64) (.pair .bool .unit)), P_digits_FromOctal⟩
theorem h_digits_FromOctal : Holds Tryd.prog glob 65 c_digits_FromOctal := holds_at (con := []) (rcon := []) (con_nil) (rcon_nil) (fn := Tryd.f65) rfl (by kernel_rfl) (fun x => by kernel_rfl)
noncomputable def c_header_number : Con := ⟨(.pair .str .unit), (.pair (.int .i64) .unit), P_header_number⟩
theorem h_header_number : Holds Tryd.prog glob 49 c_header_number := holds_at (con := [(64, c_strings_TrimRight), (65, c_digits_FromOctal)]) (rcon := []) ((con_cons h_strings_TrimRight (con_cons h_digits_FromOctal con_nil))) (rcon_nil) (fn := Tryd.f49) rfl (by kernel_rfl) (fun x => by kernel_rfl)
noncomputable def c_header_text : Con := ⟨(.pair .str .unit), (.pair .str (.pair .bool .unit)), P_header_text⟩
theorem h_header_text : Holds Tryd.prog glob 50 c_header_text := holds_at (con := [(64, c_strings_TrimRight), (66, c_strings_IndexByte)]) (rcon := []) ((con_cons h_strings_TrimRight (con_cons h_strings_IndexByte con_nil))) (rcon_nil) (fn := Tryd.f50) rfl (by kernel_rfl) (fun x => by kernel_rfl)
noncomputable def c_header_Take : Con := ⟨(.pair .str .unit), (.pair (.pair .str (.pair (.int .i64) (.pair (.int .i64) (.pair (.int .i64) (.pair (.int .i64) (.pair (.int .i64) (.pair (.int .i64) (.pair .str .unit)))))))) (.pair (.int .i64) .unit)), P_header_Take⟩
theorem h_header_Take : Holds Tryd.prog glob 28 c_header_Take := holds_at (con := [(29, c_header_is), (34, c_header_Sum), (48, c_header_of), (49, c_header_number), (50, c_header_text)]) (rcon := []) ((con_cons h_header_is (con_cons h_header_Sum (con_cons h_header_of (con_cons h_header_number (con_cons h_header_text con_nil)))))) (rcon_nil) (fn := Tryd.f28) rfl (by kernel_rfl) (fun x => by kernel_rfl)
noncomputable def c_tar_Reader_Next : RCon := ⟨[true], .unit, (.pair (.pair .bool (.pair .str (.pair (.int .i64) (.pair .bool (.pair .bool .unit))))) .unit), (.pair (.pair (.pair .str (.pair (.int .i64) (.pair (.int .i64) (.pair (.int .i64) (.pair (.int .i64) (.pair (.int .i64) (.pair (.int .i64) (.pair .str .unit)))))))) (.pair .str .unit)) (.pair .bool .unit)), P_tar_Reader_Next⟩
theorem h_tar_Reader_Next : RHolds Tryd.prog glob 12 c_tar_Reader_Next := rholds_at (con := [(19, c_tar_fill), (26, c_header_Zero), (27, c_strings_Trim), (28, c_header_Take)]) (rcon := [(25, c_tar_Reader_ends)]) ((con_cons h_tar_fill (con_cons h_header_Zero (con_cons h_strings_Trim (con_cons h_header_Take con_nil))))) ((rcon_cons h_tar_Reader_ends rcon_nil)) (fn := Tryd.f12) rfl (by kernel_rfl) (fun x => by kernel_rfl)
noncomputable def c_tar_Reader_Bad : RCon := ⟨[true], .unit, (.pair (.pair .bool (.pair .str (.pair (.int .i64) (.pair .bool (.pair .bool .unit))))) .unit), (.pair .bool .unit), P_tar_Reader_Bad⟩
theorem h_tar_Reader_Bad : RHolds Tryd.prog glob 13 c_tar_Reader_Bad := rholds_at (con := []) (rcon := []) (con_nil) (rcon_nil) (fn := Tryd.f13) rfl (by kernel_rfl) (fun x => by kernel_rfl)
noncomputable def c_tar_Read : Con := ⟨(.pair .str .unit), (.pair (.slice (.pair (.pair .str (.pair (.int .i64) (.pair (.int .i64) (.pair (.int .i64) (.pair (.int .i64) (.pair (.int .i64) (.pair (.int .i64) (.pair .str .unit)))))))) (.pair .str .unit))) (.pair (.int .i64) .unit)), P_tar_Read⟩
theorem h_tar_Read : Holds Tryd.prog glob 10 c_tar_Read := holds_at (con := [(19, c_tar_fill), (26, c_header_Zero), (27, c_strings_Trim), (28, c_header_Take)]) (rcon := [(12, c_tar_Reader_Next), (13, c_tar_Reader_Bad), (25, c_tar_Reader_ends)]) ((con_cons h_tar_fill (con_cons h_header_Zero (con_cons h_strings_Trim (con_cons h_header_Take con_nil))))) ((rcon_cons h_tar_Reader_Next (rcon_cons h_tar_Reader_Bad (rcon_cons h_tar_Reader_ends rcon_nil)))) (fn := Tryd.f10) rfl (by kernel_rfl) (fun x => by kernel_rfl)
noncomputable def c_ref13_Same : Con := ⟨(.pair (.slice (.pair (.pair .str (.pair (.int .i64) (.pair (.int .i64) (.pair (.int .i64) (.pair (.int .i64) (.pair (.int .i64) (.pair (.int .i64) (.pair .str .unit)))))))) (.pair .str .unit))) (.pair (.slice (.pair (.pair .str (.pair (.int .i64) (.pair (.int .i64) (.pair (.int .i64) (.pair (.int .i64) (.pair (.int .i64) (.pair (.int .i64) (.pair .str .unit)))))))) (.pair .str .unit))) .unit)), (.pair .bool .unit), P_ref13_Same⟩
theorem h_ref13_Same : Holds Tryd.prog glob 11 c_ref13_Same := holds_at (con := []) (rcon := []) (con_nil) (rcon_nil) (fn := Tryd.f11) rfl (by kernel_rfl) (fun x => by kernel_rfl)
noncomputable def c_law13_one : Con := ⟨(.pair .str (.pair .str .unit)), (.pair (.pair (.pair .str (.pair (.int .i64) (.pair (.int .i64) (.pair (.int .i64) (.pair (.int .i64) (.pair (.int .i64) (.pair (.int .i64) (.pair .str .unit)))))))) (.pair .str .unit)) .unit), P_law13_one⟩
theorem h_law13_one : Holds Tryd.prog glob 14 c_law13_one := holds_at (con := []) (rcon := []) (con_nil) (rcon_nil) (fn := Tryd.f14) rfl (by kernel_rfl) (fun x => by kernel_rfl)
noncomputable def c_law13_awake : Con := ⟨.unit, (.pair .bool .unit), P_law13_awake⟩
theorem h_law13_awake : Holds Tryd.prog glob 7 c_law13_awake := holds_at (con := [(8, c_tar_Write), (10, c_tar_Read), (11, c_ref13_Same), (14, c_law13_one), (19, c_tar_fill), (26, c_header_Zero), (27, c_strings_Trim), (28, c_header_Take)]) (rcon := [(12, c_tar_Reader_Next), (13, c_tar_Reader_Bad), (25, c_tar_Reader_ends)]) ((con_cons h_tar_Write (con_cons h_tar_Read (con_cons h_ref13_Same (con_cons h_law13_one (con_cons h_tar_fill (con_cons h_header_Zero (con_cons h_strings_Trim (con_cons h_header_Take con_nil))))))))) ((rcon_cons h_tar_Reader_Next (rcon_cons h_tar_Reader_Bad (rcon_cons h_tar_Reader_ends rcon_nil)))) (fn := Tryd.f7) rfl (by kernel_rfl) (fun x => by kernel_rfl)
noncomputable def c_ref12_clear : Con := ⟨(.pair .str (.pair (.int .i64) .unit)), (.pair .bool .unit), P_ref12_clear⟩
theorem h_ref12_clear : Holds Tryd.prog glob 57 c_ref12_clear := holds_at (con := []) (rcon := []) (con_nil) (rcon_nil) (fn := Tryd.f57) rfl (by kernel_rfl) (fun x => by kernel_rfl)
noncomputable def c_ref12_in : Con := ⟨(.pair (.int .i64) (.pair (.int .i64) .unit)), (.pair .bool .unit), P_ref12_in⟩
theorem h_ref12_in : Holds Tryd.prog glob 58 c_ref12_in := holds_at (con := []) (rcon := []) (con_nil) (rcon_nil) (fn := Tryd.f58) rfl (by kernel_rfl) (fun x => by kernel_rfl)
noncomputable def c_ref12_may : Con := ⟨(.pair (.pair .str (.pair (.int .i64) (.pair (.int .i64) (.pair (.int .i64) (.pair (.int .i64) (.pair (.int .i64) (.pair (.int .i64) (.pair .str .unit)))))))) (.pair (.int .i64) .unit)), (.pair .bool .unit), P_ref12_may⟩
theorem h_ref12_may : Holds Tryd.prog glob 37 c_ref12_may := holds_at (con := [(57, c_ref12_clear), (58, c_ref12_in)]) (rcon := []) ((con_cons h_ref12_clear (con_cons h_ref12_in con_nil))) (rcon_nil) (fn := Tryd.f37) rfl (by kernel_rfl) (fun x => by kernel_rfl)
noncomputable def c_ref12_put : Con := ⟨(.pair .str (.pair (.int .i64) (.pair .str .unit))), (.pair .str .unit), P_ref12_put⟩
theorem h_ref12_put : Holds Tryd.prog glob 38 c_ref12_put := holds_at (con := []) (rcon := []) (con_nil) (rcon_nil) (fn := Tryd.f38) rfl (by kernel_rfl) (fun x => by kernel_rfl)
noncomputable def c_ref01_Octal : Con := ⟨(.pair (.int .i64) (.pair (.int .i64) .unit)), (.pair .str (.pair .bool .unit)), P_ref01_Octal⟩
theorem h_ref01_Octal : Holds Tryd.prog glob 59 c_ref01_Octal := holds_at (con := []) (rcon := []) (con_nil) (rcon_nil) (fn := Tryd.f59) rfl (by kernel_rfl) (fun x => by kernel_rfl)
noncomputable def c_ref12_octal : Con := ⟨(.pair (.int .i64) (.pair (.int .i64) .unit)), (.pair .str .unit), P_ref12_octal⟩
theorem h_ref12_octal : Holds Tryd.prog glob 39 c_ref12_octal := holds_at (con := [(59, c_ref01_Octal)]) (rcon := []) ((con_cons h_ref01_Octal con_nil)) (rcon_nil) (fn := Tryd.f39) rfl (by kernel_rfl) (fun x => by kernel_rfl)
noncomputable def c_ref12_Sum : Con := ⟨(.pair .str .unit), (.pair (.int .i64) .unit), P_ref12_Sum⟩
theorem h_ref12_Sum : Holds Tryd.prog glob 40 c_ref12_Sum := holds_at (con := []) (rcon := []) (con_nil) (rcon_nil) (fn := Tryd.f40) rfl (by kernel_rfl) (fun x => by kernel_rfl)
noncomputable def c_ref12_Put : Con := ⟨(.pair (.pair .str (.pair (.int .i64) (.pair (.int .i64) (.pair (.int .i64) (.pair (.int .i64) (.pair (.int .i64) (.pair (.int .i64) (.pair .str .unit)))))))) .unit), (.pair .str (.pair (.int .i64) .unit)), P_ref12_Put⟩
theorem h_ref12_Put : Holds Tryd.prog glob 22 c_ref12_Put := holds_at (con := [(37, c_ref12_may), (38, c_ref12_put), (39, c_ref12_octal), (40, c_ref12_Sum)]) (rcon := []) ((con_cons h_ref12_may (con_cons h_ref12_put (con_cons h_ref12_octal (con_cons h_ref12_Sum con_nil))))) (rcon_nil) (fn := Tryd.f22) rfl (by kernel_rfl) (fun x => by kernel_rfl)
noncomputable def c_ref13_whole : Con := ⟨(.pair (.int .i64) .unit), (.pair (.int .i64) .unit), P_ref13_whole⟩
theorem h_ref13_whole : Holds Tryd.prog glob 23 c_ref13_whole := holds_at (con := []) (rcon := []) (con_nil) (rcon_nil) (fn := Tryd.f23) rfl (by kernel_rfl) (fun x => by kernel_rfl)
noncomputable def c_ref13_noughts : Con := ⟨(.pair (.int .i64) .unit), (.pair .str .unit), P_ref13_noughts⟩
theorem h_ref13_noughts : Holds Tryd.prog glob 24 c_ref13_noughts := holds_at (con := []) (rcon := []) (con_nil) (rcon_nil) (fn := Tryd.f24) rfl (by kernel_rfl) (fun x => by kernel_rfl)
noncomputable def c_ref13_Write : Con := ⟨(.pair (.slice (.pair (.pair .str (.pair (.int .i64) (.pair (.int .i64) (.pair (.int .i64) (.pair (.int .i64) (.pair (.int .i64) (.pair (.int .i64) (.pair .str .unit)))))))) (.pair .str .unit))) .unit), (.pair .str (.pair (.int .i64) .unit)), P_ref13_Write⟩
theorem h_ref13_Write : Holds Tryd.prog glob 9 c_ref13_Write := holds_at (con := [(22, c_ref12_Put), (23, c_ref13_whole), (24, c_ref13_noughts)]) (rcon := []) ((con_cons h_ref12_Put (con_cons h_ref13_whole (con_cons h_ref13_noughts con_nil)))) (rcon_nil) (fn := Tryd.f9) rfl (by kernel_rfl) (fun x => by kernel_rfl)
noncomputable def c_law13_TarWrites : Con := ⟨(.pair (.slice (.pair (.pair .str (.pair (.int .i64) (.pair (.int .i64) (.pair (.int .i64) (.pair (.int .i64) (.pair (.int .i64) (.pair (.int .i64) (.pair .str .unit)))))))) (.pair .str .unit))) .unit), (.pair .bool .unit), P_law13_TarWrites⟩
theorem h_law13_TarWrites : Holds Tryd.prog glob 3 c_law13_TarWrites := holds_at (con := [(6, c_ref13_Few), (7, c_law13_awake), (8, c_tar_Write), (9, c_ref13_Write)]) (rcon := []) ((con_cons h_ref13_Few (con_cons h_law13_awake (con_cons h_tar_Write (con_cons h_ref13_Write con_nil))))) (rcon_nil) (fn := Tryd.f3) rfl (by kernel_rfl) (fun x => by kernel_rfl)
noncomputable def c_law13_TarBack : Con := ⟨(.pair (.slice (.pair (.pair .str (.pair (.int .i64) (.pair (.int .i64) (.pair (.int .i64) (.pair (.int .i64) (.pair (.int .i64) (.pair (.int .i64) (.pair .str .unit)))))))) (.pair .str .unit))) (.pair (.int .u8) (.pair (.int .u16) .unit))), (.pair .bool .unit), P_law13_TarBack⟩
theorem h_law13_TarBack : Holds Tryd.prog glob 4 c_law13_TarBack := holds_at (con := [(6, c_ref13_Few), (7, c_law13_awake), (8, c_tar_Write), (10, c_tar_Read), (11, c_ref13_Same)]) (rcon := []) ((con_cons h_ref13_Few (con_cons h_law13_awake (con_cons h_tar_Write (con_cons h_tar_Read (con_cons h_ref13_Same con_nil)))))) (rcon_nil) (fn := Tryd.f4) rfl (by kernel_rfl) (fun x => by kernel_rfl)
noncomputable def c_law13_TarNobody : Con := ⟨(.pair (.int .u8) .unit), (.pair .bool .unit), P_law13_TarNobody⟩
theorem h_law13_TarNobody : Holds Tryd.prog glob 5 c_law13_TarNobody := holds_at (con := [(7, c_law13_awake), (19, c_tar_fill), (26, c_header_Zero), (27, c_strings_Trim), (28, c_header_Take)]) (rcon := [(12, c_tar_Reader_Next), (13, c_tar_Reader_Bad), (25, c_tar_Reader_ends)]) ((con_cons h_law13_awake (con_cons h_tar_fill (con_cons h_header_Zero (con_cons h_strings_Trim (con_cons h_header_Take con_nil)))))) ((rcon_cons h_tar_Reader_Next (rcon_cons h_tar_Reader_Bad (rcon_cons h_tar_Reader_ends rcon_nil)))) (fn := Tryd.f5) rfl (by kernel_rfl) (fun x => by kernel_rfl)
end Go.Proofs.YtkjpgahmolmnmaaDoor
