/- The layer's functions keep their contracts: each comes to its plain definition, by the ghost interpreter. -/
import Derived.Test.YtfbjmdbkjaldkaaDoorRows
import Derived.Test.YtfbjmdbkjaldkaaDoorGp07
import Derived.Test.YtfbjmdbkjaldkaaDoorShelf
namespace Go.Proofs.YtfbjmdbkjaldkaaDoor
open Go Go.Ge
set_option linter.unusedVariables false
set_option maxRecDepth 100000

noncomputable def plans : Nat → FPlan
  | 3 => ⟨[none], []⟩
  | 4 => ⟨[none], []⟩
  | 5 => ⟨[none, none, some ⟨[(18, 9), (19, 3)], [], false⟩, none, none, none, none], []⟩
  | 6 => ⟨[], []⟩
  | 7 => ⟨[some ⟨[(2, 9), (3, 23), (4, 32), (11, 3)], [4], false⟩, none, some ⟨[(2, 9), (3, 23), (4, 32)], [4], false⟩, none, none], [4]⟩
  | 8 => ⟨[some ⟨[(5, 32), (6, 3)], [5], false⟩, none, some ⟨[(5, 32)], [5], false⟩, none], [5]⟩
  | 9 => ⟨[none, none, none], []⟩
  | 10 => ⟨[none, none, none], []⟩
  | 11 => ⟨[none], []⟩
  | 12 => ⟨[none], []⟩
  | 13 => ⟨[none, some ⟨[(4, 4), (5, 3)], [], false⟩, none, none], []⟩
  | 14 => ⟨[none], []⟩
  | 15 => ⟨[none, some ⟨[(3, 32), (4, 9), (5, 3)], [3], false⟩, none, some ⟨[(3, 32), (4, 9)], [3], false⟩], [3]⟩
  | 16 => ⟨[none], []⟩
  | 17 => ⟨[none, none], []⟩
  | 18 => ⟨[], []⟩
  | 19 => ⟨[none, some ⟨[(4, 4), (7, 3)], [], false⟩, none, none], []⟩
  | 20 => ⟨[], []⟩
  | 21 => ⟨[some ⟨[(4, 3), (7, 3)], [], false⟩, none, none, none, none, none], []⟩
  | 22 => ⟨[some ⟨[(2, 4), (6, 3)], [], false⟩, none, none], []⟩
  | 24 => ⟨[], []⟩
  | 25 => ⟨[some ⟨[(3, 9), (4, 3)], [], false⟩, none, some ⟨[(3, 9)], [], false⟩], []⟩
  | 26 => ⟨[some ⟨[(2, 4), (4, 3)], [], false⟩, none, none], []⟩
  | 27 => ⟨[], []⟩
  | 28 => ⟨[], []⟩
  | 29 => ⟨[], []⟩
  | 30 => ⟨[none, none, none, none, none], []⟩
  | 32 => ⟨[none, some ⟨[(4, 4), (13, 3)], [], false⟩, none, none], []⟩
  | 33 => ⟨[some ⟨[(6, 3), (13, 3)], [0, 1, 11], false⟩, none, none, none, none], []⟩
  | 34 => ⟨[none, none, none, none, none], []⟩
  | 35 => ⟨[], []⟩
  | 39 => ⟨[], []⟩
  | 40 => ⟨[some ⟨[(2, 4), (3, 3)], [], false⟩, none, none], []⟩
  | 41 => ⟨[none], []⟩
  | 42 => ⟨[some ⟨[(4, 3), (8, 3)], [], false⟩, none, none], []⟩
  | 43 => ⟨[some ⟨[(4, 3), (5, 3)], [], false⟩, none, none], []⟩
  | 44 => ⟨[some ⟨[(9, 60), (10, 3)], [], false⟩, none, none, some ⟨[(4, 3), (9, 60), (11, 3)], [], false⟩, none, none], []⟩
  | 46 => ⟨[], []⟩
  | 50 => ⟨[some ⟨[(4, 60), (5, 3)], [], false⟩, none, some ⟨[(6, 60), (7, 60), (8, 3)], [], false⟩, none, some ⟨[(6, 60)], [], false⟩], []⟩
  | _ => ⟨[], []⟩

def objs : List (Nat × List OFld) := [(50, [.self, .buf (.int .u8) 5])]
def els : List (Nat × Nat) := [(48, 5)]
def spc : List (Nat × Spc) := []
noncomputable def tys : List (Nat × Ty) := [(3, (.int .i64)), (4, .bool), (5, (.int .u8)), (9, .str), (21, (.int .i32)), (23, (.int .i64)), (32, (.slice .str)), (45, (.arr 2 .str)), (48, (.slice (.int .u8))), (60, (.int .u32)), (72, (.arr 256 (.int .u8))), (74, (.pair (.int .u8) (.pair (.int .u8) .unit))), (75, (.arr 16 (.pair (.int .u8) (.pair (.int .u8) .unit))))]
noncomputable def funs : List (Nat × Func) := [(3, Tryd.f3), (4, Tryd.f4), (5, Tryd.f5), (6, Tryd.f6), (7, Tryd.f7), (8, Tryd.f8), (9, Tryd.f9), (10, Tryd.f10), (11, Tryd.f11), (12, Tryd.f12), (13, Tryd.f13), (14, Tryd.f14), (15, Tryd.f15), (16, Tryd.f16), (17, Tryd.f17), (18, Tryd.f18), (19, Tryd.f19), (20, Tryd.f20), (21, Tryd.f21), (22, Tryd.f22), (24, Tryd.f24), (25, Tryd.f25), (26, Tryd.f26), (27, Tryd.f27), (28, Tryd.f28), (29, Tryd.f29), (30, Tryd.f30), (32, Tryd.f32), (33, Tryd.f33), (34, Tryd.f34), (35, Tryd.f35), (39, Tryd.f39), (40, Tryd.f40), (41, Tryd.f41), (42, Tryd.f42), (43, Tryd.f43), (44, Tryd.f44), (46, Tryd.f46), (50, Tryd.f50)]
def ones : List Nat := [35, 47, 59]
def ptrs : List Nat := [47, 59]
noncomputable def cxOf (con : List (Nat × Con)) (rcon : List (Nat × RCon)) : Ctx := ⟨tys, ones, ptrs, funs, con, rcon, objs, spc, els⟩

theorem spc_ok : ∀ p ∈ spc, SpcOk Tryd.prog p.1 p.2 :=  spc_nil
theorem mix : Tryd.prog.follows .mixedOrders = true := by kernel_rfl

theorem T_ok : ∀ tid t, find tys tid = some t → Den Tryd.prog t tid := tys_ok (by kernel_rfl)
theorem ones_ok : ∀ tid, memN ones tid = true → (∀ w, (isAgg tid).run Tryd.prog w = .ok false w) ∧ (∀ w, (Go.sizeOf tid).run Tryd.prog w = .ok 1 w) ∧ ∃ z, (∀ w, (zeroValue tid).run Tryd.prog w = .ok z w) ∧ z.oneCell' = true := ones_of (by kernel_rfl)
theorem ptrs_ok : ∀ tid, memN ptrs tid = true → ∃ e, Tryd.prog.underlying tid = some (.pointer e) := ptrs_of (by kernel_rfl)
theorem fns_ok : ∀ f fn, find funs f = some fn → Tryd.prog.funcs[f]? = some fn := fns_of ((fns_cons Tryd.func3 (fns_cons Tryd.func4 (fns_cons Tryd.func5 (fns_cons Tryd.func6 (fns_cons Tryd.func7 (fns_cons Tryd.func8 (fns_cons Tryd.func9 (fns_cons Tryd.func10 (fns_cons Tryd.func11 (fns_cons Tryd.func12 (fns_cons Tryd.func13 (fns_cons Tryd.func14 (fns_cons Tryd.func15 (fns_cons Tryd.func16 (fns_cons Tryd.func17 (fns_cons Tryd.func18 (fns_cons Tryd.func19 (fns_cons Tryd.func20 (fns_cons Tryd.func21 (fns_cons Tryd.func22 (fns_cons Tryd.func24 (fns_cons Tryd.func25 (fns_cons Tryd.func26 (fns_cons Tryd.func27 (fns_cons Tryd.func28 (fns_cons Tryd.func29 (fns_cons Tryd.func30 (fns_cons Tryd.func32 (fns_cons Tryd.func33 (fns_cons Tryd.func34 (fns_cons Tryd.func35 (fns_cons Tryd.func39 (fns_cons Tryd.func40 (fns_cons Tryd.func41 (fns_cons Tryd.func42 (fns_cons Tryd.func43 (fns_cons Tryd.func44 (fns_cons Tryd.func46 (fns_cons Tryd.func50 fns_nil))))))))))))))))))))))))))))))))))))))))
theorem objs_ok : ∀ tid fs, find objs tid = some fs → objB Tryd.prog tid fs = true := objs_of (by kernel_rfl)
theorem els_ok : ∀ tid e, find els tid = some e → Tryd.prog.underlying tid = some (.slice e) := els_of (by kernel_rfl)
theorem cx_ok (con : List (Nat × Con)) (rcon : List (Nat × RCon)) : CxOk Tryd.prog (cxOf con rcon) := ⟨T_ok, ones_ok, ptrs_ok, fns_ok, objs_ok, els_ok⟩
theorem funs_ok (con : List (Nat × Con)) (rcon : List (Nat × RCon)) : FnsOk (cxOf con rcon) := fnsOk_of (cx := cxOf con rcon) (show (funs.all fun p => fnOk p.2) = true by kernel_rfl)

def glob : Globs := noGlobs
theorem holds_at {con : List (Nat × Con)} {rcon : List (Nat × RCon)} (hcon : ∀ p ∈ con, Holds Tryd.prog glob p.1 p.2) (hrcon : ∀ p ∈ rcon, RHolds Tryd.prog glob p.1 p.2) {f : Nat} {fn : Func} {A R : Ty} {spec : A.den → Option R.den} (hfn : find funs f = some fn) (hb : fn.body.isSome = true)
    (hs : ∀ x, sem (cxOf con rcon) 12 plans f A R x = spec x) : Holds Tryd.prog glob f ⟨A, R, spec⟩ := by
  obtain ⟨code, hcode⟩ := Option.isSome_iff_exists.1 hb
  exact holds_of_sem mix (cx_ok con rcon) (conOk_of hcon hrcon spc_ok) (funs_ok con rcon) (f := f) hfn hcode (fun x y h => by rw [hs]; exact h)

theorem rholds_at {con : List (Nat × Con)} {rcon : List (Nat × RCon)} (hcon : ∀ p ∈ con, Holds Tryd.prog glob p.1 p.2) (hrcon : ∀ p ∈ rcon, RHolds Tryd.prog glob p.1 p.2) {f : Nat} {fn : Func} {ps : List Bool} {A U R : Ty} {spec : A.den × U.den → Option (R.den × U.den)} (hfn : find funs f = some fn) (hb : fn.body.isSome = true)
    (hs : ∀ x, semR (cxOf con rcon) 12 plans f ps A U R x = spec x) : RHolds Tryd.prog glob f ⟨ps, A, U, R, spec⟩ := by
  obtain ⟨code, hcode⟩ := Option.isSome_iff_exists.1 hb
  exact rholds_of_sem mix (cx_ok con rcon) (conOk_of hcon hrcon spc_ok) (funs_ok con rcon) (f := f) hfn hcode (fun x y h => by rw [hs]; exact h)

noncomputable def c_strings_Split : Con := ⟨(.pair .str (.pair .str .unit)), (.pair (.slice .str) .unit), P_strings_Split⟩
theorem h_strings_Split : Holds Tryd.prog glob 31 c_strings_Split := holds_split Tryd.func31 (by kernel_rfl) (by kernel_rfl) (fun s b w hs => Any.strings_Split_byte Tryd.lays146 (by kernel_rfl) s b w hs)
noncomputable def c_paths_Parts : Con := ⟨(.pair .str .unit), (.pair (.slice .str) .unit), P_paths_Parts⟩
theorem h_paths_Parts : Holds Tryd.prog glob 14 c_paths_Parts := holds_at (con := [(31, c_strings_Split)]) (rcon := []) ((con_cons h_strings_Split con_nil)) (rcon_nil) (fn := Tryd.f14) rfl (by kernel_rfl) (fun x => by kernel_rfl)
noncomputable def c_internal_stringslite_IndexByte : Con := ⟨(.pair .str (.pair (.int .u8) .unit)), (.pair (.int .i64) .unit), P_internal_stringslite_IndexByte⟩
theorem h_internal_stringslite_IndexByte : Holds Tryd.prog glob 47 c_internal_stringslite_IndexByte := holds_str_u8 (spec := fun s c => Lib.indexByte s (show Int from c).toNat.toUInt8) Tryd.func47 (by kernel_rfl) (by kernel_rfl) (fun s c => indexByte_range _ s) (fun s c w => by
  go_enter Tryd.func47, Tryd.ntmps47
  go_wp2
  rw [run_callFunc_extern Tryd.func54 (by kernel_rfl) (by kernel_rfl) (by kernel_rfl) (e := Extern.BytealgIndexByte.indexByte) (by kernel_rfl), Lib.run_indexByteString]
  simp only [Result.andThen]
  rw [Oper.upon_value]
  go_wp2
  go_ret
  exact ⟨rfl, rfl⟩)
noncomputable def c_strings_IndexByte : Con := ⟨(.pair .str (.pair (.int .u8) .unit)), (.pair (.int .i64) .unit), P_strings_IndexByte⟩
theorem h_strings_IndexByte : Holds Tryd.prog glob 35 c_strings_IndexByte := holds_at (con := [(47, c_internal_stringslite_IndexByte)]) (rcon := []) ((con_cons h_internal_stringslite_IndexByte con_nil)) (rcon_nil) (fn := Tryd.f35) rfl (by kernel_rfl) (fun x => by kernel_rfl)
noncomputable def c_paths_isName : Con := ⟨(.pair .str .unit), (.pair .bool .unit), P_paths_isName⟩
theorem h_paths_isName : Holds Tryd.prog glob 22 c_paths_isName := holds_at (con := [(35, c_strings_IndexByte)]) (rcon := []) ((con_cons h_strings_IndexByte con_nil)) (rcon_nil) (fn := Tryd.f22) rfl (by kernel_rfl) (fun x => by kernel_rfl)
noncomputable def c_strings_Join : Con := ⟨(.pair (.slice .str) (.pair .str .unit)), (.pair .str .unit), P_strings_Join⟩
theorem h_strings_Join : Holds Tryd.prog glob 23 c_strings_Join := holds_join Tryd.func23 (by kernel_rfl) (by kernel_rfl) Tryd.strings_Join_none Tryd.strings_Join
noncomputable def c_internal_stringslite_HasPrefix : Con := ⟨(.pair .str (.pair .str .unit)), (.pair .bool .unit), P_internal_stringslite_HasPrefix⟩
theorem h_internal_stringslite_HasPrefix : Holds Tryd.prog glob 39 c_internal_stringslite_HasPrefix := holds_at (con := []) (rcon := []) (con_nil) (rcon_nil) (fn := Tryd.f39) rfl (by kernel_rfl) (fun x => by kernel_rfl)
noncomputable def c_strings_HasPrefix : Con := ⟨(.pair .str (.pair .str .unit)), (.pair .bool .unit), P_strings_HasPrefix⟩
theorem h_strings_HasPrefix : Holds Tryd.prog glob 24 c_strings_HasPrefix := holds_at (con := [(39, c_internal_stringslite_HasPrefix)]) (rcon := []) ((con_cons h_internal_stringslite_HasPrefix con_nil)) (rcon_nil) (fn := Tryd.f24) rfl (by kernel_rfl) (fun x => by kernel_rfl)
noncomputable def c_paths_Clean : Con := ⟨(.pair .str .unit), (.pair .str (.pair (.int .i64) .unit)), P_paths_Clean⟩
theorem h_paths_Clean : Holds Tryd.prog glob 7 c_paths_Clean := holds_at (con := [(14, c_paths_Parts), (22, c_paths_isName), (23, c_strings_Join), (24, c_strings_HasPrefix)]) (rcon := []) ((con_cons h_paths_Parts (con_cons h_paths_isName (con_cons h_strings_Join (con_cons h_strings_HasPrefix con_nil))))) (rcon_nil) (fn := Tryd.f7) rfl (by kernel_rfl) (fun x => by kernel_rfl)
noncomputable def c_internal_stringslite_CutPrefix : Con := ⟨(.pair .str (.pair .str .unit)), (.pair .str (.pair .bool .unit)), P_internal_stringslite_CutPrefix⟩
theorem h_internal_stringslite_CutPrefix : Holds Tryd.prog glob 41 c_internal_stringslite_CutPrefix := holds_at (con := [(39, c_internal_stringslite_HasPrefix)]) (rcon := []) ((con_cons h_internal_stringslite_HasPrefix con_nil)) (rcon_nil) (fn := Tryd.f41) rfl (by kernel_rfl) (fun x => by kernel_rfl)
noncomputable def c_strings_CutPrefix : Con := ⟨(.pair .str (.pair .str .unit)), (.pair .str (.pair .bool .unit)), P_strings_CutPrefix⟩
theorem h_strings_CutPrefix : Holds Tryd.prog glob 27 c_strings_CutPrefix := holds_at (con := [(41, c_internal_stringslite_CutPrefix)]) (rcon := []) ((con_cons h_internal_stringslite_CutPrefix con_nil)) (rcon_nil) (fn := Tryd.f27) rfl (by kernel_rfl) (fun x => by kernel_rfl)
noncomputable def c_slices_Index_string_string : Con := ⟨(.pair (.slice .str) (.pair .str .unit)), (.pair (.int .i64) .unit), P_slices_Index_string_string⟩
theorem h_slices_Index_string_string : Holds Tryd.prog glob 42 c_slices_Index_string_string := holds_at (con := []) (rcon := []) (con_nil) (rcon_nil) (fn := Tryd.f42) rfl (by kernel_rfl) (fun x => by kernel_rfl)
noncomputable def c_slices_Contains_string_string : Con := ⟨(.pair (.slice .str) (.pair .str .unit)), (.pair .bool .unit), P_slices_Contains_string_string⟩
theorem h_slices_Contains_string_string : Holds Tryd.prog glob 28 c_slices_Contains_string_string := holds_at (con := [(42, c_slices_Index_string_string)]) (rcon := []) ((con_cons h_slices_Index_string_string con_nil)) (rcon_nil) (fn := Tryd.f28) rfl (by kernel_rfl) (fun x => by kernel_rfl)
noncomputable def c_paths_Mark : Con := ⟨(.pair .str .unit), (.pair (.int .i64) (.pair .str .unit)), P_paths_Mark⟩
theorem h_paths_Mark : Holds Tryd.prog glob 9 c_paths_Mark := holds_at (con := [(24, c_strings_HasPrefix), (27, c_strings_CutPrefix), (28, c_slices_Contains_string_string)]) (rcon := []) ((con_cons h_strings_HasPrefix (con_cons h_strings_CutPrefix (con_cons h_slices_Contains_string_string con_nil)))) (rcon_nil) (fn := Tryd.f9) rfl (by kernel_rfl) (fun x => by kernel_rfl)
noncomputable def c_internal_bytealg_LastIndexByteString : Con := ⟨(.pair .str (.pair (.int .u8) .unit)), (.pair (.int .i64) .unit), P_internal_bytealg_LastIndexByteString⟩
theorem h_internal_bytealg_LastIndexByteString : Holds Tryd.prog glob 43 c_internal_bytealg_LastIndexByteString := holds_at (con := []) (rcon := []) (con_nil) (rcon_nil) (fn := Tryd.f43) rfl (by kernel_rfl) (fun x => by kernel_rfl)
noncomputable def c_internal_bytealg_hashStrRev_string : Con := ⟨(.pair .str .unit), (.pair (.int .u32) (.pair (.int .u32) .unit)), P_internal_bytealg_hashStrRev_string⟩
theorem h_internal_bytealg_hashStrRev_string : Holds Tryd.prog glob 50 c_internal_bytealg_hashStrRev_string := holds_at (con := []) (rcon := []) (con_nil) (rcon_nil) (fn := Tryd.f50) rfl (by kernel_rfl) (fun x => by kernel_rfl)
noncomputable def c_internal_bytealg_LastIndexRabinKarp_string : Con := ⟨(.pair .str (.pair .str .unit)), (.pair (.int .i64) .unit), P_internal_bytealg_LastIndexRabinKarp_string⟩
theorem h_internal_bytealg_LastIndexRabinKarp_string : Holds Tryd.prog glob 44 c_internal_bytealg_LastIndexRabinKarp_string := holds_at (con := [(50, c_internal_bytealg_hashStrRev_string)]) (rcon := []) ((con_cons h_internal_bytealg_hashStrRev_string con_nil)) (rcon_nil) (fn := Tryd.f44) rfl (by kernel_rfl) (fun x => by kernel_rfl)
noncomputable def c_strings_LastIndex : Con := ⟨(.pair .str (.pair .str .unit)), (.pair (.int .i64) .unit), P_strings_LastIndex⟩
theorem h_strings_LastIndex : Holds Tryd.prog glob 30 c_strings_LastIndex := holds_at (con := [(43, c_internal_bytealg_LastIndexByteString), (44, c_internal_bytealg_LastIndexRabinKarp_string)]) (rcon := []) ((con_cons h_internal_bytealg_LastIndexByteString (con_cons h_internal_bytealg_LastIndexRabinKarp_string con_nil))) (rcon_nil) (fn := Tryd.f30) rfl (by kernel_rfl) (fun x => by kernel_rfl)
noncomputable def c_paths_Split : Con := ⟨(.pair .str .unit), (.pair .str (.pair .str .unit)), P_paths_Split⟩
theorem h_paths_Split : Holds Tryd.prog glob 11 c_paths_Split := holds_at (con := [(30, c_strings_LastIndex)]) (rcon := []) ((con_cons h_strings_LastIndex con_nil)) (rcon_nil) (fn := Tryd.f11) rfl (by kernel_rfl) (fun x => by kernel_rfl)
noncomputable def c_slices_Equal_string_string : Con := ⟨(.pair (.slice .str) (.pair (.slice .str) .unit)), (.pair .bool .unit), P_slices_Equal_string_string⟩
theorem h_slices_Equal_string_string : Holds Tryd.prog glob 32 c_slices_Equal_string_string := holds_at (con := []) (rcon := []) (con_nil) (rcon_nil) (fn := Tryd.f32) rfl (by kernel_rfl) (fun x => by kernel_rfl)
noncomputable def c_paths_Under : Con := ⟨(.pair .str (.pair .str .unit)), (.pair .bool .unit), P_paths_Under⟩
theorem h_paths_Under : Holds Tryd.prog glob 18 c_paths_Under := holds_at (con := [(14, c_paths_Parts), (32, c_slices_Equal_string_string)]) (rcon := []) ((con_cons h_paths_Parts (con_cons h_slices_Equal_string_string con_nil))) (rcon_nil) (fn := Tryd.f18) rfl (by kernel_rfl) (fun x => by kernel_rfl)
noncomputable def c_cmp_isNaN_string : Con := ⟨(.pair .str .unit), (.pair .bool .unit), P_cmp_isNaN_string⟩
theorem h_cmp_isNaN_string : Holds Tryd.prog glob 46 c_cmp_isNaN_string := holds_at (con := []) (rcon := []) (con_nil) (rcon_nil) (fn := Tryd.f46) rfl (by kernel_rfl) (fun x => by kernel_rfl)
noncomputable def c_cmp_Compare_string : Con := ⟨(.pair .str (.pair .str .unit)), (.pair (.int .i64) .unit), P_cmp_Compare_string⟩
theorem h_cmp_Compare_string : Holds Tryd.prog glob 34 c_cmp_Compare_string := holds_at (con := [(46, c_cmp_isNaN_string)]) (rcon := []) ((con_cons h_cmp_isNaN_string con_nil)) (rcon_nil) (fn := Tryd.f34) rfl (by kernel_rfl) (fun x => by kernel_rfl)
noncomputable def c_paths_Compare : Con := ⟨(.pair .str (.pair .str .unit)), (.pair (.int .i64) .unit), P_paths_Compare⟩
theorem h_paths_Compare : Holds Tryd.prog glob 20 c_paths_Compare := holds_at (con := [(14, c_paths_Parts), (34, c_cmp_Compare_string)]) (rcon := []) ((con_cons h_paths_Parts (con_cons h_cmp_Compare_string con_nil))) (rcon_nil) (fn := Tryd.f20) rfl (by kernel_rfl) (fun x => by kernel_rfl)
noncomputable def c_law07_awake : Con := ⟨.unit, (.pair .bool .unit), P_law07_awake⟩
theorem h_law07_awake : Holds Tryd.prog glob 6 c_law07_awake := holds_at (con := [(7, c_paths_Clean), (9, c_paths_Mark), (11, c_paths_Split), (18, c_paths_Under), (20, c_paths_Compare)]) (rcon := []) ((con_cons h_paths_Clean (con_cons h_paths_Mark (con_cons h_paths_Split (con_cons h_paths_Under (con_cons h_paths_Compare con_nil)))))) (rcon_nil) (fn := Tryd.f6) rfl (by kernel_rfl) (fun x => by kernel_rfl)
noncomputable def c_ref07_Parts : Con := ⟨(.pair .str .unit), (.pair (.slice .str) .unit), P_ref07_Parts⟩
theorem h_ref07_Parts : Holds Tryd.prog glob 15 c_ref07_Parts := holds_at (con := []) (rcon := []) (con_nil) (rcon_nil) (fn := Tryd.f15) rfl (by kernel_rfl) (fun x => by kernel_rfl)
noncomputable def c_ref07_join : Con := ⟨(.pair (.slice .str) .unit), (.pair .str .unit), P_ref07_join⟩
theorem h_ref07_join : Holds Tryd.prog glob 25 c_ref07_join := holds_at (con := []) (rcon := []) (con_nil) (rcon_nil) (fn := Tryd.f25) rfl (by kernel_rfl) (fun x => by kernel_rfl)
noncomputable def c_ref07_isName : Con := ⟨(.pair .str .unit), (.pair .bool .unit), P_ref07_isName⟩
theorem h_ref07_isName : Holds Tryd.prog glob 40 c_ref07_isName := holds_at (con := []) (rcon := []) (con_nil) (rcon_nil) (fn := Tryd.f40) rfl (by kernel_rfl) (fun x => by kernel_rfl)
noncomputable def c_ref07_Is : Con := ⟨(.pair .str .unit), (.pair .bool .unit), P_ref07_Is⟩
theorem h_ref07_Is : Holds Tryd.prog glob 26 c_ref07_Is := holds_at (con := [(15, c_ref07_Parts), (40, c_ref07_isName)]) (rcon := []) ((con_cons h_ref07_Parts (con_cons h_ref07_isName con_nil))) (rcon_nil) (fn := Tryd.f26) rfl (by kernel_rfl) (fun x => by kernel_rfl)
noncomputable def c_ref07_Clean : Con := ⟨(.pair .str .unit), (.pair .str (.pair (.int .i64) .unit)), P_ref07_Clean⟩
theorem h_ref07_Clean : Holds Tryd.prog glob 8 c_ref07_Clean := holds_at (con := [(15, c_ref07_Parts), (25, c_ref07_join), (26, c_ref07_Is)]) (rcon := []) ((con_cons h_ref07_Parts (con_cons h_ref07_join (con_cons h_ref07_Is con_nil)))) (rcon_nil) (fn := Tryd.f8) rfl (by kernel_rfl) (fun x => by kernel_rfl)
noncomputable def c_ref07_begins : Con := ⟨(.pair .str (.pair .str .unit)), (.pair .bool .unit), P_ref07_begins⟩
theorem h_ref07_begins : Holds Tryd.prog glob 29 c_ref07_begins := holds_at (con := []) (rcon := []) (con_nil) (rcon_nil) (fn := Tryd.f29) rfl (by kernel_rfl) (fun x => by kernel_rfl)
noncomputable def c_ref07_Mark : Con := ⟨(.pair .str .unit), (.pair (.int .i64) (.pair .str .unit)), P_ref07_Mark⟩
theorem h_ref07_Mark : Holds Tryd.prog glob 10 c_ref07_Mark := holds_at (con := [(29, c_ref07_begins)]) (rcon := []) ((con_cons h_ref07_begins con_nil)) (rcon_nil) (fn := Tryd.f10) rfl (by kernel_rfl) (fun x => by kernel_rfl)
noncomputable def c_law07_PathsClean : Con := ⟨(.pair .str (.pair .str .unit)), (.pair .bool .unit), P_law07_PathsClean⟩
theorem h_law07_PathsClean : Holds Tryd.prog glob 3 c_law07_PathsClean := holds_at (con := [(6, c_law07_awake), (7, c_paths_Clean), (8, c_ref07_Clean), (9, c_paths_Mark), (10, c_ref07_Mark)]) (rcon := []) ((con_cons h_law07_awake (con_cons h_paths_Clean (con_cons h_ref07_Clean (con_cons h_paths_Mark (con_cons h_ref07_Mark con_nil)))))) (rcon_nil) (fn := Tryd.f3) rfl (by kernel_rfl) (fun x => by kernel_rfl)
noncomputable def c_ref07_Split : Con := ⟨(.pair .str .unit), (.pair .str (.pair .str .unit)), P_ref07_Split⟩
theorem h_ref07_Split : Holds Tryd.prog glob 12 c_ref07_Split := holds_at (con := [(15, c_ref07_Parts), (25, c_ref07_join)]) (rcon := []) ((con_cons h_ref07_Parts (con_cons h_ref07_join con_nil))) (rcon_nil) (fn := Tryd.f12) rfl (by kernel_rfl) (fun x => by kernel_rfl)
noncomputable def c_ref06_SameTexts : Con := ⟨(.pair (.slice .str) (.pair (.slice .str) .unit)), (.pair .bool .unit), P_ref06_SameTexts⟩
theorem h_ref06_SameTexts : Holds Tryd.prog glob 13 c_ref06_SameTexts := holds_at (con := []) (rcon := []) (con_nil) (rcon_nil) (fn := Tryd.f13) rfl (by kernel_rfl) (fun x => by kernel_rfl)
noncomputable def c_paths_Join : Con := ⟨(.pair .str (.pair .str .unit)), (.pair .str .unit), P_paths_Join⟩
theorem h_paths_Join : Holds Tryd.prog glob 16 c_paths_Join := holds_at (con := []) (rcon := []) (con_nil) (rcon_nil) (fn := Tryd.f16) rfl (by kernel_rfl) (fun x => by kernel_rfl)
noncomputable def c_ref07_Join : Con := ⟨(.pair .str (.pair .str .unit)), (.pair .str .unit), P_ref07_Join⟩
theorem h_ref07_Join : Holds Tryd.prog glob 17 c_ref07_Join := holds_at (con := []) (rcon := []) (con_nil) (rcon_nil) (fn := Tryd.f17) rfl (by kernel_rfl) (fun x => by kernel_rfl)
noncomputable def c_ref07_Under : Con := ⟨(.pair .str (.pair .str .unit)), (.pair .bool .unit), P_ref07_Under⟩
theorem h_ref07_Under : Holds Tryd.prog glob 19 c_ref07_Under := holds_at (con := [(15, c_ref07_Parts)]) (rcon := []) ((con_cons h_ref07_Parts con_nil)) (rcon_nil) (fn := Tryd.f19) rfl (by kernel_rfl) (fun x => by kernel_rfl)
noncomputable def c_ref07_Compare : Con := ⟨(.pair .str (.pair .str .unit)), (.pair (.int .i64) .unit), P_ref07_Compare⟩
theorem h_ref07_Compare : Holds Tryd.prog glob 21 c_ref07_Compare := holds_at (con := [(15, c_ref07_Parts)]) (rcon := []) ((con_cons h_ref07_Parts con_nil)) (rcon_nil) (fn := Tryd.f21) rfl (by kernel_rfl) (fun x => by kernel_rfl)
noncomputable def c_law07_PathsParts : Con := ⟨(.pair .str (.pair .str .unit)), (.pair .bool .unit), P_law07_PathsParts⟩
theorem h_law07_PathsParts : Holds Tryd.prog glob 4 c_law07_PathsParts := holds_at (con := [(6, c_law07_awake), (11, c_paths_Split), (12, c_ref07_Split), (13, c_ref06_SameTexts), (14, c_paths_Parts), (15, c_ref07_Parts), (16, c_paths_Join), (17, c_ref07_Join), (18, c_paths_Under), (19, c_ref07_Under), (20, c_paths_Compare), (21, c_ref07_Compare)]) (rcon := []) ((con_cons h_law07_awake (con_cons h_paths_Split (con_cons h_ref07_Split (con_cons h_ref06_SameTexts (con_cons h_paths_Parts (con_cons h_ref07_Parts (con_cons h_paths_Join (con_cons h_ref07_Join (con_cons h_paths_Under (con_cons h_ref07_Under (con_cons h_paths_Compare (con_cons h_ref07_Compare con_nil))))))))))))) (rcon_nil) (fn := Tryd.f4) rfl (by kernel_rfl) (fun x => by kernel_rfl)
noncomputable def c_law07_PathsBack : Con := ⟨(.pair .str (.pair .str (.pair .str .unit))), (.pair .bool .unit), P_law07_PathsBack⟩
theorem h_law07_PathsBack : Holds Tryd.prog glob 5 c_law07_PathsBack := holds_at (con := [(6, c_law07_awake), (7, c_paths_Clean), (11, c_paths_Split), (14, c_paths_Parts), (16, c_paths_Join), (18, c_paths_Under), (20, c_paths_Compare)]) (rcon := []) ((con_cons h_law07_awake (con_cons h_paths_Clean (con_cons h_paths_Split (con_cons h_paths_Parts (con_cons h_paths_Join (con_cons h_paths_Under (con_cons h_paths_Compare con_nil)))))))) (rcon_nil) (fn := Tryd.f5) rfl (by kernel_rfl) (fun x => by kernel_rfl)
end Go.Proofs.YtfbjmdbkjaldkaaDoor
