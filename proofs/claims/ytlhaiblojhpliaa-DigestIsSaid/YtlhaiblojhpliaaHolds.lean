/- The layer's functions keep their contracts: each comes to its plain definition, by the ghost interpreter. -/
import Derived.Test.YtlhaiblojhpliaaRows
import Derived.Test.YtlhaiblojhpliaaGp03
import Derived.Test.YtlhaiblojhpliaaBld
namespace Go.Proofs.Ytlhaiblojhpliaa
open Go Go.Ge
set_option linter.unusedVariables false
set_option maxRecDepth 100000

noncomputable def plans : Nat → FPlan
  | 3 => ⟨[none], []⟩
  | 4 => ⟨[some ⟨[(2, 4), (5, 3)], [3, 4], false⟩, none, none], []⟩
  | 5 => ⟨[none, none, some ⟨[(4, 4), (6, 3)], [5], false⟩, none, none], []⟩
  | 6 => ⟨[], []⟩
  | 7 => ⟨[], []⟩
  | 8 => ⟨[], []⟩
  | 9 => ⟨[none], []⟩
  | 10 => ⟨[none, none], []⟩
  | 11 => ⟨[], []⟩
  | 12 => ⟨[none], []⟩
  | 13 => ⟨[none], []⟩
  | 14 => ⟨[none], []⟩
  | 15 => ⟨[], []⟩
  | 16 => ⟨[], []⟩
  | 17 => ⟨[some ⟨[(9, 3)], [3], false⟩, none], []⟩
  | 18 => ⟨[some ⟨[(5, 3)], [3], false⟩, none, some ⟨[(7, 3)], [6], false⟩, none], []⟩
  | 19 => ⟨[some ⟨[(3, 52), (4, 3)], [3], false⟩, none], [3]⟩
  | 20 => ⟨[], []⟩
  | 21 => ⟨[none, some ⟨[(0, 9), (2, 9), (3, 4), (4, 52)], [4], false⟩, none, none], [4]⟩
  | 22 => ⟨[none, some ⟨[(2, 9), (3, 4), (4, 52), (5, 3)], [4], false⟩, none, none], [4]⟩
  | 23 => ⟨[some ⟨[], [0, 1], false⟩], []⟩
  | 24 => ⟨[], []⟩
  | 25 => ⟨[], []⟩
  | 26 => ⟨[], []⟩
  | 27 => ⟨[none, some ⟨[(1, 9)], [0], false⟩, none, some ⟨[], [0], false⟩], []⟩
  | 28 => ⟨[some ⟨[], [3], false⟩, some ⟨[], [3], false⟩, none, some ⟨[(26, 3)], [5], false⟩, none, some ⟨[(41, 3)], [7], false⟩, none], []⟩
  | 29 => ⟨[], []⟩
  | 31 => ⟨[], []⟩
  | 32 => ⟨[some ⟨[(3, 52)], [0, 3], false⟩, none, some ⟨[(3, 52), (5, 3)], [3], false⟩, none], []⟩
  | 33 => ⟨[some ⟨[(6, 3)], [5], false⟩, none, some ⟨[(7, 3)], [5], false⟩, none, some ⟨[(12, 3)], [11], false⟩, none, some ⟨[(17, 3)], [11], false⟩, none], []⟩
  | 34 => ⟨[none], []⟩
  | 35 => ⟨[none], []⟩
  | 36 => ⟨[], []⟩
  | 37 => ⟨[some ⟨[(2, 3), (3, 3)], [], false⟩, none, none], []⟩
  | 38 => ⟨[], []⟩
  | 39 => ⟨[some ⟨[], [], false⟩], []⟩
  | 42 => ⟨[some ⟨[], [0], false⟩, some ⟨[(6, 31), (7, 31), (8, 31), (9, 31), (10, 31), (11, 31), (12, 31), (13, 31), (74, 3)], [], false⟩, none, some ⟨[(143, 3)], [0], false⟩, none], []⟩
  | 44 => ⟨[], []⟩
  | 45 => ⟨[], []⟩
  | 46 => ⟨[], []⟩
  | 49 => ⟨[], []⟩
  | 50 => ⟨[], []⟩
  | 51 => ⟨[], []⟩
  | 52 => ⟨[], []⟩
  | 53 => ⟨[], []⟩
  | 54 => ⟨[some ⟨[(12, 3)], [3], false⟩, none, some ⟨[(22, 3)], [3], false⟩, none, some ⟨[(7, 3)], [3], false⟩, none], []⟩
  | 55 => ⟨[], []⟩
  | 58 => ⟨[none, some ⟨[], [0], false⟩], []⟩
  | 59 => ⟨[some ⟨[], [0], false⟩, some ⟨[], [0, 2], false⟩], []⟩
  | 61 => ⟨[none], []⟩
  | 62 => ⟨[], []⟩
  | _ => ⟨[], []⟩

def objs : List (Nat × List OFld) := [(69, [.self, .buf (.int .u8) 5])]
def els : List (Nat × Nat) := [(52, 5)]
def spc : List (Nat × Spc) := [(30, .str 69 5), (43, .chk 69)]
noncomputable def tys : List (Nat × Ty) := [(2, (.int .i64)), (3, (.int .i64)), (4, .bool), (5, (.int .u8)), (9, .str), (21, (.int .i32)), (24, (.int .i64)), (31, (.int .u32)), (35, (.pair (.int .i32) (.pair (.int .u32) .unit))), (50, (.arr 32 (.int .u8))), (52, (.slice (.int .u8))), (59, (.arr 8 (.int .u32))), (61, (.pair .bool (.pair (.arr 8 (.int .u32)) .unit))), (62, (.arr 64 (.int .u8))), (64, (.pair (.pair .bool (.pair (.arr 8 (.int .u32)) .unit)) (.pair (.arr 64 (.int .u8)) (.pair (.int .i64) .unit)))), (73, (.int .u64)), (86, (.int .u64)), (87, (.arr 8 (.int .u8))), (89, (.arr 64 (.int .u32)))]
noncomputable def funs : List (Nat × Func) := [(3, Try.f3), (4, Try.f4), (5, Try.f5), (6, Try.f6), (7, Try.f7), (8, Try.f8), (9, Try.f9), (10, Try.f10), (11, Try.f11), (12, Try.f12), (13, Try.f13), (14, Try.f14), (15, Try.f15), (16, Try.f16), (17, Try.f17), (18, Try.f18), (19, Try.f19), (20, Try.f20), (21, Try.f21), (22, Try.f22), (23, Try.f23), (24, Try.f24), (25, Try.f25), (26, Try.f26), (27, Try.f27), (28, Try.f28), (29, Try.f29), (31, Try.f31), (32, Try.f32), (33, Try.f33), (34, Try.f34), (35, Try.f35), (36, Try.f36), (37, Try.f37), (38, Try.f38), (39, Try.f39), (42, Try.f42), (44, Try.f44), (45, Try.f45), (46, Try.f46), (49, Try.f49), (50, Try.f50), (51, Try.f51), (52, Try.f52), (53, Try.f53), (54, Try.f54), (55, Try.f55), (58, Try.f58), (59, Try.f59), (61, Try.f61), (62, Try.f62)]
def ones : List Nat := [1, 27, 67, 79, 80, 82, 84, 88, 92, 94, 96, 100, 103, 105]
def ptrs : List Nat := [27, 67, 79, 80, 82, 84, 88, 92, 94, 96, 100, 103, 105]
noncomputable def cxOf (con : List (Nat × Con)) (rcon : List (Nat × RCon)) : Ctx := ⟨tys, ones, ptrs, funs, con, rcon, objs, spc, els⟩

theorem spc_ok : ∀ p ∈ spc, SpcOk Try.prog p.1 p.2 := (spc_cons h_strings_Builder_String (spc_cons h_strings_Builder_copyCheck spc_nil))
theorem mix : Try.prog.follows .mixedOrders = true := by kernel_rfl

theorem T_ok : ∀ tid t, find tys tid = some t → Den Try.prog t tid := tys_ok (by kernel_rfl)
theorem ones_ok : ∀ tid, memN ones tid = true → (∀ w, (isAgg tid).run Try.prog w = .ok false w) ∧ (∀ w, (Go.sizeOf tid).run Try.prog w = .ok 1 w) ∧ ∃ z, (∀ w, (zeroValue tid).run Try.prog w = .ok z w) ∧ z.oneCell' = true := ones_of (by kernel_rfl)
theorem ptrs_ok : ∀ tid, memN ptrs tid = true → ∃ e, Try.prog.underlying tid = some (.pointer e) := ptrs_of (by kernel_rfl)
theorem fns_ok : ∀ f fn, find funs f = some fn → Try.prog.funcs[f]? = some fn := fns_of ((fns_cons Try.func3 (fns_cons Try.func4 (fns_cons Try.func5 (fns_cons Try.func6 (fns_cons Try.func7 (fns_cons Try.func8 (fns_cons Try.func9 (fns_cons Try.func10 (fns_cons Try.func11 (fns_cons Try.func12 (fns_cons Try.func13 (fns_cons Try.func14 (fns_cons Try.func15 (fns_cons Try.func16 (fns_cons Try.func17 (fns_cons Try.func18 (fns_cons Try.func19 (fns_cons Try.func20 (fns_cons Try.func21 (fns_cons Try.func22 (fns_cons Try.func23 (fns_cons Try.func24 (fns_cons Try.func25 (fns_cons Try.func26 (fns_cons Try.func27 (fns_cons Try.func28 (fns_cons Try.func29 (fns_cons Try.func31 (fns_cons Try.func32 (fns_cons Try.func33 (fns_cons Try.func34 (fns_cons Try.func35 (fns_cons Try.func36 (fns_cons Try.func37 (fns_cons Try.func38 (fns_cons Try.func39 (fns_cons Try.func42 (fns_cons Try.func44 (fns_cons Try.func45 (fns_cons Try.func46 (fns_cons Try.func49 (fns_cons Try.func50 (fns_cons Try.func51 (fns_cons Try.func52 (fns_cons Try.func53 (fns_cons Try.func54 (fns_cons Try.func55 (fns_cons Try.func58 (fns_cons Try.func59 (fns_cons Try.func61 (fns_cons Try.func62 fns_nil))))))))))))))))))))))))))))))))))))))))))))))))))))
theorem objs_ok : ∀ tid fs, find objs tid = some fs → objB Try.prog tid fs = true := objs_of (by kernel_rfl)
theorem els_ok : ∀ tid e, find els tid = some e → Try.prog.underlying tid = some (.slice e) := els_of (by kernel_rfl)
theorem cx_ok (con : List (Nat × Con)) (rcon : List (Nat × RCon)) : CxOk Try.prog (cxOf con rcon) := ⟨T_ok, ones_ok, ptrs_ok, fns_ok, objs_ok, els_ok⟩
theorem funs_ok (con : List (Nat × Con)) (rcon : List (Nat × RCon)) : FnsOk (cxOf con rcon) := fnsOk_of (cx := cxOf con rcon) (show (funs.all fun p => fnOk p.2) = true by kernel_rfl)

theorem holds_at {con : List (Nat × Con)} {rcon : List (Nat × RCon)} (hcon : ∀ p ∈ con, Holds Try.prog p.1 p.2) (hrcon : ∀ p ∈ rcon, RHolds Try.prog p.1 p.2) {f : Nat} {fn : Func} {A R : Ty} {spec : A.den → Option R.den} (hfn : find funs f = some fn) (hb : fn.body.isSome = true)
    (hs : ∀ x, sem (cxOf con rcon) 12 plans f A R x = spec x) : Holds Try.prog f ⟨A, R, spec⟩ := by
  obtain ⟨code, hcode⟩ := Option.isSome_iff_exists.1 hb
  exact holds_of_sem mix (cx_ok con rcon) (conOk_of hcon hrcon spc_ok) (funs_ok con rcon) (f := f) hfn hcode (fun x y h => by rw [hs]; exact h)

theorem rholds_at {con : List (Nat × Con)} {rcon : List (Nat × RCon)} (hcon : ∀ p ∈ con, Holds Try.prog p.1 p.2) (hrcon : ∀ p ∈ rcon, RHolds Try.prog p.1 p.2) {f : Nat} {fn : Func} {ps : List Bool} {A U R : Ty} {spec : A.den × U.den → Option (R.den × U.den)} (hfn : find funs f = some fn) (hb : fn.body.isSome = true)
    (hs : ∀ x, semR (cxOf con rcon) 12 plans f ps A U R x = spec x) : RHolds Try.prog f ⟨ps, A, U, R, spec⟩ := by
  obtain ⟨code, hcode⟩ := Option.isSome_iff_exists.1 hb
  exact rholds_of_sem mix (cx_ok con rcon) (conOk_of hcon hrcon spc_ok) (funs_ok con rcon) (f := f) hfn hcode (fun x y h => by rw [hs]; exact h)

noncomputable def c_sha_begin : Con := ⟨.unit, (.pair (.arr 8 (.int .u32)) .unit), P_sha_begin⟩
theorem h_sha_begin : Holds Try.prog 52 c_sha_begin := holds_at (con := []) (rcon := []) (con_nil) (rcon_nil) (fn := Try.f52) rfl (by kernel_rfl) (fun x => by kernel_rfl)
noncomputable def c_sha_round : Con := ⟨.unit, (.pair (.arr 64 (.int .u32)) .unit), P_sha_round⟩
theorem h_sha_round : Holds Try.prog 53 c_sha_round := holds_at (con := []) (rcon := []) (con_nil) (rcon_nil) (fn := Try.f53) rfl (by kernel_rfl) (fun x => by kernel_rfl)
noncomputable def c_math_bits_RotateLeft32 : Con := ⟨(.pair (.int .u32) (.pair (.int .i64) .unit)), (.pair (.int .u32) .unit), P_math_bits_RotateLeft32⟩
theorem h_math_bits_RotateLeft32 : Holds Try.prog 62 c_math_bits_RotateLeft32 := holds_at (con := []) (rcon := []) (con_nil) (rcon_nil) (fn := Try.f62) rfl (by kernel_rfl) (fun x => by kernel_rfl)
noncomputable def c_sha_right : Con := ⟨(.pair (.int .u32) (.pair (.int .i64) .unit)), (.pair (.int .u32) .unit), P_sha_right⟩
theorem h_sha_right : Holds Try.prog 55 c_sha_right := holds_at (con := [(62, c_math_bits_RotateLeft32)]) (rcon := []) ((con_cons h_math_bits_RotateLeft32 con_nil)) (rcon_nil) (fn := Try.f55) rfl (by kernel_rfl) (fun x => by kernel_rfl)
noncomputable def c_sha_schedule : Con := ⟨(.pair (.arr 64 (.int .u8)) .unit), (.pair (.arr 64 (.int .u32)) .unit), P_sha_schedule⟩
theorem h_sha_schedule : Holds Try.prog 54 c_sha_schedule := holds_at (con := [(55, c_sha_right)]) (rcon := []) ((con_cons h_sha_right con_nil)) (rcon_nil) (fn := Try.f54) rfl (by kernel_rfl) (fun x => by kernel_rfl)
noncomputable def c_sha_words_block : RCon := ⟨[true, false], (.pair (.arr 64 (.int .u8)) .unit), (.pair (.pair .bool (.pair (.arr 8 (.int .u32)) .unit)) .unit), .unit, P_sha_words_block⟩
theorem h_sha_words_block : RHolds Try.prog 42 c_sha_words_block := rholds_at (con := [(52, c_sha_begin), (53, c_sha_round), (54, c_sha_schedule), (55, c_sha_right)]) (rcon := []) ((con_cons h_sha_begin (con_cons h_sha_round (con_cons h_sha_schedule (con_cons h_sha_right con_nil))))) (rcon_nil) (fn := Try.f42) rfl (by kernel_rfl) (fun x => by kernel_rfl)
noncomputable def c_sha_Stream_Add : RCon := ⟨[true, false], (.pair .str .unit), (.pair (.pair (.pair .bool (.pair (.arr 8 (.int .u32)) .unit)) (.pair (.arr 64 (.int .u8)) (.pair (.int .i64) .unit))) .unit), .unit, P_sha_Stream_Add⟩
theorem h_sha_Stream_Add : RHolds Try.prog 27 c_sha_Stream_Add := rholds_at (con := [(52, c_sha_begin), (53, c_sha_round), (54, c_sha_schedule), (55, c_sha_right)]) (rcon := [(42, c_sha_words_block)]) ((con_cons h_sha_begin (con_cons h_sha_round (con_cons h_sha_schedule (con_cons h_sha_right con_nil))))) ((rcon_cons h_sha_words_block rcon_nil)) (fn := Try.f27) rfl (by kernel_rfl) (fun x => by kernel_rfl)
noncomputable def c_sha_Stream_Sum : RCon := ⟨[true], .unit, (.pair (.pair (.pair .bool (.pair (.arr 8 (.int .u32)) .unit)) (.pair (.arr 64 (.int .u8)) (.pair (.int .i64) .unit))) .unit), (.pair (.arr 32 (.int .u8)) .unit), P_sha_Stream_Sum⟩
theorem h_sha_Stream_Sum : RHolds Try.prog 28 c_sha_Stream_Sum := rholds_at (con := [(52, c_sha_begin), (53, c_sha_round), (54, c_sha_schedule), (55, c_sha_right)]) (rcon := [(27, c_sha_Stream_Add), (42, c_sha_words_block)]) ((con_cons h_sha_begin (con_cons h_sha_round (con_cons h_sha_schedule (con_cons h_sha_right con_nil))))) ((rcon_cons h_sha_Stream_Add (rcon_cons h_sha_words_block rcon_nil))) (fn := Try.f28) rfl (by kernel_rfl) (fun x => by kernel_rfl)
noncomputable def c_sha_Sum : Con := ⟨(.pair .str .unit), (.pair (.arr 32 (.int .u8)) .unit), P_sha_Sum⟩
theorem h_sha_Sum : Holds Try.prog 16 c_sha_Sum := holds_at (con := [(52, c_sha_begin), (53, c_sha_round), (54, c_sha_schedule), (55, c_sha_right)]) (rcon := [(27, c_sha_Stream_Add), (28, c_sha_Stream_Sum), (42, c_sha_words_block)]) ((con_cons h_sha_begin (con_cons h_sha_round (con_cons h_sha_schedule (con_cons h_sha_right con_nil))))) ((rcon_cons h_sha_Stream_Add (rcon_cons h_sha_Stream_Sum (rcon_cons h_sha_words_block rcon_nil)))) (fn := Try.f16) rfl (by kernel_rfl) (fun x => by kernel_rfl)
noncomputable def c_digits_Hex : Con := ⟨(.pair .str .unit), (.pair .str .unit), P_digits_Hex⟩
theorem h_digits_Hex : Holds Try.prog 17 c_digits_Hex := holds_at (con := []) (rcon := []) (con_nil) (rcon_nil) (fn := Try.f17) rfl (by kernel_rfl) (fun x => by kernel_rfl)
noncomputable def c_digest_Of : Con := ⟨(.pair .str .unit), (.pair .str .unit), P_digest_Of⟩
theorem h_digest_Of : Holds Try.prog 7 c_digest_Of := holds_at (con := [(16, c_sha_Sum), (17, c_digits_Hex)]) (rcon := []) ((con_cons h_sha_Sum (con_cons h_digits_Hex con_nil))) (rcon_nil) (fn := Try.f7) rfl (by kernel_rfl) (fun x => by kernel_rfl)
noncomputable def c_internal_stringslite_HasPrefix : Con := ⟨(.pair .str (.pair .str .unit)), (.pair .bool .unit), P_internal_stringslite_HasPrefix⟩
theorem h_internal_stringslite_HasPrefix : Holds Try.prog 46 c_internal_stringslite_HasPrefix := holds_at (con := []) (rcon := []) (con_nil) (rcon_nil) (fn := Try.f46) rfl (by kernel_rfl) (fun x => by kernel_rfl)
noncomputable def c_internal_stringslite_CutPrefix : Con := ⟨(.pair .str (.pair .str .unit)), (.pair .str (.pair .bool .unit)), P_internal_stringslite_CutPrefix⟩
theorem h_internal_stringslite_CutPrefix : Holds Try.prog 35 c_internal_stringslite_CutPrefix := holds_at (con := [(46, c_internal_stringslite_HasPrefix)]) (rcon := []) ((con_cons h_internal_stringslite_HasPrefix con_nil)) (rcon_nil) (fn := Try.f35) rfl (by kernel_rfl) (fun x => by kernel_rfl)
noncomputable def c_strings_CutPrefix : Con := ⟨(.pair .str (.pair .str .unit)), (.pair .str (.pair .bool .unit)), P_strings_CutPrefix⟩
theorem h_strings_CutPrefix : Holds Try.prog 20 c_strings_CutPrefix := holds_at (con := [(35, c_internal_stringslite_CutPrefix)]) (rcon := []) ((con_cons h_internal_stringslite_CutPrefix con_nil)) (rcon_nil) (fn := Try.f20) rfl (by kernel_rfl) (fun x => by kernel_rfl)
noncomputable def c_internal_stringslite_IndexByte : Con := ⟨(.pair .str (.pair (.int .u8) .unit)), (.pair (.int .i64) .unit), P_internal_stringslite_IndexByte⟩
theorem h_internal_stringslite_IndexByte : Holds Try.prog 47 c_internal_stringslite_IndexByte := holds_str_u8 (spec := fun s c => Lib.indexByte s (show Int from c).toNat.toUInt8) Try.func47 (by kernel_rfl) (by kernel_rfl) (fun s c => indexByte_range _ s) (fun s c w => by
  go_enter Try.func47, Try.ntmps47
  go_wp2
  rw [run_callFunc_extern Try.func57 (by kernel_rfl) (by kernel_rfl) (by kernel_rfl) (e := Extern.BytealgIndexByte.indexByte) (by kernel_rfl), Lib.run_indexByteString]
  simp only [Result.andThen]
  rw [Oper.upon_value]
  go_wp2
  go_ret
  exact ⟨rfl, rfl⟩)
noncomputable def c_strings_IndexByte : Con := ⟨(.pair .str (.pair (.int .u8) .unit)), (.pair (.int .i64) .unit), P_strings_IndexByte⟩
theorem h_strings_IndexByte : Holds Try.prog 36 c_strings_IndexByte := holds_at (con := [(47, c_internal_stringslite_IndexByte)]) (rcon := []) ((con_cons h_internal_stringslite_IndexByte con_nil)) (rcon_nil) (fn := Try.f36) rfl (by kernel_rfl) (fun x => by kernel_rfl)
noncomputable def c_digits_Unhex : Con := ⟨(.pair .str .unit), (.pair .str (.pair .bool .unit)), P_digits_Unhex⟩
theorem h_digits_Unhex : Holds Try.prog 21 c_digits_Unhex := holds_at (con := [(36, c_strings_IndexByte)]) (rcon := []) ((con_cons h_strings_IndexByte con_nil)) (rcon_nil) (fn := Try.f21) rfl (by kernel_rfl) (fun x => by kernel_rfl)
noncomputable def c_digest_Check : Con := ⟨(.pair .str .unit), (.pair (.int .i64) .unit), P_digest_Check⟩
theorem h_digest_Check : Holds Try.prog 9 c_digest_Check := holds_at (con := [(20, c_strings_CutPrefix), (21, c_digits_Unhex)]) (rcon := []) ((con_cons h_strings_CutPrefix (con_cons h_digits_Unhex con_nil))) (rcon_nil) (fn := Try.f9) rfl (by kernel_rfl) (fun x => by kernel_rfl)
noncomputable def c_digest_Is : Con := ⟨(.pair .str (.pair .str .unit)), (.pair .bool .unit), P_digest_Is⟩
theorem h_digest_Is : Holds Try.prog 11 c_digest_Is := holds_at (con := [(7, c_digest_Of)]) (rcon := []) ((con_cons h_digest_Of con_nil)) (rcon_nil) (fn := Try.f11) rfl (by kernel_rfl) (fun x => by kernel_rfl)
noncomputable def c_law03_awake : Con := ⟨.unit, (.pair .bool .unit), P_law03_awake⟩
theorem h_law03_awake : Holds Try.prog 6 c_law03_awake := holds_at (con := [(7, c_digest_Of), (9, c_digest_Check), (11, c_digest_Is)]) (rcon := []) ((con_cons h_digest_Of (con_cons h_digest_Check (con_cons h_digest_Is con_nil)))) (rcon_nil) (fn := Try.f6) rfl (by kernel_rfl) (fun x => by kernel_rfl)
noncomputable def c_ref02_begin : Con := ⟨.unit, (.pair (.arr 8 (.int .u32)) .unit), P_ref02_begin⟩
theorem h_ref02_begin : Holds Try.prog 31 c_ref02_begin := holds_at (con := []) (rcon := []) (con_nil) (rcon_nil) (fn := Try.f31) rfl (by kernel_rfl) (fun x => by kernel_rfl)
noncomputable def c_ref02_whole : Con := ⟨(.pair .str .unit), (.pair .str .unit), P_ref02_whole⟩
theorem h_ref02_whole : Holds Try.prog 32 c_ref02_whole := holds_at (con := []) (rcon := []) (con_nil) (rcon_nil) (fn := Try.f32) rfl (by kernel_rfl) (fun x => by kernel_rfl)
noncomputable def c_ref02_turn : Con := ⟨(.pair (.int .u32) (.pair (.int .i64) .unit)), (.pair (.int .u32) .unit), P_ref02_turn⟩
theorem h_ref02_turn : Holds Try.prog 44 c_ref02_turn := holds_at (con := []) (rcon := []) (con_nil) (rcon_nil) (fn := Try.f44) rfl (by kernel_rfl) (fun x => by kernel_rfl)
noncomputable def c_ref02_consts : Con := ⟨.unit, (.pair (.arr 64 (.int .u32)) .unit), P_ref02_consts⟩
theorem h_ref02_consts : Holds Try.prog 45 c_ref02_consts := holds_at (con := []) (rcon := []) (con_nil) (rcon_nil) (fn := Try.f45) rfl (by kernel_rfl) (fun x => by kernel_rfl)
noncomputable def c_ref02_block : Con := ⟨(.pair (.arr 8 (.int .u32)) (.pair .str .unit)), (.pair (.arr 8 (.int .u32)) .unit), P_ref02_block⟩
theorem h_ref02_block : Holds Try.prog 33 c_ref02_block := holds_at (con := [(44, c_ref02_turn), (45, c_ref02_consts)]) (rcon := []) ((con_cons h_ref02_turn (con_cons h_ref02_consts con_nil))) (rcon_nil) (fn := Try.f33) rfl (by kernel_rfl) (fun x => by kernel_rfl)
noncomputable def c_ref02_Sum : Con := ⟨(.pair .str .unit), (.pair (.arr 32 (.int .u8)) .unit), P_ref02_Sum⟩
theorem h_ref02_Sum : Holds Try.prog 18 c_ref02_Sum := holds_at (con := [(31, c_ref02_begin), (32, c_ref02_whole), (33, c_ref02_block)]) (rcon := []) ((con_cons h_ref02_begin (con_cons h_ref02_whole (con_cons h_ref02_block con_nil)))) (rcon_nil) (fn := Try.f18) rfl (by kernel_rfl) (fun x => by kernel_rfl)
noncomputable def c_ref01_digit : Con := ⟨(.pair (.int .i64) .unit), (.pair (.int .u8) .unit), P_ref01_digit⟩
theorem h_ref01_digit : Holds Try.prog 34 c_ref01_digit := holds_at (con := []) (rcon := []) (con_nil) (rcon_nil) (fn := Try.f34) rfl (by kernel_rfl) (fun x => by kernel_rfl)
noncomputable def c_ref01_Hex : Con := ⟨(.pair .str .unit), (.pair .str .unit), P_ref01_Hex⟩
theorem h_ref01_Hex : Holds Try.prog 19 c_ref01_Hex := holds_at (con := [(34, c_ref01_digit)]) (rcon := []) ((con_cons h_ref01_digit con_nil)) (rcon_nil) (fn := Try.f19) rfl (by kernel_rfl) (fun x => by kernel_rfl)
noncomputable def c_ref03_Of : Con := ⟨(.pair .str .unit), (.pair .str .unit), P_ref03_Of⟩
theorem h_ref03_Of : Holds Try.prog 8 c_ref03_Of := holds_at (con := [(18, c_ref02_Sum), (19, c_ref01_Hex)]) (rcon := []) ((con_cons h_ref02_Sum (con_cons h_ref01_Hex con_nil))) (rcon_nil) (fn := Try.f8) rfl (by kernel_rfl) (fun x => by kernel_rfl)
noncomputable def c_ref01_value : Con := ⟨(.pair (.int .u8) .unit), (.pair (.int .i64) .unit), P_ref01_value⟩
theorem h_ref01_value : Holds Try.prog 37 c_ref01_value := holds_at (con := [(34, c_ref01_digit)]) (rcon := []) ((con_cons h_ref01_digit con_nil)) (rcon_nil) (fn := Try.f37) rfl (by kernel_rfl) (fun x => by kernel_rfl)
noncomputable def c_ref01_Unhex : Con := ⟨(.pair .str .unit), (.pair .str (.pair .bool .unit)), P_ref01_Unhex⟩
theorem h_ref01_Unhex : Holds Try.prog 22 c_ref01_Unhex := holds_at (con := [(37, c_ref01_value)]) (rcon := []) ((con_cons h_ref01_value con_nil)) (rcon_nil) (fn := Try.f22) rfl (by kernel_rfl) (fun x => by kernel_rfl)
noncomputable def c_ref03_Check : Con := ⟨(.pair .str .unit), (.pair (.int .i64) .unit), P_ref03_Check⟩
theorem h_ref03_Check : Holds Try.prog 10 c_ref03_Check := holds_at (con := [(22, c_ref01_Unhex)]) (rcon := []) ((con_cons h_ref01_Unhex con_nil)) (rcon_nil) (fn := Try.f10) rfl (by kernel_rfl) (fun x => by kernel_rfl)
noncomputable def c_law03_DigestIs : Con := ⟨(.pair .str (.pair .str .unit)), (.pair .bool .unit), P_law03_DigestIs⟩
theorem h_law03_DigestIs : Holds Try.prog 3 c_law03_DigestIs := holds_at (con := [(6, c_law03_awake), (7, c_digest_Of), (8, c_ref03_Of), (9, c_digest_Check), (10, c_ref03_Check), (11, c_digest_Is)]) (rcon := []) ((con_cons h_law03_awake (con_cons h_digest_Of (con_cons h_ref03_Of (con_cons h_digest_Check (con_cons h_ref03_Check (con_cons h_digest_Is con_nil))))))) (rcon_nil) (fn := Try.f3) rfl (by kernel_rfl) (fun x => by kernel_rfl)
noncomputable def c_internal_sync_Mutex_Lock : RCon := ⟨[true], .unit, (.pair (.pair (.int .i32) (.pair (.int .u32) .unit)) .unit), .unit, P_internal_sync_Mutex_Lock⟩
theorem h_internal_sync_Mutex_Lock : RHolds Try.prog 58 c_internal_sync_Mutex_Lock := rholds_at (con := []) (rcon := []) (con_nil) (rcon_nil) (fn := Try.f58) rfl (by kernel_rfl) (fun x => by kernel_rfl)
noncomputable def c_internal_sync_Mutex_Unlock : RCon := ⟨[true], .unit, (.pair (.pair (.int .i32) (.pair (.int .u32) .unit)) .unit), .unit, P_internal_sync_Mutex_Unlock⟩
theorem h_internal_sync_Mutex_Unlock : RHolds Try.prog 59 c_internal_sync_Mutex_Unlock := rholds_at (con := []) (rcon := []) (con_nil) (rcon_nil) (fn := Try.f59) rfl (by kernel_rfl) (fun x => by kernel_rfl)
noncomputable def c_sync_atomic_b32 : Con := ⟨(.pair .bool .unit), (.pair (.int .u32) .unit), P_sync_atomic_b32⟩
theorem h_sync_atomic_b32 : Holds Try.prog 61 c_sync_atomic_b32 := holds_at (con := []) (rcon := []) (con_nil) (rcon_nil) (fn := Try.f61) rfl (by kernel_rfl) (fun x => by kernel_rfl)
noncomputable def c_law03_DigestNobody : Con := ⟨(.pair (.int .u8) .unit), (.pair .bool .unit), P_law03_DigestNobody⟩
theorem h_law03_DigestNobody : Holds Try.prog 4 c_law03_DigestNobody := holds_at (con := [(6, c_law03_awake), (7, c_digest_Of), (8, c_ref03_Of), (61, c_sync_atomic_b32)]) (rcon := [(58, c_internal_sync_Mutex_Lock), (59, c_internal_sync_Mutex_Unlock)]) ((con_cons h_law03_awake (con_cons h_digest_Of (con_cons h_ref03_Of (con_cons h_sync_atomic_b32 con_nil))))) ((rcon_cons h_internal_sync_Mutex_Lock (rcon_cons h_internal_sync_Mutex_Unlock rcon_nil))) (fn := Try.f4) rfl (by kernel_rfl) (fun x => by kernel_rfl)
noncomputable def c_law03_DigestLazy : Con := ⟨(.pair .str (.pair (.int .u8) .unit)), (.pair .bool .unit), P_law03_DigestLazy⟩
theorem h_law03_DigestLazy : Holds Try.prog 5 c_law03_DigestLazy := holds_at (con := [(6, c_law03_awake), (7, c_digest_Of), (8, c_ref03_Of), (61, c_sync_atomic_b32)]) (rcon := [(58, c_internal_sync_Mutex_Lock), (59, c_internal_sync_Mutex_Unlock)]) ((con_cons h_law03_awake (con_cons h_digest_Of (con_cons h_ref03_Of (con_cons h_sync_atomic_b32 con_nil))))) ((rcon_cons h_internal_sync_Mutex_Lock (rcon_cons h_internal_sync_Mutex_Unlock rcon_nil))) (fn := Try.f5) rfl (by kernel_rfl) (fun x => by kernel_rfl)
end Go.Proofs.Ytlhaiblojhpliaa
