/- The layer's functions keep their contracts: each comes to its plain definition, by the ghost interpreter. -/
import Derived.Test.YthndhdegjnjniaaDoorRows
import Derived.Test.YthndhdegjnjniaaDoorGp01R
import Derived.Test.YthndhdegjnjniaaDoorBld
import Derived.Test.YthndhdegjnjniaaDoorNum
import Derived.Test.YthndhdegjnjniaaDoorShelf
namespace Go.Proofs.YthndhdegjnjniaaDoor
open Go Go.Ge
set_option linter.unusedVariables false
set_option maxRecDepth 100000

noncomputable def plans : Nat → FPlan
  | 3 => ⟨[none], []⟩
  | 4 => ⟨[none], []⟩
  | 5 => ⟨[none], []⟩
  | 6 => ⟨[none, none, none, none], []⟩
  | 7 => ⟨[], []⟩
  | 9 => ⟨[none, some ⟨[(2, 3), (3, 4), (4, 3), (5, 3)], [], false⟩, none, none, none, some ⟨[(2, 3), (3, 4), (4, 3)], [], false⟩, none, none], []⟩
  | 10 => ⟨[], []⟩
  | 11 => ⟨[none], []⟩
  | 12 => ⟨[none, some ⟨[(0, 9), (2, 9), (3, 4), (4, 39)], [4], false⟩, none, none], [4]⟩
  | 13 => ⟨[none, some ⟨[(2, 9), (3, 4), (4, 39), (5, 3)], [4], false⟩, none, none], [4]⟩
  | 14 => ⟨[some ⟨[(9, 3)], [3], false⟩, none], []⟩
  | 15 => ⟨[some ⟨[(3, 39), (4, 3)], [3], false⟩, none], [3]⟩
  | 16 => ⟨[none, some ⟨[(0, 3), (19, 3)], [6], false⟩, none, none], []⟩
  | 17 => ⟨[none, some ⟨[(0, 3), (6, 9), (7, 3)], [], false⟩, none, none], []⟩
  | 18 => ⟨[none, some ⟨[(2, 3), (3, 4), (4, 3), (18, 3)], [], false⟩, none, none], []⟩
  | 19 => ⟨[none, some ⟨[(2, 3), (3, 4), (4, 3), (5, 3)], [], false⟩, none, none], []⟩
  | 22 => ⟨[none], []⟩
  | 23 => ⟨[], []⟩
  | 24 => ⟨[some ⟨[(2, 3), (3, 3)], [], false⟩, none, none], []⟩
  | 25 => ⟨[], []⟩
  | 27 => ⟨[none], []⟩
  | _ => ⟨[], []⟩

def objs : List (Nat × List OFld) := [(45, [.self, .buf (.int .u8) 5])]
def els : List (Nat × Nat) := [(39, 5)]
def spc : List (Nat × Spc) := [(26, .str 45 5), (32, .chk 45)]
noncomputable def tys : List (Nat × Ty) := [(2, (.int .i64)), (3, (.int .i64)), (4, .bool), (5, (.int .u8)), (9, .str), (21, (.int .i32)), (33, (.arr 2 (.int .i64))), (39, (.slice (.int .u8))), (41, (.int .u64)), (49, (.arr 21 (.int .u8))), (53, (.int .u64)), (67, (.arr 24 (.int .u8))), (74, (.pair .str .unit)), (77, (.arr 20 (.int .u64))), (78, (.int .u32)), (79, (.arr 65 (.int .u8))), (83, (.arr 32 (.int .u8))), (84, (.arr 64 (.int .u8)))]
noncomputable def funs : List (Nat × Func) := [(3, Tryd.f3), (4, Tryd.f4), (5, Tryd.f5), (6, Tryd.f6), (7, Tryd.f7), (9, Tryd.f9), (10, Tryd.f10), (11, Tryd.f11), (12, Tryd.f12), (13, Tryd.f13), (14, Tryd.f14), (15, Tryd.f15), (16, Tryd.f16), (17, Tryd.f17), (18, Tryd.f18), (19, Tryd.f19), (22, Tryd.f22), (23, Tryd.f23), (24, Tryd.f24), (25, Tryd.f25), (27, Tryd.f27)]
def ones : List Nat := [43, 51, 56, 72]
def ptrs : List Nat := [43, 51, 56, 72]
noncomputable def cxOf (con : List (Nat × Con)) (rcon : List (Nat × RCon)) : Ctx := ⟨tys, ones, ptrs, funs, con, rcon, objs, spc, els⟩

theorem spc_ok : ∀ p ∈ spc, SpcOk Tryd.prog p.1 p.2 := (spc_cons h_strings_Builder_String (spc_cons h_strings_Builder_copyCheck spc_nil))
theorem mix : Tryd.prog.follows .mixedOrders = true := by kernel_rfl

theorem T_ok : ∀ tid t, find tys tid = some t → Den Tryd.prog t tid := tys_ok (by kernel_rfl)
theorem ones_ok : ∀ tid, memN ones tid = true → (∀ w, (isAgg tid).run Tryd.prog w = .ok false w) ∧ (∀ w, (Go.sizeOf tid).run Tryd.prog w = .ok 1 w) ∧ ∃ z, (∀ w, (zeroValue tid).run Tryd.prog w = .ok z w) ∧ z.oneCell' = true := ones_of (by kernel_rfl)
theorem ptrs_ok : ∀ tid, memN ptrs tid = true → ∃ e, Tryd.prog.underlying tid = some (.pointer e) := ptrs_of (by kernel_rfl)
theorem fns_ok : ∀ f fn, find funs f = some fn → Tryd.prog.funcs[f]? = some fn := fns_of ((fns_cons Tryd.func3 (fns_cons Tryd.func4 (fns_cons Tryd.func5 (fns_cons Tryd.func6 (fns_cons Tryd.func7 (fns_cons Tryd.func9 (fns_cons Tryd.func10 (fns_cons Tryd.func11 (fns_cons Tryd.func12 (fns_cons Tryd.func13 (fns_cons Tryd.func14 (fns_cons Tryd.func15 (fns_cons Tryd.func16 (fns_cons Tryd.func17 (fns_cons Tryd.func18 (fns_cons Tryd.func19 (fns_cons Tryd.func22 (fns_cons Tryd.func23 (fns_cons Tryd.func24 (fns_cons Tryd.func25 (fns_cons Tryd.func27 fns_nil))))))))))))))))))))))
theorem objs_ok : ∀ tid fs, find objs tid = some fs → objB Tryd.prog tid fs = true := objs_of (by kernel_rfl)
theorem els_ok : ∀ tid e, find els tid = some e → Tryd.prog.underlying tid = some (.slice e) := els_of (by kernel_rfl)
theorem cx_ok (con : List (Nat × Con)) (rcon : List (Nat × RCon)) : CxOk Tryd.prog (cxOf con rcon) := ⟨T_ok, ones_ok, ptrs_ok, fns_ok, objs_ok, els_ok⟩
theorem funs_ok (con : List (Nat × Con)) (rcon : List (Nat × RCon)) : FnsOk (cxOf con rcon) := fnsOk_of (cx := cxOf con rcon) (show (funs.all fun p => fnOk p.2) = true by kernel_rfl)

theorem holds_at {con : List (Nat × Con)} {rcon : List (Nat × RCon)} (hcon : ∀ p ∈ con, Holds Tryd.prog glob p.1 p.2) (hrcon : ∀ p ∈ rcon, RHolds Tryd.prog glob p.1 p.2) {f : Nat} {fn : Func} {A R : Ty} {spec : A.den → Option R.den} (hfn : find funs f = some fn) (hb : fn.body.isSome = true)
    (hs : ∀ x, sem (cxOf con rcon) 12 plans f A R x = spec x) : Holds Tryd.prog glob f ⟨A, R, spec⟩ := by
  obtain ⟨code, hcode⟩ := Option.isSome_iff_exists.1 hb
  exact holds_of_sem mix (cx_ok con rcon) (conOk_of hcon hrcon spc_ok) (funs_ok con rcon) (f := f) hfn hcode (fun x y h => by rw [hs]; exact h)

theorem rholds_at {con : List (Nat × Con)} {rcon : List (Nat × RCon)} (hcon : ∀ p ∈ con, Holds Tryd.prog glob p.1 p.2) (hrcon : ∀ p ∈ rcon, RHolds Tryd.prog glob p.1 p.2) {f : Nat} {fn : Func} {ps : List Bool} {A U R : Ty} {spec : A.den × U.den → Option (R.den × U.den)} (hfn : find funs f = some fn) (hb : fn.body.isSome = true)
    (hs : ∀ x, semR (cxOf con rcon) 12 plans f ps A U R x = spec x) : RHolds Tryd.prog glob f ⟨ps, A, U, R, spec⟩ := by
  obtain ⟨code, hcode⟩ := Option.isSome_iff_exists.1 hb
  exact rholds_of_sem mix (cx_ok con rcon) (conOk_of hcon hrcon spc_ok) (funs_ok con rcon) (f := f) hfn hcode (fun x y h => by rw [hs]; exact h)

noncomputable def c_digits_Num : Con := ⟨(.pair .str .unit), (.pair (.int .i64) (.pair .bool .unit)), P_digits_Num⟩
theorem h_digits_Num : Holds Tryd.prog glob 8 c_digits_Num := holds_num Tryd.func8 (by kernel_rfl) (by kernel_rfl) num_calls
noncomputable def c_strconv_Itoa : Con := ⟨(.pair (.int .i64) .unit), (.pair .str .unit), P_strconv_Itoa⟩
theorem h_strconv_Itoa : Holds Tryd.prog glob 21 c_strconv_Itoa := holds_itoa Tryd.func21 (by kernel_rfl) (by kernel_rfl) glob_tab itoa_calls
noncomputable def c_digits_Dec : Con := ⟨(.pair (.int .i64) .unit), (.pair .str .unit), P_digits_Dec⟩
theorem h_digits_Dec : Holds Tryd.prog glob 10 c_digits_Dec := holds_at (con := [(21, c_strconv_Itoa)]) (rcon := []) ((con_cons h_strconv_Itoa con_nil)) (rcon_nil) (fn := Tryd.f10) rfl (by kernel_rfl) (fun x => by kernel_rfl)
noncomputable def c_internal_stringslite_IndexByte : Con := ⟨(.pair .str (.pair (.int .u8) .unit)), (.pair (.int .i64) .unit), P_internal_stringslite_IndexByte⟩
theorem h_internal_stringslite_IndexByte : Holds Tryd.prog glob 31 c_internal_stringslite_IndexByte := holds_str_u8 (spec := fun s c => Lib.indexByte s (show Int from c).toNat.toUInt8) Tryd.func31 (by kernel_rfl) (by kernel_rfl) (fun s c => indexByte_range _ s) (fun s c w => by
  go_enter Tryd.func31, Tryd.ntmps31
  go_wp2
  rw [run_callFunc_extern Tryd.func39 (by kernel_rfl) (by kernel_rfl) (by kernel_rfl) (e := Extern.BytealgIndexByte.indexByte) (by kernel_rfl), Lib.run_indexByteString]
  simp only [Result.andThen]
  rw [Oper.upon_value]
  go_wp2
  go_ret
  exact ⟨rfl, rfl⟩)
noncomputable def c_strings_IndexByte : Con := ⟨(.pair .str (.pair (.int .u8) .unit)), (.pair (.int .i64) .unit), P_strings_IndexByte⟩
theorem h_strings_IndexByte : Holds Tryd.prog glob 23 c_strings_IndexByte := holds_at (con := [(31, c_internal_stringslite_IndexByte)]) (rcon := []) ((con_cons h_internal_stringslite_IndexByte con_nil)) (rcon_nil) (fn := Tryd.f23) rfl (by kernel_rfl) (fun x => by kernel_rfl)
noncomputable def c_digits_Unhex : Con := ⟨(.pair .str .unit), (.pair .str (.pair .bool .unit)), P_digits_Unhex⟩
theorem h_digits_Unhex : Holds Tryd.prog glob 12 c_digits_Unhex := holds_at (con := [(23, c_strings_IndexByte)]) (rcon := []) ((con_cons h_strings_IndexByte con_nil)) (rcon_nil) (fn := Tryd.f12) rfl (by kernel_rfl) (fun x => by kernel_rfl)
noncomputable def c_digits_Hex : Con := ⟨(.pair .str .unit), (.pair .str .unit), P_digits_Hex⟩
theorem h_digits_Hex : Holds Tryd.prog glob 14 c_digits_Hex := holds_at (con := []) (rcon := []) (con_nil) (rcon_nil) (fn := Tryd.f14) rfl (by kernel_rfl) (fun x => by kernel_rfl)
noncomputable def c_digits_Octal : Con := ⟨(.pair (.int .i64) (.pair (.int .i64) .unit)), (.pair .str (.pair .bool .unit)), P_digits_Octal⟩
theorem h_digits_Octal : Holds Tryd.prog glob 16 c_digits_Octal := holds_at (con := []) (rcon := []) (con_nil) (rcon_nil) (fn := Tryd.f16) rfl (by kernel_rfl) (fun x => by kernel_rfl)
noncomputable def c_law01_awake : Con := ⟨.unit, (.pair .bool .unit), P_law01_awake⟩
theorem h_law01_awake : Holds Tryd.prog glob 7 c_law01_awake := holds_at (con := [(8, c_digits_Num), (10, c_digits_Dec), (12, c_digits_Unhex), (14, c_digits_Hex), (16, c_digits_Octal)]) (rcon := []) ((con_cons h_digits_Num (con_cons h_digits_Dec (con_cons h_digits_Unhex (con_cons h_digits_Hex (con_cons h_digits_Octal con_nil)))))) (rcon_nil) (fn := Tryd.f7) rfl (by kernel_rfl) (fun x => by kernel_rfl)
noncomputable def c_ref01_below : Con := ⟨(.pair (.int .i64) .unit), (.pair .str .unit), P_ref01_below⟩
theorem hF_ref01_below (rec : ((.pair (.int .i64) .unit) : Ty).den → Option ((.pair .str .unit) : Ty).den) (hrec : Holds Tryd.prog glob 22 ⟨(.pair (.int .i64) .unit), (.pair .str .unit), rec⟩) : Holds Tryd.prog glob 22 ⟨(.pair (.int .i64) .unit), (.pair .str .unit), F_ref01_below rec⟩ := holds_at (con := [(22, ⟨(.pair (.int .i64) .unit), (.pair .str .unit), rec⟩)]) (rcon := []) (con_cons hrec con_nil) (rcon_nil) (fn := Tryd.f22) rfl (by kernel_rfl) (fun x => by kernel_rfl)
theorem h_ref01_below : Holds Tryd.prog glob 22 c_ref01_below := holds_rec Tryd.func22 (by kernel_rfl) (by kernel_rfl) hF_ref01_below S_ref01_below S_ref01_below_zero S_ref01_below_step S_ref01_below_all
noncomputable def c_ref01_Dec : Con := ⟨(.pair (.int .i64) .unit), (.pair .str .unit), P_ref01_Dec⟩
theorem h_ref01_Dec : Holds Tryd.prog glob 11 c_ref01_Dec := holds_at (con := [(22, c_ref01_below)]) (rcon := []) ((con_cons h_ref01_below con_nil)) (rcon_nil) (fn := Tryd.f11) rfl (by kernel_rfl) (fun x => by kernel_rfl)
noncomputable def c_ref01_Num : Con := ⟨(.pair .str .unit), (.pair (.int .i64) (.pair .bool .unit)), P_ref01_Num⟩
theorem h_ref01_Num : Holds Tryd.prog glob 9 c_ref01_Num := holds_at (con := [(11, c_ref01_Dec)]) (rcon := []) ((con_cons h_ref01_Dec con_nil)) (rcon_nil) (fn := Tryd.f9) rfl (by kernel_rfl) (fun x => by kernel_rfl)
noncomputable def c_law01_DigitsDec : Con := ⟨(.pair (.int .i64) (.pair .str .unit)), (.pair .bool .unit), P_law01_DigitsDec⟩
theorem h_law01_DigitsDec : Holds Tryd.prog glob 3 c_law01_DigitsDec := holds_at (con := [(7, c_law01_awake), (8, c_digits_Num), (9, c_ref01_Num), (10, c_digits_Dec), (11, c_ref01_Dec)]) (rcon := []) ((con_cons h_law01_awake (con_cons h_digits_Num (con_cons h_ref01_Num (con_cons h_digits_Dec (con_cons h_ref01_Dec con_nil)))))) (rcon_nil) (fn := Tryd.f3) rfl (by kernel_rfl) (fun x => by kernel_rfl)
noncomputable def c_ref01_digit : Con := ⟨(.pair (.int .i64) .unit), (.pair (.int .u8) .unit), P_ref01_digit⟩
theorem h_ref01_digit : Holds Tryd.prog glob 27 c_ref01_digit := holds_at (con := []) (rcon := []) (con_nil) (rcon_nil) (fn := Tryd.f27) rfl (by kernel_rfl) (fun x => by kernel_rfl)
noncomputable def c_ref01_value : Con := ⟨(.pair (.int .u8) .unit), (.pair (.int .i64) .unit), P_ref01_value⟩
theorem h_ref01_value : Holds Tryd.prog glob 24 c_ref01_value := holds_at (con := [(27, c_ref01_digit)]) (rcon := []) ((con_cons h_ref01_digit con_nil)) (rcon_nil) (fn := Tryd.f24) rfl (by kernel_rfl) (fun x => by kernel_rfl)
noncomputable def c_ref01_Unhex : Con := ⟨(.pair .str .unit), (.pair .str (.pair .bool .unit)), P_ref01_Unhex⟩
theorem h_ref01_Unhex : Holds Tryd.prog glob 13 c_ref01_Unhex := holds_at (con := [(24, c_ref01_value)]) (rcon := []) ((con_cons h_ref01_value con_nil)) (rcon_nil) (fn := Tryd.f13) rfl (by kernel_rfl) (fun x => by kernel_rfl)
noncomputable def c_ref01_Hex : Con := ⟨(.pair .str .unit), (.pair .str .unit), P_ref01_Hex⟩
theorem h_ref01_Hex : Holds Tryd.prog glob 15 c_ref01_Hex := holds_at (con := [(27, c_ref01_digit)]) (rcon := []) ((con_cons h_ref01_digit con_nil)) (rcon_nil) (fn := Tryd.f15) rfl (by kernel_rfl) (fun x => by kernel_rfl)
noncomputable def c_law01_DigitsHex : Con := ⟨(.pair .str (.pair .str .unit)), (.pair .bool .unit), P_law01_DigitsHex⟩
theorem h_law01_DigitsHex : Holds Tryd.prog glob 4 c_law01_DigitsHex := holds_at (con := [(7, c_law01_awake), (12, c_digits_Unhex), (13, c_ref01_Unhex), (14, c_digits_Hex), (15, c_ref01_Hex)]) (rcon := []) ((con_cons h_law01_awake (con_cons h_digits_Unhex (con_cons h_ref01_Unhex (con_cons h_digits_Hex (con_cons h_ref01_Hex con_nil)))))) (rcon_nil) (fn := Tryd.f4) rfl (by kernel_rfl) (fun x => by kernel_rfl)
noncomputable def c_ref01_Octal : Con := ⟨(.pair (.int .i64) (.pair (.int .i64) .unit)), (.pair .str (.pair .bool .unit)), P_ref01_Octal⟩
theorem h_ref01_Octal : Holds Tryd.prog glob 17 c_ref01_Octal := holds_at (con := []) (rcon := []) (con_nil) (rcon_nil) (fn := Tryd.f17) rfl (by kernel_rfl) (fun x => by kernel_rfl)
noncomputable def c_digits_FromOctal : Con := ⟨(.pair .str .unit), (.pair (.int .i64) (.pair .bool .unit)), P_digits_FromOctal⟩
theorem h_digits_FromOctal : Holds Tryd.prog glob 18 c_digits_FromOctal := holds_at (con := []) (rcon := []) (con_nil) (rcon_nil) (fn := Tryd.f18) rfl (by kernel_rfl) (fun x => by kernel_rfl)
noncomputable def c_ref01_FromOctal : Con := ⟨(.pair .str .unit), (.pair (.int .i64) (.pair .bool .unit)), P_ref01_FromOctal⟩
theorem h_ref01_FromOctal : Holds Tryd.prog glob 19 c_ref01_FromOctal := holds_at (con := []) (rcon := []) (con_nil) (rcon_nil) (fn := Tryd.f19) rfl (by kernel_rfl) (fun x => by kernel_rfl)
noncomputable def c_law01_DigitsOctal : Con := ⟨(.pair (.int .i64) (.pair (.int .i64) (.pair .str .unit))), (.pair .bool .unit), P_law01_DigitsOctal⟩
theorem h_law01_DigitsOctal : Holds Tryd.prog glob 5 c_law01_DigitsOctal := holds_at (con := [(7, c_law01_awake), (16, c_digits_Octal), (17, c_ref01_Octal), (18, c_digits_FromOctal), (19, c_ref01_FromOctal)]) (rcon := []) ((con_cons h_law01_awake (con_cons h_digits_Octal (con_cons h_ref01_Octal (con_cons h_digits_FromOctal (con_cons h_ref01_FromOctal con_nil)))))) (rcon_nil) (fn := Tryd.f5) rfl (by kernel_rfl) (fun x => by kernel_rfl)
noncomputable def c_law01_DigitsBack : Con := ⟨(.pair (.arr 2 (.int .i64)) (.pair .str (.pair .str .unit))), (.pair .bool .unit), P_law01_DigitsBack⟩
theorem h_law01_DigitsBack : Holds Tryd.prog glob 6 c_law01_DigitsBack := holds_at (con := [(7, c_law01_awake), (8, c_digits_Num), (10, c_digits_Dec), (12, c_digits_Unhex), (14, c_digits_Hex), (16, c_digits_Octal), (18, c_digits_FromOctal)]) (rcon := []) ((con_cons h_law01_awake (con_cons h_digits_Num (con_cons h_digits_Dec (con_cons h_digits_Unhex (con_cons h_digits_Hex (con_cons h_digits_Octal (con_cons h_digits_FromOctal con_nil)))))))) (rcon_nil) (fn := Tryd.f6) rfl (by kernel_rfl) (fun x => by kernel_rfl)
end Go.Proofs.YthndhdegjnjniaaDoor
