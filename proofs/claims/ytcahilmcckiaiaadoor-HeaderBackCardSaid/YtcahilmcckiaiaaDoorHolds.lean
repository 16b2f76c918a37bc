/- The layer's functions keep their contracts: each comes to its plain definition, by the ghost interpreter. -/
import Derived.Test.YtcahilmcckiaiaaDoorRows
import Derived.Test.YtcahilmcckiaiaaDoorGp12
namespace Go.Proofs.YtcahilmcckiaiaaDoor
open Go Go.Ge
set_option linter.unusedVariables false
set_option maxRecDepth 100000

noncomputable def plans : Nat → FPlan
  | 3 => ⟨[none], []⟩
  | 4 => ⟨[none, none, none], []⟩
  | 5 => ⟨[none], []⟩
  | 6 => ⟨[], []⟩
  | 7 => ⟨[none], []⟩
  | 8 => ⟨[none], []⟩
  | 9 => ⟨[none, some ⟨[(4, 9)], [], false⟩, some ⟨[(71, 4)], [], false⟩, some ⟨[], [10], false⟩, some ⟨[], [10], false⟩, some ⟨[], [10], false⟩, none], []⟩
  | 10 => ⟨[], []⟩
  | 11 => ⟨[none, none, none, none], []⟩
  | 12 => ⟨[], []⟩
  | 13 => ⟨[], []⟩
  | 14 => ⟨[], []⟩
  | 15 => ⟨[none, some ⟨[(0, 3), (19, 3)], [6], false⟩, none, none], []⟩
  | 16 => ⟨[some ⟨[(4, 3), (12, 3)], [], false⟩, none, some ⟨[(6, 5)], [], false⟩], []⟩
  | 17 => ⟨[some ⟨[(5, 4)], [], false⟩], []⟩
  | 18 => ⟨[], []⟩
  | 19 => ⟨[], []⟩
  | 20 => ⟨[some ⟨[(3, 3), (4, 3)], [], false⟩, none, some ⟨[(3, 3)], [], false⟩], []⟩
  | 21 => ⟨[], []⟩
  | 22 => ⟨[none], []⟩
  | 23 => ⟨[], []⟩
  | 24 => ⟨[none, none, none], []⟩
  | 25 => ⟨[], []⟩
  | 26 => ⟨[], []⟩
  | 27 => ⟨[some ⟨[(4, 4), (5, 3)], [], false⟩, none, none], []⟩
  | 28 => ⟨[], []⟩
  | 29 => ⟨[none, some ⟨[(0, 3), (6, 9), (7, 3)], [], false⟩, none, none], []⟩
  | 30 => ⟨[none, none, none], []⟩
  | 31 => ⟨[none, some ⟨[(2, 3), (3, 4), (4, 3), (18, 3)], [], false⟩, none, none], []⟩
  | 32 => ⟨[], []⟩
  | 33 => ⟨[some ⟨[(0, 9)], [], false⟩, none], []⟩
  | 34 => ⟨[some ⟨[(0, 9)], [], false⟩, none], []⟩
  | 35 => ⟨[some ⟨[(3, 4), (4, 3)], [2], false⟩, none, none], []⟩
  | 36 => ⟨[some ⟨[(0, 9)], [1], false⟩, none, none], []⟩
  | 37 => ⟨[some ⟨[(0, 9)], [1], false⟩, none, none], []⟩
  | 41 => ⟨[], []⟩
  | _ => ⟨[], []⟩

def objs : List (Nat × List OFld) := []
def els : List (Nat × Nat) := []
def spc : List (Nat × Spc) := []
noncomputable def tys : List (Nat × Ty) := [(3, (.int .i64)), (4, .bool), (5, (.int .u8)), (9, .str), (21, (.int .i32)), (23, (.pair .str (.pair (.int .i64) (.pair (.int .i64) (.pair (.int .i64) (.pair (.int .i64) (.pair (.int .i64) (.pair (.int .i64) (.pair .str .unit))))))))), (25, (.int .i64)), (29, (.int .u16)), (33, (.slice (.int .u8))), (36, (.arr 512 (.int .u8))), (38, (.pair (.int .i64) (.pair (.int .i64) .unit))), (39, (.arr 11 (.pair (.int .i64) (.pair (.int .i64) .unit)))), (48, (.arr 4 .str)), (54, (.arr 21 (.int .u8))), (61, (.arr 256 .bool)), (71, (.arr 256 (.int .u8))), (73, (.pair (.int .u8) (.pair (.int .u8) .unit))), (74, (.arr 16 (.pair (.int .u8) (.pair (.int .u8) .unit))))]
noncomputable def funs : List (Nat × Func) := [(3, Tryd.f3), (4, Tryd.f4), (5, Tryd.f5), (6, Tryd.f6), (7, Tryd.f7), (8, Tryd.f8), (9, Tryd.f9), (10, Tryd.f10), (11, Tryd.f11), (12, Tryd.f12), (13, Tryd.f13), (14, Tryd.f14), (15, Tryd.f15), (16, Tryd.f16), (17, Tryd.f17), (18, Tryd.f18), (19, Tryd.f19), (20, Tryd.f20), (21, Tryd.f21), (22, Tryd.f22), (23, Tryd.f23), (24, Tryd.f24), (25, Tryd.f25), (26, Tryd.f26), (27, Tryd.f27), (28, Tryd.f28), (29, Tryd.f29), (30, Tryd.f30), (31, Tryd.f31), (32, Tryd.f32), (33, Tryd.f33), (34, Tryd.f34), (35, Tryd.f35), (36, Tryd.f36), (37, Tryd.f37), (41, Tryd.f41)]
def ones : List Nat := [41, 44, 65]
def ptrs : List Nat := [65]
noncomputable def cxOf (con : List (Nat × Con)) (rcon : List (Nat × RCon)) : Ctx := ⟨tys, ones, ptrs, funs, con, rcon, objs, spc, els⟩

theorem spc_ok : ∀ p ∈ spc, SpcOk Tryd.prog p.1 p.2 :=  spc_nil
theorem mix : Tryd.prog.follows .mixedOrders = true := by kernel_rfl

theorem T_ok : ∀ tid t, find tys tid = some t → Den Tryd.prog t tid := tys_ok (by kernel_rfl)
theorem ones_ok : ∀ tid, memN ones tid = true → (∀ w, (isAgg tid).run Tryd.prog w = .ok false w) ∧ (∀ w, (Go.sizeOf tid).run Tryd.prog w = .ok 1 w) ∧ ∃ z, (∀ w, (zeroValue tid).run Tryd.prog w = .ok z w) ∧ z.oneCell' = true := ones_of (by kernel_rfl)
theorem ptrs_ok : ∀ tid, memN ptrs tid = true → ∃ e, Tryd.prog.underlying tid = some (.pointer e) := ptrs_of (by kernel_rfl)
theorem fns_ok : ∀ f fn, find funs f = some fn → Tryd.prog.funcs[f]? = some fn := fns_of ((fns_cons Tryd.func3 (fns_cons Tryd.func4 (fns_cons Tryd.func5 (fns_cons Tryd.func6 (fns_cons Tryd.func7 (fns_cons Tryd.func8 (fns_cons Tryd.func9 (fns_cons Tryd.func10 (fns_cons Tryd.func11 (fns_cons Tryd.func12 (fns_cons Tryd.func13 (fns_cons Tryd.func14 (fns_cons Tryd.func15 (fns_cons Tryd.func16 (fns_cons Tryd.func17 (fns_cons Tryd.func18 (fns_cons Tryd.func19 (fns_cons Tryd.func20 (fns_cons Tryd.func21 (fns_cons Tryd.func22 (fns_cons Tryd.func23 (fns_cons Tryd.func24 (fns_cons Tryd.func25 (fns_cons Tryd.func26 (fns_cons Tryd.func27 (fns_cons Tryd.func28 (fns_cons Tryd.func29 (fns_cons Tryd.func30 (fns_cons Tryd.func31 (fns_cons Tryd.func32 (fns_cons Tryd.func33 (fns_cons Tryd.func34 (fns_cons Tryd.func35 (fns_cons Tryd.func36 (fns_cons Tryd.func37 (fns_cons Tryd.func41 fns_nil)))))))))))))))))))))))))))))))))))))
theorem objs_ok : ∀ tid fs, find objs tid = some fs → objB Tryd.prog tid fs = true := objs_of (by kernel_rfl)
theorem els_ok : ∀ tid e, find els tid = some e → Tryd.prog.underlying tid = some (.slice e) := els_of (by kernel_rfl)
theorem cx_ok (con : List (Nat × Con)) (rcon : List (Nat × RCon)) : CxOk Tryd.prog (cxOf con rcon) := ⟨T_ok, ones_ok, ptrs_ok, fns_ok, objs_ok, els_ok⟩
theorem funs_ok (con : List (Nat × Con)) (rcon : List (Nat × RCon)) : FnsOk (cxOf con rcon) := fnsOk_of (cx := cxOf con rcon) (show (funs.all fun p => fnOk p.2) = true by kernel_rfl)

theorem holds_at {con : List (Nat × Con)} {rcon : List (Nat × RCon)} (hcon : ∀ p ∈ con, Holds Tryd.prog p.1 p.2) (hrcon : ∀ p ∈ rcon, RHolds Tryd.prog p.1 p.2) {f : Nat} {fn : Func} {A R : Ty} {spec : A.den → Option R.den} (hfn : find funs f = some fn) (hb : fn.body.isSome = true)
    (hs : ∀ x, sem (cxOf con rcon) 12 plans f A R x = spec x) : Holds Tryd.prog f ⟨A, R, spec⟩ := by
  obtain ⟨code, hcode⟩ := Option.isSome_iff_exists.1 hb
  exact holds_of_sem mix (cx_ok con rcon) (conOk_of hcon hrcon spc_ok) (funs_ok con rcon) (f := f) hfn hcode (fun x y h => by rw [hs]; exact h)

theorem rholds_at {con : List (Nat × Con)} {rcon : List (Nat × RCon)} (hcon : ∀ p ∈ con, Holds Tryd.prog p.1 p.2) (hrcon : ∀ p ∈ rcon, RHolds Tryd.prog p.1 p.2) {f : Nat} {fn : Func} {ps : List Bool} {A U R : Ty} {spec : A.den × U.den → Option (R.den × U.den)} (hfn : find funs f = some fn) (hb : fn.body.isSome = true)
    (hs : ∀ x, semR (cxOf con rcon) 12 plans f ps A U R x = spec x) : RHolds Tryd.prog f ⟨ps, A, U, R, spec⟩ := by
  obtain ⟨code, hcode⟩ := Option.isSome_iff_exists.1 hb
  exact rholds_of_sem mix (cx_ok con rcon) (conOk_of hcon hrcon spc_ok) (funs_ok con rcon) (f := f) hfn hcode (fun x y h => by rw [hs]; exact h)

noncomputable def c_header_in : Con := ⟨(.pair (.int .i64) (.pair (.int .i64) .unit)), (.pair .bool .unit), P_header_in⟩
theorem h_header_in : Holds Tryd.prog 25 c_header_in := holds_at (con := []) (rcon := []) (con_nil) (rcon_nil) (fn := Tryd.f25) rfl (by kernel_rfl) (fun x => by kernel_rfl)
noncomputable def c_internal_stringslite_IndexByte : Con := ⟨(.pair .str (.pair (.int .u8) .unit)), (.pair (.int .i64) .unit), P_internal_stringslite_IndexByte⟩
theorem h_internal_stringslite_IndexByte : Holds Tryd.prog 40 c_internal_stringslite_IndexByte := holds_str_u8 (spec := fun s c => Lib.indexByte s (show Int from c).toNat.toUInt8) Tryd.func40 (by kernel_rfl) (by kernel_rfl) (fun s c => indexByte_range _ s) (fun s c w => by
  go_enter Tryd.func40, Tryd.ntmps40
  go_wp2
  rw [run_callFunc_extern Tryd.func45 (by kernel_rfl) (by kernel_rfl) (by kernel_rfl) (e := Extern.BytealgIndexByte.indexByte) (by kernel_rfl), Lib.run_indexByteString]
  simp only [Result.andThen]
  rw [Oper.upon_value]
  go_wp2
  go_ret
  exact ⟨rfl, rfl⟩)
noncomputable def c_strings_IndexByte : Con := ⟨(.pair .str (.pair (.int .u8) .unit)), (.pair (.int .i64) .unit), P_strings_IndexByte⟩
theorem h_strings_IndexByte : Holds Tryd.prog 32 c_strings_IndexByte := holds_at (con := [(40, c_internal_stringslite_IndexByte)]) (rcon := []) ((con_cons h_internal_stringslite_IndexByte con_nil)) (rcon_nil) (fn := Tryd.f32) rfl (by kernel_rfl) (fun x => by kernel_rfl)
noncomputable def c_header_clear : Con := ⟨(.pair .str (.pair (.int .i64) .unit)), (.pair .bool .unit), P_header_clear⟩
theorem h_header_clear : Holds Tryd.prog 26 c_header_clear := holds_at (con := [(32, c_strings_IndexByte)]) (rcon := []) ((con_cons h_strings_IndexByte con_nil)) (rcon_nil) (fn := Tryd.f26) rfl (by kernel_rfl) (fun x => by kernel_rfl)
noncomputable def c_header_is : Con := ⟨(.pair (.pair .str (.pair (.int .i64) (.pair (.int .i64) (.pair (.int .i64) (.pair (.int .i64) (.pair (.int .i64) (.pair (.int .i64) (.pair .str .unit)))))))) (.pair (.int .i64) .unit)), (.pair .bool .unit), P_header_is⟩
theorem h_header_is : Holds Tryd.prog 11 c_header_is := holds_at (con := [(25, c_header_in), (26, c_header_clear)]) (rcon := []) ((con_cons h_header_in (con_cons h_header_clear con_nil))) (rcon_nil) (fn := Tryd.f11) rfl (by kernel_rfl) (fun x => by kernel_rfl)
noncomputable def c_header_fields : Con := ⟨.unit, (.pair (.arr 11 (.pair (.int .i64) (.pair (.int .i64) .unit))) .unit), P_header_fields⟩
theorem h_header_fields : Holds Tryd.prog 12 c_header_fields := holds_at (con := []) (rcon := []) (con_nil) (rcon_nil) (fn := Tryd.f12) rfl (by kernel_rfl) (fun x => by kernel_rfl)
noncomputable def c_digits_Octal : Con := ⟨(.pair (.int .i64) (.pair (.int .i64) .unit)), (.pair .str (.pair .bool .unit)), P_digits_Octal⟩
theorem h_digits_Octal : Holds Tryd.prog 15 c_digits_Octal := holds_at (con := []) (rcon := []) (con_nil) (rcon_nil) (fn := Tryd.f15) rfl (by kernel_rfl) (fun x => by kernel_rfl)
noncomputable def c_header_Sum : Con := ⟨(.pair .str .unit), (.pair (.int .i64) .unit), P_header_Sum⟩
theorem h_header_Sum : Holds Tryd.prog 16 c_header_Sum := holds_at (con := [(12, c_header_fields)]) (rcon := []) ((con_cons h_header_fields con_nil)) (rcon_nil) (fn := Tryd.f16) rfl (by kernel_rfl) (fun x => by kernel_rfl)
noncomputable def c_header_Put : Con := ⟨(.pair (.pair .str (.pair (.int .i64) (.pair (.int .i64) (.pair (.int .i64) (.pair (.int .i64) (.pair (.int .i64) (.pair (.int .i64) (.pair .str .unit)))))))) .unit), (.pair .str (.pair (.int .i64) .unit)), P_header_Put⟩
theorem h_header_Put : Holds Tryd.prog 7 c_header_Put := holds_at (con := [(11, c_header_is), (12, c_header_fields), (15, c_digits_Octal), (16, c_header_Sum)]) (rcon := []) ((con_cons h_header_is (con_cons h_header_fields (con_cons h_digits_Octal (con_cons h_header_Sum con_nil))))) (rcon_nil) (fn := Tryd.f7) rfl (by kernel_rfl) (fun x => by kernel_rfl)
noncomputable def c_header_of : Con := ⟨(.pair .str (.pair (.int .i64) .unit)), (.pair .str .unit), P_header_of⟩
theorem h_header_of : Holds Tryd.prog 21 c_header_of := holds_at (con := [(12, c_header_fields)]) (rcon := []) ((con_cons h_header_fields con_nil)) (rcon_nil) (fn := Tryd.f21) rfl (by kernel_rfl) (fun x => by kernel_rfl)
noncomputable def c_strings_trimRightByte : Con := ⟨(.pair .str (.pair (.int .u8) .unit)), (.pair .str .unit), P_strings_trimRightByte⟩
theorem h_strings_trimRightByte : Holds Tryd.prog 34 c_strings_trimRightByte := holds_at (con := []) (rcon := []) (con_nil) (rcon_nil) (fn := Tryd.f34) rfl (by kernel_rfl) (fun x => by kernel_rfl)
noncomputable def c_strings_makeASCIISet : Con := ⟨(.pair .str .unit), (.pair (.arr 256 .bool) (.pair .bool .unit)), P_strings_makeASCIISet⟩
theorem h_strings_makeASCIISet : Holds Tryd.prog 35 c_strings_makeASCIISet := holds_at (con := []) (rcon := []) (con_nil) (rcon_nil) (fn := Tryd.f35) rfl (by kernel_rfl) (fun x => by kernel_rfl)
noncomputable def c_strings_asciiSet_contains : RCon := ⟨[true, false], (.pair (.int .u8) .unit), (.pair (.arr 256 .bool) .unit), (.pair .bool .unit), P_strings_asciiSet_contains⟩
theorem h_strings_asciiSet_contains : RHolds Tryd.prog 41 c_strings_asciiSet_contains := rholds_at (con := []) (rcon := []) (con_nil) (rcon_nil) (fn := Tryd.f41) rfl (by kernel_rfl) (fun x => by kernel_rfl)
noncomputable def c_strings_trimRightASCII : RCon := ⟨[false, true], (.pair .str .unit), (.pair (.arr 256 .bool) .unit), (.pair .str .unit), P_strings_trimRightASCII⟩
theorem h_strings_trimRightASCII : RHolds Tryd.prog 37 c_strings_trimRightASCII := rholds_at (con := []) (rcon := [(41, c_strings_asciiSet_contains)]) (con_nil) ((rcon_cons h_strings_asciiSet_contains rcon_nil)) (fn := Tryd.f37) rfl (by kernel_rfl) (fun x => by kernel_rfl)
noncomputable def c_strings_TrimRight : Con := ⟨(.pair .str (.pair .str .unit)), (.pair .str .unit), P_strings_TrimRight⟩
theorem h_strings_TrimRight : Holds Tryd.prog 30 c_strings_TrimRight := holds_at (con := [(34, c_strings_trimRightByte), (35, c_strings_makeASCIISet)]) (rcon := [(37, c_strings_trimRightASCII), (41, c_strings_asciiSet_contains)]) ((con_cons h_strings_trimRightByte (con_cons h_strings_makeASCIISet con_nil))) ((rcon_cons h_strings_trimRightASCII (rcon_cons h_strings_asciiSet_contains rcon_nil))) (fn := Tryd.f30) rfl (by kernel_rfl) (fun x => by kernel_rfl)
noncomputable def c_digits_FromOctal : Con := ⟨(.pair .str .unit), (.pair (.int .i64) (.pair .bool .unit)), P_digits_FromOctal⟩
theorem h_digits_FromOctal : Holds Tryd.prog 31 c_digits_FromOctal := holds_at (con := []) (rcon := []) (con_nil) (rcon_nil) (fn := Tryd.f31) rfl (by kernel_rfl) (fun x => by kernel_rfl)
noncomputable def c_header_number : Con := ⟨(.pair .str .unit), (.pair (.int .i64) .unit), P_header_number⟩
theorem h_header_number : Holds Tryd.prog 22 c_header_number := holds_at (con := [(30, c_strings_TrimRight), (31, c_digits_FromOctal)]) (rcon := []) ((con_cons h_strings_TrimRight (con_cons h_digits_FromOctal con_nil))) (rcon_nil) (fn := Tryd.f22) rfl (by kernel_rfl) (fun x => by kernel_rfl)
noncomputable def c_header_text : Con := ⟨(.pair .str .unit), (.pair .str (.pair .bool .unit)), P_header_text⟩
theorem h_header_text : Holds Tryd.prog 23 c_header_text := holds_at (con := [(30, c_strings_TrimRight), (32, c_strings_IndexByte)]) (rcon := []) ((con_cons h_strings_TrimRight (con_cons h_strings_IndexByte con_nil))) (rcon_nil) (fn := Tryd.f23) rfl (by kernel_rfl) (fun x => by kernel_rfl)
noncomputable def c_header_Take : Con := ⟨(.pair .str .unit), (.pair (.pair .str (.pair (.int .i64) (.pair (.int .i64) (.pair (.int .i64) (.pair (.int .i64) (.pair (.int .i64) (.pair (.int .i64) (.pair .str .unit)))))))) (.pair (.int .i64) .unit)), P_header_Take⟩
theorem h_header_Take : Holds Tryd.prog 9 c_header_Take := holds_at (con := [(11, c_header_is), (16, c_header_Sum), (21, c_header_of), (22, c_header_number), (23, c_header_text)]) (rcon := []) ((con_cons h_header_is (con_cons h_header_Sum (con_cons h_header_of (con_cons h_header_number (con_cons h_header_text con_nil)))))) (rcon_nil) (fn := Tryd.f9) rfl (by kernel_rfl) (fun x => by kernel_rfl)
noncomputable def c_strings_trimLeftByte : Con := ⟨(.pair .str (.pair (.int .u8) .unit)), (.pair .str .unit), P_strings_trimLeftByte⟩
theorem h_strings_trimLeftByte : Holds Tryd.prog 33 c_strings_trimLeftByte := holds_at (con := []) (rcon := []) (con_nil) (rcon_nil) (fn := Tryd.f33) rfl (by kernel_rfl) (fun x => by kernel_rfl)
noncomputable def c_strings_trimLeftASCII : RCon := ⟨[false, true], (.pair .str .unit), (.pair (.arr 256 .bool) .unit), (.pair .str .unit), P_strings_trimLeftASCII⟩
theorem h_strings_trimLeftASCII : RHolds Tryd.prog 36 c_strings_trimLeftASCII := rholds_at (con := []) (rcon := [(41, c_strings_asciiSet_contains)]) (con_nil) ((rcon_cons h_strings_asciiSet_contains rcon_nil)) (fn := Tryd.f36) rfl (by kernel_rfl) (fun x => by kernel_rfl)
noncomputable def c_strings_Trim : Con := ⟨(.pair .str (.pair .str .unit)), (.pair .str .unit), P_strings_Trim⟩
theorem h_strings_Trim : Holds Tryd.prog 24 c_strings_Trim := holds_at (con := [(33, c_strings_trimLeftByte), (34, c_strings_trimRightByte), (35, c_strings_makeASCIISet)]) (rcon := [(36, c_strings_trimLeftASCII), (37, c_strings_trimRightASCII), (41, c_strings_asciiSet_contains)]) ((con_cons h_strings_trimLeftByte (con_cons h_strings_trimRightByte (con_cons h_strings_makeASCIISet con_nil)))) ((rcon_cons h_strings_trimLeftASCII (rcon_cons h_strings_trimRightASCII (rcon_cons h_strings_asciiSet_contains rcon_nil)))) (fn := Tryd.f24) rfl (by kernel_rfl) (fun x => by kernel_rfl)
noncomputable def c_header_Zero : Con := ⟨(.pair .str .unit), (.pair .bool .unit), P_header_Zero⟩
theorem h_header_Zero : Holds Tryd.prog 10 c_header_Zero := holds_at (con := [(24, c_strings_Trim)]) (rcon := []) ((con_cons h_strings_Trim con_nil)) (rcon_nil) (fn := Tryd.f10) rfl (by kernel_rfl) (fun x => by kernel_rfl)
noncomputable def c_law12_awake : Con := ⟨.unit, (.pair .bool .unit), P_law12_awake⟩
theorem h_law12_awake : Holds Tryd.prog 6 c_law12_awake := holds_at (con := [(7, c_header_Put), (9, c_header_Take), (10, c_header_Zero)]) (rcon := []) ((con_cons h_header_Put (con_cons h_header_Take (con_cons h_header_Zero con_nil)))) (rcon_nil) (fn := Tryd.f6) rfl (by kernel_rfl) (fun x => by kernel_rfl)
noncomputable def c_ref12_clear : Con := ⟨(.pair .str (.pair (.int .i64) .unit)), (.pair .bool .unit), P_ref12_clear⟩
theorem h_ref12_clear : Holds Tryd.prog 27 c_ref12_clear := holds_at (con := []) (rcon := []) (con_nil) (rcon_nil) (fn := Tryd.f27) rfl (by kernel_rfl) (fun x => by kernel_rfl)
noncomputable def c_ref12_in : Con := ⟨(.pair (.int .i64) (.pair (.int .i64) .unit)), (.pair .bool .unit), P_ref12_in⟩
theorem h_ref12_in : Holds Tryd.prog 28 c_ref12_in := holds_at (con := []) (rcon := []) (con_nil) (rcon_nil) (fn := Tryd.f28) rfl (by kernel_rfl) (fun x => by kernel_rfl)
noncomputable def c_ref12_may : Con := ⟨(.pair (.pair .str (.pair (.int .i64) (.pair (.int .i64) (.pair (.int .i64) (.pair (.int .i64) (.pair (.int .i64) (.pair (.int .i64) (.pair .str .unit)))))))) (.pair (.int .i64) .unit)), (.pair .bool .unit), P_ref12_may⟩
theorem h_ref12_may : Holds Tryd.prog 17 c_ref12_may := holds_at (con := [(27, c_ref12_clear), (28, c_ref12_in)]) (rcon := []) ((con_cons h_ref12_clear (con_cons h_ref12_in con_nil))) (rcon_nil) (fn := Tryd.f17) rfl (by kernel_rfl) (fun x => by kernel_rfl)
noncomputable def c_ref12_put : Con := ⟨(.pair .str (.pair (.int .i64) (.pair .str .unit))), (.pair .str .unit), P_ref12_put⟩
theorem h_ref12_put : Holds Tryd.prog 18 c_ref12_put := holds_at (con := []) (rcon := []) (con_nil) (rcon_nil) (fn := Tryd.f18) rfl (by kernel_rfl) (fun x => by kernel_rfl)
noncomputable def c_ref01_Octal : Con := ⟨(.pair (.int .i64) (.pair (.int .i64) .unit)), (.pair .str (.pair .bool .unit)), P_ref01_Octal⟩
theorem h_ref01_Octal : Holds Tryd.prog 29 c_ref01_Octal := holds_at (con := []) (rcon := []) (con_nil) (rcon_nil) (fn := Tryd.f29) rfl (by kernel_rfl) (fun x => by kernel_rfl)
noncomputable def c_ref12_octal : Con := ⟨(.pair (.int .i64) (.pair (.int .i64) .unit)), (.pair .str .unit), P_ref12_octal⟩
theorem h_ref12_octal : Holds Tryd.prog 19 c_ref12_octal := holds_at (con := [(29, c_ref01_Octal)]) (rcon := []) ((con_cons h_ref01_Octal con_nil)) (rcon_nil) (fn := Tryd.f19) rfl (by kernel_rfl) (fun x => by kernel_rfl)
noncomputable def c_ref12_Sum : Con := ⟨(.pair .str .unit), (.pair (.int .i64) .unit), P_ref12_Sum⟩
theorem h_ref12_Sum : Holds Tryd.prog 20 c_ref12_Sum := holds_at (con := []) (rcon := []) (con_nil) (rcon_nil) (fn := Tryd.f20) rfl (by kernel_rfl) (fun x => by kernel_rfl)
noncomputable def c_ref12_Put : Con := ⟨(.pair (.pair .str (.pair (.int .i64) (.pair (.int .i64) (.pair (.int .i64) (.pair (.int .i64) (.pair (.int .i64) (.pair (.int .i64) (.pair .str .unit)))))))) .unit), (.pair .str (.pair (.int .i64) .unit)), P_ref12_Put⟩
theorem h_ref12_Put : Holds Tryd.prog 8 c_ref12_Put := holds_at (con := [(17, c_ref12_may), (18, c_ref12_put), (19, c_ref12_octal), (20, c_ref12_Sum)]) (rcon := []) ((con_cons h_ref12_may (con_cons h_ref12_put (con_cons h_ref12_octal (con_cons h_ref12_Sum con_nil))))) (rcon_nil) (fn := Tryd.f8) rfl (by kernel_rfl) (fun x => by kernel_rfl)
noncomputable def c_law12_HeaderPuts : Con := ⟨(.pair (.pair .str (.pair (.int .i64) (.pair (.int .i64) (.pair (.int .i64) (.pair (.int .i64) (.pair (.int .i64) (.pair (.int .i64) (.pair .str .unit)))))))) .unit), (.pair .bool .unit), P_law12_HeaderPuts⟩
theorem h_law12_HeaderPuts : Holds Tryd.prog 3 c_law12_HeaderPuts := holds_at (con := [(6, c_law12_awake), (7, c_header_Put), (8, c_ref12_Put)]) (rcon := []) ((con_cons h_law12_awake (con_cons h_header_Put (con_cons h_ref12_Put con_nil)))) (rcon_nil) (fn := Tryd.f3) rfl (by kernel_rfl) (fun x => by kernel_rfl)
noncomputable def c_law12_HeaderBack : Con := ⟨(.pair (.pair .str (.pair (.int .i64) (.pair (.int .i64) (.pair (.int .i64) (.pair (.int .i64) (.pair (.int .i64) (.pair (.int .i64) (.pair .str .unit)))))))) (.pair (.int .u16) (.pair (.int .u8) .unit))), (.pair .bool .unit), P_law12_HeaderBack⟩
theorem h_law12_HeaderBack : Holds Tryd.prog 4 c_law12_HeaderBack := holds_at (con := [(6, c_law12_awake), (7, c_header_Put), (9, c_header_Take), (10, c_header_Zero)]) (rcon := []) ((con_cons h_law12_awake (con_cons h_header_Put (con_cons h_header_Take (con_cons h_header_Zero con_nil))))) (rcon_nil) (fn := Tryd.f4) rfl (by kernel_rfl) (fun x => by kernel_rfl)
noncomputable def c_law12_HeaderNot : Con := ⟨(.pair .str .unit), (.pair .bool .unit), P_law12_HeaderNot⟩
theorem h_law12_HeaderNot : Holds Tryd.prog 5 c_law12_HeaderNot := holds_at (con := [(6, c_law12_awake), (9, c_header_Take), (10, c_header_Zero)]) (rcon := []) ((con_cons h_law12_awake (con_cons h_header_Take (con_cons h_header_Zero con_nil)))) (rcon_nil) (fn := Tryd.f5) rfl (by kernel_rfl) (fun x => by kernel_rfl)
end Go.Proofs.YtcahilmcckiaiaaDoor
