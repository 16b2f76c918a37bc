/- The layer's functions keep their contracts: each comes to its plain definition, by the ghost interpreter. -/
import Derived.Test.YtlhpaedjpdjcfaaDoorRows
import Derived.Test.YtlhpaedjpdjcfaaDoorGp27R
import Derived.Test.YtlhpaedjpdjcfaaDoorNum
import Derived.Test.YtlhpaedjpdjcfaaDoorShelf
namespace Go.Proofs.YtlhpaedjpdjcfaaDoor
open Go Go.Ge
set_option linter.unusedVariables false
set_option maxRecDepth 100000

noncomputable def plans : Nat → FPlan
  | 3 => ⟨[], []⟩
  | 6 => ⟨[], []⟩
  | 7 => ⟨[], []⟩
  | 8 => ⟨[], []⟩
  | 12 => ⟨[], []⟩
  | 13 => ⟨[some ⟨[], [0], false⟩], []⟩
  | 14 => ⟨[none, none, none, none, none], []⟩
  | 15 => ⟨[none], []⟩
  | 16 => ⟨[none], []⟩
  | 25 => ⟨[], []⟩
  | 26 => ⟨[none], []⟩
  | 31 => ⟨[], []⟩
  | 32 => ⟨[none, none, none], []⟩
  | 33 => ⟨[], []⟩
  | 34 => ⟨[none], []⟩
  | 35 => ⟨[none], []⟩
  | 36 => ⟨[], []⟩
  | 50 => ⟨[none], []⟩
  | 55 => ⟨[none, none, none, none], []⟩
  | 56 => ⟨[], []⟩
  | 57 => ⟨[none], [5]⟩
  | 81 => ⟨[], []⟩
  | 82 => ⟨[some ⟨[(4, 3), (8, 3)], [], false⟩, none, none], []⟩
  | _ => ⟨[], []⟩

def objs : List (Nat × List OFld) := [(75, [.dat .bool, .buf (.pair (.pair (.int .i64) (.pair .str (.pair .str (.pair (.int .i64) (.pair (.int .i64) (.pair (.int .i64) (.pair .str (.pair (.int .i64) (.pair (.int .i64) .unit))))))))) (.pair (.pair (.int .i64) (.pair (.int .i64) (.pair .str (.pair (.slice .str) .unit)))) .unit)) 83, .dat (.int .i64), .dat .bool, .dat .bool, .dat (.pair (.int .i64) (.pair .str (.pair .str (.pair (.int .i64) (.pair (.int .i64) (.pair (.int .i64) (.pair .str (.pair (.int .i64) (.pair (.int .i64) .unit)))))))))]), (59, [.buf (.pair (.int .i64) (.pair .str (.pair .str (.pair (.int .i64) (.pair (.int .i64) (.pair (.int .i64) (.pair .str (.pair (.int .i64) (.pair (.int .i64) .unit))))))))) 41, .buf (.pair (.int .i64) (.pair (.int .i64) (.pair .str (.pair (.slice .str) .unit)))) 38, .dat (.int .i64), .dat (.pair (.int .i64) (.pair .str (.pair .str (.pair (.int .i64) (.pair (.int .i64) (.pair (.int .i64) (.pair .str (.pair (.int .i64) (.pair (.int .i64) .unit))))))))), .dat .bool, .dat .bool])]
def els : List (Nat × Nat) := [(73, 83), (57, 41), (54, 38)]
def spc : List (Nat × Spc) := []
noncomputable def tys : List (Nat × Ty) := [(2, (.int .i64)), (3, (.int .i64)), (4, .bool), (5, (.int .u8)), (9, .str), (25, (.arr 2 (.int .i64))), (27, (.int .i64)), (36, (.slice .str)), (38, (.pair (.int .i64) (.pair (.int .i64) (.pair .str (.pair (.slice .str) .unit))))), (41, (.pair (.int .i64) (.pair .str (.pair .str (.pair (.int .i64) (.pair (.int .i64) (.pair (.int .i64) (.pair .str (.pair (.int .i64) (.pair (.int .i64) .unit)))))))))), (53, (.arr 3 .str)), (54, (.slice (.pair (.int .i64) (.pair (.int .i64) (.pair .str (.pair (.slice .str) .unit)))))), (57, (.slice (.pair (.int .i64) (.pair .str (.pair .str (.pair (.int .i64) (.pair (.int .i64) (.pair (.int .i64) (.pair .str (.pair (.int .i64) (.pair (.int .i64) .unit))))))))))), (67, (.slice (.pair (.int .i64) (.pair (.int .i64) .unit)))), (69, (.pair (.slice (.pair (.int .i64) (.pair (.int .i64) .unit))) (.pair (.int .i64) .unit))), (71, (.pair (.int .i64) (.pair (.int .i64) .unit))), (73, (.slice (.pair (.pair (.int .i64) (.pair .str (.pair .str (.pair (.int .i64) (.pair (.int .i64) (.pair (.int .i64) (.pair .str (.pair (.int .i64) (.pair (.int .i64) .unit))))))))) (.pair (.pair (.int .i64) (.pair (.int .i64) (.pair .str (.pair (.slice .str) .unit)))) .unit)))), (83, (.pair (.pair (.int .i64) (.pair .str (.pair .str (.pair (.int .i64) (.pair (.int .i64) (.pair (.int .i64) (.pair .str (.pair (.int .i64) (.pair (.int .i64) .unit))))))))) (.pair (.pair (.int .i64) (.pair (.int .i64) (.pair .str (.pair (.slice .str) .unit)))) .unit))), (84, (.slice (.pair .str (.pair .bool (.pair .str .unit))))), (86, (.slice (.pair (.int .i64) (.pair .bool (.pair (.pair (.int .i64) (.pair .str (.pair .str (.pair (.int .i64) (.pair (.int .i64) (.pair (.int .i64) (.pair .str (.pair (.int .i64) (.pair (.int .i64) .unit))))))))) .unit))))), (91, (.pair .str (.pair .bool (.pair .str .unit)))), (104, (.pair (.int .i64) (.pair .bool (.pair (.pair (.int .i64) (.pair .str (.pair .str (.pair (.int .i64) (.pair (.int .i64) (.pair (.int .i64) (.pair .str (.pair (.int .i64) (.pair (.int .i64) .unit))))))))) .unit)))), (105, (.slice (.int .i64))), (109, (.slice (.int .i64))), (114, (.slice (.int .u8))), (118, (.slice (.pair (.int .i64) (.pair (.int .i64) (.pair (.int .i64) .unit))))), (139, (.pair (.int .i64) (.pair (.int .i64) (.pair (.int .i64) .unit)))), (141, (.slice (.pair .str (.pair (.int .i64) .unit)))), (143, (.pair (.int .i64) (.pair .bool (.pair (.int .i64) (.pair (.int .i64) (.pair .str (.pair (.slice (.pair .str (.pair (.int .i64) .unit))) .unit))))))), (146, (.pair .str (.pair (.int .i64) .unit))), (149, (.slice (.pair (.int .i64) (.pair .bool (.pair (.int .i64) (.pair (.int .i64) (.pair .str (.pair (.slice (.pair .str (.pair (.int .i64) .unit))) .unit)))))))), (151, (.pair (.int .i64) (.pair (.int .i64) (.pair (.slice (.pair (.int .i64) (.pair .bool (.pair (.int .i64) (.pair (.int .i64) (.pair .str (.pair (.slice (.pair .str (.pair (.int .i64) .unit))) .unit))))))) .unit)))), (166, (.arr 24 (.int .u8))), (167, (.int .u64)), (176, (.arr 20 (.int .u64))), (177, (.int .u32)), (178, (.arr 65 (.int .u8))), (180, (.int .u64)), (183, (.arr 32 (.int .u8))), (184, (.arr 64 (.int .u8)))]
noncomputable def funs : List (Nat × Func) := [(3, Tryd.f3), (6, Tryd.f6), (7, Tryd.f7), (8, Tryd.f8), (12, Tryd.f12), (13, Tryd.f13), (14, Tryd.f14), (15, Tryd.f15), (16, Tryd.f16), (25, Tryd.f25), (26, Tryd.f26), (31, Tryd.f31), (32, Tryd.f32), (33, Tryd.f33), (34, Tryd.f34), (35, Tryd.f35), (36, Tryd.f36), (50, Tryd.f50), (55, Tryd.f55), (56, Tryd.f56), (57, Tryd.f57), (81, Tryd.f81), (82, Tryd.f82)]
def ones : List Nat := [26, 31, 32, 42, 56, 85, 115]
def ptrs : List Nat := [26, 31, 32, 42, 56, 85, 115]
noncomputable def cxOf (con : List (Nat × Con)) (rcon : List (Nat × RCon)) : Ctx := ⟨tys, ones, ptrs, funs, con, rcon, objs, spc, els⟩

theorem spc_ok : ∀ p ∈ spc, SpcOk Tryd.prog p.1 p.2 :=  spc_nil
theorem mix : Tryd.prog.follows .mixedOrders = true := by kernel_rfl

theorem T_ok : ∀ tid t, find tys tid = some t → Den Tryd.prog t tid := tys_ok (by kernel_rfl)
theorem ones_ok : ∀ tid, memN ones tid = true → (∀ w, (isAgg tid).run Tryd.prog w = .ok false w) ∧ (∀ w, (Go.sizeOf tid).run Tryd.prog w = .ok 1 w) ∧ ∃ z, (∀ w, (zeroValue tid).run Tryd.prog w = .ok z w) ∧ z.oneCell' = true := ones_of (by kernel_rfl)
theorem ptrs_ok : ∀ tid, memN ptrs tid = true → ∃ e, Tryd.prog.underlying tid = some (.pointer e) := ptrs_of (by kernel_rfl)
theorem fns_ok : ∀ f fn, find funs f = some fn → Tryd.prog.funcs[f]? = some fn := fns_of ((fns_cons Tryd.func3 (fns_cons Tryd.func6 (fns_cons Tryd.func7 (fns_cons Tryd.func8 (fns_cons Tryd.func12 (fns_cons Tryd.func13 (fns_cons Tryd.func14 (fns_cons Tryd.func15 (fns_cons Tryd.func16 (fns_cons Tryd.func25 (fns_cons Tryd.func26 (fns_cons Tryd.func31 (fns_cons Tryd.func32 (fns_cons Tryd.func33 (fns_cons Tryd.func34 (fns_cons Tryd.func35 (fns_cons Tryd.func36 (fns_cons Tryd.func50 (fns_cons Tryd.func55 (fns_cons Tryd.func56 (fns_cons Tryd.func57 (fns_cons Tryd.func81 (fns_cons Tryd.func82 fns_nil))))))))))))))))))))))))
theorem objs_ok : ∀ tid fs, find objs tid = some fs → objB Tryd.prog tid fs = true := objs_of (by kernel_rfl)
theorem els_ok : ∀ tid e, find els tid = some e → Tryd.prog.underlying tid = some (.slice e) := els_of (by kernel_rfl)
theorem cx_ok (con : List (Nat × Con)) (rcon : List (Nat × RCon)) : CxOk Tryd.prog (cxOf con rcon) := ⟨T_ok, ones_ok, ptrs_ok, fns_ok, objs_ok, els_ok⟩
theorem funs_ok (con : List (Nat × Con)) (rcon : List (Nat × RCon)) : FnsOk (cxOf con rcon) := fnsOk_of (cx := cxOf con rcon) (show (funs.all fun p => fnOk p.2) = true by kernel_rfl)

theorem holds_at {con : List (Nat × Con)} {rcon : List (Nat × RCon)} (hcon : ∀ p ∈ con, Holds Tryd.prog glob p.1 p.2) (hrcon : ∀ p ∈ rcon, RHolds Tryd.prog glob p.1 p.2) {f : Nat} {fn : Func} {A R : Ty} {spec : A.den → Option R.den} (hfn : find funs f = some fn) (hb : fn.body.isSome = true)
    (hs : ∀ x, sem (cxOf con rcon) 12 plans f A R x = spec x) : Holds Tryd.prog glob f ⟨A, R, spec⟩ := by
  obtain ⟨code, hcode⟩ := Option.isSome_iff_exists.1 hb
  exact holds_of_sem mix (cx_ok con rcon) (conOk_of hcon hrcon spc_ok) (funs_ok con rcon) (f := f) hfn hcode (fun x y h => by rw [hs]; exact h)

theorem rholds_at {con : List (Nat × Con)} {rcon : List (Nat × RCon)} (hcon : ∀ p ∈ con, Holds Tryd.prog glob p.1 p.2) (hrcon : ∀ p ∈ rcon, RHolds Tryd.prog glob p.1 p.2) {f : Nat} {fn : Func} {ps : List Bool} {A U R : Ty} {spec : A.den × U.den → Option (R.den × U.den)} (hfn : find funs f = some fn) (hb : fn.body.isSome = true)
    (hs : ∀ x, semR (cxOf con rcon) 12 plans f ps A U R x = spec x) : RHolds Tryd.prog glob f ⟨ps, A, U, R, spec⟩ := by
  obtain ⟨code, hcode⟩ := Option.isSome_iff_exists.1 hb
  exact rholds_of_sem mix (cx_ok con rcon) (conOk_of hcon hrcon spc_ok) (funs_ok con rcon) (f := f) hfn hcode (fun x y h => by rw [hs]; exact h)

noncomputable def c_strconv_Itoa : Con := ⟨(.pair (.int .i64) .unit), (.pair .str .unit), P_strconv_Itoa⟩
theorem h_strconv_Itoa : Holds Tryd.prog glob 49 c_strconv_Itoa := holds_itoa Tryd.func49 (by kernel_rfl) (by kernel_rfl) glob_tab itoa_calls
noncomputable def c_digits_Dec : Con := ⟨(.pair (.int .i64) .unit), (.pair .str .unit), P_digits_Dec⟩
theorem h_digits_Dec : Holds Tryd.prog glob 25 c_digits_Dec := holds_at (con := [(49, c_strconv_Itoa)]) (rcon := []) ((con_cons h_strconv_Itoa con_nil)) (rcon_nil) (fn := Tryd.f25) rfl (by kernel_rfl) (fun x => by kernel_rfl)
noncomputable def c_swap_Temp : Con := ⟨(.pair (.int .i64) (.pair (.int .i64) (.pair .str .unit))), (.pair .str .unit), P_swap_Temp⟩
theorem h_swap_Temp : Holds Tryd.prog glob 6 c_swap_Temp := holds_at (con := [(25, c_digits_Dec)]) (rcon := []) ((con_cons h_digits_Dec con_nil)) (rcon_nil) (fn := Tryd.f6) rfl (by kernel_rfl) (fun x => by kernel_rfl)
noncomputable def c_ref01_below : Con := ⟨(.pair (.int .i64) .unit), (.pair .str .unit), P_ref01_below⟩
theorem hF_ref01_below (rec : ((.pair (.int .i64) .unit) : Ty).den → Option ((.pair .str .unit) : Ty).den) (hrec : Holds Tryd.prog glob 50 ⟨(.pair (.int .i64) .unit), (.pair .str .unit), rec⟩) : Holds Tryd.prog glob 50 ⟨(.pair (.int .i64) .unit), (.pair .str .unit), F_ref01_below rec⟩ := holds_at (con := [(50, ⟨(.pair (.int .i64) .unit), (.pair .str .unit), rec⟩)]) (rcon := []) (con_cons hrec con_nil) (rcon_nil) (fn := Tryd.f50) rfl (by kernel_rfl) (fun x => by kernel_rfl)
theorem h_ref01_below : Holds Tryd.prog glob 50 c_ref01_below := holds_rec Tryd.func50 (by kernel_rfl) (by kernel_rfl) hF_ref01_below S_ref01_below S_ref01_below_zero S_ref01_below_step S_ref01_below_all
noncomputable def c_ref01_Dec : Con := ⟨(.pair (.int .i64) .unit), (.pair .str .unit), P_ref01_Dec⟩
theorem h_ref01_Dec : Holds Tryd.prog glob 26 c_ref01_Dec := holds_at (con := [(50, c_ref01_below)]) (rcon := []) ((con_cons h_ref01_below con_nil)) (rcon_nil) (fn := Tryd.f26) rfl (by kernel_rfl) (fun x => by kernel_rfl)
noncomputable def c_ref27_Temp : Con := ⟨(.pair (.int .i64) (.pair (.int .i64) (.pair .str .unit))), (.pair .str .unit), P_ref27_Temp⟩
theorem h_ref27_Temp : Holds Tryd.prog glob 7 c_ref27_Temp := holds_at (con := [(26, c_ref01_Dec)]) (rcon := []) ((con_cons h_ref01_Dec con_nil)) (rcon_nil) (fn := Tryd.f7) rfl (by kernel_rfl) (fun x => by kernel_rfl)
noncomputable def c_slices_Clone_string_string : Con := ⟨(.pair (.slice .str) .unit), (.pair (.slice .str) .unit), P_slices_Clone_string_string⟩
theorem h_slices_Clone_string_string : Holds Tryd.prog glob 57 c_slices_Clone_string_string := by
  refine clone_holds (P := Tryd.prog) (cx := cxOf [] []) (bf := [5]) (e := .str) (tid := 36) (fn := Tryd.f57) (s0 := fun l => (argSt (fun _ => none) [.data (.slice .str) l]).put 2 (.data (.slice .str) ([] : List (.str : Ty).den))) mix (cx_ok [] []) (conOk_of con_nil rcon_nil spc_ok) Tryd.func57 (by kernel_rfl)
    (by rfl) rfl (by decide) (by decide) rfl rfl rfl rfl rfl rfl (fun l => by rfl) (fun l => rfl) (fun l => rfl) (fun l => rfl) (fun l => by rfl) (fun l hl => ?_)
  have key : ∀ m : List (.str : Ty).den, fits (len m) = true → sel (fits (plus (len ([] : List (.str : Ty).den)) (len m))) (some ((app [] m, ()) : (Ty.pair (.slice .str) .unit).den)) none = some (m, ()) := by
    intro m hm
    have e : plus (len ([] : List (.str : Ty).den)) (len m) = len m := by simp [plus, len]
    rw [e, hm]
    rfl
  exact Eq.trans (b := sel (fits (plus (len ([] : List (.str : Ty).den)) (len (α := (.str : Ty).den) l))) (some ((app (α := (.str : Ty).den) [] l, ()) : (Ty.pair (.slice .str) .unit).den)) none) (by rfl) (key l hl)
noncomputable def c_steps_answer : Con := ⟨(.pair (.pair (.int .i64) (.pair (.int .i64) (.pair .str (.pair (.slice .str) .unit)))) .unit), (.pair (.pair (.int .i64) (.pair (.int .i64) (.pair .str (.pair (.slice .str) .unit)))) .unit), P_steps_answer⟩
theorem h_steps_answer : Holds Tryd.prog glob 36 c_steps_answer := holds_at (con := [(57, c_slices_Clone_string_string)]) (rcon := []) ((con_cons h_slices_Clone_string_string con_nil)) (rcon_nil) (fn := Tryd.f36) rfl (by kernel_rfl) (fun x => by kernel_rfl)
noncomputable def c_slices_Index_api_Errno_api_Errno : Con := ⟨(.pair (.slice (.int .i64)) (.pair (.int .i64) .unit)), (.pair (.int .i64) .unit), P_slices_Index_api_Errno_api_Errno⟩
theorem h_slices_Index_api_Errno_api_Errno : Holds Tryd.prog glob 82 c_slices_Index_api_Errno_api_Errno := holds_at (con := []) (rcon := []) (con_nil) (rcon_nil) (fn := Tryd.f82) rfl (by kernel_rfl) (fun x => by kernel_rfl)
noncomputable def c_slices_Contains_api_Errno_api_Errno : Con := ⟨(.pair (.slice (.int .i64)) (.pair (.int .i64) .unit)), (.pair .bool .unit), P_slices_Contains_api_Errno_api_Errno⟩
theorem h_slices_Contains_api_Errno_api_Errno : Holds Tryd.prog glob 56 c_slices_Contains_api_Errno_api_Errno := holds_at (con := [(82, c_slices_Index_api_Errno_api_Errno)]) (rcon := []) ((con_cons h_slices_Index_api_Errno_api_Errno con_nil)) (rcon_nil) (fn := Tryd.f56) rfl (by kernel_rfl) (fun x => by kernel_rfl)
noncomputable def c_steps_pause : Con := ⟨.unit, (.pair (.pair (.int .i64) (.pair (.int .i64) (.pair .str (.pair (.slice .str) .unit)))) .unit), P_steps_pause⟩
theorem h_steps_pause : Holds Tryd.prog glob 81 c_steps_pause := holds_at (con := []) (rcon := []) (con_nil) (rcon_nil) (fn := Tryd.f81) rfl (by kernel_rfl) (fun x => by kernel_rfl)
noncomputable def c_law27_awake : Con := ⟨.unit, (.pair .bool .unit), P_law27_awake⟩
theorem h_law27_awake : Holds Tryd.prog glob 8 c_law27_awake := holds_at (con := [(6, ⟨(.pair (.int .i64) (.pair (.int .i64) (.pair .str .unit))), (.pair .str .unit), A_swap_Temp⟩), (36, c_steps_answer), (56, ⟨(.pair (.slice (.int .i64)) (.pair (.int .i64) .unit)), (.pair .bool .unit), A_contains⟩), (81, c_steps_pause)]) (rcon := []) ((con_cons (h_swap_Temp.weaken A_swap_Temp_le) (con_cons h_steps_answer (con_cons (h_slices_Contains_api_Errno_api_Errno.weaken A_contains_le) (con_cons h_steps_pause con_nil))))) (rcon_nil) (fn := Tryd.f8) rfl (by kernel_rfl) (fun x => by kernel_rfl)
noncomputable def c_law27_SwapTemp : Con := ⟨(.pair (.int .i64) (.pair (.int .i64) (.pair .str .unit))), (.pair .bool .unit), P_law27_SwapTemp⟩
theorem h_law27_SwapTemp : Holds Tryd.prog glob 3 c_law27_SwapTemp := holds_at (con := [(6, c_swap_Temp), (7, c_ref27_Temp), (8, c_law27_awake)]) (rcon := []) ((con_cons h_swap_Temp (con_cons h_ref27_Temp (con_cons h_law27_awake con_nil)))) (rcon_nil) (fn := Tryd.f3) rfl (by kernel_rfl) (fun x => by kernel_rfl)
end Go.Proofs.YtlhpaedjpdjcfaaDoor
