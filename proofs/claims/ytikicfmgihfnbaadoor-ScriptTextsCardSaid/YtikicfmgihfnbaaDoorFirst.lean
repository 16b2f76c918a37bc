/- The layer's functions keep their contracts: each comes to its plain definition, by the ghost interpreter. -/
import Derived.Test.YtikicfmgihfnbaaDoorRows
import Derived.Test.YtikicfmgihfnbaaDoorPlB
import Derived.Test.YtikicfmgihfnbaaDoorBld
import Derived.Test.YtikicfmgihfnbaaDoorNum
import Derived.Test.YtikicfmgihfnbaaDoorShelf
namespace Go.Proofs.YtikicfmgihfnbaaDoor.First
open Go Go.Ge
set_option linter.unusedVariables false
set_option linter.unusedSectionVars false
set_option maxRecDepth 100000
variable [Lp]

def cy (s : List (Nat × Nat)) (m : List Nat) : Option Plan := some ⟨s, m, false⟩
def cz (s : List (Nat × Nat)) : Option Plan := some ⟨s, [], false⟩
def fp (a : List (Option Plan)) : FPlan := ⟨a, []⟩
abbrev YF0 : Ty := (.pair (.int .i64) (.pair (.int .i64) (.pair .str (.pair .str (.pair (.slice .str) (.pair .str (.pair .str (.pair (.int .i64) .unit))))))))
abbrev YF1 : Ty := (.pair (.int .i64) .unit)
abbrev YF2 : Ty := (.pair .str .unit)
abbrev YF3 : Ty := (.pair .bool .unit)
abbrev YF4 : Ty := (.pair (.int .i64) (.pair (.int .i64) (.pair (.slice YF0) YF1)))
abbrev YF5 : Ty := (.pair (.slice .str) YF3)
abbrev YF6 : Ty := (.pair (.slice .str) .unit)
noncomputable def plans : Nat → FPlan
  | 6 => fp [none, cy [(4, 9), (5, 25), (35, 3)] [7, 8], none, none, cy [(4, 9), (5, 25), (60, 3)] [7, 8], none, none, none]
  | 9 => ⟨[cz [(2, 9), (3, 25), (4, 3), (14, 3)], none, none, cy [(74, 3)] [7, 8], none], [7, 4000035]⟩
  | 10 => fp [none]
  | 12 => fp [none, cz [(4, 4), (5, 3)], none, none]
  | 15 => fp [cy [] [0, 1]]
  | 17 => fp [none, cz [(16, 4)], none, none]
  | 22 => ⟨[], [4000011]⟩
  | 23 => fp [cy [] [2]]
  | 27 => ⟨[none], [7000003]⟩
  | 28 => ⟨[none], [7000009]⟩
  | 30 => ⟨[none], [7000033]⟩
  | 31 => ⟨[cy [(3, 33)] [0, 3], none], [3]⟩
  | 35 => fp [none]
  | 41 => fp [cy [(9, 3)] [3], none]
  | 44 => fp [none]
  | 45 => fp [none]
  | 47 => ⟨[none, cy [(0, 9), (2, 9), (3, 4), (4, 44)] [4], none, none], [4]⟩
  | 60 => fp [none]
  | 75 => fp [cz [(4, 3), (8, 3)], none, none]
  | _ => ⟨[], []⟩

def objs : List (Nat × List OFld) := [(46, [.self, .buf (.int .u8) 5])]
def els : List (Nat × Nat) := [(44, 5)]
noncomputable def spc : List (Nat × Spc) := [(18, .str 46 5), (36, .chk 46)]
noncomputable def tys : List (Nat × Ty) := [(2, (.int .i64)), (3, (.int .i64)), (4, .bool), (5, (.int .u8)), (9, .str), (21, (.int .i32)), (22, (.slice YF4)), (25, (.int .i64)), (29, (.slice YF0)), (31, YF4), (33, (.slice .str)), (35, YF0), (42, (.arr 5 .str)), (44, (.slice (.int .u8))), (63, YF5), (92, (.int .u64)), (103, (.arr 24 (.int .u8))), (104, (.int .u64)), (109, (.int .i64)), (115, (.int .u32)), (119, (.arr 20 (.int .u64))), (120, (.arr 65 (.int .u8))), (127, (.arr 256 (.int .u8))), (129, (.pair (.int .u8) (.pair (.int .u8) .unit))), (130, (.arr 16 (.pair (.int .u8) (.pair (.int .u8) .unit)))), (134, YF2), (135, (.arr 32 (.int .u8))), (136, (.arr 64 (.int .u8)))]
noncomputable def funs : List (Nat × Func) := [(6, Tryd.f6), (9, Tryd.f9), (10, Tryd.f10), (12, Tryd.f12), (13, Tryd.f13), (14, Tryd.f14), (15, Tryd.f15), (16, Tryd.f16), (17, Tryd.f17), (22, Tryd.f22), (23, Tryd.f23), (24, Tryd.f24), (26, Tryd.f26), (27, Tryd.f27), (28, Tryd.f28), (29, Tryd.f29), (30, Tryd.f30), (31, Tryd.f31), (35, Tryd.f35), (41, Tryd.f41), (44, Tryd.f44), (45, Tryd.f45), (46, Tryd.f46), (47, Tryd.f47), (48, Tryd.f48), (57, Tryd.f57), (60, Tryd.f60), (61, Tryd.f61), (62, Tryd.f62), (65, Tryd.f65), (75, Tryd.f75)]
def ones : List Nat := [43, 52, 53, 55, 58, 61, 67, 74, 112, 132]
def ptrs : List Nat := [43, 61, 74, 112, 132]
noncomputable def cxOf (con : List (Nat × Con)) (rcon : List (Nat × RCon)) (inv : List (String × Con) := []) : Ctx := ⟨tys, ones, ptrs, funs, con, rcon, objs, spc, els, inv⟩

theorem mix : Tryd.prog.follows .mixedOrders = true := by kernel_rfl

theorem T_ok : ∀ tid t, find tys tid = some t → Den Tryd.prog t tid := tys_ok (by kernel_rfl)
theorem ones_ok : ∀ tid, memN ones tid = true → (∀ w, (isAgg tid).run Tryd.prog w = .ok false w) ∧ (∀ w, (Go.sizeOf tid).run Tryd.prog w = .ok 1 w) ∧ ∃ z, (∀ w, (zeroValue tid).run Tryd.prog w = .ok z w) ∧ z.oneCell' = true := ones_of (by kernel_rfl)
theorem ptrs_ok : ∀ tid, memN ptrs tid = true → ∃ e, Tryd.prog.underlying tid = some (.pointer e) := ptrs_of (by kernel_rfl)
theorem fns_ok : ∀ f fn, find funs f = some fn → Tryd.prog.funcs[f]? = some fn := fns_of ((fns_cons Tryd.func6 (fns_cons Tryd.func9 (fns_cons Tryd.func10 (fns_cons Tryd.func12 (fns_cons Tryd.func13 (fns_cons Tryd.func14 (fns_cons Tryd.func15 (fns_cons Tryd.func16 (fns_cons Tryd.func17 (fns_cons Tryd.func22 (fns_cons Tryd.func23 (fns_cons Tryd.func24 (fns_cons Tryd.func26 (fns_cons Tryd.func27 (fns_cons Tryd.func28 (fns_cons Tryd.func29 (fns_cons Tryd.func30 (fns_cons Tryd.func31 (fns_cons Tryd.func35 (fns_cons Tryd.func41 (fns_cons Tryd.func44 (fns_cons Tryd.func45 (fns_cons Tryd.func46 (fns_cons Tryd.func47 (fns_cons Tryd.func48 (fns_cons Tryd.func57 (fns_cons Tryd.func60 (fns_cons Tryd.func61 (fns_cons Tryd.func62 (fns_cons Tryd.func65 (fns_cons Tryd.func75 fns_nil))))))))))))))))))))))))))))))))
theorem objs_ok : ∀ tid fs, find objs tid = some fs → objB Tryd.prog tid fs = true := objs_of (by kernel_rfl)
theorem els_ok : ∀ tid e, find els tid = some e → Tryd.prog.underlying tid = some (.slice e) := els_of (by kernel_rfl)
theorem cx_ok (con : List (Nat × Con)) (rcon : List (Nat × RCon)) (inv : List (String × Con) := []) : CxOk Tryd.prog (cxOf con rcon inv) := ⟨T_ok, ones_ok, ptrs_ok, fns_ok, objs_ok, els_ok⟩
theorem spc_ok : ∀ p ∈ spc, SpcOk Tryd.prog p.1 p.2 := (spc_cons h_strings_Builder_String (spc_cons h_strings_Builder_copyCheck spc_nil))
theorem funs_ok (con : List (Nat × Con)) (rcon : List (Nat × RCon)) (inv : List (String × Con) := []) : FnsOk (cxOf con rcon inv) := fnsOk_of (cx := cxOf con rcon inv) (show (funs.all fun p => fnOk p.2) = true by kernel_rfl)

theorem holds_at {con : List (Nat × Con)} {rcon : List (Nat × RCon)} {inv : List (String × Con)} (hcon : ∀ p ∈ con, Holds Tryd.prog glob p.1 p.2) (hrcon : ∀ p ∈ rcon, RHolds Tryd.prog glob (p.1 / 2) p.2) (hinv : ∀ p ∈ inv, IHolds Tryd.prog glob p.1 p.2) {f : Nat} {fn : Func} {A R : Ty} {spec : A.den → Option R.den} (hfn : find funs f = some fn) (hb : fn.body.isSome = true)
    (hs : ∀ x, sem (cxOf con rcon inv) 12 plans f A R x = spec x) : Holds Tryd.prog glob f ⟨A, R, spec⟩ := by
  obtain ⟨code, hcode⟩ := Option.isSome_iff_exists.1 hb
  exact holds_of_sem mix (cx_ok con rcon inv) (conOk_of hcon hrcon spc_ok hinv) (funs_ok con rcon inv) (f := f) hfn hcode (fun x y h => by rw [hs]; exact h)

theorem rholds_at {con : List (Nat × Con)} {rcon : List (Nat × RCon)} {inv : List (String × Con)} (hcon : ∀ p ∈ con, Holds Tryd.prog glob p.1 p.2) (hrcon : ∀ p ∈ rcon, RHolds Tryd.prog glob (p.1 / 2) p.2) (hinv : ∀ p ∈ inv, IHolds Tryd.prog glob p.1 p.2) {f : Nat} {fn : Func} {ps : List Bool} {A : Ty} {U : OT} {R : Ty} {spec : A.den × U.den → Option (R.den × U.den)} (hfn : find funs f = some fn) (hb : fn.body.isSome = true)
    (hs : ∀ x, semR (cxOf con rcon inv) 12 plans f ps A U R x = spec x) : RHolds Tryd.prog glob f ⟨ps, A, U, R, spec⟩ := by
  obtain ⟨code, hcode⟩ := Option.isSome_iff_exists.1 hb
  exact rholds_of_sem mix (cx_ok con rcon inv) (conOk_of hcon hrcon spc_ok hinv) (funs_ok con rcon inv) (f := f) hfn hcode (fun x y h => by rw [hs]; exact h)

theorem holds_a {con : List (Nat × Con)} {rcon : List (Nat × RCon)} {inv : List (String × Con)} (hcon : ∀ p ∈ con, Holds Tryd.prog glob p.1 p.2) (hrcon : ∀ p ∈ rcon, RHolds Tryd.prog glob (p.1 / 2) p.2) (hinv : ∀ p ∈ inv, IHolds Tryd.prog glob p.1 p.2) (fn : Func) {f : Nat} {A R : Ty} {spec : A.den → Option R.den} (hfn : find funs f = some fn := by rfl) (hb : fn.body.isSome = true := by kernel_rfl)
    (hs : ∀ x, sem (cxOf con rcon inv) 12 plans f A R x = spec x := by intro x; kernel_rfl) : Holds Tryd.prog glob f ⟨A, R, spec⟩ := holds_at hcon hrcon hinv hfn hb hs
theorem holds_b {con : List (Nat × Con)} (hcon : ∀ p ∈ con, Holds Tryd.prog glob p.1 p.2) (fn : Func) {f : Nat} {A R : Ty} {spec : A.den → Option R.den} (hfn : find funs f = some fn := by rfl) (hb : fn.body.isSome = true := by kernel_rfl)
    (hs : ∀ x, sem (cxOf con [] []) 12 plans f A R x = spec x := by intro x; kernel_rfl) : Holds Tryd.prog glob f ⟨A, R, spec⟩ := holds_at hcon rcon_nil inv_nil hfn hb hs
theorem rholds_a {con : List (Nat × Con)} {rcon : List (Nat × RCon)} {inv : List (String × Con)} (hcon : ∀ p ∈ con, Holds Tryd.prog glob p.1 p.2) (hrcon : ∀ p ∈ rcon, RHolds Tryd.prog glob (p.1 / 2) p.2) (hinv : ∀ p ∈ inv, IHolds Tryd.prog glob p.1 p.2) (fn : Func) {f : Nat} {ps : List Bool} {A : Ty} {U : OT} {R : Ty} {spec : A.den × U.den → Option (R.den × U.den)} (hfn : find funs f = some fn := by rfl) (hb : fn.body.isSome = true := by kernel_rfl)
    (hs : ∀ x, semR (cxOf con rcon inv) 12 plans f ps A U R x = spec x := by intro x; kernel_rfl) : RHolds Tryd.prog glob f ⟨ps, A, U, R, spec⟩ := rholds_at hcon hrcon hinv hfn hb hs
abbrev HoldsG := Holds Tryd.prog glob

noncomputable def c_strconv_Itoa : Con := ⟨YF1, YF2, P_strconv_Itoa⟩
theorem h_strconv_Itoa : Holds Tryd.prog glob 37 c_strconv_Itoa := holds_itoa Tryd.func37 (by kernel_rfl) (by kernel_rfl) glob_tab itoa_calls
noncomputable def c_digits_Dec : Con := ⟨YF1, YF2, P_digits_Dec⟩
theorem h_digits_Dec : HoldsG 14 c_digits_Dec := holds_b (con_cons h_strconv_Itoa con_nil) Tryd.f14
noncomputable def c_script_texts : Con := ⟨(.pair YF0 .unit), YF6, P_script_texts⟩
theorem h_script_texts : HoldsG 22 c_script_texts := holds_b con_nil Tryd.f22
noncomputable def c_digits_Hex : Con := ⟨YF2, YF2, P_digits_Hex⟩
theorem h_digits_Hex : HoldsG 41 c_digits_Hex := holds_b con_nil Tryd.f41
noncomputable def c_script_text : Con := ⟨YF2, YF2, P_script_text⟩
theorem h_script_text : HoldsG 24 c_script_text := holds_b (con_cons h_digits_Hex con_nil) Tryd.f24
noncomputable def c_strings_Join : Con := ⟨(.pair (.slice .str) YF2), YF2, P_strings_Join⟩
theorem h_strings_Join : Holds Tryd.prog glob 25 c_strings_Join := holds_join Tryd.func25 (by kernel_rfl) (by kernel_rfl) Tryd.strings_Join_none Tryd.strings_Join
noncomputable def c_script_Line : Con := ⟨(.pair YF0 .unit), (.pair .str YF1), P_script_Line⟩
theorem h_script_Line : HoldsG 9 c_script_Line := holds_b (con_cons h_digits_Dec (con_cons h_script_texts (con_cons h_script_text (con_cons h_strings_Join con_nil)))) Tryd.f9
noncomputable def c_script_isAct : Con := ⟨(.pair YF4 .unit), YF3, P_script_isAct⟩
theorem h_script_isAct : HoldsG 17 c_script_isAct := holds_b con_nil Tryd.f17
noncomputable def c_script_Text : Con := ⟨(.pair (.int .i64) (.pair (.slice YF4) .unit)), (.pair .str YF1), P_script_Text⟩
theorem h_script_Text : HoldsG 6 c_script_Text := holds_b (con_cons h_script_Line (con_cons h_digits_Dec (con_cons h_script_isAct con_nil))) Tryd.f6
noncomputable def c_digits_Num : Con := ⟨YF2, (.pair (.int .i64) YF3), P_digits_Num⟩
theorem h_digits_Num : Holds Tryd.prog glob 43 c_digits_Num := holds_num Tryd.func43 (by kernel_rfl) (by kernel_rfl) num_calls
noncomputable def c_script_reader_word : RCon := ⟨[true], .unit, (.pair (.ref 0 (.dat YF5)) .unit), YF2, P_script_reader_word⟩
theorem h_script_reader_word : RHolds Tryd.prog glob 44 c_script_reader_word := rholds_a con_nil rcon_nil inv_nil Tryd.f44
noncomputable def c_script_reader_number : RCon := ⟨[true], .unit, (.pair (.ref 0 (.dat YF5)) .unit), YF1, P_script_reader_number⟩
theorem h_script_reader_number : RHolds Tryd.prog glob 26 c_script_reader_number := rholds_a (con_cons h_digits_Num con_nil) (rcon_cons h_script_reader_word rcon_nil) inv_nil Tryd.f26
noncomputable def c_internal_stringslite_HasPrefix : Con := ⟨(.pair .str YF2), YF3, P_internal_stringslite_HasPrefix⟩
theorem h_internal_stringslite_HasPrefix : HoldsG 62 c_internal_stringslite_HasPrefix := holds_b con_nil Tryd.f62
noncomputable def c_internal_stringslite_CutPrefix : Con := ⟨(.pair .str YF2), (.pair .str YF3), P_internal_stringslite_CutPrefix⟩
theorem h_internal_stringslite_CutPrefix : HoldsG 60 c_internal_stringslite_CutPrefix := holds_b (con_cons h_internal_stringslite_HasPrefix con_nil) Tryd.f60
noncomputable def c_strings_CutPrefix : Con := ⟨(.pair .str YF2), (.pair .str YF3), P_strings_CutPrefix⟩
theorem h_strings_CutPrefix : HoldsG 46 c_strings_CutPrefix := holds_b (con_cons h_internal_stringslite_CutPrefix con_nil) Tryd.f46
noncomputable def c_internal_stringslite_IndexByte : Con := ⟨(.pair .str (.pair (.int .u8) .unit)), YF1, P_internal_stringslite_IndexByte⟩
theorem h_internal_stringslite_IndexByte : Holds Tryd.prog glob 70 c_internal_stringslite_IndexByte := holds_str_u8 (spec := fun s c => Lib.indexByte s (show Int from c).toNat.toUInt8) Tryd.func70 (by kernel_rfl) (by kernel_rfl) (fun s c => indexByte_range _ s) (fun s c w => by
  go_enter Tryd.func70, Tryd.ntmps70
  go_wp2
  rw [run_callFunc_extern Tryd.func85 (by kernel_rfl) (by kernel_rfl) (by kernel_rfl) (e := Extern.BytealgIndexByte.indexByte) (by kernel_rfl), Lib.run_indexByteString]
  simp only [Result.andThen]
  rw [Oper.upon_value]
  go_wp2
  go_ret
  exact ⟨rfl, rfl⟩)
noncomputable def c_strings_IndexByte : Con := ⟨(.pair .str (.pair (.int .u8) .unit)), YF1, P_strings_IndexByte⟩
theorem h_strings_IndexByte : HoldsG 61 c_strings_IndexByte := holds_b (con_cons h_internal_stringslite_IndexByte con_nil) Tryd.f61
noncomputable def c_digits_Unhex : Con := ⟨YF2, (.pair .str YF3), P_digits_Unhex⟩
theorem h_digits_Unhex : HoldsG 47 c_digits_Unhex := holds_b (con_cons h_strings_IndexByte con_nil) Tryd.f47
noncomputable def c_script_reader_text : RCon := ⟨[true], .unit, (.pair (.ref 0 (.dat YF5)) .unit), YF2, P_script_reader_text⟩
theorem h_script_reader_text : RHolds Tryd.prog glob 29 c_script_reader_text := rholds_a (con_cons h_strings_CutPrefix (con_cons h_digits_Unhex con_nil)) (rcon_cons h_script_reader_word rcon_nil) inv_nil Tryd.f29
noncomputable def c_strings_HasPrefix : Con := ⟨(.pair .str YF2), YF3, P_strings_HasPrefix⟩
theorem h_strings_HasPrefix : HoldsG 48 c_strings_HasPrefix := holds_b (con_cons h_internal_stringslite_HasPrefix con_nil) Tryd.f48
noncomputable def c_script_reader_names : RCon := ⟨[true], .unit, (.pair (.ref 0 (.dat YF5)) .unit), YF6, P_script_reader_names⟩
theorem h_script_reader_names : RHolds Tryd.prog glob 31 c_script_reader_names := rholds_a (con_cons h_strings_CutPrefix (con_cons h_digits_Unhex (con_cons h_strings_HasPrefix con_nil))) (rcon_cons h_script_reader_text (rcon_cons h_script_reader_word rcon_nil)) inv_nil Tryd.f31
noncomputable def c_strings_Count : Con := ⟨(.pair .str YF2), YF1, P_strings_Count⟩
theorem h_strings_Count : Holds Tryd.prog glob 32 c_strings_Count := holds_count Tryd.func32 (by kernel_rfl) (by kernel_rfl) (fun s c w => Tryd.strings_Count_one s c w)
noncomputable def c_script_reader_eats : RCon := ⟨[true, false], YF2, (.pair (.ref 0 (.dat YF5)) .unit), YF3, P_script_reader_eats⟩
theorem h_script_reader_eats : RHolds Tryd.prog glob 45 c_script_reader_eats := rholds_a con_nil rcon_nil inv_nil Tryd.f45
noncomputable def c_script_Call : Con := ⟨YF6, (.pair YF0 YF1), P_script_Call⟩
theorem h_script_Call : HoldsG 10 c_script_Call := holds_a (con_cons h_script_Line (con_cons h_strings_Join (con_cons h_strings_Count (con_cons h_digits_Num (con_cons h_strings_CutPrefix (con_cons h_digits_Unhex (con_cons h_strings_HasPrefix con_nil))))))) (rcon_cons h_script_reader_number (rcon_cons h_script_reader_text (rcon_cons h_script_reader_names (rcon_cons h_script_reader_word (rcon_cons h_script_reader_eats rcon_nil))))) inv_nil Tryd.f10
noncomputable def c_ref40_SameCall : Con := ⟨(.pair YF0 (.pair YF0 .unit)), YF3, P_ref40_SameCall⟩
theorem h_ref40_SameCall : HoldsG 12 c_ref40_SameCall := holds_b con_nil Tryd.f12
noncomputable def c_strings_Split : Con := ⟨(.pair .str YF2), YF6, P_strings_Split⟩
theorem h_strings_Split : Holds Tryd.prog glob 33 c_strings_Split := holds_split Tryd.func33 (by kernel_rfl) (by kernel_rfl) (fun s b w hs => Any.strings_Split_byte Tryd.lays146 (by kernel_rfl) s b w hs)
noncomputable def c_script_quota : Con := ⟨YF6, (.pair (.int .i64) YF3), P_script_quota⟩
theorem h_script_quota : HoldsG 35 c_script_quota := holds_b (con_cons h_digits_Num con_nil) Tryd.f35
noncomputable def c_slices_Index_string_string : Con := ⟨(.pair (.slice .str) YF2), YF1, P_slices_Index_string_string⟩
theorem h_slices_Index_string_string : HoldsG 75 c_slices_Index_string_string := holds_b con_nil Tryd.f75
noncomputable def c_script_kind : Con := ⟨YF2, YF1, P_script_kind⟩
theorem h_script_kind : HoldsG 65 c_script_kind := holds_b (con_cons h_slices_Index_string_string con_nil) Tryd.f65
end Go.Proofs.YtikicfmgihfnbaaDoor.First
