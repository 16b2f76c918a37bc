/- The layer's functions keep their contracts: each comes to its plain definition, by the ghost interpreter. -/
import Derived.Test.YtikicfmgihfnbaaDoorRows
import Derived.Test.YtikicfmgihfnbaaDoorPlB
import Derived.Test.YtikicfmgihfnbaaDoorFirst
import Derived.Test.YtikicfmgihfnbaaDoorBld
import Derived.Test.YtikicfmgihfnbaaDoorOnce
import Derived.Test.YtikicfmgihfnbaaDoorNum
import Derived.Test.YtikicfmgihfnbaaDoorShelf
namespace Go.Proofs.YtikicfmgihfnbaaDoor
open Go Go.Ge
set_option linter.unusedVariables false
set_option linter.unusedSectionVars false
set_option maxRecDepth 100000
variable [Lp]

open First
def cy (s : List (Nat × Nat)) (m : List Nat) : Option Plan := some ⟨s, m, false⟩
def cz (s : List (Nat × Nat)) : Option Plan := some ⟨s, [], false⟩
def fp (a : List (Option Plan)) : FPlan := ⟨a, []⟩
abbrev YH0 : Ty := (.pair (.int .i64) (.pair (.int .i64) (.pair .str (.pair .str (.pair (.slice .str) (.pair .str (.pair .str (.pair (.int .i64) .unit))))))))
abbrev YH1 : Ty := (.pair (.int .i64) (.pair (.int .i64) (.pair (.slice YH0) (.pair (.int .i64) .unit))))
abbrev YH2 : Ty := (.pair (.int .i64) .unit)
abbrev YH3 : Ty := (.pair .str .unit)
abbrev YH4 : Ty := (.pair .bool .unit)
noncomputable def plans : Nat → FPlan
  | 3 => fp [none]
  | 4 => fp [cz [(6, 4), (7, 3), (8, 3)], none, none]
  | 6 => fp [none, cy [(4, 9), (5, 25), (35, 3)] [7, 8], none, none, cy [(4, 9), (5, 25), (60, 3)] [7, 8], none, none, none]
  | 7 => fp [none, cz [(4, 9), (5, 25), (6, 9), (7, 4), (8, 3)], none, none, cz [(10, 3)], cz [(4, 9), (5, 25), (11, 9), (12, 3)], none, none, cz [(6, 9)], none]
  | 8 => fp [cz [(4, 4), (5, 3)], none, none]
  | 9 => ⟨[cz [(2, 9), (3, 25), (4, 3), (14, 3)], none, none, cy [(74, 3)] [7, 8], none], [7, 4000035]⟩
  | 10 => fp [none]
  | 12 => fp [none, cz [(4, 4), (5, 3)], none, none]
  | 15 => fp [cy [] [0, 1]]
  | 17 => fp [none, cz [(16, 4)], none, none]
  | 19 => fp [none]
  | 20 => ⟨[none, cz [(2, 9), (3, 25), (5, 3), (6, 3)], none, none, none, cz [(7, 9)], cz [(7, 9)], cz [(7, 9)], cz [(7, 9)], cz [(7, 9), (8, 3)], none, cz [(7, 9)], cz [(7, 9)], cz [(7, 9)]], [4000021]⟩
  | 22 => ⟨[], [4000011]⟩
  | 23 => fp [cy [] [2]]
  | 27 => ⟨[none], [7000003]⟩
  | 28 => ⟨[none], [7000009]⟩
  | 30 => ⟨[none], [7000033]⟩
  | 31 => ⟨[cy [(3, 33)] [0, 3], none], [3]⟩
  | 35 => fp [none]
  | 38 => fp [none]
  | 39 => ⟨[cy [(3, 44), (4, 3)] [3], none], [3]⟩
  | 40 => fp [cz [(2, 4), (3, 3)], none, none]
  | 41 => fp [cy [(9, 3)] [3], none]
  | 44 => fp [none]
  | 45 => fp [none]
  | 47 => ⟨[none, cy [(0, 9), (2, 9), (3, 4), (4, 44)] [4], none, none], [4]⟩
  | 53 => fp [none, cy [] [4]]
  | 56 => fp [none]
  | 60 => fp [none]
  | 75 => fp [cz [(4, 3), (8, 3)], none, none]
  | _ => ⟨[], []⟩

def objs : List (Nat × List OFld) := [(46, [.self, .buf (.int .u8) 5])]
def els : List (Nat × Nat) := [(44, 5)]
noncomputable def spc : List (Nat × Spc) := [(18, .str 46 5), (36, .chk 46)]
noncomputable def tys : List (Nat × Ty) := [(2, (.int .i64)), (3, (.int .i64)), (4, .bool), (5, (.int .u8)), (9, .str), (21, (.int .i32)), (22, (.slice YH1)), (25, (.int .i64)), (29, (.slice YH0)), (31, YH1), (33, (.slice .str)), (35, YH0), (42, (.arr 5 .str)), (44, (.slice (.int .u8))), (63, (.pair (.slice .str) YH4)), (92, (.int .u64)), (103, (.arr 24 (.int .u8))), (104, (.int .u64)), (109, (.int .i64)), (115, (.int .u32)), (119, (.arr 20 (.int .u64))), (120, (.arr 65 (.int .u8))), (127, (.arr 256 (.int .u8))), (129, (.pair (.int .u8) (.pair (.int .u8) .unit))), (130, (.arr 16 (.pair (.int .u8) (.pair (.int .u8) .unit)))), (134, YH3), (135, (.arr 32 (.int .u8))), (136, (.arr 64 (.int .u8)))]
noncomputable def funs : List (Nat × Func) := [(3, Tryd.f3), (4, Tryd.f4), (5, Tryd.f5), (6, Tryd.f6), (7, Tryd.f7), (8, Tryd.f8), (9, Tryd.f9), (10, Tryd.f10), (12, Tryd.f12), (13, Tryd.f13), (14, Tryd.f14), (15, Tryd.f15), (16, Tryd.f16), (17, Tryd.f17), (19, Tryd.f19), (20, Tryd.f20), (21, Tryd.f21), (22, Tryd.f22), (23, Tryd.f23), (24, Tryd.f24), (26, Tryd.f26), (27, Tryd.f27), (28, Tryd.f28), (29, Tryd.f29), (30, Tryd.f30), (31, Tryd.f31), (35, Tryd.f35), (38, Tryd.f38), (39, Tryd.f39), (40, Tryd.f40), (41, Tryd.f41), (44, Tryd.f44), (45, Tryd.f45), (46, Tryd.f46), (47, Tryd.f47), (48, Tryd.f48), (53, Tryd.f53), (56, Tryd.f56), (57, Tryd.f57), (60, Tryd.f60), (61, Tryd.f61), (62, Tryd.f62), (65, Tryd.f65), (75, Tryd.f75)]
def ones : List Nat := [43, 52, 53, 55, 58, 61, 67, 74, 112, 132]
def ptrs : List Nat := [43, 61, 74, 112, 132]
noncomputable def cxOf (con : List (Nat × Con)) (rcon : List (Nat × RCon)) (inv : List (String × Con) := []) : Ctx := ⟨tys, ones, ptrs, funs, con, rcon, objs, spc, els, inv⟩

theorem mix : Tryd.prog.follows .mixedOrders = true := by kernel_rfl

theorem T_ok : ∀ tid t, find tys tid = some t → Den Tryd.prog t tid := tys_ok (by kernel_rfl)
theorem ones_ok : ∀ tid, memN ones tid = true → (∀ w, (isAgg tid).run Tryd.prog w = .ok false w) ∧ (∀ w, (Go.sizeOf tid).run Tryd.prog w = .ok 1 w) ∧ ∃ z, (∀ w, (zeroValue tid).run Tryd.prog w = .ok z w) ∧ z.oneCell' = true := ones_of (by kernel_rfl)
theorem ptrs_ok : ∀ tid, memN ptrs tid = true → ∃ e, Tryd.prog.underlying tid = some (.pointer e) := ptrs_of (by kernel_rfl)
theorem fns_ok : ∀ f fn, find funs f = some fn → Tryd.prog.funcs[f]? = some fn := fns_of ((fns_cons Tryd.func3 (fns_cons Tryd.func4 (fns_cons Tryd.func5 (fns_cons Tryd.func6 (fns_cons Tryd.func7 (fns_cons Tryd.func8 (fns_cons Tryd.func9 (fns_cons Tryd.func10 (fns_cons Tryd.func12 (fns_cons Tryd.func13 (fns_cons Tryd.func14 (fns_cons Tryd.func15 (fns_cons Tryd.func16 (fns_cons Tryd.func17 (fns_cons Tryd.func19 (fns_cons Tryd.func20 (fns_cons Tryd.func21 (fns_cons Tryd.func22 (fns_cons Tryd.func23 (fns_cons Tryd.func24 (fns_cons Tryd.func26 (fns_cons Tryd.func27 (fns_cons Tryd.func28 (fns_cons Tryd.func29 (fns_cons Tryd.func30 (fns_cons Tryd.func31 (fns_cons Tryd.func35 (fns_cons Tryd.func38 (fns_cons Tryd.func39 (fns_cons Tryd.func40 (fns_cons Tryd.func41 (fns_cons Tryd.func44 (fns_cons Tryd.func45 (fns_cons Tryd.func46 (fns_cons Tryd.func47 (fns_cons Tryd.func48 (fns_cons Tryd.func53 (fns_cons Tryd.func56 (fns_cons Tryd.func57 (fns_cons Tryd.func60 (fns_cons Tryd.func61 (fns_cons Tryd.func62 (fns_cons Tryd.func65 (fns_cons Tryd.func75 fns_nil)))))))))))))))))))))))))))))))))))))))))))))
theorem objs_ok : ∀ tid fs, find objs tid = some fs → objB Tryd.prog tid fs = true := objs_of (by kernel_rfl)
theorem els_ok : ∀ tid e, find els tid = some e → Tryd.prog.underlying tid = some (.slice e) := els_of (by kernel_rfl)
theorem cx_ok (con : List (Nat × Con)) (rcon : List (Nat × RCon)) (inv : List (String × Con) := []) : CxOk Tryd.prog (cxOf con rcon inv) := ⟨T_ok, ones_ok, ptrs_ok, fns_ok, objs_ok, els_ok⟩
theorem spc_ok : ∀ p ∈ spc, SpcOk Tryd.prog p.1 p.2 := (spc_cons h_strings_Builder_String (spc_cons h_strings_Builder_copyCheck spc_nil))
theorem funs_ok (con : List (Nat × Con)) (rcon : List (Nat × RCon)) (inv : List (String × Con) := []) : FnsOk (cxOf con rcon inv) := fnsOk_of (cx := cxOf con rcon inv) (show (funs.all fun p => fnOk p.2) = true by kernel_rfl)

theorem holds_at {con : List (Nat × Con)} {rcon : List (Nat × RCon)} {inv : List (String × Con)} (hcon : ∀ p ∈ con, Holds Tryd.prog glob p.1 p.2) (hrcon : ∀ p ∈ rcon, RHolds Tryd.prog glob (p.1 / 2) p.2) (hinv : ∀ p ∈ inv, IHolds Tryd.prog glob p.1 p.2) {f : Nat} {fn : Func} {A R : Ty} {spec : A.den → Option R.den} (hfn : find funs f = some fn) (hb : fn.body.isSome = true)
    (hs : ∀ x, sem (cxOf con rcon inv) 12 plans f A R x = spec x) : Holds Tryd.prog glob f ⟨A, R, spec⟩ := by
  obtain ⟨code, hcode⟩ := Option.isSome_iff_exists.1 hb
  exact holds_of_sem mix (cx_ok con rcon inv) (conOk_of hcon hrcon spc_ok hinv) (funs_ok con rcon inv) (f := f) hfn hcode (fun x y h => by rw [hs]; exact h)

theorem rholds_at {con : List (Nat × Con)} {rcon : List (Nat × RCon)} {inv : List (String × Con)} (hcon : ∀ p ∈ con, Holds Tryd.prog glob p.1 p.2) (hrcon : ∀ p ∈ rcon, RHolds Tryd.prog glob (p.1 / 2) p.2) (hinv : ∀ p ∈ inv, IHolds Tryd.prog glob p.1 p.2) {f : Nat} {fn : Func} {ps : List Bool} {A : Ty} {U : OT} {R : Ty} {spec : A.den × U.den → Option (R.den × U.den)} (hfn : find funs f = some fn) (hb : fn.body.isSome = true)
    (hs : ∀ x, semR (cxOf con rcon inv) 12 plans f ps A U R x = spec x) : RHolds Tryd.prog glob f ⟨ps, A, U, R, spec⟩ := by
  obtain ⟨code, hcode⟩ := Option.isSome_iff_exists.1 hb
  exact rholds_of_sem mix (cx_ok con rcon inv) (conOk_of hcon hrcon spc_ok hinv) (funs_ok con rcon inv) (f := f) hfn hcode (fun x y h => by rw [hs]; exact h)

theorem holds_a {con : List (Nat × Con)} {rcon : List (Nat × RCon)} {inv : List (String × Con)} (hcon : ∀ p ∈ con, Holds Tryd.prog glob p.1 p.2) (hrcon : ∀ p ∈ rcon, RHolds Tryd.prog glob (p.1 / 2) p.2) (hinv : ∀ p ∈ inv, IHolds Tryd.prog glob p.1 p.2) (fn : Func) {f : Nat} {A R : Ty} {spec : A.den → Option R.den} (hfn : find funs f = some fn := by rfl) (hb : fn.body.isSome = true := by kernel_rfl)
    (hs : ∀ x, sem (cxOf con rcon inv) 12 plans f A R x = spec x := by intro x; kernel_rfl) : Holds Tryd.prog glob f ⟨A, R, spec⟩ := holds_at hcon hrcon hinv hfn hb hs
theorem holds_b {con : List (Nat × Con)} (hcon : ∀ p ∈ con, Holds Tryd.prog glob p.1 p.2) (fn : Func) {f : Nat} {A R : Ty} {spec : A.den → Option R.den} (hfn : find funs f = some fn := by rfl) (hb : fn.body.isSome = true := by kernel_rfl)
    (hs : ∀ x, sem (cxOf con [] []) 12 plans f A R x = spec x := by intro x; kernel_rfl) : Holds Tryd.prog glob f ⟨A, R, spec⟩ := holds_at hcon rcon_nil inv_nil hfn hb hs
theorem rholds_a {con : List (Nat × Con)} {rcon : List (Nat × RCon)} {inv : List (String × Con)} (hcon : ∀ p ∈ con, Holds Tryd.prog glob p.1 p.2) (hrcon : ∀ p ∈ rcon, RHolds Tryd.prog glob (p.1 / 2) p.2) (hinv : ∀ p ∈ inv, IHolds Tryd.prog glob p.1 p.2) (fn : Func) {f : Nat} {ps : List Bool} {A : Ty} {U : OT} {R : Ty} {spec : A.den × U.den → Option (R.den × U.den)} (hfn : find funs f = some fn := by rfl) (hb : fn.body.isSome = true := by kernel_rfl)
    (hs : ∀ x, semR (cxOf con rcon inv) 12 plans f ps A U R x = spec x := by intro x; kernel_rfl) : RHolds Tryd.prog glob f ⟨ps, A, U, R, spec⟩ := rholds_at hcon hrcon hinv hfn hb hs
abbrev HoldsG := Holds Tryd.prog glob

noncomputable def c_ref17_FewTexts : Con := ⟨(.pair (.slice .str) .unit), YH4, P_ref17_FewTexts⟩
theorem h_ref17_FewTexts : HoldsG 40 c_ref17_FewTexts := holds_b con_nil Tryd.f40
noncomputable def c_ref24_Small : Con := ⟨(.pair YH0 .unit), YH4, P_ref24_Small⟩
theorem h_ref24_Small : HoldsG 21 c_ref24_Small := holds_b (con_cons h_ref17_FewTexts con_nil) Tryd.f21
noncomputable def c_ref24_Few : Con := ⟨(.pair (.slice YH0) YH2), YH4, P_ref24_Few⟩
theorem h_ref24_Few : HoldsG 8 c_ref24_Few := holds_b (con_cons h_ref24_Small con_nil) Tryd.f8
noncomputable def c_ref34_Few : Con := ⟨(.pair (.slice YH1) (.pair (.int .i64) YH2)), YH4, P_ref34_Few⟩
theorem h_ref34_Few : HoldsG 4 c_ref34_Few := holds_b (con_cons h_ref24_Few con_nil) Tryd.f4
noncomputable def c_script_Parse : Con := ⟨YH3, (.pair (.int .i64) (.pair (.slice YH1) (.pair (.int .i64) YH2))), P_script_Parse⟩
theorem h_script_Parse : Holds Tryd.prog glob 11 c_script_Parse := parse_holds
noncomputable def c_law40_awake : Con := ⟨.unit, YH4, P_law40_awake⟩
theorem h_law40_awake : HoldsG 5 c_law40_awake := holds_b (con_cons h_script_Text (con_cons h_script_Line (con_cons h_script_Call (con_cons h_script_Parse (con_cons h_ref40_SameCall con_nil))))) Tryd.f5 (hs := (fun x => by rename_i i; obtain rfl : i = Lp.fast := Lp.one _ _; kernel_rfl))
noncomputable def c_ref01_below : Con := ⟨YH2, YH3, P_ref01_below⟩
theorem hF_ref01_below (rec : (YH2 : Ty).den → Option (YH3 : Ty).den) (hrec : Holds Tryd.prog glob 38 ⟨YH2, YH3, rec⟩) : Holds Tryd.prog glob 38 ⟨YH2, YH3, F_ref01_below rec⟩ := holds_at (con := [(38, ⟨YH2, YH3, rec⟩)]) (rcon := []) (inv := []) (con_cons hrec con_nil) rcon_nil inv_nil (fn := Tryd.f38) rfl (by kernel_rfl) (fun x => by kernel_rfl)
theorem h_ref01_below : Holds Tryd.prog glob 38 c_ref01_below := holds_rec Tryd.func38 (by kernel_rfl) (by kernel_rfl) hF_ref01_below S_ref01_below S_ref01_below_zero S_ref01_below_step S_ref01_below_all
noncomputable def c_ref01_Dec : Con := ⟨YH2, YH3, P_ref01_Dec⟩
theorem h_ref01_Dec : HoldsG 19 c_ref01_Dec := holds_b (con_cons h_ref01_below con_nil) Tryd.f19
noncomputable def c_ref01_digit : Con := ⟨YH2, (.pair (.int .u8) .unit), P_ref01_digit⟩
theorem h_ref01_digit : HoldsG 56 c_ref01_digit := holds_b con_nil Tryd.f56
noncomputable def c_ref01_Hex : Con := ⟨YH3, YH3, P_ref01_Hex⟩
theorem h_ref01_Hex : HoldsG 39 c_ref01_Hex := holds_b (con_cons h_ref01_digit con_nil) Tryd.f39
noncomputable def c_ref40_Line : Con := ⟨(.pair YH0 .unit), (.pair .str YH2), P_ref40_Line⟩
theorem h_ref40_Line : HoldsG 20 c_ref40_Line := holds_b (con_cons h_ref01_Dec (con_cons h_ref01_Hex con_nil)) Tryd.f20
noncomputable def c_ref40_Text : Con := ⟨(.pair (.int .i64) (.pair (.slice YH1) .unit)), (.pair .str YH2), P_ref40_Text⟩
theorem h_ref40_Text : HoldsG 7 c_ref40_Text := holds_b (con_cons h_ref01_Dec (con_cons h_ref40_Line con_nil)) Tryd.f7
noncomputable def c_law40_ScriptTexts : Con := ⟨(.pair (.int .i64) (.pair (.slice YH1) .unit)), YH4, P_law40_ScriptTexts⟩
theorem h_law40_ScriptTexts : HoldsG 3 c_law40_ScriptTexts := holds_b (con_cons h_ref34_Few (con_cons h_law40_awake (con_cons h_script_Text (con_cons h_ref40_Text con_nil)))) Tryd.f3
noncomputable def c_script_act : Con := ⟨(.pair (.slice .str) .unit), (.pair YH1 YH4), P_script_act⟩
theorem h_script_act : HoldsG 53 c_script_act := holds_b (con_cons h_digits_Num (con_cons h_script_kind con_nil)) Tryd.f53
end Go.Proofs.YtikicfmgihfnbaaDoor
