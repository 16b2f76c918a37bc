/- The layer's functions keep their contracts: each comes to its plain definition, by the ghost interpreter. -/
import Derived.Test.YtkgjcocemmnpjaaDoorRows
import Derived.Test.YtkgjcocemmnpjaaDoorPlB
import Derived.Test.YtkgjcocemmnpjaaDoorNum
import Derived.Test.YtkgjcocemmnpjaaDoorShelf
namespace Go.Proofs.YtkgjcocemmnpjaaDoor
open Go Go.Ge
set_option linter.unusedVariables false
set_option linter.unusedSectionVars false
set_option maxRecDepth 100000
variable [Lp]

def cy (s : List (Nat × Nat)) (m : List Nat) : Option Plan := some ⟨s, m, false⟩
def cz (s : List (Nat × Nat)) : Option Plan := some ⟨s, [], false⟩
def fp (a : List (Option Plan)) : FPlan := ⟨a, []⟩
abbrev YH0 : Ty := (.pair (.int .i64) (.pair .bool (.pair (.int .i64) (.pair (.int .i64) (.pair .str (.pair (.slice (.pair .str (.pair (.int .i64) .unit))) .unit))))))
abbrev YH1 : Ty := (.pair (.int .i64) (.pair .str (.pair .str (.pair (.int .i64) (.pair (.int .i64) (.pair (.int .i64) (.pair .str (.pair (.int .i64) (.pair (.int .i64) .unit)))))))))
abbrev YH2 : Ty := (.pair (.int .i64) (.pair (.int .i64) .unit))
abbrev YH3 : Ty := (.pair (.pair (.int .i64) (.pair (.int .i64) (.pair .str (.pair (.slice .str) .unit)))) .unit)
abbrev YH4 : Ty := (.pair (.int .i64) .unit)
abbrev YH5 : Ty := (.pair (.int .i64) YH2)
abbrev YH6 : Ty := (.pair (.int .i64) (.pair .bool (.pair YH1 .unit)))
abbrev YH7 : Ty := (.pair .str .unit)
abbrev YH8 : Ty := (.pair (.int .i64) (.pair (.int .i64) (.pair (.slice YH0) .unit)))
abbrev YH9 : Ty := (.pair (.slice (.pair .str (.pair .bool YH7))) .unit)
abbrev YH10 : Ty := (.pair (.int .i64) (.pair (.int .i64) (.pair .str (.pair (.slice .str) .unit))))
abbrev YH11 : Ty := (.pair .bool .unit)
abbrev YH12 : Ty := (.pair (.int .i64) (.pair .str YH4))
abbrev YH13 : Ty := (.pair (.int .i64) YH7)
abbrev YH14 : Ty := (.pair (.int .i64) (.pair YH1 .unit))
noncomputable def plans : Nat → FPlan
  | 4 => fp [none, cy [(11, 4), (12, 3)] [7, 10, 3888887], none, none, cy [] [7, 3888887]]
  | 9 => ⟨[none], [9000018]⟩
  | 10 => ⟨[none, none, none, cz [(8, 3)], none], [9]⟩
  | 11 => fp [none, none, none]
  | 13 => fp [cy [] [0]]
  | 14 => fp [none, none, none, none, none]
  | 15 => fp [none]
  | 16 => fp [none]
  | 17 => fp [none]
  | 18 => ⟨[], [8000000, 8000001]⟩
  | 19 => fp [cz [(4, 9), (5, 4), (7, 3)], none, none]
  | 27 => fp [none]
  | 28 => fp [cz [(4, 3), (5, 27), (6, 3)], none, none]
  | 30 => fp [none, cy [] [0]]
  | 32 => fp [none, none, none]
  | 34 => fp [none]
  | 35 => fp [none]
  | 37 => fp [cy [(5, 3)] [0, 3888887], none, none]
  | 38 => ⟨[cy [(5, 67), (6, 3)] [5], none, cy [(5, 67)] [5], none], [5]⟩
  | 39 => fp [cy [(5, 3)] [4, 3888887], none, cy [] [4, 3888887], cy [(7, 3)] [4, 3888887], none, cy [(9, 3)] [4, 3888887], none, none, cz [(10, 3)]]
  | 51 => fp [none]
  | 52 => ⟨[], [3]⟩
  | 53 => ⟨[], [8000000, 8000001]⟩
  | 54 => fp [none, cz [(29, 4)], cz [(29, 4)], cz [(29, 4)], cz [(29, 4)], none, none, none, none, none, none, none, none, none, none, none, none, none, none]
  | 55 => fp [none, none, none, none]
  | 57 => ⟨[none], [5]⟩
  | 58 => ⟨[cy [(3, 109), (4, 3)] [3777777], none, cz [(5, 3)], none, none], [6]⟩
  | 60 => fp [none, cz [(4, 4), (7, 3)], none, none]
  | 61 => ⟨[cy [(9, 54), (11, 3)] [0, 9, 3888887], none], [9]⟩
  | 65 => ⟨[none], [4000012]⟩
  | 66 => ⟨[], [3]⟩
  | 67 => fp [cz [(5, 4)], cz [(5, 4)], cz [(5, 4)], cz [(5, 4)], none, cz [(19, 4)], none, none]
  | 68 => fp [none, none, none, none, none]
  | 69 => fp [cy [(4, 3), (5, 27), (6, 3), (7, 3)] [0, 6], none, none]
  | 70 => ⟨[none, cy [(3, 36), (4, 9), (5, 3)] [3], none, cy [(3, 36), (4, 9)] [3]], [3]⟩
  | 71 => ⟨[none, none, cy [(8, 36), (9, 3)] [8], none], [8]⟩
  | 72 => fp [cz [(5, 3), (6, 3)], none, cz [(5, 3)]]
  | 73 => fp [none]
  | 74 => fp [none, none, none, none]
  | 75 => fp [none, none, none]
  | 76 => fp [none, none]
  | 77 => fp [none, cy [(8, 3), (9, 3)] [0, 3888887], none]
  | 78 => fp [none, none]
  | 79 => fp [none, none]
  | 80 => fp [none, none, none, none, cy [(10, 27)] [0, 17], none]
  | 82 => fp [cz [(4, 3), (8, 3)], none, none]
  | 83 => ⟨[cy [(6, 118), (7, 3)] [0, 6], none, cy [(6, 118)] [0, 6]], [6]⟩
  | 84 => fp [cy [(5, 3)] [4], none, none]
  | 85 => fp [none, none]
  | 87 => fp [cz [(2, 4), (4, 3)], none, none]
  | 88 => fp [cz [(6, 3), (7, 3)], none, none]
  | 89 => fp [none]
  | 90 => fp [none, none, none, none]
  | 91 => fp [none, none]
  | 92 => fp [cy [(5, 4), (6, 3)] [4], none, none]
  | 93 => fp [none, none, none]
  | 94 => fp [cz [(4, 3), (5, 3)], none, none]
  | 95 => fp [cz [(3, 3), (4, 3)], none]
  | 96 => ⟨[cy [(4, 149), (5, 3)] [4], none, cy [(4, 149)] [4], cy [(4, 149)] [4]], [4]⟩
  | 97 => ⟨[cz [(6, 3)], none], [5]⟩
  | 98 => ⟨[cy [(5, 141), (6, 3)] [5], none, cy [(5, 141)] [5]], [5]⟩
  | 99 => fp [none, none]
  | 100 => fp [none, none, none, none]
  | 101 => fp [none, none]
  | 106 => fp [cz [(2, 4), (3, 3)], none, none]
  | 107 => fp [none, none, none]
  | 108 => fp [none, none]
  | 109 => fp [cy [(5, 114)] [5], none]
  | 110 => fp [cz [(2, 4), (3, 3)], none, none]
  | _ => ⟨[], []⟩

def objs : List (Nat × List OFld) := [(75, [.dat .bool, .buf (.pair YH1 YH3) 83, .dat (.int .i64), .dat .bool, .dat .bool, .dat YH1]), (151, [.dat (.int .i64), .dat (.int .i64), .buf YH0 0]), (120, [.one, .buf YH5 0]), (88, [.one, .one, .buf YH6 0]), (69, [.buf YH2 0, .dat (.int .i64)]), (34, [.one, .one])]
def els : List (Nat × Nat) := [(73, 83)]
noncomputable def spc : List (Nat × Spc) := [(95, .look [true] (.pair YH8 .unit) YH4 P_ref08_Table_Used)]
noncomputable def tys : List (Nat × Ty) := [(2, (.int .i64)), (3, (.int .i64)), (4, .bool), (5, (.int .u8)), (9, .str), (25, (.arr 2 (.int .i64))), (27, (.int .i64)), (36, (.slice .str)), (38, YH10), (41, YH1), (53, (.arr 3 .str)), (54, (.slice YH10)), (57, (.slice YH1)), (59, (.pair (.slice YH1) (.pair (.slice YH10) (.pair (.int .i64) (.pair YH1 (.pair .bool YH11)))))), (67, (.slice YH2)), (71, YH2), (73, (.slice (.pair YH1 YH3))), (83, (.pair YH1 YH3)), (84, (.slice (.pair .str (.pair .bool YH7)))), (86, (.slice YH6)), (91, (.pair .str (.pair .bool YH7))), (104, YH6), (105, (.slice (.int .i64))), (109, (.slice (.int .i64))), (114, (.slice (.int .u8))), (118, (.slice YH5)), (139, YH5), (141, (.slice (.pair .str YH4))), (143, YH0), (146, (.pair .str YH4)), (149, (.slice YH0)), (166, (.arr 24 (.int .u8))), (167, (.int .u64)), (176, (.arr 20 (.int .u64))), (177, (.int .u32)), (178, (.arr 65 (.int .u8))), (180, (.int .u64)), (183, (.arr 32 (.int .u8))), (184, (.arr 64 (.int .u8)))]
noncomputable def funs : List (Nat × Func) := [(4, Tryd.f4), (6, Tryd.f6), (8, Tryd.f8), (9, Tryd.f9), (10, Tryd.f10), (11, Tryd.f11), (12, Tryd.f12), (13, Tryd.f13), (14, Tryd.f14), (15, Tryd.f15), (16, Tryd.f16), (17, Tryd.f17), (18, Tryd.f18), (19, Tryd.f19), (25, Tryd.f25), (27, Tryd.f27), (28, Tryd.f28), (29, Tryd.f29), (30, Tryd.f30), (31, Tryd.f31), (32, Tryd.f32), (33, Tryd.f33), (34, Tryd.f34), (35, Tryd.f35), (36, Tryd.f36), (37, Tryd.f37), (38, Tryd.f38), (39, Tryd.f39), (40, Tryd.f40), (51, Tryd.f51), (52, Tryd.f52), (53, Tryd.f53), (54, Tryd.f54), (55, Tryd.f55), (56, Tryd.f56), (57, Tryd.f57), (58, Tryd.f58), (59, Tryd.f59), (60, Tryd.f60), (61, Tryd.f61), (65, Tryd.f65), (66, Tryd.f66), (67, Tryd.f67), (68, Tryd.f68), (69, Tryd.f69), (70, Tryd.f70), (71, Tryd.f71), (72, Tryd.f72), (73, Tryd.f73), (74, Tryd.f74), (75, Tryd.f75), (76, Tryd.f76), (77, Tryd.f77), (78, Tryd.f78), (79, Tryd.f79), (80, Tryd.f80), (81, Tryd.f81), (82, Tryd.f82), (83, Tryd.f83), (84, Tryd.f84), (85, Tryd.f85), (87, Tryd.f87), (88, Tryd.f88), (89, Tryd.f89), (90, Tryd.f90), (91, Tryd.f91), (92, Tryd.f92), (93, Tryd.f93), (94, Tryd.f94), (95, Tryd.f95), (96, Tryd.f96), (97, Tryd.f97), (98, Tryd.f98), (99, Tryd.f99), (100, Tryd.f100), (101, Tryd.f101), (106, Tryd.f106), (107, Tryd.f107), (108, Tryd.f108), (109, Tryd.f109), (110, Tryd.f110)]
def ones : List Nat := [26, 31, 32, 42, 56, 85, 115]
def ptrs : List Nat := [26, 31, 32, 42, 56, 85, 115]
noncomputable def cxOf (con : List (Nat × Con)) (rcon : List (Nat × RCon)) (inv : List (String × Con) := []) : Ctx := ⟨tys, ones, ptrs, funs, con, rcon, objs, spc, els, inv⟩

theorem mix : Tryd.prog.follows .mixedOrders = true := by kernel_rfl

theorem T_ok : ∀ tid t, find tys tid = some t → Den Tryd.prog t tid := tys_ok (by kernel_rfl)
theorem ones_ok : ∀ tid, memN ones tid = true → (∀ w, (isAgg tid).run Tryd.prog w = .ok false w) ∧ (∀ w, (Go.sizeOf tid).run Tryd.prog w = .ok 1 w) ∧ ∃ z, (∀ w, (zeroValue tid).run Tryd.prog w = .ok z w) ∧ z.oneCell' = true := ones_of (by kernel_rfl)
theorem ptrs_ok : ∀ tid, memN ptrs tid = true → ∃ e, Tryd.prog.underlying tid = some (.pointer e) := ptrs_of (by kernel_rfl)
theorem fns_ok : ∀ f fn, find funs f = some fn → Tryd.prog.funcs[f]? = some fn := fns_of ((fns_cons Tryd.func4 (fns_cons Tryd.func6 (fns_cons Tryd.func8 (fns_cons Tryd.func9 (fns_cons Tryd.func10 (fns_cons Tryd.func11 (fns_cons Tryd.func12 (fns_cons Tryd.func13 (fns_cons Tryd.func14 (fns_cons Tryd.func15 (fns_cons Tryd.func16 (fns_cons Tryd.func17 (fns_cons Tryd.func18 (fns_cons Tryd.func19 (fns_cons Tryd.func25 (fns_cons Tryd.func27 (fns_cons Tryd.func28 (fns_cons Tryd.func29 (fns_cons Tryd.func30 (fns_cons Tryd.func31 (fns_cons Tryd.func32 (fns_cons Tryd.func33 (fns_cons Tryd.func34 (fns_cons Tryd.func35 (fns_cons Tryd.func36 (fns_cons Tryd.func37 (fns_cons Tryd.func38 (fns_cons Tryd.func39 (fns_cons Tryd.func40 (fns_cons Tryd.func51 (fns_cons Tryd.func52 (fns_cons Tryd.func53 (fns_cons Tryd.func54 (fns_cons Tryd.func55 (fns_cons Tryd.func56 (fns_cons Tryd.func57 (fns_cons Tryd.func58 (fns_cons Tryd.func59 (fns_cons Tryd.func60 (fns_cons Tryd.func61 (fns_cons Tryd.func65 (fns_cons Tryd.func66 (fns_cons Tryd.func67 (fns_cons Tryd.func68 (fns_cons Tryd.func69 (fns_cons Tryd.func70 (fns_cons Tryd.func71 (fns_cons Tryd.func72 (fns_cons Tryd.func73 (fns_cons Tryd.func74 (fns_cons Tryd.func75 (fns_cons Tryd.func76 (fns_cons Tryd.func77 (fns_cons Tryd.func78 (fns_cons Tryd.func79 (fns_cons Tryd.func80 (fns_cons Tryd.func81 (fns_cons Tryd.func82 (fns_cons Tryd.func83 (fns_cons Tryd.func84 (fns_cons Tryd.func85 (fns_cons Tryd.func87 (fns_cons Tryd.func88 (fns_cons Tryd.func89 (fns_cons Tryd.func90 (fns_cons Tryd.func91 (fns_cons Tryd.func92 (fns_cons Tryd.func93 (fns_cons Tryd.func94 (fns_cons Tryd.func95 (fns_cons Tryd.func96 (fns_cons Tryd.func97 (fns_cons Tryd.func98 (fns_cons Tryd.func99 (fns_cons Tryd.func100 (fns_cons Tryd.func101 (fns_cons Tryd.func106 (fns_cons Tryd.func107 (fns_cons Tryd.func108 (fns_cons Tryd.func109 (fns_cons Tryd.func110 fns_nil))))))))))))))))))))))))))))))))))))))))))))))))))))))))))))))))))))))))))))))))))
theorem objs_ok : ∀ tid fs, find objs tid = some fs → objB Tryd.prog tid fs = true := objs_of (by kernel_rfl)
theorem els_ok : ∀ tid e, find els tid = some e → Tryd.prog.underlying tid = some (.slice e) := els_of (by kernel_rfl)
theorem cx_ok (con : List (Nat × Con)) (rcon : List (Nat × RCon)) (inv : List (String × Con) := []) : CxOk Tryd.prog (cxOf con rcon inv) := ⟨T_ok, ones_ok, ptrs_ok, fns_ok, objs_ok, els_ok⟩
noncomputable def cxL_ref08_Table_Used : Ctx := ⟨[(151, YH8), (150, YH8)] ++ tys, ones, ptrs, funs, [], [], objs.filter fun p => !memN [151, 150] p.1, [], els, []⟩
theorem cxL_ok_ref08_Table_Used : CxOk Tryd.prog cxL_ref08_Table_Used := ⟨tys_ok (by kernel_rfl), ones_ok, ptrs_ok, fns_ok, objs_of (by kernel_rfl), els_ok⟩
theorem s_ref08_Table_Used : SpcOk Tryd.prog 95 (.look [true] (.pair YH8 .unit) YH4 P_ref08_Table_Used) := by
  obtain ⟨code, hcode⟩ := Option.isSome_iff_exists.1 (show (Tryd.f95 : Func).body.isSome = true by kernel_rfl)
  exact look_of_sem mix cxL_ok_ref08_Table_Used (conOk_of con_nil rcon_nil spc_nil inv_nil) (fnsOk_of (cx := cxL_ref08_Table_Used) (show (funs.all fun p => fnOk p.2) = true by kernel_rfl)) (plans := plans) (n := 12) (by rfl) hcode rfl (fun x y h => by rw [show semL cxL_ref08_Table_Used 12 plans 95 [true] (.pair YH8 .unit) YH4 x = P_ref08_Table_Used x by kernel_rfl]; exact h)
theorem spc_ok : ∀ p ∈ spc, SpcOk Tryd.prog p.1 p.2 := (spc_cons s_ref08_Table_Used spc_nil)
theorem funs_ok (con : List (Nat × Con)) (rcon : List (Nat × RCon)) (inv : List (String × Con) := []) : FnsOk (cxOf con rcon inv) := fnsOk_of (cx := cxOf con rcon inv) (show (funs.all fun p => fnOk p.2) = true by kernel_rfl)

theorem holds_at {con : List (Nat × Con)} {rcon : List (Nat × RCon)} {inv : List (String × Con)} (hcon : ∀ p ∈ con, Holds Tryd.prog glob p.1 p.2) (hrcon : ∀ p ∈ rcon, RHolds Tryd.prog glob (p.1 / 2) p.2) (hinv : ∀ p ∈ inv, IHolds Tryd.prog glob p.1 p.2) {f : Nat} {fn : Func} {A R : Ty} {spec : A.den → Option R.den} (hfn : find funs f = some fn) (hb : fn.body.isSome = true)
    (hs : ∀ x, sem (cxOf con rcon inv) 12 plans f A R x = spec x) : Holds Tryd.prog glob f ⟨A, R, spec⟩ := by
  obtain ⟨code, hcode⟩ := Option.isSome_iff_exists.1 hb
  exact holds_of_sem mix (cx_ok con rcon inv) (conOk_of hcon hrcon spc_ok hinv) (funs_ok con rcon inv) (f := f) hfn hcode (fun x y h => by rw [hs]; exact h)

theorem rholds_at {con : List (Nat × Con)} {rcon : List (Nat × RCon)} {inv : List (String × Con)} (hcon : ∀ p ∈ con, Holds Tryd.prog glob p.1 p.2) (hrcon : ∀ p ∈ rcon, RHolds Tryd.prog glob (p.1 / 2) p.2) (hinv : ∀ p ∈ inv, IHolds Tryd.prog glob p.1 p.2) {f : Nat} {fn : Func} {ps : List Bool} {A : Ty} {U : OT} {R : Ty} {spec : A.den × U.den → Option (R.den × U.den)} (hfn : find funs f = some fn) (hb : fn.body.isSome = true)
    (hs : ∀ x, semR (cxOf con rcon inv) 12 plans f ps A U R x = spec x) : RHolds Tryd.prog glob f ⟨ps, A, U, R, spec⟩ := by
  obtain ⟨code, hcode⟩ := Option.isSome_iff_exists.1 hb
  exact rholds_of_sem mix (cx_ok con rcon inv) (conOk_of hcon hrcon spc_ok hinv) (funs_ok con rcon inv) (f := f) hfn hcode (fun x y h => by rw [hs]; exact h)

theorem holds_a {con : List (Nat × Con)} {rcon : List (Nat × RCon)} {inv : List (String × Con)} (hcon : ∀ p ∈ con, Holds Tryd.prog glob p.1 p.2) (hrcon : ∀ p ∈ rcon, RHolds Tryd.prog glob (p.1 / 2) p.2) (hinv : ∀ p ∈ inv, IHolds Tryd.prog glob p.1 p.2) (fn : Func) {f : Nat} {A R : Ty} {spec : A.den → Option R.den} (hfn : find funs f = some fn := by rfl) (hb : fn.body.isSome = true := by kernel_rfl)
    (hs : ∀ x, sem (cxOf con rcon inv) 12 plans f A R x = spec x := by intro x; kernel_rfl) : Holds Tryd.prog glob f ⟨A, R, spec⟩ := holds_at hcon hrcon hinv hfn hb hs
theorem holds_b {con : List (Nat × Con)} (hcon : ∀ p ∈ con, Holds Tryd.prog glob p.1 p.2) (fn : Func) {f : Nat} {A R : Ty} {spec : A.den → Option R.den} (hfn : find funs f = some fn := by rfl) (hb : fn.body.isSome = true := by kernel_rfl)
    (hs : ∀ x, sem (cxOf con [] []) 12 plans f A R x = spec x := by intro x; kernel_rfl) : Holds Tryd.prog glob f ⟨A, R, spec⟩ := holds_at hcon rcon_nil inv_nil hfn hb hs
theorem rholds_a {con : List (Nat × Con)} {rcon : List (Nat × RCon)} {inv : List (String × Con)} (hcon : ∀ p ∈ con, Holds Tryd.prog glob p.1 p.2) (hrcon : ∀ p ∈ rcon, RHolds Tryd.prog glob (p.1 / 2) p.2) (hinv : ∀ p ∈ inv, IHolds Tryd.prog glob p.1 p.2) (fn : Func) {f : Nat} {ps : List Bool} {A : Ty} {U : OT} {R : Ty} {spec : A.den × U.den → Option (R.den × U.den)} (hfn : find funs f = some fn := by rfl) (hb : fn.body.isSome = true := by kernel_rfl)
    (hs : ∀ x, semR (cxOf con rcon inv) 12 plans f ps A U R x = spec x := by intro x; kernel_rfl) : RHolds Tryd.prog glob f ⟨ps, A, U, R, spec⟩ := rholds_at hcon hrcon hinv hfn hb hs
abbrev HoldsG := Holds Tryd.prog glob

noncomputable def c_strconv_Itoa : Con := ⟨YH4, YH7, P_strconv_Itoa⟩
theorem h_strconv_Itoa : Holds Tryd.prog glob 49 c_strconv_Itoa := holds_itoa Tryd.func49 (by kernel_rfl) (by kernel_rfl) glob_tab itoa_calls
noncomputable def c_digits_Dec : Con := ⟨YH4, YH7, P_digits_Dec⟩
theorem h_digits_Dec : HoldsG 25 c_digits_Dec := holds_b (con_cons h_strconv_Itoa con_nil) Tryd.f25
noncomputable def c_swap_Temp : Con := ⟨(.pair (.int .i64) YH13), YH7, P_swap_Temp⟩
theorem h_swap_Temp : HoldsG 6 c_swap_Temp := holds_b (con_cons h_digits_Dec con_nil) Tryd.f6
noncomputable def c_steps_Run_isGiven : RCon := ⟨[true], .unit, (.pair (.ref 75 (.pair (.dat .bool) (.pair (.buf (.pair YH1 YH3) 83) (.pair (.dat (.int .i64)) (.pair (.dat .bool) (.pair (.dat .bool) (.pair (.dat YH1) .unit))))))) .unit), YH11, P_steps_Run_isGiven⟩
theorem h_steps_Run_isGiven : RHolds Tryd.prog glob 31 c_steps_Run_isGiven := rholds_a con_nil rcon_nil inv_nil Tryd.f31
noncomputable def c_steps_Run_Begin : RCon := ⟨[true], .unit, (.pair (.ref 75 (.pair (.dat .bool) (.pair (.buf (.pair YH1 YH3) 83) (.pair (.dat (.int .i64)) (.pair (.dat .bool) (.pair (.dat .bool) (.pair (.dat YH1) .unit))))))) .unit), .unit, P_steps_Run_Begin⟩
theorem h_steps_Run_Begin : RHolds Tryd.prog glob 13 c_steps_Run_Begin := rholds_a con_nil (rcon_cons h_steps_Run_isGiven rcon_nil) inv_nil Tryd.f13
noncomputable def c_slices_Clone_string_string : Con := ⟨(.pair (.slice .str) .unit), (.pair (.slice .str) .unit), P_slices_Clone_string_string⟩
theorem h_slices_Clone_string_string : Holds Tryd.prog glob 57 c_slices_Clone_string_string := by
  refine clone_holds (P := Tryd.prog) (cx := cxOf [] []) (bf := [5]) (e := .str) (tid := 36) (fn := Tryd.f57) (s0 := fun l => (argSt (fun _ => none) [.data (.slice .str) l]).put 2 (.data (.slice .str) ([] : List (.str : Ty).den))) mix (cx_ok [] []) (conOk_of con_nil rcon_nil spc_ok inv_nil) Tryd.func57 (by kernel_rfl)
    (by rfl) rfl (by decide) (by decide) rfl rfl rfl rfl rfl rfl (fun l => by rfl) (fun l => rfl) (fun l => rfl) (fun l => rfl) (fun l => by rfl) (fun l hl => ?_)
  have key : ∀ m : List (.str : Ty).den, fits (len m) = true → sel (fits (plus (len ([] : List (.str : Ty).den)) (len m))) (some ((app [] m, ()) : (Ty.pair (.slice .str) .unit).den)) none = some (m, ()) := by
    intro m hm
    have e : plus (len ([] : List (.str : Ty).den)) (len m) = len m := by simp [plus, len]
    rw [e, hm]
    rfl
  exact Eq.trans (b := sel (fits (plus (len ([] : List (.str : Ty).den)) (len (α := (.str : Ty).den) l))) (some ((app (α := (.str : Ty).den) [] l, ()) : (Ty.pair (.slice .str) .unit).den)) none) (by rfl) (key l hl)
noncomputable def c_steps_answer : Con := ⟨YH3, YH3, P_steps_answer⟩
theorem h_steps_answer : HoldsG 36 c_steps_answer := holds_b (con_cons h_slices_Clone_string_string con_nil) Tryd.f36
noncomputable def c_steps_pause : Con := ⟨.unit, YH3, P_steps_pause⟩
theorem h_steps_pause : HoldsG 81 c_steps_pause := holds_b con_nil Tryd.f81
noncomputable def c_steps_Run_Do : RCon := ⟨[true, false], (.pair YH1 .unit), (.pair (.ref 75 (.pair (.dat .bool) (.pair (.buf (.pair YH1 YH3) 83) (.pair (.dat (.int .i64)) (.pair (.dat .bool) (.pair (.dat .bool) (.pair (.dat YH1) .unit))))))) .unit), YH3, P_steps_Run_Do⟩
theorem h_steps_Run_Do : RHolds Tryd.prog glob 55 c_steps_Run_Do := rholds_a (con_cons h_steps_answer (con_cons h_steps_pause con_nil)) (rcon_cons h_steps_Run_isGiven rcon_nil) inv_nil Tryd.f55
noncomputable def c_slices_Index_api_Errno_api_Errno : Con := ⟨(.pair (.slice (.int .i64)) YH4), YH4, P_slices_Index_api_Errno_api_Errno⟩
theorem h_slices_Index_api_Errno_api_Errno : HoldsG 82 c_slices_Index_api_Errno_api_Errno := holds_b con_nil Tryd.f82
noncomputable def c_slices_Contains_api_Errno_api_Errno : Con := ⟨(.pair (.slice (.int .i64)) YH4), YH11, P_slices_Contains_api_Errno_api_Errno⟩
theorem h_slices_Contains_api_Errno_api_Errno : HoldsG 56 c_slices_Contains_api_Errno_api_Errno := holds_b (con_cons h_slices_Index_api_Errno_api_Errno con_nil) Tryd.f56
noncomputable def c_swap_ask : RCon := ⟨[true, false, false], (.pair YH1 (.pair (.slice (.int .i64)) .unit)), (.pair (.ref 75 (.pair (.dat .bool) (.pair (.buf (.pair YH1 YH3) 83) (.pair (.dat (.int .i64)) (.pair (.dat .bool) (.pair (.dat .bool) (.pair (.dat YH1) .unit))))))) .unit), (.pair YH10 YH4), P_swap_ask⟩
theorem h_swap_ask : RHolds Tryd.prog glob 34 c_swap_ask := rholds_a (con_cons h_steps_answer (con_cons h_slices_Contains_api_Errno_api_Errno (con_cons h_steps_pause con_nil))) (rcon_cons h_steps_Run_isGiven (rcon_cons h_steps_Run_Do rcon_nil)) inv_nil Tryd.f34
noncomputable def c_swap_waits : RCon := ⟨[true, false], (.pair YH1 .unit), (.pair (.ref 75 (.pair (.dat .bool) (.pair (.buf (.pair YH1 YH3) 83) (.pair (.dat (.int .i64)) (.pair (.dat .bool) (.pair (.dat .bool) (.pair (.dat YH1) .unit))))))) .unit), YH11, P_swap_waits⟩
theorem h_swap_waits : RHolds Tryd.prog glob 33 c_swap_waits := rholds_a (con_cons h_steps_answer (con_cons h_slices_Contains_api_Errno_api_Errno (con_cons h_steps_pause con_nil))) (rcon_cons h_steps_Run_isGiven (rcon_cons h_swap_ask (rcon_cons h_steps_Run_Do rcon_nil))) inv_nil Tryd.f33
noncomputable def c_swap_undone : RCon := ⟨[true, false, false], (.pair .str YH4), (.pair (.ref 75 (.pair (.dat .bool) (.pair (.buf (.pair YH1 YH3) 83) (.pair (.dat (.int .i64)) (.pair (.dat .bool) (.pair (.dat .bool) (.pair (.dat YH1) .unit))))))) .unit), YH4, P_swap_undone⟩
theorem h_swap_undone : RHolds Tryd.prog glob 35 c_swap_undone := rholds_a (con_cons h_steps_answer (con_cons h_slices_Contains_api_Errno_api_Errno (con_cons h_steps_pause con_nil))) (rcon_cons h_steps_Run_isGiven (rcon_cons h_swap_waits (rcon_cons h_swap_ask (rcon_cons h_steps_Run_Do rcon_nil)))) inv_nil Tryd.f35
noncomputable def c_swap_Write : RCon := ⟨[true, false, false], (.pair .str YH7), (.pair (.ref 75 (.pair (.dat .bool) (.pair (.buf (.pair YH1 YH3) 83) (.pair (.dat (.int .i64)) (.pair (.dat .bool) (.pair (.dat .bool) (.pair (.dat YH1) .unit))))))) .unit), YH4, P_swap_Write⟩
theorem h_swap_Write : RHolds Tryd.prog glob 32 c_swap_Write := rholds_a (con_cons h_steps_answer (con_cons h_slices_Contains_api_Errno_api_Errno (con_cons h_steps_pause con_nil))) (rcon_cons h_steps_Run_isGiven (rcon_cons h_swap_waits (rcon_cons h_swap_ask (rcon_cons h_swap_undone (rcon_cons h_steps_Run_Do rcon_nil))))) inv_nil Tryd.f32
noncomputable def c_swap_Put : RCon := ⟨[true, false, false, false], (.pair .str (.pair .str YH7)), (.pair (.ref 75 (.pair (.dat .bool) (.pair (.buf (.pair YH1 YH3) 83) (.pair (.dat (.int .i64)) (.pair (.dat .bool) (.pair (.dat .bool) (.pair (.dat YH1) .unit))))))) .unit), YH4, P_swap_Put⟩
theorem h_swap_Put : RHolds Tryd.prog glob 14 c_swap_Put := rholds_a (con_cons h_steps_answer (con_cons h_slices_Contains_api_Errno_api_Errno (con_cons h_steps_pause con_nil))) (rcon_cons h_steps_Run_isGiven (rcon_cons h_swap_Write (rcon_cons h_swap_waits (rcon_cons h_swap_ask (rcon_cons h_swap_undone (rcon_cons h_steps_Run_Do rcon_nil)))))) inv_nil Tryd.f14
noncomputable def c_steps_Run_Want : RCon := ⟨[true], .unit, (.pair (.ref 75 (.pair (.dat .bool) (.pair (.buf (.pair YH1 YH3) 83) (.pair (.dat (.int .i64)) (.pair (.dat .bool) (.pair (.dat .bool) (.pair (.dat YH1) .unit))))))) .unit), (.pair YH1 YH11), P_steps_Run_Want⟩
theorem h_steps_Run_Want : RHolds Tryd.prog glob 15 c_steps_Run_Want := rholds_a con_nil (rcon_cons h_steps_Run_isGiven rcon_nil) inv_nil Tryd.f15
noncomputable def c_steps_Run_Give : RCon := ⟨[true, false], YH3, (.pair (.ref 75 (.pair (.dat .bool) (.pair (.buf (.pair YH1 YH3) 83) (.pair (.dat (.int .i64)) (.pair (.dat .bool) (.pair (.dat .bool) (.pair (.dat YH1) .unit))))))) .unit), YH4, P_steps_Run_Give⟩
theorem h_steps_Run_Give : RHolds Tryd.prog glob 16 c_steps_Run_Give := rholds_a (con_cons h_steps_answer con_nil) (rcon_cons h_steps_Run_Want (rcon_cons h_steps_Run_isGiven rcon_nil)) inv_nil Tryd.f16
noncomputable def c_law27_awake : Con := ⟨.unit, YH11, P_law27_awake⟩
theorem h_law27_awake : HoldsG 8 c_law27_awake := holds_a (con_cons h_swap_Temp (con_cons h_steps_answer (con_cons h_slices_Contains_api_Errno_api_Errno (con_cons h_steps_pause con_nil)))) (rcon_cons h_steps_Run_Begin (rcon_cons h_swap_Put (rcon_cons h_steps_Run_Want (rcon_cons h_steps_Run_Give (rcon_cons h_steps_Run_isGiven (rcon_cons h_swap_Write (rcon_cons h_swap_waits (rcon_cons h_swap_ask (rcon_cons h_swap_undone (rcon_cons h_steps_Run_Do rcon_nil)))))))))) inv_nil Tryd.f8
noncomputable def c_ref11_Table_Birth : RCon := ⟨[true, false], YH4, (.pair (.ref 69 (.pair (.buf YH2 0) (.pair (.dat (.int .i64)) .unit))) .unit), YH2, P_ref11_Table_Birth⟩
theorem h_ref11_Table_Birth : RHolds Tryd.prog glob 28 c_ref11_Table_Birth := rholds_a con_nil rcon_nil inv_nil Tryd.f28
noncomputable def c_ref11_Table_Spawn : RCon := ⟨[true, false], YH4, (.pair (.ref 69 (.pair (.buf YH2 0) (.pair (.dat (.int .i64)) .unit))) .unit), YH2, P_ref11_Table_Spawn⟩
theorem h_ref11_Table_Spawn : RHolds Tryd.prog glob 10 c_ref11_Table_Spawn := rholds_a con_nil (rcon_cons h_ref11_Table_Birth rcon_nil) inv_nil Tryd.f10
noncomputable def c_ref11_Table_Alive : RCon := ⟨[true, false, false], YH2, (.pair (.ref 69 (.pair (.buf YH2 0) (.pair (.dat (.int .i64)) .unit))) .unit), YH11, P_ref11_Table_Alive⟩
theorem h_ref11_Table_Alive : RHolds Tryd.prog glob 29 c_ref11_Table_Alive := rholds_a con_nil (rcon_cons h_ref11_Table_Birth rcon_nil) inv_nil Tryd.f29
noncomputable def c_ref10_Disk_sync : RCon := ⟨[true], .unit, (.pair (.ref 88 (.pair (.rf 120 (.pair (.rf 151 (.pair (.dat (.int .i64)) (.pair (.dat (.int .i64)) (.pair (.buf YH0 0) .unit)))) (.pair (.buf YH5 0) .unit))) (.pair (.rf 120 (.pair (.rf 151 (.pair (.dat (.int .i64)) (.pair (.dat (.int .i64)) (.pair (.buf YH0 0) .unit)))) (.pair (.buf YH5 0) .unit))) (.pair (.buf YH6 0) .unit)))) .unit), .unit, P_ref10_Disk_sync⟩
theorem h_ref10_Disk_sync : RHolds Tryd.prog glob 53 c_ref10_Disk_sync := rholds_a con_nil rcon_nil inv_nil Tryd.f53
noncomputable def c_ref07_Parts : Con := ⟨YH7, (.pair (.slice .str) .unit), P_ref07_Parts⟩
theorem h_ref07_Parts : HoldsG 70 c_ref07_Parts := holds_b con_nil Tryd.f70
noncomputable def c_ref07_isName : Con := ⟨YH7, YH11, P_ref07_isName⟩
theorem h_ref07_isName : HoldsG 106 c_ref07_isName := holds_b con_nil Tryd.f106
noncomputable def c_ref07_Is : Con := ⟨YH7, YH11, P_ref07_Is⟩
theorem h_ref07_Is : HoldsG 87 c_ref07_Is := holds_b (con_cons h_ref07_Parts (con_cons h_ref07_isName con_nil)) Tryd.f87
noncomputable def c_ref09_right : Con := ⟨(.pair YH1 .unit), YH11, P_ref09_right⟩
theorem h_ref09_right : HoldsG 67 c_ref09_right := holds_b (con_cons h_ref07_Is con_nil) Tryd.f67
noncomputable def c_ref08_Table_get : RCon := ⟨[true, false], YH4, (.pair (.ref 151 (.pair (.dat (.int .i64)) (.pair (.dat (.int .i64)) (.pair (.buf YH0 0) .unit)))) .unit), (.pair YH0 YH11), P_ref08_Table_get⟩
theorem h_ref08_Table_get : RHolds Tryd.prog glob 92 c_ref08_Table_get := rholds_a con_nil rcon_nil inv_nil Tryd.f92
noncomputable def c_ref08_Table_set : RCon := ⟨[true, false], (.pair YH0 .unit), (.pair (.ref 151 (.pair (.dat (.int .i64)) (.pair (.dat (.int .i64)) (.pair (.buf YH0 0) .unit)))) .unit), .unit, P_ref08_Table_set⟩
theorem h_ref08_Table_set : RHolds Tryd.prog glob 96 c_ref08_Table_set := rholds_a con_nil rcon_nil inv_nil Tryd.f96
noncomputable def c_ref08_Table_Drop : RCon := ⟨[true, false], YH4, (.pair (.ref 151 (.pair (.dat (.int .i64)) (.pair (.dat (.int .i64)) (.pair (.buf YH0 0) .unit)))) .unit), YH4, P_ref08_Table_Drop⟩
theorem h_ref08_Table_Drop : RHolds Tryd.prog glob 101 c_ref08_Table_Drop := rholds_a con_nil (rcon_cons h_ref08_Table_get (rcon_cons h_ref08_Table_set rcon_nil)) inv_nil Tryd.f101
noncomputable def c_ref09_FS_closes : RCon := ⟨[true, false, false], YH2, (.pair (.ref 120 (.pair (.rf 151 (.pair (.dat (.int .i64)) (.pair (.dat (.int .i64)) (.pair (.buf YH0 0) .unit)))) (.pair (.buf YH5 0) .unit))) .unit), .unit, P_ref09_FS_closes⟩
theorem h_ref09_FS_closes : RHolds Tryd.prog glob 83 c_ref09_FS_closes := rholds_a con_nil (rcon_cons h_ref08_Table_get (rcon_cons h_ref08_Table_set (rcon_cons h_ref08_Table_Drop rcon_nil))) inv_nil Tryd.f83
noncomputable def c_ref09_FS_holds : RCon := ⟨[true, false, false], YH2, (.pair (.ref 120 (.pair (.rf 151 (.pair (.dat (.int .i64)) (.pair (.dat (.int .i64)) (.pair (.buf YH0 0) .unit)))) (.pair (.buf YH5 0) .unit))) .unit), YH4, P_ref09_FS_holds⟩
theorem h_ref09_FS_holds : RHolds Tryd.prog glob 88 c_ref09_FS_holds := rholds_a con_nil rcon_nil inv_nil Tryd.f88
noncomputable def c_ref08_Table_file : RCon := ⟨[true, false, false, false], YH5, (.pair (.ref 151 (.pair (.dat (.int .i64)) (.pair (.dat (.int .i64)) (.pair (.buf YH0 0) .unit)))) .unit), (.pair YH0 YH4), P_ref08_Table_file⟩
theorem h_ref08_Table_file : RHolds Tryd.prog glob 107 c_ref08_Table_file := rholds_a con_nil (rcon_cons h_ref08_Table_get rcon_nil) inv_nil Tryd.f107
noncomputable def c_ref08_Table_Read : RCon := ⟨[true, false, false, false], YH5, (.pair (.ref 151 (.pair (.dat (.int .i64)) (.pair (.dat (.int .i64)) (.pair (.buf YH0 0) .unit)))) .unit), (.pair .str YH4), P_ref08_Table_Read⟩
theorem h_ref08_Table_Read : RHolds Tryd.prog glob 89 c_ref08_Table_Read := rholds_a con_nil (rcon_cons h_ref08_Table_get (rcon_cons h_ref08_Table_file rcon_nil)) inv_nil Tryd.f89
noncomputable def c_ref08_Table_fits : RCon := ⟨[true, false, false], (.pair YH0 YH4), (.pair (.ref 151 (.pair (.dat (.int .i64)) (.pair (.dat (.int .i64)) (.pair (.buf YH0 0) .unit)))) .unit), YH4, P_ref08_Table_fits⟩
theorem h_ref08_Table_fits : RHolds Tryd.prog glob 108 c_ref08_Table_fits := rholds_a con_nil rcon_nil inv_nil Tryd.f108
noncomputable def c_ref08_long : Con := ⟨(.pair .str YH4), YH7, P_ref08_long⟩
theorem h_ref08_long : HoldsG 109 c_ref08_long := holds_b con_nil Tryd.f109
noncomputable def c_ref08_Table_Write : RCon := ⟨[true, false, false, false], (.pair (.int .i64) YH13), (.pair (.ref 151 (.pair (.dat (.int .i64)) (.pair (.dat (.int .i64)) (.pair (.buf YH0 0) .unit)))) .unit), YH4, P_ref08_Table_Write⟩
theorem h_ref08_Table_Write : RHolds Tryd.prog glob 90 c_ref08_Table_Write := rholds_a (con_cons h_ref08_long con_nil) (rcon_cons h_ref08_Table_get (rcon_cons h_ref08_Table_set (rcon_cons h_ref08_Table_file (rcon_cons h_ref08_Table_fits rcon_nil)))) inv_nil Tryd.f90
noncomputable def c_ref08_Table_Truncate : RCon := ⟨[true, false, false], YH2, (.pair (.ref 151 (.pair (.dat (.int .i64)) (.pair (.dat (.int .i64)) (.pair (.buf YH0 0) .unit)))) .unit), YH4, P_ref08_Table_Truncate⟩
theorem h_ref08_Table_Truncate : RHolds Tryd.prog glob 91 c_ref08_Table_Truncate := rholds_a (con_cons h_ref08_long con_nil) (rcon_cons h_ref08_Table_get (rcon_cons h_ref08_Table_set (rcon_cons h_ref08_Table_file (rcon_cons h_ref08_Table_fits rcon_nil)))) inv_nil Tryd.f91
noncomputable def c_ref09_FS_handled : RCon := ⟨[true, false, false], YH14, (.pair (.ref 120 (.pair (.rf 151 (.pair (.dat (.int .i64)) (.pair (.dat (.int .i64)) (.pair (.buf YH0 0) .unit)))) (.pair (.buf YH5 0) .unit))) .unit), YH3, P_ref09_FS_handled⟩
theorem h_ref09_FS_handled : RHolds Tryd.prog glob 68 c_ref09_FS_handled := rholds_a (con_cons h_ref08_long con_nil) (rcon_cons h_ref09_FS_closes (rcon_cons h_ref09_FS_holds (rcon_cons h_ref08_Table_Read (rcon_cons h_ref08_Table_Write (rcon_cons h_ref08_Table_Truncate (rcon_cons h_ref08_Table_get (rcon_cons h_ref08_Table_set (rcon_cons h_ref08_Table_Drop (rcon_cons h_ref08_Table_file (rcon_cons h_ref08_Table_fits rcon_nil)))))))))) inv_nil Tryd.f68
noncomputable def c_ref08_isName : Con := ⟨YH7, YH11, P_ref08_isName⟩
theorem h_ref08_isName : HoldsG 110 c_ref08_isName := holds_b con_nil Tryd.f110
noncomputable def c_ref08_Table_place : RCon := ⟨[true, false, false], YH13, (.pair (.ref 151 (.pair (.dat (.int .i64)) (.pair (.dat (.int .i64)) (.pair (.buf YH0 0) .unit)))) .unit), (.pair YH0 YH4), P_ref08_Table_place⟩
theorem h_ref08_Table_place : RHolds Tryd.prog glob 93 c_ref08_Table_place := rholds_a (con_cons h_ref08_isName con_nil) (rcon_cons h_ref08_Table_get rcon_nil) inv_nil Tryd.f93
noncomputable def c_ref08_leads : Con := ⟨(.pair YH0 YH7), YH4, P_ref08_leads⟩
theorem h_ref08_leads : HoldsG 94 c_ref08_leads := holds_b con_nil Tryd.f94
noncomputable def c_ref08_Table_Find : RCon := ⟨[true, false, false], YH13, (.pair (.ref 151 (.pair (.dat (.int .i64)) (.pair (.dat (.int .i64)) (.pair (.buf YH0 0) .unit)))) .unit), YH2, P_ref08_Table_Find⟩
theorem h_ref08_Table_Find : RHolds Tryd.prog glob 78 c_ref08_Table_Find := rholds_a (con_cons h_ref08_leads (con_cons h_ref08_isName con_nil)) (rcon_cons h_ref08_Table_get (rcon_cons h_ref08_Table_place rcon_nil)) inv_nil Tryd.f78
noncomputable def c_ref09_FS_walk : RCon := ⟨[true, false], (.pair (.slice .str) .unit), (.pair (.ref 120 (.pair (.rf 151 (.pair (.dat (.int .i64)) (.pair (.dat (.int .i64)) (.pair (.buf YH0 0) .unit)))) (.pair (.buf YH5 0) .unit))) .unit), YH2, P_ref09_FS_walk⟩
theorem h_ref09_FS_walk : RHolds Tryd.prog glob 69 c_ref09_FS_walk := rholds_a (con_cons h_ref08_leads (con_cons h_ref08_isName con_nil)) (rcon_cons h_ref08_Table_Find (rcon_cons h_ref08_Table_get (rcon_cons h_ref08_Table_place rcon_nil))) inv_nil Tryd.f69
noncomputable def c_ref08_Table_List : RCon := ⟨[true, false], YH4, (.pair (.ref 151 (.pair (.dat (.int .i64)) (.pair (.dat (.int .i64)) (.pair (.buf YH0 0) .unit)))) .unit), (.pair (.slice .str) YH4), P_ref08_Table_List⟩
theorem h_ref08_Table_List : RHolds Tryd.prog glob 71 c_ref08_Table_List := rholds_a con_nil (rcon_cons h_ref08_Table_get rcon_nil) inv_nil Tryd.f71
noncomputable def c_ref09_FS_many : RCon := ⟨[true, false], YH4, (.pair (.ref 120 (.pair (.rf 151 (.pair (.dat (.int .i64)) (.pair (.dat (.int .i64)) (.pair (.buf YH0 0) .unit)))) (.pair (.buf YH5 0) .unit))) .unit), YH4, P_ref09_FS_many⟩
theorem h_ref09_FS_many : RHolds Tryd.prog glob 72 c_ref09_FS_many := rholds_a con_nil rcon_nil inv_nil Tryd.f72
noncomputable def c_ref09_FS_place : RCon := ⟨[true, false], YH7, (.pair (.ref 120 (.pair (.rf 151 (.pair (.dat (.int .i64)) (.pair (.dat (.int .i64)) (.pair (.buf YH0 0) .unit)))) (.pair (.buf YH5 0) .unit))) .unit), YH12, P_ref09_FS_place⟩
theorem h_ref09_FS_place : RHolds Tryd.prog glob 73 c_ref09_FS_place := rholds_a (con_cons h_ref07_Parts (con_cons h_ref08_leads (con_cons h_ref08_isName con_nil))) (rcon_cons h_ref09_FS_walk (rcon_cons h_ref08_Table_Find (rcon_cons h_ref08_Table_get (rcon_cons h_ref08_Table_place rcon_nil)))) inv_nil Tryd.f73
noncomputable def c_ref08_with : Con := ⟨(.pair YH0 (.pair (.pair .str YH4) .unit)), (.pair YH0 .unit), P_ref08_with⟩
theorem h_ref08_with : HoldsG 97 c_ref08_with := holds_b con_nil Tryd.f97
noncomputable def c_ref08_Table_Make : RCon := ⟨[true, false, false, false], (.pair (.int .i64) (.pair .str YH11)), (.pair (.ref 151 (.pair (.dat (.int .i64)) (.pair (.dat (.int .i64)) (.pair (.buf YH0 0) .unit)))) .unit), YH2, P_ref08_Table_Make⟩
theorem h_ref08_Table_Make : RHolds Tryd.prog glob 74 c_ref08_Table_Make := rholds_a (con_cons h_ref08_leads (con_cons h_ref08_with (con_cons h_ref08_isName con_nil))) (rcon_cons h_ref08_Table_get (rcon_cons h_ref08_Table_place (rcon_cons h_ref08_Table_set rcon_nil))) inv_nil Tryd.f74
noncomputable def c_ref08_without : Con := ⟨(.pair YH0 YH7), (.pair YH0 .unit), P_ref08_without⟩
theorem h_ref08_without : HoldsG 98 c_ref08_without := holds_b con_nil Tryd.f98
noncomputable def c_ref08_Table_Remove : RCon := ⟨[true, false, false], YH13, (.pair (.ref 151 (.pair (.dat (.int .i64)) (.pair (.dat (.int .i64)) (.pair (.buf YH0 0) .unit)))) .unit), YH4, P_ref08_Table_Remove⟩
theorem h_ref08_Table_Remove : RHolds Tryd.prog glob 75 c_ref08_Table_Remove := rholds_a (con_cons h_ref08_leads (con_cons h_ref08_without (con_cons h_ref08_isName con_nil))) (rcon_cons h_ref08_Table_Find (rcon_cons h_ref08_Table_get (rcon_cons h_ref08_Table_place (rcon_cons h_ref08_Table_set rcon_nil)))) inv_nil Tryd.f75
noncomputable def c_ref08_Table_Unlink : RCon := ⟨[true, false, false], YH13, (.pair (.ref 151 (.pair (.dat (.int .i64)) (.pair (.dat (.int .i64)) (.pair (.buf YH0 0) .unit)))) .unit), YH4, P_ref08_Table_Unlink⟩
theorem h_ref08_Table_Unlink : RHolds Tryd.prog glob 76 c_ref08_Table_Unlink := rholds_a (con_cons h_ref08_leads (con_cons h_ref08_without (con_cons h_ref08_isName con_nil))) (rcon_cons h_ref08_Table_Find (rcon_cons h_ref08_Table_get (rcon_cons h_ref08_Table_place (rcon_cons h_ref08_Table_set rcon_nil)))) inv_nil Tryd.f76
noncomputable def c_ref08_Table_Hold : RCon := ⟨[true, false], YH4, (.pair (.ref 151 (.pair (.dat (.int .i64)) (.pair (.dat (.int .i64)) (.pair (.buf YH0 0) .unit)))) .unit), YH4, P_ref08_Table_Hold⟩
theorem h_ref08_Table_Hold : RHolds Tryd.prog glob 99 c_ref08_Table_Hold := rholds_a con_nil (rcon_cons h_ref08_Table_get (rcon_cons h_ref08_Table_set (rcon_cons h_ref08_Table_file rcon_nil))) inv_nil Tryd.f99
noncomputable def c_ref09_FS_gives : RCon := ⟨[true, false, false], YH2, (.pair (.ref 120 (.pair (.rf 151 (.pair (.dat (.int .i64)) (.pair (.dat (.int .i64)) (.pair (.buf YH0 0) .unit)))) (.pair (.buf YH5 0) .unit))) .unit), YH3, P_ref09_FS_gives⟩
theorem h_ref09_FS_gives : RHolds Tryd.prog glob 77 c_ref09_FS_gives := rholds_a con_nil (rcon_cons h_ref09_FS_holds (rcon_cons h_ref08_Table_get (rcon_cons h_ref08_Table_set (rcon_cons h_ref08_Table_Hold (rcon_cons h_ref08_Table_file rcon_nil))))) inv_nil Tryd.f77
noncomputable def c_ref08_Table_Link : RCon := ⟨[true, false, false, false], (.pair (.int .i64) YH13), (.pair (.ref 151 (.pair (.dat (.int .i64)) (.pair (.dat (.int .i64)) (.pair (.buf YH0 0) .unit)))) .unit), YH4, P_ref08_Table_Link⟩
theorem h_ref08_Table_Link : RHolds Tryd.prog glob 100 c_ref08_Table_Link := rholds_a (con_cons h_ref08_leads (con_cons h_ref08_with (con_cons h_ref08_isName con_nil))) (rcon_cons h_ref08_Table_get (rcon_cons h_ref08_Table_place (rcon_cons h_ref08_Table_set rcon_nil))) inv_nil Tryd.f100
noncomputable def c_ref09_FS_links : RCon := ⟨[true, false, false, false], (.pair (.int .i64) (.pair .str YH7)), (.pair (.ref 120 (.pair (.rf 151 (.pair (.dat (.int .i64)) (.pair (.dat (.int .i64)) (.pair (.buf YH0 0) .unit)))) (.pair (.buf YH5 0) .unit))) .unit), YH3, P_ref09_FS_links⟩
theorem h_ref09_FS_links : RHolds Tryd.prog glob 79 c_ref09_FS_links := rholds_a (con_cons h_ref07_Parts (con_cons h_ref08_leads (con_cons h_ref08_with (con_cons h_ref08_isName con_nil)))) (rcon_cons h_ref09_FS_walk (rcon_cons h_ref09_FS_place (rcon_cons h_ref08_Table_Find (rcon_cons h_ref08_Table_get (rcon_cons h_ref08_Table_place (rcon_cons h_ref08_Table_set (rcon_cons h_ref08_Table_Link rcon_nil))))))) inv_nil Tryd.f79
noncomputable def c_ref08_Table_Rename : RCon := ⟨[true, false, false, false, false], (.pair (.int .i64) (.pair .str YH13)), (.pair (.ref 151 (.pair (.dat (.int .i64)) (.pair (.dat (.int .i64)) (.pair (.buf YH0 0) .unit)))) .unit), YH4, P_ref08_Table_Rename⟩
theorem h_ref08_Table_Rename : RHolds Tryd.prog glob 80 c_ref08_Table_Rename := rholds_a (con_cons h_ref08_leads (con_cons h_ref08_with (con_cons h_ref08_without (con_cons h_ref08_isName con_nil)))) (rcon_cons h_ref08_Table_Find (rcon_cons h_ref08_Table_get (rcon_cons h_ref08_Table_place (rcon_cons h_ref08_Table_set rcon_nil)))) inv_nil Tryd.f80
noncomputable def c_ref09_FS_Do : RCon := ⟨[true, false, false], YH14, (.pair (.ref 120 (.pair (.rf 151 (.pair (.dat (.int .i64)) (.pair (.dat (.int .i64)) (.pair (.buf YH0 0) .unit)))) (.pair (.buf YH5 0) .unit))) .unit), YH3, P_ref09_FS_Do⟩
theorem h_ref09_FS_Do : RHolds Tryd.prog glob 54 c_ref09_FS_Do := rholds_a (con_cons h_ref09_right (con_cons h_ref07_Parts (con_cons h_ref08_leads (con_cons h_ref08_with (con_cons h_ref08_without (con_cons h_ref08_long (con_cons h_ref08_isName con_nil))))))) (rcon_cons h_ref09_FS_handled (rcon_cons h_ref09_FS_walk (rcon_cons h_ref08_Table_List (rcon_cons h_ref09_FS_many (rcon_cons h_ref09_FS_place (rcon_cons h_ref08_Table_Make (rcon_cons h_ref08_Table_Remove (rcon_cons h_ref08_Table_Unlink (rcon_cons h_ref09_FS_gives (rcon_cons h_ref08_Table_Find (rcon_cons h_ref09_FS_links (rcon_cons h_ref08_Table_Rename (rcon_cons h_ref09_FS_closes (rcon_cons h_ref09_FS_holds (rcon_cons h_ref08_Table_Read (rcon_cons h_ref08_Table_Write (rcon_cons h_ref08_Table_Truncate (rcon_cons h_ref08_Table_get (rcon_cons h_ref08_Table_place (rcon_cons h_ref08_Table_set (rcon_cons h_ref08_Table_Hold (rcon_cons h_ref08_Table_Link (rcon_cons h_ref08_Table_Drop (rcon_cons h_ref08_Table_file (rcon_cons h_ref08_Table_fits rcon_nil))))))))))))))))))))))))) inv_nil Tryd.f54
noncomputable def c_ref10_Disk_Do : RCon := ⟨[true, false, false], YH14, (.pair (.ref 88 (.pair (.rf 120 (.pair (.rf 151 (.pair (.dat (.int .i64)) (.pair (.dat (.int .i64)) (.pair (.buf YH0 0) .unit)))) (.pair (.buf YH5 0) .unit))) (.pair (.rf 120 (.pair (.rf 151 (.pair (.dat (.int .i64)) (.pair (.dat (.int .i64)) (.pair (.buf YH0 0) .unit)))) (.pair (.buf YH5 0) .unit))) (.pair (.buf YH6 0) .unit)))) .unit), YH3, P_ref10_Disk_Do⟩
theorem h_ref10_Disk_Do : RHolds Tryd.prog glob 30 c_ref10_Disk_Do := rholds_a (con_cons h_ref09_right (con_cons h_ref07_Parts (con_cons h_ref08_leads (con_cons h_ref08_with (con_cons h_ref08_without (con_cons h_ref08_long (con_cons h_ref08_isName con_nil))))))) (rcon_cons h_ref10_Disk_sync (rcon_cons h_ref09_FS_Do (rcon_cons h_ref09_FS_handled (rcon_cons h_ref09_FS_walk (rcon_cons h_ref08_Table_List (rcon_cons h_ref09_FS_many (rcon_cons h_ref09_FS_place (rcon_cons h_ref08_Table_Make (rcon_cons h_ref08_Table_Remove (rcon_cons h_ref08_Table_Unlink (rcon_cons h_ref09_FS_gives (rcon_cons h_ref08_Table_Find (rcon_cons h_ref09_FS_links (rcon_cons h_ref08_Table_Rename (rcon_cons h_ref09_FS_closes (rcon_cons h_ref09_FS_holds (rcon_cons h_ref08_Table_Read (rcon_cons h_ref08_Table_Write (rcon_cons h_ref08_Table_Truncate (rcon_cons h_ref08_Table_get (rcon_cons h_ref08_Table_place (rcon_cons h_ref08_Table_set (rcon_cons h_ref08_Table_Hold (rcon_cons h_ref08_Table_Link (rcon_cons h_ref08_Table_Drop (rcon_cons h_ref08_Table_file (rcon_cons h_ref08_Table_fits rcon_nil))))))))))))))))))))))))))) inv_nil Tryd.f30
noncomputable def c_ref25_World_Do : RCon := ⟨[true, false, false], YH14, (.pair (.ref 34 (.pair (.rf 88 (.pair (.rf 120 (.pair (.rf 151 (.pair (.dat (.int .i64)) (.pair (.dat (.int .i64)) (.pair (.buf YH0 0) .unit)))) (.pair (.buf YH5 0) .unit))) (.pair (.rf 120 (.pair (.rf 151 (.pair (.dat (.int .i64)) (.pair (.dat (.int .i64)) (.pair (.buf YH0 0) .unit)))) (.pair (.buf YH5 0) .unit))) (.pair (.buf YH6 0) .unit)))) (.pair (.rf 69 (.pair (.buf YH2 0) (.pair (.dat (.int .i64)) .unit))) .unit))) .unit), YH3, P_ref25_World_Do⟩
theorem h_ref25_World_Do : RHolds Tryd.prog glob 11 c_ref25_World_Do := rholds_a (con_cons h_ref09_right (con_cons h_ref07_Parts (con_cons h_ref08_leads (con_cons h_ref08_with (con_cons h_ref08_without (con_cons h_ref08_long (con_cons h_ref08_isName con_nil))))))) (rcon_cons h_ref11_Table_Birth (rcon_cons h_ref11_Table_Alive (rcon_cons h_ref10_Disk_Do (rcon_cons h_ref10_Disk_sync (rcon_cons h_ref09_FS_Do (rcon_cons h_ref09_FS_handled (rcon_cons h_ref09_FS_walk (rcon_cons h_ref08_Table_List (rcon_cons h_ref09_FS_many (rcon_cons h_ref09_FS_place (rcon_cons h_ref08_Table_Make (rcon_cons h_ref08_Table_Remove (rcon_cons h_ref08_Table_Unlink (rcon_cons h_ref09_FS_gives (rcon_cons h_ref08_Table_Find (rcon_cons h_ref09_FS_links (rcon_cons h_ref08_Table_Rename (rcon_cons h_ref09_FS_closes (rcon_cons h_ref09_FS_holds (rcon_cons h_ref08_Table_Read (rcon_cons h_ref08_Table_Write (rcon_cons h_ref08_Table_Truncate (rcon_cons h_ref08_Table_get (rcon_cons h_ref08_Table_place (rcon_cons h_ref08_Table_set (rcon_cons h_ref08_Table_Hold (rcon_cons h_ref08_Table_Link (rcon_cons h_ref08_Table_Drop (rcon_cons h_ref08_Table_file (rcon_cons h_ref08_Table_fits rcon_nil)))))))))))))))))))))))))))))) inv_nil Tryd.f11
noncomputable def c_ref09_FS_Owners : RCon := ⟨[true], .unit, (.pair (.ref 120 (.pair (.rf 151 (.pair (.dat (.int .i64)) (.pair (.dat (.int .i64)) (.pair (.buf YH0 0) .unit)))) (.pair (.buf YH5 0) .unit))) .unit), (.pair (.slice (.int .i64)) .unit), P_ref09_FS_Owners⟩
theorem h_ref09_FS_Owners : RHolds Tryd.prog glob 58 c_ref09_FS_Owners := rholds_a con_nil rcon_nil inv_nil Tryd.f58
noncomputable def c_ref09_FS_Exit : RCon := ⟨[true, false], YH4, (.pair (.ref 120 (.pair (.rf 151 (.pair (.dat (.int .i64)) (.pair (.dat (.int .i64)) (.pair (.buf YH0 0) .unit)))) (.pair (.buf YH5 0) .unit))) .unit), .unit, P_ref09_FS_Exit⟩
theorem h_ref09_FS_Exit : RHolds Tryd.prog glob 59 c_ref09_FS_Exit := rholds_a con_nil (rcon_cons h_ref09_FS_closes (rcon_cons h_ref08_Table_get (rcon_cons h_ref08_Table_set (rcon_cons h_ref08_Table_Drop rcon_nil)))) inv_nil Tryd.f59
noncomputable def c_ref10_Disk_Exit : RCon := ⟨[true, false], YH4, (.pair (.ref 88 (.pair (.rf 120 (.pair (.rf 151 (.pair (.dat (.int .i64)) (.pair (.dat (.int .i64)) (.pair (.buf YH0 0) .unit)))) (.pair (.buf YH5 0) .unit))) (.pair (.rf 120 (.pair (.rf 151 (.pair (.dat (.int .i64)) (.pair (.dat (.int .i64)) (.pair (.buf YH0 0) .unit)))) (.pair (.buf YH5 0) .unit))) (.pair (.buf YH6 0) .unit)))) .unit), .unit, P_ref10_Disk_Exit⟩
theorem h_ref10_Disk_Exit : RHolds Tryd.prog glob 37 c_ref10_Disk_Exit := rholds_a con_nil (rcon_cons h_ref09_FS_Owners (rcon_cons h_ref09_FS_Exit (rcon_cons h_ref09_FS_closes (rcon_cons h_ref08_Table_get (rcon_cons h_ref08_Table_set (rcon_cons h_ref08_Table_Drop rcon_nil)))))) inv_nil Tryd.f37
noncomputable def c_ref11_Table_Kill : RCon := ⟨[true, false], YH4, (.pair (.ref 69 (.pair (.buf YH2 0) (.pair (.dat (.int .i64)) .unit))) .unit), YH4, P_ref11_Table_Kill⟩
theorem h_ref11_Table_Kill : RHolds Tryd.prog glob 38 c_ref11_Table_Kill := rholds_a con_nil rcon_nil inv_nil Tryd.f38
noncomputable def c_ref25_World_Kill : RCon := ⟨[true, false], YH4, (.pair (.ref 34 (.pair (.rf 88 (.pair (.rf 120 (.pair (.rf 151 (.pair (.dat (.int .i64)) (.pair (.dat (.int .i64)) (.pair (.buf YH0 0) .unit)))) (.pair (.buf YH5 0) .unit))) (.pair (.rf 120 (.pair (.rf 151 (.pair (.dat (.int .i64)) (.pair (.dat (.int .i64)) (.pair (.buf YH0 0) .unit)))) (.pair (.buf YH5 0) .unit))) (.pair (.buf YH6 0) .unit)))) (.pair (.rf 69 (.pair (.buf YH2 0) (.pair (.dat (.int .i64)) .unit))) .unit))) .unit), YH4, P_ref25_World_Kill⟩
theorem h_ref25_World_Kill : RHolds Tryd.prog glob 17 c_ref25_World_Kill := rholds_a con_nil (rcon_cons h_ref11_Table_Birth (rcon_cons h_ref10_Disk_Exit (rcon_cons h_ref11_Table_Kill (rcon_cons h_ref09_FS_Owners (rcon_cons h_ref09_FS_Exit (rcon_cons h_ref09_FS_closes (rcon_cons h_ref08_Table_get (rcon_cons h_ref08_Table_set (rcon_cons h_ref08_Table_Drop rcon_nil))))))))) inv_nil Tryd.f17
noncomputable def c_ref09_FS_node : RCon := ⟨[true, false], YH4, (.pair (.ref 120 (.pair (.rf 151 (.pair (.dat (.int .i64)) (.pair (.dat (.int .i64)) (.pair (.buf YH0 0) .unit)))) (.pair (.buf YH5 0) .unit))) .unit), (.pair YH0 .unit), P_ref09_FS_node⟩
theorem h_ref09_FS_node : RHolds Tryd.prog glob 84 c_ref09_FS_node := rholds_a con_nil rcon_nil inv_nil Tryd.f84
noncomputable def c_ref07_Join : Con := ⟨(.pair .str YH7), YH7, P_ref07_Join⟩
theorem h_ref07_Join : HoldsG 85 c_ref07_Join := holds_b con_nil Tryd.f85
noncomputable def c_ref09_FS_under : RCon := ⟨[true, false, false, false], YH12, (.pair (.ref 120 (.pair (.rf 151 (.pair (.dat (.int .i64)) (.pair (.dat (.int .i64)) (.pair (.buf YH0 0) .unit)))) (.pair (.buf YH5 0) .unit))) .unit), YH9, P_ref09_FS_under⟩
theorem hF_ref09_FS_under (rec : (YH12 : Ty).den × ((.pair (.ref 120 (.pair (.rf 151 (.pair (.dat (.int .i64)) (.pair (.dat (.int .i64)) (.pair (.buf YH0 0) .unit)))) (.pair (.buf YH5 0) .unit))) .unit) : OT).den → Option ((YH9 : Ty).den × ((.pair (.ref 120 (.pair (.rf 151 (.pair (.dat (.int .i64)) (.pair (.dat (.int .i64)) (.pair (.buf YH0 0) .unit)))) (.pair (.buf YH5 0) .unit))) .unit) : OT).den)) (hrec : RHolds Tryd.prog glob 61 ⟨[true, false, false, false], YH12, (.pair (.ref 120 (.pair (.rf 151 (.pair (.dat (.int .i64)) (.pair (.dat (.int .i64)) (.pair (.buf YH0 0) .unit)))) (.pair (.buf YH5 0) .unit))) .unit), YH9, rec⟩) : RHolds Tryd.prog glob 61 ⟨[true, false, false, false], YH12, (.pair (.ref 120 (.pair (.rf 151 (.pair (.dat (.int .i64)) (.pair (.dat (.int .i64)) (.pair (.buf YH0 0) .unit)))) (.pair (.buf YH5 0) .unit))) .unit), YH9, F_ref09_FS_under rec⟩ := rholds_at (con := [(85, c_ref07_Join)]) (rcon := [(122, ⟨[true, false, false, false], YH12, (.pair (.ref 120 (.pair (.rf 151 (.pair (.dat (.int .i64)) (.pair (.dat (.int .i64)) (.pair (.buf YH0 0) .unit)))) (.pair (.buf YH5 0) .unit))) .unit), YH9, rec⟩), (168, c_ref09_FS_node)]) (inv := []) (con_cons h_ref07_Join con_nil) (rcon_cons hrec (rcon_cons h_ref09_FS_node rcon_nil)) inv_nil (fn := Tryd.f61) rfl (by kernel_rfl) (fun x => by kernel_rfl)
theorem h_ref09_FS_under : RHolds Tryd.prog glob 61 c_ref09_FS_under := rholds_rec Tryd.func61 (by kernel_rfl) (by kernel_rfl) hF_ref09_FS_under S_ref09_FS_under S_ref09_FS_under_zero S_ref09_FS_under_step S_ref09_FS_under_all
noncomputable def c_ref09_FS_Files : RCon := ⟨[true], .unit, (.pair (.ref 120 (.pair (.rf 151 (.pair (.dat (.int .i64)) (.pair (.dat (.int .i64)) (.pair (.buf YH0 0) .unit)))) (.pair (.buf YH5 0) .unit))) .unit), YH9, P_ref09_FS_Files⟩
theorem h_ref09_FS_Files : RHolds Tryd.prog glob 40 c_ref09_FS_Files := rholds_a (con_cons h_ref07_Join con_nil) (rcon_cons h_ref09_FS_under (rcon_cons h_ref09_FS_node rcon_nil)) inv_nil Tryd.f40
noncomputable def c_ref07_Under : Con := ⟨(.pair .str YH7), YH11, P_ref07_Under⟩
theorem h_ref07_Under : HoldsG 60 c_ref07_Under := holds_b (con_cons h_ref07_Parts con_nil) Tryd.f60
noncomputable def c_ref10_Disk_Cut : RCon := ⟨[true, false], YH4, (.pair (.ref 88 (.pair (.rf 120 (.pair (.rf 151 (.pair (.dat (.int .i64)) (.pair (.dat (.int .i64)) (.pair (.buf YH0 0) .unit)))) (.pair (.buf YH5 0) .unit))) (.pair (.rf 120 (.pair (.rf 151 (.pair (.dat (.int .i64)) (.pair (.dat (.int .i64)) (.pair (.buf YH0 0) .unit)))) (.pair (.buf YH5 0) .unit))) (.pair (.buf YH6 0) .unit)))) .unit), .unit, P_ref10_Disk_Cut⟩
theorem h_ref10_Disk_Cut : RHolds Tryd.prog glob 39 c_ref10_Disk_Cut := rholds_a (con_cons h_ref07_Under (con_cons h_ref09_right (con_cons h_ref07_Parts (con_cons h_ref07_Join (con_cons h_ref08_leads (con_cons h_ref08_with (con_cons h_ref08_without (con_cons h_ref08_long (con_cons h_ref08_isName con_nil))))))))) (rcon_cons h_ref09_FS_Files (rcon_cons h_ref10_Disk_sync (rcon_cons h_ref09_FS_Do (rcon_cons h_ref09_FS_Owners (rcon_cons h_ref09_FS_Exit (rcon_cons h_ref09_FS_under (rcon_cons h_ref09_FS_handled (rcon_cons h_ref09_FS_walk (rcon_cons h_ref08_Table_List (rcon_cons h_ref09_FS_many (rcon_cons h_ref09_FS_place (rcon_cons h_ref08_Table_Make (rcon_cons h_ref08_Table_Remove (rcon_cons h_ref08_Table_Unlink (rcon_cons h_ref09_FS_gives (rcon_cons h_ref08_Table_Find (rcon_cons h_ref09_FS_links (rcon_cons h_ref08_Table_Rename (rcon_cons h_ref09_FS_closes (rcon_cons h_ref09_FS_node (rcon_cons h_ref09_FS_holds (rcon_cons h_ref08_Table_Read (rcon_cons h_ref08_Table_Write (rcon_cons h_ref08_Table_Truncate (rcon_cons h_ref08_Table_get (rcon_cons h_ref08_Table_place (rcon_cons h_ref08_Table_set (rcon_cons h_ref08_Table_Hold (rcon_cons h_ref08_Table_Link (rcon_cons h_ref08_Table_Drop (rcon_cons h_ref08_Table_file (rcon_cons h_ref08_Table_fits rcon_nil)))))))))))))))))))))))))))))))) inv_nil Tryd.f39
noncomputable def c_ref25_World_Power : RCon := ⟨[true, false], YH4, (.pair (.ref 34 (.pair (.rf 88 (.pair (.rf 120 (.pair (.rf 151 (.pair (.dat (.int .i64)) (.pair (.dat (.int .i64)) (.pair (.buf YH0 0) .unit)))) (.pair (.buf YH5 0) .unit))) (.pair (.rf 120 (.pair (.rf 151 (.pair (.dat (.int .i64)) (.pair (.dat (.int .i64)) (.pair (.buf YH0 0) .unit)))) (.pair (.buf YH5 0) .unit))) (.pair (.buf YH6 0) .unit)))) (.pair (.rf 69 (.pair (.buf YH2 0) (.pair (.dat (.int .i64)) .unit))) .unit))) .unit), .unit, P_ref25_World_Power⟩
theorem h_ref25_World_Power : RHolds Tryd.prog glob 18 c_ref25_World_Power := rholds_a (con_cons h_ref07_Under (con_cons h_ref09_right (con_cons h_ref07_Parts (con_cons h_ref07_Join (con_cons h_ref08_leads (con_cons h_ref08_with (con_cons h_ref08_without (con_cons h_ref08_long (con_cons h_ref08_isName con_nil))))))))) (rcon_cons h_ref10_Disk_Cut (rcon_cons h_ref09_FS_Files (rcon_cons h_ref10_Disk_sync (rcon_cons h_ref09_FS_Do (rcon_cons h_ref09_FS_Owners (rcon_cons h_ref09_FS_Exit (rcon_cons h_ref09_FS_under (rcon_cons h_ref09_FS_handled (rcon_cons h_ref09_FS_walk (rcon_cons h_ref08_Table_List (rcon_cons h_ref09_FS_many (rcon_cons h_ref09_FS_place (rcon_cons h_ref08_Table_Make (rcon_cons h_ref08_Table_Remove (rcon_cons h_ref08_Table_Unlink (rcon_cons h_ref09_FS_gives (rcon_cons h_ref08_Table_Find (rcon_cons h_ref09_FS_links (rcon_cons h_ref08_Table_Rename (rcon_cons h_ref09_FS_closes (rcon_cons h_ref09_FS_node (rcon_cons h_ref09_FS_holds (rcon_cons h_ref08_Table_Read (rcon_cons h_ref08_Table_Write (rcon_cons h_ref08_Table_Truncate (rcon_cons h_ref08_Table_get (rcon_cons h_ref08_Table_place (rcon_cons h_ref08_Table_set (rcon_cons h_ref08_Table_Hold (rcon_cons h_ref08_Table_Link (rcon_cons h_ref08_Table_Drop (rcon_cons h_ref08_Table_file (rcon_cons h_ref08_Table_fits rcon_nil))))))))))))))))))))))))))))))))) inv_nil Tryd.f18
noncomputable def c_law27_has : RCon := ⟨[true, false], YH7, (.pair (.ref 34 (.pair (.rf 88 (.pair (.rf 120 (.pair (.rf 151 (.pair (.dat (.int .i64)) (.pair (.dat (.int .i64)) (.pair (.buf YH0 0) .unit)))) (.pair (.buf YH5 0) .unit))) (.pair (.rf 120 (.pair (.rf 151 (.pair (.dat (.int .i64)) (.pair (.dat (.int .i64)) (.pair (.buf YH0 0) .unit)))) (.pair (.buf YH5 0) .unit))) (.pair (.buf YH6 0) .unit)))) (.pair (.rf 69 (.pair (.buf YH2 0) (.pair (.dat (.int .i64)) .unit))) .unit))) .unit), (.pair .str YH11), P_law27_has⟩
theorem h_law27_has : RHolds Tryd.prog glob 19 c_law27_has := rholds_a (con_cons h_ref07_Join con_nil) (rcon_cons h_ref09_FS_Files (rcon_cons h_ref09_FS_under (rcon_cons h_ref09_FS_node rcon_nil))) inv_nil Tryd.f19
noncomputable def c_law27_SwapWhole : Con := ⟨(.pair .str (.pair .str (.pair (.arr 2 (.int .i64)) .unit))), YH11, P_law27_SwapWhole⟩
theorem h_law27_SwapWhole : HoldsG 4 c_law27_SwapWhole := holds_a (con_cons h_law27_awake (con_cons h_steps_answer (con_cons h_slices_Contains_api_Errno_api_Errno (con_cons h_ref07_Under (con_cons h_ref09_right (con_cons h_ref07_Parts (con_cons h_steps_pause (con_cons h_ref07_Join (con_cons h_ref08_leads (con_cons h_ref08_with (con_cons h_ref08_without (con_cons h_ref08_long (con_cons h_ref08_isName con_nil))))))))))))) (rcon_cons h_ref11_Table_Spawn (rcon_cons h_ref25_World_Do (rcon_cons h_steps_Run_Begin (rcon_cons h_swap_Put (rcon_cons h_steps_Run_Want (rcon_cons h_steps_Run_Give (rcon_cons h_ref25_World_Kill (rcon_cons h_ref25_World_Power (rcon_cons h_law27_has (rcon_cons h_ref11_Table_Birth (rcon_cons h_ref11_Table_Alive (rcon_cons h_ref10_Disk_Do (rcon_cons h_steps_Run_isGiven (rcon_cons h_swap_Write (rcon_cons h_swap_waits (rcon_cons h_swap_ask (rcon_cons h_swap_undone (rcon_cons h_ref10_Disk_Exit (rcon_cons h_ref11_Table_Kill (rcon_cons h_ref10_Disk_Cut (rcon_cons h_ref09_FS_Files (rcon_cons h_ref10_Disk_sync (rcon_cons h_ref09_FS_Do (rcon_cons h_steps_Run_Do (rcon_cons h_ref09_FS_Owners (rcon_cons h_ref09_FS_Exit (rcon_cons h_ref09_FS_under (rcon_cons h_ref09_FS_handled (rcon_cons h_ref09_FS_walk (rcon_cons h_ref08_Table_List (rcon_cons h_ref09_FS_many (rcon_cons h_ref09_FS_place (rcon_cons h_ref08_Table_Make (rcon_cons h_ref08_Table_Remove (rcon_cons h_ref08_Table_Unlink (rcon_cons h_ref09_FS_gives (rcon_cons h_ref08_Table_Find (rcon_cons h_ref09_FS_links (rcon_cons h_ref08_Table_Rename (rcon_cons h_ref09_FS_closes (rcon_cons h_ref09_FS_node (rcon_cons h_ref09_FS_holds (rcon_cons h_ref08_Table_Read (rcon_cons h_ref08_Table_Write (rcon_cons h_ref08_Table_Truncate (rcon_cons h_ref08_Table_get (rcon_cons h_ref08_Table_place (rcon_cons h_ref08_Table_set (rcon_cons h_ref08_Table_Hold (rcon_cons h_ref08_Table_Link (rcon_cons h_ref08_Table_Drop (rcon_cons h_ref08_Table_file (rcon_cons h_ref08_Table_fits rcon_nil))))))))))))))))))))))))))))))))))))))))))))))))))))) inv_nil Tryd.f4
end Go.Proofs.YtkgjcocemmnpjaaDoor
