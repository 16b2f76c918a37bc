/- The layer's functions keep their contracts: each comes to its plain definition, by the ghost interpreter. -/
import Derived.Test.YtgofkhjgokaiaaaRows
import Derived.Test.YtgofkhjgokaiaaaPlB
namespace Go.Proofs.Ytgofkhjgokaiaaa
open Go Go.Ge
set_option linter.unusedVariables false
set_option linter.unusedSectionVars false
set_option maxRecDepth 100000
variable [Lp]

def cy (s : List (Nat × Nat)) (m : List Nat) : Option Plan := some ⟨s, m, false⟩
def cz (s : List (Nat × Nat)) : Option Plan := some ⟨s, [], false⟩
def fp (a : List (Option Plan)) : FPlan := ⟨a, []⟩
abbrev YH0 : Ty := (.pair (.int .i64) (.pair .bool (.pair (.int .i64) (.pair (.int .i64) (.pair .str (.pair (.slice (.pair .str (.pair (.int .i64) .unit))) .unit))))))
abbrev YH1 : Ty := (.pair (.int .i64) (.pair .str (.pair .str (.pair (.int .i64) (.pair (.int .i64) (.pair (.int .i64) (.pair .str (.pair (.int .i64) (.pair (.int .i64) .unit)))))))))
abbrev YH2 : Ty := (.pair (.pair (.int .i64) (.pair (.int .i64) (.pair .str (.pair (.slice .str) .unit)))) .unit)
abbrev YH3 : Ty := (.pair (.int .i64) .unit)
abbrev YH4 : Ty := (.pair (.int .i64) (.pair (.int .i64) YH3))
abbrev YH5 : Ty := (.slice (.pair .str (.pair .bool (.pair .str .unit))))
abbrev YH6 : Ty := (.pair (.int .i64) YH3)
abbrev YH7 : Ty := (.pair (.int .i64) (.pair (.int .i64) (.pair (.int .i64) (.pair YH1 .unit))))
abbrev YH8 : Ty := (.pair (.int .i64) (.pair .bool (.pair YH1 .unit)))
abbrev YH9 : Ty := (.pair .str .unit)
abbrev YH10 : Ty := (.pair (.int .i64) (.pair (.int .i64) (.pair (.slice YH0) .unit)))
abbrev YH11 : Ty := (.pair (.int .i64) (.pair (.int .i64) (.pair .str (.pair (.slice .str) .unit))))
abbrev YH12 : Ty := (.pair .bool .unit)
abbrev YH13 : Ty := (.pair (.int .i64) (.pair .str YH3))
abbrev YH14 : Ty := (.pair (.int .i64) YH9)
abbrev YH15 : Ty := (.pair (.int .i64) (.pair YH1 .unit))
noncomputable def plans : Nat → FPlan
  | 3 => fp [none, none, cz [(2, 4), (7, 3)], none, none, cy [(2, 4), (9, 41), (10, 4), (11, 3)] [3, 8, 3888887], none, none, none, none, cy [(2, 4), (16, 3), (17, 3)] [5, 3888887], none, none]
  | 5 => fp [cz [(4, 4), (5, 3)], none, none]
  | 6 => fp [none]
  | 7 => ⟨[none], [9000018]⟩
  | 8 => ⟨[none, none, none, cz [(8, 3)], none], [9]⟩
  | 10 => fp [cy [] [0]]
  | 11 => ⟨[cy [(4, 41), (5, 4), (6, 41), (7, 3), (8, 3)] [0, 6], none, none], [6]⟩
  | 12 => fp [none]
  | 13 => fp [none]
  | 14 => fp [none, none, none]
  | 15 => fp [none]
  | 16 => fp [none, cz [(4, 4), (5, 3)], none, none]
  | 17 => fp [none, cz [(4, 4), (5, 3)], none, none]
  | 20 => fp [none, none, none, none]
  | 22 => fp [cz [(4, 4), (5, 3)], none, none]
  | 23 => fp [none]
  | 24 => fp [cz [(4, 3), (5, 26), (6, 3)], none, none]
  | 28 => fp [none, cy [] [0]]
  | 29 => ⟨[cy [(9, 54), (11, 3)] [0, 9, 3888887], none], [9]⟩
  | 31 => fp [none]
  | 32 => ⟨[], [3]⟩
  | 33 => ⟨[none], [5]⟩
  | 34 => ⟨[], [8000000, 8000001]⟩
  | 35 => fp [none, cz [(29, 4)], cz [(29, 4)], cz [(29, 4)], cz [(29, 4)], none, none, none, none, none, none, none, none, none, none, none, none, none, none]
  | 36 => fp [cy [(5, 3)] [4], none, none]
  | 37 => fp [none, none]
  | 38 => ⟨[none], [4000012]⟩
  | 39 => ⟨[], [3]⟩
  | 40 => fp [cz [(5, 4)], cz [(5, 4)], cz [(5, 4)], cz [(5, 4)], none, cz [(19, 4)], none, none]
  | 41 => fp [none, none, none, none, none]
  | 42 => fp [cy [(4, 3), (5, 26), (6, 3), (7, 3)] [0, 6], none, none]
  | 43 => ⟨[none, cy [(3, 47), (4, 9), (5, 3)] [3], none, cy [(3, 47), (4, 9)] [3]], [3]⟩
  | 44 => ⟨[none, none, cy [(8, 47), (9, 3)] [8], none], [8]⟩
  | 45 => fp [cz [(5, 3), (6, 3)], none, cz [(5, 3)]]
  | 46 => fp [none]
  | 47 => fp [none, none, none, none]
  | 48 => fp [none, none, none]
  | 49 => fp [none, none]
  | 50 => fp [none, cy [(8, 3), (9, 3)] [0, 3888887], none]
  | 51 => fp [none, none]
  | 52 => fp [none, none]
  | 53 => fp [none, none, none, none, cy [(10, 26)] [0, 17], none]
  | 54 => fp [cz [(2, 4), (4, 3)], none, none]
  | 55 => fp [cz [(6, 3), (7, 3)], none, none]
  | 56 => ⟨[cy [(6, 106), (7, 3)] [0, 6], none, cy [(6, 106)] [0, 6]], [6]⟩
  | 57 => fp [none]
  | 58 => fp [none, none, none, none]
  | 59 => fp [none, none]
  | 60 => fp [cy [(5, 4), (6, 3)] [4], none, none]
  | 61 => fp [none, none, none]
  | 62 => fp [cz [(4, 3), (5, 3)], none, none]
  | 63 => fp [cz [(3, 3), (4, 3)], none]
  | 64 => ⟨[cy [(4, 124), (5, 3)] [4], none, cy [(4, 124)] [4], cy [(4, 124)] [4]], [4]⟩
  | 65 => ⟨[cz [(6, 3)], none], [5]⟩
  | 66 => ⟨[cy [(5, 96), (6, 3)] [5], none, cy [(5, 96)] [5]], [5]⟩
  | 67 => fp [none, none]
  | 68 => fp [none, none, none, none]
  | 69 => fp [cz [(2, 4), (3, 3)], none, none]
  | 70 => fp [none, none]
  | 71 => fp [none, none, none]
  | 72 => fp [none, none]
  | 73 => fp [cy [(5, 148)] [5], none]
  | 74 => fp [cz [(2, 4), (3, 3)], none, none]
  | _ => ⟨[], []⟩

def objs : List (Nat × List OFld) := [(67, [.dat .bool, .buf (.pair YH1 YH2) 86, .dat (.int .i64), .dat .bool, .dat .bool, .dat YH1]), (126, [.dat (.int .i64), .dat (.int .i64), .buf YH0 0]), (108, [.one, .buf YH4 0]), (58, [.one, .one, .buf YH8 0]), (81, [.buf YH6 0, .dat (.int .i64)]), (33, [.one, .one])]
def els : List (Nat × Nat) := [(65, 86), (68, 39)]
noncomputable def spc : List (Nat × Spc) := [(63, .look [true] (.pair YH10 .unit) YH3 P_ref08_Table_Used)]
noncomputable def tys : List (Nat × Ty) := [(3, (.int .i64)), (4, .bool), (5, (.int .u8)), (9, .str), (22, (.slice YH7)), (26, (.int .i64)), (36, YH1), (38, YH7), (41, (.slice YH11)), (47, (.slice .str)), (49, YH11), (54, YH5), (56, (.slice YH8)), (62, (.pair (.int .i64) (.pair YH1 YH2))), (64, (.slice (.pair (.int .i64) (.pair YH1 YH2)))), (65, (.slice (.pair YH1 YH2))), (70, (.slice YH1)), (76, YH8), (79, (.slice YH6)), (83, YH6), (86, (.pair YH1 YH2)), (89, (.pair .str (.pair .bool YH9))), (96, (.slice (.pair .str YH3))), (98, YH0), (101, (.pair .str YH3)), (106, (.slice YH4)), (124, (.slice YH0)), (137, YH4), (148, (.slice (.int .u8)))]
noncomputable def funs : List (Nat × Func) := [(3, Try.f3), (5, Try.f5), (6, Try.f6), (7, Try.f7), (8, Try.f8), (9, Try.f9), (10, Try.f10), (11, Try.f11), (12, Try.f12), (13, Try.f13), (14, Try.f14), (15, Try.f15), (16, Try.f16), (17, Try.f17), (18, Try.f18), (20, Try.f20), (22, Try.f22), (23, Try.f23), (24, Try.f24), (25, Try.f25), (26, Try.f26), (27, Try.f27), (28, Try.f28), (29, Try.f29), (30, Try.f30), (31, Try.f31), (32, Try.f32), (33, Try.f33), (34, Try.f34), (35, Try.f35), (36, Try.f36), (37, Try.f37), (38, Try.f38), (39, Try.f39), (40, Try.f40), (41, Try.f41), (42, Try.f42), (43, Try.f43), (44, Try.f44), (45, Try.f45), (46, Try.f46), (47, Try.f47), (48, Try.f48), (49, Try.f49), (50, Try.f50), (51, Try.f51), (52, Try.f52), (53, Try.f53), (54, Try.f54), (55, Try.f55), (56, Try.f56), (57, Try.f57), (58, Try.f58), (59, Try.f59), (60, Try.f60), (61, Try.f61), (62, Try.f62), (63, Try.f63), (64, Try.f64), (65, Try.f65), (66, Try.f66), (67, Try.f67), (68, Try.f68), (69, Try.f69), (70, Try.f70), (71, Try.f71), (72, Try.f72), (73, Try.f73), (74, Try.f74)]
def ones : List Nat := [25, 30, 31, 39, 55, 103]
def ptrs : List Nat := [25, 30, 31, 39, 55, 103]
noncomputable def cxOf (con : List (Nat × Con)) (rcon : List (Nat × RCon)) (inv : List (String × Con) := []) : Ctx := ⟨tys, ones, ptrs, funs, con, rcon, objs, spc, els, inv⟩

theorem mix : Try.prog.follows .mixedOrders = true := by kernel_rfl

theorem T_ok : ∀ tid t, find tys tid = some t → Den Try.prog t tid := tys_ok (by kernel_rfl)
theorem ones_ok : ∀ tid, memN ones tid = true → (∀ w, (isAgg tid).run Try.prog w = .ok false w) ∧ (∀ w, (Go.sizeOf tid).run Try.prog w = .ok 1 w) ∧ ∃ z, (∀ w, (zeroValue tid).run Try.prog w = .ok z w) ∧ z.oneCell' = true := ones_of (by kernel_rfl)
theorem ptrs_ok : ∀ tid, memN ptrs tid = true → ∃ e, Try.prog.underlying tid = some (.pointer e) := ptrs_of (by kernel_rfl)
theorem fns_ok : ∀ f fn, find funs f = some fn → Try.prog.funcs[f]? = some fn := fns_of ((fns_cons Try.func3 (fns_cons Try.func5 (fns_cons Try.func6 (fns_cons Try.func7 (fns_cons Try.func8 (fns_cons Try.func9 (fns_cons Try.func10 (fns_cons Try.func11 (fns_cons Try.func12 (fns_cons Try.func13 (fns_cons Try.func14 (fns_cons Try.func15 (fns_cons Try.func16 (fns_cons Try.func17 (fns_cons Try.func18 (fns_cons Try.func20 (fns_cons Try.func22 (fns_cons Try.func23 (fns_cons Try.func24 (fns_cons Try.func25 (fns_cons Try.func26 (fns_cons Try.func27 (fns_cons Try.func28 (fns_cons Try.func29 (fns_cons Try.func30 (fns_cons Try.func31 (fns_cons Try.func32 (fns_cons Try.func33 (fns_cons Try.func34 (fns_cons Try.func35 (fns_cons Try.func36 (fns_cons Try.func37 (fns_cons Try.func38 (fns_cons Try.func39 (fns_cons Try.func40 (fns_cons Try.func41 (fns_cons Try.func42 (fns_cons Try.func43 (fns_cons Try.func44 (fns_cons Try.func45 (fns_cons Try.func46 (fns_cons Try.func47 (fns_cons Try.func48 (fns_cons Try.func49 (fns_cons Try.func50 (fns_cons Try.func51 (fns_cons Try.func52 (fns_cons Try.func53 (fns_cons Try.func54 (fns_cons Try.func55 (fns_cons Try.func56 (fns_cons Try.func57 (fns_cons Try.func58 (fns_cons Try.func59 (fns_cons Try.func60 (fns_cons Try.func61 (fns_cons Try.func62 (fns_cons Try.func63 (fns_cons Try.func64 (fns_cons Try.func65 (fns_cons Try.func66 (fns_cons Try.func67 (fns_cons Try.func68 (fns_cons Try.func69 (fns_cons Try.func70 (fns_cons Try.func71 (fns_cons Try.func72 (fns_cons Try.func73 (fns_cons Try.func74 fns_nil))))))))))))))))))))))))))))))))))))))))))))))))))))))))))))))))))))))
theorem objs_ok : ∀ tid fs, find objs tid = some fs → objB Try.prog tid fs = true := objs_of (by kernel_rfl)
theorem els_ok : ∀ tid e, find els tid = some e → Try.prog.underlying tid = some (.slice e) := els_of (by kernel_rfl)
theorem cx_ok (con : List (Nat × Con)) (rcon : List (Nat × RCon)) (inv : List (String × Con) := []) : CxOk Try.prog (cxOf con rcon inv) := ⟨T_ok, ones_ok, ptrs_ok, fns_ok, objs_ok, els_ok⟩
noncomputable def cxL_ref08_Table_Used : Ctx := ⟨[(126, YH10), (125, YH10)] ++ tys, ones, ptrs, funs, [], [], objs.filter fun p => !memN [126, 125] p.1, [], els, []⟩
theorem cxL_ok_ref08_Table_Used : CxOk Try.prog cxL_ref08_Table_Used := ⟨tys_ok (by kernel_rfl), ones_ok, ptrs_ok, fns_ok, objs_of (by kernel_rfl), els_ok⟩
theorem s_ref08_Table_Used : SpcOk Try.prog 63 (.look [true] (.pair YH10 .unit) YH3 P_ref08_Table_Used) := by
  obtain ⟨code, hcode⟩ := Option.isSome_iff_exists.1 (show (Try.f63 : Func).body.isSome = true by kernel_rfl)
  exact look_of_sem mix cxL_ok_ref08_Table_Used (conOk_of con_nil rcon_nil spc_nil inv_nil) (fnsOk_of (cx := cxL_ref08_Table_Used) (show (funs.all fun p => fnOk p.2) = true by kernel_rfl)) (plans := plans) (n := 12) (by rfl) hcode rfl (fun x y h => by rw [show semL cxL_ref08_Table_Used 12 plans 63 [true] (.pair YH10 .unit) YH3 x = P_ref08_Table_Used x by kernel_rfl]; exact h)
theorem spc_ok : ∀ p ∈ spc, SpcOk Try.prog p.1 p.2 := (spc_cons s_ref08_Table_Used spc_nil)
theorem funs_ok (con : List (Nat × Con)) (rcon : List (Nat × RCon)) (inv : List (String × Con) := []) : FnsOk (cxOf con rcon inv) := fnsOk_of (cx := cxOf con rcon inv) (show (funs.all fun p => fnOk p.2) = true by kernel_rfl)

def glob : Globs := noGlobs
theorem holds_at {con : List (Nat × Con)} {rcon : List (Nat × RCon)} {inv : List (String × Con)} (hcon : ∀ p ∈ con, Holds Try.prog glob p.1 p.2) (hrcon : ∀ p ∈ rcon, RHolds Try.prog glob (p.1 / 2) p.2) (hinv : ∀ p ∈ inv, IHolds Try.prog glob p.1 p.2) {f : Nat} {fn : Func} {A R : Ty} {spec : A.den → Option R.den} (hfn : find funs f = some fn) (hb : fn.body.isSome = true)
    (hs : ∀ x, sem (cxOf con rcon inv) 12 plans f A R x = spec x) : Holds Try.prog glob f ⟨A, R, spec⟩ := by
  obtain ⟨code, hcode⟩ := Option.isSome_iff_exists.1 hb
  exact holds_of_sem mix (cx_ok con rcon inv) (conOk_of hcon hrcon spc_ok hinv) (funs_ok con rcon inv) (f := f) hfn hcode (fun x y h => by rw [hs]; exact h)

theorem rholds_at {con : List (Nat × Con)} {rcon : List (Nat × RCon)} {inv : List (String × Con)} (hcon : ∀ p ∈ con, Holds Try.prog glob p.1 p.2) (hrcon : ∀ p ∈ rcon, RHolds Try.prog glob (p.1 / 2) p.2) (hinv : ∀ p ∈ inv, IHolds Try.prog glob p.1 p.2) {f : Nat} {fn : Func} {ps : List Bool} {A : Ty} {U : OT} {R : Ty} {spec : A.den × U.den → Option (R.den × U.den)} (hfn : find funs f = some fn) (hb : fn.body.isSome = true)
    (hs : ∀ x, semR (cxOf con rcon inv) 12 plans f ps A U R x = spec x) : RHolds Try.prog glob f ⟨ps, A, U, R, spec⟩ := by
  obtain ⟨code, hcode⟩ := Option.isSome_iff_exists.1 hb
  exact rholds_of_sem mix (cx_ok con rcon inv) (conOk_of hcon hrcon spc_ok hinv) (funs_ok con rcon inv) (f := f) hfn hcode (fun x y h => by rw [hs]; exact h)

theorem holds_a {con : List (Nat × Con)} {rcon : List (Nat × RCon)} {inv : List (String × Con)} (hcon : ∀ p ∈ con, Holds Try.prog glob p.1 p.2) (hrcon : ∀ p ∈ rcon, RHolds Try.prog glob (p.1 / 2) p.2) (hinv : ∀ p ∈ inv, IHolds Try.prog glob p.1 p.2) (fn : Func) {f : Nat} {A R : Ty} {spec : A.den → Option R.den} (hfn : find funs f = some fn := by rfl) (hb : fn.body.isSome = true := by kernel_rfl)
    (hs : ∀ x, sem (cxOf con rcon inv) 12 plans f A R x = spec x := by intro x; kernel_rfl) : Holds Try.prog glob f ⟨A, R, spec⟩ := holds_at hcon hrcon hinv hfn hb hs
theorem holds_b {con : List (Nat × Con)} (hcon : ∀ p ∈ con, Holds Try.prog glob p.1 p.2) (fn : Func) {f : Nat} {A R : Ty} {spec : A.den → Option R.den} (hfn : find funs f = some fn := by rfl) (hb : fn.body.isSome = true := by kernel_rfl)
    (hs : ∀ x, sem (cxOf con [] []) 12 plans f A R x = spec x := by intro x; kernel_rfl) : Holds Try.prog glob f ⟨A, R, spec⟩ := holds_at hcon rcon_nil inv_nil hfn hb hs
theorem rholds_a {con : List (Nat × Con)} {rcon : List (Nat × RCon)} {inv : List (String × Con)} (hcon : ∀ p ∈ con, Holds Try.prog glob p.1 p.2) (hrcon : ∀ p ∈ rcon, RHolds Try.prog glob (p.1 / 2) p.2) (hinv : ∀ p ∈ inv, IHolds Try.prog glob p.1 p.2) (fn : Func) {f : Nat} {ps : List Bool} {A : Ty} {U : OT} {R : Ty} {spec : A.den × U.den → Option (R.den × U.den)} (hfn : find funs f = some fn := by rfl) (hb : fn.body.isSome = true := by kernel_rfl)
    (hs : ∀ x, semR (cxOf con rcon inv) 12 plans f ps A U R x = spec x := by intro x; kernel_rfl) : RHolds Try.prog glob f ⟨ps, A, U, R, spec⟩ := rholds_at hcon hrcon hinv hfn hb hs
abbrev HoldsG := Holds Try.prog glob

noncomputable def c_ref09_Small : Con := ⟨(.pair (.slice YH8) YH3), YH12, P_ref09_Small⟩
theorem h_ref09_Small : HoldsG 22 c_ref09_Small := holds_b con_nil Try.f22
noncomputable def c_ref25_Small : Con := ⟨(.pair (.slice YH7) YH3), YH12, P_ref25_Small⟩
theorem h_ref25_Small : HoldsG 5 c_ref25_Small := holds_b (con_cons h_ref09_Small con_nil) Try.f5
noncomputable def c_steps_Run_isGiven : RCon := ⟨[true], .unit, (.pair (.ref 67 (.pair (.dat .bool) (.pair (.buf (.pair YH1 YH2) 86) (.pair (.dat (.int .i64)) (.pair (.dat .bool) (.pair (.dat .bool) (.pair (.dat YH1) .unit))))))) .unit), YH12, P_steps_Run_isGiven⟩
theorem h_steps_Run_isGiven : RHolds Try.prog glob 25 c_steps_Run_isGiven := rholds_a con_nil rcon_nil inv_nil Try.f25
noncomputable def c_steps_Run_Begin : RCon := ⟨[true], .unit, (.pair (.ref 67 (.pair (.dat .bool) (.pair (.buf (.pair YH1 YH2) 86) (.pair (.dat (.int .i64)) (.pair (.dat .bool) (.pair (.dat .bool) (.pair (.dat YH1) .unit))))))) .unit), .unit, P_steps_Run_Begin⟩
theorem h_steps_Run_Begin : RHolds Try.prog glob 10 c_steps_Run_Begin := rholds_a con_nil (rcon_cons h_steps_Run_isGiven rcon_nil) inv_nil Try.f10
noncomputable def c_steps_Run_Want : RCon := ⟨[true], .unit, (.pair (.ref 67 (.pair (.dat .bool) (.pair (.buf (.pair YH1 YH2) 86) (.pair (.dat (.int .i64)) (.pair (.dat .bool) (.pair (.dat .bool) (.pair (.dat YH1) .unit))))))) .unit), (.pair YH1 YH12), P_steps_Run_Want⟩
theorem h_steps_Run_Want : RHolds Try.prog glob 12 c_steps_Run_Want := rholds_a con_nil (rcon_cons h_steps_Run_isGiven rcon_nil) inv_nil Try.f12
noncomputable def c_slices_Clone_string_string : Con := ⟨(.pair (.slice .str) .unit), (.pair (.slice .str) .unit), P_slices_Clone_string_string⟩
theorem h_slices_Clone_string_string : Holds Try.prog glob 33 c_slices_Clone_string_string := by
  refine clone_holds (P := Try.prog) (cx := cxOf [] []) (bf := [5]) (e := .str) (tid := 47) (fn := Try.f33) (s0 := fun l => (argSt (fun _ => none) [.data (.slice .str) l]).put 2 (.data (.slice .str) ([] : List (.str : Ty).den))) mix (cx_ok [] []) (conOk_of con_nil rcon_nil spc_ok inv_nil) Try.func33 (by kernel_rfl)
    (by rfl) rfl (by decide) (by decide) rfl rfl rfl rfl rfl rfl (fun l => by rfl) (fun l => rfl) (fun l => rfl) (fun l => rfl) (fun l => by rfl) (fun l hl => ?_)
  have key : ∀ m : List (.str : Ty).den, fits (len m) = true → sel (fits (plus (len ([] : List (.str : Ty).den)) (len m))) (some ((app [] m, ()) : (Ty.pair (.slice .str) .unit).den)) none = some (m, ()) := by
    intro m hm
    have e : plus (len ([] : List (.str : Ty).den)) (len m) = len m := by simp [plus, len]
    rw [e, hm]
    rfl
  exact Eq.trans (b := sel (fits (plus (len ([] : List (.str : Ty).den)) (len (α := (.str : Ty).den) l))) (some ((app (α := (.str : Ty).den) [] l, ()) : (Ty.pair (.slice .str) .unit).den)) none) (by rfl) (key l hl)
noncomputable def c_steps_answer : Con := ⟨YH2, YH2, P_steps_answer⟩
theorem h_steps_answer : HoldsG 26 c_steps_answer := holds_b (con_cons h_slices_Clone_string_string con_nil) Try.f26
noncomputable def c_steps_Run_Give : RCon := ⟨[true, false], YH2, (.pair (.ref 67 (.pair (.dat .bool) (.pair (.buf (.pair YH1 YH2) 86) (.pair (.dat (.int .i64)) (.pair (.dat .bool) (.pair (.dat .bool) (.pair (.dat YH1) .unit))))))) .unit), YH3, P_steps_Run_Give⟩
theorem h_steps_Run_Give : RHolds Try.prog glob 13 c_steps_Run_Give := rholds_a (con_cons h_steps_answer con_nil) (rcon_cons h_steps_Run_Want (rcon_cons h_steps_Run_isGiven rcon_nil)) inv_nil Try.f13
noncomputable def c_steps_Run_Len : RCon := ⟨[true], .unit, (.pair (.ref 67 (.pair (.dat .bool) (.pair (.buf (.pair YH1 YH2) 86) (.pair (.dat (.int .i64)) (.pair (.dat .bool) (.pair (.dat .bool) (.pair (.dat YH1) .unit))))))) .unit), YH3, P_steps_Run_Len⟩
theorem h_steps_Run_Len : RHolds Try.prog glob 15 c_steps_Run_Len := rholds_a con_nil rcon_nil inv_nil Try.f15
noncomputable def c_steps_pause : Con := ⟨.unit, YH2, P_steps_pause⟩
theorem h_steps_pause : HoldsG 30 c_steps_pause := holds_b con_nil Try.f30
noncomputable def c_steps_Run_Do : RCon := ⟨[true, false], (.pair YH1 .unit), (.pair (.ref 67 (.pair (.dat .bool) (.pair (.buf (.pair YH1 YH2) 86) (.pair (.dat (.int .i64)) (.pair (.dat .bool) (.pair (.dat .bool) (.pair (.dat YH1) .unit))))))) .unit), YH2, P_steps_Run_Do⟩
theorem h_steps_Run_Do : RHolds Try.prog glob 20 c_steps_Run_Do := rholds_a (con_cons h_steps_answer (con_cons h_steps_pause con_nil)) (rcon_cons h_steps_Run_isGiven rcon_nil) inv_nil Try.f20
noncomputable def c_law26_awake : Con := ⟨.unit, YH12, P_law26_awake⟩
theorem h_law26_awake : HoldsG 6 c_law26_awake := holds_a (con_cons h_steps_answer (con_cons h_steps_pause con_nil)) (rcon_cons h_steps_Run_Begin (rcon_cons h_steps_Run_Want (rcon_cons h_steps_Run_Give (rcon_cons h_steps_Run_Len (rcon_cons h_steps_Run_Do (rcon_cons h_steps_Run_isGiven rcon_nil)))))) inv_nil Try.f6
noncomputable def c_ref11_Table_Birth : RCon := ⟨[true, false], YH3, (.pair (.ref 81 (.pair (.buf YH6 0) (.pair (.dat (.int .i64)) .unit))) .unit), YH6, P_ref11_Table_Birth⟩
theorem h_ref11_Table_Birth : RHolds Try.prog glob 24 c_ref11_Table_Birth := rholds_a con_nil rcon_nil inv_nil Try.f24
noncomputable def c_ref11_Table_Spawn : RCon := ⟨[true, false], YH3, (.pair (.ref 81 (.pair (.buf YH6 0) (.pair (.dat (.int .i64)) .unit))) .unit), YH6, P_ref11_Table_Spawn⟩
theorem h_ref11_Table_Spawn : RHolds Try.prog glob 8 c_ref11_Table_Spawn := rholds_a con_nil (rcon_cons h_ref11_Table_Birth rcon_nil) inv_nil Try.f8
noncomputable def c_law26_work : RCon := ⟨[true, false], (.pair (.slice YH7) .unit), (.pair (.ref 67 (.pair (.dat .bool) (.pair (.buf (.pair YH1 YH2) 86) (.pair (.dat (.int .i64)) (.pair (.dat .bool) (.pair (.dat .bool) (.pair (.dat YH1) .unit))))))) .unit), (.pair (.slice YH11) YH12), P_law26_work⟩
theorem h_law26_work : RHolds Try.prog glob 11 c_law26_work := rholds_a (con_cons h_steps_answer (con_cons h_steps_pause con_nil)) (rcon_cons h_steps_Run_Do (rcon_cons h_steps_Run_isGiven rcon_nil)) inv_nil Try.f11
noncomputable def c_ref11_Table_Alive : RCon := ⟨[true, false, false], YH6, (.pair (.ref 81 (.pair (.buf YH6 0) (.pair (.dat (.int .i64)) .unit))) .unit), YH12, P_ref11_Table_Alive⟩
theorem h_ref11_Table_Alive : RHolds Try.prog glob 27 c_ref11_Table_Alive := rholds_a con_nil (rcon_cons h_ref11_Table_Birth rcon_nil) inv_nil Try.f27
noncomputable def c_ref10_Disk_sync : RCon := ⟨[true], .unit, (.pair (.ref 58 (.pair (.rf 108 (.pair (.rf 126 (.pair (.dat (.int .i64)) (.pair (.dat (.int .i64)) (.pair (.buf YH0 0) .unit)))) (.pair (.buf YH4 0) .unit))) (.pair (.rf 108 (.pair (.rf 126 (.pair (.dat (.int .i64)) (.pair (.dat (.int .i64)) (.pair (.buf YH0 0) .unit)))) (.pair (.buf YH4 0) .unit))) (.pair (.buf YH8 0) .unit)))) .unit), .unit, P_ref10_Disk_sync⟩
theorem h_ref10_Disk_sync : RHolds Try.prog glob 34 c_ref10_Disk_sync := rholds_a con_nil rcon_nil inv_nil Try.f34
noncomputable def c_ref07_Parts : Con := ⟨YH9, (.pair (.slice .str) .unit), P_ref07_Parts⟩
theorem h_ref07_Parts : HoldsG 43 c_ref07_Parts := holds_b con_nil Try.f43
noncomputable def c_ref07_isName : Con := ⟨YH9, YH12, P_ref07_isName⟩
theorem h_ref07_isName : HoldsG 69 c_ref07_isName := holds_b con_nil Try.f69
noncomputable def c_ref07_Is : Con := ⟨YH9, YH12, P_ref07_Is⟩
theorem h_ref07_Is : HoldsG 54 c_ref07_Is := holds_b (con_cons h_ref07_Parts (con_cons h_ref07_isName con_nil)) Try.f54
noncomputable def c_ref09_right : Con := ⟨(.pair YH1 .unit), YH12, P_ref09_right⟩
theorem h_ref09_right : HoldsG 40 c_ref09_right := holds_b (con_cons h_ref07_Is con_nil) Try.f40
noncomputable def c_ref09_FS_holds : RCon := ⟨[true, false, false], YH6, (.pair (.ref 108 (.pair (.rf 126 (.pair (.dat (.int .i64)) (.pair (.dat (.int .i64)) (.pair (.buf YH0 0) .unit)))) (.pair (.buf YH4 0) .unit))) .unit), YH3, P_ref09_FS_holds⟩
theorem h_ref09_FS_holds : RHolds Try.prog glob 55 c_ref09_FS_holds := rholds_a con_nil rcon_nil inv_nil Try.f55
noncomputable def c_ref08_Table_get : RCon := ⟨[true, false], YH3, (.pair (.ref 126 (.pair (.dat (.int .i64)) (.pair (.dat (.int .i64)) (.pair (.buf YH0 0) .unit)))) .unit), (.pair YH0 YH12), P_ref08_Table_get⟩
theorem h_ref08_Table_get : RHolds Try.prog glob 60 c_ref08_Table_get := rholds_a con_nil rcon_nil inv_nil Try.f60
noncomputable def c_ref08_Table_set : RCon := ⟨[true, false], (.pair YH0 .unit), (.pair (.ref 126 (.pair (.dat (.int .i64)) (.pair (.dat (.int .i64)) (.pair (.buf YH0 0) .unit)))) .unit), .unit, P_ref08_Table_set⟩
theorem h_ref08_Table_set : RHolds Try.prog glob 64 c_ref08_Table_set := rholds_a con_nil rcon_nil inv_nil Try.f64
noncomputable def c_ref08_Table_Drop : RCon := ⟨[true, false], YH3, (.pair (.ref 126 (.pair (.dat (.int .i64)) (.pair (.dat (.int .i64)) (.pair (.buf YH0 0) .unit)))) .unit), YH3, P_ref08_Table_Drop⟩
theorem h_ref08_Table_Drop : RHolds Try.prog glob 70 c_ref08_Table_Drop := rholds_a con_nil (rcon_cons h_ref08_Table_get (rcon_cons h_ref08_Table_set rcon_nil)) inv_nil Try.f70
noncomputable def c_ref09_FS_closes : RCon := ⟨[true, false, false], YH6, (.pair (.ref 108 (.pair (.rf 126 (.pair (.dat (.int .i64)) (.pair (.dat (.int .i64)) (.pair (.buf YH0 0) .unit)))) (.pair (.buf YH4 0) .unit))) .unit), .unit, P_ref09_FS_closes⟩
theorem h_ref09_FS_closes : RHolds Try.prog glob 56 c_ref09_FS_closes := rholds_a con_nil (rcon_cons h_ref08_Table_get (rcon_cons h_ref08_Table_set (rcon_cons h_ref08_Table_Drop rcon_nil))) inv_nil Try.f56
noncomputable def c_ref08_Table_file : RCon := ⟨[true, false, false, false], YH4, (.pair (.ref 126 (.pair (.dat (.int .i64)) (.pair (.dat (.int .i64)) (.pair (.buf YH0 0) .unit)))) .unit), (.pair YH0 YH3), P_ref08_Table_file⟩
theorem h_ref08_Table_file : RHolds Try.prog glob 71 c_ref08_Table_file := rholds_a con_nil (rcon_cons h_ref08_Table_get rcon_nil) inv_nil Try.f71
noncomputable def c_ref08_Table_Read : RCon := ⟨[true, false, false, false], YH4, (.pair (.ref 126 (.pair (.dat (.int .i64)) (.pair (.dat (.int .i64)) (.pair (.buf YH0 0) .unit)))) .unit), (.pair .str YH3), P_ref08_Table_Read⟩
theorem h_ref08_Table_Read : RHolds Try.prog glob 57 c_ref08_Table_Read := rholds_a con_nil (rcon_cons h_ref08_Table_get (rcon_cons h_ref08_Table_file rcon_nil)) inv_nil Try.f57
noncomputable def c_ref08_Table_fits : RCon := ⟨[true, false, false], (.pair YH0 YH3), (.pair (.ref 126 (.pair (.dat (.int .i64)) (.pair (.dat (.int .i64)) (.pair (.buf YH0 0) .unit)))) .unit), YH3, P_ref08_Table_fits⟩
theorem h_ref08_Table_fits : RHolds Try.prog glob 72 c_ref08_Table_fits := rholds_a con_nil rcon_nil inv_nil Try.f72
noncomputable def c_ref08_long : Con := ⟨(.pair .str YH3), YH9, P_ref08_long⟩
theorem h_ref08_long : HoldsG 73 c_ref08_long := holds_b con_nil Try.f73
noncomputable def c_ref08_Table_Write : RCon := ⟨[true, false, false, false], (.pair (.int .i64) YH14), (.pair (.ref 126 (.pair (.dat (.int .i64)) (.pair (.dat (.int .i64)) (.pair (.buf YH0 0) .unit)))) .unit), YH3, P_ref08_Table_Write⟩
theorem h_ref08_Table_Write : RHolds Try.prog glob 58 c_ref08_Table_Write := rholds_a (con_cons h_ref08_long con_nil) (rcon_cons h_ref08_Table_get (rcon_cons h_ref08_Table_set (rcon_cons h_ref08_Table_file (rcon_cons h_ref08_Table_fits rcon_nil)))) inv_nil Try.f58
noncomputable def c_ref08_Table_Truncate : RCon := ⟨[true, false, false], YH6, (.pair (.ref 126 (.pair (.dat (.int .i64)) (.pair (.dat (.int .i64)) (.pair (.buf YH0 0) .unit)))) .unit), YH3, P_ref08_Table_Truncate⟩
theorem h_ref08_Table_Truncate : RHolds Try.prog glob 59 c_ref08_Table_Truncate := rholds_a (con_cons h_ref08_long con_nil) (rcon_cons h_ref08_Table_get (rcon_cons h_ref08_Table_set (rcon_cons h_ref08_Table_file (rcon_cons h_ref08_Table_fits rcon_nil)))) inv_nil Try.f59
noncomputable def c_ref09_FS_handled : RCon := ⟨[true, false, false], YH15, (.pair (.ref 108 (.pair (.rf 126 (.pair (.dat (.int .i64)) (.pair (.dat (.int .i64)) (.pair (.buf YH0 0) .unit)))) (.pair (.buf YH4 0) .unit))) .unit), YH2, P_ref09_FS_handled⟩
theorem h_ref09_FS_handled : RHolds Try.prog glob 41 c_ref09_FS_handled := rholds_a (con_cons h_ref08_long con_nil) (rcon_cons h_ref09_FS_holds (rcon_cons h_ref09_FS_closes (rcon_cons h_ref08_Table_Read (rcon_cons h_ref08_Table_Write (rcon_cons h_ref08_Table_Truncate (rcon_cons h_ref08_Table_get (rcon_cons h_ref08_Table_set (rcon_cons h_ref08_Table_Drop (rcon_cons h_ref08_Table_file (rcon_cons h_ref08_Table_fits rcon_nil)))))))))) inv_nil Try.f41
noncomputable def c_ref08_isName : Con := ⟨YH9, YH12, P_ref08_isName⟩
theorem h_ref08_isName : HoldsG 74 c_ref08_isName := holds_b con_nil Try.f74
noncomputable def c_ref08_Table_place : RCon := ⟨[true, false, false], YH14, (.pair (.ref 126 (.pair (.dat (.int .i64)) (.pair (.dat (.int .i64)) (.pair (.buf YH0 0) .unit)))) .unit), (.pair YH0 YH3), P_ref08_Table_place⟩
theorem h_ref08_Table_place : RHolds Try.prog glob 61 c_ref08_Table_place := rholds_a (con_cons h_ref08_isName con_nil) (rcon_cons h_ref08_Table_get rcon_nil) inv_nil Try.f61
noncomputable def c_ref08_leads : Con := ⟨(.pair YH0 YH9), YH3, P_ref08_leads⟩
theorem h_ref08_leads : HoldsG 62 c_ref08_leads := holds_b con_nil Try.f62
noncomputable def c_ref08_Table_Find : RCon := ⟨[true, false, false], YH14, (.pair (.ref 126 (.pair (.dat (.int .i64)) (.pair (.dat (.int .i64)) (.pair (.buf YH0 0) .unit)))) .unit), YH6, P_ref08_Table_Find⟩
theorem h_ref08_Table_Find : RHolds Try.prog glob 51 c_ref08_Table_Find := rholds_a (con_cons h_ref08_leads (con_cons h_ref08_isName con_nil)) (rcon_cons h_ref08_Table_get (rcon_cons h_ref08_Table_place rcon_nil)) inv_nil Try.f51
noncomputable def c_ref09_FS_walk : RCon := ⟨[true, false], (.pair (.slice .str) .unit), (.pair (.ref 108 (.pair (.rf 126 (.pair (.dat (.int .i64)) (.pair (.dat (.int .i64)) (.pair (.buf YH0 0) .unit)))) (.pair (.buf YH4 0) .unit))) .unit), YH6, P_ref09_FS_walk⟩
theorem h_ref09_FS_walk : RHolds Try.prog glob 42 c_ref09_FS_walk := rholds_a (con_cons h_ref08_leads (con_cons h_ref08_isName con_nil)) (rcon_cons h_ref08_Table_Find (rcon_cons h_ref08_Table_get (rcon_cons h_ref08_Table_place rcon_nil))) inv_nil Try.f42
noncomputable def c_ref08_Table_List : RCon := ⟨[true, false], YH3, (.pair (.ref 126 (.pair (.dat (.int .i64)) (.pair (.dat (.int .i64)) (.pair (.buf YH0 0) .unit)))) .unit), (.pair (.slice .str) YH3), P_ref08_Table_List⟩
theorem h_ref08_Table_List : RHolds Try.prog glob 44 c_ref08_Table_List := rholds_a con_nil (rcon_cons h_ref08_Table_get rcon_nil) inv_nil Try.f44
noncomputable def c_ref09_FS_many : RCon := ⟨[true, false], YH3, (.pair (.ref 108 (.pair (.rf 126 (.pair (.dat (.int .i64)) (.pair (.dat (.int .i64)) (.pair (.buf YH0 0) .unit)))) (.pair (.buf YH4 0) .unit))) .unit), YH3, P_ref09_FS_many⟩
theorem h_ref09_FS_many : RHolds Try.prog glob 45 c_ref09_FS_many := rholds_a con_nil rcon_nil inv_nil Try.f45
noncomputable def c_ref09_FS_place : RCon := ⟨[true, false], YH9, (.pair (.ref 108 (.pair (.rf 126 (.pair (.dat (.int .i64)) (.pair (.dat (.int .i64)) (.pair (.buf YH0 0) .unit)))) (.pair (.buf YH4 0) .unit))) .unit), YH13, P_ref09_FS_place⟩
theorem h_ref09_FS_place : RHolds Try.prog glob 46 c_ref09_FS_place := rholds_a (con_cons h_ref07_Parts (con_cons h_ref08_leads (con_cons h_ref08_isName con_nil))) (rcon_cons h_ref09_FS_walk (rcon_cons h_ref08_Table_Find (rcon_cons h_ref08_Table_get (rcon_cons h_ref08_Table_place rcon_nil)))) inv_nil Try.f46
noncomputable def c_ref08_with : Con := ⟨(.pair YH0 (.pair (.pair .str YH3) .unit)), (.pair YH0 .unit), P_ref08_with⟩
theorem h_ref08_with : HoldsG 65 c_ref08_with := holds_b con_nil Try.f65
noncomputable def c_ref08_Table_Make : RCon := ⟨[true, false, false, false], (.pair (.int .i64) (.pair .str YH12)), (.pair (.ref 126 (.pair (.dat (.int .i64)) (.pair (.dat (.int .i64)) (.pair (.buf YH0 0) .unit)))) .unit), YH6, P_ref08_Table_Make⟩
theorem h_ref08_Table_Make : RHolds Try.prog glob 47 c_ref08_Table_Make := rholds_a (con_cons h_ref08_leads (con_cons h_ref08_with (con_cons h_ref08_isName con_nil))) (rcon_cons h_ref08_Table_get (rcon_cons h_ref08_Table_place (rcon_cons h_ref08_Table_set rcon_nil))) inv_nil Try.f47
noncomputable def c_ref08_without : Con := ⟨(.pair YH0 YH9), (.pair YH0 .unit), P_ref08_without⟩
theorem h_ref08_without : HoldsG 66 c_ref08_without := holds_b con_nil Try.f66
noncomputable def c_ref08_Table_Remove : RCon := ⟨[true, false, false], YH14, (.pair (.ref 126 (.pair (.dat (.int .i64)) (.pair (.dat (.int .i64)) (.pair (.buf YH0 0) .unit)))) .unit), YH3, P_ref08_Table_Remove⟩
theorem h_ref08_Table_Remove : RHolds Try.prog glob 48 c_ref08_Table_Remove := rholds_a (con_cons h_ref08_leads (con_cons h_ref08_without (con_cons h_ref08_isName con_nil))) (rcon_cons h_ref08_Table_Find (rcon_cons h_ref08_Table_get (rcon_cons h_ref08_Table_place (rcon_cons h_ref08_Table_set rcon_nil)))) inv_nil Try.f48
noncomputable def c_ref08_Table_Unlink : RCon := ⟨[true, false, false], YH14, (.pair (.ref 126 (.pair (.dat (.int .i64)) (.pair (.dat (.int .i64)) (.pair (.buf YH0 0) .unit)))) .unit), YH3, P_ref08_Table_Unlink⟩
theorem h_ref08_Table_Unlink : RHolds Try.prog glob 49 c_ref08_Table_Unlink := rholds_a (con_cons h_ref08_leads (con_cons h_ref08_without (con_cons h_ref08_isName con_nil))) (rcon_cons h_ref08_Table_Find (rcon_cons h_ref08_Table_get (rcon_cons h_ref08_Table_place (rcon_cons h_ref08_Table_set rcon_nil)))) inv_nil Try.f49
noncomputable def c_ref08_Table_Hold : RCon := ⟨[true, false], YH3, (.pair (.ref 126 (.pair (.dat (.int .i64)) (.pair (.dat (.int .i64)) (.pair (.buf YH0 0) .unit)))) .unit), YH3, P_ref08_Table_Hold⟩
theorem h_ref08_Table_Hold : RHolds Try.prog glob 67 c_ref08_Table_Hold := rholds_a con_nil (rcon_cons h_ref08_Table_get (rcon_cons h_ref08_Table_set (rcon_cons h_ref08_Table_file rcon_nil))) inv_nil Try.f67
noncomputable def c_ref09_FS_gives : RCon := ⟨[true, false, false], YH6, (.pair (.ref 108 (.pair (.rf 126 (.pair (.dat (.int .i64)) (.pair (.dat (.int .i64)) (.pair (.buf YH0 0) .unit)))) (.pair (.buf YH4 0) .unit))) .unit), YH2, P_ref09_FS_gives⟩
theorem h_ref09_FS_gives : RHolds Try.prog glob 50 c_ref09_FS_gives := rholds_a con_nil (rcon_cons h_ref09_FS_holds (rcon_cons h_ref08_Table_get (rcon_cons h_ref08_Table_set (rcon_cons h_ref08_Table_Hold (rcon_cons h_ref08_Table_file rcon_nil))))) inv_nil Try.f50
noncomputable def c_ref08_Table_Link : RCon := ⟨[true, false, false, false], (.pair (.int .i64) YH14), (.pair (.ref 126 (.pair (.dat (.int .i64)) (.pair (.dat (.int .i64)) (.pair (.buf YH0 0) .unit)))) .unit), YH3, P_ref08_Table_Link⟩
theorem h_ref08_Table_Link : RHolds Try.prog glob 68 c_ref08_Table_Link := rholds_a (con_cons h_ref08_leads (con_cons h_ref08_with (con_cons h_ref08_isName con_nil))) (rcon_cons h_ref08_Table_get (rcon_cons h_ref08_Table_place (rcon_cons h_ref08_Table_set rcon_nil))) inv_nil Try.f68
noncomputable def c_ref09_FS_links : RCon := ⟨[true, false, false, false], (.pair (.int .i64) (.pair .str YH9)), (.pair (.ref 108 (.pair (.rf 126 (.pair (.dat (.int .i64)) (.pair (.dat (.int .i64)) (.pair (.buf YH0 0) .unit)))) (.pair (.buf YH4 0) .unit))) .unit), YH2, P_ref09_FS_links⟩
theorem h_ref09_FS_links : RHolds Try.prog glob 52 c_ref09_FS_links := rholds_a (con_cons h_ref07_Parts (con_cons h_ref08_leads (con_cons h_ref08_with (con_cons h_ref08_isName con_nil)))) (rcon_cons h_ref09_FS_walk (rcon_cons h_ref09_FS_place (rcon_cons h_ref08_Table_Find (rcon_cons h_ref08_Table_get (rcon_cons h_ref08_Table_place (rcon_cons h_ref08_Table_set (rcon_cons h_ref08_Table_Link rcon_nil))))))) inv_nil Try.f52
noncomputable def c_ref08_Table_Rename : RCon := ⟨[true, false, false, false, false], (.pair (.int .i64) (.pair .str YH14)), (.pair (.ref 126 (.pair (.dat (.int .i64)) (.pair (.dat (.int .i64)) (.pair (.buf YH0 0) .unit)))) .unit), YH3, P_ref08_Table_Rename⟩
theorem h_ref08_Table_Rename : RHolds Try.prog glob 53 c_ref08_Table_Rename := rholds_a (con_cons h_ref08_leads (con_cons h_ref08_with (con_cons h_ref08_without (con_cons h_ref08_isName con_nil)))) (rcon_cons h_ref08_Table_Find (rcon_cons h_ref08_Table_get (rcon_cons h_ref08_Table_place (rcon_cons h_ref08_Table_set rcon_nil)))) inv_nil Try.f53
noncomputable def c_ref09_FS_Do : RCon := ⟨[true, false, false], YH15, (.pair (.ref 108 (.pair (.rf 126 (.pair (.dat (.int .i64)) (.pair (.dat (.int .i64)) (.pair (.buf YH0 0) .unit)))) (.pair (.buf YH4 0) .unit))) .unit), YH2, P_ref09_FS_Do⟩
theorem h_ref09_FS_Do : RHolds Try.prog glob 35 c_ref09_FS_Do := rholds_a (con_cons h_ref09_right (con_cons h_ref07_Parts (con_cons h_ref08_leads (con_cons h_ref08_with (con_cons h_ref08_without (con_cons h_ref08_long (con_cons h_ref08_isName con_nil))))))) (rcon_cons h_ref09_FS_handled (rcon_cons h_ref09_FS_walk (rcon_cons h_ref08_Table_List (rcon_cons h_ref09_FS_many (rcon_cons h_ref09_FS_place (rcon_cons h_ref08_Table_Make (rcon_cons h_ref08_Table_Remove (rcon_cons h_ref08_Table_Unlink (rcon_cons h_ref09_FS_gives (rcon_cons h_ref08_Table_Find (rcon_cons h_ref09_FS_links (rcon_cons h_ref08_Table_Rename (rcon_cons h_ref09_FS_holds (rcon_cons h_ref09_FS_closes (rcon_cons h_ref08_Table_Read (rcon_cons h_ref08_Table_Write (rcon_cons h_ref08_Table_Truncate (rcon_cons h_ref08_Table_get (rcon_cons h_ref08_Table_place (rcon_cons h_ref08_Table_set (rcon_cons h_ref08_Table_Hold (rcon_cons h_ref08_Table_Link (rcon_cons h_ref08_Table_Drop (rcon_cons h_ref08_Table_file (rcon_cons h_ref08_Table_fits rcon_nil))))))))))))))))))))))))) inv_nil Try.f35
noncomputable def c_ref10_Disk_Do : RCon := ⟨[true, false, false], YH15, (.pair (.ref 58 (.pair (.rf 108 (.pair (.rf 126 (.pair (.dat (.int .i64)) (.pair (.dat (.int .i64)) (.pair (.buf YH0 0) .unit)))) (.pair (.buf YH4 0) .unit))) (.pair (.rf 108 (.pair (.rf 126 (.pair (.dat (.int .i64)) (.pair (.dat (.int .i64)) (.pair (.buf YH0 0) .unit)))) (.pair (.buf YH4 0) .unit))) (.pair (.buf YH8 0) .unit)))) .unit), YH2, P_ref10_Disk_Do⟩
theorem h_ref10_Disk_Do : RHolds Try.prog glob 28 c_ref10_Disk_Do := rholds_a (con_cons h_ref09_right (con_cons h_ref07_Parts (con_cons h_ref08_leads (con_cons h_ref08_with (con_cons h_ref08_without (con_cons h_ref08_long (con_cons h_ref08_isName con_nil))))))) (rcon_cons h_ref10_Disk_sync (rcon_cons h_ref09_FS_Do (rcon_cons h_ref09_FS_handled (rcon_cons h_ref09_FS_walk (rcon_cons h_ref08_Table_List (rcon_cons h_ref09_FS_many (rcon_cons h_ref09_FS_place (rcon_cons h_ref08_Table_Make (rcon_cons h_ref08_Table_Remove (rcon_cons h_ref08_Table_Unlink (rcon_cons h_ref09_FS_gives (rcon_cons h_ref08_Table_Find (rcon_cons h_ref09_FS_links (rcon_cons h_ref08_Table_Rename (rcon_cons h_ref09_FS_holds (rcon_cons h_ref09_FS_closes (rcon_cons h_ref08_Table_Read (rcon_cons h_ref08_Table_Write (rcon_cons h_ref08_Table_Truncate (rcon_cons h_ref08_Table_get (rcon_cons h_ref08_Table_place (rcon_cons h_ref08_Table_set (rcon_cons h_ref08_Table_Hold (rcon_cons h_ref08_Table_Link (rcon_cons h_ref08_Table_Drop (rcon_cons h_ref08_Table_file (rcon_cons h_ref08_Table_fits rcon_nil))))))))))))))))))))))))))) inv_nil Try.f28
noncomputable def c_ref25_World_Do : RCon := ⟨[true, false, false], YH15, (.pair (.ref 33 (.pair (.rf 58 (.pair (.rf 108 (.pair (.rf 126 (.pair (.dat (.int .i64)) (.pair (.dat (.int .i64)) (.pair (.buf YH0 0) .unit)))) (.pair (.buf YH4 0) .unit))) (.pair (.rf 108 (.pair (.rf 126 (.pair (.dat (.int .i64)) (.pair (.dat (.int .i64)) (.pair (.buf YH0 0) .unit)))) (.pair (.buf YH4 0) .unit))) (.pair (.buf YH8 0) .unit)))) (.pair (.rf 81 (.pair (.buf YH6 0) (.pair (.dat (.int .i64)) .unit))) .unit))) .unit), YH2, P_ref25_World_Do⟩
theorem h_ref25_World_Do : RHolds Try.prog glob 14 c_ref25_World_Do := rholds_a (con_cons h_ref09_right (con_cons h_ref07_Parts (con_cons h_ref08_leads (con_cons h_ref08_with (con_cons h_ref08_without (con_cons h_ref08_long (con_cons h_ref08_isName con_nil))))))) (rcon_cons h_ref11_Table_Birth (rcon_cons h_ref11_Table_Alive (rcon_cons h_ref10_Disk_Do (rcon_cons h_ref10_Disk_sync (rcon_cons h_ref09_FS_Do (rcon_cons h_ref09_FS_handled (rcon_cons h_ref09_FS_walk (rcon_cons h_ref08_Table_List (rcon_cons h_ref09_FS_many (rcon_cons h_ref09_FS_place (rcon_cons h_ref08_Table_Make (rcon_cons h_ref08_Table_Remove (rcon_cons h_ref08_Table_Unlink (rcon_cons h_ref09_FS_gives (rcon_cons h_ref08_Table_Find (rcon_cons h_ref09_FS_links (rcon_cons h_ref08_Table_Rename (rcon_cons h_ref09_FS_holds (rcon_cons h_ref09_FS_closes (rcon_cons h_ref08_Table_Read (rcon_cons h_ref08_Table_Write (rcon_cons h_ref08_Table_Truncate (rcon_cons h_ref08_Table_get (rcon_cons h_ref08_Table_place (rcon_cons h_ref08_Table_set (rcon_cons h_ref08_Table_Hold (rcon_cons h_ref08_Table_Link (rcon_cons h_ref08_Table_Drop (rcon_cons h_ref08_Table_file (rcon_cons h_ref08_Table_fits rcon_nil)))))))))))))))))))))))))))))) inv_nil Try.f14
noncomputable def c_ref09_SameRes : Con := ⟨(.pair YH11 YH2), YH12, P_ref09_SameRes⟩
theorem h_ref09_SameRes : HoldsG 16 c_ref09_SameRes := holds_b con_nil Try.f16
noncomputable def c_ref09_SameFiles : Con := ⟨(.pair YH5 (.pair YH5 .unit)), YH12, P_ref09_SameFiles⟩
theorem h_ref09_SameFiles : HoldsG 17 c_ref09_SameFiles := holds_b con_nil Try.f17
noncomputable def c_ref09_FS_node : RCon := ⟨[true, false], YH3, (.pair (.ref 108 (.pair (.rf 126 (.pair (.dat (.int .i64)) (.pair (.dat (.int .i64)) (.pair (.buf YH0 0) .unit)))) (.pair (.buf YH4 0) .unit))) .unit), (.pair YH0 .unit), P_ref09_FS_node⟩
theorem h_ref09_FS_node : RHolds Try.prog glob 36 c_ref09_FS_node := rholds_a con_nil rcon_nil inv_nil Try.f36
noncomputable def c_ref07_Join : Con := ⟨(.pair .str YH9), YH9, P_ref07_Join⟩
theorem h_ref07_Join : HoldsG 37 c_ref07_Join := holds_b con_nil Try.f37
noncomputable def c_ref09_FS_under : RCon := ⟨[true, false, false, false], YH13, (.pair (.ref 108 (.pair (.rf 126 (.pair (.dat (.int .i64)) (.pair (.dat (.int .i64)) (.pair (.buf YH0 0) .unit)))) (.pair (.buf YH4 0) .unit))) .unit), (.pair YH5 .unit), P_ref09_FS_under⟩
theorem hF_ref09_FS_under (rec : (YH13 : Ty).den × ((.pair (.ref 108 (.pair (.rf 126 (.pair (.dat (.int .i64)) (.pair (.dat (.int .i64)) (.pair (.buf YH0 0) .unit)))) (.pair (.buf YH4 0) .unit))) .unit) : OT).den → Option (((.pair YH5 .unit) : Ty).den × ((.pair (.ref 108 (.pair (.rf 126 (.pair (.dat (.int .i64)) (.pair (.dat (.int .i64)) (.pair (.buf YH0 0) .unit)))) (.pair (.buf YH4 0) .unit))) .unit) : OT).den)) (hrec : RHolds Try.prog glob 29 ⟨[true, false, false, false], YH13, (.pair (.ref 108 (.pair (.rf 126 (.pair (.dat (.int .i64)) (.pair (.dat (.int .i64)) (.pair (.buf YH0 0) .unit)))) (.pair (.buf YH4 0) .unit))) .unit), (.pair YH5 .unit), rec⟩) : RHolds Try.prog glob 29 ⟨[true, false, false, false], YH13, (.pair (.ref 108 (.pair (.rf 126 (.pair (.dat (.int .i64)) (.pair (.dat (.int .i64)) (.pair (.buf YH0 0) .unit)))) (.pair (.buf YH4 0) .unit))) .unit), (.pair YH5 .unit), F_ref09_FS_under rec⟩ := rholds_at (con := [(37, c_ref07_Join)]) (rcon := [(58, ⟨[true, false, false, false], YH13, (.pair (.ref 108 (.pair (.rf 126 (.pair (.dat (.int .i64)) (.pair (.dat (.int .i64)) (.pair (.buf YH0 0) .unit)))) (.pair (.buf YH4 0) .unit))) .unit), (.pair YH5 .unit), rec⟩), (72, c_ref09_FS_node)]) (inv := []) (con_cons h_ref07_Join con_nil) (rcon_cons hrec (rcon_cons h_ref09_FS_node rcon_nil)) inv_nil (fn := Try.f29) rfl (by kernel_rfl) (fun x => by kernel_rfl)
theorem h_ref09_FS_under : RHolds Try.prog glob 29 c_ref09_FS_under := rholds_rec Try.func29 (by kernel_rfl) (by kernel_rfl) hF_ref09_FS_under S_ref09_FS_under S_ref09_FS_under_zero S_ref09_FS_under_step S_ref09_FS_under_all
noncomputable def c_ref09_FS_Files : RCon := ⟨[true], .unit, (.pair (.ref 108 (.pair (.rf 126 (.pair (.dat (.int .i64)) (.pair (.dat (.int .i64)) (.pair (.buf YH0 0) .unit)))) (.pair (.buf YH4 0) .unit))) .unit), (.pair YH5 .unit), P_ref09_FS_Files⟩
theorem h_ref09_FS_Files : RHolds Try.prog glob 18 c_ref09_FS_Files := rholds_a (con_cons h_ref07_Join con_nil) (rcon_cons h_ref09_FS_under (rcon_cons h_ref09_FS_node rcon_nil)) inv_nil Try.f18
noncomputable def c_law26_StepsOnce : Con := ⟨(.pair (.slice YH7) .unit), YH12, P_law26_StepsOnce⟩
theorem h_law26_StepsOnce : HoldsG 3 c_law26_StepsOnce := holds_a (con_cons h_ref25_Small (con_cons h_law26_awake (con_cons h_ref09_SameRes (con_cons h_ref09_SameFiles (con_cons h_steps_answer (con_cons h_steps_pause (con_cons h_ref07_Join (con_cons h_ref09_right (con_cons h_ref07_Parts (con_cons h_ref08_leads (con_cons h_ref08_with (con_cons h_ref08_without (con_cons h_ref08_long (con_cons h_ref08_isName con_nil)))))))))))))) (rcon_cons h_ref11_Table_Spawn (rcon_cons h_steps_Run_Begin (rcon_cons h_law26_work (rcon_cons h_steps_Run_Want (rcon_cons h_steps_Run_Give (rcon_cons h_ref25_World_Do (rcon_cons h_steps_Run_Len (rcon_cons h_ref09_FS_Files (rcon_cons h_steps_Run_Do (rcon_cons h_ref11_Table_Birth (rcon_cons h_steps_Run_isGiven (rcon_cons h_ref11_Table_Alive (rcon_cons h_ref10_Disk_Do (rcon_cons h_ref09_FS_under (rcon_cons h_ref10_Disk_sync (rcon_cons h_ref09_FS_Do (rcon_cons h_ref09_FS_node (rcon_cons h_ref09_FS_handled (rcon_cons h_ref09_FS_walk (rcon_cons h_ref08_Table_List (rcon_cons h_ref09_FS_many (rcon_cons h_ref09_FS_place (rcon_cons h_ref08_Table_Make (rcon_cons h_ref08_Table_Remove (rcon_cons h_ref08_Table_Unlink (rcon_cons h_ref09_FS_gives (rcon_cons h_ref08_Table_Find (rcon_cons h_ref09_FS_links (rcon_cons h_ref08_Table_Rename (rcon_cons h_ref09_FS_holds (rcon_cons h_ref09_FS_closes (rcon_cons h_ref08_Table_Read (rcon_cons h_ref08_Table_Write (rcon_cons h_ref08_Table_Truncate (rcon_cons h_ref08_Table_get (rcon_cons h_ref08_Table_place (rcon_cons h_ref08_Table_set (rcon_cons h_ref08_Table_Hold (rcon_cons h_ref08_Table_Link (rcon_cons h_ref08_Table_Drop (rcon_cons h_ref08_Table_file (rcon_cons h_ref08_Table_fits rcon_nil)))))))))))))))))))))))))))))))))))))))))) inv_nil Try.f3
end Go.Proofs.Ytgofkhjgokaiaaa
