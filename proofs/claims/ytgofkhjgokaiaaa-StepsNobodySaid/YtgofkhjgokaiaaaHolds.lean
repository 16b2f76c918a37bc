/- The layer's functions keep their contracts: each comes to its plain definition, by the ghost interpreter. -/
import Derived.Test.YtgofkhjgokaiaaaRows
import Derived.Test.YtgofkhjgokaiaaaPlA
namespace Go.Proofs.Ytgofkhjgokaiaaa
open Go Go.Ge
set_option linter.unusedVariables false
set_option linter.unusedSectionVars false
set_option maxRecDepth 100000
variable [Lp]

def cy (s : List (Nat × Nat)) (m : List Nat) : Option Plan := some ⟨s, m, false⟩
def cz (s : List (Nat × Nat)) : Option Plan := some ⟨s, [], false⟩
def fp (a : List (Option Plan)) : FPlan := ⟨a, []⟩
abbrev YH0 : Ty := (.pair (.int .i64) (.pair .str (.pair .str (.pair (.int .i64) (.pair (.int .i64) (.pair (.int .i64) (.pair .str (.pair (.int .i64) (.pair (.int .i64) .unit)))))))))
abbrev YH1 : Ty := (.pair (.int .i64) (.pair (.int .i64) (.pair .str (.pair (.slice .str) .unit))))
abbrev YH2 : Ty := (.pair YH0 (.pair YH1 .unit))
abbrev YH3 : Ty := (.pair (.int .i64) .unit)
abbrev YH4 : Ty := (.pair (.int .i64) (.pair .bool (.pair (.int .i64) (.pair (.int .i64) (.pair .str (.pair (.slice (.pair .str YH3)) .unit))))))
abbrev YH5 : Ty := (.pair .bool .unit)
abbrev YH6 : Ty := (.pair YH1 .unit)
noncomputable def plans : Nat → FPlan
  | 4 => ⟨[none, cy [] [6000004], none, none], [5000000]⟩
  | 6 => fp [none]
  | 10 => fp [cy [] [0]]
  | 12 => fp [none]
  | 13 => fp [none]
  | 15 => fp [none]
  | 16 => fp [none, cz [(4, 4), (5, 3)], none, none]
  | 19 => fp [cz [(4, 4), (5, 3)], none, none]
  | 20 => fp [none, none, none, none]
  | 21 => ⟨[cy [(4, 70), (5, 41), (9, 3)] [4, 5], none], [4, 5]⟩
  | 33 => ⟨[none], [5]⟩
  | _ => ⟨[], []⟩

def objs : List (Nat × List OFld) := [(67, [.dat .bool, .buf YH2 86, .dat (.int .i64), .dat .bool, .dat .bool, .dat YH0])]
def els : List (Nat × Nat) := [(65, 86), (68, 39)]
noncomputable def spc : List (Nat × Spc) := []
noncomputable def tys : List (Nat × Ty) := [(3, (.int .i64)), (4, .bool), (5, (.int .u8)), (9, .str), (22, (.slice (.pair (.int .i64) (.pair (.int .i64) (.pair (.int .i64) (.pair YH0 .unit)))))), (26, (.int .i64)), (36, YH0), (38, (.pair (.int .i64) (.pair (.int .i64) (.pair (.int .i64) (.pair YH0 .unit))))), (41, (.slice YH1)), (47, (.slice .str)), (49, YH1), (54, (.slice (.pair .str (.pair .bool (.pair .str .unit))))), (56, (.slice (.pair (.int .i64) (.pair .bool (.pair YH0 .unit))))), (62, (.pair (.int .i64) YH2)), (64, (.slice (.pair (.int .i64) YH2))), (65, (.slice YH2)), (70, (.slice YH0)), (76, (.pair (.int .i64) (.pair .bool (.pair YH0 .unit)))), (79, (.slice (.pair (.int .i64) YH3))), (81, (.pair (.slice (.pair (.int .i64) YH3)) YH3)), (83, (.pair (.int .i64) YH3)), (86, YH2), (89, (.pair .str (.pair .bool (.pair .str .unit)))), (96, (.slice (.pair .str YH3))), (98, YH4), (101, (.pair .str YH3)), (106, (.slice (.pair (.int .i64) (.pair (.int .i64) YH3)))), (124, (.slice YH4)), (126, (.pair (.int .i64) (.pair (.int .i64) (.pair (.slice YH4) .unit)))), (137, (.pair (.int .i64) (.pair (.int .i64) YH3))), (148, (.slice (.int .u8)))]
noncomputable def funs : List (Nat × Func) := [(4, Try.f4), (6, Try.f6), (9, Try.f9), (10, Try.f10), (12, Try.f12), (13, Try.f13), (15, Try.f15), (16, Try.f16), (19, Try.f19), (20, Try.f20), (21, Try.f21), (25, Try.f25), (26, Try.f26), (30, Try.f30), (33, Try.f33)]
def ones : List Nat := [25, 30, 31, 39, 55, 103]
def ptrs : List Nat := [25, 30, 31, 39, 55, 103]
noncomputable def cxOf (con : List (Nat × Con)) (rcon : List (Nat × RCon)) (inv : List (String × Con) := []) : Ctx := ⟨tys, ones, ptrs, funs, con, rcon, objs, spc, els, inv⟩

theorem mix : Try.prog.follows .mixedOrders = true := by kernel_rfl

theorem T_ok : ∀ tid t, find tys tid = some t → Den Try.prog t tid := tys_ok (by kernel_rfl)
theorem ones_ok : ∀ tid, memN ones tid = true → (∀ w, (isAgg tid).run Try.prog w = .ok false w) ∧ (∀ w, (Go.sizeOf tid).run Try.prog w = .ok 1 w) ∧ ∃ z, (∀ w, (zeroValue tid).run Try.prog w = .ok z w) ∧ z.oneCell' = true := ones_of (by kernel_rfl)
theorem ptrs_ok : ∀ tid, memN ptrs tid = true → ∃ e, Try.prog.underlying tid = some (.pointer e) := ptrs_of (by kernel_rfl)
theorem fns_ok : ∀ f fn, find funs f = some fn → Try.prog.funcs[f]? = some fn := fns_of ((fns_cons Try.func4 (fns_cons Try.func6 (fns_cons Try.func9 (fns_cons Try.func10 (fns_cons Try.func12 (fns_cons Try.func13 (fns_cons Try.func15 (fns_cons Try.func16 (fns_cons Try.func19 (fns_cons Try.func20 (fns_cons Try.func21 (fns_cons Try.func25 (fns_cons Try.func26 (fns_cons Try.func30 (fns_cons Try.func33 fns_nil))))))))))))))))
theorem objs_ok : ∀ tid fs, find objs tid = some fs → objB Try.prog tid fs = true := objs_of (by kernel_rfl)
theorem els_ok : ∀ tid e, find els tid = some e → Try.prog.underlying tid = some (.slice e) := els_of (by kernel_rfl)
theorem cx_ok (con : List (Nat × Con)) (rcon : List (Nat × RCon)) (inv : List (String × Con) := []) : CxOk Try.prog (cxOf con rcon inv) := ⟨T_ok, ones_ok, ptrs_ok, fns_ok, objs_ok, els_ok⟩
theorem spc_ok : ∀ p ∈ spc, SpcOk Try.prog p.1 p.2 :=  spc_nil
theorem funs_ok (con : List (Nat × Con)) (rcon : List (Nat × RCon)) (inv : List (String × Con) := []) : FnsOk (cxOf con rcon inv) := fnsOk_of (cx := cxOf con rcon inv) (show (funs.all fun p => fnOk p.2) = true by kernel_rfl)

def glob : Globs := noGlobs
theorem holds_at {con : List (Nat × Con)} {rcon : List (Nat × RCon)} {inv : List (String × Con)} (hcon : ∀ p ∈ con, Holds Try.prog glob p.1 p.2) (hrcon : ∀ p ∈ rcon, RHolds Try.prog glob (p.1 / 2) p.2) (hinv : ∀ p ∈ inv, IHolds Try.prog glob p.1 p.2) {f : Nat} {fn : Func} {A R : Ty} {spec : A.den → Option R.den} (hfn : find funs f = some fn) (hb : fn.body.isSome = true)
    (hs : ∀ x, sem (cxOf con rcon inv) 12 plans f A R x = spec x) : Holds Try.prog glob f ⟨A, R, spec⟩ := by
  obtain ⟨code, hcode⟩ := Option.isSome_iff_exists.1 hb
  exact holds_of_sem mix (cx_ok con rcon inv) (conOk_of hcon hrcon spc_ok hinv) (funs_ok con rcon inv) (f := f) hfn hcode (fun x y h => by rw [hs]; exact h)

theorem rholds_at {con : List (Nat × Con)} {rcon : List (Nat × RCon)} {inv : List (String × Con)} (hcon : ∀ p ∈ con, Holds Try.prog glob p.1 p.2) (hrcon : ∀ p ∈ rcon, RHolds Try.prog glob (p.1 / 2) p.2) (hinv : ∀ p ∈ inv, IHolds Try.prog glob p.1 p.2) {f : Nat} {fn : Func} {ps : List Bool} {A : Ty} {U : OT} {R : Ty} {spec : A.den × U.den → Option (R.den × U.den)} (hfn : find funs f = some fn) (hb : fn.body.isSome = true)
    (hs : ∀ x, semR (cxOf con rcon inv) 12 plans f ps A U R x = spec x) : RHolds Try.prog glob f ⟨ps, A, U, R, spec⟩ := by
  obtain ⟨code, hcode⟩ := Option.isSome_iff_exists.1 hb
  exact rholds_of_sem mix (cx_ok con rcon inv) (conOk_of hcon hrcon spc_ok hinv) (funs_ok con rcon inv) (f := f) hfn hcode (fun x y h => by rw [hs]; exact h)

theorem holds_a {con : List (Nat × Con)} {rcon : List (Nat × RCon)} {inv : List (String × Con)} (hcon : ∀ p ∈ con, Holds Try.prog glob p.1 p.2) (hrcon : ∀ p ∈ rcon, RHolds Try.prog glob (p.1 / 2) p.2) (hinv : ∀ p ∈ inv, IHolds Try.prog glob p.1 p.2) (fn : Func) {f : Nat} {A R : Ty} {spec : A.den → Option R.den} (hfn : find funs f = some fn := by rfl) (hb : fn.body.isSome = true := by kernel_rfl)
    (hs : ∀ x, sem (cxOf con rcon inv) 12 plans f A R x = spec x := by intro x; kernel_rfl) : Holds Try.prog glob f ⟨A, R, spec⟩ := holds_at hcon hrcon hinv hfn hb hs
theorem holds_b {con : List (Nat × Con)} (hcon : ∀ p ∈ con, Holds Try.prog glob p.1 p.2) (fn : Func) {f : Nat} {A R : Ty} {spec : A.den → Option R.den} (hfn : find funs f = some fn := by rfl) (hb : fn.body.isSome = true := by kernel_rfl)
    (hs : ∀ x, sem (cxOf con [] []) 12 plans f A R x = spec x := by intro x; kernel_rfl) : Holds Try.prog glob f ⟨A, R, spec⟩ := holds_at hcon rcon_nil inv_nil hfn hb hs
theorem rholds_a {con : List (Nat × Con)} {rcon : List (Nat × RCon)} {inv : List (String × Con)} (hcon : ∀ p ∈ con, Holds Try.prog glob p.1 p.2) (hrcon : ∀ p ∈ rcon, RHolds Try.prog glob (p.1 / 2) p.2) (hinv : ∀ p ∈ inv, IHolds Try.prog glob p.1 p.2) (fn : Func) {f : Nat} {ps : List Bool} {A : Ty} {U : OT} {R : Ty} {spec : A.den × U.den → Option (R.den × U.den)} (hfn : find funs f = some fn := by rfl) (hb : fn.body.isSome = true := by kernel_rfl)
    (hs : ∀ x, semR (cxOf con rcon inv) 12 plans f ps A U R x = spec x := by intro x; kernel_rfl) : RHolds Try.prog glob f ⟨ps, A, U, R, spec⟩ := rholds_at hcon hrcon hinv hfn hb hs
abbrev HoldsG := Holds Try.prog glob

noncomputable def c_steps_Run_isGiven : RCon := ⟨[true], .unit, (.pair (.ref 67 (.pair (.dat .bool) (.pair (.buf YH2 86) (.pair (.dat (.int .i64)) (.pair (.dat .bool) (.pair (.dat .bool) (.pair (.dat YH0) .unit))))))) .unit), YH5, P_steps_Run_isGiven⟩
theorem h_steps_Run_isGiven : RHolds Try.prog glob 25 c_steps_Run_isGiven := rholds_a con_nil rcon_nil inv_nil Try.f25
noncomputable def c_steps_Run_isGiven_nil : RCon := ⟨[true], .unit, (.pair .nilp .unit), YH5, P_steps_Run_isGiven_nil⟩
theorem h_steps_Run_isGiven_nil : RHolds Try.prog glob 25 c_steps_Run_isGiven_nil := rholds_a con_nil rcon_nil inv_nil Try.f25
noncomputable def c_steps_Run_Begin : RCon := ⟨[true], .unit, (.pair (.ref 67 (.pair (.dat .bool) (.pair (.buf YH2 86) (.pair (.dat (.int .i64)) (.pair (.dat .bool) (.pair (.dat .bool) (.pair (.dat YH0) .unit))))))) .unit), .unit, P_steps_Run_Begin⟩
theorem h_steps_Run_Begin : RHolds Try.prog glob 10 c_steps_Run_Begin := rholds_a con_nil (rcon_cons h_steps_Run_isGiven (rcon_twin h_steps_Run_isGiven_nil rcon_nil)) inv_nil Try.f10
noncomputable def c_steps_Run_Want : RCon := ⟨[true], .unit, (.pair (.ref 67 (.pair (.dat .bool) (.pair (.buf YH2 86) (.pair (.dat (.int .i64)) (.pair (.dat .bool) (.pair (.dat .bool) (.pair (.dat YH0) .unit))))))) .unit), (.pair YH0 YH5), P_steps_Run_Want⟩
theorem h_steps_Run_Want : RHolds Try.prog glob 12 c_steps_Run_Want := rholds_a con_nil (rcon_cons h_steps_Run_isGiven (rcon_twin h_steps_Run_isGiven_nil rcon_nil)) inv_nil Try.f12
noncomputable def c_slices_Clone_string_string : Con := ⟨(.pair (.slice .str) .unit), (.pair (.slice .str) .unit), P_slices_Clone_string_string⟩
theorem h_slices_Clone_string_string : Holds Try.prog glob 33 c_slices_Clone_string_string := by
  refine clone_holds (P := Try.prog) (cx := cxOf [] []) (bf := [5]) (e := .str) (tid := 47) (fn := Try.f33) (s0 := fun l => (argSt (fun _ => none) [.data (.slice .str) l]).put 2 (.data (.slice .str) ([] : List (.str : Ty).den))) mix (cx_ok [] []) (conOk_of con_nil rcon_nil spc_ok inv_nil) Try.func33 (by kernel_rfl)
    (by rfl) rfl (by decide) (by decide) rfl rfl rfl rfl rfl rfl (fun l => by rfl) (fun l => rfl) (fun l => rfl) (fun l => rfl) (fun l => by rfl) (fun l hl => ?_)
  have key : ∀ m : List (.str : Ty).den, fits (len m) = true → sel (fits (plus (len ([] : List (.str : Ty).den)) (len m))) (some ((app [] m, ()) : (Ty.pair (.slice .str) .unit).den)) none = some (m, ()) := by
    intro m hm
    have e : plus (len ([] : List (.str : Ty).den)) (len m) = len m := by simp [plus, len]
    rw [e, hm]
    rfl
  exact Eq.trans (b := sel (fits (plus (len ([] : List (.str : Ty).den)) (len (α := (.str : Ty).den) l))) (some ((app (α := (.str : Ty).den) [] l, ()) : (Ty.pair (.slice .str) .unit).den)) none) (by rfl) (key l hl)
noncomputable def c_steps_answer : Con := ⟨YH6, YH6, P_steps_answer⟩
theorem h_steps_answer : HoldsG 26 c_steps_answer := holds_b (con_cons h_slices_Clone_string_string con_nil) Try.f26
noncomputable def c_steps_Run_Want_nil : RCon := ⟨[true], .unit, (.pair .nilp .unit), (.pair YH0 YH5), P_steps_Run_Want_nil⟩
theorem h_steps_Run_Want_nil : RHolds Try.prog glob 12 c_steps_Run_Want_nil := rholds_a con_nil (rcon_cons h_steps_Run_isGiven (rcon_twin h_steps_Run_isGiven_nil rcon_nil)) inv_nil Try.f12
noncomputable def c_steps_Run_Give : RCon := ⟨[true, false], YH6, (.pair (.ref 67 (.pair (.dat .bool) (.pair (.buf YH2 86) (.pair (.dat (.int .i64)) (.pair (.dat .bool) (.pair (.dat .bool) (.pair (.dat YH0) .unit))))))) .unit), YH3, P_steps_Run_Give⟩
theorem h_steps_Run_Give : RHolds Try.prog glob 13 c_steps_Run_Give := rholds_a (con_cons h_steps_answer con_nil) (rcon_cons h_steps_Run_Want (rcon_cons h_steps_Run_isGiven (rcon_twin h_steps_Run_Want_nil (rcon_twin h_steps_Run_isGiven_nil rcon_nil)))) inv_nil Try.f13
noncomputable def c_steps_Run_Len : RCon := ⟨[true], .unit, (.pair (.ref 67 (.pair (.dat .bool) (.pair (.buf YH2 86) (.pair (.dat (.int .i64)) (.pair (.dat .bool) (.pair (.dat .bool) (.pair (.dat YH0) .unit))))))) .unit), YH3, P_steps_Run_Len⟩
theorem h_steps_Run_Len : RHolds Try.prog glob 15 c_steps_Run_Len := rholds_a con_nil rcon_nil inv_nil Try.f15
noncomputable def c_steps_pause : Con := ⟨.unit, YH6, P_steps_pause⟩
theorem h_steps_pause : HoldsG 30 c_steps_pause := holds_b con_nil Try.f30
noncomputable def c_steps_Run_Do : RCon := ⟨[true, false], (.pair YH0 .unit), (.pair (.ref 67 (.pair (.dat .bool) (.pair (.buf YH2 86) (.pair (.dat (.int .i64)) (.pair (.dat .bool) (.pair (.dat .bool) (.pair (.dat YH0) .unit))))))) .unit), YH6, P_steps_Run_Do⟩
theorem h_steps_Run_Do : RHolds Try.prog glob 20 c_steps_Run_Do := rholds_a (con_cons h_steps_answer (con_cons h_steps_pause con_nil)) (rcon_cons h_steps_Run_isGiven (rcon_twin h_steps_Run_isGiven_nil rcon_nil)) inv_nil Try.f20
noncomputable def c_steps_Run_Begin_nil : RCon := ⟨[true], .unit, (.pair .nilp .unit), .unit, P_steps_Run_Begin_nil⟩
theorem h_steps_Run_Begin_nil : RHolds Try.prog glob 10 c_steps_Run_Begin_nil := rholds_a con_nil (rcon_cons h_steps_Run_isGiven (rcon_twin h_steps_Run_isGiven_nil rcon_nil)) inv_nil Try.f10
noncomputable def c_steps_Run_Give_nil : RCon := ⟨[true, false], YH6, (.pair .nilp .unit), YH3, P_steps_Run_Give_nil⟩
theorem h_steps_Run_Give_nil : RHolds Try.prog glob 13 c_steps_Run_Give_nil := rholds_a (con_cons h_steps_answer con_nil) (rcon_cons h_steps_Run_Want (rcon_cons h_steps_Run_isGiven (rcon_twin h_steps_Run_Want_nil (rcon_twin h_steps_Run_isGiven_nil rcon_nil)))) inv_nil Try.f13
noncomputable def c_steps_Run_Len_nil : RCon := ⟨[true], .unit, (.pair .nilp .unit), YH3, P_steps_Run_Len_nil⟩
theorem h_steps_Run_Len_nil : RHolds Try.prog glob 15 c_steps_Run_Len_nil := rholds_a con_nil rcon_nil inv_nil Try.f15
noncomputable def c_steps_Run_Do_nil : RCon := ⟨[true, false], (.pair YH0 .unit), (.pair .nilp .unit), YH6, P_steps_Run_Do_nil⟩
theorem h_steps_Run_Do_nil : RHolds Try.prog glob 20 c_steps_Run_Do_nil := rholds_a (con_cons h_steps_answer (con_cons h_steps_pause con_nil)) (rcon_cons h_steps_Run_isGiven (rcon_twin h_steps_Run_isGiven_nil rcon_nil)) inv_nil Try.f20
noncomputable def c_law26_awake : Con := ⟨.unit, YH5, P_law26_awake⟩
theorem h_law26_awake : HoldsG 6 c_law26_awake := holds_a (con_cons h_steps_answer (con_cons h_steps_pause con_nil)) (rcon_cons h_steps_Run_Begin (rcon_cons h_steps_Run_Want (rcon_cons h_steps_Run_Give (rcon_cons h_steps_Run_Len (rcon_cons h_steps_Run_Do (rcon_cons h_steps_Run_isGiven (rcon_twin h_steps_Run_Begin_nil (rcon_twin h_steps_Run_Want_nil (rcon_twin h_steps_Run_Give_nil (rcon_twin h_steps_Run_Len_nil (rcon_twin h_steps_Run_Do_nil (rcon_twin h_steps_Run_isGiven_nil rcon_nil)))))))))))) inv_nil Try.f6
noncomputable def c_ref09_SameRes : Con := ⟨(.pair YH1 YH6), YH5, P_ref09_SameRes⟩
theorem h_ref09_SameRes : HoldsG 16 c_ref09_SameRes := holds_b con_nil Try.f16
noncomputable def c_ref26_Small : Con := ⟨(.pair (.slice (.pair (.int .i64) YH2)) YH3), YH5, P_ref26_Small⟩
theorem h_ref26_Small : HoldsG 19 c_ref26_Small := holds_b con_nil Try.f19
noncomputable def c_steps_Run_Log : RCon := ⟨[true], .unit, (.pair (.ref 67 (.pair (.dat .bool) (.pair (.buf YH2 86) (.pair (.dat (.int .i64)) (.pair (.dat .bool) (.pair (.dat .bool) (.pair (.dat YH0) .unit))))))) .unit), (.pair (.slice YH0) (.pair (.slice YH1) .unit)), P_steps_Run_Log⟩
theorem h_steps_Run_Log : RHolds Try.prog glob 21 c_steps_Run_Log := rholds_a (con_cons h_steps_answer con_nil) (rcon_cons h_steps_Run_Len (rcon_twin h_steps_Run_Len_nil rcon_nil)) inv_nil Try.f21
noncomputable def c_steps_Run_Log_nil : RCon := ⟨[true], .unit, (.pair .nilp .unit), (.pair (.slice YH0) (.pair (.slice YH1) .unit)), P_steps_Run_Log_nil⟩
theorem h_steps_Run_Log_nil : RHolds Try.prog glob 21 c_steps_Run_Log_nil := rholds_a (con_cons h_steps_answer con_nil) (rcon_cons h_steps_Run_Len (rcon_twin h_steps_Run_Len_nil rcon_nil)) inv_nil Try.f21
noncomputable def c_law26_StepsNobody : Con := ⟨(.pair (.pair (.int .i64) YH2) .unit), YH5, P_law26_StepsNobody⟩
theorem h_law26_StepsNobody : HoldsG 4 c_law26_StepsNobody := holds_a (con_cons h_law26_awake (con_cons h_ref09_SameRes (con_cons h_ref26_Small (con_cons h_steps_answer (con_cons h_steps_pause con_nil))))) (rcon_cons h_steps_Run_Begin (rcon_cons h_steps_Run_Want (rcon_cons h_steps_Run_Give (rcon_cons h_steps_Run_Len (rcon_cons h_steps_Run_Do (rcon_cons h_steps_Run_Log (rcon_cons h_steps_Run_isGiven (rcon_twin h_steps_Run_Begin_nil (rcon_twin h_steps_Run_Want_nil (rcon_twin h_steps_Run_Give_nil (rcon_twin h_steps_Run_Len_nil (rcon_twin h_steps_Run_Do_nil (rcon_twin h_steps_Run_Log_nil (rcon_twin h_steps_Run_isGiven_nil rcon_nil)))))))))))))) inv_nil Try.f4
end Go.Proofs.Ytgofkhjgokaiaaa
