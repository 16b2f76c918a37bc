/- The layer's functions keep their contracts: each comes to its plain definition, by the ghost interpreter. -/
import Derived.Test.YthhkijiamblgaaaRows
import Derived.Test.YthhkijiamblgaaaPlA
import Derived.Test.YthhkijiamblgaaaOnce
namespace Go.Proofs.Ythhkijiamblgaaa
open Go Go.Ge
set_option linter.unusedVariables false
set_option linter.unusedSectionVars false
set_option maxRecDepth 100000
variable [Lp]

def cy (s : List (Nat × Nat)) (m : List Nat) : Option Plan := some ⟨s, m, false⟩
def cz (s : List (Nat × Nat)) : Option Plan := some ⟨s, [], false⟩
def fp (a : List (Option Plan)) : FPlan := ⟨a, []⟩
abbrev YH0 : Ty := (.pair (.int .i64) (.pair (.int .i64) .unit))
abbrev YH1 : Ty := (.pair (.int .i64) .unit)
noncomputable def plans : Nat → FPlan
  | 4 => fp [none, cy [(2, 4), (6, 3)] [3, 4], none, none, none]
  | 7 => fp [none, none, none, none]
  | 10 => ⟨[none, none, none, none], [8000000, 8000001]⟩
  | 11 => fp [none, none]
  | 12 => fp [cz [(4, 3), (5, 30), (6, 3)], none, none]
  | 13 => fp [none, cz [(4, 4), (5, 3)], none, none]
  | 14 => fp [none]
  | 15 => ⟨[cy [(3, 28), (4, 3)] [3], none], [3]⟩
  | 16 => fp [cy [] [0]]
  | 17 => fp [none, none, none, cy [] [0]]
  | 18 => ⟨[none, none, none, cz [(8, 3)], none], [9]⟩
  | 19 => fp [cy [] [0]]
  | 21 => ⟨[cy [(5, 38), (6, 3)] [5], none, cy [(5, 38)] [5], none], [5]⟩
  | _ => ⟨[], []⟩

def objs : List (Nat × List OFld) := [(27, [.map, .dat (.int .i64)]), (40, [.buf YH0 0, .dat (.int .i64)])]
def els : List (Nat × Nat) := []
noncomputable def spc : List (Nat × Spc) := [(9, .tcl 27)]
noncomputable def tys : List (Nat × Ty) := [(3, (.int .i64)), (4, .bool), (5, (.int .u8)), (9, .str), (22, (.slice (.pair (.int .i64) YH0))), (28, (.slice (.int .i64))), (29, (.slice .bool)), (30, (.int .i64)), (34, (.pair (.int .i64) YH0)), (38, (.slice YH0)), (50, YH0), (61, (.int .u64)), (63, (.int .i64)), (71, (.int .u32)), (73, (.int .u64)), (74, (.int .u64))]
noncomputable def funs : List (Nat × Func) := [(4, Try.f4), (7, Try.f7), (8, Try.f8), (10, Try.f10), (11, Try.f11), (12, Try.f12), (13, Try.f13), (14, Try.f14), (15, Try.f15), (16, Try.f16), (17, Try.f17), (18, Try.f18), (19, Try.f19), (21, Try.f21), (22, Try.f22)]
def ones : List Nat := [24, 37, 52, 53, 57, 78, 80]
def ptrs : List Nat := [24, 37, 78, 80]
noncomputable def cxOf (con : List (Nat × Con)) (rcon : List (Nat × RCon)) (inv : List (String × Con) := []) : Ctx := ⟨tys, ones, ptrs, funs, con, rcon, objs, spc, els, inv⟩

theorem mix : Try.prog.follows .mixedOrders = true := by kernel_rfl

theorem T_ok : ∀ tid t, find tys tid = some t → Den Try.prog t tid := tys_ok (by kernel_rfl)
theorem ones_ok : ∀ tid, memN ones tid = true → (∀ w, (isAgg tid).run Try.prog w = .ok false w) ∧ (∀ w, (Go.sizeOf tid).run Try.prog w = .ok 1 w) ∧ ∃ z, (∀ w, (zeroValue tid).run Try.prog w = .ok z w) ∧ z.oneCell' = true := ones_of (by kernel_rfl)
theorem ptrs_ok : ∀ tid, memN ptrs tid = true → ∃ e, Try.prog.underlying tid = some (.pointer e) := ptrs_of (by kernel_rfl)
theorem fns_ok : ∀ f fn, find funs f = some fn → Try.prog.funcs[f]? = some fn := fns_of ((fns_cons Try.func4 (fns_cons Try.func7 (fns_cons Try.func8 (fns_cons Try.func10 (fns_cons Try.func11 (fns_cons Try.func12 (fns_cons Try.func13 (fns_cons Try.func14 (fns_cons Try.func15 (fns_cons Try.func16 (fns_cons Try.func17 (fns_cons Try.func18 (fns_cons Try.func19 (fns_cons Try.func21 (fns_cons Try.func22 fns_nil))))))))))))))))
theorem objs_ok : ∀ tid fs, find objs tid = some fs → objB Try.prog tid fs = true := objs_of (by kernel_rfl)
theorem els_ok : ∀ tid e, find els tid = some e → Try.prog.underlying tid = some (.slice e) := els_of (by kernel_rfl)
theorem cx_ok (con : List (Nat × Con)) (rcon : List (Nat × RCon)) (inv : List (String × Con) := []) : CxOk Try.prog (cxOf con rcon inv) := ⟨T_ok, ones_ok, ptrs_ok, fns_ok, objs_ok, els_ok⟩
theorem spc_ok : ∀ p ∈ spc, SpcOk Try.prog p.1 p.2 := (spc_cons s_procs_Table_Clone spc_nil)
theorem funs_ok (con : List (Nat × Con)) (rcon : List (Nat × RCon)) (inv : List (String × Con) := []) : FnsOk (cxOf con rcon inv) := fnsOk_of (cx := cxOf con rcon inv) (show (funs.all fun p => fnOk p.2) = true by kernel_rfl)

def glob : Globs := noGlobs
theorem holds_at {con : List (Nat × Con)} {rcon : List (Nat × RCon)} {inv : List (String × Con)} (hcon : ∀ p ∈ con, Holds Try.prog glob p.1 p.2) (hrcon : ∀ p ∈ rcon, RHolds Try.prog glob (p.1 / 2) p.2) (hinv : ∀ p ∈ inv, IHolds Try.prog glob p.1 p.2) {f : Nat} {fn : Func} {A R : Ty} {spec : A.den → Option R.den} (hfn : find funs f = some fn) (hb : fn.body.isSome = true)
    (hs : ∀ x, sem (cxOf con rcon inv) 12 plans f A R x = spec x) : Holds Try.prog glob f ⟨A, R, spec⟩ := by
  obtain ⟨code, hcode⟩ := Option.isSome_iff_exists.1 hb
  exact holds_of_sem mix (cx_ok con rcon inv) (conOk_of hcon hrcon spc_ok hinv) (funs_ok con rcon inv) (f := f) hfn hcode (fun x y h => by rw [hs]; exact h)

theorem rholds_at {con : List (Nat × Con)} {rcon : List (Nat × RCon)} {inv : List (String × Con)} (hcon : ∀ p ∈ con, Holds Try.prog glob p.1 p.2) (hrcon : ∀ p ∈ rcon, RHolds Try.prog glob (p.1 / 2) p.2) (hinv : ∀ p ∈ inv, IHolds Try.prog glob p.1 p.2) {f : Nat} {fn : Func} {ps : List Bool} {A : Ty} {U : OT} {R : Ty} {spec : A.den × U.den → Option (R.den × U.den)} (hfn : find funs f = some fn) (hb : fn.body.isSome = true)
    (hs : ∀ x, semR (cxOf con rcon inv) 12 plans f ps A U R x = spec x) : RHolds Try.prog glob f ⟨ps, A, U, R, spec⟩ := by
  obtain ⟨code, hcode⟩ := Option.isSome_iff_exists.1 hb
  exact rholds_of_sem mix (cx_ok con rcon inv) (conOk_of hcon hrcon spc_ok hinv) (funs_ok con rcon inv) (f := f) hfn hcode (fun x y h => by rw [hs]; exact h)

theorem holds_a {con : List (Nat × Con)} {rcon : List (Nat × RCon)} {inv : List (String × Con)} (hcon : ∀ p ∈ con, Holds Try.prog glob p.1 p.2) (hrcon : ∀ p ∈ rcon, RHolds Try.prog glob (p.1 / 2) p.2) (hinv : ∀ p ∈ inv, IHolds Try.prog glob p.1 p.2) (fn : Func) {f : Nat} {A R : Ty} {spec : A.den → Option R.den} (hfn : find funs f = some fn := by rfl) (hb : fn.body.isSome = true := by kernel_rfl)
    (hs : ∀ x, sem (cxOf con rcon inv) 12 plans f A R x = spec x := by intro x; kernel_rfl) : Holds Try.prog glob f ⟨A, R, spec⟩ := holds_at hcon hrcon hinv hfn hb hs
theorem holds_b {con : List (Nat × Con)} (hcon : ∀ p ∈ con, Holds Try.prog glob p.1 p.2) (fn : Func) {f : Nat} {A R : Ty} {spec : A.den → Option R.den} (hfn : find funs f = some fn := by rfl) (hb : fn.body.isSome = true := by kernel_rfl)
    (hs : ∀ x, sem (cxOf con [] []) 12 plans f A R x = spec x := by intro x; kernel_rfl) : Holds Try.prog glob f ⟨A, R, spec⟩ := holds_at hcon rcon_nil inv_nil hfn hb hs
theorem rholds_a {con : List (Nat × Con)} {rcon : List (Nat × RCon)} {inv : List (String × Con)} (hcon : ∀ p ∈ con, Holds Try.prog glob p.1 p.2) (hrcon : ∀ p ∈ rcon, RHolds Try.prog glob (p.1 / 2) p.2) (hinv : ∀ p ∈ inv, IHolds Try.prog glob p.1 p.2) (fn : Func) {f : Nat} {ps : List Bool} {A : Ty} {U : OT} {R : Ty} {spec : A.den × U.den → Option (R.den × U.den)} (hfn : find funs f = some fn := by rfl) (hb : fn.body.isSome = true := by kernel_rfl)
    (hs : ∀ x, semR (cxOf con rcon inv) 12 plans f ps A U R x = spec x := by intro x; kernel_rfl) : RHolds Try.prog glob f ⟨ps, A, U, R, spec⟩ := rholds_at hcon hrcon hinv hfn hb hs
abbrev HoldsG := Holds Try.prog glob

noncomputable def c_ref09_SameInts : Con := ⟨(.pair (.slice (.int .i64)) (.pair (.slice (.int .i64)) .unit)), (.pair .bool .unit), P_ref09_SameInts⟩
theorem h_ref09_SameInts : HoldsG 13 c_ref09_SameInts := holds_b con_nil Try.f13
noncomputable def c_law11_awake : Con := ⟨.unit, (.pair .bool .unit), P_law11_awake⟩
theorem h_law11_awake : Holds Try.prog glob 6 c_law11_awake := awake_holds h_ref09_SameInts
noncomputable def c_procs_Table_Alive : RCon := ⟨[true, false, false], YH0, (.pair (.ref 27 (.pair (.map) (.pair (.dat (.int .i64)) .unit))) .unit), (.pair .bool .unit), P_procs_Table_Alive⟩
theorem h_procs_Table_Alive : RHolds Try.prog glob 8 c_procs_Table_Alive := alive_holds
noncomputable def c_procs_Table_KillAll : RCon := ⟨[true], .unit, (.pair (.ref 27 (.pair (.map) (.pair (.dat (.int .i64)) .unit))) .unit), .unit, P_procs_Table_KillAll⟩
theorem h_procs_Table_KillAll : RHolds Try.prog glob 16 c_procs_Table_KillAll := killAll_holds
noncomputable def c_procs_Table_Spawn : RCon := ⟨[true, false], YH1, (.pair (.ref 27 (.pair (.map) (.pair (.dat (.int .i64)) .unit))) .unit), YH0, P_procs_Table_Spawn⟩
theorem h_procs_Table_Spawn : RHolds Try.prog glob 17 c_procs_Table_Spawn := spawn_holds
noncomputable def c_procs_Table_Kill : RCon := ⟨[true, false], YH1, (.pair (.ref 27 (.pair (.map) (.pair (.dat (.int .i64)) .unit))) .unit), YH1, P_procs_Table_Kill⟩
theorem h_procs_Table_Kill : RHolds Try.prog glob 19 c_procs_Table_Kill := kill_holds
noncomputable def c_law11_do : RCon := ⟨[true, false], (.pair (.pair (.int .i64) YH0) .unit), (.pair (.ref 27 (.pair (.map) (.pair (.dat (.int .i64)) .unit))) .unit), YH0, P_law11_do⟩
theorem h_law11_do : RHolds Try.prog glob 7 c_law11_do := rholds_a con_nil (rcon_cons h_procs_Table_Alive (rcon_cons h_procs_Table_KillAll (rcon_cons h_procs_Table_Spawn (rcon_cons h_procs_Table_Kill rcon_nil)))) inv_nil Try.f7
noncomputable def c_ref11_Table_Birth : RCon := ⟨[true, false], YH1, (.pair (.ref 40 (.pair (.buf YH0 0) (.pair (.dat (.int .i64)) .unit))) .unit), YH0, P_ref11_Table_Birth⟩
theorem h_ref11_Table_Birth : RHolds Try.prog glob 12 c_ref11_Table_Birth := rholds_a con_nil rcon_nil inv_nil Try.f12
noncomputable def c_ref11_Table_Spawn : RCon := ⟨[true, false], YH1, (.pair (.ref 40 (.pair (.buf YH0 0) (.pair (.dat (.int .i64)) .unit))) .unit), YH0, P_ref11_Table_Spawn⟩
theorem h_ref11_Table_Spawn : RHolds Try.prog glob 18 c_ref11_Table_Spawn := rholds_a con_nil (rcon_cons h_ref11_Table_Birth rcon_nil) inv_nil Try.f18
noncomputable def c_ref11_Table_Kill : RCon := ⟨[true, false], YH1, (.pair (.ref 40 (.pair (.buf YH0 0) (.pair (.dat (.int .i64)) .unit))) .unit), YH1, P_ref11_Table_Kill⟩
theorem h_ref11_Table_Kill : RHolds Try.prog glob 21 c_ref11_Table_Kill := rholds_a con_nil rcon_nil inv_nil Try.f21
noncomputable def c_ref11_Table_Alive : RCon := ⟨[true, false, false], YH0, (.pair (.ref 40 (.pair (.buf YH0 0) (.pair (.dat (.int .i64)) .unit))) .unit), (.pair .bool .unit), P_ref11_Table_Alive⟩
theorem h_ref11_Table_Alive : RHolds Try.prog glob 22 c_ref11_Table_Alive := rholds_a con_nil (rcon_cons h_ref11_Table_Birth rcon_nil) inv_nil Try.f22
noncomputable def c_ref11_Table_Do : RCon := ⟨[true, false], (.pair (.pair (.int .i64) YH0) .unit), (.pair (.ref 40 (.pair (.buf YH0 0) (.pair (.dat (.int .i64)) .unit))) .unit), YH0, P_ref11_Table_Do⟩
theorem h_ref11_Table_Do : RHolds Try.prog glob 10 c_ref11_Table_Do := rholds_a con_nil (rcon_cons h_ref11_Table_Birth (rcon_cons h_ref11_Table_Spawn (rcon_cons h_ref11_Table_Kill (rcon_cons h_ref11_Table_Alive rcon_nil)))) inv_nil Try.f10
noncomputable def c_procs_Table_Birth : RCon := ⟨[true, false], YH1, (.pair (.ref 27 (.pair (.map) (.pair (.dat (.int .i64)) .unit))) .unit), YH0, P_procs_Table_Birth⟩
theorem h_procs_Table_Birth : RHolds Try.prog glob 11 c_procs_Table_Birth := birth_holds
noncomputable def c_procs_Table_Pids : RCon := ⟨[true], .unit, (.pair (.ref 27 (.pair (.map) (.pair (.dat (.int .i64)) .unit))) .unit), (.pair (.slice (.int .i64)) .unit), P_procs_Table_Pids⟩
theorem h_procs_Table_Pids : RHolds Try.prog glob 14 c_procs_Table_Pids := pids_holds
noncomputable def c_ref11_Table_Pids : RCon := ⟨[true], .unit, (.pair (.ref 40 (.pair (.buf YH0 0) (.pair (.dat (.int .i64)) .unit))) .unit), (.pair (.slice (.int .i64)) .unit), P_ref11_Table_Pids⟩
theorem h_ref11_Table_Pids : RHolds Try.prog glob 15 c_ref11_Table_Pids := rholds_a con_nil rcon_nil inv_nil Try.f15
noncomputable def c_law11_ProcsPlay : Con := ⟨(.pair (.slice (.pair (.int .i64) YH0)) .unit), (.pair .bool .unit), P_law11_ProcsPlay⟩
theorem h_law11_ProcsPlay : HoldsG 4 c_law11_ProcsPlay := holds_a (con_cons h_law11_awake (con_cons h_ref09_SameInts con_nil)) (rcon_cons h_law11_do (rcon_cons h_procs_Table_Alive (rcon_cons h_ref11_Table_Do (rcon_cons h_procs_Table_Birth (rcon_cons h_ref11_Table_Birth (rcon_cons h_procs_Table_Pids (rcon_cons h_ref11_Table_Pids (rcon_cons h_procs_Table_KillAll (rcon_cons h_procs_Table_Spawn (rcon_cons h_ref11_Table_Spawn (rcon_cons h_procs_Table_Kill (rcon_cons h_ref11_Table_Kill (rcon_cons h_ref11_Table_Alive rcon_nil))))))))))))) inv_nil Try.f4
end Go.Proofs.Ythhkijiamblgaaa
