/- The layer's functions keep their contracts: each comes to its plain definition, by the ghost interpreter. -/
import Derived.Test.YthhkijiamblgaaaRows
import Derived.Test.YthhkijiamblgaaaPlA
import Derived.Test.YthhkijiamblgaaaOnce
namespace Go.Proofs.Ythhkijiamblgaaa
open Go Go.Ge
set_option linter.unusedVariables false
set_option linter.unusedSectionVars false
set_option maxRecDepth 100000
variable [Lp]

def cy (s : List (Nat × Nat)) (m : List Nat) : Option Plan := some ⟨s, m, false⟩
def cz (s : List (Nat × Nat)) : Option Plan := some ⟨s, [], false⟩
def fp (a : List (Option Plan)) : FPlan := ⟨a, []⟩
abbrev YH0 : Ty := (.pair (.int .i64) (.pair (.int .i64) .unit))
abbrev YH1 : Ty := (.pair (.int .i64) .unit)
abbrev YH2 : Ty := (.slice (.int .i64))
abbrev YH3 : Ty := (.pair (.int .i64) YH0)
abbrev YH4 : Ty := (.pair .bool .unit)
noncomputable def plans : Nat → FPlan
  | 7 => fp [none, none, none, none]
  | 9 => fp [none]
  | 11 => fp [none, none]
  | 13 => fp [none, cz [(4, 4), (5, 3)], none, none]
  | 14 => fp [none]
  | 16 => fp [cy [] [0]]
  | 17 => fp [none, none, none, cy [] [0]]
  | 19 => fp [cy [] [0]]
  | 20 => fp [none]
  | 28 => fp [cy [] [0], none, none]
  | 30 => fp [cy [(1, 3), (2, 3), (3, 3), (8, 4), (9, 4), (0, 999999)] [0, 1, 2, 3], none, none, cy [(3, 3), (0, 999999)] [0, 1, 2], cy [(11, 3), (12, 63), (0, 999999)] [0, 1, 2], cz [], none, none, cy [(1, 3), (2, 3), (8, 4), (0, 999999)] [0, 1, 2, 3, 14]]
  | 31 => fp [none]
  | 32 => fp [cy [(6, 3), (0, 999999)] [0], none, cy [(7, 3), (0, 999999)] [0], none]
  | 33 => fp [cy [(9, 3), (0, 999999)] [0, 6, 8, 9], none, cy [(10, 3), (0, 999999)] [0, 6, 7, 10], none]
  | 34 => fp [cy [(0, 999999)] [0], cy [(9, 3), (0, 999999)] [0, 7], none, cz [(10, 3)]]
  | 35 => fp [cy [(11, 3), (0, 999999)] [0, 9, 10, 11, 12], cy [(10, 3), (11, 3), (12, 3), (0, 999999)] [0, 9, 10, 11, 12], none, none]
  | 36 => fp [cy [(6, 3), (7, 3), (0, 999999)] [0], none]
  | 37 => fp [cy [(6, 4), (7, 3), (8, 3), (0, 999999)] [0], none, cz [(7, 3)], none, none, none, cy [(0, 999999)] [0], cy [(9, 3), (0, 999999)] [0], none, none, cy [(0, 999999)] [0], cy [(10, 3), (0, 999999)] [0], none, none]
  | 39 => fp [cy [(9, 3), (10, 3), (0, 999999)] [0], cz [(9, 3)], none, cz [(10, 3)], none, none]
  | 40 => fp [cz [(10, 3)], none, cz [(11, 3)], none, none, cy [(10, 3), (11, 3), (0, 999999)] [0], cz [(10, 3)], none, cz [(11, 3)], none, none]
  | 41 => fp [cz [(0, 71), (2, 3)], cz [(0, 71), (2, 3)]]
  | 42 => fp [cz [(0, 73), (2, 3)], cz [(0, 73), (2, 3)], cz [(0, 73), (2, 3)]]
  | 43 => fp [cy [(8, 3), (0, 999999)] [0], none, cz [(9, 3)], none]
  | 49 => fp [none]
  | _ => ⟨[], []⟩

def objs : List (Nat × List OFld) := []
def els : List (Nat × Nat) := []
noncomputable def spc : List (Nat × Spc) := []
noncomputable def tys : List (Nat × Ty) := [(3, (.int .i64)), (4, .bool), (5, (.int .u8)), (9, .str), (22, (.slice YH3)), (28, YH2), (29, (.slice .bool)), (30, (.int .i64)), (34, YH3), (38, (.slice YH0)), (40, (.pair (.slice YH0) YH1)), (50, YH0), (61, (.int .u64)), (63, (.int .i64)), (71, (.int .u32)), (73, (.int .u64)), (74, (.int .u64))]
noncomputable def funs : List (Nat × Func) := [(5, Try.f5), (7, Try.f7), (8, Try.f8), (9, Try.f9), (11, Try.f11), (13, Try.f13), (14, Try.f14), (16, Try.f16), (17, Try.f17), (19, Try.f19), (20, Try.f20), (23, Try.f23), (24, Try.f24), (26, Try.f26), (27, Try.f27), (28, Try.f28), (29, Try.f29), (30, Try.f30), (31, Try.f31), (32, Try.f32), (33, Try.f33), (34, Try.f34), (35, Try.f35), (36, Try.f36), (37, Try.f37), (38, Try.f38), (39, Try.f39), (40, Try.f40), (41, Try.f41), (42, Try.f42), (43, Try.f43), (44, Try.f44), (45, Try.f45), (46, Try.f46), (47, Try.f47), (48, Try.f48), (49, Try.f49)]
def ones : List Nat := [24, 37, 52, 53, 57, 78, 80]
def ptrs : List Nat := [24, 37, 78, 80]
noncomputable def cxOf (con : List (Nat × Con)) (rcon : List (Nat × RCon)) (inv : List (String × Con) := []) : Ctx := ⟨tys, ones, ptrs, funs, con, rcon, objs, spc, els, inv⟩

theorem mix : Try.prog.follows .mixedOrders = true := by kernel_rfl

theorem T_ok : ∀ tid t, find tys tid = some t → Den Try.prog t tid := tys_ok (by kernel_rfl)
theorem ones_ok : ∀ tid, memN ones tid = true → (∀ w, (isAgg tid).run Try.prog w = .ok false w) ∧ (∀ w, (Go.sizeOf tid).run Try.prog w = .ok 1 w) ∧ ∃ z, (∀ w, (zeroValue tid).run Try.prog w = .ok z w) ∧ z.oneCell' = true := ones_of (by kernel_rfl)
theorem ptrs_ok : ∀ tid, memN ptrs tid = true → ∃ e, Try.prog.underlying tid = some (.pointer e) := ptrs_of (by kernel_rfl)
theorem fns_ok : ∀ f fn, find funs f = some fn → Try.prog.funcs[f]? = some fn := fns_of ((fns_cons Try.func5 (fns_cons Try.func7 (fns_cons Try.func8 (fns_cons Try.func9 (fns_cons Try.func11 (fns_cons Try.func13 (fns_cons Try.func14 (fns_cons Try.func16 (fns_cons Try.func17 (fns_cons Try.func19 (fns_cons Try.func20 (fns_cons Try.func23 (fns_cons Try.func24 (fns_cons Try.func26 (fns_cons Try.func27 (fns_cons Try.func28 (fns_cons Try.func29 (fns_cons Try.func30 (fns_cons Try.func31 (fns_cons Try.func32 (fns_cons Try.func33 (fns_cons Try.func34 (fns_cons Try.func35 (fns_cons Try.func36 (fns_cons Try.func37 (fns_cons Try.func38 (fns_cons Try.func39 (fns_cons Try.func40 (fns_cons Try.func41 (fns_cons Try.func42 (fns_cons Try.func43 (fns_cons Try.func44 (fns_cons Try.func45 (fns_cons Try.func46 (fns_cons Try.func47 (fns_cons Try.func48 (fns_cons Try.func49 fns_nil))))))))))))))))))))))))))))))))))))))
theorem objs_ok : ∀ tid fs, find objs tid = some fs → objB Try.prog tid fs = true := objs_of (by kernel_rfl)
theorem els_ok : ∀ tid e, find els tid = some e → Try.prog.underlying tid = some (.slice e) := els_of (by kernel_rfl)
theorem cx_ok (con : List (Nat × Con)) (rcon : List (Nat × RCon)) (inv : List (String × Con) := []) : CxOk Try.prog (cxOf con rcon inv) := ⟨T_ok, ones_ok, ptrs_ok, fns_ok, objs_ok, els_ok⟩
theorem spc_ok : ∀ p ∈ spc, SpcOk Try.prog p.1 p.2 :=  spc_nil
theorem funs_ok (con : List (Nat × Con)) (rcon : List (Nat × RCon)) (inv : List (String × Con) := []) : FnsOk (cxOf con rcon inv) := fnsOk_of (cx := cxOf con rcon inv) (show (funs.all fun p => fnOk p.2) = true by kernel_rfl)

def glob : Globs := noGlobs
theorem holds_at {con : List (Nat × Con)} {rcon : List (Nat × RCon)} {inv : List (String × Con)} (hcon : ∀ p ∈ con, Holds Try.prog glob p.1 p.2) (hrcon : ∀ p ∈ rcon, RHolds Try.prog glob (p.1 / 2) p.2) (hinv : ∀ p ∈ inv, IHolds Try.prog glob p.1 p.2) {f : Nat} {fn : Func} {A R : Ty} {spec : A.den → Option R.den} (hfn : find funs f = some fn) (hb : fn.body.isSome = true)
    (hs : ∀ x, sem (cxOf con rcon inv) 12 plans f A R x = spec x) : Holds Try.prog glob f ⟨A, R, spec⟩ := by
  obtain ⟨code, hcode⟩ := Option.isSome_iff_exists.1 hb
  exact holds_of_sem mix (cx_ok con rcon inv) (conOk_of hcon hrcon spc_ok hinv) (funs_ok con rcon inv) (f := f) hfn hcode (fun x y h => by rw [hs]; exact h)

theorem rholds_at {con : List (Nat × Con)} {rcon : List (Nat × RCon)} {inv : List (String × Con)} (hcon : ∀ p ∈ con, Holds Try.prog glob p.1 p.2) (hrcon : ∀ p ∈ rcon, RHolds Try.prog glob (p.1 / 2) p.2) (hinv : ∀ p ∈ inv, IHolds Try.prog glob p.1 p.2) {f : Nat} {fn : Func} {ps : List Bool} {A : Ty} {U : OT} {R : Ty} {spec : A.den × U.den → Option (R.den × U.den)} (hfn : find funs f = some fn) (hb : fn.body.isSome = true)
    (hs : ∀ x, semR (cxOf con rcon inv) 12 plans f ps A U R x = spec x) : RHolds Try.prog glob f ⟨ps, A, U, R, spec⟩ := by
  obtain ⟨code, hcode⟩ := Option.isSome_iff_exists.1 hb
  exact rholds_of_sem mix (cx_ok con rcon inv) (conOk_of hcon hrcon spc_ok hinv) (funs_ok con rcon inv) (f := f) hfn hcode (fun x y h => by rw [hs]; exact h)

theorem holds_a {con : List (Nat × Con)} {rcon : List (Nat × RCon)} {inv : List (String × Con)} (hcon : ∀ p ∈ con, Holds Try.prog glob p.1 p.2) (hrcon : ∀ p ∈ rcon, RHolds Try.prog glob (p.1 / 2) p.2) (hinv : ∀ p ∈ inv, IHolds Try.prog glob p.1 p.2) (fn : Func) {f : Nat} {A R : Ty} {spec : A.den → Option R.den} (hfn : find funs f = some fn := by rfl) (hb : fn.body.isSome = true := by kernel_rfl)
    (hs : ∀ x, sem (cxOf con rcon inv) 12 plans f A R x = spec x := by intro x; kernel_rfl) : Holds Try.prog glob f ⟨A, R, spec⟩ := holds_at hcon hrcon hinv hfn hb hs
theorem holds_b {con : List (Nat × Con)} (hcon : ∀ p ∈ con, Holds Try.prog glob p.1 p.2) (fn : Func) {f : Nat} {A R : Ty} {spec : A.den → Option R.den} (hfn : find funs f = some fn := by rfl) (hb : fn.body.isSome = true := by kernel_rfl)
    (hs : ∀ x, sem (cxOf con [] []) 12 plans f A R x = spec x := by intro x; kernel_rfl) : Holds Try.prog glob f ⟨A, R, spec⟩ := holds_at hcon rcon_nil inv_nil hfn hb hs
theorem rholds_a {con : List (Nat × Con)} {rcon : List (Nat × RCon)} {inv : List (String × Con)} (hcon : ∀ p ∈ con, Holds Try.prog glob p.1 p.2) (hrcon : ∀ p ∈ rcon, RHolds Try.prog glob (p.1 / 2) p.2) (hinv : ∀ p ∈ inv, IHolds Try.prog glob p.1 p.2) (fn : Func) {f : Nat} {ps : List Bool} {A : Ty} {U : OT} {R : Ty} {spec : A.den × U.den → Option (R.den × U.den)} (hfn : find funs f = some fn := by rfl) (hb : fn.body.isSome = true := by kernel_rfl)
    (hs : ∀ x, semR (cxOf con rcon inv) 12 plans f ps A U R x = spec x := by intro x; kernel_rfl) : RHolds Try.prog glob f ⟨ps, A, U, R, spec⟩ := rholds_at hcon hrcon hinv hfn hb hs
abbrev HoldsG := Holds Try.prog glob

noncomputable def c_ref09_SameInts : Con := ⟨(.pair YH2 (.pair YH2 .unit)), YH4, P_ref09_SameInts⟩
theorem h_ref09_SameInts : HoldsG 13 c_ref09_SameInts := holds_b con_nil Try.f13
noncomputable def c_law11_awake : Con := ⟨.unit, YH4, P_law11_awake⟩
theorem h_law11_awake : Holds Try.prog glob 6 c_law11_awake := awake_holds h_ref09_SameInts
noncomputable def c_math_bits_Len32 : Con := ⟨(.pair (.int .u32) .unit), YH1, P_math_bits_Len32⟩
theorem h_math_bits_Len32 : HoldsG 41 c_math_bits_Len32 := holds_b con_nil Try.f41
noncomputable def c_math_bits_Len64 : Con := ⟨(.pair (.int .u64) .unit), YH1, P_math_bits_Len64⟩
theorem h_math_bits_Len64 : HoldsG 42 c_math_bits_Len64 := holds_b con_nil Try.f42
noncomputable def c_math_bits_Len : Con := ⟨(.pair (.int .u64) .unit), YH1, P_math_bits_Len⟩
theorem h_math_bits_Len : HoldsG 31 c_math_bits_Len := holds_b (con_cons h_math_bits_Len32 (con_cons h_math_bits_Len64 con_nil)) Try.f31
noncomputable def c_cmp_isNaN_int : Con := ⟨YH1, YH4, P_cmp_isNaN_int⟩
theorem h_cmp_isNaN_int : HoldsG 48 c_cmp_isNaN_int := holds_b con_nil Try.f48
noncomputable def c_cmp_Less_int : Con := ⟨YH0, YH4, P_cmp_Less_int⟩
theorem h_cmp_Less_int : HoldsG 38 c_cmp_Less_int := holds_b (con_cons h_cmp_isNaN_int con_nil) Try.f38
noncomputable def c_slices_order2Ordered_int : RCon := ⟨[false, false, false, true], (.pair YH2 YH0), (.pair (.ref 0 (.dat (.int .i64))) .unit), YH0, P_slices_order2Ordered_int⟩
theorem h_slices_order2Ordered_int : RHolds Try.prog glob 49 c_slices_order2Ordered_int := rholds_a (con_cons h_cmp_Less_int con_nil) rcon_nil inv_nil Try.f49
noncomputable def c_slices_medianOrdered_int : RCon := ⟨[false, false, false, false, true], (.pair YH2 YH3), (.pair (.ref 0 (.dat (.int .i64))) .unit), YH1, P_slices_medianOrdered_int⟩
theorem h_slices_medianOrdered_int : RHolds Try.prog glob 47 c_slices_medianOrdered_int := rholds_a (con_cons h_cmp_Less_int con_nil) (rcon_cons h_slices_order2Ordered_int rcon_nil) inv_nil Try.f47
noncomputable def c_slices_medianAdjacentOrdered_int : RCon := ⟨[false, false, true], (.pair YH2 YH1), (.pair (.ref 0 (.dat (.int .i64))) .unit), YH1, P_slices_medianAdjacentOrdered_int⟩
theorem h_slices_medianAdjacentOrdered_int : RHolds Try.prog glob 46 c_slices_medianAdjacentOrdered_int := rholds_a (con_cons h_cmp_Less_int con_nil) (rcon_cons h_slices_medianOrdered_int (rcon_cons h_slices_order2Ordered_int rcon_nil)) inv_nil Try.f46
noncomputable def c_slices_choosePivotOrdered_int : Con := ⟨(.pair YH2 YH0), YH0, P_slices_choosePivotOrdered_int⟩
theorem h_slices_choosePivotOrdered_int : HoldsG 35 c_slices_choosePivotOrdered_int := holds_a (con_cons h_cmp_Less_int con_nil) (rcon_cons h_slices_medianAdjacentOrdered_int (rcon_cons h_slices_medianOrdered_int (rcon_cons h_slices_order2Ordered_int rcon_nil))) inv_nil Try.f35
noncomputable def c_slices_partialInsertionSortOrdered_int : Con := ⟨(.pair YH2 YH0), YH4, P_slices_partialInsertionSortOrdered_int⟩
theorem h_slices_partialInsertionSortOrdered_int : HoldsG 37 c_slices_partialInsertionSortOrdered_int := holds_b (con_cons h_cmp_Less_int con_nil) Try.f37
noncomputable def c_slices_partitionEqualOrdered_int : Con := ⟨(.pair YH2 YH3), YH1, P_slices_partitionEqualOrdered_int⟩
theorem h_slices_partitionEqualOrdered_int : HoldsG 39 c_slices_partitionEqualOrdered_int := holds_b (con_cons h_cmp_Less_int con_nil) Try.f39
noncomputable def c_slices_partitionOrdered_int : Con := ⟨(.pair YH2 YH3), (.pair (.int .i64) YH4), P_slices_partitionOrdered_int⟩
theorem h_slices_partitionOrdered_int : HoldsG 40 c_slices_partitionOrdered_int := holds_b (con_cons h_cmp_Less_int con_nil) Try.f40
noncomputable def c_slices_nextPowerOfTwo : Con := ⟨YH1, (.pair (.int .u64) .unit), P_slices_nextPowerOfTwo⟩
theorem h_slices_nextPowerOfTwo : HoldsG 44 c_slices_nextPowerOfTwo := holds_b (con_cons h_math_bits_Len con_nil) Try.f44
noncomputable def c_slices_xorshift_Next : RCon := ⟨[true], .unit, (.pair (.ref 0 (.dat (.int .u64))) .unit), (.pair (.int .u64) .unit), P_slices_xorshift_Next⟩
theorem h_slices_xorshift_Next : RHolds Try.prog glob 45 c_slices_xorshift_Next := rholds_a con_nil rcon_nil inv_nil Try.f45
noncomputable def c_law11_ProcsNobody : Con := ⟨(.pair YH3 .unit), YH4, P_law11_ProcsNobody⟩
theorem h_law11_ProcsNobody : HoldsG 5 c_law11_ProcsNobody := holds_a (con_cons h_law11_awake (con_cons h_math_bits_Len (con_cons h_slices_choosePivotOrdered_int (con_cons h_slices_partialInsertionSortOrdered_int (con_cons h_cmp_Less_int (con_cons h_slices_partitionEqualOrdered_int (con_cons h_slices_partitionOrdered_int (con_cons h_slices_nextPowerOfTwo con_nil)))))))) (rcon_cons h_slices_xorshift_Next rcon_nil) inv_nil Try.f5
end Go.Proofs.Ythhkijiamblgaaa
