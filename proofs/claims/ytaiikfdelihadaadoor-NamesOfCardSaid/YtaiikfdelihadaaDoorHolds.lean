/- The layer's functions keep their contracts: each comes to its plain definition, by the ghost interpreter. -/
import Derived.Test.YtaiikfdelihadaaDoorRows
import Derived.Test.YtaiikfdelihadaaDoorGp17
import Derived.Test.YtaiikfdelihadaaDoorShelf
namespace Go.Proofs.YtaiikfdelihadaaDoor
open Go Go.Ge
set_option linter.unusedVariables false
set_option maxRecDepth 100000

noncomputable def plans : Nat → FPlan
  | 3 => ⟨[none, some ⟨[(6, 4), (11, 3)], [], false⟩, none, none], []⟩
  | 4 => ⟨[none], []⟩
  | 5 => ⟨[none, some ⟨[(6, 4), (7, 3)], [], false⟩, none, some ⟨[(6, 4), (8, 3)], [], false⟩, none, none, none, some ⟨[(6, 4), (11, 3)], [], false⟩, none, none, some ⟨[(6, 4), (14, 3)], [], false⟩, none, some ⟨[(6, 4), (15, 3)], [], false⟩, none, none], []⟩
  | 6 => ⟨[some ⟨[(2, 4), (3, 3)], [], false⟩, none, none], []⟩
  | 7 => ⟨[some ⟨[(2, 4), (3, 3)], [], false⟩, none, none], []⟩
  | 8 => ⟨[], []⟩
  | 9 => ⟨[none, none, none], [32]⟩
  | 10 => ⟨[none, none, none], [11]⟩
  | 11 => ⟨[some ⟨[(4, 9), (5, 4), (10, 3)], [], false⟩, none, none], []⟩
  | 12 => ⟨[some ⟨[(4, 9), (5, 4), (6, 3)], [], false⟩, none, none], []⟩
  | 13 => ⟨[none, some ⟨[(4, 4), (5, 3)], [], false⟩, none, none], []⟩
  | 14 => ⟨[none], [7]⟩
  | 15 => ⟨[none], []⟩
  | 16 => ⟨[none, some ⟨[(6, 27), (21, 3)], [5], false⟩, none, none], []⟩
  | 17 => ⟨[none, some ⟨[(6, 27), (9, 3)], [], false⟩, none, some ⟨[(6, 27), (10, 3)], [], false⟩, none, none], []⟩
  | 18 => ⟨[some ⟨[(2, 4), (3, 3)], [], false⟩, none, none, some ⟨[(2, 4), (4, 3)], [], false⟩, none, none, some ⟨[(2, 4), (5, 3)], [], false⟩, none, none], []⟩
  | 19 => ⟨[some ⟨[], [5, 6], false⟩, some ⟨[(20, 3)], [5, 6], false⟩, none, some ⟨[], [5, 6], false⟩, some ⟨[(36, 3)], [5, 6], false⟩, none, some ⟨[], [5, 6], false⟩, some ⟨[(52, 3)], [5, 6], false⟩, none, some ⟨[], [5, 6, 12], false⟩], [5]⟩
  | 20 => ⟨[some ⟨[(5, 22)], [5], false⟩, some ⟨[(5, 22), (6, 3)], [5], false⟩, none, some ⟨[(5, 22)], [5], false⟩, some ⟨[(5, 22), (7, 3)], [5], false⟩, none, some ⟨[(5, 22)], [5], false⟩, some ⟨[(5, 22), (8, 3)], [5], false⟩, none, some ⟨[(5, 22)], [5], false⟩], [5]⟩
  | 21 => ⟨[some ⟨[(2, 4), (3, 3)], [], false⟩, none, some ⟨[(2, 4), (4, 3)], [], false⟩, none, some ⟨[(2, 4), (5, 3)], [], false⟩, none, none], []⟩
  | 22 => ⟨[], []⟩
  | 23 => ⟨[none], [5]⟩
  | 24 => ⟨[none], [5]⟩
  | 25 => ⟨[some ⟨[(4, 3), (5, 3)], [], false⟩, none, none], []⟩
  | 26 => ⟨[], []⟩
  | 27 => ⟨[some ⟨[(4, 4), (5, 3)], [], false⟩, none, none], []⟩
  | 28 => ⟨[none, some ⟨[(4, 4), (5, 3)], [], false⟩, none, none], []⟩
  | 31 => ⟨[], []⟩
  | 32 => ⟨[], []⟩
  | 33 => ⟨[], []⟩
  | 34 => ⟨[some ⟨[(2, 4), (3, 3)], [], false⟩, none, none, some ⟨[(2, 4), (4, 3)], [], false⟩, none, none], []⟩
  | 35 => ⟨[], []⟩
  | 36 => ⟨[some ⟨[(2, 4), (3, 3)], [], false⟩, none, none], []⟩
  | 37 => ⟨[some ⟨[(2, 4), (3, 3)], [], false⟩, none, none], []⟩
  | 38 => ⟨[], []⟩
  | 39 => ⟨[some ⟨[(4, 3), (8, 3)], [0, 1], false⟩, none, none], []⟩
  | 40 => ⟨[], []⟩
  | 41 => ⟨[some ⟨[(4, 3), (8, 3)], [], false⟩, none, none], []⟩
  | 44 => ⟨[some ⟨[(4, 3), (8, 3)], [0, 1], false⟩, none, none], []⟩
  | 45 => ⟨[none, none, none], []⟩
  | 46 => ⟨[some ⟨[(2, 4), (3, 3)], [], false⟩, none, none], []⟩
  | 58 => ⟨[some ⟨[(0, 9)], [], false⟩, none], []⟩
  | 59 => ⟨[some ⟨[(0, 9)], [], false⟩, none], []⟩
  | 60 => ⟨[some ⟨[(3, 4), (4, 3)], [2], false⟩, none, none], []⟩
  | 61 => ⟨[some ⟨[(0, 9)], [1], false⟩, none, none], []⟩
  | 62 => ⟨[some ⟨[(0, 9)], [1], false⟩, none, none], []⟩
  | 71 => ⟨[], []⟩
  | _ => ⟨[], []⟩

def objs : List (Nat × List OFld) := []
def els : List (Nat × Nat) := []
noncomputable def spc : List (Nat × Spc) := [(23, .clone (.pair .str (.pair (.slice .str) .unit))), (24, .clone .str), (29, (.own .str .unit false P_slices_Sort_string_string)), (30, (.own .str .unit true P_slices_Compact_string_string))]
noncomputable def tys : List (Nat × Ty) := [(3, (.int .i64)), (4, .bool), (5, (.int .u8)), (9, .str), (21, (.int .i32)), (22, (.slice (.pair .str (.pair (.slice .str) .unit)))), (23, (.slice .str)), (27, (.int .i64)), (36, (.slice (.pair .str (.pair .str (.pair (.slice .str) (.pair .str (.pair (.int .i64) (.pair (.int .i64) (.pair .bool .unit))))))))), (37, (.slice (.pair .str (.pair (.slice .str) (.pair .str (.pair .str (.pair (.slice (.pair .str (.pair .str (.pair .str .unit)))) .unit))))))), (38, (.slice (.pair .str (.pair (.slice .str) (.pair .str (.pair .str (.pair .str (.pair (.slice (.pair .str (.pair .str (.pair .str .unit)))) .unit)))))))), (40, (.pair (.int .i64) (.pair (.slice (.pair .str (.pair .str (.pair (.slice .str) (.pair .str (.pair (.int .i64) (.pair (.int .i64) (.pair .bool .unit)))))))) (.pair (.slice (.pair .str (.pair (.slice .str) (.pair .str (.pair .str (.pair (.slice (.pair .str (.pair .str (.pair .str .unit)))) .unit)))))) (.pair (.slice (.pair .str (.pair (.slice .str) (.pair .str (.pair .str (.pair .str (.pair (.slice (.pair .str (.pair .str (.pair .str .unit)))) .unit))))))) .unit))))), (45, (.pair .str (.pair (.slice .str) .unit))), (47, (.pair .str (.pair .str (.pair (.slice .str) (.pair .str (.pair (.int .i64) (.pair (.int .i64) (.pair .bool .unit)))))))), (56, (.slice (.pair .str (.pair .str (.pair .str .unit))))), (58, (.pair .str (.pair (.slice .str) (.pair .str (.pair .str (.pair (.slice (.pair .str (.pair .str (.pair .str .unit)))) .unit)))))), (61, (.pair .str (.pair (.slice .str) (.pair .str (.pair .str (.pair .str (.pair (.slice (.pair .str (.pair .str (.pair .str .unit)))) .unit))))))), (68, (.int .u64)), (72, (.pair .str (.pair .str (.pair .str .unit)))), (74, (.int .i64)), (83, (.int .u32)), (85, (.int .u64)), (88, (.arr 256 .bool)), (93, (.int .u64)), (107, (.arr 256 (.int .u8))), (109, (.pair (.int .u8) (.pair (.int .u8) .unit))), (110, (.arr 16 (.pair (.int .u8) (.pair (.int .u8) .unit))))]
noncomputable def funs : List (Nat × Func) := [(3, Tryd.f3), (4, Tryd.f4), (5, Tryd.f5), (6, Tryd.f6), (7, Tryd.f7), (8, Tryd.f8), (9, Tryd.f9), (10, Tryd.f10), (11, Tryd.f11), (12, Tryd.f12), (13, Tryd.f13), (14, Tryd.f14), (15, Tryd.f15), (16, Tryd.f16), (17, Tryd.f17), (18, Tryd.f18), (19, Tryd.f19), (20, Tryd.f20), (21, Tryd.f21), (22, Tryd.f22), (23, Tryd.f23), (24, Tryd.f24), (25, Tryd.f25), (26, Tryd.f26), (27, Tryd.f27), (28, Tryd.f28), (31, Tryd.f31), (32, Tryd.f32), (33, Tryd.f33), (34, Tryd.f34), (35, Tryd.f35), (36, Tryd.f36), (37, Tryd.f37), (38, Tryd.f38), (39, Tryd.f39), (40, Tryd.f40), (41, Tryd.f41), (44, Tryd.f44), (45, Tryd.f45), (46, Tryd.f46), (58, Tryd.f58), (59, Tryd.f59), (60, Tryd.f60), (61, Tryd.f61), (62, Tryd.f62), (71, Tryd.f71)]
def ones : List Nat := [55, 62, 64, 92, 97, 103]
def ptrs : List Nat := [92, 97, 103]
noncomputable def cxOf (con : List (Nat × Con)) (rcon : List (Nat × RCon)) : Ctx := ⟨tys, ones, ptrs, funs, con, rcon, objs, spc, els⟩

theorem mix : Tryd.prog.follows .mixedOrders = true := by kernel_rfl

theorem T_ok : ∀ tid t, find tys tid = some t → Den Tryd.prog t tid := tys_ok (by kernel_rfl)
theorem ones_ok : ∀ tid, memN ones tid = true → (∀ w, (isAgg tid).run Tryd.prog w = .ok false w) ∧ (∀ w, (Go.sizeOf tid).run Tryd.prog w = .ok 1 w) ∧ ∃ z, (∀ w, (zeroValue tid).run Tryd.prog w = .ok z w) ∧ z.oneCell' = true := ones_of (by kernel_rfl)
theorem ptrs_ok : ∀ tid, memN ptrs tid = true → ∃ e, Tryd.prog.underlying tid = some (.pointer e) := ptrs_of (by kernel_rfl)
theorem fns_ok : ∀ f fn, find funs f = some fn → Tryd.prog.funcs[f]? = some fn := fns_of ((fns_cons Tryd.func3 (fns_cons Tryd.func4 (fns_cons Tryd.func5 (fns_cons Tryd.func6 (fns_cons Tryd.func7 (fns_cons Tryd.func8 (fns_cons Tryd.func9 (fns_cons Tryd.func10 (fns_cons Tryd.func11 (fns_cons Tryd.func12 (fns_cons Tryd.func13 (fns_cons Tryd.func14 (fns_cons Tryd.func15 (fns_cons Tryd.func16 (fns_cons Tryd.func17 (fns_cons Tryd.func18 (fns_cons Tryd.func19 (fns_cons Tryd.func20 (fns_cons Tryd.func21 (fns_cons Tryd.func22 (fns_cons Tryd.func23 (fns_cons Tryd.func24 (fns_cons Tryd.func25 (fns_cons Tryd.func26 (fns_cons Tryd.func27 (fns_cons Tryd.func28 (fns_cons Tryd.func31 (fns_cons Tryd.func32 (fns_cons Tryd.func33 (fns_cons Tryd.func34 (fns_cons Tryd.func35 (fns_cons Tryd.func36 (fns_cons Tryd.func37 (fns_cons Tryd.func38 (fns_cons Tryd.func39 (fns_cons Tryd.func40 (fns_cons Tryd.func41 (fns_cons Tryd.func44 (fns_cons Tryd.func45 (fns_cons Tryd.func46 (fns_cons Tryd.func58 (fns_cons Tryd.func59 (fns_cons Tryd.func60 (fns_cons Tryd.func61 (fns_cons Tryd.func62 (fns_cons Tryd.func71 fns_nil)))))))))))))))))))))))))))))))))))))))))))))))
theorem objs_ok : ∀ tid fs, find objs tid = some fs → objB Tryd.prog tid fs = true := objs_of (by kernel_rfl)
theorem els_ok : ∀ tid e, find els tid = some e → Tryd.prog.underlying tid = some (.slice e) := els_of (by kernel_rfl)
theorem cx_ok (con : List (Nat × Con)) (rcon : List (Nat × RCon)) : CxOk Tryd.prog (cxOf con rcon) := ⟨T_ok, ones_ok, ptrs_ok, fns_ok, objs_ok, els_ok⟩
noncomputable def cx0 : Ctx := ⟨tys, ones, ptrs, funs, [], [], objs, [], els⟩
theorem cx0_ok : CxOk Tryd.prog cx0 := ⟨T_ok, ones_ok, ptrs_ok, fns_ok, objs_ok, els_ok⟩
theorem s_slices_Clone_api_Named_api_Named : SpcOk Tryd.prog 23 (.clone (.pair .str (.pair (.slice .str) .unit))) := by
  refine clone_own (P := Tryd.prog) (cx := cx0) (bf := [2, 5]) (e := (.pair .str (.pair (.slice .str) .unit))) (tid := 22) (fn := Tryd.f23) (s0 := fun l => ((argSt (fun _ => none) [.data (.slice (.pair .str (.pair (.slice .str) .unit))) l]).setBox 2 { val := .data (.slice (.pair .str (.pair (.slice .str) .unit))) ([] : List ((.pair .str (.pair (.slice .str) .unit)) : Ty).den), tid := 0, buf := true, ro := false, lk := false, ver := 0 }).put 2 (.whole 2 0)) mix cx0_ok (conOk_of con_nil rcon_nil spc_nil) Tryd.func23 (by kernel_rfl)
    (by rfl) rfl (by decide) (by decide) rfl rfl rfl rfl rfl rfl (fun l => by rfl) (fun l => rfl) (fun l => rfl) (fun l => rfl) (fun l => by rfl) (fun l hl => ?_)
  have key : ∀ m : List ((.pair .str (.pair (.slice .str) .unit)) : Ty).den, fits (len m) = true → sel (fits (plus (len ([] : List ((.pair .str (.pair (.slice .str) .unit)) : Ty).den)) (len m))) (some (app [] m)) none = some m := by
    intro m hm
    have e : plus (len ([] : List ((.pair .str (.pair (.slice .str) .unit)) : Ty).den)) (len m) = len m := by simp [plus, len]
    rw [e, hm]
    rfl
  exact Eq.trans (b := sel (fits (plus (len ([] : List ((.pair .str (.pair (.slice .str) .unit)) : Ty).den)) (len (α := ((.pair .str (.pair (.slice .str) .unit)) : Ty).den) l))) (some (app (α := ((.pair .str (.pair (.slice .str) .unit)) : Ty).den) [] l)) none) (by rfl) (key l hl)
theorem s_slices_Clone_string_string : SpcOk Tryd.prog 24 (.clone .str) := by
  refine clone_own (P := Tryd.prog) (cx := cx0) (bf := [2, 5]) (e := .str) (tid := 23) (fn := Tryd.f24) (s0 := fun l => ((argSt (fun _ => none) [.data (.slice .str) l]).setBox 2 { val := .data (.slice .str) ([] : List (.str : Ty).den), tid := 0, buf := true, ro := false, lk := false, ver := 0 }).put 2 (.whole 2 0)) mix cx0_ok (conOk_of con_nil rcon_nil spc_nil) Tryd.func24 (by kernel_rfl)
    (by rfl) rfl (by decide) (by decide) rfl rfl rfl rfl rfl rfl (fun l => by rfl) (fun l => rfl) (fun l => rfl) (fun l => rfl) (fun l => by rfl) (fun l hl => ?_)
  have key : ∀ m : List (.str : Ty).den, fits (len m) = true → sel (fits (plus (len ([] : List (.str : Ty).den)) (len m))) (some (app [] m)) none = some m := by
    intro m hm
    have e : plus (len ([] : List (.str : Ty).den)) (len m) = len m := by simp [plus, len]
    rw [e, hm]
    rfl
  exact Eq.trans (b := sel (fits (plus (len ([] : List (.str : Ty).den)) (len (α := (.str : Ty).den) l))) (some (app (α := (.str : Ty).den) [] l)) none) (by rfl) (key l hl)
theorem s_slices_Sort_string_string : SpcOk Tryd.prog 29 (.own .str .unit false P_slices_Sort_string_string) := sort_own Tryd.func29 (by kernel_rfl) (by kernel_rfl) Tryd.slices_Sort_string Tryd.slices_Sort_string_none
theorem s_slices_Compact_string_string : SpcOk Tryd.prog 30 (.own .str .unit true P_slices_Compact_string_string) := compact_own Tryd.func30 (by kernel_rfl) (by kernel_rfl) Tryd.slices_Compact_string Tryd.slices_Compact_string_empty compact_le
theorem spc_ok : ∀ p ∈ spc, SpcOk Tryd.prog p.1 p.2 := (spc_cons s_slices_Clone_api_Named_api_Named (spc_cons s_slices_Clone_string_string (spc_cons s_slices_Sort_string_string (spc_cons s_slices_Compact_string_string spc_nil))))
theorem funs_ok (con : List (Nat × Con)) (rcon : List (Nat × RCon)) : FnsOk (cxOf con rcon) := fnsOk_of (cx := cxOf con rcon) (show (funs.all fun p => fnOk p.2) = true by kernel_rfl)

def glob : Globs := noGlobs
theorem holds_at {con : List (Nat × Con)} {rcon : List (Nat × RCon)} (hcon : ∀ p ∈ con, Holds Tryd.prog glob p.1 p.2) (hrcon : ∀ p ∈ rcon, RHolds Tryd.prog glob p.1 p.2) {f : Nat} {fn : Func} {A R : Ty} {spec : A.den → Option R.den} (hfn : find funs f = some fn) (hb : fn.body.isSome = true)
    (hs : ∀ x, sem (cxOf con rcon) 12 plans f A R x = spec x) : Holds Tryd.prog glob f ⟨A, R, spec⟩ := by
  obtain ⟨code, hcode⟩ := Option.isSome_iff_exists.1 hb
  exact holds_of_sem mix (cx_ok con rcon) (conOk_of hcon hrcon spc_ok) (funs_ok con rcon) (f := f) hfn hcode (fun x y h => by rw [hs]; exact h)

theorem rholds_at {con : List (Nat × Con)} {rcon : List (Nat × RCon)} (hcon : ∀ p ∈ con, Holds Tryd.prog glob p.1 p.2) (hrcon : ∀ p ∈ rcon, RHolds Tryd.prog glob p.1 p.2) {f : Nat} {fn : Func} {ps : List Bool} {A U R : Ty} {spec : A.den × U.den → Option (R.den × U.den)} (hfn : find funs f = some fn) (hb : fn.body.isSome = true)
    (hs : ∀ x, semR (cxOf con rcon) 12 plans f ps A U R x = spec x) : RHolds Tryd.prog glob f ⟨ps, A, U, R, spec⟩ := by
  obtain ⟨code, hcode⟩ := Option.isSome_iff_exists.1 hb
  exact rholds_of_sem mix (cx_ok con rcon) (conOk_of hcon hrcon spc_ok) (funs_ok con rcon) (f := f) hfn hcode (fun x y h => by rw [hs]; exact h)

noncomputable def c_ref17_FewTexts : Con := ⟨(.pair (.slice .str) .unit), (.pair .bool .unit), P_ref17_FewTexts⟩
theorem h_ref17_FewTexts : Holds Tryd.prog glob 7 c_ref17_FewTexts := holds_at (con := []) (rcon := []) (con_nil) (rcon_nil) (fn := Tryd.f7) rfl (by kernel_rfl) (fun x => by kernel_rfl)
noncomputable def c_ref17_Few : Con := ⟨(.pair (.slice (.pair .str (.pair (.slice .str) .unit))) .unit), (.pair .bool .unit), P_ref17_Few⟩
theorem h_ref17_Few : Holds Tryd.prog glob 6 c_ref17_Few := holds_at (con := [(7, c_ref17_FewTexts)]) (rcon := []) ((con_cons h_ref17_FewTexts con_nil)) (rcon_nil) (fn := Tryd.f6) rfl (by kernel_rfl) (fun x => by kernel_rfl)
noncomputable def c_slices_Clone_string_string : Con := ⟨(.pair (.slice .str) .unit), (.pair (.slice .str) .unit), P_slices_Clone_string_string⟩
theorem h_slices_Clone_string_string : Holds Tryd.prog glob 24 c_slices_Clone_string_string := by
  refine clone_holds (P := Tryd.prog) (cx := cxOf [] []) (bf := [5]) (e := .str) (tid := 23) (fn := Tryd.f24) (s0 := fun l => (argSt (fun _ => none) [.data (.slice .str) l]).put 2 (.data (.slice .str) ([] : List (.str : Ty).den))) mix (cx_ok [] []) (conOk_of con_nil rcon_nil spc_ok) Tryd.func24 (by kernel_rfl)
    (by rfl) rfl (by decide) (by decide) rfl rfl rfl rfl rfl rfl (fun l => by rfl) (fun l => rfl) (fun l => rfl) (fun l => rfl) (fun l => by rfl) (fun l hl => ?_)
  have key : ∀ m : List (.str : Ty).den, fits (len m) = true → sel (fits (plus (len ([] : List (.str : Ty).den)) (len m))) (some ((app [] m, ()) : (Ty.pair (.slice .str) .unit).den)) none = some (m, ()) := by
    intro m hm
    have e : plus (len ([] : List (.str : Ty).den)) (len m) = len m := by simp [plus, len]
    rw [e, hm]
    rfl
  exact Eq.trans (b := sel (fits (plus (len ([] : List (.str : Ty).den)) (len (α := (.str : Ty).den) l))) (some ((app (α := (.str : Ty).den) [] l, ()) : (Ty.pair (.slice .str) .unit).den)) none) (by rfl) (key l hl)
noncomputable def c_strings_trimLeftByte : Con := ⟨(.pair .str (.pair (.int .u8) .unit)), (.pair .str .unit), P_strings_trimLeftByte⟩
theorem h_strings_trimLeftByte : Holds Tryd.prog glob 58 c_strings_trimLeftByte := holds_at (con := []) (rcon := []) (con_nil) (rcon_nil) (fn := Tryd.f58) rfl (by kernel_rfl) (fun x => by kernel_rfl)
noncomputable def c_strings_trimRightByte : Con := ⟨(.pair .str (.pair (.int .u8) .unit)), (.pair .str .unit), P_strings_trimRightByte⟩
theorem h_strings_trimRightByte : Holds Tryd.prog glob 59 c_strings_trimRightByte := holds_at (con := []) (rcon := []) (con_nil) (rcon_nil) (fn := Tryd.f59) rfl (by kernel_rfl) (fun x => by kernel_rfl)
noncomputable def c_strings_makeASCIISet : Con := ⟨(.pair .str .unit), (.pair (.arr 256 .bool) (.pair .bool .unit)), P_strings_makeASCIISet⟩
theorem h_strings_makeASCIISet : Holds Tryd.prog glob 60 c_strings_makeASCIISet := holds_at (con := []) (rcon := []) (con_nil) (rcon_nil) (fn := Tryd.f60) rfl (by kernel_rfl) (fun x => by kernel_rfl)
noncomputable def c_strings_asciiSet_contains : RCon := ⟨[true, false], (.pair (.int .u8) .unit), (.pair (.arr 256 .bool) .unit), (.pair .bool .unit), P_strings_asciiSet_contains⟩
theorem h_strings_asciiSet_contains : RHolds Tryd.prog glob 71 c_strings_asciiSet_contains := rholds_at (con := []) (rcon := []) (con_nil) (rcon_nil) (fn := Tryd.f71) rfl (by kernel_rfl) (fun x => by kernel_rfl)
noncomputable def c_strings_trimLeftASCII : RCon := ⟨[false, true], (.pair .str .unit), (.pair (.arr 256 .bool) .unit), (.pair .str .unit), P_strings_trimLeftASCII⟩
theorem h_strings_trimLeftASCII : RHolds Tryd.prog glob 61 c_strings_trimLeftASCII := rholds_at (con := []) (rcon := [(71, c_strings_asciiSet_contains)]) (con_nil) ((rcon_cons h_strings_asciiSet_contains rcon_nil)) (fn := Tryd.f61) rfl (by kernel_rfl) (fun x => by kernel_rfl)
noncomputable def c_strings_trimRightASCII : RCon := ⟨[false, true], (.pair .str .unit), (.pair (.arr 256 .bool) .unit), (.pair .str .unit), P_strings_trimRightASCII⟩
theorem h_strings_trimRightASCII : RHolds Tryd.prog glob 62 c_strings_trimRightASCII := rholds_at (con := []) (rcon := [(71, c_strings_asciiSet_contains)]) (con_nil) ((rcon_cons h_strings_asciiSet_contains rcon_nil)) (fn := Tryd.f62) rfl (by kernel_rfl) (fun x => by kernel_rfl)
noncomputable def c_strings_Trim : Con := ⟨(.pair .str (.pair .str .unit)), (.pair .str .unit), P_strings_Trim⟩
theorem h_strings_Trim : Holds Tryd.prog glob 45 c_strings_Trim := holds_at (con := [(58, c_strings_trimLeftByte), (59, c_strings_trimRightByte), (60, c_strings_makeASCIISet)]) (rcon := [(61, c_strings_trimLeftASCII), (62, c_strings_trimRightASCII), (71, c_strings_asciiSet_contains)]) ((con_cons h_strings_trimLeftByte (con_cons h_strings_trimRightByte (con_cons h_strings_makeASCIISet con_nil)))) ((rcon_cons h_strings_trimLeftASCII (rcon_cons h_strings_trimRightASCII (rcon_cons h_strings_asciiSet_contains rcon_nil)))) (fn := Tryd.f45) rfl (by kernel_rfl) (fun x => by kernel_rfl)
noncomputable def c_record_IsName : Con := ⟨(.pair .str .unit), (.pair .bool .unit), P_record_IsName⟩
theorem h_record_IsName : Holds Tryd.prog glob 33 c_record_IsName := holds_at (con := [(45, c_strings_Trim)]) (rcon := []) ((con_cons h_strings_Trim con_nil)) (rcon_nil) (fn := Tryd.f33) rfl (by kernel_rfl) (fun x => by kernel_rfl)
noncomputable def c_names_Check : Con := ⟨(.pair (.slice .str) .unit), (.pair (.int .i64) .unit), P_names_Check⟩
theorem h_names_Check : Holds Tryd.prog glob 14 c_names_Check := holds_at (con := [(24, c_slices_Clone_string_string), (33, c_record_IsName)]) (rcon := []) ((con_cons h_slices_Clone_string_string (con_cons h_record_IsName con_nil))) (rcon_nil) (fn := Tryd.f14) rfl (by kernel_rfl) (fun x => by kernel_rfl)
noncomputable def c_names_find : Con := ⟨(.pair (.slice (.pair .str (.pair (.slice .str) .unit))) (.pair .str .unit)), (.pair (.int .i64) .unit), P_names_find⟩
theorem h_names_find : Holds Tryd.prog glob 22 c_names_find := holds_at (con := []) (rcon := []) (con_nil) (rcon_nil) (fn := Tryd.f22) rfl (by kernel_rfl) (fun x => by kernel_rfl)
noncomputable def c_slices_Index_string_string : Con := ⟨(.pair (.slice .str) (.pair .str .unit)), (.pair (.int .i64) .unit), P_slices_Index_string_string⟩
theorem h_slices_Index_string_string : Holds Tryd.prog glob 41 c_slices_Index_string_string := holds_at (con := []) (rcon := []) (con_nil) (rcon_nil) (fn := Tryd.f41) rfl (by kernel_rfl) (fun x => by kernel_rfl)
noncomputable def c_slices_Contains_string_string : Con := ⟨(.pair (.slice .str) (.pair .str .unit)), (.pair .bool .unit), P_slices_Contains_string_string⟩
theorem h_slices_Contains_string_string : Holds Tryd.prog glob 26 c_slices_Contains_string_string := holds_at (con := [(41, c_slices_Index_string_string)]) (rcon := []) ((con_cons h_slices_Index_string_string con_nil)) (rcon_nil) (fn := Tryd.f26) rfl (by kernel_rfl) (fun x => by kernel_rfl)
noncomputable def c_names_Free : Con := ⟨(.pair (.slice (.pair .str (.pair (.slice .str) .unit))) (.pair .str (.pair (.slice .str) .unit))), (.pair (.int .i64) .unit), P_names_Free⟩
theorem h_names_Free : Holds Tryd.prog glob 16 c_names_Free := holds_at (con := [(14, c_names_Check), (22, c_names_find), (26, c_slices_Contains_string_string)]) (rcon := []) ((con_cons h_names_Check (con_cons h_names_find (con_cons h_slices_Contains_string_string con_nil)))) (rcon_nil) (fn := Tryd.f16) rfl (by kernel_rfl) (fun x => by kernel_rfl)
noncomputable def c_slices_Clone_api_Named_api_Named : Con := ⟨(.pair (.slice (.pair .str (.pair (.slice .str) .unit))) .unit), (.pair (.slice (.pair .str (.pair (.slice .str) .unit))) .unit), P_slices_Clone_api_Named_api_Named⟩
theorem h_slices_Clone_api_Named_api_Named : Holds Tryd.prog glob 23 c_slices_Clone_api_Named_api_Named := by
  refine clone_holds (P := Tryd.prog) (cx := cxOf [] []) (bf := [5]) (e := (.pair .str (.pair (.slice .str) .unit))) (tid := 22) (fn := Tryd.f23) (s0 := fun l => (argSt (fun _ => none) [.data (.slice (.pair .str (.pair (.slice .str) .unit))) l]).put 2 (.data (.slice (.pair .str (.pair (.slice .str) .unit))) ([] : List ((.pair .str (.pair (.slice .str) .unit)) : Ty).den))) mix (cx_ok [] []) (conOk_of con_nil rcon_nil spc_ok) Tryd.func23 (by kernel_rfl)
    (by rfl) rfl (by decide) (by decide) rfl rfl rfl rfl rfl rfl (fun l => by rfl) (fun l => rfl) (fun l => rfl) (fun l => rfl) (fun l => by rfl) (fun l hl => ?_)
  have key : ∀ m : List ((.pair .str (.pair (.slice .str) .unit)) : Ty).den, fits (len m) = true → sel (fits (plus (len ([] : List ((.pair .str (.pair (.slice .str) .unit)) : Ty).den)) (len m))) (some ((app [] m, ()) : (Ty.pair (.slice (.pair .str (.pair (.slice .str) .unit))) .unit).den)) none = some (m, ()) := by
    intro m hm
    have e : plus (len ([] : List ((.pair .str (.pair (.slice .str) .unit)) : Ty).den)) (len m) = len m := by simp [plus, len]
    rw [e, hm]
    rfl
  exact Eq.trans (b := sel (fits (plus (len ([] : List ((.pair .str (.pair (.slice .str) .unit)) : Ty).den)) (len (α := ((.pair .str (.pair (.slice .str) .unit)) : Ty).den) l))) (some ((app (α := ((.pair .str (.pair (.slice .str) .unit)) : Ty).den) [] l, ()) : (Ty.pair (.slice (.pair .str (.pair (.slice .str) .unit))) .unit).den)) none) (by rfl) (key l hl)
noncomputable def c_names_Set : Con := ⟨(.pair (.slice (.pair .str (.pair (.slice .str) .unit))) (.pair .str (.pair (.slice .str) .unit))), (.pair (.slice (.pair .str (.pair (.slice .str) .unit))) (.pair (.int .i64) .unit)), P_names_Set⟩
theorem h_names_Set : Holds Tryd.prog glob 9 c_names_Set := holds_at (con := [(14, c_names_Check), (16, c_names_Free), (22, c_names_find), (23, c_slices_Clone_api_Named_api_Named), (24, c_slices_Clone_string_string)]) (rcon := []) ((con_cons h_names_Check (con_cons h_names_Free (con_cons h_names_find (con_cons h_slices_Clone_api_Named_api_Named (con_cons h_slices_Clone_string_string con_nil)))))) (rcon_nil) (fn := Tryd.f9) rfl (by kernel_rfl) (fun x => by kernel_rfl)
noncomputable def c_names_Owner : Con := ⟨(.pair (.slice (.pair .str (.pair (.slice .str) .unit))) (.pair .str .unit)), (.pair .str (.pair .bool .unit)), P_names_Owner⟩
theorem h_names_Owner : Holds Tryd.prog glob 11 c_names_Owner := holds_at (con := [(26, c_slices_Contains_string_string)]) (rcon := []) ((con_cons h_slices_Contains_string_string con_nil)) (rcon_nil) (fn := Tryd.f11) rfl (by kernel_rfl) (fun x => by kernel_rfl)
noncomputable def c_names_Of : Con := ⟨(.pair (.int .i64) (.pair (.pair (.int .i64) (.pair (.slice (.pair .str (.pair .str (.pair (.slice .str) (.pair .str (.pair (.int .i64) (.pair (.int .i64) (.pair .bool .unit)))))))) (.pair (.slice (.pair .str (.pair (.slice .str) (.pair .str (.pair .str (.pair (.slice (.pair .str (.pair .str (.pair .str .unit)))) .unit)))))) (.pair (.slice (.pair .str (.pair (.slice .str) (.pair .str (.pair .str (.pair .str (.pair (.slice (.pair .str (.pair .str (.pair .str .unit)))) .unit))))))) .unit)))) .unit)), (.pair (.slice (.pair .str (.pair (.slice .str) .unit))) .unit), P_names_Of⟩
theorem h_names_Of : Holds Tryd.prog glob 19 c_names_Of := holds_at (con := [(24, c_slices_Clone_string_string)]) (rcon := []) ((con_cons h_slices_Clone_string_string con_nil)) (rcon_nil) (fn := Tryd.f19) rfl (by kernel_rfl) (fun x => by kernel_rfl)
noncomputable def c_law17_awake : Con := ⟨.unit, (.pair .bool .unit), P_law17_awake⟩
theorem h_law17_awake : Holds Tryd.prog glob 8 c_law17_awake := holds_at (con := [(9, c_names_Set), (11, c_names_Owner), (14, c_names_Check), (16, c_names_Free), (19, c_names_Of)]) (rcon := []) ((con_cons h_names_Set (con_cons h_names_Owner (con_cons h_names_Check (con_cons h_names_Free (con_cons h_names_Of con_nil)))))) (rcon_nil) (fn := Tryd.f8) rfl (by kernel_rfl) (fun x => by kernel_rfl)
noncomputable def c_ref06_IsName : Con := ⟨(.pair .str .unit), (.pair .bool .unit), P_ref06_IsName⟩
theorem h_ref06_IsName : Holds Tryd.prog glob 46 c_ref06_IsName := holds_at (con := []) (rcon := []) (con_nil) (rcon_nil) (fn := Tryd.f46) rfl (by kernel_rfl) (fun x => by kernel_rfl)
noncomputable def c_ref06_Names : Con := ⟨(.pair (.slice .str) .unit), (.pair .bool .unit), P_ref06_Names⟩
theorem h_ref06_Names : Holds Tryd.prog glob 34 c_ref06_Names := holds_at (con := [(46, c_ref06_IsName)]) (rcon := []) ((con_cons h_ref06_IsName con_nil)) (rcon_nil) (fn := Tryd.f34) rfl (by kernel_rfl) (fun x => by kernel_rfl)
noncomputable def c_ref17_Check : Con := ⟨(.pair (.slice .str) .unit), (.pair (.int .i64) .unit), P_ref17_Check⟩
theorem h_ref17_Check : Holds Tryd.prog glob 15 c_ref17_Check := holds_at (con := [(34, c_ref06_Names)]) (rcon := []) ((con_cons h_ref06_Names con_nil)) (rcon_nil) (fn := Tryd.f15) rfl (by kernel_rfl) (fun x => by kernel_rfl)
noncomputable def c_ref17_find : Con := ⟨(.pair (.slice (.pair .str (.pair (.slice .str) .unit))) (.pair .str .unit)), (.pair (.int .i64) .unit), P_ref17_find⟩
theorem h_ref17_find : Holds Tryd.prog glob 25 c_ref17_find := holds_at (con := []) (rcon := []) (con_nil) (rcon_nil) (fn := Tryd.f25) rfl (by kernel_rfl) (fun x => by kernel_rfl)
noncomputable def c_ref17_has : Con := ⟨(.pair (.slice .str) (.pair .str .unit)), (.pair .bool .unit), P_ref17_has⟩
theorem h_ref17_has : Holds Tryd.prog glob 27 c_ref17_has := holds_at (con := []) (rcon := []) (con_nil) (rcon_nil) (fn := Tryd.f27) rfl (by kernel_rfl) (fun x => by kernel_rfl)
noncomputable def c_ref17_Free : Con := ⟨(.pair (.slice (.pair .str (.pair (.slice .str) .unit))) (.pair .str (.pair (.slice .str) .unit))), (.pair (.int .i64) .unit), P_ref17_Free⟩
theorem h_ref17_Free : Holds Tryd.prog glob 17 c_ref17_Free := holds_at (con := [(15, c_ref17_Check), (25, c_ref17_find), (27, c_ref17_has)]) (rcon := []) ((con_cons h_ref17_Check (con_cons h_ref17_find (con_cons h_ref17_has con_nil)))) (rcon_nil) (fn := Tryd.f17) rfl (by kernel_rfl) (fun x => by kernel_rfl)
noncomputable def c_ref17_Set : Con := ⟨(.pair (.slice (.pair .str (.pair (.slice .str) .unit))) (.pair .str (.pair (.slice .str) .unit))), (.pair (.slice (.pair .str (.pair (.slice .str) .unit))) (.pair (.int .i64) .unit)), P_ref17_Set⟩
theorem h_ref17_Set : Holds Tryd.prog glob 10 c_ref17_Set := holds_at (con := [(15, c_ref17_Check), (17, c_ref17_Free), (25, c_ref17_find)]) (rcon := []) ((con_cons h_ref17_Check (con_cons h_ref17_Free (con_cons h_ref17_find con_nil)))) (rcon_nil) (fn := Tryd.f10) rfl (by kernel_rfl) (fun x => by kernel_rfl)
noncomputable def c_ref17_Owner : Con := ⟨(.pair (.slice (.pair .str (.pair (.slice .str) .unit))) (.pair .str .unit)), (.pair .str (.pair .bool .unit)), P_ref17_Owner⟩
theorem h_ref17_Owner : Holds Tryd.prog glob 12 c_ref17_Owner := holds_at (con := [(27, c_ref17_has)]) (rcon := []) ((con_cons h_ref17_has con_nil)) (rcon_nil) (fn := Tryd.f12) rfl (by kernel_rfl) (fun x => by kernel_rfl)
noncomputable def c_ref06_SameTexts : Con := ⟨(.pair (.slice .str) (.pair (.slice .str) .unit)), (.pair .bool .unit), P_ref06_SameTexts⟩
theorem h_ref06_SameTexts : Holds Tryd.prog glob 28 c_ref06_SameTexts := holds_at (con := []) (rcon := []) (con_nil) (rcon_nil) (fn := Tryd.f28) rfl (by kernel_rfl) (fun x => by kernel_rfl)
noncomputable def c_ref17_Same : Con := ⟨(.pair (.slice (.pair .str (.pair (.slice .str) .unit))) (.pair (.slice (.pair .str (.pair (.slice .str) .unit))) .unit)), (.pair .bool .unit), P_ref17_Same⟩
theorem h_ref17_Same : Holds Tryd.prog glob 13 c_ref17_Same := holds_at (con := [(28, c_ref06_SameTexts)]) (rcon := []) ((con_cons h_ref06_SameTexts con_nil)) (rcon_nil) (fn := Tryd.f13) rfl (by kernel_rfl) (fun x => by kernel_rfl)
noncomputable def c_law17_NamesIs : Con := ⟨(.pair (.slice (.pair .str (.pair (.slice .str) .unit))) (.pair .str (.pair (.slice .str) .unit))), (.pair .bool .unit), P_law17_NamesIs⟩
theorem h_law17_NamesIs : Holds Tryd.prog glob 3 c_law17_NamesIs := holds_at (con := [(6, c_ref17_Few), (7, c_ref17_FewTexts), (8, c_law17_awake), (9, c_names_Set), (10, c_ref17_Set), (11, c_names_Owner), (12, c_ref17_Owner), (13, c_ref17_Same), (14, c_names_Check), (15, c_ref17_Check), (16, c_names_Free), (17, c_ref17_Free)]) (rcon := []) ((con_cons h_ref17_Few (con_cons h_ref17_FewTexts (con_cons h_law17_awake (con_cons h_names_Set (con_cons h_ref17_Set (con_cons h_names_Owner (con_cons h_ref17_Owner (con_cons h_ref17_Same (con_cons h_names_Check (con_cons h_ref17_Check (con_cons h_names_Free (con_cons h_ref17_Free con_nil))))))))))))) (rcon_nil) (fn := Tryd.f3) rfl (by kernel_rfl) (fun x => by kernel_rfl)
noncomputable def c_ref06_few : Con := ⟨(.pair (.slice .str) .unit), (.pair .bool .unit), P_ref06_few⟩
theorem h_ref06_few : Holds Tryd.prog glob 36 c_ref06_few := holds_at (con := []) (rcon := []) (con_nil) (rcon_nil) (fn := Tryd.f36) rfl (by kernel_rfl) (fun x => by kernel_rfl)
noncomputable def c_ref06_fewItems : Con := ⟨(.pair (.slice (.pair .str (.pair .str (.pair .str .unit)))) .unit), (.pair .bool .unit), P_ref06_fewItems⟩
theorem h_ref06_fewItems : Holds Tryd.prog glob 37 c_ref06_fewItems := holds_at (con := []) (rcon := []) (con_nil) (rcon_nil) (fn := Tryd.f37) rfl (by kernel_rfl) (fun x => by kernel_rfl)
noncomputable def c_ref06_Few : Con := ⟨(.pair (.pair (.int .i64) (.pair (.slice (.pair .str (.pair .str (.pair (.slice .str) (.pair .str (.pair (.int .i64) (.pair (.int .i64) (.pair .bool .unit)))))))) (.pair (.slice (.pair .str (.pair (.slice .str) (.pair .str (.pair .str (.pair (.slice (.pair .str (.pair .str (.pair .str .unit)))) .unit)))))) (.pair (.slice (.pair .str (.pair (.slice .str) (.pair .str (.pair .str (.pair .str (.pair (.slice (.pair .str (.pair .str (.pair .str .unit)))) .unit))))))) .unit)))) .unit), (.pair .bool .unit), P_ref06_Few⟩
theorem h_ref06_Few : Holds Tryd.prog glob 18 c_ref06_Few := holds_at (con := [(36, c_ref06_few), (37, c_ref06_fewItems)]) (rcon := []) ((con_cons h_ref06_few (con_cons h_ref06_fewItems con_nil))) (rcon_nil) (fn := Tryd.f18) rfl (by kernel_rfl) (fun x => by kernel_rfl)
noncomputable def c_ref17_Of : Con := ⟨(.pair (.int .i64) (.pair (.pair (.int .i64) (.pair (.slice (.pair .str (.pair .str (.pair (.slice .str) (.pair .str (.pair (.int .i64) (.pair (.int .i64) (.pair .bool .unit)))))))) (.pair (.slice (.pair .str (.pair (.slice .str) (.pair .str (.pair .str (.pair (.slice (.pair .str (.pair .str (.pair .str .unit)))) .unit)))))) (.pair (.slice (.pair .str (.pair (.slice .str) (.pair .str (.pair .str (.pair .str (.pair (.slice (.pair .str (.pair .str (.pair .str .unit)))) .unit))))))) .unit)))) .unit)), (.pair (.slice (.pair .str (.pair (.slice .str) .unit))) .unit), P_ref17_Of⟩
theorem h_ref17_Of : Holds Tryd.prog glob 20 c_ref17_Of := holds_at (con := []) (rcon := []) (con_nil) (rcon_nil) (fn := Tryd.f20) rfl (by kernel_rfl) (fun x => by kernel_rfl)
noncomputable def c_law17_NamesOf : Con := ⟨(.pair (.int .i64) (.pair (.pair (.int .i64) (.pair (.slice (.pair .str (.pair .str (.pair (.slice .str) (.pair .str (.pair (.int .i64) (.pair (.int .i64) (.pair .bool .unit)))))))) (.pair (.slice (.pair .str (.pair (.slice .str) (.pair .str (.pair .str (.pair (.slice (.pair .str (.pair .str (.pair .str .unit)))) .unit)))))) (.pair (.slice (.pair .str (.pair (.slice .str) (.pair .str (.pair .str (.pair .str (.pair (.slice (.pair .str (.pair .str (.pair .str .unit)))) .unit))))))) .unit)))) .unit)), (.pair .bool .unit), P_law17_NamesOf⟩
theorem h_law17_NamesOf : Holds Tryd.prog glob 4 c_law17_NamesOf := holds_at (con := [(8, c_law17_awake), (13, c_ref17_Same), (18, c_ref06_Few), (19, c_names_Of), (20, c_ref17_Of)]) (rcon := []) ((con_cons h_law17_awake (con_cons h_ref17_Same (con_cons h_ref06_Few (con_cons h_names_Of (con_cons h_ref17_Of con_nil)))))) (rcon_nil) (fn := Tryd.f4) rfl (by kernel_rfl) (fun x => by kernel_rfl)
noncomputable def c_ref17_Alone : Con := ⟨(.pair (.slice (.pair .str (.pair (.slice .str) .unit))) .unit), (.pair .bool .unit), P_ref17_Alone⟩
theorem h_ref17_Alone : Holds Tryd.prog glob 21 c_ref17_Alone := holds_at (con := [(27, c_ref17_has)]) (rcon := []) ((con_cons h_ref17_has con_nil)) (rcon_nil) (fn := Tryd.f21) rfl (by kernel_rfl) (fun x => by kernel_rfl)
noncomputable def c_law17_NamesAlone : Con := ⟨(.pair (.slice (.pair .str (.pair (.slice .str) .unit))) (.pair .str (.pair (.slice .str) .unit))), (.pair .bool .unit), P_law17_NamesAlone⟩
theorem h_law17_NamesAlone : Holds Tryd.prog glob 5 c_law17_NamesAlone := holds_at (con := [(6, c_ref17_Few), (7, c_ref17_FewTexts), (8, c_law17_awake), (9, c_names_Set), (11, c_names_Owner), (21, c_ref17_Alone)]) (rcon := []) ((con_cons h_ref17_Few (con_cons h_ref17_FewTexts (con_cons h_law17_awake (con_cons h_names_Set (con_cons h_names_Owner (con_cons h_ref17_Alone con_nil))))))) (rcon_nil) (fn := Tryd.f5) rfl (by kernel_rfl) (fun x => by kernel_rfl)
end Go.Proofs.YtaiikfdelihadaaDoor
