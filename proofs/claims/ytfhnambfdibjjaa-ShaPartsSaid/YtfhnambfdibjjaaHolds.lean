/- The layer's functions keep their contracts: each comes to its plain definition, by the ghost interpreter. -/
import Derived.Test.YtfhnambfdibjjaaRows
import Derived.Test.YtfhnambfdibjjaaGp02
namespace Go.Proofs.Ytfhnambfdibjjaa
open Go Go.Ge
set_option linter.unusedVariables false
set_option maxRecDepth 100000

noncomputable def plans : Nat → FPlan
  | 3 => ⟨[], []⟩
  | 4 => ⟨[none, some ⟨[(2, 4), (5, 9), (6, 3)], [0, 3, 4], false⟩, none, none, none, none], []⟩
  | 5 => ⟨[none], []⟩
  | 6 => ⟨[], []⟩
  | 7 => ⟨[some ⟨[(5, 3)], [3], false⟩, none, some ⟨[(7, 3)], [6], false⟩, none], []⟩
  | 8 => ⟨[], []⟩
  | 9 => ⟨[none, some ⟨[(1, 9)], [0], false⟩, none, some ⟨[], [0], false⟩], []⟩
  | 10 => ⟨[some ⟨[], [3], false⟩, some ⟨[], [3], false⟩, none, some ⟨[(26, 3)], [5], false⟩, none, some ⟨[(41, 3)], [7], false⟩, none], []⟩
  | 11 => ⟨[none], []⟩
  | 12 => ⟨[some ⟨[], [0], false⟩], []⟩
  | 13 => ⟨[], []⟩
  | 14 => ⟨[some ⟨[(3, 42)], [0, 3], false⟩, none, some ⟨[(3, 42), (5, 3)], [3], false⟩, none], []⟩
  | 15 => ⟨[some ⟨[(6, 3)], [5], false⟩, none, some ⟨[(7, 3)], [5], false⟩, none, some ⟨[(12, 3)], [11], false⟩, none, some ⟨[(17, 3)], [11], false⟩, none], []⟩
  | 16 => ⟨[some ⟨[], [0], false⟩, some ⟨[(6, 27), (7, 27), (8, 27), (9, 27), (10, 27), (11, 27), (12, 27), (13, 27), (74, 3)], [], false⟩, none, some ⟨[(143, 3)], [0], false⟩, none], []⟩
  | 17 => ⟨[], []⟩
  | 18 => ⟨[], []⟩
  | 19 => ⟨[], []⟩
  | 20 => ⟨[], []⟩
  | 21 => ⟨[some ⟨[(12, 3)], [3], false⟩, none, some ⟨[(22, 3)], [3], false⟩, none, some ⟨[(7, 3)], [3], false⟩, none], []⟩
  | 22 => ⟨[], []⟩
  | 23 => ⟨[], []⟩
  | _ => ⟨[], []⟩

noncomputable def tys : List (Nat × Ty) := [(3, (.int .i64)), (4, .bool), (5, (.int .u8)), (9, .str), (22, (.arr 32 (.int .u8))), (26, (.slice .str)), (27, (.int .u32)), (28, (.arr 8 (.int .u32))), (30, (.pair .bool (.pair (.arr 8 (.int .u32)) .unit))), (31, (.arr 64 (.int .u8))), (33, (.pair (.pair .bool (.pair (.arr 8 (.int .u32)) .unit)) (.pair (.arr 64 (.int .u8)) (.pair (.int .i64) .unit)))), (42, (.slice (.int .u8))), (44, (.int .u64)), (45, (.arr 8 (.int .u8))), (46, (.arr 64 (.int .u32))), (47, (.int .u64))]
noncomputable def funs : List (Nat × Func) := [(3, Try.f3), (4, Try.f4), (5, Try.f5), (6, Try.f6), (7, Try.f7), (8, Try.f8), (9, Try.f9), (10, Try.f10), (11, Try.f11), (12, Try.f12), (13, Try.f13), (14, Try.f14), (15, Try.f15), (16, Try.f16), (17, Try.f17), (18, Try.f18), (19, Try.f19), (20, Try.f20), (21, Try.f21), (22, Try.f22), (23, Try.f23)]
def ones : List Nat := [38, 50]
def ptrs : List Nat := [38, 50]
noncomputable def cxOf (con : List (Nat × Con)) (rcon : List (Nat × RCon)) : Ctx := ⟨tys, ones, ptrs, funs, con, rcon⟩

theorem mix : Try.prog.follows .mixedOrders = true := by kernel_rfl

theorem T_ok : ∀ tid t, find tys tid = some t → Den Try.prog t tid := tys_ok (by kernel_rfl)
theorem ones_ok : ∀ tid, memN ones tid = true → (∀ w, (isAgg tid).run Try.prog w = .ok false w) ∧ (∀ w, (Go.sizeOf tid).run Try.prog w = .ok 1 w) := ones_of (by kernel_rfl)
theorem ptrs_ok : ∀ tid, memN ptrs tid = true → ∃ e, Try.prog.underlying tid = some (.pointer e) := ptrs_of (by kernel_rfl)
theorem fns_ok : ∀ f fn, find funs f = some fn → Try.prog.funcs[f]? = some fn := fns_of ((fns_cons Try.func3 (fns_cons Try.func4 (fns_cons Try.func5 (fns_cons Try.func6 (fns_cons Try.func7 (fns_cons Try.func8 (fns_cons Try.func9 (fns_cons Try.func10 (fns_cons Try.func11 (fns_cons Try.func12 (fns_cons Try.func13 (fns_cons Try.func14 (fns_cons Try.func15 (fns_cons Try.func16 (fns_cons Try.func17 (fns_cons Try.func18 (fns_cons Try.func19 (fns_cons Try.func20 (fns_cons Try.func21 (fns_cons Try.func22 (fns_cons Try.func23 fns_nil))))))))))))))))))))))
theorem cx_ok (con : List (Nat × Con)) (rcon : List (Nat × RCon)) : CxOk Try.prog (cxOf con rcon) := ⟨T_ok, ones_ok, ptrs_ok, fns_ok⟩
theorem funs_ok (con : List (Nat × Con)) (rcon : List (Nat × RCon)) : FnsOk (cxOf con rcon) := fnsOk_of (cx := cxOf con rcon) (show (funs.all fun p => fnOk p.2) = true by kernel_rfl)

theorem holds_at {con : List (Nat × Con)} {rcon : List (Nat × RCon)} (hcon : ∀ p ∈ con, Holds Try.prog p.1 p.2) (hrcon : ∀ p ∈ rcon, RHolds Try.prog p.1 p.2) {f : Nat} {fn : Func} {A R : Ty} {spec : A.den → Option R.den} (hfn : find funs f = some fn) (hb : fn.body.isSome = true)
    (hs : ∀ x, sem (cxOf con rcon) 12 plans f A R x = spec x) : Holds Try.prog f ⟨A, R, spec⟩ := by
  obtain ⟨code, hcode⟩ := Option.isSome_iff_exists.1 hb
  exact holds_of_sem mix (cx_ok con rcon) (conOk_of hcon hrcon) (funs_ok con rcon) (f := f) hfn hcode (fun x y h => by rw [hs]; exact h)

theorem rholds_at {con : List (Nat × Con)} {rcon : List (Nat × RCon)} (hcon : ∀ p ∈ con, Holds Try.prog p.1 p.2) (hrcon : ∀ p ∈ rcon, RHolds Try.prog p.1 p.2) {f : Nat} {fn : Func} {ps : List Bool} {A U R : Ty} {spec : A.den × U.den → Option (R.den × U.den)} (hfn : find funs f = some fn) (hb : fn.body.isSome = true)
    (hs : ∀ x, semR (cxOf con rcon) 12 plans f ps A U R x = spec x) : RHolds Try.prog f ⟨ps, A, U, R, spec⟩ := by
  obtain ⟨code, hcode⟩ := Option.isSome_iff_exists.1 hb
  exact rholds_of_sem mix (cx_ok con rcon) (conOk_of hcon hrcon) (funs_ok con rcon) (f := f) hfn hcode (fun x y h => by rw [hs]; exact h)

noncomputable def c_sha_begin : Con := ⟨.unit, (.pair (.arr 8 (.int .u32)) .unit), P_sha_begin⟩
theorem h_sha_begin : Holds Try.prog 19 c_sha_begin := holds_at (con := []) (rcon := []) (con_nil) (rcon_nil) (fn := Try.f19) rfl (by kernel_rfl) (fun x => by kernel_rfl)
noncomputable def c_sha_round : Con := ⟨.unit, (.pair (.arr 64 (.int .u32)) .unit), P_sha_round⟩
theorem h_sha_round : Holds Try.prog 20 c_sha_round := holds_at (con := []) (rcon := []) (con_nil) (rcon_nil) (fn := Try.f20) rfl (by kernel_rfl) (fun x => by kernel_rfl)
noncomputable def c_math_bits_RotateLeft32 : Con := ⟨(.pair (.int .u32) (.pair (.int .i64) .unit)), (.pair (.int .u32) .unit), P_math_bits_RotateLeft32⟩
theorem h_math_bits_RotateLeft32 : Holds Try.prog 23 c_math_bits_RotateLeft32 := holds_at (con := []) (rcon := []) (con_nil) (rcon_nil) (fn := Try.f23) rfl (by kernel_rfl) (fun x => by kernel_rfl)
noncomputable def c_sha_right : Con := ⟨(.pair (.int .u32) (.pair (.int .i64) .unit)), (.pair (.int .u32) .unit), P_sha_right⟩
theorem h_sha_right : Holds Try.prog 22 c_sha_right := holds_at (con := [(23, c_math_bits_RotateLeft32)]) (rcon := []) ((con_cons h_math_bits_RotateLeft32 con_nil)) (rcon_nil) (fn := Try.f22) rfl (by kernel_rfl) (fun x => by kernel_rfl)
noncomputable def c_sha_schedule : Con := ⟨(.pair (.arr 64 (.int .u8)) .unit), (.pair (.arr 64 (.int .u32)) .unit), P_sha_schedule⟩
theorem h_sha_schedule : Holds Try.prog 21 c_sha_schedule := holds_at (con := [(22, c_sha_right)]) (rcon := []) ((con_cons h_sha_right con_nil)) (rcon_nil) (fn := Try.f21) rfl (by kernel_rfl) (fun x => by kernel_rfl)
noncomputable def c_sha_words_block : RCon := ⟨[true, false], (.pair (.arr 64 (.int .u8)) .unit), (.pair (.pair .bool (.pair (.arr 8 (.int .u32)) .unit)) .unit), .unit, P_sha_words_block⟩
theorem h_sha_words_block : RHolds Try.prog 16 c_sha_words_block := rholds_at (con := [(19, c_sha_begin), (20, c_sha_round), (21, c_sha_schedule), (22, c_sha_right)]) (rcon := []) ((con_cons h_sha_begin (con_cons h_sha_round (con_cons h_sha_schedule (con_cons h_sha_right con_nil))))) (rcon_nil) (fn := Try.f16) rfl (by kernel_rfl) (fun x => by kernel_rfl)
noncomputable def c_sha_Stream_Add : RCon := ⟨[true, false], (.pair .str .unit), (.pair (.pair (.pair .bool (.pair (.arr 8 (.int .u32)) .unit)) (.pair (.arr 64 (.int .u8)) (.pair (.int .i64) .unit))) .unit), .unit, P_sha_Stream_Add⟩
theorem h_sha_Stream_Add : RHolds Try.prog 9 c_sha_Stream_Add := rholds_at (con := [(19, c_sha_begin), (20, c_sha_round), (21, c_sha_schedule), (22, c_sha_right)]) (rcon := [(16, c_sha_words_block)]) ((con_cons h_sha_begin (con_cons h_sha_round (con_cons h_sha_schedule (con_cons h_sha_right con_nil))))) ((rcon_cons h_sha_words_block rcon_nil)) (fn := Try.f9) rfl (by kernel_rfl) (fun x => by kernel_rfl)
noncomputable def c_sha_Stream_Sum : RCon := ⟨[true], .unit, (.pair (.pair (.pair .bool (.pair (.arr 8 (.int .u32)) .unit)) (.pair (.arr 64 (.int .u8)) (.pair (.int .i64) .unit))) .unit), (.pair (.arr 32 (.int .u8)) .unit), P_sha_Stream_Sum⟩
theorem h_sha_Stream_Sum : RHolds Try.prog 10 c_sha_Stream_Sum := rholds_at (con := [(19, c_sha_begin), (20, c_sha_round), (21, c_sha_schedule), (22, c_sha_right)]) (rcon := [(9, c_sha_Stream_Add), (16, c_sha_words_block)]) ((con_cons h_sha_begin (con_cons h_sha_round (con_cons h_sha_schedule (con_cons h_sha_right con_nil))))) ((rcon_cons h_sha_Stream_Add (rcon_cons h_sha_words_block rcon_nil))) (fn := Try.f10) rfl (by kernel_rfl) (fun x => by kernel_rfl)
noncomputable def c_sha_Sum : Con := ⟨(.pair .str .unit), (.pair (.arr 32 (.int .u8)) .unit), P_sha_Sum⟩
theorem h_sha_Sum : Holds Try.prog 6 c_sha_Sum := holds_at (con := [(19, c_sha_begin), (20, c_sha_round), (21, c_sha_schedule), (22, c_sha_right)]) (rcon := [(9, c_sha_Stream_Add), (10, c_sha_Stream_Sum), (16, c_sha_words_block)]) ((con_cons h_sha_begin (con_cons h_sha_round (con_cons h_sha_schedule (con_cons h_sha_right con_nil))))) ((rcon_cons h_sha_Stream_Add (rcon_cons h_sha_Stream_Sum (rcon_cons h_sha_words_block rcon_nil)))) (fn := Try.f6) rfl (by kernel_rfl) (fun x => by kernel_rfl)
noncomputable def c_ref02_begin : Con := ⟨.unit, (.pair (.arr 8 (.int .u32)) .unit), P_ref02_begin⟩
theorem h_ref02_begin : Holds Try.prog 13 c_ref02_begin := holds_at (con := []) (rcon := []) (con_nil) (rcon_nil) (fn := Try.f13) rfl (by kernel_rfl) (fun x => by kernel_rfl)
noncomputable def c_ref02_whole : Con := ⟨(.pair .str .unit), (.pair .str .unit), P_ref02_whole⟩
theorem h_ref02_whole : Holds Try.prog 14 c_ref02_whole := holds_at (con := []) (rcon := []) (con_nil) (rcon_nil) (fn := Try.f14) rfl (by kernel_rfl) (fun x => by kernel_rfl)
noncomputable def c_ref02_turn : Con := ⟨(.pair (.int .u32) (.pair (.int .i64) .unit)), (.pair (.int .u32) .unit), P_ref02_turn⟩
theorem h_ref02_turn : Holds Try.prog 17 c_ref02_turn := holds_at (con := []) (rcon := []) (con_nil) (rcon_nil) (fn := Try.f17) rfl (by kernel_rfl) (fun x => by kernel_rfl)
noncomputable def c_ref02_consts : Con := ⟨.unit, (.pair (.arr 64 (.int .u32)) .unit), P_ref02_consts⟩
theorem h_ref02_consts : Holds Try.prog 18 c_ref02_consts := holds_at (con := []) (rcon := []) (con_nil) (rcon_nil) (fn := Try.f18) rfl (by kernel_rfl) (fun x => by kernel_rfl)
noncomputable def c_ref02_block : Con := ⟨(.pair (.arr 8 (.int .u32)) (.pair .str .unit)), (.pair (.arr 8 (.int .u32)) .unit), P_ref02_block⟩
theorem h_ref02_block : Holds Try.prog 15 c_ref02_block := holds_at (con := [(17, c_ref02_turn), (18, c_ref02_consts)]) (rcon := []) ((con_cons h_ref02_turn (con_cons h_ref02_consts con_nil))) (rcon_nil) (fn := Try.f15) rfl (by kernel_rfl) (fun x => by kernel_rfl)
noncomputable def c_ref02_Sum : Con := ⟨(.pair .str .unit), (.pair (.arr 32 (.int .u8)) .unit), P_ref02_Sum⟩
theorem h_ref02_Sum : Holds Try.prog 7 c_ref02_Sum := holds_at (con := [(13, c_ref02_begin), (14, c_ref02_whole), (15, c_ref02_block)]) (rcon := []) ((con_cons h_ref02_begin (con_cons h_ref02_whole (con_cons h_ref02_block con_nil)))) (rcon_nil) (fn := Try.f7) rfl (by kernel_rfl) (fun x => by kernel_rfl)
noncomputable def c_law02_awake : Con := ⟨.unit, (.pair .bool .unit), P_law02_awake⟩
theorem h_law02_awake : Holds Try.prog 8 c_law02_awake := holds_at (con := [(6, c_sha_Sum)]) (rcon := []) ((con_cons h_sha_Sum con_nil)) (rcon_nil) (fn := Try.f8) rfl (by kernel_rfl) (fun x => by kernel_rfl)
noncomputable def c_law02_ShaIs : Con := ⟨(.pair .str .unit), (.pair .bool .unit), P_law02_ShaIs⟩
theorem h_law02_ShaIs : Holds Try.prog 3 c_law02_ShaIs := holds_at (con := [(6, c_sha_Sum), (7, c_ref02_Sum), (8, c_law02_awake)]) (rcon := []) ((con_cons h_sha_Sum (con_cons h_ref02_Sum (con_cons h_law02_awake con_nil)))) (rcon_nil) (fn := Try.f3) rfl (by kernel_rfl) (fun x => by kernel_rfl)
noncomputable def c_sha_Stream_Len : RCon := ⟨[true], .unit, (.pair (.pair (.pair .bool (.pair (.arr 8 (.int .u32)) .unit)) (.pair (.arr 64 (.int .u8)) (.pair (.int .i64) .unit))) .unit), (.pair (.int .i64) .unit), P_sha_Stream_Len⟩
theorem h_sha_Stream_Len : RHolds Try.prog 11 c_sha_Stream_Len := rholds_at (con := []) (rcon := []) (con_nil) (rcon_nil) (fn := Try.f11) rfl (by kernel_rfl) (fun x => by kernel_rfl)
noncomputable def c_sha_Stream_Reset : RCon := ⟨[true], .unit, (.pair (.pair (.pair .bool (.pair (.arr 8 (.int .u32)) .unit)) (.pair (.arr 64 (.int .u8)) (.pair (.int .i64) .unit))) .unit), .unit, P_sha_Stream_Reset⟩
theorem h_sha_Stream_Reset : RHolds Try.prog 12 c_sha_Stream_Reset := rholds_at (con := []) (rcon := []) (con_nil) (rcon_nil) (fn := Try.f12) rfl (by kernel_rfl) (fun x => by kernel_rfl)
noncomputable def c_law02_ShaParts : Con := ⟨(.pair (.slice .str) .unit), (.pair .bool .unit), P_law02_ShaParts⟩
theorem h_law02_ShaParts : Holds Try.prog 4 c_law02_ShaParts := holds_at (con := [(7, c_ref02_Sum), (8, c_law02_awake), (19, c_sha_begin), (20, c_sha_round), (21, c_sha_schedule), (22, c_sha_right)]) (rcon := [(9, c_sha_Stream_Add), (10, c_sha_Stream_Sum), (11, c_sha_Stream_Len), (12, c_sha_Stream_Reset), (16, c_sha_words_block)]) ((con_cons h_ref02_Sum (con_cons h_law02_awake (con_cons h_sha_begin (con_cons h_sha_round (con_cons h_sha_schedule (con_cons h_sha_right con_nil))))))) ((rcon_cons h_sha_Stream_Add (rcon_cons h_sha_Stream_Sum (rcon_cons h_sha_Stream_Len (rcon_cons h_sha_Stream_Reset (rcon_cons h_sha_words_block rcon_nil)))))) (fn := Try.f4) rfl (by kernel_rfl) (fun x => by kernel_rfl)
noncomputable def c_law02_ShaNobody : Con := ⟨(.pair .str .unit), (.pair .bool .unit), P_law02_ShaNobody⟩
theorem h_law02_ShaNobody : Holds Try.prog 5 c_law02_ShaNobody := holds_at (con := [(7, c_ref02_Sum), (8, c_law02_awake), (19, c_sha_begin), (20, c_sha_round), (21, c_sha_schedule), (22, c_sha_right)]) (rcon := [(9, c_sha_Stream_Add), (10, c_sha_Stream_Sum), (11, c_sha_Stream_Len), (12, c_sha_Stream_Reset), (16, c_sha_words_block)]) ((con_cons h_ref02_Sum (con_cons h_law02_awake (con_cons h_sha_begin (con_cons h_sha_round (con_cons h_sha_schedule (con_cons h_sha_right con_nil))))))) ((rcon_cons h_sha_Stream_Add (rcon_cons h_sha_Stream_Sum (rcon_cons h_sha_Stream_Len (rcon_cons h_sha_Stream_Reset (rcon_cons h_sha_words_block rcon_nil)))))) (fn := Try.f5) rfl (by kernel_rfl) (fun x => by kernel_rfl)
end Go.Proofs.Ytfhnambfdibjjaa
