/- Plain laws of what the functions compute: part 1. -/
import Derived.Test.YtiggcolkhajijaaGreatDoorGeI
import Derived.Lib.Repeat
/- What some functions of the library compute, as plain programs. -/
namespace Go.Ge

/-- Where a byte stands first in a text; -1: nowhere. -/
noncomputable def P_internal_stringslite_IndexByte : (Ty.pair .str (.pair (.int .u8) .unit)).den → Option (Ty.pair (.int .i64) .unit).den := fun x => some (Lib.indexByte x.1 (show Int from x.2.1).toNat.toUInt8, ())

/-- strings.Repeat: none for a negative count, or where the result is longer than one allocation. -/
noncomputable def S_strings_Repeat (s : List UInt8) (c : Int) : Option (List UInt8) := if c < 0 ∨ 140737488355328 < s.length * c.toNat then none else some (Lib.repeatL s c.toNat)
noncomputable def P_strings_Repeat : (List UInt8) × Int × Unit → Option ((List UInt8) × Unit) := fun x => (S_strings_Repeat x.1 x.2.1).map fun y => (y, ())
theorem S_strings_Repeat_some {s : List UInt8} {c : Int} {y : List UInt8} (h : S_strings_Repeat s c = some y) : 0 ≤ c ∧ s.length * c.toNat ≤ 140737488355328 ∧ y = Lib.repeatL s c.toNat := by
  unfold S_strings_Repeat at h
  split at h
  · cases h
  · next hn =>
    have := Option.some.inj h
    exact ⟨by omega, by omega, this.symm⟩
theorem S_strings_Repeat_len {s : List UInt8} {c : Int} {y : List UInt8} (h : S_strings_Repeat s c = some y) : y.length ≤ maxLen := by
  obtain ⟨_, h2, rfl⟩ := S_strings_Repeat_some h
  rw [Lib.repeatL_length, Nat.mul_comm]
  exact Nat.le_trans h2 (by decide)

/-- strings.Split at a separator of one byte, strings.Join. -/
noncomputable def P_strings_Split : (List UInt8) × (List UInt8) × Unit → Option ((List (List UInt8)) × Unit) := fun x => (S_split x.1 x.2.1).map fun y => (y, ())
noncomputable def P_strings_Join : (List (List UInt8)) × (List UInt8) × Unit → Option ((List UInt8) × Unit) := fun x => (S_join x.1 x.2.1).map fun y => (y, ())

end Go.Ge

/- What the functions of layer 02 compute, as plain programs (written by a program from what the ghost interpreter comes to). -/
namespace Go.Ge
set_option linter.unusedVariables false
set_option maxRecDepth 100000

noncomputable def P_math_bits_RotateLeft32 (x : Int × Int × Unit) : Option (Int × Unit) :=
  sel (ltI (iand IntKind.u64 (icv IntKind.u64 x.2.1) (31 : Int)) (0 : Int))
  (none : Option (Int × Unit))
  (sel (ltI (isub IntKind.u64 (32 : Int) (iand IntKind.u64 (icv IntKind.u64 x.2.1) (31 : Int))) (0 : Int))
  (none : Option (Int × Unit))
  (some (ior IntKind.u32 (ishl IntKind.u32 x.1 (iand IntKind.u64 (icv IntKind.u64 x.2.1) (31 : Int))) (ishr IntKind.u32 x.1 (isub IntKind.u64 (32 : Int) (iand IntKind.u64 (icv IntKind.u64 x.2.1) (31 : Int)))), ())))

noncomputable def P_sha_right (x : Int × Int × Unit) : Option (Int × Unit) :=
  obind (P_math_bits_RotateLeft32 (x.1, (isub IntKind.i64 (0 : Int) x.2.1, ()))) (fun (y1 : Int × Unit) => some (y1.1, ()))

noncomputable def P_ref02_turn (x : Int × Int × Unit) : Option (Int × Unit) :=
  sel (ltI x.2.1 (0 : Int))
  (none : Option (Int × Unit))
  (sel (ltI (isub IntKind.i64 (32 : Int) x.2.1) (0 : Int))
  (none : Option (Int × Unit))
  (some (ior IntKind.u32 (ishr IntKind.u32 x.1 x.2.1) (ishl IntKind.u32 x.1 (isub IntKind.i64 (32 : Int) x.2.1)), ())))

end Go.Ge

/- What the functions of layer 03 compute, as plain programs (written by a program from what the ghost interpreter comes to). -/
namespace Go.Ge
set_option linter.unusedVariables false
set_option maxRecDepth 100000

noncomputable def P_digits_Hex_L0 (x : (List (UInt8)) × Unit) (y1 : (Int × Unit) × (Unit × Unit × Unit) × (List (Int)) × Unit) : Option (((Int × Unit) × (Unit × Unit × Unit) × (List (Int)) × Unit) ⊕ ((Int × Unit) × (Unit × Unit × Unit) × (List (Int)) × Unit)) :=
  @way1 ((Int × Unit) × (Unit × Unit × Unit) × (List (Int)) × Unit) (sel (ltI y1.1.1 (@len Int (bytesInts x.1)))
  (sel (within y1.1.1 (@len Int (bytesInts x.1)))
  (obind (@idx Int (bytesInts x.1) y1.1.1) (fun (y2 : Int) => sel (ltI (4 : Int) (0 : Int))
  (none : Option (((Int × Unit) × (Unit × Unit × Unit) × (List (Int)) × Unit) ⊕ (Nat × (Int × Unit) × (Unit × Unit × Unit) × (List (Int)) × Unit)))
  (obind (@idx UInt8 ([(48 : UInt8), (49 : UInt8), (50 : UInt8), (51 : UInt8), (52 : UInt8), (53 : UInt8), (54 : UInt8), (55 : UInt8), (56 : UInt8), (57 : UInt8), (97 : UInt8), (98 : UInt8), (99 : UInt8), (100 : UInt8), (101 : UInt8), (102 : UInt8)] : List (UInt8)) (ishr IntKind.u8 y2 (4 : Int))) (fun (y3 : UInt8) => sel (fits (plus (@len Int y1.2.2.1) (@len Int ([u8 y3] : List (Int)))))
  (obind (@idx UInt8 ([(48 : UInt8), (49 : UInt8), (50 : UInt8), (51 : UInt8), (52 : UInt8), (53 : UInt8), (54 : UInt8), (55 : UInt8), (56 : UInt8), (57 : UInt8), (97 : UInt8), (98 : UInt8), (99 : UInt8), (100 : UInt8), (101 : UInt8), (102 : UInt8)] : List (UInt8)) (iand IntKind.u8 y2 (15 : Int))) (fun (y4 : UInt8) => sel (fits (plus (@len Int (@app Int y1.2.2.1 ([u8 y3] : List (Int)))) (@len Int ([u8 y4] : List (Int)))))
  (some (Sum.inl ((iadd IntKind.i64 y1.1.1 (1 : Int), ()), (((), ((), y1.2.1.2.2)), (@app Int (@app Int y1.2.2.1 ([u8 y3] : List (Int))) ([u8 y4] : List (Int)), ()))) : (((Int × Unit) × (Unit × Unit × Unit) × (List (Int)) × Unit)) ⊕ ((Nat × (Int × Unit) × (Unit × Unit × Unit) × (List (Int)) × Unit))))
  (none : Option (((Int × Unit) × (Unit × Unit × Unit) × (List (Int)) × Unit) ⊕ (Nat × (Int × Unit) × (Unit × Unit × Unit) × (List (Int)) × Unit)))))
  (none : Option (((Int × Unit) × (Unit × Unit × Unit) × (List (Int)) × Unit) ⊕ (Nat × (Int × Unit) × (Unit × Unit × Unit) × (List (Int)) × Unit)))))))
  (none : Option (((Int × Unit) × (Unit × Unit × Unit) × (List (Int)) × Unit) ⊕ (Nat × (Int × Unit) × (Unit × Unit × Unit) × (List (Int)) × Unit))))
  (some (Sum.inr ((0 : Nat), ((y1.1.1, ()), (((), ((), y1.2.1.2.2)), (y1.2.2.1, ())))) : (((Int × Unit) × (Unit × Unit × Unit) × (List (Int)) × Unit)) ⊕ ((Nat × (Int × Unit) × (Unit × Unit × Unit) × (List (Int)) × Unit)))))

noncomputable def P_digits_Hex (x : (List (UInt8)) × Unit) : Option ((List (UInt8)) × Unit) :=
  sel (fits (@len UInt8 x.1))
  (obind (Loop (P_digits_Hex_L0 x) (((0 : Int), ()), (((), ((), ())), (([] : List (Int)), ())))) (fun (y1 : (Int × Unit) × (Unit × Unit × Unit) × (List (Int)) × Unit) => some (intsBytes y1.2.2.1, ())))
  (none : Option ((List (UInt8)) × Unit))

noncomputable def P_internal_stringslite_HasPrefix (x : (List (UInt8)) × (List (UInt8)) × Unit) : Option (Bool × Unit) :=
  obind (sel (leI (@len UInt8 x.2.1) (@len UInt8 x.1))
  (sel (inside (0 : Int) (@len UInt8 x.2.1) (@len UInt8 x.1))
  (some (eqS (@sub UInt8 x.1 (0 : Int) (minus (@len UInt8 x.2.1) (0 : Int))) x.2.1))
  (none : Option (Bool)))
  (some false)) (fun (y1 : Bool) => some (y1, ()))

noncomputable def P_internal_stringslite_CutPrefix (x : (List (UInt8)) × (List (UInt8)) × Unit) : Option ((List (UInt8)) × Bool × Unit) :=
  obind (P_internal_stringslite_HasPrefix (x.1, (x.2.1, ()))) (fun (y1 : Bool × Unit) => sel (nt y1.1)
  (some (x.1, (false, ())))
  (sel (inside (@len UInt8 x.2.1) (@len UInt8 x.1) (@len UInt8 x.1))
  (some (@sub UInt8 x.1 (@len UInt8 x.2.1) (minus (@len UInt8 x.1) (@len UInt8 x.2.1)), (true, ())))
  (none : Option ((List (UInt8)) × Bool × Unit))))

noncomputable def P_strings_CutPrefix (x : (List (UInt8)) × (List (UInt8)) × Unit) : Option ((List (UInt8)) × Bool × Unit) :=
  obind (P_internal_stringslite_CutPrefix (x.1, (x.2.1, ()))) (fun (y1 : (List (UInt8)) × Bool × Unit) => some (y1.1, (y1.2.1, ())))

noncomputable def P_strings_IndexByte (x : (List (UInt8)) × Int × Unit) : Option (Int × Unit) :=
  obind (P_internal_stringslite_IndexByte (x.1, (x.2.1, ()))) (fun (y1 : Int × Unit) => some (y1.1, ()))

noncomputable def P_ref01_digit (x : Int × Unit) : Option (Int × Unit) :=
  sel (ltI x.1 (10 : Int))
  (some (icv IntKind.u8 (iadd IntKind.i64 (48 : Int) x.1), ()))
  (some (icv IntKind.u8 (isub IntKind.i64 (iadd IntKind.i64 (97 : Int) x.1) (10 : Int)), ()))

noncomputable def P_ref01_Hex_L0 (x : (List (UInt8)) × Unit) (y1 : (Unit × Int × Unit) × (List (Int)) × Unit) : Option (((Unit × Int × Unit) × (List (Int)) × Unit) ⊕ ((Unit × Int × Unit) × (List (Int)) × Unit)) :=
  @way1 ((Unit × Int × Unit) × (List (Int)) × Unit) (sel (ltI y1.1.2.1 (@len UInt8 x.1))
  (obind (@idx UInt8 x.1 y1.1.2.1) (fun (y2 : UInt8) => sel (eqI (16 : Int) (0 : Int))
  (none : Option (((Unit × Int × Unit) × (List (Int)) × Unit) ⊕ (Nat × (Unit × Int × Unit) × (List (Int)) × Unit)))
  (obind (P_ref01_digit (iquo IntKind.i64 (icv IntKind.i64 (u8 y2)) (16 : Int), ())) (fun (y3 : Int × Unit) => sel (fits (plus (@len Int y1.2.1) (@len Int ([y3.1] : List (Int)))))
  (obind (@idx UInt8 x.1 y1.1.2.1) (fun (y4 : UInt8) => sel (eqI (16 : Int) (0 : Int))
  (none : Option (((Unit × Int × Unit) × (List (Int)) × Unit) ⊕ (Nat × (Unit × Int × Unit) × (List (Int)) × Unit)))
  (obind (P_ref01_digit (irem (icv IntKind.i64 (u8 y4)) (16 : Int), ())) (fun (y5 : Int × Unit) => sel (fits (plus (@len Int (@app Int y1.2.1 ([y3.1] : List (Int)))) (@len Int ([y5.1] : List (Int)))))
  (some (Sum.inl (((), (iadd IntKind.i64 y1.1.2.1 (1 : Int), ())), (@app Int (@app Int y1.2.1 ([y3.1] : List (Int))) ([y5.1] : List (Int)), ())) : (((Unit × Int × Unit) × (List (Int)) × Unit)) ⊕ ((Nat × (Unit × Int × Unit) × (List (Int)) × Unit))))
  (none : Option (((Unit × Int × Unit) × (List (Int)) × Unit) ⊕ (Nat × (Unit × Int × Unit) × (List (Int)) × Unit)))))))
  (none : Option (((Unit × Int × Unit) × (List (Int)) × Unit) ⊕ (Nat × (Unit × Int × Unit) × (List (Int)) × Unit)))))))
  (some (Sum.inr ((0 : Nat), (((), (y1.1.2.1, ())), (y1.2.1, ()))) : (((Unit × Int × Unit) × (List (Int)) × Unit)) ⊕ ((Nat × (Unit × Int × Unit) × (List (Int)) × Unit)))))

noncomputable def P_ref01_Hex (x : (List (UInt8)) × Unit) : Option ((List (UInt8)) × Unit) :=
  obind (Loop (P_ref01_Hex_L0 x) (((), ((0 : Int), ())), (([] : List (Int)), ()))) (fun (y1 : (Unit × Int × Unit) × (List (Int)) × Unit) => some (intsBytes y1.2.1, ()))

end Go.Ge

/- What the functions of layer 12 compute, as plain programs (written by a program from what the ghost interpreter comes to). -/
namespace Go.Ge
set_option linter.unusedVariables false
set_option maxRecDepth 100000

noncomputable def P_header_in (x : Int × Int × Unit) : Option (Bool × Unit) :=
  some (sel (leI (0 : Int) x.1)
  (ltI x.1 x.2.1)
  false, ())

noncomputable def P_header_clear (x : (List (UInt8)) × Int × Unit) : Option (Bool × Unit) :=
  obind (sel (sel (nt (eqS x.1 ([] : List (UInt8))))
  (leI (@len UInt8 x.1) x.2.1)
  false)
  (obind (P_strings_IndexByte (x.1, ((0 : Int), ()))) (fun (y1 : Int × Unit) => some (ltI y1.1 (0 : Int))))
  (some false)) (fun (y1 : Bool) => some (y1, ()))

noncomputable def P_header_is (x : ((List (UInt8)) × Int × Int × Int × Int × Int × Int × (List (UInt8)) × Unit) × Int × Unit) : Option (Bool × Unit) :=
  obind (P_header_in (x.1.2.2.1, ((2097152 : Int), ()))) (fun (y1 : Bool × Unit) => obind (sel y1.1
  (obind (P_header_in (x.1.2.2.2.1, ((2097152 : Int), ()))) (fun (y2 : Bool × Unit) => some y2.1))
  (some false)) (fun (y2 : Bool) => obind (sel y2
  (obind (P_header_in (x.1.2.2.2.2.1, ((2097152 : Int), ()))) (fun (y3 : Bool × Unit) => some y3.1))
  (some false)) (fun (y3 : Bool) => obind (sel y3
  (obind (P_header_in (x.1.2.2.2.2.2.1, ((8589934592 : Int), ()))) (fun (y4 : Bool × Unit) => some y4.1))
  (some false)) (fun (y4 : Bool) => obind (sel y4
  (obind (P_header_in (x.1.2.2.2.2.2.2.1, ((8589934592 : Int), ()))) (fun (y5 : Bool × Unit) => some y5.1))
  (some false)) (fun (y5 : Bool) => obind (sel (nt (nt y5))
  (obind (P_header_clear (x.1.1, (x.2.1, ()))) (fun (y6 : Bool × Unit) => some (nt y6.1)))
  (some true)) (fun (y6 : Bool) => sel y6
  (some (false, ()))
  (sel (eqI x.1.2.1 (1 : Int))
  (some (eqS x.1.2.2.2.2.2.2.2.1 ([] : List (UInt8)), ()))
  (sel (eqI x.1.2.1 (2 : Int))
  (some (sel (eqS x.1.2.2.2.2.2.2.2.1 ([] : List (UInt8)))
  (eqI x.1.2.2.2.2.2.1 (0 : Int))
  false, ()))
  (sel (eqI x.1.2.1 (3 : Int))
  (obind (P_header_clear (x.1.2.2.2.2.2.2.2.1, ((100 : Int), ()))) (fun (y7 : Bool × Unit) => some (sel y7.1
  (eqI x.1.2.2.2.2.2.1 (0 : Int))
  false, ())))
  (some (false, ())))))))))))

noncomputable def P_header_fields (x : Unit) : Option ((List (Int × Int × Unit)) × Unit) :=
  some (([((0 : Int), ((100 : Int), ())), ((100 : Int), ((8 : Int), ())), ((108 : Int), ((8 : Int), ())), ((116 : Int), ((8 : Int), ())), ((124 : Int), ((12 : Int), ())), ((136 : Int), ((12 : Int), ())), ((148 : Int), ((8 : Int), ())), ((156 : Int), ((1 : Int), ())), ((157 : Int), ((100 : Int), ())), ((257 : Int), ((8 : Int), ())), ((345 : Int), ((155 : Int), ()))] : List (Int × Int × Unit)), ())

noncomputable def P_digits_Octal_L0 (x : Int × Int × Unit) (y1 : (Int × Int × Unit) × (List (Int)) × Unit) : Option (((Int × Int × Unit) × (List (Int)) × Unit) ⊕ ((Int × Int × Unit) × (List (Int)) × Unit)) :=
  @way1 ((Int × Int × Unit) × (List (Int)) × Unit) (sel (ltI y1.1.2.1 x.2.1)
  (obind (@idx UInt8 ([(48 : UInt8), (49 : UInt8), (50 : UInt8), (51 : UInt8), (52 : UInt8), (53 : UInt8), (54 : UInt8), (55 : UInt8), (56 : UInt8), (57 : UInt8), (97 : UInt8), (98 : UInt8), (99 : UInt8), (100 : UInt8), (101 : UInt8), (102 : UInt8)] : List (UInt8)) (iand IntKind.i64 y1.1.1 (7 : Int))) (fun (y2 : UInt8) => sel (within (isub IntKind.i64 (20 : Int) y1.1.2.1) (21 : Int))
  (obind (@idx Int y1.2.1 (isub IntKind.i64 (20 : Int) y1.1.2.1)) (fun (y3 : Int) => obind (@idx Int y1.2.1 (isub IntKind.i64 (20 : Int) y1.1.2.1)) (fun (y4 : Int) => obind (@idx Int y1.2.1 (isub IntKind.i64 (20 : Int) y1.1.2.1)) (fun (y5 : Int) => sel (ltI (3 : Int) (0 : Int))
  (none : Option (((Int × Int × Unit) × (List (Int)) × Unit) ⊕ (Nat × (Int × Int × Unit) × (List (Int)) × Unit)))
  (some (Sum.inl ((ishr IntKind.i64 y1.1.1 (3 : Int), (iadd IntKind.i64 y1.1.2.1 (1 : Int), ())), (@lset Int y1.2.1 (isub IntKind.i64 (20 : Int) y1.1.2.1) (u8 y2), ())) : (((Int × Int × Unit) × (List (Int)) × Unit)) ⊕ ((Nat × (Int × Int × Unit) × (List (Int)) × Unit))))))))
  (none : Option (((Int × Int × Unit) × (List (Int)) × Unit) ⊕ (Nat × (Int × Int × Unit) × (List (Int)) × Unit)))))
  (some (Sum.inr ((0 : Nat), ((y1.1.1, (y1.1.2.1, ())), (y1.2.1, ()))) : (((Int × Int × Unit) × (List (Int)) × Unit)) ⊕ ((Nat × (Int × Int × Unit) × (List (Int)) × Unit)))))

noncomputable def P_digits_Octal (x : Int × Int × Unit) : Option ((List (UInt8)) × Bool × Unit) :=
  sel (sel (nt (sel (nt (ltI x.1 (0 : Int)))
  (ltI x.2.1 (1 : Int))
  true))
  (ltI (21 : Int) x.2.1)
  true)
  (some (([] : List (UInt8)), (false, ())))
  (obind (Loop (P_digits_Octal_L0 x) ((x.1, ((0 : Int), ())), (([(0 : Int), (0 : Int), (0 : Int), (0 : Int), (0 : Int), (0 : Int), (0 : Int), (0 : Int), (0 : Int), (0 : Int), (0 : Int), (0 : Int), (0 : Int), (0 : Int), (0 : Int), (0 : Int), (0 : Int), (0 : Int), (0 : Int), (0 : Int), (0 : Int)] : List (Int)), ()))) (fun (y1 : (Int × Int × Unit) × (List (Int)) × Unit) => sel (ltI (0 : Int) y1.1.1)
  (some (([] : List (UInt8)), (false, ())))
  (sel (inside (isub IntKind.i64 (21 : Int) x.2.1) (21 : Int) (21 : Int))
  (some (intsBytes (@sub Int y1.2.1 (isub IntKind.i64 (21 : Int) x.2.1) (minus (21 : Int) (isub IntKind.i64 (21 : Int) x.2.1))), (true, ())))
  (none : Option ((List (UInt8)) × Bool × Unit)))))

noncomputable def P_header_Sum_L0 (x : (List (UInt8)) × Unit) (y2 : Int × Int × Unit) (y3 : (Int × Int × Unit) × Unit) : Option (((Int × Int × Unit) × Unit) ⊕ ((Int × Int × Unit) × Unit)) :=
  @way1 ((Int × Int × Unit) × Unit) (sel (ltI y3.1.2.1 (@len Int (bytesInts x.1)))
  (sel (within y3.1.2.1 (@len Int (bytesInts x.1)))
  (obind (@idx Int (bytesInts x.1) y3.1.2.1) (fun (y4 : Int) => some (Sum.inl ((iadd IntKind.i64 y3.1.1 (icv IntKind.i64 (((sel (sel (leI y2.1 y3.1.2.1)
  (ltI y3.1.2.1 (iadd IntKind.i64 y2.1 y2.2.1))
  false)
  (((32 : Int), ()), ())
  ((y4, ()), ())).1).1)), (iadd IntKind.i64 y3.1.2.1 (1 : Int), ())), ()) : (((Int × Int × Unit) × Unit)) ⊕ ((Nat × (Int × Int × Unit) × Unit)))))
  (none : Option (((Int × Int × Unit) × Unit) ⊕ (Nat × (Int × Int × Unit) × Unit))))
  (some (Sum.inr ((0 : Nat), ((y3.1.1, (y3.1.2.1, ())), ())) : (((Int × Int × Unit) × Unit)) ⊕ ((Nat × (Int × Int × Unit) × Unit)))))

noncomputable def P_header_Sum (x : (List (UInt8)) × Unit) : Option (Int × Unit) :=
  obind (P_header_fields ()) (fun (y1 : (List (Int × Int × Unit)) × Unit) => obind (@idx (Int × Int × Unit) y1.1 (6 : Int)) (fun (y2 : Int × Int × Unit) => sel (fits (@len UInt8 x.1))
  (obind (Loop (P_header_Sum_L0 x y2) (((0 : Int), ((0 : Int), ())), ())) (fun (y3 : (Int × Int × Unit) × Unit) => some (y3.1.1, ())))
  (none : Option (Int × Unit))))

noncomputable def P_header_Put (x : ((List (UInt8)) × Int × Int × Int × Int × Int × Int × (List (UInt8)) × Unit) × Unit) : Option ((List (UInt8)) × Int × Unit) :=
  obind (P_header_is (x.1, ((100 : Int), ()))) (fun (y1 : Bool × Unit) => sel (nt y1.1)
  (some (([] : List (UInt8)), ((1 : Int), ())))
  (obind (P_header_fields ()) (fun (y2 : (List (Int × Int × Unit)) × Unit) => sel (within (0 : Int) (11 : Int))
  (obind (@idx (Int × Int × Unit) y2.1 (0 : Int)) (fun (y3 : Int × Int × Unit) => sel (inside y3.1 (512 : Int) (512 : Int))
  (obind (P_digits_Octal (x.1.2.2.1, ((7 : Int), ()))) (fun (y4 : (List (UInt8)) × Bool × Unit) => sel (within (1 : Int) (11 : Int))
  (obind (@idx (Int × Int × Unit) y2.1 (1 : Int)) (fun (y5 : Int × Int × Unit) => sel (inside y5.1 (512 : Int) (512 : Int))
  (obind (P_digits_Octal (x.1.2.2.2.1, ((7 : Int), ()))) (fun (y6 : (List (UInt8)) × Bool × Unit) => sel (within (2 : Int) (11 : Int))
  (obind (@idx (Int × Int × Unit) y2.1 (2 : Int)) (fun (y7 : Int × Int × Unit) => sel (inside y7.1 (512 : Int) (512 : Int))
  (obind (P_digits_Octal (x.1.2.2.2.2.1, ((7 : Int), ()))) (fun (y8 : (List (UInt8)) × Bool × Unit) => sel (within (3 : Int) (11 : Int))
  (obind (@idx (Int × Int × Unit) y2.1 (3 : Int)) (fun (y9 : Int × Int × Unit) => sel (inside y9.1 (512 : Int) (512 : Int))
  (obind (P_digits_Octal (x.1.2.2.2.2.2.1, ((11 : Int), ()))) (fun (y10 : (List (UInt8)) × Bool × Unit) => sel (within (4 : Int) (11 : Int))
  (obind (@idx (Int × Int × Unit) y2.1 (4 : Int)) (fun (y11 : Int × Int × Unit) => sel (inside y11.1 (512 : Int) (512 : Int))
  (obind (P_digits_Octal (x.1.2.2.2.2.2.2.1, ((11 : Int), ()))) (fun (y12 : (List (UInt8)) × Bool × Unit) => sel (within (5 : Int) (11 : Int))
  (obind (@idx (Int × Int × Unit) y2.1 (5 : Int)) (fun (y13 : Int × Int × Unit) => sel (inside y13.1 (512 : Int) (512 : Int))
  (sel (inside (isub IntKind.i64 x.1.2.1 (1 : Int)) x.1.2.1 (@len UInt8 ([(48 : UInt8), (53 : UInt8), (50 : UInt8)] : List (UInt8))))
  (sel (within (7 : Int) (11 : Int))
  (obind (@idx (Int × Int × Unit) y2.1 (7 : Int)) (fun (y14 : Int × Int × Unit) => sel (inside y14.1 (512 : Int) (512 : Int))
  (sel (within (8 : Int) (11 : Int))
  (obind (@idx (Int × Int × Unit) y2.1 (8 : Int)) (fun (y15 : Int × Int × Unit) => sel (inside y15.1 (512 : Int) (512 : Int))
  (sel (within (9 : Int) (11 : Int))
  (obind (@idx (Int × Int × Unit) y2.1 (9 : Int)) (fun (y16 : Int × Int × Unit) => sel (inside y16.1 (512 : Int) (512 : Int))
  (sel (inside (0 : Int) (512 : Int) (512 : Int))
  (obind (P_header_Sum (intsBytes (@sub Int (@over Int (@over Int (@over Int (@over Int (@over Int (@over Int (@over Int (@over Int (@over Int ((List.replicate 512 (0 : Int)) : List (Int)) y3.1 (@ltake Int (bytesInts x.1.1) (minus (512 : Int) y3.1))) y5.1 (@ltake Int (bytesInts y4.1) (minus (512 : Int) y5.1))) y7.1 (@ltake Int (bytesInts y6.1) (minus (512 : Int) y7.1))) y9.1 (@ltake Int (bytesInts y8.1) (minus (512 : Int) y9.1))) y11.1 (@ltake Int (bytesInts y10.1) (minus (512 : Int) y11.1))) y13.1 (@ltake Int (bytesInts y12.1) (minus (512 : Int) y13.1))) y14.1 (@ltake Int (bytesInts (@sub UInt8 ([(48 : UInt8), (53 : UInt8), (50 : UInt8)] : List (UInt8)) (isub IntKind.i64 x.1.2.1 (1 : Int)) (minus x.1.2.1 (isub IntKind.i64 x.1.2.1 (1 : Int))))) (minus (512 : Int) y14.1))) y15.1 (@ltake Int (bytesInts x.1.2.2.2.2.2.2.2.1) (minus (512 : Int) y15.1))) y16.1 (@ltake Int (bytesInts ([(117 : UInt8), (115 : UInt8), (116 : UInt8), (97 : UInt8), (114 : UInt8), (0 : UInt8), (48 : UInt8), (48 : UInt8)] : List (UInt8))) (minus (512 : Int) y16.1))) (0 : Int) (minus (512 : Int) (0 : Int))), ())) (fun (y17 : Int × Unit) => obind (P_digits_Octal (y17.1, ((6 : Int), ()))) (fun (y18 : (List (UInt8)) × Bool × Unit) => sel (within (6 : Int) (11 : Int))
  (obind (@idx (Int × Int × Unit) y2.1 (6 : Int)) (fun (y19 : Int × Int × Unit) => sel (inside y19.1 (512 : Int) (512 : Int))
  (sel (within (6 : Int) (11 : Int))
  (obind (@idx (Int × Int × Unit) y2.1 (6 : Int)) (fun (y20 : Int × Int × Unit) => sel (within (iadd IntKind.i64 (iadd IntKind.i64 y20.1 (6 : Int)) (1 : Int)) (512 : Int))
  (obind (@idx Int (@over Int (@over Int (@over Int (@over Int (@over Int (@over Int (@over Int (@over Int (@over Int (@over Int ((List.replicate 512 (0 : Int)) : List (Int)) y3.1 (@ltake Int (bytesInts x.1.1) (minus (512 : Int) y3.1))) y5.1 (@ltake Int (bytesInts y4.1) (minus (512 : Int) y5.1))) y7.1 (@ltake Int (bytesInts y6.1) (minus (512 : Int) y7.1))) y9.1 (@ltake Int (bytesInts y8.1) (minus (512 : Int) y9.1))) y11.1 (@ltake Int (bytesInts y10.1) (minus (512 : Int) y11.1))) y13.1 (@ltake Int (bytesInts y12.1) (minus (512 : Int) y13.1))) y14.1 (@ltake Int (bytesInts (@sub UInt8 ([(48 : UInt8), (53 : UInt8), (50 : UInt8)] : List (UInt8)) (isub IntKind.i64 x.1.2.1 (1 : Int)) (minus x.1.2.1 (isub IntKind.i64 x.1.2.1 (1 : Int))))) (minus (512 : Int) y14.1))) y15.1 (@ltake Int (bytesInts x.1.2.2.2.2.2.2.2.1) (minus (512 : Int) y15.1))) y16.1 (@ltake Int (bytesInts ([(117 : UInt8), (115 : UInt8), (116 : UInt8), (97 : UInt8), (114 : UInt8), (0 : UInt8), (48 : UInt8), (48 : UInt8)] : List (UInt8))) (minus (512 : Int) y16.1))) y19.1 (@ltake Int (bytesInts y18.1) (minus (512 : Int) y19.1))) (iadd IntKind.i64 (iadd IntKind.i64 y20.1 (6 : Int)) (1 : Int))) (fun (y21 : Int) => obind (@idx Int (@over Int (@over Int (@over Int (@over Int (@over Int (@over Int (@over Int (@over Int (@over Int (@over Int ((List.replicate 512 (0 : Int)) : List (Int)) y3.1 (@ltake Int (bytesInts x.1.1) (minus (512 : Int) y3.1))) y5.1 (@ltake Int (bytesInts y4.1) (minus (512 : Int) y5.1))) y7.1 (@ltake Int (bytesInts y6.1) (minus (512 : Int) y7.1))) y9.1 (@ltake Int (bytesInts y8.1) (minus (512 : Int) y9.1))) y11.1 (@ltake Int (bytesInts y10.1) (minus (512 : Int) y11.1))) y13.1 (@ltake Int (bytesInts y12.1) (minus (512 : Int) y13.1))) y14.1 (@ltake Int (bytesInts (@sub UInt8 ([(48 : UInt8), (53 : UInt8), (50 : UInt8)] : List (UInt8)) (isub IntKind.i64 x.1.2.1 (1 : Int)) (minus x.1.2.1 (isub IntKind.i64 x.1.2.1 (1 : Int))))) (minus (512 : Int) y14.1))) y15.1 (@ltake Int (bytesInts x.1.2.2.2.2.2.2.2.1) (minus (512 : Int) y15.1))) y16.1 (@ltake Int (bytesInts ([(117 : UInt8), (115 : UInt8), (116 : UInt8), (97 : UInt8), (114 : UInt8), (0 : UInt8), (48 : UInt8), (48 : UInt8)] : List (UInt8))) (minus (512 : Int) y16.1))) y19.1 (@ltake Int (bytesInts y18.1) (minus (512 : Int) y19.1))) (iadd IntKind.i64 (iadd IntKind.i64 y20.1 (6 : Int)) (1 : Int))) (fun (y22 : Int) => obind (@idx Int (@over Int (@over Int (@over Int (@over Int (@over Int (@over Int (@over Int (@over Int (@over Int (@over Int ((List.replicate 512 (0 : Int)) : List (Int)) y3.1 (@ltake Int (bytesInts x.1.1) (minus (512 : Int) y3.1))) y5.1 (@ltake Int (bytesInts y4.1) (minus (512 : Int) y5.1))) y7.1 (@ltake Int (bytesInts y6.1) (minus (512 : Int) y7.1))) y9.1 (@ltake Int (bytesInts y8.1) (minus (512 : Int) y9.1))) y11.1 (@ltake Int (bytesInts y10.1) (minus (512 : Int) y11.1))) y13.1 (@ltake Int (bytesInts y12.1) (minus (512 : Int) y13.1))) y14.1 (@ltake Int (bytesInts (@sub UInt8 ([(48 : UInt8), (53 : UInt8), (50 : UInt8)] : List (UInt8)) (isub IntKind.i64 x.1.2.1 (1 : Int)) (minus x.1.2.1 (isub IntKind.i64 x.1.2.1 (1 : Int))))) (minus (512 : Int) y14.1))) y15.1 (@ltake Int (bytesInts x.1.2.2.2.2.2.2.2.1) (minus (512 : Int) y15.1))) y16.1 (@ltake Int (bytesInts ([(117 : UInt8), (115 : UInt8), (116 : UInt8), (97 : UInt8), (114 : UInt8), (0 : UInt8), (48 : UInt8), (48 : UInt8)] : List (UInt8))) (minus (512 : Int) y16.1))) y19.1 (@ltake Int (bytesInts y18.1) (minus (512 : Int) y19.1))) (iadd IntKind.i64 (iadd IntKind.i64 y20.1 (6 : Int)) (1 : Int))) (fun (y23 : Int) => sel (inside (0 : Int) (512 : Int) (512 : Int))
  (some (intsBytes (@sub Int (@lset Int (@over Int (@over Int (@over Int (@over Int (@over Int (@over Int (@over Int (@over Int (@over Int (@over Int ((List.replicate 512 (0 : Int)) : List (Int)) y3.1 (@ltake Int (bytesInts x.1.1) (minus (512 : Int) y3.1))) y5.1 (@ltake Int (bytesInts y4.1) (minus (512 : Int) y5.1))) y7.1 (@ltake Int (bytesInts y6.1) (minus (512 : Int) y7.1))) y9.1 (@ltake Int (bytesInts y8.1) (minus (512 : Int) y9.1))) y11.1 (@ltake Int (bytesInts y10.1) (minus (512 : Int) y11.1))) y13.1 (@ltake Int (bytesInts y12.1) (minus (512 : Int) y13.1))) y14.1 (@ltake Int (bytesInts (@sub UInt8 ([(48 : UInt8), (53 : UInt8), (50 : UInt8)] : List (UInt8)) (isub IntKind.i64 x.1.2.1 (1 : Int)) (minus x.1.2.1 (isub IntKind.i64 x.1.2.1 (1 : Int))))) (minus (512 : Int) y14.1))) y15.1 (@ltake Int (bytesInts x.1.2.2.2.2.2.2.2.1) (minus (512 : Int) y15.1))) y16.1 (@ltake Int (bytesInts ([(117 : UInt8), (115 : UInt8), (116 : UInt8), (97 : UInt8), (114 : UInt8), (0 : UInt8), (48 : UInt8), (48 : UInt8)] : List (UInt8))) (minus (512 : Int) y16.1))) y19.1 (@ltake Int (bytesInts y18.1) (minus (512 : Int) y19.1))) (iadd IntKind.i64 (iadd IntKind.i64 y20.1 (6 : Int)) (1 : Int)) (32 : Int)) (0 : Int) (minus (512 : Int) (0 : Int))), ((0 : Int), ())))
  (none : Option ((List (UInt8)) × Int × Unit))))))
  (none : Option ((List (UInt8)) × Int × Unit))))
  (none : Option ((List (UInt8)) × Int × Unit)))
  (none : Option ((List (UInt8)) × Int × Unit))))
  (none : Option ((List (UInt8)) × Int × Unit)))))
  (none : Option ((List (UInt8)) × Int × Unit)))
  (none : Option ((List (UInt8)) × Int × Unit))))
  (none : Option ((List (UInt8)) × Int × Unit)))
  (none : Option ((List (UInt8)) × Int × Unit))))
  (none : Option ((List (UInt8)) × Int × Unit)))
  (none : Option ((List (UInt8)) × Int × Unit))))
  (none : Option ((List (UInt8)) × Int × Unit)))
  (none : Option ((List (UInt8)) × Int × Unit)))
  (none : Option ((List (UInt8)) × Int × Unit))))
  (none : Option ((List (UInt8)) × Int × Unit))))
  (none : Option ((List (UInt8)) × Int × Unit))))
  (none : Option ((List (UInt8)) × Int × Unit))))
  (none : Option ((List (UInt8)) × Int × Unit))))
  (none : Option ((List (UInt8)) × Int × Unit))))
  (none : Option ((List (UInt8)) × Int × Unit))))
  (none : Option ((List (UInt8)) × Int × Unit))))
  (none : Option ((List (UInt8)) × Int × Unit))))
  (none : Option ((List (UInt8)) × Int × Unit))))
  (none : Option ((List (UInt8)) × Int × Unit))))
  (none : Option ((List (UInt8)) × Int × Unit)))))

noncomputable def P_header_of (x : (List (UInt8)) × Int × Unit) : Option ((List (UInt8)) × Unit) :=
  obind (P_header_fields ()) (fun (y1 : (List (Int × Int × Unit)) × Unit) => obind (@idx (Int × Int × Unit) y1.1 x.2.1) (fun (y2 : Int × Int × Unit) => sel (inside y2.1 (iadd IntKind.i64 y2.1 y2.2.1) (@len UInt8 x.1))
  (some (@sub UInt8 x.1 y2.1 (minus (iadd IntKind.i64 y2.1 y2.2.1) y2.1), ()))
  (none : Option ((List (UInt8)) × Unit))))

noncomputable def P_ref12_clear_L0 (x : (List (UInt8)) × Int × Unit) (y1 : (Bool × Int × Unit) × Unit) : Option (((Bool × Int × Unit) × Unit) ⊕ (Nat × (Bool × Int × Unit) × Unit)) :=
  sel (ltI y1.1.2.1 (@len UInt8 x.1))
  (obind (@idx UInt8 x.1 y1.1.2.1) (fun (y2 : UInt8) => sel (eqI (u8 y2) (0 : Int))
  (some (Sum.inr ((1 : Nat), ((false, (y1.1.2.1, ())), ())) : (((Bool × Int × Unit) × Unit)) ⊕ ((Nat × (Bool × Int × Unit) × Unit))))
  (some (Sum.inl ((y1.1.1, (iadd IntKind.i64 y1.1.2.1 (1 : Int), ())), ()) : (((Bool × Int × Unit) × Unit)) ⊕ ((Nat × (Bool × Int × Unit) × Unit))))))
  (some (Sum.inr ((0 : Nat), ((y1.1.1, (y1.1.2.1, ())), ())) : (((Bool × Int × Unit) × Unit)) ⊕ ((Nat × (Bool × Int × Unit) × Unit))))

noncomputable def P_ref12_clear (x : (List (UInt8)) × Int × Unit) : Option (Bool × Unit) :=
  obind (Loop (P_ref12_clear_L0 x) ((false, ((0 : Int), ())), ())) (fun (y1 : Nat × (Bool × Int × Unit) × Unit) => sel (eqN y1.1 (0 : Nat))
  (some (sel (leI (1 : Int) (@len UInt8 x.1))
  (leI (@len UInt8 x.1) x.2.1)
  false, ()))
  (some (y1.2.1.1, ())))

noncomputable def P_ref12_in (x : Int × Int × Unit) : Option (Bool × Unit) :=
  some (sel (leI (0 : Int) x.1)
  (ltI x.1 x.2.1)
  false, ())

noncomputable def P_ref12_may (x : ((List (UInt8)) × Int × Int × Int × Int × Int × Int × (List (UInt8)) × Unit) × Int × Unit) : Option (Bool × Unit) :=
  obind (sel (eqI x.1.2.1 (3 : Int))
  (obind (P_ref12_clear (x.1.2.2.2.2.2.2.2.1, ((100 : Int), ()))) (fun (y1 : Bool × Unit) => some ((y1.1, ()), ())))
  (some ((eqS x.1.2.2.2.2.2.2.2.1 ([] : List (UInt8)), ()), ()))) (fun (y1 : (Bool × Unit) × Unit) => obind (P_ref12_clear (x.1.1, (x.2.1, ()))) (fun (y2 : Bool × Unit) => obind (sel (sel (sel y2.1
  (leI (1 : Int) x.1.2.1)
  false)
  (leI x.1.2.1 (3 : Int))
  false)
  (obind (P_ref12_in (x.1.2.2.1, ((2097152 : Int), ()))) (fun (y3 : Bool × Unit) => some y3.1))
  (some false)) (fun (y3 : Bool) => obind (sel y3
  (obind (P_ref12_in (x.1.2.2.2.1, ((2097152 : Int), ()))) (fun (y4 : Bool × Unit) => some y4.1))
  (some false)) (fun (y4 : Bool) => obind (sel y4
  (obind (P_ref12_in (x.1.2.2.2.2.1, ((2097152 : Int), ()))) (fun (y5 : Bool × Unit) => some y5.1))
  (some false)) (fun (y5 : Bool) => obind (sel y5
  (obind (P_ref12_in (x.1.2.2.2.2.2.1, ((8589934592 : Int), ()))) (fun (y6 : Bool × Unit) => some y6.1))
  (some false)) (fun (y6 : Bool) => obind (sel y6
  (obind (P_ref12_in (x.1.2.2.2.2.2.2.1, ((8589934592 : Int), ()))) (fun (y7 : Bool × Unit) => some y7.1))
  (some false)) (fun (y7 : Bool) => some (sel (sel y7
  (sel (nt (eqI x.1.2.2.2.2.2.1 (0 : Int)))
  (eqI x.1.2.1 (1 : Int))
  true)
  false)
  y1.1.1
  false, ()))))))))

noncomputable def P_ref12_put (x : (List (UInt8)) × Int × (List (UInt8)) × Unit) : Option ((List (UInt8)) × Unit) :=
  sel (inside (0 : Int) x.2.1 (@len UInt8 x.1))
  (sel (fits (plus (@len UInt8 (@sub UInt8 x.1 (0 : Int) (minus x.2.1 (0 : Int)))) (@len UInt8 x.2.2.1)))
  (sel (inside (iadd IntKind.i64 x.2.1 (@len UInt8 x.2.2.1)) (@len UInt8 x.1) (@len UInt8 x.1))
  (sel (fits (plus (@len UInt8 (@app UInt8 (@sub UInt8 x.1 (0 : Int) (minus x.2.1 (0 : Int))) x.2.2.1)) (@len UInt8 (@sub UInt8 x.1 (iadd IntKind.i64 x.2.1 (@len UInt8 x.2.2.1)) (minus (@len UInt8 x.1) (iadd IntKind.i64 x.2.1 (@len UInt8 x.2.2.1)))))))
  (some (@app UInt8 (@app UInt8 (@sub UInt8 x.1 (0 : Int) (minus x.2.1 (0 : Int))) x.2.2.1) (@sub UInt8 x.1 (iadd IntKind.i64 x.2.1 (@len UInt8 x.2.2.1)) (minus (@len UInt8 x.1) (iadd IntKind.i64 x.2.1 (@len UInt8 x.2.2.1)))), ()))
  (none : Option ((List (UInt8)) × Unit)))
  (none : Option ((List (UInt8)) × Unit)))
  (none : Option ((List (UInt8)) × Unit)))
  (none : Option ((List (UInt8)) × Unit))

noncomputable def P_ref01_Octal_L0 (x : Int × Int × Unit) (y1 : (Int × (List (UInt8)) × Int × Unit) × Unit) : Option (((Int × (List (UInt8)) × Int × Unit) × Unit) ⊕ ((Int × (List (UInt8)) × Int × Unit) × Unit)) :=
  @way1 ((Int × (List (UInt8)) × Int × Unit) × Unit) (sel (ltI y1.1.2.2.1 x.2.1)
  (sel (eqI (8 : Int) (0 : Int))
  (none : Option (((Int × (List (UInt8)) × Int × Unit) × Unit) ⊕ (Nat × (Int × (List (UInt8)) × Int × Unit) × Unit)))
  (sel (fits (plus (@len UInt8 (intsBytes ([icv IntKind.u8 (iadd IntKind.i64 (48 : Int) (irem y1.1.1 (8 : Int)))] : List (Int)))) (@len UInt8 y1.1.2.1)))
  (sel (eqI (8 : Int) (0 : Int))
  (none : Option (((Int × (List (UInt8)) × Int × Unit) × Unit) ⊕ (Nat × (Int × (List (UInt8)) × Int × Unit) × Unit)))
  (some (Sum.inl ((iquo IntKind.i64 y1.1.1 (8 : Int), (@app UInt8 (intsBytes ([icv IntKind.u8 (iadd IntKind.i64 (48 : Int) (irem y1.1.1 (8 : Int)))] : List (Int))) y1.1.2.1, (iadd IntKind.i64 y1.1.2.2.1 (1 : Int), ()))), ()) : (((Int × (List (UInt8)) × Int × Unit) × Unit)) ⊕ ((Nat × (Int × (List (UInt8)) × Int × Unit) × Unit)))))
  (none : Option (((Int × (List (UInt8)) × Int × Unit) × Unit) ⊕ (Nat × (Int × (List (UInt8)) × Int × Unit) × Unit)))))
  (some (Sum.inr ((0 : Nat), ((y1.1.1, (y1.1.2.1, (y1.1.2.2.1, ()))), ())) : (((Int × (List (UInt8)) × Int × Unit) × Unit)) ⊕ ((Nat × (Int × (List (UInt8)) × Int × Unit) × Unit)))))

noncomputable def P_ref01_Octal (x : Int × Int × Unit) : Option ((List (UInt8)) × Bool × Unit) :=
  sel (sel (nt (sel (nt (ltI x.1 (0 : Int)))
  (ltI x.2.1 (1 : Int))
  true))
  (ltI (21 : Int) x.2.1)
  true)
  (some (([] : List (UInt8)), (false, ())))
  (obind (Loop (P_ref01_Octal_L0 x) ((x.1, (([] : List (UInt8)), ((0 : Int), ()))), ())) (fun (y1 : (Int × (List (UInt8)) × Int × Unit) × Unit) => sel (ltI (0 : Int) y1.1.1)
  (some (([] : List (UInt8)), (false, ())))
  (some (y1.1.2.1, (true, ())))))

noncomputable def P_ref12_octal (x : Int × Int × Unit) : Option ((List (UInt8)) × Unit) :=
  obind (P_ref01_Octal (x.1, (x.2.1, ()))) (fun (y1 : (List (UInt8)) × Bool × Unit) => some (y1.1, ()))

noncomputable def P_ref12_Sum_L0 (x : (List (UInt8)) × Unit) (y1 : (Int × Int × Unit) × Unit) : Option (((Int × Int × Unit) × Unit) ⊕ ((Int × Int × Unit) × Unit)) :=
  @way1 ((Int × Int × Unit) × Unit) (sel (ltI y1.1.2.1 (@len UInt8 x.1))
  (obind (sel (sel (leI (148 : Int) y1.1.2.1)
  (ltI y1.1.2.1 (156 : Int))
  false)
  (some ((iadd IntKind.i64 y1.1.1 (32 : Int), ()), ()))
  (obind (@idx UInt8 x.1 y1.1.2.1) (fun (y2 : UInt8) => some ((iadd IntKind.i64 y1.1.1 (icv IntKind.i64 (u8 y2)), ()), ())))) (fun (y2 : (Int × Unit) × Unit) => some (Sum.inl ((y2.1.1, (iadd IntKind.i64 y1.1.2.1 (1 : Int), ())), ()) : (((Int × Int × Unit) × Unit)) ⊕ ((Nat × (Int × Int × Unit) × Unit)))))
  (some (Sum.inr ((0 : Nat), ((y1.1.1, (y1.1.2.1, ())), ())) : (((Int × Int × Unit) × Unit)) ⊕ ((Nat × (Int × Int × Unit) × Unit)))))

noncomputable def P_ref12_Sum (x : (List (UInt8)) × Unit) : Option (Int × Unit) :=
  obind (Loop (P_ref12_Sum_L0 x) (((0 : Int), ((0 : Int), ())), ())) (fun (y1 : (Int × Int × Unit) × Unit) => some (y1.1.1, ()))

noncomputable def P_ref12_Put (x : ((List (UInt8)) × Int × Int × Int × Int × Int × Int × (List (UInt8)) × Unit) × Unit) : Option ((List (UInt8)) × Int × Unit) :=
  obind (P_ref12_may (x.1, ((100 : Int), ()))) (fun (y1 : Bool × Unit) => sel (nt y1.1)
  (some (([] : List (UInt8)), ((1 : Int), ())))
  (sel (inside (0 : Int) (512 : Int) (512 : Int))
  (sel (fits (512 : Int))
  (obind (P_ref12_put (intsBytes (@lrep Int (512 : Int) (0 : Int)), ((0 : Int), (x.1.1, ())))) (fun (y2 : (List (UInt8)) × Unit) => obind (P_ref12_octal (x.1.2.2.1, ((7 : Int), ()))) (fun (y3 : (List (UInt8)) × Unit) => obind (P_ref12_put (y2.1, ((100 : Int), (y3.1, ())))) (fun (y4 : (List (UInt8)) × Unit) => obind (P_ref12_octal (x.1.2.2.2.1, ((7 : Int), ()))) (fun (y5 : (List (UInt8)) × Unit) => obind (P_ref12_put (y4.1, ((108 : Int), (y5.1, ())))) (fun (y6 : (List (UInt8)) × Unit) => obind (P_ref12_octal (x.1.2.2.2.2.1, ((7 : Int), ()))) (fun (y7 : (List (UInt8)) × Unit) => obind (P_ref12_put (y6.1, ((116 : Int), (y7.1, ())))) (fun (y8 : (List (UInt8)) × Unit) => obind (P_ref12_octal (x.1.2.2.2.2.2.1, ((11 : Int), ()))) (fun (y9 : (List (UInt8)) × Unit) => obind (P_ref12_put (y8.1, ((124 : Int), (y9.1, ())))) (fun (y10 : (List (UInt8)) × Unit) => obind (P_ref12_octal (x.1.2.2.2.2.2.2.1, ((11 : Int), ()))) (fun (y11 : (List (UInt8)) × Unit) => obind (P_ref12_put (y10.1, ((136 : Int), (y11.1, ())))) (fun (y12 : (List (UInt8)) × Unit) => obind (@idx (List (UInt8)) ([([] : List (UInt8)), ([(48 : UInt8)] : List (UInt8)), ([(53 : UInt8)] : List (UInt8)), ([(50 : UInt8)] : List (UInt8))] : List (List (UInt8))) x.1.2.1) (fun (y13 : List (UInt8)) => obind (P_ref12_put (y12.1, ((156 : Int), (y13, ())))) (fun (y14 : (List (UInt8)) × Unit) => obind (P_ref12_put (y14.1, ((157 : Int), (x.1.2.2.2.2.2.2.2.1, ())))) (fun (y15 : (List (UInt8)) × Unit) => obind (P_ref12_put (y15.1, ((257 : Int), (([(117 : UInt8), (115 : UInt8), (116 : UInt8), (97 : UInt8), (114 : UInt8), (0 : UInt8), (48 : UInt8), (48 : UInt8)] : List (UInt8)), ())))) (fun (y16 : (List (UInt8)) × Unit) => obind (P_ref12_Sum (y16.1, ())) (fun (y17 : Int × Unit) => obind (P_ref12_octal (y17.1, ((6 : Int), ()))) (fun (y18 : (List (UInt8)) × Unit) => sel (fits (plus (@len UInt8 y18.1) (@len UInt8 ([(0 : UInt8), (32 : UInt8)] : List (UInt8)))))
  (obind (P_ref12_put (y16.1, ((148 : Int), (@app UInt8 y18.1 ([(0 : UInt8), (32 : UInt8)] : List (UInt8)), ())))) (fun (y19 : (List (UInt8)) × Unit) => some (y19.1, ((0 : Int), ()))))
  (none : Option ((List (UInt8)) × Int × Unit))))))))))))))))))))
  (none : Option ((List (UInt8)) × Int × Unit)))
  (none : Option ((List (UInt8)) × Int × Unit))))

end Go.Ge

/- What the functions of layer 13 compute, as plain programs (written by a program from what the ghost interpreter comes to). -/
namespace Go.Ge
set_option linter.unusedVariables false
set_option maxRecDepth 100000

noncomputable def P_tar_noughts (x : Int × Unit) : Option ((List (UInt8)) × Unit) :=
  obind (P_strings_Repeat (([(0 : UInt8)] : List (UInt8)), (x.1, ()))) (fun (y1 : (List (UInt8)) × Unit) => some (y1.1, ()))

noncomputable def P_tar_fill (x : Int × Unit) : Option (Int × Unit) :=
  sel (eqI (512 : Int) (0 : Int))
  (none : Option (Int × Unit))
  (sel (eqI (512 : Int) (0 : Int))
  (none : Option (Int × Unit))
  (some (irem (isub IntKind.i64 (512 : Int) (irem x.1 (512 : Int))) (512 : Int), ())))

noncomputable def P_tar_Write_L0 (x : (List (((List (UInt8)) × Int × Int × Int × Int × Int × Int × (List (UInt8)) × Unit) × (List (UInt8)) × Unit)) × Unit) (y1 : ((List (UInt8)) × Int × Int × Unit) × (Unit × Unit × Unit) × (List (Int)) × Unit) : Option ((((List (UInt8)) × Int × Int × Unit) × (Unit × Unit × Unit) × (List (Int)) × Unit) ⊕ (Nat × ((List (UInt8)) × Int × Int × Unit) × (Unit × Unit × Unit) × (List (Int)) × Unit)) :=
  sel (ltI y1.1.2.2.1 (@len (((List (UInt8)) × Int × Int × Int × Int × Int × Int × (List (UInt8)) × Unit) × (List (UInt8)) × Unit) x.1))
  (obind (@idx (((List (UInt8)) × Int × Int × Int × Int × Int × Int × (List (UInt8)) × Unit) × (List (UInt8)) × Unit) x.1 y1.1.2.2.1) (fun (y2 : ((List (UInt8)) × Int × Int × Int × Int × Int × Int × (List (UInt8)) × Unit) × (List (UInt8)) × Unit) => obind (P_header_Put (y2.1, ())) (fun (y3 : (List (UInt8)) × Int × Unit) => sel (sel (nt (nt (eqI y3.2.1 (0 : Int))))
  (nt (eqI y2.1.2.2.2.2.2.1 (@len UInt8 y2.2.1)))
  true)
  (some (Sum.inr ((1 : Nat), ((([] : List (UInt8)), ((1 : Int), (y1.1.2.2.1, ()))), (((), ((), y1.2.1.2.2)), (y1.2.2.1, ())))) : ((((List (UInt8)) × Int × Int × Unit) × (Unit × Unit × Unit) × (List (Int)) × Unit)) ⊕ ((Nat × ((List (UInt8)) × Int × Int × Unit) × (Unit × Unit × Unit) × (List (Int)) × Unit))))
  (sel (fits (plus (@len Int y1.2.2.1) (@len Int (bytesInts y3.1))))
  (sel (ltI (8192 : Int) (@len UInt8 y2.2.1))
  (obind (P_tar_noughts ((8192 : Int), ())) (fun (y4 : (List (UInt8)) × Unit) => sel (fits (plus (@len Int (@app Int y1.2.2.1 (bytesInts y3.1))) (@len Int (bytesInts y4.1))))
  (some (Sum.inl ((y1.1.1, (y1.1.2.1, (iadd IntKind.i64 y1.1.2.2.1 (1 : Int), ()))), (((), ((), y1.2.1.2.2)), (@app Int (@app Int y1.2.2.1 (bytesInts y3.1)) (bytesInts y4.1), ()))) : ((((List (UInt8)) × Int × Int × Unit) × (Unit × Unit × Unit) × (List (Int)) × Unit)) ⊕ ((Nat × ((List (UInt8)) × Int × Int × Unit) × (Unit × Unit × Unit) × (List (Int)) × Unit))))
  (none : Option ((((List (UInt8)) × Int × Int × Unit) × (Unit × Unit × Unit) × (List (Int)) × Unit) ⊕ (Nat × ((List (UInt8)) × Int × Int × Unit) × (Unit × Unit × Unit) × (List (Int)) × Unit)))))
  (obind (P_tar_fill (@len UInt8 y2.2.1, ())) (fun (y4 : Int × Unit) => obind (P_tar_noughts (y4.1, ())) (fun (y5 : (List (UInt8)) × Unit) => sel (fits (plus (@len UInt8 y2.2.1) (@len UInt8 y5.1)))
  (sel (fits (plus (@len Int (@app Int y1.2.2.1 (bytesInts y3.1))) (@len Int (bytesInts (@app UInt8 y2.2.1 y5.1)))))
  (some (Sum.inl ((y1.1.1, (y1.1.2.1, (iadd IntKind.i64 y1.1.2.2.1 (1 : Int), ()))), (((), ((), y1.2.1.2.2)), (@app Int (@app Int y1.2.2.1 (bytesInts y3.1)) (bytesInts (@app UInt8 y2.2.1 y5.1)), ()))) : ((((List (UInt8)) × Int × Int × Unit) × (Unit × Unit × Unit) × (List (Int)) × Unit)) ⊕ ((Nat × ((List (UInt8)) × Int × Int × Unit) × (Unit × Unit × Unit) × (List (Int)) × Unit))))
  (none : Option ((((List (UInt8)) × Int × Int × Unit) × (Unit × Unit × Unit) × (List (Int)) × Unit) ⊕ (Nat × ((List (UInt8)) × Int × Int × Unit) × (Unit × Unit × Unit) × (List (Int)) × Unit))))
  (none : Option ((((List (UInt8)) × Int × Int × Unit) × (Unit × Unit × Unit) × (List (Int)) × Unit) ⊕ (Nat × ((List (UInt8)) × Int × Int × Unit) × (Unit × Unit × Unit) × (List (Int)) × Unit)))))))
  (none : Option ((((List (UInt8)) × Int × Int × Unit) × (Unit × Unit × Unit) × (List (Int)) × Unit) ⊕ (Nat × ((List (UInt8)) × Int × Int × Unit) × (Unit × Unit × Unit) × (List (Int)) × Unit)))))))
  (some (Sum.inr ((0 : Nat), ((y1.1.1, (y1.1.2.1, (y1.1.2.2.1, ()))), (((), ((), y1.2.1.2.2)), (y1.2.2.1, ())))) : ((((List (UInt8)) × Int × Int × Unit) × (Unit × Unit × Unit) × (List (Int)) × Unit)) ⊕ ((Nat × ((List (UInt8)) × Int × Int × Unit) × (Unit × Unit × Unit) × (List (Int)) × Unit))))

noncomputable def P_tar_Write (x : (List (((List (UInt8)) × Int × Int × Int × Int × Int × Int × (List (UInt8)) × Unit) × (List (UInt8)) × Unit)) × Unit) : Option ((List (UInt8)) × Int × Unit) :=
  sel (ltI (64 : Int) (@len (((List (UInt8)) × Int × Int × Int × Int × Int × Int × (List (UInt8)) × Unit) × (List (UInt8)) × Unit) x.1))
  (some (([] : List (UInt8)), ((5 : Int), ())))
  (obind (Loop (P_tar_Write_L0 x) ((([] : List (UInt8)), ((0 : Int), ((0 : Int), ()))), (((), ((), ())), (([] : List (Int)), ())))) (fun (y1 : Nat × ((List (UInt8)) × Int × Int × Unit) × (Unit × Unit × Unit) × (List (Int)) × Unit) => sel (eqN y1.1 (0 : Nat))
  (sel (ltI (7168 : Int) (@len Int y1.2.2.2.1))
  (some (([] : List (UInt8)), ((5 : Int), ())))
  (obind (P_tar_noughts ((1024 : Int), ())) (fun (y2 : (List (UInt8)) × Unit) => sel (fits (plus (@len UInt8 (intsBytes y1.2.2.2.1)) (@len UInt8 y2.1)))
  (some (@app UInt8 (intsBytes y1.2.2.2.1) y2.1, ((0 : Int), ())))
  (none : Option ((List (UInt8)) × Int × Unit)))))
  (some (y1.2.1.1, (y1.2.1.2.1, ())))))

noncomputable def P_ref13_Same_L0 (x : (List (((List (UInt8)) × Int × Int × Int × Int × Int × Int × (List (UInt8)) × Unit) × (List (UInt8)) × Unit)) × (List (((List (UInt8)) × Int × Int × Int × Int × Int × Int × (List (UInt8)) × Unit) × (List (UInt8)) × Unit)) × Unit) (y1 : (Bool × Int × Unit) × Unit) : Option (((Bool × Int × Unit) × Unit) ⊕ (Nat × (Bool × Int × Unit) × Unit)) :=
  sel (sel (ltI y1.1.2.1 (@len (((List (UInt8)) × Int × Int × Int × Int × Int × Int × (List (UInt8)) × Unit) × (List (UInt8)) × Unit) x.1))
  (ltI y1.1.2.1 (@len (((List (UInt8)) × Int × Int × Int × Int × Int × Int × (List (UInt8)) × Unit) × (List (UInt8)) × Unit) x.2.1))
  false)
  (obind (@idx (((List (UInt8)) × Int × Int × Int × Int × Int × Int × (List (UInt8)) × Unit) × (List (UInt8)) × Unit) x.1 y1.1.2.1) (fun (y2 : ((List (UInt8)) × Int × Int × Int × Int × Int × Int × (List (UInt8)) × Unit) × (List (UInt8)) × Unit) => obind (@idx (((List (UInt8)) × Int × Int × Int × Int × Int × Int × (List (UInt8)) × Unit) × (List (UInt8)) × Unit) x.2.1 y1.1.2.1) (fun (y3 : ((List (UInt8)) × Int × Int × Int × Int × Int × Int × (List (UInt8)) × Unit) × (List (UInt8)) × Unit) => sel (nt (an (an (eqS y2.1.1 y3.1.1) (an (eqI y2.1.2.1 y3.1.2.1) (an (eqI y2.1.2.2.1 y3.1.2.2.1) (an (eqI y2.1.2.2.2.1 y3.1.2.2.2.1) (an (eqI y2.1.2.2.2.2.1 y3.1.2.2.2.2.1) (an (eqI y2.1.2.2.2.2.2.1 y3.1.2.2.2.2.2.1) (an (eqI y2.1.2.2.2.2.2.2.1 y3.1.2.2.2.2.2.2.1) (an (eqS y2.1.2.2.2.2.2.2.2.1 y3.1.2.2.2.2.2.2.2.1) true)))))))) (an (eqS y2.2.1 y3.2.1) true)))
  (some (Sum.inr ((1 : Nat), ((false, (y1.1.2.1, ())), ())) : (((Bool × Int × Unit) × Unit)) ⊕ ((Nat × (Bool × Int × Unit) × Unit))))
  (some (Sum.inl ((y1.1.1, (iadd IntKind.i64 y1.1.2.1 (1 : Int), ())), ()) : (((Bool × Int × Unit) × Unit)) ⊕ ((Nat × (Bool × Int × Unit) × Unit)))))))
  (some (Sum.inr ((0 : Nat), ((y1.1.1, (y1.1.2.1, ())), ())) : (((Bool × Int × Unit) × Unit)) ⊕ ((Nat × (Bool × Int × Unit) × Unit))))

noncomputable def P_ref13_Same (x : (List (((List (UInt8)) × Int × Int × Int × Int × Int × Int × (List (UInt8)) × Unit) × (List (UInt8)) × Unit)) × (List (((List (UInt8)) × Int × Int × Int × Int × Int × Int × (List (UInt8)) × Unit) × (List (UInt8)) × Unit)) × Unit) : Option (Bool × Unit) :=
  sel (nt (eqI (@len (((List (UInt8)) × Int × Int × Int × Int × Int × Int × (List (UInt8)) × Unit) × (List (UInt8)) × Unit) x.1) (@len (((List (UInt8)) × Int × Int × Int × Int × Int × Int × (List (UInt8)) × Unit) × (List (UInt8)) × Unit) x.2.1)))
  (some (false, ()))
  (obind (Loop (P_ref13_Same_L0 x) ((false, ((0 : Int), ())), ())) (fun (y1 : Nat × (Bool × Int × Unit) × Unit) => sel (eqN y1.1 (0 : Nat))
  (some (true, ()))
  (some (y1.2.1.1, ()))))

noncomputable def P_ref13_whole_L0 (y1 : (Int × Unit) × Unit) : Option (((Int × Unit) × Unit) ⊕ ((Int × Unit) × Unit)) :=
  @way1 ((Int × Unit) × Unit) (sel (eqI (512 : Int) (0 : Int))
  (none : Option (((Int × Unit) × Unit) ⊕ (Nat × (Int × Unit) × Unit)))
  (sel (nt (eqI (irem y1.1.1 (512 : Int)) (0 : Int)))
  (some (Sum.inl ((iadd IntKind.i64 y1.1.1 (1 : Int), ()), ()) : (((Int × Unit) × Unit)) ⊕ ((Nat × (Int × Unit) × Unit))))
  (some (Sum.inr ((0 : Nat), ((y1.1.1, ()), ())) : (((Int × Unit) × Unit)) ⊕ ((Nat × (Int × Unit) × Unit))))))

noncomputable def P_ref13_whole (x : Int × Unit) : Option (Int × Unit) :=
  obind (Loop (P_ref13_whole_L0) ((x.1, ()), ())) (fun (y1 : (Int × Unit) × Unit) => some (y1.1.1, ()))

noncomputable def P_ref13_noughts (x : Int × Unit) : Option ((List (UInt8)) × Unit) :=
  sel (inside (0 : Int) x.1 x.1)
  (sel (fits x.1)
  (some (intsBytes (@lrep Int x.1 (0 : Int)), ()))
  (none : Option ((List (UInt8)) × Unit)))
  (none : Option ((List (UInt8)) × Unit))

noncomputable def P_ref13_Write_L0 (x : (List (((List (UInt8)) × Int × Int × Int × Int × Int × Int × (List (UInt8)) × Unit) × (List (UInt8)) × Unit)) × Unit) (y1 : ((List (UInt8)) × Int × Int × Unit) × Unit) : Option ((((List (UInt8)) × Int × Int × Unit) × Unit) ⊕ (Nat × ((List (UInt8)) × Int × Int × Unit) × Unit)) :=
  sel (ltI y1.1.2.2.1 (@len (((List (UInt8)) × Int × Int × Int × Int × Int × Int × (List (UInt8)) × Unit) × (List (UInt8)) × Unit) x.1))
  (obind (@idx (((List (UInt8)) × Int × Int × Int × Int × Int × Int × (List (UInt8)) × Unit) × (List (UInt8)) × Unit) x.1 y1.1.2.2.1) (fun (y2 : ((List (UInt8)) × Int × Int × Int × Int × Int × Int × (List (UInt8)) × Unit) × (List (UInt8)) × Unit) => obind (P_ref12_Put (y2.1, ())) (fun (y3 : (List (UInt8)) × Int × Unit) => sel (nt (eqI y3.2.1 (0 : Int)))
  (some (Sum.inr ((1 : Nat), ((([] : List (UInt8)), ((1 : Int), (y1.1.2.2.1, ()))), ())) : ((((List (UInt8)) × Int × Int × Unit) × Unit)) ⊕ ((Nat × ((List (UInt8)) × Int × Int × Unit) × Unit))))
  (obind (@idx (((List (UInt8)) × Int × Int × Int × Int × Int × Int × (List (UInt8)) × Unit) × (List (UInt8)) × Unit) x.1 y1.1.2.2.1) (fun (y4 : ((List (UInt8)) × Int × Int × Int × Int × Int × Int × (List (UInt8)) × Unit) × (List (UInt8)) × Unit) => obind (@idx (((List (UInt8)) × Int × Int × Int × Int × Int × Int × (List (UInt8)) × Unit) × (List (UInt8)) × Unit) x.1 y1.1.2.2.1) (fun (y5 : ((List (UInt8)) × Int × Int × Int × Int × Int × Int × (List (UInt8)) × Unit) × (List (UInt8)) × Unit) => sel (nt (eqI y4.1.2.2.2.2.2.1 (@len UInt8 y5.2.1)))
  (some (Sum.inr ((1 : Nat), ((([] : List (UInt8)), ((1 : Int), (y1.1.2.2.1, ()))), ())) : ((((List (UInt8)) × Int × Int × Unit) × Unit)) ⊕ ((Nat × ((List (UInt8)) × Int × Int × Unit) × Unit))))
  (some (Sum.inl ((y1.1.1, (y1.1.2.1, (iadd IntKind.i64 y1.1.2.2.1 (1 : Int), ()))), ()) : ((((List (UInt8)) × Int × Int × Unit) × Unit)) ⊕ ((Nat × ((List (UInt8)) × Int × Int × Unit) × Unit))))))))))
  (some (Sum.inr ((0 : Nat), ((y1.1.1, (y1.1.2.1, (y1.1.2.2.1, ()))), ())) : ((((List (UInt8)) × Int × Int × Unit) × Unit)) ⊕ ((Nat × ((List (UInt8)) × Int × Int × Unit) × Unit))))

noncomputable def P_ref13_Write_L1 (x : (List (((List (UInt8)) × Int × Int × Int × Int × Int × Int × (List (UInt8)) × Unit) × (List (UInt8)) × Unit)) × Unit) (y2 : ((List (UInt8)) × Int × Int × Int × Unit) × Unit) : Option ((((List (UInt8)) × Int × Int × Int × Unit) × Unit) ⊕ (Nat × ((List (UInt8)) × Int × Int × Int × Unit) × Unit)) :=
  sel (ltI y2.1.2.2.2.1 (@len (((List (UInt8)) × Int × Int × Int × Int × Int × Int × (List (UInt8)) × Unit) × (List (UInt8)) × Unit) x.1))
  (obind (@idx (((List (UInt8)) × Int × Int × Int × Int × Int × Int × (List (UInt8)) × Unit) × (List (UInt8)) × Unit) x.1 y2.1.2.2.2.1) (fun (y3 : ((List (UInt8)) × Int × Int × Int × Int × Int × Int × (List (UInt8)) × Unit) × (List (UInt8)) × Unit) => sel (ltI (8192 : Int) (@len UInt8 y3.2.1))
  (some (Sum.inr ((1 : Nat), ((([] : List (UInt8)), ((5 : Int), (y2.1.2.2.1, (y2.1.2.2.2.1, ())))), ())) : ((((List (UInt8)) × Int × Int × Int × Unit) × Unit)) ⊕ ((Nat × ((List (UInt8)) × Int × Int × Int × Unit) × Unit))))
  (obind (@idx (((List (UInt8)) × Int × Int × Int × Int × Int × Int × (List (UInt8)) × Unit) × (List (UInt8)) × Unit) x.1 y2.1.2.2.2.1) (fun (y4 : ((List (UInt8)) × Int × Int × Int × Int × Int × Int × (List (UInt8)) × Unit) × (List (UInt8)) × Unit) => obind (P_ref13_whole (@len UInt8 y4.2.1, ())) (fun (y5 : Int × Unit) => some (Sum.inl ((y2.1.1, (y2.1.2.1, (iadd IntKind.i64 (iadd IntKind.i64 y2.1.2.2.1 (512 : Int)) y5.1, (iadd IntKind.i64 y2.1.2.2.2.1 (1 : Int), ())))), ()) : ((((List (UInt8)) × Int × Int × Int × Unit) × Unit)) ⊕ ((Nat × ((List (UInt8)) × Int × Int × Int × Unit) × Unit))))))))
  (some (Sum.inr ((0 : Nat), ((y2.1.1, (y2.1.2.1, (y2.1.2.2.1, (y2.1.2.2.2.1, ())))), ())) : ((((List (UInt8)) × Int × Int × Int × Unit) × Unit)) ⊕ ((Nat × ((List (UInt8)) × Int × Int × Int × Unit) × Unit))))

noncomputable def P_ref13_Write_L2 (x : (List (((List (UInt8)) × Int × Int × Int × Int × Int × Int × (List (UInt8)) × Unit) × (List (UInt8)) × Unit)) × Unit) (y3 : ((List (UInt8)) × Int × Unit) × Unit) : Option ((((List (UInt8)) × Int × Unit) × Unit) ⊕ (((List (UInt8)) × Int × Unit) × Unit)) :=
  @way1 (((List (UInt8)) × Int × Unit) × Unit) (sel (ltI y3.1.2.1 (@len (((List (UInt8)) × Int × Int × Int × Int × Int × Int × (List (UInt8)) × Unit) × (List (UInt8)) × Unit) x.1))
  (obind (@idx (((List (UInt8)) × Int × Int × Int × Int × Int × Int × (List (UInt8)) × Unit) × (List (UInt8)) × Unit) x.1 y3.1.2.1) (fun (y4 : ((List (UInt8)) × Int × Int × Int × Int × Int × Int × (List (UInt8)) × Unit) × (List (UInt8)) × Unit) => obind (P_ref12_Put (y4.1, ())) (fun (y5 : (List (UInt8)) × Int × Unit) => sel (fits (plus (@len UInt8 y3.1.1) (@len UInt8 y5.1)))
  (obind (@idx (((List (UInt8)) × Int × Int × Int × Int × Int × Int × (List (UInt8)) × Unit) × (List (UInt8)) × Unit) x.1 y3.1.2.1) (fun (y6 : ((List (UInt8)) × Int × Int × Int × Int × Int × Int × (List (UInt8)) × Unit) × (List (UInt8)) × Unit) => sel (fits (plus (@len UInt8 (@app UInt8 y3.1.1 y5.1)) (@len UInt8 y6.2.1)))
  (obind (@idx (((List (UInt8)) × Int × Int × Int × Int × Int × Int × (List (UInt8)) × Unit) × (List (UInt8)) × Unit) x.1 y3.1.2.1) (fun (y7 : ((List (UInt8)) × Int × Int × Int × Int × Int × Int × (List (UInt8)) × Unit) × (List (UInt8)) × Unit) => obind (P_ref13_whole (@len UInt8 y7.2.1, ())) (fun (y8 : Int × Unit) => obind (@idx (((List (UInt8)) × Int × Int × Int × Int × Int × Int × (List (UInt8)) × Unit) × (List (UInt8)) × Unit) x.1 y3.1.2.1) (fun (y9 : ((List (UInt8)) × Int × Int × Int × Int × Int × Int × (List (UInt8)) × Unit) × (List (UInt8)) × Unit) => obind (P_ref13_noughts (isub IntKind.i64 y8.1 (@len UInt8 y9.2.1), ())) (fun (y10 : (List (UInt8)) × Unit) => sel (fits (plus (@len UInt8 (@app UInt8 (@app UInt8 y3.1.1 y5.1) y6.2.1)) (@len UInt8 y10.1)))
  (some (Sum.inl ((@app UInt8 (@app UInt8 (@app UInt8 y3.1.1 y5.1) y6.2.1) y10.1, (iadd IntKind.i64 y3.1.2.1 (1 : Int), ())), ()) : ((((List (UInt8)) × Int × Unit) × Unit)) ⊕ ((Nat × ((List (UInt8)) × Int × Unit) × Unit))))
  (none : Option ((((List (UInt8)) × Int × Unit) × Unit) ⊕ (Nat × ((List (UInt8)) × Int × Unit) × Unit))))))))
  (none : Option ((((List (UInt8)) × Int × Unit) × Unit) ⊕ (Nat × ((List (UInt8)) × Int × Unit) × Unit)))))
  (none : Option ((((List (UInt8)) × Int × Unit) × Unit) ⊕ (Nat × ((List (UInt8)) × Int × Unit) × Unit))))))
  (some (Sum.inr ((0 : Nat), ((y3.1.1, (y3.1.2.1, ())), ())) : ((((List (UInt8)) × Int × Unit) × Unit)) ⊕ ((Nat × ((List (UInt8)) × Int × Unit) × Unit)))))

noncomputable def P_ref13_Write (x : (List (((List (UInt8)) × Int × Int × Int × Int × Int × Int × (List (UInt8)) × Unit) × (List (UInt8)) × Unit)) × Unit) : Option ((List (UInt8)) × Int × Unit) :=
  sel (ltI (64 : Int) (@len (((List (UInt8)) × Int × Int × Int × Int × Int × Int × (List (UInt8)) × Unit) × (List (UInt8)) × Unit) x.1))
  (some (([] : List (UInt8)), ((5 : Int), ())))
  (obind (Loop (P_ref13_Write_L0 x) ((([] : List (UInt8)), ((0 : Int), ((0 : Int), ()))), ())) (fun (y1 : Nat × ((List (UInt8)) × Int × Int × Unit) × Unit) => sel (eqN y1.1 (0 : Nat))
  (obind (Loop (P_ref13_Write_L1 x) ((y1.2.1.1, (y1.2.1.2.1, ((1024 : Int), ((0 : Int), ())))), ())) (fun (y2 : Nat × ((List (UInt8)) × Int × Int × Int × Unit) × Unit) => sel (eqN y2.1 (0 : Nat))
  (sel (ltI (8192 : Int) y2.2.1.2.2.1)
  (some (([] : List (UInt8)), ((5 : Int), ())))
  (obind (Loop (P_ref13_Write_L2 x) ((([] : List (UInt8)), ((0 : Int), ())), ())) (fun (y3 : ((List (UInt8)) × Int × Unit) × Unit) => obind (P_ref13_noughts ((1024 : Int), ())) (fun (y4 : (List (UInt8)) × Unit) => sel (fits (plus (@len UInt8 y3.1.1) (@len UInt8 y4.1)))
  (some (@app UInt8 y3.1.1 y4.1, ((0 : Int), ())))
  (none : Option ((List (UInt8)) × Int × Unit))))))
  (some (y2.2.1.1, (y2.2.1.2.1, ())))))
  (some (y1.2.1.1, (y1.2.1.2.1, ())))))

end Go.Ge

/- What the functions of layer 07 compute, as plain programs (written by a program from what the ghost interpreter comes to). -/
namespace Go.Ge
set_option linter.unusedVariables false
set_option maxRecDepth 100000

noncomputable def P_paths_Parts (x : (List (UInt8)) × Unit) : Option ((List (List (UInt8))) × Unit) :=
  sel (eqS x.1 ([] : List (UInt8)))
  (some (([] : List (List (UInt8))), ()))
  (obind (P_strings_Split (x.1, (([(47 : UInt8)] : List (UInt8)), ()))) (fun (y1 : (List (List (UInt8))) × Unit) => some (y1.1, ())))

noncomputable def P_paths_isName_L0 (x : (List (UInt8)) × Unit) (y1 : (Bool × Int × Unit) × Unit) : Option (((Bool × Int × Unit) × Unit) ⊕ (Nat × (Bool × Int × Unit) × Unit)) :=
  sel (ltI y1.1.2.1 (2 : Int))
  (obind (@idx (List (UInt8)) ([([(46 : UInt8)] : List (UInt8)), ([(46 : UInt8), (46 : UInt8)] : List (UInt8))] : List (List (UInt8))) y1.1.2.1) (fun (y2 : List (UInt8)) => sel (eqS x.1 y2)
  (some (Sum.inr ((1 : Nat), ((false, (y1.1.2.1, ())), ())) : (((Bool × Int × Unit) × Unit)) ⊕ ((Nat × (Bool × Int × Unit) × Unit))))
  (some (Sum.inl ((y1.1.1, (iadd IntKind.i64 y1.1.2.1 (1 : Int), ())), ()) : (((Bool × Int × Unit) × Unit)) ⊕ ((Nat × (Bool × Int × Unit) × Unit))))))
  (some (Sum.inr ((0 : Nat), ((y1.1.1, (y1.1.2.1, ())), ())) : (((Bool × Int × Unit) × Unit)) ⊕ ((Nat × (Bool × Int × Unit) × Unit))))

noncomputable def P_paths_isName (x : (List (UInt8)) × Unit) : Option (Bool × Unit) :=
  obind (Loop (P_paths_isName_L0 x) ((false, ((0 : Int), ())), ())) (fun (y1 : Nat × (Bool × Int × Unit) × Unit) => sel (eqN y1.1 (0 : Nat))
  (obind (sel (sel (leI (1 : Int) (@len UInt8 x.1))
  (leI (@len UInt8 x.1) (32 : Int))
  false)
  (obind (P_strings_IndexByte (x.1, ((0 : Int), ()))) (fun (y2 : Int × Unit) => some (ltI y2.1 (0 : Int))))
  (some false)) (fun (y2 : Bool) => some (y2, ())))
  (some (y1.2.1.1, ())))

noncomputable def P_strings_HasPrefix (x : (List (UInt8)) × (List (UInt8)) × Unit) : Option (Bool × Unit) :=
  obind (P_internal_stringslite_HasPrefix (x.1, (x.2.1, ()))) (fun (y1 : Bool × Unit) => some (y1.1, ()))

noncomputable def P_paths_Clean_L0 (y1 : (List (List (UInt8))) × Unit) (y2 : ((List (UInt8)) × Int × Unit × Int × Unit) × (List (List (UInt8))) × Unit) : Option ((((List (UInt8)) × Int × Unit × Int × Unit) × (List (List (UInt8))) × Unit) ⊕ (Nat × ((List (UInt8)) × Int × Unit × Int × Unit) × (List (List (UInt8))) × Unit)) :=
  sel (ltI y2.1.2.2.2.1 (@len (List (UInt8)) y1.1))
  (obind (@idx (List (UInt8)) y1.1 y2.1.2.2.2.1) (fun (y3 : List (UInt8)) => obind (sel (sel (nt (eqS y3 ([] : List (UInt8))))
  (eqS y3 ([(46 : UInt8)] : List (UInt8)))
  true)
  (some ((0 : Nat), ((y2.1.1, (y2.1.2.1, ((), ()))), (y2.2.1, ()))))
  (obind (P_paths_isName (y3, ())) (fun (y4 : Bool × Unit) => sel (nt y4.1)
  (some ((1 : Nat), ((([] : List (UInt8)), ((2 : Int), ((), ()))), (y2.2.1, ()))))
  (sel (fits (plus (@len (List (UInt8)) y2.2.1) (@len (List (UInt8)) ([y3] : List (List (UInt8))))))
  (some ((0 : Nat), ((y2.1.1, (y2.1.2.1, ((), ()))), (@app (List (UInt8)) y2.2.1 ([y3] : List (List (UInt8))), ()))))
  (none : Option (Nat × ((List (UInt8)) × Int × Unit × Unit) × (List (List (UInt8))) × Unit)))))) (fun (y4 : Nat × ((List (UInt8)) × Int × Unit × Unit) × (List (List (UInt8))) × Unit) => sel (eqN y4.1 (0 : Nat))
  (some (Sum.inl ((y4.2.1.1, (y4.2.1.2.1, ((), (iadd IntKind.i64 y2.1.2.2.2.1 (1 : Int), ())))), (y4.2.2.1, ())) : ((((List (UInt8)) × Int × Unit × Int × Unit) × (List (List (UInt8))) × Unit)) ⊕ ((Nat × ((List (UInt8)) × Int × Unit × Int × Unit) × (List (List (UInt8))) × Unit))))
  (some (Sum.inr ((1 : Nat), ((y4.2.1.1, (y4.2.1.2.1, ((), (y2.1.2.2.2.1, ())))), (y4.2.2.1, ()))) : ((((List (UInt8)) × Int × Unit × Int × Unit) × (List (List (UInt8))) × Unit)) ⊕ ((Nat × ((List (UInt8)) × Int × Unit × Int × Unit) × (List (List (UInt8))) × Unit)))))))
  (some (Sum.inr ((0 : Nat), ((y2.1.1, (y2.1.2.1, ((), (y2.1.2.2.2.1, ())))), (y2.2.1, ()))) : ((((List (UInt8)) × Int × Unit × Int × Unit) × (List (List (UInt8))) × Unit)) ⊕ ((Nat × ((List (UInt8)) × Int × Unit × Int × Unit) × (List (List (UInt8))) × Unit))))

noncomputable def P_paths_Clean (x : (List (UInt8)) × Unit) : Option ((List (UInt8)) × Int × Unit) :=
  obind (P_paths_Parts (x.1, ())) (fun (y1 : (List (List (UInt8))) × Unit) => obind (Loop (P_paths_Clean_L0 y1) ((([] : List (UInt8)), ((0 : Int), ((), ((0 : Int), ())))), (([] : List (List (UInt8))), ()))) (fun (y2 : Nat × ((List (UInt8)) × Int × Unit × Int × Unit) × (List (List (UInt8))) × Unit) => sel (eqN y2.1 (0 : Nat))
  (obind (P_strings_Join (y2.2.2.1, (([(47 : UInt8)] : List (UInt8)), ()))) (fun (y3 : (List (UInt8)) × Unit) => obind (P_strings_HasPrefix (x.1, (([(47 : UInt8)] : List (UInt8)), ()))) (fun (y4 : Bool × Unit) => sel (sel (nt (sel (nt y4.1)
  (ltI (8 : Int) (@len (List (UInt8)) y2.2.2.1))
  true))
  (ltI (96 : Int) (@len UInt8 y3.1))
  true)
  (some (([] : List (UInt8)), ((2 : Int), ())))
  (some (y3.1, ((0 : Int), ()))))))
  (some (y2.2.1.1, (y2.2.1.2.1, ())))))

noncomputable def P_slices_Index_string_string_L0 (x : (List (List (UInt8))) × (List (UInt8)) × Unit) (y1 : (Int × Int × Unit) × Unit) : Option (((Int × Int × Unit) × Unit) ⊕ (Nat × (Int × Int × Unit) × Unit)) :=
  sel (ltI y1.1.2.1 (@len (List (UInt8)) x.1))
  (obind (@idx (List (UInt8)) x.1 y1.1.2.1) (fun (y2 : List (UInt8)) => sel (eqS x.2.1 y2)
  (some (Sum.inr ((1 : Nat), ((y1.1.2.1, (y1.1.2.1, ())), ())) : (((Int × Int × Unit) × Unit)) ⊕ ((Nat × (Int × Int × Unit) × Unit))))
  (some (Sum.inl ((y1.1.1, (iadd IntKind.i64 y1.1.2.1 (1 : Int), ())), ()) : (((Int × Int × Unit) × Unit)) ⊕ ((Nat × (Int × Int × Unit) × Unit))))))
  (some (Sum.inr ((0 : Nat), ((y1.1.1, (y1.1.2.1, ())), ())) : (((Int × Int × Unit) × Unit)) ⊕ ((Nat × (Int × Int × Unit) × Unit))))

noncomputable def P_slices_Index_string_string (x : (List (List (UInt8))) × (List (UInt8)) × Unit) : Option (Int × Unit) :=
  obind (Loop (P_slices_Index_string_string_L0 x) (((0 : Int), ((0 : Int), ())), ())) (fun (y1 : Nat × (Int × Int × Unit) × Unit) => sel (eqN y1.1 (0 : Nat))
  (some ((-1 : Int), ()))
  (some (y1.2.1.1, ())))

noncomputable def P_slices_Contains_string_string (x : (List (List (UInt8))) × (List (UInt8)) × Unit) : Option (Bool × Unit) :=
  obind (P_slices_Index_string_string (x.1, (x.2.1, ()))) (fun (y1 : Int × Unit) => some (leI (0 : Int) y1.1, ()))

noncomputable def P_paths_Mark (x : (List (UInt8)) × Unit) : Option (Int × (List (UInt8)) × Unit) :=
  obind (P_strings_CutPrefix (x.1, (([(46 : UInt8), (119 : UInt8), (104 : UInt8), (46 : UInt8)] : List (UInt8)), ()))) (fun (y1 : (List (UInt8)) × Bool × Unit) => sel (nt y1.2.1)
  (some ((0 : Int), (x.1, ())))
  (sel (eqS x.1 ([(46 : UInt8), (119 : UInt8), (104 : UInt8), (46 : UInt8), (46 : UInt8), (119 : UInt8), (104 : UInt8), (46 : UInt8), (46 : UInt8), (111 : UInt8), (112 : UInt8), (113 : UInt8)] : List (UInt8)))
  (some ((2 : Int), (([] : List (UInt8)), ())))
  (obind (P_strings_HasPrefix (y1.1, (([(46 : UInt8), (119 : UInt8), (104 : UInt8), (46 : UInt8)] : List (UInt8)), ()))) (fun (y2 : Bool × Unit) => obind (sel (nt y2.1)
  (obind (P_slices_Contains_string_string (([([] : List (UInt8)), ([(46 : UInt8)] : List (UInt8)), ([(46 : UInt8), (46 : UInt8)] : List (UInt8))] : List (List (UInt8))), (y1.1, ()))) (fun (y3 : Bool × Unit) => some y3.1))
  (some true)) (fun (y3 : Bool) => sel y3
  (some ((3 : Int), (([] : List (UInt8)), ())))
  (some ((1 : Int), (y1.1, ()))))))))

noncomputable def P_internal_bytealg_LastIndexByteString_L0 (x : (List (UInt8)) × Int × Unit) (y1 : (Int × Int × Unit) × Unit) : Option (((Int × Int × Unit) × Unit) ⊕ (Nat × (Int × Int × Unit) × Unit)) :=
  sel (leI (0 : Int) y1.1.2.1)
  (obind (@idx UInt8 x.1 y1.1.2.1) (fun (y2 : UInt8) => sel (eqI (u8 y2) x.2.1)
  (some (Sum.inr ((1 : Nat), ((y1.1.2.1, (y1.1.2.1, ())), ())) : (((Int × Int × Unit) × Unit)) ⊕ ((Nat × (Int × Int × Unit) × Unit))))
  (some (Sum.inl ((y1.1.1, (isub IntKind.i64 y1.1.2.1 (1 : Int), ())), ()) : (((Int × Int × Unit) × Unit)) ⊕ ((Nat × (Int × Int × Unit) × Unit))))))
  (some (Sum.inr ((0 : Nat), ((y1.1.1, (y1.1.2.1, ())), ())) : (((Int × Int × Unit) × Unit)) ⊕ ((Nat × (Int × Int × Unit) × Unit))))

noncomputable def P_internal_bytealg_LastIndexByteString (x : (List (UInt8)) × Int × Unit) : Option (Int × Unit) :=
  obind (Loop (P_internal_bytealg_LastIndexByteString_L0 x) (((0 : Int), (isub IntKind.i64 (@len UInt8 x.1) (1 : Int), ())), ())) (fun (y1 : Nat × (Int × Int × Unit) × Unit) => sel (eqN y1.1 (0 : Nat))
  (some ((-1 : Int), ()))
  (some (y1.2.1.1, ())))

noncomputable def P_internal_bytealg_hashStrRev_string_L0 (x : (List (UInt8)) × Unit) (y1 : (Int × Int × Unit) × Unit) : Option (((Int × Int × Unit) × Unit) ⊕ ((Int × Int × Unit) × Unit)) :=
  @way1 ((Int × Int × Unit) × Unit) (sel (leI (0 : Int) y1.1.2.1)
  (obind (@idx UInt8 x.1 y1.1.2.1) (fun (y2 : UInt8) => some (Sum.inl ((iadd IntKind.u32 (imul IntKind.u32 y1.1.1 (16777619 : Int)) (icv IntKind.u32 (u8 y2)), (isub IntKind.i64 y1.1.2.1 (1 : Int), ())), ()) : (((Int × Int × Unit) × Unit)) ⊕ ((Nat × (Int × Int × Unit) × Unit)))))
  (some (Sum.inr ((0 : Nat), ((y1.1.1, (y1.1.2.1, ())), ())) : (((Int × Int × Unit) × Unit)) ⊕ ((Nat × (Int × Int × Unit) × Unit)))))

noncomputable def P_internal_bytealg_hashStrRev_string_L1 (y2 : (Int × Int × Int × Unit) × Unit) : Option (((Int × Int × Int × Unit) × Unit) ⊕ ((Int × Int × Int × Unit) × Unit)) :=
  @way1 ((Int × Int × Int × Unit) × Unit) (sel (ltI (0 : Int) y2.1.2.2.1)
  (sel (ltI (1 : Int) (0 : Int))
  (none : Option (((Int × Int × Int × Unit) × Unit) ⊕ (Nat × (Int × Int × Int × Unit) × Unit)))
  (some (Sum.inl ((((sel (nt (eqI (iand IntKind.i64 y2.1.2.2.1 (1 : Int)) (0 : Int)))
  ((imul IntKind.u32 y2.1.1 y2.1.2.1, ()), ())
  ((y2.1.1, ()), ())).1).1, (imul IntKind.u32 y2.1.2.1 y2.1.2.1, (ishr IntKind.i64 y2.1.2.2.1 (1 : Int), ()))), ()) : (((Int × Int × Int × Unit) × Unit)) ⊕ ((Nat × (Int × Int × Int × Unit) × Unit)))))
  (some (Sum.inr ((0 : Nat), ((y2.1.1, (y2.1.2.1, (y2.1.2.2.1, ()))), ())) : (((Int × Int × Int × Unit) × Unit)) ⊕ ((Nat × (Int × Int × Int × Unit) × Unit)))))

noncomputable def P_internal_bytealg_hashStrRev_string (x : (List (UInt8)) × Unit) : Option (Int × Int × Unit) :=
  obind (Loop (P_internal_bytealg_hashStrRev_string_L0 x) (((0 : Int), (isub IntKind.i64 (@len UInt8 x.1) (1 : Int), ())), ())) (fun (y1 : (Int × Int × Unit) × Unit) => obind (Loop (P_internal_bytealg_hashStrRev_string_L1) (((1 : Int), ((16777619 : Int), (@len UInt8 x.1, ()))), ())) (fun (y2 : (Int × Int × Int × Unit) × Unit) => some (y1.1.1, (y2.1.1, ()))))

noncomputable def P_internal_bytealg_LastIndexRabinKarp_string_L0 (x : (List (UInt8)) × (List (UInt8)) × Unit) (y2 : (Int × Int × Unit) × Unit) : Option (((Int × Int × Unit) × Unit) ⊕ ((Int × Int × Unit) × Unit)) :=
  @way1 ((Int × Int × Unit) × Unit) (sel (leI (isub IntKind.i64 (@len UInt8 x.1) (@len UInt8 x.2.1)) y2.1.2.1)
  (obind (@idx UInt8 x.1 y2.1.2.1) (fun (y3 : UInt8) => some (Sum.inl ((iadd IntKind.u32 (imul IntKind.u32 y2.1.1 (16777619 : Int)) (icv IntKind.u32 (u8 y3)), (isub IntKind.i64 y2.1.2.1 (1 : Int), ())), ()) : (((Int × Int × Unit) × Unit)) ⊕ ((Nat × (Int × Int × Unit) × Unit)))))
  (some (Sum.inr ((0 : Nat), ((y2.1.1, (y2.1.2.1, ())), ())) : (((Int × Int × Unit) × Unit)) ⊕ ((Nat × (Int × Int × Unit) × Unit)))))

noncomputable def P_internal_bytealg_LastIndexRabinKarp_string_L1 (x : (List (UInt8)) × (List (UInt8)) × Unit) (y1 : Int × Int × Unit) (y4 : (Int × Int × Int × Unit) × Unit) : Option (((Int × Int × Int × Unit) × Unit) ⊕ (Nat × (Int × Int × Int × Unit) × Unit)) :=
  sel (leI (0 : Int) y4.1.2.2.1)
  (obind (@idx UInt8 x.1 y4.1.2.2.1) (fun (y5 : UInt8) => obind (@idx UInt8 x.1 (iadd IntKind.i64 y4.1.2.2.1 (@len UInt8 x.2.1))) (fun (y6 : UInt8) => obind (sel (eqI (isub IntKind.u32 (iadd IntKind.u32 (imul IntKind.u32 y4.1.2.1 (16777619 : Int)) (icv IntKind.u32 (u8 y5))) (imul IntKind.u32 y1.2.1 (icv IntKind.u32 (u8 y6)))) y1.1)
  (sel (inside y4.1.2.2.1 (iadd IntKind.i64 y4.1.2.2.1 (@len UInt8 x.2.1)) (@len UInt8 x.1))
  (some (eqS (@sub UInt8 x.1 y4.1.2.2.1 (minus (iadd IntKind.i64 y4.1.2.2.1 (@len UInt8 x.2.1)) y4.1.2.2.1)) x.2.1))
  (none : Option (Bool)))
  (some false)) (fun (y7 : Bool) => sel y7
  (some (Sum.inr ((1 : Nat), ((y4.1.2.2.1, (isub IntKind.u32 (iadd IntKind.u32 (imul IntKind.u32 y4.1.2.1 (16777619 : Int)) (icv IntKind.u32 (u8 y5))) (imul IntKind.u32 y1.2.1 (icv IntKind.u32 (u8 y6))), (y4.1.2.2.1, ()))), ())) : (((Int × Int × Int × Unit) × Unit)) ⊕ ((Nat × (Int × Int × Int × Unit) × Unit))))
  (some (Sum.inl ((y4.1.1, (isub IntKind.u32 (iadd IntKind.u32 (imul IntKind.u32 y4.1.2.1 (16777619 : Int)) (icv IntKind.u32 (u8 y5))) (imul IntKind.u32 y1.2.1 (icv IntKind.u32 (u8 y6))), (isub IntKind.i64 y4.1.2.2.1 (1 : Int), ()))), ()) : (((Int × Int × Int × Unit) × Unit)) ⊕ ((Nat × (Int × Int × Int × Unit) × Unit))))))))
  (some (Sum.inr ((0 : Nat), ((y4.1.1, (y4.1.2.1, (y4.1.2.2.1, ()))), ())) : (((Int × Int × Int × Unit) × Unit)) ⊕ ((Nat × (Int × Int × Int × Unit) × Unit))))

noncomputable def P_internal_bytealg_LastIndexRabinKarp_string (x : (List (UInt8)) × (List (UInt8)) × Unit) : Option (Int × Unit) :=
  obind (P_internal_bytealg_hashStrRev_string (x.2.1, ())) (fun (y1 : Int × Int × Unit) => obind (Loop (P_internal_bytealg_LastIndexRabinKarp_string_L0 x) (((0 : Int), (isub IntKind.i64 (@len UInt8 x.1) (1 : Int), ())), ())) (fun (y2 : (Int × Int × Unit) × Unit) => obind (sel (eqI y2.1.1 y1.1)
  (sel (inside (isub IntKind.i64 (@len UInt8 x.1) (@len UInt8 x.2.1)) (@len UInt8 x.1) (@len UInt8 x.1))
  (some (eqS (@sub UInt8 x.1 (isub IntKind.i64 (@len UInt8 x.1) (@len UInt8 x.2.1)) (minus (@len UInt8 x.1) (isub IntKind.i64 (@len UInt8 x.1) (@len UInt8 x.2.1)))) x.2.1))
  (none : Option (Bool)))
  (some false)) (fun (y3 : Bool) => sel y3
  (some (isub IntKind.i64 (@len UInt8 x.1) (@len UInt8 x.2.1), ()))
  (obind (Loop (P_internal_bytealg_LastIndexRabinKarp_string_L1 x y1) (((0 : Int), (y2.1.1, (isub IntKind.i64 (isub IntKind.i64 (@len UInt8 x.1) (@len UInt8 x.2.1)) (1 : Int), ()))), ())) (fun (y4 : Nat × (Int × Int × Int × Unit) × Unit) => sel (eqN y4.1 (0 : Nat))
  (some ((-1 : Int), ()))
  (some (y4.2.1.1, ())))))))

noncomputable def P_strings_LastIndex (x : (List (UInt8)) × (List (UInt8)) × Unit) : Option (Int × Unit) :=
  sel (eqI (@len UInt8 x.2.1) (0 : Int))
  (some (@len UInt8 x.1, ()))
  (sel (eqI (@len UInt8 x.2.1) (1 : Int))
  (obind (@idx UInt8 x.2.1 (0 : Int)) (fun (y1 : UInt8) => obind (P_internal_bytealg_LastIndexByteString (x.1, (u8 y1, ()))) (fun (y2 : Int × Unit) => some (y2.1, ()))))
  (sel (eqI (@len UInt8 x.2.1) (@len UInt8 x.1))
  (sel (eqS x.2.1 x.1)
  (some ((0 : Int), ()))
  (some ((-1 : Int), ())))
  (sel (ltI (@len UInt8 x.1) (@len UInt8 x.2.1))
  (some ((-1 : Int), ()))
  (obind (P_internal_bytealg_LastIndexRabinKarp_string (x.1, (x.2.1, ()))) (fun (y1 : Int × Unit) => some (y1.1, ()))))))

noncomputable def P_paths_Split (x : (List (UInt8)) × Unit) : Option ((List (UInt8)) × (List (UInt8)) × Unit) :=
  obind (P_strings_LastIndex (x.1, (([(47 : UInt8)] : List (UInt8)), ()))) (fun (y1 : Int × Unit) => sel (ltI y1.1 (0 : Int))
  (some (([] : List (UInt8)), (x.1, ())))
  (sel (inside (0 : Int) y1.1 (@len UInt8 x.1))
  (sel (inside (iadd IntKind.i64 y1.1 (1 : Int)) (@len UInt8 x.1) (@len UInt8 x.1))
  (some (@sub UInt8 x.1 (0 : Int) (minus y1.1 (0 : Int)), (@sub UInt8 x.1 (iadd IntKind.i64 y1.1 (1 : Int)) (minus (@len UInt8 x.1) (iadd IntKind.i64 y1.1 (1 : Int))), ())))
  (none : Option ((List (UInt8)) × (List (UInt8)) × Unit)))
  (none : Option ((List (UInt8)) × (List (UInt8)) × Unit))))

noncomputable def P_cmp_isNaN_string (x : (List (UInt8)) × Unit) : Option (Bool × Unit) :=
  some (nt (eqS x.1 x.1), ())

noncomputable def P_cmp_Compare_string (x : (List (UInt8)) × (List (UInt8)) × Unit) : Option (Int × Unit) :=
  obind (P_cmp_isNaN_string (x.1, ())) (fun (y1 : Bool × Unit) => obind (P_cmp_isNaN_string (x.2.1, ())) (fun (y2 : Bool × Unit) => sel y1.1
  (sel y2.1
  (some ((0 : Int), ()))
  (some ((-1 : Int), ())))
  (sel y2.1
  (some ((1 : Int), ()))
  (sel (ltS x.1 x.2.1)
  (some ((-1 : Int), ()))
  (sel (nt (oor (ltS x.1 x.2.1) (eqS x.1 x.2.1)))
  (some ((1 : Int), ()))
  (some ((0 : Int), ())))))))

noncomputable def P_paths_Compare_L0 (y1 : (List (List (UInt8))) × Unit) (y2 : (List (List (UInt8))) × Unit) (y3 : (Int × Int × Unit) × Unit) : Option (((Int × Int × Unit) × Unit) ⊕ (Nat × (Int × Int × Unit) × Unit)) :=
  sel (ltI y3.1.2.1 (@len (List (UInt8)) y1.1))
  (obind (@idx (List (UInt8)) y1.1 y3.1.2.1) (fun (y4 : List (UInt8)) => sel (leI (@len (List (UInt8)) y2.1) y3.1.2.1)
  (some (Sum.inr ((1 : Nat), (((1 : Int), (y3.1.2.1, ())), ())) : (((Int × Int × Unit) × Unit)) ⊕ ((Nat × (Int × Int × Unit) × Unit))))
  (obind (@idx (List (UInt8)) y2.1 y3.1.2.1) (fun (y5 : List (UInt8)) => obind (P_cmp_Compare_string (y4, (y5, ()))) (fun (y6 : Int × Unit) => sel (nt (eqI y6.1 (0 : Int)))
  (some (Sum.inr ((1 : Nat), ((y6.1, (y3.1.2.1, ())), ())) : (((Int × Int × Unit) × Unit)) ⊕ ((Nat × (Int × Int × Unit) × Unit))))
  (some (Sum.inl ((y3.1.1, (iadd IntKind.i64 y3.1.2.1 (1 : Int), ())), ()) : (((Int × Int × Unit) × Unit)) ⊕ ((Nat × (Int × Int × Unit) × Unit)))))))))
  (some (Sum.inr ((0 : Nat), ((y3.1.1, (y3.1.2.1, ())), ())) : (((Int × Int × Unit) × Unit)) ⊕ ((Nat × (Int × Int × Unit) × Unit))))

noncomputable def P_paths_Compare (x : (List (UInt8)) × (List (UInt8)) × Unit) : Option (Int × Unit) :=
  obind (P_paths_Parts (x.1, ())) (fun (y1 : (List (List (UInt8))) × Unit) => obind (P_paths_Parts (x.2.1, ())) (fun (y2 : (List (List (UInt8))) × Unit) => obind (Loop (P_paths_Compare_L0 y1 y2) (((0 : Int), ((0 : Int), ())), ())) (fun (y3 : Nat × (Int × Int × Unit) × Unit) => sel (eqN y3.1 (0 : Nat))
  (sel (ltI (@len (List (UInt8)) y1.1) (@len (List (UInt8)) y2.1))
  (some ((-1 : Int), ()))
  (some ((0 : Int), ())))
  (some (y3.2.1.1, ())))))

noncomputable def P_ref07_Parts_L0 (x : (List (UInt8)) × Unit) (y1 : (Unit × (List (UInt8)) × Int × Unit) × (List (List (UInt8))) × Unit) : Option (((Unit × (List (UInt8)) × Int × Unit) × (List (List (UInt8))) × Unit) ⊕ ((Unit × (List (UInt8)) × Int × Unit) × (List (List (UInt8))) × Unit)) :=
  @way1 ((Unit × (List (UInt8)) × Int × Unit) × (List (List (UInt8))) × Unit) (sel (ltI y1.1.2.2.1 (@len UInt8 x.1))
  (obind (@idx UInt8 x.1 y1.1.2.2.1) (fun (y2 : UInt8) => obind (sel (eqI (u8 y2) (47 : Int))
  (sel (fits (plus (@len (List (UInt8)) y1.2.1) (@len (List (UInt8)) ([y1.1.2.1] : List (List (UInt8))))))
  (some (((), (([] : List (UInt8)), ())), (@app (List (UInt8)) y1.2.1 ([y1.1.2.1] : List (List (UInt8))), ())))
  (none : Option ((Unit × (List (UInt8)) × Unit) × (List (List (UInt8))) × Unit)))
  (sel (inside y1.1.2.2.1 (iadd IntKind.i64 y1.1.2.2.1 (1 : Int)) (@len UInt8 x.1))
  (sel (fits (plus (@len UInt8 y1.1.2.1) (@len UInt8 (@sub UInt8 x.1 y1.1.2.2.1 (minus (iadd IntKind.i64 y1.1.2.2.1 (1 : Int)) y1.1.2.2.1)))))
  (some (((), (@app UInt8 y1.1.2.1 (@sub UInt8 x.1 y1.1.2.2.1 (minus (iadd IntKind.i64 y1.1.2.2.1 (1 : Int)) y1.1.2.2.1)), ())), (y1.2.1, ())))
  (none : Option ((Unit × (List (UInt8)) × Unit) × (List (List (UInt8))) × Unit)))
  (none : Option ((Unit × (List (UInt8)) × Unit) × (List (List (UInt8))) × Unit)))) (fun (y3 : (Unit × (List (UInt8)) × Unit) × (List (List (UInt8))) × Unit) => some (Sum.inl (((), (y3.1.2.1, (iadd IntKind.i64 y1.1.2.2.1 (1 : Int), ()))), (y3.2.1, ())) : (((Unit × (List (UInt8)) × Int × Unit) × (List (List (UInt8))) × Unit)) ⊕ ((Nat × (Unit × (List (UInt8)) × Int × Unit) × (List (List (UInt8))) × Unit))))))
  (some (Sum.inr ((0 : Nat), (((), (y1.1.2.1, (y1.1.2.2.1, ()))), (y1.2.1, ()))) : (((Unit × (List (UInt8)) × Int × Unit) × (List (List (UInt8))) × Unit)) ⊕ ((Nat × (Unit × (List (UInt8)) × Int × Unit) × (List (List (UInt8))) × Unit)))))

noncomputable def P_ref07_Parts (x : (List (UInt8)) × Unit) : Option ((List (List (UInt8))) × Unit) :=
  sel (eqS x.1 ([] : List (UInt8)))
  (some (([] : List (List (UInt8))), ()))
  (obind (Loop (P_ref07_Parts_L0 x) (((), (([] : List (UInt8)), ((0 : Int), ()))), (([] : List (List (UInt8))), ()))) (fun (y1 : (Unit × (List (UInt8)) × Int × Unit) × (List (List (UInt8))) × Unit) => sel (fits (plus (@len (List (UInt8)) y1.2.1) (@len (List (UInt8)) ([y1.1.2.1] : List (List (UInt8))))))
  (some (@app (List (UInt8)) y1.2.1 ([y1.1.2.1] : List (List (UInt8))), ()))
  (none : Option ((List (List (UInt8))) × Unit))))

noncomputable def P_ref07_join_L0 (x : (List (List (UInt8))) × Unit) (y1 : ((List (UInt8)) × Int × Unit) × Unit) : Option ((((List (UInt8)) × Int × Unit) × Unit) ⊕ (((List (UInt8)) × Int × Unit) × Unit)) :=
  @way1 (((List (UInt8)) × Int × Unit) × Unit) (sel (ltI y1.1.2.1 (@len (List (UInt8)) x.1))
  (obind (sel (ltI (0 : Int) y1.1.2.1)
  (sel (fits (plus (@len UInt8 y1.1.1) (@len UInt8 ([(47 : UInt8)] : List (UInt8)))))
  (some ((@app UInt8 y1.1.1 ([(47 : UInt8)] : List (UInt8)), ()), ()))
  (none : Option (((List (UInt8)) × Unit) × Unit)))
  (some ((y1.1.1, ()), ()))) (fun (y2 : ((List (UInt8)) × Unit) × Unit) => obind (@idx (List (UInt8)) x.1 y1.1.2.1) (fun (y3 : List (UInt8)) => sel (fits (plus (@len UInt8 y2.1.1) (@len UInt8 y3)))
  (some (Sum.inl ((@app UInt8 y2.1.1 y3, (iadd IntKind.i64 y1.1.2.1 (1 : Int), ())), ()) : ((((List (UInt8)) × Int × Unit) × Unit)) ⊕ ((Nat × ((List (UInt8)) × Int × Unit) × Unit))))
  (none : Option ((((List (UInt8)) × Int × Unit) × Unit) ⊕ (Nat × ((List (UInt8)) × Int × Unit) × Unit))))))
  (some (Sum.inr ((0 : Nat), ((y1.1.1, (y1.1.2.1, ())), ())) : ((((List (UInt8)) × Int × Unit) × Unit)) ⊕ ((Nat × ((List (UInt8)) × Int × Unit) × Unit)))))

noncomputable def P_ref07_join (x : (List (List (UInt8))) × Unit) : Option ((List (UInt8)) × Unit) :=
  obind (Loop (P_ref07_join_L0 x) ((([] : List (UInt8)), ((0 : Int), ())), ())) (fun (y1 : ((List (UInt8)) × Int × Unit) × Unit) => some (y1.1.1, ()))

noncomputable def P_ref07_isName_L0 (x : (List (UInt8)) × Unit) (y1 : (Bool × Int × Unit) × Unit) : Option (((Bool × Int × Unit) × Unit) ⊕ (Nat × (Bool × Int × Unit) × Unit)) :=
  sel (ltI y1.1.2.1 (@len UInt8 x.1))
  (obind (@idx UInt8 x.1 y1.1.2.1) (fun (y2 : UInt8) => obind (sel (nt (eqI (u8 y2) (0 : Int)))
  (obind (@idx UInt8 x.1 y1.1.2.1) (fun (y3 : UInt8) => some (eqI (u8 y3) (47 : Int))))
  (some true)) (fun (y3 : Bool) => sel y3
  (some (Sum.inr ((1 : Nat), ((false, (y1.1.2.1, ())), ())) : (((Bool × Int × Unit) × Unit)) ⊕ ((Nat × (Bool × Int × Unit) × Unit))))
  (some (Sum.inl ((y1.1.1, (iadd IntKind.i64 y1.1.2.1 (1 : Int), ())), ()) : (((Bool × Int × Unit) × Unit)) ⊕ ((Nat × (Bool × Int × Unit) × Unit)))))))
  (some (Sum.inr ((0 : Nat), ((y1.1.1, (y1.1.2.1, ())), ())) : (((Bool × Int × Unit) × Unit)) ⊕ ((Nat × (Bool × Int × Unit) × Unit))))

noncomputable def P_ref07_isName (x : (List (UInt8)) × Unit) : Option (Bool × Unit) :=
  obind (Loop (P_ref07_isName_L0 x) ((false, ((0 : Int), ())), ())) (fun (y1 : Nat × (Bool × Int × Unit) × Unit) => sel (eqN y1.1 (0 : Nat))
  (some (sel (sel (sel (leI (1 : Int) (@len UInt8 x.1))
  (leI (@len UInt8 x.1) (32 : Int))
  false)
  (nt (eqS x.1 ([(46 : UInt8)] : List (UInt8))))
  false)
  (nt (eqS x.1 ([(46 : UInt8), (46 : UInt8)] : List (UInt8))))
  false, ()))
  (some (y1.2.1.1, ())))

noncomputable def P_ref07_Is_L0 (y1 : (List (List (UInt8))) × Unit) (y2 : (Bool × Int × Unit) × Unit) : Option (((Bool × Int × Unit) × Unit) ⊕ (Nat × (Bool × Int × Unit) × Unit)) :=
  sel (ltI y2.1.2.1 (@len (List (UInt8)) y1.1))
  (obind (@idx (List (UInt8)) y1.1 y2.1.2.1) (fun (y3 : List (UInt8)) => obind (P_ref07_isName (y3, ())) (fun (y4 : Bool × Unit) => sel (nt y4.1)
  (some (Sum.inr ((1 : Nat), ((false, (y2.1.2.1, ())), ())) : (((Bool × Int × Unit) × Unit)) ⊕ ((Nat × (Bool × Int × Unit) × Unit))))
  (some (Sum.inl ((y2.1.1, (iadd IntKind.i64 y2.1.2.1 (1 : Int), ())), ()) : (((Bool × Int × Unit) × Unit)) ⊕ ((Nat × (Bool × Int × Unit) × Unit)))))))
  (some (Sum.inr ((0 : Nat), ((y2.1.1, (y2.1.2.1, ())), ())) : (((Bool × Int × Unit) × Unit)) ⊕ ((Nat × (Bool × Int × Unit) × Unit))))

noncomputable def P_ref07_Is (x : (List (UInt8)) × Unit) : Option (Bool × Unit) :=
  obind (P_ref07_Parts (x.1, ())) (fun (y1 : (List (List (UInt8))) × Unit) => obind (Loop (P_ref07_Is_L0 y1) ((false, ((0 : Int), ())), ())) (fun (y2 : Nat × (Bool × Int × Unit) × Unit) => sel (eqN y2.1 (0 : Nat))
  (some (sel (leI (@len (List (UInt8)) y1.1) (8 : Int))
  (leI (@len UInt8 x.1) (96 : Int))
  false, ()))
  (some (y2.2.1.1, ()))))

noncomputable def P_ref07_begins (x : (List (UInt8)) × (List (UInt8)) × Unit) : Option (Bool × Unit) :=
  obind (sel (leI (@len UInt8 x.2.1) (@len UInt8 x.1))
  (sel (inside (0 : Int) (@len UInt8 x.2.1) (@len UInt8 x.1))
  (some (eqS (@sub UInt8 x.1 (0 : Int) (minus (@len UInt8 x.2.1) (0 : Int))) x.2.1))
  (none : Option (Bool)))
  (some false)) (fun (y1 : Bool) => some (y1, ()))

noncomputable def P_ref07_Mark (x : (List (UInt8)) × Unit) : Option (Int × (List (UInt8)) × Unit) :=
  sel (eqS x.1 ([(46 : UInt8), (119 : UInt8), (104 : UInt8), (46 : UInt8), (46 : UInt8), (119 : UInt8), (104 : UInt8), (46 : UInt8), (46 : UInt8), (111 : UInt8), (112 : UInt8), (113 : UInt8)] : List (UInt8)))
  (some ((2 : Int), (([] : List (UInt8)), ())))
  (obind (P_ref07_begins (x.1, (([(46 : UInt8), (119 : UInt8), (104 : UInt8), (46 : UInt8), (46 : UInt8), (119 : UInt8), (104 : UInt8), (46 : UInt8)] : List (UInt8)), ()))) (fun (y1 : Bool × Unit) => sel (sel (nt (sel (nt (sel (nt y1.1)
  (eqS x.1 ([(46 : UInt8), (119 : UInt8), (104 : UInt8), (46 : UInt8)] : List (UInt8)))
  true))
  (eqS x.1 ([(46 : UInt8), (119 : UInt8), (104 : UInt8), (46 : UInt8), (46 : UInt8)] : List (UInt8)))
  true))
  (eqS x.1 ([(46 : UInt8), (119 : UInt8), (104 : UInt8), (46 : UInt8), (46 : UInt8), (46 : UInt8)] : List (UInt8)))
  true)
  (some ((3 : Int), (([] : List (UInt8)), ())))
  (obind (P_ref07_begins (x.1, (([(46 : UInt8), (119 : UInt8), (104 : UInt8), (46 : UInt8)] : List (UInt8)), ()))) (fun (y2 : Bool × Unit) => sel y2.1
  (sel (inside (4 : Int) (@len UInt8 x.1) (@len UInt8 x.1))
  (some ((1 : Int), (@sub UInt8 x.1 (4 : Int) (minus (@len UInt8 x.1) (4 : Int)), ())))
  (none : Option (Int × (List (UInt8)) × Unit)))
  (some ((0 : Int), (x.1, ())))))))

noncomputable def P_ref07_Split (x : (List (UInt8)) × Unit) : Option ((List (UInt8)) × (List (UInt8)) × Unit) :=
  obind (P_ref07_Parts (x.1, ())) (fun (y1 : (List (List (UInt8))) × Unit) => sel (eqI (@len (List (UInt8)) y1.1) (0 : Int))
  (some (([] : List (UInt8)), (([] : List (UInt8)), ())))
  (sel (inside (0 : Int) (isub IntKind.i64 (@len (List (UInt8)) y1.1) (1 : Int)) (@len (List (UInt8)) y1.1))
  (obind (P_ref07_join (@sub (List (UInt8)) y1.1 (0 : Int) (minus (isub IntKind.i64 (@len (List (UInt8)) y1.1) (1 : Int)) (0 : Int)), ())) (fun (y2 : (List (UInt8)) × Unit) => obind (@idx (List (UInt8)) y1.1 (isub IntKind.i64 (@len (List (UInt8)) y1.1) (1 : Int))) (fun (y3 : List (UInt8)) => some (y2.1, (y3, ())))))
  (none : Option ((List (UInt8)) × (List (UInt8)) × Unit))))

noncomputable def P_paths_Join (x : (List (UInt8)) × (List (UInt8)) × Unit) : Option ((List (UInt8)) × Unit) :=
  sel (sel (nt (eqS x.1 ([] : List (UInt8))))
  (eqS x.2.1 ([] : List (UInt8)))
  true)
  (sel (fits (plus (@len UInt8 x.1) (@len UInt8 x.2.1)))
  (some (@app UInt8 x.1 x.2.1, ()))
  (none : Option ((List (UInt8)) × Unit)))
  (sel (fits (plus (@len UInt8 x.1) (@len UInt8 ([(47 : UInt8)] : List (UInt8)))))
  (sel (fits (plus (@len UInt8 (@app UInt8 x.1 ([(47 : UInt8)] : List (UInt8)))) (@len UInt8 x.2.1)))
  (some (@app UInt8 (@app UInt8 x.1 ([(47 : UInt8)] : List (UInt8))) x.2.1, ()))
  (none : Option ((List (UInt8)) × Unit)))
  (none : Option ((List (UInt8)) × Unit)))

noncomputable def P_ref07_Join (x : (List (UInt8)) × (List (UInt8)) × Unit) : Option ((List (UInt8)) × Unit) :=
  sel (eqS x.1 ([] : List (UInt8)))
  (some (x.2.1, ()))
  (sel (eqS x.2.1 ([] : List (UInt8)))
  (some (x.1, ()))
  (sel (fits (plus (@len UInt8 x.1) (@len UInt8 ([(47 : UInt8)] : List (UInt8)))))
  (sel (fits (plus (@len UInt8 (@app UInt8 x.1 ([(47 : UInt8)] : List (UInt8)))) (@len UInt8 x.2.1)))
  (some (@app UInt8 (@app UInt8 x.1 ([(47 : UInt8)] : List (UInt8))) x.2.1, ()))
  (none : Option ((List (UInt8)) × Unit)))
  (none : Option ((List (UInt8)) × Unit))))

noncomputable def P_ref07_Compare_L0 (y1 : (List (List (UInt8))) × Unit) (y2 : (List (List (UInt8))) × Unit) (y3 : (Int × Int × Unit) × Unit) : Option (((Int × Int × Unit) × Unit) ⊕ (Nat × (Int × Int × Unit) × Unit)) :=
  sel (sel (ltI y3.1.2.1 (@len (List (UInt8)) y1.1))
  (ltI y3.1.2.1 (@len (List (UInt8)) y2.1))
  false)
  (obind (@idx (List (UInt8)) y1.1 y3.1.2.1) (fun (y4 : List (UInt8)) => obind (@idx (List (UInt8)) y2.1 y3.1.2.1) (fun (y5 : List (UInt8)) => sel (ltS y4 y5)
  (some (Sum.inr ((1 : Nat), (((-1 : Int), (y3.1.2.1, ())), ())) : (((Int × Int × Unit) × Unit)) ⊕ ((Nat × (Int × Int × Unit) × Unit))))
  (obind (@idx (List (UInt8)) y1.1 y3.1.2.1) (fun (y6 : List (UInt8)) => obind (@idx (List (UInt8)) y2.1 y3.1.2.1) (fun (y7 : List (UInt8)) => sel (nt (oor (ltS y6 y7) (eqS y6 y7)))
  (some (Sum.inr ((1 : Nat), (((1 : Int), (y3.1.2.1, ())), ())) : (((Int × Int × Unit) × Unit)) ⊕ ((Nat × (Int × Int × Unit) × Unit))))
  (some (Sum.inl ((y3.1.1, (iadd IntKind.i64 y3.1.2.1 (1 : Int), ())), ()) : (((Int × Int × Unit) × Unit)) ⊕ ((Nat × (Int × Int × Unit) × Unit))))))))))
  (some (Sum.inr ((0 : Nat), ((y3.1.1, (y3.1.2.1, ())), ())) : (((Int × Int × Unit) × Unit)) ⊕ ((Nat × (Int × Int × Unit) × Unit))))

noncomputable def P_ref07_Compare (x : (List (UInt8)) × (List (UInt8)) × Unit) : Option (Int × Unit) :=
  obind (P_ref07_Parts (x.1, ())) (fun (y1 : (List (List (UInt8))) × Unit) => obind (P_ref07_Parts (x.2.1, ())) (fun (y2 : (List (List (UInt8))) × Unit) => obind (Loop (P_ref07_Compare_L0 y1 y2) (((0 : Int), ((0 : Int), ())), ())) (fun (y3 : Nat × (Int × Int × Unit) × Unit) => sel (eqN y3.1 (0 : Nat))
  (sel (ltI (@len (List (UInt8)) y1.1) (@len (List (UInt8)) y2.1))
  (some ((-1 : Int), ()))
  (sel (ltI (@len (List (UInt8)) y2.1) (@len (List (UInt8)) y1.1))
  (some ((1 : Int), ()))
  (some ((0 : Int), ()))))
  (some (y3.2.1.1, ())))))

end Go.Ge

/- What the functions of layer 01 compute, as plain programs (written by a program from what the ghost interpreter comes to). -/
namespace Go.Ge
set_option linter.unusedVariables false
set_option maxRecDepth 100000

end Go.Ge

/- What the functions of layer 14z compute, as plain programs (written by a program from what the ghost interpreter comes to). -/
namespace Go.Ge
set_option linter.unusedVariables false
set_option maxRecDepth 100000

noncomputable def P_ref14_Few_L0 (x : (List ((List (UInt8)) × Int × Int × (List (UInt8)) × (List (UInt8)) × Unit)) × Int × Unit) (y1 : (Bool × Int × Unit) × Unit) : Option (((Bool × Int × Unit) × Unit) ⊕ (Nat × (Bool × Int × Unit) × Unit)) :=
  sel (sel (ltI y1.1.2.1 (@len ((List (UInt8)) × Int × Int × (List (UInt8)) × (List (UInt8)) × Unit) x.1))
  (ltI y1.1.2.1 x.2.1)
  false)
  (obind (@idx ((List (UInt8)) × Int × Int × (List (UInt8)) × (List (UInt8)) × Unit) x.1 y1.1.2.1) (fun (y2 : (List (UInt8)) × Int × Int × (List (UInt8)) × (List (UInt8)) × Unit) => obind (sel (nt (ltI (200 : Int) (@len UInt8 y2.1)))
  (obind (@idx ((List (UInt8)) × Int × Int × (List (UInt8)) × (List (UInt8)) × Unit) x.1 y1.1.2.1) (fun (y3 : (List (UInt8)) × Int × Int × (List (UInt8)) × (List (UInt8)) × Unit) => some (ltI (200 : Int) (@len UInt8 y3.2.2.2.2.1))))
  (some true)) (fun (y3 : Bool) => obind (sel (nt y3)
  (obind (@idx ((List (UInt8)) × Int × Int × (List (UInt8)) × (List (UInt8)) × Unit) x.1 y1.1.2.1) (fun (y4 : (List (UInt8)) × Int × Int × (List (UInt8)) × (List (UInt8)) × Unit) => some (ltI (1024 : Int) (@len UInt8 y4.2.2.2.1))))
  (some true)) (fun (y4 : Bool) => sel y4
  (some (Sum.inr ((1 : Nat), ((false, (y1.1.2.1, ())), ())) : (((Bool × Int × Unit) × Unit)) ⊕ ((Nat × (Bool × Int × Unit) × Unit))))
  (some (Sum.inl ((y1.1.1, (iadd IntKind.i64 y1.1.2.1 (1 : Int), ())), ()) : (((Bool × Int × Unit) × Unit)) ⊕ ((Nat × (Bool × Int × Unit) × Unit))))))))
  (some (Sum.inr ((0 : Nat), ((y1.1.1, (y1.1.2.1, ())), ())) : (((Bool × Int × Unit) × Unit)) ⊕ ((Nat × (Bool × Int × Unit) × Unit))))

noncomputable def P_ref14_Few (x : (List ((List (UInt8)) × Int × Int × (List (UInt8)) × (List (UInt8)) × Unit)) × Int × Unit) : Option (Bool × Unit) :=
  obind (Loop (P_ref14_Few_L0 x) ((false, ((0 : Int), ())), ())) (fun (y1 : Nat × (Bool × Int × Unit) × Unit) => sel (eqN y1.1 (0 : Nat))
  (some (leI (@len ((List (UInt8)) × Int × Int × (List (UInt8)) × (List (UInt8)) × Unit) x.1) x.2.1, ()))
  (some (y1.2.1.1, ())))

noncomputable def P_tree_isPath (x : (List (UInt8)) × Unit) : Option (Bool × Unit) :=
  obind (P_paths_Clean (x.1, ())) (fun (y1 : (List (UInt8)) × Int × Unit) => obind (P_paths_Split (x.1, ())) (fun (y2 : (List (UInt8)) × (List (UInt8)) × Unit) => obind (P_paths_Mark (y2.2.1, ())) (fun (y3 : Int × (List (UInt8)) × Unit) => some (sel (sel (sel (sel (eqI y1.2.1 (0 : Int))
  (eqS y1.1 x.1)
  false)
  (nt (eqS x.1 ([] : List (UInt8))))
  false)
  (sel (leI (@len UInt8 x.1) (92 : Int))
  (leI (@len UInt8 y2.2.1) (28 : Int))
  false)
  false)
  (eqI y3.1 (0 : Int))
  false, ()))))

noncomputable def P_tree_is (x : ((List (UInt8)) × Int × Int × (List (UInt8)) × (List (UInt8)) × Unit) × Unit) : Option (Bool × Unit) :=
  obind (P_tree_isPath (x.1.1, ())) (fun (y1 : Bool × Unit) => sel (sel (nt (sel (nt (nt y1.1))
  (ltI x.1.2.2.1 (0 : Int))
  true))
  (ltI (4095 : Int) x.1.2.2.1)
  true)
  (some (false, ()))
  (sel (eqI x.1.2.1 (1 : Int))
  (some (sel (eqS x.1.2.2.2.2.1 ([] : List (UInt8)))
  (leI (@len UInt8 x.1.2.2.2.1) (8192 : Int))
  false, ()))
  (sel (eqI x.1.2.1 (2 : Int))
  (some (sel (eqS x.1.2.2.2.2.1 ([] : List (UInt8)))
  (eqS x.1.2.2.2.1 ([] : List (UInt8)))
  false, ()))
  (sel (eqI x.1.2.1 (3 : Int))
  (obind (sel (sel (sel (eqS x.1.2.2.2.1 ([] : List (UInt8)))
  (nt (eqS x.1.2.2.2.2.1 ([] : List (UInt8))))
  false)
  (leI (@len UInt8 x.1.2.2.2.2.1) (100 : Int))
  false)
  (obind (P_strings_IndexByte (x.1.2.2.2.2.1, ((0 : Int), ()))) (fun (y2 : Int × Unit) => some (ltI y2.1 (0 : Int))))
  (some false)) (fun (y2 : Bool) => some (y2, ())))
  (some (false, ()))))))

noncomputable def P_tree_place_c1 (x : ((List (UInt8)) × Int × Int × (List (UInt8)) × (List (UInt8)) × Unit) × (List (UInt8)) × Unit) : Option (Int × Unit) :=
  obind (P_paths_Compare (x.1.1, (x.2.1, ()))) (fun (y1 : Int × Unit) => some (y1.1, ()))

noncomputable def P_tree_place_L0 (x : (List ((List (UInt8)) × Int × Int × (List (UInt8)) × (List (UInt8)) × Unit)) × (List (UInt8)) × Unit) (y1 : (Int × Int × Unit) × Unit) : Option (((Int × Int × Unit) × Unit) ⊕ ((Int × Int × Unit) × Unit)) :=
  @way1 ((Int × Int × Unit) × Unit) (sel (ltI y1.1.1 y1.1.2.1)
  (sel (ltI (1 : Int) (0 : Int))
  (none : Option (((Int × Int × Unit) × Unit) ⊕ (Nat × (Int × Int × Unit) × Unit)))
  (obind (@idx ((List (UInt8)) × Int × Int × (List (UInt8)) × (List (UInt8)) × Unit) x.1 (icv IntKind.i64 (ishr IntKind.u64 (icv IntKind.u64 (iadd IntKind.i64 y1.1.1 y1.1.2.1)) (1 : Int)))) (fun (y2 : (List (UInt8)) × Int × Int × (List (UInt8)) × (List (UInt8)) × Unit) => obind (P_tree_place_c1 (y2, (x.2.1, ()))) (fun (y3 : Int × Unit) => some (Sum.inl ((((sel (ltI y3.1 (0 : Int))
  ((iadd IntKind.i64 (icv IntKind.i64 (ishr IntKind.u64 (icv IntKind.u64 (iadd IntKind.i64 y1.1.1 y1.1.2.1)) (1 : Int))) (1 : Int), (y1.1.2.1, ())), ())
  ((y1.1.1, (icv IntKind.i64 (ishr IntKind.u64 (icv IntKind.u64 (iadd IntKind.i64 y1.1.1 y1.1.2.1)) (1 : Int)), ())), ())).1).1, ((((sel (ltI y3.1 (0 : Int))
  ((iadd IntKind.i64 (icv IntKind.i64 (ishr IntKind.u64 (icv IntKind.u64 (iadd IntKind.i64 y1.1.1 y1.1.2.1)) (1 : Int))) (1 : Int), (y1.1.2.1, ())), ())
  ((y1.1.1, (icv IntKind.i64 (ishr IntKind.u64 (icv IntKind.u64 (iadd IntKind.i64 y1.1.1 y1.1.2.1)) (1 : Int)), ())), ())).1).2).1, ())), ()) : (((Int × Int × Unit) × Unit)) ⊕ ((Nat × (Int × Int × Unit) × Unit)))))))
  (some (Sum.inr ((0 : Nat), ((y1.1.1, (y1.1.2.1, ())), ())) : (((Int × Int × Unit) × Unit)) ⊕ ((Nat × (Int × Int × Unit) × Unit)))))

noncomputable def P_tree_place (x : (List ((List (UInt8)) × Int × Int × (List (UInt8)) × (List (UInt8)) × Unit)) × (List (UInt8)) × Unit) : Option (Int × Bool × Unit) :=
  obind (Loop (P_tree_place_L0 x) (((0 : Int), (@len ((List (UInt8)) × Int × Int × (List (UInt8)) × (List (UInt8)) × Unit) x.1, ())), ())) (fun (y1 : (Int × Int × Unit) × Unit) => sel (ltI y1.1.1 (@len ((List (UInt8)) × Int × Int × (List (UInt8)) × (List (UInt8)) × Unit) x.1))
  (obind (@idx ((List (UInt8)) × Int × Int × (List (UInt8)) × (List (UInt8)) × Unit) x.1 y1.1.1) (fun (y2 : (List (UInt8)) × Int × Int × (List (UInt8)) × (List (UInt8)) × Unit) => obind (P_tree_place_c1 (y2, (x.2.1, ()))) (fun (y3 : Int × Unit) => some (y1.1.1, (eqI y3.1 (0 : Int), ())))))
  (some (y1.1.1, (false, ()))))

noncomputable def P_tree_dir (x : (List ((List (UInt8)) × Int × Int × (List (UInt8)) × (List (UInt8)) × Unit)) × (List (UInt8)) × Unit) : Option (Int × Unit) :=
  sel (eqS x.2.1 ([] : List (UInt8)))
  (some ((0 : Int), ()))
  (obind (P_tree_place (x.1, (x.2.1, ()))) (fun (y1 : Int × Bool × Unit) => sel (nt y1.2.1)
  (some ((3 : Int), ()))
  (obind (@idx ((List (UInt8)) × Int × Int × (List (UInt8)) × (List (UInt8)) × Unit) x.1 y1.1) (fun (y2 : (List (UInt8)) × Int × Int × (List (UInt8)) × (List (UInt8)) × Unit) => sel (nt (eqI y2.2.1 (2 : Int)))
  (some ((12 : Int), ()))
  (some ((0 : Int), ()))))))

noncomputable def P_tree_Check_L0 (x : (List ((List (UInt8)) × Int × Int × (List (UInt8)) × (List (UInt8)) × Unit)) × Unit) (y1 : (Int × Int × Unit) × Unit) : Option (((Int × Int × Unit) × Unit) ⊕ (Nat × (Int × Int × Unit) × Unit)) :=
  sel (ltI y1.1.2.1 (@len ((List (UInt8)) × Int × Int × (List (UInt8)) × (List (UInt8)) × Unit) x.1))
  (obind (@idx ((List (UInt8)) × Int × Int × (List (UInt8)) × (List (UInt8)) × Unit) x.1 y1.1.2.1) (fun (y2 : (List (UInt8)) × Int × Int × (List (UInt8)) × (List (UInt8)) × Unit) => obind (P_paths_Split (y2.1, ())) (fun (y3 : (List (UInt8)) × (List (UInt8)) × Unit) => obind (P_tree_is (y2, ())) (fun (y4 : Bool × Unit) => sel (nt y4.1)
  (some (Sum.inr ((1 : Nat), (((1 : Int), (y1.1.2.1, ())), ())) : (((Int × Int × Unit) × Unit)) ⊕ ((Nat × (Int × Int × Unit) × Unit))))
  (sel (ltI (0 : Int) y1.1.2.1)
  (obind (@idx ((List (UInt8)) × Int × Int × (List (UInt8)) × (List (UInt8)) × Unit) x.1 (isub IntKind.i64 y1.1.2.1 (1 : Int))) (fun (y5 : (List (UInt8)) × Int × Int × (List (UInt8)) × (List (UInt8)) × Unit) => obind (P_paths_Compare (y5.1, (y2.1, ()))) (fun (y6 : Int × Unit) => sel (leI (0 : Int) y6.1)
  (some (Sum.inr ((1 : Nat), (((1 : Int), (y1.1.2.1, ())), ())) : (((Int × Int × Unit) × Unit)) ⊕ ((Nat × (Int × Int × Unit) × Unit))))
  (sel (inside (0 : Int) y1.1.2.1 (@len ((List (UInt8)) × Int × Int × (List (UInt8)) × (List (UInt8)) × Unit) x.1))
  (obind (P_tree_dir (@sub ((List (UInt8)) × Int × Int × (List (UInt8)) × (List (UInt8)) × Unit) x.1 (0 : Int) (minus y1.1.2.1 (0 : Int)), (y3.1, ()))) (fun (y7 : Int × Unit) => sel (nt (eqI y7.1 (0 : Int)))
  (some (Sum.inr ((1 : Nat), (((1 : Int), (y1.1.2.1, ())), ())) : (((Int × Int × Unit) × Unit)) ⊕ ((Nat × (Int × Int × Unit) × Unit))))
  (some (Sum.inl ((y1.1.1, (iadd IntKind.i64 y1.1.2.1 (1 : Int), ())), ()) : (((Int × Int × Unit) × Unit)) ⊕ ((Nat × (Int × Int × Unit) × Unit))))))
  (none : Option (((Int × Int × Unit) × Unit) ⊕ (Nat × (Int × Int × Unit) × Unit)))))))
  (sel (inside (0 : Int) y1.1.2.1 (@len ((List (UInt8)) × Int × Int × (List (UInt8)) × (List (UInt8)) × Unit) x.1))
  (obind (P_tree_dir (@sub ((List (UInt8)) × Int × Int × (List (UInt8)) × (List (UInt8)) × Unit) x.1 (0 : Int) (minus y1.1.2.1 (0 : Int)), (y3.1, ()))) (fun (y5 : Int × Unit) => sel (nt (eqI y5.1 (0 : Int)))
  (some (Sum.inr ((1 : Nat), (((1 : Int), (y1.1.2.1, ())), ())) : (((Int × Int × Unit) × Unit)) ⊕ ((Nat × (Int × Int × Unit) × Unit))))
  (some (Sum.inl ((y1.1.1, (iadd IntKind.i64 y1.1.2.1 (1 : Int), ())), ()) : (((Int × Int × Unit) × Unit)) ⊕ ((Nat × (Int × Int × Unit) × Unit))))))
  (none : Option (((Int × Int × Unit) × Unit) ⊕ (Nat × (Int × Int × Unit) × Unit)))))))))
  (some (Sum.inr ((0 : Nat), ((y1.1.1, (y1.1.2.1, ())), ())) : (((Int × Int × Unit) × Unit)) ⊕ ((Nat × (Int × Int × Unit) × Unit))))

noncomputable def P_tree_Check (x : (List ((List (UInt8)) × Int × Int × (List (UInt8)) × (List (UInt8)) × Unit)) × Unit) : Option (Int × Unit) :=
  sel (ltI (64 : Int) (@len ((List (UInt8)) × Int × Int × (List (UInt8)) × (List (UInt8)) × Unit) x.1))
  (some ((1 : Int), ()))
  (obind (Loop (P_tree_Check_L0 x) (((0 : Int), ((0 : Int), ())), ())) (fun (y1 : Nat × (Int × Int × Unit) × Unit) => sel (eqN y1.1 (0 : Nat))
  (some ((0 : Int), ()))
  (some (y1.2.1.1, ()))))

noncomputable def P_ref14_Same_L0 (x : (List ((List (UInt8)) × Int × Int × (List (UInt8)) × (List (UInt8)) × Unit)) × (List ((List (UInt8)) × Int × Int × (List (UInt8)) × (List (UInt8)) × Unit)) × Unit) (y1 : (Bool × Int × Unit) × Unit) : Option (((Bool × Int × Unit) × Unit) ⊕ (Nat × (Bool × Int × Unit) × Unit)) :=
  sel (sel (ltI y1.1.2.1 (@len ((List (UInt8)) × Int × Int × (List (UInt8)) × (List (UInt8)) × Unit) x.1))
  (ltI y1.1.2.1 (@len ((List (UInt8)) × Int × Int × (List (UInt8)) × (List (UInt8)) × Unit) x.2.1))
  false)
  (obind (@idx ((List (UInt8)) × Int × Int × (List (UInt8)) × (List (UInt8)) × Unit) x.1 y1.1.2.1) (fun (y2 : (List (UInt8)) × Int × Int × (List (UInt8)) × (List (UInt8)) × Unit) => obind (@idx ((List (UInt8)) × Int × Int × (List (UInt8)) × (List (UInt8)) × Unit) x.2.1 y1.1.2.1) (fun (y3 : (List (UInt8)) × Int × Int × (List (UInt8)) × (List (UInt8)) × Unit) => sel (nt (an (eqS y2.1 y3.1) (an (eqI y2.2.1 y3.2.1) (an (eqI y2.2.2.1 y3.2.2.1) (an (eqS y2.2.2.2.1 y3.2.2.2.1) (an (eqS y2.2.2.2.2.1 y3.2.2.2.2.1) true))))))
  (some (Sum.inr ((1 : Nat), ((false, (y1.1.2.1, ())), ())) : (((Bool × Int × Unit) × Unit)) ⊕ ((Nat × (Bool × Int × Unit) × Unit))))
  (some (Sum.inl ((y1.1.1, (iadd IntKind.i64 y1.1.2.1 (1 : Int), ())), ()) : (((Bool × Int × Unit) × Unit)) ⊕ ((Nat × (Bool × Int × Unit) × Unit)))))))
  (some (Sum.inr ((0 : Nat), ((y1.1.1, (y1.1.2.1, ())), ())) : (((Bool × Int × Unit) × Unit)) ⊕ ((Nat × (Bool × Int × Unit) × Unit))))

noncomputable def P_ref14_Same (x : (List ((List (UInt8)) × Int × Int × (List (UInt8)) × (List (UInt8)) × Unit)) × (List ((List (UInt8)) × Int × Int × (List (UInt8)) × (List (UInt8)) × Unit)) × Unit) : Option (Bool × Unit) :=
  sel (nt (eqI (@len ((List (UInt8)) × Int × Int × (List (UInt8)) × (List (UInt8)) × Unit) x.1) (@len ((List (UInt8)) × Int × Int × (List (UInt8)) × (List (UInt8)) × Unit) x.2.1)))
  (some (false, ()))
  (obind (Loop (P_ref14_Same_L0 x) ((false, ((0 : Int), ())), ())) (fun (y1 : Nat × (Bool × Int × Unit) × Unit) => sel (eqN y1.1 (0 : Nat))
  (some (true, ()))
  (some (y1.2.1.1, ()))))

noncomputable def P_tree_Find (x : (List ((List (UInt8)) × Int × Int × (List (UInt8)) × (List (UInt8)) × Unit)) × (List (UInt8)) × Unit) : Option (((List (UInt8)) × Int × Int × (List (UInt8)) × (List (UInt8)) × Unit) × Bool × Unit) :=
  obind (P_tree_Check (x.1, ())) (fun (y1 : Int × Unit) => sel (nt (eqI y1.1 (0 : Int)))
  (some ((([] : List (UInt8)), ((0 : Int), ((0 : Int), (([] : List (UInt8)), (([] : List (UInt8)), ()))))), (false, ())))
  (obind (P_tree_place (x.1, (x.2.1, ()))) (fun (y2 : Int × Bool × Unit) => sel (nt y2.2.1)
  (some ((([] : List (UInt8)), ((0 : Int), ((0 : Int), (([] : List (UInt8)), (([] : List (UInt8)), ()))))), (false, ())))
  (obind (@idx ((List (UInt8)) × Int × Int × (List (UInt8)) × (List (UInt8)) × Unit) x.1 y2.1) (fun (y3 : (List (UInt8)) × Int × Int × (List (UInt8)) × (List (UInt8)) × Unit) => some (y3, (true, ())))))))

noncomputable def P_ref14_IsLink_L0 (x : (List (UInt8)) × Unit) (y1 : (Bool × Int × Unit) × Unit) : Option (((Bool × Int × Unit) × Unit) ⊕ (Nat × (Bool × Int × Unit) × Unit)) :=
  sel (ltI y1.1.2.1 (@len UInt8 x.1))
  (obind (@idx UInt8 x.1 y1.1.2.1) (fun (y2 : UInt8) => sel (eqI (u8 y2) (0 : Int))
  (some (Sum.inr ((1 : Nat), ((false, (y1.1.2.1, ())), ())) : (((Bool × Int × Unit) × Unit)) ⊕ ((Nat × (Bool × Int × Unit) × Unit))))
  (some (Sum.inl ((y1.1.1, (iadd IntKind.i64 y1.1.2.1 (1 : Int), ())), ()) : (((Bool × Int × Unit) × Unit)) ⊕ ((Nat × (Bool × Int × Unit) × Unit))))))
  (some (Sum.inr ((0 : Nat), ((y1.1.1, (y1.1.2.1, ())), ())) : (((Bool × Int × Unit) × Unit)) ⊕ ((Nat × (Bool × Int × Unit) × Unit))))

noncomputable def P_ref14_IsLink (x : (List (UInt8)) × Unit) : Option (Bool × Unit) :=
  obind (Loop (P_ref14_IsLink_L0 x) ((false, ((0 : Int), ())), ())) (fun (y1 : Nat × (Bool × Int × Unit) × Unit) => sel (eqN y1.1 (0 : Nat))
  (some (sel (leI (1 : Int) (@len UInt8 x.1))
  (leI (@len UInt8 x.1) (100 : Int))
  false, ()))
  (some (y1.2.1.1, ())))

noncomputable def P_ref14_May (x : ((List (UInt8)) × Int × Int × (List (UInt8)) × (List (UInt8)) × Unit) × Unit) : Option (Bool × Unit) :=
  obind (P_ref07_Split (x.1.1, ())) (fun (y1 : (List (UInt8)) × (List (UInt8)) × Unit) => obind (P_ref07_Mark (y1.2.1, ())) (fun (y2 : Int × (List (UInt8)) × Unit) => obind (sel (nt (eqS x.1.1 ([] : List (UInt8))))
  (obind (P_ref07_Is (x.1.1, ())) (fun (y3 : Bool × Unit) => some y3.1))
  (some false)) (fun (y3 : Bool) => sel (eqI x.1.2.1 (1 : Int))
  (some (sel (sel (sel (sel (sel (sel (sel y3
  (leI (@len UInt8 x.1.1) (92 : Int))
  false)
  (leI (@len UInt8 y1.2.1) (28 : Int))
  false)
  (eqI y2.1 (0 : Int))
  false)
  (leI (0 : Int) x.1.2.2.1)
  false)
  (leI x.1.2.2.1 (4095 : Int))
  false)
  (eqS x.1.2.2.2.2.1 ([] : List (UInt8)))
  false)
  (leI (@len UInt8 x.1.2.2.2.1) (8192 : Int))
  false, ()))
  (sel (eqI x.1.2.1 (2 : Int))
  (some (sel (sel (sel (sel (sel (sel (sel y3
  (leI (@len UInt8 x.1.1) (92 : Int))
  false)
  (leI (@len UInt8 y1.2.1) (28 : Int))
  false)
  (eqI y2.1 (0 : Int))
  false)
  (leI (0 : Int) x.1.2.2.1)
  false)
  (leI x.1.2.2.1 (4095 : Int))
  false)
  (eqS x.1.2.2.2.2.1 ([] : List (UInt8)))
  false)
  (eqS x.1.2.2.2.1 ([] : List (UInt8)))
  false, ()))
  (sel (eqI x.1.2.1 (3 : Int))
  (obind (sel (sel (sel (sel (sel (sel (sel y3
  (leI (@len UInt8 x.1.1) (92 : Int))
  false)
  (leI (@len UInt8 y1.2.1) (28 : Int))
  false)
  (eqI y2.1 (0 : Int))
  false)
  (leI (0 : Int) x.1.2.2.1)
  false)
  (leI x.1.2.2.1 (4095 : Int))
  false)
  (eqS x.1.2.2.2.1 ([] : List (UInt8)))
  false)
  (obind (P_ref14_IsLink (x.1.2.2.2.2.1, ())) (fun (y4 : Bool × Unit) => some y4.1))
  (some false)) (fun (y4 : Bool) => some (y4, ())))
  (some (false, ())))))))

noncomputable def P_ref14_find_L0 (x : (List ((List (UInt8)) × Int × Int × (List (UInt8)) × (List (UInt8)) × Unit)) × (List (UInt8)) × Unit) (y1 : (Int × Int × Unit) × Unit) : Option (((Int × Int × Unit) × Unit) ⊕ (Nat × (Int × Int × Unit) × Unit)) :=
  sel (ltI y1.1.2.1 (@len ((List (UInt8)) × Int × Int × (List (UInt8)) × (List (UInt8)) × Unit) x.1))
  (obind (@idx ((List (UInt8)) × Int × Int × (List (UInt8)) × (List (UInt8)) × Unit) x.1 y1.1.2.1) (fun (y2 : (List (UInt8)) × Int × Int × (List (UInt8)) × (List (UInt8)) × Unit) => sel (eqS y2.1 x.2.1)
  (some (Sum.inr ((1 : Nat), ((y1.1.2.1, (y1.1.2.1, ())), ())) : (((Int × Int × Unit) × Unit)) ⊕ ((Nat × (Int × Int × Unit) × Unit))))
  (some (Sum.inl ((y1.1.1, (iadd IntKind.i64 y1.1.2.1 (1 : Int), ())), ()) : (((Int × Int × Unit) × Unit)) ⊕ ((Nat × (Int × Int × Unit) × Unit))))))
  (some (Sum.inr ((0 : Nat), ((y1.1.1, (y1.1.2.1, ())), ())) : (((Int × Int × Unit) × Unit)) ⊕ ((Nat × (Int × Int × Unit) × Unit))))

noncomputable def P_ref14_find (x : (List ((List (UInt8)) × Int × Int × (List (UInt8)) × (List (UInt8)) × Unit)) × (List (UInt8)) × Unit) : Option (Int × Unit) :=
  obind (Loop (P_ref14_find_L0 x) (((0 : Int), ((0 : Int), ())), ())) (fun (y1 : Nat × (Int × Int × Unit) × Unit) => sel (eqN y1.1 (0 : Nat))
  (some ((-1 : Int), ()))
  (some (y1.2.1.1, ())))

noncomputable def P_ref14_dir (x : (List ((List (UInt8)) × Int × Int × (List (UInt8)) × (List (UInt8)) × Unit)) × (List (UInt8)) × Unit) : Option (Bool × Unit) :=
  obind (P_ref14_find (x.1, (x.2.1, ()))) (fun (y1 : Int × Unit) => obind (sel (nt (eqS x.2.1 ([] : List (UInt8))))
  (obind (sel (leI (0 : Int) y1.1)
  (obind (@idx ((List (UInt8)) × Int × Int × (List (UInt8)) × (List (UInt8)) × Unit) x.1 y1.1) (fun (y2 : (List (UInt8)) × Int × Int × (List (UInt8)) × (List (UInt8)) × Unit) => some (eqI y2.2.1 (2 : Int))))
  (some false)) (fun (y2 : Bool) => some y2))
  (some true)) (fun (y2 : Bool) => some (y2, ())))

noncomputable def P_ref14_Is_L0 (x : (List ((List (UInt8)) × Int × Int × (List (UInt8)) × (List (UInt8)) × Unit)) × Unit) (y1 : (Bool × Int × Unit) × Unit) : Option (((Bool × Int × Unit) × Unit) ⊕ (Nat × (Bool × Int × Unit) × Unit)) :=
  sel (ltI y1.1.2.1 (@len ((List (UInt8)) × Int × Int × (List (UInt8)) × (List (UInt8)) × Unit) x.1))
  (obind (@idx ((List (UInt8)) × Int × Int × (List (UInt8)) × (List (UInt8)) × Unit) x.1 y1.1.2.1) (fun (y2 : (List (UInt8)) × Int × Int × (List (UInt8)) × (List (UInt8)) × Unit) => obind (P_ref07_Split (y2.1, ())) (fun (y3 : (List (UInt8)) × (List (UInt8)) × Unit) => obind (@idx ((List (UInt8)) × Int × Int × (List (UInt8)) × (List (UInt8)) × Unit) x.1 y1.1.2.1) (fun (y4 : (List (UInt8)) × Int × Int × (List (UInt8)) × (List (UInt8)) × Unit) => obind (P_ref14_May (y4, ())) (fun (y5 : Bool × Unit) => sel (nt y5.1)
  (some (Sum.inr ((1 : Nat), ((false, (y1.1.2.1, ())), ())) : (((Bool × Int × Unit) × Unit)) ⊕ ((Nat × (Bool × Int × Unit) × Unit))))
  (obind (P_ref14_dir (x.1, (y3.1, ()))) (fun (y6 : Bool × Unit) => sel (nt y6.1)
  (some (Sum.inr ((1 : Nat), ((false, (y1.1.2.1, ())), ())) : (((Bool × Int × Unit) × Unit)) ⊕ ((Nat × (Bool × Int × Unit) × Unit))))
  (sel (ltI (0 : Int) y1.1.2.1)
  (obind (@idx ((List (UInt8)) × Int × Int × (List (UInt8)) × (List (UInt8)) × Unit) x.1 (isub IntKind.i64 y1.1.2.1 (1 : Int))) (fun (y7 : (List (UInt8)) × Int × Int × (List (UInt8)) × (List (UInt8)) × Unit) => obind (@idx ((List (UInt8)) × Int × Int × (List (UInt8)) × (List (UInt8)) × Unit) x.1 y1.1.2.1) (fun (y8 : (List (UInt8)) × Int × Int × (List (UInt8)) × (List (UInt8)) × Unit) => obind (P_ref07_Compare (y7.1, (y8.1, ()))) (fun (y9 : Int × Unit) => sel (leI (0 : Int) y9.1)
  (some (Sum.inr ((1 : Nat), ((false, (y1.1.2.1, ())), ())) : (((Bool × Int × Unit) × Unit)) ⊕ ((Nat × (Bool × Int × Unit) × Unit))))
  (some (Sum.inl ((y1.1.1, (iadd IntKind.i64 y1.1.2.1 (1 : Int), ())), ()) : (((Bool × Int × Unit) × Unit)) ⊕ ((Nat × (Bool × Int × Unit) × Unit))))))))
  (some (Sum.inl ((y1.1.1, (iadd IntKind.i64 y1.1.2.1 (1 : Int), ())), ()) : (((Bool × Int × Unit) × Unit)) ⊕ ((Nat × (Bool × Int × Unit) × Unit))))))))))))
  (some (Sum.inr ((0 : Nat), ((y1.1.1, (y1.1.2.1, ())), ())) : (((Bool × Int × Unit) × Unit)) ⊕ ((Nat × (Bool × Int × Unit) × Unit))))

noncomputable def P_ref14_Is (x : (List ((List (UInt8)) × Int × Int × (List (UInt8)) × (List (UInt8)) × Unit)) × Unit) : Option (Bool × Unit) :=
  sel (ltI (64 : Int) (@len ((List (UInt8)) × Int × Int × (List (UInt8)) × (List (UInt8)) × Unit) x.1))
  (some (false, ()))
  (obind (Loop (P_ref14_Is_L0 x) ((false, ((0 : Int), ())), ())) (fun (y1 : Nat × (Bool × Int × Unit) × Unit) => sel (eqN y1.1 (0 : Nat))
  (some (true, ()))
  (some (y1.2.1.1, ()))))

end Go.Ge

/- What the functions of layer 14z.is compute, as plain programs (written by a program from what the ghost interpreter comes to). -/
namespace Go.Ge
set_option linter.unusedVariables false
set_option maxRecDepth 100000

noncomputable def P_ref14_Find (x : (List ((List (UInt8)) × Int × Int × (List (UInt8)) × (List (UInt8)) × Unit)) × (List (UInt8)) × Unit) : Option (((List (UInt8)) × Int × Int × (List (UInt8)) × (List (UInt8)) × Unit) × Bool × Unit) :=
  obind (P_ref14_find (x.1, (x.2.1, ()))) (fun (y1 : Int × Unit) => obind (P_ref14_Is (x.1, ())) (fun (y2 : Bool × Unit) => sel (sel (nt (nt y2.1))
  (ltI y1.1 (0 : Int))
  true)
  (some ((([] : List (UInt8)), ((0 : Int), ((0 : Int), (([] : List (UInt8)), (([] : List (UInt8)), ()))))), (false, ())))
  (obind (@idx ((List (UInt8)) × Int × Int × (List (UInt8)) × (List (UInt8)) × Unit) x.1 y1.1) (fun (y3 : (List (UInt8)) × Int × Int × (List (UInt8)) × (List (UInt8)) × Unit) => some (y3, (true, ()))))))

end Go.Ge
