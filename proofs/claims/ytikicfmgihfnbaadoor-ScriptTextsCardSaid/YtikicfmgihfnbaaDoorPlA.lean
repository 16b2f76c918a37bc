/- Plain laws of what the functions compute: part 1. -/
import Derived.Test.YtikicfmgihfnbaaDoorGeK
import Derived.Lib.Repeat
import Derived.Lib.ParseIntBCases
import Derived.Lib.ItoaMem
/- What some functions of the library compute, as plain programs. -/
namespace Go.Ge
abbrev Sb := List UInt8
set_option linter.unusedSectionVars false
variable [Lp]

/-- Where a byte stands first in a text; -1: nowhere. -/
noncomputable def P_internal_stringslite_IndexByte : (Ty.pair .str (.pair (.int .u8) .unit)).den → Option (Ty.pair (.int .i64) .unit).den := fun x => some (Lib.indexByte x.1 (show Int from x.2.1).toNat.toUInt8, ())

/-- strings.Split at a separator of one byte, strings.Join. -/
noncomputable def P_strings_Split : (List UInt8) × (List UInt8) × Unit → Option ((List (List UInt8)) × Unit) := fun x => (S_split x.1 x.2.1).map fun y => (y, ())
noncomputable def P_strings_Join : (List (List UInt8)) × (List UInt8) × Unit → Option ((List UInt8) × Unit) := fun x => (S_join x.1 x.2.1).map fun y => (y, ())

/-- Numbers' digits. -/
noncomputable def P_strconv_Itoa : Int × Unit → Option ((List UInt8) × Unit) := fun x => some (Lib.itoa x.1, ())
noncomputable def P_digits_Num : (List UInt8) × Unit → Option (Int × Bool × Unit) := fun x => if x.1.length ≤ 1048576 then some ((numF x.1).1, ((numF x.1).2, ())) else none
/-- The reference's digits, of a number that is not above 0: by how deep it calls itself. -/
noncomputable def P_ref01_below : Int × Unit → Option ((List UInt8) × Unit) := fun x => if -9223372036854775808 ≤ x.1 ∧ x.1 ≤ 0 then some (Lib.decDigits x.1.natAbs, ()) else none
noncomputable def S_ref01_below (k : Nat) : Int × Unit → Option ((List UInt8) × Unit) := fun x => if -9223372036854775808 ≤ x.1 ∧ x.1 ≤ 0 ∧ 0 < k ∧ x.1.natAbs < 10 ^ k then some (Lib.decDigits x.1.natAbs, ()) else none
end Go.Ge

/- What the functions of layer 02 compute, as plain programs (written by a program from what the ghost interpreter comes to). -/
namespace Go.Ge
set_option linter.unusedSectionVars false
variable [Lp]
set_option linter.unusedVariables false
set_option maxRecDepth 100000

noncomputable def P_math_bits_RotateLeft32 (x : Int × Int × Unit) : Option (Int × Unit) :=
  sel (ltI (iand IntKind.u64 (icv IntKind.u64 x.2.1) 31) 0)
  none
  (sel (ltI (isub IntKind.u64 32 (iand IntKind.u64 (icv IntKind.u64 x.2.1) 31)) 0)
  none
  (some (ior IntKind.u32 (ishl IntKind.u32 x.1 (iand IntKind.u64 (icv IntKind.u64 x.2.1) 31)) (ishr IntKind.u32 x.1 (isub IntKind.u64 32 (iand IntKind.u64 (icv IntKind.u64 x.2.1) 31))), ())))

noncomputable def P_sha_right (x : Int × Int × Unit) : Option (Int × Unit) :=
  obind (P_math_bits_RotateLeft32 (x.1, (isub IntKind.i64 0 x.2.1, ()))) (fun y1 => some (y1.1, ()))

noncomputable def P_ref02_turn (x : Int × Int × Unit) : Option (Int × Unit) :=
  sel (ltI x.2.1 0)
  none
  (sel (ltI (isub IntKind.i64 32 x.2.1) 0)
  none
  (some (ior IntKind.u32 (ishr IntKind.u32 x.1 x.2.1) (ishl IntKind.u32 x.1 (isub IntKind.i64 32 x.2.1)), ())))

end Go.Ge

/- What the functions of layer 03 compute, as plain programs (written by a program from what the ghost interpreter comes to). -/
namespace Go.Ge
set_option linter.unusedSectionVars false
variable [Lp]
set_option linter.unusedVariables false
set_option maxRecDepth 100000

noncomputable def P_digits_Hex_L0 (x : Sb × Unit) (y1 : (Int × Unit) × (Unit × Unit × Unit) × (List (Int)) × Unit) : Option (((Int × Unit) × (Unit × Unit × Unit) × (List (Int)) × Unit) ⊕ ((Int × Unit) × (Unit × Unit × Unit) × (List (Int)) × Unit)) :=
  way1 (sel (ltI y1.1.1 (len (bytesInts x.1)))
  (sel (within y1.1.1 (len (bytesInts x.1)))
  (obind (idx (bytesInts x.1) y1.1.1) (fun y2 => sel (ltI 4 0)
  none
  (obind (idx ([48, 49, 50, 51, 52, 53, 54, 55, 56, 57, 97, 98, 99, 100, 101, 102] : List UInt8) (ishr IntKind.u8 y2 4)) (fun y3 => sel (fits (plus (len y1.2.2.1) (len ([u8 y3] : List (Int)))))
  (obind (idx ([48, 49, 50, 51, 52, 53, 54, 55, 56, 57, 97, 98, 99, 100, 101, 102] : List UInt8) (iand IntKind.u8 y2 15)) (fun y4 => sel (fits (plus (len (app y1.2.2.1 ([u8 y3] : List (Int)))) (len ([u8 y4] : List (Int)))))
  (some (Sum.inl ((iadd IntKind.i64 y1.1.1 1, ()), (((), ((), y1.2.1.2.2)), (app (app y1.2.2.1 ([u8 y3] : List (Int))) ([u8 y4] : List (Int)), ())))))
  none))
  none))))
  none)
  (some (Sum.inr (0, ((y1.1.1, ()), (((), ((), y1.2.1.2.2)), (y1.2.2.1, ())))))))

noncomputable def P_digits_Hex (x : Sb × Unit) : Option (Sb × Unit) :=
  sel (fits (len x.1))
  (obind (Loop (P_digits_Hex_L0 x) (((0 : Int), ()), (((), ((), ())), (([] : List (Int)), ())))) (fun y1 => some (intsBytes y1.2.2.1, ())))
  none

noncomputable def P_internal_stringslite_HasPrefix (x : Sb × Sb × Unit) : Option (Bool × Unit) :=
  obind (sel (leI (len x.2.1) (len x.1))
  (sel (inside 0 (len x.2.1) (len x.1))
  (some (eqS (sub x.1 (0 : Int) (minus (len x.2.1) 0)) x.2.1))
  none)
  (some false)) (fun y1 => some (y1, ()))

noncomputable def P_internal_stringslite_CutPrefix (x : Sb × Sb × Unit) : Option (Sb × Bool × Unit) :=
  obind (P_internal_stringslite_HasPrefix (x.1, (x.2.1, ()))) (fun y1 => sel (nt y1.1)
  (some (x.1, (false, ())))
  (sel (inside (len x.2.1) (len x.1) (len x.1))
  (some (sub x.1 (len x.2.1) (minus (len x.1) (len x.2.1)), (true, ())))
  none))

noncomputable def P_strings_CutPrefix (x : Sb × Sb × Unit) : Option (Sb × Bool × Unit) :=
  obind (P_internal_stringslite_CutPrefix (x.1, (x.2.1, ()))) (fun y1 => some (y1.1, (y1.2.1, ())))

noncomputable def P_strings_IndexByte (x : Sb × Int × Unit) : Option (Int × Unit) :=
  obind (P_internal_stringslite_IndexByte (x.1, (x.2.1, ()))) (fun y1 => some (y1.1, ()))

noncomputable def P_digits_Unhex_L0 (y1 : (Sb × Sb × Bool × Unit × Unit) × (List (Int)) × Unit) : Option (((Sb × Sb × Bool × Unit × Unit) × (List (Int)) × Unit) ⊕ (Nat × (Sb × Sb × Bool × Unit × Unit) × (List (Int)) × Unit)) :=
  sel (nt (eqS y1.1.1 ([] : List (UInt8))))
  (obind (idx y1.1.1 (0 : Int)) (fun y2 => obind (P_strings_IndexByte (([48, 49, 50, 51, 52, 53, 54, 55, 56, 57, 97, 98, 99, 100, 101, 102] : List UInt8), (u8 y2, ()))) (fun y3 => obind (idx y1.1.1 (1 : Int)) (fun y4 => obind (P_strings_IndexByte (([48, 49, 50, 51, 52, 53, 54, 55, 56, 57, 97, 98, 99, 100, 101, 102] : List UInt8), (u8 y4, ()))) (fun y5 => sel (sel (nt (ltI y3.1 0))
  (ltI y5.1 0)
  true)
  (some (Sum.inr (1, ((y1.1.1, (([] : List (UInt8)), (false, ((), ())))), (y1.2.1, ())))))
  (sel (ltI 4 0)
  none
  (sel (fits (plus (len y1.2.1) (len ([icv IntKind.u8 (ior IntKind.i64 (ishl IntKind.i64 y3.1 4) y5.1)] : List (Int)))))
  (sel (inside 2 (len y1.1.1) (len y1.1.1))
  (some (Sum.inl ((sub y1.1.1 (2 : Int) (minus (len y1.1.1) 2), (y1.1.2.1, (y1.1.2.2.1, ((), ())))), (app y1.2.1 ([icv IntKind.u8 (ior IntKind.i64 (ishl IntKind.i64 y3.1 4) y5.1)] : List (Int)), ()))))
  none)
  none)))))))
  (some (Sum.inr (0, ((y1.1.1, (y1.1.2.1, (y1.1.2.2.1, ((), ())))), (y1.2.1, ())))))

noncomputable def P_digits_Unhex (x : Sb × Unit) : Option (Sb × Bool × Unit) :=
  sel (eqI 2 0)
  none
  (sel (nt (eqI (irem (len x.1) 2) 0))
  (some (([] : List (UInt8)), (false, ())))
  (obind (Loop (P_digits_Unhex_L0) ((x.1, (([] : List (UInt8)), (false, ((), ())))), (([] : List (Int)), ()))) (fun y1 => sel (eqN y1.1 0)
  (some (intsBytes y1.2.2.1, (true, ())))
  (some (y1.2.1.2.1, (y1.2.1.2.2.1, ()))))))

noncomputable def P_ref01_digit (x : Int × Unit) : Option (Int × Unit) :=
  sel (ltI x.1 10)
  (some (icv IntKind.u8 (iadd IntKind.i64 48 x.1), ()))
  (some (icv IntKind.u8 (isub IntKind.i64 (iadd IntKind.i64 97 x.1) 10), ()))

noncomputable def P_ref01_Hex_L0 (x : Sb × Unit) (y1 : (Unit × Int × Unit) × (List (Int)) × Unit) : Option (((Unit × Int × Unit) × (List (Int)) × Unit) ⊕ ((Unit × Int × Unit) × (List (Int)) × Unit)) :=
  way1 (sel (ltI y1.1.2.1 (len x.1))
  (obind (idx x.1 y1.1.2.1) (fun y2 => sel (eqI 16 0)
  none
  (obind (P_ref01_digit (iquo IntKind.i64 (icv IntKind.i64 (u8 y2)) 16, ())) (fun y3 => sel (fits (plus (len y1.2.1) (len ([y3.1] : List (Int)))))
  (obind (idx x.1 y1.1.2.1) (fun y4 => sel (eqI 16 0)
  none
  (obind (P_ref01_digit (irem (icv IntKind.i64 (u8 y4)) 16, ())) (fun y5 => sel (fits (plus (len (app y1.2.1 ([y3.1] : List (Int)))) (len ([y5.1] : List (Int)))))
  (some (Sum.inl (((), (iadd IntKind.i64 y1.1.2.1 1, ())), (app (app y1.2.1 ([y3.1] : List (Int))) ([y5.1] : List (Int)), ()))))
  none))))
  none))))
  (some (Sum.inr (0, (((), (y1.1.2.1, ())), (y1.2.1, ()))))))

noncomputable def P_ref01_Hex (x : Sb × Unit) : Option (Sb × Unit) :=
  obind (Loop (P_ref01_Hex_L0 x) (((), ((0 : Int), ())), (([] : List (Int)), ()))) (fun y1 => some (intsBytes y1.2.1, ()))

end Go.Ge

/- What the functions of layer 12 compute, as plain programs (written by a program from what the ghost interpreter comes to). -/
namespace Go.Ge
set_option linter.unusedSectionVars false
variable [Lp]
set_option linter.unusedVariables false
set_option maxRecDepth 100000

end Go.Ge

/- What the functions of layer 13 compute, as plain programs (written by a program from what the ghost interpreter comes to). -/
namespace Go.Ge
set_option linter.unusedSectionVars false
variable [Lp]
set_option linter.unusedVariables false
set_option maxRecDepth 100000

end Go.Ge

/- What the functions of layer 07 compute, as plain programs (written by a program from what the ghost interpreter comes to). -/
namespace Go.Ge
set_option linter.unusedSectionVars false
variable [Lp]
set_option linter.unusedVariables false
set_option maxRecDepth 100000

noncomputable def P_strings_HasPrefix (x : Sb × Sb × Unit) : Option (Bool × Unit) :=
  obind (P_internal_stringslite_HasPrefix (x.1, (x.2.1, ()))) (fun y1 => some (y1.1, ()))

noncomputable def P_slices_Index_string_string_L0 (x : (List Sb) × Sb × Unit) (y1 : (Int × Int × Unit) × Unit) : Option (((Int × Int × Unit) × Unit) ⊕ (Nat × (Int × Int × Unit) × Unit)) :=
  sel (ltI y1.1.2.1 (len x.1))
  (obind (idx x.1 y1.1.2.1) (fun y2 => sel (eqS x.2.1 y2)
  (some (Sum.inr (1, ((y1.1.2.1, (y1.1.2.1, ())), ()))))
  (some (Sum.inl ((y1.1.1, (iadd IntKind.i64 y1.1.2.1 1, ())), ())))))
  (some (Sum.inr (0, ((y1.1.1, (y1.1.2.1, ())), ()))))

noncomputable def P_slices_Index_string_string (x : (List Sb) × Sb × Unit) : Option (Int × Unit) :=
  obind (Loop (P_slices_Index_string_string_L0 x) (((0 : Int), ((0 : Int), ())), ())) (fun y1 => sel (eqN y1.1 0)
  (some ((-1 : Int), ()))
  (some (y1.2.1.1, ())))

end Go.Ge

/- What the functions of layer 01 compute, as plain programs (written by a program from what the ghost interpreter comes to). -/
namespace Go.Ge
set_option linter.unusedSectionVars false
variable [Lp]
set_option linter.unusedVariables false
set_option maxRecDepth 100000

noncomputable def P_digits_Dec (x : Int × Unit) : Option (Sb × Unit) :=
  obind (P_strconv_Itoa (x.1, ())) (fun y1 => some (y1.1, ()))

noncomputable def F_ref01_below (REC_ : (Int × Unit) → Option (Sb × Unit)) (x : Int × Unit) : Option (Sb × Unit) :=
  sel (ltI (-10) x.1)
  (some (intsBytes ([icv IntKind.u8 (isub IntKind.i64 48 x.1)] : List (Int)), ()))
  (sel (eqI 10 0)
  none
  (obind (REC_ (iquo IntKind.i64 x.1 10, ())) (fun y1 => sel (eqI 10 0)
  none
  (sel (fits (plus (len y1.1) (len (intsBytes ([icv IntKind.u8 (isub IntKind.i64 48 (irem x.1 10))] : List (Int))))))
  (some (app y1.1 (intsBytes ([icv IntKind.u8 (isub IntKind.i64 48 (irem x.1 10))] : List (Int))), ()))
  none))))

noncomputable def P_ref01_Dec (x : Int × Unit) : Option (Sb × Unit) :=
  sel (ltI x.1 0)
  (obind (P_ref01_below (x.1, ())) (fun y1 => sel (fits (plus (len ([45] : List UInt8)) (len y1.1)))
  (some (app ([45] : List UInt8) y1.1, ()))
  none))
  (obind (P_ref01_below (isub IntKind.i64 0 x.1, ())) (fun y1 => some (y1.1, ())))

end Go.Ge

/- What the functions of layer 17 compute, as plain programs (written by a program from what the ghost interpreter comes to). -/
namespace Go.Ge
set_option linter.unusedSectionVars false
variable [Lp]
set_option linter.unusedVariables false
set_option maxRecDepth 100000

noncomputable def P_ref17_FewTexts_L0 (x : (List Sb) × Unit) (y1 : (Bool × Int × Unit) × Unit) : Option (((Bool × Int × Unit) × Unit) ⊕ (Nat × (Bool × Int × Unit) × Unit)) :=
  sel (sel (ltI y1.1.2.1 (len x.1))
  (ltI y1.1.2.1 8)
  false)
  (obind (idx x.1 y1.1.2.1) (fun y2 => sel (ltI 100 (len y2))
  (some (Sum.inr (1, ((false, (y1.1.2.1, ())), ()))))
  (some (Sum.inl ((y1.1.1, (iadd IntKind.i64 y1.1.2.1 1, ())), ())))))
  (some (Sum.inr (0, ((y1.1.1, (y1.1.2.1, ())), ()))))

noncomputable def P_ref17_FewTexts (x : (List Sb) × Unit) : Option (Bool × Unit) :=
  obind (Loop (P_ref17_FewTexts_L0 x) ((false, ((0 : Int), ())), ())) (fun y1 => sel (eqN y1.1 0)
  (some (leI (len x.1) 8, ()))
  (some (y1.2.1.1, ())))

end Go.Ge

/- What the functions of layer 40 compute, as plain programs (written by a program from what the ghost interpreter comes to). -/
namespace Go.Ge
set_option linter.unusedVariables false
set_option linter.unusedSectionVars false
variable [Lp]
set_option maxRecDepth 100000
abbrev T40x0 := (Int × Int × Sb × Sb × (List Sb) × Sb × Sb × Int × Unit)
abbrev T40x1 := ((List Sb) × Bool × Unit)
abbrev T40x2 := (Nat × (Sb × Int × Int × Unit) × (Unit × Unit × Unit) × (List (Int)) × Unit)
abbrev T40x3 := (Sb × Int × Int × Int × Unit)
abbrev T40x4 := ((Sb × Int × Int × Unit) × (Unit × Unit × Unit) × (List (Int)) × Unit)
abbrev T40x5 := (Int × Int × (List T40x0) × Int × Unit)
abbrev T40x6 := (Sb × Int × Sb × Bool × Int × Unit)
abbrev T40x7 := (Sb × Int × Sb × Int × Unit)
abbrev T40x8 := (Sb × Unit)
abbrev T40x9 := (Sb × Int × Unit)
abbrev T40x10 := (Bool × Int × Unit)
abbrev T40x11 := ((Unit × Unit) × (List Sb) × T40x1 × Unit)
abbrev T40x12 := ((Int × Unit) × Unit × (List Sb) × Unit)

noncomputable def P_law40_awake (x : Unit) : Option (Bool × Unit) := some (true, ())
noncomputable def P_strings_Count (x : (List UInt8) × (List UInt8) × Unit) : Option (Int × Unit) := (S_count x.1 x.2.1).map fun y => (y, ())

noncomputable def P_ref24_Small (x : T40x0 × Unit) : Option (Bool × Unit) :=
  obind (sel (sel (sel (sel (leI (@len UInt8 x.1.2.2.1) (100 : Int))
  (leI (@len UInt8 x.1.2.2.2.1) (100 : Int))
  false)
  (leI (@len UInt8 x.1.2.2.2.2.2.1) (8704 : Int))
  false)
  (leI (@len UInt8 x.1.2.2.2.2.2.2.1) (100 : Int))
  false)
  (obind (P_ref17_FewTexts (x.1.2.2.2.2.1, ())) (fun (y1 : Bool × Unit) => some y1.1))
  (some false)) (fun (y1 : Bool) => some (y1, ()))

noncomputable def P_ref24_Few_L0 (x : (List T40x0) × Int × Unit) (y1 : T40x10 × Unit) : Option ((T40x10 × Unit) ⊕ (Nat × T40x10 × Unit)) :=
  sel (sel (ltI y1.1.2.1 (@len T40x0 x.1))
  (ltI y1.1.2.1 x.2.1)
  false)
  (obind (@idx T40x0 x.1 y1.1.2.1) (fun (y2 : Int × Int × Sb × Sb × (List Sb) × Sb × Sb × Int × Unit) => obind (P_ref24_Small (y2, ())) (fun (y3 : Bool × Unit) => sel (nt y3.1)
  (some (Sum.inr ((1 : Nat), ((false, (y1.1.2.1, ())), ())) : ((T40x10 × Unit)) ⊕ ((Nat × T40x10 × Unit))))
  (some (Sum.inl ((y1.1.1, (iadd IntKind.i64 y1.1.2.1 (1 : Int), ())), ()) : ((T40x10 × Unit)) ⊕ ((Nat × T40x10 × Unit)))))))
  (some (Sum.inr ((0 : Nat), ((y1.1.1, (y1.1.2.1, ())), ())) : ((T40x10 × Unit)) ⊕ ((Nat × T40x10 × Unit))))

noncomputable def P_ref24_Few (x : (List T40x0) × Int × Unit) : Option (Bool × Unit) :=
  obind (Loop (P_ref24_Few_L0 x) ((false, ((0 : Int), ())), ())) (fun (y1 : Nat × T40x10 × Unit) => sel (eqN y1.1 (0 : Nat))
  (some (leI (@len T40x0 x.1) x.2.1, ()))
  (some (y1.2.1.1, ())))

noncomputable def P_ref34_Few_L0 (x : (List T40x5) × Int × Int × Unit) (y1 : (Bool × Int × Int × Unit) × Unit) : Option (((Bool × Int × Int × Unit) × Unit) ⊕ (Nat × (Bool × Int × Int × Unit) × Unit)) :=
  sel (sel (ltI y1.1.2.2.1 (@len T40x5 x.1))
  (ltI y1.1.2.2.1 x.2.1)
  false)
  (obind (@idx T40x5 x.1 y1.1.2.2.1) (fun (y2 : Int × Int × (List T40x0) × Int × Unit) => obind (sel (nt (ltI x.2.2.1 (iadd IntKind.i64 y1.1.2.1 (imin (@len T40x0 y2.2.2.1) (100 : Int)))))
  (obind (@idx T40x5 x.1 y1.1.2.2.1) (fun (y3 : Int × Int × (List T40x0) × Int × Unit) => obind (P_ref24_Few (y3.2.2.1, ((20 : Int), ()))) (fun (y4 : Bool × Unit) => some (nt y4.1))))
  (some true)) (fun (y3 : Bool) => sel y3
  (some (Sum.inr ((1 : Nat), ((false, (iadd IntKind.i64 y1.1.2.1 (imin (@len T40x0 y2.2.2.1) (100 : Int)), (y1.1.2.2.1, ()))), ())) : (((Bool × Int × Int × Unit) × Unit)) ⊕ ((Nat × (Bool × Int × Int × Unit) × Unit))))
  (some (Sum.inl ((y1.1.1, (iadd IntKind.i64 y1.1.2.1 (imin (@len T40x0 y2.2.2.1) (100 : Int)), (iadd IntKind.i64 y1.1.2.2.1 (1 : Int), ()))), ()) : (((Bool × Int × Int × Unit) × Unit)) ⊕ ((Nat × (Bool × Int × Int × Unit) × Unit)))))))
  (some (Sum.inr ((0 : Nat), ((y1.1.1, (y1.1.2.1, (y1.1.2.2.1, ()))), ())) : (((Bool × Int × Int × Unit) × Unit)) ⊕ ((Nat × (Bool × Int × Int × Unit) × Unit))))

noncomputable def P_ref34_Few (x : (List T40x5) × Int × Int × Unit) : Option (Bool × Unit) :=
  obind (Loop (P_ref34_Few_L0 x) ((false, ((0 : Int), ((0 : Int), ()))), ())) (fun (y1 : Nat × (Bool × Int × Int × Unit) × Unit) => sel (eqN y1.1 (0 : Nat))
  (some (leI (@len T40x5 x.1) x.2.1, ()))
  (some (y1.2.1.1, ())))

noncomputable def P_script_texts (x : T40x0 × Unit) : Option ((List Sb) × Unit) :=
  sel (fits (plus (@len Sb ([x.1.2.2.1, x.1.2.2.2.1, x.1.2.2.2.2.2.1, x.1.2.2.2.2.2.2.1] : List Sb)) (@len Sb x.1.2.2.2.2.1)))
  (some (@app Sb ([x.1.2.2.1, x.1.2.2.2.1, x.1.2.2.2.2.2.1, x.1.2.2.2.2.2.2.1] : List Sb) x.1.2.2.2.2.1, ()))
  none

noncomputable def P_script_text (x : Sb × Unit) : Option T40x8 :=
  obind (P_digits_Hex (x.1, ())) (fun (y1 : Sb × Unit) => sel (fits (plus (@len UInt8 ([(61 : UInt8)] : List (UInt8))) (@len UInt8 y1.1)))
  (some (@app UInt8 ([(61 : UInt8)] : List (UInt8)) y1.1, ()))
  none)

noncomputable def P_script_Line_L0 (x : T40x0 × Unit) (y1 : (List Sb) × Unit) (y2 : T40x3 × Unit) : Option ((T40x3 × Unit) ⊕ (Nat × T40x3 × Unit)) :=
  sel (ltI y2.1.2.2.2.1 (@len Sb y1.1))
  (obind (@idx Sb y1.1 y2.1.2.2.2.1) (fun (y3 : List (UInt8)) => sel (sel (nt (ltI (imax (-1 : Int) (isub IntKind.i64 y2.1.2.2.1 (@len UInt8 y3))) (0 : Int)))
  (ltI (16 : Int) (@len Sb x.1.2.2.2.2.1))
  true)
  (some (Sum.inr ((1 : Nat), ((([] : List (UInt8)), ((5 : Int), (imax (-1 : Int) (isub IntKind.i64 y2.1.2.2.1 (@len UInt8 y3)), (y2.1.2.2.2.1, ())))), ())) : ((T40x3 × Unit)) ⊕ ((Nat × T40x3 × Unit))))
  (some (Sum.inl ((y2.1.1, (y2.1.2.1, (imax (-1 : Int) (isub IntKind.i64 y2.1.2.2.1 (@len UInt8 y3)), (iadd IntKind.i64 y2.1.2.2.2.1 (1 : Int), ())))), ()) : ((T40x3 × Unit)) ⊕ ((Nat × T40x3 × Unit))))))
  (some (Sum.inr ((0 : Nat), ((y2.1.1, (y2.1.2.1, (y2.1.2.2.1, (y2.1.2.2.2.1, ())))), ())) : ((T40x3 × Unit)) ⊕ ((Nat × T40x3 × Unit))))

noncomputable def P_script_Line_L1 (x : T40x0 × Unit) (y11 : (Int × Unit) × Unit × (List Sb) × Unit) : Option (T40x12 ⊕ T40x12) :=
  @way1 T40x12 (sel (ltI y11.1.1 (@len Sb x.1.2.2.2.2.1))
  (obind (@idx Sb x.1.2.2.2.2.1 y11.1.1) (fun (y12 : List (UInt8)) => obind (P_script_text (y12, ())) (fun (y13 : Sb × Unit) => obind (sel true
  (sel (fits (plus (@len Sb y11.2.2.1) (@len Sb ([y13.1] : List Sb))))
  (some ((), ((), (@app Sb y11.2.2.1 ([y13.1] : List Sb), ()))))
  none)
  (some ((), ((), (y11.2.2.1, ()))))) (fun (y14 : Unit × Unit × (List Sb) × Unit) => some (Sum.inl ((iadd IntKind.i64 y11.1.1 (1 : Int), ()), ((), (y14.2.2.1, ()))) : (T40x12) ⊕ ((Nat × (Int × Unit) × Unit × (List Sb) × Unit)))))))
  (some (Sum.inr ((0 : Nat), ((y11.1.1, ()), ((), (y11.2.2.1, ())))) : (T40x12) ⊕ ((Nat × (Int × Unit) × Unit × (List Sb) × Unit)))))

noncomputable def P_script_Line (x : T40x0 × Unit) : Option T40x9 :=
  obind (P_script_texts (x.1, ())) (fun (y1 : (List Sb) × Unit) => obind (Loop (P_script_Line_L0 x y1) ((([] : List (UInt8)), ((0 : Int), ((65536 : Int), ((0 : Int), ())))), ())) (fun (y2 : Nat × T40x3 × Unit) => sel (eqN y2.1 (0 : Nat))
  (obind (P_digits_Dec (x.1.1, ())) (fun (y3 : Sb × Unit) => obind (P_digits_Dec (x.1.2.1, ())) (fun (y4 : Sb × Unit) => obind (sel (nt (eqI x.1.2.1 (0 : Int)))
  (sel (fits (plus (@len Sb ([y3.1] : List Sb)) (@len Sb ([([(111 : UInt8), (102 : UInt8)] : List (UInt8)), y4.1] : List Sb))))
  (some ((), ((), (@app Sb ([y3.1] : List Sb) ([([(111 : UInt8), (102 : UInt8)] : List (UInt8)), y4.1] : List Sb), ()))))
  none)
  (some ((), ((), (([y3.1] : List Sb), ()))))) (fun (y5 : Unit × Unit × (List Sb) × Unit) => obind (P_script_text (x.1.2.2.1, ())) (fun (y6 : Sb × Unit) => obind (sel (nt (eqS x.1.2.2.1 ([] : List (UInt8))))
  (sel (fits (plus (@len Sb y5.2.2.1) (@len Sb ([([(114 : UInt8), (101 : UInt8), (102 : UInt8)] : List (UInt8)), y6.1] : List Sb))))
  (some ((), ((), (@app Sb y5.2.2.1 ([([(114 : UInt8), (101 : UInt8), (102 : UInt8)] : List (UInt8)), y6.1] : List Sb), ()))))
  none)
  (some ((), ((), (y5.2.2.1, ()))))) (fun (y7 : Unit × Unit × (List Sb) × Unit) => obind (P_script_text (x.1.2.2.2.1, ())) (fun (y8 : Sb × Unit) => obind (sel (nt (eqS x.1.2.2.2.1 ([] : List (UInt8))))
  (sel (fits (plus (@len Sb y7.2.2.1) (@len Sb ([([(111 : UInt8), (110 : UInt8)] : List (UInt8)), y8.1] : List Sb))))
  (some ((), ((), (@app Sb y7.2.2.1 ([([(111 : UInt8), (110 : UInt8)] : List (UInt8)), y8.1] : List Sb), ()))))
  none)
  (some ((), ((), (y7.2.2.1, ()))))) (fun (y9 : Unit × Unit × (List Sb) × Unit) => obind (sel (ltI (0 : Int) (@len Sb x.1.2.2.2.2.1))
  (sel (fits (plus (@len Sb y9.2.2.1) (@len Sb ([([(110 : UInt8), (97 : UInt8), (109 : UInt8), (101 : UInt8), (115 : UInt8)] : List (UInt8))] : List Sb))))
  (some ((), ((), (@app Sb y9.2.2.1 ([([(110 : UInt8), (97 : UInt8), (109 : UInt8), (101 : UInt8), (115 : UInt8)] : List (UInt8))] : List Sb), ()))))
  none)
  (some ((), ((), (y9.2.2.1, ()))))) (fun (y10 : Unit × Unit × (List Sb) × Unit) => obind (Loop (P_script_Line_L1 x) (((0 : Int), ()), ((), (y10.2.2.1, ())))) (fun (y11 : (Int × Unit) × Unit × (List Sb) × Unit) => obind (P_script_text (x.1.2.2.2.2.2.1, ())) (fun (y12 : Sb × Unit) => obind (sel (nt (eqS x.1.2.2.2.2.2.1 ([] : List (UInt8))))
  (sel (fits (plus (@len Sb y11.2.2.1) (@len Sb ([([(100 : UInt8), (97 : UInt8), (116 : UInt8), (97 : UInt8)] : List (UInt8)), y12.1] : List Sb))))
  (some ((), ((), (@app Sb y11.2.2.1 ([([(100 : UInt8), (97 : UInt8), (116 : UInt8), (97 : UInt8)] : List (UInt8)), y12.1] : List Sb), ()))))
  none)
  (some ((), ((), (y11.2.2.1, ()))))) (fun (y13 : Unit × Unit × (List Sb) × Unit) => obind (P_script_text (x.1.2.2.2.2.2.2.1, ())) (fun (y14 : Sb × Unit) => obind (sel (nt (eqS x.1.2.2.2.2.2.2.1 ([] : List (UInt8))))
  (sel (fits (plus (@len Sb y13.2.2.1) (@len Sb ([([(107 : UInt8), (101 : UInt8), (121 : UInt8)] : List (UInt8)), y14.1] : List Sb))))
  (some ((), ((), (@app Sb y13.2.2.1 ([([(107 : UInt8), (101 : UInt8), (121 : UInt8)] : List (UInt8)), y14.1] : List Sb), ()))))
  none)
  (some ((), ((), (y13.2.2.1, ()))))) (fun (y15 : Unit × Unit × (List Sb) × Unit) => obind (P_digits_Dec (x.1.2.2.2.2.2.2.2.1, ())) (fun (y16 : Sb × Unit) => obind (sel (nt (eqI x.1.2.2.2.2.2.2.2.1 (0 : Int)))
  (sel (fits (plus (@len Sb y15.2.2.1) (@len Sb ([([(100 : UInt8), (114 : UInt8), (97 : UInt8), (119 : UInt8), (110 : UInt8)] : List (UInt8)), y16.1] : List Sb))))
  (some ((), ((), (@app Sb y15.2.2.1 ([([(100 : UInt8), (114 : UInt8), (97 : UInt8), (119 : UInt8), (110 : UInt8)] : List (UInt8)), y16.1] : List Sb), ()))))
  none)
  (some ((), ((), (y15.2.2.1, ()))))) (fun (y17 : Unit × Unit × (List Sb) × Unit) => obind (P_strings_Join (y17.2.2.1, (([(32 : UInt8)] : List (UInt8)), ()))) (fun (y18 : Sb × Unit) => some (y18.1, ((0 : Int), ())))))))))))))))))))
  (some (y2.2.1.1, (y2.2.1.2.1, ())))))

noncomputable def P_script_isAct (x : T40x5 × Unit) : Option (Bool × Unit) :=
  sel (eqI x.1.1 (1 : Int))
  (some (sel (eqI x.1.2.2.2.1 (0 : Int))
  (leI (@len T40x0 x.1.2.2.1) (16 : Int))
  false, ()))
  (sel (((sel (eqI x.1.1 (2 : Int))
  ((eqI x.1.1 (2 : Int), ()), ())
  ((eqI x.1.1 (3 : Int), ()), ())).1).1)
  (some (sel (eqI x.1.2.2.2.1 (0 : Int))
  (eqI (@len T40x0 x.1.2.2.1) (0 : Int))
  false, ()))
  (sel (eqI x.1.1 (4 : Int))
  (some (sel (eqI x.1.2.1 (0 : Int))
  (eqI (@len T40x0 x.1.2.2.1) (0 : Int))
  false, ()))
  (some (false, ()))))

noncomputable def P_script_Text_L1 (y3 : Int × Int × (List T40x0) × Int × Unit) (y8 : (Sb × Int × Int × Unit) × (Unit × Unit × Unit) × (List (Int)) × Unit) : Option (T40x4 ⊕ T40x2) :=
  sel (ltI y8.1.2.2.1 (@len T40x0 y3.2.2.1))
  (obind (@idx T40x0 y3.2.2.1 y8.1.2.2.1) (fun (y9 : Int × Int × Sb × Sb × (List Sb) × Sb × Sb × Int × Unit) => obind (P_script_Line (y9, ())) (fun (y10 : Sb × Int × Unit) => sel (nt (eqI y10.2.1 (0 : Int)))
  (some (Sum.inr ((1 : Nat), ((([] : List (UInt8)), ((1 : Int), (y8.1.2.2.1, ()))), (((), ((), y8.2.1.2.2)), (y8.2.2.1, ())))) : (T40x4) ⊕ (T40x2)))
  (sel (fits (plus (@len UInt8 ([(100 : UInt8), (111 : UInt8), (32 : UInt8)] : List (UInt8))) (@len UInt8 y10.1)))
  (sel (fits (plus (@len UInt8 (@app UInt8 ([(100 : UInt8), (111 : UInt8), (32 : UInt8)] : List (UInt8)) y10.1)) (@len UInt8 ([(10 : UInt8)] : List (UInt8)))))
  (obind (sel (leI (@len Int y8.2.2.1) (1048576 : Int))
  (sel (fits (plus (@len Int y8.2.2.1) (@len Int (bytesInts (@app UInt8 (@app UInt8 ([(100 : UInt8), (111 : UInt8), (32 : UInt8)] : List (UInt8)) y10.1) ([(10 : UInt8)] : List (UInt8)))))))
  (some ((), (((), ((), y8.2.1.2.2)), (@app Int y8.2.2.1 (bytesInts (@app UInt8 (@app UInt8 ([(100 : UInt8), (111 : UInt8), (32 : UInt8)] : List (UInt8)) y10.1) ([(10 : UInt8)] : List (UInt8)))), ()))))
  none)
  (some ((), (((), ((), y8.2.1.2.2)), (y8.2.2.1, ()))))) (fun (y11 : Unit × (Unit × Unit × Unit) × (List (Int)) × Unit) => some (Sum.inl ((y8.1.1, (y8.1.2.1, (iadd IntKind.i64 y8.1.2.2.1 (1 : Int), ()))), (((), ((), y11.2.1.2.2)), (y11.2.2.1, ()))) : (T40x4) ⊕ (T40x2))))
  none)
  none))))
  (some (Sum.inr ((0 : Nat), ((y8.1.1, (y8.1.2.1, (y8.1.2.2.1, ()))), (((), ((), y8.2.1.2.2)), (y8.2.2.1, ())))) : (T40x4) ⊕ (T40x2)))

noncomputable def P_script_Text_L0 (x : Int × (List T40x5) × Unit) (y2 : (Sb × Int × Int × Unit) × (Unit × Unit × Unit) × (List (Int)) × Unit) : Option (T40x4 ⊕ T40x2) :=
  sel (ltI y2.1.2.2.1 (@len T40x5 x.2.1))
  (obind (@idx T40x5 x.2.1 y2.1.2.2.1) (fun (y3 : Int × Int × (List T40x0) × Int × Unit) => obind (P_script_isAct (y3, ())) (fun (y4 : Bool × Unit) => sel (nt y4.1)
  (some (Sum.inr ((1 : Nat), ((([] : List (UInt8)), ((1 : Int), (y2.1.2.2.1, ()))), (((), ((), y2.2.1.2.2)), (y2.2.2.1, ())))) : (T40x4) ⊕ (T40x2)))
  (sel (within y3.1 (5 : Int))
  (obind (@idx Sb ([([] : List (UInt8)), ([(115 : UInt8), (112 : UInt8), (97 : UInt8), (119 : UInt8), (110 : UInt8)] : List (UInt8)), ([(112 : UInt8), (105 : UInt8), (99 : UInt8), (107 : UInt8)] : List (UInt8)), ([(107 : UInt8), (105 : UInt8), (108 : UInt8), (108 : UInt8)] : List (UInt8)), ([(112 : UInt8), (111 : UInt8), (119 : UInt8), (101 : UInt8), (114 : UInt8)] : List (UInt8))] : List Sb) y3.1) (fun (y5 : List (UInt8)) => sel (fits (plus (@len UInt8 y5) (@len UInt8 ([(32 : UInt8)] : List (UInt8)))))
  (obind (P_digits_Dec (iadd IntKind.i64 y3.2.1 y3.2.2.2.1, ())) (fun (y6 : Sb × Unit) => sel (fits (plus (@len UInt8 (@app UInt8 y5 ([(32 : UInt8)] : List (UInt8)))) (@len UInt8 y6.1)))
  (sel (fits (plus (@len UInt8 (@app UInt8 (@app UInt8 y5 ([(32 : UInt8)] : List (UInt8))) y6.1)) (@len UInt8 ([(10 : UInt8)] : List (UInt8)))))
  (obind (sel (leI (@len Int y2.2.2.1) (1048576 : Int))
  (sel (fits (plus (@len Int y2.2.2.1) (@len Int (bytesInts (@app UInt8 (@app UInt8 (@app UInt8 y5 ([(32 : UInt8)] : List (UInt8))) y6.1) ([(10 : UInt8)] : List (UInt8)))))))
  (some ((), (((), ((), y2.2.1.2.2)), (@app Int y2.2.2.1 (bytesInts (@app UInt8 (@app UInt8 (@app UInt8 y5 ([(32 : UInt8)] : List (UInt8))) y6.1) ([(10 : UInt8)] : List (UInt8)))), ()))))
  none)
  (some ((), (((), ((), y2.2.1.2.2)), (y2.2.2.1, ()))))) (fun (y7 : Unit × (Unit × Unit × Unit) × (List (Int)) × Unit) => obind (Loop (P_script_Text_L1 y3) ((y2.1.1, (y2.1.2.1, ((0 : Int), ()))), (((), ((), y7.2.1.2.2)), (y7.2.2.1, ())))) (fun (y8 : Nat × (Sb × Int × Int × Unit) × (Unit × Unit × Unit) × (List (Int)) × Unit) => sel (eqN y8.1 (0 : Nat))
  (some (Sum.inl ((y8.2.1.1, (y8.2.1.2.1, (iadd IntKind.i64 y2.1.2.2.1 (1 : Int), ()))), (((), ((), y8.2.2.1.2.2)), (y8.2.2.2.1, ()))) : (T40x4) ⊕ (T40x2)))
  (some (Sum.inr ((1 : Nat), ((y8.2.1.1, (y8.2.1.2.1, (y2.1.2.2.1, ()))), (((), ((), y8.2.2.1.2.2)), (y8.2.2.2.1, ())))) : (T40x4) ⊕ (T40x2))))))
  none)
  none))
  none))
  none))))
  (some (Sum.inr ((0 : Nat), ((y2.1.1, (y2.1.2.1, (y2.1.2.2.1, ()))), (((), ((), y2.2.1.2.2)), (y2.2.2.1, ())))) : (T40x4) ⊕ (T40x2)))

noncomputable def P_script_Text (x : Int × (List T40x5) × Unit) : Option T40x9 :=
  sel (sel (nt (sel (nt (ltI x.1 (64 : Int)))
  (ltI (1099511627776 : Int) x.1)
  true))
  (ltI (16384 : Int) (@len T40x5 x.2.1))
  true)
  (some (([] : List (UInt8)), ((1 : Int), ())))
  (obind (P_digits_Dec (x.1, ())) (fun (y1 : Sb × Unit) => sel (fits (plus (@len UInt8 ([(113 : UInt8), (117 : UInt8), (111 : UInt8), (116 : UInt8), (97 : UInt8), (32 : UInt8)] : List (UInt8))) (@len UInt8 y1.1)))
  (sel (fits (plus (@len UInt8 (@app UInt8 ([(113 : UInt8), (117 : UInt8), (111 : UInt8), (116 : UInt8), (97 : UInt8), (32 : UInt8)] : List (UInt8)) y1.1)) (@len UInt8 ([(10 : UInt8)] : List (UInt8)))))
  (sel (fits (plus (@len Int ([] : List (Int))) (@len Int (bytesInts (@app UInt8 (@app UInt8 ([(113 : UInt8), (117 : UInt8), (111 : UInt8), (116 : UInt8), (97 : UInt8), (32 : UInt8)] : List (UInt8)) y1.1) ([(10 : UInt8)] : List (UInt8)))))))
  (obind (Loop (P_script_Text_L0 x) ((([] : List (UInt8)), ((0 : Int), ((0 : Int), ()))), (((), ((), ())), (@app Int ([] : List (Int)) (bytesInts (@app UInt8 (@app UInt8 ([(113 : UInt8), (117 : UInt8), (111 : UInt8), (116 : UInt8), (97 : UInt8), (32 : UInt8)] : List (UInt8)) y1.1) ([(10 : UInt8)] : List (UInt8)))), ())))) (fun (y2 : Nat × (Sb × Int × Int × Unit) × (Unit × Unit × Unit) × (List (Int)) × Unit) => sel (eqN y2.1 (0 : Nat))
  (sel (ltI (1048576 : Int) (@len Int y2.2.2.2.1))
  (some (([] : List (UInt8)), ((5 : Int), ())))
  (some (intsBytes y2.2.2.2.1, ((0 : Int), ()))))
  (some (y2.2.1.1, (y2.2.1.2.1, ())))))
  none)
  none)
  none))

noncomputable def P_ref40_Line_L0 (x : T40x0 × Unit) (y1 : T40x3 × Unit) : Option ((T40x3 × Unit) ⊕ (Nat × T40x3 × Unit)) :=
  sel (ltI y1.1.2.2.2.1 (@len Sb (@app Sb ([x.1.2.2.1, x.1.2.2.2.1, x.1.2.2.2.2.2.1, x.1.2.2.2.2.2.2.1] : List Sb) x.1.2.2.2.2.1)))
  (sel (within y1.1.2.2.2.1 (@len Sb (@app Sb ([x.1.2.2.1, x.1.2.2.2.1, x.1.2.2.2.2.2.1, x.1.2.2.2.2.2.2.1] : List Sb) x.1.2.2.2.2.1)))
  (obind (@idx Sb (@app Sb ([x.1.2.2.1, x.1.2.2.2.1, x.1.2.2.2.2.2.1, x.1.2.2.2.2.2.2.1] : List Sb) x.1.2.2.2.2.1) y1.1.2.2.2.1) (fun (y2 : List (UInt8)) => sel (ltI (65536 : Int) (@len UInt8 y2))
  (some (Sum.inr ((1 : Nat), ((([] : List (UInt8)), ((5 : Int), (y1.1.2.2.1, (y1.1.2.2.2.1, ())))), ())) : ((T40x3 × Unit)) ⊕ ((Nat × T40x3 × Unit))))
  (sel (within y1.1.2.2.2.1 (@len Sb (@app Sb ([x.1.2.2.1, x.1.2.2.2.1, x.1.2.2.2.2.2.1, x.1.2.2.2.2.2.2.1] : List Sb) x.1.2.2.2.2.1)))
  (obind (@idx Sb (@app Sb ([x.1.2.2.1, x.1.2.2.2.1, x.1.2.2.2.2.2.1, x.1.2.2.2.2.2.2.1] : List Sb) x.1.2.2.2.2.1) y1.1.2.2.2.1) (fun (y3 : List (UInt8)) => some (Sum.inl ((y1.1.1, (y1.1.2.1, (iadd IntKind.i64 y1.1.2.2.1 (@len UInt8 y3), (iadd IntKind.i64 y1.1.2.2.2.1 (1 : Int), ())))), ()) : ((T40x3 × Unit)) ⊕ ((Nat × T40x3 × Unit)))))
  none)))
  none)
  (some (Sum.inr ((0 : Nat), ((y1.1.1, (y1.1.2.1, (y1.1.2.2.1, (y1.1.2.2.2.1, ())))), ())) : ((T40x3 × Unit)) ⊕ ((Nat × T40x3 × Unit))))

noncomputable def P_ref40_Line_L1 (x : T40x0 × Unit) (y6 : T40x9 × Unit) : Option ((T40x9 × Unit) ⊕ (T40x9 × Unit)) :=
  @way1 (T40x9 × Unit) (sel (ltI y6.1.2.1 (@len Sb x.1.2.2.2.2.1))
  (sel (fits (plus (@len UInt8 y6.1.1) (@len UInt8 ([(32 : UInt8), (61 : UInt8)] : List (UInt8)))))
  (obind (@idx Sb x.1.2.2.2.2.1 y6.1.2.1) (fun (y7 : List (UInt8)) => obind (P_ref01_Hex (y7, ())) (fun (y8 : Sb × Unit) => sel (fits (plus (@len UInt8 (@app UInt8 y6.1.1 ([(32 : UInt8), (61 : UInt8)] : List (UInt8)))) (@len UInt8 y8.1)))
  (some (Sum.inl ((@app UInt8 (@app UInt8 y6.1.1 ([(32 : UInt8), (61 : UInt8)] : List (UInt8))) y8.1, (iadd IntKind.i64 y6.1.2.1 (1 : Int), ())), ()) : ((T40x9 × Unit)) ⊕ ((Nat × T40x9 × Unit))))
  none)))
  none)
  (some (Sum.inr ((0 : Nat), ((y6.1.1, (y6.1.2.1, ())), ())) : ((T40x9 × Unit)) ⊕ ((Nat × T40x9 × Unit)))))

noncomputable def P_ref40_Line (x : T40x0 × Unit) : Option T40x9 :=
  sel (ltI (16 : Int) (@len Sb x.1.2.2.2.2.1))
  (some (([] : List (UInt8)), ((5 : Int), ())))
  (sel (fits (plus (@len Sb ([x.1.2.2.1, x.1.2.2.2.1, x.1.2.2.2.2.2.1, x.1.2.2.2.2.2.2.1] : List Sb)) (@len Sb x.1.2.2.2.2.1)))
  (obind (Loop (P_ref40_Line_L0 x) ((([] : List (UInt8)), ((0 : Int), ((0 : Int), ((0 : Int), ())))), ())) (fun (y1 : Nat × T40x3 × Unit) => sel (eqN y1.1 (0 : Nat))
  (sel (ltI (65536 : Int) y1.2.1.2.2.1)
  (some (([] : List (UInt8)), ((5 : Int), ())))
  (obind (P_ref01_Dec (x.1.1, ())) (fun (y2 : Sb × Unit) => obind (sel (nt (eqI x.1.2.1 (0 : Int)))
  (sel (fits (plus (@len UInt8 y2.1) (@len UInt8 ([(32 : UInt8), (111 : UInt8), (102 : UInt8), (32 : UInt8)] : List (UInt8)))))
  (obind (P_ref01_Dec (x.1.2.1, ())) (fun (y3 : Sb × Unit) => sel (fits (plus (@len UInt8 (@app UInt8 y2.1 ([(32 : UInt8), (111 : UInt8), (102 : UInt8), (32 : UInt8)] : List (UInt8)))) (@len UInt8 y3.1)))
  (some ((@app UInt8 (@app UInt8 y2.1 ([(32 : UInt8), (111 : UInt8), (102 : UInt8), (32 : UInt8)] : List (UInt8))) y3.1, ()), ()))
  none))
  none)
  (some ((y2.1, ()), ()))) (fun (y3 : T40x8 × Unit) => obind (sel (nt (eqS x.1.2.2.1 ([] : List (UInt8))))
  (sel (fits (plus (@len UInt8 y3.1.1) (@len UInt8 ([(32 : UInt8), (114 : UInt8), (101 : UInt8), (102 : UInt8), (32 : UInt8), (61 : UInt8)] : List (UInt8)))))
  (obind (P_ref01_Hex (x.1.2.2.1, ())) (fun (y4 : Sb × Unit) => sel (fits (plus (@len UInt8 (@app UInt8 y3.1.1 ([(32 : UInt8), (114 : UInt8), (101 : UInt8), (102 : UInt8), (32 : UInt8), (61 : UInt8)] : List (UInt8)))) (@len UInt8 y4.1)))
  (some ((@app UInt8 (@app UInt8 y3.1.1 ([(32 : UInt8), (114 : UInt8), (101 : UInt8), (102 : UInt8), (32 : UInt8), (61 : UInt8)] : List (UInt8))) y4.1, ()), ()))
  none))
  none)
  (some ((y3.1.1, ()), ()))) (fun (y4 : T40x8 × Unit) => obind (sel (nt (eqS x.1.2.2.2.1 ([] : List (UInt8))))
  (sel (fits (plus (@len UInt8 y4.1.1) (@len UInt8 ([(32 : UInt8), (111 : UInt8), (110 : UInt8), (32 : UInt8), (61 : UInt8)] : List (UInt8)))))
  (obind (P_ref01_Hex (x.1.2.2.2.1, ())) (fun (y5 : Sb × Unit) => sel (fits (plus (@len UInt8 (@app UInt8 y4.1.1 ([(32 : UInt8), (111 : UInt8), (110 : UInt8), (32 : UInt8), (61 : UInt8)] : List (UInt8)))) (@len UInt8 y5.1)))
  (some ((@app UInt8 (@app UInt8 y4.1.1 ([(32 : UInt8), (111 : UInt8), (110 : UInt8), (32 : UInt8), (61 : UInt8)] : List (UInt8))) y5.1, ()), ()))
  none))
  none)
  (some ((y4.1.1, ()), ()))) (fun (y5 : T40x8 × Unit) => obind (sel (ltI (0 : Int) (@len Sb x.1.2.2.2.2.1))
  (sel (fits (plus (@len UInt8 y5.1.1) (@len UInt8 ([(32 : UInt8), (110 : UInt8), (97 : UInt8), (109 : UInt8), (101 : UInt8), (115 : UInt8)] : List (UInt8)))))
  (obind (Loop (P_ref40_Line_L1 x) ((@app UInt8 y5.1.1 ([(32 : UInt8), (110 : UInt8), (97 : UInt8), (109 : UInt8), (101 : UInt8), (115 : UInt8)] : List (UInt8)), ((0 : Int), ())), ())) (fun (y6 : T40x9 × Unit) => some ((y6.1.1, ()), ())))
  none)
  (some ((y5.1.1, ()), ()))) (fun (y6 : T40x8 × Unit) => obind (sel (nt (eqS x.1.2.2.2.2.2.1 ([] : List (UInt8))))
  (sel (fits (plus (@len UInt8 y6.1.1) (@len UInt8 ([(32 : UInt8), (100 : UInt8), (97 : UInt8), (116 : UInt8), (97 : UInt8), (32 : UInt8), (61 : UInt8)] : List (UInt8)))))
  (obind (P_ref01_Hex (x.1.2.2.2.2.2.1, ())) (fun (y7 : Sb × Unit) => sel (fits (plus (@len UInt8 (@app UInt8 y6.1.1 ([(32 : UInt8), (100 : UInt8), (97 : UInt8), (116 : UInt8), (97 : UInt8), (32 : UInt8), (61 : UInt8)] : List (UInt8)))) (@len UInt8 y7.1)))
  (some ((@app UInt8 (@app UInt8 y6.1.1 ([(32 : UInt8), (100 : UInt8), (97 : UInt8), (116 : UInt8), (97 : UInt8), (32 : UInt8), (61 : UInt8)] : List (UInt8))) y7.1, ()), ()))
  none))
  none)
  (some ((y6.1.1, ()), ()))) (fun (y7 : T40x8 × Unit) => obind (sel (nt (eqS x.1.2.2.2.2.2.2.1 ([] : List (UInt8))))
  (sel (fits (plus (@len UInt8 y7.1.1) (@len UInt8 ([(32 : UInt8), (107 : UInt8), (101 : UInt8), (121 : UInt8), (32 : UInt8), (61 : UInt8)] : List (UInt8)))))
  (obind (P_ref01_Hex (x.1.2.2.2.2.2.2.1, ())) (fun (y8 : Sb × Unit) => sel (fits (plus (@len UInt8 (@app UInt8 y7.1.1 ([(32 : UInt8), (107 : UInt8), (101 : UInt8), (121 : UInt8), (32 : UInt8), (61 : UInt8)] : List (UInt8)))) (@len UInt8 y8.1)))
  (some ((@app UInt8 (@app UInt8 y7.1.1 ([(32 : UInt8), (107 : UInt8), (101 : UInt8), (121 : UInt8), (32 : UInt8), (61 : UInt8)] : List (UInt8))) y8.1, ()), ()))
  none))
  none)
  (some ((y7.1.1, ()), ()))) (fun (y8 : T40x8 × Unit) => obind (sel (nt (eqI x.1.2.2.2.2.2.2.2.1 (0 : Int)))
  (sel (fits (plus (@len UInt8 y8.1.1) (@len UInt8 ([(32 : UInt8), (100 : UInt8), (114 : UInt8), (97 : UInt8), (119 : UInt8), (110 : UInt8), (32 : UInt8)] : List (UInt8)))))
  (obind (P_ref01_Dec (x.1.2.2.2.2.2.2.2.1, ())) (fun (y9 : Sb × Unit) => sel (fits (plus (@len UInt8 (@app UInt8 y8.1.1 ([(32 : UInt8), (100 : UInt8), (114 : UInt8), (97 : UInt8), (119 : UInt8), (110 : UInt8), (32 : UInt8)] : List (UInt8)))) (@len UInt8 y9.1)))
  (some ((@app UInt8 (@app UInt8 y8.1.1 ([(32 : UInt8), (100 : UInt8), (114 : UInt8), (97 : UInt8), (119 : UInt8), (110 : UInt8), (32 : UInt8)] : List (UInt8))) y9.1, ()), ()))
  none))
  none)
  (some ((y8.1.1, ()), ()))) (fun (y9 : T40x8 × Unit) => some (y9.1.1, ((0 : Int), ()))))))))))))
  (some (y1.2.1.1, (y1.2.1.2.1, ())))))
  none)

noncomputable def P_ref40_Text_L1 (y3 : Int × Int × (List T40x0) × Int × Unit) (y6 : T40x7 × Unit) : Option ((T40x7 × Unit) ⊕ (Nat × T40x7 × Unit)) :=
  sel (ltI y6.1.2.2.2.1 (@len T40x0 y3.2.2.1))
  (obind (@idx T40x0 y3.2.2.1 y6.1.2.2.2.1) (fun (y7 : Int × Int × Sb × Sb × (List Sb) × Sb × Sb × Int × Unit) => obind (P_ref40_Line (y7, ())) (fun (y8 : Sb × Int × Unit) => sel (nt (eqI y8.2.1 (0 : Int)))
  (some (Sum.inr ((1 : Nat), ((([] : List (UInt8)), ((1 : Int), (y6.1.2.2.1, (y6.1.2.2.2.1, ())))), ())) : ((T40x7 × Unit)) ⊕ ((Nat × T40x7 × Unit))))
  (sel (fits (plus (@len UInt8 y6.1.2.2.1) (@len UInt8 ([(100 : UInt8), (111 : UInt8), (32 : UInt8)] : List (UInt8)))))
  (sel (fits (plus (@len UInt8 (@app UInt8 y6.1.2.2.1 ([(100 : UInt8), (111 : UInt8), (32 : UInt8)] : List (UInt8)))) (@len UInt8 y8.1)))
  (sel (fits (plus (@len UInt8 (@app UInt8 (@app UInt8 y6.1.2.2.1 ([(100 : UInt8), (111 : UInt8), (32 : UInt8)] : List (UInt8))) y8.1)) (@len UInt8 ([(10 : UInt8)] : List (UInt8)))))
  (some (Sum.inl ((y6.1.1, (y6.1.2.1, (@app UInt8 (@app UInt8 (@app UInt8 y6.1.2.2.1 ([(100 : UInt8), (111 : UInt8), (32 : UInt8)] : List (UInt8))) y8.1) ([(10 : UInt8)] : List (UInt8)), (iadd IntKind.i64 y6.1.2.2.2.1 (1 : Int), ())))), ()) : ((T40x7 × Unit)) ⊕ ((Nat × T40x7 × Unit))))
  none)
  none)
  none))))
  (some (Sum.inr ((0 : Nat), ((y6.1.1, (y6.1.2.1, (y6.1.2.2.1, (y6.1.2.2.2.1, ())))), ())) : ((T40x7 × Unit)) ⊕ ((Nat × T40x7 × Unit))))

noncomputable def P_ref40_Text_L0 (x : Int × (List T40x5) × Unit) (y2 : T40x6 × Unit) : Option ((T40x6 × Unit) ⊕ (Nat × T40x6 × Unit)) :=
  sel (ltI y2.1.2.2.2.2.1 (@len T40x5 x.2.1))
  (obind (@idx T40x5 x.2.1 y2.1.2.2.2.2.1) (fun (y3 : Int × Int × (List T40x0) × Int × Unit) => sel (sel (nt (sel (nt (sel (nt (sel (nt (sel (nt (ltI y3.1 (1 : Int)))
  (ltI (4 : Int) y3.1)
  true))
  (sel (nt (eqI y3.1 (1 : Int)))
  (ltI (0 : Int) (@len T40x0 y3.2.2.1))
  false)
  true))
  (sel (eqI y3.1 (4 : Int))
  (nt (eqI y3.2.1 (0 : Int)))
  false)
  true))
  (sel (nt (eqI y3.1 (4 : Int)))
  (nt (eqI y3.2.2.2.1 (0 : Int)))
  false)
  true))
  (ltI (16 : Int) (@len T40x0 y3.2.2.1))
  true)
  (some (Sum.inr ((1 : Nat), ((([] : List (UInt8)), ((1 : Int), (y2.1.2.2.1, (y2.1.2.2.2.1, (y2.1.2.2.2.2.1, ()))))), ())) : ((T40x6 × Unit)) ⊕ ((Nat × T40x6 × Unit))))
  (obind (@idx Sb ([([] : List (UInt8)), ([(115 : UInt8), (112 : UInt8), (97 : UInt8), (119 : UInt8), (110 : UInt8)] : List (UInt8)), ([(112 : UInt8), (105 : UInt8), (99 : UInt8), (107 : UInt8)] : List (UInt8)), ([(107 : UInt8), (105 : UInt8), (108 : UInt8), (108 : UInt8)] : List (UInt8)), ([(112 : UInt8), (111 : UInt8), (119 : UInt8), (101 : UInt8), (114 : UInt8)] : List (UInt8))] : List Sb) y3.1) (fun (y4 : List (UInt8)) => sel (fits (plus (@len UInt8 y4) (@len UInt8 ([(32 : UInt8)] : List (UInt8)))))
  (obind (P_ref01_Dec (((sel (eqI y3.1 (4 : Int))
  ((y3.2.2.2.1, ()), ())
  ((y3.2.1, ()), ())).1).1, ())) (fun (y5 : Sb × Unit) => sel (fits (plus (@len UInt8 (@app UInt8 y4 ([(32 : UInt8)] : List (UInt8)))) (@len UInt8 y5.1)))
  (sel (fits (plus (@len UInt8 (@app UInt8 (@app UInt8 y4 ([(32 : UInt8)] : List (UInt8))) y5.1)) (@len UInt8 ([(10 : UInt8)] : List (UInt8)))))
  (obind (Loop (P_ref40_Text_L1 y3) ((y2.1.1, (y2.1.2.1, (@app UInt8 (@app UInt8 (@app UInt8 y4 ([(32 : UInt8)] : List (UInt8))) y5.1) ([(10 : UInt8)] : List (UInt8)), ((0 : Int), ())))), ())) (fun (y6 : Nat × T40x7 × Unit) => sel (eqN y6.1 (0 : Nat))
  (obind (sel (nt (sel (nt y2.1.2.2.2.1)
  (ltI (1048576 : Int) (iadd IntKind.i64 (@len UInt8 y2.1.2.2.1) (@len UInt8 y6.2.1.2.2.1)))
  true))
  (sel (fits (plus (@len UInt8 y2.1.2.2.1) (@len UInt8 y6.2.1.2.2.1)))
  (some ((@app UInt8 y2.1.2.2.1 y6.2.1.2.2.1, ()), ()))
  none)
  (some ((y2.1.2.2.1, ()), ()))) (fun (y7 : T40x8 × Unit) => some (Sum.inl ((y6.2.1.1, (y6.2.1.2.1, (y7.1.1, (sel (nt y2.1.2.2.2.1)
  (ltI (1048576 : Int) (iadd IntKind.i64 (@len UInt8 y2.1.2.2.1) (@len UInt8 y6.2.1.2.2.1)))
  true, (iadd IntKind.i64 y2.1.2.2.2.2.1 (1 : Int), ()))))), ()) : ((T40x6 × Unit)) ⊕ ((Nat × T40x6 × Unit)))))
  (some (Sum.inr ((1 : Nat), ((y6.2.1.1, (y6.2.1.2.1, (y2.1.2.2.1, (y2.1.2.2.2.1, (y2.1.2.2.2.2.1, ()))))), ())) : ((T40x6 × Unit)) ⊕ ((Nat × T40x6 × Unit))))))
  none)
  none))
  none))))
  (some (Sum.inr ((0 : Nat), ((y2.1.1, (y2.1.2.1, (y2.1.2.2.1, (y2.1.2.2.2.1, (y2.1.2.2.2.2.1, ()))))), ())) : ((T40x6 × Unit)) ⊕ ((Nat × T40x6 × Unit))))

noncomputable def P_ref40_Text (x : Int × (List T40x5) × Unit) : Option T40x9 :=
  sel (sel (nt (sel (nt (ltI x.1 (64 : Int)))
  (ltI (1099511627776 : Int) x.1)
  true))
  (ltI (16384 : Int) (@len T40x5 x.2.1))
  true)
  (some (([] : List (UInt8)), ((1 : Int), ())))
  (obind (P_ref01_Dec (x.1, ())) (fun (y1 : Sb × Unit) => sel (fits (plus (@len UInt8 ([(113 : UInt8), (117 : UInt8), (111 : UInt8), (116 : UInt8), (97 : UInt8), (32 : UInt8)] : List (UInt8))) (@len UInt8 y1.1)))
  (sel (fits (plus (@len UInt8 (@app UInt8 ([(113 : UInt8), (117 : UInt8), (111 : UInt8), (116 : UInt8), (97 : UInt8), (32 : UInt8)] : List (UInt8)) y1.1)) (@len UInt8 ([(10 : UInt8)] : List (UInt8)))))
  (obind (Loop (P_ref40_Text_L0 x) ((([] : List (UInt8)), ((0 : Int), (@app UInt8 (@app UInt8 ([(113 : UInt8), (117 : UInt8), (111 : UInt8), (116 : UInt8), (97 : UInt8), (32 : UInt8)] : List (UInt8)) y1.1) ([(10 : UInt8)] : List (UInt8)), (false, ((0 : Int), ()))))), ())) (fun (y2 : Nat × T40x6 × Unit) => sel (eqN y2.1 (0 : Nat))
  (sel y2.2.1.2.2.2.1
  (some (([] : List (UInt8)), ((5 : Int), ())))
  (some (y2.2.1.2.2.1, ((0 : Int), ()))))
  (some (y2.2.1.1, (y2.2.1.2.1, ())))))
  none)
  none))

noncomputable def P_law40_ScriptTexts (x : Int × (List T40x5) × Unit) : Option (Bool × Unit) :=
  obind (P_ref34_Few (x.2.1, ((40 : Int), ((20 : Int), ())))) (fun (y1 : Bool × Unit) => sel (nt y1.1)
  (obind (P_law40_awake ()) (fun (y2 : Bool × Unit) => some (y2.1, ())))
  (obind (P_script_Text (x.1, (x.2.1, ()))) (fun (y2 : Sb × Int × Unit) => obind (P_ref40_Text (x.1, (x.2.1, ()))) (fun (y3 : Sb × Int × Unit) => obind (sel (sel (eqS y2.1 y3.1)
  (eqI y2.2.1 y3.2.1)
  false)
  (obind (P_law40_awake ()) (fun (y4 : Bool × Unit) => some y4.1))
  (some false)) (fun (y4 : Bool) => some (y4, ()))))))

noncomputable def P_script_reader_word (x : Unit × T40x1 × Unit) : Option (T40x8 × T40x1 × Unit) :=
  sel (eqI (@len Sb x.2.1.1) (0 : Int))
  (some ((([] : List (UInt8)), ()), (x.2.1, ())))
  (obind (@idx Sb x.2.1.1 (0 : Int)) (fun (y1 : List (UInt8)) => sel (inside (1 : Int) (@len Sb x.2.1.1) (@len Sb x.2.1.1))
  (some ((y1, ()), ((@sub Sb x.2.1.1 (1 : Int) (minus (@len Sb x.2.1.1) (1 : Int)), x.2.1.2), ())))
  none))

noncomputable def P_script_reader_number (x : Unit × T40x1 × Unit) : Option ((Int × Unit) × T40x1 × Unit) :=
  obind (P_script_reader_word ((), (x.2.1, ()))) (fun (y1 : T40x8 × T40x1 × Unit) => obind (P_digits_Num (y1.1.1, ())) (fun (y2 : Int × Bool × Unit) => some ((y2.1, ()), ((y1.2.1.1, (sel (nt y1.2.1.2.1)
  (nt y2.2.1)
  true, y1.2.1.2.2)), ()))))

noncomputable def P_script_reader_text (x : Unit × T40x1 × Unit) : Option (T40x8 × T40x1 × Unit) :=
  obind (P_script_reader_word ((), (x.2.1, ()))) (fun (y1 : T40x8 × T40x1 × Unit) => obind (P_strings_CutPrefix (y1.1.1, (([(61 : UInt8)] : List (UInt8)), ()))) (fun (y2 : Sb × Bool × Unit) => obind (P_digits_Unhex (y2.1, ())) (fun (y3 : Sb × Bool × Unit) => some ((y3.1, ()), ((y1.2.1.1, (sel (nt (sel (nt y1.2.1.2.1)
  (nt y2.2.1)
  true))
  (nt y3.2.1)
  true, y1.2.1.2.2)), ())))))

noncomputable def P_script_reader_names_L0 (y1 : (Unit × Unit) × (List Sb) × T40x1 × Unit) : Option (T40x11 ⊕ T40x11) :=
  @way1 T40x11 (obind (sel (ltI (0 : Int) (@len Sb y1.2.2.1.1))
  (obind (@idx Sb y1.2.2.1.1 (0 : Int)) (fun (y2 : List (UInt8)) => obind (P_strings_HasPrefix (y2, (([(61 : UInt8)] : List (UInt8)), ()))) (fun (y3 : Bool × Unit) => some y3.1)))
  (some false)) (fun (y2 : Bool) => sel (sel y2
  (nt y1.2.2.1.2.1)
  false)
  (obind (P_script_reader_text ((), (y1.2.2.1, ()))) (fun (y3 : T40x8 × T40x1 × Unit) => sel (fits (plus (@len Sb y1.2.1) (@len Sb ([y3.1.1] : List Sb))))
  (some (Sum.inl (((), ()), (@app Sb y1.2.1 ([y3.1.1] : List Sb), (y3.2.1, ()))) : (T40x11) ⊕ ((Nat × (Unit × Unit) × (List Sb) × T40x1 × Unit))))
  none))
  (some (Sum.inr ((0 : Nat), (((), ()), (y1.2.1, (y1.2.2.1, ())))) : (T40x11) ⊕ ((Nat × (Unit × Unit) × (List Sb) × T40x1 × Unit))))))

noncomputable def P_script_reader_names (x : Unit × T40x1 × Unit) : Option (((List Sb) × Unit) × T40x1 × Unit) :=
  obind (Loop (P_script_reader_names_L0) (((), ()), (([] : List Sb), (x.2.1, ())))) (fun (y1 : (Unit × Unit) × (List Sb) × T40x1 × Unit) => some ((y1.2.1, ()), (y1.2.2.1, ())))

noncomputable def P_script_reader_eats (x : T40x8 × T40x1 × Unit) : Option ((Bool × Unit) × T40x1 × Unit) :=
  obind (sel (nt (eqI (@len Sb x.2.1.1) (0 : Int)))
  (obind (@idx Sb x.2.1.1 (0 : Int)) (fun (y1 : List (UInt8)) => some (nt (eqS y1 x.1.1))))
  (some true)) (fun (y1 : Bool) => sel y1
  (some ((false, ()), (x.2.1, ())))
  (sel (inside (1 : Int) (@len Sb x.2.1.1) (@len Sb x.2.1.1))
  (some ((true, ()), ((@sub Sb x.2.1.1 (1 : Int) (minus (@len Sb x.2.1.1) (1 : Int)), x.2.1.2), ())))
  none))

noncomputable def P_script_Call (x : (List Sb) × Unit) : Option (T40x0 × Int × Unit) :=
  obind (P_script_reader_number ((), ((x.1, (false, ())), ()))) (fun (y1 : (Int × Unit) × T40x1 × Unit) => obind (obind (P_script_reader_eats ((([(111 : UInt8), (102 : UInt8)] : List (UInt8)), ()), (y1.2.1, ()))) (fun (y2 : (Bool × Unit) × T40x1 × Unit) => sel (nt y2.1.1)
  (some (((0 : Int), ()), (y2.2.1, ())))
  (obind (P_script_reader_number ((), (y2.2.1, ()))) (fun (y3 : (Int × Unit) × T40x1 × Unit) => some ((y3.1.1, ()), (y3.2.1, ())))))) (fun (y2 : (Int × Unit) × T40x1 × Unit) => obind (obind (P_script_reader_eats ((([(114 : UInt8), (101 : UInt8), (102 : UInt8)] : List (UInt8)), ()), (y2.2.1, ()))) (fun (y3 : (Bool × Unit) × T40x1 × Unit) => sel (nt y3.1.1)
  (some ((([] : List (UInt8)), ()), (y3.2.1, ())))
  (obind (P_script_reader_text ((), (y3.2.1, ()))) (fun (y4 : T40x8 × T40x1 × Unit) => some ((y4.1.1, ()), (y4.2.1, ())))))) (fun (y3 : T40x8 × T40x1 × Unit) => obind (obind (P_script_reader_eats ((([(111 : UInt8), (110 : UInt8)] : List (UInt8)), ()), (y3.2.1, ()))) (fun (y4 : (Bool × Unit) × T40x1 × Unit) => sel (nt y4.1.1)
  (some ((([] : List (UInt8)), ()), (y4.2.1, ())))
  (obind (P_script_reader_text ((), (y4.2.1, ()))) (fun (y5 : T40x8 × T40x1 × Unit) => some ((y5.1.1, ()), (y5.2.1, ())))))) (fun (y4 : T40x8 × T40x1 × Unit) => obind (obind (P_script_reader_eats ((([(110 : UInt8), (97 : UInt8), (109 : UInt8), (101 : UInt8), (115 : UInt8)] : List (UInt8)), ()), (y4.2.1, ()))) (fun (y5 : (Bool × Unit) × T40x1 × Unit) => sel (nt y5.1.1)
  (some ((([] : List Sb), ()), (y5.2.1, ())))
  (obind (P_script_reader_names ((), (y5.2.1, ()))) (fun (y6 : ((List Sb) × Unit) × T40x1 × Unit) => some ((y6.1.1, ()), (y6.2.1, ())))))) (fun (y5 : ((List Sb) × Unit) × T40x1 × Unit) => obind (obind (P_script_reader_eats ((([(100 : UInt8), (97 : UInt8), (116 : UInt8), (97 : UInt8)] : List (UInt8)), ()), (y5.2.1, ()))) (fun (y6 : (Bool × Unit) × T40x1 × Unit) => sel (nt y6.1.1)
  (some ((([] : List (UInt8)), ()), (y6.2.1, ())))
  (obind (P_script_reader_text ((), (y6.2.1, ()))) (fun (y7 : T40x8 × T40x1 × Unit) => some ((y7.1.1, ()), (y7.2.1, ())))))) (fun (y6 : T40x8 × T40x1 × Unit) => obind (obind (P_script_reader_eats ((([(107 : UInt8), (101 : UInt8), (121 : UInt8)] : List (UInt8)), ()), (y6.2.1, ()))) (fun (y7 : (Bool × Unit) × T40x1 × Unit) => sel (nt y7.1.1)
  (some ((([] : List (UInt8)), ()), (y7.2.1, ())))
  (obind (P_script_reader_text ((), (y7.2.1, ()))) (fun (y8 : T40x8 × T40x1 × Unit) => some ((y8.1.1, ()), (y8.2.1, ())))))) (fun (y7 : T40x8 × T40x1 × Unit) => obind (obind (P_script_reader_eats ((([(100 : UInt8), (114 : UInt8), (97 : UInt8), (119 : UInt8), (110 : UInt8)] : List (UInt8)), ()), (y7.2.1, ()))) (fun (y8 : (Bool × Unit) × T40x1 × Unit) => sel (nt y8.1.1)
  (some (((0 : Int), ()), (y8.2.1, ())))
  (obind (P_script_reader_number ((), (y8.2.1, ()))) (fun (y9 : (Int × Unit) × T40x1 × Unit) => some ((y9.1.1, ()), (y9.2.1, ())))))) (fun (y8 : (Int × Unit) × T40x1 × Unit) => obind (P_script_Line ((y1.1.1, (y2.1.1, (y3.1.1, (y4.1.1, (y5.1.1, (y6.1.1, (y7.1.1, (y8.1.1, ())))))))), ())) (fun (y9 : Sb × Int × Unit) => obind (sel (nt (sel (nt y8.2.1.2.1)
  (nt (eqI y9.2.1 (0 : Int)))
  true))
  (obind (P_strings_Join (x.1, (([(32 : UInt8)] : List (UInt8)), ()))) (fun (y10 : Sb × Unit) => some (nt (eqS y9.1 y10.1))))
  (some true)) (fun (y10 : Bool) => obind (sel (nt y10)
  (obind (P_strings_Count (y9.1, (([(32 : UInt8)] : List (UInt8)), ()))) (fun (y11 : Int × Unit) => some (nt (eqI (iadd IntKind.i64 y11.1 (1 : Int)) (@len Sb x.1)))))
  (some true)) (fun (y11 : Bool) => sel y11
  (some (((0 : Int), ((0 : Int), (([] : List (UInt8)), (([] : List (UInt8)), (([] : List Sb), (([] : List (UInt8)), (([] : List (UInt8)), ((0 : Int), ())))))))), ((2 : Int), ())))
  (some ((y1.1.1, (y2.1.1, (y3.1.1, (y4.1.1, (y5.1.1, (y6.1.1, (y7.1.1, (y8.1.1, ())))))))), ((0 : Int), ()))))))))))))))

noncomputable def P_ref40_SameCall_L0 (x : T40x0 × T40x0 × Unit) (y1 : T40x10 × Unit) : Option ((T40x10 × Unit) ⊕ (Nat × T40x10 × Unit)) :=
  sel (sel (ltI y1.1.2.1 (@len Sb x.1.2.2.2.2.1))
  (ltI y1.1.2.1 (@len Sb x.2.1.2.2.2.2.1))
  false)
  (obind (@idx Sb x.1.2.2.2.2.1 y1.1.2.1) (fun (y2 : List (UInt8)) => obind (@idx Sb x.2.1.2.2.2.2.1 y1.1.2.1) (fun (y3 : List (UInt8)) => sel (nt (eqS y2 y3))
  (some (Sum.inr ((1 : Nat), ((false, (y1.1.2.1, ())), ())) : ((T40x10 × Unit)) ⊕ ((Nat × T40x10 × Unit))))
  (some (Sum.inl ((y1.1.1, (iadd IntKind.i64 y1.1.2.1 (1 : Int), ())), ()) : ((T40x10 × Unit)) ⊕ ((Nat × T40x10 × Unit)))))))
  (some (Sum.inr ((0 : Nat), ((y1.1.1, (y1.1.2.1, ())), ())) : ((T40x10 × Unit)) ⊕ ((Nat × T40x10 × Unit))))

noncomputable def P_ref40_SameCall (x : T40x0 × T40x0 × Unit) : Option (Bool × Unit) :=
  sel (nt (eqI (@len Sb x.1.2.2.2.2.1) (@len Sb x.2.1.2.2.2.2.1)))
  (some (false, ()))
  (obind (Loop (P_ref40_SameCall_L0 x) ((false, ((0 : Int), ())), ())) (fun (y1 : Nat × T40x10 × Unit) => sel (eqN y1.1 (0 : Nat))
  (some (sel (sel (sel (sel (sel (sel (eqI x.1.1 x.2.1.1)
  (eqI x.1.2.1 x.2.1.2.1)
  false)
  (eqS x.1.2.2.1 x.2.1.2.2.1)
  false)
  (eqS x.1.2.2.2.1 x.2.1.2.2.2.1)
  false)
  (eqS x.1.2.2.2.2.2.1 x.2.1.2.2.2.2.2.1)
  false)
  (eqS x.1.2.2.2.2.2.2.1 x.2.1.2.2.2.2.2.2.1)
  false)
  (eqI x.1.2.2.2.2.2.2.2.1 x.2.1.2.2.2.2.2.2.2.1)
  false, ()))
  (some (y1.2.1.1, ()))))

noncomputable def P_script_quota (x : (List Sb) × Unit) : Option (Int × Bool × Unit) :=
  obind (sel (nt (nt (eqI (@len Sb x.1) (2 : Int))))
  (obind (@idx Sb x.1 (0 : Int)) (fun (y1 : List (UInt8)) => some (nt (eqS y1 ([(113 : UInt8), (117 : UInt8), (111 : UInt8), (116 : UInt8), (97 : UInt8)] : List (UInt8))))))
  (some true)) (fun (y1 : Bool) => sel y1
  (some ((0 : Int), (false, ())))
  (obind (@idx Sb x.1 (1 : Int)) (fun (y2 : List (UInt8)) => obind (P_digits_Num (y2, ())) (fun (y3 : Int × Bool × Unit) => some (y3.1, (sel (sel y3.2.1
  (leI (64 : Int) y3.1)
  false)
  (leI y3.1 (1099511627776 : Int))
  false, ()))))))

noncomputable def P_script_kind (x : Sb × Unit) : Option (Int × Unit) :=
  obind (P_slices_Index_string_string (([([(115 : UInt8), (112 : UInt8), (97 : UInt8), (119 : UInt8), (110 : UInt8)] : List (UInt8)), ([(112 : UInt8), (105 : UInt8), (99 : UInt8), (107 : UInt8)] : List (UInt8)), ([(107 : UInt8), (105 : UInt8), (108 : UInt8), (108 : UInt8)] : List (UInt8)), ([(112 : UInt8), (111 : UInt8), (119 : UInt8), (101 : UInt8), (114 : UInt8)] : List (UInt8))] : List Sb), (x.1, ()))) (fun (y1 : Int × Unit) => some (iadd IntKind.i64 (1 : Int) y1.1, ()))

noncomputable def P_script_act (x : (List Sb) × Unit) : Option (T40x5 × Bool × Unit) :=
  sel (nt (eqI (@len Sb x.1) (2 : Int)))
  (some (((0 : Int), ((0 : Int), (([] : List T40x0), ((0 : Int), ())))), (false, ())))
  (obind (@idx Sb x.1 (0 : Int)) (fun (y1 : List (UInt8)) => obind (P_script_kind (y1, ())) (fun (y2 : Int × Unit) => obind (@idx Sb x.1 (1 : Int)) (fun (y3 : List (UInt8)) => obind (P_digits_Num (y3, ())) (fun (y4 : Int × Bool × Unit) => sel y4.2.1
  (some (((sel (eqI y2.1 (4 : Int))
  ((), ((y2.1, ((0 : Int), (([] : List T40x0), (y4.1, ())))), ()))
  ((), ((y2.1, (y4.1, (([] : List T40x0), ((0 : Int), ())))), ()))).2).1, (ltI (0 : Int) ((((sel (eqI y2.1 (4 : Int))
  ((), ((y2.1, ((0 : Int), (([] : List T40x0), (y4.1, ())))), ()))
  ((), ((y2.1, (y4.1, (([] : List T40x0), ((0 : Int), ())))), ()))).2).1).1), ())))
  (some (((sel (eqI y2.1 (4 : Int))
  ((), ((y2.1, ((0 : Int), (([] : List T40x0), (y4.1, ())))), ()))
  ((), ((y2.1, (y4.1, (([] : List T40x0), ((0 : Int), ())))), ()))).2).1, (false, ()))))))))
end Go.Ge

/- Plain laws of numbers: sums that stay in range, bits of words. -/
namespace Go.Ge
set_option linter.unusedSectionVars false
variable [Lp]
set_option linter.unusedVariables false
set_option linter.unusedSimpArgs false

theorem iadd_i64 {a b : Int} (h : -9223372036854775808 ≤ a + b) (h2 : a + b ≤ 9223372036854775807) : iadd .i64 a b = a + b := by
  unfold iadd; simp [IntKind.wrap, IntKind.min, IntKind.max, IntKind.signed, IntKind.bits]; omega
theorem isub_i64 {a b : Int} (h : -9223372036854775808 ≤ a - b) (h2 : a - b ≤ 9223372036854775807) : isub .i64 a b = a - b := by
  unfold isub; simp [IntKind.wrap, IntKind.min, IntKind.max, IntKind.signed, IntKind.bits]; omega
theorem icv_i64 {a : Int} (h : -9223372036854775808 ≤ a) (h2 : a ≤ 9223372036854775807) : icv .i64 a = a := by
  unfold icv; simp [IntKind.wrap, IntKind.min, IntKind.max, IntKind.signed, IntKind.bits]; omega
theorem wrap_u32 (a : Int) : IntKind.wrap .u32 a = a % 4294967296 := by
  simp [IntKind.wrap, IntKind.min, IntKind.max, IntKind.signed, IntKind.bits]

/-! ### Words of 32 bits -/
def Bv (x : Int) : BitVec 32 := BitVec.ofInt 32 x
def Can (x : Int) : Prop := 0 ≤ x ∧ x < 4294967296

theorem can_wrap (a : Int) : Can (IntKind.wrap .u32 a) := by rw [wrap_u32]; unfold Can; omega
theorem bv_toNat (a : Int) : ((Bv a).toNat : Int) = a % 4294967296 := by
  unfold Bv
  rw [BitVec.toNat_ofInt]
  have : 0 ≤ a % ((2 ^ 32 : Nat) : Int) := Int.emod_nonneg _ (by decide)
  rw [Int.toNat_of_nonneg this]; rfl
theorem eq32 {a b : Int} (ha : Can a) (hb : Can b) (h : Bv a = Bv b) : a = b := by
  have h1 := bv_toNat a
  have h2 := bv_toNat b
  rw [h] at h1
  unfold Can at ha hb
  omega
theorem bv_wrap (a : Int) : Bv (IntKind.wrap .u32 a) = Bv a := by
  apply BitVec.eq_of_toNat_eq
  have h1 := bv_toNat a
  have h2 := bv_toNat (IntKind.wrap .u32 a)
  rw [wrap_u32] at h2 ⊢
  omega
theorem bv_nat (v : BitVec 32) : Bv (v.toNat : Int) = v := by
  apply BitVec.eq_of_toNat_eq
  have h1 := bv_toNat (v.toNat : Int)
  have := v.isLt
  omega
theorem bv_or (x y : Int) : Bv (ior .u32 x y) = Bv x ||| Bv y := by unfold ior; rw [bv_wrap]; exact bv_nat _
theorem can_or (x y : Int) : Can (ior .u32 x y) := can_wrap _
theorem ior_comm32 (x y : Int) : ior .u32 x y = ior .u32 y x := eq32 (can_or _ _) (can_or _ _) (by rw [bv_or, bv_or, BitVec.or_comm])
/-! ### Tests and places, decided -/
theorem ltI_true {a b : Int} (h : a < b) : ltI a b = true := by simp [ltI, h]
theorem ltI_false {a b : Int} (h : b ≤ a) : ltI a b = false := by simp [ltI]; omega
theorem eqI_true {a b : Int} (h : a = b) : eqI a b = true := by simp [eqI, h]
theorem eqI_false {a b : Int} (h : a ≠ b) : eqI a b = false := by simp [eqI, h]
theorem within_true {i n : Int} (h0 : 0 ≤ i) (h1 : i < n) : within i n = true := by simp [within, h0, h1]
theorem fits_true {n : Int} (h : n ≤ 4294967296) : fits n = true := by simp [fits, h]
theorem way1_inl {S : Type} (s : S) : way1 (some (.inl s : S ⊕ (Nat × S))) = some (.inl s) := rfl
theorem way1_inr {S : Type} (n : Nat) (s : S) : way1 (some (.inr (n, s) : S ⊕ (Nat × S))) = some (.inr s) := rfl
end Go.Ge

/- SHA-256 in plain words: rotations, the words of a block, the rounds. -/
namespace Go.Ge
set_option linter.unusedSectionVars false
variable [Lp]
set_option linter.unusedVariables false
set_option linter.unusedSimpArgs false

def rot (n x : Int) : Int := ior .u32 (ishr .u32 x n) (ishl .u32 x (32 - n))

theorem right_of {n m : Int} (h : iand .u64 (icv .u64 (isub .i64 0 n)) 31 = m) (h1 : ltI m 0 = false) (h2 : isub .u64 32 m = n) (h3 : ltI n 0 = false) (h4 : 32 - n = m) (x : Int) : P_sha_right (x, (n, ())) = some (rot n x, ()) := by
  unfold P_sha_right P_math_bits_RotateLeft32 rot
  dsimp only
  rw [h, h1, sel_false, h2, h3, sel_false, obind_some, h4, ior_comm32]
theorem turn_of {n : Int} (h1 : ltI n 0 = false) (h2 : isub .i64 32 n = 32 - n) (h3 : ltI (32 - n) 0 = false) (x : Int) : P_ref02_turn (x, (n, ())) = some (rot n x, ()) := by
  unfold P_ref02_turn rot
  dsimp only
  rw [h1, sel_false, h2, h3, sel_false]

theorem r2 (x : Int) : P_sha_right (x, (2, ())) = some (rot 2 x, ()) := right_of (m := 30) (by decide) (by decide) (by decide) (by decide) (by decide) x
theorem t7 (x : Int) : P_ref02_turn (x, (7, ())) = some (rot 7 x, ()) := turn_of (by decide) (by decide) (by decide) x
theorem t6 (x : Int) : P_ref02_turn (x, (6, ())) = some (rot 6 x, ()) := turn_of (by decide) (by decide) (by decide) x
theorem t2 (x : Int) : P_ref02_turn (x, (2, ())) = some (rot 2 x, ()) := turn_of (by decide) (by decide) (by decide) x
/-! ### The words of a block -/
/-! ### The same of the reference -/
/-! ### The rounds -/
abbrev W8 := Int × Int × Int × Int × Int × Int × Int × Int
/-! ### A block -/
end Go.Ge

/- SHA-256 in plain words: streams. -/
namespace Go.Ge
set_option linter.unusedSectionVars false
variable [Lp]
set_option linter.unusedVariables false
set_option linter.unusedSimpArgs false

abbrev Strm := (Bool × List Int × Unit) × List Int × Int × Unit

theorem bytesInts_app (a b : List UInt8) : bytesInts (a ++ b) = bytesInts a ++ bytesInts b := by simp [bytesInts]
theorem length_bytes (a : List UInt8) : (bytesInts a).length = a.length := by simp [bytesInts]

end Go.Ge

/- SHA-256 in plain words: sums, the program's and the reference's. -/
namespace Go.Ge
set_option linter.unusedSectionVars false
variable [Lp]
set_option linter.unusedVariables false
set_option linter.unusedSimpArgs false

/-! ### What stands behind the bytes -/
def zs (n : Nat) : Nat := (119 - n % 64) % 64
theorem intsBytes_bytes (s : List UInt8) : intsBytes (bytesInts s) = s := by
  unfold intsBytes bytesInts
  rw [List.map_map]
  conv => rhs; rw [← List.map_id s]
  apply List.map_congr_left
  intro x _
  simp
/-! ### The reference -/
/-! ### The bytes of the sum -/
/-! ### The program -/
end Go.Ge

/- The laws of layer 02 in plain words. -/
namespace Go.Ge
set_option linter.unusedSectionVars false
variable [Lp]
set_option linter.unusedVariables false
set_option linter.unusedSimpArgs false

abbrev PartS := (Bool × List UInt8 × Int × Unit) × Strm × Strm × Unit

end Go.Ge

/- Bytes as hexadecimal digits, and back, in plain words. -/
namespace Go.Ge
set_option linter.unusedSectionVars false
variable [Lp]
set_option linter.unusedVariables false
set_option linter.unusedSimpArgs false

def hexT : List UInt8 := [48, 49, 50, 51, 52, 53, 54, 55, 56, 57, 97, 98, 99, 100, 101, 102]
def hx (n : Nat) : UInt8 := hexT.getD n 0
def hexF : List UInt8 → List UInt8
  | [] => []
  | b :: r => hx (b.toNat / 16) :: hx (b.toNat % 16) :: hexF r
theorem length_hexF (l : List UInt8) : (hexF l).length = 2 * l.length := by
  induction l with
  | nil => rfl
  | cons b r ih => simp only [hexF, List.length_cons, ih]; omega
theorem hexF_app (a b : List UInt8) : hexF (a ++ b) = hexF a ++ hexF b := by
  induction a with
  | nil => rfl
  | cons x r ih => simp only [List.cons_append, hexF, ih]

theorem hexT_hi : ∀ n : Fin 256, idx hexT (ishr .u8 (n.val : Int) 4) = some (hx (n.val / 16)) := by decide +kernel
theorem hexT_lo : ∀ n : Fin 256, idx hexT (iand .u8 (n.val : Int) 15) = some (hx (n.val % 16)) := by decide +kernel
theorem hex_hi (b : UInt8) : idx hexT (ishr .u8 (u8 b) 4) = some (hx (b.toNat / 16)) := hexT_hi ⟨b.toNat, b.toNat_lt⟩
theorem hex_lo (b : UInt8) : idx hexT (iand .u8 (u8 b) 15) = some (hx (b.toNat % 16)) := hexT_lo ⟨b.toNat, b.toNat_lt⟩

theorem idx_bytes (s : List UInt8) {k : Nat} (h : k < s.length) : idx (bytesInts s) (k : Int) = some (u8 s[k]) := by
  rw [idx_nat]; simp [bytesInts, u8, h]
theorem idx_str (s : List UInt8) {k : Nat} (h : k < s.length) : idx s (k : Int) = some s[k] := by
  rw [idx_nat]; simp [h]
theorem len_bytes (s : List UInt8) : len (bytesInts s) = (s.length : Int) := by simp [len, bytesInts]
theorem take_succ_at (s : List UInt8) {k : Nat} (h : k < s.length) : s.take (k + 1) = s.take k ++ [s[k]] := by
  rw [List.take_add_one, List.getElem?_eq_getElem h]; rfl

theorem hexStep (s : List UInt8) {k : Nat} (h : k < s.length) : bytesInts (hexF (s.take (k + 1))) = (bytesInts (hexF (s.take k)) ++ [u8 (hx (s[k].toNat / 16))]) ++ [u8 (hx (s[k].toNat % 16))] := by
  rw [take_succ_at s h, hexF_app, bytesInts_app, List.append_assoc]
  rfl

theorem hexLen (s : List UInt8) (hs : s.length ≤ 1048576) {k : Nat} (h : k < s.length) (x y : Int) :
    fits (plus (len (bytesInts (hexF (s.take k)))) (len [x])) = true ∧ fits (plus (len (bytesInts (hexF (s.take k)) ++ [x])) (len [y])) = true := by
  constructor
  · apply fits_true
    rw [len_bytes, length_hexF]
    simp only [List.length_take, plus, len, List.length_cons, List.length_nil]
    omega
  · apply fits_true
    have : (bytesInts (hexF (s.take k)) ++ [x]).length = 2 * min k s.length + 1 := by
      rw [List.length_append, length_bytes, length_hexF, List.length_take]; rfl
    simp only [plus, len, this, List.length_cons, List.length_nil]
    omega

theorem hex_val (s : List UInt8) (hs : s.length ≤ 1048576) : P_digits_Hex (s, ()) = some (hexF s, ()) := by
  unfold P_digits_Hex
  dsimp only
  rw [fits_true (by simp only [len]; omega), sel_true]
  have key : Loop (P_digits_Hex_L0 (s, ())) ((0, ()), (((), ((), ())), ([], ()))) = some (((s.length : Int), ()), (((), ((), ())), (bytesInts (hexF s), ()))) := by
    have := loop_seq (f := P_digits_Hex_L0 (s, ())) (r := (((s.length : Int), ()), (((), ((), ())), (bytesInts (hexF s), ())))) s.length (fun k => (((k : Int), ()), (((), ((), ())), (bytesInts (hexF (s.take k)), ())))) (fun k hk => by
      unfold P_digits_Hex_L0
      dsimp only
      obtain ⟨f1, f2⟩ := hexLen s hs hk (u8 (hx (s[k].toNat / 16))) (u8 (hx (s[k].toNat % 16)))
      rw [len_bytes, ltI_true (by omega), sel_true, within_true (by omega) (by omega), sel_true, idx_bytes s hk, obind_some, ltI_false (by decide), sel_false]
      rw [show ([48, 49, 50, 51, 52, 53, 54, 55, 56, 57, 97, 98, 99, 100, 101, 102] : List UInt8) = hexT from rfl, hex_hi, obind_some, f1, sel_true, hex_lo, obind_some]
      unfold app
      rw [f2, sel_true, way1_inl, iadd_one (by omega), hexStep s hk]) (by
      unfold P_digits_Hex_L0
      dsimp only
      rw [len_bytes, ltI_false (by omega), sel_false, way1_inr, List.take_length])
    exact this
  rw [key, obind_some]
  dsimp only
  rw [intsBytes_bytes]

/-! ### The reference's digits -/
theorem digT : ∀ n : Fin 16, P_ref01_digit ((n.val : Int), ()) = some (u8 (hx n.val), ()) := by decide +kernel
theorem dig_val {n : Nat} (h : n < 16) : P_ref01_digit ((n : Int), ()) = some (u8 (hx n), ()) := digT ⟨n, h⟩
theorem byte_div : ∀ n : Fin 256, iquo .i64 (icv .i64 (n.val : Int)) 16 = ((n.val / 16 : Nat) : Int) := by decide +kernel
theorem byte_mod : ∀ n : Fin 256, irem (icv .i64 (n.val : Int)) 16 = ((n.val % 16 : Nat) : Int) := by decide +kernel
theorem u8_div (b : UInt8) : iquo .i64 (icv .i64 (u8 b)) 16 = ((b.toNat / 16 : Nat) : Int) := byte_div ⟨b.toNat, b.toNat_lt⟩
theorem u8_mod (b : UInt8) : irem (icv .i64 (u8 b)) 16 = ((b.toNat % 16 : Nat) : Int) := byte_mod ⟨b.toNat, b.toNat_lt⟩

theorem refHex_val (s : List UInt8) (hs : s.length ≤ 1048576) : P_ref01_Hex (s, ()) = some (hexF s, ()) := by
  unfold P_ref01_Hex
  have key : Loop (P_ref01_Hex_L0 (s, ())) (((), (0, ())), ([], ())) = some (((), ((s.length : Int), ())), (bytesInts (hexF s), ())) := by
    have := loop_seq (f := P_ref01_Hex_L0 (s, ())) (r := (((), ((s.length : Int), ())), (bytesInts (hexF s), ()))) s.length (fun k => (((), ((k : Int), ())), (bytesInts (hexF (s.take k)), ()))) (fun k hk => by
      unfold P_ref01_Hex_L0
      dsimp only
      obtain ⟨f1, f2⟩ := hexLen s hs hk (u8 (hx (s[k].toNat / 16))) (u8 (hx (s[k].toNat % 16)))
      have hb := s[k].toNat_lt
      rw [show len s = (s.length : Int) from rfl, ltI_true (by omega), sel_true, idx_str s hk, obind_some, eqI_false (by decide), sel_false, u8_div, dig_val (by omega), obind_some]
      dsimp only
      rw [f1, sel_true, obind_some, sel_false, u8_mod, dig_val (by omega), obind_some]
      dsimp only
      unfold app
      rw [f2, sel_true, way1_inl, iadd_one (by omega), hexStep s hk]) (by
      unfold P_ref01_Hex_L0
      dsimp only
      rw [show len s = (s.length : Int) from rfl, ltI_false (by omega), sel_false, way1_inr, List.take_length])
    exact this
  rw [key, obind_some]
  dsimp only
  rw [intsBytes_bytes]
end Go.Ge

/- Pairs of hexadecimal digits as bytes, in plain words. -/
namespace Go.Ge
set_option linter.unusedSectionVars false
variable [Lp]
set_option linter.unusedVariables false
set_option linter.unusedSimpArgs false

def hv (c : UInt8) : Int := Lib.indexByte hexT c
end Go.Ge

/- Pairs of hexadecimal digits as bytes: the reference. -/
namespace Go.Ge
set_option linter.unusedSectionVars false
variable [Lp]
set_option linter.unusedVariables false
set_option linter.unusedSimpArgs false

end Go.Ge

/- Digests in plain words. -/
namespace Go.Ge
set_option linter.unusedSectionVars false
variable [Lp]
set_option linter.unusedVariables false
set_option linter.unusedSimpArgs false

end Go.Ge

/- Octal digits in plain words. -/
namespace Go.Ge
set_option linter.unusedSectionVars false
variable [Lp]
set_option linter.unusedVariables false
set_option linter.unusedSimpArgs false

end Go.Ge

/- Texts without what stands at their ends, and the number of octal digits, in plain words. -/
namespace Go.Ge
set_option linter.unusedSectionVars false
variable [Lp]
set_option linter.unusedVariables false
set_option linter.unusedSimpArgs false
set_option maxRecDepth 100000

/-! ### What stands at the end is let go -/
/-! ### Both noughts and blanks -/
/-! ### The left end -/
end Go.Ge

/- Headers: which ones may be; numbers and texts of fields, in plain words. -/
namespace Go.Ge
set_option linter.unusedSectionVars false
variable [Lp]
set_option linter.unusedVariables false
set_option linter.unusedSimpArgs false

/-! ### Texts without noughts -/
def noNul (s : List UInt8) : Prop := ∀ x ∈ s, x ≠ 0
instance (s : List UInt8) : Decidable (noNul s) := inferInstanceAs (Decidable (∀ x ∈ s, x ≠ 0))

/-! ### Which headers may be -/
abbrev Hd := List UInt8 × Int × Int × Int × Int × Int × Int × List UInt8 × Unit
def clr (s : List UInt8) (most : Int) : Prop := s ≠ [] ∧ (s.length : Int) ≤ most ∧ noNul s
instance (s : List UInt8) (most : Int) : Decidable (clr s most) := inferInstanceAs (Decidable (_ ∧ _ ∧ _))
def inN (n b : Int) : Prop := 0 ≤ n ∧ n < b
instance (n b : Int) : Decidable (inN n b) := inferInstanceAs (Decidable (_ ∧ _))
def kindOk (h : Hd) : Prop := (h.2.1 = 1 ∧ h.2.2.2.2.2.2.2.1 = []) ∨ (h.2.1 = 2 ∧ h.2.2.2.2.2.2.2.1 = [] ∧ h.2.2.2.2.2.1 = 0) ∨ (h.2.1 = 3 ∧ clr h.2.2.2.2.2.2.2.1 100 ∧ h.2.2.2.2.2.1 = 0)
instance (h : Hd) : Decidable (kindOk h) := inferInstanceAs (Decidable (_ ∨ _ ∨ _))
def okHd (h : Hd) (most : Int) : Prop := inN h.2.2.1 2097152 ∧ inN h.2.2.2.1 2097152 ∧ inN h.2.2.2.2.1 2097152 ∧ inN h.2.2.2.2.2.1 8589934592 ∧ inN h.2.2.2.2.2.2.1 8589934592 ∧ clr h.1 most ∧ kindOk h
instance (h : Hd) (most : Int) : Decidable (okHd h most) := inferInstanceAs (Decidable (_ ∧ _ ∧ _ ∧ _ ∧ _ ∧ _ ∧ _))

end Go.Ge

/- Plain laws of loops that go through a list, of words in natural numbers. -/
namespace Go.Ge
set_option linter.unusedSectionVars false
variable [Lp]
set_option linter.unusedVariables false
set_option linter.unusedSimpArgs false

/-! ### Words in natural numbers -/
theorem ltI_len {α : Type} (i : Nat) (l : List α) : ltI (i : Int) (len l) = decide (i < l.length) := by simp [ltI, len]
theorem leI_len {α : Type} (i : Nat) (l : List α) : leI (len l) (i : Int) = decide (l.length ≤ i) := by simp [leI, len]
theorem fits_len2 {α β : Type} {l : List α} {m : List β} (h : l.length + m.length ≤ 4294967296) : fits (plus (len l) (len m)) = true := by
  apply fits_true; simp only [plus, len]; omega
theorem sel_if {α : Type} (c : Bool) (x y : α) : sel c x y = if c = true then x else y := by cases c <;> rfl
theorem getElem?_lt {α : Type} {l : List α} {i : Nat} {x : α} (h : l[i]? = some x) : i < l.length := (List.getElem?_eq_some_iff.1 h).1
theorem idx_some' {α : Type} {l : List α} {i : Nat} {x : α} (h : l[i]? = some x) : idx l (i : Int) = some x := by rw [idx_nat, h]
theorem ltI_len_true {α : Type} {l : List α} {i : Nat} (h : i < l.length) : ltI (i : Int) (len l) = true := by rw [ltI_len, decide_eq_true h]
theorem ltI_len_end {α : Type} {l : List α} : ltI (l.length : Int) (len l) = false := by rw [ltI_len, decide_eq_false (by omega)]
end Go.Ge

/- The order of texts; two lists gone through side by side. -/
namespace Go.Ge
set_option linter.unusedSectionVars false
variable [Lp]
set_option linter.unusedVariables false
set_option linter.unusedSimpArgs false

/-! ### Side by side -/
end Go.Ge

/- Numbers' decimal digits in plain words. -/
namespace Go.Ge
set_option linter.unusedSectionVars false
variable [Lp]
set_option linter.unusedVariables false
set_option linter.unusedSimpArgs false
set_option maxRecDepth 100000

/-! ### What is parsed of digits -/
theorem dec_val (n : Int) : P_digits_Dec (n, ()) = some (Lib.itoa n, ()) := rfl

/-! ### The reference's digits -/
theorem below_val {n : Nat} (h : n ≤ 9223372036854775808) : P_ref01_below (-(n : Int), ()) = some (Lib.decDigits n, ()) := by
  unfold P_ref01_below
  dsimp only
  rw [if_pos ⟨by omega, by omega⟩, Int.natAbs_neg, Int.natAbs_natCast]

theorem length_dec {u : Nat} (h : u < 18446744073709551616) : (Lib.decDigits u).length ≤ 20 := by
  rw [Lib.decDigits_length]; exact Lib.nDigits_le20 u h

theorem refDec_val {v : Int} (h0 : -9223372036854775808 ≤ v) (h1 : v ≤ 9223372036854775807) : P_ref01_Dec (v, ()) = some (Lib.itoa v, ()) := by
  unfold P_ref01_Dec
  dsimp only
  by_cases hv : v < 0
  · obtain ⟨u, rfl⟩ : ∃ u : Nat, v = -(u : Int) := ⟨v.natAbs, by omega⟩
    have hl := length_dec (u := u) (by omega)
    rw [ltI_true hv, sel_true, below_val (by omega), obind_some]
    dsimp only
    rw [fits_len2 (by simp only [List.length_cons, List.length_nil]; omega), sel_true, Lib.itoa_neg u (by omega)]
    rfl
  · obtain ⟨u, rfl⟩ : ∃ u : Nat, v = (u : Int) := ⟨v.toNat, by omega⟩
    rw [ltI_false (by omega), sel_false, isub_i64 (by omega) (by omega), show (0 : Int) - (u : Int) = -(u : Int) by omega, below_val (by omega), obind_some, Lib.itoa_nonneg]

/-! ### The reference's number -/
end Go.Ge

/- Plain laws of loops that look for something in a list. -/
namespace Go.Ge
set_option linter.unusedSectionVars false
variable [Lp]
set_option linter.unusedVariables false
set_option linter.unusedSimpArgs false

theorem ob {α β : Type} {o : Option α} {x : α} {f : α → Option β} {r : Option β} (h : o = some x) (k : f x = r) : obind o f = r := by rw [h]; exact k

/-- The first place of a list that something is true of, or none. -/
theorem first_or {α : Type} (l : List α) (p : Nat → α → Bool) :
    (∃ i x, l[i]? = some x ∧ p i x = true ∧ ∀ j y, j < i → l[j]? = some y → p j y = false) ∨ ∀ i x, l[i]? = some x → p i x = false := by
  by_cases h : ∃ i x, l[i]? = some x ∧ p i x = true
  · left
    have key : ∀ n i x, i ≤ n → l[i]? = some x → p i x = true → ∃ i x, l[i]? = some x ∧ p i x = true ∧ ∀ j y, j < i → l[j]? = some y → p j y = false := by
      intro n
      induction n with
      | zero =>
        intro i x hi hx hp
        obtain rfl : i = 0 := by omega
        exact ⟨0, x, hx, hp, fun j y hj => by omega⟩
      | succ n ih =>
        intro i x hi hx hp
        by_cases k : ∃ j y, j < i ∧ l[j]? = some y ∧ p j y = true
        · obtain ⟨j, y, hj, hy, hq⟩ := k
          exact ih j y (by omega) hy hq
        · refine ⟨i, x, hx, hp, fun j y hj hy => ?_⟩
          cases hq : p j y with
          | false => rfl
          | true => exact absurd ⟨j, y, hj, hy, hq⟩ k
    obtain ⟨i, x, hx, hp⟩ := h
    exact key i i x (Nat.le_refl _) hx hp
  · right
    intro i x hx
    cases hq : p i x with
    | false => rfl
    | true => exact absurd ⟨i, x, hx, hq⟩ h

/-- A search through a list. -/
theorem srch {α S R : Type} {f : S → Option (S ⊕ R)} (l : List α) (mk : Int → S) (p : Nat → α → Bool) (hitS : Nat → α → R) (finS : R) (hl : l.length ≤ 4294967296)
    (hstep : ∀ i x, l[i]? = some x → i < l.length → iadd .i64 (i : Int) 1 = ((i + 1 : Nat) : Int) → f (mk (i : Int)) = some (if p i x = true then .inr (hitS i x) else .inl (mk ((i + 1 : Nat) : Int))))
    (hfin : f (mk (l.length : Int)) = some (.inr finS)) :
    (∃ i x, l[i]? = some x ∧ p i x = true ∧ (∀ j y, j < i → l[j]? = some y → p j y = false) ∧ Loop f (mk 0) = some (hitS i x)) ∨ ((∀ i x, l[i]? = some x → p i x = false) ∧ Loop f (mk 0) = some finS) := by
  have adv : ∀ i x, l[i]? = some x → p i x = false → f (mk (i : Int)) = some (.inl (mk ((i + 1 : Nat) : Int))) := fun i x hx hp => by
    have hi := getElem?_lt hx
    rw [hstep i x hx hi (iadd_one (by omega)), hp]; rfl
  rcases first_or l p with ⟨i, x, hx, hp, hj⟩ | hn
  · left
    refine ⟨i, x, hx, hp, hj, ?_⟩
    have hi := getElem?_lt hx
    refine loop_seq i (fun j : Nat => mk (j : Int)) (fun j hji => ?_) ?_
    · have hjl : j < l.length := by omega
      exact adv j l[j] (List.getElem?_eq_getElem hjl) (hj j _ hji (List.getElem?_eq_getElem hjl))
    · rw [hstep i x hx hi (iadd_one (by omega)), hp]; rfl
  · right
    refine ⟨hn, loop_seq l.length (fun j : Nat => mk (j : Int)) (fun j hj => ?_) hfin⟩
    exact adv j l[j] (List.getElem?_eq_getElem hj) (hn j _ (List.getElem?_eq_getElem hj))

/-- The same where it ends ahead of the list's end, at a bound of its own. -/
theorem srchTo {α S R : Type} {f : S → Option (S ⊕ R)} (l : List α) (n : Nat) (mk : Int → S) (p : Nat → α → Bool) (hitS : Nat → α → R) (finS : Nat → R) (hl : min n l.length ≤ 4294967296)
    (hstep : ∀ i x, l[i]? = some x → i < l.length → i < n → iadd .i64 (i : Int) 1 = ((i + 1 : Nat) : Int) → f (mk (i : Int)) = some (if p i x = true then .inr (hitS i x) else .inl (mk ((i + 1 : Nat) : Int))))
    (hfin : f (mk ((min n l.length : Nat) : Int)) = some (.inr (finS (min n l.length)))) :
    (∃ i x, i < n ∧ l[i]? = some x ∧ p i x = true ∧ (∀ j y, j < i → l[j]? = some y → p j y = false) ∧ Loop f (mk 0) = some (hitS i x)) ∨ ((∀ i x, i < n → l[i]? = some x → p i x = false) ∧ Loop f (mk 0) = some (finS (min n l.length))) := by
  have ht : ∀ i x, (l.take n)[i]? = some x ↔ (i < n ∧ l[i]? = some x) := fun i x => by
    rw [List.getElem?_take]
    by_cases h : i < n
    · simp [h]
    · simp [h]
  have hlen : (l.take n).length = min n l.length := List.length_take
  rcases srch (f := f) (l.take n) mk p hitS (finS (min n l.length)) (by rw [hlen]; exact hl) (fun i x hx hi hadd => by
      obtain ⟨h1, h2⟩ := (ht i x).1 hx
      exact hstep i x h2 (getElem?_lt h2) h1 hadd) (by rw [hlen]; exact hfin) with ⟨i, x, hx, hp, hj, h⟩ | ⟨hn, h⟩
  · obtain ⟨h1, h2⟩ := (ht i x).1 hx
    exact .inl ⟨i, x, h1, h2, hp, fun j y hji hy => hj j y hji ((ht j y).2 ⟨by omega, hy⟩), h⟩
  · exact .inr ⟨fun i x hi hx => hn i x ((ht i x).2 ⟨hi, hx⟩), h⟩

/-- A list gone through, of whose elements another one is made. -/
theorem fold_app {α β S R : Type} {f : S → Option (S ⊕ R)} (l : List α) (mk : List β → Int → S) (g : α → List β) (fin : R) (hl : l.length ≤ 4294967296)
    (hstep : ∀ i x, l[i]? = some x → i < l.length → iadd .i64 (i : Int) 1 = ((i + 1 : Nat) : Int) → f (mk ((l.take i).flatMap g) (i : Int)) = some (.inl (mk ((l.take i).flatMap g ++ g x) ((i + 1 : Nat) : Int))))
    (hfin : f (mk (l.flatMap g) (l.length : Int)) = some (.inr fin)) : Loop f (mk [] 0) = some fin := by
  refine loop_seq l.length (fun j : Nat => mk ((l.take j).flatMap g) (j : Int)) (fun j hj => ?_) (by simp only [List.take_length]; exact hfin)
  have hx : l[j]? = some l[j] := List.getElem?_eq_getElem hj
  have := hstep j l[j] hx hj (iadd_one (by omega))
  rw [this, List.take_add_one, hx, List.flatMap_append]
  simp
theorem mem_at {α : Type} {l : List α} {x : α} : x ∈ l ↔ ∃ i : Nat, l[i]? = some x := by rw [List.mem_iff_getElem?]
end Go.Ge

/- Records' names in plain words: who has one, where an id stands, whether names may be. -/
namespace Go.Ge
set_option linter.unusedSectionVars false
variable [Lp]
set_option linter.unusedVariables false
set_option linter.unusedSimpArgs false

abbrev Tx := List UInt8
abbrev Nm := Tx × List Tx × Unit

end Go.Ge

/- What names may be: bytes of a set, no name twice, few of them. -/
namespace Go.Ge
set_option linter.unusedSectionVars false
variable [Lp]
set_option linter.unusedVariables false
set_option linter.unusedSimpArgs false
set_option maxRecDepth 100000

end Go.Ge

/- Whether a record may have names; whether they are free; records with them. -/
namespace Go.Ge
set_option linter.unusedSectionVars false
variable [Lp]
set_option linter.unusedVariables false
set_option linter.unusedSimpArgs false
open Go.Lib

end Go.Ge

/- Records with other names, in both texts; few records; the laws. -/
namespace Go.Ge
set_option linter.unusedSectionVars false
variable [Lp]
set_option linter.unusedVariables false
set_option linter.unusedSimpArgs false

end Go.Ge

/- The law NamesIs in plain words. -/
namespace Go.Ge
set_option linter.unusedSectionVars false
variable [Lp]
set_option linter.unusedVariables false
set_option linter.unusedSimpArgs false

theorem min_end {α : Type} {n : Nat} {l : List α} {c : Int} (hc : c = n) : sel (ltI ((min n l.length : Nat) : Int) (len l)) (ltI ((min n l.length : Nat) : Int) c) false = false := by
  subst hc
  by_cases h : l.length ≤ n
  · rw [Nat.min_eq_right h, ltI_len_end, sel_false]
  · rw [Nat.min_eq_left (by omega), ltI_false (Int.le_refl _)]
    cases ltI (n : Int) (len l) <;> rfl
theorem leI_len_lit {α : Type} {l : List α} {n : Nat} {c : Int} (hc : c = n) : leI (len l) c = decide (l.length ≤ n) := by subst hc; exact leI_len n l
theorem ltI_lit_len {α : Type} {l : List α} {n : Nat} {c : Int} (hc : c = n) : ltI c (len l) = decide (n < l.length) := by subst hc; exact ltI_len n l

/-- Few texts, of few bytes. -/
def FewT (l : List Tx) : Prop := l.length ≤ 8 ∧ ∀ x ∈ l, x.length ≤ 100

theorem fewTexts_val (l : List Tx) : ∃ b, P_ref17_FewTexts (l, ()) = some (b, ()) ∧ (b = true → FewT l) := by
  unfold P_ref17_FewTexts
  rcases srchTo (f := P_ref17_FewTexts_L0 (l, ())) l 8 (fun i => ((false, (i, ())), ())) (fun _ x => decide (100 < x.length)) (fun i x => (1, ((false, ((i : Int), ())), ()))) (fun n => (0, ((false, ((n : Int), ())), ()))) (by omega) (fun i x hx hi hi8 ha => by
      unfold P_ref17_FewTexts_L0
      dsimp only
      rw [ltI_len_true hi, sel_true, ltI_true (show (i : Int) < 8 by omega), sel_true, idx_some' hx, obind_some, ltI_lit_len (n := 100) (c := 100) rfl, sel_if, ha]
      by_cases h : 100 < x.length <;> simp [h]) (by unfold P_ref17_FewTexts_L0; dsimp only; rw [min_end (c := 8) rfl, sel_false]) with ⟨i, x, hi, hx, hp, _, h⟩ | ⟨hn, h⟩
  · rw [h]; exact ⟨false, rfl, fun h => by cases h⟩
  · rw [h]
    refine ⟨_, rfl, fun hb => ?_⟩
    dsimp only at hb
    rw [leI_len_lit (n := 8) (c := 8) rfl] at hb
    have h8 := of_decide_eq_true hb
    refine ⟨h8, fun x hx => ?_⟩
    obtain ⟨i, hi⟩ := mem_at.1 hx
    have := hn i x (by have := getElem?_lt hi; omega) hi
    simpa using this

end Go.Ge

/- A call as words, and as text: the program's and the document's are one. -/
namespace Go.Ge
set_option linter.unusedSectionVars false
variable [Lp]
set_option linter.unusedVariables false
set_option linter.unusedSimpArgs false

abbrev CallS := Int × Int × Tx × Tx × List Tx × Tx × Tx × Int × Unit
def inI (v : Int) : Prop := -9223372036854775808 ≤ v ∧ v ≤ 9223372036854775807
structure SmC (c : CallS) : Prop where
  k : inI c.1
  o : inI c.2.1
  ref : c.2.2.1.length ≤ 100
  on : c.2.2.2.1.length ≤ 100
  nms : FewT c.2.2.2.2.1
  data : c.2.2.2.2.2.1.length ≤ 8704
  key : c.2.2.2.2.2.2.1.length ≤ 100
  d : inI c.2.2.2.2.2.2.2.1

def J (a : List Tx) : Tx := Lib.join a [32]
theorem J_one (x : Tx) : J [x] = x := Lib.join_one x [32]
theorem J_app {a : List Tx} (h : a ≠ []) (b : List Tx) : J (a ++ b) = J a ++ b.flatMap (fun x => 32 :: x) := by
  cases a with
  | nil => exact absurd rfl h
  | cons x r =>
    unfold J
    rw [List.cons_append, Lib.join_cons, Lib.join_cons]
    unfold Lib.joinTail
    rw [List.map_append, List.flatten_append, List.append_assoc]
    congr 1

noncomputable def eqT (s : Tx) : Tx := 61 :: hexF s
theorem length_eqT (s : Tx) : (eqT s).length = 2 * s.length + 1 := by unfold eqT; rw [List.length_cons, length_hexF]
theorem text40_val (s : Tx) (h : s.length ≤ 1048576) : P_script_text (s, ()) = some (eqT s, ()) := by
  unfold P_script_text
  dsimp only
  rw [hex_val s h, obind_some]
  dsimp only
  rw [fits_len2 (by rw [length_hexF]; simp; omega), sel_true]
  rfl

/-- A word more, and another one behind it, if something is so. -/
def addIf (b : Bool) (a l : List Tx) : List Tx := if b then a ++ l else a
theorem addIf_ne {b : Bool} {a l : List Tx} (h : a ≠ []) : addIf b a l ≠ [] := by
  unfold addIf
  split
  · simp [h]
  · exact h
theorem addIf_len {b : Bool} {a l : List Tx} : (addIf b a l).length ≤ a.length + l.length := by
  unfold addIf
  split
  · simp
  · omega
theorem add40 (b : Bool) (a l : List Tx) (h : a.length + l.length ≤ 1000000) : sel b (sel (fits (plus (len a) (len l))) (some ((), ((), (app a l, ())))) none) (some ((), ((), (a, ())))) = some ((), ((), (addIf b a l, ()))) := by
  unfold addIf
  cases b with
  | true => rw [sel_true, fits_len2 (by omega), sel_true]; rfl
  | false => rw [sel_false]; rfl

/-- The words of a call. -/
noncomputable def a1 (c : CallS) : List Tx := [Lib.itoa c.1]
noncomputable def a2 (c : CallS) : List Tx := addIf (nt (eqI c.2.1 0)) (a1 c) [[111, 102], Lib.itoa c.2.1]
noncomputable def a3 (c : CallS) : List Tx := addIf (nt (eqS c.2.2.1 [])) (a2 c) [[114, 101, 102], eqT c.2.2.1]
noncomputable def a4 (c : CallS) : List Tx := addIf (nt (eqS c.2.2.2.1 [])) (a3 c) [[111, 110], eqT c.2.2.2.1]
noncomputable def a5 (c : CallS) : List Tx := addIf (ltI 0 (len c.2.2.2.2.1)) (a4 c) [[110, 97, 109, 101, 115]]
noncomputable def a6 (c : CallS) : List Tx := a5 c ++ c.2.2.2.2.1.flatMap fun s => [eqT s]
noncomputable def a7 (c : CallS) : List Tx := addIf (nt (eqS c.2.2.2.2.2.1 [])) (a6 c) [[100, 97, 116, 97], eqT c.2.2.2.2.2.1]
noncomputable def a8 (c : CallS) : List Tx := addIf (nt (eqS c.2.2.2.2.2.2.1 [])) (a7 c) [[107, 101, 121], eqT c.2.2.2.2.2.2.1]
noncomputable def a9 (c : CallS) : List Tx := addIf (nt (eqI c.2.2.2.2.2.2.2.1 0)) (a8 c) [[100, 114, 97, 119, 110], Lib.itoa c.2.2.2.2.2.2.2.1]
noncomputable def lineF (c : CallS) : Tx := J (a9 c)

theorem a_lens {c : CallS} (h : SmC c) : (a1 c).length = 1 ∧ (a2 c).length ≤ 3 ∧ (a3 c).length ≤ 5 ∧ (a4 c).length ≤ 7 ∧ (a5 c).length ≤ 8 ∧ (a6 c).length ≤ 16 ∧ (a7 c).length ≤ 18 ∧ (a8 c).length ≤ 20 ∧ (a9 c).length ≤ 22 := by
  have e1 : (a1 c).length = 1 := rfl
  have e2 : (a2 c).length ≤ (a1 c).length + 2 := addIf_len
  have e3 : (a3 c).length ≤ (a2 c).length + 2 := addIf_len
  have e4 : (a4 c).length ≤ (a3 c).length + 2 := addIf_len
  have e5 : (a5 c).length ≤ (a4 c).length + 1 := addIf_len
  have e6 : (a6 c).length = (a5 c).length + c.2.2.2.2.1.length := by
    unfold a6
    rw [List.length_append, ← List.map_eq_flatMap, List.length_map]
  have e7 : (a7 c).length ≤ (a6 c).length + 2 := addIf_len
  have e8 : (a8 c).length ≤ (a7 c).length + 2 := addIf_len
  have e9 : (a9 c).length ≤ (a8 c).length + 2 := addIf_len
  have := h.nms.1
  omega

theorem a_ne (c : CallS) : a1 c ≠ [] ∧ a2 c ≠ [] ∧ a3 c ≠ [] ∧ a4 c ≠ [] ∧ a5 c ≠ [] ∧ a6 c ≠ [] ∧ a7 c ≠ [] ∧ a8 c ≠ [] ∧ a9 c ≠ [] := by
  have e1 : a1 c ≠ [] := by unfold a1; simp
  have e2 : a2 c ≠ [] := addIf_ne e1
  have e3 : a3 c ≠ [] := addIf_ne e2
  have e4 : a4 c ≠ [] := addIf_ne e3
  have e5 : a5 c ≠ [] := addIf_ne e4
  have e6 : a6 c ≠ [] := by unfold a6; simp [e5]
  have e7 : a7 c ≠ [] := addIf_ne e6
  have e8 : a8 c ≠ [] := addIf_ne e7
  exact ⟨e1, e2, e3, e4, e5, e6, e7, e8, addIf_ne e8⟩

/-! ### How long -/
def sumW (a : List Tx) : Nat := (a.map List.length).sum
theorem sumW_app (a b : List Tx) : sumW (a ++ b) = sumW a + sumW b := by unfold sumW; rw [List.map_append, List.sum_append]
theorem sumW_if {b : Bool} {a l : List Tx} : sumW (addIf b a l) ≤ sumW a + sumW l := by
  unfold addIf
  split
  · rw [sumW_app]; exact Nat.le_refl _
  · omega
theorem sumW_names {l : List Tx} {k : Nat} (h : ∀ x ∈ l, x.length ≤ k) : sumW (l.flatMap fun s => [eqT s]) ≤ l.length * (2 * k + 1) := by
  induction l with
  | nil => exact Nat.zero_le _
  | cons x r ih =>
    have i1 := ih fun y hy => h y (List.mem_cons_of_mem _ hy)
    have i2 := h x (List.mem_cons_self ..)
    rw [List.flatMap_cons, sumW_app, List.length_cons, Nat.add_mul]
    have : sumW [eqT x] = 2 * x.length + 1 := by unfold sumW; simp [length_eqT]
    omega
theorem J_len : ∀ (a : List Tx), (J a).length ≤ sumW a + a.length := by
  intro a
  cases a with
  | nil => exact Nat.zero_le _
  | cons x r =>
    have e : J (x :: r) = x ++ r.flatMap (fun y => 32 :: y) := by
      have := J_app (a := [x]) (by simp) r
      rw [J_one] at this
      exact this
    rw [e, List.length_append, List.length_cons]
    have : (r.flatMap (fun y : Tx => 32 :: y)).length = sumW r + r.length := by
      induction r with
      | nil => rfl
      | cons y r ih =>
        have e2 : J (x :: r) = x ++ r.flatMap (fun y => 32 :: y) := by
          have := J_app (a := [x]) (by simp) r
          rw [J_one] at this
          exact this
        rw [List.flatMap_cons, List.length_append, ih e2, List.length_cons, List.length_cons]
        unfold sumW
        rw [List.map_cons, List.sum_cons]
        omega
    rw [this]
    unfold sumW
    rw [List.map_cons, List.sum_cons]
    omega

theorem itoa21 {v : Int} (h : inI v) : (Lib.itoa v).length ≤ 21 := Lib.itoa_length_le v h.1 h.2

theorem sum9 {c : CallS} (h : SmC c) : sumW (a9 c) ≤ 19720 := by
  have s1 : sumW (a1 c) ≤ 21 := by have := itoa21 h.k; unfold a1 sumW; simpa using this
  have s2 : sumW (a2 c) ≤ sumW (a1 c) + sumW [[111, 102], Lib.itoa c.2.1] := sumW_if
  have s3 : sumW (a3 c) ≤ sumW (a2 c) + sumW [[114, 101, 102], eqT c.2.2.1] := sumW_if
  have s4 : sumW (a4 c) ≤ sumW (a3 c) + sumW [[111, 110], eqT c.2.2.2.1] := sumW_if
  have s5 : sumW (a5 c) ≤ sumW (a4 c) + sumW [[110, 97, 109, 101, 115]] := sumW_if
  have s6 : sumW (a6 c) = sumW (a5 c) + sumW (c.2.2.2.2.1.flatMap fun s => [eqT s]) := sumW_app _ _
  have s7 : sumW (a7 c) ≤ sumW (a6 c) + sumW [[100, 97, 116, 97], eqT c.2.2.2.2.2.1] := sumW_if
  have s8 : sumW (a8 c) ≤ sumW (a7 c) + sumW [[107, 101, 121], eqT c.2.2.2.2.2.2.1] := sumW_if
  have s9 : sumW (a9 c) ≤ sumW (a8 c) + sumW [[100, 114, 97, 119, 110], Lib.itoa c.2.2.2.2.2.2.2.1] := sumW_if
  have t2 : sumW [[111, 102], Lib.itoa c.2.1] ≤ 23 := by have := itoa21 h.o; unfold sumW; simp; omega
  have t3 : sumW [[114, 101, 102], eqT c.2.2.1] ≤ 204 := by have := h.ref; unfold sumW; simp [length_eqT]; omega
  have t4 : sumW [[111, 110], eqT c.2.2.2.1] ≤ 203 := by have := h.on; unfold sumW; simp [length_eqT]; omega
  have t5 : sumW [([110, 97, 109, 101, 115] : Tx)] = 5 := rfl
  have t6 := sumW_names (l := c.2.2.2.2.1) (k := 100) h.nms.2
  have t7 : sumW [[100, 97, 116, 97], eqT c.2.2.2.2.2.1] ≤ 17413 := by have := h.data; unfold sumW; simp [length_eqT]; omega
  have t8 : sumW [[107, 101, 121], eqT c.2.2.2.2.2.2.1] ≤ 204 := by have := h.key; unfold sumW; simp [length_eqT]; omega
  have t9 : sumW [[100, 114, 97, 119, 110], Lib.itoa c.2.2.2.2.2.2.2.1] ≤ 26 := by have := itoa21 h.d; unfold sumW; simp; omega
  have n8 := h.nms.1
  have : c.2.2.2.2.1.length * (2 * 100 + 1) ≤ 8 * 201 := Nat.mul_le_mul_right _ n8
  omega
theorem lineF_len {c : CallS} (h : SmC c) : (lineF c).length ≤ 19760 := by
  have := J_len (a9 c)
  have := sum9 h
  have := (a_lens h).2.2.2.2.2.2.2.2
  unfold lineF
  omega

/-! ### The program's line -/
def txtsF (c : CallS) : List Tx := [c.2.2.1, c.2.2.2.1, c.2.2.2.2.2.1, c.2.2.2.2.2.2.1] ++ c.2.2.2.2.1
theorem sumN {l : List Tx} {k : Nat} (h : ∀ x ∈ l, x.length ≤ k) : sumW l ≤ l.length * k := by
  induction l with
  | nil => exact Nat.zero_le _
  | cons x r ih =>
    have i1 := ih fun y hy => h y (List.mem_cons_of_mem _ hy)
    have i2 := h x (List.mem_cons_self ..)
    rw [List.length_cons, Nat.add_mul]
    unfold sumW at i1 ⊢
    rw [List.map_cons, List.sum_cons]
    omega
theorem txts_sum {c : CallS} (h : SmC c) : sumW (txtsF c) ≤ 9804 := by
  unfold txtsF
  rw [sumW_app]
  have := sumN (l := c.2.2.2.2.1) (k := 100) h.nms.2
  have n8 := h.nms.1
  have : c.2.2.2.2.1.length * 100 ≤ 8 * 100 := Nat.mul_le_mul_right _ n8
  have e : sumW [c.2.2.1, c.2.2.2.1, c.2.2.2.2.2.1, c.2.2.2.2.2.2.1] = c.2.2.1.length + (c.2.2.2.1.length + (c.2.2.2.2.2.1.length + (c.2.2.2.2.2.2.1.length + 0))) := rfl
  have := h.ref
  have := h.on
  have := h.data
  have := h.key
  omega
theorem take_sum {l : List Tx} {i : Nat} : sumW (l.take i) ≤ sumW l := by
  conv => rhs; rw [← List.take_append_drop i l]
  rw [sumW_app]; omega
theorem take_next {l : List Tx} {i : Nat} {x : Tx} (h : l[i]? = some x) : sumW (l.take (i + 1)) = sumW (l.take i) + x.length := by
  rw [List.take_add_one, h, sumW_app]
  rfl
theorem txts_val {c : CallS} (h : SmC c) : P_script_texts (c, ()) = some (txtsF c, ()) := by
  unfold P_script_texts
  dsimp only
  have n8 := h.nms.1
  rw [fits_len2 (by simp; omega), sel_true]
  rfl
theorem room_loop {c : CallS} (h : SmC c) : ∃ r i, Loop (P_script_Line_L0 (c, ()) (txtsF c, ())) ((([] : Tx), ((0 : Int), ((65536 : Int), ((0 : Int), ())))), ()) = some ((0 : Nat), ((([] : Tx), ((0 : Int), (r, (i, ())))), ())) := by
  refine ⟨(65536 : Int) - (sumW ((txtsF c).take (txtsF c).length) : Int), ((txtsF c).length : Int), ?_⟩
  have hs := txts_sum h
  have hl : (txtsF c).length ≤ 12 := by have := h.nms.1; unfold txtsF; simp; omega
  have key := loop_seq (f := P_script_Line_L0 (c, ()) (txtsF c, ())) (txtsF c).length (fun j : Nat => ((([] : Tx), ((0 : Int), ((65536 : Int) - (sumW ((txtsF c).take j) : Int), ((j : Int), ())))), ())) (r := ((0 : Nat), ((([] : Tx), ((0 : Int), ((65536 : Int) - (sumW ((txtsF c).take (txtsF c).length) : Int), (((txtsF c).length : Int), ())))), ()))) (fun j hj => by
    have hx : (txtsF c)[j]? = some (txtsF c)[j] := List.getElem?_eq_getElem hj
    generalize (txtsF c)[j] = x at hx
    have e1 := take_next hx
    have e2 : sumW ((txtsF c).take (j + 1)) ≤ sumW (txtsF c) := take_sum
    unfold P_script_Line_L0
    dsimp only
    rw [ltI_len_true hj, sel_true, idx_some' hx, obind_some]
    have e3 : isub IntKind.i64 ((65536 : Int) - (sumW ((txtsF c).take j) : Int)) (len x) = (65536 : Int) - (sumW ((txtsF c).take (j + 1)) : Int) := by
      rw [isub_i64 (by unfold len; omega) (by unfold len; omega), e1]; unfold len; omega
    rw [e3]
    have e4 : imax (-1 : Int) ((65536 : Int) - (sumW ((txtsF c).take (j + 1)) : Int)) = (65536 : Int) - (sumW ((txtsF c).take (j + 1)) : Int) := by
      unfold imax; rw [decide_eq_true (by omega)]; rfl
    rw [e4, ltI_false (by omega), nt_false, sel_true, ltI_false (by have := h.nms.1; unfold len; omega), sel_false, iadd_one (by omega)]) (by
    unfold P_script_Line_L0
    dsimp only
    rw [ltI_len_end, sel_false])
  simpa [sumW] using key
end Go.Ge

/- A call's line: both. -/
namespace Go.Ge
set_option linter.unusedSectionVars false
variable [Lp]
set_option linter.unusedVariables false
set_option linter.unusedSimpArgs false

theorem line40_val {c : CallS} (h : SmC c) : P_script_Line (c, ()) = some (lineF c, ((0 : Int), ())) := by
  obtain ⟨n1, n2, n3, n4, n5, n6, n7, n8, n9⟩ := a_lens h
  have hnm := h.nms.1
  obtain ⟨r, i, hr⟩ := room_loop h
  unfold P_script_Line
  refine ob (txts_val h) (ob hr ?_)
  dsimp only
  rw [show eqN 0 0 = true from rfl, sel_true, dec_val, obind_some, dec_val, obind_some]
  refine ob (add40 (nt (eqI c.2.1 0)) (a1 c) [[111, 102], Lib.itoa c.2.1] (by simp; omega)) ?_
  dsimp only
  refine ob (text40_val c.2.2.1 (by have := h.ref; omega)) ?_
  refine ob (add40 (nt (eqS c.2.2.1 [])) (a2 c) [[114, 101, 102], eqT c.2.2.1] (by simp; omega)) ?_
  dsimp only
  refine ob (text40_val c.2.2.2.1 (by have := h.on; omega)) ?_
  refine ob (add40 (nt (eqS c.2.2.2.1 [])) (a3 c) [[111, 110], eqT c.2.2.2.1] (by simp; omega)) ?_
  dsimp only
  refine ob (add40 (ltI 0 (len c.2.2.2.2.1)) (a4 c) [[110, 97, 109, 101, 115]] (by simp; omega)) ?_
  dsimp only
  have hL : Loop (P_script_Line_L1 (c, ())) (((0 : Int), ()), ((), (a5 c, ()))) = some (((c.2.2.2.2.1.length : Int), ()), ((), (a6 c, ()))) := by
    have := fold_app (f := P_script_Line_L1 (c, ())) c.2.2.2.2.1 (fun (l : List Tx) (i : Int) => ((i, ()), ((), (a5 c ++ l, ())))) (fun s => [eqT s]) (((c.2.2.2.2.1.length : Int), ()), ((), (a6 c, ()))) (by omega)
      (fun i x hx hi hadd => by
        have hx100 := h.nms.2 x (List.mem_of_getElem? hx)
        have hl : ((c.2.2.2.2.1.take i).flatMap fun s => [eqT s]).length ≤ 8 := by
          rw [← List.map_eq_flatMap, List.length_map, List.length_take]; omega
        unfold P_script_Line_L1
        dsimp only
        rw [ltI_len_true hi, sel_true, idx_some' hx, obind_some, text40_val x (by omega), obind_some]
        dsimp only
        rw [fits_len2 (by rw [List.length_append, List.length_singleton]; omega), sel_true, sel_true, obind_some]
        dsimp only
        rw [hadd]
        have e : app (a5 c ++ (c.2.2.2.2.1.take i).flatMap fun s => [eqT s]) [eqT x] = a5 c ++ ((c.2.2.2.2.1.take i).flatMap (fun s => [eqT s]) ++ [eqT x]) := List.append_assoc ..
        rw [e]
        rfl)
      (by
        unfold P_script_Line_L1
        dsimp only
        rw [ltI_len_end, sel_false]
        rfl)
    rw [List.append_nil] at this
    exact this
  refine ob hL ?_
  dsimp only
  refine ob (text40_val c.2.2.2.2.2.1 (by have := h.data; omega)) ?_
  refine ob (add40 (nt (eqS c.2.2.2.2.2.1 [])) (a6 c) [[100, 97, 116, 97], eqT c.2.2.2.2.2.1] (by simp; omega)) ?_
  dsimp only
  refine ob (text40_val c.2.2.2.2.2.2.1 (by have := h.key; omega)) ?_
  refine ob (add40 (nt (eqS c.2.2.2.2.2.2.1 [])) (a7 c) [[107, 101, 121], eqT c.2.2.2.2.2.2.1] (by simp; omega)) ?_
  dsimp only
  rw [dec_val, obind_some]
  refine ob (add40 (nt (eqI c.2.2.2.2.2.2.2.1 0)) (a8 c) [[100, 114, 97, 119, 110], Lib.itoa c.2.2.2.2.2.2.2.1] (by simp; omega)) ?_
  dsimp only
  refine ob (x := (lineF c, ())) ?_ rfl
  show (S_join (a9 c) [32]).map (fun y => (y, ())) = _
  unfold S_join
  have hl := lineF_len h
  rw [if_pos ⟨by omega, by show (lineF c).length ≤ _; omega⟩]
  rfl

/-! ### The document's line -/
theorem sumW_le {b : Bool} {a l : List Tx} : sumW a ≤ sumW (addIf b a l) := by
  unfold addIf
  split
  · rw [sumW_app]; omega
  · exact Nat.le_refl _
theorem J_lens {c : CallS} (h : SmC c) : (J (a1 c)).length ≤ 20000 ∧ (J (a2 c)).length ≤ 20000 ∧ (J (a3 c)).length ≤ 20000 ∧ (J (a4 c)).length ≤ 20000 ∧ (J (a5 c)).length ≤ 20000 ∧ (J (a6 c)).length ≤ 20000 ∧ (J (a7 c)).length ≤ 20000 ∧ (J (a8 c)).length ≤ 20000 := by
  obtain ⟨n1, n2, n3, n4, n5, n6, n7, n8, n9⟩ := a_lens h
  have s9 := sum9 h
  have s1 : sumW (a1 c) ≤ sumW (a2 c) := sumW_le
  have s2 : sumW (a2 c) ≤ sumW (a3 c) := sumW_le
  have s3 : sumW (a3 c) ≤ sumW (a4 c) := sumW_le
  have s4 : sumW (a4 c) ≤ sumW (a5 c) := sumW_le
  have s5 : sumW (a5 c) ≤ sumW (a6 c) := by unfold a6; rw [sumW_app]; omega
  have s6 : sumW (a6 c) ≤ sumW (a7 c) := sumW_le
  have s7 : sumW (a7 c) ≤ sumW (a8 c) := sumW_le
  have s8 : sumW (a8 c) ≤ sumW (a9 c) := sumW_le
  have j1 := J_len (a1 c)
  have j2 := J_len (a2 c)
  have j3 := J_len (a3 c)
  have j4 := J_len (a4 c)
  have j5 := J_len (a5 c)
  have j6 := J_len (a6 c)
  have j7 := J_len (a7 c)
  have j8 := J_len (a8 c)
  refine ⟨?_, ?_, ?_, ?_, ?_, ?_, ?_, ?_⟩ <;> omega

theorem radd {b : Bool} {a : List Tx} (ha : a ≠ []) {sep w v v' : Tx} {X : Option (Tx × Unit)} (hX : b = true → X = some (v', ())) (he : sep ++ v' = (32 :: w) ++ (32 :: v)) (hl : (J a).length + sep.length + v'.length ≤ 4294967296) :
    sel b (sel (fits (plus (len (J a)) (len sep))) (obind X (fun y3 : Tx × Unit => sel (fits (plus (len (app (J a) sep)) (len y3.1))) (some ((app (app (J a) sep) y3.1, ()), ())) none)) none) (some ((J a, ()), ())) = some ((J (addIf b a [w, v]), ()), ()) := by
  cases b with
  | false => rfl
  | true =>
    rw [sel_true, fits_len2 (by omega), sel_true, hX rfl, obind_some]
    dsimp only
    have hl2 : (app (J a) sep).length = (J a).length + sep.length := List.length_append
    rw [fits_len2 (by omega), sel_true]
    have e : app (app (J a) sep) v' = J (a ++ [w, v]) := by
      rw [J_app ha]
      show J a ++ sep ++ v' = _
      rw [List.append_assoc, he]
      simp
    rw [e]
    rfl

theorem sum_loop {c : CallS} (h : SmC c) : ∃ i, Loop (P_ref40_Line_L0 (c, ())) ((([] : Tx), ((0 : Int), ((0 : Int), ((0 : Int), ())))), ()) = some ((0 : Nat), ((([] : Tx), ((0 : Int), (((sumW (txtsF c) : Nat) : Int), (i, ())))), ())) := by
  refine ⟨((txtsF c).length : Int), ?_⟩
  have hs := txts_sum h
  have hl : (txtsF c).length ≤ 12 := by have := h.nms.1; unfold txtsF; simp; omega
  have key := loop_seq (f := P_ref40_Line_L0 (c, ())) (txtsF c).length (fun j : Nat => ((([] : Tx), ((0 : Int), (((sumW ((txtsF c).take j) : Nat) : Int), ((j : Int), ())))), ())) (r := ((0 : Nat), ((([] : Tx), ((0 : Int), (((sumW ((txtsF c).take (txtsF c).length) : Nat) : Int), (((txtsF c).length : Int), ())))), ()))) (fun j hj => by
    have hx : (txtsF c)[j]? = some (txtsF c)[j] := List.getElem?_eq_getElem hj
    generalize (txtsF c)[j] = x at hx
    have e1 := take_next hx
    have e2 : sumW ((txtsF c).take (j + 1)) ≤ sumW (txtsF c) := take_sum
    unfold P_ref40_Line_L0
    dsimp only
    rw [show app [c.2.2.1, c.2.2.2.1, c.2.2.2.2.2.1, c.2.2.2.2.2.2.1] c.2.2.2.2.1 = txtsF c from rfl]
    rw [ltI_len_true hj, sel_true, within_true (by omega) (by unfold len; omega), sel_true, idx_some' hx, obind_some, ltI_false (by unfold len; omega), sel_false, sel_true, obind_some, iadd_one (by omega)]
    rw [show iadd IntKind.i64 ((sumW ((txtsF c).take j) : Nat) : Int) (len x) = ((sumW ((txtsF c).take (j + 1)) : Nat) : Int) from by
      rw [iadd_i64 (by unfold len; omega) (by unfold len; omega), e1]; unfold len; omega]) (by
    unfold P_ref40_Line_L0
    dsimp only
    rw [show app [c.2.2.1, c.2.2.2.1, c.2.2.2.2.2.1, c.2.2.2.2.2.2.1] c.2.2.2.2.1 = txtsF c from rfl]
    rw [ltI_len_end, sel_false])
  rw [List.take_length] at key
  simpa [sumW] using key

theorem refNames {c : CallS} (h : SmC c) : sel (ltI 0 (len c.2.2.2.2.1)) (sel (fits (plus (len (J (a4 c))) (len ([32, 110, 97, 109, 101, 115] : Tx)))) (obind (Loop (P_ref40_Line_L1 (c, ())) ((app (J (a4 c)) [32, 110, 97, 109, 101, 115], ((0 : Int), ())), ())) (fun y6 => some ((y6.1.1, ()), ()))) none) (some ((J (a4 c), ()), ())) = some ((J (a6 c), ()), ()) := by
  obtain ⟨j1, j2, j3, j4, j5, j6, j7, j8⟩ := J_lens h
  obtain ⟨m1, m2, m3, m4, m5, m6, m7, m8, m9⟩ := a_ne c
  have hn := h.nms.1
  by_cases hne : c.2.2.2.2.1 = []
  · have e5 : a5 c = a4 c := by unfold a5 addIf; rw [hne]; rfl
    have e6 : a6 c = a4 c := by unfold a6; rw [hne, e5]; simp
    rw [e6, hne]
    rfl
  · have hlt : ltI 0 (len c.2.2.2.2.1) = true := ltI_true (by have := List.length_pos_iff.2 hne; unfold len; omega)
    have e5 : a5 c = a4 c ++ [[110, 97, 109, 101, 115]] := by unfold a5 addIf; rw [hlt]; rfl
    have j5' : J (a5 c) = app (J (a4 c)) [32, 110, 97, 109, 101, 115] := by rw [e5, J_app m4]; rfl
    rw [hlt, sel_true, fits_len2 (by simp; omega), sel_true, ← j5']
    have key := fold_app (f := P_ref40_Line_L1 (c, ())) c.2.2.2.2.1 (fun (l : Tx) (i : Int) => ((J (a5 c) ++ l, (i, ())), ())) (fun s => 32 :: eqT s) ((J (a6 c), ((c.2.2.2.2.1.length : Int), ())), ()) (by omega)
      (fun i x hx hi hadd => by
        have hx100 := h.nms.2 x (List.mem_of_getElem? hx)
        have hl : ((c.2.2.2.2.1.take i).flatMap fun s => (32 : UInt8) :: eqT s).length ≤ i * 202 := by
          have : ∀ l : List Tx, (∀ y ∈ l, y.length ≤ 100) → (l.flatMap fun s => (32 : UInt8) :: eqT s).length ≤ l.length * 202 := by
            intro l
            induction l with
            | nil => intro _; exact Nat.zero_le _
            | cons y r ih =>
              intro hy
              have i1 := ih fun z hz => hy z (List.mem_cons_of_mem _ hz)
              have i2 := hy y (List.mem_cons_self ..)
              rw [List.flatMap_cons, List.length_append, List.length_cons, length_eqT, List.length_cons, Nat.add_mul]
              omega
          have := this (c.2.2.2.2.1.take i) fun y hy => h.nms.2 y (List.mem_of_mem_take hy)
          rw [List.length_take, Nat.min_eq_left (by omega)] at this
          exact this
        have hi8 : i * 202 ≤ 8 * 202 := Nat.mul_le_mul_right _ (by omega)
        have hll : (J (a5 c) ++ (c.2.2.2.2.1.take i).flatMap fun s => (32 : UInt8) :: eqT s).length ≤ 30000 := by rw [List.length_append]; omega
        generalize hA : J (a5 c) ++ (c.2.2.2.2.1.take i).flatMap (fun s => (32 : UInt8) :: eqT s) = A at hll
        unfold P_ref40_Line_L1
        dsimp only
        have hA2 : (app A [32, 61]).length = A.length + 2 := List.length_append
        rw [ltI_len_true hi, sel_true, fits_len2 (by simp; omega), sel_true, idx_some' hx, obind_some, refHex_val x (by omega), obind_some]
        dsimp only
        rw [fits_len2 (by rw [length_hexF, hA2]; omega), sel_true, hadd]
        have e : app (app A [32, 61]) (hexF x) = J (a5 c) ++ ((c.2.2.2.2.1.take i).flatMap (fun s => (32 : UInt8) :: eqT s) ++ (32 :: eqT x)) := by
          rw [← List.append_assoc, hA]
          show A ++ [32, 61] ++ hexF x = A ++ 32 :: eqT x
          unfold eqT
          rw [List.append_assoc]
          rfl
        rw [e]
        rfl)
      (by
        unfold P_ref40_Line_L1
        dsimp only
        have e : J (a5 c) ++ c.2.2.2.2.1.flatMap (fun s => 32 :: eqT s) = J (a6 c) := by
          unfold a6
          rw [J_app m5, List.flatMap_assoc]
          simp
        rw [ltI_len_end, sel_false, e]
        rfl)
    rw [List.append_nil] at key
    rw [key, obind_some]

theorem refLine40_val {c : CallS} (h : SmC c) : P_ref40_Line (c, ()) = some (lineF c, ((0 : Int), ())) := by
  obtain ⟨j1, j2, j3, j4, j5, j6, j7, j8⟩ := J_lens h
  obtain ⟨m1, m2, m3, m4, m5, m6, m7, m8, m9⟩ := a_ne c
  have hnm := h.nms.1
  have hs := txts_sum h
  obtain ⟨i, hi⟩ := sum_loop h
  unfold P_ref40_Line
  dsimp only
  rw [ltI_false (by unfold len; omega), sel_false, fits_len2 (by simp; omega), sel_true]
  refine ob hi ?_
  dsimp only
  rw [show eqN 0 0 = true from rfl, sel_true, ltI_false (by omega), sel_false]
  refine ob (refDec_val h.k.1 h.k.2) ?_
  dsimp only
  rw [show Lib.itoa c.1 = J (a1 c) from (J_one _).symm]
  refine ob (radd (b := nt (eqI c.2.1 0)) m1 (w := [111, 102]) (v := Lib.itoa c.2.1) (fun _ => refDec_val h.o.1 h.o.2) rfl (by have := itoa21 h.o; simp; omega)) ?_
  dsimp only
  refine ob (radd (b := nt (eqS c.2.2.1 [])) m2 (w := [114, 101, 102]) (v := eqT c.2.2.1) (fun _ => refHex_val c.2.2.1 (by have := h.ref; omega)) rfl (by have := h.ref; rw [length_hexF]; simp; omega)) ?_
  dsimp only
  refine ob (radd (b := nt (eqS c.2.2.2.1 [])) m3 (w := [111, 110]) (v := eqT c.2.2.2.1) (fun _ => refHex_val c.2.2.2.1 (by have := h.on; omega)) rfl (by have := h.on; rw [length_hexF]; simp; omega)) ?_
  dsimp only
  refine ob (refNames h) ?_
  dsimp only
  refine ob (radd (b := nt (eqS c.2.2.2.2.2.1 [])) m6 (w := [100, 97, 116, 97]) (v := eqT c.2.2.2.2.2.1) (fun _ => refHex_val c.2.2.2.2.2.1 (by have := h.data; omega)) rfl (by have := h.data; rw [length_hexF]; simp; omega)) ?_
  dsimp only
  refine ob (radd (b := nt (eqS c.2.2.2.2.2.2.1 [])) m7 (w := [107, 101, 121]) (v := eqT c.2.2.2.2.2.2.1) (fun _ => refHex_val c.2.2.2.2.2.2.1 (by have := h.key; omega)) rfl (by have := h.key; rw [length_hexF]; simp; omega)) ?_
  dsimp only
  refine ob (radd (b := nt (eqI c.2.2.2.2.2.2.2.1 0)) m8 (w := [100, 114, 97, 119, 110]) (v := Lib.itoa c.2.2.2.2.2.2.2.1) (fun _ => refDec_val h.d.1 h.d.2) rfl (by have := itoa21 h.d; simp; omega)) ?_
  rfl
end Go.Ge

/- Few acts, of few bytes. -/
namespace Go.Ge
set_option linter.unusedSectionVars false
variable [Lp]
set_option linter.unusedVariables false
set_option linter.unusedSimpArgs false

/-- A loop over a list that may stop before its end. -/
theorem fold_stop {α S R : Type} {f : S → Option (S ⊕ R)} (l : List α) (mk : List α → Int → S) (p : List α → α → Prop) (fin : R) (Bad : R → Prop) (hl : l.length ≤ 4294967296)
    (hstep : ∀ i x, l[i]? = some x → i < l.length → iadd .i64 (i : Int) 1 = ((i + 1 : Nat) : Int) → (∀ j y, j < i → l[j]? = some y → p (l.take j) y) → p (l.take i) x → f (mk (l.take i) (i : Int)) = some (.inl (mk (l.take (i + 1)) ((i + 1 : Nat) : Int))))
    (hbad : ∀ i x, l[i]? = some x → i < l.length → (∀ j y, j < i → l[j]? = some y → p (l.take j) y) → ¬ p (l.take i) x → ∃ r, f (mk (l.take i) (i : Int)) = some (.inr r) ∧ Bad r)
    (hfin : (∀ i x, l[i]? = some x → p (l.take i) x) → f (mk l (l.length : Int)) = some (.inr fin)) :
    ((∀ i x, l[i]? = some x → p (l.take i) x) ∧ Loop f (mk [] 0) = some fin) ∨ ((∃ i x, l[i]? = some x ∧ ¬ p (l.take i) x) ∧ ∃ r, Loop f (mk [] 0) = some r ∧ Bad r) := by
  have key : ∀ (k i : Nat), i + k = l.length → (∀ j y, j < i → l[j]? = some y → p (l.take j) y) →
      ((∀ i x, l[i]? = some x → p (l.take i) x) ∧ Loop f (mk (l.take i) (i : Int)) = some fin) ∨ ((∃ i x, l[i]? = some x ∧ ¬ p (l.take i) x) ∧ ∃ r, Loop f (mk (l.take i) (i : Int)) = some r ∧ Bad r) := by
    intro k
    induction k with
    | zero =>
      intro i hi hp
      have hi : i = l.length := by omega
      subst hi
      have hall : ∀ i x, l[i]? = some x → p (l.take i) x := fun i x hx => hp i x (getElem?_lt hx) hx
      left
      refine ⟨hall, ?_⟩
      rw [List.take_length, Loop_eq, hfin hall]
      rfl
    | succ k ih =>
      intro i hi hp
      have hlt : i < l.length := by omega
      have hx : l[i]? = some l[i] := List.getElem?_eq_getElem hlt
      generalize l[i] = x at hx
      by_cases hpx : p (l.take i) x
      · have h1 := hstep i x hx hlt (iadd_one (by omega)) hp hpx
        have h2 := ih (i + 1) (by omega) (fun j y hj hy => by
          by_cases e : j = i
          · subst e
            rw [hx] at hy
            cases hy
            exact hpx
          · exact hp j y (by omega) hy)
        rw [Loop_eq, h1]
        exact h2
      · obtain ⟨r, h1, h2⟩ := hbad i x hx hlt hp hpx
        right
        refine ⟨⟨i, x, hx, hpx⟩, r, ?_, h2⟩
        rw [Loop_eq, h1]
        rfl
  exact key l.length 0 (by omega) (fun j y hj _ => by omega)

/-- A call of few bytes. -/
structure SmL (c : CallS) : Prop where
  ref : c.2.2.1.length ≤ 100
  on : c.2.2.2.1.length ≤ 100
  nms : FewT c.2.2.2.2.1
  data : c.2.2.2.2.2.1.length ≤ 8704
  key : c.2.2.2.2.2.2.1.length ≤ 100

theorem small24_val (c : CallS) : ∃ b, P_ref24_Small (c, ()) = some (b, ()) ∧ (b = true → SmL c) := by
  obtain ⟨bn, hn, fn⟩ := fewTexts_val c.2.2.2.2.1
  unfold P_ref24_Small
  dsimp only
  rw [hn, obind_some]
  dsimp only
  generalize h1 : leI (@len UInt8 c.2.2.1) (100 : Int) = b1
  generalize h2 : leI (@len UInt8 c.2.2.2.1) (100 : Int) = b2
  generalize h3 : leI (@len UInt8 c.2.2.2.2.2.1) (8704 : Int) = b3
  generalize h4 : leI (@len UInt8 c.2.2.2.2.2.2.1) (100 : Int) = b4
  refine ⟨b1 && b2 && b3 && b4 && bn, ?_, fun h => ?_⟩
  · cases b1 <;> cases b2 <;> cases b3 <;> cases b4 <;> cases bn <;> rfl
  · simp only [Bool.and_eq_true] at h
    obtain ⟨⟨⟨⟨k1, k2⟩, k3⟩, k4⟩, k5⟩ := h
    have q1 := of_decide_eq_true (h1.trans k1)
    have q2 := of_decide_eq_true (h2.trans k2)
    have q3 := of_decide_eq_true (h3.trans k3)
    have q4 := of_decide_eq_true (h4.trans k4)
    unfold len at q1 q2 q3 q4
    exact ⟨by omega, by omega, fn k5, by omega, by omega⟩

theorem few24_val (l : List CallS) : ∃ b, P_ref24_Few (l, ((20 : Int), ())) = some (b, ()) ∧ (b = true → l.length ≤ 20 ∧ ∀ c ∈ l, SmL c) := by
  obtain ⟨sm, hsm⟩ : ∃ sm : CallS → Bool, ∀ c, P_ref24_Small (c, ()) = some (sm c, ()) ∧ (sm c = true → SmL c) := ⟨fun c => Classical.choose (small24_val c), fun c => Classical.choose_spec (small24_val c)⟩
  have hle : (l.take 20).length ≤ 20 := by rw [List.length_take]; omega
  have hat : ∀ i x, (l.take 20)[i]? = some x → l[i]? = some x ∧ i < 20 := fun i x hx => by
    rw [List.getElem?_take] at hx
    split at hx
    · exact ⟨hx, by assumption⟩
    · cases hx
  unfold P_ref24_Few
  rcases fold_stop (f := P_ref24_Few_L0 (l, ((20 : Int), ()))) (l.take 20) (fun _ i => ((false, (i, ())), ())) (fun _ x => sm x = true) ((0 : Nat), ((false, (((l.take 20).length : Int), ())), ())) (fun r => r.1 = 1 ∧ r.2.1.1 = false) (by omega)
    (fun i x hx hi hadd _ hp => by
      obtain ⟨h1, h2⟩ := hat i x hx
      unfold P_ref24_Few_L0
      dsimp only
      rw [ltI_len_true (getElem?_lt h1), ltI_true (by omega), sel_true, sel_true, idx_some' h1, obind_some, (hsm x).1, obind_some]
      dsimp only
      rw [hp, nt_true, sel_false, hadd])
    (fun i x hx hi _ hp => by
      obtain ⟨h1, h2⟩ := hat i x hx
      refine ⟨(1, ((false, ((i : Int), ())), ())), ?_, rfl, rfl⟩
      unfold P_ref24_Few_L0
      dsimp only
      rw [ltI_len_true (getElem?_lt h1), ltI_true (by omega), sel_true, sel_true, idx_some' h1, obind_some, (hsm x).1, obind_some]
      dsimp only
      rw [show sm x = false by simpa using hp, nt_false, sel_true])
    (fun _ => by
      unfold P_ref24_Few_L0
      dsimp only
      have e : sel (ltI ((l.take 20).length : Int) (len l)) (ltI ((l.take 20).length : Int) (20 : Int)) false = false := by
        by_cases h : l.length ≤ 20
        · rw [List.take_of_length_le h, ltI_len_end, sel_false]
        · rw [ltI_false (a := ((l.take 20).length : Int)) (b := 20) (by rw [List.length_take]; omega)]
          cases ltI ((l.take 20).length : Int) (len l) <;> rfl
      rw [e, sel_false]) with ⟨ha, h⟩ | ⟨_, r, h, hr1, hr2⟩
  · rw [h, obind_some]
    dsimp only
    rw [show eqN 0 0 = true from rfl, sel_true]
    refine ⟨_, rfl, fun hb => ?_⟩
    have hl := of_decide_eq_true hb
    unfold len at hl
    have hl : l.length ≤ 20 := by omega
    refine ⟨hl, fun c hc => ?_⟩
    obtain ⟨i, hi, rfl⟩ := List.getElem_of_mem hc
    exact (hsm _).2 (ha i l[i] (by rw [List.take_of_length_le hl]; exact List.getElem?_eq_getElem hi))
  · rw [h, obind_some]
    dsimp only
    rw [hr1, show eqN 1 0 = false from rfl, sel_false, hr2]
    exact ⟨false, rfl, fun q => by cases q⟩

abbrev ActS := Int × Int × List CallS × Int × Unit
def many (l : List ActS) : Nat := (l.map fun a => min a.2.2.1.length 100).sum

theorem many_take {l : List ActS} {i : Nat} {x : ActS} (h : l[i]? = some x) : many (l.take (i + 1)) = many (l.take i) + min x.2.2.1.length 100 := by
  unfold many
  rw [List.take_add_one, h]
  simp

theorem few34_val (l : List ActS) : ∃ b, P_ref34_Few (l, ((40 : Int), ((20 : Int), ()))) = some (b, ()) ∧ (b = true → l.length ≤ 40 ∧ many l ≤ 20 ∧ ∀ a ∈ l, a.2.2.1.length ≤ 20 ∧ ∀ c ∈ a.2.2.1, SmL c) := by
  obtain ⟨fw, hfw⟩ : ∃ fw : List CallS → Bool, ∀ c, P_ref24_Few (c, ((20 : Int), ())) = some (fw c, ()) ∧ (fw c = true → c.length ≤ 20 ∧ ∀ x ∈ c, SmL x) := ⟨fun c => Classical.choose (few24_val c), fun c => Classical.choose_spec (few24_val c)⟩
  have hle : (l.take 40).length ≤ 40 := by rw [List.length_take]; omega
  have hat : ∀ i x, (l.take 40)[i]? = some x → l[i]? = some x ∧ i < 40 := fun i x hx => by
    rw [List.getElem?_take] at hx
    split at hx
    · exact ⟨hx, by assumption⟩
    · cases hx
  have hbound : ∀ i, many ((l.take 40).take i) ≤ i * 100 := by
    intro i
    induction i with
    | zero => exact Nat.zero_le _
    | succ i ih =>
      cases h : (l.take 40)[i]? with
      | none =>
        have : (l.take 40).take (i + 1) = (l.take 40).take i := by rw [List.take_add_one, h]; simp
        rw [this]; omega
      | some x => rw [many_take h]; omega
  have step : ∀ i x, (l.take 40)[i]? = some x → i < 40 → iadd IntKind.i64 ((many ((l.take 40).take i) : Nat) : Int) (imin (len x.2.2.1) (100 : Int)) = ((many ((l.take 40).take (i + 1)) : Nat) : Int) := fun i x hx hi => by
    have e : imin (len x.2.2.1) (100 : Int) = ((min x.2.2.1.length 100 : Nat) : Int) := by
      unfold imin len
      by_cases q : x.2.2.1.length < 100
      · rw [decide_eq_false (by omega)]
        show (x.2.2.1.length : Int) = _
        omega
      · by_cases q2 : x.2.2.1.length = 100
        · rw [decide_eq_false (by omega)]
          show (x.2.2.1.length : Int) = _
          omega
        · rw [decide_eq_true (by omega)]
          show (100 : Int) = _
          omega
    have := hbound i
    have : i * 100 ≤ 4000 := by omega
    rw [e, iadd_i64 (by omega) (by omega), many_take hx]
    omega
  unfold P_ref34_Few
  rcases fold_stop (f := P_ref34_Few_L0 (l, ((40 : Int), ((20 : Int), ())))) (l.take 40) (fun pre i => ((false, (((many pre : Nat) : Int), (i, ()))), ())) (fun pre x => many pre + min x.2.2.1.length 100 ≤ 20 ∧ fw x.2.2.1 = true) ((0 : Nat), ((false, (((many (l.take 40) : Nat) : Int), (((l.take 40).length : Int), ()))), ())) (fun r => r.1 = 1 ∧ r.2.1.1 = false) (by omega)
    (fun i x hx hi hadd _ hp => by
      obtain ⟨h1, h2⟩ := hat i x hx
      have hst := step i x hx h2
      unfold P_ref34_Few_L0
      dsimp only
      rw [ltI_len_true (getElem?_lt h1), ltI_true (by omega), sel_true, sel_true, idx_some' h1, obind_some, hst, ltI_false (by rw [many_take hx]; omega), nt_false, sel_true, obind_some]
      rw [(hfw x.2.2.1).1, obind_some]
      dsimp only
      rw [hp.2, nt_true, obind_some, sel_false, hadd])
    (fun i x hx hi _ hp => by
      obtain ⟨h1, h2⟩ := hat i x hx
      have hst := step i x hx h2
      refine ⟨(1, ((false, (((many ((l.take 40).take (i + 1)) : Nat) : Int), ((i : Int), ()))), ())), ?_, rfl, rfl⟩
      unfold P_ref34_Few_L0
      dsimp only
      rw [ltI_len_true (getElem?_lt h1), ltI_true (by omega), sel_true, sel_true, idx_some' h1, obind_some, hst]
      by_cases q : many ((l.take 40).take (i + 1)) ≤ 20
      · rw [ltI_false (by omega), nt_false, sel_true, obind_some]
        rw [(hfw x.2.2.1).1, obind_some]
        dsimp only
        rw [many_take hx] at q
        have hf : fw x.2.2.1 = false := by
          cases hq : fw x.2.2.1 with
          | false => rfl
          | true => exact absurd ⟨q, hq⟩ hp
        rw [hf, nt_false, obind_some, sel_true]
      · rw [ltI_true (by omega), nt_true, sel_false, obind_some, sel_true])
    (fun _ => by
      unfold P_ref34_Few_L0
      dsimp only
      have e : sel (ltI ((l.take 40).length : Int) (len l)) (ltI ((l.take 40).length : Int) (40 : Int)) false = false := by
        by_cases h : l.length ≤ 40
        · rw [List.take_of_length_le h, ltI_len_end, sel_false]
        · rw [ltI_false (a := ((l.take 40).length : Int)) (b := 40) (by rw [List.length_take]; omega)]
          cases ltI ((l.take 40).length : Int) (len l) <;> rfl
      rw [e, sel_false]) with ⟨ha, h⟩ | ⟨_, r, h, hr1, hr2⟩
  · have h : Loop (P_ref34_Few_L0 (l, ((40 : Int), ((20 : Int), ())))) ((false, ((0 : Int), ((0 : Int), ()))), ()) = _ := h
    rw [h, obind_some]
    dsimp only
    rw [show eqN 0 0 = true from rfl, sel_true]
    refine ⟨_, rfl, fun hb => ?_⟩
    have hl := of_decide_eq_true hb
    unfold len at hl
    have hl : l.length ≤ 40 := by omega
    rw [List.take_of_length_le hl] at ha
    have ha' : ∀ i x, l[i]? = some x → many (l.take (i + 1)) ≤ 20 ∧ fw x.2.2.1 = true := fun i x hx => by
      rw [many_take hx]; exact ha i x hx
    refine ⟨hl, ?_, fun a hm => ?_⟩
    · cases hn : l.length with
      | zero => rw [List.length_eq_zero_iff.1 hn]; exact Nat.zero_le _
      | succ n =>
        have hx : l[n]? = some l[n] := List.getElem?_eq_getElem (by omega)
        have := (ha' n _ hx).1
        rw [List.take_of_length_le (by omega)] at this
        exact this
    · obtain ⟨i, hi, rfl⟩ := List.getElem_of_mem hm
      exact (hfw _).2 (ha' i l[i] (List.getElem?_eq_getElem hi)).2
  · have h : Loop (P_ref34_Few_L0 (l, ((40 : Int), ((20 : Int), ())))) ((false, ((0 : Int), ((0 : Int), ()))), ()) = _ := h
    rw [h, obind_some]
    dsimp only
    rw [hr1, show eqN 1 0 = false from rfl, sel_false, hr2]
    exact ⟨false, rfl, fun q => by cases q⟩
end Go.Ge

/- Acts as text: both. -/
namespace Go.Ge
set_option linter.unusedSectionVars false
variable [Lp]
set_option linter.unusedVariables false
set_option linter.unusedSimpArgs false

def okA (a : ActS) : Bool :=
  if a.1 = 1 then decide (a.2.2.2.1 = 0) && decide (a.2.2.1.length ≤ 16)
  else if a.1 = 2 ∨ a.1 = 3 then decide (a.2.2.2.1 = 0) && decide (a.2.2.1.length = 0)
  else if a.1 = 4 then decide (a.2.1 = 0) && decide (a.2.2.1.length = 0) else false
theorem lenC (l : List CallS) (k : Nat) : leI (len l) (k : Int) = decide (l.length ≤ k) := by unfold leI len; apply decide_eq_decide.2; omega
theorem lenZ (l : List CallS) : eqI (len l) 0 = decide (l.length = 0) := by unfold eqI len; apply decide_eq_decide.2; omega
theorem selF (b c : Bool) : sel b c false = (b && c) := by cases b <;> rfl

theorem isAct_val (a : ActS) : P_script_isAct (a, ()) = some (okA a, ()) := by
  unfold P_script_isAct okA
  dsimp only
  rw [selF, selF, selF, lenZ, show (16 : Int) = ((16 : Nat) : Int) from rfl, lenC]
  by_cases h1 : a.1 = 1
  · rw [eqI_true h1, sel_true, if_pos h1]; rfl
  · rw [eqI_false h1, sel_false, if_neg h1]
    by_cases h2 : a.1 = 2
    · rw [eqI_true h2, if_pos (.inl h2)]; rfl
    · rw [eqI_false h2]
      by_cases h3 : a.1 = 3
      · rw [eqI_true h3, if_pos (.inr h3)]; rfl
      · rw [eqI_false h3, if_neg (fun q => q.elim h2 h3)]
        show sel (eqI a.1 4) _ _ = _
        by_cases h4 : a.1 = 4
        · rw [eqI_true h4, if_pos h4]; rfl
        · rw [eqI_false h4, if_neg h4]; rfl

theorem kinds {a : ActS} (h : okA a = true) : a.1 = 1 ∨ a.1 = 2 ∨ a.1 = 3 ∨ a.1 = 4 := by
  unfold okA at h
  by_cases h1 : a.1 = 1
  · exact .inl h1
  · rw [if_neg h1] at h
    by_cases h2 : a.1 = 2 ∨ a.1 = 3
    · rcases h2 with q | q
      · exact .inr (.inl q)
      · exact .inr (.inr (.inl q))
    · rw [if_neg h2] at h
      by_cases h4 : a.1 = 4
      · exact .inr (.inr (.inr h4))
      · rw [if_neg h4] at h; cases h

theorem refTest (a : ActS) : sel (nt (sel (nt (sel (nt (sel (nt (sel (nt (ltI a.1 (1 : Int))) (ltI (4 : Int) a.1) true)) (sel (nt (eqI a.1 (1 : Int))) (ltI (0 : Int) (len a.2.2.1)) false) true)) (sel (eqI a.1 (4 : Int)) (nt (eqI a.2.1 (0 : Int))) false) true)) (sel (nt (eqI a.1 (4 : Int))) (nt (eqI a.2.2.2.1 (0 : Int))) false) true)) (ltI (16 : Int) (len a.2.2.1)) true = !okA a := by
  have e0 : ltI (0 : Int) (len a.2.2.1) = !decide (a.2.2.1.length = 0) := by
    by_cases q : a.2.2.1.length = 0
    · rw [decide_eq_true q, ltI_false (by unfold len; omega)]; rfl
    · rw [decide_eq_false q, ltI_true (by unfold len; omega)]; rfl
  have e16 : ltI (16 : Int) (len a.2.2.1) = !decide (a.2.2.1.length ≤ 16) := by
    by_cases q : a.2.2.1.length ≤ 16
    · rw [decide_eq_true q, ltI_false (by unfold len; omega)]; rfl
    · rw [decide_eq_false q, ltI_true (by unfold len; omega)]; rfl
  have ek : eqI a.2.2.2.1 (0 : Int) = decide (a.2.2.2.1 = 0) := rfl
  have ep : eqI a.2.1 (0 : Int) = decide (a.2.1 = 0) := rfl
  have himp : a.2.2.1.length = 0 → a.2.2.1.length ≤ 16 := by omega
  rw [e0, e16, ek, ep]
  unfold okA
  by_cases h1 : a.1 = 1
  · rw [if_pos h1, h1]
    cases decide (a.2.2.2.1 = 0) <;> cases decide (a.2.2.1.length ≤ 16) <;> rfl
  · rw [if_neg h1]
    by_cases h2 : a.1 = 2 ∨ a.1 = 3
    · rw [if_pos h2]
      have hz : decide (a.2.2.1.length = 0) = true → decide (a.2.2.1.length ≤ 16) = true := fun q => decide_eq_true (himp (of_decide_eq_true q))
      revert hz
      rcases h2 with h2 | h2 <;> rw [h2] <;> (cases decide (a.2.2.2.1 = 0) <;> cases decide (a.2.2.1.length = 0) <;> cases decide (a.2.2.1.length ≤ 16) <;> intro hz <;> first | rfl | exact absurd (hz rfl) (by simp))
    · rw [if_neg h2]
      by_cases h4 : a.1 = 4
      · rw [if_pos h4]
        have hz : decide (a.2.2.1.length = 0) = true → decide (a.2.2.1.length ≤ 16) = true := fun q => decide_eq_true (himp (of_decide_eq_true q))
        revert hz
        rw [h4]
        cases decide (a.2.1 = 0) <;> cases decide (a.2.2.1.length = 0) <;> cases decide (a.2.2.1.length ≤ 16) <;> intro hz <;> first | rfl | exact absurd (hz rfl) (by simp)
      · rw [if_neg h4]
        have hk : sel (nt (ltI a.1 (1 : Int))) (ltI (4 : Int) a.1) true = true := by
          by_cases q : a.1 < 1
          · rw [ltI_true q]; rfl
          · rw [ltI_false (by omega), ltI_true (by omega)]; rfl
        rw [hk]
        rfl

def W40 : List Tx := [[], [115, 112, 97, 119, 110], [112, 105, 99, 107], [107, 105, 108, 108], [112, 111, 119, 101, 114]]
def wd (k : Int) : Tx := (W40[k.toNat]?).getD []
theorem wd_idx {a : ActS} (h : okA a = true) : idx W40 a.1 = some (wd a.1) ∧ (wd a.1).length ≤ 5 := by
  rcases kinds h with q | q | q | q <;> rw [q] <;> exact ⟨rfl, by decide⟩

def numA (a : ActS) : Int := if a.1 = 4 then a.2.2.2.1 else a.2.1
noncomputable def callF (c : CallS) : Tx := app (app [100, 111, 32] (lineF c)) [10]
noncomputable def headA (a : ActS) : Tx := app (app (app (wd a.1) [32]) (Lib.itoa (numA a))) [10]
noncomputable def actF (a : ActS) : Tx := headA a ++ a.2.2.1.flatMap callF

structure InA (a : ActS) : Prop where
  pid : inI a.2.1
  keep : inI a.2.2.2.1
  few : a.2.2.1.length ≤ 20
  calls : ∀ c ∈ a.2.2.1, SmC c

theorem callF_len {c : CallS} (h : SmC c) : (callF c).length ≤ 19764 := by
  have := lineF_len h
  unfold callF app
  simp only [List.length_append, List.length_cons, List.length_nil]
  omega
theorem calls_len : ∀ (l : List CallS), (∀ c ∈ l, SmC c) → (l.flatMap callF).length ≤ l.length * 19764 := by
  intro l
  induction l with
  | nil => intro _; exact Nat.zero_le _
  | cons c r ih =>
    intro h
    have i1 := ih fun x hx => h x (List.mem_cons_of_mem _ hx)
    have i2 := callF_len (h c (List.mem_cons_self ..))
    rw [List.flatMap_cons, List.length_append, List.length_cons, Nat.add_mul]
    omega
theorem num_in {a : ActS} (h : InA a) : inI (numA a) := by
  unfold numA
  split
  · exact h.keep
  · exact h.pid
theorem headA_len {a : ActS} (hk : okA a = true) (h : InA a) : (headA a).length ≤ 28 := by
  have := (wd_idx hk).2
  have := itoa21 (num_in h)
  unfold headA app
  simp only [List.length_append, List.length_cons, List.length_nil]
  omega
theorem actF_len {a : ActS} (hk : okA a = true) (h : InA a) : (actF a).length ≤ 28 + min a.2.2.1.length 100 * 19764 := by
  have h1 := headA_len hk h
  have h2 := calls_len _ h.calls
  have := h.few
  rw [Nat.min_eq_left (by omega)]
  unfold actF
  rw [List.length_append]
  omega
theorem acts_len : ∀ (l : List ActS), (∀ a ∈ l, okA a = true ∧ InA a) → (l.flatMap actF).length ≤ l.length * 28 + many l * 19764 := by
  intro l
  induction l with
  | nil => intro _; exact Nat.zero_le _
  | cons a r ih =>
    intro h
    have i1 := ih fun x hx => h x (List.mem_cons_of_mem _ hx)
    have i2 := actF_len (h a (List.mem_cons_self ..)).1 (h a (List.mem_cons_self ..)).2
    have e : many (a :: r) = min a.2.2.1.length 100 + many r := by unfold many; rw [List.map_cons, List.sum_cons]
    rw [List.flatMap_cons, List.length_append, List.length_cons, e, Nat.add_mul, Nat.add_mul]
    omega
theorem many_le {l : List ActS} {i : Nat} : many (l.take i) ≤ many l := by
  conv => rhs; rw [← List.take_append_drop i l]
  unfold many
  rw [List.map_append, List.sum_append]
  omega
theorem sum_num {a : ActS} (hk : okA a = true) (h : InA a) : iadd IntKind.i64 a.2.1 a.2.2.2.1 = numA a := by
  have hp := h.pid
  have hq := h.keep
  unfold inI at hp hq
  unfold numA
  by_cases h4 : a.1 = 4
  · rw [if_pos h4]
    have : a.2.1 = 0 := by
      unfold okA at hk
      rw [if_neg (by omega), if_neg (by omega), if_pos h4] at hk
      simp only [Bool.and_eq_true, decide_eq_true_eq] at hk
      exact hk.1
    rw [this, iadd_i64 (by omega) (by omega)]; omega
  · rw [if_neg h4]
    have : a.2.2.2.1 = 0 := by
      unfold okA at hk
      by_cases h1 : a.1 = 1
      · rw [if_pos h1] at hk
        simp only [Bool.and_eq_true, decide_eq_true_eq] at hk
        exact hk.1
      · rw [if_neg h1] at hk
        by_cases h2 : a.1 = 2 ∨ a.1 = 3
        · rw [if_pos h2] at hk
          simp only [Bool.and_eq_true, decide_eq_true_eq] at hk
          exact hk.1
        · rw [if_neg h2, if_neg h4] at hk; cases hk
    rw [this, iadd_i64 (by omega) (by omega)]; omega
end Go.Ge
