/- Plain laws of what the functions compute: part 1. -/
import Derived.Test.YtpcimoekpbilgaaGreatDoorGeI
import Derived.Lib.Repeat
/- What some functions of the library compute, as plain programs. -/
namespace Go.Ge
abbrev Sb := List UInt8

noncomputable def P_internal_stringslite_IndexByte : (Ty.pair .str (.pair (.int .u8) .unit)).den → Option (Ty.pair (.int .i64) .unit).den := fun x => some (Lib.indexByte x.1 (show Int from x.2.1).toNat.toUInt8, ())

noncomputable def P_strings_Split : (List UInt8) × (List UInt8) × Unit → Option ((List (List UInt8)) × Unit) := fun x => (S_split x.1 x.2.1).map fun y => (y, ())
noncomputable def P_strings_Join : (List (List UInt8)) × (List UInt8) × Unit → Option ((List UInt8) × Unit) := fun x => (S_join x.1 x.2.1).map fun y => (y, ())

end Go.Ge

/- What the functions of layer 02 compute, as plain programs (written by a program from what the ghost interpreter comes to). -/
namespace Go.Ge
set_option linter.unusedVariables false
set_option maxRecDepth 100000

noncomputable def P_math_bits_RotateLeft32 (x : Int × Int × Unit) : Option (Int × Unit) :=
  sel (ltI (iand IntKind.u64 (icv IntKind.u64 x.2.1) (31 : Int)) (0 : Int))
  none
  (sel (ltI (isub IntKind.u64 (32 : Int) (iand IntKind.u64 (icv IntKind.u64 x.2.1) (31 : Int))) (0 : Int))
  none
  (some (ior IntKind.u32 (ishl IntKind.u32 x.1 (iand IntKind.u64 (icv IntKind.u64 x.2.1) (31 : Int))) (ishr IntKind.u32 x.1 (isub IntKind.u64 (32 : Int) (iand IntKind.u64 (icv IntKind.u64 x.2.1) (31 : Int)))), ())))

noncomputable def P_sha_right (x : Int × Int × Unit) : Option (Int × Unit) :=
  obind (P_math_bits_RotateLeft32 (x.1, (isub IntKind.i64 (0 : Int) x.2.1, ()))) (fun (y1 : Int × Unit) => some (y1.1, ()))

noncomputable def P_ref02_turn (x : Int × Int × Unit) : Option (Int × Unit) :=
  sel (ltI x.2.1 (0 : Int))
  none
  (sel (ltI (isub IntKind.i64 (32 : Int) x.2.1) (0 : Int))
  none
  (some (ior IntKind.u32 (ishr IntKind.u32 x.1 x.2.1) (ishl IntKind.u32 x.1 (isub IntKind.i64 (32 : Int) x.2.1)), ())))

end Go.Ge

/- What the functions of layer 03 compute, as plain programs (written by a program from what the ghost interpreter comes to). -/
namespace Go.Ge
set_option linter.unusedVariables false
set_option maxRecDepth 100000

noncomputable def P_internal_stringslite_HasPrefix (x : Sb × Sb × Unit) : Option (Bool × Unit) :=
  obind (sel (leI (@len UInt8 x.2.1) (@len UInt8 x.1))
  (sel (inside (0 : Int) (@len UInt8 x.2.1) (@len UInt8 x.1))
  (some (eqS (@sub UInt8 x.1 (0 : Int) (minus (@len UInt8 x.2.1) (0 : Int))) x.2.1))
  none)
  (some false)) (fun (y1 : Bool) => some (y1, ()))

noncomputable def P_internal_stringslite_CutPrefix (x : Sb × Sb × Unit) : Option (Sb × Bool × Unit) :=
  obind (P_internal_stringslite_HasPrefix (x.1, (x.2.1, ()))) (fun (y1 : Bool × Unit) => sel (nt y1.1)
  (some (x.1, (false, ())))
  (sel (inside (@len UInt8 x.2.1) (@len UInt8 x.1) (@len UInt8 x.1))
  (some (@sub UInt8 x.1 (@len UInt8 x.2.1) (minus (@len UInt8 x.1) (@len UInt8 x.2.1)), (true, ())))
  none))

noncomputable def P_strings_CutPrefix (x : Sb × Sb × Unit) : Option (Sb × Bool × Unit) :=
  obind (P_internal_stringslite_CutPrefix (x.1, (x.2.1, ()))) (fun (y1 : Sb × Bool × Unit) => some (y1.1, (y1.2.1, ())))

noncomputable def P_strings_IndexByte (x : Sb × Int × Unit) : Option (Int × Unit) :=
  obind (P_internal_stringslite_IndexByte (x.1, (x.2.1, ()))) (fun (y1 : Int × Unit) => some (y1.1, ()))

end Go.Ge

/- What the functions of layer 12 compute, as plain programs (written by a program from what the ghost interpreter comes to). -/
namespace Go.Ge
set_option linter.unusedVariables false
set_option maxRecDepth 100000

abbrev S3x0 := ((Sb × Unit) × (List (Bool)) × Unit)
abbrev S3x1 := (Int × Bool × Int × Int × Unit)
abbrev S3x2 := ((Nat × (Sb × Unit) × (List (Bool)) × Unit))
abbrev S3x3 := (Int × Int × Unit)
abbrev S3x4 := (Nat × (Bool × Int × Unit) × (List (Bool)) × Unit)
abbrev S3x5 := ((Sb × Unit) × Unit)
abbrev S3x6 := ((Bool × Int × Unit) × (List (Bool)) × Unit)
noncomputable def P_header_in (x : Int × Int × Unit) : Option (Bool × Unit) :=
  some (sel (leI (0 : Int) x.1)
  (ltI x.1 x.2.1)
  false, ())

noncomputable def P_header_clear (x : Sb × Int × Unit) : Option (Bool × Unit) :=
  obind (sel (sel (nt (eqS x.1 ([] : List (UInt8))))
  (leI (@len UInt8 x.1) x.2.1)
  false)
  (obind (P_strings_IndexByte (x.1, ((0 : Int), ()))) (fun (y1 : Int × Unit) => some (ltI y1.1 (0 : Int))))
  (some false)) (fun (y1 : Bool) => some (y1, ()))

noncomputable def P_header_is (x : (Sb × Int × Int × Int × Int × Int × Int × Sb × Unit) × Int × Unit) : Option (Bool × Unit) :=
  obind (P_header_in (x.1.2.2.1, ((2097152 : Int), ()))) (fun (y1 : Bool × Unit) => obind (sel y1.1
  (obind (P_header_in (x.1.2.2.2.1, ((2097152 : Int), ()))) (fun (y2 : Bool × Unit) => some y2.1))
  (some false)) (fun (y2 : Bool) => obind (sel y2
  (obind (P_header_in (x.1.2.2.2.2.1, ((2097152 : Int), ()))) (fun (y3 : Bool × Unit) => some y3.1))
  (some false)) (fun (y3 : Bool) => obind (sel y3
  (obind (P_header_in (x.1.2.2.2.2.2.1, ((8589934592 : Int), ()))) (fun (y4 : Bool × Unit) => some y4.1))
  (some false)) (fun (y4 : Bool) => obind (sel y4
  (obind (P_header_in (x.1.2.2.2.2.2.2.1, ((8589934592 : Int), ()))) (fun (y5 : Bool × Unit) => some y5.1))
  (some false)) (fun (y5 : Bool) => obind (sel (nt (nt y5))
  (obind (P_header_clear (x.1.1, (x.2.1, ()))) (fun (y6 : Bool × Unit) => some (nt y6.1)))
  (some true)) (fun (y6 : Bool) => sel y6
  (some (false, ()))
  (sel (eqI x.1.2.1 (1 : Int))
  (some (eqS x.1.2.2.2.2.2.2.2.1 ([] : List (UInt8)), ()))
  (sel (eqI x.1.2.1 (2 : Int))
  (some (sel (eqS x.1.2.2.2.2.2.2.2.1 ([] : List (UInt8)))
  (eqI x.1.2.2.2.2.2.1 (0 : Int))
  false, ()))
  (sel (eqI x.1.2.1 (3 : Int))
  (obind (P_header_clear (x.1.2.2.2.2.2.2.2.1, ((100 : Int), ()))) (fun (y7 : Bool × Unit) => some (sel y7.1
  (eqI x.1.2.2.2.2.2.1 (0 : Int))
  false, ())))
  (some (false, ())))))))))))

noncomputable def P_header_fields (x : Unit) : Option ((List S3x3) × Unit) :=
  some (([((0 : Int), ((100 : Int), ())), ((100 : Int), ((8 : Int), ())), ((108 : Int), ((8 : Int), ())), ((116 : Int), ((8 : Int), ())), ((124 : Int), ((12 : Int), ())), ((136 : Int), ((12 : Int), ())), ((148 : Int), ((8 : Int), ())), ((156 : Int), ((1 : Int), ())), ((157 : Int), ((100 : Int), ())), ((257 : Int), ((8 : Int), ())), ((345 : Int), ((155 : Int), ()))] : List S3x3), ())

noncomputable def P_header_Sum_L0 (x : Sb × Unit) (y2 : Int × Int × Unit) (y3 : S3x3 × Unit) : Option ((S3x3 × Unit) ⊕ (S3x3 × Unit)) :=
  @way1 (S3x3 × Unit) (sel (ltI y3.1.2.1 (@len Int (bytesInts x.1)))
  (sel (within y3.1.2.1 (@len Int (bytesInts x.1)))
  (obind (@idx Int (bytesInts x.1) y3.1.2.1) (fun (y4 : Int) => some (Sum.inl ((iadd IntKind.i64 y3.1.1 (icv IntKind.i64 (((sel (sel (leI y2.1 y3.1.2.1)
  (ltI y3.1.2.1 (iadd IntKind.i64 y2.1 y2.2.1))
  false)
  (((32 : Int), ()), ())
  ((y4, ()), ())).1).1)), (iadd IntKind.i64 y3.1.2.1 (1 : Int), ())), ()) : ((S3x3 × Unit)) ⊕ ((Nat × S3x3 × Unit)))))
  none)
  (some (Sum.inr ((0 : Nat), ((y3.1.1, (y3.1.2.1, ())), ())) : ((S3x3 × Unit)) ⊕ ((Nat × S3x3 × Unit)))))

noncomputable def P_header_Sum (x : Sb × Unit) : Option (Int × Unit) :=
  obind (P_header_fields ()) (fun (y1 : (List S3x3) × Unit) => obind (@idx S3x3 y1.1 (6 : Int)) (fun (y2 : Int × Int × Unit) => sel (fits (@len UInt8 x.1))
  (obind (Loop (P_header_Sum_L0 x y2) (((0 : Int), ((0 : Int), ())), ())) (fun (y3 : S3x3 × Unit) => some (y3.1.1, ())))
  none))

noncomputable def P_header_of (x : Sb × Int × Unit) : Option (Sb × Unit) :=
  obind (P_header_fields ()) (fun (y1 : (List S3x3) × Unit) => obind (@idx S3x3 y1.1 x.2.1) (fun (y2 : Int × Int × Unit) => sel (inside y2.1 (iadd IntKind.i64 y2.1 y2.2.1) (@len UInt8 x.1))
  (some (@sub UInt8 x.1 y2.1 (minus (iadd IntKind.i64 y2.1 y2.2.1) y2.1), ()))
  none))

noncomputable def P_strings_trimRightByte_L0 (x : Sb × Int × Unit) (y1 : (Sb × Unit) × Unit) : Option (S3x5 ⊕ S3x5) :=
  @way1 S3x5 (obind (sel (ltI (0 : Int) (@len UInt8 y1.1.1))
  (obind (@idx UInt8 y1.1.1 (isub IntKind.i64 (@len UInt8 y1.1.1) (1 : Int))) (fun (y2 : UInt8) => some (eqI (u8 y2) x.2.1)))
  (some false)) (fun (y2 : Bool) => sel y2
  (sel (inside (0 : Int) (isub IntKind.i64 (@len UInt8 y1.1.1) (1 : Int)) (@len UInt8 y1.1.1))
  (some (Sum.inl ((@sub UInt8 y1.1.1 (0 : Int) (minus (isub IntKind.i64 (@len UInt8 y1.1.1) (1 : Int)) (0 : Int)), ()), ()) : (S3x5) ⊕ ((Nat × (Sb × Unit) × Unit))))
  none)
  (some (Sum.inr ((0 : Nat), ((y1.1.1, ()), ())) : (S3x5) ⊕ ((Nat × (Sb × Unit) × Unit))))))

noncomputable def P_strings_trimRightByte (x : Sb × Int × Unit) : Option (Sb × Unit) :=
  obind (Loop (P_strings_trimRightByte_L0 x) ((x.1, ()), ())) (fun (y1 : (Sb × Unit) × Unit) => some (y1.1.1, ()))

noncomputable def P_strings_makeASCIISet_L0 (x : Sb × Unit) (y1 : (Bool × Int × Unit) × (List (Bool)) × Unit) : Option (S3x6 ⊕ S3x4) :=
  sel (ltI y1.1.2.1 (@len UInt8 x.1))
  (obind (@idx UInt8 x.1 y1.1.2.1) (fun (y2 : UInt8) => sel (leI (128 : Int) (u8 y2))
  (some (Sum.inr ((1 : Nat), ((false, (y1.1.2.1, ())), (y1.2.1, ()))) : (S3x6) ⊕ (S3x4)))
  (sel (within (u8 y2) (256 : Int))
  (obind (@idx Bool y1.2.1 (u8 y2)) (fun (y3 : Bool) => obind (@idx Bool y1.2.1 (u8 y2)) (fun (y4 : Bool) => obind (@idx Bool y1.2.1 (u8 y2)) (fun (y5 : Bool) => some (Sum.inl ((y1.1.1, (iadd IntKind.i64 y1.1.2.1 (1 : Int), ())), (@lset Bool y1.2.1 (u8 y2) true, ())) : (S3x6) ⊕ (S3x4))))))
  none)))
  (some (Sum.inr ((0 : Nat), ((y1.1.1, (y1.1.2.1, ())), (y1.2.1, ()))) : (S3x6) ⊕ (S3x4)))

noncomputable def P_strings_makeASCIISet (x : Sb × Unit) : Option ((List (Bool)) × Bool × Unit) :=
  obind (Loop (P_strings_makeASCIISet_L0 x) ((false, ((0 : Int), ())), (([false, false, false, false, false, false, false, false, false, false, false, false, false, false, false, false, false, false, false, false, false, false, false, false, false, false, false, false, false, false, false, false, false, false, false, false, false, false, false, false, false, false, false, false, false, false, false, false, false, false, false, false, false, false, false, false, false, false, false, false, false, false, false, false, false, false, false, false, false, false, false, false, false, false, false, false, false, false, false, false, false, false, false, false, false, false, false, false, false, false, false, false, false, false, false, false, false, false, false, false, false, false, false, false, false, false, false, false, false, false, false, false, false, false, false, false, false, false, false, false, false, false, false, false, false, false, false, false, false, false, false, false, false, false, false, false, false, false, false, false, false, false, false, false, false, false, false, false, false, false, false, false, false, false, false, false, false, false, false, false, false, false, false, false, false, false, false, false, false, false, false, false, false, false, false, false, false, false, false, false, false, false, false, false, false, false, false, false, false, false, false, false, false, false, false, false, false, false, false, false, false, false, false, false, false, false, false, false, false, false, false, false, false, false, false, false, false, false, false, false, false, false, false, false, false, false, false, false, false, false, false, false, false, false, false, false, false, false, false, false, false, false, false, false, false, false, false, false, false, false, false, false, false, false, false, false] : List (Bool)), ()))) (fun (y1 : Nat × (Bool × Int × Unit) × (List (Bool)) × Unit) => sel (eqN y1.1 (0 : Nat))
  (some (y1.2.2.1, (true, ())))
  (some (y1.2.2.1, (y1.2.1.1, ()))))

noncomputable def P_strings_asciiSet_contains (x : (Int × Unit) × (List (Bool)) × Unit) : Option ((Bool × Unit) × (List (Bool)) × Unit) :=
  sel (within x.1.1 (256 : Int))
  (obind (@idx Bool x.2.1 x.1.1) (fun (y1 : Bool) => some ((y1, ()), (x.2.1, ()))))
  none

noncomputable def P_strings_trimRightASCII_L0 (y1 : (Sb × Unit) × (List (Bool)) × Unit) : Option (S3x0 ⊕ S3x0) :=
  @way1 S3x0 (sel (ltI (0 : Int) (@len UInt8 y1.1.1))
  (obind (@idx UInt8 y1.1.1 (isub IntKind.i64 (@len UInt8 y1.1.1) (1 : Int))) (fun (y2 : UInt8) => obind (P_strings_asciiSet_contains ((u8 y2, ()), (y1.2.1, ()))) (fun (y3 : (Bool × Unit) × (List (Bool)) × Unit) => sel (nt y3.1.1)
  (some (Sum.inr ((0 : Nat), ((y1.1.1, ()), (y3.2.1, ()))) : (S3x0) ⊕ S3x2))
  (sel (inside (0 : Int) (isub IntKind.i64 (@len UInt8 y1.1.1) (1 : Int)) (@len UInt8 y1.1.1))
  (some (Sum.inl ((@sub UInt8 y1.1.1 (0 : Int) (minus (isub IntKind.i64 (@len UInt8 y1.1.1) (1 : Int)) (0 : Int)), ()), (y3.2.1, ())) : (S3x0) ⊕ S3x2))
  none))))
  (some (Sum.inr ((0 : Nat), ((y1.1.1, ()), (y1.2.1, ()))) : (S3x0) ⊕ S3x2)))

noncomputable def P_strings_trimRightASCII (x : (Sb × Unit) × (List (Bool)) × Unit) : Option S3x0 :=
  obind (Loop (P_strings_trimRightASCII_L0) ((x.1.1, ()), (x.2.1, ()))) (fun (y1 : (Sb × Unit) × (List (Bool)) × Unit) => some ((y1.1.1, ()), (y1.2.1, ())))

noncomputable def P_strings_TrimRight (x : Sb × Sb × Unit) : Option (Sb × Unit) :=
  sel (sel (nt (eqS x.1 ([] : List (UInt8))))
  (eqS x.2.1 ([] : List (UInt8)))
  true)
  (some (x.1, ()))
  (obind (sel (eqI (@len UInt8 x.2.1) (1 : Int))
  (obind (@idx UInt8 x.2.1 (0 : Int)) (fun (y1 : UInt8) => some (ltI (u8 y1) (128 : Int))))
  (some false)) (fun (y1 : Bool) => sel y1
  (obind (@idx UInt8 x.2.1 (0 : Int)) (fun (y2 : UInt8) => obind (P_strings_trimRightByte (x.1, (u8 y2, ()))) (fun (y3 : Sb × Unit) => some (y3.1, ()))))
  (obind (P_strings_makeASCIISet (x.2.1, ())) (fun (y2 : (List (Bool)) × Bool × Unit) => sel y2.2.1
  (obind (P_strings_trimRightASCII ((x.1, ()), (y2.1, ()))) (fun (y3 : (Sb × Unit) × (List (Bool)) × Unit) => some (y3.1.1, ())))
  none))))

noncomputable def P_digits_FromOctal_L0 (x : Sb × Unit) (y1 : S3x1 × Unit) : Option ((S3x1 × Unit) ⊕ (Nat × S3x1 × Unit)) :=
  sel (ltI y1.1.2.2.2.1 (@len Int (bytesInts x.1)))
  (sel (within y1.1.2.2.2.1 (@len Int (bytesInts x.1)))
  (obind (@idx Int (bytesInts x.1) y1.1.2.2.2.1) (fun (y2 : Int) => sel (sel (nt (ltI y2 (48 : Int)))
  (ltI (55 : Int) y2)
  true)
  (some (Sum.inr ((1 : Nat), (((0 : Int), (false, (y1.1.2.2.1, (y1.1.2.2.2.1, ())))), ())) : ((S3x1 × Unit)) ⊕ ((Nat × S3x1 × Unit))))
  (sel (ltI (3 : Int) (0 : Int))
  none
  (some (Sum.inl ((y1.1.1, (y1.1.2.1, (ior IntKind.i64 (ishl IntKind.i64 y1.1.2.2.1 (3 : Int)) (icv IntKind.i64 (isub IntKind.u8 y2 (48 : Int))), (iadd IntKind.i64 y1.1.2.2.2.1 (1 : Int), ())))), ()) : ((S3x1 × Unit)) ⊕ ((Nat × S3x1 × Unit)))))))
  none)
  (some (Sum.inr ((0 : Nat), ((y1.1.1, (y1.1.2.1, (y1.1.2.2.1, (y1.1.2.2.2.1, ())))), ())) : ((S3x1 × Unit)) ⊕ ((Nat × S3x1 × Unit))))

noncomputable def P_digits_FromOctal (x : Sb × Unit) : Option (Int × Bool × Unit) :=
  sel (sel (nt (ltI (@len UInt8 x.1) (1 : Int)))
  (ltI (21 : Int) (@len UInt8 x.1))
  true)
  (some ((0 : Int), (false, ())))
  (sel (fits (@len UInt8 x.1))
  (obind (Loop (P_digits_FromOctal_L0 x) (((0 : Int), (false, ((0 : Int), ((0 : Int), ())))), ())) (fun (y1 : Nat × S3x1 × Unit) => sel (eqN y1.1 (0 : Nat))
  (some (y1.2.1.2.2.1, (true, ())))
  (some (y1.2.1.1, (y1.2.1.2.1, ())))))
  none)

noncomputable def P_header_number (x : Sb × Unit) : Option (Int × Unit) :=
  obind (P_strings_TrimRight (x.1, (([(0 : UInt8), (32 : UInt8)] : List (UInt8)), ()))) (fun (y1 : Sb × Unit) => obind (P_digits_FromOctal (y1.1, ())) (fun (y2 : Int × Bool × Unit) => sel (sel (nt (nt y2.2.1))
  (eqI (@len UInt8 y1.1) (@len UInt8 x.1))
  true)
  (some ((-1 : Int), ()))
  (some (y2.1, ()))))

noncomputable def P_header_text (x : Sb × Unit) : Option (Sb × Bool × Unit) :=
  obind (P_strings_TrimRight (x.1, (([(0 : UInt8)] : List (UInt8)), ()))) (fun (y1 : Sb × Unit) => obind (P_strings_IndexByte (y1.1, ((0 : Int), ()))) (fun (y2 : Int × Unit) => some (y1.1, (ltI y2.1 (0 : Int), ()))))

noncomputable def P_header_Take (x : Sb × Unit) : Option ((Sb × Int × Int × Int × Int × Int × Int × Sb × Unit) × Int × Unit) :=
  obind (sel (nt (nt (eqI (@len UInt8 x.1) (512 : Int))))
  (obind (P_header_of (x.1, ((9 : Int), ()))) (fun (y1 : Sb × Unit) => some (nt (eqS y1.1 ([(117 : UInt8), (115 : UInt8), (116 : UInt8), (97 : UInt8), (114 : UInt8), (0 : UInt8), (48 : UInt8), (48 : UInt8)] : List (UInt8))))))
  (some true)) (fun (y1 : Bool) => obind (sel (nt y1)
  (obind (P_header_of (x.1, ((6 : Int), ()))) (fun (y2 : Sb × Unit) => obind (P_header_number (y2.1, ())) (fun (y3 : Int × Unit) => obind (P_header_Sum (x.1, ())) (fun (y4 : Int × Unit) => some (nt (eqI y3.1 y4.1))))))
  (some true)) (fun (y2 : Bool) => sel y2
  (some ((([] : List (UInt8)), ((0 : Int), ((0 : Int), ((0 : Int), ((0 : Int), ((0 : Int), ((0 : Int), (([] : List (UInt8)), ())))))))), ((2 : Int), ())))
  (obind (P_header_of (x.1, ((0 : Int), ()))) (fun (y3 : Sb × Unit) => obind (P_header_text (y3.1, ())) (fun (y4 : Sb × Bool × Unit) => obind (P_header_of (x.1, ((8 : Int), ()))) (fun (y5 : Sb × Unit) => obind (P_header_text (y5.1, ())) (fun (y6 : Sb × Bool × Unit) => obind (P_header_of (x.1, ((10 : Int), ()))) (fun (y7 : Sb × Unit) => obind (P_header_text (y7.1, ())) (fun (y8 : Sb × Bool × Unit) => obind (sel (nt (eqS y8.1 ([] : List (UInt8))))
  (sel (fits (plus (@len UInt8 y8.1) (@len UInt8 ([(47 : UInt8)] : List (UInt8)))))
  (sel (fits (plus (@len UInt8 (@app UInt8 y8.1 ([(47 : UInt8)] : List (UInt8)))) (@len UInt8 y4.1)))
  (some ((@app UInt8 (@app UInt8 y8.1 ([(47 : UInt8)] : List (UInt8))) y4.1, ()), ()))
  none)
  none)
  (some ((y4.1, ()), ()))) (fun (y9 : (Sb × Unit) × Unit) => obind (P_header_of (x.1, ((1 : Int), ()))) (fun (y10 : Sb × Unit) => obind (P_header_number (y10.1, ())) (fun (y11 : Int × Unit) => obind (P_header_of (x.1, ((2 : Int), ()))) (fun (y12 : Sb × Unit) => obind (P_header_number (y12.1, ())) (fun (y13 : Int × Unit) => obind (P_header_of (x.1, ((3 : Int), ()))) (fun (y14 : Sb × Unit) => obind (P_header_number (y14.1, ())) (fun (y15 : Int × Unit) => obind (P_header_of (x.1, ((4 : Int), ()))) (fun (y16 : Sb × Unit) => obind (P_header_number (y16.1, ())) (fun (y17 : Int × Unit) => obind (P_header_of (x.1, ((5 : Int), ()))) (fun (y18 : Sb × Unit) => obind (P_header_number (y18.1, ())) (fun (y19 : Int × Unit) => obind (P_header_of (x.1, ((7 : Int), ()))) (fun (y20 : Sb × Unit) => obind (sel (nt (sel (nt (sel (nt (nt y4.2.1))
  (nt y6.2.1)
  true))
  (nt y8.2.1)
  true))
  (obind (P_header_is (((sel (((sel (eqS y20.1 ([(48 : UInt8)] : List (UInt8)))
  ((eqS y20.1 ([(48 : UInt8)] : List (UInt8)), ()), ())
  ((eqS y20.1 ([(0 : UInt8)] : List (UInt8)), ()), ())).1).1)
  ((), ((y9.1.1, ((1 : Int), (y11.1, (y13.1, (y15.1, (y17.1, (y19.1, (([] : List (UInt8)), ())))))))), ()))
  ((), (((sel (eqS y20.1 ([(53 : UInt8)] : List (UInt8)))
  ((), ((y9.1.1, ((2 : Int), (y11.1, (y13.1, (y15.1, (y17.1, (y19.1, (([] : List (UInt8)), ())))))))), ()))
  ((), (((sel (eqS y20.1 ([(50 : UInt8)] : List (UInt8)))
  ((), ((y9.1.1, ((3 : Int), (y11.1, (y13.1, (y15.1, (y17.1, (y19.1, (y6.1, ())))))))), ()))
  ((), ((y9.1.1, ((0 : Int), (y11.1, (y13.1, (y15.1, (y17.1, (y19.1, (([] : List (UInt8)), ())))))))), ()))).2).1, ()))).2).1, ()))).2).1, ((256 : Int), ()))) (fun (y21 : Bool × Unit) => some (nt y21.1)))
  (some true)) (fun (y21 : Bool) => sel y21
  (some ((([] : List (UInt8)), ((0 : Int), ((0 : Int), ((0 : Int), ((0 : Int), ((0 : Int), ((0 : Int), (([] : List (UInt8)), ())))))))), ((2 : Int), ())))
  (some (((sel (((sel (eqS y20.1 ([(48 : UInt8)] : List (UInt8)))
  ((eqS y20.1 ([(48 : UInt8)] : List (UInt8)), ()), ())
  ((eqS y20.1 ([(0 : UInt8)] : List (UInt8)), ()), ())).1).1)
  ((), ((y9.1.1, ((1 : Int), (y11.1, (y13.1, (y15.1, (y17.1, (y19.1, (([] : List (UInt8)), ())))))))), ()))
  ((), (((sel (eqS y20.1 ([(53 : UInt8)] : List (UInt8)))
  ((), ((y9.1.1, ((2 : Int), (y11.1, (y13.1, (y15.1, (y17.1, (y19.1, (([] : List (UInt8)), ())))))))), ()))
  ((), (((sel (eqS y20.1 ([(50 : UInt8)] : List (UInt8)))
  ((), ((y9.1.1, ((3 : Int), (y11.1, (y13.1, (y15.1, (y17.1, (y19.1, (y6.1, ())))))))), ()))
  ((), ((y9.1.1, ((0 : Int), (y11.1, (y13.1, (y15.1, (y17.1, (y19.1, (([] : List (UInt8)), ())))))))), ()))).2).1, ()))).2).1, ()))).2).1, ((0 : Int), ())))))))))))))))))))))))))

noncomputable def P_strings_trimLeftByte_L0 (x : Sb × Int × Unit) (y1 : (Sb × Unit) × Unit) : Option (S3x5 ⊕ S3x5) :=
  @way1 S3x5 (obind (sel (ltI (0 : Int) (@len UInt8 y1.1.1))
  (obind (@idx UInt8 y1.1.1 (0 : Int)) (fun (y2 : UInt8) => some (eqI (u8 y2) x.2.1)))
  (some false)) (fun (y2 : Bool) => sel y2
  (sel (inside (1 : Int) (@len UInt8 y1.1.1) (@len UInt8 y1.1.1))
  (some (Sum.inl ((@sub UInt8 y1.1.1 (1 : Int) (minus (@len UInt8 y1.1.1) (1 : Int)), ()), ()) : (S3x5) ⊕ ((Nat × (Sb × Unit) × Unit))))
  none)
  (some (Sum.inr ((0 : Nat), ((y1.1.1, ()), ())) : (S3x5) ⊕ ((Nat × (Sb × Unit) × Unit))))))

noncomputable def P_strings_trimLeftByte (x : Sb × Int × Unit) : Option (Sb × Unit) :=
  obind (Loop (P_strings_trimLeftByte_L0 x) ((x.1, ()), ())) (fun (y1 : (Sb × Unit) × Unit) => some (y1.1.1, ()))

noncomputable def P_strings_trimLeftASCII_L0 (y1 : (Sb × Unit) × (List (Bool)) × Unit) : Option (S3x0 ⊕ S3x0) :=
  @way1 S3x0 (sel (ltI (0 : Int) (@len UInt8 y1.1.1))
  (obind (@idx UInt8 y1.1.1 (0 : Int)) (fun (y2 : UInt8) => obind (P_strings_asciiSet_contains ((u8 y2, ()), (y1.2.1, ()))) (fun (y3 : (Bool × Unit) × (List (Bool)) × Unit) => sel (nt y3.1.1)
  (some (Sum.inr ((0 : Nat), ((y1.1.1, ()), (y3.2.1, ()))) : (S3x0) ⊕ S3x2))
  (sel (inside (1 : Int) (@len UInt8 y1.1.1) (@len UInt8 y1.1.1))
  (some (Sum.inl ((@sub UInt8 y1.1.1 (1 : Int) (minus (@len UInt8 y1.1.1) (1 : Int)), ()), (y3.2.1, ())) : (S3x0) ⊕ S3x2))
  none))))
  (some (Sum.inr ((0 : Nat), ((y1.1.1, ()), (y1.2.1, ()))) : (S3x0) ⊕ S3x2)))

noncomputable def P_strings_trimLeftASCII (x : (Sb × Unit) × (List (Bool)) × Unit) : Option S3x0 :=
  obind (Loop (P_strings_trimLeftASCII_L0) ((x.1.1, ()), (x.2.1, ()))) (fun (y1 : (Sb × Unit) × (List (Bool)) × Unit) => some ((y1.1.1, ()), (y1.2.1, ())))

noncomputable def P_strings_Trim (x : Sb × Sb × Unit) : Option (Sb × Unit) :=
  sel (sel (nt (eqS x.1 ([] : List (UInt8))))
  (eqS x.2.1 ([] : List (UInt8)))
  true)
  (some (x.1, ()))
  (obind (sel (eqI (@len UInt8 x.2.1) (1 : Int))
  (obind (@idx UInt8 x.2.1 (0 : Int)) (fun (y1 : UInt8) => some (ltI (u8 y1) (128 : Int))))
  (some false)) (fun (y1 : Bool) => sel y1
  (obind (@idx UInt8 x.2.1 (0 : Int)) (fun (y2 : UInt8) => obind (P_strings_trimRightByte (x.1, (u8 y2, ()))) (fun (y3 : Sb × Unit) => obind (@idx UInt8 x.2.1 (0 : Int)) (fun (y4 : UInt8) => obind (P_strings_trimLeftByte (y3.1, (u8 y4, ()))) (fun (y5 : Sb × Unit) => some (y5.1, ()))))))
  (obind (P_strings_makeASCIISet (x.2.1, ())) (fun (y2 : (List (Bool)) × Bool × Unit) => sel y2.2.1
  (obind (P_strings_trimRightASCII ((x.1, ()), (y2.1, ()))) (fun (y3 : (Sb × Unit) × (List (Bool)) × Unit) => obind (P_strings_trimLeftASCII ((y3.1.1, ()), (y3.2.1, ()))) (fun (y4 : (Sb × Unit) × (List (Bool)) × Unit) => some (y4.1.1, ()))))
  none))))

noncomputable def P_header_Zero (x : Sb × Unit) : Option (Bool × Unit) :=
  obind (sel (eqI (@len UInt8 x.1) (512 : Int))
  (obind (P_strings_Trim (x.1, (([(0 : UInt8)] : List (UInt8)), ()))) (fun (y1 : Sb × Unit) => some (eqS y1.1 ([] : List (UInt8)))))
  (some false)) (fun (y1 : Bool) => some (y1, ()))

end Go.Ge

/- What the functions of layer 13 compute, as plain programs (written by a program from what the ghost interpreter comes to). -/
namespace Go.Ge
set_option linter.unusedVariables false
set_option maxRecDepth 100000

abbrev S4x0 := ((Sb × Int × Int × Int × Int × Int × Int × Sb × Unit) × Sb × Unit)
abbrev S4x1 := (Bool × Sb × Int × Bool × Bool × Unit)
abbrev S4x2 := ((Unit × Unit × Bool × Unit) × S4x0 × (List S4x0) × S4x1 × Unit)
abbrev S4x3 := (S4x0 × Bool × Unit)
noncomputable def P_tar_fill (x : Int × Unit) : Option (Int × Unit) :=
  sel (eqI (512 : Int) (0 : Int))
  none
  (sel (eqI (512 : Int) (0 : Int))
  none
  (some (irem (isub IntKind.i64 (512 : Int) (irem x.1 (512 : Int))) (512 : Int), ())))

noncomputable def P_tar_Reader_ends (x : (Bool × Unit) × S4x1 × Unit) : Option (S4x3 × S4x1 × Unit) :=
  some ((((([] : List (UInt8)), ((0 : Int), ((0 : Int), ((0 : Int), ((0 : Int), ((0 : Int), ((0 : Int), (([] : List (UInt8)), ())))))))), (([] : List (UInt8)), ())), (false, ())), ((x.2.1.1, (([] : List (UInt8)), (x.2.1.2.2.1, (true, (x.1.1, x.2.1.2.2.2.2.2))))), ()))

noncomputable def P_tar_Reader_Next (x : Unit × S4x1 × Unit) : Option (S4x3 × S4x1 × Unit) :=
  sel (sel (nt (nt x.2.1.1))
  x.2.1.2.2.2.1
  true)
  (some ((((([] : List (UInt8)), ((0 : Int), ((0 : Int), ((0 : Int), ((0 : Int), ((0 : Int), ((0 : Int), (([] : List (UInt8)), ())))))))), (([] : List (UInt8)), ())), (false, ())), (x.2.1, ())))
  (sel (ltI (@len UInt8 x.2.1.2.1) (512 : Int))
  (obind (P_tar_Reader_ends ((true, ()), (x.2.1, ()))) (fun (y1 : S4x3 × S4x1 × Unit) => some ((y1.1.1, (y1.1.2.1, ())), (y1.2.1, ()))))
  (sel (inside (0 : Int) (512 : Int) (@len UInt8 x.2.1.2.1))
  (obind (P_header_Zero (@sub UInt8 x.2.1.2.1 (0 : Int) (minus (512 : Int) (0 : Int)), ())) (fun (y1 : Bool × Unit) => sel y1.1
  (obind (sel (leI (1024 : Int) (@len UInt8 x.2.1.2.1))
  (sel (eqI (512 : Int) (0 : Int))
  none
  (some (eqI (irem (@len UInt8 x.2.1.2.1) (512 : Int)) (0 : Int))))
  (some false)) (fun (y2 : Bool) => obind (sel (nt (nt y2))
  (obind (P_strings_Trim (x.2.1.2.1, (([(0 : UInt8)] : List (UInt8)), ()))) (fun (y3 : Sb × Unit) => some (nt (eqS y3.1 ([] : List (UInt8))))))
  (some true)) (fun (y3 : Bool) => obind (P_tar_Reader_ends ((y3, ()), (x.2.1, ()))) (fun (y4 : S4x3 × S4x1 × Unit) => some ((y4.1.1, (y4.1.2.1, ())), (y4.2.1, ()))))))
  (sel (inside (0 : Int) (512 : Int) (@len UInt8 x.2.1.2.1))
  (obind (P_header_Take (@sub UInt8 x.2.1.2.1 (0 : Int) (minus (512 : Int) (0 : Int)), ())) (fun (y2 : (Sb × Int × Int × Int × Int × Int × Int × Sb × Unit) × Int × Unit) => sel (inside (512 : Int) (@len UInt8 x.2.1.2.1) (@len UInt8 x.2.1.2.1))
  (sel (nt (eqI y2.2.1 (0 : Int)))
  (obind (P_tar_Reader_ends ((true, ()), (x.2.1, ()))) (fun (y3 : S4x3 × S4x1 × Unit) => some ((y3.1.1, (y3.1.2.1, ())), (y3.2.1, ()))))
  (sel (ltI (@len UInt8 (@sub UInt8 x.2.1.2.1 (512 : Int) (minus (@len UInt8 x.2.1.2.1) (512 : Int)))) y2.1.2.2.2.2.2.1)
  (obind (P_tar_Reader_ends ((true, ()), (x.2.1, ()))) (fun (y3 : S4x3 × S4x1 × Unit) => some ((y3.1.1, (y3.1.2.1, ())), (y3.2.1, ()))))
  (obind (P_tar_fill (y2.1.2.2.2.2.2.1, ())) (fun (y3 : Int × Unit) => sel (ltI (@len UInt8 (@sub UInt8 x.2.1.2.1 (512 : Int) (minus (@len UInt8 x.2.1.2.1) (512 : Int)))) (iadd IntKind.i64 y2.1.2.2.2.2.2.1 y3.1))
  (obind (P_tar_Reader_ends ((true, ()), (x.2.1, ()))) (fun (y4 : S4x3 × S4x1 × Unit) => some ((y4.1.1, (y4.1.2.1, ())), (y4.2.1, ()))))
  (sel (leI (64 : Int) x.2.1.2.2.1)
  (obind (P_tar_Reader_ends ((true, ()), (x.2.1, ()))) (fun (y4 : S4x3 × S4x1 × Unit) => some ((y4.1.1, (y4.1.2.1, ())), (y4.2.1, ()))))
  (obind (P_tar_fill (y2.1.2.2.2.2.2.1, ())) (fun (y4 : Int × Unit) => sel (inside (iadd IntKind.i64 y2.1.2.2.2.2.2.1 y4.1) (@len UInt8 (@sub UInt8 x.2.1.2.1 (512 : Int) (minus (@len UInt8 x.2.1.2.1) (512 : Int)))) (@len UInt8 (@sub UInt8 x.2.1.2.1 (512 : Int) (minus (@len UInt8 x.2.1.2.1) (512 : Int)))))
  (sel (inside (0 : Int) y2.1.2.2.2.2.2.1 (@len UInt8 (@sub UInt8 x.2.1.2.1 (512 : Int) (minus (@len UInt8 x.2.1.2.1) (512 : Int)))))
  (some (((y2.1, (@sub UInt8 (@sub UInt8 x.2.1.2.1 (512 : Int) (minus (@len UInt8 x.2.1.2.1) (512 : Int))) (0 : Int) (minus y2.1.2.2.2.2.2.1 (0 : Int)), ())), (true, ())), ((x.2.1.1, (@sub UInt8 (@sub UInt8 x.2.1.2.1 (512 : Int) (minus (@len UInt8 x.2.1.2.1) (512 : Int))) (iadd IntKind.i64 y2.1.2.2.2.2.2.1 y4.1) (minus (@len UInt8 (@sub UInt8 x.2.1.2.1 (512 : Int) (minus (@len UInt8 x.2.1.2.1) (512 : Int)))) (iadd IntKind.i64 y2.1.2.2.2.2.2.1 y4.1)), (iadd IntKind.i64 x.2.1.2.2.1 (1 : Int), x.2.1.2.2.2))), ())))
  none)
  none)))))))
  none))
  none)))
  none))

noncomputable def P_tar_Reader_Bad (x : Unit × S4x1 × Unit) : Option ((Bool × Unit) × S4x1 × Unit) :=
  some ((x.2.1.2.2.2.2.1, ()), (x.2.1, ()))

noncomputable def P_tar_Read_L0 (y2 : (Unit × Unit × Bool × Unit) × S4x0 × (List S4x0) × S4x1 × Unit) : Option (S4x2 ⊕ S4x2) :=
  @way1 S4x2 (sel y2.1.2.2.1
  (sel (fits (plus (@len S4x0 y2.2.2.1) (@len S4x0 ([y2.2.1] : List S4x0))))
  (obind (P_tar_Reader_Next ((), (y2.2.2.2.1, ()))) (fun (y3 : S4x3 × S4x1 × Unit) => some (Sum.inl (((), ((), (y3.1.2.1, ()))), (y3.1.1, (@app S4x0 y2.2.2.1 ([y2.2.1] : List S4x0), (y3.2.1, ())))) : (S4x2) ⊕ ((Nat × (Unit × Unit × Bool × Unit) × S4x0 × (List S4x0) × S4x1 × Unit)))))
  none)
  (some (Sum.inr ((0 : Nat), (((), ((), (y2.1.2.2.1, ()))), (y2.2.1, (y2.2.2.1, (y2.2.2.2.1, ()))))) : (S4x2) ⊕ ((Nat × (Unit × Unit × Bool × Unit) × S4x0 × (List S4x0) × S4x1 × Unit)))))

noncomputable def P_tar_Read (x : Sb × Unit) : Option ((List S4x0) × Int × Unit) :=
  obind (P_tar_Reader_Next ((), ((true, (x.1, ((0 : Int), (ltI (8192 : Int) (@len UInt8 x.1), (ltI (8192 : Int) (@len UInt8 x.1), ()))))), ()))) (fun (y1 : S4x3 × S4x1 × Unit) => obind (Loop (P_tar_Read_L0) (((), ((), (y1.1.2.1, ()))), (y1.1.1, (([] : List S4x0), (y1.2.1, ()))))) (fun (y2 : (Unit × Unit × Bool × Unit) × S4x0 × (List S4x0) × S4x1 × Unit) => obind (P_tar_Reader_Bad ((), (y2.2.2.2.1, ()))) (fun (y3 : (Bool × Unit) × S4x1 × Unit) => sel y3.1.1
  (some (([] : List S4x0), ((10 : Int), ())))
  (some (y2.2.2.1, ((0 : Int), ()))))))

end Go.Ge

/- What the functions of layer 07 compute, as plain programs (written by a program from what the ghost interpreter comes to). -/
namespace Go.Ge
set_option linter.unusedVariables false
set_option maxRecDepth 100000

abbrev S5x0 := (Int × Int × Unit)
abbrev S5x1 := (Int × Int × Int × Unit)
abbrev S5x2 := (Bool × Int × Unit)
abbrev S5x3 := (Sb × Int × Unit × Int × Unit)
abbrev S5x4 := (Nat × S5x0 × Unit)
abbrev S5x5 := ((S5x0 × Unit))
abbrev S5x6 := (Nat × S5x2 × Unit)
noncomputable def P_paths_Parts (x : Sb × Unit) : Option ((List Sb) × Unit) :=
  sel (eqS x.1 ([] : List (UInt8)))
  (some (([] : List Sb), ()))
  (obind (P_strings_Split (x.1, (([(47 : UInt8)] : List (UInt8)), ()))) (fun (y1 : (List Sb) × Unit) => some (y1.1, ())))

noncomputable def P_paths_isName_L0 (x : Sb × Unit) (y1 : S5x2 × Unit) : Option ((S5x2 × Unit) ⊕ S5x6) :=
  sel (ltI y1.1.2.1 (2 : Int))
  (obind (@idx Sb ([([(46 : UInt8)] : List (UInt8)), ([(46 : UInt8), (46 : UInt8)] : List (UInt8))] : List Sb) y1.1.2.1) (fun (y2 : List (UInt8)) => sel (eqS x.1 y2)
  (some (Sum.inr ((1 : Nat), ((false, (y1.1.2.1, ())), ())) : ((S5x2 × Unit)) ⊕ (S5x6)))
  (some (Sum.inl ((y1.1.1, (iadd IntKind.i64 y1.1.2.1 (1 : Int), ())), ()) : ((S5x2 × Unit)) ⊕ (S5x6)))))
  (some (Sum.inr ((0 : Nat), ((y1.1.1, (y1.1.2.1, ())), ())) : ((S5x2 × Unit)) ⊕ (S5x6)))

noncomputable def P_paths_isName (x : Sb × Unit) : Option (Bool × Unit) :=
  obind (Loop (P_paths_isName_L0 x) ((false, ((0 : Int), ())), ())) (fun (y1 : Nat × S5x2 × Unit) => sel (eqN y1.1 (0 : Nat))
  (obind (sel (sel (leI (1 : Int) (@len UInt8 x.1))
  (leI (@len UInt8 x.1) (32 : Int))
  false)
  (obind (P_strings_IndexByte (x.1, ((0 : Int), ()))) (fun (y2 : Int × Unit) => some (ltI y2.1 (0 : Int))))
  (some false)) (fun (y2 : Bool) => some (y2, ())))
  (some (y1.2.1.1, ())))

noncomputable def P_strings_HasPrefix (x : Sb × Sb × Unit) : Option (Bool × Unit) :=
  obind (P_internal_stringslite_HasPrefix (x.1, (x.2.1, ()))) (fun (y1 : Bool × Unit) => some (y1.1, ()))

noncomputable def P_paths_Clean_L0 (y1 : (List Sb) × Unit) (y2 : S5x3 × (List Sb) × Unit) : Option ((S5x3 × (List Sb) × Unit) ⊕ (Nat × S5x3 × (List Sb) × Unit)) :=
  sel (ltI y2.1.2.2.2.1 (@len Sb y1.1))
  (obind (@idx Sb y1.1 y2.1.2.2.2.1) (fun (y3 : List (UInt8)) => obind (sel (sel (nt (eqS y3 ([] : List (UInt8))))
  (eqS y3 ([(46 : UInt8)] : List (UInt8)))
  true)
  (some ((0 : Nat), ((y2.1.1, (y2.1.2.1, ((), ()))), (y2.2.1, ()))))
  (obind (P_paths_isName (y3, ())) (fun (y4 : Bool × Unit) => sel (nt y4.1)
  (some ((1 : Nat), ((([] : List (UInt8)), ((2 : Int), ((), ()))), (y2.2.1, ()))))
  (sel (fits (plus (@len Sb y2.2.1) (@len Sb ([y3] : List Sb))))
  (some ((0 : Nat), ((y2.1.1, (y2.1.2.1, ((), ()))), (@app Sb y2.2.1 ([y3] : List Sb), ()))))
  none)))) (fun (y4 : Nat × (Sb × Int × Unit × Unit) × (List Sb) × Unit) => sel (eqN y4.1 (0 : Nat))
  (some (Sum.inl ((y4.2.1.1, (y4.2.1.2.1, ((), (iadd IntKind.i64 y2.1.2.2.2.1 (1 : Int), ())))), (y4.2.2.1, ())) : ((S5x3 × (List Sb) × Unit)) ⊕ ((Nat × S5x3 × (List Sb) × Unit))))
  (some (Sum.inr ((1 : Nat), ((y4.2.1.1, (y4.2.1.2.1, ((), (y2.1.2.2.2.1, ())))), (y4.2.2.1, ()))) : ((S5x3 × (List Sb) × Unit)) ⊕ ((Nat × S5x3 × (List Sb) × Unit)))))))
  (some (Sum.inr ((0 : Nat), ((y2.1.1, (y2.1.2.1, ((), (y2.1.2.2.2.1, ())))), (y2.2.1, ()))) : ((S5x3 × (List Sb) × Unit)) ⊕ ((Nat × S5x3 × (List Sb) × Unit))))

noncomputable def P_paths_Clean (x : Sb × Unit) : Option (Sb × Int × Unit) :=
  obind (P_paths_Parts (x.1, ())) (fun (y1 : (List Sb) × Unit) => obind (Loop (P_paths_Clean_L0 y1) ((([] : List (UInt8)), ((0 : Int), ((), ((0 : Int), ())))), (([] : List Sb), ()))) (fun (y2 : Nat × S5x3 × (List Sb) × Unit) => sel (eqN y2.1 (0 : Nat))
  (obind (P_strings_Join (y2.2.2.1, (([(47 : UInt8)] : List (UInt8)), ()))) (fun (y3 : Sb × Unit) => obind (P_strings_HasPrefix (x.1, (([(47 : UInt8)] : List (UInt8)), ()))) (fun (y4 : Bool × Unit) => sel (sel (nt (sel (nt y4.1)
  (ltI (8 : Int) (@len Sb y2.2.2.1))
  true))
  (ltI (96 : Int) (@len UInt8 y3.1))
  true)
  (some (([] : List (UInt8)), ((2 : Int), ())))
  (some (y3.1, ((0 : Int), ()))))))
  (some (y2.2.1.1, (y2.2.1.2.1, ())))))

noncomputable def P_slices_Index_string_string_L0 (x : (List Sb) × Sb × Unit) (y1 : S5x0 × Unit) : Option ((S5x0 × Unit) ⊕ S5x4) :=
  sel (ltI y1.1.2.1 (@len Sb x.1))
  (obind (@idx Sb x.1 y1.1.2.1) (fun (y2 : List (UInt8)) => sel (eqS x.2.1 y2)
  (some (Sum.inr ((1 : Nat), ((y1.1.2.1, (y1.1.2.1, ())), ())) : S5x5 ⊕ (S5x4)))
  (some (Sum.inl ((y1.1.1, (iadd IntKind.i64 y1.1.2.1 (1 : Int), ())), ()) : S5x5 ⊕ (S5x4)))))
  (some (Sum.inr ((0 : Nat), ((y1.1.1, (y1.1.2.1, ())), ())) : S5x5 ⊕ (S5x4)))

noncomputable def P_slices_Index_string_string (x : (List Sb) × Sb × Unit) : Option (Int × Unit) :=
  obind (Loop (P_slices_Index_string_string_L0 x) (((0 : Int), ((0 : Int), ())), ())) (fun (y1 : Nat × S5x0 × Unit) => sel (eqN y1.1 (0 : Nat))
  (some ((-1 : Int), ()))
  (some (y1.2.1.1, ())))

noncomputable def P_slices_Contains_string_string (x : (List Sb) × Sb × Unit) : Option (Bool × Unit) :=
  obind (P_slices_Index_string_string (x.1, (x.2.1, ()))) (fun (y1 : Int × Unit) => some (leI (0 : Int) y1.1, ()))

noncomputable def P_paths_Mark (x : Sb × Unit) : Option (Int × Sb × Unit) :=
  obind (P_strings_CutPrefix (x.1, (([(46 : UInt8), (119 : UInt8), (104 : UInt8), (46 : UInt8)] : List (UInt8)), ()))) (fun (y1 : Sb × Bool × Unit) => sel (nt y1.2.1)
  (some ((0 : Int), (x.1, ())))
  (sel (eqS x.1 ([(46 : UInt8), (119 : UInt8), (104 : UInt8), (46 : UInt8), (46 : UInt8), (119 : UInt8), (104 : UInt8), (46 : UInt8), (46 : UInt8), (111 : UInt8), (112 : UInt8), (113 : UInt8)] : List (UInt8)))
  (some ((2 : Int), (([] : List (UInt8)), ())))
  (obind (P_strings_HasPrefix (y1.1, (([(46 : UInt8), (119 : UInt8), (104 : UInt8), (46 : UInt8)] : List (UInt8)), ()))) (fun (y2 : Bool × Unit) => obind (sel (nt y2.1)
  (obind (P_slices_Contains_string_string (([([] : List (UInt8)), ([(46 : UInt8)] : List (UInt8)), ([(46 : UInt8), (46 : UInt8)] : List (UInt8))] : List Sb), (y1.1, ()))) (fun (y3 : Bool × Unit) => some y3.1))
  (some true)) (fun (y3 : Bool) => sel y3
  (some ((3 : Int), (([] : List (UInt8)), ())))
  (some ((1 : Int), (y1.1, ()))))))))

noncomputable def P_internal_bytealg_LastIndexByteString_L0 (x : Sb × Int × Unit) (y1 : S5x0 × Unit) : Option ((S5x0 × Unit) ⊕ S5x4) :=
  sel (leI (0 : Int) y1.1.2.1)
  (obind (@idx UInt8 x.1 y1.1.2.1) (fun (y2 : UInt8) => sel (eqI (u8 y2) x.2.1)
  (some (Sum.inr ((1 : Nat), ((y1.1.2.1, (y1.1.2.1, ())), ())) : S5x5 ⊕ (S5x4)))
  (some (Sum.inl ((y1.1.1, (isub IntKind.i64 y1.1.2.1 (1 : Int), ())), ()) : S5x5 ⊕ (S5x4)))))
  (some (Sum.inr ((0 : Nat), ((y1.1.1, (y1.1.2.1, ())), ())) : S5x5 ⊕ (S5x4)))

noncomputable def P_internal_bytealg_LastIndexByteString (x : Sb × Int × Unit) : Option (Int × Unit) :=
  obind (Loop (P_internal_bytealg_LastIndexByteString_L0 x) (((0 : Int), (isub IntKind.i64 (@len UInt8 x.1) (1 : Int), ())), ())) (fun (y1 : Nat × S5x0 × Unit) => sel (eqN y1.1 (0 : Nat))
  (some ((-1 : Int), ()))
  (some (y1.2.1.1, ())))

noncomputable def P_internal_bytealg_hashStrRev_string_L0 (x : Sb × Unit) (y1 : S5x0 × Unit) : Option ((S5x0 × Unit) ⊕ (S5x0 × Unit)) :=
  @way1 (S5x0 × Unit) (sel (leI (0 : Int) y1.1.2.1)
  (obind (@idx UInt8 x.1 y1.1.2.1) (fun (y2 : UInt8) => some (Sum.inl ((iadd IntKind.u32 (imul IntKind.u32 y1.1.1 (16777619 : Int)) (icv IntKind.u32 (u8 y2)), (isub IntKind.i64 y1.1.2.1 (1 : Int), ())), ()) : S5x5 ⊕ (S5x4))))
  (some (Sum.inr ((0 : Nat), ((y1.1.1, (y1.1.2.1, ())), ())) : S5x5 ⊕ (S5x4))))

noncomputable def P_internal_bytealg_hashStrRev_string_L1 (y2 : S5x1 × Unit) : Option ((S5x1 × Unit) ⊕ (S5x1 × Unit)) :=
  @way1 (S5x1 × Unit) (sel (ltI (0 : Int) y2.1.2.2.1)
  (sel (ltI (1 : Int) (0 : Int))
  none
  (some (Sum.inl ((((sel (nt (eqI (iand IntKind.i64 y2.1.2.2.1 (1 : Int)) (0 : Int)))
  ((imul IntKind.u32 y2.1.1 y2.1.2.1, ()), ())
  ((y2.1.1, ()), ())).1).1, (imul IntKind.u32 y2.1.2.1 y2.1.2.1, (ishr IntKind.i64 y2.1.2.2.1 (1 : Int), ()))), ()) : ((S5x1 × Unit)) ⊕ ((Nat × S5x1 × Unit)))))
  (some (Sum.inr ((0 : Nat), ((y2.1.1, (y2.1.2.1, (y2.1.2.2.1, ()))), ())) : ((S5x1 × Unit)) ⊕ ((Nat × S5x1 × Unit)))))

noncomputable def P_internal_bytealg_hashStrRev_string (x : Sb × Unit) : Option S5x0 :=
  obind (Loop (P_internal_bytealg_hashStrRev_string_L0 x) (((0 : Int), (isub IntKind.i64 (@len UInt8 x.1) (1 : Int), ())), ())) (fun (y1 : S5x0 × Unit) => obind (Loop (P_internal_bytealg_hashStrRev_string_L1) (((1 : Int), ((16777619 : Int), (@len UInt8 x.1, ()))), ())) (fun (y2 : S5x1 × Unit) => some (y1.1.1, (y2.1.1, ()))))

noncomputable def P_internal_bytealg_LastIndexRabinKarp_string_L0 (x : Sb × Sb × Unit) (y2 : S5x0 × Unit) : Option ((S5x0 × Unit) ⊕ (S5x0 × Unit)) :=
  @way1 (S5x0 × Unit) (sel (leI (isub IntKind.i64 (@len UInt8 x.1) (@len UInt8 x.2.1)) y2.1.2.1)
  (obind (@idx UInt8 x.1 y2.1.2.1) (fun (y3 : UInt8) => some (Sum.inl ((iadd IntKind.u32 (imul IntKind.u32 y2.1.1 (16777619 : Int)) (icv IntKind.u32 (u8 y3)), (isub IntKind.i64 y2.1.2.1 (1 : Int), ())), ()) : S5x5 ⊕ (S5x4))))
  (some (Sum.inr ((0 : Nat), ((y2.1.1, (y2.1.2.1, ())), ())) : S5x5 ⊕ (S5x4))))

noncomputable def P_internal_bytealg_LastIndexRabinKarp_string_L1 (x : Sb × Sb × Unit) (y1 : Int × Int × Unit) (y4 : S5x1 × Unit) : Option ((S5x1 × Unit) ⊕ (Nat × S5x1 × Unit)) :=
  sel (leI (0 : Int) y4.1.2.2.1)
  (obind (@idx UInt8 x.1 y4.1.2.2.1) (fun (y5 : UInt8) => obind (@idx UInt8 x.1 (iadd IntKind.i64 y4.1.2.2.1 (@len UInt8 x.2.1))) (fun (y6 : UInt8) => obind (sel (eqI (isub IntKind.u32 (iadd IntKind.u32 (imul IntKind.u32 y4.1.2.1 (16777619 : Int)) (icv IntKind.u32 (u8 y5))) (imul IntKind.u32 y1.2.1 (icv IntKind.u32 (u8 y6)))) y1.1)
  (sel (inside y4.1.2.2.1 (iadd IntKind.i64 y4.1.2.2.1 (@len UInt8 x.2.1)) (@len UInt8 x.1))
  (some (eqS (@sub UInt8 x.1 y4.1.2.2.1 (minus (iadd IntKind.i64 y4.1.2.2.1 (@len UInt8 x.2.1)) y4.1.2.2.1)) x.2.1))
  none)
  (some false)) (fun (y7 : Bool) => sel y7
  (some (Sum.inr ((1 : Nat), ((y4.1.2.2.1, (isub IntKind.u32 (iadd IntKind.u32 (imul IntKind.u32 y4.1.2.1 (16777619 : Int)) (icv IntKind.u32 (u8 y5))) (imul IntKind.u32 y1.2.1 (icv IntKind.u32 (u8 y6))), (y4.1.2.2.1, ()))), ())) : ((S5x1 × Unit)) ⊕ ((Nat × S5x1 × Unit))))
  (some (Sum.inl ((y4.1.1, (isub IntKind.u32 (iadd IntKind.u32 (imul IntKind.u32 y4.1.2.1 (16777619 : Int)) (icv IntKind.u32 (u8 y5))) (imul IntKind.u32 y1.2.1 (icv IntKind.u32 (u8 y6))), (isub IntKind.i64 y4.1.2.2.1 (1 : Int), ()))), ()) : ((S5x1 × Unit)) ⊕ ((Nat × S5x1 × Unit))))))))
  (some (Sum.inr ((0 : Nat), ((y4.1.1, (y4.1.2.1, (y4.1.2.2.1, ()))), ())) : ((S5x1 × Unit)) ⊕ ((Nat × S5x1 × Unit))))

noncomputable def P_internal_bytealg_LastIndexRabinKarp_string (x : Sb × Sb × Unit) : Option (Int × Unit) :=
  obind (P_internal_bytealg_hashStrRev_string (x.2.1, ())) (fun (y1 : Int × Int × Unit) => obind (Loop (P_internal_bytealg_LastIndexRabinKarp_string_L0 x) (((0 : Int), (isub IntKind.i64 (@len UInt8 x.1) (1 : Int), ())), ())) (fun (y2 : S5x0 × Unit) => obind (sel (eqI y2.1.1 y1.1)
  (sel (inside (isub IntKind.i64 (@len UInt8 x.1) (@len UInt8 x.2.1)) (@len UInt8 x.1) (@len UInt8 x.1))
  (some (eqS (@sub UInt8 x.1 (isub IntKind.i64 (@len UInt8 x.1) (@len UInt8 x.2.1)) (minus (@len UInt8 x.1) (isub IntKind.i64 (@len UInt8 x.1) (@len UInt8 x.2.1)))) x.2.1))
  none)
  (some false)) (fun (y3 : Bool) => sel y3
  (some (isub IntKind.i64 (@len UInt8 x.1) (@len UInt8 x.2.1), ()))
  (obind (Loop (P_internal_bytealg_LastIndexRabinKarp_string_L1 x y1) (((0 : Int), (y2.1.1, (isub IntKind.i64 (isub IntKind.i64 (@len UInt8 x.1) (@len UInt8 x.2.1)) (1 : Int), ()))), ())) (fun (y4 : Nat × S5x1 × Unit) => sel (eqN y4.1 (0 : Nat))
  (some ((-1 : Int), ()))
  (some (y4.2.1.1, ())))))))

noncomputable def P_strings_LastIndex (x : Sb × Sb × Unit) : Option (Int × Unit) :=
  sel (eqI (@len UInt8 x.2.1) (0 : Int))
  (some (@len UInt8 x.1, ()))
  (sel (eqI (@len UInt8 x.2.1) (1 : Int))
  (obind (@idx UInt8 x.2.1 (0 : Int)) (fun (y1 : UInt8) => obind (P_internal_bytealg_LastIndexByteString (x.1, (u8 y1, ()))) (fun (y2 : Int × Unit) => some (y2.1, ()))))
  (sel (eqI (@len UInt8 x.2.1) (@len UInt8 x.1))
  (sel (eqS x.2.1 x.1)
  (some ((0 : Int), ()))
  (some ((-1 : Int), ())))
  (sel (ltI (@len UInt8 x.1) (@len UInt8 x.2.1))
  (some ((-1 : Int), ()))
  (obind (P_internal_bytealg_LastIndexRabinKarp_string (x.1, (x.2.1, ()))) (fun (y1 : Int × Unit) => some (y1.1, ()))))))

noncomputable def P_paths_Split (x : Sb × Unit) : Option (Sb × Sb × Unit) :=
  obind (P_strings_LastIndex (x.1, (([(47 : UInt8)] : List (UInt8)), ()))) (fun (y1 : Int × Unit) => sel (ltI y1.1 (0 : Int))
  (some (([] : List (UInt8)), (x.1, ())))
  (sel (inside (0 : Int) y1.1 (@len UInt8 x.1))
  (sel (inside (iadd IntKind.i64 y1.1 (1 : Int)) (@len UInt8 x.1) (@len UInt8 x.1))
  (some (@sub UInt8 x.1 (0 : Int) (minus y1.1 (0 : Int)), (@sub UInt8 x.1 (iadd IntKind.i64 y1.1 (1 : Int)) (minus (@len UInt8 x.1) (iadd IntKind.i64 y1.1 (1 : Int))), ())))
  none)
  none))

noncomputable def P_slices_Equal_string_string_L0 (x : (List Sb) × (List Sb) × Unit) (y1 : S5x2 × Unit) : Option ((S5x2 × Unit) ⊕ S5x6) :=
  sel (ltI y1.1.2.1 (@len Sb x.1))
  (obind (@idx Sb x.1 y1.1.2.1) (fun (y2 : List (UInt8)) => obind (@idx Sb x.2.1 y1.1.2.1) (fun (y3 : List (UInt8)) => sel (nt (eqS y2 y3))
  (some (Sum.inr ((1 : Nat), ((false, (y1.1.2.1, ())), ())) : ((S5x2 × Unit)) ⊕ (S5x6)))
  (some (Sum.inl ((y1.1.1, (iadd IntKind.i64 y1.1.2.1 (1 : Int), ())), ()) : ((S5x2 × Unit)) ⊕ (S5x6))))))
  (some (Sum.inr ((0 : Nat), ((y1.1.1, (y1.1.2.1, ())), ())) : ((S5x2 × Unit)) ⊕ (S5x6)))

noncomputable def P_slices_Equal_string_string (x : (List Sb) × (List Sb) × Unit) : Option (Bool × Unit) :=
  sel (nt (eqI (@len Sb x.1) (@len Sb x.2.1)))
  (some (false, ()))
  (obind (Loop (P_slices_Equal_string_string_L0 x) ((false, ((0 : Int), ())), ())) (fun (y1 : Nat × S5x2 × Unit) => sel (eqN y1.1 (0 : Nat))
  (some (true, ()))
  (some (y1.2.1.1, ()))))

noncomputable def P_paths_Under (x : Sb × Sb × Unit) : Option (Bool × Unit) :=
  obind (P_paths_Parts (x.1, ())) (fun (y1 : (List Sb) × Unit) => obind (P_paths_Parts (x.2.1, ())) (fun (y2 : (List Sb) × Unit) => obind (sel (ltI (@len Sb y2.1) (@len Sb y1.1))
  (sel (inside (0 : Int) (@len Sb y2.1) (@len Sb y1.1))
  (obind (P_slices_Equal_string_string (@sub Sb y1.1 (0 : Int) (minus (@len Sb y2.1) (0 : Int)), (y2.1, ()))) (fun (y3 : Bool × Unit) => some y3.1))
  none)
  (some false)) (fun (y3 : Bool) => some (y3, ()))))

noncomputable def P_cmp_isNaN_string (x : Sb × Unit) : Option (Bool × Unit) :=
  some (nt (eqS x.1 x.1), ())

noncomputable def P_cmp_Compare_string (x : Sb × Sb × Unit) : Option (Int × Unit) :=
  obind (P_cmp_isNaN_string (x.1, ())) (fun (y1 : Bool × Unit) => obind (P_cmp_isNaN_string (x.2.1, ())) (fun (y2 : Bool × Unit) => sel y1.1
  (sel y2.1
  (some ((0 : Int), ()))
  (some ((-1 : Int), ())))
  (sel y2.1
  (some ((1 : Int), ()))
  (sel (ltS x.1 x.2.1)
  (some ((-1 : Int), ()))
  (sel (nt (oor (ltS x.1 x.2.1) (eqS x.1 x.2.1)))
  (some ((1 : Int), ()))
  (some ((0 : Int), ())))))))

noncomputable def P_paths_Compare_L0 (y1 : (List Sb) × Unit) (y2 : (List Sb) × Unit) (y3 : S5x0 × Unit) : Option ((S5x0 × Unit) ⊕ S5x4) :=
  sel (ltI y3.1.2.1 (@len Sb y1.1))
  (obind (@idx Sb y1.1 y3.1.2.1) (fun (y4 : List (UInt8)) => sel (leI (@len Sb y2.1) y3.1.2.1)
  (some (Sum.inr ((1 : Nat), (((1 : Int), (y3.1.2.1, ())), ())) : S5x5 ⊕ (S5x4)))
  (obind (@idx Sb y2.1 y3.1.2.1) (fun (y5 : List (UInt8)) => obind (P_cmp_Compare_string (y4, (y5, ()))) (fun (y6 : Int × Unit) => sel (nt (eqI y6.1 (0 : Int)))
  (some (Sum.inr ((1 : Nat), ((y6.1, (y3.1.2.1, ())), ())) : S5x5 ⊕ (S5x4)))
  (some (Sum.inl ((y3.1.1, (iadd IntKind.i64 y3.1.2.1 (1 : Int), ())), ()) : S5x5 ⊕ (S5x4))))))))
  (some (Sum.inr ((0 : Nat), ((y3.1.1, (y3.1.2.1, ())), ())) : S5x5 ⊕ (S5x4)))

noncomputable def P_paths_Compare (x : Sb × Sb × Unit) : Option (Int × Unit) :=
  obind (P_paths_Parts (x.1, ())) (fun (y1 : (List Sb) × Unit) => obind (P_paths_Parts (x.2.1, ())) (fun (y2 : (List Sb) × Unit) => obind (Loop (P_paths_Compare_L0 y1 y2) (((0 : Int), ((0 : Int), ())), ())) (fun (y3 : Nat × S5x0 × Unit) => sel (eqN y3.1 (0 : Nat))
  (sel (ltI (@len Sb y1.1) (@len Sb y2.1))
  (some ((-1 : Int), ()))
  (some ((0 : Int), ())))
  (some (y3.2.1.1, ())))))

noncomputable def P_paths_Join (x : Sb × Sb × Unit) : Option (Sb × Unit) :=
  sel (sel (nt (eqS x.1 ([] : List (UInt8))))
  (eqS x.2.1 ([] : List (UInt8)))
  true)
  (sel (fits (plus (@len UInt8 x.1) (@len UInt8 x.2.1)))
  (some (@app UInt8 x.1 x.2.1, ()))
  none)
  (sel (fits (plus (@len UInt8 x.1) (@len UInt8 ([(47 : UInt8)] : List (UInt8)))))
  (sel (fits (plus (@len UInt8 (@app UInt8 x.1 ([(47 : UInt8)] : List (UInt8)))) (@len UInt8 x.2.1)))
  (some (@app UInt8 (@app UInt8 x.1 ([(47 : UInt8)] : List (UInt8))) x.2.1, ()))
  none)
  none)

end Go.Ge

/- What the functions of layer 01 compute, as plain programs (written by a program from what the ghost interpreter comes to). -/
namespace Go.Ge
set_option linter.unusedVariables false
set_option maxRecDepth 100000

end Go.Ge

/- What the functions of layer 14z compute, as plain programs (written by a program from what the ghost interpreter comes to). -/
namespace Go.Ge
set_option linter.unusedVariables false
set_option maxRecDepth 100000

abbrev S7x0 := (Sb × Int × Int × Sb × Sb × Unit)
abbrev S7x1 := ((Int × Int × Unit × Unit) × Unit × Sb × (List S7x0) × Unit)
abbrev S7x2 := (Int × Int × Unit)
abbrev S7x3 := ((Nat × (Int × Int × Unit × Unit) × Unit × Sb × (List S7x0) × Unit))
abbrev S7x4 := ((List UInt8) × (Int × (Int × ((List UInt8) × ((List UInt8) × Unit)))))
abbrev S7x5 := ((Nat × S7x2 × Unit))
abbrev S7x6 := (Bool × Int × Unit)
noncomputable def P_slices_Insert_api_TreeNode_api_TreeNode (l : List S7x4) (x : (Int × ((List S7x4) × Unit))) : Option (List S7x4) := insL l x.1 x.2.1

noncomputable def P_tree_isPath (x : Sb × Unit) : Option (Bool × Unit) :=
  obind (P_paths_Clean (x.1, ())) (fun (y1 : Sb × Int × Unit) => obind (P_paths_Split (x.1, ())) (fun (y2 : Sb × Sb × Unit) => obind (P_paths_Mark (y2.2.1, ())) (fun (y3 : Int × Sb × Unit) => some (sel (sel (sel (sel (eqI y1.2.1 (0 : Int))
  (eqS y1.1 x.1)
  false)
  (nt (eqS x.1 ([] : List (UInt8))))
  false)
  (sel (leI (@len UInt8 x.1) (92 : Int))
  (leI (@len UInt8 y2.2.1) (28 : Int))
  false)
  false)
  (eqI y3.1 (0 : Int))
  false, ()))))

noncomputable def P_tree_is (x : S7x0 × Unit) : Option (Bool × Unit) :=
  obind (P_tree_isPath (x.1.1, ())) (fun (y1 : Bool × Unit) => sel (sel (nt (sel (nt (nt y1.1))
  (ltI x.1.2.2.1 (0 : Int))
  true))
  (ltI (4095 : Int) x.1.2.2.1)
  true)
  (some (false, ()))
  (sel (eqI x.1.2.1 (1 : Int))
  (some (sel (eqS x.1.2.2.2.2.1 ([] : List (UInt8)))
  (leI (@len UInt8 x.1.2.2.2.1) (8192 : Int))
  false, ()))
  (sel (eqI x.1.2.1 (2 : Int))
  (some (sel (eqS x.1.2.2.2.2.1 ([] : List (UInt8)))
  (eqS x.1.2.2.2.1 ([] : List (UInt8)))
  false, ()))
  (sel (eqI x.1.2.1 (3 : Int))
  (obind (sel (sel (sel (eqS x.1.2.2.2.1 ([] : List (UInt8)))
  (nt (eqS x.1.2.2.2.2.1 ([] : List (UInt8))))
  false)
  (leI (@len UInt8 x.1.2.2.2.2.1) (100 : Int))
  false)
  (obind (P_strings_IndexByte (x.1.2.2.2.2.1, ((0 : Int), ()))) (fun (y2 : Int × Unit) => some (ltI y2.1 (0 : Int))))
  (some false)) (fun (y2 : Bool) => some (y2, ())))
  (some (false, ()))))))

noncomputable def P_tree_place_c1 (x : S7x0 × Sb × Unit) : Option (Int × Unit) :=
  obind (P_paths_Compare (x.1.1, (x.2.1, ()))) (fun (y1 : Int × Unit) => some (y1.1, ()))

noncomputable def P_tree_place_L0 (x : (List S7x0) × Sb × Unit) (y1 : S7x2 × Unit) : Option ((S7x2 × Unit) ⊕ (S7x2 × Unit)) :=
  @way1 (S7x2 × Unit) (sel (ltI y1.1.1 y1.1.2.1)
  (sel (ltI (1 : Int) (0 : Int))
  none
  (obind (@idx S7x0 x.1 (icv IntKind.i64 (ishr IntKind.u64 (icv IntKind.u64 (iadd IntKind.i64 y1.1.1 y1.1.2.1)) (1 : Int)))) (fun (y2 : Sb × Int × Int × Sb × Sb × Unit) => obind (P_tree_place_c1 (y2, (x.2.1, ()))) (fun (y3 : Int × Unit) => some (Sum.inl ((((sel (ltI y3.1 (0 : Int))
  ((iadd IntKind.i64 (icv IntKind.i64 (ishr IntKind.u64 (icv IntKind.u64 (iadd IntKind.i64 y1.1.1 y1.1.2.1)) (1 : Int))) (1 : Int), (y1.1.2.1, ())), ())
  ((y1.1.1, (icv IntKind.i64 (ishr IntKind.u64 (icv IntKind.u64 (iadd IntKind.i64 y1.1.1 y1.1.2.1)) (1 : Int)), ())), ())).1).1, ((((sel (ltI y3.1 (0 : Int))
  ((iadd IntKind.i64 (icv IntKind.i64 (ishr IntKind.u64 (icv IntKind.u64 (iadd IntKind.i64 y1.1.1 y1.1.2.1)) (1 : Int))) (1 : Int), (y1.1.2.1, ())), ())
  ((y1.1.1, (icv IntKind.i64 (ishr IntKind.u64 (icv IntKind.u64 (iadd IntKind.i64 y1.1.1 y1.1.2.1)) (1 : Int)), ())), ())).1).2).1, ())), ()) : ((S7x2 × Unit)) ⊕ S7x5)))))
  (some (Sum.inr ((0 : Nat), ((y1.1.1, (y1.1.2.1, ())), ())) : ((S7x2 × Unit)) ⊕ S7x5)))

noncomputable def P_tree_place (x : (List S7x0) × Sb × Unit) : Option (Int × Bool × Unit) :=
  obind (Loop (P_tree_place_L0 x) (((0 : Int), (@len S7x0 x.1, ())), ())) (fun (y1 : S7x2 × Unit) => sel (ltI y1.1.1 (@len S7x0 x.1))
  (obind (@idx S7x0 x.1 y1.1.1) (fun (y2 : Sb × Int × Int × Sb × Sb × Unit) => obind (P_tree_place_c1 (y2, (x.2.1, ()))) (fun (y3 : Int × Unit) => some (y1.1.1, (eqI y3.1 (0 : Int), ())))))
  (some (y1.1.1, (false, ()))))

noncomputable def P_tree_dir (x : (List S7x0) × Sb × Unit) : Option (Int × Unit) :=
  sel (eqS x.2.1 ([] : List (UInt8)))
  (some ((0 : Int), ()))
  (obind (P_tree_place (x.1, (x.2.1, ()))) (fun (y1 : Int × Bool × Unit) => sel (nt y1.2.1)
  (some ((3 : Int), ()))
  (obind (@idx S7x0 x.1 y1.1) (fun (y2 : Sb × Int × Int × Sb × Sb × Unit) => sel (nt (eqI y2.2.1 (2 : Int)))
  (some ((12 : Int), ()))
  (some ((0 : Int), ()))))))

noncomputable def P_tree_Check_L0 (x : (List S7x0) × Unit) (y1 : S7x2 × Unit) : Option ((S7x2 × Unit) ⊕ (Nat × S7x2 × Unit)) :=
  sel (ltI y1.1.2.1 (@len S7x0 x.1))
  (obind (@idx S7x0 x.1 y1.1.2.1) (fun (y2 : Sb × Int × Int × Sb × Sb × Unit) => obind (P_paths_Split (y2.1, ())) (fun (y3 : Sb × Sb × Unit) => obind (P_tree_is (y2, ())) (fun (y4 : Bool × Unit) => sel (nt y4.1)
  (some (Sum.inr ((1 : Nat), (((1 : Int), (y1.1.2.1, ())), ())) : ((S7x2 × Unit)) ⊕ S7x5))
  (sel (ltI (0 : Int) y1.1.2.1)
  (obind (@idx S7x0 x.1 (isub IntKind.i64 y1.1.2.1 (1 : Int))) (fun (y5 : Sb × Int × Int × Sb × Sb × Unit) => obind (P_paths_Compare (y5.1, (y2.1, ()))) (fun (y6 : Int × Unit) => sel (leI (0 : Int) y6.1)
  (some (Sum.inr ((1 : Nat), (((1 : Int), (y1.1.2.1, ())), ())) : ((S7x2 × Unit)) ⊕ S7x5))
  (sel (inside (0 : Int) y1.1.2.1 (@len S7x0 x.1))
  (obind (P_tree_dir (@sub S7x0 x.1 (0 : Int) (minus y1.1.2.1 (0 : Int)), (y3.1, ()))) (fun (y7 : Int × Unit) => sel (nt (eqI y7.1 (0 : Int)))
  (some (Sum.inr ((1 : Nat), (((1 : Int), (y1.1.2.1, ())), ())) : ((S7x2 × Unit)) ⊕ S7x5))
  (some (Sum.inl ((y1.1.1, (iadd IntKind.i64 y1.1.2.1 (1 : Int), ())), ()) : ((S7x2 × Unit)) ⊕ S7x5))))
  none))))
  (sel (inside (0 : Int) y1.1.2.1 (@len S7x0 x.1))
  (obind (P_tree_dir (@sub S7x0 x.1 (0 : Int) (minus y1.1.2.1 (0 : Int)), (y3.1, ()))) (fun (y5 : Int × Unit) => sel (nt (eqI y5.1 (0 : Int)))
  (some (Sum.inr ((1 : Nat), (((1 : Int), (y1.1.2.1, ())), ())) : ((S7x2 × Unit)) ⊕ S7x5))
  (some (Sum.inl ((y1.1.1, (iadd IntKind.i64 y1.1.2.1 (1 : Int), ())), ()) : ((S7x2 × Unit)) ⊕ S7x5))))
  none))))))
  (some (Sum.inr ((0 : Nat), ((y1.1.1, (y1.1.2.1, ())), ())) : ((S7x2 × Unit)) ⊕ S7x5))

noncomputable def P_tree_Check (x : (List S7x0) × Unit) : Option (Int × Unit) :=
  sel (ltI (64 : Int) (@len S7x0 x.1))
  (some ((1 : Int), ()))
  (obind (Loop (P_tree_Check_L0 x) (((0 : Int), ((0 : Int), ())), ())) (fun (y1 : Nat × S7x2 × Unit) => sel (eqN y1.1 (0 : Nat))
  (some ((0 : Int), ()))
  (some (y1.2.1.1, ()))))

noncomputable def P_slices_Clone_api_TreeNode_api_TreeNode (x : (List S7x0) × Unit) : Option ((List S7x0) × Unit) :=
  bif fits (len x.1) then some (x.1, ()) else none

noncomputable def P_tree_Put_L0 (x : (List S7x0) × S7x0 × Unit) (y8 : S7x2 × Unit × Sb × Unit) : Option ((S7x2 × Unit × Sb × Unit) ⊕ (Nat × S7x2 × Unit × Sb × Unit)) :=
  sel (ltI y8.1.2.1 (@len S7x0 x.1))
  (sel (within y8.1.2.1 (@len S7x0 x.1))
  (obind (@idx S7x0 x.1 y8.1.2.1) (fun (y9 : Sb × Int × Int × Sb × Sb × Unit) => obind (sel (nt (eqS y9.1 y8.2.2.1))
  (obind (P_paths_Under (y9.1, (y8.2.2.1, ()))) (fun (y10 : Bool × Unit) => some y10.1))
  (some true)) (fun (y10 : Bool) => sel y10
  (some (Sum.inr ((1 : Nat), ((y8.1.2.1, (y8.1.2.1, ())), ((), (y8.2.2.1, ())))) : ((S7x2 × Unit × Sb × Unit)) ⊕ ((Nat × S7x2 × Unit × Sb × Unit))))
  (some (Sum.inl ((y8.1.1, (iadd IntKind.i64 y8.1.2.1 (1 : Int), ())), ((), (y8.2.2.1, ()))) : ((S7x2 × Unit × Sb × Unit)) ⊕ ((Nat × S7x2 × Unit × Sb × Unit)))))))
  none)
  (some (Sum.inr ((0 : Nat), ((y8.1.1, (y8.1.2.1, ())), ((), (y8.2.2.1, ())))) : ((S7x2 × Unit × Sb × Unit)) ⊕ ((Nat × S7x2 × Unit × Sb × Unit))))

noncomputable def P_tree_Put_L1 (y9 : (Int × Int × Unit × Unit) × Unit × Sb × (List S7x0) × Unit) : Option (S7x1 ⊕ S7x1) :=
  @way1 S7x1 (sel (ltI y9.1.2.1 (@len S7x0 y9.2.2.2.1))
  (sel (within y9.1.2.1 (@len S7x0 y9.2.2.2.1))
  (obind (@idx S7x0 y9.2.2.2.1 y9.1.2.1) (fun (y10 : Sb × Int × Int × Sb × Sb × Unit) => obind (sel (nt (eqS y10.1 y9.2.2.1))
  (obind (P_paths_Under (y10.1, (y9.2.2.1, ()))) (fun (y11 : Bool × Unit) => some y11.1))
  (some true)) (fun (y11 : Bool) => obind (sel (nt y11)
  (sel (within y9.1.1 (@len S7x0 y9.2.2.2.1))
  (obind (@idx S7x0 y9.2.2.2.1 y9.1.1) (fun (y12 : Sb × Int × Int × Sb × Sb × Unit) => obind (@idx S7x0 y9.2.2.2.1 y9.1.1) (fun (y13 : Sb × Int × Int × Sb × Sb × Unit) => obind (@idx S7x0 y9.2.2.2.1 y9.1.1) (fun (y14 : Sb × Int × Int × Sb × Sb × Unit) => some ((iadd IntKind.i64 y9.1.1 (1 : Int), ((), ())), (@lset S7x0 y9.2.2.2.1 y9.1.1 y10, ()))))))
  none)
  (some ((y9.1.1, ((), ())), (y9.2.2.2.1, ())))) (fun (y12 : (Int × Unit × Unit) × (List S7x0) × Unit) => some (Sum.inl ((y12.1.1, (iadd IntKind.i64 y9.1.2.1 (1 : Int), ((), ()))), ((), (y9.2.2.1, (y12.2.1, ())))) : (S7x1) ⊕ S7x3)))))
  none)
  (some (Sum.inr ((0 : Nat), ((y9.1.1, (y9.1.2.1, ((), ()))), ((), (y9.2.2.1, (y9.2.2.2.1, ()))))) : (S7x1) ⊕ S7x3)))

noncomputable def P_tree_Put_L2 (y9 : (Int × Int × Unit × Unit) × Unit × Sb × (List S7x0) × Unit) : Option (S7x1 ⊕ S7x1) :=
  @way1 S7x1 (sel (ltI y9.1.2.1 (@len S7x0 y9.2.2.2.1))
  (sel (within y9.1.2.1 (@len S7x0 y9.2.2.2.1))
  (obind (@idx S7x0 y9.2.2.2.1 y9.1.2.1) (fun (y10 : Sb × Int × Int × Sb × Sb × Unit) => obind (sel (nt (eqS y10.1 y9.2.2.1))
  (obind (P_paths_Under (y10.1, (y9.2.2.1, ()))) (fun (y11 : Bool × Unit) => some y11.1))
  (some true)) (fun (y11 : Bool) => obind (sel (nt y11)
  (sel (within y9.1.1 (@len S7x0 y9.2.2.2.1))
  (obind (@idx S7x0 y9.2.2.2.1 y9.1.1) (fun (y12 : Sb × Int × Int × Sb × Sb × Unit) => obind (@idx S7x0 y9.2.2.2.1 y9.1.1) (fun (y13 : Sb × Int × Int × Sb × Sb × Unit) => obind (@idx S7x0 y9.2.2.2.1 y9.1.1) (fun (y14 : Sb × Int × Int × Sb × Sb × Unit) => some ((iadd IntKind.i64 y9.1.1 (1 : Int), ((), ())), (@lset S7x0 y9.2.2.2.1 y9.1.1 y10, ()))))))
  none)
  (some ((y9.1.1, ((), ())), (y9.2.2.2.1, ())))) (fun (y12 : (Int × Unit × Unit) × (List S7x0) × Unit) => some (Sum.inl ((y12.1.1, (iadd IntKind.i64 y9.1.2.1 (1 : Int), ((), ()))), ((), (y9.2.2.1, (y12.2.1, ())))) : (S7x1) ⊕ S7x3)))))
  none)
  (some (Sum.inr ((0 : Nat), ((y9.1.1, (y9.1.2.1, ((), ()))), ((), (y9.2.2.1, (y9.2.2.2.1, ()))))) : (S7x1) ⊕ S7x3)))

noncomputable def P_tree_Put (x : (List S7x0) × S7x0 × Unit) : Option ((List S7x0) × Int × Unit) :=
  obind (P_tree_Check (x.1, ())) (fun (y1 : Int × Unit) => obind (sel (nt (nt (eqI y1.1 (0 : Int))))
  (obind (P_tree_is (x.2.1, ())) (fun (y2 : Bool × Unit) => some (nt y2.1)))
  (some true)) (fun (y2 : Bool) => sel y2
  (some (([] : List S7x0), ((1 : Int), ())))
  (obind (P_paths_Split (x.2.1.1, ())) (fun (y3 : Sb × Sb × Unit) => obind (P_tree_dir (x.1, (y3.1, ()))) (fun (y4 : Int × Unit) => sel (nt (eqI y4.1 (0 : Int)))
  (some (([] : List S7x0), (y4.1, ())))
  (obind (P_tree_place (x.1, (x.2.1.1, ()))) (fun (y5 : Int × Bool × Unit) => obind (sel y5.2.1
  (obind (@idx S7x0 x.1 y5.1) (fun (y6 : Sb × Int × Int × Sb × Sb × Unit) => some (eqI y6.2.1 (2 : Int))))
  (some false)) (fun (y6 : Bool) => sel (sel y6
  (eqI x.2.1.2.1 (2 : Int))
  false)
  (sel (fits (@len S7x0 x.1))
  (sel (within y5.1 (@len S7x0 x.1))
  (obind (@idx S7x0 x.1 y5.1) (fun (y7 : Sb × Int × Int × Sb × Sb × Unit) => obind (@idx S7x0 x.1 y5.1) (fun (y8 : Sb × Int × Int × Sb × Sb × Unit) => obind (@idx S7x0 x.1 y5.1) (fun (y9 : Sb × Int × Int × Sb × Sb × Unit) => some (@lset S7x0 x.1 y5.1 x.2.1, ((0 : Int), ()))))))
  none)
  none)
  (obind (P_tree_Check (x.1, ())) (fun (y7 : Int × Unit) => sel (nt (eqI y7.1 (0 : Int)))
  (sel (leI (64 : Int) (@len S7x0 ([] : List S7x0)))
  (some (([] : List S7x0), ((5 : Int), ())))
  (obind (P_tree_place (([] : List S7x0), (x.2.1.1, ()))) (fun (y8 : Int × Bool × Unit) => none)))
  (sel (fits (@len S7x0 x.1))
  (obind (Loop (P_tree_Put_L0 x) (((0 : Int), ((0 : Int), ())), ((), (x.2.1.1, ())))) (fun (y8 : Nat × S7x2 × Unit × Sb × Unit) => sel (eqN y8.1 (0 : Nat))
  (sel (eqI (-1 : Int) (-1 : Int))
  (sel (leI (64 : Int) (@len S7x0 x.1))
  (some (([] : List S7x0), ((5 : Int), ())))
  (obind (P_tree_place (x.1, (x.2.1.1, ()))) (fun (y9 : Int × Bool × Unit) => obind (P_slices_Insert_api_TreeNode_api_TreeNode x.1 (y9.1, (([x.2.1] : List S7x0), ()))) (fun (y10 : List S7x0) => some (y10, ((0 : Int), ()))))))
  (obind (Loop (P_tree_Put_L1) (((-1 : Int), (iadd IntKind.i64 (-1 : Int) (1 : Int), ((), ()))), ((), (y8.2.2.2.1, (x.1, ()))))) (fun (y9 : (Int × Int × Unit × Unit) × Unit × Sb × (List S7x0) × Unit) => sel (inside y9.1.1 (@len S7x0 y9.2.2.2.1) (@len S7x0 y9.2.2.2.1))
  (sel (inside (0 : Int) y9.1.1 (@len S7x0 (@over S7x0 y9.2.2.2.1 y9.1.1 (@lrep S7x0 (minus (@len S7x0 y9.2.2.2.1) y9.1.1) (([] : List (UInt8)), ((0 : Int), ((0 : Int), (([] : List (UInt8)), (([] : List (UInt8)), ())))))))))
  (sel (leI (64 : Int) (minus y9.1.1 (0 : Int)))
  (some (([] : List S7x0), ((5 : Int), ())))
  (obind (P_tree_place (@sub S7x0 (@over S7x0 y9.2.2.2.1 y9.1.1 (@lrep S7x0 (minus (@len S7x0 y9.2.2.2.1) y9.1.1) (([] : List (UInt8)), ((0 : Int), ((0 : Int), (([] : List (UInt8)), (([] : List (UInt8)), ()))))))) (0 : Int) (minus y9.1.1 (0 : Int)), (x.2.1.1, ()))) (fun (y10 : Int × Bool × Unit) => obind (P_slices_Insert_api_TreeNode_api_TreeNode (@sub S7x0 (@over S7x0 y9.2.2.2.1 y9.1.1 (@lrep S7x0 (minus (@len S7x0 y9.2.2.2.1) y9.1.1) (([] : List (UInt8)), ((0 : Int), ((0 : Int), (([] : List (UInt8)), (([] : List (UInt8)), ()))))))) (0 : Int) (minus y9.1.1 (0 : Int))) (y10.1, (([x.2.1] : List S7x0), ()))) (fun (y11 : List S7x0) => some (y11, ((0 : Int), ()))))))
  none)
  none)))
  (sel (eqI y8.2.1.1 (-1 : Int))
  (sel (leI (64 : Int) (@len S7x0 x.1))
  (some (([] : List S7x0), ((5 : Int), ())))
  (obind (P_tree_place (x.1, (x.2.1.1, ()))) (fun (y9 : Int × Bool × Unit) => obind (P_slices_Insert_api_TreeNode_api_TreeNode x.1 (y9.1, (([x.2.1] : List S7x0), ()))) (fun (y10 : List S7x0) => some (y10, ((0 : Int), ()))))))
  (obind (Loop (P_tree_Put_L2) ((y8.2.1.1, (iadd IntKind.i64 y8.2.1.1 (1 : Int), ((), ()))), ((), (y8.2.2.2.1, (x.1, ()))))) (fun (y9 : (Int × Int × Unit × Unit) × Unit × Sb × (List S7x0) × Unit) => sel (inside y9.1.1 (@len S7x0 y9.2.2.2.1) (@len S7x0 y9.2.2.2.1))
  (sel (inside (0 : Int) y9.1.1 (@len S7x0 (@over S7x0 y9.2.2.2.1 y9.1.1 (@lrep S7x0 (minus (@len S7x0 y9.2.2.2.1) y9.1.1) (([] : List (UInt8)), ((0 : Int), ((0 : Int), (([] : List (UInt8)), (([] : List (UInt8)), ())))))))))
  (sel (leI (64 : Int) (minus y9.1.1 (0 : Int)))
  (some (([] : List S7x0), ((5 : Int), ())))
  (obind (P_tree_place (@sub S7x0 (@over S7x0 y9.2.2.2.1 y9.1.1 (@lrep S7x0 (minus (@len S7x0 y9.2.2.2.1) y9.1.1) (([] : List (UInt8)), ((0 : Int), ((0 : Int), (([] : List (UInt8)), (([] : List (UInt8)), ()))))))) (0 : Int) (minus y9.1.1 (0 : Int)), (x.2.1.1, ()))) (fun (y10 : Int × Bool × Unit) => obind (P_slices_Insert_api_TreeNode_api_TreeNode (@sub S7x0 (@over S7x0 y9.2.2.2.1 y9.1.1 (@lrep S7x0 (minus (@len S7x0 y9.2.2.2.1) y9.1.1) (([] : List (UInt8)), ((0 : Int), ((0 : Int), (([] : List (UInt8)), (([] : List (UInt8)), ()))))))) (0 : Int) (minus y9.1.1 (0 : Int))) (y10.1, (([x.2.1] : List S7x0), ()))) (fun (y11 : List S7x0) => some (y11, ((0 : Int), ()))))))
  none)
  none)))))
  none)))))))))))

noncomputable def P_ref14_Same_L0 (x : (List S7x0) × (List S7x0) × Unit) (y1 : S7x6 × Unit) : Option ((S7x6 × Unit) ⊕ (Nat × S7x6 × Unit)) :=
  sel (sel (ltI y1.1.2.1 (@len S7x0 x.1))
  (ltI y1.1.2.1 (@len S7x0 x.2.1))
  false)
  (obind (@idx S7x0 x.1 y1.1.2.1) (fun (y2 : Sb × Int × Int × Sb × Sb × Unit) => obind (@idx S7x0 x.2.1 y1.1.2.1) (fun (y3 : Sb × Int × Int × Sb × Sb × Unit) => sel (nt (an (eqS y2.1 y3.1) (an (eqI y2.2.1 y3.2.1) (an (eqI y2.2.2.1 y3.2.2.1) (an (eqS y2.2.2.2.1 y3.2.2.2.1) (an (eqS y2.2.2.2.2.1 y3.2.2.2.2.1) true))))))
  (some (Sum.inr ((1 : Nat), ((false, (y1.1.2.1, ())), ())) : ((S7x6 × Unit)) ⊕ ((Nat × S7x6 × Unit))))
  (some (Sum.inl ((y1.1.1, (iadd IntKind.i64 y1.1.2.1 (1 : Int), ())), ()) : ((S7x6 × Unit)) ⊕ ((Nat × S7x6 × Unit)))))))
  (some (Sum.inr ((0 : Nat), ((y1.1.1, (y1.1.2.1, ())), ())) : ((S7x6 × Unit)) ⊕ ((Nat × S7x6 × Unit))))

noncomputable def P_ref14_Same (x : (List S7x0) × (List S7x0) × Unit) : Option (Bool × Unit) :=
  sel (nt (eqI (@len S7x0 x.1) (@len S7x0 x.2.1)))
  (some (false, ()))
  (obind (Loop (P_ref14_Same_L0 x) ((false, ((0 : Int), ())), ())) (fun (y1 : Nat × S7x6 × Unit) => sel (eqN y1.1 (0 : Nat))
  (some (true, ()))
  (some (y1.2.1.1, ()))))

noncomputable def P_tree_Find (x : (List S7x0) × Sb × Unit) : Option (S7x0 × Bool × Unit) :=
  obind (P_tree_Check (x.1, ())) (fun (y1 : Int × Unit) => sel (nt (eqI y1.1 (0 : Int)))
  (some ((([] : List (UInt8)), ((0 : Int), ((0 : Int), (([] : List (UInt8)), (([] : List (UInt8)), ()))))), (false, ())))
  (obind (P_tree_place (x.1, (x.2.1, ()))) (fun (y2 : Int × Bool × Unit) => sel (nt y2.2.1)
  (some ((([] : List (UInt8)), ((0 : Int), ((0 : Int), (([] : List (UInt8)), (([] : List (UInt8)), ()))))), (false, ())))
  (obind (@idx S7x0 x.1 y2.1) (fun (y3 : Sb × Int × Int × Sb × Sb × Unit) => some (y3, (true, ())))))))

end Go.Ge

/- What the functions of layer 14z.is compute, as plain programs (written by a program from what the ghost interpreter comes to). -/
namespace Go.Ge
set_option linter.unusedVariables false
set_option maxRecDepth 100000

abbrev S8x0 := (Sb × Int × Int × Sb × Sb × Unit)
abbrev S8x1 := ((Int × Int × Unit × Unit) × Unit × Sb × (List S8x0) × Unit)
abbrev S8x2 := ((Nat × (Int × Int × Unit × Unit) × Unit × Sb × (List S8x0) × Unit))
abbrev S8x3 := (Nat × (Int × Int × Unit) × Unit × Sb × Unit)
abbrev S8x4 := ((Int × Int × Unit) × Unit × Sb × Unit)
abbrev S8x5 := (Int × Int × Unit × Unit)
noncomputable def P_tree_Remove_L0 (x : (List S8x0) × Sb × Unit) (y2 : (Int × Int × Unit) × Unit × Sb × Unit) : Option (S8x4 ⊕ S8x3) :=
  sel (ltI y2.1.2.1 (@len S8x0 x.1))
  (sel (within y2.1.2.1 (@len S8x0 x.1))
  (obind (@idx S8x0 x.1 y2.1.2.1) (fun (y3 : Sb × Int × Int × Sb × Sb × Unit) => obind (sel (nt (eqS y3.1 y2.2.2.1))
  (obind (P_paths_Under (y3.1, (y2.2.2.1, ()))) (fun (y4 : Bool × Unit) => some y4.1))
  (some true)) (fun (y4 : Bool) => sel y4
  (some (Sum.inr ((1 : Nat), ((y2.1.2.1, (y2.1.2.1, ())), ((), (y2.2.2.1, ())))) : (S8x4) ⊕ (S8x3)))
  (some (Sum.inl ((y2.1.1, (iadd IntKind.i64 y2.1.2.1 (1 : Int), ())), ((), (y2.2.2.1, ()))) : (S8x4) ⊕ (S8x3))))))
  none)
  (some (Sum.inr ((0 : Nat), ((y2.1.1, (y2.1.2.1, ())), ((), (y2.2.2.1, ())))) : (S8x4) ⊕ (S8x3)))

noncomputable def P_tree_Remove_L1 (y3 : S8x5 × Unit × Sb × (List S8x0) × Unit) : Option (S8x1 ⊕ S8x1) :=
  @way1 S8x1 (sel (ltI y3.1.2.1 (@len S8x0 y3.2.2.2.1))
  (sel (within y3.1.2.1 (@len S8x0 y3.2.2.2.1))
  (obind (@idx S8x0 y3.2.2.2.1 y3.1.2.1) (fun (y4 : Sb × Int × Int × Sb × Sb × Unit) => obind (sel (nt (eqS y4.1 y3.2.2.1))
  (obind (P_paths_Under (y4.1, (y3.2.2.1, ()))) (fun (y5 : Bool × Unit) => some y5.1))
  (some true)) (fun (y5 : Bool) => obind (sel (nt y5)
  (sel (within y3.1.1 (@len S8x0 y3.2.2.2.1))
  (obind (@idx S8x0 y3.2.2.2.1 y3.1.1) (fun (y6 : Sb × Int × Int × Sb × Sb × Unit) => obind (@idx S8x0 y3.2.2.2.1 y3.1.1) (fun (y7 : Sb × Int × Int × Sb × Sb × Unit) => obind (@idx S8x0 y3.2.2.2.1 y3.1.1) (fun (y8 : Sb × Int × Int × Sb × Sb × Unit) => some ((iadd IntKind.i64 y3.1.1 (1 : Int), ((), ())), (@lset S8x0 y3.2.2.2.1 y3.1.1 y4, ()))))))
  none)
  (some ((y3.1.1, ((), ())), (y3.2.2.2.1, ())))) (fun (y6 : (Int × Unit × Unit) × (List S8x0) × Unit) => some (Sum.inl ((y6.1.1, (iadd IntKind.i64 y3.1.2.1 (1 : Int), ((), ()))), ((), (y3.2.2.1, (y6.2.1, ())))) : (S8x1) ⊕ S8x2)))))
  none)
  (some (Sum.inr ((0 : Nat), ((y3.1.1, (y3.1.2.1, ((), ()))), ((), (y3.2.2.1, (y3.2.2.2.1, ()))))) : (S8x1) ⊕ S8x2)))

noncomputable def P_tree_Remove_L2 (y3 : S8x5 × Unit × Sb × (List S8x0) × Unit) : Option (S8x1 ⊕ S8x1) :=
  @way1 S8x1 (sel (ltI y3.1.2.1 (@len S8x0 y3.2.2.2.1))
  (sel (within y3.1.2.1 (@len S8x0 y3.2.2.2.1))
  (obind (@idx S8x0 y3.2.2.2.1 y3.1.2.1) (fun (y4 : Sb × Int × Int × Sb × Sb × Unit) => obind (sel (nt (eqS y4.1 y3.2.2.1))
  (obind (P_paths_Under (y4.1, (y3.2.2.1, ()))) (fun (y5 : Bool × Unit) => some y5.1))
  (some true)) (fun (y5 : Bool) => obind (sel (nt y5)
  (sel (within y3.1.1 (@len S8x0 y3.2.2.2.1))
  (obind (@idx S8x0 y3.2.2.2.1 y3.1.1) (fun (y6 : Sb × Int × Int × Sb × Sb × Unit) => obind (@idx S8x0 y3.2.2.2.1 y3.1.1) (fun (y7 : Sb × Int × Int × Sb × Sb × Unit) => obind (@idx S8x0 y3.2.2.2.1 y3.1.1) (fun (y8 : Sb × Int × Int × Sb × Sb × Unit) => some ((iadd IntKind.i64 y3.1.1 (1 : Int), ((), ())), (@lset S8x0 y3.2.2.2.1 y3.1.1 y4, ()))))))
  none)
  (some ((y3.1.1, ((), ())), (y3.2.2.2.1, ())))) (fun (y6 : (Int × Unit × Unit) × (List S8x0) × Unit) => some (Sum.inl ((y6.1.1, (iadd IntKind.i64 y3.1.2.1 (1 : Int), ((), ()))), ((), (y3.2.2.1, (y6.2.1, ())))) : (S8x1) ⊕ S8x2)))))
  none)
  (some (Sum.inr ((0 : Nat), ((y3.1.1, (y3.1.2.1, ((), ()))), ((), (y3.2.2.1, (y3.2.2.2.1, ()))))) : (S8x1) ⊕ S8x2)))

noncomputable def P_tree_Remove (x : (List S8x0) × Sb × Unit) : Option ((List S8x0) × Unit) :=
  obind (P_tree_Check (x.1, ())) (fun (y1 : Int × Unit) => sel (nt (eqI y1.1 (0 : Int)))
  (some (([] : List S8x0), ()))
  (sel (fits (@len S8x0 x.1))
  (obind (Loop (P_tree_Remove_L0 x) (((0 : Int), ((0 : Int), ())), ((), (x.2.1, ())))) (fun (y2 : Nat × (Int × Int × Unit) × Unit × Sb × Unit) => sel (eqN y2.1 (0 : Nat))
  (sel (eqI (-1 : Int) (-1 : Int))
  (some (x.1, ()))
  (obind (Loop (P_tree_Remove_L1) (((-1 : Int), (iadd IntKind.i64 (-1 : Int) (1 : Int), ((), ()))), ((), (y2.2.2.2.1, (x.1, ()))))) (fun (y3 : S8x5 × Unit × Sb × (List S8x0) × Unit) => sel (inside y3.1.1 (@len S8x0 y3.2.2.2.1) (@len S8x0 y3.2.2.2.1))
  (sel (inside (0 : Int) y3.1.1 (@len S8x0 (@over S8x0 y3.2.2.2.1 y3.1.1 (@lrep S8x0 (minus (@len S8x0 y3.2.2.2.1) y3.1.1) (([] : List (UInt8)), ((0 : Int), ((0 : Int), (([] : List (UInt8)), (([] : List (UInt8)), ())))))))))
  (some (@sub S8x0 (@over S8x0 y3.2.2.2.1 y3.1.1 (@lrep S8x0 (minus (@len S8x0 y3.2.2.2.1) y3.1.1) (([] : List (UInt8)), ((0 : Int), ((0 : Int), (([] : List (UInt8)), (([] : List (UInt8)), ()))))))) (0 : Int) (minus y3.1.1 (0 : Int)), ()))
  none)
  none)))
  (sel (eqI y2.2.1.1 (-1 : Int))
  (some (x.1, ()))
  (obind (Loop (P_tree_Remove_L2) ((y2.2.1.1, (iadd IntKind.i64 y2.2.1.1 (1 : Int), ((), ()))), ((), (y2.2.2.2.1, (x.1, ()))))) (fun (y3 : S8x5 × Unit × Sb × (List S8x0) × Unit) => sel (inside y3.1.1 (@len S8x0 y3.2.2.2.1) (@len S8x0 y3.2.2.2.1))
  (sel (inside (0 : Int) y3.1.1 (@len S8x0 (@over S8x0 y3.2.2.2.1 y3.1.1 (@lrep S8x0 (minus (@len S8x0 y3.2.2.2.1) y3.1.1) (([] : List (UInt8)), ((0 : Int), ((0 : Int), (([] : List (UInt8)), (([] : List (UInt8)), ())))))))))
  (some (@sub S8x0 (@over S8x0 y3.2.2.2.1 y3.1.1 (@lrep S8x0 (minus (@len S8x0 y3.2.2.2.1) y3.1.1) (([] : List (UInt8)), ((0 : Int), ((0 : Int), (([] : List (UInt8)), (([] : List (UInt8)), ()))))))) (0 : Int) (minus y3.1.1 (0 : Int)), ()))
  none)
  none)))))
  none))

noncomputable def P_tree_Empty_L0 (x : (List S8x0) × Sb × Unit) (y2 : (Int × Int × Unit) × Unit × Sb × Unit) : Option (S8x4 ⊕ S8x3) :=
  sel (ltI y2.1.2.1 (@len S8x0 x.1))
  (sel (within y2.1.2.1 (@len S8x0 x.1))
  (obind (@idx S8x0 x.1 y2.1.2.1) (fun (y3 : Sb × Int × Int × Sb × Sb × Unit) => obind (P_paths_Under (y3.1, (y2.2.2.1, ()))) (fun (y4 : Bool × Unit) => sel y4.1
  (some (Sum.inr ((1 : Nat), ((y2.1.2.1, (y2.1.2.1, ())), ((), (y2.2.2.1, ())))) : (S8x4) ⊕ (S8x3)))
  (some (Sum.inl ((y2.1.1, (iadd IntKind.i64 y2.1.2.1 (1 : Int), ())), ((), (y2.2.2.1, ()))) : (S8x4) ⊕ (S8x3))))))
  none)
  (some (Sum.inr ((0 : Nat), ((y2.1.1, (y2.1.2.1, ())), ((), (y2.2.2.1, ())))) : (S8x4) ⊕ (S8x3)))

noncomputable def P_tree_Empty_L1 (y3 : S8x5 × Unit × Sb × (List S8x0) × Unit) : Option (S8x1 ⊕ S8x1) :=
  @way1 S8x1 (sel (ltI y3.1.2.1 (@len S8x0 y3.2.2.2.1))
  (sel (within y3.1.2.1 (@len S8x0 y3.2.2.2.1))
  (obind (@idx S8x0 y3.2.2.2.1 y3.1.2.1) (fun (y4 : Sb × Int × Int × Sb × Sb × Unit) => obind (P_paths_Under (y4.1, (y3.2.2.1, ()))) (fun (y5 : Bool × Unit) => obind (sel (nt y5.1)
  (sel (within y3.1.1 (@len S8x0 y3.2.2.2.1))
  (obind (@idx S8x0 y3.2.2.2.1 y3.1.1) (fun (y6 : Sb × Int × Int × Sb × Sb × Unit) => obind (@idx S8x0 y3.2.2.2.1 y3.1.1) (fun (y7 : Sb × Int × Int × Sb × Sb × Unit) => obind (@idx S8x0 y3.2.2.2.1 y3.1.1) (fun (y8 : Sb × Int × Int × Sb × Sb × Unit) => some ((iadd IntKind.i64 y3.1.1 (1 : Int), ((), ())), (@lset S8x0 y3.2.2.2.1 y3.1.1 y4, ()))))))
  none)
  (some ((y3.1.1, ((), ())), (y3.2.2.2.1, ())))) (fun (y6 : (Int × Unit × Unit) × (List S8x0) × Unit) => some (Sum.inl ((y6.1.1, (iadd IntKind.i64 y3.1.2.1 (1 : Int), ((), ()))), ((), (y3.2.2.1, (y6.2.1, ())))) : (S8x1) ⊕ S8x2)))))
  none)
  (some (Sum.inr ((0 : Nat), ((y3.1.1, (y3.1.2.1, ((), ()))), ((), (y3.2.2.1, (y3.2.2.2.1, ()))))) : (S8x1) ⊕ S8x2)))

noncomputable def P_tree_Empty_L2 (y3 : S8x5 × Unit × Sb × (List S8x0) × Unit) : Option (S8x1 ⊕ S8x1) :=
  @way1 S8x1 (sel (ltI y3.1.2.1 (@len S8x0 y3.2.2.2.1))
  (sel (within y3.1.2.1 (@len S8x0 y3.2.2.2.1))
  (obind (@idx S8x0 y3.2.2.2.1 y3.1.2.1) (fun (y4 : Sb × Int × Int × Sb × Sb × Unit) => obind (P_paths_Under (y4.1, (y3.2.2.1, ()))) (fun (y5 : Bool × Unit) => obind (sel (nt y5.1)
  (sel (within y3.1.1 (@len S8x0 y3.2.2.2.1))
  (obind (@idx S8x0 y3.2.2.2.1 y3.1.1) (fun (y6 : Sb × Int × Int × Sb × Sb × Unit) => obind (@idx S8x0 y3.2.2.2.1 y3.1.1) (fun (y7 : Sb × Int × Int × Sb × Sb × Unit) => obind (@idx S8x0 y3.2.2.2.1 y3.1.1) (fun (y8 : Sb × Int × Int × Sb × Sb × Unit) => some ((iadd IntKind.i64 y3.1.1 (1 : Int), ((), ())), (@lset S8x0 y3.2.2.2.1 y3.1.1 y4, ()))))))
  none)
  (some ((y3.1.1, ((), ())), (y3.2.2.2.1, ())))) (fun (y6 : (Int × Unit × Unit) × (List S8x0) × Unit) => some (Sum.inl ((y6.1.1, (iadd IntKind.i64 y3.1.2.1 (1 : Int), ((), ()))), ((), (y3.2.2.1, (y6.2.1, ())))) : (S8x1) ⊕ S8x2)))))
  none)
  (some (Sum.inr ((0 : Nat), ((y3.1.1, (y3.1.2.1, ((), ()))), ((), (y3.2.2.1, (y3.2.2.2.1, ()))))) : (S8x1) ⊕ S8x2)))

noncomputable def P_tree_Empty (x : (List S8x0) × Sb × Unit) : Option ((List S8x0) × Unit) :=
  obind (P_tree_Check (x.1, ())) (fun (y1 : Int × Unit) => sel (nt (eqI y1.1 (0 : Int)))
  (some (([] : List S8x0), ()))
  (sel (fits (@len S8x0 x.1))
  (obind (Loop (P_tree_Empty_L0 x) (((0 : Int), ((0 : Int), ())), ((), (x.2.1, ())))) (fun (y2 : Nat × (Int × Int × Unit) × Unit × Sb × Unit) => sel (eqN y2.1 (0 : Nat))
  (sel (eqI (-1 : Int) (-1 : Int))
  (some (x.1, ()))
  (obind (Loop (P_tree_Empty_L1) (((-1 : Int), (iadd IntKind.i64 (-1 : Int) (1 : Int), ((), ()))), ((), (y2.2.2.2.1, (x.1, ()))))) (fun (y3 : S8x5 × Unit × Sb × (List S8x0) × Unit) => sel (inside y3.1.1 (@len S8x0 y3.2.2.2.1) (@len S8x0 y3.2.2.2.1))
  (sel (inside (0 : Int) y3.1.1 (@len S8x0 (@over S8x0 y3.2.2.2.1 y3.1.1 (@lrep S8x0 (minus (@len S8x0 y3.2.2.2.1) y3.1.1) (([] : List (UInt8)), ((0 : Int), ((0 : Int), (([] : List (UInt8)), (([] : List (UInt8)), ())))))))))
  (some (@sub S8x0 (@over S8x0 y3.2.2.2.1 y3.1.1 (@lrep S8x0 (minus (@len S8x0 y3.2.2.2.1) y3.1.1) (([] : List (UInt8)), ((0 : Int), ((0 : Int), (([] : List (UInt8)), (([] : List (UInt8)), ()))))))) (0 : Int) (minus y3.1.1 (0 : Int)), ()))
  none)
  none)))
  (sel (eqI y2.2.1.1 (-1 : Int))
  (some (x.1, ()))
  (obind (Loop (P_tree_Empty_L2) ((y2.2.1.1, (iadd IntKind.i64 y2.2.1.1 (1 : Int), ((), ()))), ((), (y2.2.2.2.1, (x.1, ()))))) (fun (y3 : S8x5 × Unit × Sb × (List S8x0) × Unit) => sel (inside y3.1.1 (@len S8x0 y3.2.2.2.1) (@len S8x0 y3.2.2.2.1))
  (sel (inside (0 : Int) y3.1.1 (@len S8x0 (@over S8x0 y3.2.2.2.1 y3.1.1 (@lrep S8x0 (minus (@len S8x0 y3.2.2.2.1) y3.1.1) (([] : List (UInt8)), ((0 : Int), ((0 : Int), (([] : List (UInt8)), (([] : List (UInt8)), ())))))))))
  (some (@sub S8x0 (@over S8x0 y3.2.2.2.1 y3.1.1 (@lrep S8x0 (minus (@len S8x0 y3.2.2.2.1) y3.1.1) (([] : List (UInt8)), ((0 : Int), ((0 : Int), (([] : List (UInt8)), (([] : List (UInt8)), ()))))))) (0 : Int) (minus y3.1.1 (0 : Int)), ()))
  none)
  none)))))
  none))

end Go.Ge

/- What the functions of layer 16z compute, as plain programs (written by a program from what the ghost interpreter comes to). -/
namespace Go.Ge
set_option linter.unusedVariables false
set_option maxRecDepth 100000

end Go.Ge

/- What the functions of layer 15z compute, as plain programs (written by a program from what the ghost interpreter comes to). -/
namespace Go.Ge
set_option linter.unusedVariables false
set_option maxRecDepth 100000
abbrev T15zx0 := (Sb × Int × Int × Sb × Sb × Unit)
abbrev T15zx1 := ((Sb × Int × Int × Int × Int × Int × Int × Sb × Unit) × Sb × Unit)
abbrev T15zx2 := ((Sb × Unit) ⊕ ((Sb × Unit) ⊕ (Unit ⊕ ((T15zx0 × Unit) ⊕ Unit))))
abbrev T15zx3 := ((List T15zx0) × (List T15zx0) × Int × Sb × Int × Unit)
abbrev T15zx4 := (Bool × Int × Unit)
abbrev T15zx5 := (Sb × Int × Int × Int × Int × Int × Int × Sb × Unit)
abbrev T15zx6 := ((List T15zx0) × Int × (List T15zx0) × Int × Unit)
abbrev T15zx7 := (Sb × Bool × Int × Unit)
abbrev T15zx8 := ((List T15zx0) × (List T15zx0) × Int × Int × Unit)
abbrev T15zx9 := ((List T15zx0) × Int × Unit)
abbrev T15zx10 := (Sb × (List T15zx1) × Bool × Unit × Unit)
abbrev T15zx11 := (Nat × T15zx4 × Unit)
abbrev T15zx12 := (Bool × (List T15zx0) × Int × Unit)
abbrev T15zx13 := ((Sb × Unit) ⊕ (Unit ⊕ ((T15zx0 × Unit) ⊕ Unit)))
abbrev T15zx14 := ((List UInt8) × (Int × (Int × ((List UInt8) × ((List UInt8) × Unit)))))
abbrev T15zx15 := ((List T15zx2) × Bool × Unit × Int × Unit)
abbrev T15zx16 := (Bool × Sb × Int × Unit)
abbrev T15zx17 := (T15zx4 × Unit)
abbrev T15zx18 := (Sb × Unit)
abbrev T15zx19 := (Unit × Sb × Int × Unit)

noncomputable def P_overlay_isNode_L0 (y2 : (List Sb) × Unit) (y3 : T15zx19 × (List T15zx0) × Unit) : Option ((T15zx19 × (List T15zx0) × Unit) ⊕ (T15zx19 × (List T15zx0) × Unit)) :=
  @way1 (T15zx19 × (List T15zx0) × Unit) (sel (ltI y3.1.2.2.1 (@len Sb y2.1))
  (obind (@idx Sb y2.1 y3.1.2.2.1) (fun (y4 : List (UInt8)) => obind (P_paths_Join (y3.1.2.1, (y4, ()))) (fun (y5 : Sb × Unit) => sel (fits (plus (@len T15zx0 y3.2.1) (@len T15zx0 ([(y5.1, ((2 : Int), ((0 : Int), (([] : List (UInt8)), (([] : List (UInt8)), ())))))] : List T15zx0))))
  (some (Sum.inl (((), (y5.1, (iadd IntKind.i64 y3.1.2.2.1 (1 : Int), ()))), (@app T15zx0 y3.2.1 ([(y5.1, ((2 : Int), ((0 : Int), (([] : List (UInt8)), (([] : List (UInt8)), ())))))] : List T15zx0), ())) : ((T15zx19 × (List T15zx0) × Unit)) ⊕ ((Nat × T15zx19 × (List T15zx0) × Unit))))
  none)))
  (some (Sum.inr ((0 : Nat), (((), (y3.1.2.1, (y3.1.2.2.1, ()))), (y3.2.1, ()))) : ((T15zx19 × (List T15zx0) × Unit)) ⊕ ((Nat × T15zx19 × (List T15zx0) × Unit)))))

noncomputable def P_overlay_isNode (x : T15zx0 × Unit) : Option (Bool × Unit) :=
  obind (P_paths_Split (x.1.1, ())) (fun (y1 : Sb × Sb × Unit) => obind (P_paths_Parts (y1.1, ())) (fun (y2 : (List Sb) × Unit) => obind (Loop (P_overlay_isNode_L0 y2) (((), (([] : List (UInt8)), ((0 : Int), ()))), (([] : List T15zx0), ()))) (fun (y3 : T15zx19 × (List T15zx0) × Unit) => sel (nt (eqS x.1.1 ([] : List (UInt8))))
  (sel (fits (plus (@len T15zx0 y3.2.1) (@len T15zx0 ([x.1] : List T15zx0))))
  (obind (P_tree_Check (@app T15zx0 y3.2.1 ([x.1] : List T15zx0), ())) (fun (y4 : Int × Unit) => some (eqI y4.1 (0 : Int), ())))
  none)
  (some (false, ())))))

noncomputable def P_overlay_isDir (x : Sb × Unit) : Option (Bool × Unit) :=
  obind (sel (nt (eqS x.1 ([] : List (UInt8))))
  (obind (P_overlay_isNode ((x.1, ((2 : Int), ((0 : Int), (([] : List (UInt8)), (([] : List (UInt8)), ()))))), ())) (fun (y1 : Bool × Unit) => some y1.1))
  (some true)) (fun (y1 : Bool) => some (y1, ()))

noncomputable def P_overlay_gone_clears (x : T15zx18 × (List T15zx0) × Unit) : Option ((List T15zx0) × Unit) :=
  obind (P_tree_Remove (x.2.1, (x.1.1, ()))) (fun (y1 : (List T15zx0) × Unit) => some (y1.1, ()))

noncomputable def P_overlay_gone_puts (x : T15zx18 × (List T15zx0) × Unit) : Option T15zx9 :=
  some (x.2.1, ((0 : Int), ()))

noncomputable def P_overlay_opaque_clears (x : T15zx18 × (List T15zx0) × Unit) : Option ((List T15zx0) × Unit) :=
  obind (P_tree_Empty (x.2.1, (x.1.1, ()))) (fun (y1 : (List T15zx0) × Unit) => some (y1.1, ()))

noncomputable def P_overlay_opaque_puts (x : T15zx18 × (List T15zx0) × Unit) : Option T15zx9 :=
  some (x.2.1, ((0 : Int), ()))

noncomputable def P_overlay_root_clears (x : Unit × (List T15zx0) × Unit) : Option ((List T15zx0) × Unit) :=
  some (x.2.1, ())

noncomputable def P_overlay_root_puts (x : Unit × (List T15zx0) × Unit) : Option T15zx9 :=
  some (x.2.1, ((0 : Int), ()))

noncomputable def P_overlay_node_clears (x : (T15zx0 × Unit) × (List T15zx0) × Unit) : Option ((List T15zx0) × Unit) :=
  some (x.2.1, ())

noncomputable def P_overlay_node_puts_L0 (y2 : (List Sb) × Unit) (y3 : T15zx3 × Unit) : Option ((T15zx3 × Unit) ⊕ (Nat × T15zx3 × Unit)) :=
  sel (ltI y3.1.2.2.2.2.1 (@len Sb y2.1))
  (obind (@idx Sb y2.1 y3.1.2.2.2.2.1) (fun (y4 : List (UInt8)) => obind (P_paths_Join (y3.1.2.2.2.1, (y4, ()))) (fun (y5 : Sb × Unit) => obind (P_tree_Find (y3.1.1, (y5.1, ()))) (fun (y6 : T15zx0 × Bool × Unit) => sel (sel y6.2.1
  (eqI y6.1.2.1 (2 : Int))
  false)
  (some (Sum.inl ((y3.1.1, (y3.1.2.1, (y3.1.2.2.1, (y5.1, (iadd IntKind.i64 y3.1.2.2.2.2.1 (1 : Int), ()))))), ()) : ((T15zx3 × Unit)) ⊕ ((Nat × T15zx3 × Unit))))
  (obind (P_tree_Put (y3.1.1, ((y5.1, ((2 : Int), ((493 : Int), (([] : List (UInt8)), (([] : List (UInt8)), ()))))), ()))) (fun (y7 : (List T15zx0) × Int × Unit) => sel (nt (eqI y7.2.1 (0 : Int)))
  (some (Sum.inr ((1 : Nat), ((y3.1.1, (([] : List T15zx0), (y7.2.1, (y5.1, (y3.1.2.2.2.2.1, ()))))), ())) : ((T15zx3 × Unit)) ⊕ ((Nat × T15zx3 × Unit))))
  (some (Sum.inl ((y7.1, (y3.1.2.1, (y3.1.2.2.1, (y5.1, (iadd IntKind.i64 y3.1.2.2.2.2.1 (1 : Int), ()))))), ()) : ((T15zx3 × Unit)) ⊕ ((Nat × T15zx3 × Unit))))))))))
  (some (Sum.inr ((0 : Nat), ((y3.1.1, (y3.1.2.1, (y3.1.2.2.1, (y3.1.2.2.2.1, (y3.1.2.2.2.2.1, ()))))), ())) : ((T15zx3 × Unit)) ⊕ ((Nat × T15zx3 × Unit))))

noncomputable def P_overlay_node_puts (x : (T15zx0 × Unit) × (List T15zx0) × Unit) : Option T15zx9 :=
  obind (P_paths_Split (x.1.1.1, ())) (fun (y1 : Sb × Sb × Unit) => obind (P_paths_Parts (y1.1, ())) (fun (y2 : (List Sb) × Unit) => obind (Loop (P_overlay_node_puts_L0 y2) ((x.2.1, (([] : List T15zx0), ((0 : Int), (([] : List (UInt8)), ((0 : Int), ()))))), ())) (fun (y3 : Nat × T15zx3 × Unit) => sel (eqN y3.1 (0 : Nat))
  (obind (P_tree_Put (y3.2.1.1, (x.1.1, ()))) (fun (y4 : (List T15zx0) × Int × Unit) => some (y4.1, (y4.2.1, ()))))
  (some (y3.2.1.2.1, (y3.2.1.2.2.1, ()))))))

noncomputable def P_overlay_what (x : T15zx1 × Unit) : Option (T15zx2 × Bool × Unit) :=
  obind (P_paths_Clean (x.1.1.1, ())) (fun (y1 : Sb × Int × Unit) => sel (nt (eqI y1.2.1 (0 : Int)))
  (some ((Sum.inr (Sum.inr (Sum.inr (Sum.inr () : ((T15zx0 × Unit)) ⊕ (Unit)) : (Unit) ⊕ (((T15zx0 × Unit) ⊕ Unit))) : (T15zx18) ⊕ ((Unit ⊕ ((T15zx0 × Unit) ⊕ Unit)))) : (T15zx18) ⊕ (T15zx13)), (false, ())))
  (obind (P_paths_Split (y1.1, ())) (fun (y2 : Sb × Sb × Unit) => obind (P_paths_Mark (y2.2.1, ())) (fun (y3 : Int × Sb × Unit) => sel (eqI y3.1 (1 : Int))
  (obind (P_paths_Join (y2.1, (y3.2.1, ()))) (fun (y4 : Sb × Unit) => obind (sel (sel (eqI x.1.1.2.1 (1 : Int))
  (eqS x.1.2.1 ([] : List (UInt8)))
  false)
  (obind (P_overlay_isDir (y4.1, ())) (fun (y5 : Bool × Unit) => some y5.1))
  (some false)) (fun (y5 : Bool) => some ((Sum.inl (y4.1, ()) : (T15zx18) ⊕ (T15zx13)), (y5, ())))))
  (sel (eqI y3.1 (2 : Int))
  (obind (sel (sel (eqI x.1.1.2.1 (1 : Int))
  (eqS x.1.2.1 ([] : List (UInt8)))
  false)
  (obind (P_overlay_isDir (y2.1, ())) (fun (y4 : Bool × Unit) => some y4.1))
  (some false)) (fun (y4 : Bool) => some ((Sum.inr (Sum.inl (y2.1, ()) : (T15zx18) ⊕ ((Unit ⊕ ((T15zx0 × Unit) ⊕ Unit)))) : (T15zx18) ⊕ (T15zx13)), (y4, ()))))
  (sel (eqI y3.1 (3 : Int))
  (some ((Sum.inr (Sum.inr (Sum.inr (Sum.inr () : ((T15zx0 × Unit)) ⊕ (Unit)) : (Unit) ⊕ (((T15zx0 × Unit) ⊕ Unit))) : (T15zx18) ⊕ ((Unit ⊕ ((T15zx0 × Unit) ⊕ Unit)))) : (T15zx18) ⊕ (T15zx13)), (false, ())))
  (sel (sel (eqS y1.1 ([] : List (UInt8)))
  (eqI x.1.1.2.1 (2 : Int))
  false)
  (some ((Sum.inr (Sum.inr (Sum.inl () : (Unit) ⊕ (((T15zx0 × Unit) ⊕ Unit))) : (T15zx18) ⊕ ((Unit ⊕ ((T15zx0 × Unit) ⊕ Unit)))) : (T15zx18) ⊕ (T15zx13)), (true, ())))
  (obind (P_overlay_isNode ((y1.1, (x.1.1.2.1, (x.1.1.2.2.1, (x.1.2.1, (x.1.1.2.2.2.2.2.2.2.1, ()))))), ())) (fun (y4 : Bool × Unit) => some ((Sum.inr (Sum.inr (Sum.inr (Sum.inl ((y1.1, (x.1.1.2.1, (x.1.1.2.2.1, (x.1.2.1, (x.1.1.2.2.2.2.2.2.2.1, ()))))), ()) : ((T15zx0 × Unit)) ⊕ (Unit)) : (Unit) ⊕ (((T15zx0 × Unit) ⊕ Unit))) : (T15zx18) ⊕ ((Unit ⊕ ((T15zx0 × Unit) ⊕ Unit)))) : (T15zx18) ⊕ (T15zx13)), (y4.1, ())))))))))))

noncomputable def P_overlay_steps_L0 (x : (List T15zx1) × Unit) (y1 : T15zx15 × (List T15zx2) × Unit) : Option ((T15zx15 × (List T15zx2) × Unit) ⊕ (Nat × T15zx15 × (List T15zx2) × Unit)) :=
  sel (ltI y1.1.2.2.2.1 (@len T15zx1 x.1))
  (obind (@idx T15zx1 x.1 y1.1.2.2.2.1) (fun (y2 : T15zx5 × Sb × Unit) => obind (P_overlay_what (y2, ())) (fun (y3 : T15zx2 × Bool × Unit) => sel (nt y3.2.1)
  (some (Sum.inr ((1 : Nat), ((([] : List T15zx2), (false, ((), (y1.1.2.2.2.1, ())))), (y1.2.1, ()))) : ((T15zx15 × (List T15zx2) × Unit)) ⊕ ((Nat × T15zx15 × (List T15zx2) × Unit))))
  (sel (fits (plus (@len T15zx2 y1.2.1) (@len T15zx2 ([y3.1] : List T15zx2))))
  (some (Sum.inl ((y1.1.1, (y1.1.2.1, ((), (iadd IntKind.i64 y1.1.2.2.2.1 (1 : Int), ())))), (@app T15zx2 y1.2.1 ([y3.1] : List T15zx2), ())) : ((T15zx15 × (List T15zx2) × Unit)) ⊕ ((Nat × T15zx15 × (List T15zx2) × Unit))))
  none))))
  (some (Sum.inr ((0 : Nat), ((y1.1.1, (y1.1.2.1, ((), (y1.1.2.2.2.1, ())))), (y1.2.1, ()))) : ((T15zx15 × (List T15zx2) × Unit)) ⊕ ((Nat × T15zx15 × (List T15zx2) × Unit))))

noncomputable def P_overlay_steps (x : (List T15zx1) × Unit) : Option ((List T15zx2) × Bool × Unit) :=
  obind (Loop (P_overlay_steps_L0 x) ((([] : List T15zx2), (false, ((), ((0 : Int), ())))), (([] : List T15zx2), ()))) (fun (y1 : Nat × T15zx15 × (List T15zx2) × Unit) => sel (eqN y1.1 (0 : Nat))
  (some (y1.2.2.1, (true, ())))
  (some (y1.2.1.1, (y1.2.1.2.1, ()))))

noncomputable def P_inv_clears (x : ((((List UInt8) × Unit) ⊕ (((List UInt8) × Unit) ⊕ (Unit ⊕ ((T15zx14 × Unit) ⊕ Unit)))) × ((List T15zx14) × Unit))) : Option ((List T15zx14) × Unit) :=
  (fun z => pick (fun y => P_overlay_gone_clears (y, x.2)) (fun z => pick (fun y => P_overlay_opaque_clears (y, x.2)) (fun z => pick (fun y => P_overlay_root_clears (y, x.2)) (fun z => pick (fun y => P_overlay_node_clears (y, x.2)) (fun _ => none) z) z) z) z) x.1

noncomputable def P_inv_puts (x : ((((List UInt8) × Unit) ⊕ (((List UInt8) × Unit) ⊕ (Unit ⊕ ((T15zx14 × Unit) ⊕ Unit)))) × ((List T15zx14) × Unit))) : Option ((List T15zx14) × (Int × Unit)) :=
  (fun z => pick (fun y => P_overlay_gone_puts (y, x.2)) (fun z => pick (fun y => P_overlay_opaque_puts (y, x.2)) (fun z => pick (fun y => P_overlay_root_puts (y, x.2)) (fun z => pick (fun y => P_overlay_node_puts (y, x.2)) (fun _ => none) z) z) z) z) x.1

noncomputable def P_overlay_Lay_L0 (y2 : (List T15zx2) × Bool × Unit) (y3 : T15zx9 × Unit) : Option ((T15zx9 × Unit) ⊕ (T15zx9 × Unit)) :=
  @way1 (T15zx9 × Unit) (sel (ltI y3.1.2.1 (@len T15zx2 y2.1))
  (obind (@idx T15zx2 y2.1 y3.1.2.1) (fun (y4 : T15zx18 ⊕ T15zx13) => obind (P_inv_clears (y4, (y3.1.1, ()))) (fun (y5 : (List T15zx0) × Unit) => some (Sum.inl ((y5.1, (iadd IntKind.i64 y3.1.2.1 (1 : Int), ())), ()) : ((T15zx9 × Unit)) ⊕ ((Nat × T15zx9 × Unit))))))
  (some (Sum.inr ((0 : Nat), ((y3.1.1, (y3.1.2.1, ())), ())) : ((T15zx9 × Unit)) ⊕ ((Nat × T15zx9 × Unit)))))

noncomputable def P_overlay_Lay_L1 (y2 : (List T15zx2) × Bool × Unit) (y4 : T15zx6 × Unit) : Option ((T15zx6 × Unit) ⊕ (Nat × T15zx6 × Unit)) :=
  sel (ltI y4.1.2.2.2.1 (@len T15zx2 y2.1))
  (obind (@idx T15zx2 y2.1 y4.1.2.2.2.1) (fun (y5 : T15zx18 ⊕ T15zx13) => obind (P_inv_puts (y5, (y4.1.2.2.1, ()))) (fun (y6 : (List T15zx0) × Int × Unit) => sel (nt (eqI y6.2.1 (0 : Int)))
  (some (Sum.inr ((1 : Nat), ((([] : List T15zx0), (y6.2.1, (y4.1.2.2.1, (y4.1.2.2.2.1, ())))), ())) : ((T15zx6 × Unit)) ⊕ ((Nat × T15zx6 × Unit))))
  (some (Sum.inl ((y4.1.1, (y4.1.2.1, (y6.1, (iadd IntKind.i64 y4.1.2.2.2.1 (1 : Int), ())))), ()) : ((T15zx6 × Unit)) ⊕ ((Nat × T15zx6 × Unit)))))))
  (some (Sum.inr ((0 : Nat), ((y4.1.1, (y4.1.2.1, (y4.1.2.2.1, (y4.1.2.2.2.1, ())))), ())) : ((T15zx6 × Unit)) ⊕ ((Nat × T15zx6 × Unit))))

noncomputable def P_overlay_Lay (x : (List T15zx0) × (List T15zx1) × Unit) : Option T15zx9 :=
  obind (P_tree_Check (x.1, ())) (fun (y1 : Int × Unit) => sel (nt (eqI y1.1 (0 : Int)))
  (some (([] : List T15zx0), ((1 : Int), ())))
  (obind (P_overlay_steps (x.2.1, ())) (fun (y2 : (List T15zx2) × Bool × Unit) => sel (nt y2.2.1)
  (some (([] : List T15zx0), ((10 : Int), ())))
  (sel (fits (plus (@len T15zx0 ([] : List T15zx0)) (@len T15zx0 x.1)))
  (obind (Loop (P_overlay_Lay_L0 y2) ((@app T15zx0 ([] : List T15zx0) x.1, ((0 : Int), ())), ())) (fun (y3 : T15zx9 × Unit) => obind (Loop (P_overlay_Lay_L1 y2) ((([] : List T15zx0), ((0 : Int), (y3.1.1, ((0 : Int), ())))), ())) (fun (y4 : Nat × T15zx6 × Unit) => sel (eqN y4.1 (0 : Nat))
  (some (y4.2.1.2.2.1, ((0 : Int), ())))
  (some (y4.2.1.1, (y4.2.1.2.1, ()))))))
  none))))

noncomputable def P_overlay_Check (x : Sb × Unit) : Option (Int × Unit) :=
  obind (P_tar_Read (x.1, ())) (fun (y1 : (List T15zx1) × Int × Unit) => obind (P_overlay_steps (y1.1, ())) (fun (y2 : (List T15zx2) × Bool × Unit) => sel (sel (nt (nt (eqI y1.2.1 (0 : Int))))
  (nt y2.2.1)
  true)
  (some ((10 : Int), ()))
  (some ((0 : Int), ()))))

noncomputable def P_law15_file (x : Sb × Sb × Unit) : Option (T15zx1 × Unit) :=
  some (((x.1, ((1 : Int), ((420 : Int), ((0 : Int), ((0 : Int), (@len UInt8 x.2.1, ((0 : Int), (([] : List (UInt8)), ())))))))), (x.2.1, ())), ())

noncomputable def P_law15_awake (x : Unit) : Option (Bool × Unit) :=
  obind (P_law15_file (([(46 : UInt8), (47 : UInt8), (100 : UInt8), (47 : UInt8), (97 : UInt8)] : List (UInt8)), (([(120 : UInt8)] : List (UInt8)), ()))) (fun (y1 : T15zx1 × Unit) => obind (P_law15_file (([(98 : UInt8)] : List (UInt8)), (([(121 : UInt8)] : List (UInt8)), ()))) (fun (y2 : T15zx1 × Unit) => obind (P_overlay_Lay (([] : List T15zx0), (([y1.1, y2.1] : List T15zx1), ()))) (fun (y3 : (List T15zx0) × Int × Unit) => obind (P_law15_file (([(100 : UInt8), (47 : UInt8), (46 : UInt8), (119 : UInt8), (104 : UInt8), (46 : UInt8), (97 : UInt8)] : List (UInt8)), (([] : List (UInt8)), ()))) (fun (y4 : T15zx1 × Unit) => obind (P_law15_file (([(46 : UInt8), (119 : UInt8), (104 : UInt8), (46 : UInt8), (98 : UInt8)] : List (UInt8)), (([] : List (UInt8)), ()))) (fun (y5 : T15zx1 × Unit) => obind (P_law15_file (([(100 : UInt8), (47 : UInt8), (97 : UInt8)] : List (UInt8)), (([(122 : UInt8)] : List (UInt8)), ()))) (fun (y6 : T15zx1 × Unit) => obind (P_overlay_Lay (y3.1, (([y4.1, y5.1, y6.1] : List T15zx1), ()))) (fun (y7 : (List T15zx0) × Int × Unit) => obind (P_law15_file (([(46 : UInt8), (46 : UInt8), (47 : UInt8), (120 : UInt8)] : List (UInt8)), (([] : List (UInt8)), ()))) (fun (y8 : T15zx1 × Unit) => obind (P_overlay_Lay (y7.1, (([y8.1] : List T15zx1), ()))) (fun (y9 : (List T15zx0) × Int × Unit) => obind (P_overlay_Check (([(120 : UInt8)] : List (UInt8)), ())) (fun (y10 : Int × Unit) => obind (sel (sel (eqI y3.2.1 (0 : Int))
  (eqI (@len T15zx0 y3.1) (3 : Int))
  false)
  (obind (@idx T15zx0 y3.1 (1 : Int)) (fun (y11 : Sb × Int × Int × Sb × Sb × Unit) => some (eqS y11.1 ([(100 : UInt8)] : List (UInt8)))))
  (some false)) (fun (y11 : Bool) => obind (sel y11
  (obind (@idx T15zx0 y3.1 (1 : Int)) (fun (y12 : Sb × Int × Int × Sb × Sb × Unit) => some (eqI y12.2.2.1 (493 : Int))))
  (some false)) (fun (y12 : Bool) => obind (sel (sel (sel y12
  (eqI y7.2.1 (0 : Int))
  false)
  (eqI (@len T15zx0 y7.1) (2 : Int))
  false)
  (obind (@idx T15zx0 y7.1 (1 : Int)) (fun (y13 : Sb × Int × Int × Sb × Sb × Unit) => some (eqS y13.2.2.2.1 ([(122 : UInt8)] : List (UInt8)))))
  (some false)) (fun (y13 : Bool) => obind (sel (sel (sel y13
  (eqI y9.2.1 (10 : Int))
  false)
  (eqI y10.1 (10 : Int))
  false)
  (sel (inside (0 : Int) (1024 : Int) (1024 : Int))
  (sel (fits (1024 : Int))
  (obind (P_overlay_Check (intsBytes (@lrep Int (1024 : Int) (0 : Int)), ())) (fun (y14 : Int × Unit) => some (eqI y14.1 (0 : Int))))
  none)
  none)
  (some false)) (fun (y14 : Bool) => some (y14, ())))))))))))))))

noncomputable def P_overlay_Apply (x : (List T15zx0) × Sb × Unit) : Option T15zx9 :=
  obind (P_tar_Read (x.2.1, ())) (fun (y1 : (List T15zx1) × Int × Unit) => obind (sel (nt (eqI y1.2.1 (0 : Int)))
  (obind (P_tree_Check (x.1, ())) (fun (y2 : Int × Unit) => some (eqI y2.1 (0 : Int))))
  (some false)) (fun (y2 : Bool) => sel y2
  (some (([] : List T15zx0), ((10 : Int), ())))
  (obind (P_overlay_Lay (x.1, (y1.1, ()))) (fun (y3 : (List T15zx0) × Int × Unit) => some (y3.1, (y3.2.1, ()))))))

noncomputable def P_overlay_All_L0 (x : (List Sb) × Unit) (y1 : T15zx6 × Unit) : Option ((T15zx6 × Unit) ⊕ (Nat × T15zx6 × Unit)) :=
  sel (ltI y1.1.2.2.2.1 (@len Sb x.1))
  (obind (@idx Sb x.1 y1.1.2.2.2.1) (fun (y2 : List (UInt8)) => obind (P_overlay_Apply (y1.1.2.2.1, (y2, ()))) (fun (y3 : (List T15zx0) × Int × Unit) => sel (nt (eqI y3.2.1 (0 : Int)))
  (some (Sum.inr ((1 : Nat), ((([] : List T15zx0), (y3.2.1, (y1.1.2.2.1, (y1.1.2.2.2.1, ())))), ())) : ((T15zx6 × Unit)) ⊕ ((Nat × T15zx6 × Unit))))
  (some (Sum.inl ((y1.1.1, (y1.1.2.1, (y3.1, (iadd IntKind.i64 y1.1.2.2.2.1 (1 : Int), ())))), ()) : ((T15zx6 × Unit)) ⊕ ((Nat × T15zx6 × Unit)))))))
  (some (Sum.inr ((0 : Nat), ((y1.1.1, (y1.1.2.1, (y1.1.2.2.1, (y1.1.2.2.2.1, ())))), ())) : ((T15zx6 × Unit)) ⊕ ((Nat × T15zx6 × Unit))))

noncomputable def P_overlay_All (x : (List Sb) × Unit) : Option T15zx9 :=
  obind (Loop (P_overlay_All_L0 x) ((([] : List T15zx0), ((0 : Int), (([] : List T15zx0), ((0 : Int), ())))), ())) (fun (y1 : Nat × T15zx6 × Unit) => sel (eqN y1.1 (0 : Nat))
  (some (y1.2.1.2.2.1, ((0 : Int), ())))
  (some (y1.2.1.1, (y1.2.1.2.1, ()))))

noncomputable def P_law15_OverlayTwice_L0 (x : (List Sb) × Unit) (y1 : T15zx12 × Unit) : Option ((T15zx12 × Unit) ⊕ (Nat × T15zx12 × Unit)) :=
  sel (ltI y1.1.2.2.1 (@len Sb x.1))
  (obind (@idx Sb x.1 y1.1.2.2.1) (fun (y2 : List (UInt8)) => sel (ltI (8192 : Int) (@len UInt8 y2))
  (obind (P_law15_awake ()) (fun (y3 : Bool × Unit) => some (Sum.inr ((1 : Nat), ((y3.1, (y1.1.2.1, (y1.1.2.2.1, ()))), ())) : ((T15zx12 × Unit)) ⊕ ((Nat × T15zx12 × Unit)))))
  (obind (@idx Sb x.1 y1.1.2.2.1) (fun (y3 : List (UInt8)) => obind (P_overlay_Apply (y1.1.2.1, (y3, ()))) (fun (y4 : (List T15zx0) × Int × Unit) => sel (inside (0 : Int) (iadd IntKind.i64 y1.1.2.2.1 (1 : Int)) (@len Sb x.1))
  (obind (P_overlay_All (@sub Sb x.1 (0 : Int) (minus (iadd IntKind.i64 y1.1.2.2.1 (1 : Int)) (0 : Int)), ())) (fun (y5 : (List T15zx0) × Int × Unit) => obind (sel (nt (nt (eqI y4.2.1 y5.2.1)))
  (obind (P_ref14_Same (y4.1, (y5.1, ()))) (fun (y6 : Bool × Unit) => some (nt y6.1)))
  (some true)) (fun (y6 : Bool) => sel y6
  (some (Sum.inr ((1 : Nat), ((false, (y1.1.2.1, (y1.1.2.2.1, ()))), ())) : ((T15zx12 × Unit)) ⊕ ((Nat × T15zx12 × Unit))))
  (sel (nt (eqI y4.2.1 (0 : Int)))
  (obind (P_law15_awake ()) (fun (y7 : Bool × Unit) => some (Sum.inr ((1 : Nat), ((y7.1, (y1.1.2.1, (y1.1.2.2.1, ()))), ())) : ((T15zx12 × Unit)) ⊕ ((Nat × T15zx12 × Unit)))))
  (obind (@idx Sb x.1 y1.1.2.2.1) (fun (y7 : List (UInt8)) => obind (P_overlay_Apply (y4.1, (y7, ()))) (fun (y8 : (List T15zx0) × Int × Unit) => obind (sel (nt (nt (eqI y8.2.1 (0 : Int))))
  (obind (P_ref14_Same (y4.1, (y8.1, ()))) (fun (y9 : Bool × Unit) => some (nt y9.1)))
  (some true)) (fun (y9 : Bool) => sel y9
  (obind (sel (eqI y8.2.1 (5 : Int))
  (obind (P_law15_awake ()) (fun (y10 : Bool × Unit) => some y10.1))
  (some false)) (fun (y10 : Bool) => some (Sum.inr ((1 : Nat), ((y10, (y1.1.2.1, (y1.1.2.2.1, ()))), ())) : ((T15zx12 × Unit)) ⊕ ((Nat × T15zx12 × Unit)))))
  (some (Sum.inl ((y1.1.1, (y4.1, (iadd IntKind.i64 y1.1.2.2.1 (1 : Int), ()))), ()) : ((T15zx12 × Unit)) ⊕ ((Nat × T15zx12 × Unit))))))))))))
  none)))))
  (some (Sum.inr ((0 : Nat), ((y1.1.1, (y1.1.2.1, (y1.1.2.2.1, ()))), ())) : ((T15zx12 × Unit)) ⊕ ((Nat × T15zx12 × Unit))))

noncomputable def P_law15_OverlayTwice (x : (List Sb) × Unit) : Option (Bool × Unit) :=
  sel (ltI (4 : Int) (@len Sb x.1))
  (obind (P_law15_awake ()) (fun (y1 : Bool × Unit) => some (y1.1, ())))
  (obind (Loop (P_law15_OverlayTwice_L0 x) ((false, (([] : List T15zx0), ((0 : Int), ()))), ())) (fun (y1 : Nat × T15zx12 × Unit) => sel (eqN y1.1 (0 : Nat))
  (obind (P_law15_awake ()) (fun (y2 : Bool × Unit) => some (y2.1, ())))
  (some (y1.2.1.1, ()))))
end Go.Ge

/- What the functions of layer 14 compute, as plain programs (written by a program from what the ghost interpreter comes to). -/
namespace Go.Ge
set_option linter.unusedVariables false
set_option maxRecDepth 100000

end Go.Ge

/- Plain laws of numbers: sums that stay in range, bits of words. -/
namespace Go.Ge
set_option linter.unusedVariables false
set_option linter.unusedSimpArgs false

theorem iadd_i64 {a b : Int} (h : -9223372036854775808 ≤ a + b) (h2 : a + b ≤ 9223372036854775807) : iadd .i64 a b = a + b := by
  unfold iadd; simp [IntKind.wrap, IntKind.min, IntKind.max, IntKind.signed, IntKind.bits]; omega
theorem isub_i64 {a b : Int} (h : -9223372036854775808 ≤ a - b) (h2 : a - b ≤ 9223372036854775807) : isub .i64 a b = a - b := by
  unfold isub; simp [IntKind.wrap, IntKind.min, IntKind.max, IntKind.signed, IntKind.bits]; omega
theorem icv_i64 {a : Int} (h : -9223372036854775808 ≤ a) (h2 : a ≤ 9223372036854775807) : icv .i64 a = a := by
  unfold icv; simp [IntKind.wrap, IntKind.min, IntKind.max, IntKind.signed, IntKind.bits]; omega
theorem icv_u64 {a : Int} (h : 0 ≤ a) (h2 : a ≤ 18446744073709551615) : icv .u64 a = a := by
  unfold icv; simp [IntKind.wrap, IntKind.min, IntKind.max, IntKind.signed, IntKind.bits]; omega
theorem wrap_u32 (a : Int) : IntKind.wrap .u32 a = a % 4294967296 := by
  simp [IntKind.wrap, IntKind.min, IntKind.max, IntKind.signed, IntKind.bits]

/-! ### Words of 32 bits -/
def Bv (x : Int) : BitVec 32 := BitVec.ofInt 32 x
def Can (x : Int) : Prop := 0 ≤ x ∧ x < 4294967296

theorem can_wrap (a : Int) : Can (IntKind.wrap .u32 a) := by rw [wrap_u32]; unfold Can; omega
theorem bv_toNat (a : Int) : ((Bv a).toNat : Int) = a % 4294967296 := by
  unfold Bv
  rw [BitVec.toNat_ofInt]
  have : 0 ≤ a % ((2 ^ 32 : Nat) : Int) := Int.emod_nonneg _ (by decide)
  rw [Int.toNat_of_nonneg this]; rfl
theorem eq32 {a b : Int} (ha : Can a) (hb : Can b) (h : Bv a = Bv b) : a = b := by
  have h1 := bv_toNat a
  have h2 := bv_toNat b
  rw [h] at h1
  unfold Can at ha hb
  omega
theorem bv_wrap (a : Int) : Bv (IntKind.wrap .u32 a) = Bv a := by
  apply BitVec.eq_of_toNat_eq
  have h1 := bv_toNat a
  have h2 := bv_toNat (IntKind.wrap .u32 a)
  rw [wrap_u32] at h2 ⊢
  omega
theorem bv_nat (v : BitVec 32) : Bv (v.toNat : Int) = v := by
  apply BitVec.eq_of_toNat_eq
  have h1 := bv_toNat (v.toNat : Int)
  have := v.isLt
  omega
theorem bv_or (x y : Int) : Bv (ior .u32 x y) = Bv x ||| Bv y := by unfold ior; rw [bv_wrap]; exact bv_nat _
theorem can_or (x y : Int) : Can (ior .u32 x y) := can_wrap _
theorem ior_comm32 (x y : Int) : ior .u32 x y = ior .u32 y x := eq32 (can_or _ _) (can_or _ _) (by rw [bv_or, bv_or, BitVec.or_comm])
/-! ### Tests and places, decided -/
theorem ltI_true {a b : Int} (h : a < b) : ltI a b = true := by simp [ltI, h]
theorem ltI_false {a b : Int} (h : b ≤ a) : ltI a b = false := by simp [ltI]; omega
theorem leI_true {a b : Int} (h : a ≤ b) : leI a b = true := by simp [leI, h]
theorem leI_false {a b : Int} (h : b < a) : leI a b = false := by simp [leI]; omega
theorem eqI_true {a b : Int} (h : a = b) : eqI a b = true := by simp [eqI, h]
theorem eqI_false {a b : Int} (h : a ≠ b) : eqI a b = false := by simp [eqI, h]
theorem within_true {i n : Int} (h0 : 0 ≤ i) (h1 : i < n) : within i n = true := by simp [within, h0, h1]
theorem inside_true {i j n : Int} (h0 : 0 ≤ i) (h1 : i ≤ j) (h2 : j ≤ n) : inside i j n = true := by simp [inside, h0, h1, h2]
theorem fits_true {n : Int} (h : n ≤ 4294967296) : fits n = true := by simp [fits, h]
theorem way1_inl {S : Type} (s : S) : way1 (some (.inl s : S ⊕ (Nat × S))) = some (.inl s) := rfl
theorem way1_inr {S : Type} (n : Nat) (s : S) : way1 (some (.inr (n, s) : S ⊕ (Nat × S))) = some (.inr s) := rfl
theorem idx_getD {α : Type} (l : List α) (d : α) {i : Nat} (h : i < l.length) : idx l (i : Int) = some (l.getD i d) := by
  rw [idx_nat, List.getElem?_eq_getElem h, List.getD_eq_getElem?_getD, List.getElem?_eq_getElem h]; rfl
theorem lset_nat {α : Type} (l : List α) (i : Nat) (x : α) : lset l (i : Int) x = l.set i x := by simp [lset]
end Go.Ge

/- Plain laws of loops that go through a list, of words in natural numbers. -/
namespace Go.Ge
set_option linter.unusedVariables false
set_option linter.unusedSimpArgs false

def runL {α σ R : Type} (step : Nat → σ → α → Option (σ ⊕ R)) (fin : Nat → σ → R) : List α → Nat → σ → Option R
  | [], i, s => some (fin i s)
  | x :: r, i, s => match step i s x with
    | none => none
    | some (.inl s') => runL step fin r (i + 1) s'
    | some (.inr y) => some y

theorem loop_run {α σ S R : Type} {f : S → Option (S ⊕ R)} (l : List α) (mk : σ → Nat → S) (step : Nat → σ → α → Option (σ ⊕ R)) (fin : Nat → σ → R) (Inv : Nat → σ → Prop)
    (hstep : ∀ s i x, l[i]? = some x → i < l.length → Inv i s → f (mk s i) = (step i s x).map (fun q => match q with | .inl s' => .inl (mk s' (i + 1)) | .inr y => .inr y))
    (hinv : ∀ s i x s', l[i]? = some x → Inv i s → step i s x = some (.inl s') → Inv (i + 1) s')
    (hfin : ∀ s, Inv l.length s → f (mk s l.length) = some (.inr (fin l.length s))) (hsome : ∀ s i x, l[i]? = some x → Inv i s → step i s x ≠ none) :
    ∀ s, Inv 0 s → Loop f (mk s 0) = runL step fin l 0 s := by
  have key : ∀ (rest pre : List α) (s : σ), l = pre ++ rest → Inv pre.length s → Loop f (mk s pre.length) = runL step fin rest pre.length s := by
    intro rest
    induction rest with
    | nil =>
      intro pre s hl hI
      rw [List.append_nil] at hl
      subst hl
      rw [Loop_eq, hfin s hI]
      rfl
    | cons x r ih =>
      intro pre s hl hI
      have hx : l[pre.length]? = some x := by rw [hl]; simp
      have hlt : pre.length < l.length := by rw [hl]; simp
      rw [Loop_eq, hstep s pre.length x hx hlt hI]
      unfold runL
      cases hs : step pre.length s x with
      | none => exact absurd hs (hsome s _ x hx hI)
      | some q =>
        cases q with
        | inr y => rfl
        | inl s' =>
          have := ih (pre ++ [x]) s' (by rw [hl]; simp) (by rw [List.length_append]; exact hinv s _ x s' hx hI hs)
          rw [List.length_append] at this
          exact this
  intro s hI
  exact key l [] s rfl hI

/-! ### Words in natural numbers -/
theorem ltI_len {α : Type} (i : Nat) (l : List α) : ltI (i : Int) (len l) = decide (i < l.length) := by simp [ltI, len]
theorem leI_len {α : Type} (i : Nat) (l : List α) : leI (len l) (i : Int) = decide (l.length ≤ i) := by simp [leI, len]
theorem ltI_lens {α β : Type} (l : List α) (m : List β) : ltI (len l) (len m) = decide (l.length < m.length) := by simp [ltI, len]
theorem leI_lens {α β : Type} (l : List α) (m : List β) : leI (len l) (len m) = decide (l.length ≤ m.length) := by simp [leI, len]
theorem eqI_lens {α β : Type} (l : List α) (m : List β) : eqI (len l) (len m) = decide (l.length = m.length) := by unfold eqI len; apply decide_eq_decide.2; omega
theorem fits_len2 {α β : Type} {l : List α} {m : List β} (h : l.length + m.length ≤ 4294967296) : fits (plus (len l) (len m)) = true := by
  apply fits_true; simp only [plus, len]; omega
theorem sel_if {α : Type} (c : Bool) (x y : α) : sel c x y = if c = true then x else y := by cases c <;> rfl
theorem sel_decide {α : Type} (p : Prop) [Decidable p] (x y : α) : sel (decide p) x y = if p then x else y := by by_cases h : p <;> simp [h, sel]
theorem eqS_iff {a b : List UInt8} : eqS a b = decide (a = b) := rfl
theorem eqS_false {a b : List UInt8} (h : a ≠ b) : eqS a b = false := by simp [eqS, h]
theorem eqS_true {a b : List UInt8} (h : a = b) : eqS a b = true := by simp [eqS, h]
theorem u8_eq {c : UInt8} {n : UInt8} : eqI (u8 c) (n.toNat : Int) = decide (c = n) := by
  unfold eqI u8
  by_cases h : c = n
  · simp [h]
  · have : c.toNat ≠ n.toNat := fun e => h (UInt8.toNat_inj.1 e)
    simp [h]; omega
theorem sub_take {α : Type} (l : List α) (n : Nat) : sub l 0 (minus (n : Int) 0) = l.take n := by
  unfold sub minus
  simp
theorem sub_take' {α β : Type} (l : List α) (m : List β) : sub l 0 (minus (len m) 0) = l.take m.length := sub_take l m.length
theorem sub_drop {α : Type} (l : List α) (n : Nat) (h : n ≤ l.length) : sub l (n : Int) (minus (len l) (n : Int)) = l.drop n := by
  unfold sub minus len
  rw [Int.toNat_natCast]
  apply List.take_of_length_le
  rw [List.length_drop]
  omega
theorem eqN_zero : eqN 0 0 = true := rfl
theorem eqN_one : eqN 1 0 = false := rfl

theorem getElem?_lt {α : Type} {l : List α} {i : Nat} {x : α} (h : l[i]? = some x) : i < l.length := (List.getElem?_eq_some_iff.1 h).1
theorem inside_nat {a b n : Nat} (h : a ≤ b) (k : b ≤ n) : inside (a : Int) (b : Int) (n : Int) = true := inside_true (by omega) (by omega) (by omega)
theorem inside_len {α : Type} {a b : Nat} {l : List α} (h : a ≤ b) (k : b ≤ l.length) : inside (a : Int) (b : Int) (len l) = true := inside_nat h k
theorem idx_some' {α : Type} {l : List α} {i : Nat} {x : α} (h : l[i]? = some x) : idx l (i : Int) = some x := by rw [idx_nat, h]
theorem ltI_len_true {α : Type} {l : List α} {i : Nat} (h : i < l.length) : ltI (i : Int) (len l) = true := by rw [ltI_len, decide_eq_true h]
theorem ltI_len_end {α : Type} {l : List α} : ltI (l.length : Int) (len l) = false := by rw [ltI_len, decide_eq_false (by omega)]
theorem app_eq {α : Type} (l m : List α) : app l m = l ++ m := rfl
theorem nt_eq (b : Bool) : nt b = !b := rfl
theorem len_eq {α : Type} (l : List α) : len l = (l.length : Int) := rfl
end Go.Ge

/- The order of texts; two lists gone through side by side. -/
namespace Go.Ge
set_option linter.unusedVariables false
set_option linter.unusedSimpArgs false

theorem ltS_nil (y : List UInt8) : ltS [] y = decide (y ≠ []) := by cases y <;> simp [ltS, Op.bytesLess]
theorem ltS_nil' (x : List UInt8) : ltS x [] = false := by cases x <;> simp [ltS, Op.bytesLess]
theorem ltS_cons (a b : UInt8) (x y : List UInt8) : ltS (a :: x) (b :: y) = (decide (a < b) || (a == b && ltS x y)) := by simp [ltS, Op.bytesLess]

theorem u8_irrefl (a : UInt8) : ¬ a < a := UInt8.lt_irrefl a
theorem u8_tri (a b : UInt8) : a < b ∨ a = b ∨ b < a := by
  rcases Nat.lt_trichotomy a.toNat b.toNat with h | h | h
  · exact .inl h
  · exact .inr (.inl (UInt8.toNat_inj.1 h))
  · exact .inr (.inr h)

theorem ltS_irrefl : ∀ x : List UInt8, ltS x x = false := by
  intro x
  induction x with
  | nil => rfl
  | cons a x ih => rw [ltS_cons, ih]; simp [u8_irrefl]

theorem ltS_trans : ∀ {x y z : List UInt8}, ltS x y = true → ltS y z = true → ltS x z = true := by
  intro x
  induction x with
  | nil =>
    intro y z h k
    cases z with
    | nil => rw [ltS_nil'] at k; cases k
    | cons c z => rfl
  | cons a x ih =>
    intro y z h k
    cases y with
    | nil => rw [ltS_nil'] at h; cases h
    | cons b y =>
      cases z with
      | nil => rw [ltS_nil'] at k; cases k
      | cons c z =>
        rw [ltS_cons] at h k ⊢
        simp only [Bool.or_eq_true, decide_eq_true_eq, Bool.and_eq_true, beq_iff_eq] at h k ⊢
        rcases h with h | ⟨rfl, h⟩
        · rcases k with k | ⟨rfl, k⟩
          · exact .inl (UInt8.lt_trans h k)
          · exact .inl h
        · rcases k with k | ⟨rfl, k⟩
          · exact .inl k
          · exact .inr ⟨rfl, ih h k⟩

theorem ltS_tri : ∀ (x y : List UInt8), ltS x y = true ∨ x = y ∨ ltS y x = true := by
  intro x
  induction x with
  | nil => intro y; cases y <;> simp [ltS_nil]
  | cons a x ih =>
    intro y
    cases y with
    | nil => exact .inr (.inr rfl)
    | cons b y =>
      rw [ltS_cons, ltS_cons]
      simp only [Bool.or_eq_true, decide_eq_true_eq, Bool.and_eq_true, beq_iff_eq]
      rcases u8_tri a b with h | rfl | h
      · exact .inl (.inl h)
      · rcases ih y with h | rfl | h
        · exact .inl (.inr ⟨rfl, h⟩)
        · exact .inr (.inl rfl)
        · exact .inr (.inr (.inr ⟨rfl, h⟩))
      · exact .inr (.inr (.inl h))

theorem ltS_asymm {x y : List UInt8} (h : ltS x y = true) : ltS y x = false := by
  cases k : ltS y x with
  | false => rfl
  | true => have := ltS_trans h k; rw [ltS_irrefl] at this; cases this
theorem ltS_ne {x y : List UInt8} (h : ltS x y = true) : x ≠ y := fun e => by rw [e, ltS_irrefl] at h; cases h

theorem gtS_eq (x y : List UInt8) : nt (oor (ltS x y) (eqS x y)) = ltS y x := by
  rcases ltS_tri x y with h | rfl | h
  · rw [h, ltS_asymm h]; rfl
  · rw [eqS_self, ltS_irrefl]; rfl
  · rw [h, ltS_asymm h, eqS_false (fun e => ltS_ne h e.symm)]; rfl

def cmpS (x y : List UInt8) : Int := if ltS x y = true then -1 else if x = y then 0 else 1

def cmpL : List (List UInt8) → List (List UInt8) → Int
  | [], [] => 0
  | [], _ :: _ => -1
  | _ :: _, [] => 1
  | a :: x, b :: y => if a = b then cmpL x y else if ltS a b = true then -1 else 1

theorem cmpL_self : ∀ x, cmpL x x = 0 := by
  intro x
  induction x with
  | nil => rfl
  | cons a x ih => rw [cmpL, if_pos rfl]; exact ih
theorem cmpL_zero : ∀ {x y}, cmpL x y = 0 → x = y := by
  intro x
  induction x with
  | nil => intro y h; cases y with | nil => rfl | cons b y => cases h
  | cons a x ih =>
    intro y h
    cases y with
    | nil => cases h
    | cons b y =>
      rw [cmpL] at h
      split at h
      · rename_i e; rw [e, ih h]
      · split at h <;> cases h
theorem cmpL_neg : ∀ x y, cmpL x y = - cmpL y x := by
  intro x
  induction x with
  | nil => intro y; cases y <;> rfl
  | cons a x ih =>
    intro y
    cases y with
    | nil => rfl
    | cons b y =>
      rw [cmpL, cmpL]
      by_cases e : a = b
      · rw [if_pos e, if_pos e.symm, ih y]
      · have e' : ¬ b = a := fun q => e q.symm
        rw [if_neg e, if_neg e']
        rcases ltS_tri a b with h | h | h
        · rw [if_pos h, if_neg (by rw [ltS_asymm h]; simp)]
        · exact absurd h e
        · rw [if_neg (by rw [ltS_asymm h]; simp), if_pos h]; rfl
theorem cmpL_trans : ∀ {x y z}, cmpL x y < 0 → cmpL y z < 0 → cmpL x z < 0 := by
  intro x
  induction x with
  | nil =>
    intro y z h k
    cases z with
    | nil => cases y with | nil => exact absurd k (by simp [cmpL]) | cons b y => exact absurd k (by simp [cmpL])
    | cons c z => exact (by decide : (-1 : Int) < 0)
  | cons a x ih =>
    intro y z h k
    cases y with
    | nil => exact absurd h (by simp [cmpL])
    | cons b y =>
      cases z with
      | nil => exact absurd k (by simp [cmpL])
      | cons c z =>
        rw [cmpL] at h k ⊢
        by_cases e : a = b
        · subst e
          rw [if_pos rfl] at h
          by_cases e2 : a = c
          · subst e2
            rw [if_pos rfl] at k ⊢
            exact ih h k
          · rw [if_neg e2] at k ⊢
            exact k
        · rw [if_neg e] at h
          have hab : ltS a b = true := by
            cases q : ltS a b with
            | true => rfl
            | false => rw [q, if_neg (by simp)] at h; exact absurd h (by decide)
          by_cases e2 : b = c
          · subst e2
            rw [if_neg e]
            exact h
          · rw [if_neg e2] at k
            have hbc : ltS b c = true := by
              cases q : ltS b c with
              | true => rfl
              | false => rw [q, if_neg (by simp)] at k; exact absurd k (by decide)
            have hac := ltS_trans hab hbc
            rw [if_neg (ltS_ne hac), if_pos hac]
            decide
theorem cmpL_app (x r : List (List UInt8)) (h : r ≠ []) : cmpL x (x ++ r) = -1 := by
  induction x with
  | nil => cases r with | nil => exact absurd rfl h | cons a r => rfl
  | cons a x ih => rw [List.cons_append, cmpL, if_pos rfl]; exact ih

/-! ### Side by side -/
theorem zip_at {α β : Type} {x : List α} {y : List β} {i : Nat} {p : α × β} (h : (x.zip y)[i]? = some p) : x[i]? = some p.1 ∧ y[i]? = some p.2 := by
  rw [List.getElem?_zip_eq_some] at h
  exact h
theorem zip_same {α : Type} [DecidableEq α] : ∀ (x y : List α), (x.zip y).all (fun p => decide (p.1 = p.2)) = decide (x.take (min x.length y.length) = y.take (min x.length y.length)) := by
  intro x
  induction x with
  | nil => intro y; simp
  | cons a x ih =>
    intro y
    cases y with
    | nil => simp
    | cons b y =>
      rw [List.zip_cons_cons, List.all_cons, ih y]
      simp only [List.length_cons, Nat.add_min_add_right, List.take_succ_cons]
      by_cases e : a = b
      · subst e; simp
      · simp [e]
theorem zip_same_len {α : Type} [DecidableEq α] {x y : List α} (h : x.length = y.length) : (x.zip y).all (fun p => decide (p.1 = p.2)) = decide (x = y) := by
  rw [zip_same, h, Nat.min_self, List.take_length, ← h, List.take_length]
end Go.Ge

/- Plain laws of loops that look for something in a list. -/
namespace Go.Ge
set_option linter.unusedVariables false
set_option linter.unusedSimpArgs false

theorem first_or {α : Type} (l : List α) (p : Nat → α → Bool) :
    (∃ i x, l[i]? = some x ∧ p i x = true ∧ ∀ j y, j < i → l[j]? = some y → p j y = false) ∨ ∀ i x, l[i]? = some x → p i x = false := by
  by_cases h : ∃ i x, l[i]? = some x ∧ p i x = true
  · left
    have key : ∀ n i x, i ≤ n → l[i]? = some x → p i x = true → ∃ i x, l[i]? = some x ∧ p i x = true ∧ ∀ j y, j < i → l[j]? = some y → p j y = false := by
      intro n
      induction n with
      | zero =>
        intro i x hi hx hp
        obtain rfl : i = 0 := by omega
        exact ⟨0, x, hx, hp, fun j y hj => by omega⟩
      | succ n ih =>
        intro i x hi hx hp
        by_cases k : ∃ j y, j < i ∧ l[j]? = some y ∧ p j y = true
        · obtain ⟨j, y, hj, hy, hq⟩ := k
          exact ih j y (by omega) hy hq
        · refine ⟨i, x, hx, hp, fun j y hj hy => ?_⟩
          cases hq : p j y with
          | false => rfl
          | true => exact absurd ⟨j, y, hj, hy, hq⟩ k
    obtain ⟨i, x, hx, hp⟩ := h
    exact key i i x (Nat.le_refl _) hx hp
  · right
    intro i x hx
    cases hq : p i x with
    | false => rfl
    | true => exact absurd ⟨i, x, hx, hq⟩ h

theorem srch {α S R : Type} {f : S → Option (S ⊕ R)} (l : List α) (mk : Int → S) (p : Nat → α → Bool) (hitS : Nat → α → R) (finS : R) (hl : l.length ≤ 4294967296)
    (hstep : ∀ i x, l[i]? = some x → i < l.length → iadd .i64 (i : Int) 1 = ((i + 1 : Nat) : Int) → f (mk (i : Int)) = some (if p i x = true then .inr (hitS i x) else .inl (mk ((i + 1 : Nat) : Int))))
    (hfin : f (mk (l.length : Int)) = some (.inr finS)) :
    (∃ i x, l[i]? = some x ∧ p i x = true ∧ (∀ j y, j < i → l[j]? = some y → p j y = false) ∧ Loop f (mk 0) = some (hitS i x)) ∨ ((∀ i x, l[i]? = some x → p i x = false) ∧ Loop f (mk 0) = some finS) := by
  have adv : ∀ i x, l[i]? = some x → p i x = false → f (mk (i : Int)) = some (.inl (mk ((i + 1 : Nat) : Int))) := fun i x hx hp => by
    have hi := getElem?_lt hx
    rw [hstep i x hx hi (iadd_one (by omega)), hp]; rfl
  rcases first_or l p with ⟨i, x, hx, hp, hj⟩ | hn
  · left
    refine ⟨i, x, hx, hp, hj, ?_⟩
    have hi := getElem?_lt hx
    refine loop_seq i (fun j : Nat => mk (j : Int)) (fun j hji => ?_) ?_
    · have hjl : j < l.length := by omega
      exact adv j l[j] (List.getElem?_eq_getElem hjl) (hj j _ hji (List.getElem?_eq_getElem hjl))
    · rw [hstep i x hx hi (iadd_one (by omega)), hp]; rfl
  · right
    refine ⟨hn, loop_seq l.length (fun j : Nat => mk (j : Int)) (fun j hj => ?_) hfin⟩
    exact adv j l[j] (List.getElem?_eq_getElem hj) (hn j _ (List.getElem?_eq_getElem hj))

theorem fold_loop {α σ S R : Type} {f : S → Option (S ⊕ R)} (l : List α) (mk : σ → Int → S) (step : σ → Nat → α → σ) (fin : σ → R) (Inv : σ → Nat → Prop) (hl : l.length ≤ 4294967296)
    (hstep : ∀ s i x, l[i]? = some x → i < l.length → iadd .i64 (i : Int) 1 = ((i + 1 : Nat) : Int) → Inv s i → f (mk s (i : Int)) = some (.inl (mk (step s i x) ((i + 1 : Nat) : Int))) ∧ Inv (step s i x) (i + 1))
    (hfin : ∀ s, Inv s l.length → f (mk s (l.length : Int)) = some (.inr (fin s))) (s : σ) (h0 : Inv s 0) : ∃ t, Inv t l.length ∧ Loop f (mk s 0) = some (fin t) ∧ t = (l.zipIdx).foldl (fun a p => step a p.2 p.1) s := by
  have key : ∀ (rest pre : List α) (s : σ), l = pre ++ rest → Inv s pre.length → ∃ t, Inv t l.length ∧ Loop f (mk s (pre.length : Int)) = some (fin t) ∧ t = (rest.zipIdx pre.length).foldl (fun a p => step a p.2 p.1) s := by
    intro rest
    induction rest with
    | nil =>
      intro pre s hl2 hI
      rw [List.append_nil] at hl2
      subst hl2
      exact ⟨s, hI, by rw [Loop_eq, hfin s hI]; rfl, rfl⟩
    | cons x r ih =>
      intro pre s hl2 hI
      have hx : l[pre.length]? = some x := by rw [hl2]; simp
      have hlt := getElem?_lt hx
      obtain ⟨h1, h2⟩ := hstep s pre.length x hx hlt (iadd_one (by omega)) hI
      obtain ⟨t, t1, t2, t3⟩ := ih (pre ++ [x]) (step s pre.length x) (by rw [hl2]; simp) (by rw [List.length_append]; exact h2)
      rw [List.length_append] at t2 t3
      exact ⟨t, t1, by rw [Loop_eq, h1]; exact t2, t3⟩
  exact key l [] s rfl h0

theorem fits_len {α : Type} {l : List α} (h : l.length ≤ 4294967296) : fits (len l) = true := fits_nat' h
theorem mem_at {α : Type} {l : List α} {x : α} : x ∈ l ↔ ∃ i : Nat, l[i]? = some x := by rw [List.mem_iff_getElem?]
end Go.Ge

/- SHA-256 in plain words: rotations, the words of a block, the rounds. -/
namespace Go.Ge
set_option linter.unusedVariables false
set_option linter.unusedSimpArgs false

def rot (n x : Int) : Int := ior .u32 (ishr .u32 x n) (ishl .u32 x (32 - n))

theorem right_of {n m : Int} (h : iand .u64 (icv .u64 (isub .i64 0 n)) 31 = m) (h1 : ltI m 0 = false) (h2 : isub .u64 32 m = n) (h3 : ltI n 0 = false) (h4 : 32 - n = m) (x : Int) : P_sha_right (x, (n, ())) = some (rot n x, ()) := by
  unfold P_sha_right P_math_bits_RotateLeft32 rot
  dsimp only
  rw [h, h1, sel_false, h2, h3, sel_false, obind_some, h4, ior_comm32]
theorem turn_of {n : Int} (h1 : ltI n 0 = false) (h2 : isub .i64 32 n = 32 - n) (h3 : ltI (32 - n) 0 = false) (x : Int) : P_ref02_turn (x, (n, ())) = some (rot n x, ()) := by
  unfold P_ref02_turn rot
  dsimp only
  rw [h1, sel_false, h2, h3, sel_false]

theorem r2 (x : Int) : P_sha_right (x, (2, ())) = some (rot 2 x, ()) := right_of (m := 30) (by decide) (by decide) (by decide) (by decide) (by decide) x
theorem t2 (x : Int) : P_ref02_turn (x, (2, ())) = some (rot 2 x, ()) := turn_of (by decide) (by decide) (by decide) x
/-! ### The words of a block -/
def word (b : List Int) (t : Nat) : Int :=
  ior .u32 (ior .u32 (ior .u32 (ishl .u32 (icv .u32 (b.getD (4 * t) 0)) 24) (ishl .u32 (icv .u32 (b.getD (4 * t + 1) 0)) 16)) (ishl .u32 (icv .u32 (b.getD (4 * t + 2) 0)) 8)) (icv .u32 (b.getD (4 * t + 3) 0))
def zeros (n : Nat) : List Int := List.replicate n 0
def fillW (b : List Int) : Nat → List Int
  | 0 => zeros 64
  | t + 1 => (fillW b t).set t (word b t)
def nextW (p : List Int) (t : Nat) : Int :=
  iadd .u32 (iadd .u32 (iadd .u32 (ixor .u32 (ixor .u32 (rot 17 (p.getD (t - 2) 0)) (rot 19 (p.getD (t - 2) 0))) (ishr .u32 (p.getD (t - 2) 0) 10)) (p.getD (t - 7) 0))
    (ixor .u32 (ixor .u32 (rot 7 (p.getD (t - 15) 0)) (rot 18 (p.getD (t - 15) 0))) (ishr .u32 (p.getD (t - 15) 0) 3))) (p.getD (t - 16) 0)
def extW (l : List Int) : Nat → List Int
  | 0 => l
  | k + 1 => (extW l k).set (16 + k) (nextW (extW l k) (16 + k))
def schedW (b : List Int) : List Int := extW (fillW b 16) 48
/-! ### The same of the reference -/
/-! ### The rounds -/
abbrev W8 := Int × Int × Int × Int × Int × Int × Int × Int
def rnd (k w : Int) : W8 → W8
  | (a, b, c, d, e, f, g, h) =>
    let one := iadd .u32 (iadd .u32 (iadd .u32 (iadd .u32 h (ixor .u32 (ixor .u32 (rot 6 e) (rot 11 e)) (rot 25 e))) (ixor .u32 g (iand .u32 e (ixor .u32 f g)))) k) w
    let two := iadd .u32 (ixor .u32 (ixor .u32 (rot 2 a) (rot 13 a)) (rot 22 a)) (ior .u32 (iand .u32 a b) (iand .u32 c (ior .u32 a b)))
    (iadd .u32 one two, a, b, c, iadd .u32 d one, e, f, g)
def rnds (K w : List Int) (s : W8) : Nat → W8
  | 0 => s
  | t + 1 => rnd (K.getD t 0) (w.getD t 0) (rnds K w s t)
def K256 : List Int := [1116352408, 1899447441, 3049323471, 3921009573, 961987163, 1508970993, 2453635748, 2870763221, 3624381080, 310598401, 607225278, 1426881987, 1925078388, 2162078206, 2614888103, 3248222580, 3835390401, 4022224774, 264347078, 604807628, 770255983, 1249150122, 1555081692, 1996064986, 2554220882, 2821834349, 2952996808, 3210313671, 3336571891, 3584528711, 113926993, 338241895, 666307205, 773529912, 1294757372, 1396182291, 1695183700, 1986661051, 2177026350, 2456956037, 2730485921, 2820302411, 3259730800, 3345764771, 3516065817, 3600352804, 4094571909, 275423344, 430227734, 506948616, 659060556, 883997877, 958139571, 1322822218, 1537002063, 1747873779, 1955562222, 2024104815, 2227730452, 2361852424, 2428436474, 2756734187, 3204031479, 3329325298]
def list8 (s : W8) : List Int := [s.1, s.2.1, s.2.2.1, s.2.2.2.1, s.2.2.2.2.1, s.2.2.2.2.2.1, s.2.2.2.2.2.2.1, s.2.2.2.2.2.2.2]

/-! ### A block -/
def of8 (l : List Int) : W8 := (l.getD 0 0, l.getD 1 0, l.getD 2 0, l.getD 3 0, l.getD 4 0, l.getD 5 0, l.getD 6 0, l.getD 7 0)
def addW (l m : List Int) : Nat → List Int
  | 0 => l
  | i + 1 => (addW l m i).set i (iadd .u32 (l.getD i 0) (m.getD i 0))
def comp (h b : List Int) : List Int := addW h (list8 (rnds K256 (schedW b) (of8 h) 64)) 8
end Go.Ge

/- SHA-256 in plain words: streams. -/
namespace Go.Ge
set_option linter.unusedVariables false
set_option linter.unusedSimpArgs false

def H0 : List Int := [1779033703, 3144134277, 1013904242, 2773480762, 1359893119, 2600822924, 528734635, 1541459225]
def hsB (all : List UInt8) : Nat → List Int
  | 0 => H0
  | k + 1 => comp (hsB all k) (bytesInts ((all.drop (64 * k)).take 64))
abbrev Strm := (Bool × List Int × Unit) × List Int × Int × Unit

def Inv (st : Strm) (all : List UInt8) : Prop :=
  ∃ wait, st = ((decide (64 ≤ all.length), (if 64 ≤ all.length then hsB all (all.length / 64) else zeros 8), ()), wait, (all.length : Int), ()) ∧ wait.length = 64 ∧ wait.take (all.length % 64) = bytesInts (all.drop (64 * (all.length / 64)))

theorem bytesInts_app (a b : List UInt8) : bytesInts (a ++ b) = bytesInts a ++ bytesInts b := by simp [bytesInts]
theorem bytesInts_take (a : List UInt8) (n : Nat) : (bytesInts a).take n = bytesInts (a.take n) := by simp [bytesInts, List.map_take]
theorem length_bytes (a : List UInt8) : (bytesInts a).length = a.length := by simp [bytesInts]

end Go.Ge

/- SHA-256 in plain words: sums, the program's and the reference's. -/
namespace Go.Ge
set_option linter.unusedVariables false
set_option linter.unusedSimpArgs false

/-! ### What stands behind the bytes -/
def zs (n : Nat) : Nat := (119 - n % 64) % 64
/-! ### The reference -/
/-! ### The bytes of the sum -/
/-! ### The program -/
end Go.Ge

/- The laws of layer 02 in plain words. -/
namespace Go.Ge
set_option linter.unusedVariables false
set_option linter.unusedSimpArgs false

abbrev PartS := (Bool × List UInt8 × Int × Unit) × Strm × Strm × Unit

end Go.Ge

/- Bytes as hexadecimal digits, and back, in plain words. -/
namespace Go.Ge
set_option linter.unusedVariables false
set_option linter.unusedSimpArgs false

def hexT : List UInt8 := [48, 49, 50, 51, 52, 53, 54, 55, 56, 57, 97, 98, 99, 100, 101, 102]
def hx (n : Nat) : UInt8 := hexT.getD n 0
theorem idx_bytes (s : List UInt8) {k : Nat} (h : k < s.length) : idx (bytesInts s) (k : Int) = some (u8 s[k]) := by
  rw [idx_nat]; simp [bytesInts, u8, h]
theorem len_bytes (s : List UInt8) : len (bytesInts s) = (s.length : Int) := by simp [len, bytesInts]
/-! ### The reference's digits -/
end Go.Ge

/- Pairs of hexadecimal digits as bytes, in plain words. -/
namespace Go.Ge
set_option linter.unusedVariables false
set_option linter.unusedSimpArgs false

def hv (c : UInt8) : Int := Lib.indexByte hexT c
theorem u8_inj {a b : UInt8} (h : u8 a = u8 b) : a = b := by
  have : a.toNat = b.toNat := by unfold u8 at h; omega
  exact UInt8.toNat_inj.1 this

theorem sub_tail (l : List UInt8) (k : Nat) (h : k ≤ l.length) : sub l (k : Int) (minus (len l) (k : Int)) = l.drop k := by
  unfold sub minus len
  rw [Int.toNat_natCast, List.take_of_length_le (by rw [List.length_drop]; omega)]

end Go.Ge

/- Pairs of hexadecimal digits as bytes: the reference. -/
namespace Go.Ge
set_option linter.unusedVariables false
set_option linter.unusedSimpArgs false

theorem iadd_nat {a b : Nat} (h : a + b < 4611686018427387904) : iadd .i64 (a : Int) (b : Int) = ((a + b : Nat) : Int) := by
  rw [iadd_i64 (by omega) (by omega)]; omega

end Go.Ge

/- Digests in plain words. -/
namespace Go.Ge
set_option linter.unusedVariables false
set_option linter.unusedSimpArgs false

theorem sub_head (l : List UInt8) (k : Nat) : sub l 0 (minus (k : Int) 0) = l.take k := by
  unfold sub minus
  rw [show ((0 : Int).toNat) = 0 from rfl, List.drop_zero, Int.sub_zero, Int.toNat_natCast]

end Go.Ge

/- Octal digits in plain words. -/
namespace Go.Ge
set_option linter.unusedVariables false
set_option linter.unusedSimpArgs false

def octD (n k : Nat) : UInt8 := UInt8.ofNat (48 + n / 8 ^ k % 8)
def octF (n : Nat) : Nat → List UInt8
  | 0 => []
  | k + 1 => octD n k :: octF n k
end Go.Ge
