/- Plain laws of what the functions compute: part 1. -/
import Derived.Test.YthhkijiamblgaaaGeK
import Derived.Lib.Repeat
/- What some functions of the library compute, as plain programs. -/
namespace Go.Ge
abbrev Sb := List UInt8
set_option linter.unusedSectionVars false
variable [Lp]

end Go.Ge

/- What the functions of layer 11 compute, as plain programs (written by a program from what the ghost interpreter comes to). -/
namespace Go.Ge
set_option linter.unusedVariables false
set_option linter.unusedSectionVars false
variable [Lp]
set_option maxRecDepth 100000

abbrev S1x0 := (Bool × Int × Int × Unit)
abbrev S1x1 := (Bool × Int × Unit)
abbrev S1x2 := (Int × Int × Unit)
noncomputable def P_law11_awake (x : Unit) : Option (Bool × Unit) := some (true, ())

noncomputable def P_ref09_SameInts_L0 (x : (List (Int)) × (List (Int)) × Unit) (y1 : S1x1 × Unit) : Option ((S1x1 × Unit) ⊕ (Nat × S1x1 × Unit)) :=
  sel (sel (ltI y1.1.2.1 (@len Int x.1))
  (ltI y1.1.2.1 (@len Int x.2.1))
  false)
  (obind (@idx Int x.1 y1.1.2.1) (fun (y2 : Int) => obind (@idx Int x.2.1 y1.1.2.1) (fun (y3 : Int) => sel (nt (eqI y2 y3))
  (some (Sum.inr ((1 : Nat), ((false, (y1.1.2.1, ())), ())) : ((S1x1 × Unit)) ⊕ ((Nat × S1x1 × Unit))))
  (some (Sum.inl ((y1.1.1, (iadd IntKind.i64 y1.1.2.1 (1 : Int), ())), ()) : ((S1x1 × Unit)) ⊕ ((Nat × S1x1 × Unit)))))))
  (some (Sum.inr ((0 : Nat), ((y1.1.1, (y1.1.2.1, ())), ())) : ((S1x1 × Unit)) ⊕ ((Nat × S1x1 × Unit))))

noncomputable def P_ref09_SameInts (x : (List (Int)) × (List (Int)) × Unit) : Option (Bool × Unit) :=
  sel (nt (eqI (@len Int x.1) (@len Int x.2.1)))
  (some (false, ()))
  (obind (Loop (P_ref09_SameInts_L0 x) ((false, ((0 : Int), ())), ())) (fun (y1 : Nat × S1x1 × Unit) => sel (eqN y1.1 (0 : Nat))
  (some (true, ()))
  (some (y1.2.1.1, ()))))

noncomputable def P_math_bits_Len32 (x : Int × Unit) : Option (Int × Unit) :=
  obind (sel (leI (65536 : Int) x.1)
  (some ((ishr IntKind.u32 x.1 (16 : Int), ((16 : Int), ())), ()))
  (some ((x.1, ((0 : Int), ())), ()))) (fun (y1 : S1x2 × Unit) => obind (sel (leI (256 : Int) y1.1.1)
  (some ((ishr IntKind.u32 y1.1.1 (8 : Int), (iadd IntKind.i64 y1.1.2.1 (8 : Int), ())), ()))
  (some ((y1.1.1, (y1.1.2.1, ())), ()))) (fun (y2 : S1x2 × Unit) => obind (@idx UInt8 ([(0 : UInt8), (1 : UInt8), (2 : UInt8), (2 : UInt8), (3 : UInt8), (3 : UInt8), (3 : UInt8), (3 : UInt8), (4 : UInt8), (4 : UInt8), (4 : UInt8), (4 : UInt8), (4 : UInt8), (4 : UInt8), (4 : UInt8), (4 : UInt8), (5 : UInt8), (5 : UInt8), (5 : UInt8), (5 : UInt8), (5 : UInt8), (5 : UInt8), (5 : UInt8), (5 : UInt8), (5 : UInt8), (5 : UInt8), (5 : UInt8), (5 : UInt8), (5 : UInt8), (5 : UInt8), (5 : UInt8), (5 : UInt8), (6 : UInt8), (6 : UInt8), (6 : UInt8), (6 : UInt8), (6 : UInt8), (6 : UInt8), (6 : UInt8), (6 : UInt8), (6 : UInt8), (6 : UInt8), (6 : UInt8), (6 : UInt8), (6 : UInt8), (6 : UInt8), (6 : UInt8), (6 : UInt8), (6 : UInt8), (6 : UInt8), (6 : UInt8), (6 : UInt8), (6 : UInt8), (6 : UInt8), (6 : UInt8), (6 : UInt8), (6 : UInt8), (6 : UInt8), (6 : UInt8), (6 : UInt8), (6 : UInt8), (6 : UInt8), (6 : UInt8), (6 : UInt8), (7 : UInt8), (7 : UInt8), (7 : UInt8), (7 : UInt8), (7 : UInt8), (7 : UInt8), (7 : UInt8), (7 : UInt8), (7 : UInt8), (7 : UInt8), (7 : UInt8), (7 : UInt8), (7 : UInt8), (7 : UInt8), (7 : UInt8), (7 : UInt8), (7 : UInt8), (7 : UInt8), (7 : UInt8), (7 : UInt8), (7 : UInt8), (7 : UInt8), (7 : UInt8), (7 : UInt8), (7 : UInt8), (7 : UInt8), (7 : UInt8), (7 : UInt8), (7 : UInt8), (7 : UInt8), (7 : UInt8), (7 : UInt8), (7 : UInt8), (7 : UInt8), (7 : UInt8), (7 : UInt8), (7 : UInt8), (7 : UInt8), (7 : UInt8), (7 : UInt8), (7 : UInt8), (7 : UInt8), (7 : UInt8), (7 : UInt8), (7 : UInt8), (7 : UInt8), (7 : UInt8), (7 : UInt8), (7 : UInt8), (7 : UInt8), (7 : UInt8), (7 : UInt8), (7 : UInt8), (7 : UInt8), (7 : UInt8), (7 : UInt8), (7 : UInt8), (7 : UInt8), (7 : UInt8), (7 : UInt8), (7 : UInt8), (7 : UInt8), (7 : UInt8), (7 : UInt8), (8 : UInt8), (8 : UInt8), (8 : UInt8), (8 : UInt8), (8 : UInt8), (8 : UInt8), (8 : UInt8), (8 : UInt8), (8 : UInt8), (8 : UInt8), (8 : UInt8), (8 : UInt8), (8 : UInt8), (8 : UInt8), (8 : UInt8), (8 : UInt8), (8 : UInt8), (8 : UInt8), (8 : UInt8), (8 : UInt8), (8 : UInt8), (8 : UInt8), (8 : UInt8), (8 : UInt8), (8 : UInt8), (8 : UInt8), (8 : UInt8), (8 : UInt8), (8 : UInt8), (8 : UInt8), (8 : UInt8), (8 : UInt8), (8 : UInt8), (8 : UInt8), (8 : UInt8), (8 : UInt8), (8 : UInt8), (8 : UInt8), (8 : UInt8), (8 : UInt8), (8 : UInt8), (8 : UInt8), (8 : UInt8), (8 : UInt8), (8 : UInt8), (8 : UInt8), (8 : UInt8), (8 : UInt8), (8 : UInt8), (8 : UInt8), (8 : UInt8), (8 : UInt8), (8 : UInt8), (8 : UInt8), (8 : UInt8), (8 : UInt8), (8 : UInt8), (8 : UInt8), (8 : UInt8), (8 : UInt8), (8 : UInt8), (8 : UInt8), (8 : UInt8), (8 : UInt8), (8 : UInt8), (8 : UInt8), (8 : UInt8), (8 : UInt8), (8 : UInt8), (8 : UInt8), (8 : UInt8), (8 : UInt8), (8 : UInt8), (8 : UInt8), (8 : UInt8), (8 : UInt8), (8 : UInt8), (8 : UInt8), (8 : UInt8), (8 : UInt8), (8 : UInt8), (8 : UInt8), (8 : UInt8), (8 : UInt8), (8 : UInt8), (8 : UInt8), (8 : UInt8), (8 : UInt8), (8 : UInt8), (8 : UInt8), (8 : UInt8), (8 : UInt8), (8 : UInt8), (8 : UInt8), (8 : UInt8), (8 : UInt8), (8 : UInt8), (8 : UInt8), (8 : UInt8), (8 : UInt8), (8 : UInt8), (8 : UInt8), (8 : UInt8), (8 : UInt8), (8 : UInt8), (8 : UInt8), (8 : UInt8), (8 : UInt8), (8 : UInt8), (8 : UInt8), (8 : UInt8), (8 : UInt8), (8 : UInt8), (8 : UInt8), (8 : UInt8), (8 : UInt8), (8 : UInt8), (8 : UInt8), (8 : UInt8), (8 : UInt8), (8 : UInt8), (8 : UInt8), (8 : UInt8), (8 : UInt8), (8 : UInt8), (8 : UInt8), (8 : UInt8), (8 : UInt8)] : List (UInt8)) (icv IntKind.u8 y2.1.1)) (fun (y3 : UInt8) => some (iadd IntKind.i64 y2.1.2.1 (icv IntKind.i64 (u8 y3)), ()))))

noncomputable def P_math_bits_Len64 (x : Int × Unit) : Option (Int × Unit) :=
  obind (sel (leI (4294967296 : Int) x.1)
  (some ((ishr IntKind.u64 x.1 (32 : Int), ((32 : Int), ())), ()))
  (some ((x.1, ((0 : Int), ())), ()))) (fun (y1 : S1x2 × Unit) => obind (sel (leI (65536 : Int) y1.1.1)
  (some ((ishr IntKind.u64 y1.1.1 (16 : Int), (iadd IntKind.i64 y1.1.2.1 (16 : Int), ())), ()))
  (some ((y1.1.1, (y1.1.2.1, ())), ()))) (fun (y2 : S1x2 × Unit) => obind (sel (leI (256 : Int) y2.1.1)
  (some ((ishr IntKind.u64 y2.1.1 (8 : Int), (iadd IntKind.i64 y2.1.2.1 (8 : Int), ())), ()))
  (some ((y2.1.1, (y2.1.2.1, ())), ()))) (fun (y3 : S1x2 × Unit) => obind (@idx UInt8 ([(0 : UInt8), (1 : UInt8), (2 : UInt8), (2 : UInt8), (3 : UInt8), (3 : UInt8), (3 : UInt8), (3 : UInt8), (4 : UInt8), (4 : UInt8), (4 : UInt8), (4 : UInt8), (4 : UInt8), (4 : UInt8), (4 : UInt8), (4 : UInt8), (5 : UInt8), (5 : UInt8), (5 : UInt8), (5 : UInt8), (5 : UInt8), (5 : UInt8), (5 : UInt8), (5 : UInt8), (5 : UInt8), (5 : UInt8), (5 : UInt8), (5 : UInt8), (5 : UInt8), (5 : UInt8), (5 : UInt8), (5 : UInt8), (6 : UInt8), (6 : UInt8), (6 : UInt8), (6 : UInt8), (6 : UInt8), (6 : UInt8), (6 : UInt8), (6 : UInt8), (6 : UInt8), (6 : UInt8), (6 : UInt8), (6 : UInt8), (6 : UInt8), (6 : UInt8), (6 : UInt8), (6 : UInt8), (6 : UInt8), (6 : UInt8), (6 : UInt8), (6 : UInt8), (6 : UInt8), (6 : UInt8), (6 : UInt8), (6 : UInt8), (6 : UInt8), (6 : UInt8), (6 : UInt8), (6 : UInt8), (6 : UInt8), (6 : UInt8), (6 : UInt8), (6 : UInt8), (7 : UInt8), (7 : UInt8), (7 : UInt8), (7 : UInt8), (7 : UInt8), (7 : UInt8), (7 : UInt8), (7 : UInt8), (7 : UInt8), (7 : UInt8), (7 : UInt8), (7 : UInt8), (7 : UInt8), (7 : UInt8), (7 : UInt8), (7 : UInt8), (7 : UInt8), (7 : UInt8), (7 : UInt8), (7 : UInt8), (7 : UInt8), (7 : UInt8), (7 : UInt8), (7 : UInt8), (7 : UInt8), (7 : UInt8), (7 : UInt8), (7 : UInt8), (7 : UInt8), (7 : UInt8), (7 : UInt8), (7 : UInt8), (7 : UInt8), (7 : UInt8), (7 : UInt8), (7 : UInt8), (7 : UInt8), (7 : UInt8), (7 : UInt8), (7 : UInt8), (7 : UInt8), (7 : UInt8), (7 : UInt8), (7 : UInt8), (7 : UInt8), (7 : UInt8), (7 : UInt8), (7 : UInt8), (7 : UInt8), (7 : UInt8), (7 : UInt8), (7 : UInt8), (7 : UInt8), (7 : UInt8), (7 : UInt8), (7 : UInt8), (7 : UInt8), (7 : UInt8), (7 : UInt8), (7 : UInt8), (7 : UInt8), (7 : UInt8), (7 : UInt8), (7 : UInt8), (8 : UInt8), (8 : UInt8), (8 : UInt8), (8 : UInt8), (8 : UInt8), (8 : UInt8), (8 : UInt8), (8 : UInt8), (8 : UInt8), (8 : UInt8), (8 : UInt8), (8 : UInt8), (8 : UInt8), (8 : UInt8), (8 : UInt8), (8 : UInt8), (8 : UInt8), (8 : UInt8), (8 : UInt8), (8 : UInt8), (8 : UInt8), (8 : UInt8), (8 : UInt8), (8 : UInt8), (8 : UInt8), (8 : UInt8), (8 : UInt8), (8 : UInt8), (8 : UInt8), (8 : UInt8), (8 : UInt8), (8 : UInt8), (8 : UInt8), (8 : UInt8), (8 : UInt8), (8 : UInt8), (8 : UInt8), (8 : UInt8), (8 : UInt8), (8 : UInt8), (8 : UInt8), (8 : UInt8), (8 : UInt8), (8 : UInt8), (8 : UInt8), (8 : UInt8), (8 : UInt8), (8 : UInt8), (8 : UInt8), (8 : UInt8), (8 : UInt8), (8 : UInt8), (8 : UInt8), (8 : UInt8), (8 : UInt8), (8 : UInt8), (8 : UInt8), (8 : UInt8), (8 : UInt8), (8 : UInt8), (8 : UInt8), (8 : UInt8), (8 : UInt8), (8 : UInt8), (8 : UInt8), (8 : UInt8), (8 : UInt8), (8 : UInt8), (8 : UInt8), (8 : UInt8), (8 : UInt8), (8 : UInt8), (8 : UInt8), (8 : UInt8), (8 : UInt8), (8 : UInt8), (8 : UInt8), (8 : UInt8), (8 : UInt8), (8 : UInt8), (8 : UInt8), (8 : UInt8), (8 : UInt8), (8 : UInt8), (8 : UInt8), (8 : UInt8), (8 : UInt8), (8 : UInt8), (8 : UInt8), (8 : UInt8), (8 : UInt8), (8 : UInt8), (8 : UInt8), (8 : UInt8), (8 : UInt8), (8 : UInt8), (8 : UInt8), (8 : UInt8), (8 : UInt8), (8 : UInt8), (8 : UInt8), (8 : UInt8), (8 : UInt8), (8 : UInt8), (8 : UInt8), (8 : UInt8), (8 : UInt8), (8 : UInt8), (8 : UInt8), (8 : UInt8), (8 : UInt8), (8 : UInt8), (8 : UInt8), (8 : UInt8), (8 : UInt8), (8 : UInt8), (8 : UInt8), (8 : UInt8), (8 : UInt8), (8 : UInt8), (8 : UInt8), (8 : UInt8), (8 : UInt8), (8 : UInt8), (8 : UInt8), (8 : UInt8), (8 : UInt8), (8 : UInt8)] : List (UInt8)) (icv IntKind.u8 y3.1.1)) (fun (y4 : UInt8) => some (iadd IntKind.i64 y3.1.2.1 (icv IntKind.i64 (u8 y4)), ())))))

noncomputable def P_math_bits_Len (x : Int × Unit) : Option (Int × Unit) :=
  obind (P_math_bits_Len64 (x.1, ())) (fun (y1 : Int × Unit) => some (y1.1, ()))

noncomputable def P_cmp_isNaN_int (x : Int × Unit) : Option (Bool × Unit) :=
  some (nt (eqI x.1 x.1), ())

noncomputable def P_cmp_Less_int (x : Int × Int × Unit) : Option (Bool × Unit) :=
  obind (P_cmp_isNaN_int (x.1, ())) (fun (y1 : Bool × Unit) => obind (sel y1.1
  (obind (P_cmp_isNaN_int (x.2.1, ())) (fun (y2 : Bool × Unit) => some (nt y2.1)))
  (some false)) (fun (y2 : Bool) => some (sel (nt y2)
  (ltI x.1 x.2.1)
  true, ())))

noncomputable def P_slices_order2Ordered_int (x : ((List (Int)) × Int × Int × Unit) × Int × Unit) : Option (S1x2 × Int × Unit) :=
  obind (@idx Int x.1.1 x.1.2.2.1) (fun (y1 : Int) => obind (@idx Int x.1.1 x.1.2.1) (fun (y2 : Int) => obind (P_cmp_Less_int (y1, (y2, ()))) (fun (y3 : Bool × Unit) => sel y3.1
  (some ((x.1.2.2.1, (x.1.2.1, ())), (iadd IntKind.i64 x.2.1 (1 : Int), ())))
  (some ((x.1.2.1, (x.1.2.2.1, ())), (x.2.1, ()))))))

noncomputable def P_slices_medianOrdered_int (x : ((List (Int)) × Int × Int × Int × Unit) × Int × Unit) : Option ((Int × Unit) × Int × Unit) :=
  obind (P_slices_order2Ordered_int ((x.1.1, (x.1.2.1, (x.1.2.2.1, ()))), (x.2.1, ()))) (fun (y1 : S1x2 × Int × Unit) => obind (P_slices_order2Ordered_int ((x.1.1, (y1.1.2.1, (x.1.2.2.2.1, ()))), (y1.2.1, ()))) (fun (y2 : S1x2 × Int × Unit) => obind (P_slices_order2Ordered_int ((x.1.1, (y1.1.1, (y2.1.1, ()))), (y2.2.1, ()))) (fun (y3 : S1x2 × Int × Unit) => some ((y3.1.2.1, ()), (y3.2.1, ())))))

noncomputable def P_slices_medianAdjacentOrdered_int (x : ((List (Int)) × Int × Unit) × Int × Unit) : Option ((Int × Unit) × Int × Unit) :=
  obind (P_slices_medianOrdered_int ((x.1.1, (isub IntKind.i64 x.1.2.1 (1 : Int), (x.1.2.1, (iadd IntKind.i64 x.1.2.1 (1 : Int), ())))), (x.2.1, ()))) (fun (y1 : (Int × Unit) × Int × Unit) => some ((y1.1.1, ()), (y1.2.1, ())))

noncomputable def P_slices_choosePivotOrdered_int (x : (List (Int)) × Int × Int × Unit) : Option S1x2 :=
  obind (sel (leI (8 : Int) (isub IntKind.i64 x.2.2.1 x.2.1))
  (obind (sel (leI (50 : Int) (isub IntKind.i64 x.2.2.1 x.2.1))
  (obind (P_slices_medianAdjacentOrdered_int ((x.1, (iadd IntKind.i64 x.2.1 (imul IntKind.i64 (iquo IntKind.i64 (isub IntKind.i64 x.2.2.1 x.2.1) (4 : Int)) (1 : Int)), ())), ((0 : Int), ()))) (fun (y1 : (Int × Unit) × Int × Unit) => obind (P_slices_medianAdjacentOrdered_int ((x.1, (iadd IntKind.i64 x.2.1 (imul IntKind.i64 (iquo IntKind.i64 (isub IntKind.i64 x.2.2.1 x.2.1) (4 : Int)) (2 : Int)), ())), (y1.2.1, ()))) (fun (y2 : (Int × Unit) × Int × Unit) => obind (P_slices_medianAdjacentOrdered_int ((x.1, (iadd IntKind.i64 x.2.1 (imul IntKind.i64 (iquo IntKind.i64 (isub IntKind.i64 x.2.2.1 x.2.1) (4 : Int)) (3 : Int)), ())), (y2.2.1, ()))) (fun (y3 : (Int × Unit) × Int × Unit) => some ((y1.1.1, (y2.1.1, (y3.1.1, ()))), (y3.2.1, ()))))))
  (some ((iadd IntKind.i64 x.2.1 (imul IntKind.i64 (iquo IntKind.i64 (isub IntKind.i64 x.2.2.1 x.2.1) (4 : Int)) (1 : Int)), (iadd IntKind.i64 x.2.1 (imul IntKind.i64 (iquo IntKind.i64 (isub IntKind.i64 x.2.2.1 x.2.1) (4 : Int)) (2 : Int)), (iadd IntKind.i64 x.2.1 (imul IntKind.i64 (iquo IntKind.i64 (isub IntKind.i64 x.2.2.1 x.2.1) (4 : Int)) (3 : Int)), ()))), ((0 : Int), ())))) (fun (y1 : (Int × Int × Int × Unit) × Int × Unit) => obind (P_slices_medianOrdered_int ((x.1, (y1.1.1, (y1.1.2.1, (y1.1.2.2.1, ())))), (y1.2.1, ()))) (fun (y2 : (Int × Unit) × Int × Unit) => some ((y2.1.1, ()), (y2.2.1, ())))))
  (some ((iadd IntKind.i64 x.2.1 (imul IntKind.i64 (iquo IntKind.i64 (isub IntKind.i64 x.2.2.1 x.2.1) (4 : Int)) (2 : Int)), ()), ((0 : Int), ())))) (fun (y1 : (Int × Unit) × Int × Unit) => sel (eqI y1.2.1 (0 : Int))
  (some (y1.1.1, ((1 : Int), ())))
  (sel (eqI y1.2.1 (12 : Int))
  (some (y1.1.1, ((2 : Int), ())))
  (some (y1.1.1, ((0 : Int), ())))))

noncomputable def P_slices_partialInsertionSortOrdered_int_L1 (x : (List (Int)) × Int × Int × Unit) (y2 : (Int × Unit) × Unit) : Option (((Int × Unit) × Unit) ⊕ ((Int × Unit) × Unit)) :=
  @way1 ((Int × Unit) × Unit) (sel (ltI y2.1.1 x.2.2.1)
  (obind (@idx Int x.1 y2.1.1) (fun (y3 : Int) => obind (@idx Int x.1 (isub IntKind.i64 y2.1.1 (1 : Int))) (fun (y4 : Int) => obind (P_cmp_Less_int (y3, (y4, ()))) (fun (y5 : Bool × Unit) => sel (nt y5.1)
  (some (Sum.inl ((iadd IntKind.i64 y2.1.1 (1 : Int), ()), ()) : (((Int × Unit) × Unit)) ⊕ ((Nat × (Int × Unit) × Unit))))
  (some (Sum.inr ((0 : Nat), ((y2.1.1, ()), ())) : (((Int × Unit) × Unit)) ⊕ ((Nat × (Int × Unit) × Unit))))))))
  (some (Sum.inr ((0 : Nat), ((y2.1.1, ()), ())) : (((Int × Unit) × Unit)) ⊕ ((Nat × (Int × Unit) × Unit)))))

noncomputable def P_slices_partialInsertionSortOrdered_int_L0 (x : (List (Int)) × Int × Int × Unit) (y1 : S1x0 × Unit) : Option ((S1x0 × Unit) ⊕ (Nat × S1x0 × Unit)) :=
  sel (ltI y1.1.2.2.1 (5 : Int))
  (obind (Loop (P_slices_partialInsertionSortOrdered_int_L1 x) ((y1.1.2.1, ()), ())) (fun (y2 : (Int × Unit) × Unit) => sel (eqI y2.1.1 x.2.2.1)
  (some (Sum.inr ((1 : Nat), ((true, (y2.1.1, (y1.1.2.2.1, ()))), ())) : ((S1x0 × Unit)) ⊕ ((Nat × S1x0 × Unit))))
  (sel (ltI (isub IntKind.i64 x.2.2.1 x.2.1) (50 : Int))
  (some (Sum.inr ((1 : Nat), ((false, (y2.1.1, (y1.1.2.2.1, ()))), ())) : ((S1x0 × Unit)) ⊕ ((Nat × S1x0 × Unit))))
  (obind (@idx Int x.1 (isub IntKind.i64 y2.1.1 (1 : Int))) (fun (y3 : Int) => obind (@idx Int x.1 y2.1.1) (fun (y4 : Int) => obind (@idx Int x.1 y2.1.1) (fun (y5 : Int) => none)))))))
  (some (Sum.inr ((0 : Nat), ((y1.1.1, (y1.1.2.1, (y1.1.2.2.1, ()))), ())) : ((S1x0 × Unit)) ⊕ ((Nat × S1x0 × Unit))))

noncomputable def P_slices_partialInsertionSortOrdered_int (x : (List (Int)) × Int × Int × Unit) : Option (Bool × Unit) :=
  obind (Loop (P_slices_partialInsertionSortOrdered_int_L0 x) ((false, (iadd IntKind.i64 x.2.1 (1 : Int), ((0 : Int), ()))), ())) (fun (y1 : Nat × S1x0 × Unit) => sel (eqN y1.1 (0 : Nat))
  (some (false, ()))
  (some (y1.2.1.1, ())))

noncomputable def P_slices_partitionEqualOrdered_int (x : (List (Int)) × Int × Int × Int × Unit) : Option (Int × Unit) :=
  obind (@idx Int x.1 x.2.2.2.1) (fun (y1 : Int) => obind (@idx Int x.1 x.2.1) (fun (y2 : Int) => obind (@idx Int x.1 x.2.1) (fun (y3 : Int) => none)))

noncomputable def P_slices_partitionOrdered_int (x : (List (Int)) × Int × Int × Int × Unit) : Option (Int × Bool × Unit) :=
  obind (@idx Int x.1 x.2.2.2.1) (fun (y1 : Int) => obind (@idx Int x.1 x.2.1) (fun (y2 : Int) => obind (@idx Int x.1 x.2.1) (fun (y3 : Int) => none)))

noncomputable def P_slices_nextPowerOfTwo (x : Int × Unit) : Option (Int × Unit) :=
  obind (P_math_bits_Len (icv IntKind.u64 x.1, ())) (fun (y1 : Int × Unit) => sel (ltI y1.1 (0 : Int))
  none
  (some (ishl IntKind.u64 (1 : Int) y1.1, ())))

noncomputable def P_slices_xorshift_Next (x : Unit × Int × Unit) : Option ((Int × Unit) × Int × Unit) :=
  some ((ixor IntKind.u64 (ixor IntKind.u64 (ixor IntKind.u64 x.2.1 (ishl IntKind.u64 x.2.1 (13 : Int))) (ishr IntKind.u64 (ixor IntKind.u64 x.2.1 (ishl IntKind.u64 x.2.1 (13 : Int))) (7 : Int))) (ishl IntKind.u64 (ixor IntKind.u64 (ixor IntKind.u64 x.2.1 (ishl IntKind.u64 x.2.1 (13 : Int))) (ishr IntKind.u64 (ixor IntKind.u64 x.2.1 (ishl IntKind.u64 x.2.1 (13 : Int))) (7 : Int))) (17 : Int)), ()), (ixor IntKind.u64 (ixor IntKind.u64 (ixor IntKind.u64 x.2.1 (ishl IntKind.u64 x.2.1 (13 : Int))) (ishr IntKind.u64 (ixor IntKind.u64 x.2.1 (ishl IntKind.u64 x.2.1 (13 : Int))) (7 : Int))) (ishl IntKind.u64 (ixor IntKind.u64 (ixor IntKind.u64 x.2.1 (ishl IntKind.u64 x.2.1 (13 : Int))) (ishr IntKind.u64 (ixor IntKind.u64 x.2.1 (ishl IntKind.u64 x.2.1 (13 : Int))) (7 : Int))) (17 : Int)), ()))

noncomputable def P_law11_ProcsNobody (x : (Int × Int × Int × Unit) × Unit) : Option (Bool × Unit) :=
  sel (eqI x.1.1 (1 : Int))
  (sel (eqI (@len Int ([] : List (Int))) (0 : Int))
  (obind (obind (P_law11_awake ()) (fun (y1 : Bool × Unit) => some y1.1)) (fun (y1 : Bool) => some (y1, ())))
  (some (false, ())))
  (sel (eqI x.1.1 (2 : Int))
  (sel (eqI (@len Int ([] : List (Int))) (0 : Int))
  (obind (obind (P_law11_awake ()) (fun (y1 : Bool × Unit) => some y1.1)) (fun (y1 : Bool) => some (y1, ())))
  (some (false, ())))
  (sel (eqI x.1.1 (3 : Int))
  (sel (sel (sel (sel (nt (ltI x.1.1 (1 : Int)))
  (ltI (2 : Int) x.1.1)
  true)
  true
  false)
  true
  false)
  (sel (eqI (@len Int ([] : List (Int))) (0 : Int))
  (obind (obind (P_law11_awake ()) (fun (y1 : Bool × Unit) => some y1.1)) (fun (y1 : Bool) => some (y1, ())))
  (some (false, ())))
  (some (false, ())))
  (sel (sel (sel (sel (nt (ltI x.1.1 (1 : Int)))
  (ltI (2 : Int) x.1.1)
  true)
  true
  false)
  true
  false)
  (sel (eqI (@len Int ([] : List (Int))) (0 : Int))
  (obind (obind (P_law11_awake ()) (fun (y1 : Bool × Unit) => some y1.1)) (fun (y1 : Bool) => some (y1, ())))
  (some (false, ())))
  (some (false, ())))))
end Go.Ge

/- Plain laws of numbers: sums that stay in range, bits of words. -/
namespace Go.Ge
set_option linter.unusedSectionVars false
variable [Lp]
set_option linter.unusedVariables false
set_option linter.unusedSimpArgs false

/-! ### Words of 32 bits -/
/-! ### Tests and places, decided -/
theorem ltI_true {a b : Int} (h : a < b) : ltI a b = true := by simp [ltI, h]
theorem ltI_false {a b : Int} (h : b ≤ a) : ltI a b = false := by simp [ltI]; omega
theorem eqI_false {a b : Int} (h : a ≠ b) : eqI a b = false := by simp [eqI, h]
end Go.Ge

/- Plain laws of loops that go through a list, of words in natural numbers. -/
namespace Go.Ge
set_option linter.unusedSectionVars false
variable [Lp]
set_option linter.unusedVariables false
set_option linter.unusedSimpArgs false

/-! ### Words in natural numbers -/
end Go.Ge

/- The order of texts; two lists gone through side by side. -/
namespace Go.Ge
set_option linter.unusedSectionVars false
variable [Lp]
set_option linter.unusedVariables false
set_option linter.unusedSimpArgs false

/-! ### Side by side -/
end Go.Ge

/- Plain laws of loops that look for something in a list. -/
namespace Go.Ge
set_option linter.unusedSectionVars false
variable [Lp]
set_option linter.unusedVariables false
set_option linter.unusedSimpArgs false

end Go.Ge

/- A table that there is not: the law. -/
namespace Go.Ge
set_option linter.unusedSectionVars false
variable [Lp]

theorem procsNobody_val (x) : P_law11_ProcsNobody x = some (true, ()) := by
  unfold P_law11_ProcsNobody
  generalize x.1.1 = k
  have h0 : eqI (@len Int ([] : List (Int))) (0 : Int) = true := rfl
  have ha : P_law11_awake () = some (true, ()) := rfl
  simp only [h0, ha, obind_some, sel_true]
  by_cases h1 : k = 1
  · subst h1; rfl
  · rw [eqI_false h1, sel_false]
    by_cases h2 : k = 2
    · subst h2; rfl
    · rw [eqI_false h2, sel_false]
      have hk : sel (nt (ltI k (1 : Int))) (ltI (2 : Int) k) true = true := by
        by_cases h : k < 1
        · rw [ltI_true h]; rfl
        · rw [ltI_false (by omega), ltI_true (by omega)]; rfl
      simp only [hk, sel_true]
      cases eqI k 3 <;> rfl
end Go.Ge
