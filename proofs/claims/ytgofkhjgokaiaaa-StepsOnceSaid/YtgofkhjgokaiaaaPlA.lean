/- Plain laws of what the functions compute: part 1. -/
import Derived.Test.YtgofkhjgokaiaaaGeK
import Derived.Lib.Repeat
/- What some functions of the library compute, as plain programs. -/
namespace Go.Ge
abbrev Sb := List UInt8
set_option linter.unusedSectionVars false
variable [Lp]

end Go.Ge

/- What the functions of layer 26 compute, as plain programs (written by a program from what the ghost interpreter comes to). -/
namespace Go.Ge
set_option linter.unusedVariables false
set_option linter.unusedSectionVars false
variable [Lp]
set_option maxRecDepth 100000

abbrev S1x0 := (Bool × (List ((Int × Sb × Sb × Int × Int × Int × Sb × Int × Int × Unit) × (Int × Int × Sb × (List Sb) × Unit) × Unit)) × Int × Bool × Bool × (Int × Sb × Sb × Int × Int × Int × Sb × Int × Int × Unit) × Unit)
abbrev S1x1 := (Int × Int × Sb × (List Sb) × Unit)
abbrev S1x2 := (Int × Sb × Sb × Int × Int × Int × Sb × Int × Int × Unit)
noncomputable def P_steps_Run_isGiven (x : Unit × S1x0 × Unit) : Option ((Bool × Unit) × S1x0 × Unit) :=
  some ((x.2.1.1, ()), ((x.2.1.1, (x.2.1.2.1, (x.2.1.2.2.1, (x.2.1.2.2.2.1, (x.2.1.2.2.2.2.1, (x.2.1.2.2.2.2.2.1, ())))))), ()))

noncomputable def P_steps_Run_Begin (x : Unit × S1x0 × Unit) : Option (Unit × S1x0 × Unit) :=
  obind (P_steps_Run_isGiven ((), ((x.2.1.1, (x.2.1.2.1, (x.2.1.2.2.1, (x.2.1.2.2.2.1, (x.2.1.2.2.2.2.1, (x.2.1.2.2.2.2.2.1, ())))))), ()))) (fun y1 => some ((), (((((sel y1.1.1
  ((), ((y1.2.1.1, ((), ((0 : Int), (false, (false, (y1.2.1.2.2.2.2.2.1, ())))))), (y1.2.1.2.1, ())))
  ((), ((y1.2.1.1, ((), (y1.2.1.2.2.1, (y1.2.1.2.2.2.1, (y1.2.1.2.2.2.2.1, (y1.2.1.2.2.2.2.2.1, ())))))), (y1.2.1.2.1, ())))).2).1).1, ((((sel y1.1.1
  ((), ((y1.2.1.1, ((), ((0 : Int), (false, (false, (y1.2.1.2.2.2.2.2.1, ())))))), (y1.2.1.2.1, ())))
  ((), ((y1.2.1.1, ((), (y1.2.1.2.2.1, (y1.2.1.2.2.2.1, (y1.2.1.2.2.2.2.1, (y1.2.1.2.2.2.2.2.1, ())))))), (y1.2.1.2.1, ())))).2).2).1, ((((((sel y1.1.1
  ((), ((y1.2.1.1, ((), ((0 : Int), (false, (false, (y1.2.1.2.2.2.2.2.1, ())))))), (y1.2.1.2.1, ())))
  ((), ((y1.2.1.1, ((), (y1.2.1.2.2.1, (y1.2.1.2.2.2.1, (y1.2.1.2.2.2.2.1, (y1.2.1.2.2.2.2.2.1, ())))))), (y1.2.1.2.1, ())))).2).1).2).2).1, (((((((sel y1.1.1
  ((), ((y1.2.1.1, ((), ((0 : Int), (false, (false, (y1.2.1.2.2.2.2.2.1, ())))))), (y1.2.1.2.1, ())))
  ((), ((y1.2.1.1, ((), (y1.2.1.2.2.1, (y1.2.1.2.2.2.1, (y1.2.1.2.2.2.2.1, (y1.2.1.2.2.2.2.2.1, ())))))), (y1.2.1.2.1, ())))).2).1).2).2).2).1, ((((((((sel y1.1.1
  ((), ((y1.2.1.1, ((), ((0 : Int), (false, (false, (y1.2.1.2.2.2.2.2.1, ())))))), (y1.2.1.2.1, ())))
  ((), ((y1.2.1.1, ((), (y1.2.1.2.2.1, (y1.2.1.2.2.2.1, (y1.2.1.2.2.2.2.1, (y1.2.1.2.2.2.2.2.1, ())))))), (y1.2.1.2.1, ())))).2).1).2).2).2).2).1, (((((((((sel y1.1.1
  ((), ((y1.2.1.1, ((), ((0 : Int), (false, (false, (y1.2.1.2.2.2.2.2.1, ())))))), (y1.2.1.2.1, ())))
  ((), ((y1.2.1.1, ((), (y1.2.1.2.2.1, (y1.2.1.2.2.2.1, (y1.2.1.2.2.2.2.1, (y1.2.1.2.2.2.2.2.1, ())))))), (y1.2.1.2.1, ())))).2).1).2).2).2).2).2).1, ())))))), ())))

noncomputable def P_steps_Run_Want (x : Unit × S1x0 × Unit) : Option ((S1x2 × Bool × Unit) × S1x0 × Unit) :=
  obind (P_steps_Run_isGiven ((), ((x.2.1.1, (x.2.1.2.1, (x.2.1.2.2.1, (x.2.1.2.2.2.1, (x.2.1.2.2.2.2.1, (x.2.1.2.2.2.2.2.1, ())))))), ()))) (fun y1 => sel (sel (nt (nt y1.1.1))
  (nt y1.2.1.2.2.2.2.1)
  true)
  (some ((((0 : Int), (([] : List (UInt8)), (([] : List (UInt8)), ((0 : Int), ((0 : Int), ((0 : Int), (([] : List (UInt8)), ((0 : Int), ((0 : Int), ()))))))))), (false, ())), ((y1.2.1.1, (y1.2.1.2.1, (y1.2.1.2.2.1, (y1.2.1.2.2.2.1, (y1.2.1.2.2.2.2.1, (y1.2.1.2.2.2.2.2.1, ())))))), ())))
  (some ((y1.2.1.2.2.2.2.2.1, (true, ())), ((y1.2.1.1, (y1.2.1.2.1, (y1.2.1.2.2.1, (y1.2.1.2.2.2.1, (y1.2.1.2.2.2.2.1, (y1.2.1.2.2.2.2.2.1, ())))))), ()))))

noncomputable def P_slices_Clone_string_string (x : (List Sb) × Unit) : Option ((List Sb) × Unit) :=
  bif fits (len x.1) then some (x.1, ()) else none

noncomputable def P_steps_answer (x : S1x1 × Unit) : Option (S1x1 × Unit) :=
  obind (P_slices_Clone_string_string (x.1.2.2.2.1, ())) (fun y1 => some ((x.1.1, (x.1.2.1, (x.1.2.2.1, (y1.1, x.1.2.2.2.2)))), ()))

noncomputable def P_steps_Run_Give (x : (S1x1 × Unit) × S1x0 × Unit) : Option ((Int × Unit) × S1x0 × Unit) :=
  obind (P_steps_Run_Want ((), ((x.2.1.1, (x.2.1.2.1, (x.2.1.2.2.1, (x.2.1.2.2.2.1, (x.2.1.2.2.2.2.1, (x.2.1.2.2.2.2.2.1, ())))))), ()))) (fun y1 => sel (nt y1.1.2.1)
  (some (((1 : Int), ()), ((y1.2.1.1, (y1.2.1.2.1, (y1.2.1.2.2.1, (y1.2.1.2.2.2.1, (y1.2.1.2.2.2.2.1, (y1.2.1.2.2.2.2.2.1, ())))))), ())))
  (obind (P_steps_answer (x.1.1, ())) (fun y2 => sel (fits (plus (len y1.2.1.2.1) (len ([(y1.2.1.2.2.2.2.2.1, (y2.1, ()))] : List (S1x2 × S1x1 × Unit)))))
  (some (((0 : Int), ()), ((y1.2.1.1, (app y1.2.1.2.1 ([(y1.2.1.2.2.2.2.2.1, (y2.1, ()))] : List (S1x2 × S1x1 × Unit)), (y1.2.1.2.2.1, (y1.2.1.2.2.2.1, (false, (y1.2.1.2.2.2.2.2.1, ())))))), ())))
  none)))

noncomputable def P_steps_Run_Len (x : Unit × S1x0 × Unit) : Option ((Int × Unit) × S1x0 × Unit) :=
  some ((len x.2.1.2.1, ()), ((x.2.1.1, (x.2.1.2.1, (x.2.1.2.2.1, (x.2.1.2.2.2.1, (x.2.1.2.2.2.2.1, (x.2.1.2.2.2.2.2.1, ())))))), ()))

noncomputable def P_steps_pause (x : Unit) : Option (S1x1 × Unit) :=
  some (((14 : Int), ((0 : Int), (([] : List (UInt8)), (([] : List Sb), ())))), ())

noncomputable def P_steps_Run_Do (x : (S1x2 × Unit) × S1x0 × Unit) : Option ((S1x1 × Unit) × S1x0 × Unit) :=
  obind (P_steps_Run_isGiven ((), ((x.2.1.1, (x.2.1.2.1, (x.2.1.2.2.1, (x.2.1.2.2.2.1, (x.2.1.2.2.2.2.1, (x.2.1.2.2.2.2.2.1, ())))))), ()))) (fun y1 => sel (nt y1.1.1)
  (some ((((1 : Int), ((0 : Int), (([] : List (UInt8)), (([] : List Sb), ())))), ()), ((y1.2.1.1, (y1.2.1.2.1, (y1.2.1.2.2.1, (y1.2.1.2.2.2.1, (y1.2.1.2.2.2.2.1, (y1.2.1.2.2.2.2.2.1, ())))))), ())))
  (sel y1.2.1.2.2.2.1
  (obind (P_steps_pause ()) (fun y2 => some ((y2.1, ()), ((y1.2.1.1, (y1.2.1.2.1, (y1.2.1.2.2.1, (y1.2.1.2.2.2.1, (y1.2.1.2.2.2.2.1, (y1.2.1.2.2.2.2.2.1, ())))))), ()))))
  (sel (eqI y1.2.1.2.2.1 (len y1.2.1.2.1))
  (obind (P_steps_pause ()) (fun y2 => some ((y2.1, ()), ((y1.2.1.1, (y1.2.1.2.1, (y1.2.1.2.2.1, (true, (true, (x.1.1, ())))))), ()))))
  (sel (within y1.2.1.2.2.1 (len y1.2.1.2.1))
  (obind (idx y1.2.1.2.1 y1.2.1.2.2.1) (fun y2 => sel (nt (an (eqI y2.1.1 x.1.1.1) (an (eqS y2.1.2.1 x.1.1.2.1) (an (eqS y2.1.2.2.1 x.1.1.2.2.1) (an (eqI y2.1.2.2.2.1 x.1.1.2.2.2.1) (an (eqI y2.1.2.2.2.2.1 x.1.1.2.2.2.2.1) (an (eqI y2.1.2.2.2.2.2.1 x.1.1.2.2.2.2.2.1) (an (eqS y2.1.2.2.2.2.2.2.1 x.1.1.2.2.2.2.2.2.1) (an (eqI y2.1.2.2.2.2.2.2.2.1 x.1.1.2.2.2.2.2.2.2.1) (an (eqI y2.1.2.2.2.2.2.2.2.2.1 x.1.1.2.2.2.2.2.2.2.2.1) true))))))))))
  (some ((((1 : Int), ((0 : Int), (([] : List (UInt8)), (([] : List Sb), ())))), ()), ((y1.2.1.1, (y1.2.1.2.1, (y1.2.1.2.2.1, (y1.2.1.2.2.2.1, (y1.2.1.2.2.2.2.1, (y1.2.1.2.2.2.2.2.1, ())))))), ())))
  (sel (within (isub IntKind.i64 (iadd IntKind.i64 y1.2.1.2.2.1 1) 1) (len y1.2.1.2.1))
  (obind (idx y1.2.1.2.1 (isub IntKind.i64 (iadd IntKind.i64 y1.2.1.2.2.1 1) 1)) (fun y3 => obind (P_steps_answer (y3.2.1, ())) (fun y4 => some ((y4.1, ()), ((y1.2.1.1, (y1.2.1.2.1, (iadd IntKind.i64 y1.2.1.2.2.1 1, (y1.2.1.2.2.2.1, (y1.2.1.2.2.2.2.1, (y1.2.1.2.2.2.2.2.1, ())))))), ())))))
  none)))
  none))))

noncomputable def P_law26_awake (x : Unit) : Option (Bool × Unit) :=
  obind (P_steps_Run_Do ((((13 : Int), (([] : List (UInt8)), (([] : List (UInt8)), ((0 : Int), ((0 : Int), ((0 : Int), (([] : List (UInt8)), ((0 : Int), ((0 : Int), ()))))))))), ()), ((true, (([] : List (S1x2 × S1x1 × Unit)), ((0 : Int), (false, (false, (((0 : Int), (([] : List (UInt8)), (([] : List (UInt8)), ((0 : Int), ((0 : Int), ((0 : Int), (([] : List (UInt8)), ((0 : Int), ((0 : Int), ()))))))))), ())))))), ()))) (fun y1 => obind (P_steps_Run_Want ((), ((y1.2.1.1, (y1.2.1.2.1, (y1.2.1.2.2.1, (y1.2.1.2.2.2.1, (y1.2.1.2.2.2.2.1, (y1.2.1.2.2.2.2.2.1, ())))))), ()))) (fun y2 => obind (P_steps_Run_Give ((((0 : Int), ((7 : Int), (([] : List (UInt8)), (([] : List Sb), ())))), ()), ((y2.2.1.1, (y2.2.1.2.1, (y2.2.1.2.2.1, (y2.2.1.2.2.2.1, (y2.2.1.2.2.2.2.1, (y2.2.1.2.2.2.2.2.1, ())))))), ()))) (fun y3 => obind (P_steps_Run_Give ((((0 : Int), ((0 : Int), (([] : List (UInt8)), (([] : List Sb), ())))), ()), ((y3.2.1.1, (y3.2.1.2.1, (y3.2.1.2.2.1, (y3.2.1.2.2.2.1, (y3.2.1.2.2.2.2.1, (y3.2.1.2.2.2.2.2.1, ())))))), ()))) (fun y4 => obind (P_steps_Run_Do ((((13 : Int), (([] : List (UInt8)), (([] : List (UInt8)), ((0 : Int), ((0 : Int), ((0 : Int), (([] : List (UInt8)), ((0 : Int), ((0 : Int), ()))))))))), ()), ((y4.2.1.1, (y4.2.1.2.1, (y4.2.1.2.2.1, (y4.2.1.2.2.2.1, (y4.2.1.2.2.2.2.1, (y4.2.1.2.2.2.2.2.1, ())))))), ()))) (fun y5 => obind (P_steps_Run_Begin ((), ((y5.2.1.1, (y5.2.1.2.1, (y5.2.1.2.2.1, (y5.2.1.2.2.2.1, (y5.2.1.2.2.2.2.1, (y5.2.1.2.2.2.2.2.1, ())))))), ()))) (fun y6 => obind (P_steps_Run_Do ((((13 : Int), (([] : List (UInt8)), (([] : List (UInt8)), ((0 : Int), ((0 : Int), ((0 : Int), (([] : List (UInt8)), ((0 : Int), ((0 : Int), ()))))))))), ()), ((y6.2.1.1, (y6.2.1.2.1, (y6.2.1.2.2.1, (y6.2.1.2.2.2.1, (y6.2.1.2.2.2.2.1, (y6.2.1.2.2.2.2.2.1, ())))))), ()))) (fun y7 => obind (P_steps_Run_Do ((((14 : Int), (([] : List (UInt8)), (([] : List (UInt8)), ((0 : Int), ((0 : Int), ((0 : Int), (([] : List (UInt8)), ((0 : Int), ((0 : Int), ()))))))))), ()), ((y7.2.1.1, (y7.2.1.2.1, (y7.2.1.2.2.1, (y7.2.1.2.2.2.1, (y7.2.1.2.2.2.2.1, (y7.2.1.2.2.2.2.2.1, ())))))), ()))) (fun y8 => obind (P_steps_Run_Begin ((), ((y8.2.1.1, (y8.2.1.2.1, (y8.2.1.2.2.1, (y8.2.1.2.2.2.1, (y8.2.1.2.2.2.2.1, (y8.2.1.2.2.2.2.2.1, ())))))), ()))) (fun y9 => obind (P_steps_Run_Do ((((14 : Int), (([] : List (UInt8)), (([] : List (UInt8)), ((0 : Int), ((0 : Int), ((0 : Int), (([] : List (UInt8)), ((0 : Int), ((0 : Int), ()))))))))), ()), ((y9.2.1.1, (y9.2.1.2.1, (y9.2.1.2.2.1, (y9.2.1.2.2.2.1, (y9.2.1.2.2.2.2.1, (y9.2.1.2.2.2.2.2.1, ())))))), ()))) (fun y10 => sel (sel (sel (sel (sel (sel (sel (sel (sel (eqI y1.1.1.1 14)
  (eqI y2.1.1.1 13)
  false)
  y2.1.2.1
  false)
  (eqI y3.1.1 0)
  false)
  (eqI y4.1.1 1)
  false)
  (eqI y5.1.1.1 14)
  false)
  (eqI y7.1.1.2.1 7)
  false)
  (eqI y8.1.1.1 14)
  false)
  (eqI y10.1.1.1 1)
  false)
  (obind (P_steps_Run_Len ((), ((y10.2.1.1, (y10.2.1.2.1, (y10.2.1.2.2.1, (y10.2.1.2.2.2.1, (y10.2.1.2.2.2.2.1, (y10.2.1.2.2.2.2.2.1, ())))))), ()))) (fun y11 => some (eqI y11.1.1 1, ())))
  (some (false, ()))))))))))))

noncomputable def P_ref09_SameRes_L0 (x : S1x1 × S1x1 × Unit) (y1 : (Bool × Int × Unit) × Unit) : Option (((Bool × Int × Unit) × Unit) ⊕ (Nat × (Bool × Int × Unit) × Unit)) :=
  sel (sel (ltI y1.1.2.1 (len x.1.2.2.2.1))
  (ltI y1.1.2.1 (len x.2.1.2.2.2.1))
  false)
  (obind (idx x.1.2.2.2.1 y1.1.2.1) (fun y2 => obind (idx x.2.1.2.2.2.1 y1.1.2.1) (fun y3 => sel (nt (eqS y2 y3))
  (some (Sum.inr (1, ((false, (y1.1.2.1, ())), ()))))
  (some (Sum.inl ((y1.1.1, (iadd IntKind.i64 y1.1.2.1 1, ())), ()))))))
  (some (Sum.inr (0, ((y1.1.1, (y1.1.2.1, ())), ()))))

noncomputable def P_ref09_SameRes (x : S1x1 × S1x1 × Unit) : Option (Bool × Unit) :=
  sel (sel (nt (sel (nt (sel (nt (nt (eqI x.1.1 x.2.1.1)))
  (nt (eqI x.1.2.1 x.2.1.2.1))
  true))
  (nt (eqS x.1.2.2.1 x.2.1.2.2.1))
  true))
  (nt (eqI (len x.1.2.2.2.1) (len x.2.1.2.2.2.1)))
  true)
  (some (false, ()))
  (obind (Loop (P_ref09_SameRes_L0 x) ((false, ((0 : Int), ())), ())) (fun y1 => sel (eqN y1.1 0)
  (some (true, ()))
  (some (y1.2.1.1, ()))))

end Go.Ge

/- What the functions of layer 02 compute, as plain programs (written by a program from what the ghost interpreter comes to). -/
namespace Go.Ge
set_option linter.unusedSectionVars false
variable [Lp]
set_option linter.unusedVariables false
set_option maxRecDepth 100000

noncomputable def P_math_bits_RotateLeft32 (x : Int × Int × Unit) : Option (Int × Unit) :=
  sel (ltI (iand IntKind.u64 (icv IntKind.u64 x.2.1) 31) 0)
  none
  (sel (ltI (isub IntKind.u64 32 (iand IntKind.u64 (icv IntKind.u64 x.2.1) 31)) 0)
  none
  (some (ior IntKind.u32 (ishl IntKind.u32 x.1 (iand IntKind.u64 (icv IntKind.u64 x.2.1) 31)) (ishr IntKind.u32 x.1 (isub IntKind.u64 32 (iand IntKind.u64 (icv IntKind.u64 x.2.1) 31))), ())))

noncomputable def P_sha_right (x : Int × Int × Unit) : Option (Int × Unit) :=
  obind (P_math_bits_RotateLeft32 (x.1, (isub IntKind.i64 0 x.2.1, ()))) (fun y1 => some (y1.1, ()))

noncomputable def P_ref02_turn (x : Int × Int × Unit) : Option (Int × Unit) :=
  sel (ltI x.2.1 0)
  none
  (sel (ltI (isub IntKind.i64 32 x.2.1) 0)
  none
  (some (ior IntKind.u32 (ishr IntKind.u32 x.1 x.2.1) (ishl IntKind.u32 x.1 (isub IntKind.i64 32 x.2.1)), ())))

end Go.Ge

/- What the functions of layer 03 compute, as plain programs (written by a program from what the ghost interpreter comes to). -/
namespace Go.Ge
set_option linter.unusedSectionVars false
variable [Lp]
set_option linter.unusedVariables false
set_option maxRecDepth 100000

end Go.Ge

/- What the functions of layer 12 compute, as plain programs (written by a program from what the ghost interpreter comes to). -/
namespace Go.Ge
set_option linter.unusedSectionVars false
variable [Lp]
set_option linter.unusedVariables false
set_option maxRecDepth 100000

end Go.Ge

/- What the functions of layer 13 compute, as plain programs (written by a program from what the ghost interpreter comes to). -/
namespace Go.Ge
set_option linter.unusedSectionVars false
variable [Lp]
set_option linter.unusedVariables false
set_option maxRecDepth 100000

end Go.Ge

/- What the functions of layer 07 compute, as plain programs (written by a program from what the ghost interpreter comes to). -/
namespace Go.Ge
set_option linter.unusedSectionVars false
variable [Lp]
set_option linter.unusedVariables false
set_option maxRecDepth 100000

noncomputable def P_ref07_Parts_L0 (x : Sb × Unit) (y1 : (Unit × Sb × Int × Unit) × (List Sb) × Unit) : Option (((Unit × Sb × Int × Unit) × (List Sb) × Unit) ⊕ ((Unit × Sb × Int × Unit) × (List Sb) × Unit)) :=
  way1 (sel (ltI y1.1.2.2.1 (len x.1))
  (obind (idx x.1 y1.1.2.2.1) (fun y2 => obind (sel (eqI (u8 y2) 47)
  (sel (fits (plus (len y1.2.1) (len ([y1.1.2.1] : List Sb))))
  (some (((), (([] : List (UInt8)), ())), (app y1.2.1 ([y1.1.2.1] : List Sb), ())))
  none)
  (sel (inside y1.1.2.2.1 (iadd IntKind.i64 y1.1.2.2.1 1) (len x.1))
  (sel (fits (plus (len y1.1.2.1) (len (sub x.1 y1.1.2.2.1 (minus (iadd IntKind.i64 y1.1.2.2.1 1) y1.1.2.2.1)))))
  (some (((), (app y1.1.2.1 (sub x.1 y1.1.2.2.1 (minus (iadd IntKind.i64 y1.1.2.2.1 1) y1.1.2.2.1)), ())), (y1.2.1, ())))
  none)
  none)) (fun y3 => some (Sum.inl (((), (y3.1.2.1, (iadd IntKind.i64 y1.1.2.2.1 1, ()))), (y3.2.1, ()))))))
  (some (Sum.inr (0, (((), (y1.1.2.1, (y1.1.2.2.1, ()))), (y1.2.1, ()))))))

noncomputable def P_ref07_Parts (x : Sb × Unit) : Option ((List Sb) × Unit) :=
  sel (eqS x.1 ([] : List (UInt8)))
  (some (([] : List Sb), ()))
  (obind (Loop (P_ref07_Parts_L0 x) (((), (([] : List (UInt8)), ((0 : Int), ()))), (([] : List Sb), ()))) (fun y1 => sel (fits (plus (len y1.2.1) (len ([y1.1.2.1] : List Sb))))
  (some (app y1.2.1 ([y1.1.2.1] : List Sb), ()))
  none))

noncomputable def P_ref07_isName_L0 (x : Sb × Unit) (y1 : (Bool × Int × Unit) × Unit) : Option (((Bool × Int × Unit) × Unit) ⊕ (Nat × (Bool × Int × Unit) × Unit)) :=
  sel (ltI y1.1.2.1 (len x.1))
  (obind (idx x.1 y1.1.2.1) (fun y2 => obind (sel (nt (eqI (u8 y2) 0))
  (obind (idx x.1 y1.1.2.1) (fun y3 => some (eqI (u8 y3) 47)))
  (some true)) (fun y3 => sel y3
  (some (Sum.inr (1, ((false, (y1.1.2.1, ())), ()))))
  (some (Sum.inl ((y1.1.1, (iadd IntKind.i64 y1.1.2.1 1, ())), ()))))))
  (some (Sum.inr (0, ((y1.1.1, (y1.1.2.1, ())), ()))))

noncomputable def P_ref07_isName (x : Sb × Unit) : Option (Bool × Unit) :=
  obind (Loop (P_ref07_isName_L0 x) ((false, ((0 : Int), ())), ())) (fun y1 => sel (eqN y1.1 0)
  (some (sel (sel (sel (leI 1 (len x.1))
  (leI (len x.1) 32)
  false)
  (nt (eqS x.1 ([46] : List UInt8)))
  false)
  (nt (eqS x.1 ([46, 46] : List UInt8)))
  false, ()))
  (some (y1.2.1.1, ())))

noncomputable def P_ref07_Is_L0 (y1 : (List Sb) × Unit) (y2 : (Bool × Int × Unit) × Unit) : Option (((Bool × Int × Unit) × Unit) ⊕ (Nat × (Bool × Int × Unit) × Unit)) :=
  sel (ltI y2.1.2.1 (len y1.1))
  (obind (idx y1.1 y2.1.2.1) (fun y3 => obind (P_ref07_isName (y3, ())) (fun y4 => sel (nt y4.1)
  (some (Sum.inr (1, ((false, (y2.1.2.1, ())), ()))))
  (some (Sum.inl ((y2.1.1, (iadd IntKind.i64 y2.1.2.1 1, ())), ()))))))
  (some (Sum.inr (0, ((y2.1.1, (y2.1.2.1, ())), ()))))

noncomputable def P_ref07_Is (x : Sb × Unit) : Option (Bool × Unit) :=
  obind (P_ref07_Parts (x.1, ())) (fun y1 => obind (Loop (P_ref07_Is_L0 y1) ((false, ((0 : Int), ())), ())) (fun y2 => sel (eqN y2.1 0)
  (some (sel (leI (len y1.1) 8)
  (leI (len x.1) 96)
  false, ()))
  (some (y2.2.1.1, ()))))

noncomputable def P_ref07_Join (x : Sb × Sb × Unit) : Option (Sb × Unit) :=
  sel (eqS x.1 ([] : List (UInt8)))
  (some (x.2.1, ()))
  (sel (eqS x.2.1 ([] : List (UInt8)))
  (some (x.1, ()))
  (sel (fits (plus (len x.1) (len ([47] : List UInt8))))
  (sel (fits (plus (len (app x.1 ([47] : List UInt8))) (len x.2.1)))
  (some (app (app x.1 ([47] : List UInt8)) x.2.1, ()))
  none)
  none))

end Go.Ge

/- What the functions of layer 26.o compute, as plain programs (written by a program from what the ghost interpreter comes to). -/
namespace Go.Ge
set_option linter.unusedVariables false
set_option linter.unusedSectionVars false
variable [Lp]
set_option maxRecDepth 100000

abbrev S7x0 := (Int × Bool × Int × Int × Sb × (List (Sb × Int × Unit)) × Unit)
abbrev S7x1 := ((Int × Int × (List S7x0) × Unit) × (List (Int × Int × Int × Unit)) × Unit)
abbrev S7x2 := (Int × Sb × Sb × Int × Int × Int × Sb × Int × Int × Unit)
abbrev S7x3 := (Int × Int × (List S7x0) × Unit)
abbrev S7x4 := (Int × Int × Sb × (List Sb) × Unit)
abbrev S7x5 := (Int × Int × Int × Unit)
abbrev S7x6 := (Int × Int × Unit)
abbrev S7x7 := (Int × Int × Unit × Unit)
abbrev S7x8 := (Unit × Unit × Unit)
abbrev S7x9 := (Int × Bool × S7x2 × Unit)
abbrev S7x10 := (Sb × Int × Unit)
abbrev S7x11 := (List (Sb × Bool × Sb × Unit))
abbrev S7x12 := (Unit × Int × Unit)
abbrev S7x13 := (Bool × Unit × Int × Bool × Bool × S7x2 × Unit)
abbrev S7x14 := (((Bool × Int × Unit) × Unit) ⊕ (Nat × (Bool × Int × Unit) × Unit))
abbrev S7x15 := ((Int × Sb × Int × Unit) × S7x1 × Unit)
abbrev S7x16 := (List (Int × Int × Int × S7x2 × Unit))
abbrev S7x17 := ((List S7x6) × Int × Unit)
abbrev S7x18 := (List (S7x2 × S7x4 × Unit))
abbrev S7x19 := ((Int × Unit) × S7x3 × Unit)
abbrev S7x20 := (S7x1 × S7x1 × (List S7x9) × Unit)
abbrev S7x21 := (Unit × Unit × Unit × Unit)
abbrev S7x22 := ((S7x11 × Unit) × S7x1 × Unit)
abbrev S7x23 := (Bool × (List S7x4) × Bool × Int × Unit)
abbrev S7x24 := (Bool × Int × Unit)
noncomputable def P_ref09_Small_L0 (x : (List S7x9) × Int × Unit) (y1 : S7x24 × Unit) : Option S7x14 :=
  sel (sel (ltI y1.1.2.1 (len x.1))
  (ltI y1.1.2.1 x.2.1)
  false)
  (obind (idx x.1 y1.1.2.1) (fun y2 => sel (sel (nt (sel (nt (sel (nt (sel (nt (ltI 200 (len y2.2.2.1.2.1)))
  (ltI 200 (len y2.2.2.1.2.2.1))
  true))
  (ltI 200 (len y2.2.2.1.2.2.2.2.2.2.1))
  true))
  (sel (ltI 4096 y2.2.2.1.2.2.2.2.1)
  (leI y2.2.2.1.2.2.2.2.1 1048576)
  false)
  true))
  (sel (ltI 4096 y2.2.2.1.2.2.2.2.2.1)
  (leI y2.2.2.1.2.2.2.2.2.1 1048576)
  false)
  true)
  (some (Sum.inr (1, ((false, (y1.1.2.1, ())), ()))))
  (some (Sum.inl ((y1.1.1, (iadd IntKind.i64 y1.1.2.1 1, ())), ())))))
  (some (Sum.inr (0, ((y1.1.1, (y1.1.2.1, ())), ()))))

noncomputable def P_ref09_Small (x : (List S7x9) × Int × Unit) : Option (Bool × Unit) :=
  obind (Loop (P_ref09_Small_L0 x) ((false, ((0 : Int), ())), ())) (fun y1 => sel (eqN y1.1 0)
  (some (leI (len x.1) x.2.1, ()))
  (some (y1.2.1.1, ())))

noncomputable def P_ref25_Small_L0 (x : S7x16 × Int × Unit) (y1 : S7x24 × Unit) : Option S7x14 :=
  sel (sel (ltI y1.1.2.1 (len x.1))
  (ltI y1.1.2.1 x.2.1)
  false)
  (obind (idx x.1 y1.1.2.1) (fun y2 => obind (P_ref09_Small (([((0 : Int), (false, (y2.2.2.2.1, ())))] : List S7x9), ((1 : Int), ()))) (fun y3 => sel (nt y3.1)
  (some (Sum.inr (1, ((false, (y1.1.2.1, ())), ()))))
  (some (Sum.inl ((y1.1.1, (iadd IntKind.i64 y1.1.2.1 1, ())), ()))))))
  (some (Sum.inr (0, ((y1.1.1, (y1.1.2.1, ())), ()))))

noncomputable def P_ref25_Small (x : S7x16 × Int × Unit) : Option (Bool × Unit) :=
  obind (Loop (P_ref25_Small_L0 x) ((false, ((0 : Int), ())), ())) (fun y1 => sel (eqN y1.1 0)
  (some (leI (len x.1) x.2.1, ()))
  (some (y1.2.1.1, ())))

noncomputable def P_ref11_Table_Birth_L0 (x : (Int × Unit) × S7x17 × Unit) (y1 : S7x5 × Unit) : Option ((S7x5 × Unit) ⊕ (Nat × S7x5 × Unit)) :=
  sel (ltI y1.1.2.2.1 (len x.2.1.1))
  (sel (within y1.1.2.2.1 (len x.2.1.1))
  (obind (idx x.2.1.1 y1.1.2.2.1) (fun y2 => sel (eqI y2.1 x.1.1)
  (sel (within y1.1.2.2.1 (len x.2.1.1))
  (obind (idx x.2.1.1 y1.1.2.2.1) (fun y3 => some (Sum.inr (1, ((y3.2.1, ((0 : Int), (y1.1.2.2.1, ()))), ())))))
  none)
  (some (Sum.inl ((y1.1.1, (y1.1.2.1, (iadd IntKind.i64 y1.1.2.2.1 1, ()))), ())))))
  none)
  (some (Sum.inr (0, ((y1.1.1, (y1.1.2.1, (y1.1.2.2.1, ()))), ()))))

noncomputable def P_ref11_Table_Birth (x : (Int × Unit) × S7x17 × Unit) : Option (S7x6 × S7x17 × Unit) :=
  obind (Loop (P_ref11_Table_Birth_L0 x) (((0 : Int), ((0 : Int), ((0 : Int), ()))), ())) (fun y1 => sel (eqN y1.1 0)
  (some (((0 : Int), ((3 : Int), ())), ((x.2.1.1, (x.2.1.2.1, ())), ())))
  (some ((y1.2.1.1, (y1.2.1.2.1, ())), ((x.2.1.1, (x.2.1.2.1, ())), ()))))

noncomputable def P_ref11_Table_Spawn_L0 (x : (Int × Unit) × S7x17 × Unit) (y1 : S7x6 × S7x17 × Unit) (y2 : (Int × Unit) × Unit) : Option (((Int × Unit) × Unit) ⊕ ((Int × Unit) × Unit)) :=
  way1 (obind (sel (ltI y2.1.1 (len y1.2.1.1))
  (sel (within y2.1.1 (len y1.2.1.1))
  (obind (idx y1.2.1.1 y2.1.1) (fun y3 => some (ltI y3.1 x.1.1)))
  none)
  (some false)) (fun y3 => sel y3
  (some (Sum.inl ((iadd IntKind.i64 y2.1.1 1, ()), ())))
  (some (Sum.inr (0, ((y2.1.1, ()), ()))))))

noncomputable def P_ref11_Table_Spawn (x : (Int × Unit) × S7x17 × Unit) : Option (S7x6 × S7x17 × Unit) :=
  sel (sel (nt (ltI x.1.1 1))
  (ltI 2147483648 x.1.1)
  true)
  (some (((0 : Int), ((1 : Int), ())), ((x.2.1.1, (x.2.1.2.1, ())), ())))
  (obind (P_ref11_Table_Birth ((x.1.1, ()), ((x.2.1.1, (x.2.1.2.1, ())), ()))) (fun y1 => sel (eqI y1.1.2.1 0)
  (some (((0 : Int), ((4 : Int), ())), ((y1.2.1.1, (y1.2.1.2.1, ())), ())))
  (sel (leI 8 (len y1.2.1.1))
  (some (((0 : Int), ((5 : Int), ())), ((y1.2.1.1, (y1.2.1.2.1, ())), ())))
  (obind (Loop (P_ref11_Table_Spawn_L0 x y1) (((0 : Int), ()), ())) (fun y2 => sel (inside 0 y2.1.1 (len y1.2.1.1))
  (sel (fits (plus (len ([] : List S7x6)) (len (sub y1.2.1.1 (0 : Int) (minus y2.1.1 0)))))
  (sel (fits (plus (len (app ([] : List S7x6) (sub y1.2.1.1 (0 : Int) (minus y2.1.1 0)))) (len ([(x.1.1, (iadd IntKind.i64 y1.2.1.2.1 1, ()))] : List S7x6))))
  (sel (inside y2.1.1 (len y1.2.1.1) (len y1.2.1.1))
  (sel (fits (plus (len (app (app ([] : List S7x6) (sub y1.2.1.1 (0 : Int) (minus y2.1.1 0))) ([(x.1.1, (iadd IntKind.i64 y1.2.1.2.1 1, ()))] : List S7x6))) (len (sub y1.2.1.1 y2.1.1 (minus (len y1.2.1.1) y2.1.1)))))
  (some ((iadd IntKind.i64 y1.2.1.2.1 1, ((0 : Int), ())), ((app (app (app ([] : List S7x6) (sub y1.2.1.1 (0 : Int) (minus y2.1.1 0))) ([(x.1.1, (iadd IntKind.i64 y1.2.1.2.1 1, ()))] : List S7x6)) (sub y1.2.1.1 y2.1.1 (minus (len y1.2.1.1) y2.1.1)), (iadd IntKind.i64 y1.2.1.2.1 1, ())), ())))
  none)
  none)
  none)
  none)
  none)))))

noncomputable def P_law26_work_L0 (x : (S7x16 × Unit) × (Bool × S7x18 × Int × Bool × Bool × S7x2 × Unit) × Unit) (y1 : ((List S7x4) × Bool × Unit × Int × Int × Unit) × (List S7x4) × S7x13 × S7x18 × Unit) : Option ((((List S7x4) × Bool × Unit × Int × Int × Unit) × (List S7x4) × S7x13 × S7x18 × Unit) ⊕ (Nat × ((List S7x4) × Bool × Unit × Int × Int × Unit) × (List S7x4) × S7x13 × S7x18 × Unit)) :=
  sel (ltI y1.1.2.2.2.2.1 (len x.1.1))
  (obind (idx x.1.1 y1.1.2.2.2.2.1) (fun y2 => obind (P_steps_Run_Do (((y2.2.2.2.1.1, (y2.2.2.2.1.2.1, (y2.2.2.2.1.2.2.1, (iadd IntKind.i64 y2.2.2.2.1.2.2.2.1 (irem y1.1.2.2.2.1 3), y2.2.2.2.1.2.2.2.2)))), ()), ((y1.2.2.1.1, (y1.2.2.2.1, (y1.2.2.1.2.2.1, (y1.2.2.1.2.2.2.1, (y1.2.2.1.2.2.2.2.1, (y1.2.2.1.2.2.2.2.2.1, ())))))), ()))) (fun y3 => sel (eqI y3.1.1.1 14)
  (some (Sum.inr (1, ((([] : List S7x4), (false, ((), (y1.1.2.2.2.1, (y1.1.2.2.2.2.1, ()))))), (y1.2.1, ((y3.2.1.1, ((), (y3.2.1.2.2.1, (y3.2.1.2.2.2.1, (y3.2.1.2.2.2.2.1, (y3.2.1.2.2.2.2.2.1, ())))))), (y3.2.1.2.1, ())))))))
  (sel (fits (plus (len y1.2.1) (len ([y3.1.1] : List S7x4))))
  (some (Sum.inl ((y1.1.1, (y1.1.2.1, ((), (iadd IntKind.i64 (iadd IntKind.i64 (len y3.1.1.2.2.1) (len y3.1.1.2.2.2.1)) y3.1.1.1, (iadd IntKind.i64 y1.1.2.2.2.2.1 1, ()))))), (app y1.2.1 ([y3.1.1] : List S7x4), ((y3.2.1.1, ((), (y3.2.1.2.2.1, (y3.2.1.2.2.2.1, (y3.2.1.2.2.2.2.1, (y3.2.1.2.2.2.2.2.1, ())))))), (y3.2.1.2.1, ()))))))
  none))))
  (some (Sum.inr (0, ((y1.1.1, (y1.1.2.1, ((), (y1.1.2.2.2.1, (y1.1.2.2.2.2.1, ()))))), (y1.2.1, ((y1.2.2.1.1, ((), (y1.2.2.1.2.2.1, (y1.2.2.1.2.2.2.1, (y1.2.2.1.2.2.2.2.1, (y1.2.2.1.2.2.2.2.2.1, y1.2.2.1.2.2.2.2.2.2)))))), (y1.2.2.2.1, ())))))))

noncomputable def P_law26_work (x : (S7x16 × Unit) × (Bool × S7x18 × Int × Bool × Bool × S7x2 × Unit) × Unit) : Option (((List S7x4) × Bool × Unit) × (Bool × S7x18 × Int × Bool × Bool × S7x2 × Unit) × Unit) :=
  obind (Loop (P_law26_work_L0 x) ((([] : List S7x4), (false, ((), ((0 : Int), ((0 : Int), ()))))), (([] : List S7x4), ((x.2.1.1, ((), (x.2.1.2.2.1, (x.2.1.2.2.2.1, (x.2.1.2.2.2.2.1, (x.2.1.2.2.2.2.2.1, ())))))), (x.2.1.2.1, ()))))) (fun y1 => sel (eqN y1.1 0)
  (some ((y1.2.2.1, (true, ())), ((y1.2.2.2.1.1, (y1.2.2.2.2.1, (y1.2.2.2.1.2.2.1, (y1.2.2.2.1.2.2.2.1, (y1.2.2.2.1.2.2.2.2.1, (y1.2.2.2.1.2.2.2.2.2.1, ())))))), ())))
  (some ((y1.2.1.1, (y1.2.1.2.1, ())), ((y1.2.2.2.1.1, (y1.2.2.2.2.1, (y1.2.2.2.1.2.2.1, (y1.2.2.2.1.2.2.2.1, (y1.2.2.2.1.2.2.2.2.1, (y1.2.2.2.1.2.2.2.2.2.1, ())))))), ()))))

noncomputable def P_ref11_Table_Alive (x : S7x6 × S7x17 × Unit) : Option ((Bool × Unit) × S7x17 × Unit) :=
  obind (P_ref11_Table_Birth ((x.1.1, ()), ((x.2.1.1, (x.2.1.2.1, ())), ()))) (fun y1 => some ((sel (eqI y1.1.2.1 0)
  (eqI y1.1.1 x.1.2.1)
  false, ()), ((y1.2.1.1, (y1.2.1.2.1, ())), ())))

noncomputable def P_ref10_Disk_sync (x : Unit × S7x20 × Unit) : Option (Unit × S7x20 × Unit) :=
  sel (fits (plus (len ([] : List S7x5)) (len x.2.1.1.2.1)))
  (sel (fits (plus (len ([] : List S7x0)) (len x.2.1.1.1.2.2.1)))
  (some ((), ((((x.2.1.1.1.1, (x.2.1.1.1.2.1, (x.2.1.1.1.2.2.1, ()))), (x.2.1.1.2.1, ())), (((x.2.1.1.1.1, (x.2.1.1.1.2.1, (app ([] : List S7x0) x.2.1.1.1.2.2.1, ()))), (app ([] : List S7x5) x.2.1.1.2.1, ())), (([] : List S7x9), ()))), ())))
  none)
  none

noncomputable def P_ref09_right (x : S7x2 × Unit) : Option (Bool × Unit) :=
  sel (((sel (eqI x.1.1 1)
  ((eqI x.1.1 1, ()), ())
  ((((sel (eqI x.1.1 2)
  ((eqI x.1.1 2, ()), ())
  ((((sel (eqI x.1.1 3)
  ((eqI x.1.1 3, ()), ())
  ((((sel (eqI x.1.1 4)
  ((eqI x.1.1 4, ()), ())
  ((eqI x.1.1 11, ()), ())).1).1, ()), ())).1).1, ()), ())).1).1, ()), ())).1).1)
  (obind (sel (nt (eqS x.1.2.1 ([] : List (UInt8))))
  (obind (P_ref07_Is (x.1.2.1, ())) (fun y1 => some y1.1))
  (some false)) (fun y1 => some (y1, ())))
  (sel (((sel (eqI x.1.1 10)
  ((eqI x.1.1 10, ()), ())
  ((eqI x.1.1 12, ()), ())).1).1)
  (obind (sel (nt (eqS x.1.2.1 ([] : List (UInt8))))
  (obind (P_ref07_Is (x.1.2.1, ())) (fun y1 => some y1.1))
  (some false)) (fun y1 => obind (sel (sel y1
  (nt (eqS x.1.2.2.1 ([] : List (UInt8))))
  false)
  (obind (P_ref07_Is (x.1.2.2.1, ())) (fun y2 => some y2.1))
  (some false)) (fun y2 => some (y2, ()))))
  (sel (eqI x.1.1 13)
  (obind (P_ref07_Is (x.1.2.1, ())) (fun y1 => some (y1.1, ())))
  (some (sel (leI 1 x.1.1)
  (leI x.1.1 13)
  false, ()))))

noncomputable def P_ref09_FS_holds_L0 (x : S7x6 × S7x1 × Unit) (y1 : S7x6 × Unit) : Option ((S7x6 × Unit) ⊕ (Nat × S7x6 × Unit)) :=
  sel (ltI y1.1.2.1 (len x.2.1.2.1))
  (sel (within y1.1.2.1 (len x.2.1.2.1))
  (obind (idx x.2.1.2.1 y1.1.2.1) (fun y2 => obind (sel (eqI y2.1 x.1.1)
  (sel (within y1.1.2.1 (len x.2.1.2.1))
  (obind (idx x.2.1.2.1 y1.1.2.1) (fun y3 => some (eqI y3.2.1 x.1.2.1)))
  none)
  (some false)) (fun y3 => sel y3
  (sel (within y1.1.2.1 (len x.2.1.2.1))
  (obind (idx x.2.1.2.1 y1.1.2.1) (fun y4 => some (Sum.inr (1, ((y4.2.2.1, (y1.1.2.1, ())), ())))))
  none)
  (some (Sum.inl ((y1.1.1, (iadd IntKind.i64 y1.1.2.1 1, ())), ()))))))
  none)
  (some (Sum.inr (0, ((y1.1.1, (y1.1.2.1, ())), ()))))

noncomputable def P_ref09_FS_holds (x : S7x6 × S7x1 × Unit) : Option ((Int × Unit) × S7x1 × Unit) :=
  obind (Loop (P_ref09_FS_holds_L0 x) (((0 : Int), ((0 : Int), ())), ())) (fun y1 => sel (eqN y1.1 0)
  (some (((0 : Int), ()), (((x.2.1.1.1, (x.2.1.1.2.1, (x.2.1.1.2.2.1, ()))), (x.2.1.2.1, ())), ())))
  (some ((y1.2.1.1, ()), (((x.2.1.1.1, (x.2.1.1.2.1, (x.2.1.1.2.2.1, ()))), (x.2.1.2.1, ())), ()))))

noncomputable def P_ref08_Table_get_L0 (x : (Int × Unit) × S7x3 × Unit) (y1 : S7x24 × S7x0 × Unit) : Option ((S7x24 × S7x0 × Unit) ⊕ (Nat × S7x24 × S7x0 × Unit)) :=
  sel (ltI y1.1.2.1 (len x.2.1.2.2.1))
  (sel (within y1.1.2.1 (len x.2.1.2.2.1))
  (obind (idx x.2.1.2.2.1 y1.1.2.1) (fun y2 => sel (eqI y2.1 x.1.1)
  (sel (within y1.1.2.1 (len x.2.1.2.2.1))
  (obind (idx x.2.1.2.2.1 y1.1.2.1) (fun y3 => some (Sum.inr (1, ((true, (y1.1.2.1, ())), (y3, ()))))))
  none)
  (some (Sum.inl ((y1.1.1, (iadd IntKind.i64 y1.1.2.1 1, ())), (y1.2.1, ()))))))
  none)
  (some (Sum.inr (0, ((y1.1.1, (y1.1.2.1, ())), (y1.2.1, ())))))

noncomputable def P_ref08_Table_get (x : (Int × Unit) × S7x3 × Unit) : Option ((S7x0 × Bool × Unit) × S7x3 × Unit) :=
  obind (Loop (P_ref08_Table_get_L0 x) ((false, ((0 : Int), ())), (((0 : Int), (false, ((0 : Int), ((0 : Int), (([] : List (UInt8)), (([] : List S7x10), ())))))), ()))) (fun y1 => sel (eqN y1.1 0)
  (some ((((0 : Int), (false, ((0 : Int), ((0 : Int), (([] : List (UInt8)), (([] : List S7x10), ())))))), (false, ())), ((x.2.1.1, (x.2.1.2.1, (x.2.1.2.2.1, ()))), ())))
  (some ((y1.2.2.1, (y1.2.1.1, ())), ((x.2.1.1, (x.2.1.2.1, (x.2.1.2.2.1, ()))), ()))))

noncomputable def P_ref08_Table_set_L0 (x : (S7x0 × Unit) × S7x3 × Unit) (y1 : S7x12 × (List S7x0) × Unit) : Option ((S7x12 × (List S7x0) × Unit) ⊕ (S7x12 × (List S7x0) × Unit)) :=
  way1 (sel (ltI y1.1.2.1 (len x.2.1.2.2.1))
  (sel (within y1.1.2.1 (len x.2.1.2.2.1))
  (obind (idx x.2.1.2.2.1 y1.1.2.1) (fun y2 => obind (sel (nt (eqI y2.1 x.1.1.1))
  (sel (within y1.1.2.1 (len x.2.1.2.2.1))
  (obind (idx x.2.1.2.2.1 y1.1.2.1) (fun y3 => sel (fits (plus (len y1.2.1) (len ([y3] : List S7x0))))
  (some (((), ()), (app y1.2.1 ([y3] : List S7x0), ())))
  none))
  none)
  (obind (sel (sel (nt (ltI 0 x.1.1.2.2.1))
  (ltI 0 x.1.1.2.2.2.1)
  true)
  (sel (fits (plus (len y1.2.1) (len ([x.1.1] : List S7x0))))
  (some (((), ()), (app y1.2.1 ([x.1.1] : List S7x0), ())))
  none)
  (some (((), ()), (y1.2.1, ())))) (fun y3 => some (((), ()), (y3.2.1, ()))))) (fun y3 => some (Sum.inl (((), (iadd IntKind.i64 y1.1.2.1 1, ())), (y3.2.1, ()))))))
  none)
  (some (Sum.inr (0, (((), (y1.1.2.1, ())), (y1.2.1, ()))))))

noncomputable def P_ref08_Table_set (x : (S7x0 × Unit) × S7x3 × Unit) : Option (Unit × S7x3 × Unit) :=
  obind (Loop (P_ref08_Table_set_L0 x) (((), ((0 : Int), ())), (([] : List S7x0), ()))) (fun y1 => some ((), ((x.2.1.1, (x.2.1.2.1, (y1.2.1, ()))), ())))

noncomputable def P_ref08_Table_Drop (x : (Int × Unit) × S7x3 × Unit) : Option S7x19 :=
  obind (P_ref08_Table_get ((x.1.1, ()), ((x.2.1.1, (x.2.1.2.1, (x.2.1.2.2.1, ()))), ()))) (fun y1 => sel (nt y1.1.2.1)
  (some (((3 : Int), ()), ((y1.2.1.1, (y1.2.1.2.1, (y1.2.1.2.2.1, ()))), ())))
  (sel (eqI y1.1.1.2.2.2.1 0)
  (some (((1 : Int), ()), ((y1.2.1.1, (y1.2.1.2.1, (y1.2.1.2.2.1, ()))), ())))
  (obind (P_ref08_Table_set (((y1.1.1.1, (y1.1.1.2.1, (y1.1.1.2.2.1, (isub IntKind.i64 y1.1.1.2.2.2.1 1, y1.1.1.2.2.2.2)))), ()), ((y1.2.1.1, (y1.2.1.2.1, (y1.2.1.2.2.1, ()))), ()))) (fun y2 => some (((0 : Int), ()), ((y2.2.1.1, (y2.2.1.2.1, (y2.2.1.2.2.1, ()))), ()))))))

noncomputable def P_ref09_FS_closes_L0 (x : S7x6 × S7x1 × Unit) (y1 : S7x12 × (List S7x5) × S7x8 × S7x7 × (List S7x5) × (List S7x0) × Unit) : Option ((S7x12 × (List S7x5) × S7x8 × S7x7 × (List S7x5) × (List S7x0) × Unit) ⊕ (S7x12 × (List S7x5) × S7x8 × S7x7 × (List S7x5) × (List S7x0) × Unit)) :=
  way1 (sel (ltI y1.1.2.1 (len y1.2.2.2.2.1))
  (sel (within y1.1.2.1 (len y1.2.2.2.2.1))
  (obind (idx y1.2.2.2.2.1 y1.1.2.1) (fun y2 => obind (sel (eqI y2.1 x.1.1)
  (obind (sel (nt (eqI x.1.2.1 0))
  (sel (within y1.1.2.1 (len y1.2.2.2.2.1))
  (obind (idx y1.2.2.2.2.1 y1.1.2.1) (fun y3 => some (eqI y3.2.1 x.1.2.1)))
  none)
  (some true)) (fun y3 => some y3))
  (some false)) (fun y3 => obind (sel y3
  (sel (within y1.1.2.1 (len y1.2.2.2.2.1))
  (obind (idx y1.2.2.2.2.1 y1.1.2.1) (fun y4 => obind (P_ref08_Table_Drop ((y4.2.2.1, ()), ((y1.2.2.2.1.1, (y1.2.2.2.1.2.1, (y1.2.2.2.2.2.1, ()))), ()))) (fun y5 => some (((), ()), (y1.2.1, (((), ((), y1.2.2.1.2.2)), ((y5.2.1.1, (y5.2.1.2.1, ((), ()))), (y1.2.2.2.2.1, (y5.2.1.2.2.1, ())))))))))
  none)
  (sel (within y1.1.2.1 (len y1.2.2.2.2.1))
  (obind (idx y1.2.2.2.2.1 y1.1.2.1) (fun y4 => sel (fits (plus (len y1.2.1) (len ([y4] : List S7x5))))
  (some (((), ()), (app y1.2.1 ([y4] : List S7x5), (((), ((), y1.2.2.1.2.2)), ((y1.2.2.2.1.1, (y1.2.2.2.1.2.1, ((), y1.2.2.2.1.2.2.2))), (y1.2.2.2.2.1, (y1.2.2.2.2.2.1, ())))))))
  none))
  none)) (fun y4 => some (Sum.inl (((), (iadd IntKind.i64 y1.1.2.1 1, ())), (y4.2.1, (((), ((), y4.2.2.1.2.2)), ((y4.2.2.2.1.1, (y4.2.2.2.1.2.1, ((), y4.2.2.2.1.2.2.2))), (y4.2.2.2.2.1, (y4.2.2.2.2.2.1, ())))))))))))
  none)
  (some (Sum.inr (0, (((), (y1.1.2.1, ())), (y1.2.1, (((), ((), y1.2.2.1.2.2)), ((y1.2.2.2.1.1, (y1.2.2.2.1.2.1, ((), y1.2.2.2.1.2.2.2))), (y1.2.2.2.2.1, (y1.2.2.2.2.2.1, ()))))))))))

noncomputable def P_ref09_FS_closes (x : S7x6 × S7x1 × Unit) : Option (Unit × S7x1 × Unit) :=
  obind (Loop (P_ref09_FS_closes_L0 x) (((), ((0 : Int), ())), (([] : List S7x5), (((), ((), ())), ((x.2.1.1.1, (x.2.1.1.2.1, ((), ()))), (x.2.1.2.1, (x.2.1.1.2.2.1, ()))))))) (fun y1 => some ((), (((y1.2.2.2.1.1, (y1.2.2.2.1.2.1, (y1.2.2.2.2.2.1, ()))), (y1.2.1, ())), ())))

noncomputable def P_ref08_Table_file (x : S7x5 × S7x3 × Unit) : Option ((S7x0 × Int × Unit) × S7x3 × Unit) :=
  obind (P_ref08_Table_get ((x.1.1, ()), ((x.2.1.1, (x.2.1.2.1, (x.2.1.2.2.1, ()))), ()))) (fun y1 => sel (nt y1.1.2.1)
  (some ((y1.1.1, ((3 : Int), ())), ((y1.2.1.1, (y1.2.1.2.1, (y1.2.1.2.2.1, ()))), ())))
  (sel y1.1.1.2.1
  (some ((y1.1.1, ((12 : Int), ())), ((y1.2.1.1, (y1.2.1.2.1, (y1.2.1.2.2.1, ()))), ())))
  (sel (sel (nt (ltI x.1.2.1 0))
  (ltI x.1.2.2.1 0)
  true)
  (some ((y1.1.1, ((1 : Int), ())), ((y1.2.1.1, (y1.2.1.2.1, (y1.2.1.2.2.1, ()))), ())))
  (some ((y1.1.1, ((0 : Int), ())), ((y1.2.1.1, (y1.2.1.2.1, (y1.2.1.2.2.1, ()))), ()))))))

noncomputable def P_ref08_Table_Read (x : S7x5 × S7x3 × Unit) : Option (S7x10 × S7x3 × Unit) :=
  obind (P_ref08_Table_file ((x.1.1, (x.1.2.1, (x.1.2.2.1, ()))), ((x.2.1.1, (x.2.1.2.1, (x.2.1.2.2.1, ()))), ()))) (fun y1 => sel (sel (nt (nt (eqI y1.1.2.1 0)))
  (leI (len y1.1.1.2.2.2.2.1) x.1.2.1)
  true)
  (some ((([] : List (UInt8)), (y1.1.2.1, ())), ((y1.2.1.1, (y1.2.1.2.1, (y1.2.1.2.2.1, ()))), ())))
  (sel (inside x.1.2.1 (iadd IntKind.i64 x.1.2.1 (imin x.1.2.2.1 (isub IntKind.i64 (len y1.1.1.2.2.2.2.1) x.1.2.1))) (len y1.1.1.2.2.2.2.1))
  (some ((sub y1.1.1.2.2.2.2.1 x.1.2.1 (minus (iadd IntKind.i64 x.1.2.1 (imin x.1.2.2.1 (isub IntKind.i64 (len y1.1.1.2.2.2.2.1) x.1.2.1))) x.1.2.1), ((0 : Int), ())), ((y1.2.1.1, (y1.2.1.2.1, (y1.2.1.2.2.1, ()))), ())))
  none))

noncomputable def P_ref08_Table_Used_L0 (x : S7x3 × Unit) (y1 : S7x6 × Unit) : Option ((S7x6 × Unit) ⊕ (S7x6 × Unit)) :=
  way1 (sel (ltI y1.1.2.1 (len x.1.2.2.1))
  (obind (idx x.1.2.2.1 y1.1.2.1) (fun y2 => some (Sum.inl ((iadd IntKind.i64 (iadd IntKind.i64 y1.1.1 64) (len y2.2.2.2.2.1), (iadd IntKind.i64 y1.1.2.1 1, ())), ()))))
  (some (Sum.inr (0, ((y1.1.1, (y1.1.2.1, ())), ())))))

noncomputable def P_ref08_Table_Used (x : S7x3 × Unit) : Option (Int × Unit) :=
  obind (Loop (P_ref08_Table_Used_L0 x) (((0 : Int), ((0 : Int), ())), ())) (fun y1 => some (y1.1.1, ()))

noncomputable def P_ref08_Table_fits (x : (S7x0 × Int × Unit) × S7x3 × Unit) : Option S7x19 :=
  sel (ltI 1048576 x.1.2.1)
  (some (((5 : Int), ()), ((x.2.1.1, (x.2.1.2.1, (x.2.1.2.2.1, ()))), ())))
  (obind (P_ref08_Table_Used ((x.2.1.1, (x.2.1.2.1, (x.2.1.2.2.1, ()))), ())) (fun y1 => sel (ltI (isub IntKind.i64 x.2.1.1 y1.1) (isub IntKind.i64 x.1.2.1 (len x.1.1.2.2.2.2.1)))
  (some (((6 : Int), ()), ((x.2.1.1, (x.2.1.2.1, (x.2.1.2.2.1, ()))), ())))
  (some (((0 : Int), ()), ((x.2.1.1, (x.2.1.2.1, (x.2.1.2.2.1, ()))), ())))))

noncomputable def P_ref08_long_L0 (x : Sb × Int × Unit) (y1 : (Unit × Unit) × (List (Int)) × Unit) : Option (((Unit × Unit) × (List (Int)) × Unit) ⊕ ((Unit × Unit) × (List (Int)) × Unit)) :=
  way1 (sel (ltI (len y1.2.1) x.2.1)
  (sel (fits (plus (len y1.2.1) (len ([(0 : Int)] : List (Int)))))
  (some (Sum.inl (((), ()), (app y1.2.1 ([(0 : Int)] : List (Int)), ()))))
  none)
  (some (Sum.inr (0, (((), ()), (y1.2.1, ()))))))

noncomputable def P_ref08_long (x : Sb × Int × Unit) : Option (Sb × Unit) :=
  sel (fits (len x.1))
  (obind (Loop (P_ref08_long_L0 x) (((), ()), (bytesInts x.1, ()))) (fun y1 => some (intsBytes y1.2.1, ())))
  none

noncomputable def P_ref08_Table_Write (x : (Int × Int × Sb × Unit) × S7x3 × Unit) : Option S7x19 :=
  obind (P_ref08_Table_file ((x.1.1, (x.1.2.1, ((0 : Int), ()))), ((x.2.1.1, (x.2.1.2.1, (x.2.1.2.2.1, ()))), ()))) (fun y1 => sel (nt (eqI y1.1.2.1 0))
  (some ((y1.1.2.1, ()), ((y1.2.1.1, (y1.2.1.2.1, (y1.2.1.2.2.1, ()))), ())))
  (sel (sel (nt (ltI 1048576 x.1.2.1))
  (ltI 1048576 (iadd IntKind.i64 x.1.2.1 (len x.1.2.2.1)))
  true)
  (some (((5 : Int), ()), ((y1.2.1.1, (y1.2.1.2.1, (y1.2.1.2.2.1, ()))), ())))
  (sel (eqS x.1.2.2.1 ([] : List (UInt8)))
  (some (((0 : Int), ()), ((y1.2.1.1, (y1.2.1.2.1, (y1.2.1.2.2.1, ()))), ())))
  (obind (P_ref08_Table_fits ((y1.1.1, (imax (len y1.1.1.2.2.2.2.1) (iadd IntKind.i64 x.1.2.1 (len x.1.2.2.1)), ())), ((y1.2.1.1, (y1.2.1.2.1, (y1.2.1.2.2.1, ()))), ()))) (fun y2 => sel (nt (eqI y2.1.1 0))
  (some ((y2.1.1, ()), ((y2.2.1.1, (y2.2.1.2.1, (y2.2.1.2.2.1, ()))), ())))
  (obind (P_ref08_long (y1.1.1.2.2.2.2.1, (imax (len y1.1.1.2.2.2.2.1) (iadd IntKind.i64 x.1.2.1 (len x.1.2.2.1)), ()))) (fun y3 => sel (inside 0 x.1.2.1 (len y3.1))
  (sel (fits (plus (len (sub y3.1 (0 : Int) (minus x.1.2.1 0))) (len x.1.2.2.1)))
  (sel (inside (iadd IntKind.i64 x.1.2.1 (len x.1.2.2.1)) (len y3.1) (len y3.1))
  (sel (fits (plus (len (app (sub y3.1 (0 : Int) (minus x.1.2.1 0)) x.1.2.2.1)) (len (sub y3.1 (iadd IntKind.i64 x.1.2.1 (len x.1.2.2.1)) (minus (len y3.1) (iadd IntKind.i64 x.1.2.1 (len x.1.2.2.1)))))))
  (obind (P_ref08_Table_set (((y1.1.1.1, (y1.1.1.2.1, (y1.1.1.2.2.1, (y1.1.1.2.2.2.1, (app (app (sub y3.1 (0 : Int) (minus x.1.2.1 0)) x.1.2.2.1) (sub y3.1 (iadd IntKind.i64 x.1.2.1 (len x.1.2.2.1)) (minus (len y3.1) (iadd IntKind.i64 x.1.2.1 (len x.1.2.2.1)))), y1.1.1.2.2.2.2.2))))), ()), ((y2.2.1.1, (y2.2.1.2.1, (y2.2.1.2.2.1, ()))), ()))) (fun y4 => some (((0 : Int), ()), ((y4.2.1.1, (y4.2.1.2.1, (y4.2.1.2.2.1, ()))), ()))))
  none)
  none)
  none)
  none)))))))

noncomputable def P_ref08_Table_Truncate (x : S7x6 × S7x3 × Unit) : Option S7x19 :=
  obind (P_ref08_Table_file ((x.1.1, (x.1.2.1, ((0 : Int), ()))), ((x.2.1.1, (x.2.1.2.1, (x.2.1.2.2.1, ()))), ()))) (fun y1 => sel (nt (eqI y1.1.2.1 0))
  (some ((y1.1.2.1, ()), ((y1.2.1.1, (y1.2.1.2.1, (y1.2.1.2.2.1, ()))), ())))
  (obind (P_ref08_Table_fits ((y1.1.1, (x.1.2.1, ())), ((y1.2.1.1, (y1.2.1.2.1, (y1.2.1.2.2.1, ()))), ()))) (fun y2 => sel (nt (eqI y2.1.1 0))
  (some ((y2.1.1, ()), ((y2.2.1.1, (y2.2.1.2.1, (y2.2.1.2.2.1, ()))), ())))
  (obind (P_ref08_long (y1.1.1.2.2.2.2.1, (x.1.2.1, ()))) (fun y3 => sel (inside 0 x.1.2.1 (len y3.1))
  (obind (P_ref08_Table_set (((y1.1.1.1, (y1.1.1.2.1, (y1.1.1.2.2.1, (y1.1.1.2.2.2.1, (sub y3.1 (0 : Int) (minus x.1.2.1 0), y1.1.1.2.2.2.2.2))))), ()), ((y2.2.1.1, (y2.2.1.2.1, (y2.2.1.2.2.1, ()))), ()))) (fun y4 => some (((0 : Int), ()), ((y4.2.1.1, (y4.2.1.2.1, (y4.2.1.2.2.1, ()))), ()))))
  none)))))

noncomputable def P_ref09_FS_handled (x : (Int × S7x2 × Unit) × S7x1 × Unit) : Option ((S7x4 × Unit) × S7x1 × Unit) :=
  obind (P_ref09_FS_holds ((x.1.1, (x.1.2.1.2.2.2.1, ())), (((x.2.1.1.1, (x.2.1.1.2.1, (x.2.1.1.2.2.1, ()))), (x.2.1.2.1, ())), ()))) (fun y1 => sel (eqI y1.1.1 0)
  (some ((((13 : Int), ((0 : Int), (([] : List (UInt8)), (([] : List Sb), ())))), ()), (((y1.2.1.1.1, (y1.2.1.1.2.1, (y1.2.1.1.2.2.1, ()))), (y1.2.1.2.1, ())), ())))
  (sel (eqI x.1.2.1.1 5)
  (obind (P_ref09_FS_closes ((x.1.1, (x.1.2.1.2.2.2.1, ())), (((y1.2.1.1.1, (y1.2.1.1.2.1, (y1.2.1.1.2.2.1, ()))), (y1.2.1.2.1, ())), ()))) (fun y2 => some ((((0 : Int), ((0 : Int), (([] : List (UInt8)), (([] : List Sb), ())))), ()), (((y2.2.1.1.1, (y2.2.1.1.2.1, (y2.2.1.1.2.2.1, ()))), (y2.2.1.2.1, ())), ()))))
  (sel (eqI x.1.2.1.1 6)
  (obind (P_ref08_Table_Read ((y1.1.1, (x.1.2.1.2.2.2.2.1, (x.1.2.1.2.2.2.2.2.1, ()))), ((y1.2.1.1.1, (y1.2.1.1.2.1, (y1.2.1.1.2.2.1, ()))), ()))) (fun y2 => some (((y2.1.2.1, ((0 : Int), (y2.1.1, (([] : List Sb), ())))), ()), (((y2.2.1.1, (y2.2.1.2.1, (y2.2.1.2.2.1, ()))), (y1.2.1.2.1, ())), ()))))
  (sel (eqI x.1.2.1.1 7)
  (obind (P_ref08_Table_Write ((y1.1.1, (x.1.2.1.2.2.2.2.1, (x.1.2.1.2.2.2.2.2.2.1, ()))), ((y1.2.1.1.1, (y1.2.1.1.2.1, (y1.2.1.1.2.2.1, ()))), ()))) (fun y2 => some (((y2.1.1, ((0 : Int), (([] : List (UInt8)), (([] : List Sb), ())))), ()), (((y2.2.1.1, (y2.2.1.2.1, (y2.2.1.2.2.1, ()))), (y1.2.1.2.1, ())), ()))))
  (sel (eqI x.1.2.1.1 8)
  (obind (P_ref08_Table_Truncate ((y1.1.1, (x.1.2.1.2.2.2.2.2.1, ())), ((y1.2.1.1.1, (y1.2.1.1.2.1, (y1.2.1.1.2.2.1, ()))), ()))) (fun y2 => some (((y2.1.1, ((0 : Int), (([] : List (UInt8)), (([] : List Sb), ())))), ()), (((y2.2.1.1, (y2.2.1.2.1, (y2.2.1.2.2.1, ()))), (y1.2.1.2.1, ())), ()))))
  (obind (P_ref08_Table_Read ((y1.1.1, ((0 : Int), ((1048576 : Int), ()))), ((y1.2.1.1.1, (y1.2.1.1.2.1, (y1.2.1.1.2.2.1, ()))), ()))) (fun y2 => some (((y2.1.2.1, (len y2.1.1, (([] : List (UInt8)), (([] : List Sb), ())))), ()), (((y2.2.1.1, (y2.2.1.2.1, (y2.2.1.2.2.1, ()))), (y1.2.1.2.1, ())), ())))))))))

noncomputable def P_ref08_isName_L0 (x : Sb × Unit) (y1 : S7x24 × Unit) : Option S7x14 :=
  sel (ltI y1.1.2.1 (len x.1))
  (obind (idx x.1 y1.1.2.1) (fun y2 => obind (sel (nt (eqI (u8 y2) 0))
  (obind (idx x.1 y1.1.2.1) (fun y3 => some (eqI (u8 y3) 47)))
  (some true)) (fun y3 => sel y3
  (some (Sum.inr (1, ((false, (y1.1.2.1, ())), ()))))
  (some (Sum.inl ((y1.1.1, (iadd IntKind.i64 y1.1.2.1 1, ())), ()))))))
  (some (Sum.inr (0, ((y1.1.1, (y1.1.2.1, ())), ()))))

noncomputable def P_ref08_isName (x : Sb × Unit) : Option (Bool × Unit) :=
  obind (Loop (P_ref08_isName_L0 x) ((false, ((0 : Int), ())), ())) (fun y1 => sel (eqN y1.1 0)
  (some (sel (sel (sel (leI 1 (len x.1))
  (leI (len x.1) 32)
  false)
  (nt (eqS x.1 ([46] : List UInt8)))
  false)
  (nt (eqS x.1 ([46, 46] : List UInt8)))
  false, ()))
  (some (y1.2.1.1, ())))

noncomputable def P_ref08_Table_place (x : (Int × Sb × Unit) × S7x3 × Unit) : Option ((S7x0 × Int × Unit) × S7x3 × Unit) :=
  obind (P_ref08_Table_get ((x.1.1, ()), ((x.2.1.1, (x.2.1.2.1, (x.2.1.2.2.1, ()))), ()))) (fun y1 => sel (nt y1.1.2.1)
  (some ((y1.1.1, ((3 : Int), ())), ((y1.2.1.1, (y1.2.1.2.1, (y1.2.1.2.2.1, ()))), ())))
  (sel (nt y1.1.1.2.1)
  (some ((y1.1.1, ((12 : Int), ())), ((y1.2.1.1, (y1.2.1.2.1, (y1.2.1.2.2.1, ()))), ())))
  (obind (P_ref08_isName (x.1.2.1, ())) (fun y2 => sel (nt y2.1)
  (some ((y1.1.1, ((1 : Int), ())), ((y1.2.1.1, (y1.2.1.2.1, (y1.2.1.2.2.1, ()))), ())))
  (some ((y1.1.1, ((0 : Int), ())), ((y1.2.1.1, (y1.2.1.2.1, (y1.2.1.2.2.1, ()))), ())))))))

noncomputable def P_ref08_leads_L0 (x : S7x0 × Sb × Unit) (y1 : S7x6 × Unit) : Option ((S7x6 × Unit) ⊕ (Nat × S7x6 × Unit)) :=
  sel (ltI y1.1.2.1 (len x.1.2.2.2.2.2.1))
  (obind (idx x.1.2.2.2.2.2.1 y1.1.2.1) (fun y2 => sel (eqS y2.1 x.2.1)
  (obind (idx x.1.2.2.2.2.2.1 y1.1.2.1) (fun y3 => some (Sum.inr (1, ((y3.2.1, (y1.1.2.1, ())), ())))))
  (some (Sum.inl ((y1.1.1, (iadd IntKind.i64 y1.1.2.1 1, ())), ())))))
  (some (Sum.inr (0, ((y1.1.1, (y1.1.2.1, ())), ()))))

noncomputable def P_ref08_leads (x : S7x0 × Sb × Unit) : Option (Int × Unit) :=
  obind (Loop (P_ref08_leads_L0 x) (((0 : Int), ((0 : Int), ())), ())) (fun y1 => sel (eqN y1.1 0)
  (some ((0 : Int), ()))
  (some (y1.2.1.1, ())))

noncomputable def P_ref08_Table_Find (x : (Int × Sb × Unit) × S7x3 × Unit) : Option (S7x6 × S7x3 × Unit) :=
  obind (P_ref08_Table_place ((x.1.1, (x.1.2.1, ())), ((x.2.1.1, (x.2.1.2.1, (x.2.1.2.2.1, ()))), ()))) (fun y1 => sel (nt (eqI y1.1.2.1 0))
  (some (((0 : Int), (y1.1.2.1, ())), ((y1.2.1.1, (y1.2.1.2.1, (y1.2.1.2.2.1, ()))), ())))
  (obind (P_ref08_leads (y1.1.1, (x.1.2.1, ()))) (fun y2 => sel (eqI y2.1 0)
  (some (((0 : Int), ((3 : Int), ())), ((y1.2.1.1, (y1.2.1.2.1, (y1.2.1.2.2.1, ()))), ())))
  (some ((y2.1, ((0 : Int), ())), ((y1.2.1.1, (y1.2.1.2.1, (y1.2.1.2.2.1, ()))), ()))))))

noncomputable def P_ref09_FS_walk_L0 (x : ((List Sb) × Unit) × S7x1 × Unit) (y1 : (Int × Int × Int × Int × Unit) × S7x8 × S7x7 × (List S7x5) × (List S7x0) × Unit) : Option (((Int × Int × Int × Int × Unit) × S7x8 × S7x7 × (List S7x5) × (List S7x0) × Unit) ⊕ (Nat × (Int × Int × Int × Int × Unit) × S7x8 × S7x7 × (List S7x5) × (List S7x0) × Unit)) :=
  sel (ltI y1.1.2.2.2.1 (len x.1.1))
  (obind (idx x.1.1 y1.1.2.2.2.1) (fun y2 => obind (P_ref08_Table_Find ((y1.1.2.2.1, (y2, ())), ((y1.2.2.1.1, (y1.2.2.1.2.1, (y1.2.2.2.2.1, ()))), ()))) (fun y3 => sel (nt (eqI y3.1.2.1 0))
  (some (Sum.inr (1, (((0 : Int), (y3.1.2.1, (y1.1.2.2.1, (y1.1.2.2.2.1, ())))), (((), ((), y1.2.1.2.2)), ((y3.2.1.1, (y3.2.1.2.1, ((), ()))), (y1.2.2.2.1, (y3.2.1.2.2.1, ()))))))))
  (some (Sum.inl ((y1.1.1, (y1.1.2.1, (y3.1.1, (iadd IntKind.i64 y1.1.2.2.2.1 1, ())))), (((), ((), y1.2.1.2.2)), ((y3.2.1.1, (y3.2.1.2.1, ((), ()))), (y1.2.2.2.1, (y3.2.1.2.2.1, ()))))))))))
  (some (Sum.inr (0, ((y1.1.1, (y1.1.2.1, (y1.1.2.2.1, (y1.1.2.2.2.1, ())))), (((), ((), y1.2.1.2.2)), ((y1.2.2.1.1, (y1.2.2.1.2.1, ((), y1.2.2.1.2.2.2))), (y1.2.2.2.1, (y1.2.2.2.2.1, ()))))))))

noncomputable def P_ref09_FS_walk (x : ((List Sb) × Unit) × S7x1 × Unit) : Option (S7x6 × S7x1 × Unit) :=
  obind (Loop (P_ref09_FS_walk_L0 x) (((0 : Int), ((0 : Int), ((1 : Int), ((0 : Int), ())))), (((), ((), ())), ((x.2.1.1.1, (x.2.1.1.2.1, ((), ()))), (x.2.1.2.1, (x.2.1.1.2.2.1, ())))))) (fun y1 => sel (eqN y1.1 0)
  (some ((y1.2.1.2.2.1, ((0 : Int), ())), (((y1.2.2.2.1.1, (y1.2.2.2.1.2.1, (y1.2.2.2.2.2.1, ()))), (y1.2.2.2.2.1, ())), ())))
  (some ((y1.2.1.1, (y1.2.1.2.1, ())), (((y1.2.2.2.1.1, (y1.2.2.2.1.2.1, (y1.2.2.2.2.2.1, ()))), (y1.2.2.2.2.1, ())), ()))))

noncomputable def P_ref08_Table_List_L0 (y1 : (S7x0 × Bool × Unit) × S7x3 × Unit) (y2 : S7x12 × (List Sb) × Unit) : Option ((S7x12 × (List Sb) × Unit) ⊕ (S7x12 × (List Sb) × Unit)) :=
  way1 (sel (ltI y2.1.2.1 (len y1.1.1.2.2.2.2.2.1))
  (obind (idx y1.1.1.2.2.2.2.2.1 y2.1.2.1) (fun y3 => sel (fits (plus (len y2.2.1) (len ([y3.1] : List Sb))))
  (some (Sum.inl (((), (iadd IntKind.i64 y2.1.2.1 1, ())), (app y2.2.1 ([y3.1] : List Sb), ()))))
  none))
  (some (Sum.inr (0, (((), (y2.1.2.1, ())), (y2.2.1, ()))))))

noncomputable def P_ref08_Table_List (x : (Int × Unit) × S7x3 × Unit) : Option (((List Sb) × Int × Unit) × S7x3 × Unit) :=
  obind (P_ref08_Table_get ((x.1.1, ()), ((x.2.1.1, (x.2.1.2.1, (x.2.1.2.2.1, ()))), ()))) (fun y1 => sel (nt y1.1.2.1)
  (some ((([] : List Sb), ((3 : Int), ())), ((y1.2.1.1, (y1.2.1.2.1, (y1.2.1.2.2.1, ()))), ())))
  (sel (nt y1.1.1.2.1)
  (some ((([] : List Sb), ((12 : Int), ())), ((y1.2.1.1, (y1.2.1.2.1, (y1.2.1.2.2.1, ()))), ())))
  (obind (Loop (P_ref08_Table_List_L0 y1) (((), ((0 : Int), ())), (([] : List Sb), ()))) (fun y2 => some ((y2.2.1, ((0 : Int), ())), ((y1.2.1.1, (y1.2.1.2.1, (y1.2.1.2.2.1, ()))), ()))))))

noncomputable def P_ref09_FS_many_L0 (x : (Int × Unit) × S7x1 × Unit) (y1 : S7x6 × Unit) : Option ((S7x6 × Unit) ⊕ (S7x6 × Unit)) :=
  way1 (sel (ltI y1.1.2.1 (len x.2.1.2.1))
  (sel (within y1.1.2.1 (len x.2.1.2.1))
  (obind (idx x.2.1.2.1 y1.1.2.1) (fun y2 => some (Sum.inl ((((sel (eqI y2.1 x.1.1)
  ((iadd IntKind.i64 y1.1.1 1, ()), ())
  ((y1.1.1, ()), ())).1).1, (iadd IntKind.i64 y1.1.2.1 1, ())), ()))))
  none)
  (some (Sum.inr (0, ((y1.1.1, (y1.1.2.1, ())), ())))))

noncomputable def P_ref09_FS_many (x : (Int × Unit) × S7x1 × Unit) : Option ((Int × Unit) × S7x1 × Unit) :=
  obind (Loop (P_ref09_FS_many_L0 x) (((0 : Int), ((0 : Int), ())), ())) (fun y1 => some ((y1.1.1, ()), (((x.2.1.1.1, (x.2.1.1.2.1, (x.2.1.1.2.2.1, ()))), (x.2.1.2.1, ())), ())))

noncomputable def P_ref09_FS_place (x : (Sb × Unit) × S7x1 × Unit) : Option S7x15 :=
  obind (P_ref07_Parts (x.1.1, ())) (fun y1 => sel (eqI (len y1.1) 0)
  (some (((0 : Int), (([] : List (UInt8)), ((1 : Int), ()))), (((x.2.1.1.1, (x.2.1.1.2.1, (x.2.1.1.2.2.1, ()))), (x.2.1.2.1, ())), ())))
  (sel (inside 0 (isub IntKind.i64 (len y1.1) 1) (len y1.1))
  (obind (P_ref09_FS_walk ((sub y1.1 (0 : Int) (minus (isub IntKind.i64 (len y1.1) 1) 0), ()), (((x.2.1.1.1, (x.2.1.1.2.1, (x.2.1.1.2.2.1, ()))), (x.2.1.2.1, ())), ()))) (fun y2 => obind (idx y1.1 (isub IntKind.i64 (len y1.1) 1)) (fun y3 => some ((y2.1.1, (y3, (y2.1.2.1, ()))), (((y2.2.1.1.1, (y2.2.1.1.2.1, (y2.2.1.1.2.2.1, ()))), (y2.2.1.2.1, ())), ())))))
  none))

noncomputable def P_ref08_with_L0 (x : S7x0 × S7x10 × Unit) (y1 : (Int × Unit) × Unit) : Option (((Int × Unit) × Unit) ⊕ ((Int × Unit) × Unit)) :=
  way1 (sel (ltI y1.1.1 (len x.1.2.2.2.2.2.1))
  (obind (idx x.1.2.2.2.2.2.1 y1.1.1) (fun y2 => sel (ltS y2.1 x.2.1.1)
  (some (Sum.inl ((iadd IntKind.i64 y1.1.1 1, ()), ())))
  (some (Sum.inr (0, ((y1.1.1, ()), ()))))))
  (some (Sum.inr (0, ((y1.1.1, ()), ())))))

noncomputable def P_ref08_with (x : S7x0 × S7x10 × Unit) : Option (S7x0 × Unit) :=
  obind (Loop (P_ref08_with_L0 x) (((0 : Int), ()), ())) (fun y1 => sel (inside 0 y1.1.1 (len x.1.2.2.2.2.2.1))
  (sel (fits (plus (len ([] : List S7x10)) (len (sub x.1.2.2.2.2.2.1 (0 : Int) (minus y1.1.1 0)))))
  (sel (fits (plus (len (app ([] : List S7x10) (sub x.1.2.2.2.2.2.1 (0 : Int) (minus y1.1.1 0)))) (len ([x.2.1] : List S7x10))))
  (sel (inside y1.1.1 (len x.1.2.2.2.2.2.1) (len x.1.2.2.2.2.2.1))
  (sel (fits (plus (len (app (app ([] : List S7x10) (sub x.1.2.2.2.2.2.1 (0 : Int) (minus y1.1.1 0))) ([x.2.1] : List S7x10))) (len (sub x.1.2.2.2.2.2.1 y1.1.1 (minus (len x.1.2.2.2.2.2.1) y1.1.1)))))
  (some ((x.1.1, (x.1.2.1, (x.1.2.2.1, (x.1.2.2.2.1, (x.1.2.2.2.2.1, (app (app (app ([] : List S7x10) (sub x.1.2.2.2.2.2.1 (0 : Int) (minus y1.1.1 0))) ([x.2.1] : List S7x10)) (sub x.1.2.2.2.2.2.1 y1.1.1 (minus (len x.1.2.2.2.2.2.1) y1.1.1)), x.1.2.2.2.2.2.2)))))), ()))
  none)
  none)
  none)
  none)
  none)

noncomputable def P_ref08_Table_Make (x : (Int × Sb × Bool × Unit) × S7x3 × Unit) : Option (S7x6 × S7x3 × Unit) :=
  obind (P_ref08_Table_place ((x.1.1, (x.1.2.1, ())), ((x.2.1.1, (x.2.1.2.1, (x.2.1.2.2.1, ()))), ()))) (fun y1 => sel (nt (eqI y1.1.2.1 0))
  (some (((0 : Int), (y1.1.2.1, ())), ((y1.2.1.1, (y1.2.1.2.1, (y1.2.1.2.2.1, ()))), ())))
  (obind (P_ref08_leads (y1.1.1, (x.1.2.1, ()))) (fun y2 => sel (ltI 0 y2.1)
  (some (((0 : Int), ((4 : Int), ())), ((y1.2.1.1, (y1.2.1.2.1, (y1.2.1.2.2.1, ()))), ())))
  (sel (leI 4096 (len y1.2.1.2.2.1))
  (some (((0 : Int), ((5 : Int), ())), ((y1.2.1.1, (y1.2.1.2.1, (y1.2.1.2.2.1, ()))), ())))
  (obind (P_ref08_Table_Used ((y1.2.1.1, (y1.2.1.2.1, (y1.2.1.2.2.1, ()))), ())) (fun y3 => sel (ltI y1.2.1.1 (iadd IntKind.i64 y3.1 64))
  (some (((0 : Int), ((6 : Int), ())), ((y1.2.1.1, (y1.2.1.2.1, (y1.2.1.2.2.1, ()))), ())))
  (obind (P_ref08_with (y1.1.1, ((x.1.2.1, (y1.2.1.2.1, ())), ()))) (fun y4 => obind (P_ref08_Table_set ((y4.1, ()), ((y1.2.1.1, (iadd IntKind.i64 y1.2.1.2.1 1, (y1.2.1.2.2.1, ()))), ()))) (fun y5 => sel (fits (plus (len y5.2.1.2.2.1) (len ([(y1.2.1.2.1, (x.1.2.2.1, ((1 : Int), ((0 : Int), (([] : List (UInt8)), (([] : List S7x10), ()))))))] : List S7x0))))
  (some ((y1.2.1.2.1, ((0 : Int), ())), ((y5.2.1.1, (y5.2.1.2.1, (app y5.2.1.2.2.1 ([(y1.2.1.2.1, (x.1.2.2.1, ((1 : Int), ((0 : Int), (([] : List (UInt8)), (([] : List S7x10), ()))))))] : List S7x0), ()))), ())))
  none)))))))))

noncomputable def P_ref08_without_L0 (x : S7x0 × Sb × Unit) (y1 : S7x12 × (List S7x10) × Unit) : Option ((S7x12 × (List S7x10) × Unit) ⊕ (S7x12 × (List S7x10) × Unit)) :=
  way1 (sel (ltI y1.1.2.1 (len x.1.2.2.2.2.2.1))
  (obind (idx x.1.2.2.2.2.2.1 y1.1.2.1) (fun y2 => obind (sel (nt (eqS y2.1 x.2.1))
  (obind (idx x.1.2.2.2.2.2.1 y1.1.2.1) (fun y3 => sel (fits (plus (len y1.2.1) (len ([y3] : List S7x10))))
  (some (((), ()), (app y1.2.1 ([y3] : List S7x10), ())))
  none))
  (some (((), ()), (y1.2.1, ())))) (fun y3 => some (Sum.inl (((), (iadd IntKind.i64 y1.1.2.1 1, ())), (y3.2.1, ()))))))
  (some (Sum.inr (0, (((), (y1.1.2.1, ())), (y1.2.1, ()))))))

noncomputable def P_ref08_without (x : S7x0 × Sb × Unit) : Option (S7x0 × Unit) :=
  obind (Loop (P_ref08_without_L0 x) (((), ((0 : Int), ())), (([] : List S7x10), ()))) (fun y1 => some ((x.1.1, (x.1.2.1, (x.1.2.2.1, (x.1.2.2.2.1, (x.1.2.2.2.2.1, (y1.2.1, x.1.2.2.2.2.2.2)))))), ()))

noncomputable def P_ref08_Table_Remove (x : (Int × Sb × Unit) × S7x3 × Unit) : Option S7x19 :=
  obind (P_ref08_Table_Find ((x.1.1, (x.1.2.1, ())), ((x.2.1.1, (x.2.1.2.1, (x.2.1.2.2.1, ()))), ()))) (fun y1 => sel (nt (eqI y1.1.2.1 0))
  (some ((y1.1.2.1, ()), ((y1.2.1.1, (y1.2.1.2.1, (y1.2.1.2.2.1, ()))), ())))
  (obind (P_ref08_Table_get ((y1.1.1, ()), ((y1.2.1.1, (y1.2.1.2.1, (y1.2.1.2.2.1, ()))), ()))) (fun y2 => sel (nt y2.1.1.2.1)
  (some (((12 : Int), ()), ((y2.2.1.1, (y2.2.1.2.1, (y2.2.1.2.2.1, ()))), ())))
  (sel (ltI 0 (len y2.1.1.2.2.2.2.2.1))
  (some (((7 : Int), ()), ((y2.2.1.1, (y2.2.1.2.1, (y2.2.1.2.2.1, ()))), ())))
  (obind (P_ref08_Table_get ((x.1.1, ()), ((y2.2.1.1, (y2.2.1.2.1, (y2.2.1.2.2.1, ()))), ()))) (fun y3 => obind (P_ref08_without (y3.1.1, (x.1.2.1, ()))) (fun y4 => obind (P_ref08_Table_set ((y4.1, ()), ((y3.2.1.1, (y3.2.1.2.1, (y3.2.1.2.2.1, ()))), ()))) (fun y5 => obind (P_ref08_Table_set (((y2.1.1.1, (y2.1.1.2.1, ((0 : Int), y2.1.1.2.2.2))), ()), ((y5.2.1.1, (y5.2.1.2.1, (y5.2.1.2.2.1, ()))), ()))) (fun y6 => some (((0 : Int), ()), ((y6.2.1.1, (y6.2.1.2.1, (y6.2.1.2.2.1, ()))), ())))))))))))

noncomputable def P_ref08_Table_Unlink (x : (Int × Sb × Unit) × S7x3 × Unit) : Option S7x19 :=
  obind (P_ref08_Table_Find ((x.1.1, (x.1.2.1, ())), ((x.2.1.1, (x.2.1.2.1, (x.2.1.2.2.1, ()))), ()))) (fun y1 => sel (nt (eqI y1.1.2.1 0))
  (some ((y1.1.2.1, ()), ((y1.2.1.1, (y1.2.1.2.1, (y1.2.1.2.2.1, ()))), ())))
  (obind (P_ref08_Table_get ((y1.1.1, ()), ((y1.2.1.1, (y1.2.1.2.1, (y1.2.1.2.2.1, ()))), ()))) (fun y2 => sel y2.1.1.2.1
  (some (((12 : Int), ()), ((y2.2.1.1, (y2.2.1.2.1, (y2.2.1.2.2.1, ()))), ())))
  (obind (P_ref08_Table_get ((x.1.1, ()), ((y2.2.1.1, (y2.2.1.2.1, (y2.2.1.2.2.1, ()))), ()))) (fun y3 => obind (P_ref08_without (y3.1.1, (x.1.2.1, ()))) (fun y4 => obind (P_ref08_Table_set ((y4.1, ()), ((y3.2.1.1, (y3.2.1.2.1, (y3.2.1.2.2.1, ()))), ()))) (fun y5 => obind (P_ref08_Table_set (((y2.1.1.1, (y2.1.1.2.1, (isub IntKind.i64 y2.1.1.2.2.1 1, y2.1.1.2.2.2))), ()), ((y5.2.1.1, (y5.2.1.2.1, (y5.2.1.2.2.1, ()))), ()))) (fun y6 => some (((0 : Int), ()), ((y6.2.1.1, (y6.2.1.2.1, (y6.2.1.2.2.1, ()))), ()))))))))))

noncomputable def P_ref08_Table_Hold (x : (Int × Unit) × S7x3 × Unit) : Option S7x19 :=
  obind (P_ref08_Table_file ((x.1.1, ((0 : Int), ((0 : Int), ()))), ((x.2.1.1, (x.2.1.2.1, (x.2.1.2.2.1, ()))), ()))) (fun y1 => sel (nt (eqI y1.1.2.1 0))
  (some ((y1.1.2.1, ()), ((y1.2.1.1, (y1.2.1.2.1, (y1.2.1.2.2.1, ()))), ())))
  (sel (leI 1048576 y1.1.1.2.2.2.1)
  (some (((5 : Int), ()), ((y1.2.1.1, (y1.2.1.2.1, (y1.2.1.2.2.1, ()))), ())))
  (obind (P_ref08_Table_set (((y1.1.1.1, (y1.1.1.2.1, (y1.1.1.2.2.1, (iadd IntKind.i64 y1.1.1.2.2.2.1 1, y1.1.1.2.2.2.2)))), ()), ((y1.2.1.1, (y1.2.1.2.1, (y1.2.1.2.2.1, ()))), ()))) (fun y2 => some (((0 : Int), ()), ((y2.2.1.1, (y2.2.1.2.1, (y2.2.1.2.2.1, ()))), ()))))))

noncomputable def P_ref09_FS_gives_L0 (x : S7x6 × S7x1 × Unit) (y2 : S7x6 × S7x8 × S7x7 × (List S7x5) × (List S7x0) × Unit) : Option ((S7x6 × S7x8 × S7x7 × (List S7x5) × (List S7x0) × Unit) ⊕ (S7x6 × S7x8 × S7x7 × (List S7x5) × (List S7x0) × Unit)) :=
  way1 (sel (ltI y2.1.2.1 8)
  (obind (P_ref09_FS_holds ((x.1.1, (y2.1.1, ())), (((y2.2.2.1.1, (y2.2.2.1.2.1, (y2.2.2.2.2.1, ()))), (y2.2.2.2.1, ())), ()))) (fun y3 => sel (ltI 0 y3.1.1)
  (some (Sum.inl ((iadd IntKind.i64 y2.1.1 1, (iadd IntKind.i64 y2.1.2.1 1, ())), (((), ((), ())), ((y3.2.1.1.1, (y3.2.1.1.2.1, ((), ()))), (y3.2.1.2.1, (y3.2.1.1.2.2.1, ())))))))
  (some (Sum.inr (0, ((y2.1.1, (y2.1.2.1, ())), (((), ((), ())), ((y3.2.1.1.1, (y3.2.1.1.2.1, ((), ()))), (y3.2.1.2.1, (y3.2.1.1.2.2.1, ()))))))))))
  (some (Sum.inr (0, ((y2.1.1, (y2.1.2.1, ())), (((), ((), y2.2.1.2.2)), ((y2.2.2.1.1, (y2.2.2.1.2.1, ((), y2.2.2.1.2.2.2))), (y2.2.2.2.1, (y2.2.2.2.2.1, ())))))))))

noncomputable def P_ref09_FS_gives (x : S7x6 × S7x1 × Unit) : Option ((S7x4 × Unit) × S7x1 × Unit) :=
  obind (P_ref08_Table_Hold ((x.1.2.1, ()), ((x.2.1.1.1, (x.2.1.1.2.1, (x.2.1.1.2.2.1, ()))), ()))) (fun y1 => sel (nt (eqI y1.1.1 0))
  (some (((y1.1.1, ((0 : Int), (([] : List (UInt8)), (([] : List Sb), ())))), ()), (((y1.2.1.1, (y1.2.1.2.1, (y1.2.1.2.2.1, ()))), (x.2.1.2.1, ())), ())))
  (obind (Loop (P_ref09_FS_gives_L0 x) (((1 : Int), ((0 : Int), ())), (((), ((), ())), ((y1.2.1.1, (y1.2.1.2.1, ((), ()))), (x.2.1.2.1, (y1.2.1.2.2.1, ())))))) (fun y2 => sel (fits (plus (len y2.2.2.2.1) (len ([(x.1.1, (y2.1.1, (x.1.2.1, ())))] : List S7x5))))
  (some ((((0 : Int), (y2.1.1, (([] : List (UInt8)), (([] : List Sb), ())))), ()), (((y2.2.2.1.1, (y2.2.2.1.2.1, (y2.2.2.2.2.1, ()))), (app y2.2.2.2.1 ([(x.1.1, (y2.1.1, (x.1.2.1, ())))] : List S7x5), ())), ())))
  none)))

noncomputable def P_ref08_Table_Link (x : (Int × Int × Sb × Unit) × S7x3 × Unit) : Option S7x19 :=
  obind (P_ref08_Table_get ((x.1.1, ()), ((x.2.1.1, (x.2.1.2.1, (x.2.1.2.2.1, ()))), ()))) (fun y1 => sel (nt y1.1.2.1)
  (some (((3 : Int), ()), ((y1.2.1.1, (y1.2.1.2.1, (y1.2.1.2.2.1, ()))), ())))
  (sel y1.1.1.2.1
  (some (((12 : Int), ()), ((y1.2.1.1, (y1.2.1.2.1, (y1.2.1.2.2.1, ()))), ())))
  (obind (P_ref08_Table_place ((x.1.2.1, (x.1.2.2.1, ())), ((y1.2.1.1, (y1.2.1.2.1, (y1.2.1.2.2.1, ()))), ()))) (fun y2 => sel (nt (eqI y2.1.2.1 0))
  (some ((y2.1.2.1, ()), ((y2.2.1.1, (y2.2.1.2.1, (y2.2.1.2.2.1, ()))), ())))
  (obind (P_ref08_leads (y2.1.1, (x.1.2.2.1, ()))) (fun y3 => sel (ltI 0 y3.1)
  (some (((4 : Int), ()), ((y2.2.1.1, (y2.2.1.2.1, (y2.2.1.2.2.1, ()))), ())))
  (obind (P_ref08_with (y2.1.1, ((x.1.2.2.1, (x.1.1, ())), ()))) (fun y4 => obind (P_ref08_Table_set ((y4.1, ()), ((y2.2.1.1, (y2.2.1.2.1, (y2.2.1.2.2.1, ()))), ()))) (fun y5 => obind (P_ref08_Table_set (((y1.1.1.1, (y1.1.1.2.1, (iadd IntKind.i64 y1.1.1.2.2.1 1, y1.1.1.2.2.2))), ()), ((y5.2.1.1, (y5.2.1.2.1, (y5.2.1.2.2.1, ()))), ()))) (fun y6 => some (((0 : Int), ()), ((y6.2.1.1, (y6.2.1.2.1, (y6.2.1.2.2.1, ()))), ()))))))))))))

noncomputable def P_ref09_FS_links (x : (Int × Sb × Sb × Unit) × S7x1 × Unit) : Option ((S7x4 × Unit) × S7x1 × Unit) :=
  obind (P_ref08_Table_Find ((x.1.1, (x.1.2.1, ())), ((x.2.1.1.1, (x.2.1.1.2.1, (x.2.1.1.2.2.1, ()))), ()))) (fun y1 => sel (nt (eqI y1.1.2.1 0))
  (some (((y1.1.2.1, ((0 : Int), (([] : List (UInt8)), (([] : List Sb), ())))), ()), (((y1.2.1.1, (y1.2.1.2.1, (y1.2.1.2.2.1, ()))), (x.2.1.2.1, ())), ())))
  (obind (P_ref09_FS_place ((x.1.2.2.1, ()), (((y1.2.1.1, (y1.2.1.2.1, (y1.2.1.2.2.1, ()))), (x.2.1.2.1, ())), ()))) (fun y2 => sel (nt (eqI y2.1.2.2.1 0))
  (some (((y2.1.2.2.1, ((0 : Int), (([] : List (UInt8)), (([] : List Sb), ())))), ()), (((y2.2.1.1.1, (y2.2.1.1.2.1, (y2.2.1.1.2.2.1, ()))), (y2.2.1.2.1, ())), ())))
  (obind (P_ref08_Table_Link ((y1.1.1, (y2.1.1, (y2.1.2.1, ()))), ((y2.2.1.1.1, (y2.2.1.1.2.1, (y2.2.1.1.2.2.1, ()))), ()))) (fun y3 => some (((y3.1.1, ((0 : Int), (([] : List (UInt8)), (([] : List Sb), ())))), ()), (((y3.2.1.1, (y3.2.1.2.1, (y3.2.1.2.2.1, ()))), (y2.2.1.2.1, ())), ())))))))

noncomputable def P_ref08_Table_Rename (x : (Int × Sb × Int × Sb × Unit) × S7x3 × Unit) : Option S7x19 :=
  obind (P_ref08_Table_Find ((x.1.1, (x.1.2.1, ())), ((x.2.1.1, (x.2.1.2.1, (x.2.1.2.2.1, ()))), ()))) (fun y1 => sel (nt (eqI y1.1.2.1 0))
  (some ((y1.1.2.1, ()), ((y1.2.1.1, (y1.2.1.2.1, (y1.2.1.2.2.1, ()))), ())))
  (obind (P_ref08_Table_get ((y1.1.1, ()), ((y1.2.1.1, (y1.2.1.2.1, (y1.2.1.2.2.1, ()))), ()))) (fun y2 => sel y2.1.1.2.1
  (some (((12 : Int), ()), ((y2.2.1.1, (y2.2.1.2.1, (y2.2.1.2.2.1, ()))), ())))
  (obind (P_ref08_Table_place ((x.1.2.2.1, (x.1.2.2.2.1, ())), ((y2.2.1.1, (y2.2.1.2.1, (y2.2.1.2.2.1, ()))), ()))) (fun y3 => sel (nt (eqI y3.1.2.1 0))
  (some ((y3.1.2.1, ()), ((y3.2.1.1, (y3.2.1.2.1, (y3.2.1.2.2.1, ()))), ())))
  (obind (P_ref08_leads (y3.1.1, (x.1.2.2.2.1, ()))) (fun y4 => sel (eqI y4.1 y1.1.1)
  (some (((0 : Int), ()), ((y3.2.1.1, (y3.2.1.2.1, (y3.2.1.2.2.1, ()))), ())))
  (obind (sel (ltI 0 y4.1)
  (obind (P_ref08_Table_get ((y4.1, ()), ((y3.2.1.1, (y3.2.1.2.1, (y3.2.1.2.2.1, ()))), ()))) (fun y5 => sel y5.1.1.2.1
  (some (1, (((12 : Int), ()), ((y5.2.1.1, (y5.2.1.2.1, ((), ()))), (y5.2.1.2.2.1, ())))))
  (obind (P_ref08_without (y3.1.1, (x.1.2.2.2.1, ()))) (fun y6 => obind (P_ref08_Table_set ((y6.1, ()), ((y5.2.1.1, (y5.2.1.2.1, (y5.2.1.2.2.1, ()))), ()))) (fun y7 => obind (P_ref08_Table_set (((y5.1.1.1, (y5.1.1.2.1, (isub IntKind.i64 y5.1.1.2.2.1 1, y5.1.1.2.2.2))), ()), ((y7.2.1.1, (y7.2.1.2.1, (y7.2.1.2.2.1, ()))), ()))) (fun y8 => some (0, (((0 : Int), ()), ((y8.2.1.1, (y8.2.1.2.1, ((), ()))), (y8.2.1.2.2.1, ()))))))))))
  (some (0, (((0 : Int), ()), ((y3.2.1.1, (y3.2.1.2.1, ((), ()))), (y3.2.1.2.2.1, ())))))) (fun y5 => sel (eqN y5.1 0)
  (obind (P_ref08_Table_get ((x.1.1, ()), ((y5.2.2.1.1, (y5.2.2.1.2.1, (y5.2.2.2.1, ()))), ()))) (fun y6 => obind (P_ref08_without (y6.1.1, (x.1.2.1, ()))) (fun y7 => obind (P_ref08_Table_set ((y7.1, ()), ((y6.2.1.1, (y6.2.1.2.1, (y6.2.1.2.2.1, ()))), ()))) (fun y8 => obind (P_ref08_Table_get ((x.1.2.2.1, ()), ((y8.2.1.1, (y8.2.1.2.1, (y8.2.1.2.2.1, ()))), ()))) (fun y9 => obind (P_ref08_with (y9.1.1, ((x.1.2.2.2.1, (y1.1.1, ())), ()))) (fun y10 => obind (P_ref08_Table_set ((y10.1, ()), ((y9.2.1.1, (y9.2.1.2.1, (y9.2.1.2.2.1, ()))), ()))) (fun y11 => some (((0 : Int), ()), ((y11.2.1.1, (y11.2.1.2.1, (y11.2.1.2.2.1, ()))), ())))))))))
  (some ((y5.2.1.1, ()), ((y5.2.2.1.1, (y5.2.2.1.2.1, (y5.2.2.2.1, ()))), ()))))))))))))

noncomputable def P_ref09_FS_Do (x : (Int × S7x2 × Unit) × S7x1 × Unit) : Option ((S7x4 × Unit) × S7x1 × Unit) :=
  obind (P_ref09_right (x.1.2.1, ())) (fun y1 => sel (nt y1.1)
  (some ((((1 : Int), ((0 : Int), (([] : List (UInt8)), (([] : List Sb), ())))), ()), (((x.2.1.1.1, (x.2.1.1.2.1, (x.2.1.1.2.2.1, ()))), (x.2.1.2.1, ())), ())))
  (sel (((sel (eqI x.1.2.1.1 5)
  ((eqI x.1.2.1.1 5, ()), ())
  ((((sel (eqI x.1.2.1.1 6)
  ((eqI x.1.2.1.1 6, ()), ())
  ((((sel (eqI x.1.2.1.1 7)
  ((eqI x.1.2.1.1 7, ()), ())
  ((((sel (eqI x.1.2.1.1 8)
  ((eqI x.1.2.1.1 8, ()), ())
  ((eqI x.1.2.1.1 9, ()), ())).1).1, ()), ())).1).1, ()), ())).1).1, ()), ())).1).1)
  (obind (P_ref09_FS_handled ((x.1.1, (x.1.2.1, ())), (((x.2.1.1.1, (x.2.1.1.2.1, (x.2.1.1.2.2.1, ()))), (x.2.1.2.1, ())), ()))) (fun y2 => some ((y2.1.1, ()), (((y2.2.1.1.1, (y2.2.1.1.2.1, (y2.2.1.1.2.2.1, ()))), (y2.2.1.2.1, ())), ()))))
  (sel (eqI x.1.2.1.1 13)
  (obind (P_ref07_Parts (x.1.2.1.2.1, ())) (fun y2 => obind (P_ref09_FS_walk ((y2.1, ()), (((x.2.1.1.1, (x.2.1.1.2.1, (x.2.1.1.2.2.1, ()))), (x.2.1.2.1, ())), ()))) (fun y3 => sel (nt (eqI y3.1.2.1 0))
  (some (((y3.1.2.1, ((0 : Int), (([] : List (UInt8)), (([] : List Sb), ())))), ()), (((y3.2.1.1.1, (y3.2.1.1.2.1, (y3.2.1.1.2.2.1, ()))), (y3.2.1.2.1, ())), ())))
  (obind (P_ref08_Table_List ((y3.1.1, ()), ((y3.2.1.1.1, (y3.2.1.1.2.1, (y3.2.1.1.2.2.1, ()))), ()))) (fun y4 => some (((y4.1.2.1, ((0 : Int), (([] : List (UInt8)), (y4.1.1, ())))), ()), (((y4.2.1.1, (y4.2.1.2.1, (y4.2.1.2.2.1, ()))), (y3.2.1.2.1, ())), ())))))))
  (sel (sel (nt (eqI x.1.2.1.1 3))
  (eqI x.1.2.1.1 4)
  true)
  (obind (P_ref09_FS_many ((x.1.1, ()), (((x.2.1.1.1, (x.2.1.1.2.1, (x.2.1.1.2.2.1, ()))), (x.2.1.2.1, ())), ()))) (fun y2 => sel (leI 8 y2.1.1)
  (some ((((5 : Int), ((0 : Int), (([] : List (UInt8)), (([] : List Sb), ())))), ()), (((y2.2.1.1.1, (y2.2.1.1.2.1, (y2.2.1.1.2.2.1, ()))), (y2.2.1.2.1, ())), ())))
  (obind (P_ref09_FS_place ((x.1.2.1.2.1, ()), (((y2.2.1.1.1, (y2.2.1.1.2.1, (y2.2.1.1.2.2.1, ()))), (y2.2.1.2.1, ())), ()))) (fun y3 => sel (nt (eqI y3.1.2.2.1 0))
  (some (((y3.1.2.2.1, ((0 : Int), (([] : List (UInt8)), (([] : List Sb), ())))), ()), (((y3.2.1.1.1, (y3.2.1.1.2.1, (y3.2.1.1.2.2.1, ()))), (y3.2.1.2.1, ())), ())))
  (sel (eqI x.1.2.1.1 1)
  (obind (P_ref08_Table_Make ((y3.1.1, (y3.1.2.1, (true, ()))), ((y3.2.1.1.1, (y3.2.1.1.2.1, (y3.2.1.1.2.2.1, ()))), ()))) (fun y4 => some (((y4.1.2.1, ((0 : Int), (([] : List (UInt8)), (([] : List Sb), ())))), ()), (((y4.2.1.1, (y4.2.1.2.1, (y4.2.1.2.2.1, ()))), (y3.2.1.2.1, ())), ()))))
  (sel (eqI x.1.2.1.1 2)
  (obind (P_ref08_Table_Remove ((y3.1.1, (y3.1.2.1, ())), ((y3.2.1.1.1, (y3.2.1.1.2.1, (y3.2.1.1.2.2.1, ()))), ()))) (fun y4 => some (((y4.1.1, ((0 : Int), (([] : List (UInt8)), (([] : List Sb), ())))), ()), (((y4.2.1.1, (y4.2.1.2.1, (y4.2.1.2.2.1, ()))), (y3.2.1.2.1, ())), ()))))
  (sel (eqI x.1.2.1.1 11)
  (obind (P_ref08_Table_Unlink ((y3.1.1, (y3.1.2.1, ())), ((y3.2.1.1.1, (y3.2.1.1.2.1, (y3.2.1.1.2.2.1, ()))), ()))) (fun y4 => some (((y4.1.1, ((0 : Int), (([] : List (UInt8)), (([] : List Sb), ())))), ()), (((y4.2.1.1, (y4.2.1.2.1, (y4.2.1.2.2.1, ()))), (y3.2.1.2.1, ())), ()))))
  (sel (eqI x.1.2.1.1 3)
  (obind (P_ref08_Table_Make ((y3.1.1, (y3.1.2.1, (false, ()))), ((y3.2.1.1.1, (y3.2.1.1.2.1, (y3.2.1.1.2.2.1, ()))), ()))) (fun y4 => sel (nt (eqI y4.1.2.1 0))
  (some (((y4.1.2.1, ((0 : Int), (([] : List (UInt8)), (([] : List Sb), ())))), ()), (((y4.2.1.1, (y4.2.1.2.1, (y4.2.1.2.2.1, ()))), (y3.2.1.2.1, ())), ())))
  (obind (P_ref09_FS_gives ((x.1.1, (y4.1.1, ())), (((y4.2.1.1, (y4.2.1.2.1, (y4.2.1.2.2.1, ()))), (y3.2.1.2.1, ())), ()))) (fun y5 => some ((y5.1.1, ()), (((y5.2.1.1.1, (y5.2.1.1.2.1, (y5.2.1.1.2.2.1, ()))), (y5.2.1.2.1, ())), ()))))))
  (sel (eqI x.1.2.1.1 4)
  (obind (P_ref08_Table_Find ((y3.1.1, (y3.1.2.1, ())), ((y3.2.1.1.1, (y3.2.1.1.2.1, (y3.2.1.1.2.2.1, ()))), ()))) (fun y4 => sel (nt (eqI y4.1.2.1 0))
  (some (((y4.1.2.1, ((0 : Int), (([] : List (UInt8)), (([] : List Sb), ())))), ()), (((y4.2.1.1, (y4.2.1.2.1, (y4.2.1.2.2.1, ()))), (y3.2.1.2.1, ())), ())))
  (obind (P_ref09_FS_gives ((x.1.1, (y4.1.1, ())), (((y4.2.1.1, (y4.2.1.2.1, (y4.2.1.2.2.1, ()))), (y3.2.1.2.1, ())), ()))) (fun y5 => some ((y5.1.1, ()), (((y5.2.1.1.1, (y5.2.1.1.2.1, (y5.2.1.1.2.2.1, ()))), (y5.2.1.2.1, ())), ()))))))
  (sel (eqI x.1.2.1.1 10)
  (obind (P_ref09_FS_links ((y3.1.1, (y3.1.2.1, (x.1.2.1.2.2.1, ()))), (((y3.2.1.1.1, (y3.2.1.1.2.1, (y3.2.1.1.2.2.1, ()))), (y3.2.1.2.1, ())), ()))) (fun y4 => some ((y4.1.1, ()), (((y4.2.1.1.1, (y4.2.1.1.2.1, (y4.2.1.1.2.2.1, ()))), (y4.2.1.2.1, ())), ()))))
  (obind (P_ref09_FS_place ((x.1.2.1.2.2.1, ()), (((y3.2.1.1.1, (y3.2.1.1.2.1, (y3.2.1.1.2.2.1, ()))), (y3.2.1.2.1, ())), ()))) (fun y4 => sel (nt (eqI y4.1.2.2.1 0))
  (some (((y4.1.2.2.1, ((0 : Int), (([] : List (UInt8)), (([] : List Sb), ())))), ()), (((y4.2.1.1.1, (y4.2.1.1.2.1, (y4.2.1.1.2.2.1, ()))), (y4.2.1.2.1, ())), ())))
  (obind (P_ref08_Table_Rename ((y3.1.1, (y3.1.2.1, (y4.1.1, (y4.1.2.1, ())))), ((y4.2.1.1.1, (y4.2.1.1.2.1, (y4.2.1.1.2.2.1, ()))), ()))) (fun y5 => some (((y5.1.1, ((0 : Int), (([] : List (UInt8)), (([] : List Sb), ())))), ()), (((y5.2.1.1, (y5.2.1.2.1, (y5.2.1.2.2.1, ()))), (y4.2.1.2.1, ())), ()))))))))))))))))
  (obind (P_ref09_FS_place ((x.1.2.1.2.1, ()), (((x.2.1.1.1, (x.2.1.1.2.1, (x.2.1.1.2.2.1, ()))), (x.2.1.2.1, ())), ()))) (fun y2 => sel (nt (eqI y2.1.2.2.1 0))
  (some (((y2.1.2.2.1, ((0 : Int), (([] : List (UInt8)), (([] : List Sb), ())))), ()), (((y2.2.1.1.1, (y2.2.1.1.2.1, (y2.2.1.1.2.2.1, ()))), (y2.2.1.2.1, ())), ())))
  (sel (eqI x.1.2.1.1 1)
  (obind (P_ref08_Table_Make ((y2.1.1, (y2.1.2.1, (true, ()))), ((y2.2.1.1.1, (y2.2.1.1.2.1, (y2.2.1.1.2.2.1, ()))), ()))) (fun y3 => some (((y3.1.2.1, ((0 : Int), (([] : List (UInt8)), (([] : List Sb), ())))), ()), (((y3.2.1.1, (y3.2.1.2.1, (y3.2.1.2.2.1, ()))), (y2.2.1.2.1, ())), ()))))
  (sel (eqI x.1.2.1.1 2)
  (obind (P_ref08_Table_Remove ((y2.1.1, (y2.1.2.1, ())), ((y2.2.1.1.1, (y2.2.1.1.2.1, (y2.2.1.1.2.2.1, ()))), ()))) (fun y3 => some (((y3.1.1, ((0 : Int), (([] : List (UInt8)), (([] : List Sb), ())))), ()), (((y3.2.1.1, (y3.2.1.2.1, (y3.2.1.2.2.1, ()))), (y2.2.1.2.1, ())), ()))))
  (sel (eqI x.1.2.1.1 11)
  (obind (P_ref08_Table_Unlink ((y2.1.1, (y2.1.2.1, ())), ((y2.2.1.1.1, (y2.2.1.1.2.1, (y2.2.1.1.2.2.1, ()))), ()))) (fun y3 => some (((y3.1.1, ((0 : Int), (([] : List (UInt8)), (([] : List Sb), ())))), ()), (((y3.2.1.1, (y3.2.1.2.1, (y3.2.1.2.2.1, ()))), (y2.2.1.2.1, ())), ()))))
  (sel (eqI x.1.2.1.1 3)
  (obind (P_ref08_Table_Make ((y2.1.1, (y2.1.2.1, (false, ()))), ((y2.2.1.1.1, (y2.2.1.1.2.1, (y2.2.1.1.2.2.1, ()))), ()))) (fun y3 => sel (nt (eqI y3.1.2.1 0))
  (some (((y3.1.2.1, ((0 : Int), (([] : List (UInt8)), (([] : List Sb), ())))), ()), (((y3.2.1.1, (y3.2.1.2.1, (y3.2.1.2.2.1, ()))), (y2.2.1.2.1, ())), ())))
  (obind (P_ref09_FS_gives ((x.1.1, (y3.1.1, ())), (((y3.2.1.1, (y3.2.1.2.1, (y3.2.1.2.2.1, ()))), (y2.2.1.2.1, ())), ()))) (fun y4 => some ((y4.1.1, ()), (((y4.2.1.1.1, (y4.2.1.1.2.1, (y4.2.1.1.2.2.1, ()))), (y4.2.1.2.1, ())), ()))))))
  (sel (eqI x.1.2.1.1 4)
  (obind (P_ref08_Table_Find ((y2.1.1, (y2.1.2.1, ())), ((y2.2.1.1.1, (y2.2.1.1.2.1, (y2.2.1.1.2.2.1, ()))), ()))) (fun y3 => sel (nt (eqI y3.1.2.1 0))
  (some (((y3.1.2.1, ((0 : Int), (([] : List (UInt8)), (([] : List Sb), ())))), ()), (((y3.2.1.1, (y3.2.1.2.1, (y3.2.1.2.2.1, ()))), (y2.2.1.2.1, ())), ())))
  (obind (P_ref09_FS_gives ((x.1.1, (y3.1.1, ())), (((y3.2.1.1, (y3.2.1.2.1, (y3.2.1.2.2.1, ()))), (y2.2.1.2.1, ())), ()))) (fun y4 => some ((y4.1.1, ()), (((y4.2.1.1.1, (y4.2.1.1.2.1, (y4.2.1.1.2.2.1, ()))), (y4.2.1.2.1, ())), ()))))))
  (sel (eqI x.1.2.1.1 10)
  (obind (P_ref09_FS_links ((y2.1.1, (y2.1.2.1, (x.1.2.1.2.2.1, ()))), (((y2.2.1.1.1, (y2.2.1.1.2.1, (y2.2.1.1.2.2.1, ()))), (y2.2.1.2.1, ())), ()))) (fun y3 => some ((y3.1.1, ()), (((y3.2.1.1.1, (y3.2.1.1.2.1, (y3.2.1.1.2.2.1, ()))), (y3.2.1.2.1, ())), ()))))
  (obind (P_ref09_FS_place ((x.1.2.1.2.2.1, ()), (((y2.2.1.1.1, (y2.2.1.1.2.1, (y2.2.1.1.2.2.1, ()))), (y2.2.1.2.1, ())), ()))) (fun y3 => sel (nt (eqI y3.1.2.2.1 0))
  (some (((y3.1.2.2.1, ((0 : Int), (([] : List (UInt8)), (([] : List Sb), ())))), ()), (((y3.2.1.1.1, (y3.2.1.1.2.1, (y3.2.1.1.2.2.1, ()))), (y3.2.1.2.1, ())), ())))
  (obind (P_ref08_Table_Rename ((y2.1.1, (y2.1.2.1, (y3.1.1, (y3.1.2.1, ())))), ((y3.2.1.1.1, (y3.2.1.1.2.1, (y3.2.1.1.2.2.1, ()))), ()))) (fun y4 => some (((y4.1.1, ((0 : Int), (([] : List (UInt8)), (([] : List Sb), ())))), ()), (((y4.2.1.1, (y4.2.1.2.1, (y4.2.1.2.2.1, ()))), (y3.2.1.2.1, ())), ()))))))))))))))))))

noncomputable def P_ref10_Disk_Do (x : (Int × S7x2 × Unit) × S7x20 × Unit) : Option ((S7x4 × Unit) × S7x20 × Unit) :=
  sel (eqI x.1.2.1.1 14)
  (obind (P_ref10_Disk_sync ((), ((((x.2.1.1.1.1, (x.2.1.1.1.2.1, (x.2.1.1.1.2.2.1, ()))), (x.2.1.1.2.1, ())), (((x.2.1.2.1.1.1, (x.2.1.2.1.1.2.1, (x.2.1.2.1.1.2.2.1, ()))), (x.2.1.2.1.2.1, ())), (x.2.1.2.2.1, ()))), ()))) (fun y1 => some ((((0 : Int), ((0 : Int), (([] : List (UInt8)), (([] : List Sb), ())))), ()), ((((y1.2.1.1.1.1, (y1.2.1.1.1.2.1, (y1.2.1.1.1.2.2.1, ()))), (y1.2.1.1.2.1, ())), (((y1.2.1.2.1.1.1, (y1.2.1.2.1.1.2.1, (y1.2.1.2.1.1.2.2.1, ()))), (y1.2.1.2.1.2.1, ())), (y1.2.1.2.2.1, ()))), ()))))
  (obind (P_ref09_FS_Do ((x.1.1, (x.1.2.1, ())), (((x.2.1.1.1.1, (x.2.1.1.1.2.1, (x.2.1.1.1.2.2.1, ()))), (x.2.1.1.2.1, ())), ()))) (fun y1 => obind (sel (sel (eqI y1.1.1.1 0)
  (nt (sel (nt (sel (nt (eqI x.1.2.1.1 6))
  (eqI x.1.2.1.1 9)
  true))
  (eqI x.1.2.1.1 13)
  true))
  false)
  (sel (fits (plus (len x.2.1.2.2.1) (len ([(x.1.1, (false, (x.1.2.1, ())))] : List S7x9))))
  (some ((), (((), ((), ((), ()))), (((), ((), ())), (((), ((), ())), (app x.2.1.2.2.1 ([(x.1.1, (false, (x.1.2.1, ())))] : List S7x9), ((y1.2.1.1.1, (y1.2.1.1.2.1, ((), ()))), (y1.2.1.2.1, ((x.2.1.2.1.1.1, (x.2.1.2.1.1.2.1, ((), ()))), (x.2.1.2.1.2.1, (y1.2.1.1.2.2.1, (x.2.1.2.1.1.2.2.1, ()))))))))))))
  none)
  (some ((), (((), ((), ((), ()))), (((), ((), ())), (((), ((), ())), (x.2.1.2.2.1, ((y1.2.1.1.1, (y1.2.1.1.2.1, ((), ()))), (y1.2.1.2.1, ((x.2.1.2.1.1.1, (x.2.1.2.1.1.2.1, ((), ()))), (x.2.1.2.1.2.1, (y1.2.1.1.2.2.1, (x.2.1.2.1.1.2.2.1, ()))))))))))))) (fun y2 => some ((y1.1.1, ()), ((((y2.2.2.2.2.2.1.1, (y2.2.2.2.2.2.1.2.1, (y2.2.2.2.2.2.2.2.2.2.1, ()))), (y2.2.2.2.2.2.2.1, ())), (((y2.2.2.2.2.2.2.2.1.1, (y2.2.2.2.2.2.2.2.1.2.1, (y2.2.2.2.2.2.2.2.2.2.2.1, ()))), (y2.2.2.2.2.2.2.2.2.1, ())), (y2.2.2.2.2.1, ()))), ())))))

noncomputable def P_ref25_World_Do (x : (Int × S7x2 × Unit) × (S7x20 × S7x17 × Unit) × Unit) : Option ((S7x4 × Unit) × (S7x20 × S7x17 × Unit) × Unit) :=
  obind (P_ref11_Table_Birth ((x.1.1, ()), ((x.2.1.2.1.1, (x.2.1.2.1.2.1, ())), ()))) (fun y1 => sel (nt (eqI y1.1.2.1 0))
  (some ((((3 : Int), ((0 : Int), (([] : List (UInt8)), (([] : List Sb), ())))), ()), (((((x.2.1.1.1.1.1, (x.2.1.1.1.1.2.1, (x.2.1.1.1.1.2.2.1, ()))), (x.2.1.1.1.2.1, ())), (((x.2.1.1.2.1.1.1, (x.2.1.1.2.1.1.2.1, (x.2.1.1.2.1.1.2.2.1, ()))), (x.2.1.1.2.1.2.1, ())), (x.2.1.1.2.2.1, ()))), ((y1.2.1.1, (y1.2.1.2.1, ())), ())), ())))
  (sel (eqI x.1.2.1.1 15)
  (obind (P_ref11_Table_Alive ((x.1.2.1.2.2.2.2.2.2.2.1, (x.1.2.1.2.2.2.2.2.2.2.2.1, ())), ((y1.2.1.1, (y1.2.1.2.1, ())), ()))) (fun y2 => sel y2.1.1
  (some ((((0 : Int), ((1 : Int), (([] : List (UInt8)), (([] : List Sb), ())))), ()), (((((x.2.1.1.1.1.1, (x.2.1.1.1.1.2.1, (x.2.1.1.1.1.2.2.1, ()))), (x.2.1.1.1.2.1, ())), (((x.2.1.1.2.1.1.1, (x.2.1.1.2.1.1.2.1, (x.2.1.1.2.1.1.2.2.1, ()))), (x.2.1.1.2.1.2.1, ())), (x.2.1.1.2.2.1, ()))), ((y2.2.1.1, (y2.2.1.2.1, ())), ())), ())))
  (some ((((0 : Int), ((0 : Int), (([] : List (UInt8)), (([] : List Sb), ())))), ()), (((((x.2.1.1.1.1.1, (x.2.1.1.1.1.2.1, (x.2.1.1.1.1.2.2.1, ()))), (x.2.1.1.1.2.1, ())), (((x.2.1.1.2.1.1.1, (x.2.1.1.2.1.1.2.1, (x.2.1.1.2.1.1.2.2.1, ()))), (x.2.1.1.2.1.2.1, ())), (x.2.1.1.2.2.1, ()))), ((y2.2.1.1, (y2.2.1.2.1, ())), ())), ())))))
  (obind (P_ref10_Disk_Do ((y1.1.1, (x.1.2.1, ())), ((((x.2.1.1.1.1.1, (x.2.1.1.1.1.2.1, (x.2.1.1.1.1.2.2.1, ()))), (x.2.1.1.1.2.1, ())), (((x.2.1.1.2.1.1.1, (x.2.1.1.2.1.1.2.1, (x.2.1.1.2.1.1.2.2.1, ()))), (x.2.1.1.2.1.2.1, ())), (x.2.1.1.2.2.1, ()))), ()))) (fun y2 => some ((y2.1.1, ()), (((((y2.2.1.1.1.1, (y2.2.1.1.1.2.1, (y2.2.1.1.1.2.2.1, ()))), (y2.2.1.1.2.1, ())), (((y2.2.1.2.1.1.1, (y2.2.1.2.1.1.2.1, (y2.2.1.2.1.1.2.2.1, ()))), (y2.2.1.2.1.2.1, ())), (y2.2.1.2.2.1, ()))), ((y1.2.1.1, (y1.2.1.2.1, ())), ())), ()))))))

noncomputable def P_ref09_SameFiles_L0 (x : S7x11 × S7x11 × Unit) (y1 : S7x24 × Unit) : Option S7x14 :=
  sel (sel (ltI y1.1.2.1 (len x.1))
  (ltI y1.1.2.1 (len x.2.1))
  false)
  (obind (idx x.1 y1.1.2.1) (fun y2 => obind (idx x.2.1 y1.1.2.1) (fun y3 => sel (nt (an (eqS y2.1 y3.1) (an (eqB y2.2.1 y3.2.1) (an (eqS y2.2.2.1 y3.2.2.1) true))))
  (some (Sum.inr (1, ((false, (y1.1.2.1, ())), ()))))
  (some (Sum.inl ((y1.1.1, (iadd IntKind.i64 y1.1.2.1 1, ())), ()))))))
  (some (Sum.inr (0, ((y1.1.1, (y1.1.2.1, ())), ()))))

noncomputable def P_ref09_SameFiles (x : S7x11 × S7x11 × Unit) : Option (Bool × Unit) :=
  sel (nt (eqI (len x.1) (len x.2.1)))
  (some (false, ()))
  (obind (Loop (P_ref09_SameFiles_L0 x) ((false, ((0 : Int), ())), ())) (fun y1 => sel (eqN y1.1 0)
  (some (true, ()))
  (some (y1.2.1.1, ()))))

noncomputable def P_ref09_FS_node_L0 (x : (Int × Unit) × S7x1 × Unit) (y1 : (Int × Unit) × S7x0 × Unit) : Option (((Int × Unit) × S7x0 × Unit) ⊕ (Nat × (Int × Unit) × S7x0 × Unit)) :=
  sel (ltI y1.1.1 (len x.2.1.1.2.2.1))
  (sel (within y1.1.1 (len x.2.1.1.2.2.1))
  (obind (idx x.2.1.1.2.2.1 y1.1.1) (fun y2 => sel (eqI y2.1 x.1.1)
  (sel (within y1.1.1 (len x.2.1.1.2.2.1))
  (obind (idx x.2.1.1.2.2.1 y1.1.1) (fun y3 => some (Sum.inr (1, ((y1.1.1, ()), (y3, ()))))))
  none)
  (some (Sum.inl ((iadd IntKind.i64 y1.1.1 1, ()), (y1.2.1, ()))))))
  none)
  (some (Sum.inr (0, ((y1.1.1, ()), (y1.2.1, ())))))

noncomputable def P_ref09_FS_node (x : (Int × Unit) × S7x1 × Unit) : Option ((S7x0 × Unit) × S7x1 × Unit) :=
  obind (Loop (P_ref09_FS_node_L0 x) (((0 : Int), ()), (((0 : Int), (false, ((0 : Int), ((0 : Int), (([] : List (UInt8)), (([] : List S7x10), ())))))), ()))) (fun y1 => sel (eqN y1.1 0)
  (some ((((0 : Int), (false, ((0 : Int), ((0 : Int), (([] : List (UInt8)), (([] : List S7x10), ())))))), ()), (((x.2.1.1.1, (x.2.1.1.2.1, (x.2.1.1.2.2.1, ()))), (x.2.1.2.1, ())), ())))
  (some ((y1.2.2.1, ()), (((x.2.1.1.1, (x.2.1.1.2.1, (x.2.1.1.2.2.1, ()))), (x.2.1.2.1, ())), ()))))

noncomputable def F_ref09_FS_under_L0 (REC_ : S7x15 → Option S7x22) (x : (Int × Sb × Int × Unit) × S7x1 × Unit) (y1 : (S7x0 × Unit) × S7x1 × Unit) (y2 : S7x12 × S7x11 × S7x8 × S7x7 × (List S7x5) × (List S7x0) × Unit) : Option ((S7x12 × S7x11 × S7x8 × S7x7 × (List S7x5) × (List S7x0) × Unit) ⊕ (S7x12 × S7x11 × S7x8 × S7x7 × (List S7x5) × (List S7x0) × Unit)) :=
  way1 (sel (sel (ltI y2.1.2.1 (len y1.1.1.2.2.2.2.2.1))
  (ltI x.1.2.2.1 40)
  false)
  (obind (idx y1.1.1.2.2.2.2.2.1 y2.1.2.1) (fun y3 => obind (P_ref09_FS_node ((y3.2.1, ()), (((y2.2.2.2.1.1, (y2.2.2.2.1.2.1, (y2.2.2.2.2.2.1, ()))), (y2.2.2.2.2.1, ())), ()))) (fun y4 => obind (idx y1.1.1.2.2.2.2.2.1 y2.1.2.1) (fun y5 => obind (P_ref07_Join (x.1.2.1, (y5.1, ()))) (fun y6 => sel (fits (plus (len y2.2.1) (len ([(y6.1, (y4.1.1.2.1, (y4.1.1.2.2.2.2.1, ())))] : List (Sb × Bool × Sb × Unit)))))
  (obind (REC_ ((y4.1.1.1, (y6.1, (iadd IntKind.i64 x.1.2.2.1 1, ()))), (((y4.2.1.1.1, (y4.2.1.1.2.1, (y4.2.1.1.2.2.1, ()))), (y4.2.1.2.1, ())), ()))) (fun y7 => sel (fits (plus (len (app y2.2.1 ([(y6.1, (y4.1.1.2.1, (y4.1.1.2.2.2.2.1, ())))] : List (Sb × Bool × Sb × Unit)))) (len y7.1.1)))
  (some (Sum.inl (((), (iadd IntKind.i64 y2.1.2.1 1, ())), (app (app y2.2.1 ([(y6.1, (y4.1.1.2.1, (y4.1.1.2.2.2.2.1, ())))] : List (Sb × Bool × Sb × Unit))) y7.1.1, (((), ((), ())), ((y7.2.1.1.1, (y7.2.1.1.2.1, ((), ()))), (y7.2.1.2.1, (y7.2.1.1.2.2.1, ()))))))))
  none))
  none)))))
  (some (Sum.inr (0, (((), (y2.1.2.1, ())), (y2.2.1, (((), ((), y2.2.2.1.2.2)), ((y2.2.2.2.1.1, (y2.2.2.2.1.2.1, ((), y2.2.2.2.1.2.2.2))), (y2.2.2.2.2.1, (y2.2.2.2.2.2.1, ()))))))))))

noncomputable def F_ref09_FS_under (REC_ : S7x15 → Option S7x22) (x : (Int × Sb × Int × Unit) × S7x1 × Unit) : Option S7x22 :=
  obind (P_ref09_FS_node ((x.1.1, ()), (((x.2.1.1.1, (x.2.1.1.2.1, (x.2.1.1.2.2.1, ()))), (x.2.1.2.1, ())), ()))) (fun y1 => obind (Loop (F_ref09_FS_under_L0 REC_ x y1) (((), ((0 : Int), ())), (([] : List (Sb × Bool × Sb × Unit)), (((), ((), ())), ((y1.2.1.1.1, (y1.2.1.1.2.1, ((), ()))), (y1.2.1.2.1, (y1.2.1.1.2.2.1, ()))))))) (fun y2 => some ((y2.2.1, ()), (((y2.2.2.2.1.1, (y2.2.2.2.1.2.1, (y2.2.2.2.2.2.1, ()))), (y2.2.2.2.2.1, ())), ()))))

noncomputable def S_ref09_FS_under : Nat → S7x15 → Option S7x22
  | 0, _ => none
  | k + 1, x => F_ref09_FS_under (S_ref09_FS_under k) x
noncomputable def P_ref09_FS_under (x : S7x15) : Option S7x22 := S_ref09_FS_under 64 x
theorem S_ref09_FS_under_zero (x : S7x15) : S_ref09_FS_under 0 x = none := rfl
theorem S_ref09_FS_under_step (k : Nat) (x : S7x15) (y) (h : S_ref09_FS_under (k + 1) x = some y) : F_ref09_FS_under (S_ref09_FS_under k) x = some y := h
theorem S_ref09_FS_under_all (x : S7x15) (y) (h : P_ref09_FS_under x = some y) : ∃ k, S_ref09_FS_under k x = some y := ⟨64, h⟩

noncomputable def P_ref09_FS_Files (x : Unit × S7x1 × Unit) : Option S7x22 :=
  obind (P_ref09_FS_under (((1 : Int), (([] : List (UInt8)), ((0 : Int), ()))), (((x.2.1.1.1, (x.2.1.1.2.1, (x.2.1.1.2.2.1, ()))), (x.2.1.2.1, ())), ()))) (fun y1 => some ((y1.1.1, ()), (((y1.2.1.1.1, (y1.2.1.1.2.1, (y1.2.1.1.2.2.1, ()))), (y1.2.1.2.1, ())), ())))

noncomputable def P_law26_StepsOnce_L0 (x : S7x16 × Unit) (y4 : S7x24 × Unit) : Option S7x14 :=
  sel (ltI y4.1.2.1 (len x.1))
  (obind (idx x.1 y4.1.2.1) (fun y5 => obind (sel (nt (ltI 1048576 y5.2.2.2.1.2.2.2.1))
  (obind (idx x.1 y4.1.2.1) (fun y6 => some (ltI y6.2.2.2.1.2.2.2.1 0)))
  (some true)) (fun y6 => sel y6
  (obind (P_law26_awake ()) (fun y7 => some (Sum.inr (1, ((y7.1, (y4.1.2.1, ())), ())))))
  (some (Sum.inl ((y4.1.1, (iadd IntKind.i64 y4.1.2.1 1, ())), ()))))))
  (some (Sum.inr (0, ((y4.1.1, (y4.1.2.1, ())), ()))))

noncomputable def P_law26_StepsOnce_L1 (x : S7x16 × Unit) (y5 : S7x23 × S7x13 × S7x18 × S7x8 × S7x21 × S7x12 × S7x8 × S7x8 × (List S7x9) × (List S7x6) × S7x7 × (List S7x5) × S7x7 × (List S7x5) × (List S7x0) × (List S7x0) × Unit) : Option ((S7x23 × S7x13 × S7x18 × S7x8 × S7x21 × S7x12 × S7x8 × S7x8 × (List S7x9) × (List S7x6) × S7x7 × (List S7x5) × S7x7 × (List S7x5) × (List S7x0) × (List S7x0) × Unit) ⊕ (Nat × S7x23 × S7x13 × S7x18 × S7x8 × S7x21 × S7x12 × S7x8 × S7x8 × (List S7x9) × (List S7x6) × S7x7 × (List S7x5) × S7x7 × (List S7x5) × (List S7x0) × (List S7x0) × Unit)) :=
  sel (sel (leI y5.1.2.2.2.1 (len x.1))
  (nt y5.1.2.2.1)
  false)
  (obind (P_steps_Run_Begin ((), ((y5.2.1.1, (y5.2.2.1, (y5.2.1.2.2.1, (y5.2.1.2.2.2.1, (y5.2.1.2.2.2.2.1, (y5.2.1.2.2.2.2.2.1, ())))))), ()))) (fun y6 => obind (P_law26_work ((x.1, ()), ((y6.2.1.1, (y6.2.1.2.1, (y6.2.1.2.2.1, (y6.2.1.2.2.2.1, (y6.2.1.2.2.2.2.1, (y6.2.1.2.2.2.2.2.1, ())))))), ()))) (fun y7 => sel y7.1.2.1
  (some (Sum.inr (0, ((y5.1.1, (y7.1.1, (y7.1.2.1, (y5.1.2.2.2.1, ())))), ((y7.2.1.1, ((), (y7.2.1.2.2.1, (y7.2.1.2.2.2.1, (y7.2.1.2.2.2.2.1, (y7.2.1.2.2.2.2.2.1, ())))))), (y7.2.1.2.1, (((), ((), y5.2.2.2.1.2.2)), (((), ((), ((), y5.2.2.2.2.1.2.2.2))), (((), (y5.2.2.2.2.2.1.2.1, y5.2.2.2.2.2.1.2.2)), (((), ((), y5.2.2.2.2.2.2.1.2.2)), (((), ((), y5.2.2.2.2.2.2.2.1.2.2)), (y5.2.2.2.2.2.2.2.2.1, (y5.2.2.2.2.2.2.2.2.2.1, ((y5.2.2.2.2.2.2.2.2.2.2.1.1, (y5.2.2.2.2.2.2.2.2.2.2.1.2.1, ((), y5.2.2.2.2.2.2.2.2.2.2.1.2.2.2))), (y5.2.2.2.2.2.2.2.2.2.2.2.1, ((y5.2.2.2.2.2.2.2.2.2.2.2.2.1.1, (y5.2.2.2.2.2.2.2.2.2.2.2.2.1.2.1, ((), y5.2.2.2.2.2.2.2.2.2.2.2.2.1.2.2.2))), (y5.2.2.2.2.2.2.2.2.2.2.2.2.2.1, (y5.2.2.2.2.2.2.2.2.2.2.2.2.2.2.1, (y5.2.2.2.2.2.2.2.2.2.2.2.2.2.2.2.1, ())))))))))))))))))))
  (obind (P_steps_Run_Want ((), ((y7.2.1.1, (y7.2.1.2.1, (y7.2.1.2.2.1, (y7.2.1.2.2.2.1, (y7.2.1.2.2.2.2.1, (y7.2.1.2.2.2.2.2.1, ())))))), ()))) (fun y8 => sel (nt (nt y8.1.2.1))
  (obind (P_ref25_World_Do (((1 : Int), (y8.1.1, ())), (((((y5.2.2.2.2.2.2.2.2.2.2.1.1, (y5.2.2.2.2.2.2.2.2.2.2.1.2.1, (y5.2.2.2.2.2.2.2.2.2.2.2.2.2.2.1, ()))), (y5.2.2.2.2.2.2.2.2.2.2.2.1, ())), (((y5.2.2.2.2.2.2.2.2.2.2.2.2.1.1, (y5.2.2.2.2.2.2.2.2.2.2.2.2.1.2.1, (y5.2.2.2.2.2.2.2.2.2.2.2.2.2.2.2.1, ()))), (y5.2.2.2.2.2.2.2.2.2.2.2.2.2.1, ())), (y5.2.2.2.2.2.2.2.2.1, ()))), ((y5.2.2.2.2.2.2.2.2.2.1, (y5.2.2.2.2.2.1.2.1, ())), ())), ()))) (fun y9 => obind (P_steps_Run_Give ((y9.1.1, ()), ((y8.2.1.1, (y8.2.1.2.1, (y8.2.1.2.2.1, (y8.2.1.2.2.2.1, (y8.2.1.2.2.2.2.1, (y8.2.1.2.2.2.2.2.1, ())))))), ()))) (fun y10 => sel (nt (eqI y10.1.1 0))
  (some (Sum.inr (1, ((false, (y7.1.1, (y7.1.2.1, (y5.1.2.2.2.1, ())))), ((y10.2.1.1, ((), (y10.2.1.2.2.1, (y10.2.1.2.2.2.1, (y10.2.1.2.2.2.2.1, (y10.2.1.2.2.2.2.2.1, ())))))), (y10.2.1.2.1, (((), ((), ())), (((), ((), ((), ()))), (((), (y9.2.1.2.1.2.1, ())), (((), ((), ())), (((), ((), ())), (y9.2.1.1.2.2.1, (y9.2.1.2.1.1, ((y9.2.1.1.1.1.1, (y9.2.1.1.1.1.2.1, ((), ()))), (y9.2.1.1.1.2.1, ((y9.2.1.1.2.1.1.1, (y9.2.1.1.2.1.1.2.1, ((), ()))), (y9.2.1.1.2.1.2.1, (y9.2.1.1.1.1.2.2.1, (y9.2.1.1.2.1.1.2.2.1, ())))))))))))))))))))
  (some (Sum.inl ((y5.1.1, (y7.1.1, (y7.1.2.1, (iadd IntKind.i64 y5.1.2.2.2.1 1, ())))), ((y10.2.1.1, ((), (y10.2.1.2.2.1, (y10.2.1.2.2.2.1, (y10.2.1.2.2.2.2.1, (y10.2.1.2.2.2.2.2.1, ())))))), (y10.2.1.2.1, (((), ((), ())), (((), ((), ((), ()))), (((), (y9.2.1.2.1.2.1, ())), (((), ((), ())), (((), ((), ())), (y9.2.1.1.2.2.1, (y9.2.1.2.1.1, ((y9.2.1.1.1.1.1, (y9.2.1.1.1.1.2.1, ((), ()))), (y9.2.1.1.1.2.1, ((y9.2.1.1.2.1.1.1, (y9.2.1.1.2.1.1.2.1, ((), ()))), (y9.2.1.1.2.1.2.1, (y9.2.1.1.1.1.2.2.1, (y9.2.1.1.2.1.1.2.2.1, ())))))))))))))))))))))
  (some (Sum.inr (1, ((false, (y7.1.1, (y7.1.2.1, (y5.1.2.2.2.1, ())))), ((y8.2.1.1, ((), (y8.2.1.2.2.1, (y8.2.1.2.2.2.1, (y8.2.1.2.2.2.2.1, (y8.2.1.2.2.2.2.2.1, ())))))), (y8.2.1.2.1, (((), ((), y5.2.2.2.1.2.2)), (((), ((), ((), y5.2.2.2.2.1.2.2.2))), (((), (y5.2.2.2.2.2.1.2.1, y5.2.2.2.2.2.1.2.2)), (((), ((), y5.2.2.2.2.2.2.1.2.2)), (((), ((), y5.2.2.2.2.2.2.2.1.2.2)), (y5.2.2.2.2.2.2.2.2.1, (y5.2.2.2.2.2.2.2.2.2.1, ((y5.2.2.2.2.2.2.2.2.2.2.1.1, (y5.2.2.2.2.2.2.2.2.2.2.1.2.1, ((), y5.2.2.2.2.2.2.2.2.2.2.1.2.2.2))), (y5.2.2.2.2.2.2.2.2.2.2.2.1, ((y5.2.2.2.2.2.2.2.2.2.2.2.2.1.1, (y5.2.2.2.2.2.2.2.2.2.2.2.2.1.2.1, ((), y5.2.2.2.2.2.2.2.2.2.2.2.2.1.2.2.2))), (y5.2.2.2.2.2.2.2.2.2.2.2.2.2.1, (y5.2.2.2.2.2.2.2.2.2.2.2.2.2.2.1, (y5.2.2.2.2.2.2.2.2.2.2.2.2.2.2.2.1, ()))))))))))))))))))))))))
  (some (Sum.inr (0, ((y5.1.1, (y5.1.2.1, (y5.1.2.2.1, (y5.1.2.2.2.1, ())))), ((y5.2.1.1, ((), (y5.2.1.2.2.1, (y5.2.1.2.2.2.1, (y5.2.1.2.2.2.2.1, (y5.2.1.2.2.2.2.2.1, y5.2.1.2.2.2.2.2.2)))))), (y5.2.2.1, (((), ((), y5.2.2.2.1.2.2)), (((), ((), ((), y5.2.2.2.2.1.2.2.2))), (((), (y5.2.2.2.2.2.1.2.1, y5.2.2.2.2.2.1.2.2)), (((), ((), y5.2.2.2.2.2.2.1.2.2)), (((), ((), y5.2.2.2.2.2.2.2.1.2.2)), (y5.2.2.2.2.2.2.2.2.1, (y5.2.2.2.2.2.2.2.2.2.1, ((y5.2.2.2.2.2.2.2.2.2.2.1.1, (y5.2.2.2.2.2.2.2.2.2.2.1.2.1, ((), y5.2.2.2.2.2.2.2.2.2.2.1.2.2.2))), (y5.2.2.2.2.2.2.2.2.2.2.2.1, ((y5.2.2.2.2.2.2.2.2.2.2.2.2.1.1, (y5.2.2.2.2.2.2.2.2.2.2.2.2.1.2.1, ((), y5.2.2.2.2.2.2.2.2.2.2.2.2.1.2.2.2))), (y5.2.2.2.2.2.2.2.2.2.2.2.2.2.1, (y5.2.2.2.2.2.2.2.2.2.2.2.2.2.2.1, (y5.2.2.2.2.2.2.2.2.2.2.2.2.2.2.2.1, ())))))))))))))))))))

noncomputable def P_law26_StepsOnce_L2 (x : S7x16 × Unit) (y5 : Nat × S7x23 × S7x13 × S7x18 × S7x8 × S7x21 × S7x12 × S7x8 × S7x8 × (List S7x9) × (List S7x6) × S7x7 × (List S7x5) × S7x7 × (List S7x5) × (List S7x0) × (List S7x0) × Unit) (y7 : (Bool × Int × Int × Unit) × S7x8 × S7x21 × S7x12 × S7x8 × S7x8 × (List S7x9) × (List S7x6) × S7x7 × (List S7x5) × S7x7 × (List S7x5) × (List S7x0) × (List S7x0) × Unit) : Option (((Bool × Int × Int × Unit) × S7x8 × S7x21 × S7x12 × S7x8 × S7x8 × (List S7x9) × (List S7x6) × S7x7 × (List S7x5) × S7x7 × (List S7x5) × (List S7x0) × (List S7x0) × Unit) ⊕ (Nat × (Bool × Int × Int × Unit) × S7x8 × S7x21 × S7x12 × S7x8 × S7x8 × (List S7x9) × (List S7x6) × S7x7 × (List S7x5) × S7x7 × (List S7x5) × (List S7x0) × (List S7x0) × Unit)) :=
  sel (ltI y7.1.2.2.1 (len x.1))
  (obind (idx x.1 y7.1.2.2.1) (fun y8 => obind (P_ref25_World_Do (((1 : Int), ((y8.2.2.2.1.1, (y8.2.2.2.1.2.1, (y8.2.2.2.1.2.2.1, (iadd IntKind.i64 y8.2.2.2.1.2.2.2.1 (irem y7.1.2.1 3), y8.2.2.2.1.2.2.2.2)))), ())), (((((y7.2.2.2.2.2.2.2.2.1.1, (y7.2.2.2.2.2.2.2.2.1.2.1, (y7.2.2.2.2.2.2.2.2.2.2.2.2.1, ()))), (y7.2.2.2.2.2.2.2.2.2.1, ())), (((y7.2.2.2.2.2.2.2.2.2.2.1.1, (y7.2.2.2.2.2.2.2.2.2.2.1.2.1, (y7.2.2.2.2.2.2.2.2.2.2.2.2.2.1, ()))), (y7.2.2.2.2.2.2.2.2.2.2.2.1, ())), (y7.2.2.2.2.2.2.1, ()))), ((y7.2.2.2.2.2.2.2.1, (y7.2.2.2.1.2.1, ())), ())), ()))) (fun y9 => obind (idx y5.2.1.2.1 y7.1.2.2.1) (fun y10 => obind (P_ref09_SameRes (y9.1.1, (y10, ()))) (fun y11 => sel (nt y11.1)
  (some (Sum.inr (1, ((false, (iadd IntKind.i64 (iadd IntKind.i64 (len y9.1.1.2.2.1) (len y9.1.1.2.2.2.1)) y9.1.1.1, (y7.1.2.2.1, ()))), (((), ((), ())), (((), ((), ((), ()))), (((), (y9.2.1.2.1.2.1, ())), (((), ((), ())), (((), ((), ())), (y9.2.1.1.2.2.1, (y9.2.1.2.1.1, ((y9.2.1.1.1.1.1, (y9.2.1.1.1.1.2.1, ((), ()))), (y9.2.1.1.1.2.1, ((y9.2.1.1.2.1.1.1, (y9.2.1.1.2.1.1.2.1, ((), ()))), (y9.2.1.1.2.1.2.1, (y9.2.1.1.1.1.2.2.1, (y9.2.1.1.2.1.1.2.2.1, ())))))))))))))))))
  (some (Sum.inl ((y7.1.1, (iadd IntKind.i64 (iadd IntKind.i64 (len y9.1.1.2.2.1) (len y9.1.1.2.2.2.1)) y9.1.1.1, (iadd IntKind.i64 y7.1.2.2.1 1, ()))), (((), ((), ())), (((), ((), ((), ()))), (((), (y9.2.1.2.1.2.1, ())), (((), ((), ())), (((), ((), ())), (y9.2.1.1.2.2.1, (y9.2.1.2.1.1, ((y9.2.1.1.1.1.1, (y9.2.1.1.1.1.2.1, ((), ()))), (y9.2.1.1.1.2.1, ((y9.2.1.1.2.1.1.1, (y9.2.1.1.2.1.1.2.1, ((), ()))), (y9.2.1.1.2.1.2.1, (y9.2.1.1.1.1.2.2.1, (y9.2.1.1.2.1.1.2.2.1, ())))))))))))))))))))))
  (some (Sum.inr (0, ((y7.1.1, (y7.1.2.1, (y7.1.2.2.1, ()))), (((), ((), y7.2.1.2.2)), (((), ((), ((), y7.2.2.1.2.2.2))), (((), (y7.2.2.2.1.2.1, y7.2.2.2.1.2.2)), (((), ((), y7.2.2.2.2.1.2.2)), (((), ((), y7.2.2.2.2.2.1.2.2)), (y7.2.2.2.2.2.2.1, (y7.2.2.2.2.2.2.2.1, ((y7.2.2.2.2.2.2.2.2.1.1, (y7.2.2.2.2.2.2.2.2.1.2.1, ((), y7.2.2.2.2.2.2.2.2.1.2.2.2))), (y7.2.2.2.2.2.2.2.2.2.1, ((y7.2.2.2.2.2.2.2.2.2.2.1.1, (y7.2.2.2.2.2.2.2.2.2.2.1.2.1, ((), y7.2.2.2.2.2.2.2.2.2.2.1.2.2.2))), (y7.2.2.2.2.2.2.2.2.2.2.2.1, (y7.2.2.2.2.2.2.2.2.2.2.2.2.1, (y7.2.2.2.2.2.2.2.2.2.2.2.2.2.1, ())))))))))))))))))

noncomputable def P_law26_StepsOnce (x : S7x16 × Unit) : Option (Bool × Unit) :=
  obind (P_ref25_Small (x.1, ((20 : Int), ()))) (fun y1 => sel (nt y1.1)
  (obind (P_law26_awake ()) (fun y2 => some (y2.1, ())))
  (sel (fits (plus (len ([] : List S7x5)) (len ([] : List S7x5))))
  (sel (fits (plus (len ([] : List S7x0)) (len ([((1 : Int), (true, ((1 : Int), ((0 : Int), (([] : List (UInt8)), (([] : List S7x10), ()))))))] : List S7x0))))
  (sel (fits (plus (len ([] : List S7x5)) (len ([] : List S7x5))))
  (sel (fits (plus (len ([] : List S7x0)) (len ([((1 : Int), (true, ((1 : Int), ((0 : Int), (([] : List (UInt8)), (([] : List S7x10), ()))))))] : List S7x0))))
  (obind (P_ref11_Table_Spawn (((1 : Int), ()), ((([] : List S7x6), ((0 : Int), ())), ()))) (fun y2 => obind (P_ref11_Table_Spawn (((1 : Int), ()), ((([] : List S7x6), ((0 : Int), ())), ()))) (fun y3 => obind (Loop (P_law26_StepsOnce_L0 x) ((false, ((0 : Int), ())), ())) (fun y4 => sel (eqN y4.1 0)
  (obind (Loop (P_law26_StepsOnce_L1 x) ((y4.2.1.1, (([] : List S7x4), (false, ((0 : Int), ())))), ((true, ((), ((0 : Int), (false, (false, (((0 : Int), (([] : List (UInt8)), (([] : List (UInt8)), ((0 : Int), ((0 : Int), ((0 : Int), (([] : List (UInt8)), ((0 : Int), ((0 : Int), ()))))))))), ())))))), (([] : List (S7x2 × S7x4 × Unit)), (((), ((), ())), (((), ((), ((), ()))), (((), (y2.2.1.2.1, ())), (((), ((), ())), (((), ((), ())), (([] : List S7x9), (y2.2.1.1, (((1048576 : Int), ((2 : Int), ((), ()))), (([] : List S7x5), (((1048576 : Int), ((2 : Int), ((), ()))), (app ([] : List S7x5) ([] : List S7x5), (([((1 : Int), (true, ((1 : Int), ((0 : Int), (([] : List (UInt8)), (([] : List S7x10), ()))))))] : List S7x0), (app ([] : List S7x0) ([((1 : Int), (true, ((1 : Int), ((0 : Int), (([] : List (UInt8)), (([] : List S7x10), ()))))))] : List S7x0), ()))))))))))))))))) (fun y5 => sel (eqN y5.1 0)
  (sel (nt (nt y5.2.1.2.2.1))
  (obind (P_steps_Run_Len ((), ((y5.2.2.1.1, (y5.2.2.2.1, (y5.2.2.1.2.2.1, (y5.2.2.1.2.2.2.1, (y5.2.2.1.2.2.2.2.1, (y5.2.2.1.2.2.2.2.2.1, ())))))), ()))) (fun y6 => sel (sel (nt (nt (eqI y6.1.1 (len x.1))))
  (nt (eqI (len y5.2.1.2.1) (len x.1)))
  true)
  (some (false, ()))
  (obind (Loop (P_law26_StepsOnce_L2 x y5) ((y5.2.1.1, ((0 : Int), ((0 : Int), ()))), (((), ((), ())), (((), ((), ((), ()))), (((), (y3.2.1.2.1, ())), (((), ((), ())), (((), ((), ())), (([] : List S7x9), (y3.2.1.1, (((1048576 : Int), ((2 : Int), ((), ()))), (([] : List S7x5), (((1048576 : Int), ((2 : Int), ((), ()))), (app ([] : List S7x5) ([] : List S7x5), (([((1 : Int), (true, ((1 : Int), ((0 : Int), (([] : List (UInt8)), (([] : List S7x10), ()))))))] : List S7x0), (app ([] : List S7x0) ([((1 : Int), (true, ((1 : Int), ((0 : Int), (([] : List (UInt8)), (([] : List S7x10), ()))))))] : List S7x0), ()))))))))))))))) (fun y7 => sel (eqN y7.1 0)
  (obind (P_ref09_FS_Files ((), (((y5.2.2.2.2.2.2.2.2.2.2.2.1.1, (y5.2.2.2.2.2.2.2.2.2.2.2.1.2.1, (y5.2.2.2.2.2.2.2.2.2.2.2.2.2.2.2.1, ()))), (y5.2.2.2.2.2.2.2.2.2.2.2.2.1, ())), ()))) (fun y8 => obind (P_ref09_FS_Files ((), (((y7.2.2.2.2.2.2.2.2.2.1.1, (y7.2.2.2.2.2.2.2.2.2.1.2.1, (y7.2.2.2.2.2.2.2.2.2.2.2.2.2.1, ()))), (y7.2.2.2.2.2.2.2.2.2.2.1, ())), ()))) (fun y9 => obind (P_ref09_SameFiles (y8.1.1, (y9.1.1, ()))) (fun y10 => sel y10.1
  (obind (P_law26_awake ()) (fun y11 => some (y11.1, ())))
  (some (false, ()))))))
  (some (y7.2.1.1, ()))))))
  (some (false, ())))
  (some (y5.2.1.1, ()))))
  (some (y4.2.1.1, ()))))))
  none)
  none)
  none)
  none))
end Go.Ge

/- Plain laws of numbers: sums that stay in range, bits of words. -/
namespace Go.Ge
set_option linter.unusedSectionVars false
variable [Lp]
set_option linter.unusedVariables false
set_option linter.unusedSimpArgs false

theorem iadd_i64 {a b : Int} (h : -9223372036854775808 ≤ a + b) (h2 : a + b ≤ 9223372036854775807) : iadd .i64 a b = a + b := by
  unfold iadd; simp [IntKind.wrap, IntKind.min, IntKind.max, IntKind.signed, IntKind.bits]; omega
theorem isub_i64 {a b : Int} (h : -9223372036854775808 ≤ a - b) (h2 : a - b ≤ 9223372036854775807) : isub .i64 a b = a - b := by
  unfold isub; simp [IntKind.wrap, IntKind.min, IntKind.max, IntKind.signed, IntKind.bits]; omega
theorem wrap_u32 (a : Int) : IntKind.wrap .u32 a = a % 4294967296 := by
  simp [IntKind.wrap, IntKind.min, IntKind.max, IntKind.signed, IntKind.bits]

/-! ### Words of 32 bits -/
def Bv (x : Int) : BitVec 32 := BitVec.ofInt 32 x
def Can (x : Int) : Prop := 0 ≤ x ∧ x < 4294967296

theorem can_wrap (a : Int) : Can (IntKind.wrap .u32 a) := by rw [wrap_u32]; unfold Can; omega
theorem bv_toNat (a : Int) : ((Bv a).toNat : Int) = a % 4294967296 := by
  unfold Bv
  rw [BitVec.toNat_ofInt]
  have : 0 ≤ a % ((2 ^ 32 : Nat) : Int) := Int.emod_nonneg _ (by decide)
  rw [Int.toNat_of_nonneg this]; rfl
theorem eq32 {a b : Int} (ha : Can a) (hb : Can b) (h : Bv a = Bv b) : a = b := by
  have h1 := bv_toNat a
  have h2 := bv_toNat b
  rw [h] at h1
  unfold Can at ha hb
  omega
theorem bv_wrap (a : Int) : Bv (IntKind.wrap .u32 a) = Bv a := by
  apply BitVec.eq_of_toNat_eq
  have h1 := bv_toNat a
  have h2 := bv_toNat (IntKind.wrap .u32 a)
  rw [wrap_u32] at h2 ⊢
  omega
theorem bv_nat (v : BitVec 32) : Bv (v.toNat : Int) = v := by
  apply BitVec.eq_of_toNat_eq
  have h1 := bv_toNat (v.toNat : Int)
  have := v.isLt
  omega
theorem bv_or (x y : Int) : Bv (ior .u32 x y) = Bv x ||| Bv y := by unfold ior; rw [bv_wrap]; exact bv_nat _
theorem can_or (x y : Int) : Can (ior .u32 x y) := can_wrap _
theorem ior_comm32 (x y : Int) : ior .u32 x y = ior .u32 y x := eq32 (can_or _ _) (can_or _ _) (by rw [bv_or, bv_or, BitVec.or_comm])
/-! ### Tests and places, decided -/
theorem ltI_true {a b : Int} (h : a < b) : ltI a b = true := by simp [ltI, h]
theorem ltI_false {a b : Int} (h : b ≤ a) : ltI a b = false := by simp [ltI]; omega
theorem leI_true {a b : Int} (h : a ≤ b) : leI a b = true := by simp [leI, h]
theorem leI_false {a b : Int} (h : b < a) : leI a b = false := by simp [leI]; omega
theorem eqI_true {a b : Int} (h : a = b) : eqI a b = true := by simp [eqI, h]
theorem eqI_false {a b : Int} (h : a ≠ b) : eqI a b = false := by simp [eqI, h]
theorem within_true {i n : Int} (h0 : 0 ≤ i) (h1 : i < n) : within i n = true := by simp [within, h0, h1]
theorem inside_true {i j n : Int} (h0 : 0 ≤ i) (h1 : i ≤ j) (h2 : j ≤ n) : inside i j n = true := by simp [inside, h0, h1, h2]
theorem fits_true {n : Int} (h : n ≤ 4294967296) : fits n = true := by simp [fits, h]
theorem way1_inl {S : Type} (s : S) : way1 (some (.inl s : S ⊕ (Nat × S))) = some (.inl s) := rfl
theorem way1_inr {S : Type} (n : Nat) (s : S) : way1 (some (.inr (n, s) : S ⊕ (Nat × S))) = some (.inr s) := rfl
end Go.Ge

/- Plain laws of loops that go through a list, of words in natural numbers. -/
namespace Go.Ge
set_option linter.unusedSectionVars false
variable [Lp]
set_option linter.unusedVariables false
set_option linter.unusedSimpArgs false

/-- A list gone through: on with a state, or out. -/
def runL {α σ R : Type} (step : Nat → σ → α → Option (σ ⊕ R)) (fin : Nat → σ → R) : List α → Nat → σ → Option R
  | [], i, s => some (fin i s)
  | x :: r, i, s => match step i s x with
    | none => none
    | some (.inl s') => runL step fin r (i + 1) s'
    | some (.inr y) => some y

theorem loop_run {α σ S R : Type} {f : S → Option (S ⊕ R)} (l : List α) (mk : σ → Nat → S) (step : Nat → σ → α → Option (σ ⊕ R)) (fin : Nat → σ → R) (Inv : Nat → σ → Prop)
    (hstep : ∀ s i x, l[i]? = some x → i < l.length → Inv i s → f (mk s i) = (step i s x).map (fun q => match q with | .inl s' => .inl (mk s' (i + 1)) | .inr y => .inr y))
    (hinv : ∀ s i x s', l[i]? = some x → Inv i s → step i s x = some (.inl s') → Inv (i + 1) s')
    (hfin : ∀ s, Inv l.length s → f (mk s l.length) = some (.inr (fin l.length s))) (hsome : ∀ s i x, l[i]? = some x → Inv i s → step i s x ≠ none) :
    ∀ s, Inv 0 s → Loop f (mk s 0) = runL step fin l 0 s := by
  have key : ∀ (rest pre : List α) (s : σ), l = pre ++ rest → Inv pre.length s → Loop f (mk s pre.length) = runL step fin rest pre.length s := by
    intro rest
    induction rest with
    | nil =>
      intro pre s hl hI
      rw [List.append_nil] at hl
      subst hl
      rw [Loop_eq, hfin s hI]
      rfl
    | cons x r ih =>
      intro pre s hl hI
      have hx : l[pre.length]? = some x := by rw [hl]; simp
      have hlt : pre.length < l.length := by rw [hl]; simp
      rw [Loop_eq, hstep s pre.length x hx hlt hI]
      unfold runL
      cases hs : step pre.length s x with
      | none => exact absurd hs (hsome s _ x hx hI)
      | some q =>
        cases q with
        | inr y => rfl
        | inl s' =>
          have := ih (pre ++ [x]) s' (by rw [hl]; simp) (by rw [List.length_append]; exact hinv s _ x s' hx hI hs)
          rw [List.length_append] at this
          exact this
  intro s hI
  exact key l [] s rfl hI

/-! ### Words in natural numbers -/
theorem ltI_len {α : Type} (i : Nat) (l : List α) : ltI (i : Int) (len l) = decide (i < l.length) := by simp [ltI, len]
theorem ltI_len0 {α : Type} (l : List α) : ltI (0 : Int) (len l) = decide (0 < l.length) := ltI_len 0 l
theorem leI_len {α : Type} (i : Nat) (l : List α) : leI (len l) (i : Int) = decide (l.length ≤ i) := by simp [leI, len]
theorem fits_len2 {α β : Type} {l : List α} {m : List β} (h : l.length + m.length ≤ 4294967296) : fits (plus (len l) (len m)) = true := by
  apply fits_true; simp only [plus, len]; omega
theorem eqS_false {a b : List UInt8} (h : a ≠ b) : eqS a b = false := by simp [eqS, h]
theorem eqS_true {a b : List UInt8} (h : a = b) : eqS a b = true := by simp [eqS, h]
theorem u8_eq {c : UInt8} {n : UInt8} : eqI (u8 c) (n.toNat : Int) = decide (c = n) := by
  unfold eqI u8
  by_cases h : c = n
  · simp [h]
  · have : c.toNat ≠ n.toNat := fun e => h (UInt8.toNat_inj.1 e)
    simp [h]; omega
theorem sub_take {α : Type} (l : List α) (n : Nat) : sub l 0 (minus (n : Int) 0) = l.take n := by
  unfold sub minus
  simp
theorem sub_drop {α : Type} (l : List α) (n : Nat) (h : n ≤ l.length) : sub l (n : Int) (minus (len l) (n : Int)) = l.drop n := by
  unfold sub minus len
  rw [Int.toNat_natCast]
  apply List.take_of_length_le
  rw [List.length_drop]
  omega
theorem eqN_zero : eqN 0 0 = true := rfl
theorem eqN_one : eqN 1 0 = false := rfl

theorem getElem?_lt {α : Type} {l : List α} {i : Nat} {x : α} (h : l[i]? = some x) : i < l.length := (List.getElem?_eq_some_iff.1 h).1
theorem sub_one {α : Type} {l : List α} {i : Nat} {x : α} (h : l[i]? = some x) : sub l (i : Int) (minus ((i + 1 : Nat) : Int) (i : Int)) = [x] := by
  unfold sub minus
  rw [show ((i + 1 : Nat) : Int) - (i : Int) = 1 by omega, Int.toNat_natCast]
  obtain ⟨hi, rfl⟩ := List.getElem?_eq_some_iff.1 h
  rw [List.drop_eq_getElem_cons hi]
  rfl
theorem inside_nat {a b n : Nat} (h : a ≤ b) (k : b ≤ n) : inside (a : Int) (b : Int) (n : Int) = true := inside_true (by omega) (by omega) (by omega)
theorem inside_len {α : Type} {a b : Nat} {l : List α} (h : a ≤ b) (k : b ≤ l.length) : inside (a : Int) (b : Int) (len l) = true := inside_nat h k
theorem idx_some' {α : Type} {l : List α} {i : Nat} {x : α} (h : l[i]? = some x) : idx l (i : Int) = some x := by rw [idx_nat, h]
theorem ltI_len_true {α : Type} {l : List α} {i : Nat} (h : i < l.length) : ltI (i : Int) (len l) = true := by rw [ltI_len, decide_eq_true h]
theorem ltI_len_end {α : Type} {l : List α} : ltI (l.length : Int) (len l) = false := by rw [ltI_len, decide_eq_false (by omega)]
theorem app_eq {α : Type} (l m : List α) : app l m = l ++ m := rfl
theorem len_eq {α : Type} (l : List α) : len l = (l.length : Int) := rfl
end Go.Ge

/- SHA-256 in plain words: rotations, the words of a block, the rounds. -/
namespace Go.Ge
set_option linter.unusedSectionVars false
variable [Lp]
set_option linter.unusedVariables false
set_option linter.unusedSimpArgs false

def rot (n x : Int) : Int := ior .u32 (ishr .u32 x n) (ishl .u32 x (32 - n))

theorem right_of {n m : Int} (h : iand .u64 (icv .u64 (isub .i64 0 n)) 31 = m) (h1 : ltI m 0 = false) (h2 : isub .u64 32 m = n) (h3 : ltI n 0 = false) (h4 : 32 - n = m) (x : Int) : P_sha_right (x, (n, ())) = some (rot n x, ()) := by
  unfold P_sha_right P_math_bits_RotateLeft32 rot
  dsimp only
  rw [h, h1, sel_false, h2, h3, sel_false, obind_some, h4, ior_comm32]
theorem turn_of {n : Int} (h1 : ltI n 0 = false) (h2 : isub .i64 32 n = 32 - n) (h3 : ltI (32 - n) 0 = false) (x : Int) : P_ref02_turn (x, (n, ())) = some (rot n x, ()) := by
  unfold P_ref02_turn rot
  dsimp only
  rw [h1, sel_false, h2, h3, sel_false]

theorem r2 (x : Int) : P_sha_right (x, (2, ())) = some (rot 2 x, ()) := right_of (m := 30) (by decide) (by decide) (by decide) (by decide) (by decide) x
theorem t2 (x : Int) : P_ref02_turn (x, (2, ())) = some (rot 2 x, ()) := turn_of (by decide) (by decide) (by decide) x
/-! ### The words of a block -/
def word (b : List Int) (t : Nat) : Int :=
  ior .u32 (ior .u32 (ior .u32 (ishl .u32 (icv .u32 (b.getD (4 * t) 0)) 24) (ishl .u32 (icv .u32 (b.getD (4 * t + 1) 0)) 16)) (ishl .u32 (icv .u32 (b.getD (4 * t + 2) 0)) 8)) (icv .u32 (b.getD (4 * t + 3) 0))
def zeros (n : Nat) : List Int := List.replicate n 0
def fillW (b : List Int) : Nat → List Int
  | 0 => zeros 64
  | t + 1 => (fillW b t).set t (word b t)
def nextW (p : List Int) (t : Nat) : Int :=
  iadd .u32 (iadd .u32 (iadd .u32 (ixor .u32 (ixor .u32 (rot 17 (p.getD (t - 2) 0)) (rot 19 (p.getD (t - 2) 0))) (ishr .u32 (p.getD (t - 2) 0) 10)) (p.getD (t - 7) 0))
    (ixor .u32 (ixor .u32 (rot 7 (p.getD (t - 15) 0)) (rot 18 (p.getD (t - 15) 0))) (ishr .u32 (p.getD (t - 15) 0) 3))) (p.getD (t - 16) 0)
def extW (l : List Int) : Nat → List Int
  | 0 => l
  | k + 1 => (extW l k).set (16 + k) (nextW (extW l k) (16 + k))
def schedW (b : List Int) : List Int := extW (fillW b 16) 48
/-! ### The same of the reference -/
/-! ### The rounds -/
abbrev W8 := Int × Int × Int × Int × Int × Int × Int × Int
def rnd (k w : Int) : W8 → W8
  | (a, b, c, d, e, f, g, h) =>
    let one := iadd .u32 (iadd .u32 (iadd .u32 (iadd .u32 h (ixor .u32 (ixor .u32 (rot 6 e) (rot 11 e)) (rot 25 e))) (ixor .u32 g (iand .u32 e (ixor .u32 f g)))) k) w
    let two := iadd .u32 (ixor .u32 (ixor .u32 (rot 2 a) (rot 13 a)) (rot 22 a)) (ior .u32 (iand .u32 a b) (iand .u32 c (ior .u32 a b)))
    (iadd .u32 one two, a, b, c, iadd .u32 d one, e, f, g)
def rnds (K w : List Int) (s : W8) : Nat → W8
  | 0 => s
  | t + 1 => rnd (K.getD t 0) (w.getD t 0) (rnds K w s t)
def K256 : List Int := [1116352408, 1899447441, 3049323471, 3921009573, 961987163, 1508970993, 2453635748, 2870763221, 3624381080, 310598401, 607225278, 1426881987, 1925078388, 2162078206, 2614888103, 3248222580, 3835390401, 4022224774, 264347078, 604807628, 770255983, 1249150122, 1555081692, 1996064986, 2554220882, 2821834349, 2952996808, 3210313671, 3336571891, 3584528711, 113926993, 338241895, 666307205, 773529912, 1294757372, 1396182291, 1695183700, 1986661051, 2177026350, 2456956037, 2730485921, 2820302411, 3259730800, 3345764771, 3516065817, 3600352804, 4094571909, 275423344, 430227734, 506948616, 659060556, 883997877, 958139571, 1322822218, 1537002063, 1747873779, 1955562222, 2024104815, 2227730452, 2361852424, 2428436474, 2756734187, 3204031479, 3329325298]
def list8 (s : W8) : List Int := [s.1, s.2.1, s.2.2.1, s.2.2.2.1, s.2.2.2.2.1, s.2.2.2.2.2.1, s.2.2.2.2.2.2.1, s.2.2.2.2.2.2.2]

/-! ### A block -/
def of8 (l : List Int) : W8 := (l.getD 0 0, l.getD 1 0, l.getD 2 0, l.getD 3 0, l.getD 4 0, l.getD 5 0, l.getD 6 0, l.getD 7 0)
def addW (l m : List Int) : Nat → List Int
  | 0 => l
  | i + 1 => (addW l m i).set i (iadd .u32 (l.getD i 0) (m.getD i 0))
/-- The eight words behind a block. -/
def comp (h b : List Int) : List Int := addW h (list8 (rnds K256 (schedW b) (of8 h) 64)) 8
end Go.Ge

/- SHA-256 in plain words: streams. -/
namespace Go.Ge
set_option linter.unusedSectionVars false
variable [Lp]
set_option linter.unusedVariables false
set_option linter.unusedSimpArgs false

def H0 : List Int := [1779033703, 3144134277, 1013904242, 2773480762, 1359893119, 2600822924, 528734635, 1541459225]
/-- The words behind so many blocks of some bytes. -/
def hsB (all : List UInt8) : Nat → List Int
  | 0 => H0
  | k + 1 => comp (hsB all k) (bytesInts ((all.drop (64 * k)).take 64))
abbrev Strm := (Bool × List Int × Unit) × List Int × Int × Unit

/-- A stream that has taken some bytes. -/
def Inv (st : Strm) (all : List UInt8) : Prop :=
  ∃ wait, st = ((decide (64 ≤ all.length), (if 64 ≤ all.length then hsB all (all.length / 64) else zeros 8), ()), wait, (all.length : Int), ()) ∧ wait.length = 64 ∧ wait.take (all.length % 64) = bytesInts (all.drop (64 * (all.length / 64)))

end Go.Ge

/- SHA-256 in plain words: sums, the program's and the reference's. -/
namespace Go.Ge
set_option linter.unusedSectionVars false
variable [Lp]
set_option linter.unusedVariables false
set_option linter.unusedSimpArgs false

/-! ### What stands behind the bytes -/
def zs (n : Nat) : Nat := (119 - n % 64) % 64
theorem intsBytes_app (a b : List Int) : intsBytes (a ++ b) = intsBytes a ++ intsBytes b := by simp [intsBytes]

/-! ### The reference -/
/-! ### The bytes of the sum -/
/-! ### The program -/
end Go.Ge

/- The laws of layer 02 in plain words. -/
namespace Go.Ge
set_option linter.unusedSectionVars false
variable [Lp]
set_option linter.unusedVariables false
set_option linter.unusedSimpArgs false

abbrev PartS := (Bool × List UInt8 × Int × Unit) × Strm × Strm × Unit

end Go.Ge

/- Bytes as hexadecimal digits, and back, in plain words. -/
namespace Go.Ge
set_option linter.unusedSectionVars false
variable [Lp]
set_option linter.unusedVariables false
set_option linter.unusedSimpArgs false

def hexT : List UInt8 := [48, 49, 50, 51, 52, 53, 54, 55, 56, 57, 97, 98, 99, 100, 101, 102]
def hx (n : Nat) : UInt8 := hexT.getD n 0
/-! ### The reference's digits -/
end Go.Ge

/- Pairs of hexadecimal digits as bytes, in plain words. -/
namespace Go.Ge
set_option linter.unusedSectionVars false
variable [Lp]
set_option linter.unusedVariables false
set_option linter.unusedSimpArgs false

def hv (c : UInt8) : Int := Lib.indexByte hexT c
end Go.Ge

/- Pairs of hexadecimal digits as bytes: the reference. -/
namespace Go.Ge
set_option linter.unusedSectionVars false
variable [Lp]
set_option linter.unusedVariables false
set_option linter.unusedSimpArgs false

end Go.Ge

/- Digests in plain words. -/
namespace Go.Ge
set_option linter.unusedSectionVars false
variable [Lp]
set_option linter.unusedVariables false
set_option linter.unusedSimpArgs false

end Go.Ge

/- Octal digits in plain words. -/
namespace Go.Ge
set_option linter.unusedSectionVars false
variable [Lp]
set_option linter.unusedVariables false
set_option linter.unusedSimpArgs false

end Go.Ge

/- Texts without what stands at their ends, and the number of octal digits, in plain words. -/
namespace Go.Ge
set_option linter.unusedSectionVars false
variable [Lp]
set_option linter.unusedVariables false
set_option linter.unusedSimpArgs false
set_option maxRecDepth 100000

/-! ### What stands at the end is let go -/
/-! ### Both noughts and blanks -/
/-! ### The left end -/
end Go.Ge

/- Headers: which ones may be; numbers and texts of fields, in plain words. -/
namespace Go.Ge
set_option linter.unusedSectionVars false
variable [Lp]
set_option linter.unusedVariables false
set_option linter.unusedSimpArgs false

/-! ### Texts without noughts -/
def noNul (s : List UInt8) : Prop := ∀ x ∈ s, x ≠ 0
instance (s : List UInt8) : Decidable (noNul s) := inferInstanceAs (Decidable (∀ x ∈ s, x ≠ 0))

/-! ### Which headers may be -/
abbrev Hd := List UInt8 × Int × Int × Int × Int × Int × Int × List UInt8 × Unit
def clr (s : List UInt8) (most : Int) : Prop := s ≠ [] ∧ (s.length : Int) ≤ most ∧ noNul s
instance (s : List UInt8) (most : Int) : Decidable (clr s most) := inferInstanceAs (Decidable (_ ∧ _ ∧ _))
def inN (n b : Int) : Prop := 0 ≤ n ∧ n < b
instance (n b : Int) : Decidable (inN n b) := inferInstanceAs (Decidable (_ ∧ _))
def kindOk (h : Hd) : Prop := (h.2.1 = 1 ∧ h.2.2.2.2.2.2.2.1 = []) ∨ (h.2.1 = 2 ∧ h.2.2.2.2.2.2.2.1 = [] ∧ h.2.2.2.2.2.1 = 0) ∨ (h.2.1 = 3 ∧ clr h.2.2.2.2.2.2.2.1 100 ∧ h.2.2.2.2.2.1 = 0)
instance (h : Hd) : Decidable (kindOk h) := inferInstanceAs (Decidable (_ ∨ _ ∨ _))
def okHd (h : Hd) (most : Int) : Prop := inN h.2.2.1 2097152 ∧ inN h.2.2.2.1 2097152 ∧ inN h.2.2.2.2.1 2097152 ∧ inN h.2.2.2.2.2.1 8589934592 ∧ inN h.2.2.2.2.2.2.1 8589934592 ∧ clr h.1 most ∧ kindOk h
instance (h : Hd) (most : Int) : Decidable (okHd h most) := inferInstanceAs (Decidable (_ ∧ _ ∧ _ ∧ _ ∧ _ ∧ _ ∧ _))

end Go.Ge

/- Paths in plain words: their names, and what these are put together to. -/
namespace Go.Ge
set_option linter.unusedSectionVars false
variable [Lp]
set_option linter.unusedVariables false
set_option linter.unusedSimpArgs false

/-- A text at its strokes. -/
def splitS : List UInt8 → List (List UInt8)
  | [] => [[]]
  | b :: r => if b = 47 then [] :: splitS r else match splitS r with
    | h :: t => (b :: h) :: t
    | [] => [[b]]

theorem splitS_ne (s : List UInt8) : splitS s ≠ [] := by
  cases s with
  | nil => simp [splitS]
  | cons b r =>
    unfold splitS
    split
    · simp
    · split <;> simp

theorem splitS_cons {b : UInt8} (h : b ≠ 47) {r x : List UInt8} {t : List (List UInt8)} (e : splitS r = x :: t) : splitS (b :: r) = (b :: x) :: t := by
  rw [splitS, if_neg h, e]

/-- The names of a path. -/
def parts (p : List UInt8) : List (List UInt8) := if p = [] then [] else splitS p

theorem u8_47 (c : UInt8) : eqI (u8 c) 47 = decide (c = 47) := u8_eq (n := 47)
theorem u8_0 (c : UInt8) : eqI (u8 c) 0 = decide (c = 0) := u8_eq (n := 0)

theorem refParts_val (p : List UInt8) (hp : p.length ≤ 1048576) : P_ref07_Parts (p, ()) = some (parts p, ()) := by
  unfold P_ref07_Parts parts
  dsimp only
  by_cases h : p = []
  · rw [eqS_true h, sel_true, if_pos h]
  · rw [eqS_false h, sel_false, if_neg h]
    have key := loop_run (f := P_ref07_Parts_L0 (p, ())) p (fun (s : List UInt8 × List (List UInt8)) i => (((), (s.1, ((i : Int), ()))), (s.2, ())))
      (fun i s x => some (.inl (if x = 47 then ([], s.2 ++ [s.1]) else (s.1 ++ [x], s.2)))) (fun i s => (((), (s.1, ((i : Int), ()))), (s.2, ()))) (fun i s => s.1.length ≤ i ∧ s.2.length ≤ i)
      (fun s i x hx hi hI => by
        unfold P_ref07_Parts_L0
        dsimp only
        rw [ltI_len_true hi, sel_true, idx_some' hx, obind_some, u8_47]
        by_cases hq : x = 47
        · rw [decide_eq_true hq, sel_true, fits_len2 (by simp only [List.length_cons, List.length_nil]; omega), sel_true, obind_some, iadd_one (by omega)]
          simp only [if_pos hq]
          rfl
        · rw [decide_eq_false hq, sel_false, iadd_one (by omega), inside_len (by omega) (by omega), sel_true, sub_one hx, fits_len2 (by simp only [List.length_cons, List.length_nil]; omega), sel_true, obind_some]
          simp only [if_neg hq]
          rfl)
      (fun s i x s' hx hI hs => by
        obtain rfl := Sum.inl.inj (Option.some.inj hs)
        by_cases hq : x = 47
        · simp only [if_pos hq, List.length_append, List.length_cons, List.length_nil]; omega
        · simp only [if_neg hq, List.length_append, List.length_cons, List.length_nil]; omega)
      (fun s hI => by
        unfold P_ref07_Parts_L0
        dsimp only
        rw [ltI_len_end, sel_false]
        rfl)
      (fun s i x _ _ h => by cases h) ([], []) ⟨Nat.le_refl _, Nat.le_refl _⟩
    have run : ∀ (r : List UInt8) (i : Nat) (a : List UInt8) (o : List (List UInt8)), ∃ a' o' j, runL (fun i (s : List UInt8 × List (List UInt8)) x => some (.inl (if x = 47 then ([], s.2 ++ [s.1]) else (s.1 ++ [x], s.2)))) (fun i (s : List UInt8 × List (List UInt8)) => (((), (s.1, ((i : Int), ()))), (s.2, ()))) r i (a, o) = some (((), (a', (j, ()))), (o', ())) ∧
        o' ++ [a'] = o ++ (match splitS r with | h :: t => (a ++ h) :: t | [] => [a]) ∧ o'.length ≤ o.length + r.length := by
      intro r
      induction r with
      | nil => intro i a o; exact ⟨a, o, _, rfl, by simp [splitS], by simp⟩
      | cons x r ih =>
        intro i a o
        by_cases hq : x = 47
        · obtain ⟨a', o', j, h1, h2, h3⟩ := ih (i + 1) [] (o ++ [a])
          refine ⟨a', o', j, ?_, ?_, ?_⟩
          · unfold runL
            simp only [if_pos hq]
            exact h1
          · rw [h2, splitS, if_pos hq]
            cases hs : splitS r with
            | nil => exact absurd hs (splitS_ne r)
            | cons h t => simp
          · simp only [List.length_append, List.length_cons, List.length_nil] at h3 ⊢; omega
        · obtain ⟨a', o', j, h1, h2, h3⟩ := ih (i + 1) (a ++ [x]) o
          refine ⟨a', o', j, ?_, ?_, ?_⟩
          · unfold runL
            simp only [if_neg hq]
            exact h1
          · rw [h2]
            cases hs : splitS r with
            | nil => exact absurd hs (splitS_ne r)
            | cons h t => rw [splitS_cons hq hs]; simp
          · simp only [List.length_cons] at h3 ⊢; omega
    obtain ⟨a', o', j, h1, h2, h3⟩ := run p 0 [] []
    have key' : Loop (P_ref07_Parts_L0 (p, ())) (((), (([] : List UInt8), ((0 : Int), ()))), (([] : List (List UInt8)), ())) = some (((), (a', (j, ()))), (o', ())) := key.trans h1
    rw [key', obind_some]
    dsimp only
    simp only [List.length_nil] at h3
    rw [fits_len2 (by simp only [List.length_cons, List.length_nil]; omega), sel_true, app_eq, h2]
    cases hs : splitS p with
    | nil => exact absurd hs (splitS_ne p)
    | cons h t => simp

/-! ### Put together -/
theorem splitS_mem (s : List UInt8) : ∀ x ∈ splitS s, 47 ∉ x ∧ x.length ≤ s.length := by
  induction s with
  | nil => intro x hx; simp [splitS] at hx; subst hx; simp
  | cons b r ih =>
    intro x hx
    by_cases h : b = 47
    · rw [splitS, if_pos h] at hx
      rcases List.mem_cons.1 hx with rfl | hx
      · simp
      · obtain ⟨h1, h2⟩ := ih x hx
        exact ⟨h1, by simp only [List.length_cons]; omega⟩
    · cases hs : splitS r with
      | nil => exact absurd hs (splitS_ne r)
      | cons y t =>
        rw [splitS_cons h hs] at hx
        rw [hs] at ih
        rcases List.mem_cons.1 hx with rfl | hx
        · obtain ⟨h1, h2⟩ := ih y (List.mem_cons_self ..)
          exact ⟨by simp only [List.mem_cons, not_or]; exact ⟨fun e => h e.symm, h1⟩, by simp only [List.length_cons]; omega⟩
        · obtain ⟨h1, h2⟩ := ih x (List.mem_cons_of_mem _ hx)
          exact ⟨h1, by simp only [List.length_cons]; omega⟩

theorem length_splitS (s : List UInt8) : (splitS s).length ≤ s.length + 1 := by
  induction s with
  | nil => simp [splitS]
  | cons b r ih =>
    by_cases h : b = 47
    · rw [splitS, if_pos h]; simp only [List.length_cons]; omega
    · cases hs : splitS r with
      | nil => exact absurd hs (splitS_ne r)
      | cons y t => rw [splitS_cons h hs]; rw [hs] at ih; simp only [List.length_cons] at ih ⊢; omega

theorem parts_mem (p : List UInt8) : ∀ x ∈ parts p, 47 ∉ x ∧ x.length ≤ p.length := by
  unfold parts
  by_cases h : p = []
  · rw [if_pos h]; intro x hx; cases hx
  · rw [if_neg h]; exact splitS_mem p
theorem length_parts (p : List UInt8) : (parts p).length ≤ p.length + 1 := by
  unfold parts
  by_cases h : p = []
  · rw [if_pos h]; simp
  · rw [if_neg h]; exact length_splitS p
end Go.Ge

/- Clean paths in plain words. -/
namespace Go.Ge
set_option linter.unusedSectionVars false
variable [Lp]
set_option linter.unusedVariables false
set_option linter.unusedSimpArgs false

/-- What may be a name in a path. -/
def isNm (s : List UInt8) : Bool := decide (s ≠ [46] ∧ s ≠ [46, 46] ∧ 1 ≤ s.length ∧ s.length ≤ 32 ∧ 0 ∉ s)

theorem refIsName_val (s : List UInt8) (hs : s.length ≤ 1048576) : P_ref07_isName (s, ()) = some (isNm s && decide (47 ∉ s), ()) := by
  unfold P_ref07_isName
  have key := loop_run (f := P_ref07_isName_L0 (s, ())) s (fun (_ : Unit) i => ((false, ((i : Int), ())), ()))
    (fun i _ x => some (if x = 0 ∨ x = 47 then .inr (1, ((false, ((i : Int), ())), ())) else .inl ())) (fun i _ => (0, ((false, ((i : Int), ())), ()))) (fun _ _ => True)
    (fun u i x hx hi _ => by
      unfold P_ref07_isName_L0
      dsimp only
      rw [ltI_len_true hi, sel_true, idx_some' hx, obind_some, u8_0]
      by_cases h0 : x = 0
      · rw [decide_eq_true h0, nt_true, sel_false, obind_some, sel_true, if_pos (.inl h0)]; rfl
      · rw [decide_eq_false h0, nt_false, sel_true, obind_some, u8_47, obind_some]
        by_cases h1 : x = 47
        · rw [decide_eq_true h1, sel_true, if_pos (.inr h1)]; rfl
        · rw [decide_eq_false h1, sel_false, if_neg (by simp [h0, h1]), iadd_one (by omega)]; rfl)
    (fun _ _ _ _ _ _ _ => trivial)
    (fun u _ => by
      unfold P_ref07_isName_L0
      dsimp only
      rw [ltI_len_end, sel_false])
    (fun _ _ _ _ _ h => by cases h) () trivial
  have run : ∀ (r : List UInt8) (i : Nat), ∃ q, runL (fun i (_ : Unit) x => some (if x = 0 ∨ x = 47 then Sum.inr (1, ((false, ((i : Int), ())), ())) else Sum.inl ())) (fun i _ => ((0 : Nat), ((false, ((i : Int), ())), ()))) r i () = some q ∧
      q.1 = (if 0 ∉ r ∧ 47 ∉ r then 0 else 1) ∧ q.2.1.1 = false := by
    intro r
    induction r with
    | nil => intro i; exact ⟨_, rfl, by simp, rfl⟩
    | cons x r ih =>
      intro i
      unfold runL
      by_cases h : x = 0 ∨ x = 47
      · simp only [if_pos h]
        refine ⟨_, rfl, ?_, rfl⟩
        rw [if_neg]
        rcases h with h | h <;> simp [h]
      · simp only [if_neg h]
        obtain ⟨q, h1, h2, h3⟩ := ih (i + 1)
        refine ⟨q, h1, ?_, h3⟩
        rw [h2]
        simp only [not_or] at h
        simp only [List.mem_cons, not_or]
        have h1' : ¬ (0 = x) := fun e => h.1 e.symm
        have h2' : ¬ (47 = x) := fun e => h.2 e.symm
        simp [h1', h2']
  obtain ⟨q, h1, h2, h3⟩ := run s 0
  have key' : Loop (P_ref07_isName_L0 (s, ())) ((false, ((0 : Int), ())), ()) = some q := key.trans h1
  rw [key', obind_some]
  have el : leI 1 (len s) = decide (1 ≤ s.length) := by unfold leI len; apply decide_eq_decide.2; omega
  have eh : leI (len s) 32 = decide (s.length ≤ 32) := leI_len 32 s
  rw [el, eh, h2, h3]
  unfold isNm
  by_cases a : 0 ∉ s ∧ 47 ∉ s
  · rw [if_pos a, eqN_zero, sel_true]
    by_cases c : 1 ≤ s.length
    · by_cases d : s.length ≤ 32
      · by_cases e : s = [46]
        · simp [e, sel, eqS, nt]
        · by_cases f : s = [46, 46]
          · simp [f, sel, eqS, nt]
          · simp [a, c, d, e, f, sel, eqS, nt]
      · simp [d, c, sel]
    · simp [c, sel]
  · rw [if_neg a, eqN_one, sel_false]
    congr 2
    by_cases b : 0 ∈ s
    · simp [b]
    · have : 47 ∈ s := by
        have := a
        simp only [not_and, Decidable.not_not] at this
        exact this b
      simp [this]

theorem refIs_val (p : List UInt8) (hp : p.length ≤ 1048576) : P_ref07_Is (p, ()) = some ((parts p).all isNm && decide ((parts p).length ≤ 8) && decide (p.length ≤ 96), ()) := by
  unfold P_ref07_Is
  dsimp only
  rw [refParts_val p hp, obind_some]
  have hm := parts_mem p
  have hn := length_parts p
  generalize parts p = l at hm hn
  have key := loop_run (f := P_ref07_Is_L0 (l, ())) l (fun (_ : Unit) i => ((false, ((i : Int), ())), ()))
    (fun i _ x => some (if isNm x = false then .inr (1, ((false, ((i : Int), ())), ())) else .inl ())) (fun i _ => (0, ((false, ((i : Int), ())), ()))) (fun _ _ => True)
    (fun u i x hx hi _ => by
      unfold P_ref07_Is_L0
      dsimp only
      have hx' := hm x (List.mem_of_getElem? hx)
      rw [ltI_len_true hi, sel_true, idx_some' hx, obind_some, refIsName_val x (by omega), obind_some]
      dsimp only
      rw [decide_eq_true hx'.1, Bool.and_true]
      cases h : isNm x with
      | true => rw [nt_true, sel_false, if_neg (by simp), iadd_one (by omega)]; rfl
      | false => rw [nt_false, sel_true, if_pos rfl]; rfl)
    (fun _ _ _ _ _ _ _ => trivial)
    (fun u _ => by
      unfold P_ref07_Is_L0
      dsimp only
      rw [ltI_len_end, sel_false])
    (fun _ _ _ _ _ h => by cases h) () trivial
  have run : ∀ (r : List (List UInt8)) (i : Nat), ∃ q, runL (fun i (_ : Unit) x => some (if isNm x = false then Sum.inr (1, ((false, ((i : Int), ())), ())) else Sum.inl ())) (fun i _ => ((0 : Nat), ((false, ((i : Int), ())), ()))) r i () = some q ∧
      q.1 = (if r.all isNm = true then 0 else 1) ∧ q.2.1.1 = false := by
    intro r
    induction r with
    | nil => intro i; exact ⟨_, rfl, rfl, rfl⟩
    | cons x r ih =>
      intro i
      unfold runL
      cases h : isNm x with
      | false => exact ⟨_, rfl, by simp [h], rfl⟩
      | true =>
        obtain ⟨q, h1, h2, h3⟩ := ih (i + 1)
        exact ⟨q, h1, by rw [h2]; simp [h], h3⟩
  obtain ⟨q, h1, h2, h3⟩ := run l 0
  have key' : Loop (P_ref07_Is_L0 (l, ())) ((false, ((0 : Int), ())), ()) = some q := key.trans h1
  rw [key', obind_some, h2, h3]
  have e8 : leI (len l) 8 = decide (l.length ≤ 8) := leI_len 8 l
  have e96 : leI (len p) 96 = decide (p.length ≤ 96) := leI_len 96 p
  rw [e8, e96]
  cases h : l.all isNm with
  | true =>
    rw [if_pos rfl, eqN_zero, sel_true]
    by_cases a : l.length ≤ 8 <;> simp [a, sel]
  | false => rw [if_neg (by simp), eqN_one, sel_false]; simp

/-! ### Clean -/
end Go.Ge

/- The order of texts; two lists gone through side by side. -/
namespace Go.Ge
set_option linter.unusedSectionVars false
variable [Lp]
set_option linter.unusedVariables false
set_option linter.unusedSimpArgs false

/-! ### Side by side -/
end Go.Ge

/- Paths in plain words: split, joined, under one another, compared, marks. -/
namespace Go.Ge
set_option linter.unusedSectionVars false
variable [Lp]
set_option linter.unusedVariables false
set_option linter.unusedSimpArgs false

/-! ### Where the last stroke stands -/
/-! ### Put together -/
def joinP (d n : List UInt8) : List UInt8 := if d = [] ∨ n = [] then d ++ n else d ++ 47 :: n
theorem refpjoin_val (d n : List UInt8) (hd : d.length ≤ 1048576) (hn : n.length ≤ 1048576) : P_ref07_Join (d, (n, ())) = some (joinP d n, ()) := by
  unfold P_ref07_Join joinP
  dsimp only
  by_cases a : d = []
  · rw [eqS_true a, sel_true, if_pos (.inl a), a]; rfl
  · rw [eqS_false a, sel_false]
    by_cases b : n = []
    · rw [eqS_true b, sel_true, if_pos (.inr b), b, List.append_nil]
    · rw [eqS_false b, sel_false, fits_len2 (by simp only [List.length_cons, List.length_nil]; omega), sel_true, fits_len2 (by simp only [app_eq, List.length_append, List.length_cons, List.length_nil]; omega), sel_true, if_neg (by simp [a, b])]
      simp [app]

/-! ### Under one another -/
/-! ### Compared -/
end Go.Ge

/- Plain laws of loops that look for something in a list. -/
namespace Go.Ge
set_option linter.unusedSectionVars false
variable [Lp]
set_option linter.unusedVariables false
set_option linter.unusedSimpArgs false

theorem ob {α β : Type} {o : Option α} {x : α} {f : α → Option β} {r : Option β} (h : o = some x) (k : f x = r) : obind o f = r := by rw [h]; exact k

/-- The first place of a list that something is true of, or none. -/
theorem first_or {α : Type} (l : List α) (p : Nat → α → Bool) :
    (∃ i x, l[i]? = some x ∧ p i x = true ∧ ∀ j y, j < i → l[j]? = some y → p j y = false) ∨ ∀ i x, l[i]? = some x → p i x = false := by
  by_cases h : ∃ i x, l[i]? = some x ∧ p i x = true
  · left
    have key : ∀ n i x, i ≤ n → l[i]? = some x → p i x = true → ∃ i x, l[i]? = some x ∧ p i x = true ∧ ∀ j y, j < i → l[j]? = some y → p j y = false := by
      intro n
      induction n with
      | zero =>
        intro i x hi hx hp
        obtain rfl : i = 0 := by omega
        exact ⟨0, x, hx, hp, fun j y hj => by omega⟩
      | succ n ih =>
        intro i x hi hx hp
        by_cases k : ∃ j y, j < i ∧ l[j]? = some y ∧ p j y = true
        · obtain ⟨j, y, hj, hy, hq⟩ := k
          exact ih j y (by omega) hy hq
        · refine ⟨i, x, hx, hp, fun j y hj hy => ?_⟩
          cases hq : p j y with
          | false => rfl
          | true => exact absurd ⟨j, y, hj, hy, hq⟩ k
    obtain ⟨i, x, hx, hp⟩ := h
    exact key i i x (Nat.le_refl _) hx hp
  · right
    intro i x hx
    cases hq : p i x with
    | false => rfl
    | true => exact absurd ⟨i, x, hx, hq⟩ h

/-- A loop whose states are told one by one, from one of them. -/
theorem loop_seq' {S R : Type} {f : S → Option (S ⊕ R)} {r : R} (st : Nat → S) : ∀ (d k : Nat), (∀ i, k ≤ i → i < k + d → f (st i) = some (.inl (st (i + 1)))) → f (st (k + d)) = some (.inr r) → Loop f (st k) = some r := by
  intro d
  induction d with
  | zero => intro k _ h; rw [Nat.add_zero] at h; rw [Loop_eq, h]; rfl
  | succ d ih =>
    intro k h1 h2
    rw [Loop_eq, h1 k (Nat.le_refl _) (by omega)]
    exact ih (k + 1) (fun i hi hk => h1 i (by omega) (by omega)) (by rw [show k + 1 + d = k + (d + 1) by omega]; exact h2)

/-- A search through a list. -/
theorem srch {α S R : Type} {f : S → Option (S ⊕ R)} (l : List α) (mk : Int → S) (p : Nat → α → Bool) (hitS : Nat → α → R) (finS : R) (hl : l.length ≤ 4294967296)
    (hstep : ∀ i x, l[i]? = some x → i < l.length → iadd .i64 (i : Int) 1 = ((i + 1 : Nat) : Int) → f (mk (i : Int)) = some (if p i x = true then .inr (hitS i x) else .inl (mk ((i + 1 : Nat) : Int))))
    (hfin : f (mk (l.length : Int)) = some (.inr finS)) :
    (∃ i x, l[i]? = some x ∧ p i x = true ∧ (∀ j y, j < i → l[j]? = some y → p j y = false) ∧ Loop f (mk 0) = some (hitS i x)) ∨ ((∀ i x, l[i]? = some x → p i x = false) ∧ Loop f (mk 0) = some finS) := by
  have adv : ∀ i x, l[i]? = some x → p i x = false → f (mk (i : Int)) = some (.inl (mk ((i + 1 : Nat) : Int))) := fun i x hx hp => by
    have hi := getElem?_lt hx
    rw [hstep i x hx hi (iadd_one (by omega)), hp]; rfl
  rcases first_or l p with ⟨i, x, hx, hp, hj⟩ | hn
  · left
    refine ⟨i, x, hx, hp, hj, ?_⟩
    have hi := getElem?_lt hx
    refine loop_seq i (fun j : Nat => mk (j : Int)) (fun j hji => ?_) ?_
    · have hjl : j < l.length := by omega
      exact adv j l[j] (List.getElem?_eq_getElem hjl) (hj j _ hji (List.getElem?_eq_getElem hjl))
    · rw [hstep i x hx hi (iadd_one (by omega)), hp]; rfl
  · right
    refine ⟨hn, loop_seq l.length (fun j : Nat => mk (j : Int)) (fun j hj => ?_) hfin⟩
    exact adv j l[j] (List.getElem?_eq_getElem hj) (hn j _ (List.getElem?_eq_getElem hj))

/-- The same where it ends ahead of the list's end, at a bound of its own. -/
theorem srchTo {α S R : Type} {f : S → Option (S ⊕ R)} (l : List α) (n : Nat) (mk : Int → S) (p : Nat → α → Bool) (hitS : Nat → α → R) (finS : Nat → R) (hl : min n l.length ≤ 4294967296)
    (hstep : ∀ i x, l[i]? = some x → i < l.length → i < n → iadd .i64 (i : Int) 1 = ((i + 1 : Nat) : Int) → f (mk (i : Int)) = some (if p i x = true then .inr (hitS i x) else .inl (mk ((i + 1 : Nat) : Int))))
    (hfin : f (mk ((min n l.length : Nat) : Int)) = some (.inr (finS (min n l.length)))) :
    (∃ i x, i < n ∧ l[i]? = some x ∧ p i x = true ∧ (∀ j y, j < i → l[j]? = some y → p j y = false) ∧ Loop f (mk 0) = some (hitS i x)) ∨ ((∀ i x, i < n → l[i]? = some x → p i x = false) ∧ Loop f (mk 0) = some (finS (min n l.length))) := by
  have ht : ∀ i x, (l.take n)[i]? = some x ↔ (i < n ∧ l[i]? = some x) := fun i x => by
    rw [List.getElem?_take]
    by_cases h : i < n
    · simp [h]
    · simp [h]
  have hlen : (l.take n).length = min n l.length := List.length_take
  rcases srch (f := f) (l.take n) mk p hitS (finS (min n l.length)) (by rw [hlen]; exact hl) (fun i x hx hi hadd => by
      obtain ⟨h1, h2⟩ := (ht i x).1 hx
      exact hstep i x h2 (getElem?_lt h2) h1 hadd) (by rw [hlen]; exact hfin) with ⟨i, x, hx, hp, hj, h⟩ | ⟨hn, h⟩
  · obtain ⟨h1, h2⟩ := (ht i x).1 hx
    exact .inl ⟨i, x, h1, h2, hp, fun j y hji hy => hj j y hji ((ht j y).2 ⟨by omega, hy⟩), h⟩
  · exact .inr ⟨fun i x hi hx => hn i x ((ht i x).2 ⟨hi, hx⟩), h⟩

/-- A list gone through to its end. -/
theorem fold_loop {α σ S R : Type} {f : S → Option (S ⊕ R)} (l : List α) (mk : σ → Int → S) (step : σ → Nat → α → σ) (fin : σ → R) (Inv : σ → Nat → Prop) (hl : l.length ≤ 4294967296)
    (hstep : ∀ s i x, l[i]? = some x → i < l.length → iadd .i64 (i : Int) 1 = ((i + 1 : Nat) : Int) → Inv s i → f (mk s (i : Int)) = some (.inl (mk (step s i x) ((i + 1 : Nat) : Int))) ∧ Inv (step s i x) (i + 1))
    (hfin : ∀ s, Inv s l.length → f (mk s (l.length : Int)) = some (.inr (fin s))) (s : σ) (h0 : Inv s 0) : ∃ t, Inv t l.length ∧ Loop f (mk s 0) = some (fin t) ∧ t = (l.zipIdx).foldl (fun a p => step a p.2 p.1) s := by
  have key : ∀ (rest pre : List α) (s : σ), l = pre ++ rest → Inv s pre.length → ∃ t, Inv t l.length ∧ Loop f (mk s (pre.length : Int)) = some (fin t) ∧ t = (rest.zipIdx pre.length).foldl (fun a p => step a p.2 p.1) s := by
    intro rest
    induction rest with
    | nil =>
      intro pre s hl2 hI
      rw [List.append_nil] at hl2
      subst hl2
      exact ⟨s, hI, by rw [Loop_eq, hfin s hI]; rfl, rfl⟩
    | cons x r ih =>
      intro pre s hl2 hI
      have hx : l[pre.length]? = some x := by rw [hl2]; simp
      have hlt := getElem?_lt hx
      obtain ⟨h1, h2⟩ := hstep s pre.length x hx hlt (iadd_one (by omega)) hI
      obtain ⟨t, t1, t2, t3⟩ := ih (pre ++ [x]) (step s pre.length x) (by rw [hl2]; simp) (by rw [List.length_append]; exact h2)
      rw [List.length_append] at t2 t3
      exact ⟨t, t1, by rw [Loop_eq, h1]; exact t2, t3⟩
  exact key l [] s rfl h0

/-- A list gone through, of whose elements another one is made. -/
theorem fold_app {α β S R : Type} {f : S → Option (S ⊕ R)} (l : List α) (mk : List β → Int → S) (g : α → List β) (fin : R) (hl : l.length ≤ 4294967296)
    (hstep : ∀ i x, l[i]? = some x → i < l.length → iadd .i64 (i : Int) 1 = ((i + 1 : Nat) : Int) → f (mk ((l.take i).flatMap g) (i : Int)) = some (.inl (mk ((l.take i).flatMap g ++ g x) ((i + 1 : Nat) : Int))))
    (hfin : f (mk (l.flatMap g) (l.length : Int)) = some (.inr fin)) : Loop f (mk [] 0) = some fin := by
  refine loop_seq l.length (fun j : Nat => mk ((l.take j).flatMap g) (j : Int)) (fun j hj => ?_) (by simp only [List.take_length]; exact hfin)
  have hx : l[j]? = some l[j] := List.getElem?_eq_getElem hj
  have := hstep j l[j] hx hj (iadd_one (by omega))
  rw [this, List.take_add_one, hx, List.flatMap_append]
  simp
theorem fits_len {α : Type} {l : List α} (h : l.length ≤ 4294967296) : fits (len l) = true := fits_nat' h
theorem mem_at {α : Type} {l : List α} {x : α} : x ∈ l ↔ ∃ i : Nat, l[i]? = some x := by rw [List.mem_iff_getElem?]
end Go.Ge
