/- Plain laws of what the functions compute: part 1. -/
import Derived.Test.YtkgjcocemmnpjaaDoorGeK
import Derived.Lib.Repeat
/- What some functions of the library compute, as plain programs. -/
namespace Go.Ge
abbrev Sb := List UInt8
set_option linter.unusedSectionVars false
variable [Lp]

/-- Numbers' digits. -/
noncomputable def P_strconv_Itoa : Int × Unit → Option ((List UInt8) × Unit) := fun x => some (Lib.itoa x.1, ())
end Go.Ge

/- What the functions of layer 26 compute, as plain programs (written by a program from what the ghost interpreter comes to). -/
namespace Go.Ge
set_option linter.unusedVariables false
set_option linter.unusedSectionVars false
variable [Lp]
set_option maxRecDepth 100000

abbrev S1x0 := (Bool × (List ((Int × Sb × Sb × Int × Int × Int × Sb × Int × Int × Unit) × (Int × Int × Sb × (List Sb) × Unit) × Unit)) × Int × Bool × Bool × (Int × Sb × Sb × Int × Int × Int × Sb × Int × Int × Unit) × Unit)
abbrev S1x1 := (Int × Int × Sb × (List Sb) × Unit)
abbrev S1x2 := (Int × Sb × Sb × Int × Int × Int × Sb × Int × Int × Unit)
noncomputable def P_steps_Run_isGiven (x : Unit × S1x0 × Unit) : Option ((Bool × Unit) × S1x0 × Unit) :=
  some ((x.2.1.1, ()), ((x.2.1.1, (x.2.1.2.1, (x.2.1.2.2.1, (x.2.1.2.2.2.1, (x.2.1.2.2.2.2.1, (x.2.1.2.2.2.2.2.1, ())))))), ()))

noncomputable def P_steps_Run_Begin (x : Unit × S1x0 × Unit) : Option (Unit × S1x0 × Unit) :=
  obind (P_steps_Run_isGiven ((), ((x.2.1.1, (x.2.1.2.1, (x.2.1.2.2.1, (x.2.1.2.2.2.1, (x.2.1.2.2.2.2.1, (x.2.1.2.2.2.2.2.1, ())))))), ()))) (fun y1 => some ((), (((((sel y1.1.1
  ((), ((y1.2.1.1, ((), ((0 : Int), (false, (false, (y1.2.1.2.2.2.2.2.1, ())))))), (y1.2.1.2.1, ())))
  ((), ((y1.2.1.1, ((), (y1.2.1.2.2.1, (y1.2.1.2.2.2.1, (y1.2.1.2.2.2.2.1, (y1.2.1.2.2.2.2.2.1, ())))))), (y1.2.1.2.1, ())))).2).1).1, ((((sel y1.1.1
  ((), ((y1.2.1.1, ((), ((0 : Int), (false, (false, (y1.2.1.2.2.2.2.2.1, ())))))), (y1.2.1.2.1, ())))
  ((), ((y1.2.1.1, ((), (y1.2.1.2.2.1, (y1.2.1.2.2.2.1, (y1.2.1.2.2.2.2.1, (y1.2.1.2.2.2.2.2.1, ())))))), (y1.2.1.2.1, ())))).2).2).1, ((((((sel y1.1.1
  ((), ((y1.2.1.1, ((), ((0 : Int), (false, (false, (y1.2.1.2.2.2.2.2.1, ())))))), (y1.2.1.2.1, ())))
  ((), ((y1.2.1.1, ((), (y1.2.1.2.2.1, (y1.2.1.2.2.2.1, (y1.2.1.2.2.2.2.1, (y1.2.1.2.2.2.2.2.1, ())))))), (y1.2.1.2.1, ())))).2).1).2).2).1, (((((((sel y1.1.1
  ((), ((y1.2.1.1, ((), ((0 : Int), (false, (false, (y1.2.1.2.2.2.2.2.1, ())))))), (y1.2.1.2.1, ())))
  ((), ((y1.2.1.1, ((), (y1.2.1.2.2.1, (y1.2.1.2.2.2.1, (y1.2.1.2.2.2.2.1, (y1.2.1.2.2.2.2.2.1, ())))))), (y1.2.1.2.1, ())))).2).1).2).2).2).1, ((((((((sel y1.1.1
  ((), ((y1.2.1.1, ((), ((0 : Int), (false, (false, (y1.2.1.2.2.2.2.2.1, ())))))), (y1.2.1.2.1, ())))
  ((), ((y1.2.1.1, ((), (y1.2.1.2.2.1, (y1.2.1.2.2.2.1, (y1.2.1.2.2.2.2.1, (y1.2.1.2.2.2.2.2.1, ())))))), (y1.2.1.2.1, ())))).2).1).2).2).2).2).1, (((((((((sel y1.1.1
  ((), ((y1.2.1.1, ((), ((0 : Int), (false, (false, (y1.2.1.2.2.2.2.2.1, ())))))), (y1.2.1.2.1, ())))
  ((), ((y1.2.1.1, ((), (y1.2.1.2.2.1, (y1.2.1.2.2.2.1, (y1.2.1.2.2.2.2.1, (y1.2.1.2.2.2.2.2.1, ())))))), (y1.2.1.2.1, ())))).2).1).2).2).2).2).2).1, ())))))), ())))

noncomputable def P_steps_Run_Want (x : Unit × S1x0 × Unit) : Option ((S1x2 × Bool × Unit) × S1x0 × Unit) :=
  obind (P_steps_Run_isGiven ((), ((x.2.1.1, (x.2.1.2.1, (x.2.1.2.2.1, (x.2.1.2.2.2.1, (x.2.1.2.2.2.2.1, (x.2.1.2.2.2.2.2.1, ())))))), ()))) (fun y1 => sel (sel (nt (nt y1.1.1))
  (nt y1.2.1.2.2.2.2.1)
  true)
  (some ((((0 : Int), (([] : List (UInt8)), (([] : List (UInt8)), ((0 : Int), ((0 : Int), ((0 : Int), (([] : List (UInt8)), ((0 : Int), ((0 : Int), ()))))))))), (false, ())), ((y1.2.1.1, (y1.2.1.2.1, (y1.2.1.2.2.1, (y1.2.1.2.2.2.1, (y1.2.1.2.2.2.2.1, (y1.2.1.2.2.2.2.2.1, ())))))), ())))
  (some ((y1.2.1.2.2.2.2.2.1, (true, ())), ((y1.2.1.1, (y1.2.1.2.1, (y1.2.1.2.2.1, (y1.2.1.2.2.2.1, (y1.2.1.2.2.2.2.1, (y1.2.1.2.2.2.2.2.1, ())))))), ()))))

noncomputable def P_slices_Clone_string_string (x : (List Sb) × Unit) : Option ((List Sb) × Unit) :=
  bif fits (len x.1) then some (x.1, ()) else none

noncomputable def P_steps_answer (x : S1x1 × Unit) : Option (S1x1 × Unit) :=
  obind (P_slices_Clone_string_string (x.1.2.2.2.1, ())) (fun y1 => some ((x.1.1, (x.1.2.1, (x.1.2.2.1, (y1.1, x.1.2.2.2.2)))), ()))

noncomputable def P_steps_Run_Give (x : (S1x1 × Unit) × S1x0 × Unit) : Option ((Int × Unit) × S1x0 × Unit) :=
  obind (P_steps_Run_Want ((), ((x.2.1.1, (x.2.1.2.1, (x.2.1.2.2.1, (x.2.1.2.2.2.1, (x.2.1.2.2.2.2.1, (x.2.1.2.2.2.2.2.1, ())))))), ()))) (fun y1 => sel (nt y1.1.2.1)
  (some (((1 : Int), ()), ((y1.2.1.1, (y1.2.1.2.1, (y1.2.1.2.2.1, (y1.2.1.2.2.2.1, (y1.2.1.2.2.2.2.1, (y1.2.1.2.2.2.2.2.1, ())))))), ())))
  (obind (P_steps_answer (x.1.1, ())) (fun y2 => sel (fits (plus (len y1.2.1.2.1) (len ([(y1.2.1.2.2.2.2.2.1, (y2.1, ()))] : List (S1x2 × S1x1 × Unit)))))
  (some (((0 : Int), ()), ((y1.2.1.1, (app y1.2.1.2.1 ([(y1.2.1.2.2.2.2.2.1, (y2.1, ()))] : List (S1x2 × S1x1 × Unit)), (y1.2.1.2.2.1, (y1.2.1.2.2.2.1, (false, (y1.2.1.2.2.2.2.2.1, ())))))), ())))
  none)))

noncomputable def P_steps_pause (x : Unit) : Option (S1x1 × Unit) :=
  some (((14 : Int), ((0 : Int), (([] : List (UInt8)), (([] : List Sb), ())))), ())

noncomputable def P_steps_Run_Do (x : (S1x2 × Unit) × S1x0 × Unit) : Option ((S1x1 × Unit) × S1x0 × Unit) :=
  obind (P_steps_Run_isGiven ((), ((x.2.1.1, (x.2.1.2.1, (x.2.1.2.2.1, (x.2.1.2.2.2.1, (x.2.1.2.2.2.2.1, (x.2.1.2.2.2.2.2.1, ())))))), ()))) (fun y1 => sel (nt y1.1.1)
  (some ((((1 : Int), ((0 : Int), (([] : List (UInt8)), (([] : List Sb), ())))), ()), ((y1.2.1.1, (y1.2.1.2.1, (y1.2.1.2.2.1, (y1.2.1.2.2.2.1, (y1.2.1.2.2.2.2.1, (y1.2.1.2.2.2.2.2.1, ())))))), ())))
  (sel y1.2.1.2.2.2.1
  (obind (P_steps_pause ()) (fun y2 => some ((y2.1, ()), ((y1.2.1.1, (y1.2.1.2.1, (y1.2.1.2.2.1, (y1.2.1.2.2.2.1, (y1.2.1.2.2.2.2.1, (y1.2.1.2.2.2.2.2.1, ())))))), ()))))
  (sel (eqI y1.2.1.2.2.1 (len y1.2.1.2.1))
  (obind (P_steps_pause ()) (fun y2 => some ((y2.1, ()), ((y1.2.1.1, (y1.2.1.2.1, (y1.2.1.2.2.1, (true, (true, (x.1.1, ())))))), ()))))
  (sel (within y1.2.1.2.2.1 (len y1.2.1.2.1))
  (obind (idx y1.2.1.2.1 y1.2.1.2.2.1) (fun y2 => sel (nt (an (eqI y2.1.1 x.1.1.1) (an (eqS y2.1.2.1 x.1.1.2.1) (an (eqS y2.1.2.2.1 x.1.1.2.2.1) (an (eqI y2.1.2.2.2.1 x.1.1.2.2.2.1) (an (eqI y2.1.2.2.2.2.1 x.1.1.2.2.2.2.1) (an (eqI y2.1.2.2.2.2.2.1 x.1.1.2.2.2.2.2.1) (an (eqS y2.1.2.2.2.2.2.2.1 x.1.1.2.2.2.2.2.2.1) (an (eqI y2.1.2.2.2.2.2.2.2.1 x.1.1.2.2.2.2.2.2.2.1) (an (eqI y2.1.2.2.2.2.2.2.2.2.1 x.1.1.2.2.2.2.2.2.2.2.1) true))))))))))
  (some ((((1 : Int), ((0 : Int), (([] : List (UInt8)), (([] : List Sb), ())))), ()), ((y1.2.1.1, (y1.2.1.2.1, (y1.2.1.2.2.1, (y1.2.1.2.2.2.1, (y1.2.1.2.2.2.2.1, (y1.2.1.2.2.2.2.2.1, ())))))), ())))
  (sel (within (isub IntKind.i64 (iadd IntKind.i64 y1.2.1.2.2.1 1) 1) (len y1.2.1.2.1))
  (obind (idx y1.2.1.2.1 (isub IntKind.i64 (iadd IntKind.i64 y1.2.1.2.2.1 1) 1)) (fun y3 => obind (P_steps_answer (y3.2.1, ())) (fun y4 => some ((y4.1, ()), ((y1.2.1.1, (y1.2.1.2.1, (iadd IntKind.i64 y1.2.1.2.2.1 1, (y1.2.1.2.2.2.1, (y1.2.1.2.2.2.2.1, (y1.2.1.2.2.2.2.2.1, ())))))), ())))))
  none)))
  none))))

end Go.Ge

/- What the functions of layer 02 compute, as plain programs (written by a program from what the ghost interpreter comes to). -/
namespace Go.Ge
set_option linter.unusedSectionVars false
variable [Lp]
set_option linter.unusedVariables false
set_option maxRecDepth 100000

noncomputable def P_math_bits_RotateLeft32 (x : Int × Int × Unit) : Option (Int × Unit) :=
  sel (ltI (iand IntKind.u64 (icv IntKind.u64 x.2.1) 31) 0)
  none
  (sel (ltI (isub IntKind.u64 32 (iand IntKind.u64 (icv IntKind.u64 x.2.1) 31)) 0)
  none
  (some (ior IntKind.u32 (ishl IntKind.u32 x.1 (iand IntKind.u64 (icv IntKind.u64 x.2.1) 31)) (ishr IntKind.u32 x.1 (isub IntKind.u64 32 (iand IntKind.u64 (icv IntKind.u64 x.2.1) 31))), ())))

noncomputable def P_sha_right (x : Int × Int × Unit) : Option (Int × Unit) :=
  obind (P_math_bits_RotateLeft32 (x.1, (isub IntKind.i64 0 x.2.1, ()))) (fun y1 => some (y1.1, ()))

noncomputable def P_ref02_turn (x : Int × Int × Unit) : Option (Int × Unit) :=
  sel (ltI x.2.1 0)
  none
  (sel (ltI (isub IntKind.i64 32 x.2.1) 0)
  none
  (some (ior IntKind.u32 (ishr IntKind.u32 x.1 x.2.1) (ishl IntKind.u32 x.1 (isub IntKind.i64 32 x.2.1)), ())))

end Go.Ge

/- What the functions of layer 03 compute, as plain programs (written by a program from what the ghost interpreter comes to). -/
namespace Go.Ge
set_option linter.unusedSectionVars false
variable [Lp]
set_option linter.unusedVariables false
set_option maxRecDepth 100000

end Go.Ge

/- What the functions of layer 12 compute, as plain programs (written by a program from what the ghost interpreter comes to). -/
namespace Go.Ge
set_option linter.unusedSectionVars false
variable [Lp]
set_option linter.unusedVariables false
set_option maxRecDepth 100000

end Go.Ge

/- What the functions of layer 13 compute, as plain programs (written by a program from what the ghost interpreter comes to). -/
namespace Go.Ge
set_option linter.unusedSectionVars false
variable [Lp]
set_option linter.unusedVariables false
set_option maxRecDepth 100000

end Go.Ge

/- What the functions of layer 07 compute, as plain programs (written by a program from what the ghost interpreter comes to). -/
namespace Go.Ge
set_option linter.unusedSectionVars false
variable [Lp]
set_option linter.unusedVariables false
set_option maxRecDepth 100000

abbrev S6x0 := (((Bool × Int × Unit) × Unit) ⊕ (Nat × (Bool × Int × Unit) × Unit))
noncomputable def P_ref07_Parts_L0 (x : Sb × Unit) (y1 : (Unit × Sb × Int × Unit) × (List Sb) × Unit) : Option (((Unit × Sb × Int × Unit) × (List Sb) × Unit) ⊕ ((Unit × Sb × Int × Unit) × (List Sb) × Unit)) :=
  way1 (sel (ltI y1.1.2.2.1 (len x.1))
  (obind (idx x.1 y1.1.2.2.1) (fun y2 => obind (sel (eqI (u8 y2) 47)
  (sel (fits (plus (len y1.2.1) (len ([y1.1.2.1] : List Sb))))
  (some (((), (([] : List (UInt8)), ())), (app y1.2.1 ([y1.1.2.1] : List Sb), ())))
  none)
  (sel (inside y1.1.2.2.1 (iadd IntKind.i64 y1.1.2.2.1 1) (len x.1))
  (sel (fits (plus (len y1.1.2.1) (len (sub x.1 y1.1.2.2.1 (minus (iadd IntKind.i64 y1.1.2.2.1 1) y1.1.2.2.1)))))
  (some (((), (app y1.1.2.1 (sub x.1 y1.1.2.2.1 (minus (iadd IntKind.i64 y1.1.2.2.1 1) y1.1.2.2.1)), ())), (y1.2.1, ())))
  none)
  none)) (fun y3 => some (Sum.inl (((), (y3.1.2.1, (iadd IntKind.i64 y1.1.2.2.1 1, ()))), (y3.2.1, ()))))))
  (some (Sum.inr (0, (((), (y1.1.2.1, (y1.1.2.2.1, ()))), (y1.2.1, ()))))))

noncomputable def P_ref07_Parts (x : Sb × Unit) : Option ((List Sb) × Unit) :=
  sel (eqS x.1 ([] : List (UInt8)))
  (some (([] : List Sb), ()))
  (obind (Loop (P_ref07_Parts_L0 x) (((), (([] : List (UInt8)), ((0 : Int), ()))), (([] : List Sb), ()))) (fun y1 => sel (fits (plus (len y1.2.1) (len ([y1.1.2.1] : List Sb))))
  (some (app y1.2.1 ([y1.1.2.1] : List Sb), ()))
  none))

noncomputable def P_ref07_isName_L0 (x : Sb × Unit) (y1 : (Bool × Int × Unit) × Unit) : Option S6x0 :=
  sel (ltI y1.1.2.1 (len x.1))
  (obind (idx x.1 y1.1.2.1) (fun y2 => obind (sel (nt (eqI (u8 y2) 0))
  (obind (idx x.1 y1.1.2.1) (fun y3 => some (eqI (u8 y3) 47)))
  (some true)) (fun y3 => sel y3
  (some (Sum.inr (1, ((false, (y1.1.2.1, ())), ()))))
  (some (Sum.inl ((y1.1.1, (iadd IntKind.i64 y1.1.2.1 1, ())), ()))))))
  (some (Sum.inr (0, ((y1.1.1, (y1.1.2.1, ())), ()))))

noncomputable def P_ref07_isName (x : Sb × Unit) : Option (Bool × Unit) :=
  obind (Loop (P_ref07_isName_L0 x) ((false, ((0 : Int), ())), ())) (fun y1 => sel (eqN y1.1 0)
  (some (sel (sel (sel (leI 1 (len x.1))
  (leI (len x.1) 32)
  false)
  (nt (eqS x.1 ([46] : List UInt8)))
  false)
  (nt (eqS x.1 ([46, 46] : List UInt8)))
  false, ()))
  (some (y1.2.1.1, ())))

noncomputable def P_ref07_Is_L0 (y1 : (List Sb) × Unit) (y2 : (Bool × Int × Unit) × Unit) : Option S6x0 :=
  sel (ltI y2.1.2.1 (len y1.1))
  (obind (idx y1.1 y2.1.2.1) (fun y3 => obind (P_ref07_isName (y3, ())) (fun y4 => sel (nt y4.1)
  (some (Sum.inr (1, ((false, (y2.1.2.1, ())), ()))))
  (some (Sum.inl ((y2.1.1, (iadd IntKind.i64 y2.1.2.1 1, ())), ()))))))
  (some (Sum.inr (0, ((y2.1.1, (y2.1.2.1, ())), ()))))

noncomputable def P_ref07_Is (x : Sb × Unit) : Option (Bool × Unit) :=
  obind (P_ref07_Parts (x.1, ())) (fun y1 => obind (Loop (P_ref07_Is_L0 y1) ((false, ((0 : Int), ())), ())) (fun y2 => sel (eqN y2.1 0)
  (some (sel (leI (len y1.1) 8)
  (leI (len x.1) 96)
  false, ()))
  (some (y2.2.1.1, ()))))

noncomputable def P_ref07_Join (x : Sb × Sb × Unit) : Option (Sb × Unit) :=
  sel (eqS x.1 ([] : List (UInt8)))
  (some (x.2.1, ()))
  (sel (eqS x.2.1 ([] : List (UInt8)))
  (some (x.1, ()))
  (sel (fits (plus (len x.1) (len ([47] : List UInt8))))
  (sel (fits (plus (len (app x.1 ([47] : List UInt8))) (len x.2.1)))
  (some (app (app x.1 ([47] : List UInt8)) x.2.1, ()))
  none)
  none))

noncomputable def P_ref07_Under_L0 (y1 : (List Sb) × Unit) (y2 : (List Sb) × Unit) (y3 : (Bool × Int × Unit) × Unit) : Option S6x0 :=
  sel (sel (ltI y3.1.2.1 (len y2.1))
  (ltI y3.1.2.1 (len y1.1))
  false)
  (obind (idx y1.1 y3.1.2.1) (fun y4 => obind (idx y2.1 y3.1.2.1) (fun y5 => sel (nt (eqS y4 y5))
  (some (Sum.inr (1, ((false, (y3.1.2.1, ())), ()))))
  (some (Sum.inl ((y3.1.1, (iadd IntKind.i64 y3.1.2.1 1, ())), ()))))))
  (some (Sum.inr (0, ((y3.1.1, (y3.1.2.1, ())), ()))))

noncomputable def P_ref07_Under (x : Sb × Sb × Unit) : Option (Bool × Unit) :=
  obind (P_ref07_Parts (x.1, ())) (fun y1 => obind (P_ref07_Parts (x.2.1, ())) (fun y2 => sel (leI (len y1.1) (len y2.1))
  (some (false, ()))
  (obind (Loop (P_ref07_Under_L0 y1 y2) ((false, ((0 : Int), ())), ())) (fun y3 => sel (eqN y3.1 0)
  (some (true, ()))
  (some (y3.2.1.1, ()))))))

end Go.Ge

/- What the functions of layer 26.o compute, as plain programs (written by a program from what the ghost interpreter comes to). -/
namespace Go.Ge
set_option linter.unusedVariables false
set_option linter.unusedSectionVars false
variable [Lp]
set_option maxRecDepth 100000

abbrev S7x0 := (Int × Bool × Int × Int × Sb × (List (Sb × Int × Unit)) × Unit)
abbrev S7x1 := ((Int × Int × (List S7x0) × Unit) × (List (Int × Int × Int × Unit)) × Unit)
abbrev S7x2 := (Int × Int × (List S7x0) × Unit)
abbrev S7x3 := (Int × Sb × Sb × Int × Int × Int × Sb × Int × Int × Unit)
abbrev S7x4 := (Int × Int × Unit)
abbrev S7x5 := (Int × Int × Int × Unit)
abbrev S7x6 := (S7x1 × S7x1 × (List (Int × Bool × S7x3 × Unit)) × Unit)
abbrev S7x7 := (((List (Sb × Bool × Sb × Unit)) × Unit) × S7x1 × Unit)
abbrev S7x8 := (Sb × Int × Unit)
abbrev S7x9 := ((Int × Sb × Int × Unit) × S7x1 × Unit)
abbrev S7x10 := (Int × Int × Unit × Unit)
abbrev S7x11 := ((List S7x4) × Int × Unit)
abbrev S7x12 := ((Int × Int × Sb × (List Sb) × Unit) × Unit)
abbrev S7x13 := (Unit × Int × Unit)
abbrev S7x14 := ((Int × Unit) × S7x2 × Unit)
abbrev S7x15 := (Unit × Unit × Unit)
abbrev S7x16 := (Sb × Bool × Sb × Unit)
noncomputable def P_ref11_Table_Birth_L0 (x : (Int × Unit) × S7x11 × Unit) (y1 : S7x5 × Unit) : Option ((S7x5 × Unit) ⊕ (Nat × S7x5 × Unit)) :=
  sel (ltI y1.1.2.2.1 (len x.2.1.1))
  (sel (within y1.1.2.2.1 (len x.2.1.1))
  (obind (idx x.2.1.1 y1.1.2.2.1) (fun y2 => sel (eqI y2.1 x.1.1)
  (sel (within y1.1.2.2.1 (len x.2.1.1))
  (obind (idx x.2.1.1 y1.1.2.2.1) (fun y3 => some (Sum.inr (1, ((y3.2.1, ((0 : Int), (y1.1.2.2.1, ()))), ())))))
  none)
  (some (Sum.inl ((y1.1.1, (y1.1.2.1, (iadd IntKind.i64 y1.1.2.2.1 1, ()))), ())))))
  none)
  (some (Sum.inr (0, ((y1.1.1, (y1.1.2.1, (y1.1.2.2.1, ()))), ()))))

noncomputable def P_ref11_Table_Birth (x : (Int × Unit) × S7x11 × Unit) : Option (S7x4 × S7x11 × Unit) :=
  obind (Loop (P_ref11_Table_Birth_L0 x) (((0 : Int), ((0 : Int), ((0 : Int), ()))), ())) (fun y1 => sel (eqN y1.1 0)
  (some (((0 : Int), ((3 : Int), ())), ((x.2.1.1, (x.2.1.2.1, ())), ())))
  (some ((y1.2.1.1, (y1.2.1.2.1, ())), ((x.2.1.1, (x.2.1.2.1, ())), ()))))

noncomputable def P_ref11_Table_Spawn_L0 (x : (Int × Unit) × S7x11 × Unit) (y1 : S7x4 × S7x11 × Unit) (y2 : (Int × Unit) × Unit) : Option (((Int × Unit) × Unit) ⊕ ((Int × Unit) × Unit)) :=
  way1 (obind (sel (ltI y2.1.1 (len y1.2.1.1))
  (sel (within y2.1.1 (len y1.2.1.1))
  (obind (idx y1.2.1.1 y2.1.1) (fun y3 => some (ltI y3.1 x.1.1)))
  none)
  (some false)) (fun y3 => sel y3
  (some (Sum.inl ((iadd IntKind.i64 y2.1.1 1, ()), ())))
  (some (Sum.inr (0, ((y2.1.1, ()), ()))))))

noncomputable def P_ref11_Table_Spawn (x : (Int × Unit) × S7x11 × Unit) : Option (S7x4 × S7x11 × Unit) :=
  sel (sel (nt (ltI x.1.1 1))
  (ltI 2147483648 x.1.1)
  true)
  (some (((0 : Int), ((1 : Int), ())), ((x.2.1.1, (x.2.1.2.1, ())), ())))
  (obind (P_ref11_Table_Birth ((x.1.1, ()), ((x.2.1.1, (x.2.1.2.1, ())), ()))) (fun y1 => sel (eqI y1.1.2.1 0)
  (some (((0 : Int), ((4 : Int), ())), ((y1.2.1.1, (y1.2.1.2.1, ())), ())))
  (sel (leI 8 (len y1.2.1.1))
  (some (((0 : Int), ((5 : Int), ())), ((y1.2.1.1, (y1.2.1.2.1, ())), ())))
  (obind (Loop (P_ref11_Table_Spawn_L0 x y1) (((0 : Int), ()), ())) (fun y2 => sel (inside 0 y2.1.1 (len y1.2.1.1))
  (sel (fits (plus (len ([] : List S7x4)) (len (sub y1.2.1.1 (0 : Int) (minus y2.1.1 0)))))
  (sel (fits (plus (len (app ([] : List S7x4) (sub y1.2.1.1 (0 : Int) (minus y2.1.1 0)))) (len ([(x.1.1, (iadd IntKind.i64 y1.2.1.2.1 1, ()))] : List S7x4))))
  (sel (inside y2.1.1 (len y1.2.1.1) (len y1.2.1.1))
  (sel (fits (plus (len (app (app ([] : List S7x4) (sub y1.2.1.1 (0 : Int) (minus y2.1.1 0))) ([(x.1.1, (iadd IntKind.i64 y1.2.1.2.1 1, ()))] : List S7x4))) (len (sub y1.2.1.1 y2.1.1 (minus (len y1.2.1.1) y2.1.1)))))
  (some ((iadd IntKind.i64 y1.2.1.2.1 1, ((0 : Int), ())), ((app (app (app ([] : List S7x4) (sub y1.2.1.1 (0 : Int) (minus y2.1.1 0))) ([(x.1.1, (iadd IntKind.i64 y1.2.1.2.1 1, ()))] : List S7x4)) (sub y1.2.1.1 y2.1.1 (minus (len y1.2.1.1) y2.1.1)), (iadd IntKind.i64 y1.2.1.2.1 1, ())), ())))
  none)
  none)
  none)
  none)
  none)))))

noncomputable def P_ref11_Table_Alive (x : S7x4 × S7x11 × Unit) : Option ((Bool × Unit) × S7x11 × Unit) :=
  obind (P_ref11_Table_Birth ((x.1.1, ()), ((x.2.1.1, (x.2.1.2.1, ())), ()))) (fun y1 => some ((sel (eqI y1.1.2.1 0)
  (eqI y1.1.1 x.1.2.1)
  false, ()), ((y1.2.1.1, (y1.2.1.2.1, ())), ())))

noncomputable def P_ref10_Disk_sync (x : Unit × S7x6 × Unit) : Option (Unit × S7x6 × Unit) :=
  sel (fits (plus (len ([] : List S7x5)) (len x.2.1.1.2.1)))
  (sel (fits (plus (len ([] : List S7x0)) (len x.2.1.1.1.2.2.1)))
  (some ((), ((((x.2.1.1.1.1, (x.2.1.1.1.2.1, (x.2.1.1.1.2.2.1, ()))), (x.2.1.1.2.1, ())), (((x.2.1.1.1.1, (x.2.1.1.1.2.1, (app ([] : List S7x0) x.2.1.1.1.2.2.1, ()))), (app ([] : List S7x5) x.2.1.1.2.1, ())), (([] : List (Int × Bool × S7x3 × Unit)), ()))), ())))
  none)
  none

noncomputable def P_ref09_right (x : S7x3 × Unit) : Option (Bool × Unit) :=
  sel (((sel (eqI x.1.1 1)
  ((eqI x.1.1 1, ()), ())
  ((((sel (eqI x.1.1 2)
  ((eqI x.1.1 2, ()), ())
  ((((sel (eqI x.1.1 3)
  ((eqI x.1.1 3, ()), ())
  ((((sel (eqI x.1.1 4)
  ((eqI x.1.1 4, ()), ())
  ((eqI x.1.1 11, ()), ())).1).1, ()), ())).1).1, ()), ())).1).1, ()), ())).1).1)
  (obind (sel (nt (eqS x.1.2.1 ([] : List (UInt8))))
  (obind (P_ref07_Is (x.1.2.1, ())) (fun y1 => some y1.1))
  (some false)) (fun y1 => some (y1, ())))
  (sel (((sel (eqI x.1.1 10)
  ((eqI x.1.1 10, ()), ())
  ((eqI x.1.1 12, ()), ())).1).1)
  (obind (sel (nt (eqS x.1.2.1 ([] : List (UInt8))))
  (obind (P_ref07_Is (x.1.2.1, ())) (fun y1 => some y1.1))
  (some false)) (fun y1 => obind (sel (sel y1
  (nt (eqS x.1.2.2.1 ([] : List (UInt8))))
  false)
  (obind (P_ref07_Is (x.1.2.2.1, ())) (fun y2 => some y2.1))
  (some false)) (fun y2 => some (y2, ()))))
  (sel (eqI x.1.1 13)
  (obind (P_ref07_Is (x.1.2.1, ())) (fun y1 => some (y1.1, ())))
  (some (sel (leI 1 x.1.1)
  (leI x.1.1 13)
  false, ()))))

noncomputable def P_ref09_FS_holds_L0 (x : S7x4 × S7x1 × Unit) (y1 : S7x4 × Unit) : Option ((S7x4 × Unit) ⊕ (Nat × S7x4 × Unit)) :=
  sel (ltI y1.1.2.1 (len x.2.1.2.1))
  (sel (within y1.1.2.1 (len x.2.1.2.1))
  (obind (idx x.2.1.2.1 y1.1.2.1) (fun y2 => obind (sel (eqI y2.1 x.1.1)
  (sel (within y1.1.2.1 (len x.2.1.2.1))
  (obind (idx x.2.1.2.1 y1.1.2.1) (fun y3 => some (eqI y3.2.1 x.1.2.1)))
  none)
  (some false)) (fun y3 => sel y3
  (sel (within y1.1.2.1 (len x.2.1.2.1))
  (obind (idx x.2.1.2.1 y1.1.2.1) (fun y4 => some (Sum.inr (1, ((y4.2.2.1, (y1.1.2.1, ())), ())))))
  none)
  (some (Sum.inl ((y1.1.1, (iadd IntKind.i64 y1.1.2.1 1, ())), ()))))))
  none)
  (some (Sum.inr (0, ((y1.1.1, (y1.1.2.1, ())), ()))))

noncomputable def P_ref09_FS_holds (x : S7x4 × S7x1 × Unit) : Option ((Int × Unit) × S7x1 × Unit) :=
  obind (Loop (P_ref09_FS_holds_L0 x) (((0 : Int), ((0 : Int), ())), ())) (fun y1 => sel (eqN y1.1 0)
  (some (((0 : Int), ()), (((x.2.1.1.1, (x.2.1.1.2.1, (x.2.1.1.2.2.1, ()))), (x.2.1.2.1, ())), ())))
  (some ((y1.2.1.1, ()), (((x.2.1.1.1, (x.2.1.1.2.1, (x.2.1.1.2.2.1, ()))), (x.2.1.2.1, ())), ()))))

noncomputable def P_ref08_Table_get_L0 (x : (Int × Unit) × S7x2 × Unit) (y1 : (Bool × Int × Unit) × S7x0 × Unit) : Option (((Bool × Int × Unit) × S7x0 × Unit) ⊕ (Nat × (Bool × Int × Unit) × S7x0 × Unit)) :=
  sel (ltI y1.1.2.1 (len x.2.1.2.2.1))
  (sel (within y1.1.2.1 (len x.2.1.2.2.1))
  (obind (idx x.2.1.2.2.1 y1.1.2.1) (fun y2 => sel (eqI y2.1 x.1.1)
  (sel (within y1.1.2.1 (len x.2.1.2.2.1))
  (obind (idx x.2.1.2.2.1 y1.1.2.1) (fun y3 => some (Sum.inr (1, ((true, (y1.1.2.1, ())), (y3, ()))))))
  none)
  (some (Sum.inl ((y1.1.1, (iadd IntKind.i64 y1.1.2.1 1, ())), (y1.2.1, ()))))))
  none)
  (some (Sum.inr (0, ((y1.1.1, (y1.1.2.1, ())), (y1.2.1, ())))))

noncomputable def P_ref08_Table_get (x : (Int × Unit) × S7x2 × Unit) : Option ((S7x0 × Bool × Unit) × S7x2 × Unit) :=
  obind (Loop (P_ref08_Table_get_L0 x) ((false, ((0 : Int), ())), (((0 : Int), (false, ((0 : Int), ((0 : Int), (([] : List (UInt8)), (([] : List S7x8), ())))))), ()))) (fun y1 => sel (eqN y1.1 0)
  (some ((((0 : Int), (false, ((0 : Int), ((0 : Int), (([] : List (UInt8)), (([] : List S7x8), ())))))), (false, ())), ((x.2.1.1, (x.2.1.2.1, (x.2.1.2.2.1, ()))), ())))
  (some ((y1.2.2.1, (y1.2.1.1, ())), ((x.2.1.1, (x.2.1.2.1, (x.2.1.2.2.1, ()))), ()))))

noncomputable def P_ref08_Table_set_L0 (x : (S7x0 × Unit) × S7x2 × Unit) (y1 : S7x13 × (List S7x0) × Unit) : Option ((S7x13 × (List S7x0) × Unit) ⊕ (S7x13 × (List S7x0) × Unit)) :=
  way1 (sel (ltI y1.1.2.1 (len x.2.1.2.2.1))
  (sel (within y1.1.2.1 (len x.2.1.2.2.1))
  (obind (idx x.2.1.2.2.1 y1.1.2.1) (fun y2 => obind (sel (nt (eqI y2.1 x.1.1.1))
  (sel (within y1.1.2.1 (len x.2.1.2.2.1))
  (obind (idx x.2.1.2.2.1 y1.1.2.1) (fun y3 => sel (fits (plus (len y1.2.1) (len ([y3] : List S7x0))))
  (some (((), ()), (app y1.2.1 ([y3] : List S7x0), ())))
  none))
  none)
  (obind (sel (sel (nt (ltI 0 x.1.1.2.2.1))
  (ltI 0 x.1.1.2.2.2.1)
  true)
  (sel (fits (plus (len y1.2.1) (len ([x.1.1] : List S7x0))))
  (some (((), ()), (app y1.2.1 ([x.1.1] : List S7x0), ())))
  none)
  (some (((), ()), (y1.2.1, ())))) (fun y3 => some (((), ()), (y3.2.1, ()))))) (fun y3 => some (Sum.inl (((), (iadd IntKind.i64 y1.1.2.1 1, ())), (y3.2.1, ()))))))
  none)
  (some (Sum.inr (0, (((), (y1.1.2.1, ())), (y1.2.1, ()))))))

noncomputable def P_ref08_Table_set (x : (S7x0 × Unit) × S7x2 × Unit) : Option (Unit × S7x2 × Unit) :=
  obind (Loop (P_ref08_Table_set_L0 x) (((), ((0 : Int), ())), (([] : List S7x0), ()))) (fun y1 => some ((), ((x.2.1.1, (x.2.1.2.1, (y1.2.1, ()))), ())))

noncomputable def P_ref08_Table_Drop (x : (Int × Unit) × S7x2 × Unit) : Option S7x14 :=
  obind (P_ref08_Table_get ((x.1.1, ()), ((x.2.1.1, (x.2.1.2.1, (x.2.1.2.2.1, ()))), ()))) (fun y1 => sel (nt y1.1.2.1)
  (some (((3 : Int), ()), ((y1.2.1.1, (y1.2.1.2.1, (y1.2.1.2.2.1, ()))), ())))
  (sel (eqI y1.1.1.2.2.2.1 0)
  (some (((1 : Int), ()), ((y1.2.1.1, (y1.2.1.2.1, (y1.2.1.2.2.1, ()))), ())))
  (obind (P_ref08_Table_set (((y1.1.1.1, (y1.1.1.2.1, (y1.1.1.2.2.1, (isub IntKind.i64 y1.1.1.2.2.2.1 1, y1.1.1.2.2.2.2)))), ()), ((y1.2.1.1, (y1.2.1.2.1, (y1.2.1.2.2.1, ()))), ()))) (fun y2 => some (((0 : Int), ()), ((y2.2.1.1, (y2.2.1.2.1, (y2.2.1.2.2.1, ()))), ()))))))

noncomputable def P_ref09_FS_closes_L0 (x : S7x4 × S7x1 × Unit) (y1 : S7x13 × (List S7x5) × S7x15 × S7x10 × (List S7x5) × (List S7x0) × Unit) : Option ((S7x13 × (List S7x5) × S7x15 × S7x10 × (List S7x5) × (List S7x0) × Unit) ⊕ (S7x13 × (List S7x5) × S7x15 × S7x10 × (List S7x5) × (List S7x0) × Unit)) :=
  way1 (sel (ltI y1.1.2.1 (len y1.2.2.2.2.1))
  (sel (within y1.1.2.1 (len y1.2.2.2.2.1))
  (obind (idx y1.2.2.2.2.1 y1.1.2.1) (fun y2 => obind (sel (eqI y2.1 x.1.1)
  (obind (sel (nt (eqI x.1.2.1 0))
  (sel (within y1.1.2.1 (len y1.2.2.2.2.1))
  (obind (idx y1.2.2.2.2.1 y1.1.2.1) (fun y3 => some (eqI y3.2.1 x.1.2.1)))
  none)
  (some true)) (fun y3 => some y3))
  (some false)) (fun y3 => obind (sel y3
  (sel (within y1.1.2.1 (len y1.2.2.2.2.1))
  (obind (idx y1.2.2.2.2.1 y1.1.2.1) (fun y4 => obind (P_ref08_Table_Drop ((y4.2.2.1, ()), ((y1.2.2.2.1.1, (y1.2.2.2.1.2.1, (y1.2.2.2.2.2.1, ()))), ()))) (fun y5 => some (((), ()), (y1.2.1, (((), ((), y1.2.2.1.2.2)), ((y5.2.1.1, (y5.2.1.2.1, ((), ()))), (y1.2.2.2.2.1, (y5.2.1.2.2.1, ())))))))))
  none)
  (sel (within y1.1.2.1 (len y1.2.2.2.2.1))
  (obind (idx y1.2.2.2.2.1 y1.1.2.1) (fun y4 => sel (fits (plus (len y1.2.1) (len ([y4] : List S7x5))))
  (some (((), ()), (app y1.2.1 ([y4] : List S7x5), (((), ((), y1.2.2.1.2.2)), ((y1.2.2.2.1.1, (y1.2.2.2.1.2.1, ((), y1.2.2.2.1.2.2.2))), (y1.2.2.2.2.1, (y1.2.2.2.2.2.1, ())))))))
  none))
  none)) (fun y4 => some (Sum.inl (((), (iadd IntKind.i64 y1.1.2.1 1, ())), (y4.2.1, (((), ((), y4.2.2.1.2.2)), ((y4.2.2.2.1.1, (y4.2.2.2.1.2.1, ((), y4.2.2.2.1.2.2.2))), (y4.2.2.2.2.1, (y4.2.2.2.2.2.1, ())))))))))))
  none)
  (some (Sum.inr (0, (((), (y1.1.2.1, ())), (y1.2.1, (((), ((), y1.2.2.1.2.2)), ((y1.2.2.2.1.1, (y1.2.2.2.1.2.1, ((), y1.2.2.2.1.2.2.2))), (y1.2.2.2.2.1, (y1.2.2.2.2.2.1, ()))))))))))

noncomputable def P_ref09_FS_closes (x : S7x4 × S7x1 × Unit) : Option (Unit × S7x1 × Unit) :=
  obind (Loop (P_ref09_FS_closes_L0 x) (((), ((0 : Int), ())), (([] : List S7x5), (((), ((), ())), ((x.2.1.1.1, (x.2.1.1.2.1, ((), ()))), (x.2.1.2.1, (x.2.1.1.2.2.1, ()))))))) (fun y1 => some ((), (((y1.2.2.2.1.1, (y1.2.2.2.1.2.1, (y1.2.2.2.2.2.1, ()))), (y1.2.1, ())), ())))

noncomputable def P_ref08_Table_file (x : S7x5 × S7x2 × Unit) : Option ((S7x0 × Int × Unit) × S7x2 × Unit) :=
  obind (P_ref08_Table_get ((x.1.1, ()), ((x.2.1.1, (x.2.1.2.1, (x.2.1.2.2.1, ()))), ()))) (fun y1 => sel (nt y1.1.2.1)
  (some ((y1.1.1, ((3 : Int), ())), ((y1.2.1.1, (y1.2.1.2.1, (y1.2.1.2.2.1, ()))), ())))
  (sel y1.1.1.2.1
  (some ((y1.1.1, ((12 : Int), ())), ((y1.2.1.1, (y1.2.1.2.1, (y1.2.1.2.2.1, ()))), ())))
  (sel (sel (nt (ltI x.1.2.1 0))
  (ltI x.1.2.2.1 0)
  true)
  (some ((y1.1.1, ((1 : Int), ())), ((y1.2.1.1, (y1.2.1.2.1, (y1.2.1.2.2.1, ()))), ())))
  (some ((y1.1.1, ((0 : Int), ())), ((y1.2.1.1, (y1.2.1.2.1, (y1.2.1.2.2.1, ()))), ()))))))

noncomputable def P_ref08_Table_Read (x : S7x5 × S7x2 × Unit) : Option (S7x8 × S7x2 × Unit) :=
  obind (P_ref08_Table_file ((x.1.1, (x.1.2.1, (x.1.2.2.1, ()))), ((x.2.1.1, (x.2.1.2.1, (x.2.1.2.2.1, ()))), ()))) (fun y1 => sel (sel (nt (nt (eqI y1.1.2.1 0)))
  (leI (len y1.1.1.2.2.2.2.1) x.1.2.1)
  true)
  (some ((([] : List (UInt8)), (y1.1.2.1, ())), ((y1.2.1.1, (y1.2.1.2.1, (y1.2.1.2.2.1, ()))), ())))
  (sel (inside x.1.2.1 (iadd IntKind.i64 x.1.2.1 (imin x.1.2.2.1 (isub IntKind.i64 (len y1.1.1.2.2.2.2.1) x.1.2.1))) (len y1.1.1.2.2.2.2.1))
  (some ((sub y1.1.1.2.2.2.2.1 x.1.2.1 (minus (iadd IntKind.i64 x.1.2.1 (imin x.1.2.2.1 (isub IntKind.i64 (len y1.1.1.2.2.2.2.1) x.1.2.1))) x.1.2.1), ((0 : Int), ())), ((y1.2.1.1, (y1.2.1.2.1, (y1.2.1.2.2.1, ()))), ())))
  none))

noncomputable def P_ref08_Table_Used_L0 (x : S7x2 × Unit) (y1 : S7x4 × Unit) : Option ((S7x4 × Unit) ⊕ (S7x4 × Unit)) :=
  way1 (sel (ltI y1.1.2.1 (len x.1.2.2.1))
  (obind (idx x.1.2.2.1 y1.1.2.1) (fun y2 => some (Sum.inl ((iadd IntKind.i64 (iadd IntKind.i64 y1.1.1 64) (len y2.2.2.2.2.1), (iadd IntKind.i64 y1.1.2.1 1, ())), ()))))
  (some (Sum.inr (0, ((y1.1.1, (y1.1.2.1, ())), ())))))

noncomputable def P_ref08_Table_Used (x : S7x2 × Unit) : Option (Int × Unit) :=
  obind (Loop (P_ref08_Table_Used_L0 x) (((0 : Int), ((0 : Int), ())), ())) (fun y1 => some (y1.1.1, ()))

noncomputable def P_ref08_Table_fits (x : (S7x0 × Int × Unit) × S7x2 × Unit) : Option S7x14 :=
  sel (ltI 1048576 x.1.2.1)
  (some (((5 : Int), ()), ((x.2.1.1, (x.2.1.2.1, (x.2.1.2.2.1, ()))), ())))
  (obind (P_ref08_Table_Used ((x.2.1.1, (x.2.1.2.1, (x.2.1.2.2.1, ()))), ())) (fun y1 => sel (ltI (isub IntKind.i64 x.2.1.1 y1.1) (isub IntKind.i64 x.1.2.1 (len x.1.1.2.2.2.2.1)))
  (some (((6 : Int), ()), ((x.2.1.1, (x.2.1.2.1, (x.2.1.2.2.1, ()))), ())))
  (some (((0 : Int), ()), ((x.2.1.1, (x.2.1.2.1, (x.2.1.2.2.1, ()))), ())))))

noncomputable def P_ref08_long_L0 (x : Sb × Int × Unit) (y1 : (Unit × Unit) × (List (Int)) × Unit) : Option (((Unit × Unit) × (List (Int)) × Unit) ⊕ ((Unit × Unit) × (List (Int)) × Unit)) :=
  way1 (sel (ltI (len y1.2.1) x.2.1)
  (sel (fits (plus (len y1.2.1) (len ([(0 : Int)] : List (Int)))))
  (some (Sum.inl (((), ()), (app y1.2.1 ([(0 : Int)] : List (Int)), ()))))
  none)
  (some (Sum.inr (0, (((), ()), (y1.2.1, ()))))))

noncomputable def P_ref08_long (x : Sb × Int × Unit) : Option (Sb × Unit) :=
  sel (fits (len x.1))
  (obind (Loop (P_ref08_long_L0 x) (((), ()), (bytesInts x.1, ()))) (fun y1 => some (intsBytes y1.2.1, ())))
  none

noncomputable def P_ref08_Table_Write (x : (Int × Int × Sb × Unit) × S7x2 × Unit) : Option S7x14 :=
  obind (P_ref08_Table_file ((x.1.1, (x.1.2.1, ((0 : Int), ()))), ((x.2.1.1, (x.2.1.2.1, (x.2.1.2.2.1, ()))), ()))) (fun y1 => sel (nt (eqI y1.1.2.1 0))
  (some ((y1.1.2.1, ()), ((y1.2.1.1, (y1.2.1.2.1, (y1.2.1.2.2.1, ()))), ())))
  (sel (sel (nt (ltI 1048576 x.1.2.1))
  (ltI 1048576 (iadd IntKind.i64 x.1.2.1 (len x.1.2.2.1)))
  true)
  (some (((5 : Int), ()), ((y1.2.1.1, (y1.2.1.2.1, (y1.2.1.2.2.1, ()))), ())))
  (sel (eqS x.1.2.2.1 ([] : List (UInt8)))
  (some (((0 : Int), ()), ((y1.2.1.1, (y1.2.1.2.1, (y1.2.1.2.2.1, ()))), ())))
  (obind (P_ref08_Table_fits ((y1.1.1, (imax (len y1.1.1.2.2.2.2.1) (iadd IntKind.i64 x.1.2.1 (len x.1.2.2.1)), ())), ((y1.2.1.1, (y1.2.1.2.1, (y1.2.1.2.2.1, ()))), ()))) (fun y2 => sel (nt (eqI y2.1.1 0))
  (some ((y2.1.1, ()), ((y2.2.1.1, (y2.2.1.2.1, (y2.2.1.2.2.1, ()))), ())))
  (obind (P_ref08_long (y1.1.1.2.2.2.2.1, (imax (len y1.1.1.2.2.2.2.1) (iadd IntKind.i64 x.1.2.1 (len x.1.2.2.1)), ()))) (fun y3 => sel (inside 0 x.1.2.1 (len y3.1))
  (sel (fits (plus (len (sub y3.1 (0 : Int) (minus x.1.2.1 0))) (len x.1.2.2.1)))
  (sel (inside (iadd IntKind.i64 x.1.2.1 (len x.1.2.2.1)) (len y3.1) (len y3.1))
  (sel (fits (plus (len (app (sub y3.1 (0 : Int) (minus x.1.2.1 0)) x.1.2.2.1)) (len (sub y3.1 (iadd IntKind.i64 x.1.2.1 (len x.1.2.2.1)) (minus (len y3.1) (iadd IntKind.i64 x.1.2.1 (len x.1.2.2.1)))))))
  (obind (P_ref08_Table_set (((y1.1.1.1, (y1.1.1.2.1, (y1.1.1.2.2.1, (y1.1.1.2.2.2.1, (app (app (sub y3.1 (0 : Int) (minus x.1.2.1 0)) x.1.2.2.1) (sub y3.1 (iadd IntKind.i64 x.1.2.1 (len x.1.2.2.1)) (minus (len y3.1) (iadd IntKind.i64 x.1.2.1 (len x.1.2.2.1)))), y1.1.1.2.2.2.2.2))))), ()), ((y2.2.1.1, (y2.2.1.2.1, (y2.2.1.2.2.1, ()))), ()))) (fun y4 => some (((0 : Int), ()), ((y4.2.1.1, (y4.2.1.2.1, (y4.2.1.2.2.1, ()))), ()))))
  none)
  none)
  none)
  none)))))))

noncomputable def P_ref08_Table_Truncate (x : S7x4 × S7x2 × Unit) : Option S7x14 :=
  obind (P_ref08_Table_file ((x.1.1, (x.1.2.1, ((0 : Int), ()))), ((x.2.1.1, (x.2.1.2.1, (x.2.1.2.2.1, ()))), ()))) (fun y1 => sel (nt (eqI y1.1.2.1 0))
  (some ((y1.1.2.1, ()), ((y1.2.1.1, (y1.2.1.2.1, (y1.2.1.2.2.1, ()))), ())))
  (obind (P_ref08_Table_fits ((y1.1.1, (x.1.2.1, ())), ((y1.2.1.1, (y1.2.1.2.1, (y1.2.1.2.2.1, ()))), ()))) (fun y2 => sel (nt (eqI y2.1.1 0))
  (some ((y2.1.1, ()), ((y2.2.1.1, (y2.2.1.2.1, (y2.2.1.2.2.1, ()))), ())))
  (obind (P_ref08_long (y1.1.1.2.2.2.2.1, (x.1.2.1, ()))) (fun y3 => sel (inside 0 x.1.2.1 (len y3.1))
  (obind (P_ref08_Table_set (((y1.1.1.1, (y1.1.1.2.1, (y1.1.1.2.2.1, (y1.1.1.2.2.2.1, (sub y3.1 (0 : Int) (minus x.1.2.1 0), y1.1.1.2.2.2.2.2))))), ()), ((y2.2.1.1, (y2.2.1.2.1, (y2.2.1.2.2.1, ()))), ()))) (fun y4 => some (((0 : Int), ()), ((y4.2.1.1, (y4.2.1.2.1, (y4.2.1.2.2.1, ()))), ()))))
  none)))))

noncomputable def P_ref09_FS_handled (x : (Int × S7x3 × Unit) × S7x1 × Unit) : Option (S7x12 × S7x1 × Unit) :=
  obind (P_ref09_FS_holds ((x.1.1, (x.1.2.1.2.2.2.1, ())), (((x.2.1.1.1, (x.2.1.1.2.1, (x.2.1.1.2.2.1, ()))), (x.2.1.2.1, ())), ()))) (fun y1 => sel (eqI y1.1.1 0)
  (some ((((13 : Int), ((0 : Int), (([] : List (UInt8)), (([] : List Sb), ())))), ()), (((y1.2.1.1.1, (y1.2.1.1.2.1, (y1.2.1.1.2.2.1, ()))), (y1.2.1.2.1, ())), ())))
  (sel (eqI x.1.2.1.1 5)
  (obind (P_ref09_FS_closes ((x.1.1, (x.1.2.1.2.2.2.1, ())), (((y1.2.1.1.1, (y1.2.1.1.2.1, (y1.2.1.1.2.2.1, ()))), (y1.2.1.2.1, ())), ()))) (fun y2 => some ((((0 : Int), ((0 : Int), (([] : List (UInt8)), (([] : List Sb), ())))), ()), (((y2.2.1.1.1, (y2.2.1.1.2.1, (y2.2.1.1.2.2.1, ()))), (y2.2.1.2.1, ())), ()))))
  (sel (eqI x.1.2.1.1 6)
  (obind (P_ref08_Table_Read ((y1.1.1, (x.1.2.1.2.2.2.2.1, (x.1.2.1.2.2.2.2.2.1, ()))), ((y1.2.1.1.1, (y1.2.1.1.2.1, (y1.2.1.1.2.2.1, ()))), ()))) (fun y2 => some (((y2.1.2.1, ((0 : Int), (y2.1.1, (([] : List Sb), ())))), ()), (((y2.2.1.1, (y2.2.1.2.1, (y2.2.1.2.2.1, ()))), (y1.2.1.2.1, ())), ()))))
  (sel (eqI x.1.2.1.1 7)
  (obind (P_ref08_Table_Write ((y1.1.1, (x.1.2.1.2.2.2.2.1, (x.1.2.1.2.2.2.2.2.2.1, ()))), ((y1.2.1.1.1, (y1.2.1.1.2.1, (y1.2.1.1.2.2.1, ()))), ()))) (fun y2 => some (((y2.1.1, ((0 : Int), (([] : List (UInt8)), (([] : List Sb), ())))), ()), (((y2.2.1.1, (y2.2.1.2.1, (y2.2.1.2.2.1, ()))), (y1.2.1.2.1, ())), ()))))
  (sel (eqI x.1.2.1.1 8)
  (obind (P_ref08_Table_Truncate ((y1.1.1, (x.1.2.1.2.2.2.2.2.1, ())), ((y1.2.1.1.1, (y1.2.1.1.2.1, (y1.2.1.1.2.2.1, ()))), ()))) (fun y2 => some (((y2.1.1, ((0 : Int), (([] : List (UInt8)), (([] : List Sb), ())))), ()), (((y2.2.1.1, (y2.2.1.2.1, (y2.2.1.2.2.1, ()))), (y1.2.1.2.1, ())), ()))))
  (obind (P_ref08_Table_Read ((y1.1.1, ((0 : Int), ((1048576 : Int), ()))), ((y1.2.1.1.1, (y1.2.1.1.2.1, (y1.2.1.1.2.2.1, ()))), ()))) (fun y2 => some (((y2.1.2.1, (len y2.1.1, (([] : List (UInt8)), (([] : List Sb), ())))), ()), (((y2.2.1.1, (y2.2.1.2.1, (y2.2.1.2.2.1, ()))), (y1.2.1.2.1, ())), ())))))))))

noncomputable def P_ref08_isName_L0 (x : Sb × Unit) (y1 : (Bool × Int × Unit) × Unit) : Option (((Bool × Int × Unit) × Unit) ⊕ (Nat × (Bool × Int × Unit) × Unit)) :=
  sel (ltI y1.1.2.1 (len x.1))
  (obind (idx x.1 y1.1.2.1) (fun y2 => obind (sel (nt (eqI (u8 y2) 0))
  (obind (idx x.1 y1.1.2.1) (fun y3 => some (eqI (u8 y3) 47)))
  (some true)) (fun y3 => sel y3
  (some (Sum.inr (1, ((false, (y1.1.2.1, ())), ()))))
  (some (Sum.inl ((y1.1.1, (iadd IntKind.i64 y1.1.2.1 1, ())), ()))))))
  (some (Sum.inr (0, ((y1.1.1, (y1.1.2.1, ())), ()))))

noncomputable def P_ref08_isName (x : Sb × Unit) : Option (Bool × Unit) :=
  obind (Loop (P_ref08_isName_L0 x) ((false, ((0 : Int), ())), ())) (fun y1 => sel (eqN y1.1 0)
  (some (sel (sel (sel (leI 1 (len x.1))
  (leI (len x.1) 32)
  false)
  (nt (eqS x.1 ([46] : List UInt8)))
  false)
  (nt (eqS x.1 ([46, 46] : List UInt8)))
  false, ()))
  (some (y1.2.1.1, ())))

noncomputable def P_ref08_Table_place (x : (Int × Sb × Unit) × S7x2 × Unit) : Option ((S7x0 × Int × Unit) × S7x2 × Unit) :=
  obind (P_ref08_Table_get ((x.1.1, ()), ((x.2.1.1, (x.2.1.2.1, (x.2.1.2.2.1, ()))), ()))) (fun y1 => sel (nt y1.1.2.1)
  (some ((y1.1.1, ((3 : Int), ())), ((y1.2.1.1, (y1.2.1.2.1, (y1.2.1.2.2.1, ()))), ())))
  (sel (nt y1.1.1.2.1)
  (some ((y1.1.1, ((12 : Int), ())), ((y1.2.1.1, (y1.2.1.2.1, (y1.2.1.2.2.1, ()))), ())))
  (obind (P_ref08_isName (x.1.2.1, ())) (fun y2 => sel (nt y2.1)
  (some ((y1.1.1, ((1 : Int), ())), ((y1.2.1.1, (y1.2.1.2.1, (y1.2.1.2.2.1, ()))), ())))
  (some ((y1.1.1, ((0 : Int), ())), ((y1.2.1.1, (y1.2.1.2.1, (y1.2.1.2.2.1, ()))), ())))))))

noncomputable def P_ref08_leads_L0 (x : S7x0 × Sb × Unit) (y1 : S7x4 × Unit) : Option ((S7x4 × Unit) ⊕ (Nat × S7x4 × Unit)) :=
  sel (ltI y1.1.2.1 (len x.1.2.2.2.2.2.1))
  (obind (idx x.1.2.2.2.2.2.1 y1.1.2.1) (fun y2 => sel (eqS y2.1 x.2.1)
  (obind (idx x.1.2.2.2.2.2.1 y1.1.2.1) (fun y3 => some (Sum.inr (1, ((y3.2.1, (y1.1.2.1, ())), ())))))
  (some (Sum.inl ((y1.1.1, (iadd IntKind.i64 y1.1.2.1 1, ())), ())))))
  (some (Sum.inr (0, ((y1.1.1, (y1.1.2.1, ())), ()))))

noncomputable def P_ref08_leads (x : S7x0 × Sb × Unit) : Option (Int × Unit) :=
  obind (Loop (P_ref08_leads_L0 x) (((0 : Int), ((0 : Int), ())), ())) (fun y1 => sel (eqN y1.1 0)
  (some ((0 : Int), ()))
  (some (y1.2.1.1, ())))

noncomputable def P_ref08_Table_Find (x : (Int × Sb × Unit) × S7x2 × Unit) : Option (S7x4 × S7x2 × Unit) :=
  obind (P_ref08_Table_place ((x.1.1, (x.1.2.1, ())), ((x.2.1.1, (x.2.1.2.1, (x.2.1.2.2.1, ()))), ()))) (fun y1 => sel (nt (eqI y1.1.2.1 0))
  (some (((0 : Int), (y1.1.2.1, ())), ((y1.2.1.1, (y1.2.1.2.1, (y1.2.1.2.2.1, ()))), ())))
  (obind (P_ref08_leads (y1.1.1, (x.1.2.1, ()))) (fun y2 => sel (eqI y2.1 0)
  (some (((0 : Int), ((3 : Int), ())), ((y1.2.1.1, (y1.2.1.2.1, (y1.2.1.2.2.1, ()))), ())))
  (some ((y2.1, ((0 : Int), ())), ((y1.2.1.1, (y1.2.1.2.1, (y1.2.1.2.2.1, ()))), ()))))))

noncomputable def P_ref09_FS_walk_L0 (x : ((List Sb) × Unit) × S7x1 × Unit) (y1 : (Int × Int × Int × Int × Unit) × S7x15 × S7x10 × (List S7x5) × (List S7x0) × Unit) : Option (((Int × Int × Int × Int × Unit) × S7x15 × S7x10 × (List S7x5) × (List S7x0) × Unit) ⊕ (Nat × (Int × Int × Int × Int × Unit) × S7x15 × S7x10 × (List S7x5) × (List S7x0) × Unit)) :=
  sel (ltI y1.1.2.2.2.1 (len x.1.1))
  (obind (idx x.1.1 y1.1.2.2.2.1) (fun y2 => obind (P_ref08_Table_Find ((y1.1.2.2.1, (y2, ())), ((y1.2.2.1.1, (y1.2.2.1.2.1, (y1.2.2.2.2.1, ()))), ()))) (fun y3 => sel (nt (eqI y3.1.2.1 0))
  (some (Sum.inr (1, (((0 : Int), (y3.1.2.1, (y1.1.2.2.1, (y1.1.2.2.2.1, ())))), (((), ((), y1.2.1.2.2)), ((y3.2.1.1, (y3.2.1.2.1, ((), ()))), (y1.2.2.2.1, (y3.2.1.2.2.1, ()))))))))
  (some (Sum.inl ((y1.1.1, (y1.1.2.1, (y3.1.1, (iadd IntKind.i64 y1.1.2.2.2.1 1, ())))), (((), ((), y1.2.1.2.2)), ((y3.2.1.1, (y3.2.1.2.1, ((), ()))), (y1.2.2.2.1, (y3.2.1.2.2.1, ()))))))))))
  (some (Sum.inr (0, ((y1.1.1, (y1.1.2.1, (y1.1.2.2.1, (y1.1.2.2.2.1, ())))), (((), ((), y1.2.1.2.2)), ((y1.2.2.1.1, (y1.2.2.1.2.1, ((), y1.2.2.1.2.2.2))), (y1.2.2.2.1, (y1.2.2.2.2.1, ()))))))))

noncomputable def P_ref09_FS_walk (x : ((List Sb) × Unit) × S7x1 × Unit) : Option (S7x4 × S7x1 × Unit) :=
  obind (Loop (P_ref09_FS_walk_L0 x) (((0 : Int), ((0 : Int), ((1 : Int), ((0 : Int), ())))), (((), ((), ())), ((x.2.1.1.1, (x.2.1.1.2.1, ((), ()))), (x.2.1.2.1, (x.2.1.1.2.2.1, ())))))) (fun y1 => sel (eqN y1.1 0)
  (some ((y1.2.1.2.2.1, ((0 : Int), ())), (((y1.2.2.2.1.1, (y1.2.2.2.1.2.1, (y1.2.2.2.2.2.1, ()))), (y1.2.2.2.2.1, ())), ())))
  (some ((y1.2.1.1, (y1.2.1.2.1, ())), (((y1.2.2.2.1.1, (y1.2.2.2.1.2.1, (y1.2.2.2.2.2.1, ()))), (y1.2.2.2.2.1, ())), ()))))

noncomputable def P_ref08_Table_List_L0 (y1 : (S7x0 × Bool × Unit) × S7x2 × Unit) (y2 : S7x13 × (List Sb) × Unit) : Option ((S7x13 × (List Sb) × Unit) ⊕ (S7x13 × (List Sb) × Unit)) :=
  way1 (sel (ltI y2.1.2.1 (len y1.1.1.2.2.2.2.2.1))
  (obind (idx y1.1.1.2.2.2.2.2.1 y2.1.2.1) (fun y3 => sel (fits (plus (len y2.2.1) (len ([y3.1] : List Sb))))
  (some (Sum.inl (((), (iadd IntKind.i64 y2.1.2.1 1, ())), (app y2.2.1 ([y3.1] : List Sb), ()))))
  none))
  (some (Sum.inr (0, (((), (y2.1.2.1, ())), (y2.2.1, ()))))))

noncomputable def P_ref08_Table_List (x : (Int × Unit) × S7x2 × Unit) : Option (((List Sb) × Int × Unit) × S7x2 × Unit) :=
  obind (P_ref08_Table_get ((x.1.1, ()), ((x.2.1.1, (x.2.1.2.1, (x.2.1.2.2.1, ()))), ()))) (fun y1 => sel (nt y1.1.2.1)
  (some ((([] : List Sb), ((3 : Int), ())), ((y1.2.1.1, (y1.2.1.2.1, (y1.2.1.2.2.1, ()))), ())))
  (sel (nt y1.1.1.2.1)
  (some ((([] : List Sb), ((12 : Int), ())), ((y1.2.1.1, (y1.2.1.2.1, (y1.2.1.2.2.1, ()))), ())))
  (obind (Loop (P_ref08_Table_List_L0 y1) (((), ((0 : Int), ())), (([] : List Sb), ()))) (fun y2 => some ((y2.2.1, ((0 : Int), ())), ((y1.2.1.1, (y1.2.1.2.1, (y1.2.1.2.2.1, ()))), ()))))))

noncomputable def P_ref09_FS_many_L0 (x : (Int × Unit) × S7x1 × Unit) (y1 : S7x4 × Unit) : Option ((S7x4 × Unit) ⊕ (S7x4 × Unit)) :=
  way1 (sel (ltI y1.1.2.1 (len x.2.1.2.1))
  (sel (within y1.1.2.1 (len x.2.1.2.1))
  (obind (idx x.2.1.2.1 y1.1.2.1) (fun y2 => some (Sum.inl ((((sel (eqI y2.1 x.1.1)
  ((iadd IntKind.i64 y1.1.1 1, ()), ())
  ((y1.1.1, ()), ())).1).1, (iadd IntKind.i64 y1.1.2.1 1, ())), ()))))
  none)
  (some (Sum.inr (0, ((y1.1.1, (y1.1.2.1, ())), ())))))

noncomputable def P_ref09_FS_many (x : (Int × Unit) × S7x1 × Unit) : Option ((Int × Unit) × S7x1 × Unit) :=
  obind (Loop (P_ref09_FS_many_L0 x) (((0 : Int), ((0 : Int), ())), ())) (fun y1 => some ((y1.1.1, ()), (((x.2.1.1.1, (x.2.1.1.2.1, (x.2.1.1.2.2.1, ()))), (x.2.1.2.1, ())), ())))

noncomputable def P_ref09_FS_place (x : (Sb × Unit) × S7x1 × Unit) : Option S7x9 :=
  obind (P_ref07_Parts (x.1.1, ())) (fun y1 => sel (eqI (len y1.1) 0)
  (some (((0 : Int), (([] : List (UInt8)), ((1 : Int), ()))), (((x.2.1.1.1, (x.2.1.1.2.1, (x.2.1.1.2.2.1, ()))), (x.2.1.2.1, ())), ())))
  (sel (inside 0 (isub IntKind.i64 (len y1.1) 1) (len y1.1))
  (obind (P_ref09_FS_walk ((sub y1.1 (0 : Int) (minus (isub IntKind.i64 (len y1.1) 1) 0), ()), (((x.2.1.1.1, (x.2.1.1.2.1, (x.2.1.1.2.2.1, ()))), (x.2.1.2.1, ())), ()))) (fun y2 => obind (idx y1.1 (isub IntKind.i64 (len y1.1) 1)) (fun y3 => some ((y2.1.1, (y3, (y2.1.2.1, ()))), (((y2.2.1.1.1, (y2.2.1.1.2.1, (y2.2.1.1.2.2.1, ()))), (y2.2.1.2.1, ())), ())))))
  none))

noncomputable def P_ref08_with_L0 (x : S7x0 × S7x8 × Unit) (y1 : (Int × Unit) × Unit) : Option (((Int × Unit) × Unit) ⊕ ((Int × Unit) × Unit)) :=
  way1 (sel (ltI y1.1.1 (len x.1.2.2.2.2.2.1))
  (obind (idx x.1.2.2.2.2.2.1 y1.1.1) (fun y2 => sel (ltS y2.1 x.2.1.1)
  (some (Sum.inl ((iadd IntKind.i64 y1.1.1 1, ()), ())))
  (some (Sum.inr (0, ((y1.1.1, ()), ()))))))
  (some (Sum.inr (0, ((y1.1.1, ()), ())))))

noncomputable def P_ref08_with (x : S7x0 × S7x8 × Unit) : Option (S7x0 × Unit) :=
  obind (Loop (P_ref08_with_L0 x) (((0 : Int), ()), ())) (fun y1 => sel (inside 0 y1.1.1 (len x.1.2.2.2.2.2.1))
  (sel (fits (plus (len ([] : List S7x8)) (len (sub x.1.2.2.2.2.2.1 (0 : Int) (minus y1.1.1 0)))))
  (sel (fits (plus (len (app ([] : List S7x8) (sub x.1.2.2.2.2.2.1 (0 : Int) (minus y1.1.1 0)))) (len ([x.2.1] : List S7x8))))
  (sel (inside y1.1.1 (len x.1.2.2.2.2.2.1) (len x.1.2.2.2.2.2.1))
  (sel (fits (plus (len (app (app ([] : List S7x8) (sub x.1.2.2.2.2.2.1 (0 : Int) (minus y1.1.1 0))) ([x.2.1] : List S7x8))) (len (sub x.1.2.2.2.2.2.1 y1.1.1 (minus (len x.1.2.2.2.2.2.1) y1.1.1)))))
  (some ((x.1.1, (x.1.2.1, (x.1.2.2.1, (x.1.2.2.2.1, (x.1.2.2.2.2.1, (app (app (app ([] : List S7x8) (sub x.1.2.2.2.2.2.1 (0 : Int) (minus y1.1.1 0))) ([x.2.1] : List S7x8)) (sub x.1.2.2.2.2.2.1 y1.1.1 (minus (len x.1.2.2.2.2.2.1) y1.1.1)), x.1.2.2.2.2.2.2)))))), ()))
  none)
  none)
  none)
  none)
  none)

noncomputable def P_ref08_Table_Make (x : (Int × Sb × Bool × Unit) × S7x2 × Unit) : Option (S7x4 × S7x2 × Unit) :=
  obind (P_ref08_Table_place ((x.1.1, (x.1.2.1, ())), ((x.2.1.1, (x.2.1.2.1, (x.2.1.2.2.1, ()))), ()))) (fun y1 => sel (nt (eqI y1.1.2.1 0))
  (some (((0 : Int), (y1.1.2.1, ())), ((y1.2.1.1, (y1.2.1.2.1, (y1.2.1.2.2.1, ()))), ())))
  (obind (P_ref08_leads (y1.1.1, (x.1.2.1, ()))) (fun y2 => sel (ltI 0 y2.1)
  (some (((0 : Int), ((4 : Int), ())), ((y1.2.1.1, (y1.2.1.2.1, (y1.2.1.2.2.1, ()))), ())))
  (sel (leI 4096 (len y1.2.1.2.2.1))
  (some (((0 : Int), ((5 : Int), ())), ((y1.2.1.1, (y1.2.1.2.1, (y1.2.1.2.2.1, ()))), ())))
  (obind (P_ref08_Table_Used ((y1.2.1.1, (y1.2.1.2.1, (y1.2.1.2.2.1, ()))), ())) (fun y3 => sel (ltI y1.2.1.1 (iadd IntKind.i64 y3.1 64))
  (some (((0 : Int), ((6 : Int), ())), ((y1.2.1.1, (y1.2.1.2.1, (y1.2.1.2.2.1, ()))), ())))
  (obind (P_ref08_with (y1.1.1, ((x.1.2.1, (y1.2.1.2.1, ())), ()))) (fun y4 => obind (P_ref08_Table_set ((y4.1, ()), ((y1.2.1.1, (iadd IntKind.i64 y1.2.1.2.1 1, (y1.2.1.2.2.1, ()))), ()))) (fun y5 => sel (fits (plus (len y5.2.1.2.2.1) (len ([(y1.2.1.2.1, (x.1.2.2.1, ((1 : Int), ((0 : Int), (([] : List (UInt8)), (([] : List S7x8), ()))))))] : List S7x0))))
  (some ((y1.2.1.2.1, ((0 : Int), ())), ((y5.2.1.1, (y5.2.1.2.1, (app y5.2.1.2.2.1 ([(y1.2.1.2.1, (x.1.2.2.1, ((1 : Int), ((0 : Int), (([] : List (UInt8)), (([] : List S7x8), ()))))))] : List S7x0), ()))), ())))
  none)))))))))

noncomputable def P_ref08_without_L0 (x : S7x0 × Sb × Unit) (y1 : S7x13 × (List S7x8) × Unit) : Option ((S7x13 × (List S7x8) × Unit) ⊕ (S7x13 × (List S7x8) × Unit)) :=
  way1 (sel (ltI y1.1.2.1 (len x.1.2.2.2.2.2.1))
  (obind (idx x.1.2.2.2.2.2.1 y1.1.2.1) (fun y2 => obind (sel (nt (eqS y2.1 x.2.1))
  (obind (idx x.1.2.2.2.2.2.1 y1.1.2.1) (fun y3 => sel (fits (plus (len y1.2.1) (len ([y3] : List S7x8))))
  (some (((), ()), (app y1.2.1 ([y3] : List S7x8), ())))
  none))
  (some (((), ()), (y1.2.1, ())))) (fun y3 => some (Sum.inl (((), (iadd IntKind.i64 y1.1.2.1 1, ())), (y3.2.1, ()))))))
  (some (Sum.inr (0, (((), (y1.1.2.1, ())), (y1.2.1, ()))))))

noncomputable def P_ref08_without (x : S7x0 × Sb × Unit) : Option (S7x0 × Unit) :=
  obind (Loop (P_ref08_without_L0 x) (((), ((0 : Int), ())), (([] : List S7x8), ()))) (fun y1 => some ((x.1.1, (x.1.2.1, (x.1.2.2.1, (x.1.2.2.2.1, (x.1.2.2.2.2.1, (y1.2.1, x.1.2.2.2.2.2.2)))))), ()))

noncomputable def P_ref08_Table_Remove (x : (Int × Sb × Unit) × S7x2 × Unit) : Option S7x14 :=
  obind (P_ref08_Table_Find ((x.1.1, (x.1.2.1, ())), ((x.2.1.1, (x.2.1.2.1, (x.2.1.2.2.1, ()))), ()))) (fun y1 => sel (nt (eqI y1.1.2.1 0))
  (some ((y1.1.2.1, ()), ((y1.2.1.1, (y1.2.1.2.1, (y1.2.1.2.2.1, ()))), ())))
  (obind (P_ref08_Table_get ((y1.1.1, ()), ((y1.2.1.1, (y1.2.1.2.1, (y1.2.1.2.2.1, ()))), ()))) (fun y2 => sel (nt y2.1.1.2.1)
  (some (((12 : Int), ()), ((y2.2.1.1, (y2.2.1.2.1, (y2.2.1.2.2.1, ()))), ())))
  (sel (ltI 0 (len y2.1.1.2.2.2.2.2.1))
  (some (((7 : Int), ()), ((y2.2.1.1, (y2.2.1.2.1, (y2.2.1.2.2.1, ()))), ())))
  (obind (P_ref08_Table_get ((x.1.1, ()), ((y2.2.1.1, (y2.2.1.2.1, (y2.2.1.2.2.1, ()))), ()))) (fun y3 => obind (P_ref08_without (y3.1.1, (x.1.2.1, ()))) (fun y4 => obind (P_ref08_Table_set ((y4.1, ()), ((y3.2.1.1, (y3.2.1.2.1, (y3.2.1.2.2.1, ()))), ()))) (fun y5 => obind (P_ref08_Table_set (((y2.1.1.1, (y2.1.1.2.1, ((0 : Int), y2.1.1.2.2.2))), ()), ((y5.2.1.1, (y5.2.1.2.1, (y5.2.1.2.2.1, ()))), ()))) (fun y6 => some (((0 : Int), ()), ((y6.2.1.1, (y6.2.1.2.1, (y6.2.1.2.2.1, ()))), ())))))))))))

noncomputable def P_ref08_Table_Unlink (x : (Int × Sb × Unit) × S7x2 × Unit) : Option S7x14 :=
  obind (P_ref08_Table_Find ((x.1.1, (x.1.2.1, ())), ((x.2.1.1, (x.2.1.2.1, (x.2.1.2.2.1, ()))), ()))) (fun y1 => sel (nt (eqI y1.1.2.1 0))
  (some ((y1.1.2.1, ()), ((y1.2.1.1, (y1.2.1.2.1, (y1.2.1.2.2.1, ()))), ())))
  (obind (P_ref08_Table_get ((y1.1.1, ()), ((y1.2.1.1, (y1.2.1.2.1, (y1.2.1.2.2.1, ()))), ()))) (fun y2 => sel y2.1.1.2.1
  (some (((12 : Int), ()), ((y2.2.1.1, (y2.2.1.2.1, (y2.2.1.2.2.1, ()))), ())))
  (obind (P_ref08_Table_get ((x.1.1, ()), ((y2.2.1.1, (y2.2.1.2.1, (y2.2.1.2.2.1, ()))), ()))) (fun y3 => obind (P_ref08_without (y3.1.1, (x.1.2.1, ()))) (fun y4 => obind (P_ref08_Table_set ((y4.1, ()), ((y3.2.1.1, (y3.2.1.2.1, (y3.2.1.2.2.1, ()))), ()))) (fun y5 => obind (P_ref08_Table_set (((y2.1.1.1, (y2.1.1.2.1, (isub IntKind.i64 y2.1.1.2.2.1 1, y2.1.1.2.2.2))), ()), ((y5.2.1.1, (y5.2.1.2.1, (y5.2.1.2.2.1, ()))), ()))) (fun y6 => some (((0 : Int), ()), ((y6.2.1.1, (y6.2.1.2.1, (y6.2.1.2.2.1, ()))), ()))))))))))

noncomputable def P_ref08_Table_Hold (x : (Int × Unit) × S7x2 × Unit) : Option S7x14 :=
  obind (P_ref08_Table_file ((x.1.1, ((0 : Int), ((0 : Int), ()))), ((x.2.1.1, (x.2.1.2.1, (x.2.1.2.2.1, ()))), ()))) (fun y1 => sel (nt (eqI y1.1.2.1 0))
  (some ((y1.1.2.1, ()), ((y1.2.1.1, (y1.2.1.2.1, (y1.2.1.2.2.1, ()))), ())))
  (sel (leI 1048576 y1.1.1.2.2.2.1)
  (some (((5 : Int), ()), ((y1.2.1.1, (y1.2.1.2.1, (y1.2.1.2.2.1, ()))), ())))
  (obind (P_ref08_Table_set (((y1.1.1.1, (y1.1.1.2.1, (y1.1.1.2.2.1, (iadd IntKind.i64 y1.1.1.2.2.2.1 1, y1.1.1.2.2.2.2)))), ()), ((y1.2.1.1, (y1.2.1.2.1, (y1.2.1.2.2.1, ()))), ()))) (fun y2 => some (((0 : Int), ()), ((y2.2.1.1, (y2.2.1.2.1, (y2.2.1.2.2.1, ()))), ()))))))

noncomputable def P_ref09_FS_gives_L0 (x : S7x4 × S7x1 × Unit) (y2 : S7x4 × S7x15 × S7x10 × (List S7x5) × (List S7x0) × Unit) : Option ((S7x4 × S7x15 × S7x10 × (List S7x5) × (List S7x0) × Unit) ⊕ (S7x4 × S7x15 × S7x10 × (List S7x5) × (List S7x0) × Unit)) :=
  way1 (sel (ltI y2.1.2.1 8)
  (obind (P_ref09_FS_holds ((x.1.1, (y2.1.1, ())), (((y2.2.2.1.1, (y2.2.2.1.2.1, (y2.2.2.2.2.1, ()))), (y2.2.2.2.1, ())), ()))) (fun y3 => sel (ltI 0 y3.1.1)
  (some (Sum.inl ((iadd IntKind.i64 y2.1.1 1, (iadd IntKind.i64 y2.1.2.1 1, ())), (((), ((), ())), ((y3.2.1.1.1, (y3.2.1.1.2.1, ((), ()))), (y3.2.1.2.1, (y3.2.1.1.2.2.1, ())))))))
  (some (Sum.inr (0, ((y2.1.1, (y2.1.2.1, ())), (((), ((), ())), ((y3.2.1.1.1, (y3.2.1.1.2.1, ((), ()))), (y3.2.1.2.1, (y3.2.1.1.2.2.1, ()))))))))))
  (some (Sum.inr (0, ((y2.1.1, (y2.1.2.1, ())), (((), ((), y2.2.1.2.2)), ((y2.2.2.1.1, (y2.2.2.1.2.1, ((), y2.2.2.1.2.2.2))), (y2.2.2.2.1, (y2.2.2.2.2.1, ())))))))))

noncomputable def P_ref09_FS_gives (x : S7x4 × S7x1 × Unit) : Option (S7x12 × S7x1 × Unit) :=
  obind (P_ref08_Table_Hold ((x.1.2.1, ()), ((x.2.1.1.1, (x.2.1.1.2.1, (x.2.1.1.2.2.1, ()))), ()))) (fun y1 => sel (nt (eqI y1.1.1 0))
  (some (((y1.1.1, ((0 : Int), (([] : List (UInt8)), (([] : List Sb), ())))), ()), (((y1.2.1.1, (y1.2.1.2.1, (y1.2.1.2.2.1, ()))), (x.2.1.2.1, ())), ())))
  (obind (Loop (P_ref09_FS_gives_L0 x) (((1 : Int), ((0 : Int), ())), (((), ((), ())), ((y1.2.1.1, (y1.2.1.2.1, ((), ()))), (x.2.1.2.1, (y1.2.1.2.2.1, ())))))) (fun y2 => sel (fits (plus (len y2.2.2.2.1) (len ([(x.1.1, (y2.1.1, (x.1.2.1, ())))] : List S7x5))))
  (some ((((0 : Int), (y2.1.1, (([] : List (UInt8)), (([] : List Sb), ())))), ()), (((y2.2.2.1.1, (y2.2.2.1.2.1, (y2.2.2.2.2.1, ()))), (app y2.2.2.2.1 ([(x.1.1, (y2.1.1, (x.1.2.1, ())))] : List S7x5), ())), ())))
  none)))

noncomputable def P_ref08_Table_Link (x : (Int × Int × Sb × Unit) × S7x2 × Unit) : Option S7x14 :=
  obind (P_ref08_Table_get ((x.1.1, ()), ((x.2.1.1, (x.2.1.2.1, (x.2.1.2.2.1, ()))), ()))) (fun y1 => sel (nt y1.1.2.1)
  (some (((3 : Int), ()), ((y1.2.1.1, (y1.2.1.2.1, (y1.2.1.2.2.1, ()))), ())))
  (sel y1.1.1.2.1
  (some (((12 : Int), ()), ((y1.2.1.1, (y1.2.1.2.1, (y1.2.1.2.2.1, ()))), ())))
  (obind (P_ref08_Table_place ((x.1.2.1, (x.1.2.2.1, ())), ((y1.2.1.1, (y1.2.1.2.1, (y1.2.1.2.2.1, ()))), ()))) (fun y2 => sel (nt (eqI y2.1.2.1 0))
  (some ((y2.1.2.1, ()), ((y2.2.1.1, (y2.2.1.2.1, (y2.2.1.2.2.1, ()))), ())))
  (obind (P_ref08_leads (y2.1.1, (x.1.2.2.1, ()))) (fun y3 => sel (ltI 0 y3.1)
  (some (((4 : Int), ()), ((y2.2.1.1, (y2.2.1.2.1, (y2.2.1.2.2.1, ()))), ())))
  (obind (P_ref08_with (y2.1.1, ((x.1.2.2.1, (x.1.1, ())), ()))) (fun y4 => obind (P_ref08_Table_set ((y4.1, ()), ((y2.2.1.1, (y2.2.1.2.1, (y2.2.1.2.2.1, ()))), ()))) (fun y5 => obind (P_ref08_Table_set (((y1.1.1.1, (y1.1.1.2.1, (iadd IntKind.i64 y1.1.1.2.2.1 1, y1.1.1.2.2.2))), ()), ((y5.2.1.1, (y5.2.1.2.1, (y5.2.1.2.2.1, ()))), ()))) (fun y6 => some (((0 : Int), ()), ((y6.2.1.1, (y6.2.1.2.1, (y6.2.1.2.2.1, ()))), ()))))))))))))

noncomputable def P_ref09_FS_links (x : (Int × Sb × Sb × Unit) × S7x1 × Unit) : Option (S7x12 × S7x1 × Unit) :=
  obind (P_ref08_Table_Find ((x.1.1, (x.1.2.1, ())), ((x.2.1.1.1, (x.2.1.1.2.1, (x.2.1.1.2.2.1, ()))), ()))) (fun y1 => sel (nt (eqI y1.1.2.1 0))
  (some (((y1.1.2.1, ((0 : Int), (([] : List (UInt8)), (([] : List Sb), ())))), ()), (((y1.2.1.1, (y1.2.1.2.1, (y1.2.1.2.2.1, ()))), (x.2.1.2.1, ())), ())))
  (obind (P_ref09_FS_place ((x.1.2.2.1, ()), (((y1.2.1.1, (y1.2.1.2.1, (y1.2.1.2.2.1, ()))), (x.2.1.2.1, ())), ()))) (fun y2 => sel (nt (eqI y2.1.2.2.1 0))
  (some (((y2.1.2.2.1, ((0 : Int), (([] : List (UInt8)), (([] : List Sb), ())))), ()), (((y2.2.1.1.1, (y2.2.1.1.2.1, (y2.2.1.1.2.2.1, ()))), (y2.2.1.2.1, ())), ())))
  (obind (P_ref08_Table_Link ((y1.1.1, (y2.1.1, (y2.1.2.1, ()))), ((y2.2.1.1.1, (y2.2.1.1.2.1, (y2.2.1.1.2.2.1, ()))), ()))) (fun y3 => some (((y3.1.1, ((0 : Int), (([] : List (UInt8)), (([] : List Sb), ())))), ()), (((y3.2.1.1, (y3.2.1.2.1, (y3.2.1.2.2.1, ()))), (y2.2.1.2.1, ())), ())))))))

noncomputable def P_ref08_Table_Rename (x : (Int × Sb × Int × Sb × Unit) × S7x2 × Unit) : Option S7x14 :=
  obind (P_ref08_Table_Find ((x.1.1, (x.1.2.1, ())), ((x.2.1.1, (x.2.1.2.1, (x.2.1.2.2.1, ()))), ()))) (fun y1 => sel (nt (eqI y1.1.2.1 0))
  (some ((y1.1.2.1, ()), ((y1.2.1.1, (y1.2.1.2.1, (y1.2.1.2.2.1, ()))), ())))
  (obind (P_ref08_Table_get ((y1.1.1, ()), ((y1.2.1.1, (y1.2.1.2.1, (y1.2.1.2.2.1, ()))), ()))) (fun y2 => sel y2.1.1.2.1
  (some (((12 : Int), ()), ((y2.2.1.1, (y2.2.1.2.1, (y2.2.1.2.2.1, ()))), ())))
  (obind (P_ref08_Table_place ((x.1.2.2.1, (x.1.2.2.2.1, ())), ((y2.2.1.1, (y2.2.1.2.1, (y2.2.1.2.2.1, ()))), ()))) (fun y3 => sel (nt (eqI y3.1.2.1 0))
  (some ((y3.1.2.1, ()), ((y3.2.1.1, (y3.2.1.2.1, (y3.2.1.2.2.1, ()))), ())))
  (obind (P_ref08_leads (y3.1.1, (x.1.2.2.2.1, ()))) (fun y4 => sel (eqI y4.1 y1.1.1)
  (some (((0 : Int), ()), ((y3.2.1.1, (y3.2.1.2.1, (y3.2.1.2.2.1, ()))), ())))
  (obind (sel (ltI 0 y4.1)
  (obind (P_ref08_Table_get ((y4.1, ()), ((y3.2.1.1, (y3.2.1.2.1, (y3.2.1.2.2.1, ()))), ()))) (fun y5 => sel y5.1.1.2.1
  (some (1, (((12 : Int), ()), ((y5.2.1.1, (y5.2.1.2.1, ((), ()))), (y5.2.1.2.2.1, ())))))
  (obind (P_ref08_without (y3.1.1, (x.1.2.2.2.1, ()))) (fun y6 => obind (P_ref08_Table_set ((y6.1, ()), ((y5.2.1.1, (y5.2.1.2.1, (y5.2.1.2.2.1, ()))), ()))) (fun y7 => obind (P_ref08_Table_set (((y5.1.1.1, (y5.1.1.2.1, (isub IntKind.i64 y5.1.1.2.2.1 1, y5.1.1.2.2.2))), ()), ((y7.2.1.1, (y7.2.1.2.1, (y7.2.1.2.2.1, ()))), ()))) (fun y8 => some (0, (((0 : Int), ()), ((y8.2.1.1, (y8.2.1.2.1, ((), ()))), (y8.2.1.2.2.1, ()))))))))))
  (some (0, (((0 : Int), ()), ((y3.2.1.1, (y3.2.1.2.1, ((), ()))), (y3.2.1.2.2.1, ())))))) (fun y5 => sel (eqN y5.1 0)
  (obind (P_ref08_Table_get ((x.1.1, ()), ((y5.2.2.1.1, (y5.2.2.1.2.1, (y5.2.2.2.1, ()))), ()))) (fun y6 => obind (P_ref08_without (y6.1.1, (x.1.2.1, ()))) (fun y7 => obind (P_ref08_Table_set ((y7.1, ()), ((y6.2.1.1, (y6.2.1.2.1, (y6.2.1.2.2.1, ()))), ()))) (fun y8 => obind (P_ref08_Table_get ((x.1.2.2.1, ()), ((y8.2.1.1, (y8.2.1.2.1, (y8.2.1.2.2.1, ()))), ()))) (fun y9 => obind (P_ref08_with (y9.1.1, ((x.1.2.2.2.1, (y1.1.1, ())), ()))) (fun y10 => obind (P_ref08_Table_set ((y10.1, ()), ((y9.2.1.1, (y9.2.1.2.1, (y9.2.1.2.2.1, ()))), ()))) (fun y11 => some (((0 : Int), ()), ((y11.2.1.1, (y11.2.1.2.1, (y11.2.1.2.2.1, ()))), ())))))))))
  (some ((y5.2.1.1, ()), ((y5.2.2.1.1, (y5.2.2.1.2.1, (y5.2.2.2.1, ()))), ()))))))))))))

noncomputable def P_ref09_FS_Do (x : (Int × S7x3 × Unit) × S7x1 × Unit) : Option (S7x12 × S7x1 × Unit) :=
  obind (P_ref09_right (x.1.2.1, ())) (fun y1 => sel (nt y1.1)
  (some ((((1 : Int), ((0 : Int), (([] : List (UInt8)), (([] : List Sb), ())))), ()), (((x.2.1.1.1, (x.2.1.1.2.1, (x.2.1.1.2.2.1, ()))), (x.2.1.2.1, ())), ())))
  (sel (((sel (eqI x.1.2.1.1 5)
  ((eqI x.1.2.1.1 5, ()), ())
  ((((sel (eqI x.1.2.1.1 6)
  ((eqI x.1.2.1.1 6, ()), ())
  ((((sel (eqI x.1.2.1.1 7)
  ((eqI x.1.2.1.1 7, ()), ())
  ((((sel (eqI x.1.2.1.1 8)
  ((eqI x.1.2.1.1 8, ()), ())
  ((eqI x.1.2.1.1 9, ()), ())).1).1, ()), ())).1).1, ()), ())).1).1, ()), ())).1).1)
  (obind (P_ref09_FS_handled ((x.1.1, (x.1.2.1, ())), (((x.2.1.1.1, (x.2.1.1.2.1, (x.2.1.1.2.2.1, ()))), (x.2.1.2.1, ())), ()))) (fun y2 => some ((y2.1.1, ()), (((y2.2.1.1.1, (y2.2.1.1.2.1, (y2.2.1.1.2.2.1, ()))), (y2.2.1.2.1, ())), ()))))
  (sel (eqI x.1.2.1.1 13)
  (obind (P_ref07_Parts (x.1.2.1.2.1, ())) (fun y2 => obind (P_ref09_FS_walk ((y2.1, ()), (((x.2.1.1.1, (x.2.1.1.2.1, (x.2.1.1.2.2.1, ()))), (x.2.1.2.1, ())), ()))) (fun y3 => sel (nt (eqI y3.1.2.1 0))
  (some (((y3.1.2.1, ((0 : Int), (([] : List (UInt8)), (([] : List Sb), ())))), ()), (((y3.2.1.1.1, (y3.2.1.1.2.1, (y3.2.1.1.2.2.1, ()))), (y3.2.1.2.1, ())), ())))
  (obind (P_ref08_Table_List ((y3.1.1, ()), ((y3.2.1.1.1, (y3.2.1.1.2.1, (y3.2.1.1.2.2.1, ()))), ()))) (fun y4 => some (((y4.1.2.1, ((0 : Int), (([] : List (UInt8)), (y4.1.1, ())))), ()), (((y4.2.1.1, (y4.2.1.2.1, (y4.2.1.2.2.1, ()))), (y3.2.1.2.1, ())), ())))))))
  (sel (sel (nt (eqI x.1.2.1.1 3))
  (eqI x.1.2.1.1 4)
  true)
  (obind (P_ref09_FS_many ((x.1.1, ()), (((x.2.1.1.1, (x.2.1.1.2.1, (x.2.1.1.2.2.1, ()))), (x.2.1.2.1, ())), ()))) (fun y2 => sel (leI 8 y2.1.1)
  (some ((((5 : Int), ((0 : Int), (([] : List (UInt8)), (([] : List Sb), ())))), ()), (((y2.2.1.1.1, (y2.2.1.1.2.1, (y2.2.1.1.2.2.1, ()))), (y2.2.1.2.1, ())), ())))
  (obind (P_ref09_FS_place ((x.1.2.1.2.1, ()), (((y2.2.1.1.1, (y2.2.1.1.2.1, (y2.2.1.1.2.2.1, ()))), (y2.2.1.2.1, ())), ()))) (fun y3 => sel (nt (eqI y3.1.2.2.1 0))
  (some (((y3.1.2.2.1, ((0 : Int), (([] : List (UInt8)), (([] : List Sb), ())))), ()), (((y3.2.1.1.1, (y3.2.1.1.2.1, (y3.2.1.1.2.2.1, ()))), (y3.2.1.2.1, ())), ())))
  (sel (eqI x.1.2.1.1 1)
  (obind (P_ref08_Table_Make ((y3.1.1, (y3.1.2.1, (true, ()))), ((y3.2.1.1.1, (y3.2.1.1.2.1, (y3.2.1.1.2.2.1, ()))), ()))) (fun y4 => some (((y4.1.2.1, ((0 : Int), (([] : List (UInt8)), (([] : List Sb), ())))), ()), (((y4.2.1.1, (y4.2.1.2.1, (y4.2.1.2.2.1, ()))), (y3.2.1.2.1, ())), ()))))
  (sel (eqI x.1.2.1.1 2)
  (obind (P_ref08_Table_Remove ((y3.1.1, (y3.1.2.1, ())), ((y3.2.1.1.1, (y3.2.1.1.2.1, (y3.2.1.1.2.2.1, ()))), ()))) (fun y4 => some (((y4.1.1, ((0 : Int), (([] : List (UInt8)), (([] : List Sb), ())))), ()), (((y4.2.1.1, (y4.2.1.2.1, (y4.2.1.2.2.1, ()))), (y3.2.1.2.1, ())), ()))))
  (sel (eqI x.1.2.1.1 11)
  (obind (P_ref08_Table_Unlink ((y3.1.1, (y3.1.2.1, ())), ((y3.2.1.1.1, (y3.2.1.1.2.1, (y3.2.1.1.2.2.1, ()))), ()))) (fun y4 => some (((y4.1.1, ((0 : Int), (([] : List (UInt8)), (([] : List Sb), ())))), ()), (((y4.2.1.1, (y4.2.1.2.1, (y4.2.1.2.2.1, ()))), (y3.2.1.2.1, ())), ()))))
  (sel (eqI x.1.2.1.1 3)
  (obind (P_ref08_Table_Make ((y3.1.1, (y3.1.2.1, (false, ()))), ((y3.2.1.1.1, (y3.2.1.1.2.1, (y3.2.1.1.2.2.1, ()))), ()))) (fun y4 => sel (nt (eqI y4.1.2.1 0))
  (some (((y4.1.2.1, ((0 : Int), (([] : List (UInt8)), (([] : List Sb), ())))), ()), (((y4.2.1.1, (y4.2.1.2.1, (y4.2.1.2.2.1, ()))), (y3.2.1.2.1, ())), ())))
  (obind (P_ref09_FS_gives ((x.1.1, (y4.1.1, ())), (((y4.2.1.1, (y4.2.1.2.1, (y4.2.1.2.2.1, ()))), (y3.2.1.2.1, ())), ()))) (fun y5 => some ((y5.1.1, ()), (((y5.2.1.1.1, (y5.2.1.1.2.1, (y5.2.1.1.2.2.1, ()))), (y5.2.1.2.1, ())), ()))))))
  (sel (eqI x.1.2.1.1 4)
  (obind (P_ref08_Table_Find ((y3.1.1, (y3.1.2.1, ())), ((y3.2.1.1.1, (y3.2.1.1.2.1, (y3.2.1.1.2.2.1, ()))), ()))) (fun y4 => sel (nt (eqI y4.1.2.1 0))
  (some (((y4.1.2.1, ((0 : Int), (([] : List (UInt8)), (([] : List Sb), ())))), ()), (((y4.2.1.1, (y4.2.1.2.1, (y4.2.1.2.2.1, ()))), (y3.2.1.2.1, ())), ())))
  (obind (P_ref09_FS_gives ((x.1.1, (y4.1.1, ())), (((y4.2.1.1, (y4.2.1.2.1, (y4.2.1.2.2.1, ()))), (y3.2.1.2.1, ())), ()))) (fun y5 => some ((y5.1.1, ()), (((y5.2.1.1.1, (y5.2.1.1.2.1, (y5.2.1.1.2.2.1, ()))), (y5.2.1.2.1, ())), ()))))))
  (sel (eqI x.1.2.1.1 10)
  (obind (P_ref09_FS_links ((y3.1.1, (y3.1.2.1, (x.1.2.1.2.2.1, ()))), (((y3.2.1.1.1, (y3.2.1.1.2.1, (y3.2.1.1.2.2.1, ()))), (y3.2.1.2.1, ())), ()))) (fun y4 => some ((y4.1.1, ()), (((y4.2.1.1.1, (y4.2.1.1.2.1, (y4.2.1.1.2.2.1, ()))), (y4.2.1.2.1, ())), ()))))
  (obind (P_ref09_FS_place ((x.1.2.1.2.2.1, ()), (((y3.2.1.1.1, (y3.2.1.1.2.1, (y3.2.1.1.2.2.1, ()))), (y3.2.1.2.1, ())), ()))) (fun y4 => sel (nt (eqI y4.1.2.2.1 0))
  (some (((y4.1.2.2.1, ((0 : Int), (([] : List (UInt8)), (([] : List Sb), ())))), ()), (((y4.2.1.1.1, (y4.2.1.1.2.1, (y4.2.1.1.2.2.1, ()))), (y4.2.1.2.1, ())), ())))
  (obind (P_ref08_Table_Rename ((y3.1.1, (y3.1.2.1, (y4.1.1, (y4.1.2.1, ())))), ((y4.2.1.1.1, (y4.2.1.1.2.1, (y4.2.1.1.2.2.1, ()))), ()))) (fun y5 => some (((y5.1.1, ((0 : Int), (([] : List (UInt8)), (([] : List Sb), ())))), ()), (((y5.2.1.1, (y5.2.1.2.1, (y5.2.1.2.2.1, ()))), (y4.2.1.2.1, ())), ()))))))))))))))))
  (obind (P_ref09_FS_place ((x.1.2.1.2.1, ()), (((x.2.1.1.1, (x.2.1.1.2.1, (x.2.1.1.2.2.1, ()))), (x.2.1.2.1, ())), ()))) (fun y2 => sel (nt (eqI y2.1.2.2.1 0))
  (some (((y2.1.2.2.1, ((0 : Int), (([] : List (UInt8)), (([] : List Sb), ())))), ()), (((y2.2.1.1.1, (y2.2.1.1.2.1, (y2.2.1.1.2.2.1, ()))), (y2.2.1.2.1, ())), ())))
  (sel (eqI x.1.2.1.1 1)
  (obind (P_ref08_Table_Make ((y2.1.1, (y2.1.2.1, (true, ()))), ((y2.2.1.1.1, (y2.2.1.1.2.1, (y2.2.1.1.2.2.1, ()))), ()))) (fun y3 => some (((y3.1.2.1, ((0 : Int), (([] : List (UInt8)), (([] : List Sb), ())))), ()), (((y3.2.1.1, (y3.2.1.2.1, (y3.2.1.2.2.1, ()))), (y2.2.1.2.1, ())), ()))))
  (sel (eqI x.1.2.1.1 2)
  (obind (P_ref08_Table_Remove ((y2.1.1, (y2.1.2.1, ())), ((y2.2.1.1.1, (y2.2.1.1.2.1, (y2.2.1.1.2.2.1, ()))), ()))) (fun y3 => some (((y3.1.1, ((0 : Int), (([] : List (UInt8)), (([] : List Sb), ())))), ()), (((y3.2.1.1, (y3.2.1.2.1, (y3.2.1.2.2.1, ()))), (y2.2.1.2.1, ())), ()))))
  (sel (eqI x.1.2.1.1 11)
  (obind (P_ref08_Table_Unlink ((y2.1.1, (y2.1.2.1, ())), ((y2.2.1.1.1, (y2.2.1.1.2.1, (y2.2.1.1.2.2.1, ()))), ()))) (fun y3 => some (((y3.1.1, ((0 : Int), (([] : List (UInt8)), (([] : List Sb), ())))), ()), (((y3.2.1.1, (y3.2.1.2.1, (y3.2.1.2.2.1, ()))), (y2.2.1.2.1, ())), ()))))
  (sel (eqI x.1.2.1.1 3)
  (obind (P_ref08_Table_Make ((y2.1.1, (y2.1.2.1, (false, ()))), ((y2.2.1.1.1, (y2.2.1.1.2.1, (y2.2.1.1.2.2.1, ()))), ()))) (fun y3 => sel (nt (eqI y3.1.2.1 0))
  (some (((y3.1.2.1, ((0 : Int), (([] : List (UInt8)), (([] : List Sb), ())))), ()), (((y3.2.1.1, (y3.2.1.2.1, (y3.2.1.2.2.1, ()))), (y2.2.1.2.1, ())), ())))
  (obind (P_ref09_FS_gives ((x.1.1, (y3.1.1, ())), (((y3.2.1.1, (y3.2.1.2.1, (y3.2.1.2.2.1, ()))), (y2.2.1.2.1, ())), ()))) (fun y4 => some ((y4.1.1, ()), (((y4.2.1.1.1, (y4.2.1.1.2.1, (y4.2.1.1.2.2.1, ()))), (y4.2.1.2.1, ())), ()))))))
  (sel (eqI x.1.2.1.1 4)
  (obind (P_ref08_Table_Find ((y2.1.1, (y2.1.2.1, ())), ((y2.2.1.1.1, (y2.2.1.1.2.1, (y2.2.1.1.2.2.1, ()))), ()))) (fun y3 => sel (nt (eqI y3.1.2.1 0))
  (some (((y3.1.2.1, ((0 : Int), (([] : List (UInt8)), (([] : List Sb), ())))), ()), (((y3.2.1.1, (y3.2.1.2.1, (y3.2.1.2.2.1, ()))), (y2.2.1.2.1, ())), ())))
  (obind (P_ref09_FS_gives ((x.1.1, (y3.1.1, ())), (((y3.2.1.1, (y3.2.1.2.1, (y3.2.1.2.2.1, ()))), (y2.2.1.2.1, ())), ()))) (fun y4 => some ((y4.1.1, ()), (((y4.2.1.1.1, (y4.2.1.1.2.1, (y4.2.1.1.2.2.1, ()))), (y4.2.1.2.1, ())), ()))))))
  (sel (eqI x.1.2.1.1 10)
  (obind (P_ref09_FS_links ((y2.1.1, (y2.1.2.1, (x.1.2.1.2.2.1, ()))), (((y2.2.1.1.1, (y2.2.1.1.2.1, (y2.2.1.1.2.2.1, ()))), (y2.2.1.2.1, ())), ()))) (fun y3 => some ((y3.1.1, ()), (((y3.2.1.1.1, (y3.2.1.1.2.1, (y3.2.1.1.2.2.1, ()))), (y3.2.1.2.1, ())), ()))))
  (obind (P_ref09_FS_place ((x.1.2.1.2.2.1, ()), (((y2.2.1.1.1, (y2.2.1.1.2.1, (y2.2.1.1.2.2.1, ()))), (y2.2.1.2.1, ())), ()))) (fun y3 => sel (nt (eqI y3.1.2.2.1 0))
  (some (((y3.1.2.2.1, ((0 : Int), (([] : List (UInt8)), (([] : List Sb), ())))), ()), (((y3.2.1.1.1, (y3.2.1.1.2.1, (y3.2.1.1.2.2.1, ()))), (y3.2.1.2.1, ())), ())))
  (obind (P_ref08_Table_Rename ((y2.1.1, (y2.1.2.1, (y3.1.1, (y3.1.2.1, ())))), ((y3.2.1.1.1, (y3.2.1.1.2.1, (y3.2.1.1.2.2.1, ()))), ()))) (fun y4 => some (((y4.1.1, ((0 : Int), (([] : List (UInt8)), (([] : List Sb), ())))), ()), (((y4.2.1.1, (y4.2.1.2.1, (y4.2.1.2.2.1, ()))), (y3.2.1.2.1, ())), ()))))))))))))))))))

noncomputable def P_ref10_Disk_Do (x : (Int × S7x3 × Unit) × S7x6 × Unit) : Option (S7x12 × S7x6 × Unit) :=
  sel (eqI x.1.2.1.1 14)
  (obind (P_ref10_Disk_sync ((), ((((x.2.1.1.1.1, (x.2.1.1.1.2.1, (x.2.1.1.1.2.2.1, ()))), (x.2.1.1.2.1, ())), (((x.2.1.2.1.1.1, (x.2.1.2.1.1.2.1, (x.2.1.2.1.1.2.2.1, ()))), (x.2.1.2.1.2.1, ())), (x.2.1.2.2.1, ()))), ()))) (fun y1 => some ((((0 : Int), ((0 : Int), (([] : List (UInt8)), (([] : List Sb), ())))), ()), ((((y1.2.1.1.1.1, (y1.2.1.1.1.2.1, (y1.2.1.1.1.2.2.1, ()))), (y1.2.1.1.2.1, ())), (((y1.2.1.2.1.1.1, (y1.2.1.2.1.1.2.1, (y1.2.1.2.1.1.2.2.1, ()))), (y1.2.1.2.1.2.1, ())), (y1.2.1.2.2.1, ()))), ()))))
  (obind (P_ref09_FS_Do ((x.1.1, (x.1.2.1, ())), (((x.2.1.1.1.1, (x.2.1.1.1.2.1, (x.2.1.1.1.2.2.1, ()))), (x.2.1.1.2.1, ())), ()))) (fun y1 => obind (sel (sel (eqI y1.1.1.1 0)
  (nt (sel (nt (sel (nt (eqI x.1.2.1.1 6))
  (eqI x.1.2.1.1 9)
  true))
  (eqI x.1.2.1.1 13)
  true))
  false)
  (sel (fits (plus (len x.2.1.2.2.1) (len ([(x.1.1, (false, (x.1.2.1, ())))] : List (Int × Bool × S7x3 × Unit)))))
  (some ((), (((), ((), ((), ()))), (((), ((), ())), (((), ((), ())), (app x.2.1.2.2.1 ([(x.1.1, (false, (x.1.2.1, ())))] : List (Int × Bool × S7x3 × Unit)), ((y1.2.1.1.1, (y1.2.1.1.2.1, ((), ()))), (y1.2.1.2.1, ((x.2.1.2.1.1.1, (x.2.1.2.1.1.2.1, ((), ()))), (x.2.1.2.1.2.1, (y1.2.1.1.2.2.1, (x.2.1.2.1.1.2.2.1, ()))))))))))))
  none)
  (some ((), (((), ((), ((), ()))), (((), ((), ())), (((), ((), ())), (x.2.1.2.2.1, ((y1.2.1.1.1, (y1.2.1.1.2.1, ((), ()))), (y1.2.1.2.1, ((x.2.1.2.1.1.1, (x.2.1.2.1.1.2.1, ((), ()))), (x.2.1.2.1.2.1, (y1.2.1.1.2.2.1, (x.2.1.2.1.1.2.2.1, ()))))))))))))) (fun y2 => some ((y1.1.1, ()), ((((y2.2.2.2.2.2.1.1, (y2.2.2.2.2.2.1.2.1, (y2.2.2.2.2.2.2.2.2.2.1, ()))), (y2.2.2.2.2.2.2.1, ())), (((y2.2.2.2.2.2.2.2.1.1, (y2.2.2.2.2.2.2.2.1.2.1, (y2.2.2.2.2.2.2.2.2.2.2.1, ()))), (y2.2.2.2.2.2.2.2.2.1, ())), (y2.2.2.2.2.1, ()))), ())))))

noncomputable def P_ref25_World_Do (x : (Int × S7x3 × Unit) × (S7x6 × S7x11 × Unit) × Unit) : Option (S7x12 × (S7x6 × S7x11 × Unit) × Unit) :=
  obind (P_ref11_Table_Birth ((x.1.1, ()), ((x.2.1.2.1.1, (x.2.1.2.1.2.1, ())), ()))) (fun y1 => sel (nt (eqI y1.1.2.1 0))
  (some ((((3 : Int), ((0 : Int), (([] : List (UInt8)), (([] : List Sb), ())))), ()), (((((x.2.1.1.1.1.1, (x.2.1.1.1.1.2.1, (x.2.1.1.1.1.2.2.1, ()))), (x.2.1.1.1.2.1, ())), (((x.2.1.1.2.1.1.1, (x.2.1.1.2.1.1.2.1, (x.2.1.1.2.1.1.2.2.1, ()))), (x.2.1.1.2.1.2.1, ())), (x.2.1.1.2.2.1, ()))), ((y1.2.1.1, (y1.2.1.2.1, ())), ())), ())))
  (sel (eqI x.1.2.1.1 15)
  (obind (P_ref11_Table_Alive ((x.1.2.1.2.2.2.2.2.2.2.1, (x.1.2.1.2.2.2.2.2.2.2.2.1, ())), ((y1.2.1.1, (y1.2.1.2.1, ())), ()))) (fun y2 => sel y2.1.1
  (some ((((0 : Int), ((1 : Int), (([] : List (UInt8)), (([] : List Sb), ())))), ()), (((((x.2.1.1.1.1.1, (x.2.1.1.1.1.2.1, (x.2.1.1.1.1.2.2.1, ()))), (x.2.1.1.1.2.1, ())), (((x.2.1.1.2.1.1.1, (x.2.1.1.2.1.1.2.1, (x.2.1.1.2.1.1.2.2.1, ()))), (x.2.1.1.2.1.2.1, ())), (x.2.1.1.2.2.1, ()))), ((y2.2.1.1, (y2.2.1.2.1, ())), ())), ())))
  (some ((((0 : Int), ((0 : Int), (([] : List (UInt8)), (([] : List Sb), ())))), ()), (((((x.2.1.1.1.1.1, (x.2.1.1.1.1.2.1, (x.2.1.1.1.1.2.2.1, ()))), (x.2.1.1.1.2.1, ())), (((x.2.1.1.2.1.1.1, (x.2.1.1.2.1.1.2.1, (x.2.1.1.2.1.1.2.2.1, ()))), (x.2.1.1.2.1.2.1, ())), (x.2.1.1.2.2.1, ()))), ((y2.2.1.1, (y2.2.1.2.1, ())), ())), ())))))
  (obind (P_ref10_Disk_Do ((y1.1.1, (x.1.2.1, ())), ((((x.2.1.1.1.1.1, (x.2.1.1.1.1.2.1, (x.2.1.1.1.1.2.2.1, ()))), (x.2.1.1.1.2.1, ())), (((x.2.1.1.2.1.1.1, (x.2.1.1.2.1.1.2.1, (x.2.1.1.2.1.1.2.2.1, ()))), (x.2.1.1.2.1.2.1, ())), (x.2.1.1.2.2.1, ()))), ()))) (fun y2 => some ((y2.1.1, ()), (((((y2.2.1.1.1.1, (y2.2.1.1.1.2.1, (y2.2.1.1.1.2.2.1, ()))), (y2.2.1.1.2.1, ())), (((y2.2.1.2.1.1.1, (y2.2.1.2.1.1.2.1, (y2.2.1.2.1.1.2.2.1, ()))), (y2.2.1.2.1.2.1, ())), (y2.2.1.2.2.1, ()))), ((y1.2.1.1, (y1.2.1.2.1, ())), ())), ()))))))

noncomputable def P_ref09_FS_node_L0 (x : (Int × Unit) × S7x1 × Unit) (y1 : (Int × Unit) × S7x0 × Unit) : Option (((Int × Unit) × S7x0 × Unit) ⊕ (Nat × (Int × Unit) × S7x0 × Unit)) :=
  sel (ltI y1.1.1 (len x.2.1.1.2.2.1))
  (sel (within y1.1.1 (len x.2.1.1.2.2.1))
  (obind (idx x.2.1.1.2.2.1 y1.1.1) (fun y2 => sel (eqI y2.1 x.1.1)
  (sel (within y1.1.1 (len x.2.1.1.2.2.1))
  (obind (idx x.2.1.1.2.2.1 y1.1.1) (fun y3 => some (Sum.inr (1, ((y1.1.1, ()), (y3, ()))))))
  none)
  (some (Sum.inl ((iadd IntKind.i64 y1.1.1 1, ()), (y1.2.1, ()))))))
  none)
  (some (Sum.inr (0, ((y1.1.1, ()), (y1.2.1, ())))))

noncomputable def P_ref09_FS_node (x : (Int × Unit) × S7x1 × Unit) : Option ((S7x0 × Unit) × S7x1 × Unit) :=
  obind (Loop (P_ref09_FS_node_L0 x) (((0 : Int), ()), (((0 : Int), (false, ((0 : Int), ((0 : Int), (([] : List (UInt8)), (([] : List S7x8), ())))))), ()))) (fun y1 => sel (eqN y1.1 0)
  (some ((((0 : Int), (false, ((0 : Int), ((0 : Int), (([] : List (UInt8)), (([] : List S7x8), ())))))), ()), (((x.2.1.1.1, (x.2.1.1.2.1, (x.2.1.1.2.2.1, ()))), (x.2.1.2.1, ())), ())))
  (some ((y1.2.2.1, ()), (((x.2.1.1.1, (x.2.1.1.2.1, (x.2.1.1.2.2.1, ()))), (x.2.1.2.1, ())), ()))))

noncomputable def F_ref09_FS_under_L0 (REC_ : S7x9 → Option S7x7) (x : (Int × Sb × Int × Unit) × S7x1 × Unit) (y1 : (S7x0 × Unit) × S7x1 × Unit) (y2 : S7x13 × (List S7x16) × S7x15 × S7x10 × (List S7x5) × (List S7x0) × Unit) : Option ((S7x13 × (List S7x16) × S7x15 × S7x10 × (List S7x5) × (List S7x0) × Unit) ⊕ (S7x13 × (List S7x16) × S7x15 × S7x10 × (List S7x5) × (List S7x0) × Unit)) :=
  way1 (sel (sel (ltI y2.1.2.1 (len y1.1.1.2.2.2.2.2.1))
  (ltI x.1.2.2.1 40)
  false)
  (obind (idx y1.1.1.2.2.2.2.2.1 y2.1.2.1) (fun y3 => obind (P_ref09_FS_node ((y3.2.1, ()), (((y2.2.2.2.1.1, (y2.2.2.2.1.2.1, (y2.2.2.2.2.2.1, ()))), (y2.2.2.2.2.1, ())), ()))) (fun y4 => obind (idx y1.1.1.2.2.2.2.2.1 y2.1.2.1) (fun y5 => obind (P_ref07_Join (x.1.2.1, (y5.1, ()))) (fun y6 => sel (fits (plus (len y2.2.1) (len ([(y6.1, (y4.1.1.2.1, (y4.1.1.2.2.2.2.1, ())))] : List S7x16))))
  (obind (REC_ ((y4.1.1.1, (y6.1, (iadd IntKind.i64 x.1.2.2.1 1, ()))), (((y4.2.1.1.1, (y4.2.1.1.2.1, (y4.2.1.1.2.2.1, ()))), (y4.2.1.2.1, ())), ()))) (fun y7 => sel (fits (plus (len (app y2.2.1 ([(y6.1, (y4.1.1.2.1, (y4.1.1.2.2.2.2.1, ())))] : List S7x16))) (len y7.1.1)))
  (some (Sum.inl (((), (iadd IntKind.i64 y2.1.2.1 1, ())), (app (app y2.2.1 ([(y6.1, (y4.1.1.2.1, (y4.1.1.2.2.2.2.1, ())))] : List S7x16)) y7.1.1, (((), ((), ())), ((y7.2.1.1.1, (y7.2.1.1.2.1, ((), ()))), (y7.2.1.2.1, (y7.2.1.1.2.2.1, ()))))))))
  none))
  none)))))
  (some (Sum.inr (0, (((), (y2.1.2.1, ())), (y2.2.1, (((), ((), y2.2.2.1.2.2)), ((y2.2.2.2.1.1, (y2.2.2.2.1.2.1, ((), y2.2.2.2.1.2.2.2))), (y2.2.2.2.2.1, (y2.2.2.2.2.2.1, ()))))))))))

noncomputable def F_ref09_FS_under (REC_ : S7x9 → Option S7x7) (x : (Int × Sb × Int × Unit) × S7x1 × Unit) : Option S7x7 :=
  obind (P_ref09_FS_node ((x.1.1, ()), (((x.2.1.1.1, (x.2.1.1.2.1, (x.2.1.1.2.2.1, ()))), (x.2.1.2.1, ())), ()))) (fun y1 => obind (Loop (F_ref09_FS_under_L0 REC_ x y1) (((), ((0 : Int), ())), (([] : List S7x16), (((), ((), ())), ((y1.2.1.1.1, (y1.2.1.1.2.1, ((), ()))), (y1.2.1.2.1, (y1.2.1.1.2.2.1, ()))))))) (fun y2 => some ((y2.2.1, ()), (((y2.2.2.2.1.1, (y2.2.2.2.1.2.1, (y2.2.2.2.2.2.1, ()))), (y2.2.2.2.2.1, ())), ()))))

noncomputable def S_ref09_FS_under : Nat → S7x9 → Option S7x7
  | 0, _ => none
  | k + 1, x => F_ref09_FS_under (S_ref09_FS_under k) x
noncomputable def P_ref09_FS_under (x : S7x9) : Option S7x7 := S_ref09_FS_under 64 x
theorem S_ref09_FS_under_zero (x : S7x9) : S_ref09_FS_under 0 x = none := rfl
theorem S_ref09_FS_under_step (k : Nat) (x : S7x9) (y) (h : S_ref09_FS_under (k + 1) x = some y) : F_ref09_FS_under (S_ref09_FS_under k) x = some y := h
theorem S_ref09_FS_under_all (x : S7x9) (y) (h : P_ref09_FS_under x = some y) : ∃ k, S_ref09_FS_under k x = some y := ⟨64, h⟩

noncomputable def P_ref09_FS_Files (x : Unit × S7x1 × Unit) : Option S7x7 :=
  obind (P_ref09_FS_under (((1 : Int), (([] : List (UInt8)), ((0 : Int), ()))), (((x.2.1.1.1, (x.2.1.1.2.1, (x.2.1.1.2.2.1, ()))), (x.2.1.2.1, ())), ()))) (fun y1 => some ((y1.1.1, ()), (((y1.2.1.1.1, (y1.2.1.1.2.1, (y1.2.1.1.2.2.1, ()))), (y1.2.1.2.1, ())), ())))

end Go.Ge

/- What the functions of layer 27.o compute, as plain programs (written by a program from what the ghost interpreter comes to). -/
namespace Go.Ge
set_option linter.unusedVariables false
set_option linter.unusedSectionVars false
variable [Lp]
set_option maxRecDepth 100000

abbrev S8x0 := ((Int × Int × (List (Int × Bool × Int × Int × Sb × (List (Sb × Int × Unit)) × Unit)) × Unit) × (List (Int × Int × Int × Unit)) × Unit)
abbrev S8x1 := (Int × Sb × Sb × Int × Int × Int × Sb × Int × Int × Unit)
abbrev S8x2 := (Int × Bool × Int × Int × Sb × (List (Sb × Int × Unit)) × Unit)
abbrev S8x3 := (Bool × (List (S8x1 × (Int × Int × Sb × (List Sb) × Unit) × Unit)) × Int × Bool × Bool × S8x1 × Unit)
abbrev S8x4 := ((S8x0 × S8x0 × (List (Int × Bool × S8x1 × Unit)) × Unit) × ((List (Int × Int × Unit)) × Int × Unit) × Unit)
abbrev S8x5 := ((Int × Unit) × (Unit × Unit × Unit) × (Int × Int × Unit × Unit) × (List (Int × Int × Int × Unit)) × (List S8x2) × Unit)
abbrev S8x6 := ((Bool × Int × Unit) × (Bool × Unit × Int × Bool × Bool × S8x1 × Unit) × (List (S8x1 × (Int × Int × Sb × (List Sb) × Unit) × Unit)) × (Unit × Unit × Unit) × (Unit × Unit × Unit × Unit) × (Unit × Int × Unit) × (Unit × Unit × Unit) × (Unit × Unit × Unit) × (List (Int × Bool × S8x1 × Unit)) × (List (Int × Int × Unit)) × (Int × Int × Unit × Unit) × (List (Int × Int × Int × Unit)) × (Int × Int × Unit × Unit) × (List (Int × Int × Int × Unit)) × (List S8x2) × (List S8x2) × Unit)
abbrev S8x7 := (Int × Int × Int × Unit)
abbrev S8x8 := (S8x0 × S8x0 × (List (Int × Bool × S8x1 × Unit)) × Unit)
abbrev S8x9 := (Int × Int × Unit × Unit)
abbrev S8x10 := (Int × Int × Unit)
abbrev S8x11 := (Unit × Unit × Unit)
abbrev S8x12 := (Int × Bool × S8x1 × Unit)
abbrev S8x13 := (S8x1 × (Int × Int × Sb × (List Sb) × Unit) × Unit)
noncomputable def P_digits_Dec (x : Int × Unit) : Option (Sb × Unit) :=
  obind (P_strconv_Itoa (x.1, ())) (fun y1 => some (y1.1, ()))

noncomputable def P_swap_Temp (x : Int × Int × Sb × Unit) : Option (Sb × Unit) :=
  obind (P_digits_Dec (x.1, ())) (fun y1 => sel (fits (plus (len ([116, 109, 112, 47] : List UInt8)) (len y1.1)))
  (sel (fits (plus (len (app ([116, 109, 112, 47] : List UInt8) y1.1)) (len ([46] : List UInt8))))
  (obind (P_digits_Dec (x.2.1, ())) (fun y2 => sel (fits (plus (len (app (app ([116, 109, 112, 47] : List UInt8) y1.1) ([46] : List UInt8))) (len y2.1)))
  (sel (fits (plus (len (app (app (app ([116, 109, 112, 47] : List UInt8) y1.1) ([46] : List UInt8)) y2.1)) (len ([46] : List UInt8))))
  (sel (fits (plus (len (app (app (app (app ([116, 109, 112, 47] : List UInt8) y1.1) ([46] : List UInt8)) y2.1) ([46] : List UInt8))) (len x.2.2.1)))
  (some (app (app (app (app (app ([116, 109, 112, 47] : List UInt8) y1.1) ([46] : List UInt8)) y2.1) ([46] : List UInt8)) x.2.2.1, ()))
  none)
  none)
  none))
  none)
  none)

noncomputable def P_slices_Index_api_Errno_api_Errno_L0 (x : (List (Int)) × Int × Unit) (y1 : S8x10 × Unit) : Option ((S8x10 × Unit) ⊕ (Nat × S8x10 × Unit)) :=
  sel (ltI y1.1.2.1 (len x.1))
  (obind (idx x.1 y1.1.2.1) (fun y2 => sel (eqI x.2.1 y2)
  (some (Sum.inr (1, ((y1.1.2.1, (y1.1.2.1, ())), ()))))
  (some (Sum.inl ((y1.1.1, (iadd IntKind.i64 y1.1.2.1 1, ())), ())))))
  (some (Sum.inr (0, ((y1.1.1, (y1.1.2.1, ())), ()))))

noncomputable def P_slices_Index_api_Errno_api_Errno (x : (List (Int)) × Int × Unit) : Option (Int × Unit) :=
  obind (Loop (P_slices_Index_api_Errno_api_Errno_L0 x) (((0 : Int), ((0 : Int), ())), ())) (fun y1 => sel (eqN y1.1 0)
  (some ((-1 : Int), ()))
  (some (y1.2.1.1, ())))

noncomputable def P_slices_Contains_api_Errno_api_Errno (x : (List (Int)) × Int × Unit) : Option (Bool × Unit) :=
  obind (P_slices_Index_api_Errno_api_Errno (x.1, (x.2.1, ()))) (fun y1 => some (leI 0 y1.1, ()))

noncomputable def P_swap_ask (x : (S8x1 × (List (Int)) × Unit) × S8x3 × Unit) : Option (((Int × Int × Sb × (List Sb) × Unit) × Int × Unit) × S8x3 × Unit) :=
  obind (P_steps_Run_Do ((x.1.1, ()), ((x.2.1.1, (x.2.1.2.1, (x.2.1.2.2.1, (x.2.1.2.2.2.1, (x.2.1.2.2.2.2.1, (x.2.1.2.2.2.2.2.1, ())))))), ()))) (fun y1 => obind (P_slices_Contains_api_Errno_api_Errno (x.1.2.1, (y1.1.1.1, ()))) (fun y2 => sel y2.1
  (some ((y1.1.1, ((0 : Int), ())), ((y1.2.1.1, (y1.2.1.2.1, (y1.2.1.2.2.1, (y1.2.1.2.2.2.1, (y1.2.1.2.2.2.2.1, (y1.2.1.2.2.2.2.2.1, ())))))), ())))
  (some ((y1.1.1, (y1.1.1.1, ())), ((y1.2.1.1, (y1.2.1.2.1, (y1.2.1.2.2.1, (y1.2.1.2.2.2.1, (y1.2.1.2.2.2.2.1, (y1.2.1.2.2.2.2.2.1, ())))))), ())))))

noncomputable def P_swap_waits (x : (S8x1 × Unit) × S8x3 × Unit) : Option ((Bool × Unit) × S8x3 × Unit) :=
  obind (P_swap_ask ((x.1.1, (([] : List (Int)), ())), ((x.2.1.1, (x.2.1.2.1, (x.2.1.2.2.1, (x.2.1.2.2.2.1, (x.2.1.2.2.2.2.1, (x.2.1.2.2.2.2.2.1, ())))))), ()))) (fun y1 => some ((eqI y1.1.2.1 14, ()), ((y1.2.1.1, (y1.2.1.2.1, (y1.2.1.2.2.1, (y1.2.1.2.2.2.1, (y1.2.1.2.2.2.2.1, (y1.2.1.2.2.2.2.2.1, ())))))), ())))

noncomputable def P_swap_undone (x : (Sb × Int × Unit) × S8x3 × Unit) : Option ((Int × Unit) × S8x3 × Unit) :=
  obind (P_swap_waits ((((11 : Int), (x.1.1, (([] : List (UInt8)), ((0 : Int), ((0 : Int), ((0 : Int), (([] : List (UInt8)), ((0 : Int), ((0 : Int), ()))))))))), ()), ((x.2.1.1, (x.2.1.2.1, (x.2.1.2.2.1, (x.2.1.2.2.2.1, (x.2.1.2.2.2.2.1, (x.2.1.2.2.2.2.2.1, ())))))), ()))) (fun y1 => sel y1.1.1
  (some (((14 : Int), ()), ((y1.2.1.1, (y1.2.1.2.1, (y1.2.1.2.2.1, (y1.2.1.2.2.2.1, (y1.2.1.2.2.2.2.1, (y1.2.1.2.2.2.2.2.1, ())))))), ())))
  (some ((x.1.2.1, ()), ((y1.2.1.1, (y1.2.1.2.1, (y1.2.1.2.2.1, (y1.2.1.2.2.2.1, (y1.2.1.2.2.2.2.1, (y1.2.1.2.2.2.2.2.1, ())))))), ()))))

noncomputable def P_swap_Write (x : (Sb × Sb × Unit) × S8x3 × Unit) : Option ((Int × Unit) × S8x3 × Unit) :=
  obind (P_swap_ask ((((3 : Int), (x.1.1, (([] : List (UInt8)), ((0 : Int), ((0 : Int), ((0 : Int), (([] : List (UInt8)), ((0 : Int), ((0 : Int), ()))))))))), (([] : List (Int)), ())), ((x.2.1.1, (x.2.1.2.1, (x.2.1.2.2.1, (x.2.1.2.2.2.1, (x.2.1.2.2.2.2.1, (x.2.1.2.2.2.2.2.1, ())))))), ()))) (fun y1 => sel (nt (eqI y1.1.2.1 0))
  (some ((y1.1.2.1, ()), ((y1.2.1.1, (y1.2.1.2.1, (y1.2.1.2.2.1, (y1.2.1.2.2.2.1, (y1.2.1.2.2.2.2.1, (y1.2.1.2.2.2.2.2.1, ())))))), ())))
  (obind (P_swap_ask ((((7 : Int), (([] : List (UInt8)), (([] : List (UInt8)), (y1.1.1.2.1, ((0 : Int), ((0 : Int), (x.1.2.1, ((0 : Int), ((0 : Int), ()))))))))), (([] : List (Int)), ())), ((y1.2.1.1, (y1.2.1.2.1, (y1.2.1.2.2.1, (y1.2.1.2.2.2.1, (y1.2.1.2.2.2.2.1, (y1.2.1.2.2.2.2.2.1, ())))))), ()))) (fun y2 => sel (nt (eqI y2.1.2.1 14))
  (obind (P_swap_waits ((((5 : Int), (([] : List (UInt8)), (([] : List (UInt8)), (y1.1.1.2.1, ((0 : Int), ((0 : Int), (([] : List (UInt8)), ((0 : Int), ((0 : Int), ()))))))))), ()), ((y2.2.1.1, (y2.2.1.2.1, (y2.2.1.2.2.1, (y2.2.1.2.2.2.1, (y2.2.1.2.2.2.2.1, (y2.2.1.2.2.2.2.2.1, ())))))), ()))) (fun y3 => sel y3.1.1
  (some (((14 : Int), ()), ((y3.2.1.1, (y3.2.1.2.1, (y3.2.1.2.2.1, (y3.2.1.2.2.2.1, (y3.2.1.2.2.2.2.1, (y3.2.1.2.2.2.2.2.1, ())))))), ())))
  (sel (nt (eqI y2.1.2.1 0))
  (obind (P_swap_undone ((x.1.1, (y2.1.2.1, ())), ((y3.2.1.1, (y3.2.1.2.1, (y3.2.1.2.2.1, (y3.2.1.2.2.2.1, (y3.2.1.2.2.2.2.1, (y3.2.1.2.2.2.2.2.1, ())))))), ()))) (fun y4 => some ((y4.1.1, ()), ((y4.2.1.1, (y4.2.1.2.1, (y4.2.1.2.2.1, (y4.2.1.2.2.2.1, (y4.2.1.2.2.2.2.1, (y4.2.1.2.2.2.2.2.1, ())))))), ()))))
  (some (((0 : Int), ()), ((y3.2.1.1, (y3.2.1.2.1, (y3.2.1.2.2.1, (y3.2.1.2.2.2.1, (y3.2.1.2.2.2.2.1, (y3.2.1.2.2.2.2.2.1, ())))))), ()))))))
  (some (((14 : Int), ()), ((y2.2.1.1, (y2.2.1.2.1, (y2.2.1.2.2.1, (y2.2.1.2.2.2.1, (y2.2.1.2.2.2.2.1, (y2.2.1.2.2.2.2.2.1, ())))))), ()))))))

noncomputable def P_swap_Put (x : (Sb × Sb × Sb × Unit) × S8x3 × Unit) : Option ((Int × Unit) × S8x3 × Unit) :=
  obind (P_swap_Write ((x.1.1, (x.1.2.2.1, ())), ((x.2.1.1, (x.2.1.2.1, (x.2.1.2.2.1, (x.2.1.2.2.2.1, (x.2.1.2.2.2.2.1, (x.2.1.2.2.2.2.2.1, ())))))), ()))) (fun y1 => sel (nt (eqI y1.1.1 0))
  (some ((y1.1.1, ()), ((y1.2.1.1, (y1.2.1.2.1, (y1.2.1.2.2.1, (y1.2.1.2.2.2.1, (y1.2.1.2.2.2.2.1, (y1.2.1.2.2.2.2.2.1, ())))))), ())))
  (obind (P_swap_waits ((((14 : Int), (([] : List (UInt8)), (([] : List (UInt8)), ((0 : Int), ((0 : Int), ((0 : Int), (([] : List (UInt8)), ((0 : Int), ((0 : Int), ()))))))))), ()), ((y1.2.1.1, (y1.2.1.2.1, (y1.2.1.2.2.1, (y1.2.1.2.2.2.1, (y1.2.1.2.2.2.2.1, (y1.2.1.2.2.2.2.2.1, ())))))), ()))) (fun y2 => sel y2.1.1
  (some (((14 : Int), ()), ((y2.2.1.1, (y2.2.1.2.1, (y2.2.1.2.2.1, (y2.2.1.2.2.2.1, (y2.2.1.2.2.2.2.1, (y2.2.1.2.2.2.2.2.1, ())))))), ())))
  (obind (P_swap_ask ((((12 : Int), (x.1.1, (x.1.2.1, ((0 : Int), ((0 : Int), ((0 : Int), (([] : List (UInt8)), ((0 : Int), ((0 : Int), ()))))))))), (([] : List (Int)), ())), ((y2.2.1.1, (y2.2.1.2.1, (y2.2.1.2.2.1, (y2.2.1.2.2.2.1, (y2.2.1.2.2.2.2.1, (y2.2.1.2.2.2.2.2.1, ())))))), ()))) (fun y3 => sel (eqI y3.1.2.1 14)
  (some ((y3.1.2.1, ()), ((y3.2.1.1, (y3.2.1.2.1, (y3.2.1.2.2.1, (y3.2.1.2.2.2.1, (y3.2.1.2.2.2.2.1, (y3.2.1.2.2.2.2.2.1, ())))))), ())))
  (sel (nt (eqI y3.1.2.1 0))
  (obind (P_swap_undone ((x.1.1, (y3.1.2.1, ())), ((y3.2.1.1, (y3.2.1.2.1, (y3.2.1.2.2.1, (y3.2.1.2.2.2.1, (y3.2.1.2.2.2.2.1, (y3.2.1.2.2.2.2.2.1, ())))))), ()))) (fun y4 => some ((y4.1.1, ()), ((y4.2.1.1, (y4.2.1.2.1, (y4.2.1.2.2.1, (y4.2.1.2.2.2.1, (y4.2.1.2.2.2.2.1, (y4.2.1.2.2.2.2.2.1, ())))))), ()))))
  (obind (P_swap_waits ((((14 : Int), (([] : List (UInt8)), (([] : List (UInt8)), ((0 : Int), ((0 : Int), ((0 : Int), (([] : List (UInt8)), ((0 : Int), ((0 : Int), ()))))))))), ()), ((y3.2.1.1, (y3.2.1.2.1, (y3.2.1.2.2.1, (y3.2.1.2.2.2.1, (y3.2.1.2.2.2.2.1, (y3.2.1.2.2.2.2.2.1, ())))))), ()))) (fun y4 => sel y4.1.1
  (some (((14 : Int), ()), ((y4.2.1.1, (y4.2.1.2.1, (y4.2.1.2.2.1, (y4.2.1.2.2.2.1, (y4.2.1.2.2.2.2.1, (y4.2.1.2.2.2.2.2.1, ())))))), ())))
  (some (((0 : Int), ()), ((y4.2.1.1, (y4.2.1.2.1, (y4.2.1.2.2.1, (y4.2.1.2.2.2.1, (y4.2.1.2.2.2.2.1, (y4.2.1.2.2.2.2.2.1, ())))))), ())))))))))))

noncomputable def P_law27_awake (x : Unit) : Option (Bool × Unit) :=
  obind (P_swap_Put ((([116, 109, 112, 47, 49, 46, 50, 46, 120] : List UInt8), (([102] : List UInt8), (([116, 101, 120, 116] : List UInt8), ()))), ((true, (([] : List S8x13), ((0 : Int), (false, (false, (((0 : Int), (([] : List (UInt8)), (([] : List (UInt8)), ((0 : Int), ((0 : Int), ((0 : Int), (([] : List (UInt8)), ((0 : Int), ((0 : Int), ()))))))))), ())))))), ()))) (fun y1 => obind (P_steps_Run_Want ((), ((y1.2.1.1, (y1.2.1.2.1, (y1.2.1.2.2.1, (y1.2.1.2.2.2.1, (y1.2.1.2.2.2.2.1, (y1.2.1.2.2.2.2.2.1, ())))))), ()))) (fun y2 => obind (P_steps_Run_Give ((((6 : Int), ((0 : Int), (([] : List (UInt8)), (([] : List Sb), ())))), ()), ((y2.2.1.1, (y2.2.1.2.1, (y2.2.1.2.2.1, (y2.2.1.2.2.2.1, (y2.2.1.2.2.2.2.1, (y2.2.1.2.2.2.2.2.1, ())))))), ()))) (fun y3 => obind (P_steps_Run_Begin ((), ((y3.2.1.1, (y3.2.1.2.1, (y3.2.1.2.2.1, (y3.2.1.2.2.2.1, (y3.2.1.2.2.2.2.1, (y3.2.1.2.2.2.2.2.1, ())))))), ()))) (fun y4 => obind (P_swap_Put ((([116, 109, 112, 47, 49, 46, 50, 46, 120] : List UInt8), (([102] : List UInt8), (([116, 101, 120, 116] : List UInt8), ()))), ((y4.2.1.1, (y4.2.1.2.1, (y4.2.1.2.2.1, (y4.2.1.2.2.2.1, (y4.2.1.2.2.2.2.1, (y4.2.1.2.2.2.2.2.1, ())))))), ()))) (fun y5 => obind (P_swap_Temp ((1 : Int), ((2 : Int), (([120] : List UInt8), ())))) (fun y6 => some (sel (sel (sel (sel (sel (eqS y6.1 ([116, 109, 112, 47, 49, 46, 50, 46, 120] : List UInt8))
  (eqI y1.1.1 14)
  false)
  y2.1.2.1
  false)
  (an (eqI y2.1.1.1 3) (an (eqS y2.1.1.2.1 ([116, 109, 112, 47, 49, 46, 50, 46, 120] : List UInt8)) (an (eqS y2.1.1.2.2.1 ([] : List (UInt8))) (an (eqI y2.1.1.2.2.2.1 0) (an (eqI y2.1.1.2.2.2.2.1 0) (an (eqI y2.1.1.2.2.2.2.2.1 0) (an (eqS y2.1.1.2.2.2.2.2.2.1 ([] : List (UInt8))) (an (eqI y2.1.1.2.2.2.2.2.2.2.1 0) (an (eqI y2.1.1.2.2.2.2.2.2.2.2.1 0) true)))))))))
  false)
  (eqI y3.1.1 0)
  false)
  (eqI y5.1.1 6)
  false, ())))))))

noncomputable def P_ref09_FS_Owners_L1 (x : Unit × S8x0 × Unit) (y1 : ((List (Int)) × Int × Unit) × Unit) (y2 : (Int × Unit) × Unit) : Option (((Int × Unit) × Unit) ⊕ ((Int × Unit) × Unit)) :=
  way1 (sel (ltI y2.1.1 (len y1.1.1))
  (obind (idx y1.1.1 y2.1.1) (fun y3 => sel (within y1.1.2.1 (len x.2.1.2.1))
  (obind (idx x.2.1.2.1 y1.1.2.1) (fun y4 => sel (ltI y3 y4.1)
  (some (Sum.inl ((iadd IntKind.i64 y2.1.1 1, ()), ())))
  (some (Sum.inr (0, ((y2.1.1, ()), ()))))))
  none))
  (some (Sum.inr (0, ((y2.1.1, ()), ())))))

noncomputable def P_ref09_FS_Owners_L0 (x : Unit × S8x0 × Unit) (y1 : ((List (Int)) × Int × Unit) × Unit) : Option ((((List (Int)) × Int × Unit) × Unit) ⊕ (((List (Int)) × Int × Unit) × Unit)) :=
  way1 (sel (ltI y1.1.2.1 (len x.2.1.2.1))
  (obind (Loop (P_ref09_FS_Owners_L1 x y1) (((0 : Int), ()), ())) (fun y2 => sel (ltI y2.1.1 (len y1.1.1))
  (obind (idx y1.1.1 y2.1.1) (fun y3 => sel (within y1.1.2.1 (len x.2.1.2.1))
  (obind (idx x.2.1.2.1 y1.1.2.1) (fun y4 => sel (eqI y3 y4.1)
  (some (Sum.inl ((y1.1.1, (iadd IntKind.i64 y1.1.2.1 1, ())), ())))
  (sel (inside 0 y2.1.1 (len y1.1.1))
  (sel (fits (plus (len ([] : List (Int))) (len (sub y1.1.1 (0 : Int) (minus y2.1.1 0)))))
  (sel (within y1.1.2.1 (len x.2.1.2.1))
  (obind (idx x.2.1.2.1 y1.1.2.1) (fun y5 => sel (fits (plus (len (app ([] : List (Int)) (sub y1.1.1 (0 : Int) (minus y2.1.1 0)))) (len ([y5.1] : List (Int)))))
  (sel (inside y2.1.1 (len y1.1.1) (len y1.1.1))
  (sel (fits (plus (len (app (app ([] : List (Int)) (sub y1.1.1 (0 : Int) (minus y2.1.1 0))) ([y5.1] : List (Int)))) (len (sub y1.1.1 y2.1.1 (minus (len y1.1.1) y2.1.1)))))
  (some (Sum.inl ((app (app (app ([] : List (Int)) (sub y1.1.1 (0 : Int) (minus y2.1.1 0))) ([y5.1] : List (Int))) (sub y1.1.1 y2.1.1 (minus (len y1.1.1) y2.1.1)), (iadd IntKind.i64 y1.1.2.1 1, ())), ())))
  none)
  none)
  none))
  none)
  none)
  none)))
  none))
  (sel (inside 0 y2.1.1 (len y1.1.1))
  (sel (fits (plus (len ([] : List (Int))) (len (sub y1.1.1 (0 : Int) (minus y2.1.1 0)))))
  (sel (within y1.1.2.1 (len x.2.1.2.1))
  (obind (idx x.2.1.2.1 y1.1.2.1) (fun y3 => sel (fits (plus (len (app ([] : List (Int)) (sub y1.1.1 (0 : Int) (minus y2.1.1 0)))) (len ([y3.1] : List (Int)))))
  (sel (inside y2.1.1 (len y1.1.1) (len y1.1.1))
  (sel (fits (plus (len (app (app ([] : List (Int)) (sub y1.1.1 (0 : Int) (minus y2.1.1 0))) ([y3.1] : List (Int)))) (len (sub y1.1.1 y2.1.1 (minus (len y1.1.1) y2.1.1)))))
  (some (Sum.inl ((app (app (app ([] : List (Int)) (sub y1.1.1 (0 : Int) (minus y2.1.1 0))) ([y3.1] : List (Int))) (sub y1.1.1 y2.1.1 (minus (len y1.1.1) y2.1.1)), (iadd IntKind.i64 y1.1.2.1 1, ())), ())))
  none)
  none)
  none))
  none)
  none)
  none)))
  (some (Sum.inr (0, ((y1.1.1, (y1.1.2.1, ())), ())))))

noncomputable def P_ref09_FS_Owners (x : Unit × S8x0 × Unit) : Option (((List (Int)) × Unit) × S8x0 × Unit) :=
  obind (Loop (P_ref09_FS_Owners_L0 x) ((([] : List (Int)), ((0 : Int), ())), ())) (fun y1 => some ((y1.1.1, ()), (((x.2.1.1.1, (x.2.1.1.2.1, (x.2.1.1.2.2.1, ()))), (x.2.1.2.1, ())), ())))

noncomputable def P_ref09_FS_Exit (x : (Int × Unit) × S8x0 × Unit) : Option (Unit × S8x0 × Unit) :=
  obind (P_ref09_FS_closes ((x.1.1, ((0 : Int), ())), (((x.2.1.1.1, (x.2.1.1.2.1, (x.2.1.1.2.2.1, ()))), (x.2.1.2.1, ())), ()))) (fun y1 => some ((), (((y1.2.1.1.1, (y1.2.1.1.2.1, (y1.2.1.1.2.2.1, ()))), (y1.2.1.2.1, ())), ())))

noncomputable def P_ref10_Disk_Exit_L0 (x : (Int × Unit) × S8x8 × Unit) (y1 : ((List (Int)) × Unit) × S8x0 × Unit) (y2 : (Int × Unit) × (Unit × Unit × Unit × Unit) × S8x11 × S8x11 × (List S8x12) × S8x9 × (List S8x7) × S8x9 × (List S8x7) × (List S8x2) × (List S8x2) × Unit) : Option (((Int × Unit) × (Unit × Unit × Unit × Unit) × S8x11 × S8x11 × (List S8x12) × S8x9 × (List S8x7) × S8x9 × (List S8x7) × (List S8x2) × (List S8x2) × Unit) ⊕ (Nat × (Int × Unit) × (Unit × Unit × Unit × Unit) × S8x11 × S8x11 × (List S8x12) × S8x9 × (List S8x7) × S8x9 × (List S8x7) × (List S8x2) × (List S8x2) × Unit)) :=
  sel (ltI y2.1.1 (len y1.1.1))
  (obind (idx y1.1.1 y2.1.1) (fun y3 => sel (eqI y3 x.1.1)
  (obind (P_ref09_FS_Exit ((x.1.1, ()), (((y2.2.2.2.2.2.1.1, (y2.2.2.2.2.2.1.2.1, (y2.2.2.2.2.2.2.2.2.2.1, ()))), (y2.2.2.2.2.2.2.1, ())), ()))) (fun y4 => sel (fits (plus (len y2.2.2.2.2.1) (len ([(x.1.1, (true, (((0 : Int), (([] : List (UInt8)), (([] : List (UInt8)), ((0 : Int), ((0 : Int), ((0 : Int), (([] : List (UInt8)), ((0 : Int), ((0 : Int), ()))))))))), ())))] : List S8x12))))
  (some (Sum.inr (1, ((y2.1.1, ()), (((), ((), ((), y2.2.1.2.2.2))), (((), ((), ())), (((), ((), y2.2.2.2.1.2.2)), (app y2.2.2.2.2.1 ([(x.1.1, (true, (((0 : Int), (([] : List (UInt8)), (([] : List (UInt8)), ((0 : Int), ((0 : Int), ((0 : Int), (([] : List (UInt8)), ((0 : Int), ((0 : Int), ()))))))))), ())))] : List S8x12), ((y4.2.1.1.1, (y4.2.1.1.2.1, ((), ()))), (y4.2.1.2.1, ((y2.2.2.2.2.2.2.2.1.1, (y2.2.2.2.2.2.2.2.1.2.1, ((), y2.2.2.2.2.2.2.2.1.2.2.2))), (y2.2.2.2.2.2.2.2.2.1, (y4.2.1.1.2.2.1, (y2.2.2.2.2.2.2.2.2.2.2.1, ()))))))))))))))
  none))
  (some (Sum.inl ((iadd IntKind.i64 y2.1.1 1, ()), (((), ((), ((), y2.2.1.2.2.2))), (((), ((), y2.2.2.1.2.2)), (((), ((), y2.2.2.2.1.2.2)), (y2.2.2.2.2.1, ((y2.2.2.2.2.2.1.1, (y2.2.2.2.2.2.1.2.1, ((), y2.2.2.2.2.2.1.2.2.2))), (y2.2.2.2.2.2.2.1, ((y2.2.2.2.2.2.2.2.1.1, (y2.2.2.2.2.2.2.2.1.2.1, ((), y2.2.2.2.2.2.2.2.1.2.2.2))), (y2.2.2.2.2.2.2.2.2.1, (y2.2.2.2.2.2.2.2.2.2.1, (y2.2.2.2.2.2.2.2.2.2.2.1, ())))))))))))))))
  (some (Sum.inr (0, ((y2.1.1, ()), (((), ((), ((), y2.2.1.2.2.2))), (((), ((), y2.2.2.1.2.2)), (((), ((), y2.2.2.2.1.2.2)), (y2.2.2.2.2.1, ((y2.2.2.2.2.2.1.1, (y2.2.2.2.2.2.1.2.1, ((), y2.2.2.2.2.2.1.2.2.2))), (y2.2.2.2.2.2.2.1, ((y2.2.2.2.2.2.2.2.1.1, (y2.2.2.2.2.2.2.2.1.2.1, ((), y2.2.2.2.2.2.2.2.1.2.2.2))), (y2.2.2.2.2.2.2.2.2.1, (y2.2.2.2.2.2.2.2.2.2.1, (y2.2.2.2.2.2.2.2.2.2.2.1, ()))))))))))))))

noncomputable def P_ref10_Disk_Exit (x : (Int × Unit) × S8x8 × Unit) : Option (Unit × S8x8 × Unit) :=
  obind (P_ref09_FS_Owners ((), (((x.2.1.1.1.1, (x.2.1.1.1.2.1, (x.2.1.1.1.2.2.1, ()))), (x.2.1.1.2.1, ())), ()))) (fun y1 => obind (Loop (P_ref10_Disk_Exit_L0 x y1) (((0 : Int), ()), (((), ((), ((), ()))), (((), ((), ())), (((), ((), ())), (x.2.1.2.2.1, ((y1.2.1.1.1, (y1.2.1.1.2.1, ((), ()))), (y1.2.1.2.1, ((x.2.1.2.1.1.1, (x.2.1.2.1.1.2.1, ((), ()))), (x.2.1.2.1.2.1, (y1.2.1.1.2.2.1, (x.2.1.2.1.1.2.2.1, ())))))))))))) (fun y2 => sel (eqN y2.1 0)
  (some ((), ((((y2.2.2.2.2.2.2.1.1, (y2.2.2.2.2.2.2.1.2.1, (y2.2.2.2.2.2.2.2.2.2.2.1, ()))), (y2.2.2.2.2.2.2.2.1, ())), (((y2.2.2.2.2.2.2.2.2.1.1, (y2.2.2.2.2.2.2.2.2.1.2.1, (y2.2.2.2.2.2.2.2.2.2.2.2.1, ()))), (y2.2.2.2.2.2.2.2.2.2.1, ())), (y2.2.2.2.2.2.1, ()))), ())))
  (some ((), ((((y2.2.2.2.2.2.2.1.1, (y2.2.2.2.2.2.2.1.2.1, (y2.2.2.2.2.2.2.2.2.2.2.1, ()))), (y2.2.2.2.2.2.2.2.1, ())), (((y2.2.2.2.2.2.2.2.2.1.1, (y2.2.2.2.2.2.2.2.2.1.2.1, (y2.2.2.2.2.2.2.2.2.2.2.2.1, ()))), (y2.2.2.2.2.2.2.2.2.2.1, ())), (y2.2.2.2.2.2.1, ()))), ())))))

noncomputable def P_ref11_Table_Kill_L0 (x : (Int × Unit) × ((List S8x10) × Int × Unit) × Unit) (y1 : (Unit × Int × Unit) × (List S8x10) × Unit) : Option (((Unit × Int × Unit) × (List S8x10) × Unit) ⊕ ((Unit × Int × Unit) × (List S8x10) × Unit)) :=
  way1 (sel (ltI y1.1.2.1 (len x.2.1.1))
  (sel (within y1.1.2.1 (len x.2.1.1))
  (obind (idx x.2.1.1 y1.1.2.1) (fun y2 => obind (sel (nt (eqI y2.1 x.1.1))
  (sel (within y1.1.2.1 (len x.2.1.1))
  (obind (idx x.2.1.1 y1.1.2.1) (fun y3 => sel (fits (plus (len y1.2.1) (len ([y3] : List S8x10))))
  (some (((), ()), (app y1.2.1 ([y3] : List S8x10), ())))
  none))
  none)
  (some (((), ()), (y1.2.1, ())))) (fun y3 => some (Sum.inl (((), (iadd IntKind.i64 y1.1.2.1 1, ())), (y3.2.1, ()))))))
  none)
  (some (Sum.inr (0, (((), (y1.1.2.1, ())), (y1.2.1, ()))))))

noncomputable def P_ref11_Table_Kill (x : (Int × Unit) × ((List S8x10) × Int × Unit) × Unit) : Option ((Int × Unit) × ((List S8x10) × Int × Unit) × Unit) :=
  obind (Loop (P_ref11_Table_Kill_L0 x) (((), ((0 : Int), ())), (([] : List S8x10), ()))) (fun y1 => sel (eqI (len y1.2.1) (len x.2.1.1))
  (some (((3 : Int), ()), ((x.2.1.1, (x.2.1.2.1, ())), ())))
  (some (((0 : Int), ()), ((y1.2.1, (x.2.1.2.1, ())), ()))))

noncomputable def P_ref25_World_Kill (x : (Int × Unit) × S8x4 × Unit) : Option ((Int × Unit) × S8x4 × Unit) :=
  obind (P_ref11_Table_Birth ((x.1.1, ()), ((x.2.1.2.1.1, (x.2.1.2.1.2.1, ())), ()))) (fun y1 => sel (nt (eqI y1.1.2.1 0))
  (some ((y1.1.2.1, ()), (((((x.2.1.1.1.1.1, (x.2.1.1.1.1.2.1, (x.2.1.1.1.1.2.2.1, ()))), (x.2.1.1.1.2.1, ())), (((x.2.1.1.2.1.1.1, (x.2.1.1.2.1.1.2.1, (x.2.1.1.2.1.1.2.2.1, ()))), (x.2.1.1.2.1.2.1, ())), (x.2.1.1.2.2.1, ()))), ((y1.2.1.1, (y1.2.1.2.1, ())), ())), ())))
  (obind (P_ref10_Disk_Exit ((y1.1.1, ()), ((((x.2.1.1.1.1.1, (x.2.1.1.1.1.2.1, (x.2.1.1.1.1.2.2.1, ()))), (x.2.1.1.1.2.1, ())), (((x.2.1.1.2.1.1.1, (x.2.1.1.2.1.1.2.1, (x.2.1.1.2.1.1.2.2.1, ()))), (x.2.1.1.2.1.2.1, ())), (x.2.1.1.2.2.1, ()))), ()))) (fun y2 => obind (P_ref11_Table_Kill ((x.1.1, ()), ((y1.2.1.1, (y1.2.1.2.1, ())), ()))) (fun y3 => some ((y3.1.1, ()), (((((y2.2.1.1.1.1, (y2.2.1.1.1.2.1, (y2.2.1.1.1.2.2.1, ()))), (y2.2.1.1.2.1, ())), (((y2.2.1.2.1.1.1, (y2.2.1.2.1.1.2.1, (y2.2.1.2.1.1.2.2.1, ()))), (y2.2.1.2.1.2.1, ())), (y2.2.1.2.2.1, ()))), ((y3.2.1.1, (y3.2.1.2.1, ())), ())), ()))))))

noncomputable def P_ref10_Disk_Cut_L0 (x : (Int × Unit) × S8x8 × Unit) (y1 : (Int × Unit) × S8x11 × S8x9 × (List S8x7) × (List S8x2) × Unit) : Option (S8x5 ⊕ S8x5) :=
  way1 (sel (sel (ltI y1.1.1 (len x.2.1.2.2.1))
  (ltI y1.1.1 x.1.1)
  false)
  (sel (within y1.1.1 (len x.2.1.2.2.1))
  (obind (idx x.2.1.2.2.1 y1.1.1) (fun y2 => obind (sel y2.2.1
  (sel (within y1.1.1 (len x.2.1.2.2.1))
  (obind (idx x.2.1.2.2.1 y1.1.1) (fun y3 => obind (P_ref09_FS_Exit ((y3.1, ()), (((y1.2.2.1.1, (y1.2.2.1.2.1, (y1.2.2.2.2.1, ()))), (y1.2.2.2.1, ())), ()))) (fun y4 => some ((), (((), ((), ())), ((y4.2.1.1.1, (y4.2.1.1.2.1, ((), ()))), (y4.2.1.2.1, (y4.2.1.1.2.2.1, ()))))))))
  none)
  (sel (within y1.1.1 (len x.2.1.2.2.1))
  (obind (idx x.2.1.2.2.1 y1.1.1) (fun y3 => sel (within y1.1.1 (len x.2.1.2.2.1))
  (obind (idx x.2.1.2.2.1 y1.1.1) (fun y4 => obind (P_ref09_FS_Do ((y3.1, (y4.2.2.1, ())), (((y1.2.2.1.1, (y1.2.2.1.2.1, (y1.2.2.2.2.1, ()))), (y1.2.2.2.1, ())), ()))) (fun y5 => some ((), (((), ((), ())), ((y5.2.1.1.1, (y5.2.1.1.2.1, ((), ()))), (y5.2.1.2.1, (y5.2.1.1.2.2.1, ()))))))))
  none))
  none)) (fun y3 => some (Sum.inl ((iadd IntKind.i64 y1.1.1 1, ()), (((), ((), y3.2.1.2.2)), ((y3.2.2.1.1, (y3.2.2.1.2.1, ((), y3.2.2.1.2.2.2))), (y3.2.2.2.1, (y3.2.2.2.2.1, ())))))))))
  none)
  (some (Sum.inr (0, ((y1.1.1, ()), (((), ((), y1.2.1.2.2)), ((y1.2.2.1.1, (y1.2.2.1.2.1, ((), y1.2.2.1.2.2.2))), (y1.2.2.2.1, (y1.2.2.2.2.1, ())))))))))

noncomputable def P_ref10_Disk_Cut_L1 (y2 : ((List (Int)) × Unit) × S8x0 × Unit) (y3 : (Int × Unit) × S8x11 × S8x9 × (List S8x7) × (List S8x2) × Unit) : Option (S8x5 ⊕ S8x5) :=
  way1 (sel (ltI y3.1.1 (len y2.1.1))
  (obind (idx y2.1.1 y3.1.1) (fun y4 => obind (P_ref09_FS_Exit ((y4, ()), (((y3.2.2.1.1, (y3.2.2.1.2.1, (y3.2.2.2.2.1, ()))), (y3.2.2.2.1, ())), ()))) (fun y5 => some (Sum.inl ((iadd IntKind.i64 y3.1.1 1, ()), (((), ((), ())), ((y5.2.1.1.1, (y5.2.1.1.2.1, ((), ()))), (y5.2.1.2.1, (y5.2.1.1.2.2.1, ())))))))))
  (some (Sum.inr (0, ((y3.1.1, ()), (((), ((), y3.2.1.2.2)), ((y3.2.2.1.1, (y3.2.2.1.2.1, ((), y3.2.2.1.2.2.2))), (y3.2.2.2.1, (y3.2.2.2.2.1, ())))))))))

noncomputable def P_ref10_Disk_Cut_L2 (y4 : ((List (Sb × Bool × Sb × Unit)) × Unit) × S8x0 × Unit) (y5 : (Int × Unit) × S8x11 × S8x9 × (List S8x7) × (List S8x2) × Unit) : Option (S8x5 ⊕ S8x5) :=
  way1 (sel (leI 0 y5.1.1)
  (obind (idx y4.1.1 y5.1.1) (fun y6 => obind (P_ref07_Under (y6.1, (([114, 117, 110] : List UInt8), ()))) (fun y7 => sel (nt y7.1)
  (some (Sum.inl ((isub IntKind.i64 y5.1.1 1, ()), (((), ((), y5.2.1.2.2)), ((y5.2.2.1.1, (y5.2.2.1.2.1, ((), y5.2.2.1.2.2.2))), (y5.2.2.2.1, (y5.2.2.2.2.1, ())))))))
  (obind (idx y4.1.1 y5.1.1) (fun y8 => obind (idx y4.1.1 y5.1.1) (fun y9 => obind (P_ref09_FS_Do (((0 : Int), ((((sel y8.2.1
  (((2 : Int), ()), ())
  (((11 : Int), ()), ())).1).1, (y9.1, (([] : List (UInt8)), ((0 : Int), ((0 : Int), ((0 : Int), (([] : List (UInt8)), ((0 : Int), ((0 : Int), ()))))))))), ())), (((y5.2.2.1.1, (y5.2.2.1.2.1, (y5.2.2.2.2.1, ()))), (y5.2.2.2.1, ())), ()))) (fun y10 => some (Sum.inl ((isub IntKind.i64 y5.1.1 1, ()), (((), ((), ())), ((y10.2.1.1.1, (y10.2.1.1.2.1, ((), ()))), (y10.2.1.2.1, (y10.2.1.1.2.2.1, ())))))))))))))
  (some (Sum.inr (0, ((y5.1.1, ()), (((), ((), y5.2.1.2.2)), ((y5.2.2.1.1, (y5.2.2.1.2.1, ((), y5.2.2.1.2.2.2))), (y5.2.2.2.1, (y5.2.2.2.2.1, ())))))))))

noncomputable def P_ref10_Disk_Cut (x : (Int × Unit) × S8x8 × Unit) : Option (Unit × S8x8 × Unit) :=
  sel (fits (plus (len ([] : List S8x7)) (len x.2.1.2.1.2.1)))
  (sel (fits (plus (len ([] : List S8x2)) (len x.2.1.2.1.1.2.2.1)))
  (obind (Loop (P_ref10_Disk_Cut_L0 x) (((0 : Int), ()), (((), ((), ())), ((x.2.1.2.1.1.1, (x.2.1.2.1.1.2.1, ((), ()))), (app ([] : List S8x7) x.2.1.2.1.2.1, (app ([] : List S8x2) x.2.1.2.1.1.2.2.1, ())))))) (fun y1 => obind (P_ref09_FS_Owners ((), (((y1.2.2.1.1, (y1.2.2.1.2.1, (y1.2.2.2.2.1, ()))), (y1.2.2.2.1, ())), ()))) (fun y2 => obind (Loop (P_ref10_Disk_Cut_L1 y2) (((0 : Int), ()), (((), ((), ())), ((y2.2.1.1.1, (y2.2.1.1.2.1, ((), ()))), (y2.2.1.2.1, (y2.2.1.1.2.2.1, ())))))) (fun y3 => obind (P_ref09_FS_Files ((), (((y3.2.2.1.1, (y3.2.2.1.2.1, (y3.2.2.2.2.1, ()))), (y3.2.2.2.1, ())), ()))) (fun y4 => obind (Loop (P_ref10_Disk_Cut_L2 y4) ((isub IntKind.i64 (len y4.1.1) 1, ()), (((), ((), ())), ((y4.2.1.1.1, (y4.2.1.1.2.1, ((), ()))), (y4.2.1.2.1, (y4.2.1.1.2.2.1, ())))))) (fun y5 => obind (P_ref10_Disk_sync ((), ((((y5.2.2.1.1, (y5.2.2.1.2.1, (y5.2.2.2.2.1, ()))), (y5.2.2.2.1, ())), (((x.2.1.2.1.1.1, (x.2.1.2.1.1.2.1, (x.2.1.2.1.1.2.2.1, ()))), (x.2.1.2.1.2.1, ())), (x.2.1.2.2.1, ()))), ()))) (fun y6 => some ((), ((((y6.2.1.1.1.1, (y6.2.1.1.1.2.1, (y6.2.1.1.1.2.2.1, ()))), (y6.2.1.1.2.1, ())), (((y6.2.1.2.1.1.1, (y6.2.1.2.1.1.2.1, (y6.2.1.2.1.1.2.2.1, ()))), (y6.2.1.2.1.2.1, ())), (y6.2.1.2.2.1, ()))), ())))))))))
  none)
  none

noncomputable def P_ref25_World_Power (x : (Int × Unit) × S8x4 × Unit) : Option (Unit × S8x4 × Unit) :=
  obind (P_ref10_Disk_Cut ((x.1.1, ()), ((((x.2.1.1.1.1.1, (x.2.1.1.1.1.2.1, (x.2.1.1.1.1.2.2.1, ()))), (x.2.1.1.1.2.1, ())), (((x.2.1.1.2.1.1.1, (x.2.1.1.2.1.1.2.1, (x.2.1.1.2.1.1.2.2.1, ()))), (x.2.1.1.2.1.2.1, ())), (x.2.1.1.2.2.1, ()))), ()))) (fun y1 => some ((), (((((y1.2.1.1.1.1, (y1.2.1.1.1.2.1, (y1.2.1.1.1.2.2.1, ()))), (y1.2.1.1.2.1, ())), (((y1.2.1.2.1.1.1, (y1.2.1.2.1.1.2.1, (y1.2.1.2.1.1.2.2.1, ()))), (y1.2.1.2.1.2.1, ())), (y1.2.1.2.2.1, ()))), ((([] : List S8x10), (x.2.1.2.1.2.1, ())), ())), ())))

noncomputable def P_law27_has_L0 (x : (Sb × Unit) × S8x4 × Unit) (y1 : ((List (Sb × Bool × Sb × Unit)) × Unit) × S8x0 × Unit) (y2 : (Sb × Bool × Int × Unit) × Unit) : Option (((Sb × Bool × Int × Unit) × Unit) ⊕ (Nat × (Sb × Bool × Int × Unit) × Unit)) :=
  sel (ltI y2.1.2.2.1 (len y1.1.1))
  (obind (idx y1.1.1 y2.1.2.2.1) (fun y3 => sel (eqS y3.1 x.1.1)
  (obind (idx y1.1.1 y2.1.2.2.1) (fun y4 => some (Sum.inr (1, ((y4.2.2.1, (true, (y2.1.2.2.1, ()))), ())))))
  (some (Sum.inl ((y2.1.1, (y2.1.2.1, (iadd IntKind.i64 y2.1.2.2.1 1, ()))), ())))))
  (some (Sum.inr (0, ((y2.1.1, (y2.1.2.1, (y2.1.2.2.1, ()))), ()))))

noncomputable def P_law27_has (x : (Sb × Unit) × S8x4 × Unit) : Option ((Sb × Bool × Unit) × S8x4 × Unit) :=
  obind (P_ref09_FS_Files ((), (((x.2.1.1.1.1.1, (x.2.1.1.1.1.2.1, (x.2.1.1.1.1.2.2.1, ()))), (x.2.1.1.1.2.1, ())), ()))) (fun y1 => obind (Loop (P_law27_has_L0 x y1) ((([] : List (UInt8)), (false, ((0 : Int), ()))), ())) (fun y2 => sel (eqN y2.1 0)
  (some ((([] : List (UInt8)), (false, ())), (((((y1.2.1.1.1, (y1.2.1.1.2.1, (y1.2.1.1.2.2.1, ()))), (y1.2.1.2.1, ())), (((x.2.1.1.2.1.1.1, (x.2.1.1.2.1.1.2.1, (x.2.1.1.2.1.1.2.2.1, ()))), (x.2.1.1.2.1.2.1, ())), (x.2.1.1.2.2.1, ()))), ((x.2.1.2.1.1, (x.2.1.2.1.2.1, ())), ())), ())))
  (some ((y2.2.1.1, (y2.2.1.2.1, ())), (((((y1.2.1.1.1, (y1.2.1.1.2.1, (y1.2.1.1.2.2.1, ()))), (y1.2.1.2.1, ())), (((x.2.1.1.2.1.1.1, (x.2.1.1.2.1.1.2.1, (x.2.1.1.2.1.1.2.2.1, ()))), (x.2.1.1.2.1.2.1, ())), (x.2.1.1.2.2.1, ()))), ((x.2.1.2.1.1, (x.2.1.2.1.2.1, ())), ())), ())))))

noncomputable def P_law27_SwapWhole_L0 (x : Sb × Sb × (List (Int)) × Unit) (y6 : (Bool × Int × Unit) × (Bool × Unit × Int × Bool × Bool × S8x1 × Unit) × (List S8x13) × S8x11 × (Unit × Unit × Unit × Unit) × (Unit × Int × Unit) × S8x11 × S8x11 × (List S8x12) × (List S8x10) × S8x9 × (List S8x7) × S8x9 × (List S8x7) × (List S8x2) × (List S8x2) × Unit) : Option (S8x6 ⊕ S8x6) :=
  way1 (sel (within 0 2)
  (obind (idx x.2.2.1 (0 : Int)) (fun y7 => sel (sel (ltI y6.1.2.1 (iand IntKind.i64 y7 15))
  (nt y6.1.1)
  false)
  (obind (P_steps_Run_Begin ((), ((y6.2.1.1, (y6.2.2.1, (y6.2.1.2.2.1, (y6.2.1.2.2.2.1, (y6.2.1.2.2.2.2.1, (y6.2.1.2.2.2.2.2.1, ())))))), ()))) (fun y8 => obind (P_swap_Put ((([116, 109, 112, 47, 49, 46, 49, 46, 120] : List UInt8), (([102] : List UInt8), (x.2.1, ()))), ((y8.2.1.1, (y8.2.1.2.1, (y8.2.1.2.2.1, (y8.2.1.2.2.2.1, (y8.2.1.2.2.2.2.1, (y8.2.1.2.2.2.2.2.1, ())))))), ()))) (fun y9 => obind (P_steps_Run_Want ((), ((y9.2.1.1, (y9.2.1.2.1, (y9.2.1.2.2.1, (y9.2.1.2.2.2.1, (y9.2.1.2.2.2.2.1, (y9.2.1.2.2.2.2.2.1, ())))))), ()))) (fun y10 => sel (sel (nt (sel (nt (eqI y9.1.1 0))
  (nt y10.1.2.1)
  true))
  (nt (eqI y9.1.1 14))
  true)
  (some (Sum.inr (0, ((eqI y9.1.1 0, (y6.1.2.1, ())), ((y10.2.1.1, ((), (y10.2.1.2.2.1, (y10.2.1.2.2.2.1, (y10.2.1.2.2.2.2.1, (y10.2.1.2.2.2.2.2.1, ())))))), (y10.2.1.2.1, (((), ((), y6.2.2.2.1.2.2)), (((), ((), ((), y6.2.2.2.2.1.2.2.2))), (((), (y6.2.2.2.2.2.1.2.1, y6.2.2.2.2.2.1.2.2)), (((), ((), y6.2.2.2.2.2.2.1.2.2)), (((), ((), y6.2.2.2.2.2.2.2.1.2.2)), (y6.2.2.2.2.2.2.2.2.1, (y6.2.2.2.2.2.2.2.2.2.1, ((y6.2.2.2.2.2.2.2.2.2.2.1.1, (y6.2.2.2.2.2.2.2.2.2.2.1.2.1, ((), y6.2.2.2.2.2.2.2.2.2.2.1.2.2.2))), (y6.2.2.2.2.2.2.2.2.2.2.2.1, ((y6.2.2.2.2.2.2.2.2.2.2.2.2.1.1, (y6.2.2.2.2.2.2.2.2.2.2.2.2.1.2.1, ((), y6.2.2.2.2.2.2.2.2.2.2.2.2.1.2.2.2))), (y6.2.2.2.2.2.2.2.2.2.2.2.2.2.1, (y6.2.2.2.2.2.2.2.2.2.2.2.2.2.2.1, (y6.2.2.2.2.2.2.2.2.2.2.2.2.2.2.2.1, ())))))))))))))))))))
  (obind (P_ref25_World_Do (((1 : Int), (y10.1.1, ())), (((((y6.2.2.2.2.2.2.2.2.2.2.1.1, (y6.2.2.2.2.2.2.2.2.2.2.1.2.1, (y6.2.2.2.2.2.2.2.2.2.2.2.2.2.2.1, ()))), (y6.2.2.2.2.2.2.2.2.2.2.2.1, ())), (((y6.2.2.2.2.2.2.2.2.2.2.2.2.1.1, (y6.2.2.2.2.2.2.2.2.2.2.2.2.1.2.1, (y6.2.2.2.2.2.2.2.2.2.2.2.2.2.2.2.1, ()))), (y6.2.2.2.2.2.2.2.2.2.2.2.2.2.1, ())), (y6.2.2.2.2.2.2.2.2.1, ()))), ((y6.2.2.2.2.2.2.2.2.2.1, (y6.2.2.2.2.2.1.2.1, ())), ())), ()))) (fun y11 => obind (P_steps_Run_Give ((y11.1.1, ()), ((y10.2.1.1, (y10.2.1.2.1, (y10.2.1.2.2.1, (y10.2.1.2.2.2.1, (y10.2.1.2.2.2.2.1, (y10.2.1.2.2.2.2.2.1, ())))))), ()))) (fun y12 => some (Sum.inl ((eqI y9.1.1 0, (iadd IntKind.i64 y6.1.2.1 1, ())), ((y12.2.1.1, ((), (y12.2.1.2.2.1, (y12.2.1.2.2.2.1, (y12.2.1.2.2.2.2.1, (y12.2.1.2.2.2.2.2.1, ())))))), (y12.2.1.2.1, (((), ((), ())), (((), ((), ((), ()))), (((), (y11.2.1.2.1.2.1, ())), (((), ((), ())), (((), ((), ())), (y11.2.1.1.2.2.1, (y11.2.1.2.1.1, ((y11.2.1.1.1.1.1, (y11.2.1.1.1.1.2.1, ((), ()))), (y11.2.1.1.1.2.1, ((y11.2.1.1.2.1.1.1, (y11.2.1.1.2.1.1.2.1, ((), ()))), (y11.2.1.1.2.1.2.1, (y11.2.1.1.1.1.2.2.1, (y11.2.1.1.2.1.1.2.2.1, ()))))))))))))))))))))))))
  (some (Sum.inr (0, ((y6.1.1, (y6.1.2.1, ())), ((y6.2.1.1, ((), (y6.2.1.2.2.1, (y6.2.1.2.2.2.1, (y6.2.1.2.2.2.2.1, (y6.2.1.2.2.2.2.2.1, y6.2.1.2.2.2.2.2.2)))))), (y6.2.2.1, (((), ((), y6.2.2.2.1.2.2)), (((), ((), ((), y6.2.2.2.2.1.2.2.2))), (((), (y6.2.2.2.2.2.1.2.1, y6.2.2.2.2.2.1.2.2)), (((), ((), y6.2.2.2.2.2.2.1.2.2)), (((), ((), y6.2.2.2.2.2.2.2.1.2.2)), (y6.2.2.2.2.2.2.2.2.1, (y6.2.2.2.2.2.2.2.2.2.1, ((y6.2.2.2.2.2.2.2.2.2.2.1.1, (y6.2.2.2.2.2.2.2.2.2.2.1.2.1, ((), y6.2.2.2.2.2.2.2.2.2.2.1.2.2.2))), (y6.2.2.2.2.2.2.2.2.2.2.2.1, ((y6.2.2.2.2.2.2.2.2.2.2.2.2.1.1, (y6.2.2.2.2.2.2.2.2.2.2.2.2.1.2.1, ((), y6.2.2.2.2.2.2.2.2.2.2.2.2.1.2.2.2))), (y6.2.2.2.2.2.2.2.2.2.2.2.2.2.1, (y6.2.2.2.2.2.2.2.2.2.2.2.2.2.2.1, (y6.2.2.2.2.2.2.2.2.2.2.2.2.2.2.2.1, ())))))))))))))))))))))
  none)

noncomputable def P_law27_SwapWhole (x : Sb × Sb × (List (Int)) × Unit) : Option (Bool × Unit) :=
  sel (fits (plus (len ([] : List S8x7)) (len ([] : List S8x7))))
  (sel (fits (plus (len ([] : List S8x2)) (len ([((1 : Int), (true, ((1 : Int), ((0 : Int), (([] : List (UInt8)), (([] : List (Sb × Int × Unit)), ()))))))] : List S8x2))))
  (sel (sel (nt (ltI 256 (len x.1)))
  (ltI 256 (len x.2.1))
  true)
  (obind (obind (P_law27_awake ()) (fun y1 => some y1.1)) (fun y1 => some (y1, ())))
  (obind (P_ref11_Table_Spawn (((1 : Int), ()), ((([] : List S8x10), ((0 : Int), ())), ()))) (fun y1 => obind (P_ref25_World_Do (((1 : Int), (((1 : Int), (([116, 109, 112] : List UInt8), (([] : List (UInt8)), ((0 : Int), ((0 : Int), ((0 : Int), (([] : List (UInt8)), ((0 : Int), ((0 : Int), ()))))))))), ())), ((((((1048576 : Int), ((2 : Int), (([((1 : Int), (true, ((1 : Int), ((0 : Int), (([] : List (UInt8)), (([] : List (Sb × Int × Unit)), ()))))))] : List S8x2), ()))), (([] : List S8x7), ())), ((((1048576 : Int), ((2 : Int), (app ([] : List S8x2) ([((1 : Int), (true, ((1 : Int), ((0 : Int), (([] : List (UInt8)), (([] : List (Sb × Int × Unit)), ()))))))] : List S8x2), ()))), (app ([] : List S8x7) ([] : List S8x7), ())), (([] : List S8x12), ()))), ((y1.2.1.1, (y1.2.1.2.1, ())), ())), ()))) (fun y2 => obind (P_ref25_World_Do (((1 : Int), (((3 : Int), (([102] : List UInt8), (([] : List (UInt8)), ((0 : Int), ((0 : Int), ((0 : Int), (([] : List (UInt8)), ((0 : Int), ((0 : Int), ()))))))))), ())), (((((y2.2.1.1.1.1.1, (y2.2.1.1.1.1.2.1, (y2.2.1.1.1.1.2.2.1, ()))), (y2.2.1.1.1.2.1, ())), (((y2.2.1.1.2.1.1.1, (y2.2.1.1.2.1.1.2.1, (y2.2.1.1.2.1.1.2.2.1, ()))), (y2.2.1.1.2.1.2.1, ())), (y2.2.1.1.2.2.1, ()))), ((y2.2.1.2.1.1, (y2.2.1.2.1.2.1, ())), ())), ()))) (fun y3 => obind (P_ref25_World_Do (((1 : Int), (((7 : Int), (([] : List (UInt8)), (([] : List (UInt8)), (y3.1.1.2.1, ((0 : Int), ((0 : Int), (x.1, ((0 : Int), ((0 : Int), ()))))))))), ())), (((((y3.2.1.1.1.1.1, (y3.2.1.1.1.1.2.1, (y3.2.1.1.1.1.2.2.1, ()))), (y3.2.1.1.1.2.1, ())), (((y3.2.1.1.2.1.1.1, (y3.2.1.1.2.1.1.2.1, (y3.2.1.1.2.1.1.2.2.1, ()))), (y3.2.1.1.2.1.2.1, ())), (y3.2.1.1.2.2.1, ()))), ((y3.2.1.2.1.1, (y3.2.1.2.1.2.1, ())), ())), ()))) (fun y4 => obind (P_ref25_World_Do (((1 : Int), (((14 : Int), (([] : List (UInt8)), (([] : List (UInt8)), ((0 : Int), ((0 : Int), ((0 : Int), (([] : List (UInt8)), ((0 : Int), ((0 : Int), ()))))))))), ())), (((((y4.2.1.1.1.1.1, (y4.2.1.1.1.1.2.1, (y4.2.1.1.1.1.2.2.1, ()))), (y4.2.1.1.1.2.1, ())), (((y4.2.1.1.2.1.1.1, (y4.2.1.1.2.1.1.2.1, (y4.2.1.1.2.1.1.2.2.1, ()))), (y4.2.1.1.2.1.2.1, ())), (y4.2.1.1.2.2.1, ()))), ((y4.2.1.2.1.1, (y4.2.1.2.1.2.1, ())), ())), ()))) (fun y5 => obind (Loop (P_law27_SwapWhole_L0 x) ((false, ((0 : Int), ())), ((true, ((), ((0 : Int), (false, (false, (((0 : Int), (([] : List (UInt8)), (([] : List (UInt8)), ((0 : Int), ((0 : Int), ((0 : Int), (([] : List (UInt8)), ((0 : Int), ((0 : Int), ()))))))))), ())))))), (([] : List S8x13), (((), ((), ())), (((), ((), ((), ()))), (((), (y5.2.1.2.1.2.1, ())), (((), ((), ())), (((), ((), ())), (y5.2.1.1.2.2.1, (y5.2.1.2.1.1, ((y5.2.1.1.1.1.1, (y5.2.1.1.1.1.2.1, ((), ()))), (y5.2.1.1.1.2.1, ((y5.2.1.1.2.1.1.1, (y5.2.1.1.2.1.1.2.1, ((), ()))), (y5.2.1.1.2.1.2.1, (y5.2.1.1.1.1.2.2.1, (y5.2.1.1.2.1.1.2.2.1, ()))))))))))))))))) (fun y6 => sel (within 1 2)
  (obind (idx x.2.2.1 (1 : Int)) (fun y7 => obind (sel (ltI y7 0)
  (obind (P_ref25_World_Kill (((1 : Int), ()), (((((y6.2.2.2.2.2.2.2.2.2.2.1.1, (y6.2.2.2.2.2.2.2.2.2.2.1.2.1, (y6.2.2.2.2.2.2.2.2.2.2.2.2.2.2.1, ()))), (y6.2.2.2.2.2.2.2.2.2.2.2.1, ())), (((y6.2.2.2.2.2.2.2.2.2.2.2.2.1.1, (y6.2.2.2.2.2.2.2.2.2.2.2.2.1.2.1, (y6.2.2.2.2.2.2.2.2.2.2.2.2.2.2.2.1, ()))), (y6.2.2.2.2.2.2.2.2.2.2.2.2.2.1, ())), (y6.2.2.2.2.2.2.2.2.1, ()))), ((y6.2.2.2.2.2.2.2.2.2.1, (y6.2.2.2.2.2.1.2.1, ())), ())), ()))) (fun y8 => some ((), (((), ((), ())), (((), ((), ((), ()))), (((), (y8.2.1.2.1.2.1, ())), (((), ((), ())), (((), ((), ())), (y8.2.1.1.2.2.1, (y8.2.1.2.1.1, ((y8.2.1.1.1.1.1, (y8.2.1.1.1.1.2.1, ((), ()))), (y8.2.1.1.1.2.1, ((y8.2.1.1.2.1.1.1, (y8.2.1.1.2.1.1.2.1, ((), ()))), (y8.2.1.1.2.1.2.1, (y8.2.1.1.1.1.2.2.1, (y8.2.1.1.2.1.1.2.2.1, ()))))))))))))))))
  (sel (within 1 2)
  (obind (idx x.2.2.1 (1 : Int)) (fun y8 => obind (P_ref25_World_Power ((y8, ()), (((((y6.2.2.2.2.2.2.2.2.2.2.1.1, (y6.2.2.2.2.2.2.2.2.2.2.1.2.1, (y6.2.2.2.2.2.2.2.2.2.2.2.2.2.2.1, ()))), (y6.2.2.2.2.2.2.2.2.2.2.2.1, ())), (((y6.2.2.2.2.2.2.2.2.2.2.2.2.1.1, (y6.2.2.2.2.2.2.2.2.2.2.2.2.1.2.1, (y6.2.2.2.2.2.2.2.2.2.2.2.2.2.2.2.1, ()))), (y6.2.2.2.2.2.2.2.2.2.2.2.2.2.1, ())), (y6.2.2.2.2.2.2.2.2.1, ()))), ((y6.2.2.2.2.2.2.2.2.2.1, (y6.2.2.2.2.2.1.2.1, ())), ())), ()))) (fun y9 => some ((), (((), ((), ())), (((), ((), ((), ()))), (((), (y9.2.1.2.1.2.1, ())), (((), ((), ())), (((), ((), ())), (y9.2.1.1.2.2.1, (y9.2.1.2.1.1, ((y9.2.1.1.1.1.1, (y9.2.1.1.1.1.2.1, ((), ()))), (y9.2.1.1.1.2.1, ((y9.2.1.1.2.1.1.1, (y9.2.1.1.2.1.1.2.1, ((), ()))), (y9.2.1.1.2.1.2.1, (y9.2.1.1.1.1.2.2.1, (y9.2.1.1.2.1.1.2.2.1, ())))))))))))))))))
  none)) (fun y8 => obind (P_law27_has ((([102] : List UInt8), ()), (((((y8.2.2.2.2.2.2.2.2.1.1, (y8.2.2.2.2.2.2.2.2.1.2.1, (y8.2.2.2.2.2.2.2.2.2.2.2.2.1, ()))), (y8.2.2.2.2.2.2.2.2.2.1, ())), (((y8.2.2.2.2.2.2.2.2.2.2.1.1, (y8.2.2.2.2.2.2.2.2.2.2.1.2.1, (y8.2.2.2.2.2.2.2.2.2.2.2.2.2.1, ()))), (y8.2.2.2.2.2.2.2.2.2.2.2.1, ())), (y8.2.2.2.2.2.2.1, ()))), ((y8.2.2.2.2.2.2.2.1, (y8.2.2.2.1.2.1, ())), ())), ()))) (fun y9 => obind (sel (sel y9.1.2.1
  (sel (nt (sel (eqS y9.1.1 x.1)
  (nt y6.1.1)
  false))
  (eqS y9.1.1 x.2.1)
  true)
  false)
  (sel (within 0 2)
  (obind (idx x.2.2.1 (0 : Int)) (fun y10 => some (sel (nt (ltI (iand IntKind.i64 y10 15) 8))
  y6.1.1
  true)))
  none)
  (some false)) (fun y10 => obind (sel y10
  (obind (P_law27_awake ()) (fun y11 => some y11.1))
  (some false)) (fun y11 => some (y11, ())))))))
  none))))))))
  none)
  none
end Go.Ge

/- Plain laws of numbers: sums that stay in range, bits of words. -/
namespace Go.Ge
set_option linter.unusedSectionVars false
variable [Lp]
set_option linter.unusedVariables false
set_option linter.unusedSimpArgs false

theorem iadd_i64 {a b : Int} (h : -9223372036854775808 ≤ a + b) (h2 : a + b ≤ 9223372036854775807) : iadd .i64 a b = a + b := by
  unfold iadd; simp [IntKind.wrap, IntKind.min, IntKind.max, IntKind.signed, IntKind.bits]; omega
theorem isub_i64 {a b : Int} (h : -9223372036854775808 ≤ a - b) (h2 : a - b ≤ 9223372036854775807) : isub .i64 a b = a - b := by
  unfold isub; simp [IntKind.wrap, IntKind.min, IntKind.max, IntKind.signed, IntKind.bits]; omega
theorem wrap_u32 (a : Int) : IntKind.wrap .u32 a = a % 4294967296 := by
  simp [IntKind.wrap, IntKind.min, IntKind.max, IntKind.signed, IntKind.bits]

/-! ### Words of 32 bits -/
def Bv (x : Int) : BitVec 32 := BitVec.ofInt 32 x
def Can (x : Int) : Prop := 0 ≤ x ∧ x < 4294967296

theorem can_wrap (a : Int) : Can (IntKind.wrap .u32 a) := by rw [wrap_u32]; unfold Can; omega
theorem bv_toNat (a : Int) : ((Bv a).toNat : Int) = a % 4294967296 := by
  unfold Bv
  rw [BitVec.toNat_ofInt]
  have : 0 ≤ a % ((2 ^ 32 : Nat) : Int) := Int.emod_nonneg _ (by decide)
  rw [Int.toNat_of_nonneg this]; rfl
theorem eq32 {a b : Int} (ha : Can a) (hb : Can b) (h : Bv a = Bv b) : a = b := by
  have h1 := bv_toNat a
  have h2 := bv_toNat b
  rw [h] at h1
  unfold Can at ha hb
  omega
theorem bv_wrap (a : Int) : Bv (IntKind.wrap .u32 a) = Bv a := by
  apply BitVec.eq_of_toNat_eq
  have h1 := bv_toNat a
  have h2 := bv_toNat (IntKind.wrap .u32 a)
  rw [wrap_u32] at h2 ⊢
  omega
theorem bv_nat (v : BitVec 32) : Bv (v.toNat : Int) = v := by
  apply BitVec.eq_of_toNat_eq
  have h1 := bv_toNat (v.toNat : Int)
  have := v.isLt
  omega
theorem bv_or (x y : Int) : Bv (ior .u32 x y) = Bv x ||| Bv y := by unfold ior; rw [bv_wrap]; exact bv_nat _
theorem can_or (x y : Int) : Can (ior .u32 x y) := can_wrap _
theorem ior_comm32 (x y : Int) : ior .u32 x y = ior .u32 y x := eq32 (can_or _ _) (can_or _ _) (by rw [bv_or, bv_or, BitVec.or_comm])
/-! ### Tests and places, decided -/
theorem ltI_true {a b : Int} (h : a < b) : ltI a b = true := by simp [ltI, h]
theorem ltI_false {a b : Int} (h : b ≤ a) : ltI a b = false := by simp [ltI]; omega
theorem leI_false {a b : Int} (h : b < a) : leI a b = false := by simp [leI]; omega
theorem eqI_true {a b : Int} (h : a = b) : eqI a b = true := by simp [eqI, h]
theorem eqI_false {a b : Int} (h : a ≠ b) : eqI a b = false := by simp [eqI, h]
theorem within_true {i n : Int} (h0 : 0 ≤ i) (h1 : i < n) : within i n = true := by simp [within, h0, h1]
theorem inside_true {i j n : Int} (h0 : 0 ≤ i) (h1 : i ≤ j) (h2 : j ≤ n) : inside i j n = true := by simp [inside, h0, h1, h2]
theorem fits_true {n : Int} (h : n ≤ 4294967296) : fits n = true := by simp [fits, h]
theorem way1_inl {S : Type} (s : S) : way1 (some (.inl s : S ⊕ (Nat × S))) = some (.inl s) := rfl
theorem way1_inr {S : Type} (n : Nat) (s : S) : way1 (some (.inr (n, s) : S ⊕ (Nat × S))) = some (.inr s) := rfl
end Go.Ge

/- Plain laws of loops that go through a list, of words in natural numbers. -/
namespace Go.Ge
set_option linter.unusedSectionVars false
variable [Lp]
set_option linter.unusedVariables false
set_option linter.unusedSimpArgs false

/-! ### Words in natural numbers -/
theorem ltI_len {α : Type} (i : Nat) (l : List α) : ltI (i : Int) (len l) = decide (i < l.length) := by simp [ltI, len]
theorem fits_len2 {α β : Type} {l : List α} {m : List β} (h : l.length + m.length ≤ 4294967296) : fits (plus (len l) (len m)) = true := by
  apply fits_true; simp only [plus, len]; omega
theorem eqS_false {a b : List UInt8} (h : a ≠ b) : eqS a b = false := by simp [eqS, h]
theorem eqS_true {a b : List UInt8} (h : a = b) : eqS a b = true := by simp [eqS, h]
theorem getElem?_lt {α : Type} {l : List α} {i : Nat} {x : α} (h : l[i]? = some x) : i < l.length := (List.getElem?_eq_some_iff.1 h).1
theorem idx_some' {α : Type} {l : List α} {i : Nat} {x : α} (h : l[i]? = some x) : idx l (i : Int) = some x := by rw [idx_nat, h]
theorem ltI_len_true {α : Type} {l : List α} {i : Nat} (h : i < l.length) : ltI (i : Int) (len l) = true := by rw [ltI_len, decide_eq_true h]
theorem ltI_len_end {α : Type} {l : List α} : ltI (l.length : Int) (len l) = false := by rw [ltI_len, decide_eq_false (by omega)]
theorem app_eq {α : Type} (l m : List α) : app l m = l ++ m := rfl
theorem len_eq {α : Type} (l : List α) : len l = (l.length : Int) := rfl
end Go.Ge

/- SHA-256 in plain words: rotations, the words of a block, the rounds. -/
namespace Go.Ge
set_option linter.unusedSectionVars false
variable [Lp]
set_option linter.unusedVariables false
set_option linter.unusedSimpArgs false

def rot (n x : Int) : Int := ior .u32 (ishr .u32 x n) (ishl .u32 x (32 - n))

theorem right_of {n m : Int} (h : iand .u64 (icv .u64 (isub .i64 0 n)) 31 = m) (h1 : ltI m 0 = false) (h2 : isub .u64 32 m = n) (h3 : ltI n 0 = false) (h4 : 32 - n = m) (x : Int) : P_sha_right (x, (n, ())) = some (rot n x, ()) := by
  unfold P_sha_right P_math_bits_RotateLeft32 rot
  dsimp only
  rw [h, h1, sel_false, h2, h3, sel_false, obind_some, h4, ior_comm32]
theorem turn_of {n : Int} (h1 : ltI n 0 = false) (h2 : isub .i64 32 n = 32 - n) (h3 : ltI (32 - n) 0 = false) (x : Int) : P_ref02_turn (x, (n, ())) = some (rot n x, ()) := by
  unfold P_ref02_turn rot
  dsimp only
  rw [h1, sel_false, h2, h3, sel_false]

theorem r2 (x : Int) : P_sha_right (x, (2, ())) = some (rot 2 x, ()) := right_of (m := 30) (by decide) (by decide) (by decide) (by decide) (by decide) x
theorem t2 (x : Int) : P_ref02_turn (x, (2, ())) = some (rot 2 x, ()) := turn_of (by decide) (by decide) (by decide) x
/-! ### The words of a block -/
/-! ### The same of the reference -/
/-! ### The rounds -/
abbrev W8 := Int × Int × Int × Int × Int × Int × Int × Int
/-! ### A block -/
end Go.Ge

/- SHA-256 in plain words: streams. -/
namespace Go.Ge
set_option linter.unusedSectionVars false
variable [Lp]
set_option linter.unusedVariables false
set_option linter.unusedSimpArgs false

abbrev Strm := (Bool × List Int × Unit) × List Int × Int × Unit

end Go.Ge

/- SHA-256 in plain words: sums, the program's and the reference's. -/
namespace Go.Ge
set_option linter.unusedSectionVars false
variable [Lp]
set_option linter.unusedVariables false
set_option linter.unusedSimpArgs false

/-! ### What stands behind the bytes -/
def zs (n : Nat) : Nat := (119 - n % 64) % 64
theorem intsBytes_app (a b : List Int) : intsBytes (a ++ b) = intsBytes a ++ intsBytes b := by simp [intsBytes]

/-! ### The reference -/
/-! ### The bytes of the sum -/
/-! ### The program -/
end Go.Ge

/- The laws of layer 02 in plain words. -/
namespace Go.Ge
set_option linter.unusedSectionVars false
variable [Lp]
set_option linter.unusedVariables false
set_option linter.unusedSimpArgs false

abbrev PartS := (Bool × List UInt8 × Int × Unit) × Strm × Strm × Unit

end Go.Ge

/- Bytes as hexadecimal digits, and back, in plain words. -/
namespace Go.Ge
set_option linter.unusedSectionVars false
variable [Lp]
set_option linter.unusedVariables false
set_option linter.unusedSimpArgs false

def hexT : List UInt8 := [48, 49, 50, 51, 52, 53, 54, 55, 56, 57, 97, 98, 99, 100, 101, 102]
def hx (n : Nat) : UInt8 := hexT.getD n 0
/-! ### The reference's digits -/
end Go.Ge

/- Pairs of hexadecimal digits as bytes, in plain words. -/
namespace Go.Ge
set_option linter.unusedSectionVars false
variable [Lp]
set_option linter.unusedVariables false
set_option linter.unusedSimpArgs false

def hv (c : UInt8) : Int := Lib.indexByte hexT c
end Go.Ge

/- Pairs of hexadecimal digits as bytes: the reference. -/
namespace Go.Ge
set_option linter.unusedSectionVars false
variable [Lp]
set_option linter.unusedVariables false
set_option linter.unusedSimpArgs false

end Go.Ge

/- Digests in plain words. -/
namespace Go.Ge
set_option linter.unusedSectionVars false
variable [Lp]
set_option linter.unusedVariables false
set_option linter.unusedSimpArgs false

end Go.Ge

/- Octal digits in plain words. -/
namespace Go.Ge
set_option linter.unusedSectionVars false
variable [Lp]
set_option linter.unusedVariables false
set_option linter.unusedSimpArgs false

end Go.Ge

/- Texts without what stands at their ends, and the number of octal digits, in plain words. -/
namespace Go.Ge
set_option linter.unusedSectionVars false
variable [Lp]
set_option linter.unusedVariables false
set_option linter.unusedSimpArgs false
set_option maxRecDepth 100000

/-! ### What stands at the end is let go -/
/-! ### Both noughts and blanks -/
/-! ### The left end -/
end Go.Ge

/- Headers: which ones may be; numbers and texts of fields, in plain words. -/
namespace Go.Ge
set_option linter.unusedSectionVars false
variable [Lp]
set_option linter.unusedVariables false
set_option linter.unusedSimpArgs false

/-! ### Texts without noughts -/
def noNul (s : List UInt8) : Prop := ∀ x ∈ s, x ≠ 0
instance (s : List UInt8) : Decidable (noNul s) := inferInstanceAs (Decidable (∀ x ∈ s, x ≠ 0))

/-! ### Which headers may be -/
abbrev Hd := List UInt8 × Int × Int × Int × Int × Int × Int × List UInt8 × Unit
def clr (s : List UInt8) (most : Int) : Prop := s ≠ [] ∧ (s.length : Int) ≤ most ∧ noNul s
instance (s : List UInt8) (most : Int) : Decidable (clr s most) := inferInstanceAs (Decidable (_ ∧ _ ∧ _))
def inN (n b : Int) : Prop := 0 ≤ n ∧ n < b
instance (n b : Int) : Decidable (inN n b) := inferInstanceAs (Decidable (_ ∧ _))
def kindOk (h : Hd) : Prop := (h.2.1 = 1 ∧ h.2.2.2.2.2.2.2.1 = []) ∨ (h.2.1 = 2 ∧ h.2.2.2.2.2.2.2.1 = [] ∧ h.2.2.2.2.2.1 = 0) ∨ (h.2.1 = 3 ∧ clr h.2.2.2.2.2.2.2.1 100 ∧ h.2.2.2.2.2.1 = 0)
instance (h : Hd) : Decidable (kindOk h) := inferInstanceAs (Decidable (_ ∨ _ ∨ _))
def okHd (h : Hd) (most : Int) : Prop := inN h.2.2.1 2097152 ∧ inN h.2.2.2.1 2097152 ∧ inN h.2.2.2.2.1 2097152 ∧ inN h.2.2.2.2.2.1 8589934592 ∧ inN h.2.2.2.2.2.2.1 8589934592 ∧ clr h.1 most ∧ kindOk h
instance (h : Hd) (most : Int) : Decidable (okHd h most) := inferInstanceAs (Decidable (_ ∧ _ ∧ _ ∧ _ ∧ _ ∧ _ ∧ _))

end Go.Ge

/- Paths in plain words: their names, and what these are put together to. -/
namespace Go.Ge
set_option linter.unusedSectionVars false
variable [Lp]
set_option linter.unusedVariables false
set_option linter.unusedSimpArgs false

/-- A text at its strokes. -/
def splitS : List UInt8 → List (List UInt8)
  | [] => [[]]
  | b :: r => if b = 47 then [] :: splitS r else match splitS r with
    | h :: t => (b :: h) :: t
    | [] => [[b]]

/-- The names of a path. -/
def parts (p : List UInt8) : List (List UInt8) := if p = [] then [] else splitS p

/-! ### Put together -/
end Go.Ge

/- Clean paths in plain words. -/
namespace Go.Ge
set_option linter.unusedSectionVars false
variable [Lp]
set_option linter.unusedVariables false
set_option linter.unusedSimpArgs false

/-! ### Clean -/
end Go.Ge

/- The order of texts; two lists gone through side by side. -/
namespace Go.Ge
set_option linter.unusedSectionVars false
variable [Lp]
set_option linter.unusedVariables false
set_option linter.unusedSimpArgs false

/-! ### Side by side -/
end Go.Ge

/- Paths in plain words: split, joined, under one another, compared, marks. -/
namespace Go.Ge
set_option linter.unusedSectionVars false
variable [Lp]
set_option linter.unusedVariables false
set_option linter.unusedSimpArgs false

/-! ### Where the last stroke stands -/
/-! ### Put together -/
/-! ### Under one another -/
/-! ### Compared -/
end Go.Ge

/- Plain laws of loops that look for something in a list. -/
namespace Go.Ge
set_option linter.unusedSectionVars false
variable [Lp]
set_option linter.unusedVariables false
set_option linter.unusedSimpArgs false

theorem ob {α β : Type} {o : Option α} {x : α} {f : α → Option β} {r : Option β} (h : o = some x) (k : f x = r) : obind o f = r := by rw [h]; exact k

/-- A loop whose states are told one by one, from one of them. -/
theorem loop_seq' {S R : Type} {f : S → Option (S ⊕ R)} {r : R} (st : Nat → S) : ∀ (d k : Nat), (∀ i, k ≤ i → i < k + d → f (st i) = some (.inl (st (i + 1)))) → f (st (k + d)) = some (.inr r) → Loop f (st k) = some r := by
  intro d
  induction d with
  | zero => intro k _ h; rw [Nat.add_zero] at h; rw [Loop_eq, h]; rfl
  | succ d ih =>
    intro k h1 h2
    rw [Loop_eq, h1 k (Nat.le_refl _) (by omega)]
    exact ih (k + 1) (fun i hi hk => h1 i (by omega) (by omega)) (by rw [show k + 1 + d = k + (d + 1) by omega]; exact h2)

/-- A list gone through, of whose elements another one is made. -/
theorem fold_app {α β S R : Type} {f : S → Option (S ⊕ R)} (l : List α) (mk : List β → Int → S) (g : α → List β) (fin : R) (hl : l.length ≤ 4294967296)
    (hstep : ∀ i x, l[i]? = some x → i < l.length → iadd .i64 (i : Int) 1 = ((i + 1 : Nat) : Int) → f (mk ((l.take i).flatMap g) (i : Int)) = some (.inl (mk ((l.take i).flatMap g ++ g x) ((i + 1 : Nat) : Int))))
    (hfin : f (mk (l.flatMap g) (l.length : Int)) = some (.inr fin)) : Loop f (mk [] 0) = some fin := by
  refine loop_seq l.length (fun j : Nat => mk ((l.take j).flatMap g) (j : Int)) (fun j hj => ?_) (by simp only [List.take_length]; exact hfin)
  have hx : l[j]? = some l[j] := List.getElem?_eq_getElem hj
  have := hstep j l[j] hx hj (iadd_one (by omega))
  rw [this, List.take_add_one, hx, List.flatMap_append]
  simp
theorem fits_len {α : Type} {l : List α} (h : l.length ≤ 4294967296) : fits (len l) = true := fits_nat' h
end Go.Ge

/- The document's inodes (ref08): what the functions on a table come to. -/
namespace Go.Ge
set_option linter.unusedSectionVars false
set_option linter.unusedVariables false
set_option linter.unusedSimpArgs false
variable [Lp]

abbrev Ent := List UInt8 × Int × Unit
abbrev Nd := Int × Bool × Int × Int × List UInt8 × List Ent × Unit
abbrev Tb := Int × Int × List Nd × Unit
abbrev Hn := Int × Int × Int × Unit
abbrev Fs := Tb × List Hn × Unit
abbrev Opr := Int × List UInt8 × List UInt8 × Int × Int × Int × List UInt8 × Int × Int × Unit
abbrev Rs := Int × Int × List UInt8 × List (List UInt8) × Unit
abbrev Ac9 := Int × Bool × Opr × Unit
abbrev Dk := Fs × Fs × List Ac9 × Unit
abbrev Pt := List (Int × Int × Unit) × Int × Unit
abbrev Wd := Dk × Pt × Unit

def zN : Nd := (0, false, 0, 0, [], [], ())
def getN (L : List Nd) (id : Int) : Option Nd := L.find? fun x => decide (x.1 = id)

theorem getN_mem {L : List Nd} {id : Int} {x : Nd} (h : getN L id = some x) : x ∈ L ∧ x.1 = id := ⟨List.mem_of_find?_eq_some h, by simpa using List.find?_some h⟩

/-- A node in the place of what has its number. -/
def setG (n y : Nd) : List Nd := if y.1 ≠ n.1 then [y] else if 0 < n.2.2.1 ∨ 0 < n.2.2.2.1 then [n] else []
def setN (n : Nd) (L : List Nd) : List Nd := L.flatMap (setG n)
theorem setG_len (n y : Nd) : (setG n y).length ≤ 1 := by
  unfold setG
  by_cases h : y.1 ≠ n.1
  · rw [if_pos h]; simp
  · rw [if_neg h]; split <;> simp
theorem setN_len (n : Nd) (L : List Nd) : (setN n L).length ≤ L.length := by
  induction L with
  | nil => simp [setN]
  | cons y r ih => have := setG_len n y; simp only [setN, List.flatMap_cons, List.length_append, List.length_cons] at ih ⊢; omega

abbrev tset (t : Tb) (n : Nd) : Tb := (t.1, (t.2.1, (setN n t.2.2.1, ())))

theorem set_val (t : Tb) (n : Nd) (hl : t.2.2.1.length ≤ 4294967295) : P_ref08_Table_set ((n, ()), (t, ())) = some ((), (tset t n, ())) := by
  unfold P_ref08_Table_set
  refine ob (fold_app (f := P_ref08_Table_set_L0 ((n, ()), (t, ()))) t.2.2.1 (fun o i => (((), (i, ())), (o, ()))) (setG n) (((), ((t.2.2.1.length : Int), ())), (setN n t.2.2.1, ())) (by omega) (fun i x hx hi hadd => ?_) ?_) rfl
  · have hsl := setN_len n (t.2.2.1.take i)
    rw [List.length_take] at hsl
    unfold P_ref08_Table_set_L0
    dsimp only
    have hf : ∀ (z : Nd), fits (plus (len ((t.2.2.1.take i).flatMap (setG n))) (len [z])) = true := fun z => fits_len2 (by
      have : ((t.2.2.1.take i).flatMap (setG n)).length ≤ min i t.2.2.1.length := hsl
      simp only [List.length_singleton]; omega)
    rw [ltI_len, decide_eq_true hi, sel_true, within_true (by omega) (by rw [len_eq]; omega), sel_true, idx_some' hx, obind_some, hadd]
    simp only [sel_true, obind_some, hf]
    by_cases h : x.1 = n.1
    · rw [eqI_true h, nt_true, sel_false]
      by_cases k : 0 < n.2.2.1
      · rw [ltI_true k]
        simp only [nt_true, sel_false, sel_true, obind_some, way1_inl]
        simp [setG, h, k, app_eq]
      · rw [ltI_false (by omega)]
        by_cases k2 : 0 < n.2.2.2.1
        · rw [ltI_true k2]
          simp only [nt_false, sel_false, sel_true, obind_some, way1_inl]
          simp [setG, h, k, k2, app_eq]
        · rw [ltI_false (by omega)]
          simp only [nt_false, sel_false, sel_true, obind_some, way1_inl]
          simp [setG, h, k, k2, app_eq]
    · rw [eqI_false h, nt_false]
      simp only [sel_true, obind_some, way1_inl]
      simp [setG, h, app_eq]
  · unfold P_ref08_Table_set_L0
    dsimp only
    rw [ltI_len_end]
    rfl

end Go.Ge

/- The document's inodes (ref08): what only looks at a table. -/
namespace Go.Ge
set_option linter.unusedSectionVars false
set_option linter.unusedVariables false
set_option linter.unusedSimpArgs false
variable [Lp]

/-- An error that is no pause. -/
def Er (e : Int) : Prop := 0 ≤ e ∧ e ≤ 13

/-- A table is of such a size. -/
structure TLen (t : Tb) : Prop where
  l : t.2.2.1.length ≤ 1000000
  n : ∀ x ∈ t.2.2.1, x.2.2.2.2.2.1.length ≤ 1000000
  d : ∀ x ∈ t.2.2.1, x.2.2.2.2.1.length ≤ 1048576

theorem Er.eq {e : Int} : eqI e 0 = decide (e = 0) := rfl

/-- Bytes, with noughts behind. -/
def longN (s : List UInt8) (n : Int) : List UInt8 := s ++ List.replicate (n.toNat - s.length) 0

theorem intsBytes_back26 (s : List UInt8) : intsBytes (bytesInts s) = s := by
  simp only [intsBytes, bytesInts, List.map_map]
  refine (List.map_congr_left fun b _ => ?_).trans (List.map_id s)
  show UInt8.ofNat ((b.toNat : Int)).toNat = b
  simp
theorem intsBytes_rep (n : Nat) : intsBytes (List.replicate n 0) = List.replicate n 0 := by simp [intsBytes]

theorem long_val (s : List UInt8) (n : Int) (hs : s.length ≤ 1048576) (hn : n ≤ 1048576) : P_ref08_long (s, (n, ())) = some (longN s n, ()) := by
  unfold P_ref08_long
  dsimp only
  rw [fits_len (by omega), sel_true]
  have hb : (bytesInts s).length = s.length := by simp [bytesInts]
  have key := loop_seq' (f := P_ref08_long_L0 (s, (n, ()))) (r := (((), ()), (bytesInts s ++ List.replicate (n.toNat - s.length) 0, ()))) (fun k => (((), ()), (bytesInts s ++ List.replicate k 0, ()))) (n.toNat - s.length) 0
    (fun i h1 h2 => by
      unfold P_ref08_long_L0
      dsimp only
      have hlen : (bytesInts s ++ List.replicate i (0 : Int)).length = s.length + i := by simp [hb]
      rw [ltI_true (by rw [len_eq, hlen]; omega), sel_true, fits_len2 (by rw [hlen]; simp; omega), sel_true, way1_inl, app_eq, List.append_assoc, ← List.replicate_succ'])
    (by
      unfold P_ref08_long_L0
      dsimp only
      rw [Nat.zero_add]
      have hlen : (bytesInts s ++ List.replicate (n.toNat - s.length) (0 : Int)).length = s.length + (n.toNat - s.length) := by simp [hb]
      rw [ltI_false (by rw [len_eq, hlen]; omega), sel_false, way1_inr])
  have key' : Loop (P_ref08_long_L0 (s, (n, ()))) (((), ()), (bytesInts s, ())) = some (((), ()), (bytesInts s ++ List.replicate (n.toNat - s.length) 0, ())) := by simpa using key
  refine ob key' ?_
  dsimp only
  rw [intsBytes_app, intsBytes_rep, longN]
  congr 2
  congr 1
  exact intsBytes_back26 s
theorem longN_len (s : List UInt8) (n : Int) : (longN s n).length = s.length + (n.toNat - s.length) := by simp [longN]

end Go.Ge
