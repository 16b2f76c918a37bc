/- Plain laws of what the functions compute: part 1. -/
import Derived.Test.YtgofkhjgokaiaaaGeK
import Derived.Lib.Repeat
/- What some functions of the library compute, as plain programs. -/
namespace Go.Ge
abbrev Sb := List UInt8
set_option linter.unusedSectionVars false
variable [Lp]

end Go.Ge

/- What the functions of layer 26 compute, as plain programs (written by a program from what the ghost interpreter comes to). -/
namespace Go.Ge
set_option linter.unusedVariables false
set_option linter.unusedSectionVars false
variable [Lp]
set_option maxRecDepth 100000

abbrev S1x0 := (Bool × (List ((Int × Sb × Sb × Int × Int × Int × Sb × Int × Int × Unit) × (Int × Int × Sb × (List Sb) × Unit) × Unit)) × Int × Bool × Bool × (Int × Sb × Sb × Int × Int × Int × Sb × Int × Int × Unit) × Unit)
abbrev S1x1 := (Int × Sb × Sb × Int × Int × Int × Sb × Int × Int × Unit)
abbrev S1x2 := (Int × Int × Sb × (List Sb) × Unit)
abbrev S1x3 := ((Unit × Unit × Int × Unit) × (List S1x2) × (List S1x1) × Unit)
noncomputable def P_steps_Run_isGiven (x : Unit × S1x0 × Unit) : Option ((Bool × Unit) × S1x0 × Unit) :=
  some ((x.2.1.1, ()), ((x.2.1.1, (x.2.1.2.1, (x.2.1.2.2.1, (x.2.1.2.2.2.1, (x.2.1.2.2.2.2.1, (x.2.1.2.2.2.2.2.1, ())))))), ()))

noncomputable def P_steps_Run_isGiven_nil (x : Unit × Unit × Unit) : Option ((Bool × Unit) × Unit × Unit) :=
  some ((false, ()), ((), ()))

noncomputable def P_steps_Run_Begin (x : Unit × S1x0 × Unit) : Option (Unit × S1x0 × Unit) :=
  obind (P_steps_Run_isGiven ((), ((x.2.1.1, (x.2.1.2.1, (x.2.1.2.2.1, (x.2.1.2.2.2.1, (x.2.1.2.2.2.2.1, (x.2.1.2.2.2.2.2.1, ())))))), ()))) (fun y1 => some ((), (((((sel y1.1.1
  ((), ((y1.2.1.1, ((), ((0 : Int), (false, (false, (y1.2.1.2.2.2.2.2.1, ())))))), (y1.2.1.2.1, ())))
  ((), ((y1.2.1.1, ((), (y1.2.1.2.2.1, (y1.2.1.2.2.2.1, (y1.2.1.2.2.2.2.1, (y1.2.1.2.2.2.2.2.1, ())))))), (y1.2.1.2.1, ())))).2).1).1, ((((sel y1.1.1
  ((), ((y1.2.1.1, ((), ((0 : Int), (false, (false, (y1.2.1.2.2.2.2.2.1, ())))))), (y1.2.1.2.1, ())))
  ((), ((y1.2.1.1, ((), (y1.2.1.2.2.1, (y1.2.1.2.2.2.1, (y1.2.1.2.2.2.2.1, (y1.2.1.2.2.2.2.2.1, ())))))), (y1.2.1.2.1, ())))).2).2).1, ((((((sel y1.1.1
  ((), ((y1.2.1.1, ((), ((0 : Int), (false, (false, (y1.2.1.2.2.2.2.2.1, ())))))), (y1.2.1.2.1, ())))
  ((), ((y1.2.1.1, ((), (y1.2.1.2.2.1, (y1.2.1.2.2.2.1, (y1.2.1.2.2.2.2.1, (y1.2.1.2.2.2.2.2.1, ())))))), (y1.2.1.2.1, ())))).2).1).2).2).1, (((((((sel y1.1.1
  ((), ((y1.2.1.1, ((), ((0 : Int), (false, (false, (y1.2.1.2.2.2.2.2.1, ())))))), (y1.2.1.2.1, ())))
  ((), ((y1.2.1.1, ((), (y1.2.1.2.2.1, (y1.2.1.2.2.2.1, (y1.2.1.2.2.2.2.1, (y1.2.1.2.2.2.2.2.1, ())))))), (y1.2.1.2.1, ())))).2).1).2).2).2).1, ((((((((sel y1.1.1
  ((), ((y1.2.1.1, ((), ((0 : Int), (false, (false, (y1.2.1.2.2.2.2.2.1, ())))))), (y1.2.1.2.1, ())))
  ((), ((y1.2.1.1, ((), (y1.2.1.2.2.1, (y1.2.1.2.2.2.1, (y1.2.1.2.2.2.2.1, (y1.2.1.2.2.2.2.2.1, ())))))), (y1.2.1.2.1, ())))).2).1).2).2).2).2).1, (((((((((sel y1.1.1
  ((), ((y1.2.1.1, ((), ((0 : Int), (false, (false, (y1.2.1.2.2.2.2.2.1, ())))))), (y1.2.1.2.1, ())))
  ((), ((y1.2.1.1, ((), (y1.2.1.2.2.1, (y1.2.1.2.2.2.1, (y1.2.1.2.2.2.2.1, (y1.2.1.2.2.2.2.2.1, ())))))), (y1.2.1.2.1, ())))).2).1).2).2).2).2).2).1, ())))))), ())))

noncomputable def P_steps_Run_Want (x : Unit × S1x0 × Unit) : Option ((S1x1 × Bool × Unit) × S1x0 × Unit) :=
  obind (P_steps_Run_isGiven ((), ((x.2.1.1, (x.2.1.2.1, (x.2.1.2.2.1, (x.2.1.2.2.2.1, (x.2.1.2.2.2.2.1, (x.2.1.2.2.2.2.2.1, ())))))), ()))) (fun y1 => sel (sel (nt (nt y1.1.1))
  (nt y1.2.1.2.2.2.2.1)
  true)
  (some ((((0 : Int), (([] : List (UInt8)), (([] : List (UInt8)), ((0 : Int), ((0 : Int), ((0 : Int), (([] : List (UInt8)), ((0 : Int), ((0 : Int), ()))))))))), (false, ())), ((y1.2.1.1, (y1.2.1.2.1, (y1.2.1.2.2.1, (y1.2.1.2.2.2.1, (y1.2.1.2.2.2.2.1, (y1.2.1.2.2.2.2.2.1, ())))))), ())))
  (some ((y1.2.1.2.2.2.2.2.1, (true, ())), ((y1.2.1.1, (y1.2.1.2.1, (y1.2.1.2.2.1, (y1.2.1.2.2.2.1, (y1.2.1.2.2.2.2.1, (y1.2.1.2.2.2.2.2.1, ())))))), ()))))

noncomputable def P_slices_Clone_string_string (x : (List Sb) × Unit) : Option ((List Sb) × Unit) :=
  bif fits (len x.1) then some (x.1, ()) else none

noncomputable def P_steps_answer (x : S1x2 × Unit) : Option (S1x2 × Unit) :=
  obind (P_slices_Clone_string_string (x.1.2.2.2.1, ())) (fun y1 => some ((x.1.1, (x.1.2.1, (x.1.2.2.1, (y1.1, x.1.2.2.2.2)))), ()))

noncomputable def P_steps_Run_Want_nil (x : Unit × Unit × Unit) : Option ((S1x1 × Bool × Unit) × Unit × Unit) :=
  obind (P_steps_Run_isGiven_nil ((), ((), ()))) (fun y1 => obind (sel (nt (nt y1.1.1))
  none
  (some true)) (fun y2 => sel y2
  (some ((((0 : Int), (([] : List (UInt8)), (([] : List (UInt8)), ((0 : Int), ((0 : Int), ((0 : Int), (([] : List (UInt8)), ((0 : Int), ((0 : Int), ()))))))))), (false, ())), ((), ())))
  none))

noncomputable def P_steps_Run_Give (x : (S1x2 × Unit) × S1x0 × Unit) : Option ((Int × Unit) × S1x0 × Unit) :=
  obind (P_steps_Run_Want ((), ((x.2.1.1, (x.2.1.2.1, (x.2.1.2.2.1, (x.2.1.2.2.2.1, (x.2.1.2.2.2.2.1, (x.2.1.2.2.2.2.2.1, ())))))), ()))) (fun y1 => sel (nt y1.1.2.1)
  (some (((1 : Int), ()), ((y1.2.1.1, (y1.2.1.2.1, (y1.2.1.2.2.1, (y1.2.1.2.2.2.1, (y1.2.1.2.2.2.2.1, (y1.2.1.2.2.2.2.2.1, ())))))), ())))
  (obind (P_steps_answer (x.1.1, ())) (fun y2 => sel (fits (plus (len y1.2.1.2.1) (len ([(y1.2.1.2.2.2.2.2.1, (y2.1, ()))] : List (S1x1 × S1x2 × Unit)))))
  (some (((0 : Int), ()), ((y1.2.1.1, (app y1.2.1.2.1 ([(y1.2.1.2.2.2.2.2.1, (y2.1, ()))] : List (S1x1 × S1x2 × Unit)), (y1.2.1.2.2.1, (y1.2.1.2.2.2.1, (false, (y1.2.1.2.2.2.2.2.1, ())))))), ())))
  none)))

noncomputable def P_steps_Run_Len (x : Unit × S1x0 × Unit) : Option ((Int × Unit) × S1x0 × Unit) :=
  some ((len x.2.1.2.1, ()), ((x.2.1.1, (x.2.1.2.1, (x.2.1.2.2.1, (x.2.1.2.2.2.1, (x.2.1.2.2.2.2.1, (x.2.1.2.2.2.2.2.1, ())))))), ()))

noncomputable def P_steps_pause (x : Unit) : Option (S1x2 × Unit) :=
  some (((14 : Int), ((0 : Int), (([] : List (UInt8)), (([] : List Sb), ())))), ())

noncomputable def P_steps_Run_Do (x : (S1x1 × Unit) × S1x0 × Unit) : Option ((S1x2 × Unit) × S1x0 × Unit) :=
  obind (P_steps_Run_isGiven ((), ((x.2.1.1, (x.2.1.2.1, (x.2.1.2.2.1, (x.2.1.2.2.2.1, (x.2.1.2.2.2.2.1, (x.2.1.2.2.2.2.2.1, ())))))), ()))) (fun y1 => sel (nt y1.1.1)
  (some ((((1 : Int), ((0 : Int), (([] : List (UInt8)), (([] : List Sb), ())))), ()), ((y1.2.1.1, (y1.2.1.2.1, (y1.2.1.2.2.1, (y1.2.1.2.2.2.1, (y1.2.1.2.2.2.2.1, (y1.2.1.2.2.2.2.2.1, ())))))), ())))
  (sel y1.2.1.2.2.2.1
  (obind (P_steps_pause ()) (fun y2 => some ((y2.1, ()), ((y1.2.1.1, (y1.2.1.2.1, (y1.2.1.2.2.1, (y1.2.1.2.2.2.1, (y1.2.1.2.2.2.2.1, (y1.2.1.2.2.2.2.2.1, ())))))), ()))))
  (sel (eqI y1.2.1.2.2.1 (len y1.2.1.2.1))
  (obind (P_steps_pause ()) (fun y2 => some ((y2.1, ()), ((y1.2.1.1, (y1.2.1.2.1, (y1.2.1.2.2.1, (true, (true, (x.1.1, ())))))), ()))))
  (sel (within y1.2.1.2.2.1 (len y1.2.1.2.1))
  (obind (idx y1.2.1.2.1 y1.2.1.2.2.1) (fun y2 => sel (nt (an (eqI y2.1.1 x.1.1.1) (an (eqS y2.1.2.1 x.1.1.2.1) (an (eqS y2.1.2.2.1 x.1.1.2.2.1) (an (eqI y2.1.2.2.2.1 x.1.1.2.2.2.1) (an (eqI y2.1.2.2.2.2.1 x.1.1.2.2.2.2.1) (an (eqI y2.1.2.2.2.2.2.1 x.1.1.2.2.2.2.2.1) (an (eqS y2.1.2.2.2.2.2.2.1 x.1.1.2.2.2.2.2.2.1) (an (eqI y2.1.2.2.2.2.2.2.2.1 x.1.1.2.2.2.2.2.2.2.1) (an (eqI y2.1.2.2.2.2.2.2.2.2.1 x.1.1.2.2.2.2.2.2.2.2.1) true))))))))))
  (some ((((1 : Int), ((0 : Int), (([] : List (UInt8)), (([] : List Sb), ())))), ()), ((y1.2.1.1, (y1.2.1.2.1, (y1.2.1.2.2.1, (y1.2.1.2.2.2.1, (y1.2.1.2.2.2.2.1, (y1.2.1.2.2.2.2.2.1, ())))))), ())))
  (sel (within (isub IntKind.i64 (iadd IntKind.i64 y1.2.1.2.2.1 1) 1) (len y1.2.1.2.1))
  (obind (idx y1.2.1.2.1 (isub IntKind.i64 (iadd IntKind.i64 y1.2.1.2.2.1 1) 1)) (fun y3 => obind (P_steps_answer (y3.2.1, ())) (fun y4 => some ((y4.1, ()), ((y1.2.1.1, (y1.2.1.2.1, (iadd IntKind.i64 y1.2.1.2.2.1 1, (y1.2.1.2.2.2.1, (y1.2.1.2.2.2.2.1, (y1.2.1.2.2.2.2.2.1, ())))))), ())))))
  none)))
  none))))

noncomputable def P_steps_Run_Begin_nil (x : Unit × Unit × Unit) : Option (Unit × Unit × Unit) :=
  obind (P_steps_Run_isGiven_nil ((), ((), ()))) (fun y1 => obind (sel y1.1.1
  none
  (some ((), ()))) (fun y2 => some ((), ((), ()))))

noncomputable def P_steps_Run_Give_nil (x : (S1x2 × Unit) × Unit × Unit) : Option ((Int × Unit) × Unit × Unit) :=
  obind (P_steps_Run_Want_nil ((), ((), ()))) (fun y1 => sel (nt y1.1.2.1)
  (some (((1 : Int), ()), ((), ())))
  none)

noncomputable def P_steps_Run_Len_nil (x : Unit × Unit × Unit) : Option ((Int × Unit) × Unit × Unit) :=
  some (((0 : Int), ()), ((), ()))

noncomputable def P_steps_Run_Do_nil (x : (S1x1 × Unit) × Unit × Unit) : Option ((S1x2 × Unit) × Unit × Unit) :=
  obind (P_steps_Run_isGiven_nil ((), ((), ()))) (fun y1 => sel (nt y1.1.1)
  (some ((((1 : Int), ((0 : Int), (([] : List (UInt8)), (([] : List Sb), ())))), ()), ((), ())))
  none)

noncomputable def P_law26_awake (x : Unit) : Option (Bool × Unit) :=
  obind (P_steps_Run_Do ((((13 : Int), (([] : List (UInt8)), (([] : List (UInt8)), ((0 : Int), ((0 : Int), ((0 : Int), (([] : List (UInt8)), ((0 : Int), ((0 : Int), ()))))))))), ()), ((true, (([] : List (S1x1 × S1x2 × Unit)), ((0 : Int), (false, (false, (((0 : Int), (([] : List (UInt8)), (([] : List (UInt8)), ((0 : Int), ((0 : Int), ((0 : Int), (([] : List (UInt8)), ((0 : Int), ((0 : Int), ()))))))))), ())))))), ()))) (fun y1 => obind (P_steps_Run_Want ((), ((y1.2.1.1, (y1.2.1.2.1, (y1.2.1.2.2.1, (y1.2.1.2.2.2.1, (y1.2.1.2.2.2.2.1, (y1.2.1.2.2.2.2.2.1, ())))))), ()))) (fun y2 => obind (P_steps_Run_Give ((((0 : Int), ((7 : Int), (([] : List (UInt8)), (([] : List Sb), ())))), ()), ((y2.2.1.1, (y2.2.1.2.1, (y2.2.1.2.2.1, (y2.2.1.2.2.2.1, (y2.2.1.2.2.2.2.1, (y2.2.1.2.2.2.2.2.1, ())))))), ()))) (fun y3 => obind (P_steps_Run_Give ((((0 : Int), ((0 : Int), (([] : List (UInt8)), (([] : List Sb), ())))), ()), ((y3.2.1.1, (y3.2.1.2.1, (y3.2.1.2.2.1, (y3.2.1.2.2.2.1, (y3.2.1.2.2.2.2.1, (y3.2.1.2.2.2.2.2.1, ())))))), ()))) (fun y4 => obind (P_steps_Run_Do ((((13 : Int), (([] : List (UInt8)), (([] : List (UInt8)), ((0 : Int), ((0 : Int), ((0 : Int), (([] : List (UInt8)), ((0 : Int), ((0 : Int), ()))))))))), ()), ((y4.2.1.1, (y4.2.1.2.1, (y4.2.1.2.2.1, (y4.2.1.2.2.2.1, (y4.2.1.2.2.2.2.1, (y4.2.1.2.2.2.2.2.1, ())))))), ()))) (fun y5 => obind (P_steps_Run_Begin ((), ((y5.2.1.1, (y5.2.1.2.1, (y5.2.1.2.2.1, (y5.2.1.2.2.2.1, (y5.2.1.2.2.2.2.1, (y5.2.1.2.2.2.2.2.1, ())))))), ()))) (fun y6 => obind (P_steps_Run_Do ((((13 : Int), (([] : List (UInt8)), (([] : List (UInt8)), ((0 : Int), ((0 : Int), ((0 : Int), (([] : List (UInt8)), ((0 : Int), ((0 : Int), ()))))))))), ()), ((y6.2.1.1, (y6.2.1.2.1, (y6.2.1.2.2.1, (y6.2.1.2.2.2.1, (y6.2.1.2.2.2.2.1, (y6.2.1.2.2.2.2.2.1, ())))))), ()))) (fun y7 => obind (P_steps_Run_Do ((((14 : Int), (([] : List (UInt8)), (([] : List (UInt8)), ((0 : Int), ((0 : Int), ((0 : Int), (([] : List (UInt8)), ((0 : Int), ((0 : Int), ()))))))))), ()), ((y7.2.1.1, (y7.2.1.2.1, (y7.2.1.2.2.1, (y7.2.1.2.2.2.1, (y7.2.1.2.2.2.2.1, (y7.2.1.2.2.2.2.2.1, ())))))), ()))) (fun y8 => obind (P_steps_Run_Begin ((), ((y8.2.1.1, (y8.2.1.2.1, (y8.2.1.2.2.1, (y8.2.1.2.2.2.1, (y8.2.1.2.2.2.2.1, (y8.2.1.2.2.2.2.2.1, ())))))), ()))) (fun y9 => obind (P_steps_Run_Do ((((14 : Int), (([] : List (UInt8)), (([] : List (UInt8)), ((0 : Int), ((0 : Int), ((0 : Int), (([] : List (UInt8)), ((0 : Int), ((0 : Int), ()))))))))), ()), ((y9.2.1.1, (y9.2.1.2.1, (y9.2.1.2.2.1, (y9.2.1.2.2.2.1, (y9.2.1.2.2.2.2.1, (y9.2.1.2.2.2.2.2.1, ())))))), ()))) (fun y10 => sel (sel (sel (sel (sel (sel (sel (sel (sel (eqI y1.1.1.1 14)
  (eqI y2.1.1.1 13)
  false)
  y2.1.2.1
  false)
  (eqI y3.1.1 0)
  false)
  (eqI y4.1.1 1)
  false)
  (eqI y5.1.1.1 14)
  false)
  (eqI y7.1.1.2.1 7)
  false)
  (eqI y8.1.1.1 14)
  false)
  (eqI y10.1.1.1 1)
  false)
  (obind (P_steps_Run_Len ((), ((y10.2.1.1, (y10.2.1.2.1, (y10.2.1.2.2.1, (y10.2.1.2.2.2.1, (y10.2.1.2.2.2.2.1, (y10.2.1.2.2.2.2.2.1, ())))))), ()))) (fun y11 => some (eqI y11.1.1 1, ())))
  (some (false, ()))))))))))))

noncomputable def P_ref09_SameRes_L0 (x : S1x2 × S1x2 × Unit) (y1 : (Bool × Int × Unit) × Unit) : Option (((Bool × Int × Unit) × Unit) ⊕ (Nat × (Bool × Int × Unit) × Unit)) :=
  sel (sel (ltI y1.1.2.1 (len x.1.2.2.2.1))
  (ltI y1.1.2.1 (len x.2.1.2.2.2.1))
  false)
  (obind (idx x.1.2.2.2.1 y1.1.2.1) (fun y2 => obind (idx x.2.1.2.2.2.1 y1.1.2.1) (fun y3 => sel (nt (eqS y2 y3))
  (some (Sum.inr (1, ((false, (y1.1.2.1, ())), ()))))
  (some (Sum.inl ((y1.1.1, (iadd IntKind.i64 y1.1.2.1 1, ())), ()))))))
  (some (Sum.inr (0, ((y1.1.1, (y1.1.2.1, ())), ()))))

noncomputable def P_ref09_SameRes (x : S1x2 × S1x2 × Unit) : Option (Bool × Unit) :=
  sel (sel (nt (sel (nt (sel (nt (nt (eqI x.1.1 x.2.1.1)))
  (nt (eqI x.1.2.1 x.2.1.2.1))
  true))
  (nt (eqS x.1.2.2.1 x.2.1.2.2.1))
  true))
  (nt (eqI (len x.1.2.2.2.1) (len x.2.1.2.2.2.1)))
  true)
  (some (false, ()))
  (obind (Loop (P_ref09_SameRes_L0 x) ((false, ((0 : Int), ())), ())) (fun y1 => sel (eqN y1.1 0)
  (some (true, ()))
  (some (y1.2.1.1, ()))))

noncomputable def P_ref26_Small_L0 (x : (List (Int × S1x1 × S1x2 × Unit)) × Int × Unit) (y1 : (Bool × Int × Unit) × Unit) : Option (((Bool × Int × Unit) × Unit) ⊕ (Nat × (Bool × Int × Unit) × Unit)) :=
  sel (sel (ltI y1.1.2.1 (len x.1))
  (ltI y1.1.2.1 x.2.1)
  false)
  (obind (idx x.1 y1.1.2.1) (fun y2 => obind (sel (nt (ltI 100 (len y2.2.1.2.1)))
  (obind (idx x.1 y1.1.2.1) (fun y3 => some (ltI 100 (len y3.2.1.2.2.1))))
  (some true)) (fun y3 => obind (sel (nt y3)
  (obind (idx x.1 y1.1.2.1) (fun y4 => some (ltI 100 (len y4.2.1.2.2.2.2.2.2.1))))
  (some true)) (fun y4 => obind (sel (nt y4)
  (obind (idx x.1 y1.1.2.1) (fun y5 => some (ltI 100 (len y5.2.2.1.2.2.1))))
  (some true)) (fun y5 => obind (sel (nt y5)
  (obind (idx x.1 y1.1.2.1) (fun y6 => some (ltI 8 (len y6.2.2.1.2.2.2.1))))
  (some true)) (fun y6 => sel y6
  (some (Sum.inr (1, ((false, (y1.1.2.1, ())), ()))))
  (some (Sum.inl ((y1.1.1, (iadd IntKind.i64 y1.1.2.1 1, ())), ())))))))))
  (some (Sum.inr (0, ((y1.1.1, (y1.1.2.1, ())), ()))))

noncomputable def P_ref26_Small (x : (List (Int × S1x1 × S1x2 × Unit)) × Int × Unit) : Option (Bool × Unit) :=
  obind (Loop (P_ref26_Small_L0 x) ((false, ((0 : Int), ())), ())) (fun y1 => sel (eqN y1.1 0)
  (some (leI (len x.1) x.2.1, ()))
  (some (y1.2.1.1, ())))

noncomputable def P_steps_Run_Log_L0 (y1 : (Int × Unit) × S1x0 × Unit) (y2 : (Unit × Unit × Int × Unit) × (List S1x2) × (List S1x1) × Unit) : Option (S1x3 ⊕ S1x3) :=
  way1 (sel (ltI y2.1.2.2.1 y1.1.1)
  (sel (within y2.1.2.2.1 (len y1.2.1.2.1))
  (obind (idx y1.2.1.2.1 y2.1.2.2.1) (fun y3 => sel (fits (plus (len y2.2.2.1) (len ([y3.1] : List S1x1))))
  (sel (within y2.1.2.2.1 (len y1.2.1.2.1))
  (obind (idx y1.2.1.2.1 y2.1.2.2.1) (fun y4 => obind (P_steps_answer (y4.2.1, ())) (fun y5 => sel (fits (plus (len y2.2.1) (len ([y5.1] : List S1x2))))
  (some (Sum.inl (((), ((), (iadd IntKind.i64 y2.1.2.2.1 1, ()))), (app y2.2.1 ([y5.1] : List S1x2), (app y2.2.2.1 ([y3.1] : List S1x1), ())))))
  none)))
  none)
  none))
  none)
  (some (Sum.inr (0, (((), ((), (y2.1.2.2.1, ()))), (y2.2.1, (y2.2.2.1, ())))))))

noncomputable def P_steps_Run_Log (x : Unit × S1x0 × Unit) : Option (((List S1x1) × (List S1x2) × Unit) × S1x0 × Unit) :=
  obind (P_steps_Run_Len ((), ((x.2.1.1, (x.2.1.2.1, (x.2.1.2.2.1, (x.2.1.2.2.2.1, (x.2.1.2.2.2.2.1, (x.2.1.2.2.2.2.2.1, ())))))), ()))) (fun y1 => obind (Loop (P_steps_Run_Log_L0 y1) (((), ((), ((0 : Int), ()))), (([] : List S1x2), (([] : List S1x1), ())))) (fun y2 => some ((y2.2.2.1, (y2.2.1, ())), ((y1.2.1.1, (y1.2.1.2.1, (y1.2.1.2.2.1, (y1.2.1.2.2.2.1, (y1.2.1.2.2.2.2.1, (y1.2.1.2.2.2.2.2.1, ())))))), ()))))

noncomputable def P_steps_Run_Log_nil_L0 (y1 : (Int × Unit) × Unit × Unit) (y2 : (Unit × Unit × Int × Unit) × (List S1x2) × (List S1x1) × Unit) : Option (S1x3 ⊕ S1x3) :=
  way1 (sel (ltI y2.1.2.2.1 y1.1.1)
  none
  (some (Sum.inr (0, (((), ((), (y2.1.2.2.1, ()))), (y2.2.1, (y2.2.2.1, ())))))))

noncomputable def P_steps_Run_Log_nil (x : Unit × Unit × Unit) : Option (((List S1x1) × (List S1x2) × Unit) × Unit × Unit) :=
  obind (P_steps_Run_Len_nil ((), ((), ()))) (fun y1 => obind (Loop (P_steps_Run_Log_nil_L0 y1) (((), ((), ((0 : Int), ()))), (([] : List S1x2), (([] : List S1x1), ())))) (fun y2 => some ((y2.2.2.1, (y2.2.1, ())), ((), ()))))

noncomputable def P_law26_StepsNobody (x : (Int × S1x1 × S1x2 × Unit) × Unit) : Option (Bool × Unit) :=
  obind (P_ref26_Small (([x.1] : List (Int × S1x1 × S1x2 × Unit)), ((1 : Int), ()))) (fun y1 => sel (nt y1.1)
  (obind (P_law26_awake ()) (fun y2 => some (y2.1, ())))
  (obind (P_steps_Run_Begin_nil ((), ((), ()))) (fun y2 => obind (P_steps_Run_Do_nil ((x.1.2.1, ()), ((), ()))) (fun y3 => obind (P_steps_Run_Want_nil ((), ((), ()))) (fun y4 => obind (P_steps_Run_Log_nil ((), ((), ()))) (fun y5 => obind (P_ref09_SameRes (y3.1.1, (((1 : Int), ((0 : Int), (([] : List (UInt8)), (([] : List Sb), ())))), ()))) (fun y6 => sel (nt y6.1)
  (some (false, ()))
  (sel y4.1.2.1
  (some (false, ()))
  (sel (nt (an (eqI y4.1.1.1 0) (an (eqS y4.1.1.2.1 ([] : List (UInt8))) (an (eqS y4.1.1.2.2.1 ([] : List (UInt8))) (an (eqI y4.1.1.2.2.2.1 0) (an (eqI y4.1.1.2.2.2.2.1 0) (an (eqI y4.1.1.2.2.2.2.2.1 0) (an (eqS y4.1.1.2.2.2.2.2.2.1 ([] : List (UInt8))) (an (eqI y4.1.1.2.2.2.2.2.2.2.1 0) (an (eqI y4.1.1.2.2.2.2.2.2.2.2.1 0) true))))))))))
  (some (false, ()))
  (obind (P_steps_Run_Give_nil ((x.1.2.2.1, ()), ((), ()))) (fun y7 => sel (nt (eqI y7.1.1 1))
  (some (false, ()))
  (obind (P_steps_Run_Len_nil ((), ((), ()))) (fun y8 => sel (nt (eqI y8.1.1 0))
  (some (false, ()))
  (sel (nt (eqI (iadd IntKind.i64 (len y5.1.1) (len y5.1.2.1)) 0))
  (some (false, ()))
  (obind (P_steps_Run_Begin ((), ((false, (([] : List (S1x1 × S1x2 × Unit)), ((0 : Int), (false, (false, (((0 : Int), (([] : List (UInt8)), (([] : List (UInt8)), ((0 : Int), ((0 : Int), ((0 : Int), (([] : List (UInt8)), ((0 : Int), ((0 : Int), ()))))))))), ())))))), ()))) (fun y9 => obind (P_steps_Run_Do ((x.1.2.1, ()), ((y9.2.1.1, (y9.2.1.2.1, (y9.2.1.2.2.1, (y9.2.1.2.2.2.1, (y9.2.1.2.2.2.2.1, (y9.2.1.2.2.2.2.2.1, ())))))), ()))) (fun y10 => obind (P_steps_Run_Want ((), ((y10.2.1.1, (y10.2.1.2.1, (y10.2.1.2.2.1, (y10.2.1.2.2.2.1, (y10.2.1.2.2.2.2.1, (y10.2.1.2.2.2.2.2.1, ())))))), ()))) (fun y11 => obind (P_steps_Run_Log ((), ((y11.2.1.1, (y11.2.1.2.1, (y11.2.1.2.2.1, (y11.2.1.2.2.2.1, (y11.2.1.2.2.2.2.1, (y11.2.1.2.2.2.2.2.1, ())))))), ()))) (fun y12 => obind (P_ref09_SameRes (y10.1.1, (((1 : Int), ((0 : Int), (([] : List (UInt8)), (([] : List Sb), ())))), ()))) (fun y13 => sel (nt y13.1)
  (some (false, ()))
  (sel y11.1.2.1
  (some (false, ()))
  (sel (nt (an (eqI y11.1.1.1 0) (an (eqS y11.1.1.2.1 ([] : List (UInt8))) (an (eqS y11.1.1.2.2.1 ([] : List (UInt8))) (an (eqI y11.1.1.2.2.2.1 0) (an (eqI y11.1.1.2.2.2.2.1 0) (an (eqI y11.1.1.2.2.2.2.2.1 0) (an (eqS y11.1.1.2.2.2.2.2.2.1 ([] : List (UInt8))) (an (eqI y11.1.1.2.2.2.2.2.2.2.1 0) (an (eqI y11.1.1.2.2.2.2.2.2.2.2.1 0) true))))))))))
  (some (false, ()))
  (obind (P_steps_Run_Give ((x.1.2.2.1, ()), ((y12.2.1.1, (y12.2.1.2.1, (y12.2.1.2.2.1, (y12.2.1.2.2.2.1, (y12.2.1.2.2.2.2.1, (y12.2.1.2.2.2.2.2.1, ())))))), ()))) (fun y14 => sel (nt (eqI y14.1.1 1))
  (some (false, ()))
  (obind (P_steps_Run_Len ((), ((y14.2.1.1, (y14.2.1.2.1, (y14.2.1.2.2.1, (y14.2.1.2.2.2.1, (y14.2.1.2.2.2.2.1, (y14.2.1.2.2.2.2.2.1, ())))))), ()))) (fun y15 => sel (nt (eqI y15.1.1 0))
  (some (false, ()))
  (sel (nt (eqI (iadd IntKind.i64 (len y12.1.1) (len y12.1.2.1)) 0))
  (some (false, ()))
  (obind (P_law26_awake ()) (fun y16 => some (y16.1, ()))))))))))))))))))))))))))))))
end Go.Ge

/- Plain laws of numbers: sums that stay in range, bits of words. -/
namespace Go.Ge
set_option linter.unusedSectionVars false
variable [Lp]
set_option linter.unusedVariables false
set_option linter.unusedSimpArgs false

/-! ### Words of 32 bits -/
/-! ### Tests and places, decided -/
end Go.Ge

/- Work that nobody began: the law. -/
namespace Go.Ge
set_option linter.unusedSectionVars false
variable [Lp]

theorem small26 (x) : ∃ b, P_ref26_Small ([x], ((1 : Int), ())) = some (b, ()) := by
  have hx : idx [x] (0 : Int) = some x := rfl
  have hs : P_ref26_Small_L0 ([x], ((1 : Int), ())) ((false, ((0 : Int), ())), ()) = some (.inr (1, ((false, ((0 : Int), ())), ()))) ∨ P_ref26_Small_L0 ([x], ((1 : Int), ())) ((false, ((0 : Int), ())), ()) = some (.inl ((false, ((1 : Int), ())), ())) := by
    unfold P_ref26_Small_L0
    dsimp only
    rw [hx]
    simp only [obind_some]
    rw [show sel (ltI (0 : Int) (len [x])) (ltI (0 : Int) 1) false = true from rfl, sel_true]
    generalize ltI (100 : Int) (len x.2.1.2.1) = a
    generalize ltI (100 : Int) (len x.2.1.2.2.1) = b
    generalize ltI (100 : Int) (len x.2.1.2.2.2.2.2.2.1) = c
    generalize ltI (100 : Int) (len x.2.2.1.2.2.1) = d
    generalize ltI (8 : Int) (len x.2.2.1.2.2.2.1) = e
    cases a <;> cases b <;> cases c <;> cases d <;> cases e <;> first | exact .inl rfl | exact .inr rfl
  unfold P_ref26_Small
  rcases hs with h | h
  · refine ⟨false, ?_⟩
    rw [Loop_eq, h]; rfl
  · refine ⟨true, ?_⟩
    rw [Loop_eq, h]
    show obind (Loop _ _) _ = _
    rw [Loop_eq]
    rfl

theorem awake26 : P_law26_awake () = some (true, ()) := by
  obtain rfl : ‹Lp› = Lp.fast := Lp.one _ _
  kernel_rfl

theorem stepsNobody_val (x) : P_law26_StepsNobody x = some (true, ()) := by
  unfold P_law26_StepsNobody
  obtain ⟨b, hb⟩ := small26 x.1
  rw [hb, obind_some]
  cases b with
  | false => dsimp only; rw [nt_false, sel_true, awake26]; rfl
  | true =>
    dsimp only
    rw [nt_true, sel_false]
    simp only [awake26]
    obtain rfl : ‹Lp› = Lp.fast := Lp.one _ _
    kernel_rfl

end Go.Ge
