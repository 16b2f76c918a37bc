/- What the functions of layer 27 compute, as plain programs (written by a program from what the ghost interpreter comes to). -/
import Derived.Test.YtlhpaedjpdjcfaaDoorGpA
import Derived.Test.YtlhpaedjpdjcfaaDoorGp01
namespace Go.Ge
set_option linter.unusedVariables false
set_option maxRecDepth 100000

noncomputable def P_swap_Temp (x : Int × Int × (List (UInt8)) × Unit) : Option ((List (UInt8)) × Unit) :=
  obind (P_digits_Dec (x.1, ())) (fun (y1 : (List (UInt8)) × Unit) => sel (fits (plus (@len UInt8 ([(116 : UInt8), (109 : UInt8), (112 : UInt8), (47 : UInt8)] : List (UInt8))) (@len UInt8 y1.1)))
  (sel (fits (plus (@len UInt8 (@app UInt8 ([(116 : UInt8), (109 : UInt8), (112 : UInt8), (47 : UInt8)] : List (UInt8)) y1.1)) (@len UInt8 ([(46 : UInt8)] : List (UInt8)))))
  (obind (P_digits_Dec (x.2.1, ())) (fun (y2 : (List (UInt8)) × Unit) => sel (fits (plus (@len UInt8 (@app UInt8 (@app UInt8 ([(116 : UInt8), (109 : UInt8), (112 : UInt8), (47 : UInt8)] : List (UInt8)) y1.1) ([(46 : UInt8)] : List (UInt8)))) (@len UInt8 y2.1)))
  (sel (fits (plus (@len UInt8 (@app UInt8 (@app UInt8 (@app UInt8 ([(116 : UInt8), (109 : UInt8), (112 : UInt8), (47 : UInt8)] : List (UInt8)) y1.1) ([(46 : UInt8)] : List (UInt8))) y2.1)) (@len UInt8 ([(46 : UInt8)] : List (UInt8)))))
  (sel (fits (plus (@len UInt8 (@app UInt8 (@app UInt8 (@app UInt8 (@app UInt8 ([(116 : UInt8), (109 : UInt8), (112 : UInt8), (47 : UInt8)] : List (UInt8)) y1.1) ([(46 : UInt8)] : List (UInt8))) y2.1) ([(46 : UInt8)] : List (UInt8)))) (@len UInt8 x.2.2.1)))
  (some (@app UInt8 (@app UInt8 (@app UInt8 (@app UInt8 (@app UInt8 ([(116 : UInt8), (109 : UInt8), (112 : UInt8), (47 : UInt8)] : List (UInt8)) y1.1) ([(46 : UInt8)] : List (UInt8))) y2.1) ([(46 : UInt8)] : List (UInt8))) x.2.2.1, ()))
  (none : Option ((List (UInt8)) × Unit)))
  (none : Option ((List (UInt8)) × Unit)))
  (none : Option ((List (UInt8)) × Unit))))
  (none : Option ((List (UInt8)) × Unit)))
  (none : Option ((List (UInt8)) × Unit)))

noncomputable def P_ref27_Temp (x : Int × Int × (List (UInt8)) × Unit) : Option ((List (UInt8)) × Unit) :=
  obind (P_ref01_Dec (x.1, ())) (fun (y1 : (List (UInt8)) × Unit) => sel (fits (plus (@len UInt8 ([(116 : UInt8), (109 : UInt8), (112 : UInt8), (47 : UInt8)] : List (UInt8))) (@len UInt8 y1.1)))
  (sel (fits (plus (@len UInt8 (@app UInt8 ([(116 : UInt8), (109 : UInt8), (112 : UInt8), (47 : UInt8)] : List (UInt8)) y1.1)) (@len UInt8 ([(46 : UInt8)] : List (UInt8)))))
  (obind (P_ref01_Dec (x.2.1, ())) (fun (y2 : (List (UInt8)) × Unit) => sel (fits (plus (@len UInt8 (@app UInt8 (@app UInt8 ([(116 : UInt8), (109 : UInt8), (112 : UInt8), (47 : UInt8)] : List (UInt8)) y1.1) ([(46 : UInt8)] : List (UInt8)))) (@len UInt8 y2.1)))
  (sel (fits (plus (@len UInt8 (@app UInt8 (@app UInt8 (@app UInt8 ([(116 : UInt8), (109 : UInt8), (112 : UInt8), (47 : UInt8)] : List (UInt8)) y1.1) ([(46 : UInt8)] : List (UInt8))) y2.1)) (@len UInt8 ([(46 : UInt8)] : List (UInt8)))))
  (sel (fits (plus (@len UInt8 (@app UInt8 (@app UInt8 (@app UInt8 (@app UInt8 ([(116 : UInt8), (109 : UInt8), (112 : UInt8), (47 : UInt8)] : List (UInt8)) y1.1) ([(46 : UInt8)] : List (UInt8))) y2.1) ([(46 : UInt8)] : List (UInt8)))) (@len UInt8 x.2.2.1)))
  (some (@app UInt8 (@app UInt8 (@app UInt8 (@app UInt8 (@app UInt8 ([(116 : UInt8), (109 : UInt8), (112 : UInt8), (47 : UInt8)] : List (UInt8)) y1.1) ([(46 : UInt8)] : List (UInt8))) y2.1) ([(46 : UInt8)] : List (UInt8))) x.2.2.1, ()))
  (none : Option ((List (UInt8)) × Unit)))
  (none : Option ((List (UInt8)) × Unit)))
  (none : Option ((List (UInt8)) × Unit))))
  (none : Option ((List (UInt8)) × Unit)))
  (none : Option ((List (UInt8)) × Unit)))

noncomputable def P_slices_Clone_string_string (x : (List (List (UInt8))) × Unit) : Option ((List (List (UInt8))) × Unit) :=
  bif fits (len x.1) then some (x.1, ()) else none

noncomputable def P_steps_answer (x : (Int × Int × (List (UInt8)) × (List (List (UInt8))) × Unit) × Unit) : Option ((Int × Int × (List (UInt8)) × (List (List (UInt8))) × Unit) × Unit) :=
  obind (P_slices_Clone_string_string (x.1.2.2.2.1, ())) (fun (y1 : (List (List (UInt8))) × Unit) => some ((x.1.1, (x.1.2.1, (x.1.2.2.1, (y1.1, x.1.2.2.2.2)))), ()))

noncomputable def P_slices_Index_api_Errno_api_Errno_L0 (x : (List (Int)) × Int × Unit) (y1 : (Int × Int × Unit) × Unit) : Option (((Int × Int × Unit) × Unit) ⊕ (Nat × (Int × Int × Unit) × Unit)) :=
  sel (ltI y1.1.2.1 (@len Int x.1))
  (obind (@idx Int x.1 y1.1.2.1) (fun (y2 : Int) => sel (eqI x.2.1 y2)
  (some (Sum.inr ((1 : Nat), ((y1.1.2.1, (y1.1.2.1, ())), ())) : (((Int × Int × Unit) × Unit)) ⊕ ((Nat × (Int × Int × Unit) × Unit))))
  (some (Sum.inl ((y1.1.1, (iadd IntKind.i64 y1.1.2.1 (1 : Int), ())), ()) : (((Int × Int × Unit) × Unit)) ⊕ ((Nat × (Int × Int × Unit) × Unit))))))
  (some (Sum.inr ((0 : Nat), ((y1.1.1, (y1.1.2.1, ())), ())) : (((Int × Int × Unit) × Unit)) ⊕ ((Nat × (Int × Int × Unit) × Unit))))

noncomputable def P_slices_Index_api_Errno_api_Errno (x : (List (Int)) × Int × Unit) : Option (Int × Unit) :=
  obind (Loop (P_slices_Index_api_Errno_api_Errno_L0 x) (((0 : Int), ((0 : Int), ())), ())) (fun (y1 : Nat × (Int × Int × Unit) × Unit) => sel (eqN y1.1 (0 : Nat))
  (some ((-1 : Int), ()))
  (some (y1.2.1.1, ())))

noncomputable def P_slices_Contains_api_Errno_api_Errno (x : (List (Int)) × Int × Unit) : Option (Bool × Unit) :=
  obind (P_slices_Index_api_Errno_api_Errno (x.1, (x.2.1, ()))) (fun (y1 : Int × Unit) => some (leI (0 : Int) y1.1, ()))

noncomputable def P_steps_pause (x : Unit) : Option ((Int × Int × (List (UInt8)) × (List (List (UInt8))) × Unit) × Unit) :=
  some (((14 : Int), ((0 : Int), (([] : List (UInt8)), (([] : List (List (UInt8))), ())))), ())

/-- What must come, whatever the arguments are: it comes (the contract shows it: the function has no arguments, and is run). -/
noncomputable def P_law27_awake (x : Unit) : Option (Bool × Unit) := some (true, ())

noncomputable def P_law27_SwapTemp (x : Int × Int × (List (UInt8)) × Unit) : Option (Bool × Unit) :=
  obind (sel (nt (ltI (100 : Int) (@len UInt8 x.2.2.1)))
  (obind (P_swap_Temp (x.1, (x.2.1, (x.2.2.1, ())))) (fun (y1 : (List (UInt8)) × Unit) => obind (P_ref27_Temp (x.1, (x.2.1, (x.2.2.1, ())))) (fun (y2 : (List (UInt8)) × Unit) => some (eqS y1.1 y2.1))))
  (some true)) (fun (y1 : Bool) => obind (sel y1
  (obind (P_law27_awake ()) (fun (y2 : Bool × Unit) => some y2.1))
  (some false)) (fun (y2 : Bool) => some (y2, ())))
end Go.Ge
