/- Plain laws of what the functions compute: part 2. -/
import Derived.Test.YtiggcolkhajijaaGreatDoorPlA
import Derived.Test.YtiggcolkhajijaaGreatDoorGeI
/- What the functions of layer 16z compute, as plain programs (written by a program from what the ghost interpreter comes to). -/
namespace Go.Ge
set_option linter.unusedVariables false
set_option maxRecDepth 100000

noncomputable def P_delta_Changes_L0 (y3 : ((List ((List (UInt8)) × Int × Int × (List (UInt8)) × (List (UInt8)) × Unit)) × (List ((List (UInt8)) × Int × Int × (List (UInt8)) × (List (UInt8)) × Unit)) × Unit) × Unit × Unit × (List (Int × (List (UInt8)) × Unit)) × Unit) : Option ((((List ((List (UInt8)) × Int × Int × (List (UInt8)) × (List (UInt8)) × Unit)) × (List ((List (UInt8)) × Int × Int × (List (UInt8)) × (List (UInt8)) × Unit)) × Unit) × Unit × Unit × (List (Int × (List (UInt8)) × Unit)) × Unit) ⊕ (((List ((List (UInt8)) × Int × Int × (List (UInt8)) × (List (UInt8)) × Unit)) × (List ((List (UInt8)) × Int × Int × (List (UInt8)) × (List (UInt8)) × Unit)) × Unit) × Unit × Unit × (List (Int × (List (UInt8)) × Unit)) × Unit)) :=
  @way1 (((List ((List (UInt8)) × Int × Int × (List (UInt8)) × (List (UInt8)) × Unit)) × (List ((List (UInt8)) × Int × Int × (List (UInt8)) × (List (UInt8)) × Unit)) × Unit) × Unit × Unit × (List (Int × (List (UInt8)) × Unit)) × Unit) (sel (sel (nt (ltI (0 : Int) (@len ((List (UInt8)) × Int × Int × (List (UInt8)) × (List (UInt8)) × Unit) y3.1.1)))
  (ltI (0 : Int) (@len ((List (UInt8)) × Int × Int × (List (UInt8)) × (List (UInt8)) × Unit) y3.1.2.1))
  true)
  (obind (sel (eqI (@len ((List (UInt8)) × Int × Int × (List (UInt8)) × (List (UInt8)) × Unit) y3.1.1) (0 : Int))
  (some (((1 : Int), ()), ()))
  (obind (sel (eqI (@len ((List (UInt8)) × Int × Int × (List (UInt8)) × (List (UInt8)) × Unit) y3.1.2.1) (0 : Int))
  (some (((-1 : Int), ()), ()))
  (obind (@idx ((List (UInt8)) × Int × Int × (List (UInt8)) × (List (UInt8)) × Unit) y3.1.1 (0 : Int)) (fun (y4 : (List (UInt8)) × Int × Int × (List (UInt8)) × (List (UInt8)) × Unit) => obind (@idx ((List (UInt8)) × Int × Int × (List (UInt8)) × (List (UInt8)) × Unit) y3.1.2.1 (0 : Int)) (fun (y5 : (List (UInt8)) × Int × Int × (List (UInt8)) × (List (UInt8)) × Unit) => obind (P_paths_Compare (y4.1, (y5.1, ()))) (fun (y6 : Int × Unit) => some ((y6.1, ()), ())))))) (fun (y4 : (Int × Unit) × Unit) => some ((y4.1.1, ()), ())))) (fun (y4 : (Int × Unit) × Unit) => obind (sel (ltI y4.1.1 (0 : Int))
  (obind (@idx ((List (UInt8)) × Int × Int × (List (UInt8)) × (List (UInt8)) × Unit) y3.1.1 (0 : Int)) (fun (y5 : (List (UInt8)) × Int × Int × (List (UInt8)) × (List (UInt8)) × Unit) => sel (fits (plus (@len (Int × (List (UInt8)) × Unit) y3.2.2.2.1) (@len (Int × (List (UInt8)) × Unit) ([((3 : Int), (y5.1, ()))] : List (Int × (List (UInt8)) × Unit)))))
  (some ((), ((), ((), (@app (Int × (List (UInt8)) × Unit) y3.2.2.2.1 ([((3 : Int), (y5.1, ()))] : List (Int × (List (UInt8)) × Unit)), ())))))
  (none : Option (Unit × Unit × Unit × (List (Int × (List (UInt8)) × Unit)) × Unit))))
  (obind (sel (ltI (0 : Int) y4.1.1)
  (obind (@idx ((List (UInt8)) × Int × Int × (List (UInt8)) × (List (UInt8)) × Unit) y3.1.2.1 (0 : Int)) (fun (y5 : (List (UInt8)) × Int × Int × (List (UInt8)) × (List (UInt8)) × Unit) => sel (fits (plus (@len (Int × (List (UInt8)) × Unit) y3.2.2.2.1) (@len (Int × (List (UInt8)) × Unit) ([((1 : Int), (y5.1, ()))] : List (Int × (List (UInt8)) × Unit)))))
  (some ((), ((), ((), (@app (Int × (List (UInt8)) × Unit) y3.2.2.2.1 ([((1 : Int), (y5.1, ()))] : List (Int × (List (UInt8)) × Unit)), ())))))
  (none : Option (Unit × Unit × Unit × (List (Int × (List (UInt8)) × Unit)) × Unit))))
  (obind (@idx ((List (UInt8)) × Int × Int × (List (UInt8)) × (List (UInt8)) × Unit) y3.1.1 (0 : Int)) (fun (y5 : (List (UInt8)) × Int × Int × (List (UInt8)) × (List (UInt8)) × Unit) => obind (@idx ((List (UInt8)) × Int × Int × (List (UInt8)) × (List (UInt8)) × Unit) y3.1.2.1 (0 : Int)) (fun (y6 : (List (UInt8)) × Int × Int × (List (UInt8)) × (List (UInt8)) × Unit) => obind (sel (nt (an (eqS y5.1 y6.1) (an (eqI y5.2.1 y6.2.1) (an (eqI y5.2.2.1 y6.2.2.1) (an (eqS y5.2.2.2.1 y6.2.2.2.1) (an (eqS y5.2.2.2.2.1 y6.2.2.2.2.1) true))))))
  (sel (fits (plus (@len (Int × (List (UInt8)) × Unit) y3.2.2.2.1) (@len (Int × (List (UInt8)) × Unit) ([((2 : Int), (y5.1, ()))] : List (Int × (List (UInt8)) × Unit)))))
  (some ((), ((), ((), (@app (Int × (List (UInt8)) × Unit) y3.2.2.2.1 ([((2 : Int), (y5.1, ()))] : List (Int × (List (UInt8)) × Unit)), ())))))
  (none : Option (Unit × Unit × Unit × (List (Int × (List (UInt8)) × Unit)) × Unit)))
  (some ((), ((), ((), (y3.2.2.2.1, ())))))) (fun (y7 : Unit × Unit × Unit × (List (Int × (List (UInt8)) × Unit)) × Unit) => some ((), ((), ((), (y7.2.2.2.1, ()))))))))) (fun (y5 : Unit × Unit × Unit × (List (Int × (List (UInt8)) × Unit)) × Unit) => some ((), ((), ((), (y5.2.2.2.1, ()))))))) (fun (y5 : Unit × Unit × Unit × (List (Int × (List (UInt8)) × Unit)) × Unit) => obind (sel (leI y4.1.1 (0 : Int))
  (sel (inside (1 : Int) (@len ((List (UInt8)) × Int × Int × (List (UInt8)) × (List (UInt8)) × Unit) y3.1.1) (@len ((List (UInt8)) × Int × Int × (List (UInt8)) × (List (UInt8)) × Unit) y3.1.1))
  (some ((@sub ((List (UInt8)) × Int × Int × (List (UInt8)) × (List (UInt8)) × Unit) y3.1.1 (1 : Int) (minus (@len ((List (UInt8)) × Int × Int × (List (UInt8)) × (List (UInt8)) × Unit) y3.1.1) (1 : Int)), ()), ()))
  (none : Option (((List ((List (UInt8)) × Int × Int × (List (UInt8)) × (List (UInt8)) × Unit)) × Unit) × Unit)))
  (some ((y3.1.1, ()), ()))) (fun (y6 : ((List ((List (UInt8)) × Int × Int × (List (UInt8)) × (List (UInt8)) × Unit)) × Unit) × Unit) => obind (sel (leI (0 : Int) y4.1.1)
  (sel (inside (1 : Int) (@len ((List (UInt8)) × Int × Int × (List (UInt8)) × (List (UInt8)) × Unit) y3.1.2.1) (@len ((List (UInt8)) × Int × Int × (List (UInt8)) × (List (UInt8)) × Unit) y3.1.2.1))
  (some ((@sub ((List (UInt8)) × Int × Int × (List (UInt8)) × (List (UInt8)) × Unit) y3.1.2.1 (1 : Int) (minus (@len ((List (UInt8)) × Int × Int × (List (UInt8)) × (List (UInt8)) × Unit) y3.1.2.1) (1 : Int)), ()), ()))
  (none : Option (((List ((List (UInt8)) × Int × Int × (List (UInt8)) × (List (UInt8)) × Unit)) × Unit) × Unit)))
  (some ((y3.1.2.1, ()), ()))) (fun (y7 : ((List ((List (UInt8)) × Int × Int × (List (UInt8)) × (List (UInt8)) × Unit)) × Unit) × Unit) => some (Sum.inl ((y6.1.1, (y7.1.1, ())), ((), ((), (y5.2.2.2.1, ())))) : ((((List ((List (UInt8)) × Int × Int × (List (UInt8)) × (List (UInt8)) × Unit)) × (List ((List (UInt8)) × Int × Int × (List (UInt8)) × (List (UInt8)) × Unit)) × Unit) × Unit × Unit × (List (Int × (List (UInt8)) × Unit)) × Unit)) ⊕ ((Nat × ((List ((List (UInt8)) × Int × Int × (List (UInt8)) × (List (UInt8)) × Unit)) × (List ((List (UInt8)) × Int × Int × (List (UInt8)) × (List (UInt8)) × Unit)) × Unit) × Unit × Unit × (List (Int × (List (UInt8)) × Unit)) × Unit))))))))
  (some (Sum.inr ((0 : Nat), ((y3.1.1, (y3.1.2.1, ())), ((), ((), (y3.2.2.2.1, ()))))) : ((((List ((List (UInt8)) × Int × Int × (List (UInt8)) × (List (UInt8)) × Unit)) × (List ((List (UInt8)) × Int × Int × (List (UInt8)) × (List (UInt8)) × Unit)) × Unit) × Unit × Unit × (List (Int × (List (UInt8)) × Unit)) × Unit)) ⊕ ((Nat × ((List ((List (UInt8)) × Int × Int × (List (UInt8)) × (List (UInt8)) × Unit)) × (List ((List (UInt8)) × Int × Int × (List (UInt8)) × (List (UInt8)) × Unit)) × Unit) × Unit × Unit × (List (Int × (List (UInt8)) × Unit)) × Unit)))))

noncomputable def P_delta_Changes (x : (List ((List (UInt8)) × Int × Int × (List (UInt8)) × (List (UInt8)) × Unit)) × (List ((List (UInt8)) × Int × Int × (List (UInt8)) × (List (UInt8)) × Unit)) × Unit) : Option ((List (Int × (List (UInt8)) × Unit)) × Int × Unit) :=
  obind (P_tree_Check (x.1, ())) (fun (y1 : Int × Unit) => obind (sel (nt (nt (eqI y1.1 (0 : Int))))
  (obind (P_tree_Check (x.2.1, ())) (fun (y2 : Int × Unit) => some (nt (eqI y2.1 (0 : Int)))))
  (some true)) (fun (y2 : Bool) => sel y2
  (some (([] : List (Int × (List (UInt8)) × Unit)), ((1 : Int), ())))
  (obind (Loop (P_delta_Changes_L0) ((x.1, (x.2.1, ())), ((), ((), (([] : List (Int × (List (UInt8)) × Unit)), ()))))) (fun (y3 : ((List ((List (UInt8)) × Int × Int × (List (UInt8)) × (List (UInt8)) × Unit)) × (List ((List (UInt8)) × Int × Int × (List (UInt8)) × (List (UInt8)) × Unit)) × Unit) × Unit × Unit × (List (Int × (List (UInt8)) × Unit)) × Unit) => some (y3.2.2.2.1, ((0 : Int), ()))))))

noncomputable def P_delta_part (x : ((List (UInt8)) × Int × Int × (List (UInt8)) × (List (UInt8)) × Unit) × Unit) : Option ((((List (UInt8)) × Int × Int × Int × Int × Int × Int × (List (UInt8)) × Unit) × (List (UInt8)) × Unit) × Unit) :=
  obind (sel (eqI x.1.2.1 (2 : Int))
  (sel (fits (plus (@len UInt8 x.1.1) (@len UInt8 ([(47 : UInt8)] : List (UInt8)))))
  (some ((), ((@app UInt8 x.1.1 ([(47 : UInt8)] : List (UInt8)), (x.1.2.1, (x.1.2.2.1, ((0 : Int), ((0 : Int), (@len UInt8 x.1.2.2.2.1, ((0 : Int), (x.1.2.2.2.2.1, ())))))))), ())))
  (none : Option (Unit × ((List (UInt8)) × Int × Int × Int × Int × Int × Int × (List (UInt8)) × Unit) × Unit)))
  (some ((), ((x.1.1, (x.1.2.1, (x.1.2.2.1, ((0 : Int), ((0 : Int), (@len UInt8 x.1.2.2.2.1, ((0 : Int), (x.1.2.2.2.2.1, ())))))))), ())))) (fun (y1 : Unit × ((List (UInt8)) × Int × Int × Int × Int × Int × Int × (List (UInt8)) × Unit) × Unit) => some ((y1.2.1, (x.1.2.2.2.1, ())), ()))

noncomputable def P_delta_Parts_L0 (x : (List ((List (UInt8)) × Int × Int × (List (UInt8)) × (List (UInt8)) × Unit)) × (List ((List (UInt8)) × Int × Int × (List (UInt8)) × (List (UInt8)) × Unit)) × Unit) (y1 : (List (Int × (List (UInt8)) × Unit)) × Int × Unit) (y2 : (Unit × Int × Unit) × (List (((List (UInt8)) × Int × Int × Int × Int × Int × Int × (List (UInt8)) × Unit) × (List (UInt8)) × Unit)) × Unit) : Option (((Unit × Int × Unit) × (List (((List (UInt8)) × Int × Int × Int × Int × Int × Int × (List (UInt8)) × Unit) × (List (UInt8)) × Unit)) × Unit) ⊕ ((Unit × Int × Unit) × (List (((List (UInt8)) × Int × Int × Int × Int × Int × Int × (List (UInt8)) × Unit) × (List (UInt8)) × Unit)) × Unit)) :=
  @way1 ((Unit × Int × Unit) × (List (((List (UInt8)) × Int × Int × Int × Int × Int × Int × (List (UInt8)) × Unit) × (List (UInt8)) × Unit)) × Unit) (sel (ltI y2.1.2.1 (@len (Int × (List (UInt8)) × Unit) y1.1))
  (obind (@idx (Int × (List (UInt8)) × Unit) y1.1 y2.1.2.1) (fun (y3 : Int × (List (UInt8)) × Unit) => sel (nt (eqI y3.1 (3 : Int)))
  (obind (P_tree_Find (x.2.1, (y3.2.1, ()))) (fun (y4 : ((List (UInt8)) × Int × Int × (List (UInt8)) × (List (UInt8)) × Unit) × Bool × Unit) => obind (P_delta_part (y4.1, ())) (fun (y5 : (((List (UInt8)) × Int × Int × Int × Int × Int × Int × (List (UInt8)) × Unit) × (List (UInt8)) × Unit) × Unit) => sel (fits (plus (@len (((List (UInt8)) × Int × Int × Int × Int × Int × Int × (List (UInt8)) × Unit) × (List (UInt8)) × Unit) y2.2.1) (@len (((List (UInt8)) × Int × Int × Int × Int × Int × Int × (List (UInt8)) × Unit) × (List (UInt8)) × Unit) ([y5.1] : List (((List (UInt8)) × Int × Int × Int × Int × Int × Int × (List (UInt8)) × Unit) × (List (UInt8)) × Unit)))))
  (some (Sum.inl (((), (iadd IntKind.i64 y2.1.2.1 (1 : Int), ())), (@app (((List (UInt8)) × Int × Int × Int × Int × Int × Int × (List (UInt8)) × Unit) × (List (UInt8)) × Unit) y2.2.1 ([y5.1] : List (((List (UInt8)) × Int × Int × Int × Int × Int × Int × (List (UInt8)) × Unit) × (List (UInt8)) × Unit)), ())) : (((Unit × Int × Unit) × (List (((List (UInt8)) × Int × Int × Int × Int × Int × Int × (List (UInt8)) × Unit) × (List (UInt8)) × Unit)) × Unit)) ⊕ ((Nat × (Unit × Int × Unit) × (List (((List (UInt8)) × Int × Int × Int × Int × Int × Int × (List (UInt8)) × Unit) × (List (UInt8)) × Unit)) × Unit))))
  (none : Option (((Unit × Int × Unit) × (List (((List (UInt8)) × Int × Int × Int × Int × Int × Int × (List (UInt8)) × Unit) × (List (UInt8)) × Unit)) × Unit) ⊕ (Nat × (Unit × Int × Unit) × (List (((List (UInt8)) × Int × Int × Int × Int × Int × Int × (List (UInt8)) × Unit) × (List (UInt8)) × Unit)) × Unit))))))
  (obind (P_paths_Split (y3.2.1, ())) (fun (y4 : (List (UInt8)) × (List (UInt8)) × Unit) => obind (P_tree_Find (x.2.1, (y4.1, ()))) (fun (y5 : ((List (UInt8)) × Int × Int × (List (UInt8)) × (List (UInt8)) × Unit) × Bool × Unit) => obind (sel (sel (nt (eqS y4.1 ([] : List (UInt8))))
  (sel y5.2.1
  (eqI y5.1.2.1 (2 : Int))
  false)
  true)
  (sel (fits (plus (@len UInt8 ([(46 : UInt8), (119 : UInt8), (104 : UInt8), (46 : UInt8)] : List (UInt8))) (@len UInt8 y4.2.1)))
  (obind (P_paths_Join (y4.1, (@app UInt8 ([(46 : UInt8), (119 : UInt8), (104 : UInt8), (46 : UInt8)] : List (UInt8)) y4.2.1, ()))) (fun (y6 : (List (UInt8)) × Unit) => sel (fits (plus (@len (((List (UInt8)) × Int × Int × Int × Int × Int × Int × (List (UInt8)) × Unit) × (List (UInt8)) × Unit) y2.2.1) (@len (((List (UInt8)) × Int × Int × Int × Int × Int × Int × (List (UInt8)) × Unit) × (List (UInt8)) × Unit) ([((y6.1, ((1 : Int), ((0 : Int), ((0 : Int), ((0 : Int), ((0 : Int), ((0 : Int), (([] : List (UInt8)), ())))))))), (([] : List (UInt8)), ()))] : List (((List (UInt8)) × Int × Int × Int × Int × Int × Int × (List (UInt8)) × Unit) × (List (UInt8)) × Unit)))))
  (some (((), ()), (@app (((List (UInt8)) × Int × Int × Int × Int × Int × Int × (List (UInt8)) × Unit) × (List (UInt8)) × Unit) y2.2.1 ([((y6.1, ((1 : Int), ((0 : Int), ((0 : Int), ((0 : Int), ((0 : Int), ((0 : Int), (([] : List (UInt8)), ())))))))), (([] : List (UInt8)), ()))] : List (((List (UInt8)) × Int × Int × Int × Int × Int × Int × (List (UInt8)) × Unit) × (List (UInt8)) × Unit)), ())))
  (none : Option ((Unit × Unit) × (List (((List (UInt8)) × Int × Int × Int × Int × Int × Int × (List (UInt8)) × Unit) × (List (UInt8)) × Unit)) × Unit))))
  (none : Option ((Unit × Unit) × (List (((List (UInt8)) × Int × Int × Int × Int × Int × Int × (List (UInt8)) × Unit) × (List (UInt8)) × Unit)) × Unit)))
  (some (((), ()), (y2.2.1, ())))) (fun (y6 : (Unit × Unit) × (List (((List (UInt8)) × Int × Int × Int × Int × Int × Int × (List (UInt8)) × Unit) × (List (UInt8)) × Unit)) × Unit) => some (Sum.inl (((), (iadd IntKind.i64 y2.1.2.1 (1 : Int), ())), (y6.2.1, ())) : (((Unit × Int × Unit) × (List (((List (UInt8)) × Int × Int × Int × Int × Int × Int × (List (UInt8)) × Unit) × (List (UInt8)) × Unit)) × Unit)) ⊕ ((Nat × (Unit × Int × Unit) × (List (((List (UInt8)) × Int × Int × Int × Int × Int × Int × (List (UInt8)) × Unit) × (List (UInt8)) × Unit)) × Unit)))))))))
  (some (Sum.inr ((0 : Nat), (((), (y2.1.2.1, ())), (y2.2.1, ()))) : (((Unit × Int × Unit) × (List (((List (UInt8)) × Int × Int × Int × Int × Int × Int × (List (UInt8)) × Unit) × (List (UInt8)) × Unit)) × Unit)) ⊕ ((Nat × (Unit × Int × Unit) × (List (((List (UInt8)) × Int × Int × Int × Int × Int × Int × (List (UInt8)) × Unit) × (List (UInt8)) × Unit)) × Unit)))))

noncomputable def P_delta_Parts (x : (List ((List (UInt8)) × Int × Int × (List (UInt8)) × (List (UInt8)) × Unit)) × (List ((List (UInt8)) × Int × Int × (List (UInt8)) × (List (UInt8)) × Unit)) × Unit) : Option ((List (((List (UInt8)) × Int × Int × Int × Int × Int × Int × (List (UInt8)) × Unit) × (List (UInt8)) × Unit)) × Int × Unit) :=
  obind (P_delta_Changes (x.1, (x.2.1, ()))) (fun (y1 : (List (Int × (List (UInt8)) × Unit)) × Int × Unit) => sel (nt (eqI y1.2.1 (0 : Int)))
  (some (([] : List (((List (UInt8)) × Int × Int × Int × Int × Int × Int × (List (UInt8)) × Unit) × (List (UInt8)) × Unit)), (y1.2.1, ())))
  (obind (Loop (P_delta_Parts_L0 x y1) (((), ((0 : Int), ())), (([] : List (((List (UInt8)) × Int × Int × Int × Int × Int × Int × (List (UInt8)) × Unit) × (List (UInt8)) × Unit)), ()))) (fun (y2 : (Unit × Int × Unit) × (List (((List (UInt8)) × Int × Int × Int × Int × Int × Int × (List (UInt8)) × Unit) × (List (UInt8)) × Unit)) × Unit) => some (y2.2.1, ((0 : Int), ())))))

noncomputable def P_delta_Diff (x : (List ((List (UInt8)) × Int × Int × (List (UInt8)) × (List (UInt8)) × Unit)) × (List ((List (UInt8)) × Int × Int × (List (UInt8)) × (List (UInt8)) × Unit)) × Unit) : Option ((List (UInt8)) × Int × Unit) :=
  obind (P_delta_Parts (x.1, (x.2.1, ()))) (fun (y1 : (List (((List (UInt8)) × Int × Int × Int × Int × Int × Int × (List (UInt8)) × Unit) × (List (UInt8)) × Unit)) × Int × Unit) => sel (nt (eqI y1.2.1 (0 : Int)))
  (some (([] : List (UInt8)), (y1.2.1, ())))
  (obind (P_tar_Write (y1.1, ())) (fun (y2 : (List (UInt8)) × Int × Unit) => some (y2.1, (y2.2.1, ())))))

noncomputable def P_ref16_Same_L0 (x : (List (Int × (List (UInt8)) × Unit)) × (List (Int × (List (UInt8)) × Unit)) × Unit) (y1 : (Bool × Int × Unit) × Unit) : Option (((Bool × Int × Unit) × Unit) ⊕ (Nat × (Bool × Int × Unit) × Unit)) :=
  sel (sel (ltI y1.1.2.1 (@len (Int × (List (UInt8)) × Unit) x.1))
  (ltI y1.1.2.1 (@len (Int × (List (UInt8)) × Unit) x.2.1))
  false)
  (obind (@idx (Int × (List (UInt8)) × Unit) x.1 y1.1.2.1) (fun (y2 : Int × (List (UInt8)) × Unit) => obind (@idx (Int × (List (UInt8)) × Unit) x.2.1 y1.1.2.1) (fun (y3 : Int × (List (UInt8)) × Unit) => sel (nt (an (eqI y2.1 y3.1) (an (eqS y2.2.1 y3.2.1) true)))
  (some (Sum.inr ((1 : Nat), ((false, (y1.1.2.1, ())), ())) : (((Bool × Int × Unit) × Unit)) ⊕ ((Nat × (Bool × Int × Unit) × Unit))))
  (some (Sum.inl ((y1.1.1, (iadd IntKind.i64 y1.1.2.1 (1 : Int), ())), ()) : (((Bool × Int × Unit) × Unit)) ⊕ ((Nat × (Bool × Int × Unit) × Unit)))))))
  (some (Sum.inr ((0 : Nat), ((y1.1.1, (y1.1.2.1, ())), ())) : (((Bool × Int × Unit) × Unit)) ⊕ ((Nat × (Bool × Int × Unit) × Unit))))

noncomputable def P_ref16_Same (x : (List (Int × (List (UInt8)) × Unit)) × (List (Int × (List (UInt8)) × Unit)) × Unit) : Option (Bool × Unit) :=
  sel (nt (eqI (@len (Int × (List (UInt8)) × Unit) x.1) (@len (Int × (List (UInt8)) × Unit) x.2.1)))
  (some (false, ()))
  (obind (Loop (P_ref16_Same_L0 x) ((false, ((0 : Int), ())), ())) (fun (y1 : Nat × (Bool × Int × Unit) × Unit) => sel (eqN y1.1 (0 : Nat))
  (some (true, ()))
  (some (y1.2.1.1, ()))))

noncomputable def P_delta_Text_L0 (x : (List (Int × (List (UInt8)) × Unit)) × Unit) (y1 : (Int × Unit) × (Unit × Unit × Unit) × (List (Int)) × Unit) : Option (((Int × Unit) × (Unit × Unit × Unit) × (List (Int)) × Unit) ⊕ ((Int × Unit) × (Unit × Unit × Unit) × (List (Int)) × Unit)) :=
  @way1 ((Int × Unit) × (Unit × Unit × Unit) × (List (Int)) × Unit) (sel (ltI y1.1.1 (@len (Int × (List (UInt8)) × Unit) x.1))
  (obind (@idx (Int × (List (UInt8)) × Unit) x.1 y1.1.1) (fun (y2 : Int × (List (UInt8)) × Unit) => obind (sel (sel (leI (1 : Int) y2.1)
  (leI y2.1 (3 : Int))
  false)
  (sel (within y2.1 (4 : Int))
  (obind (@idx (List (UInt8)) ([([] : List (UInt8)), ([(43 : UInt8)] : List (UInt8)), ([(126 : UInt8)] : List (UInt8)), ([(45 : UInt8)] : List (UInt8))] : List (List (UInt8))) y2.1) (fun (y3 : List (UInt8)) => some ((y3, ()), ())))
  (none : Option (((List (UInt8)) × Unit) × Unit)))
  (some ((([(63 : UInt8)] : List (UInt8)), ()), ()))) (fun (y3 : ((List (UInt8)) × Unit) × Unit) => sel (fits (plus (@len UInt8 y3.1.1) (@len UInt8 ([(32 : UInt8)] : List (UInt8)))))
  (obind (P_digits_Hex (y2.2.1, ())) (fun (y4 : (List (UInt8)) × Unit) => sel (fits (plus (@len UInt8 (@app UInt8 y3.1.1 ([(32 : UInt8)] : List (UInt8)))) (@len UInt8 y4.1)))
  (sel (fits (plus (@len UInt8 (@app UInt8 (@app UInt8 y3.1.1 ([(32 : UInt8)] : List (UInt8))) y4.1)) (@len UInt8 ([(10 : UInt8)] : List (UInt8)))))
  (sel (fits (plus (@len Int y1.2.2.1) (@len Int (bytesInts (@app UInt8 (@app UInt8 (@app UInt8 y3.1.1 ([(32 : UInt8)] : List (UInt8))) y4.1) ([(10 : UInt8)] : List (UInt8)))))))
  (some (Sum.inl ((iadd IntKind.i64 y1.1.1 (1 : Int), ()), (((), ((), y1.2.1.2.2)), (@app Int y1.2.2.1 (bytesInts (@app UInt8 (@app UInt8 (@app UInt8 y3.1.1 ([(32 : UInt8)] : List (UInt8))) y4.1) ([(10 : UInt8)] : List (UInt8)))), ()))) : (((Int × Unit) × (Unit × Unit × Unit) × (List (Int)) × Unit)) ⊕ ((Nat × (Int × Unit) × (Unit × Unit × Unit) × (List (Int)) × Unit))))
  (none : Option (((Int × Unit) × (Unit × Unit × Unit) × (List (Int)) × Unit) ⊕ (Nat × (Int × Unit) × (Unit × Unit × Unit) × (List (Int)) × Unit))))
  (none : Option (((Int × Unit) × (Unit × Unit × Unit) × (List (Int)) × Unit) ⊕ (Nat × (Int × Unit) × (Unit × Unit × Unit) × (List (Int)) × Unit))))
  (none : Option (((Int × Unit) × (Unit × Unit × Unit) × (List (Int)) × Unit) ⊕ (Nat × (Int × Unit) × (Unit × Unit × Unit) × (List (Int)) × Unit)))))
  (none : Option (((Int × Unit) × (Unit × Unit × Unit) × (List (Int)) × Unit) ⊕ (Nat × (Int × Unit) × (Unit × Unit × Unit) × (List (Int)) × Unit))))))
  (some (Sum.inr ((0 : Nat), ((y1.1.1, ()), (((), ((), y1.2.1.2.2)), (y1.2.2.1, ())))) : (((Int × Unit) × (Unit × Unit × Unit) × (List (Int)) × Unit)) ⊕ ((Nat × (Int × Unit) × (Unit × Unit × Unit) × (List (Int)) × Unit)))))

noncomputable def P_delta_Text (x : (List (Int × (List (UInt8)) × Unit)) × Unit) : Option ((List (UInt8)) × Unit) :=
  obind (Loop (P_delta_Text_L0 x) (((0 : Int), ()), (((), ((), ())), (([] : List (Int)), ())))) (fun (y1 : (Int × Unit) × (Unit × Unit × Unit) × (List (Int)) × Unit) => some (intsBytes y1.2.2.1, ()))

noncomputable def P_law16_awake (x : Unit) : Option (Bool × Unit) :=
  obind (P_delta_Changes (([(([(97 : UInt8)] : List (UInt8)), ((1 : Int), ((0 : Int), (([] : List (UInt8)), (([] : List (UInt8)), ()))))), (([(98 : UInt8)] : List (UInt8)), ((1 : Int), ((0 : Int), (([] : List (UInt8)), (([] : List (UInt8)), ())))))] : List ((List (UInt8)) × Int × Int × (List (UInt8)) × (List (UInt8)) × Unit)), (([(([(98 : UInt8)] : List (UInt8)), ((1 : Int), ((0 : Int), (([(120 : UInt8)] : List (UInt8)), (([] : List (UInt8)), ()))))), (([(100 : UInt8)] : List (UInt8)), ((2 : Int), ((0 : Int), (([] : List (UInt8)), (([] : List (UInt8)), ())))))] : List ((List (UInt8)) × Int × Int × (List (UInt8)) × (List (UInt8)) × Unit)), ()))) (fun (y1 : (List (Int × (List (UInt8)) × Unit)) × Int × Unit) => obind (P_delta_Parts (([(([(97 : UInt8)] : List (UInt8)), ((1 : Int), ((0 : Int), (([] : List (UInt8)), (([] : List (UInt8)), ()))))), (([(98 : UInt8)] : List (UInt8)), ((1 : Int), ((0 : Int), (([] : List (UInt8)), (([] : List (UInt8)), ())))))] : List ((List (UInt8)) × Int × Int × (List (UInt8)) × (List (UInt8)) × Unit)), (([(([(98 : UInt8)] : List (UInt8)), ((1 : Int), ((0 : Int), (([(120 : UInt8)] : List (UInt8)), (([] : List (UInt8)), ()))))), (([(100 : UInt8)] : List (UInt8)), ((2 : Int), ((0 : Int), (([] : List (UInt8)), (([] : List (UInt8)), ())))))] : List ((List (UInt8)) × Int × Int × (List (UInt8)) × (List (UInt8)) × Unit)), ()))) (fun (y2 : (List (((List (UInt8)) × Int × Int × Int × Int × Int × Int × (List (UInt8)) × Unit) × (List (UInt8)) × Unit)) × Int × Unit) => obind (P_delta_Diff (([(([(97 : UInt8)] : List (UInt8)), ((1 : Int), ((0 : Int), (([] : List (UInt8)), (([] : List (UInt8)), ()))))), (([(98 : UInt8)] : List (UInt8)), ((1 : Int), ((0 : Int), (([] : List (UInt8)), (([] : List (UInt8)), ())))))] : List ((List (UInt8)) × Int × Int × (List (UInt8)) × (List (UInt8)) × Unit)), (([(([(98 : UInt8)] : List (UInt8)), ((1 : Int), ((0 : Int), (([(120 : UInt8)] : List (UInt8)), (([] : List (UInt8)), ()))))), (([(100 : UInt8)] : List (UInt8)), ((2 : Int), ((0 : Int), (([] : List (UInt8)), (([] : List (UInt8)), ())))))] : List ((List (UInt8)) × Int × Int × (List (UInt8)) × (List (UInt8)) × Unit)), ()))) (fun (y3 : (List (UInt8)) × Int × Unit) => obind (sel (eqI y1.2.1 (0 : Int))
  (obind (P_ref16_Same (y1.1, (([((3 : Int), (([(97 : UInt8)] : List (UInt8)), ())), ((2 : Int), (([(98 : UInt8)] : List (UInt8)), ())), ((1 : Int), (([(100 : UInt8)] : List (UInt8)), ()))] : List (Int × (List (UInt8)) × Unit)), ()))) (fun (y4 : Bool × Unit) => some y4.1))
  (some false)) (fun (y4 : Bool) => obind (sel (sel (sel y4
  (eqI y2.2.1 (0 : Int))
  false)
  (eqI (@len (((List (UInt8)) × Int × Int × Int × Int × Int × Int × (List (UInt8)) × Unit) × (List (UInt8)) × Unit) y2.1) (3 : Int))
  false)
  (obind (@idx (((List (UInt8)) × Int × Int × Int × Int × Int × Int × (List (UInt8)) × Unit) × (List (UInt8)) × Unit) y2.1 (0 : Int)) (fun (y5 : ((List (UInt8)) × Int × Int × Int × Int × Int × Int × (List (UInt8)) × Unit) × (List (UInt8)) × Unit) => some (eqS y5.1.1 ([(46 : UInt8), (119 : UInt8), (104 : UInt8), (46 : UInt8), (97 : UInt8)] : List (UInt8)))))
  (some false)) (fun (y5 : Bool) => obind (sel y5
  (obind (@idx (((List (UInt8)) × Int × Int × Int × Int × Int × Int × (List (UInt8)) × Unit) × (List (UInt8)) × Unit) y2.1 (2 : Int)) (fun (y6 : ((List (UInt8)) × Int × Int × Int × Int × Int × Int × (List (UInt8)) × Unit) × (List (UInt8)) × Unit) => some (eqS y6.1.1 ([(100 : UInt8), (47 : UInt8)] : List (UInt8)))))
  (some false)) (fun (y6 : Bool) => obind (sel (sel (sel y6
  (eqI y3.2.1 (0 : Int))
  false)
  (eqI (@len UInt8 y3.1) (3072 : Int))
  false)
  (obind (P_delta_Text (y1.1, ())) (fun (y7 : (List (UInt8)) × Unit) => some (eqS y7.1 ([(45 : UInt8), (32 : UInt8), (54 : UInt8), (49 : UInt8), (10 : UInt8), (126 : UInt8), (32 : UInt8), (54 : UInt8), (50 : UInt8), (10 : UInt8), (43 : UInt8), (32 : UInt8), (54 : UInt8), (52 : UInt8), (10 : UInt8)] : List (UInt8)))))
  (some false)) (fun (y7 : Bool) => some (y7, ()))))))))

noncomputable def P_ref16_put_L0 (x : (List (Int × (List (UInt8)) × Unit)) × (Int × (List (UInt8)) × Unit) × Unit) (y1 : (Int × Unit) × Unit) : Option (((Int × Unit) × Unit) ⊕ ((Int × Unit) × Unit)) :=
  @way1 ((Int × Unit) × Unit) (sel (ltI y1.1.1 (@len (Int × (List (UInt8)) × Unit) x.1))
  (obind (@idx (Int × (List (UInt8)) × Unit) x.1 y1.1.1) (fun (y2 : Int × (List (UInt8)) × Unit) => obind (P_ref07_Compare (y2.2.1, (x.2.1.2.1, ()))) (fun (y3 : Int × Unit) => sel (ltI y3.1 (0 : Int))
  (some (Sum.inl ((iadd IntKind.i64 y1.1.1 (1 : Int), ()), ()) : (((Int × Unit) × Unit)) ⊕ ((Nat × (Int × Unit) × Unit))))
  (some (Sum.inr ((0 : Nat), ((y1.1.1, ()), ())) : (((Int × Unit) × Unit)) ⊕ ((Nat × (Int × Unit) × Unit)))))))
  (some (Sum.inr ((0 : Nat), ((y1.1.1, ()), ())) : (((Int × Unit) × Unit)) ⊕ ((Nat × (Int × Unit) × Unit)))))

noncomputable def P_ref16_put (x : (List (Int × (List (UInt8)) × Unit)) × (Int × (List (UInt8)) × Unit) × Unit) : Option ((List (Int × (List (UInt8)) × Unit)) × Unit) :=
  obind (Loop (P_ref16_put_L0 x) (((0 : Int), ()), ())) (fun (y1 : (Int × Unit) × Unit) => sel (inside (0 : Int) y1.1.1 (@len (Int × (List (UInt8)) × Unit) x.1))
  (sel (fits (plus (@len (Int × (List (UInt8)) × Unit) ([] : List (Int × (List (UInt8)) × Unit))) (@len (Int × (List (UInt8)) × Unit) (@sub (Int × (List (UInt8)) × Unit) x.1 (0 : Int) (minus y1.1.1 (0 : Int))))))
  (sel (fits (plus (@len (Int × (List (UInt8)) × Unit) (@app (Int × (List (UInt8)) × Unit) ([] : List (Int × (List (UInt8)) × Unit)) (@sub (Int × (List (UInt8)) × Unit) x.1 (0 : Int) (minus y1.1.1 (0 : Int))))) (@len (Int × (List (UInt8)) × Unit) ([x.2.1] : List (Int × (List (UInt8)) × Unit)))))
  (sel (inside y1.1.1 (@len (Int × (List (UInt8)) × Unit) x.1) (@len (Int × (List (UInt8)) × Unit) x.1))
  (sel (fits (plus (@len (Int × (List (UInt8)) × Unit) (@app (Int × (List (UInt8)) × Unit) (@app (Int × (List (UInt8)) × Unit) ([] : List (Int × (List (UInt8)) × Unit)) (@sub (Int × (List (UInt8)) × Unit) x.1 (0 : Int) (minus y1.1.1 (0 : Int)))) ([x.2.1] : List (Int × (List (UInt8)) × Unit)))) (@len (Int × (List (UInt8)) × Unit) (@sub (Int × (List (UInt8)) × Unit) x.1 y1.1.1 (minus (@len (Int × (List (UInt8)) × Unit) x.1) y1.1.1)))))
  (some (@app (Int × (List (UInt8)) × Unit) (@app (Int × (List (UInt8)) × Unit) (@app (Int × (List (UInt8)) × Unit) ([] : List (Int × (List (UInt8)) × Unit)) (@sub (Int × (List (UInt8)) × Unit) x.1 (0 : Int) (minus y1.1.1 (0 : Int)))) ([x.2.1] : List (Int × (List (UInt8)) × Unit))) (@sub (Int × (List (UInt8)) × Unit) x.1 y1.1.1 (minus (@len (Int × (List (UInt8)) × Unit) x.1) y1.1.1)), ()))
  (none : Option ((List (Int × (List (UInt8)) × Unit)) × Unit)))
  (none : Option ((List (Int × (List (UInt8)) × Unit)) × Unit)))
  (none : Option ((List (Int × (List (UInt8)) × Unit)) × Unit)))
  (none : Option ((List (Int × (List (UInt8)) × Unit)) × Unit)))
  (none : Option ((List (Int × (List (UInt8)) × Unit)) × Unit)))

noncomputable def P_ref16_Changes_L0 (x : (List ((List (UInt8)) × Int × Int × (List (UInt8)) × (List (UInt8)) × Unit)) × (List ((List (UInt8)) × Int × Int × (List (UInt8)) × (List (UInt8)) × Unit)) × Unit) (y3 : ((List (Int × (List (UInt8)) × Unit)) × Int × Unit) × Unit) : Option ((((List (Int × (List (UInt8)) × Unit)) × Int × Unit) × Unit) ⊕ (((List (Int × (List (UInt8)) × Unit)) × Int × Unit) × Unit)) :=
  @way1 (((List (Int × (List (UInt8)) × Unit)) × Int × Unit) × Unit) (sel (ltI y3.1.2.1 (@len ((List (UInt8)) × Int × Int × (List (UInt8)) × (List (UInt8)) × Unit) x.1))
  (obind (@idx ((List (UInt8)) × Int × Int × (List (UInt8)) × (List (UInt8)) × Unit) x.1 y3.1.2.1) (fun (y4 : (List (UInt8)) × Int × Int × (List (UInt8)) × (List (UInt8)) × Unit) => obind (P_ref14_Find (x.2.1, (y4.1, ()))) (fun (y5 : ((List (UInt8)) × Int × Int × (List (UInt8)) × (List (UInt8)) × Unit) × Bool × Unit) => obind (sel (nt y5.2.1)
  (obind (@idx ((List (UInt8)) × Int × Int × (List (UInt8)) × (List (UInt8)) × Unit) x.1 y3.1.2.1) (fun (y6 : (List (UInt8)) × Int × Int × (List (UInt8)) × (List (UInt8)) × Unit) => obind (P_ref16_put (y3.1.1, (((3 : Int), (y6.1, ())), ()))) (fun (y7 : (List (Int × (List (UInt8)) × Unit)) × Unit) => some ((y7.1, ()), ()))))
  (obind (@idx ((List (UInt8)) × Int × Int × (List (UInt8)) × (List (UInt8)) × Unit) x.1 y3.1.2.1) (fun (y6 : (List (UInt8)) × Int × Int × (List (UInt8)) × (List (UInt8)) × Unit) => obind (sel (nt (an (eqS y5.1.1 y6.1) (an (eqI y5.1.2.1 y6.2.1) (an (eqI y5.1.2.2.1 y6.2.2.1) (an (eqS y5.1.2.2.2.1 y6.2.2.2.1) (an (eqS y5.1.2.2.2.2.1 y6.2.2.2.2.1) true))))))
  (obind (@idx ((List (UInt8)) × Int × Int × (List (UInt8)) × (List (UInt8)) × Unit) x.1 y3.1.2.1) (fun (y7 : (List (UInt8)) × Int × Int × (List (UInt8)) × (List (UInt8)) × Unit) => obind (P_ref16_put (y3.1.1, (((2 : Int), (y7.1, ())), ()))) (fun (y8 : (List (Int × (List (UInt8)) × Unit)) × Unit) => some ((y8.1, ()), ()))))
  (some ((y3.1.1, ()), ()))) (fun (y7 : ((List (Int × (List (UInt8)) × Unit)) × Unit) × Unit) => some ((y7.1.1, ()), ()))))) (fun (y6 : ((List (Int × (List (UInt8)) × Unit)) × Unit) × Unit) => some (Sum.inl ((y6.1.1, (iadd IntKind.i64 y3.1.2.1 (1 : Int), ())), ()) : ((((List (Int × (List (UInt8)) × Unit)) × Int × Unit) × Unit)) ⊕ ((Nat × ((List (Int × (List (UInt8)) × Unit)) × Int × Unit) × Unit)))))))
  (some (Sum.inr ((0 : Nat), ((y3.1.1, (y3.1.2.1, ())), ())) : ((((List (Int × (List (UInt8)) × Unit)) × Int × Unit) × Unit)) ⊕ ((Nat × ((List (Int × (List (UInt8)) × Unit)) × Int × Unit) × Unit)))))

noncomputable def P_ref16_Changes_L1 (x : (List ((List (UInt8)) × Int × Int × (List (UInt8)) × (List (UInt8)) × Unit)) × (List ((List (UInt8)) × Int × Int × (List (UInt8)) × (List (UInt8)) × Unit)) × Unit) (y4 : ((List (Int × (List (UInt8)) × Unit)) × Int × Unit) × Unit) : Option ((((List (Int × (List (UInt8)) × Unit)) × Int × Unit) × Unit) ⊕ (((List (Int × (List (UInt8)) × Unit)) × Int × Unit) × Unit)) :=
  @way1 (((List (Int × (List (UInt8)) × Unit)) × Int × Unit) × Unit) (sel (ltI y4.1.2.1 (@len ((List (UInt8)) × Int × Int × (List (UInt8)) × (List (UInt8)) × Unit) x.2.1))
  (obind (@idx ((List (UInt8)) × Int × Int × (List (UInt8)) × (List (UInt8)) × Unit) x.2.1 y4.1.2.1) (fun (y5 : (List (UInt8)) × Int × Int × (List (UInt8)) × (List (UInt8)) × Unit) => obind (P_ref14_Find (x.1, (y5.1, ()))) (fun (y6 : ((List (UInt8)) × Int × Int × (List (UInt8)) × (List (UInt8)) × Unit) × Bool × Unit) => obind (sel (nt y6.2.1)
  (obind (@idx ((List (UInt8)) × Int × Int × (List (UInt8)) × (List (UInt8)) × Unit) x.2.1 y4.1.2.1) (fun (y7 : (List (UInt8)) × Int × Int × (List (UInt8)) × (List (UInt8)) × Unit) => obind (P_ref16_put (y4.1.1, (((1 : Int), (y7.1, ())), ()))) (fun (y8 : (List (Int × (List (UInt8)) × Unit)) × Unit) => some ((y8.1, ()), ()))))
  (some ((y4.1.1, ()), ()))) (fun (y7 : ((List (Int × (List (UInt8)) × Unit)) × Unit) × Unit) => some (Sum.inl ((y7.1.1, (iadd IntKind.i64 y4.1.2.1 (1 : Int), ())), ()) : ((((List (Int × (List (UInt8)) × Unit)) × Int × Unit) × Unit)) ⊕ ((Nat × ((List (Int × (List (UInt8)) × Unit)) × Int × Unit) × Unit)))))))
  (some (Sum.inr ((0 : Nat), ((y4.1.1, (y4.1.2.1, ())), ())) : ((((List (Int × (List (UInt8)) × Unit)) × Int × Unit) × Unit)) ⊕ ((Nat × ((List (Int × (List (UInt8)) × Unit)) × Int × Unit) × Unit)))))

noncomputable def P_ref16_Changes (x : (List ((List (UInt8)) × Int × Int × (List (UInt8)) × (List (UInt8)) × Unit)) × (List ((List (UInt8)) × Int × Int × (List (UInt8)) × (List (UInt8)) × Unit)) × Unit) : Option ((List (Int × (List (UInt8)) × Unit)) × Int × Unit) :=
  obind (P_ref14_Is (x.1, ())) (fun (y1 : Bool × Unit) => obind (sel (nt (nt y1.1))
  (obind (P_ref14_Is (x.2.1, ())) (fun (y2 : Bool × Unit) => some (nt y2.1)))
  (some true)) (fun (y2 : Bool) => sel y2
  (some (([] : List (Int × (List (UInt8)) × Unit)), ((1 : Int), ())))
  (obind (Loop (P_ref16_Changes_L0 x) ((([] : List (Int × (List (UInt8)) × Unit)), ((0 : Int), ())), ())) (fun (y3 : ((List (Int × (List (UInt8)) × Unit)) × Int × Unit) × Unit) => obind (Loop (P_ref16_Changes_L1 x) ((y3.1.1, ((0 : Int), ())), ())) (fun (y4 : ((List (Int × (List (UInt8)) × Unit)) × Int × Unit) × Unit) => some (y4.1.1, ((0 : Int), ())))))))

noncomputable def P_ref16_part (x : ((List (UInt8)) × Int × Int × (List (UInt8)) × (List (UInt8)) × Unit) × Unit) : Option ((((List (UInt8)) × Int × Int × Int × Int × Int × Int × (List (UInt8)) × Unit) × (List (UInt8)) × Unit) × Unit) :=
  obind (sel (eqI x.1.2.1 (2 : Int))
  (sel (fits (plus (@len UInt8 x.1.1) (@len UInt8 ([(47 : UInt8)] : List (UInt8)))))
  (some ((), (((@app UInt8 x.1.1 ([(47 : UInt8)] : List (UInt8)), (x.1.2.1, (x.1.2.2.1, ((0 : Int), ((0 : Int), (@len UInt8 x.1.2.2.2.1, ((0 : Int), (x.1.2.2.2.2.1, ())))))))), (x.1.2.2.2.1, ())), ())))
  (none : Option (Unit × (((List (UInt8)) × Int × Int × Int × Int × Int × Int × (List (UInt8)) × Unit) × (List (UInt8)) × Unit) × Unit)))
  (some ((), (((x.1.1, (x.1.2.1, (x.1.2.2.1, ((0 : Int), ((0 : Int), (@len UInt8 x.1.2.2.2.1, ((0 : Int), (x.1.2.2.2.2.1, ())))))))), (x.1.2.2.2.1, ())), ())))) (fun (y1 : Unit × (((List (UInt8)) × Int × Int × Int × Int × Int × Int × (List (UInt8)) × Unit) × (List (UInt8)) × Unit) × Unit) => some (y1.2.1, ()))

noncomputable def P_ref16_Parts_L0 (x : (List ((List (UInt8)) × Int × Int × (List (UInt8)) × (List (UInt8)) × Unit)) × (List ((List (UInt8)) × Int × Int × (List (UInt8)) × (List (UInt8)) × Unit)) × Unit) (y1 : (List (Int × (List (UInt8)) × Unit)) × Int × Unit) (y2 : (Unit × Int × Unit) × (List (((List (UInt8)) × Int × Int × Int × Int × Int × Int × (List (UInt8)) × Unit) × (List (UInt8)) × Unit)) × Unit) : Option (((Unit × Int × Unit) × (List (((List (UInt8)) × Int × Int × Int × Int × Int × Int × (List (UInt8)) × Unit) × (List (UInt8)) × Unit)) × Unit) ⊕ ((Unit × Int × Unit) × (List (((List (UInt8)) × Int × Int × Int × Int × Int × Int × (List (UInt8)) × Unit) × (List (UInt8)) × Unit)) × Unit)) :=
  @way1 ((Unit × Int × Unit) × (List (((List (UInt8)) × Int × Int × Int × Int × Int × Int × (List (UInt8)) × Unit) × (List (UInt8)) × Unit)) × Unit) (sel (ltI y2.1.2.1 (@len (Int × (List (UInt8)) × Unit) y1.1))
  (obind (@idx (Int × (List (UInt8)) × Unit) y1.1 y2.1.2.1) (fun (y3 : Int × (List (UInt8)) × Unit) => obind (P_ref14_Find (x.2.1, (y3.2.1, ()))) (fun (y4 : ((List (UInt8)) × Int × Int × (List (UInt8)) × (List (UInt8)) × Unit) × Bool × Unit) => sel y4.2.1
  (obind (P_ref16_part (y4.1, ())) (fun (y5 : (((List (UInt8)) × Int × Int × Int × Int × Int × Int × (List (UInt8)) × Unit) × (List (UInt8)) × Unit) × Unit) => sel (fits (plus (@len (((List (UInt8)) × Int × Int × Int × Int × Int × Int × (List (UInt8)) × Unit) × (List (UInt8)) × Unit) y2.2.1) (@len (((List (UInt8)) × Int × Int × Int × Int × Int × Int × (List (UInt8)) × Unit) × (List (UInt8)) × Unit) ([y5.1] : List (((List (UInt8)) × Int × Int × Int × Int × Int × Int × (List (UInt8)) × Unit) × (List (UInt8)) × Unit)))))
  (some (Sum.inl (((), (iadd IntKind.i64 y2.1.2.1 (1 : Int), ())), (@app (((List (UInt8)) × Int × Int × Int × Int × Int × Int × (List (UInt8)) × Unit) × (List (UInt8)) × Unit) y2.2.1 ([y5.1] : List (((List (UInt8)) × Int × Int × Int × Int × Int × Int × (List (UInt8)) × Unit) × (List (UInt8)) × Unit)), ())) : (((Unit × Int × Unit) × (List (((List (UInt8)) × Int × Int × Int × Int × Int × Int × (List (UInt8)) × Unit) × (List (UInt8)) × Unit)) × Unit)) ⊕ ((Nat × (Unit × Int × Unit) × (List (((List (UInt8)) × Int × Int × Int × Int × Int × Int × (List (UInt8)) × Unit) × (List (UInt8)) × Unit)) × Unit))))
  (none : Option (((Unit × Int × Unit) × (List (((List (UInt8)) × Int × Int × Int × Int × Int × Int × (List (UInt8)) × Unit) × (List (UInt8)) × Unit)) × Unit) ⊕ (Nat × (Unit × Int × Unit) × (List (((List (UInt8)) × Int × Int × Int × Int × Int × Int × (List (UInt8)) × Unit) × (List (UInt8)) × Unit)) × Unit)))))
  (obind (@idx (Int × (List (UInt8)) × Unit) y1.1 y2.1.2.1) (fun (y5 : Int × (List (UInt8)) × Unit) => obind (P_ref07_Split (y5.2.1, ())) (fun (y6 : (List (UInt8)) × (List (UInt8)) × Unit) => obind (P_ref14_Find (x.2.1, (y6.1, ()))) (fun (y7 : ((List (UInt8)) × Int × Int × (List (UInt8)) × (List (UInt8)) × Unit) × Bool × Unit) => obind (sel (sel (nt (eqS y6.1 ([] : List (UInt8))))
  (sel y7.2.1
  (eqI y7.1.2.1 (2 : Int))
  false)
  true)
  (sel (fits (plus (@len UInt8 ([(46 : UInt8), (119 : UInt8), (104 : UInt8), (46 : UInt8)] : List (UInt8))) (@len UInt8 y6.2.1)))
  (obind (P_ref07_Join (y6.1, (@app UInt8 ([(46 : UInt8), (119 : UInt8), (104 : UInt8), (46 : UInt8)] : List (UInt8)) y6.2.1, ()))) (fun (y8 : (List (UInt8)) × Unit) => sel (fits (plus (@len (((List (UInt8)) × Int × Int × Int × Int × Int × Int × (List (UInt8)) × Unit) × (List (UInt8)) × Unit) y2.2.1) (@len (((List (UInt8)) × Int × Int × Int × Int × Int × Int × (List (UInt8)) × Unit) × (List (UInt8)) × Unit) ([((y8.1, ((1 : Int), ((0 : Int), ((0 : Int), ((0 : Int), ((0 : Int), ((0 : Int), (([] : List (UInt8)), ())))))))), (([] : List (UInt8)), ()))] : List (((List (UInt8)) × Int × Int × Int × Int × Int × Int × (List (UInt8)) × Unit) × (List (UInt8)) × Unit)))))
  (some (((), ()), (@app (((List (UInt8)) × Int × Int × Int × Int × Int × Int × (List (UInt8)) × Unit) × (List (UInt8)) × Unit) y2.2.1 ([((y8.1, ((1 : Int), ((0 : Int), ((0 : Int), ((0 : Int), ((0 : Int), ((0 : Int), (([] : List (UInt8)), ())))))))), (([] : List (UInt8)), ()))] : List (((List (UInt8)) × Int × Int × Int × Int × Int × Int × (List (UInt8)) × Unit) × (List (UInt8)) × Unit)), ())))
  (none : Option ((Unit × Unit) × (List (((List (UInt8)) × Int × Int × Int × Int × Int × Int × (List (UInt8)) × Unit) × (List (UInt8)) × Unit)) × Unit))))
  (none : Option ((Unit × Unit) × (List (((List (UInt8)) × Int × Int × Int × Int × Int × Int × (List (UInt8)) × Unit) × (List (UInt8)) × Unit)) × Unit)))
  (some (((), ()), (y2.2.1, ())))) (fun (y8 : (Unit × Unit) × (List (((List (UInt8)) × Int × Int × Int × Int × Int × Int × (List (UInt8)) × Unit) × (List (UInt8)) × Unit)) × Unit) => some (Sum.inl (((), (iadd IntKind.i64 y2.1.2.1 (1 : Int), ())), (y8.2.1, ())) : (((Unit × Int × Unit) × (List (((List (UInt8)) × Int × Int × Int × Int × Int × Int × (List (UInt8)) × Unit) × (List (UInt8)) × Unit)) × Unit)) ⊕ ((Nat × (Unit × Int × Unit) × (List (((List (UInt8)) × Int × Int × Int × Int × Int × Int × (List (UInt8)) × Unit) × (List (UInt8)) × Unit)) × Unit)))))))))))
  (some (Sum.inr ((0 : Nat), (((), (y2.1.2.1, ())), (y2.2.1, ()))) : (((Unit × Int × Unit) × (List (((List (UInt8)) × Int × Int × Int × Int × Int × Int × (List (UInt8)) × Unit) × (List (UInt8)) × Unit)) × Unit)) ⊕ ((Nat × (Unit × Int × Unit) × (List (((List (UInt8)) × Int × Int × Int × Int × Int × Int × (List (UInt8)) × Unit) × (List (UInt8)) × Unit)) × Unit)))))

noncomputable def P_ref16_Parts (x : (List ((List (UInt8)) × Int × Int × (List (UInt8)) × (List (UInt8)) × Unit)) × (List ((List (UInt8)) × Int × Int × (List (UInt8)) × (List (UInt8)) × Unit)) × Unit) : Option ((List (((List (UInt8)) × Int × Int × Int × Int × Int × Int × (List (UInt8)) × Unit) × (List (UInt8)) × Unit)) × Int × Unit) :=
  obind (P_ref16_Changes (x.1, (x.2.1, ()))) (fun (y1 : (List (Int × (List (UInt8)) × Unit)) × Int × Unit) => sel (nt (eqI y1.2.1 (0 : Int)))
  (some (([] : List (((List (UInt8)) × Int × Int × Int × Int × Int × Int × (List (UInt8)) × Unit) × (List (UInt8)) × Unit)), (y1.2.1, ())))
  (obind (Loop (P_ref16_Parts_L0 x y1) (((), ((0 : Int), ())), (([] : List (((List (UInt8)) × Int × Int × Int × Int × Int × Int × (List (UInt8)) × Unit) × (List (UInt8)) × Unit)), ()))) (fun (y2 : (Unit × Int × Unit) × (List (((List (UInt8)) × Int × Int × Int × Int × Int × Int × (List (UInt8)) × Unit) × (List (UInt8)) × Unit)) × Unit) => some (y2.2.1, ((0 : Int), ())))))

noncomputable def P_ref16_Diff (x : (List ((List (UInt8)) × Int × Int × (List (UInt8)) × (List (UInt8)) × Unit)) × (List ((List (UInt8)) × Int × Int × (List (UInt8)) × (List (UInt8)) × Unit)) × Unit) : Option ((List (UInt8)) × Int × Unit) :=
  obind (P_ref16_Parts (x.1, (x.2.1, ()))) (fun (y1 : (List (((List (UInt8)) × Int × Int × Int × Int × Int × Int × (List (UInt8)) × Unit) × (List (UInt8)) × Unit)) × Int × Unit) => sel (nt (eqI y1.2.1 (0 : Int)))
  (some (([] : List (UInt8)), (y1.2.1, ())))
  (obind (P_ref13_Write (y1.1, ())) (fun (y2 : (List (UInt8)) × Int × Unit) => some (y2.1, (y2.2.1, ())))))

noncomputable def P_ref16_Text_L0 (x : (List (Int × (List (UInt8)) × Unit)) × Unit) (y1 : ((List (UInt8)) × Int × Unit) × Unit) : Option ((((List (UInt8)) × Int × Unit) × Unit) ⊕ (((List (UInt8)) × Int × Unit) × Unit)) :=
  @way1 (((List (UInt8)) × Int × Unit) × Unit) (sel (ltI y1.1.2.1 (@len (Int × (List (UInt8)) × Unit) x.1))
  (obind (@idx (Int × (List (UInt8)) × Unit) x.1 y1.1.2.1) (fun (y2 : Int × (List (UInt8)) × Unit) => obind (sel (leI (1 : Int) y2.1)
  (obind (@idx (Int × (List (UInt8)) × Unit) x.1 y1.1.2.1) (fun (y3 : Int × (List (UInt8)) × Unit) => some (leI y3.1 (3 : Int))))
  (some false)) (fun (y3 : Bool) => obind (sel y3
  (obind (@idx (Int × (List (UInt8)) × Unit) x.1 y1.1.2.1) (fun (y4 : Int × (List (UInt8)) × Unit) => obind (@idx (List (UInt8)) ([([] : List (UInt8)), ([(43 : UInt8)] : List (UInt8)), ([(126 : UInt8)] : List (UInt8)), ([(45 : UInt8)] : List (UInt8))] : List (List (UInt8))) y4.1) (fun (y5 : List (UInt8)) => some ((y5, ()), ()))))
  (some ((([(63 : UInt8)] : List (UInt8)), ()), ()))) (fun (y4 : ((List (UInt8)) × Unit) × Unit) => sel (fits (plus (@len UInt8 y1.1.1) (@len UInt8 y4.1.1)))
  (sel (fits (plus (@len UInt8 (@app UInt8 y1.1.1 y4.1.1)) (@len UInt8 ([(32 : UInt8)] : List (UInt8)))))
  (obind (@idx (Int × (List (UInt8)) × Unit) x.1 y1.1.2.1) (fun (y5 : Int × (List (UInt8)) × Unit) => obind (P_ref01_Hex (y5.2.1, ())) (fun (y6 : (List (UInt8)) × Unit) => sel (fits (plus (@len UInt8 (@app UInt8 (@app UInt8 y1.1.1 y4.1.1) ([(32 : UInt8)] : List (UInt8)))) (@len UInt8 y6.1)))
  (sel (fits (plus (@len UInt8 (@app UInt8 (@app UInt8 (@app UInt8 y1.1.1 y4.1.1) ([(32 : UInt8)] : List (UInt8))) y6.1)) (@len UInt8 ([(10 : UInt8)] : List (UInt8)))))
  (some (Sum.inl ((@app UInt8 (@app UInt8 (@app UInt8 (@app UInt8 y1.1.1 y4.1.1) ([(32 : UInt8)] : List (UInt8))) y6.1) ([(10 : UInt8)] : List (UInt8)), (iadd IntKind.i64 y1.1.2.1 (1 : Int), ())), ()) : ((((List (UInt8)) × Int × Unit) × Unit)) ⊕ ((Nat × ((List (UInt8)) × Int × Unit) × Unit))))
  (none : Option ((((List (UInt8)) × Int × Unit) × Unit) ⊕ (Nat × ((List (UInt8)) × Int × Unit) × Unit))))
  (none : Option ((((List (UInt8)) × Int × Unit) × Unit) ⊕ (Nat × ((List (UInt8)) × Int × Unit) × Unit))))))
  (none : Option ((((List (UInt8)) × Int × Unit) × Unit) ⊕ (Nat × ((List (UInt8)) × Int × Unit) × Unit))))
  (none : Option ((((List (UInt8)) × Int × Unit) × Unit) ⊕ (Nat × ((List (UInt8)) × Int × Unit) × Unit)))))))
  (some (Sum.inr ((0 : Nat), ((y1.1.1, (y1.1.2.1, ())), ())) : ((((List (UInt8)) × Int × Unit) × Unit)) ⊕ ((Nat × ((List (UInt8)) × Int × Unit) × Unit)))))

noncomputable def P_ref16_Text (x : (List (Int × (List (UInt8)) × Unit)) × Unit) : Option ((List (UInt8)) × Unit) :=
  obind (Loop (P_ref16_Text_L0 x) ((([] : List (UInt8)), ((0 : Int), ())), ())) (fun (y1 : ((List (UInt8)) × Int × Unit) × Unit) => some (y1.1.1, ()))

noncomputable def P_law16_DeltaIs_L0 (x : (List ((List (UInt8)) × Int × Int × (List (UInt8)) × (List (UInt8)) × Unit)) × (List ((List (UInt8)) × Int × Int × (List (UInt8)) × (List (UInt8)) × Unit)) × (List (Int × (List (UInt8)) × Unit)) × Unit) (y3 : (Bool × Int × Unit) × Unit) : Option (((Bool × Int × Unit) × Unit) ⊕ (Nat × (Bool × Int × Unit) × Unit)) :=
  sel (ltI y3.1.2.1 (@len (Int × (List (UInt8)) × Unit) x.2.2.1))
  (obind (@idx (Int × (List (UInt8)) × Unit) x.2.2.1 y3.1.2.1) (fun (y4 : Int × (List (UInt8)) × Unit) => sel (ltI (200 : Int) (@len UInt8 y4.2.1))
  (obind (P_law16_awake ()) (fun (y5 : Bool × Unit) => some (Sum.inr ((1 : Nat), ((y5.1, (y3.1.2.1, ())), ())) : (((Bool × Int × Unit) × Unit)) ⊕ ((Nat × (Bool × Int × Unit) × Unit)))))
  (some (Sum.inl ((y3.1.1, (iadd IntKind.i64 y3.1.2.1 (1 : Int), ())), ()) : (((Bool × Int × Unit) × Unit)) ⊕ ((Nat × (Bool × Int × Unit) × Unit))))))
  (some (Sum.inr ((0 : Nat), ((y3.1.1, (y3.1.2.1, ())), ())) : (((Bool × Int × Unit) × Unit)) ⊕ ((Nat × (Bool × Int × Unit) × Unit))))

noncomputable def P_law16_DeltaIs (x : (List ((List (UInt8)) × Int × Int × (List (UInt8)) × (List (UInt8)) × Unit)) × (List ((List (UInt8)) × Int × Int × (List (UInt8)) × (List (UInt8)) × Unit)) × (List (Int × (List (UInt8)) × Unit)) × Unit) : Option (Bool × Unit) :=
  obind (P_ref14_Few (x.1, ((40 : Int), ()))) (fun (y1 : Bool × Unit) => obind (sel (nt (nt y1.1))
  (obind (P_ref14_Few (x.2.1, ((40 : Int), ()))) (fun (y2 : Bool × Unit) => some (nt y2.1)))
  (some true)) (fun (y2 : Bool) => sel (sel (nt y2)
  (ltI (40 : Int) (@len (Int × (List (UInt8)) × Unit) x.2.2.1))
  true)
  (obind (P_law16_awake ()) (fun (y3 : Bool × Unit) => some (y3.1, ())))
  (obind (Loop (P_law16_DeltaIs_L0 x) ((false, ((0 : Int), ())), ())) (fun (y3 : Nat × (Bool × Int × Unit) × Unit) => sel (eqN y3.1 (0 : Nat))
  (obind (P_delta_Changes (x.1, (x.2.1, ()))) (fun (y4 : (List (Int × (List (UInt8)) × Unit)) × Int × Unit) => obind (P_ref16_Changes (x.1, (x.2.1, ()))) (fun (y5 : (List (Int × (List (UInt8)) × Unit)) × Int × Unit) => obind (P_delta_Parts (x.1, (x.2.1, ()))) (fun (y6 : (List (((List (UInt8)) × Int × Int × Int × Int × Int × Int × (List (UInt8)) × Unit) × (List (UInt8)) × Unit)) × Int × Unit) => obind (P_ref16_Parts (x.1, (x.2.1, ()))) (fun (y7 : (List (((List (UInt8)) × Int × Int × Int × Int × Int × Int × (List (UInt8)) × Unit) × (List (UInt8)) × Unit)) × Int × Unit) => obind (P_delta_Diff (x.1, (x.2.1, ()))) (fun (y8 : (List (UInt8)) × Int × Unit) => obind (P_ref16_Diff (x.1, (x.2.1, ()))) (fun (y9 : (List (UInt8)) × Int × Unit) => obind (P_ref16_Same (y4.1, (y5.1, ()))) (fun (y10 : Bool × Unit) => obind (sel (sel y10.1
  (eqI y4.2.1 y5.2.1)
  false)
  (obind (P_ref13_Same (y6.1, (y7.1, ()))) (fun (y11 : Bool × Unit) => some y11.1))
  (some false)) (fun (y11 : Bool) => obind (sel (sel (sel (sel y11
  (eqI y6.2.1 y7.2.1)
  false)
  (eqS y8.1 y9.1)
  false)
  (eqI y8.2.1 y9.2.1)
  false)
  (obind (P_delta_Text (x.2.2.1, ())) (fun (y12 : (List (UInt8)) × Unit) => obind (P_ref16_Text (x.2.2.1, ())) (fun (y13 : (List (UInt8)) × Unit) => some (eqS y12.1 y13.1))))
  (some false)) (fun (y12 : Bool) => obind (sel y12
  (obind (P_law16_awake ()) (fun (y13 : Bool × Unit) => some y13.1))
  (some false)) (fun (y13 : Bool) => some (y13, ()))))))))))))
  (some (y3.2.1.1, ()))))))

noncomputable def P_law16_DeltaTurns_L0 (y6 : (List (Int × (List (UInt8)) × Unit)) × Int × Unit) (y7 : (List (Int × (List (UInt8)) × Unit)) × Int × Unit) (y9 : (Bool × Int × Unit) × Unit) : Option (((Bool × Int × Unit) × Unit) ⊕ (Nat × (Bool × Int × Unit) × Unit)) :=
  sel (ltI y9.1.2.1 (@len (Int × (List (UInt8)) × Unit) y6.1))
  (obind (@idx (Int × (List (UInt8)) × Unit) y6.1 y9.1.2.1) (fun (y10 : Int × (List (UInt8)) × Unit) => obind (@idx (Int × (List (UInt8)) × Unit) y6.1 y9.1.2.1) (fun (y11 : Int × (List (UInt8)) × Unit) => obind (@idx (Int × (List (UInt8)) × Unit) y6.1 y9.1.2.1) (fun (y12 : Int × (List (UInt8)) × Unit) => obind (@idx (Int × (List (UInt8)) × Unit) y7.1 y9.1.2.1) (fun (y13 : Int × (List (UInt8)) × Unit) => sel (nt (an (eqI y13.1 ((((sel (eqI y12.1 (1 : Int))
  ((), (((3 : Int), (y11.2.1, ())), ()))
  ((), (((sel (eqI y12.1 (3 : Int))
  ((), (((1 : Int), (y11.2.1, ())), ()))
  ((), ((y10.1, (y11.2.1, ())), ()))).2).1, ()))).2).1).1)) (an (eqS y13.2.1 (((((sel (eqI y12.1 (1 : Int))
  ((), (((3 : Int), (y11.2.1, ())), ()))
  ((), (((sel (eqI y12.1 (3 : Int))
  ((), (((1 : Int), (y11.2.1, ())), ()))
  ((), ((y10.1, (y11.2.1, ())), ()))).2).1, ()))).2).1).2).1)) true)))
  (some (Sum.inr ((1 : Nat), ((false, (y9.1.2.1, ())), ())) : (((Bool × Int × Unit) × Unit)) ⊕ ((Nat × (Bool × Int × Unit) × Unit))))
  (some (Sum.inl ((y9.1.1, (iadd IntKind.i64 y9.1.2.1 (1 : Int), ())), ()) : (((Bool × Int × Unit) × Unit)) ⊕ ((Nat × (Bool × Int × Unit) × Unit)))))))))
  (some (Sum.inr ((0 : Nat), ((y9.1.1, (y9.1.2.1, ())), ())) : (((Bool × Int × Unit) × Unit)) ⊕ ((Nat × (Bool × Int × Unit) × Unit))))

noncomputable def P_law16_DeltaTurns (x : (List ((List (UInt8)) × Int × Int × (List (UInt8)) × (List (UInt8)) × Unit)) × (List ((List (UInt8)) × Int × Int × (List (UInt8)) × (List (UInt8)) × Unit)) × Unit) : Option (Bool × Unit) :=
  obind (P_ref14_Few (x.1, ((30 : Int), ()))) (fun (y1 : Bool × Unit) => obind (sel (nt (nt y1.1))
  (obind (P_ref14_Few (x.2.1, ((30 : Int), ()))) (fun (y2 : Bool × Unit) => some (nt y2.1)))
  (some true)) (fun (y2 : Bool) => obind (sel (nt y2)
  (obind (P_ref14_Is (x.1, ())) (fun (y3 : Bool × Unit) => some (nt y3.1)))
  (some true)) (fun (y3 : Bool) => obind (sel (nt y3)
  (obind (P_ref14_Is (x.2.1, ())) (fun (y4 : Bool × Unit) => some (nt y4.1)))
  (some true)) (fun (y4 : Bool) => sel y4
  (obind (P_law16_awake ()) (fun (y5 : Bool × Unit) => some (y5.1, ())))
  (obind (P_delta_Changes (x.1, (x.1, ()))) (fun (y5 : (List (Int × (List (UInt8)) × Unit)) × Int × Unit) => obind (P_delta_Changes (x.1, (x.2.1, ()))) (fun (y6 : (List (Int × (List (UInt8)) × Unit)) × Int × Unit) => obind (P_delta_Changes (x.2.1, (x.1, ()))) (fun (y7 : (List (Int × (List (UInt8)) × Unit)) × Int × Unit) => obind (sel (nt (sel (nt (sel (nt (sel (nt (sel (nt (nt (eqI y5.2.1 (0 : Int))))
  (nt (eqI y6.2.1 (0 : Int)))
  true))
  (nt (eqI y7.2.1 (0 : Int)))
  true))
  (ltI (0 : Int) (@len (Int × (List (UInt8)) × Unit) y5.1))
  true))
  (nt (eqI (@len (Int × (List (UInt8)) × Unit) y6.1) (@len (Int × (List (UInt8)) × Unit) y7.1)))
  true))
  (obind (P_ref14_Same (x.1, (x.2.1, ()))) (fun (y8 : Bool × Unit) => some (nt (eqB (eqI (@len (Int × (List (UInt8)) × Unit) y6.1) (0 : Int)) y8.1))))
  (some true)) (fun (y8 : Bool) => sel y8
  (some (false, ()))
  (obind (Loop (P_law16_DeltaTurns_L0 y6 y7) ((false, ((0 : Int), ())), ())) (fun (y9 : Nat × (Bool × Int × Unit) × Unit) => sel (eqN y9.1 (0 : Nat))
  (obind (P_law16_awake ()) (fun (y10 : Bool × Unit) => some (y10.1, ())))
  (some (y9.2.1.1, ())))))))))))))
end Go.Ge

/- Plain laws of numbers: sums that stay in range, bits of words. -/
namespace Go.Ge
set_option linter.unusedVariables false
set_option linter.unusedSimpArgs false

theorem iadd_i64 {a b : Int} (h : -9223372036854775808 ≤ a + b) (h2 : a + b ≤ 9223372036854775807) : iadd .i64 a b = a + b := by
  unfold iadd; simp [IntKind.wrap, IntKind.min, IntKind.max, IntKind.signed, IntKind.bits]; omega
theorem isub_i64 {a b : Int} (h : -9223372036854775808 ≤ a - b) (h2 : a - b ≤ 9223372036854775807) : isub .i64 a b = a - b := by
  unfold isub; simp [IntKind.wrap, IntKind.min, IntKind.max, IntKind.signed, IntKind.bits]; omega
theorem icv_i64 {a : Int} (h : -9223372036854775808 ≤ a) (h2 : a ≤ 9223372036854775807) : icv .i64 a = a := by
  unfold icv; simp [IntKind.wrap, IntKind.min, IntKind.max, IntKind.signed, IntKind.bits]; omega
theorem icv_u64 {a : Int} (h : 0 ≤ a) (h2 : a ≤ 18446744073709551615) : icv .u64 a = a := by
  unfold icv; simp [IntKind.wrap, IntKind.min, IntKind.max, IntKind.signed, IntKind.bits]; omega
theorem wrap_u32 (a : Int) : IntKind.wrap .u32 a = a % 4294967296 := by
  simp [IntKind.wrap, IntKind.min, IntKind.max, IntKind.signed, IntKind.bits]

/-! ### Words of 32 bits -/
def Bv (x : Int) : BitVec 32 := BitVec.ofInt 32 x
def Can (x : Int) : Prop := 0 ≤ x ∧ x < 4294967296

theorem can_wrap (a : Int) : Can (IntKind.wrap .u32 a) := by rw [wrap_u32]; unfold Can; omega
theorem bv_toNat (a : Int) : ((Bv a).toNat : Int) = a % 4294967296 := by
  unfold Bv
  rw [BitVec.toNat_ofInt]
  have : 0 ≤ a % ((2 ^ 32 : Nat) : Int) := Int.emod_nonneg _ (by decide)
  rw [Int.toNat_of_nonneg this]; rfl
theorem eq32 {a b : Int} (ha : Can a) (hb : Can b) (h : Bv a = Bv b) : a = b := by
  have h1 := bv_toNat a
  have h2 := bv_toNat b
  rw [h] at h1
  unfold Can at ha hb
  omega
theorem bv_wrap (a : Int) : Bv (IntKind.wrap .u32 a) = Bv a := by
  apply BitVec.eq_of_toNat_eq
  have h1 := bv_toNat a
  have h2 := bv_toNat (IntKind.wrap .u32 a)
  rw [wrap_u32] at h2 ⊢
  omega
theorem bv_nat (v : BitVec 32) : Bv (v.toNat : Int) = v := by
  apply BitVec.eq_of_toNat_eq
  have h1 := bv_toNat (v.toNat : Int)
  have := v.isLt
  omega
theorem bv_or (x y : Int) : Bv (ior .u32 x y) = Bv x ||| Bv y := by unfold ior; rw [bv_wrap]; exact bv_nat _
theorem can_or (x y : Int) : Can (ior .u32 x y) := can_wrap _
theorem ior_comm32 (x y : Int) : ior .u32 x y = ior .u32 y x := eq32 (can_or _ _) (can_or _ _) (by rw [bv_or, bv_or, BitVec.or_comm])
/-! ### Tests and places, decided -/
theorem ltI_true {a b : Int} (h : a < b) : ltI a b = true := by simp [ltI, h]
theorem ltI_false {a b : Int} (h : b ≤ a) : ltI a b = false := by simp [ltI]; omega
theorem leI_true {a b : Int} (h : a ≤ b) : leI a b = true := by simp [leI, h]
theorem leI_false {a b : Int} (h : b < a) : leI a b = false := by simp [leI]; omega
theorem eqI_true {a b : Int} (h : a = b) : eqI a b = true := by simp [eqI, h]
theorem eqI_false {a b : Int} (h : a ≠ b) : eqI a b = false := by simp [eqI, h]
theorem within_true {i n : Int} (h0 : 0 ≤ i) (h1 : i < n) : within i n = true := by simp [within, h0, h1]
theorem inside_true {i j n : Int} (h0 : 0 ≤ i) (h1 : i ≤ j) (h2 : j ≤ n) : inside i j n = true := by simp [inside, h0, h1, h2]
theorem fits_true {n : Int} (h : n ≤ 4294967296) : fits n = true := by simp [fits, h]
theorem way1_inl {S : Type} (s : S) : way1 (some (.inl s : S ⊕ (Nat × S))) = some (.inl s) := rfl
theorem way1_inr {S : Type} (n : Nat) (s : S) : way1 (some (.inr (n, s) : S ⊕ (Nat × S))) = some (.inr s) := rfl
theorem idx_getD {α : Type} (l : List α) (d : α) {i : Nat} (h : i < l.length) : idx l (i : Int) = some (l.getD i d) := by
  rw [idx_nat, List.getElem?_eq_getElem h, List.getD_eq_getElem?_getD, List.getElem?_eq_getElem h]; rfl
theorem lset_nat {α : Type} (l : List α) (i : Nat) (x : α) : lset l (i : Int) x = l.set i x := by simp [lset]
end Go.Ge

/- Plain laws of loops that go through a list, of words in natural numbers. -/
namespace Go.Ge
set_option linter.unusedVariables false
set_option linter.unusedSimpArgs false

/-- A list gone through: on with a state, or out. -/
def runL {α σ R : Type} (step : Nat → σ → α → Option (σ ⊕ R)) (fin : Nat → σ → R) : List α → Nat → σ → Option R
  | [], i, s => some (fin i s)
  | x :: r, i, s => match step i s x with
    | none => none
    | some (.inl s') => runL step fin r (i + 1) s'
    | some (.inr y) => some y

theorem loop_run {α σ S R : Type} {f : S → Option (S ⊕ R)} (l : List α) (mk : σ → Nat → S) (step : Nat → σ → α → Option (σ ⊕ R)) (fin : Nat → σ → R) (Inv : Nat → σ → Prop)
    (hstep : ∀ s i x, l[i]? = some x → i < l.length → Inv i s → f (mk s i) = (step i s x).map (fun q => match q with | .inl s' => .inl (mk s' (i + 1)) | .inr y => .inr y))
    (hinv : ∀ s i x s', l[i]? = some x → Inv i s → step i s x = some (.inl s') → Inv (i + 1) s')
    (hfin : ∀ s, Inv l.length s → f (mk s l.length) = some (.inr (fin l.length s))) (hsome : ∀ s i x, l[i]? = some x → Inv i s → step i s x ≠ none) :
    ∀ s, Inv 0 s → Loop f (mk s 0) = runL step fin l 0 s := by
  have key : ∀ (rest pre : List α) (s : σ), l = pre ++ rest → Inv pre.length s → Loop f (mk s pre.length) = runL step fin rest pre.length s := by
    intro rest
    induction rest with
    | nil =>
      intro pre s hl hI
      rw [List.append_nil] at hl
      subst hl
      rw [Loop_eq, hfin s hI]
      rfl
    | cons x r ih =>
      intro pre s hl hI
      have hx : l[pre.length]? = some x := by rw [hl]; simp
      have hlt : pre.length < l.length := by rw [hl]; simp
      rw [Loop_eq, hstep s pre.length x hx hlt hI]
      unfold runL
      cases hs : step pre.length s x with
      | none => exact absurd hs (hsome s _ x hx hI)
      | some q =>
        cases q with
        | inr y => rfl
        | inl s' =>
          have := ih (pre ++ [x]) s' (by rw [hl]; simp) (by rw [List.length_append]; exact hinv s _ x s' hx hI hs)
          rw [List.length_append] at this
          exact this
  intro s hI
  exact key l [] s rfl hI

/-! ### Words in natural numbers -/
theorem ltI_len {α : Type} (i : Nat) (l : List α) : ltI (i : Int) (len l) = decide (i < l.length) := by simp [ltI, len]
theorem ltI_len0 {α : Type} (l : List α) : ltI (0 : Int) (len l) = decide (0 < l.length) := ltI_len 0 l
theorem leI_len {α : Type} (i : Nat) (l : List α) : leI (len l) (i : Int) = decide (l.length ≤ i) := by simp [leI, len]
theorem ltI_lens {α β : Type} (l : List α) (m : List β) : ltI (len l) (len m) = decide (l.length < m.length) := by simp [ltI, len]
theorem leI_lens {α β : Type} (l : List α) (m : List β) : leI (len l) (len m) = decide (l.length ≤ m.length) := by simp [leI, len]
theorem eqI_lens {α β : Type} (l : List α) (m : List β) : eqI (len l) (len m) = decide (l.length = m.length) := by unfold eqI len; apply decide_eq_decide.2; omega
theorem fits_len2 {α β : Type} {l : List α} {m : List β} (h : l.length + m.length ≤ 4294967296) : fits (plus (len l) (len m)) = true := by
  apply fits_true; simp only [plus, len]; omega
theorem sel_if {α : Type} (c : Bool) (x y : α) : sel c x y = if c = true then x else y := by cases c <;> rfl
theorem sel_decide {α : Type} (p : Prop) [Decidable p] (x y : α) : sel (decide p) x y = if p then x else y := by by_cases h : p <;> simp [h, sel]
theorem eqS_iff {a b : List UInt8} : eqS a b = decide (a = b) := rfl
theorem eqS_false {a b : List UInt8} (h : a ≠ b) : eqS a b = false := by simp [eqS, h]
theorem eqS_true {a b : List UInt8} (h : a = b) : eqS a b = true := by simp [eqS, h]
theorem u8_eq {c : UInt8} {n : UInt8} : eqI (u8 c) (n.toNat : Int) = decide (c = n) := by
  unfold eqI u8
  by_cases h : c = n
  · simp [h]
  · have : c.toNat ≠ n.toNat := fun e => h (UInt8.toNat_inj.1 e)
    simp [h]; omega
theorem sub_take {α : Type} (l : List α) (n : Nat) : sub l 0 (minus (n : Int) 0) = l.take n := by
  unfold sub minus
  simp
theorem sub_take' {α β : Type} (l : List α) (m : List β) : sub l 0 (minus (len m) 0) = l.take m.length := sub_take l m.length
theorem sub_drop {α : Type} (l : List α) (n : Nat) (h : n ≤ l.length) : sub l (n : Int) (minus (len l) (n : Int)) = l.drop n := by
  unfold sub minus len
  rw [Int.toNat_natCast]
  apply List.take_of_length_le
  rw [List.length_drop]
  omega
theorem eqN_zero : eqN 0 0 = true := rfl
theorem eqN_one : eqN 1 0 = false := rfl

theorem getElem?_lt {α : Type} {l : List α} {i : Nat} {x : α} (h : l[i]? = some x) : i < l.length := (List.getElem?_eq_some_iff.1 h).1
theorem sub_one {α : Type} {l : List α} {i : Nat} {x : α} (h : l[i]? = some x) : sub l (i : Int) (minus ((i + 1 : Nat) : Int) (i : Int)) = [x] := by
  unfold sub minus
  rw [show ((i + 1 : Nat) : Int) - (i : Int) = 1 by omega, Int.toNat_natCast]
  obtain ⟨hi, rfl⟩ := List.getElem?_eq_some_iff.1 h
  rw [List.drop_eq_getElem_cons hi]
  rfl
theorem inside_nat {a b n : Nat} (h : a ≤ b) (k : b ≤ n) : inside (a : Int) (b : Int) (n : Int) = true := inside_true (by omega) (by omega) (by omega)
theorem inside_len {α : Type} {a b : Nat} {l : List α} (h : a ≤ b) (k : b ≤ l.length) : inside (a : Int) (b : Int) (len l) = true := inside_nat h k
theorem idx_some' {α : Type} {l : List α} {i : Nat} {x : α} (h : l[i]? = some x) : idx l (i : Int) = some x := by rw [idx_nat, h]
theorem ltI_len_true {α : Type} {l : List α} {i : Nat} (h : i < l.length) : ltI (i : Int) (len l) = true := by rw [ltI_len, decide_eq_true h]
theorem ltI_len_end {α : Type} {l : List α} : ltI (l.length : Int) (len l) = false := by rw [ltI_len, decide_eq_false (by omega)]
theorem app_eq {α : Type} (l m : List α) : app l m = l ++ m := rfl
theorem nt_eq (b : Bool) : nt b = !b := rfl
theorem len_eq {α : Type} (l : List α) : len l = (l.length : Int) := rfl
end Go.Ge

/- The order of texts; two lists gone through side by side. -/
namespace Go.Ge
set_option linter.unusedVariables false
set_option linter.unusedSimpArgs false

theorem ltS_nil (y : List UInt8) : ltS [] y = decide (y ≠ []) := by cases y <;> simp [ltS, Op.bytesLess]
theorem ltS_nil' (x : List UInt8) : ltS x [] = false := by cases x <;> simp [ltS, Op.bytesLess]
theorem ltS_cons (a b : UInt8) (x y : List UInt8) : ltS (a :: x) (b :: y) = (decide (a < b) || (a == b && ltS x y)) := by simp [ltS, Op.bytesLess]

theorem u8_irrefl (a : UInt8) : ¬ a < a := UInt8.lt_irrefl a
theorem u8_tri (a b : UInt8) : a < b ∨ a = b ∨ b < a := by
  rcases Nat.lt_trichotomy a.toNat b.toNat with h | h | h
  · exact .inl h
  · exact .inr (.inl (UInt8.toNat_inj.1 h))
  · exact .inr (.inr h)

theorem ltS_irrefl : ∀ x : List UInt8, ltS x x = false := by
  intro x
  induction x with
  | nil => rfl
  | cons a x ih => rw [ltS_cons, ih]; simp [u8_irrefl]

theorem ltS_trans : ∀ {x y z : List UInt8}, ltS x y = true → ltS y z = true → ltS x z = true := by
  intro x
  induction x with
  | nil =>
    intro y z h k
    cases z with
    | nil => rw [ltS_nil'] at k; cases k
    | cons c z => rfl
  | cons a x ih =>
    intro y z h k
    cases y with
    | nil => rw [ltS_nil'] at h; cases h
    | cons b y =>
      cases z with
      | nil => rw [ltS_nil'] at k; cases k
      | cons c z =>
        rw [ltS_cons] at h k ⊢
        simp only [Bool.or_eq_true, decide_eq_true_eq, Bool.and_eq_true, beq_iff_eq] at h k ⊢
        rcases h with h | ⟨rfl, h⟩
        · rcases k with k | ⟨rfl, k⟩
          · exact .inl (UInt8.lt_trans h k)
          · exact .inl h
        · rcases k with k | ⟨rfl, k⟩
          · exact .inl k
          · exact .inr ⟨rfl, ih h k⟩

theorem ltS_tri : ∀ (x y : List UInt8), ltS x y = true ∨ x = y ∨ ltS y x = true := by
  intro x
  induction x with
  | nil => intro y; cases y <;> simp [ltS_nil]
  | cons a x ih =>
    intro y
    cases y with
    | nil => exact .inr (.inr rfl)
    | cons b y =>
      rw [ltS_cons, ltS_cons]
      simp only [Bool.or_eq_true, decide_eq_true_eq, Bool.and_eq_true, beq_iff_eq]
      rcases u8_tri a b with h | rfl | h
      · exact .inl (.inl h)
      · rcases ih y with h | rfl | h
        · exact .inl (.inr ⟨rfl, h⟩)
        · exact .inr (.inl rfl)
        · exact .inr (.inr (.inr ⟨rfl, h⟩))
      · exact .inr (.inr (.inl h))

theorem ltS_asymm {x y : List UInt8} (h : ltS x y = true) : ltS y x = false := by
  cases k : ltS y x with
  | false => rfl
  | true => have := ltS_trans h k; rw [ltS_irrefl] at this; cases this
theorem ltS_ne {x y : List UInt8} (h : ltS x y = true) : x ≠ y := fun e => by rw [e, ltS_irrefl] at h; cases h

/-- Greater: neither less nor the same. -/
theorem gtS_eq (x y : List UInt8) : nt (oor (ltS x y) (eqS x y)) = ltS y x := by
  rcases ltS_tri x y with h | rfl | h
  · rw [h, ltS_asymm h]; rfl
  · rw [eqS_self, ltS_irrefl]; rfl
  · rw [h, ltS_asymm h, eqS_false (fun e => ltS_ne h e.symm)]; rfl

/-- Of three numbers. -/
def cmpS (x y : List UInt8) : Int := if ltS x y = true then -1 else if x = y then 0 else 1

/-- Lists of texts in order. -/
def cmpL : List (List UInt8) → List (List UInt8) → Int
  | [], [] => 0
  | [], _ :: _ => -1
  | _ :: _, [] => 1
  | a :: x, b :: y => if a = b then cmpL x y else if ltS a b = true then -1 else 1

theorem cmpL_self : ∀ x, cmpL x x = 0 := by
  intro x
  induction x with
  | nil => rfl
  | cons a x ih => rw [cmpL, if_pos rfl]; exact ih
theorem cmpL_zero : ∀ {x y}, cmpL x y = 0 → x = y := by
  intro x
  induction x with
  | nil => intro y h; cases y with | nil => rfl | cons b y => cases h
  | cons a x ih =>
    intro y h
    cases y with
    | nil => cases h
    | cons b y =>
      rw [cmpL] at h
      split at h
      · rename_i e; rw [e, ih h]
      · split at h <;> cases h
theorem cmpL_neg : ∀ x y, cmpL x y = - cmpL y x := by
  intro x
  induction x with
  | nil => intro y; cases y <;> rfl
  | cons a x ih =>
    intro y
    cases y with
    | nil => rfl
    | cons b y =>
      rw [cmpL, cmpL]
      by_cases e : a = b
      · rw [if_pos e, if_pos e.symm, ih y]
      · have e' : ¬ b = a := fun q => e q.symm
        rw [if_neg e, if_neg e']
        rcases ltS_tri a b with h | h | h
        · rw [if_pos h, if_neg (by rw [ltS_asymm h]; simp)]
        · exact absurd h e
        · rw [if_neg (by rw [ltS_asymm h]; simp), if_pos h]; rfl
theorem cmpL_trans : ∀ {x y z}, cmpL x y < 0 → cmpL y z < 0 → cmpL x z < 0 := by
  intro x
  induction x with
  | nil =>
    intro y z h k
    cases z with
    | nil => cases y with | nil => exact absurd k (by simp [cmpL]) | cons b y => exact absurd k (by simp [cmpL])
    | cons c z => exact (by decide : (-1 : Int) < 0)
  | cons a x ih =>
    intro y z h k
    cases y with
    | nil => exact absurd h (by simp [cmpL])
    | cons b y =>
      cases z with
      | nil => exact absurd k (by simp [cmpL])
      | cons c z =>
        rw [cmpL] at h k ⊢
        by_cases e : a = b
        · subst e
          rw [if_pos rfl] at h
          by_cases e2 : a = c
          · subst e2
            rw [if_pos rfl] at k ⊢
            exact ih h k
          · rw [if_neg e2] at k ⊢
            exact k
        · rw [if_neg e] at h
          have hab : ltS a b = true := by
            cases q : ltS a b with
            | true => rfl
            | false => rw [q, if_neg (by simp)] at h; exact absurd h (by decide)
          by_cases e2 : b = c
          · subst e2
            rw [if_neg e]
            exact h
          · rw [if_neg e2] at k
            have hbc : ltS b c = true := by
              cases q : ltS b c with
              | true => rfl
              | false => rw [q, if_neg (by simp)] at k; exact absurd k (by decide)
            have hac := ltS_trans hab hbc
            rw [if_neg (ltS_ne hac), if_pos hac]
            decide
/-- What begins with all of another list stands behind it. -/
theorem cmpL_app (x r : List (List UInt8)) (h : r ≠ []) : cmpL x (x ++ r) = -1 := by
  induction x with
  | nil => cases r with | nil => exact absurd rfl h | cons a r => rfl
  | cons a x ih => rw [List.cons_append, cmpL, if_pos rfl]; exact ih

/-! ### Side by side -/
end Go.Ge

/- Plain laws of loops that look for something in a list. -/
namespace Go.Ge
set_option linter.unusedVariables false
set_option linter.unusedSimpArgs false

/-- The first place of a list that something is true of, or none. -/
theorem first_or {α : Type} (l : List α) (p : Nat → α → Bool) :
    (∃ i x, l[i]? = some x ∧ p i x = true ∧ ∀ j y, j < i → l[j]? = some y → p j y = false) ∨ ∀ i x, l[i]? = some x → p i x = false := by
  by_cases h : ∃ i x, l[i]? = some x ∧ p i x = true
  · left
    have key : ∀ n i x, i ≤ n → l[i]? = some x → p i x = true → ∃ i x, l[i]? = some x ∧ p i x = true ∧ ∀ j y, j < i → l[j]? = some y → p j y = false := by
      intro n
      induction n with
      | zero =>
        intro i x hi hx hp
        obtain rfl : i = 0 := by omega
        exact ⟨0, x, hx, hp, fun j y hj => by omega⟩
      | succ n ih =>
        intro i x hi hx hp
        by_cases k : ∃ j y, j < i ∧ l[j]? = some y ∧ p j y = true
        · obtain ⟨j, y, hj, hy, hq⟩ := k
          exact ih j y (by omega) hy hq
        · refine ⟨i, x, hx, hp, fun j y hj hy => ?_⟩
          cases hq : p j y with
          | false => rfl
          | true => exact absurd ⟨j, y, hj, hy, hq⟩ k
    obtain ⟨i, x, hx, hp⟩ := h
    exact key i i x (Nat.le_refl _) hx hp
  · right
    intro i x hx
    cases hq : p i x with
    | false => rfl
    | true => exact absurd ⟨i, x, hx, hq⟩ h

/-- A search through a list. -/
theorem srch {α S R : Type} {f : S → Option (S ⊕ R)} (l : List α) (mk : Int → S) (p : Nat → α → Bool) (hitS : Nat → α → R) (finS : R) (hl : l.length ≤ 4294967296)
    (hstep : ∀ i x, l[i]? = some x → i < l.length → iadd .i64 (i : Int) 1 = ((i + 1 : Nat) : Int) → f (mk (i : Int)) = some (if p i x = true then .inr (hitS i x) else .inl (mk ((i + 1 : Nat) : Int))))
    (hfin : f (mk (l.length : Int)) = some (.inr finS)) :
    (∃ i x, l[i]? = some x ∧ p i x = true ∧ (∀ j y, j < i → l[j]? = some y → p j y = false) ∧ Loop f (mk 0) = some (hitS i x)) ∨ ((∀ i x, l[i]? = some x → p i x = false) ∧ Loop f (mk 0) = some finS) := by
  have adv : ∀ i x, l[i]? = some x → p i x = false → f (mk (i : Int)) = some (.inl (mk ((i + 1 : Nat) : Int))) := fun i x hx hp => by
    have hi := getElem?_lt hx
    rw [hstep i x hx hi (iadd_one (by omega)), hp]; rfl
  rcases first_or l p with ⟨i, x, hx, hp, hj⟩ | hn
  · left
    refine ⟨i, x, hx, hp, hj, ?_⟩
    have hi := getElem?_lt hx
    refine loop_seq i (fun j : Nat => mk (j : Int)) (fun j hji => ?_) ?_
    · have hjl : j < l.length := by omega
      exact adv j l[j] (List.getElem?_eq_getElem hjl) (hj j _ hji (List.getElem?_eq_getElem hjl))
    · rw [hstep i x hx hi (iadd_one (by omega)), hp]; rfl
  · right
    refine ⟨hn, loop_seq l.length (fun j : Nat => mk (j : Int)) (fun j hj => ?_) hfin⟩
    exact adv j l[j] (List.getElem?_eq_getElem hj) (hn j _ (List.getElem?_eq_getElem hj))

/-- The same where it ends ahead of the list's end, at a bound of its own. -/
theorem srchTo {α S R : Type} {f : S → Option (S ⊕ R)} (l : List α) (n : Nat) (mk : Int → S) (p : Nat → α → Bool) (hitS : Nat → α → R) (finS : Nat → R) (hl : min n l.length ≤ 4294967296)
    (hstep : ∀ i x, l[i]? = some x → i < l.length → i < n → iadd .i64 (i : Int) 1 = ((i + 1 : Nat) : Int) → f (mk (i : Int)) = some (if p i x = true then .inr (hitS i x) else .inl (mk ((i + 1 : Nat) : Int))))
    (hfin : f (mk ((min n l.length : Nat) : Int)) = some (.inr (finS (min n l.length)))) :
    (∃ i x, i < n ∧ l[i]? = some x ∧ p i x = true ∧ (∀ j y, j < i → l[j]? = some y → p j y = false) ∧ Loop f (mk 0) = some (hitS i x)) ∨ ((∀ i x, i < n → l[i]? = some x → p i x = false) ∧ Loop f (mk 0) = some (finS (min n l.length))) := by
  have ht : ∀ i x, (l.take n)[i]? = some x ↔ (i < n ∧ l[i]? = some x) := fun i x => by
    rw [List.getElem?_take]
    by_cases h : i < n
    · simp [h]
    · simp [h]
  have hlen : (l.take n).length = min n l.length := List.length_take
  rcases srch (f := f) (l.take n) mk p hitS (finS (min n l.length)) (by rw [hlen]; exact hl) (fun i x hx hi hadd => by
      obtain ⟨h1, h2⟩ := (ht i x).1 hx
      exact hstep i x h2 (getElem?_lt h2) h1 hadd) (by rw [hlen]; exact hfin) with ⟨i, x, hx, hp, hj, h⟩ | ⟨hn, h⟩
  · obtain ⟨h1, h2⟩ := (ht i x).1 hx
    exact .inl ⟨i, x, h1, h2, hp, fun j y hji hy => hj j y hji ((ht j y).2 ⟨by omega, hy⟩), h⟩
  · exact .inr ⟨fun i x hi hx => hn i x ((ht i x).2 ⟨hi, hx⟩), h⟩

/-- A list gone through, of whose elements another one is made. -/
theorem fold_app {α β S R : Type} {f : S → Option (S ⊕ R)} (l : List α) (mk : List β → Int → S) (g : α → List β) (fin : R) (hl : l.length ≤ 4294967296)
    (hstep : ∀ i x, l[i]? = some x → i < l.length → iadd .i64 (i : Int) 1 = ((i + 1 : Nat) : Int) → f (mk ((l.take i).flatMap g) (i : Int)) = some (.inl (mk ((l.take i).flatMap g ++ g x) ((i + 1 : Nat) : Int))))
    (hfin : f (mk (l.flatMap g) (l.length : Int)) = some (.inr fin)) : Loop f (mk [] 0) = some fin := by
  refine loop_seq l.length (fun j : Nat => mk ((l.take j).flatMap g) (j : Int)) (fun j hj => ?_) (by simp only [List.take_length]; exact hfin)
  have hx : l[j]? = some l[j] := List.getElem?_eq_getElem hj
  have := hstep j l[j] hx hj (iadd_one (by omega))
  rw [this, List.take_add_one, hx, List.flatMap_append]
  simp
theorem mem_at {α : Type} {l : List α} {x : α} : x ∈ l ↔ ∃ i : Nat, l[i]? = some x := by rw [List.mem_iff_getElem?]
end Go.Ge

/- SHA-256 in plain words: rotations, the words of a block, the rounds. -/
namespace Go.Ge
set_option linter.unusedVariables false
set_option linter.unusedSimpArgs false

def rot (n x : Int) : Int := ior .u32 (ishr .u32 x n) (ishl .u32 x (32 - n))

theorem right_of {n m : Int} (h : iand .u64 (icv .u64 (isub .i64 0 n)) 31 = m) (h1 : ltI m 0 = false) (h2 : isub .u64 32 m = n) (h3 : ltI n 0 = false) (h4 : 32 - n = m) (x : Int) : P_sha_right (x, (n, ())) = some (rot n x, ()) := by
  unfold P_sha_right P_math_bits_RotateLeft32 rot
  dsimp only
  rw [h, h1, sel_false, h2, h3, sel_false, obind_some, h4, ior_comm32]
theorem turn_of {n : Int} (h1 : ltI n 0 = false) (h2 : isub .i64 32 n = 32 - n) (h3 : ltI (32 - n) 0 = false) (x : Int) : P_ref02_turn (x, (n, ())) = some (rot n x, ()) := by
  unfold P_ref02_turn rot
  dsimp only
  rw [h1, sel_false, h2, h3, sel_false]

theorem r2 (x : Int) : P_sha_right (x, (2, ())) = some (rot 2 x, ()) := right_of (m := 30) (by decide) (by decide) (by decide) (by decide) (by decide) x
theorem t2 (x : Int) : P_ref02_turn (x, (2, ())) = some (rot 2 x, ()) := turn_of (by decide) (by decide) (by decide) x
/-! ### The words of a block -/
def word (b : List Int) (t : Nat) : Int :=
  ior .u32 (ior .u32 (ior .u32 (ishl .u32 (icv .u32 (b.getD (4 * t) 0)) 24) (ishl .u32 (icv .u32 (b.getD (4 * t + 1) 0)) 16)) (ishl .u32 (icv .u32 (b.getD (4 * t + 2) 0)) 8)) (icv .u32 (b.getD (4 * t + 3) 0))
def zeros (n : Nat) : List Int := List.replicate n 0
def fillW (b : List Int) : Nat → List Int
  | 0 => zeros 64
  | t + 1 => (fillW b t).set t (word b t)
def nextW (p : List Int) (t : Nat) : Int :=
  iadd .u32 (iadd .u32 (iadd .u32 (ixor .u32 (ixor .u32 (rot 17 (p.getD (t - 2) 0)) (rot 19 (p.getD (t - 2) 0))) (ishr .u32 (p.getD (t - 2) 0) 10)) (p.getD (t - 7) 0))
    (ixor .u32 (ixor .u32 (rot 7 (p.getD (t - 15) 0)) (rot 18 (p.getD (t - 15) 0))) (ishr .u32 (p.getD (t - 15) 0) 3))) (p.getD (t - 16) 0)
def extW (l : List Int) : Nat → List Int
  | 0 => l
  | k + 1 => (extW l k).set (16 + k) (nextW (extW l k) (16 + k))
def schedW (b : List Int) : List Int := extW (fillW b 16) 48
/-! ### The same of the reference -/
/-! ### The rounds -/
abbrev W8 := Int × Int × Int × Int × Int × Int × Int × Int
def rnd (k w : Int) : W8 → W8
  | (a, b, c, d, e, f, g, h) =>
    let one := iadd .u32 (iadd .u32 (iadd .u32 (iadd .u32 h (ixor .u32 (ixor .u32 (rot 6 e) (rot 11 e)) (rot 25 e))) (ixor .u32 g (iand .u32 e (ixor .u32 f g)))) k) w
    let two := iadd .u32 (ixor .u32 (ixor .u32 (rot 2 a) (rot 13 a)) (rot 22 a)) (ior .u32 (iand .u32 a b) (iand .u32 c (ior .u32 a b)))
    (iadd .u32 one two, a, b, c, iadd .u32 d one, e, f, g)
def rnds (K w : List Int) (s : W8) : Nat → W8
  | 0 => s
  | t + 1 => rnd (K.getD t 0) (w.getD t 0) (rnds K w s t)
def K256 : List Int := [1116352408, 1899447441, 3049323471, 3921009573, 961987163, 1508970993, 2453635748, 2870763221, 3624381080, 310598401, 607225278, 1426881987, 1925078388, 2162078206, 2614888103, 3248222580, 3835390401, 4022224774, 264347078, 604807628, 770255983, 1249150122, 1555081692, 1996064986, 2554220882, 2821834349, 2952996808, 3210313671, 3336571891, 3584528711, 113926993, 338241895, 666307205, 773529912, 1294757372, 1396182291, 1695183700, 1986661051, 2177026350, 2456956037, 2730485921, 2820302411, 3259730800, 3345764771, 3516065817, 3600352804, 4094571909, 275423344, 430227734, 506948616, 659060556, 883997877, 958139571, 1322822218, 1537002063, 1747873779, 1955562222, 2024104815, 2227730452, 2361852424, 2428436474, 2756734187, 3204031479, 3329325298]
def list8 (s : W8) : List Int := [s.1, s.2.1, s.2.2.1, s.2.2.2.1, s.2.2.2.2.1, s.2.2.2.2.2.1, s.2.2.2.2.2.2.1, s.2.2.2.2.2.2.2]

/-! ### A block -/
def of8 (l : List Int) : W8 := (l.getD 0 0, l.getD 1 0, l.getD 2 0, l.getD 3 0, l.getD 4 0, l.getD 5 0, l.getD 6 0, l.getD 7 0)
def addW (l m : List Int) : Nat → List Int
  | 0 => l
  | i + 1 => (addW l m i).set i (iadd .u32 (l.getD i 0) (m.getD i 0))
/-- The eight words behind a block. -/
def comp (h b : List Int) : List Int := addW h (list8 (rnds K256 (schedW b) (of8 h) 64)) 8
end Go.Ge

/- SHA-256 in plain words: streams. -/
namespace Go.Ge
set_option linter.unusedVariables false
set_option linter.unusedSimpArgs false

def H0 : List Int := [1779033703, 3144134277, 1013904242, 2773480762, 1359893119, 2600822924, 528734635, 1541459225]
/-- The words behind so many blocks of some bytes. -/
def hsB (all : List UInt8) : Nat → List Int
  | 0 => H0
  | k + 1 => comp (hsB all k) (bytesInts ((all.drop (64 * k)).take 64))
abbrev Strm := (Bool × List Int × Unit) × List Int × Int × Unit

/-- A stream that has taken some bytes. -/
def Inv (st : Strm) (all : List UInt8) : Prop :=
  ∃ wait, st = ((decide (64 ≤ all.length), (if 64 ≤ all.length then hsB all (all.length / 64) else zeros 8), ()), wait, (all.length : Int), ()) ∧ wait.length = 64 ∧ wait.take (all.length % 64) = bytesInts (all.drop (64 * (all.length / 64)))

theorem bytesInts_app (a b : List UInt8) : bytesInts (a ++ b) = bytesInts a ++ bytesInts b := by simp [bytesInts]
theorem bytesInts_take (a : List UInt8) (n : Nat) : (bytesInts a).take n = bytesInts (a.take n) := by simp [bytesInts, List.map_take]
theorem length_bytes (a : List UInt8) : (bytesInts a).length = a.length := by simp [bytesInts]

end Go.Ge

/- SHA-256 in plain words: sums, the program's and the reference's. -/
namespace Go.Ge
set_option linter.unusedVariables false
set_option linter.unusedSimpArgs false

/-! ### What stands behind the bytes -/
def zs (n : Nat) : Nat := (119 - n % 64) % 64
theorem intsBytes_bytes (s : List UInt8) : intsBytes (bytesInts s) = s := by
  unfold intsBytes bytesInts
  rw [List.map_map]
  conv => rhs; rw [← List.map_id s]
  apply List.map_congr_left
  intro x _
  simp
/-! ### The reference -/
/-! ### The bytes of the sum -/
/-! ### The program -/
end Go.Ge

/- The laws of layer 02 in plain words. -/
namespace Go.Ge
set_option linter.unusedVariables false
set_option linter.unusedSimpArgs false

abbrev PartS := (Bool × List UInt8 × Int × Unit) × Strm × Strm × Unit

end Go.Ge

/- Bytes as hexadecimal digits, and back, in plain words. -/
namespace Go.Ge
set_option linter.unusedVariables false
set_option linter.unusedSimpArgs false

def hexT : List UInt8 := [48, 49, 50, 51, 52, 53, 54, 55, 56, 57, 97, 98, 99, 100, 101, 102]
def hx (n : Nat) : UInt8 := hexT.getD n 0
def hexF : List UInt8 → List UInt8
  | [] => []
  | b :: r => hx (b.toNat / 16) :: hx (b.toNat % 16) :: hexF r
theorem length_hexF (l : List UInt8) : (hexF l).length = 2 * l.length := by
  induction l with
  | nil => rfl
  | cons b r ih => simp only [hexF, List.length_cons, ih]; omega
theorem hexF_app (a b : List UInt8) : hexF (a ++ b) = hexF a ++ hexF b := by
  induction a with
  | nil => rfl
  | cons x r ih => simp only [List.cons_append, hexF, ih]

theorem hexT_hi : ∀ n : Fin 256, idx hexT (ishr .u8 (n.val : Int) 4) = some (hx (n.val / 16)) := by decide +kernel
theorem hexT_lo : ∀ n : Fin 256, idx hexT (iand .u8 (n.val : Int) 15) = some (hx (n.val % 16)) := by decide +kernel
theorem hex_hi (b : UInt8) : idx hexT (ishr .u8 (u8 b) 4) = some (hx (b.toNat / 16)) := hexT_hi ⟨b.toNat, b.toNat_lt⟩
theorem hex_lo (b : UInt8) : idx hexT (iand .u8 (u8 b) 15) = some (hx (b.toNat % 16)) := hexT_lo ⟨b.toNat, b.toNat_lt⟩

theorem idx_bytes (s : List UInt8) {k : Nat} (h : k < s.length) : idx (bytesInts s) (k : Int) = some (u8 s[k]) := by
  rw [idx_nat]; simp [bytesInts, u8, h]
theorem len_bytes (s : List UInt8) : len (bytesInts s) = (s.length : Int) := by simp [len, bytesInts]
theorem take_succ_at (s : List UInt8) {k : Nat} (h : k < s.length) : s.take (k + 1) = s.take k ++ [s[k]] := by
  rw [List.take_add_one, List.getElem?_eq_getElem h]; rfl

theorem hexStep (s : List UInt8) {k : Nat} (h : k < s.length) : bytesInts (hexF (s.take (k + 1))) = (bytesInts (hexF (s.take k)) ++ [u8 (hx (s[k].toNat / 16))]) ++ [u8 (hx (s[k].toNat % 16))] := by
  rw [take_succ_at s h, hexF_app, bytesInts_app, List.append_assoc]
  rfl

theorem hexLen (s : List UInt8) (hs : s.length ≤ 1048576) {k : Nat} (h : k < s.length) (x y : Int) :
    fits (plus (len (bytesInts (hexF (s.take k)))) (len [x])) = true ∧ fits (plus (len (bytesInts (hexF (s.take k)) ++ [x])) (len [y])) = true := by
  constructor
  · apply fits_true
    rw [len_bytes, length_hexF]
    simp only [List.length_take, plus, len, List.length_cons, List.length_nil]
    omega
  · apply fits_true
    have : (bytesInts (hexF (s.take k)) ++ [x]).length = 2 * min k s.length + 1 := by
      rw [List.length_append, length_bytes, length_hexF, List.length_take]; rfl
    simp only [plus, len, this, List.length_cons, List.length_nil]
    omega

theorem hex_val (s : List UInt8) (hs : s.length ≤ 1048576) : P_digits_Hex (s, ()) = some (hexF s, ()) := by
  unfold P_digits_Hex
  dsimp only
  rw [fits_true (by simp only [len]; omega), sel_true]
  have key : Loop (P_digits_Hex_L0 (s, ())) ((0, ()), (((), ((), ())), ([], ()))) = some (((s.length : Int), ()), (((), ((), ())), (bytesInts (hexF s), ()))) := by
    have := loop_seq (f := P_digits_Hex_L0 (s, ())) (r := (((s.length : Int), ()), (((), ((), ())), (bytesInts (hexF s), ())))) s.length (fun k => (((k : Int), ()), (((), ((), ())), (bytesInts (hexF (s.take k)), ())))) (fun k hk => by
      unfold P_digits_Hex_L0
      dsimp only
      obtain ⟨f1, f2⟩ := hexLen s hs hk (u8 (hx (s[k].toNat / 16))) (u8 (hx (s[k].toNat % 16)))
      rw [len_bytes, ltI_true (by omega), sel_true, within_true (by omega) (by omega), sel_true, idx_bytes s hk, obind_some, ltI_false (by decide), sel_false]
      rw [show ([48, 49, 50, 51, 52, 53, 54, 55, 56, 57, 97, 98, 99, 100, 101, 102] : List UInt8) = hexT from rfl, hex_hi, obind_some, f1, sel_true, hex_lo, obind_some]
      unfold app
      rw [f2, sel_true, way1_inl, iadd_one (by omega), hexStep s hk]) (by
      unfold P_digits_Hex_L0
      dsimp only
      rw [len_bytes, ltI_false (by omega), sel_false, way1_inr, List.take_length])
    exact this
  rw [key, obind_some]
  dsimp only
  rw [intsBytes_bytes]

/-! ### The reference's digits -/
end Go.Ge

/- Pairs of hexadecimal digits as bytes, in plain words. -/
namespace Go.Ge
set_option linter.unusedVariables false
set_option linter.unusedSimpArgs false

def hv (c : UInt8) : Int := Lib.indexByte hexT c
end Go.Ge

/- Pairs of hexadecimal digits as bytes: the reference. -/
namespace Go.Ge
set_option linter.unusedVariables false
set_option linter.unusedSimpArgs false

theorem iadd_nat {a b : Nat} (h : a + b < 4611686018427387904) : iadd .i64 (a : Int) (b : Int) = ((a + b : Nat) : Int) := by
  rw [iadd_i64 (by omega) (by omega)]; omega

end Go.Ge

/- Digests in plain words. -/
namespace Go.Ge
set_option linter.unusedVariables false
set_option linter.unusedSimpArgs false

theorem sub_whole {α : Type} (l : List α) (n : Nat) (h : l.length = n) : sub l 0 (minus n 0) = l := by
  unfold sub minus
  rw [show ((0 : Int).toNat) = 0 from rfl, List.drop_zero, List.take_of_length_le (by omega)]

end Go.Ge

/- Octal digits in plain words. -/
namespace Go.Ge
set_option linter.unusedVariables false
set_option linter.unusedSimpArgs false

def octD (n k : Nat) : UInt8 := UInt8.ofNat (48 + n / 8 ^ k % 8)
def octF (n : Nat) : Nat → List UInt8
  | 0 => []
  | k + 1 => octD n k :: octF n k
theorem length_octF (n k : Nat) : (octF n k).length = k := by
  induction k with
  | zero => rfl
  | succ k ih => simp [octF, ih]

theorem iand7 {n : Nat} (h : n < 9223372036854775808) : iand .i64 (n : Int) 7 = ((n % 8 : Nat) : Int) := by
  unfold iand
  have e : (BitVec.ofInt IntKind.i64.bits (n : Int) &&& BitVec.ofInt IntKind.i64.bits 7).toNat = n % 8 := by
    rw [BitVec.toNat_and]
    have h1 : (BitVec.ofInt IntKind.i64.bits (n : Int)).toNat = n := by
      rw [BitVec.toNat_ofInt, show (IntKind.i64.bits) = 64 from rfl]
      omega
    have h2 : (BitVec.ofInt IntKind.i64.bits (7 : Int)).toNat = 2 ^ 3 - 1 := rfl
    rw [h1, h2, Nat.and_two_pow_sub_one_eq_mod]
  rw [e]
  exact icv_i64 (by omega) (by omega)
theorem ishr3 (n : Nat) : ishr .i64 (n : Int) 3 = ((n / 8 : Nat) : Int) := by
  unfold ishr
  rw [show min (Int.toNat 3) IntKind.i64.bits = 3 from rfl, Int.fdiv_eq_ediv_of_nonneg _ (by decide)]
  omega
theorem pow8 (k : Nat) : 8 ^ (k + 1) = 8 ^ k * 8 := Nat.pow_succ ..
theorem div8 (n k : Nat) : n / 8 ^ k / 8 = n / 8 ^ (k + 1) := by rw [Nat.div_div_eq_div_mul, pow8]

def zint (n : Nat) : List Int := List.replicate n 0
theorem lset_last (k : Nat) (x : Int) (r : List Int) : lset (zint (k + 1) ++ r) (k : Int) x = zint k ++ (x :: r) := by
  rw [lset_nat]
  have : zint (k + 1) = zint k ++ [0] := by simp [zint, List.replicate_succ']
  rw [this, List.append_assoc]
  have hl : (zint k).length = k := by simp [zint]
  rw [List.set_append_right _ _ (by omega), hl, Nat.sub_self]
  rfl

theorem octT : ∀ d : Fin 8, idx hexT (d.val : Int) = some (UInt8.ofNat (48 + d.val)) := by decide +kernel

theorem octal_val (n d : Nat) (hn : n < 9223372036854775808) (h1 : 1 ≤ d) (h2 : d ≤ 21) :
    P_digits_Octal ((n : Int), ((d : Int), ())) = some (if n / 8 ^ d = 0 then (octF n d, (true, ())) else ([], (false, ()))) := by
  unfold P_digits_Octal
  dsimp only
  rw [ltI_false (by omega), nt_false, sel_true, ltI_false (by omega), nt_false, sel_true, ltI_false (by omega), sel_false]
  have key : Loop (P_digits_Octal_L0 ((n : Int), ((d : Int), ()))) (((n : Int), (0, ())), (zint 21, ())) = some ((((n / 8 ^ d : Nat) : Int), ((d : Int), ())), (zint (21 - d) ++ bytesInts (octF n d), ())) := by
    have := loop_seq (f := P_digits_Octal_L0 ((n : Int), ((d : Int), ()))) (r := ((((n / 8 ^ d : Nat) : Int), ((d : Int), ())), (zint (21 - d) ++ bytesInts (octF n d), ()))) d
      (fun k => ((((n / 8 ^ k : Nat) : Int), ((k : Int), ())), (zint (21 - k) ++ bytesInts (octF n k), ()))) (fun k hk => by
        unfold P_digits_Octal_L0
        dsimp only
        have hle : n / 8 ^ k ≤ n := Nat.div_le_self _ _
        have hlen : (zint (21 - k) ++ bytesInts (octF n k)).length = 21 := by rw [List.length_append, length_bytes, length_octF]; simp [zint]; omega
        have e20 : isub .i64 20 (k : Int) = ((20 - k : Nat) : Int) := by rw [isub_i64 (by omega) (by omega)]; omega
        have hidx := idx_getD (zint (21 - k) ++ bytesInts (octF n k)) 0 (i := 20 - k) (by omega)
        rw [ltI_true (by omega), sel_true, show ([48, 49, 50, 51, 52, 53, 54, 55, 56, 57, 97, 98, 99, 100, 101, 102] : List UInt8) = hexT from rfl, iand7 (by omega),
          octT ⟨n / 8 ^ k % 8, by omega⟩, obind_some, e20, within_true (by omega) (by omega), sel_true, hidx, obind_some, obind_some, obind_some, ltI_false (by decide), sel_false, way1_inl, ishr3, div8, iadd_one (by omega)]
        have e21 : 21 - k = (20 - k) + 1 := by omega
        rw [e21, lset_last, show 21 - (k + 1) = 20 - k by omega]
        rfl) (by
        unfold P_digits_Octal_L0
        dsimp only
        rw [ltI_false (by omega), sel_false, way1_inr])
    have e0 : (((n / 8 ^ 0 : Nat) : Int), (((0 : Nat) : Int), ())) = ((n : Int), ((0 : Int), ())) := by simp
    have e1 : zint (21 - 0) ++ bytesInts (octF n 0) = zint 21 := rfl
    simp only [e0, e1] at this
    exact this
  rw [show ([0, 0, 0, 0, 0, 0, 0, 0, 0, 0, 0, 0, 0, 0, 0, 0, 0, 0, 0, 0, 0] : List Int) = zint 21 from rfl, key, obind_some]
  dsimp only
  by_cases h0 : n / 8 ^ d = 0
  · rw [h0, ltI_false (by decide), sel_false, if_pos rfl]
    have e21 : isub .i64 21 (d : Int) = ((21 - d : Nat) : Int) := by rw [isub_i64 (by omega) (by omega)]; omega
    rw [e21, inside_true (by omega) (by omega) (by omega), sel_true]
    have : sub (zint (21 - d) ++ bytesInts (octF n d)) ((21 - d : Nat) : Int) (minus 21 ((21 - d : Nat) : Int)) = bytesInts (octF n d) := by
      unfold sub minus
      rw [Int.toNat_natCast, List.drop_left' (by simp [zint]), List.take_of_length_le (by rw [length_bytes, length_octF]; omega)]
    rw [this, intsBytes_bytes]
  · rw [ltI_true (Int.natCast_pos.2 (Nat.pos_of_ne_zero h0)), sel_true, if_neg h0]

end Go.Ge

/- Texts without what stands at their ends, and the number of octal digits, in plain words. -/
namespace Go.Ge
set_option linter.unusedVariables false
set_option linter.unusedSimpArgs false
set_option maxRecDepth 100000

/-! ### What stands at the end is let go -/
/-! ### Both noughts and blanks -/
/-! ### The left end -/
end Go.Ge

/- Headers: which ones may be; numbers and texts of fields, in plain words. -/
namespace Go.Ge
set_option linter.unusedVariables false
set_option linter.unusedSimpArgs false

/-! ### Texts without noughts -/
def noNul (s : List UInt8) : Prop := ∀ x ∈ s, x ≠ 0
instance (s : List UInt8) : Decidable (noNul s) := inferInstanceAs (Decidable (∀ x ∈ s, x ≠ 0))

theorem index_nul : ∀ s : List UInt8, decide (Lib.indexByte s 0 < 0) = decide (noNul s) := by
  intro s
  induction s with
  | nil => rfl
  | cons b r ih =>
    unfold Lib.indexByte
    by_cases hb : b = 0
    · subst hb
      rw [if_pos (by rfl), decide_eq_false (by decide), decide_eq_false (fun h => h 0 (List.mem_cons_self ..) rfl)]
    · rw [if_neg (by simpa using hb)]
      by_cases hr : noNul r
      · rw [decide_eq_true hr] at ih
        have h1 : Lib.indexByte r 0 < 0 := of_decide_eq_true ih
        have h2 := (indexByte_range 0 r).1
        have h3 : Lib.indexByte r 0 = -1 := by omega
        rw [h3, if_pos (by rfl), decide_eq_true (by decide), decide_eq_true]
        intro x hx
        rcases List.mem_cons.1 hx with rfl | hx
        · exact hb
        · exact hr x hx
      · rw [decide_eq_false hr] at ih
        have h1 : ¬ Lib.indexByte r 0 < 0 := of_decide_eq_false ih
        rw [if_neg (by simp only [beq_iff_eq]; omega), decide_eq_false (by omega), decide_eq_false]
        intro h
        exact hr fun x hx => h x (List.mem_cons_of_mem _ hx)

theorem indexNul_val (s : List UInt8) : P_strings_IndexByte (s, (0, ())) = some (Lib.indexByte s 0, ()) := rfl

/-! ### Which headers may be -/
abbrev Hd := List UInt8 × Int × Int × Int × Int × Int × Int × List UInt8 × Unit
def clr (s : List UInt8) (most : Int) : Prop := s ≠ [] ∧ (s.length : Int) ≤ most ∧ noNul s
instance (s : List UInt8) (most : Int) : Decidable (clr s most) := inferInstanceAs (Decidable (_ ∧ _ ∧ _))
def inN (n b : Int) : Prop := 0 ≤ n ∧ n < b
instance (n b : Int) : Decidable (inN n b) := inferInstanceAs (Decidable (_ ∧ _))
def kindOk (h : Hd) : Prop := (h.2.1 = 1 ∧ h.2.2.2.2.2.2.2.1 = []) ∨ (h.2.1 = 2 ∧ h.2.2.2.2.2.2.2.1 = [] ∧ h.2.2.2.2.2.1 = 0) ∨ (h.2.1 = 3 ∧ clr h.2.2.2.2.2.2.2.1 100 ∧ h.2.2.2.2.2.1 = 0)
instance (h : Hd) : Decidable (kindOk h) := inferInstanceAs (Decidable (_ ∨ _ ∨ _))
def okHd (h : Hd) (most : Int) : Prop := inN h.2.2.1 2097152 ∧ inN h.2.2.2.1 2097152 ∧ inN h.2.2.2.2.1 2097152 ∧ inN h.2.2.2.2.2.1 8589934592 ∧ inN h.2.2.2.2.2.2.1 8589934592 ∧ clr h.1 most ∧ kindOk h
instance (h : Hd) (most : Int) : Decidable (okHd h most) := inferInstanceAs (Decidable (_ ∧ _ ∧ _ ∧ _ ∧ _ ∧ _ ∧ _))

theorem in_val (n b : Int) : P_header_in (n, (b, ())) = some (decide (inN n b), ()) := by
  unfold P_header_in
  dsimp only
  by_cases h : 0 ≤ n
  · rw [leI_true h, sel_true]
    unfold ltI inN
    congr 2
    simp [h]
  · rw [leI_false (by omega), sel_false, decide_eq_false (fun e => h e.1)]
theorem clear_val (s : List UInt8) (m : Int) : P_header_clear (s, (m, ())) = some (decide (clr s m), ()) := by
  unfold P_header_clear
  dsimp only
  by_cases h : s = []
  · subst h
    rw [show eqS [] [] = true from rfl, nt_true, sel_false, sel_false, obind_some, decide_eq_false (fun e => e.1 rfl)]
  · rw [show eqS s [] = false from decide_eq_false h, nt_false, sel_true]
    by_cases h2 : (s.length : Int) ≤ m
    · rw [leI_true (by simp only [len]; exact h2), sel_true, indexNul_val, obind_some, obind_some]
      unfold ltI
      dsimp only
      rw [index_nul]
      congr 2
      unfold clr
      simp [h, h2]
    · rw [leI_false (by simp only [len]; omega), sel_false, obind_some, decide_eq_false (fun e => h2 e.2.1)]

theorem is_val12 (h : Hd) (m : Int) : P_header_is (h, (m, ())) = some (decide (okHd h m), ()) := by
  unfold P_header_is
  dsimp only
  by_cases h1 : inN h.2.2.1 2097152
  case neg => rw [in_val, obind_some, decide_eq_false h1, sel_false, obind_some, sel_false, obind_some, sel_false, obind_some, sel_false, obind_some, nt_false, nt_true, sel_false, obind_some, sel_true, decide_eq_false (fun e => h1 e.1)]
  rw [in_val, obind_some, decide_eq_true h1, sel_true, in_val, obind_some, obind_some]
  by_cases h2 : inN h.2.2.2.1 2097152
  case neg => rw [decide_eq_false h2, sel_false, obind_some, sel_false, obind_some, sel_false, obind_some, nt_false, nt_true, sel_false, obind_some, sel_true, decide_eq_false (fun e => h2 e.2.1)]
  rw [decide_eq_true h2, sel_true, in_val, obind_some, obind_some]
  by_cases h3 : inN h.2.2.2.2.1 2097152
  case neg => rw [decide_eq_false h3, sel_false, obind_some, sel_false, obind_some, nt_false, nt_true, sel_false, obind_some, sel_true, decide_eq_false (fun e => h3 e.2.2.1)]
  rw [decide_eq_true h3, sel_true, in_val, obind_some, obind_some]
  by_cases h4 : inN h.2.2.2.2.2.1 8589934592
  case neg => rw [decide_eq_false h4, sel_false, obind_some, nt_false, nt_true, sel_false, obind_some, sel_true, decide_eq_false (fun e => h4 e.2.2.2.1)]
  rw [decide_eq_true h4, sel_true, in_val, obind_some, obind_some]
  by_cases h5 : inN h.2.2.2.2.2.2.1 8589934592
  case neg => rw [decide_eq_false h5, nt_false, nt_true, sel_false, obind_some, sel_true, decide_eq_false (fun e => h5 e.2.2.2.2.1)]
  rw [decide_eq_true h5, nt_true, nt_false, sel_true, clear_val, obind_some, obind_some]
  by_cases h6 : clr h.1 m
  case neg => rw [decide_eq_false h6, nt_false, sel_true, decide_eq_false (fun e => h6 e.2.2.2.2.2.1)]
  rw [decide_eq_true h6, nt_true, sel_false]
  have hk : decide (okHd h m) = decide (kindOk h) := decide_eq_decide.2 ⟨fun e => e.2.2.2.2.2.2, fun e => ⟨h1, h2, h3, h4, h5, h6, e⟩⟩
  rw [hk]
  by_cases k1 : h.2.1 = 1
  · rw [k1, eqI_self, sel_true]
    unfold eqS
    rw [show decide (h.2.2.2.2.2.2.2.1 = []) = decide (kindOk h) from decide_eq_decide.2 (by unfold kindOk; simp [k1])]
  · rw [eqI_false k1, sel_false]
    by_cases k2 : h.2.1 = 2
    · rw [k2, eqI_self, sel_true]
      unfold eqS eqI
      by_cases kl : h.2.2.2.2.2.2.2.1 = []
      · rw [decide_eq_true kl, sel_true, show decide (h.2.2.2.2.2.1 = 0) = decide (kindOk h) from decide_eq_decide.2 (by unfold kindOk; simp [k2, kl])]
      · rw [decide_eq_false kl, sel_false, show decide (kindOk h) = false from decide_eq_false (by unfold kindOk; simp [k2, kl])]
    · rw [eqI_false k2, sel_false]
      by_cases k3 : h.2.1 = 3
      · rw [k3, eqI_self, sel_true, clear_val, obind_some]
        dsimp only
        unfold eqI
        by_cases kl : clr h.2.2.2.2.2.2.2.1 100
        · rw [decide_eq_true kl, sel_true, show decide (h.2.2.2.2.2.1 = 0) = decide (kindOk h) from decide_eq_decide.2 (by unfold kindOk; simp [k3, kl])]
        · rw [decide_eq_false kl, sel_false, show decide (kindOk h) = false from decide_eq_false (by unfold kindOk; simp [k3, kl])]
      · rw [eqI_false k3, sel_false, show decide (kindOk h) = false from decide_eq_false (by unfold kindOk; simp [k1, k2, k3])]
end Go.Ge

/- Paths in plain words: their names, and what these are put together to. -/
namespace Go.Ge
set_option linter.unusedVariables false
set_option linter.unusedSimpArgs false

/-- A text at its strokes. -/
def splitS : List UInt8 → List (List UInt8)
  | [] => [[]]
  | b :: r => if b = 47 then [] :: splitS r else match splitS r with
    | h :: t => (b :: h) :: t
    | [] => [[b]]

theorem splitS_ne (s : List UInt8) : splitS s ≠ [] := by
  cases s with
  | nil => simp [splitS]
  | cons b r =>
    unfold splitS
    split
    · simp
    · split <;> simp

theorem splitS_cons {b : UInt8} (h : b ≠ 47) {r x : List UInt8} {t : List (List UInt8)} (e : splitS r = x :: t) : splitS (b :: r) = (b :: x) :: t := by
  rw [splitS, if_neg h, e]

/-- The names of a path. -/
def parts (p : List UInt8) : List (List UInt8) := if p = [] then [] else splitS p

theorem splitK_cons {b : UInt8} (h : b ≠ 47) : ∀ (k : Nat) (r x : List UInt8) (t : List (List UInt8)), Lib.splitK [47] 0 k r = x :: t → Lib.splitK [47] 0 k (b :: r) = (b :: x) :: t := by
  intro k r x t e
  cases k with
  | zero => simp [Lib.splitK] at e ⊢; exact ⟨by rw [e.1], e.2⟩
  | succ k =>
    have hix : Lib.index (b :: r) [47] = if Lib.index r [47] == -1 then -1 else Lib.index r [47] + 1 := by
      rw [Lib.index]
      have : ([47] : List UInt8).isPrefixOf (b :: r) = false := by simp [List.isPrefixOf, Ne.symm h]
      rw [this]; simp
    have hge := Lib.index_ge r [47]
    unfold Lib.splitK at e ⊢
    rw [hix]
    by_cases hm : (Lib.index r [47] == -1) = true
    · rw [if_pos hm] at e ⊢
      simp at e ⊢
      exact ⟨e.1, e.2⟩
    · rw [if_neg hm] at e ⊢
      have hm' : Lib.index r [47] ≠ -1 := fun q => hm (by rw [q]; rfl)
      have hn : ¬ ((Lib.index r [47] + 1 == -1) = true) := fun q => by have := beq_iff_eq.1 q; omega
      rw [if_neg hn]
      obtain ⟨j, hj⟩ : ∃ j : Nat, Lib.index r [47] = j := ⟨(Lib.index r [47]).toNat, by omega⟩
      have e1 : (Lib.index r [47] + 1).toNat = j + 1 := by omega
      have e2 : (Lib.index r [47]).toNat = j := by omega
      rw [e1]
      rw [e2] at e
      have := List.cons.inj e
      rw [show j + 1 + ([47] : List UInt8).length = (j + ([47] : List UInt8).length) + 1 by omega, List.drop_succ_cons, this.2]
      have e3 := this.1
      simp at e3 ⊢
      exact e3

theorem splitK_slash (k : Nat) (r : List UInt8) : Lib.splitK [47] 0 (k + 1) (47 :: r) = [] :: Lib.splitK [47] 0 k r := by
  have hix : Lib.index (47 :: r) [47] = 0 := by rw [Lib.index]; simp [List.isPrefixOf]
  rw [Lib.splitK, hix]
  simp

theorem splitK_eq : ∀ (s : List UInt8) (k : Nat), s.count 47 ≤ k → Lib.splitK [47] 0 k s = splitS s := by
  intro s
  induction s with
  | nil =>
    intro k _
    cases k with
    | zero => rfl
    | succ k => simp [Lib.splitK, splitS, Lib.index]
  | cons b r ih =>
    intro k hk
    by_cases h : b = 47
    · subst h
      obtain ⟨k', rfl⟩ : ∃ k', k = k' + 1 := ⟨k - 1, by rw [List.count_cons_self] at hk; omega⟩
      rw [splitK_slash, ih k' (by rw [List.count_cons_self] at hk; omega), splitS, if_pos rfl]
    · have := ih k (by rwa [List.count_cons_of_ne h] at hk)
      cases hs : splitS r with
      | nil => exact absurd hs (splitS_ne r)
      | cons x t =>
        rw [hs] at this
        rw [splitK_cons h k r x t this, splitS_cons h hs]

theorem split_eq (s : List UInt8) : Lib.split s [47] = splitS s := by
  unfold Lib.split
  exact splitK_eq s _ (by rw [Lib.count_one]; exact Nat.le_refl _)

theorem u8_47 (c : UInt8) : eqI (u8 c) 47 = decide (c = 47) := u8_eq (n := 47)
theorem u8_0 (c : UInt8) : eqI (u8 c) 0 = decide (c = 0) := u8_eq (n := 0)

theorem parts_val (p : List UInt8) (hp : p.length ≤ 1048576) : P_paths_Parts (p, ()) = some (parts p, ()) := by
  unfold P_paths_Parts parts
  dsimp only
  by_cases h : p = []
  · rw [eqS_true h, sel_true, if_pos h]
  · rw [eqS_false h, sel_false, if_neg h]
    have : P_strings_Split (p, ([47], ())) = some (splitS p, ()) := by
      show (S_split p [47]).map (fun y => (y, ())) = _
      unfold S_split
      simp only
      rw [if_pos (by omega), split_eq]
      rfl
    rw [this, obind_some]

theorem refParts_val (p : List UInt8) (hp : p.length ≤ 1048576) : P_ref07_Parts (p, ()) = some (parts p, ()) := by
  unfold P_ref07_Parts parts
  dsimp only
  by_cases h : p = []
  · rw [eqS_true h, sel_true, if_pos h]
  · rw [eqS_false h, sel_false, if_neg h]
    have key := loop_run (f := P_ref07_Parts_L0 (p, ())) p (fun (s : List UInt8 × List (List UInt8)) i => (((), (s.1, ((i : Int), ()))), (s.2, ())))
      (fun i s x => some (.inl (if x = 47 then ([], s.2 ++ [s.1]) else (s.1 ++ [x], s.2)))) (fun i s => (((), (s.1, ((i : Int), ()))), (s.2, ()))) (fun i s => s.1.length ≤ i ∧ s.2.length ≤ i)
      (fun s i x hx hi hI => by
        unfold P_ref07_Parts_L0
        dsimp only
        rw [ltI_len_true hi, sel_true, idx_some' hx, obind_some, u8_47]
        by_cases hq : x = 47
        · rw [decide_eq_true hq, sel_true, fits_len2 (by simp only [List.length_cons, List.length_nil]; omega), sel_true, obind_some, iadd_one (by omega)]
          simp only [if_pos hq]
          rfl
        · rw [decide_eq_false hq, sel_false, iadd_one (by omega), inside_len (by omega) (by omega), sel_true, sub_one hx, fits_len2 (by simp only [List.length_cons, List.length_nil]; omega), sel_true, obind_some]
          simp only [if_neg hq]
          rfl)
      (fun s i x s' hx hI hs => by
        obtain rfl := Sum.inl.inj (Option.some.inj hs)
        by_cases hq : x = 47
        · simp only [if_pos hq, List.length_append, List.length_cons, List.length_nil]; omega
        · simp only [if_neg hq, List.length_append, List.length_cons, List.length_nil]; omega)
      (fun s hI => by
        unfold P_ref07_Parts_L0
        dsimp only
        rw [ltI_len_end, sel_false]
        rfl)
      (fun s i x _ _ h => by cases h) ([], []) ⟨Nat.le_refl _, Nat.le_refl _⟩
    have run : ∀ (r : List UInt8) (i : Nat) (a : List UInt8) (o : List (List UInt8)), ∃ a' o' j, runL (fun i (s : List UInt8 × List (List UInt8)) x => some (.inl (if x = 47 then ([], s.2 ++ [s.1]) else (s.1 ++ [x], s.2)))) (fun i (s : List UInt8 × List (List UInt8)) => (((), (s.1, ((i : Int), ()))), (s.2, ()))) r i (a, o) = some (((), (a', (j, ()))), (o', ())) ∧
        o' ++ [a'] = o ++ (match splitS r with | h :: t => (a ++ h) :: t | [] => [a]) ∧ o'.length ≤ o.length + r.length := by
      intro r
      induction r with
      | nil => intro i a o; exact ⟨a, o, _, rfl, by simp [splitS], by simp⟩
      | cons x r ih =>
        intro i a o
        by_cases hq : x = 47
        · obtain ⟨a', o', j, h1, h2, h3⟩ := ih (i + 1) [] (o ++ [a])
          refine ⟨a', o', j, ?_, ?_, ?_⟩
          · unfold runL
            simp only [if_pos hq]
            exact h1
          · rw [h2, splitS, if_pos hq]
            cases hs : splitS r with
            | nil => exact absurd hs (splitS_ne r)
            | cons h t => simp
          · simp only [List.length_append, List.length_cons, List.length_nil] at h3 ⊢; omega
        · obtain ⟨a', o', j, h1, h2, h3⟩ := ih (i + 1) (a ++ [x]) o
          refine ⟨a', o', j, ?_, ?_, ?_⟩
          · unfold runL
            simp only [if_neg hq]
            exact h1
          · rw [h2]
            cases hs : splitS r with
            | nil => exact absurd hs (splitS_ne r)
            | cons h t => rw [splitS_cons hq hs]; simp
          · simp only [List.length_cons] at h3 ⊢; omega
    obtain ⟨a', o', j, h1, h2, h3⟩ := run p 0 [] []
    have key' : Loop (P_ref07_Parts_L0 (p, ())) (((), (([] : List UInt8), ((0 : Int), ()))), (([] : List (List UInt8)), ())) = some (((), (a', (j, ()))), (o', ())) := key.trans h1
    rw [key', obind_some]
    dsimp only
    simp only [List.length_nil] at h3
    rw [fits_len2 (by simp only [List.length_cons, List.length_nil]; omega), sel_true, app_eq, h2]
    cases hs : splitS p with
    | nil => exact absurd hs (splitS_ne p)
    | cons h t => simp

/-! ### Put together -/
def joinS : List (List UInt8) → List UInt8
  | [] => []
  | [x] => x
  | x :: y :: r => x ++ 47 :: joinS (y :: r)

theorem lib_join (l : List (List UInt8)) : Lib.join l [47] = joinS l := by
  induction l with
  | nil => rfl
  | cons x r ih =>
    cases r with
    | nil => simp [Lib.join_one, joinS]
    | cons y r =>
      rw [joinS, ← ih, Lib.join_cons, Lib.join_cons]
      simp [Lib.joinTail]

theorem joinS_splitS (s : List UInt8) : joinS (splitS s) = s := by
  induction s with
  | nil => rfl
  | cons b r ih =>
    by_cases h : b = 47
    · subst h
      rw [splitS, if_pos rfl]
      cases hs : splitS r with
      | nil => exact absurd hs (splitS_ne r)
      | cons x t => rw [joinS, ← hs, ih]; rfl
    · cases hs : splitS r with
      | nil => exact absurd hs (splitS_ne r)
      | cons x t =>
        rw [splitS_cons h hs]
        rw [hs] at ih
        cases t with
        | nil => rw [joinS] at ih ⊢; rw [ih]
        | cons y t => rw [joinS] at ih ⊢; rw [List.cons_append, ih]

theorem joinS_parts (p : List UInt8) : joinS (parts p) = p := by
  unfold parts
  by_cases h : p = []
  · rw [if_pos h, h]; rfl
  · rw [if_neg h, joinS_splitS]

theorem splitS_app (x : List UInt8) (hx : 47 ∉ x) (r : List UInt8) : splitS (x ++ 47 :: r) = x :: splitS r := by
  induction x with
  | nil => rw [List.nil_append, splitS, if_pos rfl]
  | cons b x ih =>
    simp only [List.mem_cons, not_or] at hx
    exact splitS_cons (fun e => hx.1 e.symm) (ih hx.2)
theorem splitS_plain (x : List UInt8) (hx : 47 ∉ x) : splitS x = [x] := by
  induction x with
  | nil => rfl
  | cons b x ih =>
    simp only [List.mem_cons, not_or] at hx
    exact splitS_cons (fun e => hx.1 e.symm) (ih hx.2)

theorem splitS_joinS (l : List (List UInt8)) (hne : l ≠ []) (h : ∀ x ∈ l, 47 ∉ x) : splitS (joinS l) = l := by
  induction l with
  | nil => exact absurd rfl hne
  | cons x r ih =>
    cases r with
    | nil => rw [joinS]; exact splitS_plain x (h x (List.mem_cons_self ..))
    | cons y r =>
      rw [joinS, splitS_app x (h x (List.mem_cons_self ..)), ih (by simp) (fun z hz => h z (List.mem_cons_of_mem _ hz))]

theorem splitS_mem (s : List UInt8) : ∀ x ∈ splitS s, 47 ∉ x ∧ x.length ≤ s.length := by
  induction s with
  | nil => intro x hx; simp [splitS] at hx; subst hx; simp
  | cons b r ih =>
    intro x hx
    by_cases h : b = 47
    · rw [splitS, if_pos h] at hx
      rcases List.mem_cons.1 hx with rfl | hx
      · simp
      · obtain ⟨h1, h2⟩ := ih x hx
        exact ⟨h1, by simp only [List.length_cons]; omega⟩
    · cases hs : splitS r with
      | nil => exact absurd hs (splitS_ne r)
      | cons y t =>
        rw [splitS_cons h hs] at hx
        rw [hs] at ih
        rcases List.mem_cons.1 hx with rfl | hx
        · obtain ⟨h1, h2⟩ := ih y (List.mem_cons_self ..)
          exact ⟨by simp only [List.mem_cons, not_or]; exact ⟨fun e => h e.symm, h1⟩, by simp only [List.length_cons]; omega⟩
        · obtain ⟨h1, h2⟩ := ih x (List.mem_cons_of_mem _ hx)
          exact ⟨h1, by simp only [List.length_cons]; omega⟩

theorem length_splitS (s : List UInt8) : (splitS s).length ≤ s.length + 1 := by
  induction s with
  | nil => simp [splitS]
  | cons b r ih =>
    by_cases h : b = 47
    · rw [splitS, if_pos h]; simp only [List.length_cons]; omega
    · cases hs : splitS r with
      | nil => exact absurd hs (splitS_ne r)
      | cons y t => rw [splitS_cons h hs]; rw [hs] at ih; simp only [List.length_cons] at ih ⊢; omega

theorem parts_mem (p : List UInt8) : ∀ x ∈ parts p, 47 ∉ x ∧ x.length ≤ p.length := by
  unfold parts
  by_cases h : p = []
  · rw [if_pos h]; intro x hx; cases hx
  · rw [if_neg h]; exact splitS_mem p
theorem length_parts (p : List UInt8) : (parts p).length ≤ p.length + 1 := by
  unfold parts
  by_cases h : p = []
  · rw [if_pos h]; simp
  · rw [if_neg h]; exact length_splitS p
/-- Names that may stand in a path. -/
theorem parts_joinS (l : List (List UInt8)) (h : ∀ x ∈ l, 47 ∉ x ∧ x ≠ []) : parts (joinS l) = l := by
  unfold parts
  cases l with
  | nil => rfl
  | cons x r =>
    have hne : joinS (x :: r) ≠ [] := by
      have := (h x (List.mem_cons_self ..)).2
      cases r with
      | nil => rw [joinS]; exact this
      | cons y r => rw [joinS]; simp
    rw [if_neg hne, splitS_joinS _ (by simp) (fun z hz => (h z hz).1)]
end Go.Ge

/- Clean paths in plain words. -/
namespace Go.Ge
set_option linter.unusedVariables false
set_option linter.unusedSimpArgs false

theorem refJoin_val (l : List (List UInt8)) (hl : l.length ≤ 1048576) (hx : (joinS l).length ≤ 1048576) : P_ref07_join (l, ()) = some (joinS l, ()) := by
  unfold P_ref07_join
  -- what has been put together
  have pre : ∀ (a b : List (List UInt8)), a ≠ [] → b ≠ [] → joinS (a ++ b) = joinS a ++ 47 :: joinS b := by
    intro a
    induction a with
    | nil => intro b h; exact absurd rfl h
    | cons x r ih =>
      intro b _ hb
      cases r with
      | nil =>
        cases b with
        | nil => exact absurd rfl hb
        | cons y b => rfl
      | cons y r =>
        have := ih b (by simp) hb
        rw [List.cons_append, List.cons_append, joinS, joinS, ← List.cons_append, this]
        simp
  have mono : ∀ i, (joinS (l.take i)).length ≤ (joinS l).length := by
    intro i
    by_cases ha : l.take i = []
    · rw [ha]; simp [joinS]
    · by_cases hb : l.drop i = []
      · rw [show l.take i = l from by have := List.take_append_drop i l; rw [hb, List.append_nil] at this; exact this]; exact Nat.le_refl _
      · have := pre _ _ ha hb
        rw [List.take_append_drop] at this
        rw [this, List.length_append]; omega
  have step : ∀ i x, l[i]? = some x → joinS (l.take (i + 1)) = (if 0 < i then joinS (l.take i) ++ [47] else joinS (l.take i)) ++ x := by
    intro i x hx
    have e : l.take (i + 1) = l.take i ++ [x] := by rw [List.take_add_one, hx]; rfl
    rw [e]
    cases i with
    | zero => rfl
    | succ i =>
      rw [if_pos (by omega), pre _ _ (by have := getElem?_lt hx; intro q; have := congrArg List.length q; rw [List.length_take] at this; simp only [List.length_nil] at this; omega) (by simp)]
      simp [joinS]
  have key := loop_seq (f := P_ref07_join_L0 (l, ())) (r := ((joinS l, ((l.length : Int), ())), ())) l.length (fun i => ((joinS (l.take i), ((i : Int), ())), ())) (fun i hi => by
      obtain ⟨x, hxx⟩ : ∃ x, l[i]? = some x := ⟨_, List.getElem?_eq_getElem hi⟩
      have hs := step i x hxx
      have hb := mono (i + 1)
      rw [hs] at hb
      unfold P_ref07_join_L0
      dsimp only
      rw [ltI_len_true hi, sel_true]
      by_cases h0 : 0 < i
      · rw [if_pos h0] at hs hb
        rw [List.length_append, List.length_append] at hb
        simp only [List.length_cons, List.length_nil] at hb
        rw [ltI_true (by omega), sel_true, fits_len2 (by simp only [List.length_cons, List.length_nil]; omega), sel_true, obind_some, idx_some' hxx, obind_some]
        dsimp only
        rw [fits_len2 (by simp only [app_eq, List.length_append, List.length_cons, List.length_nil]; omega), sel_true, iadd_one (by omega), hs]
        rfl
      · rw [if_neg h0] at hs hb
        rw [List.length_append] at hb
        rw [ltI_false (by omega), sel_false, obind_some, idx_some' hxx, obind_some]
        dsimp only
        rw [fits_len2 (by omega), sel_true, iadd_one (by omega), hs]
        rfl) (by
      unfold P_ref07_join_L0
      dsimp only
      rw [ltI_len_end, sel_false, List.take_length]
      rfl)
  have key' : Loop (P_ref07_join_L0 (l, ())) ((([] : List UInt8), ((0 : Int), ())), ()) = some ((joinS l, ((l.length : Int), ())), ()) := key
  rw [key', obind_some]

/-- What may be a name in a path. -/
def isNm (s : List UInt8) : Bool := decide (s ≠ [46] ∧ s ≠ [46, 46] ∧ 1 ≤ s.length ∧ s.length ≤ 32 ∧ 0 ∉ s)

theorem indexByte_nul (s : List UInt8) : decide (Lib.indexByte s 0 < 0) = decide (0 ∉ s) := by
  rw [index_nul]
  by_cases h : noNul s
  · rw [decide_eq_true h, decide_eq_true]
    intro hm; exact h 0 hm rfl
  · rw [decide_eq_false h, decide_eq_false]
    intro hm; exact h fun x hx e => hm (e ▸ hx)

theorem isName_val (s : List UInt8) : P_paths_isName (s, ()) = some (isNm s, ()) := by
  unfold P_paths_isName
  have one : ∀ i : Nat, i < 2 → P_paths_isName_L0 (s, ()) ((false, ((i : Int), ())), ()) = if eqS s (if i = 0 then [46] else [46, 46]) = true then some (.inr (1, ((false, ((i : Int), ())), ()))) else some (.inl ((false, (((i + 1 : Nat) : Int), ())), ())) := by
    intro i hi
    unfold P_paths_isName_L0
    dsimp only
    rw [ltI_true (by omega), sel_true, idx_nat]
    rcases (by omega : i = 0 ∨ i = 1) with rfl | rfl
    · rw [show ([[46], [46, 46]] : List (List UInt8))[0]? = some [46] from rfl, obind_some, sel_if]; rfl
    · rw [show ([[46], [46, 46]] : List (List UInt8))[1]? = some [46, 46] from rfl, obind_some, sel_if]; rfl
  by_cases h1 : s = [46]
  · rw [Loop_eq, show ((false, ((0 : Int), ())), ()) = ((false, (((0 : Nat) : Int), ())), ()) from rfl, one 0 (by omega), if_pos (by rw [if_pos rfl]; exact eqS_true h1)]
    subst h1; rfl
  · rw [Loop_eq, show ((false, ((0 : Int), ())), ()) = ((false, (((0 : Nat) : Int), ())), ()) from rfl, one 0 (by omega), if_neg (by rw [if_pos rfl, eqS_false h1]; simp)]
    by_cases h2 : s = [46, 46]
    · simp only [Option.bind]
      rw [Loop_eq, one 1 (by omega), if_pos (by rw [if_neg (by omega)]; exact eqS_true h2)]
      subst h2; rfl
    · simp only [Option.bind]
      rw [Loop_eq, one 1 (by omega), if_neg (by rw [if_neg (by omega), eqS_false h2]; simp)]
      simp only [Option.bind]
      rw [Loop_eq]
      have e : P_paths_isName_L0 (s, ()) ((false, (((1 + 1 : Nat) : Int), ())), ()) = some (.inr (0, ((false, ((2 : Int), ())), ()))) := rfl
      rw [e]
      simp only [Option.bind]
      rw [obind_some]
      dsimp only
      rw [eqN_zero, sel_true]
      have el : leI 1 (len s) = decide (1 ≤ s.length) := by unfold leI len; apply decide_eq_decide.2; omega
      have eh : leI (len s) 32 = decide (s.length ≤ 32) := leI_len 32 s
      rw [el, eh]
      have ei : P_strings_IndexByte (s, (0, ())) = some (Lib.indexByte s 0, ()) := rfl
      rw [ei, obind_some]
      dsimp only
      rw [show ltI (Lib.indexByte s 0) 0 = decide (0 ∉ s) from indexByte_nul s]
      unfold isNm
      by_cases a : 1 ≤ s.length
      · by_cases b : s.length ≤ 32
        · simp [a, b, sel, obind, h1, h2]
        · simp [a, b, sel, obind]
      · simp [a, sel, obind]

theorem refIsName_val (s : List UInt8) (hs : s.length ≤ 1048576) : P_ref07_isName (s, ()) = some (isNm s && decide (47 ∉ s), ()) := by
  unfold P_ref07_isName
  have key := loop_run (f := P_ref07_isName_L0 (s, ())) s (fun (_ : Unit) i => ((false, ((i : Int), ())), ()))
    (fun i _ x => some (if x = 0 ∨ x = 47 then .inr (1, ((false, ((i : Int), ())), ())) else .inl ())) (fun i _ => (0, ((false, ((i : Int), ())), ()))) (fun _ _ => True)
    (fun u i x hx hi _ => by
      unfold P_ref07_isName_L0
      dsimp only
      rw [ltI_len_true hi, sel_true, idx_some' hx, obind_some, u8_0]
      by_cases h0 : x = 0
      · rw [decide_eq_true h0, nt_true, sel_false, obind_some, sel_true, if_pos (.inl h0)]; rfl
      · rw [decide_eq_false h0, nt_false, sel_true, obind_some, u8_47, obind_some]
        by_cases h1 : x = 47
        · rw [decide_eq_true h1, sel_true, if_pos (.inr h1)]; rfl
        · rw [decide_eq_false h1, sel_false, if_neg (by simp [h0, h1]), iadd_one (by omega)]; rfl)
    (fun _ _ _ _ _ _ _ => trivial)
    (fun u _ => by
      unfold P_ref07_isName_L0
      dsimp only
      rw [ltI_len_end, sel_false])
    (fun _ _ _ _ _ h => by cases h) () trivial
  have run : ∀ (r : List UInt8) (i : Nat), ∃ q, runL (fun i (_ : Unit) x => some (if x = 0 ∨ x = 47 then Sum.inr (1, ((false, ((i : Int), ())), ())) else Sum.inl ())) (fun i _ => ((0 : Nat), ((false, ((i : Int), ())), ()))) r i () = some q ∧
      q.1 = (if 0 ∉ r ∧ 47 ∉ r then 0 else 1) ∧ q.2.1.1 = false := by
    intro r
    induction r with
    | nil => intro i; exact ⟨_, rfl, by simp, rfl⟩
    | cons x r ih =>
      intro i
      unfold runL
      by_cases h : x = 0 ∨ x = 47
      · simp only [if_pos h]
        refine ⟨_, rfl, ?_, rfl⟩
        rw [if_neg]
        rcases h with h | h <;> simp [h]
      · simp only [if_neg h]
        obtain ⟨q, h1, h2, h3⟩ := ih (i + 1)
        refine ⟨q, h1, ?_, h3⟩
        rw [h2]
        simp only [not_or] at h
        simp only [List.mem_cons, not_or]
        have h1' : ¬ (0 = x) := fun e => h.1 e.symm
        have h2' : ¬ (47 = x) := fun e => h.2 e.symm
        simp [h1', h2']
  obtain ⟨q, h1, h2, h3⟩ := run s 0
  have key' : Loop (P_ref07_isName_L0 (s, ())) ((false, ((0 : Int), ())), ()) = some q := key.trans h1
  rw [key', obind_some]
  have el : leI 1 (len s) = decide (1 ≤ s.length) := by unfold leI len; apply decide_eq_decide.2; omega
  have eh : leI (len s) 32 = decide (s.length ≤ 32) := leI_len 32 s
  rw [el, eh, h2, h3]
  unfold isNm
  by_cases a : 0 ∉ s ∧ 47 ∉ s
  · rw [if_pos a, eqN_zero, sel_true]
    by_cases c : 1 ≤ s.length
    · by_cases d : s.length ≤ 32
      · by_cases e : s = [46]
        · simp [e, sel, eqS, nt]
        · by_cases f : s = [46, 46]
          · simp [f, sel, eqS, nt]
          · simp [a, c, d, e, f, sel, eqS, nt]
      · simp [d, c, sel]
    · simp [c, sel]
  · rw [if_neg a, eqN_one, sel_false]
    congr 2
    by_cases b : 0 ∈ s
    · simp [b]
    · have : 47 ∈ s := by
        have := a
        simp only [not_and, Decidable.not_not] at this
        exact this b
      simp [this]

theorem refIs_val (p : List UInt8) (hp : p.length ≤ 1048576) : P_ref07_Is (p, ()) = some ((parts p).all isNm && decide ((parts p).length ≤ 8) && decide (p.length ≤ 96), ()) := by
  unfold P_ref07_Is
  dsimp only
  rw [refParts_val p hp, obind_some]
  have hm := parts_mem p
  have hn := length_parts p
  generalize parts p = l at hm hn
  have key := loop_run (f := P_ref07_Is_L0 (l, ())) l (fun (_ : Unit) i => ((false, ((i : Int), ())), ()))
    (fun i _ x => some (if isNm x = false then .inr (1, ((false, ((i : Int), ())), ())) else .inl ())) (fun i _ => (0, ((false, ((i : Int), ())), ()))) (fun _ _ => True)
    (fun u i x hx hi _ => by
      unfold P_ref07_Is_L0
      dsimp only
      have hx' := hm x (List.mem_of_getElem? hx)
      rw [ltI_len_true hi, sel_true, idx_some' hx, obind_some, refIsName_val x (by omega), obind_some]
      dsimp only
      rw [decide_eq_true hx'.1, Bool.and_true]
      cases h : isNm x with
      | true => rw [nt_true, sel_false, if_neg (by simp), iadd_one (by omega)]; rfl
      | false => rw [nt_false, sel_true, if_pos rfl]; rfl)
    (fun _ _ _ _ _ _ _ => trivial)
    (fun u _ => by
      unfold P_ref07_Is_L0
      dsimp only
      rw [ltI_len_end, sel_false])
    (fun _ _ _ _ _ h => by cases h) () trivial
  have run : ∀ (r : List (List UInt8)) (i : Nat), ∃ q, runL (fun i (_ : Unit) x => some (if isNm x = false then Sum.inr (1, ((false, ((i : Int), ())), ())) else Sum.inl ())) (fun i _ => ((0 : Nat), ((false, ((i : Int), ())), ()))) r i () = some q ∧
      q.1 = (if r.all isNm = true then 0 else 1) ∧ q.2.1.1 = false := by
    intro r
    induction r with
    | nil => intro i; exact ⟨_, rfl, rfl, rfl⟩
    | cons x r ih =>
      intro i
      unfold runL
      cases h : isNm x with
      | false => exact ⟨_, rfl, by simp [h], rfl⟩
      | true =>
        obtain ⟨q, h1, h2, h3⟩ := ih (i + 1)
        exact ⟨q, h1, by rw [h2]; simp [h], h3⟩
  obtain ⟨q, h1, h2, h3⟩ := run l 0
  have key' : Loop (P_ref07_Is_L0 (l, ())) ((false, ((0 : Int), ())), ()) = some q := key.trans h1
  rw [key', obind_some, h2, h3]
  have e8 : leI (len l) 8 = decide (l.length ≤ 8) := leI_len 8 l
  have e96 : leI (len p) 96 = decide (p.length ≤ 96) := leI_len 96 p
  rw [e8, e96]
  cases h : l.all isNm with
  | true =>
    rw [if_pos rfl, eqN_zero, sel_true]
    by_cases a : l.length ≤ 8 <;> simp [a, sel]
  | false => rw [if_neg (by simp), eqN_one, sel_false]; simp

/-! ### Clean -/
def keepN (x : List UInt8) : Bool := decide (x ≠ [] ∧ x ≠ [46])
def names (s : List UInt8) : List (List UInt8) := (parts s).filter keepN
def cleanOk (s : List UInt8) : Bool := (names s).all isNm && decide (s.head? ≠ some 47) && decide ((names s).length ≤ 8) && decide ((joinS (names s)).length ≤ 96)
def cleanF (s : List UInt8) : List UInt8 × Int := if cleanOk s then (joinS (names s), 0) else ([], 2)

theorem names_mem (s : List UInt8) : ∀ x ∈ names s, 47 ∉ x ∧ x ≠ [] ∧ x.length ≤ s.length := by
  intro x hx
  obtain ⟨h1, h2⟩ := List.mem_filter.1 hx
  obtain ⟨h3, h4⟩ := parts_mem s x h1
  simp only [keepN, decide_eq_true_eq] at h2
  exact ⟨h3, h2.1, h4⟩
theorem length_names (s : List UInt8) : (names s).length ≤ s.length + 1 := Nat.le_trans (List.length_filter_le _ _) (length_parts s)
theorem parts_names (s : List UInt8) : parts (joinS (names s)) = names s := parts_joinS _ fun x hx => ⟨(names_mem s x hx).1, (names_mem s x hx).2.1⟩

theorem length_joinS_names (s : List UInt8) : (joinS (names s)).length ≤ s.length := by
  have gen : ∀ (l : List (List UInt8)), (joinS (l.filter keepN)).length ≤ (joinS l).length := by
    intro l
    induction l with
    | nil => simp [joinS]
    | cons x r ih =>
      by_cases hk : keepN x = true
      · rw [List.filter_cons_of_pos hk]
        cases hr : r.filter keepN with
        | nil =>
          cases r with
          | nil => exact Nat.le_refl _
          | cons y r => simp only [joinS, List.length_append, List.length_cons]; omega
        | cons y q =>
          rw [hr] at ih
          cases r with
          | nil => simp at hr
          | cons z r => simp only [joinS, List.length_append, List.length_cons] at ih ⊢; omega
      · rw [List.filter_cons_of_neg hk]
        cases r with
        | nil => simp [joinS]
        | cons z r => rw [joinS]; simp only [List.length_append, List.length_cons]; omega
  have := gen (parts s)
  rw [joinS_parts] at this
  exact this

theorem head_prefix (s : List UInt8) : P_strings_HasPrefix (s, ([47], ())) = some (decide (s.head? = some 47), ()) := by
  unfold P_strings_HasPrefix P_internal_stringslite_HasPrefix
  dsimp only
  cases s with
  | nil => rfl
  | cons b r =>
    have e : leI (len [(47 : UInt8)]) (len (b :: r)) = true := leI_true (by simp only [len, List.length_cons, List.length_nil]; omega)
    have e2 : inside 0 (len [(47 : UInt8)]) (len (b :: r)) = true := inside_true (by decide) (by decide) (by simp only [len, List.length_cons, List.length_nil]; omega)
    rw [e, sel_true, e2, sel_true, sub_take', obind_some, obind_some]
    simp [eqS]

theorem clean_val (s : List UInt8) (hs : s.length ≤ 4096) : P_paths_Clean (s, ()) = some ((cleanF s).1, ((cleanF s).2, ())) := by
  unfold P_paths_Clean
  dsimp only
  rw [parts_val s (by omega), obind_some]
  have hm := parts_mem s
  have hn := length_parts s
  have key := loop_run (f := P_paths_Clean_L0 (parts s, ())) (parts s) (fun (o : List (List UInt8)) i => ((([] : List UInt8), ((0 : Int), ((), ((i : Int), ())))), (o, ())))
    (fun i o x => some (if keepN x = false then .inl o else if isNm x = false then .inr (1, ((([] : List UInt8), ((2 : Int), ((), ((i : Int), ())))), (o, ()))) else .inl (o ++ [x]))) (fun i o => (0, ((([] : List UInt8), ((0 : Int), ((), ((i : Int), ())))), (o, ())))) (fun i o => o.length ≤ i)
    (fun o i x hx hi hI => by
      unfold P_paths_Clean_L0
      dsimp only
      rw [ltI_len_true hi, sel_true, idx_some' hx, obind_some]
      have hk : keepN x = (nt (eqS x []) && nt (eqS x [46])) := by simp [keepN, eqS, nt]
      by_cases a : x = []
      · rw [eqS_true a, nt_true, sel_false, sel_true, obind_some]
        dsimp only
        rw [eqN_zero, sel_true, iadd_one (by omega), if_pos (by rw [hk, eqS_true a]; rfl)]; rfl
      · by_cases b : x = [46]
        · rw [eqS_false a, nt_false, sel_true, eqS_true b, sel_true, obind_some]
          dsimp only
          rw [eqN_zero, sel_true, iadd_one (by omega), if_pos (by rw [hk, eqS_true b]; simp [nt])]; rfl
        · rw [eqS_false a, nt_false, sel_true, eqS_false b, sel_false, isName_val, obind_some]
          dsimp only
          have hk1 : keepN x = true := by rw [hk, eqS_false a, eqS_false b]; rfl
          cases h : isNm x with
          | false =>
            rw [nt_false, sel_true, obind_some]
            dsimp only
            rw [eqN_one, sel_false, if_neg (by rw [hk1]; simp), if_pos rfl]; rfl
          | true =>
            rw [nt_true, sel_false, fits_len2 (by simp only [List.length_cons, List.length_nil]; omega), sel_true, obind_some]
            dsimp only
            rw [eqN_zero, sel_true, iadd_one (by omega), if_neg (by rw [hk1]; simp), if_neg (by simp)]; rfl)
    (fun o i x o' hx hI hq => by
      have hq := Option.some.inj hq
      by_cases a : keepN x = false
      · rw [if_pos a] at hq; obtain rfl := Sum.inl.inj hq; omega
      · rw [if_neg a] at hq
        by_cases b : isNm x = false
        · rw [if_pos b] at hq; cases hq
        · rw [if_neg b] at hq; obtain rfl := Sum.inl.inj hq; simp only [List.length_append, List.length_cons, List.length_nil]; omega)
    (fun o _ => by
      unfold P_paths_Clean_L0
      dsimp only
      rw [ltI_len_end, sel_false])
    (fun _ _ _ _ _ h => by cases h) [] (Nat.le_refl _)
  have run : ∀ (r : List (List UInt8)) (i : Nat) (o : List (List UInt8)), ∃ q, runL (fun i (o : List (List UInt8)) x => some (if keepN x = false then Sum.inl o else if isNm x = false then Sum.inr (1, ((([] : List UInt8), ((2 : Int), ((), ((i : Int), ())))), (o, ()))) else Sum.inl (o ++ [x]))) (fun i o => ((0 : Nat), ((([] : List UInt8), ((0 : Int), ((), ((i : Int), ())))), (o, ())))) r i o = some q ∧
      (if (r.filter keepN).all isNm = true then q.1 = 0 ∧ q.2.2.1 = o ++ r.filter keepN else q.1 = 1 ∧ q.2.1.1 = [] ∧ q.2.1.2.1 = 2) := by
    intro r
    induction r with
    | nil => intro i o; exact ⟨_, rfl, by simp⟩
    | cons x r ih =>
      intro i o
      unfold runL
      cases hk : keepN x with
      | false =>
        obtain ⟨q, h1, h2⟩ := ih (i + 1) o
        refine ⟨q, h1, ?_⟩
        rw [List.filter_cons_of_neg (by simp [hk])]
        exact h2
      | true =>
        rw [List.filter_cons_of_pos hk]
        cases hx : isNm x with
        | false => exact ⟨_, rfl, by simp [hx]⟩
        | true =>
          obtain ⟨q, h1, h2⟩ := ih (i + 1) (o ++ [x])
          refine ⟨q, h1, ?_⟩
          simp only [List.all_cons, hx, Bool.true_and]
          rw [List.append_assoc] at h2
          exact h2
  obtain ⟨q, h1, h2⟩ := run (parts s) 0 []
  have key' : Loop (P_paths_Clean_L0 (parts s, ())) ((([] : List UInt8), ((0 : Int), ((), ((0 : Int), ())))), (([] : List (List UInt8)), ())) = some q := key.trans h1
  rw [key', obind_some]
  rw [show (parts s).filter keepN = names s from rfl, List.nil_append] at h2
  have hj := length_joinS_names s
  have hnn := length_names s
  unfold cleanF cleanOk
  cases ha : (names s).all isNm with
  | false =>
    rw [ha, if_neg (by simp)] at h2
    rw [h2.1, eqN_one, sel_false, h2.2.1, h2.2.2]
    rfl
  | true =>
    rw [ha, if_pos rfl] at h2
    rw [h2.1, eqN_zero, sel_true, h2.2]
    have ej : P_strings_Join (names s, ([47], ())) = some (joinS (names s), ()) := by
      show (S_join (names s) [47]).map (fun y => (y, ())) = _
      unfold S_join
      rw [lib_join, if_pos ⟨by omega, by omega⟩]
      rfl
    rw [ej, obind_some, head_prefix, obind_some]
    dsimp only
    have e8 : ltI 8 (len (names s)) = !decide ((names s).length ≤ 8) := by
      by_cases h : (names s).length ≤ 8
      · rw [ltI_false (by simp only [len]; omega)]; simp [h]
      · rw [ltI_true (by simp only [len]; omega)]; simp [h]
    have e96 : ltI 96 (len (joinS (names s))) = !decide ((joinS (names s)).length ≤ 96) := by
      by_cases h : (joinS (names s)).length ≤ 96
      · rw [ltI_false (by simp only [len]; omega)]; simp [h]
      · rw [ltI_true (by simp only [len]; omega)]; simp [h]
    rw [e8, e96]
    by_cases a : s.head? = some 47
    · simp [a, sel, nt]
    · by_cases b : (names s).length ≤ 8
      · by_cases c : (joinS (names s)).length ≤ 96 <;> simp [a, b, c, sel, nt]
      · simp [a, b, sel, nt]

end Go.Ge
