/- What the functions of layer 14z.is compute, as plain programs (written by a program from what the ghost interpreter comes to). -/
import Derived.Test.YtnmllijemdpcoaaGreatDoorGpA
import Derived.Test.YtnmllijemdpcoaaGreatDoorGp14z
import Derived.Test.YtnmllijemdpcoaaGreatDoorGeI
namespace Go.Ge
set_option linter.unusedVariables false
set_option maxRecDepth 100000

noncomputable def P_tree_Remove_L0 (x : (List ((List (UInt8)) × Int × Int × (List (UInt8)) × (List (UInt8)) × Unit)) × (List (UInt8)) × Unit) (y2 : (Int × Int × Unit) × Unit × Unit) : Option (((Int × Int × Unit) × Unit × Unit) ⊕ (Nat × (Int × Int × Unit) × Unit × Unit)) :=
  sel (ltI y2.1.2.1 (@len ((List (UInt8)) × Int × Int × (List (UInt8)) × (List (UInt8)) × Unit) x.1))
  (sel (within y2.1.2.1 (@len ((List (UInt8)) × Int × Int × (List (UInt8)) × (List (UInt8)) × Unit) x.1))
  (obind (@idx ((List (UInt8)) × Int × Int × (List (UInt8)) × (List (UInt8)) × Unit) x.1 y2.1.2.1) (fun (y3 : (List (UInt8)) × Int × Int × (List (UInt8)) × (List (UInt8)) × Unit) => obind (sel (nt (eqS y3.1 x.2.1))
  (obind (P_paths_Under (y3.1, (x.2.1, ()))) (fun (y4 : Bool × Unit) => some y4.1))
  (some true)) (fun (y4 : Bool) => sel y4
  (some (Sum.inr ((1 : Nat), ((y2.1.2.1, (y2.1.2.1, ())), ((), ()))) : (((Int × Int × Unit) × Unit × Unit)) ⊕ ((Nat × (Int × Int × Unit) × Unit × Unit))))
  (some (Sum.inl ((y2.1.1, (iadd IntKind.i64 y2.1.2.1 (1 : Int), ())), ((), ())) : (((Int × Int × Unit) × Unit × Unit)) ⊕ ((Nat × (Int × Int × Unit) × Unit × Unit)))))))
  (none : Option (((Int × Int × Unit) × Unit × Unit) ⊕ (Nat × (Int × Int × Unit) × Unit × Unit))))
  (some (Sum.inr ((0 : Nat), ((y2.1.1, (y2.1.2.1, ())), ((), ()))) : (((Int × Int × Unit) × Unit × Unit)) ⊕ ((Nat × (Int × Int × Unit) × Unit × Unit))))

noncomputable def P_tree_Remove_L1 (x : (List ((List (UInt8)) × Int × Int × (List (UInt8)) × (List (UInt8)) × Unit)) × (List (UInt8)) × Unit) (y3 : (Int × Int × Unit × Unit) × Unit × (List ((List (UInt8)) × Int × Int × (List (UInt8)) × (List (UInt8)) × Unit)) × Unit) : Option (((Int × Int × Unit × Unit) × Unit × (List ((List (UInt8)) × Int × Int × (List (UInt8)) × (List (UInt8)) × Unit)) × Unit) ⊕ ((Int × Int × Unit × Unit) × Unit × (List ((List (UInt8)) × Int × Int × (List (UInt8)) × (List (UInt8)) × Unit)) × Unit)) :=
  @way1 ((Int × Int × Unit × Unit) × Unit × (List ((List (UInt8)) × Int × Int × (List (UInt8)) × (List (UInt8)) × Unit)) × Unit) (sel (ltI y3.1.2.1 (@len ((List (UInt8)) × Int × Int × (List (UInt8)) × (List (UInt8)) × Unit) y3.2.2.1))
  (sel (within y3.1.2.1 (@len ((List (UInt8)) × Int × Int × (List (UInt8)) × (List (UInt8)) × Unit) y3.2.2.1))
  (obind (@idx ((List (UInt8)) × Int × Int × (List (UInt8)) × (List (UInt8)) × Unit) y3.2.2.1 y3.1.2.1) (fun (y4 : (List (UInt8)) × Int × Int × (List (UInt8)) × (List (UInt8)) × Unit) => obind (sel (nt (eqS y4.1 x.2.1))
  (obind (P_paths_Under (y4.1, (x.2.1, ()))) (fun (y5 : Bool × Unit) => some y5.1))
  (some true)) (fun (y5 : Bool) => obind (sel (nt y5)
  (sel (within y3.1.1 (@len ((List (UInt8)) × Int × Int × (List (UInt8)) × (List (UInt8)) × Unit) y3.2.2.1))
  (obind (@idx ((List (UInt8)) × Int × Int × (List (UInt8)) × (List (UInt8)) × Unit) y3.2.2.1 y3.1.1) (fun (y6 : (List (UInt8)) × Int × Int × (List (UInt8)) × (List (UInt8)) × Unit) => obind (@idx ((List (UInt8)) × Int × Int × (List (UInt8)) × (List (UInt8)) × Unit) y3.2.2.1 y3.1.1) (fun (y7 : (List (UInt8)) × Int × Int × (List (UInt8)) × (List (UInt8)) × Unit) => obind (@idx ((List (UInt8)) × Int × Int × (List (UInt8)) × (List (UInt8)) × Unit) y3.2.2.1 y3.1.1) (fun (y8 : (List (UInt8)) × Int × Int × (List (UInt8)) × (List (UInt8)) × Unit) => some ((iadd IntKind.i64 y3.1.1 (1 : Int), ((), ())), (@lset ((List (UInt8)) × Int × Int × (List (UInt8)) × (List (UInt8)) × Unit) y3.2.2.1 y3.1.1 y4, ()))))))
  (none : Option ((Int × Unit × Unit) × (List ((List (UInt8)) × Int × Int × (List (UInt8)) × (List (UInt8)) × Unit)) × Unit)))
  (some ((y3.1.1, ((), ())), (y3.2.2.1, ())))) (fun (y6 : (Int × Unit × Unit) × (List ((List (UInt8)) × Int × Int × (List (UInt8)) × (List (UInt8)) × Unit)) × Unit) => some (Sum.inl ((y6.1.1, (iadd IntKind.i64 y3.1.2.1 (1 : Int), ((), ()))), ((), (y6.2.1, ()))) : (((Int × Int × Unit × Unit) × Unit × (List ((List (UInt8)) × Int × Int × (List (UInt8)) × (List (UInt8)) × Unit)) × Unit)) ⊕ ((Nat × (Int × Int × Unit × Unit) × Unit × (List ((List (UInt8)) × Int × Int × (List (UInt8)) × (List (UInt8)) × Unit)) × Unit)))))))
  (none : Option (((Int × Int × Unit × Unit) × Unit × (List ((List (UInt8)) × Int × Int × (List (UInt8)) × (List (UInt8)) × Unit)) × Unit) ⊕ (Nat × (Int × Int × Unit × Unit) × Unit × (List ((List (UInt8)) × Int × Int × (List (UInt8)) × (List (UInt8)) × Unit)) × Unit))))
  (some (Sum.inr ((0 : Nat), ((y3.1.1, (y3.1.2.1, ((), ()))), ((), (y3.2.2.1, ())))) : (((Int × Int × Unit × Unit) × Unit × (List ((List (UInt8)) × Int × Int × (List (UInt8)) × (List (UInt8)) × Unit)) × Unit)) ⊕ ((Nat × (Int × Int × Unit × Unit) × Unit × (List ((List (UInt8)) × Int × Int × (List (UInt8)) × (List (UInt8)) × Unit)) × Unit)))))

noncomputable def P_tree_Remove_L2 (x : (List ((List (UInt8)) × Int × Int × (List (UInt8)) × (List (UInt8)) × Unit)) × (List (UInt8)) × Unit) (y3 : (Int × Int × Unit × Unit) × Unit × (List ((List (UInt8)) × Int × Int × (List (UInt8)) × (List (UInt8)) × Unit)) × Unit) : Option (((Int × Int × Unit × Unit) × Unit × (List ((List (UInt8)) × Int × Int × (List (UInt8)) × (List (UInt8)) × Unit)) × Unit) ⊕ ((Int × Int × Unit × Unit) × Unit × (List ((List (UInt8)) × Int × Int × (List (UInt8)) × (List (UInt8)) × Unit)) × Unit)) :=
  @way1 ((Int × Int × Unit × Unit) × Unit × (List ((List (UInt8)) × Int × Int × (List (UInt8)) × (List (UInt8)) × Unit)) × Unit) (sel (ltI y3.1.2.1 (@len ((List (UInt8)) × Int × Int × (List (UInt8)) × (List (UInt8)) × Unit) y3.2.2.1))
  (sel (within y3.1.2.1 (@len ((List (UInt8)) × Int × Int × (List (UInt8)) × (List (UInt8)) × Unit) y3.2.2.1))
  (obind (@idx ((List (UInt8)) × Int × Int × (List (UInt8)) × (List (UInt8)) × Unit) y3.2.2.1 y3.1.2.1) (fun (y4 : (List (UInt8)) × Int × Int × (List (UInt8)) × (List (UInt8)) × Unit) => obind (sel (nt (eqS y4.1 x.2.1))
  (obind (P_paths_Under (y4.1, (x.2.1, ()))) (fun (y5 : Bool × Unit) => some y5.1))
  (some true)) (fun (y5 : Bool) => obind (sel (nt y5)
  (sel (within y3.1.1 (@len ((List (UInt8)) × Int × Int × (List (UInt8)) × (List (UInt8)) × Unit) y3.2.2.1))
  (obind (@idx ((List (UInt8)) × Int × Int × (List (UInt8)) × (List (UInt8)) × Unit) y3.2.2.1 y3.1.1) (fun (y6 : (List (UInt8)) × Int × Int × (List (UInt8)) × (List (UInt8)) × Unit) => obind (@idx ((List (UInt8)) × Int × Int × (List (UInt8)) × (List (UInt8)) × Unit) y3.2.2.1 y3.1.1) (fun (y7 : (List (UInt8)) × Int × Int × (List (UInt8)) × (List (UInt8)) × Unit) => obind (@idx ((List (UInt8)) × Int × Int × (List (UInt8)) × (List (UInt8)) × Unit) y3.2.2.1 y3.1.1) (fun (y8 : (List (UInt8)) × Int × Int × (List (UInt8)) × (List (UInt8)) × Unit) => some ((iadd IntKind.i64 y3.1.1 (1 : Int), ((), ())), (@lset ((List (UInt8)) × Int × Int × (List (UInt8)) × (List (UInt8)) × Unit) y3.2.2.1 y3.1.1 y4, ()))))))
  (none : Option ((Int × Unit × Unit) × (List ((List (UInt8)) × Int × Int × (List (UInt8)) × (List (UInt8)) × Unit)) × Unit)))
  (some ((y3.1.1, ((), ())), (y3.2.2.1, ())))) (fun (y6 : (Int × Unit × Unit) × (List ((List (UInt8)) × Int × Int × (List (UInt8)) × (List (UInt8)) × Unit)) × Unit) => some (Sum.inl ((y6.1.1, (iadd IntKind.i64 y3.1.2.1 (1 : Int), ((), ()))), ((), (y6.2.1, ()))) : (((Int × Int × Unit × Unit) × Unit × (List ((List (UInt8)) × Int × Int × (List (UInt8)) × (List (UInt8)) × Unit)) × Unit)) ⊕ ((Nat × (Int × Int × Unit × Unit) × Unit × (List ((List (UInt8)) × Int × Int × (List (UInt8)) × (List (UInt8)) × Unit)) × Unit)))))))
  (none : Option (((Int × Int × Unit × Unit) × Unit × (List ((List (UInt8)) × Int × Int × (List (UInt8)) × (List (UInt8)) × Unit)) × Unit) ⊕ (Nat × (Int × Int × Unit × Unit) × Unit × (List ((List (UInt8)) × Int × Int × (List (UInt8)) × (List (UInt8)) × Unit)) × Unit))))
  (some (Sum.inr ((0 : Nat), ((y3.1.1, (y3.1.2.1, ((), ()))), ((), (y3.2.2.1, ())))) : (((Int × Int × Unit × Unit) × Unit × (List ((List (UInt8)) × Int × Int × (List (UInt8)) × (List (UInt8)) × Unit)) × Unit)) ⊕ ((Nat × (Int × Int × Unit × Unit) × Unit × (List ((List (UInt8)) × Int × Int × (List (UInt8)) × (List (UInt8)) × Unit)) × Unit)))))

noncomputable def P_tree_Remove (x : (List ((List (UInt8)) × Int × Int × (List (UInt8)) × (List (UInt8)) × Unit)) × (List (UInt8)) × Unit) : Option ((List ((List (UInt8)) × Int × Int × (List (UInt8)) × (List (UInt8)) × Unit)) × Unit) :=
  obind (P_tree_Check (x.1, ())) (fun (y1 : Int × Unit) => sel (nt (eqI y1.1 (0 : Int)))
  (some (([] : List ((List (UInt8)) × Int × Int × (List (UInt8)) × (List (UInt8)) × Unit)), ()))
  (sel (fits (@len ((List (UInt8)) × Int × Int × (List (UInt8)) × (List (UInt8)) × Unit) x.1))
  (obind (Loop (P_tree_Remove_L0 x) (((0 : Int), ((0 : Int), ())), ((), ()))) (fun (y2 : Nat × (Int × Int × Unit) × Unit × Unit) => sel (eqN y2.1 (0 : Nat))
  (sel (eqI (-1 : Int) (-1 : Int))
  (some (x.1, ()))
  (obind (Loop (P_tree_Remove_L1 x) (((-1 : Int), (iadd IntKind.i64 (-1 : Int) (1 : Int), ((), ()))), ((), (x.1, ())))) (fun (y3 : (Int × Int × Unit × Unit) × Unit × (List ((List (UInt8)) × Int × Int × (List (UInt8)) × (List (UInt8)) × Unit)) × Unit) => sel (inside y3.1.1 (@len ((List (UInt8)) × Int × Int × (List (UInt8)) × (List (UInt8)) × Unit) y3.2.2.1) (@len ((List (UInt8)) × Int × Int × (List (UInt8)) × (List (UInt8)) × Unit) y3.2.2.1))
  (sel (inside (0 : Int) y3.1.1 (@len ((List (UInt8)) × Int × Int × (List (UInt8)) × (List (UInt8)) × Unit) (@over ((List (UInt8)) × Int × Int × (List (UInt8)) × (List (UInt8)) × Unit) y3.2.2.1 y3.1.1 (@lrep ((List (UInt8)) × Int × Int × (List (UInt8)) × (List (UInt8)) × Unit) (minus (@len ((List (UInt8)) × Int × Int × (List (UInt8)) × (List (UInt8)) × Unit) y3.2.2.1) y3.1.1) (([] : List (UInt8)), ((0 : Int), ((0 : Int), (([] : List (UInt8)), (([] : List (UInt8)), ())))))))))
  (some (@sub ((List (UInt8)) × Int × Int × (List (UInt8)) × (List (UInt8)) × Unit) (@over ((List (UInt8)) × Int × Int × (List (UInt8)) × (List (UInt8)) × Unit) y3.2.2.1 y3.1.1 (@lrep ((List (UInt8)) × Int × Int × (List (UInt8)) × (List (UInt8)) × Unit) (minus (@len ((List (UInt8)) × Int × Int × (List (UInt8)) × (List (UInt8)) × Unit) y3.2.2.1) y3.1.1) (([] : List (UInt8)), ((0 : Int), ((0 : Int), (([] : List (UInt8)), (([] : List (UInt8)), ()))))))) (0 : Int) (minus y3.1.1 (0 : Int)), ()))
  (none : Option ((List ((List (UInt8)) × Int × Int × (List (UInt8)) × (List (UInt8)) × Unit)) × Unit)))
  (none : Option ((List ((List (UInt8)) × Int × Int × (List (UInt8)) × (List (UInt8)) × Unit)) × Unit)))))
  (sel (eqI y2.2.1.1 (-1 : Int))
  (some (x.1, ()))
  (obind (Loop (P_tree_Remove_L2 x) ((y2.2.1.1, (iadd IntKind.i64 y2.2.1.1 (1 : Int), ((), ()))), ((), (x.1, ())))) (fun (y3 : (Int × Int × Unit × Unit) × Unit × (List ((List (UInt8)) × Int × Int × (List (UInt8)) × (List (UInt8)) × Unit)) × Unit) => sel (inside y3.1.1 (@len ((List (UInt8)) × Int × Int × (List (UInt8)) × (List (UInt8)) × Unit) y3.2.2.1) (@len ((List (UInt8)) × Int × Int × (List (UInt8)) × (List (UInt8)) × Unit) y3.2.2.1))
  (sel (inside (0 : Int) y3.1.1 (@len ((List (UInt8)) × Int × Int × (List (UInt8)) × (List (UInt8)) × Unit) (@over ((List (UInt8)) × Int × Int × (List (UInt8)) × (List (UInt8)) × Unit) y3.2.2.1 y3.1.1 (@lrep ((List (UInt8)) × Int × Int × (List (UInt8)) × (List (UInt8)) × Unit) (minus (@len ((List (UInt8)) × Int × Int × (List (UInt8)) × (List (UInt8)) × Unit) y3.2.2.1) y3.1.1) (([] : List (UInt8)), ((0 : Int), ((0 : Int), (([] : List (UInt8)), (([] : List (UInt8)), ())))))))))
  (some (@sub ((List (UInt8)) × Int × Int × (List (UInt8)) × (List (UInt8)) × Unit) (@over ((List (UInt8)) × Int × Int × (List (UInt8)) × (List (UInt8)) × Unit) y3.2.2.1 y3.1.1 (@lrep ((List (UInt8)) × Int × Int × (List (UInt8)) × (List (UInt8)) × Unit) (minus (@len ((List (UInt8)) × Int × Int × (List (UInt8)) × (List (UInt8)) × Unit) y3.2.2.1) y3.1.1) (([] : List (UInt8)), ((0 : Int), ((0 : Int), (([] : List (UInt8)), (([] : List (UInt8)), ()))))))) (0 : Int) (minus y3.1.1 (0 : Int)), ()))
  (none : Option ((List ((List (UInt8)) × Int × Int × (List (UInt8)) × (List (UInt8)) × Unit)) × Unit)))
  (none : Option ((List ((List (UInt8)) × Int × Int × (List (UInt8)) × (List (UInt8)) × Unit)) × Unit)))))))
  (none : Option ((List ((List (UInt8)) × Int × Int × (List (UInt8)) × (List (UInt8)) × Unit)) × Unit))))

noncomputable def P_ref14_Find (x : (List ((List (UInt8)) × Int × Int × (List (UInt8)) × (List (UInt8)) × Unit)) × (List (UInt8)) × Unit) : Option (((List (UInt8)) × Int × Int × (List (UInt8)) × (List (UInt8)) × Unit) × Bool × Unit) :=
  obind (P_ref14_find (x.1, (x.2.1, ()))) (fun (y1 : Int × Unit) => obind (P_ref14_Is (x.1, ())) (fun (y2 : Bool × Unit) => sel (sel (nt (nt y2.1))
  (ltI y1.1 (0 : Int))
  true)
  (some ((([] : List (UInt8)), ((0 : Int), ((0 : Int), (([] : List (UInt8)), (([] : List (UInt8)), ()))))), (false, ())))
  (obind (@idx ((List (UInt8)) × Int × Int × (List (UInt8)) × (List (UInt8)) × Unit) x.1 y1.1) (fun (y3 : (List (UInt8)) × Int × Int × (List (UInt8)) × (List (UInt8)) × Unit) => some (y3, (true, ()))))))

noncomputable def P_ref14_List_L0 (x : (List ((List (UInt8)) × Int × Int × (List (UInt8)) × (List (UInt8)) × Unit)) × (List (UInt8)) × Unit) (y4 : (Unit × Int × Unit) × (List (List (UInt8))) × Unit) : Option (((Unit × Int × Unit) × (List (List (UInt8))) × Unit) ⊕ ((Unit × Int × Unit) × (List (List (UInt8))) × Unit)) :=
  @way1 ((Unit × Int × Unit) × (List (List (UInt8))) × Unit) (sel (ltI y4.1.2.1 (@len ((List (UInt8)) × Int × Int × (List (UInt8)) × (List (UInt8)) × Unit) x.1))
  (obind (@idx ((List (UInt8)) × Int × Int × (List (UInt8)) × (List (UInt8)) × Unit) x.1 y4.1.2.1) (fun (y5 : (List (UInt8)) × Int × Int × (List (UInt8)) × (List (UInt8)) × Unit) => obind (P_ref07_Split (y5.1, ())) (fun (y6 : (List (UInt8)) × (List (UInt8)) × Unit) => obind (sel (eqS y6.1 x.2.1)
  (sel (fits (plus (@len (List (UInt8)) y4.2.1) (@len (List (UInt8)) ([y6.2.1] : List (List (UInt8))))))
  (some (((), ()), (@app (List (UInt8)) y4.2.1 ([y6.2.1] : List (List (UInt8))), ())))
  (none : Option ((Unit × Unit) × (List (List (UInt8))) × Unit)))
  (some (((), ()), (y4.2.1, ())))) (fun (y7 : (Unit × Unit) × (List (List (UInt8))) × Unit) => some (Sum.inl (((), (iadd IntKind.i64 y4.1.2.1 (1 : Int), ())), (y7.2.1, ())) : (((Unit × Int × Unit) × (List (List (UInt8))) × Unit)) ⊕ ((Nat × (Unit × Int × Unit) × (List (List (UInt8))) × Unit)))))))
  (some (Sum.inr ((0 : Nat), (((), (y4.1.2.1, ())), (y4.2.1, ()))) : (((Unit × Int × Unit) × (List (List (UInt8))) × Unit)) ⊕ ((Nat × (Unit × Int × Unit) × (List (List (UInt8))) × Unit)))))

noncomputable def P_ref14_List (x : (List ((List (UInt8)) × Int × Int × (List (UInt8)) × (List (UInt8)) × Unit)) × (List (UInt8)) × Unit) : Option ((List (List (UInt8))) × Int × Unit) :=
  obind (P_ref14_Is (x.1, ())) (fun (y1 : Bool × Unit) => sel (nt y1.1)
  (some (([] : List (List (UInt8))), ((1 : Int), ())))
  (obind (sel (nt (eqS x.2.1 ([] : List (UInt8))))
  (obind (P_ref14_find (x.1, (x.2.1, ()))) (fun (y2 : Int × Unit) => some (ltI y2.1 (0 : Int))))
  (some false)) (fun (y2 : Bool) => sel y2
  (some (([] : List (List (UInt8))), ((3 : Int), ())))
  (obind (P_ref14_dir (x.1, (x.2.1, ()))) (fun (y3 : Bool × Unit) => sel (nt y3.1)
  (some (([] : List (List (UInt8))), ((12 : Int), ())))
  (obind (Loop (P_ref14_List_L0 x) (((), ((0 : Int), ())), (([] : List (List (UInt8))), ()))) (fun (y4 : (Unit × Int × Unit) × (List (List (UInt8))) × Unit) => some (y4.2.1, ((0 : Int), ())))))))))

noncomputable def P_ref14_Remove (x : (List ((List (UInt8)) × Int × Int × (List (UInt8)) × (List (UInt8)) × Unit)) × (List (UInt8)) × Unit) : Option ((List ((List (UInt8)) × Int × Int × (List (UInt8)) × (List (UInt8)) × Unit)) × Unit) :=
  obind (P_ref14_Is (x.1, ())) (fun (y1 : Bool × Unit) => sel (nt y1.1)
  (some (([] : List ((List (UInt8)) × Int × Int × (List (UInt8)) × (List (UInt8)) × Unit)), ()))
  (obind (P_ref14_without (x.1, (x.2.1, (true, ())))) (fun (y2 : (List ((List (UInt8)) × Int × Int × (List (UInt8)) × (List (UInt8)) × Unit)) × Unit) => some (y2.1, ()))))

noncomputable def P_tree_Empty_L0 (x : (List ((List (UInt8)) × Int × Int × (List (UInt8)) × (List (UInt8)) × Unit)) × (List (UInt8)) × Unit) (y2 : (Int × Int × Unit) × Unit × Unit) : Option (((Int × Int × Unit) × Unit × Unit) ⊕ (Nat × (Int × Int × Unit) × Unit × Unit)) :=
  sel (ltI y2.1.2.1 (@len ((List (UInt8)) × Int × Int × (List (UInt8)) × (List (UInt8)) × Unit) x.1))
  (sel (within y2.1.2.1 (@len ((List (UInt8)) × Int × Int × (List (UInt8)) × (List (UInt8)) × Unit) x.1))
  (obind (@idx ((List (UInt8)) × Int × Int × (List (UInt8)) × (List (UInt8)) × Unit) x.1 y2.1.2.1) (fun (y3 : (List (UInt8)) × Int × Int × (List (UInt8)) × (List (UInt8)) × Unit) => obind (P_paths_Under (y3.1, (x.2.1, ()))) (fun (y4 : Bool × Unit) => sel y4.1
  (some (Sum.inr ((1 : Nat), ((y2.1.2.1, (y2.1.2.1, ())), ((), ()))) : (((Int × Int × Unit) × Unit × Unit)) ⊕ ((Nat × (Int × Int × Unit) × Unit × Unit))))
  (some (Sum.inl ((y2.1.1, (iadd IntKind.i64 y2.1.2.1 (1 : Int), ())), ((), ())) : (((Int × Int × Unit) × Unit × Unit)) ⊕ ((Nat × (Int × Int × Unit) × Unit × Unit)))))))
  (none : Option (((Int × Int × Unit) × Unit × Unit) ⊕ (Nat × (Int × Int × Unit) × Unit × Unit))))
  (some (Sum.inr ((0 : Nat), ((y2.1.1, (y2.1.2.1, ())), ((), ()))) : (((Int × Int × Unit) × Unit × Unit)) ⊕ ((Nat × (Int × Int × Unit) × Unit × Unit))))

noncomputable def P_tree_Empty_L1 (x : (List ((List (UInt8)) × Int × Int × (List (UInt8)) × (List (UInt8)) × Unit)) × (List (UInt8)) × Unit) (y3 : (Int × Int × Unit × Unit) × Unit × (List ((List (UInt8)) × Int × Int × (List (UInt8)) × (List (UInt8)) × Unit)) × Unit) : Option (((Int × Int × Unit × Unit) × Unit × (List ((List (UInt8)) × Int × Int × (List (UInt8)) × (List (UInt8)) × Unit)) × Unit) ⊕ ((Int × Int × Unit × Unit) × Unit × (List ((List (UInt8)) × Int × Int × (List (UInt8)) × (List (UInt8)) × Unit)) × Unit)) :=
  @way1 ((Int × Int × Unit × Unit) × Unit × (List ((List (UInt8)) × Int × Int × (List (UInt8)) × (List (UInt8)) × Unit)) × Unit) (sel (ltI y3.1.2.1 (@len ((List (UInt8)) × Int × Int × (List (UInt8)) × (List (UInt8)) × Unit) y3.2.2.1))
  (sel (within y3.1.2.1 (@len ((List (UInt8)) × Int × Int × (List (UInt8)) × (List (UInt8)) × Unit) y3.2.2.1))
  (obind (@idx ((List (UInt8)) × Int × Int × (List (UInt8)) × (List (UInt8)) × Unit) y3.2.2.1 y3.1.2.1) (fun (y4 : (List (UInt8)) × Int × Int × (List (UInt8)) × (List (UInt8)) × Unit) => obind (P_paths_Under (y4.1, (x.2.1, ()))) (fun (y5 : Bool × Unit) => obind (sel (nt y5.1)
  (sel (within y3.1.1 (@len ((List (UInt8)) × Int × Int × (List (UInt8)) × (List (UInt8)) × Unit) y3.2.2.1))
  (obind (@idx ((List (UInt8)) × Int × Int × (List (UInt8)) × (List (UInt8)) × Unit) y3.2.2.1 y3.1.1) (fun (y6 : (List (UInt8)) × Int × Int × (List (UInt8)) × (List (UInt8)) × Unit) => obind (@idx ((List (UInt8)) × Int × Int × (List (UInt8)) × (List (UInt8)) × Unit) y3.2.2.1 y3.1.1) (fun (y7 : (List (UInt8)) × Int × Int × (List (UInt8)) × (List (UInt8)) × Unit) => obind (@idx ((List (UInt8)) × Int × Int × (List (UInt8)) × (List (UInt8)) × Unit) y3.2.2.1 y3.1.1) (fun (y8 : (List (UInt8)) × Int × Int × (List (UInt8)) × (List (UInt8)) × Unit) => some ((iadd IntKind.i64 y3.1.1 (1 : Int), ((), ())), (@lset ((List (UInt8)) × Int × Int × (List (UInt8)) × (List (UInt8)) × Unit) y3.2.2.1 y3.1.1 y4, ()))))))
  (none : Option ((Int × Unit × Unit) × (List ((List (UInt8)) × Int × Int × (List (UInt8)) × (List (UInt8)) × Unit)) × Unit)))
  (some ((y3.1.1, ((), ())), (y3.2.2.1, ())))) (fun (y6 : (Int × Unit × Unit) × (List ((List (UInt8)) × Int × Int × (List (UInt8)) × (List (UInt8)) × Unit)) × Unit) => some (Sum.inl ((y6.1.1, (iadd IntKind.i64 y3.1.2.1 (1 : Int), ((), ()))), ((), (y6.2.1, ()))) : (((Int × Int × Unit × Unit) × Unit × (List ((List (UInt8)) × Int × Int × (List (UInt8)) × (List (UInt8)) × Unit)) × Unit)) ⊕ ((Nat × (Int × Int × Unit × Unit) × Unit × (List ((List (UInt8)) × Int × Int × (List (UInt8)) × (List (UInt8)) × Unit)) × Unit)))))))
  (none : Option (((Int × Int × Unit × Unit) × Unit × (List ((List (UInt8)) × Int × Int × (List (UInt8)) × (List (UInt8)) × Unit)) × Unit) ⊕ (Nat × (Int × Int × Unit × Unit) × Unit × (List ((List (UInt8)) × Int × Int × (List (UInt8)) × (List (UInt8)) × Unit)) × Unit))))
  (some (Sum.inr ((0 : Nat), ((y3.1.1, (y3.1.2.1, ((), ()))), ((), (y3.2.2.1, ())))) : (((Int × Int × Unit × Unit) × Unit × (List ((List (UInt8)) × Int × Int × (List (UInt8)) × (List (UInt8)) × Unit)) × Unit)) ⊕ ((Nat × (Int × Int × Unit × Unit) × Unit × (List ((List (UInt8)) × Int × Int × (List (UInt8)) × (List (UInt8)) × Unit)) × Unit)))))

noncomputable def P_tree_Empty_L2 (x : (List ((List (UInt8)) × Int × Int × (List (UInt8)) × (List (UInt8)) × Unit)) × (List (UInt8)) × Unit) (y3 : (Int × Int × Unit × Unit) × Unit × (List ((List (UInt8)) × Int × Int × (List (UInt8)) × (List (UInt8)) × Unit)) × Unit) : Option (((Int × Int × Unit × Unit) × Unit × (List ((List (UInt8)) × Int × Int × (List (UInt8)) × (List (UInt8)) × Unit)) × Unit) ⊕ ((Int × Int × Unit × Unit) × Unit × (List ((List (UInt8)) × Int × Int × (List (UInt8)) × (List (UInt8)) × Unit)) × Unit)) :=
  @way1 ((Int × Int × Unit × Unit) × Unit × (List ((List (UInt8)) × Int × Int × (List (UInt8)) × (List (UInt8)) × Unit)) × Unit) (sel (ltI y3.1.2.1 (@len ((List (UInt8)) × Int × Int × (List (UInt8)) × (List (UInt8)) × Unit) y3.2.2.1))
  (sel (within y3.1.2.1 (@len ((List (UInt8)) × Int × Int × (List (UInt8)) × (List (UInt8)) × Unit) y3.2.2.1))
  (obind (@idx ((List (UInt8)) × Int × Int × (List (UInt8)) × (List (UInt8)) × Unit) y3.2.2.1 y3.1.2.1) (fun (y4 : (List (UInt8)) × Int × Int × (List (UInt8)) × (List (UInt8)) × Unit) => obind (P_paths_Under (y4.1, (x.2.1, ()))) (fun (y5 : Bool × Unit) => obind (sel (nt y5.1)
  (sel (within y3.1.1 (@len ((List (UInt8)) × Int × Int × (List (UInt8)) × (List (UInt8)) × Unit) y3.2.2.1))
  (obind (@idx ((List (UInt8)) × Int × Int × (List (UInt8)) × (List (UInt8)) × Unit) y3.2.2.1 y3.1.1) (fun (y6 : (List (UInt8)) × Int × Int × (List (UInt8)) × (List (UInt8)) × Unit) => obind (@idx ((List (UInt8)) × Int × Int × (List (UInt8)) × (List (UInt8)) × Unit) y3.2.2.1 y3.1.1) (fun (y7 : (List (UInt8)) × Int × Int × (List (UInt8)) × (List (UInt8)) × Unit) => obind (@idx ((List (UInt8)) × Int × Int × (List (UInt8)) × (List (UInt8)) × Unit) y3.2.2.1 y3.1.1) (fun (y8 : (List (UInt8)) × Int × Int × (List (UInt8)) × (List (UInt8)) × Unit) => some ((iadd IntKind.i64 y3.1.1 (1 : Int), ((), ())), (@lset ((List (UInt8)) × Int × Int × (List (UInt8)) × (List (UInt8)) × Unit) y3.2.2.1 y3.1.1 y4, ()))))))
  (none : Option ((Int × Unit × Unit) × (List ((List (UInt8)) × Int × Int × (List (UInt8)) × (List (UInt8)) × Unit)) × Unit)))
  (some ((y3.1.1, ((), ())), (y3.2.2.1, ())))) (fun (y6 : (Int × Unit × Unit) × (List ((List (UInt8)) × Int × Int × (List (UInt8)) × (List (UInt8)) × Unit)) × Unit) => some (Sum.inl ((y6.1.1, (iadd IntKind.i64 y3.1.2.1 (1 : Int), ((), ()))), ((), (y6.2.1, ()))) : (((Int × Int × Unit × Unit) × Unit × (List ((List (UInt8)) × Int × Int × (List (UInt8)) × (List (UInt8)) × Unit)) × Unit)) ⊕ ((Nat × (Int × Int × Unit × Unit) × Unit × (List ((List (UInt8)) × Int × Int × (List (UInt8)) × (List (UInt8)) × Unit)) × Unit)))))))
  (none : Option (((Int × Int × Unit × Unit) × Unit × (List ((List (UInt8)) × Int × Int × (List (UInt8)) × (List (UInt8)) × Unit)) × Unit) ⊕ (Nat × (Int × Int × Unit × Unit) × Unit × (List ((List (UInt8)) × Int × Int × (List (UInt8)) × (List (UInt8)) × Unit)) × Unit))))
  (some (Sum.inr ((0 : Nat), ((y3.1.1, (y3.1.2.1, ((), ()))), ((), (y3.2.2.1, ())))) : (((Int × Int × Unit × Unit) × Unit × (List ((List (UInt8)) × Int × Int × (List (UInt8)) × (List (UInt8)) × Unit)) × Unit)) ⊕ ((Nat × (Int × Int × Unit × Unit) × Unit × (List ((List (UInt8)) × Int × Int × (List (UInt8)) × (List (UInt8)) × Unit)) × Unit)))))

noncomputable def P_tree_Empty (x : (List ((List (UInt8)) × Int × Int × (List (UInt8)) × (List (UInt8)) × Unit)) × (List (UInt8)) × Unit) : Option ((List ((List (UInt8)) × Int × Int × (List (UInt8)) × (List (UInt8)) × Unit)) × Unit) :=
  obind (P_tree_Check (x.1, ())) (fun (y1 : Int × Unit) => sel (nt (eqI y1.1 (0 : Int)))
  (some (([] : List ((List (UInt8)) × Int × Int × (List (UInt8)) × (List (UInt8)) × Unit)), ()))
  (sel (fits (@len ((List (UInt8)) × Int × Int × (List (UInt8)) × (List (UInt8)) × Unit) x.1))
  (obind (Loop (P_tree_Empty_L0 x) (((0 : Int), ((0 : Int), ())), ((), ()))) (fun (y2 : Nat × (Int × Int × Unit) × Unit × Unit) => sel (eqN y2.1 (0 : Nat))
  (sel (eqI (-1 : Int) (-1 : Int))
  (some (x.1, ()))
  (obind (Loop (P_tree_Empty_L1 x) (((-1 : Int), (iadd IntKind.i64 (-1 : Int) (1 : Int), ((), ()))), ((), (x.1, ())))) (fun (y3 : (Int × Int × Unit × Unit) × Unit × (List ((List (UInt8)) × Int × Int × (List (UInt8)) × (List (UInt8)) × Unit)) × Unit) => sel (inside y3.1.1 (@len ((List (UInt8)) × Int × Int × (List (UInt8)) × (List (UInt8)) × Unit) y3.2.2.1) (@len ((List (UInt8)) × Int × Int × (List (UInt8)) × (List (UInt8)) × Unit) y3.2.2.1))
  (sel (inside (0 : Int) y3.1.1 (@len ((List (UInt8)) × Int × Int × (List (UInt8)) × (List (UInt8)) × Unit) (@over ((List (UInt8)) × Int × Int × (List (UInt8)) × (List (UInt8)) × Unit) y3.2.2.1 y3.1.1 (@lrep ((List (UInt8)) × Int × Int × (List (UInt8)) × (List (UInt8)) × Unit) (minus (@len ((List (UInt8)) × Int × Int × (List (UInt8)) × (List (UInt8)) × Unit) y3.2.2.1) y3.1.1) (([] : List (UInt8)), ((0 : Int), ((0 : Int), (([] : List (UInt8)), (([] : List (UInt8)), ())))))))))
  (some (@sub ((List (UInt8)) × Int × Int × (List (UInt8)) × (List (UInt8)) × Unit) (@over ((List (UInt8)) × Int × Int × (List (UInt8)) × (List (UInt8)) × Unit) y3.2.2.1 y3.1.1 (@lrep ((List (UInt8)) × Int × Int × (List (UInt8)) × (List (UInt8)) × Unit) (minus (@len ((List (UInt8)) × Int × Int × (List (UInt8)) × (List (UInt8)) × Unit) y3.2.2.1) y3.1.1) (([] : List (UInt8)), ((0 : Int), ((0 : Int), (([] : List (UInt8)), (([] : List (UInt8)), ()))))))) (0 : Int) (minus y3.1.1 (0 : Int)), ()))
  (none : Option ((List ((List (UInt8)) × Int × Int × (List (UInt8)) × (List (UInt8)) × Unit)) × Unit)))
  (none : Option ((List ((List (UInt8)) × Int × Int × (List (UInt8)) × (List (UInt8)) × Unit)) × Unit)))))
  (sel (eqI y2.2.1.1 (-1 : Int))
  (some (x.1, ()))
  (obind (Loop (P_tree_Empty_L2 x) ((y2.2.1.1, (iadd IntKind.i64 y2.2.1.1 (1 : Int), ((), ()))), ((), (x.1, ())))) (fun (y3 : (Int × Int × Unit × Unit) × Unit × (List ((List (UInt8)) × Int × Int × (List (UInt8)) × (List (UInt8)) × Unit)) × Unit) => sel (inside y3.1.1 (@len ((List (UInt8)) × Int × Int × (List (UInt8)) × (List (UInt8)) × Unit) y3.2.2.1) (@len ((List (UInt8)) × Int × Int × (List (UInt8)) × (List (UInt8)) × Unit) y3.2.2.1))
  (sel (inside (0 : Int) y3.1.1 (@len ((List (UInt8)) × Int × Int × (List (UInt8)) × (List (UInt8)) × Unit) (@over ((List (UInt8)) × Int × Int × (List (UInt8)) × (List (UInt8)) × Unit) y3.2.2.1 y3.1.1 (@lrep ((List (UInt8)) × Int × Int × (List (UInt8)) × (List (UInt8)) × Unit) (minus (@len ((List (UInt8)) × Int × Int × (List (UInt8)) × (List (UInt8)) × Unit) y3.2.2.1) y3.1.1) (([] : List (UInt8)), ((0 : Int), ((0 : Int), (([] : List (UInt8)), (([] : List (UInt8)), ())))))))))
  (some (@sub ((List (UInt8)) × Int × Int × (List (UInt8)) × (List (UInt8)) × Unit) (@over ((List (UInt8)) × Int × Int × (List (UInt8)) × (List (UInt8)) × Unit) y3.2.2.1 y3.1.1 (@lrep ((List (UInt8)) × Int × Int × (List (UInt8)) × (List (UInt8)) × Unit) (minus (@len ((List (UInt8)) × Int × Int × (List (UInt8)) × (List (UInt8)) × Unit) y3.2.2.1) y3.1.1) (([] : List (UInt8)), ((0 : Int), ((0 : Int), (([] : List (UInt8)), (([] : List (UInt8)), ()))))))) (0 : Int) (minus y3.1.1 (0 : Int)), ()))
  (none : Option ((List ((List (UInt8)) × Int × Int × (List (UInt8)) × (List (UInt8)) × Unit)) × Unit)))
  (none : Option ((List ((List (UInt8)) × Int × Int × (List (UInt8)) × (List (UInt8)) × Unit)) × Unit)))))))
  (none : Option ((List ((List (UInt8)) × Int × Int × (List (UInt8)) × (List (UInt8)) × Unit)) × Unit))))

noncomputable def P_ref14_Empty (x : (List ((List (UInt8)) × Int × Int × (List (UInt8)) × (List (UInt8)) × Unit)) × (List (UInt8)) × Unit) : Option ((List ((List (UInt8)) × Int × Int × (List (UInt8)) × (List (UInt8)) × Unit)) × Unit) :=
  obind (P_ref14_Is (x.1, ())) (fun (y1 : Bool × Unit) => sel (nt y1.1)
  (some (([] : List ((List (UInt8)) × Int × Int × (List (UInt8)) × (List (UInt8)) × Unit)), ()))
  (obind (P_ref14_without (x.1, (x.2.1, (false, ())))) (fun (y2 : (List ((List (UInt8)) × Int × Int × (List (UInt8)) × (List (UInt8)) × Unit)) × Unit) => some (y2.1, ()))))

noncomputable def P_ref14_Text_L0 (x : (List ((List (UInt8)) × Int × Int × (List (UInt8)) × (List (UInt8)) × Unit)) × Unit) (y2 : ((List (UInt8)) × Int × Unit) × Unit) : Option ((((List (UInt8)) × Int × Unit) × Unit) ⊕ (((List (UInt8)) × Int × Unit) × Unit)) :=
  @way1 (((List (UInt8)) × Int × Unit) × Unit) (sel (ltI y2.1.2.1 (@len ((List (UInt8)) × Int × Int × (List (UInt8)) × (List (UInt8)) × Unit) x.1))
  (obind (@idx ((List (UInt8)) × Int × Int × (List (UInt8)) × (List (UInt8)) × Unit) x.1 y2.1.2.1) (fun (y3 : (List (UInt8)) × Int × Int × (List (UInt8)) × (List (UInt8)) × Unit) => obind (P_ref01_Octal (y3.2.2.1, ((4 : Int), ()))) (fun (y4 : (List (UInt8)) × Bool × Unit) => obind (@idx ((List (UInt8)) × Int × Int × (List (UInt8)) × (List (UInt8)) × Unit) x.1 y2.1.2.1) (fun (y5 : (List (UInt8)) × Int × Int × (List (UInt8)) × (List (UInt8)) × Unit) => obind (@idx (List (UInt8)) ([([] : List (UInt8)), ([(102 : UInt8)] : List (UInt8)), ([(100 : UInt8)] : List (UInt8)), ([(108 : UInt8)] : List (UInt8))] : List (List (UInt8))) y5.2.1) (fun (y6 : List (UInt8)) => sel (fits (plus (@len UInt8 y2.1.1) (@len UInt8 y6)))
  (sel (fits (plus (@len UInt8 (@app UInt8 y2.1.1 y6)) (@len UInt8 ([(32 : UInt8)] : List (UInt8)))))
  (sel (fits (plus (@len UInt8 (@app UInt8 (@app UInt8 y2.1.1 y6) ([(32 : UInt8)] : List (UInt8)))) (@len UInt8 y4.1)))
  (sel (fits (plus (@len UInt8 (@app UInt8 (@app UInt8 (@app UInt8 y2.1.1 y6) ([(32 : UInt8)] : List (UInt8))) y4.1)) (@len UInt8 ([(32 : UInt8)] : List (UInt8)))))
  (obind (@idx ((List (UInt8)) × Int × Int × (List (UInt8)) × (List (UInt8)) × Unit) x.1 y2.1.2.1) (fun (y7 : (List (UInt8)) × Int × Int × (List (UInt8)) × (List (UInt8)) × Unit) => obind (P_ref01_Hex (y7.1, ())) (fun (y8 : (List (UInt8)) × Unit) => sel (fits (plus (@len UInt8 (@app UInt8 (@app UInt8 (@app UInt8 (@app UInt8 y2.1.1 y6) ([(32 : UInt8)] : List (UInt8))) y4.1) ([(32 : UInt8)] : List (UInt8)))) (@len UInt8 y8.1)))
  (obind (@idx ((List (UInt8)) × Int × Int × (List (UInt8)) × (List (UInt8)) × Unit) x.1 y2.1.2.1) (fun (y9 : (List (UInt8)) × Int × Int × (List (UInt8)) × (List (UInt8)) × Unit) => obind (sel (eqI y9.2.1 (1 : Int))
  (sel (fits (plus (@len UInt8 (@app UInt8 (@app UInt8 (@app UInt8 (@app UInt8 (@app UInt8 y2.1.1 y6) ([(32 : UInt8)] : List (UInt8))) y4.1) ([(32 : UInt8)] : List (UInt8))) y8.1)) (@len UInt8 ([(32 : UInt8)] : List (UInt8)))))
  (obind (@idx ((List (UInt8)) × Int × Int × (List (UInt8)) × (List (UInt8)) × Unit) x.1 y2.1.2.1) (fun (y10 : (List (UInt8)) × Int × Int × (List (UInt8)) × (List (UInt8)) × Unit) => obind (P_ref03_Of (y10.2.2.2.1, ())) (fun (y11 : (List (UInt8)) × Unit) => sel (fits (plus (@len UInt8 (@app UInt8 (@app UInt8 (@app UInt8 (@app UInt8 (@app UInt8 (@app UInt8 y2.1.1 y6) ([(32 : UInt8)] : List (UInt8))) y4.1) ([(32 : UInt8)] : List (UInt8))) y8.1) ([(32 : UInt8)] : List (UInt8)))) (@len UInt8 y11.1)))
  (some ((@app UInt8 (@app UInt8 (@app UInt8 (@app UInt8 (@app UInt8 (@app UInt8 (@app UInt8 y2.1.1 y6) ([(32 : UInt8)] : List (UInt8))) y4.1) ([(32 : UInt8)] : List (UInt8))) y8.1) ([(32 : UInt8)] : List (UInt8))) y11.1, ()), ()))
  (none : Option (((List (UInt8)) × Unit) × Unit)))))
  (none : Option (((List (UInt8)) × Unit) × Unit)))
  (obind (sel (eqI y9.2.1 (3 : Int))
  (sel (fits (plus (@len UInt8 (@app UInt8 (@app UInt8 (@app UInt8 (@app UInt8 (@app UInt8 y2.1.1 y6) ([(32 : UInt8)] : List (UInt8))) y4.1) ([(32 : UInt8)] : List (UInt8))) y8.1)) (@len UInt8 ([(32 : UInt8)] : List (UInt8)))))
  (obind (@idx ((List (UInt8)) × Int × Int × (List (UInt8)) × (List (UInt8)) × Unit) x.1 y2.1.2.1) (fun (y10 : (List (UInt8)) × Int × Int × (List (UInt8)) × (List (UInt8)) × Unit) => obind (P_ref01_Hex (y10.2.2.2.2.1, ())) (fun (y11 : (List (UInt8)) × Unit) => sel (fits (plus (@len UInt8 (@app UInt8 (@app UInt8 (@app UInt8 (@app UInt8 (@app UInt8 (@app UInt8 y2.1.1 y6) ([(32 : UInt8)] : List (UInt8))) y4.1) ([(32 : UInt8)] : List (UInt8))) y8.1) ([(32 : UInt8)] : List (UInt8)))) (@len UInt8 y11.1)))
  (some ((@app UInt8 (@app UInt8 (@app UInt8 (@app UInt8 (@app UInt8 (@app UInt8 (@app UInt8 y2.1.1 y6) ([(32 : UInt8)] : List (UInt8))) y4.1) ([(32 : UInt8)] : List (UInt8))) y8.1) ([(32 : UInt8)] : List (UInt8))) y11.1, ()), ()))
  (none : Option (((List (UInt8)) × Unit) × Unit)))))
  (none : Option (((List (UInt8)) × Unit) × Unit)))
  (some ((@app UInt8 (@app UInt8 (@app UInt8 (@app UInt8 (@app UInt8 y2.1.1 y6) ([(32 : UInt8)] : List (UInt8))) y4.1) ([(32 : UInt8)] : List (UInt8))) y8.1, ()), ()))) (fun (y10 : ((List (UInt8)) × Unit) × Unit) => some ((y10.1.1, ()), ())))) (fun (y10 : ((List (UInt8)) × Unit) × Unit) => sel (fits (plus (@len UInt8 y10.1.1) (@len UInt8 ([(10 : UInt8)] : List (UInt8)))))
  (some (Sum.inl ((@app UInt8 y10.1.1 ([(10 : UInt8)] : List (UInt8)), (iadd IntKind.i64 y2.1.2.1 (1 : Int), ())), ()) : ((((List (UInt8)) × Int × Unit) × Unit)) ⊕ ((Nat × ((List (UInt8)) × Int × Unit) × Unit))))
  (none : Option ((((List (UInt8)) × Int × Unit) × Unit) ⊕ (Nat × ((List (UInt8)) × Int × Unit) × Unit))))))
  (none : Option ((((List (UInt8)) × Int × Unit) × Unit) ⊕ (Nat × ((List (UInt8)) × Int × Unit) × Unit))))))
  (none : Option ((((List (UInt8)) × Int × Unit) × Unit) ⊕ (Nat × ((List (UInt8)) × Int × Unit) × Unit))))
  (none : Option ((((List (UInt8)) × Int × Unit) × Unit) ⊕ (Nat × ((List (UInt8)) × Int × Unit) × Unit))))
  (none : Option ((((List (UInt8)) × Int × Unit) × Unit) ⊕ (Nat × ((List (UInt8)) × Int × Unit) × Unit))))
  (none : Option ((((List (UInt8)) × Int × Unit) × Unit) ⊕ (Nat × ((List (UInt8)) × Int × Unit) × Unit))))))))
  (some (Sum.inr ((0 : Nat), ((y2.1.1, (y2.1.2.1, ())), ())) : ((((List (UInt8)) × Int × Unit) × Unit)) ⊕ ((Nat × ((List (UInt8)) × Int × Unit) × Unit)))))

noncomputable def P_ref14_Text (x : (List ((List (UInt8)) × Int × Int × (List (UInt8)) × (List (UInt8)) × Unit)) × Unit) : Option ((List (UInt8)) × Unit) :=
  obind (P_ref14_Is (x.1, ())) (fun (y1 : Bool × Unit) => sel (nt y1.1)
  (some (([] : List (UInt8)), ()))
  (obind (Loop (P_ref14_Text_L0 x) ((([] : List (UInt8)), ((0 : Int), ())), ())) (fun (y2 : ((List (UInt8)) × Int × Unit) × Unit) => some (y2.1.1, ()))))

noncomputable def P_law14_TreeIs (x : (List ((List (UInt8)) × Int × Int × (List (UInt8)) × (List (UInt8)) × Unit)) × (List (UInt8)) × Unit) : Option (Bool × Unit) :=
  obind (P_ref14_Few (x.1, ((70 : Int), ()))) (fun (y1 : Bool × Unit) => sel (sel (nt (nt y1.1))
  (ltI (256 : Int) (@len UInt8 x.2.1))
  true)
  (obind (P_law14_awake ()) (fun (y2 : Bool × Unit) => some (y2.1, ())))
  (obind (P_tree_Find (x.1, (x.2.1, ()))) (fun (y2 : ((List (UInt8)) × Int × Int × (List (UInt8)) × (List (UInt8)) × Unit) × Bool × Unit) => obind (P_ref14_Find (x.1, (x.2.1, ()))) (fun (y3 : ((List (UInt8)) × Int × Int × (List (UInt8)) × (List (UInt8)) × Unit) × Bool × Unit) => obind (P_tree_List (x.1, (x.2.1, ()))) (fun (y4 : (List (List (UInt8))) × Int × Unit) => obind (P_ref14_List (x.1, (x.2.1, ()))) (fun (y5 : (List (List (UInt8))) × Int × Unit) => obind (P_tree_Check (x.1, ())) (fun (y6 : Int × Unit) => obind (P_ref14_Is (x.1, ())) (fun (y7 : Bool × Unit) => obind (sel (sel (sel (eqB (eqI y6.1 (0 : Int)) y7.1)
  (an (eqS y2.1.1 y3.1.1) (an (eqI y2.1.2.1 y3.1.2.1) (an (eqI y2.1.2.2.1 y3.1.2.2.1) (an (eqS y2.1.2.2.2.1 y3.1.2.2.2.1) (an (eqS y2.1.2.2.2.2.1 y3.1.2.2.2.2.1) true)))))
  false)
  (eqB y2.2.1 y3.2.1)
  false)
  (obind (P_ref06_SameTexts (y4.1, (y5.1, ()))) (fun (y8 : Bool × Unit) => some y8.1))
  (some false)) (fun (y8 : Bool) => obind (sel (sel y8
  (eqI y4.2.1 y5.2.1)
  false)
  (obind (P_tree_Remove (x.1, (x.2.1, ()))) (fun (y9 : (List ((List (UInt8)) × Int × Int × (List (UInt8)) × (List (UInt8)) × Unit)) × Unit) => obind (P_ref14_Remove (x.1, (x.2.1, ()))) (fun (y10 : (List ((List (UInt8)) × Int × Int × (List (UInt8)) × (List (UInt8)) × Unit)) × Unit) => obind (P_ref14_Same (y9.1, (y10.1, ()))) (fun (y11 : Bool × Unit) => some y11.1))))
  (some false)) (fun (y9 : Bool) => obind (sel y9
  (obind (P_tree_Empty (x.1, (x.2.1, ()))) (fun (y10 : (List ((List (UInt8)) × Int × Int × (List (UInt8)) × (List (UInt8)) × Unit)) × Unit) => obind (P_ref14_Empty (x.1, (x.2.1, ()))) (fun (y11 : (List ((List (UInt8)) × Int × Int × (List (UInt8)) × (List (UInt8)) × Unit)) × Unit) => obind (P_ref14_Same (y10.1, (y11.1, ()))) (fun (y12 : Bool × Unit) => some y12.1))))
  (some false)) (fun (y10 : Bool) => obind (sel y10
  (obind (P_tree_Text (x.1, ())) (fun (y11 : (List (UInt8)) × Unit) => obind (P_ref14_Text (x.1, ())) (fun (y12 : (List (UInt8)) × Unit) => some (eqS y11.1 y12.1))))
  (some false)) (fun (y11 : Bool) => obind (sel y11
  (obind (P_law14_awake ()) (fun (y12 : Bool × Unit) => some y12.1))
  (some false)) (fun (y12 : Bool) => some (y12, ()))))))))))))))
end Go.Ge
