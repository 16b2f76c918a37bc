/- What the functions of layer 14 compute, as plain programs (written by a program from what the ghost interpreter comes to). -/
import Derived.Test.YtnmllijemdpcoaaDoorGpA
import Derived.Test.YtnmllijemdpcoaaDoorGp14z
import Derived.Test.YtnmllijemdpcoaaDoorGeI
namespace Go.Ge
set_option linter.unusedVariables false
set_option maxRecDepth 100000

noncomputable def P_law14_TreeStays_L1 (y2 : (Bool × (List ((List (UInt8)) × Int × Int × (List (UInt8)) × (List (UInt8)) × Unit)) × Int × Unit) × Unit) (y4 : (List ((List (UInt8)) × Int × Int × (List (UInt8)) × (List (UInt8)) × Unit)) × Int × Unit) (y6 : ((List (UInt8)) × Int × Int × (List (UInt8)) × (List (UInt8)) × Unit) × Bool × Unit) (y8 : ((List (UInt8)) × Int × Int × (List (UInt8)) × (List (UInt8)) × Unit) × Bool × Unit) (y11 : (Bool × Int × Unit) × Unit) : Option (((Bool × Int × Unit) × Unit) ⊕ (Nat × (Bool × Int × Unit) × Unit)) :=
  sel (ltI y11.1.2.1 (@len ((List (UInt8)) × Int × Int × (List (UInt8)) × (List (UInt8)) × Unit) y2.1.2.1))
  (obind (@idx ((List (UInt8)) × Int × Int × (List (UInt8)) × (List (UInt8)) × Unit) y2.1.2.1 y11.1.2.1) (fun (y12 : (List (UInt8)) × Int × Int × (List (UInt8)) × (List (UInt8)) × Unit) => obind (P_ref07_Under (y12.1, (y6.1.1, ()))) (fun (y13 : Bool × Unit) => obind (@idx ((List (UInt8)) × Int × Int × (List (UInt8)) × (List (UInt8)) × Unit) y2.1.2.1 y11.1.2.1) (fun (y14 : (List (UInt8)) × Int × Int × (List (UInt8)) × (List (UInt8)) × Unit) => obind (P_tree_Find (y4.1, (y14.1, ()))) (fun (y15 : ((List (UInt8)) × Int × Int × (List (UInt8)) × (List (UInt8)) × Unit) × Bool × Unit) => obind (@idx ((List (UInt8)) × Int × Int × (List (UInt8)) × (List (UInt8)) × Unit) y2.1.2.1 y11.1.2.1) (fun (y16 : (List (UInt8)) × Int × Int × (List (UInt8)) × (List (UInt8)) × Unit) => sel (nt (eqS y16.1 y6.1.1))
  (sel (nt y13.1)
  (sel (nt (eqB y15.2.1 true))
  (some (Sum.inr ((1 : Nat), ((false, (y11.1.2.1, ())), ())) : (((Bool × Int × Unit) × Unit)) ⊕ ((Nat × (Bool × Int × Unit) × Unit))))
  (sel y15.2.1
  (obind (@idx ((List (UInt8)) × Int × Int × (List (UInt8)) × (List (UInt8)) × Unit) y2.1.2.1 y11.1.2.1) (fun (y17 : (List (UInt8)) × Int × Int × (List (UInt8)) × (List (UInt8)) × Unit) => sel (nt (an (eqS y15.1.1 y17.1) (an (eqI y15.1.2.1 y17.2.1) (an (eqI y15.1.2.2.1 y17.2.2.1) (an (eqS y15.1.2.2.2.1 y17.2.2.2.1) (an (eqS y15.1.2.2.2.2.1 y17.2.2.2.2.1) true))))))
  (some (Sum.inr ((1 : Nat), ((false, (y11.1.2.1, ())), ())) : (((Bool × Int × Unit) × Unit)) ⊕ ((Nat × (Bool × Int × Unit) × Unit))))
  (some (Sum.inl ((y11.1.1, (iadd IntKind.i64 y11.1.2.1 (1 : Int), ())), ()) : (((Bool × Int × Unit) × Unit)) ⊕ ((Nat × (Bool × Int × Unit) × Unit))))))
  (some (Sum.inl ((y11.1.1, (iadd IntKind.i64 y11.1.2.1 (1 : Int), ())), ()) : (((Bool × Int × Unit) × Unit)) ⊕ ((Nat × (Bool × Int × Unit) × Unit))))))
  (sel (nt (eqB y15.2.1 (sel (sel y8.2.1
  (eqI y8.1.2.1 (2 : Int))
  false)
  (eqI y6.1.2.1 (2 : Int))
  false)))
  (some (Sum.inr ((1 : Nat), ((false, (y11.1.2.1, ())), ())) : (((Bool × Int × Unit) × Unit)) ⊕ ((Nat × (Bool × Int × Unit) × Unit))))
  (sel y15.2.1
  (obind (@idx ((List (UInt8)) × Int × Int × (List (UInt8)) × (List (UInt8)) × Unit) y2.1.2.1 y11.1.2.1) (fun (y17 : (List (UInt8)) × Int × Int × (List (UInt8)) × (List (UInt8)) × Unit) => sel (nt (an (eqS y15.1.1 y17.1) (an (eqI y15.1.2.1 y17.2.1) (an (eqI y15.1.2.2.1 y17.2.2.1) (an (eqS y15.1.2.2.2.1 y17.2.2.2.1) (an (eqS y15.1.2.2.2.2.1 y17.2.2.2.2.1) true))))))
  (some (Sum.inr ((1 : Nat), ((false, (y11.1.2.1, ())), ())) : (((Bool × Int × Unit) × Unit)) ⊕ ((Nat × (Bool × Int × Unit) × Unit))))
  (some (Sum.inl ((y11.1.1, (iadd IntKind.i64 y11.1.2.1 (1 : Int), ())), ()) : (((Bool × Int × Unit) × Unit)) ⊕ ((Nat × (Bool × Int × Unit) × Unit))))))
  (some (Sum.inl ((y11.1.1, (iadd IntKind.i64 y11.1.2.1 (1 : Int), ())), ()) : (((Bool × Int × Unit) × Unit)) ⊕ ((Nat × (Bool × Int × Unit) × Unit)))))))
  (some (Sum.inl ((y11.1.1, (iadd IntKind.i64 y11.1.2.1 (1 : Int), ())), ()) : (((Bool × Int × Unit) × Unit)) ⊕ ((Nat × (Bool × Int × Unit) × Unit))))))))))
  (some (Sum.inr ((0 : Nat), ((y11.1.1, (y11.1.2.1, ())), ())) : (((Bool × Int × Unit) × Unit)) ⊕ ((Nat × (Bool × Int × Unit) × Unit))))

noncomputable def P_law14_TreeStays_L0 (x : (List ((List (UInt8)) × Int × Int × (List (UInt8)) × (List (UInt8)) × Unit)) × Unit) (y2 : (Bool × (List ((List (UInt8)) × Int × Int × (List (UInt8)) × (List (UInt8)) × Unit)) × Int × Unit) × Unit) : Option (((Bool × (List ((List (UInt8)) × Int × Int × (List (UInt8)) × (List (UInt8)) × Unit)) × Int × Unit) × Unit) ⊕ (Nat × (Bool × (List ((List (UInt8)) × Int × Int × (List (UInt8)) × (List (UInt8)) × Unit)) × Int × Unit) × Unit)) :=
  sel (ltI y2.1.2.2.1 (@len ((List (UInt8)) × Int × Int × (List (UInt8)) × (List (UInt8)) × Unit) x.1))
  (obind (@idx ((List (UInt8)) × Int × Int × (List (UInt8)) × (List (UInt8)) × Unit) x.1 y2.1.2.2.1) (fun (y3 : (List (UInt8)) × Int × Int × (List (UInt8)) × (List (UInt8)) × Unit) => obind (P_tree_Put (y2.1.2.1, (y3, ()))) (fun (y4 : (List ((List (UInt8)) × Int × Int × (List (UInt8)) × (List (UInt8)) × Unit)) × Int × Unit) => sel (nt (eqI y4.2.1 (0 : Int)))
  (sel (ltI (0 : Int) (@len ((List (UInt8)) × Int × Int × (List (UInt8)) × (List (UInt8)) × Unit) y4.1))
  (some (Sum.inr ((1 : Nat), ((false, (y2.1.2.1, (y2.1.2.2.1, ()))), ())) : (((Bool × (List ((List (UInt8)) × Int × Int × (List (UInt8)) × (List (UInt8)) × Unit)) × Int × Unit) × Unit)) ⊕ ((Nat × (Bool × (List ((List (UInt8)) × Int × Int × (List (UInt8)) × (List (UInt8)) × Unit)) × Int × Unit) × Unit))))
  (some (Sum.inl ((y2.1.1, (y2.1.2.1, (iadd IntKind.i64 y2.1.2.2.1 (1 : Int), ()))), ()) : (((Bool × (List ((List (UInt8)) × Int × Int × (List (UInt8)) × (List (UInt8)) × Unit)) × Int × Unit) × Unit)) ⊕ ((Nat × (Bool × (List ((List (UInt8)) × Int × Int × (List (UInt8)) × (List (UInt8)) × Unit)) × Int × Unit) × Unit)))))
  (obind (@idx ((List (UInt8)) × Int × Int × (List (UInt8)) × (List (UInt8)) × Unit) x.1 y2.1.2.2.1) (fun (y5 : (List (UInt8)) × Int × Int × (List (UInt8)) × (List (UInt8)) × Unit) => obind (P_tree_Find (y4.1, (y5.1, ()))) (fun (y6 : ((List (UInt8)) × Int × Int × (List (UInt8)) × (List (UInt8)) × Unit) × Bool × Unit) => obind (@idx ((List (UInt8)) × Int × Int × (List (UInt8)) × (List (UInt8)) × Unit) x.1 y2.1.2.2.1) (fun (y7 : (List (UInt8)) × Int × Int × (List (UInt8)) × (List (UInt8)) × Unit) => obind (P_tree_Find (y2.1.2.1, (y7.1, ()))) (fun (y8 : ((List (UInt8)) × Int × Int × (List (UInt8)) × (List (UInt8)) × Unit) × Bool × Unit) => sel (nt y6.2.1)
  (some (Sum.inr ((1 : Nat), ((false, (y2.1.2.1, (y2.1.2.2.1, ()))), ())) : (((Bool × (List ((List (UInt8)) × Int × Int × (List (UInt8)) × (List (UInt8)) × Unit)) × Int × Unit) × Unit)) ⊕ ((Nat × (Bool × (List ((List (UInt8)) × Int × Int × (List (UInt8)) × (List (UInt8)) × Unit)) × Int × Unit) × Unit))))
  (obind (@idx ((List (UInt8)) × Int × Int × (List (UInt8)) × (List (UInt8)) × Unit) x.1 y2.1.2.2.1) (fun (y9 : (List (UInt8)) × Int × Int × (List (UInt8)) × (List (UInt8)) × Unit) => sel (nt (an (eqS y6.1.1 y9.1) (an (eqI y6.1.2.1 y9.2.1) (an (eqI y6.1.2.2.1 y9.2.2.1) (an (eqS y6.1.2.2.2.1 y9.2.2.2.1) (an (eqS y6.1.2.2.2.2.1 y9.2.2.2.2.1) true))))))
  (some (Sum.inr ((1 : Nat), ((false, (y2.1.2.1, (y2.1.2.2.1, ()))), ())) : (((Bool × (List ((List (UInt8)) × Int × Int × (List (UInt8)) × (List (UInt8)) × Unit)) × Int × Unit) × Unit)) ⊕ ((Nat × (Bool × (List ((List (UInt8)) × Int × Int × (List (UInt8)) × (List (UInt8)) × Unit)) × Int × Unit) × Unit))))
  (obind (P_tree_Check (y4.1, ())) (fun (y10 : Int × Unit) => sel (nt (eqI y10.1 (0 : Int)))
  (some (Sum.inr ((1 : Nat), ((false, (y2.1.2.1, (y2.1.2.2.1, ()))), ())) : (((Bool × (List ((List (UInt8)) × Int × Int × (List (UInt8)) × (List (UInt8)) × Unit)) × Int × Unit) × Unit)) ⊕ ((Nat × (Bool × (List ((List (UInt8)) × Int × Int × (List (UInt8)) × (List (UInt8)) × Unit)) × Int × Unit) × Unit))))
  (obind (Loop (P_law14_TreeStays_L1 y2 y4 y6 y8) ((y2.1.1, ((0 : Int), ())), ())) (fun (y11 : Nat × (Bool × Int × Unit) × Unit) => sel (eqN y11.1 (0 : Nat))
  (some (Sum.inl ((y11.2.1.1, (y4.1, (iadd IntKind.i64 y2.1.2.2.1 (1 : Int), ()))), ()) : (((Bool × (List ((List (UInt8)) × Int × Int × (List (UInt8)) × (List (UInt8)) × Unit)) × Int × Unit) × Unit)) ⊕ ((Nat × (Bool × (List ((List (UInt8)) × Int × Int × (List (UInt8)) × (List (UInt8)) × Unit)) × Int × Unit) × Unit))))
  (some (Sum.inr ((1 : Nat), ((y11.2.1.1, (y2.1.2.1, (y2.1.2.2.1, ()))), ())) : (((Bool × (List ((List (UInt8)) × Int × Int × (List (UInt8)) × (List (UInt8)) × Unit)) × Int × Unit) × Unit)) ⊕ ((Nat × (Bool × (List ((List (UInt8)) × Int × Int × (List (UInt8)) × (List (UInt8)) × Unit)) × Int × Unit) × Unit))))))))))))))))))
  (some (Sum.inr ((0 : Nat), ((y2.1.1, (y2.1.2.1, (y2.1.2.2.1, ()))), ())) : (((Bool × (List ((List (UInt8)) × Int × Int × (List (UInt8)) × (List (UInt8)) × Unit)) × Int × Unit) × Unit)) ⊕ ((Nat × (Bool × (List ((List (UInt8)) × Int × Int × (List (UInt8)) × (List (UInt8)) × Unit)) × Int × Unit) × Unit))))

noncomputable def P_law14_TreeStays (x : (List ((List (UInt8)) × Int × Int × (List (UInt8)) × (List (UInt8)) × Unit)) × Unit) : Option (Bool × Unit) :=
  obind (P_ref14_Few (x.1, ((20 : Int), ()))) (fun (y1 : Bool × Unit) => sel (nt y1.1)
  (obind (P_law14_awake ()) (fun (y2 : Bool × Unit) => some (y2.1, ())))
  (obind (Loop (P_law14_TreeStays_L0 x) ((false, (([] : List ((List (UInt8)) × Int × Int × (List (UInt8)) × (List (UInt8)) × Unit)), ((0 : Int), ()))), ())) (fun (y2 : Nat × (Bool × (List ((List (UInt8)) × Int × Int × (List (UInt8)) × (List (UInt8)) × Unit)) × Int × Unit) × Unit) => sel (eqN y2.1 (0 : Nat))
  (obind (P_law14_awake ()) (fun (y3 : Bool × Unit) => some (y3.1, ())))
  (some (y2.2.1.1, ())))))
end Go.Ge
