/- What the functions of layer 14z compute, as plain programs (written by a program from what the ghost interpreter comes to). -/
import Derived.Test.YtnmllijemdpcoaaDoorGpA
import Derived.Test.YtnmllijemdpcoaaDoorGp01
import Derived.Test.YtnmllijemdpcoaaDoorGeI
namespace Go.Ge
set_option linter.unusedVariables false
set_option maxRecDepth 100000

noncomputable def P_slices_Insert_api_TreeNode_api_TreeNode (l : List ((List UInt8) × (Int × (Int × ((List UInt8) × ((List UInt8) × Unit)))))) (x : (Int × ((List ((List UInt8) × (Int × (Int × ((List UInt8) × ((List UInt8) × Unit)))))) × Unit))) : Option (List ((List UInt8) × (Int × (Int × ((List UInt8) × ((List UInt8) × Unit)))))) := insL l x.1 x.2.1

noncomputable def P_ref14_Few_L0 (x : (List ((List (UInt8)) × Int × Int × (List (UInt8)) × (List (UInt8)) × Unit)) × Int × Unit) (y1 : (Bool × Int × Unit) × Unit) : Option (((Bool × Int × Unit) × Unit) ⊕ (Nat × (Bool × Int × Unit) × Unit)) :=
  sel (sel (ltI y1.1.2.1 (@len ((List (UInt8)) × Int × Int × (List (UInt8)) × (List (UInt8)) × Unit) x.1))
  (ltI y1.1.2.1 x.2.1)
  false)
  (obind (@idx ((List (UInt8)) × Int × Int × (List (UInt8)) × (List (UInt8)) × Unit) x.1 y1.1.2.1) (fun (y2 : (List (UInt8)) × Int × Int × (List (UInt8)) × (List (UInt8)) × Unit) => obind (sel (nt (ltI (200 : Int) (@len UInt8 y2.1)))
  (obind (@idx ((List (UInt8)) × Int × Int × (List (UInt8)) × (List (UInt8)) × Unit) x.1 y1.1.2.1) (fun (y3 : (List (UInt8)) × Int × Int × (List (UInt8)) × (List (UInt8)) × Unit) => some (ltI (200 : Int) (@len UInt8 y3.2.2.2.2.1))))
  (some true)) (fun (y3 : Bool) => obind (sel (nt y3)
  (obind (@idx ((List (UInt8)) × Int × Int × (List (UInt8)) × (List (UInt8)) × Unit) x.1 y1.1.2.1) (fun (y4 : (List (UInt8)) × Int × Int × (List (UInt8)) × (List (UInt8)) × Unit) => some (ltI (1024 : Int) (@len UInt8 y4.2.2.2.1))))
  (some true)) (fun (y4 : Bool) => sel y4
  (some (Sum.inr ((1 : Nat), ((false, (y1.1.2.1, ())), ())) : (((Bool × Int × Unit) × Unit)) ⊕ ((Nat × (Bool × Int × Unit) × Unit))))
  (some (Sum.inl ((y1.1.1, (iadd IntKind.i64 y1.1.2.1 (1 : Int), ())), ()) : (((Bool × Int × Unit) × Unit)) ⊕ ((Nat × (Bool × Int × Unit) × Unit))))))))
  (some (Sum.inr ((0 : Nat), ((y1.1.1, (y1.1.2.1, ())), ())) : (((Bool × Int × Unit) × Unit)) ⊕ ((Nat × (Bool × Int × Unit) × Unit))))

noncomputable def P_ref14_Few (x : (List ((List (UInt8)) × Int × Int × (List (UInt8)) × (List (UInt8)) × Unit)) × Int × Unit) : Option (Bool × Unit) :=
  obind (Loop (P_ref14_Few_L0 x) ((false, ((0 : Int), ())), ())) (fun (y1 : Nat × (Bool × Int × Unit) × Unit) => sel (eqN y1.1 (0 : Nat))
  (some (leI (@len ((List (UInt8)) × Int × Int × (List (UInt8)) × (List (UInt8)) × Unit) x.1) x.2.1, ()))
  (some (y1.2.1.1, ())))

noncomputable def P_tree_isPath (x : (List (UInt8)) × Unit) : Option (Bool × Unit) :=
  obind (P_paths_Clean (x.1, ())) (fun (y1 : (List (UInt8)) × Int × Unit) => obind (P_paths_Split (x.1, ())) (fun (y2 : (List (UInt8)) × (List (UInt8)) × Unit) => obind (P_paths_Mark (y2.2.1, ())) (fun (y3 : Int × (List (UInt8)) × Unit) => some (sel (sel (sel (sel (eqI y1.2.1 (0 : Int))
  (eqS y1.1 x.1)
  false)
  (nt (eqS x.1 ([] : List (UInt8))))
  false)
  (sel (leI (@len UInt8 x.1) (92 : Int))
  (leI (@len UInt8 y2.2.1) (28 : Int))
  false)
  false)
  (eqI y3.1 (0 : Int))
  false, ()))))

noncomputable def P_tree_is (x : ((List (UInt8)) × Int × Int × (List (UInt8)) × (List (UInt8)) × Unit) × Unit) : Option (Bool × Unit) :=
  obind (P_tree_isPath (x.1.1, ())) (fun (y1 : Bool × Unit) => sel (sel (nt (sel (nt (nt y1.1))
  (ltI x.1.2.2.1 (0 : Int))
  true))
  (ltI (4095 : Int) x.1.2.2.1)
  true)
  (some (false, ()))
  (sel (eqI x.1.2.1 (1 : Int))
  (some (sel (eqS x.1.2.2.2.2.1 ([] : List (UInt8)))
  (leI (@len UInt8 x.1.2.2.2.1) (8192 : Int))
  false, ()))
  (sel (eqI x.1.2.1 (2 : Int))
  (some (sel (eqS x.1.2.2.2.2.1 ([] : List (UInt8)))
  (eqS x.1.2.2.2.1 ([] : List (UInt8)))
  false, ()))
  (sel (eqI x.1.2.1 (3 : Int))
  (obind (sel (sel (sel (eqS x.1.2.2.2.1 ([] : List (UInt8)))
  (nt (eqS x.1.2.2.2.2.1 ([] : List (UInt8))))
  false)
  (leI (@len UInt8 x.1.2.2.2.2.1) (100 : Int))
  false)
  (obind (P_strings_IndexByte (x.1.2.2.2.2.1, ((0 : Int), ()))) (fun (y2 : Int × Unit) => some (ltI y2.1 (0 : Int))))
  (some false)) (fun (y2 : Bool) => some (y2, ())))
  (some (false, ()))))))

noncomputable def P_tree_place_c1 (x : ((List (UInt8)) × Int × Int × (List (UInt8)) × (List (UInt8)) × Unit) × (List (UInt8)) × Unit) : Option (Int × Unit) :=
  obind (P_paths_Compare (x.1.1, (x.2.1, ()))) (fun (y1 : Int × Unit) => some (y1.1, ()))

noncomputable def P_tree_place_L0 (x : (List ((List (UInt8)) × Int × Int × (List (UInt8)) × (List (UInt8)) × Unit)) × (List (UInt8)) × Unit) (y1 : (Int × Int × Unit) × Unit) : Option (((Int × Int × Unit) × Unit) ⊕ ((Int × Int × Unit) × Unit)) :=
  @way1 ((Int × Int × Unit) × Unit) (sel (ltI y1.1.1 y1.1.2.1)
  (sel (ltI (1 : Int) (0 : Int))
  (none : Option (((Int × Int × Unit) × Unit) ⊕ (Nat × (Int × Int × Unit) × Unit)))
  (obind (@idx ((List (UInt8)) × Int × Int × (List (UInt8)) × (List (UInt8)) × Unit) x.1 (icv IntKind.i64 (ishr IntKind.u64 (icv IntKind.u64 (iadd IntKind.i64 y1.1.1 y1.1.2.1)) (1 : Int)))) (fun (y2 : (List (UInt8)) × Int × Int × (List (UInt8)) × (List (UInt8)) × Unit) => obind (P_tree_place_c1 (y2, (x.2.1, ()))) (fun (y3 : Int × Unit) => some (Sum.inl ((((sel (ltI y3.1 (0 : Int))
  ((iadd IntKind.i64 (icv IntKind.i64 (ishr IntKind.u64 (icv IntKind.u64 (iadd IntKind.i64 y1.1.1 y1.1.2.1)) (1 : Int))) (1 : Int), (y1.1.2.1, ())), ())
  ((y1.1.1, (icv IntKind.i64 (ishr IntKind.u64 (icv IntKind.u64 (iadd IntKind.i64 y1.1.1 y1.1.2.1)) (1 : Int)), ())), ())).1).1, ((((sel (ltI y3.1 (0 : Int))
  ((iadd IntKind.i64 (icv IntKind.i64 (ishr IntKind.u64 (icv IntKind.u64 (iadd IntKind.i64 y1.1.1 y1.1.2.1)) (1 : Int))) (1 : Int), (y1.1.2.1, ())), ())
  ((y1.1.1, (icv IntKind.i64 (ishr IntKind.u64 (icv IntKind.u64 (iadd IntKind.i64 y1.1.1 y1.1.2.1)) (1 : Int)), ())), ())).1).2).1, ())), ()) : (((Int × Int × Unit) × Unit)) ⊕ ((Nat × (Int × Int × Unit) × Unit)))))))
  (some (Sum.inr ((0 : Nat), ((y1.1.1, (y1.1.2.1, ())), ())) : (((Int × Int × Unit) × Unit)) ⊕ ((Nat × (Int × Int × Unit) × Unit)))))

noncomputable def P_tree_place (x : (List ((List (UInt8)) × Int × Int × (List (UInt8)) × (List (UInt8)) × Unit)) × (List (UInt8)) × Unit) : Option (Int × Bool × Unit) :=
  obind (Loop (P_tree_place_L0 x) (((0 : Int), (@len ((List (UInt8)) × Int × Int × (List (UInt8)) × (List (UInt8)) × Unit) x.1, ())), ())) (fun (y1 : (Int × Int × Unit) × Unit) => sel (ltI y1.1.1 (@len ((List (UInt8)) × Int × Int × (List (UInt8)) × (List (UInt8)) × Unit) x.1))
  (obind (@idx ((List (UInt8)) × Int × Int × (List (UInt8)) × (List (UInt8)) × Unit) x.1 y1.1.1) (fun (y2 : (List (UInt8)) × Int × Int × (List (UInt8)) × (List (UInt8)) × Unit) => obind (P_tree_place_c1 (y2, (x.2.1, ()))) (fun (y3 : Int × Unit) => some (y1.1.1, (eqI y3.1 (0 : Int), ())))))
  (some (y1.1.1, (false, ()))))

noncomputable def P_tree_dir (x : (List ((List (UInt8)) × Int × Int × (List (UInt8)) × (List (UInt8)) × Unit)) × (List (UInt8)) × Unit) : Option (Int × Unit) :=
  sel (eqS x.2.1 ([] : List (UInt8)))
  (some ((0 : Int), ()))
  (obind (P_tree_place (x.1, (x.2.1, ()))) (fun (y1 : Int × Bool × Unit) => sel (nt y1.2.1)
  (some ((3 : Int), ()))
  (obind (@idx ((List (UInt8)) × Int × Int × (List (UInt8)) × (List (UInt8)) × Unit) x.1 y1.1) (fun (y2 : (List (UInt8)) × Int × Int × (List (UInt8)) × (List (UInt8)) × Unit) => sel (nt (eqI y2.2.1 (2 : Int)))
  (some ((12 : Int), ()))
  (some ((0 : Int), ()))))))

noncomputable def P_tree_Check_L0 (x : (List ((List (UInt8)) × Int × Int × (List (UInt8)) × (List (UInt8)) × Unit)) × Unit) (y1 : (Int × Int × Unit) × Unit) : Option (((Int × Int × Unit) × Unit) ⊕ (Nat × (Int × Int × Unit) × Unit)) :=
  sel (ltI y1.1.2.1 (@len ((List (UInt8)) × Int × Int × (List (UInt8)) × (List (UInt8)) × Unit) x.1))
  (obind (@idx ((List (UInt8)) × Int × Int × (List (UInt8)) × (List (UInt8)) × Unit) x.1 y1.1.2.1) (fun (y2 : (List (UInt8)) × Int × Int × (List (UInt8)) × (List (UInt8)) × Unit) => obind (P_paths_Split (y2.1, ())) (fun (y3 : (List (UInt8)) × (List (UInt8)) × Unit) => obind (P_tree_is (y2, ())) (fun (y4 : Bool × Unit) => sel (nt y4.1)
  (some (Sum.inr ((1 : Nat), (((1 : Int), (y1.1.2.1, ())), ())) : (((Int × Int × Unit) × Unit)) ⊕ ((Nat × (Int × Int × Unit) × Unit))))
  (sel (ltI (0 : Int) y1.1.2.1)
  (obind (@idx ((List (UInt8)) × Int × Int × (List (UInt8)) × (List (UInt8)) × Unit) x.1 (isub IntKind.i64 y1.1.2.1 (1 : Int))) (fun (y5 : (List (UInt8)) × Int × Int × (List (UInt8)) × (List (UInt8)) × Unit) => obind (P_paths_Compare (y5.1, (y2.1, ()))) (fun (y6 : Int × Unit) => sel (leI (0 : Int) y6.1)
  (some (Sum.inr ((1 : Nat), (((1 : Int), (y1.1.2.1, ())), ())) : (((Int × Int × Unit) × Unit)) ⊕ ((Nat × (Int × Int × Unit) × Unit))))
  (sel (inside (0 : Int) y1.1.2.1 (@len ((List (UInt8)) × Int × Int × (List (UInt8)) × (List (UInt8)) × Unit) x.1))
  (obind (P_tree_dir (@sub ((List (UInt8)) × Int × Int × (List (UInt8)) × (List (UInt8)) × Unit) x.1 (0 : Int) (minus y1.1.2.1 (0 : Int)), (y3.1, ()))) (fun (y7 : Int × Unit) => sel (nt (eqI y7.1 (0 : Int)))
  (some (Sum.inr ((1 : Nat), (((1 : Int), (y1.1.2.1, ())), ())) : (((Int × Int × Unit) × Unit)) ⊕ ((Nat × (Int × Int × Unit) × Unit))))
  (some (Sum.inl ((y1.1.1, (iadd IntKind.i64 y1.1.2.1 (1 : Int), ())), ()) : (((Int × Int × Unit) × Unit)) ⊕ ((Nat × (Int × Int × Unit) × Unit))))))
  (none : Option (((Int × Int × Unit) × Unit) ⊕ (Nat × (Int × Int × Unit) × Unit)))))))
  (sel (inside (0 : Int) y1.1.2.1 (@len ((List (UInt8)) × Int × Int × (List (UInt8)) × (List (UInt8)) × Unit) x.1))
  (obind (P_tree_dir (@sub ((List (UInt8)) × Int × Int × (List (UInt8)) × (List (UInt8)) × Unit) x.1 (0 : Int) (minus y1.1.2.1 (0 : Int)), (y3.1, ()))) (fun (y5 : Int × Unit) => sel (nt (eqI y5.1 (0 : Int)))
  (some (Sum.inr ((1 : Nat), (((1 : Int), (y1.1.2.1, ())), ())) : (((Int × Int × Unit) × Unit)) ⊕ ((Nat × (Int × Int × Unit) × Unit))))
  (some (Sum.inl ((y1.1.1, (iadd IntKind.i64 y1.1.2.1 (1 : Int), ())), ()) : (((Int × Int × Unit) × Unit)) ⊕ ((Nat × (Int × Int × Unit) × Unit))))))
  (none : Option (((Int × Int × Unit) × Unit) ⊕ (Nat × (Int × Int × Unit) × Unit)))))))))
  (some (Sum.inr ((0 : Nat), ((y1.1.1, (y1.1.2.1, ())), ())) : (((Int × Int × Unit) × Unit)) ⊕ ((Nat × (Int × Int × Unit) × Unit))))

noncomputable def P_tree_Check (x : (List ((List (UInt8)) × Int × Int × (List (UInt8)) × (List (UInt8)) × Unit)) × Unit) : Option (Int × Unit) :=
  sel (ltI (64 : Int) (@len ((List (UInt8)) × Int × Int × (List (UInt8)) × (List (UInt8)) × Unit) x.1))
  (some ((1 : Int), ()))
  (obind (Loop (P_tree_Check_L0 x) (((0 : Int), ((0 : Int), ())), ())) (fun (y1 : Nat × (Int × Int × Unit) × Unit) => sel (eqN y1.1 (0 : Nat))
  (some ((0 : Int), ()))
  (some (y1.2.1.1, ()))))

noncomputable def P_slices_Clone_api_TreeNode_api_TreeNode (x : (List ((List (UInt8)) × Int × Int × (List (UInt8)) × (List (UInt8)) × Unit)) × Unit) : Option ((List ((List (UInt8)) × Int × Int × (List (UInt8)) × (List (UInt8)) × Unit)) × Unit) :=
  bif fits (len x.1) then some (x.1, ()) else none

noncomputable def P_tree_Put_L0 (x : (List ((List (UInt8)) × Int × Int × (List (UInt8)) × (List (UInt8)) × Unit)) × ((List (UInt8)) × Int × Int × (List (UInt8)) × (List (UInt8)) × Unit) × Unit) (y8 : (Int × Int × Unit) × Unit × Unit) : Option (((Int × Int × Unit) × Unit × Unit) ⊕ (Nat × (Int × Int × Unit) × Unit × Unit)) :=
  sel (ltI y8.1.2.1 (@len ((List (UInt8)) × Int × Int × (List (UInt8)) × (List (UInt8)) × Unit) x.1))
  (sel (within y8.1.2.1 (@len ((List (UInt8)) × Int × Int × (List (UInt8)) × (List (UInt8)) × Unit) x.1))
  (obind (@idx ((List (UInt8)) × Int × Int × (List (UInt8)) × (List (UInt8)) × Unit) x.1 y8.1.2.1) (fun (y9 : (List (UInt8)) × Int × Int × (List (UInt8)) × (List (UInt8)) × Unit) => obind (sel (nt (eqS y9.1 x.2.1.1))
  (obind (P_paths_Under (y9.1, (x.2.1.1, ()))) (fun (y10 : Bool × Unit) => some y10.1))
  (some true)) (fun (y10 : Bool) => sel y10
  (some (Sum.inr ((1 : Nat), ((y8.1.2.1, (y8.1.2.1, ())), ((), ()))) : (((Int × Int × Unit) × Unit × Unit)) ⊕ ((Nat × (Int × Int × Unit) × Unit × Unit))))
  (some (Sum.inl ((y8.1.1, (iadd IntKind.i64 y8.1.2.1 (1 : Int), ())), ((), ())) : (((Int × Int × Unit) × Unit × Unit)) ⊕ ((Nat × (Int × Int × Unit) × Unit × Unit)))))))
  (none : Option (((Int × Int × Unit) × Unit × Unit) ⊕ (Nat × (Int × Int × Unit) × Unit × Unit))))
  (some (Sum.inr ((0 : Nat), ((y8.1.1, (y8.1.2.1, ())), ((), ()))) : (((Int × Int × Unit) × Unit × Unit)) ⊕ ((Nat × (Int × Int × Unit) × Unit × Unit))))

noncomputable def P_tree_Put_L1 (x : (List ((List (UInt8)) × Int × Int × (List (UInt8)) × (List (UInt8)) × Unit)) × ((List (UInt8)) × Int × Int × (List (UInt8)) × (List (UInt8)) × Unit) × Unit) (y9 : (Int × Int × Unit × Unit) × Unit × (List ((List (UInt8)) × Int × Int × (List (UInt8)) × (List (UInt8)) × Unit)) × Unit) : Option (((Int × Int × Unit × Unit) × Unit × (List ((List (UInt8)) × Int × Int × (List (UInt8)) × (List (UInt8)) × Unit)) × Unit) ⊕ ((Int × Int × Unit × Unit) × Unit × (List ((List (UInt8)) × Int × Int × (List (UInt8)) × (List (UInt8)) × Unit)) × Unit)) :=
  @way1 ((Int × Int × Unit × Unit) × Unit × (List ((List (UInt8)) × Int × Int × (List (UInt8)) × (List (UInt8)) × Unit)) × Unit) (sel (ltI y9.1.2.1 (@len ((List (UInt8)) × Int × Int × (List (UInt8)) × (List (UInt8)) × Unit) y9.2.2.1))
  (sel (within y9.1.2.1 (@len ((List (UInt8)) × Int × Int × (List (UInt8)) × (List (UInt8)) × Unit) y9.2.2.1))
  (obind (@idx ((List (UInt8)) × Int × Int × (List (UInt8)) × (List (UInt8)) × Unit) y9.2.2.1 y9.1.2.1) (fun (y10 : (List (UInt8)) × Int × Int × (List (UInt8)) × (List (UInt8)) × Unit) => obind (sel (nt (eqS y10.1 x.2.1.1))
  (obind (P_paths_Under (y10.1, (x.2.1.1, ()))) (fun (y11 : Bool × Unit) => some y11.1))
  (some true)) (fun (y11 : Bool) => obind (sel (nt y11)
  (sel (within y9.1.1 (@len ((List (UInt8)) × Int × Int × (List (UInt8)) × (List (UInt8)) × Unit) y9.2.2.1))
  (obind (@idx ((List (UInt8)) × Int × Int × (List (UInt8)) × (List (UInt8)) × Unit) y9.2.2.1 y9.1.1) (fun (y12 : (List (UInt8)) × Int × Int × (List (UInt8)) × (List (UInt8)) × Unit) => obind (@idx ((List (UInt8)) × Int × Int × (List (UInt8)) × (List (UInt8)) × Unit) y9.2.2.1 y9.1.1) (fun (y13 : (List (UInt8)) × Int × Int × (List (UInt8)) × (List (UInt8)) × Unit) => obind (@idx ((List (UInt8)) × Int × Int × (List (UInt8)) × (List (UInt8)) × Unit) y9.2.2.1 y9.1.1) (fun (y14 : (List (UInt8)) × Int × Int × (List (UInt8)) × (List (UInt8)) × Unit) => some ((iadd IntKind.i64 y9.1.1 (1 : Int), ((), ())), (@lset ((List (UInt8)) × Int × Int × (List (UInt8)) × (List (UInt8)) × Unit) y9.2.2.1 y9.1.1 y10, ()))))))
  (none : Option ((Int × Unit × Unit) × (List ((List (UInt8)) × Int × Int × (List (UInt8)) × (List (UInt8)) × Unit)) × Unit)))
  (some ((y9.1.1, ((), ())), (y9.2.2.1, ())))) (fun (y12 : (Int × Unit × Unit) × (List ((List (UInt8)) × Int × Int × (List (UInt8)) × (List (UInt8)) × Unit)) × Unit) => some (Sum.inl ((y12.1.1, (iadd IntKind.i64 y9.1.2.1 (1 : Int), ((), ()))), ((), (y12.2.1, ()))) : (((Int × Int × Unit × Unit) × Unit × (List ((List (UInt8)) × Int × Int × (List (UInt8)) × (List (UInt8)) × Unit)) × Unit)) ⊕ ((Nat × (Int × Int × Unit × Unit) × Unit × (List ((List (UInt8)) × Int × Int × (List (UInt8)) × (List (UInt8)) × Unit)) × Unit)))))))
  (none : Option (((Int × Int × Unit × Unit) × Unit × (List ((List (UInt8)) × Int × Int × (List (UInt8)) × (List (UInt8)) × Unit)) × Unit) ⊕ (Nat × (Int × Int × Unit × Unit) × Unit × (List ((List (UInt8)) × Int × Int × (List (UInt8)) × (List (UInt8)) × Unit)) × Unit))))
  (some (Sum.inr ((0 : Nat), ((y9.1.1, (y9.1.2.1, ((), ()))), ((), (y9.2.2.1, ())))) : (((Int × Int × Unit × Unit) × Unit × (List ((List (UInt8)) × Int × Int × (List (UInt8)) × (List (UInt8)) × Unit)) × Unit)) ⊕ ((Nat × (Int × Int × Unit × Unit) × Unit × (List ((List (UInt8)) × Int × Int × (List (UInt8)) × (List (UInt8)) × Unit)) × Unit)))))

noncomputable def P_tree_Put_L2 (x : (List ((List (UInt8)) × Int × Int × (List (UInt8)) × (List (UInt8)) × Unit)) × ((List (UInt8)) × Int × Int × (List (UInt8)) × (List (UInt8)) × Unit) × Unit) (y9 : (Int × Int × Unit × Unit) × Unit × (List ((List (UInt8)) × Int × Int × (List (UInt8)) × (List (UInt8)) × Unit)) × Unit) : Option (((Int × Int × Unit × Unit) × Unit × (List ((List (UInt8)) × Int × Int × (List (UInt8)) × (List (UInt8)) × Unit)) × Unit) ⊕ ((Int × Int × Unit × Unit) × Unit × (List ((List (UInt8)) × Int × Int × (List (UInt8)) × (List (UInt8)) × Unit)) × Unit)) :=
  @way1 ((Int × Int × Unit × Unit) × Unit × (List ((List (UInt8)) × Int × Int × (List (UInt8)) × (List (UInt8)) × Unit)) × Unit) (sel (ltI y9.1.2.1 (@len ((List (UInt8)) × Int × Int × (List (UInt8)) × (List (UInt8)) × Unit) y9.2.2.1))
  (sel (within y9.1.2.1 (@len ((List (UInt8)) × Int × Int × (List (UInt8)) × (List (UInt8)) × Unit) y9.2.2.1))
  (obind (@idx ((List (UInt8)) × Int × Int × (List (UInt8)) × (List (UInt8)) × Unit) y9.2.2.1 y9.1.2.1) (fun (y10 : (List (UInt8)) × Int × Int × (List (UInt8)) × (List (UInt8)) × Unit) => obind (sel (nt (eqS y10.1 x.2.1.1))
  (obind (P_paths_Under (y10.1, (x.2.1.1, ()))) (fun (y11 : Bool × Unit) => some y11.1))
  (some true)) (fun (y11 : Bool) => obind (sel (nt y11)
  (sel (within y9.1.1 (@len ((List (UInt8)) × Int × Int × (List (UInt8)) × (List (UInt8)) × Unit) y9.2.2.1))
  (obind (@idx ((List (UInt8)) × Int × Int × (List (UInt8)) × (List (UInt8)) × Unit) y9.2.2.1 y9.1.1) (fun (y12 : (List (UInt8)) × Int × Int × (List (UInt8)) × (List (UInt8)) × Unit) => obind (@idx ((List (UInt8)) × Int × Int × (List (UInt8)) × (List (UInt8)) × Unit) y9.2.2.1 y9.1.1) (fun (y13 : (List (UInt8)) × Int × Int × (List (UInt8)) × (List (UInt8)) × Unit) => obind (@idx ((List (UInt8)) × Int × Int × (List (UInt8)) × (List (UInt8)) × Unit) y9.2.2.1 y9.1.1) (fun (y14 : (List (UInt8)) × Int × Int × (List (UInt8)) × (List (UInt8)) × Unit) => some ((iadd IntKind.i64 y9.1.1 (1 : Int), ((), ())), (@lset ((List (UInt8)) × Int × Int × (List (UInt8)) × (List (UInt8)) × Unit) y9.2.2.1 y9.1.1 y10, ()))))))
  (none : Option ((Int × Unit × Unit) × (List ((List (UInt8)) × Int × Int × (List (UInt8)) × (List (UInt8)) × Unit)) × Unit)))
  (some ((y9.1.1, ((), ())), (y9.2.2.1, ())))) (fun (y12 : (Int × Unit × Unit) × (List ((List (UInt8)) × Int × Int × (List (UInt8)) × (List (UInt8)) × Unit)) × Unit) => some (Sum.inl ((y12.1.1, (iadd IntKind.i64 y9.1.2.1 (1 : Int), ((), ()))), ((), (y12.2.1, ()))) : (((Int × Int × Unit × Unit) × Unit × (List ((List (UInt8)) × Int × Int × (List (UInt8)) × (List (UInt8)) × Unit)) × Unit)) ⊕ ((Nat × (Int × Int × Unit × Unit) × Unit × (List ((List (UInt8)) × Int × Int × (List (UInt8)) × (List (UInt8)) × Unit)) × Unit)))))))
  (none : Option (((Int × Int × Unit × Unit) × Unit × (List ((List (UInt8)) × Int × Int × (List (UInt8)) × (List (UInt8)) × Unit)) × Unit) ⊕ (Nat × (Int × Int × Unit × Unit) × Unit × (List ((List (UInt8)) × Int × Int × (List (UInt8)) × (List (UInt8)) × Unit)) × Unit))))
  (some (Sum.inr ((0 : Nat), ((y9.1.1, (y9.1.2.1, ((), ()))), ((), (y9.2.2.1, ())))) : (((Int × Int × Unit × Unit) × Unit × (List ((List (UInt8)) × Int × Int × (List (UInt8)) × (List (UInt8)) × Unit)) × Unit)) ⊕ ((Nat × (Int × Int × Unit × Unit) × Unit × (List ((List (UInt8)) × Int × Int × (List (UInt8)) × (List (UInt8)) × Unit)) × Unit)))))

noncomputable def P_tree_Put (x : (List ((List (UInt8)) × Int × Int × (List (UInt8)) × (List (UInt8)) × Unit)) × ((List (UInt8)) × Int × Int × (List (UInt8)) × (List (UInt8)) × Unit) × Unit) : Option ((List ((List (UInt8)) × Int × Int × (List (UInt8)) × (List (UInt8)) × Unit)) × Int × Unit) :=
  obind (P_tree_Check (x.1, ())) (fun (y1 : Int × Unit) => obind (sel (nt (nt (eqI y1.1 (0 : Int))))
  (obind (P_tree_is (x.2.1, ())) (fun (y2 : Bool × Unit) => some (nt y2.1)))
  (some true)) (fun (y2 : Bool) => sel y2
  (some (([] : List ((List (UInt8)) × Int × Int × (List (UInt8)) × (List (UInt8)) × Unit)), ((1 : Int), ())))
  (obind (P_paths_Split (x.2.1.1, ())) (fun (y3 : (List (UInt8)) × (List (UInt8)) × Unit) => obind (P_tree_dir (x.1, (y3.1, ()))) (fun (y4 : Int × Unit) => sel (nt (eqI y4.1 (0 : Int)))
  (some (([] : List ((List (UInt8)) × Int × Int × (List (UInt8)) × (List (UInt8)) × Unit)), (y4.1, ())))
  (obind (P_tree_place (x.1, (x.2.1.1, ()))) (fun (y5 : Int × Bool × Unit) => obind (sel y5.2.1
  (obind (@idx ((List (UInt8)) × Int × Int × (List (UInt8)) × (List (UInt8)) × Unit) x.1 y5.1) (fun (y6 : (List (UInt8)) × Int × Int × (List (UInt8)) × (List (UInt8)) × Unit) => some (eqI y6.2.1 (2 : Int))))
  (some false)) (fun (y6 : Bool) => sel (sel y6
  (eqI x.2.1.2.1 (2 : Int))
  false)
  (sel (fits (@len ((List (UInt8)) × Int × Int × (List (UInt8)) × (List (UInt8)) × Unit) x.1))
  (sel (within y5.1 (@len ((List (UInt8)) × Int × Int × (List (UInt8)) × (List (UInt8)) × Unit) x.1))
  (obind (@idx ((List (UInt8)) × Int × Int × (List (UInt8)) × (List (UInt8)) × Unit) x.1 y5.1) (fun (y7 : (List (UInt8)) × Int × Int × (List (UInt8)) × (List (UInt8)) × Unit) => obind (@idx ((List (UInt8)) × Int × Int × (List (UInt8)) × (List (UInt8)) × Unit) x.1 y5.1) (fun (y8 : (List (UInt8)) × Int × Int × (List (UInt8)) × (List (UInt8)) × Unit) => obind (@idx ((List (UInt8)) × Int × Int × (List (UInt8)) × (List (UInt8)) × Unit) x.1 y5.1) (fun (y9 : (List (UInt8)) × Int × Int × (List (UInt8)) × (List (UInt8)) × Unit) => some (@lset ((List (UInt8)) × Int × Int × (List (UInt8)) × (List (UInt8)) × Unit) x.1 y5.1 x.2.1, ((0 : Int), ()))))))
  (none : Option ((List ((List (UInt8)) × Int × Int × (List (UInt8)) × (List (UInt8)) × Unit)) × Int × Unit)))
  (none : Option ((List ((List (UInt8)) × Int × Int × (List (UInt8)) × (List (UInt8)) × Unit)) × Int × Unit)))
  (obind (P_tree_Check (x.1, ())) (fun (y7 : Int × Unit) => sel (nt (eqI y7.1 (0 : Int)))
  (sel (leI (64 : Int) (@len ((List (UInt8)) × Int × Int × (List (UInt8)) × (List (UInt8)) × Unit) ([] : List ((List (UInt8)) × Int × Int × (List (UInt8)) × (List (UInt8)) × Unit))))
  (some (([] : List ((List (UInt8)) × Int × Int × (List (UInt8)) × (List (UInt8)) × Unit)), ((5 : Int), ())))
  (obind (P_tree_place (([] : List ((List (UInt8)) × Int × Int × (List (UInt8)) × (List (UInt8)) × Unit)), (x.2.1.1, ()))) (fun (y8 : Int × Bool × Unit) => (none : Option ((List ((List (UInt8)) × Int × Int × (List (UInt8)) × (List (UInt8)) × Unit)) × Int × Unit)))))
  (sel (fits (@len ((List (UInt8)) × Int × Int × (List (UInt8)) × (List (UInt8)) × Unit) x.1))
  (obind (Loop (P_tree_Put_L0 x) (((0 : Int), ((0 : Int), ())), ((), ()))) (fun (y8 : Nat × (Int × Int × Unit) × Unit × Unit) => sel (eqN y8.1 (0 : Nat))
  (sel (eqI (-1 : Int) (-1 : Int))
  (sel (leI (64 : Int) (@len ((List (UInt8)) × Int × Int × (List (UInt8)) × (List (UInt8)) × Unit) x.1))
  (some (([] : List ((List (UInt8)) × Int × Int × (List (UInt8)) × (List (UInt8)) × Unit)), ((5 : Int), ())))
  (obind (P_tree_place (x.1, (x.2.1.1, ()))) (fun (y9 : Int × Bool × Unit) => obind (P_slices_Insert_api_TreeNode_api_TreeNode x.1 (y9.1, (([x.2.1] : List ((List (UInt8)) × Int × Int × (List (UInt8)) × (List (UInt8)) × Unit)), ()))) (fun (y10 : List ((List (UInt8)) × Int × Int × (List (UInt8)) × (List (UInt8)) × Unit)) => some (y10, ((0 : Int), ()))))))
  (obind (Loop (P_tree_Put_L1 x) (((-1 : Int), (iadd IntKind.i64 (-1 : Int) (1 : Int), ((), ()))), ((), (x.1, ())))) (fun (y9 : (Int × Int × Unit × Unit) × Unit × (List ((List (UInt8)) × Int × Int × (List (UInt8)) × (List (UInt8)) × Unit)) × Unit) => sel (inside y9.1.1 (@len ((List (UInt8)) × Int × Int × (List (UInt8)) × (List (UInt8)) × Unit) y9.2.2.1) (@len ((List (UInt8)) × Int × Int × (List (UInt8)) × (List (UInt8)) × Unit) y9.2.2.1))
  (sel (inside (0 : Int) y9.1.1 (@len ((List (UInt8)) × Int × Int × (List (UInt8)) × (List (UInt8)) × Unit) (@over ((List (UInt8)) × Int × Int × (List (UInt8)) × (List (UInt8)) × Unit) y9.2.2.1 y9.1.1 (@lrep ((List (UInt8)) × Int × Int × (List (UInt8)) × (List (UInt8)) × Unit) (minus (@len ((List (UInt8)) × Int × Int × (List (UInt8)) × (List (UInt8)) × Unit) y9.2.2.1) y9.1.1) (([] : List (UInt8)), ((0 : Int), ((0 : Int), (([] : List (UInt8)), (([] : List (UInt8)), ())))))))))
  (sel (leI (64 : Int) (minus y9.1.1 (0 : Int)))
  (some (([] : List ((List (UInt8)) × Int × Int × (List (UInt8)) × (List (UInt8)) × Unit)), ((5 : Int), ())))
  (obind (P_tree_place (@sub ((List (UInt8)) × Int × Int × (List (UInt8)) × (List (UInt8)) × Unit) (@over ((List (UInt8)) × Int × Int × (List (UInt8)) × (List (UInt8)) × Unit) y9.2.2.1 y9.1.1 (@lrep ((List (UInt8)) × Int × Int × (List (UInt8)) × (List (UInt8)) × Unit) (minus (@len ((List (UInt8)) × Int × Int × (List (UInt8)) × (List (UInt8)) × Unit) y9.2.2.1) y9.1.1) (([] : List (UInt8)), ((0 : Int), ((0 : Int), (([] : List (UInt8)), (([] : List (UInt8)), ()))))))) (0 : Int) (minus y9.1.1 (0 : Int)), (x.2.1.1, ()))) (fun (y10 : Int × Bool × Unit) => obind (P_slices_Insert_api_TreeNode_api_TreeNode (@sub ((List (UInt8)) × Int × Int × (List (UInt8)) × (List (UInt8)) × Unit) (@over ((List (UInt8)) × Int × Int × (List (UInt8)) × (List (UInt8)) × Unit) y9.2.2.1 y9.1.1 (@lrep ((List (UInt8)) × Int × Int × (List (UInt8)) × (List (UInt8)) × Unit) (minus (@len ((List (UInt8)) × Int × Int × (List (UInt8)) × (List (UInt8)) × Unit) y9.2.2.1) y9.1.1) (([] : List (UInt8)), ((0 : Int), ((0 : Int), (([] : List (UInt8)), (([] : List (UInt8)), ()))))))) (0 : Int) (minus y9.1.1 (0 : Int))) (y10.1, (([x.2.1] : List ((List (UInt8)) × Int × Int × (List (UInt8)) × (List (UInt8)) × Unit)), ()))) (fun (y11 : List ((List (UInt8)) × Int × Int × (List (UInt8)) × (List (UInt8)) × Unit)) => some (y11, ((0 : Int), ()))))))
  (none : Option ((List ((List (UInt8)) × Int × Int × (List (UInt8)) × (List (UInt8)) × Unit)) × Int × Unit)))
  (none : Option ((List ((List (UInt8)) × Int × Int × (List (UInt8)) × (List (UInt8)) × Unit)) × Int × Unit)))))
  (sel (eqI y8.2.1.1 (-1 : Int))
  (sel (leI (64 : Int) (@len ((List (UInt8)) × Int × Int × (List (UInt8)) × (List (UInt8)) × Unit) x.1))
  (some (([] : List ((List (UInt8)) × Int × Int × (List (UInt8)) × (List (UInt8)) × Unit)), ((5 : Int), ())))
  (obind (P_tree_place (x.1, (x.2.1.1, ()))) (fun (y9 : Int × Bool × Unit) => obind (P_slices_Insert_api_TreeNode_api_TreeNode x.1 (y9.1, (([x.2.1] : List ((List (UInt8)) × Int × Int × (List (UInt8)) × (List (UInt8)) × Unit)), ()))) (fun (y10 : List ((List (UInt8)) × Int × Int × (List (UInt8)) × (List (UInt8)) × Unit)) => some (y10, ((0 : Int), ()))))))
  (obind (Loop (P_tree_Put_L2 x) ((y8.2.1.1, (iadd IntKind.i64 y8.2.1.1 (1 : Int), ((), ()))), ((), (x.1, ())))) (fun (y9 : (Int × Int × Unit × Unit) × Unit × (List ((List (UInt8)) × Int × Int × (List (UInt8)) × (List (UInt8)) × Unit)) × Unit) => sel (inside y9.1.1 (@len ((List (UInt8)) × Int × Int × (List (UInt8)) × (List (UInt8)) × Unit) y9.2.2.1) (@len ((List (UInt8)) × Int × Int × (List (UInt8)) × (List (UInt8)) × Unit) y9.2.2.1))
  (sel (inside (0 : Int) y9.1.1 (@len ((List (UInt8)) × Int × Int × (List (UInt8)) × (List (UInt8)) × Unit) (@over ((List (UInt8)) × Int × Int × (List (UInt8)) × (List (UInt8)) × Unit) y9.2.2.1 y9.1.1 (@lrep ((List (UInt8)) × Int × Int × (List (UInt8)) × (List (UInt8)) × Unit) (minus (@len ((List (UInt8)) × Int × Int × (List (UInt8)) × (List (UInt8)) × Unit) y9.2.2.1) y9.1.1) (([] : List (UInt8)), ((0 : Int), ((0 : Int), (([] : List (UInt8)), (([] : List (UInt8)), ())))))))))
  (sel (leI (64 : Int) (minus y9.1.1 (0 : Int)))
  (some (([] : List ((List (UInt8)) × Int × Int × (List (UInt8)) × (List (UInt8)) × Unit)), ((5 : Int), ())))
  (obind (P_tree_place (@sub ((List (UInt8)) × Int × Int × (List (UInt8)) × (List (UInt8)) × Unit) (@over ((List (UInt8)) × Int × Int × (List (UInt8)) × (List (UInt8)) × Unit) y9.2.2.1 y9.1.1 (@lrep ((List (UInt8)) × Int × Int × (List (UInt8)) × (List (UInt8)) × Unit) (minus (@len ((List (UInt8)) × Int × Int × (List (UInt8)) × (List (UInt8)) × Unit) y9.2.2.1) y9.1.1) (([] : List (UInt8)), ((0 : Int), ((0 : Int), (([] : List (UInt8)), (([] : List (UInt8)), ()))))))) (0 : Int) (minus y9.1.1 (0 : Int)), (x.2.1.1, ()))) (fun (y10 : Int × Bool × Unit) => obind (P_slices_Insert_api_TreeNode_api_TreeNode (@sub ((List (UInt8)) × Int × Int × (List (UInt8)) × (List (UInt8)) × Unit) (@over ((List (UInt8)) × Int × Int × (List (UInt8)) × (List (UInt8)) × Unit) y9.2.2.1 y9.1.1 (@lrep ((List (UInt8)) × Int × Int × (List (UInt8)) × (List (UInt8)) × Unit) (minus (@len ((List (UInt8)) × Int × Int × (List (UInt8)) × (List (UInt8)) × Unit) y9.2.2.1) y9.1.1) (([] : List (UInt8)), ((0 : Int), ((0 : Int), (([] : List (UInt8)), (([] : List (UInt8)), ()))))))) (0 : Int) (minus y9.1.1 (0 : Int))) (y10.1, (([x.2.1] : List ((List (UInt8)) × Int × Int × (List (UInt8)) × (List (UInt8)) × Unit)), ()))) (fun (y11 : List ((List (UInt8)) × Int × Int × (List (UInt8)) × (List (UInt8)) × Unit)) => some (y11, ((0 : Int), ()))))))
  (none : Option ((List ((List (UInt8)) × Int × Int × (List (UInt8)) × (List (UInt8)) × Unit)) × Int × Unit)))
  (none : Option ((List ((List (UInt8)) × Int × Int × (List (UInt8)) × (List (UInt8)) × Unit)) × Int × Unit)))))))
  (none : Option ((List ((List (UInt8)) × Int × Int × (List (UInt8)) × (List (UInt8)) × Unit)) × Int × Unit)))))))))))))

noncomputable def P_ref14_Same_L0 (x : (List ((List (UInt8)) × Int × Int × (List (UInt8)) × (List (UInt8)) × Unit)) × (List ((List (UInt8)) × Int × Int × (List (UInt8)) × (List (UInt8)) × Unit)) × Unit) (y1 : (Bool × Int × Unit) × Unit) : Option (((Bool × Int × Unit) × Unit) ⊕ (Nat × (Bool × Int × Unit) × Unit)) :=
  sel (sel (ltI y1.1.2.1 (@len ((List (UInt8)) × Int × Int × (List (UInt8)) × (List (UInt8)) × Unit) x.1))
  (ltI y1.1.2.1 (@len ((List (UInt8)) × Int × Int × (List (UInt8)) × (List (UInt8)) × Unit) x.2.1))
  false)
  (obind (@idx ((List (UInt8)) × Int × Int × (List (UInt8)) × (List (UInt8)) × Unit) x.1 y1.1.2.1) (fun (y2 : (List (UInt8)) × Int × Int × (List (UInt8)) × (List (UInt8)) × Unit) => obind (@idx ((List (UInt8)) × Int × Int × (List (UInt8)) × (List (UInt8)) × Unit) x.2.1 y1.1.2.1) (fun (y3 : (List (UInt8)) × Int × Int × (List (UInt8)) × (List (UInt8)) × Unit) => sel (nt (an (eqS y2.1 y3.1) (an (eqI y2.2.1 y3.2.1) (an (eqI y2.2.2.1 y3.2.2.1) (an (eqS y2.2.2.2.1 y3.2.2.2.1) (an (eqS y2.2.2.2.2.1 y3.2.2.2.2.1) true))))))
  (some (Sum.inr ((1 : Nat), ((false, (y1.1.2.1, ())), ())) : (((Bool × Int × Unit) × Unit)) ⊕ ((Nat × (Bool × Int × Unit) × Unit))))
  (some (Sum.inl ((y1.1.1, (iadd IntKind.i64 y1.1.2.1 (1 : Int), ())), ()) : (((Bool × Int × Unit) × Unit)) ⊕ ((Nat × (Bool × Int × Unit) × Unit)))))))
  (some (Sum.inr ((0 : Nat), ((y1.1.1, (y1.1.2.1, ())), ())) : (((Bool × Int × Unit) × Unit)) ⊕ ((Nat × (Bool × Int × Unit) × Unit))))

noncomputable def P_ref14_Same (x : (List ((List (UInt8)) × Int × Int × (List (UInt8)) × (List (UInt8)) × Unit)) × (List ((List (UInt8)) × Int × Int × (List (UInt8)) × (List (UInt8)) × Unit)) × Unit) : Option (Bool × Unit) :=
  sel (nt (eqI (@len ((List (UInt8)) × Int × Int × (List (UInt8)) × (List (UInt8)) × Unit) x.1) (@len ((List (UInt8)) × Int × Int × (List (UInt8)) × (List (UInt8)) × Unit) x.2.1)))
  (some (false, ()))
  (obind (Loop (P_ref14_Same_L0 x) ((false, ((0 : Int), ())), ())) (fun (y1 : Nat × (Bool × Int × Unit) × Unit) => sel (eqN y1.1 (0 : Nat))
  (some (true, ()))
  (some (y1.2.1.1, ()))))

noncomputable def P_tree_line (x : (List (List (UInt8))) × Unit) : Option ((List (UInt8)) × Unit) :=
  obind (P_strings_Join (x.1, (([(32 : UInt8)] : List (UInt8)), ()))) (fun (y1 : (List (UInt8)) × Unit) => sel (fits (plus (@len UInt8 y1.1) (@len UInt8 ([(10 : UInt8)] : List (UInt8)))))
  (some (@app UInt8 y1.1 ([(10 : UInt8)] : List (UInt8)), ()))
  (none : Option ((List (UInt8)) × Unit)))

noncomputable def P_tree_Text_L0 (x : (List ((List (UInt8)) × Int × Int × (List (UInt8)) × (List (UInt8)) × Unit)) × Unit) (y2 : (Int × Unit) × (Unit × Unit × Unit) × (List (Int)) × Unit) : Option (((Int × Unit) × (Unit × Unit × Unit) × (List (Int)) × Unit) ⊕ ((Int × Unit) × (Unit × Unit × Unit) × (List (Int)) × Unit)) :=
  @way1 ((Int × Unit) × (Unit × Unit × Unit) × (List (Int)) × Unit) (sel (ltI y2.1.1 (@len ((List (UInt8)) × Int × Int × (List (UInt8)) × (List (UInt8)) × Unit) x.1))
  (obind (@idx ((List (UInt8)) × Int × Int × (List (UInt8)) × (List (UInt8)) × Unit) x.1 y2.1.1) (fun (y3 : (List (UInt8)) × Int × Int × (List (UInt8)) × (List (UInt8)) × Unit) => obind (P_digits_Octal (y3.2.2.1, ((4 : Int), ()))) (fun (y4 : (List (UInt8)) × Bool × Unit) => obind (P_digits_Hex (y3.1, ())) (fun (y5 : (List (UInt8)) × Unit) => obind (sel (eqI y3.2.1 (1 : Int))
  (obind (P_digest_Of (y3.2.2.2.1, ())) (fun (y6 : (List (UInt8)) × Unit) => obind (P_tree_line (([([(102 : UInt8)] : List (UInt8)), y4.1, y5.1, y6.1] : List (List (UInt8))), ())) (fun (y7 : (List (UInt8)) × Unit) => sel (fits (plus (@len Int y2.2.2.1) (@len Int (bytesInts y7.1))))
  (some ((), (((), ((), y2.2.1.2.2)), (@app Int y2.2.2.1 (bytesInts y7.1), ()))))
  (none : Option (Unit × (Unit × Unit × Unit) × (List (Int)) × Unit)))))
  (obind (sel (eqI y3.2.1 (2 : Int))
  (obind (P_tree_line (([([(100 : UInt8)] : List (UInt8)), y4.1, y5.1] : List (List (UInt8))), ())) (fun (y6 : (List (UInt8)) × Unit) => sel (fits (plus (@len Int y2.2.2.1) (@len Int (bytesInts y6.1))))
  (some ((), (((), ((), y2.2.1.2.2)), (@app Int y2.2.2.1 (bytesInts y6.1), ()))))
  (none : Option (Unit × (Unit × Unit × Unit) × (List (Int)) × Unit))))
  (obind (P_digits_Hex (y3.2.2.2.2.1, ())) (fun (y6 : (List (UInt8)) × Unit) => obind (P_tree_line (([([(108 : UInt8)] : List (UInt8)), y4.1, y5.1, y6.1] : List (List (UInt8))), ())) (fun (y7 : (List (UInt8)) × Unit) => sel (fits (plus (@len Int y2.2.2.1) (@len Int (bytesInts y7.1))))
  (some ((), (((), ((), y2.2.1.2.2)), (@app Int y2.2.2.1 (bytesInts y7.1), ()))))
  (none : Option (Unit × (Unit × Unit × Unit) × (List (Int)) × Unit)))))) (fun (y6 : Unit × (Unit × Unit × Unit) × (List (Int)) × Unit) => some ((), (((), ((), y6.2.1.2.2)), (y6.2.2.1, ())))))) (fun (y6 : Unit × (Unit × Unit × Unit) × (List (Int)) × Unit) => some (Sum.inl ((iadd IntKind.i64 y2.1.1 (1 : Int), ()), (((), ((), y6.2.1.2.2)), (y6.2.2.1, ()))) : (((Int × Unit) × (Unit × Unit × Unit) × (List (Int)) × Unit)) ⊕ ((Nat × (Int × Unit) × (Unit × Unit × Unit) × (List (Int)) × Unit))))))))
  (some (Sum.inr ((0 : Nat), ((y2.1.1, ()), (((), ((), y2.2.1.2.2)), (y2.2.2.1, ())))) : (((Int × Unit) × (Unit × Unit × Unit) × (List (Int)) × Unit)) ⊕ ((Nat × (Int × Unit) × (Unit × Unit × Unit) × (List (Int)) × Unit)))))

noncomputable def P_tree_Text (x : (List ((List (UInt8)) × Int × Int × (List (UInt8)) × (List (UInt8)) × Unit)) × Unit) : Option ((List (UInt8)) × Unit) :=
  obind (P_tree_Check (x.1, ())) (fun (y1 : Int × Unit) => sel (nt (eqI y1.1 (0 : Int)))
  (some (([] : List (UInt8)), ()))
  (obind (Loop (P_tree_Text_L0 x) (((0 : Int), ()), (((), ((), ())), (([] : List (Int)), ())))) (fun (y2 : (Int × Unit) × (Unit × Unit × Unit) × (List (Int)) × Unit) => some (intsBytes y2.2.2.1, ()))))

noncomputable def P_tree_Find (x : (List ((List (UInt8)) × Int × Int × (List (UInt8)) × (List (UInt8)) × Unit)) × (List (UInt8)) × Unit) : Option (((List (UInt8)) × Int × Int × (List (UInt8)) × (List (UInt8)) × Unit) × Bool × Unit) :=
  obind (P_tree_Check (x.1, ())) (fun (y1 : Int × Unit) => sel (nt (eqI y1.1 (0 : Int)))
  (some ((([] : List (UInt8)), ((0 : Int), ((0 : Int), (([] : List (UInt8)), (([] : List (UInt8)), ()))))), (false, ())))
  (obind (P_tree_place (x.1, (x.2.1, ()))) (fun (y2 : Int × Bool × Unit) => sel (nt y2.2.1)
  (some ((([] : List (UInt8)), ((0 : Int), ((0 : Int), (([] : List (UInt8)), (([] : List (UInt8)), ()))))), (false, ())))
  (obind (@idx ((List (UInt8)) × Int × Int × (List (UInt8)) × (List (UInt8)) × Unit) x.1 y2.1) (fun (y3 : (List (UInt8)) × Int × Int × (List (UInt8)) × (List (UInt8)) × Unit) => some (y3, (true, ())))))))

noncomputable def P_tree_List_L0 (x : (List ((List (UInt8)) × Int × Int × (List (UInt8)) × (List (UInt8)) × Unit)) × (List (UInt8)) × Unit) (y3 : (Unit × Int × Unit) × (List (List (UInt8))) × Unit) : Option (((Unit × Int × Unit) × (List (List (UInt8))) × Unit) ⊕ ((Unit × Int × Unit) × (List (List (UInt8))) × Unit)) :=
  @way1 ((Unit × Int × Unit) × (List (List (UInt8))) × Unit) (sel (ltI y3.1.2.1 (@len ((List (UInt8)) × Int × Int × (List (UInt8)) × (List (UInt8)) × Unit) x.1))
  (obind (@idx ((List (UInt8)) × Int × Int × (List (UInt8)) × (List (UInt8)) × Unit) x.1 y3.1.2.1) (fun (y4 : (List (UInt8)) × Int × Int × (List (UInt8)) × (List (UInt8)) × Unit) => obind (P_paths_Split (y4.1, ())) (fun (y5 : (List (UInt8)) × (List (UInt8)) × Unit) => obind (sel (eqS y5.1 x.2.1)
  (sel (fits (plus (@len (List (UInt8)) y3.2.1) (@len (List (UInt8)) ([y5.2.1] : List (List (UInt8))))))
  (some (((), ()), (@app (List (UInt8)) y3.2.1 ([y5.2.1] : List (List (UInt8))), ())))
  (none : Option ((Unit × Unit) × (List (List (UInt8))) × Unit)))
  (some (((), ()), (y3.2.1, ())))) (fun (y6 : (Unit × Unit) × (List (List (UInt8))) × Unit) => some (Sum.inl (((), (iadd IntKind.i64 y3.1.2.1 (1 : Int), ())), (y6.2.1, ())) : (((Unit × Int × Unit) × (List (List (UInt8))) × Unit)) ⊕ ((Nat × (Unit × Int × Unit) × (List (List (UInt8))) × Unit)))))))
  (some (Sum.inr ((0 : Nat), (((), (y3.1.2.1, ())), (y3.2.1, ()))) : (((Unit × Int × Unit) × (List (List (UInt8))) × Unit)) ⊕ ((Nat × (Unit × Int × Unit) × (List (List (UInt8))) × Unit)))))

noncomputable def P_tree_List (x : (List ((List (UInt8)) × Int × Int × (List (UInt8)) × (List (UInt8)) × Unit)) × (List (UInt8)) × Unit) : Option ((List (List (UInt8))) × Int × Unit) :=
  obind (P_tree_Check (x.1, ())) (fun (y1 : Int × Unit) => sel (nt (eqI y1.1 (0 : Int)))
  (some (([] : List (List (UInt8))), ((1 : Int), ())))
  (obind (P_tree_dir (x.1, (x.2.1, ()))) (fun (y2 : Int × Unit) => sel (nt (eqI y2.1 (0 : Int)))
  (some (([] : List (List (UInt8))), (y2.1, ())))
  (obind (Loop (P_tree_List_L0 x) (((), ((0 : Int), ())), (([] : List (List (UInt8))), ()))) (fun (y3 : (Unit × Int × Unit) × (List (List (UInt8))) × Unit) => some (y3.2.1, ((0 : Int), ())))))))

noncomputable def P_law14_dir (x : (List (UInt8)) × Unit) : Option (((List (UInt8)) × Int × Int × (List (UInt8)) × (List (UInt8)) × Unit) × Unit) :=
  some ((x.1, ((2 : Int), ((493 : Int), (([] : List (UInt8)), (([] : List (UInt8)), ()))))), ())

noncomputable def P_law14_file (x : (List (UInt8)) × (List (UInt8)) × Unit) : Option (((List (UInt8)) × Int × Int × (List (UInt8)) × (List (UInt8)) × Unit) × Unit) :=
  some ((x.1, ((1 : Int), ((420 : Int), (x.2.1, (([] : List (UInt8)), ()))))), ())

noncomputable def P_law14_awake (x : Unit) : Option (Bool × Unit) :=
  obind (P_law14_dir (([(100 : UInt8)] : List (UInt8)), ())) (fun (y1 : ((List (UInt8)) × Int × Int × (List (UInt8)) × (List (UInt8)) × Unit) × Unit) => obind (P_tree_Put (([] : List ((List (UInt8)) × Int × Int × (List (UInt8)) × (List (UInt8)) × Unit)), (y1.1, ()))) (fun (y2 : (List ((List (UInt8)) × Int × Int × (List (UInt8)) × (List (UInt8)) × Unit)) × Int × Unit) => obind (P_law14_file (([(100 : UInt8), (47 : UInt8), (97 : UInt8)] : List (UInt8)), (([(120 : UInt8)] : List (UInt8)), ()))) (fun (y3 : ((List (UInt8)) × Int × Int × (List (UInt8)) × (List (UInt8)) × Unit) × Unit) => obind (P_tree_Put (y2.1, (y3.1, ()))) (fun (y4 : (List ((List (UInt8)) × Int × Int × (List (UInt8)) × (List (UInt8)) × Unit)) × Int × Unit) => obind (P_law14_file (([(101 : UInt8), (47 : UInt8), (97 : UInt8)] : List (UInt8)), (([(120 : UInt8)] : List (UInt8)), ()))) (fun (y5 : ((List (UInt8)) × Int × Int × (List (UInt8)) × (List (UInt8)) × Unit) × Unit) => obind (P_tree_Put (y4.1, (y5.1, ()))) (fun (y6 : (List ((List (UInt8)) × Int × Int × (List (UInt8)) × (List (UInt8)) × Unit)) × Int × Unit) => obind (P_law14_file (([(100 : UInt8)] : List (UInt8)), (([(121 : UInt8)] : List (UInt8)), ()))) (fun (y7 : ((List (UInt8)) × Int × Int × (List (UInt8)) × (List (UInt8)) × Unit) × Unit) => obind (P_tree_Put (y4.1, (y7.1, ()))) (fun (y8 : (List ((List (UInt8)) × Int × Int × (List (UInt8)) × (List (UInt8)) × Unit)) × Int × Unit) => obind (P_tree_Find (y4.1, (([(100 : UInt8), (47 : UInt8), (97 : UInt8)] : List (UInt8)), ()))) (fun (y9 : ((List (UInt8)) × Int × Int × (List (UInt8)) × (List (UInt8)) × Unit) × Bool × Unit) => obind (P_tree_List (y4.1, (([(100 : UInt8)] : List (UInt8)), ()))) (fun (y10 : (List (List (UInt8))) × Int × Unit) => sel (eqI y2.2.1 (0 : Int))
  (sel (eqI y4.2.1 (0 : Int))
  (sel (eqI y6.2.1 (3 : Int))
  (sel (eqI y8.2.1 (0 : Int))
  (obind (P_law14_file (([(100 : UInt8)] : List (UInt8)), (([(121 : UInt8)] : List (UInt8)), ()))) (fun (y11 : ((List (UInt8)) × Int × Int × (List (UInt8)) × (List (UInt8)) × Unit) × Unit) => obind (P_ref14_Same (y8.1, (([y11.1] : List ((List (UInt8)) × Int × Int × (List (UInt8)) × (List (UInt8)) × Unit)), ()))) (fun (y12 : Bool × Unit) => sel y12.1
  (sel y9.2.1
  (obind (P_law14_file (([(100 : UInt8), (47 : UInt8), (97 : UInt8)] : List (UInt8)), (([(120 : UInt8)] : List (UInt8)), ()))) (fun (y13 : ((List (UInt8)) × Int × Int × (List (UInt8)) × (List (UInt8)) × Unit) × Unit) => sel (an (eqS y9.1.1 y13.1.1) (an (eqI y9.1.2.1 y13.1.2.1) (an (eqI y9.1.2.2.1 y13.1.2.2.1) (an (eqS y9.1.2.2.2.1 y13.1.2.2.2.1) (an (eqS y9.1.2.2.2.2.1 y13.1.2.2.2.2.1) true)))))
  (obind (P_ref06_SameTexts (y10.1, (([([(97 : UInt8)] : List (UInt8))] : List (List (UInt8))), ()))) (fun (y14 : Bool × Unit) => sel y14.1
  (sel (eqI y10.2.1 (0 : Int))
  (obind (P_tree_Check (y4.1, ())) (fun (y15 : Int × Unit) => sel (eqI y15.1 (0 : Int))
  (obind (P_tree_Text (y2.1, ())) (fun (y16 : (List (UInt8)) × Unit) => sel (eqI (@len UInt8 y16.1) (10 : Int))
  (obind (P_tree_Text (y2.1, ())) (fun (y17 : (List (UInt8)) × Unit) => some (eqS y17.1 ([(100 : UInt8), (32 : UInt8), (48 : UInt8), (55 : UInt8), (53 : UInt8), (53 : UInt8), (32 : UInt8), (54 : UInt8), (52 : UInt8), (10 : UInt8)] : List (UInt8)), ())))
  (some (false, ()))))
  (some (false, ()))))
  (some (false, ())))
  (some (false, ()))))
  (some (false, ()))))
  (some (false, ())))
  (some (false, ())))))
  (some (false, ())))
  (some (false, ())))
  (some (false, ())))
  (some (false, ()))))))))))))

end Go.Ge
