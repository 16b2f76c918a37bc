/- Plain laws of what the functions compute: part 2. -/
import Derived.Test.YtpipdmfkbnbchaaGreatDoorPlA
import Derived.Test.YtpipdmfkbnbchaaGreatDoorGeI
/- What the functions of layer 22z compute, as plain programs (written by a program from what the ghost interpreter comes to). -/
namespace Go.Ge
set_option linter.unusedVariables false
set_option maxRecDepth 100000
abbrev T22zx0 := ((List (UInt8)) × (List (UInt8)) × (List (UInt8)) × Unit)
abbrev T22zx1 := ((List (UInt8)) × (List (List (UInt8))) × (List (UInt8)) × (List (UInt8)) × (List T22zx0) × Unit)
abbrev T22zx2 := ((List ((List (UInt8)) × (List (List (UInt8))) × (List (UInt8)) × (List (UInt8)) × (List (UInt8)) × (List T22zx0) × Unit)) × (List T22zx1) × (List ((List (UInt8)) × (List (UInt8)) × (List (List (UInt8))) × (List (UInt8)) × Int × Int × Bool × Unit)) × (List (List (UInt8))) × (List ((List (UInt8)) × Int × Unit)) × Unit)
abbrev T22zx3 := ((List (UInt8)) × (List (List (UInt8))) × Unit)
abbrev T22zx4 := (Int × Int × Unit)
abbrev T22zx5 := ((List (UInt8)) × (List (List (UInt8))) × (List (UInt8)) × (List (UInt8)) × (List (UInt8)) × (List T22zx0) × Unit)
abbrev T22zx6 := ((List (UInt8)) × (List (UInt8)) × (List (List (UInt8))) × (List (UInt8)) × Int × Int × Bool × Unit)
abbrev T22zx7 := (Bool × Int × Unit)
abbrev T22zx8 := (Nat × T22zx4 × Unit × (List (UInt8)) × Unit)
abbrev T22zx9 := (T22zx4 × Unit × (List (UInt8)) × Unit)
abbrev T22zx10 := ((Unit × Int × Unit) × (List (List (UInt8))) × Unit)
abbrev T22zx11 := (Nat × T22zx4 × (List (UInt8)) × Unit)
abbrev T22zx12 := ((List (UInt8)) × Int × Int × Unit)
abbrev T22zx13 := ((List UInt8) × ((List (List UInt8)) × ((List UInt8) × ((List UInt8) × ((List ((List UInt8) × ((List UInt8) × ((List UInt8) × Unit)))) × Unit)))))
abbrev T22zx14 := (T22zx4 × (List (UInt8)) × Unit)
abbrev T22zx15 := (Nat × T22zx7 × Unit)
abbrev T22zx16 := ((Int × Unit) × Unit × (List T22zx3) × Unit)
abbrev T22zx17 := (Int × (List (UInt8)) × Int × (List (UInt8)) × Unit)
abbrev T22zx18 := (Nat × T22zx4 × Unit × T22zx0 × Unit)
abbrev T22zx19 := (Nat × T22zx4 × (List (List (UInt8))) × Unit)
abbrev T22zx20 := (Int × (List T22zx6) × (List T22zx1) × (List T22zx5) × Unit)
abbrev T22zx21 := ((Nat × (Unit × Int × Unit) × (List (List (UInt8))) × Unit))
abbrev T22zx22 := (T22zx4 × Unit × T22zx0 × Unit)
abbrev T22zx23 := (T22zx4 × (List (List (UInt8))) × Unit)
abbrev T22zx24 := (T22zx7 × Unit)
abbrev T22zx25 := ((Nat × (Int × Unit) × Unit × (List T22zx3) × Unit))
abbrev T22zx26 := (Nat × T22zx4 × Unit × T22zx1 × Unit)
abbrev T22zx27 := ((List UInt8) × ((List UInt8) × ((List UInt8) × Unit)))
abbrev T22zx28 := (Unit × Int × Unit)

noncomputable def P_slices_Insert_api_Item_api_Item (l : List T22zx27) (x : (Int × ((List T22zx27) × Unit))) : Option (List T22zx27) := insL l x.1 x.2.1

noncomputable def P_slices_Sort_string_string (l : List (List UInt8)) (x : Unit) : Option (List (List UInt8)) := bif fits (len l) then some (sortS l) else none

noncomputable def P_slices_Compact_string_string (l : List (List UInt8)) (x : Unit) : Option (List (List UInt8)) := some (Lib.compact (α := List UInt8) l)

noncomputable def P_slices_Delete_api_Image_api_Image (l : List T22zx13) (x : (Int × (Int × Unit))) : Option (List T22zx13) := delL l x.1 x.2.1

noncomputable def P_slices_Delete_api_Item_api_Item (l : List T22zx27) (x : (Int × (Int × Unit))) : Option (List T22zx27) := delL l x.1 x.2.1

noncomputable def P_slices_Insert_api_Image_api_Image (l : List T22zx13) (x : (Int × ((List T22zx13) × Unit))) : Option (List T22zx13) := insL l x.1 x.2.1

noncomputable def P_ref06_few_L0 (x : (List (List (UInt8))) × Unit) (y1 : T22zx7 × Unit) : Option (T22zx24 ⊕ T22zx15) :=
  sel (sel (ltI y1.1.2.1 (@len (List (UInt8)) x.1))
  (ltI y1.1.2.1 (8 : Int))
  false)
  (obind (@idx (List (UInt8)) x.1 y1.1.2.1) (fun (y2 : List (UInt8)) => sel (ltI (100 : Int) (@len UInt8 y2))
  (some (Sum.inr ((1 : Nat), ((false, (y1.1.2.1, ())), ())) : (T22zx24) ⊕ (T22zx15)))
  (some (Sum.inl ((y1.1.1, (iadd IntKind.i64 y1.1.2.1 (1 : Int), ())), ()) : (T22zx24) ⊕ (T22zx15)))))
  (some (Sum.inr ((0 : Nat), ((y1.1.1, (y1.1.2.1, ())), ())) : (T22zx24) ⊕ (T22zx15)))

noncomputable def P_ref06_few (x : (List (List (UInt8))) × Unit) : Option (Bool × Unit) :=
  obind (Loop (P_ref06_few_L0 x) ((false, ((0 : Int), ())), ())) (fun (y1 : Nat × T22zx7 × Unit) => sel (eqN y1.1 (0 : Nat))
  (some (leI (@len (List (UInt8)) x.1) (8 : Int), ()))
  (some (y1.2.1.1, ())))

noncomputable def P_ref06_fewItems_L0 (x : (List T22zx0) × Unit) (y1 : T22zx7 × Unit) : Option (T22zx24 ⊕ T22zx15) :=
  sel (sel (ltI y1.1.2.1 (@len T22zx0 x.1))
  (ltI y1.1.2.1 (8 : Int))
  false)
  (obind (@idx T22zx0 x.1 y1.1.2.1) (fun (y2 : (List (UInt8)) × (List (UInt8)) × (List (UInt8)) × Unit) => obind (sel (nt (ltI (100 : Int) (@len UInt8 y2.1)))
  (obind (@idx T22zx0 x.1 y1.1.2.1) (fun (y3 : (List (UInt8)) × (List (UInt8)) × (List (UInt8)) × Unit) => some (ltI (200 : Int) (@len UInt8 y3.2.2.1))))
  (some true)) (fun (y3 : Bool) => sel y3
  (some (Sum.inr ((1 : Nat), ((false, (y1.1.2.1, ())), ())) : (T22zx24) ⊕ (T22zx15)))
  (some (Sum.inl ((y1.1.1, (iadd IntKind.i64 y1.1.2.1 (1 : Int), ())), ()) : (T22zx24) ⊕ (T22zx15))))))
  (some (Sum.inr ((0 : Nat), ((y1.1.1, (y1.1.2.1, ())), ())) : (T22zx24) ⊕ (T22zx15)))

noncomputable def P_ref06_fewItems (x : (List T22zx0) × Unit) : Option (Bool × Unit) :=
  obind (Loop (P_ref06_fewItems_L0 x) ((false, ((0 : Int), ())), ())) (fun (y1 : Nat × T22zx7 × Unit) => sel (eqN y1.1 (0 : Nat))
  (some (leI (@len T22zx0 x.1) (8 : Int), ()))
  (some (y1.2.1.1, ())))

noncomputable def P_ref06_Few_L0 (x : T22zx20 × Unit) (y1 : T22zx7 × Unit) : Option (T22zx24 ⊕ T22zx15) :=
  sel (sel (ltI y1.1.2.1 (@len T22zx6 x.1.2.1))
  (ltI y1.1.2.1 (40 : Int))
  false)
  (obind (@idx T22zx6 x.1.2.1 y1.1.2.1) (fun (y2 : (List (UInt8)) × (List (UInt8)) × (List (List (UInt8))) × (List (UInt8)) × Int × Int × Bool × Unit) => obind (P_ref06_few (y2.2.2.1, ())) (fun (y3 : Bool × Unit) => sel (nt y3.1)
  (some (Sum.inr ((1 : Nat), ((false, (y1.1.2.1, ())), ())) : (T22zx24) ⊕ (T22zx15)))
  (some (Sum.inl ((y1.1.1, (iadd IntKind.i64 y1.1.2.1 (1 : Int), ())), ()) : (T22zx24) ⊕ (T22zx15))))))
  (some (Sum.inr ((0 : Nat), ((y1.1.1, (y1.1.2.1, ())), ())) : (T22zx24) ⊕ (T22zx15)))

noncomputable def P_ref06_Few_L1 (x : T22zx20 × Unit) (y2 : T22zx7 × Unit) : Option (T22zx24 ⊕ T22zx15) :=
  sel (sel (ltI y2.1.2.1 (@len T22zx1 x.1.2.2.1))
  (ltI y2.1.2.1 (40 : Int))
  false)
  (obind (@idx T22zx1 x.1.2.2.1 y2.1.2.1) (fun (y3 : (List (UInt8)) × (List (List (UInt8))) × (List (UInt8)) × (List (UInt8)) × (List T22zx0) × Unit) => obind (P_ref06_few (y3.2.1, ())) (fun (y4 : Bool × Unit) => obind (sel (nt (nt y4.1))
  (obind (@idx T22zx1 x.1.2.2.1 y2.1.2.1) (fun (y5 : (List (UInt8)) × (List (List (UInt8))) × (List (UInt8)) × (List (UInt8)) × (List T22zx0) × Unit) => some (ltI (200 : Int) (@len UInt8 y5.2.2.2.1))))
  (some true)) (fun (y5 : Bool) => obind (sel (nt y5)
  (obind (@idx T22zx1 x.1.2.2.1 y2.1.2.1) (fun (y6 : (List (UInt8)) × (List (List (UInt8))) × (List (UInt8)) × (List (UInt8)) × (List T22zx0) × Unit) => obind (P_ref06_fewItems (y6.2.2.2.2.1, ())) (fun (y7 : Bool × Unit) => some (nt y7.1))))
  (some true)) (fun (y6 : Bool) => sel y6
  (some (Sum.inr ((1 : Nat), ((false, (y2.1.2.1, ())), ())) : (T22zx24) ⊕ (T22zx15)))
  (some (Sum.inl ((y2.1.1, (iadd IntKind.i64 y2.1.2.1 (1 : Int), ())), ()) : (T22zx24) ⊕ (T22zx15))))))))
  (some (Sum.inr ((0 : Nat), ((y2.1.1, (y2.1.2.1, ())), ())) : (T22zx24) ⊕ (T22zx15)))

noncomputable def P_ref06_Few_L2 (x : T22zx20 × Unit) (y3 : T22zx7 × Unit) : Option (T22zx24 ⊕ T22zx15) :=
  sel (sel (ltI y3.1.2.1 (@len T22zx5 x.1.2.2.2.1))
  (ltI y3.1.2.1 (40 : Int))
  false)
  (obind (@idx T22zx5 x.1.2.2.2.1 y3.1.2.1) (fun (y4 : (List (UInt8)) × (List (List (UInt8))) × (List (UInt8)) × (List (UInt8)) × (List (UInt8)) × (List T22zx0) × Unit) => obind (P_ref06_few (y4.2.1, ())) (fun (y5 : Bool × Unit) => obind (sel (nt (nt y5.1))
  (obind (@idx T22zx5 x.1.2.2.2.1 y3.1.2.1) (fun (y6 : (List (UInt8)) × (List (List (UInt8))) × (List (UInt8)) × (List (UInt8)) × (List (UInt8)) × (List T22zx0) × Unit) => some (ltI (200 : Int) (@len UInt8 y6.2.2.2.2.1))))
  (some true)) (fun (y6 : Bool) => obind (sel (nt y6)
  (obind (@idx T22zx5 x.1.2.2.2.1 y3.1.2.1) (fun (y7 : (List (UInt8)) × (List (List (UInt8))) × (List (UInt8)) × (List (UInt8)) × (List (UInt8)) × (List T22zx0) × Unit) => obind (P_ref06_fewItems (y7.2.2.2.2.2.1, ())) (fun (y8 : Bool × Unit) => some (nt y8.1))))
  (some true)) (fun (y7 : Bool) => sel y7
  (some (Sum.inr ((1 : Nat), ((false, (y3.1.2.1, ())), ())) : (T22zx24) ⊕ (T22zx15)))
  (some (Sum.inl ((y3.1.1, (iadd IntKind.i64 y3.1.2.1 (1 : Int), ())), ()) : (T22zx24) ⊕ (T22zx15))))))))
  (some (Sum.inr ((0 : Nat), ((y3.1.1, (y3.1.2.1, ())), ())) : (T22zx24) ⊕ (T22zx15)))

noncomputable def P_ref06_Few (x : T22zx20 × Unit) : Option (Bool × Unit) :=
  obind (Loop (P_ref06_Few_L0 x) ((false, ((0 : Int), ())), ())) (fun (y1 : Nat × T22zx7 × Unit) => sel (eqN y1.1 (0 : Nat))
  (obind (Loop (P_ref06_Few_L1 x) ((y1.2.1.1, ((0 : Int), ())), ())) (fun (y2 : Nat × T22zx7 × Unit) => sel (eqN y2.1 (0 : Nat))
  (obind (Loop (P_ref06_Few_L2 x) ((y2.2.1.1, ((0 : Int), ())), ())) (fun (y3 : Nat × T22zx7 × Unit) => sel (eqN y3.1 (0 : Nat))
  (some (sel (sel (leI (@len T22zx6 x.1.2.1) (40 : Int))
  (leI (@len T22zx1 x.1.2.2.1) (40 : Int))
  false)
  (leI (@len T22zx5 x.1.2.2.2.1) (40 : Int))
  false, ()))
  (some (y3.2.1.1, ()))))
  (some (y2.2.1.1, ()))))
  (some (y1.2.1.1, ())))

noncomputable def P_record_IsName (x : (List (UInt8)) × Unit) : Option (Bool × Unit) :=
  obind (sel (sel (leI (1 : Int) (@len UInt8 x.1))
  (leI (@len UInt8 x.1) (32 : Int))
  false)
  (obind (P_strings_Trim (x.1, (([(97 : UInt8), (98 : UInt8), (99 : UInt8), (100 : UInt8), (101 : UInt8), (102 : UInt8), (103 : UInt8), (104 : UInt8), (105 : UInt8), (106 : UInt8), (107 : UInt8), (108 : UInt8), (109 : UInt8), (110 : UInt8), (111 : UInt8), (112 : UInt8), (113 : UInt8), (114 : UInt8), (115 : UInt8), (116 : UInt8), (117 : UInt8), (118 : UInt8), (119 : UInt8), (120 : UInt8), (121 : UInt8), (122 : UInt8), (48 : UInt8), (49 : UInt8), (50 : UInt8), (51 : UInt8), (52 : UInt8), (53 : UInt8), (54 : UInt8), (55 : UInt8), (56 : UInt8), (57 : UInt8), (46 : UInt8), (95 : UInt8), (45 : UInt8)] : List (UInt8)), ()))) (fun (y1 : (List (UInt8)) × Unit) => some (eqS y1.1 ([] : List (UInt8)))))
  (some false)) (fun (y1 : Bool) => some (y1, ()))

noncomputable def P_images_key (x : T22zx0 × Unit) : Option ((List (UInt8)) × Unit) :=
  some (x.1.1, ())

noncomputable def P_slices_Clone_api_Item_api_Item (x : (List T22zx0) × Unit) : Option ((List T22zx0) × Unit) :=
  bif fits (len x.1) then some (x.1, ()) else none

noncomputable def P_images_PutItem_L0 (x : (List T22zx0) × (List (UInt8)) × (List (UInt8)) × Unit) (y2 : T22zx4 × Unit × (List (UInt8)) × Unit) : Option (T22zx9 ⊕ T22zx8) :=
  sel (ltI y2.1.2.1 (@len T22zx0 x.1))
  (obind (@idx T22zx0 x.1 y2.1.2.1) (fun (y3 : (List (UInt8)) × (List (UInt8)) × (List (UInt8)) × Unit) => obind (P_images_key (y3, ())) (fun (y4 : (List (UInt8)) × Unit) => sel (eqS y4.1 y2.2.2.1)
  (some (Sum.inr ((1 : Nat), ((y2.1.2.1, (y2.1.2.1, ())), ((), (y2.2.2.1, ())))) : (T22zx9) ⊕ (T22zx8)))
  (some (Sum.inl ((y2.1.1, (iadd IntKind.i64 y2.1.2.1 (1 : Int), ())), ((), (y2.2.2.1, ()))) : (T22zx9) ⊕ (T22zx8))))))
  (some (Sum.inr ((0 : Nat), ((y2.1.1, (y2.1.2.1, ())), ((), (y2.2.2.1, ())))) : (T22zx9) ⊕ (T22zx8)))

noncomputable def P_images_PutItem_L1 (x : (List T22zx0) × (List (UInt8)) × (List (UInt8)) × Unit) (y5 : T22zx4 × Unit × (List (UInt8)) × Unit) : Option (T22zx9 ⊕ T22zx8) :=
  sel (ltI y5.1.2.1 (@len T22zx0 x.1))
  (obind (@idx T22zx0 x.1 y5.1.2.1) (fun (y6 : (List (UInt8)) × (List (UInt8)) × (List (UInt8)) × Unit) => obind (P_images_key (y6, ())) (fun (y7 : (List (UInt8)) × Unit) => sel (eqS y7.1 y5.2.2.1)
  (some (Sum.inr ((1 : Nat), ((y5.1.2.1, (y5.1.2.1, ())), ((), (y5.2.2.1, ())))) : (T22zx9) ⊕ (T22zx8)))
  (some (Sum.inl ((y5.1.1, (iadd IntKind.i64 y5.1.2.1 (1 : Int), ())), ((), (y5.2.2.1, ()))) : (T22zx9) ⊕ (T22zx8))))))
  (some (Sum.inr ((0 : Nat), ((y5.1.1, (y5.1.2.1, ())), ((), (y5.2.2.1, ())))) : (T22zx9) ⊕ (T22zx8)))

noncomputable def P_images_PutItem_L2 (y6 : (Unit × Unit) × (List T22zx0) × Unit) (y7 : T22zx4 × Unit × T22zx0 × Unit) : Option (T22zx22 ⊕ T22zx18) :=
  sel (ltI y7.1.2.1 (@len T22zx0 y6.2.1))
  (sel (within y7.1.2.1 (@len T22zx0 y6.2.1))
  (obind (@idx T22zx0 y6.2.1 y7.1.2.1) (fun (y8 : (List (UInt8)) × (List (UInt8)) × (List (UInt8)) × Unit) => obind (P_images_key (y8, ())) (fun (y9 : (List (UInt8)) × Unit) => obind (P_images_key (y7.2.2.1, ())) (fun (y10 : (List (UInt8)) × Unit) => sel (nt (ltS y9.1 y10.1))
  (some (Sum.inr ((1 : Nat), ((y7.1.2.1, (y7.1.2.1, ())), ((), (y7.2.2.1, ())))) : (T22zx22) ⊕ (T22zx18)))
  (some (Sum.inl ((y7.1.1, (iadd IntKind.i64 y7.1.2.1 (1 : Int), ())), ((), (y7.2.2.1, ()))) : (T22zx22) ⊕ (T22zx18)))))))
  none)
  (some (Sum.inr ((0 : Nat), ((y7.1.1, (y7.1.2.1, ())), ((), (y7.2.2.1, ())))) : (T22zx22) ⊕ (T22zx18)))

noncomputable def P_images_PutItem_L3 (y6 : (Unit × Unit) × (List T22zx0) × Unit) (y7 : T22zx4 × Unit × T22zx0 × Unit) : Option (T22zx22 ⊕ T22zx18) :=
  sel (ltI y7.1.2.1 (@len T22zx0 y6.2.1))
  (sel (within y7.1.2.1 (@len T22zx0 y6.2.1))
  (obind (@idx T22zx0 y6.2.1 y7.1.2.1) (fun (y8 : (List (UInt8)) × (List (UInt8)) × (List (UInt8)) × Unit) => obind (P_images_key (y8, ())) (fun (y9 : (List (UInt8)) × Unit) => obind (P_images_key (y7.2.2.1, ())) (fun (y10 : (List (UInt8)) × Unit) => sel (nt (ltS y9.1 y10.1))
  (some (Sum.inr ((1 : Nat), ((y7.1.2.1, (y7.1.2.1, ())), ((), (y7.2.2.1, ())))) : (T22zx22) ⊕ (T22zx18)))
  (some (Sum.inl ((y7.1.1, (iadd IntKind.i64 y7.1.2.1 (1 : Int), ())), ((), (y7.2.2.1, ()))) : (T22zx22) ⊕ (T22zx18)))))))
  none)
  (some (Sum.inr ((0 : Nat), ((y7.1.1, (y7.1.2.1, ())), ((), (y7.2.2.1, ())))) : (T22zx22) ⊕ (T22zx18)))

noncomputable def P_images_PutItem_L4 (x : (List T22zx0) × (List (UInt8)) × (List (UInt8)) × Unit) (y5 : T22zx4 × Unit × (List (UInt8)) × Unit) : Option (T22zx9 ⊕ T22zx8) :=
  sel (ltI y5.1.2.1 (@len T22zx0 x.1))
  (obind (@idx T22zx0 x.1 y5.1.2.1) (fun (y6 : (List (UInt8)) × (List (UInt8)) × (List (UInt8)) × Unit) => obind (P_images_key (y6, ())) (fun (y7 : (List (UInt8)) × Unit) => sel (eqS y7.1 y5.2.2.1)
  (some (Sum.inr ((1 : Nat), ((y5.1.2.1, (y5.1.2.1, ())), ((), (y5.2.2.1, ())))) : (T22zx9) ⊕ (T22zx8)))
  (some (Sum.inl ((y5.1.1, (iadd IntKind.i64 y5.1.2.1 (1 : Int), ())), ((), (y5.2.2.1, ()))) : (T22zx9) ⊕ (T22zx8))))))
  (some (Sum.inr ((0 : Nat), ((y5.1.1, (y5.1.2.1, ())), ((), (y5.2.2.1, ())))) : (T22zx9) ⊕ (T22zx8)))

noncomputable def P_images_PutItem_L5 (y6 : (Unit × Unit) × (List T22zx0) × Unit) (y7 : T22zx4 × Unit × T22zx0 × Unit) : Option (T22zx22 ⊕ T22zx18) :=
  sel (ltI y7.1.2.1 (@len T22zx0 y6.2.1))
  (sel (within y7.1.2.1 (@len T22zx0 y6.2.1))
  (obind (@idx T22zx0 y6.2.1 y7.1.2.1) (fun (y8 : (List (UInt8)) × (List (UInt8)) × (List (UInt8)) × Unit) => obind (P_images_key (y8, ())) (fun (y9 : (List (UInt8)) × Unit) => obind (P_images_key (y7.2.2.1, ())) (fun (y10 : (List (UInt8)) × Unit) => sel (nt (ltS y9.1 y10.1))
  (some (Sum.inr ((1 : Nat), ((y7.1.2.1, (y7.1.2.1, ())), ((), (y7.2.2.1, ())))) : (T22zx22) ⊕ (T22zx18)))
  (some (Sum.inl ((y7.1.1, (iadd IntKind.i64 y7.1.2.1 (1 : Int), ())), ((), (y7.2.2.1, ()))) : (T22zx22) ⊕ (T22zx18)))))))
  none)
  (some (Sum.inr ((0 : Nat), ((y7.1.1, (y7.1.2.1, ())), ((), (y7.2.2.1, ())))) : (T22zx22) ⊕ (T22zx18)))

noncomputable def P_images_PutItem_L6 (y6 : (Unit × Unit) × (List T22zx0) × Unit) (y7 : T22zx4 × Unit × T22zx0 × Unit) : Option (T22zx22 ⊕ T22zx18) :=
  sel (ltI y7.1.2.1 (@len T22zx0 y6.2.1))
  (sel (within y7.1.2.1 (@len T22zx0 y6.2.1))
  (obind (@idx T22zx0 y6.2.1 y7.1.2.1) (fun (y8 : (List (UInt8)) × (List (UInt8)) × (List (UInt8)) × Unit) => obind (P_images_key (y8, ())) (fun (y9 : (List (UInt8)) × Unit) => obind (P_images_key (y7.2.2.1, ())) (fun (y10 : (List (UInt8)) × Unit) => sel (nt (ltS y9.1 y10.1))
  (some (Sum.inr ((1 : Nat), ((y7.1.2.1, (y7.1.2.1, ())), ((), (y7.2.2.1, ())))) : (T22zx22) ⊕ (T22zx18)))
  (some (Sum.inl ((y7.1.1, (iadd IntKind.i64 y7.1.2.1 (1 : Int), ())), ((), (y7.2.2.1, ()))) : (T22zx22) ⊕ (T22zx18)))))))
  none)
  (some (Sum.inr ((0 : Nat), ((y7.1.1, (y7.1.2.1, ())), ((), (y7.2.2.1, ())))) : (T22zx22) ⊕ (T22zx18)))

noncomputable def P_images_PutItem (x : (List T22zx0) × (List (UInt8)) × (List (UInt8)) × Unit) : Option ((List T22zx0) × Int × Unit) :=
  obind (P_record_IsName (x.2.1, ())) (fun (y1 : Bool × Unit) => sel (sel (nt (nt y1.1))
  (ltI (64 : Int) (@len UInt8 x.2.2.1))
  true)
  (some (([] : List T22zx0), ((1 : Int), ())))
  (obind (Loop (P_images_PutItem_L0 x) (((0 : Int), ((0 : Int), ())), ((), (x.2.1, ())))) (fun (y2 : Nat × T22zx4 × Unit × (List (UInt8)) × Unit) => sel (eqN y2.1 (0 : Nat))
  (sel (sel (ltI (-1 : Int) (0 : Int))
  (leI (4 : Int) (@len T22zx0 x.1))
  false)
  (some (([] : List T22zx0), ((5 : Int), ())))
  (obind (P_digest_Of (x.2.2.1, ())) (fun (y3 : (List (UInt8)) × Unit) => obind (P_images_key ((x.2.1, (y3.1, (x.2.2.1, ()))), ())) (fun (y4 : (List (UInt8)) × Unit) => sel (fits (@len T22zx0 x.1))
  (obind (Loop (P_images_PutItem_L1 x) (((0 : Int), ((0 : Int), ())), ((), (y4.1, ())))) (fun (y5 : Nat × T22zx4 × Unit × (List (UInt8)) × Unit) => sel (eqN y5.1 (0 : Nat))
  (obind (sel (leI (0 : Int) (-1 : Int))
  (obind (P_slices_Delete_api_Item_api_Item x.1 ((-1 : Int), (iadd IntKind.i64 (-1 : Int) (1 : Int), ()))) (fun (y6 : List T22zx0) => some (((), ()), (y6, ()))))
  (some (((), ()), (x.1, ())))) (fun (y6 : (Unit × Unit) × (List T22zx0) × Unit) => obind (Loop (P_images_PutItem_L2 y6) (((0 : Int), ((0 : Int), ())), ((), ((x.2.1, (y3.1, (x.2.2.1, ()))), ())))) (fun (y7 : Nat × T22zx4 × Unit × T22zx0 × Unit) => sel (eqN y7.1 (0 : Nat))
  (obind (P_slices_Insert_api_Item_api_Item y6.2.1 (((sel (ltI (-1 : Int) (0 : Int))
  ((@len T22zx0 y6.2.1, ()), ())
  (((-1 : Int), ()), ())).1).1, (([y7.2.2.2.1] : List T22zx0), ()))) (fun (y8 : List T22zx0) => some (y8, ((0 : Int), ()))))
  (obind (P_slices_Insert_api_Item_api_Item y6.2.1 (((sel (ltI y7.2.1.1 (0 : Int))
  ((@len T22zx0 y6.2.1, ()), ())
  ((y7.2.1.1, ()), ())).1).1, (([y7.2.2.2.1] : List T22zx0), ()))) (fun (y8 : List T22zx0) => some (y8, ((0 : Int), ())))))))
  (obind (sel (leI (0 : Int) y5.2.1.1)
  (obind (P_slices_Delete_api_Item_api_Item x.1 (y5.2.1.1, (iadd IntKind.i64 y5.2.1.1 (1 : Int), ()))) (fun (y6 : List T22zx0) => some (((), ()), (y6, ()))))
  (some (((), ()), (x.1, ())))) (fun (y6 : (Unit × Unit) × (List T22zx0) × Unit) => obind (Loop (P_images_PutItem_L3 y6) (((0 : Int), ((0 : Int), ())), ((), ((x.2.1, (y3.1, (x.2.2.1, ()))), ())))) (fun (y7 : Nat × T22zx4 × Unit × T22zx0 × Unit) => sel (eqN y7.1 (0 : Nat))
  (obind (P_slices_Insert_api_Item_api_Item y6.2.1 (((sel (ltI (-1 : Int) (0 : Int))
  ((@len T22zx0 y6.2.1, ()), ())
  (((-1 : Int), ()), ())).1).1, (([y7.2.2.2.1] : List T22zx0), ()))) (fun (y8 : List T22zx0) => some (y8, ((0 : Int), ()))))
  (obind (P_slices_Insert_api_Item_api_Item y6.2.1 (((sel (ltI y7.2.1.1 (0 : Int))
  ((@len T22zx0 y6.2.1, ()), ())
  ((y7.2.1.1, ()), ())).1).1, (([y7.2.2.2.1] : List T22zx0), ()))) (fun (y8 : List T22zx0) => some (y8, ((0 : Int), ())))))))))
  none))))
  (sel (sel (ltI y2.2.1.1 (0 : Int))
  (leI (4 : Int) (@len T22zx0 x.1))
  false)
  (some (([] : List T22zx0), ((5 : Int), ())))
  (obind (P_digest_Of (x.2.2.1, ())) (fun (y3 : (List (UInt8)) × Unit) => obind (P_images_key ((x.2.1, (y3.1, (x.2.2.1, ()))), ())) (fun (y4 : (List (UInt8)) × Unit) => sel (fits (@len T22zx0 x.1))
  (obind (Loop (P_images_PutItem_L4 x) (((0 : Int), ((0 : Int), ())), ((), (y4.1, ())))) (fun (y5 : Nat × T22zx4 × Unit × (List (UInt8)) × Unit) => sel (eqN y5.1 (0 : Nat))
  (obind (sel (leI (0 : Int) (-1 : Int))
  (obind (P_slices_Delete_api_Item_api_Item x.1 ((-1 : Int), (iadd IntKind.i64 (-1 : Int) (1 : Int), ()))) (fun (y6 : List T22zx0) => some (((), ()), (y6, ()))))
  (some (((), ()), (x.1, ())))) (fun (y6 : (Unit × Unit) × (List T22zx0) × Unit) => obind (Loop (P_images_PutItem_L5 y6) (((0 : Int), ((0 : Int), ())), ((), ((x.2.1, (y3.1, (x.2.2.1, ()))), ())))) (fun (y7 : Nat × T22zx4 × Unit × T22zx0 × Unit) => sel (eqN y7.1 (0 : Nat))
  (obind (P_slices_Insert_api_Item_api_Item y6.2.1 (((sel (ltI (-1 : Int) (0 : Int))
  ((@len T22zx0 y6.2.1, ()), ())
  (((-1 : Int), ()), ())).1).1, (([y7.2.2.2.1] : List T22zx0), ()))) (fun (y8 : List T22zx0) => some (y8, ((0 : Int), ()))))
  (obind (P_slices_Insert_api_Item_api_Item y6.2.1 (((sel (ltI y7.2.1.1 (0 : Int))
  ((@len T22zx0 y6.2.1, ()), ())
  ((y7.2.1.1, ()), ())).1).1, (([y7.2.2.2.1] : List T22zx0), ()))) (fun (y8 : List T22zx0) => some (y8, ((0 : Int), ())))))))
  (obind (sel (leI (0 : Int) y5.2.1.1)
  (obind (P_slices_Delete_api_Item_api_Item x.1 (y5.2.1.1, (iadd IntKind.i64 y5.2.1.1 (1 : Int), ()))) (fun (y6 : List T22zx0) => some (((), ()), (y6, ()))))
  (some (((), ()), (x.1, ())))) (fun (y6 : (Unit × Unit) × (List T22zx0) × Unit) => obind (Loop (P_images_PutItem_L6 y6) (((0 : Int), ((0 : Int), ())), ((), ((x.2.1, (y3.1, (x.2.2.1, ()))), ())))) (fun (y7 : Nat × T22zx4 × Unit × T22zx0 × Unit) => sel (eqN y7.1 (0 : Nat))
  (obind (P_slices_Insert_api_Item_api_Item y6.2.1 (((sel (ltI (-1 : Int) (0 : Int))
  ((@len T22zx0 y6.2.1, ()), ())
  (((-1 : Int), ()), ())).1).1, (([y7.2.2.2.1] : List T22zx0), ()))) (fun (y8 : List T22zx0) => some (y8, ((0 : Int), ()))))
  (obind (P_slices_Insert_api_Item_api_Item y6.2.1 (((sel (ltI y7.2.1.1 (0 : Int))
  ((@len T22zx0 y6.2.1, ()), ())
  ((y7.2.1.1, ()), ())).1).1, (([y7.2.2.2.1] : List T22zx0), ()))) (fun (y8 : List T22zx0) => some (y8, ((0 : Int), ())))))))))
  none)))))))

noncomputable def P_images_GetItem_L0 (x : (List T22zx0) × (List (UInt8)) × Unit) (y1 : T22zx4 × Unit × (List (UInt8)) × Unit) : Option (T22zx9 ⊕ T22zx8) :=
  sel (ltI y1.1.2.1 (@len T22zx0 x.1))
  (obind (@idx T22zx0 x.1 y1.1.2.1) (fun (y2 : (List (UInt8)) × (List (UInt8)) × (List (UInt8)) × Unit) => obind (P_images_key (y2, ())) (fun (y3 : (List (UInt8)) × Unit) => sel (eqS y3.1 y1.2.2.1)
  (some (Sum.inr ((1 : Nat), ((y1.1.2.1, (y1.1.2.1, ())), ((), (y1.2.2.1, ())))) : (T22zx9) ⊕ (T22zx8)))
  (some (Sum.inl ((y1.1.1, (iadd IntKind.i64 y1.1.2.1 (1 : Int), ())), ((), (y1.2.2.1, ()))) : (T22zx9) ⊕ (T22zx8))))))
  (some (Sum.inr ((0 : Nat), ((y1.1.1, (y1.1.2.1, ())), ((), (y1.2.2.1, ())))) : (T22zx9) ⊕ (T22zx8)))

noncomputable def P_images_GetItem (x : (List T22zx0) × (List (UInt8)) × Unit) : Option ((List (UInt8)) × Int × Unit) :=
  obind (Loop (P_images_GetItem_L0 x) (((0 : Int), ((0 : Int), ())), ((), (x.2.1, ())))) (fun (y1 : Nat × T22zx4 × Unit × (List (UInt8)) × Unit) => sel (eqN y1.1 (0 : Nat))
  (sel (ltI (-1 : Int) (0 : Int))
  (some (([] : List (UInt8)), ((3 : Int), ())))
  (obind (@idx T22zx0 x.1 (-1 : Int)) (fun (y2 : (List (UInt8)) × (List (UInt8)) × (List (UInt8)) × Unit) => some (y2.2.2.1, ((0 : Int), ())))))
  (sel (ltI y1.2.1.1 (0 : Int))
  (some (([] : List (UInt8)), ((3 : Int), ())))
  (obind (@idx T22zx0 x.1 y1.2.1.1) (fun (y2 : (List (UInt8)) × (List (UInt8)) × (List (UInt8)) × Unit) => some (y2.2.2.1, ((0 : Int), ()))))))

noncomputable def P_slices_Clone_string_string (x : (List (List (UInt8))) × Unit) : Option ((List (List (UInt8))) × Unit) :=
  bif fits (len x.1) then some (x.1, ()) else none

noncomputable def P_names_Check_c1 (x : (List (UInt8)) × Unit) : Option (Bool × Unit) :=
  obind (P_record_IsName (x.1, ())) (fun (y1 : Bool × Unit) => some (nt y1.1, ()))

noncomputable def P_names_Check_L0 (x : (List (List (UInt8))) × Unit) (y3 : T22zx4 × Unit) : Option ((T22zx4 × Unit) ⊕ (Nat × T22zx4 × Unit)) :=
  sel (ltI y3.1.2.1 (@len (List (UInt8)) x.1))
  (obind (@idx (List (UInt8)) x.1 y3.1.2.1) (fun (y4 : List (UInt8)) => obind (P_names_Check_c1 (y4, ())) (fun (y5 : Bool × Unit) => sel y5.1
  (some (Sum.inr ((1 : Nat), ((y3.1.2.1, (y3.1.2.1, ())), ())) : ((T22zx4 × Unit)) ⊕ ((Nat × T22zx4 × Unit))))
  (some (Sum.inl ((y3.1.1, (iadd IntKind.i64 y3.1.2.1 (1 : Int), ())), ()) : ((T22zx4 × Unit)) ⊕ ((Nat × T22zx4 × Unit)))))))
  (some (Sum.inr ((0 : Nat), ((y3.1.1, (y3.1.2.1, ())), ())) : ((T22zx4 × Unit)) ⊕ ((Nat × T22zx4 × Unit))))

noncomputable def P_names_Check (x : (List (List (UInt8))) × Unit) : Option (Int × Unit) :=
  sel (fits (@len (List (UInt8)) x.1))
  (obind (P_slices_Sort_string_string x.1 ()) (fun (y1 : List (List (UInt8))) => obind (P_slices_Compact_string_string y1 ()) (fun (y2 : List (List (UInt8))) => obind (Loop (P_names_Check_L0 x) (((0 : Int), ((0 : Int), ())), ())) (fun (y3 : Nat × T22zx4 × Unit) => sel (eqN y3.1 (0 : Nat))
  (sel (sel (nt (sel (nt (ltI (4 : Int) (@len (List (UInt8)) x.1)))
  (ltI (@len (List (UInt8)) y2) (@len (List (UInt8)) x.1))
  true))
  (leI (0 : Int) (-1 : Int))
  true)
  (some ((1 : Int), ()))
  (some ((0 : Int), ())))
  (sel (sel (nt (sel (nt (ltI (4 : Int) (@len (List (UInt8)) x.1)))
  (ltI (@len (List (UInt8)) y2) (@len (List (UInt8)) x.1))
  true))
  (leI (0 : Int) y3.2.1.1)
  true)
  (some ((1 : Int), ()))
  (some ((0 : Int), ())))))))
  none

noncomputable def P_images_fault (x : Int × Unit) : Option (T22zx17 × Unit) :=
  some ((x.1, (([] : List (UInt8)), ((0 : Int), (([] : List (UInt8)), ())))), ())

noncomputable def P_lookup_Find_L0 (x : (List T22zx3) × (List (UInt8)) × Unit) (y1 : T22zx4 × (List (UInt8)) × Unit) : Option (T22zx14 ⊕ T22zx11) :=
  sel (ltI y1.1.2.1 (@len T22zx3 x.1))
  (obind (@idx T22zx3 x.1 y1.1.2.1) (fun (y2 : (List (UInt8)) × (List (List (UInt8))) × Unit) => sel (eqS y2.1 y1.2.1)
  (some (Sum.inr ((1 : Nat), ((y1.1.2.1, (y1.1.2.1, ())), (y1.2.1, ()))) : (T22zx14) ⊕ (T22zx11)))
  (some (Sum.inl ((y1.1.1, (iadd IntKind.i64 y1.1.2.1 (1 : Int), ())), (y1.2.1, ())) : (T22zx14) ⊕ (T22zx11)))))
  (some (Sum.inr ((0 : Nat), ((y1.1.1, (y1.1.2.1, ())), (y1.2.1, ()))) : (T22zx14) ⊕ (T22zx11)))

noncomputable def P_lookup_Find_L1 (x : (List T22zx3) × (List (UInt8)) × Unit) (y2 : T22zx4 × (List (UInt8)) × Unit) : Option (T22zx14 ⊕ T22zx11) :=
  sel (ltI y2.1.2.1 (@len T22zx3 x.1))
  (obind (@idx T22zx3 x.1 y2.1.2.1) (fun (y3 : (List (UInt8)) × (List (List (UInt8))) × Unit) => obind (P_slices_Contains_string_string (y3.2.1, (y2.2.1, ()))) (fun (y4 : Bool × Unit) => sel y4.1
  (some (Sum.inr ((1 : Nat), ((y2.1.2.1, (y2.1.2.1, ())), (y2.2.1, ()))) : (T22zx14) ⊕ (T22zx11)))
  (some (Sum.inl ((y2.1.1, (iadd IntKind.i64 y2.1.2.1 (1 : Int), ())), (y2.2.1, ())) : (T22zx14) ⊕ (T22zx11))))))
  (some (Sum.inr ((0 : Nat), ((y2.1.1, (y2.1.2.1, ())), (y2.2.1, ()))) : (T22zx14) ⊕ (T22zx11)))

noncomputable def P_lookup_Find_L2 (x : (List T22zx3) × (List (UInt8)) × Unit) (y2 : Nat × T22zx4 × (List (UInt8)) × Unit) (y3 : T22zx28 × (List (List (UInt8))) × Unit) : Option (T22zx10 ⊕ T22zx10) :=
  @way1 T22zx10 (sel (ltI y3.1.2.1 (@len T22zx3 x.1))
  (obind (@idx T22zx3 x.1 y3.1.2.1) (fun (y4 : (List (UInt8)) × (List (List (UInt8))) × Unit) => obind (P_strings_HasPrefix (y4.1, (y2.2.2.1, ()))) (fun (y5 : Bool × Unit) => obind (sel y5.1
  (sel (fits (plus (@len (List (UInt8)) y3.2.1) (@len (List (UInt8)) ([y4.1] : List (List (UInt8))))))
  (some (((), ()), (@app (List (UInt8)) y3.2.1 ([y4.1] : List (List (UInt8))), ())))
  none)
  (some (((), ()), (y3.2.1, ())))) (fun (y6 : (Unit × Unit) × (List (List (UInt8))) × Unit) => some (Sum.inl (((), (iadd IntKind.i64 y3.1.2.1 (1 : Int), ())), (y6.2.1, ())) : (T22zx10) ⊕ T22zx21)))))
  (some (Sum.inr ((0 : Nat), (((), (y3.1.2.1, ())), (y3.2.1, ()))) : (T22zx10) ⊕ T22zx21)))

noncomputable def P_lookup_Find_L3 (x : (List T22zx3) × (List (UInt8)) × Unit) (y2 : Nat × T22zx4 × (List (UInt8)) × Unit) (y3 : T22zx28 × (List (List (UInt8))) × Unit) : Option (T22zx10 ⊕ T22zx10) :=
  @way1 T22zx10 (sel (ltI y3.1.2.1 (@len T22zx3 x.1))
  (obind (@idx T22zx3 x.1 y3.1.2.1) (fun (y4 : (List (UInt8)) × (List (List (UInt8))) × Unit) => obind (P_strings_HasPrefix (y4.1, (y2.2.2.1, ()))) (fun (y5 : Bool × Unit) => obind (sel y5.1
  (sel (fits (plus (@len (List (UInt8)) y3.2.1) (@len (List (UInt8)) ([y4.1] : List (List (UInt8))))))
  (some (((), ()), (@app (List (UInt8)) y3.2.1 ([y4.1] : List (List (UInt8))), ())))
  none)
  (some (((), ()), (y3.2.1, ())))) (fun (y6 : (Unit × Unit) × (List (List (UInt8))) × Unit) => some (Sum.inl (((), (iadd IntKind.i64 y3.1.2.1 (1 : Int), ())), (y6.2.1, ())) : (T22zx10) ⊕ T22zx21)))))
  (some (Sum.inr ((0 : Nat), (((), (y3.1.2.1, ())), (y3.2.1, ()))) : (T22zx10) ⊕ T22zx21)))

noncomputable def P_lookup_Find_L4 (x : (List T22zx3) × (List (UInt8)) × Unit) (y2 : T22zx4 × (List (UInt8)) × Unit) : Option (T22zx14 ⊕ T22zx11) :=
  sel (ltI y2.1.2.1 (@len T22zx3 x.1))
  (obind (@idx T22zx3 x.1 y2.1.2.1) (fun (y3 : (List (UInt8)) × (List (List (UInt8))) × Unit) => obind (P_slices_Contains_string_string (y3.2.1, (y2.2.1, ()))) (fun (y4 : Bool × Unit) => sel y4.1
  (some (Sum.inr ((1 : Nat), ((y2.1.2.1, (y2.1.2.1, ())), (y2.2.1, ()))) : (T22zx14) ⊕ (T22zx11)))
  (some (Sum.inl ((y2.1.1, (iadd IntKind.i64 y2.1.2.1 (1 : Int), ())), (y2.2.1, ())) : (T22zx14) ⊕ (T22zx11))))))
  (some (Sum.inr ((0 : Nat), ((y2.1.1, (y2.1.2.1, ())), (y2.2.1, ()))) : (T22zx14) ⊕ (T22zx11)))

noncomputable def P_lookup_Find_L5 (x : (List T22zx3) × (List (UInt8)) × Unit) (y2 : Nat × T22zx4 × (List (UInt8)) × Unit) (y3 : T22zx28 × (List (List (UInt8))) × Unit) : Option (T22zx10 ⊕ T22zx10) :=
  @way1 T22zx10 (sel (ltI y3.1.2.1 (@len T22zx3 x.1))
  (obind (@idx T22zx3 x.1 y3.1.2.1) (fun (y4 : (List (UInt8)) × (List (List (UInt8))) × Unit) => obind (P_strings_HasPrefix (y4.1, (y2.2.2.1, ()))) (fun (y5 : Bool × Unit) => obind (sel y5.1
  (sel (fits (plus (@len (List (UInt8)) y3.2.1) (@len (List (UInt8)) ([y4.1] : List (List (UInt8))))))
  (some (((), ()), (@app (List (UInt8)) y3.2.1 ([y4.1] : List (List (UInt8))), ())))
  none)
  (some (((), ()), (y3.2.1, ())))) (fun (y6 : (Unit × Unit) × (List (List (UInt8))) × Unit) => some (Sum.inl (((), (iadd IntKind.i64 y3.1.2.1 (1 : Int), ())), (y6.2.1, ())) : (T22zx10) ⊕ T22zx21)))))
  (some (Sum.inr ((0 : Nat), (((), (y3.1.2.1, ())), (y3.2.1, ()))) : (T22zx10) ⊕ T22zx21)))

noncomputable def P_lookup_Find_L6 (x : (List T22zx3) × (List (UInt8)) × Unit) (y2 : Nat × T22zx4 × (List (UInt8)) × Unit) (y3 : T22zx28 × (List (List (UInt8))) × Unit) : Option (T22zx10 ⊕ T22zx10) :=
  @way1 T22zx10 (sel (ltI y3.1.2.1 (@len T22zx3 x.1))
  (obind (@idx T22zx3 x.1 y3.1.2.1) (fun (y4 : (List (UInt8)) × (List (List (UInt8))) × Unit) => obind (P_strings_HasPrefix (y4.1, (y2.2.2.1, ()))) (fun (y5 : Bool × Unit) => obind (sel y5.1
  (sel (fits (plus (@len (List (UInt8)) y3.2.1) (@len (List (UInt8)) ([y4.1] : List (List (UInt8))))))
  (some (((), ()), (@app (List (UInt8)) y3.2.1 ([y4.1] : List (List (UInt8))), ())))
  none)
  (some (((), ()), (y3.2.1, ())))) (fun (y6 : (Unit × Unit) × (List (List (UInt8))) × Unit) => some (Sum.inl (((), (iadd IntKind.i64 y3.1.2.1 (1 : Int), ())), (y6.2.1, ())) : (T22zx10) ⊕ T22zx21)))))
  (some (Sum.inr ((0 : Nat), (((), (y3.1.2.1, ())), (y3.2.1, ()))) : (T22zx10) ⊕ T22zx21)))

noncomputable def P_lookup_Find (x : (List T22zx3) × (List (UInt8)) × Unit) : Option ((List (UInt8)) × Int × Unit) :=
  obind (Loop (P_lookup_Find_L0 x) (((0 : Int), ((0 : Int), ())), (x.2.1, ()))) (fun (y1 : Nat × T22zx4 × (List (UInt8)) × Unit) => sel (eqN y1.1 (0 : Nat))
  (sel (leI (0 : Int) (-1 : Int))
  (some (x.2.1, ((0 : Int), ())))
  (obind (Loop (P_lookup_Find_L1 x) (((0 : Int), ((0 : Int), ())), (x.2.1, ()))) (fun (y2 : Nat × T22zx4 × (List (UInt8)) × Unit) => sel (eqN y2.1 (0 : Nat))
  (sel (leI (0 : Int) (-1 : Int))
  (obind (@idx T22zx3 x.1 (-1 : Int)) (fun (y3 : (List (UInt8)) × (List (List (UInt8))) × Unit) => some (y3.1, ((0 : Int), ()))))
  (obind (Loop (P_lookup_Find_L2 x y2) (((), ((0 : Int), ())), (([] : List (List (UInt8))), ()))) (fun (y3 : T22zx28 × (List (List (UInt8))) × Unit) => sel (sel (nt (sel (nt (eqS y2.2.2.1 ([] : List (UInt8))))
  (leI (6 : Int) (@len UInt8 y2.2.2.1))
  true))
  (eqI (@len (List (UInt8)) y3.2.1) (0 : Int))
  true)
  (some (([] : List (UInt8)), ((3 : Int), ())))
  (sel (ltI (1 : Int) (@len (List (UInt8)) y3.2.1))
  (some (([] : List (UInt8)), ((9 : Int), ())))
  (sel (within (0 : Int) (@len (List (UInt8)) y3.2.1))
  (obind (@idx (List (UInt8)) y3.2.1 (0 : Int)) (fun (y4 : List (UInt8)) => some (y4, ((0 : Int), ()))))
  none)))))
  (sel (leI (0 : Int) y2.2.1.1)
  (obind (@idx T22zx3 x.1 y2.2.1.1) (fun (y3 : (List (UInt8)) × (List (List (UInt8))) × Unit) => some (y3.1, ((0 : Int), ()))))
  (obind (Loop (P_lookup_Find_L3 x y2) (((), ((0 : Int), ())), (([] : List (List (UInt8))), ()))) (fun (y3 : T22zx28 × (List (List (UInt8))) × Unit) => sel (sel (nt (sel (nt (eqS y2.2.2.1 ([] : List (UInt8))))
  (leI (6 : Int) (@len UInt8 y2.2.2.1))
  true))
  (eqI (@len (List (UInt8)) y3.2.1) (0 : Int))
  true)
  (some (([] : List (UInt8)), ((3 : Int), ())))
  (sel (ltI (1 : Int) (@len (List (UInt8)) y3.2.1))
  (some (([] : List (UInt8)), ((9 : Int), ())))
  (sel (within (0 : Int) (@len (List (UInt8)) y3.2.1))
  (obind (@idx (List (UInt8)) y3.2.1 (0 : Int)) (fun (y4 : List (UInt8)) => some (y4, ((0 : Int), ()))))
  none))))))))
  (sel (leI (0 : Int) y1.2.1.1)
  (some (x.2.1, ((0 : Int), ())))
  (obind (Loop (P_lookup_Find_L4 x) (((0 : Int), ((0 : Int), ())), (x.2.1, ()))) (fun (y2 : Nat × T22zx4 × (List (UInt8)) × Unit) => sel (eqN y2.1 (0 : Nat))
  (sel (leI (0 : Int) (-1 : Int))
  (obind (@idx T22zx3 x.1 (-1 : Int)) (fun (y3 : (List (UInt8)) × (List (List (UInt8))) × Unit) => some (y3.1, ((0 : Int), ()))))
  (obind (Loop (P_lookup_Find_L5 x y2) (((), ((0 : Int), ())), (([] : List (List (UInt8))), ()))) (fun (y3 : T22zx28 × (List (List (UInt8))) × Unit) => sel (sel (nt (sel (nt (eqS y2.2.2.1 ([] : List (UInt8))))
  (leI (6 : Int) (@len UInt8 y2.2.2.1))
  true))
  (eqI (@len (List (UInt8)) y3.2.1) (0 : Int))
  true)
  (some (([] : List (UInt8)), ((3 : Int), ())))
  (sel (ltI (1 : Int) (@len (List (UInt8)) y3.2.1))
  (some (([] : List (UInt8)), ((9 : Int), ())))
  (sel (within (0 : Int) (@len (List (UInt8)) y3.2.1))
  (obind (@idx (List (UInt8)) y3.2.1 (0 : Int)) (fun (y4 : List (UInt8)) => some (y4, ((0 : Int), ()))))
  none)))))
  (sel (leI (0 : Int) y2.2.1.1)
  (obind (@idx T22zx3 x.1 y2.2.1.1) (fun (y3 : (List (UInt8)) × (List (List (UInt8))) × Unit) => some (y3.1, ((0 : Int), ()))))
  (obind (Loop (P_lookup_Find_L6 x y2) (((), ((0 : Int), ())), (([] : List (List (UInt8))), ()))) (fun (y3 : T22zx28 × (List (List (UInt8))) × Unit) => sel (sel (nt (sel (nt (eqS y2.2.2.1 ([] : List (UInt8))))
  (leI (6 : Int) (@len UInt8 y2.2.2.1))
  true))
  (eqI (@len (List (UInt8)) y3.2.1) (0 : Int))
  true)
  (some (([] : List (UInt8)), ((3 : Int), ())))
  (sel (ltI (1 : Int) (@len (List (UInt8)) y3.2.1))
  (some (([] : List (UInt8)), ((9 : Int), ())))
  (sel (within (0 : Int) (@len (List (UInt8)) y3.2.1))
  (obind (@idx (List (UInt8)) y3.2.1 (0 : Int)) (fun (y4 : List (UInt8)) => some (y4, ((0 : Int), ()))))
  none)))))))))

noncomputable def P_names_Of_L0 (x : Int × T22zx20 × Unit) (y1 : (Int × Unit) × Unit × (List T22zx3) × Unit) : Option (T22zx16 ⊕ T22zx16) :=
  @way1 T22zx16 (sel (ltI y1.1.1 (@len T22zx5 x.2.1.2.2.2.1))
  (obind (@idx T22zx5 x.2.1.2.2.2.1 y1.1.1) (fun (y2 : (List (UInt8)) × (List (List (UInt8))) × (List (UInt8)) × (List (UInt8)) × (List (UInt8)) × (List T22zx0) × Unit) => obind (P_slices_Clone_string_string (y2.2.1, ())) (fun (y3 : (List (List (UInt8))) × Unit) => sel (fits (plus (@len T22zx3 y1.2.2.1) (@len T22zx3 ([(y2.1, (y3.1, ()))] : List T22zx3))))
  (some (Sum.inl ((iadd IntKind.i64 y1.1.1 (1 : Int), ()), ((), (@app T22zx3 y1.2.2.1 ([(y2.1, (y3.1, ()))] : List T22zx3), ()))) : (T22zx16) ⊕ T22zx25))
  none)))
  (some (Sum.inr ((0 : Nat), ((y1.1.1, ()), ((), (y1.2.2.1, ())))) : (T22zx16) ⊕ T22zx25)))

noncomputable def P_names_Of_L1 (x : Int × T22zx20 × Unit) (y1 : (Int × Unit) × Unit × (List T22zx3) × Unit) : Option (T22zx16 ⊕ T22zx16) :=
  @way1 T22zx16 (sel (ltI y1.1.1 (@len T22zx1 x.2.1.2.2.1))
  (obind (@idx T22zx1 x.2.1.2.2.1 y1.1.1) (fun (y2 : (List (UInt8)) × (List (List (UInt8))) × (List (UInt8)) × (List (UInt8)) × (List T22zx0) × Unit) => obind (P_slices_Clone_string_string (y2.2.1, ())) (fun (y3 : (List (List (UInt8))) × Unit) => sel (fits (plus (@len T22zx3 y1.2.2.1) (@len T22zx3 ([(y2.1, (y3.1, ()))] : List T22zx3))))
  (some (Sum.inl ((iadd IntKind.i64 y1.1.1 (1 : Int), ()), ((), (@app T22zx3 y1.2.2.1 ([(y2.1, (y3.1, ()))] : List T22zx3), ()))) : (T22zx16) ⊕ T22zx25))
  none)))
  (some (Sum.inr ((0 : Nat), ((y1.1.1, ()), ((), (y1.2.2.1, ())))) : (T22zx16) ⊕ T22zx25)))

noncomputable def P_names_Of_L2 (x : Int × T22zx20 × Unit) (y1 : (Int × Unit) × Unit × (List T22zx3) × Unit) : Option (T22zx16 ⊕ T22zx16) :=
  @way1 T22zx16 (sel (ltI y1.1.1 (@len T22zx6 x.2.1.2.1))
  (obind (@idx T22zx6 x.2.1.2.1 y1.1.1) (fun (y2 : (List (UInt8)) × (List (UInt8)) × (List (List (UInt8))) × (List (UInt8)) × Int × Int × Bool × Unit) => obind (sel y2.2.2.2.2.2.2.1
  (obind (P_slices_Clone_string_string (y2.2.2.1, ())) (fun (y3 : (List (List (UInt8))) × Unit) => sel (fits (plus (@len T22zx3 y1.2.2.1) (@len T22zx3 ([(y2.1, (y3.1, ()))] : List T22zx3))))
  (some ((), (y2, ((), (@app T22zx3 y1.2.2.1 ([(y2.1, (y3.1, ()))] : List T22zx3), ())))))
  none))
  (some ((), (y2, ((), (y1.2.2.1, ())))))) (fun (y3 : Unit × T22zx6 × Unit × (List T22zx3) × Unit) => some (Sum.inl ((iadd IntKind.i64 y1.1.1 (1 : Int), ()), ((), (y3.2.2.2.1, ()))) : (T22zx16) ⊕ T22zx25))))
  (some (Sum.inr ((0 : Nat), ((y1.1.1, ()), ((), (y1.2.2.1, ())))) : (T22zx16) ⊕ T22zx25)))

noncomputable def P_names_Of (x : Int × T22zx20 × Unit) : Option ((List T22zx3) × Unit) :=
  obind (sel (eqI x.1 (1 : Int))
  (obind (Loop (P_names_Of_L0 x) (((0 : Int), ()), ((), (([] : List T22zx3), ())))) (fun (y1 : (Int × Unit) × Unit × (List T22zx3) × Unit) => some ((), ((), (y1.2.2.1, ())))))
  (obind (sel (eqI x.1 (2 : Int))
  (obind (Loop (P_names_Of_L1 x) (((0 : Int), ()), ((), (([] : List T22zx3), ())))) (fun (y1 : (Int × Unit) × Unit × (List T22zx3) × Unit) => some ((), ((), (y1.2.2.1, ())))))
  (obind (sel (eqI x.1 (3 : Int))
  (obind (Loop (P_names_Of_L2 x) (((0 : Int), ()), ((), (([] : List T22zx3), ())))) (fun (y1 : (Int × Unit) × Unit × (List T22zx3) × Unit) => some ((), ((), (y1.2.2.1, ())))))
  (some ((), ((), (([] : List T22zx3), ()))))) (fun (y1 : Unit × Unit × (List T22zx3) × Unit) => some ((), ((), (y1.2.2.1, ())))))) (fun (y1 : Unit × Unit × (List T22zx3) × Unit) => some ((), ((), (y1.2.2.1, ())))))) (fun (y1 : Unit × Unit × (List T22zx3) × Unit) => some (y1.2.2.1, ()))

noncomputable def P_layers_named (x : T22zx2 × Unit) : Option ((List T22zx3) × Unit) :=
  obind (P_names_Of ((3 : Int), (((0 : Int), (x.1.2.2.1, (([] : List T22zx1), (([] : List T22zx5), ())))), ()))) (fun (y1 : (List T22zx3) × Unit) => some (y1.1, ()))

noncomputable def P_layers_Find (x : T22zx2 × (List (UInt8)) × Unit) : Option ((List (UInt8)) × Int × Unit) :=
  obind (P_layers_named (x.1, ())) (fun (y1 : (List T22zx3) × Unit) => obind (P_lookup_Find (y1.1, (x.2.1, ()))) (fun (y2 : (List (UInt8)) × Int × Unit) => some (y2.1, (y2.2.1, ()))))

noncomputable def P_names_find_L0 (x : (List T22zx3) × (List (UInt8)) × Unit) (y1 : T22zx4 × (List (UInt8)) × Unit) : Option (T22zx14 ⊕ T22zx11) :=
  sel (ltI y1.1.2.1 (@len T22zx3 x.1))
  (obind (@idx T22zx3 x.1 y1.1.2.1) (fun (y2 : (List (UInt8)) × (List (List (UInt8))) × Unit) => sel (eqS y2.1 y1.2.1)
  (some (Sum.inr ((1 : Nat), ((y1.1.2.1, (y1.1.2.1, ())), (y1.2.1, ()))) : (T22zx14) ⊕ (T22zx11)))
  (some (Sum.inl ((y1.1.1, (iadd IntKind.i64 y1.1.2.1 (1 : Int), ())), (y1.2.1, ())) : (T22zx14) ⊕ (T22zx11)))))
  (some (Sum.inr ((0 : Nat), ((y1.1.1, (y1.1.2.1, ())), (y1.2.1, ()))) : (T22zx14) ⊕ (T22zx11)))

noncomputable def P_names_find (x : (List T22zx3) × (List (UInt8)) × Unit) : Option (Int × Unit) :=
  obind (Loop (P_names_find_L0 x) (((0 : Int), ((0 : Int), ())), (x.2.1, ()))) (fun (y1 : Nat × T22zx4 × (List (UInt8)) × Unit) => sel (eqN y1.1 (0 : Nat))
  (some ((-1 : Int), ()))
  (some (y1.2.1.1, ())))

noncomputable def P_names_Free_L1 (y4 : (List (UInt8)) × (List (List (UInt8))) × Unit) (y5 : T22zx4 × (List (List (UInt8))) × Unit) : Option (T22zx23 ⊕ T22zx19) :=
  sel (ltI y5.1.2.1 (@len (List (UInt8)) y4.2.1))
  (obind (@idx (List (UInt8)) y4.2.1 y5.1.2.1) (fun (y6 : List (UInt8)) => obind (P_slices_Contains_string_string (y5.2.1, (y6, ()))) (fun (y7 : Bool × Unit) => sel y7.1
  (some (Sum.inr ((1 : Nat), ((y5.1.2.1, (y5.1.2.1, ())), (y5.2.1, ()))) : (T22zx23) ⊕ (T22zx19)))
  (some (Sum.inl ((y5.1.1, (iadd IntKind.i64 y5.1.2.1 (1 : Int), ())), (y5.2.1, ())) : (T22zx23) ⊕ (T22zx19))))))
  (some (Sum.inr ((0 : Nat), ((y5.1.1, (y5.1.2.1, ())), (y5.2.1, ()))) : (T22zx23) ⊕ (T22zx19)))

noncomputable def P_names_Free_L0 (x : (List T22zx3) × (List (UInt8)) × (List (List (UInt8))) × Unit) (y2 : Int × Unit) (y3 : T22zx4 × (List (List (UInt8))) × Unit) : Option (T22zx23 ⊕ T22zx19) :=
  sel (ltI y3.1.2.1 (@len T22zx3 x.1))
  (obind (@idx T22zx3 x.1 y3.1.2.1) (fun (y4 : (List (UInt8)) × (List (List (UInt8))) × Unit) => sel (nt (eqI y3.1.2.1 y2.1))
  (obind (Loop (P_names_Free_L1 y4) (((0 : Int), ((0 : Int), ())), (y3.2.1, ()))) (fun (y5 : Nat × T22zx4 × (List (List (UInt8))) × Unit) => sel (eqN y5.1 (0 : Nat))
  (sel (leI (0 : Int) (-1 : Int))
  (some (Sum.inr ((1 : Nat), (((8 : Int), (y3.1.2.1, ())), (y5.2.2.1, ()))) : (T22zx23) ⊕ (T22zx19)))
  (some (Sum.inl ((y3.1.1, (iadd IntKind.i64 y3.1.2.1 (1 : Int), ())), (y5.2.2.1, ())) : (T22zx23) ⊕ (T22zx19))))
  (sel (leI (0 : Int) y5.2.1.1)
  (some (Sum.inr ((1 : Nat), (((8 : Int), (y3.1.2.1, ())), (y5.2.2.1, ()))) : (T22zx23) ⊕ (T22zx19)))
  (some (Sum.inl ((y3.1.1, (iadd IntKind.i64 y3.1.2.1 (1 : Int), ())), (y5.2.2.1, ())) : (T22zx23) ⊕ (T22zx19))))))
  (some (Sum.inl ((y3.1.1, (iadd IntKind.i64 y3.1.2.1 (1 : Int), ())), (y3.2.1, ())) : (T22zx23) ⊕ (T22zx19)))))
  (some (Sum.inr ((0 : Nat), ((y3.1.1, (y3.1.2.1, ())), (y3.2.1, ()))) : (T22zx23) ⊕ (T22zx19)))

noncomputable def P_names_Free (x : (List T22zx3) × (List (UInt8)) × (List (List (UInt8))) × Unit) : Option (Int × Unit) :=
  obind (P_names_Check (x.2.2.1, ())) (fun (y1 : Int × Unit) => sel (nt (eqI y1.1 (0 : Int)))
  (some (y1.1, ()))
  (obind (P_names_find (x.1, (x.2.1, ()))) (fun (y2 : Int × Unit) => obind (Loop (P_names_Free_L0 x y2) (((0 : Int), ((0 : Int), ())), (x.2.2.1, ()))) (fun (y3 : Nat × T22zx4 × (List (List (UInt8))) × Unit) => sel (eqN y3.1 (0 : Nat))
  (some ((0 : Int), ()))
  (some (y3.2.1.1, ()))))))

noncomputable def P_images_named (x : T22zx2 × Unit) : Option ((List T22zx3) × Unit) :=
  obind (P_names_Of ((2 : Int), (((0 : Int), (([] : List T22zx6), (x.1.2.1, (([] : List T22zx5), ())))), ()))) (fun (y1 : (List T22zx3) × Unit) => some (y1.1, ()))

noncomputable def P_lookup_id (x : Int × Unit) : Option ((List (UInt8)) × Unit) :=
  sel (ltI (16 : Int) (0 : Int))
  none
  (sel (ltI (8 : Int) (0 : Int))
  none
  (obind (P_digits_Hex (intsBytes ([icv IntKind.u8 (ishr IntKind.i64 x.1 (16 : Int)), icv IntKind.u8 (ishr IntKind.i64 x.1 (8 : Int)), icv IntKind.u8 x.1] : List (Int)), ())) (fun (y1 : (List (UInt8)) × Unit) => some (y1.1, ()))))

noncomputable def P_lookup_Fresh_L1 (x : (List T22zx3) × Int × Unit) (y3 : T22zx4 × (List (UInt8)) × Unit) : Option (T22zx14 ⊕ T22zx11) :=
  sel (ltI y3.1.2.1 (@len T22zx3 x.1))
  (obind (@idx T22zx3 x.1 y3.1.2.1) (fun (y4 : (List (UInt8)) × (List (List (UInt8))) × Unit) => sel (eqS y4.1 y3.2.1)
  (some (Sum.inr ((1 : Nat), ((y3.1.2.1, (y3.1.2.1, ())), (y3.2.1, ()))) : (T22zx14) ⊕ (T22zx11)))
  (some (Sum.inl ((y3.1.1, (iadd IntKind.i64 y3.1.2.1 (1 : Int), ())), (y3.2.1, ())) : (T22zx14) ⊕ (T22zx11)))))
  (some (Sum.inr ((0 : Nat), ((y3.1.1, (y3.1.2.1, ())), (y3.2.1, ()))) : (T22zx14) ⊕ (T22zx11)))

noncomputable def P_lookup_Fresh_L0 (x : (List T22zx3) × Int × Unit) (y1 : T22zx12 × Unit) : Option ((T22zx12 × Unit) ⊕ (Nat × T22zx12 × Unit)) :=
  sel (ltI y1.1.2.2.1 (iadd IntKind.i64 (@len T22zx3 x.1) (1 : Int)))
  (sel (eqI (16777216 : Int) (0 : Int))
  none
  (obind (P_lookup_id (irem (iadd IntKind.i64 (iand IntKind.i64 x.2.1 (16777215 : Int)) y1.1.2.2.1) (16777216 : Int), ())) (fun (y2 : (List (UInt8)) × Unit) => obind (Loop (P_lookup_Fresh_L1 x) (((0 : Int), ((0 : Int), ())), (y2.1, ()))) (fun (y3 : Nat × T22zx4 × (List (UInt8)) × Unit) => sel (eqN y3.1 (0 : Nat))
  (sel (nt (leI (0 : Int) (-1 : Int)))
  (some (Sum.inr ((1 : Nat), ((y2.1, ((0 : Int), (y1.1.2.2.1, ()))), ())) : ((T22zx12 × Unit)) ⊕ ((Nat × T22zx12 × Unit))))
  (some (Sum.inl ((y1.1.1, (y1.1.2.1, (iadd IntKind.i64 y1.1.2.2.1 (1 : Int), ()))), ()) : ((T22zx12 × Unit)) ⊕ ((Nat × T22zx12 × Unit)))))
  (sel (nt (leI (0 : Int) y3.2.1.1))
  (some (Sum.inr ((1 : Nat), ((y2.1, ((0 : Int), (y1.1.2.2.1, ()))), ())) : ((T22zx12 × Unit)) ⊕ ((Nat × T22zx12 × Unit))))
  (some (Sum.inl ((y1.1.1, (y1.1.2.1, (iadd IntKind.i64 y1.1.2.2.1 (1 : Int), ()))), ()) : ((T22zx12 × Unit)) ⊕ ((Nat × T22zx12 × Unit)))))))))
  (some (Sum.inr ((0 : Nat), ((y1.1.1, (y1.1.2.1, (y1.1.2.2.1, ()))), ())) : ((T22zx12 × Unit)) ⊕ ((Nat × T22zx12 × Unit))))

noncomputable def P_lookup_Fresh (x : (List T22zx3) × Int × Unit) : Option ((List (UInt8)) × Int × Unit) :=
  sel (leI (32 : Int) (@len T22zx3 x.1))
  (some (([] : List (UInt8)), ((5 : Int), ())))
  (obind (Loop (P_lookup_Fresh_L0 x) ((([] : List (UInt8)), ((0 : Int), ((0 : Int), ()))), ())) (fun (y1 : Nat × T22zx12 × Unit) => sel (eqN y1.1 (0 : Nat))
  (some (([] : List (UInt8)), ((5 : Int), ())))
  (some (y1.2.1.1, (y1.2.1.2.1, ())))))

noncomputable def P_images_id (x : T22zx1 × Unit) : Option ((List (UInt8)) × Unit) :=
  some (x.1.1, ())

noncomputable def P_slices_Clone_api_Image_api_Image (x : (List T22zx1) × Unit) : Option ((List T22zx1) × Unit) :=
  bif fits (len x.1) then some (x.1, ()) else none

noncomputable def P_images_Set_L0 (x : T22zx2 × T22zx1 × Unit) (y4 : T22zx4 × Unit × (List (UInt8)) × Unit) : Option (T22zx9 ⊕ T22zx8) :=
  sel (ltI y4.1.2.1 (@len T22zx1 x.1.2.1))
  (obind (@idx T22zx1 x.1.2.1 y4.1.2.1) (fun (y5 : (List (UInt8)) × (List (List (UInt8))) × (List (UInt8)) × (List (UInt8)) × (List T22zx0) × Unit) => obind (P_images_id (y5, ())) (fun (y6 : (List (UInt8)) × Unit) => sel (eqS y6.1 y4.2.2.1)
  (some (Sum.inr ((1 : Nat), ((y4.1.2.1, (y4.1.2.1, ())), ((), (y4.2.2.1, ())))) : (T22zx9) ⊕ (T22zx8)))
  (some (Sum.inl ((y4.1.1, (iadd IntKind.i64 y4.1.2.1 (1 : Int), ())), ((), (y4.2.2.1, ()))) : (T22zx9) ⊕ (T22zx8))))))
  (some (Sum.inr ((0 : Nat), ((y4.1.1, (y4.1.2.1, ())), ((), (y4.2.2.1, ())))) : (T22zx9) ⊕ (T22zx8)))

noncomputable def P_images_Set_L1 (y5 : (Unit × Unit) × (List T22zx1) × Unit) (y6 : T22zx4 × Unit × T22zx1 × Unit) : Option ((T22zx4 × Unit × T22zx1 × Unit) ⊕ T22zx26) :=
  sel (ltI y6.1.2.1 (@len T22zx1 y5.2.1))
  (sel (within y6.1.2.1 (@len T22zx1 y5.2.1))
  (obind (@idx T22zx1 y5.2.1 y6.1.2.1) (fun (y7 : (List (UInt8)) × (List (List (UInt8))) × (List (UInt8)) × (List (UInt8)) × (List T22zx0) × Unit) => obind (P_images_id (y7, ())) (fun (y8 : (List (UInt8)) × Unit) => obind (P_images_id (y6.2.2.1, ())) (fun (y9 : (List (UInt8)) × Unit) => sel (nt (ltS y8.1 y9.1))
  (some (Sum.inr ((1 : Nat), ((y6.1.2.1, (y6.1.2.1, ())), ((), (y6.2.2.1, ())))) : ((T22zx4 × Unit × T22zx1 × Unit)) ⊕ (T22zx26)))
  (some (Sum.inl ((y6.1.1, (iadd IntKind.i64 y6.1.2.1 (1 : Int), ())), ((), (y6.2.2.1, ()))) : ((T22zx4 × Unit × T22zx1 × Unit)) ⊕ (T22zx26)))))))
  none)
  (some (Sum.inr ((0 : Nat), ((y6.1.1, (y6.1.2.1, ())), ((), (y6.2.2.1, ())))) : ((T22zx4 × Unit × T22zx1 × Unit)) ⊕ (T22zx26)))

noncomputable def P_images_Set_L2 (y5 : (Unit × Unit) × (List T22zx1) × Unit) (y6 : T22zx4 × Unit × T22zx1 × Unit) : Option ((T22zx4 × Unit × T22zx1 × Unit) ⊕ T22zx26) :=
  sel (ltI y6.1.2.1 (@len T22zx1 y5.2.1))
  (sel (within y6.1.2.1 (@len T22zx1 y5.2.1))
  (obind (@idx T22zx1 y5.2.1 y6.1.2.1) (fun (y7 : (List (UInt8)) × (List (List (UInt8))) × (List (UInt8)) × (List (UInt8)) × (List T22zx0) × Unit) => obind (P_images_id (y7, ())) (fun (y8 : (List (UInt8)) × Unit) => obind (P_images_id (y6.2.2.1, ())) (fun (y9 : (List (UInt8)) × Unit) => sel (nt (ltS y8.1 y9.1))
  (some (Sum.inr ((1 : Nat), ((y6.1.2.1, (y6.1.2.1, ())), ((), (y6.2.2.1, ())))) : ((T22zx4 × Unit × T22zx1 × Unit)) ⊕ (T22zx26)))
  (some (Sum.inl ((y6.1.1, (iadd IntKind.i64 y6.1.2.1 (1 : Int), ())), ((), (y6.2.2.1, ()))) : ((T22zx4 × Unit × T22zx1 × Unit)) ⊕ (T22zx26)))))))
  none)
  (some (Sum.inr ((0 : Nat), ((y6.1.1, (y6.1.2.1, ())), ((), (y6.2.2.1, ())))) : ((T22zx4 × Unit × T22zx1 × Unit)) ⊕ (T22zx26)))

noncomputable def P_images_Set (x : T22zx2 × T22zx1 × Unit) : Option (T22zx2 × Unit) :=
  obind (P_slices_Clone_string_string (x.2.1.2.1, ())) (fun (y1 : (List (List (UInt8))) × Unit) => obind (P_slices_Clone_api_Item_api_Item (x.2.1.2.2.2.2.1, ())) (fun (y2 : (List T22zx0) × Unit) => obind (P_images_id ((x.2.1.1, (y1.1, (x.2.1.2.2.1, (x.2.1.2.2.2.1, (y2.1, x.2.1.2.2.2.2.2))))), ())) (fun (y3 : (List (UInt8)) × Unit) => sel (fits (@len T22zx1 x.1.2.1))
  (obind (Loop (P_images_Set_L0 x) (((0 : Int), ((0 : Int), ())), ((), (y3.1, ())))) (fun (y4 : Nat × T22zx4 × Unit × (List (UInt8)) × Unit) => sel (eqN y4.1 (0 : Nat))
  (obind (sel (leI (0 : Int) (-1 : Int))
  (obind (P_slices_Delete_api_Image_api_Image x.1.2.1 ((-1 : Int), (iadd IntKind.i64 (-1 : Int) (1 : Int), ()))) (fun (y5 : List T22zx1) => some (((), ()), (y5, ()))))
  (some (((), ()), (x.1.2.1, ())))) (fun (y5 : (Unit × Unit) × (List T22zx1) × Unit) => obind (Loop (P_images_Set_L1 y5) (((0 : Int), ((0 : Int), ())), ((), ((x.2.1.1, (y1.1, (x.2.1.2.2.1, (x.2.1.2.2.2.1, (y2.1, x.2.1.2.2.2.2.2))))), ())))) (fun (y6 : Nat × T22zx4 × Unit × T22zx1 × Unit) => sel (eqN y6.1 (0 : Nat))
  (obind (P_slices_Insert_api_Image_api_Image y5.2.1 (((sel (ltI (-1 : Int) (0 : Int))
  ((@len T22zx1 y5.2.1, ()), ())
  (((-1 : Int), ()), ())).1).1, (([y6.2.2.2.1] : List T22zx1), ()))) (fun (y7 : List T22zx1) => some ((x.1.1, (y7, x.1.2.2)), ())))
  (obind (P_slices_Insert_api_Image_api_Image y5.2.1 (((sel (ltI y6.2.1.1 (0 : Int))
  ((@len T22zx1 y5.2.1, ()), ())
  ((y6.2.1.1, ()), ())).1).1, (([y6.2.2.2.1] : List T22zx1), ()))) (fun (y7 : List T22zx1) => some ((x.1.1, (y7, x.1.2.2)), ()))))))
  (obind (sel (leI (0 : Int) y4.2.1.1)
  (obind (P_slices_Delete_api_Image_api_Image x.1.2.1 (y4.2.1.1, (iadd IntKind.i64 y4.2.1.1 (1 : Int), ()))) (fun (y5 : List T22zx1) => some (((), ()), (y5, ()))))
  (some (((), ()), (x.1.2.1, ())))) (fun (y5 : (Unit × Unit) × (List T22zx1) × Unit) => obind (Loop (P_images_Set_L2 y5) (((0 : Int), ((0 : Int), ())), ((), ((x.2.1.1, (y1.1, (x.2.1.2.2.1, (x.2.1.2.2.2.1, (y2.1, x.2.1.2.2.2.2.2))))), ())))) (fun (y6 : Nat × T22zx4 × Unit × T22zx1 × Unit) => sel (eqN y6.1 (0 : Nat))
  (obind (P_slices_Insert_api_Image_api_Image y5.2.1 (((sel (ltI (-1 : Int) (0 : Int))
  ((@len T22zx1 y5.2.1, ()), ())
  (((-1 : Int), ()), ())).1).1, (([y6.2.2.2.1] : List T22zx1), ()))) (fun (y7 : List T22zx1) => some ((x.1.1, (y7, x.1.2.2)), ())))
  (obind (P_slices_Insert_api_Image_api_Image y5.2.1 (((sel (ltI y6.2.1.1 (0 : Int))
  ((@len T22zx1 y5.2.1, ()), ())
  ((y6.2.1.1, ()), ())).1).1, (([y6.2.2.2.1] : List T22zx1), ()))) (fun (y7 : List T22zx1) => some ((x.1.1, (y7, x.1.2.2)), ()))))))))
  none)))

noncomputable def P_images_Create (x : T22zx2 × (List (UInt8)) × (List (List (UInt8))) × (List (UInt8)) × Int × Unit) : Option (T22zx2 × T22zx17 × Unit) :=
  obind (P_names_Check (x.2.2.1, ())) (fun (y1 : Int × Unit) => sel (sel (nt (nt (eqI y1.1 (0 : Int))))
  (ltI (64 : Int) (@len UInt8 x.2.2.2.1))
  true)
  (obind (P_images_fault ((1 : Int), ())) (fun (y2 : T22zx17 × Unit) => some (x.1, (y2.1, ()))))
  (obind (sel (nt (eqS x.2.1 ([] : List (UInt8))))
  (obind (P_layers_Find (x.1, (x.2.1, ()))) (fun (y2 : (List (UInt8)) × Int × Unit) => some ((y2.2.1, ()), ((([] : List (UInt8)), (x.2.2.1, (y2.1, (x.2.2.2.1, (([] : List T22zx0), ()))))), ()))))
  (some (((0 : Int), ()), ((([] : List (UInt8)), (x.2.2.1, (([] : List (UInt8)), (x.2.2.2.1, (([] : List T22zx0), ()))))), ())))) (fun (y2 : (Int × Unit) × T22zx1 × Unit) => obind (sel (eqI y2.1.1 (0 : Int))
  (obind (P_images_named (x.1, ())) (fun (y3 : (List T22zx3) × Unit) => obind (P_names_Free (y3.1, (([] : List (UInt8)), (x.2.2.1, ())))) (fun (y4 : Int × Unit) => some ((y4.1, ()), ()))))
  (some ((y2.1.1, ()), ()))) (fun (y3 : (Int × Unit) × Unit) => obind (sel (eqI y3.1.1 (0 : Int))
  (obind (P_images_named (x.1, ())) (fun (y4 : (List T22zx3) × Unit) => obind (P_lookup_Fresh (y4.1, (x.2.2.2.2.1, ()))) (fun (y5 : (List (UInt8)) × Int × Unit) => some ((y5.2.1, ()), ((y5.1, y2.2.1.2), ())))))
  (some ((y3.1.1, ()), (y2.2.1, ())))) (fun (y4 : (Int × Unit) × T22zx1 × Unit) => sel (nt (eqI y4.1.1 (0 : Int)))
  (obind (P_images_fault (y4.1.1, ())) (fun (y5 : T22zx17 × Unit) => some (x.1, (y5.1, ()))))
  (obind (P_images_Set (x.1, (y4.2.1, ()))) (fun (y5 : T22zx2 × Unit) => some (y5.1, (((0 : Int), (y4.2.1.1, ((0 : Int), (([] : List (UInt8)), ())))), ())))))))))

noncomputable def P_images_Find (x : T22zx2 × (List (UInt8)) × Unit) : Option ((List (UInt8)) × Int × Unit) :=
  obind (P_images_named (x.1, ())) (fun (y1 : (List T22zx3) × Unit) => obind (P_lookup_Find (y1.1, (x.2.1, ()))) (fun (y2 : (List (UInt8)) × Int × Unit) => some (y2.1, (y2.2.1, ()))))

noncomputable def P_images_Delete_L0 (x : T22zx2 × (List (UInt8)) × Unit) (y2 : T22zx4 × (List (UInt8)) × Unit) : Option (T22zx14 ⊕ T22zx11) :=
  sel (ltI y2.1.2.1 (@len T22zx5 x.1.1))
  (obind (@idx T22zx5 x.1.1 y2.1.2.1) (fun (y3 : (List (UInt8)) × (List (List (UInt8))) × (List (UInt8)) × (List (UInt8)) × (List (UInt8)) × (List T22zx0) × Unit) => sel (eqS y3.2.2.1 y2.2.1)
  (some (Sum.inr ((1 : Nat), ((y2.1.2.1, (y2.1.2.1, ())), (y2.2.1, ()))) : (T22zx14) ⊕ (T22zx11)))
  (some (Sum.inl ((y2.1.1, (iadd IntKind.i64 y2.1.2.1 (1 : Int), ())), (y2.2.1, ())) : (T22zx14) ⊕ (T22zx11)))))
  (some (Sum.inr ((0 : Nat), ((y2.1.1, (y2.1.2.1, ())), (y2.2.1, ()))) : (T22zx14) ⊕ (T22zx11)))

noncomputable def P_images_Delete_L1 (x : T22zx2 × (List (UInt8)) × Unit) (y3 : T22zx4 × Unit × (List (UInt8)) × Unit) : Option (T22zx9 ⊕ T22zx8) :=
  sel (ltI y3.1.2.1 (@len T22zx1 x.1.2.1))
  (obind (@idx T22zx1 x.1.2.1 y3.1.2.1) (fun (y4 : (List (UInt8)) × (List (List (UInt8))) × (List (UInt8)) × (List (UInt8)) × (List T22zx0) × Unit) => obind (P_images_id (y4, ())) (fun (y5 : (List (UInt8)) × Unit) => sel (eqS y5.1 y3.2.2.1)
  (some (Sum.inr ((1 : Nat), ((y3.1.2.1, (y3.1.2.1, ())), ((), (y3.2.2.1, ())))) : (T22zx9) ⊕ (T22zx8)))
  (some (Sum.inl ((y3.1.1, (iadd IntKind.i64 y3.1.2.1 (1 : Int), ())), ((), (y3.2.2.1, ()))) : (T22zx9) ⊕ (T22zx8))))))
  (some (Sum.inr ((0 : Nat), ((y3.1.1, (y3.1.2.1, ())), ((), (y3.2.2.1, ())))) : (T22zx9) ⊕ (T22zx8)))

noncomputable def P_images_Delete_L2 (x : T22zx2 × (List (UInt8)) × Unit) (y3 : T22zx4 × Unit × (List (UInt8)) × Unit) : Option (T22zx9 ⊕ T22zx8) :=
  sel (ltI y3.1.2.1 (@len T22zx1 x.1.2.1))
  (obind (@idx T22zx1 x.1.2.1 y3.1.2.1) (fun (y4 : (List (UInt8)) × (List (List (UInt8))) × (List (UInt8)) × (List (UInt8)) × (List T22zx0) × Unit) => obind (P_images_id (y4, ())) (fun (y5 : (List (UInt8)) × Unit) => sel (eqS y5.1 y3.2.2.1)
  (some (Sum.inr ((1 : Nat), ((y3.1.2.1, (y3.1.2.1, ())), ((), (y3.2.2.1, ())))) : (T22zx9) ⊕ (T22zx8)))
  (some (Sum.inl ((y3.1.1, (iadd IntKind.i64 y3.1.2.1 (1 : Int), ())), ((), (y3.2.2.1, ()))) : (T22zx9) ⊕ (T22zx8))))))
  (some (Sum.inr ((0 : Nat), ((y3.1.1, (y3.1.2.1, ())), ((), (y3.2.2.1, ())))) : (T22zx9) ⊕ (T22zx8)))

noncomputable def P_images_Delete (x : T22zx2 × (List (UInt8)) × Unit) : Option (T22zx2 × T22zx17 × Unit) :=
  obind (P_images_Find (x.1, (x.2.1, ()))) (fun (y1 : (List (UInt8)) × Int × Unit) => sel (nt (eqI y1.2.1 (0 : Int)))
  (obind (P_images_fault (y1.2.1, ())) (fun (y2 : T22zx17 × Unit) => some (x.1, (y2.1, ()))))
  (obind (Loop (P_images_Delete_L0 x) (((0 : Int), ((0 : Int), ())), (y1.1, ()))) (fun (y2 : Nat × T22zx4 × (List (UInt8)) × Unit) => sel (eqN y2.1 (0 : Nat))
  (sel (leI (0 : Int) (-1 : Int))
  (obind (P_images_fault ((7 : Int), ())) (fun (y3 : T22zx17 × Unit) => some (x.1, (y3.1, ()))))
  (sel (fits (@len T22zx1 x.1.2.1))
  (obind (Loop (P_images_Delete_L1 x) (((0 : Int), ((0 : Int), ())), ((), (y2.2.2.1, ())))) (fun (y3 : Nat × T22zx4 × Unit × (List (UInt8)) × Unit) => sel (eqN y3.1 (0 : Nat))
  (obind (sel (leI (0 : Int) (-1 : Int))
  (obind (P_slices_Delete_api_Image_api_Image x.1.2.1 ((-1 : Int), (iadd IntKind.i64 (-1 : Int) (1 : Int), ()))) (fun (y4 : List T22zx1) => some (((), ()), (y4, ()))))
  (some (((), ()), (x.1.2.1, ())))) (fun (y4 : (Unit × Unit) × (List T22zx1) × Unit) => some ((x.1.1, (y4.2.1, x.1.2.2)), (((0 : Int), (y2.2.2.1, ((0 : Int), (([] : List (UInt8)), ())))), ()))))
  (obind (sel (leI (0 : Int) y3.2.1.1)
  (obind (P_slices_Delete_api_Image_api_Image x.1.2.1 (y3.2.1.1, (iadd IntKind.i64 y3.2.1.1 (1 : Int), ()))) (fun (y4 : List T22zx1) => some (((), ()), (y4, ()))))
  (some (((), ()), (x.1.2.1, ())))) (fun (y4 : (Unit × Unit) × (List T22zx1) × Unit) => some ((x.1.1, (y4.2.1, x.1.2.2)), (((0 : Int), (y2.2.2.1, ((0 : Int), (([] : List (UInt8)), ())))), ()))))))
  none))
  (sel (leI (0 : Int) y2.2.1.1)
  (obind (P_images_fault ((7 : Int), ())) (fun (y3 : T22zx17 × Unit) => some (x.1, (y3.1, ()))))
  (sel (fits (@len T22zx1 x.1.2.1))
  (obind (Loop (P_images_Delete_L2 x) (((0 : Int), ((0 : Int), ())), ((), (y2.2.2.1, ())))) (fun (y3 : Nat × T22zx4 × Unit × (List (UInt8)) × Unit) => sel (eqN y3.1 (0 : Nat))
  (obind (sel (leI (0 : Int) (-1 : Int))
  (obind (P_slices_Delete_api_Image_api_Image x.1.2.1 ((-1 : Int), (iadd IntKind.i64 (-1 : Int) (1 : Int), ()))) (fun (y4 : List T22zx1) => some (((), ()), (y4, ()))))
  (some (((), ()), (x.1.2.1, ())))) (fun (y4 : (Unit × Unit) × (List T22zx1) × Unit) => some ((x.1.1, (y4.2.1, x.1.2.2)), (((0 : Int), (y2.2.2.1, ((0 : Int), (([] : List (UInt8)), ())))), ()))))
  (obind (sel (leI (0 : Int) y3.2.1.1)
  (obind (P_slices_Delete_api_Image_api_Image x.1.2.1 (y3.2.1.1, (iadd IntKind.i64 y3.2.1.1 (1 : Int), ()))) (fun (y4 : List T22zx1) => some (((), ()), (y4, ()))))
  (some (((), ()), (x.1.2.1, ())))) (fun (y4 : (Unit × Unit) × (List T22zx1) × Unit) => some ((x.1.1, (y4.2.1, x.1.2.2)), (((0 : Int), (y2.2.2.1, ((0 : Int), (([] : List (UInt8)), ())))), ()))))))
  none)))))

noncomputable def P_images_Get_L0 (x : T22zx2 × (List (UInt8)) × Unit) (y1 : T22zx7 × T22zx1 × Unit) : Option ((T22zx7 × T22zx1 × Unit) ⊕ (Nat × T22zx7 × T22zx1 × Unit)) :=
  sel (ltI y1.1.2.1 (@len T22zx1 x.1.2.1))
  (obind (@idx T22zx1 x.1.2.1 y1.1.2.1) (fun (y2 : (List (UInt8)) × (List (List (UInt8))) × (List (UInt8)) × (List (UInt8)) × (List T22zx0) × Unit) => sel (eqS y2.1 x.2.1)
  (obind (P_slices_Clone_string_string (y2.2.1, ())) (fun (y3 : (List (List (UInt8))) × Unit) => obind (P_slices_Clone_api_Item_api_Item (y2.2.2.2.2.1, ())) (fun (y4 : (List T22zx0) × Unit) => some (Sum.inr ((1 : Nat), ((true, (y1.1.2.1, ())), ((y2.1, (y3.1, (y2.2.2.1, (y2.2.2.2.1, (y4.1, y2.2.2.2.2.2))))), ()))) : ((T22zx7 × T22zx1 × Unit)) ⊕ ((Nat × T22zx7 × T22zx1 × Unit))))))
  (some (Sum.inl ((y1.1.1, (iadd IntKind.i64 y1.1.2.1 (1 : Int), ())), (y1.2.1, ())) : ((T22zx7 × T22zx1 × Unit)) ⊕ ((Nat × T22zx7 × T22zx1 × Unit))))))
  (some (Sum.inr ((0 : Nat), ((y1.1.1, (y1.1.2.1, ())), (y1.2.1, ()))) : ((T22zx7 × T22zx1 × Unit)) ⊕ ((Nat × T22zx7 × T22zx1 × Unit))))

noncomputable def P_images_Get (x : T22zx2 × (List (UInt8)) × Unit) : Option (T22zx1 × Bool × Unit) :=
  obind (Loop (P_images_Get_L0 x) ((false, ((0 : Int), ())), ((([] : List (UInt8)), (([] : List (List (UInt8))), (([] : List (UInt8)), (([] : List (UInt8)), (([] : List T22zx0), ()))))), ()))) (fun (y1 : Nat × T22zx7 × T22zx1 × Unit) => sel (eqN y1.1 (0 : Nat))
  (some ((([] : List (UInt8)), (([] : List (List (UInt8))), (([] : List (UInt8)), (([] : List (UInt8)), (([] : List T22zx0), ()))))), (false, ())))
  (some (y1.2.2.1, (y1.2.1.1, ()))))

noncomputable def P_law22_awake (x : Unit) : Option (Bool × Unit) :=
  obind (P_images_Create ((([] : List T22zx5), (([] : List T22zx1), (([] : List T22zx6), (([] : List (List (UInt8))), (([] : List ((List (UInt8)) × Int × Unit)), ()))))), (([] : List (UInt8)), (([([(119 : UInt8), (101 : UInt8), (98 : UInt8)] : List (UInt8))] : List (List (UInt8))), (([(109 : UInt8)] : List (UInt8)), ((7 : Int), ())))))) (fun (y1 : T22zx2 × T22zx17 × Unit) => obind (P_images_Create (y1.1, (([(120 : UInt8)] : List (UInt8)), (([] : List (List (UInt8))), (([] : List (UInt8)), ((7 : Int), ())))))) (fun (y2 : T22zx2 × T22zx17 × Unit) => obind (P_images_Delete ((([(([(48 : UInt8), (48 : UInt8), (48 : UInt8), (48 : UInt8), (48 : UInt8), (49 : UInt8)] : List (UInt8)), (([] : List (List (UInt8))), (([(48 : UInt8), (48 : UInt8), (48 : UInt8), (48 : UInt8), (48 : UInt8), (55 : UInt8)] : List (UInt8)), (([] : List (UInt8)), (([] : List (UInt8)), (([] : List T22zx0), ()))))))] : List T22zx5), y1.1.2), (([(119 : UInt8), (101 : UInt8), (98 : UInt8)] : List (UInt8)), ()))) (fun (y3 : T22zx2 × T22zx17 × Unit) => obind (P_images_Delete (y1.1, (([(119 : UInt8), (101 : UInt8), (98 : UInt8)] : List (UInt8)), ()))) (fun (y4 : T22zx2 × T22zx17 × Unit) => obind (P_images_PutItem (([] : List T22zx0), (([(107 : UInt8)] : List (UInt8)), (([(118 : UInt8)] : List (UInt8)), ())))) (fun (y5 : (List T22zx0) × Int × Unit) => obind (P_images_GetItem (y5.1, (([(107 : UInt8)] : List (UInt8)), ()))) (fun (y6 : (List (UInt8)) × Int × Unit) => obind (P_images_Get (y1.1, (([(48 : UInt8), (48 : UInt8), (48 : UInt8), (48 : UInt8), (48 : UInt8), (55 : UInt8)] : List (UInt8)), ()))) (fun (y7 : T22zx1 × Bool × Unit) => some (sel (sel (sel (sel (sel (sel (sel (sel (sel (an (eqI y1.2.1.1 (0 : Int)) (an (eqS y1.2.1.2.1 ([(48 : UInt8), (48 : UInt8), (48 : UInt8), (48 : UInt8), (48 : UInt8), (55 : UInt8)] : List (UInt8))) (an (eqI y1.2.1.2.2.1 (0 : Int)) (an (eqS y1.2.1.2.2.2.1 ([] : List (UInt8))) true))))
  (eqI y2.2.1.1 (3 : Int))
  false)
  (eqI y3.2.1.1 (7 : Int))
  false)
  (eqS y4.2.1.2.1 ([(48 : UInt8), (48 : UInt8), (48 : UInt8), (48 : UInt8), (48 : UInt8), (55 : UInt8)] : List (UInt8)))
  false)
  (eqI (@len T22zx1 y4.1.2.1) (0 : Int))
  false)
  (eqI y5.2.1 (0 : Int))
  false)
  (eqS y6.1 ([(118 : UInt8)] : List (UInt8)))
  false)
  (eqI y6.2.1 (0 : Int))
  false)
  y7.2.1
  false)
  (eqS y7.1.2.2.2.1 ([(109 : UInt8)] : List (UInt8)))
  false, ()))))))))

noncomputable def P_ref06_IsName_L0 (x : (List (UInt8)) × Unit) (y1 : T22zx7 × Unit) : Option (T22zx24 ⊕ T22zx15) :=
  sel (ltI y1.1.2.1 (@len UInt8 x.1))
  (obind (@idx UInt8 x.1 y1.1.2.1) (fun (y2 : UInt8) => sel (sel (sel (sel (sel (sel (nt (ltI (u8 y2) (97 : Int)))
  (ltI (122 : Int) (u8 y2))
  true)
  (sel (nt (ltI (u8 y2) (48 : Int)))
  (ltI (57 : Int) (u8 y2))
  true)
  false)
  (nt (eqI (u8 y2) (46 : Int)))
  false)
  (nt (eqI (u8 y2) (95 : Int)))
  false)
  (nt (eqI (u8 y2) (45 : Int)))
  false)
  (some (Sum.inr ((1 : Nat), ((false, (y1.1.2.1, ())), ())) : (T22zx24) ⊕ (T22zx15)))
  (some (Sum.inl ((y1.1.1, (iadd IntKind.i64 y1.1.2.1 (1 : Int), ())), ()) : (T22zx24) ⊕ (T22zx15)))))
  (some (Sum.inr ((0 : Nat), ((y1.1.1, (y1.1.2.1, ())), ())) : (T22zx24) ⊕ (T22zx15)))

noncomputable def P_ref06_IsName (x : (List (UInt8)) × Unit) : Option (Bool × Unit) :=
  obind (Loop (P_ref06_IsName_L0 x) ((false, ((0 : Int), ())), ())) (fun (y1 : Nat × T22zx7 × Unit) => sel (eqN y1.1 (0 : Nat))
  (some (sel (leI (1 : Int) (@len UInt8 x.1))
  (leI (@len UInt8 x.1) (32 : Int))
  false, ()))
  (some (y1.2.1.1, ())))

noncomputable def P_ref22_PutItem_L0 (x : (List T22zx0) × (List (UInt8)) × (List (UInt8)) × Unit) (y2 : T22zx4 × Unit) : Option ((T22zx4 × Unit) ⊕ (T22zx4 × Unit)) :=
  @way1 (T22zx4 × Unit) (sel (leI (0 : Int) y2.1.2.1)
  (obind (@idx T22zx0 x.1 y2.1.2.1) (fun (y3 : (List (UInt8)) × (List (UInt8)) × (List (UInt8)) × Unit) => some (Sum.inl ((((sel (eqS y3.1 x.2.1)
  ((y2.1.2.1, ()), ())
  ((y2.1.1, ()), ())).1).1, (isub IntKind.i64 y2.1.2.1 (1 : Int), ())), ()) : ((T22zx4 × Unit)) ⊕ ((Nat × T22zx4 × Unit)))))
  (some (Sum.inr ((0 : Nat), ((y2.1.1, (y2.1.2.1, ())), ())) : ((T22zx4 × Unit)) ⊕ ((Nat × T22zx4 × Unit)))))

noncomputable def P_ref22_PutItem_L1 (x : (List T22zx0) × (List (UInt8)) × (List (UInt8)) × Unit) (y2 : T22zx4 × Unit) (y3 : T22zx28 × (List T22zx0) × Unit) : Option ((T22zx28 × (List T22zx0) × Unit) ⊕ (T22zx28 × (List T22zx0) × Unit)) :=
  @way1 (T22zx28 × (List T22zx0) × Unit) (sel (ltI y3.1.2.1 (@len T22zx0 x.1))
  (obind (sel (nt (eqI y3.1.2.1 y2.1.1))
  (obind (@idx T22zx0 x.1 y3.1.2.1) (fun (y4 : (List (UInt8)) × (List (UInt8)) × (List (UInt8)) × Unit) => sel (fits (plus (@len T22zx0 y3.2.1) (@len T22zx0 ([y4] : List T22zx0))))
  (some (((), ()), (@app T22zx0 y3.2.1 ([y4] : List T22zx0), ())))
  none))
  (some (((), ()), (y3.2.1, ())))) (fun (y4 : (Unit × Unit) × (List T22zx0) × Unit) => some (Sum.inl (((), (iadd IntKind.i64 y3.1.2.1 (1 : Int), ())), (y4.2.1, ())) : ((T22zx28 × (List T22zx0) × Unit)) ⊕ ((Nat × T22zx28 × (List T22zx0) × Unit)))))
  (some (Sum.inr ((0 : Nat), (((), (y3.1.2.1, ())), (y3.2.1, ()))) : ((T22zx28 × (List T22zx0) × Unit)) ⊕ ((Nat × T22zx28 × (List T22zx0) × Unit)))))

noncomputable def P_ref22_PutItem_L2 (x : (List T22zx0) × (List (UInt8)) × (List (UInt8)) × Unit) (y3 : T22zx28 × (List T22zx0) × Unit) (y4 : (Int × Unit) × Unit) : Option (((Int × Unit) × Unit) ⊕ ((Int × Unit) × Unit)) :=
  @way1 ((Int × Unit) × Unit) (obind (sel (ltI y4.1.1 (@len T22zx0 y3.2.1))
  (sel (within y4.1.1 (@len T22zx0 y3.2.1))
  (obind (@idx T22zx0 y3.2.1 y4.1.1) (fun (y5 : (List (UInt8)) × (List (UInt8)) × (List (UInt8)) × Unit) => some (ltS y5.1 x.2.1)))
  none)
  (some false)) (fun (y5 : Bool) => sel y5
  (some (Sum.inl ((iadd IntKind.i64 y4.1.1 (1 : Int), ()), ()) : (((Int × Unit) × Unit)) ⊕ ((Nat × (Int × Unit) × Unit))))
  (some (Sum.inr ((0 : Nat), ((y4.1.1, ()), ())) : (((Int × Unit) × Unit)) ⊕ ((Nat × (Int × Unit) × Unit))))))

noncomputable def P_ref22_PutItem (x : (List T22zx0) × (List (UInt8)) × (List (UInt8)) × Unit) : Option ((List T22zx0) × Int × Unit) :=
  obind (P_ref06_IsName (x.2.1, ())) (fun (y1 : Bool × Unit) => sel (sel (nt (nt y1.1))
  (ltI (64 : Int) (@len UInt8 x.2.2.1))
  true)
  (some (([] : List T22zx0), ((1 : Int), ())))
  (obind (Loop (P_ref22_PutItem_L0 x) (((-1 : Int), (isub IntKind.i64 (@len T22zx0 x.1) (1 : Int), ())), ())) (fun (y2 : T22zx4 × Unit) => sel (sel (ltI y2.1.1 (0 : Int))
  (leI (4 : Int) (@len T22zx0 x.1))
  false)
  (some (([] : List T22zx0), ((5 : Int), ())))
  (obind (Loop (P_ref22_PutItem_L1 x y2) (((), ((0 : Int), ())), (([] : List T22zx0), ()))) (fun (y3 : T22zx28 × (List T22zx0) × Unit) => obind (Loop (P_ref22_PutItem_L2 x y3) (((0 : Int), ()), ())) (fun (y4 : (Int × Unit) × Unit) => sel (inside (0 : Int) y4.1.1 (@len T22zx0 y3.2.1))
  (sel (fits (plus (@len T22zx0 ([] : List T22zx0)) (@len T22zx0 (@sub T22zx0 y3.2.1 (0 : Int) (minus y4.1.1 (0 : Int))))))
  (obind (P_ref03_Of (x.2.2.1, ())) (fun (y5 : (List (UInt8)) × Unit) => sel (fits (plus (@len T22zx0 (@app T22zx0 ([] : List T22zx0) (@sub T22zx0 y3.2.1 (0 : Int) (minus y4.1.1 (0 : Int))))) (@len T22zx0 ([(x.2.1, (y5.1, (x.2.2.1, ())))] : List T22zx0))))
  (sel (inside y4.1.1 (@len T22zx0 y3.2.1) (@len T22zx0 y3.2.1))
  (sel (fits (plus (@len T22zx0 (@app T22zx0 (@app T22zx0 ([] : List T22zx0) (@sub T22zx0 y3.2.1 (0 : Int) (minus y4.1.1 (0 : Int)))) ([(x.2.1, (y5.1, (x.2.2.1, ())))] : List T22zx0))) (@len T22zx0 (@sub T22zx0 y3.2.1 y4.1.1 (minus (@len T22zx0 y3.2.1) y4.1.1)))))
  (some (@app T22zx0 (@app T22zx0 (@app T22zx0 ([] : List T22zx0) (@sub T22zx0 y3.2.1 (0 : Int) (minus y4.1.1 (0 : Int)))) ([(x.2.1, (y5.1, (x.2.2.1, ())))] : List T22zx0)) (@sub T22zx0 y3.2.1 y4.1.1 (minus (@len T22zx0 y3.2.1) y4.1.1)), ((0 : Int), ())))
  none)
  none)
  none))
  none)
  none))))))

noncomputable def P_ref22_GetItem_L0 (x : (List T22zx0) × (List (UInt8)) × Unit) (y1 : T22zx12 × Unit) : Option ((T22zx12 × Unit) ⊕ (Nat × T22zx12 × Unit)) :=
  sel (ltI y1.1.2.2.1 (@len T22zx0 x.1))
  (obind (@idx T22zx0 x.1 y1.1.2.2.1) (fun (y2 : (List (UInt8)) × (List (UInt8)) × (List (UInt8)) × Unit) => sel (eqS y2.1 x.2.1)
  (obind (@idx T22zx0 x.1 y1.1.2.2.1) (fun (y3 : (List (UInt8)) × (List (UInt8)) × (List (UInt8)) × Unit) => some (Sum.inr ((1 : Nat), ((y3.2.2.1, ((0 : Int), (y1.1.2.2.1, ()))), ())) : ((T22zx12 × Unit)) ⊕ ((Nat × T22zx12 × Unit)))))
  (some (Sum.inl ((y1.1.1, (y1.1.2.1, (iadd IntKind.i64 y1.1.2.2.1 (1 : Int), ()))), ()) : ((T22zx12 × Unit)) ⊕ ((Nat × T22zx12 × Unit))))))
  (some (Sum.inr ((0 : Nat), ((y1.1.1, (y1.1.2.1, (y1.1.2.2.1, ()))), ())) : ((T22zx12 × Unit)) ⊕ ((Nat × T22zx12 × Unit))))

noncomputable def P_ref22_GetItem (x : (List T22zx0) × (List (UInt8)) × Unit) : Option ((List (UInt8)) × Int × Unit) :=
  obind (Loop (P_ref22_GetItem_L0 x) ((([] : List (UInt8)), ((0 : Int), ((0 : Int), ()))), ())) (fun (y1 : Nat × T22zx12 × Unit) => sel (eqN y1.1 (0 : Nat))
  (some (([] : List (UInt8)), ((3 : Int), ())))
  (some (y1.2.1.1, (y1.2.1.2.1, ()))))

noncomputable def P_ref06_SameItems_L0 (x : (List T22zx0) × (List T22zx0) × Unit) (y1 : T22zx7 × Unit) : Option (T22zx24 ⊕ T22zx15) :=
  sel (sel (ltI y1.1.2.1 (@len T22zx0 x.1))
  (ltI y1.1.2.1 (@len T22zx0 x.2.1))
  false)
  (obind (@idx T22zx0 x.1 y1.1.2.1) (fun (y2 : (List (UInt8)) × (List (UInt8)) × (List (UInt8)) × Unit) => obind (@idx T22zx0 x.2.1 y1.1.2.1) (fun (y3 : (List (UInt8)) × (List (UInt8)) × (List (UInt8)) × Unit) => sel (nt (an (eqS y2.1 y3.1) (an (eqS y2.2.1 y3.2.1) (an (eqS y2.2.2.1 y3.2.2.1) true))))
  (some (Sum.inr ((1 : Nat), ((false, (y1.1.2.1, ())), ())) : (T22zx24) ⊕ (T22zx15)))
  (some (Sum.inl ((y1.1.1, (iadd IntKind.i64 y1.1.2.1 (1 : Int), ())), ()) : (T22zx24) ⊕ (T22zx15))))))
  (some (Sum.inr ((0 : Nat), ((y1.1.1, (y1.1.2.1, ())), ())) : (T22zx24) ⊕ (T22zx15)))

noncomputable def P_ref06_SameItems (x : (List T22zx0) × (List T22zx0) × Unit) : Option (Bool × Unit) :=
  sel (nt (eqI (@len T22zx0 x.1) (@len T22zx0 x.2.1)))
  (some (false, ()))
  (obind (Loop (P_ref06_SameItems_L0 x) ((false, ((0 : Int), ())), ())) (fun (y1 : Nat × T22zx7 × Unit) => sel (eqN y1.1 (0 : Nat))
  (some (true, ()))
  (some (y1.2.1.1, ()))))

noncomputable def P_ref06_Items_L0 (x : (List T22zx0) × Unit) (y1 : T22zx7 × Unit) : Option (T22zx24 ⊕ T22zx15) :=
  sel (ltI y1.1.2.1 (@len T22zx0 x.1))
  (obind (@idx T22zx0 x.1 y1.1.2.1) (fun (y2 : (List (UInt8)) × (List (UInt8)) × (List (UInt8)) × Unit) => obind (P_ref06_IsName (y2.1, ())) (fun (y3 : Bool × Unit) => sel (nt y3.1)
  (some (Sum.inr ((1 : Nat), ((false, (y1.1.2.1, ())), ())) : (T22zx24) ⊕ (T22zx15)))
  (obind (@idx T22zx0 x.1 y1.1.2.1) (fun (y4 : (List (UInt8)) × (List (UInt8)) × (List (UInt8)) × Unit) => sel (ltI (64 : Int) (@len UInt8 y4.2.2.1))
  (some (Sum.inr ((1 : Nat), ((false, (y1.1.2.1, ())), ())) : (T22zx24) ⊕ (T22zx15)))
  (obind (@idx T22zx0 x.1 y1.1.2.1) (fun (y5 : (List (UInt8)) × (List (UInt8)) × (List (UInt8)) × Unit) => obind (@idx T22zx0 x.1 y1.1.2.1) (fun (y6 : (List (UInt8)) × (List (UInt8)) × (List (UInt8)) × Unit) => obind (P_ref03_Of (y6.2.2.1, ())) (fun (y7 : (List (UInt8)) × Unit) => sel (nt (eqS y5.2.1 y7.1))
  (some (Sum.inr ((1 : Nat), ((false, (y1.1.2.1, ())), ())) : (T22zx24) ⊕ (T22zx15)))
  (sel (ltI (0 : Int) y1.1.2.1)
  (obind (@idx T22zx0 x.1 (isub IntKind.i64 y1.1.2.1 (1 : Int))) (fun (y8 : (List (UInt8)) × (List (UInt8)) × (List (UInt8)) × Unit) => obind (@idx T22zx0 x.1 y1.1.2.1) (fun (y9 : (List (UInt8)) × (List (UInt8)) × (List (UInt8)) × Unit) => sel (nt (ltS y8.1 y9.1))
  (some (Sum.inr ((1 : Nat), ((false, (y1.1.2.1, ())), ())) : (T22zx24) ⊕ (T22zx15)))
  (some (Sum.inl ((y1.1.1, (iadd IntKind.i64 y1.1.2.1 (1 : Int), ())), ()) : (T22zx24) ⊕ (T22zx15))))))
  (some (Sum.inl ((y1.1.1, (iadd IntKind.i64 y1.1.2.1 (1 : Int), ())), ()) : (T22zx24) ⊕ (T22zx15)))))))))))))
  (some (Sum.inr ((0 : Nat), ((y1.1.1, (y1.1.2.1, ())), ())) : (T22zx24) ⊕ (T22zx15)))

noncomputable def P_ref06_Items (x : (List T22zx0) × Unit) : Option (Bool × Unit) :=
  obind (Loop (P_ref06_Items_L0 x) ((false, ((0 : Int), ())), ())) (fun (y1 : Nat × T22zx7 × Unit) => sel (eqN y1.1 (0 : Nat))
  (some (leI (@len T22zx0 x.1) (4 : Int), ()))
  (some (y1.2.1.1, ())))

noncomputable def P_law22_ImagesItems_L0 (x : (List T22zx0) × (List (UInt8)) × (List (UInt8)) × Unit) (y2 : (List T22zx0) × Int × Unit) (y9 : T22zx7 × Unit) : Option (T22zx24 ⊕ T22zx15) :=
  sel (ltI y9.1.2.1 (@len T22zx0 x.1))
  (obind (@idx T22zx0 x.1 y9.1.2.1) (fun (y10 : (List (UInt8)) × (List (UInt8)) × (List (UInt8)) × Unit) => obind (P_images_GetItem (y2.1, (y10.1, ()))) (fun (y11 : (List (UInt8)) × Int × Unit) => obind (@idx T22zx0 x.1 y9.1.2.1) (fun (y12 : (List (UInt8)) × (List (UInt8)) × (List (UInt8)) × Unit) => obind (sel (nt (eqS y12.1 x.2.1))
  (obind (@idx T22zx0 x.1 y9.1.2.1) (fun (y13 : (List (UInt8)) × (List (UInt8)) × (List (UInt8)) × Unit) => some (sel (nt (nt (eqS y11.1 y13.2.2.1)))
  (nt (eqI y11.2.1 (0 : Int)))
  true)))
  (some false)) (fun (y13 : Bool) => sel y13
  (some (Sum.inr ((1 : Nat), ((false, (y9.1.2.1, ())), ())) : (T22zx24) ⊕ (T22zx15)))
  (some (Sum.inl ((y9.1.1, (iadd IntKind.i64 y9.1.2.1 (1 : Int), ())), ()) : (T22zx24) ⊕ (T22zx15))))))))
  (some (Sum.inr ((0 : Nat), ((y9.1.1, (y9.1.2.1, ())), ())) : (T22zx24) ⊕ (T22zx15)))

noncomputable def P_law22_ImagesItems (x : (List T22zx0) × (List (UInt8)) × (List (UInt8)) × Unit) : Option (Bool × Unit) :=
  obind (P_ref06_Few (((0 : Int), (([] : List T22zx6), (([(([] : List (UInt8)), (([] : List (List (UInt8))), (([] : List (UInt8)), (([] : List (UInt8)), (x.1, ())))))] : List T22zx1), (([] : List T22zx5), ())))), ())) (fun (y1 : Bool × Unit) => sel (sel (nt (sel (nt (nt y1.1))
  (ltI (100 : Int) (@len UInt8 x.2.1))
  true))
  (ltI (200 : Int) (@len UInt8 x.2.2.1))
  true)
  (obind (P_law22_awake ()) (fun (y2 : Bool × Unit) => some (y2.1, ())))
  (obind (P_images_PutItem (x.1, (x.2.1, (x.2.2.1, ())))) (fun (y2 : (List T22zx0) × Int × Unit) => obind (P_ref22_PutItem (x.1, (x.2.1, (x.2.2.1, ())))) (fun (y3 : (List T22zx0) × Int × Unit) => obind (P_images_GetItem (x.1, (x.2.1, ()))) (fun (y4 : (List (UInt8)) × Int × Unit) => obind (P_ref22_GetItem (x.1, (x.2.1, ()))) (fun (y5 : (List (UInt8)) × Int × Unit) => obind (P_ref06_SameItems (y2.1, (y3.1, ()))) (fun (y6 : Bool × Unit) => sel (sel (nt (sel (nt (sel (nt (nt y6.1))
  (nt (eqI y2.2.1 y3.2.1))
  true))
  (nt (eqS y4.1 y5.1))
  true))
  (nt (eqI y4.2.1 y5.2.1))
  true)
  (some (false, ()))
  (obind (sel (nt (nt (eqI y2.2.1 (0 : Int))))
  (obind (P_ref06_Items (x.1, ())) (fun (y7 : Bool × Unit) => some (nt y7.1)))
  (some true)) (fun (y7 : Bool) => sel y7
  (obind (P_law22_awake ()) (fun (y8 : Bool × Unit) => some (y8.1, ())))
  (obind (P_images_GetItem (y2.1, (x.2.1, ()))) (fun (y8 : (List (UInt8)) × Int × Unit) => obind (Loop (P_law22_ImagesItems_L0 x y2) ((false, ((0 : Int), ())), ())) (fun (y9 : Nat × T22zx7 × Unit) => sel (eqN y9.1 (0 : Nat))
  (obind (sel (sel (eqS y8.1 x.2.2.1)
  (eqI y8.2.1 (0 : Int))
  false)
  (obind (P_ref06_Items (y2.1, ())) (fun (y10 : Bool × Unit) => some y10.1))
  (some false)) (fun (y10 : Bool) => obind (sel y10
  (obind (P_law22_awake ()) (fun (y11 : Bool × Unit) => some y11.1))
  (some false)) (fun (y11 : Bool) => some (y11, ()))))
  (some (y9.2.1.1, ()))))))))))))))
end Go.Ge

/- Plain laws of numbers: sums that stay in range, bits of words. -/
namespace Go.Ge
set_option linter.unusedVariables false
set_option linter.unusedSimpArgs false

theorem iadd_i64 {a b : Int} (h : -9223372036854775808 ≤ a + b) (h2 : a + b ≤ 9223372036854775807) : iadd .i64 a b = a + b := by
  unfold iadd; simp [IntKind.wrap, IntKind.min, IntKind.max, IntKind.signed, IntKind.bits]; omega
theorem isub_i64 {a b : Int} (h : -9223372036854775808 ≤ a - b) (h2 : a - b ≤ 9223372036854775807) : isub .i64 a b = a - b := by
  unfold isub; simp [IntKind.wrap, IntKind.min, IntKind.max, IntKind.signed, IntKind.bits]; omega
theorem imul_i64 {a b : Int} (h : -9223372036854775808 ≤ a * b) (h2 : a * b ≤ 9223372036854775807) : imul .i64 a b = a * b := by
  unfold imul; simp [IntKind.wrap, IntKind.min, IntKind.max, IntKind.signed, IntKind.bits]; omega
theorem icv_i64 {a : Int} (h : -9223372036854775808 ≤ a) (h2 : a ≤ 9223372036854775807) : icv .i64 a = a := by
  unfold icv; simp [IntKind.wrap, IntKind.min, IntKind.max, IntKind.signed, IntKind.bits]; omega
theorem wrap_u32 (a : Int) : IntKind.wrap .u32 a = a % 4294967296 := by
  simp [IntKind.wrap, IntKind.min, IntKind.max, IntKind.signed, IntKind.bits]

/-! ### Words of 32 bits -/
def Bv (x : Int) : BitVec 32 := BitVec.ofInt 32 x
def Can (x : Int) : Prop := 0 ≤ x ∧ x < 4294967296

theorem can_wrap (a : Int) : Can (IntKind.wrap .u32 a) := by rw [wrap_u32]; unfold Can; omega
theorem bv_toNat (a : Int) : ((Bv a).toNat : Int) = a % 4294967296 := by
  unfold Bv
  rw [BitVec.toNat_ofInt]
  have : 0 ≤ a % ((2 ^ 32 : Nat) : Int) := Int.emod_nonneg _ (by decide)
  rw [Int.toNat_of_nonneg this]; rfl
theorem eq32 {a b : Int} (ha : Can a) (hb : Can b) (h : Bv a = Bv b) : a = b := by
  have h1 := bv_toNat a
  have h2 := bv_toNat b
  rw [h] at h1
  unfold Can at ha hb
  omega
theorem bv_wrap (a : Int) : Bv (IntKind.wrap .u32 a) = Bv a := by
  apply BitVec.eq_of_toNat_eq
  have h1 := bv_toNat a
  have h2 := bv_toNat (IntKind.wrap .u32 a)
  rw [wrap_u32] at h2 ⊢
  omega
theorem bv_nat (v : BitVec 32) : Bv (v.toNat : Int) = v := by
  apply BitVec.eq_of_toNat_eq
  have h1 := bv_toNat (v.toNat : Int)
  have := v.isLt
  omega
theorem bv_and (x y : Int) : Bv (iand .u32 x y) = Bv x &&& Bv y := by unfold iand; rw [bv_wrap]; exact bv_nat _
theorem bv_or (x y : Int) : Bv (ior .u32 x y) = Bv x ||| Bv y := by unfold ior; rw [bv_wrap]; exact bv_nat _
theorem bv_xor (x y : Int) : Bv (ixor .u32 x y) = Bv x ^^^ Bv y := by unfold ixor; rw [bv_wrap]; exact bv_nat _
theorem can_or (x y : Int) : Can (ior .u32 x y) := can_wrap _
theorem can_xor (x y : Int) : Can (ixor .u32 x y) := can_wrap _
theorem bv_shl (x : Int) (n : Nat) (hn : n ≤ 32) : Bv (ishl .u32 x n) = Bv x <<< n := by
  unfold ishl
  rw [bv_wrap]
  apply BitVec.eq_of_toNat_eq
  have h1 := bv_toNat (x * 2 ^ (min (n : Int).toNat IntKind.u32.bits))
  have h2 := bv_toNat x
  have e : min (n : Int).toNat IntKind.u32.bits = n := by simp [IntKind.bits]; omega
  rw [e] at h1 ⊢
  rw [BitVec.toNat_shiftLeft, Nat.shiftLeft_eq]
  have h3 : (((Bv x).toNat * 2 ^ n % 2 ^ 32 : Nat) : Int) = (x * 2 ^ n) % 4294967296 := by
    rw [Int.natCast_emod, Int.natCast_mul, h2, Int.natCast_pow]
    show (x % 4294967296 * 2 ^ n) % 4294967296 = _
    rw [Int.mul_emod, Int.emod_emod_of_dvd _ (Int.dvd_refl _), ← Int.mul_emod]
  omega
theorem ior_comm32 (x y : Int) : ior .u32 x y = ior .u32 y x := eq32 (can_or _ _) (can_or _ _) (by rw [bv_or, bv_or, BitVec.or_comm])
theorem iadd_comm32 (x y : Int) : iadd .u32 x y = iadd .u32 y x := by unfold iadd; rw [Int.add_comm]

/-- The choice of words, in both spellings. -/
theorem ch_eq (e f g : Int) : ixor .u32 g (iand .u32 e (ixor .u32 f g)) = ixor .u32 (iand .u32 e f) (iand .u32 (ixor .u32 4294967295 e) g) := by
  refine eq32 (can_xor _ _) (can_xor _ _) ?_
  simp only [bv_xor, bv_and]
  have h : Bv 4294967295 = BitVec.allOnes 32 := by decide
  rw [h]
  ext i hi
  simp only [BitVec.getElem_xor, BitVec.getElem_and, BitVec.getElem_allOnes]
  cases (Bv e)[i] <;> cases (Bv f)[i] <;> cases (Bv g)[i] <;> rfl
theorem maj_eq (a b c : Int) : ior .u32 (iand .u32 a b) (iand .u32 c (ior .u32 a b)) = ixor .u32 (ixor .u32 (iand .u32 a b) (iand .u32 a c)) (iand .u32 b c) := by
  refine eq32 (can_or _ _) (can_xor _ _) ?_
  simp only [bv_xor, bv_and, bv_or]
  ext i hi
  simp only [BitVec.getElem_xor, BitVec.getElem_and, BitVec.getElem_or]
  cases (Bv a)[i] <;> cases (Bv b)[i] <;> cases (Bv c)[i] <;> rfl
/-- Four bytes as a word, in both spellings. -/
theorem four_eq (a b c d : Int) : ior .u32 (ishl .u32 (ior .u32 (ishl .u32 (ior .u32 (ishl .u32 (ior .u32 (ishl .u32 0 8) a) 8) b) 8) c) 8) d = ior .u32 (ior .u32 (ior .u32 (ishl .u32 a 24) (ishl .u32 b 16)) (ishl .u32 c 8)) d := by
  refine eq32 (can_or _ _) (can_or _ _) ?_
  have s8 : ∀ x, Bv (ishl .u32 x 8) = Bv x <<< 8 := fun x => bv_shl x 8 (by decide)
  have s16 : ∀ x, Bv (ishl .u32 x 16) = Bv x <<< 16 := fun x => bv_shl x 16 (by decide)
  have s24 : ∀ x, Bv (ishl .u32 x 24) = Bv x <<< 24 := fun x => bv_shl x 24 (by decide)
  simp only [bv_or, s8, s16, s24]
  have z : Bv 0 = 0#32 := by decide
  rw [z]
  simp [BitVec.shiftLeft_or_distrib, ← BitVec.shiftLeft_add]

/-! ### Tests and places, decided -/
theorem ltI_true {a b : Int} (h : a < b) : ltI a b = true := by simp [ltI, h]
theorem ltI_false {a b : Int} (h : b ≤ a) : ltI a b = false := by simp [ltI]; omega
theorem leI_true {a b : Int} (h : a ≤ b) : leI a b = true := by simp [leI, h]
theorem leI_false {a b : Int} (h : b < a) : leI a b = false := by simp [leI]; omega
theorem eqI_true {a b : Int} (h : a = b) : eqI a b = true := by simp [eqI, h]
theorem eqI_false {a b : Int} (h : a ≠ b) : eqI a b = false := by simp [eqI, h]
theorem within_true {i n : Int} (h0 : 0 ≤ i) (h1 : i < n) : within i n = true := by simp [within, h0, h1]
theorem inside_true {i j n : Int} (h0 : 0 ≤ i) (h1 : i ≤ j) (h2 : j ≤ n) : inside i j n = true := by simp [inside, h0, h1, h2]
theorem fits_true {n : Int} (h : n ≤ 4294967296) : fits n = true := by simp [fits, h]
theorem way1_inl {S : Type} (s : S) : way1 (some (.inl s : S ⊕ (Nat × S))) = some (.inl s) := rfl
theorem way1_inr {S : Type} (n : Nat) (s : S) : way1 (some (.inr (n, s) : S ⊕ (Nat × S))) = some (.inr s) := rfl
theorem idx_getD {α : Type} (l : List α) (d : α) {i : Nat} (h : i < l.length) : idx l (i : Int) = some (l.getD i d) := by
  rw [idx_nat, List.getElem?_eq_getElem h, List.getD_eq_getElem?_getD, List.getElem?_eq_getElem h]; rfl
theorem idx_at {α : Type} (l : List α) (d : α) {i : Int} {k : Nat} (e : i = k) (h : k < l.length) : idx l i = some (l.getD k d) := by subst e; exact idx_getD l d h
theorem lset_nat {α : Type} (l : List α) (i : Nat) (x : α) : lset l (i : Int) x = l.set i x := by simp [lset]
end Go.Ge

/- Plain laws of loops that go through a list, of words in natural numbers. -/
namespace Go.Ge
set_option linter.unusedVariables false
set_option linter.unusedSimpArgs false

/-! ### Words in natural numbers -/
theorem ltI_len {α : Type} (i : Nat) (l : List α) : ltI (i : Int) (len l) = decide (i < l.length) := by simp [ltI, len]
theorem ltI_len0 {α : Type} (l : List α) : ltI (0 : Int) (len l) = decide (0 < l.length) := ltI_len 0 l
theorem fits_len2 {α β : Type} {l : List α} {m : List β} (h : l.length + m.length ≤ 4294967296) : fits (plus (len l) (len m)) = true := by
  apply fits_true; simp only [plus, len]; omega
theorem eqS_iff {a b : List UInt8} : eqS a b = decide (a = b) := rfl
theorem eqS_false {a b : List UInt8} (h : a ≠ b) : eqS a b = false := by simp [eqS, h]
theorem eqS_true {a b : List UInt8} (h : a = b) : eqS a b = true := by simp [eqS, h]
theorem sub_take {α : Type} (l : List α) (n : Nat) : sub l 0 (minus (n : Int) 0) = l.take n := by
  unfold sub minus
  simp
theorem sub_drop {α : Type} (l : List α) (n : Nat) (h : n ≤ l.length) : sub l (n : Int) (minus (len l) (n : Int)) = l.drop n := by
  unfold sub minus len
  rw [Int.toNat_natCast]
  apply List.take_of_length_le
  rw [List.length_drop]
  omega
theorem getElem?_lt {α : Type} {l : List α} {i : Nat} {x : α} (h : l[i]? = some x) : i < l.length := (List.getElem?_eq_some_iff.1 h).1
theorem inside_nat {a b n : Nat} (h : a ≤ b) (k : b ≤ n) : inside (a : Int) (b : Int) (n : Int) = true := inside_true (by omega) (by omega) (by omega)
theorem inside_len {α : Type} {a b : Nat} {l : List α} (h : a ≤ b) (k : b ≤ l.length) : inside (a : Int) (b : Int) (len l) = true := inside_nat h k
theorem idx_some' {α : Type} {l : List α} {i : Nat} {x : α} (h : l[i]? = some x) : idx l (i : Int) = some x := by rw [idx_nat, h]
theorem ltI_len_true {α : Type} {l : List α} {i : Nat} (h : i < l.length) : ltI (i : Int) (len l) = true := by rw [ltI_len, decide_eq_true h]
theorem ltI_len_end {α : Type} {l : List α} : ltI (l.length : Int) (len l) = false := by rw [ltI_len, decide_eq_false (by omega)]
theorem app_eq {α : Type} (l m : List α) : app l m = l ++ m := rfl
theorem len_eq {α : Type} (l : List α) : len l = (l.length : Int) := rfl
end Go.Ge

/- The order of texts; two lists gone through side by side. -/
namespace Go.Ge
set_option linter.unusedVariables false
set_option linter.unusedSimpArgs false

theorem ltS_nil (y : List UInt8) : ltS [] y = decide (y ≠ []) := by cases y <;> simp [ltS, Op.bytesLess]
theorem ltS_nil' (x : List UInt8) : ltS x [] = false := by cases x <;> simp [ltS, Op.bytesLess]
theorem ltS_cons (a b : UInt8) (x y : List UInt8) : ltS (a :: x) (b :: y) = (decide (a < b) || (a == b && ltS x y)) := by simp [ltS, Op.bytesLess]

theorem u8_irrefl (a : UInt8) : ¬ a < a := UInt8.lt_irrefl a
theorem u8_tri (a b : UInt8) : a < b ∨ a = b ∨ b < a := by
  rcases Nat.lt_trichotomy a.toNat b.toNat with h | h | h
  · exact .inl h
  · exact .inr (.inl (UInt8.toNat_inj.1 h))
  · exact .inr (.inr h)

theorem ltS_irrefl : ∀ x : List UInt8, ltS x x = false := by
  intro x
  induction x with
  | nil => rfl
  | cons a x ih => rw [ltS_cons, ih]; simp [u8_irrefl]

theorem ltS_trans : ∀ {x y z : List UInt8}, ltS x y = true → ltS y z = true → ltS x z = true := by
  intro x
  induction x with
  | nil =>
    intro y z h k
    cases z with
    | nil => rw [ltS_nil'] at k; cases k
    | cons c z => rfl
  | cons a x ih =>
    intro y z h k
    cases y with
    | nil => rw [ltS_nil'] at h; cases h
    | cons b y =>
      cases z with
      | nil => rw [ltS_nil'] at k; cases k
      | cons c z =>
        rw [ltS_cons] at h k ⊢
        simp only [Bool.or_eq_true, decide_eq_true_eq, Bool.and_eq_true, beq_iff_eq] at h k ⊢
        rcases h with h | ⟨rfl, h⟩
        · rcases k with k | ⟨rfl, k⟩
          · exact .inl (UInt8.lt_trans h k)
          · exact .inl h
        · rcases k with k | ⟨rfl, k⟩
          · exact .inl k
          · exact .inr ⟨rfl, ih h k⟩

theorem ltS_tri : ∀ (x y : List UInt8), ltS x y = true ∨ x = y ∨ ltS y x = true := by
  intro x
  induction x with
  | nil => intro y; cases y <;> simp [ltS_nil]
  | cons a x ih =>
    intro y
    cases y with
    | nil => exact .inr (.inr rfl)
    | cons b y =>
      rw [ltS_cons, ltS_cons]
      simp only [Bool.or_eq_true, decide_eq_true_eq, Bool.and_eq_true, beq_iff_eq]
      rcases u8_tri a b with h | rfl | h
      · exact .inl (.inl h)
      · rcases ih y with h | rfl | h
        · exact .inl (.inr ⟨rfl, h⟩)
        · exact .inr (.inl rfl)
        · exact .inr (.inr (.inr ⟨rfl, h⟩))
      · exact .inr (.inr (.inl h))

/-! ### Side by side -/
end Go.Ge

/- Plain laws of loops that look for something in a list. -/
namespace Go.Ge
set_option linter.unusedVariables false
set_option linter.unusedSimpArgs false

/-- The first place of a list that something is true of, or none. -/
theorem first_or {α : Type} (l : List α) (p : Nat → α → Bool) :
    (∃ i x, l[i]? = some x ∧ p i x = true ∧ ∀ j y, j < i → l[j]? = some y → p j y = false) ∨ ∀ i x, l[i]? = some x → p i x = false := by
  by_cases h : ∃ i x, l[i]? = some x ∧ p i x = true
  · left
    have key : ∀ n i x, i ≤ n → l[i]? = some x → p i x = true → ∃ i x, l[i]? = some x ∧ p i x = true ∧ ∀ j y, j < i → l[j]? = some y → p j y = false := by
      intro n
      induction n with
      | zero =>
        intro i x hi hx hp
        obtain rfl : i = 0 := by omega
        exact ⟨0, x, hx, hp, fun j y hj => by omega⟩
      | succ n ih =>
        intro i x hi hx hp
        by_cases k : ∃ j y, j < i ∧ l[j]? = some y ∧ p j y = true
        · obtain ⟨j, y, hj, hy, hq⟩ := k
          exact ih j y (by omega) hy hq
        · refine ⟨i, x, hx, hp, fun j y hj hy => ?_⟩
          cases hq : p j y with
          | false => rfl
          | true => exact absurd ⟨j, y, hj, hy, hq⟩ k
    obtain ⟨i, x, hx, hp⟩ := h
    exact key i i x (Nat.le_refl _) hx hp
  · right
    intro i x hx
    cases hq : p i x with
    | false => rfl
    | true => exact absurd ⟨i, x, hx, hq⟩ h

/-- A search through a list. -/
theorem srch {α S R : Type} {f : S → Option (S ⊕ R)} (l : List α) (mk : Int → S) (p : Nat → α → Bool) (hitS : Nat → α → R) (finS : R) (hl : l.length ≤ 4294967296)
    (hstep : ∀ i x, l[i]? = some x → i < l.length → iadd .i64 (i : Int) 1 = ((i + 1 : Nat) : Int) → f (mk (i : Int)) = some (if p i x = true then .inr (hitS i x) else .inl (mk ((i + 1 : Nat) : Int))))
    (hfin : f (mk (l.length : Int)) = some (.inr finS)) :
    (∃ i x, l[i]? = some x ∧ p i x = true ∧ (∀ j y, j < i → l[j]? = some y → p j y = false) ∧ Loop f (mk 0) = some (hitS i x)) ∨ ((∀ i x, l[i]? = some x → p i x = false) ∧ Loop f (mk 0) = some finS) := by
  have adv : ∀ i x, l[i]? = some x → p i x = false → f (mk (i : Int)) = some (.inl (mk ((i + 1 : Nat) : Int))) := fun i x hx hp => by
    have hi := getElem?_lt hx
    rw [hstep i x hx hi (iadd_one (by omega)), hp]; rfl
  rcases first_or l p with ⟨i, x, hx, hp, hj⟩ | hn
  · left
    refine ⟨i, x, hx, hp, hj, ?_⟩
    have hi := getElem?_lt hx
    refine loop_seq i (fun j : Nat => mk (j : Int)) (fun j hji => ?_) ?_
    · have hjl : j < l.length := by omega
      exact adv j l[j] (List.getElem?_eq_getElem hjl) (hj j _ hji (List.getElem?_eq_getElem hjl))
    · rw [hstep i x hx hi (iadd_one (by omega)), hp]; rfl
  · right
    refine ⟨hn, loop_seq l.length (fun j : Nat => mk (j : Int)) (fun j hj => ?_) hfin⟩
    exact adv j l[j] (List.getElem?_eq_getElem hj) (hn j _ (List.getElem?_eq_getElem hj))

/-- The same where it ends ahead of the list's end, at a bound of its own. -/
theorem srchTo {α S R : Type} {f : S → Option (S ⊕ R)} (l : List α) (n : Nat) (mk : Int → S) (p : Nat → α → Bool) (hitS : Nat → α → R) (finS : Nat → R) (hl : min n l.length ≤ 4294967296)
    (hstep : ∀ i x, l[i]? = some x → i < l.length → i < n → iadd .i64 (i : Int) 1 = ((i + 1 : Nat) : Int) → f (mk (i : Int)) = some (if p i x = true then .inr (hitS i x) else .inl (mk ((i + 1 : Nat) : Int))))
    (hfin : f (mk ((min n l.length : Nat) : Int)) = some (.inr (finS (min n l.length)))) :
    (∃ i x, i < n ∧ l[i]? = some x ∧ p i x = true ∧ (∀ j y, j < i → l[j]? = some y → p j y = false) ∧ Loop f (mk 0) = some (hitS i x)) ∨ ((∀ i x, i < n → l[i]? = some x → p i x = false) ∧ Loop f (mk 0) = some (finS (min n l.length))) := by
  have ht : ∀ i x, (l.take n)[i]? = some x ↔ (i < n ∧ l[i]? = some x) := fun i x => by
    rw [List.getElem?_take]
    by_cases h : i < n
    · simp [h]
    · simp [h]
  have hlen : (l.take n).length = min n l.length := List.length_take
  rcases srch (f := f) (l.take n) mk p hitS (finS (min n l.length)) (by rw [hlen]; exact hl) (fun i x hx hi hadd => by
      obtain ⟨h1, h2⟩ := (ht i x).1 hx
      exact hstep i x h2 (getElem?_lt h2) h1 hadd) (by rw [hlen]; exact hfin) with ⟨i, x, hx, hp, hj, h⟩ | ⟨hn, h⟩
  · obtain ⟨h1, h2⟩ := (ht i x).1 hx
    exact .inl ⟨i, x, h1, h2, hp, fun j y hji hy => hj j y hji ((ht j y).2 ⟨by omega, hy⟩), h⟩
  · exact .inr ⟨fun i x hi hx => hn i x ((ht i x).2 ⟨hi, hx⟩), h⟩

/-- A list gone through to its end. -/
theorem fold_loop {α σ S R : Type} {f : S → Option (S ⊕ R)} (l : List α) (mk : σ → Int → S) (step : σ → Nat → α → σ) (fin : σ → R) (Inv : σ → Nat → Prop) (hl : l.length ≤ 4294967296)
    (hstep : ∀ s i x, l[i]? = some x → i < l.length → iadd .i64 (i : Int) 1 = ((i + 1 : Nat) : Int) → Inv s i → f (mk s (i : Int)) = some (.inl (mk (step s i x) ((i + 1 : Nat) : Int))) ∧ Inv (step s i x) (i + 1))
    (hfin : ∀ s, Inv s l.length → f (mk s (l.length : Int)) = some (.inr (fin s))) (s : σ) (h0 : Inv s 0) : ∃ t, Inv t l.length ∧ Loop f (mk s 0) = some (fin t) ∧ t = (l.zipIdx).foldl (fun a p => step a p.2 p.1) s := by
  have key : ∀ (rest pre : List α) (s : σ), l = pre ++ rest → Inv s pre.length → ∃ t, Inv t l.length ∧ Loop f (mk s (pre.length : Int)) = some (fin t) ∧ t = (rest.zipIdx pre.length).foldl (fun a p => step a p.2 p.1) s := by
    intro rest
    induction rest with
    | nil =>
      intro pre s hl2 hI
      rw [List.append_nil] at hl2
      subst hl2
      exact ⟨s, hI, by rw [Loop_eq, hfin s hI]; rfl, rfl⟩
    | cons x r ih =>
      intro pre s hl2 hI
      have hx : l[pre.length]? = some x := by rw [hl2]; simp
      have hlt := getElem?_lt hx
      obtain ⟨h1, h2⟩ := hstep s pre.length x hx hlt (iadd_one (by omega)) hI
      obtain ⟨t, t1, t2, t3⟩ := ih (pre ++ [x]) (step s pre.length x) (by rw [hl2]; simp) (by rw [List.length_append]; exact h2)
      rw [List.length_append] at t2 t3
      exact ⟨t, t1, by rw [Loop_eq, h1]; exact t2, t3⟩
  exact key l [] s rfl h0

theorem fits_len {α : Type} {l : List α} (h : l.length ≤ 4294967296) : fits (len l) = true := fits_nat' h
theorem mem_at {α : Type} {l : List α} {x : α} : x ∈ l ↔ ∃ i : Nat, l[i]? = some x := by rw [List.mem_iff_getElem?]
end Go.Ge

/- SHA-256 in plain words: rotations, the words of a block, the rounds. -/
namespace Go.Ge
set_option linter.unusedVariables false
set_option linter.unusedSimpArgs false

def rot (n x : Int) : Int := ior .u32 (ishr .u32 x n) (ishl .u32 x (32 - n))

theorem right_of {n m : Int} (h : iand .u64 (icv .u64 (isub .i64 0 n)) 31 = m) (h1 : ltI m 0 = false) (h2 : isub .u64 32 m = n) (h3 : ltI n 0 = false) (h4 : 32 - n = m) (x : Int) : P_sha_right (x, (n, ())) = some (rot n x, ()) := by
  unfold P_sha_right P_math_bits_RotateLeft32 rot
  dsimp only
  rw [h, h1, sel_false, h2, h3, sel_false, obind_some, h4, ior_comm32]
theorem turn_of {n : Int} (h1 : ltI n 0 = false) (h2 : isub .i64 32 n = 32 - n) (h3 : ltI (32 - n) 0 = false) (x : Int) : P_ref02_turn (x, (n, ())) = some (rot n x, ()) := by
  unfold P_ref02_turn rot
  dsimp only
  rw [h1, sel_false, h2, h3, sel_false]

theorem r7 (x : Int) : P_sha_right (x, (7, ())) = some (rot 7 x, ()) := right_of (m := 25) (by decide) (by decide) (by decide) (by decide) (by decide) x
theorem r18 (x : Int) : P_sha_right (x, (18, ())) = some (rot 18 x, ()) := right_of (m := 14) (by decide) (by decide) (by decide) (by decide) (by decide) x
theorem r17 (x : Int) : P_sha_right (x, (17, ())) = some (rot 17 x, ()) := right_of (m := 15) (by decide) (by decide) (by decide) (by decide) (by decide) x
theorem r19 (x : Int) : P_sha_right (x, (19, ())) = some (rot 19 x, ()) := right_of (m := 13) (by decide) (by decide) (by decide) (by decide) (by decide) x
theorem r6 (x : Int) : P_sha_right (x, (6, ())) = some (rot 6 x, ()) := right_of (m := 26) (by decide) (by decide) (by decide) (by decide) (by decide) x
theorem r11 (x : Int) : P_sha_right (x, (11, ())) = some (rot 11 x, ()) := right_of (m := 21) (by decide) (by decide) (by decide) (by decide) (by decide) x
theorem r25 (x : Int) : P_sha_right (x, (25, ())) = some (rot 25 x, ()) := right_of (m := 7) (by decide) (by decide) (by decide) (by decide) (by decide) x
theorem r2 (x : Int) : P_sha_right (x, (2, ())) = some (rot 2 x, ()) := right_of (m := 30) (by decide) (by decide) (by decide) (by decide) (by decide) x
theorem r13 (x : Int) : P_sha_right (x, (13, ())) = some (rot 13 x, ()) := right_of (m := 19) (by decide) (by decide) (by decide) (by decide) (by decide) x
theorem r22 (x : Int) : P_sha_right (x, (22, ())) = some (rot 22 x, ()) := right_of (m := 10) (by decide) (by decide) (by decide) (by decide) (by decide) x
theorem t7 (x : Int) : P_ref02_turn (x, (7, ())) = some (rot 7 x, ()) := turn_of (by decide) (by decide) (by decide) x
theorem t18 (x : Int) : P_ref02_turn (x, (18, ())) = some (rot 18 x, ()) := turn_of (by decide) (by decide) (by decide) x
theorem t17 (x : Int) : P_ref02_turn (x, (17, ())) = some (rot 17 x, ()) := turn_of (by decide) (by decide) (by decide) x
theorem t19 (x : Int) : P_ref02_turn (x, (19, ())) = some (rot 19 x, ()) := turn_of (by decide) (by decide) (by decide) x
theorem t6 (x : Int) : P_ref02_turn (x, (6, ())) = some (rot 6 x, ()) := turn_of (by decide) (by decide) (by decide) x
theorem t11 (x : Int) : P_ref02_turn (x, (11, ())) = some (rot 11 x, ()) := turn_of (by decide) (by decide) (by decide) x
theorem t25 (x : Int) : P_ref02_turn (x, (25, ())) = some (rot 25 x, ()) := turn_of (by decide) (by decide) (by decide) x
theorem t2 (x : Int) : P_ref02_turn (x, (2, ())) = some (rot 2 x, ()) := turn_of (by decide) (by decide) (by decide) x
theorem t13 (x : Int) : P_ref02_turn (x, (13, ())) = some (rot 13 x, ()) := turn_of (by decide) (by decide) (by decide) x
theorem t22 (x : Int) : P_ref02_turn (x, (22, ())) = some (rot 22 x, ()) := turn_of (by decide) (by decide) (by decide) x

/-! ### The words of a block -/
def word (b : List Int) (t : Nat) : Int :=
  ior .u32 (ior .u32 (ior .u32 (ishl .u32 (icv .u32 (b.getD (4 * t) 0)) 24) (ishl .u32 (icv .u32 (b.getD (4 * t + 1) 0)) 16)) (ishl .u32 (icv .u32 (b.getD (4 * t + 2) 0)) 8)) (icv .u32 (b.getD (4 * t + 3) 0))
def zeros (n : Nat) : List Int := List.replicate n 0
def fillW (b : List Int) : Nat → List Int
  | 0 => zeros 64
  | t + 1 => (fillW b t).set t (word b t)
theorem length_fill (b : List Int) (t : Nat) : (fillW b t).length = 64 := by
  induction t with
  | zero => rfl
  | succ t ih => simp [fillW, ih]
theorem fill_zero (b : List Int) : ∀ (t j : Nat), t ≤ j → j < 64 → (fillW b t).getD j 0 = 0 := by
  intro t
  induction t with
  | zero =>
    intro j _ hj
    show (List.replicate 64 (0 : Int)).getD j 0 = 0
    rw [List.getD_eq_getElem?_getD, List.getElem?_replicate, if_pos hj]; rfl
  | succ t ih =>
    intro j h1 h2
    have := ih j (by omega) h2
    simp only [fillW, List.getD_eq_getElem?_getD, List.getElem?_set] at this ⊢
    rw [if_neg (by omega)]; exact this

def nextW (p : List Int) (t : Nat) : Int :=
  iadd .u32 (iadd .u32 (iadd .u32 (ixor .u32 (ixor .u32 (rot 17 (p.getD (t - 2) 0)) (rot 19 (p.getD (t - 2) 0))) (ishr .u32 (p.getD (t - 2) 0) 10)) (p.getD (t - 7) 0))
    (ixor .u32 (ixor .u32 (rot 7 (p.getD (t - 15) 0)) (rot 18 (p.getD (t - 15) 0))) (ishr .u32 (p.getD (t - 15) 0) 3))) (p.getD (t - 16) 0)
def extW (l : List Int) : Nat → List Int
  | 0 => l
  | k + 1 => (extW l k).set (16 + k) (nextW (extW l k) (16 + k))
theorem length_ext (l : List Int) (k : Nat) : (extW l k).length = l.length := by
  induction k with
  | zero => rfl
  | succ k ih => simp [extW, ih]
def schedW (b : List Int) : List Int := extW (fillW b 16) 48
theorem length_sched (b : List Int) : (schedW b).length = 64 := by unfold schedW; rw [length_ext, length_fill]

theorem four {t : Nat} (ht : t < 64) : imul .i64 4 (t : Int) = ((4 * t : Nat) : Int) := by rw [imul_i64 (by omega) (by omega)]; omega

theorem sched_inner (b : List Int) (hb : b.length = 64) (t : Nat) (ht : t < 16) (w : List Int) (hw : w.length = 64) (h0 : w.getD t 0 = 0) (u v : Unit) (y : List Int × Unit) :
    Loop (P_sha_schedule_L1 (b, u) (((t : Int), v), y)) ((0, ()), (w, ())) = some (((4 : Int), ()), (w.set t (word b t), ())) := by
  let a : Nat → Int := fun j => match j with
    | 0 => 0
    | 1 => ior .u32 (ishl .u32 0 8) (icv .u32 (b.getD (4 * t) 0))
    | 2 => ior .u32 (ishl .u32 (ior .u32 (ishl .u32 0 8) (icv .u32 (b.getD (4 * t) 0))) 8) (icv .u32 (b.getD (4 * t + 1) 0))
    | 3 => ior .u32 (ishl .u32 (ior .u32 (ishl .u32 (ior .u32 (ishl .u32 0 8) (icv .u32 (b.getD (4 * t) 0))) 8) (icv .u32 (b.getD (4 * t + 1) 0))) 8) (icv .u32 (b.getD (4 * t + 2) 0))
    | _ => word b t
  have hstep : ∀ j, j < 4 → a (j + 1) = ior .u32 (ishl .u32 (a j) 8) (icv .u32 (b.getD (4 * t + j) 0)) := by
    intro j hj
    rcases (by omega : j = 0 ∨ j = 1 ∨ j = 2 ∨ j = 3) with rfl | rfl | rfl | rfl
    · rfl
    · rfl
    · rfl
    · exact (four_eq _ _ _ _).symm
  have hw0 : w = w.set t 0 := by
    apply List.ext_getElem?
    intro j
    rw [List.getElem?_set]
    split
    · rename_i e
      subst e
      rw [if_pos (by omega)]
      rw [List.getD_eq_getElem?_getD, List.getElem?_eq_getElem (by omega)] at h0
      rw [List.getElem?_eq_getElem (by omega)]
      simpa using h0
    · rfl
  have := loop_seq (f := P_sha_schedule_L1 (b, u) (((t : Int), v), y)) (r := (((4 : Int), ()), (w.set t (word b t), ()))) 4 (fun j => (((j : Int), ()), (w.set t (a j), ()))) (fun j hj => by
    unfold P_sha_schedule_L1
    dsimp only
    rw [four (by omega), iadd_i64 (by omega) (by omega)]
    have e4 : minus (((4 * t : Nat) : Int) + 4) ((4 * t : Nat) : Int) = 4 := by unfold minus; omega
    rw [e4, ltI_true (by omega), sel_true, within_true (by omega) (by omega), sel_true, within_true (by omega) (by omega)]
    have hl : (w.set t (a j)).length = 64 := by simp [hw]
    have hg : (w.set t (a j)).getD t 0 = a j := by simp [List.getD_eq_getElem?_getD, hw, ht, (by omega : t < 64)]
    rw [idx_at b 0 (i := plus ((4 * t : Nat) : Int) j) (k := 4 * t + j) (by unfold plus; omega) (by omega), obind_some, sel_true, idx_getD _ 0 (by rw [hl]; omega), hg, obind_some, ltI_false (by decide), sel_false, sel_true, obind_some, obind_some, obind_some, way1_inl, iadd_one (by omega), lset_nat, List.set_set, hstep j hj])
    (by
      unfold P_sha_schedule_L1
      dsimp only
      rw [four (by omega), iadd_i64 (by omega) (by omega)]
      have e4 : minus (((4 * t : Nat) : Int) + 4) ((4 * t : Nat) : Int) = 4 := by unfold minus; omega
      rw [e4, ltI_false (by omega), sel_false, way1_inr]
      rfl)
  have h00 : w.set t (a 0) = w := hw0.symm
  rw [h00] at this
  exact this

theorem zeros64 : ([0, 0, 0, 0, 0, 0, 0, 0, 0, 0, 0, 0, 0, 0, 0, 0, 0, 0, 0, 0, 0, 0, 0, 0, 0, 0, 0, 0, 0, 0, 0, 0, 0, 0, 0, 0, 0, 0, 0, 0, 0, 0, 0, 0, 0, 0, 0, 0, 0, 0, 0, 0, 0, 0, 0, 0, 0, 0, 0, 0, 0, 0, 0, 0] : List Int) = zeros 64 := rfl

theorem sched_outer (b : List Int) (hb : b.length = 64) (u : Unit) : Loop (P_sha_schedule_L0 (b, u)) ((0, ()), (zeros 64, ())) = some (((16 : Int), ()), (fillW b 16, ())) := by
  refine loop_seq (f := P_sha_schedule_L0 (b, u)) 16 (fun t => (((t : Int), ()), (fillW b t, ()))) (fun t ht => ?_) ?_
  · unfold P_sha_schedule_L0
    dsimp only
    rw [ltI_true (by omega), sel_true, four (by omega), iadd_i64 (by omega) (by omega), inside_true (by omega) (by omega) (by omega), sel_true, sched_inner b hb t ht _ (length_fill b t) (fill_zero b t t (Nat.le_refl _) (by omega)), obind_some, way1_inl, iadd_one (by omega)]
    rfl
  · unfold P_sha_schedule_L0
    dsimp only
    rw [ltI_false (by omega), sel_false, way1_inr]
    rfl

theorem sched_ext (l : List Int) (hl : l.length = 64) : Loop P_sha_schedule_L2 ((16, ()), (l, ())) = some (((64 : Int), ()), (extW l 48, ())) := by
  refine loop_seq (f := P_sha_schedule_L2) 48 (fun k => ((((16 + k : Nat) : Int), ()), (extW l k, ()))) (fun k hk => ?_) ?_
  · have hlen : (extW l k).length = 64 := by rw [length_ext, hl]
    unfold P_sha_schedule_L2
    dsimp only
    rw [ltI_true (by omega), sel_true, isub_i64 (by omega) (by omega), isub_i64 (by omega) (by omega), isub_i64 (by omega) (by omega), isub_i64 (by omega) (by omega),
      within_true (by omega) (by omega), sel_true, idx_at _ 0 (k := 16 + k - 2) (by omega) (by omega), obind_some, within_true (by omega) (by omega), sel_true, idx_at _ 0 (k := 16 + k - 15) (by omega) (by omega), obind_some,
      r7, obind_some, r18, obind_some, ltI_false (by decide), sel_false, r17, obind_some, r19, obind_some, ltI_false (by decide), sel_false, within_true (by omega) (by omega), sel_true, idx_at _ 0 (k := 16 + k - 7) (by omega) (by omega), obind_some,
      within_true (by omega) (by omega), sel_true, idx_at _ 0 (k := 16 + k - 16) (by omega) (by omega), obind_some, within_true (by omega) (by omega), sel_true, idx_getD _ 0 (by omega), obind_some, obind_some, obind_some, way1_inl, iadd_one (by omega), lset_nat]
    rfl
  · unfold P_sha_schedule_L2
    dsimp only
    rw [ltI_false (by omega), sel_false, way1_inr]
    rfl

theorem schedule_val (b : List Int) (hb : b.length = 64) (u : Unit) : P_sha_schedule (b, u) = some (schedW b, ()) := by
  unfold P_sha_schedule
  rw [zeros64, sched_outer b hb, obind_some]
  dsimp only
  rw [sched_ext _ (length_fill b 16), obind_some]
  dsimp only [schedW]

/-! ### The same of the reference -/
theorem u8_bytes (s : List UInt8) {i : Nat} (h : i < s.length) (x : UInt8) (hx : s[i]? = some x) : u8 x = (bytesInts s).getD i 0 := by
  simp [bytesInts, List.getD_eq_getElem?_getD, hx, u8]

theorem ref_outer (h : List Int) (s : List UInt8) (hs : s.length = 64) (u : Unit) : Loop (P_ref02_block_L0 (h, (s, u))) ((0, ()), (zeros 64, ())) = some (((16 : Int), ()), (fillW (bytesInts s) 16, ())) := by
  have key : ∀ b : List Int, b = bytesInts s → Loop (P_ref02_block_L0 (h, (s, u))) ((0, ()), (zeros 64, ())) = some (((16 : Int), ()), (fillW b 16, ())) := by
   intro b hb
   refine loop_seq (f := P_ref02_block_L0 (h, (s, u))) 16 (fun t => (((t : Int), ()), (fillW b t, ()))) (fun t ht => ?_) ?_
   · have at_ : ∀ (i : Int) (j : Nat), i = j → j < 64 → ∃ x, idx s i = some x ∧ u8 x = b.getD j 0 := by
       intro i j e hj
       subst e
       refine ⟨s[j], ?_, by rw [hb]; exact u8_bytes s (by omega) _ (List.getElem?_eq_getElem (by omega))⟩
       rw [idx_nat, List.getElem?_eq_getElem]
     unfold P_ref02_block_L0
     dsimp only
     rw [ltI_true (by omega), sel_true, four (by omega), iadd_i64 (by omega) (by omega), iadd_i64 (by omega) (by omega), iadd_i64 (by omega) (by omega)]
     obtain ⟨x0, i0, e0⟩ := at_ ((4 * t : Nat) : Int) (4 * t) rfl (by omega)
     obtain ⟨x1, i1, e1⟩ := at_ (((4 * t : Nat) : Int) + 1) (4 * t + 1) (by omega) (by omega)
     obtain ⟨x2, i2, e2⟩ := at_ (((4 * t : Nat) : Int) + 2) (4 * t + 2) (by omega) (by omega)
     obtain ⟨x3, i3, e3⟩ := at_ (((4 * t : Nat) : Int) + 3) (4 * t + 3) (by omega) (by omega)
     rw [i0, obind_some, ltI_false (by decide), sel_false, i1, obind_some, ltI_false (by decide), sel_false, i2, obind_some, ltI_false (by decide), sel_false, i3, obind_some, within_true (by omega) (by omega), sel_true,
       idx_getD _ 0 (by rw [length_fill]; omega), obind_some, obind_some, obind_some, way1_inl, iadd_one (by omega), lset_nat, e0, e1, e2, e3]
     rfl
   · unfold P_ref02_block_L0
     dsimp only
     rw [ltI_false (by omega), sel_false, way1_inr]
     rfl
  exact key _ rfl

theorem ref_ext (l : List Int) (hl : l.length = 64) : Loop P_ref02_block_L1 ((16, ()), (l, ())) = some (((64 : Int), ()), (extW l 48, ())) := by
  refine loop_seq (f := P_ref02_block_L1) 48 (fun k => ((((16 + k : Nat) : Int), ()), (extW l k, ()))) (fun k hk => ?_) ?_
  · have hlen : (extW l k).length = 64 := by rw [length_ext, hl]
    unfold P_ref02_block_L1
    dsimp only
    rw [ltI_true (by omega), sel_true, isub_i64 (by omega) (by omega), isub_i64 (by omega) (by omega), isub_i64 (by omega) (by omega), isub_i64 (by omega) (by omega),
      within_true (by omega) (by omega), sel_true, idx_at _ 0 (k := 16 + k - 2) (by omega) (by omega), obind_some, within_true (by omega) (by omega), sel_true, idx_at _ 0 (k := 16 + k - 15) (by omega) (by omega), obind_some,
      t17, obind_some, t19, obind_some, ltI_false (by decide), sel_false, within_true (by omega) (by omega), sel_true, idx_at _ 0 (k := 16 + k - 7) (by omega) (by omega), obind_some, t7, obind_some, t18, obind_some, ltI_false (by decide), sel_false,
      within_true (by omega) (by omega), sel_true, idx_at _ 0 (k := 16 + k - 16) (by omega) (by omega), obind_some, within_true (by omega) (by omega), sel_true, idx_getD _ 0 (by omega), obind_some, obind_some, obind_some, way1_inl, iadd_one (by omega), lset_nat]
    rfl
  · unfold P_ref02_block_L1
    dsimp only
    rw [ltI_false (by omega), sel_false, way1_inr]
    rfl

/-! ### The rounds -/
abbrev W8 := Int × Int × Int × Int × Int × Int × Int × Int
def rnd (k w : Int) : W8 → W8
  | (a, b, c, d, e, f, g, h) =>
    let one := iadd .u32 (iadd .u32 (iadd .u32 (iadd .u32 h (ixor .u32 (ixor .u32 (rot 6 e) (rot 11 e)) (rot 25 e))) (ixor .u32 g (iand .u32 e (ixor .u32 f g)))) k) w
    let two := iadd .u32 (ixor .u32 (ixor .u32 (rot 2 a) (rot 13 a)) (rot 22 a)) (ior .u32 (iand .u32 a b) (iand .u32 c (ior .u32 a b)))
    (iadd .u32 one two, a, b, c, iadd .u32 d one, e, f, g)
def rnds (K w : List Int) (s : W8) : Nat → W8
  | 0 => s
  | t + 1 => rnd (K.getD t 0) (w.getD t 0) (rnds K w s t)
def K256 : List Int := [1116352408, 1899447441, 3049323471, 3921009573, 961987163, 1508970993, 2453635748, 2870763221, 3624381080, 310598401, 607225278, 1426881987, 1925078388, 2162078206, 2614888103, 3248222580, 3835390401, 4022224774, 264347078, 604807628, 770255983, 1249150122, 1555081692, 1996064986, 2554220882, 2821834349, 2952996808, 3210313671, 3336571891, 3584528711, 113926993, 338241895, 666307205, 773529912, 1294757372, 1396182291, 1695183700, 1986661051, 2177026350, 2456956037, 2730485921, 2820302411, 3259730800, 3345764771, 3516065817, 3600352804, 4094571909, 275423344, 430227734, 506948616, 659060556, 883997877, 958139571, 1322822218, 1537002063, 1747873779, 1955562222, 2024104815, 2227730452, 2361852424, 2428436474, 2756734187, 3204031479, 3329325298]
theorem round_val : P_sha_round () = some (K256, ()) := rfl
theorem consts_val : P_ref02_consts () = some (K256, ()) := rfl
def flat9 (s : W8) (t : Int) : Int × Int × Int × Int × Int × Int × Int × Int × Int × Unit := (s.1, s.2.1, s.2.2.1, s.2.2.2.1, s.2.2.2.2.1, s.2.2.2.2.2.1, s.2.2.2.2.2.2.1, s.2.2.2.2.2.2.2, t, ())
def list8 (s : W8) : List Int := [s.1, s.2.1, s.2.2.1, s.2.2.2.1, s.2.2.2.2.1, s.2.2.2.2.2.1, s.2.2.2.2.2.2.1, s.2.2.2.2.2.2.2]

theorem add_rounds (w : List Int) (hw : w.length = 64) (s : W8) (u v : Unit) : Loop (P_sha_Stream_Add_L1 (K256, u) (w, v)) (flat9 s 0, ()) = some (flat9 (rnds K256 w s 64) 64, ()) := by
  refine loop_seq (f := P_sha_Stream_Add_L1 (K256, u) (w, v)) 64 (fun t => (flat9 (rnds K256 w s t) t, ())) (fun t ht => ?_) ?_
  · show P_sha_Stream_Add_L1 (K256, u) (w, v) (flat9 (rnds K256 w s t) t, ()) = some (.inl (flat9 (rnd (K256.getD t 0) (w.getD t 0) (rnds K256 w s t)) ((t + 1 : Nat) : Int), ()))
    generalize rnds K256 w s t = q
    obtain ⟨a, b, c, d, e, f, g, h⟩ := q
    unfold P_sha_Stream_Add_L1 flat9
    dsimp only
    rw [ltI_true (by omega), sel_true, r6, obind_some, r11, obind_some, r25, obind_some, within_true (by omega) (by omega), sel_true, idx_getD K256 0 (by show t < 64; omega), obind_some, sel_true, idx_getD w 0 (by omega), obind_some,
      r2, obind_some, r13, obind_some, r22, obind_some, way1_inl, iadd_one (by omega)]
    rfl
  · unfold P_sha_Stream_Add_L1 flat9
    dsimp only
    rw [ltI_false (by omega), sel_false, way1_inr]
    rfl

theorem ref_rounds (w : List Int) (hw : w.length = 64) (s : W8) (q : Int × Unit) (u v : Unit) : Loop (P_ref02_block_L2 (q, (w, u)) (K256, v)) ((0, ()), (list8 s, ())) = some (((64 : Int), ()), (list8 (rnds K256 w s 64), ())) := by
  refine loop_seq (f := P_ref02_block_L2 (q, (w, u)) (K256, v)) 64 (fun t => (((t : Int), ()), (list8 (rnds K256 w s t), ()))) (fun t ht => ?_) ?_
  · show P_ref02_block_L2 (q, (w, u)) (K256, v) (((t : Int), ()), (list8 (rnds K256 w s t), ())) = some (.inl ((((t + 1 : Nat) : Int), ()), (list8 (rnd (K256.getD t 0) (w.getD t 0) (rnds K256 w s t)), ())))
    generalize rnds K256 w s t = q
    obtain ⟨a, b, c, d, e, f, g, h⟩ := q
    have i0 : idx (list8 (a, b, c, d, e, f, g, h)) 0 = some a := rfl
    have i1 : idx (list8 (a, b, c, d, e, f, g, h)) 1 = some b := rfl
    have i2 : idx (list8 (a, b, c, d, e, f, g, h)) 2 = some c := rfl
    have i3 : idx (list8 (a, b, c, d, e, f, g, h)) 3 = some d := rfl
    have i4 : idx (list8 (a, b, c, d, e, f, g, h)) 4 = some e := rfl
    have i5 : idx (list8 (a, b, c, d, e, f, g, h)) 5 = some f := rfl
    have i6 : idx (list8 (a, b, c, d, e, f, g, h)) 6 = some g := rfl
    have i7 : idx (list8 (a, b, c, d, e, f, g, h)) 7 = some h := rfl
    have w0 : within 0 8 = true := by decide
    have w1 : within 1 8 = true := by decide
    have w2 : within 2 8 = true := by decide
    have w3 : within 3 8 = true := by decide
    have w4 : within 4 8 = true := by decide
    have w5 : within 5 8 = true := by decide
    have w6 : within 6 8 = true := by decide
    have w7 : within 7 8 = true := by decide
    have wt : within (t : Int) 64 = true := within_true (by omega) (by omega)
    unfold P_ref02_block_L2
    dsimp only
    simp only [ltI_true (show (t : Int) < 64 by omega), sel_true, w0, w1, w2, w3, w4, w5, w6, w7, wt, i0, i1, i2, i3, i4, i5, i6, i7, obind_some, t6, t11, t25, t2, t13, t22, idx_getD K256 0 (show t < K256.length from ht), idx_getD w 0 (show t < w.length by omega), way1_inl, iadd_one (show t < 4611686018427387904 by omega),
      ← ch_eq, ← maj_eq]
    rfl
  · unfold P_ref02_block_L2
    dsimp only
    rw [ltI_false (by omega), sel_false, way1_inr]
    rfl

/-! ### A block -/
def of8 (l : List Int) : W8 := (l.getD 0 0, l.getD 1 0, l.getD 2 0, l.getD 3 0, l.getD 4 0, l.getD 5 0, l.getD 6 0, l.getD 7 0)
theorem list8_of8 (l : List Int) (hl : l.length = 8) : list8 (of8 l) = l := by
  match l, hl with
  | [a, b, c, d, e, f, g, h], _ => rfl
def addW (l m : List Int) : Nat → List Int
  | 0 => l
  | i + 1 => (addW l m i).set i (iadd .u32 (l.getD i 0) (m.getD i 0))
theorem length_addW (l m : List Int) (i : Nat) : (addW l m i).length = l.length := by
  induction i with
  | zero => rfl
  | succ i ih => simp [addW, ih]
theorem addW_at (l m : List Int) : ∀ (i j : Nat), i ≤ j → (addW l m i).getD j 0 = l.getD j 0 := by
  intro i
  induction i with
  | zero => intro j _; rfl
  | succ i ih =>
    intro j h
    have := ih j (by omega)
    simp only [addW, List.getD_eq_getElem?_getD, List.getElem?_set] at this ⊢
    rw [if_neg (by omega)]; exact this
/-- The eight words behind a block. -/
def comp (h b : List Int) : List Int := addW h (list8 (rnds K256 (schedW b) (of8 h) 64)) 8
theorem length_comp (h b : List Int) : (comp h b).length = h.length := length_addW _ _ _

theorem addW_comm (l m : List Int) (hl : l.length = 8) (hm : m.length = 8) : addW l m 8 = addW m l 8 := by
  match l, hl, m, hm with
  | [a, b, c, d, e, f, g, h], _, [a', b', c', d', e', f', g', h'], _ =>
    simp only [addW, List.set, List.getD_cons_zero, List.getD_cons_succ]
    simp only [iadd_comm32]

theorem ref_block (h : List Int) (hh : h.length = 8) (s : List UInt8) (hs : s.length = 64) (u : Unit) : P_ref02_block (h, (s, u)) = some (comp h (bytesInts s), ()) := by
  have hb : (fillW (bytesInts s) 16).length = 64 := length_fill _ _
  unfold P_ref02_block
  rw [zeros64, ref_outer h s hs, obind_some]
  dsimp only
  rw [ref_ext _ hb, obind_some, consts_val, obind_some]
  have e8 : h = list8 (of8 h) := (list8_of8 h hh).symm
  have hsc : (schedW (bytesInts s)).length = 64 := length_sched _
  have hr := ref_rounds (schedW (bytesInts s)) hsc (of8 h) ((64 : Int), ()) () ()
  rw [← e8] at hr
  rw [show extW (fillW (bytesInts s) 16) 48 = schedW (bytesInts s) from rfl, hr, obind_some]
  dsimp only
  generalize hm : list8 (rnds K256 (schedW (bytesInts s)) (of8 h) 64) = m
  have hm8 : m.length = 8 := by rw [← hm]; rfl
  have : Loop (P_ref02_block_L3 (h, (s, u))) ((0, ()), (m, ())) = some (((8 : Int), ()), (addW m h 8, ())) := by
    refine loop_seq (f := P_ref02_block_L3 (h, (s, u))) 8 (fun i => (((i : Int), ()), (addW m h i, ()))) (fun i hi => ?_) ?_
    · have hl : (addW m h i).length = 8 := by rw [length_addW, hm8]
      unfold P_ref02_block_L3
      dsimp only
      simp only [ltI_true (show (i : Int) < 8 by omega), sel_true, within_true (show (0 : Int) ≤ i by omega) (show (i : Int) < 8 by omega), idx_getD (addW m h i) 0 (show i < (addW m h i).length by omega), idx_getD h 0 (show i < h.length by omega), obind_some, way1_inl, iadd_one (show i < 4611686018427387904 by omega), lset_nat]
      rw [addW_at m h i i (Nat.le_refl _)]
      rfl
    · unfold P_ref02_block_L3
      dsimp only
      rw [ltI_false (by omega), sel_false, way1_inr]
      rfl
  rw [this, obind_some]
  dsimp only
  rw [addW_comm m h hm8 hh]
  unfold comp
  rw [hm]
end Go.Ge

/- SHA-256 in plain words: streams. -/
namespace Go.Ge
set_option linter.unusedVariables false
set_option linter.unusedSimpArgs false

def H0 : List Int := [1779033703, 3144134277, 1013904242, 2773480762, 1359893119, 2600822924, 528734635, 1541459225]
theorem begin_val : P_sha_begin () = some (H0, ()) := rfl
theorem ref_begin_val : P_ref02_begin () = some (H0, ()) := rfl

/-- The words behind so many blocks of some bytes. -/
def hsB (all : List UInt8) : Nat → List Int
  | 0 => H0
  | k + 1 => comp (hsB all k) (bytesInts ((all.drop (64 * k)).take 64))
theorem length_hsB (all : List UInt8) (k : Nat) : (hsB all k).length = 8 := by
  induction k with
  | zero => rfl
  | succ k ih => simp only [hsB]; rw [length_comp, ih]
theorem hsB_app (all more : List UInt8) : ∀ k, 64 * k ≤ all.length → hsB (all ++ more) k = hsB all k := by
  intro k
  induction k with
  | zero => intro _; rfl
  | succ k ih =>
    intro h
    simp only [hsB]
    rw [ih (by omega), List.drop_append_of_le_length (by omega), List.take_append_of_le_length (by rw [List.length_drop]; omega)]

abbrev Strm := (Bool × List Int × Unit) × List Int × Int × Unit

/-- A stream that has taken some bytes. -/
def Inv (st : Strm) (all : List UInt8) : Prop :=
  ∃ wait, st = ((decide (64 ≤ all.length), (if 64 ≤ all.length then hsB all (all.length / 64) else zeros 8), ()), wait, (all.length : Int), ()) ∧ wait.length = 64 ∧ wait.take (all.length % 64) = bytesInts (all.drop (64 * (all.length / 64)))

def strm0 : Strm := ((false, zeros 8, ()), zeros 64, 0, ())
theorem inv0 : Inv strm0 [] := ⟨zeros 64, rfl, rfl, rfl⟩

theorem bytesInts_app (a b : List UInt8) : bytesInts (a ++ b) = bytesInts a ++ bytesInts b := by simp [bytesInts]
theorem bytesInts_take (a : List UInt8) (n : Nat) : (bytesInts a).take n = bytesInts (a.take n) := by simp [bytesInts, List.map_take]
theorem length_bytes (a : List UInt8) : (bytesInts a).length = a.length := by simp [bytesInts]

theorem irem_nat (a b : Nat) : irem (a : Int) (b : Int) = ((a % b : Nat) : Int) := by
  unfold irem; rw [Int.tmod_eq_emod_of_nonneg (by omega)]; exact (Int.natCast_emod a b).symm

/-- The last loop of a block. -/
theorem add_last (q : W8) (st : Strm) (h8 : st.1.2.1.length = 8) : Loop (P_sha_Stream_Add_L2 (flat9 q 64, ())) ((0, ()), (st, ())) = some (((8 : Int), ()), (((st.1.1, addW st.1.2.1 (list8 q) 8, st.1.2.2), st.2), ())) := by
  obtain ⟨⟨bg, h, u⟩, wn⟩ := st
  dsimp only at h8 ⊢
  refine loop_seq (f := P_sha_Stream_Add_L2 (flat9 q 64, ())) 8 (fun i => (((i : Int), ()), (((bg, addW h (list8 q) i, u), wn), ()))) (fun i hi => ?_) ?_
  · have hl : (addW h (list8 q) i).length = 8 := by rw [length_addW, h8]
    have e8 : ([(flat9 q 64).1, (flat9 q 64).2.1, (flat9 q 64).2.2.1, (flat9 q 64).2.2.2.1, (flat9 q 64).2.2.2.2.1, (flat9 q 64).2.2.2.2.2.1, (flat9 q 64).2.2.2.2.2.2.1, (flat9 q 64).2.2.2.2.2.2.2.1] : List Int) = list8 q := rfl
    unfold P_sha_Stream_Add_L2
    dsimp only
    rw [e8]
    have hq8 : (list8 q).length = 8 := rfl
    simp only [ltI_true (show (i : Int) < 8 by omega), sel_true, within_true (show (0 : Int) ≤ i by omega) (show (i : Int) < 8 by omega), idx_getD (addW h (list8 q) i) 0 (show i < (addW h (list8 q) i).length by omega), idx_getD (list8 q) 0 (show i < (list8 q).length by omega), obind_some, way1_inl, iadd_one (show i < 4611686018427387904 by omega), lset_nat]
    rw [addW_at h (list8 q) i i (Nat.le_refl _)]
    rfl
  · unfold P_sha_Stream_Add_L2
    dsimp only
    rw [ltI_false (by omega), sel_false, way1_inr]
    rfl

/-- One round of Add. -/
theorem add_step (part all : List UInt8) (st : Strm) (hp : part ≠ []) (hI : Inv st all) (hb : all.length + part.length < 1152921504606846976) :
    ∃ st', P_sha_Stream_Add_L0 ((part, ()), (st, ())) = some (.inl ((part.drop (64 - all.length % 64), ()), (st', ()))) ∧ Inv st' (all ++ part.take (64 - all.length % 64)) := by
  obtain ⟨wait, rfl, hw, ht⟩ := hI
  generalize hN : all.length = N at *
  have hat : N % 64 < 64 := Nat.mod_lt _ (by decide)
  have eat : irem (N : Int) 64 = ((N % 64 : Nat) : Int) := irem_nat N 64
  have em : ltake (bytesInts part) (minus (64 : Int) ((N % 64 : Nat) : Int)) = bytesInts (part.take (64 - N % 64)) := by
    unfold ltake minus
    rw [show ((64 : Int) - ((N % 64 : Nat) : Int)).toNat = 64 - N % 64 by omega, bytesInts_take]
  generalize hk : (part.take (64 - N % 64)).length = k
  have hk' : k = min (64 - N % 64) part.length := by rw [← hk, List.length_take]
  have hkp : 0 < k := by
    have : 0 < part.length := by cases part with | nil => exact absurd rfl hp | cons => simp
    omega
  have elen : len (bytesInts (part.take (64 - N % 64))) = (k : Int) := by unfold len; rw [length_bytes, hk]
  have eadd : iadd .i64 ((N % 64 : Nat) : Int) (k : Int) = ((N % 64 + k : Nat) : Int) := by rw [iadd_i64 (by omega) (by omega)]; omega
  have eaddn : iadd .i64 (N : Int) (k : Int) = ((N + k : Nat) : Int) := by rw [iadd_i64 (by omega) (by omega)]; omega
  have ein1 : inside ((N % 64 : Nat) : Int) 64 64 = true := inside_true (by omega) (by omega) (by omega)
  have ein2 : inside (k : Int) (len part) (len part) = true := inside_true (by omega) (by unfold len; omega) (by omega)
  have esub : sub part (k : Int) (minus (len part) (k : Int)) = part.drop k := by
    unfold sub minus len
    rw [Int.toNat_natCast, List.take_of_length_le (by rw [List.length_drop]; omega)]
  have hdk : part.drop k = part.drop (64 - N % 64) := by
    rcases Nat.le_total (64 - N % 64) part.length with h | h
    · rw [show k = 64 - N % 64 by omega]
    · rw [List.drop_of_length_le (by omega), List.drop_of_length_le h]
  have hover : over wait ((N % 64 : Nat) : Int) (bytesInts (part.take (64 - N % 64))) = bytesInts (all.drop (64 * (N / 64)) ++ part.take (64 - N % 64)) ++ wait.drop (N % 64 + k) := by
    unfold over
    rw [Int.toNat_natCast, ht, length_bytes, hk, bytesInts_app]
  have hne : nt (eqS part []) = true := by
    unfold eqS nt
    cases part with
    | nil => exact absurd rfl hp
    | cons x r => rfl
  have hall : (all ++ part.take (64 - N % 64)).length = N + k := by rw [List.length_append, hN, hk]
  have hdm : 64 * (N / 64) + N % 64 = N := Nat.div_add_mod N 64
  have htail : (all.drop (64 * (N / 64))).length = N % 64 := by rw [List.length_drop]; omega
  have hwl : (bytesInts (all.drop (64 * (N / 64)) ++ part.take (64 - N % 64)) ++ wait.drop (N % 64 + k)).length = 64 := by
    rw [List.length_append, length_bytes, List.length_append, htail, hk, List.length_drop]; omega
  unfold P_sha_Stream_Add_L0
  dsimp only
  simp only [hne, sel_true, eqI_false (show (64 : Int) ≠ 0 by decide), sel_false, eat, ein1, em, elen, ein2, eadd, eaddn, esub, hover]
  by_cases hfull : N % 64 + k = 64
  · -- a block is full
    have hw0 : wait.drop (N % 64 + k) = [] := by rw [List.drop_of_length_le (by omega)]
    simp only [eqI_true (show ((N % 64 + k : Nat) : Int) = 64 by omega), sel_true, hw0, List.append_nil] at hwl ⊢
    generalize hblk : bytesInts (all.drop (64 * (N / 64)) ++ part.take (64 - N % 64)) = blk at *
    have hq : (N + k) / 64 = N / 64 + 1 := by omega
    have hm0 : (N + k) % 64 = 0 := by omega
    have hblk2 : ((all ++ part.take (64 - N % 64)).drop (64 * (N / 64))).take 64 = all.drop (64 * (N / 64)) ++ part.take (64 - N % 64) := by
      rw [List.drop_append_of_le_length (by omega), List.take_of_length_le (by rw [List.length_append, htail, hk]; omega)]
    -- the words ahead of the block
    have hh : ∃ bg' : Bool, bg' = true ∧ (obind (sel (nt (decide (64 ≤ N))) (obind (P_sha_begin ()) fun y2 : List Int × Unit => some ((), (((true, y2.1, ()), (blk, ((N + k : Nat) : Int), ())), ()))) (some ((), (((decide (64 ≤ N), (if 64 ≤ N then hsB all (N / 64) else zeros 8), ()), (blk, ((N + k : Nat) : Int), ())), ())))) fun y : Unit × Strm × Unit => some y) = some ((), (((true, hsB all (N / 64), ()), (blk, ((N + k : Nat) : Int), ())), ())) := by
      refine ⟨true, rfl, ?_⟩
      by_cases h64 : 64 ≤ N
      · simp only [h64, decide_true, if_true]; rfl
      · have : N / 64 = 0 := by omega
        simp only [h64, decide_false, if_false, this, begin_val]; rfl
    obtain ⟨_, _, hh⟩ := hh
    have hh' : (sel (nt (decide (64 ≤ N))) (obind (P_sha_begin ()) fun y2 : List Int × Unit => some ((), (((true, y2.1, ()), (blk, ((N + k : Nat) : Int), ())), ()))) (some ((), (((decide (64 ≤ N), (if 64 ≤ N then hsB all (N / 64) else zeros 8), ()), (blk, ((N + k : Nat) : Int), ())), ()))) : Option (Unit × Strm × Unit)) = some ((), (((true, hsB all (N / 64), ()), (blk, ((N + k : Nat) : Int), ())), ())) := by
      have : ∀ o : Option (Unit × Strm × Unit), (obind o fun y => some y) = o := by intro o; cases o <;> rfl
      exact (this _).symm.trans hh
    rw [hh', obind_some, round_val, obind_some, schedule_val blk hwl, obind_some]
    dsimp only
    have hl8 := length_hsB all (N / 64)
    have i0 := idx_at (hsB all (N / 64)) 0 (i := 0) (k := 0) rfl (by omega)
    have i1 := idx_at (hsB all (N / 64)) 0 (i := 1) (k := 1) rfl (by omega)
    have i2 := idx_at (hsB all (N / 64)) 0 (i := 2) (k := 2) rfl (by omega)
    have i3 := idx_at (hsB all (N / 64)) 0 (i := 3) (k := 3) rfl (by omega)
    have i4 := idx_at (hsB all (N / 64)) 0 (i := 4) (k := 4) rfl (by omega)
    have i5 := idx_at (hsB all (N / 64)) 0 (i := 5) (k := 5) rfl (by omega)
    have i6 := idx_at (hsB all (N / 64)) 0 (i := 6) (k := 6) rfl (by omega)
    have i7 := idx_at (hsB all (N / 64)) 0 (i := 7) (k := 7) rfl (by omega)
    have w0 : within 0 8 = true := by decide
    have w1 : within 1 8 = true := by decide
    have w2 : within 2 8 = true := by decide
    have w3 : within 3 8 = true := by decide
    have w4 : within 4 8 = true := by decide
    have w5 : within 5 8 = true := by decide
    have w6 : within 6 8 = true := by decide
    have w7 : within 7 8 = true := by decide
    simp only [w0, w1, w2, w3, w4, w5, w6, w7, sel_true, i0, i1, i2, i3, i4, i5, i6, i7, obind_some]
    have hr := add_rounds (schedW blk) (length_sched blk) (of8 (hsB all (N / 64))) () ()
    rw [show ((hsB all (N / 64)).getD 0 0, (hsB all (N / 64)).getD 1 0, (hsB all (N / 64)).getD 2 0, (hsB all (N / 64)).getD 3 0, (hsB all (N / 64)).getD 4 0, (hsB all (N / 64)).getD 5 0, (hsB all (N / 64)).getD 6 0, (hsB all (N / 64)).getD 7 0, (0 : Int), ()) = flat9 (of8 (hsB all (N / 64))) 0 from rfl, hr, obind_some]
    rw [add_last _ ((true, hsB all (N / 64), ()), (blk, ((N + k : Nat) : Int), ())) hl8, obind_some, obind_some, way1_inl]
    dsimp only
    refine ⟨_, by rw [hdk], ?_⟩
    refine ⟨blk, ?_, hwl, ?_⟩
    · rw [hall]
      have h64 : 64 ≤ N + k := by omega
      simp only [h64, decide_true, if_true]
      have hsN : hsB (all ++ part.take (64 - N % 64)) ((N + k) / 64) = addW (hsB all (N / 64)) (list8 (rnds K256 (schedW blk) (of8 (hsB all (N / 64))) 64)) 8 := by
        rw [hq]
        simp only [hsB]
        rw [hsB_app all _ _ (by omega), hblk2, hblk]
        rfl
      rw [hsN]
    · rw [hall, hm0, hq, List.take_zero, List.drop_of_length_le (by omega)]; rfl
  · have hnf : N % 64 + k < 64 := by omega
    simp only [eqI_false (show ((N % 64 + k : Nat) : Int) ≠ 64 by omega), sel_false, obind_some, way1_inl]
    refine ⟨_, by rw [hdk], ?_⟩
    have hq : (N + k) / 64 = N / 64 := by omega
    have hm0 : (N + k) % 64 = N % 64 + k := by omega
    refine ⟨_, ?_, hwl, ?_⟩
    · rw [hall, hq]
      by_cases h64 : 64 ≤ N
      · have h64' : 64 ≤ N + k := by omega
        simp only [h64, h64', decide_true, if_true]
        rw [hsB_app all _ _ (by omega)]
      · have h64' : ¬ 64 ≤ N + k := by omega
        simp only [h64, h64', decide_false, if_false]
    · rw [hall, hm0, hq, List.take_append_of_le_length (by rw [length_bytes, List.length_append, htail, hk]; omega), List.take_of_length_le (by rw [length_bytes, List.length_append, htail, hk]; omega), List.drop_append_of_le_length (by omega)]
end Go.Ge
