/- What the functions of layer 17 compute, as plain programs (written by a program from what the ghost interpreter comes to). -/
import Derived.Test.YtaiikfdelihadaaDoorGpA
namespace Go.Ge
set_option linter.unusedVariables false
set_option maxRecDepth 100000

noncomputable def P_slices_Sort_string_string (l : List (List UInt8)) (x : Unit) : Option (List (List UInt8)) := bif fits (len l) then some (sortS l) else none

noncomputable def P_slices_Compact_string_string (l : List (List UInt8)) (x : Unit) : Option (List (List UInt8)) := some (Lib.compact (α := List UInt8) l)

noncomputable def P_ref17_FewTexts_L0 (x : (List (List (UInt8))) × Unit) (y1 : (Bool × Int × Unit) × Unit) : Option (((Bool × Int × Unit) × Unit) ⊕ (Nat × (Bool × Int × Unit) × Unit)) :=
  sel (sel (ltI y1.1.2.1 (@len (List (UInt8)) x.1))
  (ltI y1.1.2.1 (8 : Int))
  false)
  (obind (@idx (List (UInt8)) x.1 y1.1.2.1) (fun (y2 : List (UInt8)) => sel (ltI (100 : Int) (@len UInt8 y2))
  (some (Sum.inr ((1 : Nat), ((false, (y1.1.2.1, ())), ())) : (((Bool × Int × Unit) × Unit)) ⊕ ((Nat × (Bool × Int × Unit) × Unit))))
  (some (Sum.inl ((y1.1.1, (iadd IntKind.i64 y1.1.2.1 (1 : Int), ())), ()) : (((Bool × Int × Unit) × Unit)) ⊕ ((Nat × (Bool × Int × Unit) × Unit))))))
  (some (Sum.inr ((0 : Nat), ((y1.1.1, (y1.1.2.1, ())), ())) : (((Bool × Int × Unit) × Unit)) ⊕ ((Nat × (Bool × Int × Unit) × Unit))))

noncomputable def P_ref17_FewTexts (x : (List (List (UInt8))) × Unit) : Option (Bool × Unit) :=
  obind (Loop (P_ref17_FewTexts_L0 x) ((false, ((0 : Int), ())), ())) (fun (y1 : Nat × (Bool × Int × Unit) × Unit) => sel (eqN y1.1 (0 : Nat))
  (some (leI (@len (List (UInt8)) x.1) (8 : Int), ()))
  (some (y1.2.1.1, ())))

noncomputable def P_ref17_Few_L0 (x : (List ((List (UInt8)) × (List (List (UInt8))) × Unit)) × Unit) (y1 : (Bool × Int × Unit) × Unit) : Option (((Bool × Int × Unit) × Unit) ⊕ (Nat × (Bool × Int × Unit) × Unit)) :=
  sel (sel (ltI y1.1.2.1 (@len ((List (UInt8)) × (List (List (UInt8))) × Unit) x.1))
  (ltI y1.1.2.1 (40 : Int))
  false)
  (obind (@idx ((List (UInt8)) × (List (List (UInt8))) × Unit) x.1 y1.1.2.1) (fun (y2 : (List (UInt8)) × (List (List (UInt8))) × Unit) => obind (sel (nt (ltI (100 : Int) (@len UInt8 y2.1)))
  (obind (@idx ((List (UInt8)) × (List (List (UInt8))) × Unit) x.1 y1.1.2.1) (fun (y3 : (List (UInt8)) × (List (List (UInt8))) × Unit) => obind (P_ref17_FewTexts (y3.2.1, ())) (fun (y4 : Bool × Unit) => some (nt y4.1))))
  (some true)) (fun (y3 : Bool) => sel y3
  (some (Sum.inr ((1 : Nat), ((false, (y1.1.2.1, ())), ())) : (((Bool × Int × Unit) × Unit)) ⊕ ((Nat × (Bool × Int × Unit) × Unit))))
  (some (Sum.inl ((y1.1.1, (iadd IntKind.i64 y1.1.2.1 (1 : Int), ())), ()) : (((Bool × Int × Unit) × Unit)) ⊕ ((Nat × (Bool × Int × Unit) × Unit)))))))
  (some (Sum.inr ((0 : Nat), ((y1.1.1, (y1.1.2.1, ())), ())) : (((Bool × Int × Unit) × Unit)) ⊕ ((Nat × (Bool × Int × Unit) × Unit))))

noncomputable def P_ref17_Few (x : (List ((List (UInt8)) × (List (List (UInt8))) × Unit)) × Unit) : Option (Bool × Unit) :=
  obind (Loop (P_ref17_Few_L0 x) ((false, ((0 : Int), ())), ())) (fun (y1 : Nat × (Bool × Int × Unit) × Unit) => sel (eqN y1.1 (0 : Nat))
  (some (leI (@len ((List (UInt8)) × (List (List (UInt8))) × Unit) x.1) (40 : Int), ()))
  (some (y1.2.1.1, ())))

noncomputable def P_slices_Clone_string_string (x : (List (List (UInt8))) × Unit) : Option ((List (List (UInt8))) × Unit) :=
  bif fits (len x.1) then some (x.1, ()) else none

noncomputable def P_strings_trimLeftByte_L0 (x : (List (UInt8)) × Int × Unit) (y1 : ((List (UInt8)) × Unit) × Unit) : Option ((((List (UInt8)) × Unit) × Unit) ⊕ (((List (UInt8)) × Unit) × Unit)) :=
  @way1 (((List (UInt8)) × Unit) × Unit) (obind (sel (ltI (0 : Int) (@len UInt8 y1.1.1))
  (obind (@idx UInt8 y1.1.1 (0 : Int)) (fun (y2 : UInt8) => some (eqI (u8 y2) x.2.1)))
  (some false)) (fun (y2 : Bool) => sel y2
  (sel (inside (1 : Int) (@len UInt8 y1.1.1) (@len UInt8 y1.1.1))
  (some (Sum.inl ((@sub UInt8 y1.1.1 (1 : Int) (minus (@len UInt8 y1.1.1) (1 : Int)), ()), ()) : ((((List (UInt8)) × Unit) × Unit)) ⊕ ((Nat × ((List (UInt8)) × Unit) × Unit))))
  (none : Option ((((List (UInt8)) × Unit) × Unit) ⊕ (Nat × ((List (UInt8)) × Unit) × Unit))))
  (some (Sum.inr ((0 : Nat), ((y1.1.1, ()), ())) : ((((List (UInt8)) × Unit) × Unit)) ⊕ ((Nat × ((List (UInt8)) × Unit) × Unit))))))

noncomputable def P_strings_trimLeftByte (x : (List (UInt8)) × Int × Unit) : Option ((List (UInt8)) × Unit) :=
  obind (Loop (P_strings_trimLeftByte_L0 x) ((x.1, ()), ())) (fun (y1 : ((List (UInt8)) × Unit) × Unit) => some (y1.1.1, ()))

noncomputable def P_strings_trimRightByte_L0 (x : (List (UInt8)) × Int × Unit) (y1 : ((List (UInt8)) × Unit) × Unit) : Option ((((List (UInt8)) × Unit) × Unit) ⊕ (((List (UInt8)) × Unit) × Unit)) :=
  @way1 (((List (UInt8)) × Unit) × Unit) (obind (sel (ltI (0 : Int) (@len UInt8 y1.1.1))
  (obind (@idx UInt8 y1.1.1 (isub IntKind.i64 (@len UInt8 y1.1.1) (1 : Int))) (fun (y2 : UInt8) => some (eqI (u8 y2) x.2.1)))
  (some false)) (fun (y2 : Bool) => sel y2
  (sel (inside (0 : Int) (isub IntKind.i64 (@len UInt8 y1.1.1) (1 : Int)) (@len UInt8 y1.1.1))
  (some (Sum.inl ((@sub UInt8 y1.1.1 (0 : Int) (minus (isub IntKind.i64 (@len UInt8 y1.1.1) (1 : Int)) (0 : Int)), ()), ()) : ((((List (UInt8)) × Unit) × Unit)) ⊕ ((Nat × ((List (UInt8)) × Unit) × Unit))))
  (none : Option ((((List (UInt8)) × Unit) × Unit) ⊕ (Nat × ((List (UInt8)) × Unit) × Unit))))
  (some (Sum.inr ((0 : Nat), ((y1.1.1, ()), ())) : ((((List (UInt8)) × Unit) × Unit)) ⊕ ((Nat × ((List (UInt8)) × Unit) × Unit))))))

noncomputable def P_strings_trimRightByte (x : (List (UInt8)) × Int × Unit) : Option ((List (UInt8)) × Unit) :=
  obind (Loop (P_strings_trimRightByte_L0 x) ((x.1, ()), ())) (fun (y1 : ((List (UInt8)) × Unit) × Unit) => some (y1.1.1, ()))

noncomputable def P_strings_makeASCIISet_L0 (x : (List (UInt8)) × Unit) (y1 : (Bool × Int × Unit) × (List (Bool)) × Unit) : Option (((Bool × Int × Unit) × (List (Bool)) × Unit) ⊕ (Nat × (Bool × Int × Unit) × (List (Bool)) × Unit)) :=
  sel (ltI y1.1.2.1 (@len UInt8 x.1))
  (obind (@idx UInt8 x.1 y1.1.2.1) (fun (y2 : UInt8) => sel (leI (128 : Int) (u8 y2))
  (some (Sum.inr ((1 : Nat), ((false, (y1.1.2.1, ())), (y1.2.1, ()))) : (((Bool × Int × Unit) × (List (Bool)) × Unit)) ⊕ ((Nat × (Bool × Int × Unit) × (List (Bool)) × Unit))))
  (sel (within (u8 y2) (256 : Int))
  (obind (@idx Bool y1.2.1 (u8 y2)) (fun (y3 : Bool) => obind (@idx Bool y1.2.1 (u8 y2)) (fun (y4 : Bool) => obind (@idx Bool y1.2.1 (u8 y2)) (fun (y5 : Bool) => some (Sum.inl ((y1.1.1, (iadd IntKind.i64 y1.1.2.1 (1 : Int), ())), (@lset Bool y1.2.1 (u8 y2) true, ())) : (((Bool × Int × Unit) × (List (Bool)) × Unit)) ⊕ ((Nat × (Bool × Int × Unit) × (List (Bool)) × Unit)))))))
  (none : Option (((Bool × Int × Unit) × (List (Bool)) × Unit) ⊕ (Nat × (Bool × Int × Unit) × (List (Bool)) × Unit))))))
  (some (Sum.inr ((0 : Nat), ((y1.1.1, (y1.1.2.1, ())), (y1.2.1, ()))) : (((Bool × Int × Unit) × (List (Bool)) × Unit)) ⊕ ((Nat × (Bool × Int × Unit) × (List (Bool)) × Unit))))

noncomputable def P_strings_makeASCIISet (x : (List (UInt8)) × Unit) : Option ((List (Bool)) × Bool × Unit) :=
  obind (Loop (P_strings_makeASCIISet_L0 x) ((false, ((0 : Int), ())), (((List.replicate 256 false) : List (Bool)), ()))) (fun (y1 : Nat × (Bool × Int × Unit) × (List (Bool)) × Unit) => sel (eqN y1.1 (0 : Nat))
  (some (y1.2.2.1, (true, ())))
  (some (y1.2.2.1, (y1.2.1.1, ()))))

noncomputable def P_strings_asciiSet_contains (x : (Int × Unit) × (List (Bool)) × Unit) : Option ((Bool × Unit) × (List (Bool)) × Unit) :=
  sel (within x.1.1 (256 : Int))
  (obind (@idx Bool x.2.1 x.1.1) (fun (y1 : Bool) => some ((y1, ()), (x.2.1, ()))))
  (none : Option ((Bool × Unit) × (List (Bool)) × Unit))

noncomputable def P_strings_trimLeftASCII_L0 (y1 : ((List (UInt8)) × Unit) × (List (Bool)) × Unit) : Option ((((List (UInt8)) × Unit) × (List (Bool)) × Unit) ⊕ (((List (UInt8)) × Unit) × (List (Bool)) × Unit)) :=
  @way1 (((List (UInt8)) × Unit) × (List (Bool)) × Unit) (sel (ltI (0 : Int) (@len UInt8 y1.1.1))
  (obind (@idx UInt8 y1.1.1 (0 : Int)) (fun (y2 : UInt8) => obind (P_strings_asciiSet_contains ((u8 y2, ()), (y1.2.1, ()))) (fun (y3 : (Bool × Unit) × (List (Bool)) × Unit) => sel (nt y3.1.1)
  (some (Sum.inr ((0 : Nat), ((y1.1.1, ()), (y3.2.1, ()))) : ((((List (UInt8)) × Unit) × (List (Bool)) × Unit)) ⊕ ((Nat × ((List (UInt8)) × Unit) × (List (Bool)) × Unit))))
  (sel (inside (1 : Int) (@len UInt8 y1.1.1) (@len UInt8 y1.1.1))
  (some (Sum.inl ((@sub UInt8 y1.1.1 (1 : Int) (minus (@len UInt8 y1.1.1) (1 : Int)), ()), (y3.2.1, ())) : ((((List (UInt8)) × Unit) × (List (Bool)) × Unit)) ⊕ ((Nat × ((List (UInt8)) × Unit) × (List (Bool)) × Unit))))
  (none : Option ((((List (UInt8)) × Unit) × (List (Bool)) × Unit) ⊕ (Nat × ((List (UInt8)) × Unit) × (List (Bool)) × Unit)))))))
  (some (Sum.inr ((0 : Nat), ((y1.1.1, ()), (y1.2.1, ()))) : ((((List (UInt8)) × Unit) × (List (Bool)) × Unit)) ⊕ ((Nat × ((List (UInt8)) × Unit) × (List (Bool)) × Unit)))))

noncomputable def P_strings_trimLeftASCII (x : ((List (UInt8)) × Unit) × (List (Bool)) × Unit) : Option (((List (UInt8)) × Unit) × (List (Bool)) × Unit) :=
  obind (Loop (P_strings_trimLeftASCII_L0) ((x.1.1, ()), (x.2.1, ()))) (fun (y1 : ((List (UInt8)) × Unit) × (List (Bool)) × Unit) => some ((y1.1.1, ()), (y1.2.1, ())))

noncomputable def P_strings_trimRightASCII_L0 (y1 : ((List (UInt8)) × Unit) × (List (Bool)) × Unit) : Option ((((List (UInt8)) × Unit) × (List (Bool)) × Unit) ⊕ (((List (UInt8)) × Unit) × (List (Bool)) × Unit)) :=
  @way1 (((List (UInt8)) × Unit) × (List (Bool)) × Unit) (sel (ltI (0 : Int) (@len UInt8 y1.1.1))
  (obind (@idx UInt8 y1.1.1 (isub IntKind.i64 (@len UInt8 y1.1.1) (1 : Int))) (fun (y2 : UInt8) => obind (P_strings_asciiSet_contains ((u8 y2, ()), (y1.2.1, ()))) (fun (y3 : (Bool × Unit) × (List (Bool)) × Unit) => sel (nt y3.1.1)
  (some (Sum.inr ((0 : Nat), ((y1.1.1, ()), (y3.2.1, ()))) : ((((List (UInt8)) × Unit) × (List (Bool)) × Unit)) ⊕ ((Nat × ((List (UInt8)) × Unit) × (List (Bool)) × Unit))))
  (sel (inside (0 : Int) (isub IntKind.i64 (@len UInt8 y1.1.1) (1 : Int)) (@len UInt8 y1.1.1))
  (some (Sum.inl ((@sub UInt8 y1.1.1 (0 : Int) (minus (isub IntKind.i64 (@len UInt8 y1.1.1) (1 : Int)) (0 : Int)), ()), (y3.2.1, ())) : ((((List (UInt8)) × Unit) × (List (Bool)) × Unit)) ⊕ ((Nat × ((List (UInt8)) × Unit) × (List (Bool)) × Unit))))
  (none : Option ((((List (UInt8)) × Unit) × (List (Bool)) × Unit) ⊕ (Nat × ((List (UInt8)) × Unit) × (List (Bool)) × Unit)))))))
  (some (Sum.inr ((0 : Nat), ((y1.1.1, ()), (y1.2.1, ()))) : ((((List (UInt8)) × Unit) × (List (Bool)) × Unit)) ⊕ ((Nat × ((List (UInt8)) × Unit) × (List (Bool)) × Unit)))))

noncomputable def P_strings_trimRightASCII (x : ((List (UInt8)) × Unit) × (List (Bool)) × Unit) : Option (((List (UInt8)) × Unit) × (List (Bool)) × Unit) :=
  obind (Loop (P_strings_trimRightASCII_L0) ((x.1.1, ()), (x.2.1, ()))) (fun (y1 : ((List (UInt8)) × Unit) × (List (Bool)) × Unit) => some ((y1.1.1, ()), (y1.2.1, ())))

noncomputable def P_strings_Trim (x : (List (UInt8)) × (List (UInt8)) × Unit) : Option ((List (UInt8)) × Unit) :=
  sel (sel (nt (eqS x.1 ([] : List (UInt8))))
  (eqS x.2.1 ([] : List (UInt8)))
  true)
  (some (x.1, ()))
  (obind (sel (eqI (@len UInt8 x.2.1) (1 : Int))
  (obind (@idx UInt8 x.2.1 (0 : Int)) (fun (y1 : UInt8) => some (ltI (u8 y1) (128 : Int))))
  (some false)) (fun (y1 : Bool) => sel y1
  (obind (@idx UInt8 x.2.1 (0 : Int)) (fun (y2 : UInt8) => obind (P_strings_trimRightByte (x.1, (u8 y2, ()))) (fun (y3 : (List (UInt8)) × Unit) => obind (@idx UInt8 x.2.1 (0 : Int)) (fun (y4 : UInt8) => obind (P_strings_trimLeftByte (y3.1, (u8 y4, ()))) (fun (y5 : (List (UInt8)) × Unit) => some (y5.1, ()))))))
  (obind (P_strings_makeASCIISet (x.2.1, ())) (fun (y2 : (List (Bool)) × Bool × Unit) => sel y2.2.1
  (obind (P_strings_trimRightASCII ((x.1, ()), (y2.1, ()))) (fun (y3 : ((List (UInt8)) × Unit) × (List (Bool)) × Unit) => obind (P_strings_trimLeftASCII ((y3.1.1, ()), (y3.2.1, ()))) (fun (y4 : ((List (UInt8)) × Unit) × (List (Bool)) × Unit) => some (y4.1.1, ()))))
  (none : Option ((List (UInt8)) × Unit))))))

noncomputable def P_record_IsName (x : (List (UInt8)) × Unit) : Option (Bool × Unit) :=
  obind (sel (sel (leI (1 : Int) (@len UInt8 x.1))
  (leI (@len UInt8 x.1) (32 : Int))
  false)
  (obind (P_strings_Trim (x.1, (([(97 : UInt8), (98 : UInt8), (99 : UInt8), (100 : UInt8), (101 : UInt8), (102 : UInt8), (103 : UInt8), (104 : UInt8), (105 : UInt8), (106 : UInt8), (107 : UInt8), (108 : UInt8), (109 : UInt8), (110 : UInt8), (111 : UInt8), (112 : UInt8), (113 : UInt8), (114 : UInt8), (115 : UInt8), (116 : UInt8), (117 : UInt8), (118 : UInt8), (119 : UInt8), (120 : UInt8), (121 : UInt8), (122 : UInt8), (48 : UInt8), (49 : UInt8), (50 : UInt8), (51 : UInt8), (52 : UInt8), (53 : UInt8), (54 : UInt8), (55 : UInt8), (56 : UInt8), (57 : UInt8), (46 : UInt8), (95 : UInt8), (45 : UInt8)] : List (UInt8)), ()))) (fun (y1 : (List (UInt8)) × Unit) => some (eqS y1.1 ([] : List (UInt8)))))
  (some false)) (fun (y1 : Bool) => some (y1, ()))

noncomputable def P_names_Check_L0 (x : (List (List (UInt8))) × Unit) (y3 : (Int × Int × Unit) × Unit) : Option (((Int × Int × Unit) × Unit) ⊕ (Nat × (Int × Int × Unit) × Unit)) :=
  sel (ltI y3.1.2.1 (@len (List (UInt8)) x.1))
  (obind (@idx (List (UInt8)) x.1 y3.1.2.1) (fun (y4 : List (UInt8)) => obind (P_record_IsName (y4, ())) (fun (y5 : Bool × Unit) => sel (nt y5.1)
  (some (Sum.inr ((1 : Nat), ((y3.1.2.1, (y3.1.2.1, ())), ())) : (((Int × Int × Unit) × Unit)) ⊕ ((Nat × (Int × Int × Unit) × Unit))))
  (some (Sum.inl ((y3.1.1, (iadd IntKind.i64 y3.1.2.1 (1 : Int), ())), ()) : (((Int × Int × Unit) × Unit)) ⊕ ((Nat × (Int × Int × Unit) × Unit)))))))
  (some (Sum.inr ((0 : Nat), ((y3.1.1, (y3.1.2.1, ())), ())) : (((Int × Int × Unit) × Unit)) ⊕ ((Nat × (Int × Int × Unit) × Unit))))

noncomputable def P_names_Check (x : (List (List (UInt8))) × Unit) : Option (Int × Unit) :=
  sel (fits (@len (List (UInt8)) x.1))
  (obind (P_slices_Sort_string_string x.1 ()) (fun (y1 : List (List (UInt8))) => obind (P_slices_Compact_string_string y1 ()) (fun (y2 : List (List (UInt8))) => obind (Loop (P_names_Check_L0 x) (((0 : Int), ((0 : Int), ())), ())) (fun (y3 : Nat × (Int × Int × Unit) × Unit) => sel (eqN y3.1 (0 : Nat))
  (sel (sel (nt (sel (nt (ltI (4 : Int) (@len (List (UInt8)) x.1)))
  (ltI (@len (List (UInt8)) y2) (@len (List (UInt8)) x.1))
  true))
  (leI (0 : Int) (-1 : Int))
  true)
  (some ((1 : Int), ()))
  (some ((0 : Int), ())))
  (sel (sel (nt (sel (nt (ltI (4 : Int) (@len (List (UInt8)) x.1)))
  (ltI (@len (List (UInt8)) y2) (@len (List (UInt8)) x.1))
  true))
  (leI (0 : Int) y3.2.1.1)
  true)
  (some ((1 : Int), ()))
  (some ((0 : Int), ())))))))
  (none : Option (Int × Unit))

noncomputable def P_names_find_L0 (x : (List ((List (UInt8)) × (List (List (UInt8))) × Unit)) × (List (UInt8)) × Unit) (y1 : (Int × Int × Unit) × (List (UInt8)) × Unit) : Option (((Int × Int × Unit) × (List (UInt8)) × Unit) ⊕ (Nat × (Int × Int × Unit) × (List (UInt8)) × Unit)) :=
  sel (ltI y1.1.2.1 (@len ((List (UInt8)) × (List (List (UInt8))) × Unit) x.1))
  (obind (@idx ((List (UInt8)) × (List (List (UInt8))) × Unit) x.1 y1.1.2.1) (fun (y2 : (List (UInt8)) × (List (List (UInt8))) × Unit) => sel (eqS y2.1 y1.2.1)
  (some (Sum.inr ((1 : Nat), ((y1.1.2.1, (y1.1.2.1, ())), (y1.2.1, ()))) : (((Int × Int × Unit) × (List (UInt8)) × Unit)) ⊕ ((Nat × (Int × Int × Unit) × (List (UInt8)) × Unit))))
  (some (Sum.inl ((y1.1.1, (iadd IntKind.i64 y1.1.2.1 (1 : Int), ())), (y1.2.1, ())) : (((Int × Int × Unit) × (List (UInt8)) × Unit)) ⊕ ((Nat × (Int × Int × Unit) × (List (UInt8)) × Unit))))))
  (some (Sum.inr ((0 : Nat), ((y1.1.1, (y1.1.2.1, ())), (y1.2.1, ()))) : (((Int × Int × Unit) × (List (UInt8)) × Unit)) ⊕ ((Nat × (Int × Int × Unit) × (List (UInt8)) × Unit))))

noncomputable def P_names_find (x : (List ((List (UInt8)) × (List (List (UInt8))) × Unit)) × (List (UInt8)) × Unit) : Option (Int × Unit) :=
  obind (Loop (P_names_find_L0 x) (((0 : Int), ((0 : Int), ())), (x.2.1, ()))) (fun (y1 : Nat × (Int × Int × Unit) × (List (UInt8)) × Unit) => sel (eqN y1.1 (0 : Nat))
  (some ((-1 : Int), ()))
  (some (y1.2.1.1, ())))

noncomputable def P_slices_Index_string_string_L0 (x : (List (List (UInt8))) × (List (UInt8)) × Unit) (y1 : (Int × Int × Unit) × Unit) : Option (((Int × Int × Unit) × Unit) ⊕ (Nat × (Int × Int × Unit) × Unit)) :=
  sel (ltI y1.1.2.1 (@len (List (UInt8)) x.1))
  (obind (@idx (List (UInt8)) x.1 y1.1.2.1) (fun (y2 : List (UInt8)) => sel (eqS x.2.1 y2)
  (some (Sum.inr ((1 : Nat), ((y1.1.2.1, (y1.1.2.1, ())), ())) : (((Int × Int × Unit) × Unit)) ⊕ ((Nat × (Int × Int × Unit) × Unit))))
  (some (Sum.inl ((y1.1.1, (iadd IntKind.i64 y1.1.2.1 (1 : Int), ())), ()) : (((Int × Int × Unit) × Unit)) ⊕ ((Nat × (Int × Int × Unit) × Unit))))))
  (some (Sum.inr ((0 : Nat), ((y1.1.1, (y1.1.2.1, ())), ())) : (((Int × Int × Unit) × Unit)) ⊕ ((Nat × (Int × Int × Unit) × Unit))))

noncomputable def P_slices_Index_string_string (x : (List (List (UInt8))) × (List (UInt8)) × Unit) : Option (Int × Unit) :=
  obind (Loop (P_slices_Index_string_string_L0 x) (((0 : Int), ((0 : Int), ())), ())) (fun (y1 : Nat × (Int × Int × Unit) × Unit) => sel (eqN y1.1 (0 : Nat))
  (some ((-1 : Int), ()))
  (some (y1.2.1.1, ())))

noncomputable def P_slices_Contains_string_string (x : (List (List (UInt8))) × (List (UInt8)) × Unit) : Option (Bool × Unit) :=
  obind (P_slices_Index_string_string (x.1, (x.2.1, ()))) (fun (y1 : Int × Unit) => some (leI (0 : Int) y1.1, ()))

noncomputable def P_names_Free_L1 (y4 : (List (UInt8)) × (List (List (UInt8))) × Unit) (y5 : (Int × Int × Unit) × (List (List (UInt8))) × Unit) : Option (((Int × Int × Unit) × (List (List (UInt8))) × Unit) ⊕ (Nat × (Int × Int × Unit) × (List (List (UInt8))) × Unit)) :=
  sel (ltI y5.1.2.1 (@len (List (UInt8)) y4.2.1))
  (obind (@idx (List (UInt8)) y4.2.1 y5.1.2.1) (fun (y6 : List (UInt8)) => obind (P_slices_Contains_string_string (y5.2.1, (y6, ()))) (fun (y7 : Bool × Unit) => sel y7.1
  (some (Sum.inr ((1 : Nat), ((y5.1.2.1, (y5.1.2.1, ())), (y5.2.1, ()))) : (((Int × Int × Unit) × (List (List (UInt8))) × Unit)) ⊕ ((Nat × (Int × Int × Unit) × (List (List (UInt8))) × Unit))))
  (some (Sum.inl ((y5.1.1, (iadd IntKind.i64 y5.1.2.1 (1 : Int), ())), (y5.2.1, ())) : (((Int × Int × Unit) × (List (List (UInt8))) × Unit)) ⊕ ((Nat × (Int × Int × Unit) × (List (List (UInt8))) × Unit)))))))
  (some (Sum.inr ((0 : Nat), ((y5.1.1, (y5.1.2.1, ())), (y5.2.1, ()))) : (((Int × Int × Unit) × (List (List (UInt8))) × Unit)) ⊕ ((Nat × (Int × Int × Unit) × (List (List (UInt8))) × Unit))))

noncomputable def P_names_Free_L0 (x : (List ((List (UInt8)) × (List (List (UInt8))) × Unit)) × (List (UInt8)) × (List (List (UInt8))) × Unit) (y2 : Int × Unit) (y3 : (Int × Int × Unit) × (List (List (UInt8))) × Unit) : Option (((Int × Int × Unit) × (List (List (UInt8))) × Unit) ⊕ (Nat × (Int × Int × Unit) × (List (List (UInt8))) × Unit)) :=
  sel (ltI y3.1.2.1 (@len ((List (UInt8)) × (List (List (UInt8))) × Unit) x.1))
  (obind (@idx ((List (UInt8)) × (List (List (UInt8))) × Unit) x.1 y3.1.2.1) (fun (y4 : (List (UInt8)) × (List (List (UInt8))) × Unit) => sel (nt (eqI y3.1.2.1 y2.1))
  (obind (Loop (P_names_Free_L1 y4) (((0 : Int), ((0 : Int), ())), (y3.2.1, ()))) (fun (y5 : Nat × (Int × Int × Unit) × (List (List (UInt8))) × Unit) => sel (eqN y5.1 (0 : Nat))
  (sel (leI (0 : Int) (-1 : Int))
  (some (Sum.inr ((1 : Nat), (((8 : Int), (y3.1.2.1, ())), (y5.2.2.1, ()))) : (((Int × Int × Unit) × (List (List (UInt8))) × Unit)) ⊕ ((Nat × (Int × Int × Unit) × (List (List (UInt8))) × Unit))))
  (some (Sum.inl ((y3.1.1, (iadd IntKind.i64 y3.1.2.1 (1 : Int), ())), (y5.2.2.1, ())) : (((Int × Int × Unit) × (List (List (UInt8))) × Unit)) ⊕ ((Nat × (Int × Int × Unit) × (List (List (UInt8))) × Unit)))))
  (sel (leI (0 : Int) y5.2.1.1)
  (some (Sum.inr ((1 : Nat), (((8 : Int), (y3.1.2.1, ())), (y5.2.2.1, ()))) : (((Int × Int × Unit) × (List (List (UInt8))) × Unit)) ⊕ ((Nat × (Int × Int × Unit) × (List (List (UInt8))) × Unit))))
  (some (Sum.inl ((y3.1.1, (iadd IntKind.i64 y3.1.2.1 (1 : Int), ())), (y5.2.2.1, ())) : (((Int × Int × Unit) × (List (List (UInt8))) × Unit)) ⊕ ((Nat × (Int × Int × Unit) × (List (List (UInt8))) × Unit)))))))
  (some (Sum.inl ((y3.1.1, (iadd IntKind.i64 y3.1.2.1 (1 : Int), ())), (y3.2.1, ())) : (((Int × Int × Unit) × (List (List (UInt8))) × Unit)) ⊕ ((Nat × (Int × Int × Unit) × (List (List (UInt8))) × Unit))))))
  (some (Sum.inr ((0 : Nat), ((y3.1.1, (y3.1.2.1, ())), (y3.2.1, ()))) : (((Int × Int × Unit) × (List (List (UInt8))) × Unit)) ⊕ ((Nat × (Int × Int × Unit) × (List (List (UInt8))) × Unit))))

noncomputable def P_names_Free (x : (List ((List (UInt8)) × (List (List (UInt8))) × Unit)) × (List (UInt8)) × (List (List (UInt8))) × Unit) : Option (Int × Unit) :=
  obind (P_names_Check (x.2.2.1, ())) (fun (y1 : Int × Unit) => sel (nt (eqI y1.1 (0 : Int)))
  (some (y1.1, ()))
  (obind (P_names_find (x.1, (x.2.1, ()))) (fun (y2 : Int × Unit) => obind (Loop (P_names_Free_L0 x y2) (((0 : Int), ((0 : Int), ())), (x.2.2.1, ()))) (fun (y3 : Nat × (Int × Int × Unit) × (List (List (UInt8))) × Unit) => sel (eqN y3.1 (0 : Nat))
  (some ((0 : Int), ()))
  (some (y3.2.1.1, ()))))))

noncomputable def P_slices_Clone_api_Named_api_Named (x : (List ((List (UInt8)) × (List (List (UInt8))) × Unit)) × Unit) : Option ((List ((List (UInt8)) × (List (List (UInt8))) × Unit)) × Unit) :=
  bif fits (len x.1) then some (x.1, ()) else none

noncomputable def P_names_Set (x : (List ((List (UInt8)) × (List (List (UInt8))) × Unit)) × (List (UInt8)) × (List (List (UInt8))) × Unit) : Option ((List ((List (UInt8)) × (List (List (UInt8))) × Unit)) × Int × Unit) :=
  obind (P_names_find (x.1, (x.2.1, ()))) (fun (y1 : Int × Unit) => obind (P_names_Check (x.2.2.1, ())) (fun (y2 : Int × Unit) => sel (nt (eqI y2.1 (0 : Int)))
  (some (([] : List ((List (UInt8)) × (List (List (UInt8))) × Unit)), (y2.1, ())))
  (sel (ltI y1.1 (0 : Int))
  (some (([] : List ((List (UInt8)) × (List (List (UInt8))) × Unit)), ((3 : Int), ())))
  (obind (P_names_Free (x.1, (x.2.1, (x.2.2.1, ())))) (fun (y3 : Int × Unit) => sel (nt (eqI y3.1 (0 : Int)))
  (some (([] : List ((List (UInt8)) × (List (List (UInt8))) × Unit)), (y3.1, ())))
  (sel (fits (@len ((List (UInt8)) × (List (List (UInt8))) × Unit) x.1))
  (obind (P_slices_Clone_string_string (x.2.2.1, ())) (fun (y4 : (List (List (UInt8))) × Unit) => sel (within y1.1 (@len ((List (UInt8)) × (List (List (UInt8))) × Unit) x.1))
  (obind (@idx ((List (UInt8)) × (List (List (UInt8))) × Unit) x.1 y1.1) (fun (y5 : (List (UInt8)) × (List (List (UInt8))) × Unit) => obind (@idx ((List (UInt8)) × (List (List (UInt8))) × Unit) x.1 y1.1) (fun (y6 : (List (UInt8)) × (List (List (UInt8))) × Unit) => obind (@idx ((List (UInt8)) × (List (List (UInt8))) × Unit) x.1 y1.1) (fun (y7 : (List (UInt8)) × (List (List (UInt8))) × Unit) => some (@lset ((List (UInt8)) × (List (List (UInt8))) × Unit) x.1 y1.1 (x.2.1, (y4.1, ())), ((0 : Int), ()))))))
  (none : Option ((List ((List (UInt8)) × (List (List (UInt8))) × Unit)) × Int × Unit))))
  (none : Option ((List ((List (UInt8)) × (List (List (UInt8))) × Unit)) × Int × Unit))))))))

noncomputable def P_names_Owner_L0 (x : (List ((List (UInt8)) × (List (List (UInt8))) × Unit)) × (List (UInt8)) × Unit) (y1 : ((List (UInt8)) × Bool × Int × Unit) × Unit) : Option ((((List (UInt8)) × Bool × Int × Unit) × Unit) ⊕ (Nat × ((List (UInt8)) × Bool × Int × Unit) × Unit)) :=
  sel (ltI y1.1.2.2.1 (@len ((List (UInt8)) × (List (List (UInt8))) × Unit) x.1))
  (obind (@idx ((List (UInt8)) × (List (List (UInt8))) × Unit) x.1 y1.1.2.2.1) (fun (y2 : (List (UInt8)) × (List (List (UInt8))) × Unit) => obind (P_slices_Contains_string_string (y2.2.1, (x.2.1, ()))) (fun (y3 : Bool × Unit) => sel y3.1
  (some (Sum.inr ((1 : Nat), ((y2.1, (true, (y1.1.2.2.1, ()))), ())) : ((((List (UInt8)) × Bool × Int × Unit) × Unit)) ⊕ ((Nat × ((List (UInt8)) × Bool × Int × Unit) × Unit))))
  (some (Sum.inl ((y1.1.1, (y1.1.2.1, (iadd IntKind.i64 y1.1.2.2.1 (1 : Int), ()))), ()) : ((((List (UInt8)) × Bool × Int × Unit) × Unit)) ⊕ ((Nat × ((List (UInt8)) × Bool × Int × Unit) × Unit)))))))
  (some (Sum.inr ((0 : Nat), ((y1.1.1, (y1.1.2.1, (y1.1.2.2.1, ()))), ())) : ((((List (UInt8)) × Bool × Int × Unit) × Unit)) ⊕ ((Nat × ((List (UInt8)) × Bool × Int × Unit) × Unit))))

noncomputable def P_names_Owner (x : (List ((List (UInt8)) × (List (List (UInt8))) × Unit)) × (List (UInt8)) × Unit) : Option ((List (UInt8)) × Bool × Unit) :=
  obind (Loop (P_names_Owner_L0 x) ((([] : List (UInt8)), (false, ((0 : Int), ()))), ())) (fun (y1 : Nat × ((List (UInt8)) × Bool × Int × Unit) × Unit) => sel (eqN y1.1 (0 : Nat))
  (some (([] : List (UInt8)), (false, ())))
  (some (y1.2.1.1, (y1.2.1.2.1, ()))))

noncomputable def P_names_Of_L0 (x : Int × (Int × (List ((List (UInt8)) × (List (UInt8)) × (List (List (UInt8))) × (List (UInt8)) × Int × Int × Bool × Unit)) × (List ((List (UInt8)) × (List (List (UInt8))) × (List (UInt8)) × (List (UInt8)) × (List ((List (UInt8)) × (List (UInt8)) × (List (UInt8)) × Unit)) × Unit)) × (List ((List (UInt8)) × (List (List (UInt8))) × (List (UInt8)) × (List (UInt8)) × (List (UInt8)) × (List ((List (UInt8)) × (List (UInt8)) × (List (UInt8)) × Unit)) × Unit)) × Unit) × Unit) (y1 : (Int × Unit) × Unit × (List ((List (UInt8)) × (List (List (UInt8))) × Unit)) × Unit) : Option (((Int × Unit) × Unit × (List ((List (UInt8)) × (List (List (UInt8))) × Unit)) × Unit) ⊕ ((Int × Unit) × Unit × (List ((List (UInt8)) × (List (List (UInt8))) × Unit)) × Unit)) :=
  @way1 ((Int × Unit) × Unit × (List ((List (UInt8)) × (List (List (UInt8))) × Unit)) × Unit) (sel (ltI y1.1.1 (@len ((List (UInt8)) × (List (List (UInt8))) × (List (UInt8)) × (List (UInt8)) × (List (UInt8)) × (List ((List (UInt8)) × (List (UInt8)) × (List (UInt8)) × Unit)) × Unit) x.2.1.2.2.2.1))
  (obind (@idx ((List (UInt8)) × (List (List (UInt8))) × (List (UInt8)) × (List (UInt8)) × (List (UInt8)) × (List ((List (UInt8)) × (List (UInt8)) × (List (UInt8)) × Unit)) × Unit) x.2.1.2.2.2.1 y1.1.1) (fun (y2 : (List (UInt8)) × (List (List (UInt8))) × (List (UInt8)) × (List (UInt8)) × (List (UInt8)) × (List ((List (UInt8)) × (List (UInt8)) × (List (UInt8)) × Unit)) × Unit) => obind (P_slices_Clone_string_string (y2.2.1, ())) (fun (y3 : (List (List (UInt8))) × Unit) => sel (fits (plus (@len ((List (UInt8)) × (List (List (UInt8))) × Unit) y1.2.2.1) (@len ((List (UInt8)) × (List (List (UInt8))) × Unit) ([(y2.1, (y3.1, ()))] : List ((List (UInt8)) × (List (List (UInt8))) × Unit)))))
  (some (Sum.inl ((iadd IntKind.i64 y1.1.1 (1 : Int), ()), ((), (@app ((List (UInt8)) × (List (List (UInt8))) × Unit) y1.2.2.1 ([(y2.1, (y3.1, ()))] : List ((List (UInt8)) × (List (List (UInt8))) × Unit)), ()))) : (((Int × Unit) × Unit × (List ((List (UInt8)) × (List (List (UInt8))) × Unit)) × Unit)) ⊕ ((Nat × (Int × Unit) × Unit × (List ((List (UInt8)) × (List (List (UInt8))) × Unit)) × Unit))))
  (none : Option (((Int × Unit) × Unit × (List ((List (UInt8)) × (List (List (UInt8))) × Unit)) × Unit) ⊕ (Nat × (Int × Unit) × Unit × (List ((List (UInt8)) × (List (List (UInt8))) × Unit)) × Unit))))))
  (some (Sum.inr ((0 : Nat), ((y1.1.1, ()), ((), (y1.2.2.1, ())))) : (((Int × Unit) × Unit × (List ((List (UInt8)) × (List (List (UInt8))) × Unit)) × Unit)) ⊕ ((Nat × (Int × Unit) × Unit × (List ((List (UInt8)) × (List (List (UInt8))) × Unit)) × Unit)))))

noncomputable def P_names_Of_L1 (x : Int × (Int × (List ((List (UInt8)) × (List (UInt8)) × (List (List (UInt8))) × (List (UInt8)) × Int × Int × Bool × Unit)) × (List ((List (UInt8)) × (List (List (UInt8))) × (List (UInt8)) × (List (UInt8)) × (List ((List (UInt8)) × (List (UInt8)) × (List (UInt8)) × Unit)) × Unit)) × (List ((List (UInt8)) × (List (List (UInt8))) × (List (UInt8)) × (List (UInt8)) × (List (UInt8)) × (List ((List (UInt8)) × (List (UInt8)) × (List (UInt8)) × Unit)) × Unit)) × Unit) × Unit) (y1 : (Int × Unit) × Unit × (List ((List (UInt8)) × (List (List (UInt8))) × Unit)) × Unit) : Option (((Int × Unit) × Unit × (List ((List (UInt8)) × (List (List (UInt8))) × Unit)) × Unit) ⊕ ((Int × Unit) × Unit × (List ((List (UInt8)) × (List (List (UInt8))) × Unit)) × Unit)) :=
  @way1 ((Int × Unit) × Unit × (List ((List (UInt8)) × (List (List (UInt8))) × Unit)) × Unit) (sel (ltI y1.1.1 (@len ((List (UInt8)) × (List (List (UInt8))) × (List (UInt8)) × (List (UInt8)) × (List ((List (UInt8)) × (List (UInt8)) × (List (UInt8)) × Unit)) × Unit) x.2.1.2.2.1))
  (obind (@idx ((List (UInt8)) × (List (List (UInt8))) × (List (UInt8)) × (List (UInt8)) × (List ((List (UInt8)) × (List (UInt8)) × (List (UInt8)) × Unit)) × Unit) x.2.1.2.2.1 y1.1.1) (fun (y2 : (List (UInt8)) × (List (List (UInt8))) × (List (UInt8)) × (List (UInt8)) × (List ((List (UInt8)) × (List (UInt8)) × (List (UInt8)) × Unit)) × Unit) => obind (P_slices_Clone_string_string (y2.2.1, ())) (fun (y3 : (List (List (UInt8))) × Unit) => sel (fits (plus (@len ((List (UInt8)) × (List (List (UInt8))) × Unit) y1.2.2.1) (@len ((List (UInt8)) × (List (List (UInt8))) × Unit) ([(y2.1, (y3.1, ()))] : List ((List (UInt8)) × (List (List (UInt8))) × Unit)))))
  (some (Sum.inl ((iadd IntKind.i64 y1.1.1 (1 : Int), ()), ((), (@app ((List (UInt8)) × (List (List (UInt8))) × Unit) y1.2.2.1 ([(y2.1, (y3.1, ()))] : List ((List (UInt8)) × (List (List (UInt8))) × Unit)), ()))) : (((Int × Unit) × Unit × (List ((List (UInt8)) × (List (List (UInt8))) × Unit)) × Unit)) ⊕ ((Nat × (Int × Unit) × Unit × (List ((List (UInt8)) × (List (List (UInt8))) × Unit)) × Unit))))
  (none : Option (((Int × Unit) × Unit × (List ((List (UInt8)) × (List (List (UInt8))) × Unit)) × Unit) ⊕ (Nat × (Int × Unit) × Unit × (List ((List (UInt8)) × (List (List (UInt8))) × Unit)) × Unit))))))
  (some (Sum.inr ((0 : Nat), ((y1.1.1, ()), ((), (y1.2.2.1, ())))) : (((Int × Unit) × Unit × (List ((List (UInt8)) × (List (List (UInt8))) × Unit)) × Unit)) ⊕ ((Nat × (Int × Unit) × Unit × (List ((List (UInt8)) × (List (List (UInt8))) × Unit)) × Unit)))))

noncomputable def P_names_Of_L2 (x : Int × (Int × (List ((List (UInt8)) × (List (UInt8)) × (List (List (UInt8))) × (List (UInt8)) × Int × Int × Bool × Unit)) × (List ((List (UInt8)) × (List (List (UInt8))) × (List (UInt8)) × (List (UInt8)) × (List ((List (UInt8)) × (List (UInt8)) × (List (UInt8)) × Unit)) × Unit)) × (List ((List (UInt8)) × (List (List (UInt8))) × (List (UInt8)) × (List (UInt8)) × (List (UInt8)) × (List ((List (UInt8)) × (List (UInt8)) × (List (UInt8)) × Unit)) × Unit)) × Unit) × Unit) (y1 : (Int × Unit) × Unit × (List ((List (UInt8)) × (List (List (UInt8))) × Unit)) × Unit) : Option (((Int × Unit) × Unit × (List ((List (UInt8)) × (List (List (UInt8))) × Unit)) × Unit) ⊕ ((Int × Unit) × Unit × (List ((List (UInt8)) × (List (List (UInt8))) × Unit)) × Unit)) :=
  @way1 ((Int × Unit) × Unit × (List ((List (UInt8)) × (List (List (UInt8))) × Unit)) × Unit) (sel (ltI y1.1.1 (@len ((List (UInt8)) × (List (UInt8)) × (List (List (UInt8))) × (List (UInt8)) × Int × Int × Bool × Unit) x.2.1.2.1))
  (obind (@idx ((List (UInt8)) × (List (UInt8)) × (List (List (UInt8))) × (List (UInt8)) × Int × Int × Bool × Unit) x.2.1.2.1 y1.1.1) (fun (y2 : (List (UInt8)) × (List (UInt8)) × (List (List (UInt8))) × (List (UInt8)) × Int × Int × Bool × Unit) => obind (sel y2.2.2.2.2.2.2.1
  (obind (P_slices_Clone_string_string (y2.2.2.1, ())) (fun (y3 : (List (List (UInt8))) × Unit) => sel (fits (plus (@len ((List (UInt8)) × (List (List (UInt8))) × Unit) y1.2.2.1) (@len ((List (UInt8)) × (List (List (UInt8))) × Unit) ([(y2.1, (y3.1, ()))] : List ((List (UInt8)) × (List (List (UInt8))) × Unit)))))
  (some ((), (y2, ((), (@app ((List (UInt8)) × (List (List (UInt8))) × Unit) y1.2.2.1 ([(y2.1, (y3.1, ()))] : List ((List (UInt8)) × (List (List (UInt8))) × Unit)), ())))))
  (none : Option (Unit × ((List (UInt8)) × (List (UInt8)) × (List (List (UInt8))) × (List (UInt8)) × Int × Int × Bool × Unit) × Unit × (List ((List (UInt8)) × (List (List (UInt8))) × Unit)) × Unit))))
  (some ((), (y2, ((), (y1.2.2.1, ())))))) (fun (y3 : Unit × ((List (UInt8)) × (List (UInt8)) × (List (List (UInt8))) × (List (UInt8)) × Int × Int × Bool × Unit) × Unit × (List ((List (UInt8)) × (List (List (UInt8))) × Unit)) × Unit) => some (Sum.inl ((iadd IntKind.i64 y1.1.1 (1 : Int), ()), ((), (y3.2.2.2.1, ()))) : (((Int × Unit) × Unit × (List ((List (UInt8)) × (List (List (UInt8))) × Unit)) × Unit)) ⊕ ((Nat × (Int × Unit) × Unit × (List ((List (UInt8)) × (List (List (UInt8))) × Unit)) × Unit))))))
  (some (Sum.inr ((0 : Nat), ((y1.1.1, ()), ((), (y1.2.2.1, ())))) : (((Int × Unit) × Unit × (List ((List (UInt8)) × (List (List (UInt8))) × Unit)) × Unit)) ⊕ ((Nat × (Int × Unit) × Unit × (List ((List (UInt8)) × (List (List (UInt8))) × Unit)) × Unit)))))

noncomputable def P_names_Of (x : Int × (Int × (List ((List (UInt8)) × (List (UInt8)) × (List (List (UInt8))) × (List (UInt8)) × Int × Int × Bool × Unit)) × (List ((List (UInt8)) × (List (List (UInt8))) × (List (UInt8)) × (List (UInt8)) × (List ((List (UInt8)) × (List (UInt8)) × (List (UInt8)) × Unit)) × Unit)) × (List ((List (UInt8)) × (List (List (UInt8))) × (List (UInt8)) × (List (UInt8)) × (List (UInt8)) × (List ((List (UInt8)) × (List (UInt8)) × (List (UInt8)) × Unit)) × Unit)) × Unit) × Unit) : Option ((List ((List (UInt8)) × (List (List (UInt8))) × Unit)) × Unit) :=
  obind (sel (eqI x.1 (1 : Int))
  (obind (Loop (P_names_Of_L0 x) (((0 : Int), ()), ((), (([] : List ((List (UInt8)) × (List (List (UInt8))) × Unit)), ())))) (fun (y1 : (Int × Unit) × Unit × (List ((List (UInt8)) × (List (List (UInt8))) × Unit)) × Unit) => some ((), ((), (y1.2.2.1, ())))))
  (obind (sel (eqI x.1 (2 : Int))
  (obind (Loop (P_names_Of_L1 x) (((0 : Int), ()), ((), (([] : List ((List (UInt8)) × (List (List (UInt8))) × Unit)), ())))) (fun (y1 : (Int × Unit) × Unit × (List ((List (UInt8)) × (List (List (UInt8))) × Unit)) × Unit) => some ((), ((), (y1.2.2.1, ())))))
  (obind (sel (eqI x.1 (3 : Int))
  (obind (Loop (P_names_Of_L2 x) (((0 : Int), ()), ((), (([] : List ((List (UInt8)) × (List (List (UInt8))) × Unit)), ())))) (fun (y1 : (Int × Unit) × Unit × (List ((List (UInt8)) × (List (List (UInt8))) × Unit)) × Unit) => some ((), ((), (y1.2.2.1, ())))))
  (some ((), ((), (([] : List ((List (UInt8)) × (List (List (UInt8))) × Unit)), ()))))) (fun (y1 : Unit × Unit × (List ((List (UInt8)) × (List (List (UInt8))) × Unit)) × Unit) => some ((), ((), (y1.2.2.1, ())))))) (fun (y1 : Unit × Unit × (List ((List (UInt8)) × (List (List (UInt8))) × Unit)) × Unit) => some ((), ((), (y1.2.2.1, ())))))) (fun (y1 : Unit × Unit × (List ((List (UInt8)) × (List (List (UInt8))) × Unit)) × Unit) => some (y1.2.2.1, ()))

noncomputable def P_law17_awake (x : Unit) : Option (Bool × Unit) :=
  obind (P_names_Set (([(([(48 : UInt8), (48 : UInt8), (48 : UInt8), (48 : UInt8), (48 : UInt8), (49 : UInt8)] : List (UInt8)), (([([(97 : UInt8)] : List (UInt8)), ([(98 : UInt8)] : List (UInt8))] : List (List (UInt8))), ())), (([(48 : UInt8), (48 : UInt8), (48 : UInt8), (48 : UInt8), (48 : UInt8), (50 : UInt8)] : List (UInt8)), (([([(99 : UInt8)] : List (UInt8))] : List (List (UInt8))), ()))] : List ((List (UInt8)) × (List (List (UInt8))) × Unit)), (([(48 : UInt8), (48 : UInt8), (48 : UInt8), (48 : UInt8), (48 : UInt8), (50 : UInt8)] : List (UInt8)), (([([(100 : UInt8)] : List (UInt8))] : List (List (UInt8))), ())))) (fun (y1 : (List ((List (UInt8)) × (List (List (UInt8))) × Unit)) × Int × Unit) => obind (P_names_Owner (y1.1, (([(100 : UInt8)] : List (UInt8)), ()))) (fun (y2 : (List (UInt8)) × Bool × Unit) => obind (sel (sel (sel (eqI y1.2.1 (0 : Int))
  (eqS y2.1 ([(48 : UInt8), (48 : UInt8), (48 : UInt8), (48 : UInt8), (48 : UInt8), (50 : UInt8)] : List (UInt8)))
  false)
  y2.2.1
  false)
  (obind (P_names_Free (([(([(48 : UInt8), (48 : UInt8), (48 : UInt8), (48 : UInt8), (48 : UInt8), (49 : UInt8)] : List (UInt8)), (([([(97 : UInt8)] : List (UInt8)), ([(98 : UInt8)] : List (UInt8))] : List (List (UInt8))), ())), (([(48 : UInt8), (48 : UInt8), (48 : UInt8), (48 : UInt8), (48 : UInt8), (50 : UInt8)] : List (UInt8)), (([([(99 : UInt8)] : List (UInt8))] : List (List (UInt8))), ()))] : List ((List (UInt8)) × (List (List (UInt8))) × Unit)), (([(48 : UInt8), (48 : UInt8), (48 : UInt8), (48 : UInt8), (48 : UInt8), (49 : UInt8)] : List (UInt8)), (([([(98 : UInt8)] : List (UInt8))] : List (List (UInt8))), ())))) (fun (y3 : Int × Unit) => some (eqI y3.1 (0 : Int))))
  (some false)) (fun (y3 : Bool) => obind (sel y3
  (obind (P_names_Free (([(([(48 : UInt8), (48 : UInt8), (48 : UInt8), (48 : UInt8), (48 : UInt8), (49 : UInt8)] : List (UInt8)), (([([(97 : UInt8)] : List (UInt8)), ([(98 : UInt8)] : List (UInt8))] : List (List (UInt8))), ())), (([(48 : UInt8), (48 : UInt8), (48 : UInt8), (48 : UInt8), (48 : UInt8), (50 : UInt8)] : List (UInt8)), (([([(99 : UInt8)] : List (UInt8))] : List (List (UInt8))), ()))] : List ((List (UInt8)) × (List (List (UInt8))) × Unit)), (([(48 : UInt8), (48 : UInt8), (48 : UInt8), (48 : UInt8), (48 : UInt8), (50 : UInt8)] : List (UInt8)), (([([(98 : UInt8)] : List (UInt8))] : List (List (UInt8))), ())))) (fun (y4 : Int × Unit) => some (eqI y4.1 (8 : Int))))
  (some false)) (fun (y4 : Bool) => obind (sel y4
  (obind (P_names_Check (([([(65 : UInt8)] : List (UInt8))] : List (List (UInt8))), ())) (fun (y5 : Int × Unit) => some (eqI y5.1 (1 : Int))))
  (some false)) (fun (y5 : Bool) => obind (sel y5
  (obind (P_names_Of ((3 : Int), (((0 : Int), (([(([(120 : UInt8)] : List (UInt8)), (([] : List (UInt8)), (([] : List (List (UInt8))), (([] : List (UInt8)), ((0 : Int), ((0 : Int), (false, ()))))))), (([(121 : UInt8)] : List (UInt8)), (([] : List (UInt8)), (([] : List (List (UInt8))), (([] : List (UInt8)), ((0 : Int), ((0 : Int), (true, ())))))))] : List ((List (UInt8)) × (List (UInt8)) × (List (List (UInt8))) × (List (UInt8)) × Int × Int × Bool × Unit)), (([] : List ((List (UInt8)) × (List (List (UInt8))) × (List (UInt8)) × (List (UInt8)) × (List ((List (UInt8)) × (List (UInt8)) × (List (UInt8)) × Unit)) × Unit)), (([] : List ((List (UInt8)) × (List (List (UInt8))) × (List (UInt8)) × (List (UInt8)) × (List (UInt8)) × (List ((List (UInt8)) × (List (UInt8)) × (List (UInt8)) × Unit)) × Unit)), ())))), ()))) (fun (y6 : (List ((List (UInt8)) × (List (List (UInt8))) × Unit)) × Unit) => some (eqI (@len ((List (UInt8)) × (List (List (UInt8))) × Unit) y6.1) (1 : Int))))
  (some false)) (fun (y6 : Bool) => some (y6, ())))))))

noncomputable def P_ref06_IsName_L0 (x : (List (UInt8)) × Unit) (y1 : (Bool × Int × Unit) × Unit) : Option (((Bool × Int × Unit) × Unit) ⊕ (Nat × (Bool × Int × Unit) × Unit)) :=
  sel (ltI y1.1.2.1 (@len UInt8 x.1))
  (obind (@idx UInt8 x.1 y1.1.2.1) (fun (y2 : UInt8) => sel (sel (sel (sel (sel (sel (nt (ltI (u8 y2) (97 : Int)))
  (ltI (122 : Int) (u8 y2))
  true)
  (sel (nt (ltI (u8 y2) (48 : Int)))
  (ltI (57 : Int) (u8 y2))
  true)
  false)
  (nt (eqI (u8 y2) (46 : Int)))
  false)
  (nt (eqI (u8 y2) (95 : Int)))
  false)
  (nt (eqI (u8 y2) (45 : Int)))
  false)
  (some (Sum.inr ((1 : Nat), ((false, (y1.1.2.1, ())), ())) : (((Bool × Int × Unit) × Unit)) ⊕ ((Nat × (Bool × Int × Unit) × Unit))))
  (some (Sum.inl ((y1.1.1, (iadd IntKind.i64 y1.1.2.1 (1 : Int), ())), ()) : (((Bool × Int × Unit) × Unit)) ⊕ ((Nat × (Bool × Int × Unit) × Unit))))))
  (some (Sum.inr ((0 : Nat), ((y1.1.1, (y1.1.2.1, ())), ())) : (((Bool × Int × Unit) × Unit)) ⊕ ((Nat × (Bool × Int × Unit) × Unit))))

noncomputable def P_ref06_IsName (x : (List (UInt8)) × Unit) : Option (Bool × Unit) :=
  obind (Loop (P_ref06_IsName_L0 x) ((false, ((0 : Int), ())), ())) (fun (y1 : Nat × (Bool × Int × Unit) × Unit) => sel (eqN y1.1 (0 : Nat))
  (some (sel (leI (1 : Int) (@len UInt8 x.1))
  (leI (@len UInt8 x.1) (32 : Int))
  false, ()))
  (some (y1.2.1.1, ())))

noncomputable def P_ref06_Names_L1 (x : (List (List (UInt8))) × Unit) (y1 : (Bool × Int × Unit) × Unit) (y4 : (Bool × Int × Unit) × Unit) : Option (((Bool × Int × Unit) × Unit) ⊕ (Nat × (Bool × Int × Unit) × Unit)) :=
  sel (ltI y4.1.2.1 y1.1.2.1)
  (obind (@idx (List (UInt8)) x.1 y4.1.2.1) (fun (y5 : List (UInt8)) => obind (@idx (List (UInt8)) x.1 y1.1.2.1) (fun (y6 : List (UInt8)) => sel (eqS y5 y6)
  (some (Sum.inr ((1 : Nat), ((false, (y4.1.2.1, ())), ())) : (((Bool × Int × Unit) × Unit)) ⊕ ((Nat × (Bool × Int × Unit) × Unit))))
  (some (Sum.inl ((y4.1.1, (iadd IntKind.i64 y4.1.2.1 (1 : Int), ())), ()) : (((Bool × Int × Unit) × Unit)) ⊕ ((Nat × (Bool × Int × Unit) × Unit)))))))
  (some (Sum.inr ((0 : Nat), ((y4.1.1, (y4.1.2.1, ())), ())) : (((Bool × Int × Unit) × Unit)) ⊕ ((Nat × (Bool × Int × Unit) × Unit))))

noncomputable def P_ref06_Names_L0 (x : (List (List (UInt8))) × Unit) (y1 : (Bool × Int × Unit) × Unit) : Option (((Bool × Int × Unit) × Unit) ⊕ (Nat × (Bool × Int × Unit) × Unit)) :=
  sel (ltI y1.1.2.1 (@len (List (UInt8)) x.1))
  (obind (@idx (List (UInt8)) x.1 y1.1.2.1) (fun (y2 : List (UInt8)) => obind (P_ref06_IsName (y2, ())) (fun (y3 : Bool × Unit) => sel (nt y3.1)
  (some (Sum.inr ((1 : Nat), ((false, (y1.1.2.1, ())), ())) : (((Bool × Int × Unit) × Unit)) ⊕ ((Nat × (Bool × Int × Unit) × Unit))))
  (obind (Loop (P_ref06_Names_L1 x y1) ((y1.1.1, ((0 : Int), ())), ())) (fun (y4 : Nat × (Bool × Int × Unit) × Unit) => sel (eqN y4.1 (0 : Nat))
  (some (Sum.inl ((y4.2.1.1, (iadd IntKind.i64 y1.1.2.1 (1 : Int), ())), ()) : (((Bool × Int × Unit) × Unit)) ⊕ ((Nat × (Bool × Int × Unit) × Unit))))
  (some (Sum.inr ((1 : Nat), ((y4.2.1.1, (y1.1.2.1, ())), ())) : (((Bool × Int × Unit) × Unit)) ⊕ ((Nat × (Bool × Int × Unit) × Unit)))))))))
  (some (Sum.inr ((0 : Nat), ((y1.1.1, (y1.1.2.1, ())), ())) : (((Bool × Int × Unit) × Unit)) ⊕ ((Nat × (Bool × Int × Unit) × Unit))))

noncomputable def P_ref06_Names (x : (List (List (UInt8))) × Unit) : Option (Bool × Unit) :=
  obind (Loop (P_ref06_Names_L0 x) ((false, ((0 : Int), ())), ())) (fun (y1 : Nat × (Bool × Int × Unit) × Unit) => sel (eqN y1.1 (0 : Nat))
  (some (leI (@len (List (UInt8)) x.1) (4 : Int), ()))
  (some (y1.2.1.1, ())))

noncomputable def P_ref17_Check (x : (List (List (UInt8))) × Unit) : Option (Int × Unit) :=
  obind (P_ref06_Names (x.1, ())) (fun (y1 : Bool × Unit) => sel (nt y1.1)
  (some ((1 : Int), ()))
  (some ((0 : Int), ())))

noncomputable def P_ref17_find_L0 (x : (List ((List (UInt8)) × (List (List (UInt8))) × Unit)) × (List (UInt8)) × Unit) (y1 : (Int × Int × Unit) × Unit) : Option (((Int × Int × Unit) × Unit) ⊕ (Nat × (Int × Int × Unit) × Unit)) :=
  sel (ltI y1.1.2.1 (@len ((List (UInt8)) × (List (List (UInt8))) × Unit) x.1))
  (obind (@idx ((List (UInt8)) × (List (List (UInt8))) × Unit) x.1 y1.1.2.1) (fun (y2 : (List (UInt8)) × (List (List (UInt8))) × Unit) => sel (eqS y2.1 x.2.1)
  (some (Sum.inr ((1 : Nat), ((y1.1.2.1, (y1.1.2.1, ())), ())) : (((Int × Int × Unit) × Unit)) ⊕ ((Nat × (Int × Int × Unit) × Unit))))
  (some (Sum.inl ((y1.1.1, (iadd IntKind.i64 y1.1.2.1 (1 : Int), ())), ()) : (((Int × Int × Unit) × Unit)) ⊕ ((Nat × (Int × Int × Unit) × Unit))))))
  (some (Sum.inr ((0 : Nat), ((y1.1.1, (y1.1.2.1, ())), ())) : (((Int × Int × Unit) × Unit)) ⊕ ((Nat × (Int × Int × Unit) × Unit))))

noncomputable def P_ref17_find (x : (List ((List (UInt8)) × (List (List (UInt8))) × Unit)) × (List (UInt8)) × Unit) : Option (Int × Unit) :=
  obind (Loop (P_ref17_find_L0 x) (((0 : Int), ((0 : Int), ())), ())) (fun (y1 : Nat × (Int × Int × Unit) × Unit) => sel (eqN y1.1 (0 : Nat))
  (some ((-1 : Int), ()))
  (some (y1.2.1.1, ())))

noncomputable def P_ref17_has_L0 (x : (List (List (UInt8))) × (List (UInt8)) × Unit) (y1 : (Bool × Int × Unit) × Unit) : Option (((Bool × Int × Unit) × Unit) ⊕ (Nat × (Bool × Int × Unit) × Unit)) :=
  sel (ltI y1.1.2.1 (@len (List (UInt8)) x.1))
  (obind (@idx (List (UInt8)) x.1 y1.1.2.1) (fun (y2 : List (UInt8)) => sel (eqS y2 x.2.1)
  (some (Sum.inr ((1 : Nat), ((true, (y1.1.2.1, ())), ())) : (((Bool × Int × Unit) × Unit)) ⊕ ((Nat × (Bool × Int × Unit) × Unit))))
  (some (Sum.inl ((y1.1.1, (iadd IntKind.i64 y1.1.2.1 (1 : Int), ())), ()) : (((Bool × Int × Unit) × Unit)) ⊕ ((Nat × (Bool × Int × Unit) × Unit))))))
  (some (Sum.inr ((0 : Nat), ((y1.1.1, (y1.1.2.1, ())), ())) : (((Bool × Int × Unit) × Unit)) ⊕ ((Nat × (Bool × Int × Unit) × Unit))))

noncomputable def P_ref17_has (x : (List (List (UInt8))) × (List (UInt8)) × Unit) : Option (Bool × Unit) :=
  obind (Loop (P_ref17_has_L0 x) ((false, ((0 : Int), ())), ())) (fun (y1 : Nat × (Bool × Int × Unit) × Unit) => sel (eqN y1.1 (0 : Nat))
  (some (false, ()))
  (some (y1.2.1.1, ())))

noncomputable def P_ref17_Free_L1 (x : (List ((List (UInt8)) × (List (List (UInt8))) × Unit)) × (List (UInt8)) × (List (List (UInt8))) × Unit) (y2 : Int × Unit) (y3 : (Int × Int × Unit) × Unit) (y4 : (Int × Int × Unit) × Unit) : Option (((Int × Int × Unit) × Unit) ⊕ (Nat × (Int × Int × Unit) × Unit)) :=
  sel (ltI y4.1.2.1 (@len (List (UInt8)) x.2.2.1))
  (sel (nt (eqI y3.1.2.1 y2.1))
  (obind (@idx ((List (UInt8)) × (List (List (UInt8))) × Unit) x.1 y3.1.2.1) (fun (y5 : (List (UInt8)) × (List (List (UInt8))) × Unit) => obind (@idx (List (UInt8)) x.2.2.1 y4.1.2.1) (fun (y6 : List (UInt8)) => obind (P_ref17_has (y5.2.1, (y6, ()))) (fun (y7 : Bool × Unit) => sel y7.1
  (some (Sum.inr ((1 : Nat), (((8 : Int), (y4.1.2.1, ())), ())) : (((Int × Int × Unit) × Unit)) ⊕ ((Nat × (Int × Int × Unit) × Unit))))
  (some (Sum.inl ((y4.1.1, (iadd IntKind.i64 y4.1.2.1 (1 : Int), ())), ()) : (((Int × Int × Unit) × Unit)) ⊕ ((Nat × (Int × Int × Unit) × Unit))))))))
  (some (Sum.inl ((y4.1.1, (iadd IntKind.i64 y4.1.2.1 (1 : Int), ())), ()) : (((Int × Int × Unit) × Unit)) ⊕ ((Nat × (Int × Int × Unit) × Unit)))))
  (some (Sum.inr ((0 : Nat), ((y4.1.1, (y4.1.2.1, ())), ())) : (((Int × Int × Unit) × Unit)) ⊕ ((Nat × (Int × Int × Unit) × Unit))))

noncomputable def P_ref17_Free_L0 (x : (List ((List (UInt8)) × (List (List (UInt8))) × Unit)) × (List (UInt8)) × (List (List (UInt8))) × Unit) (y2 : Int × Unit) (y3 : (Int × Int × Unit) × Unit) : Option (((Int × Int × Unit) × Unit) ⊕ (Nat × (Int × Int × Unit) × Unit)) :=
  sel (ltI y3.1.2.1 (@len ((List (UInt8)) × (List (List (UInt8))) × Unit) x.1))
  (obind (Loop (P_ref17_Free_L1 x y2 y3) ((y3.1.1, ((0 : Int), ())), ())) (fun (y4 : Nat × (Int × Int × Unit) × Unit) => sel (eqN y4.1 (0 : Nat))
  (some (Sum.inl ((y4.2.1.1, (iadd IntKind.i64 y3.1.2.1 (1 : Int), ())), ()) : (((Int × Int × Unit) × Unit)) ⊕ ((Nat × (Int × Int × Unit) × Unit))))
  (some (Sum.inr ((1 : Nat), ((y4.2.1.1, (y3.1.2.1, ())), ())) : (((Int × Int × Unit) × Unit)) ⊕ ((Nat × (Int × Int × Unit) × Unit))))))
  (some (Sum.inr ((0 : Nat), ((y3.1.1, (y3.1.2.1, ())), ())) : (((Int × Int × Unit) × Unit)) ⊕ ((Nat × (Int × Int × Unit) × Unit))))

noncomputable def P_ref17_Free (x : (List ((List (UInt8)) × (List (List (UInt8))) × Unit)) × (List (UInt8)) × (List (List (UInt8))) × Unit) : Option (Int × Unit) :=
  obind (P_ref17_Check (x.2.2.1, ())) (fun (y1 : Int × Unit) => sel (nt (eqI y1.1 (0 : Int)))
  (some (y1.1, ()))
  (obind (P_ref17_find (x.1, (x.2.1, ()))) (fun (y2 : Int × Unit) => obind (Loop (P_ref17_Free_L0 x y2) (((0 : Int), ((0 : Int), ())), ())) (fun (y3 : Nat × (Int × Int × Unit) × Unit) => sel (eqN y3.1 (0 : Nat))
  (some ((0 : Int), ()))
  (some (y3.2.1.1, ()))))))

noncomputable def P_ref17_Set (x : (List ((List (UInt8)) × (List (List (UInt8))) × Unit)) × (List (UInt8)) × (List (List (UInt8))) × Unit) : Option ((List ((List (UInt8)) × (List (List (UInt8))) × Unit)) × Int × Unit) :=
  obind (P_ref17_Check (x.2.2.1, ())) (fun (y1 : Int × Unit) => sel (nt (eqI y1.1 (0 : Int)))
  (some (([] : List ((List (UInt8)) × (List (List (UInt8))) × Unit)), (y1.1, ())))
  (obind (P_ref17_find (x.1, (x.2.1, ()))) (fun (y2 : Int × Unit) => sel (ltI y2.1 (0 : Int))
  (some (([] : List ((List (UInt8)) × (List (List (UInt8))) × Unit)), ((3 : Int), ())))
  (obind (P_ref17_Free (x.1, (x.2.1, (x.2.2.1, ())))) (fun (y3 : Int × Unit) => sel (nt (eqI y3.1 (0 : Int)))
  (some (([] : List ((List (UInt8)) × (List (List (UInt8))) × Unit)), (y3.1, ())))
  (sel (inside (0 : Int) y2.1 (@len ((List (UInt8)) × (List (List (UInt8))) × Unit) x.1))
  (sel (fits (plus (@len ((List (UInt8)) × (List (List (UInt8))) × Unit) ([] : List ((List (UInt8)) × (List (List (UInt8))) × Unit))) (@len ((List (UInt8)) × (List (List (UInt8))) × Unit) (@sub ((List (UInt8)) × (List (List (UInt8))) × Unit) x.1 (0 : Int) (minus y2.1 (0 : Int))))))
  (sel (fits (plus (@len ((List (UInt8)) × (List (List (UInt8))) × Unit) (@app ((List (UInt8)) × (List (List (UInt8))) × Unit) ([] : List ((List (UInt8)) × (List (List (UInt8))) × Unit)) (@sub ((List (UInt8)) × (List (List (UInt8))) × Unit) x.1 (0 : Int) (minus y2.1 (0 : Int))))) (@len ((List (UInt8)) × (List (List (UInt8))) × Unit) ([(x.2.1, (x.2.2.1, ()))] : List ((List (UInt8)) × (List (List (UInt8))) × Unit)))))
  (sel (inside (iadd IntKind.i64 y2.1 (1 : Int)) (@len ((List (UInt8)) × (List (List (UInt8))) × Unit) x.1) (@len ((List (UInt8)) × (List (List (UInt8))) × Unit) x.1))
  (sel (fits (plus (@len ((List (UInt8)) × (List (List (UInt8))) × Unit) (@app ((List (UInt8)) × (List (List (UInt8))) × Unit) (@app ((List (UInt8)) × (List (List (UInt8))) × Unit) ([] : List ((List (UInt8)) × (List (List (UInt8))) × Unit)) (@sub ((List (UInt8)) × (List (List (UInt8))) × Unit) x.1 (0 : Int) (minus y2.1 (0 : Int)))) ([(x.2.1, (x.2.2.1, ()))] : List ((List (UInt8)) × (List (List (UInt8))) × Unit)))) (@len ((List (UInt8)) × (List (List (UInt8))) × Unit) (@sub ((List (UInt8)) × (List (List (UInt8))) × Unit) x.1 (iadd IntKind.i64 y2.1 (1 : Int)) (minus (@len ((List (UInt8)) × (List (List (UInt8))) × Unit) x.1) (iadd IntKind.i64 y2.1 (1 : Int)))))))
  (some (@app ((List (UInt8)) × (List (List (UInt8))) × Unit) (@app ((List (UInt8)) × (List (List (UInt8))) × Unit) (@app ((List (UInt8)) × (List (List (UInt8))) × Unit) ([] : List ((List (UInt8)) × (List (List (UInt8))) × Unit)) (@sub ((List (UInt8)) × (List (List (UInt8))) × Unit) x.1 (0 : Int) (minus y2.1 (0 : Int)))) ([(x.2.1, (x.2.2.1, ()))] : List ((List (UInt8)) × (List (List (UInt8))) × Unit))) (@sub ((List (UInt8)) × (List (List (UInt8))) × Unit) x.1 (iadd IntKind.i64 y2.1 (1 : Int)) (minus (@len ((List (UInt8)) × (List (List (UInt8))) × Unit) x.1) (iadd IntKind.i64 y2.1 (1 : Int)))), ((0 : Int), ())))
  (none : Option ((List ((List (UInt8)) × (List (List (UInt8))) × Unit)) × Int × Unit)))
  (none : Option ((List ((List (UInt8)) × (List (List (UInt8))) × Unit)) × Int × Unit)))
  (none : Option ((List ((List (UInt8)) × (List (List (UInt8))) × Unit)) × Int × Unit)))
  (none : Option ((List ((List (UInt8)) × (List (List (UInt8))) × Unit)) × Int × Unit)))
  (none : Option ((List ((List (UInt8)) × (List (List (UInt8))) × Unit)) × Int × Unit))))))))

noncomputable def P_ref17_Owner_L0 (x : (List ((List (UInt8)) × (List (List (UInt8))) × Unit)) × (List (UInt8)) × Unit) (y1 : ((List (UInt8)) × Bool × Int × Unit) × Unit) : Option ((((List (UInt8)) × Bool × Int × Unit) × Unit) ⊕ (Nat × ((List (UInt8)) × Bool × Int × Unit) × Unit)) :=
  sel (ltI y1.1.2.2.1 (@len ((List (UInt8)) × (List (List (UInt8))) × Unit) x.1))
  (obind (@idx ((List (UInt8)) × (List (List (UInt8))) × Unit) x.1 y1.1.2.2.1) (fun (y2 : (List (UInt8)) × (List (List (UInt8))) × Unit) => obind (P_ref17_has (y2.2.1, (x.2.1, ()))) (fun (y3 : Bool × Unit) => sel y3.1
  (obind (@idx ((List (UInt8)) × (List (List (UInt8))) × Unit) x.1 y1.1.2.2.1) (fun (y4 : (List (UInt8)) × (List (List (UInt8))) × Unit) => some (Sum.inr ((1 : Nat), ((y4.1, (true, (y1.1.2.2.1, ()))), ())) : ((((List (UInt8)) × Bool × Int × Unit) × Unit)) ⊕ ((Nat × ((List (UInt8)) × Bool × Int × Unit) × Unit)))))
  (some (Sum.inl ((y1.1.1, (y1.1.2.1, (iadd IntKind.i64 y1.1.2.2.1 (1 : Int), ()))), ()) : ((((List (UInt8)) × Bool × Int × Unit) × Unit)) ⊕ ((Nat × ((List (UInt8)) × Bool × Int × Unit) × Unit)))))))
  (some (Sum.inr ((0 : Nat), ((y1.1.1, (y1.1.2.1, (y1.1.2.2.1, ()))), ())) : ((((List (UInt8)) × Bool × Int × Unit) × Unit)) ⊕ ((Nat × ((List (UInt8)) × Bool × Int × Unit) × Unit))))

noncomputable def P_ref17_Owner (x : (List ((List (UInt8)) × (List (List (UInt8))) × Unit)) × (List (UInt8)) × Unit) : Option ((List (UInt8)) × Bool × Unit) :=
  obind (Loop (P_ref17_Owner_L0 x) ((([] : List (UInt8)), (false, ((0 : Int), ()))), ())) (fun (y1 : Nat × ((List (UInt8)) × Bool × Int × Unit) × Unit) => sel (eqN y1.1 (0 : Nat))
  (some (([] : List (UInt8)), (false, ())))
  (some (y1.2.1.1, (y1.2.1.2.1, ()))))

noncomputable def P_ref06_SameTexts_L0 (x : (List (List (UInt8))) × (List (List (UInt8))) × Unit) (y1 : (Bool × Int × Unit) × Unit) : Option (((Bool × Int × Unit) × Unit) ⊕ (Nat × (Bool × Int × Unit) × Unit)) :=
  sel (sel (ltI y1.1.2.1 (@len (List (UInt8)) x.1))
  (ltI y1.1.2.1 (@len (List (UInt8)) x.2.1))
  false)
  (obind (@idx (List (UInt8)) x.1 y1.1.2.1) (fun (y2 : List (UInt8)) => obind (@idx (List (UInt8)) x.2.1 y1.1.2.1) (fun (y3 : List (UInt8)) => sel (nt (eqS y2 y3))
  (some (Sum.inr ((1 : Nat), ((false, (y1.1.2.1, ())), ())) : (((Bool × Int × Unit) × Unit)) ⊕ ((Nat × (Bool × Int × Unit) × Unit))))
  (some (Sum.inl ((y1.1.1, (iadd IntKind.i64 y1.1.2.1 (1 : Int), ())), ()) : (((Bool × Int × Unit) × Unit)) ⊕ ((Nat × (Bool × Int × Unit) × Unit)))))))
  (some (Sum.inr ((0 : Nat), ((y1.1.1, (y1.1.2.1, ())), ())) : (((Bool × Int × Unit) × Unit)) ⊕ ((Nat × (Bool × Int × Unit) × Unit))))

noncomputable def P_ref06_SameTexts (x : (List (List (UInt8))) × (List (List (UInt8))) × Unit) : Option (Bool × Unit) :=
  sel (nt (eqI (@len (List (UInt8)) x.1) (@len (List (UInt8)) x.2.1)))
  (some (false, ()))
  (obind (Loop (P_ref06_SameTexts_L0 x) ((false, ((0 : Int), ())), ())) (fun (y1 : Nat × (Bool × Int × Unit) × Unit) => sel (eqN y1.1 (0 : Nat))
  (some (true, ()))
  (some (y1.2.1.1, ()))))

noncomputable def P_ref17_Same_L0 (x : (List ((List (UInt8)) × (List (List (UInt8))) × Unit)) × (List ((List (UInt8)) × (List (List (UInt8))) × Unit)) × Unit) (y1 : (Bool × Int × Unit) × Unit) : Option (((Bool × Int × Unit) × Unit) ⊕ (Nat × (Bool × Int × Unit) × Unit)) :=
  sel (sel (ltI y1.1.2.1 (@len ((List (UInt8)) × (List (List (UInt8))) × Unit) x.1))
  (ltI y1.1.2.1 (@len ((List (UInt8)) × (List (List (UInt8))) × Unit) x.2.1))
  false)
  (obind (@idx ((List (UInt8)) × (List (List (UInt8))) × Unit) x.1 y1.1.2.1) (fun (y2 : (List (UInt8)) × (List (List (UInt8))) × Unit) => obind (@idx ((List (UInt8)) × (List (List (UInt8))) × Unit) x.2.1 y1.1.2.1) (fun (y3 : (List (UInt8)) × (List (List (UInt8))) × Unit) => sel (nt (eqS y2.1 y3.1))
  (some (Sum.inr ((1 : Nat), ((false, (y1.1.2.1, ())), ())) : (((Bool × Int × Unit) × Unit)) ⊕ ((Nat × (Bool × Int × Unit) × Unit))))
  (obind (@idx ((List (UInt8)) × (List (List (UInt8))) × Unit) x.1 y1.1.2.1) (fun (y4 : (List (UInt8)) × (List (List (UInt8))) × Unit) => obind (@idx ((List (UInt8)) × (List (List (UInt8))) × Unit) x.2.1 y1.1.2.1) (fun (y5 : (List (UInt8)) × (List (List (UInt8))) × Unit) => obind (P_ref06_SameTexts (y4.2.1, (y5.2.1, ()))) (fun (y6 : Bool × Unit) => sel (nt y6.1)
  (some (Sum.inr ((1 : Nat), ((false, (y1.1.2.1, ())), ())) : (((Bool × Int × Unit) × Unit)) ⊕ ((Nat × (Bool × Int × Unit) × Unit))))
  (some (Sum.inl ((y1.1.1, (iadd IntKind.i64 y1.1.2.1 (1 : Int), ())), ()) : (((Bool × Int × Unit) × Unit)) ⊕ ((Nat × (Bool × Int × Unit) × Unit)))))))))))
  (some (Sum.inr ((0 : Nat), ((y1.1.1, (y1.1.2.1, ())), ())) : (((Bool × Int × Unit) × Unit)) ⊕ ((Nat × (Bool × Int × Unit) × Unit))))

noncomputable def P_ref17_Same (x : (List ((List (UInt8)) × (List (List (UInt8))) × Unit)) × (List ((List (UInt8)) × (List (List (UInt8))) × Unit)) × Unit) : Option (Bool × Unit) :=
  sel (nt (eqI (@len ((List (UInt8)) × (List (List (UInt8))) × Unit) x.1) (@len ((List (UInt8)) × (List (List (UInt8))) × Unit) x.2.1)))
  (some (false, ()))
  (obind (Loop (P_ref17_Same_L0 x) ((false, ((0 : Int), ())), ())) (fun (y1 : Nat × (Bool × Int × Unit) × Unit) => sel (eqN y1.1 (0 : Nat))
  (some (true, ()))
  (some (y1.2.1.1, ()))))

noncomputable def P_law17_NamesIs_L0 (x : (List ((List (UInt8)) × (List (List (UInt8))) × Unit)) × (List (UInt8)) × (List (List (UInt8))) × Unit) (y5 : (Bool × Int × Unit) × Unit) : Option (((Bool × Int × Unit) × Unit) ⊕ (Nat × (Bool × Int × Unit) × Unit)) :=
  sel (ltI y5.1.2.1 (@len (List (UInt8)) x.2.2.1))
  (obind (@idx (List (UInt8)) x.2.2.1 y5.1.2.1) (fun (y6 : List (UInt8)) => obind (P_names_Owner (x.1, (y6, ()))) (fun (y7 : (List (UInt8)) × Bool × Unit) => obind (@idx (List (UInt8)) x.2.2.1 y5.1.2.1) (fun (y8 : List (UInt8)) => obind (P_ref17_Owner (x.1, (y8, ()))) (fun (y9 : (List (UInt8)) × Bool × Unit) => sel (sel (nt (nt (eqS y7.1 y9.1)))
  (nt (eqB y7.2.1 y9.2.1))
  true)
  (some (Sum.inr ((1 : Nat), ((false, (y5.1.2.1, ())), ())) : (((Bool × Int × Unit) × Unit)) ⊕ ((Nat × (Bool × Int × Unit) × Unit))))
  (some (Sum.inl ((y5.1.1, (iadd IntKind.i64 y5.1.2.1 (1 : Int), ())), ()) : (((Bool × Int × Unit) × Unit)) ⊕ ((Nat × (Bool × Int × Unit) × Unit)))))))))
  (some (Sum.inr ((0 : Nat), ((y5.1.1, (y5.1.2.1, ())), ())) : (((Bool × Int × Unit) × Unit)) ⊕ ((Nat × (Bool × Int × Unit) × Unit))))

noncomputable def P_law17_NamesIs (x : (List ((List (UInt8)) × (List (List (UInt8))) × Unit)) × (List (UInt8)) × (List (List (UInt8))) × Unit) : Option (Bool × Unit) :=
  obind (P_ref17_Few (x.1, ())) (fun (y1 : Bool × Unit) => obind (sel (nt (sel (nt (nt y1.1))
  (ltI (100 : Int) (@len UInt8 x.2.1))
  true))
  (obind (P_ref17_FewTexts (x.2.2.1, ())) (fun (y2 : Bool × Unit) => some (nt y2.1)))
  (some true)) (fun (y2 : Bool) => sel y2
  (obind (P_law17_awake ()) (fun (y3 : Bool × Unit) => some (y3.1, ())))
  (obind (P_names_Set (x.1, (x.2.1, (x.2.2.1, ())))) (fun (y3 : (List ((List (UInt8)) × (List (List (UInt8))) × Unit)) × Int × Unit) => obind (P_ref17_Set (x.1, (x.2.1, (x.2.2.1, ())))) (fun (y4 : (List ((List (UInt8)) × (List (List (UInt8))) × Unit)) × Int × Unit) => obind (Loop (P_law17_NamesIs_L0 x) ((false, ((0 : Int), ())), ())) (fun (y5 : Nat × (Bool × Int × Unit) × Unit) => sel (eqN y5.1 (0 : Nat))
  (obind (P_ref17_Same (y3.1, (y4.1, ()))) (fun (y6 : Bool × Unit) => obind (sel (sel y6.1
  (eqI y3.2.1 y4.2.1)
  false)
  (obind (P_names_Check (x.2.2.1, ())) (fun (y7 : Int × Unit) => obind (P_ref17_Check (x.2.2.1, ())) (fun (y8 : Int × Unit) => some (eqI y7.1 y8.1))))
  (some false)) (fun (y7 : Bool) => obind (sel y7
  (obind (P_names_Free (x.1, (x.2.1, (x.2.2.1, ())))) (fun (y8 : Int × Unit) => obind (P_ref17_Free (x.1, (x.2.1, (x.2.2.1, ())))) (fun (y9 : Int × Unit) => some (eqI y8.1 y9.1))))
  (some false)) (fun (y8 : Bool) => obind (sel y8
  (obind (P_law17_awake ()) (fun (y9 : Bool × Unit) => some y9.1))
  (some false)) (fun (y9 : Bool) => some (y9, ()))))))
  (some (y5.2.1.1, ()))))))))

noncomputable def P_ref06_few_L0 (x : (List (List (UInt8))) × Unit) (y1 : (Bool × Int × Unit) × Unit) : Option (((Bool × Int × Unit) × Unit) ⊕ (Nat × (Bool × Int × Unit) × Unit)) :=
  sel (sel (ltI y1.1.2.1 (@len (List (UInt8)) x.1))
  (ltI y1.1.2.1 (8 : Int))
  false)
  (obind (@idx (List (UInt8)) x.1 y1.1.2.1) (fun (y2 : List (UInt8)) => sel (ltI (100 : Int) (@len UInt8 y2))
  (some (Sum.inr ((1 : Nat), ((false, (y1.1.2.1, ())), ())) : (((Bool × Int × Unit) × Unit)) ⊕ ((Nat × (Bool × Int × Unit) × Unit))))
  (some (Sum.inl ((y1.1.1, (iadd IntKind.i64 y1.1.2.1 (1 : Int), ())), ()) : (((Bool × Int × Unit) × Unit)) ⊕ ((Nat × (Bool × Int × Unit) × Unit))))))
  (some (Sum.inr ((0 : Nat), ((y1.1.1, (y1.1.2.1, ())), ())) : (((Bool × Int × Unit) × Unit)) ⊕ ((Nat × (Bool × Int × Unit) × Unit))))

noncomputable def P_ref06_few (x : (List (List (UInt8))) × Unit) : Option (Bool × Unit) :=
  obind (Loop (P_ref06_few_L0 x) ((false, ((0 : Int), ())), ())) (fun (y1 : Nat × (Bool × Int × Unit) × Unit) => sel (eqN y1.1 (0 : Nat))
  (some (leI (@len (List (UInt8)) x.1) (8 : Int), ()))
  (some (y1.2.1.1, ())))

noncomputable def P_ref06_fewItems_L0 (x : (List ((List (UInt8)) × (List (UInt8)) × (List (UInt8)) × Unit)) × Unit) (y1 : (Bool × Int × Unit) × Unit) : Option (((Bool × Int × Unit) × Unit) ⊕ (Nat × (Bool × Int × Unit) × Unit)) :=
  sel (sel (ltI y1.1.2.1 (@len ((List (UInt8)) × (List (UInt8)) × (List (UInt8)) × Unit) x.1))
  (ltI y1.1.2.1 (8 : Int))
  false)
  (obind (@idx ((List (UInt8)) × (List (UInt8)) × (List (UInt8)) × Unit) x.1 y1.1.2.1) (fun (y2 : (List (UInt8)) × (List (UInt8)) × (List (UInt8)) × Unit) => obind (sel (nt (ltI (100 : Int) (@len UInt8 y2.1)))
  (obind (@idx ((List (UInt8)) × (List (UInt8)) × (List (UInt8)) × Unit) x.1 y1.1.2.1) (fun (y3 : (List (UInt8)) × (List (UInt8)) × (List (UInt8)) × Unit) => some (ltI (200 : Int) (@len UInt8 y3.2.2.1))))
  (some true)) (fun (y3 : Bool) => sel y3
  (some (Sum.inr ((1 : Nat), ((false, (y1.1.2.1, ())), ())) : (((Bool × Int × Unit) × Unit)) ⊕ ((Nat × (Bool × Int × Unit) × Unit))))
  (some (Sum.inl ((y1.1.1, (iadd IntKind.i64 y1.1.2.1 (1 : Int), ())), ()) : (((Bool × Int × Unit) × Unit)) ⊕ ((Nat × (Bool × Int × Unit) × Unit)))))))
  (some (Sum.inr ((0 : Nat), ((y1.1.1, (y1.1.2.1, ())), ())) : (((Bool × Int × Unit) × Unit)) ⊕ ((Nat × (Bool × Int × Unit) × Unit))))

noncomputable def P_ref06_fewItems (x : (List ((List (UInt8)) × (List (UInt8)) × (List (UInt8)) × Unit)) × Unit) : Option (Bool × Unit) :=
  obind (Loop (P_ref06_fewItems_L0 x) ((false, ((0 : Int), ())), ())) (fun (y1 : Nat × (Bool × Int × Unit) × Unit) => sel (eqN y1.1 (0 : Nat))
  (some (leI (@len ((List (UInt8)) × (List (UInt8)) × (List (UInt8)) × Unit) x.1) (8 : Int), ()))
  (some (y1.2.1.1, ())))

noncomputable def P_ref06_Few_L0 (x : (Int × (List ((List (UInt8)) × (List (UInt8)) × (List (List (UInt8))) × (List (UInt8)) × Int × Int × Bool × Unit)) × (List ((List (UInt8)) × (List (List (UInt8))) × (List (UInt8)) × (List (UInt8)) × (List ((List (UInt8)) × (List (UInt8)) × (List (UInt8)) × Unit)) × Unit)) × (List ((List (UInt8)) × (List (List (UInt8))) × (List (UInt8)) × (List (UInt8)) × (List (UInt8)) × (List ((List (UInt8)) × (List (UInt8)) × (List (UInt8)) × Unit)) × Unit)) × Unit) × Unit) (y1 : (Bool × Int × Unit) × Unit) : Option (((Bool × Int × Unit) × Unit) ⊕ (Nat × (Bool × Int × Unit) × Unit)) :=
  sel (sel (ltI y1.1.2.1 (@len ((List (UInt8)) × (List (UInt8)) × (List (List (UInt8))) × (List (UInt8)) × Int × Int × Bool × Unit) x.1.2.1))
  (ltI y1.1.2.1 (40 : Int))
  false)
  (obind (@idx ((List (UInt8)) × (List (UInt8)) × (List (List (UInt8))) × (List (UInt8)) × Int × Int × Bool × Unit) x.1.2.1 y1.1.2.1) (fun (y2 : (List (UInt8)) × (List (UInt8)) × (List (List (UInt8))) × (List (UInt8)) × Int × Int × Bool × Unit) => obind (P_ref06_few (y2.2.2.1, ())) (fun (y3 : Bool × Unit) => sel (nt y3.1)
  (some (Sum.inr ((1 : Nat), ((false, (y1.1.2.1, ())), ())) : (((Bool × Int × Unit) × Unit)) ⊕ ((Nat × (Bool × Int × Unit) × Unit))))
  (some (Sum.inl ((y1.1.1, (iadd IntKind.i64 y1.1.2.1 (1 : Int), ())), ()) : (((Bool × Int × Unit) × Unit)) ⊕ ((Nat × (Bool × Int × Unit) × Unit)))))))
  (some (Sum.inr ((0 : Nat), ((y1.1.1, (y1.1.2.1, ())), ())) : (((Bool × Int × Unit) × Unit)) ⊕ ((Nat × (Bool × Int × Unit) × Unit))))

noncomputable def P_ref06_Few_L1 (x : (Int × (List ((List (UInt8)) × (List (UInt8)) × (List (List (UInt8))) × (List (UInt8)) × Int × Int × Bool × Unit)) × (List ((List (UInt8)) × (List (List (UInt8))) × (List (UInt8)) × (List (UInt8)) × (List ((List (UInt8)) × (List (UInt8)) × (List (UInt8)) × Unit)) × Unit)) × (List ((List (UInt8)) × (List (List (UInt8))) × (List (UInt8)) × (List (UInt8)) × (List (UInt8)) × (List ((List (UInt8)) × (List (UInt8)) × (List (UInt8)) × Unit)) × Unit)) × Unit) × Unit) (y2 : (Bool × Int × Unit) × Unit) : Option (((Bool × Int × Unit) × Unit) ⊕ (Nat × (Bool × Int × Unit) × Unit)) :=
  sel (sel (ltI y2.1.2.1 (@len ((List (UInt8)) × (List (List (UInt8))) × (List (UInt8)) × (List (UInt8)) × (List ((List (UInt8)) × (List (UInt8)) × (List (UInt8)) × Unit)) × Unit) x.1.2.2.1))
  (ltI y2.1.2.1 (40 : Int))
  false)
  (obind (@idx ((List (UInt8)) × (List (List (UInt8))) × (List (UInt8)) × (List (UInt8)) × (List ((List (UInt8)) × (List (UInt8)) × (List (UInt8)) × Unit)) × Unit) x.1.2.2.1 y2.1.2.1) (fun (y3 : (List (UInt8)) × (List (List (UInt8))) × (List (UInt8)) × (List (UInt8)) × (List ((List (UInt8)) × (List (UInt8)) × (List (UInt8)) × Unit)) × Unit) => obind (P_ref06_few (y3.2.1, ())) (fun (y4 : Bool × Unit) => obind (sel (nt (nt y4.1))
  (obind (@idx ((List (UInt8)) × (List (List (UInt8))) × (List (UInt8)) × (List (UInt8)) × (List ((List (UInt8)) × (List (UInt8)) × (List (UInt8)) × Unit)) × Unit) x.1.2.2.1 y2.1.2.1) (fun (y5 : (List (UInt8)) × (List (List (UInt8))) × (List (UInt8)) × (List (UInt8)) × (List ((List (UInt8)) × (List (UInt8)) × (List (UInt8)) × Unit)) × Unit) => some (ltI (200 : Int) (@len UInt8 y5.2.2.2.1))))
  (some true)) (fun (y5 : Bool) => obind (sel (nt y5)
  (obind (@idx ((List (UInt8)) × (List (List (UInt8))) × (List (UInt8)) × (List (UInt8)) × (List ((List (UInt8)) × (List (UInt8)) × (List (UInt8)) × Unit)) × Unit) x.1.2.2.1 y2.1.2.1) (fun (y6 : (List (UInt8)) × (List (List (UInt8))) × (List (UInt8)) × (List (UInt8)) × (List ((List (UInt8)) × (List (UInt8)) × (List (UInt8)) × Unit)) × Unit) => obind (P_ref06_fewItems (y6.2.2.2.2.1, ())) (fun (y7 : Bool × Unit) => some (nt y7.1))))
  (some true)) (fun (y6 : Bool) => sel y6
  (some (Sum.inr ((1 : Nat), ((false, (y2.1.2.1, ())), ())) : (((Bool × Int × Unit) × Unit)) ⊕ ((Nat × (Bool × Int × Unit) × Unit))))
  (some (Sum.inl ((y2.1.1, (iadd IntKind.i64 y2.1.2.1 (1 : Int), ())), ()) : (((Bool × Int × Unit) × Unit)) ⊕ ((Nat × (Bool × Int × Unit) × Unit)))))))))
  (some (Sum.inr ((0 : Nat), ((y2.1.1, (y2.1.2.1, ())), ())) : (((Bool × Int × Unit) × Unit)) ⊕ ((Nat × (Bool × Int × Unit) × Unit))))

noncomputable def P_ref06_Few_L2 (x : (Int × (List ((List (UInt8)) × (List (UInt8)) × (List (List (UInt8))) × (List (UInt8)) × Int × Int × Bool × Unit)) × (List ((List (UInt8)) × (List (List (UInt8))) × (List (UInt8)) × (List (UInt8)) × (List ((List (UInt8)) × (List (UInt8)) × (List (UInt8)) × Unit)) × Unit)) × (List ((List (UInt8)) × (List (List (UInt8))) × (List (UInt8)) × (List (UInt8)) × (List (UInt8)) × (List ((List (UInt8)) × (List (UInt8)) × (List (UInt8)) × Unit)) × Unit)) × Unit) × Unit) (y3 : (Bool × Int × Unit) × Unit) : Option (((Bool × Int × Unit) × Unit) ⊕ (Nat × (Bool × Int × Unit) × Unit)) :=
  sel (sel (ltI y3.1.2.1 (@len ((List (UInt8)) × (List (List (UInt8))) × (List (UInt8)) × (List (UInt8)) × (List (UInt8)) × (List ((List (UInt8)) × (List (UInt8)) × (List (UInt8)) × Unit)) × Unit) x.1.2.2.2.1))
  (ltI y3.1.2.1 (40 : Int))
  false)
  (obind (@idx ((List (UInt8)) × (List (List (UInt8))) × (List (UInt8)) × (List (UInt8)) × (List (UInt8)) × (List ((List (UInt8)) × (List (UInt8)) × (List (UInt8)) × Unit)) × Unit) x.1.2.2.2.1 y3.1.2.1) (fun (y4 : (List (UInt8)) × (List (List (UInt8))) × (List (UInt8)) × (List (UInt8)) × (List (UInt8)) × (List ((List (UInt8)) × (List (UInt8)) × (List (UInt8)) × Unit)) × Unit) => obind (P_ref06_few (y4.2.1, ())) (fun (y5 : Bool × Unit) => obind (sel (nt (nt y5.1))
  (obind (@idx ((List (UInt8)) × (List (List (UInt8))) × (List (UInt8)) × (List (UInt8)) × (List (UInt8)) × (List ((List (UInt8)) × (List (UInt8)) × (List (UInt8)) × Unit)) × Unit) x.1.2.2.2.1 y3.1.2.1) (fun (y6 : (List (UInt8)) × (List (List (UInt8))) × (List (UInt8)) × (List (UInt8)) × (List (UInt8)) × (List ((List (UInt8)) × (List (UInt8)) × (List (UInt8)) × Unit)) × Unit) => some (ltI (200 : Int) (@len UInt8 y6.2.2.2.2.1))))
  (some true)) (fun (y6 : Bool) => obind (sel (nt y6)
  (obind (@idx ((List (UInt8)) × (List (List (UInt8))) × (List (UInt8)) × (List (UInt8)) × (List (UInt8)) × (List ((List (UInt8)) × (List (UInt8)) × (List (UInt8)) × Unit)) × Unit) x.1.2.2.2.1 y3.1.2.1) (fun (y7 : (List (UInt8)) × (List (List (UInt8))) × (List (UInt8)) × (List (UInt8)) × (List (UInt8)) × (List ((List (UInt8)) × (List (UInt8)) × (List (UInt8)) × Unit)) × Unit) => obind (P_ref06_fewItems (y7.2.2.2.2.2.1, ())) (fun (y8 : Bool × Unit) => some (nt y8.1))))
  (some true)) (fun (y7 : Bool) => sel y7
  (some (Sum.inr ((1 : Nat), ((false, (y3.1.2.1, ())), ())) : (((Bool × Int × Unit) × Unit)) ⊕ ((Nat × (Bool × Int × Unit) × Unit))))
  (some (Sum.inl ((y3.1.1, (iadd IntKind.i64 y3.1.2.1 (1 : Int), ())), ()) : (((Bool × Int × Unit) × Unit)) ⊕ ((Nat × (Bool × Int × Unit) × Unit)))))))))
  (some (Sum.inr ((0 : Nat), ((y3.1.1, (y3.1.2.1, ())), ())) : (((Bool × Int × Unit) × Unit)) ⊕ ((Nat × (Bool × Int × Unit) × Unit))))

noncomputable def P_ref06_Few (x : (Int × (List ((List (UInt8)) × (List (UInt8)) × (List (List (UInt8))) × (List (UInt8)) × Int × Int × Bool × Unit)) × (List ((List (UInt8)) × (List (List (UInt8))) × (List (UInt8)) × (List (UInt8)) × (List ((List (UInt8)) × (List (UInt8)) × (List (UInt8)) × Unit)) × Unit)) × (List ((List (UInt8)) × (List (List (UInt8))) × (List (UInt8)) × (List (UInt8)) × (List (UInt8)) × (List ((List (UInt8)) × (List (UInt8)) × (List (UInt8)) × Unit)) × Unit)) × Unit) × Unit) : Option (Bool × Unit) :=
  obind (Loop (P_ref06_Few_L0 x) ((false, ((0 : Int), ())), ())) (fun (y1 : Nat × (Bool × Int × Unit) × Unit) => sel (eqN y1.1 (0 : Nat))
  (obind (Loop (P_ref06_Few_L1 x) ((y1.2.1.1, ((0 : Int), ())), ())) (fun (y2 : Nat × (Bool × Int × Unit) × Unit) => sel (eqN y2.1 (0 : Nat))
  (obind (Loop (P_ref06_Few_L2 x) ((y2.2.1.1, ((0 : Int), ())), ())) (fun (y3 : Nat × (Bool × Int × Unit) × Unit) => sel (eqN y3.1 (0 : Nat))
  (some (sel (sel (leI (@len ((List (UInt8)) × (List (UInt8)) × (List (List (UInt8))) × (List (UInt8)) × Int × Int × Bool × Unit) x.1.2.1) (40 : Int))
  (leI (@len ((List (UInt8)) × (List (List (UInt8))) × (List (UInt8)) × (List (UInt8)) × (List ((List (UInt8)) × (List (UInt8)) × (List (UInt8)) × Unit)) × Unit) x.1.2.2.1) (40 : Int))
  false)
  (leI (@len ((List (UInt8)) × (List (List (UInt8))) × (List (UInt8)) × (List (UInt8)) × (List (UInt8)) × (List ((List (UInt8)) × (List (UInt8)) × (List (UInt8)) × Unit)) × Unit) x.1.2.2.2.1) (40 : Int))
  false, ()))
  (some (y3.2.1.1, ()))))
  (some (y2.2.1.1, ()))))
  (some (y1.2.1.1, ())))

noncomputable def P_ref17_Of_L0 (x : Int × (Int × (List ((List (UInt8)) × (List (UInt8)) × (List (List (UInt8))) × (List (UInt8)) × Int × Int × Bool × Unit)) × (List ((List (UInt8)) × (List (List (UInt8))) × (List (UInt8)) × (List (UInt8)) × (List ((List (UInt8)) × (List (UInt8)) × (List (UInt8)) × Unit)) × Unit)) × (List ((List (UInt8)) × (List (List (UInt8))) × (List (UInt8)) × (List (UInt8)) × (List (UInt8)) × (List ((List (UInt8)) × (List (UInt8)) × (List (UInt8)) × Unit)) × Unit)) × Unit) × Unit) (y1 : (Unit × Int × Unit) × (List ((List (UInt8)) × (List (List (UInt8))) × Unit)) × Unit) : Option (((Unit × Int × Unit) × (List ((List (UInt8)) × (List (List (UInt8))) × Unit)) × Unit) ⊕ ((Unit × Int × Unit) × (List ((List (UInt8)) × (List (List (UInt8))) × Unit)) × Unit)) :=
  @way1 ((Unit × Int × Unit) × (List ((List (UInt8)) × (List (List (UInt8))) × Unit)) × Unit) (sel (ltI y1.1.2.1 (@len ((List (UInt8)) × (List (List (UInt8))) × (List (UInt8)) × (List (UInt8)) × (List (UInt8)) × (List ((List (UInt8)) × (List (UInt8)) × (List (UInt8)) × Unit)) × Unit) x.2.1.2.2.2.1))
  (obind (@idx ((List (UInt8)) × (List (List (UInt8))) × (List (UInt8)) × (List (UInt8)) × (List (UInt8)) × (List ((List (UInt8)) × (List (UInt8)) × (List (UInt8)) × Unit)) × Unit) x.2.1.2.2.2.1 y1.1.2.1) (fun (y2 : (List (UInt8)) × (List (List (UInt8))) × (List (UInt8)) × (List (UInt8)) × (List (UInt8)) × (List ((List (UInt8)) × (List (UInt8)) × (List (UInt8)) × Unit)) × Unit) => obind (@idx ((List (UInt8)) × (List (List (UInt8))) × (List (UInt8)) × (List (UInt8)) × (List (UInt8)) × (List ((List (UInt8)) × (List (UInt8)) × (List (UInt8)) × Unit)) × Unit) x.2.1.2.2.2.1 y1.1.2.1) (fun (y3 : (List (UInt8)) × (List (List (UInt8))) × (List (UInt8)) × (List (UInt8)) × (List (UInt8)) × (List ((List (UInt8)) × (List (UInt8)) × (List (UInt8)) × Unit)) × Unit) => sel (fits (plus (@len ((List (UInt8)) × (List (List (UInt8))) × Unit) y1.2.1) (@len ((List (UInt8)) × (List (List (UInt8))) × Unit) ([(y2.1, (y3.2.1, ()))] : List ((List (UInt8)) × (List (List (UInt8))) × Unit)))))
  (some (Sum.inl (((), (iadd IntKind.i64 y1.1.2.1 (1 : Int), ())), (@app ((List (UInt8)) × (List (List (UInt8))) × Unit) y1.2.1 ([(y2.1, (y3.2.1, ()))] : List ((List (UInt8)) × (List (List (UInt8))) × Unit)), ())) : (((Unit × Int × Unit) × (List ((List (UInt8)) × (List (List (UInt8))) × Unit)) × Unit)) ⊕ ((Nat × (Unit × Int × Unit) × (List ((List (UInt8)) × (List (List (UInt8))) × Unit)) × Unit))))
  (none : Option (((Unit × Int × Unit) × (List ((List (UInt8)) × (List (List (UInt8))) × Unit)) × Unit) ⊕ (Nat × (Unit × Int × Unit) × (List ((List (UInt8)) × (List (List (UInt8))) × Unit)) × Unit))))))
  (some (Sum.inr ((0 : Nat), (((), (y1.1.2.1, ())), (y1.2.1, ()))) : (((Unit × Int × Unit) × (List ((List (UInt8)) × (List (List (UInt8))) × Unit)) × Unit)) ⊕ ((Nat × (Unit × Int × Unit) × (List ((List (UInt8)) × (List (List (UInt8))) × Unit)) × Unit)))))

noncomputable def P_ref17_Of_L1 (x : Int × (Int × (List ((List (UInt8)) × (List (UInt8)) × (List (List (UInt8))) × (List (UInt8)) × Int × Int × Bool × Unit)) × (List ((List (UInt8)) × (List (List (UInt8))) × (List (UInt8)) × (List (UInt8)) × (List ((List (UInt8)) × (List (UInt8)) × (List (UInt8)) × Unit)) × Unit)) × (List ((List (UInt8)) × (List (List (UInt8))) × (List (UInt8)) × (List (UInt8)) × (List (UInt8)) × (List ((List (UInt8)) × (List (UInt8)) × (List (UInt8)) × Unit)) × Unit)) × Unit) × Unit) (y1 : (Unit × Int × Unit) × (List ((List (UInt8)) × (List (List (UInt8))) × Unit)) × Unit) : Option (((Unit × Int × Unit) × (List ((List (UInt8)) × (List (List (UInt8))) × Unit)) × Unit) ⊕ ((Unit × Int × Unit) × (List ((List (UInt8)) × (List (List (UInt8))) × Unit)) × Unit)) :=
  @way1 ((Unit × Int × Unit) × (List ((List (UInt8)) × (List (List (UInt8))) × Unit)) × Unit) (sel (ltI y1.1.2.1 (@len ((List (UInt8)) × (List (List (UInt8))) × (List (UInt8)) × (List (UInt8)) × (List ((List (UInt8)) × (List (UInt8)) × (List (UInt8)) × Unit)) × Unit) x.2.1.2.2.1))
  (obind (@idx ((List (UInt8)) × (List (List (UInt8))) × (List (UInt8)) × (List (UInt8)) × (List ((List (UInt8)) × (List (UInt8)) × (List (UInt8)) × Unit)) × Unit) x.2.1.2.2.1 y1.1.2.1) (fun (y2 : (List (UInt8)) × (List (List (UInt8))) × (List (UInt8)) × (List (UInt8)) × (List ((List (UInt8)) × (List (UInt8)) × (List (UInt8)) × Unit)) × Unit) => obind (@idx ((List (UInt8)) × (List (List (UInt8))) × (List (UInt8)) × (List (UInt8)) × (List ((List (UInt8)) × (List (UInt8)) × (List (UInt8)) × Unit)) × Unit) x.2.1.2.2.1 y1.1.2.1) (fun (y3 : (List (UInt8)) × (List (List (UInt8))) × (List (UInt8)) × (List (UInt8)) × (List ((List (UInt8)) × (List (UInt8)) × (List (UInt8)) × Unit)) × Unit) => sel (fits (plus (@len ((List (UInt8)) × (List (List (UInt8))) × Unit) y1.2.1) (@len ((List (UInt8)) × (List (List (UInt8))) × Unit) ([(y2.1, (y3.2.1, ()))] : List ((List (UInt8)) × (List (List (UInt8))) × Unit)))))
  (some (Sum.inl (((), (iadd IntKind.i64 y1.1.2.1 (1 : Int), ())), (@app ((List (UInt8)) × (List (List (UInt8))) × Unit) y1.2.1 ([(y2.1, (y3.2.1, ()))] : List ((List (UInt8)) × (List (List (UInt8))) × Unit)), ())) : (((Unit × Int × Unit) × (List ((List (UInt8)) × (List (List (UInt8))) × Unit)) × Unit)) ⊕ ((Nat × (Unit × Int × Unit) × (List ((List (UInt8)) × (List (List (UInt8))) × Unit)) × Unit))))
  (none : Option (((Unit × Int × Unit) × (List ((List (UInt8)) × (List (List (UInt8))) × Unit)) × Unit) ⊕ (Nat × (Unit × Int × Unit) × (List ((List (UInt8)) × (List (List (UInt8))) × Unit)) × Unit))))))
  (some (Sum.inr ((0 : Nat), (((), (y1.1.2.1, ())), (y1.2.1, ()))) : (((Unit × Int × Unit) × (List ((List (UInt8)) × (List (List (UInt8))) × Unit)) × Unit)) ⊕ ((Nat × (Unit × Int × Unit) × (List ((List (UInt8)) × (List (List (UInt8))) × Unit)) × Unit)))))

noncomputable def P_ref17_Of_L2 (x : Int × (Int × (List ((List (UInt8)) × (List (UInt8)) × (List (List (UInt8))) × (List (UInt8)) × Int × Int × Bool × Unit)) × (List ((List (UInt8)) × (List (List (UInt8))) × (List (UInt8)) × (List (UInt8)) × (List ((List (UInt8)) × (List (UInt8)) × (List (UInt8)) × Unit)) × Unit)) × (List ((List (UInt8)) × (List (List (UInt8))) × (List (UInt8)) × (List (UInt8)) × (List (UInt8)) × (List ((List (UInt8)) × (List (UInt8)) × (List (UInt8)) × Unit)) × Unit)) × Unit) × Unit) (y1 : (Unit × Int × Unit) × (List ((List (UInt8)) × (List (List (UInt8))) × Unit)) × Unit) : Option (((Unit × Int × Unit) × (List ((List (UInt8)) × (List (List (UInt8))) × Unit)) × Unit) ⊕ ((Unit × Int × Unit) × (List ((List (UInt8)) × (List (List (UInt8))) × Unit)) × Unit)) :=
  @way1 ((Unit × Int × Unit) × (List ((List (UInt8)) × (List (List (UInt8))) × Unit)) × Unit) (sel (ltI y1.1.2.1 (@len ((List (UInt8)) × (List (UInt8)) × (List (List (UInt8))) × (List (UInt8)) × Int × Int × Bool × Unit) x.2.1.2.1))
  (obind (@idx ((List (UInt8)) × (List (UInt8)) × (List (List (UInt8))) × (List (UInt8)) × Int × Int × Bool × Unit) x.2.1.2.1 y1.1.2.1) (fun (y2 : (List (UInt8)) × (List (UInt8)) × (List (List (UInt8))) × (List (UInt8)) × Int × Int × Bool × Unit) => obind (sel y2.2.2.2.2.2.2.1
  (obind (@idx ((List (UInt8)) × (List (UInt8)) × (List (List (UInt8))) × (List (UInt8)) × Int × Int × Bool × Unit) x.2.1.2.1 y1.1.2.1) (fun (y3 : (List (UInt8)) × (List (UInt8)) × (List (List (UInt8))) × (List (UInt8)) × Int × Int × Bool × Unit) => obind (@idx ((List (UInt8)) × (List (UInt8)) × (List (List (UInt8))) × (List (UInt8)) × Int × Int × Bool × Unit) x.2.1.2.1 y1.1.2.1) (fun (y4 : (List (UInt8)) × (List (UInt8)) × (List (List (UInt8))) × (List (UInt8)) × Int × Int × Bool × Unit) => sel (fits (plus (@len ((List (UInt8)) × (List (List (UInt8))) × Unit) y1.2.1) (@len ((List (UInt8)) × (List (List (UInt8))) × Unit) ([(y3.1, (y4.2.2.1, ()))] : List ((List (UInt8)) × (List (List (UInt8))) × Unit)))))
  (some (((), ()), (@app ((List (UInt8)) × (List (List (UInt8))) × Unit) y1.2.1 ([(y3.1, (y4.2.2.1, ()))] : List ((List (UInt8)) × (List (List (UInt8))) × Unit)), ())))
  (none : Option ((Unit × Unit) × (List ((List (UInt8)) × (List (List (UInt8))) × Unit)) × Unit)))))
  (some (((), ()), (y1.2.1, ())))) (fun (y3 : (Unit × Unit) × (List ((List (UInt8)) × (List (List (UInt8))) × Unit)) × Unit) => some (Sum.inl (((), (iadd IntKind.i64 y1.1.2.1 (1 : Int), ())), (y3.2.1, ())) : (((Unit × Int × Unit) × (List ((List (UInt8)) × (List (List (UInt8))) × Unit)) × Unit)) ⊕ ((Nat × (Unit × Int × Unit) × (List ((List (UInt8)) × (List (List (UInt8))) × Unit)) × Unit))))))
  (some (Sum.inr ((0 : Nat), (((), (y1.1.2.1, ())), (y1.2.1, ()))) : (((Unit × Int × Unit) × (List ((List (UInt8)) × (List (List (UInt8))) × Unit)) × Unit)) ⊕ ((Nat × (Unit × Int × Unit) × (List ((List (UInt8)) × (List (List (UInt8))) × Unit)) × Unit)))))

noncomputable def P_ref17_Of (x : Int × (Int × (List ((List (UInt8)) × (List (UInt8)) × (List (List (UInt8))) × (List (UInt8)) × Int × Int × Bool × Unit)) × (List ((List (UInt8)) × (List (List (UInt8))) × (List (UInt8)) × (List (UInt8)) × (List ((List (UInt8)) × (List (UInt8)) × (List (UInt8)) × Unit)) × Unit)) × (List ((List (UInt8)) × (List (List (UInt8))) × (List (UInt8)) × (List (UInt8)) × (List (UInt8)) × (List ((List (UInt8)) × (List (UInt8)) × (List (UInt8)) × Unit)) × Unit)) × Unit) × Unit) : Option ((List ((List (UInt8)) × (List (List (UInt8))) × Unit)) × Unit) :=
  obind (sel (eqI x.1 (1 : Int))
  (obind (Loop (P_ref17_Of_L0 x) (((), ((0 : Int), ())), (([] : List ((List (UInt8)) × (List (List (UInt8))) × Unit)), ()))) (fun (y1 : (Unit × Int × Unit) × (List ((List (UInt8)) × (List (List (UInt8))) × Unit)) × Unit) => some (((), ()), (y1.2.1, ()))))
  (obind (sel (eqI x.1 (2 : Int))
  (obind (Loop (P_ref17_Of_L1 x) (((), ((0 : Int), ())), (([] : List ((List (UInt8)) × (List (List (UInt8))) × Unit)), ()))) (fun (y1 : (Unit × Int × Unit) × (List ((List (UInt8)) × (List (List (UInt8))) × Unit)) × Unit) => some (((), ()), (y1.2.1, ()))))
  (obind (sel (eqI x.1 (3 : Int))
  (obind (Loop (P_ref17_Of_L2 x) (((), ((0 : Int), ())), (([] : List ((List (UInt8)) × (List (List (UInt8))) × Unit)), ()))) (fun (y1 : (Unit × Int × Unit) × (List ((List (UInt8)) × (List (List (UInt8))) × Unit)) × Unit) => some (((), ()), (y1.2.1, ()))))
  (some (((), ()), (([] : List ((List (UInt8)) × (List (List (UInt8))) × Unit)), ())))) (fun (y1 : (Unit × Unit) × (List ((List (UInt8)) × (List (List (UInt8))) × Unit)) × Unit) => some (((), ()), (y1.2.1, ()))))) (fun (y1 : (Unit × Unit) × (List ((List (UInt8)) × (List (List (UInt8))) × Unit)) × Unit) => some (((), ()), (y1.2.1, ()))))) (fun (y1 : (Unit × Unit) × (List ((List (UInt8)) × (List (List (UInt8))) × Unit)) × Unit) => some (y1.2.1, ()))

noncomputable def P_law17_NamesOf (x : Int × (Int × (List ((List (UInt8)) × (List (UInt8)) × (List (List (UInt8))) × (List (UInt8)) × Int × Int × Bool × Unit)) × (List ((List (UInt8)) × (List (List (UInt8))) × (List (UInt8)) × (List (UInt8)) × (List ((List (UInt8)) × (List (UInt8)) × (List (UInt8)) × Unit)) × Unit)) × (List ((List (UInt8)) × (List (List (UInt8))) × (List (UInt8)) × (List (UInt8)) × (List (UInt8)) × (List ((List (UInt8)) × (List (UInt8)) × (List (UInt8)) × Unit)) × Unit)) × Unit) × Unit) : Option (Bool × Unit) :=
  obind (P_ref06_Few (x.2.1, ())) (fun (y1 : Bool × Unit) => sel (nt y1.1)
  (obind (P_law17_awake ()) (fun (y2 : Bool × Unit) => some (y2.1, ())))
  (obind (P_names_Of (x.1, (x.2.1, ()))) (fun (y2 : (List ((List (UInt8)) × (List (List (UInt8))) × Unit)) × Unit) => obind (P_ref17_Of (x.1, (x.2.1, ()))) (fun (y3 : (List ((List (UInt8)) × (List (List (UInt8))) × Unit)) × Unit) => obind (P_ref17_Same (y2.1, (y3.1, ()))) (fun (y4 : Bool × Unit) => sel y4.1
  (obind (P_law17_awake ()) (fun (y5 : Bool × Unit) => some (y5.1, ())))
  (some (false, ())))))))

noncomputable def P_ref17_Alone_L2 (x : (List ((List (UInt8)) × (List (List (UInt8))) × Unit)) × Unit) (y1 : (Bool × Int × Unit) × Unit) (y2 : (Bool × Int × Unit) × Unit) (y3 : (Bool × Int × Unit) × Unit) : Option (((Bool × Int × Unit) × Unit) ⊕ (Nat × (Bool × Int × Unit) × Unit)) :=
  obind (@idx ((List (UInt8)) × (List (List (UInt8))) × Unit) x.1 y1.1.2.1) (fun (y4 : (List (UInt8)) × (List (List (UInt8))) × Unit) => sel (ltI y3.1.2.1 (@len (List (UInt8)) y4.2.1))
  (obind (@idx ((List (UInt8)) × (List (List (UInt8))) × Unit) x.1 y2.1.2.1) (fun (y5 : (List (UInt8)) × (List (List (UInt8))) × Unit) => obind (@idx ((List (UInt8)) × (List (List (UInt8))) × Unit) x.1 y1.1.2.1) (fun (y6 : (List (UInt8)) × (List (List (UInt8))) × Unit) => obind (@idx (List (UInt8)) y6.2.1 y3.1.2.1) (fun (y7 : List (UInt8)) => obind (P_ref17_has (y5.2.1, (y7, ()))) (fun (y8 : Bool × Unit) => sel y8.1
  (some (Sum.inr ((1 : Nat), ((false, (y3.1.2.1, ())), ())) : (((Bool × Int × Unit) × Unit)) ⊕ ((Nat × (Bool × Int × Unit) × Unit))))
  (some (Sum.inl ((y3.1.1, (iadd IntKind.i64 y3.1.2.1 (1 : Int), ())), ()) : (((Bool × Int × Unit) × Unit)) ⊕ ((Nat × (Bool × Int × Unit) × Unit)))))))))
  (some (Sum.inr ((0 : Nat), ((y3.1.1, (y3.1.2.1, ())), ())) : (((Bool × Int × Unit) × Unit)) ⊕ ((Nat × (Bool × Int × Unit) × Unit)))))

noncomputable def P_ref17_Alone_L1 (x : (List ((List (UInt8)) × (List (List (UInt8))) × Unit)) × Unit) (y1 : (Bool × Int × Unit) × Unit) (y2 : (Bool × Int × Unit) × Unit) : Option (((Bool × Int × Unit) × Unit) ⊕ (Nat × (Bool × Int × Unit) × Unit)) :=
  sel (ltI y2.1.2.1 y1.1.2.1)
  (obind (Loop (P_ref17_Alone_L2 x y1 y2) ((y2.1.1, ((0 : Int), ())), ())) (fun (y3 : Nat × (Bool × Int × Unit) × Unit) => sel (eqN y3.1 (0 : Nat))
  (some (Sum.inl ((y3.2.1.1, (iadd IntKind.i64 y2.1.2.1 (1 : Int), ())), ()) : (((Bool × Int × Unit) × Unit)) ⊕ ((Nat × (Bool × Int × Unit) × Unit))))
  (some (Sum.inr ((1 : Nat), ((y3.2.1.1, (y2.1.2.1, ())), ())) : (((Bool × Int × Unit) × Unit)) ⊕ ((Nat × (Bool × Int × Unit) × Unit))))))
  (some (Sum.inr ((0 : Nat), ((y2.1.1, (y2.1.2.1, ())), ())) : (((Bool × Int × Unit) × Unit)) ⊕ ((Nat × (Bool × Int × Unit) × Unit))))

noncomputable def P_ref17_Alone_L0 (x : (List ((List (UInt8)) × (List (List (UInt8))) × Unit)) × Unit) (y1 : (Bool × Int × Unit) × Unit) : Option (((Bool × Int × Unit) × Unit) ⊕ (Nat × (Bool × Int × Unit) × Unit)) :=
  sel (ltI y1.1.2.1 (@len ((List (UInt8)) × (List (List (UInt8))) × Unit) x.1))
  (obind (Loop (P_ref17_Alone_L1 x y1) ((y1.1.1, ((0 : Int), ())), ())) (fun (y2 : Nat × (Bool × Int × Unit) × Unit) => sel (eqN y2.1 (0 : Nat))
  (some (Sum.inl ((y2.2.1.1, (iadd IntKind.i64 y1.1.2.1 (1 : Int), ())), ()) : (((Bool × Int × Unit) × Unit)) ⊕ ((Nat × (Bool × Int × Unit) × Unit))))
  (some (Sum.inr ((1 : Nat), ((y2.2.1.1, (y1.1.2.1, ())), ())) : (((Bool × Int × Unit) × Unit)) ⊕ ((Nat × (Bool × Int × Unit) × Unit))))))
  (some (Sum.inr ((0 : Nat), ((y1.1.1, (y1.1.2.1, ())), ())) : (((Bool × Int × Unit) × Unit)) ⊕ ((Nat × (Bool × Int × Unit) × Unit))))

noncomputable def P_ref17_Alone (x : (List ((List (UInt8)) × (List (List (UInt8))) × Unit)) × Unit) : Option (Bool × Unit) :=
  obind (Loop (P_ref17_Alone_L0 x) ((false, ((0 : Int), ())), ())) (fun (y1 : Nat × (Bool × Int × Unit) × Unit) => sel (eqN y1.1 (0 : Nat))
  (some (true, ()))
  (some (y1.2.1.1, ())))

noncomputable def P_law17_NamesAlone_L1 (x : (List ((List (UInt8)) × (List (List (UInt8))) × Unit)) × (List (UInt8)) × (List (List (UInt8))) × Unit) (y4 : (Bool × Int × Unit) × Unit) (y5 : (Bool × Int × Unit) × Unit) : Option (((Bool × Int × Unit) × Unit) ⊕ (Nat × (Bool × Int × Unit) × Unit)) :=
  sel (ltI y5.1.2.1 y4.1.2.1)
  (obind (@idx ((List (UInt8)) × (List (List (UInt8))) × Unit) x.1 y4.1.2.1) (fun (y6 : (List (UInt8)) × (List (List (UInt8))) × Unit) => obind (@idx ((List (UInt8)) × (List (List (UInt8))) × Unit) x.1 y5.1.2.1) (fun (y7 : (List (UInt8)) × (List (List (UInt8))) × Unit) => sel (eqS y6.1 y7.1)
  (obind (P_law17_awake ()) (fun (y8 : Bool × Unit) => some (Sum.inr ((1 : Nat), ((y8.1, (y5.1.2.1, ())), ())) : (((Bool × Int × Unit) × Unit)) ⊕ ((Nat × (Bool × Int × Unit) × Unit)))))
  (some (Sum.inl ((y5.1.1, (iadd IntKind.i64 y5.1.2.1 (1 : Int), ())), ()) : (((Bool × Int × Unit) × Unit)) ⊕ ((Nat × (Bool × Int × Unit) × Unit)))))))
  (some (Sum.inr ((0 : Nat), ((y5.1.1, (y5.1.2.1, ())), ())) : (((Bool × Int × Unit) × Unit)) ⊕ ((Nat × (Bool × Int × Unit) × Unit))))

noncomputable def P_law17_NamesAlone_L0 (x : (List ((List (UInt8)) × (List (List (UInt8))) × Unit)) × (List (UInt8)) × (List (List (UInt8))) × Unit) (y4 : (Bool × Int × Unit) × Unit) : Option (((Bool × Int × Unit) × Unit) ⊕ (Nat × (Bool × Int × Unit) × Unit)) :=
  sel (ltI y4.1.2.1 (@len ((List (UInt8)) × (List (List (UInt8))) × Unit) x.1))
  (obind (Loop (P_law17_NamesAlone_L1 x y4) ((y4.1.1, ((0 : Int), ())), ())) (fun (y5 : Nat × (Bool × Int × Unit) × Unit) => sel (eqN y5.1 (0 : Nat))
  (some (Sum.inl ((y5.2.1.1, (iadd IntKind.i64 y4.1.2.1 (1 : Int), ())), ()) : (((Bool × Int × Unit) × Unit)) ⊕ ((Nat × (Bool × Int × Unit) × Unit))))
  (some (Sum.inr ((1 : Nat), ((y5.2.1.1, (y4.1.2.1, ())), ())) : (((Bool × Int × Unit) × Unit)) ⊕ ((Nat × (Bool × Int × Unit) × Unit))))))
  (some (Sum.inr ((0 : Nat), ((y4.1.1, (y4.1.2.1, ())), ())) : (((Bool × Int × Unit) × Unit)) ⊕ ((Nat × (Bool × Int × Unit) × Unit))))

noncomputable def P_law17_NamesAlone_L2 (x : (List ((List (UInt8)) × (List (List (UInt8))) × Unit)) × (List (UInt8)) × (List (List (UInt8))) × Unit) (y5 : (List ((List (UInt8)) × (List (List (UInt8))) × Unit)) × Int × Unit) (y6 : (Bool × Int × Unit) × Unit) : Option (((Bool × Int × Unit) × Unit) ⊕ (Nat × (Bool × Int × Unit) × Unit)) :=
  sel (ltI y6.1.2.1 (@len (List (UInt8)) x.2.2.1))
  (obind (@idx (List (UInt8)) x.2.2.1 y6.1.2.1) (fun (y7 : List (UInt8)) => obind (P_names_Owner (y5.1, (y7, ()))) (fun (y8 : (List (UInt8)) × Bool × Unit) => sel (sel (nt (nt (eqS y8.1 x.2.1)))
  (nt y8.2.1)
  true)
  (some (Sum.inr ((1 : Nat), ((false, (y6.1.2.1, ())), ())) : (((Bool × Int × Unit) × Unit)) ⊕ ((Nat × (Bool × Int × Unit) × Unit))))
  (some (Sum.inl ((y6.1.1, (iadd IntKind.i64 y6.1.2.1 (1 : Int), ())), ()) : (((Bool × Int × Unit) × Unit)) ⊕ ((Nat × (Bool × Int × Unit) × Unit)))))))
  (some (Sum.inr ((0 : Nat), ((y6.1.1, (y6.1.2.1, ())), ())) : (((Bool × Int × Unit) × Unit)) ⊕ ((Nat × (Bool × Int × Unit) × Unit))))

noncomputable def P_law17_NamesAlone_L4 (x : (List ((List (UInt8)) × (List (List (UInt8))) × Unit)) × (List (UInt8)) × (List (List (UInt8))) × Unit) (y5 : (List ((List (UInt8)) × (List (List (UInt8))) × Unit)) × Int × Unit) (y7 : (Bool × Int × Unit) × Unit) (y8 : (Bool × Int × Unit) × Unit) : Option (((Bool × Int × Unit) × Unit) ⊕ (Nat × (Bool × Int × Unit) × Unit)) :=
  obind (@idx ((List (UInt8)) × (List (List (UInt8))) × Unit) x.1 y7.1.2.1) (fun (y9 : (List (UInt8)) × (List (List (UInt8))) × Unit) => sel (ltI y8.1.2.1 (@len (List (UInt8)) y9.2.1))
  (obind (@idx ((List (UInt8)) × (List (List (UInt8))) × Unit) x.1 y7.1.2.1) (fun (y10 : (List (UInt8)) × (List (List (UInt8))) × Unit) => obind (@idx (List (UInt8)) y10.2.1 y8.1.2.1) (fun (y11 : List (UInt8)) => obind (P_names_Owner (y5.1, (y11, ()))) (fun (y12 : (List (UInt8)) × Bool × Unit) => obind (@idx ((List (UInt8)) × (List (List (UInt8))) × Unit) x.1 y7.1.2.1) (fun (y13 : (List (UInt8)) × (List (List (UInt8))) × Unit) => obind (sel (nt (eqS y13.1 x.2.1))
  (obind (@idx ((List (UInt8)) × (List (List (UInt8))) × Unit) x.1 y7.1.2.1) (fun (y14 : (List (UInt8)) × (List (List (UInt8))) × Unit) => some (sel (nt (nt (eqS y12.1 y14.1)))
  (nt y12.2.1)
  true)))
  (some false)) (fun (y14 : Bool) => sel y14
  (some (Sum.inr ((1 : Nat), ((false, (y8.1.2.1, ())), ())) : (((Bool × Int × Unit) × Unit)) ⊕ ((Nat × (Bool × Int × Unit) × Unit))))
  (some (Sum.inl ((y8.1.1, (iadd IntKind.i64 y8.1.2.1 (1 : Int), ())), ()) : (((Bool × Int × Unit) × Unit)) ⊕ ((Nat × (Bool × Int × Unit) × Unit))))))))))
  (some (Sum.inr ((0 : Nat), ((y8.1.1, (y8.1.2.1, ())), ())) : (((Bool × Int × Unit) × Unit)) ⊕ ((Nat × (Bool × Int × Unit) × Unit)))))

noncomputable def P_law17_NamesAlone_L3 (x : (List ((List (UInt8)) × (List (List (UInt8))) × Unit)) × (List (UInt8)) × (List (List (UInt8))) × Unit) (y5 : (List ((List (UInt8)) × (List (List (UInt8))) × Unit)) × Int × Unit) (y7 : (Bool × Int × Unit) × Unit) : Option (((Bool × Int × Unit) × Unit) ⊕ (Nat × (Bool × Int × Unit) × Unit)) :=
  sel (ltI y7.1.2.1 (@len ((List (UInt8)) × (List (List (UInt8))) × Unit) x.1))
  (obind (Loop (P_law17_NamesAlone_L4 x y5 y7) ((y7.1.1, ((0 : Int), ())), ())) (fun (y8 : Nat × (Bool × Int × Unit) × Unit) => sel (eqN y8.1 (0 : Nat))
  (some (Sum.inl ((y8.2.1.1, (iadd IntKind.i64 y7.1.2.1 (1 : Int), ())), ()) : (((Bool × Int × Unit) × Unit)) ⊕ ((Nat × (Bool × Int × Unit) × Unit))))
  (some (Sum.inr ((1 : Nat), ((y8.2.1.1, (y7.1.2.1, ())), ())) : (((Bool × Int × Unit) × Unit)) ⊕ ((Nat × (Bool × Int × Unit) × Unit))))))
  (some (Sum.inr ((0 : Nat), ((y7.1.1, (y7.1.2.1, ())), ())) : (((Bool × Int × Unit) × Unit)) ⊕ ((Nat × (Bool × Int × Unit) × Unit))))

noncomputable def P_law17_NamesAlone (x : (List ((List (UInt8)) × (List (List (UInt8))) × Unit)) × (List (UInt8)) × (List (List (UInt8))) × Unit) : Option (Bool × Unit) :=
  obind (P_ref17_Few (x.1, ())) (fun (y1 : Bool × Unit) => obind (sel (nt (sel (nt (nt y1.1))
  (ltI (100 : Int) (@len UInt8 x.2.1))
  true))
  (obind (P_ref17_FewTexts (x.2.2.1, ())) (fun (y2 : Bool × Unit) => some (nt y2.1)))
  (some true)) (fun (y2 : Bool) => obind (sel (nt y2)
  (obind (P_ref17_Alone (x.1, ())) (fun (y3 : Bool × Unit) => some (nt y3.1)))
  (some true)) (fun (y3 : Bool) => sel y3
  (obind (P_law17_awake ()) (fun (y4 : Bool × Unit) => some (y4.1, ())))
  (obind (Loop (P_law17_NamesAlone_L0 x) ((false, ((0 : Int), ())), ())) (fun (y4 : Nat × (Bool × Int × Unit) × Unit) => sel (eqN y4.1 (0 : Nat))
  (obind (P_names_Set (x.1, (x.2.1, (x.2.2.1, ())))) (fun (y5 : (List ((List (UInt8)) × (List (List (UInt8))) × Unit)) × Int × Unit) => sel (nt (eqI y5.2.1 (0 : Int)))
  (obind (sel (eqI (@len ((List (UInt8)) × (List (List (UInt8))) × Unit) y5.1) (0 : Int))
  (obind (P_law17_awake ()) (fun (y6 : Bool × Unit) => some y6.1))
  (some false)) (fun (y6 : Bool) => some (y6, ())))
  (obind (Loop (P_law17_NamesAlone_L2 x y5) ((y4.2.1.1, ((0 : Int), ())), ())) (fun (y6 : Nat × (Bool × Int × Unit) × Unit) => sel (eqN y6.1 (0 : Nat))
  (obind (Loop (P_law17_NamesAlone_L3 x y5) ((y6.2.1.1, ((0 : Int), ())), ())) (fun (y7 : Nat × (Bool × Int × Unit) × Unit) => sel (eqN y7.1 (0 : Nat))
  (obind (P_ref17_Alone (y5.1, ())) (fun (y8 : Bool × Unit) => obind (sel (sel y8.1
  (eqI (@len ((List (UInt8)) × (List (List (UInt8))) × Unit) y5.1) (@len ((List (UInt8)) × (List (List (UInt8))) × Unit) x.1))
  false)
  (obind (P_law17_awake ()) (fun (y9 : Bool × Unit) => some y9.1))
  (some false)) (fun (y9 : Bool) => some (y9, ()))))
  (some (y7.2.1.1, ()))))
  (some (y6.2.1.1, ()))))))
  (some (y4.2.1.1, ())))))))
end Go.Ge
