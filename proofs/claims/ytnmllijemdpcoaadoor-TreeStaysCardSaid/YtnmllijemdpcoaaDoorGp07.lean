/- What the functions of layer 07 compute, as plain programs (written by a program from what the ghost interpreter comes to). -/
import Derived.Test.YtnmllijemdpcoaaDoorGpA
import Derived.Test.YtnmllijemdpcoaaDoorGp13
namespace Go.Ge
set_option linter.unusedVariables false
set_option maxRecDepth 100000

noncomputable def P_paths_Parts (x : (List (UInt8)) × Unit) : Option ((List (List (UInt8))) × Unit) :=
  sel (eqS x.1 ([] : List (UInt8)))
  (some (([] : List (List (UInt8))), ()))
  (obind (P_strings_Split (x.1, (([(47 : UInt8)] : List (UInt8)), ()))) (fun (y1 : (List (List (UInt8))) × Unit) => some (y1.1, ())))

noncomputable def P_paths_isName_L0 (x : (List (UInt8)) × Unit) (y1 : (Bool × Int × Unit) × Unit) : Option (((Bool × Int × Unit) × Unit) ⊕ (Nat × (Bool × Int × Unit) × Unit)) :=
  sel (ltI y1.1.2.1 (2 : Int))
  (obind (@idx (List (UInt8)) ([([(46 : UInt8)] : List (UInt8)), ([(46 : UInt8), (46 : UInt8)] : List (UInt8))] : List (List (UInt8))) y1.1.2.1) (fun (y2 : List (UInt8)) => sel (eqS x.1 y2)
  (some (Sum.inr ((1 : Nat), ((false, (y1.1.2.1, ())), ())) : (((Bool × Int × Unit) × Unit)) ⊕ ((Nat × (Bool × Int × Unit) × Unit))))
  (some (Sum.inl ((y1.1.1, (iadd IntKind.i64 y1.1.2.1 (1 : Int), ())), ()) : (((Bool × Int × Unit) × Unit)) ⊕ ((Nat × (Bool × Int × Unit) × Unit))))))
  (some (Sum.inr ((0 : Nat), ((y1.1.1, (y1.1.2.1, ())), ())) : (((Bool × Int × Unit) × Unit)) ⊕ ((Nat × (Bool × Int × Unit) × Unit))))

noncomputable def P_paths_isName (x : (List (UInt8)) × Unit) : Option (Bool × Unit) :=
  obind (Loop (P_paths_isName_L0 x) ((false, ((0 : Int), ())), ())) (fun (y1 : Nat × (Bool × Int × Unit) × Unit) => sel (eqN y1.1 (0 : Nat))
  (obind (sel (sel (leI (1 : Int) (@len UInt8 x.1))
  (leI (@len UInt8 x.1) (32 : Int))
  false)
  (obind (P_strings_IndexByte (x.1, ((0 : Int), ()))) (fun (y2 : Int × Unit) => some (ltI y2.1 (0 : Int))))
  (some false)) (fun (y2 : Bool) => some (y2, ())))
  (some (y1.2.1.1, ())))

noncomputable def P_strings_HasPrefix (x : (List (UInt8)) × (List (UInt8)) × Unit) : Option (Bool × Unit) :=
  obind (P_internal_stringslite_HasPrefix (x.1, (x.2.1, ()))) (fun (y1 : Bool × Unit) => some (y1.1, ()))

noncomputable def P_paths_Clean_L0 (y1 : (List (List (UInt8))) × Unit) (y2 : ((List (UInt8)) × Int × Unit × Int × Unit) × (List (List (UInt8))) × Unit) : Option ((((List (UInt8)) × Int × Unit × Int × Unit) × (List (List (UInt8))) × Unit) ⊕ (Nat × ((List (UInt8)) × Int × Unit × Int × Unit) × (List (List (UInt8))) × Unit)) :=
  sel (ltI y2.1.2.2.2.1 (@len (List (UInt8)) y1.1))
  (obind (@idx (List (UInt8)) y1.1 y2.1.2.2.2.1) (fun (y3 : List (UInt8)) => obind (sel (sel (nt (eqS y3 ([] : List (UInt8))))
  (eqS y3 ([(46 : UInt8)] : List (UInt8)))
  true)
  (some ((0 : Nat), ((y2.1.1, (y2.1.2.1, ((), ()))), (y2.2.1, ()))))
  (obind (P_paths_isName (y3, ())) (fun (y4 : Bool × Unit) => sel (nt y4.1)
  (some ((1 : Nat), ((([] : List (UInt8)), ((2 : Int), ((), ()))), (y2.2.1, ()))))
  (sel (fits (plus (@len (List (UInt8)) y2.2.1) (@len (List (UInt8)) ([y3] : List (List (UInt8))))))
  (some ((0 : Nat), ((y2.1.1, (y2.1.2.1, ((), ()))), (@app (List (UInt8)) y2.2.1 ([y3] : List (List (UInt8))), ()))))
  (none : Option (Nat × ((List (UInt8)) × Int × Unit × Unit) × (List (List (UInt8))) × Unit)))))) (fun (y4 : Nat × ((List (UInt8)) × Int × Unit × Unit) × (List (List (UInt8))) × Unit) => sel (eqN y4.1 (0 : Nat))
  (some (Sum.inl ((y4.2.1.1, (y4.2.1.2.1, ((), (iadd IntKind.i64 y2.1.2.2.2.1 (1 : Int), ())))), (y4.2.2.1, ())) : ((((List (UInt8)) × Int × Unit × Int × Unit) × (List (List (UInt8))) × Unit)) ⊕ ((Nat × ((List (UInt8)) × Int × Unit × Int × Unit) × (List (List (UInt8))) × Unit))))
  (some (Sum.inr ((1 : Nat), ((y4.2.1.1, (y4.2.1.2.1, ((), (y2.1.2.2.2.1, ())))), (y4.2.2.1, ()))) : ((((List (UInt8)) × Int × Unit × Int × Unit) × (List (List (UInt8))) × Unit)) ⊕ ((Nat × ((List (UInt8)) × Int × Unit × Int × Unit) × (List (List (UInt8))) × Unit)))))))
  (some (Sum.inr ((0 : Nat), ((y2.1.1, (y2.1.2.1, ((), (y2.1.2.2.2.1, ())))), (y2.2.1, ()))) : ((((List (UInt8)) × Int × Unit × Int × Unit) × (List (List (UInt8))) × Unit)) ⊕ ((Nat × ((List (UInt8)) × Int × Unit × Int × Unit) × (List (List (UInt8))) × Unit))))

noncomputable def P_paths_Clean (x : (List (UInt8)) × Unit) : Option ((List (UInt8)) × Int × Unit) :=
  obind (P_paths_Parts (x.1, ())) (fun (y1 : (List (List (UInt8))) × Unit) => obind (Loop (P_paths_Clean_L0 y1) ((([] : List (UInt8)), ((0 : Int), ((), ((0 : Int), ())))), (([] : List (List (UInt8))), ()))) (fun (y2 : Nat × ((List (UInt8)) × Int × Unit × Int × Unit) × (List (List (UInt8))) × Unit) => sel (eqN y2.1 (0 : Nat))
  (obind (P_strings_Join (y2.2.2.1, (([(47 : UInt8)] : List (UInt8)), ()))) (fun (y3 : (List (UInt8)) × Unit) => obind (P_strings_HasPrefix (x.1, (([(47 : UInt8)] : List (UInt8)), ()))) (fun (y4 : Bool × Unit) => sel (sel (nt (sel (nt y4.1)
  (ltI (8 : Int) (@len (List (UInt8)) y2.2.2.1))
  true))
  (ltI (96 : Int) (@len UInt8 y3.1))
  true)
  (some (([] : List (UInt8)), ((2 : Int), ())))
  (some (y3.1, ((0 : Int), ()))))))
  (some (y2.2.1.1, (y2.2.1.2.1, ())))))

noncomputable def P_slices_Index_string_string_L0 (x : (List (List (UInt8))) × (List (UInt8)) × Unit) (y1 : (Int × Int × Unit) × Unit) : Option (((Int × Int × Unit) × Unit) ⊕ (Nat × (Int × Int × Unit) × Unit)) :=
  sel (ltI y1.1.2.1 (@len (List (UInt8)) x.1))
  (obind (@idx (List (UInt8)) x.1 y1.1.2.1) (fun (y2 : List (UInt8)) => sel (eqS x.2.1 y2)
  (some (Sum.inr ((1 : Nat), ((y1.1.2.1, (y1.1.2.1, ())), ())) : (((Int × Int × Unit) × Unit)) ⊕ ((Nat × (Int × Int × Unit) × Unit))))
  (some (Sum.inl ((y1.1.1, (iadd IntKind.i64 y1.1.2.1 (1 : Int), ())), ()) : (((Int × Int × Unit) × Unit)) ⊕ ((Nat × (Int × Int × Unit) × Unit))))))
  (some (Sum.inr ((0 : Nat), ((y1.1.1, (y1.1.2.1, ())), ())) : (((Int × Int × Unit) × Unit)) ⊕ ((Nat × (Int × Int × Unit) × Unit))))

noncomputable def P_slices_Index_string_string (x : (List (List (UInt8))) × (List (UInt8)) × Unit) : Option (Int × Unit) :=
  obind (Loop (P_slices_Index_string_string_L0 x) (((0 : Int), ((0 : Int), ())), ())) (fun (y1 : Nat × (Int × Int × Unit) × Unit) => sel (eqN y1.1 (0 : Nat))
  (some ((-1 : Int), ()))
  (some (y1.2.1.1, ())))

noncomputable def P_slices_Contains_string_string (x : (List (List (UInt8))) × (List (UInt8)) × Unit) : Option (Bool × Unit) :=
  obind (P_slices_Index_string_string (x.1, (x.2.1, ()))) (fun (y1 : Int × Unit) => some (leI (0 : Int) y1.1, ()))

noncomputable def P_paths_Mark (x : (List (UInt8)) × Unit) : Option (Int × (List (UInt8)) × Unit) :=
  obind (P_strings_CutPrefix (x.1, (([(46 : UInt8), (119 : UInt8), (104 : UInt8), (46 : UInt8)] : List (UInt8)), ()))) (fun (y1 : (List (UInt8)) × Bool × Unit) => sel (nt y1.2.1)
  (some ((0 : Int), (x.1, ())))
  (sel (eqS x.1 ([(46 : UInt8), (119 : UInt8), (104 : UInt8), (46 : UInt8), (46 : UInt8), (119 : UInt8), (104 : UInt8), (46 : UInt8), (46 : UInt8), (111 : UInt8), (112 : UInt8), (113 : UInt8)] : List (UInt8)))
  (some ((2 : Int), (([] : List (UInt8)), ())))
  (obind (P_strings_HasPrefix (y1.1, (([(46 : UInt8), (119 : UInt8), (104 : UInt8), (46 : UInt8)] : List (UInt8)), ()))) (fun (y2 : Bool × Unit) => obind (sel (nt y2.1)
  (obind (P_slices_Contains_string_string (([([] : List (UInt8)), ([(46 : UInt8)] : List (UInt8)), ([(46 : UInt8), (46 : UInt8)] : List (UInt8))] : List (List (UInt8))), (y1.1, ()))) (fun (y3 : Bool × Unit) => some y3.1))
  (some true)) (fun (y3 : Bool) => sel y3
  (some ((3 : Int), (([] : List (UInt8)), ())))
  (some ((1 : Int), (y1.1, ()))))))))

noncomputable def P_internal_bytealg_LastIndexByteString_L0 (x : (List (UInt8)) × Int × Unit) (y1 : (Int × Int × Unit) × Unit) : Option (((Int × Int × Unit) × Unit) ⊕ (Nat × (Int × Int × Unit) × Unit)) :=
  sel (leI (0 : Int) y1.1.2.1)
  (obind (@idx UInt8 x.1 y1.1.2.1) (fun (y2 : UInt8) => sel (eqI (u8 y2) x.2.1)
  (some (Sum.inr ((1 : Nat), ((y1.1.2.1, (y1.1.2.1, ())), ())) : (((Int × Int × Unit) × Unit)) ⊕ ((Nat × (Int × Int × Unit) × Unit))))
  (some (Sum.inl ((y1.1.1, (isub IntKind.i64 y1.1.2.1 (1 : Int), ())), ()) : (((Int × Int × Unit) × Unit)) ⊕ ((Nat × (Int × Int × Unit) × Unit))))))
  (some (Sum.inr ((0 : Nat), ((y1.1.1, (y1.1.2.1, ())), ())) : (((Int × Int × Unit) × Unit)) ⊕ ((Nat × (Int × Int × Unit) × Unit))))

noncomputable def P_internal_bytealg_LastIndexByteString (x : (List (UInt8)) × Int × Unit) : Option (Int × Unit) :=
  obind (Loop (P_internal_bytealg_LastIndexByteString_L0 x) (((0 : Int), (isub IntKind.i64 (@len UInt8 x.1) (1 : Int), ())), ())) (fun (y1 : Nat × (Int × Int × Unit) × Unit) => sel (eqN y1.1 (0 : Nat))
  (some ((-1 : Int), ()))
  (some (y1.2.1.1, ())))

noncomputable def P_internal_bytealg_hashStrRev_string_L0 (x : (List (UInt8)) × Unit) (y1 : (Int × Int × Unit) × Unit) : Option (((Int × Int × Unit) × Unit) ⊕ ((Int × Int × Unit) × Unit)) :=
  @way1 ((Int × Int × Unit) × Unit) (sel (leI (0 : Int) y1.1.2.1)
  (obind (@idx UInt8 x.1 y1.1.2.1) (fun (y2 : UInt8) => some (Sum.inl ((iadd IntKind.u32 (imul IntKind.u32 y1.1.1 (16777619 : Int)) (icv IntKind.u32 (u8 y2)), (isub IntKind.i64 y1.1.2.1 (1 : Int), ())), ()) : (((Int × Int × Unit) × Unit)) ⊕ ((Nat × (Int × Int × Unit) × Unit)))))
  (some (Sum.inr ((0 : Nat), ((y1.1.1, (y1.1.2.1, ())), ())) : (((Int × Int × Unit) × Unit)) ⊕ ((Nat × (Int × Int × Unit) × Unit)))))

noncomputable def P_internal_bytealg_hashStrRev_string_L1 (y2 : (Int × Int × Int × Unit) × Unit) : Option (((Int × Int × Int × Unit) × Unit) ⊕ ((Int × Int × Int × Unit) × Unit)) :=
  @way1 ((Int × Int × Int × Unit) × Unit) (sel (ltI (0 : Int) y2.1.2.2.1)
  (sel (ltI (1 : Int) (0 : Int))
  (none : Option (((Int × Int × Int × Unit) × Unit) ⊕ (Nat × (Int × Int × Int × Unit) × Unit)))
  (some (Sum.inl ((((sel (nt (eqI (iand IntKind.i64 y2.1.2.2.1 (1 : Int)) (0 : Int)))
  ((imul IntKind.u32 y2.1.1 y2.1.2.1, ()), ())
  ((y2.1.1, ()), ())).1).1, (imul IntKind.u32 y2.1.2.1 y2.1.2.1, (ishr IntKind.i64 y2.1.2.2.1 (1 : Int), ()))), ()) : (((Int × Int × Int × Unit) × Unit)) ⊕ ((Nat × (Int × Int × Int × Unit) × Unit)))))
  (some (Sum.inr ((0 : Nat), ((y2.1.1, (y2.1.2.1, (y2.1.2.2.1, ()))), ())) : (((Int × Int × Int × Unit) × Unit)) ⊕ ((Nat × (Int × Int × Int × Unit) × Unit)))))

noncomputable def P_internal_bytealg_hashStrRev_string (x : (List (UInt8)) × Unit) : Option (Int × Int × Unit) :=
  obind (Loop (P_internal_bytealg_hashStrRev_string_L0 x) (((0 : Int), (isub IntKind.i64 (@len UInt8 x.1) (1 : Int), ())), ())) (fun (y1 : (Int × Int × Unit) × Unit) => obind (Loop (P_internal_bytealg_hashStrRev_string_L1) (((1 : Int), ((16777619 : Int), (@len UInt8 x.1, ()))), ())) (fun (y2 : (Int × Int × Int × Unit) × Unit) => some (y1.1.1, (y2.1.1, ()))))

noncomputable def P_internal_bytealg_LastIndexRabinKarp_string_L0 (x : (List (UInt8)) × (List (UInt8)) × Unit) (y2 : (Int × Int × Unit) × Unit) : Option (((Int × Int × Unit) × Unit) ⊕ ((Int × Int × Unit) × Unit)) :=
  @way1 ((Int × Int × Unit) × Unit) (sel (leI (isub IntKind.i64 (@len UInt8 x.1) (@len UInt8 x.2.1)) y2.1.2.1)
  (obind (@idx UInt8 x.1 y2.1.2.1) (fun (y3 : UInt8) => some (Sum.inl ((iadd IntKind.u32 (imul IntKind.u32 y2.1.1 (16777619 : Int)) (icv IntKind.u32 (u8 y3)), (isub IntKind.i64 y2.1.2.1 (1 : Int), ())), ()) : (((Int × Int × Unit) × Unit)) ⊕ ((Nat × (Int × Int × Unit) × Unit)))))
  (some (Sum.inr ((0 : Nat), ((y2.1.1, (y2.1.2.1, ())), ())) : (((Int × Int × Unit) × Unit)) ⊕ ((Nat × (Int × Int × Unit) × Unit)))))

noncomputable def P_internal_bytealg_LastIndexRabinKarp_string_L1 (x : (List (UInt8)) × (List (UInt8)) × Unit) (y1 : Int × Int × Unit) (y4 : (Int × Int × Int × Unit) × Unit) : Option (((Int × Int × Int × Unit) × Unit) ⊕ (Nat × (Int × Int × Int × Unit) × Unit)) :=
  sel (leI (0 : Int) y4.1.2.2.1)
  (obind (@idx UInt8 x.1 y4.1.2.2.1) (fun (y5 : UInt8) => obind (@idx UInt8 x.1 (iadd IntKind.i64 y4.1.2.2.1 (@len UInt8 x.2.1))) (fun (y6 : UInt8) => obind (sel (eqI (isub IntKind.u32 (iadd IntKind.u32 (imul IntKind.u32 y4.1.2.1 (16777619 : Int)) (icv IntKind.u32 (u8 y5))) (imul IntKind.u32 y1.2.1 (icv IntKind.u32 (u8 y6)))) y1.1)
  (sel (inside y4.1.2.2.1 (iadd IntKind.i64 y4.1.2.2.1 (@len UInt8 x.2.1)) (@len UInt8 x.1))
  (some (eqS (@sub UInt8 x.1 y4.1.2.2.1 (minus (iadd IntKind.i64 y4.1.2.2.1 (@len UInt8 x.2.1)) y4.1.2.2.1)) x.2.1))
  (none : Option (Bool)))
  (some false)) (fun (y7 : Bool) => sel y7
  (some (Sum.inr ((1 : Nat), ((y4.1.2.2.1, (isub IntKind.u32 (iadd IntKind.u32 (imul IntKind.u32 y4.1.2.1 (16777619 : Int)) (icv IntKind.u32 (u8 y5))) (imul IntKind.u32 y1.2.1 (icv IntKind.u32 (u8 y6))), (y4.1.2.2.1, ()))), ())) : (((Int × Int × Int × Unit) × Unit)) ⊕ ((Nat × (Int × Int × Int × Unit) × Unit))))
  (some (Sum.inl ((y4.1.1, (isub IntKind.u32 (iadd IntKind.u32 (imul IntKind.u32 y4.1.2.1 (16777619 : Int)) (icv IntKind.u32 (u8 y5))) (imul IntKind.u32 y1.2.1 (icv IntKind.u32 (u8 y6))), (isub IntKind.i64 y4.1.2.2.1 (1 : Int), ()))), ()) : (((Int × Int × Int × Unit) × Unit)) ⊕ ((Nat × (Int × Int × Int × Unit) × Unit))))))))
  (some (Sum.inr ((0 : Nat), ((y4.1.1, (y4.1.2.1, (y4.1.2.2.1, ()))), ())) : (((Int × Int × Int × Unit) × Unit)) ⊕ ((Nat × (Int × Int × Int × Unit) × Unit))))

noncomputable def P_internal_bytealg_LastIndexRabinKarp_string (x : (List (UInt8)) × (List (UInt8)) × Unit) : Option (Int × Unit) :=
  obind (P_internal_bytealg_hashStrRev_string (x.2.1, ())) (fun (y1 : Int × Int × Unit) => obind (Loop (P_internal_bytealg_LastIndexRabinKarp_string_L0 x) (((0 : Int), (isub IntKind.i64 (@len UInt8 x.1) (1 : Int), ())), ())) (fun (y2 : (Int × Int × Unit) × Unit) => obind (sel (eqI y2.1.1 y1.1)
  (sel (inside (isub IntKind.i64 (@len UInt8 x.1) (@len UInt8 x.2.1)) (@len UInt8 x.1) (@len UInt8 x.1))
  (some (eqS (@sub UInt8 x.1 (isub IntKind.i64 (@len UInt8 x.1) (@len UInt8 x.2.1)) (minus (@len UInt8 x.1) (isub IntKind.i64 (@len UInt8 x.1) (@len UInt8 x.2.1)))) x.2.1))
  (none : Option (Bool)))
  (some false)) (fun (y3 : Bool) => sel y3
  (some (isub IntKind.i64 (@len UInt8 x.1) (@len UInt8 x.2.1), ()))
  (obind (Loop (P_internal_bytealg_LastIndexRabinKarp_string_L1 x y1) (((0 : Int), (y2.1.1, (isub IntKind.i64 (isub IntKind.i64 (@len UInt8 x.1) (@len UInt8 x.2.1)) (1 : Int), ()))), ())) (fun (y4 : Nat × (Int × Int × Int × Unit) × Unit) => sel (eqN y4.1 (0 : Nat))
  (some ((-1 : Int), ()))
  (some (y4.2.1.1, ())))))))

noncomputable def P_strings_LastIndex (x : (List (UInt8)) × (List (UInt8)) × Unit) : Option (Int × Unit) :=
  sel (eqI (@len UInt8 x.2.1) (0 : Int))
  (some (@len UInt8 x.1, ()))
  (sel (eqI (@len UInt8 x.2.1) (1 : Int))
  (obind (@idx UInt8 x.2.1 (0 : Int)) (fun (y1 : UInt8) => obind (P_internal_bytealg_LastIndexByteString (x.1, (u8 y1, ()))) (fun (y2 : Int × Unit) => some (y2.1, ()))))
  (sel (eqI (@len UInt8 x.2.1) (@len UInt8 x.1))
  (sel (eqS x.2.1 x.1)
  (some ((0 : Int), ()))
  (some ((-1 : Int), ())))
  (sel (ltI (@len UInt8 x.1) (@len UInt8 x.2.1))
  (some ((-1 : Int), ()))
  (obind (P_internal_bytealg_LastIndexRabinKarp_string (x.1, (x.2.1, ()))) (fun (y1 : Int × Unit) => some (y1.1, ()))))))

noncomputable def P_paths_Split (x : (List (UInt8)) × Unit) : Option ((List (UInt8)) × (List (UInt8)) × Unit) :=
  obind (P_strings_LastIndex (x.1, (([(47 : UInt8)] : List (UInt8)), ()))) (fun (y1 : Int × Unit) => sel (ltI y1.1 (0 : Int))
  (some (([] : List (UInt8)), (x.1, ())))
  (sel (inside (0 : Int) y1.1 (@len UInt8 x.1))
  (sel (inside (iadd IntKind.i64 y1.1 (1 : Int)) (@len UInt8 x.1) (@len UInt8 x.1))
  (some (@sub UInt8 x.1 (0 : Int) (minus y1.1 (0 : Int)), (@sub UInt8 x.1 (iadd IntKind.i64 y1.1 (1 : Int)) (minus (@len UInt8 x.1) (iadd IntKind.i64 y1.1 (1 : Int))), ())))
  (none : Option ((List (UInt8)) × (List (UInt8)) × Unit)))
  (none : Option ((List (UInt8)) × (List (UInt8)) × Unit))))

noncomputable def P_slices_Equal_string_string_L0 (x : (List (List (UInt8))) × (List (List (UInt8))) × Unit) (y1 : (Bool × Int × Unit) × Unit) : Option (((Bool × Int × Unit) × Unit) ⊕ (Nat × (Bool × Int × Unit) × Unit)) :=
  sel (ltI y1.1.2.1 (@len (List (UInt8)) x.1))
  (obind (@idx (List (UInt8)) x.1 y1.1.2.1) (fun (y2 : List (UInt8)) => obind (@idx (List (UInt8)) x.2.1 y1.1.2.1) (fun (y3 : List (UInt8)) => sel (nt (eqS y2 y3))
  (some (Sum.inr ((1 : Nat), ((false, (y1.1.2.1, ())), ())) : (((Bool × Int × Unit) × Unit)) ⊕ ((Nat × (Bool × Int × Unit) × Unit))))
  (some (Sum.inl ((y1.1.1, (iadd IntKind.i64 y1.1.2.1 (1 : Int), ())), ()) : (((Bool × Int × Unit) × Unit)) ⊕ ((Nat × (Bool × Int × Unit) × Unit)))))))
  (some (Sum.inr ((0 : Nat), ((y1.1.1, (y1.1.2.1, ())), ())) : (((Bool × Int × Unit) × Unit)) ⊕ ((Nat × (Bool × Int × Unit) × Unit))))

noncomputable def P_slices_Equal_string_string (x : (List (List (UInt8))) × (List (List (UInt8))) × Unit) : Option (Bool × Unit) :=
  sel (nt (eqI (@len (List (UInt8)) x.1) (@len (List (UInt8)) x.2.1)))
  (some (false, ()))
  (obind (Loop (P_slices_Equal_string_string_L0 x) ((false, ((0 : Int), ())), ())) (fun (y1 : Nat × (Bool × Int × Unit) × Unit) => sel (eqN y1.1 (0 : Nat))
  (some (true, ()))
  (some (y1.2.1.1, ()))))

noncomputable def P_paths_Under (x : (List (UInt8)) × (List (UInt8)) × Unit) : Option (Bool × Unit) :=
  obind (P_paths_Parts (x.1, ())) (fun (y1 : (List (List (UInt8))) × Unit) => obind (P_paths_Parts (x.2.1, ())) (fun (y2 : (List (List (UInt8))) × Unit) => obind (sel (ltI (@len (List (UInt8)) y2.1) (@len (List (UInt8)) y1.1))
  (sel (inside (0 : Int) (@len (List (UInt8)) y2.1) (@len (List (UInt8)) y1.1))
  (obind (P_slices_Equal_string_string (@sub (List (UInt8)) y1.1 (0 : Int) (minus (@len (List (UInt8)) y2.1) (0 : Int)), (y2.1, ()))) (fun (y3 : Bool × Unit) => some y3.1))
  (none : Option (Bool)))
  (some false)) (fun (y3 : Bool) => some (y3, ()))))

noncomputable def P_cmp_isNaN_string (x : (List (UInt8)) × Unit) : Option (Bool × Unit) :=
  some (nt (eqS x.1 x.1), ())

noncomputable def P_cmp_Compare_string (x : (List (UInt8)) × (List (UInt8)) × Unit) : Option (Int × Unit) :=
  obind (P_cmp_isNaN_string (x.1, ())) (fun (y1 : Bool × Unit) => obind (P_cmp_isNaN_string (x.2.1, ())) (fun (y2 : Bool × Unit) => sel y1.1
  (sel y2.1
  (some ((0 : Int), ()))
  (some ((-1 : Int), ())))
  (sel y2.1
  (some ((1 : Int), ()))
  (sel (ltS x.1 x.2.1)
  (some ((-1 : Int), ()))
  (sel (nt (oor (ltS x.1 x.2.1) (eqS x.1 x.2.1)))
  (some ((1 : Int), ()))
  (some ((0 : Int), ())))))))

noncomputable def P_paths_Compare_L0 (y1 : (List (List (UInt8))) × Unit) (y2 : (List (List (UInt8))) × Unit) (y3 : (Int × Int × Unit) × Unit) : Option (((Int × Int × Unit) × Unit) ⊕ (Nat × (Int × Int × Unit) × Unit)) :=
  sel (ltI y3.1.2.1 (@len (List (UInt8)) y1.1))
  (obind (@idx (List (UInt8)) y1.1 y3.1.2.1) (fun (y4 : List (UInt8)) => sel (leI (@len (List (UInt8)) y2.1) y3.1.2.1)
  (some (Sum.inr ((1 : Nat), (((1 : Int), (y3.1.2.1, ())), ())) : (((Int × Int × Unit) × Unit)) ⊕ ((Nat × (Int × Int × Unit) × Unit))))
  (obind (@idx (List (UInt8)) y2.1 y3.1.2.1) (fun (y5 : List (UInt8)) => obind (P_cmp_Compare_string (y4, (y5, ()))) (fun (y6 : Int × Unit) => sel (nt (eqI y6.1 (0 : Int)))
  (some (Sum.inr ((1 : Nat), ((y6.1, (y3.1.2.1, ())), ())) : (((Int × Int × Unit) × Unit)) ⊕ ((Nat × (Int × Int × Unit) × Unit))))
  (some (Sum.inl ((y3.1.1, (iadd IntKind.i64 y3.1.2.1 (1 : Int), ())), ()) : (((Int × Int × Unit) × Unit)) ⊕ ((Nat × (Int × Int × Unit) × Unit)))))))))
  (some (Sum.inr ((0 : Nat), ((y3.1.1, (y3.1.2.1, ())), ())) : (((Int × Int × Unit) × Unit)) ⊕ ((Nat × (Int × Int × Unit) × Unit))))

noncomputable def P_paths_Compare (x : (List (UInt8)) × (List (UInt8)) × Unit) : Option (Int × Unit) :=
  obind (P_paths_Parts (x.1, ())) (fun (y1 : (List (List (UInt8))) × Unit) => obind (P_paths_Parts (x.2.1, ())) (fun (y2 : (List (List (UInt8))) × Unit) => obind (Loop (P_paths_Compare_L0 y1 y2) (((0 : Int), ((0 : Int), ())), ())) (fun (y3 : Nat × (Int × Int × Unit) × Unit) => sel (eqN y3.1 (0 : Nat))
  (sel (ltI (@len (List (UInt8)) y1.1) (@len (List (UInt8)) y2.1))
  (some ((-1 : Int), ()))
  (some ((0 : Int), ())))
  (some (y3.2.1.1, ())))))

noncomputable def P_ref07_Parts_L0 (x : (List (UInt8)) × Unit) (y1 : (Unit × (List (UInt8)) × Int × Unit) × (List (List (UInt8))) × Unit) : Option (((Unit × (List (UInt8)) × Int × Unit) × (List (List (UInt8))) × Unit) ⊕ ((Unit × (List (UInt8)) × Int × Unit) × (List (List (UInt8))) × Unit)) :=
  @way1 ((Unit × (List (UInt8)) × Int × Unit) × (List (List (UInt8))) × Unit) (sel (ltI y1.1.2.2.1 (@len UInt8 x.1))
  (obind (@idx UInt8 x.1 y1.1.2.2.1) (fun (y2 : UInt8) => obind (sel (eqI (u8 y2) (47 : Int))
  (sel (fits (plus (@len (List (UInt8)) y1.2.1) (@len (List (UInt8)) ([y1.1.2.1] : List (List (UInt8))))))
  (some (((), (([] : List (UInt8)), ())), (@app (List (UInt8)) y1.2.1 ([y1.1.2.1] : List (List (UInt8))), ())))
  (none : Option ((Unit × (List (UInt8)) × Unit) × (List (List (UInt8))) × Unit)))
  (sel (inside y1.1.2.2.1 (iadd IntKind.i64 y1.1.2.2.1 (1 : Int)) (@len UInt8 x.1))
  (sel (fits (plus (@len UInt8 y1.1.2.1) (@len UInt8 (@sub UInt8 x.1 y1.1.2.2.1 (minus (iadd IntKind.i64 y1.1.2.2.1 (1 : Int)) y1.1.2.2.1)))))
  (some (((), (@app UInt8 y1.1.2.1 (@sub UInt8 x.1 y1.1.2.2.1 (minus (iadd IntKind.i64 y1.1.2.2.1 (1 : Int)) y1.1.2.2.1)), ())), (y1.2.1, ())))
  (none : Option ((Unit × (List (UInt8)) × Unit) × (List (List (UInt8))) × Unit)))
  (none : Option ((Unit × (List (UInt8)) × Unit) × (List (List (UInt8))) × Unit)))) (fun (y3 : (Unit × (List (UInt8)) × Unit) × (List (List (UInt8))) × Unit) => some (Sum.inl (((), (y3.1.2.1, (iadd IntKind.i64 y1.1.2.2.1 (1 : Int), ()))), (y3.2.1, ())) : (((Unit × (List (UInt8)) × Int × Unit) × (List (List (UInt8))) × Unit)) ⊕ ((Nat × (Unit × (List (UInt8)) × Int × Unit) × (List (List (UInt8))) × Unit))))))
  (some (Sum.inr ((0 : Nat), (((), (y1.1.2.1, (y1.1.2.2.1, ()))), (y1.2.1, ()))) : (((Unit × (List (UInt8)) × Int × Unit) × (List (List (UInt8))) × Unit)) ⊕ ((Nat × (Unit × (List (UInt8)) × Int × Unit) × (List (List (UInt8))) × Unit)))))

noncomputable def P_ref07_Parts (x : (List (UInt8)) × Unit) : Option ((List (List (UInt8))) × Unit) :=
  sel (eqS x.1 ([] : List (UInt8)))
  (some (([] : List (List (UInt8))), ()))
  (obind (Loop (P_ref07_Parts_L0 x) (((), (([] : List (UInt8)), ((0 : Int), ()))), (([] : List (List (UInt8))), ()))) (fun (y1 : (Unit × (List (UInt8)) × Int × Unit) × (List (List (UInt8))) × Unit) => sel (fits (plus (@len (List (UInt8)) y1.2.1) (@len (List (UInt8)) ([y1.1.2.1] : List (List (UInt8))))))
  (some (@app (List (UInt8)) y1.2.1 ([y1.1.2.1] : List (List (UInt8))), ()))
  (none : Option ((List (List (UInt8))) × Unit))))

noncomputable def P_ref06_SameTexts_L0 (x : (List (List (UInt8))) × (List (List (UInt8))) × Unit) (y1 : (Bool × Int × Unit) × Unit) : Option (((Bool × Int × Unit) × Unit) ⊕ (Nat × (Bool × Int × Unit) × Unit)) :=
  sel (sel (ltI y1.1.2.1 (@len (List (UInt8)) x.1))
  (ltI y1.1.2.1 (@len (List (UInt8)) x.2.1))
  false)
  (obind (@idx (List (UInt8)) x.1 y1.1.2.1) (fun (y2 : List (UInt8)) => obind (@idx (List (UInt8)) x.2.1 y1.1.2.1) (fun (y3 : List (UInt8)) => sel (nt (eqS y2 y3))
  (some (Sum.inr ((1 : Nat), ((false, (y1.1.2.1, ())), ())) : (((Bool × Int × Unit) × Unit)) ⊕ ((Nat × (Bool × Int × Unit) × Unit))))
  (some (Sum.inl ((y1.1.1, (iadd IntKind.i64 y1.1.2.1 (1 : Int), ())), ()) : (((Bool × Int × Unit) × Unit)) ⊕ ((Nat × (Bool × Int × Unit) × Unit)))))))
  (some (Sum.inr ((0 : Nat), ((y1.1.1, (y1.1.2.1, ())), ())) : (((Bool × Int × Unit) × Unit)) ⊕ ((Nat × (Bool × Int × Unit) × Unit))))

noncomputable def P_ref06_SameTexts (x : (List (List (UInt8))) × (List (List (UInt8))) × Unit) : Option (Bool × Unit) :=
  sel (nt (eqI (@len (List (UInt8)) x.1) (@len (List (UInt8)) x.2.1)))
  (some (false, ()))
  (obind (Loop (P_ref06_SameTexts_L0 x) ((false, ((0 : Int), ())), ())) (fun (y1 : Nat × (Bool × Int × Unit) × Unit) => sel (eqN y1.1 (0 : Nat))
  (some (true, ()))
  (some (y1.2.1.1, ()))))

noncomputable def P_ref07_Under_L0 (y1 : (List (List (UInt8))) × Unit) (y2 : (List (List (UInt8))) × Unit) (y3 : (Bool × Int × Unit) × Unit) : Option (((Bool × Int × Unit) × Unit) ⊕ (Nat × (Bool × Int × Unit) × Unit)) :=
  sel (sel (ltI y3.1.2.1 (@len (List (UInt8)) y2.1))
  (ltI y3.1.2.1 (@len (List (UInt8)) y1.1))
  false)
  (obind (@idx (List (UInt8)) y1.1 y3.1.2.1) (fun (y4 : List (UInt8)) => obind (@idx (List (UInt8)) y2.1 y3.1.2.1) (fun (y5 : List (UInt8)) => sel (nt (eqS y4 y5))
  (some (Sum.inr ((1 : Nat), ((false, (y3.1.2.1, ())), ())) : (((Bool × Int × Unit) × Unit)) ⊕ ((Nat × (Bool × Int × Unit) × Unit))))
  (some (Sum.inl ((y3.1.1, (iadd IntKind.i64 y3.1.2.1 (1 : Int), ())), ()) : (((Bool × Int × Unit) × Unit)) ⊕ ((Nat × (Bool × Int × Unit) × Unit)))))))
  (some (Sum.inr ((0 : Nat), ((y3.1.1, (y3.1.2.1, ())), ())) : (((Bool × Int × Unit) × Unit)) ⊕ ((Nat × (Bool × Int × Unit) × Unit))))

noncomputable def P_ref07_Under (x : (List (UInt8)) × (List (UInt8)) × Unit) : Option (Bool × Unit) :=
  obind (P_ref07_Parts (x.1, ())) (fun (y1 : (List (List (UInt8))) × Unit) => obind (P_ref07_Parts (x.2.1, ())) (fun (y2 : (List (List (UInt8))) × Unit) => sel (leI (@len (List (UInt8)) y1.1) (@len (List (UInt8)) y2.1))
  (some (false, ()))
  (obind (Loop (P_ref07_Under_L0 y1 y2) ((false, ((0 : Int), ())), ())) (fun (y3 : Nat × (Bool × Int × Unit) × Unit) => sel (eqN y3.1 (0 : Nat))
  (some (true, ()))
  (some (y3.2.1.1, ()))))))

end Go.Ge
