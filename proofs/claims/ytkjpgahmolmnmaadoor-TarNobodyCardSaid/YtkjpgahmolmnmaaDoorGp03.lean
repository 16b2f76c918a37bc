/- What the functions of layer 03 compute, as plain programs (written by a program from what the ghost interpreter comes to). -/
import Derived.Test.YtkjpgahmolmnmaaDoorGpA
import Derived.Test.YtkjpgahmolmnmaaDoorGp02
namespace Go.Ge
set_option linter.unusedVariables false
set_option maxRecDepth 100000

noncomputable def P_digits_Hex_L0 (x : (List (UInt8)) × Unit) (y1 : (Int × Unit) × (Unit × Unit × Unit) × (List (Int)) × Unit) : Option (((Int × Unit) × (Unit × Unit × Unit) × (List (Int)) × Unit) ⊕ ((Int × Unit) × (Unit × Unit × Unit) × (List (Int)) × Unit)) :=
  @way1 ((Int × Unit) × (Unit × Unit × Unit) × (List (Int)) × Unit) (sel (ltI y1.1.1 (@len Int (bytesInts x.1)))
  (sel (within y1.1.1 (@len Int (bytesInts x.1)))
  (obind (@idx Int (bytesInts x.1) y1.1.1) (fun (y2 : Int) => sel (ltI (4 : Int) (0 : Int))
  (none : Option (((Int × Unit) × (Unit × Unit × Unit) × (List (Int)) × Unit) ⊕ (Nat × (Int × Unit) × (Unit × Unit × Unit) × (List (Int)) × Unit)))
  (obind (@idx UInt8 ([(48 : UInt8), (49 : UInt8), (50 : UInt8), (51 : UInt8), (52 : UInt8), (53 : UInt8), (54 : UInt8), (55 : UInt8), (56 : UInt8), (57 : UInt8), (97 : UInt8), (98 : UInt8), (99 : UInt8), (100 : UInt8), (101 : UInt8), (102 : UInt8)] : List (UInt8)) (ishr IntKind.u8 y2 (4 : Int))) (fun (y3 : UInt8) => sel (fits (plus (@len Int y1.2.2.1) (@len Int ([u8 y3] : List (Int)))))
  (obind (@idx UInt8 ([(48 : UInt8), (49 : UInt8), (50 : UInt8), (51 : UInt8), (52 : UInt8), (53 : UInt8), (54 : UInt8), (55 : UInt8), (56 : UInt8), (57 : UInt8), (97 : UInt8), (98 : UInt8), (99 : UInt8), (100 : UInt8), (101 : UInt8), (102 : UInt8)] : List (UInt8)) (iand IntKind.u8 y2 (15 : Int))) (fun (y4 : UInt8) => sel (fits (plus (@len Int (@app Int y1.2.2.1 ([u8 y3] : List (Int)))) (@len Int ([u8 y4] : List (Int)))))
  (some (Sum.inl ((iadd IntKind.i64 y1.1.1 (1 : Int), ()), (((), ((), y1.2.1.2.2)), (@app Int (@app Int y1.2.2.1 ([u8 y3] : List (Int))) ([u8 y4] : List (Int)), ()))) : (((Int × Unit) × (Unit × Unit × Unit) × (List (Int)) × Unit)) ⊕ ((Nat × (Int × Unit) × (Unit × Unit × Unit) × (List (Int)) × Unit))))
  (none : Option (((Int × Unit) × (Unit × Unit × Unit) × (List (Int)) × Unit) ⊕ (Nat × (Int × Unit) × (Unit × Unit × Unit) × (List (Int)) × Unit)))))
  (none : Option (((Int × Unit) × (Unit × Unit × Unit) × (List (Int)) × Unit) ⊕ (Nat × (Int × Unit) × (Unit × Unit × Unit) × (List (Int)) × Unit)))))))
  (none : Option (((Int × Unit) × (Unit × Unit × Unit) × (List (Int)) × Unit) ⊕ (Nat × (Int × Unit) × (Unit × Unit × Unit) × (List (Int)) × Unit))))
  (some (Sum.inr ((0 : Nat), ((y1.1.1, ()), (((), ((), y1.2.1.2.2)), (y1.2.2.1, ())))) : (((Int × Unit) × (Unit × Unit × Unit) × (List (Int)) × Unit)) ⊕ ((Nat × (Int × Unit) × (Unit × Unit × Unit) × (List (Int)) × Unit)))))

noncomputable def P_digits_Hex (x : (List (UInt8)) × Unit) : Option ((List (UInt8)) × Unit) :=
  sel (fits (@len UInt8 x.1))
  (obind (Loop (P_digits_Hex_L0 x) (((0 : Int), ()), (((), ((), ())), (([] : List (Int)), ())))) (fun (y1 : (Int × Unit) × (Unit × Unit × Unit) × (List (Int)) × Unit) => some (intsBytes y1.2.2.1, ())))
  (none : Option ((List (UInt8)) × Unit))

noncomputable def P_digest_Of (x : (List (UInt8)) × Unit) : Option ((List (UInt8)) × Unit) :=
  obind (P_sha_Sum (x.1, ())) (fun (y1 : (List (Int)) × Unit) => sel (inside (0 : Int) (32 : Int) (32 : Int))
  (obind (P_digits_Hex (intsBytes (@sub Int y1.1 (0 : Int) (minus (32 : Int) (0 : Int))), ())) (fun (y2 : (List (UInt8)) × Unit) => sel (fits (plus (@len UInt8 ([(115 : UInt8), (104 : UInt8), (97 : UInt8), (50 : UInt8), (53 : UInt8), (54 : UInt8), (58 : UInt8)] : List (UInt8))) (@len UInt8 y2.1)))
  (some (@app UInt8 ([(115 : UInt8), (104 : UInt8), (97 : UInt8), (50 : UInt8), (53 : UInt8), (54 : UInt8), (58 : UInt8)] : List (UInt8)) y2.1, ()))
  (none : Option ((List (UInt8)) × Unit))))
  (none : Option ((List (UInt8)) × Unit)))

noncomputable def P_internal_stringslite_HasPrefix (x : (List (UInt8)) × (List (UInt8)) × Unit) : Option (Bool × Unit) :=
  obind (sel (leI (@len UInt8 x.2.1) (@len UInt8 x.1))
  (sel (inside (0 : Int) (@len UInt8 x.2.1) (@len UInt8 x.1))
  (some (eqS (@sub UInt8 x.1 (0 : Int) (minus (@len UInt8 x.2.1) (0 : Int))) x.2.1))
  (none : Option (Bool)))
  (some false)) (fun (y1 : Bool) => some (y1, ()))

noncomputable def P_internal_stringslite_CutPrefix (x : (List (UInt8)) × (List (UInt8)) × Unit) : Option ((List (UInt8)) × Bool × Unit) :=
  obind (P_internal_stringslite_HasPrefix (x.1, (x.2.1, ()))) (fun (y1 : Bool × Unit) => sel (nt y1.1)
  (some (x.1, (false, ())))
  (sel (inside (@len UInt8 x.2.1) (@len UInt8 x.1) (@len UInt8 x.1))
  (some (@sub UInt8 x.1 (@len UInt8 x.2.1) (minus (@len UInt8 x.1) (@len UInt8 x.2.1)), (true, ())))
  (none : Option ((List (UInt8)) × Bool × Unit))))

noncomputable def P_strings_CutPrefix (x : (List (UInt8)) × (List (UInt8)) × Unit) : Option ((List (UInt8)) × Bool × Unit) :=
  obind (P_internal_stringslite_CutPrefix (x.1, (x.2.1, ()))) (fun (y1 : (List (UInt8)) × Bool × Unit) => some (y1.1, (y1.2.1, ())))

noncomputable def P_strings_IndexByte (x : (List (UInt8)) × Int × Unit) : Option (Int × Unit) :=
  obind (P_internal_stringslite_IndexByte (x.1, (x.2.1, ()))) (fun (y1 : Int × Unit) => some (y1.1, ()))

noncomputable def P_digits_Unhex_L0 (y1 : ((List (UInt8)) × (List (UInt8)) × Bool × Unit × Unit) × (List (Int)) × Unit) : Option ((((List (UInt8)) × (List (UInt8)) × Bool × Unit × Unit) × (List (Int)) × Unit) ⊕ (Nat × ((List (UInt8)) × (List (UInt8)) × Bool × Unit × Unit) × (List (Int)) × Unit)) :=
  sel (nt (eqS y1.1.1 ([] : List (UInt8))))
  (obind (@idx UInt8 y1.1.1 (0 : Int)) (fun (y2 : UInt8) => obind (P_strings_IndexByte (([(48 : UInt8), (49 : UInt8), (50 : UInt8), (51 : UInt8), (52 : UInt8), (53 : UInt8), (54 : UInt8), (55 : UInt8), (56 : UInt8), (57 : UInt8), (97 : UInt8), (98 : UInt8), (99 : UInt8), (100 : UInt8), (101 : UInt8), (102 : UInt8)] : List (UInt8)), (u8 y2, ()))) (fun (y3 : Int × Unit) => obind (@idx UInt8 y1.1.1 (1 : Int)) (fun (y4 : UInt8) => obind (P_strings_IndexByte (([(48 : UInt8), (49 : UInt8), (50 : UInt8), (51 : UInt8), (52 : UInt8), (53 : UInt8), (54 : UInt8), (55 : UInt8), (56 : UInt8), (57 : UInt8), (97 : UInt8), (98 : UInt8), (99 : UInt8), (100 : UInt8), (101 : UInt8), (102 : UInt8)] : List (UInt8)), (u8 y4, ()))) (fun (y5 : Int × Unit) => sel (sel (nt (ltI y3.1 (0 : Int)))
  (ltI y5.1 (0 : Int))
  true)
  (some (Sum.inr ((1 : Nat), ((y1.1.1, (([] : List (UInt8)), (false, ((), ())))), (y1.2.1, ()))) : ((((List (UInt8)) × (List (UInt8)) × Bool × Unit × Unit) × (List (Int)) × Unit)) ⊕ ((Nat × ((List (UInt8)) × (List (UInt8)) × Bool × Unit × Unit) × (List (Int)) × Unit))))
  (sel (ltI (4 : Int) (0 : Int))
  (none : Option ((((List (UInt8)) × (List (UInt8)) × Bool × Unit × Unit) × (List (Int)) × Unit) ⊕ (Nat × ((List (UInt8)) × (List (UInt8)) × Bool × Unit × Unit) × (List (Int)) × Unit)))
  (sel (fits (plus (@len Int y1.2.1) (@len Int ([icv IntKind.u8 (ior IntKind.i64 (ishl IntKind.i64 y3.1 (4 : Int)) y5.1)] : List (Int)))))
  (sel (inside (2 : Int) (@len UInt8 y1.1.1) (@len UInt8 y1.1.1))
  (some (Sum.inl ((@sub UInt8 y1.1.1 (2 : Int) (minus (@len UInt8 y1.1.1) (2 : Int)), (y1.1.2.1, (y1.1.2.2.1, ((), ())))), (@app Int y1.2.1 ([icv IntKind.u8 (ior IntKind.i64 (ishl IntKind.i64 y3.1 (4 : Int)) y5.1)] : List (Int)), ())) : ((((List (UInt8)) × (List (UInt8)) × Bool × Unit × Unit) × (List (Int)) × Unit)) ⊕ ((Nat × ((List (UInt8)) × (List (UInt8)) × Bool × Unit × Unit) × (List (Int)) × Unit))))
  (none : Option ((((List (UInt8)) × (List (UInt8)) × Bool × Unit × Unit) × (List (Int)) × Unit) ⊕ (Nat × ((List (UInt8)) × (List (UInt8)) × Bool × Unit × Unit) × (List (Int)) × Unit))))
  (none : Option ((((List (UInt8)) × (List (UInt8)) × Bool × Unit × Unit) × (List (Int)) × Unit) ⊕ (Nat × ((List (UInt8)) × (List (UInt8)) × Bool × Unit × Unit) × (List (Int)) × Unit))))))))))
  (some (Sum.inr ((0 : Nat), ((y1.1.1, (y1.1.2.1, (y1.1.2.2.1, ((), ())))), (y1.2.1, ()))) : ((((List (UInt8)) × (List (UInt8)) × Bool × Unit × Unit) × (List (Int)) × Unit)) ⊕ ((Nat × ((List (UInt8)) × (List (UInt8)) × Bool × Unit × Unit) × (List (Int)) × Unit))))

noncomputable def P_digits_Unhex (x : (List (UInt8)) × Unit) : Option ((List (UInt8)) × Bool × Unit) :=
  sel (eqI (2 : Int) (0 : Int))
  (none : Option ((List (UInt8)) × Bool × Unit))
  (sel (nt (eqI (irem (@len UInt8 x.1) (2 : Int)) (0 : Int)))
  (some (([] : List (UInt8)), (false, ())))
  (obind (Loop (P_digits_Unhex_L0) ((x.1, (([] : List (UInt8)), (false, ((), ())))), (([] : List (Int)), ()))) (fun (y1 : Nat × ((List (UInt8)) × (List (UInt8)) × Bool × Unit × Unit) × (List (Int)) × Unit) => sel (eqN y1.1 (0 : Nat))
  (some (intsBytes y1.2.2.1, (true, ())))
  (some (y1.2.1.2.1, (y1.2.1.2.2.1, ()))))))

noncomputable def P_digest_Check (x : (List (UInt8)) × Unit) : Option (Int × Unit) :=
  obind (P_strings_CutPrefix (x.1, (([(115 : UInt8), (104 : UInt8), (97 : UInt8), (50 : UInt8), (53 : UInt8), (54 : UInt8), (58 : UInt8)] : List (UInt8)), ()))) (fun (y1 : (List (UInt8)) × Bool × Unit) => obind (P_digits_Unhex (y1.1, ())) (fun (y2 : (List (UInt8)) × Bool × Unit) => sel (sel (nt (sel (nt (nt y1.2.1))
  (nt y2.2.1)
  true))
  (nt (eqI (@len UInt8 y1.1) (64 : Int)))
  true)
  (some ((2 : Int), ()))
  (some ((0 : Int), ()))))

noncomputable def P_digest_Is (x : (List (UInt8)) × (List (UInt8)) × Unit) : Option (Bool × Unit) :=
  obind (P_digest_Of (x.2.1, ())) (fun (y1 : (List (UInt8)) × Unit) => some (eqS x.1 y1.1, ()))

noncomputable def P_law03_awake (x : Unit) : Option (Bool × Unit) :=
  obind (P_digest_Of (([(97 : UInt8), (98 : UInt8), (99 : UInt8)] : List (UInt8)), ())) (fun (y1 : (List (UInt8)) × Unit) => obind (sel (eqI (@len UInt8 y1.1) (71 : Int))
  (sel (inside (0 : Int) (15 : Int) (@len UInt8 y1.1))
  (some (eqS (@sub UInt8 y1.1 (0 : Int) (minus (15 : Int) (0 : Int))) ([(115 : UInt8), (104 : UInt8), (97 : UInt8), (50 : UInt8), (53 : UInt8), (54 : UInt8), (58 : UInt8), (98 : UInt8), (97 : UInt8), (55 : UInt8), (56 : UInt8), (49 : UInt8), (54 : UInt8), (98 : UInt8), (102 : UInt8)] : List (UInt8))))
  (none : Option (Bool)))
  (some false)) (fun (y2 : Bool) => obind (sel y2
  (obind (P_digest_Check (y1.1, ())) (fun (y3 : Int × Unit) => some (eqI y3.1 (0 : Int))))
  (some false)) (fun (y3 : Bool) => obind (sel y3
  (sel (inside (1 : Int) (@len UInt8 y1.1) (@len UInt8 y1.1))
  (obind (P_digest_Check (@sub UInt8 y1.1 (1 : Int) (minus (@len UInt8 y1.1) (1 : Int)), ())) (fun (y4 : Int × Unit) => some (eqI y4.1 (2 : Int))))
  (none : Option (Bool)))
  (some false)) (fun (y4 : Bool) => obind (sel y4
  (obind (P_digest_Is (y1.1, (([(97 : UInt8), (98 : UInt8), (99 : UInt8)] : List (UInt8)), ()))) (fun (y5 : Bool × Unit) => some y5.1))
  (some false)) (fun (y5 : Bool) => obind (sel y5
  (obind (P_digest_Is (y1.1, (([(97 : UInt8), (98 : UInt8), (100 : UInt8)] : List (UInt8)), ()))) (fun (y6 : Bool × Unit) => some (nt y6.1)))
  (some false)) (fun (y6 : Bool) => some (y6, ())))))))

noncomputable def P_ref01_digit (x : Int × Unit) : Option (Int × Unit) :=
  sel (ltI x.1 (10 : Int))
  (some (icv IntKind.u8 (iadd IntKind.i64 (48 : Int) x.1), ()))
  (some (icv IntKind.u8 (isub IntKind.i64 (iadd IntKind.i64 (97 : Int) x.1) (10 : Int)), ()))

noncomputable def P_ref01_Hex_L0 (x : (List (UInt8)) × Unit) (y1 : (Unit × Int × Unit) × (List (Int)) × Unit) : Option (((Unit × Int × Unit) × (List (Int)) × Unit) ⊕ ((Unit × Int × Unit) × (List (Int)) × Unit)) :=
  @way1 ((Unit × Int × Unit) × (List (Int)) × Unit) (sel (ltI y1.1.2.1 (@len UInt8 x.1))
  (obind (@idx UInt8 x.1 y1.1.2.1) (fun (y2 : UInt8) => sel (eqI (16 : Int) (0 : Int))
  (none : Option (((Unit × Int × Unit) × (List (Int)) × Unit) ⊕ (Nat × (Unit × Int × Unit) × (List (Int)) × Unit)))
  (obind (P_ref01_digit (iquo IntKind.i64 (icv IntKind.i64 (u8 y2)) (16 : Int), ())) (fun (y3 : Int × Unit) => sel (fits (plus (@len Int y1.2.1) (@len Int ([y3.1] : List (Int)))))
  (obind (@idx UInt8 x.1 y1.1.2.1) (fun (y4 : UInt8) => sel (eqI (16 : Int) (0 : Int))
  (none : Option (((Unit × Int × Unit) × (List (Int)) × Unit) ⊕ (Nat × (Unit × Int × Unit) × (List (Int)) × Unit)))
  (obind (P_ref01_digit (irem (icv IntKind.i64 (u8 y4)) (16 : Int), ())) (fun (y5 : Int × Unit) => sel (fits (plus (@len Int (@app Int y1.2.1 ([y3.1] : List (Int)))) (@len Int ([y5.1] : List (Int)))))
  (some (Sum.inl (((), (iadd IntKind.i64 y1.1.2.1 (1 : Int), ())), (@app Int (@app Int y1.2.1 ([y3.1] : List (Int))) ([y5.1] : List (Int)), ())) : (((Unit × Int × Unit) × (List (Int)) × Unit)) ⊕ ((Nat × (Unit × Int × Unit) × (List (Int)) × Unit))))
  (none : Option (((Unit × Int × Unit) × (List (Int)) × Unit) ⊕ (Nat × (Unit × Int × Unit) × (List (Int)) × Unit)))))))
  (none : Option (((Unit × Int × Unit) × (List (Int)) × Unit) ⊕ (Nat × (Unit × Int × Unit) × (List (Int)) × Unit)))))))
  (some (Sum.inr ((0 : Nat), (((), (y1.1.2.1, ())), (y1.2.1, ()))) : (((Unit × Int × Unit) × (List (Int)) × Unit)) ⊕ ((Nat × (Unit × Int × Unit) × (List (Int)) × Unit)))))

noncomputable def P_ref01_Hex (x : (List (UInt8)) × Unit) : Option ((List (UInt8)) × Unit) :=
  obind (Loop (P_ref01_Hex_L0 x) (((), ((0 : Int), ())), (([] : List (Int)), ()))) (fun (y1 : (Unit × Int × Unit) × (List (Int)) × Unit) => some (intsBytes y1.2.1, ()))

noncomputable def P_ref03_Of (x : (List (UInt8)) × Unit) : Option ((List (UInt8)) × Unit) :=
  obind (P_ref02_Sum (x.1, ())) (fun (y1 : (List (Int)) × Unit) => sel (inside (0 : Int) (32 : Int) (32 : Int))
  (obind (P_ref01_Hex (intsBytes (@sub Int y1.1 (0 : Int) (minus (32 : Int) (0 : Int))), ())) (fun (y2 : (List (UInt8)) × Unit) => sel (fits (plus (@len UInt8 ([(115 : UInt8), (104 : UInt8), (97 : UInt8), (50 : UInt8), (53 : UInt8), (54 : UInt8), (58 : UInt8)] : List (UInt8))) (@len UInt8 y2.1)))
  (some (@app UInt8 ([(115 : UInt8), (104 : UInt8), (97 : UInt8), (50 : UInt8), (53 : UInt8), (54 : UInt8), (58 : UInt8)] : List (UInt8)) y2.1, ()))
  (none : Option ((List (UInt8)) × Unit))))
  (none : Option ((List (UInt8)) × Unit)))

noncomputable def P_ref01_value_L0 (x : Int × Unit) (y1 : (Int × Int × Unit) × Unit) : Option (((Int × Int × Unit) × Unit) ⊕ (Nat × (Int × Int × Unit) × Unit)) :=
  sel (ltI y1.1.2.1 (16 : Int))
  (obind (P_ref01_digit (y1.1.2.1, ())) (fun (y2 : Int × Unit) => sel (eqI y2.1 x.1)
  (some (Sum.inr ((1 : Nat), ((y1.1.2.1, (y1.1.2.1, ())), ())) : (((Int × Int × Unit) × Unit)) ⊕ ((Nat × (Int × Int × Unit) × Unit))))
  (some (Sum.inl ((y1.1.1, (iadd IntKind.i64 y1.1.2.1 (1 : Int), ())), ()) : (((Int × Int × Unit) × Unit)) ⊕ ((Nat × (Int × Int × Unit) × Unit))))))
  (some (Sum.inr ((0 : Nat), ((y1.1.1, (y1.1.2.1, ())), ())) : (((Int × Int × Unit) × Unit)) ⊕ ((Nat × (Int × Int × Unit) × Unit))))

noncomputable def P_ref01_value (x : Int × Unit) : Option (Int × Unit) :=
  obind (Loop (P_ref01_value_L0 x) (((0 : Int), ((0 : Int), ())), ())) (fun (y1 : Nat × (Int × Int × Unit) × Unit) => sel (eqN y1.1 (0 : Nat))
  (some ((-1 : Int), ()))
  (some (y1.2.1.1, ())))

noncomputable def P_ref01_Unhex_L0 (x : (List (UInt8)) × Unit) (y1 : ((List (UInt8)) × Bool × Unit × Int × Unit) × (List (Int)) × Unit) : Option ((((List (UInt8)) × Bool × Unit × Int × Unit) × (List (Int)) × Unit) ⊕ (Nat × ((List (UInt8)) × Bool × Unit × Int × Unit) × (List (Int)) × Unit)) :=
  sel (ltI (iadd IntKind.i64 y1.1.2.2.2.1 (1 : Int)) (@len UInt8 x.1))
  (obind (@idx UInt8 x.1 y1.1.2.2.2.1) (fun (y2 : UInt8) => obind (P_ref01_value (u8 y2, ())) (fun (y3 : Int × Unit) => obind (@idx UInt8 x.1 (iadd IntKind.i64 y1.1.2.2.2.1 (1 : Int))) (fun (y4 : UInt8) => obind (P_ref01_value (u8 y4, ())) (fun (y5 : Int × Unit) => sel (sel (nt (ltI y3.1 (0 : Int)))
  (ltI y5.1 (0 : Int))
  true)
  (some (Sum.inr ((1 : Nat), ((([] : List (UInt8)), (false, ((), (y1.1.2.2.2.1, ())))), (y1.2.1, ()))) : ((((List (UInt8)) × Bool × Unit × Int × Unit) × (List (Int)) × Unit)) ⊕ ((Nat × ((List (UInt8)) × Bool × Unit × Int × Unit) × (List (Int)) × Unit))))
  (sel (fits (plus (@len Int y1.2.1) (@len Int ([icv IntKind.u8 (iadd IntKind.i64 (imul IntKind.i64 (16 : Int) y3.1) y5.1)] : List (Int)))))
  (some (Sum.inl ((y1.1.1, (y1.1.2.1, ((), (iadd IntKind.i64 y1.1.2.2.2.1 (2 : Int), ())))), (@app Int y1.2.1 ([icv IntKind.u8 (iadd IntKind.i64 (imul IntKind.i64 (16 : Int) y3.1) y5.1)] : List (Int)), ())) : ((((List (UInt8)) × Bool × Unit × Int × Unit) × (List (Int)) × Unit)) ⊕ ((Nat × ((List (UInt8)) × Bool × Unit × Int × Unit) × (List (Int)) × Unit))))
  (none : Option ((((List (UInt8)) × Bool × Unit × Int × Unit) × (List (Int)) × Unit) ⊕ (Nat × ((List (UInt8)) × Bool × Unit × Int × Unit) × (List (Int)) × Unit)))))))))
  (some (Sum.inr ((0 : Nat), ((y1.1.1, (y1.1.2.1, ((), (y1.1.2.2.2.1, ())))), (y1.2.1, ()))) : ((((List (UInt8)) × Bool × Unit × Int × Unit) × (List (Int)) × Unit)) ⊕ ((Nat × ((List (UInt8)) × Bool × Unit × Int × Unit) × (List (Int)) × Unit))))

noncomputable def P_ref01_Unhex (x : (List (UInt8)) × Unit) : Option ((List (UInt8)) × Bool × Unit) :=
  sel (eqI (2 : Int) (0 : Int))
  (none : Option ((List (UInt8)) × Bool × Unit))
  (sel (eqI (irem (@len UInt8 x.1) (2 : Int)) (1 : Int))
  (some (([] : List (UInt8)), (false, ())))
  (obind (Loop (P_ref01_Unhex_L0 x) ((([] : List (UInt8)), (false, ((), ((0 : Int), ())))), (([] : List (Int)), ()))) (fun (y1 : Nat × ((List (UInt8)) × Bool × Unit × Int × Unit) × (List (Int)) × Unit) => sel (eqN y1.1 (0 : Nat))
  (some (intsBytes y1.2.2.1, (true, ())))
  (some (y1.2.1.1, (y1.2.1.2.1, ()))))))

noncomputable def P_ref03_Check (x : (List (UInt8)) × Unit) : Option (Int × Unit) :=
  obind (sel (nt (nt (eqI (@len UInt8 x.1) (71 : Int))))
  (sel (inside (0 : Int) (7 : Int) (@len UInt8 x.1))
  (some (nt (eqS (@sub UInt8 x.1 (0 : Int) (minus (7 : Int) (0 : Int))) ([(115 : UInt8), (104 : UInt8), (97 : UInt8), (50 : UInt8), (53 : UInt8), (54 : UInt8), (58 : UInt8)] : List (UInt8)))))
  (none : Option (Bool)))
  (some true)) (fun (y1 : Bool) => sel y1
  (some ((2 : Int), ()))
  (sel (inside (7 : Int) (@len UInt8 x.1) (@len UInt8 x.1))
  (obind (P_ref01_Unhex (@sub UInt8 x.1 (7 : Int) (minus (@len UInt8 x.1) (7 : Int)), ())) (fun (y2 : (List (UInt8)) × Bool × Unit) => sel (nt y2.2.1)
  (some ((2 : Int), ()))
  (some ((0 : Int), ()))))
  (none : Option (Int × Unit))))

noncomputable def P_law03_DigestIs (x : (List (UInt8)) × (List (UInt8)) × Unit) : Option (Bool × Unit) :=
  sel (sel (nt (ltI (1024 : Int) (@len UInt8 x.1)))
  (ltI (100 : Int) (@len UInt8 x.2.1))
  true)
  (obind (P_law03_awake ()) (fun (y1 : Bool × Unit) => some (y1.1, ())))
  (obind (P_digest_Of (x.1, ())) (fun (y1 : (List (UInt8)) × Unit) => obind (P_ref03_Of (x.1, ())) (fun (y2 : (List (UInt8)) × Unit) => obind (sel (eqS y1.1 y2.1)
  (obind (P_digest_Check (y1.1, ())) (fun (y3 : Int × Unit) => some (eqI y3.1 (0 : Int))))
  (some false)) (fun (y3 : Bool) => obind (sel y3
  (obind (P_digest_Check (x.2.1, ())) (fun (y4 : Int × Unit) => obind (P_ref03_Check (x.2.1, ())) (fun (y5 : Int × Unit) => some (eqI y4.1 y5.1))))
  (some false)) (fun (y4 : Bool) => obind (sel y4
  (obind (P_digest_Is (x.2.1, (x.1, ()))) (fun (y5 : Bool × Unit) => obind (P_ref03_Of (x.1, ())) (fun (y6 : (List (UInt8)) × Unit) => some (eqB y5.1 (eqS x.2.1 y6.1)))))
  (some false)) (fun (y5 : Bool) => obind (sel y5
  (obind (P_digest_Is (y1.1, (x.1, ()))) (fun (y6 : Bool × Unit) => some y6.1))
  (some false)) (fun (y6 : Bool) => obind (sel y6
  (obind (P_law03_awake ()) (fun (y7 : Bool × Unit) => some y7.1))
  (some false)) (fun (y7 : Bool) => some (y7, ())))))))))

noncomputable def P_internal_sync_Mutex_Lock (x : Unit × (Int × Int × Unit) × Unit) : Option (Unit × (Int × Int × Unit) × Unit) :=
  (none : Option (Unit × (Int × Int × Unit) × Unit))

noncomputable def P_internal_sync_Mutex_Unlock (x : Unit × (Int × Int × Unit) × Unit) : Option (Unit × (Int × Int × Unit) × Unit) :=
  (none : Option (Unit × (Int × Int × Unit) × Unit))

noncomputable def P_sync_atomic_b32 (x : Bool × Unit) : Option (Int × Unit) :=
  sel x.1
  (some ((1 : Int), ()))
  (some ((0 : Int), ()))

noncomputable def P_law03_DigestNobody (x : Int × Unit) : Option (Bool × Unit) :=
  (none : Option (Bool × Unit))

noncomputable def P_law03_DigestLazy (x : (List (UInt8)) × Int × Unit) : Option (Bool × Unit) :=
  sel (ltI (1024 : Int) (@len UInt8 x.1))
  (obind (P_law03_awake ()) (fun (y1 : Bool × Unit) => some (y1.1, ())))
  (none : Option (Bool × Unit))
end Go.Ge
