/- What the functions of layer 03 compute, as plain programs (written by a program from what the ghost interpreter comes to). -/
import Derived.Test.YtnmllijemdpcoaaDoorGpA
import Derived.Test.YtnmllijemdpcoaaDoorGp02
namespace Go.Ge
set_option linter.unusedVariables false
set_option maxRecDepth 100000

noncomputable def P_digits_Hex_L0 (x : (List (UInt8)) × Unit) (y1 : (Int × Unit) × (Unit × Unit × Unit) × (List (Int)) × Unit) : Option (((Int × Unit) × (Unit × Unit × Unit) × (List (Int)) × Unit) ⊕ ((Int × Unit) × (Unit × Unit × Unit) × (List (Int)) × Unit)) :=
  @way1 ((Int × Unit) × (Unit × Unit × Unit) × (List (Int)) × Unit) (sel (ltI y1.1.1 (@len Int (bytesInts x.1)))
  (sel (within y1.1.1 (@len Int (bytesInts x.1)))
  (obind (@idx Int (bytesInts x.1) y1.1.1) (fun (y2 : Int) => sel (ltI (4 : Int) (0 : Int))
  (none : Option (((Int × Unit) × (Unit × Unit × Unit) × (List (Int)) × Unit) ⊕ (Nat × (Int × Unit) × (Unit × Unit × Unit) × (List (Int)) × Unit)))
  (obind (@idx UInt8 ([(48 : UInt8), (49 : UInt8), (50 : UInt8), (51 : UInt8), (52 : UInt8), (53 : UInt8), (54 : UInt8), (55 : UInt8), (56 : UInt8), (57 : UInt8), (97 : UInt8), (98 : UInt8), (99 : UInt8), (100 : UInt8), (101 : UInt8), (102 : UInt8)] : List (UInt8)) (ishr IntKind.u8 y2 (4 : Int))) (fun (y3 : UInt8) => sel (fits (plus (@len Int y1.2.2.1) (@len Int ([u8 y3] : List (Int)))))
  (obind (@idx UInt8 ([(48 : UInt8), (49 : UInt8), (50 : UInt8), (51 : UInt8), (52 : UInt8), (53 : UInt8), (54 : UInt8), (55 : UInt8), (56 : UInt8), (57 : UInt8), (97 : UInt8), (98 : UInt8), (99 : UInt8), (100 : UInt8), (101 : UInt8), (102 : UInt8)] : List (UInt8)) (iand IntKind.u8 y2 (15 : Int))) (fun (y4 : UInt8) => sel (fits (plus (@len Int (@app Int y1.2.2.1 ([u8 y3] : List (Int)))) (@len Int ([u8 y4] : List (Int)))))
  (some (Sum.inl ((iadd IntKind.i64 y1.1.1 (1 : Int), ()), (((), ((), y1.2.1.2.2)), (@app Int (@app Int y1.2.2.1 ([u8 y3] : List (Int))) ([u8 y4] : List (Int)), ()))) : (((Int × Unit) × (Unit × Unit × Unit) × (List (Int)) × Unit)) ⊕ ((Nat × (Int × Unit) × (Unit × Unit × Unit) × (List (Int)) × Unit))))
  (none : Option (((Int × Unit) × (Unit × Unit × Unit) × (List (Int)) × Unit) ⊕ (Nat × (Int × Unit) × (Unit × Unit × Unit) × (List (Int)) × Unit)))))
  (none : Option (((Int × Unit) × (Unit × Unit × Unit) × (List (Int)) × Unit) ⊕ (Nat × (Int × Unit) × (Unit × Unit × Unit) × (List (Int)) × Unit)))))))
  (none : Option (((Int × Unit) × (Unit × Unit × Unit) × (List (Int)) × Unit) ⊕ (Nat × (Int × Unit) × (Unit × Unit × Unit) × (List (Int)) × Unit))))
  (some (Sum.inr ((0 : Nat), ((y1.1.1, ()), (((), ((), y1.2.1.2.2)), (y1.2.2.1, ())))) : (((Int × Unit) × (Unit × Unit × Unit) × (List (Int)) × Unit)) ⊕ ((Nat × (Int × Unit) × (Unit × Unit × Unit) × (List (Int)) × Unit)))))

noncomputable def P_digits_Hex (x : (List (UInt8)) × Unit) : Option ((List (UInt8)) × Unit) :=
  sel (fits (@len UInt8 x.1))
  (obind (Loop (P_digits_Hex_L0 x) (((0 : Int), ()), (((), ((), ())), (([] : List (Int)), ())))) (fun (y1 : (Int × Unit) × (Unit × Unit × Unit) × (List (Int)) × Unit) => some (intsBytes y1.2.2.1, ())))
  (none : Option ((List (UInt8)) × Unit))

noncomputable def P_digest_Of (x : (List (UInt8)) × Unit) : Option ((List (UInt8)) × Unit) :=
  obind (P_sha_Sum (x.1, ())) (fun (y1 : (List (Int)) × Unit) => sel (inside (0 : Int) (32 : Int) (32 : Int))
  (obind (P_digits_Hex (intsBytes (@sub Int y1.1 (0 : Int) (minus (32 : Int) (0 : Int))), ())) (fun (y2 : (List (UInt8)) × Unit) => sel (fits (plus (@len UInt8 ([(115 : UInt8), (104 : UInt8), (97 : UInt8), (50 : UInt8), (53 : UInt8), (54 : UInt8), (58 : UInt8)] : List (UInt8))) (@len UInt8 y2.1)))
  (some (@app UInt8 ([(115 : UInt8), (104 : UInt8), (97 : UInt8), (50 : UInt8), (53 : UInt8), (54 : UInt8), (58 : UInt8)] : List (UInt8)) y2.1, ()))
  (none : Option ((List (UInt8)) × Unit))))
  (none : Option ((List (UInt8)) × Unit)))

noncomputable def P_internal_stringslite_HasPrefix (x : (List (UInt8)) × (List (UInt8)) × Unit) : Option (Bool × Unit) :=
  obind (sel (leI (@len UInt8 x.2.1) (@len UInt8 x.1))
  (sel (inside (0 : Int) (@len UInt8 x.2.1) (@len UInt8 x.1))
  (some (eqS (@sub UInt8 x.1 (0 : Int) (minus (@len UInt8 x.2.1) (0 : Int))) x.2.1))
  (none : Option (Bool)))
  (some false)) (fun (y1 : Bool) => some (y1, ()))

noncomputable def P_internal_stringslite_CutPrefix (x : (List (UInt8)) × (List (UInt8)) × Unit) : Option ((List (UInt8)) × Bool × Unit) :=
  obind (P_internal_stringslite_HasPrefix (x.1, (x.2.1, ()))) (fun (y1 : Bool × Unit) => sel (nt y1.1)
  (some (x.1, (false, ())))
  (sel (inside (@len UInt8 x.2.1) (@len UInt8 x.1) (@len UInt8 x.1))
  (some (@sub UInt8 x.1 (@len UInt8 x.2.1) (minus (@len UInt8 x.1) (@len UInt8 x.2.1)), (true, ())))
  (none : Option ((List (UInt8)) × Bool × Unit))))

noncomputable def P_strings_CutPrefix (x : (List (UInt8)) × (List (UInt8)) × Unit) : Option ((List (UInt8)) × Bool × Unit) :=
  obind (P_internal_stringslite_CutPrefix (x.1, (x.2.1, ()))) (fun (y1 : (List (UInt8)) × Bool × Unit) => some (y1.1, (y1.2.1, ())))

noncomputable def P_strings_IndexByte (x : (List (UInt8)) × Int × Unit) : Option (Int × Unit) :=
  obind (P_internal_stringslite_IndexByte (x.1, (x.2.1, ()))) (fun (y1 : Int × Unit) => some (y1.1, ()))

end Go.Ge
