/- What the functions of layer 12 compute, as plain programs (written by a program from what the ghost interpreter comes to). -/
import Derived.Test.YtnmllijemdpcoaaDoorGpA
import Derived.Test.YtnmllijemdpcoaaDoorGp03
namespace Go.Ge
set_option linter.unusedVariables false
set_option maxRecDepth 100000

noncomputable def P_digits_Octal_L0 (x : Int × Int × Unit) (y1 : (Int × Int × Unit) × (List (Int)) × Unit) : Option (((Int × Int × Unit) × (List (Int)) × Unit) ⊕ ((Int × Int × Unit) × (List (Int)) × Unit)) :=
  @way1 ((Int × Int × Unit) × (List (Int)) × Unit) (sel (ltI y1.1.2.1 x.2.1)
  (obind (@idx UInt8 ([(48 : UInt8), (49 : UInt8), (50 : UInt8), (51 : UInt8), (52 : UInt8), (53 : UInt8), (54 : UInt8), (55 : UInt8), (56 : UInt8), (57 : UInt8), (97 : UInt8), (98 : UInt8), (99 : UInt8), (100 : UInt8), (101 : UInt8), (102 : UInt8)] : List (UInt8)) (iand IntKind.i64 y1.1.1 (7 : Int))) (fun (y2 : UInt8) => sel (within (isub IntKind.i64 (20 : Int) y1.1.2.1) (21 : Int))
  (obind (@idx Int y1.2.1 (isub IntKind.i64 (20 : Int) y1.1.2.1)) (fun (y3 : Int) => obind (@idx Int y1.2.1 (isub IntKind.i64 (20 : Int) y1.1.2.1)) (fun (y4 : Int) => obind (@idx Int y1.2.1 (isub IntKind.i64 (20 : Int) y1.1.2.1)) (fun (y5 : Int) => sel (ltI (3 : Int) (0 : Int))
  (none : Option (((Int × Int × Unit) × (List (Int)) × Unit) ⊕ (Nat × (Int × Int × Unit) × (List (Int)) × Unit)))
  (some (Sum.inl ((ishr IntKind.i64 y1.1.1 (3 : Int), (iadd IntKind.i64 y1.1.2.1 (1 : Int), ())), (@lset Int y1.2.1 (isub IntKind.i64 (20 : Int) y1.1.2.1) (u8 y2), ())) : (((Int × Int × Unit) × (List (Int)) × Unit)) ⊕ ((Nat × (Int × Int × Unit) × (List (Int)) × Unit))))))))
  (none : Option (((Int × Int × Unit) × (List (Int)) × Unit) ⊕ (Nat × (Int × Int × Unit) × (List (Int)) × Unit)))))
  (some (Sum.inr ((0 : Nat), ((y1.1.1, (y1.1.2.1, ())), (y1.2.1, ()))) : (((Int × Int × Unit) × (List (Int)) × Unit)) ⊕ ((Nat × (Int × Int × Unit) × (List (Int)) × Unit)))))

noncomputable def P_digits_Octal (x : Int × Int × Unit) : Option ((List (UInt8)) × Bool × Unit) :=
  sel (sel (nt (sel (nt (ltI x.1 (0 : Int)))
  (ltI x.2.1 (1 : Int))
  true))
  (ltI (21 : Int) x.2.1)
  true)
  (some (([] : List (UInt8)), (false, ())))
  (obind (Loop (P_digits_Octal_L0 x) ((x.1, ((0 : Int), ())), (([(0 : Int), (0 : Int), (0 : Int), (0 : Int), (0 : Int), (0 : Int), (0 : Int), (0 : Int), (0 : Int), (0 : Int), (0 : Int), (0 : Int), (0 : Int), (0 : Int), (0 : Int), (0 : Int), (0 : Int), (0 : Int), (0 : Int), (0 : Int), (0 : Int)] : List (Int)), ()))) (fun (y1 : (Int × Int × Unit) × (List (Int)) × Unit) => sel (ltI (0 : Int) y1.1.1)
  (some (([] : List (UInt8)), (false, ())))
  (sel (inside (isub IntKind.i64 (21 : Int) x.2.1) (21 : Int) (21 : Int))
  (some (intsBytes (@sub Int y1.2.1 (isub IntKind.i64 (21 : Int) x.2.1) (minus (21 : Int) (isub IntKind.i64 (21 : Int) x.2.1))), (true, ())))
  (none : Option ((List (UInt8)) × Bool × Unit)))))

end Go.Ge
