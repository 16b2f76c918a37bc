/- What the functions of layer 12 compute, as plain programs (written by a program from what the ghost interpreter comes to). -/
import Derived.Test.YtkjpgahmolmnmaaDoorGpA
import Derived.Test.YtkjpgahmolmnmaaDoorGp03
namespace Go.Ge
set_option linter.unusedVariables false
set_option maxRecDepth 100000

noncomputable def P_header_in (x : Int × Int × Unit) : Option (Bool × Unit) :=
  some (sel (leI (0 : Int) x.1)
  (ltI x.1 x.2.1)
  false, ())

noncomputable def P_header_clear (x : (List (UInt8)) × Int × Unit) : Option (Bool × Unit) :=
  obind (sel (sel (nt (eqS x.1 ([] : List (UInt8))))
  (leI (@len UInt8 x.1) x.2.1)
  false)
  (obind (P_strings_IndexByte (x.1, ((0 : Int), ()))) (fun (y1 : Int × Unit) => some (ltI y1.1 (0 : Int))))
  (some false)) (fun (y1 : Bool) => some (y1, ()))

noncomputable def P_header_is (x : ((List (UInt8)) × Int × Int × Int × Int × Int × Int × (List (UInt8)) × Unit) × Int × Unit) : Option (Bool × Unit) :=
  obind (P_header_in (x.1.2.2.1, ((2097152 : Int), ()))) (fun (y1 : Bool × Unit) => obind (sel y1.1
  (obind (P_header_in (x.1.2.2.2.1, ((2097152 : Int), ()))) (fun (y2 : Bool × Unit) => some y2.1))
  (some false)) (fun (y2 : Bool) => obind (sel y2
  (obind (P_header_in (x.1.2.2.2.2.1, ((2097152 : Int), ()))) (fun (y3 : Bool × Unit) => some y3.1))
  (some false)) (fun (y3 : Bool) => obind (sel y3
  (obind (P_header_in (x.1.2.2.2.2.2.1, ((8589934592 : Int), ()))) (fun (y4 : Bool × Unit) => some y4.1))
  (some false)) (fun (y4 : Bool) => obind (sel y4
  (obind (P_header_in (x.1.2.2.2.2.2.2.1, ((8589934592 : Int), ()))) (fun (y5 : Bool × Unit) => some y5.1))
  (some false)) (fun (y5 : Bool) => obind (sel (nt (nt y5))
  (obind (P_header_clear (x.1.1, (x.2.1, ()))) (fun (y6 : Bool × Unit) => some (nt y6.1)))
  (some true)) (fun (y6 : Bool) => sel y6
  (some (false, ()))
  (sel (eqI x.1.2.1 (1 : Int))
  (some (eqS x.1.2.2.2.2.2.2.2.1 ([] : List (UInt8)), ()))
  (sel (eqI x.1.2.1 (2 : Int))
  (some (sel (eqS x.1.2.2.2.2.2.2.2.1 ([] : List (UInt8)))
  (eqI x.1.2.2.2.2.2.1 (0 : Int))
  false, ()))
  (sel (eqI x.1.2.1 (3 : Int))
  (obind (P_header_clear (x.1.2.2.2.2.2.2.2.1, ((100 : Int), ()))) (fun (y7 : Bool × Unit) => some (sel y7.1
  (eqI x.1.2.2.2.2.2.1 (0 : Int))
  false, ())))
  (some (false, ())))))))))))

noncomputable def P_header_fields (x : Unit) : Option ((List (Int × Int × Unit)) × Unit) :=
  some (([((0 : Int), ((100 : Int), ())), ((100 : Int), ((8 : Int), ())), ((108 : Int), ((8 : Int), ())), ((116 : Int), ((8 : Int), ())), ((124 : Int), ((12 : Int), ())), ((136 : Int), ((12 : Int), ())), ((148 : Int), ((8 : Int), ())), ((156 : Int), ((1 : Int), ())), ((157 : Int), ((100 : Int), ())), ((257 : Int), ((8 : Int), ())), ((345 : Int), ((155 : Int), ()))] : List (Int × Int × Unit)), ())

noncomputable def P_digits_Octal_L0 (x : Int × Int × Unit) (y1 : (Int × Int × Unit) × (List (Int)) × Unit) : Option (((Int × Int × Unit) × (List (Int)) × Unit) ⊕ ((Int × Int × Unit) × (List (Int)) × Unit)) :=
  @way1 ((Int × Int × Unit) × (List (Int)) × Unit) (sel (ltI y1.1.2.1 x.2.1)
  (obind (@idx UInt8 ([(48 : UInt8), (49 : UInt8), (50 : UInt8), (51 : UInt8), (52 : UInt8), (53 : UInt8), (54 : UInt8), (55 : UInt8), (56 : UInt8), (57 : UInt8), (97 : UInt8), (98 : UInt8), (99 : UInt8), (100 : UInt8), (101 : UInt8), (102 : UInt8)] : List (UInt8)) (iand IntKind.i64 y1.1.1 (7 : Int))) (fun (y2 : UInt8) => sel (within (isub IntKind.i64 (20 : Int) y1.1.2.1) (21 : Int))
  (obind (@idx Int y1.2.1 (isub IntKind.i64 (20 : Int) y1.1.2.1)) (fun (y3 : Int) => obind (@idx Int y1.2.1 (isub IntKind.i64 (20 : Int) y1.1.2.1)) (fun (y4 : Int) => obind (@idx Int y1.2.1 (isub IntKind.i64 (20 : Int) y1.1.2.1)) (fun (y5 : Int) => sel (ltI (3 : Int) (0 : Int))
  (none : Option (((Int × Int × Unit) × (List (Int)) × Unit) ⊕ (Nat × (Int × Int × Unit) × (List (Int)) × Unit)))
  (some (Sum.inl ((ishr IntKind.i64 y1.1.1 (3 : Int), (iadd IntKind.i64 y1.1.2.1 (1 : Int), ())), (@lset Int y1.2.1 (isub IntKind.i64 (20 : Int) y1.1.2.1) (u8 y2), ())) : (((Int × Int × Unit) × (List (Int)) × Unit)) ⊕ ((Nat × (Int × Int × Unit) × (List (Int)) × Unit))))))))
  (none : Option (((Int × Int × Unit) × (List (Int)) × Unit) ⊕ (Nat × (Int × Int × Unit) × (List (Int)) × Unit)))))
  (some (Sum.inr ((0 : Nat), ((y1.1.1, (y1.1.2.1, ())), (y1.2.1, ()))) : (((Int × Int × Unit) × (List (Int)) × Unit)) ⊕ ((Nat × (Int × Int × Unit) × (List (Int)) × Unit)))))

noncomputable def P_digits_Octal (x : Int × Int × Unit) : Option ((List (UInt8)) × Bool × Unit) :=
  sel (sel (nt (sel (nt (ltI x.1 (0 : Int)))
  (ltI x.2.1 (1 : Int))
  true))
  (ltI (21 : Int) x.2.1)
  true)
  (some (([] : List (UInt8)), (false, ())))
  (obind (Loop (P_digits_Octal_L0 x) ((x.1, ((0 : Int), ())), (([(0 : Int), (0 : Int), (0 : Int), (0 : Int), (0 : Int), (0 : Int), (0 : Int), (0 : Int), (0 : Int), (0 : Int), (0 : Int), (0 : Int), (0 : Int), (0 : Int), (0 : Int), (0 : Int), (0 : Int), (0 : Int), (0 : Int), (0 : Int), (0 : Int)] : List (Int)), ()))) (fun (y1 : (Int × Int × Unit) × (List (Int)) × Unit) => sel (ltI (0 : Int) y1.1.1)
  (some (([] : List (UInt8)), (false, ())))
  (sel (inside (isub IntKind.i64 (21 : Int) x.2.1) (21 : Int) (21 : Int))
  (some (intsBytes (@sub Int y1.2.1 (isub IntKind.i64 (21 : Int) x.2.1) (minus (21 : Int) (isub IntKind.i64 (21 : Int) x.2.1))), (true, ())))
  (none : Option ((List (UInt8)) × Bool × Unit)))))

noncomputable def P_header_Sum_L0 (x : (List (UInt8)) × Unit) (y2 : Int × Int × Unit) (y3 : (Int × Int × Unit) × Unit) : Option (((Int × Int × Unit) × Unit) ⊕ ((Int × Int × Unit) × Unit)) :=
  @way1 ((Int × Int × Unit) × Unit) (sel (ltI y3.1.2.1 (@len Int (bytesInts x.1)))
  (sel (within y3.1.2.1 (@len Int (bytesInts x.1)))
  (obind (@idx Int (bytesInts x.1) y3.1.2.1) (fun (y4 : Int) => some (Sum.inl ((iadd IntKind.i64 y3.1.1 (icv IntKind.i64 (((sel (sel (leI y2.1 y3.1.2.1)
  (ltI y3.1.2.1 (iadd IntKind.i64 y2.1 y2.2.1))
  false)
  (((32 : Int), ()), ())
  ((y4, ()), ())).1).1)), (iadd IntKind.i64 y3.1.2.1 (1 : Int), ())), ()) : (((Int × Int × Unit) × Unit)) ⊕ ((Nat × (Int × Int × Unit) × Unit)))))
  (none : Option (((Int × Int × Unit) × Unit) ⊕ (Nat × (Int × Int × Unit) × Unit))))
  (some (Sum.inr ((0 : Nat), ((y3.1.1, (y3.1.2.1, ())), ())) : (((Int × Int × Unit) × Unit)) ⊕ ((Nat × (Int × Int × Unit) × Unit)))))

noncomputable def P_header_Sum (x : (List (UInt8)) × Unit) : Option (Int × Unit) :=
  obind (P_header_fields ()) (fun (y1 : (List (Int × Int × Unit)) × Unit) => obind (@idx (Int × Int × Unit) y1.1 (6 : Int)) (fun (y2 : Int × Int × Unit) => sel (fits (@len UInt8 x.1))
  (obind (Loop (P_header_Sum_L0 x y2) (((0 : Int), ((0 : Int), ())), ())) (fun (y3 : (Int × Int × Unit) × Unit) => some (y3.1.1, ())))
  (none : Option (Int × Unit))))

noncomputable def P_header_Put (x : ((List (UInt8)) × Int × Int × Int × Int × Int × Int × (List (UInt8)) × Unit) × Unit) : Option ((List (UInt8)) × Int × Unit) :=
  obind (P_header_is (x.1, ((100 : Int), ()))) (fun (y1 : Bool × Unit) => sel (nt y1.1)
  (some (([] : List (UInt8)), ((1 : Int), ())))
  (obind (P_header_fields ()) (fun (y2 : (List (Int × Int × Unit)) × Unit) => sel (within (0 : Int) (11 : Int))
  (obind (@idx (Int × Int × Unit) y2.1 (0 : Int)) (fun (y3 : Int × Int × Unit) => sel (inside y3.1 (512 : Int) (512 : Int))
  (obind (P_digits_Octal (x.1.2.2.1, ((7 : Int), ()))) (fun (y4 : (List (UInt8)) × Bool × Unit) => sel (within (1 : Int) (11 : Int))
  (obind (@idx (Int × Int × Unit) y2.1 (1 : Int)) (fun (y5 : Int × Int × Unit) => sel (inside y5.1 (512 : Int) (512 : Int))
  (obind (P_digits_Octal (x.1.2.2.2.1, ((7 : Int), ()))) (fun (y6 : (List (UInt8)) × Bool × Unit) => sel (within (2 : Int) (11 : Int))
  (obind (@idx (Int × Int × Unit) y2.1 (2 : Int)) (fun (y7 : Int × Int × Unit) => sel (inside y7.1 (512 : Int) (512 : Int))
  (obind (P_digits_Octal (x.1.2.2.2.2.1, ((7 : Int), ()))) (fun (y8 : (List (UInt8)) × Bool × Unit) => sel (within (3 : Int) (11 : Int))
  (obind (@idx (Int × Int × Unit) y2.1 (3 : Int)) (fun (y9 : Int × Int × Unit) => sel (inside y9.1 (512 : Int) (512 : Int))
  (obind (P_digits_Octal (x.1.2.2.2.2.2.1, ((11 : Int), ()))) (fun (y10 : (List (UInt8)) × Bool × Unit) => sel (within (4 : Int) (11 : Int))
  (obind (@idx (Int × Int × Unit) y2.1 (4 : Int)) (fun (y11 : Int × Int × Unit) => sel (inside y11.1 (512 : Int) (512 : Int))
  (obind (P_digits_Octal (x.1.2.2.2.2.2.2.1, ((11 : Int), ()))) (fun (y12 : (List (UInt8)) × Bool × Unit) => sel (within (5 : Int) (11 : Int))
  (obind (@idx (Int × Int × Unit) y2.1 (5 : Int)) (fun (y13 : Int × Int × Unit) => sel (inside y13.1 (512 : Int) (512 : Int))
  (sel (inside (isub IntKind.i64 x.1.2.1 (1 : Int)) x.1.2.1 (@len UInt8 ([(48 : UInt8), (53 : UInt8), (50 : UInt8)] : List (UInt8))))
  (sel (within (7 : Int) (11 : Int))
  (obind (@idx (Int × Int × Unit) y2.1 (7 : Int)) (fun (y14 : Int × Int × Unit) => sel (inside y14.1 (512 : Int) (512 : Int))
  (sel (within (8 : Int) (11 : Int))
  (obind (@idx (Int × Int × Unit) y2.1 (8 : Int)) (fun (y15 : Int × Int × Unit) => sel (inside y15.1 (512 : Int) (512 : Int))
  (sel (within (9 : Int) (11 : Int))
  (obind (@idx (Int × Int × Unit) y2.1 (9 : Int)) (fun (y16 : Int × Int × Unit) => sel (inside y16.1 (512 : Int) (512 : Int))
  (sel (inside (0 : Int) (512 : Int) (512 : Int))
  (obind (P_header_Sum (intsBytes (@sub Int (@over Int (@over Int (@over Int (@over Int (@over Int (@over Int (@over Int (@over Int (@over Int ((List.replicate 512 (0 : Int)) : List (Int)) y3.1 (@ltake Int (bytesInts x.1.1) (minus (512 : Int) y3.1))) y5.1 (@ltake Int (bytesInts y4.1) (minus (512 : Int) y5.1))) y7.1 (@ltake Int (bytesInts y6.1) (minus (512 : Int) y7.1))) y9.1 (@ltake Int (bytesInts y8.1) (minus (512 : Int) y9.1))) y11.1 (@ltake Int (bytesInts y10.1) (minus (512 : Int) y11.1))) y13.1 (@ltake Int (bytesInts y12.1) (minus (512 : Int) y13.1))) y14.1 (@ltake Int (bytesInts (@sub UInt8 ([(48 : UInt8), (53 : UInt8), (50 : UInt8)] : List (UInt8)) (isub IntKind.i64 x.1.2.1 (1 : Int)) (minus x.1.2.1 (isub IntKind.i64 x.1.2.1 (1 : Int))))) (minus (512 : Int) y14.1))) y15.1 (@ltake Int (bytesInts x.1.2.2.2.2.2.2.2.1) (minus (512 : Int) y15.1))) y16.1 (@ltake Int (bytesInts ([(117 : UInt8), (115 : UInt8), (116 : UInt8), (97 : UInt8), (114 : UInt8), (0 : UInt8), (48 : UInt8), (48 : UInt8)] : List (UInt8))) (minus (512 : Int) y16.1))) (0 : Int) (minus (512 : Int) (0 : Int))), ())) (fun (y17 : Int × Unit) => obind (P_digits_Octal (y17.1, ((6 : Int), ()))) (fun (y18 : (List (UInt8)) × Bool × Unit) => sel (within (6 : Int) (11 : Int))
  (obind (@idx (Int × Int × Unit) y2.1 (6 : Int)) (fun (y19 : Int × Int × Unit) => sel (inside y19.1 (512 : Int) (512 : Int))
  (sel (within (6 : Int) (11 : Int))
  (obind (@idx (Int × Int × Unit) y2.1 (6 : Int)) (fun (y20 : Int × Int × Unit) => sel (within (iadd IntKind.i64 (iadd IntKind.i64 y20.1 (6 : Int)) (1 : Int)) (512 : Int))
  (obind (@idx Int (@over Int (@over Int (@over Int (@over Int (@over Int (@over Int (@over Int (@over Int (@over Int (@over Int ((List.replicate 512 (0 : Int)) : List (Int)) y3.1 (@ltake Int (bytesInts x.1.1) (minus (512 : Int) y3.1))) y5.1 (@ltake Int (bytesInts y4.1) (minus (512 : Int) y5.1))) y7.1 (@ltake Int (bytesInts y6.1) (minus (512 : Int) y7.1))) y9.1 (@ltake Int (bytesInts y8.1) (minus (512 : Int) y9.1))) y11.1 (@ltake Int (bytesInts y10.1) (minus (512 : Int) y11.1))) y13.1 (@ltake Int (bytesInts y12.1) (minus (512 : Int) y13.1))) y14.1 (@ltake Int (bytesInts (@sub UInt8 ([(48 : UInt8), (53 : UInt8), (50 : UInt8)] : List (UInt8)) (isub IntKind.i64 x.1.2.1 (1 : Int)) (minus x.1.2.1 (isub IntKind.i64 x.1.2.1 (1 : Int))))) (minus (512 : Int) y14.1))) y15.1 (@ltake Int (bytesInts x.1.2.2.2.2.2.2.2.1) (minus (512 : Int) y15.1))) y16.1 (@ltake Int (bytesInts ([(117 : UInt8), (115 : UInt8), (116 : UInt8), (97 : UInt8), (114 : UInt8), (0 : UInt8), (48 : UInt8), (48 : UInt8)] : List (UInt8))) (minus (512 : Int) y16.1))) y19.1 (@ltake Int (bytesInts y18.1) (minus (512 : Int) y19.1))) (iadd IntKind.i64 (iadd IntKind.i64 y20.1 (6 : Int)) (1 : Int))) (fun (y21 : Int) => obind (@idx Int (@over Int (@over Int (@over Int (@over Int (@over Int (@over Int (@over Int (@over Int (@over Int (@over Int ((List.replicate 512 (0 : Int)) : List (Int)) y3.1 (@ltake Int (bytesInts x.1.1) (minus (512 : Int) y3.1))) y5.1 (@ltake Int (bytesInts y4.1) (minus (512 : Int) y5.1))) y7.1 (@ltake Int (bytesInts y6.1) (minus (512 : Int) y7.1))) y9.1 (@ltake Int (bytesInts y8.1) (minus (512 : Int) y9.1))) y11.1 (@ltake Int (bytesInts y10.1) (minus (512 : Int) y11.1))) y13.1 (@ltake Int (bytesInts y12.1) (minus (512 : Int) y13.1))) y14.1 (@ltake Int (bytesInts (@sub UInt8 ([(48 : UInt8), (53 : UInt8), (50 : UInt8)] : List (UInt8)) (isub IntKind.i64 x.1.2.1 (1 : Int)) (minus x.1.2.1 (isub IntKind.i64 x.1.2.1 (1 : Int))))) (minus (512 : Int) y14.1))) y15.1 (@ltake Int (bytesInts x.1.2.2.2.2.2.2.2.1) (minus (512 : Int) y15.1))) y16.1 (@ltake Int (bytesInts ([(117 : UInt8), (115 : UInt8), (116 : UInt8), (97 : UInt8), (114 : UInt8), (0 : UInt8), (48 : UInt8), (48 : UInt8)] : List (UInt8))) (minus (512 : Int) y16.1))) y19.1 (@ltake Int (bytesInts y18.1) (minus (512 : Int) y19.1))) (iadd IntKind.i64 (iadd IntKind.i64 y20.1 (6 : Int)) (1 : Int))) (fun (y22 : Int) => obind (@idx Int (@over Int (@over Int (@over Int (@over Int (@over Int (@over Int (@over Int (@over Int (@over Int (@over Int ((List.replicate 512 (0 : Int)) : List (Int)) y3.1 (@ltake Int (bytesInts x.1.1) (minus (512 : Int) y3.1))) y5.1 (@ltake Int (bytesInts y4.1) (minus (512 : Int) y5.1))) y7.1 (@ltake Int (bytesInts y6.1) (minus (512 : Int) y7.1))) y9.1 (@ltake Int (bytesInts y8.1) (minus (512 : Int) y9.1))) y11.1 (@ltake Int (bytesInts y10.1) (minus (512 : Int) y11.1))) y13.1 (@ltake Int (bytesInts y12.1) (minus (512 : Int) y13.1))) y14.1 (@ltake Int (bytesInts (@sub UInt8 ([(48 : UInt8), (53 : UInt8), (50 : UInt8)] : List (UInt8)) (isub IntKind.i64 x.1.2.1 (1 : Int)) (minus x.1.2.1 (isub IntKind.i64 x.1.2.1 (1 : Int))))) (minus (512 : Int) y14.1))) y15.1 (@ltake Int (bytesInts x.1.2.2.2.2.2.2.2.1) (minus (512 : Int) y15.1))) y16.1 (@ltake Int (bytesInts ([(117 : UInt8), (115 : UInt8), (116 : UInt8), (97 : UInt8), (114 : UInt8), (0 : UInt8), (48 : UInt8), (48 : UInt8)] : List (UInt8))) (minus (512 : Int) y16.1))) y19.1 (@ltake Int (bytesInts y18.1) (minus (512 : Int) y19.1))) (iadd IntKind.i64 (iadd IntKind.i64 y20.1 (6 : Int)) (1 : Int))) (fun (y23 : Int) => sel (inside (0 : Int) (512 : Int) (512 : Int))
  (some (intsBytes (@sub Int (@lset Int (@over Int (@over Int (@over Int (@over Int (@over Int (@over Int (@over Int (@over Int (@over Int (@over Int ((List.replicate 512 (0 : Int)) : List (Int)) y3.1 (@ltake Int (bytesInts x.1.1) (minus (512 : Int) y3.1))) y5.1 (@ltake Int (bytesInts y4.1) (minus (512 : Int) y5.1))) y7.1 (@ltake Int (bytesInts y6.1) (minus (512 : Int) y7.1))) y9.1 (@ltake Int (bytesInts y8.1) (minus (512 : Int) y9.1))) y11.1 (@ltake Int (bytesInts y10.1) (minus (512 : Int) y11.1))) y13.1 (@ltake Int (bytesInts y12.1) (minus (512 : Int) y13.1))) y14.1 (@ltake Int (bytesInts (@sub UInt8 ([(48 : UInt8), (53 : UInt8), (50 : UInt8)] : List (UInt8)) (isub IntKind.i64 x.1.2.1 (1 : Int)) (minus x.1.2.1 (isub IntKind.i64 x.1.2.1 (1 : Int))))) (minus (512 : Int) y14.1))) y15.1 (@ltake Int (bytesInts x.1.2.2.2.2.2.2.2.1) (minus (512 : Int) y15.1))) y16.1 (@ltake Int (bytesInts ([(117 : UInt8), (115 : UInt8), (116 : UInt8), (97 : UInt8), (114 : UInt8), (0 : UInt8), (48 : UInt8), (48 : UInt8)] : List (UInt8))) (minus (512 : Int) y16.1))) y19.1 (@ltake Int (bytesInts y18.1) (minus (512 : Int) y19.1))) (iadd IntKind.i64 (iadd IntKind.i64 y20.1 (6 : Int)) (1 : Int)) (32 : Int)) (0 : Int) (minus (512 : Int) (0 : Int))), ((0 : Int), ())))
  (none : Option ((List (UInt8)) × Int × Unit))))))
  (none : Option ((List (UInt8)) × Int × Unit))))
  (none : Option ((List (UInt8)) × Int × Unit)))
  (none : Option ((List (UInt8)) × Int × Unit))))
  (none : Option ((List (UInt8)) × Int × Unit)))))
  (none : Option ((List (UInt8)) × Int × Unit)))
  (none : Option ((List (UInt8)) × Int × Unit))))
  (none : Option ((List (UInt8)) × Int × Unit)))
  (none : Option ((List (UInt8)) × Int × Unit))))
  (none : Option ((List (UInt8)) × Int × Unit)))
  (none : Option ((List (UInt8)) × Int × Unit))))
  (none : Option ((List (UInt8)) × Int × Unit)))
  (none : Option ((List (UInt8)) × Int × Unit)))
  (none : Option ((List (UInt8)) × Int × Unit))))
  (none : Option ((List (UInt8)) × Int × Unit))))
  (none : Option ((List (UInt8)) × Int × Unit))))
  (none : Option ((List (UInt8)) × Int × Unit))))
  (none : Option ((List (UInt8)) × Int × Unit))))
  (none : Option ((List (UInt8)) × Int × Unit))))
  (none : Option ((List (UInt8)) × Int × Unit))))
  (none : Option ((List (UInt8)) × Int × Unit))))
  (none : Option ((List (UInt8)) × Int × Unit))))
  (none : Option ((List (UInt8)) × Int × Unit))))
  (none : Option ((List (UInt8)) × Int × Unit))))
  (none : Option ((List (UInt8)) × Int × Unit)))))

noncomputable def P_header_of (x : (List (UInt8)) × Int × Unit) : Option ((List (UInt8)) × Unit) :=
  obind (P_header_fields ()) (fun (y1 : (List (Int × Int × Unit)) × Unit) => obind (@idx (Int × Int × Unit) y1.1 x.2.1) (fun (y2 : Int × Int × Unit) => sel (inside y2.1 (iadd IntKind.i64 y2.1 y2.2.1) (@len UInt8 x.1))
  (some (@sub UInt8 x.1 y2.1 (minus (iadd IntKind.i64 y2.1 y2.2.1) y2.1), ()))
  (none : Option ((List (UInt8)) × Unit))))

noncomputable def P_strings_trimRightByte_L0 (x : (List (UInt8)) × Int × Unit) (y1 : ((List (UInt8)) × Unit) × Unit) : Option ((((List (UInt8)) × Unit) × Unit) ⊕ (((List (UInt8)) × Unit) × Unit)) :=
  @way1 (((List (UInt8)) × Unit) × Unit) (obind (sel (ltI (0 : Int) (@len UInt8 y1.1.1))
  (obind (@idx UInt8 y1.1.1 (isub IntKind.i64 (@len UInt8 y1.1.1) (1 : Int))) (fun (y2 : UInt8) => some (eqI (u8 y2) x.2.1)))
  (some false)) (fun (y2 : Bool) => sel y2
  (sel (inside (0 : Int) (isub IntKind.i64 (@len UInt8 y1.1.1) (1 : Int)) (@len UInt8 y1.1.1))
  (some (Sum.inl ((@sub UInt8 y1.1.1 (0 : Int) (minus (isub IntKind.i64 (@len UInt8 y1.1.1) (1 : Int)) (0 : Int)), ()), ()) : ((((List (UInt8)) × Unit) × Unit)) ⊕ ((Nat × ((List (UInt8)) × Unit) × Unit))))
  (none : Option ((((List (UInt8)) × Unit) × Unit) ⊕ (Nat × ((List (UInt8)) × Unit) × Unit))))
  (some (Sum.inr ((0 : Nat), ((y1.1.1, ()), ())) : ((((List (UInt8)) × Unit) × Unit)) ⊕ ((Nat × ((List (UInt8)) × Unit) × Unit))))))

noncomputable def P_strings_trimRightByte (x : (List (UInt8)) × Int × Unit) : Option ((List (UInt8)) × Unit) :=
  obind (Loop (P_strings_trimRightByte_L0 x) ((x.1, ()), ())) (fun (y1 : ((List (UInt8)) × Unit) × Unit) => some (y1.1.1, ()))

noncomputable def P_strings_makeASCIISet_L0 (x : (List (UInt8)) × Unit) (y1 : (Bool × Int × Unit) × (List (Bool)) × Unit) : Option (((Bool × Int × Unit) × (List (Bool)) × Unit) ⊕ (Nat × (Bool × Int × Unit) × (List (Bool)) × Unit)) :=
  sel (ltI y1.1.2.1 (@len UInt8 x.1))
  (obind (@idx UInt8 x.1 y1.1.2.1) (fun (y2 : UInt8) => sel (leI (128 : Int) (u8 y2))
  (some (Sum.inr ((1 : Nat), ((false, (y1.1.2.1, ())), (y1.2.1, ()))) : (((Bool × Int × Unit) × (List (Bool)) × Unit)) ⊕ ((Nat × (Bool × Int × Unit) × (List (Bool)) × Unit))))
  (sel (within (u8 y2) (256 : Int))
  (obind (@idx Bool y1.2.1 (u8 y2)) (fun (y3 : Bool) => obind (@idx Bool y1.2.1 (u8 y2)) (fun (y4 : Bool) => obind (@idx Bool y1.2.1 (u8 y2)) (fun (y5 : Bool) => some (Sum.inl ((y1.1.1, (iadd IntKind.i64 y1.1.2.1 (1 : Int), ())), (@lset Bool y1.2.1 (u8 y2) true, ())) : (((Bool × Int × Unit) × (List (Bool)) × Unit)) ⊕ ((Nat × (Bool × Int × Unit) × (List (Bool)) × Unit)))))))
  (none : Option (((Bool × Int × Unit) × (List (Bool)) × Unit) ⊕ (Nat × (Bool × Int × Unit) × (List (Bool)) × Unit))))))
  (some (Sum.inr ((0 : Nat), ((y1.1.1, (y1.1.2.1, ())), (y1.2.1, ()))) : (((Bool × Int × Unit) × (List (Bool)) × Unit)) ⊕ ((Nat × (Bool × Int × Unit) × (List (Bool)) × Unit))))

noncomputable def P_strings_makeASCIISet (x : (List (UInt8)) × Unit) : Option ((List (Bool)) × Bool × Unit) :=
  obind (Loop (P_strings_makeASCIISet_L0 x) ((false, ((0 : Int), ())), (([false, false, false, false, false, false, false, false, false, false, false, false, false, false, false, false, false, false, false, false, false, false, false, false, false, false, false, false, false, false, false, false, false, false, false, false, false, false, false, false, false, false, false, false, false, false, false, false, false, false, false, false, false, false, false, false, false, false, false, false, false, false, false, false, false, false, false, false, false, false, false, false, false, false, false, false, false, false, false, false, false, false, false, false, false, false, false, false, false, false, false, false, false, false, false, false, false, false, false, false, false, false, false, false, false, false, false, false, false, false, false, false, false, false, false, false, false, false, false, false, false, false, false, false, false, false, false, false, false, false, false, false, false, false, false, false, false, false, false, false, false, false, false, false, false, false, false, false, false, false, false, false, false, false, false, false, false, false, false, false, false, false, false, false, false, false, false, false, false, false, false, false, false, false, false, false, false, false, false, false, false, false, false, false, false, false, false, false, false, false, false, false, false, false, false, false, false, false, false, false, false, false, false, false, false, false, false, false, false, false, false, false, false, false, false, false, false, false, false, false, false, false, false, false, false, false, false, false, false, false, false, false, false, false, false, false, false, false, false, false, false, false, false, false, false, false, false, false, false, false, false, false, false, false, false, false] : List (Bool)), ()))) (fun (y1 : Nat × (Bool × Int × Unit) × (List (Bool)) × Unit) => sel (eqN y1.1 (0 : Nat))
  (some (y1.2.2.1, (true, ())))
  (some (y1.2.2.1, (y1.2.1.1, ()))))

noncomputable def P_strings_asciiSet_contains (x : (Int × Unit) × (List (Bool)) × Unit) : Option ((Bool × Unit) × (List (Bool)) × Unit) :=
  sel (within x.1.1 (256 : Int))
  (obind (@idx Bool x.2.1 x.1.1) (fun (y1 : Bool) => some ((y1, ()), (x.2.1, ()))))
  (none : Option ((Bool × Unit) × (List (Bool)) × Unit))

noncomputable def P_strings_trimRightASCII_L0 (y1 : ((List (UInt8)) × Unit) × (List (Bool)) × Unit) : Option ((((List (UInt8)) × Unit) × (List (Bool)) × Unit) ⊕ (((List (UInt8)) × Unit) × (List (Bool)) × Unit)) :=
  @way1 (((List (UInt8)) × Unit) × (List (Bool)) × Unit) (sel (ltI (0 : Int) (@len UInt8 y1.1.1))
  (obind (@idx UInt8 y1.1.1 (isub IntKind.i64 (@len UInt8 y1.1.1) (1 : Int))) (fun (y2 : UInt8) => obind (P_strings_asciiSet_contains ((u8 y2, ()), (y1.2.1, ()))) (fun (y3 : (Bool × Unit) × (List (Bool)) × Unit) => sel (nt y3.1.1)
  (some (Sum.inr ((0 : Nat), ((y1.1.1, ()), (y3.2.1, ()))) : ((((List (UInt8)) × Unit) × (List (Bool)) × Unit)) ⊕ ((Nat × ((List (UInt8)) × Unit) × (List (Bool)) × Unit))))
  (sel (inside (0 : Int) (isub IntKind.i64 (@len UInt8 y1.1.1) (1 : Int)) (@len UInt8 y1.1.1))
  (some (Sum.inl ((@sub UInt8 y1.1.1 (0 : Int) (minus (isub IntKind.i64 (@len UInt8 y1.1.1) (1 : Int)) (0 : Int)), ()), (y3.2.1, ())) : ((((List (UInt8)) × Unit) × (List (Bool)) × Unit)) ⊕ ((Nat × ((List (UInt8)) × Unit) × (List (Bool)) × Unit))))
  (none : Option ((((List (UInt8)) × Unit) × (List (Bool)) × Unit) ⊕ (Nat × ((List (UInt8)) × Unit) × (List (Bool)) × Unit)))))))
  (some (Sum.inr ((0 : Nat), ((y1.1.1, ()), (y1.2.1, ()))) : ((((List (UInt8)) × Unit) × (List (Bool)) × Unit)) ⊕ ((Nat × ((List (UInt8)) × Unit) × (List (Bool)) × Unit)))))

noncomputable def P_strings_trimRightASCII (x : ((List (UInt8)) × Unit) × (List (Bool)) × Unit) : Option (((List (UInt8)) × Unit) × (List (Bool)) × Unit) :=
  obind (Loop (P_strings_trimRightASCII_L0) ((x.1.1, ()), (x.2.1, ()))) (fun (y1 : ((List (UInt8)) × Unit) × (List (Bool)) × Unit) => some ((y1.1.1, ()), (y1.2.1, ())))

noncomputable def P_strings_TrimRight (x : (List (UInt8)) × (List (UInt8)) × Unit) : Option ((List (UInt8)) × Unit) :=
  sel (sel (nt (eqS x.1 ([] : List (UInt8))))
  (eqS x.2.1 ([] : List (UInt8)))
  true)
  (some (x.1, ()))
  (obind (sel (eqI (@len UInt8 x.2.1) (1 : Int))
  (obind (@idx UInt8 x.2.1 (0 : Int)) (fun (y1 : UInt8) => some (ltI (u8 y1) (128 : Int))))
  (some false)) (fun (y1 : Bool) => sel y1
  (obind (@idx UInt8 x.2.1 (0 : Int)) (fun (y2 : UInt8) => obind (P_strings_trimRightByte (x.1, (u8 y2, ()))) (fun (y3 : (List (UInt8)) × Unit) => some (y3.1, ()))))
  (obind (P_strings_makeASCIISet (x.2.1, ())) (fun (y2 : (List (Bool)) × Bool × Unit) => sel y2.2.1
  (obind (P_strings_trimRightASCII ((x.1, ()), (y2.1, ()))) (fun (y3 : ((List (UInt8)) × Unit) × (List (Bool)) × Unit) => some (y3.1.1, ())))
  (none : Option ((List (UInt8)) × Unit))))))

noncomputable def P_digits_FromOctal_L0 (x : (List (UInt8)) × Unit) (y1 : (Int × Bool × Int × Int × Unit) × Unit) : Option (((Int × Bool × Int × Int × Unit) × Unit) ⊕ (Nat × (Int × Bool × Int × Int × Unit) × Unit)) :=
  sel (ltI y1.1.2.2.2.1 (@len Int (bytesInts x.1)))
  (sel (within y1.1.2.2.2.1 (@len Int (bytesInts x.1)))
  (obind (@idx Int (bytesInts x.1) y1.1.2.2.2.1) (fun (y2 : Int) => sel (sel (nt (ltI y2 (48 : Int)))
  (ltI (55 : Int) y2)
  true)
  (some (Sum.inr ((1 : Nat), (((0 : Int), (false, (y1.1.2.2.1, (y1.1.2.2.2.1, ())))), ())) : (((Int × Bool × Int × Int × Unit) × Unit)) ⊕ ((Nat × (Int × Bool × Int × Int × Unit) × Unit))))
  (sel (ltI (3 : Int) (0 : Int))
  (none : Option (((Int × Bool × Int × Int × Unit) × Unit) ⊕ (Nat × (Int × Bool × Int × Int × Unit) × Unit)))
  (some (Sum.inl ((y1.1.1, (y1.1.2.1, (ior IntKind.i64 (ishl IntKind.i64 y1.1.2.2.1 (3 : Int)) (icv IntKind.i64 (isub IntKind.u8 y2 (48 : Int))), (iadd IntKind.i64 y1.1.2.2.2.1 (1 : Int), ())))), ()) : (((Int × Bool × Int × Int × Unit) × Unit)) ⊕ ((Nat × (Int × Bool × Int × Int × Unit) × Unit)))))))
  (none : Option (((Int × Bool × Int × Int × Unit) × Unit) ⊕ (Nat × (Int × Bool × Int × Int × Unit) × Unit))))
  (some (Sum.inr ((0 : Nat), ((y1.1.1, (y1.1.2.1, (y1.1.2.2.1, (y1.1.2.2.2.1, ())))), ())) : (((Int × Bool × Int × Int × Unit) × Unit)) ⊕ ((Nat × (Int × Bool × Int × Int × Unit) × Unit))))

noncomputable def P_digits_FromOctal (x : (List (UInt8)) × Unit) : Option (Int × Bool × Unit) :=
  sel (sel (nt (ltI (@len UInt8 x.1) (1 : Int)))
  (ltI (21 : Int) (@len UInt8 x.1))
  true)
  (some ((0 : Int), (false, ())))
  (sel (fits (@len UInt8 x.1))
  (obind (Loop (P_digits_FromOctal_L0 x) (((0 : Int), (false, ((0 : Int), ((0 : Int), ())))), ())) (fun (y1 : Nat × (Int × Bool × Int × Int × Unit) × Unit) => sel (eqN y1.1 (0 : Nat))
  (some (y1.2.1.2.2.1, (true, ())))
  (some (y1.2.1.1, (y1.2.1.2.1, ())))))
  (none : Option (Int × Bool × Unit)))

noncomputable def P_header_number (x : (List (UInt8)) × Unit) : Option (Int × Unit) :=
  obind (P_strings_TrimRight (x.1, (([(0 : UInt8), (32 : UInt8)] : List (UInt8)), ()))) (fun (y1 : (List (UInt8)) × Unit) => obind (P_digits_FromOctal (y1.1, ())) (fun (y2 : Int × Bool × Unit) => sel (sel (nt (nt y2.2.1))
  (eqI (@len UInt8 y1.1) (@len UInt8 x.1))
  true)
  (some ((-1 : Int), ()))
  (some (y2.1, ()))))

noncomputable def P_header_text (x : (List (UInt8)) × Unit) : Option ((List (UInt8)) × Bool × Unit) :=
  obind (P_strings_TrimRight (x.1, (([(0 : UInt8)] : List (UInt8)), ()))) (fun (y1 : (List (UInt8)) × Unit) => obind (P_strings_IndexByte (y1.1, ((0 : Int), ()))) (fun (y2 : Int × Unit) => some (y1.1, (ltI y2.1 (0 : Int), ()))))

noncomputable def P_header_Take (x : (List (UInt8)) × Unit) : Option (((List (UInt8)) × Int × Int × Int × Int × Int × Int × (List (UInt8)) × Unit) × Int × Unit) :=
  obind (sel (nt (nt (eqI (@len UInt8 x.1) (512 : Int))))
  (obind (P_header_of (x.1, ((9 : Int), ()))) (fun (y1 : (List (UInt8)) × Unit) => some (nt (eqS y1.1 ([(117 : UInt8), (115 : UInt8), (116 : UInt8), (97 : UInt8), (114 : UInt8), (0 : UInt8), (48 : UInt8), (48 : UInt8)] : List (UInt8))))))
  (some true)) (fun (y1 : Bool) => obind (sel (nt y1)
  (obind (P_header_of (x.1, ((6 : Int), ()))) (fun (y2 : (List (UInt8)) × Unit) => obind (P_header_number (y2.1, ())) (fun (y3 : Int × Unit) => obind (P_header_Sum (x.1, ())) (fun (y4 : Int × Unit) => some (nt (eqI y3.1 y4.1))))))
  (some true)) (fun (y2 : Bool) => sel y2
  (some ((([] : List (UInt8)), ((0 : Int), ((0 : Int), ((0 : Int), ((0 : Int), ((0 : Int), ((0 : Int), (([] : List (UInt8)), ())))))))), ((2 : Int), ())))
  (obind (P_header_of (x.1, ((0 : Int), ()))) (fun (y3 : (List (UInt8)) × Unit) => obind (P_header_text (y3.1, ())) (fun (y4 : (List (UInt8)) × Bool × Unit) => obind (P_header_of (x.1, ((8 : Int), ()))) (fun (y5 : (List (UInt8)) × Unit) => obind (P_header_text (y5.1, ())) (fun (y6 : (List (UInt8)) × Bool × Unit) => obind (P_header_of (x.1, ((10 : Int), ()))) (fun (y7 : (List (UInt8)) × Unit) => obind (P_header_text (y7.1, ())) (fun (y8 : (List (UInt8)) × Bool × Unit) => obind (sel (nt (eqS y8.1 ([] : List (UInt8))))
  (sel (fits (plus (@len UInt8 y8.1) (@len UInt8 ([(47 : UInt8)] : List (UInt8)))))
  (sel (fits (plus (@len UInt8 (@app UInt8 y8.1 ([(47 : UInt8)] : List (UInt8)))) (@len UInt8 y4.1)))
  (some ((@app UInt8 (@app UInt8 y8.1 ([(47 : UInt8)] : List (UInt8))) y4.1, ()), ()))
  (none : Option (((List (UInt8)) × Unit) × Unit)))
  (none : Option (((List (UInt8)) × Unit) × Unit)))
  (some ((y4.1, ()), ()))) (fun (y9 : ((List (UInt8)) × Unit) × Unit) => obind (P_header_of (x.1, ((1 : Int), ()))) (fun (y10 : (List (UInt8)) × Unit) => obind (P_header_number (y10.1, ())) (fun (y11 : Int × Unit) => obind (P_header_of (x.1, ((2 : Int), ()))) (fun (y12 : (List (UInt8)) × Unit) => obind (P_header_number (y12.1, ())) (fun (y13 : Int × Unit) => obind (P_header_of (x.1, ((3 : Int), ()))) (fun (y14 : (List (UInt8)) × Unit) => obind (P_header_number (y14.1, ())) (fun (y15 : Int × Unit) => obind (P_header_of (x.1, ((4 : Int), ()))) (fun (y16 : (List (UInt8)) × Unit) => obind (P_header_number (y16.1, ())) (fun (y17 : Int × Unit) => obind (P_header_of (x.1, ((5 : Int), ()))) (fun (y18 : (List (UInt8)) × Unit) => obind (P_header_number (y18.1, ())) (fun (y19 : Int × Unit) => obind (P_header_of (x.1, ((7 : Int), ()))) (fun (y20 : (List (UInt8)) × Unit) => obind (sel (nt (sel (nt (sel (nt (nt y4.2.1))
  (nt y6.2.1)
  true))
  (nt y8.2.1)
  true))
  (obind (P_header_is (((sel (((sel (eqS y20.1 ([(48 : UInt8)] : List (UInt8)))
  ((eqS y20.1 ([(48 : UInt8)] : List (UInt8)), ()), ())
  ((eqS y20.1 ([(0 : UInt8)] : List (UInt8)), ()), ())).1).1)
  ((), ((y9.1.1, ((1 : Int), (y11.1, (y13.1, (y15.1, (y17.1, (y19.1, (([] : List (UInt8)), ())))))))), ()))
  ((), (((sel (eqS y20.1 ([(53 : UInt8)] : List (UInt8)))
  ((), ((y9.1.1, ((2 : Int), (y11.1, (y13.1, (y15.1, (y17.1, (y19.1, (([] : List (UInt8)), ())))))))), ()))
  ((), (((sel (eqS y20.1 ([(50 : UInt8)] : List (UInt8)))
  ((), ((y9.1.1, ((3 : Int), (y11.1, (y13.1, (y15.1, (y17.1, (y19.1, (y6.1, ())))))))), ()))
  ((), ((y9.1.1, ((0 : Int), (y11.1, (y13.1, (y15.1, (y17.1, (y19.1, (([] : List (UInt8)), ())))))))), ()))).2).1, ()))).2).1, ()))).2).1, ((256 : Int), ()))) (fun (y21 : Bool × Unit) => some (nt y21.1)))
  (some true)) (fun (y21 : Bool) => sel y21
  (some ((([] : List (UInt8)), ((0 : Int), ((0 : Int), ((0 : Int), ((0 : Int), ((0 : Int), ((0 : Int), (([] : List (UInt8)), ())))))))), ((2 : Int), ())))
  (some (((sel (((sel (eqS y20.1 ([(48 : UInt8)] : List (UInt8)))
  ((eqS y20.1 ([(48 : UInt8)] : List (UInt8)), ()), ())
  ((eqS y20.1 ([(0 : UInt8)] : List (UInt8)), ()), ())).1).1)
  ((), ((y9.1.1, ((1 : Int), (y11.1, (y13.1, (y15.1, (y17.1, (y19.1, (([] : List (UInt8)), ())))))))), ()))
  ((), (((sel (eqS y20.1 ([(53 : UInt8)] : List (UInt8)))
  ((), ((y9.1.1, ((2 : Int), (y11.1, (y13.1, (y15.1, (y17.1, (y19.1, (([] : List (UInt8)), ())))))))), ()))
  ((), (((sel (eqS y20.1 ([(50 : UInt8)] : List (UInt8)))
  ((), ((y9.1.1, ((3 : Int), (y11.1, (y13.1, (y15.1, (y17.1, (y19.1, (y6.1, ())))))))), ()))
  ((), ((y9.1.1, ((0 : Int), (y11.1, (y13.1, (y15.1, (y17.1, (y19.1, (([] : List (UInt8)), ())))))))), ()))).2).1, ()))).2).1, ()))).2).1, ((0 : Int), ())))))))))))))))))))))))))

noncomputable def P_strings_trimLeftByte_L0 (x : (List (UInt8)) × Int × Unit) (y1 : ((List (UInt8)) × Unit) × Unit) : Option ((((List (UInt8)) × Unit) × Unit) ⊕ (((List (UInt8)) × Unit) × Unit)) :=
  @way1 (((List (UInt8)) × Unit) × Unit) (obind (sel (ltI (0 : Int) (@len UInt8 y1.1.1))
  (obind (@idx UInt8 y1.1.1 (0 : Int)) (fun (y2 : UInt8) => some (eqI (u8 y2) x.2.1)))
  (some false)) (fun (y2 : Bool) => sel y2
  (sel (inside (1 : Int) (@len UInt8 y1.1.1) (@len UInt8 y1.1.1))
  (some (Sum.inl ((@sub UInt8 y1.1.1 (1 : Int) (minus (@len UInt8 y1.1.1) (1 : Int)), ()), ()) : ((((List (UInt8)) × Unit) × Unit)) ⊕ ((Nat × ((List (UInt8)) × Unit) × Unit))))
  (none : Option ((((List (UInt8)) × Unit) × Unit) ⊕ (Nat × ((List (UInt8)) × Unit) × Unit))))
  (some (Sum.inr ((0 : Nat), ((y1.1.1, ()), ())) : ((((List (UInt8)) × Unit) × Unit)) ⊕ ((Nat × ((List (UInt8)) × Unit) × Unit))))))

noncomputable def P_strings_trimLeftByte (x : (List (UInt8)) × Int × Unit) : Option ((List (UInt8)) × Unit) :=
  obind (Loop (P_strings_trimLeftByte_L0 x) ((x.1, ()), ())) (fun (y1 : ((List (UInt8)) × Unit) × Unit) => some (y1.1.1, ()))

noncomputable def P_strings_trimLeftASCII_L0 (y1 : ((List (UInt8)) × Unit) × (List (Bool)) × Unit) : Option ((((List (UInt8)) × Unit) × (List (Bool)) × Unit) ⊕ (((List (UInt8)) × Unit) × (List (Bool)) × Unit)) :=
  @way1 (((List (UInt8)) × Unit) × (List (Bool)) × Unit) (sel (ltI (0 : Int) (@len UInt8 y1.1.1))
  (obind (@idx UInt8 y1.1.1 (0 : Int)) (fun (y2 : UInt8) => obind (P_strings_asciiSet_contains ((u8 y2, ()), (y1.2.1, ()))) (fun (y3 : (Bool × Unit) × (List (Bool)) × Unit) => sel (nt y3.1.1)
  (some (Sum.inr ((0 : Nat), ((y1.1.1, ()), (y3.2.1, ()))) : ((((List (UInt8)) × Unit) × (List (Bool)) × Unit)) ⊕ ((Nat × ((List (UInt8)) × Unit) × (List (Bool)) × Unit))))
  (sel (inside (1 : Int) (@len UInt8 y1.1.1) (@len UInt8 y1.1.1))
  (some (Sum.inl ((@sub UInt8 y1.1.1 (1 : Int) (minus (@len UInt8 y1.1.1) (1 : Int)), ()), (y3.2.1, ())) : ((((List (UInt8)) × Unit) × (List (Bool)) × Unit)) ⊕ ((Nat × ((List (UInt8)) × Unit) × (List (Bool)) × Unit))))
  (none : Option ((((List (UInt8)) × Unit) × (List (Bool)) × Unit) ⊕ (Nat × ((List (UInt8)) × Unit) × (List (Bool)) × Unit)))))))
  (some (Sum.inr ((0 : Nat), ((y1.1.1, ()), (y1.2.1, ()))) : ((((List (UInt8)) × Unit) × (List (Bool)) × Unit)) ⊕ ((Nat × ((List (UInt8)) × Unit) × (List (Bool)) × Unit)))))

noncomputable def P_strings_trimLeftASCII (x : ((List (UInt8)) × Unit) × (List (Bool)) × Unit) : Option (((List (UInt8)) × Unit) × (List (Bool)) × Unit) :=
  obind (Loop (P_strings_trimLeftASCII_L0) ((x.1.1, ()), (x.2.1, ()))) (fun (y1 : ((List (UInt8)) × Unit) × (List (Bool)) × Unit) => some ((y1.1.1, ()), (y1.2.1, ())))

noncomputable def P_strings_Trim (x : (List (UInt8)) × (List (UInt8)) × Unit) : Option ((List (UInt8)) × Unit) :=
  sel (sel (nt (eqS x.1 ([] : List (UInt8))))
  (eqS x.2.1 ([] : List (UInt8)))
  true)
  (some (x.1, ()))
  (obind (sel (eqI (@len UInt8 x.2.1) (1 : Int))
  (obind (@idx UInt8 x.2.1 (0 : Int)) (fun (y1 : UInt8) => some (ltI (u8 y1) (128 : Int))))
  (some false)) (fun (y1 : Bool) => sel y1
  (obind (@idx UInt8 x.2.1 (0 : Int)) (fun (y2 : UInt8) => obind (P_strings_trimRightByte (x.1, (u8 y2, ()))) (fun (y3 : (List (UInt8)) × Unit) => obind (@idx UInt8 x.2.1 (0 : Int)) (fun (y4 : UInt8) => obind (P_strings_trimLeftByte (y3.1, (u8 y4, ()))) (fun (y5 : (List (UInt8)) × Unit) => some (y5.1, ()))))))
  (obind (P_strings_makeASCIISet (x.2.1, ())) (fun (y2 : (List (Bool)) × Bool × Unit) => sel y2.2.1
  (obind (P_strings_trimRightASCII ((x.1, ()), (y2.1, ()))) (fun (y3 : ((List (UInt8)) × Unit) × (List (Bool)) × Unit) => obind (P_strings_trimLeftASCII ((y3.1.1, ()), (y3.2.1, ()))) (fun (y4 : ((List (UInt8)) × Unit) × (List (Bool)) × Unit) => some (y4.1.1, ()))))
  (none : Option ((List (UInt8)) × Unit))))))

noncomputable def P_header_Zero (x : (List (UInt8)) × Unit) : Option (Bool × Unit) :=
  obind (sel (eqI (@len UInt8 x.1) (512 : Int))
  (obind (P_strings_Trim (x.1, (([(0 : UInt8)] : List (UInt8)), ()))) (fun (y1 : (List (UInt8)) × Unit) => some (eqS y1.1 ([] : List (UInt8)))))
  (some false)) (fun (y1 : Bool) => some (y1, ()))

noncomputable def P_law12_awake (x : Unit) : Option (Bool × Unit) :=
  obind (P_header_Put ((([(100 : UInt8), (47 : UInt8)] : List (UInt8)), ((2 : Int), ((493 : Int), ((0 : Int), ((0 : Int), ((0 : Int), ((1 : Int), (([] : List (UInt8)), ())))))))), ())) (fun (y1 : (List (UInt8)) × Int × Unit) => obind (P_header_Take (y1.1, ())) (fun (y2 : ((List (UInt8)) × Int × Int × Int × Int × Int × Int × (List (UInt8)) × Unit) × Int × Unit) => obind (P_header_Put ((([(100 : UInt8)] : List (UInt8)), ((2 : Int), ((0 : Int), ((0 : Int), ((0 : Int), ((1 : Int), ((0 : Int), (([] : List (UInt8)), ())))))))), ())) (fun (y3 : (List (UInt8)) × Int × Unit) => obind (sel (sel (eqI (@len UInt8 y1.1) (512 : Int))
  (eqI y1.2.1 (0 : Int))
  false)
  (sel (inside (100 : Int) (108 : Int) (@len UInt8 y1.1))
  (some (eqS (@sub UInt8 y1.1 (100 : Int) (minus (108 : Int) (100 : Int))) ([(48 : UInt8), (48 : UInt8), (48 : UInt8), (48 : UInt8), (55 : UInt8), (53 : UInt8), (53 : UInt8), (0 : UInt8)] : List (UInt8))))
  (none : Option (Bool)))
  (some false)) (fun (y4 : Bool) => obind (sel y4
  (obind (@idx UInt8 y1.1 (156 : Int)) (fun (y5 : UInt8) => some (eqI (u8 y5) (53 : Int))))
  (some false)) (fun (y5 : Bool) => obind (sel (sel (sel (sel y5
  (an (eqS y2.1.1 ([(100 : UInt8), (47 : UInt8)] : List (UInt8))) (an (eqI y2.1.2.1 (2 : Int)) (an (eqI y2.1.2.2.1 (493 : Int)) (an (eqI y2.1.2.2.2.1 (0 : Int)) (an (eqI y2.1.2.2.2.2.1 (0 : Int)) (an (eqI y2.1.2.2.2.2.2.1 (0 : Int)) (an (eqI y2.1.2.2.2.2.2.2.1 (1 : Int)) (an (eqS y2.1.2.2.2.2.2.2.2.1 ([] : List (UInt8))) true))))))))
  false)
  (eqI y2.2.1 (0 : Int))
  false)
  (eqI y3.2.1 (1 : Int))
  false)
  (obind (P_header_Zero (y1.1, ())) (fun (y6 : Bool × Unit) => some (nt y6.1)))
  (some false)) (fun (y6 : Bool) => obind (sel y6
  (sel (inside (0 : Int) (512 : Int) (512 : Int))
  (sel (fits (512 : Int))
  (obind (P_header_Zero (intsBytes (@lrep Int (512 : Int) (0 : Int)), ())) (fun (y7 : Bool × Unit) => some y7.1))
  (none : Option (Bool)))
  (none : Option (Bool)))
  (some false)) (fun (y7 : Bool) => some (y7, ()))))))))

noncomputable def P_ref12_clear_L0 (x : (List (UInt8)) × Int × Unit) (y1 : (Bool × Int × Unit) × Unit) : Option (((Bool × Int × Unit) × Unit) ⊕ (Nat × (Bool × Int × Unit) × Unit)) :=
  sel (ltI y1.1.2.1 (@len UInt8 x.1))
  (obind (@idx UInt8 x.1 y1.1.2.1) (fun (y2 : UInt8) => sel (eqI (u8 y2) (0 : Int))
  (some (Sum.inr ((1 : Nat), ((false, (y1.1.2.1, ())), ())) : (((Bool × Int × Unit) × Unit)) ⊕ ((Nat × (Bool × Int × Unit) × Unit))))
  (some (Sum.inl ((y1.1.1, (iadd IntKind.i64 y1.1.2.1 (1 : Int), ())), ()) : (((Bool × Int × Unit) × Unit)) ⊕ ((Nat × (Bool × Int × Unit) × Unit))))))
  (some (Sum.inr ((0 : Nat), ((y1.1.1, (y1.1.2.1, ())), ())) : (((Bool × Int × Unit) × Unit)) ⊕ ((Nat × (Bool × Int × Unit) × Unit))))

noncomputable def P_ref12_clear (x : (List (UInt8)) × Int × Unit) : Option (Bool × Unit) :=
  obind (Loop (P_ref12_clear_L0 x) ((false, ((0 : Int), ())), ())) (fun (y1 : Nat × (Bool × Int × Unit) × Unit) => sel (eqN y1.1 (0 : Nat))
  (some (sel (leI (1 : Int) (@len UInt8 x.1))
  (leI (@len UInt8 x.1) x.2.1)
  false, ()))
  (some (y1.2.1.1, ())))

noncomputable def P_ref12_in (x : Int × Int × Unit) : Option (Bool × Unit) :=
  some (sel (leI (0 : Int) x.1)
  (ltI x.1 x.2.1)
  false, ())

noncomputable def P_ref12_may (x : ((List (UInt8)) × Int × Int × Int × Int × Int × Int × (List (UInt8)) × Unit) × Int × Unit) : Option (Bool × Unit) :=
  obind (sel (eqI x.1.2.1 (3 : Int))
  (obind (P_ref12_clear (x.1.2.2.2.2.2.2.2.1, ((100 : Int), ()))) (fun (y1 : Bool × Unit) => some ((y1.1, ()), ())))
  (some ((eqS x.1.2.2.2.2.2.2.2.1 ([] : List (UInt8)), ()), ()))) (fun (y1 : (Bool × Unit) × Unit) => obind (P_ref12_clear (x.1.1, (x.2.1, ()))) (fun (y2 : Bool × Unit) => obind (sel (sel (sel y2.1
  (leI (1 : Int) x.1.2.1)
  false)
  (leI x.1.2.1 (3 : Int))
  false)
  (obind (P_ref12_in (x.1.2.2.1, ((2097152 : Int), ()))) (fun (y3 : Bool × Unit) => some y3.1))
  (some false)) (fun (y3 : Bool) => obind (sel y3
  (obind (P_ref12_in (x.1.2.2.2.1, ((2097152 : Int), ()))) (fun (y4 : Bool × Unit) => some y4.1))
  (some false)) (fun (y4 : Bool) => obind (sel y4
  (obind (P_ref12_in (x.1.2.2.2.2.1, ((2097152 : Int), ()))) (fun (y5 : Bool × Unit) => some y5.1))
  (some false)) (fun (y5 : Bool) => obind (sel y5
  (obind (P_ref12_in (x.1.2.2.2.2.2.1, ((8589934592 : Int), ()))) (fun (y6 : Bool × Unit) => some y6.1))
  (some false)) (fun (y6 : Bool) => obind (sel y6
  (obind (P_ref12_in (x.1.2.2.2.2.2.2.1, ((8589934592 : Int), ()))) (fun (y7 : Bool × Unit) => some y7.1))
  (some false)) (fun (y7 : Bool) => some (sel (sel y7
  (sel (nt (eqI x.1.2.2.2.2.2.1 (0 : Int)))
  (eqI x.1.2.1 (1 : Int))
  true)
  false)
  y1.1.1
  false, ()))))))))

noncomputable def P_ref12_put (x : (List (UInt8)) × Int × (List (UInt8)) × Unit) : Option ((List (UInt8)) × Unit) :=
  sel (inside (0 : Int) x.2.1 (@len UInt8 x.1))
  (sel (fits (plus (@len UInt8 (@sub UInt8 x.1 (0 : Int) (minus x.2.1 (0 : Int)))) (@len UInt8 x.2.2.1)))
  (sel (inside (iadd IntKind.i64 x.2.1 (@len UInt8 x.2.2.1)) (@len UInt8 x.1) (@len UInt8 x.1))
  (sel (fits (plus (@len UInt8 (@app UInt8 (@sub UInt8 x.1 (0 : Int) (minus x.2.1 (0 : Int))) x.2.2.1)) (@len UInt8 (@sub UInt8 x.1 (iadd IntKind.i64 x.2.1 (@len UInt8 x.2.2.1)) (minus (@len UInt8 x.1) (iadd IntKind.i64 x.2.1 (@len UInt8 x.2.2.1)))))))
  (some (@app UInt8 (@app UInt8 (@sub UInt8 x.1 (0 : Int) (minus x.2.1 (0 : Int))) x.2.2.1) (@sub UInt8 x.1 (iadd IntKind.i64 x.2.1 (@len UInt8 x.2.2.1)) (minus (@len UInt8 x.1) (iadd IntKind.i64 x.2.1 (@len UInt8 x.2.2.1)))), ()))
  (none : Option ((List (UInt8)) × Unit)))
  (none : Option ((List (UInt8)) × Unit)))
  (none : Option ((List (UInt8)) × Unit)))
  (none : Option ((List (UInt8)) × Unit))

noncomputable def P_ref01_Octal_L0 (x : Int × Int × Unit) (y1 : (Int × (List (UInt8)) × Int × Unit) × Unit) : Option (((Int × (List (UInt8)) × Int × Unit) × Unit) ⊕ ((Int × (List (UInt8)) × Int × Unit) × Unit)) :=
  @way1 ((Int × (List (UInt8)) × Int × Unit) × Unit) (sel (ltI y1.1.2.2.1 x.2.1)
  (sel (eqI (8 : Int) (0 : Int))
  (none : Option (((Int × (List (UInt8)) × Int × Unit) × Unit) ⊕ (Nat × (Int × (List (UInt8)) × Int × Unit) × Unit)))
  (sel (fits (plus (@len UInt8 (intsBytes ([icv IntKind.u8 (iadd IntKind.i64 (48 : Int) (irem y1.1.1 (8 : Int)))] : List (Int)))) (@len UInt8 y1.1.2.1)))
  (sel (eqI (8 : Int) (0 : Int))
  (none : Option (((Int × (List (UInt8)) × Int × Unit) × Unit) ⊕ (Nat × (Int × (List (UInt8)) × Int × Unit) × Unit)))
  (some (Sum.inl ((iquo IntKind.i64 y1.1.1 (8 : Int), (@app UInt8 (intsBytes ([icv IntKind.u8 (iadd IntKind.i64 (48 : Int) (irem y1.1.1 (8 : Int)))] : List (Int))) y1.1.2.1, (iadd IntKind.i64 y1.1.2.2.1 (1 : Int), ()))), ()) : (((Int × (List (UInt8)) × Int × Unit) × Unit)) ⊕ ((Nat × (Int × (List (UInt8)) × Int × Unit) × Unit)))))
  (none : Option (((Int × (List (UInt8)) × Int × Unit) × Unit) ⊕ (Nat × (Int × (List (UInt8)) × Int × Unit) × Unit)))))
  (some (Sum.inr ((0 : Nat), ((y1.1.1, (y1.1.2.1, (y1.1.2.2.1, ()))), ())) : (((Int × (List (UInt8)) × Int × Unit) × Unit)) ⊕ ((Nat × (Int × (List (UInt8)) × Int × Unit) × Unit)))))

noncomputable def P_ref01_Octal (x : Int × Int × Unit) : Option ((List (UInt8)) × Bool × Unit) :=
  sel (sel (nt (sel (nt (ltI x.1 (0 : Int)))
  (ltI x.2.1 (1 : Int))
  true))
  (ltI (21 : Int) x.2.1)
  true)
  (some (([] : List (UInt8)), (false, ())))
  (obind (Loop (P_ref01_Octal_L0 x) ((x.1, (([] : List (UInt8)), ((0 : Int), ()))), ())) (fun (y1 : (Int × (List (UInt8)) × Int × Unit) × Unit) => sel (ltI (0 : Int) y1.1.1)
  (some (([] : List (UInt8)), (false, ())))
  (some (y1.1.2.1, (true, ())))))

noncomputable def P_ref12_octal (x : Int × Int × Unit) : Option ((List (UInt8)) × Unit) :=
  obind (P_ref01_Octal (x.1, (x.2.1, ()))) (fun (y1 : (List (UInt8)) × Bool × Unit) => some (y1.1, ()))

noncomputable def P_ref12_Sum_L0 (x : (List (UInt8)) × Unit) (y1 : (Int × Int × Unit) × Unit) : Option (((Int × Int × Unit) × Unit) ⊕ ((Int × Int × Unit) × Unit)) :=
  @way1 ((Int × Int × Unit) × Unit) (sel (ltI y1.1.2.1 (@len UInt8 x.1))
  (obind (sel (sel (leI (148 : Int) y1.1.2.1)
  (ltI y1.1.2.1 (156 : Int))
  false)
  (some ((iadd IntKind.i64 y1.1.1 (32 : Int), ()), ()))
  (obind (@idx UInt8 x.1 y1.1.2.1) (fun (y2 : UInt8) => some ((iadd IntKind.i64 y1.1.1 (icv IntKind.i64 (u8 y2)), ()), ())))) (fun (y2 : (Int × Unit) × Unit) => some (Sum.inl ((y2.1.1, (iadd IntKind.i64 y1.1.2.1 (1 : Int), ())), ()) : (((Int × Int × Unit) × Unit)) ⊕ ((Nat × (Int × Int × Unit) × Unit)))))
  (some (Sum.inr ((0 : Nat), ((y1.1.1, (y1.1.2.1, ())), ())) : (((Int × Int × Unit) × Unit)) ⊕ ((Nat × (Int × Int × Unit) × Unit)))))

noncomputable def P_ref12_Sum (x : (List (UInt8)) × Unit) : Option (Int × Unit) :=
  obind (Loop (P_ref12_Sum_L0 x) (((0 : Int), ((0 : Int), ())), ())) (fun (y1 : (Int × Int × Unit) × Unit) => some (y1.1.1, ()))

noncomputable def P_ref12_Put (x : ((List (UInt8)) × Int × Int × Int × Int × Int × Int × (List (UInt8)) × Unit) × Unit) : Option ((List (UInt8)) × Int × Unit) :=
  obind (P_ref12_may (x.1, ((100 : Int), ()))) (fun (y1 : Bool × Unit) => sel (nt y1.1)
  (some (([] : List (UInt8)), ((1 : Int), ())))
  (sel (inside (0 : Int) (512 : Int) (512 : Int))
  (sel (fits (512 : Int))
  (obind (P_ref12_put (intsBytes (@lrep Int (512 : Int) (0 : Int)), ((0 : Int), (x.1.1, ())))) (fun (y2 : (List (UInt8)) × Unit) => obind (P_ref12_octal (x.1.2.2.1, ((7 : Int), ()))) (fun (y3 : (List (UInt8)) × Unit) => obind (P_ref12_put (y2.1, ((100 : Int), (y3.1, ())))) (fun (y4 : (List (UInt8)) × Unit) => obind (P_ref12_octal (x.1.2.2.2.1, ((7 : Int), ()))) (fun (y5 : (List (UInt8)) × Unit) => obind (P_ref12_put (y4.1, ((108 : Int), (y5.1, ())))) (fun (y6 : (List (UInt8)) × Unit) => obind (P_ref12_octal (x.1.2.2.2.2.1, ((7 : Int), ()))) (fun (y7 : (List (UInt8)) × Unit) => obind (P_ref12_put (y6.1, ((116 : Int), (y7.1, ())))) (fun (y8 : (List (UInt8)) × Unit) => obind (P_ref12_octal (x.1.2.2.2.2.2.1, ((11 : Int), ()))) (fun (y9 : (List (UInt8)) × Unit) => obind (P_ref12_put (y8.1, ((124 : Int), (y9.1, ())))) (fun (y10 : (List (UInt8)) × Unit) => obind (P_ref12_octal (x.1.2.2.2.2.2.2.1, ((11 : Int), ()))) (fun (y11 : (List (UInt8)) × Unit) => obind (P_ref12_put (y10.1, ((136 : Int), (y11.1, ())))) (fun (y12 : (List (UInt8)) × Unit) => obind (@idx (List (UInt8)) ([([] : List (UInt8)), ([(48 : UInt8)] : List (UInt8)), ([(53 : UInt8)] : List (UInt8)), ([(50 : UInt8)] : List (UInt8))] : List (List (UInt8))) x.1.2.1) (fun (y13 : List (UInt8)) => obind (P_ref12_put (y12.1, ((156 : Int), (y13, ())))) (fun (y14 : (List (UInt8)) × Unit) => obind (P_ref12_put (y14.1, ((157 : Int), (x.1.2.2.2.2.2.2.2.1, ())))) (fun (y15 : (List (UInt8)) × Unit) => obind (P_ref12_put (y15.1, ((257 : Int), (([(117 : UInt8), (115 : UInt8), (116 : UInt8), (97 : UInt8), (114 : UInt8), (0 : UInt8), (48 : UInt8), (48 : UInt8)] : List (UInt8)), ())))) (fun (y16 : (List (UInt8)) × Unit) => obind (P_ref12_Sum (y16.1, ())) (fun (y17 : Int × Unit) => obind (P_ref12_octal (y17.1, ((6 : Int), ()))) (fun (y18 : (List (UInt8)) × Unit) => sel (fits (plus (@len UInt8 y18.1) (@len UInt8 ([(0 : UInt8), (32 : UInt8)] : List (UInt8)))))
  (obind (P_ref12_put (y16.1, ((148 : Int), (@app UInt8 y18.1 ([(0 : UInt8), (32 : UInt8)] : List (UInt8)), ())))) (fun (y19 : (List (UInt8)) × Unit) => some (y19.1, ((0 : Int), ()))))
  (none : Option ((List (UInt8)) × Int × Unit))))))))))))))))))))
  (none : Option ((List (UInt8)) × Int × Unit)))
  (none : Option ((List (UInt8)) × Int × Unit))))

noncomputable def P_law12_HeaderPuts (x : ((List (UInt8)) × Int × Int × Int × Int × Int × Int × (List (UInt8)) × Unit) × Unit) : Option (Bool × Unit) :=
  sel (sel (nt (ltI (300 : Int) (@len UInt8 x.1.1)))
  (ltI (300 : Int) (@len UInt8 x.1.2.2.2.2.2.2.2.1))
  true)
  (obind (P_law12_awake ()) (fun (y1 : Bool × Unit) => some (y1.1, ())))
  (obind (P_header_Put (x.1, ())) (fun (y1 : (List (UInt8)) × Int × Unit) => obind (P_ref12_Put (x.1, ())) (fun (y2 : (List (UInt8)) × Int × Unit) => obind (sel (sel (eqS y1.1 y2.1)
  (eqI y1.2.1 y2.2.1)
  false)
  (obind (P_law12_awake ()) (fun (y3 : Bool × Unit) => some y3.1))
  (some false)) (fun (y3 : Bool) => some (y3, ())))))

noncomputable def P_law12_HeaderBack (x : ((List (UInt8)) × Int × Int × Int × Int × Int × Int × (List (UInt8)) × Unit) × Int × Int × Unit) : Option (Bool × Unit) :=
  sel (sel (nt (ltI (300 : Int) (@len UInt8 x.1.1)))
  (ltI (300 : Int) (@len UInt8 x.1.2.2.2.2.2.2.2.1))
  true)
  (obind (P_law12_awake ()) (fun (y1 : Bool × Unit) => some (y1.1, ())))
  (obind (P_header_Put (x.1, ())) (fun (y1 : (List (UInt8)) × Int × Unit) => sel (nt (eqI y1.2.1 (0 : Int)))
  (obind (sel (sel (eqS y1.1 ([] : List (UInt8)))
  (eqI y1.2.1 (1 : Int))
  false)
  (obind (P_law12_awake ()) (fun (y2 : Bool × Unit) => some y2.1))
  (some false)) (fun (y2 : Bool) => some (y2, ())))
  (obind (P_header_Take (y1.1, ())) (fun (y2 : ((List (UInt8)) × Int × Int × Int × Int × Int × Int × (List (UInt8)) × Unit) × Int × Unit) => obind (sel (nt (sel (nt (sel (nt (nt (an (eqS y2.1.1 x.1.1) (an (eqI y2.1.2.1 x.1.2.1) (an (eqI y2.1.2.2.1 x.1.2.2.1) (an (eqI y2.1.2.2.2.1 x.1.2.2.2.1) (an (eqI y2.1.2.2.2.2.1 x.1.2.2.2.2.1) (an (eqI y2.1.2.2.2.2.2.1 x.1.2.2.2.2.2.1) (an (eqI y2.1.2.2.2.2.2.2.1 x.1.2.2.2.2.2.2.1) (an (eqS y2.1.2.2.2.2.2.2.2.1 x.1.2.2.2.2.2.2.2.1) true))))))))))
  (nt (eqI y2.2.1 (0 : Int)))
  true))
  (nt (eqI (@len UInt8 y1.1) (512 : Int)))
  true))
  (obind (P_header_Zero (y1.1, ())) (fun (y3 : Bool × Unit) => some y3.1))
  (some true)) (fun (y3 : Bool) => sel y3
  (some (false, ()))
  (sel (eqI (512 : Int) (0 : Int))
  (none : Option (Bool × Unit))
  (sel (fits (@len UInt8 y1.1))
  (sel (within (irem (icv IntKind.i64 x.2.1) (512 : Int)) (@len Int (bytesInts y1.1)))
  (obind (@idx Int (bytesInts y1.1) (irem (icv IntKind.i64 x.2.1) (512 : Int))) (fun (y4 : Int) => sel (within (irem (icv IntKind.i64 x.2.1) (512 : Int)) (@len Int (bytesInts y1.1)))
  (obind (@idx Int (bytesInts y1.1) (irem (icv IntKind.i64 x.2.1) (512 : Int))) (fun (y5 : Int) => obind (@idx Int (bytesInts y1.1) (irem (icv IntKind.i64 x.2.1) (512 : Int))) (fun (y6 : Int) => obind (@idx Int (bytesInts y1.1) (irem (icv IntKind.i64 x.2.1) (512 : Int))) (fun (y7 : Int) => obind (P_header_Take (intsBytes (@lset Int (bytesInts y1.1) (irem (icv IntKind.i64 x.2.1) (512 : Int)) (ixor IntKind.u8 y4 x.2.2.1)), ())) (fun (y8 : ((List (UInt8)) × Int × Int × Int × Int × Int × Int × (List (UInt8)) × Unit) × Int × Unit) => obind (sel (sel (nt (sel (nt (eqI x.2.2.1 (0 : Int)))
  (eqI y8.2.1 (2 : Int))
  true))
  (sel (leI (148 : Int) (irem (icv IntKind.i64 x.2.1) (512 : Int)))
  (ltI (irem (icv IntKind.i64 x.2.1) (512 : Int)) (156 : Int))
  false)
  true)
  (obind (P_law12_awake ()) (fun (y9 : Bool × Unit) => some y9.1))
  (some false)) (fun (y9 : Bool) => some (y9, ())))))))
  (none : Option (Bool × Unit))))
  (none : Option (Bool × Unit)))
  (none : Option (Bool × Unit)))))))))

noncomputable def P_law12_HeaderNot (x : (List (UInt8)) × Unit) : Option (Bool × Unit) :=
  sel (ltI (600 : Int) (@len UInt8 x.1))
  (obind (P_law12_awake ()) (fun (y1 : Bool × Unit) => some (y1.1, ())))
  (obind (P_header_Take (x.1, ())) (fun (y1 : ((List (UInt8)) × Int × Int × Int × Int × Int × Int × (List (UInt8)) × Unit) × Int × Unit) => obind (sel (nt (nt (eqI y1.2.1 (0 : Int))))
  (obind (sel (eqI (@len UInt8 x.1) (512 : Int))
  (obind (P_header_Zero (x.1, ())) (fun (y2 : Bool × Unit) => some (nt y2.1)))
  (some false)) (fun (y2 : Bool) => some y2))
  (some true)) (fun (y2 : Bool) => obind (sel y2
  (obind (sel (nt (eqI (@len UInt8 x.1) (512 : Int)))
  (obind (P_header_Zero (x.1, ())) (fun (y3 : Bool × Unit) => some (nt y3.1)))
  (some true)) (fun (y3 : Bool) => some y3))
  (some false)) (fun (y3 : Bool) => obind (sel y3
  (obind (P_law12_awake ()) (fun (y4 : Bool × Unit) => some y4.1))
  (some false)) (fun (y4 : Bool) => some (y4, ()))))))
end Go.Ge
