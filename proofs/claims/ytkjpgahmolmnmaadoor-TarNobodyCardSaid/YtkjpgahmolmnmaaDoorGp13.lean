/- What the functions of layer 13 compute, as plain programs (written by a program from what the ghost interpreter comes to). -/
import Derived.Test.YtkjpgahmolmnmaaDoorGpA
import Derived.Test.YtkjpgahmolmnmaaDoorGp12
namespace Go.Ge
set_option linter.unusedVariables false
set_option maxRecDepth 100000

noncomputable def P_ref13_Few_L0 (x : (List (((List (UInt8)) × Int × Int × Int × Int × Int × Int × (List (UInt8)) × Unit) × (List (UInt8)) × Unit)) × Int × Unit) (y1 : (Bool × Int × Unit) × Unit) : Option (((Bool × Int × Unit) × Unit) ⊕ (Nat × (Bool × Int × Unit) × Unit)) :=
  sel (sel (ltI y1.1.2.1 (@len (((List (UInt8)) × Int × Int × Int × Int × Int × Int × (List (UInt8)) × Unit) × (List (UInt8)) × Unit) x.1))
  (ltI y1.1.2.1 x.2.1)
  false)
  (obind (@idx (((List (UInt8)) × Int × Int × Int × Int × Int × Int × (List (UInt8)) × Unit) × (List (UInt8)) × Unit) x.1 y1.1.2.1) (fun (y2 : ((List (UInt8)) × Int × Int × Int × Int × Int × Int × (List (UInt8)) × Unit) × (List (UInt8)) × Unit) => obind (sel (nt (ltI (300 : Int) (@len UInt8 y2.1.1)))
  (obind (@idx (((List (UInt8)) × Int × Int × Int × Int × Int × Int × (List (UInt8)) × Unit) × (List (UInt8)) × Unit) x.1 y1.1.2.1) (fun (y3 : ((List (UInt8)) × Int × Int × Int × Int × Int × Int × (List (UInt8)) × Unit) × (List (UInt8)) × Unit) => some (ltI (300 : Int) (@len UInt8 y3.1.2.2.2.2.2.2.2.1))))
  (some true)) (fun (y3 : Bool) => obind (sel (nt y3)
  (obind (@idx (((List (UInt8)) × Int × Int × Int × Int × Int × Int × (List (UInt8)) × Unit) × (List (UInt8)) × Unit) x.1 y1.1.2.1) (fun (y4 : ((List (UInt8)) × Int × Int × Int × Int × Int × Int × (List (UInt8)) × Unit) × (List (UInt8)) × Unit) => some (ltI (8192 : Int) (@len UInt8 y4.2.1))))
  (some true)) (fun (y4 : Bool) => sel y4
  (some (Sum.inr ((1 : Nat), ((false, (y1.1.2.1, ())), ())) : (((Bool × Int × Unit) × Unit)) ⊕ ((Nat × (Bool × Int × Unit) × Unit))))
  (some (Sum.inl ((y1.1.1, (iadd IntKind.i64 y1.1.2.1 (1 : Int), ())), ()) : (((Bool × Int × Unit) × Unit)) ⊕ ((Nat × (Bool × Int × Unit) × Unit))))))))
  (some (Sum.inr ((0 : Nat), ((y1.1.1, (y1.1.2.1, ())), ())) : (((Bool × Int × Unit) × Unit)) ⊕ ((Nat × (Bool × Int × Unit) × Unit))))

noncomputable def P_ref13_Few (x : (List (((List (UInt8)) × Int × Int × Int × Int × Int × Int × (List (UInt8)) × Unit) × (List (UInt8)) × Unit)) × Int × Unit) : Option (Bool × Unit) :=
  obind (Loop (P_ref13_Few_L0 x) ((false, ((0 : Int), ())), ())) (fun (y1 : Nat × (Bool × Int × Unit) × Unit) => sel (eqN y1.1 (0 : Nat))
  (some (leI (@len (((List (UInt8)) × Int × Int × Int × Int × Int × Int × (List (UInt8)) × Unit) × (List (UInt8)) × Unit) x.1) x.2.1, ()))
  (some (y1.2.1.1, ())))

noncomputable def P_tar_noughts (x : Int × Unit) : Option ((List (UInt8)) × Unit) :=
  obind (P_strings_Repeat (([(0 : UInt8)] : List (UInt8)), (x.1, ()))) (fun (y1 : (List (UInt8)) × Unit) => some (y1.1, ()))

noncomputable def P_tar_fill (x : Int × Unit) : Option (Int × Unit) :=
  sel (eqI (512 : Int) (0 : Int))
  (none : Option (Int × Unit))
  (sel (eqI (512 : Int) (0 : Int))
  (none : Option (Int × Unit))
  (some (irem (isub IntKind.i64 (512 : Int) (irem x.1 (512 : Int))) (512 : Int), ())))

noncomputable def P_tar_Write_L0 (x : (List (((List (UInt8)) × Int × Int × Int × Int × Int × Int × (List (UInt8)) × Unit) × (List (UInt8)) × Unit)) × Unit) (y1 : ((List (UInt8)) × Int × Int × Unit) × (Unit × Unit × Unit) × (List (Int)) × Unit) : Option ((((List (UInt8)) × Int × Int × Unit) × (Unit × Unit × Unit) × (List (Int)) × Unit) ⊕ (Nat × ((List (UInt8)) × Int × Int × Unit) × (Unit × Unit × Unit) × (List (Int)) × Unit)) :=
  sel (ltI y1.1.2.2.1 (@len (((List (UInt8)) × Int × Int × Int × Int × Int × Int × (List (UInt8)) × Unit) × (List (UInt8)) × Unit) x.1))
  (obind (@idx (((List (UInt8)) × Int × Int × Int × Int × Int × Int × (List (UInt8)) × Unit) × (List (UInt8)) × Unit) x.1 y1.1.2.2.1) (fun (y2 : ((List (UInt8)) × Int × Int × Int × Int × Int × Int × (List (UInt8)) × Unit) × (List (UInt8)) × Unit) => obind (P_header_Put (y2.1, ())) (fun (y3 : (List (UInt8)) × Int × Unit) => sel (sel (nt (nt (eqI y3.2.1 (0 : Int))))
  (nt (eqI y2.1.2.2.2.2.2.1 (@len UInt8 y2.2.1)))
  true)
  (some (Sum.inr ((1 : Nat), ((([] : List (UInt8)), ((1 : Int), (y1.1.2.2.1, ()))), (((), ((), y1.2.1.2.2)), (y1.2.2.1, ())))) : ((((List (UInt8)) × Int × Int × Unit) × (Unit × Unit × Unit) × (List (Int)) × Unit)) ⊕ ((Nat × ((List (UInt8)) × Int × Int × Unit) × (Unit × Unit × Unit) × (List (Int)) × Unit))))
  (sel (fits (plus (@len Int y1.2.2.1) (@len Int (bytesInts y3.1))))
  (sel (ltI (8192 : Int) (@len UInt8 y2.2.1))
  (obind (P_tar_noughts ((8192 : Int), ())) (fun (y4 : (List (UInt8)) × Unit) => sel (fits (plus (@len Int (@app Int y1.2.2.1 (bytesInts y3.1))) (@len Int (bytesInts y4.1))))
  (some (Sum.inl ((y1.1.1, (y1.1.2.1, (iadd IntKind.i64 y1.1.2.2.1 (1 : Int), ()))), (((), ((), y1.2.1.2.2)), (@app Int (@app Int y1.2.2.1 (bytesInts y3.1)) (bytesInts y4.1), ()))) : ((((List (UInt8)) × Int × Int × Unit) × (Unit × Unit × Unit) × (List (Int)) × Unit)) ⊕ ((Nat × ((List (UInt8)) × Int × Int × Unit) × (Unit × Unit × Unit) × (List (Int)) × Unit))))
  (none : Option ((((List (UInt8)) × Int × Int × Unit) × (Unit × Unit × Unit) × (List (Int)) × Unit) ⊕ (Nat × ((List (UInt8)) × Int × Int × Unit) × (Unit × Unit × Unit) × (List (Int)) × Unit)))))
  (obind (P_tar_fill (@len UInt8 y2.2.1, ())) (fun (y4 : Int × Unit) => obind (P_tar_noughts (y4.1, ())) (fun (y5 : (List (UInt8)) × Unit) => sel (fits (plus (@len UInt8 y2.2.1) (@len UInt8 y5.1)))
  (sel (fits (plus (@len Int (@app Int y1.2.2.1 (bytesInts y3.1))) (@len Int (bytesInts (@app UInt8 y2.2.1 y5.1)))))
  (some (Sum.inl ((y1.1.1, (y1.1.2.1, (iadd IntKind.i64 y1.1.2.2.1 (1 : Int), ()))), (((), ((), y1.2.1.2.2)), (@app Int (@app Int y1.2.2.1 (bytesInts y3.1)) (bytesInts (@app UInt8 y2.2.1 y5.1)), ()))) : ((((List (UInt8)) × Int × Int × Unit) × (Unit × Unit × Unit) × (List (Int)) × Unit)) ⊕ ((Nat × ((List (UInt8)) × Int × Int × Unit) × (Unit × Unit × Unit) × (List (Int)) × Unit))))
  (none : Option ((((List (UInt8)) × Int × Int × Unit) × (Unit × Unit × Unit) × (List (Int)) × Unit) ⊕ (Nat × ((List (UInt8)) × Int × Int × Unit) × (Unit × Unit × Unit) × (List (Int)) × Unit))))
  (none : Option ((((List (UInt8)) × Int × Int × Unit) × (Unit × Unit × Unit) × (List (Int)) × Unit) ⊕ (Nat × ((List (UInt8)) × Int × Int × Unit) × (Unit × Unit × Unit) × (List (Int)) × Unit)))))))
  (none : Option ((((List (UInt8)) × Int × Int × Unit) × (Unit × Unit × Unit) × (List (Int)) × Unit) ⊕ (Nat × ((List (UInt8)) × Int × Int × Unit) × (Unit × Unit × Unit) × (List (Int)) × Unit)))))))
  (some (Sum.inr ((0 : Nat), ((y1.1.1, (y1.1.2.1, (y1.1.2.2.1, ()))), (((), ((), y1.2.1.2.2)), (y1.2.2.1, ())))) : ((((List (UInt8)) × Int × Int × Unit) × (Unit × Unit × Unit) × (List (Int)) × Unit)) ⊕ ((Nat × ((List (UInt8)) × Int × Int × Unit) × (Unit × Unit × Unit) × (List (Int)) × Unit))))

noncomputable def P_tar_Write (x : (List (((List (UInt8)) × Int × Int × Int × Int × Int × Int × (List (UInt8)) × Unit) × (List (UInt8)) × Unit)) × Unit) : Option ((List (UInt8)) × Int × Unit) :=
  sel (ltI (64 : Int) (@len (((List (UInt8)) × Int × Int × Int × Int × Int × Int × (List (UInt8)) × Unit) × (List (UInt8)) × Unit) x.1))
  (some (([] : List (UInt8)), ((5 : Int), ())))
  (obind (Loop (P_tar_Write_L0 x) ((([] : List (UInt8)), ((0 : Int), ((0 : Int), ()))), (((), ((), ())), (([] : List (Int)), ())))) (fun (y1 : Nat × ((List (UInt8)) × Int × Int × Unit) × (Unit × Unit × Unit) × (List (Int)) × Unit) => sel (eqN y1.1 (0 : Nat))
  (sel (ltI (7168 : Int) (@len Int y1.2.2.2.1))
  (some (([] : List (UInt8)), ((5 : Int), ())))
  (obind (P_tar_noughts ((1024 : Int), ())) (fun (y2 : (List (UInt8)) × Unit) => sel (fits (plus (@len UInt8 (intsBytes y1.2.2.2.1)) (@len UInt8 y2.1)))
  (some (@app UInt8 (intsBytes y1.2.2.2.1) y2.1, ((0 : Int), ())))
  (none : Option ((List (UInt8)) × Int × Unit)))))
  (some (y1.2.1.1, (y1.2.1.2.1, ())))))

noncomputable def P_tar_Reader_ends (x : (Bool × Unit) × (Bool × (List (UInt8)) × Int × Bool × Bool × Unit) × Unit) : Option (((((List (UInt8)) × Int × Int × Int × Int × Int × Int × (List (UInt8)) × Unit) × (List (UInt8)) × Unit) × Bool × Unit) × (Bool × (List (UInt8)) × Int × Bool × Bool × Unit) × Unit) :=
  some ((((([] : List (UInt8)), ((0 : Int), ((0 : Int), ((0 : Int), ((0 : Int), ((0 : Int), ((0 : Int), (([] : List (UInt8)), ())))))))), (([] : List (UInt8)), ())), (false, ())), ((x.2.1.1, (([] : List (UInt8)), (x.2.1.2.2.1, (true, (x.1.1, x.2.1.2.2.2.2.2))))), ()))

noncomputable def P_tar_Reader_Next (x : Unit × (Bool × (List (UInt8)) × Int × Bool × Bool × Unit) × Unit) : Option (((((List (UInt8)) × Int × Int × Int × Int × Int × Int × (List (UInt8)) × Unit) × (List (UInt8)) × Unit) × Bool × Unit) × (Bool × (List (UInt8)) × Int × Bool × Bool × Unit) × Unit) :=
  sel (sel (nt (nt x.2.1.1))
  x.2.1.2.2.2.1
  true)
  (some ((((([] : List (UInt8)), ((0 : Int), ((0 : Int), ((0 : Int), ((0 : Int), ((0 : Int), ((0 : Int), (([] : List (UInt8)), ())))))))), (([] : List (UInt8)), ())), (false, ())), (x.2.1, ())))
  (sel (ltI (@len UInt8 x.2.1.2.1) (512 : Int))
  (obind (P_tar_Reader_ends ((true, ()), (x.2.1, ()))) (fun (y1 : ((((List (UInt8)) × Int × Int × Int × Int × Int × Int × (List (UInt8)) × Unit) × (List (UInt8)) × Unit) × Bool × Unit) × (Bool × (List (UInt8)) × Int × Bool × Bool × Unit) × Unit) => some ((y1.1.1, (y1.1.2.1, ())), (y1.2.1, ()))))
  (sel (inside (0 : Int) (512 : Int) (@len UInt8 x.2.1.2.1))
  (obind (P_header_Zero (@sub UInt8 x.2.1.2.1 (0 : Int) (minus (512 : Int) (0 : Int)), ())) (fun (y1 : Bool × Unit) => sel y1.1
  (obind (sel (leI (1024 : Int) (@len UInt8 x.2.1.2.1))
  (sel (eqI (512 : Int) (0 : Int))
  (none : Option (Bool))
  (some (eqI (irem (@len UInt8 x.2.1.2.1) (512 : Int)) (0 : Int))))
  (some false)) (fun (y2 : Bool) => obind (sel (nt (nt y2))
  (obind (P_strings_Trim (x.2.1.2.1, (([(0 : UInt8)] : List (UInt8)), ()))) (fun (y3 : (List (UInt8)) × Unit) => some (nt (eqS y3.1 ([] : List (UInt8))))))
  (some true)) (fun (y3 : Bool) => obind (P_tar_Reader_ends ((y3, ()), (x.2.1, ()))) (fun (y4 : ((((List (UInt8)) × Int × Int × Int × Int × Int × Int × (List (UInt8)) × Unit) × (List (UInt8)) × Unit) × Bool × Unit) × (Bool × (List (UInt8)) × Int × Bool × Bool × Unit) × Unit) => some ((y4.1.1, (y4.1.2.1, ())), (y4.2.1, ()))))))
  (sel (inside (0 : Int) (512 : Int) (@len UInt8 x.2.1.2.1))
  (obind (P_header_Take (@sub UInt8 x.2.1.2.1 (0 : Int) (minus (512 : Int) (0 : Int)), ())) (fun (y2 : ((List (UInt8)) × Int × Int × Int × Int × Int × Int × (List (UInt8)) × Unit) × Int × Unit) => sel (inside (512 : Int) (@len UInt8 x.2.1.2.1) (@len UInt8 x.2.1.2.1))
  (sel (nt (eqI y2.2.1 (0 : Int)))
  (obind (P_tar_Reader_ends ((true, ()), (x.2.1, ()))) (fun (y3 : ((((List (UInt8)) × Int × Int × Int × Int × Int × Int × (List (UInt8)) × Unit) × (List (UInt8)) × Unit) × Bool × Unit) × (Bool × (List (UInt8)) × Int × Bool × Bool × Unit) × Unit) => some ((y3.1.1, (y3.1.2.1, ())), (y3.2.1, ()))))
  (sel (ltI (@len UInt8 (@sub UInt8 x.2.1.2.1 (512 : Int) (minus (@len UInt8 x.2.1.2.1) (512 : Int)))) y2.1.2.2.2.2.2.1)
  (obind (P_tar_Reader_ends ((true, ()), (x.2.1, ()))) (fun (y3 : ((((List (UInt8)) × Int × Int × Int × Int × Int × Int × (List (UInt8)) × Unit) × (List (UInt8)) × Unit) × Bool × Unit) × (Bool × (List (UInt8)) × Int × Bool × Bool × Unit) × Unit) => some ((y3.1.1, (y3.1.2.1, ())), (y3.2.1, ()))))
  (obind (P_tar_fill (y2.1.2.2.2.2.2.1, ())) (fun (y3 : Int × Unit) => sel (ltI (@len UInt8 (@sub UInt8 x.2.1.2.1 (512 : Int) (minus (@len UInt8 x.2.1.2.1) (512 : Int)))) (iadd IntKind.i64 y2.1.2.2.2.2.2.1 y3.1))
  (obind (P_tar_Reader_ends ((true, ()), (x.2.1, ()))) (fun (y4 : ((((List (UInt8)) × Int × Int × Int × Int × Int × Int × (List (UInt8)) × Unit) × (List (UInt8)) × Unit) × Bool × Unit) × (Bool × (List (UInt8)) × Int × Bool × Bool × Unit) × Unit) => some ((y4.1.1, (y4.1.2.1, ())), (y4.2.1, ()))))
  (sel (leI (64 : Int) x.2.1.2.2.1)
  (obind (P_tar_Reader_ends ((true, ()), (x.2.1, ()))) (fun (y4 : ((((List (UInt8)) × Int × Int × Int × Int × Int × Int × (List (UInt8)) × Unit) × (List (UInt8)) × Unit) × Bool × Unit) × (Bool × (List (UInt8)) × Int × Bool × Bool × Unit) × Unit) => some ((y4.1.1, (y4.1.2.1, ())), (y4.2.1, ()))))
  (obind (P_tar_fill (y2.1.2.2.2.2.2.1, ())) (fun (y4 : Int × Unit) => sel (inside (iadd IntKind.i64 y2.1.2.2.2.2.2.1 y4.1) (@len UInt8 (@sub UInt8 x.2.1.2.1 (512 : Int) (minus (@len UInt8 x.2.1.2.1) (512 : Int)))) (@len UInt8 (@sub UInt8 x.2.1.2.1 (512 : Int) (minus (@len UInt8 x.2.1.2.1) (512 : Int)))))
  (sel (inside (0 : Int) y2.1.2.2.2.2.2.1 (@len UInt8 (@sub UInt8 x.2.1.2.1 (512 : Int) (minus (@len UInt8 x.2.1.2.1) (512 : Int)))))
  (some (((y2.1, (@sub UInt8 (@sub UInt8 x.2.1.2.1 (512 : Int) (minus (@len UInt8 x.2.1.2.1) (512 : Int))) (0 : Int) (minus y2.1.2.2.2.2.2.1 (0 : Int)), ())), (true, ())), ((x.2.1.1, (@sub UInt8 (@sub UInt8 x.2.1.2.1 (512 : Int) (minus (@len UInt8 x.2.1.2.1) (512 : Int))) (iadd IntKind.i64 y2.1.2.2.2.2.2.1 y4.1) (minus (@len UInt8 (@sub UInt8 x.2.1.2.1 (512 : Int) (minus (@len UInt8 x.2.1.2.1) (512 : Int)))) (iadd IntKind.i64 y2.1.2.2.2.2.2.1 y4.1)), (iadd IntKind.i64 x.2.1.2.2.1 (1 : Int), x.2.1.2.2.2))), ())))
  (none : Option (((((List (UInt8)) × Int × Int × Int × Int × Int × Int × (List (UInt8)) × Unit) × (List (UInt8)) × Unit) × Bool × Unit) × (Bool × (List (UInt8)) × Int × Bool × Bool × Unit) × Unit)))
  (none : Option (((((List (UInt8)) × Int × Int × Int × Int × Int × Int × (List (UInt8)) × Unit) × (List (UInt8)) × Unit) × Bool × Unit) × (Bool × (List (UInt8)) × Int × Bool × Bool × Unit) × Unit)))))))))
  (none : Option (((((List (UInt8)) × Int × Int × Int × Int × Int × Int × (List (UInt8)) × Unit) × (List (UInt8)) × Unit) × Bool × Unit) × (Bool × (List (UInt8)) × Int × Bool × Bool × Unit) × Unit))))
  (none : Option (((((List (UInt8)) × Int × Int × Int × Int × Int × Int × (List (UInt8)) × Unit) × (List (UInt8)) × Unit) × Bool × Unit) × (Bool × (List (UInt8)) × Int × Bool × Bool × Unit) × Unit)))))
  (none : Option (((((List (UInt8)) × Int × Int × Int × Int × Int × Int × (List (UInt8)) × Unit) × (List (UInt8)) × Unit) × Bool × Unit) × (Bool × (List (UInt8)) × Int × Bool × Bool × Unit) × Unit))))

noncomputable def P_tar_Reader_Bad (x : Unit × (Bool × (List (UInt8)) × Int × Bool × Bool × Unit) × Unit) : Option ((Bool × Unit) × (Bool × (List (UInt8)) × Int × Bool × Bool × Unit) × Unit) :=
  some ((x.2.1.2.2.2.2.1, ()), (x.2.1, ()))

noncomputable def P_tar_Read_L0 (y2 : (Unit × Unit × Bool × Unit) × (((List (UInt8)) × Int × Int × Int × Int × Int × Int × (List (UInt8)) × Unit) × (List (UInt8)) × Unit) × (List (((List (UInt8)) × Int × Int × Int × Int × Int × Int × (List (UInt8)) × Unit) × (List (UInt8)) × Unit)) × (Bool × (List (UInt8)) × Int × Bool × Bool × Unit) × Unit) : Option (((Unit × Unit × Bool × Unit) × (((List (UInt8)) × Int × Int × Int × Int × Int × Int × (List (UInt8)) × Unit) × (List (UInt8)) × Unit) × (List (((List (UInt8)) × Int × Int × Int × Int × Int × Int × (List (UInt8)) × Unit) × (List (UInt8)) × Unit)) × (Bool × (List (UInt8)) × Int × Bool × Bool × Unit) × Unit) ⊕ ((Unit × Unit × Bool × Unit) × (((List (UInt8)) × Int × Int × Int × Int × Int × Int × (List (UInt8)) × Unit) × (List (UInt8)) × Unit) × (List (((List (UInt8)) × Int × Int × Int × Int × Int × Int × (List (UInt8)) × Unit) × (List (UInt8)) × Unit)) × (Bool × (List (UInt8)) × Int × Bool × Bool × Unit) × Unit)) :=
  @way1 ((Unit × Unit × Bool × Unit) × (((List (UInt8)) × Int × Int × Int × Int × Int × Int × (List (UInt8)) × Unit) × (List (UInt8)) × Unit) × (List (((List (UInt8)) × Int × Int × Int × Int × Int × Int × (List (UInt8)) × Unit) × (List (UInt8)) × Unit)) × (Bool × (List (UInt8)) × Int × Bool × Bool × Unit) × Unit) (sel y2.1.2.2.1
  (sel (fits (plus (@len (((List (UInt8)) × Int × Int × Int × Int × Int × Int × (List (UInt8)) × Unit) × (List (UInt8)) × Unit) y2.2.2.1) (@len (((List (UInt8)) × Int × Int × Int × Int × Int × Int × (List (UInt8)) × Unit) × (List (UInt8)) × Unit) ([y2.2.1] : List (((List (UInt8)) × Int × Int × Int × Int × Int × Int × (List (UInt8)) × Unit) × (List (UInt8)) × Unit)))))
  (obind (P_tar_Reader_Next ((), (y2.2.2.2.1, ()))) (fun (y3 : ((((List (UInt8)) × Int × Int × Int × Int × Int × Int × (List (UInt8)) × Unit) × (List (UInt8)) × Unit) × Bool × Unit) × (Bool × (List (UInt8)) × Int × Bool × Bool × Unit) × Unit) => some (Sum.inl (((), ((), (y3.1.2.1, ()))), (y3.1.1, (@app (((List (UInt8)) × Int × Int × Int × Int × Int × Int × (List (UInt8)) × Unit) × (List (UInt8)) × Unit) y2.2.2.1 ([y2.2.1] : List (((List (UInt8)) × Int × Int × Int × Int × Int × Int × (List (UInt8)) × Unit) × (List (UInt8)) × Unit)), (y3.2.1, ())))) : (((Unit × Unit × Bool × Unit) × (((List (UInt8)) × Int × Int × Int × Int × Int × Int × (List (UInt8)) × Unit) × (List (UInt8)) × Unit) × (List (((List (UInt8)) × Int × Int × Int × Int × Int × Int × (List (UInt8)) × Unit) × (List (UInt8)) × Unit)) × (Bool × (List (UInt8)) × Int × Bool × Bool × Unit) × Unit)) ⊕ ((Nat × (Unit × Unit × Bool × Unit) × (((List (UInt8)) × Int × Int × Int × Int × Int × Int × (List (UInt8)) × Unit) × (List (UInt8)) × Unit) × (List (((List (UInt8)) × Int × Int × Int × Int × Int × Int × (List (UInt8)) × Unit) × (List (UInt8)) × Unit)) × (Bool × (List (UInt8)) × Int × Bool × Bool × Unit) × Unit)))))
  (none : Option (((Unit × Unit × Bool × Unit) × (((List (UInt8)) × Int × Int × Int × Int × Int × Int × (List (UInt8)) × Unit) × (List (UInt8)) × Unit) × (List (((List (UInt8)) × Int × Int × Int × Int × Int × Int × (List (UInt8)) × Unit) × (List (UInt8)) × Unit)) × (Bool × (List (UInt8)) × Int × Bool × Bool × Unit) × Unit) ⊕ (Nat × (Unit × Unit × Bool × Unit) × (((List (UInt8)) × Int × Int × Int × Int × Int × Int × (List (UInt8)) × Unit) × (List (UInt8)) × Unit) × (List (((List (UInt8)) × Int × Int × Int × Int × Int × Int × (List (UInt8)) × Unit) × (List (UInt8)) × Unit)) × (Bool × (List (UInt8)) × Int × Bool × Bool × Unit) × Unit))))
  (some (Sum.inr ((0 : Nat), (((), ((), (y2.1.2.2.1, ()))), (y2.2.1, (y2.2.2.1, (y2.2.2.2.1, ()))))) : (((Unit × Unit × Bool × Unit) × (((List (UInt8)) × Int × Int × Int × Int × Int × Int × (List (UInt8)) × Unit) × (List (UInt8)) × Unit) × (List (((List (UInt8)) × Int × Int × Int × Int × Int × Int × (List (UInt8)) × Unit) × (List (UInt8)) × Unit)) × (Bool × (List (UInt8)) × Int × Bool × Bool × Unit) × Unit)) ⊕ ((Nat × (Unit × Unit × Bool × Unit) × (((List (UInt8)) × Int × Int × Int × Int × Int × Int × (List (UInt8)) × Unit) × (List (UInt8)) × Unit) × (List (((List (UInt8)) × Int × Int × Int × Int × Int × Int × (List (UInt8)) × Unit) × (List (UInt8)) × Unit)) × (Bool × (List (UInt8)) × Int × Bool × Bool × Unit) × Unit)))))

noncomputable def P_tar_Read (x : (List (UInt8)) × Unit) : Option ((List (((List (UInt8)) × Int × Int × Int × Int × Int × Int × (List (UInt8)) × Unit) × (List (UInt8)) × Unit)) × Int × Unit) :=
  obind (P_tar_Reader_Next ((), ((true, (x.1, ((0 : Int), (ltI (8192 : Int) (@len UInt8 x.1), (ltI (8192 : Int) (@len UInt8 x.1), ()))))), ()))) (fun (y1 : ((((List (UInt8)) × Int × Int × Int × Int × Int × Int × (List (UInt8)) × Unit) × (List (UInt8)) × Unit) × Bool × Unit) × (Bool × (List (UInt8)) × Int × Bool × Bool × Unit) × Unit) => obind (Loop (P_tar_Read_L0) (((), ((), (y1.1.2.1, ()))), (y1.1.1, (([] : List (((List (UInt8)) × Int × Int × Int × Int × Int × Int × (List (UInt8)) × Unit) × (List (UInt8)) × Unit)), (y1.2.1, ()))))) (fun (y2 : (Unit × Unit × Bool × Unit) × (((List (UInt8)) × Int × Int × Int × Int × Int × Int × (List (UInt8)) × Unit) × (List (UInt8)) × Unit) × (List (((List (UInt8)) × Int × Int × Int × Int × Int × Int × (List (UInt8)) × Unit) × (List (UInt8)) × Unit)) × (Bool × (List (UInt8)) × Int × Bool × Bool × Unit) × Unit) => obind (P_tar_Reader_Bad ((), (y2.2.2.2.1, ()))) (fun (y3 : (Bool × Unit) × (Bool × (List (UInt8)) × Int × Bool × Bool × Unit) × Unit) => sel y3.1.1
  (some (([] : List (((List (UInt8)) × Int × Int × Int × Int × Int × Int × (List (UInt8)) × Unit) × (List (UInt8)) × Unit)), ((10 : Int), ())))
  (some (y2.2.2.1, ((0 : Int), ()))))))

noncomputable def P_ref13_Same_L0 (x : (List (((List (UInt8)) × Int × Int × Int × Int × Int × Int × (List (UInt8)) × Unit) × (List (UInt8)) × Unit)) × (List (((List (UInt8)) × Int × Int × Int × Int × Int × Int × (List (UInt8)) × Unit) × (List (UInt8)) × Unit)) × Unit) (y1 : (Bool × Int × Unit) × Unit) : Option (((Bool × Int × Unit) × Unit) ⊕ (Nat × (Bool × Int × Unit) × Unit)) :=
  sel (sel (ltI y1.1.2.1 (@len (((List (UInt8)) × Int × Int × Int × Int × Int × Int × (List (UInt8)) × Unit) × (List (UInt8)) × Unit) x.1))
  (ltI y1.1.2.1 (@len (((List (UInt8)) × Int × Int × Int × Int × Int × Int × (List (UInt8)) × Unit) × (List (UInt8)) × Unit) x.2.1))
  false)
  (obind (@idx (((List (UInt8)) × Int × Int × Int × Int × Int × Int × (List (UInt8)) × Unit) × (List (UInt8)) × Unit) x.1 y1.1.2.1) (fun (y2 : ((List (UInt8)) × Int × Int × Int × Int × Int × Int × (List (UInt8)) × Unit) × (List (UInt8)) × Unit) => obind (@idx (((List (UInt8)) × Int × Int × Int × Int × Int × Int × (List (UInt8)) × Unit) × (List (UInt8)) × Unit) x.2.1 y1.1.2.1) (fun (y3 : ((List (UInt8)) × Int × Int × Int × Int × Int × Int × (List (UInt8)) × Unit) × (List (UInt8)) × Unit) => sel (nt (an (an (eqS y2.1.1 y3.1.1) (an (eqI y2.1.2.1 y3.1.2.1) (an (eqI y2.1.2.2.1 y3.1.2.2.1) (an (eqI y2.1.2.2.2.1 y3.1.2.2.2.1) (an (eqI y2.1.2.2.2.2.1 y3.1.2.2.2.2.1) (an (eqI y2.1.2.2.2.2.2.1 y3.1.2.2.2.2.2.1) (an (eqI y2.1.2.2.2.2.2.2.1 y3.1.2.2.2.2.2.2.1) (an (eqS y2.1.2.2.2.2.2.2.2.1 y3.1.2.2.2.2.2.2.2.1) true)))))))) (an (eqS y2.2.1 y3.2.1) true)))
  (some (Sum.inr ((1 : Nat), ((false, (y1.1.2.1, ())), ())) : (((Bool × Int × Unit) × Unit)) ⊕ ((Nat × (Bool × Int × Unit) × Unit))))
  (some (Sum.inl ((y1.1.1, (iadd IntKind.i64 y1.1.2.1 (1 : Int), ())), ()) : (((Bool × Int × Unit) × Unit)) ⊕ ((Nat × (Bool × Int × Unit) × Unit)))))))
  (some (Sum.inr ((0 : Nat), ((y1.1.1, (y1.1.2.1, ())), ())) : (((Bool × Int × Unit) × Unit)) ⊕ ((Nat × (Bool × Int × Unit) × Unit))))

noncomputable def P_ref13_Same (x : (List (((List (UInt8)) × Int × Int × Int × Int × Int × Int × (List (UInt8)) × Unit) × (List (UInt8)) × Unit)) × (List (((List (UInt8)) × Int × Int × Int × Int × Int × Int × (List (UInt8)) × Unit) × (List (UInt8)) × Unit)) × Unit) : Option (Bool × Unit) :=
  sel (nt (eqI (@len (((List (UInt8)) × Int × Int × Int × Int × Int × Int × (List (UInt8)) × Unit) × (List (UInt8)) × Unit) x.1) (@len (((List (UInt8)) × Int × Int × Int × Int × Int × Int × (List (UInt8)) × Unit) × (List (UInt8)) × Unit) x.2.1)))
  (some (false, ()))
  (obind (Loop (P_ref13_Same_L0 x) ((false, ((0 : Int), ())), ())) (fun (y1 : Nat × (Bool × Int × Unit) × Unit) => sel (eqN y1.1 (0 : Nat))
  (some (true, ()))
  (some (y1.2.1.1, ()))))

noncomputable def P_law13_one (x : (List (UInt8)) × (List (UInt8)) × Unit) : Option ((((List (UInt8)) × Int × Int × Int × Int × Int × Int × (List (UInt8)) × Unit) × (List (UInt8)) × Unit) × Unit) :=
  some (((x.1, ((1 : Int), ((420 : Int), ((0 : Int), ((0 : Int), (@len UInt8 x.2.1, ((0 : Int), (([] : List (UInt8)), ())))))))), (x.2.1, ())), ())

noncomputable def P_law13_awake (x : Unit) : Option (Bool × Unit) :=
  obind (P_law13_one (([(97 : UInt8)] : List (UInt8)), (([(120 : UInt8), (121 : UInt8), (122 : UInt8)] : List (UInt8)), ()))) (fun (y1 : (((List (UInt8)) × Int × Int × Int × Int × Int × Int × (List (UInt8)) × Unit) × (List (UInt8)) × Unit) × Unit) => obind (P_law13_one (([(98 : UInt8)] : List (UInt8)), (([] : List (UInt8)), ()))) (fun (y2 : (((List (UInt8)) × Int × Int × Int × Int × Int × Int × (List (UInt8)) × Unit) × (List (UInt8)) × Unit) × Unit) => obind (P_tar_Write (([y1.1, y2.1] : List (((List (UInt8)) × Int × Int × Int × Int × Int × Int × (List (UInt8)) × Unit) × (List (UInt8)) × Unit)), ())) (fun (y3 : (List (UInt8)) × Int × Unit) => sel (ltI (@len UInt8 y3.1) (512 : Int))
  (some (false, ()))
  (sel (inside (0 : Int) (512 : Int) (512 : Int))
  (sel (fits (512 : Int))
  (sel (fits (plus (@len UInt8 y3.1) (@len UInt8 (intsBytes (@lrep Int (512 : Int) (0 : Int))))))
  (obind (P_tar_Read (@app UInt8 y3.1 (intsBytes (@lrep Int (512 : Int) (0 : Int))), ())) (fun (y4 : (List (((List (UInt8)) × Int × Int × Int × Int × Int × Int × (List (UInt8)) × Unit) × (List (UInt8)) × Unit)) × Int × Unit) => sel (inside (0 : Int) (isub IntKind.i64 (@len UInt8 y3.1) (512 : Int)) (@len UInt8 y3.1))
  (obind (P_tar_Read (@sub UInt8 y3.1 (0 : Int) (minus (isub IntKind.i64 (@len UInt8 y3.1) (512 : Int)) (0 : Int)), ())) (fun (y5 : (List (((List (UInt8)) × Int × Int × Int × Int × Int × Int × (List (UInt8)) × Unit) × (List (UInt8)) × Unit)) × Int × Unit) => obind (P_tar_Reader_Next ((), ((true, (y3.1, ((0 : Int), (ltI (8192 : Int) (@len UInt8 y3.1), (ltI (8192 : Int) (@len UInt8 y3.1), ()))))), ()))) (fun (y6 : ((((List (UInt8)) × Int × Int × Int × Int × Int × Int × (List (UInt8)) × Unit) × (List (UInt8)) × Unit) × Bool × Unit) × (Bool × (List (UInt8)) × Int × Bool × Bool × Unit) × Unit) => sel (eqI (@len UInt8 y3.1) (2560 : Int))
  (sel (eqI y3.2.1 (0 : Int))
  (obind (P_ref13_Same (([y1.1, y2.1] : List (((List (UInt8)) × Int × Int × Int × Int × Int × Int × (List (UInt8)) × Unit) × (List (UInt8)) × Unit)), (y4.1, ()))) (fun (y7 : Bool × Unit) => sel y7.1
  (sel (eqI y4.2.1 (0 : Int))
  (sel (eqI y5.2.1 (10 : Int))
  (sel y6.1.2.1
  (obind (@idx (((List (UInt8)) × Int × Int × Int × Int × Int × Int × (List (UInt8)) × Unit) × (List (UInt8)) × Unit) ([y1.1, y2.1] : List (((List (UInt8)) × Int × Int × Int × Int × Int × Int × (List (UInt8)) × Unit) × (List (UInt8)) × Unit)) (0 : Int)) (fun (y8 : ((List (UInt8)) × Int × Int × Int × Int × Int × Int × (List (UInt8)) × Unit) × (List (UInt8)) × Unit) => sel (an (an (eqS y6.1.1.1.1 y8.1.1) (an (eqI y6.1.1.1.2.1 y8.1.2.1) (an (eqI y6.1.1.1.2.2.1 y8.1.2.2.1) (an (eqI y6.1.1.1.2.2.2.1 y8.1.2.2.2.1) (an (eqI y6.1.1.1.2.2.2.2.1 y8.1.2.2.2.2.1) (an (eqI y6.1.1.1.2.2.2.2.2.1 y8.1.2.2.2.2.2.1) (an (eqI y6.1.1.1.2.2.2.2.2.2.1 y8.1.2.2.2.2.2.2.1) (an (eqS y6.1.1.1.2.2.2.2.2.2.2.1 y8.1.2.2.2.2.2.2.2.1) true)))))))) (an (eqS y6.1.1.2.1 y8.2.1) true))
  (obind (P_tar_Reader_Bad ((), (y6.2.1, ()))) (fun (y9 : (Bool × Unit) × (Bool × (List (UInt8)) × Int × Bool × Bool × Unit) × Unit) => some (nt y9.1.1, ())))
  (some (false, ()))))
  (some (false, ())))
  (some (false, ())))
  (some (false, ())))
  (some (false, ()))))
  (some (false, ())))
  (some (false, ())))))
  (none : Option (Bool × Unit))))
  (none : Option (Bool × Unit)))
  (none : Option (Bool × Unit)))
  (none : Option (Bool × Unit))))))

noncomputable def P_ref13_whole_L0 (y1 : (Int × Unit) × Unit) : Option (((Int × Unit) × Unit) ⊕ ((Int × Unit) × Unit)) :=
  @way1 ((Int × Unit) × Unit) (sel (eqI (512 : Int) (0 : Int))
  (none : Option (((Int × Unit) × Unit) ⊕ (Nat × (Int × Unit) × Unit)))
  (sel (nt (eqI (irem y1.1.1 (512 : Int)) (0 : Int)))
  (some (Sum.inl ((iadd IntKind.i64 y1.1.1 (1 : Int), ()), ()) : (((Int × Unit) × Unit)) ⊕ ((Nat × (Int × Unit) × Unit))))
  (some (Sum.inr ((0 : Nat), ((y1.1.1, ()), ())) : (((Int × Unit) × Unit)) ⊕ ((Nat × (Int × Unit) × Unit))))))

noncomputable def P_ref13_whole (x : Int × Unit) : Option (Int × Unit) :=
  obind (Loop (P_ref13_whole_L0) ((x.1, ()), ())) (fun (y1 : (Int × Unit) × Unit) => some (y1.1.1, ()))

noncomputable def P_ref13_noughts (x : Int × Unit) : Option ((List (UInt8)) × Unit) :=
  sel (inside (0 : Int) x.1 x.1)
  (sel (fits x.1)
  (some (intsBytes (@lrep Int x.1 (0 : Int)), ()))
  (none : Option ((List (UInt8)) × Unit)))
  (none : Option ((List (UInt8)) × Unit))

noncomputable def P_ref13_Write_L0 (x : (List (((List (UInt8)) × Int × Int × Int × Int × Int × Int × (List (UInt8)) × Unit) × (List (UInt8)) × Unit)) × Unit) (y1 : ((List (UInt8)) × Int × Int × Unit) × Unit) : Option ((((List (UInt8)) × Int × Int × Unit) × Unit) ⊕ (Nat × ((List (UInt8)) × Int × Int × Unit) × Unit)) :=
  sel (ltI y1.1.2.2.1 (@len (((List (UInt8)) × Int × Int × Int × Int × Int × Int × (List (UInt8)) × Unit) × (List (UInt8)) × Unit) x.1))
  (obind (@idx (((List (UInt8)) × Int × Int × Int × Int × Int × Int × (List (UInt8)) × Unit) × (List (UInt8)) × Unit) x.1 y1.1.2.2.1) (fun (y2 : ((List (UInt8)) × Int × Int × Int × Int × Int × Int × (List (UInt8)) × Unit) × (List (UInt8)) × Unit) => obind (P_ref12_Put (y2.1, ())) (fun (y3 : (List (UInt8)) × Int × Unit) => sel (nt (eqI y3.2.1 (0 : Int)))
  (some (Sum.inr ((1 : Nat), ((([] : List (UInt8)), ((1 : Int), (y1.1.2.2.1, ()))), ())) : ((((List (UInt8)) × Int × Int × Unit) × Unit)) ⊕ ((Nat × ((List (UInt8)) × Int × Int × Unit) × Unit))))
  (obind (@idx (((List (UInt8)) × Int × Int × Int × Int × Int × Int × (List (UInt8)) × Unit) × (List (UInt8)) × Unit) x.1 y1.1.2.2.1) (fun (y4 : ((List (UInt8)) × Int × Int × Int × Int × Int × Int × (List (UInt8)) × Unit) × (List (UInt8)) × Unit) => obind (@idx (((List (UInt8)) × Int × Int × Int × Int × Int × Int × (List (UInt8)) × Unit) × (List (UInt8)) × Unit) x.1 y1.1.2.2.1) (fun (y5 : ((List (UInt8)) × Int × Int × Int × Int × Int × Int × (List (UInt8)) × Unit) × (List (UInt8)) × Unit) => sel (nt (eqI y4.1.2.2.2.2.2.1 (@len UInt8 y5.2.1)))
  (some (Sum.inr ((1 : Nat), ((([] : List (UInt8)), ((1 : Int), (y1.1.2.2.1, ()))), ())) : ((((List (UInt8)) × Int × Int × Unit) × Unit)) ⊕ ((Nat × ((List (UInt8)) × Int × Int × Unit) × Unit))))
  (some (Sum.inl ((y1.1.1, (y1.1.2.1, (iadd IntKind.i64 y1.1.2.2.1 (1 : Int), ()))), ()) : ((((List (UInt8)) × Int × Int × Unit) × Unit)) ⊕ ((Nat × ((List (UInt8)) × Int × Int × Unit) × Unit))))))))))
  (some (Sum.inr ((0 : Nat), ((y1.1.1, (y1.1.2.1, (y1.1.2.2.1, ()))), ())) : ((((List (UInt8)) × Int × Int × Unit) × Unit)) ⊕ ((Nat × ((List (UInt8)) × Int × Int × Unit) × Unit))))

noncomputable def P_ref13_Write_L1 (x : (List (((List (UInt8)) × Int × Int × Int × Int × Int × Int × (List (UInt8)) × Unit) × (List (UInt8)) × Unit)) × Unit) (y2 : ((List (UInt8)) × Int × Int × Int × Unit) × Unit) : Option ((((List (UInt8)) × Int × Int × Int × Unit) × Unit) ⊕ (Nat × ((List (UInt8)) × Int × Int × Int × Unit) × Unit)) :=
  sel (ltI y2.1.2.2.2.1 (@len (((List (UInt8)) × Int × Int × Int × Int × Int × Int × (List (UInt8)) × Unit) × (List (UInt8)) × Unit) x.1))
  (obind (@idx (((List (UInt8)) × Int × Int × Int × Int × Int × Int × (List (UInt8)) × Unit) × (List (UInt8)) × Unit) x.1 y2.1.2.2.2.1) (fun (y3 : ((List (UInt8)) × Int × Int × Int × Int × Int × Int × (List (UInt8)) × Unit) × (List (UInt8)) × Unit) => sel (ltI (8192 : Int) (@len UInt8 y3.2.1))
  (some (Sum.inr ((1 : Nat), ((([] : List (UInt8)), ((5 : Int), (y2.1.2.2.1, (y2.1.2.2.2.1, ())))), ())) : ((((List (UInt8)) × Int × Int × Int × Unit) × Unit)) ⊕ ((Nat × ((List (UInt8)) × Int × Int × Int × Unit) × Unit))))
  (obind (@idx (((List (UInt8)) × Int × Int × Int × Int × Int × Int × (List (UInt8)) × Unit) × (List (UInt8)) × Unit) x.1 y2.1.2.2.2.1) (fun (y4 : ((List (UInt8)) × Int × Int × Int × Int × Int × Int × (List (UInt8)) × Unit) × (List (UInt8)) × Unit) => obind (P_ref13_whole (@len UInt8 y4.2.1, ())) (fun (y5 : Int × Unit) => some (Sum.inl ((y2.1.1, (y2.1.2.1, (iadd IntKind.i64 (iadd IntKind.i64 y2.1.2.2.1 (512 : Int)) y5.1, (iadd IntKind.i64 y2.1.2.2.2.1 (1 : Int), ())))), ()) : ((((List (UInt8)) × Int × Int × Int × Unit) × Unit)) ⊕ ((Nat × ((List (UInt8)) × Int × Int × Int × Unit) × Unit))))))))
  (some (Sum.inr ((0 : Nat), ((y2.1.1, (y2.1.2.1, (y2.1.2.2.1, (y2.1.2.2.2.1, ())))), ())) : ((((List (UInt8)) × Int × Int × Int × Unit) × Unit)) ⊕ ((Nat × ((List (UInt8)) × Int × Int × Int × Unit) × Unit))))

noncomputable def P_ref13_Write_L2 (x : (List (((List (UInt8)) × Int × Int × Int × Int × Int × Int × (List (UInt8)) × Unit) × (List (UInt8)) × Unit)) × Unit) (y3 : ((List (UInt8)) × Int × Unit) × Unit) : Option ((((List (UInt8)) × Int × Unit) × Unit) ⊕ (((List (UInt8)) × Int × Unit) × Unit)) :=
  @way1 (((List (UInt8)) × Int × Unit) × Unit) (sel (ltI y3.1.2.1 (@len (((List (UInt8)) × Int × Int × Int × Int × Int × Int × (List (UInt8)) × Unit) × (List (UInt8)) × Unit) x.1))
  (obind (@idx (((List (UInt8)) × Int × Int × Int × Int × Int × Int × (List (UInt8)) × Unit) × (List (UInt8)) × Unit) x.1 y3.1.2.1) (fun (y4 : ((List (UInt8)) × Int × Int × Int × Int × Int × Int × (List (UInt8)) × Unit) × (List (UInt8)) × Unit) => obind (P_ref12_Put (y4.1, ())) (fun (y5 : (List (UInt8)) × Int × Unit) => sel (fits (plus (@len UInt8 y3.1.1) (@len UInt8 y5.1)))
  (obind (@idx (((List (UInt8)) × Int × Int × Int × Int × Int × Int × (List (UInt8)) × Unit) × (List (UInt8)) × Unit) x.1 y3.1.2.1) (fun (y6 : ((List (UInt8)) × Int × Int × Int × Int × Int × Int × (List (UInt8)) × Unit) × (List (UInt8)) × Unit) => sel (fits (plus (@len UInt8 (@app UInt8 y3.1.1 y5.1)) (@len UInt8 y6.2.1)))
  (obind (@idx (((List (UInt8)) × Int × Int × Int × Int × Int × Int × (List (UInt8)) × Unit) × (List (UInt8)) × Unit) x.1 y3.1.2.1) (fun (y7 : ((List (UInt8)) × Int × Int × Int × Int × Int × Int × (List (UInt8)) × Unit) × (List (UInt8)) × Unit) => obind (P_ref13_whole (@len UInt8 y7.2.1, ())) (fun (y8 : Int × Unit) => obind (@idx (((List (UInt8)) × Int × Int × Int × Int × Int × Int × (List (UInt8)) × Unit) × (List (UInt8)) × Unit) x.1 y3.1.2.1) (fun (y9 : ((List (UInt8)) × Int × Int × Int × Int × Int × Int × (List (UInt8)) × Unit) × (List (UInt8)) × Unit) => obind (P_ref13_noughts (isub IntKind.i64 y8.1 (@len UInt8 y9.2.1), ())) (fun (y10 : (List (UInt8)) × Unit) => sel (fits (plus (@len UInt8 (@app UInt8 (@app UInt8 y3.1.1 y5.1) y6.2.1)) (@len UInt8 y10.1)))
  (some (Sum.inl ((@app UInt8 (@app UInt8 (@app UInt8 y3.1.1 y5.1) y6.2.1) y10.1, (iadd IntKind.i64 y3.1.2.1 (1 : Int), ())), ()) : ((((List (UInt8)) × Int × Unit) × Unit)) ⊕ ((Nat × ((List (UInt8)) × Int × Unit) × Unit))))
  (none : Option ((((List (UInt8)) × Int × Unit) × Unit) ⊕ (Nat × ((List (UInt8)) × Int × Unit) × Unit))))))))
  (none : Option ((((List (UInt8)) × Int × Unit) × Unit) ⊕ (Nat × ((List (UInt8)) × Int × Unit) × Unit)))))
  (none : Option ((((List (UInt8)) × Int × Unit) × Unit) ⊕ (Nat × ((List (UInt8)) × Int × Unit) × Unit))))))
  (some (Sum.inr ((0 : Nat), ((y3.1.1, (y3.1.2.1, ())), ())) : ((((List (UInt8)) × Int × Unit) × Unit)) ⊕ ((Nat × ((List (UInt8)) × Int × Unit) × Unit)))))

noncomputable def P_ref13_Write (x : (List (((List (UInt8)) × Int × Int × Int × Int × Int × Int × (List (UInt8)) × Unit) × (List (UInt8)) × Unit)) × Unit) : Option ((List (UInt8)) × Int × Unit) :=
  sel (ltI (64 : Int) (@len (((List (UInt8)) × Int × Int × Int × Int × Int × Int × (List (UInt8)) × Unit) × (List (UInt8)) × Unit) x.1))
  (some (([] : List (UInt8)), ((5 : Int), ())))
  (obind (Loop (P_ref13_Write_L0 x) ((([] : List (UInt8)), ((0 : Int), ((0 : Int), ()))), ())) (fun (y1 : Nat × ((List (UInt8)) × Int × Int × Unit) × Unit) => sel (eqN y1.1 (0 : Nat))
  (obind (Loop (P_ref13_Write_L1 x) ((y1.2.1.1, (y1.2.1.2.1, ((1024 : Int), ((0 : Int), ())))), ())) (fun (y2 : Nat × ((List (UInt8)) × Int × Int × Int × Unit) × Unit) => sel (eqN y2.1 (0 : Nat))
  (sel (ltI (8192 : Int) y2.2.1.2.2.1)
  (some (([] : List (UInt8)), ((5 : Int), ())))
  (obind (Loop (P_ref13_Write_L2 x) ((([] : List (UInt8)), ((0 : Int), ())), ())) (fun (y3 : ((List (UInt8)) × Int × Unit) × Unit) => obind (P_ref13_noughts ((1024 : Int), ())) (fun (y4 : (List (UInt8)) × Unit) => sel (fits (plus (@len UInt8 y3.1.1) (@len UInt8 y4.1)))
  (some (@app UInt8 y3.1.1 y4.1, ((0 : Int), ())))
  (none : Option ((List (UInt8)) × Int × Unit))))))
  (some (y2.2.1.1, (y2.2.1.2.1, ())))))
  (some (y1.2.1.1, (y1.2.1.2.1, ())))))

noncomputable def P_law13_TarWrites (x : (List (((List (UInt8)) × Int × Int × Int × Int × Int × Int × (List (UInt8)) × Unit) × (List (UInt8)) × Unit)) × Unit) : Option (Bool × Unit) :=
  obind (P_ref13_Few (x.1, ((70 : Int), ()))) (fun (y1 : Bool × Unit) => sel (nt y1.1)
  (obind (P_law13_awake ()) (fun (y2 : Bool × Unit) => some (y2.1, ())))
  (obind (P_tar_Write (x.1, ())) (fun (y2 : (List (UInt8)) × Int × Unit) => obind (P_ref13_Write (x.1, ())) (fun (y3 : (List (UInt8)) × Int × Unit) => obind (sel (sel (eqS y2.1 y3.1)
  (eqI y2.2.1 y3.2.1)
  false)
  (obind (P_law13_awake ()) (fun (y4 : Bool × Unit) => some y4.1))
  (some false)) (fun (y4 : Bool) => some (y4, ()))))))

noncomputable def P_law13_TarBack (x : (List (((List (UInt8)) × Int × Int × Int × Int × Int × Int × (List (UInt8)) × Unit) × (List (UInt8)) × Unit)) × Int × Int × Unit) : Option (Bool × Unit) :=
  obind (P_ref13_Few (x.1, ((20 : Int), ()))) (fun (y1 : Bool × Unit) => sel (nt y1.1)
  (obind (P_law13_awake ()) (fun (y2 : Bool × Unit) => some (y2.1, ())))
  (obind (P_tar_Write (x.1, ())) (fun (y2 : (List (UInt8)) × Int × Unit) => sel (nt (eqI y2.2.1 (0 : Int)))
  (obind (sel (sel (eqS y2.1 ([] : List (UInt8)))
  (sel (nt (eqI y2.2.1 (1 : Int)))
  (eqI y2.2.1 (5 : Int))
  true)
  false)
  (obind (P_law13_awake ()) (fun (y3 : Bool × Unit) => some y3.1))
  (some false)) (fun (y3 : Bool) => some (y3, ())))
  (obind (sel (nt (ltI (@len UInt8 y2.1) (1024 : Int)))
  (sel (eqI (512 : Int) (0 : Int))
  (none : Option (Bool))
  (some (nt (eqI (irem (@len UInt8 y2.1) (512 : Int)) (0 : Int)))))
  (some true)) (fun (y3 : Bool) => sel (sel (nt y3)
  (ltI (8192 : Int) (@len UInt8 y2.1))
  true)
  (some (false, ()))
  (sel (eqI (@len UInt8 y2.1) (0 : Int))
  (none : Option (Bool × Unit))
  (sel (inside (0 : Int) (irem (icv IntKind.i64 x.2.2.1) (@len UInt8 y2.1)) (@len UInt8 y2.1))
  (obind (P_tar_Read (@sub UInt8 y2.1 (0 : Int) (minus (irem (icv IntKind.i64 x.2.2.1) (@len UInt8 y2.1)) (0 : Int)), ())) (fun (y4 : (List (((List (UInt8)) × Int × Int × Int × Int × Int × Int × (List (UInt8)) × Unit) × (List (UInt8)) × Unit)) × Int × Unit) => sel (inside (0 : Int) (imul IntKind.i64 (512 : Int) (icv IntKind.i64 (iand IntKind.u8 x.2.1 (3 : Int)))) (imul IntKind.i64 (512 : Int) (icv IntKind.i64 (iand IntKind.u8 x.2.1 (3 : Int)))))
  (sel (fits (imul IntKind.i64 (512 : Int) (icv IntKind.i64 (iand IntKind.u8 x.2.1 (3 : Int)))))
  (sel (fits (plus (@len UInt8 y2.1) (@len UInt8 (intsBytes (@lrep Int (imul IntKind.i64 (512 : Int) (icv IntKind.i64 (iand IntKind.u8 x.2.1 (3 : Int)))) (0 : Int))))))
  (obind (P_tar_Read (@app UInt8 y2.1 (intsBytes (@lrep Int (imul IntKind.i64 (512 : Int) (icv IntKind.i64 (iand IntKind.u8 x.2.1 (3 : Int)))) (0 : Int))), ())) (fun (y5 : (List (((List (UInt8)) × Int × Int × Int × Int × Int × Int × (List (UInt8)) × Unit) × (List (UInt8)) × Unit)) × Int × Unit) => sel (ltI (8192 : Int) (@len UInt8 (@app UInt8 y2.1 (intsBytes (@lrep Int (imul IntKind.i64 (512 : Int) (icv IntKind.i64 (iand IntKind.u8 x.2.1 (3 : Int)))) (0 : Int))))))
  (obind (sel (sel (eqI y4.2.1 (10 : Int))
  (eqI y5.2.1 (10 : Int))
  false)
  (obind (P_law13_awake ()) (fun (y6 : Bool × Unit) => some y6.1))
  (some false)) (fun (y6 : Bool) => some (y6, ())))
  (obind (sel (sel (eqI y4.2.1 (10 : Int))
  (eqI y5.2.1 (0 : Int))
  false)
  (obind (P_ref13_Same (y5.1, (x.1, ()))) (fun (y6 : Bool × Unit) => some y6.1))
  (some false)) (fun (y6 : Bool) => obind (sel y6
  (obind (P_law13_awake ()) (fun (y7 : Bool × Unit) => some y7.1))
  (some false)) (fun (y7 : Bool) => some (y7, ()))))))
  (none : Option (Bool × Unit)))
  (none : Option (Bool × Unit)))
  (none : Option (Bool × Unit))))
  (none : Option (Bool × Unit)))))))))

noncomputable def P_law13_TarNobody_L1 (x : Int × Unit) (y1 : (Bool × Int × Unit) × (Unit × Unit × Unit) × (Bool × (List (UInt8)) × Int × Bool × Bool × Unit) × Unit) (y2 : (Bool × Int × Unit) × (Unit × Unit × Unit) × (Bool × (List (UInt8)) × Int × Bool × Bool × Unit) × Unit) : Option (((Bool × Int × Unit) × (Unit × Unit × Unit) × (Bool × (List (UInt8)) × Int × Bool × Bool × Unit) × Unit) ⊕ (Nat × (Bool × Int × Unit) × (Unit × Unit × Unit) × (Bool × (List (UInt8)) × Int × Bool × Bool × Unit) × Unit)) :=
  sel (leI y2.1.2.1 (icv IntKind.i64 (iand IntKind.u8 x.1 (3 : Int))))
  (sel (eqI y1.1.2.1 (0 : Int))
  (sel (nt (nt (an (an (eqS ([] : List (UInt8)) ([] : List (UInt8))) (an (eqI (0 : Int) (0 : Int)) (an (eqI (0 : Int) (0 : Int)) (an (eqI (0 : Int) (0 : Int)) (an (eqI (0 : Int) (0 : Int)) (an (eqI (0 : Int) (0 : Int)) (an (eqI (0 : Int) (0 : Int)) (an (eqS ([] : List (UInt8)) ([] : List (UInt8))) true)))))))) (an (eqS ([] : List (UInt8)) ([] : List (UInt8))) true))))
  (sel (eqI y1.1.2.1 (0 : Int))
  (some (Sum.inl ((y2.1.1, (iadd IntKind.i64 y2.1.2.1 (1 : Int), ())), (((), ((), y2.2.1.2.2)), (y2.2.2.1, ()))) : (((Bool × Int × Unit) × (Unit × Unit × Unit) × (Bool × (List (UInt8)) × Int × Bool × Bool × Unit) × Unit)) ⊕ ((Nat × (Bool × Int × Unit) × (Unit × Unit × Unit) × (Bool × (List (UInt8)) × Int × Bool × Bool × Unit) × Unit))))
  (sel (eqI y1.1.2.1 (1 : Int))
  (obind (P_tar_Reader_Bad ((), (y2.2.2.1, ()))) (fun (y3 : (Bool × Unit) × (Bool × (List (UInt8)) × Int × Bool × Bool × Unit) × Unit) => sel y3.1.1
  (some (Sum.inr ((1 : Nat), ((false, (y2.1.2.1, ())), (((), ((), y2.2.1.2.2)), (y3.2.1, ())))) : (((Bool × Int × Unit) × (Unit × Unit × Unit) × (Bool × (List (UInt8)) × Int × Bool × Bool × Unit) × Unit)) ⊕ ((Nat × (Bool × Int × Unit) × (Unit × Unit × Unit) × (Bool × (List (UInt8)) × Int × Bool × Bool × Unit) × Unit))))
  (some (Sum.inl ((y2.1.1, (iadd IntKind.i64 y2.1.2.1 (1 : Int), ())), (((), ((), y2.2.1.2.2)), (y3.2.1, ()))) : (((Bool × Int × Unit) × (Unit × Unit × Unit) × (Bool × (List (UInt8)) × Int × Bool × Bool × Unit) × Unit)) ⊕ ((Nat × (Bool × Int × Unit) × (Unit × Unit × Unit) × (Bool × (List (UInt8)) × Int × Bool × Bool × Unit) × Unit))))))
  (none : Option (((Bool × Int × Unit) × (Unit × Unit × Unit) × (Bool × (List (UInt8)) × Int × Bool × Bool × Unit) × Unit) ⊕ (Nat × (Bool × Int × Unit) × (Unit × Unit × Unit) × (Bool × (List (UInt8)) × Int × Bool × Bool × Unit) × Unit)))))
  (some (Sum.inr ((1 : Nat), ((false, (y2.1.2.1, ())), (((), ((), y2.2.1.2.2)), (y2.2.2.1, ())))) : (((Bool × Int × Unit) × (Unit × Unit × Unit) × (Bool × (List (UInt8)) × Int × Bool × Bool × Unit) × Unit)) ⊕ ((Nat × (Bool × Int × Unit) × (Unit × Unit × Unit) × (Bool × (List (UInt8)) × Int × Bool × Bool × Unit) × Unit)))))
  (sel (eqI y1.1.2.1 (1 : Int))
  (obind (P_tar_Reader_Next ((), (y2.2.2.1, ()))) (fun (y3 : ((((List (UInt8)) × Int × Int × Int × Int × Int × Int × (List (UInt8)) × Unit) × (List (UInt8)) × Unit) × Bool × Unit) × (Bool × (List (UInt8)) × Int × Bool × Bool × Unit) × Unit) => sel (nt (sel (nt y3.1.2.1)
  (nt (an (an (eqS y3.1.1.1.1 ([] : List (UInt8))) (an (eqI y3.1.1.1.2.1 (0 : Int)) (an (eqI y3.1.1.1.2.2.1 (0 : Int)) (an (eqI y3.1.1.1.2.2.2.1 (0 : Int)) (an (eqI y3.1.1.1.2.2.2.2.1 (0 : Int)) (an (eqI y3.1.1.1.2.2.2.2.2.1 (0 : Int)) (an (eqI y3.1.1.1.2.2.2.2.2.2.1 (0 : Int)) (an (eqS y3.1.1.1.2.2.2.2.2.2.2.1 ([] : List (UInt8))) true)))))))) (an (eqS y3.1.1.2.1 ([] : List (UInt8))) true)))
  true))
  (sel (eqI y1.1.2.1 (0 : Int))
  (some (Sum.inl ((y2.1.1, (iadd IntKind.i64 y2.1.2.1 (1 : Int), ())), (((), ((), y2.2.1.2.2)), (y3.2.1, ()))) : (((Bool × Int × Unit) × (Unit × Unit × Unit) × (Bool × (List (UInt8)) × Int × Bool × Bool × Unit) × Unit)) ⊕ ((Nat × (Bool × Int × Unit) × (Unit × Unit × Unit) × (Bool × (List (UInt8)) × Int × Bool × Bool × Unit) × Unit))))
  (sel (eqI y1.1.2.1 (1 : Int))
  (obind (P_tar_Reader_Bad ((), (y3.2.1, ()))) (fun (y4 : (Bool × Unit) × (Bool × (List (UInt8)) × Int × Bool × Bool × Unit) × Unit) => sel y4.1.1
  (some (Sum.inr ((1 : Nat), ((false, (y2.1.2.1, ())), (((), ((), y2.2.1.2.2)), (y4.2.1, ())))) : (((Bool × Int × Unit) × (Unit × Unit × Unit) × (Bool × (List (UInt8)) × Int × Bool × Bool × Unit) × Unit)) ⊕ ((Nat × (Bool × Int × Unit) × (Unit × Unit × Unit) × (Bool × (List (UInt8)) × Int × Bool × Bool × Unit) × Unit))))
  (some (Sum.inl ((y2.1.1, (iadd IntKind.i64 y2.1.2.1 (1 : Int), ())), (((), ((), y2.2.1.2.2)), (y4.2.1, ()))) : (((Bool × Int × Unit) × (Unit × Unit × Unit) × (Bool × (List (UInt8)) × Int × Bool × Bool × Unit) × Unit)) ⊕ ((Nat × (Bool × Int × Unit) × (Unit × Unit × Unit) × (Bool × (List (UInt8)) × Int × Bool × Bool × Unit) × Unit))))))
  (none : Option (((Bool × Int × Unit) × (Unit × Unit × Unit) × (Bool × (List (UInt8)) × Int × Bool × Bool × Unit) × Unit) ⊕ (Nat × (Bool × Int × Unit) × (Unit × Unit × Unit) × (Bool × (List (UInt8)) × Int × Bool × Bool × Unit) × Unit)))))
  (some (Sum.inr ((1 : Nat), ((false, (y2.1.2.1, ())), (((), ((), y2.2.1.2.2)), (y3.2.1, ())))) : (((Bool × Int × Unit) × (Unit × Unit × Unit) × (Bool × (List (UInt8)) × Int × Bool × Bool × Unit) × Unit)) ⊕ ((Nat × (Bool × Int × Unit) × (Unit × Unit × Unit) × (Bool × (List (UInt8)) × Int × Bool × Bool × Unit) × Unit))))))
  (none : Option (((Bool × Int × Unit) × (Unit × Unit × Unit) × (Bool × (List (UInt8)) × Int × Bool × Bool × Unit) × Unit) ⊕ (Nat × (Bool × Int × Unit) × (Unit × Unit × Unit) × (Bool × (List (UInt8)) × Int × Bool × Bool × Unit) × Unit)))))
  (some (Sum.inr ((0 : Nat), ((y2.1.1, (y2.1.2.1, ())), (((), ((), y2.2.1.2.2)), (y2.2.2.1, ())))) : (((Bool × Int × Unit) × (Unit × Unit × Unit) × (Bool × (List (UInt8)) × Int × Bool × Bool × Unit) × Unit)) ⊕ ((Nat × (Bool × Int × Unit) × (Unit × Unit × Unit) × (Bool × (List (UInt8)) × Int × Bool × Bool × Unit) × Unit))))

noncomputable def P_law13_TarNobody_L0 (x : Int × Unit) (y1 : (Bool × Int × Unit) × (Unit × Unit × Unit) × (Bool × (List (UInt8)) × Int × Bool × Bool × Unit) × Unit) : Option (((Bool × Int × Unit) × (Unit × Unit × Unit) × (Bool × (List (UInt8)) × Int × Bool × Bool × Unit) × Unit) ⊕ (Nat × (Bool × Int × Unit) × (Unit × Unit × Unit) × (Bool × (List (UInt8)) × Int × Bool × Bool × Unit) × Unit)) :=
  sel (ltI y1.1.2.1 (2 : Int))
  (obind (Loop (P_law13_TarNobody_L1 x y1) ((y1.1.1, ((0 : Int), ())), (((), ((), y1.2.1.2.2)), (y1.2.2.1, ())))) (fun (y2 : Nat × (Bool × Int × Unit) × (Unit × Unit × Unit) × (Bool × (List (UInt8)) × Int × Bool × Bool × Unit) × Unit) => sel (eqN y2.1 (0 : Nat))
  (some (Sum.inl ((y2.2.1.1, (iadd IntKind.i64 y1.1.2.1 (1 : Int), ())), (((), ((), y2.2.2.1.2.2)), (y2.2.2.2.1, ()))) : (((Bool × Int × Unit) × (Unit × Unit × Unit) × (Bool × (List (UInt8)) × Int × Bool × Bool × Unit) × Unit)) ⊕ ((Nat × (Bool × Int × Unit) × (Unit × Unit × Unit) × (Bool × (List (UInt8)) × Int × Bool × Bool × Unit) × Unit))))
  (some (Sum.inr ((1 : Nat), ((y2.2.1.1, (y1.1.2.1, ())), (((), ((), y2.2.2.1.2.2)), (y2.2.2.2.1, ())))) : (((Bool × Int × Unit) × (Unit × Unit × Unit) × (Bool × (List (UInt8)) × Int × Bool × Bool × Unit) × Unit)) ⊕ ((Nat × (Bool × Int × Unit) × (Unit × Unit × Unit) × (Bool × (List (UInt8)) × Int × Bool × Bool × Unit) × Unit))))))
  (some (Sum.inr ((0 : Nat), ((y1.1.1, (y1.1.2.1, ())), (((), ((), y1.2.1.2.2)), (y1.2.2.1, ())))) : (((Bool × Int × Unit) × (Unit × Unit × Unit) × (Bool × (List (UInt8)) × Int × Bool × Bool × Unit) × Unit)) ⊕ ((Nat × (Bool × Int × Unit) × (Unit × Unit × Unit) × (Bool × (List (UInt8)) × Int × Bool × Bool × Unit) × Unit))))

noncomputable def P_law13_TarNobody (x : Int × Unit) : Option (Bool × Unit) :=
  obind (Loop (P_law13_TarNobody_L0 x) ((false, ((0 : Int), ())), (((), ((), ())), ((false, (([] : List (UInt8)), ((0 : Int), (false, (false, ()))))), ())))) (fun (y1 : Nat × (Bool × Int × Unit) × (Unit × Unit × Unit) × (Bool × (List (UInt8)) × Int × Bool × Bool × Unit) × Unit) => sel (eqN y1.1 (0 : Nat))
  (obind (P_law13_awake ()) (fun (y2 : Bool × Unit) => some (y2.1, ())))
  (some (y1.2.1.1, ())))
end Go.Ge
