/- Plain laws of what the functions compute: part 1. -/
import Derived.Test.YthhkijiamblgaaaGeK
import Derived.Lib.Repeat
/- What some functions of the library compute, as plain programs. -/
namespace Go.Ge
abbrev Sb := List UInt8
set_option linter.unusedSectionVars false
variable [Lp]

end Go.Ge

/- Maps of numbers, as lists in the order of their keys. -/
namespace Go.Ge

abbrev MapT := List (Int × Int × Unit)
def mget (l : MapT) (k : Int) : Int := match l.find? (fun p => decide (p.1 = k)) with | some p => p.2.1 | none => 0
def mdel (l : MapT) (k : Int) : MapT := l.filter fun p => !decide (p.1 = k)
def mins (p : Int × Int × Unit) : MapT → MapT
  | [] => [p]
  | y :: r => if p.1 < y.1 then p :: y :: r else y :: mins p r
def mput (l : MapT) (k v : Int) : MapT := mins (k, (v, ())) (mdel l k)

/-- procs.Table: its map, and the last birth. -/
abbrev TabT := MapT × Int × Unit
abbrev TabU := TabT × Unit
def tBirth (x : (Int × Unit) × TabU) : Option ((Int × Int × Unit) × TabU) :=
  some ((bif eqI (mget x.2.1.1 x.1.1) 0 then (0, (3, ())) else (mget x.2.1.1 x.1.1, (0, ()))), x.2)
def tAlive (x : (Int × Int × Unit) × TabU) : Option ((Bool × Unit) × TabU) :=
  some ((bif eqI (mget x.2.1.1 x.1.1) 0 then false else eqI (mget x.2.1.1 x.1.1) x.1.2.1, ()), x.2)
def tKill (x : (Int × Unit) × TabU) : Option ((Int × Unit) × TabU) :=
  some (bif eqI (mget x.2.1.1 x.1.1) 0 then ((3, ()), x.2) else ((0, ()), ((mdel x.2.1.1 x.1.1, (x.2.1.2.1, ())), ())))
def tKillAll (x : Unit × TabU) : Option (Unit × TabU) := some ((), (([], (x.2.1.2.1, ())), ()))
def tSpawn (x : (Int × Unit) × TabU) : Option ((Int × Int × Unit) × TabU) :=
  bif leI 0 x.2.1.2.1 && ltI x.2.1.2.1 1000000 && leI (len x.2.1.1) 1000 then
    some (bif ltI x.1.1 1 || ltI 2147483648 x.1.1 then ((0, (1, ())), x.2)
      else bif !eqI (mget x.2.1.1 x.1.1) 0 then ((0, (4, ())), x.2)
      else bif leI 8 (len x.2.1.1) then ((0, (5, ())), x.2)
      else ((iadd .i64 x.2.1.2.1 1, (0, ())), ((mput x.2.1.1 x.1.1 (iadd .i64 x.2.1.2.1 1), (iadd .i64 x.2.1.2.1 1, ())), ())))
  else none
def tPids (x : Unit × TabU) : Option ((List Int × Unit) × TabU) := bif leI (len x.2.1.1) 1000 then some ((x.2.1.1.map (·.1), ()), x.2) else none

noncomputable def P_law11_awake (_ : Unit) : Option (Bool × Unit) := some (true, ())

end Go.Ge

/- What the functions of layer 11.d compute, as plain programs (written by a program from what the ghost interpreter comes to). -/
namespace Go.Ge
set_option linter.unusedVariables false
set_option linter.unusedSectionVars false
variable [Lp]
set_option maxRecDepth 100000

abbrev S2x0 := (((List (Int × Int × Unit)) × (Int × Unit)) × Unit)
abbrev S2x1 := ((List (Int × Int × Unit)) × Int × Unit)
abbrev S2x2 := (Bool × Int × Unit)
noncomputable def P_ref09_SameInts_L0 (x : (List (Int)) × (List (Int)) × Unit) (y1 : S2x2 × Unit) : Option ((S2x2 × Unit) ⊕ (Nat × S2x2 × Unit)) :=
  sel (sel (ltI y1.1.2.1 (@len Int x.1))
  (ltI y1.1.2.1 (@len Int x.2.1))
  false)
  (obind (@idx Int x.1 y1.1.2.1) (fun (y2 : Int) => obind (@idx Int x.2.1 y1.1.2.1) (fun (y3 : Int) => sel (nt (eqI y2 y3))
  (some (Sum.inr ((1 : Nat), ((false, (y1.1.2.1, ())), ())) : ((S2x2 × Unit)) ⊕ ((Nat × S2x2 × Unit))))
  (some (Sum.inl ((y1.1.1, (iadd IntKind.i64 y1.1.2.1 (1 : Int), ())), ()) : ((S2x2 × Unit)) ⊕ ((Nat × S2x2 × Unit)))))))
  (some (Sum.inr ((0 : Nat), ((y1.1.1, (y1.1.2.1, ())), ())) : ((S2x2 × Unit)) ⊕ ((Nat × S2x2 × Unit))))

noncomputable def P_ref09_SameInts (x : (List (Int)) × (List (Int)) × Unit) : Option (Bool × Unit) :=
  sel (nt (eqI (@len Int x.1) (@len Int x.2.1)))
  (some (false, ()))
  (obind (Loop (P_ref09_SameInts_L0 x) ((false, ((0 : Int), ())), ())) (fun (y1 : Nat × S2x2 × Unit) => sel (eqN y1.1 (0 : Nat))
  (some (true, ()))
  (some (y1.2.1.1, ()))))

noncomputable def P_procs_Table_Alive (x : (Int × (Int × Unit)) × S2x0) : Option ((Bool × Unit) × S2x0) :=
  tAlive x

noncomputable def P_procs_Table_KillAll (x : Unit × S2x0) : Option (Unit × S2x0) :=
  tKillAll x

noncomputable def P_procs_Table_Spawn (x : (Int × Unit) × S2x0) : Option ((Int × (Int × Unit)) × S2x0) :=
  tSpawn x

noncomputable def P_procs_Table_Kill (x : (Int × Unit) × S2x0) : Option ((Int × Unit) × S2x0) :=
  tKill x

noncomputable def P_law11_do (x : ((Int × Int × Int × Unit) × Unit) × S2x1 × Unit) : Option ((Int × Int × Unit) × S2x1 × Unit) :=
  sel (eqI x.1.1.1 (1 : Int))
  (obind (P_procs_Table_Spawn ((x.1.1.2.1, ()), ((x.2.1.1, (x.2.1.2.1, ())), ()))) (fun (y1 : (Int × Int × Unit) × S2x1 × Unit) => some ((y1.1.1, (y1.1.2.1, ())), ((y1.2.1.1, (y1.2.1.2.1, ())), ()))))
  (sel (eqI x.1.1.1 (2 : Int))
  (obind (P_procs_Table_Kill ((x.1.1.2.1, ()), ((x.2.1.1, (x.2.1.2.1, ())), ()))) (fun (y1 : (Int × Unit) × S2x1 × Unit) => some (((0 : Int), (y1.1.1, ())), ((y1.2.1.1, (y1.2.1.2.1, ())), ()))))
  (sel (eqI x.1.1.1 (3 : Int))
  (obind (P_procs_Table_KillAll ((), ((x.2.1.1, (x.2.1.2.1, ())), ()))) (fun (y1 : Unit × S2x1 × Unit) => some (((0 : Int), ((0 : Int), ())), ((y1.2.1.1, (y1.2.1.2.1, ())), ()))))
  (obind (P_procs_Table_Alive ((x.1.1.2.1, (x.1.1.2.2.1, ())), ((x.2.1.1, (x.2.1.2.1, ())), ()))) (fun (y1 : (Bool × Unit) × S2x1 × Unit) => sel y1.1.1
  (some (((1 : Int), ((0 : Int), ())), ((y1.2.1.1, (y1.2.1.2.1, ())), ())))
  (some (((0 : Int), ((0 : Int), ())), ((y1.2.1.1, (y1.2.1.2.1, ())), ())))))))

end Go.Ge

/- What the functions of layer 11.p compute, as plain programs (written by a program from what the ghost interpreter comes to). -/
namespace Go.Ge
set_option linter.unusedVariables false
set_option linter.unusedSectionVars false
variable [Lp]
set_option maxRecDepth 100000

abbrev S3x0 := (Int × Int × Unit)
abbrev S3x1 := ((List S3x0) × Int × Unit)
abbrev S3x2 := (Unit × Int × Unit)
abbrev S3x3 := (Int × Int × Int × Unit)
abbrev S3x4 := (Nat × (Bool × Int × Unit) × S3x2 × (List S3x0) × S3x2 × (List S3x0) × Unit)
abbrev S3x5 := ((Bool × Int × Unit) × S3x2 × (List S3x0) × S3x2 × (List S3x0) × Unit)
abbrev S3x6 := (((List S3x0) × (Int × Unit)) × Unit)
abbrev S3x7 := ((List (Int)) × Unit)
abbrev S3x8 := (S3x2 × (List (Int)) × Unit)
noncomputable def P_ref11_Table_Birth_L0 (x : (Int × Unit) × S3x1 × Unit) (y1 : S3x3 × Unit) : Option ((S3x3 × Unit) ⊕ (Nat × S3x3 × Unit)) :=
  sel (ltI y1.1.2.2.1 (@len S3x0 x.2.1.1))
  (sel (within y1.1.2.2.1 (@len S3x0 x.2.1.1))
  (obind (@idx S3x0 x.2.1.1 y1.1.2.2.1) (fun (y2 : Int × Int × Unit) => sel (eqI y2.1 x.1.1)
  (sel (within y1.1.2.2.1 (@len S3x0 x.2.1.1))
  (obind (@idx S3x0 x.2.1.1 y1.1.2.2.1) (fun (y3 : Int × Int × Unit) => some (Sum.inr ((1 : Nat), ((y3.2.1, ((0 : Int), (y1.1.2.2.1, ()))), ())) : ((S3x3 × Unit)) ⊕ ((Nat × S3x3 × Unit)))))
  none)
  (some (Sum.inl ((y1.1.1, (y1.1.2.1, (iadd IntKind.i64 y1.1.2.2.1 (1 : Int), ()))), ()) : ((S3x3 × Unit)) ⊕ ((Nat × S3x3 × Unit))))))
  none)
  (some (Sum.inr ((0 : Nat), ((y1.1.1, (y1.1.2.1, (y1.1.2.2.1, ()))), ())) : ((S3x3 × Unit)) ⊕ ((Nat × S3x3 × Unit))))

noncomputable def P_ref11_Table_Birth (x : (Int × Unit) × S3x1 × Unit) : Option (S3x0 × S3x1 × Unit) :=
  obind (Loop (P_ref11_Table_Birth_L0 x) (((0 : Int), ((0 : Int), ((0 : Int), ()))), ())) (fun (y1 : Nat × S3x3 × Unit) => sel (eqN y1.1 (0 : Nat))
  (some (((0 : Int), ((3 : Int), ())), ((x.2.1.1, (x.2.1.2.1, ())), ())))
  (some ((y1.2.1.1, (y1.2.1.2.1, ())), ((x.2.1.1, (x.2.1.2.1, ())), ()))))

noncomputable def P_ref11_Table_Spawn_L0 (x : (Int × Unit) × S3x1 × Unit) (y1 : S3x0 × S3x1 × Unit) (y2 : (Int × Unit) × Unit) : Option (((Int × Unit) × Unit) ⊕ ((Int × Unit) × Unit)) :=
  @way1 ((Int × Unit) × Unit) (obind (sel (ltI y2.1.1 (@len S3x0 y1.2.1.1))
  (sel (within y2.1.1 (@len S3x0 y1.2.1.1))
  (obind (@idx S3x0 y1.2.1.1 y2.1.1) (fun (y3 : Int × Int × Unit) => some (ltI y3.1 x.1.1)))
  none)
  (some false)) (fun (y3 : Bool) => sel y3
  (some (Sum.inl ((iadd IntKind.i64 y2.1.1 (1 : Int), ()), ()) : (((Int × Unit) × Unit)) ⊕ ((Nat × (Int × Unit) × Unit))))
  (some (Sum.inr ((0 : Nat), ((y2.1.1, ()), ())) : (((Int × Unit) × Unit)) ⊕ ((Nat × (Int × Unit) × Unit))))))

noncomputable def P_ref11_Table_Spawn (x : (Int × Unit) × S3x1 × Unit) : Option (S3x0 × S3x1 × Unit) :=
  sel (sel (nt (ltI x.1.1 (1 : Int)))
  (ltI (2147483648 : Int) x.1.1)
  true)
  (some (((0 : Int), ((1 : Int), ())), ((x.2.1.1, (x.2.1.2.1, ())), ())))
  (obind (P_ref11_Table_Birth ((x.1.1, ()), ((x.2.1.1, (x.2.1.2.1, ())), ()))) (fun (y1 : S3x0 × S3x1 × Unit) => sel (eqI y1.1.2.1 (0 : Int))
  (some (((0 : Int), ((4 : Int), ())), ((y1.2.1.1, (y1.2.1.2.1, ())), ())))
  (sel (leI (8 : Int) (@len S3x0 y1.2.1.1))
  (some (((0 : Int), ((5 : Int), ())), ((y1.2.1.1, (y1.2.1.2.1, ())), ())))
  (obind (Loop (P_ref11_Table_Spawn_L0 x y1) (((0 : Int), ()), ())) (fun (y2 : (Int × Unit) × Unit) => sel (inside (0 : Int) y2.1.1 (@len S3x0 y1.2.1.1))
  (sel (fits (plus (@len S3x0 ([] : List S3x0)) (@len S3x0 (@sub S3x0 y1.2.1.1 (0 : Int) (minus y2.1.1 (0 : Int))))))
  (sel (fits (plus (@len S3x0 (@app S3x0 ([] : List S3x0) (@sub S3x0 y1.2.1.1 (0 : Int) (minus y2.1.1 (0 : Int))))) (@len S3x0 ([(x.1.1, (iadd IntKind.i64 y1.2.1.2.1 (1 : Int), ()))] : List S3x0))))
  (sel (inside y2.1.1 (@len S3x0 y1.2.1.1) (@len S3x0 y1.2.1.1))
  (sel (fits (plus (@len S3x0 (@app S3x0 (@app S3x0 ([] : List S3x0) (@sub S3x0 y1.2.1.1 (0 : Int) (minus y2.1.1 (0 : Int)))) ([(x.1.1, (iadd IntKind.i64 y1.2.1.2.1 (1 : Int), ()))] : List S3x0))) (@len S3x0 (@sub S3x0 y1.2.1.1 y2.1.1 (minus (@len S3x0 y1.2.1.1) y2.1.1)))))
  (some ((iadd IntKind.i64 y1.2.1.2.1 (1 : Int), ((0 : Int), ())), ((@app S3x0 (@app S3x0 (@app S3x0 ([] : List S3x0) (@sub S3x0 y1.2.1.1 (0 : Int) (minus y2.1.1 (0 : Int)))) ([(x.1.1, (iadd IntKind.i64 y1.2.1.2.1 (1 : Int), ()))] : List S3x0)) (@sub S3x0 y1.2.1.1 y2.1.1 (minus (@len S3x0 y1.2.1.1) y2.1.1)), (iadd IntKind.i64 y1.2.1.2.1 (1 : Int), ())), ())))
  none)
  none)
  none)
  none)
  none)))))

noncomputable def P_ref11_Table_Kill_L0 (x : (Int × Unit) × S3x1 × Unit) (y1 : S3x2 × (List S3x0) × Unit) : Option ((S3x2 × (List S3x0) × Unit) ⊕ (S3x2 × (List S3x0) × Unit)) :=
  @way1 (S3x2 × (List S3x0) × Unit) (sel (ltI y1.1.2.1 (@len S3x0 x.2.1.1))
  (sel (within y1.1.2.1 (@len S3x0 x.2.1.1))
  (obind (@idx S3x0 x.2.1.1 y1.1.2.1) (fun (y2 : Int × Int × Unit) => obind (sel (nt (eqI y2.1 x.1.1))
  (sel (within y1.1.2.1 (@len S3x0 x.2.1.1))
  (obind (@idx S3x0 x.2.1.1 y1.1.2.1) (fun (y3 : Int × Int × Unit) => sel (fits (plus (@len S3x0 y1.2.1) (@len S3x0 ([y3] : List S3x0))))
  (some (((), ()), (@app S3x0 y1.2.1 ([y3] : List S3x0), ())))
  none))
  none)
  (some (((), ()), (y1.2.1, ())))) (fun (y3 : (Unit × Unit) × (List S3x0) × Unit) => some (Sum.inl (((), (iadd IntKind.i64 y1.1.2.1 (1 : Int), ())), (y3.2.1, ())) : ((S3x2 × (List S3x0) × Unit)) ⊕ ((Nat × S3x2 × (List S3x0) × Unit))))))
  none)
  (some (Sum.inr ((0 : Nat), (((), (y1.1.2.1, ())), (y1.2.1, ()))) : ((S3x2 × (List S3x0) × Unit)) ⊕ ((Nat × S3x2 × (List S3x0) × Unit)))))

noncomputable def P_ref11_Table_Kill (x : (Int × Unit) × S3x1 × Unit) : Option ((Int × Unit) × S3x1 × Unit) :=
  obind (Loop (P_ref11_Table_Kill_L0 x) (((), ((0 : Int), ())), (([] : List S3x0), ()))) (fun (y1 : S3x2 × (List S3x0) × Unit) => sel (eqI (@len S3x0 y1.2.1) (@len S3x0 x.2.1.1))
  (some (((3 : Int), ()), ((x.2.1.1, (x.2.1.2.1, ())), ())))
  (some (((0 : Int), ()), ((y1.2.1, (x.2.1.2.1, ())), ()))))

noncomputable def P_ref11_Table_Alive (x : S3x0 × S3x1 × Unit) : Option ((Bool × Unit) × S3x1 × Unit) :=
  obind (P_ref11_Table_Birth ((x.1.1, ()), ((x.2.1.1, (x.2.1.2.1, ())), ()))) (fun (y1 : S3x0 × S3x1 × Unit) => some ((sel (eqI y1.1.2.1 (0 : Int))
  (eqI y1.1.1 x.1.2.1)
  false, ()), ((y1.2.1.1, (y1.2.1.2.1, ())), ())))

noncomputable def P_ref11_Table_Do (x : (S3x3 × Unit) × S3x1 × Unit) : Option (S3x0 × S3x1 × Unit) :=
  sel (eqI x.1.1.1 (1 : Int))
  (obind (P_ref11_Table_Spawn ((x.1.1.2.1, ()), ((x.2.1.1, (x.2.1.2.1, ())), ()))) (fun (y1 : S3x0 × S3x1 × Unit) => some ((y1.1.1, (y1.1.2.1, ())), ((y1.2.1.1, (y1.2.1.2.1, ())), ()))))
  (sel (eqI x.1.1.1 (2 : Int))
  (obind (P_ref11_Table_Kill ((x.1.1.2.1, ()), ((x.2.1.1, (x.2.1.2.1, ())), ()))) (fun (y1 : (Int × Unit) × S3x1 × Unit) => some (((0 : Int), (y1.1.1, ())), ((y1.2.1.1, (y1.2.1.2.1, ())), ()))))
  (sel (eqI x.1.1.1 (3 : Int))
  (some (((0 : Int), ((0 : Int), ())), ((([] : List S3x0), (x.2.1.2.1, ())), ())))
  (obind (P_ref11_Table_Alive ((x.1.1.2.1, (x.1.1.2.2.1, ())), ((x.2.1.1, (x.2.1.2.1, ())), ()))) (fun (y1 : (Bool × Unit) × S3x1 × Unit) => sel y1.1.1
  (some (((1 : Int), ((0 : Int), ())), ((y1.2.1.1, (y1.2.1.2.1, ())), ())))
  (some (((0 : Int), ((0 : Int), ())), ((y1.2.1.1, (y1.2.1.2.1, ())), ())))))))

noncomputable def P_procs_Table_Birth (x : (Int × Unit) × S3x6) : Option ((Int × (Int × Unit)) × S3x6) :=
  tBirth x

noncomputable def P_procs_Table_Pids (x : Unit × S3x6) : Option (((List Int) × Unit) × S3x6) :=
  tPids x

noncomputable def P_ref11_Table_Pids_L0 (x : Unit × S3x1 × Unit) (y1 : S3x2 × (List (Int)) × Unit) : Option (S3x8 ⊕ S3x8) :=
  @way1 S3x8 (sel (ltI y1.1.2.1 (@len S3x0 x.2.1.1))
  (sel (within y1.1.2.1 (@len S3x0 x.2.1.1))
  (obind (@idx S3x0 x.2.1.1 y1.1.2.1) (fun (y2 : Int × Int × Unit) => sel (fits (plus (@len Int y1.2.1) (@len Int ([y2.1] : List (Int)))))
  (some (Sum.inl (((), (iadd IntKind.i64 y1.1.2.1 (1 : Int), ())), (@app Int y1.2.1 ([y2.1] : List (Int)), ())) : (S3x8) ⊕ ((Nat × S3x2 × (List (Int)) × Unit))))
  none))
  none)
  (some (Sum.inr ((0 : Nat), (((), (y1.1.2.1, ())), (y1.2.1, ()))) : (S3x8) ⊕ ((Nat × S3x2 × (List (Int)) × Unit)))))

noncomputable def P_ref11_Table_Pids (x : Unit × S3x1 × Unit) : Option (S3x7 × S3x1 × Unit) :=
  obind (Loop (P_ref11_Table_Pids_L0 x) (((), ((0 : Int), ())), (([] : List (Int)), ()))) (fun (y1 : S3x2 × (List (Int)) × Unit) => some ((y1.2.1, ()), ((x.2.1.1, (x.2.1.2.1, ())), ())))

noncomputable def P_law11_ProcsPlay_L0 (x : (List S3x3) × Unit) (y1 : (Bool × Int × Unit) × S3x2 × (List S3x0) × S3x2 × (List S3x0) × Unit) : Option (S3x5 ⊕ S3x4) :=
  sel (ltI y1.1.2.1 (@len S3x3 x.1))
  (obind (@idx S3x3 x.1 y1.1.2.1) (fun (y2 : Int × Int × Int × Unit) => obind (P_law11_do ((y2, ()), ((y1.2.2.2.2.1, (y1.2.2.2.1.2.1, ())), ()))) (fun (y3 : S3x0 × S3x1 × Unit) => obind (@idx S3x3 x.1 y1.1.2.1) (fun (y4 : Int × Int × Int × Unit) => obind (P_ref11_Table_Do ((y4, ()), ((y1.2.2.1, (y1.2.1.2.1, ())), ()))) (fun (y5 : S3x0 × S3x1 × Unit) => obind (@idx S3x3 x.1 y1.1.2.1) (fun (y6 : Int × Int × Int × Unit) => obind (P_procs_Table_Birth ((y6.2.1, ()), ((y3.2.1.1, (y3.2.1.2.1, ())), ()))) (fun (y7 : S3x0 × S3x1 × Unit) => obind (@idx S3x3 x.1 y1.1.2.1) (fun (y8 : Int × Int × Int × Unit) => obind (P_ref11_Table_Birth ((y8.2.1, ()), ((y5.2.1.1, (y5.2.1.2.1, ())), ()))) (fun (y9 : S3x0 × S3x1 × Unit) => sel (nt (sel (nt (sel (nt (sel (nt (nt (eqI y3.1.1 y5.1.1)))
  (nt (eqI y3.1.2.1 y5.1.2.1))
  true))
  (nt (eqI y7.1.1 y9.1.1))
  true))
  (nt (eqI y7.1.2.1 y9.1.2.1))
  true))
  (obind (P_procs_Table_Pids ((), ((y7.2.1.1, (y7.2.1.2.1, ())), ()))) (fun (y10 : S3x7 × S3x1 × Unit) => obind (P_ref11_Table_Pids ((), ((y9.2.1.1, (y9.2.1.2.1, ())), ()))) (fun (y11 : S3x7 × S3x1 × Unit) => obind (P_ref09_SameInts (y10.1.1, (y11.1.1, ()))) (fun (y12 : Bool × Unit) => sel (nt y12.1)
  (some (Sum.inr ((1 : Nat), ((false, (y1.1.2.1, ())), (((), (y11.2.1.2.1, ())), (y11.2.1.1, (((), (y10.2.1.2.1, ())), (y10.2.1.1, ())))))) : (S3x5) ⊕ (S3x4)))
  (some (Sum.inl ((y1.1.1, (iadd IntKind.i64 y1.1.2.1 (1 : Int), ())), (((), (y11.2.1.2.1, ())), (y11.2.1.1, (((), (y10.2.1.2.1, ())), (y10.2.1.1, ()))))) : (S3x5) ⊕ (S3x4)))))))
  (some (Sum.inr ((1 : Nat), ((false, (y1.1.2.1, ())), (((), (y9.2.1.2.1, ())), (y9.2.1.1, (((), (y7.2.1.2.1, ())), (y7.2.1.1, ())))))) : (S3x5) ⊕ (S3x4))))))))))))
  (some (Sum.inr ((0 : Nat), ((y1.1.1, (y1.1.2.1, ())), (((), (y1.2.1.2.1, y1.2.1.2.2)), (y1.2.2.1, (((), (y1.2.2.2.1.2.1, y1.2.2.2.1.2.2)), (y1.2.2.2.2.1, ())))))) : (S3x5) ⊕ (S3x4)))

noncomputable def P_law11_ProcsPlay (x : (List S3x3) × Unit) : Option (Bool × Unit) :=
  sel (ltI (40 : Int) (@len S3x3 x.1))
  (obind (P_law11_awake ()) (fun (y1 : Bool × Unit) => some (y1.1, ())))
  (obind (Loop (P_law11_ProcsPlay_L0 x) ((false, ((0 : Int), ())), (((), ((0 : Int), ())), (([] : List S3x0), (((), ((0 : Int), ())), (([] : List S3x0), ())))))) (fun (y1 : Nat × (Bool × Int × Unit) × S3x2 × (List S3x0) × S3x2 × (List S3x0) × Unit) => sel (eqN y1.1 (0 : Nat))
  (obind (P_procs_Table_Pids ((), ((([] : List S3x0), ((0 : Int), ())), ()))) (fun (y2 : S3x7 × S3x1 × Unit) => sel (nt (eqI (@len Int y2.1.1) (0 : Int)))
  (some (false, ()))
  (obind (P_procs_Table_KillAll ((), ((y1.2.2.2.2.2.1, (y1.2.2.2.2.1.2.1, ())), ()))) (fun (y3 : Unit × S3x1 × Unit) => obind (P_procs_Table_Spawn (((9 : Int), ()), ((y1.2.2.2.2.2.1, (y1.2.2.2.2.1.2.1, ())), ()))) (fun (y4 : S3x0 × S3x1 × Unit) => obind (P_ref11_Table_Spawn (((9 : Int), ()), ((y1.2.2.2.1, (y1.2.2.1.2.1, ())), ()))) (fun (y5 : S3x0 × S3x1 × Unit) => sel (sel (eqI y4.1.1 y5.1.1)
  (eqI y4.1.2.1 y5.1.2.1)
  false)
  (obind (P_procs_Table_Pids ((), ((y4.2.1.1, (y4.2.1.2.1, ())), ()))) (fun (y6 : S3x7 × S3x1 × Unit) => obind (P_ref11_Table_Pids ((), ((y5.2.1.1, (y5.2.1.2.1, ())), ()))) (fun (y7 : S3x7 × S3x1 × Unit) => obind (P_ref09_SameInts (y6.1.1, (y7.1.1, ()))) (fun (y8 : Bool × Unit) => sel y8.1
  (obind (P_procs_Table_Pids ((), ((y3.2.1.1, (y3.2.1.2.1, ())), ()))) (fun (y9 : S3x7 × S3x1 × Unit) => obind (sel (eqI (@len Int y9.1.1) (0 : Int))
  (obind (P_law11_awake ()) (fun (y10 : Bool × Unit) => some y10.1))
  (some false)) (fun (y10 : Bool) => some (y10, ()))))
  (some (false, ()))))))
  (some (false, ()))))))))
  (some (y1.2.1.1, ()))))
end Go.Ge

/- Maps of numbers: what is put in is got. -/
namespace Go.Ge

theorem mget_cons (p : Int × Int × Unit) (l : MapT) (j : Int) : mget (p :: l) j = if p.1 = j then p.2.1 else mget l j := by
  unfold mget
  rw [List.find?_cons]
  by_cases h : p.1 = j
  · rw [if_pos h, decide_eq_true h]
  · rw [if_neg h, decide_eq_false h]
theorem mget_ins (p : Int × Int × Unit) (l : MapT) (j : Int) (h : p.1 ≠ j) : mget (mins p l) j = mget l j := by
  induction l with
  | nil => unfold mins; rw [mget_cons, if_neg h]
  | cons y r ih =>
    unfold mins
    split
    · rw [mget_cons, if_neg h]
    · rw [mget_cons, mget_cons, ih]
theorem mget_del (l : MapT) (k j : Int) : mget (mdel l k) j = if k = j then 0 else mget l j := by
  induction l with
  | nil => by_cases h : k = j <;> simp [h] <;> rfl
  | cons y r ih =>
    unfold mdel at ih ⊢
    rw [List.filter_cons]
    by_cases hy : y.1 = k
    · rw [if_neg (by simp [hy]), ih, mget_cons]
      by_cases h : k = j
      · rw [if_pos h, if_pos h]
      · rw [if_neg h, if_neg h, if_neg (by rw [hy]; exact h)]
    · rw [if_pos (by simp [hy]), mget_cons, ih, mget_cons]
      by_cases h : k = j
      · rw [if_pos h, if_pos h, if_neg (by rw [← h]; exact hy)]
      · rw [if_neg h, if_neg h]
theorem mget_ins_same (p : Int × Int × Unit) (l : MapT) (h : ∀ y ∈ l, y.1 ≠ p.1) : mget (mins p l) p.1 = p.2.1 := by
  induction l with
  | nil => unfold mins; rw [mget_cons, if_pos rfl]
  | cons y r ih =>
    unfold mins
    split
    · rw [mget_cons, if_pos rfl]
    · rw [mget_cons, if_neg (h y (by simp)), ih fun z hz => h z (by simp [hz])]
theorem mget_put (l : MapT) (k v j : Int) : mget (mput l k v) j = if k = j then v else mget l j := by
  unfold mput
  by_cases h : k = j
  · subst h
    rw [if_pos rfl]
    exact mget_ins_same (k, (v, ())) _ fun y hy => by
      have := (List.mem_filter.1 hy).2
      simpa using this
  · rw [if_neg h, mget_ins _ _ _ h, mget_del, if_neg h]
theorem len_ins (p : Int × Int × Unit) (l : MapT) : (mins p l).length = l.length + 1 := by
  induction l with
  | nil => rfl
  | cons y r ih =>
    unfold mins
    split
    · rfl
    · simp [ih]
theorem len_del (l : MapT) (k : Int) : (mdel l k).length ≤ l.length := List.length_filter_le _ _
theorem len_put (l : MapT) (k v : Int) : (mput l k v).length ≤ l.length + 1 := by
  unfold mput
  rw [len_ins]
  have := len_del l k
  omega

end Go.Ge

/- Plain laws of numbers: sums that stay in range, bits of words. -/
namespace Go.Ge
set_option linter.unusedSectionVars false
variable [Lp]
set_option linter.unusedVariables false
set_option linter.unusedSimpArgs false

theorem iadd_i64 {a b : Int} (h : -9223372036854775808 ≤ a + b) (h2 : a + b ≤ 9223372036854775807) : iadd .i64 a b = a + b := by
  unfold iadd; simp [IntKind.wrap, IntKind.min, IntKind.max, IntKind.signed, IntKind.bits]; omega
/-! ### Words of 32 bits -/
/-! ### Tests and places, decided -/
theorem ltI_true {a b : Int} (h : a < b) : ltI a b = true := by simp [ltI, h]
theorem ltI_false {a b : Int} (h : b ≤ a) : ltI a b = false := by simp [ltI]; omega
theorem leI_true {a b : Int} (h : a ≤ b) : leI a b = true := by simp [leI, h]
theorem eqI_true {a b : Int} (h : a = b) : eqI a b = true := by simp [eqI, h]
theorem eqI_false {a b : Int} (h : a ≠ b) : eqI a b = false := by simp [eqI, h]
theorem within_true {i n : Int} (h0 : 0 ≤ i) (h1 : i < n) : within i n = true := by simp [within, h0, h1]
theorem inside_true {i j n : Int} (h0 : 0 ≤ i) (h1 : i ≤ j) (h2 : j ≤ n) : inside i j n = true := by simp [inside, h0, h1, h2]
theorem fits_true {n : Int} (h : n ≤ 4294967296) : fits n = true := by simp [fits, h]
end Go.Ge

/- Plain laws of loops that go through a list, of words in natural numbers. -/
namespace Go.Ge
set_option linter.unusedSectionVars false
variable [Lp]
set_option linter.unusedVariables false
set_option linter.unusedSimpArgs false

/-! ### Words in natural numbers -/
theorem ltI_len {α : Type} (i : Nat) (l : List α) : ltI (i : Int) (len l) = decide (i < l.length) := by simp [ltI, len]
theorem getElem?_lt {α : Type} {l : List α} {i : Nat} {x : α} (h : l[i]? = some x) : i < l.length := (List.getElem?_eq_some_iff.1 h).1
end Go.Ge

/- The order of texts; two lists gone through side by side. -/
namespace Go.Ge
set_option linter.unusedSectionVars false
variable [Lp]
set_option linter.unusedVariables false
set_option linter.unusedSimpArgs false

/-! ### Side by side -/
end Go.Ge

/- Plain laws of loops that look for something in a list. -/
namespace Go.Ge
set_option linter.unusedSectionVars false
variable [Lp]
set_option linter.unusedVariables false
set_option linter.unusedSimpArgs false

theorem ob {α β : Type} {o : Option α} {x : α} {f : α → Option β} {r : Option β} (h : o = some x) (k : f x = r) : obind o f = r := by rw [h]; exact k

/-- The first place of a list that something is true of, or none. -/
theorem first_or {α : Type} (l : List α) (p : Nat → α → Bool) :
    (∃ i x, l[i]? = some x ∧ p i x = true ∧ ∀ j y, j < i → l[j]? = some y → p j y = false) ∨ ∀ i x, l[i]? = some x → p i x = false := by
  by_cases h : ∃ i x, l[i]? = some x ∧ p i x = true
  · left
    have key : ∀ n i x, i ≤ n → l[i]? = some x → p i x = true → ∃ i x, l[i]? = some x ∧ p i x = true ∧ ∀ j y, j < i → l[j]? = some y → p j y = false := by
      intro n
      induction n with
      | zero =>
        intro i x hi hx hp
        obtain rfl : i = 0 := by omega
        exact ⟨0, x, hx, hp, fun j y hj => by omega⟩
      | succ n ih =>
        intro i x hi hx hp
        by_cases k : ∃ j y, j < i ∧ l[j]? = some y ∧ p j y = true
        · obtain ⟨j, y, hj, hy, hq⟩ := k
          exact ih j y (by omega) hy hq
        · refine ⟨i, x, hx, hp, fun j y hj hy => ?_⟩
          cases hq : p j y with
          | false => rfl
          | true => exact absurd ⟨j, y, hj, hy, hq⟩ k
    obtain ⟨i, x, hx, hp⟩ := h
    exact key i i x (Nat.le_refl _) hx hp
  · right
    intro i x hx
    cases hq : p i x with
    | false => rfl
    | true => exact absurd ⟨i, x, hx, hq⟩ h

/-- A search through a list. -/
theorem srch {α S R : Type} {f : S → Option (S ⊕ R)} (l : List α) (mk : Int → S) (p : Nat → α → Bool) (hitS : Nat → α → R) (finS : R) (hl : l.length ≤ 4294967296)
    (hstep : ∀ i x, l[i]? = some x → i < l.length → iadd .i64 (i : Int) 1 = ((i + 1 : Nat) : Int) → f (mk (i : Int)) = some (if p i x = true then .inr (hitS i x) else .inl (mk ((i + 1 : Nat) : Int))))
    (hfin : f (mk (l.length : Int)) = some (.inr finS)) :
    (∃ i x, l[i]? = some x ∧ p i x = true ∧ (∀ j y, j < i → l[j]? = some y → p j y = false) ∧ Loop f (mk 0) = some (hitS i x)) ∨ ((∀ i x, l[i]? = some x → p i x = false) ∧ Loop f (mk 0) = some finS) := by
  have adv : ∀ i x, l[i]? = some x → p i x = false → f (mk (i : Int)) = some (.inl (mk ((i + 1 : Nat) : Int))) := fun i x hx hp => by
    have hi := getElem?_lt hx
    rw [hstep i x hx hi (iadd_one (by omega)), hp]; rfl
  rcases first_or l p with ⟨i, x, hx, hp, hj⟩ | hn
  · left
    refine ⟨i, x, hx, hp, hj, ?_⟩
    have hi := getElem?_lt hx
    refine loop_seq i (fun j : Nat => mk (j : Int)) (fun j hji => ?_) ?_
    · have hjl : j < l.length := by omega
      exact adv j l[j] (List.getElem?_eq_getElem hjl) (hj j _ hji (List.getElem?_eq_getElem hjl))
    · rw [hstep i x hx hi (iadd_one (by omega)), hp]; rfl
  · right
    refine ⟨hn, loop_seq l.length (fun j : Nat => mk (j : Int)) (fun j hj => ?_) hfin⟩
    exact adv j l[j] (List.getElem?_eq_getElem hj) (hn j _ (List.getElem?_eq_getElem hj))

/-- A list gone through, of whose elements another one is made. -/
theorem fold_app {α β S R : Type} {f : S → Option (S ⊕ R)} (l : List α) (mk : List β → Int → S) (g : α → List β) (fin : R) (hl : l.length ≤ 4294967296)
    (hstep : ∀ i x, l[i]? = some x → i < l.length → iadd .i64 (i : Int) 1 = ((i + 1 : Nat) : Int) → f (mk ((l.take i).flatMap g) (i : Int)) = some (.inl (mk ((l.take i).flatMap g ++ g x) ((i + 1 : Nat) : Int))))
    (hfin : f (mk (l.flatMap g) (l.length : Int)) = some (.inr fin)) : Loop f (mk [] 0) = some fin := by
  refine loop_seq l.length (fun j : Nat => mk ((l.take j).flatMap g) (j : Int)) (fun j hj => ?_) (by simp only [List.take_length]; exact hfin)
  have hx : l[j]? = some l[j] := List.getElem?_eq_getElem hj
  have := hstep j l[j] hx hj (iadd_one (by omega))
  rw [this, List.take_add_one, hx, List.flatMap_append]
  simp
end Go.Ge

/- Who is dead stays dead: the law, in plain words. -/
namespace Go.Ge
set_option linter.unusedSectionVars false
variable [Lp]

theorem loop_inv {S R : Type} {f : S → Option (S ⊕ R)} {Q : R → Prop} (Inv : Nat → S → Prop) : ∀ (d n i : Nat) (s : S), i + d = n → Inv i s → (∀ i s, i < n → Inv i s → ∃ s', f s = some (.inl s') ∧ Inv (i + 1) s') →
    (∀ s, Inv n s → ∃ r, f s = some (.inr r) ∧ Q r) → ∃ r, Loop f s = some r ∧ Q r := by
  intro d
  induction d with
  | zero =>
    intro n i s hi h0 _ hf
    rw [Nat.add_zero] at hi
    subst hi
    obtain ⟨r, h1, h2⟩ := hf s h0
    exact ⟨r, by rw [Loop_eq, h1]; rfl, h2⟩
  | succ d ih =>
    intro n i s hi h0 hs hf
    obtain ⟨s', h1, h2⟩ := hs i s (by omega) h0
    obtain ⟨r, h3, h4⟩ := ih n (i + 1) s' (by omega) h2 hs hf
    exact ⟨r, by rw [Loop_eq, h1]; exact h3, h4⟩

/-- Is the process of a birth there? -/
def alv (l : MapT) (p b : Int) : Bool := bif eqI (mget l p) 0 then false else eqI (mget l p) b
theorem alv_iff {l : MapT} {p b : Int} : alv l p b = true ↔ mget l p ≠ 0 ∧ mget l p = b := by
  unfold alv eqI
  by_cases h : mget l p = 0
  · simp [h]
  · simp [h]
theorem alive_val (l : MapT) (last p b : Int) : P_procs_Table_Alive ((p, (b, ())), ((l, (last, ())), ())) = some ((alv l p b, ()), ((l, (last, ())), ())) := rfl

theorem do_val (a : Int × Int × Int × Unit) (l : MapT) (last : Int) (h0 : 0 ≤ last) (h1 : last < 1000) (hl : l.length ≤ 1000) :
    ∃ n e l' last', P_law11_do ((a, ()), ((l, (last, ())), ())) = some ((n, (e, ())), ((l', (last', ())), ())) ∧ (last ≤ last' ∧ last' ≤ last + 1) ∧ l'.length ≤ l.length + 1 ∧
      (a.1 = 1 → e = 0 → n = last + 1 ∧ last' = last + 1) ∧ ∀ p b, b ≤ last → alv l' p b = true → alv l p b = true := by
  unfold P_law11_do
  dsimp only
  by_cases k1 : a.1 = 1
  · rw [eqI_true k1, sel_true]
    unfold P_procs_Table_Spawn tSpawn
    dsimp only
    rw [show (leI 0 last && ltI last 1000000 && leI (len l) 1000) = true by rw [leI_true h0, ltI_true (by omega), leI_true (by unfold len; omega)]; rfl, iadd_i64 (by omega) (by omega)]
    simp only [cond_true, obind_some]
    cases c1 : (ltI a.2.1 1 || ltI 2147483648 a.2.1) with
    | true =>
      simp only [cond_true]
      exact ⟨_, _, _, _, rfl, by omega, by omega, fun _ h => absurd h (by decide), fun _ _ _ h => h⟩
    | false =>
    simp only [cond_false]
    cases c2 : (!eqI (mget l a.2.1) 0) with
    | true =>
      simp only [cond_true]
      exact ⟨_, _, _, _, rfl, by omega, by omega, fun _ h => absurd h (by decide), fun _ _ _ h => h⟩
    | false =>
    simp only [cond_false]
    cases c3 : leI 8 (len l) with
    | true =>
      simp only [cond_true]
      exact ⟨_, _, _, _, rfl, by omega, by omega, fun _ h => absurd h (by decide), fun _ _ _ h => h⟩
    | false =>
      simp only [cond_false]
      refine ⟨_, _, _, _, rfl, by omega, len_put _ _ _, fun _ _ => ⟨rfl, rfl⟩, fun p b hb h => ?_⟩
      rw [alv_iff, mget_put] at h
      rw [alv_iff]
      by_cases hp : a.2.1 = p
      · rw [if_pos hp] at h; omega
      · rw [if_neg hp] at h; exact h
  · rw [eqI_false k1, sel_false]
    by_cases k2 : a.1 = 2
    · rw [eqI_true k2, sel_true]
      unfold P_procs_Table_Kill tKill
      dsimp only
      simp only [obind_some]
      cases c1 : eqI (mget l a.2.1) 0 with
      | true =>
        simp only [cond_true]
        exact ⟨_, _, _, _, rfl, by omega, by omega, fun h => absurd h k1, fun _ _ _ h => h⟩
      | false =>
        simp only [cond_false]
        refine ⟨_, _, _, _, rfl, by omega, by have := len_del l a.2.1; omega, fun h => absurd h k1, fun p b hb h => ?_⟩
        rw [alv_iff, mget_del] at h
        rw [alv_iff]
        by_cases hp : a.2.1 = p
        · rw [if_pos hp] at h; exact absurd rfl h.1
        · rw [if_neg hp] at h; exact h
    · rw [eqI_false k2, sel_false]
      by_cases k3 : a.1 = 3
      · rw [eqI_true k3, sel_true]
        unfold P_procs_Table_KillAll tKillAll
        dsimp only
        simp only [obind_some]
        refine ⟨_, _, _, _, rfl, by omega, by simp, fun h => absurd h k1, fun p b hb h => ?_⟩
        rw [alv_iff] at h
        exact absurd rfl h.1
      · rw [eqI_false k3, sel_false, alive_val, obind_some]
        dsimp only
        cases alv l a.2.1 a.2.2.1 with
        | true => exact ⟨_, _, _, _, rfl, by omega, by omega, fun h => absurd h k1, fun _ _ _ h => h⟩
        | false => exact ⟨_, _, _, _, rfl, by omega, by omega, fun h => absurd h k1, fun _ _ _ h => h⟩

abbrev DeadS := (Bool × Unit × Unit × Unit × Int × Unit) × List Bool × List Int × List Int × (Unit × Int × Unit) × MapT × Unit
def dS (i : Nat) (dead : List Bool) (births pids : List Int) (last : Int) (l : MapT) : DeadS := ((false, ((), ((), ((), ((i : Int), ()))))), (dead, (births, (pids, (((), (last, ())), (l, ()))))))

/-- What is known of who was begun: how many; nobody who is dead is there. -/
structure Dd (dead : List Bool) (births pids : List Int) (last : Int) (l : MapT) : Prop where
  lb : births.length = dead.length
  lp : pids.length = dead.length
  bl : ∀ (k : Nat) b, births[k]? = some b → b ≤ last
  dd : ∀ (k : Nat) b p, births[k]? = some b → pids[k]? = some p → dead[k]? = some true → alv l p b = false

end Go.Ge

/- Whoever begins and ends, the processes are the document's: the law, in plain words. -/
namespace Go.Ge
set_option linter.unusedSectionVars false
variable [Lp]

theorem sameInts11 (l : List Int) (hl : l.length ≤ 1000000) : P_ref09_SameInts (l, (l, ())) = some (true, ()) := by
  unfold P_ref09_SameInts
  dsimp only
  rw [eqI_true rfl, nt_true, sel_false]
  have key := loop_seq (f := P_ref09_SameInts_L0 (l, (l, ()))) (r := (0, ((false, ((l.length : Int), ())), ()))) l.length (fun i : Nat => ((false, ((i : Int), ())), ())) (fun i hi => by
      have hx : l[i]? = some l[i] := List.getElem?_eq_getElem hi
      unfold P_ref09_SameInts_L0
      dsimp only
      rw [ltI_len, decide_eq_true hi, sel_true, sel_true, idx_nat, hx, obind_some, obind_some, eqI_true rfl, nt_true, sel_false, iadd_one (by omega)]) (by
      unfold P_ref09_SameInts_L0
      dsimp only
      rw [ltI_len, decide_eq_false (by omega), sel_false, sel_false])
  exact ob key rfl

theorem mget_hit {l : MapT} {k : Int} {i : Nat} {x : Int × Int × Unit} (hx : l[i]? = some x) (hk : x.1 = k) (hj : ∀ (j : Nat) y, j < i → l[j]? = some y → y.1 ≠ k) : mget l k = x.2.1 := by
  induction l generalizing i with
  | nil => simp at hx
  | cons y r ih =>
    rw [mget_cons]
    cases i with
    | zero =>
      obtain rfl : y = x := by simpa using hx
      rw [if_pos hk]
    | succ i =>
      rw [if_neg (hj 0 y (by omega) rfl)]
      exact ih (by simpa using hx) fun j z hji hz => hj (j + 1) z (by omega) (by simpa using hz)
theorem mget_none {l : MapT} {k : Int} (h : ∀ (i : Nat) x, l[i]? = some x → x.1 ≠ k) : mget l k = 0 := by
  induction l with
  | nil => rfl
  | cons y r ih =>
    rw [mget_cons, if_neg (h 0 y rfl)]
    exact ih fun i x hx => h (i + 1) x (by simpa using hx)
theorem mget_zero {l : MapT} {k : Int} (hp : ∀ p ∈ l, 1 ≤ p.2.1) (h : mget l k = 0) : ∀ p ∈ l, p.1 ≠ k := by
  induction l with
  | nil => intro p hp; cases hp
  | cons y r ih =>
    rw [mget_cons] at h
    by_cases hy : y.1 = k
    · rw [if_pos hy] at h
      have := hp y (by simp)
      omega
    · rw [if_neg hy] at h
      intro p hq
      rcases List.mem_cons.1 hq with rfl | hq
      · exact hy
      · exact ih (fun p hq => hp p (by simp [hq])) h p hq

/-- Births are numbers from 1 on. -/
def Pos (l : MapT) : Prop := ∀ p ∈ l, 1 ≤ p.2.1

theorem birth_eq (l : MapT) (last pid : Int) (hp : Pos l) (hl : l.length ≤ 1000) :
    P_ref11_Table_Birth ((pid, ()), ((l, (last, ())), ())) = P_procs_Table_Birth ((pid, ()), ((l, (last, ())), ())) := by
  unfold P_ref11_Table_Birth P_procs_Table_Birth tBirth
  dsimp only
  have key := srch (f := P_ref11_Table_Birth_L0 ((pid, ()), ((l, (last, ())), ()))) l (fun i => (((0 : Int), ((0 : Int), (i, ()))), ())) (fun _ x => decide (x.1 = pid)) (fun i x => ((1 : Nat), ((x.2.1, ((0 : Int), ((i : Int), ()))), ()))) ((0 : Nat), (((0 : Int), ((0 : Int), ((l.length : Int), ()))), ())) (by omega)
    (fun i x hx hi hadd => by
      unfold P_ref11_Table_Birth_L0
      dsimp only
      rw [ltI_len, decide_eq_true hi, sel_true, within_true (by omega) (by unfold len; omega), sel_true, idx_nat, hx, obind_some, sel_true, obind_some, hadd]
      by_cases h : x.1 = pid
      · rw [eqI_true h, sel_true, if_pos (decide_eq_true h)]
      · rw [eqI_false h, sel_false, if_neg (by simpa using h)])
    (by
      unfold P_ref11_Table_Birth_L0
      dsimp only
      rw [ltI_len, decide_eq_false (by omega), sel_false])
  rcases key with ⟨i, x, hx, hpx, hj, hL⟩ | ⟨hn, hL⟩
  · rw [hL, obind_some]
    dsimp only
    rw [show eqN (1 : Nat) (0 : Nat) = false from rfl, sel_false]
    have hg : mget l pid = x.2.1 := mget_hit hx (of_decide_eq_true hpx) fun j y hji hy => of_decide_eq_false (hj j y hji hy)
    have h1 := hp x (List.mem_of_getElem? hx)
    rw [hg, eqI_false (by omega)]
    rfl
  · rw [hL, obind_some]
    dsimp only
    rw [show eqN (0 : Nat) (0 : Nat) = true from rfl, sel_true]
    have hg : mget l pid = 0 := mget_none fun i x hx => of_decide_eq_false (hn i x hx)
    rw [hg, eqI_true rfl]
    rfl

theorem alive_eq (l : MapT) (last pid b : Int) (hp : Pos l) (hl : l.length ≤ 1000) :
    P_ref11_Table_Alive ((pid, (b, ())), ((l, (last, ())), ())) = P_procs_Table_Alive ((pid, (b, ())), ((l, (last, ())), ())) := by
  unfold P_ref11_Table_Alive
  dsimp only
  rw [birth_eq l last pid hp hl]
  unfold P_procs_Table_Birth tBirth P_procs_Table_Alive tAlive
  dsimp only
  rw [obind_some]
  cases eqI (mget l pid) 0 <;> rfl

theorem pids_eq (l : MapT) (last : Int) (hl : l.length ≤ 1000) : P_ref11_Table_Pids ((), ((l, (last, ())), ())) = some ((l.map (·.1), ()), ((l, (last, ())), ())) ∧ P_procs_Table_Pids ((), ((l, (last, ())), ())) = some ((l.map (·.1), ()), ((l, (last, ())), ())) := by
  constructor
  · unfold P_ref11_Table_Pids
    dsimp only
    have key := fold_app (f := P_ref11_Table_Pids_L0 ((), ((l, (last, ())), ()))) l (fun out i => (((), (i, ())), (out, ()))) (fun x => [x.1]) (((), ((l.length : Int), ())), (l.flatMap (fun x => [x.1]), ())) (by omega)
      (fun i x hx hi hadd => by
        unfold P_ref11_Table_Pids_L0
        dsimp only
        have hlen : ((l.take i).flatMap fun x : Int × Int × Unit => [x.1]).length ≤ 1000 := by
          have : (l.take i).flatMap (fun x : Int × Int × Unit => [x.1]) = (l.take i).map (·.1) := by induction l.take i with
            | nil => rfl
            | cons a r ih => rw [List.flatMap_cons, ih]; rfl
          rw [this, List.length_map, List.length_take]; omega
        rw [ltI_len, decide_eq_true hi, sel_true, within_true (by omega) (by unfold len; omega), sel_true, idx_nat, hx, obind_some, fits_true (by unfold plus len; simp only [List.length_cons, List.length_nil]; omega), sel_true, hadd]
        rfl)
      (by
        unfold P_ref11_Table_Pids_L0
        dsimp only
        rw [ltI_len, decide_eq_false (by omega), sel_false]
        rfl)
    have hm : l.flatMap (fun x : Int × Int × Unit => [x.1]) = l.map (·.1) := by
      clear key hl
      induction l with
      | nil => rfl
      | cons a r ih => rw [List.flatMap_cons, ih]; rfl
    rw [key, obind_some, hm]
  · unfold P_procs_Table_Pids tPids
    dsimp only
    rw [leI_true (by unfold len; omega)]
    rfl

theorem kill_eq (l : MapT) (last pid : Int) (hp : Pos l) (hl : l.length ≤ 1000) :
    P_ref11_Table_Kill ((pid, ()), ((l, (last, ())), ())) = P_procs_Table_Kill ((pid, ()), ((l, (last, ())), ())) := by
  unfold P_ref11_Table_Kill
  dsimp only
  have hflat : ∀ q : MapT, q.flatMap (fun x => if x.1 = pid then [] else [x]) = mdel q pid := fun q => by
    induction q with
    | nil => rfl
    | cons a r ih =>
      rw [List.flatMap_cons, ih]
      unfold mdel
      rw [List.filter_cons]
      by_cases h : a.1 = pid
      · rw [if_pos h, if_neg (by simp [h])]; rfl
      · rw [if_neg h, if_pos (by simp [h])]; rfl
  have key := fold_app (f := P_ref11_Table_Kill_L0 ((pid, ()), ((l, (last, ())), ()))) l (fun out i => (((), (i, ())), (out, ()))) (fun x => if x.1 = pid then [] else [x]) (((), ((l.length : Int), ())), (mdel l pid, ())) (by omega)
    (fun i x hx hi hadd => by
      have hlen : (mdel (l.take i) pid).length ≤ 1000 := by
        have := len_del (l.take i) pid
        rw [List.length_take] at this
        omega
      rw [hflat]
      unfold P_ref11_Table_Kill_L0
      dsimp only
      rw [ltI_len, decide_eq_true hi, sel_true, within_true (by omega) (by unfold len; omega), sel_true, idx_nat, hx, obind_some, sel_true, obind_some, hadd]
      by_cases h : x.1 = pid
      · rw [eqI_true h, nt_true, sel_false, if_pos h, List.append_nil]
        rfl
      · rw [eqI_false h, nt_false, sel_true, if_neg h, fits_true (by unfold plus len; simp only [List.length_cons, List.length_nil]; omega), sel_true]
        rfl)
    (by
      rw [hflat]
      unfold P_ref11_Table_Kill_L0
      dsimp only
      rw [ltI_len, decide_eq_false (by omega), sel_false]
      rfl)
  rw [key, obind_some]
  dsimp only
  unfold P_procs_Table_Kill tKill
  dsimp only
  by_cases h0 : mget l pid = 0
  · have hz := mget_zero hp h0
    have hd : mdel l pid = l := by
      unfold mdel
      rw [List.filter_eq_self]
      intro p hq
      simpa using hz p hq
    rw [hd, eqI_true rfl, sel_true, eqI_true h0]
    rfl
  · have hlt : (mdel l pid).length < l.length := by
      have hex : ∃ p ∈ l, p.1 = pid := by
        refine Classical.byContradiction fun hn => h0 (mget_none fun i x hx e => hn ⟨x, List.mem_of_getElem? hx, e⟩)
      obtain ⟨p, hq, he⟩ := hex
      unfold mdel
      refine Nat.lt_of_le_of_ne (List.length_filter_le _ _) fun e => ?_
      have := (List.length_filter_eq_length_iff.1 e) p hq
      simp [he] at this
    rw [eqI_false (by unfold len; omega), sel_false, eqI_false h0]
    rfl

/-- Where a number is to stand. -/
def mplace (l : MapT) (k : Int) : Nat := match l with | [] => 0 | y :: r => if y.1 < k then mplace r k + 1 else 0
theorem mplace_le (l : MapT) (k : Int) : mplace l k ≤ l.length := by
  induction l with
  | nil => exact Nat.le_refl _
  | cons y r ih =>
    unfold mplace
    split
    · simp; omega
    · omega
theorem mplace_at (l : MapT) (k : Int) : (∀ (j : Nat) y, j < mplace l k → l[j]? = some y → y.1 < k) ∧ ∀ y, l[mplace l k]? = some y → ¬ y.1 < k := by
  induction l with
  | nil => exact ⟨fun j y h => by simp [mplace] at h, fun y h => by simp at h⟩
  | cons a r ih =>
    unfold mplace
    by_cases h : a.1 < k
    · rw [if_pos h]
      refine ⟨fun j y hj hy => ?_, fun y hy => ih.2 y (by simpa using hy)⟩
      cases j with
      | zero => obtain rfl : a = y := by simpa using hy
                exact h
      | succ j => exact ih.1 j y (by omega) (by simpa using hy)
    · rw [if_neg h]
      exact ⟨fun j y hj => by omega, fun y hy => by obtain rfl : a = y := by simpa using hy
                                                    exact h⟩
theorem mins_place (l : MapT) (p : Int × Int × Unit) (h : ∀ y ∈ l, y.1 ≠ p.1) : mins p l = l.take (mplace l p.1) ++ [p] ++ l.drop (mplace l p.1) := by
  induction l with
  | nil => rfl
  | cons y r ih =>
    have hy := h y (by simp)
    unfold mins mplace
    by_cases hlt : p.1 < y.1
    · rw [if_pos hlt, if_neg (by omega)]; rfl
    · rw [if_neg hlt, if_pos (by omega), ih fun z hz => h z (by simp [hz])]
      rfl

theorem spawn_eq (l : MapT) (last pid : Int) (hp : Pos l) (hl : l.length ≤ 1000) (h0 : 0 ≤ last) (h1 : last < 1000) :
    P_ref11_Table_Spawn ((pid, ()), ((l, (last, ())), ())) = P_procs_Table_Spawn ((pid, ()), ((l, (last, ())), ())) := by
  unfold P_ref11_Table_Spawn
  dsimp only
  unfold P_procs_Table_Spawn tSpawn
  dsimp only
  rw [show (leI 0 last && ltI last 1000000 && leI (len l) 1000) = true by rw [leI_true h0, ltI_true (by omega), leI_true (by unfold len; omega)]; rfl, iadd_i64 (by omega) (by omega)]
  simp only [cond_true]
  have e0 : sel (nt (ltI pid 1)) (ltI 2147483648 pid) true = (ltI pid 1 || ltI 2147483648 pid) := by cases ltI pid 1 <;> rfl
  rw [e0]
  cases c1 : (ltI pid 1 || ltI 2147483648 pid) with
  | true => rfl
  | false =>
  rw [sel_false, birth_eq l last pid hp hl]
  unfold P_procs_Table_Birth tBirth
  dsimp only
  rw [obind_some]
  simp only [cond_false]
  by_cases hg : mget l pid = 0
  · rw [eqI_true hg]
    simp only [cond_true, Bool.not_true, cond_false]
    rw [show eqI (3 : Int) 0 = false from rfl, sel_false]
    cases c3 : leI 8 (len l) with
    | true => rfl
    | false =>
      rw [sel_false]
      simp only [cond_false]
      have hz := mget_zero hp hg
      have hle := mplace_le l pid
      have hat := mplace_at l pid
      have hloop : Loop (P_ref11_Table_Spawn_L0 ((pid, ()), ((l, (last, ())), ())) ((0, (3, ())), ((l, (last, ())), ()))) (((0 : Int), ()), ()) = some (((mplace l pid : Int), ()), ()) := by
        refine loop_seq (mplace l pid) (fun k : Nat => (((k : Int), ()), ())) (fun k hk => ?_) ?_
        · unfold P_ref11_Table_Spawn_L0
          dsimp only
          have hx : l[k]? = some l[k] := List.getElem?_eq_getElem (by omega)
          rw [ltI_len, decide_eq_true (by omega), sel_true, within_true (by omega) (by unfold len; omega), sel_true, idx_nat, hx, obind_some, obind_some, ltI_true (hat.1 k _ hk hx), sel_true, iadd_one (by omega)]
          rfl
        · unfold P_ref11_Table_Spawn_L0
          dsimp only
          rcases Nat.lt_or_ge (mplace l pid) l.length with hlt | hge
          · have hx : l[mplace l pid]? = some l[mplace l pid] := List.getElem?_eq_getElem hlt
            have := hat.2 _ hx
            rw [ltI_len, decide_eq_true hlt, sel_true, within_true (by omega) (by unfold len; omega), sel_true, idx_nat, hx, obind_some, obind_some, ltI_false (by omega), sel_false]
            rfl
          · rw [ltI_len, decide_eq_false (by omega), sel_false, obind_some, sel_false]
            rfl
      rw [hloop, obind_some]
      dsimp only
      have hs1 : @sub (Int × Int × Unit) l 0 (minus (mplace l pid : Int) 0) = l.take (mplace l pid) := by
        unfold sub minus
        simp
      have hs2 : @sub (Int × Int × Unit) l (mplace l pid : Int) (minus (len l) (mplace l pid : Int)) = l.drop (mplace l pid) := by
        unfold sub minus len
        have : ((l.length : Int) - (mplace l pid : Int)).toNat = (l.drop (mplace l pid)).length := by rw [List.length_drop]; omega
        rw [this, Int.toNat_natCast, List.take_length]
      rw [hs1, hs2]
      have hpl : (mplace l pid : Int) ≤ (l.length : Int) := by omega
      rw [inside_true (by omega) (by omega) (by unfold len; omega), sel_true, inside_true (by omega) (by unfold len; omega) (by omega), sel_true, fits_true (by unfold plus len; simp; omega), fits_true (by unfold plus len app; simp; omega), fits_true (by unfold plus len app; simp; omega)]
      rw [sel_true, sel_true, sel_true]
      have hdel : mdel l pid = l := by
        unfold mdel
        rw [List.filter_eq_self]
        intro p hq
        simpa using hz p hq
      have hput : mput l pid (last + 1) = l.take (mplace l pid) ++ [(pid, (last + 1, ()))] ++ l.drop (mplace l pid) := by
        unfold mput
        rw [hdel]
        exact mins_place l (pid, (last + 1, ())) hz
      rw [hput, iadd_i64 (by omega) (by omega)]
      rfl
  · rw [eqI_false hg]
    rfl

theorem pos_del {l : MapT} (h : Pos l) (k : Int) : Pos (mdel l k) := fun p hp => h p (List.mem_filter.1 hp).1
theorem pos_ins {l : MapT} (h : Pos l) (p : Int × Int × Unit) (hp : 1 ≤ p.2.1) : Pos (mins p l) := by
  induction l with
  | nil => intro q hq; obtain rfl : q = p := by simpa [mins] using hq
           exact hp
  | cons y r ih =>
    intro q hq
    unfold mins at hq
    split at hq
    · rcases List.mem_cons.1 hq with rfl | hq
      · exact hp
      · exact h q hq
    · rcases List.mem_cons.1 hq with rfl | hq
      · exact h _ (by simp)
      · exact ih (fun z hz => h z (by simp [hz])) q hq

theorem do_eq (a : Int × Int × Int × Unit) (l : MapT) (last : Int) (hp : Pos l) (h0 : 0 ≤ last) (h1 : last < 1000) (hl : l.length ≤ 999) :
    ∃ n e l' last', P_law11_do ((a, ()), ((l, (last, ())), ())) = some ((n, (e, ())), ((l', (last', ())), ())) ∧ P_ref11_Table_Do ((a, ()), ((l, (last, ())), ())) = some ((n, (e, ())), ((l', (last', ())), ())) ∧
      Pos l' ∧ (last ≤ last' ∧ last' ≤ last + 1) ∧ l'.length ≤ l.length + 1 := by
  obtain ⟨n, e, l', last', hd, hla, hlen, _, _⟩ := do_val a l last h0 h1 (by omega)
  refine ⟨n, e, l', last', hd, ?_, ?_, hla, hlen⟩
  · rw [← hd]
    unfold P_ref11_Table_Do P_law11_do
    dsimp only
    rw [spawn_eq l last a.2.1 hp (by omega) h0 h1, kill_eq l last a.2.1 hp (by omega), alive_eq l last a.2.1 a.2.2.1 hp (by omega)]
    cases eqI a.1 1 with
    | true => rfl
    | false =>
    rw [sel_false, sel_false]
    cases eqI a.1 2 with
    | true => rfl
    | false =>
    rw [sel_false, sel_false]
    cases eqI a.1 3 with
    | true => rfl
    | false => rfl
  · unfold P_law11_do at hd
    dsimp only at hd
    by_cases k1 : a.1 = 1
    · rw [eqI_true k1, sel_true] at hd
      unfold P_procs_Table_Spawn tSpawn at hd
      dsimp only at hd
      rw [show (leI 0 last && ltI last 1000000 && leI (len l) 1000) = true by rw [leI_true h0, ltI_true (by omega), leI_true (by unfold len; omega)]; rfl, iadd_i64 (by omega) (by omega)] at hd
      simp only [cond_true, obind_some] at hd
      cases c1 : (ltI a.2.1 1 || ltI 2147483648 a.2.1) with
      | true => rw [c1] at hd; cases hd; exact hp
      | false =>
      rw [c1] at hd
      simp only [cond_false] at hd
      cases c2 : (!eqI (mget l a.2.1) 0) with
      | true => rw [c2] at hd; cases hd; exact hp
      | false =>
      rw [c2] at hd
      simp only [cond_false] at hd
      cases c3 : leI 8 (len l) with
      | true => rw [c3] at hd; cases hd; exact hp
      | false =>
        rw [c3] at hd
        cases hd
        exact pos_ins (pos_del hp _) _ (by show 1 ≤ last + 1; omega)
    · rw [eqI_false k1, sel_false] at hd
      by_cases k2 : a.1 = 2
      · rw [eqI_true k2, sel_true] at hd
        unfold P_procs_Table_Kill tKill at hd
        dsimp only at hd
        simp only [obind_some] at hd
        cases c1 : eqI (mget l a.2.1) 0 with
        | true => rw [c1] at hd; cases hd; exact hp
        | false => rw [c1] at hd; cases hd; exact pos_del hp _
      · rw [eqI_false k2, sel_false] at hd
        by_cases k3 : a.1 = 3
        · rw [eqI_true k3, sel_true] at hd
          cases hd
          exact fun p hp => by cases hp
        · rw [eqI_false k3, sel_false, alive_val, obind_some] at hd
          dsimp only at hd
          cases c : alv l a.2.1 a.2.2.1 with
          | true => rw [c] at hd; cases hd; exact hp
          | false => rw [c] at hd; cases hd; exact hp

abbrev PlayS := (Bool × Int × Unit) × (Unit × Int × Unit) × MapT × (Unit × Int × Unit) × MapT × Unit
def pS (i : Nat) (last : Int) (l : MapT) : PlayS := ((false, ((i : Int), ())), (((), (last, ())), (l, (((), (last, ())), (l, ())))))

theorem procsPlay_val (x) : P_law11_ProcsPlay x = some (true, ()) := by
  unfold P_law11_ProcsPlay
  have ha : P_law11_awake () = some (true, ()) := rfl
  cases h40 : ltI (40 : Int) (@len (Int × Int × Int × Unit) x.1) with
  | true => rw [sel_true, ha]; rfl
  | false =>
  rw [sel_false]
  have hle : x.1.length ≤ 40 := by
    have : ¬ (40 : Int) < (x.1.length : Int) := of_decide_eq_false h40
    omega
  have main := loop_inv (f := P_law11_ProcsPlay_L0 x) (Q := fun r => ∃ last l, r = (0, pS x.1.length last l) ∧ Pos l ∧ (0 ≤ last ∧ last ≤ 40) ∧ l.length ≤ 40)
    (fun i s => ∃ last l, s = pS i last l ∧ Pos l ∧ (0 ≤ last ∧ last ≤ (i : Int)) ∧ l.length ≤ i) x.1.length x.1.length 0 (pS 0 0 []) (Nat.zero_add _)
    ⟨0, [], rfl, (fun p hp => by cases hp), ⟨by decide, by decide⟩, Nat.le_refl _⟩ ?_ ?_
  · obtain ⟨r, h1, last, l, rfl, hp, ⟨hl0, hl1⟩, hm⟩ := main
    rw [show (((false, ((0 : Int), ())), (((), ((0 : Int), ())), (([] : List (Int × Int × Unit)), (((), ((0 : Int), ())), (([] : List (Int × Int × Unit)), ()))))) : PlayS) = pS 0 0 [] from rfl, h1, obind_some]
    unfold pS
    dsimp only
    rw [show eqN (0 : Nat) (0 : Nat) = true from rfl, sel_true, (pids_eq [] 0 (by decide)).2, obind_some]
    dsimp only
    rw [show nt (eqI (@len Int (List.map (fun x : Int × Int × Unit => x.1) [])) (0 : Int)) = false from rfl, sel_false]
    rw [show P_procs_Table_KillAll ((), ((l, (last, ())), ())) = some ((), (([], (last, ())), ())) from rfl, obind_some]
    dsimp only
    rw [spawn_eq l last 9 hp (by omega) hl0 (by omega)]
    obtain ⟨n, e, l', last', hd, _, hlen, _, _⟩ := do_val (1, (9, (0, ()))) l last hl0 (by omega) (by omega)
    have hsp : P_procs_Table_Spawn (((9 : Int), ()), ((l, (last, ())), ())) = some ((n, (e, ())), ((l', (last', ())), ())) := by
      unfold P_law11_do at hd
      dsimp only at hd
      rw [show eqI (1 : Int) 1 = true from rfl, sel_true] at hd
      cases hq : P_procs_Table_Spawn (((9 : Int), ()), ((l, (last, ())), ())) with
      | none => rw [hq] at hd; cases hd
      | some z => rw [hq] at hd; exact hd
    rw [hsp, obind_some, obind_some]
    dsimp only
    rw [eqI_true rfl, eqI_true rfl, sel_true, sel_true, (pids_eq l' last' (by omega)).2, obind_some, (pids_eq l' last' (by omega)).1, obind_some]
    dsimp only
    rw [sameInts11 _ (by rw [List.length_map]; omega), obind_some, sel_true, (pids_eq [] last (by decide)).2, obind_some]
    dsimp only
    rw [show eqI (@len Int (List.map (fun x : Int × Int × Unit => x.1) [])) (0 : Int) = true from rfl, sel_true, ha]
    rfl
  · rintro i s hi ⟨last, l, rfl, hp, ⟨hl0, hl1⟩, hm⟩
    have hx : x.1[i]? = some x.1[i] := List.getElem?_eq_getElem hi
    generalize x.1[i] = act at hx
    obtain ⟨n, e, l', last', hd1, hd2, hp', ⟨hla, hlb⟩, hlen⟩ := do_eq act l last hp hl0 (by omega) (by omega)
    unfold P_law11_ProcsPlay_L0 pS
    dsimp only
    rw [ltI_len, decide_eq_true hi, sel_true, idx_nat, hx, obind_some, hd1, obind_some, obind_some, hd2, obind_some, obind_some]
    dsimp only
    obtain ⟨y, hy⟩ : ∃ y : Int × Int × Unit, P_procs_Table_Birth ((act.2.1, ()), ((l', (last', ())), ())) = some (y, ((l', (last', ())), ())) := ⟨_, rfl⟩
    rw [hy, obind_some, obind_some]
    dsimp only
    rw [birth_eq l' last' act.2.1 hp' (by omega), hy, obind_some]
    dsimp only
    rw [eqI_true rfl, eqI_true rfl, eqI_true rfl, eqI_true rfl]
    rw [show nt (sel (nt (sel (nt (sel (nt (nt true)) (nt true) true)) (nt true) true)) (nt true) true) = true from rfl, sel_true]
    rw [(pids_eq l' last' (by omega)).2, obind_some, (pids_eq l' last' (by omega)).1, obind_some]
    dsimp only
    rw [sameInts11 _ (by rw [List.length_map]; omega), obind_some, nt_true, sel_false, iadd_one (by omega)]
    exact ⟨_, rfl, last', l', rfl, hp', ⟨by omega, by omega⟩, by omega⟩
  · rintro s ⟨last, l, rfl, hp, ⟨hl0, hl1⟩, hm⟩
    unfold P_law11_ProcsPlay_L0 pS
    dsimp only
    rw [ltI_len, decide_eq_false (by omega), sel_false]
    exact ⟨_, rfl, last, l, rfl, hp, ⟨hl0, by omega⟩, by omega⟩

end Go.Ge
