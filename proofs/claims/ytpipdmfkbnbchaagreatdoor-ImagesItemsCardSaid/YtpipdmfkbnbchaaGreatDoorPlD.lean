/- Plain laws of what the functions compute: part 4. -/
import Derived.Test.YtpipdmfkbnbchaaGreatDoorPlC
import Derived.Test.YtpipdmfkbnbchaaGreatDoorGeI
/- What the functions compute on given arguments, run by the kernel: loops go so many rounds. -/
namespace Go.Ge
set_option linter.unusedVariables false
set_option maxRecDepth 100000
abbrev Sb := List UInt8
abbrev R22zx0 := ((Bool × (List (Int)) × Unit) × (List (Int)) × Int × Unit)
abbrev R22zx1 := ((Int × Unit) × (List (Int)) × Unit)
abbrev R22zx2 := (Int × Int × Int × Int × Int × Int × Int × Int × Int × Unit)
abbrev R22zx3 := ((Sb × Unit) × (List (Bool)) × Unit)
abbrev R22zx4 := ((Nat × (Int × Unit) × (List (Int)) × Unit))
abbrev R22zx5 := ((Int × Unit) × (Unit × Unit × Unit) × (List (Int)) × Unit)
abbrev R22zx6 := ((Nat × (Sb × Unit) × (List (Bool)) × Unit))

noncomputable def Q_sha_begin (x : Unit) : Option ((List (Int)) × Unit) :=
  some (([(1779033703 : Int), (3144134277 : Int), (1013904242 : Int), (2773480762 : Int), (1359893119 : Int), (2600822924 : Int), (528734635 : Int), (1541459225 : Int)] : List (Int)), ())
theorem le_P_sha_begin : ∀ x, OLe (Q_sha_begin x) (P_sha_begin x) := by
  unfold Q_sha_begin P_sha_begin
  with_reducible repeat' (first | intro _ | apply OLe.obind | apply OLe.sel | apply OLe.way1 | apply OLe.loop | apply OLe.cond | apply OLe.pick | apply OLe.refl)

noncomputable def Q_sha_round (x : Unit) : Option ((List (Int)) × Unit) :=
  some (([(1116352408 : Int), (1899447441 : Int), (3049323471 : Int), (3921009573 : Int), (961987163 : Int), (1508970993 : Int), (2453635748 : Int), (2870763221 : Int), (3624381080 : Int), (310598401 : Int), (607225278 : Int), (1426881987 : Int), (1925078388 : Int), (2162078206 : Int), (2614888103 : Int), (3248222580 : Int), (3835390401 : Int), (4022224774 : Int), (264347078 : Int), (604807628 : Int), (770255983 : Int), (1249150122 : Int), (1555081692 : Int), (1996064986 : Int), (2554220882 : Int), (2821834349 : Int), (2952996808 : Int), (3210313671 : Int), (3336571891 : Int), (3584528711 : Int), (113926993 : Int), (338241895 : Int), (666307205 : Int), (773529912 : Int), (1294757372 : Int), (1396182291 : Int), (1695183700 : Int), (1986661051 : Int), (2177026350 : Int), (2456956037 : Int), (2730485921 : Int), (2820302411 : Int), (3259730800 : Int), (3345764771 : Int), (3516065817 : Int), (3600352804 : Int), (4094571909 : Int), (275423344 : Int), (430227734 : Int), (506948616 : Int), (659060556 : Int), (883997877 : Int), (958139571 : Int), (1322822218 : Int), (1537002063 : Int), (1747873779 : Int), (1955562222 : Int), (2024104815 : Int), (2227730452 : Int), (2361852424 : Int), (2428436474 : Int), (2756734187 : Int), (3204031479 : Int), (3329325298 : Int)] : List (Int)), ())
theorem le_P_sha_round : ∀ x, OLe (Q_sha_round x) (P_sha_round x) := by
  unfold Q_sha_round P_sha_round
  with_reducible repeat' (first | intro _ | apply OLe.obind | apply OLe.sel | apply OLe.way1 | apply OLe.loop | apply OLe.cond | apply OLe.pick | apply OLe.refl)

noncomputable def Q_math_bits_RotateLeft32 (x : Int × Int × Unit) : Option (Int × Unit) :=
  sel (ltI (iand IntKind.u64 (icv IntKind.u64 x.2.1) (31 : Int)) (0 : Int))
  none
  (sel (ltI (isub IntKind.u64 (32 : Int) (iand IntKind.u64 (icv IntKind.u64 x.2.1) (31 : Int))) (0 : Int))
  none
  (some (ior IntKind.u32 (ishl IntKind.u32 x.1 (iand IntKind.u64 (icv IntKind.u64 x.2.1) (31 : Int))) (ishr IntKind.u32 x.1 (isub IntKind.u64 (32 : Int) (iand IntKind.u64 (icv IntKind.u64 x.2.1) (31 : Int)))), ())))
theorem le_P_math_bits_RotateLeft32 : ∀ x, OLe (Q_math_bits_RotateLeft32 x) (P_math_bits_RotateLeft32 x) := by
  unfold Q_math_bits_RotateLeft32 P_math_bits_RotateLeft32
  with_reducible repeat' (first | intro _ | apply OLe.obind | apply OLe.sel | apply OLe.way1 | apply OLe.loop | apply OLe.cond | apply OLe.pick | apply OLe.refl)

noncomputable def Q_sha_right (x : Int × Int × Unit) : Option (Int × Unit) :=
  obind (Q_math_bits_RotateLeft32 (x.1, (isub IntKind.i64 (0 : Int) x.2.1, ()))) (fun (y1 : Int × Unit) => some (y1.1, ()))
theorem le_P_sha_right : ∀ x, OLe (Q_sha_right x) (P_sha_right x) := by
  unfold Q_sha_right P_sha_right
  with_reducible repeat' (first | intro _ | exact le_P_math_bits_RotateLeft32 .. | apply OLe.obind | apply OLe.sel | apply OLe.way1 | apply OLe.loop | apply OLe.cond | apply OLe.pick | apply OLe.refl)

noncomputable def Q_sha_schedule_L1 (x : (List (Int)) × Unit) (y1 : (Int × Unit) × (List (Int)) × Unit) (y2 : (Int × Unit) × (List (Int)) × Unit) : Option (R22zx1 ⊕ R22zx1) :=
  @way1 R22zx1 (sel (ltI y2.1.1 (minus (iadd IntKind.i64 (imul IntKind.i64 (4 : Int) y1.1.1) (4 : Int)) (imul IntKind.i64 (4 : Int) y1.1.1)))
  (sel (within y2.1.1 (minus (iadd IntKind.i64 (imul IntKind.i64 (4 : Int) y1.1.1) (4 : Int)) (imul IntKind.i64 (4 : Int) y1.1.1)))
  (obind (@idx Int x.1 (plus (imul IntKind.i64 (4 : Int) y1.1.1) y2.1.1)) (fun (y3 : Int) => sel (within y1.1.1 (64 : Int))
  (obind (@idx Int y2.2.1 y1.1.1) (fun (y4 : Int) => sel (ltI (8 : Int) (0 : Int))
  none
  (sel (within y1.1.1 (64 : Int))
  (obind (@idx Int y2.2.1 y1.1.1) (fun (y5 : Int) => obind (@idx Int y2.2.1 y1.1.1) (fun (y6 : Int) => obind (@idx Int y2.2.1 y1.1.1) (fun (y7 : Int) => some (Sum.inl ((iadd IntKind.i64 y2.1.1 (1 : Int), ()), (@lset Int y2.2.1 y1.1.1 (ior IntKind.u32 (ishl IntKind.u32 y4 (8 : Int)) (icv IntKind.u32 y3)), ())) : (R22zx1) ⊕ R22zx4)))))
  none)))
  none))
  none)
  (some (Sum.inr ((0 : Nat), ((y2.1.1, ()), (y2.2.1, ()))) : (R22zx1) ⊕ R22zx4)))
theorem le_P_sha_schedule_L1 : ∀ x y1 y2, OLe (Q_sha_schedule_L1 x y1 y2) (P_sha_schedule_L1 x y1 y2) := by
  unfold Q_sha_schedule_L1 P_sha_schedule_L1
  with_reducible repeat' (first | intro _ | apply OLe.obind | apply OLe.sel | apply OLe.way1 | apply OLe.loop | apply OLe.cond | apply OLe.pick | apply OLe.refl)

noncomputable def Q_sha_schedule_L0 (x : (List (Int)) × Unit) (y1 : (Int × Unit) × (List (Int)) × Unit) : Option (R22zx1 ⊕ R22zx1) :=
  @way1 R22zx1 (sel (ltI y1.1.1 (16 : Int))
  (sel (inside (imul IntKind.i64 (4 : Int) y1.1.1) (iadd IntKind.i64 (imul IntKind.i64 (4 : Int) y1.1.1) (4 : Int)) (64 : Int))
  (obind (RLoop (Q_sha_schedule_L1 x y1) (((0 : Int), ()), (y1.2.1, ()))) (fun (y2 : (Int × Unit) × (List (Int)) × Unit) => some (Sum.inl ((iadd IntKind.i64 y1.1.1 (1 : Int), ()), (y2.2.1, ())) : (R22zx1) ⊕ R22zx4)))
  none)
  (some (Sum.inr ((0 : Nat), ((y1.1.1, ()), (y1.2.1, ()))) : (R22zx1) ⊕ R22zx4)))
theorem le_P_sha_schedule_L0 : ∀ x y1, OLe (Q_sha_schedule_L0 x y1) (P_sha_schedule_L0 x y1) := by
  unfold Q_sha_schedule_L0 P_sha_schedule_L0
  with_reducible repeat' (first | intro _ | exact le_P_sha_schedule_L1 .. | apply OLe.obind | apply OLe.sel | apply OLe.way1 | apply OLe.loop | apply OLe.cond | apply OLe.pick | apply OLe.refl)

noncomputable def Q_sha_schedule_L2 (y2 : (Int × Unit) × (List (Int)) × Unit) : Option (R22zx1 ⊕ R22zx1) :=
  @way1 R22zx1 (sel (ltI y2.1.1 (64 : Int))
  (sel (within (isub IntKind.i64 y2.1.1 (2 : Int)) (64 : Int))
  (obind (@idx Int y2.2.1 (isub IntKind.i64 y2.1.1 (2 : Int))) (fun (y3 : Int) => sel (within (isub IntKind.i64 y2.1.1 (15 : Int)) (64 : Int))
  (obind (@idx Int y2.2.1 (isub IntKind.i64 y2.1.1 (15 : Int))) (fun (y4 : Int) => obind (Q_sha_right (y4, ((7 : Int), ()))) (fun (y5 : Int × Unit) => obind (Q_sha_right (y4, ((18 : Int), ()))) (fun (y6 : Int × Unit) => sel (ltI (3 : Int) (0 : Int))
  none
  (obind (Q_sha_right (y3, ((17 : Int), ()))) (fun (y7 : Int × Unit) => obind (Q_sha_right (y3, ((19 : Int), ()))) (fun (y8 : Int × Unit) => sel (ltI (10 : Int) (0 : Int))
  none
  (sel (within (isub IntKind.i64 y2.1.1 (7 : Int)) (64 : Int))
  (obind (@idx Int y2.2.1 (isub IntKind.i64 y2.1.1 (7 : Int))) (fun (y9 : Int) => sel (within (isub IntKind.i64 y2.1.1 (16 : Int)) (64 : Int))
  (obind (@idx Int y2.2.1 (isub IntKind.i64 y2.1.1 (16 : Int))) (fun (y10 : Int) => sel (within y2.1.1 (64 : Int))
  (obind (@idx Int y2.2.1 y2.1.1) (fun (y11 : Int) => obind (@idx Int y2.2.1 y2.1.1) (fun (y12 : Int) => obind (@idx Int y2.2.1 y2.1.1) (fun (y13 : Int) => some (Sum.inl ((iadd IntKind.i64 y2.1.1 (1 : Int), ()), (@lset Int y2.2.1 y2.1.1 (iadd IntKind.u32 (iadd IntKind.u32 (iadd IntKind.u32 (ixor IntKind.u32 (ixor IntKind.u32 y7.1 y8.1) (ishr IntKind.u32 y3 (10 : Int))) y9) (ixor IntKind.u32 (ixor IntKind.u32 y5.1 y6.1) (ishr IntKind.u32 y4 (3 : Int)))) y10), ())) : (R22zx1) ⊕ R22zx4)))))
  none))
  none))
  none))))))))
  none))
  none)
  (some (Sum.inr ((0 : Nat), ((y2.1.1, ()), (y2.2.1, ()))) : (R22zx1) ⊕ R22zx4)))
theorem le_P_sha_schedule_L2 : ∀ y2, OLe (Q_sha_schedule_L2 y2) (P_sha_schedule_L2 y2) := by
  unfold Q_sha_schedule_L2 P_sha_schedule_L2
  with_reducible repeat' (first | intro _ | exact le_P_sha_right .. | apply OLe.obind | apply OLe.sel | apply OLe.way1 | apply OLe.loop | apply OLe.cond | apply OLe.pick | apply OLe.refl)

noncomputable def Q_sha_schedule (x : (List (Int)) × Unit) : Option ((List (Int)) × Unit) :=
  obind (RLoop (Q_sha_schedule_L0 x) (((0 : Int), ()), (([(0 : Int), (0 : Int), (0 : Int), (0 : Int), (0 : Int), (0 : Int), (0 : Int), (0 : Int), (0 : Int), (0 : Int), (0 : Int), (0 : Int), (0 : Int), (0 : Int), (0 : Int), (0 : Int), (0 : Int), (0 : Int), (0 : Int), (0 : Int), (0 : Int), (0 : Int), (0 : Int), (0 : Int), (0 : Int), (0 : Int), (0 : Int), (0 : Int), (0 : Int), (0 : Int), (0 : Int), (0 : Int), (0 : Int), (0 : Int), (0 : Int), (0 : Int), (0 : Int), (0 : Int), (0 : Int), (0 : Int), (0 : Int), (0 : Int), (0 : Int), (0 : Int), (0 : Int), (0 : Int), (0 : Int), (0 : Int), (0 : Int), (0 : Int), (0 : Int), (0 : Int), (0 : Int), (0 : Int), (0 : Int), (0 : Int), (0 : Int), (0 : Int), (0 : Int), (0 : Int), (0 : Int), (0 : Int), (0 : Int), (0 : Int)] : List (Int)), ()))) (fun (y1 : (Int × Unit) × (List (Int)) × Unit) => obind (RLoop (Q_sha_schedule_L2) (((16 : Int), ()), (y1.2.1, ()))) (fun (y2 : (Int × Unit) × (List (Int)) × Unit) => some (y2.2.1, ())))
theorem le_P_sha_schedule : ∀ x, OLe (Q_sha_schedule x) (P_sha_schedule x) := by
  unfold Q_sha_schedule P_sha_schedule
  with_reducible repeat' (first | intro _ | exact le_P_sha_schedule_L0 .. | exact le_P_sha_schedule_L2 .. | apply OLe.obind | apply OLe.sel | apply OLe.way1 | apply OLe.loop | apply OLe.cond | apply OLe.pick | apply OLe.refl)

noncomputable def Q_sha_Stream_Add_L1 (y3 : (List (Int)) × Unit) (y4 : (List (Int)) × Unit) (y13 : R22zx2 × Unit) : Option ((R22zx2 × Unit) ⊕ (R22zx2 × Unit)) :=
  @way1 (R22zx2 × Unit) (sel (ltI y13.1.2.2.2.2.2.2.2.2.1 (64 : Int))
  (obind (Q_sha_right (y13.1.2.2.2.2.1, ((6 : Int), ()))) (fun (y14 : Int × Unit) => obind (Q_sha_right (y13.1.2.2.2.2.1, ((11 : Int), ()))) (fun (y15 : Int × Unit) => obind (Q_sha_right (y13.1.2.2.2.2.1, ((25 : Int), ()))) (fun (y16 : Int × Unit) => sel (within y13.1.2.2.2.2.2.2.2.2.1 (64 : Int))
  (obind (@idx Int y3.1 y13.1.2.2.2.2.2.2.2.2.1) (fun (y17 : Int) => sel (within y13.1.2.2.2.2.2.2.2.2.1 (64 : Int))
  (obind (@idx Int y4.1 y13.1.2.2.2.2.2.2.2.2.1) (fun (y18 : Int) => obind (Q_sha_right (y13.1.1, ((2 : Int), ()))) (fun (y19 : Int × Unit) => obind (Q_sha_right (y13.1.1, ((13 : Int), ()))) (fun (y20 : Int × Unit) => obind (Q_sha_right (y13.1.1, ((22 : Int), ()))) (fun (y21 : Int × Unit) => some (Sum.inl ((iadd IntKind.u32 (iadd IntKind.u32 (iadd IntKind.u32 (iadd IntKind.u32 (iadd IntKind.u32 y13.1.2.2.2.2.2.2.2.1 (ixor IntKind.u32 (ixor IntKind.u32 y14.1 y15.1) y16.1)) (ixor IntKind.u32 y13.1.2.2.2.2.2.2.1 (iand IntKind.u32 y13.1.2.2.2.2.1 (ixor IntKind.u32 y13.1.2.2.2.2.2.1 y13.1.2.2.2.2.2.2.1)))) y17) y18) (iadd IntKind.u32 (ixor IntKind.u32 (ixor IntKind.u32 y19.1 y20.1) y21.1) (ior IntKind.u32 (iand IntKind.u32 y13.1.1 y13.1.2.1) (iand IntKind.u32 y13.1.2.2.1 (ior IntKind.u32 y13.1.1 y13.1.2.1)))), (y13.1.1, (y13.1.2.1, (y13.1.2.2.1, (iadd IntKind.u32 y13.1.2.2.2.1 (iadd IntKind.u32 (iadd IntKind.u32 (iadd IntKind.u32 (iadd IntKind.u32 y13.1.2.2.2.2.2.2.2.1 (ixor IntKind.u32 (ixor IntKind.u32 y14.1 y15.1) y16.1)) (ixor IntKind.u32 y13.1.2.2.2.2.2.2.1 (iand IntKind.u32 y13.1.2.2.2.2.1 (ixor IntKind.u32 y13.1.2.2.2.2.2.1 y13.1.2.2.2.2.2.2.1)))) y17) y18), (y13.1.2.2.2.2.1, (y13.1.2.2.2.2.2.1, (y13.1.2.2.2.2.2.2.1, (iadd IntKind.i64 y13.1.2.2.2.2.2.2.2.2.1 (1 : Int), ()))))))))), ()) : ((R22zx2 × Unit)) ⊕ ((Nat × R22zx2 × Unit))))))))
  none))
  none))))
  (some (Sum.inr ((0 : Nat), ((y13.1.1, (y13.1.2.1, (y13.1.2.2.1, (y13.1.2.2.2.1, (y13.1.2.2.2.2.1, (y13.1.2.2.2.2.2.1, (y13.1.2.2.2.2.2.2.1, (y13.1.2.2.2.2.2.2.2.1, (y13.1.2.2.2.2.2.2.2.2.1, ()))))))))), ())) : ((R22zx2 × Unit)) ⊕ ((Nat × R22zx2 × Unit)))))
theorem le_P_sha_Stream_Add_L1 : ∀ y3 y4 y13, OLe (Q_sha_Stream_Add_L1 y3 y4 y13) (P_sha_Stream_Add_L1 y3 y4 y13) := by
  unfold Q_sha_Stream_Add_L1 P_sha_Stream_Add_L1
  with_reducible repeat' (first | intro _ | exact le_P_sha_right .. | apply OLe.obind | apply OLe.sel | apply OLe.way1 | apply OLe.loop | apply OLe.cond | apply OLe.pick | apply OLe.refl)

noncomputable def Q_sha_Stream_Add_L2 (y13 : R22zx2 × Unit) (y14 : (Int × Unit) × R22zx0 × Unit) : Option (((Int × Unit) × R22zx0 × Unit) ⊕ ((Int × Unit) × R22zx0 × Unit)) :=
  @way1 ((Int × Unit) × R22zx0 × Unit) (sel (ltI y14.1.1 (8 : Int))
  (obind (@idx Int ([y13.1.1, y13.1.2.1, y13.1.2.2.1, y13.1.2.2.2.1, y13.1.2.2.2.2.1, y13.1.2.2.2.2.2.1, y13.1.2.2.2.2.2.2.1, y13.1.2.2.2.2.2.2.2.1] : List (Int)) y14.1.1) (fun (y15 : Int) => sel (within y14.1.1 (8 : Int))
  (obind (@idx Int y14.2.1.1.2.1 y14.1.1) (fun (y16 : Int) => sel (within y14.1.1 (8 : Int))
  (obind (@idx Int y14.2.1.1.2.1 y14.1.1) (fun (y17 : Int) => obind (@idx Int y14.2.1.1.2.1 y14.1.1) (fun (y18 : Int) => obind (@idx Int y14.2.1.1.2.1 y14.1.1) (fun (y19 : Int) => some (Sum.inl ((iadd IntKind.i64 y14.1.1 (1 : Int), ()), (((y14.2.1.1.1, (@lset Int y14.2.1.1.2.1 y14.1.1 (iadd IntKind.u32 y16 y15), y14.2.1.1.2.2)), y14.2.1.2), ())) : (((Int × Unit) × R22zx0 × Unit)) ⊕ ((Nat × (Int × Unit) × R22zx0 × Unit)))))))
  none))
  none))
  (some (Sum.inr ((0 : Nat), ((y14.1.1, ()), (y14.2.1, ()))) : (((Int × Unit) × R22zx0 × Unit)) ⊕ ((Nat × (Int × Unit) × R22zx0 × Unit)))))
theorem le_P_sha_Stream_Add_L2 : ∀ y13 y14, OLe (Q_sha_Stream_Add_L2 y13 y14) (P_sha_Stream_Add_L2 y13 y14) := by
  unfold Q_sha_Stream_Add_L2 P_sha_Stream_Add_L2
  with_reducible repeat' (first | intro _ | apply OLe.obind | apply OLe.sel | apply OLe.way1 | apply OLe.loop | apply OLe.cond | apply OLe.pick | apply OLe.refl)

noncomputable def Q_sha_Stream_Add_L0 (y1 : (Sb × Unit) × R22zx0 × Unit) : Option (((Sb × Unit) × R22zx0 × Unit) ⊕ ((Sb × Unit) × R22zx0 × Unit)) :=
  @way1 ((Sb × Unit) × R22zx0 × Unit) (sel (nt (eqS y1.1.1 ([] : List (UInt8))))
  (sel (eqI (64 : Int) (0 : Int))
  none
  (sel (inside (irem y1.2.1.2.2.1 (64 : Int)) (64 : Int) (64 : Int))
  (sel (inside (@len Int (@ltake Int (bytesInts y1.1.1) (minus (64 : Int) (irem y1.2.1.2.2.1 (64 : Int))))) (@len UInt8 y1.1.1) (@len UInt8 y1.1.1))
  (obind (sel (eqI (iadd IntKind.i64 (irem y1.2.1.2.2.1 (64 : Int)) (@len Int (@ltake Int (bytesInts y1.1.1) (minus (64 : Int) (irem y1.2.1.2.2.1 (64 : Int)))))) (64 : Int))
  (obind (sel (nt y1.2.1.1.1)
  (obind (Q_sha_begin ()) (fun (y2 : (List (Int)) × Unit) => some ((), (((true, (y2.1, y1.2.1.1.2.2)), (@over Int y1.2.1.2.1 (irem y1.2.1.2.2.1 (64 : Int)) (@ltake Int (bytesInts y1.1.1) (minus (64 : Int) (irem y1.2.1.2.2.1 (64 : Int)))), (iadd IntKind.i64 y1.2.1.2.2.1 (@len Int (@ltake Int (bytesInts y1.1.1) (minus (64 : Int) (irem y1.2.1.2.2.1 (64 : Int))))), y1.2.1.2.2.2))), ()))))
  (some ((), ((y1.2.1.1, (@over Int y1.2.1.2.1 (irem y1.2.1.2.2.1 (64 : Int)) (@ltake Int (bytesInts y1.1.1) (minus (64 : Int) (irem y1.2.1.2.2.1 (64 : Int)))), (iadd IntKind.i64 y1.2.1.2.2.1 (@len Int (@ltake Int (bytesInts y1.1.1) (minus (64 : Int) (irem y1.2.1.2.2.1 (64 : Int))))), y1.2.1.2.2.2))), ())))) (fun (y2 : Unit × R22zx0 × Unit) => obind (Q_sha_round ()) (fun (y3 : (List (Int)) × Unit) => obind (Q_sha_schedule (@over Int y1.2.1.2.1 (irem y1.2.1.2.2.1 (64 : Int)) (@ltake Int (bytesInts y1.1.1) (minus (64 : Int) (irem y1.2.1.2.2.1 (64 : Int)))), ())) (fun (y4 : (List (Int)) × Unit) => sel (within (0 : Int) (8 : Int))
  (obind (@idx Int y2.2.1.1.2.1 (0 : Int)) (fun (y5 : Int) => sel (within (1 : Int) (8 : Int))
  (obind (@idx Int y2.2.1.1.2.1 (1 : Int)) (fun (y6 : Int) => sel (within (2 : Int) (8 : Int))
  (obind (@idx Int y2.2.1.1.2.1 (2 : Int)) (fun (y7 : Int) => sel (within (3 : Int) (8 : Int))
  (obind (@idx Int y2.2.1.1.2.1 (3 : Int)) (fun (y8 : Int) => sel (within (4 : Int) (8 : Int))
  (obind (@idx Int y2.2.1.1.2.1 (4 : Int)) (fun (y9 : Int) => sel (within (5 : Int) (8 : Int))
  (obind (@idx Int y2.2.1.1.2.1 (5 : Int)) (fun (y10 : Int) => sel (within (6 : Int) (8 : Int))
  (obind (@idx Int y2.2.1.1.2.1 (6 : Int)) (fun (y11 : Int) => sel (within (7 : Int) (8 : Int))
  (obind (@idx Int y2.2.1.1.2.1 (7 : Int)) (fun (y12 : Int) => obind (RLoop (Q_sha_Stream_Add_L1 y3 y4) ((y5, (y6, (y7, (y8, (y9, (y10, (y11, (y12, ((0 : Int), ()))))))))), ())) (fun (y13 : R22zx2 × Unit) => obind (RLoop (Q_sha_Stream_Add_L2 y13) (((0 : Int), ()), (y2.2.1, ()))) (fun (y14 : (Int × Unit) × R22zx0 × Unit) => some ((), (y14.2.1, ()))))))
  none))
  none))
  none))
  none))
  none))
  none))
  none))
  none))))
  (some ((), ((y1.2.1.1, (@over Int y1.2.1.2.1 (irem y1.2.1.2.2.1 (64 : Int)) (@ltake Int (bytesInts y1.1.1) (minus (64 : Int) (irem y1.2.1.2.2.1 (64 : Int)))), (iadd IntKind.i64 y1.2.1.2.2.1 (@len Int (@ltake Int (bytesInts y1.1.1) (minus (64 : Int) (irem y1.2.1.2.2.1 (64 : Int))))), y1.2.1.2.2.2))), ())))) (fun (y2 : Unit × R22zx0 × Unit) => some (Sum.inl ((@sub UInt8 y1.1.1 (@len Int (@ltake Int (bytesInts y1.1.1) (minus (64 : Int) (irem y1.2.1.2.2.1 (64 : Int))))) (minus (@len UInt8 y1.1.1) (@len Int (@ltake Int (bytesInts y1.1.1) (minus (64 : Int) (irem y1.2.1.2.2.1 (64 : Int)))))), ()), (y2.2.1, ())) : (((Sb × Unit) × R22zx0 × Unit)) ⊕ ((Nat × (Sb × Unit) × R22zx0 × Unit)))))
  none)
  none))
  (some (Sum.inr ((0 : Nat), ((y1.1.1, ()), (y1.2.1, ()))) : (((Sb × Unit) × R22zx0 × Unit)) ⊕ ((Nat × (Sb × Unit) × R22zx0 × Unit)))))
theorem le_P_sha_Stream_Add_L0 : ∀ y1, OLe (Q_sha_Stream_Add_L0 y1) (P_sha_Stream_Add_L0 y1) := by
  unfold Q_sha_Stream_Add_L0 P_sha_Stream_Add_L0
  with_reducible repeat' (first | intro _ | exact le_P_sha_begin .. | exact le_P_sha_round .. | exact le_P_sha_schedule .. | exact le_P_sha_Stream_Add_L1 .. | exact le_P_sha_Stream_Add_L2 .. | apply OLe.obind | apply OLe.sel | apply OLe.way1 | apply OLe.loop | apply OLe.cond | apply OLe.pick | apply OLe.refl)

noncomputable def Q_sha_Stream_Add (x : (Sb × Unit) × R22zx0 × Unit) : Option (Unit × R22zx0 × Unit) :=
  obind (RLoop (Q_sha_Stream_Add_L0) ((x.1.1, ()), (x.2.1, ()))) (fun (y1 : (Sb × Unit) × R22zx0 × Unit) => some ((), (y1.2.1, ())))
theorem le_P_sha_Stream_Add : ∀ x, OLe (Q_sha_Stream_Add x) (P_sha_Stream_Add x) := by
  unfold Q_sha_Stream_Add P_sha_Stream_Add
  with_reducible repeat' (first | intro _ | exact le_P_sha_Stream_Add_L0 .. | apply OLe.obind | apply OLe.sel | apply OLe.way1 | apply OLe.loop | apply OLe.cond | apply OLe.pick | apply OLe.refl)

noncomputable def Q_sha_Stream_Sum_L0 (y2 : Unit × R22zx0 × Unit) : Option ((Unit × R22zx0 × Unit) ⊕ (Unit × R22zx0 × Unit)) :=
  @way1 (Unit × R22zx0 × Unit) (sel (eqI (64 : Int) (0 : Int))
  none
  (sel (nt (eqI (irem y2.2.1.2.2.1 (64 : Int)) (56 : Int)))
  (obind (Q_sha_Stream_Add ((([(0 : UInt8)] : List (UInt8)), ()), (y2.2.1, ()))) (fun (y3 : Unit × R22zx0 × Unit) => some (Sum.inl ((), (y3.2.1, ())) : ((Unit × R22zx0 × Unit)) ⊕ ((Nat × Unit × R22zx0 × Unit)))))
  (some (Sum.inr ((0 : Nat), ((), (y2.2.1, ()))) : ((Unit × R22zx0 × Unit)) ⊕ ((Nat × Unit × R22zx0 × Unit))))))
theorem le_P_sha_Stream_Sum_L0 : ∀ y2, OLe (Q_sha_Stream_Sum_L0 y2) (P_sha_Stream_Sum_L0 y2) := by
  unfold Q_sha_Stream_Sum_L0 P_sha_Stream_Sum_L0
  with_reducible repeat' (first | intro _ | exact le_P_sha_Stream_Add .. | apply OLe.obind | apply OLe.sel | apply OLe.way1 | apply OLe.loop | apply OLe.cond | apply OLe.pick | apply OLe.refl)

noncomputable def Q_sha_Stream_Sum_L1 (x : Unit × R22zx0 × Unit) (y3 : (Int × Unit) × (List (Int)) × Unit) : Option (R22zx1 ⊕ R22zx1) :=
  @way1 R22zx1 (sel (ltI y3.1.1 (8 : Int))
  (sel (ltI (imul IntKind.i64 (8 : Int) y3.1.1) (0 : Int))
  none
  (sel (within (isub IntKind.i64 (7 : Int) y3.1.1) (8 : Int))
  (obind (@idx Int y3.2.1 (isub IntKind.i64 (7 : Int) y3.1.1)) (fun (y4 : Int) => obind (@idx Int y3.2.1 (isub IntKind.i64 (7 : Int) y3.1.1)) (fun (y5 : Int) => obind (@idx Int y3.2.1 (isub IntKind.i64 (7 : Int) y3.1.1)) (fun (y6 : Int) => some (Sum.inl ((iadd IntKind.i64 y3.1.1 (1 : Int), ()), (@lset Int y3.2.1 (isub IntKind.i64 (7 : Int) y3.1.1) (icv IntKind.u8 (ishr IntKind.u64 (imul IntKind.u64 (icv IntKind.u64 (((((((), (x.2.1, ())).2).1).2).2).1)) (8 : Int)) (imul IntKind.i64 (8 : Int) y3.1.1))), ())) : (R22zx1) ⊕ R22zx4)))))
  none))
  (some (Sum.inr ((0 : Nat), ((y3.1.1, ()), (y3.2.1, ()))) : (R22zx1) ⊕ R22zx4)))
theorem le_P_sha_Stream_Sum_L1 : ∀ x y3, OLe (Q_sha_Stream_Sum_L1 x y3) (P_sha_Stream_Sum_L1 x y3) := by
  unfold Q_sha_Stream_Sum_L1 P_sha_Stream_Sum_L1
  with_reducible repeat' (first | intro _ | apply OLe.obind | apply OLe.sel | apply OLe.way1 | apply OLe.loop | apply OLe.cond | apply OLe.pick | apply OLe.refl)

noncomputable def Q_sha_Stream_Sum_L2 (y4 : Unit × R22zx0 × Unit) (y5 : (Int × Unit) × (List (Int)) × Unit) : Option (R22zx1 ⊕ R22zx1) :=
  @way1 R22zx1 (sel (ltI y5.1.1 (32 : Int))
  (sel (eqI (4 : Int) (0 : Int))
  none
  (sel (within (iquo IntKind.i64 y5.1.1 (4 : Int)) (8 : Int))
  (obind (@idx Int y4.2.1.1.2.1 (iquo IntKind.i64 y5.1.1 (4 : Int))) (fun (y6 : Int) => sel (eqI (4 : Int) (0 : Int))
  none
  (sel (ltI (isub IntKind.i64 (24 : Int) (imul IntKind.i64 (8 : Int) (irem y5.1.1 (4 : Int)))) (0 : Int))
  none
  (sel (within y5.1.1 (32 : Int))
  (obind (@idx Int y5.2.1 y5.1.1) (fun (y7 : Int) => obind (@idx Int y5.2.1 y5.1.1) (fun (y8 : Int) => obind (@idx Int y5.2.1 y5.1.1) (fun (y9 : Int) => some (Sum.inl ((iadd IntKind.i64 y5.1.1 (1 : Int), ()), (@lset Int y5.2.1 y5.1.1 (icv IntKind.u8 (ishr IntKind.u32 y6 (isub IntKind.i64 (24 : Int) (imul IntKind.i64 (8 : Int) (irem y5.1.1 (4 : Int)))))), ())) : (R22zx1) ⊕ R22zx4)))))
  none))))
  none))
  (some (Sum.inr ((0 : Nat), ((y5.1.1, ()), (y5.2.1, ()))) : (R22zx1) ⊕ R22zx4)))
theorem le_P_sha_Stream_Sum_L2 : ∀ y4 y5, OLe (Q_sha_Stream_Sum_L2 y4 y5) (P_sha_Stream_Sum_L2 y4 y5) := by
  unfold Q_sha_Stream_Sum_L2 P_sha_Stream_Sum_L2
  with_reducible repeat' (first | intro _ | apply OLe.obind | apply OLe.sel | apply OLe.way1 | apply OLe.loop | apply OLe.cond | apply OLe.pick | apply OLe.refl)

noncomputable def Q_sha_Stream_Sum (x : Unit × R22zx0 × Unit) : Option (((List (Int)) × Unit) × R22zx0 × Unit) :=
  obind (Q_sha_Stream_Add ((intsBytes ([(128 : Int)] : List (Int)), ()), ((((), (x.2.1, ())).2).1, ()))) (fun (y1 : Unit × R22zx0 × Unit) => obind (RLoop (Q_sha_Stream_Sum_L0) ((), (y1.2.1, ()))) (fun (y2 : Unit × R22zx0 × Unit) => obind (RLoop (Q_sha_Stream_Sum_L1 x) (((0 : Int), ()), (([(0 : Int), (0 : Int), (0 : Int), (0 : Int), (0 : Int), (0 : Int), (0 : Int), (0 : Int)] : List (Int)), ()))) (fun (y3 : (Int × Unit) × (List (Int)) × Unit) => sel (inside (0 : Int) (8 : Int) (8 : Int))
  (obind (Q_sha_Stream_Add ((intsBytes (@sub Int y3.2.1 (0 : Int) (minus (8 : Int) (0 : Int))), ()), (y2.2.1, ()))) (fun (y4 : Unit × R22zx0 × Unit) => obind (RLoop (Q_sha_Stream_Sum_L2 y4) (((0 : Int), ()), (([(0 : Int), (0 : Int), (0 : Int), (0 : Int), (0 : Int), (0 : Int), (0 : Int), (0 : Int), (0 : Int), (0 : Int), (0 : Int), (0 : Int), (0 : Int), (0 : Int), (0 : Int), (0 : Int), (0 : Int), (0 : Int), (0 : Int), (0 : Int), (0 : Int), (0 : Int), (0 : Int), (0 : Int), (0 : Int), (0 : Int), (0 : Int), (0 : Int), (0 : Int), (0 : Int), (0 : Int), (0 : Int)] : List (Int)), ()))) (fun (y5 : (Int × Unit) × (List (Int)) × Unit) => some ((y5.2.1, ()), (x.2.1, ())))))
  none)))
theorem le_P_sha_Stream_Sum : ∀ x, OLe (Q_sha_Stream_Sum x) (P_sha_Stream_Sum x) := by
  unfold Q_sha_Stream_Sum P_sha_Stream_Sum
  with_reducible repeat' (first | intro _ | exact le_P_sha_Stream_Add .. | exact le_P_sha_Stream_Sum_L0 .. | exact le_P_sha_Stream_Sum_L1 .. | exact le_P_sha_Stream_Sum_L2 .. | apply OLe.obind | apply OLe.sel | apply OLe.way1 | apply OLe.loop | apply OLe.cond | apply OLe.pick | apply OLe.refl)

noncomputable def Q_sha_Sum (x : Sb × Unit) : Option ((List (Int)) × Unit) :=
  obind (Q_sha_Stream_Add ((x.1, ()), (((false, (([(0 : Int), (0 : Int), (0 : Int), (0 : Int), (0 : Int), (0 : Int), (0 : Int), (0 : Int)] : List (Int)), ())), (([(0 : Int), (0 : Int), (0 : Int), (0 : Int), (0 : Int), (0 : Int), (0 : Int), (0 : Int), (0 : Int), (0 : Int), (0 : Int), (0 : Int), (0 : Int), (0 : Int), (0 : Int), (0 : Int), (0 : Int), (0 : Int), (0 : Int), (0 : Int), (0 : Int), (0 : Int), (0 : Int), (0 : Int), (0 : Int), (0 : Int), (0 : Int), (0 : Int), (0 : Int), (0 : Int), (0 : Int), (0 : Int), (0 : Int), (0 : Int), (0 : Int), (0 : Int), (0 : Int), (0 : Int), (0 : Int), (0 : Int), (0 : Int), (0 : Int), (0 : Int), (0 : Int), (0 : Int), (0 : Int), (0 : Int), (0 : Int), (0 : Int), (0 : Int), (0 : Int), (0 : Int), (0 : Int), (0 : Int), (0 : Int), (0 : Int), (0 : Int), (0 : Int), (0 : Int), (0 : Int), (0 : Int), (0 : Int), (0 : Int), (0 : Int)] : List (Int)), ((0 : Int), ()))), ()))) (fun (y1 : Unit × R22zx0 × Unit) => obind (Q_sha_Stream_Sum ((), (y1.2.1, ()))) (fun (y2 : ((List (Int)) × Unit) × R22zx0 × Unit) => some (y2.1.1, ())))
theorem le_P_sha_Sum : ∀ x, OLe (Q_sha_Sum x) (P_sha_Sum x) := by
  unfold Q_sha_Sum P_sha_Sum
  with_reducible repeat' (first | intro _ | exact le_P_sha_Stream_Add .. | exact le_P_sha_Stream_Sum .. | apply OLe.obind | apply OLe.sel | apply OLe.way1 | apply OLe.loop | apply OLe.cond | apply OLe.pick | apply OLe.refl)

noncomputable def Q_digits_Hex_L0 (x : Sb × Unit) (y1 : (Int × Unit) × (Unit × Unit × Unit) × (List (Int)) × Unit) : Option (R22zx5 ⊕ R22zx5) :=
  @way1 R22zx5 (sel (ltI y1.1.1 (@len Int (bytesInts x.1)))
  (sel (within y1.1.1 (@len Int (bytesInts x.1)))
  (obind (@idx Int (bytesInts x.1) y1.1.1) (fun (y2 : Int) => sel (ltI (4 : Int) (0 : Int))
  none
  (obind (@idx UInt8 ([(48 : UInt8), (49 : UInt8), (50 : UInt8), (51 : UInt8), (52 : UInt8), (53 : UInt8), (54 : UInt8), (55 : UInt8), (56 : UInt8), (57 : UInt8), (97 : UInt8), (98 : UInt8), (99 : UInt8), (100 : UInt8), (101 : UInt8), (102 : UInt8)] : List (UInt8)) (ishr IntKind.u8 y2 (4 : Int))) (fun (y3 : UInt8) => sel (fits (plus (@len Int y1.2.2.1) (@len Int ([u8 y3] : List (Int)))))
  (obind (@idx UInt8 ([(48 : UInt8), (49 : UInt8), (50 : UInt8), (51 : UInt8), (52 : UInt8), (53 : UInt8), (54 : UInt8), (55 : UInt8), (56 : UInt8), (57 : UInt8), (97 : UInt8), (98 : UInt8), (99 : UInt8), (100 : UInt8), (101 : UInt8), (102 : UInt8)] : List (UInt8)) (iand IntKind.u8 y2 (15 : Int))) (fun (y4 : UInt8) => sel (fits (plus (@len Int (@app Int y1.2.2.1 ([u8 y3] : List (Int)))) (@len Int ([u8 y4] : List (Int)))))
  (some (Sum.inl ((iadd IntKind.i64 y1.1.1 (1 : Int), ()), (((), ((), y1.2.1.2.2)), (@app Int (@app Int y1.2.2.1 ([u8 y3] : List (Int))) ([u8 y4] : List (Int)), ()))) : (R22zx5) ⊕ ((Nat × (Int × Unit) × (Unit × Unit × Unit) × (List (Int)) × Unit))))
  none))
  none))))
  none)
  (some (Sum.inr ((0 : Nat), ((y1.1.1, ()), (((), ((), y1.2.1.2.2)), (y1.2.2.1, ())))) : (R22zx5) ⊕ ((Nat × (Int × Unit) × (Unit × Unit × Unit) × (List (Int)) × Unit)))))
theorem le_P_digits_Hex_L0 : ∀ x y1, OLe (Q_digits_Hex_L0 x y1) (P_digits_Hex_L0 x y1) := by
  unfold Q_digits_Hex_L0 P_digits_Hex_L0
  with_reducible repeat' (first | intro _ | apply OLe.obind | apply OLe.sel | apply OLe.way1 | apply OLe.loop | apply OLe.cond | apply OLe.pick | apply OLe.refl)

noncomputable def Q_digits_Hex (x : Sb × Unit) : Option (Sb × Unit) :=
  sel (fits (@len UInt8 x.1))
  (obind (RLoop (Q_digits_Hex_L0 x) (((0 : Int), ()), (((), ((), ())), (([] : List (Int)), ())))) (fun (y1 : (Int × Unit) × (Unit × Unit × Unit) × (List (Int)) × Unit) => some (intsBytes y1.2.2.1, ())))
  none
theorem le_P_digits_Hex : ∀ x, OLe (Q_digits_Hex x) (P_digits_Hex x) := by
  unfold Q_digits_Hex P_digits_Hex
  with_reducible repeat' (first | intro _ | exact le_P_digits_Hex_L0 .. | apply OLe.obind | apply OLe.sel | apply OLe.way1 | apply OLe.loop | apply OLe.cond | apply OLe.pick | apply OLe.refl)

noncomputable def Q_digest_Of (x : Sb × Unit) : Option (Sb × Unit) :=
  obind (Q_sha_Sum (x.1, ())) (fun (y1 : (List (Int)) × Unit) => sel (inside (0 : Int) (32 : Int) (32 : Int))
  (obind (Q_digits_Hex (intsBytes (@sub Int y1.1 (0 : Int) (minus (32 : Int) (0 : Int))), ())) (fun (y2 : Sb × Unit) => sel (fits (plus (@len UInt8 ([(115 : UInt8), (104 : UInt8), (97 : UInt8), (50 : UInt8), (53 : UInt8), (54 : UInt8), (58 : UInt8)] : List (UInt8))) (@len UInt8 y2.1)))
  (some (@app UInt8 ([(115 : UInt8), (104 : UInt8), (97 : UInt8), (50 : UInt8), (53 : UInt8), (54 : UInt8), (58 : UInt8)] : List (UInt8)) y2.1, ()))
  none))
  none)
theorem le_P_digest_Of : ∀ x, OLe (Q_digest_Of x) (P_digest_Of x) := by
  unfold Q_digest_Of P_digest_Of
  with_reducible repeat' (first | intro _ | exact le_P_sha_Sum .. | exact le_P_digits_Hex .. | apply OLe.obind | apply OLe.sel | apply OLe.way1 | apply OLe.loop | apply OLe.cond | apply OLe.pick | apply OLe.refl)

noncomputable def Q_internal_stringslite_HasPrefix (x : Sb × Sb × Unit) : Option (Bool × Unit) :=
  obind (sel (leI (@len UInt8 x.2.1) (@len UInt8 x.1))
  (sel (inside (0 : Int) (@len UInt8 x.2.1) (@len UInt8 x.1))
  (some (eqS (@sub UInt8 x.1 (0 : Int) (minus (@len UInt8 x.2.1) (0 : Int))) x.2.1))
  none)
  (some false)) (fun (y1 : Bool) => some (y1, ()))
theorem le_P_internal_stringslite_HasPrefix : ∀ x, OLe (Q_internal_stringslite_HasPrefix x) (P_internal_stringslite_HasPrefix x) := by
  unfold Q_internal_stringslite_HasPrefix P_internal_stringslite_HasPrefix
  with_reducible repeat' (first | intro _ | apply OLe.obind | apply OLe.sel | apply OLe.way1 | apply OLe.loop | apply OLe.cond | apply OLe.pick | apply OLe.refl)

noncomputable def Q_strings_trimRightByte_L0 (x : Sb × Int × Unit) (y1 : (Sb × Unit) × Unit) : Option (((Sb × Unit) × Unit) ⊕ ((Sb × Unit) × Unit)) :=
  @way1 ((Sb × Unit) × Unit) (obind (sel (ltI (0 : Int) (@len UInt8 y1.1.1))
  (obind (@idx UInt8 y1.1.1 (isub IntKind.i64 (@len UInt8 y1.1.1) (1 : Int))) (fun (y2 : UInt8) => some (eqI (u8 y2) x.2.1)))
  (some false)) (fun (y2 : Bool) => sel y2
  (sel (inside (0 : Int) (isub IntKind.i64 (@len UInt8 y1.1.1) (1 : Int)) (@len UInt8 y1.1.1))
  (some (Sum.inl ((@sub UInt8 y1.1.1 (0 : Int) (minus (isub IntKind.i64 (@len UInt8 y1.1.1) (1 : Int)) (0 : Int)), ()), ()) : (((Sb × Unit) × Unit)) ⊕ ((Nat × (Sb × Unit) × Unit))))
  none)
  (some (Sum.inr ((0 : Nat), ((y1.1.1, ()), ())) : (((Sb × Unit) × Unit)) ⊕ ((Nat × (Sb × Unit) × Unit))))))
theorem le_P_strings_trimRightByte_L0 : ∀ x y1, OLe (Q_strings_trimRightByte_L0 x y1) (P_strings_trimRightByte_L0 x y1) := by
  unfold Q_strings_trimRightByte_L0 P_strings_trimRightByte_L0
  with_reducible repeat' (first | intro _ | apply OLe.obind | apply OLe.sel | apply OLe.way1 | apply OLe.loop | apply OLe.cond | apply OLe.pick | apply OLe.refl)

noncomputable def Q_strings_trimRightByte (x : Sb × Int × Unit) : Option (Sb × Unit) :=
  obind (RLoop (Q_strings_trimRightByte_L0 x) ((x.1, ()), ())) (fun (y1 : (Sb × Unit) × Unit) => some (y1.1.1, ()))
theorem le_P_strings_trimRightByte : ∀ x, OLe (Q_strings_trimRightByte x) (P_strings_trimRightByte x) := by
  unfold Q_strings_trimRightByte P_strings_trimRightByte
  with_reducible repeat' (first | intro _ | exact le_P_strings_trimRightByte_L0 .. | apply OLe.obind | apply OLe.sel | apply OLe.way1 | apply OLe.loop | apply OLe.cond | apply OLe.pick | apply OLe.refl)

noncomputable def Q_strings_makeASCIISet_L0 (x : Sb × Unit) (y1 : (Bool × Int × Unit) × (List (Bool)) × Unit) : Option (((Bool × Int × Unit) × (List (Bool)) × Unit) ⊕ (Nat × (Bool × Int × Unit) × (List (Bool)) × Unit)) :=
  sel (ltI y1.1.2.1 (@len UInt8 x.1))
  (obind (@idx UInt8 x.1 y1.1.2.1) (fun (y2 : UInt8) => sel (leI (128 : Int) (u8 y2))
  (some (Sum.inr ((1 : Nat), ((false, (y1.1.2.1, ())), (y1.2.1, ()))) : (((Bool × Int × Unit) × (List (Bool)) × Unit)) ⊕ ((Nat × (Bool × Int × Unit) × (List (Bool)) × Unit))))
  (sel (within (u8 y2) (256 : Int))
  (obind (@idx Bool y1.2.1 (u8 y2)) (fun (y3 : Bool) => obind (@idx Bool y1.2.1 (u8 y2)) (fun (y4 : Bool) => obind (@idx Bool y1.2.1 (u8 y2)) (fun (y5 : Bool) => some (Sum.inl ((y1.1.1, (iadd IntKind.i64 y1.1.2.1 (1 : Int), ())), (@lset Bool y1.2.1 (u8 y2) true, ())) : (((Bool × Int × Unit) × (List (Bool)) × Unit)) ⊕ ((Nat × (Bool × Int × Unit) × (List (Bool)) × Unit)))))))
  none)))
  (some (Sum.inr ((0 : Nat), ((y1.1.1, (y1.1.2.1, ())), (y1.2.1, ()))) : (((Bool × Int × Unit) × (List (Bool)) × Unit)) ⊕ ((Nat × (Bool × Int × Unit) × (List (Bool)) × Unit))))
theorem le_P_strings_makeASCIISet_L0 : ∀ x y1, OLe (Q_strings_makeASCIISet_L0 x y1) (P_strings_makeASCIISet_L0 x y1) := by
  unfold Q_strings_makeASCIISet_L0 P_strings_makeASCIISet_L0
  with_reducible repeat' (first | intro _ | apply OLe.obind | apply OLe.sel | apply OLe.way1 | apply OLe.loop | apply OLe.cond | apply OLe.pick | apply OLe.refl)

noncomputable def Q_strings_makeASCIISet (x : Sb × Unit) : Option ((List (Bool)) × Bool × Unit) :=
  obind (RLoop (Q_strings_makeASCIISet_L0 x) ((false, ((0 : Int), ())), (([false, false, false, false, false, false, false, false, false, false, false, false, false, false, false, false, false, false, false, false, false, false, false, false, false, false, false, false, false, false, false, false, false, false, false, false, false, false, false, false, false, false, false, false, false, false, false, false, false, false, false, false, false, false, false, false, false, false, false, false, false, false, false, false, false, false, false, false, false, false, false, false, false, false, false, false, false, false, false, false, false, false, false, false, false, false, false, false, false, false, false, false, false, false, false, false, false, false, false, false, false, false, false, false, false, false, false, false, false, false, false, false, false, false, false, false, false, false, false, false, false, false, false, false, false, false, false, false, false, false, false, false, false, false, false, false, false, false, false, false, false, false, false, false, false, false, false, false, false, false, false, false, false, false, false, false, false, false, false, false, false, false, false, false, false, false, false, false, false, false, false, false, false, false, false, false, false, false, false, false, false, false, false, false, false, false, false, false, false, false, false, false, false, false, false, false, false, false, false, false, false, false, false, false, false, false, false, false, false, false, false, false, false, false, false, false, false, false, false, false, false, false, false, false, false, false, false, false, false, false, false, false, false, false, false, false, false, false, false, false, false, false, false, false, false, false, false, false, false, false, false, false, false, false, false, false] : List (Bool)), ()))) (fun (y1 : Nat × (Bool × Int × Unit) × (List (Bool)) × Unit) => sel (eqN y1.1 (0 : Nat))
  (some (y1.2.2.1, (true, ())))
  (some (y1.2.2.1, (y1.2.1.1, ()))))
theorem le_P_strings_makeASCIISet : ∀ x, OLe (Q_strings_makeASCIISet x) (P_strings_makeASCIISet x) := by
  unfold Q_strings_makeASCIISet P_strings_makeASCIISet
  with_reducible repeat' (first | intro _ | exact le_P_strings_makeASCIISet_L0 .. | apply OLe.obind | apply OLe.sel | apply OLe.way1 | apply OLe.loop | apply OLe.cond | apply OLe.pick | apply OLe.refl)

noncomputable def Q_strings_asciiSet_contains (x : (Int × Unit) × (List (Bool)) × Unit) : Option ((Bool × Unit) × (List (Bool)) × Unit) :=
  sel (within x.1.1 (256 : Int))
  (obind (@idx Bool x.2.1 x.1.1) (fun (y1 : Bool) => some ((y1, ()), (x.2.1, ()))))
  none
theorem le_P_strings_asciiSet_contains : ∀ x, OLe (Q_strings_asciiSet_contains x) (P_strings_asciiSet_contains x) := by
  unfold Q_strings_asciiSet_contains P_strings_asciiSet_contains
  with_reducible repeat' (first | intro _ | apply OLe.obind | apply OLe.sel | apply OLe.way1 | apply OLe.loop | apply OLe.cond | apply OLe.pick | apply OLe.refl)

noncomputable def Q_strings_trimRightASCII_L0 (y1 : (Sb × Unit) × (List (Bool)) × Unit) : Option (R22zx3 ⊕ R22zx3) :=
  @way1 R22zx3 (sel (ltI (0 : Int) (@len UInt8 y1.1.1))
  (obind (@idx UInt8 y1.1.1 (isub IntKind.i64 (@len UInt8 y1.1.1) (1 : Int))) (fun (y2 : UInt8) => obind (Q_strings_asciiSet_contains ((u8 y2, ()), (y1.2.1, ()))) (fun (y3 : (Bool × Unit) × (List (Bool)) × Unit) => sel (nt y3.1.1)
  (some (Sum.inr ((0 : Nat), ((y1.1.1, ()), (y3.2.1, ()))) : (R22zx3) ⊕ R22zx6))
  (sel (inside (0 : Int) (isub IntKind.i64 (@len UInt8 y1.1.1) (1 : Int)) (@len UInt8 y1.1.1))
  (some (Sum.inl ((@sub UInt8 y1.1.1 (0 : Int) (minus (isub IntKind.i64 (@len UInt8 y1.1.1) (1 : Int)) (0 : Int)), ()), (y3.2.1, ())) : (R22zx3) ⊕ R22zx6))
  none))))
  (some (Sum.inr ((0 : Nat), ((y1.1.1, ()), (y1.2.1, ()))) : (R22zx3) ⊕ R22zx6)))
theorem le_P_strings_trimRightASCII_L0 : ∀ y1, OLe (Q_strings_trimRightASCII_L0 y1) (P_strings_trimRightASCII_L0 y1) := by
  unfold Q_strings_trimRightASCII_L0 P_strings_trimRightASCII_L0
  with_reducible repeat' (first | intro _ | exact le_P_strings_asciiSet_contains .. | apply OLe.obind | apply OLe.sel | apply OLe.way1 | apply OLe.loop | apply OLe.cond | apply OLe.pick | apply OLe.refl)

noncomputable def Q_strings_trimRightASCII (x : (Sb × Unit) × (List (Bool)) × Unit) : Option R22zx3 :=
  obind (RLoop (Q_strings_trimRightASCII_L0) ((x.1.1, ()), (x.2.1, ()))) (fun (y1 : (Sb × Unit) × (List (Bool)) × Unit) => some ((y1.1.1, ()), (y1.2.1, ())))
theorem le_P_strings_trimRightASCII : ∀ x, OLe (Q_strings_trimRightASCII x) (P_strings_trimRightASCII x) := by
  unfold Q_strings_trimRightASCII P_strings_trimRightASCII
  with_reducible repeat' (first | intro _ | exact le_P_strings_trimRightASCII_L0 .. | apply OLe.obind | apply OLe.sel | apply OLe.way1 | apply OLe.loop | apply OLe.cond | apply OLe.pick | apply OLe.refl)

noncomputable def Q_strings_trimLeftByte_L0 (x : Sb × Int × Unit) (y1 : (Sb × Unit) × Unit) : Option (((Sb × Unit) × Unit) ⊕ ((Sb × Unit) × Unit)) :=
  @way1 ((Sb × Unit) × Unit) (obind (sel (ltI (0 : Int) (@len UInt8 y1.1.1))
  (obind (@idx UInt8 y1.1.1 (0 : Int)) (fun (y2 : UInt8) => some (eqI (u8 y2) x.2.1)))
  (some false)) (fun (y2 : Bool) => sel y2
  (sel (inside (1 : Int) (@len UInt8 y1.1.1) (@len UInt8 y1.1.1))
  (some (Sum.inl ((@sub UInt8 y1.1.1 (1 : Int) (minus (@len UInt8 y1.1.1) (1 : Int)), ()), ()) : (((Sb × Unit) × Unit)) ⊕ ((Nat × (Sb × Unit) × Unit))))
  none)
  (some (Sum.inr ((0 : Nat), ((y1.1.1, ()), ())) : (((Sb × Unit) × Unit)) ⊕ ((Nat × (Sb × Unit) × Unit))))))
theorem le_P_strings_trimLeftByte_L0 : ∀ x y1, OLe (Q_strings_trimLeftByte_L0 x y1) (P_strings_trimLeftByte_L0 x y1) := by
  unfold Q_strings_trimLeftByte_L0 P_strings_trimLeftByte_L0
  with_reducible repeat' (first | intro _ | apply OLe.obind | apply OLe.sel | apply OLe.way1 | apply OLe.loop | apply OLe.cond | apply OLe.pick | apply OLe.refl)

noncomputable def Q_strings_trimLeftByte (x : Sb × Int × Unit) : Option (Sb × Unit) :=
  obind (RLoop (Q_strings_trimLeftByte_L0 x) ((x.1, ()), ())) (fun (y1 : (Sb × Unit) × Unit) => some (y1.1.1, ()))
theorem le_P_strings_trimLeftByte : ∀ x, OLe (Q_strings_trimLeftByte x) (P_strings_trimLeftByte x) := by
  unfold Q_strings_trimLeftByte P_strings_trimLeftByte
  with_reducible repeat' (first | intro _ | exact le_P_strings_trimLeftByte_L0 .. | apply OLe.obind | apply OLe.sel | apply OLe.way1 | apply OLe.loop | apply OLe.cond | apply OLe.pick | apply OLe.refl)

noncomputable def Q_strings_trimLeftASCII_L0 (y1 : (Sb × Unit) × (List (Bool)) × Unit) : Option (R22zx3 ⊕ R22zx3) :=
  @way1 R22zx3 (sel (ltI (0 : Int) (@len UInt8 y1.1.1))
  (obind (@idx UInt8 y1.1.1 (0 : Int)) (fun (y2 : UInt8) => obind (Q_strings_asciiSet_contains ((u8 y2, ()), (y1.2.1, ()))) (fun (y3 : (Bool × Unit) × (List (Bool)) × Unit) => sel (nt y3.1.1)
  (some (Sum.inr ((0 : Nat), ((y1.1.1, ()), (y3.2.1, ()))) : (R22zx3) ⊕ R22zx6))
  (sel (inside (1 : Int) (@len UInt8 y1.1.1) (@len UInt8 y1.1.1))
  (some (Sum.inl ((@sub UInt8 y1.1.1 (1 : Int) (minus (@len UInt8 y1.1.1) (1 : Int)), ()), (y3.2.1, ())) : (R22zx3) ⊕ R22zx6))
  none))))
  (some (Sum.inr ((0 : Nat), ((y1.1.1, ()), (y1.2.1, ()))) : (R22zx3) ⊕ R22zx6)))
theorem le_P_strings_trimLeftASCII_L0 : ∀ y1, OLe (Q_strings_trimLeftASCII_L0 y1) (P_strings_trimLeftASCII_L0 y1) := by
  unfold Q_strings_trimLeftASCII_L0 P_strings_trimLeftASCII_L0
  with_reducible repeat' (first | intro _ | exact le_P_strings_asciiSet_contains .. | apply OLe.obind | apply OLe.sel | apply OLe.way1 | apply OLe.loop | apply OLe.cond | apply OLe.pick | apply OLe.refl)

noncomputable def Q_strings_trimLeftASCII (x : (Sb × Unit) × (List (Bool)) × Unit) : Option R22zx3 :=
  obind (RLoop (Q_strings_trimLeftASCII_L0) ((x.1.1, ()), (x.2.1, ()))) (fun (y1 : (Sb × Unit) × (List (Bool)) × Unit) => some ((y1.1.1, ()), (y1.2.1, ())))
theorem le_P_strings_trimLeftASCII : ∀ x, OLe (Q_strings_trimLeftASCII x) (P_strings_trimLeftASCII x) := by
  unfold Q_strings_trimLeftASCII P_strings_trimLeftASCII
  with_reducible repeat' (first | intro _ | exact le_P_strings_trimLeftASCII_L0 .. | apply OLe.obind | apply OLe.sel | apply OLe.way1 | apply OLe.loop | apply OLe.cond | apply OLe.pick | apply OLe.refl)

noncomputable def Q_strings_Trim (x : Sb × Sb × Unit) : Option (Sb × Unit) :=
  sel (sel (nt (eqS x.1 ([] : List (UInt8))))
  (eqS x.2.1 ([] : List (UInt8)))
  true)
  (some (x.1, ()))
  (obind (sel (eqI (@len UInt8 x.2.1) (1 : Int))
  (obind (@idx UInt8 x.2.1 (0 : Int)) (fun (y1 : UInt8) => some (ltI (u8 y1) (128 : Int))))
  (some false)) (fun (y1 : Bool) => sel y1
  (obind (@idx UInt8 x.2.1 (0 : Int)) (fun (y2 : UInt8) => obind (Q_strings_trimRightByte (x.1, (u8 y2, ()))) (fun (y3 : Sb × Unit) => obind (@idx UInt8 x.2.1 (0 : Int)) (fun (y4 : UInt8) => obind (Q_strings_trimLeftByte (y3.1, (u8 y4, ()))) (fun (y5 : Sb × Unit) => some (y5.1, ()))))))
  (obind (Q_strings_makeASCIISet (x.2.1, ())) (fun (y2 : (List (Bool)) × Bool × Unit) => sel y2.2.1
  (obind (Q_strings_trimRightASCII ((x.1, ()), (y2.1, ()))) (fun (y3 : (Sb × Unit) × (List (Bool)) × Unit) => obind (Q_strings_trimLeftASCII ((y3.1.1, ()), (y3.2.1, ()))) (fun (y4 : (Sb × Unit) × (List (Bool)) × Unit) => some (y4.1.1, ()))))
  none))))
theorem le_P_strings_Trim : ∀ x, OLe (Q_strings_Trim x) (P_strings_Trim x) := by
  unfold Q_strings_Trim P_strings_Trim
  with_reducible repeat' (first | intro _ | exact le_P_strings_trimRightByte .. | exact le_P_strings_trimLeftByte .. | exact le_P_strings_makeASCIISet .. | exact le_P_strings_trimRightASCII .. | exact le_P_strings_trimLeftASCII .. | apply OLe.obind | apply OLe.sel | apply OLe.way1 | apply OLe.loop | apply OLe.cond | apply OLe.pick | apply OLe.refl)

noncomputable def Q_strings_HasPrefix (x : Sb × Sb × Unit) : Option (Bool × Unit) :=
  obind (Q_internal_stringslite_HasPrefix (x.1, (x.2.1, ()))) (fun (y1 : Bool × Unit) => some (y1.1, ()))
theorem le_P_strings_HasPrefix : ∀ x, OLe (Q_strings_HasPrefix x) (P_strings_HasPrefix x) := by
  unfold Q_strings_HasPrefix P_strings_HasPrefix
  with_reducible repeat' (first | intro _ | exact le_P_internal_stringslite_HasPrefix .. | apply OLe.obind | apply OLe.sel | apply OLe.way1 | apply OLe.loop | apply OLe.cond | apply OLe.pick | apply OLe.refl)

noncomputable def Q_slices_Index_string_string_L0 (x : (List Sb) × Sb × Unit) (y1 : (Int × Int × Unit) × Unit) : Option (((Int × Int × Unit) × Unit) ⊕ (Nat × (Int × Int × Unit) × Unit)) :=
  sel (ltI y1.1.2.1 (@len Sb x.1))
  (obind (@idx Sb x.1 y1.1.2.1) (fun (y2 : List (UInt8)) => sel (eqS x.2.1 y2)
  (some (Sum.inr ((1 : Nat), ((y1.1.2.1, (y1.1.2.1, ())), ())) : (((Int × Int × Unit) × Unit)) ⊕ ((Nat × (Int × Int × Unit) × Unit))))
  (some (Sum.inl ((y1.1.1, (iadd IntKind.i64 y1.1.2.1 (1 : Int), ())), ()) : (((Int × Int × Unit) × Unit)) ⊕ ((Nat × (Int × Int × Unit) × Unit))))))
  (some (Sum.inr ((0 : Nat), ((y1.1.1, (y1.1.2.1, ())), ())) : (((Int × Int × Unit) × Unit)) ⊕ ((Nat × (Int × Int × Unit) × Unit))))
theorem le_P_slices_Index_string_string_L0 : ∀ x y1, OLe (Q_slices_Index_string_string_L0 x y1) (P_slices_Index_string_string_L0 x y1) := by
  unfold Q_slices_Index_string_string_L0 P_slices_Index_string_string_L0
  with_reducible repeat' (first | intro _ | apply OLe.obind | apply OLe.sel | apply OLe.way1 | apply OLe.loop | apply OLe.cond | apply OLe.pick | apply OLe.refl)

noncomputable def Q_slices_Index_string_string (x : (List Sb) × Sb × Unit) : Option (Int × Unit) :=
  obind (RLoop (Q_slices_Index_string_string_L0 x) (((0 : Int), ((0 : Int), ())), ())) (fun (y1 : Nat × (Int × Int × Unit) × Unit) => sel (eqN y1.1 (0 : Nat))
  (some ((-1 : Int), ()))
  (some (y1.2.1.1, ())))
theorem le_P_slices_Index_string_string : ∀ x, OLe (Q_slices_Index_string_string x) (P_slices_Index_string_string x) := by
  unfold Q_slices_Index_string_string P_slices_Index_string_string
  with_reducible repeat' (first | intro _ | exact le_P_slices_Index_string_string_L0 .. | apply OLe.obind | apply OLe.sel | apply OLe.way1 | apply OLe.loop | apply OLe.cond | apply OLe.pick | apply OLe.refl)

noncomputable def Q_slices_Contains_string_string (x : (List Sb) × Sb × Unit) : Option (Bool × Unit) :=
  obind (Q_slices_Index_string_string (x.1, (x.2.1, ()))) (fun (y1 : Int × Unit) => some (leI (0 : Int) y1.1, ()))
theorem le_P_slices_Contains_string_string : ∀ x, OLe (Q_slices_Contains_string_string x) (P_slices_Contains_string_string x) := by
  unfold Q_slices_Contains_string_string P_slices_Contains_string_string
  with_reducible repeat' (first | intro _ | exact le_P_slices_Index_string_string .. | apply OLe.obind | apply OLe.sel | apply OLe.way1 | apply OLe.loop | apply OLe.cond | apply OLe.pick | apply OLe.refl)

noncomputable def Q_slices_Insert_api_Item_api_Item (l : List T22zx27) (x : (Int × ((List T22zx27) × Unit))) : Option (List T22zx27) := insL l x.1 x.2.1
theorem le_P_slices_Insert_api_Item_api_Item (l : List T22zx27) (x : (Int × ((List T22zx27) × Unit))) : OLe (Q_slices_Insert_api_Item_api_Item l x) (P_slices_Insert_api_Item_api_Item l x) := OLe.refl _

noncomputable def Q_slices_Sort_string_string (l : List (List UInt8)) (x : Unit) : Option (List (List UInt8)) := match l with | [] => some [] | [a] => some [a] | _ => none
theorem le_P_slices_Sort_string_string (l : List (List UInt8)) (x : Unit) : OLe (Q_slices_Sort_string_string l x) (P_slices_Sort_string_string l x) := by
  unfold Q_slices_Sort_string_string P_slices_Sort_string_string
  match l with
  | [] => exact run_sort0
  | [a] => exact run_sort1 a
  | _ :: _ :: _ => exact fun y h => by cases h

noncomputable def Q_slices_Compact_string_string (l : List (List UInt8)) (x : Unit) : Option (List (List UInt8)) := some (Lib.compact (α := List UInt8) l)
theorem le_P_slices_Compact_string_string (l : List (List UInt8)) (x : Unit) : OLe (Q_slices_Compact_string_string l x) (P_slices_Compact_string_string l x) := OLe.refl _

noncomputable def Q_slices_Delete_api_Image_api_Image (l : List T22zx13) (x : (Int × (Int × Unit))) : Option (List T22zx13) := delL l x.1 x.2.1
theorem le_P_slices_Delete_api_Image_api_Image (l : List T22zx13) (x : (Int × (Int × Unit))) : OLe (Q_slices_Delete_api_Image_api_Image l x) (P_slices_Delete_api_Image_api_Image l x) := OLe.refl _

noncomputable def Q_slices_Delete_api_Item_api_Item (l : List T22zx27) (x : (Int × (Int × Unit))) : Option (List T22zx27) := delL l x.1 x.2.1
theorem le_P_slices_Delete_api_Item_api_Item (l : List T22zx27) (x : (Int × (Int × Unit))) : OLe (Q_slices_Delete_api_Item_api_Item l x) (P_slices_Delete_api_Item_api_Item l x) := OLe.refl _

noncomputable def Q_slices_Insert_api_Image_api_Image (l : List T22zx13) (x : (Int × ((List T22zx13) × Unit))) : Option (List T22zx13) := insL l x.1 x.2.1
theorem le_P_slices_Insert_api_Image_api_Image (l : List T22zx13) (x : (Int × ((List T22zx13) × Unit))) : OLe (Q_slices_Insert_api_Image_api_Image l x) (P_slices_Insert_api_Image_api_Image l x) := OLe.refl _

noncomputable def Q_record_IsName (x : Sb × Unit) : Option (Bool × Unit) :=
  obind (sel (sel (leI (1 : Int) (@len UInt8 x.1))
  (leI (@len UInt8 x.1) (32 : Int))
  false)
  (obind (Q_strings_Trim (x.1, (([(97 : UInt8), (98 : UInt8), (99 : UInt8), (100 : UInt8), (101 : UInt8), (102 : UInt8), (103 : UInt8), (104 : UInt8), (105 : UInt8), (106 : UInt8), (107 : UInt8), (108 : UInt8), (109 : UInt8), (110 : UInt8), (111 : UInt8), (112 : UInt8), (113 : UInt8), (114 : UInt8), (115 : UInt8), (116 : UInt8), (117 : UInt8), (118 : UInt8), (119 : UInt8), (120 : UInt8), (121 : UInt8), (122 : UInt8), (48 : UInt8), (49 : UInt8), (50 : UInt8), (51 : UInt8), (52 : UInt8), (53 : UInt8), (54 : UInt8), (55 : UInt8), (56 : UInt8), (57 : UInt8), (46 : UInt8), (95 : UInt8), (45 : UInt8)] : List (UInt8)), ()))) (fun (y1 : Sb × Unit) => some (eqS y1.1 ([] : List (UInt8)))))
  (some false)) (fun (y1 : Bool) => some (y1, ()))
theorem le_P_record_IsName : ∀ x, OLe (Q_record_IsName x) (P_record_IsName x) := by
  unfold Q_record_IsName P_record_IsName
  with_reducible repeat' (first | intro _ | exact le_P_strings_Trim .. | apply OLe.obind | apply OLe.sel | apply OLe.way1 | apply OLe.loop | apply OLe.cond | apply OLe.pick | apply OLe.refl)

noncomputable def Q_images_key (x : T22zx0 × Unit) : Option (Sb × Unit) :=
  some (x.1.1, ())
theorem le_P_images_key : ∀ x, OLe (Q_images_key x) (P_images_key x) := by
  unfold Q_images_key P_images_key
  with_reducible repeat' (first | intro _ | apply OLe.obind | apply OLe.sel | apply OLe.way1 | apply OLe.loop | apply OLe.cond | apply OLe.pick | apply OLe.refl)

noncomputable def Q_slices_Clone_api_Item_api_Item (x : (List T22zx0) × Unit) : Option ((List T22zx0) × Unit) :=
  bif fits (len x.1) then some (x.1, ()) else none
theorem le_P_slices_Clone_api_Item_api_Item : ∀ x, OLe (Q_slices_Clone_api_Item_api_Item x) (P_slices_Clone_api_Item_api_Item x) := by
  unfold Q_slices_Clone_api_Item_api_Item P_slices_Clone_api_Item_api_Item
  with_reducible repeat' (first | intro _ | apply OLe.obind | apply OLe.sel | apply OLe.way1 | apply OLe.loop | apply OLe.cond | apply OLe.pick | apply OLe.refl)

noncomputable def Q_images_PutItem_L0 (x : (List T22zx0) × Sb × Sb × Unit) (y2 : T22zx4 × Unit × Sb × Unit) : Option (T22zx9 ⊕ T22zx8) :=
  sel (ltI y2.1.2.1 (@len T22zx0 x.1))
  (obind (@idx T22zx0 x.1 y2.1.2.1) (fun (y3 : Sb × Sb × Sb × Unit) => obind (Q_images_key (y3, ())) (fun (y4 : Sb × Unit) => sel (eqS y4.1 y2.2.2.1)
  (some (Sum.inr ((1 : Nat), ((y2.1.2.1, (y2.1.2.1, ())), ((), (y2.2.2.1, ())))) : (T22zx9) ⊕ (T22zx8)))
  (some (Sum.inl ((y2.1.1, (iadd IntKind.i64 y2.1.2.1 (1 : Int), ())), ((), (y2.2.2.1, ()))) : (T22zx9) ⊕ (T22zx8))))))
  (some (Sum.inr ((0 : Nat), ((y2.1.1, (y2.1.2.1, ())), ((), (y2.2.2.1, ())))) : (T22zx9) ⊕ (T22zx8)))
theorem le_P_images_PutItem_L0 : ∀ x y2, OLe (Q_images_PutItem_L0 x y2) (P_images_PutItem_L0 x y2) := by
  unfold Q_images_PutItem_L0 P_images_PutItem_L0
  with_reducible repeat' (first | intro _ | exact le_P_images_key .. | apply OLe.obind | apply OLe.sel | apply OLe.way1 | apply OLe.loop | apply OLe.cond | apply OLe.pick | apply OLe.refl)

noncomputable def Q_images_PutItem_L1 (x : (List T22zx0) × Sb × Sb × Unit) (y5 : T22zx4 × Unit × Sb × Unit) : Option (T22zx9 ⊕ T22zx8) :=
  sel (ltI y5.1.2.1 (@len T22zx0 x.1))
  (obind (@idx T22zx0 x.1 y5.1.2.1) (fun (y6 : Sb × Sb × Sb × Unit) => obind (Q_images_key (y6, ())) (fun (y7 : Sb × Unit) => sel (eqS y7.1 y5.2.2.1)
  (some (Sum.inr ((1 : Nat), ((y5.1.2.1, (y5.1.2.1, ())), ((), (y5.2.2.1, ())))) : (T22zx9) ⊕ (T22zx8)))
  (some (Sum.inl ((y5.1.1, (iadd IntKind.i64 y5.1.2.1 (1 : Int), ())), ((), (y5.2.2.1, ()))) : (T22zx9) ⊕ (T22zx8))))))
  (some (Sum.inr ((0 : Nat), ((y5.1.1, (y5.1.2.1, ())), ((), (y5.2.2.1, ())))) : (T22zx9) ⊕ (T22zx8)))
theorem le_P_images_PutItem_L1 : ∀ x y5, OLe (Q_images_PutItem_L1 x y5) (P_images_PutItem_L1 x y5) := by
  unfold Q_images_PutItem_L1 P_images_PutItem_L1
  with_reducible repeat' (first | intro _ | exact le_P_images_key .. | apply OLe.obind | apply OLe.sel | apply OLe.way1 | apply OLe.loop | apply OLe.cond | apply OLe.pick | apply OLe.refl)

noncomputable def Q_images_PutItem_L2 (y6 : (Unit × Unit) × (List T22zx0) × Unit) (y7 : T22zx4 × Unit × T22zx0 × Unit) : Option (T22zx22 ⊕ T22zx18) :=
  sel (ltI y7.1.2.1 (@len T22zx0 y6.2.1))
  (sel (within y7.1.2.1 (@len T22zx0 y6.2.1))
  (obind (@idx T22zx0 y6.2.1 y7.1.2.1) (fun (y8 : Sb × Sb × Sb × Unit) => obind (Q_images_key (y8, ())) (fun (y9 : Sb × Unit) => obind (Q_images_key (y7.2.2.1, ())) (fun (y10 : Sb × Unit) => sel (nt (ltS y9.1 y10.1))
  (some (Sum.inr ((1 : Nat), ((y7.1.2.1, (y7.1.2.1, ())), ((), (y7.2.2.1, ())))) : (T22zx22) ⊕ (T22zx18)))
  (some (Sum.inl ((y7.1.1, (iadd IntKind.i64 y7.1.2.1 (1 : Int), ())), ((), (y7.2.2.1, ()))) : (T22zx22) ⊕ (T22zx18)))))))
  none)
  (some (Sum.inr ((0 : Nat), ((y7.1.1, (y7.1.2.1, ())), ((), (y7.2.2.1, ())))) : (T22zx22) ⊕ (T22zx18)))
theorem le_P_images_PutItem_L2 : ∀ y6 y7, OLe (Q_images_PutItem_L2 y6 y7) (P_images_PutItem_L2 y6 y7) := by
  unfold Q_images_PutItem_L2 P_images_PutItem_L2
  with_reducible repeat' (first | intro _ | exact le_P_images_key .. | apply OLe.obind | apply OLe.sel | apply OLe.way1 | apply OLe.loop | apply OLe.cond | apply OLe.pick | apply OLe.refl)

noncomputable def Q_images_PutItem_L3 (y6 : (Unit × Unit) × (List T22zx0) × Unit) (y7 : T22zx4 × Unit × T22zx0 × Unit) : Option (T22zx22 ⊕ T22zx18) :=
  sel (ltI y7.1.2.1 (@len T22zx0 y6.2.1))
  (sel (within y7.1.2.1 (@len T22zx0 y6.2.1))
  (obind (@idx T22zx0 y6.2.1 y7.1.2.1) (fun (y8 : Sb × Sb × Sb × Unit) => obind (Q_images_key (y8, ())) (fun (y9 : Sb × Unit) => obind (Q_images_key (y7.2.2.1, ())) (fun (y10 : Sb × Unit) => sel (nt (ltS y9.1 y10.1))
  (some (Sum.inr ((1 : Nat), ((y7.1.2.1, (y7.1.2.1, ())), ((), (y7.2.2.1, ())))) : (T22zx22) ⊕ (T22zx18)))
  (some (Sum.inl ((y7.1.1, (iadd IntKind.i64 y7.1.2.1 (1 : Int), ())), ((), (y7.2.2.1, ()))) : (T22zx22) ⊕ (T22zx18)))))))
  none)
  (some (Sum.inr ((0 : Nat), ((y7.1.1, (y7.1.2.1, ())), ((), (y7.2.2.1, ())))) : (T22zx22) ⊕ (T22zx18)))
theorem le_P_images_PutItem_L3 : ∀ y6 y7, OLe (Q_images_PutItem_L3 y6 y7) (P_images_PutItem_L3 y6 y7) := by
  unfold Q_images_PutItem_L3 P_images_PutItem_L3
  with_reducible repeat' (first | intro _ | exact le_P_images_key .. | apply OLe.obind | apply OLe.sel | apply OLe.way1 | apply OLe.loop | apply OLe.cond | apply OLe.pick | apply OLe.refl)

noncomputable def Q_images_PutItem_L4 (x : (List T22zx0) × Sb × Sb × Unit) (y5 : T22zx4 × Unit × Sb × Unit) : Option (T22zx9 ⊕ T22zx8) :=
  sel (ltI y5.1.2.1 (@len T22zx0 x.1))
  (obind (@idx T22zx0 x.1 y5.1.2.1) (fun (y6 : Sb × Sb × Sb × Unit) => obind (Q_images_key (y6, ())) (fun (y7 : Sb × Unit) => sel (eqS y7.1 y5.2.2.1)
  (some (Sum.inr ((1 : Nat), ((y5.1.2.1, (y5.1.2.1, ())), ((), (y5.2.2.1, ())))) : (T22zx9) ⊕ (T22zx8)))
  (some (Sum.inl ((y5.1.1, (iadd IntKind.i64 y5.1.2.1 (1 : Int), ())), ((), (y5.2.2.1, ()))) : (T22zx9) ⊕ (T22zx8))))))
  (some (Sum.inr ((0 : Nat), ((y5.1.1, (y5.1.2.1, ())), ((), (y5.2.2.1, ())))) : (T22zx9) ⊕ (T22zx8)))
theorem le_P_images_PutItem_L4 : ∀ x y5, OLe (Q_images_PutItem_L4 x y5) (P_images_PutItem_L4 x y5) := by
  unfold Q_images_PutItem_L4 P_images_PutItem_L4
  with_reducible repeat' (first | intro _ | exact le_P_images_key .. | apply OLe.obind | apply OLe.sel | apply OLe.way1 | apply OLe.loop | apply OLe.cond | apply OLe.pick | apply OLe.refl)

noncomputable def Q_images_PutItem_L5 (y6 : (Unit × Unit) × (List T22zx0) × Unit) (y7 : T22zx4 × Unit × T22zx0 × Unit) : Option (T22zx22 ⊕ T22zx18) :=
  sel (ltI y7.1.2.1 (@len T22zx0 y6.2.1))
  (sel (within y7.1.2.1 (@len T22zx0 y6.2.1))
  (obind (@idx T22zx0 y6.2.1 y7.1.2.1) (fun (y8 : Sb × Sb × Sb × Unit) => obind (Q_images_key (y8, ())) (fun (y9 : Sb × Unit) => obind (Q_images_key (y7.2.2.1, ())) (fun (y10 : Sb × Unit) => sel (nt (ltS y9.1 y10.1))
  (some (Sum.inr ((1 : Nat), ((y7.1.2.1, (y7.1.2.1, ())), ((), (y7.2.2.1, ())))) : (T22zx22) ⊕ (T22zx18)))
  (some (Sum.inl ((y7.1.1, (iadd IntKind.i64 y7.1.2.1 (1 : Int), ())), ((), (y7.2.2.1, ()))) : (T22zx22) ⊕ (T22zx18)))))))
  none)
  (some (Sum.inr ((0 : Nat), ((y7.1.1, (y7.1.2.1, ())), ((), (y7.2.2.1, ())))) : (T22zx22) ⊕ (T22zx18)))
theorem le_P_images_PutItem_L5 : ∀ y6 y7, OLe (Q_images_PutItem_L5 y6 y7) (P_images_PutItem_L5 y6 y7) := by
  unfold Q_images_PutItem_L5 P_images_PutItem_L5
  with_reducible repeat' (first | intro _ | exact le_P_images_key .. | apply OLe.obind | apply OLe.sel | apply OLe.way1 | apply OLe.loop | apply OLe.cond | apply OLe.pick | apply OLe.refl)

noncomputable def Q_images_PutItem_L6 (y6 : (Unit × Unit) × (List T22zx0) × Unit) (y7 : T22zx4 × Unit × T22zx0 × Unit) : Option (T22zx22 ⊕ T22zx18) :=
  sel (ltI y7.1.2.1 (@len T22zx0 y6.2.1))
  (sel (within y7.1.2.1 (@len T22zx0 y6.2.1))
  (obind (@idx T22zx0 y6.2.1 y7.1.2.1) (fun (y8 : Sb × Sb × Sb × Unit) => obind (Q_images_key (y8, ())) (fun (y9 : Sb × Unit) => obind (Q_images_key (y7.2.2.1, ())) (fun (y10 : Sb × Unit) => sel (nt (ltS y9.1 y10.1))
  (some (Sum.inr ((1 : Nat), ((y7.1.2.1, (y7.1.2.1, ())), ((), (y7.2.2.1, ())))) : (T22zx22) ⊕ (T22zx18)))
  (some (Sum.inl ((y7.1.1, (iadd IntKind.i64 y7.1.2.1 (1 : Int), ())), ((), (y7.2.2.1, ()))) : (T22zx22) ⊕ (T22zx18)))))))
  none)
  (some (Sum.inr ((0 : Nat), ((y7.1.1, (y7.1.2.1, ())), ((), (y7.2.2.1, ())))) : (T22zx22) ⊕ (T22zx18)))
theorem le_P_images_PutItem_L6 : ∀ y6 y7, OLe (Q_images_PutItem_L6 y6 y7) (P_images_PutItem_L6 y6 y7) := by
  unfold Q_images_PutItem_L6 P_images_PutItem_L6
  with_reducible repeat' (first | intro _ | exact le_P_images_key .. | apply OLe.obind | apply OLe.sel | apply OLe.way1 | apply OLe.loop | apply OLe.cond | apply OLe.pick | apply OLe.refl)

noncomputable def Q_images_PutItem (x : (List T22zx0) × Sb × Sb × Unit) : Option ((List T22zx0) × Int × Unit) :=
  obind (Q_record_IsName (x.2.1, ())) (fun (y1 : Bool × Unit) => sel (sel (nt (nt y1.1))
  (ltI (64 : Int) (@len UInt8 x.2.2.1))
  true)
  (some (([] : List T22zx0), ((1 : Int), ())))
  (obind (RLoop (Q_images_PutItem_L0 x) (((0 : Int), ((0 : Int), ())), ((), (x.2.1, ())))) (fun (y2 : Nat × T22zx4 × Unit × Sb × Unit) => sel (eqN y2.1 (0 : Nat))
  (sel (sel (ltI (-1 : Int) (0 : Int))
  (leI (4 : Int) (@len T22zx0 x.1))
  false)
  (some (([] : List T22zx0), ((5 : Int), ())))
  (obind (Q_digest_Of (x.2.2.1, ())) (fun (y3 : Sb × Unit) => obind (Q_images_key ((x.2.1, (y3.1, (x.2.2.1, ()))), ())) (fun (y4 : Sb × Unit) => sel (fits (@len T22zx0 x.1))
  (obind (RLoop (Q_images_PutItem_L1 x) (((0 : Int), ((0 : Int), ())), ((), (y4.1, ())))) (fun (y5 : Nat × T22zx4 × Unit × Sb × Unit) => sel (eqN y5.1 (0 : Nat))
  (obind (sel (leI (0 : Int) (-1 : Int))
  (obind (Q_slices_Delete_api_Item_api_Item x.1 ((-1 : Int), (iadd IntKind.i64 (-1 : Int) (1 : Int), ()))) (fun (y6 : List T22zx0) => some (((), ()), (y6, ()))))
  (some (((), ()), (x.1, ())))) (fun (y6 : (Unit × Unit) × (List T22zx0) × Unit) => obind (RLoop (Q_images_PutItem_L2 y6) (((0 : Int), ((0 : Int), ())), ((), ((x.2.1, (y3.1, (x.2.2.1, ()))), ())))) (fun (y7 : Nat × T22zx4 × Unit × T22zx0 × Unit) => sel (eqN y7.1 (0 : Nat))
  (obind (Q_slices_Insert_api_Item_api_Item y6.2.1 (((sel (ltI (-1 : Int) (0 : Int))
  ((@len T22zx0 y6.2.1, ()), ())
  (((-1 : Int), ()), ())).1).1, (([y7.2.2.2.1] : List T22zx0), ()))) (fun (y8 : List T22zx0) => some (y8, ((0 : Int), ()))))
  (obind (Q_slices_Insert_api_Item_api_Item y6.2.1 (((sel (ltI y7.2.1.1 (0 : Int))
  ((@len T22zx0 y6.2.1, ()), ())
  ((y7.2.1.1, ()), ())).1).1, (([y7.2.2.2.1] : List T22zx0), ()))) (fun (y8 : List T22zx0) => some (y8, ((0 : Int), ())))))))
  (obind (sel (leI (0 : Int) y5.2.1.1)
  (obind (Q_slices_Delete_api_Item_api_Item x.1 (y5.2.1.1, (iadd IntKind.i64 y5.2.1.1 (1 : Int), ()))) (fun (y6 : List T22zx0) => some (((), ()), (y6, ()))))
  (some (((), ()), (x.1, ())))) (fun (y6 : (Unit × Unit) × (List T22zx0) × Unit) => obind (RLoop (Q_images_PutItem_L3 y6) (((0 : Int), ((0 : Int), ())), ((), ((x.2.1, (y3.1, (x.2.2.1, ()))), ())))) (fun (y7 : Nat × T22zx4 × Unit × T22zx0 × Unit) => sel (eqN y7.1 (0 : Nat))
  (obind (Q_slices_Insert_api_Item_api_Item y6.2.1 (((sel (ltI (-1 : Int) (0 : Int))
  ((@len T22zx0 y6.2.1, ()), ())
  (((-1 : Int), ()), ())).1).1, (([y7.2.2.2.1] : List T22zx0), ()))) (fun (y8 : List T22zx0) => some (y8, ((0 : Int), ()))))
  (obind (Q_slices_Insert_api_Item_api_Item y6.2.1 (((sel (ltI y7.2.1.1 (0 : Int))
  ((@len T22zx0 y6.2.1, ()), ())
  ((y7.2.1.1, ()), ())).1).1, (([y7.2.2.2.1] : List T22zx0), ()))) (fun (y8 : List T22zx0) => some (y8, ((0 : Int), ())))))))))
  none))))
  (sel (sel (ltI y2.2.1.1 (0 : Int))
  (leI (4 : Int) (@len T22zx0 x.1))
  false)
  (some (([] : List T22zx0), ((5 : Int), ())))
  (obind (Q_digest_Of (x.2.2.1, ())) (fun (y3 : Sb × Unit) => obind (Q_images_key ((x.2.1, (y3.1, (x.2.2.1, ()))), ())) (fun (y4 : Sb × Unit) => sel (fits (@len T22zx0 x.1))
  (obind (RLoop (Q_images_PutItem_L4 x) (((0 : Int), ((0 : Int), ())), ((), (y4.1, ())))) (fun (y5 : Nat × T22zx4 × Unit × Sb × Unit) => sel (eqN y5.1 (0 : Nat))
  (obind (sel (leI (0 : Int) (-1 : Int))
  (obind (Q_slices_Delete_api_Item_api_Item x.1 ((-1 : Int), (iadd IntKind.i64 (-1 : Int) (1 : Int), ()))) (fun (y6 : List T22zx0) => some (((), ()), (y6, ()))))
  (some (((), ()), (x.1, ())))) (fun (y6 : (Unit × Unit) × (List T22zx0) × Unit) => obind (RLoop (Q_images_PutItem_L5 y6) (((0 : Int), ((0 : Int), ())), ((), ((x.2.1, (y3.1, (x.2.2.1, ()))), ())))) (fun (y7 : Nat × T22zx4 × Unit × T22zx0 × Unit) => sel (eqN y7.1 (0 : Nat))
  (obind (Q_slices_Insert_api_Item_api_Item y6.2.1 (((sel (ltI (-1 : Int) (0 : Int))
  ((@len T22zx0 y6.2.1, ()), ())
  (((-1 : Int), ()), ())).1).1, (([y7.2.2.2.1] : List T22zx0), ()))) (fun (y8 : List T22zx0) => some (y8, ((0 : Int), ()))))
  (obind (Q_slices_Insert_api_Item_api_Item y6.2.1 (((sel (ltI y7.2.1.1 (0 : Int))
  ((@len T22zx0 y6.2.1, ()), ())
  ((y7.2.1.1, ()), ())).1).1, (([y7.2.2.2.1] : List T22zx0), ()))) (fun (y8 : List T22zx0) => some (y8, ((0 : Int), ())))))))
  (obind (sel (leI (0 : Int) y5.2.1.1)
  (obind (Q_slices_Delete_api_Item_api_Item x.1 (y5.2.1.1, (iadd IntKind.i64 y5.2.1.1 (1 : Int), ()))) (fun (y6 : List T22zx0) => some (((), ()), (y6, ()))))
  (some (((), ()), (x.1, ())))) (fun (y6 : (Unit × Unit) × (List T22zx0) × Unit) => obind (RLoop (Q_images_PutItem_L6 y6) (((0 : Int), ((0 : Int), ())), ((), ((x.2.1, (y3.1, (x.2.2.1, ()))), ())))) (fun (y7 : Nat × T22zx4 × Unit × T22zx0 × Unit) => sel (eqN y7.1 (0 : Nat))
  (obind (Q_slices_Insert_api_Item_api_Item y6.2.1 (((sel (ltI (-1 : Int) (0 : Int))
  ((@len T22zx0 y6.2.1, ()), ())
  (((-1 : Int), ()), ())).1).1, (([y7.2.2.2.1] : List T22zx0), ()))) (fun (y8 : List T22zx0) => some (y8, ((0 : Int), ()))))
  (obind (Q_slices_Insert_api_Item_api_Item y6.2.1 (((sel (ltI y7.2.1.1 (0 : Int))
  ((@len T22zx0 y6.2.1, ()), ())
  ((y7.2.1.1, ()), ())).1).1, (([y7.2.2.2.1] : List T22zx0), ()))) (fun (y8 : List T22zx0) => some (y8, ((0 : Int), ())))))))))
  none)))))))
theorem le_P_images_PutItem : ∀ x, OLe (Q_images_PutItem x) (P_images_PutItem x) := by
  unfold Q_images_PutItem P_images_PutItem
  with_reducible repeat' (first | intro _ | exact le_P_record_IsName .. | exact le_P_images_PutItem_L0 .. | exact le_P_digest_Of .. | exact le_P_images_key .. | exact le_P_images_PutItem_L1 .. | exact le_P_slices_Delete_api_Item_api_Item .. | exact le_P_images_PutItem_L2 .. | exact le_P_slices_Insert_api_Item_api_Item .. | exact le_P_images_PutItem_L3 .. | exact le_P_images_PutItem_L4 .. | exact le_P_images_PutItem_L5 .. | exact le_P_images_PutItem_L6 .. | apply OLe.obind | apply OLe.sel | apply OLe.way1 | apply OLe.loop | apply OLe.cond | apply OLe.pick | apply OLe.refl)

noncomputable def Q_images_GetItem_L0 (x : (List T22zx0) × Sb × Unit) (y1 : T22zx4 × Unit × Sb × Unit) : Option (T22zx9 ⊕ T22zx8) :=
  sel (ltI y1.1.2.1 (@len T22zx0 x.1))
  (obind (@idx T22zx0 x.1 y1.1.2.1) (fun (y2 : Sb × Sb × Sb × Unit) => obind (Q_images_key (y2, ())) (fun (y3 : Sb × Unit) => sel (eqS y3.1 y1.2.2.1)
  (some (Sum.inr ((1 : Nat), ((y1.1.2.1, (y1.1.2.1, ())), ((), (y1.2.2.1, ())))) : (T22zx9) ⊕ (T22zx8)))
  (some (Sum.inl ((y1.1.1, (iadd IntKind.i64 y1.1.2.1 (1 : Int), ())), ((), (y1.2.2.1, ()))) : (T22zx9) ⊕ (T22zx8))))))
  (some (Sum.inr ((0 : Nat), ((y1.1.1, (y1.1.2.1, ())), ((), (y1.2.2.1, ())))) : (T22zx9) ⊕ (T22zx8)))
theorem le_P_images_GetItem_L0 : ∀ x y1, OLe (Q_images_GetItem_L0 x y1) (P_images_GetItem_L0 x y1) := by
  unfold Q_images_GetItem_L0 P_images_GetItem_L0
  with_reducible repeat' (first | intro _ | exact le_P_images_key .. | apply OLe.obind | apply OLe.sel | apply OLe.way1 | apply OLe.loop | apply OLe.cond | apply OLe.pick | apply OLe.refl)

noncomputable def Q_images_GetItem (x : (List T22zx0) × Sb × Unit) : Option (Sb × Int × Unit) :=
  obind (RLoop (Q_images_GetItem_L0 x) (((0 : Int), ((0 : Int), ())), ((), (x.2.1, ())))) (fun (y1 : Nat × T22zx4 × Unit × Sb × Unit) => sel (eqN y1.1 (0 : Nat))
  (sel (ltI (-1 : Int) (0 : Int))
  (some (([] : List (UInt8)), ((3 : Int), ())))
  (obind (@idx T22zx0 x.1 (-1 : Int)) (fun (y2 : Sb × Sb × Sb × Unit) => some (y2.2.2.1, ((0 : Int), ())))))
  (sel (ltI y1.2.1.1 (0 : Int))
  (some (([] : List (UInt8)), ((3 : Int), ())))
  (obind (@idx T22zx0 x.1 y1.2.1.1) (fun (y2 : Sb × Sb × Sb × Unit) => some (y2.2.2.1, ((0 : Int), ()))))))
theorem le_P_images_GetItem : ∀ x, OLe (Q_images_GetItem x) (P_images_GetItem x) := by
  unfold Q_images_GetItem P_images_GetItem
  with_reducible repeat' (first | intro _ | exact le_P_images_GetItem_L0 .. | apply OLe.obind | apply OLe.sel | apply OLe.way1 | apply OLe.loop | apply OLe.cond | apply OLe.pick | apply OLe.refl)

noncomputable def Q_slices_Clone_string_string (x : (List Sb) × Unit) : Option ((List Sb) × Unit) :=
  bif fits (len x.1) then some (x.1, ()) else none
theorem le_P_slices_Clone_string_string : ∀ x, OLe (Q_slices_Clone_string_string x) (P_slices_Clone_string_string x) := by
  unfold Q_slices_Clone_string_string P_slices_Clone_string_string
  with_reducible repeat' (first | intro _ | apply OLe.obind | apply OLe.sel | apply OLe.way1 | apply OLe.loop | apply OLe.cond | apply OLe.pick | apply OLe.refl)

noncomputable def Q_names_Check_c1 (x : Sb × Unit) : Option (Bool × Unit) :=
  obind (Q_record_IsName (x.1, ())) (fun (y1 : Bool × Unit) => some (nt y1.1, ()))
theorem le_P_names_Check_c1 : ∀ x, OLe (Q_names_Check_c1 x) (P_names_Check_c1 x) := by
  unfold Q_names_Check_c1 P_names_Check_c1
  with_reducible repeat' (first | intro _ | exact le_P_record_IsName .. | apply OLe.obind | apply OLe.sel | apply OLe.way1 | apply OLe.loop | apply OLe.cond | apply OLe.pick | apply OLe.refl)

noncomputable def Q_names_Check_L0 (x : (List Sb) × Unit) (y3 : T22zx4 × Unit) : Option ((T22zx4 × Unit) ⊕ (Nat × T22zx4 × Unit)) :=
  sel (ltI y3.1.2.1 (@len Sb x.1))
  (obind (@idx Sb x.1 y3.1.2.1) (fun (y4 : List (UInt8)) => obind (Q_names_Check_c1 (y4, ())) (fun (y5 : Bool × Unit) => sel y5.1
  (some (Sum.inr ((1 : Nat), ((y3.1.2.1, (y3.1.2.1, ())), ())) : ((T22zx4 × Unit)) ⊕ ((Nat × T22zx4 × Unit))))
  (some (Sum.inl ((y3.1.1, (iadd IntKind.i64 y3.1.2.1 (1 : Int), ())), ()) : ((T22zx4 × Unit)) ⊕ ((Nat × T22zx4 × Unit)))))))
  (some (Sum.inr ((0 : Nat), ((y3.1.1, (y3.1.2.1, ())), ())) : ((T22zx4 × Unit)) ⊕ ((Nat × T22zx4 × Unit))))
theorem le_P_names_Check_L0 : ∀ x y3, OLe (Q_names_Check_L0 x y3) (P_names_Check_L0 x y3) := by
  unfold Q_names_Check_L0 P_names_Check_L0
  with_reducible repeat' (first | intro _ | exact le_P_names_Check_c1 .. | apply OLe.obind | apply OLe.sel | apply OLe.way1 | apply OLe.loop | apply OLe.cond | apply OLe.pick | apply OLe.refl)

noncomputable def Q_names_Check (x : (List Sb) × Unit) : Option (Int × Unit) :=
  sel (fits (@len Sb x.1))
  (obind (Q_slices_Sort_string_string x.1 ()) (fun (y1 : List Sb) => obind (Q_slices_Compact_string_string y1 ()) (fun (y2 : List Sb) => obind (RLoop (Q_names_Check_L0 x) (((0 : Int), ((0 : Int), ())), ())) (fun (y3 : Nat × T22zx4 × Unit) => sel (eqN y3.1 (0 : Nat))
  (sel (sel (nt (sel (nt (ltI (4 : Int) (@len Sb x.1)))
  (ltI (@len Sb y2) (@len Sb x.1))
  true))
  (leI (0 : Int) (-1 : Int))
  true)
  (some ((1 : Int), ()))
  (some ((0 : Int), ())))
  (sel (sel (nt (sel (nt (ltI (4 : Int) (@len Sb x.1)))
  (ltI (@len Sb y2) (@len Sb x.1))
  true))
  (leI (0 : Int) y3.2.1.1)
  true)
  (some ((1 : Int), ()))
  (some ((0 : Int), ())))))))
  none
theorem le_P_names_Check : ∀ x, OLe (Q_names_Check x) (P_names_Check x) := by
  unfold Q_names_Check P_names_Check
  with_reducible repeat' (first | intro _ | exact le_P_slices_Sort_string_string .. | exact le_P_slices_Compact_string_string .. | exact le_P_names_Check_L0 .. | apply OLe.obind | apply OLe.sel | apply OLe.way1 | apply OLe.loop | apply OLe.cond | apply OLe.pick | apply OLe.refl)

noncomputable def Q_images_fault (x : Int × Unit) : Option (T22zx17 × Unit) :=
  some ((x.1, (([] : List (UInt8)), ((0 : Int), (([] : List (UInt8)), ())))), ())
theorem le_P_images_fault : ∀ x, OLe (Q_images_fault x) (P_images_fault x) := by
  unfold Q_images_fault P_images_fault
  with_reducible repeat' (first | intro _ | apply OLe.obind | apply OLe.sel | apply OLe.way1 | apply OLe.loop | apply OLe.cond | apply OLe.pick | apply OLe.refl)

noncomputable def Q_lookup_Find_L0 (x : (List T22zx3) × Sb × Unit) (y1 : T22zx4 × Sb × Unit) : Option (T22zx14 ⊕ T22zx11) :=
  sel (ltI y1.1.2.1 (@len T22zx3 x.1))
  (obind (@idx T22zx3 x.1 y1.1.2.1) (fun (y2 : Sb × (List Sb) × Unit) => sel (eqS y2.1 y1.2.1)
  (some (Sum.inr ((1 : Nat), ((y1.1.2.1, (y1.1.2.1, ())), (y1.2.1, ()))) : (T22zx14) ⊕ (T22zx11)))
  (some (Sum.inl ((y1.1.1, (iadd IntKind.i64 y1.1.2.1 (1 : Int), ())), (y1.2.1, ())) : (T22zx14) ⊕ (T22zx11)))))
  (some (Sum.inr ((0 : Nat), ((y1.1.1, (y1.1.2.1, ())), (y1.2.1, ()))) : (T22zx14) ⊕ (T22zx11)))
theorem le_P_lookup_Find_L0 : ∀ x y1, OLe (Q_lookup_Find_L0 x y1) (P_lookup_Find_L0 x y1) := by
  unfold Q_lookup_Find_L0 P_lookup_Find_L0
  with_reducible repeat' (first | intro _ | apply OLe.obind | apply OLe.sel | apply OLe.way1 | apply OLe.loop | apply OLe.cond | apply OLe.pick | apply OLe.refl)

noncomputable def Q_lookup_Find_L1 (x : (List T22zx3) × Sb × Unit) (y2 : T22zx4 × Sb × Unit) : Option (T22zx14 ⊕ T22zx11) :=
  sel (ltI y2.1.2.1 (@len T22zx3 x.1))
  (obind (@idx T22zx3 x.1 y2.1.2.1) (fun (y3 : Sb × (List Sb) × Unit) => obind (Q_slices_Contains_string_string (y3.2.1, (y2.2.1, ()))) (fun (y4 : Bool × Unit) => sel y4.1
  (some (Sum.inr ((1 : Nat), ((y2.1.2.1, (y2.1.2.1, ())), (y2.2.1, ()))) : (T22zx14) ⊕ (T22zx11)))
  (some (Sum.inl ((y2.1.1, (iadd IntKind.i64 y2.1.2.1 (1 : Int), ())), (y2.2.1, ())) : (T22zx14) ⊕ (T22zx11))))))
  (some (Sum.inr ((0 : Nat), ((y2.1.1, (y2.1.2.1, ())), (y2.2.1, ()))) : (T22zx14) ⊕ (T22zx11)))
theorem le_P_lookup_Find_L1 : ∀ x y2, OLe (Q_lookup_Find_L1 x y2) (P_lookup_Find_L1 x y2) := by
  unfold Q_lookup_Find_L1 P_lookup_Find_L1
  with_reducible repeat' (first | intro _ | exact le_P_slices_Contains_string_string .. | apply OLe.obind | apply OLe.sel | apply OLe.way1 | apply OLe.loop | apply OLe.cond | apply OLe.pick | apply OLe.refl)

noncomputable def Q_lookup_Find_L2 (x : (List T22zx3) × Sb × Unit) (y2 : Nat × T22zx4 × Sb × Unit) (y3 : T22zx28 × (List Sb) × Unit) : Option (T22zx10 ⊕ T22zx10) :=
  @way1 T22zx10 (sel (ltI y3.1.2.1 (@len T22zx3 x.1))
  (obind (@idx T22zx3 x.1 y3.1.2.1) (fun (y4 : Sb × (List Sb) × Unit) => obind (Q_strings_HasPrefix (y4.1, (y2.2.2.1, ()))) (fun (y5 : Bool × Unit) => obind (sel y5.1
  (sel (fits (plus (@len Sb y3.2.1) (@len Sb ([y4.1] : List Sb))))
  (some (((), ()), (@app Sb y3.2.1 ([y4.1] : List Sb), ())))
  none)
  (some (((), ()), (y3.2.1, ())))) (fun (y6 : (Unit × Unit) × (List Sb) × Unit) => some (Sum.inl (((), (iadd IntKind.i64 y3.1.2.1 (1 : Int), ())), (y6.2.1, ())) : (T22zx10) ⊕ T22zx21)))))
  (some (Sum.inr ((0 : Nat), (((), (y3.1.2.1, ())), (y3.2.1, ()))) : (T22zx10) ⊕ T22zx21)))
theorem le_P_lookup_Find_L2 : ∀ x y2 y3, OLe (Q_lookup_Find_L2 x y2 y3) (P_lookup_Find_L2 x y2 y3) := by
  unfold Q_lookup_Find_L2 P_lookup_Find_L2
  with_reducible repeat' (first | intro _ | exact le_P_strings_HasPrefix .. | apply OLe.obind | apply OLe.sel | apply OLe.way1 | apply OLe.loop | apply OLe.cond | apply OLe.pick | apply OLe.refl)

noncomputable def Q_lookup_Find_L3 (x : (List T22zx3) × Sb × Unit) (y2 : Nat × T22zx4 × Sb × Unit) (y3 : T22zx28 × (List Sb) × Unit) : Option (T22zx10 ⊕ T22zx10) :=
  @way1 T22zx10 (sel (ltI y3.1.2.1 (@len T22zx3 x.1))
  (obind (@idx T22zx3 x.1 y3.1.2.1) (fun (y4 : Sb × (List Sb) × Unit) => obind (Q_strings_HasPrefix (y4.1, (y2.2.2.1, ()))) (fun (y5 : Bool × Unit) => obind (sel y5.1
  (sel (fits (plus (@len Sb y3.2.1) (@len Sb ([y4.1] : List Sb))))
  (some (((), ()), (@app Sb y3.2.1 ([y4.1] : List Sb), ())))
  none)
  (some (((), ()), (y3.2.1, ())))) (fun (y6 : (Unit × Unit) × (List Sb) × Unit) => some (Sum.inl (((), (iadd IntKind.i64 y3.1.2.1 (1 : Int), ())), (y6.2.1, ())) : (T22zx10) ⊕ T22zx21)))))
  (some (Sum.inr ((0 : Nat), (((), (y3.1.2.1, ())), (y3.2.1, ()))) : (T22zx10) ⊕ T22zx21)))
theorem le_P_lookup_Find_L3 : ∀ x y2 y3, OLe (Q_lookup_Find_L3 x y2 y3) (P_lookup_Find_L3 x y2 y3) := by
  unfold Q_lookup_Find_L3 P_lookup_Find_L3
  with_reducible repeat' (first | intro _ | exact le_P_strings_HasPrefix .. | apply OLe.obind | apply OLe.sel | apply OLe.way1 | apply OLe.loop | apply OLe.cond | apply OLe.pick | apply OLe.refl)

noncomputable def Q_lookup_Find_L4 (x : (List T22zx3) × Sb × Unit) (y2 : T22zx4 × Sb × Unit) : Option (T22zx14 ⊕ T22zx11) :=
  sel (ltI y2.1.2.1 (@len T22zx3 x.1))
  (obind (@idx T22zx3 x.1 y2.1.2.1) (fun (y3 : Sb × (List Sb) × Unit) => obind (Q_slices_Contains_string_string (y3.2.1, (y2.2.1, ()))) (fun (y4 : Bool × Unit) => sel y4.1
  (some (Sum.inr ((1 : Nat), ((y2.1.2.1, (y2.1.2.1, ())), (y2.2.1, ()))) : (T22zx14) ⊕ (T22zx11)))
  (some (Sum.inl ((y2.1.1, (iadd IntKind.i64 y2.1.2.1 (1 : Int), ())), (y2.2.1, ())) : (T22zx14) ⊕ (T22zx11))))))
  (some (Sum.inr ((0 : Nat), ((y2.1.1, (y2.1.2.1, ())), (y2.2.1, ()))) : (T22zx14) ⊕ (T22zx11)))
theorem le_P_lookup_Find_L4 : ∀ x y2, OLe (Q_lookup_Find_L4 x y2) (P_lookup_Find_L4 x y2) := by
  unfold Q_lookup_Find_L4 P_lookup_Find_L4
  with_reducible repeat' (first | intro _ | exact le_P_slices_Contains_string_string .. | apply OLe.obind | apply OLe.sel | apply OLe.way1 | apply OLe.loop | apply OLe.cond | apply OLe.pick | apply OLe.refl)

noncomputable def Q_lookup_Find_L5 (x : (List T22zx3) × Sb × Unit) (y2 : Nat × T22zx4 × Sb × Unit) (y3 : T22zx28 × (List Sb) × Unit) : Option (T22zx10 ⊕ T22zx10) :=
  @way1 T22zx10 (sel (ltI y3.1.2.1 (@len T22zx3 x.1))
  (obind (@idx T22zx3 x.1 y3.1.2.1) (fun (y4 : Sb × (List Sb) × Unit) => obind (Q_strings_HasPrefix (y4.1, (y2.2.2.1, ()))) (fun (y5 : Bool × Unit) => obind (sel y5.1
  (sel (fits (plus (@len Sb y3.2.1) (@len Sb ([y4.1] : List Sb))))
  (some (((), ()), (@app Sb y3.2.1 ([y4.1] : List Sb), ())))
  none)
  (some (((), ()), (y3.2.1, ())))) (fun (y6 : (Unit × Unit) × (List Sb) × Unit) => some (Sum.inl (((), (iadd IntKind.i64 y3.1.2.1 (1 : Int), ())), (y6.2.1, ())) : (T22zx10) ⊕ T22zx21)))))
  (some (Sum.inr ((0 : Nat), (((), (y3.1.2.1, ())), (y3.2.1, ()))) : (T22zx10) ⊕ T22zx21)))
theorem le_P_lookup_Find_L5 : ∀ x y2 y3, OLe (Q_lookup_Find_L5 x y2 y3) (P_lookup_Find_L5 x y2 y3) := by
  unfold Q_lookup_Find_L5 P_lookup_Find_L5
  with_reducible repeat' (first | intro _ | exact le_P_strings_HasPrefix .. | apply OLe.obind | apply OLe.sel | apply OLe.way1 | apply OLe.loop | apply OLe.cond | apply OLe.pick | apply OLe.refl)

noncomputable def Q_lookup_Find_L6 (x : (List T22zx3) × Sb × Unit) (y2 : Nat × T22zx4 × Sb × Unit) (y3 : T22zx28 × (List Sb) × Unit) : Option (T22zx10 ⊕ T22zx10) :=
  @way1 T22zx10 (sel (ltI y3.1.2.1 (@len T22zx3 x.1))
  (obind (@idx T22zx3 x.1 y3.1.2.1) (fun (y4 : Sb × (List Sb) × Unit) => obind (Q_strings_HasPrefix (y4.1, (y2.2.2.1, ()))) (fun (y5 : Bool × Unit) => obind (sel y5.1
  (sel (fits (plus (@len Sb y3.2.1) (@len Sb ([y4.1] : List Sb))))
  (some (((), ()), (@app Sb y3.2.1 ([y4.1] : List Sb), ())))
  none)
  (some (((), ()), (y3.2.1, ())))) (fun (y6 : (Unit × Unit) × (List Sb) × Unit) => some (Sum.inl (((), (iadd IntKind.i64 y3.1.2.1 (1 : Int), ())), (y6.2.1, ())) : (T22zx10) ⊕ T22zx21)))))
  (some (Sum.inr ((0 : Nat), (((), (y3.1.2.1, ())), (y3.2.1, ()))) : (T22zx10) ⊕ T22zx21)))
theorem le_P_lookup_Find_L6 : ∀ x y2 y3, OLe (Q_lookup_Find_L6 x y2 y3) (P_lookup_Find_L6 x y2 y3) := by
  unfold Q_lookup_Find_L6 P_lookup_Find_L6
  with_reducible repeat' (first | intro _ | exact le_P_strings_HasPrefix .. | apply OLe.obind | apply OLe.sel | apply OLe.way1 | apply OLe.loop | apply OLe.cond | apply OLe.pick | apply OLe.refl)

noncomputable def Q_lookup_Find (x : (List T22zx3) × Sb × Unit) : Option (Sb × Int × Unit) :=
  obind (RLoop (Q_lookup_Find_L0 x) (((0 : Int), ((0 : Int), ())), (x.2.1, ()))) (fun (y1 : Nat × T22zx4 × Sb × Unit) => sel (eqN y1.1 (0 : Nat))
  (sel (leI (0 : Int) (-1 : Int))
  (some (x.2.1, ((0 : Int), ())))
  (obind (RLoop (Q_lookup_Find_L1 x) (((0 : Int), ((0 : Int), ())), (x.2.1, ()))) (fun (y2 : Nat × T22zx4 × Sb × Unit) => sel (eqN y2.1 (0 : Nat))
  (sel (leI (0 : Int) (-1 : Int))
  (obind (@idx T22zx3 x.1 (-1 : Int)) (fun (y3 : Sb × (List Sb) × Unit) => some (y3.1, ((0 : Int), ()))))
  (obind (RLoop (Q_lookup_Find_L2 x y2) (((), ((0 : Int), ())), (([] : List Sb), ()))) (fun (y3 : T22zx28 × (List Sb) × Unit) => sel (sel (nt (sel (nt (eqS y2.2.2.1 ([] : List (UInt8))))
  (leI (6 : Int) (@len UInt8 y2.2.2.1))
  true))
  (eqI (@len Sb y3.2.1) (0 : Int))
  true)
  (some (([] : List (UInt8)), ((3 : Int), ())))
  (sel (ltI (1 : Int) (@len Sb y3.2.1))
  (some (([] : List (UInt8)), ((9 : Int), ())))
  (sel (within (0 : Int) (@len Sb y3.2.1))
  (obind (@idx Sb y3.2.1 (0 : Int)) (fun (y4 : List (UInt8)) => some (y4, ((0 : Int), ()))))
  none)))))
  (sel (leI (0 : Int) y2.2.1.1)
  (obind (@idx T22zx3 x.1 y2.2.1.1) (fun (y3 : Sb × (List Sb) × Unit) => some (y3.1, ((0 : Int), ()))))
  (obind (RLoop (Q_lookup_Find_L3 x y2) (((), ((0 : Int), ())), (([] : List Sb), ()))) (fun (y3 : T22zx28 × (List Sb) × Unit) => sel (sel (nt (sel (nt (eqS y2.2.2.1 ([] : List (UInt8))))
  (leI (6 : Int) (@len UInt8 y2.2.2.1))
  true))
  (eqI (@len Sb y3.2.1) (0 : Int))
  true)
  (some (([] : List (UInt8)), ((3 : Int), ())))
  (sel (ltI (1 : Int) (@len Sb y3.2.1))
  (some (([] : List (UInt8)), ((9 : Int), ())))
  (sel (within (0 : Int) (@len Sb y3.2.1))
  (obind (@idx Sb y3.2.1 (0 : Int)) (fun (y4 : List (UInt8)) => some (y4, ((0 : Int), ()))))
  none))))))))
  (sel (leI (0 : Int) y1.2.1.1)
  (some (x.2.1, ((0 : Int), ())))
  (obind (RLoop (Q_lookup_Find_L4 x) (((0 : Int), ((0 : Int), ())), (x.2.1, ()))) (fun (y2 : Nat × T22zx4 × Sb × Unit) => sel (eqN y2.1 (0 : Nat))
  (sel (leI (0 : Int) (-1 : Int))
  (obind (@idx T22zx3 x.1 (-1 : Int)) (fun (y3 : Sb × (List Sb) × Unit) => some (y3.1, ((0 : Int), ()))))
  (obind (RLoop (Q_lookup_Find_L5 x y2) (((), ((0 : Int), ())), (([] : List Sb), ()))) (fun (y3 : T22zx28 × (List Sb) × Unit) => sel (sel (nt (sel (nt (eqS y2.2.2.1 ([] : List (UInt8))))
  (leI (6 : Int) (@len UInt8 y2.2.2.1))
  true))
  (eqI (@len Sb y3.2.1) (0 : Int))
  true)
  (some (([] : List (UInt8)), ((3 : Int), ())))
  (sel (ltI (1 : Int) (@len Sb y3.2.1))
  (some (([] : List (UInt8)), ((9 : Int), ())))
  (sel (within (0 : Int) (@len Sb y3.2.1))
  (obind (@idx Sb y3.2.1 (0 : Int)) (fun (y4 : List (UInt8)) => some (y4, ((0 : Int), ()))))
  none)))))
  (sel (leI (0 : Int) y2.2.1.1)
  (obind (@idx T22zx3 x.1 y2.2.1.1) (fun (y3 : Sb × (List Sb) × Unit) => some (y3.1, ((0 : Int), ()))))
  (obind (RLoop (Q_lookup_Find_L6 x y2) (((), ((0 : Int), ())), (([] : List Sb), ()))) (fun (y3 : T22zx28 × (List Sb) × Unit) => sel (sel (nt (sel (nt (eqS y2.2.2.1 ([] : List (UInt8))))
  (leI (6 : Int) (@len UInt8 y2.2.2.1))
  true))
  (eqI (@len Sb y3.2.1) (0 : Int))
  true)
  (some (([] : List (UInt8)), ((3 : Int), ())))
  (sel (ltI (1 : Int) (@len Sb y3.2.1))
  (some (([] : List (UInt8)), ((9 : Int), ())))
  (sel (within (0 : Int) (@len Sb y3.2.1))
  (obind (@idx Sb y3.2.1 (0 : Int)) (fun (y4 : List (UInt8)) => some (y4, ((0 : Int), ()))))
  none)))))))))
theorem le_P_lookup_Find : ∀ x, OLe (Q_lookup_Find x) (P_lookup_Find x) := by
  unfold Q_lookup_Find P_lookup_Find
  with_reducible repeat' (first | intro _ | exact le_P_lookup_Find_L0 .. | exact le_P_lookup_Find_L1 .. | exact le_P_lookup_Find_L2 .. | exact le_P_lookup_Find_L3 .. | exact le_P_lookup_Find_L4 .. | exact le_P_lookup_Find_L5 .. | exact le_P_lookup_Find_L6 .. | apply OLe.obind | apply OLe.sel | apply OLe.way1 | apply OLe.loop | apply OLe.cond | apply OLe.pick | apply OLe.refl)

noncomputable def Q_names_Of_L0 (x : Int × T22zx20 × Unit) (y1 : (Int × Unit) × Unit × (List T22zx3) × Unit) : Option (T22zx16 ⊕ T22zx16) :=
  @way1 T22zx16 (sel (ltI y1.1.1 (@len T22zx5 x.2.1.2.2.2.1))
  (obind (@idx T22zx5 x.2.1.2.2.2.1 y1.1.1) (fun (y2 : Sb × (List Sb) × Sb × Sb × Sb × (List T22zx0) × Unit) => obind (Q_slices_Clone_string_string (y2.2.1, ())) (fun (y3 : (List Sb) × Unit) => sel (fits (plus (@len T22zx3 y1.2.2.1) (@len T22zx3 ([(y2.1, (y3.1, ()))] : List T22zx3))))
  (some (Sum.inl ((iadd IntKind.i64 y1.1.1 (1 : Int), ()), ((), (@app T22zx3 y1.2.2.1 ([(y2.1, (y3.1, ()))] : List T22zx3), ()))) : (T22zx16) ⊕ T22zx25))
  none)))
  (some (Sum.inr ((0 : Nat), ((y1.1.1, ()), ((), (y1.2.2.1, ())))) : (T22zx16) ⊕ T22zx25)))
theorem le_P_names_Of_L0 : ∀ x y1, OLe (Q_names_Of_L0 x y1) (P_names_Of_L0 x y1) := by
  unfold Q_names_Of_L0 P_names_Of_L0
  with_reducible repeat' (first | intro _ | exact le_P_slices_Clone_string_string .. | apply OLe.obind | apply OLe.sel | apply OLe.way1 | apply OLe.loop | apply OLe.cond | apply OLe.pick | apply OLe.refl)

noncomputable def Q_names_Of_L1 (x : Int × T22zx20 × Unit) (y1 : (Int × Unit) × Unit × (List T22zx3) × Unit) : Option (T22zx16 ⊕ T22zx16) :=
  @way1 T22zx16 (sel (ltI y1.1.1 (@len T22zx1 x.2.1.2.2.1))
  (obind (@idx T22zx1 x.2.1.2.2.1 y1.1.1) (fun (y2 : Sb × (List Sb) × Sb × Sb × (List T22zx0) × Unit) => obind (Q_slices_Clone_string_string (y2.2.1, ())) (fun (y3 : (List Sb) × Unit) => sel (fits (plus (@len T22zx3 y1.2.2.1) (@len T22zx3 ([(y2.1, (y3.1, ()))] : List T22zx3))))
  (some (Sum.inl ((iadd IntKind.i64 y1.1.1 (1 : Int), ()), ((), (@app T22zx3 y1.2.2.1 ([(y2.1, (y3.1, ()))] : List T22zx3), ()))) : (T22zx16) ⊕ T22zx25))
  none)))
  (some (Sum.inr ((0 : Nat), ((y1.1.1, ()), ((), (y1.2.2.1, ())))) : (T22zx16) ⊕ T22zx25)))
theorem le_P_names_Of_L1 : ∀ x y1, OLe (Q_names_Of_L1 x y1) (P_names_Of_L1 x y1) := by
  unfold Q_names_Of_L1 P_names_Of_L1
  with_reducible repeat' (first | intro _ | exact le_P_slices_Clone_string_string .. | apply OLe.obind | apply OLe.sel | apply OLe.way1 | apply OLe.loop | apply OLe.cond | apply OLe.pick | apply OLe.refl)

noncomputable def Q_names_Of_L2 (x : Int × T22zx20 × Unit) (y1 : (Int × Unit) × Unit × (List T22zx3) × Unit) : Option (T22zx16 ⊕ T22zx16) :=
  @way1 T22zx16 (sel (ltI y1.1.1 (@len T22zx6 x.2.1.2.1))
  (obind (@idx T22zx6 x.2.1.2.1 y1.1.1) (fun (y2 : Sb × Sb × (List Sb) × Sb × Int × Int × Bool × Unit) => obind (sel y2.2.2.2.2.2.2.1
  (obind (Q_slices_Clone_string_string (y2.2.2.1, ())) (fun (y3 : (List Sb) × Unit) => sel (fits (plus (@len T22zx3 y1.2.2.1) (@len T22zx3 ([(y2.1, (y3.1, ()))] : List T22zx3))))
  (some ((), (y2, ((), (@app T22zx3 y1.2.2.1 ([(y2.1, (y3.1, ()))] : List T22zx3), ())))))
  none))
  (some ((), (y2, ((), (y1.2.2.1, ())))))) (fun (y3 : Unit × T22zx6 × Unit × (List T22zx3) × Unit) => some (Sum.inl ((iadd IntKind.i64 y1.1.1 (1 : Int), ()), ((), (y3.2.2.2.1, ()))) : (T22zx16) ⊕ T22zx25))))
  (some (Sum.inr ((0 : Nat), ((y1.1.1, ()), ((), (y1.2.2.1, ())))) : (T22zx16) ⊕ T22zx25)))
theorem le_P_names_Of_L2 : ∀ x y1, OLe (Q_names_Of_L2 x y1) (P_names_Of_L2 x y1) := by
  unfold Q_names_Of_L2 P_names_Of_L2
  with_reducible repeat' (first | intro _ | exact le_P_slices_Clone_string_string .. | apply OLe.obind | apply OLe.sel | apply OLe.way1 | apply OLe.loop | apply OLe.cond | apply OLe.pick | apply OLe.refl)

noncomputable def Q_names_Of (x : Int × T22zx20 × Unit) : Option ((List T22zx3) × Unit) :=
  obind (sel (eqI x.1 (1 : Int))
  (obind (RLoop (Q_names_Of_L0 x) (((0 : Int), ()), ((), (([] : List T22zx3), ())))) (fun (y1 : (Int × Unit) × Unit × (List T22zx3) × Unit) => some ((), ((), (y1.2.2.1, ())))))
  (obind (sel (eqI x.1 (2 : Int))
  (obind (RLoop (Q_names_Of_L1 x) (((0 : Int), ()), ((), (([] : List T22zx3), ())))) (fun (y1 : (Int × Unit) × Unit × (List T22zx3) × Unit) => some ((), ((), (y1.2.2.1, ())))))
  (obind (sel (eqI x.1 (3 : Int))
  (obind (RLoop (Q_names_Of_L2 x) (((0 : Int), ()), ((), (([] : List T22zx3), ())))) (fun (y1 : (Int × Unit) × Unit × (List T22zx3) × Unit) => some ((), ((), (y1.2.2.1, ())))))
  (some ((), ((), (([] : List T22zx3), ()))))) (fun (y1 : Unit × Unit × (List T22zx3) × Unit) => some ((), ((), (y1.2.2.1, ())))))) (fun (y1 : Unit × Unit × (List T22zx3) × Unit) => some ((), ((), (y1.2.2.1, ())))))) (fun (y1 : Unit × Unit × (List T22zx3) × Unit) => some (y1.2.2.1, ()))
theorem le_P_names_Of : ∀ x, OLe (Q_names_Of x) (P_names_Of x) := by
  unfold Q_names_Of P_names_Of
  with_reducible repeat' (first | intro _ | exact le_P_names_Of_L0 .. | exact le_P_names_Of_L1 .. | exact le_P_names_Of_L2 .. | apply OLe.obind | apply OLe.sel | apply OLe.way1 | apply OLe.loop | apply OLe.cond | apply OLe.pick | apply OLe.refl)

noncomputable def Q_layers_named (x : T22zx2 × Unit) : Option ((List T22zx3) × Unit) :=
  obind (Q_names_Of ((3 : Int), (((0 : Int), (x.1.2.2.1, (([] : List T22zx1), (([] : List T22zx5), ())))), ()))) (fun (y1 : (List T22zx3) × Unit) => some (y1.1, ()))
theorem le_P_layers_named : ∀ x, OLe (Q_layers_named x) (P_layers_named x) := by
  unfold Q_layers_named P_layers_named
  with_reducible repeat' (first | intro _ | exact le_P_names_Of .. | apply OLe.obind | apply OLe.sel | apply OLe.way1 | apply OLe.loop | apply OLe.cond | apply OLe.pick | apply OLe.refl)

noncomputable def Q_layers_Find (x : T22zx2 × Sb × Unit) : Option (Sb × Int × Unit) :=
  obind (Q_layers_named (x.1, ())) (fun (y1 : (List T22zx3) × Unit) => obind (Q_lookup_Find (y1.1, (x.2.1, ()))) (fun (y2 : Sb × Int × Unit) => some (y2.1, (y2.2.1, ()))))
theorem le_P_layers_Find : ∀ x, OLe (Q_layers_Find x) (P_layers_Find x) := by
  unfold Q_layers_Find P_layers_Find
  with_reducible repeat' (first | intro _ | exact le_P_layers_named .. | exact le_P_lookup_Find .. | apply OLe.obind | apply OLe.sel | apply OLe.way1 | apply OLe.loop | apply OLe.cond | apply OLe.pick | apply OLe.refl)

noncomputable def Q_names_find_L0 (x : (List T22zx3) × Sb × Unit) (y1 : T22zx4 × Sb × Unit) : Option (T22zx14 ⊕ T22zx11) :=
  sel (ltI y1.1.2.1 (@len T22zx3 x.1))
  (obind (@idx T22zx3 x.1 y1.1.2.1) (fun (y2 : Sb × (List Sb) × Unit) => sel (eqS y2.1 y1.2.1)
  (some (Sum.inr ((1 : Nat), ((y1.1.2.1, (y1.1.2.1, ())), (y1.2.1, ()))) : (T22zx14) ⊕ (T22zx11)))
  (some (Sum.inl ((y1.1.1, (iadd IntKind.i64 y1.1.2.1 (1 : Int), ())), (y1.2.1, ())) : (T22zx14) ⊕ (T22zx11)))))
  (some (Sum.inr ((0 : Nat), ((y1.1.1, (y1.1.2.1, ())), (y1.2.1, ()))) : (T22zx14) ⊕ (T22zx11)))
theorem le_P_names_find_L0 : ∀ x y1, OLe (Q_names_find_L0 x y1) (P_names_find_L0 x y1) := by
  unfold Q_names_find_L0 P_names_find_L0
  with_reducible repeat' (first | intro _ | apply OLe.obind | apply OLe.sel | apply OLe.way1 | apply OLe.loop | apply OLe.cond | apply OLe.pick | apply OLe.refl)

noncomputable def Q_names_find (x : (List T22zx3) × Sb × Unit) : Option (Int × Unit) :=
  obind (RLoop (Q_names_find_L0 x) (((0 : Int), ((0 : Int), ())), (x.2.1, ()))) (fun (y1 : Nat × T22zx4 × Sb × Unit) => sel (eqN y1.1 (0 : Nat))
  (some ((-1 : Int), ()))
  (some (y1.2.1.1, ())))
theorem le_P_names_find : ∀ x, OLe (Q_names_find x) (P_names_find x) := by
  unfold Q_names_find P_names_find
  with_reducible repeat' (first | intro _ | exact le_P_names_find_L0 .. | apply OLe.obind | apply OLe.sel | apply OLe.way1 | apply OLe.loop | apply OLe.cond | apply OLe.pick | apply OLe.refl)

noncomputable def Q_names_Free_L1 (y4 : Sb × (List Sb) × Unit) (y5 : T22zx4 × (List Sb) × Unit) : Option (T22zx23 ⊕ T22zx19) :=
  sel (ltI y5.1.2.1 (@len Sb y4.2.1))
  (obind (@idx Sb y4.2.1 y5.1.2.1) (fun (y6 : List (UInt8)) => obind (Q_slices_Contains_string_string (y5.2.1, (y6, ()))) (fun (y7 : Bool × Unit) => sel y7.1
  (some (Sum.inr ((1 : Nat), ((y5.1.2.1, (y5.1.2.1, ())), (y5.2.1, ()))) : (T22zx23) ⊕ (T22zx19)))
  (some (Sum.inl ((y5.1.1, (iadd IntKind.i64 y5.1.2.1 (1 : Int), ())), (y5.2.1, ())) : (T22zx23) ⊕ (T22zx19))))))
  (some (Sum.inr ((0 : Nat), ((y5.1.1, (y5.1.2.1, ())), (y5.2.1, ()))) : (T22zx23) ⊕ (T22zx19)))
theorem le_P_names_Free_L1 : ∀ y4 y5, OLe (Q_names_Free_L1 y4 y5) (P_names_Free_L1 y4 y5) := by
  unfold Q_names_Free_L1 P_names_Free_L1
  with_reducible repeat' (first | intro _ | exact le_P_slices_Contains_string_string .. | apply OLe.obind | apply OLe.sel | apply OLe.way1 | apply OLe.loop | apply OLe.cond | apply OLe.pick | apply OLe.refl)

noncomputable def Q_names_Free_L0 (x : (List T22zx3) × Sb × (List Sb) × Unit) (y2 : Int × Unit) (y3 : T22zx4 × (List Sb) × Unit) : Option (T22zx23 ⊕ T22zx19) :=
  sel (ltI y3.1.2.1 (@len T22zx3 x.1))
  (obind (@idx T22zx3 x.1 y3.1.2.1) (fun (y4 : Sb × (List Sb) × Unit) => sel (nt (eqI y3.1.2.1 y2.1))
  (obind (RLoop (Q_names_Free_L1 y4) (((0 : Int), ((0 : Int), ())), (y3.2.1, ()))) (fun (y5 : Nat × T22zx4 × (List Sb) × Unit) => sel (eqN y5.1 (0 : Nat))
  (sel (leI (0 : Int) (-1 : Int))
  (some (Sum.inr ((1 : Nat), (((8 : Int), (y3.1.2.1, ())), (y5.2.2.1, ()))) : (T22zx23) ⊕ (T22zx19)))
  (some (Sum.inl ((y3.1.1, (iadd IntKind.i64 y3.1.2.1 (1 : Int), ())), (y5.2.2.1, ())) : (T22zx23) ⊕ (T22zx19))))
  (sel (leI (0 : Int) y5.2.1.1)
  (some (Sum.inr ((1 : Nat), (((8 : Int), (y3.1.2.1, ())), (y5.2.2.1, ()))) : (T22zx23) ⊕ (T22zx19)))
  (some (Sum.inl ((y3.1.1, (iadd IntKind.i64 y3.1.2.1 (1 : Int), ())), (y5.2.2.1, ())) : (T22zx23) ⊕ (T22zx19))))))
  (some (Sum.inl ((y3.1.1, (iadd IntKind.i64 y3.1.2.1 (1 : Int), ())), (y3.2.1, ())) : (T22zx23) ⊕ (T22zx19)))))
  (some (Sum.inr ((0 : Nat), ((y3.1.1, (y3.1.2.1, ())), (y3.2.1, ()))) : (T22zx23) ⊕ (T22zx19)))
theorem le_P_names_Free_L0 : ∀ x y2 y3, OLe (Q_names_Free_L0 x y2 y3) (P_names_Free_L0 x y2 y3) := by
  unfold Q_names_Free_L0 P_names_Free_L0
  with_reducible repeat' (first | intro _ | exact le_P_names_Free_L1 .. | apply OLe.obind | apply OLe.sel | apply OLe.way1 | apply OLe.loop | apply OLe.cond | apply OLe.pick | apply OLe.refl)

noncomputable def Q_names_Free (x : (List T22zx3) × Sb × (List Sb) × Unit) : Option (Int × Unit) :=
  obind (Q_names_Check (x.2.2.1, ())) (fun (y1 : Int × Unit) => sel (nt (eqI y1.1 (0 : Int)))
  (some (y1.1, ()))
  (obind (Q_names_find (x.1, (x.2.1, ()))) (fun (y2 : Int × Unit) => obind (RLoop (Q_names_Free_L0 x y2) (((0 : Int), ((0 : Int), ())), (x.2.2.1, ()))) (fun (y3 : Nat × T22zx4 × (List Sb) × Unit) => sel (eqN y3.1 (0 : Nat))
  (some ((0 : Int), ()))
  (some (y3.2.1.1, ()))))))
theorem le_P_names_Free : ∀ x, OLe (Q_names_Free x) (P_names_Free x) := by
  unfold Q_names_Free P_names_Free
  with_reducible repeat' (first | intro _ | exact le_P_names_Check .. | exact le_P_names_find .. | exact le_P_names_Free_L0 .. | apply OLe.obind | apply OLe.sel | apply OLe.way1 | apply OLe.loop | apply OLe.cond | apply OLe.pick | apply OLe.refl)

noncomputable def Q_images_named (x : T22zx2 × Unit) : Option ((List T22zx3) × Unit) :=
  obind (Q_names_Of ((2 : Int), (((0 : Int), (([] : List T22zx6), (x.1.2.1, (([] : List T22zx5), ())))), ()))) (fun (y1 : (List T22zx3) × Unit) => some (y1.1, ()))
theorem le_P_images_named : ∀ x, OLe (Q_images_named x) (P_images_named x) := by
  unfold Q_images_named P_images_named
  with_reducible repeat' (first | intro _ | exact le_P_names_Of .. | apply OLe.obind | apply OLe.sel | apply OLe.way1 | apply OLe.loop | apply OLe.cond | apply OLe.pick | apply OLe.refl)

noncomputable def Q_lookup_id (x : Int × Unit) : Option (Sb × Unit) :=
  sel (ltI (16 : Int) (0 : Int))
  none
  (sel (ltI (8 : Int) (0 : Int))
  none
  (obind (Q_digits_Hex (intsBytes ([icv IntKind.u8 (ishr IntKind.i64 x.1 (16 : Int)), icv IntKind.u8 (ishr IntKind.i64 x.1 (8 : Int)), icv IntKind.u8 x.1] : List (Int)), ())) (fun (y1 : Sb × Unit) => some (y1.1, ()))))
theorem le_P_lookup_id : ∀ x, OLe (Q_lookup_id x) (P_lookup_id x) := by
  unfold Q_lookup_id P_lookup_id
  with_reducible repeat' (first | intro _ | exact le_P_digits_Hex .. | apply OLe.obind | apply OLe.sel | apply OLe.way1 | apply OLe.loop | apply OLe.cond | apply OLe.pick | apply OLe.refl)

noncomputable def Q_lookup_Fresh_L1 (x : (List T22zx3) × Int × Unit) (y3 : T22zx4 × Sb × Unit) : Option (T22zx14 ⊕ T22zx11) :=
  sel (ltI y3.1.2.1 (@len T22zx3 x.1))
  (obind (@idx T22zx3 x.1 y3.1.2.1) (fun (y4 : Sb × (List Sb) × Unit) => sel (eqS y4.1 y3.2.1)
  (some (Sum.inr ((1 : Nat), ((y3.1.2.1, (y3.1.2.1, ())), (y3.2.1, ()))) : (T22zx14) ⊕ (T22zx11)))
  (some (Sum.inl ((y3.1.1, (iadd IntKind.i64 y3.1.2.1 (1 : Int), ())), (y3.2.1, ())) : (T22zx14) ⊕ (T22zx11)))))
  (some (Sum.inr ((0 : Nat), ((y3.1.1, (y3.1.2.1, ())), (y3.2.1, ()))) : (T22zx14) ⊕ (T22zx11)))
theorem le_P_lookup_Fresh_L1 : ∀ x y3, OLe (Q_lookup_Fresh_L1 x y3) (P_lookup_Fresh_L1 x y3) := by
  unfold Q_lookup_Fresh_L1 P_lookup_Fresh_L1
  with_reducible repeat' (first | intro _ | apply OLe.obind | apply OLe.sel | apply OLe.way1 | apply OLe.loop | apply OLe.cond | apply OLe.pick | apply OLe.refl)

noncomputable def Q_lookup_Fresh_L0 (x : (List T22zx3) × Int × Unit) (y1 : T22zx12 × Unit) : Option ((T22zx12 × Unit) ⊕ (Nat × T22zx12 × Unit)) :=
  sel (ltI y1.1.2.2.1 (iadd IntKind.i64 (@len T22zx3 x.1) (1 : Int)))
  (sel (eqI (16777216 : Int) (0 : Int))
  none
  (obind (Q_lookup_id (irem (iadd IntKind.i64 (iand IntKind.i64 x.2.1 (16777215 : Int)) y1.1.2.2.1) (16777216 : Int), ())) (fun (y2 : Sb × Unit) => obind (RLoop (Q_lookup_Fresh_L1 x) (((0 : Int), ((0 : Int), ())), (y2.1, ()))) (fun (y3 : Nat × T22zx4 × Sb × Unit) => sel (eqN y3.1 (0 : Nat))
  (sel (nt (leI (0 : Int) (-1 : Int)))
  (some (Sum.inr ((1 : Nat), ((y2.1, ((0 : Int), (y1.1.2.2.1, ()))), ())) : ((T22zx12 × Unit)) ⊕ ((Nat × T22zx12 × Unit))))
  (some (Sum.inl ((y1.1.1, (y1.1.2.1, (iadd IntKind.i64 y1.1.2.2.1 (1 : Int), ()))), ()) : ((T22zx12 × Unit)) ⊕ ((Nat × T22zx12 × Unit)))))
  (sel (nt (leI (0 : Int) y3.2.1.1))
  (some (Sum.inr ((1 : Nat), ((y2.1, ((0 : Int), (y1.1.2.2.1, ()))), ())) : ((T22zx12 × Unit)) ⊕ ((Nat × T22zx12 × Unit))))
  (some (Sum.inl ((y1.1.1, (y1.1.2.1, (iadd IntKind.i64 y1.1.2.2.1 (1 : Int), ()))), ()) : ((T22zx12 × Unit)) ⊕ ((Nat × T22zx12 × Unit)))))))))
  (some (Sum.inr ((0 : Nat), ((y1.1.1, (y1.1.2.1, (y1.1.2.2.1, ()))), ())) : ((T22zx12 × Unit)) ⊕ ((Nat × T22zx12 × Unit))))
theorem le_P_lookup_Fresh_L0 : ∀ x y1, OLe (Q_lookup_Fresh_L0 x y1) (P_lookup_Fresh_L0 x y1) := by
  unfold Q_lookup_Fresh_L0 P_lookup_Fresh_L0
  with_reducible repeat' (first | intro _ | exact le_P_lookup_id .. | exact le_P_lookup_Fresh_L1 .. | apply OLe.obind | apply OLe.sel | apply OLe.way1 | apply OLe.loop | apply OLe.cond | apply OLe.pick | apply OLe.refl)

noncomputable def Q_lookup_Fresh (x : (List T22zx3) × Int × Unit) : Option (Sb × Int × Unit) :=
  sel (leI (32 : Int) (@len T22zx3 x.1))
  (some (([] : List (UInt8)), ((5 : Int), ())))
  (obind (RLoop (Q_lookup_Fresh_L0 x) ((([] : List (UInt8)), ((0 : Int), ((0 : Int), ()))), ())) (fun (y1 : Nat × T22zx12 × Unit) => sel (eqN y1.1 (0 : Nat))
  (some (([] : List (UInt8)), ((5 : Int), ())))
  (some (y1.2.1.1, (y1.2.1.2.1, ())))))
theorem le_P_lookup_Fresh : ∀ x, OLe (Q_lookup_Fresh x) (P_lookup_Fresh x) := by
  unfold Q_lookup_Fresh P_lookup_Fresh
  with_reducible repeat' (first | intro _ | exact le_P_lookup_Fresh_L0 .. | apply OLe.obind | apply OLe.sel | apply OLe.way1 | apply OLe.loop | apply OLe.cond | apply OLe.pick | apply OLe.refl)

noncomputable def Q_images_id (x : T22zx1 × Unit) : Option (Sb × Unit) :=
  some (x.1.1, ())
theorem le_P_images_id : ∀ x, OLe (Q_images_id x) (P_images_id x) := by
  unfold Q_images_id P_images_id
  with_reducible repeat' (first | intro _ | apply OLe.obind | apply OLe.sel | apply OLe.way1 | apply OLe.loop | apply OLe.cond | apply OLe.pick | apply OLe.refl)

noncomputable def Q_images_Set_L0 (x : T22zx2 × T22zx1 × Unit) (y4 : T22zx4 × Unit × Sb × Unit) : Option (T22zx9 ⊕ T22zx8) :=
  sel (ltI y4.1.2.1 (@len T22zx1 x.1.2.1))
  (obind (@idx T22zx1 x.1.2.1 y4.1.2.1) (fun (y5 : Sb × (List Sb) × Sb × Sb × (List T22zx0) × Unit) => obind (Q_images_id (y5, ())) (fun (y6 : Sb × Unit) => sel (eqS y6.1 y4.2.2.1)
  (some (Sum.inr ((1 : Nat), ((y4.1.2.1, (y4.1.2.1, ())), ((), (y4.2.2.1, ())))) : (T22zx9) ⊕ (T22zx8)))
  (some (Sum.inl ((y4.1.1, (iadd IntKind.i64 y4.1.2.1 (1 : Int), ())), ((), (y4.2.2.1, ()))) : (T22zx9) ⊕ (T22zx8))))))
  (some (Sum.inr ((0 : Nat), ((y4.1.1, (y4.1.2.1, ())), ((), (y4.2.2.1, ())))) : (T22zx9) ⊕ (T22zx8)))
theorem le_P_images_Set_L0 : ∀ x y4, OLe (Q_images_Set_L0 x y4) (P_images_Set_L0 x y4) := by
  unfold Q_images_Set_L0 P_images_Set_L0
  with_reducible repeat' (first | intro _ | exact le_P_images_id .. | apply OLe.obind | apply OLe.sel | apply OLe.way1 | apply OLe.loop | apply OLe.cond | apply OLe.pick | apply OLe.refl)

noncomputable def Q_images_Set_L1 (y5 : (Unit × Unit) × (List T22zx1) × Unit) (y6 : T22zx4 × Unit × T22zx1 × Unit) : Option ((T22zx4 × Unit × T22zx1 × Unit) ⊕ T22zx26) :=
  sel (ltI y6.1.2.1 (@len T22zx1 y5.2.1))
  (sel (within y6.1.2.1 (@len T22zx1 y5.2.1))
  (obind (@idx T22zx1 y5.2.1 y6.1.2.1) (fun (y7 : Sb × (List Sb) × Sb × Sb × (List T22zx0) × Unit) => obind (Q_images_id (y7, ())) (fun (y8 : Sb × Unit) => obind (Q_images_id (y6.2.2.1, ())) (fun (y9 : Sb × Unit) => sel (nt (ltS y8.1 y9.1))
  (some (Sum.inr ((1 : Nat), ((y6.1.2.1, (y6.1.2.1, ())), ((), (y6.2.2.1, ())))) : ((T22zx4 × Unit × T22zx1 × Unit)) ⊕ (T22zx26)))
  (some (Sum.inl ((y6.1.1, (iadd IntKind.i64 y6.1.2.1 (1 : Int), ())), ((), (y6.2.2.1, ()))) : ((T22zx4 × Unit × T22zx1 × Unit)) ⊕ (T22zx26)))))))
  none)
  (some (Sum.inr ((0 : Nat), ((y6.1.1, (y6.1.2.1, ())), ((), (y6.2.2.1, ())))) : ((T22zx4 × Unit × T22zx1 × Unit)) ⊕ (T22zx26)))
theorem le_P_images_Set_L1 : ∀ y5 y6, OLe (Q_images_Set_L1 y5 y6) (P_images_Set_L1 y5 y6) := by
  unfold Q_images_Set_L1 P_images_Set_L1
  with_reducible repeat' (first | intro _ | exact le_P_images_id .. | apply OLe.obind | apply OLe.sel | apply OLe.way1 | apply OLe.loop | apply OLe.cond | apply OLe.pick | apply OLe.refl)

noncomputable def Q_images_Set_L2 (y5 : (Unit × Unit) × (List T22zx1) × Unit) (y6 : T22zx4 × Unit × T22zx1 × Unit) : Option ((T22zx4 × Unit × T22zx1 × Unit) ⊕ T22zx26) :=
  sel (ltI y6.1.2.1 (@len T22zx1 y5.2.1))
  (sel (within y6.1.2.1 (@len T22zx1 y5.2.1))
  (obind (@idx T22zx1 y5.2.1 y6.1.2.1) (fun (y7 : Sb × (List Sb) × Sb × Sb × (List T22zx0) × Unit) => obind (Q_images_id (y7, ())) (fun (y8 : Sb × Unit) => obind (Q_images_id (y6.2.2.1, ())) (fun (y9 : Sb × Unit) => sel (nt (ltS y8.1 y9.1))
  (some (Sum.inr ((1 : Nat), ((y6.1.2.1, (y6.1.2.1, ())), ((), (y6.2.2.1, ())))) : ((T22zx4 × Unit × T22zx1 × Unit)) ⊕ (T22zx26)))
  (some (Sum.inl ((y6.1.1, (iadd IntKind.i64 y6.1.2.1 (1 : Int), ())), ((), (y6.2.2.1, ()))) : ((T22zx4 × Unit × T22zx1 × Unit)) ⊕ (T22zx26)))))))
  none)
  (some (Sum.inr ((0 : Nat), ((y6.1.1, (y6.1.2.1, ())), ((), (y6.2.2.1, ())))) : ((T22zx4 × Unit × T22zx1 × Unit)) ⊕ (T22zx26)))
theorem le_P_images_Set_L2 : ∀ y5 y6, OLe (Q_images_Set_L2 y5 y6) (P_images_Set_L2 y5 y6) := by
  unfold Q_images_Set_L2 P_images_Set_L2
  with_reducible repeat' (first | intro _ | exact le_P_images_id .. | apply OLe.obind | apply OLe.sel | apply OLe.way1 | apply OLe.loop | apply OLe.cond | apply OLe.pick | apply OLe.refl)

noncomputable def Q_images_Set (x : T22zx2 × T22zx1 × Unit) : Option (T22zx2 × Unit) :=
  obind (Q_slices_Clone_string_string (x.2.1.2.1, ())) (fun (y1 : (List Sb) × Unit) => obind (Q_slices_Clone_api_Item_api_Item (x.2.1.2.2.2.2.1, ())) (fun (y2 : (List T22zx0) × Unit) => obind (Q_images_id ((x.2.1.1, (y1.1, (x.2.1.2.2.1, (x.2.1.2.2.2.1, (y2.1, x.2.1.2.2.2.2.2))))), ())) (fun (y3 : Sb × Unit) => sel (fits (@len T22zx1 x.1.2.1))
  (obind (RLoop (Q_images_Set_L0 x) (((0 : Int), ((0 : Int), ())), ((), (y3.1, ())))) (fun (y4 : Nat × T22zx4 × Unit × Sb × Unit) => sel (eqN y4.1 (0 : Nat))
  (obind (sel (leI (0 : Int) (-1 : Int))
  (obind (Q_slices_Delete_api_Image_api_Image x.1.2.1 ((-1 : Int), (iadd IntKind.i64 (-1 : Int) (1 : Int), ()))) (fun (y5 : List T22zx1) => some (((), ()), (y5, ()))))
  (some (((), ()), (x.1.2.1, ())))) (fun (y5 : (Unit × Unit) × (List T22zx1) × Unit) => obind (RLoop (Q_images_Set_L1 y5) (((0 : Int), ((0 : Int), ())), ((), ((x.2.1.1, (y1.1, (x.2.1.2.2.1, (x.2.1.2.2.2.1, (y2.1, x.2.1.2.2.2.2.2))))), ())))) (fun (y6 : Nat × T22zx4 × Unit × T22zx1 × Unit) => sel (eqN y6.1 (0 : Nat))
  (obind (Q_slices_Insert_api_Image_api_Image y5.2.1 (((sel (ltI (-1 : Int) (0 : Int))
  ((@len T22zx1 y5.2.1, ()), ())
  (((-1 : Int), ()), ())).1).1, (([y6.2.2.2.1] : List T22zx1), ()))) (fun (y7 : List T22zx1) => some ((x.1.1, (y7, x.1.2.2)), ())))
  (obind (Q_slices_Insert_api_Image_api_Image y5.2.1 (((sel (ltI y6.2.1.1 (0 : Int))
  ((@len T22zx1 y5.2.1, ()), ())
  ((y6.2.1.1, ()), ())).1).1, (([y6.2.2.2.1] : List T22zx1), ()))) (fun (y7 : List T22zx1) => some ((x.1.1, (y7, x.1.2.2)), ()))))))
  (obind (sel (leI (0 : Int) y4.2.1.1)
  (obind (Q_slices_Delete_api_Image_api_Image x.1.2.1 (y4.2.1.1, (iadd IntKind.i64 y4.2.1.1 (1 : Int), ()))) (fun (y5 : List T22zx1) => some (((), ()), (y5, ()))))
  (some (((), ()), (x.1.2.1, ())))) (fun (y5 : (Unit × Unit) × (List T22zx1) × Unit) => obind (RLoop (Q_images_Set_L2 y5) (((0 : Int), ((0 : Int), ())), ((), ((x.2.1.1, (y1.1, (x.2.1.2.2.1, (x.2.1.2.2.2.1, (y2.1, x.2.1.2.2.2.2.2))))), ())))) (fun (y6 : Nat × T22zx4 × Unit × T22zx1 × Unit) => sel (eqN y6.1 (0 : Nat))
  (obind (Q_slices_Insert_api_Image_api_Image y5.2.1 (((sel (ltI (-1 : Int) (0 : Int))
  ((@len T22zx1 y5.2.1, ()), ())
  (((-1 : Int), ()), ())).1).1, (([y6.2.2.2.1] : List T22zx1), ()))) (fun (y7 : List T22zx1) => some ((x.1.1, (y7, x.1.2.2)), ())))
  (obind (Q_slices_Insert_api_Image_api_Image y5.2.1 (((sel (ltI y6.2.1.1 (0 : Int))
  ((@len T22zx1 y5.2.1, ()), ())
  ((y6.2.1.1, ()), ())).1).1, (([y6.2.2.2.1] : List T22zx1), ()))) (fun (y7 : List T22zx1) => some ((x.1.1, (y7, x.1.2.2)), ()))))))))
  none)))
theorem le_P_images_Set : ∀ x, OLe (Q_images_Set x) (P_images_Set x) := by
  unfold Q_images_Set P_images_Set
  with_reducible repeat' (first | intro _ | exact le_P_slices_Clone_string_string .. | exact le_P_slices_Clone_api_Item_api_Item .. | exact le_P_images_id .. | exact le_P_images_Set_L0 .. | exact le_P_slices_Delete_api_Image_api_Image .. | exact le_P_images_Set_L1 .. | exact le_P_slices_Insert_api_Image_api_Image .. | exact le_P_images_Set_L2 .. | apply OLe.obind | apply OLe.sel | apply OLe.way1 | apply OLe.loop | apply OLe.cond | apply OLe.pick | apply OLe.refl)

noncomputable def Q_images_Create (x : T22zx2 × Sb × (List Sb) × Sb × Int × Unit) : Option (T22zx2 × T22zx17 × Unit) :=
  obind (Q_names_Check (x.2.2.1, ())) (fun (y1 : Int × Unit) => sel (sel (nt (nt (eqI y1.1 (0 : Int))))
  (ltI (64 : Int) (@len UInt8 x.2.2.2.1))
  true)
  (obind (Q_images_fault ((1 : Int), ())) (fun (y2 : T22zx17 × Unit) => some (x.1, (y2.1, ()))))
  (obind (sel (nt (eqS x.2.1 ([] : List (UInt8))))
  (obind (Q_layers_Find (x.1, (x.2.1, ()))) (fun (y2 : Sb × Int × Unit) => some ((y2.2.1, ()), ((([] : List (UInt8)), (x.2.2.1, (y2.1, (x.2.2.2.1, (([] : List T22zx0), ()))))), ()))))
  (some (((0 : Int), ()), ((([] : List (UInt8)), (x.2.2.1, (([] : List (UInt8)), (x.2.2.2.1, (([] : List T22zx0), ()))))), ())))) (fun (y2 : (Int × Unit) × T22zx1 × Unit) => obind (sel (eqI y2.1.1 (0 : Int))
  (obind (Q_images_named (x.1, ())) (fun (y3 : (List T22zx3) × Unit) => obind (Q_names_Free (y3.1, (([] : List (UInt8)), (x.2.2.1, ())))) (fun (y4 : Int × Unit) => some ((y4.1, ()), ()))))
  (some ((y2.1.1, ()), ()))) (fun (y3 : (Int × Unit) × Unit) => obind (sel (eqI y3.1.1 (0 : Int))
  (obind (Q_images_named (x.1, ())) (fun (y4 : (List T22zx3) × Unit) => obind (Q_lookup_Fresh (y4.1, (x.2.2.2.2.1, ()))) (fun (y5 : Sb × Int × Unit) => some ((y5.2.1, ()), ((y5.1, y2.2.1.2), ())))))
  (some ((y3.1.1, ()), (y2.2.1, ())))) (fun (y4 : (Int × Unit) × T22zx1 × Unit) => sel (nt (eqI y4.1.1 (0 : Int)))
  (obind (Q_images_fault (y4.1.1, ())) (fun (y5 : T22zx17 × Unit) => some (x.1, (y5.1, ()))))
  (obind (Q_images_Set (x.1, (y4.2.1, ()))) (fun (y5 : T22zx2 × Unit) => some (y5.1, (((0 : Int), (y4.2.1.1, ((0 : Int), (([] : List (UInt8)), ())))), ())))))))))
theorem le_P_images_Create : ∀ x, OLe (Q_images_Create x) (P_images_Create x) := by
  unfold Q_images_Create P_images_Create
  with_reducible repeat' (first | intro _ | exact le_P_names_Check .. | exact le_P_images_fault .. | exact le_P_layers_Find .. | exact le_P_images_named .. | exact le_P_names_Free .. | exact le_P_lookup_Fresh .. | exact le_P_images_Set .. | apply OLe.obind | apply OLe.sel | apply OLe.way1 | apply OLe.loop | apply OLe.cond | apply OLe.pick | apply OLe.refl)

noncomputable def Q_images_Find (x : T22zx2 × Sb × Unit) : Option (Sb × Int × Unit) :=
  obind (Q_images_named (x.1, ())) (fun (y1 : (List T22zx3) × Unit) => obind (Q_lookup_Find (y1.1, (x.2.1, ()))) (fun (y2 : Sb × Int × Unit) => some (y2.1, (y2.2.1, ()))))
theorem le_P_images_Find : ∀ x, OLe (Q_images_Find x) (P_images_Find x) := by
  unfold Q_images_Find P_images_Find
  with_reducible repeat' (first | intro _ | exact le_P_images_named .. | exact le_P_lookup_Find .. | apply OLe.obind | apply OLe.sel | apply OLe.way1 | apply OLe.loop | apply OLe.cond | apply OLe.pick | apply OLe.refl)

noncomputable def Q_images_Delete_L0 (x : T22zx2 × Sb × Unit) (y2 : T22zx4 × Sb × Unit) : Option (T22zx14 ⊕ T22zx11) :=
  sel (ltI y2.1.2.1 (@len T22zx5 x.1.1))
  (obind (@idx T22zx5 x.1.1 y2.1.2.1) (fun (y3 : Sb × (List Sb) × Sb × Sb × Sb × (List T22zx0) × Unit) => sel (eqS y3.2.2.1 y2.2.1)
  (some (Sum.inr ((1 : Nat), ((y2.1.2.1, (y2.1.2.1, ())), (y2.2.1, ()))) : (T22zx14) ⊕ (T22zx11)))
  (some (Sum.inl ((y2.1.1, (iadd IntKind.i64 y2.1.2.1 (1 : Int), ())), (y2.2.1, ())) : (T22zx14) ⊕ (T22zx11)))))
  (some (Sum.inr ((0 : Nat), ((y2.1.1, (y2.1.2.1, ())), (y2.2.1, ()))) : (T22zx14) ⊕ (T22zx11)))
theorem le_P_images_Delete_L0 : ∀ x y2, OLe (Q_images_Delete_L0 x y2) (P_images_Delete_L0 x y2) := by
  unfold Q_images_Delete_L0 P_images_Delete_L0
  with_reducible repeat' (first | intro _ | apply OLe.obind | apply OLe.sel | apply OLe.way1 | apply OLe.loop | apply OLe.cond | apply OLe.pick | apply OLe.refl)

noncomputable def Q_images_Delete_L1 (x : T22zx2 × Sb × Unit) (y3 : T22zx4 × Unit × Sb × Unit) : Option (T22zx9 ⊕ T22zx8) :=
  sel (ltI y3.1.2.1 (@len T22zx1 x.1.2.1))
  (obind (@idx T22zx1 x.1.2.1 y3.1.2.1) (fun (y4 : Sb × (List Sb) × Sb × Sb × (List T22zx0) × Unit) => obind (Q_images_id (y4, ())) (fun (y5 : Sb × Unit) => sel (eqS y5.1 y3.2.2.1)
  (some (Sum.inr ((1 : Nat), ((y3.1.2.1, (y3.1.2.1, ())), ((), (y3.2.2.1, ())))) : (T22zx9) ⊕ (T22zx8)))
  (some (Sum.inl ((y3.1.1, (iadd IntKind.i64 y3.1.2.1 (1 : Int), ())), ((), (y3.2.2.1, ()))) : (T22zx9) ⊕ (T22zx8))))))
  (some (Sum.inr ((0 : Nat), ((y3.1.1, (y3.1.2.1, ())), ((), (y3.2.2.1, ())))) : (T22zx9) ⊕ (T22zx8)))
theorem le_P_images_Delete_L1 : ∀ x y3, OLe (Q_images_Delete_L1 x y3) (P_images_Delete_L1 x y3) := by
  unfold Q_images_Delete_L1 P_images_Delete_L1
  with_reducible repeat' (first | intro _ | exact le_P_images_id .. | apply OLe.obind | apply OLe.sel | apply OLe.way1 | apply OLe.loop | apply OLe.cond | apply OLe.pick | apply OLe.refl)

noncomputable def Q_images_Delete_L2 (x : T22zx2 × Sb × Unit) (y3 : T22zx4 × Unit × Sb × Unit) : Option (T22zx9 ⊕ T22zx8) :=
  sel (ltI y3.1.2.1 (@len T22zx1 x.1.2.1))
  (obind (@idx T22zx1 x.1.2.1 y3.1.2.1) (fun (y4 : Sb × (List Sb) × Sb × Sb × (List T22zx0) × Unit) => obind (Q_images_id (y4, ())) (fun (y5 : Sb × Unit) => sel (eqS y5.1 y3.2.2.1)
  (some (Sum.inr ((1 : Nat), ((y3.1.2.1, (y3.1.2.1, ())), ((), (y3.2.2.1, ())))) : (T22zx9) ⊕ (T22zx8)))
  (some (Sum.inl ((y3.1.1, (iadd IntKind.i64 y3.1.2.1 (1 : Int), ())), ((), (y3.2.2.1, ()))) : (T22zx9) ⊕ (T22zx8))))))
  (some (Sum.inr ((0 : Nat), ((y3.1.1, (y3.1.2.1, ())), ((), (y3.2.2.1, ())))) : (T22zx9) ⊕ (T22zx8)))
theorem le_P_images_Delete_L2 : ∀ x y3, OLe (Q_images_Delete_L2 x y3) (P_images_Delete_L2 x y3) := by
  unfold Q_images_Delete_L2 P_images_Delete_L2
  with_reducible repeat' (first | intro _ | exact le_P_images_id .. | apply OLe.obind | apply OLe.sel | apply OLe.way1 | apply OLe.loop | apply OLe.cond | apply OLe.pick | apply OLe.refl)

noncomputable def Q_images_Delete (x : T22zx2 × Sb × Unit) : Option (T22zx2 × T22zx17 × Unit) :=
  obind (Q_images_Find (x.1, (x.2.1, ()))) (fun (y1 : Sb × Int × Unit) => sel (nt (eqI y1.2.1 (0 : Int)))
  (obind (Q_images_fault (y1.2.1, ())) (fun (y2 : T22zx17 × Unit) => some (x.1, (y2.1, ()))))
  (obind (RLoop (Q_images_Delete_L0 x) (((0 : Int), ((0 : Int), ())), (y1.1, ()))) (fun (y2 : Nat × T22zx4 × Sb × Unit) => sel (eqN y2.1 (0 : Nat))
  (sel (leI (0 : Int) (-1 : Int))
  (obind (Q_images_fault ((7 : Int), ())) (fun (y3 : T22zx17 × Unit) => some (x.1, (y3.1, ()))))
  (sel (fits (@len T22zx1 x.1.2.1))
  (obind (RLoop (Q_images_Delete_L1 x) (((0 : Int), ((0 : Int), ())), ((), (y2.2.2.1, ())))) (fun (y3 : Nat × T22zx4 × Unit × Sb × Unit) => sel (eqN y3.1 (0 : Nat))
  (obind (sel (leI (0 : Int) (-1 : Int))
  (obind (Q_slices_Delete_api_Image_api_Image x.1.2.1 ((-1 : Int), (iadd IntKind.i64 (-1 : Int) (1 : Int), ()))) (fun (y4 : List T22zx1) => some (((), ()), (y4, ()))))
  (some (((), ()), (x.1.2.1, ())))) (fun (y4 : (Unit × Unit) × (List T22zx1) × Unit) => some ((x.1.1, (y4.2.1, x.1.2.2)), (((0 : Int), (y2.2.2.1, ((0 : Int), (([] : List (UInt8)), ())))), ()))))
  (obind (sel (leI (0 : Int) y3.2.1.1)
  (obind (Q_slices_Delete_api_Image_api_Image x.1.2.1 (y3.2.1.1, (iadd IntKind.i64 y3.2.1.1 (1 : Int), ()))) (fun (y4 : List T22zx1) => some (((), ()), (y4, ()))))
  (some (((), ()), (x.1.2.1, ())))) (fun (y4 : (Unit × Unit) × (List T22zx1) × Unit) => some ((x.1.1, (y4.2.1, x.1.2.2)), (((0 : Int), (y2.2.2.1, ((0 : Int), (([] : List (UInt8)), ())))), ()))))))
  none))
  (sel (leI (0 : Int) y2.2.1.1)
  (obind (Q_images_fault ((7 : Int), ())) (fun (y3 : T22zx17 × Unit) => some (x.1, (y3.1, ()))))
  (sel (fits (@len T22zx1 x.1.2.1))
  (obind (RLoop (Q_images_Delete_L2 x) (((0 : Int), ((0 : Int), ())), ((), (y2.2.2.1, ())))) (fun (y3 : Nat × T22zx4 × Unit × Sb × Unit) => sel (eqN y3.1 (0 : Nat))
  (obind (sel (leI (0 : Int) (-1 : Int))
  (obind (Q_slices_Delete_api_Image_api_Image x.1.2.1 ((-1 : Int), (iadd IntKind.i64 (-1 : Int) (1 : Int), ()))) (fun (y4 : List T22zx1) => some (((), ()), (y4, ()))))
  (some (((), ()), (x.1.2.1, ())))) (fun (y4 : (Unit × Unit) × (List T22zx1) × Unit) => some ((x.1.1, (y4.2.1, x.1.2.2)), (((0 : Int), (y2.2.2.1, ((0 : Int), (([] : List (UInt8)), ())))), ()))))
  (obind (sel (leI (0 : Int) y3.2.1.1)
  (obind (Q_slices_Delete_api_Image_api_Image x.1.2.1 (y3.2.1.1, (iadd IntKind.i64 y3.2.1.1 (1 : Int), ()))) (fun (y4 : List T22zx1) => some (((), ()), (y4, ()))))
  (some (((), ()), (x.1.2.1, ())))) (fun (y4 : (Unit × Unit) × (List T22zx1) × Unit) => some ((x.1.1, (y4.2.1, x.1.2.2)), (((0 : Int), (y2.2.2.1, ((0 : Int), (([] : List (UInt8)), ())))), ()))))))
  none)))))
theorem le_P_images_Delete : ∀ x, OLe (Q_images_Delete x) (P_images_Delete x) := by
  unfold Q_images_Delete P_images_Delete
  with_reducible repeat' (first | intro _ | exact le_P_images_Find .. | exact le_P_images_fault .. | exact le_P_images_Delete_L0 .. | exact le_P_images_Delete_L1 .. | exact le_P_slices_Delete_api_Image_api_Image .. | exact le_P_images_Delete_L2 .. | apply OLe.obind | apply OLe.sel | apply OLe.way1 | apply OLe.loop | apply OLe.cond | apply OLe.pick | apply OLe.refl)

noncomputable def Q_images_Get_L0 (x : T22zx2 × Sb × Unit) (y1 : T22zx7 × T22zx1 × Unit) : Option ((T22zx7 × T22zx1 × Unit) ⊕ (Nat × T22zx7 × T22zx1 × Unit)) :=
  sel (ltI y1.1.2.1 (@len T22zx1 x.1.2.1))
  (obind (@idx T22zx1 x.1.2.1 y1.1.2.1) (fun (y2 : Sb × (List Sb) × Sb × Sb × (List T22zx0) × Unit) => sel (eqS y2.1 x.2.1)
  (obind (Q_slices_Clone_string_string (y2.2.1, ())) (fun (y3 : (List Sb) × Unit) => obind (Q_slices_Clone_api_Item_api_Item (y2.2.2.2.2.1, ())) (fun (y4 : (List T22zx0) × Unit) => some (Sum.inr ((1 : Nat), ((true, (y1.1.2.1, ())), ((y2.1, (y3.1, (y2.2.2.1, (y2.2.2.2.1, (y4.1, y2.2.2.2.2.2))))), ()))) : ((T22zx7 × T22zx1 × Unit)) ⊕ ((Nat × T22zx7 × T22zx1 × Unit))))))
  (some (Sum.inl ((y1.1.1, (iadd IntKind.i64 y1.1.2.1 (1 : Int), ())), (y1.2.1, ())) : ((T22zx7 × T22zx1 × Unit)) ⊕ ((Nat × T22zx7 × T22zx1 × Unit))))))
  (some (Sum.inr ((0 : Nat), ((y1.1.1, (y1.1.2.1, ())), (y1.2.1, ()))) : ((T22zx7 × T22zx1 × Unit)) ⊕ ((Nat × T22zx7 × T22zx1 × Unit))))
theorem le_P_images_Get_L0 : ∀ x y1, OLe (Q_images_Get_L0 x y1) (P_images_Get_L0 x y1) := by
  unfold Q_images_Get_L0 P_images_Get_L0
  with_reducible repeat' (first | intro _ | exact le_P_slices_Clone_string_string .. | exact le_P_slices_Clone_api_Item_api_Item .. | apply OLe.obind | apply OLe.sel | apply OLe.way1 | apply OLe.loop | apply OLe.cond | apply OLe.pick | apply OLe.refl)

noncomputable def Q_images_Get (x : T22zx2 × Sb × Unit) : Option (T22zx1 × Bool × Unit) :=
  obind (RLoop (Q_images_Get_L0 x) ((false, ((0 : Int), ())), ((([] : List (UInt8)), (([] : List Sb), (([] : List (UInt8)), (([] : List (UInt8)), (([] : List T22zx0), ()))))), ()))) (fun (y1 : Nat × T22zx7 × T22zx1 × Unit) => sel (eqN y1.1 (0 : Nat))
  (some ((([] : List (UInt8)), (([] : List Sb), (([] : List (UInt8)), (([] : List (UInt8)), (([] : List T22zx0), ()))))), (false, ())))
  (some (y1.2.2.1, (y1.2.1.1, ()))))
theorem le_P_images_Get : ∀ x, OLe (Q_images_Get x) (P_images_Get x) := by
  unfold Q_images_Get P_images_Get
  with_reducible repeat' (first | intro _ | exact le_P_images_Get_L0 .. | apply OLe.obind | apply OLe.sel | apply OLe.way1 | apply OLe.loop | apply OLe.cond | apply OLe.pick | apply OLe.refl)

noncomputable def Q_law22_awake (x : Unit) : Option (Bool × Unit) :=
  obind (Q_images_Create ((([] : List T22zx5), (([] : List T22zx1), (([] : List T22zx6), (([] : List Sb), (([] : List (Sb × Int × Unit)), ()))))), (([] : List (UInt8)), (([([(119 : UInt8), (101 : UInt8), (98 : UInt8)] : List (UInt8))] : List Sb), (([(109 : UInt8)] : List (UInt8)), ((7 : Int), ())))))) (fun (y1 : T22zx2 × T22zx17 × Unit) => obind (Q_images_Create (y1.1, (([(120 : UInt8)] : List (UInt8)), (([] : List Sb), (([] : List (UInt8)), ((7 : Int), ())))))) (fun (y2 : T22zx2 × T22zx17 × Unit) => obind (Q_images_Delete ((([(([(48 : UInt8), (48 : UInt8), (48 : UInt8), (48 : UInt8), (48 : UInt8), (49 : UInt8)] : List (UInt8)), (([] : List Sb), (([(48 : UInt8), (48 : UInt8), (48 : UInt8), (48 : UInt8), (48 : UInt8), (55 : UInt8)] : List (UInt8)), (([] : List (UInt8)), (([] : List (UInt8)), (([] : List T22zx0), ()))))))] : List T22zx5), y1.1.2), (([(119 : UInt8), (101 : UInt8), (98 : UInt8)] : List (UInt8)), ()))) (fun (y3 : T22zx2 × T22zx17 × Unit) => obind (Q_images_Delete (y1.1, (([(119 : UInt8), (101 : UInt8), (98 : UInt8)] : List (UInt8)), ()))) (fun (y4 : T22zx2 × T22zx17 × Unit) => obind (Q_images_PutItem (([] : List T22zx0), (([(107 : UInt8)] : List (UInt8)), (([(118 : UInt8)] : List (UInt8)), ())))) (fun (y5 : (List T22zx0) × Int × Unit) => obind (Q_images_GetItem (y5.1, (([(107 : UInt8)] : List (UInt8)), ()))) (fun (y6 : Sb × Int × Unit) => obind (Q_images_Get (y1.1, (([(48 : UInt8), (48 : UInt8), (48 : UInt8), (48 : UInt8), (48 : UInt8), (55 : UInt8)] : List (UInt8)), ()))) (fun (y7 : T22zx1 × Bool × Unit) => some (sel (sel (sel (sel (sel (sel (sel (sel (sel (an (eqI y1.2.1.1 (0 : Int)) (an (eqS y1.2.1.2.1 ([(48 : UInt8), (48 : UInt8), (48 : UInt8), (48 : UInt8), (48 : UInt8), (55 : UInt8)] : List (UInt8))) (an (eqI y1.2.1.2.2.1 (0 : Int)) (an (eqS y1.2.1.2.2.2.1 ([] : List (UInt8))) true))))
  (eqI y2.2.1.1 (3 : Int))
  false)
  (eqI y3.2.1.1 (7 : Int))
  false)
  (eqS y4.2.1.2.1 ([(48 : UInt8), (48 : UInt8), (48 : UInt8), (48 : UInt8), (48 : UInt8), (55 : UInt8)] : List (UInt8)))
  false)
  (eqI (@len T22zx1 y4.1.2.1) (0 : Int))
  false)
  (eqI y5.2.1 (0 : Int))
  false)
  (eqS y6.1 ([(118 : UInt8)] : List (UInt8)))
  false)
  (eqI y6.2.1 (0 : Int))
  false)
  y7.2.1
  false)
  (eqS y7.1.2.2.2.1 ([(109 : UInt8)] : List (UInt8)))
  false, ()))))))))
theorem le_P_law22_awake : ∀ x, OLe (Q_law22_awake x) (P_law22_awake x) := by
  unfold Q_law22_awake P_law22_awake
  with_reducible repeat' (first | intro _ | exact le_P_images_Create .. | exact le_P_images_Delete .. | exact le_P_images_PutItem .. | exact le_P_images_GetItem .. | exact le_P_images_Get .. | apply OLe.obind | apply OLe.sel | apply OLe.way1 | apply OLe.loop | apply OLe.cond | apply OLe.pick | apply OLe.refl)
end Go.Ge

/- What must come, whatever the arguments are: run by the kernel. -/
namespace Go.Ge
theorem awake22 : P_law22_awake () = some (true, ()) := le_P_law22_awake () _ (by kernel_rfl)
end Go.Ge

/- The law ImagesItems: an item that was put is got: in plain words. -/
namespace Go.Ge
set_option linter.unusedVariables false
set_option linter.unusedSimpArgs false

theorem fewItems_val (l : List It) : ∃ b, P_ref06_fewItems (l, ()) = some (b, ()) ∧ (b = true → l.length ≤ 8 ∧ ∀ x ∈ l, x.1.length ≤ 100 ∧ x.2.2.1.length ≤ 200) := by
  unfold P_ref06_fewItems
  rcases srchTo (f := P_ref06_fewItems_L0 (l, ())) l 8 (fun i => ((false, (i, ())), ())) (fun _ x => decide (100 < x.1.length) || decide (200 < x.2.2.1.length)) (fun i x => (1, ((false, ((i : Int), ())), ()))) (fun m => (0, ((false, ((m : Int), ())), ()))) (by omega) (fun i x hx hi hin ha => by
      unfold P_ref06_fewItems_L0
      dsimp only
      have l1 : ∀ {m : List UInt8}, ltI 100 (len m) = decide (100 < m.length) := fun {m} => by unfold ltI len; apply decide_eq_decide.2; omega
      have l2 : ∀ {m : List UInt8}, ltI 200 (len m) = decide (200 < m.length) := fun {m} => by unfold ltI len; apply decide_eq_decide.2; omega
      rw [ltI_len_true hi, sel_true, ltI_true (show (i : Int) < 8 by omega), sel_true, idx_some' hx, obind_some, obind_some, l1, l2, ha]
      cases decide (100 < x.1.length) <;> cases decide (200 < x.2.2.1.length) <;> rfl) (by
      unfold P_ref06_fewItems_L0
      dsimp only
      have : sel (ltI ((min 8 l.length : Nat) : Int) (len l)) (ltI ((min 8 l.length : Nat) : Int) 8) false = false := by
        by_cases h : l.length ≤ 8
        · rw [Nat.min_eq_right h, ltI_len_end, sel_false]
        · rw [Nat.min_eq_left (by omega), show ltI ((8 : Nat) : Int) 8 = false from rfl]
          cases ltI ((8 : Nat) : Int) (len l) <;> rfl
      rw [this, sel_false]) with ⟨i, x, hi, hx, hp, _, h⟩ | ⟨hn2, h⟩
  · rw [h]; exact ⟨false, rfl, fun h => (by cases h)⟩
  · rw [h]
    refine ⟨_, rfl, fun hb => ?_⟩
    dsimp only at hb
    have h8 : l.length ≤ 8 := by
      unfold leI len at hb
      simp at hb
      omega
    refine ⟨h8, fun x hx => ?_⟩
    obtain ⟨i, hi⟩ := mem_at.1 hx
    have := hn2 i x (by have := getElem?_lt hi; omega) hi
    simp at this
    omega

theorem few_at (l : List It) : ∃ b, P_ref06_Few (((0 : Int), ([], ([([], ([], ([], ([], (l, ())))))], ([], ())))), ()) = some (b, ()) ∧ (b = true → l.length ≤ 8 ∧ ∀ x ∈ l, x.1.length ≤ 100 ∧ x.2.2.1.length ≤ 200) := by
  obtain ⟨b, h1, h2⟩ := fewItems_val l
  refine ⟨b, ?_, h2⟩
  unfold P_ref06_Few
  have e0 : Loop (P_ref06_Few_L0 (((0 : Int), ([], ([([], ([], ([], ([], (l, ())))))], ([], ())))), ())) ((false, ((0 : Int), ())), ()) = some (0, ((false, ((0 : Int), ())), ())) := by rw [Loop_eq]; rfl
  have ef : P_ref06_few ([], ()) = some (true, ()) := by
    unfold P_ref06_few
    have : Loop (P_ref06_few_L0 ([], ())) ((false, ((0 : Int), ())), ()) = some (0, ((false, ((0 : Int), ())), ())) := by rw [Loop_eq]; rfl
    rw [this]; rfl
  have e2 : Loop (P_ref06_Few_L2 (((0 : Int), ([], ([([], ([], ([], ([], (l, ())))))], ([], ())))), ())) ((false, ((0 : Int), ())), ()) = some (0, ((false, ((0 : Int), ())), ())) := by rw [Loop_eq]; rfl
  have e1 : Loop (P_ref06_Few_L1 (((0 : Int), ([], ([([], ([], ([], ([], (l, ())))))], ([], ())))), ())) ((false, ((0 : Int), ())), ()) = some (if b = true then (0, ((false, ((1 : Int), ())), ())) else (1, ((false, ((0 : Int), ())), ()))) := by
    have s0 : P_ref06_Few_L1 (((0 : Int), ([], ([([], ([], ([], ([], (l, ())))))], ([], ())))), ()) ((false, ((0 : Int), ())), ()) = some (if b = true then .inl ((false, ((1 : Int), ())), ()) else .inr (1, ((false, ((0 : Int), ())), ()))) := by
      unfold P_ref06_Few_L1
      dsimp only
      rw [show ltI 0 (len [(([] : Tx), (([] : List Tx), (([] : Tx), (([] : Tx), (l, ())))))]) = true from rfl, sel_true, show ltI 0 40 = true from rfl, sel_true]
      rw [show idx [(([] : Tx), (([] : List Tx), (([] : Tx), (([] : Tx), (l, ())))))] (0 : Int) = some (([] : Tx), (([] : List Tx), (([] : Tx), (([] : Tx), (l, ()))))) from rfl, obind_some, ef, obind_some, obind_some, obind_some]
      dsimp only
      rw [h1, obind_some]
      cases b <;> rfl
    rw [Loop_eq, s0]
    cases b with
    | false => rfl
    | true =>
      show Loop _ _ = _
      rw [Loop_eq]; rfl
  rw [e0, obind_some]
  dsimp only
  rw [show eqN 0 0 = true from rfl, sel_true, e1, obind_some]
  cases b with
  | false => rfl
  | true =>
    rw [if_pos rfl]
    dsimp only
    rw [show eqN 0 0 = true from rfl, sel_true, e2, obind_some]
    rfl

/-- Keys in order. -/
def SortI (l : List It) : Prop := l.Pairwise fun x y => ltS x.1 y.1 = true
/-- Items that may be. -/
def okIt (x : It) : Prop := isNameB x.1 = true ∧ x.2.2.1.length ≤ 64 ∧ x.2.1 = dgst x.2.2.1
def OkI (l : List It) : Prop := l.length ≤ 4 ∧ SortI l ∧ ∀ x ∈ l, okIt x

theorem sortI_at {l : List It} : SortI l ↔ ∀ (i : Nat) (x y : It), l[i]? = some x → l[i + 1]? = some y → ltS x.1 y.1 = true := by
  constructor
  · intro h i x y hx hy
    unfold SortI at h
    rw [List.pairwise_iff_getElem] at h
    obtain ⟨hi, ex⟩ := List.getElem?_eq_some_iff.1 hx
    obtain ⟨hj, ey⟩ := List.getElem?_eq_some_iff.1 hy
    have := h i (i + 1) hi hj (by omega)
    rw [ex, ey] at this
    exact this
  · intro h
    have key : ∀ (d i : Nat) (x y : It), l[i]? = some x → l[i + d + 1]? = some y → ltS x.1 y.1 = true := by
      intro d
      induction d with
      | zero => intro i x y hx hy; exact h i x y hx hy
      | succ d ih =>
        intro i x y hx hy
        have hlt := getElem?_lt hy
        have hz : l[i + d + 1]? = some l[i + d + 1] := List.getElem?_eq_getElem (by omega)
        exact ltS_trans (ih i x _ hx hz) (h (i + d + 1) _ y hz (by rw [show i + d + 1 + 1 = i + (d + 1) + 1 by omega]; exact hy))
    unfold SortI
    rw [List.pairwise_iff_getElem]
    intro i j hi hj hij
    obtain ⟨d, rfl⟩ : ∃ d, j = i + d + 1 := ⟨j - i - 1, by omega⟩
    exact key d i _ _ (List.getElem?_eq_getElem hi) (List.getElem?_eq_getElem hj)

def prevBad (l : List It) (i : Nat) (x : It) : Bool := match i with | 0 => false | k + 1 => match l[k]? with | some y => !ltS y.1 x.1 | none => false
theorem prevBad_succ {l : List It} {k : Nat} {x y : It} (hy : l[k]? = some y) : prevBad l (k + 1) x = !ltS y.1 x.1 := by
  unfold prevBad
  simp only [hy]
def badI (l : List It) (i : Nat) (x : It) : Bool := !isNameB x.1 || (decide (64 < x.2.2.1.length) || (!decide (x.2.1 = dgst x.2.2.1) || prevBad l i x))

theorem items_val (l : List It) (hl : l.length ≤ 100000) (hs : ∀ x ∈ l, x.1.length ≤ 1000000 ∧ x.2.2.1.length ≤ 1000000) : ∃ b, P_ref06_Items (l, ()) = some (b, ()) ∧ (b = true ↔ OkI l) := by
  unfold P_ref06_Items
  rcases srch (f := P_ref06_Items_L0 (l, ())) l (fun i => ((false, (i, ())), ())) (fun i x => badI l i x) (fun i x => (1, ((false, ((i : Int), ())), ()))) (0, ((false, ((l.length : Int), ())), ())) (by omega) (fun i x hx hi ha => by
      have hx1 := hs x (List.mem_of_getElem? hx)
      have l1 : ltI 64 (len x.2.2.1) = decide (64 < x.2.2.1.length) := by unfold ltI len; apply decide_eq_decide.2; omega
      unfold P_ref06_Items_L0
      dsimp only
      rw [ltI_len_true hi, sel_true, idx_some' hx, obind_some, refIsName_val x.1 (by omega), obind_some, ha]
      cases hn : isNameB x.1 with
      | false => rw [show badI l i x = true by unfold badI; rw [hn]; rfl]; rfl
      | true =>
        rw [nt_true, sel_false, obind_some, l1]
        by_cases h64 : 64 < x.2.2.1.length
        · rw [show badI l i x = true by unfold badI; rw [hn, decide_eq_true h64]; rfl, decide_eq_true h64]; rfl
        · rw [decide_eq_false h64, sel_false, obind_some, obind_some, refOf_val x.2.2.1 (by omega), obind_some]
          dsimp only
          rw [eqS_iff]
          by_cases hd : x.2.1 = dgst x.2.2.1
          · have hb : badI l i x = prevBad l i x := by unfold badI; rw [hn, decide_eq_false h64, decide_eq_true hd]; rfl
            rw [hb, decide_eq_true hd, nt_true, sel_false]
            cases i with
            | zero => rfl
            | succ k =>
              have hy : l[k]? = some l[k] := List.getElem?_eq_getElem (by omega)
              rw [prevBad_succ hy, ltI_true (by omega), sel_true, isub_i64 (by omega) (by omega), show ((k + 1 : Nat) : Int) - 1 = (k : Int) by omega, idx_some' hy, obind_some, obind_some]
              cases ltS l[k].1 x.1 <;> rfl
          · rw [show badI l i x = true by unfold badI; rw [hn, decide_eq_false h64, decide_eq_false hd]; rfl, decide_eq_false hd]; rfl) (by
      unfold P_ref06_Items_L0
      dsimp only
      rw [ltI_len_end, sel_false]) with ⟨i, x, hx, hp, _, h⟩ | ⟨hn, h⟩
  · rw [h]
    refine ⟨false, rfl, ⟨fun h => (by cases h), fun ⟨_, h2, h3⟩ => ?_⟩⟩
    obtain ⟨o1, o2, o3⟩ := h3 x (List.mem_of_getElem? hx)
    have hb : badI l i x = prevBad l i x := by unfold badI; rw [o1, decide_eq_false (show ¬ 64 < x.2.2.1.length by omega), decide_eq_true o3]; rfl
    rw [hb] at hp
    cases i with
    | zero => cases hp
    | succ k =>
      have hi := getElem?_lt hx
      have hy : l[k]? = some l[k] := List.getElem?_eq_getElem (by omega)
      rw [prevBad_succ hy, sortI_at.1 h2 k _ _ hy hx] at hp
      cases hp
  · rw [h]
    refine ⟨_, rfl, ?_⟩
    dsimp only
    have e4 : leI (len l) 4 = decide (l.length ≤ 4) := by unfold leI len; apply decide_eq_decide.2; omega
    rw [e4, decide_eq_true_iff]
    refine ⟨fun h4 => ⟨h4, sortI_at.2 fun i x y hx hy => ?_, fun x hx => ?_⟩, fun h => h.1⟩
    · have := hn (i + 1) y hy
      unfold badI at this
      simp only [prevBad_succ hx, Bool.or_eq_false_iff] at this
      simpa using this.2.2.2
    · obtain ⟨i, hi⟩ := mem_at.1 hx
      have := hn i x hi
      unfold badI at this
      simp only [Bool.or_eq_false_iff] at this
      exact ⟨by simpa using this.1, by have := this.2.1; simp at this; omega, by simpa using this.2.2.1⟩
end Go.Ge

/- The law ImagesItems, joined: in plain words. -/
namespace Go.Ge
set_option linter.unusedVariables false
set_option linter.unusedSimpArgs false

theorem sort_uniq {l : List It} (h : SortI l) {x y : It} (hx : x ∈ l) (hy : y ∈ l) (e : x.1 = y.1) : x = y := by
  obtain ⟨i, hi⟩ := mem_at.1 hx
  obtain ⟨j, hj⟩ := mem_at.1 hy
  unfold SortI at h
  rw [List.pairwise_iff_getElem] at h
  obtain ⟨hil, ex⟩ := List.getElem?_eq_some_iff.1 hi
  obtain ⟨hjl, ey⟩ := List.getElem?_eq_some_iff.1 hj
  rcases Nat.lt_trichotomy i j with h1 | h1 | h1
  · have := h i j hil hjl h1
    rw [ex, ey, e, ltS_irrefl] at this; cases this
  · subst h1; rw [← ex, ← ey]
  · have := h j i hjl hil h1
    rw [ex, ey, e, ltS_irrefl] at this; cases this

theorem getF_mem {l : List It} (h : SortI l) {x : It} (hx : x ∈ l) : getF l x.1 = (x.2.2.1, 0) := by
  unfold getF
  cases hf : l.find? fun y => decide (y.1 = x.1) with
  | none =>
    rw [List.find?_eq_none] at hf
    have := hf x hx
    simp at this
  | some y =>
    have h1 := List.mem_of_find?_eq_some hf
    have h2 := List.find?_some hf
    rw [sort_uniq h h1 hx (by simpa using h2)]

theorem rmI_sub (l : List It) (p : Tx) : (rmI l p).Sublist l := by
  unfold rmI
  split
  · rename_i i _
    have : (l.take i ++ l.drop (i + 1)).Sublist (l.take i ++ l.drop i) := List.Sublist.append (List.Sublist.refl _) (by
      rw [← List.drop_drop]
      exact List.drop_sublist _ _)
    rwa [List.take_append_drop] at this
  · exact List.Sublist.refl _

theorem rmI_mem {l : List It} (h : SortI l) {p : Tx} {x : It} : x ∈ rmI l p ↔ x ∈ l ∧ x.1 ≠ p := by
  unfold rmI
  cases hk : keyI l p with
  | none =>
    unfold keyI at hk
    rw [List.findIdx?_eq_none_iff] at hk
    exact ⟨fun hx => ⟨hx, fun e => by have := hk x hx; simp [e] at this⟩, fun hx => hx.1⟩
  | some i =>
    unfold keyI at hk
    rw [List.findIdx?_eq_some_iff_getElem] at hk
    obtain ⟨hi, hp, _⟩ := hk
    have hp : l[i].1 = p := by simpa using hp
    dsimp only
    have hsplit : l = l.take i ++ l[i] :: l.drop (i + 1) := by rw [← List.drop_eq_getElem_cons hi, List.take_append_drop]
    have hs := h
    unfold SortI at hs
    rw [hsplit, List.pairwise_append, List.pairwise_cons] at hs
    rw [List.mem_append]
    constructor
    · rintro (hx | hx)
      · refine ⟨List.mem_of_mem_take hx, fun e => ?_⟩
        have := hs.2.2 x hx l[i] (List.mem_cons_self ..)
        rw [e, hp, ltS_irrefl] at this; cases this
      · refine ⟨List.mem_of_mem_drop hx, fun e => ?_⟩
        have := hs.2.1.1 x hx
        rw [e, hp, ltS_irrefl] at this; cases this
    · rintro ⟨hx, hne⟩
      rw [hsplit, List.mem_append, List.mem_cons] at hx
      rcases hx with hx | rfl | hx
      · exact .inl hx
      · exact absurd hp hne
      · exact .inr hx

theorem insI_mem {l : List It} {it x : It} : x ∈ insI l it ↔ x = it ∨ x ∈ l := by
  unfold insI
  have e := List.takeWhile_append_dropWhile (p := fun y : It => ltS y.1 it.1) (l := l)
  rw [List.mem_append, List.mem_append, List.mem_singleton]
  constructor
  · rintro ((hx | hx) | hx)
    · exact .inr (by rw [← e]; exact List.mem_append_left _ hx)
    · exact .inl hx
    · exact .inr (by rw [← e]; exact List.mem_append_right _ hx)
  · rintro (hx | hx)
    · exact .inl (.inr hx)
    · rw [← e, List.mem_append] at hx
      rcases hx with hx | hx
      · exact .inl (.inl hx)
      · exact .inr hx

theorem takeWhile_all {α : Type} {p : α → Bool} : ∀ {l : List α} {x : α}, x ∈ l.takeWhile p → p x = true := by
  intro l
  induction l with
  | nil => intro x hx; cases hx
  | cons a r ih =>
    intro x hx
    rw [List.takeWhile_cons] at hx
    cases ha : p a with
    | false => rw [ha] at hx; cases hx
    | true =>
      rw [ha] at hx
      rcases List.mem_cons.1 hx with rfl | hx
      · exact ha
      · exact ih hx

theorem dropWhile_ge {l : List It} (h : SortI l) {p : Tx} (hne : ∀ x ∈ l, x.1 ≠ p) : ∀ x ∈ l.dropWhile (fun y => ltS y.1 p), ltS p x.1 = true := by
  induction l with
  | nil => intro x hx; cases hx
  | cons a r ih =>
    unfold SortI at h
    rw [List.pairwise_cons] at h
    intro x hx
    rw [List.dropWhile_cons] at hx
    cases ha : ltS a.1 p with
    | true =>
      rw [ha] at hx
      exact ih h.2 (fun y hy => hne y (by simp [hy])) x hx
    | false =>
      rw [ha] at hx
      have hpa : ltS p a.1 = true := by
        rcases ltS_tri a.1 p with h1 | h1 | h1
        · rw [ha] at h1; cases h1
        · exact absurd h1 (hne a (by simp))
        · exact h1
      rcases List.mem_cons.1 hx with rfl | hx
      · exact hpa
      · exact ltS_trans hpa (h.1 x hx)

theorem insI_sort {l : List It} (h : SortI l) {it : It} (hne : ∀ x ∈ l, x.1 ≠ it.1) : SortI (insI l it) := by
  have e := List.takeWhile_append_dropWhile (p := fun y : It => ltS y.1 it.1) (l := l)
  have hd := dropWhile_ge h hne
  have hs := h
  unfold SortI at hs
  rw [← e, List.pairwise_append] at hs
  unfold SortI insI
  rw [List.append_assoc, List.pairwise_append]
  refine ⟨hs.1, ?_, fun x hx y hy => ?_⟩
  · rw [List.singleton_append, List.pairwise_cons]
    exact ⟨fun y hy => hd y hy, hs.2.1⟩
  · rw [List.singleton_append, List.mem_cons] at hy
    rcases hy with rfl | hy
    · exact takeWhile_all (p := fun z : It => ltS z.1 y.1) hx
    · exact hs.2.2 x hx y hy

theorem insI_len (l : List It) (it : It) : (insI l it).length = l.length + 1 := by
  unfold insI
  have := congrArg List.length (List.takeWhile_append_dropWhile (p := fun y : It => ltS y.1 it.1) (l := l))
  rw [List.length_append] at this
  rw [List.length_append, List.length_append, List.length_singleton]
  omega

theorem ifawake22 {c : Bool} {x : Option (Bool × Unit)} (h : c = false → x = some (true, ())) : sel c (obind (P_law22_awake ()) fun y => some (y.1, ())) x = some (true, ()) := by
  cases c with
  | true => rw [sel_true, awake22]; rfl
  | false => rw [sel_false]; exact h rfl

theorem imagesItems_val (l : List It) (p d : Tx) : P_law22_ImagesItems (l, (p, (d, ()))) = some (true, ()) := by
  obtain ⟨b, h1, h2⟩ := few_at l
  unfold P_law22_ImagesItems
  dsimp only
  rw [h1, obind_some]
  refine ifawake22 fun hc => ?_
  have l1 : ltI 100 (len p) = decide (100 < p.length) := by unfold ltI len; apply decide_eq_decide.2; omega
  have l2 : ltI 200 (len d) = decide (200 < d.length) := by unfold ltI len; apply decide_eq_decide.2; omega
  rw [l1, l2] at hc
  have hb : b = true ∧ p.length ≤ 100 ∧ d.length ≤ 200 := by
    by_cases q1 : 100 < p.length
    · rw [decide_eq_true q1] at hc
      cases b <;> cases hc
    · by_cases q2 : 200 < d.length
      · rw [decide_eq_true q2, decide_eq_false q1] at hc
        cases b <;> cases hc
      · rw [decide_eq_false q2, decide_eq_false q1] at hc
        cases b with
        | false => cases hc
        | true => exact ⟨rfl, by omega, by omega⟩
  obtain ⟨rfl, hp, hd⟩ := hb
  obtain ⟨h8, hsz⟩ := h2 rfl
  have hl : l.length ≤ 100000 := by omega
  have hput8 : (putF22 l p d).1.length ≤ 100 := by
    unfold putF22
    split
    · split
      · simp
      · dsimp only; rw [insI_len]; have := rmI_len l p; omega
    · simp
  rw [putItem_val l p d hl (by omega), obind_some, refPutItem_val l p d hl (by omega) (by omega), obind_some, getItem_val l p hl, obind_some, refGetItem_val l p hl, obind_some]
  dsimp only
  rw [sameItems_self _ (by omega), obind_some]
  dsimp only
  rw [eqI_true rfl, eqI_true rfl, eqS_true rfl]
  rw [show ∀ (A B : Option (Bool × Unit)), sel (sel (nt (sel (nt (sel (nt (nt true)) (nt true) true)) (nt true) true)) (nt true) true) A B = B from fun A B => rfl]
  obtain ⟨c, i1, i2⟩ := items_val l hl fun x hx => by have := hsz x hx; omega
  rw [i1, obind_some]
  dsimp only
  by_cases he : (putF22 l p d).2 = 0
  case neg =>
    rw [eqI_false he, nt_false, nt_true, sel_false, obind_some, sel_true, awake22]
    rfl
  rw [eqI_true he, nt_true, nt_false, sel_true, obind_some]
  refine ifawake22 fun hc => ?_
  have hok : OkI l := i2.1 (by cases c with | true => rfl | false => cases hc)
  -- what was put
  have hv : isNameB p = true ∧ d.length ≤ 64 ∧ ¬ (keyI l p = none ∧ 4 ≤ l.length) ∧ (putF22 l p d).1 = insI (rmI l p) (p, (dgst d, (d, ()))) := by
    unfold putF22 at he ⊢
    by_cases hv : isNameB p = true ∧ d.length ≤ 64
    · rw [if_pos hv] at he ⊢
      by_cases hf : keyI l p = none ∧ 4 ≤ l.length
      · rw [if_pos hf] at he; cases he
      · rw [if_neg hf]; exact ⟨hv.1, hv.2, hf, rfl⟩
    · rw [if_neg hv] at he; cases he
  obtain ⟨v1, v2, v3, v4⟩ := hv
  have hsort : SortI (rmI l p) := List.Pairwise.sublist (rmI_sub l p) hok.2.1
  have hne : ∀ x ∈ rmI l p, x.1 ≠ p := fun x hx => ((rmI_mem hok.2.1).1 hx).2
  have hs2 : SortI (putF22 l p d).1 := by rw [v4]; exact insI_sort hsort hne
  have hmem : ∀ x, x ∈ (putF22 l p d).1 ↔ x = (p, (dgst d, (d, ()))) ∨ (x ∈ l ∧ x.1 ≠ p) := fun x => by rw [v4, insI_mem, rmI_mem hok.2.1]
  have hok2 : OkI (putF22 l p d).1 := by
    refine ⟨?_, hs2, fun x hx => ?_⟩
    · rw [v4, insI_len]
      unfold rmI
      cases hk : keyI l p with
      | none =>
        dsimp only
        by_cases h4 : 4 ≤ l.length
        · exact absurd ⟨hk, h4⟩ v3
        · omega
      | some i =>
        have := keyI_lt hk
        dsimp only
        rw [List.length_append, List.length_take, List.length_drop]
        have := hok.1
        omega
    · rcases (hmem x).1 hx with rfl | ⟨hx, _⟩
      · exact ⟨v1, v2, rfl⟩
      · exact hok.2.2 x hx
  rw [getItem_val _ p (by omega), obind_some]
  have hget : getF (putF22 l p d).1 p = (d, 0) := getF_mem hs2 (x := (p, (dgst d, (d, ())))) ((hmem _).2 (.inl rfl))
  obtain ⟨c2, j1, j2⟩ := items_val (putF22 l p d).1 (by omega) fun x hx => by
    rcases (hmem x).1 hx with rfl | ⟨hx, _⟩
    · dsimp only; omega
    · have := hsz x hx; omega
  rcases srch (f := P_law22_ImagesItems_L0 (l, (p, (d, ()))) ((putF22 l p d).1, ((putF22 l p d).2, ()))) l (fun i => ((false, (i, ())), ())) (fun _ _ => false) (fun i _ => (1, ((false, ((i : Int), ())), ()))) (0, ((false, ((l.length : Int), ())), ())) (by omega) (fun i x hx hi hadd => by
      have hxm := List.mem_of_getElem? hx
      unfold P_law22_ImagesItems_L0
      dsimp only
      rw [ltI_len_true hi, sel_true, idx_some' hx, obind_some, getItem_val _ x.1 (by omega), obind_some, obind_some, obind_some, hadd, eqS_iff]
      by_cases e : x.1 = p
      · rw [decide_eq_true e, nt_true, sel_false, obind_some]; rfl
      · have hg : getF (putF22 l p d).1 x.1 = (x.2.2.1, 0) := getF_mem hs2 ((hmem x).2 (.inr ⟨hxm, e⟩))
        rw [hg, decide_eq_false e, nt_false, sel_true, obind_some]
        dsimp only
        rw [eqS_true rfl]; rfl) (by
      unfold P_law22_ImagesItems_L0
      dsimp only
      rw [ltI_len_end, sel_false]) with ⟨i, x, _, hp, _⟩ | ⟨hn, h⟩
  · cases hp
  · rw [h, obind_some, hget]
    dsimp only
    rw [show eqN 0 0 = true from rfl, sel_true, eqS_true rfl, show eqI 0 0 = true from rfl, j1, obind_some, awake22, obind_some, j2.2 hok2]
    rfl
end Go.Ge
