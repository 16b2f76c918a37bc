/- Plain laws of what the functions compute: part 1. -/
import Derived.Test.YtpipdmfkbnbchaaGreatDoorGeI
import Derived.Lib.Repeat
/- What some functions of the library compute, as plain programs. -/
namespace Go.Ge

end Go.Ge

/- What the functions of layer 02 compute, as plain programs (written by a program from what the ghost interpreter comes to). -/
namespace Go.Ge
set_option linter.unusedVariables false
set_option maxRecDepth 100000

noncomputable def P_sha_begin (x : Unit) : Option ((List (Int)) × Unit) :=
  some (([(1779033703 : Int), (3144134277 : Int), (1013904242 : Int), (2773480762 : Int), (1359893119 : Int), (2600822924 : Int), (528734635 : Int), (1541459225 : Int)] : List (Int)), ())

noncomputable def P_sha_round (x : Unit) : Option ((List (Int)) × Unit) :=
  some (([(1116352408 : Int), (1899447441 : Int), (3049323471 : Int), (3921009573 : Int), (961987163 : Int), (1508970993 : Int), (2453635748 : Int), (2870763221 : Int), (3624381080 : Int), (310598401 : Int), (607225278 : Int), (1426881987 : Int), (1925078388 : Int), (2162078206 : Int), (2614888103 : Int), (3248222580 : Int), (3835390401 : Int), (4022224774 : Int), (264347078 : Int), (604807628 : Int), (770255983 : Int), (1249150122 : Int), (1555081692 : Int), (1996064986 : Int), (2554220882 : Int), (2821834349 : Int), (2952996808 : Int), (3210313671 : Int), (3336571891 : Int), (3584528711 : Int), (113926993 : Int), (338241895 : Int), (666307205 : Int), (773529912 : Int), (1294757372 : Int), (1396182291 : Int), (1695183700 : Int), (1986661051 : Int), (2177026350 : Int), (2456956037 : Int), (2730485921 : Int), (2820302411 : Int), (3259730800 : Int), (3345764771 : Int), (3516065817 : Int), (3600352804 : Int), (4094571909 : Int), (275423344 : Int), (430227734 : Int), (506948616 : Int), (659060556 : Int), (883997877 : Int), (958139571 : Int), (1322822218 : Int), (1537002063 : Int), (1747873779 : Int), (1955562222 : Int), (2024104815 : Int), (2227730452 : Int), (2361852424 : Int), (2428436474 : Int), (2756734187 : Int), (3204031479 : Int), (3329325298 : Int)] : List (Int)), ())

noncomputable def P_math_bits_RotateLeft32 (x : Int × Int × Unit) : Option (Int × Unit) :=
  sel (ltI (iand IntKind.u64 (icv IntKind.u64 x.2.1) (31 : Int)) (0 : Int))
  (none : Option (Int × Unit))
  (sel (ltI (isub IntKind.u64 (32 : Int) (iand IntKind.u64 (icv IntKind.u64 x.2.1) (31 : Int))) (0 : Int))
  (none : Option (Int × Unit))
  (some (ior IntKind.u32 (ishl IntKind.u32 x.1 (iand IntKind.u64 (icv IntKind.u64 x.2.1) (31 : Int))) (ishr IntKind.u32 x.1 (isub IntKind.u64 (32 : Int) (iand IntKind.u64 (icv IntKind.u64 x.2.1) (31 : Int)))), ())))

noncomputable def P_sha_right (x : Int × Int × Unit) : Option (Int × Unit) :=
  obind (P_math_bits_RotateLeft32 (x.1, (isub IntKind.i64 (0 : Int) x.2.1, ()))) (fun (y1 : Int × Unit) => some (y1.1, ()))

noncomputable def P_sha_schedule_L1 (x : (List (Int)) × Unit) (y1 : (Int × Unit) × (List (Int)) × Unit) (y2 : (Int × Unit) × (List (Int)) × Unit) : Option (((Int × Unit) × (List (Int)) × Unit) ⊕ ((Int × Unit) × (List (Int)) × Unit)) :=
  @way1 ((Int × Unit) × (List (Int)) × Unit) (sel (ltI y2.1.1 (minus (iadd IntKind.i64 (imul IntKind.i64 (4 : Int) y1.1.1) (4 : Int)) (imul IntKind.i64 (4 : Int) y1.1.1)))
  (sel (within y2.1.1 (minus (iadd IntKind.i64 (imul IntKind.i64 (4 : Int) y1.1.1) (4 : Int)) (imul IntKind.i64 (4 : Int) y1.1.1)))
  (obind (@idx Int x.1 (plus (imul IntKind.i64 (4 : Int) y1.1.1) y2.1.1)) (fun (y3 : Int) => sel (within y1.1.1 (64 : Int))
  (obind (@idx Int y2.2.1 y1.1.1) (fun (y4 : Int) => sel (ltI (8 : Int) (0 : Int))
  (none : Option (((Int × Unit) × (List (Int)) × Unit) ⊕ (Nat × (Int × Unit) × (List (Int)) × Unit)))
  (sel (within y1.1.1 (64 : Int))
  (obind (@idx Int y2.2.1 y1.1.1) (fun (y5 : Int) => obind (@idx Int y2.2.1 y1.1.1) (fun (y6 : Int) => obind (@idx Int y2.2.1 y1.1.1) (fun (y7 : Int) => some (Sum.inl ((iadd IntKind.i64 y2.1.1 (1 : Int), ()), (@lset Int y2.2.1 y1.1.1 (ior IntKind.u32 (ishl IntKind.u32 y4 (8 : Int)) (icv IntKind.u32 y3)), ())) : (((Int × Unit) × (List (Int)) × Unit)) ⊕ ((Nat × (Int × Unit) × (List (Int)) × Unit)))))))
  (none : Option (((Int × Unit) × (List (Int)) × Unit) ⊕ (Nat × (Int × Unit) × (List (Int)) × Unit))))))
  (none : Option (((Int × Unit) × (List (Int)) × Unit) ⊕ (Nat × (Int × Unit) × (List (Int)) × Unit)))))
  (none : Option (((Int × Unit) × (List (Int)) × Unit) ⊕ (Nat × (Int × Unit) × (List (Int)) × Unit))))
  (some (Sum.inr ((0 : Nat), ((y2.1.1, ()), (y2.2.1, ()))) : (((Int × Unit) × (List (Int)) × Unit)) ⊕ ((Nat × (Int × Unit) × (List (Int)) × Unit)))))

noncomputable def P_sha_schedule_L0 (x : (List (Int)) × Unit) (y1 : (Int × Unit) × (List (Int)) × Unit) : Option (((Int × Unit) × (List (Int)) × Unit) ⊕ ((Int × Unit) × (List (Int)) × Unit)) :=
  @way1 ((Int × Unit) × (List (Int)) × Unit) (sel (ltI y1.1.1 (16 : Int))
  (sel (inside (imul IntKind.i64 (4 : Int) y1.1.1) (iadd IntKind.i64 (imul IntKind.i64 (4 : Int) y1.1.1) (4 : Int)) (64 : Int))
  (obind (Loop (P_sha_schedule_L1 x y1) (((0 : Int), ()), (y1.2.1, ()))) (fun (y2 : (Int × Unit) × (List (Int)) × Unit) => some (Sum.inl ((iadd IntKind.i64 y1.1.1 (1 : Int), ()), (y2.2.1, ())) : (((Int × Unit) × (List (Int)) × Unit)) ⊕ ((Nat × (Int × Unit) × (List (Int)) × Unit)))))
  (none : Option (((Int × Unit) × (List (Int)) × Unit) ⊕ (Nat × (Int × Unit) × (List (Int)) × Unit))))
  (some (Sum.inr ((0 : Nat), ((y1.1.1, ()), (y1.2.1, ()))) : (((Int × Unit) × (List (Int)) × Unit)) ⊕ ((Nat × (Int × Unit) × (List (Int)) × Unit)))))

noncomputable def P_sha_schedule_L2 (y2 : (Int × Unit) × (List (Int)) × Unit) : Option (((Int × Unit) × (List (Int)) × Unit) ⊕ ((Int × Unit) × (List (Int)) × Unit)) :=
  @way1 ((Int × Unit) × (List (Int)) × Unit) (sel (ltI y2.1.1 (64 : Int))
  (sel (within (isub IntKind.i64 y2.1.1 (2 : Int)) (64 : Int))
  (obind (@idx Int y2.2.1 (isub IntKind.i64 y2.1.1 (2 : Int))) (fun (y3 : Int) => sel (within (isub IntKind.i64 y2.1.1 (15 : Int)) (64 : Int))
  (obind (@idx Int y2.2.1 (isub IntKind.i64 y2.1.1 (15 : Int))) (fun (y4 : Int) => obind (P_sha_right (y4, ((7 : Int), ()))) (fun (y5 : Int × Unit) => obind (P_sha_right (y4, ((18 : Int), ()))) (fun (y6 : Int × Unit) => sel (ltI (3 : Int) (0 : Int))
  (none : Option (((Int × Unit) × (List (Int)) × Unit) ⊕ (Nat × (Int × Unit) × (List (Int)) × Unit)))
  (obind (P_sha_right (y3, ((17 : Int), ()))) (fun (y7 : Int × Unit) => obind (P_sha_right (y3, ((19 : Int), ()))) (fun (y8 : Int × Unit) => sel (ltI (10 : Int) (0 : Int))
  (none : Option (((Int × Unit) × (List (Int)) × Unit) ⊕ (Nat × (Int × Unit) × (List (Int)) × Unit)))
  (sel (within (isub IntKind.i64 y2.1.1 (7 : Int)) (64 : Int))
  (obind (@idx Int y2.2.1 (isub IntKind.i64 y2.1.1 (7 : Int))) (fun (y9 : Int) => sel (within (isub IntKind.i64 y2.1.1 (16 : Int)) (64 : Int))
  (obind (@idx Int y2.2.1 (isub IntKind.i64 y2.1.1 (16 : Int))) (fun (y10 : Int) => sel (within y2.1.1 (64 : Int))
  (obind (@idx Int y2.2.1 y2.1.1) (fun (y11 : Int) => obind (@idx Int y2.2.1 y2.1.1) (fun (y12 : Int) => obind (@idx Int y2.2.1 y2.1.1) (fun (y13 : Int) => some (Sum.inl ((iadd IntKind.i64 y2.1.1 (1 : Int), ()), (@lset Int y2.2.1 y2.1.1 (iadd IntKind.u32 (iadd IntKind.u32 (iadd IntKind.u32 (ixor IntKind.u32 (ixor IntKind.u32 y7.1 y8.1) (ishr IntKind.u32 y3 (10 : Int))) y9) (ixor IntKind.u32 (ixor IntKind.u32 y5.1 y6.1) (ishr IntKind.u32 y4 (3 : Int)))) y10), ())) : (((Int × Unit) × (List (Int)) × Unit)) ⊕ ((Nat × (Int × Unit) × (List (Int)) × Unit)))))))
  (none : Option (((Int × Unit) × (List (Int)) × Unit) ⊕ (Nat × (Int × Unit) × (List (Int)) × Unit)))))
  (none : Option (((Int × Unit) × (List (Int)) × Unit) ⊕ (Nat × (Int × Unit) × (List (Int)) × Unit)))))
  (none : Option (((Int × Unit) × (List (Int)) × Unit) ⊕ (Nat × (Int × Unit) × (List (Int)) × Unit)))))))))))
  (none : Option (((Int × Unit) × (List (Int)) × Unit) ⊕ (Nat × (Int × Unit) × (List (Int)) × Unit)))))
  (none : Option (((Int × Unit) × (List (Int)) × Unit) ⊕ (Nat × (Int × Unit) × (List (Int)) × Unit))))
  (some (Sum.inr ((0 : Nat), ((y2.1.1, ()), (y2.2.1, ()))) : (((Int × Unit) × (List (Int)) × Unit)) ⊕ ((Nat × (Int × Unit) × (List (Int)) × Unit)))))

noncomputable def P_sha_schedule (x : (List (Int)) × Unit) : Option ((List (Int)) × Unit) :=
  obind (Loop (P_sha_schedule_L0 x) (((0 : Int), ()), (([(0 : Int), (0 : Int), (0 : Int), (0 : Int), (0 : Int), (0 : Int), (0 : Int), (0 : Int), (0 : Int), (0 : Int), (0 : Int), (0 : Int), (0 : Int), (0 : Int), (0 : Int), (0 : Int), (0 : Int), (0 : Int), (0 : Int), (0 : Int), (0 : Int), (0 : Int), (0 : Int), (0 : Int), (0 : Int), (0 : Int), (0 : Int), (0 : Int), (0 : Int), (0 : Int), (0 : Int), (0 : Int), (0 : Int), (0 : Int), (0 : Int), (0 : Int), (0 : Int), (0 : Int), (0 : Int), (0 : Int), (0 : Int), (0 : Int), (0 : Int), (0 : Int), (0 : Int), (0 : Int), (0 : Int), (0 : Int), (0 : Int), (0 : Int), (0 : Int), (0 : Int), (0 : Int), (0 : Int), (0 : Int), (0 : Int), (0 : Int), (0 : Int), (0 : Int), (0 : Int), (0 : Int), (0 : Int), (0 : Int), (0 : Int)] : List (Int)), ()))) (fun (y1 : (Int × Unit) × (List (Int)) × Unit) => obind (Loop (P_sha_schedule_L2) (((16 : Int), ()), (y1.2.1, ()))) (fun (y2 : (Int × Unit) × (List (Int)) × Unit) => some (y2.2.1, ())))

noncomputable def P_sha_words_block_L0 (y2 : (List (Int)) × Unit) (y3 : (List (Int)) × Unit) (y12 : (Int × Int × Int × Int × Int × Int × Int × Int × Int × Unit) × Unit) : Option (((Int × Int × Int × Int × Int × Int × Int × Int × Int × Unit) × Unit) ⊕ ((Int × Int × Int × Int × Int × Int × Int × Int × Int × Unit) × Unit)) :=
  @way1 ((Int × Int × Int × Int × Int × Int × Int × Int × Int × Unit) × Unit) (sel (ltI y12.1.2.2.2.2.2.2.2.2.1 (64 : Int))
  (obind (P_sha_right (y12.1.2.2.2.2.1, ((6 : Int), ()))) (fun (y13 : Int × Unit) => obind (P_sha_right (y12.1.2.2.2.2.1, ((11 : Int), ()))) (fun (y14 : Int × Unit) => obind (P_sha_right (y12.1.2.2.2.2.1, ((25 : Int), ()))) (fun (y15 : Int × Unit) => sel (within y12.1.2.2.2.2.2.2.2.2.1 (64 : Int))
  (obind (@idx Int y2.1 y12.1.2.2.2.2.2.2.2.2.1) (fun (y16 : Int) => sel (within y12.1.2.2.2.2.2.2.2.2.1 (64 : Int))
  (obind (@idx Int y3.1 y12.1.2.2.2.2.2.2.2.2.1) (fun (y17 : Int) => obind (P_sha_right (y12.1.1, ((2 : Int), ()))) (fun (y18 : Int × Unit) => obind (P_sha_right (y12.1.1, ((13 : Int), ()))) (fun (y19 : Int × Unit) => obind (P_sha_right (y12.1.1, ((22 : Int), ()))) (fun (y20 : Int × Unit) => some (Sum.inl ((iadd IntKind.u32 (iadd IntKind.u32 (iadd IntKind.u32 (iadd IntKind.u32 (iadd IntKind.u32 y12.1.2.2.2.2.2.2.2.1 (ixor IntKind.u32 (ixor IntKind.u32 y13.1 y14.1) y15.1)) (ixor IntKind.u32 y12.1.2.2.2.2.2.2.1 (iand IntKind.u32 y12.1.2.2.2.2.1 (ixor IntKind.u32 y12.1.2.2.2.2.2.1 y12.1.2.2.2.2.2.2.1)))) y16) y17) (iadd IntKind.u32 (ixor IntKind.u32 (ixor IntKind.u32 y18.1 y19.1) y20.1) (ior IntKind.u32 (iand IntKind.u32 y12.1.1 y12.1.2.1) (iand IntKind.u32 y12.1.2.2.1 (ior IntKind.u32 y12.1.1 y12.1.2.1)))), (y12.1.1, (y12.1.2.1, (y12.1.2.2.1, (iadd IntKind.u32 y12.1.2.2.2.1 (iadd IntKind.u32 (iadd IntKind.u32 (iadd IntKind.u32 (iadd IntKind.u32 y12.1.2.2.2.2.2.2.2.1 (ixor IntKind.u32 (ixor IntKind.u32 y13.1 y14.1) y15.1)) (ixor IntKind.u32 y12.1.2.2.2.2.2.2.1 (iand IntKind.u32 y12.1.2.2.2.2.1 (ixor IntKind.u32 y12.1.2.2.2.2.2.1 y12.1.2.2.2.2.2.2.1)))) y16) y17), (y12.1.2.2.2.2.1, (y12.1.2.2.2.2.2.1, (y12.1.2.2.2.2.2.2.1, (iadd IntKind.i64 y12.1.2.2.2.2.2.2.2.2.1 (1 : Int), ()))))))))), ()) : (((Int × Int × Int × Int × Int × Int × Int × Int × Int × Unit) × Unit)) ⊕ ((Nat × (Int × Int × Int × Int × Int × Int × Int × Int × Int × Unit) × Unit))))))))
  (none : Option (((Int × Int × Int × Int × Int × Int × Int × Int × Int × Unit) × Unit) ⊕ (Nat × (Int × Int × Int × Int × Int × Int × Int × Int × Int × Unit) × Unit)))))
  (none : Option (((Int × Int × Int × Int × Int × Int × Int × Int × Int × Unit) × Unit) ⊕ (Nat × (Int × Int × Int × Int × Int × Int × Int × Int × Int × Unit) × Unit)))))))
  (some (Sum.inr ((0 : Nat), ((y12.1.1, (y12.1.2.1, (y12.1.2.2.1, (y12.1.2.2.2.1, (y12.1.2.2.2.2.1, (y12.1.2.2.2.2.2.1, (y12.1.2.2.2.2.2.2.1, (y12.1.2.2.2.2.2.2.2.1, (y12.1.2.2.2.2.2.2.2.2.1, ()))))))))), ())) : (((Int × Int × Int × Int × Int × Int × Int × Int × Int × Unit) × Unit)) ⊕ ((Nat × (Int × Int × Int × Int × Int × Int × Int × Int × Int × Unit) × Unit)))))

noncomputable def P_sha_words_block_L1 (y12 : (Int × Int × Int × Int × Int × Int × Int × Int × Int × Unit) × Unit) (y13 : (Int × Unit) × (Bool × (List (Int)) × Unit) × Unit) : Option (((Int × Unit) × (Bool × (List (Int)) × Unit) × Unit) ⊕ ((Int × Unit) × (Bool × (List (Int)) × Unit) × Unit)) :=
  @way1 ((Int × Unit) × (Bool × (List (Int)) × Unit) × Unit) (sel (ltI y13.1.1 (8 : Int))
  (obind (@idx Int ([y12.1.1, y12.1.2.1, y12.1.2.2.1, y12.1.2.2.2.1, y12.1.2.2.2.2.1, y12.1.2.2.2.2.2.1, y12.1.2.2.2.2.2.2.1, y12.1.2.2.2.2.2.2.2.1] : List (Int)) y13.1.1) (fun (y14 : Int) => sel (within y13.1.1 (8 : Int))
  (obind (@idx Int y13.2.1.2.1 y13.1.1) (fun (y15 : Int) => sel (within y13.1.1 (8 : Int))
  (obind (@idx Int y13.2.1.2.1 y13.1.1) (fun (y16 : Int) => obind (@idx Int y13.2.1.2.1 y13.1.1) (fun (y17 : Int) => obind (@idx Int y13.2.1.2.1 y13.1.1) (fun (y18 : Int) => some (Sum.inl ((iadd IntKind.i64 y13.1.1 (1 : Int), ()), ((y13.2.1.1, (@lset Int y13.2.1.2.1 y13.1.1 (iadd IntKind.u32 y15 y14), y13.2.1.2.2)), ())) : (((Int × Unit) × (Bool × (List (Int)) × Unit) × Unit)) ⊕ ((Nat × (Int × Unit) × (Bool × (List (Int)) × Unit) × Unit)))))))
  (none : Option (((Int × Unit) × (Bool × (List (Int)) × Unit) × Unit) ⊕ (Nat × (Int × Unit) × (Bool × (List (Int)) × Unit) × Unit)))))
  (none : Option (((Int × Unit) × (Bool × (List (Int)) × Unit) × Unit) ⊕ (Nat × (Int × Unit) × (Bool × (List (Int)) × Unit) × Unit)))))
  (some (Sum.inr ((0 : Nat), ((y13.1.1, ()), (y13.2.1, ()))) : (((Int × Unit) × (Bool × (List (Int)) × Unit) × Unit)) ⊕ ((Nat × (Int × Unit) × (Bool × (List (Int)) × Unit) × Unit)))))

noncomputable def P_sha_words_block (x : ((List (Int)) × Unit) × (Bool × (List (Int)) × Unit) × Unit) : Option (Unit × (Bool × (List (Int)) × Unit) × Unit) :=
  obind (sel (nt x.2.1.1)
  (obind (P_sha_begin ()) (fun (y1 : (List (Int)) × Unit) => some ((), ((true, (y1.1, x.2.1.2.2)), ()))))
  (some ((), (x.2.1, ())))) (fun (y1 : Unit × (Bool × (List (Int)) × Unit) × Unit) => obind (P_sha_round ()) (fun (y2 : (List (Int)) × Unit) => obind (P_sha_schedule (x.1.1, ())) (fun (y3 : (List (Int)) × Unit) => sel (within (0 : Int) (8 : Int))
  (obind (@idx Int y1.2.1.2.1 (0 : Int)) (fun (y4 : Int) => sel (within (1 : Int) (8 : Int))
  (obind (@idx Int y1.2.1.2.1 (1 : Int)) (fun (y5 : Int) => sel (within (2 : Int) (8 : Int))
  (obind (@idx Int y1.2.1.2.1 (2 : Int)) (fun (y6 : Int) => sel (within (3 : Int) (8 : Int))
  (obind (@idx Int y1.2.1.2.1 (3 : Int)) (fun (y7 : Int) => sel (within (4 : Int) (8 : Int))
  (obind (@idx Int y1.2.1.2.1 (4 : Int)) (fun (y8 : Int) => sel (within (5 : Int) (8 : Int))
  (obind (@idx Int y1.2.1.2.1 (5 : Int)) (fun (y9 : Int) => sel (within (6 : Int) (8 : Int))
  (obind (@idx Int y1.2.1.2.1 (6 : Int)) (fun (y10 : Int) => sel (within (7 : Int) (8 : Int))
  (obind (@idx Int y1.2.1.2.1 (7 : Int)) (fun (y11 : Int) => obind (Loop (P_sha_words_block_L0 y2 y3) ((y4, (y5, (y6, (y7, (y8, (y9, (y10, (y11, ((0 : Int), ()))))))))), ())) (fun (y12 : (Int × Int × Int × Int × Int × Int × Int × Int × Int × Unit) × Unit) => obind (Loop (P_sha_words_block_L1 y12) (((0 : Int), ()), (y1.2.1, ()))) (fun (y13 : (Int × Unit) × (Bool × (List (Int)) × Unit) × Unit) => some ((), (y13.2.1, ()))))))
  (none : Option (Unit × (Bool × (List (Int)) × Unit) × Unit))))
  (none : Option (Unit × (Bool × (List (Int)) × Unit) × Unit))))
  (none : Option (Unit × (Bool × (List (Int)) × Unit) × Unit))))
  (none : Option (Unit × (Bool × (List (Int)) × Unit) × Unit))))
  (none : Option (Unit × (Bool × (List (Int)) × Unit) × Unit))))
  (none : Option (Unit × (Bool × (List (Int)) × Unit) × Unit))))
  (none : Option (Unit × (Bool × (List (Int)) × Unit) × Unit))))
  (none : Option (Unit × (Bool × (List (Int)) × Unit) × Unit)))))

noncomputable def P_sha_Stream_Add_L1 (y3 : (List (Int)) × Unit) (y4 : (List (Int)) × Unit) (y13 : (Int × Int × Int × Int × Int × Int × Int × Int × Int × Unit) × Unit) : Option (((Int × Int × Int × Int × Int × Int × Int × Int × Int × Unit) × Unit) ⊕ ((Int × Int × Int × Int × Int × Int × Int × Int × Int × Unit) × Unit)) :=
  @way1 ((Int × Int × Int × Int × Int × Int × Int × Int × Int × Unit) × Unit) (sel (ltI y13.1.2.2.2.2.2.2.2.2.1 (64 : Int))
  (obind (P_sha_right (y13.1.2.2.2.2.1, ((6 : Int), ()))) (fun (y14 : Int × Unit) => obind (P_sha_right (y13.1.2.2.2.2.1, ((11 : Int), ()))) (fun (y15 : Int × Unit) => obind (P_sha_right (y13.1.2.2.2.2.1, ((25 : Int), ()))) (fun (y16 : Int × Unit) => sel (within y13.1.2.2.2.2.2.2.2.2.1 (64 : Int))
  (obind (@idx Int y3.1 y13.1.2.2.2.2.2.2.2.2.1) (fun (y17 : Int) => sel (within y13.1.2.2.2.2.2.2.2.2.1 (64 : Int))
  (obind (@idx Int y4.1 y13.1.2.2.2.2.2.2.2.2.1) (fun (y18 : Int) => obind (P_sha_right (y13.1.1, ((2 : Int), ()))) (fun (y19 : Int × Unit) => obind (P_sha_right (y13.1.1, ((13 : Int), ()))) (fun (y20 : Int × Unit) => obind (P_sha_right (y13.1.1, ((22 : Int), ()))) (fun (y21 : Int × Unit) => some (Sum.inl ((iadd IntKind.u32 (iadd IntKind.u32 (iadd IntKind.u32 (iadd IntKind.u32 (iadd IntKind.u32 y13.1.2.2.2.2.2.2.2.1 (ixor IntKind.u32 (ixor IntKind.u32 y14.1 y15.1) y16.1)) (ixor IntKind.u32 y13.1.2.2.2.2.2.2.1 (iand IntKind.u32 y13.1.2.2.2.2.1 (ixor IntKind.u32 y13.1.2.2.2.2.2.1 y13.1.2.2.2.2.2.2.1)))) y17) y18) (iadd IntKind.u32 (ixor IntKind.u32 (ixor IntKind.u32 y19.1 y20.1) y21.1) (ior IntKind.u32 (iand IntKind.u32 y13.1.1 y13.1.2.1) (iand IntKind.u32 y13.1.2.2.1 (ior IntKind.u32 y13.1.1 y13.1.2.1)))), (y13.1.1, (y13.1.2.1, (y13.1.2.2.1, (iadd IntKind.u32 y13.1.2.2.2.1 (iadd IntKind.u32 (iadd IntKind.u32 (iadd IntKind.u32 (iadd IntKind.u32 y13.1.2.2.2.2.2.2.2.1 (ixor IntKind.u32 (ixor IntKind.u32 y14.1 y15.1) y16.1)) (ixor IntKind.u32 y13.1.2.2.2.2.2.2.1 (iand IntKind.u32 y13.1.2.2.2.2.1 (ixor IntKind.u32 y13.1.2.2.2.2.2.1 y13.1.2.2.2.2.2.2.1)))) y17) y18), (y13.1.2.2.2.2.1, (y13.1.2.2.2.2.2.1, (y13.1.2.2.2.2.2.2.1, (iadd IntKind.i64 y13.1.2.2.2.2.2.2.2.2.1 (1 : Int), ()))))))))), ()) : (((Int × Int × Int × Int × Int × Int × Int × Int × Int × Unit) × Unit)) ⊕ ((Nat × (Int × Int × Int × Int × Int × Int × Int × Int × Int × Unit) × Unit))))))))
  (none : Option (((Int × Int × Int × Int × Int × Int × Int × Int × Int × Unit) × Unit) ⊕ (Nat × (Int × Int × Int × Int × Int × Int × Int × Int × Int × Unit) × Unit)))))
  (none : Option (((Int × Int × Int × Int × Int × Int × Int × Int × Int × Unit) × Unit) ⊕ (Nat × (Int × Int × Int × Int × Int × Int × Int × Int × Int × Unit) × Unit)))))))
  (some (Sum.inr ((0 : Nat), ((y13.1.1, (y13.1.2.1, (y13.1.2.2.1, (y13.1.2.2.2.1, (y13.1.2.2.2.2.1, (y13.1.2.2.2.2.2.1, (y13.1.2.2.2.2.2.2.1, (y13.1.2.2.2.2.2.2.2.1, (y13.1.2.2.2.2.2.2.2.2.1, ()))))))))), ())) : (((Int × Int × Int × Int × Int × Int × Int × Int × Int × Unit) × Unit)) ⊕ ((Nat × (Int × Int × Int × Int × Int × Int × Int × Int × Int × Unit) × Unit)))))

noncomputable def P_sha_Stream_Add_L2 (y13 : (Int × Int × Int × Int × Int × Int × Int × Int × Int × Unit) × Unit) (y14 : (Int × Unit) × ((Bool × (List (Int)) × Unit) × (List (Int)) × Int × Unit) × Unit) : Option (((Int × Unit) × ((Bool × (List (Int)) × Unit) × (List (Int)) × Int × Unit) × Unit) ⊕ ((Int × Unit) × ((Bool × (List (Int)) × Unit) × (List (Int)) × Int × Unit) × Unit)) :=
  @way1 ((Int × Unit) × ((Bool × (List (Int)) × Unit) × (List (Int)) × Int × Unit) × Unit) (sel (ltI y14.1.1 (8 : Int))
  (obind (@idx Int ([y13.1.1, y13.1.2.1, y13.1.2.2.1, y13.1.2.2.2.1, y13.1.2.2.2.2.1, y13.1.2.2.2.2.2.1, y13.1.2.2.2.2.2.2.1, y13.1.2.2.2.2.2.2.2.1] : List (Int)) y14.1.1) (fun (y15 : Int) => sel (within y14.1.1 (8 : Int))
  (obind (@idx Int y14.2.1.1.2.1 y14.1.1) (fun (y16 : Int) => sel (within y14.1.1 (8 : Int))
  (obind (@idx Int y14.2.1.1.2.1 y14.1.1) (fun (y17 : Int) => obind (@idx Int y14.2.1.1.2.1 y14.1.1) (fun (y18 : Int) => obind (@idx Int y14.2.1.1.2.1 y14.1.1) (fun (y19 : Int) => some (Sum.inl ((iadd IntKind.i64 y14.1.1 (1 : Int), ()), (((y14.2.1.1.1, (@lset Int y14.2.1.1.2.1 y14.1.1 (iadd IntKind.u32 y16 y15), y14.2.1.1.2.2)), y14.2.1.2), ())) : (((Int × Unit) × ((Bool × (List (Int)) × Unit) × (List (Int)) × Int × Unit) × Unit)) ⊕ ((Nat × (Int × Unit) × ((Bool × (List (Int)) × Unit) × (List (Int)) × Int × Unit) × Unit)))))))
  (none : Option (((Int × Unit) × ((Bool × (List (Int)) × Unit) × (List (Int)) × Int × Unit) × Unit) ⊕ (Nat × (Int × Unit) × ((Bool × (List (Int)) × Unit) × (List (Int)) × Int × Unit) × Unit)))))
  (none : Option (((Int × Unit) × ((Bool × (List (Int)) × Unit) × (List (Int)) × Int × Unit) × Unit) ⊕ (Nat × (Int × Unit) × ((Bool × (List (Int)) × Unit) × (List (Int)) × Int × Unit) × Unit)))))
  (some (Sum.inr ((0 : Nat), ((y14.1.1, ()), (y14.2.1, ()))) : (((Int × Unit) × ((Bool × (List (Int)) × Unit) × (List (Int)) × Int × Unit) × Unit)) ⊕ ((Nat × (Int × Unit) × ((Bool × (List (Int)) × Unit) × (List (Int)) × Int × Unit) × Unit)))))

noncomputable def P_sha_Stream_Add_L0 (y1 : ((List (UInt8)) × Unit) × ((Bool × (List (Int)) × Unit) × (List (Int)) × Int × Unit) × Unit) : Option ((((List (UInt8)) × Unit) × ((Bool × (List (Int)) × Unit) × (List (Int)) × Int × Unit) × Unit) ⊕ (((List (UInt8)) × Unit) × ((Bool × (List (Int)) × Unit) × (List (Int)) × Int × Unit) × Unit)) :=
  @way1 (((List (UInt8)) × Unit) × ((Bool × (List (Int)) × Unit) × (List (Int)) × Int × Unit) × Unit) (sel (nt (eqS y1.1.1 ([] : List (UInt8))))
  (sel (eqI (64 : Int) (0 : Int))
  (none : Option ((((List (UInt8)) × Unit) × ((Bool × (List (Int)) × Unit) × (List (Int)) × Int × Unit) × Unit) ⊕ (Nat × ((List (UInt8)) × Unit) × ((Bool × (List (Int)) × Unit) × (List (Int)) × Int × Unit) × Unit)))
  (sel (inside (irem y1.2.1.2.2.1 (64 : Int)) (64 : Int) (64 : Int))
  (sel (inside (@len Int (@ltake Int (bytesInts y1.1.1) (minus (64 : Int) (irem y1.2.1.2.2.1 (64 : Int))))) (@len UInt8 y1.1.1) (@len UInt8 y1.1.1))
  (obind (sel (eqI (iadd IntKind.i64 (irem y1.2.1.2.2.1 (64 : Int)) (@len Int (@ltake Int (bytesInts y1.1.1) (minus (64 : Int) (irem y1.2.1.2.2.1 (64 : Int)))))) (64 : Int))
  (obind (sel (nt y1.2.1.1.1)
  (obind (P_sha_begin ()) (fun (y2 : (List (Int)) × Unit) => some ((), (((true, (y2.1, y1.2.1.1.2.2)), (@over Int y1.2.1.2.1 (irem y1.2.1.2.2.1 (64 : Int)) (@ltake Int (bytesInts y1.1.1) (minus (64 : Int) (irem y1.2.1.2.2.1 (64 : Int)))), (iadd IntKind.i64 y1.2.1.2.2.1 (@len Int (@ltake Int (bytesInts y1.1.1) (minus (64 : Int) (irem y1.2.1.2.2.1 (64 : Int))))), y1.2.1.2.2.2))), ()))))
  (some ((), ((y1.2.1.1, (@over Int y1.2.1.2.1 (irem y1.2.1.2.2.1 (64 : Int)) (@ltake Int (bytesInts y1.1.1) (minus (64 : Int) (irem y1.2.1.2.2.1 (64 : Int)))), (iadd IntKind.i64 y1.2.1.2.2.1 (@len Int (@ltake Int (bytesInts y1.1.1) (minus (64 : Int) (irem y1.2.1.2.2.1 (64 : Int))))), y1.2.1.2.2.2))), ())))) (fun (y2 : Unit × ((Bool × (List (Int)) × Unit) × (List (Int)) × Int × Unit) × Unit) => obind (P_sha_round ()) (fun (y3 : (List (Int)) × Unit) => obind (P_sha_schedule (@over Int y1.2.1.2.1 (irem y1.2.1.2.2.1 (64 : Int)) (@ltake Int (bytesInts y1.1.1) (minus (64 : Int) (irem y1.2.1.2.2.1 (64 : Int)))), ())) (fun (y4 : (List (Int)) × Unit) => sel (within (0 : Int) (8 : Int))
  (obind (@idx Int y2.2.1.1.2.1 (0 : Int)) (fun (y5 : Int) => sel (within (1 : Int) (8 : Int))
  (obind (@idx Int y2.2.1.1.2.1 (1 : Int)) (fun (y6 : Int) => sel (within (2 : Int) (8 : Int))
  (obind (@idx Int y2.2.1.1.2.1 (2 : Int)) (fun (y7 : Int) => sel (within (3 : Int) (8 : Int))
  (obind (@idx Int y2.2.1.1.2.1 (3 : Int)) (fun (y8 : Int) => sel (within (4 : Int) (8 : Int))
  (obind (@idx Int y2.2.1.1.2.1 (4 : Int)) (fun (y9 : Int) => sel (within (5 : Int) (8 : Int))
  (obind (@idx Int y2.2.1.1.2.1 (5 : Int)) (fun (y10 : Int) => sel (within (6 : Int) (8 : Int))
  (obind (@idx Int y2.2.1.1.2.1 (6 : Int)) (fun (y11 : Int) => sel (within (7 : Int) (8 : Int))
  (obind (@idx Int y2.2.1.1.2.1 (7 : Int)) (fun (y12 : Int) => obind (Loop (P_sha_Stream_Add_L1 y3 y4) ((y5, (y6, (y7, (y8, (y9, (y10, (y11, (y12, ((0 : Int), ()))))))))), ())) (fun (y13 : (Int × Int × Int × Int × Int × Int × Int × Int × Int × Unit) × Unit) => obind (Loop (P_sha_Stream_Add_L2 y13) (((0 : Int), ()), (y2.2.1, ()))) (fun (y14 : (Int × Unit) × ((Bool × (List (Int)) × Unit) × (List (Int)) × Int × Unit) × Unit) => some ((), (y14.2.1, ()))))))
  (none : Option (Unit × ((Bool × (List (Int)) × Unit) × (List (Int)) × Int × Unit) × Unit))))
  (none : Option (Unit × ((Bool × (List (Int)) × Unit) × (List (Int)) × Int × Unit) × Unit))))
  (none : Option (Unit × ((Bool × (List (Int)) × Unit) × (List (Int)) × Int × Unit) × Unit))))
  (none : Option (Unit × ((Bool × (List (Int)) × Unit) × (List (Int)) × Int × Unit) × Unit))))
  (none : Option (Unit × ((Bool × (List (Int)) × Unit) × (List (Int)) × Int × Unit) × Unit))))
  (none : Option (Unit × ((Bool × (List (Int)) × Unit) × (List (Int)) × Int × Unit) × Unit))))
  (none : Option (Unit × ((Bool × (List (Int)) × Unit) × (List (Int)) × Int × Unit) × Unit))))
  (none : Option (Unit × ((Bool × (List (Int)) × Unit) × (List (Int)) × Int × Unit) × Unit))))))
  (some ((), ((y1.2.1.1, (@over Int y1.2.1.2.1 (irem y1.2.1.2.2.1 (64 : Int)) (@ltake Int (bytesInts y1.1.1) (minus (64 : Int) (irem y1.2.1.2.2.1 (64 : Int)))), (iadd IntKind.i64 y1.2.1.2.2.1 (@len Int (@ltake Int (bytesInts y1.1.1) (minus (64 : Int) (irem y1.2.1.2.2.1 (64 : Int))))), y1.2.1.2.2.2))), ())))) (fun (y2 : Unit × ((Bool × (List (Int)) × Unit) × (List (Int)) × Int × Unit) × Unit) => some (Sum.inl ((@sub UInt8 y1.1.1 (@len Int (@ltake Int (bytesInts y1.1.1) (minus (64 : Int) (irem y1.2.1.2.2.1 (64 : Int))))) (minus (@len UInt8 y1.1.1) (@len Int (@ltake Int (bytesInts y1.1.1) (minus (64 : Int) (irem y1.2.1.2.2.1 (64 : Int)))))), ()), (y2.2.1, ())) : ((((List (UInt8)) × Unit) × ((Bool × (List (Int)) × Unit) × (List (Int)) × Int × Unit) × Unit)) ⊕ ((Nat × ((List (UInt8)) × Unit) × ((Bool × (List (Int)) × Unit) × (List (Int)) × Int × Unit) × Unit)))))
  (none : Option ((((List (UInt8)) × Unit) × ((Bool × (List (Int)) × Unit) × (List (Int)) × Int × Unit) × Unit) ⊕ (Nat × ((List (UInt8)) × Unit) × ((Bool × (List (Int)) × Unit) × (List (Int)) × Int × Unit) × Unit))))
  (none : Option ((((List (UInt8)) × Unit) × ((Bool × (List (Int)) × Unit) × (List (Int)) × Int × Unit) × Unit) ⊕ (Nat × ((List (UInt8)) × Unit) × ((Bool × (List (Int)) × Unit) × (List (Int)) × Int × Unit) × Unit)))))
  (some (Sum.inr ((0 : Nat), ((y1.1.1, ()), (y1.2.1, ()))) : ((((List (UInt8)) × Unit) × ((Bool × (List (Int)) × Unit) × (List (Int)) × Int × Unit) × Unit)) ⊕ ((Nat × ((List (UInt8)) × Unit) × ((Bool × (List (Int)) × Unit) × (List (Int)) × Int × Unit) × Unit)))))

noncomputable def P_sha_Stream_Add (x : ((List (UInt8)) × Unit) × ((Bool × (List (Int)) × Unit) × (List (Int)) × Int × Unit) × Unit) : Option (Unit × ((Bool × (List (Int)) × Unit) × (List (Int)) × Int × Unit) × Unit) :=
  obind (Loop (P_sha_Stream_Add_L0) ((x.1.1, ()), (x.2.1, ()))) (fun (y1 : ((List (UInt8)) × Unit) × ((Bool × (List (Int)) × Unit) × (List (Int)) × Int × Unit) × Unit) => some ((), (y1.2.1, ())))

noncomputable def P_sha_Stream_Sum_L0 (y2 : Unit × ((Bool × (List (Int)) × Unit) × (List (Int)) × Int × Unit) × Unit) : Option ((Unit × ((Bool × (List (Int)) × Unit) × (List (Int)) × Int × Unit) × Unit) ⊕ (Unit × ((Bool × (List (Int)) × Unit) × (List (Int)) × Int × Unit) × Unit)) :=
  @way1 (Unit × ((Bool × (List (Int)) × Unit) × (List (Int)) × Int × Unit) × Unit) (sel (eqI (64 : Int) (0 : Int))
  (none : Option ((Unit × ((Bool × (List (Int)) × Unit) × (List (Int)) × Int × Unit) × Unit) ⊕ (Nat × Unit × ((Bool × (List (Int)) × Unit) × (List (Int)) × Int × Unit) × Unit)))
  (sel (nt (eqI (irem y2.2.1.2.2.1 (64 : Int)) (56 : Int)))
  (obind (P_sha_Stream_Add ((([(0 : UInt8)] : List (UInt8)), ()), (y2.2.1, ()))) (fun (y3 : Unit × ((Bool × (List (Int)) × Unit) × (List (Int)) × Int × Unit) × Unit) => some (Sum.inl ((), (y3.2.1, ())) : ((Unit × ((Bool × (List (Int)) × Unit) × (List (Int)) × Int × Unit) × Unit)) ⊕ ((Nat × Unit × ((Bool × (List (Int)) × Unit) × (List (Int)) × Int × Unit) × Unit)))))
  (some (Sum.inr ((0 : Nat), ((), (y2.2.1, ()))) : ((Unit × ((Bool × (List (Int)) × Unit) × (List (Int)) × Int × Unit) × Unit)) ⊕ ((Nat × Unit × ((Bool × (List (Int)) × Unit) × (List (Int)) × Int × Unit) × Unit))))))

noncomputable def P_sha_Stream_Sum_L1 (x : Unit × ((Bool × (List (Int)) × Unit) × (List (Int)) × Int × Unit) × Unit) (y3 : (Int × Unit) × (List (Int)) × Unit) : Option (((Int × Unit) × (List (Int)) × Unit) ⊕ ((Int × Unit) × (List (Int)) × Unit)) :=
  @way1 ((Int × Unit) × (List (Int)) × Unit) (sel (ltI y3.1.1 (8 : Int))
  (sel (ltI (imul IntKind.i64 (8 : Int) y3.1.1) (0 : Int))
  (none : Option (((Int × Unit) × (List (Int)) × Unit) ⊕ (Nat × (Int × Unit) × (List (Int)) × Unit)))
  (sel (within (isub IntKind.i64 (7 : Int) y3.1.1) (8 : Int))
  (obind (@idx Int y3.2.1 (isub IntKind.i64 (7 : Int) y3.1.1)) (fun (y4 : Int) => obind (@idx Int y3.2.1 (isub IntKind.i64 (7 : Int) y3.1.1)) (fun (y5 : Int) => obind (@idx Int y3.2.1 (isub IntKind.i64 (7 : Int) y3.1.1)) (fun (y6 : Int) => some (Sum.inl ((iadd IntKind.i64 y3.1.1 (1 : Int), ()), (@lset Int y3.2.1 (isub IntKind.i64 (7 : Int) y3.1.1) (icv IntKind.u8 (ishr IntKind.u64 (imul IntKind.u64 (icv IntKind.u64 (((((((), (x.2.1, ())).2).1).2).2).1)) (8 : Int)) (imul IntKind.i64 (8 : Int) y3.1.1))), ())) : (((Int × Unit) × (List (Int)) × Unit)) ⊕ ((Nat × (Int × Unit) × (List (Int)) × Unit)))))))
  (none : Option (((Int × Unit) × (List (Int)) × Unit) ⊕ (Nat × (Int × Unit) × (List (Int)) × Unit)))))
  (some (Sum.inr ((0 : Nat), ((y3.1.1, ()), (y3.2.1, ()))) : (((Int × Unit) × (List (Int)) × Unit)) ⊕ ((Nat × (Int × Unit) × (List (Int)) × Unit)))))

noncomputable def P_sha_Stream_Sum_L2 (y4 : Unit × ((Bool × (List (Int)) × Unit) × (List (Int)) × Int × Unit) × Unit) (y5 : (Int × Unit) × (List (Int)) × Unit) : Option (((Int × Unit) × (List (Int)) × Unit) ⊕ ((Int × Unit) × (List (Int)) × Unit)) :=
  @way1 ((Int × Unit) × (List (Int)) × Unit) (sel (ltI y5.1.1 (32 : Int))
  (sel (eqI (4 : Int) (0 : Int))
  (none : Option (((Int × Unit) × (List (Int)) × Unit) ⊕ (Nat × (Int × Unit) × (List (Int)) × Unit)))
  (sel (within (iquo IntKind.i64 y5.1.1 (4 : Int)) (8 : Int))
  (obind (@idx Int y4.2.1.1.2.1 (iquo IntKind.i64 y5.1.1 (4 : Int))) (fun (y6 : Int) => sel (eqI (4 : Int) (0 : Int))
  (none : Option (((Int × Unit) × (List (Int)) × Unit) ⊕ (Nat × (Int × Unit) × (List (Int)) × Unit)))
  (sel (ltI (isub IntKind.i64 (24 : Int) (imul IntKind.i64 (8 : Int) (irem y5.1.1 (4 : Int)))) (0 : Int))
  (none : Option (((Int × Unit) × (List (Int)) × Unit) ⊕ (Nat × (Int × Unit) × (List (Int)) × Unit)))
  (sel (within y5.1.1 (32 : Int))
  (obind (@idx Int y5.2.1 y5.1.1) (fun (y7 : Int) => obind (@idx Int y5.2.1 y5.1.1) (fun (y8 : Int) => obind (@idx Int y5.2.1 y5.1.1) (fun (y9 : Int) => some (Sum.inl ((iadd IntKind.i64 y5.1.1 (1 : Int), ()), (@lset Int y5.2.1 y5.1.1 (icv IntKind.u8 (ishr IntKind.u32 y6 (isub IntKind.i64 (24 : Int) (imul IntKind.i64 (8 : Int) (irem y5.1.1 (4 : Int)))))), ())) : (((Int × Unit) × (List (Int)) × Unit)) ⊕ ((Nat × (Int × Unit) × (List (Int)) × Unit)))))))
  (none : Option (((Int × Unit) × (List (Int)) × Unit) ⊕ (Nat × (Int × Unit) × (List (Int)) × Unit)))))))
  (none : Option (((Int × Unit) × (List (Int)) × Unit) ⊕ (Nat × (Int × Unit) × (List (Int)) × Unit)))))
  (some (Sum.inr ((0 : Nat), ((y5.1.1, ()), (y5.2.1, ()))) : (((Int × Unit) × (List (Int)) × Unit)) ⊕ ((Nat × (Int × Unit) × (List (Int)) × Unit)))))

noncomputable def P_sha_Stream_Sum (x : Unit × ((Bool × (List (Int)) × Unit) × (List (Int)) × Int × Unit) × Unit) : Option (((List (Int)) × Unit) × ((Bool × (List (Int)) × Unit) × (List (Int)) × Int × Unit) × Unit) :=
  obind (P_sha_Stream_Add ((intsBytes ([(128 : Int)] : List (Int)), ()), ((((), (x.2.1, ())).2).1, ()))) (fun (y1 : Unit × ((Bool × (List (Int)) × Unit) × (List (Int)) × Int × Unit) × Unit) => obind (Loop (P_sha_Stream_Sum_L0) ((), (y1.2.1, ()))) (fun (y2 : Unit × ((Bool × (List (Int)) × Unit) × (List (Int)) × Int × Unit) × Unit) => obind (Loop (P_sha_Stream_Sum_L1 x) (((0 : Int), ()), (([(0 : Int), (0 : Int), (0 : Int), (0 : Int), (0 : Int), (0 : Int), (0 : Int), (0 : Int)] : List (Int)), ()))) (fun (y3 : (Int × Unit) × (List (Int)) × Unit) => sel (inside (0 : Int) (8 : Int) (8 : Int))
  (obind (P_sha_Stream_Add ((intsBytes (@sub Int y3.2.1 (0 : Int) (minus (8 : Int) (0 : Int))), ()), (y2.2.1, ()))) (fun (y4 : Unit × ((Bool × (List (Int)) × Unit) × (List (Int)) × Int × Unit) × Unit) => obind (Loop (P_sha_Stream_Sum_L2 y4) (((0 : Int), ()), (([(0 : Int), (0 : Int), (0 : Int), (0 : Int), (0 : Int), (0 : Int), (0 : Int), (0 : Int), (0 : Int), (0 : Int), (0 : Int), (0 : Int), (0 : Int), (0 : Int), (0 : Int), (0 : Int), (0 : Int), (0 : Int), (0 : Int), (0 : Int), (0 : Int), (0 : Int), (0 : Int), (0 : Int), (0 : Int), (0 : Int), (0 : Int), (0 : Int), (0 : Int), (0 : Int), (0 : Int), (0 : Int)] : List (Int)), ()))) (fun (y5 : (Int × Unit) × (List (Int)) × Unit) => some ((y5.2.1, ()), (x.2.1, ())))))
  (none : Option (((List (Int)) × Unit) × ((Bool × (List (Int)) × Unit) × (List (Int)) × Int × Unit) × Unit)))))

noncomputable def P_sha_Sum (x : (List (UInt8)) × Unit) : Option ((List (Int)) × Unit) :=
  obind (P_sha_Stream_Add ((x.1, ()), (((false, (([(0 : Int), (0 : Int), (0 : Int), (0 : Int), (0 : Int), (0 : Int), (0 : Int), (0 : Int)] : List (Int)), ())), (([(0 : Int), (0 : Int), (0 : Int), (0 : Int), (0 : Int), (0 : Int), (0 : Int), (0 : Int), (0 : Int), (0 : Int), (0 : Int), (0 : Int), (0 : Int), (0 : Int), (0 : Int), (0 : Int), (0 : Int), (0 : Int), (0 : Int), (0 : Int), (0 : Int), (0 : Int), (0 : Int), (0 : Int), (0 : Int), (0 : Int), (0 : Int), (0 : Int), (0 : Int), (0 : Int), (0 : Int), (0 : Int), (0 : Int), (0 : Int), (0 : Int), (0 : Int), (0 : Int), (0 : Int), (0 : Int), (0 : Int), (0 : Int), (0 : Int), (0 : Int), (0 : Int), (0 : Int), (0 : Int), (0 : Int), (0 : Int), (0 : Int), (0 : Int), (0 : Int), (0 : Int), (0 : Int), (0 : Int), (0 : Int), (0 : Int), (0 : Int), (0 : Int), (0 : Int), (0 : Int), (0 : Int), (0 : Int), (0 : Int), (0 : Int)] : List (Int)), ((0 : Int), ()))), ()))) (fun (y1 : Unit × ((Bool × (List (Int)) × Unit) × (List (Int)) × Int × Unit) × Unit) => obind (P_sha_Stream_Sum ((), (y1.2.1, ()))) (fun (y2 : ((List (Int)) × Unit) × ((Bool × (List (Int)) × Unit) × (List (Int)) × Int × Unit) × Unit) => some (y2.1.1, ())))

noncomputable def P_ref02_begin (x : Unit) : Option ((List (Int)) × Unit) :=
  some (([(1779033703 : Int), (3144134277 : Int), (1013904242 : Int), (2773480762 : Int), (1359893119 : Int), (2600822924 : Int), (528734635 : Int), (1541459225 : Int)] : List (Int)), ())

noncomputable def P_ref02_whole_L0 (y1 : (Unit × Unit) × (List (Int)) × Unit) : Option (((Unit × Unit) × (List (Int)) × Unit) ⊕ ((Unit × Unit) × (List (Int)) × Unit)) :=
  @way1 ((Unit × Unit) × (List (Int)) × Unit) (sel (eqI (64 : Int) (0 : Int))
  (none : Option (((Unit × Unit) × (List (Int)) × Unit) ⊕ (Nat × (Unit × Unit) × (List (Int)) × Unit)))
  (sel (nt (eqI (irem (@len Int y1.2.1) (64 : Int)) (56 : Int)))
  (sel (fits (plus (@len Int y1.2.1) (@len Int ([(0 : Int)] : List (Int)))))
  (some (Sum.inl (((), ()), (@app Int y1.2.1 ([(0 : Int)] : List (Int)), ())) : (((Unit × Unit) × (List (Int)) × Unit)) ⊕ ((Nat × (Unit × Unit) × (List (Int)) × Unit))))
  (none : Option (((Unit × Unit) × (List (Int)) × Unit) ⊕ (Nat × (Unit × Unit) × (List (Int)) × Unit))))
  (some (Sum.inr ((0 : Nat), (((), ()), (y1.2.1, ()))) : (((Unit × Unit) × (List (Int)) × Unit)) ⊕ ((Nat × (Unit × Unit) × (List (Int)) × Unit))))))

noncomputable def P_ref02_whole_L1 (x : (List (UInt8)) × Unit) (y2 : (Unit × Int × Unit) × (List (Int)) × Unit) : Option (((Unit × Int × Unit) × (List (Int)) × Unit) ⊕ ((Unit × Int × Unit) × (List (Int)) × Unit)) :=
  @way1 ((Unit × Int × Unit) × (List (Int)) × Unit) (sel (leI (0 : Int) y2.1.2.1)
  (sel (ltI (imul IntKind.i64 (8 : Int) y2.1.2.1) (0 : Int))
  (none : Option (((Unit × Int × Unit) × (List (Int)) × Unit) ⊕ (Nat × (Unit × Int × Unit) × (List (Int)) × Unit)))
  (sel (fits (plus (@len Int y2.2.1) (@len Int ([icv IntKind.u8 (ishr IntKind.u64 (imul IntKind.u64 (icv IntKind.u64 (@len UInt8 x.1)) (8 : Int)) (imul IntKind.i64 (8 : Int) y2.1.2.1))] : List (Int)))))
  (some (Sum.inl (((), (isub IntKind.i64 y2.1.2.1 (1 : Int), ())), (@app Int y2.2.1 ([icv IntKind.u8 (ishr IntKind.u64 (imul IntKind.u64 (icv IntKind.u64 (@len UInt8 x.1)) (8 : Int)) (imul IntKind.i64 (8 : Int) y2.1.2.1))] : List (Int)), ())) : (((Unit × Int × Unit) × (List (Int)) × Unit)) ⊕ ((Nat × (Unit × Int × Unit) × (List (Int)) × Unit))))
  (none : Option (((Unit × Int × Unit) × (List (Int)) × Unit) ⊕ (Nat × (Unit × Int × Unit) × (List (Int)) × Unit)))))
  (some (Sum.inr ((0 : Nat), (((), (y2.1.2.1, ())), (y2.2.1, ()))) : (((Unit × Int × Unit) × (List (Int)) × Unit)) ⊕ ((Nat × (Unit × Int × Unit) × (List (Int)) × Unit)))))

noncomputable def P_ref02_whole (x : (List (UInt8)) × Unit) : Option ((List (UInt8)) × Unit) :=
  sel (fits (@len UInt8 x.1))
  (sel (fits (plus (@len Int (bytesInts x.1)) (@len Int ([(128 : Int)] : List (Int)))))
  (obind (Loop (P_ref02_whole_L0) (((), ()), (@app Int (bytesInts x.1) ([(128 : Int)] : List (Int)), ()))) (fun (y1 : (Unit × Unit) × (List (Int)) × Unit) => obind (Loop (P_ref02_whole_L1 x) (((), ((7 : Int), ())), (y1.2.1, ()))) (fun (y2 : (Unit × Int × Unit) × (List (Int)) × Unit) => some (intsBytes y2.2.1, ()))))
  (none : Option ((List (UInt8)) × Unit)))
  (none : Option ((List (UInt8)) × Unit))

noncomputable def P_ref02_turn (x : Int × Int × Unit) : Option (Int × Unit) :=
  sel (ltI x.2.1 (0 : Int))
  (none : Option (Int × Unit))
  (sel (ltI (isub IntKind.i64 (32 : Int) x.2.1) (0 : Int))
  (none : Option (Int × Unit))
  (some (ior IntKind.u32 (ishr IntKind.u32 x.1 x.2.1) (ishl IntKind.u32 x.1 (isub IntKind.i64 (32 : Int) x.2.1)), ())))

noncomputable def P_ref02_consts (x : Unit) : Option ((List (Int)) × Unit) :=
  some (([(1116352408 : Int), (1899447441 : Int), (3049323471 : Int), (3921009573 : Int), (961987163 : Int), (1508970993 : Int), (2453635748 : Int), (2870763221 : Int), (3624381080 : Int), (310598401 : Int), (607225278 : Int), (1426881987 : Int), (1925078388 : Int), (2162078206 : Int), (2614888103 : Int), (3248222580 : Int), (3835390401 : Int), (4022224774 : Int), (264347078 : Int), (604807628 : Int), (770255983 : Int), (1249150122 : Int), (1555081692 : Int), (1996064986 : Int), (2554220882 : Int), (2821834349 : Int), (2952996808 : Int), (3210313671 : Int), (3336571891 : Int), (3584528711 : Int), (113926993 : Int), (338241895 : Int), (666307205 : Int), (773529912 : Int), (1294757372 : Int), (1396182291 : Int), (1695183700 : Int), (1986661051 : Int), (2177026350 : Int), (2456956037 : Int), (2730485921 : Int), (2820302411 : Int), (3259730800 : Int), (3345764771 : Int), (3516065817 : Int), (3600352804 : Int), (4094571909 : Int), (275423344 : Int), (430227734 : Int), (506948616 : Int), (659060556 : Int), (883997877 : Int), (958139571 : Int), (1322822218 : Int), (1537002063 : Int), (1747873779 : Int), (1955562222 : Int), (2024104815 : Int), (2227730452 : Int), (2361852424 : Int), (2428436474 : Int), (2756734187 : Int), (3204031479 : Int), (3329325298 : Int)] : List (Int)), ())

noncomputable def P_ref02_block_L0 (x : (List (Int)) × (List (UInt8)) × Unit) (y1 : (Int × Unit) × (List (Int)) × Unit) : Option (((Int × Unit) × (List (Int)) × Unit) ⊕ ((Int × Unit) × (List (Int)) × Unit)) :=
  @way1 ((Int × Unit) × (List (Int)) × Unit) (sel (ltI y1.1.1 (16 : Int))
  (obind (@idx UInt8 x.2.1 (imul IntKind.i64 (4 : Int) y1.1.1)) (fun (y2 : UInt8) => sel (ltI (24 : Int) (0 : Int))
  (none : Option (((Int × Unit) × (List (Int)) × Unit) ⊕ (Nat × (Int × Unit) × (List (Int)) × Unit)))
  (obind (@idx UInt8 x.2.1 (iadd IntKind.i64 (imul IntKind.i64 (4 : Int) y1.1.1) (1 : Int))) (fun (y3 : UInt8) => sel (ltI (16 : Int) (0 : Int))
  (none : Option (((Int × Unit) × (List (Int)) × Unit) ⊕ (Nat × (Int × Unit) × (List (Int)) × Unit)))
  (obind (@idx UInt8 x.2.1 (iadd IntKind.i64 (imul IntKind.i64 (4 : Int) y1.1.1) (2 : Int))) (fun (y4 : UInt8) => sel (ltI (8 : Int) (0 : Int))
  (none : Option (((Int × Unit) × (List (Int)) × Unit) ⊕ (Nat × (Int × Unit) × (List (Int)) × Unit)))
  (obind (@idx UInt8 x.2.1 (iadd IntKind.i64 (imul IntKind.i64 (4 : Int) y1.1.1) (3 : Int))) (fun (y5 : UInt8) => sel (within y1.1.1 (64 : Int))
  (obind (@idx Int y1.2.1 y1.1.1) (fun (y6 : Int) => obind (@idx Int y1.2.1 y1.1.1) (fun (y7 : Int) => obind (@idx Int y1.2.1 y1.1.1) (fun (y8 : Int) => some (Sum.inl ((iadd IntKind.i64 y1.1.1 (1 : Int), ()), (@lset Int y1.2.1 y1.1.1 (ior IntKind.u32 (ior IntKind.u32 (ior IntKind.u32 (ishl IntKind.u32 (icv IntKind.u32 (u8 y2)) (24 : Int)) (ishl IntKind.u32 (icv IntKind.u32 (u8 y3)) (16 : Int))) (ishl IntKind.u32 (icv IntKind.u32 (u8 y4)) (8 : Int))) (icv IntKind.u32 (u8 y5))), ())) : (((Int × Unit) × (List (Int)) × Unit)) ⊕ ((Nat × (Int × Unit) × (List (Int)) × Unit)))))))
  (none : Option (((Int × Unit) × (List (Int)) × Unit) ⊕ (Nat × (Int × Unit) × (List (Int)) × Unit)))))))))))
  (some (Sum.inr ((0 : Nat), ((y1.1.1, ()), (y1.2.1, ()))) : (((Int × Unit) × (List (Int)) × Unit)) ⊕ ((Nat × (Int × Unit) × (List (Int)) × Unit)))))

noncomputable def P_ref02_block_L1 (y2 : (Int × Unit) × (List (Int)) × Unit) : Option (((Int × Unit) × (List (Int)) × Unit) ⊕ ((Int × Unit) × (List (Int)) × Unit)) :=
  @way1 ((Int × Unit) × (List (Int)) × Unit) (sel (ltI y2.1.1 (64 : Int))
  (sel (within (isub IntKind.i64 y2.1.1 (2 : Int)) (64 : Int))
  (obind (@idx Int y2.2.1 (isub IntKind.i64 y2.1.1 (2 : Int))) (fun (y3 : Int) => sel (within (isub IntKind.i64 y2.1.1 (15 : Int)) (64 : Int))
  (obind (@idx Int y2.2.1 (isub IntKind.i64 y2.1.1 (15 : Int))) (fun (y4 : Int) => obind (P_ref02_turn (y3, ((17 : Int), ()))) (fun (y5 : Int × Unit) => obind (P_ref02_turn (y3, ((19 : Int), ()))) (fun (y6 : Int × Unit) => sel (ltI (10 : Int) (0 : Int))
  (none : Option (((Int × Unit) × (List (Int)) × Unit) ⊕ (Nat × (Int × Unit) × (List (Int)) × Unit)))
  (sel (within (isub IntKind.i64 y2.1.1 (7 : Int)) (64 : Int))
  (obind (@idx Int y2.2.1 (isub IntKind.i64 y2.1.1 (7 : Int))) (fun (y7 : Int) => obind (P_ref02_turn (y4, ((7 : Int), ()))) (fun (y8 : Int × Unit) => obind (P_ref02_turn (y4, ((18 : Int), ()))) (fun (y9 : Int × Unit) => sel (ltI (3 : Int) (0 : Int))
  (none : Option (((Int × Unit) × (List (Int)) × Unit) ⊕ (Nat × (Int × Unit) × (List (Int)) × Unit)))
  (sel (within (isub IntKind.i64 y2.1.1 (16 : Int)) (64 : Int))
  (obind (@idx Int y2.2.1 (isub IntKind.i64 y2.1.1 (16 : Int))) (fun (y10 : Int) => sel (within y2.1.1 (64 : Int))
  (obind (@idx Int y2.2.1 y2.1.1) (fun (y11 : Int) => obind (@idx Int y2.2.1 y2.1.1) (fun (y12 : Int) => obind (@idx Int y2.2.1 y2.1.1) (fun (y13 : Int) => some (Sum.inl ((iadd IntKind.i64 y2.1.1 (1 : Int), ()), (@lset Int y2.2.1 y2.1.1 (iadd IntKind.u32 (iadd IntKind.u32 (iadd IntKind.u32 (ixor IntKind.u32 (ixor IntKind.u32 y5.1 y6.1) (ishr IntKind.u32 y3 (10 : Int))) y7) (ixor IntKind.u32 (ixor IntKind.u32 y8.1 y9.1) (ishr IntKind.u32 y4 (3 : Int)))) y10), ())) : (((Int × Unit) × (List (Int)) × Unit)) ⊕ ((Nat × (Int × Unit) × (List (Int)) × Unit)))))))
  (none : Option (((Int × Unit) × (List (Int)) × Unit) ⊕ (Nat × (Int × Unit) × (List (Int)) × Unit)))))
  (none : Option (((Int × Unit) × (List (Int)) × Unit) ⊕ (Nat × (Int × Unit) × (List (Int)) × Unit))))))))
  (none : Option (((Int × Unit) × (List (Int)) × Unit) ⊕ (Nat × (Int × Unit) × (List (Int)) × Unit))))))))
  (none : Option (((Int × Unit) × (List (Int)) × Unit) ⊕ (Nat × (Int × Unit) × (List (Int)) × Unit)))))
  (none : Option (((Int × Unit) × (List (Int)) × Unit) ⊕ (Nat × (Int × Unit) × (List (Int)) × Unit))))
  (some (Sum.inr ((0 : Nat), ((y2.1.1, ()), (y2.2.1, ()))) : (((Int × Unit) × (List (Int)) × Unit)) ⊕ ((Nat × (Int × Unit) × (List (Int)) × Unit)))))

noncomputable def P_ref02_block_L2 (y2 : (Int × Unit) × (List (Int)) × Unit) (y3 : (List (Int)) × Unit) (y4 : (Int × Unit) × (List (Int)) × Unit) : Option (((Int × Unit) × (List (Int)) × Unit) ⊕ ((Int × Unit) × (List (Int)) × Unit)) :=
  @way1 ((Int × Unit) × (List (Int)) × Unit) (sel (ltI y4.1.1 (64 : Int))
  (sel (within (4 : Int) (8 : Int))
  (obind (@idx Int y4.2.1 (4 : Int)) (fun (y5 : Int) => sel (within (0 : Int) (8 : Int))
  (obind (@idx Int y4.2.1 (0 : Int)) (fun (y6 : Int) => sel (within (7 : Int) (8 : Int))
  (obind (@idx Int y4.2.1 (7 : Int)) (fun (y7 : Int) => obind (P_ref02_turn (y5, ((6 : Int), ()))) (fun (y8 : Int × Unit) => obind (P_ref02_turn (y5, ((11 : Int), ()))) (fun (y9 : Int × Unit) => obind (P_ref02_turn (y5, ((25 : Int), ()))) (fun (y10 : Int × Unit) => sel (within (5 : Int) (8 : Int))
  (obind (@idx Int y4.2.1 (5 : Int)) (fun (y11 : Int) => sel (within (6 : Int) (8 : Int))
  (obind (@idx Int y4.2.1 (6 : Int)) (fun (y12 : Int) => sel (within y4.1.1 (64 : Int))
  (obind (@idx Int y3.1 y4.1.1) (fun (y13 : Int) => sel (within y4.1.1 (64 : Int))
  (obind (@idx Int y2.2.1 y4.1.1) (fun (y14 : Int) => obind (P_ref02_turn (y6, ((2 : Int), ()))) (fun (y15 : Int × Unit) => obind (P_ref02_turn (y6, ((13 : Int), ()))) (fun (y16 : Int × Unit) => obind (P_ref02_turn (y6, ((22 : Int), ()))) (fun (y17 : Int × Unit) => sel (within (1 : Int) (8 : Int))
  (obind (@idx Int y4.2.1 (1 : Int)) (fun (y18 : Int) => sel (within (2 : Int) (8 : Int))
  (obind (@idx Int y4.2.1 (2 : Int)) (fun (y19 : Int) => sel (within (1 : Int) (8 : Int))
  (obind (@idx Int y4.2.1 (1 : Int)) (fun (y20 : Int) => sel (within (2 : Int) (8 : Int))
  (obind (@idx Int y4.2.1 (2 : Int)) (fun (y21 : Int) => sel (within (0 : Int) (8 : Int))
  (obind (@idx Int y4.2.1 (0 : Int)) (fun (y22 : Int) => sel (within (1 : Int) (8 : Int))
  (obind (@idx Int y4.2.1 (1 : Int)) (fun (y23 : Int) => sel (within (2 : Int) (8 : Int))
  (obind (@idx Int y4.2.1 (2 : Int)) (fun (y24 : Int) => sel (within (3 : Int) (8 : Int))
  (obind (@idx Int y4.2.1 (3 : Int)) (fun (y25 : Int) => sel (within (4 : Int) (8 : Int))
  (obind (@idx Int y4.2.1 (4 : Int)) (fun (y26 : Int) => sel (within (5 : Int) (8 : Int))
  (obind (@idx Int y4.2.1 (5 : Int)) (fun (y27 : Int) => sel (within (6 : Int) (8 : Int))
  (obind (@idx Int y4.2.1 (6 : Int)) (fun (y28 : Int) => some (Sum.inl ((iadd IntKind.i64 y4.1.1 (1 : Int), ()), (([iadd IntKind.u32 (iadd IntKind.u32 (iadd IntKind.u32 (iadd IntKind.u32 (iadd IntKind.u32 y7 (ixor IntKind.u32 (ixor IntKind.u32 y8.1 y9.1) y10.1)) (ixor IntKind.u32 (iand IntKind.u32 y5 y11) (iand IntKind.u32 (ixor IntKind.u32 (4294967295 : Int) y5) y12))) y13) y14) (iadd IntKind.u32 (ixor IntKind.u32 (ixor IntKind.u32 y15.1 y16.1) y17.1) (ixor IntKind.u32 (ixor IntKind.u32 (iand IntKind.u32 y6 y18) (iand IntKind.u32 y6 y19)) (iand IntKind.u32 y20 y21))), y22, y23, y24, iadd IntKind.u32 y25 (iadd IntKind.u32 (iadd IntKind.u32 (iadd IntKind.u32 (iadd IntKind.u32 y7 (ixor IntKind.u32 (ixor IntKind.u32 y8.1 y9.1) y10.1)) (ixor IntKind.u32 (iand IntKind.u32 y5 y11) (iand IntKind.u32 (ixor IntKind.u32 (4294967295 : Int) y5) y12))) y13) y14), y26, y27, y28] : List (Int)), ())) : (((Int × Unit) × (List (Int)) × Unit)) ⊕ ((Nat × (Int × Unit) × (List (Int)) × Unit)))))
  (none : Option (((Int × Unit) × (List (Int)) × Unit) ⊕ (Nat × (Int × Unit) × (List (Int)) × Unit)))))
  (none : Option (((Int × Unit) × (List (Int)) × Unit) ⊕ (Nat × (Int × Unit) × (List (Int)) × Unit)))))
  (none : Option (((Int × Unit) × (List (Int)) × Unit) ⊕ (Nat × (Int × Unit) × (List (Int)) × Unit)))))
  (none : Option (((Int × Unit) × (List (Int)) × Unit) ⊕ (Nat × (Int × Unit) × (List (Int)) × Unit)))))
  (none : Option (((Int × Unit) × (List (Int)) × Unit) ⊕ (Nat × (Int × Unit) × (List (Int)) × Unit)))))
  (none : Option (((Int × Unit) × (List (Int)) × Unit) ⊕ (Nat × (Int × Unit) × (List (Int)) × Unit)))))
  (none : Option (((Int × Unit) × (List (Int)) × Unit) ⊕ (Nat × (Int × Unit) × (List (Int)) × Unit)))))
  (none : Option (((Int × Unit) × (List (Int)) × Unit) ⊕ (Nat × (Int × Unit) × (List (Int)) × Unit)))))
  (none : Option (((Int × Unit) × (List (Int)) × Unit) ⊕ (Nat × (Int × Unit) × (List (Int)) × Unit)))))
  (none : Option (((Int × Unit) × (List (Int)) × Unit) ⊕ (Nat × (Int × Unit) × (List (Int)) × Unit)))))
  (none : Option (((Int × Unit) × (List (Int)) × Unit) ⊕ (Nat × (Int × Unit) × (List (Int)) × Unit))))))))
  (none : Option (((Int × Unit) × (List (Int)) × Unit) ⊕ (Nat × (Int × Unit) × (List (Int)) × Unit)))))
  (none : Option (((Int × Unit) × (List (Int)) × Unit) ⊕ (Nat × (Int × Unit) × (List (Int)) × Unit)))))
  (none : Option (((Int × Unit) × (List (Int)) × Unit) ⊕ (Nat × (Int × Unit) × (List (Int)) × Unit)))))
  (none : Option (((Int × Unit) × (List (Int)) × Unit) ⊕ (Nat × (Int × Unit) × (List (Int)) × Unit))))))))
  (none : Option (((Int × Unit) × (List (Int)) × Unit) ⊕ (Nat × (Int × Unit) × (List (Int)) × Unit)))))
  (none : Option (((Int × Unit) × (List (Int)) × Unit) ⊕ (Nat × (Int × Unit) × (List (Int)) × Unit)))))
  (none : Option (((Int × Unit) × (List (Int)) × Unit) ⊕ (Nat × (Int × Unit) × (List (Int)) × Unit))))
  (some (Sum.inr ((0 : Nat), ((y4.1.1, ()), (y4.2.1, ()))) : (((Int × Unit) × (List (Int)) × Unit)) ⊕ ((Nat × (Int × Unit) × (List (Int)) × Unit)))))

noncomputable def P_ref02_block_L3 (x : (List (Int)) × (List (UInt8)) × Unit) (y5 : (Int × Unit) × (List (Int)) × Unit) : Option (((Int × Unit) × (List (Int)) × Unit) ⊕ ((Int × Unit) × (List (Int)) × Unit)) :=
  @way1 ((Int × Unit) × (List (Int)) × Unit) (sel (ltI y5.1.1 (8 : Int))
  (sel (within y5.1.1 (8 : Int))
  (obind (@idx Int y5.2.1 y5.1.1) (fun (y6 : Int) => sel (within y5.1.1 (8 : Int))
  (obind (@idx Int x.1 y5.1.1) (fun (y7 : Int) => sel (within y5.1.1 (8 : Int))
  (obind (@idx Int y5.2.1 y5.1.1) (fun (y8 : Int) => obind (@idx Int y5.2.1 y5.1.1) (fun (y9 : Int) => obind (@idx Int y5.2.1 y5.1.1) (fun (y10 : Int) => some (Sum.inl ((iadd IntKind.i64 y5.1.1 (1 : Int), ()), (@lset Int y5.2.1 y5.1.1 (iadd IntKind.u32 y6 y7), ())) : (((Int × Unit) × (List (Int)) × Unit)) ⊕ ((Nat × (Int × Unit) × (List (Int)) × Unit)))))))
  (none : Option (((Int × Unit) × (List (Int)) × Unit) ⊕ (Nat × (Int × Unit) × (List (Int)) × Unit)))))
  (none : Option (((Int × Unit) × (List (Int)) × Unit) ⊕ (Nat × (Int × Unit) × (List (Int)) × Unit)))))
  (none : Option (((Int × Unit) × (List (Int)) × Unit) ⊕ (Nat × (Int × Unit) × (List (Int)) × Unit))))
  (some (Sum.inr ((0 : Nat), ((y5.1.1, ()), (y5.2.1, ()))) : (((Int × Unit) × (List (Int)) × Unit)) ⊕ ((Nat × (Int × Unit) × (List (Int)) × Unit)))))

noncomputable def P_ref02_block (x : (List (Int)) × (List (UInt8)) × Unit) : Option ((List (Int)) × Unit) :=
  obind (Loop (P_ref02_block_L0 x) (((0 : Int), ()), (([(0 : Int), (0 : Int), (0 : Int), (0 : Int), (0 : Int), (0 : Int), (0 : Int), (0 : Int), (0 : Int), (0 : Int), (0 : Int), (0 : Int), (0 : Int), (0 : Int), (0 : Int), (0 : Int), (0 : Int), (0 : Int), (0 : Int), (0 : Int), (0 : Int), (0 : Int), (0 : Int), (0 : Int), (0 : Int), (0 : Int), (0 : Int), (0 : Int), (0 : Int), (0 : Int), (0 : Int), (0 : Int), (0 : Int), (0 : Int), (0 : Int), (0 : Int), (0 : Int), (0 : Int), (0 : Int), (0 : Int), (0 : Int), (0 : Int), (0 : Int), (0 : Int), (0 : Int), (0 : Int), (0 : Int), (0 : Int), (0 : Int), (0 : Int), (0 : Int), (0 : Int), (0 : Int), (0 : Int), (0 : Int), (0 : Int), (0 : Int), (0 : Int), (0 : Int), (0 : Int), (0 : Int), (0 : Int), (0 : Int), (0 : Int)] : List (Int)), ()))) (fun (y1 : (Int × Unit) × (List (Int)) × Unit) => obind (Loop (P_ref02_block_L1) (((16 : Int), ()), (y1.2.1, ()))) (fun (y2 : (Int × Unit) × (List (Int)) × Unit) => obind (P_ref02_consts ()) (fun (y3 : (List (Int)) × Unit) => obind (Loop (P_ref02_block_L2 y2 y3) (((0 : Int), ()), (x.1, ()))) (fun (y4 : (Int × Unit) × (List (Int)) × Unit) => obind (Loop (P_ref02_block_L3 x) (((0 : Int), ()), (y4.2.1, ()))) (fun (y5 : (Int × Unit) × (List (Int)) × Unit) => some (y5.2.1, ()))))))

noncomputable def P_ref02_Sum_L0 (y2 : (List (UInt8)) × Unit) (y3 : (Int × Unit) × (List (Int)) × Unit) : Option (((Int × Unit) × (List (Int)) × Unit) ⊕ ((Int × Unit) × (List (Int)) × Unit)) :=
  @way1 ((Int × Unit) × (List (Int)) × Unit) (sel (leI (iadd IntKind.i64 y3.1.1 (64 : Int)) (@len UInt8 y2.1))
  (sel (inside y3.1.1 (iadd IntKind.i64 y3.1.1 (64 : Int)) (@len UInt8 y2.1))
  (obind (P_ref02_block (y3.2.1, (@sub UInt8 y2.1 y3.1.1 (minus (iadd IntKind.i64 y3.1.1 (64 : Int)) y3.1.1), ()))) (fun (y4 : (List (Int)) × Unit) => some (Sum.inl ((iadd IntKind.i64 y3.1.1 (64 : Int), ()), (y4.1, ())) : (((Int × Unit) × (List (Int)) × Unit)) ⊕ ((Nat × (Int × Unit) × (List (Int)) × Unit)))))
  (none : Option (((Int × Unit) × (List (Int)) × Unit) ⊕ (Nat × (Int × Unit) × (List (Int)) × Unit))))
  (some (Sum.inr ((0 : Nat), ((y3.1.1, ()), (y3.2.1, ()))) : (((Int × Unit) × (List (Int)) × Unit)) ⊕ ((Nat × (Int × Unit) × (List (Int)) × Unit)))))

noncomputable def P_ref02_Sum_L1 (y3 : (Int × Unit) × (List (Int)) × Unit) (y4 : (Int × Unit) × (List (Int)) × Unit) : Option (((Int × Unit) × (List (Int)) × Unit) ⊕ ((Int × Unit) × (List (Int)) × Unit)) :=
  @way1 ((Int × Unit) × (List (Int)) × Unit) (sel (ltI y4.1.1 (32 : Int))
  (sel (eqI (4 : Int) (0 : Int))
  (none : Option (((Int × Unit) × (List (Int)) × Unit) ⊕ (Nat × (Int × Unit) × (List (Int)) × Unit)))
  (sel (within (iquo IntKind.i64 y4.1.1 (4 : Int)) (8 : Int))
  (obind (@idx Int y3.2.1 (iquo IntKind.i64 y4.1.1 (4 : Int))) (fun (y5 : Int) => sel (eqI (4 : Int) (0 : Int))
  (none : Option (((Int × Unit) × (List (Int)) × Unit) ⊕ (Nat × (Int × Unit) × (List (Int)) × Unit)))
  (sel (ltI (isub IntKind.i64 (24 : Int) (imul IntKind.i64 (8 : Int) (irem y4.1.1 (4 : Int)))) (0 : Int))
  (none : Option (((Int × Unit) × (List (Int)) × Unit) ⊕ (Nat × (Int × Unit) × (List (Int)) × Unit)))
  (sel (within y4.1.1 (32 : Int))
  (obind (@idx Int y4.2.1 y4.1.1) (fun (y6 : Int) => obind (@idx Int y4.2.1 y4.1.1) (fun (y7 : Int) => obind (@idx Int y4.2.1 y4.1.1) (fun (y8 : Int) => some (Sum.inl ((iadd IntKind.i64 y4.1.1 (1 : Int), ()), (@lset Int y4.2.1 y4.1.1 (icv IntKind.u8 (ishr IntKind.u32 y5 (isub IntKind.i64 (24 : Int) (imul IntKind.i64 (8 : Int) (irem y4.1.1 (4 : Int)))))), ())) : (((Int × Unit) × (List (Int)) × Unit)) ⊕ ((Nat × (Int × Unit) × (List (Int)) × Unit)))))))
  (none : Option (((Int × Unit) × (List (Int)) × Unit) ⊕ (Nat × (Int × Unit) × (List (Int)) × Unit)))))))
  (none : Option (((Int × Unit) × (List (Int)) × Unit) ⊕ (Nat × (Int × Unit) × (List (Int)) × Unit)))))
  (some (Sum.inr ((0 : Nat), ((y4.1.1, ()), (y4.2.1, ()))) : (((Int × Unit) × (List (Int)) × Unit)) ⊕ ((Nat × (Int × Unit) × (List (Int)) × Unit)))))

noncomputable def P_ref02_Sum (x : (List (UInt8)) × Unit) : Option ((List (Int)) × Unit) :=
  obind (P_ref02_begin ()) (fun (y1 : (List (Int)) × Unit) => obind (P_ref02_whole (x.1, ())) (fun (y2 : (List (UInt8)) × Unit) => obind (Loop (P_ref02_Sum_L0 y2) (((0 : Int), ()), (y1.1, ()))) (fun (y3 : (Int × Unit) × (List (Int)) × Unit) => obind (Loop (P_ref02_Sum_L1 y3) (((0 : Int), ()), (([(0 : Int), (0 : Int), (0 : Int), (0 : Int), (0 : Int), (0 : Int), (0 : Int), (0 : Int), (0 : Int), (0 : Int), (0 : Int), (0 : Int), (0 : Int), (0 : Int), (0 : Int), (0 : Int), (0 : Int), (0 : Int), (0 : Int), (0 : Int), (0 : Int), (0 : Int), (0 : Int), (0 : Int), (0 : Int), (0 : Int), (0 : Int), (0 : Int), (0 : Int), (0 : Int), (0 : Int), (0 : Int)] : List (Int)), ()))) (fun (y4 : (Int × Unit) × (List (Int)) × Unit) => some (y4.2.1, ())))))

end Go.Ge

/- What the functions of layer 03 compute, as plain programs (written by a program from what the ghost interpreter comes to). -/
namespace Go.Ge
set_option linter.unusedVariables false
set_option maxRecDepth 100000

noncomputable def P_digits_Hex_L0 (x : (List (UInt8)) × Unit) (y1 : (Int × Unit) × (Unit × Unit × Unit) × (List (Int)) × Unit) : Option (((Int × Unit) × (Unit × Unit × Unit) × (List (Int)) × Unit) ⊕ ((Int × Unit) × (Unit × Unit × Unit) × (List (Int)) × Unit)) :=
  @way1 ((Int × Unit) × (Unit × Unit × Unit) × (List (Int)) × Unit) (sel (ltI y1.1.1 (@len Int (bytesInts x.1)))
  (sel (within y1.1.1 (@len Int (bytesInts x.1)))
  (obind (@idx Int (bytesInts x.1) y1.1.1) (fun (y2 : Int) => sel (ltI (4 : Int) (0 : Int))
  (none : Option (((Int × Unit) × (Unit × Unit × Unit) × (List (Int)) × Unit) ⊕ (Nat × (Int × Unit) × (Unit × Unit × Unit) × (List (Int)) × Unit)))
  (obind (@idx UInt8 ([(48 : UInt8), (49 : UInt8), (50 : UInt8), (51 : UInt8), (52 : UInt8), (53 : UInt8), (54 : UInt8), (55 : UInt8), (56 : UInt8), (57 : UInt8), (97 : UInt8), (98 : UInt8), (99 : UInt8), (100 : UInt8), (101 : UInt8), (102 : UInt8)] : List (UInt8)) (ishr IntKind.u8 y2 (4 : Int))) (fun (y3 : UInt8) => sel (fits (plus (@len Int y1.2.2.1) (@len Int ([u8 y3] : List (Int)))))
  (obind (@idx UInt8 ([(48 : UInt8), (49 : UInt8), (50 : UInt8), (51 : UInt8), (52 : UInt8), (53 : UInt8), (54 : UInt8), (55 : UInt8), (56 : UInt8), (57 : UInt8), (97 : UInt8), (98 : UInt8), (99 : UInt8), (100 : UInt8), (101 : UInt8), (102 : UInt8)] : List (UInt8)) (iand IntKind.u8 y2 (15 : Int))) (fun (y4 : UInt8) => sel (fits (plus (@len Int (@app Int y1.2.2.1 ([u8 y3] : List (Int)))) (@len Int ([u8 y4] : List (Int)))))
  (some (Sum.inl ((iadd IntKind.i64 y1.1.1 (1 : Int), ()), (((), ((), y1.2.1.2.2)), (@app Int (@app Int y1.2.2.1 ([u8 y3] : List (Int))) ([u8 y4] : List (Int)), ()))) : (((Int × Unit) × (Unit × Unit × Unit) × (List (Int)) × Unit)) ⊕ ((Nat × (Int × Unit) × (Unit × Unit × Unit) × (List (Int)) × Unit))))
  (none : Option (((Int × Unit) × (Unit × Unit × Unit) × (List (Int)) × Unit) ⊕ (Nat × (Int × Unit) × (Unit × Unit × Unit) × (List (Int)) × Unit)))))
  (none : Option (((Int × Unit) × (Unit × Unit × Unit) × (List (Int)) × Unit) ⊕ (Nat × (Int × Unit) × (Unit × Unit × Unit) × (List (Int)) × Unit)))))))
  (none : Option (((Int × Unit) × (Unit × Unit × Unit) × (List (Int)) × Unit) ⊕ (Nat × (Int × Unit) × (Unit × Unit × Unit) × (List (Int)) × Unit))))
  (some (Sum.inr ((0 : Nat), ((y1.1.1, ()), (((), ((), y1.2.1.2.2)), (y1.2.2.1, ())))) : (((Int × Unit) × (Unit × Unit × Unit) × (List (Int)) × Unit)) ⊕ ((Nat × (Int × Unit) × (Unit × Unit × Unit) × (List (Int)) × Unit)))))

noncomputable def P_digits_Hex (x : (List (UInt8)) × Unit) : Option ((List (UInt8)) × Unit) :=
  sel (fits (@len UInt8 x.1))
  (obind (Loop (P_digits_Hex_L0 x) (((0 : Int), ()), (((), ((), ())), (([] : List (Int)), ())))) (fun (y1 : (Int × Unit) × (Unit × Unit × Unit) × (List (Int)) × Unit) => some (intsBytes y1.2.2.1, ())))
  (none : Option ((List (UInt8)) × Unit))

noncomputable def P_digest_Of (x : (List (UInt8)) × Unit) : Option ((List (UInt8)) × Unit) :=
  obind (P_sha_Sum (x.1, ())) (fun (y1 : (List (Int)) × Unit) => sel (inside (0 : Int) (32 : Int) (32 : Int))
  (obind (P_digits_Hex (intsBytes (@sub Int y1.1 (0 : Int) (minus (32 : Int) (0 : Int))), ())) (fun (y2 : (List (UInt8)) × Unit) => sel (fits (plus (@len UInt8 ([(115 : UInt8), (104 : UInt8), (97 : UInt8), (50 : UInt8), (53 : UInt8), (54 : UInt8), (58 : UInt8)] : List (UInt8))) (@len UInt8 y2.1)))
  (some (@app UInt8 ([(115 : UInt8), (104 : UInt8), (97 : UInt8), (50 : UInt8), (53 : UInt8), (54 : UInt8), (58 : UInt8)] : List (UInt8)) y2.1, ()))
  (none : Option ((List (UInt8)) × Unit))))
  (none : Option ((List (UInt8)) × Unit)))

noncomputable def P_internal_stringslite_HasPrefix (x : (List (UInt8)) × (List (UInt8)) × Unit) : Option (Bool × Unit) :=
  obind (sel (leI (@len UInt8 x.2.1) (@len UInt8 x.1))
  (sel (inside (0 : Int) (@len UInt8 x.2.1) (@len UInt8 x.1))
  (some (eqS (@sub UInt8 x.1 (0 : Int) (minus (@len UInt8 x.2.1) (0 : Int))) x.2.1))
  (none : Option (Bool)))
  (some false)) (fun (y1 : Bool) => some (y1, ()))

noncomputable def P_ref01_digit (x : Int × Unit) : Option (Int × Unit) :=
  sel (ltI x.1 (10 : Int))
  (some (icv IntKind.u8 (iadd IntKind.i64 (48 : Int) x.1), ()))
  (some (icv IntKind.u8 (isub IntKind.i64 (iadd IntKind.i64 (97 : Int) x.1) (10 : Int)), ()))

noncomputable def P_ref01_Hex_L0 (x : (List (UInt8)) × Unit) (y1 : (Unit × Int × Unit) × (List (Int)) × Unit) : Option (((Unit × Int × Unit) × (List (Int)) × Unit) ⊕ ((Unit × Int × Unit) × (List (Int)) × Unit)) :=
  @way1 ((Unit × Int × Unit) × (List (Int)) × Unit) (sel (ltI y1.1.2.1 (@len UInt8 x.1))
  (obind (@idx UInt8 x.1 y1.1.2.1) (fun (y2 : UInt8) => sel (eqI (16 : Int) (0 : Int))
  (none : Option (((Unit × Int × Unit) × (List (Int)) × Unit) ⊕ (Nat × (Unit × Int × Unit) × (List (Int)) × Unit)))
  (obind (P_ref01_digit (iquo IntKind.i64 (icv IntKind.i64 (u8 y2)) (16 : Int), ())) (fun (y3 : Int × Unit) => sel (fits (plus (@len Int y1.2.1) (@len Int ([y3.1] : List (Int)))))
  (obind (@idx UInt8 x.1 y1.1.2.1) (fun (y4 : UInt8) => sel (eqI (16 : Int) (0 : Int))
  (none : Option (((Unit × Int × Unit) × (List (Int)) × Unit) ⊕ (Nat × (Unit × Int × Unit) × (List (Int)) × Unit)))
  (obind (P_ref01_digit (irem (icv IntKind.i64 (u8 y4)) (16 : Int), ())) (fun (y5 : Int × Unit) => sel (fits (plus (@len Int (@app Int y1.2.1 ([y3.1] : List (Int)))) (@len Int ([y5.1] : List (Int)))))
  (some (Sum.inl (((), (iadd IntKind.i64 y1.1.2.1 (1 : Int), ())), (@app Int (@app Int y1.2.1 ([y3.1] : List (Int))) ([y5.1] : List (Int)), ())) : (((Unit × Int × Unit) × (List (Int)) × Unit)) ⊕ ((Nat × (Unit × Int × Unit) × (List (Int)) × Unit))))
  (none : Option (((Unit × Int × Unit) × (List (Int)) × Unit) ⊕ (Nat × (Unit × Int × Unit) × (List (Int)) × Unit)))))))
  (none : Option (((Unit × Int × Unit) × (List (Int)) × Unit) ⊕ (Nat × (Unit × Int × Unit) × (List (Int)) × Unit)))))))
  (some (Sum.inr ((0 : Nat), (((), (y1.1.2.1, ())), (y1.2.1, ()))) : (((Unit × Int × Unit) × (List (Int)) × Unit)) ⊕ ((Nat × (Unit × Int × Unit) × (List (Int)) × Unit)))))

noncomputable def P_ref01_Hex (x : (List (UInt8)) × Unit) : Option ((List (UInt8)) × Unit) :=
  obind (Loop (P_ref01_Hex_L0 x) (((), ((0 : Int), ())), (([] : List (Int)), ()))) (fun (y1 : (Unit × Int × Unit) × (List (Int)) × Unit) => some (intsBytes y1.2.1, ()))

noncomputable def P_ref03_Of (x : (List (UInt8)) × Unit) : Option ((List (UInt8)) × Unit) :=
  obind (P_ref02_Sum (x.1, ())) (fun (y1 : (List (Int)) × Unit) => sel (inside (0 : Int) (32 : Int) (32 : Int))
  (obind (P_ref01_Hex (intsBytes (@sub Int y1.1 (0 : Int) (minus (32 : Int) (0 : Int))), ())) (fun (y2 : (List (UInt8)) × Unit) => sel (fits (plus (@len UInt8 ([(115 : UInt8), (104 : UInt8), (97 : UInt8), (50 : UInt8), (53 : UInt8), (54 : UInt8), (58 : UInt8)] : List (UInt8))) (@len UInt8 y2.1)))
  (some (@app UInt8 ([(115 : UInt8), (104 : UInt8), (97 : UInt8), (50 : UInt8), (53 : UInt8), (54 : UInt8), (58 : UInt8)] : List (UInt8)) y2.1, ()))
  (none : Option ((List (UInt8)) × Unit))))
  (none : Option ((List (UInt8)) × Unit)))

end Go.Ge

/- What the functions of layer 12 compute, as plain programs (written by a program from what the ghost interpreter comes to). -/
namespace Go.Ge
set_option linter.unusedVariables false
set_option maxRecDepth 100000

noncomputable def P_strings_trimRightByte_L0 (x : (List (UInt8)) × Int × Unit) (y1 : ((List (UInt8)) × Unit) × Unit) : Option ((((List (UInt8)) × Unit) × Unit) ⊕ (((List (UInt8)) × Unit) × Unit)) :=
  @way1 (((List (UInt8)) × Unit) × Unit) (obind (sel (ltI (0 : Int) (@len UInt8 y1.1.1))
  (obind (@idx UInt8 y1.1.1 (isub IntKind.i64 (@len UInt8 y1.1.1) (1 : Int))) (fun (y2 : UInt8) => some (eqI (u8 y2) x.2.1)))
  (some false)) (fun (y2 : Bool) => sel y2
  (sel (inside (0 : Int) (isub IntKind.i64 (@len UInt8 y1.1.1) (1 : Int)) (@len UInt8 y1.1.1))
  (some (Sum.inl ((@sub UInt8 y1.1.1 (0 : Int) (minus (isub IntKind.i64 (@len UInt8 y1.1.1) (1 : Int)) (0 : Int)), ()), ()) : ((((List (UInt8)) × Unit) × Unit)) ⊕ ((Nat × ((List (UInt8)) × Unit) × Unit))))
  (none : Option ((((List (UInt8)) × Unit) × Unit) ⊕ (Nat × ((List (UInt8)) × Unit) × Unit))))
  (some (Sum.inr ((0 : Nat), ((y1.1.1, ()), ())) : ((((List (UInt8)) × Unit) × Unit)) ⊕ ((Nat × ((List (UInt8)) × Unit) × Unit))))))

noncomputable def P_strings_trimRightByte (x : (List (UInt8)) × Int × Unit) : Option ((List (UInt8)) × Unit) :=
  obind (Loop (P_strings_trimRightByte_L0 x) ((x.1, ()), ())) (fun (y1 : ((List (UInt8)) × Unit) × Unit) => some (y1.1.1, ()))

noncomputable def P_strings_makeASCIISet_L0 (x : (List (UInt8)) × Unit) (y1 : (Bool × Int × Unit) × (List (Bool)) × Unit) : Option (((Bool × Int × Unit) × (List (Bool)) × Unit) ⊕ (Nat × (Bool × Int × Unit) × (List (Bool)) × Unit)) :=
  sel (ltI y1.1.2.1 (@len UInt8 x.1))
  (obind (@idx UInt8 x.1 y1.1.2.1) (fun (y2 : UInt8) => sel (leI (128 : Int) (u8 y2))
  (some (Sum.inr ((1 : Nat), ((false, (y1.1.2.1, ())), (y1.2.1, ()))) : (((Bool × Int × Unit) × (List (Bool)) × Unit)) ⊕ ((Nat × (Bool × Int × Unit) × (List (Bool)) × Unit))))
  (sel (within (u8 y2) (256 : Int))
  (obind (@idx Bool y1.2.1 (u8 y2)) (fun (y3 : Bool) => obind (@idx Bool y1.2.1 (u8 y2)) (fun (y4 : Bool) => obind (@idx Bool y1.2.1 (u8 y2)) (fun (y5 : Bool) => some (Sum.inl ((y1.1.1, (iadd IntKind.i64 y1.1.2.1 (1 : Int), ())), (@lset Bool y1.2.1 (u8 y2) true, ())) : (((Bool × Int × Unit) × (List (Bool)) × Unit)) ⊕ ((Nat × (Bool × Int × Unit) × (List (Bool)) × Unit)))))))
  (none : Option (((Bool × Int × Unit) × (List (Bool)) × Unit) ⊕ (Nat × (Bool × Int × Unit) × (List (Bool)) × Unit))))))
  (some (Sum.inr ((0 : Nat), ((y1.1.1, (y1.1.2.1, ())), (y1.2.1, ()))) : (((Bool × Int × Unit) × (List (Bool)) × Unit)) ⊕ ((Nat × (Bool × Int × Unit) × (List (Bool)) × Unit))))

noncomputable def P_strings_makeASCIISet (x : (List (UInt8)) × Unit) : Option ((List (Bool)) × Bool × Unit) :=
  obind (Loop (P_strings_makeASCIISet_L0 x) ((false, ((0 : Int), ())), (([false, false, false, false, false, false, false, false, false, false, false, false, false, false, false, false, false, false, false, false, false, false, false, false, false, false, false, false, false, false, false, false, false, false, false, false, false, false, false, false, false, false, false, false, false, false, false, false, false, false, false, false, false, false, false, false, false, false, false, false, false, false, false, false, false, false, false, false, false, false, false, false, false, false, false, false, false, false, false, false, false, false, false, false, false, false, false, false, false, false, false, false, false, false, false, false, false, false, false, false, false, false, false, false, false, false, false, false, false, false, false, false, false, false, false, false, false, false, false, false, false, false, false, false, false, false, false, false, false, false, false, false, false, false, false, false, false, false, false, false, false, false, false, false, false, false, false, false, false, false, false, false, false, false, false, false, false, false, false, false, false, false, false, false, false, false, false, false, false, false, false, false, false, false, false, false, false, false, false, false, false, false, false, false, false, false, false, false, false, false, false, false, false, false, false, false, false, false, false, false, false, false, false, false, false, false, false, false, false, false, false, false, false, false, false, false, false, false, false, false, false, false, false, false, false, false, false, false, false, false, false, false, false, false, false, false, false, false, false, false, false, false, false, false, false, false, false, false, false, false, false, false, false, false, false, false] : List (Bool)), ()))) (fun (y1 : Nat × (Bool × Int × Unit) × (List (Bool)) × Unit) => sel (eqN y1.1 (0 : Nat))
  (some (y1.2.2.1, (true, ())))
  (some (y1.2.2.1, (y1.2.1.1, ()))))

noncomputable def P_strings_asciiSet_contains (x : (Int × Unit) × (List (Bool)) × Unit) : Option ((Bool × Unit) × (List (Bool)) × Unit) :=
  sel (within x.1.1 (256 : Int))
  (obind (@idx Bool x.2.1 x.1.1) (fun (y1 : Bool) => some ((y1, ()), (x.2.1, ()))))
  (none : Option ((Bool × Unit) × (List (Bool)) × Unit))

noncomputable def P_strings_trimRightASCII_L0 (y1 : ((List (UInt8)) × Unit) × (List (Bool)) × Unit) : Option ((((List (UInt8)) × Unit) × (List (Bool)) × Unit) ⊕ (((List (UInt8)) × Unit) × (List (Bool)) × Unit)) :=
  @way1 (((List (UInt8)) × Unit) × (List (Bool)) × Unit) (sel (ltI (0 : Int) (@len UInt8 y1.1.1))
  (obind (@idx UInt8 y1.1.1 (isub IntKind.i64 (@len UInt8 y1.1.1) (1 : Int))) (fun (y2 : UInt8) => obind (P_strings_asciiSet_contains ((u8 y2, ()), (y1.2.1, ()))) (fun (y3 : (Bool × Unit) × (List (Bool)) × Unit) => sel (nt y3.1.1)
  (some (Sum.inr ((0 : Nat), ((y1.1.1, ()), (y3.2.1, ()))) : ((((List (UInt8)) × Unit) × (List (Bool)) × Unit)) ⊕ ((Nat × ((List (UInt8)) × Unit) × (List (Bool)) × Unit))))
  (sel (inside (0 : Int) (isub IntKind.i64 (@len UInt8 y1.1.1) (1 : Int)) (@len UInt8 y1.1.1))
  (some (Sum.inl ((@sub UInt8 y1.1.1 (0 : Int) (minus (isub IntKind.i64 (@len UInt8 y1.1.1) (1 : Int)) (0 : Int)), ()), (y3.2.1, ())) : ((((List (UInt8)) × Unit) × (List (Bool)) × Unit)) ⊕ ((Nat × ((List (UInt8)) × Unit) × (List (Bool)) × Unit))))
  (none : Option ((((List (UInt8)) × Unit) × (List (Bool)) × Unit) ⊕ (Nat × ((List (UInt8)) × Unit) × (List (Bool)) × Unit)))))))
  (some (Sum.inr ((0 : Nat), ((y1.1.1, ()), (y1.2.1, ()))) : ((((List (UInt8)) × Unit) × (List (Bool)) × Unit)) ⊕ ((Nat × ((List (UInt8)) × Unit) × (List (Bool)) × Unit)))))

noncomputable def P_strings_trimRightASCII (x : ((List (UInt8)) × Unit) × (List (Bool)) × Unit) : Option (((List (UInt8)) × Unit) × (List (Bool)) × Unit) :=
  obind (Loop (P_strings_trimRightASCII_L0) ((x.1.1, ()), (x.2.1, ()))) (fun (y1 : ((List (UInt8)) × Unit) × (List (Bool)) × Unit) => some ((y1.1.1, ()), (y1.2.1, ())))

noncomputable def P_strings_trimLeftByte_L0 (x : (List (UInt8)) × Int × Unit) (y1 : ((List (UInt8)) × Unit) × Unit) : Option ((((List (UInt8)) × Unit) × Unit) ⊕ (((List (UInt8)) × Unit) × Unit)) :=
  @way1 (((List (UInt8)) × Unit) × Unit) (obind (sel (ltI (0 : Int) (@len UInt8 y1.1.1))
  (obind (@idx UInt8 y1.1.1 (0 : Int)) (fun (y2 : UInt8) => some (eqI (u8 y2) x.2.1)))
  (some false)) (fun (y2 : Bool) => sel y2
  (sel (inside (1 : Int) (@len UInt8 y1.1.1) (@len UInt8 y1.1.1))
  (some (Sum.inl ((@sub UInt8 y1.1.1 (1 : Int) (minus (@len UInt8 y1.1.1) (1 : Int)), ()), ()) : ((((List (UInt8)) × Unit) × Unit)) ⊕ ((Nat × ((List (UInt8)) × Unit) × Unit))))
  (none : Option ((((List (UInt8)) × Unit) × Unit) ⊕ (Nat × ((List (UInt8)) × Unit) × Unit))))
  (some (Sum.inr ((0 : Nat), ((y1.1.1, ()), ())) : ((((List (UInt8)) × Unit) × Unit)) ⊕ ((Nat × ((List (UInt8)) × Unit) × Unit))))))

noncomputable def P_strings_trimLeftByte (x : (List (UInt8)) × Int × Unit) : Option ((List (UInt8)) × Unit) :=
  obind (Loop (P_strings_trimLeftByte_L0 x) ((x.1, ()), ())) (fun (y1 : ((List (UInt8)) × Unit) × Unit) => some (y1.1.1, ()))

noncomputable def P_strings_trimLeftASCII_L0 (y1 : ((List (UInt8)) × Unit) × (List (Bool)) × Unit) : Option ((((List (UInt8)) × Unit) × (List (Bool)) × Unit) ⊕ (((List (UInt8)) × Unit) × (List (Bool)) × Unit)) :=
  @way1 (((List (UInt8)) × Unit) × (List (Bool)) × Unit) (sel (ltI (0 : Int) (@len UInt8 y1.1.1))
  (obind (@idx UInt8 y1.1.1 (0 : Int)) (fun (y2 : UInt8) => obind (P_strings_asciiSet_contains ((u8 y2, ()), (y1.2.1, ()))) (fun (y3 : (Bool × Unit) × (List (Bool)) × Unit) => sel (nt y3.1.1)
  (some (Sum.inr ((0 : Nat), ((y1.1.1, ()), (y3.2.1, ()))) : ((((List (UInt8)) × Unit) × (List (Bool)) × Unit)) ⊕ ((Nat × ((List (UInt8)) × Unit) × (List (Bool)) × Unit))))
  (sel (inside (1 : Int) (@len UInt8 y1.1.1) (@len UInt8 y1.1.1))
  (some (Sum.inl ((@sub UInt8 y1.1.1 (1 : Int) (minus (@len UInt8 y1.1.1) (1 : Int)), ()), (y3.2.1, ())) : ((((List (UInt8)) × Unit) × (List (Bool)) × Unit)) ⊕ ((Nat × ((List (UInt8)) × Unit) × (List (Bool)) × Unit))))
  (none : Option ((((List (UInt8)) × Unit) × (List (Bool)) × Unit) ⊕ (Nat × ((List (UInt8)) × Unit) × (List (Bool)) × Unit)))))))
  (some (Sum.inr ((0 : Nat), ((y1.1.1, ()), (y1.2.1, ()))) : ((((List (UInt8)) × Unit) × (List (Bool)) × Unit)) ⊕ ((Nat × ((List (UInt8)) × Unit) × (List (Bool)) × Unit)))))

noncomputable def P_strings_trimLeftASCII (x : ((List (UInt8)) × Unit) × (List (Bool)) × Unit) : Option (((List (UInt8)) × Unit) × (List (Bool)) × Unit) :=
  obind (Loop (P_strings_trimLeftASCII_L0) ((x.1.1, ()), (x.2.1, ()))) (fun (y1 : ((List (UInt8)) × Unit) × (List (Bool)) × Unit) => some ((y1.1.1, ()), (y1.2.1, ())))

noncomputable def P_strings_Trim (x : (List (UInt8)) × (List (UInt8)) × Unit) : Option ((List (UInt8)) × Unit) :=
  sel (sel (nt (eqS x.1 ([] : List (UInt8))))
  (eqS x.2.1 ([] : List (UInt8)))
  true)
  (some (x.1, ()))
  (obind (sel (eqI (@len UInt8 x.2.1) (1 : Int))
  (obind (@idx UInt8 x.2.1 (0 : Int)) (fun (y1 : UInt8) => some (ltI (u8 y1) (128 : Int))))
  (some false)) (fun (y1 : Bool) => sel y1
  (obind (@idx UInt8 x.2.1 (0 : Int)) (fun (y2 : UInt8) => obind (P_strings_trimRightByte (x.1, (u8 y2, ()))) (fun (y3 : (List (UInt8)) × Unit) => obind (@idx UInt8 x.2.1 (0 : Int)) (fun (y4 : UInt8) => obind (P_strings_trimLeftByte (y3.1, (u8 y4, ()))) (fun (y5 : (List (UInt8)) × Unit) => some (y5.1, ()))))))
  (obind (P_strings_makeASCIISet (x.2.1, ())) (fun (y2 : (List (Bool)) × Bool × Unit) => sel y2.2.1
  (obind (P_strings_trimRightASCII ((x.1, ()), (y2.1, ()))) (fun (y3 : ((List (UInt8)) × Unit) × (List (Bool)) × Unit) => obind (P_strings_trimLeftASCII ((y3.1.1, ()), (y3.2.1, ()))) (fun (y4 : ((List (UInt8)) × Unit) × (List (Bool)) × Unit) => some (y4.1.1, ()))))
  (none : Option ((List (UInt8)) × Unit))))))

end Go.Ge

/- What the functions of layer 13 compute, as plain programs (written by a program from what the ghost interpreter comes to). -/
namespace Go.Ge
set_option linter.unusedVariables false
set_option maxRecDepth 100000

end Go.Ge

/- What the functions of layer 07 compute, as plain programs (written by a program from what the ghost interpreter comes to). -/
namespace Go.Ge
set_option linter.unusedVariables false
set_option maxRecDepth 100000

noncomputable def P_strings_HasPrefix (x : (List (UInt8)) × (List (UInt8)) × Unit) : Option (Bool × Unit) :=
  obind (P_internal_stringslite_HasPrefix (x.1, (x.2.1, ()))) (fun (y1 : Bool × Unit) => some (y1.1, ()))

noncomputable def P_slices_Index_string_string_L0 (x : (List (List (UInt8))) × (List (UInt8)) × Unit) (y1 : (Int × Int × Unit) × Unit) : Option (((Int × Int × Unit) × Unit) ⊕ (Nat × (Int × Int × Unit) × Unit)) :=
  sel (ltI y1.1.2.1 (@len (List (UInt8)) x.1))
  (obind (@idx (List (UInt8)) x.1 y1.1.2.1) (fun (y2 : List (UInt8)) => sel (eqS x.2.1 y2)
  (some (Sum.inr ((1 : Nat), ((y1.1.2.1, (y1.1.2.1, ())), ())) : (((Int × Int × Unit) × Unit)) ⊕ ((Nat × (Int × Int × Unit) × Unit))))
  (some (Sum.inl ((y1.1.1, (iadd IntKind.i64 y1.1.2.1 (1 : Int), ())), ()) : (((Int × Int × Unit) × Unit)) ⊕ ((Nat × (Int × Int × Unit) × Unit))))))
  (some (Sum.inr ((0 : Nat), ((y1.1.1, (y1.1.2.1, ())), ())) : (((Int × Int × Unit) × Unit)) ⊕ ((Nat × (Int × Int × Unit) × Unit))))

noncomputable def P_slices_Index_string_string (x : (List (List (UInt8))) × (List (UInt8)) × Unit) : Option (Int × Unit) :=
  obind (Loop (P_slices_Index_string_string_L0 x) (((0 : Int), ((0 : Int), ())), ())) (fun (y1 : Nat × (Int × Int × Unit) × Unit) => sel (eqN y1.1 (0 : Nat))
  (some ((-1 : Int), ()))
  (some (y1.2.1.1, ())))

noncomputable def P_slices_Contains_string_string (x : (List (List (UInt8))) × (List (UInt8)) × Unit) : Option (Bool × Unit) :=
  obind (P_slices_Index_string_string (x.1, (x.2.1, ()))) (fun (y1 : Int × Unit) => some (leI (0 : Int) y1.1, ()))

end Go.Ge

/- What the functions of layer 01 compute, as plain programs (written by a program from what the ghost interpreter comes to). -/
namespace Go.Ge
set_option linter.unusedVariables false
set_option maxRecDepth 100000

end Go.Ge
