/- Layer 19 in plain words: the program is awake, and the first law. -/
import Derived.Test.YtcdhodfpemkbfaaPlainD
namespace Go.Proofs.Ytcdhodfpemkbfaa
open Go Go.Ge
set_option linter.unusedVariables false
set_option linter.unusedSimpArgs false

def l3 : List Ly := [([97], [], [], [], 0, 0, false, ()), ([98], [97], [], [], 0, 0, false, ()), ([99], [120], [], [], 0, 0, false, ())]
def l2 : List Ly := [([97], [98], [], [], 0, 0, false, ()), ([98], [97], [], [], 0, 0, false, ())]

theorem awake_eq : cAwake.spec () = obind (cChain.spec (l3, [98], ())) fun x => obind (cChain.spec (l3, [99], ())) fun x_1 => obind (cChain.spec (l2, [97], ())) fun x_2 =>
    obind (sel (eqI (len (α := Ly) x.1) 2) (obind (idx (α := Ly) x.1 1) fun x => some (eqS x.1 [97])) (some false)) fun x_3 =>
      obind (sel (sel (sel (sel x_3 (eqI x.2.1 0) false) (eqI x_1.2.1 3) false) (eqI x_2.2.1 5) false) (obind (cKids.spec (l3, [97], ())) fun x => obind (cSameT.spec (x.1, [[98]], ())) fun x => some x.1) (some false)) fun x =>
        obind (sel x (obind (cRoots.spec (l3, ())) fun x => obind (cSameT.spec (x.1, [[97]], ())) fun x => some x.1) (some false)) fun x =>
          obind (sel x (obind (cCheck.spec (l3, ())) fun x => some (eqI x.1 2)) (some false)) fun x =>
            obind (sel x (sel (inside 0 2 (len l3)) (obind (cCheck.spec (sub l3 0 (minus 2 0), ())) fun x => some (eqI x.1 0)) none) (some false)) fun x => some (x, ()) := by kernel_rfl

theorem small3 : Small l3 := ⟨by decide, by decide⟩
theorem small2 : Small l2 := ⟨by decide, by decide⟩
theorem small12 : Small (sub l3 0 (minus 2 0)) := ⟨by decide, by decide⟩

theorem c98 : cChain.spec (l3, [98], ()) = some (([([98], [97], [], [], 0, 0, false, ()), ([97], [], [], [], 0, 0, false, ())] : List Ly), (0 : Int), ()) := (chain_val small3 [98]).trans (by rfl)
theorem c99 : cChain.spec (l3, [99], ()) = some (([] : List Ly), (3 : Int), ()) := (chain_val small3 [99]).trans (by rfl)
theorem c97 : cChain.spec (l2, [97], ()) = some (([] : List Ly), (5 : Int), ()) := (chain_val small2 [97]).trans (by rfl)
theorem k97 : cKids.spec (l3, [97], ()) = some (([[98]] : List Str), ()) := (kids_val l3 [97] (by decide)).trans (by rfl)
theorem ro3 : cRoots.spec (l3, ()) = some (([[97]] : List Str), ()) := (roots_val l3 (by decide)).trans (by rfl)
theorem ch3 : cCheck.spec (l3, ()) = some ((2 : Int), ()) := (check_val small3).trans (by rfl)
theorem ch12 : cCheck.spec (sub l3 0 (minus 2 0), ()) = some ((0 : Int), ()) := (check_val small12).trans (by rfl)
theorem s98 : cSameT.spec (([[98]] : List Str), [[98]], ()) = some (true, ()) := sameT_self _ (by decide)
theorem s97 : cSameT.spec (([[97]] : List Str), [[97]], ()) = some (true, ()) := sameT_self _ (by decide)

theorem awake_val : cAwake.spec () = some (true, ()) := by
  refine awake_eq.trans ?_
  rw [c98, c99, c97, k97, ro3, ch3, ch12]
  show obind (obind (cSameT.spec (([[98]] : List Str), [[98]], ())) fun x => some x.1) _ = _
  rw [s98]
  show obind (obind (cSameT.spec (([[97]] : List Str), [[97]], ())) fun x => some x.1) _ = _
  rw [s97]
  rfl

theorem is_eq (l : List Ly) (id : Str) : sem cx4 9 plans 3 (A2 LS .str) (A1 .bool) (l, id, ()) = obind (cFew.spec (l, ())) fun x =>
    sel (sel (nt (nt x.1)) (ltI 100 (len id)) true) (obind (cAwake.spec ()) fun x => some (x.1, ()))
      (obind (cChain.spec (l, id, ())) fun x => obind (cRChain.spec (l, id, ())) fun x_1 => obind (cSameL.spec (x.1, x_1.1, ())) fun x_2 =>
        obind (sel (sel x_2.1 (eqI x.2.1 x_1.2.1) false) (obind (cKids.spec (l, id, ())) fun x => obind (cRKids.spec (l, id, ())) fun x_3 => obind (cSameT.spec (x.1, x_3.1, ())) fun x => some x.1) (some false)) fun x =>
          obind (sel x (obind (cRoots.spec (l, ())) fun x => obind (cRRoots.spec (l, ())) fun x_3 => obind (cSameT.spec (x.1, x_3.1, ())) fun x => some x.1) (some false)) fun x =>
            obind (sel x (obind (cCheck.spec (l, ())) fun x => obind (cRCheck.spec (l, ())) fun x_3 => some (eqI x.1 x_3.1)) (some false)) fun x =>
              obind (sel x (obind (cAwake.spec ()) fun x => some x.1) (some false)) fun x => some (x, ())) := by kernel_rfl

theorem picked_len (l : List Ly) (p : Ly → Bool) : ((l.filter p).map (·.1)).length ≤ l.length := by
  rw [List.length_map]; exact List.length_filter_le _ _

theorem is_shape {F A : Option (Bool × Unit)} {C R : Option (List Ly × Int × Unit)} {SL : List Ly × List Ly × Unit → Option (Bool × Unit)} {K RK RO RR : Option (List Str × Unit)} {ST : List Str × List Str × Unit → Option (Bool × Unit)}
    {CK RCK : Option (Int × Unit)} {big : Bool} {b : Bool} {a : List Ly} {e c : Int} {k r : List Str} (hF : F = some (b, ())) (hA : A = some (true, ())) (hC : C = some (a, e, ())) (hR : R = some (a, e, ())) (hSL : SL (a, a, ()) = some (true, ()))
    (hK : K = some (k, ())) (hRK : RK = some (k, ())) (hk : ST (k, k, ()) = some (true, ())) (hRO : RO = some (r, ())) (hRR : RR = some (r, ())) (hr : ST (r, r, ()) = some (true, ())) (hCK : CK = some (c, ())) (hRCK : RCK = some (c, ())) :
    (obind F fun x =>
    sel (sel (nt (nt x.1)) big true) (obind A fun x => some (x.1, ()))
      (obind C fun x => obind R fun x_1 => obind (SL (x.1, x_1.1, ())) fun x_2 =>
        obind (sel (sel x_2.1 (eqI x.2.1 x_1.2.1) false) (obind K fun x => obind RK fun x_3 => obind (ST (x.1, x_3.1, ())) fun x => some x.1) (some false)) fun x =>
          obind (sel x (obind RO fun x => obind RR fun x_3 => obind (ST (x.1, x_3.1, ())) fun x => some x.1) (some false)) fun x =>
            obind (sel x (obind CK fun x => obind RCK fun x_3 => some (eqI x.1 x_3.1)) (some false)) fun x =>
              obind (sel x (obind A fun x => some x.1) (some false)) fun x => some (x, ())) : Option (Bool × Unit)) = some (true, ()) := by
  subst hF; subst hA; subst hC; subst hR; subst hK; subst hRK; subst hRO; subst hRR; subst hCK; subst hRCK
  simp only [obind_some, hSL, hk, hr, eqI_self, sel_true]
  cases sel (nt (nt b)) big true <;> rfl

theorem is_val {l : List Ly} (hl : Small l) (id : Str) : sem cx4 9 plans 3 (A2 LS .str) (A1 .bool) (l, id, ()) = some (true, ()) := by
  obtain ⟨b, hb⟩ := few_ends l hl.1
  have hcs := chain_small l 16 id []
  have hA : (chainP l 16 id []).1.length ≤ 2097152 := by have := hcs.1; simp only [List.length_nil] at this; omega
  have hB : ∀ x ∈ (chainP l 16 id []).1, x.2.2.1.length ≤ 2097152 := fun x hx => by
    rcases hcs.2 x hx with h | h
    · exact hl.2 x h
    · cases h
  exact (is_eq l id).trans (is_shape (b := b) (a := (chainP l 16 id []).1) (e := (chainP l 16 id []).2) (c := chkP l) (k := kidsP l id) (r := rootsP l) hb awake_val (chain_val hl id) (rchain_val hl id) (sameL_self _ hA hB) (kids_val l id hl.1) (rkids_val l id hl.1)
    (sameT_self _ (Nat.le_trans (picked_len l _) hl.1)) (roots_val l hl.1) (rroots_val l hl.1) (sameT_self _ (Nat.le_trans (picked_len l _) hl.1)) (check_val hl) (rcheck_val hl))
end Go.Proofs.Ytcdhodfpemkbfaa
