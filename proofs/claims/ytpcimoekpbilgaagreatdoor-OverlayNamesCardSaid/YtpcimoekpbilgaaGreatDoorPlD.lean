/- Plain laws of what the functions compute: part 4. -/
import Derived.Test.YtpcimoekpbilgaaGreatDoorPlC
/- The law OverlayFree: whether bytes are a diff does not hang on the tree: in plain words. -/
namespace Go.Ge
set_option linter.unusedVariables false
set_option linter.unusedSimpArgs false

def Has (t : List Nd) (p : List UInt8) : Prop := p = [] ∨ ∃ x ∈ t, x.1 = p ∧ x.2.1 = 2

theorem put_room {t : List Nd} {n : Nd} (hv : Valid t) (hm : mayF n = true) (h : Has t (splitF n.1).1) : ((t14_putF t n).2 = 0 ∧ n ∈ (t14_putF t n).1) ∨ (t14_putF t n).2 = 5 := by
  unfold t14_putF
  rw [if_neg (show ¬ (¬ Valid t ∨ mayF n = false) from fun q => q.elim (fun q => q hv) (fun q => by rw [hm] at q; cases q))]
  have h3 : ¬ ((splitF n.1).1 ≠ [] ∧ ∀ x ∈ t, x.1 ≠ (splitF n.1).1) := fun q => by
    rcases h with h | ⟨x, hx, e, _⟩
    · exact q.1 h
    · exact q.2 x hx e
  have h12 : ¬ ((splitF n.1).1 ≠ [] ∧ ∀ x ∈ t, x.1 = (splitF n.1).1 → x.2.1 ≠ 2) := fun q => by
    rcases h with h | ⟨x, hx, e, k⟩
    · exact q.1 h
    · exact q.2 x hx e k
  rw [if_neg h3, if_neg h12]
  have key : ∀ r : List Nd, ((if 64 ≤ r.length then (([] : List Nd), (5 : Int)) else (insF r n, 0)).2 = 0 ∧ n ∈ (if 64 ≤ r.length then (([] : List Nd), (5 : Int)) else (insF r n, 0)).1) ∨ (if 64 ≤ r.length then (([] : List Nd), (5 : Int)) else (insF r n, 0)).2 = 5 := fun r => by
    split
    · exact .inr rfl
    · exact .inl ⟨rfl, mem_insF.2 (.inl rfl)⟩
  exact key _

theorem findF_mem {t : List Nd} {p : List UInt8} (h : (findF t p).2.1 = true) : (findF t p).1 ∈ t ∧ (findF t p).1.1 = p := by
  unfold findF at h ⊢
  cases hf : t.find? fun x => decide (x.1 = p) with
  | none => rw [hf] at h; cases h
  | some x => exact ⟨List.mem_of_find?_eq_some hf, by have := List.find?_some hf; simpa using this⟩

theorem may_mode {p : List UInt8} (h : mayF (dirM 0 p) = true) : mayF (dirM 493 p) = true := by
  unfold mayF at h ⊢
  simp only [Bool.and_eq_true] at h ⊢
  exact ⟨⟨⟨h.1.1.1, by simp [dirM]⟩, by simp [dirM]⟩, by simp [kindF, dirM]⟩

theorem dirs_room {ns : List (List UInt8)} (h : ShN ns) (n : Nat) (hn : n ≤ ns.length) (hm : preB ns n = true) : ∀ (d i : Nat) (t : List Nd), i + d = n → Valid t → Has t (joinS (ns.take i)) →
    ((dirsF ((ns.take n).drop i) (joinS (ns.take i)) t).2 = 0 ∧ Has (dirsF ((ns.take n).drop i) (joinS (ns.take i)) t).1 (joinS (ns.take n))) ∨ (dirsF ((ns.take n).drop i) (joinS (ns.take i)) t).2 = 5 := by
  intro d
  induction d with
  | zero =>
    intro i t hi hv hh
    obtain rfl : i = n := by omega
    rw [List.drop_of_length_le (by rw [List.length_take]; omega)]
    exact .inl ⟨rfl, hh⟩
  | succ d ih =>
    intro i t hi hv hh
    have hx : ns[i]? = some ns[i] := List.getElem?_eq_getElem (by omega)
    have hdrop : (ns.take n).drop i = ns[i] :: (ns.take n).drop (i + 1) := by
      rw [List.drop_eq_getElem_cons (by rw [List.length_take]; omega), List.getElem_take]
    have hj := joinP_take h.1 hx
    have hn1 : preP ns i = joinS (ns.take (i + 1)) := rfl
    rw [hdrop]
    unfold dirsF
    rw [hj]
    split
    · rename_i hc
      obtain ⟨m1, m2⟩ := findF_mem hc.1
      rw [hn1]
      exact ih (i + 1) t (by omega) hv (.inr ⟨_, m1, by rw [m2, hn1], hc.2⟩)
    · have hmay : mayF (dirM 493 (preP ns i)) = true := by
        unfold preB at hm
        rw [List.all_eq_true] at hm
        exact may_mode (hm i (List.mem_range.2 (by omega)))
      have hroom := put_room hv hmay (by
        show Has t (splitF (preP ns i)).1
        rw [preP_split h.1 (by omega)]
        exact hh)
      split
      · rename_i hp
        rcases hroom with ⟨_, hmem⟩ | h5
        · rw [hn1]
          exact ih (i + 1) _ (by omega) (putF_valid hp) (.inr ⟨_, hmem, rfl, rfl⟩)
        · rw [h5] at hp; cases hp
      · rename_i hp
        rcases hroom with ⟨h0, _⟩ | h5
        · exact absurd h0 hp
        · exact .inr h5

theorem node_room {ns : List (List UInt8)} (h : ShN ns) {n : Nd} (hn : n.1 = joinS ns) (hm : mayF n = true) (hp : pathB ns = true) {t : List Nd} (hv : Valid t) : (nodeF ns t n).2 = 0 ∨ (nodeF ns t n).2 = 5 := by
  have hlt : ns.take (ns.length - 1) = ns.dropLast := List.dropLast_eq_take.symm
  have hpre : preB ns (ns.length - 1) = true := by
    unfold pathB at hp
    simp only [Bool.and_eq_true, decide_eq_true_eq] at hp
    rw [pre_all hp.2] at hp
    simp only [Bool.and_eq_true] at hp
    exact hp.1.1
  have hd := dirs_room h (ns.length - 1) (by omega) hpre (ns.length - 1) 0 t (by omega) hv (.inl (by simp [joinS]))
  have ht0 : joinS (ns.take 0) = [] := by simp [joinS]
  rw [List.drop_zero, hlt, ht0] at hd
  unfold nodeF
  rcases hd with ⟨d0, d1⟩ | d5
  · rw [if_pos d0]
    have hv2 := dirsF_valid _ _ _ hv d0
    rcases put_room hv2 hm (by rw [hn, split_clean h.1]; exact d1) with ⟨p0, _⟩ | p5
    · exact .inl p0
    · exact .inr p5
  · rw [if_neg (by rw [d5]; decide)]
    exact .inr d5

theorem whatN_node {p : Pt} (hok : (whatN p).2.2 = true) (h0 : (whatN p).1 = 0) (hn : (whatN p).2.1 ≠ []) : mayF (nodeOf p (joinS (whatN p).2.1)) = true ∧ pathB (whatN p).2.1 = true := by
  have key : ∀ (ns : List (List UInt8)) (q : Bool), ns ≠ [] → ((decide (ns = []) && q) || (mayF (nodeOf p (joinS ns)) && pathB ns)) = true → mayF (nodeOf p (joinS ns)) = true ∧ pathB ns = true := fun ns q hne hq => by
    rw [decide_eq_false hne, Bool.false_and, Bool.false_or, Bool.and_eq_true] at hq
    exact hq
  unfold whatN at hok h0 hn ⊢
  split at h0
  · rename_i hc
    rw [if_pos hc] at hok hn ⊢
    dsimp only at hok h0 hn ⊢
    split at h0
    · cases h0
    · rename_i h1
      rw [if_neg h1] at hok hn ⊢
      split at h0
      · cases h0
      · rename_i h2
        rw [if_neg h2] at hok hn ⊢
        split at h0
        · rename_i h3
          rw [if_pos h3] at hok hn ⊢
          exact key _ _ hn hok
        · rename_i h3
          rw [if_neg h3] at hn
          exact absurd rfl hn
  · rename_i hc
    rw [if_neg hc] at hn
    exact absurd rfl hn

theorem run_room : ∀ (ps : List Pt) (t : List Nd), allOk ps = true → Valid t → (runF ps t).2 = 0 ∨ (runF ps t).2 = 5 := by
  intro ps
  induction ps with
  | nil => intro t _ _; exact .inl rfl
  | cons p r ih =>
    intro t ha hv
    unfold allOk at ha
    simp only [List.all_cons, Bool.and_eq_true] at ha
    unfold runF
    split
    · rename_i hp; exact ih _ ha.2 (putsF_valid hv hp)
    · rename_i hp
      right
      show (putsF t p).2 = 5
      unfold putsF at hp ⊢
      split
      · rename_i hc
        rw [if_pos hc] at hp
        obtain ⟨m1, m2⟩ := whatN_node ha.1 hc.1 hc.2
        rcases node_room (whatN_sh p) (n := nodeOf p (joinS (whatN p).2.1)) rfl m1 m2 hv with h0 | h5
        · exact absurd h0 hp
        · exact h5
      · rename_i hc
        rw [if_neg hc] at hp
        exact absurd rfl hp

theorem ifawake15 {c : Bool} {x : Option (Bool × Unit)} (h : c = false → x = some (true, ())) : sel c (obind (P_law15_awake ()) fun y => some (y.1, ())) x = some (true, ()) := by
  cases c with
  | true => rw [sel_true, awake15]; rfl
  | false => rw [sel_false]; exact h rfl

end Go.Ge

/- Diffs laid on trees: each path by itself: what a path leads to hangs on what it led to, and on the entries, and on no other path. -/
namespace Go.Ge
set_option linter.unusedVariables false
set_option linter.unusedSimpArgs false

def atF (t : List Nd) (q : List UInt8) : Option Nd := t.find? fun x => decide (x.1 = q)

theorem find_at (t : List Nd) (q : List UInt8) : findF t q = match atF t q with
  | some x => (x, (true, ()))
  | none => (zeroN, (false, ())) := rfl
theorem at_mem {t : List Nd} {q : List UInt8} {x : Nd} (h : atF t q = some x) : x ∈ t ∧ x.1 = q := by
  unfold atF at h
  exact ⟨List.mem_of_find?_eq_some h, by have := List.find?_some h; simpa using this⟩
theorem at_iff {t : List Nd} (ho : Ord t) {q : List UInt8} {x : Nd} : atF t q = some x ↔ x ∈ t ∧ x.1 = q := by
  constructor
  · exact at_mem
  · rintro ⟨h1, h2⟩
    have := find_some' ho h1 h2
    rw [find_at] at this
    cases ha : atF t q with
    | none => rw [ha] at this; cases (Prod.mk.inj (Prod.mk.inj this).2).1
    | some y => rw [ha] at this; rw [(Prod.mk.inj this).1]
theorem opt_ext {a b : Option Nd} (h : ∀ x, a = some x ↔ b = some x) : a = b := by
  cases a with
  | none =>
    cases b with
    | none => rfl
    | some y => exact absurd ((h y).2 rfl) (by simp)
  | some x => exact ((h x).1 rfl).symm

theorem under_dir {l : List Nd} (hv : Valid l) {p : List UInt8} (hp : p ≠ []) : ∀ (m : Nat) (x : Nd), x ∈ l → (parts x.1).length ≤ m → underL (parts x.1) (parts p) = true → ∃ y ∈ l, y.1 = p ∧ y.2.1 = 2 := by
  intro m
  induction m with
  | zero =>
    intro x hx hm hu
    unfold underL at hu
    have := (of_decide_eq_true hu).1
    omega
  | succ m ih =>
    intro x hx hm hu
    by_cases hex : ∃ y ∈ l, y.1 = p
    · by_cases h0 : (splitF x.1).1 = []
      · exfalso
        have hu2 := hu
        unfold underL at hu2
        have h1 := (of_decide_eq_true hu2).1
        have hmay := hv.may x hx
        unfold mayF okPath at hmay
        simp only [Bool.and_eq_true, decide_eq_true_eq] at hmay
        have hall := hmay.1.1.1.1.1.1.1.2
        have hone : (parts x.1).length ≤ 1 := by
          rcases split_cases x.1 with ⟨a, _⟩ | ⟨a, b, e1, e2, e⟩
          · unfold parts
            split
            · simp
            · rw [splitS_plain _ a]; simp
          · rw [e] at h0
            have h0 : a = [] := h0
            subst h0
            have : isNm [] = true := List.all_eq_true.1 hall [] (by
              unfold parts
              rw [e1, if_neg (by simp)]
              show [] ∈ splitS ([] ++ 47 :: b)
              rw [splitS_app [] (by simp)]
              simp)
            exact absurd this (by decide)
        have hpn : parts p = [] := List.length_eq_zero_iff.1 (by omega)
        have := joinS_parts p
        rw [hpn] at this
        exact hp this.symm
      · rcases hv.up x hx with e | ⟨y, hy, hy1, hy2⟩
        · exact absurd e h0
        · have hk := parent_key h0
          rw [← hy1] at hk
          unfold underL at hu
          obtain ⟨h1, h2⟩ := of_decide_eq_true hu
          rw [hk] at h1 h2
          have hle : (parts p).length ≤ (parts y.1).length := by simp at h1; omega
          rw [List.take_append_of_le_length hle] at h2
          rcases Nat.lt_or_ge (parts p).length (parts y.1).length with g | g
          · exact ih y hy (by rw [hk] at hm; simp at hm; omega) (by unfold underL; exact decide_eq_true ⟨g, h2⟩)
          · have he : parts p = parts y.1 := by rw [← h2, List.take_of_length_le (by omega)]
            exact ⟨y, hy, by rw [← joinS_parts y.1, ← he, joinS_parts], hy2⟩
    · have := none_under hv hp (fun y hy e => hex ⟨y, hy, e⟩) _ x hx (Nat.le_refl _)
      rw [this] at hu; cases hu

theorem put_at' {t : List Nd} {n : Nd} (h : (t14_putF t n).2 = 0) (q : List UInt8) :
    atF (t14_putF t n).1 q = if q = n.1 then some n else if underL (parts q) (parts n.1) = true ∧ n.2.1 ≠ 2 then none else atF t q := by
  rcases putF_cases t n with ⟨_, h2⟩ | ⟨h1, h2, h3, r, h4, h5, h6⟩
  · exact absurd h h2
  have hvalid := put_valid h1 h2 h3 h4 h5
  have hne := mayF_ne h2
  rw [h6]
  dsimp only
  refine opt_ext fun x => ?_
  rw [at_iff hvalid.ord, mem_insF]
  obtain ⟨hsub, _⟩ := h4.sub
  by_cases hq : q = n.1
  · rw [if_pos hq]
    constructor
    · rintro ⟨e | hx, hx1⟩
      · rw [e]
      · exact absurd (hx1.trans hq) (hsub x hx).2
    · intro e
      obtain rfl := Option.some.inj e
      exact ⟨.inl rfl, hq.symm⟩
  · rw [if_neg hq]
    have hin : (x = n ∨ x ∈ r) ∧ x.1 = q ↔ x ∈ r ∧ x.1 = q := by
      constructor
      · rintro ⟨e | hx, hx1⟩
        · subst e; exact absurd hx1.symm hq
        · exact ⟨hx, hx1⟩
      · rintro ⟨hx, hx1⟩; exact ⟨.inr hx, hx1⟩
    rw [hin]
    rcases h4 with ⟨⟨⟨d, hd, hd1, hd2⟩, hn2⟩, rfl⟩ | ⟨hno, rfl⟩
    · rw [if_neg (fun z => z.2 hn2), at_iff h1.ord, List.mem_filter]
      constructor
      · rintro ⟨⟨a, _⟩, b⟩; exact ⟨a, b⟩
      · rintro ⟨a, b⟩; exact ⟨⟨a, by simp only [Bool.not_eq_true', decide_eq_false_iff_not]; rw [b]; exact hq⟩, b⟩
    · unfold restF
      rw [List.mem_filter]
      by_cases hu : underL (parts q) (parts n.1) = true
      · by_cases hk : n.2.1 = 2
        · rw [if_neg (fun z => z.2 hk), at_iff h1.ord]
          constructor
          · rintro ⟨⟨a, b⟩, c⟩; exact ⟨a, c⟩
          · rintro ⟨a, c⟩
            exfalso
            have := under_dir h1 hne _ x a (Nat.le_refl _) (by rw [c]; exact hu)
            exact hno ⟨this, hk⟩
        · rw [if_pos ⟨hu, hk⟩]
          constructor
          · rintro ⟨⟨a, b⟩, c⟩
            unfold gone at b
            rw [c, hu] at b
            simp at b
          · intro e; cases e
      · rw [if_neg (fun z => hu z.1), at_iff h1.ord]
        constructor
        · rintro ⟨⟨a, b⟩, c⟩; exact ⟨a, c⟩
        · rintro ⟨a, c⟩
          refine ⟨⟨a, ?_⟩, c⟩
          unfold gone
          rw [c, decide_eq_false hq, show underL (parts q) (parts n.1) = false by simpa using hu]; rfl

def delt (q : List UInt8) (s : Option Nd) : Option Nd := match s with
  | some x => if x.2.1 = 2 then some x else some (dirM 493 q)
  | none => some (dirM 493 q)

theorem find_dir {t : List Nd} (p : List UInt8) : ((findF t p).2.1 = true ∧ (findF t p).1.2.1 = 2) ↔ ∃ x, atF t p = some x ∧ x.2.1 = 2 := by
  rw [find_at]
  cases atF t p with
  | none => simp
  | some x => simp

theorem preP_inj {ns : List (List UInt8)} (h : NmOk ns) {i j : Nat} (hi : i < ns.length) (hj : j < ns.length) (e : preP ns i = preP ns j) : i = j := by
  have := congrArg (fun p => (parts p).length) e
  simp only [preP_parts h, List.length_take] at this
  omega

theorem dirs_at {ns : List (List UInt8)} (h : NmOk ns) (n : Nat) (hn : n ≤ ns.length) (q : List UInt8) : ∀ (d i : Nat) (t : List Nd), i + d = n → Valid t →
    (dirsF ((ns.take n).drop i) (joinS (ns.take i)) t).2 = 0 →
    ((∃ j, i ≤ j ∧ j < n ∧ q = preP ns j) → atF (dirsF ((ns.take n).drop i) (joinS (ns.take i)) t).1 q = delt q (atF t q)) ∧
    ((¬ ∃ j, i ≤ j ∧ j < n ∧ q = preP ns j) → atF (dirsF ((ns.take n).drop i) (joinS (ns.take i)) t).1 q = atF t q) := by
  intro d
  induction d with
  | zero =>
    intro i t hi hv _
    obtain rfl : i = n := by omega
    rw [List.drop_of_length_le (by rw [List.length_take]; omega)]
    exact ⟨fun ⟨j, a, b, _⟩ => absurd a (by omega), fun _ => rfl⟩
  | succ d ih =>
    intro i t hi hv h0
    have hx : ns[i]? = some ns[i] := List.getElem?_eq_getElem (by omega)
    have hdrop : (ns.take n).drop i = ns[i] :: (ns.take n).drop (i + 1) := by
      rw [List.drop_eq_getElem_cons (by rw [List.length_take]; omega), List.getElem_take]
    have hj := joinP_take h hx
    have hn1 : preP ns i = joinS (ns.take (i + 1)) := rfl
    rw [hdrop] at h0 ⊢
    unfold dirsF at h0 ⊢
    rw [hj] at h0 ⊢
    have cases' : (∃ j, i ≤ j ∧ j < n ∧ q = preP ns j) ↔ (q = preP ns i ∨ ∃ j, i + 1 ≤ j ∧ j < n ∧ q = preP ns j) := by
      constructor
      · rintro ⟨j, a, b, c⟩
        by_cases e : j = i
        · subst e; exact .inl c
        · exact .inr ⟨j, by omega, b, c⟩
      · rintro (c | ⟨j, a, b, c⟩)
        · exact ⟨i, Nat.le_refl _, by omega, c⟩
        · exact ⟨j, by omega, b, c⟩
    have apart : q = preP ns i → ¬ ∃ j, i + 1 ≤ j ∧ j < n ∧ q = preP ns j := by
      rintro e ⟨j, a, b, c⟩
      have := preP_inj h (by omega) (by omega) (e.symm.trans c)
      omega
    by_cases hc : (findF t (preP ns i)).2.1 = true ∧ (findF t (preP ns i)).1.2.1 = 2
    · rw [if_pos hc] at h0 ⊢
      rw [hn1] at h0 ⊢
      obtain ⟨k1, k2⟩ := ih (i + 1) t (by omega) hv h0
      rw [cases']
      obtain ⟨x, x1, x2⟩ := (find_dir _).1 hc
      constructor
      · rintro (e | e)
        · rw [k2 (apart e), e, x1]
          unfold delt
          simp only [if_pos x2]
        · exact k1 e
      · intro e
        exact k2 fun z => e (.inr z)
    · rw [if_neg hc] at h0 ⊢
      by_cases hp : (t14_putF t (dirM 493 (preP ns i))).2 = 0
      · rw [if_pos hp] at h0 ⊢
        rw [hn1] at h0 ⊢
        obtain ⟨k1, k2⟩ := ih (i + 1) _ (by omega) (putF_valid hp) h0
        have hput := put_at' hp q
        rw [← hn1] at k1 k2
        rw [cases']
        have hk2 : ¬ (dirM 493 (preP ns i)).2.1 ≠ 2 := fun z => z rfl
        rw [if_neg (fun z : underL (parts q) (parts (dirM 493 (preP ns i)).1) = true ∧ (dirM 493 (preP ns i)).2.1 ≠ 2 => hk2 z.2)] at hput
        constructor
        · rintro (e | e)
          · rw [if_pos (show q = (dirM 493 (preP ns i)).1 from e)] at hput
            rw [← hn1, k2 (apart e), hput]
            unfold delt
            rw [find_dir] at hc
            cases ha : atF t q with
            | none => dsimp only; rw [e]
            | some x =>
              dsimp only
              rw [if_neg (fun z => hc ⟨x, by rw [← e]; exact ha, z⟩), e]
          · rw [if_neg (fun z : q = (dirM 493 (preP ns i)).1 => apart z e)] at hput
            rw [← hn1, k1 e, hput]
        · intro e
          rw [if_neg (fun z : q = (dirM 493 (preP ns i)).1 => e (.inl z))] at hput
          rw [← hn1, k2 fun z => e (.inr z), hput]
      · rw [if_neg hp] at h0
        exact absurd h0 hp

def effN (ns : List (List UInt8)) (n : Nd) (q : List UInt8) (s : Option Nd) : Option Nd :=
  if q = n.1 then some n else if underL (parts q) ns = true ∧ n.2.1 ≠ 2 then none else if underL ns (parts q) = true ∧ q ≠ [] then delt q s else s

theorem pre_under {ns : List (List UInt8)} (h : NmOk ns) (q : List UInt8) : (∃ j, 0 ≤ j ∧ j < ns.length - 1 ∧ q = preP ns j) ↔ (underL ns (parts q) = true ∧ q ≠ []) := by
  constructor
  · rintro ⟨j, _, hj, rfl⟩
    rw [preP_parts h]
    constructor
    · unfold underL
      refine decide_eq_true ⟨?_, ?_⟩
      · rw [List.length_take]; omega
      · rw [List.length_take, Nat.min_eq_left (by omega)]
    · intro e
      have := congrArg (fun p => (parts p).length) e
      simp only [preP_parts h, List.length_take, show (parts []).length = 0 from rfl] at this
      omega
  · rintro ⟨hu, hq⟩
    unfold underL at hu
    obtain ⟨h1, h2⟩ := of_decide_eq_true hu
    have hpos : 0 < (parts q).length := by
      apply Nat.pos_of_ne_zero
      intro e
      have := joinS_parts q
      rw [List.length_eq_zero_iff.1 e] at this
      exact hq this.symm
    refine ⟨(parts q).length - 1, Nat.zero_le _, by omega, ?_⟩
    unfold preP
    rw [show (parts q).length - 1 + 1 = (parts q).length by omega, h2, joinS_parts]

theorem node_at {ns : List (List UInt8)} (h : NmOk ns) {t : List Nd} (hv : Valid t) {n : Nd} (hn : n.1 = joinS ns) (h0 : (nodeF ns t n).2 = 0) (q : List UInt8) : atF (nodeF ns t n).1 q = effN ns n q (atF t q) := by
  have hlt : ns.take (ns.length - 1) = ns.dropLast := List.dropLast_eq_take.symm
  have ht0 : joinS (ns.take 0) = [] := by simp [joinS]
  unfold nodeF at h0 ⊢
  by_cases hd : (dirsF ns.dropLast [] t).2 = 0
  · rw [if_pos hd] at h0 ⊢
    have hda := dirs_at h (ns.length - 1) (by omega) q (ns.length - 1) 0 t (by omega) hv (by rw [List.drop_zero, hlt, ht0]; exact hd)
    rw [List.drop_zero, hlt, ht0, pre_under h] at hda
    rw [put_at' h0 q, hn, parts_joinS ns h]
    unfold effN
    rw [hn]
    by_cases h1 : q = joinS ns
    · rw [if_pos h1, if_pos h1]
    · rw [if_neg h1, if_neg h1]
      by_cases h2 : underL (parts q) ns = true ∧ n.2.1 ≠ 2
      · rw [if_pos h2, if_pos h2]
      · rw [if_neg h2, if_neg h2]
        by_cases h3 : underL ns (parts q) = true ∧ q ≠ []
        · rw [if_pos h3, hda.1 h3]
        · rw [if_neg h3, hda.2 h3]
  · rw [if_neg hd] at h0
    exact absurd h0 hd

def effP (q : List UInt8) (s : Option Nd) (p : Pt) : Option Nd := if (whatN p).1 = 0 ∧ (whatN p).2.1 ≠ [] then effN (whatN p).2.1 (nodeOf p (joinS (whatN p).2.1)) q s else s
def clrB (q : List UInt8) (p : Pt) : Bool := (decide ((whatN p).1 = 1) && (decide (q = joinS (whatN p).2.1) || underL (parts q) (whatN p).2.1)) || (decide ((whatN p).1 = 2) && underL (parts q) (whatN p).2.1)
def clrQ (q : List UInt8) (ps : List Pt) (s : Option Nd) : Option Nd := if ps.any (clrB q) = true then none else s

theorem run_at : ∀ (ps : List Pt) (t : List Nd), Valid t → (runF ps t).2 = 0 → ∀ q, atF (runF ps t).1 q = ps.foldl (effP q) (atF t q) := by
  intro ps
  induction ps with
  | nil => intro t _ _ q; rfl
  | cons p r ih =>
    intro t hv h0 q
    unfold runF at h0 ⊢
    by_cases hp : (putsF t p).2 = 0
    · rw [if_pos hp] at h0 ⊢
      rw [ih _ (putsF_valid hv hp) h0 q, List.foldl_cons]
      congr 1
      unfold putsF effP at *
      by_cases hc : (whatN p).1 = 0 ∧ (whatN p).2.1 ≠ []
      · rw [if_pos hc] at hp ⊢
        rw [if_pos hc]
        exact node_at (whatN_sh p).1 hv rfl hp q
      · rw [if_neg hc, if_neg hc]
    · rw [if_neg hp] at h0
      exact absurd h0 hp

theorem clr_at {t : List Nd} (hv : Valid t) (p : Pt) (q : List UInt8) : atF (clrT t p) q = if clrB q p = true then none else atF t q := by
  have hvt := clrT_valid hv p
  have hsh := whatN_sh p
  have hpp : parts (joinS (whatN p).2.1) = (whatN p).2.1 := parts_joinS _ hsh.1
  refine opt_ext fun x => ?_
  rw [at_iff hvt.ord]
  have key : ∀ P : Nd → Bool, (∀ x, x.1 = q → P x = !clrB q p) → ((x ∈ t.filter P ∧ x.1 = q) ↔ (if clrB q p = true then none else atF t q) = some x) := by
    intro P hP
    rw [List.mem_filter]
    by_cases hb : clrB q p = true
    · rw [if_pos hb]
      constructor
      · rintro ⟨⟨_, a⟩, b⟩
        rw [hP x b, hb] at a; cases a
      · intro e; cases e
    · rw [if_neg hb, at_iff hv.ord]
      constructor
      · rintro ⟨⟨a, _⟩, b⟩; exact ⟨a, b⟩
      · rintro ⟨a, b⟩; exact ⟨⟨a, by rw [hP x b]; simpa using hb⟩, b⟩
  unfold clrT
  by_cases h1 : (whatN p).1 = 1
  · rw [if_pos h1]
    refine key _ fun y hy => ?_
    unfold gone clrB
    rw [hy, hpp, h1]; simp
  · rw [if_neg h1]
    by_cases h2 : (whatN p).1 = 2
    · rw [if_pos h2]
      refine key _ fun y hy => ?_
      unfold clrB
      rw [hy, hpp, h2]; simp
    · rw [if_neg h2]
      have hb : clrB q p = false := by unfold clrB; rw [decide_eq_false h1, decide_eq_false h2]; rfl
      rw [if_neg (by rw [hb]; decide), at_iff hv.ord]

theorem clears_at : ∀ (ps : List Pt) (t : List Nd), Valid t → ∀ q, atF (ps.foldl clrT t) q = clrQ q ps (atF t q) := by
  intro ps
  induction ps with
  | nil => intro t _ q; rfl
  | cons p r ih =>
    intro t hv q
    rw [List.foldl_cons, ih _ (clrT_valid hv p) q, clr_at hv p q]
    unfold clrQ
    rw [List.any_cons]
    cases clrB q p with
    | false => rfl
    | true =>
      rw [if_pos rfl]
      simp

theorem lay_at {l : List Nd} (hv : Valid l) {ps : List Pt} (ha : allOk ps = true) (h0 : (layF l ps).2 = 0) : Valid (layF l ps).1 ∧ ∀ q, atF (layF l ps).1 q = ps.foldl (effP q) (clrQ q ps (atF l q)) := by
  have hl : layF l ps = runF ps (ps.foldl clrT l) := by unfold layF; rw [if_pos hv, if_pos ha]
  rw [hl] at h0 ⊢
  have hf := folds_valid ps l hv
  refine ⟨?_, fun q => ?_⟩
  · rcases runF_valid ps _ hf with ⟨_, h⟩ | ⟨h, _⟩
    · exact h
    · exact absurd h0 h
  · rw [run_at ps _ hf h0 q, clears_at ps l hv q]
end Go.Ge

/- The law OverlayNames: what a diff names is there as it says: in plain words. -/
namespace Go.Ge
set_option linter.unusedVariables false
set_option linter.unusedSimpArgs false

theorem from_loop {α β S R : Type} {f : S → Option (S ⊕ R)} (l : List α) (mk : β → Nat → S) (step : β → α → β) (fin : β → R)
    (h : ∀ (i : Nat) (x : α) (b : β), l[i]? = some x → f (mk b i) = some (.inl (mk (step b x) (i + 1)))) (hend : ∀ b, f (mk b l.length) = some (.inr (fin b))) :
    ∀ (d i : Nat) (b : β), i + d = l.length → Loop f (mk b i) = some (fin ((l.drop i).foldl step b)) := by
  intro d
  induction d with
  | zero =>
    intro i b hi
    obtain rfl : i = l.length := by omega
    rw [List.drop_length, Loop_eq, hend]; rfl
  | succ d ih =>
    intro i b hi
    have hx : l[i]? = some l[i] := List.getElem?_eq_getElem (by omega)
    rw [List.drop_eq_getElem_cons (by omega), List.foldl_cons, Loop_eq, h i _ b hx]
    exact ih (i + 1) _ (by omega)
theorem fold_or {α : Type} (c : α → Bool) : ∀ (l : List α) (b : Bool), l.foldl (fun b x => b || c x) b = (b || l.any c) := by
  intro l
  induction l with
  | nil => intro b; simp
  | cons x r ih => intro b; rw [List.foldl_cons, ih, List.any_cons, Bool.or_assoc]
theorem fold_or2 {α : Type} (c d : α → Bool) : ∀ (l : List α) (b : Bool × Bool), l.foldl (fun b x => (b.1 || c x, b.2 || d x)) b = (b.1 || l.any c, b.2 || l.any d) := by
  intro l
  induction l with
  | nil => intro b; simp
  | cons x r ih => intro b; rw [List.foldl_cons, ih, List.any_cons, List.any_cons, Bool.or_assoc, Bool.or_assoc]

def touB (q : List UInt8) (p : Pt) : Bool := decide ((whatN p).1 = 0) && (decide (joinS (whatN p).2.1 = q) || underL (parts q) (whatN p).2.1 || underL (whatN p).2.1 (parts q))

theorem what_parts (p : Pt) : parts (joinS (whatN p).2.1) = (whatN p).2.1 := parts_joinS _ (whatN_sh p).1
theorem eff_id {q : List UInt8} {p : Pt} (h : touB q p = false) (s : Option Nd) : effP q s p = s := by
  unfold effP
  by_cases hc : (whatN p).1 = 0 ∧ (whatN p).2.1 ≠ []
  · rw [if_pos hc]
    unfold touB at h
    rw [decide_eq_true hc.1, Bool.true_and, Bool.or_eq_false_iff, Bool.or_eq_false_iff] at h
    unfold effN
    rw [if_neg (fun e : q = (nodeOf p (joinS (whatN p).2.1)).1 => of_decide_eq_false h.1.1 e.symm), if_neg (fun z => by rw [h.1.2] at z; exact Bool.noConfusion z.1), if_neg (fun z => by rw [h.2] at z; exact Bool.noConfusion z.1)]
  · rw [if_neg hc]
theorem effs_id {q : List UInt8} : ∀ {ps : List Pt}, ps.any (touB q) = false → ∀ s, ps.foldl (effP q) s = s := by
  intro ps
  induction ps with
  | nil => intro _ s; rfl
  | cons p r ih =>
    intro h s
    rw [List.any_cons, Bool.or_eq_false_iff] at h
    rw [List.foldl_cons, eff_id h.1, ih h.2]

theorem nd_self (n : Nd) : an (eqS n.1 n.1) (an (eqI n.2.1 n.2.1) (an (eqI n.2.2.1 n.2.2.1) (an (eqS n.2.2.2.1 n.2.2.2.1) (an (eqS n.2.2.2.2.1 n.2.2.2.2.1) true)))) = true := by simp [an, eqS, eqI, sel]

theorem refWhat15 (p : Pt) (hp : SmP p) : P_ref15_What (p, ()) = some ((whatN p).1, (joinS (whatN p).2.1, ((whatN p).2.2, ()))) := by
  unfold P_ref15_What
  dsimp only
  rw [refWhat_val p hp, obind_some]

theorem lay_errs {l : List Nd} (hv : Valid l) (ps : List Pt) : ((layF l ps).2 = 0 ∧ allOk ps = true) ∨ ((layF l ps).2 ≠ 0 ∧ (layF l ps).1 = [] ∧ ((layF l ps).2 = 10 ∨ (layF l ps).2 = 5)) := by
  by_cases ha : allOk ps = true
  · have hl : layF l ps = runF ps (ps.foldl clrT l) := by unfold layF; rw [if_pos hv, if_pos ha]
    rw [hl]
    have hf := folds_valid ps l hv
    rcases runF_valid ps _ hf with ⟨a1, a2⟩ | ⟨a1, a2⟩
    · exact .inl ⟨a1, ha⟩
    · rcases run_room ps _ ha hf with b | b
      · exact absurd b a1
      · exact .inr ⟨a1, a2, .inr b⟩
  · have hl : layF l ps = ([], 10) := by unfold layF; rw [if_pos hv, if_neg ha]
    rw [hl]
    exact .inr ⟨by decide, rfl, .inl rfl⟩

theorem again_val (l : List Nd) (ps : List Pt) (hp : SmPs ps) (path : List UInt8) (hpl : path.length ≤ 200) (m : Int) (ok : Bool) (i : Nat) (hi : i ≤ ps.length) :
    ∃ j, Loop (P_law15_OverlayNames_L1 (l, (ps, ())) (m, (path, (ok, ())))) ((false, ((i : Int), ())), ()) = some (((ps.drop i).any (touB path), (j, ())), ()) := by
  have h1 := hp.1
  have := from_loop (f := P_law15_OverlayNames_L1 (l, (ps, ())) (m, (path, (ok, ())))) ps (fun (b : Bool) i => ((b, ((i : Int), ())), ())) (fun b x => b || touB path x) (fun b => ((b, ((ps.length : Int), ())), ())) (fun i x b hx => by
    have hil := getElem?_lt hx
    have hsh := whatN_sh x
    unfold P_law15_OverlayNames_L1
    dsimp only
    rw [ltI_len_true hil, sel_true, idx_some' hx, obind_some, refWhat15 x (hp.2 x (List.mem_of_getElem? hx)), obind_some, iadd_one (by omega)]
    dsimp only
    rw [refUnder_val _ _ (by have := hsh.2.2; omega) (by omega), obind_some, refUnder_val _ _ (by omega) (by have := hsh.2.2; omega), obind_some, what_parts]
    unfold touB
    have e1 : eqI (whatN x).1 0 = decide ((whatN x).1 = 0) := rfl
    have e2 : eqS (joinS (whatN x).2.1) path = decide (joinS (whatN x).2.1 = path) := rfl
    rw [e1, e2]
    cases b <;> cases decide ((whatN x).1 = 0) <;> cases decide (joinS (whatN x).2.1 = path) <;> cases underL (whatN x).2.1 (parts path) <;> cases underL (parts path) (whatN x).2.1 <;> rfl) (fun b => by
    unfold P_law15_OverlayNames_L1
    dsimp only
    rw [ltI_len_end, sel_false]
    rfl) (ps.length - i) i false (by omega)
  rw [fold_or, Bool.false_or] at this
  exact ⟨_, this⟩

theorem touch_val (l : List Nd) (ps : List Pt) (hl : SmL l) (hp : SmPs ps) (k : Nat) (n : Nd) (hk : l[k]? = some n) (b : Bool) :
    ∃ j, Loop (P_law15_OverlayNames_L3 (l, (ps, ())) ((b, ((k : Int), ())), ())) ((false, (false, ((0 : Int), ()))), ()) = some ((ps.any (touB n.1), (ps.any (clrB n.1), (j, ()))), ()) := by
  have h1 := hp.1
  have hn := (hl.at hk).1
  have := from_loop (f := P_law15_OverlayNames_L3 (l, (ps, ())) ((b, ((k : Int), ())), ())) ps (fun (b : Bool × Bool) i => ((b.1, (b.2, ((i : Int), ()))), ())) (fun b x => (b.1 || touB n.1 x, b.2 || clrB n.1 x)) (fun b => ((b.1, (b.2, ((ps.length : Int), ()))), ())) (fun i x b hx => by
    have hil := getElem?_lt hx
    have hsh := whatN_sh x
    unfold P_law15_OverlayNames_L3
    dsimp only
    rw [ltI_len_true hil, sel_true, idx_some' hx, obind_some, refWhat15 x (hp.2 x (List.mem_of_getElem? hx)), obind_some, idx_some' hk, obind_some, iadd_one (by omega)]
    dsimp only
    rw [refUnder_val _ _ (by omega) (by have := hsh.2.2; omega), obind_some]
    simp only [obind_some]
    rw [refUnder_val _ _ (by have := hsh.2.2; omega) (by omega), obind_some, what_parts]
    unfold touB clrB
    have e0 : eqI (whatN x).1 0 = decide ((whatN x).1 = 0) := rfl
    have e1 : eqI (whatN x).1 1 = decide ((whatN x).1 = 1) := rfl
    have e3 : eqI (whatN x).1 2 = decide ((whatN x).1 = 2) := rfl
    have e2 : eqS (joinS (whatN x).2.1) n.1 = decide (joinS (whatN x).2.1 = n.1) := rfl
    have e4 : decide (n.1 = joinS (whatN x).2.1) = decide (joinS (whatN x).2.1 = n.1) := decide_eq_decide.2 eq_comm
    rw [e0, e1, e3, e2, e4]
    obtain ⟨b1, b2⟩ := b
    cases b1 <;> cases b2 <;> cases decide ((whatN x).1 = 0) <;> cases decide ((whatN x).1 = 1) <;> cases decide ((whatN x).1 = 2) <;> cases decide (joinS (whatN x).2.1 = n.1) <;> cases underL (whatN x).2.1 (parts n.1) <;> cases underL (parts n.1) (whatN x).2.1 <;> rfl) (fun b => by
    unfold P_law15_OverlayNames_L3
    dsimp only
    rw [ltI_len_end, sel_false]
    rfl) ps.length 0 (false, false) (by omega)
  rw [fold_or2, Bool.false_or, Bool.false_or, List.drop_zero] at this
  exact ⟨_, this⟩

theorem allOk_at {ps : List Pt} (h : allOk ps = true) {i : Nat} {x : Pt} (hx : ps[i]? = some x) : (whatN x).2.2 = true := by
  unfold allOk at h
  rw [List.all_eq_true] at h
  exact h x (List.mem_of_getElem? hx)

theorem overlayNames_val (l : List Nd) (ps : List Pt) : P_law15_OverlayNames (l, (ps, ())) = some (true, ()) := by
  obtain ⟨f1, e1, g1⟩ := few14_val l 30 30 rfl (by omega)
  obtain ⟨f2, e2, g2⟩ := few_val ps 8 (by omega)
  unfold P_law15_OverlayNames
  dsimp only
  rw [e1, obind_some]
  dsimp only
  cases hf1 : f1 with
  | false => rw [show nt (nt false) = false from rfl, sel_false, obind_some, nt_true, sel_false, obind_some, sel_true, awake15]; rfl
  | true =>
  rw [show nt (nt true) = true from rfl, sel_true, show P_ref13_Few (ps, ((8 : Int), ())) = _ from e2, obind_some, obind_some]
  dsimp only
  cases hf2 : f2 with
  | false => rw [show nt (nt false) = false from rfl, sel_false, obind_some, sel_true, awake15]; rfl
  | true =>
  obtain ⟨la, ha⟩ := g1 hf1
  obtain ⟨v, v1, v2⟩ := isTree_val l ha
  rw [show nt (nt true) = true from rfl, sel_true, v1, obind_some, obind_some]
  dsimp only
  refine ifawake15 fun hc => ?_
  have hv : Valid l := v2.1 (by cases v with | true => rfl | false => cases hc)
  have hps : SmPs ps := ⟨by have := (g2 hf2).many; omega, fun p hp => ⟨(g2 hf2).path p hp, (g2 hf2).link p hp, (g2 hf2).data p hp⟩⟩
  have hp1 := hps.1
  rw [lay_val l ps ha hps, obind_some]
  dsimp only
  rcases lay_errs hv ps with ⟨h0, hall⟩ | ⟨h0, hnil, herr⟩
  case inr =>
    rw [eqI_false h0, nt_false, sel_true, hnil, awake15]
    rcases herr with h | h <;> rw [h] <;> rfl
  obtain ⟨hvt, hat⟩ := lay_at hv hall h0
  rw [h0, show nt (eqI 0 0) = false from rfl, sel_false]
  have first : Loop (P_law15_OverlayNames_L0 (l, (ps, ())) ((layF l ps).1, ((0 : Int), ()))) ((false, ((0 : Int), ())), ()) = some (0, ((false, ((ps.length : Int), ())), ())) := by
    have := from_loop (f := P_law15_OverlayNames_L0 (l, (ps, ())) ((layF l ps).1, ((0 : Int), ()))) ps (fun (b : Unit) i => ((false, ((i : Int), ())), ())) (fun b x => b) (fun b => (0, ((false, ((ps.length : Int), ())), ()))) (fun i x b hx => by
      have hil := getElem?_lt hx
      have hsh := whatN_sh x
      unfold P_law15_OverlayNames_L0
      dsimp only
      rw [ltI_len_true hil, sel_true, idx_some' hx, obind_some, refWhat15 x (hps.2 x (List.mem_of_getElem? hx)), obind_some, iadd_one (by omega)]
      dsimp only
      rw [allOk_at hall hx, nt_true, sel_false]
      by_cases hm : (whatN x).1 = 0
      · by_cases hn : joinS (whatN x).2.1 = []
        · rw [eqI_true hm, eqS_true hn]; rfl
        · rw [eqI_true hm, eqS_false hn, show sel (nt (nt true)) false true = false from rfl, sel_false]
          obtain ⟨j, hj⟩ := again_val l ps hps (joinS (whatN x).2.1) hsh.2.2 (whatN x).1 true (i + 1) (by omega)
          rw [hm] at hj ⊢
          rw [hj, obind_some, refFind_val _ _ (valid_sm hvt) hvt, obind_some, obind_some, obind_some]
          dsimp only
          cases hag : (ps.drop (i + 1)).any (touB (joinS (whatN x).2.1)) with
          | true => rfl
          | false =>
            have hfind : atF (layF l ps).1 (joinS (whatN x).2.1) = some (nodeOf x (joinS (whatN x).2.1)) := by
              have hsplit : ps = ps.take i ++ x :: ps.drop (i + 1) := by
                have h2 := List.drop_eq_getElem_cons (l := ps) (i := i) (by omega)
                rw [List.getElem?_eq_getElem (by omega)] at hx
                rw [← Option.some.inj hx, ← h2, List.take_append_drop]
              rw [hat]
              conv => lhs; arg 3; rw [hsplit]
              rw [List.foldl_append, List.foldl_cons, effs_id hag]
              unfold effP effN
              rw [if_pos ⟨hm, fun e => hn (by rw [e]; rfl)⟩, if_pos (show joinS (whatN x).2.1 = (nodeOf x (joinS (whatN x).2.1)).1 from rfl)]
            rw [find_at, hfind, nt_false, sel_true]
            dsimp only
            have hself := nd_self (nodeOf x (joinS (whatN x).2.1))
            unfold nodeOf at hself ⊢
            dsimp only at hself ⊢
            rw [hself]
            rfl
      · rw [eqI_false hm]; rfl) (fun b => by
      unfold P_law15_OverlayNames_L0
      dsimp only
      rw [ltI_len_end, sel_false]) ps.length 0 () (by omega)
    exact this
  rw [first, obind_some, show eqN 0 0 = true from rfl, sel_true]
  dsimp only
  have second : Loop (P_law15_OverlayNames_L2 (l, (ps, ())) ((layF l ps).1, ((0 : Int), ()))) ((false, ((0 : Int), ())), ()) = some (0, ((false, ((l.length : Int), ())), ())) := by
    have := from_loop (f := P_law15_OverlayNames_L2 (l, (ps, ())) ((layF l ps).1, ((0 : Int), ()))) l (fun (b : Unit) i => ((false, ((i : Int), ())), ())) (fun b x => b) (fun b => (0, ((false, ((l.length : Int), ())), ()))) (fun i x b hx => by
      have hil := getElem?_lt hx
      obtain ⟨j, hj⟩ := touch_val l ps ha hps i x hx false
      unfold P_law15_OverlayNames_L2
      dsimp only
      rw [ltI_len_true hil, sel_true, hj, obind_some, idx_some' hx, obind_some, refFind_val _ _ (valid_sm hvt) hvt, obind_some, obind_some, iadd_one (by omega)]
      dsimp only
      cases ht : ps.any (touB x.1) with
      | true => rfl
      | false =>
        have hfind : atF (layF l ps).1 x.1 = if ps.any (clrB x.1) = true then none else some x := by
          rw [hat, effs_id ht]
          unfold clrQ
          rw [(at_iff hv.ord).2 ⟨List.mem_of_getElem? hx, rfl⟩]
        rw [find_at, hfind]
        cases hg : ps.any (clrB x.1) with
        | true => rfl
        | false =>
          rw [if_neg (by decide)]
          dsimp only
          rw [nd_self]
          rfl) (fun b => by
      unfold P_law15_OverlayNames_L2
      dsimp only
      rw [ltI_len_end, sel_false]) l.length 0 () (by omega)
    exact this
  rw [second, obind_some, show eqN 0 0 = true from rfl, sel_true, awake15]
  rfl
end Go.Ge
