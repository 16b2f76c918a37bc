/- Plain laws of what the functions compute: part 2. -/
import Derived.Test.YtpcimoekpbilgaaGreatDoorPlA
/- The order of texts; two lists gone through side by side. -/
namespace Go.Ge
set_option linter.unusedVariables false
set_option linter.unusedSimpArgs false

theorem ltS_nil (y : List UInt8) : ltS [] y = decide (y ≠ []) := by cases y <;> simp [ltS, Op.bytesLess]
theorem ltS_nil' (x : List UInt8) : ltS x [] = false := by cases x <;> simp [ltS, Op.bytesLess]
theorem ltS_cons (a b : UInt8) (x y : List UInt8) : ltS (a :: x) (b :: y) = (decide (a < b) || (a == b && ltS x y)) := by simp [ltS, Op.bytesLess]

theorem u8_irrefl (a : UInt8) : ¬ a < a := UInt8.lt_irrefl a
theorem u8_tri (a b : UInt8) : a < b ∨ a = b ∨ b < a := by
  rcases Nat.lt_trichotomy a.toNat b.toNat with h | h | h
  · exact .inl h
  · exact .inr (.inl (UInt8.toNat_inj.1 h))
  · exact .inr (.inr h)

theorem ltS_irrefl : ∀ x : List UInt8, ltS x x = false := by
  intro x
  induction x with
  | nil => rfl
  | cons a x ih => rw [ltS_cons, ih]; simp [u8_irrefl]

theorem ltS_trans : ∀ {x y z : List UInt8}, ltS x y = true → ltS y z = true → ltS x z = true := by
  intro x
  induction x with
  | nil =>
    intro y z h k
    cases z with
    | nil => rw [ltS_nil'] at k; cases k
    | cons c z => rfl
  | cons a x ih =>
    intro y z h k
    cases y with
    | nil => rw [ltS_nil'] at h; cases h
    | cons b y =>
      cases z with
      | nil => rw [ltS_nil'] at k; cases k
      | cons c z =>
        rw [ltS_cons] at h k ⊢
        simp only [Bool.or_eq_true, decide_eq_true_eq, Bool.and_eq_true, beq_iff_eq] at h k ⊢
        rcases h with h | ⟨rfl, h⟩
        · rcases k with k | ⟨rfl, k⟩
          · exact .inl (UInt8.lt_trans h k)
          · exact .inl h
        · rcases k with k | ⟨rfl, k⟩
          · exact .inl k
          · exact .inr ⟨rfl, ih h k⟩

theorem ltS_tri : ∀ (x y : List UInt8), ltS x y = true ∨ x = y ∨ ltS y x = true := by
  intro x
  induction x with
  | nil => intro y; cases y <;> simp [ltS_nil]
  | cons a x ih =>
    intro y
    cases y with
    | nil => exact .inr (.inr rfl)
    | cons b y =>
      rw [ltS_cons, ltS_cons]
      simp only [Bool.or_eq_true, decide_eq_true_eq, Bool.and_eq_true, beq_iff_eq]
      rcases u8_tri a b with h | rfl | h
      · exact .inl (.inl h)
      · rcases ih y with h | rfl | h
        · exact .inl (.inr ⟨rfl, h⟩)
        · exact .inr (.inl rfl)
        · exact .inr (.inr (.inr ⟨rfl, h⟩))
      · exact .inr (.inr (.inl h))

theorem ltS_asymm {x y : List UInt8} (h : ltS x y = true) : ltS y x = false := by
  cases k : ltS y x with
  | false => rfl
  | true => have := ltS_trans h k; rw [ltS_irrefl] at this; cases this
theorem ltS_ne {x y : List UInt8} (h : ltS x y = true) : x ≠ y := fun e => by rw [e, ltS_irrefl] at h; cases h

theorem gtS_eq (x y : List UInt8) : nt (oor (ltS x y) (eqS x y)) = ltS y x := by
  rcases ltS_tri x y with h | rfl | h
  · rw [h, ltS_asymm h]; rfl
  · rw [eqS_self, ltS_irrefl]; rfl
  · rw [h, ltS_asymm h, eqS_false (fun e => ltS_ne h e.symm)]; rfl

def cmpS (x y : List UInt8) : Int := if ltS x y = true then -1 else if x = y then 0 else 1

def cmpL : List (List UInt8) → List (List UInt8) → Int
  | [], [] => 0
  | [], _ :: _ => -1
  | _ :: _, [] => 1
  | a :: x, b :: y => if a = b then cmpL x y else if ltS a b = true then -1 else 1

theorem cmpL_self : ∀ x, cmpL x x = 0 := by
  intro x
  induction x with
  | nil => rfl
  | cons a x ih => rw [cmpL, if_pos rfl]; exact ih
theorem cmpL_zero : ∀ {x y}, cmpL x y = 0 → x = y := by
  intro x
  induction x with
  | nil => intro y h; cases y with | nil => rfl | cons b y => cases h
  | cons a x ih =>
    intro y h
    cases y with
    | nil => cases h
    | cons b y =>
      rw [cmpL] at h
      split at h
      · rename_i e; rw [e, ih h]
      · split at h <;> cases h
theorem cmpL_neg : ∀ x y, cmpL x y = - cmpL y x := by
  intro x
  induction x with
  | nil => intro y; cases y <;> rfl
  | cons a x ih =>
    intro y
    cases y with
    | nil => rfl
    | cons b y =>
      rw [cmpL, cmpL]
      by_cases e : a = b
      · rw [if_pos e, if_pos e.symm, ih y]
      · have e' : ¬ b = a := fun q => e q.symm
        rw [if_neg e, if_neg e']
        rcases ltS_tri a b with h | h | h
        · rw [if_pos h, if_neg (by rw [ltS_asymm h]; simp)]
        · exact absurd h e
        · rw [if_neg (by rw [ltS_asymm h]; simp), if_pos h]; rfl
theorem cmpL_trans : ∀ {x y z}, cmpL x y < 0 → cmpL y z < 0 → cmpL x z < 0 := by
  intro x
  induction x with
  | nil =>
    intro y z h k
    cases z with
    | nil => cases y with | nil => exact absurd k (by simp [cmpL]) | cons b y => exact absurd k (by simp [cmpL])
    | cons c z => exact (by decide : (-1 : Int) < 0)
  | cons a x ih =>
    intro y z h k
    cases y with
    | nil => exact absurd h (by simp [cmpL])
    | cons b y =>
      cases z with
      | nil => exact absurd k (by simp [cmpL])
      | cons c z =>
        rw [cmpL] at h k ⊢
        by_cases e : a = b
        · subst e
          rw [if_pos rfl] at h
          by_cases e2 : a = c
          · subst e2
            rw [if_pos rfl] at k ⊢
            exact ih h k
          · rw [if_neg e2] at k ⊢
            exact k
        · rw [if_neg e] at h
          have hab : ltS a b = true := by
            cases q : ltS a b with
            | true => rfl
            | false => rw [q, if_neg (by simp)] at h; exact absurd h (by decide)
          by_cases e2 : b = c
          · subst e2
            rw [if_neg e]
            exact h
          · rw [if_neg e2] at k
            have hbc : ltS b c = true := by
              cases q : ltS b c with
              | true => rfl
              | false => rw [q, if_neg (by simp)] at k; exact absurd k (by decide)
            have hac := ltS_trans hab hbc
            rw [if_neg (ltS_ne hac), if_pos hac]
            decide
theorem cmpL_app (x r : List (List UInt8)) (h : r ≠ []) : cmpL x (x ++ r) = -1 := by
  induction x with
  | nil => cases r with | nil => exact absurd rfl h | cons a r => rfl
  | cons a x ih => rw [List.cons_append, cmpL, if_pos rfl]; exact ih

/-! ### Side by side -/
theorem zip_at {α β : Type} {x : List α} {y : List β} {i : Nat} {p : α × β} (h : (x.zip y)[i]? = some p) : x[i]? = some p.1 ∧ y[i]? = some p.2 := by
  rw [List.getElem?_zip_eq_some] at h
  exact h
theorem zip_same {α : Type} [DecidableEq α] : ∀ (x y : List α), (x.zip y).all (fun p => decide (p.1 = p.2)) = decide (x.take (min x.length y.length) = y.take (min x.length y.length)) := by
  intro x
  induction x with
  | nil => intro y; simp
  | cons a x ih =>
    intro y
    cases y with
    | nil => simp
    | cons b y =>
      rw [List.zip_cons_cons, List.all_cons, ih y]
      simp only [List.length_cons, Nat.add_min_add_right, List.take_succ_cons]
      by_cases e : a = b
      · subst e; simp
      · simp [e]
theorem zip_same_len {α : Type} [DecidableEq α] {x y : List α} (h : x.length = y.length) : (x.zip y).all (fun p => decide (p.1 = p.2)) = decide (x = y) := by
  rw [zip_same, h, Nat.min_self, List.take_length, ← h, List.take_length]
end Go.Ge

/- Plain laws of loops that look for something in a list. -/
namespace Go.Ge
set_option linter.unusedVariables false
set_option linter.unusedSimpArgs false

theorem first_or {α : Type} (l : List α) (p : Nat → α → Bool) :
    (∃ i x, l[i]? = some x ∧ p i x = true ∧ ∀ j y, j < i → l[j]? = some y → p j y = false) ∨ ∀ i x, l[i]? = some x → p i x = false := by
  by_cases h : ∃ i x, l[i]? = some x ∧ p i x = true
  · left
    have key : ∀ n i x, i ≤ n → l[i]? = some x → p i x = true → ∃ i x, l[i]? = some x ∧ p i x = true ∧ ∀ j y, j < i → l[j]? = some y → p j y = false := by
      intro n
      induction n with
      | zero =>
        intro i x hi hx hp
        obtain rfl : i = 0 := by omega
        exact ⟨0, x, hx, hp, fun j y hj => by omega⟩
      | succ n ih =>
        intro i x hi hx hp
        by_cases k : ∃ j y, j < i ∧ l[j]? = some y ∧ p j y = true
        · obtain ⟨j, y, hj, hy, hq⟩ := k
          exact ih j y (by omega) hy hq
        · refine ⟨i, x, hx, hp, fun j y hj hy => ?_⟩
          cases hq : p j y with
          | false => rfl
          | true => exact absurd ⟨j, y, hj, hy, hq⟩ k
    obtain ⟨i, x, hx, hp⟩ := h
    exact key i i x (Nat.le_refl _) hx hp
  · right
    intro i x hx
    cases hq : p i x with
    | false => rfl
    | true => exact absurd ⟨i, x, hx, hq⟩ h

theorem srch {α S R : Type} {f : S → Option (S ⊕ R)} (l : List α) (mk : Int → S) (p : Nat → α → Bool) (hitS : Nat → α → R) (finS : R) (hl : l.length ≤ 4294967296)
    (hstep : ∀ i x, l[i]? = some x → i < l.length → iadd .i64 (i : Int) 1 = ((i + 1 : Nat) : Int) → f (mk (i : Int)) = some (if p i x = true then .inr (hitS i x) else .inl (mk ((i + 1 : Nat) : Int))))
    (hfin : f (mk (l.length : Int)) = some (.inr finS)) :
    (∃ i x, l[i]? = some x ∧ p i x = true ∧ (∀ j y, j < i → l[j]? = some y → p j y = false) ∧ Loop f (mk 0) = some (hitS i x)) ∨ ((∀ i x, l[i]? = some x → p i x = false) ∧ Loop f (mk 0) = some finS) := by
  have adv : ∀ i x, l[i]? = some x → p i x = false → f (mk (i : Int)) = some (.inl (mk ((i + 1 : Nat) : Int))) := fun i x hx hp => by
    have hi := getElem?_lt hx
    rw [hstep i x hx hi (iadd_one (by omega)), hp]; rfl
  rcases first_or l p with ⟨i, x, hx, hp, hj⟩ | hn
  · left
    refine ⟨i, x, hx, hp, hj, ?_⟩
    have hi := getElem?_lt hx
    refine loop_seq i (fun j : Nat => mk (j : Int)) (fun j hji => ?_) ?_
    · have hjl : j < l.length := by omega
      exact adv j l[j] (List.getElem?_eq_getElem hjl) (hj j _ hji (List.getElem?_eq_getElem hjl))
    · rw [hstep i x hx hi (iadd_one (by omega)), hp]; rfl
  · right
    refine ⟨hn, loop_seq l.length (fun j : Nat => mk (j : Int)) (fun j hj => ?_) hfin⟩
    exact adv j l[j] (List.getElem?_eq_getElem hj) (hn j _ (List.getElem?_eq_getElem hj))

theorem srchTo {α S R : Type} {f : S → Option (S ⊕ R)} (l : List α) (n : Nat) (mk : Int → S) (p : Nat → α → Bool) (hitS : Nat → α → R) (finS : Nat → R) (hl : min n l.length ≤ 4294967296)
    (hstep : ∀ i x, l[i]? = some x → i < l.length → i < n → iadd .i64 (i : Int) 1 = ((i + 1 : Nat) : Int) → f (mk (i : Int)) = some (if p i x = true then .inr (hitS i x) else .inl (mk ((i + 1 : Nat) : Int))))
    (hfin : f (mk ((min n l.length : Nat) : Int)) = some (.inr (finS (min n l.length)))) :
    (∃ i x, i < n ∧ l[i]? = some x ∧ p i x = true ∧ (∀ j y, j < i → l[j]? = some y → p j y = false) ∧ Loop f (mk 0) = some (hitS i x)) ∨ ((∀ i x, i < n → l[i]? = some x → p i x = false) ∧ Loop f (mk 0) = some (finS (min n l.length))) := by
  have ht : ∀ i x, (l.take n)[i]? = some x ↔ (i < n ∧ l[i]? = some x) := fun i x => by
    rw [List.getElem?_take]
    by_cases h : i < n
    · simp [h]
    · simp [h]
  have hlen : (l.take n).length = min n l.length := List.length_take
  rcases srch (f := f) (l.take n) mk p hitS (finS (min n l.length)) (by rw [hlen]; exact hl) (fun i x hx hi hadd => by
      obtain ⟨h1, h2⟩ := (ht i x).1 hx
      exact hstep i x h2 (getElem?_lt h2) h1 hadd) (by rw [hlen]; exact hfin) with ⟨i, x, hx, hp, hj, h⟩ | ⟨hn, h⟩
  · obtain ⟨h1, h2⟩ := (ht i x).1 hx
    exact .inl ⟨i, x, h1, h2, hp, fun j y hji hy => hj j y hji ((ht j y).2 ⟨by omega, hy⟩), h⟩
  · exact .inr ⟨fun i x hi hx => hn i x ((ht i x).2 ⟨hi, hx⟩), h⟩

theorem fold_loop {α σ S R : Type} {f : S → Option (S ⊕ R)} (l : List α) (mk : σ → Int → S) (step : σ → Nat → α → σ) (fin : σ → R) (Inv : σ → Nat → Prop) (hl : l.length ≤ 4294967296)
    (hstep : ∀ s i x, l[i]? = some x → i < l.length → iadd .i64 (i : Int) 1 = ((i + 1 : Nat) : Int) → Inv s i → f (mk s (i : Int)) = some (.inl (mk (step s i x) ((i + 1 : Nat) : Int))) ∧ Inv (step s i x) (i + 1))
    (hfin : ∀ s, Inv s l.length → f (mk s (l.length : Int)) = some (.inr (fin s))) (s : σ) (h0 : Inv s 0) : ∃ t, Inv t l.length ∧ Loop f (mk s 0) = some (fin t) ∧ t = (l.zipIdx).foldl (fun a p => step a p.2 p.1) s := by
  have key : ∀ (rest pre : List α) (s : σ), l = pre ++ rest → Inv s pre.length → ∃ t, Inv t l.length ∧ Loop f (mk s (pre.length : Int)) = some (fin t) ∧ t = (rest.zipIdx pre.length).foldl (fun a p => step a p.2 p.1) s := by
    intro rest
    induction rest with
    | nil =>
      intro pre s hl2 hI
      rw [List.append_nil] at hl2
      subst hl2
      exact ⟨s, hI, by rw [Loop_eq, hfin s hI]; rfl, rfl⟩
    | cons x r ih =>
      intro pre s hl2 hI
      have hx : l[pre.length]? = some x := by rw [hl2]; simp
      have hlt := getElem?_lt hx
      obtain ⟨h1, h2⟩ := hstep s pre.length x hx hlt (iadd_one (by omega)) hI
      obtain ⟨t, t1, t2, t3⟩ := ih (pre ++ [x]) (step s pre.length x) (by rw [hl2]; simp) (by rw [List.length_append]; exact h2)
      rw [List.length_append] at t2 t3
      exact ⟨t, t1, by rw [Loop_eq, h1]; exact t2, t3⟩
  exact key l [] s rfl h0

theorem fits_len {α : Type} {l : List α} (h : l.length ≤ 4294967296) : fits (len l) = true := fits_nat' h
theorem mem_at {α : Type} {l : List α} {x : α} : x ∈ l ↔ ∃ i : Nat, l[i]? = some x := by rw [List.mem_iff_getElem?]
end Go.Ge

/- SHA-256 in plain words: rotations, the words of a block, the rounds. -/
namespace Go.Ge
set_option linter.unusedVariables false
set_option linter.unusedSimpArgs false

def rot (n x : Int) : Int := ior .u32 (ishr .u32 x n) (ishl .u32 x (32 - n))

theorem right_of {n m : Int} (h : iand .u64 (icv .u64 (isub .i64 0 n)) 31 = m) (h1 : ltI m 0 = false) (h2 : isub .u64 32 m = n) (h3 : ltI n 0 = false) (h4 : 32 - n = m) (x : Int) : P_sha_right (x, (n, ())) = some (rot n x, ()) := by
  unfold P_sha_right P_math_bits_RotateLeft32 rot
  dsimp only
  rw [h, h1, sel_false, h2, h3, sel_false, obind_some, h4, ior_comm32]
theorem turn_of {n : Int} (h1 : ltI n 0 = false) (h2 : isub .i64 32 n = 32 - n) (h3 : ltI (32 - n) 0 = false) (x : Int) : P_ref02_turn (x, (n, ())) = some (rot n x, ()) := by
  unfold P_ref02_turn rot
  dsimp only
  rw [h1, sel_false, h2, h3, sel_false]

theorem r2 (x : Int) : P_sha_right (x, (2, ())) = some (rot 2 x, ()) := right_of (m := 30) (by decide) (by decide) (by decide) (by decide) (by decide) x
theorem t2 (x : Int) : P_ref02_turn (x, (2, ())) = some (rot 2 x, ()) := turn_of (by decide) (by decide) (by decide) x
/-! ### The words of a block -/
def word (b : List Int) (t : Nat) : Int :=
  ior .u32 (ior .u32 (ior .u32 (ishl .u32 (icv .u32 (b.getD (4 * t) 0)) 24) (ishl .u32 (icv .u32 (b.getD (4 * t + 1) 0)) 16)) (ishl .u32 (icv .u32 (b.getD (4 * t + 2) 0)) 8)) (icv .u32 (b.getD (4 * t + 3) 0))
def zeros (n : Nat) : List Int := List.replicate n 0
def fillW (b : List Int) : Nat → List Int
  | 0 => zeros 64
  | t + 1 => (fillW b t).set t (word b t)
def nextW (p : List Int) (t : Nat) : Int :=
  iadd .u32 (iadd .u32 (iadd .u32 (ixor .u32 (ixor .u32 (rot 17 (p.getD (t - 2) 0)) (rot 19 (p.getD (t - 2) 0))) (ishr .u32 (p.getD (t - 2) 0) 10)) (p.getD (t - 7) 0))
    (ixor .u32 (ixor .u32 (rot 7 (p.getD (t - 15) 0)) (rot 18 (p.getD (t - 15) 0))) (ishr .u32 (p.getD (t - 15) 0) 3))) (p.getD (t - 16) 0)
def extW (l : List Int) : Nat → List Int
  | 0 => l
  | k + 1 => (extW l k).set (16 + k) (nextW (extW l k) (16 + k))
def schedW (b : List Int) : List Int := extW (fillW b 16) 48
/-! ### The same of the reference -/
/-! ### The rounds -/
abbrev W8 := Int × Int × Int × Int × Int × Int × Int × Int
def rnd (k w : Int) : W8 → W8
  | (a, b, c, d, e, f, g, h) =>
    let one := iadd .u32 (iadd .u32 (iadd .u32 (iadd .u32 h (ixor .u32 (ixor .u32 (rot 6 e) (rot 11 e)) (rot 25 e))) (ixor .u32 g (iand .u32 e (ixor .u32 f g)))) k) w
    let two := iadd .u32 (ixor .u32 (ixor .u32 (rot 2 a) (rot 13 a)) (rot 22 a)) (ior .u32 (iand .u32 a b) (iand .u32 c (ior .u32 a b)))
    (iadd .u32 one two, a, b, c, iadd .u32 d one, e, f, g)
def rnds (K w : List Int) (s : W8) : Nat → W8
  | 0 => s
  | t + 1 => rnd (K.getD t 0) (w.getD t 0) (rnds K w s t)
def K256 : List Int := [1116352408, 1899447441, 3049323471, 3921009573, 961987163, 1508970993, 2453635748, 2870763221, 3624381080, 310598401, 607225278, 1426881987, 1925078388, 2162078206, 2614888103, 3248222580, 3835390401, 4022224774, 264347078, 604807628, 770255983, 1249150122, 1555081692, 1996064986, 2554220882, 2821834349, 2952996808, 3210313671, 3336571891, 3584528711, 113926993, 338241895, 666307205, 773529912, 1294757372, 1396182291, 1695183700, 1986661051, 2177026350, 2456956037, 2730485921, 2820302411, 3259730800, 3345764771, 3516065817, 3600352804, 4094571909, 275423344, 430227734, 506948616, 659060556, 883997877, 958139571, 1322822218, 1537002063, 1747873779, 1955562222, 2024104815, 2227730452, 2361852424, 2428436474, 2756734187, 3204031479, 3329325298]
def list8 (s : W8) : List Int := [s.1, s.2.1, s.2.2.1, s.2.2.2.1, s.2.2.2.2.1, s.2.2.2.2.2.1, s.2.2.2.2.2.2.1, s.2.2.2.2.2.2.2]

/-! ### A block -/
def of8 (l : List Int) : W8 := (l.getD 0 0, l.getD 1 0, l.getD 2 0, l.getD 3 0, l.getD 4 0, l.getD 5 0, l.getD 6 0, l.getD 7 0)
def addW (l m : List Int) : Nat → List Int
  | 0 => l
  | i + 1 => (addW l m i).set i (iadd .u32 (l.getD i 0) (m.getD i 0))
def comp (h b : List Int) : List Int := addW h (list8 (rnds K256 (schedW b) (of8 h) 64)) 8
end Go.Ge

/- SHA-256 in plain words: streams. -/
namespace Go.Ge
set_option linter.unusedVariables false
set_option linter.unusedSimpArgs false

def H0 : List Int := [1779033703, 3144134277, 1013904242, 2773480762, 1359893119, 2600822924, 528734635, 1541459225]
def hsB (all : List UInt8) : Nat → List Int
  | 0 => H0
  | k + 1 => comp (hsB all k) (bytesInts ((all.drop (64 * k)).take 64))
abbrev Strm := (Bool × List Int × Unit) × List Int × Int × Unit

def Inv (st : Strm) (all : List UInt8) : Prop :=
  ∃ wait, st = ((decide (64 ≤ all.length), (if 64 ≤ all.length then hsB all (all.length / 64) else zeros 8), ()), wait, (all.length : Int), ()) ∧ wait.length = 64 ∧ wait.take (all.length % 64) = bytesInts (all.drop (64 * (all.length / 64)))

theorem bytesInts_app (a b : List UInt8) : bytesInts (a ++ b) = bytesInts a ++ bytesInts b := by simp [bytesInts]
theorem bytesInts_take (a : List UInt8) (n : Nat) : (bytesInts a).take n = bytesInts (a.take n) := by simp [bytesInts, List.map_take]
theorem length_bytes (a : List UInt8) : (bytesInts a).length = a.length := by simp [bytesInts]

end Go.Ge

/- SHA-256 in plain words: sums, the program's and the reference's. -/
namespace Go.Ge
set_option linter.unusedVariables false
set_option linter.unusedSimpArgs false

/-! ### What stands behind the bytes -/
def zs (n : Nat) : Nat := (119 - n % 64) % 64
/-! ### The reference -/
/-! ### The bytes of the sum -/
/-! ### The program -/
end Go.Ge

/- The laws of layer 02 in plain words. -/
namespace Go.Ge
set_option linter.unusedVariables false
set_option linter.unusedSimpArgs false

abbrev PartS := (Bool × List UInt8 × Int × Unit) × Strm × Strm × Unit

end Go.Ge

/- Bytes as hexadecimal digits, and back, in plain words. -/
namespace Go.Ge
set_option linter.unusedVariables false
set_option linter.unusedSimpArgs false

def hexT : List UInt8 := [48, 49, 50, 51, 52, 53, 54, 55, 56, 57, 97, 98, 99, 100, 101, 102]
def hx (n : Nat) : UInt8 := hexT.getD n 0
/-! ### The reference's digits -/
end Go.Ge

/- Pairs of hexadecimal digits as bytes, in plain words. -/
namespace Go.Ge
set_option linter.unusedVariables false
set_option linter.unusedSimpArgs false

def hv (c : UInt8) : Int := Lib.indexByte hexT c
theorem u8_inj {a b : UInt8} (h : u8 a = u8 b) : a = b := by
  have : a.toNat = b.toNat := by unfold u8 at h; omega
  exact UInt8.toNat_inj.1 this

theorem sub_tail (l : List UInt8) (k : Nat) (h : k ≤ l.length) : sub l (k : Int) (minus (len l) (k : Int)) = l.drop k := by
  unfold sub minus len
  rw [Int.toNat_natCast, List.take_of_length_le (by rw [List.length_drop]; omega)]

end Go.Ge

/- Pairs of hexadecimal digits as bytes: the reference. -/
namespace Go.Ge
set_option linter.unusedVariables false
set_option linter.unusedSimpArgs false

theorem iadd_nat {a b : Nat} (h : a + b < 4611686018427387904) : iadd .i64 (a : Int) (b : Int) = ((a + b : Nat) : Int) := by
  rw [iadd_i64 (by omega) (by omega)]; omega

end Go.Ge

/- Digests in plain words. -/
namespace Go.Ge
set_option linter.unusedVariables false
set_option linter.unusedSimpArgs false

theorem sub_head (l : List UInt8) (k : Nat) : sub l 0 (minus (k : Int) 0) = l.take k := by
  unfold sub minus
  rw [show ((0 : Int).toNat) = 0 from rfl, List.drop_zero, Int.sub_zero, Int.toNat_natCast]

end Go.Ge

/- Octal digits in plain words. -/
namespace Go.Ge
set_option linter.unusedVariables false
set_option linter.unusedSimpArgs false

def octD (n k : Nat) : UInt8 := UInt8.ofNat (48 + n / 8 ^ k % 8)
def octF (n : Nat) : Nat → List UInt8
  | 0 => []
  | k + 1 => octD n k :: octF n k
end Go.Ge

/- Texts without what stands at their ends, and the number of octal digits, in plain words. -/
namespace Go.Ge
set_option linter.unusedVariables false
set_option linter.unusedSimpArgs false
set_option maxRecDepth 100000

/-! ### What stands at the end is let go -/
def rtrim (p : UInt8 → Bool) (s : List UInt8) : List UInt8 := (s.reverse.dropWhile p).reverse
theorem rtrim_snoc_yes {p : UInt8 → Bool} (s : List UInt8) {x : UInt8} (h : p x = true) : rtrim p (s ++ [x]) = rtrim p s := by
  simp [rtrim, List.dropWhile_cons, h]
theorem rtrim_snoc_no {p : UInt8 → Bool} (s : List UInt8) {x : UInt8} (h : p x = false) : rtrim p (s ++ [x]) = s ++ [x] := by
  simp [rtrim, List.dropWhile_cons, h]
theorem rtrim_all {p : UInt8 → Bool} : ∀ (z s : List UInt8), (∀ x ∈ z, p x = true) → rtrim p (s ++ z) = rtrim p s := by
  intro z
  induction z with
  | nil => intro s _; rw [List.append_nil]
  | cons x r ih =>
    intro s h
    rw [show s ++ x :: r = (s ++ [x]) ++ r by simp, ih (s ++ [x]) (fun y hy => h y (List.mem_cons_of_mem _ hy)), rtrim_snoc_yes s (h x (List.mem_cons_self ..))]
theorem last_idx (r : List UInt8) (x : UInt8) (hr : r.length ≤ 1048576) : isub .i64 (len (r ++ [x])) 1 = (r.length : Int) ∧ idx (r ++ [x]) (r.length : Int) = some x := by
  constructor
  · have : len (r ++ [x]) = ((r.length + 1 : Nat) : Int) := by simp [len]
    rw [this, isub_i64 (by omega) (by omega)]
    omega
  · rw [idx_nat]; simp

theorem trimByte_loop (c : Int) : ∀ (n : Nat) (s : List UInt8), s.length ≤ n → s.length ≤ 1048576 → ∀ q : List UInt8, Loop (P_strings_trimRightByte_L0 (q, (c, ()))) ((s, ()), ()) = some ((rtrim (fun x => eqI (u8 x) c) s, ()), ()) := by
  intro n
  induction n with
  | zero =>
    intro s h _ q
    obtain rfl : s = [] := List.length_eq_zero_iff.1 (by omega)
    rw [Loop_eq]
    rfl
  | succ n ih =>
    intro s h hb q
    rcases List.eq_nil_or_concat s with rfl | ⟨r, x, rfl⟩
    · rw [Loop_eq]; rfl
    · rw [List.concat_eq_append] at h hb ⊢
      rw [List.length_append] at h hb
      simp only [List.length_cons, List.length_nil] at h hb
      obtain ⟨e1, e2⟩ := last_idx r x (by omega)
      rw [Loop_eq]
      have e0 : P_strings_trimRightByte_L0 (q, (c, ())) ((r ++ [x], ()), ()) = if eqI (u8 x) c = true then some (.inl ((r, ()), ())) else some (.inr ((r ++ [x], ()), ())) := by
        unfold P_strings_trimRightByte_L0
        dsimp only
        rw [ltI_true (by simp only [len, List.length_append, List.length_cons, List.length_nil]; omega), sel_true, e1, e2, obind_some, obind_some]
        cases hx : eqI (u8 x) c with
        | true =>
          rw [sel_true, inside_true (by omega) (by omega) (by simp only [len, List.length_append]; omega), sel_true, way1_inl, show sub (r ++ [x]) 0 (minus (r.length : Int) 0) = r from by rw [sub_head]; simp, if_pos rfl]
        | false => rw [sel_false, way1_inr, if_neg (by simp)]
      rw [e0]
      cases hx : eqI (u8 x) c with
      | true =>
        rw [if_pos rfl, rtrim_snoc_yes r (p := fun x => eqI (u8 x) c) hx]
        exact ih r (by omega) (by omega) q
      | false =>
        rw [if_neg (by simp), rtrim_snoc_no r (p := fun x => eqI (u8 x) c) hx]
        rfl

theorem trimRightByte_val (s : List UInt8) (c : Int) (hs : s.length ≤ 1048576) : P_strings_trimRightByte (s, (c, ())) = some (rtrim (fun x => eqI (u8 x) c) s, ()) := by
  unfold P_strings_trimRightByte
  rw [trimByte_loop c s.length s (Nat.le_refl _) hs s, obind_some]

def isNul (x : UInt8) : Bool := eqI (u8 x) 0
theorem isNul_iff (x : UInt8) : isNul x = true ↔ x = 0 := by
  unfold isNul eqI
  rw [decide_eq_true_iff]
  constructor
  · intro h
    exact u8_inj (a := x) (b := 0) h
  · rintro rfl; rfl

/-! ### Both noughts and blanks -/
/-! ### The left end -/
theorem trimLeft_loop (c : Int) : ∀ (n : Nat) (s : List UInt8), s.length ≤ n → ∀ q : List UInt8, Loop (P_strings_trimLeftByte_L0 (q, (c, ()))) ((s, ()), ()) = some ((s.dropWhile (fun x => eqI (u8 x) c), ()), ()) := by
  intro n
  induction n with
  | zero =>
    intro s h q
    obtain rfl : s = [] := List.length_eq_zero_iff.1 (by omega)
    rw [Loop_eq]
    rfl
  | succ n ih =>
    intro s h q
    cases s with
    | nil => rw [Loop_eq]; rfl
    | cons x r =>
      simp only [List.length_cons] at h
      rw [Loop_eq]
      have e0 : P_strings_trimLeftByte_L0 (q, (c, ())) ((x :: r, ()), ()) = if eqI (u8 x) c = true then some (.inl ((r, ()), ())) else some (.inr ((x :: r, ()), ())) := by
        unfold P_strings_trimLeftByte_L0
        dsimp only
        rw [ltI_true (by simp only [len, List.length_cons]; omega), sel_true, show idx (x :: r) 0 = some x from rfl, obind_some, obind_some]
        cases hx : eqI (u8 x) c with
        | true =>
          rw [sel_true, inside_true (by decide) (by simp only [len, List.length_cons]; omega) (Int.le_refl _), sel_true, way1_inl, show sub (x :: r) 1 (minus (len (x :: r)) 1) = r from sub_tail (x :: r) 1 (by simp), if_pos rfl]
        | false => rw [sel_false, way1_inr, if_neg (by simp)]
      rw [e0, List.dropWhile_cons]
      cases hx : eqI (u8 x) c with
      | true =>
        rw [if_pos rfl, if_pos rfl]
        exact ih r (by omega) q
      | false =>
        rw [if_neg (by simp), if_neg (by simp)]
        rfl

theorem trimLeftByte_val (s : List UInt8) (c : Int) : P_strings_trimLeftByte (s, (c, ())) = some (s.dropWhile (fun x => eqI (u8 x) c), ()) := by
  unfold P_strings_trimLeftByte
  rw [trimLeft_loop c s.length s (Nat.le_refl _) s, obind_some]

theorem mem_while {p : UInt8 → Bool} {l : List UInt8} {x : UInt8} (h : x ∈ l.takeWhile p) : p x = true := List.all_eq_true.1 List.all_takeWhile x h

theorem trim_nul (s : List UInt8) (hs : s.length ≤ 1048576) : P_strings_Trim (s, ([0], ())) = some ((rtrim isNul s).dropWhile isNul, ()) := by
  unfold P_strings_Trim
  dsimp only
  by_cases h : s = []
  · subst h
    rfl
  · rw [show eqS s [] = false from decide_eq_false h, nt_false, sel_true, show eqS [0] [] = false from rfl, sel_false, show eqI (len ([0] : List UInt8)) 1 = true from rfl, sel_true, show idx ([0] : List UInt8) 0 = some 0 from rfl, obind_some, obind_some, show ltI (u8 0) 128 = true from rfl, sel_true, obind_some,
      trimRightByte_val s _ hs, obind_some, obind_some, trimLeftByte_val, obind_some]
    rfl

theorem trim_empty (s : List UInt8) : (rtrim isNul s).dropWhile isNul = [] ↔ ∀ x ∈ s, x = 0 := by
  constructor
  · intro h
    have h1 : ∀ x ∈ rtrim isNul s, isNul x = true := by
      intro x hx
      have := List.takeWhile_append_dropWhile (p := isNul) (l := rtrim isNul s)
      rw [h, List.append_nil] at this
      rw [← this] at hx
      exact mem_while hx
    -- the trimmed text ends in no nought, so it is empty
    have h2 : rtrim isNul s = [] := by
      rcases List.eq_nil_or_concat (rtrim isNul s) with h2 | ⟨r, x, h2⟩
      · exact h2
      · exfalso
        have hx := h1 x (by rw [h2]; simp)
        unfold rtrim at h2
        have h3 : (s.reverse.dropWhile isNul) = x :: r.reverse := by
          have := congrArg List.reverse h2
          simpa using this
        have := List.head?_dropWhile_not isNul s.reverse
        rw [h3] at this
        simp [hx] at this
    intro x hx
    have h3 : s.reverse.dropWhile isNul = [] := by
      have := congrArg List.reverse h2
      simpa [rtrim] using this
    have := List.takeWhile_append_dropWhile (p := isNul) (l := s.reverse)
    rw [h3, List.append_nil] at this
    have hm : x ∈ s.reverse := List.mem_reverse.2 hx
    rw [← this] at hm
    exact (isNul_iff x).1 (mem_while hm)
  · intro h
    have : rtrim isNul s = [] := by
      have := rtrim_all (p := isNul) s [] (fun x hx => (isNul_iff x).2 (h x hx))
      rw [List.nil_append] at this
      exact this
    rw [this]
    rfl

theorem zero_val (b : List UInt8) (hb : b.length ≤ 1048576) : P_header_Zero (b, ()) = some (decide (b.length = 512 ∧ ∀ x ∈ b, x = 0), ()) := by
  unfold P_header_Zero
  dsimp only
  by_cases h : b.length = 512
  · rw [eqI_true (by simp only [len]; omega), sel_true, trim_nul b hb, obind_some, obind_some]
    congr 2
    unfold eqS
    dsimp only
    by_cases h2 : ∀ x ∈ b, x = 0
    · rw [decide_eq_true ((trim_empty b).2 h2), decide_eq_true ⟨h, h2⟩]
    · rw [decide_eq_false (fun e => h2 ((trim_empty b).1 e)), decide_eq_false (fun e => h2 e.2)]
  · rw [eqI_false (by simp only [len]; omega), sel_false, obind_some, decide_eq_false (fun e => h e.1)]
end Go.Ge

/- Headers: which ones may be; numbers and texts of fields, in plain words. -/
namespace Go.Ge
set_option linter.unusedVariables false
set_option linter.unusedSimpArgs false

/-! ### Texts without noughts -/
def noNul (s : List UInt8) : Prop := ∀ x ∈ s, x ≠ 0
instance (s : List UInt8) : Decidable (noNul s) := inferInstanceAs (Decidable (∀ x ∈ s, x ≠ 0))

theorem index_nul : ∀ s : List UInt8, decide (Lib.indexByte s 0 < 0) = decide (noNul s) := by
  intro s
  induction s with
  | nil => rfl
  | cons b r ih =>
    unfold Lib.indexByte
    by_cases hb : b = 0
    · subst hb
      rw [if_pos (by rfl), decide_eq_false (by decide), decide_eq_false (fun h => h 0 (List.mem_cons_self ..) rfl)]
    · rw [if_neg (by simpa using hb)]
      by_cases hr : noNul r
      · rw [decide_eq_true hr] at ih
        have h1 : Lib.indexByte r 0 < 0 := of_decide_eq_true ih
        have h2 := (indexByte_range 0 r).1
        have h3 : Lib.indexByte r 0 = -1 := by omega
        rw [h3, if_pos (by rfl), decide_eq_true (by decide), decide_eq_true]
        intro x hx
        rcases List.mem_cons.1 hx with rfl | hx
        · exact hb
        · exact hr x hx
      · rw [decide_eq_false hr] at ih
        have h1 : ¬ Lib.indexByte r 0 < 0 := of_decide_eq_false ih
        rw [if_neg (by simp only [beq_iff_eq]; omega), decide_eq_false (by omega), decide_eq_false]
        intro h
        exact hr fun x hx => h x (List.mem_cons_of_mem _ hx)

/-! ### Which headers may be -/
abbrev Hd := List UInt8 × Int × Int × Int × Int × Int × Int × List UInt8 × Unit
def clr (s : List UInt8) (most : Int) : Prop := s ≠ [] ∧ (s.length : Int) ≤ most ∧ noNul s
instance (s : List UInt8) (most : Int) : Decidable (clr s most) := inferInstanceAs (Decidable (_ ∧ _ ∧ _))
def inN (n b : Int) : Prop := 0 ≤ n ∧ n < b
instance (n b : Int) : Decidable (inN n b) := inferInstanceAs (Decidable (_ ∧ _))
def kindOk (h : Hd) : Prop := (h.2.1 = 1 ∧ h.2.2.2.2.2.2.2.1 = []) ∨ (h.2.1 = 2 ∧ h.2.2.2.2.2.2.2.1 = [] ∧ h.2.2.2.2.2.1 = 0) ∨ (h.2.1 = 3 ∧ clr h.2.2.2.2.2.2.2.1 100 ∧ h.2.2.2.2.2.1 = 0)
instance (h : Hd) : Decidable (kindOk h) := inferInstanceAs (Decidable (_ ∨ _ ∨ _))
def okHd (h : Hd) (most : Int) : Prop := inN h.2.2.1 2097152 ∧ inN h.2.2.2.1 2097152 ∧ inN h.2.2.2.2.1 2097152 ∧ inN h.2.2.2.2.2.1 8589934592 ∧ inN h.2.2.2.2.2.2.1 8589934592 ∧ clr h.1 most ∧ kindOk h
instance (h : Hd) (most : Int) : Decidable (okHd h most) := inferInstanceAs (Decidable (_ ∧ _ ∧ _ ∧ _ ∧ _ ∧ _ ∧ _))

end Go.Ge

/- Paths in plain words: their names, and what these are put together to. -/
namespace Go.Ge
set_option linter.unusedVariables false
set_option linter.unusedSimpArgs false

def splitS : List UInt8 → List (List UInt8)
  | [] => [[]]
  | b :: r => if b = 47 then [] :: splitS r else match splitS r with
    | h :: t => (b :: h) :: t
    | [] => [[b]]

theorem splitS_ne (s : List UInt8) : splitS s ≠ [] := by
  cases s with
  | nil => simp [splitS]
  | cons b r =>
    unfold splitS
    split
    · simp
    · split <;> simp

theorem splitS_cons {b : UInt8} (h : b ≠ 47) {r x : List UInt8} {t : List (List UInt8)} (e : splitS r = x :: t) : splitS (b :: r) = (b :: x) :: t := by
  rw [splitS, if_neg h, e]

def parts (p : List UInt8) : List (List UInt8) := if p = [] then [] else splitS p

theorem splitK_cons {b : UInt8} (h : b ≠ 47) : ∀ (k : Nat) (r x : List UInt8) (t : List (List UInt8)), Lib.splitK [47] 0 k r = x :: t → Lib.splitK [47] 0 k (b :: r) = (b :: x) :: t := by
  intro k r x t e
  cases k with
  | zero => simp [Lib.splitK] at e ⊢; exact ⟨by rw [e.1], e.2⟩
  | succ k =>
    have hix : Lib.index (b :: r) [47] = if Lib.index r [47] == -1 then -1 else Lib.index r [47] + 1 := by
      rw [Lib.index]
      have : ([47] : List UInt8).isPrefixOf (b :: r) = false := by simp [List.isPrefixOf, Ne.symm h]
      rw [this]; simp
    have hge := Lib.index_ge r [47]
    unfold Lib.splitK at e ⊢
    rw [hix]
    by_cases hm : (Lib.index r [47] == -1) = true
    · rw [if_pos hm] at e ⊢
      simp at e ⊢
      exact ⟨e.1, e.2⟩
    · rw [if_neg hm] at e ⊢
      have hm' : Lib.index r [47] ≠ -1 := fun q => hm (by rw [q]; rfl)
      have hn : ¬ ((Lib.index r [47] + 1 == -1) = true) := fun q => by have := beq_iff_eq.1 q; omega
      rw [if_neg hn]
      obtain ⟨j, hj⟩ : ∃ j : Nat, Lib.index r [47] = j := ⟨(Lib.index r [47]).toNat, by omega⟩
      have e1 : (Lib.index r [47] + 1).toNat = j + 1 := by omega
      have e2 : (Lib.index r [47]).toNat = j := by omega
      rw [e1]
      rw [e2] at e
      have := List.cons.inj e
      rw [show j + 1 + ([47] : List UInt8).length = (j + ([47] : List UInt8).length) + 1 by omega, List.drop_succ_cons, this.2]
      have e3 := this.1
      simp at e3 ⊢
      exact e3

theorem splitK_slash (k : Nat) (r : List UInt8) : Lib.splitK [47] 0 (k + 1) (47 :: r) = [] :: Lib.splitK [47] 0 k r := by
  have hix : Lib.index (47 :: r) [47] = 0 := by rw [Lib.index]; simp [List.isPrefixOf]
  rw [Lib.splitK, hix]
  simp

theorem splitK_eq : ∀ (s : List UInt8) (k : Nat), s.count 47 ≤ k → Lib.splitK [47] 0 k s = splitS s := by
  intro s
  induction s with
  | nil =>
    intro k _
    cases k with
    | zero => rfl
    | succ k => simp [Lib.splitK, splitS, Lib.index]
  | cons b r ih =>
    intro k hk
    by_cases h : b = 47
    · subst h
      obtain ⟨k', rfl⟩ : ∃ k', k = k' + 1 := ⟨k - 1, by rw [List.count_cons_self] at hk; omega⟩
      rw [splitK_slash, ih k' (by rw [List.count_cons_self] at hk; omega), splitS, if_pos rfl]
    · have := ih k (by rwa [List.count_cons_of_ne h] at hk)
      cases hs : splitS r with
      | nil => exact absurd hs (splitS_ne r)
      | cons x t =>
        rw [hs] at this
        rw [splitK_cons h k r x t this, splitS_cons h hs]

theorem split_eq (s : List UInt8) : Lib.split s [47] = splitS s := by
  unfold Lib.split
  exact splitK_eq s _ (by rw [Lib.count_one]; exact Nat.le_refl _)

theorem u8_47 (c : UInt8) : eqI (u8 c) 47 = decide (c = 47) := u8_eq (n := 47)
theorem u8_0 (c : UInt8) : eqI (u8 c) 0 = decide (c = 0) := u8_eq (n := 0)

theorem parts_val (p : List UInt8) (hp : p.length ≤ 1048576) : P_paths_Parts (p, ()) = some (parts p, ()) := by
  unfold P_paths_Parts parts
  dsimp only
  by_cases h : p = []
  · rw [eqS_true h, sel_true, if_pos h]
  · rw [eqS_false h, sel_false, if_neg h]
    have : P_strings_Split (p, ([47], ())) = some (splitS p, ()) := by
      show (S_split p [47]).map (fun y => (y, ())) = _
      unfold S_split
      simp only
      rw [if_pos (by omega), split_eq]
      rfl
    rw [this, obind_some]

theorem refParts_val (p : List UInt8) (hp : p.length ≤ 1048576) : P_ref07_Parts (p, ()) = some (parts p, ()) := by
  unfold P_ref07_Parts parts
  dsimp only
  by_cases h : p = []
  · rw [eqS_true h, sel_true, if_pos h]
  · rw [eqS_false h, sel_false, if_neg h]
    have key := loop_run (f := P_ref07_Parts_L0 (p, ())) p (fun (s : List UInt8 × List (List UInt8)) i => (((), (s.1, ((i : Int), ()))), (s.2, ())))
      (fun i s x => some (.inl (if x = 47 then ([], s.2 ++ [s.1]) else (s.1 ++ [x], s.2)))) (fun i s => (((), (s.1, ((i : Int), ()))), (s.2, ()))) (fun i s => s.1.length ≤ i ∧ s.2.length ≤ i)
      (fun s i x hx hi hI => by
        unfold P_ref07_Parts_L0
        dsimp only
        rw [ltI_len_true hi, sel_true, idx_some' hx, obind_some, u8_47]
        by_cases hq : x = 47
        · rw [decide_eq_true hq, sel_true, fits_len2 (by simp only [List.length_cons, List.length_nil]; omega), sel_true, obind_some, iadd_one (by omega)]
          simp only [if_pos hq]
          rfl
        · rw [decide_eq_false hq, sel_false, iadd_one (by omega), inside_len (by omega) (by omega), sel_true, sub_one hx, fits_len2 (by simp only [List.length_cons, List.length_nil]; omega), sel_true, obind_some]
          simp only [if_neg hq]
          rfl)
      (fun s i x s' hx hI hs => by
        obtain rfl := Sum.inl.inj (Option.some.inj hs)
        by_cases hq : x = 47
        · simp only [if_pos hq, List.length_append, List.length_cons, List.length_nil]; omega
        · simp only [if_neg hq, List.length_append, List.length_cons, List.length_nil]; omega)
      (fun s hI => by
        unfold P_ref07_Parts_L0
        dsimp only
        rw [ltI_len_end, sel_false]
        rfl)
      (fun s i x _ _ h => by cases h) ([], []) ⟨Nat.le_refl _, Nat.le_refl _⟩
    have run : ∀ (r : List UInt8) (i : Nat) (a : List UInt8) (o : List (List UInt8)), ∃ a' o' j, runL (fun i (s : List UInt8 × List (List UInt8)) x => some (.inl (if x = 47 then ([], s.2 ++ [s.1]) else (s.1 ++ [x], s.2)))) (fun i (s : List UInt8 × List (List UInt8)) => (((), (s.1, ((i : Int), ()))), (s.2, ()))) r i (a, o) = some (((), (a', (j, ()))), (o', ())) ∧
        o' ++ [a'] = o ++ (match splitS r with | h :: t => (a ++ h) :: t | [] => [a]) ∧ o'.length ≤ o.length + r.length := by
      intro r
      induction r with
      | nil => intro i a o; exact ⟨a, o, _, rfl, by simp [splitS], by simp⟩
      | cons x r ih =>
        intro i a o
        by_cases hq : x = 47
        · obtain ⟨a', o', j, h1, h2, h3⟩ := ih (i + 1) [] (o ++ [a])
          refine ⟨a', o', j, ?_, ?_, ?_⟩
          · unfold runL
            simp only [if_pos hq]
            exact h1
          · rw [h2, splitS, if_pos hq]
            cases hs : splitS r with
            | nil => exact absurd hs (splitS_ne r)
            | cons h t => simp
          · simp only [List.length_append, List.length_cons, List.length_nil] at h3 ⊢; omega
        · obtain ⟨a', o', j, h1, h2, h3⟩ := ih (i + 1) (a ++ [x]) o
          refine ⟨a', o', j, ?_, ?_, ?_⟩
          · unfold runL
            simp only [if_neg hq]
            exact h1
          · rw [h2]
            cases hs : splitS r with
            | nil => exact absurd hs (splitS_ne r)
            | cons h t => rw [splitS_cons hq hs]; simp
          · simp only [List.length_cons] at h3 ⊢; omega
    obtain ⟨a', o', j, h1, h2, h3⟩ := run p 0 [] []
    have key' : Loop (P_ref07_Parts_L0 (p, ())) (((), (([] : List UInt8), ((0 : Int), ()))), (([] : List (List UInt8)), ())) = some (((), (a', (j, ()))), (o', ())) := key.trans h1
    rw [key', obind_some]
    dsimp only
    simp only [List.length_nil] at h3
    rw [fits_len2 (by simp only [List.length_cons, List.length_nil]; omega), sel_true, app_eq, h2]
    cases hs : splitS p with
    | nil => exact absurd hs (splitS_ne p)
    | cons h t => simp

/-! ### Put together -/
def joinS : List (List UInt8) → List UInt8
  | [] => []
  | [x] => x
  | x :: y :: r => x ++ 47 :: joinS (y :: r)

theorem lib_join (l : List (List UInt8)) : Lib.join l [47] = joinS l := by
  induction l with
  | nil => rfl
  | cons x r ih =>
    cases r with
    | nil => simp [Lib.join_one, joinS]
    | cons y r =>
      rw [joinS, ← ih, Lib.join_cons, Lib.join_cons]
      simp [Lib.joinTail]

theorem joinS_splitS (s : List UInt8) : joinS (splitS s) = s := by
  induction s with
  | nil => rfl
  | cons b r ih =>
    by_cases h : b = 47
    · subst h
      rw [splitS, if_pos rfl]
      cases hs : splitS r with
      | nil => exact absurd hs (splitS_ne r)
      | cons x t => rw [joinS, ← hs, ih]; rfl
    · cases hs : splitS r with
      | nil => exact absurd hs (splitS_ne r)
      | cons x t =>
        rw [splitS_cons h hs]
        rw [hs] at ih
        cases t with
        | nil => rw [joinS] at ih ⊢; rw [ih]
        | cons y t => rw [joinS] at ih ⊢; rw [List.cons_append, ih]

theorem joinS_parts (p : List UInt8) : joinS (parts p) = p := by
  unfold parts
  by_cases h : p = []
  · rw [if_pos h, h]; rfl
  · rw [if_neg h, joinS_splitS]

theorem splitS_app (x : List UInt8) (hx : 47 ∉ x) (r : List UInt8) : splitS (x ++ 47 :: r) = x :: splitS r := by
  induction x with
  | nil => rw [List.nil_append, splitS, if_pos rfl]
  | cons b x ih =>
    simp only [List.mem_cons, not_or] at hx
    exact splitS_cons (fun e => hx.1 e.symm) (ih hx.2)
theorem splitS_plain (x : List UInt8) (hx : 47 ∉ x) : splitS x = [x] := by
  induction x with
  | nil => rfl
  | cons b x ih =>
    simp only [List.mem_cons, not_or] at hx
    exact splitS_cons (fun e => hx.1 e.symm) (ih hx.2)

theorem splitS_joinS (l : List (List UInt8)) (hne : l ≠ []) (h : ∀ x ∈ l, 47 ∉ x) : splitS (joinS l) = l := by
  induction l with
  | nil => exact absurd rfl hne
  | cons x r ih =>
    cases r with
    | nil => rw [joinS]; exact splitS_plain x (h x (List.mem_cons_self ..))
    | cons y r =>
      rw [joinS, splitS_app x (h x (List.mem_cons_self ..)), ih (by simp) (fun z hz => h z (List.mem_cons_of_mem _ hz))]

theorem splitS_mem (s : List UInt8) : ∀ x ∈ splitS s, 47 ∉ x ∧ x.length ≤ s.length := by
  induction s with
  | nil => intro x hx; simp [splitS] at hx; subst hx; simp
  | cons b r ih =>
    intro x hx
    by_cases h : b = 47
    · rw [splitS, if_pos h] at hx
      rcases List.mem_cons.1 hx with rfl | hx
      · simp
      · obtain ⟨h1, h2⟩ := ih x hx
        exact ⟨h1, by simp only [List.length_cons]; omega⟩
    · cases hs : splitS r with
      | nil => exact absurd hs (splitS_ne r)
      | cons y t =>
        rw [splitS_cons h hs] at hx
        rw [hs] at ih
        rcases List.mem_cons.1 hx with rfl | hx
        · obtain ⟨h1, h2⟩ := ih y (List.mem_cons_self ..)
          exact ⟨by simp only [List.mem_cons, not_or]; exact ⟨fun e => h e.symm, h1⟩, by simp only [List.length_cons]; omega⟩
        · obtain ⟨h1, h2⟩ := ih x (List.mem_cons_of_mem _ hx)
          exact ⟨h1, by simp only [List.length_cons]; omega⟩

theorem length_splitS (s : List UInt8) : (splitS s).length ≤ s.length + 1 := by
  induction s with
  | nil => simp [splitS]
  | cons b r ih =>
    by_cases h : b = 47
    · rw [splitS, if_pos h]; simp only [List.length_cons]; omega
    · cases hs : splitS r with
      | nil => exact absurd hs (splitS_ne r)
      | cons y t => rw [splitS_cons h hs]; rw [hs] at ih; simp only [List.length_cons] at ih ⊢; omega

theorem parts_mem (p : List UInt8) : ∀ x ∈ parts p, 47 ∉ x ∧ x.length ≤ p.length := by
  unfold parts
  by_cases h : p = []
  · rw [if_pos h]; intro x hx; cases hx
  · rw [if_neg h]; exact splitS_mem p
theorem length_parts (p : List UInt8) : (parts p).length ≤ p.length + 1 := by
  unfold parts
  by_cases h : p = []
  · rw [if_pos h]; simp
  · rw [if_neg h]; exact length_splitS p
theorem parts_joinS (l : List (List UInt8)) (h : ∀ x ∈ l, 47 ∉ x ∧ x ≠ []) : parts (joinS l) = l := by
  unfold parts
  cases l with
  | nil => rfl
  | cons x r =>
    have hne : joinS (x :: r) ≠ [] := by
      have := (h x (List.mem_cons_self ..)).2
      cases r with
      | nil => rw [joinS]; exact this
      | cons y r => rw [joinS]; simp
    rw [if_neg hne, splitS_joinS _ (by simp) (fun z hz => (h z hz).1)]
end Go.Ge

/- Clean paths in plain words. -/
namespace Go.Ge
set_option linter.unusedVariables false
set_option linter.unusedSimpArgs false

theorem refJoin_val (l : List (List UInt8)) (hl : l.length ≤ 1048576) (hx : (joinS l).length ≤ 1048576) : P_ref07_join (l, ()) = some (joinS l, ()) := by
  unfold P_ref07_join
  -- what has been put together
  have pre : ∀ (a b : List (List UInt8)), a ≠ [] → b ≠ [] → joinS (a ++ b) = joinS a ++ 47 :: joinS b := by
    intro a
    induction a with
    | nil => intro b h; exact absurd rfl h
    | cons x r ih =>
      intro b _ hb
      cases r with
      | nil =>
        cases b with
        | nil => exact absurd rfl hb
        | cons y b => rfl
      | cons y r =>
        have := ih b (by simp) hb
        rw [List.cons_append, List.cons_append, joinS, joinS, ← List.cons_append, this]
        simp
  have mono : ∀ i, (joinS (l.take i)).length ≤ (joinS l).length := by
    intro i
    by_cases ha : l.take i = []
    · rw [ha]; simp [joinS]
    · by_cases hb : l.drop i = []
      · rw [show l.take i = l from by have := List.take_append_drop i l; rw [hb, List.append_nil] at this; exact this]; exact Nat.le_refl _
      · have := pre _ _ ha hb
        rw [List.take_append_drop] at this
        rw [this, List.length_append]; omega
  have step : ∀ i x, l[i]? = some x → joinS (l.take (i + 1)) = (if 0 < i then joinS (l.take i) ++ [47] else joinS (l.take i)) ++ x := by
    intro i x hx
    have e : l.take (i + 1) = l.take i ++ [x] := by rw [List.take_add_one, hx]; rfl
    rw [e]
    cases i with
    | zero => rfl
    | succ i =>
      rw [if_pos (by omega), pre _ _ (by have := getElem?_lt hx; intro q; have := congrArg List.length q; rw [List.length_take] at this; simp only [List.length_nil] at this; omega) (by simp)]
      simp [joinS]
  have key := loop_seq (f := P_ref07_join_L0 (l, ())) (r := ((joinS l, ((l.length : Int), ())), ())) l.length (fun i => ((joinS (l.take i), ((i : Int), ())), ())) (fun i hi => by
      obtain ⟨x, hxx⟩ : ∃ x, l[i]? = some x := ⟨_, List.getElem?_eq_getElem hi⟩
      have hs := step i x hxx
      have hb := mono (i + 1)
      rw [hs] at hb
      unfold P_ref07_join_L0
      dsimp only
      rw [ltI_len_true hi, sel_true]
      by_cases h0 : 0 < i
      · rw [if_pos h0] at hs hb
        rw [List.length_append, List.length_append] at hb
        simp only [List.length_cons, List.length_nil] at hb
        rw [ltI_true (by omega), sel_true, fits_len2 (by simp only [List.length_cons, List.length_nil]; omega), sel_true, obind_some, idx_some' hxx, obind_some]
        dsimp only
        rw [fits_len2 (by simp only [app_eq, List.length_append, List.length_cons, List.length_nil]; omega), sel_true, iadd_one (by omega), hs]
        rfl
      · rw [if_neg h0] at hs hb
        rw [List.length_append] at hb
        rw [ltI_false (by omega), sel_false, obind_some, idx_some' hxx, obind_some]
        dsimp only
        rw [fits_len2 (by omega), sel_true, iadd_one (by omega), hs]
        rfl) (by
      unfold P_ref07_join_L0
      dsimp only
      rw [ltI_len_end, sel_false, List.take_length]
      rfl)
  have key' : Loop (P_ref07_join_L0 (l, ())) ((([] : List UInt8), ((0 : Int), ())), ()) = some ((joinS l, ((l.length : Int), ())), ()) := key
  rw [key', obind_some]

def isNm (s : List UInt8) : Bool := decide (s ≠ [46] ∧ s ≠ [46, 46] ∧ 1 ≤ s.length ∧ s.length ≤ 32 ∧ 0 ∉ s)

theorem indexByte_nul (s : List UInt8) : decide (Lib.indexByte s 0 < 0) = decide (0 ∉ s) := by
  rw [index_nul]
  by_cases h : noNul s
  · rw [decide_eq_true h, decide_eq_true]
    intro hm; exact h 0 hm rfl
  · rw [decide_eq_false h, decide_eq_false]
    intro hm; exact h fun x hx e => hm (e ▸ hx)

theorem isName_val (s : List UInt8) : P_paths_isName (s, ()) = some (isNm s, ()) := by
  unfold P_paths_isName
  have one : ∀ i : Nat, i < 2 → P_paths_isName_L0 (s, ()) ((false, ((i : Int), ())), ()) = if eqS s (if i = 0 then [46] else [46, 46]) = true then some (.inr (1, ((false, ((i : Int), ())), ()))) else some (.inl ((false, (((i + 1 : Nat) : Int), ())), ())) := by
    intro i hi
    unfold P_paths_isName_L0
    dsimp only
    rw [ltI_true (by omega), sel_true, idx_nat]
    rcases (by omega : i = 0 ∨ i = 1) with rfl | rfl
    · rw [show ([[46], [46, 46]] : List (List UInt8))[0]? = some [46] from rfl, obind_some, sel_if]; rfl
    · rw [show ([[46], [46, 46]] : List (List UInt8))[1]? = some [46, 46] from rfl, obind_some, sel_if]; rfl
  by_cases h1 : s = [46]
  · rw [Loop_eq, show ((false, ((0 : Int), ())), ()) = ((false, (((0 : Nat) : Int), ())), ()) from rfl, one 0 (by omega), if_pos (by rw [if_pos rfl]; exact eqS_true h1)]
    subst h1; rfl
  · rw [Loop_eq, show ((false, ((0 : Int), ())), ()) = ((false, (((0 : Nat) : Int), ())), ()) from rfl, one 0 (by omega), if_neg (by rw [if_pos rfl, eqS_false h1]; simp)]
    by_cases h2 : s = [46, 46]
    · simp only [Option.bind]
      rw [Loop_eq, one 1 (by omega), if_pos (by rw [if_neg (by omega)]; exact eqS_true h2)]
      subst h2; rfl
    · simp only [Option.bind]
      rw [Loop_eq, one 1 (by omega), if_neg (by rw [if_neg (by omega), eqS_false h2]; simp)]
      simp only [Option.bind]
      rw [Loop_eq]
      have e : P_paths_isName_L0 (s, ()) ((false, (((1 + 1 : Nat) : Int), ())), ()) = some (.inr (0, ((false, ((2 : Int), ())), ()))) := rfl
      rw [e]
      simp only [Option.bind]
      rw [obind_some]
      dsimp only
      rw [eqN_zero, sel_true]
      have el : leI 1 (len s) = decide (1 ≤ s.length) := by unfold leI len; apply decide_eq_decide.2; omega
      have eh : leI (len s) 32 = decide (s.length ≤ 32) := leI_len 32 s
      rw [el, eh]
      have ei : P_strings_IndexByte (s, (0, ())) = some (Lib.indexByte s 0, ()) := rfl
      rw [ei, obind_some]
      dsimp only
      rw [show ltI (Lib.indexByte s 0) 0 = decide (0 ∉ s) from indexByte_nul s]
      unfold isNm
      by_cases a : 1 ≤ s.length
      · by_cases b : s.length ≤ 32
        · simp [a, b, sel, obind, h1, h2]
        · simp [a, b, sel, obind]
      · simp [a, sel, obind]

theorem refIsName_val (s : List UInt8) (hs : s.length ≤ 1048576) : P_ref07_isName (s, ()) = some (isNm s && decide (47 ∉ s), ()) := by
  unfold P_ref07_isName
  have key := loop_run (f := P_ref07_isName_L0 (s, ())) s (fun (_ : Unit) i => ((false, ((i : Int), ())), ()))
    (fun i _ x => some (if x = 0 ∨ x = 47 then .inr (1, ((false, ((i : Int), ())), ())) else .inl ())) (fun i _ => (0, ((false, ((i : Int), ())), ()))) (fun _ _ => True)
    (fun u i x hx hi _ => by
      unfold P_ref07_isName_L0
      dsimp only
      rw [ltI_len_true hi, sel_true, idx_some' hx, obind_some, u8_0]
      by_cases h0 : x = 0
      · rw [decide_eq_true h0, nt_true, sel_false, obind_some, sel_true, if_pos (.inl h0)]; rfl
      · rw [decide_eq_false h0, nt_false, sel_true, obind_some, u8_47, obind_some]
        by_cases h1 : x = 47
        · rw [decide_eq_true h1, sel_true, if_pos (.inr h1)]; rfl
        · rw [decide_eq_false h1, sel_false, if_neg (by simp [h0, h1]), iadd_one (by omega)]; rfl)
    (fun _ _ _ _ _ _ _ => trivial)
    (fun u _ => by
      unfold P_ref07_isName_L0
      dsimp only
      rw [ltI_len_end, sel_false])
    (fun _ _ _ _ _ h => by cases h) () trivial
  have run : ∀ (r : List UInt8) (i : Nat), ∃ q, runL (fun i (_ : Unit) x => some (if x = 0 ∨ x = 47 then Sum.inr (1, ((false, ((i : Int), ())), ())) else Sum.inl ())) (fun i _ => ((0 : Nat), ((false, ((i : Int), ())), ()))) r i () = some q ∧
      q.1 = (if 0 ∉ r ∧ 47 ∉ r then 0 else 1) ∧ q.2.1.1 = false := by
    intro r
    induction r with
    | nil => intro i; exact ⟨_, rfl, by simp, rfl⟩
    | cons x r ih =>
      intro i
      unfold runL
      by_cases h : x = 0 ∨ x = 47
      · simp only [if_pos h]
        refine ⟨_, rfl, ?_, rfl⟩
        rw [if_neg]
        rcases h with h | h <;> simp [h]
      · simp only [if_neg h]
        obtain ⟨q, h1, h2, h3⟩ := ih (i + 1)
        refine ⟨q, h1, ?_, h3⟩
        rw [h2]
        simp only [not_or] at h
        simp only [List.mem_cons, not_or]
        have h1' : ¬ (0 = x) := fun e => h.1 e.symm
        have h2' : ¬ (47 = x) := fun e => h.2 e.symm
        simp [h1', h2']
  obtain ⟨q, h1, h2, h3⟩ := run s 0
  have key' : Loop (P_ref07_isName_L0 (s, ())) ((false, ((0 : Int), ())), ()) = some q := key.trans h1
  rw [key', obind_some]
  have el : leI 1 (len s) = decide (1 ≤ s.length) := by unfold leI len; apply decide_eq_decide.2; omega
  have eh : leI (len s) 32 = decide (s.length ≤ 32) := leI_len 32 s
  rw [el, eh, h2, h3]
  unfold isNm
  by_cases a : 0 ∉ s ∧ 47 ∉ s
  · rw [if_pos a, eqN_zero, sel_true]
    by_cases c : 1 ≤ s.length
    · by_cases d : s.length ≤ 32
      · by_cases e : s = [46]
        · simp [e, sel, eqS, nt]
        · by_cases f : s = [46, 46]
          · simp [f, sel, eqS, nt]
          · simp [a, c, d, e, f, sel, eqS, nt]
      · simp [d, c, sel]
    · simp [c, sel]
  · rw [if_neg a, eqN_one, sel_false]
    congr 2
    by_cases b : 0 ∈ s
    · simp [b]
    · have : 47 ∈ s := by
        have := a
        simp only [not_and, Decidable.not_not] at this
        exact this b
      simp [this]

theorem refIs_val (p : List UInt8) (hp : p.length ≤ 1048576) : P_ref07_Is (p, ()) = some ((parts p).all isNm && decide ((parts p).length ≤ 8) && decide (p.length ≤ 96), ()) := by
  unfold P_ref07_Is
  dsimp only
  rw [refParts_val p hp, obind_some]
  have hm := parts_mem p
  have hn := length_parts p
  generalize parts p = l at hm hn
  have key := loop_run (f := P_ref07_Is_L0 (l, ())) l (fun (_ : Unit) i => ((false, ((i : Int), ())), ()))
    (fun i _ x => some (if isNm x = false then .inr (1, ((false, ((i : Int), ())), ())) else .inl ())) (fun i _ => (0, ((false, ((i : Int), ())), ()))) (fun _ _ => True)
    (fun u i x hx hi _ => by
      unfold P_ref07_Is_L0
      dsimp only
      have hx' := hm x (List.mem_of_getElem? hx)
      rw [ltI_len_true hi, sel_true, idx_some' hx, obind_some, refIsName_val x (by omega), obind_some]
      dsimp only
      rw [decide_eq_true hx'.1, Bool.and_true]
      cases h : isNm x with
      | true => rw [nt_true, sel_false, if_neg (by simp), iadd_one (by omega)]; rfl
      | false => rw [nt_false, sel_true, if_pos rfl]; rfl)
    (fun _ _ _ _ _ _ _ => trivial)
    (fun u _ => by
      unfold P_ref07_Is_L0
      dsimp only
      rw [ltI_len_end, sel_false])
    (fun _ _ _ _ _ h => by cases h) () trivial
  have run : ∀ (r : List (List UInt8)) (i : Nat), ∃ q, runL (fun i (_ : Unit) x => some (if isNm x = false then Sum.inr (1, ((false, ((i : Int), ())), ())) else Sum.inl ())) (fun i _ => ((0 : Nat), ((false, ((i : Int), ())), ()))) r i () = some q ∧
      q.1 = (if r.all isNm = true then 0 else 1) ∧ q.2.1.1 = false := by
    intro r
    induction r with
    | nil => intro i; exact ⟨_, rfl, rfl, rfl⟩
    | cons x r ih =>
      intro i
      unfold runL
      cases h : isNm x with
      | false => exact ⟨_, rfl, by simp [h], rfl⟩
      | true =>
        obtain ⟨q, h1, h2, h3⟩ := ih (i + 1)
        exact ⟨q, h1, by rw [h2]; simp [h], h3⟩
  obtain ⟨q, h1, h2, h3⟩ := run l 0
  have key' : Loop (P_ref07_Is_L0 (l, ())) ((false, ((0 : Int), ())), ()) = some q := key.trans h1
  rw [key', obind_some, h2, h3]
  have e8 : leI (len l) 8 = decide (l.length ≤ 8) := leI_len 8 l
  have e96 : leI (len p) 96 = decide (p.length ≤ 96) := leI_len 96 p
  rw [e8, e96]
  cases h : l.all isNm with
  | true =>
    rw [if_pos rfl, eqN_zero, sel_true]
    by_cases a : l.length ≤ 8 <;> simp [a, sel]
  | false => rw [if_neg (by simp), eqN_one, sel_false]; simp

/-! ### Clean -/
def keepN (x : List UInt8) : Bool := decide (x ≠ [] ∧ x ≠ [46])
def names (s : List UInt8) : List (List UInt8) := (parts s).filter keepN
def cleanOk (s : List UInt8) : Bool := (names s).all isNm && decide (s.head? ≠ some 47) && decide ((names s).length ≤ 8) && decide ((joinS (names s)).length ≤ 96)
def cleanF (s : List UInt8) : List UInt8 × Int := if cleanOk s then (joinS (names s), 0) else ([], 2)

theorem names_mem (s : List UInt8) : ∀ x ∈ names s, 47 ∉ x ∧ x ≠ [] ∧ x.length ≤ s.length := by
  intro x hx
  obtain ⟨h1, h2⟩ := List.mem_filter.1 hx
  obtain ⟨h3, h4⟩ := parts_mem s x h1
  simp only [keepN, decide_eq_true_eq] at h2
  exact ⟨h3, h2.1, h4⟩
theorem length_names (s : List UInt8) : (names s).length ≤ s.length + 1 := Nat.le_trans (List.length_filter_le _ _) (length_parts s)
theorem parts_names (s : List UInt8) : parts (joinS (names s)) = names s := parts_joinS _ fun x hx => ⟨(names_mem s x hx).1, (names_mem s x hx).2.1⟩

theorem length_joinS_names (s : List UInt8) : (joinS (names s)).length ≤ s.length := by
  have gen : ∀ (l : List (List UInt8)), (joinS (l.filter keepN)).length ≤ (joinS l).length := by
    intro l
    induction l with
    | nil => simp [joinS]
    | cons x r ih =>
      by_cases hk : keepN x = true
      · rw [List.filter_cons_of_pos hk]
        cases hr : r.filter keepN with
        | nil =>
          cases r with
          | nil => exact Nat.le_refl _
          | cons y r => simp only [joinS, List.length_append, List.length_cons]; omega
        | cons y q =>
          rw [hr] at ih
          cases r with
          | nil => simp at hr
          | cons z r => simp only [joinS, List.length_append, List.length_cons] at ih ⊢; omega
      · rw [List.filter_cons_of_neg hk]
        cases r with
        | nil => simp [joinS]
        | cons z r => rw [joinS]; simp only [List.length_append, List.length_cons]; omega
  have := gen (parts s)
  rw [joinS_parts] at this
  exact this

theorem head_prefix (s : List UInt8) : P_strings_HasPrefix (s, ([47], ())) = some (decide (s.head? = some 47), ()) := by
  unfold P_strings_HasPrefix P_internal_stringslite_HasPrefix
  dsimp only
  cases s with
  | nil => rfl
  | cons b r =>
    have e : leI (len [(47 : UInt8)]) (len (b :: r)) = true := leI_true (by simp only [len, List.length_cons, List.length_nil]; omega)
    have e2 : inside 0 (len [(47 : UInt8)]) (len (b :: r)) = true := inside_true (by decide) (by decide) (by simp only [len, List.length_cons, List.length_nil]; omega)
    rw [e, sel_true, e2, sel_true, sub_take', obind_some, obind_some]
    simp [eqS]

theorem clean_val (s : List UInt8) (hs : s.length ≤ 4096) : P_paths_Clean (s, ()) = some ((cleanF s).1, ((cleanF s).2, ())) := by
  unfold P_paths_Clean
  dsimp only
  rw [parts_val s (by omega), obind_some]
  have hm := parts_mem s
  have hn := length_parts s
  have key := loop_run (f := P_paths_Clean_L0 (parts s, ())) (parts s) (fun (o : List (List UInt8)) i => ((([] : List UInt8), ((0 : Int), ((), ((i : Int), ())))), (o, ())))
    (fun i o x => some (if keepN x = false then .inl o else if isNm x = false then .inr (1, ((([] : List UInt8), ((2 : Int), ((), ((i : Int), ())))), (o, ()))) else .inl (o ++ [x]))) (fun i o => (0, ((([] : List UInt8), ((0 : Int), ((), ((i : Int), ())))), (o, ())))) (fun i o => o.length ≤ i)
    (fun o i x hx hi hI => by
      unfold P_paths_Clean_L0
      dsimp only
      rw [ltI_len_true hi, sel_true, idx_some' hx, obind_some]
      have hk : keepN x = (nt (eqS x []) && nt (eqS x [46])) := by simp [keepN, eqS, nt]
      by_cases a : x = []
      · rw [eqS_true a, nt_true, sel_false, sel_true, obind_some]
        dsimp only
        rw [eqN_zero, sel_true, iadd_one (by omega), if_pos (by rw [hk, eqS_true a]; rfl)]; rfl
      · by_cases b : x = [46]
        · rw [eqS_false a, nt_false, sel_true, eqS_true b, sel_true, obind_some]
          dsimp only
          rw [eqN_zero, sel_true, iadd_one (by omega), if_pos (by rw [hk, eqS_true b]; simp [nt])]; rfl
        · rw [eqS_false a, nt_false, sel_true, eqS_false b, sel_false, isName_val, obind_some]
          dsimp only
          have hk1 : keepN x = true := by rw [hk, eqS_false a, eqS_false b]; rfl
          cases h : isNm x with
          | false =>
            rw [nt_false, sel_true, obind_some]
            dsimp only
            rw [eqN_one, sel_false, if_neg (by rw [hk1]; simp), if_pos rfl]; rfl
          | true =>
            rw [nt_true, sel_false, fits_len2 (by simp only [List.length_cons, List.length_nil]; omega), sel_true, obind_some]
            dsimp only
            rw [eqN_zero, sel_true, iadd_one (by omega), if_neg (by rw [hk1]; simp), if_neg (by simp)]; rfl)
    (fun o i x o' hx hI hq => by
      have hq := Option.some.inj hq
      by_cases a : keepN x = false
      · rw [if_pos a] at hq; obtain rfl := Sum.inl.inj hq; omega
      · rw [if_neg a] at hq
        by_cases b : isNm x = false
        · rw [if_pos b] at hq; cases hq
        · rw [if_neg b] at hq; obtain rfl := Sum.inl.inj hq; simp only [List.length_append, List.length_cons, List.length_nil]; omega)
    (fun o _ => by
      unfold P_paths_Clean_L0
      dsimp only
      rw [ltI_len_end, sel_false])
    (fun _ _ _ _ _ h => by cases h) [] (Nat.le_refl _)
  have run : ∀ (r : List (List UInt8)) (i : Nat) (o : List (List UInt8)), ∃ q, runL (fun i (o : List (List UInt8)) x => some (if keepN x = false then Sum.inl o else if isNm x = false then Sum.inr (1, ((([] : List UInt8), ((2 : Int), ((), ((i : Int), ())))), (o, ()))) else Sum.inl (o ++ [x]))) (fun i o => ((0 : Nat), ((([] : List UInt8), ((0 : Int), ((), ((i : Int), ())))), (o, ())))) r i o = some q ∧
      (if (r.filter keepN).all isNm = true then q.1 = 0 ∧ q.2.2.1 = o ++ r.filter keepN else q.1 = 1 ∧ q.2.1.1 = [] ∧ q.2.1.2.1 = 2) := by
    intro r
    induction r with
    | nil => intro i o; exact ⟨_, rfl, by simp⟩
    | cons x r ih =>
      intro i o
      unfold runL
      cases hk : keepN x with
      | false =>
        obtain ⟨q, h1, h2⟩ := ih (i + 1) o
        refine ⟨q, h1, ?_⟩
        rw [List.filter_cons_of_neg (by simp [hk])]
        exact h2
      | true =>
        rw [List.filter_cons_of_pos hk]
        cases hx : isNm x with
        | false => exact ⟨_, rfl, by simp [hx]⟩
        | true =>
          obtain ⟨q, h1, h2⟩ := ih (i + 1) (o ++ [x])
          refine ⟨q, h1, ?_⟩
          simp only [List.all_cons, hx, Bool.true_and]
          rw [List.append_assoc] at h2
          exact h2
  obtain ⟨q, h1, h2⟩ := run (parts s) 0 []
  have key' : Loop (P_paths_Clean_L0 (parts s, ())) ((([] : List UInt8), ((0 : Int), ((), ((0 : Int), ())))), (([] : List (List UInt8)), ())) = some q := key.trans h1
  rw [key', obind_some]
  rw [show (parts s).filter keepN = names s from rfl, List.nil_append] at h2
  have hj := length_joinS_names s
  have hnn := length_names s
  unfold cleanF cleanOk
  cases ha : (names s).all isNm with
  | false =>
    rw [ha, if_neg (by simp)] at h2
    rw [h2.1, eqN_one, sel_false, h2.2.1, h2.2.2]
    rfl
  | true =>
    rw [ha, if_pos rfl] at h2
    rw [h2.1, eqN_zero, sel_true, h2.2]
    have ej : P_strings_Join (names s, ([47], ())) = some (joinS (names s), ()) := by
      show (S_join (names s) [47]).map (fun y => (y, ())) = _
      unfold S_join
      rw [lib_join, if_pos ⟨by omega, by omega⟩]
      rfl
    rw [ej, obind_some, head_prefix, obind_some]
    dsimp only
    have e8 : ltI 8 (len (names s)) = !decide ((names s).length ≤ 8) := by
      by_cases h : (names s).length ≤ 8
      · rw [ltI_false (by simp only [len]; omega)]; simp [h]
      · rw [ltI_true (by simp only [len]; omega)]; simp [h]
    have e96 : ltI 96 (len (joinS (names s))) = !decide ((joinS (names s)).length ≤ 96) := by
      by_cases h : (joinS (names s)).length ≤ 96
      · rw [ltI_false (by simp only [len]; omega)]; simp [h]
      · rw [ltI_true (by simp only [len]; omega)]; simp [h]
    rw [e8, e96]
    by_cases a : s.head? = some 47
    · simp [a, sel, nt]
    · by_cases b : (names s).length ≤ 8
      · by_cases c : (joinS (names s)).length ≤ 96 <;> simp [a, b, c, sel, nt]
      · simp [a, b, sel, nt]

theorem refClean_val (s : List UInt8) (hs : s.length ≤ 4096) : P_ref07_Clean (s, ()) = some ((cleanF s).1, ((cleanF s).2, ())) := by
  unfold P_ref07_Clean
  dsimp only
  rw [refParts_val s (by omega), obind_some]
  have hm := parts_mem s
  have hn := length_parts s
  have key := loop_run (f := P_ref07_Clean_L0 (parts s, ())) (parts s) (fun (o : List (List UInt8)) i => (((), ((i : Int), ())), (o, ())))
    (fun i o x => some (.inl (if keepN x = true then o ++ [x] else o))) (fun i o => (((), ((i : Int), ())), (o, ()))) (fun i o => o.length ≤ i)
    (fun o i x hx hi hI => by
      unfold P_ref07_Clean_L0
      dsimp only
      rw [ltI_len_true hi, sel_true, idx_some' hx, obind_some, obind_some]
      have hk : keepN x = (nt (eqS x []) && nt (eqS x [46])) := by simp [keepN, eqS, nt]
      by_cases a : x = []
      · rw [eqS_true a, nt_true, sel_false, obind_some, sel_false, obind_some, iadd_one (by omega), if_neg (by rw [hk, eqS_true a]; simp [nt])]; rfl
      · by_cases b : x = [46]
        · rw [eqS_false a, nt_false, sel_true, eqS_true b, nt_true, obind_some, sel_false, obind_some, iadd_one (by omega), if_neg (by rw [hk, eqS_true b]; simp [nt])]; rfl
        · rw [eqS_false a, nt_false, sel_true, eqS_false b, nt_false, obind_some, sel_true, obind_some, fits_len2 (by simp only [List.length_cons, List.length_nil]; omega), sel_true, obind_some, iadd_one (by omega), if_pos (by rw [hk, eqS_false a, eqS_false b]; rfl)]; rfl)
    (fun o i x o' hx hI hq => by
      obtain rfl := Sum.inl.inj (Option.some.inj hq)
      by_cases a : keepN x = true
      · rw [if_pos a]; simp only [List.length_append, List.length_cons, List.length_nil]; omega
      · rw [if_neg a]; omega)
    (fun o _ => by
      unfold P_ref07_Clean_L0
      dsimp only
      rw [ltI_len_end, sel_false]; rfl)
    (fun _ _ _ _ _ h => by cases h) [] (Nat.le_refl _)
  have run : ∀ (r : List (List UInt8)) (i : Nat) (o : List (List UInt8)), ∃ j, runL (fun i (o : List (List UInt8)) x => some (Sum.inl (if keepN x = true then o ++ [x] else o))) (fun i o => (((), ((i : Int), ())), (o, ()))) r i o = some (((), (j, ())), (o ++ r.filter keepN, ())) := by
    intro r
    induction r with
    | nil => intro i o; exact ⟨(i : Int), by simp [runL]⟩
    | cons x r ih =>
      intro i o
      unfold runL
      by_cases hk : keepN x = true
      · simp only [if_pos hk]
        obtain ⟨j, h⟩ := ih (i + 1) (o ++ [x])
        exact ⟨j, by rw [h, List.filter_cons_of_pos hk]; simp⟩
      · simp only [if_neg hk]
        obtain ⟨j, h⟩ := ih (i + 1) o
        exact ⟨j, by rw [h, List.filter_cons_of_neg hk]⟩
  obtain ⟨j, h1⟩ := run (parts s) 0 []
  have key' : Loop (P_ref07_Clean_L0 (parts s, ())) (((), ((0 : Int), ())), (([] : List (List UInt8)), ())) = some (((), (j, ())), (names s, ())) := by
    have := key.trans h1
    rw [List.nil_append] at this
    exact this
  have hj := length_joinS_names s
  have hnn := length_names s
  rw [key', obind_some]
  dsimp only
  rw [refJoin_val _ (by omega) (by omega), obind_some]
  have e0 : obind (sel (nt (eqS s [])) (obind (idx s 0) fun y4 => some (eqI (u8 y4) 47)) (some false)) = fun (f : Bool → Option (List UInt8 × Int × Unit)) => f (decide (s.head? = some 47)) := by
    funext f
    cases s with
    | nil => rfl
    | cons b r =>
      rw [eqS_false (by simp), nt_false, sel_true, show idx (b :: r) 0 = some b from rfl, obind_some, u8_47, obind_some]
      congr 1
      simp
  rw [e0]
  dsimp only
  rw [refIs_val _ (by omega), obind_some, parts_names]
  unfold cleanF cleanOk
  dsimp only
  by_cases a : s.head? = some 47
  · simp [a, sel, nt, obind]
  · cases ha : (names s).all isNm with
    | false => simp [a, sel, nt, obind]
    | true =>
      by_cases b : (names s).length ≤ 8
      · by_cases c : (joinS (names s)).length ≤ 96 <;> simp [a, b, c, sel, nt, obind]
      · simp [a, b, sel, nt, obind]
end Go.Ge

/- Paths in plain words: split, joined, under one another, compared, marks. -/
namespace Go.Ge
set_option linter.unusedVariables false
set_option linter.unusedSimpArgs false

/-! ### Where the last stroke stands -/
def lastN (p : List UInt8) : Nat → Option Nat
  | 0 => none
  | n + 1 => if p[n]? = some 47 then some n else lastN p n

theorem lastByte_val (p : List UInt8) (hp : p.length ≤ 1048576) : P_internal_bytealg_LastIndexByteString (p, (47, ())) = some (match lastN p p.length with | some k => (k : Int) | none => -1, ()) := by
  unfold P_internal_bytealg_LastIndexByteString
  dsimp only
  have run : ∀ n, n ≤ p.length → ∃ q, Loop (P_internal_bytealg_LastIndexByteString_L0 (p, (47, ()))) ((0, (((n : Int) - 1), ())), ()) = some q ∧ (match lastN p n with | some k => q.1 = 1 ∧ q.2.1.1 = (k : Int) | none => q.1 = 0) := by
    intro n
    induction n with
    | zero =>
      intro _
      refine ⟨(0, ((0, (-1, ())), ())), ?_, rfl⟩
      rw [Loop_eq]; rfl
    | succ n ih =>
      intro hn
      obtain ⟨y, hy⟩ : ∃ y, p[n]? = some y := ⟨_, List.getElem?_eq_getElem (by omega)⟩
      have e : ((n + 1 : Nat) : Int) - 1 = (n : Int) := by omega
      rw [e, Loop_eq]
      have st : P_internal_bytealg_LastIndexByteString_L0 (p, (47, ())) ((0, ((n : Int), ())), ()) = if y = 47 then some (.inr (1, (((n : Int), ((n : Int), ())), ()))) else some (.inl ((0, ((n : Int) - 1, ())), ())) := by
        unfold P_internal_bytealg_LastIndexByteString_L0
        dsimp only
        rw [leI_true (by omega), sel_true, idx_some' hy, obind_some, u8_47, isub_i64 (by omega) (by omega), sel_decide]
      rw [st, lastN, hy]
      by_cases h : y = 47
      · rw [if_pos h, if_pos (by rw [h])]
        exact ⟨_, rfl, rfl, rfl⟩
      · rw [if_neg h, if_neg (fun q => h (Option.some.inj q))]
        exact ih (by omega)
  obtain ⟨q, h1, h2⟩ := run p.length (Nat.le_refl _)
  have e : isub .i64 (len p) 1 = (p.length : Int) - 1 := by rw [len_eq, isub_i64 (by omega) (by omega)]
  rw [e, h1, obind_some]
  cases hl : lastN p p.length with
  | none => rw [hl] at h2; rw [h2, eqN_zero, sel_true]
  | some k => rw [hl] at h2; rw [h2.1, h2.2, eqN_one, sel_false]

theorem lastN_some : ∀ {p : List UInt8} {n k : Nat}, lastN p n = some k → k < n ∧ p[k]? = some 47 ∧ ∀ j, k < j → j < n → p[j]? ≠ some 47 := by
  intro p n
  induction n with
  | zero => intro k h; cases h
  | succ n ih =>
    intro k h
    rw [lastN] at h
    split at h
    · rename_i hp
      obtain rfl := Option.some.inj h
      exact ⟨Nat.lt_succ_self _, hp, fun j h1 h2 => by omega⟩
    · rename_i hp
      obtain ⟨h1, h2, h3⟩ := ih h
      refine ⟨by omega, h2, fun j h4 h5 => ?_⟩
      by_cases e : j = n
      · rw [e]; exact hp
      · exact h3 j h4 (by omega)
theorem lastN_none : ∀ {p : List UInt8} {n : Nat}, lastN p n = none → ∀ j, j < n → p[j]? ≠ some 47 := by
  intro p n
  induction n with
  | zero => intro _ j h; omega
  | succ n ih =>
    intro h j hj
    rw [lastN] at h
    split at h
    · cases h
    · rename_i hp
      by_cases e : j = n
      · rw [e]; exact hp
      · exact ih h j (by omega)

def splitF (p : List UInt8) : List UInt8 × List UInt8 := match lastN p p.length with | some k => (p.take k, p.drop (k + 1)) | none => ([], p)

theorem split_cases (p : List UInt8) : (47 ∉ p ∧ splitF p = ([], p)) ∨ ∃ a b, p = a ++ 47 :: b ∧ 47 ∉ b ∧ splitF p = (a, b) := by
  unfold splitF
  cases h : lastN p p.length with
  | none =>
    refine .inl ⟨fun hm => ?_, rfl⟩
    obtain ⟨j, hj, e⟩ := List.getElem_of_mem hm
    exact lastN_none h j hj (by rw [List.getElem?_eq_getElem hj, e])
  | some k =>
    obtain ⟨h1, h2, h3⟩ := lastN_some h
    refine .inr ⟨p.take k, p.drop (k + 1), ?_, fun hm => ?_, rfl⟩
    · obtain ⟨hk, e⟩ := List.getElem?_eq_some_iff.1 h2
      rw [← e, ← List.drop_eq_getElem_cons hk, List.take_append_drop]
    · obtain ⟨j, hj, e⟩ := List.getElem_of_mem hm
      rw [List.length_drop] at hj
      rw [List.getElem_drop] at e
      exact h3 (k + 1 + j) (by omega) (by omega) (by rw [List.getElem?_eq_getElem (by omega), e])

theorem psplit_val (p : List UInt8) (hp : p.length ≤ 1048576) : P_paths_Split (p, ()) = some ((splitF p).1, ((splitF p).2, ())) := by
  unfold P_paths_Split P_strings_LastIndex
  dsimp only
  rw [show eqI (len [(47 : UInt8)]) 0 = false from rfl, sel_false, show eqI (len [(47 : UInt8)]) 1 = true from rfl, sel_true, show idx [(47 : UInt8)] 0 = some 47 from rfl, obind_some]
  rw [show u8 47 = 47 from rfl, lastByte_val p hp, obind_some, obind_some]
  unfold splitF
  cases h : lastN p p.length with
  | none => rw [ltI_true (by decide), sel_true]
  | some k =>
    obtain ⟨h1, _, _⟩ := lastN_some h
    dsimp only
    rw [ltI_false (by omega), sel_false, show inside 0 (k : Int) (len p) = true from inside_true (by omega) (by omega) (by rw [len_eq]; omega), sel_true, iadd_one (by omega), inside_true (by omega) (by rw [len_eq]; omega) (Int.le_refl _), sel_true, sub_take, sub_drop p (k + 1) (by omega)]

theorem splitS_snoc (a b : List UInt8) (hb : 47 ∉ b) : splitS (a ++ 47 :: b) = splitS a ++ [b] := by
  induction a with
  | nil =>
    have e : splitS (47 :: b) = [] :: splitS b := by rw [splitS, if_pos rfl]
    rw [List.nil_append, e, splitS_plain b hb]; rfl
  | cons c a ih =>
    rw [List.cons_append]
    by_cases h : c = 47
    · rw [splitS, if_pos h, ih]
      conv => rhs; rw [splitS, if_pos h]
      rfl
    · cases hs : splitS a with
      | nil => exact absurd hs (splitS_ne a)
      | cons x t =>
        rw [hs] at ih
        rw [splitS_cons h hs, splitS_cons h (by rw [ih]; rfl)]
        rfl

theorem refSplit_val (p : List UInt8) (hp : p.length ≤ 4096) : P_ref07_Split (p, ()) = some ((splitF p).1, ((splitF p).2, ())) := by
  unfold P_ref07_Split
  dsimp only
  rw [refParts_val p (by omega), obind_some]
  by_cases h0 : p = []
  · subst h0; rfl
  have hpp : parts p = splitS p := by unfold parts; rw [if_neg h0]
  rcases split_cases p with ⟨h1, h2⟩ | ⟨a, b, rfl, h1, h2⟩
  · rw [h2, hpp, splitS_plain p h1]
    dsimp only
    have e1 : P_ref07_join (sub [p] 0 (minus (isub .i64 (len [p]) 1) 0), ()) = some ([], ()) := by
      have e : sub [p] 0 (minus (isub .i64 (len [p]) 1) 0) = [] := rfl
      rw [e]
      exact refJoin_val [] (by simp) (by simp [joinS])
    rw [show eqI (len [p]) 0 = false from rfl, sel_false, show inside 0 (isub .i64 (len [p]) 1) (len [p]) = true from rfl, sel_true, e1, obind_some]
    rfl
  · rw [h2, hpp, splitS_snoc a b h1]
    dsimp only
    have hl := length_splitS a
    rw [List.length_append] at hp
    simp only [List.length_cons] at hp
    have e1 : isub .i64 (len (splitS a ++ [b])) 1 = (((splitS a).length : Nat) : Int) := by
      rw [len_eq, List.length_append, isub_i64 (by simp only [List.length_cons, List.length_nil]; omega) (by simp only [List.length_cons, List.length_nil]; omega)]
      simp only [List.length_cons, List.length_nil]; omega
    rw [e1, eqI_false (by rw [len_eq, List.length_append]; simp only [List.length_cons, List.length_nil]; omega), sel_false, inside_true (by omega) (by omega) (by rw [len_eq, List.length_append]; omega), sel_true, sub_take, List.take_left,
      refJoin_val _ (by omega) (by rw [joinS_splitS]; omega), joinS_splitS, obind_some, idx_nat]
    simp [obind]

/-! ### Put together -/
def joinP (d n : List UInt8) : List UInt8 := if d = [] ∨ n = [] then d ++ n else d ++ 47 :: n
theorem pjoin_val (d n : List UInt8) (hd : d.length ≤ 1048576) (hn : n.length ≤ 1048576) : P_paths_Join (d, (n, ())) = some (joinP d n, ()) := by
  unfold P_paths_Join joinP
  dsimp only
  by_cases a : d = []
  · rw [eqS_true a, nt_true, sel_false, sel_true, fits_len2 (by omega), sel_true, if_pos (.inl a)]; rfl
  · rw [eqS_false a, nt_false, sel_true]
    by_cases b : n = []
    · rw [eqS_true b, sel_true, fits_len2 (by omega), sel_true, if_pos (.inr b)]; rfl
    · rw [eqS_false b, sel_false, fits_len2 (by simp only [List.length_cons, List.length_nil]; omega), sel_true, fits_len2 (by simp only [app_eq, List.length_append, List.length_cons, List.length_nil]; omega), sel_true, if_neg (by simp [a, b])]
      simp [app]
theorem refpjoin_val (d n : List UInt8) (hd : d.length ≤ 1048576) (hn : n.length ≤ 1048576) : P_ref07_Join (d, (n, ())) = some (joinP d n, ()) := by
  unfold P_ref07_Join joinP
  dsimp only
  by_cases a : d = []
  · rw [eqS_true a, sel_true, if_pos (.inl a), a]; rfl
  · rw [eqS_false a, sel_false]
    by_cases b : n = []
    · rw [eqS_true b, sel_true, if_pos (.inr b), b, List.append_nil]
    · rw [eqS_false b, sel_false, fits_len2 (by simp only [List.length_cons, List.length_nil]; omega), sel_true, fits_len2 (by simp only [app_eq, List.length_append, List.length_cons, List.length_nil]; omega), sel_true, if_neg (by simp [a, b])]
      simp [app]

/-! ### Under one another -/
def underL (x y : List (List UInt8)) : Bool := decide (y.length < x.length ∧ x.take y.length = y)

theorem pairs_run {α : Type} [DecidableEq α] (Q : Nat → Nat → Nat × (Bool × Int × Unit) × Unit) (hQ : ∀ i j, (Q i j).1 = j ∧ (Q i j).2.1.1 = false) : ∀ (r : List (α × α)) (i : Nat), ∃ q, runL (fun i (_ : Unit) p => some (if p.1 = p.2 then Sum.inl () else Sum.inr (Q i 1))) (fun i _ => Q i 0) r i () = some q ∧
      q.1 = (if r.all (fun p => decide (p.1 = p.2)) = true then 0 else 1) ∧ q.2.1.1 = false := by
  intro r
  induction r with
  | nil => intro i; exact ⟨_, rfl, (hQ _ _).1, (hQ _ _).2⟩
  | cons p r ih =>
    intro i
    unfold runL
    by_cases h : p.1 = p.2
    · simp only [if_pos h]
      obtain ⟨q, h1, h2, h3⟩ := ih (i + 1)
      exact ⟨q, h1, by rw [h2, List.all_cons, decide_eq_true h, Bool.true_and], h3⟩
    · simp only [if_neg h]
      exact ⟨_, rfl, by rw [(hQ _ _).1, List.all_cons, decide_eq_false h, Bool.false_and, if_neg (by simp)], (hQ _ _).2⟩

theorem equal_val (x y : List (List UInt8)) (hx : x.length ≤ 1048576) (hy : y.length ≤ 1048576) : P_slices_Equal_string_string (x, (y, ())) = some (decide (x = y), ()) := by
  unfold P_slices_Equal_string_string
  dsimp only
  rw [eqI_lens]
  by_cases hl : x.length = y.length
  · rw [decide_eq_true hl, nt_true, sel_false]
    have key := loop_run (f := P_slices_Equal_string_string_L0 (x, (y, ()))) (x.zip y) (fun (_ : Unit) i => ((false, ((i : Int), ())), ()))
      (fun i _ p => some (if p.1 = p.2 then .inl () else .inr (1, ((false, ((i : Int), ())), ())))) (fun i _ => (0, ((false, ((i : Int), ())), ()))) (fun _ _ => True)
      (fun u i p hp hi _ => by
        obtain ⟨h1, h2⟩ := zip_at hp
        have hlx := getElem?_lt h1
        unfold P_slices_Equal_string_string_L0
        dsimp only
        rw [ltI_len_true (getElem?_lt h1), sel_true, idx_some' h1, obind_some, idx_some' h2, obind_some]
        by_cases e : p.1 = p.2
        · rw [eqS_true e, nt_true, sel_false, iadd_one (by omega), if_pos e]; rfl
        · rw [eqS_false e, nt_false, sel_true, if_neg e]; rfl)
      (fun _ _ _ _ _ _ _ => trivial)
      (fun u _ => by
        have e : (x.zip y).length = x.length := by rw [List.length_zip, hl, Nat.min_self]
        unfold P_slices_Equal_string_string_L0
        dsimp only
        rw [e, ltI_len_end, sel_false])
      (fun _ _ _ _ _ h => by cases h) () trivial
    obtain ⟨q, h1, h2, h3⟩ := pairs_run (fun i j => (j, ((false, ((i : Int), ())), ()))) (fun _ _ => ⟨rfl, rfl⟩) (x.zip y) 0
    have key' : Loop (P_slices_Equal_string_string_L0 (x, (y, ()))) ((false, ((0 : Int), ())), ()) = some q := key.trans h1
    rw [key', obind_some, h2, h3, zip_same_len hl]
    by_cases e : x = y
    · rw [decide_eq_true e, if_pos rfl, eqN_zero, sel_true]
    · rw [decide_eq_false e, if_neg (by simp), eqN_one, sel_false]
  · rw [decide_eq_false hl, nt_false, sel_true, decide_eq_false (fun e => hl (by rw [e]))]

theorem under_val (p d : List UInt8) (hp : p.length ≤ 4096) (hd : d.length ≤ 4096) : P_paths_Under (p, (d, ())) = some (underL (parts p) (parts d), ()) := by
  unfold P_paths_Under underL
  dsimp only
  have h1 := length_parts p
  have h2 := length_parts d
  rw [parts_val p (by omega), obind_some, parts_val d (by omega), obind_some]
  dsimp only
  rw [ltI_lens]
  by_cases h : (parts d).length < (parts p).length
  · rw [decide_eq_true h, sel_true, show inside 0 (len (parts d)) (len (parts p)) = true from inside_true (by decide) (by rw [len_eq]; omega) (by rw [len_eq, len_eq]; omega), sel_true, sub_take', equal_val _ _ (by rw [List.length_take]; omega) (by omega), obind_some, obind_some]
    simp [h]
  · rw [decide_eq_false h, sel_false, obind_some]
    simp [h]

theorem refUnder_val (p d : List UInt8) (hp : p.length ≤ 4096) (hd : d.length ≤ 4096) : P_ref07_Under (p, (d, ())) = some (underL (parts p) (parts d), ()) := by
  unfold P_ref07_Under underL
  dsimp only
  have h1 := length_parts p
  have h2 := length_parts d
  rw [refParts_val p (by omega), obind_some, refParts_val d (by omega), obind_some]
  dsimp only
  rw [leI_lens]
  generalize parts p = x at h1
  generalize parts d = y at h2
  by_cases h : y.length < x.length
  · rw [decide_eq_false (by omega), sel_false]
    have e : (x.zip y).length = y.length := by rw [List.length_zip]; omega
    have key := loop_run (f := P_ref07_Under_L0 (x, ()) (y, ())) (x.zip y) (fun (_ : Unit) i => ((false, ((i : Int), ())), ()))
      (fun i _ p => some (if p.1 = p.2 then .inl () else .inr (1, ((false, ((i : Int), ())), ())))) (fun i _ => (0, ((false, ((i : Int), ())), ()))) (fun _ _ => True)
      (fun u i p hp hi _ => by
        obtain ⟨h1, h2⟩ := zip_at hp
        have hlx := getElem?_lt h1
        unfold P_ref07_Under_L0
        dsimp only
        rw [ltI_len_true (getElem?_lt h1), ltI_len_true (getElem?_lt h2), sel_true, sel_true, idx_some' h1, obind_some, idx_some' h2, obind_some]
        by_cases e : p.1 = p.2
        · rw [eqS_true e, nt_true, sel_false, iadd_one (by omega), if_pos e]; rfl
        · rw [eqS_false e, nt_false, sel_true, if_neg e]; rfl)
      (fun _ _ _ _ _ _ _ => trivial)
      (fun u _ => by
        unfold P_ref07_Under_L0
        dsimp only
        rw [e, ltI_len_end, sel_false, sel_false])
      (fun _ _ _ _ _ h => by cases h) () trivial
    obtain ⟨q, k1, k2, k3⟩ := pairs_run (fun i j => (j, ((false, ((i : Int), ())), ()))) (fun _ _ => ⟨rfl, rfl⟩) (x.zip y) 0
    have key' : Loop (P_ref07_Under_L0 (x, ()) (y, ())) ((false, ((0 : Int), ())), ()) = some q := key.trans k1
    rw [key', obind_some, k2, k3, zip_same, show min x.length y.length = y.length by omega, List.take_length]
    by_cases a : x.take y.length = y
    · rw [decide_eq_true a, if_pos rfl, eqN_zero, sel_true]; simp [h, a]
    · rw [decide_eq_false a, if_neg (by simp), eqN_one, sel_false]; simp [a]
  · rw [decide_eq_true (by omega), sel_true]
    simp [h]

/-! ### Compared -/
theorem isNaN_val (x : List UInt8) : P_cmp_isNaN_string (x, ()) = some (false, ()) := by
  unfold P_cmp_isNaN_string
  rw [eqS_self]; rfl
theorem cmpS_val (x y : List UInt8) : P_cmp_Compare_string (x, (y, ())) = some (cmpS x y, ()) := by
  unfold P_cmp_Compare_string cmpS
  dsimp only
  rw [isNaN_val, obind_some, isNaN_val, obind_some]
  dsimp only
  rw [sel_false, sel_false, gtS_eq]
  rcases ltS_tri x y with h | rfl | h
  · rw [h, sel_true, if_pos rfl]
  · rw [ltS_irrefl, sel_false, sel_false, if_neg (by simp), if_pos rfl]
  · rw [ltS_asymm h, sel_false, h, sel_true, if_neg (by simp), if_neg (fun e => ltS_ne h e.symm)]

theorem compare_val (a b : List UInt8) (ha : a.length ≤ 4096) (hb : b.length ≤ 4096) : P_paths_Compare (a, (b, ())) = some (cmpL (parts a) (parts b), ()) := by
  unfold P_paths_Compare
  dsimp only
  have h1 := length_parts a
  have h2 := length_parts b
  rw [parts_val a (by omega), obind_some, parts_val b (by omega), obind_some]
  generalize parts a = x at h1
  generalize parts b = y at h2
  have run : ∀ (n i : Nat), x.length - i ≤ n → i ≤ x.length → i ≤ y.length → x.take i = y.take i → ∃ q, Loop (P_paths_Compare_L0 (x, ()) (y, ())) ((0, ((i : Int), ())), ()) = some q ∧
      (if q.1 = 0 then x.length ≤ y.length ∧ cmpL (x.drop i) (y.drop i) = (if x.length < y.length then -1 else 0) else q.1 = 1 ∧ q.2.1.1 = cmpL (x.drop i) (y.drop i)) := by
    intro n
    induction n with
    | zero =>
      intro i hn hx hy ht
      obtain rfl : i = x.length := by omega
      refine ⟨(0, ((0, ((x.length : Int), ())), ())), ?_, ?_⟩
      · rw [Loop_eq]
        have : P_paths_Compare_L0 (x, ()) (y, ()) ((0, ((x.length : Int), ())), ()) = some (.inr (0, ((0, ((x.length : Int), ())), ()))) := by
          unfold P_paths_Compare_L0
          dsimp only
          rw [ltI_len_end, sel_false]
        rw [this]; rfl
      · rw [if_pos rfl]
        refine ⟨hy, ?_⟩
        rw [List.drop_length]
        by_cases h : x.length < y.length
        · rw [if_pos h]
          cases hd : y.drop x.length with
          | nil => have := congrArg List.length hd; rw [List.length_drop] at this; simp only [List.length_nil] at this; omega
          | cons b r => rfl
        · rw [if_neg h, List.drop_of_length_le (by omega)]; rfl
    | succ n ih =>
      intro i hn hx hy ht
      by_cases hi : i < x.length
      · obtain ⟨u, hu⟩ : ∃ u, x[i]? = some u := ⟨_, List.getElem?_eq_getElem hi⟩
        obtain ⟨hu1, hu2⟩ := List.getElem?_eq_some_iff.1 hu
        have dx : x.drop i = u :: x.drop (i + 1) := by rw [List.drop_eq_getElem_cons hi, hu2]
        rw [Loop_eq]
        by_cases hj : i < y.length
        · obtain ⟨v, hv⟩ : ∃ v, y[i]? = some v := ⟨_, List.getElem?_eq_getElem hj⟩
          obtain ⟨hv1, hv2⟩ := List.getElem?_eq_some_iff.1 hv
          have dy : y.drop i = v :: y.drop (i + 1) := by rw [List.drop_eq_getElem_cons hj, hv2]
          have st : P_paths_Compare_L0 (x, ()) (y, ()) ((0, ((i : Int), ())), ()) = if u = v then some (.inl ((0, (((i + 1 : Nat) : Int), ())), ())) else some (.inr (1, ((cmpS u v, ((i : Int), ())), ()))) := by
            unfold P_paths_Compare_L0
            dsimp only
            rw [ltI_len_true hi, sel_true, idx_some' hu, obind_some, leI_len, decide_eq_false (by omega), sel_false, idx_some' hv, obind_some, cmpS_val, obind_some]
            dsimp only
            by_cases e : u = v
            · rw [if_pos e, show cmpS u v = 0 by unfold cmpS; rw [e, ltS_irrefl, if_neg (by simp), if_pos rfl], show nt (eqI 0 0) = false from rfl, sel_false, iadd_one (by omega)]
            · rw [if_neg e, show eqI (cmpS u v) 0 = false from eqI_false (by unfold cmpS; split <;> (try split) <;> first | decide | exact absurd (by assumption) e), nt_false, sel_true]
          rw [st, dx, dy, cmpL]
          by_cases e : u = v
          · rw [if_pos e, if_pos e]
            exact ih (i + 1) (by omega) (by omega) (by omega) (by rw [List.take_add_one, List.take_add_one, hu, hv, ht, e])
          · rw [if_neg e, if_neg e]
            refine ⟨_, rfl, ?_⟩
            rw [if_neg (by simp)]
            refine ⟨rfl, ?_⟩
            show cmpS u v = _
            unfold cmpS
            rw [if_neg e]
        · have st : P_paths_Compare_L0 (x, ()) (y, ()) ((0, ((i : Int), ())), ()) = some (.inr (1, ((1, ((i : Int), ())), ()))) := by
            unfold P_paths_Compare_L0
            dsimp only
            rw [ltI_len_true hi, sel_true, idx_some' hu, obind_some, leI_len, decide_eq_true (by omega), sel_true]
          rw [st]
          refine ⟨_, rfl, ?_⟩
          rw [if_neg (by simp), dx, show y.drop i = [] from List.drop_of_length_le (by omega)]
          exact ⟨rfl, rfl⟩
      · exact ih i (by omega) hx hy ht
  obtain ⟨q, k1, k2⟩ := run x.length 0 (by omega) (by omega) (by omega) rfl
  have k1' : Loop (P_paths_Compare_L0 (x, ()) (y, ())) ((0, ((0 : Int), ())), ()) = some q := k1
  rw [k1', obind_some]
  rw [List.drop_zero, List.drop_zero] at k2
  by_cases h : q.1 = 0
  · rw [if_pos h] at k2
    rw [h, eqN_zero, sel_true, ltI_lens, k2.2]
    by_cases l : x.length < y.length
    · rw [decide_eq_true l, sel_true, if_pos l]
    · rw [decide_eq_false l, sel_false, if_neg l]
  · rw [if_neg h] at k2
    rw [k2.1, eqN_one, sel_false, k2.2]

theorem refCompare_val (a b : List UInt8) (ha : a.length ≤ 4096) (hb : b.length ≤ 4096) : P_ref07_Compare (a, (b, ())) = some (cmpL (parts a) (parts b), ()) := by
  unfold P_ref07_Compare
  dsimp only
  have h1 := length_parts a
  have h2 := length_parts b
  rw [refParts_val a (by omega), obind_some, refParts_val b (by omega), obind_some]
  generalize parts a = x at h1
  generalize parts b = y at h2
  have run : ∀ (n i : Nat), x.length - i ≤ n → i ≤ x.length → i ≤ y.length → ∃ q, Loop (P_ref07_Compare_L0 (x, ()) (y, ())) ((0, ((i : Int), ())), ()) = some q ∧
      (if q.1 = 0 then cmpL (x.drop i) (y.drop i) = (if x.length < y.length then -1 else if y.length < x.length then 1 else 0) else q.1 = 1 ∧ q.2.1.1 = cmpL (x.drop i) (y.drop i)) := by
    intro n
    induction n with
    | zero =>
      intro i hn hx hy
      obtain rfl : i = x.length := by omega
      refine ⟨(0, ((0, ((x.length : Int), ())), ())), ?_, ?_⟩
      · rw [Loop_eq]
        have : P_ref07_Compare_L0 (x, ()) (y, ()) ((0, ((x.length : Int), ())), ()) = some (.inr (0, ((0, ((x.length : Int), ())), ()))) := by
          unfold P_ref07_Compare_L0
          dsimp only
          rw [ltI_len_end, sel_false, sel_false]
        rw [this]; rfl
      · rw [if_pos rfl, List.drop_length]
        by_cases h : x.length < y.length
        · rw [if_pos h]
          cases hd : y.drop x.length with
          | nil => have := congrArg List.length hd; rw [List.length_drop] at this; simp only [List.length_nil] at this; omega
          | cons b r => rfl
        · rw [if_neg h, List.drop_of_length_le (by omega), if_neg (by omega)]; rfl
    | succ n ih =>
      intro i hn hx hy
      by_cases hi : i < x.length
      · obtain ⟨u, hu⟩ : ∃ u, x[i]? = some u := ⟨_, List.getElem?_eq_getElem hi⟩
        obtain ⟨hu1, hu2⟩ := List.getElem?_eq_some_iff.1 hu
        have dx : x.drop i = u :: x.drop (i + 1) := by rw [List.drop_eq_getElem_cons hi, hu2]
        rw [Loop_eq]
        by_cases hj : i < y.length
        · obtain ⟨v, hv⟩ : ∃ v, y[i]? = some v := ⟨_, List.getElem?_eq_getElem hj⟩
          obtain ⟨hv1, hv2⟩ := List.getElem?_eq_some_iff.1 hv
          have dy : y.drop i = v :: y.drop (i + 1) := by rw [List.drop_eq_getElem_cons hj, hv2]
          have st : P_ref07_Compare_L0 (x, ()) (y, ()) ((0, ((i : Int), ())), ()) = if u = v then some (.inl ((0, (((i + 1 : Nat) : Int), ())), ())) else some (.inr (1, ((if ltS u v = true then -1 else 1, ((i : Int), ())), ()))) := by
            unfold P_ref07_Compare_L0
            dsimp only
            rw [ltI_len_true hi, ltI_len_true hj, sel_true, sel_true, idx_some' hu, obind_some, idx_some' hv, obind_some, obind_some, obind_some, gtS_eq]
            rcases ltS_tri u v with h | rfl | h
            · rw [h, sel_true, if_neg (ltS_ne h), if_pos rfl]
            · rw [ltS_irrefl, sel_false, sel_false, if_pos rfl, iadd_one (by omega)]
            · rw [ltS_asymm h, sel_false, h, sel_true, if_neg (fun e => ltS_ne h e.symm), if_neg (by simp)]
          rw [st, dx, dy, cmpL]
          by_cases e : u = v
          · rw [if_pos e, if_pos e]
            exact ih (i + 1) (by omega) (by omega) (by omega)
          · rw [if_neg e, if_neg e]
            refine ⟨_, rfl, ?_⟩
            rw [if_neg (by simp)]
            exact ⟨rfl, rfl⟩
        · have st : P_ref07_Compare_L0 (x, ()) (y, ()) ((0, ((i : Int), ())), ()) = some (.inr (0, ((0, ((i : Int), ())), ()))) := by
            unfold P_ref07_Compare_L0
            dsimp only
            rw [ltI_len_true hi, ltI_len, decide_eq_false hj, sel_true, sel_false]
          rw [st]
          refine ⟨_, rfl, ?_⟩
          rw [if_pos rfl, dx, show y.drop i = [] from List.drop_of_length_le (by omega), if_neg (by omega), if_pos (by omega)]
          rfl
      · exact ih i (by omega) hx hy
  obtain ⟨q, k1, k2⟩ := run x.length 0 (by omega) (by omega) (by omega)
  have k1' : Loop (P_ref07_Compare_L0 (x, ()) (y, ())) ((0, ((0 : Int), ())), ()) = some q := k1
  rw [k1', obind_some]
  rw [List.drop_zero, List.drop_zero] at k2
  by_cases h : q.1 = 0
  · rw [if_pos h] at k2
    rw [h, eqN_zero, sel_true, ltI_lens, ltI_lens, k2]
    by_cases l : x.length < y.length
    · rw [decide_eq_true l, sel_true, if_pos l]
    · rw [decide_eq_false l, sel_false, if_neg l]
      by_cases m : y.length < x.length
      · rw [decide_eq_true m, sel_true, if_pos m]
      · rw [decide_eq_false m, sel_false, if_neg m]
  · rw [if_neg h] at k2
    rw [k2.1, eqN_one, sel_false, k2.2]
end Go.Ge

/- Paths in plain words: marks; the three laws of paths answer true. -/
namespace Go.Ge
set_option linter.unusedVariables false
set_option linter.unusedSimpArgs false

/-! ### Beginnings -/
theorem prefix0_val (s p : List UInt8) : P_internal_stringslite_HasPrefix (s, (p, ())) = some (decide (s.take p.length = p), ()) := by
  unfold P_internal_stringslite_HasPrefix
  dsimp only
  rw [leI_lens]
  by_cases h : p.length ≤ s.length
  · rw [decide_eq_true h, sel_true, show inside 0 (len p) (len s) = true from inside_true (by decide) (by rw [len_eq]; omega) (by rw [len_eq, len_eq]; omega), sel_true, sub_take', obind_some]
    rfl
  · rw [decide_eq_false h, sel_false, obind_some, decide_eq_false]
    intro e
    have := congrArg List.length e
    rw [List.length_take] at this
    omega
theorem prefix_val (s p : List UInt8) : P_strings_HasPrefix (s, (p, ())) = some (decide (s.take p.length = p), ()) := by
  unfold P_strings_HasPrefix
  dsimp only
  rw [prefix0_val, obind_some]
theorem begins_val (s p : List UInt8) : P_ref07_begins (s, (p, ())) = some (decide (s.take p.length = p), ()) := by
  unfold P_ref07_begins
  dsimp only
  rw [leI_lens]
  by_cases h : p.length ≤ s.length
  · rw [decide_eq_true h, sel_true, show inside 0 (len p) (len s) = true from inside_true (by decide) (by rw [len_eq]; omega) (by rw [len_eq, len_eq]; omega), sel_true, sub_take', obind_some]
    rfl
  · rw [decide_eq_false h, sel_false, obind_some, decide_eq_false]
    intro e
    have := congrArg List.length e
    rw [List.length_take] at this
    omega
theorem cutp_val (s p : List UInt8) : P_strings_CutPrefix (s, (p, ())) = some (if s.take p.length = p then (s.drop p.length, (true, ())) else (s, (false, ()))) := by
  unfold P_strings_CutPrefix P_internal_stringslite_CutPrefix
  dsimp only
  rw [prefix0_val, obind_some]
  dsimp only
  by_cases h : s.take p.length = p
  · have hl : p.length ≤ s.length := by
      have := congrArg List.length h
      rw [List.length_take] at this
      omega
    rw [decide_eq_true h, nt_true, sel_false, show inside (len p) (len s) (len s) = true from inside_true (by rw [len_eq]; omega) (by rw [len_eq, len_eq]; omega) (Int.le_refl _), sel_true, obind_some, if_pos h]
    rw [show sub s (len p) (minus (len s) (len p)) = s.drop p.length from sub_drop s p.length hl]
  · rw [decide_eq_false h, nt_false, sel_true, obind_some, if_neg h]

/-! ### In a list -/
theorem scontains_val (l : List (List UInt8)) (s : List UInt8) (hl : l.length ≤ 1048576) : P_slices_Contains_string_string (l, (s, ())) = some (decide (s ∈ l), ()) := by
  unfold P_slices_Contains_string_string P_slices_Index_string_string
  dsimp only
  have key := loop_run (f := P_slices_Index_string_string_L0 (l, (s, ()))) l (fun (_ : Unit) i => ((0, ((i : Int), ())), ()))
    (fun i _ x => some (if s = x then .inr (1, (((i : Int), ((i : Int), ())), ())) else .inl ())) (fun i _ => (0, ((0, ((i : Int), ())), ()))) (fun _ _ => True)
    (fun u i x hx hi _ => by
      unfold P_slices_Index_string_string_L0
      dsimp only
      rw [ltI_len_true hi, sel_true, idx_some' hx, obind_some]
      by_cases e : s = x
      · rw [eqS_true e, sel_true, if_pos e]; rfl
      · rw [eqS_false e, sel_false, if_neg e, iadd_one (by omega)]; rfl)
    (fun _ _ _ _ _ _ _ => trivial)
    (fun u _ => by
      unfold P_slices_Index_string_string_L0
      dsimp only
      rw [ltI_len_end, sel_false])
    (fun _ _ _ _ _ h => by cases h) () trivial
  have run : ∀ (r : List (List UInt8)) (i : Nat), ∃ q, runL (fun i (_ : Unit) x => some (if s = x then Sum.inr (1, (((i : Int), ((i : Int), ())), ())) else Sum.inl ())) (fun i _ => ((0 : Nat), (((0 : Int), ((i : Int), ())), ()))) r i () = some q ∧
      (if s ∈ r then q.1 = 1 ∧ 0 ≤ q.2.1.1 else q.1 = 0) := by
    intro r
    induction r with
    | nil => intro i; exact ⟨_, rfl, by simp⟩
    | cons x r ih =>
      intro i
      unfold runL
      by_cases h : s = x
      · simp only [if_pos h]
        refine ⟨_, rfl, ?_⟩
        rw [if_pos (by rw [h]; exact List.mem_cons_self ..)]
        exact ⟨rfl, by simp⟩
      · simp only [if_neg h]
        obtain ⟨q, h1, h2⟩ := ih (i + 1)
        refine ⟨q, h1, ?_⟩
        by_cases hm : s ∈ r
        · rw [if_pos (List.mem_cons_of_mem _ hm)]; rw [if_pos hm] at h2; exact h2
        · rw [if_neg (by simp [h, hm])]; rw [if_neg hm] at h2; exact h2
  obtain ⟨q, h1, h2⟩ := run l 0
  have key' : Loop (P_slices_Index_string_string_L0 (l, (s, ()))) ((0, ((0 : Int), ())), ()) = some q := key.trans h1
  rw [key', obind_some]
  by_cases h : s ∈ l
  · rw [if_pos h] at h2
    rw [h2.1, eqN_one, sel_false, obind_some, decide_eq_true h]
    dsimp only
    rw [leI_true h2.2]
  · rw [if_neg h] at h2
    rw [h2, eqN_zero, sel_true, obind_some, decide_eq_false h]
    rfl

/-! ### Marks -/
def wh : List UInt8 := [46, 119, 104, 46]
def markF (n : List UInt8) : Int × List UInt8 :=
  if n.take 4 = wh then (if n.drop 4 = [46, 119, 104, 46, 46, 111, 112, 113] then (2, []) else if (n.drop 4).take 4 = wh ∨ n.drop 4 = [] ∨ n.drop 4 = [46] ∨ n.drop 4 = [46, 46] then (3, []) else (1, n.drop 4)) else (0, n)

theorem mark_val (n : List UInt8) : P_paths_Mark (n, ()) = some ((markF n).1, ((markF n).2, ())) := by
  unfold P_paths_Mark markF
  dsimp only
  rw [show ([46, 119, 104, 46] : List UInt8) = wh from rfl, cutp_val, obind_some, show wh.length = 4 from rfl]
  by_cases h : n.take 4 = wh
  · have e : n = wh ++ n.drop 4 := by rw [← h, List.take_append_drop]
    rw [if_pos h, if_pos h]
    dsimp only
    rw [nt_true, sel_false]
    generalize n.drop 4 = r at e
    by_cases h1 : r = [46, 119, 104, 46, 46, 111, 112, 113]
    · rw [if_pos h1, eqS_true (by rw [e, h1]; rfl), sel_true]
    · rw [if_neg h1, eqS_false (by rw [e]; intro q; exact h1 (by simpa [wh] using q)), sel_false, prefix_val, obind_some]
      dsimp only
      rw [show wh.length = 4 from rfl]
      by_cases h2 : r.take 4 = wh
      · rw [if_pos (.inl h2), decide_eq_true h2, nt_true, sel_false, obind_some, sel_true]
      · rw [decide_eq_false h2, nt_false, sel_true, scontains_val _ _ (by decide), obind_some, obind_some, sel_decide]
        have : r ∈ ([[], [46], [46, 46]] : List (List UInt8)) ↔ (r = [] ∨ r = [46] ∨ r = [46, 46]) := by simp
        by_cases h3 : r = [] ∨ r = [46] ∨ r = [46, 46]
        · rw [if_pos (this.2 h3), if_pos (.inr h3)]
        · rw [if_neg (fun q => h3 (this.1 q)), if_neg (fun q => q.elim h2 h3)]
  · rw [if_neg h, if_neg h]
    rfl

theorem refMark_val (n : List UInt8) : P_ref07_Mark (n, ()) = some ((markF n).1, ((markF n).2, ())) := by
  unfold P_ref07_Mark markF
  dsimp only
  rw [begins_val, begins_val]
  by_cases h : n.take 4 = wh
  · have e : n = wh ++ n.drop 4 := by rw [← h, List.take_append_drop]
    rw [if_pos h]
    generalize hr : n.drop 4 = r at e
    by_cases h1 : r = [46, 119, 104, 46, 46, 111, 112, 113]
    · rw [if_pos h1, eqS_true (by rw [e, h1]; rfl), sel_true]
    · rw [if_neg h1, eqS_false (by rw [e]; intro q; exact h1 (by simpa [wh] using q)), sel_false, obind_some]
      dsimp only
      have a1 : decide (n.take ([46, 119, 104, 46, 46, 119, 104, 46] : List UInt8).length = [46, 119, 104, 46, 46, 119, 104, 46]) = decide (r.take 4 = wh) := by
        rw [e]
        apply decide_eq_decide.2
        simp [wh]
      have a2 : eqS n [46, 119, 104, 46] = decide (r = []) := by
        rw [e]
        unfold eqS
        apply decide_eq_decide.2
        simp [wh]
      have a3 : eqS n [46, 119, 104, 46, 46] = decide (r = [46]) := by
        rw [e]
        unfold eqS
        apply decide_eq_decide.2
        simp [wh]
      have a4 : eqS n [46, 119, 104, 46, 46, 46] = decide (r = [46, 46]) := by
        rw [e]
        unfold eqS
        apply decide_eq_decide.2
        simp [wh]
      have a5 : decide (n.take ([46, 119, 104, 46] : List UInt8).length = [46, 119, 104, 46]) = true := decide_eq_true h
      rw [a1, a2, a3, a4, a5]
      have hs : sel (sel (nt (sel (nt (sel (nt (decide (r.take 4 = wh))) (decide (r = [])) true)) (decide (r = [46])) true)) (decide (r = [46, 46])) true) = fun (x y : Option (Int × List UInt8 × Unit)) => if r.take 4 = wh ∨ r = [] ∨ r = [46] ∨ r = [46, 46] then x else y := by
        funext x y
        by_cases b1 : r.take 4 = wh
        · rw [if_pos (.inl b1)]; simp [b1, sel, nt]
        · by_cases b2 : r = []
          · rw [if_pos (.inr (.inl b2))]; simp [b2, sel, nt]
          · by_cases b3 : r = [46]
            · rw [if_pos (.inr (.inr (.inl b3)))]; simp [b3, sel, nt]
            · by_cases b4 : r = [46, 46]
              · rw [if_pos (.inr (.inr (.inr b4)))]; simp [b4, sel, nt]
              · rw [if_neg (by simp [b1, b2, b3, b4])]; simp [b1, b2, b3, b4, sel, nt]
      rw [hs]
      dsimp only
      by_cases b : r.take 4 = wh ∨ r = [] ∨ r = [46] ∨ r = [46, 46]
      · rw [if_pos b, if_pos b]
      · rw [if_neg b, if_neg b, obind_some]
        dsimp only
        have hl : 4 ≤ n.length := by rw [e]; simp [wh]
        rw [sel_true, show inside 4 (len n) (len n) = true from inside_true (by decide) (by rw [len_eq]; omega) (Int.le_refl _), sel_true, show sub n 4 (minus (len n) 4) = n.drop 4 from sub_drop n 4 hl, hr]
  · rw [if_neg h]
    have n1 : n ≠ [46, 119, 104, 46, 46, 119, 104, 46, 46, 111, 112, 113] := fun q => h (by rw [q]; rfl)
    have n2 : n ≠ [46, 119, 104, 46] := fun q => h (by rw [q]; rfl)
    have n3 : n ≠ [46, 119, 104, 46, 46] := fun q => h (by rw [q]; rfl)
    have n4 : n ≠ [46, 119, 104, 46, 46, 46] := fun q => h (by rw [q]; rfl)
    have n5 : ¬ n.take ([46, 119, 104, 46, 46, 119, 104, 46] : List UInt8).length = [46, 119, 104, 46, 46, 119, 104, 46] := fun q => h (by
      have := congrArg (List.take 4) q
      rw [List.take_take] at this
      exact this)
    rw [eqS_false n1, sel_false, obind_some]
    dsimp only
    rw [decide_eq_false n5, eqS_false n2, eqS_false n3, eqS_false n4]
    rw [show sel (sel (nt (sel (nt (sel (nt false) false true)) false true)) false true) = fun (x y : Option (Int × List UInt8 × Unit)) => y from rfl]
    dsimp only
    rw [obind_some]
    dsimp only
    rw [decide_eq_false (by exact h), sel_false]

/-! ### awake -/
theorem sel_and {a b : Bool} : sel a b false = (a && b) := by cases a <;> rfl

/-! ### What is clean stays as it is -/
theorem cleanF_ok {s : List UInt8} (h : (cleanF s).2 = 0) : cleanOk s = true ∧ (cleanF s).1 = joinS (names s) := by
  unfold cleanF at h ⊢
  cases hc : cleanOk s with
  | true => simp
  | false => rw [hc] at h; simp at h

theorem clean_names {s : List UInt8} (h : cleanOk s = true) : (names s).all isNm = true ∧ (names s).length ≤ 8 ∧ (joinS (names s)).length ≤ 96 := by
  unfold cleanOk at h
  simp only [Bool.and_eq_true, decide_eq_true_eq] at h
  exact ⟨h.1.1.1, h.1.2, h.2⟩

theorem head_joinS {l : List (List UInt8)} (h : ∀ x ∈ l, 47 ∉ x ∧ x ≠ []) : (joinS l).head? ≠ some 47 := by
  cases l with
  | nil => simp [joinS]
  | cons x r =>
    obtain ⟨h1, h2⟩ := h x (List.mem_cons_self ..)
    have e : (joinS (x :: r)).head? = x.head? := by
      cases x with
      | nil => exact absurd rfl h2
      | cons b x => cases r <;> simp [joinS]
    rw [e]
    cases x with
    | nil => exact absurd rfl h2
    | cons b x =>
      intro q
      have : b = 47 := Option.some.inj q
      exact h1 (by rw [this]; exact List.mem_cons_self ..)

theorem joinP_fold (l : List (List UInt8)) (a : List (List UInt8)) (h : ∀ x ∈ a ++ l, 47 ∉ x ∧ x ≠ []) : l.foldl joinP (joinS a) = joinS (a ++ l) := by
  induction l generalizing a with
  | nil => simp
  | cons x r ih =>
    have hx := h x (by simp)
    have e : joinP (joinS a) x = joinS (a ++ [x]) := by
      unfold joinP
      cases a with
      | nil => rw [joinS, if_pos (.inl rfl)]; rfl
      | cons y q =>
        have hne : joinS (y :: q) ≠ [] := by
          have := (h y (by simp)).2
          cases q with
          | nil => rw [joinS]; exact this
          | cons z q => rw [joinS]; simp
        rw [if_neg (by simp [hne, hx.2])]
        have gen : ∀ (y : List UInt8) (q : List (List UInt8)), joinS (y :: q ++ [x]) = joinS (y :: q) ++ 47 :: x := by
          intro y q
          induction q generalizing y with
          | nil => rfl
          | cons z q ih2 =>
            rw [List.cons_append, List.cons_append, joinS, ← List.cons_append, ih2 z]
            rw [joinS]
            simp
        exact (gen y q).symm
    rw [List.foldl_cons, e, ih (a ++ [x]) (by intro z hz; exact h z (by simpa using hz))]
    simp

theorem splitF_join {l : List (List UInt8)} (h : ∀ x ∈ l, 47 ∉ x ∧ x ≠ []) (hne : l ≠ []) : splitF (joinS l) = (joinS l.dropLast, l.getLast hne) := by
  have hs : splitS (joinS l) = l := splitS_joinS l hne fun x hx => (h x hx).1
  rcases split_cases (joinS l) with ⟨h1, h2⟩ | ⟨a, b, h0, h1, h2⟩
  · rw [splitS_plain _ h1] at hs
    rw [h2]
    generalize joinS l = p at hs
    subst hs
    rfl
  · rw [h2]
    rw [h0, splitS_snoc a b h1] at hs
    subst hs
    rw [List.dropLast_concat, List.getLast_concat, joinS_splitS]

end Go.Ge

/- Trees: nodes, and what may be one, in plain words. -/
namespace Go.Ge
set_option linter.unusedVariables false
set_option linter.unusedSimpArgs false

abbrev Nd := List UInt8 × Int × Int × List UInt8 × List UInt8 × Unit

/-! ### Paths -/
theorem leI_iff {a b : Int} : (leI a b = true) ↔ a ≤ b := by
  constructor
  · intro h
    rcases Int.lt_or_le b a with g | g
    · rw [leI_false g] at h; cases h
    · exact g
  · exact leI_true
theorem leI_dec {a b : Int} : leI a b = decide (a ≤ b) := by
  rw [Bool.eq_iff_iff, leI_iff, decide_eq_true_eq]
theorem clean_same {p : List UInt8} (hp : p ≠ []) : ((cleanF p).2 = 0 ∧ (cleanF p).1 = p) ↔ ((parts p).all isNm = true ∧ (parts p).length ≤ 8 ∧ p.length ≤ 96) := by
  constructor
  · rintro ⟨h1, h2⟩
    obtain ⟨h3, h4⟩ := cleanF_ok h1
    obtain ⟨h5, h6, h7⟩ := clean_names h3
    have e : joinS (names p) = p := by rw [← h4, h2]
    have e2 : parts p = names p := by
      have := parts_names p
      rw [e] at this
      exact this
    rw [e2]
    refine ⟨h5, h6, ?_⟩
    rw [e] at h7
    exact h7
  · rintro ⟨h1, h2, h3⟩
    have hk : ∀ x ∈ parts p, keepN x = true := fun x hx => by
      have := List.all_eq_true.1 h1 x hx
      unfold isNm at this
      have := of_decide_eq_true this
      unfold keepN
      refine decide_eq_true ⟨fun e => ?_, this.1⟩
      subst e
      exact absurd this.2.2.1 (by decide)
    have hn : names p = parts p := List.filter_eq_self.2 hk
    have hj : joinS (names p) = p := by rw [hn, joinS_parts]
    have hh : p.head? ≠ some 47 := by
      rw [← hj]
      exact head_joinS fun x hx => ⟨(names_mem p x hx).1, (names_mem p x hx).2.1⟩
    have hc : cleanOk p = true := by
      unfold cleanOk
      rw [hj, hn]
      simp [h1, h2, h3, hh]
    unfold cleanF
    rw [if_pos hc]
    exact ⟨rfl, hj⟩

def okPath (p : List UInt8) : Bool := decide (p ≠ []) && (parts p).all isNm && decide ((parts p).length ≤ 8) && decide (p.length ≤ 92) && decide ((splitF p).2.length ≤ 28) && decide ((markF (splitF p).2).1 = 0)

theorem isPath_val (p : List UInt8) (hp : p.length ≤ 4096) : P_tree_isPath (p, ()) = some (okPath p, ()) := by
  unfold P_tree_isPath
  dsimp only
  rw [clean_val p hp, obind_some, psplit_val p (by omega), obind_some]
  dsimp only
  rw [mark_val, obind_some]
  dsimp only
  rw [sel_and, sel_and, sel_and, sel_and, sel_and]
  congr 2
  rw [Bool.eq_iff_iff]
  unfold okPath
  by_cases h0 : p = []
  · subst h0; simp [eqS, nt]
  · have hc := clean_same h0
    simp only [Bool.and_eq_true, decide_eq_true_eq, eqI, eqS, nt_eq, leI_iff, len, Bool.not_eq_true', decide_eq_false_iff_not]
    constructor
    · rintro ⟨⟨⟨⟨a1, a2⟩, a3⟩, a4, a5⟩, a6⟩
      obtain ⟨b1, b2, b3⟩ := hc.1 ⟨a1, a2⟩
      exact ⟨⟨⟨⟨⟨h0, b1⟩, b2⟩, by omega⟩, by omega⟩, a6⟩
    · rintro ⟨⟨⟨⟨⟨_, b1⟩, b2⟩, b3⟩, b4⟩, b5⟩
      obtain ⟨a1, a2⟩ := hc.2 ⟨b1, b2, by omega⟩
      exact ⟨⟨⟨⟨a1, a2⟩, h0⟩, by omega, by omega⟩, b5⟩

def kindF (n : Nd) : Bool := if n.2.1 = 1 then decide (n.2.2.2.2.1 = [] ∧ n.2.2.2.1.length ≤ 8192) else if n.2.1 = 2 then decide (n.2.2.2.2.1 = [] ∧ n.2.2.2.1 = []) else if n.2.1 = 3 then decide (n.2.2.2.1 = [] ∧ n.2.2.2.2.1 ≠ [] ∧ n.2.2.2.2.1.length ≤ 100 ∧ 0 ∉ n.2.2.2.2.1) else false
def mayF (n : Nd) : Bool := okPath n.1 && decide (0 ≤ n.2.2.1) && decide (n.2.2.1 ≤ 4095) && kindF n

theorem indexByte_val (s : List UInt8) (c : UInt8) : P_strings_IndexByte (s, (u8 c, ())) = some (Lib.indexByte s c, ()) := by
  have : (show Int from u8 c).toNat.toUInt8 = c := by simp [u8]
  unfold P_strings_IndexByte P_internal_stringslite_IndexByte
  dsimp only
  rw [this]
  rfl

theorem tis_val (n : Nd) (hp : n.1.length ≤ 4096) : P_tree_is (n, ()) = some (mayF n, ()) := by
  obtain ⟨p, k, m, d, l, u⟩ := n
  unfold P_tree_is mayF kindF
  dsimp only
  rw [isPath_val p hp, obind_some]
  dsimp only
  have e1 : ltI m 0 = !decide (0 ≤ m) := by unfold ltI; by_cases h : m < 0 <;> simp [h] <;> omega
  have e2 : ltI 4095 m = !decide (m ≤ 4095) := by unfold ltI; by_cases h : 4095 < m <;> simp [h] <;> omega
  rw [e1, e2]
  cases okPath p with
  | false => rfl
  | true =>
    cases decide (0 ≤ m) with
    | false => rfl
    | true =>
      cases decide (m ≤ 4095) with
      | false => rfl
      | true =>
        simp only [nt_true, nt_false, sel_true, sel_false, Bool.not_true, Bool.true_and]
        by_cases k1 : k = 1
        · subst k1
          simp only [eqI, decide_true, sel_true, if_true, eqS, leI_dec, len, sel_and]
          congr 2
          rw [Bool.eq_iff_iff]; simp; intro _; omega
        · rw [show eqI k 1 = false by simp [eqI, k1], sel_false, if_neg k1]
          by_cases k2 : k = 2
          · subst k2
            simp only [eqI, decide_true, sel_true, if_true, eqS, leI_dec, len, sel_and]
            congr 2
            rw [Bool.eq_iff_iff]; simp
          · rw [show eqI k 2 = false by simp [eqI, k2], sel_false, if_neg k2]
            by_cases k3 : k = 3
            · subst k3
              rw [show eqI 3 3 = true by rfl, sel_true, if_pos rfl, sel_and, sel_and, show ((l, ((0 : Int), ())) : List UInt8 × Int × Unit) = (l, (u8 0, ())) by rfl, indexByte_val, obind_some]
              dsimp only
              have e3 : ltI (Lib.indexByte l 0) 0 = decide (0 ∉ l) := indexByte_nul l
              rw [e3]
              by_cases hd : d = []
              · by_cases hl : l = []
                · subst hd hl; rfl
                · by_cases h1 : l.length ≤ 100
                  · simp [eqS, hd, hl, leI_dec, len, nt, sel, obind, h1, show (l.length : Int) ≤ 100 by omega]
                  · simp [eqS, hd, hl, leI_dec, len, nt, sel, obind, h1, show ¬ (l.length : Int) ≤ 100 by omega]
              · simp [eqS, hd, sel, obind]
            · rw [show eqI k 3 = false by simp [eqI, k3], sel_false, if_neg k3]

theorem isLink_val (s : List UInt8) (hs : s.length ≤ 1048576) : P_ref14_IsLink (s, ()) = some (decide (s ≠ [] ∧ s.length ≤ 100 ∧ 0 ∉ s), ()) := by
  unfold P_ref14_IsLink
  rcases srch (f := P_ref14_IsLink_L0 (s, ())) s (fun i => ((false, (i, ())), ())) (fun _ x => decide (x = 0)) (fun i x => (1, ((false, ((i : Int), ())), ()))) ((0 : Nat), ((false, ((s.length : Int), ())), ())) (by omega) (fun i x hx hi ha => by
      unfold P_ref14_IsLink_L0
      dsimp only
      rw [ltI_len_true hi, sel_true, idx_some' hx, obind_some, u8_0, sel_if, ha]
      by_cases h0 : x = 0 <;> simp [h0]) (by unfold P_ref14_IsLink_L0; dsimp only; rw [ltI_len_end, sel_false]) with ⟨i, x, hx, hp, _, h⟩ | ⟨hn, h⟩
  · rw [h, obind_some, eqN_one, sel_false]
    have : x = 0 := of_decide_eq_true hp
    subst this
    have hm : (0 : UInt8) ∈ s := mem_at.2 ⟨i, hx⟩
    rw [decide_eq_false (by rintro ⟨_, _, h⟩; exact h hm)]
  · rw [h, obind_some, eqN_zero, sel_true, sel_and]
    have hm : (0 : UInt8) ∉ s := fun hm => by
      obtain ⟨i, hi⟩ := mem_at.1 hm
      have := hn i 0 hi
      exact absurd this (by decide)
    congr 2
    rw [Bool.eq_iff_iff]
    simp only [Bool.and_eq_true, leI_iff, len, decide_eq_true_eq]
    constructor
    · rintro ⟨h1, h2⟩; exact ⟨fun e => by rw [e] at h1; simp at h1, by omega, hm⟩
    · rintro ⟨h1, h2, _⟩; exact ⟨by have := List.length_pos_iff.2 h1; omega, by omega⟩

theorem t14_may_val (n : Nd) (hp : n.1.length ≤ 4096) (hl : n.2.2.2.2.1.length ≤ 4096) : P_ref14_May (n, ()) = some (mayF n, ()) := by
  obtain ⟨p, k, m, d, l, u⟩ := n
  unfold P_ref14_May mayF kindF
  dsimp only at hp hl ⊢
  rw [refSplit_val p hp, obind_some]
  dsimp only
  rw [refMark_val, obind_some, refIs_val p (by omega), isLink_val l (by omega)]
  simp only [obind_some, sel_and]
  have e0 : (sel (nt (eqS p [])) (some ((parts p).all isNm && decide ((parts p).length ≤ 8) && decide (p.length ≤ 96))) (some false) : Option Bool) = some (decide (p ≠ []) && (parts p).all isNm && decide ((parts p).length ≤ 8) && decide (p.length ≤ 96)) := by
    by_cases h : p = []
    · subst h; rfl
    · simp [eqS, h, sel, nt]
  rw [e0, obind_some]
  have e1 : ((((((decide (p ≠ []) && (parts p).all isNm && decide ((parts p).length ≤ 8) && decide (p.length ≤ 96)) && leI (len p) 92) && leI (len (splitF p).2) 28) && eqI (markF (splitF p).2).1 0) && leI 0 m) && leI m 4095) = (okPath p && decide (0 ≤ m) && decide (m ≤ 4095)) := by
    rw [Bool.eq_iff_iff]
    unfold okPath
    simp only [Bool.and_eq_true, leI_iff, len, eqI, decide_eq_true_eq]
    constructor
    · rintro ⟨⟨⟨⟨⟨⟨⟨⟨a1, a2⟩, a3⟩, a4⟩, a5⟩, a6⟩, a7⟩, a8⟩, a9⟩
      exact ⟨⟨⟨⟨⟨⟨⟨a1, a2⟩, a3⟩, by omega⟩, by omega⟩, a7⟩, a8⟩, a9⟩
    · rintro ⟨⟨⟨⟨⟨⟨⟨a1, a2⟩, a3⟩, a5⟩, a6⟩, a7⟩, a8⟩, a9⟩
      exact ⟨⟨⟨⟨⟨⟨⟨⟨a1, a2⟩, a3⟩, by omega⟩, by omega⟩, by omega⟩, a7⟩, a8⟩, a9⟩
  simp only [e1]
  generalize (okPath p && decide (0 ≤ m) && decide (m ≤ 4095)) = c
  by_cases k1 : k = 1
  · subst k1
    rw [show eqI 1 1 = true by rfl, sel_true, if_pos rfl]
    congr 2
    rw [Bool.and_assoc]
    congr 1
    rw [Bool.eq_iff_iff]; simp [eqS, leI_dec, len]; intro _; omega
  · rw [show eqI k 1 = false by simp [eqI, k1], sel_false, if_neg k1]
    by_cases k2 : k = 2
    · subst k2
      rw [show eqI 2 2 = true by rfl, sel_true, if_pos rfl]
      congr 2
      rw [Bool.and_assoc]
      congr 1
      rw [Bool.eq_iff_iff]; simp [eqS]
    · rw [show eqI k 2 = false by simp [eqI, k2], sel_false, if_neg k2]
      by_cases k3 : k = 3
      · subst k3
        rw [show eqI 3 3 = true by rfl, sel_true, if_pos rfl]
        cases c with
        | false => rfl
        | true =>
          by_cases hd : d = []
          · simp [eqS, hd, sel, obind]
          · simp [eqS, hd, sel, obind]
      · rw [show eqI k 3 = false by simp [eqI, k3], sel_false, if_neg k3, Bool.and_false]
end Go.Ge

/- Trees: where a path lies, in plain words. -/
namespace Go.Ge
set_option linter.unusedVariables false
set_option linter.unusedSimpArgs false

def Sm (n : Nd) : Prop := n.1.length ≤ 200 ∧ n.2.2.2.2.1.length ≤ 300 ∧ n.2.2.2.1.length ≤ 8192
def SmL (l : List Nd) : Prop := l.length ≤ 4096 ∧ ∀ x ∈ l, Sm x

def key (n : Nd) : List (List UInt8) := parts n.1
def cmp (n : Nd) (p : List UInt8) : Int := cmpL (parts n.1) (parts p)

theorem SmL.at {l : List Nd} (h : SmL l) {i : Nat} {x : Nd} (hx : l[i]? = some x) : Sm x := h.2 x (List.mem_of_getElem? hx)
theorem SmL.take {l : List Nd} (h : SmL l) (k : Nat) : SmL (l.take k) := ⟨by rw [List.length_take]; have := h.1; omega, fun x hx => h.2 x (List.mem_of_mem_take hx)⟩

theorem placeC_val (n : Nd) (p : List UInt8) (hn : n.1.length ≤ 4096) (hp : p.length ≤ 4096) : P_tree_place_c1 (n, (p, ())) = some (cmp n p, ()) := by
  unfold P_tree_place_c1
  dsimp only
  rw [compare_val _ _ hn hp, obind_some]
  rfl

theorem mid_val {a b : Nat} (ha : a ≤ 1048576) (hb : b ≤ 1048576) : icv .i64 (ishr .u64 (icv .u64 (iadd .i64 (a : Int) (b : Int))) 1) = (((a + b) / 2 : Nat) : Int) := by
  rw [iadd_i64 (by omega) (by omega), icv_u64 (by omega) (by omega)]
  have e : ishr .u64 ((a : Int) + (b : Int)) 1 = (((a + b) / 2 : Nat) : Int) := by
    unfold ishr
    rw [show (1 : Int).toNat = 1 from rfl]
    have e2 : ((a : Int) + b).fdiv 2 = ((a : Int) + b) / 2 := Int.fdiv_eq_ediv_of_nonneg _ (by omega)
    have e3 : (2 : Int) ^ min 1 IntKind.u64.bits = 2 := by decide
    simp [e3, e2]
  rw [e, icv_i64 (by omega) (by omega)]

theorem place_run (l : List Nd) (p : List UInt8) (hl : SmL l) (hp : p.length ≤ 4096) : ∀ (n lo hi : Nat), hi - lo ≤ n → lo ≤ hi → hi ≤ l.length →
    ∃ k : Nat, lo ≤ k ∧ k ≤ hi ∧ Loop (P_tree_place_L0 (l, (p, ()))) (((lo : Int), ((hi : Int), ())), ()) = some (((k : Int), ((k : Int), ())), ()) ∧
      ((∀ (i j : Nat) (x y : Nd), i ≤ j → l[i]? = some x → l[j]? = some y → cmp y p < 0 → cmp x p < 0) → (∀ (j : Nat) (y : Nd), j < lo → l[j]? = some y → cmp y p < 0) → (∀ (j : Nat) (y : Nd), hi ≤ j → l[j]? = some y → ¬ cmp y p < 0) →
        (∀ (j : Nat) (y : Nd), j < k → l[j]? = some y → cmp y p < 0) ∧ (∀ (j : Nat) (y : Nd), k ≤ j → l[j]? = some y → ¬ cmp y p < 0)) := by
  intro n
  induction n with
  | zero =>
    intro lo hi h1 h2 h3
    obtain rfl : hi = lo := by omega
    refine ⟨hi, Nat.le_refl _, Nat.le_refl _, ?_, fun _ a b => ⟨a, b⟩⟩
    rw [Loop_eq]
    unfold P_tree_place_L0
    dsimp only
    rw [ltI_false (Int.le_refl _), sel_false]
    rfl
  | succ n ih =>
    intro lo hi h1 h2 h3
    by_cases h : hi = lo
    · subst h
      exact ih hi hi (by omega) (Nat.le_refl _) h3
    · have h4 := hl.1
      have hm : (lo + hi) / 2 < l.length := by omega
      obtain ⟨x, hx⟩ : ∃ x, l[(lo + hi) / 2]? = some x := ⟨_, List.getElem?_eq_getElem hm⟩
      have hstep : P_tree_place_L0 (l, (p, ())) (((lo : Int), ((hi : Int), ())), ()) = some (.inl (if cmp x p < 0 then (((((lo + hi) / 2 + 1 : Nat) : Int), ((hi : Int), ())), ()) else (((lo : Int), ((((lo + hi) / 2 : Nat) : Int), ())), ()))) := by
        unfold P_tree_place_L0
        dsimp only
        rw [ltI_true (by omega), sel_true, ltI_false (by decide), sel_false, mid_val (by omega) (by omega), idx_some' hx, obind_some, placeC_val x p (by have := (hl.at hx).1; omega) hp, obind_some]
        dsimp only
        rw [iadd_one (by omega)]
        by_cases hc : cmp x p < 0
        · rw [ltI_true hc, if_pos hc]; rfl
        · rw [ltI_false (by omega), if_neg hc]; rfl
      rw [Loop_eq, hstep]
      by_cases hc : cmp x p < 0
      · obtain ⟨k, k1, k2, k3, k4⟩ := ih ((lo + hi) / 2 + 1) hi (by omega) (by omega) h3
        refine ⟨k, by omega, k2, by rw [if_pos hc]; exact k3, fun a b c => k4 a (fun j y hj hy => ?_) c⟩
        exact a j ((lo + hi) / 2) y x (by omega) hy hx hc
      · obtain ⟨k, k1, k2, k3, k4⟩ := ih lo ((lo + hi) / 2) (by omega) (by omega) (by omega)
        refine ⟨k, k1, by omega, by rw [if_neg hc]; exact k3, fun a b c => k4 a b (fun j y hj hy hy2 => hc (a _ _ x y hj hx hy hy2))⟩

def Ord (l : List Nd) : Prop := ∀ (i j : Nat) (x y : Nd), i < j → l[i]? = some x → l[j]? = some y → cmpL (key x) (key y) < 0

theorem Ord.mono {l : List Nd} (h : Ord l) (p : List UInt8) : ∀ (i j : Nat) (x y : Nd), i ≤ j → l[i]? = some x → l[j]? = some y → cmp y p < 0 → cmp x p < 0 := by
  intro i j x y hij hx hy hc
  rcases Nat.lt_or_ge i j with g | g
  · exact cmpL_trans (h i j x y g hx hy) hc
  · obtain rfl : i = j := by omega
    rw [hx] at hy
    obtain rfl := Option.some.inj hy
    exact hc
theorem Ord.take {l : List Nd} (h : Ord l) (k : Nat) : Ord (l.take k) := fun i j x y hij hx hy => by
  rw [List.getElem?_take] at hx hy
  split at hx
  · split at hy
    · exact h i j x y hij hx hy
    · cases hy
  · cases hx

structure Plc (l : List Nd) (p : List UInt8) (k : Nat) (b : Bool) : Prop where
  le : k ≤ l.length
  lo : ∀ (j : Nat) (y : Nd), j < k → l[j]? = some y → cmp y p < 0
  hi : ∀ (j : Nat) (y : Nd), k ≤ j → l[j]? = some y → ¬ cmp y p < 0
  is : b = true → ∃ x, l[k]? = some x ∧ x.1 = p
  no : b = false → ∀ x ∈ l, x.1 ≠ p

theorem cmp_zero {n : Nd} {p : List UInt8} (h : cmp n p = 0) : n.1 = p := by
  have := cmpL_zero h
  rw [← joinS_parts n.1, this, joinS_parts]
theorem cmp_same {n : Nd} {p : List UInt8} (h : n.1 = p) : cmp n p = 0 := by subst h; exact cmpL_self _

theorem place_val (l : List Nd) (p : List UInt8) (hl : SmL l) (hp : p.length ≤ 4096) : ∃ (k : Nat) (b : Bool), P_tree_place (l, (p, ())) = some ((k : Int), (b, ())) ∧ k ≤ l.length ∧ (b = true → k < l.length) ∧ (Ord l → Plc l p k b) := by
  obtain ⟨k, _, k2, k3, k4⟩ := place_run l p hl hp l.length 0 l.length (by omega) (by omega) (Nat.le_refl _)
  have k3' : Loop (P_tree_place_L0 (l, (p, ()))) ((0, (len l, ())), ()) = some (((k : Int), ((k : Int), ())), ()) := k3
  have lows := fun (h : Ord l) => k4 (h.mono p) (fun j y hj => by omega) (fun j y hj hy => by have := getElem?_lt hy; omega)
  by_cases hk : k < l.length
  · obtain ⟨x, hx⟩ : ∃ x, l[k]? = some x := ⟨_, List.getElem?_eq_getElem hk⟩
    refine ⟨k, decide (cmp x p = 0), ?_, k2, fun _ => hk, fun h => ⟨k2, (lows h).1, (lows h).2, fun hb => ⟨x, hx, cmp_zero (of_decide_eq_true hb)⟩, fun hb y hy e => ?_⟩⟩
    · unfold P_tree_place
      dsimp only
      rw [k3', obind_some]
      dsimp only
      rw [ltI_len_true hk, sel_true, idx_some' hx, obind_some, placeC_val x p (by have := (hl.at hx).1; omega) hp, obind_some]
      rfl
    · obtain ⟨j, hj⟩ := mem_at.1 hy
      have h0 := cmp_same e
      have hne := of_decide_eq_false hb
      rcases Nat.lt_trichotomy j k with g | g | g
      · have := (lows h).1 j y g hj; omega
      · subst g; rw [hx] at hj; obtain rfl := Option.some.inj hj; exact hne h0
      · have h1 := h k j x y g hx hj
        rw [show key y = parts p by unfold key; rw [e]] at h1
        exact (lows h).2 k x (Nat.le_refl _) hx h1
  · obtain rfl : k = l.length := by omega
    refine ⟨l.length, false, ?_, k2, fun h => (by cases h), fun h => ⟨k2, (lows h).1, (lows h).2, fun h => (by cases h), fun hb y hy e => ?_⟩⟩
    · unfold P_tree_place
      dsimp only
      rw [k3', obind_some]
      dsimp only
      rw [ltI_len_end, sel_false]
    · obtain ⟨j, hj⟩ := mem_at.1 hy
      have h0 := cmp_same e
      have := (lows h).1 j y (getElem?_lt hj) hj
      omega

/-! ### Up to the directory -/
def Dir (l : List Nd) (d : List UInt8) (e : Int) : Prop := (d = [] ∧ e = 0) ∨ (d ≠ [] ∧ (((∀ x ∈ l, x.1 ≠ d) ∧ e = 3) ∨ ∃ x ∈ l, x.1 = d ∧ ((x.2.1 = 2 ∧ e = 0) ∨ (x.2.1 ≠ 2 ∧ e = 12))))

theorem dir_val (l : List Nd) (d : List UInt8) (hl : SmL l) (hd : d.length ≤ 4096) : ∃ e, P_tree_dir (l, (d, ())) = some (e, ()) ∧ (Ord l → Dir l d e) := by
  unfold P_tree_dir
  dsimp only
  by_cases h0 : d = []
  · subst h0
    exact ⟨0, rfl, fun _ => .inl ⟨rfl, rfl⟩⟩
  · rw [eqS_false h0, sel_false]
    obtain ⟨k, b, h1, h2, h3, h4⟩ := place_val l d hl hd
    rw [h1, obind_some]
    dsimp only
    cases b with
    | false =>
      rw [nt_false, sel_true]
      exact ⟨3, rfl, fun h => .inr ⟨h0, .inl ⟨(h4 h).no rfl, rfl⟩⟩⟩
    | true =>
      have hk := h3 rfl
      obtain ⟨x, hx⟩ : ∃ x, l[k]? = some x := ⟨_, List.getElem?_eq_getElem hk⟩
      rw [nt_true, sel_false, idx_some' hx, obind_some]
      have hw : Ord l → x.1 = d := fun h => by
        obtain ⟨y, hy, e⟩ := (h4 h).is rfl
        rw [hx] at hy
        rw [Option.some.inj hy, e]
      by_cases hk2 : x.2.1 = 2
      · refine ⟨0, ?_, fun h => .inr ⟨h0, .inr ⟨x, List.mem_of_getElem? hx, hw h, .inl ⟨hk2, rfl⟩⟩⟩⟩
        rw [eqI_true hk2]; rfl
      · refine ⟨12, ?_, fun h => .inr ⟨h0, .inr ⟨x, List.mem_of_getElem? hx, hw h, .inr ⟨hk2, rfl⟩⟩⟩⟩
        rw [show eqI x.2.1 2 = false by simp [eqI, hk2]]; rfl

/-! ### The reference's search -/
theorem find_val (l : List Nd) (p : List UInt8) (hl : SmL l) : (∃ (i : Nat) (x : Nd), l[i]? = some x ∧ x.1 = p ∧ P_ref14_find (l, (p, ())) = some ((i : Int), ())) ∨ ((∀ x ∈ l, x.1 ≠ p) ∧ P_ref14_find (l, (p, ())) = some (-1, ())) := by
  unfold P_ref14_find
  rcases srch (f := P_ref14_find_L0 (l, (p, ()))) l (fun i => ((0, (i, ())), ())) (fun _ x => decide (x.1 = p)) (fun i x => (1, (((i : Int), ((i : Int), ())), ()))) ((0 : Nat), ((0, ((l.length : Int), ())), ())) (by have := hl.1; omega) (fun i x hx hi ha => by
      unfold P_ref14_find_L0
      dsimp only
      rw [ltI_len_true hi, sel_true, idx_some' hx, obind_some, eqS_iff, ha]
      by_cases h : x.1 = p <;> simp [h, sel]) (by unfold P_ref14_find_L0; dsimp only; rw [ltI_len_end, sel_false]) with ⟨i, x, hx, hp, _, h⟩ | ⟨hn, h⟩
  · left
    refine ⟨i, x, hx, of_decide_eq_true hp, ?_⟩
    rw [h]; rfl
  · right
    refine ⟨fun x hx e => ?_, by rw [h]; rfl⟩
    obtain ⟨i, hi⟩ := mem_at.1 hx
    have := hn i x hi
    simp [e] at this

theorem refDir_val (l : List Nd) (d : List UInt8) (hl : SmL l) : ∃ b, P_ref14_dir (l, (d, ())) = some (b, ()) ∧ (b = true → d = [] ∨ ∃ x ∈ l, x.1 = d ∧ x.2.1 = 2) ∧ (Ord l → b = false → d ≠ [] ∧ ∀ x ∈ l, x.1 = d → x.2.1 ≠ 2) := by
  unfold P_ref14_dir
  dsimp only
  by_cases h0 : d = []
  · subst h0
    rcases find_val l [] hl with ⟨i, x, hx, hxp, h⟩ | ⟨_, h⟩ <;> rw [h, obind_some] <;> exact ⟨true, rfl, fun _ => .inl rfl, fun _ h => by cases h⟩
  · rcases find_val l d hl with ⟨i, x, hx, hxp, h⟩ | ⟨hn, h⟩
    · rw [h, obind_some, eqS_false h0, nt_false, sel_true]
      dsimp only
      rw [leI_true (by omega), sel_true, idx_some' hx, obind_some, obind_some, obind_some]
      refine ⟨_, rfl, fun hb => .inr ⟨x, List.mem_of_getElem? hx, hxp, of_decide_eq_true hb⟩, fun ho hb => ⟨h0, fun y hy hyd hk => ?_⟩⟩
      have hne := of_decide_eq_false hb
      obtain ⟨j, hj⟩ := mem_at.1 hy
      have hkk : key x = key y := by unfold key; rw [hxp, hyd]
      rcases Nat.lt_trichotomy i j with g | g | g
      · have := ho i j x y g hx hj; rw [hkk, cmpL_self] at this; omega
      · subst g; rw [hx] at hj; obtain rfl := Option.some.inj hj; exact hne hk
      · have := ho j i y x g hj hx; rw [hkk, cmpL_self] at this; omega
    · rw [h, obind_some, eqS_false h0, nt_false, sel_true]
      exact ⟨false, rfl, fun h => (by cases h), fun _ _ => ⟨h0, fun x hx e => absurd e (hn x hx)⟩⟩
end Go.Ge
