/- What names may be: bytes of a set, no name twice, few of them. -/
import Derived.Test.YtaiikfdelihadaaDoorGq17A
namespace Go.Ge
set_option linter.unusedVariables false
set_option linter.unusedSimpArgs false
set_option maxRecDepth 100000

def allowed : Tx := [97, 98, 99, 100, 101, 102, 103, 104, 105, 106, 107, 108, 109, 110, 111, 112, 113, 114, 115, 116, 117, 118, 119, 120, 121, 122, 48, 49, 50, 51, 52, 53, 54, 55, 56, 57, 46, 95, 45]
def isCh (c : UInt8) : Bool := allowed.contains c
def isNameB (s : Tx) : Bool := decide (1 ≤ s.length) && decide (s.length ≤ 32) && s.all isCh

/-- A set of bytes as a row. -/
def setOf (a : Tx) (t0 : List Bool) : List Bool := (a.zipIdx).foldl (fun t p => lset t (u8 p.1) true) t0
def falses : List Bool := List.replicate 256 false

theorem u8_lt (c : UInt8) : u8 c < 256 := by unfold u8; have := c.toNat_lt; omega
theorem u8_ge (c : UInt8) : 0 ≤ u8 c := by unfold u8; omega
theorem within_u8 (c : UInt8) : within (u8 c) 256 = true := within_true (u8_ge c) (u8_lt c)
theorem idx_u8 {t : List Bool} (h : t.length = 256) (c : UInt8) : idx t (u8 c) = some (t.getD c.toNat false) := idx_at t false (k := c.toNat) rfl (by have := c.toNat_lt; omega)

theorem makeSet_val (a : Tx) (ha : a.length ≤ 4294967296) (h7 : ∀ c ∈ a, c < 128) : P_strings_makeASCIISet (a, ()) = some (setOf a falses, (true, ())) := by
  unfold P_strings_makeASCIISet
  obtain ⟨t, h1, h2, h3⟩ := fold_loop (f := P_strings_makeASCIISet_L0 (a, ())) a (fun (t : List Bool) i => ((false, (i, ())), (t, ()))) (fun t i x => lset t (u8 x) true) (fun t => (0, ((false, (len a, ())), (t, ())))) (fun t _ => t.length = 256) ha
    (fun t i x hx hi hadd ht => by
      refine ⟨?_, by simp [lset, ht]⟩
      unfold P_strings_makeASCIISet_L0
      dsimp only
      have hx7 : x < 128 := h7 x (mem_at.2 ⟨i, hx⟩)
      have hx7' : u8 x < 128 := by unfold u8; have : x.toNat < 128 := hx7; omega
      rw [ltI_len_true hi, sel_true, idx_some' hx, obind_some, leI_false hx7', sel_false, within_u8, sel_true, idx_u8 ht, obind_some, obind_some, obind_some, hadd])
    (fun t ht => by unfold P_strings_makeASCIISet_L0; dsimp only; rw [ltI_len_end, sel_false]; rfl) falses (by simp [falses])
  have h2' : Loop (P_strings_makeASCIISet_L0 (a, ())) ((false, ((0 : Int), ())), (falses, ())) = _ := h2
  rw [show (List.replicate 256 false : List Bool) = falses from rfl, h2', obind_some]
  show some (t, (true, ())) = _
  rw [h3]; rfl

theorem set_at (c : UInt8) : (setOf allowed falses).getD c.toNat false = isCh c := by
  have key : ∀ n : Fin 256, (setOf allowed falses).getD n.val false = isCh (UInt8.ofNat n.val) := by decide +kernel
  have := key ⟨c.toNat, c.toNat_lt⟩
  rw [this]
  congr 1
  simp

theorem set_len : (setOf allowed falses).length = 256 := by decide +kernel

theorem setHas_val {t : List Bool} (ht : t.length = 256) (c : UInt8) : P_strings_asciiSet_contains ((u8 c, ()), (t, ())) = some ((t.getD c.toNat false, ()), (t, ())) := by
  unfold P_strings_asciiSet_contains
  dsimp only
  rw [within_u8, sel_true, idx_u8 ht, obind_some]

/-- What is left of a text whose head of a set is taken away. -/
theorem trimLeft_val {t : List Bool} (ht : t.length = 256) : ∀ (s : Tx), P_strings_trimLeftASCII ((s, ()), (t, ())) = some ((s.dropWhile (fun c => t.getD c.toNat false), ()), (t, ())) := by
  have key : ∀ s : Tx, Loop P_strings_trimLeftASCII_L0 ((s, ()), (t, ())) = some ((s.dropWhile (fun c => t.getD c.toNat false), ()), (t, ())) := by
    intro s
    induction s with
    | nil =>
      rw [Loop_eq]
      unfold P_strings_trimLeftASCII_L0
      dsimp only
      rw [ltI_len0, show decide (0 < ([] : Tx).length) = false from rfl, sel_false]
      rfl
    | cons c r ih =>
      rw [Loop_eq]
      unfold P_strings_trimLeftASCII_L0
      dsimp only
      have hi : idx (c :: r) (0 : Int) = some c := rfl
      rw [ltI_len0, show decide (0 < (c :: r).length) = true from by simp, sel_true, hi, obind_some, setHas_val ht, obind_some, List.dropWhile_cons]
      dsimp only
      cases hc : t.getD c.toNat false with
      | false => rfl
      | true =>
        rw [nt_true, sel_false, inside_true (by decide) (by simp [len]; omega) (Int.le_refl _), sel_true]
        have hs : sub (c :: r) (1 : Int) (minus (len (c :: r)) 1) = r := by
          have := sub_drop (c :: r) 1 (by simp)
          simpa using this
        rw [hs]
        show Loop P_strings_trimLeftASCII_L0 ((r, ()), (t, ())) = _
        rw [ih]; rfl
  intro s
  unfold P_strings_trimLeftASCII
  dsimp only
  rw [key, obind_some]

theorem isub_len {α : Type} {l : List α} (h : l.length ≤ 4294967296) : isub .i64 (len l) 1 = (l.length : Int) - 1 := isub_i64 (by simp only [len]; omega) (by simp only [len]; omega)

theorem trimRight_val {t : List Bool} (ht : t.length = 256) : ∀ (n : Nat) (s : Tx), s.length = n → n ≤ 4294967296 → P_strings_trimRightASCII ((s, ()), (t, ())) = some (((s.reverse.dropWhile (fun c => t.getD c.toNat false)).reverse, ()), (t, ())) := by
  have key : ∀ (n : Nat) (s : Tx), s.length = n → n ≤ 4294967296 → Loop P_strings_trimRightASCII_L0 ((s, ()), (t, ())) = some (((s.reverse.dropWhile (fun c => t.getD c.toNat false)).reverse, ()), (t, ())) := by
    intro n
    induction n with
    | zero =>
      intro s hs _
      obtain rfl := List.length_eq_zero_iff.1 hs
      rw [Loop_eq]
      unfold P_strings_trimRightASCII_L0
      dsimp only
      rw [ltI_len0, show decide (0 < ([] : Tx).length) = false from rfl, sel_false]
      rfl
    | succ n ih =>
      intro s hs hn
      obtain ⟨r, c, rfl⟩ : ∃ r c, s = r ++ [c] := ⟨s.dropLast, s.getLast (by intro e; rw [e] at hs; simp at hs), (List.dropLast_concat_getLast _).symm⟩
      have hr : r.length = n := by simpa using hs
      rw [Loop_eq]
      unfold P_strings_trimRightASCII_L0
      dsimp only
      have hlen : isub .i64 (len (r ++ [c])) 1 = (r.length : Int) := by rw [isub_len (by omega)]; simp
      have hi : idx (r ++ [c]) (r.length : Int) = some c := by rw [idx_nat]; simp
      rw [ltI_len0, show decide (0 < (r ++ [c]).length) = true from by simp, sel_true, hlen, hi, obind_some, setHas_val ht, obind_some, List.reverse_append, List.reverse_singleton, List.singleton_append, List.dropWhile_cons]
      dsimp only
      cases hc : t.getD c.toNat false with
      | false => simp [nt, sel, way1]
      | true =>
        have h0 : inside 0 (r.length : Int) (len (r ++ [c])) = true := inside_true (by decide) (by omega) (by simp only [len, List.length_append, List.length_singleton]; omega)
        rw [nt_true, sel_false, h0, sel_true]
        have hs2 : sub (r ++ [c]) (0 : Int) (minus (r.length : Int) 0) = r := by rw [sub_take]; simp
        rw [hs2]
        show Loop P_strings_trimRightASCII_L0 ((r, ()), (t, ())) = _
        rw [ih r hr (by omega)]; rfl
  intro n s hs hn
  unfold P_strings_trimRightASCII
  dsimp only
  rw [key n s hs hn, obind_some]

theorem dropWhile_nil {α : Type} {p : α → Bool} {l : List α} : l.dropWhile p = [] ↔ l.all p = true := by
  induction l with
  | nil => simp
  | cons a r ih =>
    rw [List.dropWhile_cons, List.all_cons]
    cases h : p a with
    | true => simpa using ih
    | false => simp

/-- A text is nothing but bytes of a set if nothing is left of it. -/
theorem trim_nil {p : UInt8 → Bool} (s : Tx) : ((s.reverse.dropWhile p).reverse.dropWhile p = []) ↔ s.all p = true := by
  constructor
  · intro h
    rw [dropWhile_nil, List.all_reverse] at h
    have h2 : s.reverse.all p = true := by
      have e : s.reverse.takeWhile p ++ s.reverse.dropWhile p = s.reverse := List.takeWhile_append_dropWhile
      rw [← e, List.all_append, h]
      have : (s.reverse.takeWhile p).all p = true := List.all_takeWhile
      simp [this]
    rwa [List.all_reverse] at h2
  · intro h
    have : s.reverse.dropWhile p = [] := by rw [dropWhile_nil, List.all_reverse]; exact h
    rw [this]; rfl

theorem isName_val (s : Tx) : P_record_IsName (s, ()) = some (isNameB s, ()) := by
  unfold P_record_IsName isNameB
  dsimp only
  have e1 : leI 1 (len s) = decide (1 ≤ s.length) := by unfold leI len; apply decide_eq_decide.2; omega
  have e2 : leI (len s) 32 = decide (s.length ≤ 32) := by unfold leI len; apply decide_eq_decide.2; omega
  rw [e1, e2]
  by_cases h1 : 1 ≤ s.length
  · rw [decide_eq_true h1, sel_true]
    by_cases h2 : s.length ≤ 32
    · rw [decide_eq_true h2, sel_true, show ([97, 98, 99, 100, 101, 102, 103, 104, 105, 106, 107, 108, 109, 110, 111, 112, 113, 114, 115, 116, 117, 118, 119, 120, 121, 122, 48, 49, 50, 51, 52, 53, 54, 55, 56, 57, 46, 95, 45] : Tx) = allowed from rfl]
      unfold P_strings_Trim
      dsimp only
      have hs : s ≠ [] := by intro e; rw [e] at h1; simp at h1
      rw [eqS_false hs, nt_false, sel_true, eqS_false (show allowed ≠ [] by decide), sel_false, show eqI (len allowed) 1 = false from rfl, sel_false, obind_some, sel_false, makeSet_val allowed (by decide) (by decide), obind_some]
      dsimp only
      rw [sel_true, trimRight_val set_len s.length s rfl (by omega), obind_some]
      dsimp only
      rw [trimLeft_val set_len, obind_some, obind_some, obind_some]
      have hp : (fun c : UInt8 => (setOf allowed falses).getD c.toNat false) = isCh := funext set_at
      rw [hp]
      show some (eqS _ [], ()) = _
      have := trim_nil (p := isCh) s
      by_cases ha : s.all isCh = true
      · rw [eqS_true (this.2 ha), ha]; rfl
      · rw [eqS_false fun e => ha (this.1 e)]
        simp at ha
        simp [ha]
    · rw [decide_eq_false h2, sel_false, obind_some]; simp
  · rw [decide_eq_false h1, sel_false, sel_false, obind_some]; simp

/-- The reference's test of a byte. -/
def badCh (c : UInt8) : Bool := sel (sel (sel (sel (sel (nt (ltI (u8 c) 97)) (ltI 122 (u8 c)) true) (sel (nt (ltI (u8 c) 48)) (ltI 57 (u8 c)) true) false) (nt (eqI (u8 c) 46)) false) (nt (eqI (u8 c) 95)) false) (nt (eqI (u8 c) 45)) false
theorem badCh_eq (c : UInt8) : badCh c = !isCh c := by
  have key : ∀ n : Fin 256, badCh (UInt8.ofNat n.val) = !isCh (UInt8.ofNat n.val) := by decide +kernel
  have := key ⟨c.toNat, c.toNat_lt⟩
  simpa using this

theorem refIsName_val (s : Tx) (hl : s.length ≤ 4294967296) : P_ref06_IsName (s, ()) = some (isNameB s, ()) := by
  unfold P_ref06_IsName isNameB
  rcases srch (f := P_ref06_IsName_L0 (s, ())) s (fun i => ((false, (i, ())), ())) (fun _ x => badCh x) (fun i x => (1, ((false, ((i : Int), ())), ()))) (0, ((false, (len s, ())), ())) hl (fun i x hx hi ha => by
      unfold P_ref06_IsName_L0
      dsimp only
      rw [ltI_len_true hi, sel_true, idx_some' hx, obind_some, ha]
      show sel (badCh x) _ _ = _
      cases badCh x <;> rfl) (by unfold P_ref06_IsName_L0; dsimp only; rw [ltI_len_end, sel_false]; rfl) with ⟨i, x, hx, hp, hj, h⟩ | ⟨hn, h⟩
  · rw [h, obind_some]
    have : s.all isCh = false := by
      rw [List.all_eq_false]
      refine ⟨x, mem_at.2 ⟨i, hx⟩, ?_⟩
      rw [badCh_eq] at hp
      simpa using hp
    rw [this, Bool.and_false]; rfl
  · rw [h, obind_some]
    have : s.all isCh = true := by
      rw [List.all_eq_true]
      intro x hx
      obtain ⟨i, hi⟩ := mem_at.1 hx
      have := hn i x hi
      rw [badCh_eq] at this
      simpa using this
    rw [this, Bool.and_true]
    have e1 : leI 1 (len s) = decide (1 ≤ s.length) := by unfold leI len; apply decide_eq_decide.2; omega
    have e2 : leI (len s) 32 = decide (s.length ≤ 32) := by unfold leI len; apply decide_eq_decide.2; omega
    show some (sel (leI 1 (len s)) (leI (len s) 32) false, ()) = _
    rw [e1, e2]
    cases decide (1 ≤ s.length) <;> rfl
end Go.Ge
