/- A tree's text, its nodes, its lists: in plain words. -/
import Derived.Test.YtnmllijemdpcoaaDoorGq14F
import Derived.Test.YtnmllijemdpcoaaDoorGq03A
import Derived.Test.YtnmllijemdpcoaaDoorGq12A
namespace Go.Ge
set_option linter.unusedVariables false
set_option linter.unusedSimpArgs false

/-! ### The text -/
def modeF (n : Nd) : List UInt8 := octF n.2.2.1.toNat 4
def headC (n : Nd) : UInt8 := if n.2.1 = 1 then 102 else if n.2.1 = 2 then 100 else 108
noncomputable def tailF (n : Nd) : List UInt8 := if n.2.1 = 1 then 32 :: dgst n.2.2.2.1 else if n.2.1 = 2 then [] else 32 :: hexF n.2.2.2.2.1
noncomputable def lineF (n : Nd) : List UInt8 := headC n :: 32 :: (modeF n ++ 32 :: (hexF n.1 ++ (tailF n ++ [10])))
noncomputable def textF (l : List Nd) : List UInt8 := l.flatMap lineF

theorem lineF_len {n : Nd} (hn : Sm n) : (lineF n).length ≤ 900 := by
  have h1 := hn.1
  have h2 := hn.2.1
  have h3 : (modeF n).length = 4 := length_octF _ _
  have h4 := length_hexF n.1
  have h5 := length_hexF n.2.2.2.2.1
  have h6 := length_dgst n.2.2.2.1
  unfold lineF tailF
  simp only [List.length_cons, List.length_append, List.length_nil]
  split
  · simp only [List.length_cons]; omega
  · split
    · simp only [List.length_nil]; omega
    · simp only [List.length_cons]; omega
theorem textF_len {l : List Nd} (h : ∀ x ∈ l, Sm x) : (textF l).length ≤ 900 * l.length := by
  unfold textF
  induction l with
  | nil => simp
  | cons a r ih =>
    rw [List.flatMap_cons, List.length_append, List.length_cons]
    have := lineF_len (h a (by simp))
    have := ih fun x hx => h x (by simp [hx])
    omega

theorem line_val (ls : List (List UInt8)) (h : ls.length ≤ 8) (hl : (Lib.join ls [32]).length ≤ 4096) : P_tree_line (ls, ()) = some (Lib.join ls [32] ++ [10], ()) := by
  have ej : P_strings_Join (ls, ([32], ())) = some (Lib.join ls [32], ()) := by
    show (S_join ls [32]).map (fun y => (y, ())) = _
    unfold S_join
    rw [if_pos ⟨by omega, by omega⟩]
    rfl
  unfold P_tree_line
  dsimp only
  rw [ej, obind_some, fits_len2 (by simp; omega)]
  rfl

theorem mayF_parts {n : Nd} (h : mayF n = true) : okPath n.1 = true ∧ 0 ≤ n.2.2.1 ∧ n.2.2.1 ≤ 4095 ∧ kindF n = true := by
  unfold mayF at h
  simp only [Bool.and_eq_true, decide_eq_true_eq] at h
  exact ⟨h.1.1.1, h.1.1.2, h.1.2, h.2⟩
theorem kind_cases {n : Nd} (h : mayF n = true) : n.2.1 = 1 ∨ n.2.1 = 2 ∨ n.2.1 = 3 := by
  have := (mayF_parts h).2.2.2
  unfold kindF at this
  split at this
  · exact .inl ‹_›
  · split at this
    · exact .inr (.inl ‹_›)
    · split at this
      · exact .inr (.inr ‹_›)
      · cases this

theorem octal4 {m : Int} (h0 : 0 ≤ m) (h1 : m ≤ 4095) : P_digits_Octal (m, (4, ())) = some (octF m.toNat 4, (true, ())) := by
  have := octal_val m.toNat 4 (by omega) (by omega) (by omega)
  rw [Int.toNat_of_nonneg h0, if_pos (Nat.div_eq_of_lt (show m.toNat < 8 ^ 4 by omega))] at this
  exact this
theorem fits_ints {a b : List UInt8} (h : a.length + b.length ≤ 4294967296) : fits (plus (len (bytesInts a)) (len (bytesInts b))) = true := fits_len2 (by simp [bytesInts]; omega)

theorem text_loop (l : List Nd) (hl : SmL l) (hm : ∀ x ∈ l, mayF x = true) : Loop (P_tree_Text_L0 (l, ())) (((0 : Int), ()), (((), ((), ())), (([] : List Int), ()))) = some (((l.length : Int), ()), (((), ((), ())), (bytesInts (textF l), ()))) := by
  have hb := hl.1
  have hfm : ∀ m : List Nd, m.flatMap (fun x => bytesInts (lineF x)) = bytesInts (textF m) := by
    intro m
    unfold textF
    induction m with
    | nil => rfl
    | cons a r ih => rw [List.flatMap_cons, ih, List.flatMap_cons, bytesInts_app]
  refine fold_app (f := P_tree_Text_L0 (l, ())) l (fun a i => ((i, ()), (((), ((), ())), (a, ())))) (fun x => bytesInts (lineF x)) _ (by omega) (fun i x hx hi ha => ?_) (by
      unfold P_tree_Text_L0
      dsimp only
      rw [ltI_len_end, sel_false, hfm]
      rfl)
  have hs := hl.at hx
  have hmx := mayF_parts (hm x (List.mem_of_getElem? hx))
  have hlen : (textF (l.take i)).length ≤ 900 * 4096 := by
    have := textF_len (hl.take i).2
    have := (hl.take i).1
    omega
  have hll := lineF_len hs
  rw [hfm]
  unfold P_tree_Text_L0
  dsimp only
  rw [ltI_len_true hi, sel_true, idx_some' hx, obind_some, octal4 hmx.2.1 hmx.2.2.1, obind_some, hex_val _ (by have := hs.1; omega), obind_some, ha]
  dsimp only
  have hf := fits_ints (a := textF (l.take i)) (b := lineF x) (by omega)
  have hm4 : (octF x.2.2.1.toNat 4).length = 4 := length_octF _ _
  have hh := length_hexF x.1
  have hs1 := hs.1
  rcases kind_cases (hm x (List.mem_of_getElem? hx)) with k | k | k
  · have el : Lib.join [[102], octF x.2.2.1.toNat 4, hexF x.1, dgst x.2.2.2.1] [32] ++ [10] = lineF x := by
      unfold lineF tailF headC modeF Lib.join
      rw [if_pos k, if_pos k]
      simp [List.intercalate, List.intersperse]
    have hd := length_dgst x.2.2.2.1
    rw [eqI_true k, sel_true, of_val _ (by have := hs.2.2; omega), obind_some]
    dsimp only
    rw [line_val _ (by simp) (by have := congrArg List.length el; simp at this; omega), obind_some]
    dsimp only
    rw [el, hf, sel_true, obind_some, app_eq]
    rfl
  · have el : Lib.join [[100], octF x.2.2.1.toNat 4, hexF x.1] [32] ++ [10] = lineF x := by
      unfold lineF tailF headC modeF Lib.join
      rw [if_neg (by omega), if_pos k, if_neg (by omega), if_pos k]
      simp [List.intercalate, List.intersperse]
    rw [show eqI x.2.1 1 = false by simp [eqI, k], sel_false, eqI_true k, sel_true, line_val _ (by simp) (by have := congrArg List.length el; simp at this; omega), obind_some]
    dsimp only
    rw [el, hf, sel_true, obind_some, obind_some, app_eq]
    rfl
  · have el : Lib.join [[108], octF x.2.2.1.toNat 4, hexF x.1, hexF x.2.2.2.2.1] [32] ++ [10] = lineF x := by
      unfold lineF tailF headC modeF Lib.join
      rw [if_neg (by omega), if_neg (by omega), if_neg (by omega), if_neg (by omega)]
      simp [List.intercalate, List.intersperse]
    rw [show eqI x.2.1 1 = false by simp [eqI, k], sel_false, show eqI x.2.1 2 = false by simp [eqI, k], sel_false, hex_val _ (by have := hs.2.1; omega), obind_some]
    dsimp only
    rw [line_val _ (by simp) (by have := congrArg List.length el; simp at this; omega), obind_some]
    dsimp only
    rw [el, hf, sel_true, obind_some, obind_some, app_eq]
    rfl

theorem ttext_val (l : List Nd) (hl : SmL l) (hv : Valid l) : P_tree_Text (l, ()) = some (textF l, ()) := by
  obtain ⟨e, c1, c2⟩ := check_val' l hl
  obtain rfl := c2.2 hv
  unfold P_tree_Text
  dsimp only
  rw [c1, obind_some]
  dsimp only
  rw [show nt (eqI 0 0) = false by rfl, sel_false, text_loop l hl hv.may, obind_some]
  dsimp only
  rw [intsBytes_bytes]
end Go.Ge
