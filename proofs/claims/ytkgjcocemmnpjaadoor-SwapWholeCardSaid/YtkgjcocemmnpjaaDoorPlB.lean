/- Plain laws of what the functions compute: part 2. -/
import Derived.Test.YtkgjcocemmnpjaaDoorPlA
/- The document's inodes (ref08): what a table keeps. -/
namespace Go.Ge
set_option linter.unusedSectionVars false
set_option linter.unusedVariables false
set_option linter.unusedSimpArgs false
variable [Lp]

/-- A directory with other names. -/
def dirW (d : Nd) (m : List Ent) : Nd := (d.1, (d.2.1, (d.2.2.1, (d.2.2.2.1, (d.2.2.2.2.1, (m, ()))))))

def keepE (s : List UInt8) (e : Ent) : List Ent := if e.1 ≠ s then [e] else []
theorem keepE_len (s : List UInt8) (l : List Ent) : (l.flatMap (keepE s)).length ≤ l.length := by
  induction l with
  | nil => simp
  | cons a r ih =>
    have : (keepE s a).length ≤ 1 := by unfold keepE; split <;> simp
    simp only [List.flatMap_cons, List.length_append, List.length_cons]; omega
theorem keepE_mem {s : List UInt8} {l : List Ent} {e : Ent} (h : e ∈ l.flatMap (keepE s)) : e ∈ l := by
  obtain ⟨a, h1, h2⟩ := List.mem_flatMap.1 h
  unfold keepE at h2
  split at h2
  · rw [List.mem_singleton.1 h2]; exact h1
  · cases h2

/-- How many names there are. -/
def nms : List Nd → Nat
  | [] => 0
  | x :: r => x.2.2.2.2.2.1.length + nms r

theorem nms_app (a b : List Nd) : nms (a ++ b) = nms a + nms b := by
  induction a with
  | nil => simp [nms]
  | cons x r ih => simp only [List.cons_append, nms, ih]; omega
theorem nms_mem {L : List Nd} {x : Nd} (h : x ∈ L) : x.2.2.2.2.2.1.length ≤ nms L := by
  induction L with
  | nil => cases h
  | cons y r ih =>
    rcases List.mem_cons.1 h with rfl | h
    · simp only [nms]; omega
    · have := ih h; simp only [nms]; omega

/-- Ids differ. -/
def Uq (L : List Nd) : Prop := L.Pairwise fun a b => a.1 ≠ b.1
theorem Uq.eq {L : List Nd} (h : Uq L) : ∀ {x y : Nd}, x ∈ L → y ∈ L → x.1 = y.1 → x = y := by
  induction L with
  | nil => intro x y hx; cases hx
  | cons a r ih =>
    intro x y hx hy e
    obtain ⟨h1, h2⟩ := List.pairwise_cons.1 h
    rcases List.mem_cons.1 hx with hx1 | hx1 <;> rcases List.mem_cons.1 hy with hy1 | hy1
    · rw [hx1, hy1]
    · exact absurd (by rw [← hx1]; exact e) (h1 y hy1)
    · exact absurd (by rw [← hy1]; exact e.symm) (h1 x hx1)
    · exact ih h2 hx1 hy1 e

theorem setN_mem {n y : Nd} {L : List Nd} (h : y ∈ setN n L) : (y ∈ L ∧ y.1 ≠ n.1) ∨ (y = n ∧ ∃ z ∈ L, z.1 = n.1) := by
  obtain ⟨z, hz, hy⟩ := List.mem_flatMap.1 h
  unfold setG at hy
  by_cases e : z.1 ≠ n.1
  · rw [if_pos e] at hy
    rw [List.mem_singleton.1 hy]; exact .inl ⟨hz, e⟩
  · rw [if_neg e] at hy
    split at hy
    · exact .inr ⟨List.mem_singleton.1 hy, z, hz, by simpa using e⟩
    · cases hy

theorem setN_not {n : Nd} {L : List Nd} (h : ∀ z ∈ L, z.1 ≠ n.1) : setN n L = L := by
  induction L with
  | nil => rfl
  | cons y r ih =>
    have h1 : setG n y = [y] := by unfold setG; rw [if_pos (h y (List.mem_cons_self ..))]
    have := ih fun z hz => h z (List.mem_cons_of_mem _ hz)
    unfold setN at this ⊢
    rw [List.flatMap_cons, h1, this]; rfl

theorem setN_uq {n : Nd} {L : List Nd} (h : Uq L) : Uq (setN n L) := by
  induction L with
  | nil => exact .nil
  | cons y r ih =>
    obtain ⟨h1, h2⟩ := List.pairwise_cons.1 h
    have h3 := ih h2
    have e : setN n (y :: r) = setG n y ++ setN n r := rfl
    rw [e]
    refine List.pairwise_append.2 ⟨?_, h3, ?_⟩
    · unfold setG
      by_cases k : y.1 ≠ n.1
      · rw [if_pos k]; exact List.pairwise_singleton _ _
      · rw [if_neg k]; split
        · exact List.pairwise_singleton _ _
        · exact .nil
    · intro a ha b hb
      have ha1 : a.1 = y.1 := by
        unfold setG at ha
        by_cases k : y.1 ≠ n.1
        · rw [if_pos k] at ha; rw [List.mem_singleton.1 ha]
        · rw [if_neg k] at ha
          split at ha
          · rw [List.mem_singleton.1 ha]; simpa using (by simpa using k : y.1 = n.1).symm
          · cases ha
      rw [ha1]
      rcases setN_mem hb with ⟨hb, _⟩ | ⟨rfl, z, hz, hz1⟩
      · exact h1 b hb
      · rw [← hz1]; exact h1 z hz

theorem setN_nms {n : Nd} {L : List Nd} (h : Uq L) {a : Nat} (hs : ∀ z ∈ L, z.1 = n.1 → n.2.2.2.2.2.1.length ≤ z.2.2.2.2.2.1.length + a) : nms (setN n L) ≤ nms L + a := by
  induction L with
  | nil => exact Nat.zero_le _
  | cons y r ih =>
    obtain ⟨h1, h2⟩ := List.pairwise_cons.1 h
    have e : setN n (y :: r) = setG n y ++ setN n r := rfl
    rw [e, nms_app]
    by_cases k : y.1 ≠ n.1
    · have := ih h2 fun z hz => hs z (List.mem_cons_of_mem _ hz)
      have h3 : setG n y = [y] := by unfold setG; rw [if_pos k]
      rw [h3]; simp only [nms]; omega
    · have k' : y.1 = n.1 := by simpa using k
      rw [setN_not (L := r) fun z hz => fun q => h1 z hz (by rw [k', q])]
      have h4 := hs y (List.mem_cons_self ..) k'
      have h3 : nms (setG n y) ≤ n.2.2.2.2.2.1.length := by
        unfold setG; rw [if_neg k]; split <;> simp [nms]
      simp only [nms]; omega

/-- What a table keeps. -/
structure TOk (k s : Nat) (t : Tb) : Prop where
  l : t.2.2.1.length ≤ k + 1
  s : nms t.2.2.1 ≤ s
  d : ∀ x ∈ t.2.2.1, x.2.2.2.2.1.length ≤ 1048576
  nm : ∀ x ∈ t.2.2.1, ∀ e ∈ x.2.2.2.2.2.1, e.1.length ≤ 32
  ids : ∀ x ∈ t.2.2.1, x.1 < t.2.1
  nx : 1 ≤ t.2.1 ∧ t.2.1 ≤ k + 2
  pos : ∀ x ∈ t.2.2.1, 1 ≤ x.1
  un : Uq t.2.2.1
  fl : ∀ x ∈ t.2.2.1, x.2.1 = false → x.2.2.2.2.2.1 = []
  ac : ∀ x ∈ t.2.2.1, ∀ e ∈ x.2.2.2.2.2.1, ∀ y ∈ t.2.2.1, y.1 = e.2.1 → y.2.1 = true → x.1 < y.1

theorem TOk.mono {k s k' s' : Nat} {t : Tb} (h : TOk k s t) (hk : k ≤ k') (hs : s ≤ s') : TOk k' s' t :=
  ⟨by have := h.l; omega, by have := h.s; omega, h.d, h.nm, h.ids, ⟨h.nx.1, by have := h.nx.2; omega⟩, h.pos, h.un, h.fl, h.ac⟩

theorem TOk.len {k s : Nat} {t : Tb} (h : TOk k s t) (hk : k ≤ 1000) (hs : s ≤ 1000) : TLen t :=
  ⟨by have := h.l; omega, fun x hx => by have := nms_mem hx; have := h.s; omega, h.d⟩

theorem TOk.set {k s a : Nat} {t : Tb} (h : TOk k s t) (n : Nd) (hd : n.2.2.2.2.1.length ≤ 1048576) (hnm : ∀ e ∈ n.2.2.2.2.2.1, e.1.length ≤ 32) (hf : n.2.1 = false → n.2.2.2.2.2.1 = [])
    (hdir : ∀ z ∈ t.2.2.1, z.1 = n.1 → z.2.1 = n.2.1) (hac : ∀ e ∈ n.2.2.2.2.2.1, ∀ y ∈ t.2.2.1, y.1 = e.2.1 → y.2.1 = true → n.1 < y.1)
    (hs : ∀ z ∈ t.2.2.1, z.1 = n.1 → n.2.2.2.2.2.1.length ≤ z.2.2.2.2.2.1.length + a) : TOk k (s + a) (tset t n) where
  l := Nat.le_trans (setN_len _ _) h.l
  s := Nat.le_trans (setN_nms h.un hs) (by have := h.s; omega)
  d := fun x hx => by rcases setN_mem hx with ⟨hx, _⟩ | ⟨rfl, _⟩ <;> first | exact h.d x hx | exact hd
  nm := fun x hx => by rcases setN_mem hx with ⟨hx, _⟩ | ⟨rfl, _⟩ <;> first | exact h.nm x hx | exact hnm
  ids := fun x hx => by
    rcases setN_mem hx with ⟨hx, _⟩ | ⟨rfl, z, hz, e⟩
    · exact h.ids x hx
    · rw [← e]; exact h.ids z hz
  nx := h.nx
  pos := fun x hx => by
    rcases setN_mem hx with ⟨hx, _⟩ | ⟨rfl, z, hz, e⟩
    · exact h.pos x hx
    · rw [← e]; exact h.pos z hz
  un := setN_uq h.un
  fl := fun x hx => by rcases setN_mem hx with ⟨hx, _⟩ | ⟨rfl, _⟩ <;> first | exact h.fl x hx | exact hf
  ac := fun x hx e he y hy h1 h2 => by
    have hy' : ∃ z ∈ t.2.2.1, z.1 = y.1 ∧ z.2.1 = y.2.1 := by
      rcases setN_mem hy with ⟨hy, _⟩ | ⟨rfl, z, hz, q⟩
      · exact ⟨y, hy, rfl, rfl⟩
      · exact ⟨z, hz, q, hdir z hz q⟩
    obtain ⟨z, hz, z1, z2⟩ := hy'
    rw [← z1]
    rcases setN_mem hx with ⟨hx, _⟩ | ⟨rfl, _⟩
    · exact h.ac x hx e he z hz (by rw [z1, h1]) (by rw [z2, h2])
    · exact hac e he z hz (by rw [z1, h1]) (by rw [z2, h2])

/-- A node that there is not changes nothing. -/
theorem TOk.zero {k s : Nat} {t : Tb} (h : TOk k s t) (n : Nd) (hn : n.1 = 0) : setN n t.2.2.1 = t.2.2.1 := setN_not fun z hz e => by have := h.pos z hz; omega

/-- What has a number is a directory, or none. -/
def DirIs (L : List Nd) (id : Int) (b : Bool) : Prop := ∀ z ∈ L, z.1 = id → z.2.1 = b
theorem DirIs.set {L : List Nd} {id : Int} {b : Bool} (h : DirIs L id b) {n : Nd} (hn : DirIs L n.1 n.2.1) : DirIs (setN n L) id b := fun z hz e => by
  rcases setN_mem hz with ⟨hz, _⟩ | ⟨rfl, w, hw, q⟩
  · exact h z hz e
  · rw [← hn w hw q]; exact h w hw (by rw [q, e])
/-- A directory with other names in its place. -/
theorem TOk.dir {k s a : Nat} {t : Tb} (h : TOk k s t) {id : Int} {d : Nd} (hg : getN t.2.2.1 id = some d) (hd : d.2.1 = true) (m : List Ent) (hnm : ∀ e ∈ m, e.1.length ≤ 32)
    (hac : ∀ e ∈ m, ∀ y ∈ t.2.2.1, y.1 = e.2.1 → y.2.1 = true → d.1 < y.1) (hm : m.length ≤ d.2.2.2.2.2.1.length + a) : TOk k (s + a) (tset t (dirW d m)) :=
  h.set (dirW d m) (h.d d (getN_mem hg).1) hnm (fun q => by rw [show (dirW d m).2.1 = d.2.1 from rfl, hd] at q; cases q)
    (fun z hz e => by have e1 : z.1 = d.1 := e; rw [h.un.eq hz (getN_mem hg).1 e1]; rfl) hac
    (fun z hz e => by have e1 : z.1 = d.1 := e; rw [h.un.eq hz (getN_mem hg).1 e1]; exact hm)

theorem TOk.without {k s : Nat} {t : Tb} (h : TOk k s t) {id : Int} {d : Nd} (hg : getN t.2.2.1 id = some d) (hd : d.2.1 = true) (nm : List UInt8) : TOk k s (tset t (dirW d (d.2.2.2.2.2.1.flatMap (keepE nm)))) :=
  h.dir (a := 0) hg hd _ (fun e he => h.nm d (getN_mem hg).1 e (keepE_mem he)) (fun e he => h.ac d (getN_mem hg).1 e (keepE_mem he)) (keepE_len _ _)

theorem TOk.with {k s : Nat} {t : Tb} (h : TOk k s t) {id : Int} {d : Nd} (hg : getN t.2.2.1 id = some d) (hd : d.2.1 = true) (e : Ent) (hl : e.1.length ≤ 32)
    (hac : ∀ y ∈ t.2.2.1, y.1 = e.2.1 → y.2.1 = true → d.1 < y.1) {m : List Ent} (hm : ∀ x ∈ m, x = e ∨ x ∈ d.2.2.2.2.2.1) (hml : m.length ≤ d.2.2.2.2.2.1.length + 1) : TOk k (s + 1) (tset t (dirW d m)) :=
  h.dir hg hd _ (fun x hx => by rcases hm x hx with rfl | hx <;> first | exact hl | exact h.nm d (getN_mem hg).1 x hx)
    (fun x hx => by rcases hm x hx with rfl | hx <;> first | exact hac | exact h.ac d (getN_mem hg).1 x hx) hml

end Go.Ge

/- The document's inodes (ref08): what changes a table leaves it sound. -/
namespace Go.Ge
set_option linter.unusedSectionVars false
set_option linter.unusedVariables false
set_option linter.unusedSimpArgs false
variable [Lp]

theorem er0 : Er 0 := ⟨by decide, by decide⟩
variable {k s : Nat} {t : Tb}

theorem TOk.z (h : TOk k s t) (id : Int) : ((getN t.2.2.1 id).getD zN).2.2.2.2.1.length ≤ 1048576 := by
  cases e : getN t.2.2.1 id with
  | none => exact Nat.zero_le _
  | some x => exact h.d x (getN_mem e).1

end Go.Ge

/- The document's inodes (ref08): the other changes. -/
namespace Go.Ge
set_option linter.unusedSectionVars false
set_option linter.unusedVariables false
set_option linter.unusedSimpArgs false
variable [Lp] {k s : Nat} {t : Tb}

end Go.Ge

/- The document's inodes (ref08): a file gets another name. -/
namespace Go.Ge
set_option linter.unusedSectionVars false
set_option linter.unusedVariables false
set_option linter.unusedSimpArgs false
variable [Lp] {k s : Nat} {t : Tb}

end Go.Ge

/- The document's file system (ref09): operations are answered, and leave it sound. -/
namespace Go.Ge
set_option linter.unusedSectionVars false
set_option linter.unusedVariables false
set_option linter.unusedSimpArgs false
variable [Lp] {k s : Nat} {t : Tb}

/-- It comes to something that is so. -/
def Ok {β : Type} (Q : β → Prop) (o : Option β) : Prop := ∃ y, o = some y ∧ Q y
theorem Ok.ob {α β : Type} {Q : β → Prop} {o : Option α} {x : α} {f : α → Option β} (h : o = some x) (k : Ok Q (f x)) : Ok Q (obind o f) := by rw [h]; exact k
theorem Ok.ok {α β : Type} {Q : β → Prop} {R : α → Prop} {o : Option α} {f : α → Option β} (h : Ok R o) (k : ∀ x, R x → Ok Q (f x)) : Ok Q (obind o f) := by
  obtain ⟨x, h1, h2⟩ := h
  rw [h1]; exact k x h2
theorem Ok.sel {β : Type} {Q : β → Prop} {c : Bool} {a b : Option β} (ha : Ok Q a) (hb : Ok Q b) : Ok Q (Go.Ge.sel c a b) := by
  cases c
  · exact hb
  · exact ha
theorem Ok.some {β : Type} {Q : β → Prop} {y : β} (h : Q y) : Ok Q (some y) := ⟨y, rfl, h⟩
theorem Ok.need {β : Type} {Q : β → Prop} {c : Bool} {a b : Option β} (hc : c = true) (ha : Ok Q a) : Ok Q (Go.Ge.sel c a b) := by rw [hc]; exact ha
theorem obind_of {α β : Type} {o : Option α} {x : α} {f : α → Option β} (h : o = some x) : obind o f = f x := by rw [h]; rfl
def ResOk (r : Rs) : Prop := Er r.1 ∧ r.2.2.2.1.length ≤ 1000000
def FOk (k : Nat) (f : Fs) : Prop := TOk k k f.1 ∧ f.2.1.length ≤ k
theorem FOk.mono {k k' : Nat} {f : Fs} (h : FOk k f) (hk : k ≤ k') : FOk k' f := ⟨h.1.mono hk hk, Nat.le_trans h.2 hk⟩

end Go.Ge

/- The document's file system, disk and world (ref09, ref10, ref11, ref25): operations are answered, and leave it sound. -/
namespace Go.Ge
set_option linter.unusedSectionVars false
set_option linter.unusedVariables false
set_option linter.unusedSimpArgs false
variable [Lp] {k : Nat}

/-- What an operation comes to. -/
abbrev DoR (k : Nat) (y : (Rs × Unit) × Fs × Unit) : Prop := ResOk y.1.1 ∧ FOk k y.2.1

/-- An operation of few bytes. -/
def OpOk (op : Opr) : Prop := op.2.1.length ≤ 4096 ∧ op.2.2.1.length ≤ 4096 ∧ op.2.2.2.2.2.2.1.length ≤ 4096

end Go.Ge

/- The document's world (ref25): it answers operations; what files there are (ref09). -/
namespace Go.Ge
set_option linter.unusedSectionVars false
set_option linter.unusedVariables false
set_option linter.unusedSimpArgs false
variable [Lp] {k : Nat}

abbrev Fl := List UInt8 × Bool × List UInt8 × Unit

end Go.Ge

/- Work that nobody began: the law. -/
namespace Go.Ge
set_option linter.unusedSectionVars false
variable [Lp]

end Go.Ge

/- Work that is driven step by step: what each round comes to. -/
namespace Go.Ge
set_option linter.unusedSectionVars false
set_option linter.unusedVariables false
set_option linter.unusedSimpArgs false
variable [Lp] {k : Nat}

abbrev A25 := Int × Int × Int × Opr × Unit
abbrev Dn := Opr × Rs × Unit
abbrev Rn := Bool × List Dn × Int × Bool × Bool × Opr × Unit

theorem begin_val26 (L : List Dn) (a : Int) (w1 w2 : Bool) (op : Opr) : P_steps_Run_Begin ((), ((true, (L, (a, (w1, (w2, (op, ())))))), ())) = some ((), ((true, (L, (0, (false, (false, (op, ())))))), ())) := rfl
theorem want_val26 (L : List Dn) (a : Int) (w1 : Bool) (op : Opr) : P_steps_Run_Want ((), ((true, (L, (a, (w1, (true, (op, ())))))), ())) = some ((op, (true, ())), ((true, (L, (a, (w1, (true, (op, ())))))), ())) := rfl
theorem answer_val26 (r : Rs) (h : ResOk r) : P_steps_answer (r, ()) = some (r, ()) := by
  unfold P_steps_answer P_slices_Clone_string_string
  dsimp only
  rw [fits_len (by have := h.2; omega)]; rfl
theorem give_val26 (L : List Dn) (a : Int) (w1 : Bool) (op : Opr) (r : Rs) (h : ResOk r) (hl : L.length ≤ 1000) : P_steps_Run_Give ((r, ()), ((true, (L, (a, (w1, (true, (op, ())))))), ())) = some ((0, ()), ((true, (L ++ [(op, (r, ()))], (a, (w1, (false, (op, ())))))), ())) := by
  unfold P_steps_Run_Give
  refine ob (want_val26 L a w1 op) ?_
  refine ob (answer_val26 r h) ?_
  dsimp only
  rw [fits_len2 (by simp only [List.length_singleton]; omega)]; rfl
theorem do_end26 (L : List Dn) (o op : Opr) : P_steps_Run_Do ((o, ()), ((true, (L, ((L.length : Int), (false, (false, (op, ())))))), ())) = some (((14, (0, ([], ([], ())))), ()), ((true, (L, ((L.length : Int), (true, (true, (o, ())))))), ())) := by
  unfold P_steps_Run_Do
  refine ob rfl ?_
  dsimp only
  rw [show eqI (L.length : Int) (len L) = true from eqI_true rfl]; rfl
theorem do_hit26 (L : List Dn) (i : Nat) (o op : Opr) (r : Rs) (h : L[i]? = some (o, (r, ()))) (hr : ResOk r) (hl : L.length ≤ 1000) :
    P_steps_Run_Do ((o, ()), ((true, (L, ((i : Int), (false, (false, (op, ())))))), ())) = some ((r, ()), ((true, (L, (((i + 1 : Nat) : Int), (false, (false, (op, ())))))), ())) := by
  have hi := getElem?_lt h
  have hw : within (i : Int) (len L) = true := within_true (by omega) (by rw [len_eq]; omega)
  unfold P_steps_Run_Do
  refine ob rfl ?_
  dsimp only
  rw [show eqI (i : Int) (len L) = false from eqI_false (by rw [len_eq]; omega), nt_true, sel_false, sel_false, sel_false, hw, sel_true, obind_of (idx_some' h)]
  dsimp only
  have he : (an (eqI o.1 o.1) (an (eqS o.2.1 o.2.1) (an (eqS o.2.2.1 o.2.2.1) (an (eqI o.2.2.2.1 o.2.2.2.1) (an (eqI o.2.2.2.2.1 o.2.2.2.2.1) (an (eqI o.2.2.2.2.2.1 o.2.2.2.2.2.1) (an (eqS o.2.2.2.2.2.2.1 o.2.2.2.2.2.2.1) (an (eqI o.2.2.2.2.2.2.2.1 o.2.2.2.2.2.2.2.1) (an (eqI o.2.2.2.2.2.2.2.2.1 o.2.2.2.2.2.2.2.2.1) true))))))))) = true := by
    simp [an, eqI, eqS]
  rw [he, nt_true, sel_false, iadd_one (by omega), show isub .i64 ((i + 1 : Nat) : Int) 1 = (i : Int) from by rw [isub_i64 (by omega) (by omega)]; omega, hw, sel_true, obind_of (idx_some' h)]
  exact ob (answer_val26 r hr) rfl

/-! ### What is done, one behind the other -/
/-- Few operations of few bytes. -/
structure Few26 (l : List A25) : Prop where
  n : l.length ≤ 20
  op : ∀ a ∈ l, OpOk a.2.2.2.1

end Go.Ge

/- Work that puts a text: what the world is behind each operation. -/
namespace Go.Ge
set_option linter.unusedSectionVars false
set_option linter.unusedVariables false
set_option linter.unusedSimpArgs false
variable [Lp]

abbrev fTmp : List UInt8 := [116, 109, 112]
abbrev fF : List UInt8 := [102]
abbrev fX : List UInt8 := [49, 46, 49, 46, 120]
abbrev fT : List UInt8 := [116, 109, 112, 47, 49, 46, 49, 46, 120]
abbrev dirN (id : Int) (m : List Ent) : Nd := (id, (true, ((1 : Int), ((0 : Int), (([] : List UInt8), (m, ()))))))
abbrev filN (id l h : Int) (d : List UInt8) : Nd := (id, (false, (l, (h, (d, (([] : List Ent), ()))))))
abbrev opO (k : Int) (p q : List UInt8) (h : Int) (d : List UInt8) : Opr := (k, (p, (q, (h, ((0 : Int), ((0 : Int), (d, ((0 : Int), ((0 : Int), ())))))))))
abbrev resO (n : Int) : Rs := ((0 : Int), (n, (([] : List UInt8), (([] : List (List UInt8)), ()))))

/-- The file systems: at first, with the file made, written; the other file made, written, closed; renamed. -/
def fsA : Fs := ((1048576, (3, ([dirN 1 [(fTmp, (2, ()))], dirN 2 []], ()))), ([], ()))
def fsB (o : List UInt8) : Fs := ((1048576, (4, ([dirN 1 [(fF, (3, ())), (fTmp, (2, ()))], dirN 2 [], filN 3 1 1 o], ()))), ([(1, (1, (3, ())))], ()))
def fsC (o x : List UInt8) : Fs := ((1048576, (5, ([dirN 1 [(fF, (3, ())), (fTmp, (2, ()))], dirN 2 [(fX, (4, ()))], filN 3 1 1 o, filN 4 1 1 x], ()))), ([(1, (1, (3, ()))), (1, (2, (4, ())))], ()))
def fsD (o x : List UInt8) : Fs := ((1048576, (5, ([dirN 1 [(fF, (3, ())), (fTmp, (2, ()))], dirN 2 [(fX, (4, ()))], filN 3 1 1 o, filN 4 1 0 x], ()))), ([(1, (1, (3, ())))], ()))
def fsE (o x : List UInt8) : Fs := ((1048576, (5, ([dirN 1 [(fF, (4, ())), (fTmp, (2, ()))], dirN 2 [], filN 3 0 1 o, filN 4 1 0 x], ()))), ([(1, (1, (3, ())))], ()))

theorem do_mkdir : P_ref09_FS_Do ((1, (opO 1 fTmp [] 0 [], ())), (((1048576, (2, ([dirN 1 []], ()))), ([], ())), ())) = some ((resO 0, ()), (fsA, ())) := by
  obtain rfl : ‹Lp› = Lp.fast := Lp.one _ _
  kernel_rfl
theorem do_create : P_ref09_FS_Do ((1, (opO 3 fF [] 0 [], ())), (fsA, ())) = some ((resO 1, ()), (fsB [], ())) := by
  obtain rfl : ‹Lp› = Lp.fast := Lp.one _ _
  kernel_rfl
theorem do_close (o x : List UInt8) : P_ref09_FS_Do ((1, (opO 5 [] [] 2 [], ())), (fsC o x, ())) = some ((resO 0, ()), (fsD o x, ())) := by
  obtain rfl : ‹Lp› = Lp.fast := Lp.one _ _
  kernel_rfl
theorem do_rename (o x : List UInt8) : P_ref09_FS_Do ((1, (opO 12 fT fF 0 [], ())), (fsD o x, ())) = some ((resO 0, ()), (fsE o x, ())) := by
  obtain rfl : ‹Lp› = Lp.fast := Lp.one _ _
  kernel_rfl

/-- What making a file comes to. -/
theorem do3_val (o : Int) (p : List UInt8) (f : Fs) {v dir id : Int} {nm : List UInt8} {t' : Tb} {r : Rs} {f' : Fs} (h1 : P_ref09_right (opO 3 p [] 0 [], ()) = some (true, ()))
    (h2 : P_ref09_FS_many ((o, ()), (f, ())) = some ((v, ()), (f, ()))) (hv : v < 8) (h3 : P_ref09_FS_place ((p, ()), (f, ())) = some ((dir, (nm, (0, ()))), (f, ())))
    (h4 : P_ref08_Table_Make ((dir, (nm, (false, ()))), (f.1, ())) = some ((id, (0, ())), (t', ()))) (h5 : P_ref09_FS_gives ((o, (id, ())), ((t', (f.2.1, ())), ())) = some ((r, ()), (f', ()))) :
    P_ref09_FS_Do ((o, (opO 3 p [] 0 [], ())), (f, ())) = some ((r, ()), (f', ())) := by
  unfold P_ref09_FS_Do
  refine ob h1 ?_
  dsimp only
  simp only [show eqI (3 : Int) 5 = false from rfl, show eqI (3 : Int) 6 = false from rfl, show eqI (3 : Int) 7 = false from rfl, show eqI (3 : Int) 8 = false from rfl, show eqI (3 : Int) 9 = false from rfl, show eqI (3 : Int) 13 = false from rfl, show eqI (3 : Int) 3 = true from rfl, show eqI (3 : Int) 1 = false from rfl, show eqI (3 : Int) 2 = false from rfl, show eqI (3 : Int) 11 = false from rfl, nt_true, sel_true, sel_false]
  refine ob h2 ?_
  dsimp only
  rw [leI_false hv, sel_false]
  refine ob h3 ?_
  rw [show nt (eqI (0 : Int) 0) = false from rfl, sel_false]
  refine ob h4 ?_
  rw [show nt (eqI (0 : Int) 0) = false from rfl, sel_false]
  exact ob h5 rfl

/-- What a new name in a directory comes to. -/
theorem make_val (t : Tb) (dir : Int) (nm : List UInt8) (b : Bool) {d w : Nd} {u : Int} (hl : t.2.2.1.length ≤ 1000) (hn : 0 ≤ t.2.1 ∧ t.2.1 ≤ 1000000) (h1 : P_ref08_Table_place ((dir, (nm, ())), (t, ())) = some ((d, (0, ())), (t, ())))
    (h2 : P_ref08_leads (d, (nm, ())) = some (0, ())) (h3 : P_ref08_Table_Used (t, ()) = some (u, ())) (hu : iadd .i64 u 64 ≤ t.1) (h4 : P_ref08_with (d, ((nm, (t.2.1, ())), ())) = some (w, ())) :
    P_ref08_Table_Make ((dir, (nm, (b, ()))), (t, ())) = some ((t.2.1, (0, ())), ((t.1, (t.2.1 + 1, (setN w t.2.2.1 ++ [(t.2.1, (b, ((1 : Int), ((0 : Int), (([] : List UInt8), (([] : List Ent), ()))))))], ()))), ())) := by
  unfold P_ref08_Table_Make
  refine ob h1 ?_
  rw [show nt (eqI (0 : Int) 0) = false from rfl, sel_false]
  refine ob h2 ?_
  dsimp only
  rw [show ltI (0 : Int) 0 = false from rfl, sel_false, leI_false (by rw [len_eq]; omega), sel_false]
  refine ob h3 ?_
  dsimp only
  rw [ltI_false hu, sel_false, iadd_i64 (by omega) (by omega)]
  refine ob h4 (ob (set_val (t.1, (t.2.1 + 1, (t.2.2.1, ()))) w (by dsimp only; omega)) ?_)
  have := setN_len w t.2.2.1
  dsimp only
  rw [fits_len2 (by simp only [List.length_singleton]; omega), sel_true]
  rfl

theorem used_B (o : List UInt8) (ho : o.length ≤ 256) : P_ref08_Table_Used ((fsB o).1, ()) = some ((192 : Int) + o.length, ()) := by
  have e : P_ref08_Table_Used ((fsB o).1, ()) = some (iadd .i64 (iadd .i64 (iadd .i64 (iadd .i64 (iadd .i64 (iadd .i64 0 64) (len ([] : List UInt8))) 64) (len ([] : List UInt8))) 64) (len o), ()) := by
    obtain rfl : ‹Lp› = Lp.fast := Lp.one _ _
    kernel_rfl
  rw [e, show iadd .i64 (iadd .i64 (iadd .i64 (iadd .i64 (iadd .i64 0 64) (len ([] : List UInt8))) 64) (len ([] : List UInt8))) 64 = 192 from rfl, len_eq, iadd_i64 (by omega) (by omega)]
theorem used_C (o : List UInt8) (ho : o.length ≤ 256) : P_ref08_Table_Used ((fsC o []).1, ()) = some ((256 : Int) + o.length, ()) := by
  have e : P_ref08_Table_Used ((fsC o []).1, ()) = some (iadd .i64 (iadd .i64 (iadd .i64 (iadd .i64 (iadd .i64 (iadd .i64 (iadd .i64 (iadd .i64 0 64) (len ([] : List UInt8))) 64) (len ([] : List UInt8))) 64) (len o)) 64) (len ([] : List UInt8)), ()) := by
    obtain rfl : ‹Lp› = Lp.fast := Lp.one _ _
    kernel_rfl
  rw [e, show iadd .i64 (iadd .i64 (iadd .i64 (iadd .i64 (iadd .i64 0 64) (len ([] : List UInt8))) 64) (len ([] : List UInt8))) 64 = 192 from rfl, show len o = (o.length : Int) from rfl, show iadd .i64 192 (o.length : Int) = 192 + o.length from iadd_i64 (by omega) (by omega), show iadd .i64 (192 + (o.length : Int)) 64 = 256 + o.length from by rw [iadd_i64 (by omega) (by omega)]; omega, show iadd .i64 (256 + (o.length : Int)) (len ([] : List UInt8)) = 256 + o.length from by rw [len_eq, List.length_nil, iadd_i64 (by omega) (by omega)]; omega]

theorem do_create2 (o : List UInt8) (ho : o.length ≤ 256) : P_ref09_FS_Do ((1, (opO 3 fT [] 0 [], ())), (fsB o, ())) = some ((resO 2, ()), (fsC o [], ())) := by
  refine do3_val 1 fT (fsB o) (v := 1) (dir := 2) (nm := fX) (id := 4) (t' := (1048576, (5, ([dirN 1 [(fF, (3, ())), (fTmp, (2, ()))], dirN 2 [(fX, (4, ()))], filN 3 1 1 o, filN 4 1 0 []], ())))) ?_ ?_ (by decide) ?_ ?_ ?_
  · obtain rfl : ‹Lp› = Lp.fast := Lp.one _ _
    kernel_rfl
  · obtain rfl : ‹Lp› = Lp.fast := Lp.one _ _
    kernel_rfl
  · obtain rfl : ‹Lp› = Lp.fast := Lp.one _ _
    kernel_rfl
  · refine make_val (fsB o).1 2 fX false (d := dirN 2 []) (w := dirN 2 [(fX, (4, ()))]) (u := (192 : Int) + o.length) (show 3 ≤ 1000 by decide) (show (0 : Int) ≤ 4 ∧ (4 : Int) ≤ 1000000 by decide) ?_ ?_ (used_B o ho) ?_ ?_
    · obtain rfl : ‹Lp› = Lp.fast := Lp.one _ _
      kernel_rfl
    · obtain rfl : ‹Lp› = Lp.fast := Lp.one _ _
      kernel_rfl
    · rw [iadd_i64 (by omega) (by omega)]; show _ ≤ (1048576 : Int); omega
    · obtain rfl : ‹Lp› = Lp.fast := Lp.one _ _
      kernel_rfl
  · obtain rfl : ‹Lp› = Lp.fast := Lp.one _ _
    kernel_rfl

/-- Bytes written to an empty file, at its beginning. -/
theorem write_val (t : Tb) (id u : Int) (d : Nd) (b : List UInt8) (hl : t.2.2.1.length ≤ 1000) (h1 : P_ref08_Table_file ((id, (0, (0, ()))), (t, ())) = some ((d, (0, ())), (t, ()))) (hd : d.2.2.2.2.1 = []) (hb : b.length ≤ 1000)
    (h3 : P_ref08_Table_Used (t, ()) = some (u, ())) (hu : (b.length : Int) ≤ t.1 - u) (hq : t.1 - u ≤ 1000000000000000) (hs : b = [] → tset t (d.1, (d.2.1, (d.2.2.1, (d.2.2.2.1, (b, d.2.2.2.2.2))))) = t) :
    P_ref08_Table_Write ((id, (0, (b, ()))), (t, ())) = some ((0, ()), (tset t (d.1, (d.2.1, (d.2.2.1, (d.2.2.2.1, (b, d.2.2.2.2.2))))), ())) := by
  unfold P_ref08_Table_Write
  refine ob h1 ?_
  have hadd : iadd .i64 0 (len b) = b.length := by rw [len_eq, iadd_i64 (by omega) (by omega)]; omega
  dsimp only
  rw [show nt (eqI (0 : Int) 0) = false from rfl, sel_false, show nt (ltI (1048576 : Int) 0) = true from rfl, sel_true, hadd, ltI_false (by omega), sel_false]
  by_cases hb0 : b = []
  · rw [eqS_true hb0, sel_true, hs hb0]
  · rw [eqS_false hb0, sel_false, hd, show len ([] : List UInt8) = 0 from rfl]
    have hmax : imax 0 (b.length : Int) = b.length := by
      unfold imax
      cases hq : decide ((0 : Int) < b.length) with
      | false => have := of_decide_eq_false hq; show (0 : Int) = b.length; omega
      | true => rfl
    have hfits : P_ref08_Table_fits ((d, ((b.length : Int), ())), (t, ())) = some ((0, ()), (t, ())) := by
      unfold P_ref08_Table_fits
      dsimp only
      rw [ltI_false (by omega), sel_false]
      refine ob h3 ?_
      dsimp only
      rw [hd, show len ([] : List UInt8) = 0 from rfl, isub_i64 (by omega) (by omega), isub_i64 (by omega) (by omega), ltI_false (by omega)]; rfl
    have hlong := long_val [] (b.length : Int) (Nat.zero_le _) (by omega)
    have hy : (longN [] (b.length : Int)).length = b.length := by rw [longN_len]; simp
    generalize longN [] (b.length : Int) = y at hlong hy
    rw [hmax]
    refine ob hfits ?_
    dsimp only
    rw [show nt (eqI (0 : Int) 0) = false from rfl, sel_false]
    refine ob hlong ?_
    dsimp only
    rw [show inside 0 0 (len y) = true from inside_true (by omega) (by omega) (by rw [len_eq]; omega), sel_true]
    have e1 : sub y 0 (minus 0 0) = [] := by simp [sub, minus]
    have e2 : sub y (b.length : Int) (minus (len y) (b.length : Int)) = [] := by simp [sub, minus, len_eq, hy]
    rw [e1, e2, fits_len2 (by simp; omega), sel_true, show inside (b.length : Int) (len y) (len y) = true from inside_true (by omega) (by rw [len_eq]; omega) (Int.le_refl _), sel_true, fits_len2 (by simp [app_eq]; omega), sel_true,
      show app (app [] b) [] = b from by simp [app_eq]]
    exact ob (set_val t _ (by omega)) rfl

/-- What writing comes to. -/
theorem do7_val (o h : Int) (b : List UInt8) (f : Fs) {id : Int} {t' : Tb} (h2 : P_ref09_FS_holds ((o, (h, ())), (f, ())) = some ((id, ()), (f, ()))) (hid : id ≠ 0)
    (h3 : P_ref08_Table_Write ((id, (0, (b, ()))), (f.1, ())) = some ((0, ()), (t', ()))) :
    P_ref09_FS_Do ((o, (opO 7 [] [] h b, ())), (f, ())) = some ((resO 0, ()), ((t', (f.2.1, ())), ())) := by
  have h1 : P_ref09_right (opO 7 [] [] h b, ()) = some (true, ()) := by
    obtain rfl : ‹Lp› = Lp.fast := Lp.one _ _
    kernel_rfl
  have hh : P_ref09_FS_handled ((o, (opO 7 [] [] h b, ())), (f, ())) = some ((resO 0, ()), ((t', (f.2.1, ())), ())) := by
    unfold P_ref09_FS_handled
    refine ob h2 ?_
    dsimp only
    rw [eqI_false hid]
    simp only [show eqI (7 : Int) 5 = false from rfl, show eqI (7 : Int) 6 = false from rfl, show eqI (7 : Int) 7 = true from rfl, sel_true, sel_false]
    exact ob h3 rfl
  unfold P_ref09_FS_Do
  refine ob h1 ?_
  dsimp only
  simp only [show eqI (7 : Int) 5 = false from rfl, show eqI (7 : Int) 6 = false from rfl, show eqI (7 : Int) 7 = true from rfl, nt_true, sel_true, sel_false]
  exact ob hh rfl

theorem do_write1 (o : List UInt8) (ho : o.length ≤ 256) : P_ref09_FS_Do ((1, (opO 7 [] [] 1 o, ())), (fsB [], ())) = some ((resO 0, ()), (fsB o, ())) := by
  refine do7_val 1 1 o (fsB []) (id := 3) ?_ (by decide) (write_val (fsB []).1 3 192 (filN 3 1 1 []) o (show 3 ≤ 1000 by decide) ?_ rfl (by omega) ?_ (by show (o.length : Int) ≤ 1048576 - 192; omega) (by decide) (fun e => by rw [e]; rfl))
  · obtain rfl : ‹Lp› = Lp.fast := Lp.one _ _
    kernel_rfl
  · obtain rfl : ‹Lp› = Lp.fast := Lp.one _ _
    kernel_rfl
  · obtain rfl : ‹Lp› = Lp.fast := Lp.one _ _
    kernel_rfl
theorem do_write2 (o x : List UInt8) (ho : o.length ≤ 256) (hx : x.length ≤ 256) : P_ref09_FS_Do ((1, (opO 7 [] [] 2 x, ())), (fsC o [], ())) = some ((resO 0, ()), (fsC o x, ())) := by
  refine do7_val 1 2 x (fsC o []) (id := 4) ?_ (by decide) (write_val (fsC o []).1 4 (256 + o.length) (filN 4 1 1 []) x (show 4 ≤ 1000 by decide) ?_ rfl (by omega) (used_C o ho) (by show (x.length : Int) ≤ 1048576 - (256 + (o.length : Int)); omega) (by show 1048576 - (256 + (o.length : Int)) ≤ 1000000000000000; omega) (fun e => by rw [e]; rfl))
  · obtain rfl : ‹Lp› = Lp.fast := Lp.one _ _
    kernel_rfl
  · obtain rfl : ‹Lp› = Lp.fast := Lp.one _ _
    kernel_rfl
end Go.Ge

/- Work that puts a text: the world behind each operation, and behind a kill or a power failure. -/
namespace Go.Ge
set_option linter.unusedSectionVars false
set_option linter.unusedVariables false
set_option linter.unusedSimpArgs false
variable [Lp]

abbrev pt1 : Pt := ([(1, (1, ()))], (1, ()))
abbrev pt0 : Pt := ([], (1, ()))
abbrev wd (f b : Fs) (lg : List Ac9) : Wd := ((f, (b, (lg, ()))), (pt1, ()))
abbrev ent (op : Opr) : Ac9 := (1, (false, (op, ())))

/-- The work's operations. -/
def opK (x : List UInt8) : Nat → Opr
  | 0 => opO 3 fT [] 0 []
  | 1 => opO 7 [] [] 2 x
  | 2 => opO 5 [] [] 2 []
  | 3 => opO 14 [] [] 0 []
  | 4 => opO 12 fT fF 0 []
  | _ => opO 14 [] [] 0 []
def resK : Nat → Rs
  | 0 => resO 2
  | _ => resO 0
/-- The worlds. -/
def sW (o x : List UInt8) : Nat → Wd
  | 0 => wd (fsB o) (fsB o) []
  | 1 => wd (fsC o []) (fsB o) [ent (opK x 0)]
  | 2 => wd (fsC o x) (fsB o) [ent (opK x 0), ent (opK x 1)]
  | 3 => wd (fsD o x) (fsB o) [ent (opK x 0), ent (opK x 1), ent (opK x 2)]
  | 4 => wd (fsD o x) (fsD o x) []
  | 5 => wd (fsE o x) (fsD o x) [ent (opK x 4)]
  | _ => wd (fsE o x) (fsE o x) []

theorem birth1 : P_ref11_Table_Birth ((1, ()), (pt1, ())) = some ((1, (0, ())), (pt1, ())) := by
  obtain rfl : ‹Lp› = Lp.fast := Lp.one _ _
  kernel_rfl

/-- What is changed on a disk is logged. -/
theorem wdo_log (f f' b : Fs) (lg : List Ac9) (op : Opr) (r : Rs) (h : P_ref09_FS_Do ((1, (op, ())), (f, ())) = some ((r, ()), (f', ()))) (hr : r.1 = 0) (h14 : eqI op.1 14 = false) (h15 : eqI op.1 15 = false) (h6 : eqI op.1 6 = false) (h9 : eqI op.1 9 = false) (h13 : eqI op.1 13 = false)
    (hl : lg.length ≤ 1000) : P_ref25_World_Do ((1, (op, ())), (wd f b lg, ())) = some ((r, ()), (wd f' b (lg ++ [ent op]), ())) := by
  have hd : P_ref10_Disk_Do ((1, (op, ())), ((f, (b, (lg, ()))), ())) = some ((r, ()), ((f', (b, (lg ++ [ent op], ()))), ())) := by
    unfold P_ref10_Disk_Do
    dsimp only
    rw [h14, sel_false]
    refine ob h ?_
    dsimp only
    rw [h6, h9, h13, eqI_true hr, show sel true (nt (sel (nt (sel (nt false) false true)) false true)) false = true from rfl, sel_true, fits_len2 (by simp only [List.length_singleton]; omega), sel_true]
    rfl
  unfold P_ref25_World_Do
  refine ob birth1 ?_
  dsimp only
  rw [show nt (eqI (0 : Int) 0) = false from rfl, sel_false, h15, sel_false]
  exact ob hd rfl

theorem sW_step (o x : List UInt8) (ho : o.length ≤ 256) (hx : x.length ≤ 256) : ∀ k, k < 6 → P_ref25_World_Do ((1, (opK x k, ())), (sW o x k, ())) = some ((resK k, ()), (sW o x (k + 1), ()))
  | 0, _ => wdo_log _ _ _ [] _ _ (do_create2 o ho) rfl rfl rfl rfl rfl rfl (by decide)
  | 1, _ => wdo_log _ _ _ [ent (opK x 0)] _ _ (do_write2 o x ho hx) rfl rfl rfl rfl rfl rfl (by decide : 1 ≤ 1000)
  | 2, _ => wdo_log _ _ _ [ent (opK x 0), ent (opK x 1)] _ _ (do_close o x) rfl rfl rfl rfl rfl rfl (by decide : 2 ≤ 1000)
  | 3, _ => by
    obtain rfl : ‹Lp› = Lp.fast := Lp.one _ _
    kernel_rfl
  | 4, _ => wdo_log _ _ _ [] _ _ (do_rename o x) rfl rfl rfl rfl rfl rfl (by decide)
  | 5, _ => by
    obtain rfl : ‹Lp› = Lp.fast := Lp.one _ _
    kernel_rfl
  | k + 6, h => by omega

/-! ### Behind a kill, or a power failure: no handle is held -/
def kB (o : List UInt8) : Fs := ((1048576, (4, ([dirN 1 [(fF, (3, ())), (fTmp, (2, ()))], dirN 2 [], filN 3 1 0 o], ()))), ([], ()))
def kC (o x : List UInt8) : Fs := ((1048576, (5, ([dirN 1 [(fF, (3, ())), (fTmp, (2, ()))], dirN 2 [(fX, (4, ()))], filN 3 1 0 o, filN 4 1 0 x], ()))), ([], ()))
def kE (x : List UInt8) : Fs := ((1048576, (5, ([dirN 1 [(fF, (4, ())), (fTmp, (2, ()))], dirN 2 [], filN 4 1 0 x], ()))), ([], ()))
abbrev gone : Ac9 := (1, (true, (opO 0 [] [] 0 [], ())))

theorem has_B (o : List UInt8) (b : Fs) (lg : List Ac9) (p : Pt) : P_law27_has ((fF, ()), ((((kB o, (b, (lg, ()))), (p, ())) : Wd), ())) = some ((o, (true, ())), ((((kB o, (b, (lg, ()))), (p, ())) : Wd), ())) := by
  obtain rfl : ‹Lp› = Lp.fast := Lp.one _ _
  kernel_rfl
theorem has_C (o x : List UInt8) (b : Fs) (lg : List Ac9) (p : Pt) : P_law27_has ((fF, ()), ((((kC o x, (b, (lg, ()))), (p, ())) : Wd), ())) = some ((o, (true, ())), ((((kC o x, (b, (lg, ()))), (p, ())) : Wd), ())) := by
  obtain rfl : ‹Lp› = Lp.fast := Lp.one _ _
  kernel_rfl
theorem has_E (x : List UInt8) (b : Fs) (lg : List Ac9) (p : Pt) : P_law27_has ((fF, ()), ((((kE x, (b, (lg, ()))), (p, ())) : Wd), ())) = some ((x, (true, ())), ((((kE x, (b, (lg, ()))), (p, ())) : Wd), ())) := by
  obtain rfl : ‹Lp› = Lp.fast := Lp.one _ _
  kernel_rfl

/-- The file system when all that the work holds is closed. -/
def kF (o x : List UInt8) : Nat → Fs
  | 0 => kB o
  | 1 => kC o []
  | 2 => kC o x
  | 3 => kC o x
  | 4 => kC o x
  | _ => kE x

/-- What a kill leaves. -/
theorem kill_val (o x : List UInt8) : ∀ k, k < 7 → ∃ b lg, P_ref25_World_Kill ((1, ()), (sW o x k, ())) = some ((0, ()), ((((kF o x k, (b, (lg, ()))), (pt0, ())) : Wd), ()))
  | 0, _ => ⟨fsB o, [gone], by
    obtain rfl : ‹Lp› = Lp.fast := Lp.one _ _
    kernel_rfl⟩
  | 1, _ => ⟨fsB o, [ent (opK x 0), gone], by
    obtain rfl : ‹Lp› = Lp.fast := Lp.one _ _
    kernel_rfl⟩
  | 2, _ => ⟨fsB o, [ent (opK x 0), ent (opK x 1), gone], by
    obtain rfl : ‹Lp› = Lp.fast := Lp.one _ _
    kernel_rfl⟩
  | 3, _ => ⟨fsB o, [ent (opK x 0), ent (opK x 1), ent (opK x 2), gone], by
    obtain rfl : ‹Lp› = Lp.fast := Lp.one _ _
    kernel_rfl⟩
  | 4, _ => ⟨fsD o x, [gone], by
    obtain rfl : ‹Lp› = Lp.fast := Lp.one _ _
    kernel_rfl⟩
  | 5, _ => ⟨fsD o x, [ent (opK x 4), gone], by
    obtain rfl : ‹Lp› = Lp.fast := Lp.one _ _
    kernel_rfl⟩
  | 6, _ => ⟨fsE o x, [gone], by
    obtain rfl : ‹Lp› = Lp.fast := Lp.one _ _
    kernel_rfl⟩
  | k + 7, h => by omega
theorem has_val (o x : List UInt8) (b : Fs) (lg : List Ac9) (p : Pt) : ∀ k, k < 7 → P_law27_has ((fF, ()), ((((kF o x k, (b, (lg, ()))), (p, ())) : Wd), ())) = some ((if k < 5 then o else x, (true, ())), ((((kF o x k, (b, (lg, ()))), (p, ())) : Wd), ()))
  | 0, _ => has_B o b lg p
  | 1, _ => has_C o [] b lg p
  | 2, _ => has_C o x b lg p
  | 3, _ => has_C o x b lg p
  | 4, _ => has_C o x b lg p
  | 5, _ => has_E x b lg p
  | 6, _ => has_E x b lg p
  | k + 7, h => by omega
end Go.Ge

/- Work that puts a text: the world behind a power failure. -/
namespace Go.Ge
set_option linter.unusedSectionVars false
set_option linter.unusedVariables false
set_option linter.unusedSimpArgs false
variable [Lp]

abbrev CtS := (Int × Unit) × (Unit × Unit × Unit) × (Int × Int × Unit × Unit) × List Hn × List Nd × Unit
def ctS (i : Int) (g : Fs) : CtS := ((i, ()), (((), ((), ())), ((g.1.1, (g.1.2.1, ((), ()))), (g.2.1, (g.1.2.2.1, ())))))

theorem cut_round (n : Int) (d f : Fs) (lg : List Ac9) (i : Nat) (g g' : Fs) (op : Opr) (r : Rs) (h : lg[i]? = some (ent op)) (hi : (i : Int) < n) (hl : lg.length ≤ 1000)
    (hdo : P_ref09_FS_Do ((1, (op, ())), (g, ())) = some ((r, ()), (g', ()))) : P_ref10_Disk_Cut_L0 ((n, ()), ((d, (f, (lg, ()))), ())) (ctS i g) = some (.inl (ctS (i + 1 : Nat) g')) := by
  have hlt := getElem?_lt h
  have hw : within (i : Int) (len lg) = true := within_true (by omega) (by rw [len_eq]; omega)
  unfold P_ref10_Disk_Cut_L0
  dsimp only [ctS]
  rw [ltI_len_true hlt, sel_true, ltI_true hi, sel_true, hw, sel_true, idx_some' h]
  simp only [obind_of rfl, sel_true, sel_false]
  rw [obind_of (show obind (P_ref09_FS_Do ((1, (op, ())), (((g.1.1, (g.1.2.1, (g.1.2.2.1, ()))), (g.2.1, ())), ()))) (fun y5 => some ((), (((), ((), ())), ((y5.2.1.1.1, (y5.2.1.1.2.1, ((), ()))), (y5.2.1.2.1, (y5.2.1.1.2.2.1, ())))))) = some ((), (((), ((), ())), ((g'.1.1, (g'.1.2.1, ((), ()))), (g'.2.1, (g'.1.2.2.1, ()))))) from ob hdo rfl), way1_inl, iadd_one (by omega)]

theorem cut_stop (n : Int) (d f : Fs) (lg : List Ac9) (i : Nat) (g : Fs) (h : ¬ (i < lg.length ∧ (i : Int) < n)) : P_ref10_Disk_Cut_L0 ((n, ()), ((d, (f, (lg, ()))), ())) (ctS i g) = some (.inr (ctS i g)) := by
  unfold P_ref10_Disk_Cut_L0
  dsimp only [ctS]
  have : sel (ltI (i : Int) (len lg)) (ltI (i : Int) n) false = false := by
    by_cases hl : i < lg.length
    · rw [ltI_len_true hl, sel_true, ltI_false (by omega)]
    · rw [ltI_false (by rw [len_eq]; omega), sel_false]
  rw [this, sel_false]; rfl

/-- What a cut does of what is logged. -/
theorem cut_loop (n : Int) (d : Fs) (lg : List Ac9) (gs : Nat → Fs) (op : Nat → Opr) (r : Nat → Rs) (hl : lg.length ≤ 1000) (h : ∀ i, i < lg.length → lg[i]? = some (ent (op i)) ∧ P_ref09_FS_Do ((1, (op i, ())), (gs i, ())) = some ((r i, ()), (gs (i + 1), ()))) :
    ∃ m, m ≤ lg.length ∧ Loop (P_ref10_Disk_Cut_L0 ((n, ()), ((d, (gs 0, (lg, ()))), ()))) (ctS (0 : Int) (gs 0)) = some (ctS m (gs m)) := by
  have key : ∀ m : Nat, m ≤ lg.length → (∀ i : Nat, i < m → (i : Int) < n) → ¬ (m < lg.length ∧ (m : Int) < n) → Loop (P_ref10_Disk_Cut_L0 ((n, ()), ((d, (gs 0, (lg, ()))), ()))) (ctS (0 : Int) (gs 0)) = some (ctS m (gs m)) := by
    intro m hm hlt hst
    refine loop_seq' (fun i : Nat => ctS (i : Int) (gs i)) m 0 (fun i _ hi => ?_) ?_
    · have h2 := h i (by omega)
      exact cut_round n d (gs 0) lg i (gs i) (gs (i + 1)) (op i) (r i) h2.1 (hlt i (by omega)) hl h2.2
    · rw [Nat.zero_add]
      exact cut_stop n d (gs 0) lg m (gs m) hst
  by_cases hn : n < lg.length
  · by_cases h0 : n ≤ 0
    · exact ⟨0, Nat.zero_le _, key 0 (Nat.zero_le _) (fun i hi => by omega) (by omega)⟩
    · exact ⟨n.toNat, by omega, key n.toNat (by omega) (fun i hi => by omega) (by omega)⟩
  · exact ⟨lg.length, Nat.le_refl _, key lg.length (Nat.le_refl _) (fun i hi => by omega) (by omega)⟩

/-- The file system behind each of the work's changes. -/
def fK (o x : List UInt8) : Nat → Fs
  | 0 => fsB o
  | 1 => fsC o []
  | 2 => fsC o x
  | 3 => fsD o x
  | _ => fsE o x
def oK (x : List UInt8) : Nat → Opr
  | 0 => opO 3 fT [] 0 []
  | 1 => opO 7 [] [] 2 x
  | 2 => opO 5 [] [] 2 []
  | _ => opO 12 fT fF 0 []
theorem fK_step (o x : List UInt8) (ho : o.length ≤ 256) (hx : x.length ≤ 256) : ∀ i, i < 4 → P_ref09_FS_Do ((1, (oK x i, ())), (fK o x i, ())) = some ((if i = 0 then resO 2 else resO 0, ()), (fK o x (i + 1), ()))
  | 0, _ => do_create2 o ho
  | 1, _ => do_write2 o x ho hx
  | 2, _ => do_close o x
  | 3, _ => do_rename o x
  | i + 4, h => by omega
def kX (o x : List UInt8) : Nat → Fs
  | 0 => kB o
  | 1 => kC o []
  | 2 => kC o x
  | 3 => kC o x
  | _ => kE x

/-- What the rest of a cut comes to. -/
theorem cut_rest (o x : List UInt8) (ho : o.length ≤ 256) (hx : x.length ≤ 256) (n : Int) (d : Fs) (lg : List Ac9) (f : Fs) (hf1 : f.2.1.length ≤ 1000) (hf2 : f.1.2.2.1.length ≤ 1000) (i : Int) : ∀ m, m < 5 →
    Loop (P_ref10_Disk_Cut_L0 ((n, ()), ((d, (f, (lg, ()))), ()))) (ctS (0 : Int) f) = some (ctS i (fK o x m)) → P_ref10_Disk_Cut ((n, ()), ((d, (f, (lg, ()))), ())) = some ((), ((kX o x m, (kX o x m, ([], ()))), ()))
  | 0, _, h => by
    unfold P_ref10_Disk_Cut
    rw [fits_len2 (by simp only [List.length_nil]; omega), sel_true, fits_len2 (by simp only [List.length_nil]; omega), sel_true]
    refine ob h ?_
    obtain rfl : ‹Lp› = Lp.fast := Lp.one _ _
    kernel_rfl
  | 1, _, h => by
    unfold P_ref10_Disk_Cut
    rw [fits_len2 (by simp only [List.length_nil]; omega), sel_true, fits_len2 (by simp only [List.length_nil]; omega), sel_true]
    refine ob h ?_
    obtain rfl : ‹Lp› = Lp.fast := Lp.one _ _
    kernel_rfl
  | 2, _, h => by
    unfold P_ref10_Disk_Cut
    rw [fits_len2 (by simp only [List.length_nil]; omega), sel_true, fits_len2 (by simp only [List.length_nil]; omega), sel_true]
    refine ob h ?_
    obtain rfl : ‹Lp› = Lp.fast := Lp.one _ _
    kernel_rfl
  | 3, _, h => by
    unfold P_ref10_Disk_Cut
    rw [fits_len2 (by simp only [List.length_nil]; omega), sel_true, fits_len2 (by simp only [List.length_nil]; omega), sel_true]
    refine ob h ?_
    obtain rfl : ‹Lp› = Lp.fast := Lp.one _ _
    kernel_rfl
  | 4, _, h => by
    unfold P_ref10_Disk_Cut
    rw [fits_len2 (by simp only [List.length_nil]; omega), sel_true, fits_len2 (by simp only [List.length_nil]; omega), sel_true]
    refine ob h ?_
    obtain rfl : ‹Lp› = Lp.fast := Lp.one _ _
    kernel_rfl
  | m + 5, h, _ => by omega

/-- What is logged in each world, and behind how many changes it was synced. -/
def lK (x : List UInt8) : Nat → List Ac9
  | 0 => []
  | 1 => [ent (oK x 0)]
  | 2 => [ent (oK x 0), ent (oK x 1)]
  | 3 => [ent (oK x 0), ent (oK x 1), ent (oK x 2)]
  | 4 => []
  | 5 => [ent (oK x 3)]
  | _ => []
def bK : Nat → Nat
  | 0 => 0 | 1 => 0 | 2 => 0 | 3 => 0 | 4 => 3 | 5 => 3 | _ => 4
def jK : Nat → Nat
  | 0 => 0 | 1 => 1 | 2 => 2 | 3 => 3 | 4 => 3 | 5 => 4 | _ => 4
theorem sW_eq (o x : List UInt8) : ∀ k, sW o x k = wd (fK o x (jK k)) (fK o x (bK k)) (lK x k)
  | 0 => rfl | 1 => rfl | 2 => rfl | 3 => rfl | 4 => rfl | 5 => rfl | _ + 6 => rfl
theorem lK_at (x : List UInt8) : ∀ k i, i < (lK x k).length → (lK x k)[i]? = some (ent (oK x (bK k + i))) ∧ bK k + i < jK k
  | 0, _, h => by cases h
  | 1, 0, _ => ⟨rfl, by decide⟩
  | 1, i + 1, h => absurd h (by show ¬ i + 1 < 1; omega)
  | 2, 0, _ => ⟨rfl, by decide⟩
  | 2, 1, _ => ⟨rfl, by decide⟩
  | 2, i + 2, h => absurd h (by show ¬ i + 2 < 2; omega)
  | 3, 0, _ => ⟨rfl, by decide⟩
  | 3, 1, _ => ⟨rfl, by decide⟩
  | 3, 2, _ => ⟨rfl, by decide⟩
  | 3, i + 3, h => absurd h (by show ¬ i + 3 < 3; omega)
  | 4, _, h => by cases h
  | 5, 0, _ => ⟨rfl, by decide⟩
  | 5, i + 1, h => absurd h (by show ¬ i + 1 < 1; omega)
  | k + 6, _, h => by cases h
theorem lK_len (x : List UInt8) : ∀ k, bK k + (lK x k).length ≤ jK k ∧ jK k ≤ 4 ∧ (lK x k).length ≤ 3
  | 0 => by simp [lK, bK, jK] | 1 => by simp [lK, bK, jK] | 2 => by simp [lK, bK, jK] | 3 => by simp [lK, bK, jK] | 4 => by simp [lK, bK, jK] | 5 => by simp [lK, bK, jK] | _ + 6 => by simp [lK, bK, jK]
theorem fK_len (o x : List UInt8) : ∀ k, (fK o x k).2.1.length ≤ 1000 ∧ (fK o x k).1.2.2.1.length ≤ 1000
  | 0 => ⟨by show 1 ≤ 1000; decide, by show 3 ≤ 1000; decide⟩
  | 1 => ⟨by show 2 ≤ 1000; decide, by show 4 ≤ 1000; decide⟩
  | 2 => ⟨by show 2 ≤ 1000; decide, by show 4 ≤ 1000; decide⟩
  | 3 => ⟨by show 1 ≤ 1000; decide, by show 4 ≤ 1000; decide⟩
  | _ + 4 => ⟨by show 1 ≤ 1000; decide, by show 4 ≤ 1000; decide⟩

/-- What a power failure leaves. -/
theorem power_val (o x : List UInt8) (ho : o.length ≤ 256) (hx : x.length ≤ 256) (n : Int) (k : Nat) : ∃ m, bK k ≤ m ∧ m ≤ 4 ∧ P_ref25_World_Power ((n, ()), (sW o x k, ())) = some ((), ((((kX o x m, (kX o x m, ([], ()))), (pt0, ())) : Wd), ())) := by
  have hl := lK_len x k
  obtain ⟨m, hm, h⟩ := cut_loop n (fK o x (jK k)) (lK x k) (fun i => fK o x (bK k + i)) (fun i => oK x (bK k + i)) (fun i => if bK k + i = 0 then resO 2 else resO 0) (by omega) (fun i hi => by
    have h2 := lK_at x k i hi
    exact ⟨h2.1, fK_step o x ho hx (bK k + i) (by omega)⟩)
  refine ⟨bK k + m, by omega, by omega, ?_⟩
  have h3 := cut_rest o x ho hx n (fK o x (jK k)) (lK x k) (fK o x (bK k)) (fK_len o x _).1 (fK_len o x _).2 m (bK k + m) (by omega) h
  rw [sW_eq]
  unfold P_ref25_World_Power
  exact ob h3 rfl
theorem hasX_val (o x : List UInt8) (b : Fs) (lg : List Ac9) (p : Pt) : ∀ m, m < 5 → P_law27_has ((fF, ()), ((((kX o x m, (b, (lg, ()))), (p, ())) : Wd), ())) = some ((if m < 4 then o else x, (true, ())), ((((kX o x m, (b, (lg, ()))), (p, ())) : Wd), ()))
  | 0, _ => has_B o b lg p
  | 1, _ => has_C o [] b lg p
  | 2, _ => has_C o x b lg p
  | 3, _ => has_C o x b lg p
  | 4, _ => has_E x b lg p
  | m + 5, h => by omega
end Go.Ge

/- Work that puts a text: each round of it, and the law. -/
namespace Go.Ge
set_option linter.unusedSectionVars false
set_option linter.unusedVariables false
set_option linter.unusedSimpArgs false
variable [Lp]

abbrev r14 : Rs := ((14 : Int), ((0 : Int), (([] : List UInt8), (([] : List (List UInt8)), ()))))
def rnS (L : List Dn) (a : Int) (wa wn : Bool) (op : Opr) : Rn := (true, (L, (a, (wa, (wn, (op, ()))))))

theorem cont_nil27 (e : Int) : P_slices_Contains_api_Errno_api_Errno (([] : List Int), (e, ())) = some (false, ()) := by
  obtain rfl : ‹Lp› = Lp.fast := Lp.one _ _
  kernel_rfl
theorem ask_hit (L : List Dn) (i : Nat) (o op : Opr) (r : Rs) (h : L[i]? = some (o, (r, ()))) (hr0 : r.1 = 0) (hr : ResOk r) (hl : L.length ≤ 1000) :
    P_swap_ask ((o, ([], ())), (rnS L i false false op, ())) = some ((r, (0, ())), (rnS L (i + 1 : Nat) false false op, ())) := by
  unfold P_swap_ask
  refine ob (do_hit26 L i o op r h hr hl) ?_
  refine ob (cont_nil27 r.1) ?_
  rw [sel_false]
  dsimp only
  rw [hr0]; rfl
theorem ask_end (L : List Dn) (o op : Opr) : P_swap_ask ((o, ([], ())), (rnS L L.length false false op, ())) = some ((r14, (14, ())), (rnS L L.length true true o, ())) := by
  unfold P_swap_ask
  refine ob (do_end26 L o op) ?_
  refine ob (cont_nil27 14) ?_
  rw [sel_false]; rfl
theorem waits_hit (L : List Dn) (i : Nat) (o op : Opr) (r : Rs) (h : L[i]? = some (o, (r, ()))) (hr0 : r.1 = 0) (hr : ResOk r) (hl : L.length ≤ 1000) :
    P_swap_waits ((o, ()), (rnS L i false false op, ())) = some ((false, ()), (rnS L (i + 1 : Nat) false false op, ())) := by
  unfold P_swap_waits
  exact ob (ask_hit L i o op r h hr0 hr hl) rfl
theorem waits_end (L : List Dn) (o op : Opr) : P_swap_waits ((o, ()), (rnS L L.length false false op, ())) = some ((true, ()), (rnS L L.length true true o, ())) := by
  unfold P_swap_waits
  exact ob (ask_end L o op) rfl

/-- What was answered. -/
def lgK (x : List UInt8) : Nat → List Dn
  | 0 => []
  | k + 1 => lgK x k ++ [(opK x k, (resK k, ()))]
theorem resK_ok : ∀ k, ResOk (resK k) ∧ (resK k).1 = 0
  | 0 => ⟨⟨er0, by show (0 : Nat) ≤ 1000000; decide⟩, rfl⟩
  | _ + 1 => ⟨⟨er0, by show (0 : Nat) ≤ 1000000; decide⟩, rfl⟩
theorem lgK_len (x : List UInt8) : ∀ k, (lgK x k).length = k
  | 0 => rfl
  | k + 1 => by show (lgK x k ++ _).length = _; rw [List.length_append, lgK_len x k]; rfl
theorem lgK_at (x : List UInt8) {i : Nat} : ∀ {k}, i < k → (lgK x k)[i]? = some (opK x i, (resK i, ()))
  | 0, h => by omega
  | k + 1, h => by
    show (lgK x k ++ [_])[i]? = _
    by_cases hi : i < k
    · rw [List.getElem?_append_left (by rw [lgK_len]; exact hi)]; exact lgK_at x hi
    · obtain rfl : i = k := by omega
      rw [List.getElem?_append_right (by rw [lgK_len]; exact Nat.le_refl _), lgK_len, Nat.sub_self]; rfl

theorem askK_hit (x : List UInt8) (op : Opr) {i k : Nat} (h : i < k) (hk : k < 7) : P_swap_ask ((opK x i, ([], ())), (rnS (lgK x k) i false false op, ())) = some ((resK i, (0, ())), (rnS (lgK x k) (i + 1 : Nat) false false op, ())) :=
  ask_hit _ i _ op _ (lgK_at x h) (resK_ok i).2 (resK_ok i).1 (by rw [lgK_len]; omega)
theorem askK_end (x : List UInt8) (op : Opr) (k : Nat) : P_swap_ask ((opK x k, ([], ())), (rnS (lgK x k) k false false op, ())) = some ((r14, (14, ())), (rnS (lgK x k) k true true (opK x k), ())) := by
  have := ask_end (lgK x k) (opK x k) op
  rw [lgK_len] at this
  exact this
theorem waitsK_hit (x : List UInt8) (op : Opr) {i k : Nat} (h : i < k) (hk : k < 7) : P_swap_waits ((opK x i, ()), (rnS (lgK x k) i false false op, ())) = some ((false, ()), (rnS (lgK x k) (i + 1 : Nat) false false op, ())) :=
  waits_hit _ i _ op _ (lgK_at x h) (resK_ok i).2 (resK_ok i).1 (by rw [lgK_len]; omega)
theorem waitsK_end (x : List UInt8) (op : Opr) (k : Nat) : P_swap_waits ((opK x k, ()), (rnS (lgK x k) k false false op, ())) = some ((true, ()), (rnS (lgK x k) k true true (opK x k), ())) := by
  have := waits_end (lgK x k) (opK x k) op
  rw [lgK_len] at this
  exact this

theorem write0 (x : List UInt8) (op : Opr) : P_swap_Write ((fT, (x, ())), (rnS (lgK x 0) 0 false false op, ())) = some ((14, ()), (rnS (lgK x 0) 0 true true (opK x 0), ())) := by
  unfold P_swap_Write
  refine ob (askK_end x op 0) ?_
  rfl
theorem write1 (x : List UInt8) (op : Opr) : P_swap_Write ((fT, (x, ())), (rnS (lgK x 1) 0 false false op, ())) = some ((14, ()), (rnS (lgK x 1) 1 true true (opK x 1), ())) := by
  unfold P_swap_Write
  refine ob (askK_hit x op (i := 0) (k := 1) (by decide) (by decide)) ?_
  rw [show nt (eqI (0 : Int) 0) = false from rfl, sel_false]
  refine ob (askK_end x op 1) ?_
  rfl
theorem write2 (x : List UInt8) (op : Opr) : P_swap_Write ((fT, (x, ())), (rnS (lgK x 2) 0 false false op, ())) = some ((14, ()), (rnS (lgK x 2) 2 true true (opK x 2), ())) := by
  unfold P_swap_Write
  refine ob (askK_hit x op (i := 0) (k := 2) (by decide) (by decide)) ?_
  rw [show nt (eqI (0 : Int) 0) = false from rfl, sel_false]
  refine ob (askK_hit x op (i := 1) (k := 2) (by decide) (by decide)) ?_
  rw [show nt (eqI (0 : Int) 14) = true from rfl, sel_true]
  refine ob (waitsK_end x op 2) ?_
  rfl
theorem write3 (x : List UInt8) (op : Opr) {k : Nat} (h : 2 < k) (hk : k < 7) : P_swap_Write ((fT, (x, ())), (rnS (lgK x k) 0 false false op, ())) = some ((0, ()), (rnS (lgK x k) 3 false false op, ())) := by
  unfold P_swap_Write
  refine ob (askK_hit x op (i := 0) (k := k) (by omega) hk) ?_
  rw [show nt (eqI (0 : Int) 0) = false from rfl, sel_false]
  refine ob (askK_hit x op (i := 1) (k := k) (by omega) hk) ?_
  rw [show nt (eqI (0 : Int) 14) = true from rfl, sel_true]
  refine ob (waitsK_hit x op (i := 2) (k := k) h hk) ?_
  rfl

theorem put_val (x : List UInt8) (op : Opr) : ∀ k, k < 6 → P_swap_Put ((fT, (fF, (x, ()))), (rnS (lgK x k) 0 false false op, ())) = some ((14, ()), (rnS (lgK x k) k true true (opK x k), ()))
  | 0, _ => by
    unfold P_swap_Put
    exact ob (write0 x op) rfl
  | 1, _ => by
    unfold P_swap_Put
    exact ob (write1 x op) rfl
  | 2, _ => by
    unfold P_swap_Put
    exact ob (write2 x op) rfl
  | 3, _ => by
    unfold P_swap_Put
    refine ob (write3 x op (k := 3) (by decide) (by decide)) ?_
    rw [show nt (eqI (0 : Int) 0) = false from rfl, sel_false]
    refine ob (waitsK_end x op 3) ?_
    rfl
  | 4, _ => by
    unfold P_swap_Put
    refine ob (write3 x op (k := 4) (by decide) (by decide)) ?_
    rw [show nt (eqI (0 : Int) 0) = false from rfl, sel_false]
    refine ob (waitsK_hit x op (i := 3) (k := 4) (by decide) (by decide)) ?_
    rw [sel_false]
    refine ob (askK_end x op 4) ?_
    rfl
  | 5, _ => by
    unfold P_swap_Put
    refine ob (write3 x op (k := 5) (by decide) (by decide)) ?_
    rw [show nt (eqI (0 : Int) 0) = false from rfl, sel_false]
    refine ob (waitsK_hit x op (i := 3) (k := 5) (by decide) (by decide)) ?_
    rw [sel_false]
    refine ob (askK_hit x op (i := 4) (k := 5) (by decide) (by decide)) ?_
    rw [show eqI (0 : Int) 14 = false from rfl, sel_false, show nt (eqI (0 : Int) 0) = false from rfl, sel_false]
    refine ob (waitsK_end x op 5) ?_
    rfl
  | k + 6, h => by omega
theorem put_end (x : List UInt8) (op : Opr) : P_swap_Put ((fT, (fF, (x, ()))), (rnS (lgK x 6) 0 false false op, ())) = some ((0, ()), (rnS (lgK x 6) 6 false false op, ())) := by
  unfold P_swap_Put
  refine ob (write3 x op (k := 6) (by decide) (by decide)) ?_
  rw [show nt (eqI (0 : Int) 0) = false from rfl, sel_false]
  refine ob (waitsK_hit x op (i := 3) (k := 6) (by decide) (by decide)) ?_
  rw [sel_false]
  refine ob (askK_hit x op (i := 4) (k := 6) (by decide) (by decide)) ?_
  rw [show eqI (0 : Int) 14 = false from rfl, sel_false, show nt (eqI (0 : Int) 0) = false from rfl, sel_false]
  refine ob (waitsK_hit x op (i := 5) (k := 6) (by decide) (by decide)) ?_
  rfl

theorem awake27o : P_law27_awake () = some (true, ()) := by
  obtain rfl : ‹Lp› = Lp.fast := Lp.one _ _
  kernel_rfl

/-! ### The law -/
def lpS (w : Wd) (L : List Dn) (a : Int) (wa wn : Bool) (op : Opr) (dn : Bool) (k : Int) :=
  ((dn, (k, ())), ((true, ((), (a, (wa, (wn, (op, ())))))), (L, (((), ((), ())), (((), ((), ((), ()))), (((), (w.2.1.2.1, ())), (((), ((), ())), (((), ((), ())), (w.1.2.2.1, (w.2.1.1, ((w.1.1.1.1, (w.1.1.1.2.1, ((), ()))), (w.1.1.2.1, ((w.1.2.1.1.1, (w.1.2.1.1.2.1, ((), ()))), (w.1.2.1.2.1, (w.1.1.1.2.2.1, (w.1.2.1.1.2.2.1, ()))))))))))))))))
/-- What the run waits for at a round's beginning. -/
def wK (x : List UInt8) : Nat → Int × Bool × Opr
  | 0 => (0, (false, opO 0 [] [] 0 []))
  | k + 1 => (k, (true, opK x k))
def stS (o x : List UInt8) (k : Nat) := lpS (sW o x k) (lgK x k) (wK x k).1 (wK x k).2.1 false (wK x k).2.2 false k

theorem sRound_val (o x : List UInt8) (ho : o.length ≤ 256) (hx : x.length ≤ 256) (s0 s1 : Int) (k : Nat) (hk : k < 6) (hc : (k : Int) < iand .i64 s0 15) :
    P_law27_SwapWhole_L0 (o, (x, ([s0, s1], ()))) (stS o x k) = some (.inl (stS o x (k + 1))) := by
  have hr := resK_ok k
  unfold P_law27_SwapWhole_L0
  dsimp only [stS, lpS]
  refine (congrArg way1 (?_ : _ = some (.inl (stS o x (k + 1))))).trans (way1_inl _)
  rw [show within 0 2 = true from rfl, sel_true]
  refine ob (show idx [s0, s1] (0 : Int) = some s0 from rfl) ?_
  rw [ltI_true hc, sel_true, nt_false, sel_true]
  refine ob (begin_val26 (lgK x k) (wK x k).1 (wK x k).2.1 false (wK x k).2.2) ?_
  refine ob (put_val x (wK x k).2.2 k hk) ?_
  refine ob (want_val26 (lgK x k) k true (opK x k)) ?_
  dsimp only
  rw [show nt (eqI (14 : Int) 0) = true from rfl, sel_true, nt_true, nt_false, sel_true, show nt (eqI (14 : Int) 14) = false from rfl, sel_false]
  refine ob (sW_step o x ho hx k hk) ?_
  refine ob (give_val26 (lgK x k) k true (opK x k) (resK k) hr.1 (by rw [lgK_len]; omega)) ?_
  dsimp only
  rw [iadd_one (by omega)]
  rfl
theorem sRound_end (o x : List UInt8) (s0 s1 : Int) (hc : 6 < iand .i64 s0 15) :
    P_law27_SwapWhole_L0 (o, (x, ([s0, s1], ()))) (stS o x 6) = some (.inr (lpS (sW o x 6) (lgK x 6) 6 false false (opK x 5) true 6)) := by
  unfold P_law27_SwapWhole_L0
  dsimp only [stS, lpS]
  refine (congrArg way1 (?_ : _ = some (.inr (0, (lpS (sW o x 6) (lgK x 6) 6 false false (opK x 5) true 6))))).trans (way1_inr _ _)
  rw [show within 0 2 = true from rfl, sel_true]
  refine ob (show idx [s0, s1] (0 : Int) = some s0 from rfl) ?_
  rw [ltI_true (show ((6 : Nat) : Int) < _ by omega), sel_true, nt_false, sel_true]
  refine ob (begin_val26 (lgK x 6) (wK x 6).1 (wK x 6).2.1 false (wK x 6).2.2) ?_
  refine ob (put_end x (wK x 6).2.2) ?_
  rfl
theorem sRound_stop (o x : List UInt8) (s0 s1 : Int) (k : Nat) (hc : ¬ (k : Int) < iand .i64 s0 15) :
    P_law27_SwapWhole_L0 (o, (x, ([s0, s1], ()))) (stS o x k) = some (.inr (stS o x k)) := by
  unfold P_law27_SwapWhole_L0
  dsimp only [stS, lpS]
  refine (congrArg way1 (?_ : _ = some (.inr (0, (stS o x k))))).trans (way1_inr _ _)
  rw [show within 0 2 = true from rfl, sel_true]
  refine ob (show idx [s0, s1] (0 : Int) = some s0 from rfl) ?_
  rw [ltI_false (by omega), sel_false, sel_false]
  rfl

/-- What the loop comes to. -/
theorem rounds_val (o x : List UInt8) (ho : o.length ≤ 256) (hx : x.length ≤ 256) (s0 s1 : Int) :
    ∃ k a wa op dn, k < 7 ∧ (dn = true → k = 6) ∧ (dn = false → iand .i64 s0 15 < 8) ∧ Loop (P_law27_SwapWhole_L0 (o, (x, ([s0, s1], ())))) (stS o x 0) = some (lpS (sW o x k) (lgK x k) a wa false op dn k) := by
  by_cases h6 : 6 < iand .i64 s0 15
  · refine ⟨6, 6, false, opK x 5, true, by decide, (fun _ => rfl), (fun h => by cases h), ?_⟩
    refine loop_seq' (fun k => stS o x k) 6 0 (fun i _ hi => sRound_val o x ho hx s0 s1 i (by omega) (by omega)) ?_
    exact sRound_end o x s0 s1 h6
  · have key : ∀ k : Nat, k ≤ 6 → (∀ i : Nat, i < k → (i : Int) < iand .i64 s0 15) → ¬ (k : Int) < iand .i64 s0 15 → Loop (P_law27_SwapWhole_L0 (o, (x, ([s0, s1], ())))) (stS o x 0) = some (stS o x k) := by
      intro k hk hi hs
      refine loop_seq' (fun k => stS o x k) k 0 (fun i _ h => sRound_val o x ho hx s0 s1 i (by omega) (hi i (by omega))) ?_
      rw [Nat.zero_add]
      exact sRound_stop o x s0 s1 k hs
    have hk := key (iand .i64 s0 15).toNat (by omega) (fun i hi => by omega) (by omega)
    exact ⟨(iand .i64 s0 15).toNat, _, _, _, false, by omega, (fun h => by cases h), (fun _ => by omega), hk⟩

theorem okC {o x s : List UInt8} {dn : Bool} (h : (s = o ∧ dn = false) ∨ s = x) : sel (sel true (sel (nt (sel (eqS s o) (nt dn) false)) (eqS s x) true) false) = (fun (a b : Option Bool) => a) := by
  funext a b
  rcases h with ⟨rfl, rfl⟩ | rfl
  · rw [eqS_true rfl]; rfl
  · rw [eqS_true (rfl : s = s)]
    cases sel (eqS s o) (nt dn) false <;> rfl

theorem swapWhole_val (o x : List UInt8) (l : List Int) (hl : l.length = 2) : P_law27_SwapWhole (o, (x, (l, ()))) = some (true, ()) := by
  obtain ⟨s0, s1, rfl⟩ : ∃ s0 s1, l = [s0, s1] := by
    match l, hl with
    | [a, b], _ => exact ⟨a, b, rfl⟩
  unfold P_law27_SwapWhole
  rw [show fits (plus (len ([] : List Hn)) (len ([] : List Hn))) = true from rfl, sel_true]
  rw [fits_len2 (show ([] : List Nd).length + _ ≤ 4294967296 by simp), sel_true]
  dsimp only
  by_cases ho : 256 < (o.length : Int)
  · rw [show nt (ltI (256 : Int) (len o)) = false from by rw [len_eq, ltI_true ho]; rfl, sel_false, sel_true]
    exact ob (ob awake27o rfl) rfl
  by_cases hx : 256 < (x.length : Int)
  · rw [show nt (ltI (256 : Int) (len o)) = true from by rw [len_eq, ltI_false (by omega)]; rfl, sel_true, show ltI (256 : Int) (len x) = true from by rw [len_eq, ltI_true hx], sel_true]
    exact ob (ob awake27o rfl) rfl
  rw [show nt (ltI (256 : Int) (len o)) = true from by rw [len_eq, ltI_false (by omega)]; rfl, sel_true, show ltI (256 : Int) (len x) = false from by rw [len_eq, ltI_false (by omega)], sel_false]
  have ho' : o.length ≤ 256 := by omega
  have hx' : x.length ≤ 256 := by omega
  have hsp : P_ref11_Table_Spawn (((1 : Int), ()), ((([] : List (Int × Int × Unit)), ((0 : Int), ())), ())) = some ((1, (0, ())), (pt1, ())) := by
    obtain rfl : ‹Lp› = Lp.fast := Lp.one _ _
    kernel_rfl
  let f0 : Fs := ((1048576, (2, ([dirN 1 []], ()))), ([], ()))
  refine ob hsp ?_
  refine ob (wdo_log f0 fsA f0 [] (opO 1 fTmp [] 0 []) (resO 0) do_mkdir rfl rfl rfl rfl rfl rfl (by decide)) ?_
  refine ob (wdo_log fsA (fsB []) f0 [ent (opO 1 fTmp [] 0 [])] (opO 3 fF [] 0 []) (resO 1) do_create rfl rfl rfl rfl rfl rfl (by decide : 1 ≤ 1000)) ?_
  refine ob (wdo_log (fsB []) (fsB o) f0 [ent (opO 1 fTmp [] 0 []), ent (opO 3 fF [] 0 [])] (opO 7 [] [] 1 o) (resO 0) (do_write1 o ho') rfl rfl rfl rfl rfl rfl (by decide : 2 ≤ 1000)) ?_
  have hsy : P_ref25_World_Do ((1, (opO 14 [] [] 0 [], ())), (wd (fsB o) f0 [ent (opO 1 fTmp [] 0 []), ent (opO 3 fF [] 0 []), ent (opO 7 [] [] 1 o)], ())) = some ((resO 0, ()), (sW o x 0, ())) := by
    obtain rfl : ‹Lp› = Lp.fast := Lp.one _ _
    kernel_rfl
  refine ob hsy ?_
  obtain ⟨k, a, wa, op, dn, hk, hd1, hd2, hL⟩ := rounds_val o x ho' hx' s0 s1
  refine ob hL ?_
  dsimp only [lpS]
  rw [show within 1 2 = true from rfl, sel_true]
  refine ob (show idx [s0, s1] (1 : Int) = some s1 from rfl) ?_
  have hfin : ∀ s : List UInt8, ((s = o ∧ dn = false) ∨ s = x) → obind (sel (sel true (sel (nt (sel (eqS s o) (nt dn) false)) (eqS s x) true) false)
      (sel (within 0 2) (obind (idx [s0, s1] (0 : Int)) (fun y10 => some (sel (nt (ltI (iand IntKind.i64 y10 15) 8)) dn true))) none) (some false)) (fun y10 => obind (sel y10 (obind (P_law27_awake ()) (fun y11 => some y11.1)) (some false)) (fun y11 => some (y11, ()))) = some (true, ()) := by
    intro s hs
    rw [okC hs]
    dsimp only
    rw [show within 0 2 = true from rfl, sel_true, obind_of (show idx [s0, s1] (0 : Int) = some s0 from rfl), obind_of rfl]
    have : sel (nt (ltI (iand IntKind.i64 s0 15) 8)) dn true = true := by
      cases dn with
      | true => cases nt (ltI (iand IntKind.i64 s0 15) 8) <;> rfl
      | false => rw [ltI_true (hd2 rfl)]; rfl
    rw [this, sel_true]
    exact ob (ob awake27o rfl) rfl
  cases hs1 : ltI s1 0 with
  | true =>
    rw [sel_true]
    obtain ⟨b, lg, hkl⟩ := kill_val o x k hk
    refine ob (ob hkl rfl) ?_
    refine ob (has_val o x b lg pt0 k hk) ?_
    refine hfin (if k < 5 then o else x) ?_
    by_cases h5 : k < 5
    · rw [if_pos h5]
      exact .inl ⟨rfl, by cases dn with | false => rfl | true => exact absurd (hd1 rfl) (by omega)⟩
    · rw [if_neg h5]; exact .inr rfl
  | false =>
    rw [sel_false, sel_true]
    obtain ⟨m, hm1, hm2, hp⟩ := power_val o x ho' hx' s1 k
    refine ob (ob (show idx [s0, s1] (1 : Int) = some s1 from rfl) (ob hp rfl)) ?_
    refine ob (hasX_val o x (kX o x m) [] pt0 m (by omega)) ?_
    refine hfin (if m < 4 then o else x) ?_
    by_cases h4 : m < 4
    · rw [if_pos h4]
      refine .inl ⟨rfl, ?_⟩
      cases dn with
      | false => rfl
      | true => obtain rfl := hd1 rfl; exact absurd hm1 (by show ¬ 4 ≤ m; omega)
    · rw [if_neg h4]; exact .inr rfl
end Go.Ge
