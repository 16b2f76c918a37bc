/- A ghost interpreter of the model's code, and that it tells the truth: part 2. It says of a function of plain data what a call of it comes to. -/
import Derived.Test.YtkgjcocemmnpjaaDoorGeA
import Derived.Maps.Own
import Derived.Laws.StructEq
import Derived.ChangeKeysEq
namespace Go.Ge
set_option linter.unusedVariables false

/-- What is kept beside the world: which cells never change any more, and where the boxes lie: their block, and how many elements it has room for. -/
structure Gh where
  I : Nat → Nat → Prop
  loc : Nat → Option (Nat × Nat)

/-- The value that a row of cells is. -/
def ofCells (t : Ty) (cs : List Value) : Value := bif t.isAgg then .agg cs.toArray else cs.headD undef

/-- The cells of data. -/
def RepC (w : World) (I : Nat → Nat → Prop) : (t : Ty) → t.den → List Value → Prop
  | .int k, n, cs => cs = [.int k n] ∧ k.min ≤ (show Int from n) ∧ (show Int from n) ≤ k.max
  | .bool, b, cs => cs = [.bool b]
  | .str, s, cs => cs = [.string ⟨List.toArray (α := UInt8) s⟩] ∧ List.length (α := UInt8) s ≤ maxLen
  | .slice e, l, cs => ((∃ base, cs = [.slice base 0 0]) ∧ l = ([] : List e.den)) ∨
      ∃ blk off cap, cs = [.slice (some ⟨blk, off, none⟩) (List.length (α := e.den) l) cap] ∧ List.length (α := e.den) l ≤ cap ∧ cap ≤ maxLen ∧
        ∀ (i : Nat) (x : e.den), (show List e.den from l)[i]? = some x → ∃ es : List Value, es.length = e.size ∧
          (∀ (j : Nat) v, es[j]? = some v → w.cell? ⟨blk, off + i * e.size + j, none⟩ = some v ∧ I blk (off + i * e.size + j)) ∧ RepC w I e x es
  | .arr n e, l, cs => List.length (α := e.den) l = n ∧ cs.length = n * e.size ∧
      ∀ (i : Nat) (x : e.den), (show List e.den from l)[i]? = some x → RepC w I e x ((cs.drop (i * e.size)).take e.size)
  | .pair a b, x, cs => ∃ c1 c2, cs = c1 ++ c2 ∧ RepC w I a x.1 c1 ∧ RepC w I b x.2 c2
  | .unit, _, cs => cs = []
  | .alt u a r, x, cs => match (show a.den ⊕ r.den from x) with
    | .inl y => r.size = 1 ∧ ∃ c, cs = [.iface u (ofCells a c)] ∧ RepC w I a y c
    | .inr z => RepC w I r z cs
  | .noi, _, cs => cs = [.nilIface]

theorem RepC.length {w : World} {I : Nat → Nat → Prop} : ∀ {t : Ty} {x : t.den} {cs : List Value}, RepC w I t x cs → cs.length = t.size := by
  intro t
  induction t with
  | int k => intro x cs h; rw [h.1]; rfl
  | bool => intro x cs h; rw [h]; rfl
  | str => intro x cs h; rw [h.1]; rfl
  | slice e ih => intro x cs h; rcases h with ⟨⟨_, h⟩, _⟩ | ⟨_, _, _, h, _⟩ <;> rw [h] <;> rfl
  | arr n e ih => intro x cs h; exact h.2.1
  | pair a b iha ihb => intro x cs h; obtain ⟨c1, c2, rfl, h1, h2⟩ := h; rw [List.length_append, iha h1, ihb h2]; rfl
  | unit => intro x cs h; rw [h]; rfl
  | alt u a r iha ihr =>
    intro x cs h
    rcases x with y | z
    · obtain ⟨h1, c, rfl, _⟩ := h
      exact h1.symm
    · exact ihr (show RepC w I r z cs from h)
  | noi => intro x cs h; rw [show cs = _ from h]; rfl

/-- What is kept of a world: the cells that never change. -/
theorem RepC.mono {w w' : World} {I I' : Nat → Nat → Prop} (hI : ∀ b o, I b o → I' b o) (hw : ∀ b o, I b o → w'.cell? ⟨b, o, none⟩ = w.cell? ⟨b, o, none⟩) :
    ∀ {t : Ty} {x : t.den} {cs : List Value}, RepC w I t x cs → RepC w' I' t x cs := by
  intro t
  induction t with
  | int k => intro x cs h; exact h
  | bool => intro x cs h; exact h
  | str => intro x cs h; exact h
  | slice e ih =>
    intro x cs h
    rcases h with h | ⟨blk, off, cap, h1, h2, h3, h4⟩
    · exact .inl h
    · refine .inr ⟨blk, off, cap, h1, h2, h3, fun i y hy => ?_⟩
      obtain ⟨es, he, hc, hr⟩ := h4 i y hy
      exact ⟨es, he, fun j v hv => by obtain ⟨a, b⟩ := hc j v hv; exact ⟨by rw [hw _ _ b]; exact a, hI _ _ b⟩, ih hr⟩
  | arr n e ih => intro x cs h; exact ⟨h.1, h.2.1, fun i y hy => ih (h.2.2 i y hy)⟩
  | pair a b iha ihb => intro x cs h; obtain ⟨c1, c2, h0, h1, h2⟩ := h; exact ⟨c1, c2, h0, iha h1, ihb h2⟩
  | unit => intro x cs h; exact h
  | alt u a r iha ihr =>
    intro x cs h
    rcases x with y | z
    · obtain ⟨h1, c, h2, h3⟩ := h
      exact ⟨h1, c, h2, iha h3⟩
    · exact ihr (show RepC w I r z cs from h)
  | noi => intro x cs h; exact h

/-- Every cell of data is the value of one cell. -/
theorem RepC.one {w : World} {I : Nat → Nat → Prop} : ∀ {t : Ty} {x : t.den} {cs : List Value}, RepC w I t x cs → ∀ v ∈ cs, v.oneCell' = true := by
  intro t
  induction t with
  | int k => intro x cs h v hv; rw [h.1] at hv; simp at hv; subst hv; rfl
  | bool => intro x cs h v hv; rw [h] at hv; simp at hv; subst hv; rfl
  | str => intro x cs h v hv; rw [h.1] at hv; simp at hv; subst hv; rfl
  | slice e ih => intro x cs h v hv; rcases h with ⟨⟨_, h⟩, _⟩ | ⟨_, _, _, h, _⟩ <;> rw [h] at hv <;> simp at hv <;> subst hv <;> rfl
  | arr n e ih =>
    intro x cs h v hv
    obtain ⟨h1, h2, h3⟩ := h
    obtain ⟨k, hk, hkv⟩ := List.getElem_of_mem hv
    have he : 0 < e.size := by
      rcases Nat.eq_zero_or_pos e.size with h0 | h0
      · rw [h0, Nat.mul_zero] at h2; omega
      · exact h0
    have hdiv : k / e.size < n := by rw [Nat.div_lt_iff_lt_mul he]; omega
    have hx : ∃ y, (show List e.den from x)[k / e.size]? = some y := ⟨_, List.getElem?_eq_getElem (by rw [h1]; exact hdiv)⟩
    obtain ⟨y, hy⟩ := hx
    refine ih (h3 _ y hy) v ?_
    have hm := Nat.mod_lt k he
    have hkk : k / e.size * e.size + k % e.size = k := by rw [Nat.mul_comm]; exact Nat.div_add_mod k e.size
    have : ((cs.drop (k / e.size * e.size)).take e.size)[k % e.size]? = some v := by
      rw [List.getElem?_take, if_pos hm, List.getElem?_drop, hkk, List.getElem?_eq_getElem hk, hkv]
    exact List.mem_of_getElem? this
  | pair a b iha ihb =>
    intro x cs h v hv
    obtain ⟨c1, c2, rfl, h1, h2⟩ := h
    rcases List.mem_append.1 hv with hv | hv
    · exact iha h1 v hv
    · exact ihb h2 v hv
  | unit => intro x cs h v hv; rw [h] at hv; cases hv
  | alt u a r iha ihr =>
    intro x cs h v hv
    rcases x with y | z
    · obtain ⟨h1, c, rfl, h3⟩ := h
      simp at hv; subst hv; rfl
    · exact ihr (show RepC w I r z cs from h) v hv
  | noi => intro x cs h v hv; rw [show cs = _ from h] at hv; simp at hv; subst hv; rfl

theorem ofCells_cells {w : World} {I : Nat → Nat → Prop} : ∀ {t : Ty} {x : t.den} {cs : List Value}, RepC w I t x cs → (ofCells t cs).cells.toList = cs := by
  intro t
  induction t with
  | int k => intro x cs h; unfold ofCells; rw [h.1]; rfl
  | bool => intro x cs h; unfold ofCells; rw [h]; rfl
  | str => intro x cs h; unfold ofCells; rw [h.1]; rfl
  | slice e => intro x cs h; unfold ofCells; rcases h with ⟨⟨_, h⟩, _⟩ | ⟨_, _, _, h, _⟩ <;> rw [h] <;> rfl
  | arr n e => intro x cs h; rfl
  | pair a b => intro x cs h; rfl
  | unit => intro x cs h; rfl
  | alt u a r iha ihr =>
    intro x cs h
    rcases x with y | z
    · obtain ⟨h1, c, rfl, h3⟩ := h
      unfold ofCells Ty.isAgg
      cases r.isAgg <;> rfl
    · exact ihr (show RepC w I r z cs from h)
  | noi => intro x cs h; unfold ofCells; rw [show cs = _ from h]; rfl

inductive Mode where
  | cells | val | many

/-- Where a slice begins: nowhere, or at a plain address. -/
def FormBase (base : Option Addr) (cap : Nat) : Prop := cap = 0 ∨ ∃ blk off, base = some ⟨blk, off, none⟩

/-- The offset that a path leads to. -/
def offP : List Sel → Nat
  | [] => 0
  | .fld _ off :: p => off + offP p
  | .idx i size :: p => i.toNat * size + offP p

theorem offP_append (p q : List Sel) : offP (p ++ q) = offP p + offP q := by
  induction p with
  | nil => simp [offP]
  | cons s p ih => cases s <;> simp [offP, ih] <;> omega

section
variable (γ : Gh) (mem : Nat → Option Box) (w : World)

/-- What begins where a buffer begins is the buffer's own slice, cut off somewhere. -/
def ZeroP (bx : Box) (b : Nat) (lo : Int) (base : Option Addr) (cap : Nat) : Prop := lo = 0 → bx.buf = true → (γ.loc b = none ∧ base = none ∧ cap = 0) ∨ ∃ blk, γ.loc b = some (blk, cap) ∧ base = some ⟨blk, 0, none⟩

def CellsAt (I : Nat → Nat → Prop) (blk off : Nat) (cs : List Value) : Prop := ∀ (j : Nat) v, cs[j]? = some v → w.cell? ⟨blk, off + j, none⟩ = some v ∧ I blk (off + j)

/-- A reference to a box: it must be there; if the reference is not stale, more is known. -/
def OfBox (b ver : Nat) (K : Box → Prop) : Prop := ∃ bx, mem b = some bx ∧ ver ≤ bx.ver ∧ (bx.ver = ver → K bx)

def Rep : Val → Mode → List Value → Prop
  | .undef, .val, vs => ∃ v, vs = [v]
  | .undef, .cells, vs => ∃ v, vs = [v] ∧ v.oneCell' = true
  | .undef, .many, _ => False
  | .data t x, .cells, vs => RepC w γ.I t x vs
  | .data t x, .val, vs => ∃ cs, RepC w γ.I t x cs ∧ vs = [ofCells t cs]
  | .data _ _, .many, _ => False
  | .mix a b, .cells, vs => ∃ c1 c2, vs = c1 ++ c2 ∧ Rep a .cells c1 ∧ Rep b .cells c2
  | .mix a b, .val, vs => ∃ c1 c2, vs = [.agg (c1 ++ c2).toArray] ∧ Rep a .cells c1 ∧ Rep b .cells c2
  | .mix a b, .many, vs => ∃ v r, vs = v :: r ∧ Rep a .val [v] ∧ Rep b .many r
  | .nl, .many, vs => vs = []
  | .nl, _, _ => False
  | .tup u, .val, vs => ∃ arr : Array Value, vs = [.tuple arr] ∧ Rep u .many arr.toList
  | .tup _, _, _ => False
  | .nilp, .many, _ => False
  | .nilp, _, vs => vs = [.pointer none]
  | .nili, .many, _ => False
  | .nili, _, vs => vs = [.nilIface]
  | .selfp _ _, .many, _ => False
  | .selfp b ver, _, vs => (∃ v, vs = [v] ∧ v.oneCell' = true) ∧ OfBox mem b ver fun _ => ∃ blk cap, γ.loc b = some (blk, cap) ∧ (vs = [.pointer none] ∨ vs = [.pointer (some ⟨blk, 0, none⟩)])
  | .nilm, .many, _ => False
  | .nilm, _, vs => vs = [.map none]
  | .nils, .many, _ => False
  | .nils, _, vs => vs = [.slice none 0 0]
  | .cell _ _, .many, _ => False
  | .cell t x, _, vs => ∃ blk off cs, vs = [.pointer (some ⟨blk, off, none⟩)] ∧ RepC w γ.I t x cs ∧ CellsAt w γ.I blk off cs
  | .ptr _ _ _, .many, _ => False
  | .ptr b ver p, _, vs => (∃ v, vs = [v] ∧ v.oneCell' = true) ∧ OfBox mem b ver fun _ => ∃ blk cap, γ.loc b = some (blk, cap) ∧ vs = [.pointer (some ⟨blk, offP p, none⟩)]
  | .whole _ _, .many, _ => False
  | .whole b ver, _, vs => (∃ v, vs = [v] ∧ v.oneCell' = true) ∧ OfBox mem b ver fun bx => ∃ e n, bx.buf = true ∧ bx.row = some (e, n) ∧
      ((γ.loc b = none ∧ vs = [.slice none 0 0]) ∨ ∃ blk cap, γ.loc b = some (blk, cap) ∧ vs = [.slice (some ⟨blk, 0, none⟩) n cap])
  | .mref _ _, .many, _ => False
  | .mref b ver, _, vs => (∃ v, vs = [v] ∧ v.oneCell' = true) ∧ OfBox mem b ver fun bx => bx.buf = true ∧ ((γ.loc b = none ∧ vs = [.map none]) ∨ ∃ blk cap, γ.loc b = some (blk, cap) ∧ vs = [.map (some blk)])
  | .mapv _, _, _ => False
  | .part _ _ _ _, .many, _ => False
  | .part b ver lo n, _, vs => (∃ v, vs = [v] ∧ v.oneCell' = true) ∧ OfBox mem b ver fun bx => ∃ e k, bx.row = some (e, k) ∧ 0 ≤ lo ∧ 0 ≤ n ∧ lo + n ≤ k ∧
      ∃ base cap, vs = [.slice base n.toNat cap] ∧ n.toNat ≤ cap ∧ cap ≤ maxLen ∧ (FormBase base cap ∧ ZeroP γ bx b lo base cap) ∧ (n = 0 ∨ ∃ blk c, γ.loc b = some (blk, c) ∧ base = some ⟨blk, lo.toNat * e.size, none⟩)
  | .win _ _ _ _ _ _ _, .many, _ => False
  | .win b ver q e k lo n, _, vs => (∃ v, vs = [v] ∧ v.oneCell' = true) ∧ OfBox mem b ver fun _ => q ≠ [] ∧ ∃ blk c, γ.loc b = some (blk, c) ∧ 0 ≤ lo ∧ 0 ≤ n ∧ lo + n ≤ k ∧
      ∃ base cap, vs = [.slice base n.toNat cap] ∧ n.toNat ≤ cap ∧ (n = 0 ∨ base = some ⟨blk, offP q + lo.toNat * e.size, none⟩)
  | .fn _ _, .many, _ => False
  | .fn f caps, _, vs => ∃ arr : Array Value, vs = [fnVal f arr] ∧ arr.size = caps.length ∧
      ∀ (i : Nat) b ver, caps[i]? = some (b, ver) → OfBox mem b ver fun _ => ∃ blk cap, γ.loc b = some (blk, cap) ∧ arr[i]? = some (.pointer (some ⟨blk, 0, none⟩))

/-- No cell of a row is frozen. -/
def Thawed (cur : Array Value) (fr : Nat × Nat) : Prop := ∀ off, off < cur.size → ¬ (fr.1 ≤ off ∧ off < fr.2)

def Ty.isInt : Ty → Bool
  | .int _ => true
  | _ => false

/-- The same of a buffer; but bytes it is not marked as a text's, either. -/
structure ThB (e : Ty) (cur : Array Value) (fr : Nat × Nat) : Prop where
  th : Thawed cur fr
  um : e.isInt = false → ¬ (fr.1 ≤ cur.size ∧ cur.size < fr.2)

/-- What a map's object has, in the order of its keys. -/
def mapD (l : List (Int × Int × Unit)) : DataW Unit := .map (l.map fun p => (.int .i64 p.1, .lit (.int .i64 p.2.1)))
def MapIs (o : Obj) (l : List (Int × Int × Unit)) : Prop := ∃ (P : Program) (k : TypeId) (es : Array MapEntry) (clock : Nat), P.underlying k = some (.int .i64) ∧ o = .map es clock ∧
  WideElems.Fit (H := Unit) P k (plainElem P k) es clock ∧ mapD l = .map ((es.toList.map (WideElems.rg P k (plainElem P k))).foldr DataW.insert [])

def MapAt (b : Nat) (bx : Box) : Prop := ∃ l, bx.val = .mapv l ∧ ((γ.loc b = none ∧ l = []) ∨ ∃ blk cap o, γ.loc b = some (blk, cap) ∧ w.heap[blk]? = some o ∧ MapIs o l)
def ListAt (b : Nat) (bx : Box) : Prop := ∃ (e : Ty) (l : List e.den), bx.val = .data (.slice e) l ∧ 0 < e.size ∧
      ((γ.loc b = none ∧ l = []) ∨ ∃ blk cap cur tid fr, γ.loc b = some (blk, cap) ∧ w.heap[blk]? = some (.cells cur tid fr) ∧ ThB e cur fr ∧ (bx.tid = 0 ∨ tid = bx.tid) ∧ l.length ≤ cap ∧ cap ≤ maxLen ∧
        cur.size = cap * e.size ∧ ∀ (i : Nat) (x : e.den), l[i]? = some x → RepC w γ.I e x ((cur.toList.drop (i * e.size)).take e.size))

def BoxAt (b : Nat) (bx : Box) : Prop :=
  match bx.buf with
  | true => MapAt γ w b bx ∨ ListAt γ w b bx
  | false => ∃ blk cap cur tid fr, γ.loc b = some (blk, cap) ∧ w.heap[blk]? = some (.cells cur tid fr) ∧ Thawed cur fr ∧ (bx.tid = 0 ∨ tid = bx.tid) ∧ Rep γ mem w bx.val .cells cur.toList
end

theorem BoxAt.lst {γ : Gh} {mem : Nat → Option Box} {w : World} {b : Nat} {bx : Box} (h : BoxAt γ mem w b bx) (hb : bx.buf = true) (hm : ∀ l, bx.val ≠ .mapv l) : ListAt γ w b bx := by
  unfold BoxAt at h
  rw [hb] at h
  rcases h with ⟨l, h, _⟩ | h
  · exact absurd h (hm l)
  · exact h
/-- How much of a box's block never changes, if the box may not be written to any more. -/
def roSpan (bx : Box) : Nat → Prop := fun off => bx.ro = true ∧ (bx.buf = true → ∀ e n, bx.row = some (e, n) → off < n * e.size)

/-- What is told of blocks that are nobody's own, wherever a call begins: tables and the like. -/
abbrev Globs := Nat → (Obj → Prop) → Prop
def noGlobs : Globs := fun _ _ => False
/-- These blocks are what is told of them. -/
def GlobOk (G : Globs) (w : World) : Prop := ∀ b Q, G b Q → ∃ o, w.heap[b]? = some o ∧ Q o

/-- Which blocks are a call's own: those from a number on, and those that were handed to it. -/
structure Own where
  lo : Nat
  X : Nat → Prop
  G : Globs

def Own.has (B : Own) (k : Nat) : Prop := B.lo ≤ k ∨ B.X k
def ownFrom (G : Globs) (n : Nat) : Own := ⟨n, fun _ => False, G⟩

theorem own_from {G : Globs} {n k : Nat} : (ownFrom G n).has k ↔ n ≤ k := ⟨fun h => h.elim id False.elim, .inl⟩

/-- Nothing but what is one's own has changed. -/
structure Blw (B : Own) (w w' : World) : Prop where
  os : w'.os = w.os
  tape : w'.tape = w.tape
  output : w'.output = w.output
  size : w.heap.size ≤ w'.heap.size
  block : ∀ k, ¬ B.has k → w'.heap[k]? = w.heap[k]?

theorem Blw.refl (B : Own) (w : World) : Blw B w w := ⟨rfl, rfl, rfl, Nat.le_refl _, fun _ _ => rfl⟩
theorem Blw.trans {B : Own} {a b c : World} (h : Blw B a b) (k : Blw B b c) : Blw B a c :=
  ⟨k.os.trans h.os, k.tape.trans h.tape, k.output.trans h.output, Nat.le_trans h.size k.size, fun i hi => (k.block i hi).trans (h.block i hi)⟩
theorem Blw.of {B : Own} {w w' : World} (h : RowKit.Below B.lo w w') : Blw B w w' := ⟨h.os, h.tape, h.output, h.size, fun k hk => h.block k (Nat.lt_of_not_le fun q => hk (.inl q))⟩
theorem Blw.below {G : Globs} {n : Nat} {w w' : World} (h : Blw (ownFrom G n) w w') : RowKit.Below n w w' := ⟨h.os, h.tape, h.output, h.size, fun k hk => h.block k fun q => by have := own_from.1 q; omega⟩
theorem Blw.drew {B : Own} {a w : World} (h : Blw B a w) : Blw B a w.drew := ⟨h.os, h.tape, h.output, h.size, h.block⟩
theorem Blw.alloc {B : Own} {a w : World} (h : Blw B a w) (hB : B.lo ≤ w.heap.size) (o : Obj) : Blw B a (w.alloc o) := h.trans (.of ((RowKit.Below.refl _ _).alloc hB o))

/-- The boxes lie apart in blocks of the call's own, hold what they are to hold, and what never changes lies elsewhere. -/
structure MemOk (B : Own) (γ : Gh) (mem : Nat → Option Box) (w : World) : Prop where
  base : B.lo ≤ w.heap.size
  boxes : ∀ b bx, mem b = some bx → BoxAt γ mem w b bx
  inj : ∀ b c blk k k', mem b ≠ none → mem c ≠ none → γ.loc b = some (blk, k) → γ.loc c = some (blk, k') → b = c
  fresh : ∀ b blk k, mem b ≠ none → γ.loc b = some (blk, k) → B.has blk ∧ blk < w.heap.size
  imm : ∀ blk off, γ.I blk off → blk < w.heap.size
  sep : ∀ b bx blk k off, mem b = some bx → γ.loc b = some (blk, k) → γ.I blk off → roSpan bx off
  glob : ∀ b Q, B.G b Q → ¬ B.has b ∧ ∃ o, w.heap[b]? = some o ∧ Q o

structure Sim (B : Own) (N : Nat) (γ : Gh) (σ : St) (a : Act) (w : World) : Prop where
  slots : ∀ t, Rep γ σ.mem w (σ.slots t) .val [a.tmps.getD t undef]
  size : a.tmps.size = N
  defers : a.defers = []
  ok : MemOk B γ σ.mem w

/-- What goes on from one state to a later one. -/
structure Ext (B : Own) (γ : Gh) (mem : Nat → Option Box) (w : World) (γ' : Gh) (mem' : Nat → Option Box) (w' : World) : Prop where
  below : Blw B w w'
  I : ∀ b o, γ.I b o → γ'.I b o
  anew : ∀ b o, γ'.I b o → γ.I b o ∨ B.has b
  cells : ∀ b o, γ.I b o → w'.cell? ⟨b, o, none⟩ = w.cell? ⟨b, o, none⟩
  boxes : ∀ b bx, mem b = some bx → ∃ bx', mem' b = some bx' ∧ bx.ver ≤ bx'.ver ∧ (bx'.ver = bx.ver → γ'.loc b = γ.loc b ∧ bx'.buf = bx.buf ∧ bx'.row = bx.row)

theorem MemOk.globE {B : Own} {γ γ' : Gh} {mem mem' : Nat → Option Box} {w w' : World} (h : MemOk B γ mem w) (x : Ext B γ mem w γ' mem' w') : ∀ b Q, B.G b Q → ¬ B.has b ∧ ∃ o, w'.heap[b]? = some o ∧ Q o := fun b Q g => by
  obtain ⟨i, o, c, q⟩ := h.glob b Q g
  exact ⟨i, o, (x.below.block b i).trans c, q⟩
theorem MemOk.globOk {B : Own} {γ : Gh} {mem : Nat → Option Box} {w : World} (h : MemOk B γ mem w) : GlobOk B.G w := fun b Q g => (h.glob b Q g).2

theorem Ext.refl (B : Own) (γ : Gh) (mem : Nat → Option Box) (w : World) : Ext B γ mem w γ mem w :=
  ⟨Blw.refl _ _, fun _ _ h => h, fun _ _ h => .inl h, fun _ _ _ => rfl, fun b bx h => ⟨bx, h, Nat.le_refl _, fun _ => ⟨rfl, rfl, rfl⟩⟩⟩

theorem Ext.trans {B : Own} {γ γ' γ'' : Gh} {mem mem' mem'' : Nat → Option Box} {w w' w'' : World} (h : Ext B γ mem w γ' mem' w') (k : Ext B γ' mem' w' γ'' mem'' w'') :
    Ext B γ mem w γ'' mem'' w'' where
  below := h.below.trans k.below
  I := fun b o x => k.I _ _ (h.I _ _ x)
  anew := fun b o x => by
    rcases k.anew b o x with y | y
    · exact h.anew b o y
    · exact .inr y
  cells := fun b o x => (k.cells _ _ (h.I _ _ x)).trans (h.cells _ _ x)
  boxes := fun b bx x => by
    obtain ⟨bx', h1, h2, h3⟩ := h.boxes b bx x
    obtain ⟨bx'', k1, k2, k3⟩ := k.boxes b bx' h1
    refine ⟨bx'', k1, Nat.le_trans h2 k2, fun e => ?_⟩
    have e1 : bx'.ver = bx.ver := by omega
    have e2 : bx''.ver = bx'.ver := by omega
    obtain ⟨a1, a2, a3⟩ := h3 e1
    obtain ⟨b1, b2, b3⟩ := k3 e2
    exact ⟨b1.trans a1, b2.trans a2, b3.trans a3⟩

theorem OfBox.ext {B : Own} {γ γ' : Gh} {mem mem' : Nat → Option Box} {w w' : World} (h : Ext B γ mem w γ' mem' w') {b ver : Nat} {K K' : Box → Prop} (ho : OfBox mem b ver K)
    (hk : ∀ bx bx', mem b = some bx → mem' b = some bx' → γ'.loc b = γ.loc b → bx'.buf = bx.buf → bx'.row = bx.row → K bx → K' bx') : OfBox mem' b ver K' := by
  obtain ⟨bx, h1, h2, h3⟩ := ho
  obtain ⟨bx', k1, k2, k3⟩ := h.boxes b bx h1
  refine ⟨bx', k1, Nat.le_trans h2 k2, fun e => ?_⟩
  have e1 : bx.ver = ver := by omega
  obtain ⟨a1, a2, a3⟩ := k3 (by omega)
  exact hk bx bx' h1 k1 a1 a2 a3 (h3 e1)

theorem CellsAt.ext {w w' : World} {I I' : Nat → Nat → Prop} (hI : ∀ b o, I b o → I' b o) (hw : ∀ b o, I b o → w'.cell? ⟨b, o, none⟩ = w.cell? ⟨b, o, none⟩) {blk off : Nat} {cs : List Value}
    (h : CellsAt w I blk off cs) : CellsAt w' I' blk off cs :=
  fun j v hv => by obtain ⟨a, b⟩ := h j v hv; exact ⟨by rw [hw _ _ b]; exact a, hI _ _ b⟩

theorem Rep.ext {B : Own} {γ γ' : Gh} {mem mem' : Nat → Option Box} {w w' : World} (h : Ext B γ mem w γ' mem' w') : ∀ {v : Val} {m : Mode} {vs : List Value}, Rep γ mem w v m vs → Rep γ' mem' w' v m vs := by
  intro v
  induction v with
  | undef => intro m vs r; cases m <;> exact r
  | data t x =>
    intro m vs r
    cases m with
    | cells => exact RepC.mono h.I h.cells r
    | val => obtain ⟨cs, r1, r2⟩ := r; exact ⟨cs, RepC.mono h.I h.cells r1, r2⟩
    | many => exact r
  | nils => intro m vs r; cases m <;> exact r
  | nilm => intro m vs r; cases m <;> exact r
  | nilp => intro m vs r; cases m <;> exact r
  | nili => intro m vs r; cases m <;> exact r
  | selfp b ver =>
    intro m vs r
    cases m with
    | many => exact r
    | cells => exact ⟨r.1, r.2.ext h fun bx bx' _ _ hl _ _ k => by rw [hl]; exact k⟩
    | val => exact ⟨r.1, r.2.ext h fun bx bx' _ _ hl _ _ k => by rw [hl]; exact k⟩
  | cell t x =>
    intro m vs r
    cases m with
    | many => exact r
    | cells => obtain ⟨blk, off, cs, r1, r2, r3⟩ := r; exact ⟨blk, off, cs, r1, RepC.mono h.I h.cells r2, r3.ext h.I h.cells⟩
    | val => obtain ⟨blk, off, cs, r1, r2, r3⟩ := r; exact ⟨blk, off, cs, r1, RepC.mono h.I h.cells r2, r3.ext h.I h.cells⟩
  | ptr b ver p =>
    intro m vs r
    cases m with
    | many => exact r
    | cells => exact ⟨r.1, r.2.ext h fun bx bx' _ _ hl _ _ k => by rw [hl]; exact k⟩
    | val => exact ⟨r.1, r.2.ext h fun bx bx' _ _ hl _ _ k => by rw [hl]; exact k⟩
  | whole b ver =>
    intro m vs r
    cases m with
    | many => exact r
    | cells => exact ⟨r.1, r.2.ext h fun bx bx' _ _ hl hb hr k => by rw [hl, hb, hr]; exact k⟩
    | val => exact ⟨r.1, r.2.ext h fun bx bx' _ _ hl hb hr k => by rw [hl, hb, hr]; exact k⟩
  | mref b ver =>
    intro m vs r
    cases m with
    | many => exact r
    | cells => exact ⟨r.1, r.2.ext h fun bx bx' _ _ hl hb hr k => by rw [hl, hb]; exact k⟩
    | val => exact ⟨r.1, r.2.ext h fun bx bx' _ _ hl hb hr k => by rw [hl, hb]; exact k⟩
  | mapv l => intro m vs r; cases m <;> exact r
  | part b ver lo n =>
    intro m vs r
    cases m with
    | many => exact r
    | cells => exact ⟨r.1, r.2.ext h fun bx bx' _ _ hl hb hr k => by unfold ZeroP at k ⊢; rw [hl, hb, hr]; exact k⟩
    | val => exact ⟨r.1, r.2.ext h fun bx bx' _ _ hl hb hr k => by unfold ZeroP at k ⊢; rw [hl, hb, hr]; exact k⟩
  | win b ver q e k lo n =>
    intro m vs r
    cases m with
    | many => exact r
    | cells => exact ⟨r.1, r.2.ext h fun bx bx' _ _ hl _ _ k => by rw [hl]; exact k⟩
    | val => exact ⟨r.1, r.2.ext h fun bx bx' _ _ hl _ _ k => by rw [hl]; exact k⟩
  | fn f caps =>
    intro m vs r
    cases m with
    | many => exact r
    | cells => obtain ⟨arr, r1, r2, r3⟩ := r; exact ⟨arr, r1, r2, fun i b ver hc => (r3 i b ver hc).ext h fun bx bx' _ _ hl _ _ k => by rw [hl]; exact k⟩
    | val => obtain ⟨arr, r1, r2, r3⟩ := r; exact ⟨arr, r1, r2, fun i b ver hc => (r3 i b ver hc).ext h fun bx bx' _ _ hl _ _ k => by rw [hl]; exact k⟩
  | mix a b iha ihb =>
    intro m vs r
    cases m with
    | cells => obtain ⟨c1, c2, r0, r1, r2⟩ := r; exact ⟨c1, c2, r0, iha r1, ihb r2⟩
    | val => obtain ⟨c1, c2, r0, r1, r2⟩ := r; exact ⟨c1, c2, r0, iha r1, ihb r2⟩
    | many => obtain ⟨c1, c2, r0, r1, r2⟩ := r; exact ⟨c1, c2, r0, iha r1, ihb r2⟩
  | tup u ih =>
    intro m vs r
    cases m with
    | val => obtain ⟨arr, r1, r2⟩ := r; exact ⟨arr, r1, ih r2⟩
    | cells => exact r
    | many => exact r
  | nl => intro m vs r; cases m <;> exact r

end Go.Ge
namespace Go.Ge
set_option linter.unusedVariables false

/-! ### Types -/

/-- The cells of a type's zero value. -/
def zcells : Ty → List Value
  | .int k => [.int k 0]
  | .bool => [.bool false]
  | .str => [.string ⟨#[]⟩]
  | .slice _ => [.slice none 0 0]
  | .arr n e => (List.replicate n (zcells e)).flatten
  | .pair a b => zcells a ++ zcells b
  | .unit => []
  | .alt _ _ r => zcells r
  | .noi => [.nilIface]

theorem length_zcells (t : Ty) : (zcells t).length = t.size := by
  induction t with
  | arr n e ih => simp [zcells, Ty.size, ih]
  | pair a b iha ihb => simp [zcells, Ty.size, iha, ihb]
  | alt u a r iha ihr => exact ihr
  | _ => rfl

theorem take_drop_flatten_replicate {α : Type} (l : List α) : ∀ (n i : Nat), i < n → ((List.replicate n l).flatten.drop (i * l.length)).take l.length = l
  | 0, i, h => absurd h (by omega)
  | n + 1, 0, _ => by simp [List.replicate_succ]
  | n + 1, i + 1, h => by
    rw [List.replicate_succ, List.flatten_cons, Nat.succ_mul, Nat.add_comm, ← List.drop_drop, List.drop_left]
    exact take_drop_flatten_replicate l n i (by omega)

theorem repC_zero (w : World) (I : Nat → Nat → Prop) : ∀ t : Ty, RepC w I t t.zero (zcells t) := by
  intro t
  induction t with
  | int k => exact ⟨rfl, by cases k <;> decide, by cases k <;> decide⟩
  | bool => rfl
  | str => exact ⟨rfl, Nat.zero_le _⟩
  | slice e ih => exact .inl ⟨⟨none, rfl⟩, rfl⟩
  | arr n e ih =>
    refine ⟨List.length_replicate, by rw [length_zcells]; rfl, fun i x hx => ?_⟩
    have hx' : (List.replicate n e.zero)[i]? = some x := hx
    rw [List.getElem?_replicate] at hx'
    split at hx'
    · rename_i hi
      obtain rfl : e.zero = x := by simpa using hx'
      have := take_drop_flatten_replicate (zcells e) n i hi
      rw [length_zcells] at this
      show RepC w I e e.zero (((List.replicate n (zcells e)).flatten.drop (i * e.size)).take e.size)
      rw [this]; exact ih
    · cases hx'
  | pair a b iha ihb => exact ⟨_, _, rfl, iha, ihb⟩
  | unit => rfl
  | alt u a r iha ihr => exact ihr
  | noi => rfl

def cellBeq : Value → Value → Bool
  | .int k n, .int k' m => Nat.beq (kcode k) (kcode k') && decide (n = m)
  | .bool a, .bool b => a == b
  | .string a, .string b => decide (a.data.toList = b.data.toList)
  | .slice none 0 0, .slice none 0 0 => true
  | .pointer none, .pointer none => true
  | .map none, .map none => true
  | .nilIface, .nilIface => true
  | _, _ => false

theorem cellBeq_eq {a b : Value} (h : cellBeq a b = true) : a = b := by
  unfold cellBeq at h
  split at h
  · simp only [Bool.and_eq_true, decide_eq_true_eq] at h
    rw [kcode_inj h.1, h.2]
  · simpa using h
  · rename_i a b
    obtain ⟨⟨a⟩⟩ := a; obtain ⟨⟨b⟩⟩ := b
    have h' : a = b := by simpa using h
    rw [h']
  · rfl
  · rfl
  · rfl
  · rfl
  · cases h

def cellsBeq : List Value → List Value → Bool
  | [], [] => true
  | a :: r, b :: s => cellBeq a b && cellsBeq r s
  | _, _ => false

theorem cellsBeq_eq : ∀ {a b : List Value}, cellsBeq a b = true → a = b
  | [], [], _ => rfl
  | a :: r, b :: s, h => by simp only [cellsBeq, Bool.and_eq_true] at h; rw [cellBeq_eq h.1, cellsBeq_eq h.2]
  | [], _ :: _, h => by cases h
  | _ :: _, [], h => by cases h

/-- Is a type's row of the table what the type says? -/
def infoB (P : Program) (tid : TypeId) (size : Nat) (zc : List Value) : Bool :=
  match P.info? tid with
  | some i => Nat.beq i.size size && (match i.zero with | some z => cellsBeq z.cells.toList zc | none => false)
  | none => false

theorem infoB_some {P : Program} {tid : TypeId} {size : Nat} {zc : List Value} (h : infoB P tid size zc = true) :
    ∃ i z, P.info? tid = some i ∧ i.size = size ∧ i.zero = some z ∧ z.cells.toList = zc := by
  unfold infoB at h
  split at h
  · rename_i i hi
    simp only [Bool.and_eq_true] at h
    split at h
    · rename_i z hz
      exact ⟨i, z, hi, Nat.eq_of_beq_eq_true h.1, hz, cellsBeq_eq h.2⟩
    · cases h.2
  · cases h

def bytesB (P : Program) (tid : TypeId) : Bool :=
  match P.info? tid with
  | some i => Nat.ble i.bytes 32768
  | none => false

/-- Is it an interface's type? -/
def Ty.isIfc : Ty → Bool
  | .alt _ _ r => r.isIfc
  | .noi => true
  | _ => false

def denG (P : Program) : Ty → Bool → TypeId → Nat → List Field → Bool
  | .int k, false, tid, _, _ => (match P.underlying tid with | some (.int k') => Nat.beq (kcode k) (kcode k') | _ => false) && infoB P tid 1 [.int k 0]
  | .bool, false, tid, _, _ => (match P.underlying tid with | some .bool => true | _ => false) && infoB P tid 1 [.bool false]
  | .str, false, tid, _, _ => (match P.underlying tid with | some .string => true | _ => false) && infoB P tid 1 [.string ⟨#[]⟩]
  | .slice e, false, tid, _, _ => (match P.underlying tid with | some (.slice eid) => denG P e false eid 0 [] && bytesB P eid && Nat.blt 0 e.size | _ => false) && infoB P tid 1 [.slice none 0 0]
  | .arr n e, false, tid, _, _ => (match P.underlying tid with | some (.array m eid) => Nat.beq n m && denG P e false eid 0 [] && Nat.blt 0 e.size | _ => false) && infoB P tid (n * e.size) (zcells (.arr n e)) && !P.eqGuardType P.depth tid
  | .pair a b, false, tid, _, _ => (match P.underlying tid with
      | some (.struct fs) => (match fs.toList with
        | f :: r => Nat.beq f.offset 0 && decide (f.name ≠ "_") && denG P a false f.type 0 [] && Nat.blt 0 a.size && denG P b true 0 a.size r
        | [] => false)
      | _ => false) && infoB P tid (a.size + b.size) (zcells (.pair a b)) && !P.eqGuardType P.depth tid && !P.stoodInHeld tid
  | .unit, false, tid, _, _ => false
  | .alt u _ r, false, tid, _, _ => denG P r false tid 0 [] && P.concrete u && r.isIfc
  | .noi, false, tid, _, _ => (match P.underlying tid with | some (.interface _) => true | _ => false) && infoB P tid 1 [.nilIface]
  | .pair a b, true, _, off, f :: r => Nat.beq f.offset off && decide (f.name ≠ "_") && denG P a false f.type 0 [] && Nat.blt 0 a.size && denG P b true 0 (off + a.size) r
  | .unit, true, _, _, [] => true
  | _, _, _, _, _ => false

/-- A type of the program is one of plain data. -/
def Den (P : Program) (t : Ty) (tid : TypeId) : Prop := denG P t false tid 0 [] = true
/-- The fields from an offset on. -/
def DenF (P : Program) (t : Ty) (off : Nat) (fs : List Field) : Prop := denG P t true 0 off fs = true

section
variable {P : Program} {tid : TypeId}

theorem Den.int {k : IntKind} (h : Den P (.int k) tid) : P.underlying tid = some (.int k) := by
  simp only [Den, denG, Bool.and_eq_true] at h
  have h1 := h.1
  split at h1
  · rename_i k' hk; rw [hk, kcode_inj h1]
  · cases h1
theorem Den.bool (h : Den P .bool tid) : P.underlying tid = some .bool := by
  simp only [Den, denG, Bool.and_eq_true] at h
  have h1 := h.1
  split at h1
  · rename_i hk; rw [hk]
  · cases h1
theorem Den.str (h : Den P .str tid) : P.underlying tid = some .string := by
  simp only [Den, denG, Bool.and_eq_true] at h
  have h1 := h.1
  split at h1
  · rename_i hk; rw [hk]
  · cases h1
theorem Den.slice {e : Ty} (h : Den P (.slice e) tid) : ∃ eid, P.underlying tid = some (.slice eid) ∧ Den P e eid ∧ bytesB P eid = true ∧ 0 < e.size := by
  simp only [Den, denG, Bool.and_eq_true] at h
  have h1 := h.1
  split at h1
  · rename_i eid hk
    simp only [Bool.and_eq_true] at h1
    exact ⟨eid, hk, h1.1.1, h1.1.2, by simpa using h1.2⟩
  · cases h1
theorem Den.arr {n : Nat} {e : Ty} (h : Den P (.arr n e) tid) : ∃ eid, P.underlying tid = some (.array n eid) ∧ Den P e eid ∧ 0 < e.size := by
  simp only [Den, denG, Bool.and_eq_true] at h
  have h1 := h.1.1
  split at h1
  · rename_i m eid hk
    simp only [Bool.and_eq_true] at h1
    rw [Nat.eq_of_beq_eq_true h1.1.1]
    exact ⟨eid, hk, h1.1.2, by simpa using h1.2⟩
  · cases h1
theorem Den.arrEq {n : Nat} {e : Ty} (h : Den P (.arr n e) tid) : P.eqGuardType P.depth tid = false := by
  simp only [Den, denG, Bool.and_eq_true, Bool.not_eq_true'] at h
  exact h.2
theorem Den.pair {a b : Ty} (h : Den P (.pair a b) tid) : ∃ fs, P.underlying tid = some (.struct fs) ∧ DenF P (.pair a b) 0 fs.toList ∧ P.eqGuardType P.depth tid = false ∧ P.stoodInHeld tid = false := by
  simp only [Den, denG, Bool.and_eq_true] at h
  obtain ⟨⟨⟨h1, h2⟩, h3⟩, h4⟩ := h
  split at h1
  · rename_i fs hk
    refine ⟨fs, hk, ?_, by simpa using h3, by simpa using h4⟩
    split at h1
    · rename_i f r hr
      simp only [DenF, hr, denG, Nat.zero_add]
      exact h1
    · cases h1
  · cases h1

theorem Den.info {t : Ty} (h : Den P t tid) : ∃ i z, P.info? tid = some i ∧ i.size = t.size ∧ i.zero = some z ∧ z.cells.toList = zcells t := by
  induction t with
  | int k => simp only [Den, denG, Bool.and_eq_true] at h; exact infoB_some h.2
  | bool => simp only [Den, denG, Bool.and_eq_true] at h; exact infoB_some h.2
  | str => simp only [Den, denG, Bool.and_eq_true] at h; exact infoB_some h.2
  | slice e => simp only [Den, denG, Bool.and_eq_true] at h; exact infoB_some h.2
  | arr n e => simp only [Den, denG, Bool.and_eq_true] at h; exact infoB_some h.1.2
  | pair a b => simp only [Den, denG, Bool.and_eq_true] at h; exact infoB_some h.1.1.2
  | unit => simp [Den, denG] at h
  | alt u a r iha ihr => simp only [Den, denG, Bool.and_eq_true] at h; exact ihr h.1.1
  | noi => simp only [Den, denG, Bool.and_eq_true] at h; exact infoB_some h.2

theorem Den.noi (h : Den P .noi tid) : ∃ ms, P.underlying tid = some (.interface ms) := by
  simp only [Den, denG, Bool.and_eq_true] at h
  have h1 := h.1
  split at h1
  · exact ⟨_, by assumption⟩
  · cases h1
theorem Den.rest {u : Nat} {a r : Ty} (h : Den P (.alt u a r) tid) : Den P r tid ∧ P.concrete u = true := by
  simp only [Den, denG, Bool.and_eq_true] at h; exact h.1

theorem Ty.isIfc_size : ∀ {t : Ty}, t.isIfc = true → t.size = 1 ∧ t.isAgg = false := by
  intro t
  induction t with
  | alt u a r iha ihr => intro h; exact ihr h
  | noi => intro h; exact ⟨rfl, rfl⟩
  | _ => intro h; cases h
theorem Den.ifc_size {u : Nat} {a r : Ty} (_ : Den P r tid) (h : Den P (.alt u a r) tid) : r.size = 1 := by
  simp only [Den, denG, Bool.and_eq_true] at h; exact (Ty.isIfc_size h.2).1
theorem Den.agg {t : Ty} (h : Den P t tid) (w : World) : (isAgg tid).run P w = .ok t.isAgg w := by
  induction t with
  | alt u a r iha ihr => exact ihr h.rest.1
  | noi => obtain ⟨_, h1⟩ := h.noi; unfold Go.isAgg; simp [run_underlying h1, Ty.isAgg]
  | int k => unfold Go.isAgg; simp [run_underlying h.int, Ty.isAgg]
  | bool => unfold Go.isAgg; simp [run_underlying h.bool, Ty.isAgg]
  | str => unfold Go.isAgg; simp [run_underlying h.str, Ty.isAgg]
  | slice e ih => unfold Go.isAgg; obtain ⟨_, h1, _⟩ := h.slice; simp [run_underlying h1, Ty.isAgg]
  | arr n e ih => unfold Go.isAgg; obtain ⟨_, h1, _⟩ := h.arr; simp [run_underlying h1, Ty.isAgg]
  | pair a b iha ihb => unfold Go.isAgg; obtain ⟨_, h1, _⟩ := h.pair; simp [run_underlying h1, Ty.isAgg]
  | unit => simp [Den, denG] at h

theorem Den.sizeOf {t : Ty} (h : Den P t tid) (w : World) : (Go.sizeOf tid).run P w = .ok t.size w := by
  obtain ⟨i, z, h1, h2, _⟩ := h.info
  simp [Go.sizeOf, typeInfo, h1, h2]

theorem Den.zero {t : Ty} (h : Den P t tid) (w : World) : ∃ z, (zeroValue tid).run P w = .ok z w ∧ z.cells.toList = zcells t := by
  obtain ⟨i, z, h1, h2, h3, h4⟩ := h.info
  exact ⟨z, by simp [zeroValue, typeInfo, h1, h3], h4⟩

theorem Den.cells {t : Ty} (h : Den P t tid) : P.cellsOf tid = t.size := by
  obtain ⟨i, z, h1, h2, _⟩ := h.info
  simp [Program.cellsOf, h1, h2]

theorem DenF.cons {a b : Ty} {off : Nat} {fs : List Field} (h : DenF P (.pair a b) off fs) :
    ∃ f r, fs = f :: r ∧ f.offset = off ∧ f.name ≠ "_" ∧ Den P a f.type ∧ 0 < a.size ∧ DenF P b (off + a.size) r := by
  cases fs with
  | nil => simp [DenF, denG] at h
  | cons f r =>
    simp only [DenF, denG, Bool.and_eq_true] at h
    obtain ⟨⟨⟨⟨h1, h2⟩, h3⟩, h4⟩, h5⟩ := h
    exact ⟨f, r, rfl, Nat.eq_of_beq_eq_true h1, by simpa using h2, h3, by simpa using h4, h5⟩

/-- The field of a number. -/
theorem DenF.at {t : Ty} : ∀ {off : Nat} {fs : List Field} {k : Nat} {u : Ty} {o : Nat}, DenF P t off fs → fldTy t k = some u → fldOff t k = some o →
    ∃ f, fs[k]? = some f ∧ f.offset = off + o ∧ Den P u f.type ∧ 0 < u.size := by
  induction t with
  | pair a b iha ihb =>
    intro off fs k u o h hu ho
    obtain ⟨f, r, rfl, h1, h2, h3, h4, h5⟩ := h.cons
    cases k with
    | zero =>
      simp only [fldTy, fldOff, Option.some.injEq] at hu ho
      subst hu ho
      exact ⟨f, rfl, by omega, h3, h4⟩
    | succ k =>
      simp only [fldTy, fldOff] at hu ho
      cases hb : fldOff b k with
      | none => rw [hb] at ho; cases ho
      | some o' =>
        rw [hb] at ho
        simp only [Option.map_some, Option.some.injEq] at ho
        obtain ⟨f', k1, k2, k3, k4⟩ := ihb h5 hu hb
        exact ⟨f', by simpa using k1, by omega, k3, k4⟩
  | _ => intro off fs k u o h hu ho; cases k <;> simp [fldTy] at hu
end

/-! ### Objects -/

def OFld.cells : OFld → List Value
  | .dat t => zcells t
  | .buf _ _ => [.slice none 0 0]
  | .map => [.map none]
  | _ => [.pointer none]

def ocells : List OFld → List Value
  | [] => []
  | f :: r => f.cells ++ ocells r

def osize : List OFld → Nat
  | [] => 0
  | f :: r => f.size + osize r

/-- The fields from an offset on are as they are told. -/
def fldsB (P : Program) : Nat → List OFld → List Field → Bool
  | _, [], [] => true
  | off, f :: r, g :: s => Nat.beq g.offset off && Nat.blt 0 f.size && (match P.info? g.type with | some i => Nat.beq i.size f.size | none => false) && fldsB P (off + f.size) r s
  | _, _, _ => false

def objB (P : Program) (tid : TypeId) (fs : List OFld) : Bool :=
  (match P.underlying tid with | some (.struct gs) => fldsB P 0 fs gs.toList | _ => false) && infoB P tid (osize fs) (ocells fs)

theorem objB_zero {P : Program} {tid : TypeId} {fs : List OFld} (h : objB P tid fs = true) (w : World) : ∃ z, (zeroValue tid).run P w = .ok z w ∧ z.cells.toList = ocells fs := by
  simp only [objB, Bool.and_eq_true] at h
  obtain ⟨i, z, h1, h2, h3, h4⟩ := infoB_some h.2
  exact ⟨z, by simp [zeroValue, typeInfo, h1, h3], h4⟩

theorem fldsB_at {P : Program} : ∀ {fs : List OFld} {gs : List Field} {off k o : Nat}, fldsB P off fs gs = true → objOff fs k = some o → ∃ f i, gs[k]? = some f ∧ f.offset = off + o ∧ P.info? f.type = some i ∧ 0 < i.size := by
  intro fs
  induction fs with
  | nil => intro gs off k o h ho; cases ho
  | cons f r ih =>
    intro gs off k o h ho
    cases gs with
    | nil => cases h
    | cons g s =>
      simp only [fldsB, Bool.and_eq_true] at h
      obtain ⟨⟨⟨h1, h2⟩, h3⟩, h4⟩ := h
      cases k with
      | zero =>
        obtain rfl := Option.some.inj ho
        split at h3
        · rename_i i hi
          have h3' := Nat.eq_of_beq_eq_true h3
          have h2' : 0 < f.size := by simpa using h2
          exact ⟨g, i, rfl, by rw [Nat.eq_of_beq_eq_true h1]; rfl, hi, by omega⟩
        · cases h3
      | succ k =>
        simp only [objOff] at ho
        split at ho
        · rename_i o' ho'
          obtain rfl := Option.some.inj ho
          obtain ⟨f', i, k1, k2, k3, k4⟩ := ih h4 ho'
          exact ⟨f', i, k1, by omega, k3, k4⟩
        · cases ho

theorem objB_at {P : Program} {tid : TypeId} {fs : List OFld} {k o : Nat} (h : objB P tid fs = true) (ho : objOff fs k = some o) : ∃ (gs : Array Field) (f : Field) (i : TypeInfo), P.underlying tid = some (.struct gs) ∧ gs.toList[k]? = some f ∧ f.offset = o ∧ P.info? f.type = some i ∧ 0 < i.size := by
  simp only [objB, Bool.and_eq_true] at h
  obtain ⟨h1, _⟩ := h
  split at h1
  · rename_i gs hg
    obtain ⟨f, i, k1, k2, k3, k4⟩ := fldsB_at h1 ho
    exact ⟨gs, f, i, hg, k1, by omega, k3, k4⟩
  · cases h1

theorem fldsB_places {P : Program} : ∀ {fs : List OFld} {gs : List Field} {off : Nat}, fldsB P off fs gs = true → ∃ pl : List (Nat × Nat), gs.mapM (fun f => (P.info? f.type).map fun i => (f.offset, i.size)) = some pl ∧
    ∀ k o f, objOff fs k = some o → fs[k]? = some f → pl[k]? = some (off + o, f.size) := by
  intro fs
  induction fs with
  | nil =>
    intro gs off h
    cases gs with
    | nil => exact ⟨[], rfl, fun k o f _ hf => by cases hf⟩
    | cons g s => cases h
  | cons f r ih =>
    intro gs off h
    cases gs with
    | nil => cases h
    | cons g s =>
      simp only [fldsB, Bool.and_eq_true] at h
      obtain ⟨⟨⟨h1, h2⟩, h3⟩, h4⟩ := h
      obtain ⟨pl, p1, p2⟩ := ih h4
      split at h3
      · rename_i i hi
        refine ⟨(g.offset, i.size) :: pl, by simp [hi, p1], fun k o q ho hq => ?_⟩
        cases k with
        | zero =>
          obtain rfl := Option.some.inj ho
          obtain rfl := Option.some.inj hq
          rw [List.getElem?_cons_zero, Nat.eq_of_beq_eq_true h1, Nat.eq_of_beq_eq_true h3]
          rfl
        | succ k =>
          simp only [objOff] at ho
          split at ho
          · rename_i o' ho'
            obtain rfl := Option.some.inj ho
            have := p2 k o' q ho' (by simpa using hq)
            rw [List.getElem?_cons_succ, this, Nat.add_assoc]
          · cases ho
      · cases h3

/-- What is supposed of the tables. -/
structure CxOk (P : Program) (cx : Ctx) : Prop where
  T : ∀ tid t, find cx.T tid = some t → Den P t tid
  ones : ∀ tid, memN cx.ones tid = true → (∀ w, (isAgg tid).run P w = .ok false w) ∧ (∀ w, (Go.sizeOf tid).run P w = .ok 1 w) ∧ ∃ z, (∀ w, (zeroValue tid).run P w = .ok z w) ∧ z.oneCell' = true
  ptrs : ∀ tid, memN cx.ptrs tid = true → ∃ e, P.underlying tid = some (.pointer e)
  fns : ∀ f fn, find cx.fns f = some fn → P.funcs[f]? = some fn
  objs : ∀ tid fs, find cx.objs tid = some fs → objB P tid fs = true
  els : ∀ tid e, find cx.els tid = some e → P.underlying tid = some (.slice e)

theorem isTy_some {o : Option Ty} {t : Ty} (h : isTy o t = true) : o = some t := by
  unfold isTy at h
  split at h
  · rw [Ty.eq_of_beq h]
  · cases h

/-! ### Rows of cells -/

theorem addr_add (b o n : Nat) : Addr.add ⟨b, o, none⟩ n = ⟨b, o + n, none⟩ := by
  unfold Addr.add; split <;> simp_all

def splice (l : List Value) (off : Nat) (c : List Value) : List Value := l.take off ++ c ++ l.drop (off + c.length)

theorem length_splice {l c : List Value} {off : Nat} (h : off + c.length ≤ l.length) : (splice l off c).length = l.length := by
  simp [splice]; omega

theorem Thawed.same {cur cur' : Array Value} {fr : Nat × Nat} (h : Thawed cur fr) (hs : cur'.size = cur.size) : Thawed cur' fr := fun o ho => h o (by omega)

section
variable {P : Program}
theorem ThB.same {e : Ty} {cur cur' : Array Value} {fr : Nat × Nat} (h : ThB e cur fr) (hs : cur'.size = cur.size) : ThB e cur' fr := ⟨h.th.same hs, fun he => by rw [hs]; exact h.um he⟩

theorem run_storeCells_thawed (g o : Nat) (t : TypeId) (fr : Nat × Nat) : ∀ (vs : List Value) (i : Nat) (cur : Array Value) (w : World), w.heap[g]? = some (.cells cur t fr) → Thawed cur fr →
    o + i + vs.length ≤ cur.size → (∀ v ∈ vs, v.oneCell' = true) → (storeCells ⟨g, o, none⟩ vs i).run P w = .ok () (w.setRow g (splice cur.toList (o + i) vs).toArray)
  | [], i, cur, w, hg, _, _, _ => by
    simp only [storeCells, splice, List.append_nil, List.length_nil, Nat.add_zero, List.take_append_drop, Array.toArray_toList]
    rw [setRow_self w g cur t fr hg]
    rfl
  | v :: rest, i, cur, w, hg, hth, hl, h1 => by
    have hi : o + i < cur.size := by simp at hl; omega
    have hcell : w.cell? ⟨g, o + i, none⟩ = some cur[o + i] := by simp [World.cell?, hg, hi]
    have hfro : w.frozen? ⟨g, o + i, none⟩ = false := by
      have := hth (o + i) hi
      simp only [World.frozen?, hg]
      obtain ⟨a, b⟩ := fr
      simp only [Bool.and_eq_false_iff, decide_eq_false_iff_not]
      simp only at this
      omega
    have hst : (store ((⟨g, o, none⟩ : Addr).add i) v).run P w = .ok () (w.setRow g (cur.setIfInBounds (o + i) v)) := by
      rw [addr_add, run_store P w _ v _ (h1 v (by simp)), hcell]
      simp [hfro, setCell_eq_setRow w g (o + i) cur t fr v hg]
    have ih := run_storeCells_thawed g o t fr rest (i + 1) (cur.setIfInBounds (o + i) v) (w.setRow g (cur.setIfInBounds (o + i) v)) (setRow_heap w g cur _ t _ hg) (hth.same (by simp)) (by simp at hl ⊢; omega) (fun x hx => h1 x (by simp [hx]))
    simp only [storeCells, Sem.run_bind, hst, Result.andThen_ok, ih, setRow_setRow]
    congr 3
    have e := list_seg_step cur.toList (o + i) v rest (by simp at hl ⊢; omega)
    simpa [splice, Array.toList_setIfInBounds, Nat.add_assoc] using e

theorem cell_of_heap {w : World} {g : Nat} {cur : Array Value} {t : TypeId} {fr : Nat × Nat} (hg : w.heap[g]? = some (.cells cur t fr)) (j : Nat) : w.cell? ⟨g, j, none⟩ = cur[j]? := by
  simp [World.cell?, hg]

/-- Reading so many cells of a block. -/
theorem run_loadCells_block {w : World} {g off n : Nat} {cur : Array Value} {t : TypeId} {fr : Nat × Nat} (hg : w.heap[g]? = some (.cells cur t fr)) (h : off + n ≤ cur.size) :
    (loadCells ⟨g, off, none⟩ n).run P w = .ok ((cur.toList.drop off).take n).toArray w := by
  have hl : ((cur.toList.drop off).take n).length = n := by simp; omega
  have := run_loadCells_list (P := P) w ⟨g, off, none⟩ ((cur.toList.drop off).take n) (fun j v hv => by
    rw [addr_add, cell_of_heap hg]
    rw [List.getElem?_take] at hv
    split at hv
    · rw [List.getElem?_drop] at hv; simpa using hv
    · cases hv)
  rwa [hl] at this

theorem run_loadCells_at {w : World} {I : Nat → Nat → Prop} {g off : Nat} {cs : List Value} (h : CellsAt w I g off cs) : (loadCells ⟨g, off, none⟩ cs.length).run P w = .ok cs.toArray w :=
  run_loadCells_list (P := P) w ⟨g, off, none⟩ cs (fun j v hv => by rw [addr_add]; exact (h j v hv).1)
end

end Go.Ge
namespace Go.Ge
set_option linter.unusedVariables false

/-! ### Slots -/

theorem beq_ne {a b : Nat} (h : a ≠ b) : Nat.beq a b = false := by
  cases hb : Nat.beq a b
  · rfl
  · exact absurd (Nat.eq_of_beq_eq_true hb) h

theorem getD_put (a : Act) (d t : Nat) (v : Value) (hd : d < a.tmps.size) : (a.put (some d) v).tmps.getD t undef = if t = d then v else a.tmps.getD t undef := by
  simp only [Act.put, Array.getD_eq_getD_getElem?, Array.getElem?_setIfInBounds]
  by_cases h : d = t
  · subst h; simp [hd]
  · rw [if_neg h, if_neg (fun e => h e.symm)]

theorem put_size (a : Act) (d : Option Nat) (v : Value) : (a.put d v).tmps.size = a.tmps.size := by cases d <;> simp [Act.put]
theorem put_defers (a : Act) (d : Option Nat) (v : Value) : (a.put d v).defers = a.defers := by cases d <;> rfl

section
variable {B : Own} {N : Nat} {γ γ' : Gh} {σ : St} {a : Act} {w w' : World} {mem' : Nat → Option Box}

/-- Memory goes on; a slot is written. -/
theorem Sim.step (h : Sim B N γ σ a w) (hx : Ext B γ σ.mem w γ' mem' w') (hm : MemOk B γ' mem' w') {d : Nat} (hd : d < N) {v : Val} {val : Value} (hv : Rep γ' mem' w' v .val [val]) :
    Sim B N γ' ({ slots := σ.slots, mem := mem' : St }.put d v) (a.put (some d) val) w' where
  slots := fun t => by
    rw [getD_put a d t val (by rw [h.size]; exact hd)]
    simp only [St.put]
    by_cases e : t = d
    · subst e; simpa using hv
    · rw [if_neg e, beq_ne e]; exact (h.slots t).ext hx
  size := by rw [put_size]; exact h.size
  defers := by rw [put_defers]; exact h.defers
  ok := hm

/-- Memory goes on, no slot is written. -/
theorem Sim.go (h : Sim B N γ σ a w) (hx : Ext B γ σ.mem w γ' mem' w') (hm : MemOk B γ' mem' w') : Sim B N γ' { slots := σ.slots, mem := mem' } a w' where
  slots := fun t => (h.slots t).ext hx
  size := h.size
  defers := h.defers
  ok := hm

theorem Sim.putO (h : Sim B N γ σ a w) (hx : Ext B γ σ.mem w γ' mem' w') (hm : MemOk B γ' mem' w') {d : Option Nat} (hd : ∀ k, d = some k → k < N) {v : Val} {val : Value} (hv : Rep γ' mem' w' v .val [val]) :
    Sim B N γ' ({ slots := σ.slots, mem := mem' : St }.putO d v) (a.put d val) w' := by
  cases d with
  | none => exact h.go hx hm
  | some d => exact h.step hx hm (hd d rfl) hv

theorem Sim.putO' (h : Sim B N γ σ a w) {d : Option Nat} (hd : ∀ k, d = some k → k < N) {v : Val} {val : Value} (hv : Rep γ σ.mem w v .val [val]) :
    Sim B N γ (σ.putO d v) (a.put d val) w := h.putO (Ext.refl _ _ _ _) h.ok hd hv
end

/-! ### Operands -/

theorem repV_data {γ : Gh} {mem : Nat → Option Box} {w : World} {t : Ty} {x : t.den} {v : Value} : Rep γ mem w (.data t x) .val [v] ↔ ∃ cs, RepC w γ.I t x cs ∧ v = ofCells t cs := by
  simp only [Rep, List.cons.injEq, and_true]

theorem rep_const (γ : Gh) (mem : Nat → Option Box) (w : World) (v : Value) : Rep γ mem w (constVal v) .val [v] := by
  unfold constVal
  split
  · rename_i k n
    cases hc : (decide (k.min ≤ n) && decide (n ≤ k.max))
    · exact ⟨_, rfl⟩
    · simp only [Bool.and_eq_true, decide_eq_true_eq] at hc
      exact ⟨[.int k n], ⟨rfl, hc.1, hc.2⟩, rfl⟩
  · rename_i b; exact ⟨[.bool b], rfl, rfl⟩
  · rename_i s
    cases hc : Nat.ble s.data.toList.length 4294967296
    · exact ⟨_, rfl⟩
    · refine ⟨[.string s], ⟨?_, ?_⟩, rfl⟩
      · obtain ⟨⟨l⟩⟩ := s; rfl
      · have := Nat.le_of_ble_eq_true hc
        simp only [maxLen]; omega
  · rfl
  · rfl
  · rfl
  · exact ⟨_, rfl⟩

theorem Sim.opv {B : Own} {N : Nat} {γ : Gh} {σ : St} {a : Act} {w : World} (h : Sim B N γ σ a w) (x : Operand) : Rep γ σ.mem w (opv σ x) .val [a.eval x] := by
  cases x with
  | tmp t => exact h.slots t
  | const v => exact rep_const _ _ _ v
  | global g => exact ⟨_, rfl⟩
  | func f =>
    show Rep γ σ.mem w (bif Nat.blt f 10000000 then .fn f [] else .undef) .val _
    cases hq : Nat.blt f 10000000 with
    | false => exact ⟨_, rfl⟩
    | true => exact ⟨#[], by unfold fnVal; rw [hq]; rfl, rfl, fun i b ver hc => by simp at hc⟩

/-! ### Paths -/

theorem fnVal_cells (f : Nat) (arr : Array Value) : (fnVal f arr).cells.toList = [fnVal f arr] := by
  simp only [fnVal]; cases Nat.blt f 10000000 <;> rfl

/-- In val mode a value whose cells are known. -/
theorem Rep.cells_of_val {γ : Gh} {mem : Nat → Option Box} {w : World} {v : Val} {x : Value} (h : Rep γ mem w v .val [x]) (hv : ∀ u, v ≠ .tup u) (h0 : v = .undef → x.oneCell' = true) : Rep γ mem w v .cells x.cells.toList := by
  cases v with
  | undef => exact ⟨x, by cases x <;> first | rfl | (have := h0 rfl; simp [Value.oneCell'] at this), h0 rfl⟩
  | data t y => obtain ⟨cs, h1, h2⟩ := repV_data.1 h; subst h2; show RepC _ _ _ _ _; rw [ofCells_cells h1]; exact h1
  | nils => obtain rfl : x = _ := by simpa [Rep] using h
            rfl
  | nilm => obtain rfl : x = _ := by simpa [Rep] using h
            rfl
  | nilp => obtain rfl : x = _ := by simpa [Rep] using h
            rfl
  | nili => obtain rfl : x = _ := by simpa [Rep] using h
            rfl
  | selfp b ver => obtain ⟨⟨v, h1, h2⟩, h3⟩ := h; simp at h1; subst h1; refine ⟨⟨x, ?_, h2⟩, ?_⟩
                   · cases x <;> first | rfl | (simp [Value.oneCell'] at h2)
                   · obtain ⟨bx, k1, k2, k3⟩ := h3
                     exact ⟨bx, k1, k2, fun e => by
                       obtain ⟨blk, cap, j1, j2⟩ := k3 e
                       refine ⟨blk, cap, j1, ?_⟩
                       rcases j2 with j2 | j2
                       · simp at j2; subst j2; exact .inl rfl
                       · simp at j2; subst j2; exact .inr rfl⟩
  | cell t y => obtain ⟨blk, off, cs, h1, h2, h3⟩ := h; simp at h1; subst h1; exact ⟨blk, off, cs, rfl, h2, h3⟩
  | ptr b ver p => obtain ⟨⟨v, h1, h2⟩, h3⟩ := h; simp at h1; subst h1; refine ⟨⟨x, ?_, h2⟩, ?_⟩
                   · cases x <;> first | rfl | (simp [Value.oneCell'] at h2)
                   · obtain ⟨bx, k1, k2, k3⟩ := h3; exact ⟨bx, k1, k2, fun e => by obtain ⟨blk, cap, j1, j2⟩ := k3 e; simp at j2; subst j2; exact ⟨blk, cap, j1, rfl⟩⟩
  | whole b ver => obtain ⟨⟨v, h1, h2⟩, h3⟩ := h; simp at h1; subst h1; refine ⟨⟨x, ?_, h2⟩, ?_⟩
                   · cases x <;> first | rfl | (simp [Value.oneCell'] at h2)
                   · obtain ⟨bx, k1, k2, k3⟩ := h3
                     exact ⟨bx, k1, k2, fun e => by
                       obtain ⟨u, n, j1, j2, j3⟩ := k3 e
                       refine ⟨u, n, j1, j2, ?_⟩
                       rcases j3 with ⟨j3, j4⟩ | ⟨blk, cap, j3, j4⟩
                       · simp at j4; subst j4; exact .inl ⟨j3, rfl⟩
                       · simp at j4; subst j4; exact .inr ⟨blk, cap, j3, rfl⟩⟩
  | mref b ver => obtain ⟨⟨v, h1, h2⟩, h3⟩ := h; simp at h1; subst h1; refine ⟨⟨x, ?_, h2⟩, ?_⟩
                  · cases x <;> first | rfl | (simp [Value.oneCell'] at h2)
                  · obtain ⟨bx, k1, k2, k3⟩ := h3
                    exact ⟨bx, k1, k2, fun e => by
                      obtain ⟨j1, j3⟩ := k3 e
                      refine ⟨j1, ?_⟩
                      rcases j3 with ⟨j3, j4⟩ | ⟨blk, cap, j3, j4⟩
                      · simp at j4; subst j4; exact .inl ⟨j3, rfl⟩
                      · simp at j4; subst j4; exact .inr ⟨blk, cap, j3, rfl⟩⟩
  | mapv l => exact h.elim
  | part b ver lo n => obtain ⟨⟨v, h1, h2⟩, h3⟩ := h; simp at h1; subst h1; refine ⟨⟨x, ?_, h2⟩, ?_⟩
                       · cases x <;> first | rfl | (simp [Value.oneCell'] at h2)
                       · obtain ⟨bx, k1, k2, k3⟩ := h3
                         exact ⟨bx, k1, k2, fun e => by
                           obtain ⟨u, k, j1, j2, j3, j4, base, cap, j5, j6⟩ := k3 e
                           simp at j5; subst j5; exact ⟨u, k, j1, j2, j3, j4, base, cap, rfl, j6⟩⟩
  | win b ver q e k lo n => obtain ⟨⟨v, h1, h2⟩, h3⟩ := h; simp at h1; subst h1; refine ⟨⟨x, ?_, h2⟩, ?_⟩
                            · cases x <;> first | rfl | (simp [Value.oneCell'] at h2)
                            · obtain ⟨bx, k1, k2, k3⟩ := h3
                              exact ⟨bx, k1, k2, fun e => by
                                obtain ⟨j0, u, c, j1, j2, j3, j4, base, cap, j5, j6⟩ := k3 e
                                simp at j5; subst j5; exact ⟨j0, u, c, j1, j2, j3, j4, base, cap, rfl, j6⟩⟩
  | fn f caps => obtain ⟨arr, h1, h2⟩ := h; simp at h1; subst h1; exact ⟨arr, fnVal_cells f arr, h2⟩
  | mix p q => obtain ⟨c1, c2, h1, h2, h3⟩ := h; simp at h1; subst h1; exact ⟨c1, c2, by simp [Value.cells], h2, h3⟩
  | tup u => exact absurd rfl (hv u)
  | nl => exact h.elim

theorem Rep.length {γ : Gh} {mem : Nat → Option Box} {w : World} : ∀ {v : Val} {cs : List Value}, Rep γ mem w v .cells cs → cs.length = valSize v := by
  intro v
  induction v with
  | data t x => intro cs h; exact RepC.length h
  | mix a b iha ihb => intro cs h; obtain ⟨c1, c2, rfl, h1, h2⟩ := h; rw [List.length_append, iha h1, ihb h2]; rfl
  | undef => intro cs h; obtain ⟨v, rfl, _⟩ := h; rfl
  | nils => intro cs h; rw [show cs = _ from h]; rfl
  | nilp => intro cs h; rw [show cs = _ from h]; rfl
  | nilm => intro cs h; rw [show cs = _ from h]; rfl
  | nili => intro cs h; rw [show cs = _ from h]; rfl
  | selfp b ver => intro cs h; obtain ⟨⟨_, rfl, _⟩, _⟩ := h; rfl
  | cell t x => intro cs h; obtain ⟨_, _, _, rfl, _⟩ := h; rfl
  | ptr b ver p => intro cs h; obtain ⟨⟨_, rfl, _⟩, _⟩ := h; rfl
  | whole b ver => intro cs h; obtain ⟨⟨_, rfl, _⟩, _⟩ := h; rfl
  | mref b ver => intro cs h; obtain ⟨⟨_, rfl, _⟩, _⟩ := h; rfl
  | mapv l => intro cs h; exact h.elim
  | part b ver lo n => intro cs h; obtain ⟨⟨_, rfl, _⟩, _⟩ := h; rfl
  | win b ver q e k lo n => intro cs h; obtain ⟨⟨_, rfl, _⟩, _⟩ := h; rfl
  | fn f caps => intro cs h; obtain ⟨_, rfl, _⟩ := h; simp only [fnVal]; cases Nat.blt f 10000000 <;> rfl
  | tup u ih => intro cs h; exact h.elim
  | nl => intro cs h; exact h.elim

theorem Rep.one {γ : Gh} {mem : Nat → Option Box} {w : World} : ∀ {v : Val} {cs : List Value}, Rep γ mem w v .cells cs → ∀ c ∈ cs, c.oneCell' = true := by
  intro v
  induction v with
  | data t x => intro cs h; exact RepC.one h
  | mix a b iha ihb =>
    intro cs h c hc; obtain ⟨c1, c2, rfl, h1, h2⟩ := h
    rcases List.mem_append.1 hc with hc | hc
    · exact iha h1 c hc
    · exact ihb h2 c hc
  | undef => intro cs h c hc; obtain ⟨v, rfl, h1⟩ := h; simp at hc; subst hc; exact h1
  | nils => intro cs h c hc; rw [show cs = _ from h] at hc; simp at hc; subst hc; rfl
  | nilp => intro cs h c hc; rw [show cs = _ from h] at hc; simp at hc; subst hc; rfl
  | nilm => intro cs h c hc; rw [show cs = _ from h] at hc; simp at hc; subst hc; rfl
  | nili => intro cs h c hc; rw [show cs = _ from h] at hc; simp at hc; subst hc; rfl
  | selfp b ver => intro cs h c hc; obtain ⟨⟨_, rfl, h1⟩, _⟩ := h; simp at hc; subst hc; exact h1
  | cell t x => intro cs h c hc; obtain ⟨_, _, _, rfl, _⟩ := h; simp at hc; subst hc; rfl
  | ptr b ver p => intro cs h c hc; obtain ⟨⟨_, rfl, h1⟩, _⟩ := h; simp at hc; subst hc; exact h1
  | whole b ver => intro cs h c hc; obtain ⟨⟨_, rfl, h1⟩, _⟩ := h; simp at hc; subst hc; exact h1
  | mref b ver => intro cs h c hc; obtain ⟨⟨_, rfl, h1⟩, _⟩ := h; simp at hc; subst hc; exact h1
  | mapv l => intro cs h; exact h.elim
  | part b ver lo n => intro cs h c hc; obtain ⟨⟨_, rfl, h1⟩, _⟩ := h; simp at hc; subst hc; exact h1
  | win b ver q e k lo n => intro cs h c hc; obtain ⟨⟨_, rfl, h1⟩, _⟩ := h; simp at hc; subst hc; exact h1
  | fn f caps => intro cs h c hc; obtain ⟨_, rfl, _⟩ := h; simp at hc; subst hc; simp only [fnVal]; cases Nat.blt f 10000000 <;> rfl
  | tup u ih => intro cs h; exact h.elim
  | nl => intro cs h; exact h.elim

theorem idx_some {α : Type} {l : List α} {i : Int} {x : α} (h : idx l i = some x) : 0 ≤ i ∧ l[i.toNat]? = some x := by
  unfold idx at h
  split at h
  · rename_i h0; exact ⟨h0, h⟩
  · cases h

/-- The field of a chain of pairs, in its cells. -/
theorem fldAtD_rep {w : World} {I : Nat → Nat → Prop} : ∀ {t : Ty} {x : t.den} {cs : List Value} {k o : Nat} {u : Val}, RepC w I t x cs → fldAtD t x k = some (o, u) →
    ∃ (t' : Ty) (y : t'.den), u = .data t' y ∧ fldTy t k = some t' ∧ fldOff t k = some o ∧ o + t'.size ≤ cs.length ∧ RepC w I t' y ((cs.drop o).take t'.size) := by
  intro t
  induction t with
  | pair a b iha ihb =>
    intro x cs k o u h hk
    obtain ⟨c1, c2, rfl, h1, h2⟩ := h
    cases k with
    | zero =>
      simp only [fldAtD, Option.some.injEq, Prod.mk.injEq] at hk
      obtain ⟨rfl, rfl⟩ := hk
      refine ⟨a, x.1, rfl, rfl, rfl, by rw [List.length_append, h1.length]; omega, ?_⟩
      rw [List.drop_zero, ← h1.length, List.take_left]; exact h1
    | succ k =>
      simp only [fldAtD] at hk
      cases hf : fldAtD b x.2 k with
      | none => rw [hf] at hk; cases hk
      | some r =>
        rw [hf] at hk
        simp only [Option.some.injEq, Prod.mk.injEq] at hk
        obtain ⟨rfl, rfl⟩ := hk
        obtain ⟨t', y, k1, k2, k3, k4, k5⟩ := ihb h2 (show fldAtD b x.2 k = some (r.1, r.2) from hf)
        refine ⟨t', y, k1, k2, by simp [fldOff, k3], by rw [List.length_append, h1.length]; omega, ?_⟩
        rw [← h1.length, ← List.drop_drop, List.drop_left]; exact k5
  | _ => intro x cs k o u h hk; cases k <;> simp [fldAtD] at hk

theorem fldAt_rep {γ : Gh} {mem : Nat → Option Box} {w : World} : ∀ {v : Val} {cs : List Value} {k o : Nat} {u : Val}, Rep γ mem w v .cells cs → fldAt v k = some (o, u) →
    o + valSize u ≤ cs.length ∧ Rep γ mem w u .cells ((cs.drop o).take (valSize u)) := by
  intro v
  induction v with
  | data t x =>
    intro cs k o u h hk
    obtain ⟨t', y, rfl, _, _, h1, h2⟩ := fldAtD_rep (w := w) h hk
    exact ⟨h1, h2⟩
  | mix a b iha ihb =>
    intro cs k o u h hk
    obtain ⟨c1, c2, rfl, h1, h2⟩ := h
    cases k with
    | zero =>
      simp only [fldAt, Option.some.injEq, Prod.mk.injEq] at hk
      obtain ⟨rfl, rfl⟩ := hk
      refine ⟨by rw [List.length_append, h1.length]; omega, ?_⟩
      rw [List.drop_zero, ← h1.length, List.take_left]; exact h1
    | succ k =>
      simp only [fldAt] at hk
      cases hf : fldAt b k with
      | none => rw [hf] at hk; cases hk
      | some r =>
        rw [hf] at hk
        simp only [Option.some.injEq, Prod.mk.injEq] at hk
        obtain ⟨rfl, rfl⟩ := hk
        obtain ⟨k4, k5⟩ := ihb h2 (show fldAt b k = some (r.1, r.2) from hf)
        refine ⟨by rw [List.length_append, h1.length]; omega, ?_⟩
        rw [← h1.length, ← List.drop_drop, List.drop_left]; exact k5
  | _ => intro cs k o u h hk; cases k <;> simp [fldAt] at hk

theorem toS_rep {γ : Gh} {mem : Nat → Option Box} {w : World} {t : Ty} {v : Val} {z : t.den} {es : List Value} (h : toS t v = some z) (hv : Rep γ mem w v .cells es) : RepC w γ.I t z es := by
  cases v with
  | data u y =>
    obtain ⟨e, e2⟩ := Ty.to_some (show Ty.to u t y = some z from h)
    subst e; subst e2; exact hv
  | _ => cases h

theorem bind_some {α β : Type} {t : Tree α} {f : α → Tree β} {y : β} (h : (t.bind f).run = some y) : ∃ x, t.run = some x ∧ (f x).run = some y := by
  rw [Tree.run_bind] at h
  exact Option.bind_eq_some_iff.1 h

theorem look_some {T α : Type} {o : Option T} {k : T → Tree α} {y : α} (h : (Tree.look o k).run = some y) : ∃ x, o = some x ∧ (k x).run = some y := by
  cases o with
  | none => cases h
  | some x => exact ⟨x, rfl, h⟩

theorem need_some {α : Type} {c : Bool} {t : Tree α} {y : α} (h : (Tree.need c t).run = some y) : c = true ∧ t.run = some y := by
  cases c with
  | false => cases h
  | true => exact ⟨rfl, h⟩

theorem bif_some {α : Type} {c : Bool} {t : Tree α} {y : α} (h : (bif c then t else .fail).run = some y) : c = true ∧ t.run = some y := by
  cases c with
  | false => cases h
  | true => exact ⟨rfl, h⟩

theorem node_some {α : Type} {c : Bool} {t e : Tree α} {y : α} (h : (Tree.node c t e).run = some y) : (bif c then t else e).run = some y := by
  cases c <;> exact h

section
variable {γ : Gh} {mem : Nat → Option Box} {w : World}

/-- A field is made anew: f tells of the field's cells what becomes of them. -/
theorem setFldD_rep : ∀ {t : Ty} {x : t.den} {cs : List Value} {k o : Nat} {u : Val} {y : t.den} {f : Val → Tree Val} {es : List Value},
    RepC w γ.I t x cs → fldAtD t x k = some (o, u) → (∀ v, (f u).run = some v → Rep γ mem w v .cells es) → (setFldD t x k f).run = some y → es.length = valSize u →
    RepC w γ.I t y (splice cs o es) := by
  intro t
  induction t with
  | pair a b iha ihb =>
    intro x cs k o u y f es h hk hf hs hl
    obtain ⟨c1, c2, rfl, h1, h2⟩ := h
    cases k with
    | zero =>
      simp only [fldAtD, Option.some.injEq, Prod.mk.injEq] at hk
      obtain ⟨rfl, rfl⟩ := hk
      obtain ⟨v, hf', hs⟩ := bind_some hs
      have he := hf v hf'
      cases hv : toS a v with
      | none => rw [hv] at hs; cases hs
      | some z =>
        rw [hv] at hs
        obtain rfl := Option.some.inj hs
        simp only [valSize] at hl
        refine ⟨es, c2, ?_, toS_rep hv he, h2⟩
        simp only [splice, List.take_zero, List.nil_append, Nat.zero_add]
        rw [show es.length = c1.length by rw [hl, h1.length], List.drop_left]
    | succ k =>
      simp only [fldAtD] at hk
      cases hfd : fldAtD b x.2 k with
      | none => rw [hfd] at hk; cases hk
      | some r =>
        rw [hfd] at hk
        simp only [Option.some.injEq, Prod.mk.injEq] at hk
        obtain ⟨rfl, rfl⟩ := hk
        obtain ⟨z, hq, hs⟩ := bind_some hs
        obtain rfl := Option.some.inj hs
        have := ihb h2 (show fldAtD b x.2 k = some (r.1, r.2) from hfd) hf hq hl
        refine ⟨c1, splice c2 r.1 es, ?_, h1, this⟩
        simp only [splice, ← h1.length, List.take_length_add_append, List.append_assoc]
        congr 1; congr 1; congr 1
        rw [Nat.add_assoc, ← List.drop_drop, List.drop_left]
  | _ => intro x cs k o u y f es h hk; cases k <;> simp [fldAtD] at hk

theorem setFld_rep : ∀ {v0 : Val} {cs : List Value} {k o : Nat} {u c : Val} {f : Val → Tree Val} {es : List Value},
    Rep γ mem w v0 .cells cs → fldAt v0 k = some (o, u) → (∀ v, (f u).run = some v → Rep γ mem w v .cells es) → (setFld v0 k f).run = some c → es.length = valSize u →
    Rep γ mem w c .cells (splice cs o es) := by
  intro v0
  induction v0 with
  | data t x =>
    intro cs k o u c f es h hk hf hs hl
    obtain ⟨y, hy, hs⟩ := bind_some hs
    obtain rfl := Option.some.inj hs
    exact setFldD_rep h hk hf hy hl
  | mix a b iha ihb =>
    intro cs k o u c f es h hk hf hs hl
    obtain ⟨c1, c2, rfl, h1, h2⟩ := h
    cases k with
    | zero =>
      simp only [fldAt, Option.some.injEq, Prod.mk.injEq] at hk
      obtain ⟨rfl, rfl⟩ := hk
      obtain ⟨v, hf', hs⟩ := bind_some hs
      have he := hf v hf'
      obtain rfl := Option.some.inj hs
      refine ⟨es, c2, ?_, he, h2⟩
      simp only [splice, List.take_zero, List.nil_append, Nat.zero_add]
      rw [show es.length = c1.length by rw [hl, h1.length], List.drop_left]
    | succ k =>
      simp only [fldAt] at hk
      cases hfd : fldAt b k with
      | none => rw [hfd] at hk; cases hk
      | some r =>
        rw [hfd] at hk
        simp only [Option.some.injEq, Prod.mk.injEq] at hk
        obtain ⟨rfl, rfl⟩ := hk
        obtain ⟨z, hq, hs⟩ := bind_some hs
        obtain rfl := Option.some.inj hs
        have := ihb h2 (show fldAt b k = some (r.1, r.2) from hfd) hf hq hl
        refine ⟨c1, splice c2 r.1 es, ?_, h1, this⟩
        simp only [splice, ← h1.length, List.take_length_add_append, List.append_assoc]
        congr 1; congr 1; congr 1
        rw [Nat.add_assoc, ← List.drop_drop, List.drop_left]
  | _ => intro cs k o u c f es h hk; cases k <;> simp [fldAt] at hk

/-- What a path leads to, in the cells. -/
theorem nav_rep : ∀ {p : List Sel} {v u : Val} {cs : List Value}, Rep γ mem w v .cells cs → (nav p v).run = some u → offP p + valSize u ≤ cs.length ∧ Rep γ mem w u .cells ((cs.drop (offP p)).take (valSize u)) := by
  intro p
  induction p with
  | nil =>
    intro v u cs h hn
    obtain rfl := Option.some.inj hn
    have hl := h.length
    refine ⟨by simp [offP]; omega, ?_⟩
    rw [show offP [] = 0 from rfl, List.drop_zero, ← hl, List.take_length]; exact h
  | cons s p ih =>
    intro v u cs h hn
    cases s with
    | fld k off =>
      simp only [nav] at hn
      cases hf : fldAt v k with
      | none => rw [hf] at hn; cases hn
      | some r =>
        rw [hf] at hn
        obtain ⟨hb, hn2⟩ := bif_some hn
        have hoff := Nat.eq_of_beq_eq_true hb
        obtain ⟨h1, h2⟩ := fldAt_rep h (show fldAt v k = some (r.1, r.2) from hf)
        obtain ⟨h3, h4⟩ := ih h2 hn2
        have hl := h2.length
        simp only [offP, ← hoff]
        rw [hl] at h3
        refine ⟨by omega, ?_⟩
        rw [List.drop_take, List.take_take, List.drop_drop, Nat.min_eq_left (by omega)] at h4
        exact h4
    | idx i size =>
      simp only [nav] at hn
      split at hn
      · rename_i n e l
        obtain ⟨hb, hn2⟩ := bif_some hn
        have hsz := Nat.eq_of_beq_eq_true hb
        obtain ⟨x, hx, hn3⟩ := look_some hn2
        obtain ⟨h0, hx2⟩ := idx_some hx
        obtain ⟨k1, k2, k3⟩ := h
        have hr := k3 _ x hx2
        obtain ⟨h3, h4⟩ := ih (v := .data e x) (show Rep γ mem w (.data e x) .cells _ from hr) hn3
        have hl := hr.length
        have hi : i.toNat < n := by have := (List.getElem?_eq_some_iff.1 hx2).1; omega
        have hm : (i.toNat + 1) * e.size ≤ n * e.size := Nat.mul_le_mul_right _ hi
        rw [Nat.succ_mul] at hm
        rw [hl] at h3
        simp only [offP, hsz]
        refine ⟨by omega, ?_⟩
        rw [List.drop_take, List.take_take, List.drop_drop, Nat.min_eq_left (by omega)] at h4
        exact h4
      · cases hn

theorem splice_splice (cs : List Value) (a b : Nat) (n : Nat) (es : List Value) (h : b + es.length ≤ n) (hn : a + n ≤ cs.length) :
    splice cs a (splice ((cs.drop a).take n) b es) = splice cs (a + b) es := by
  have hl : ((cs.drop a).take n).length = n := by simp; omega
  have hls : (splice ((cs.drop a).take n) b es).length = n := by rw [length_splice (by omega), hl]
  have e1 : splice cs a (splice ((cs.drop a).take n) b es) = cs.take a ++ splice ((cs.drop a).take n) b es ++ cs.drop (a + n) := by
    rw [splice, hls]
  rw [e1]
  simp only [splice, List.append_assoc]
  rw [List.take_take, Nat.min_eq_left (by omega), ← List.append_assoc, ← List.take_add]
  congr 1; congr 1
  have : cs.drop (a + n) = (cs.drop a).drop n := by rw [List.drop_drop]
  rw [this, ← List.drop_append_of_le_length (by rw [hl]; exact h), List.take_append_drop, List.drop_drop, Nat.add_assoc]

theorem lset_rep {I : Nat → Nat → Prop} {e : Ty} {n : Nat} {l : List e.den} {cs es : List Value} {i : Nat} {y : e.den} (hl : l.length = n) (hc : n * e.size ≤ cs.length)
    (h : ∀ (j : Nat) (x : e.den), l[j]? = some x → RepC w I e x ((cs.drop (j * e.size)).take e.size)) (hi : i < n) (hy : RepC w I e y es) :
    ∀ (j : Nat) (x : e.den), (l.set i y)[j]? = some x → RepC w I e x (((splice cs (i * e.size) es).drop (j * e.size)).take e.size) := by
  intro j x hx
  have hel := hy.length
  have hm : (i + 1) * e.size ≤ n * e.size := Nat.mul_le_mul_right _ hi
  rw [Nat.succ_mul] at hm
  have htl : (cs.take (i * e.size)).length = i * e.size := by rw [List.length_take]; omega
  rw [List.getElem?_set] at hx
  split at hx
  · rename_i hij
    subst hij
    split at hx
    · obtain rfl := Option.some.inj hx
      have : ((splice cs (i * e.size) es).drop (i * e.size)).take e.size = es := by
        rw [splice, List.append_assoc]
        conv => lhs; arg 2; arg 1; rw [← htl]
        rw [htl, List.drop_left' htl, ← hel, List.take_left]
      rw [this]; exact hy
    · cases hx
  · rename_i hij
    have hj : j < n := by have := (List.getElem?_eq_some_iff.1 hx).1; omega
    have hmj : (j + 1) * e.size ≤ n * e.size := Nat.mul_le_mul_right _ hj
    rw [Nat.succ_mul] at hmj
    have key : ((splice cs (i * e.size) es).drop (j * e.size)).take e.size = (cs.drop (j * e.size)).take e.size := by
      apply List.ext_getElem?
      intro q
      rw [List.getElem?_take, List.getElem?_take]
      split
      · rename_i hq
        rw [List.getElem?_drop, List.getElem?_drop, splice]
        rcases Nat.lt_or_ge j i with h1 | h1
        · have : (j + 1) * e.size ≤ i * e.size := Nat.mul_le_mul_right _ h1
          rw [Nat.succ_mul] at this
          rw [List.append_assoc, List.getElem?_append_left (by omega), List.getElem?_take, if_pos (by omega)]
        · have : (i + 1) * e.size ≤ j * e.size := Nat.mul_le_mul_right _ (by omega)
          rw [Nat.succ_mul] at this
          rw [List.getElem?_append_right (by rw [List.length_append]; omega), List.getElem?_drop, List.length_append, htl]
          congr 1; omega
      · rfl
    rw [key]; exact h j x hx

theorem navSet_rep : ∀ {p : List Sel} {v u0 u c : Val} {cs es : List Value}, Rep γ mem w v .cells cs → (nav p v).run = some u0 → (navSet p v u).run = some c → Rep γ mem w u .cells es → es.length = valSize u0 →
    Rep γ mem w c .cells (splice cs (offP p) es) := by
  intro p
  induction p with
  | nil =>
    intro v u0 u c cs es h hn hs he hl
    obtain rfl := Option.some.inj hn
    obtain rfl := Option.some.inj hs
    have := h.length
    simp only [offP, splice, List.take_zero, List.nil_append, Nat.zero_add]
    rw [List.drop_of_length_le (by omega), List.append_nil]; exact he
  | cons s p ih =>
    intro v u0 u c cs es h hn hs he hl
    cases s with
    | fld k off =>
      simp only [nav] at hn
      cases hf : fldAt v k with
      | none => rw [hf] at hn; cases hn
      | some r =>
        rw [hf] at hn
        obtain ⟨hb, hn2⟩ := bif_some hn
        have hoff := Nat.eq_of_beq_eq_true hb
        obtain ⟨h1, h2⟩ := fldAt_rep h (show fldAt v k = some (r.1, r.2) from hf)
        obtain ⟨h3, h4⟩ := nav_rep h2 hn2
        have hl2 := h2.length
        rw [hl2] at h3
        have := setFld_rep (f := fun w => navSet p w u) h (show fldAt v k = some (r.1, r.2) from hf) (fun z hq => ih (u := u) h2 hn2 hq he hl) hs (by rw [length_splice (by rw [hl2, hl]; exact h3), hl2])
        rw [splice_splice cs r.1 (offP p) (valSize r.2) es (by omega) h1, hoff] at this
        exact this
    | idx i size =>
      simp only [nav] at hn
      split at hn
      · rename_i n e l
        obtain ⟨hb, hn2⟩ := bif_some hn
        have hsz := Nat.eq_of_beq_eq_true hb
        obtain ⟨x, hx, hn3⟩ := look_some hn2
        simp only [navSet] at hs
        obtain ⟨x', hx', hs2⟩ := look_some hs
        obtain rfl : x = x' := Option.some.inj (hx.symm.trans hx')
        obtain ⟨z, hq, hs3⟩ := bind_some hs2
        cases hz : toS e z with
        | none => rw [hz] at hs3; cases hs3
        | some y =>
          rw [hz] at hs3
          obtain rfl := Option.some.inj hs3
          obtain ⟨h0, hx2⟩ := idx_some hx
          obtain ⟨k1, k2, k3⟩ := h
          have hr := k3 _ x hx2
          have hi : i.toNat < n := by have := (List.getElem?_eq_some_iff.1 hx2).1; omega
          have hm : (i.toNat + 1) * e.size ≤ n * e.size := Nat.mul_le_mul_right _ hi
          rw [Nat.succ_mul] at hm
          have hrr : Rep γ mem w (.data e x) .cells ((cs.drop (i.toNat * e.size)).take e.size) := hr
          obtain ⟨h3, h4⟩ := nav_rep hrr hn3
          have hrl := hr.length
          rw [hrl] at h3
          have hzz := toS_rep hz (ih hrr hn3 hq he hl)
          have hsl : (splice ((cs.drop (i.toNat * e.size)).take e.size) (offP p) es).length = e.size := by rw [length_splice (by rw [hrl, hl]; exact h3), hrl]
          have e1 := splice_splice cs (i.toNat * e.size) (offP p) e.size es (by omega) (by omega)
          simp only [offP, hsz]
          rw [← e1]
          refine ⟨?_, ?_, ?_⟩
          · exact (@List.length_set _ (l : List e.den) _ _).trans k1
          · rw [length_splice (by omega)]; exact k2
          · exact lset_rep k1 (by omega) k3 hi hzz
      · cases hn
end

end Go.Ge
namespace Go.Ge
set_option linter.unusedVariables false
open RowKit

section
variable {B : Own} {γ γ' : Gh} {mem mem' : Nat → Option Box} {w w' : World}

theorem BoxAt.keep {c : Nat} {bx : Box} (h : BoxAt γ mem w c bx) (hx : Ext B γ mem w γ' mem' w') (hl : γ'.loc c = γ.loc c)
    (hb : ∀ blk k, γ.loc c = some (blk, k) → w'.heap[blk]? = w.heap[blk]?) : BoxAt γ' mem' w' c bx := by
  unfold BoxAt at h ⊢
  cases hbuf : bx.buf with
  | true =>
    rw [hbuf] at h
    rcases h with ⟨l, h1, h3⟩ | ⟨e, l, h1, h2, h3⟩
    · refine .inl ⟨l, h1, ?_⟩
      rcases h3 with ⟨h3, h4⟩ | ⟨blk, cap, o, h3, h4, h5⟩
      · exact .inl ⟨hl.trans h3, h4⟩
      · exact .inr ⟨blk, cap, o, hl.trans h3, (hb _ _ h3).trans h4, h5⟩
    refine .inr ⟨e, l, h1, h2, ?_⟩
    rcases h3 with ⟨h3, h4⟩ | ⟨blk, cap, cur, tid, fr, h3, h4, h5, htid, h6, h7, h8, h9⟩
    · exact .inl ⟨hl.trans h3, h4⟩
    · exact .inr ⟨blk, cap, cur, tid, fr, hl.trans h3, (hb _ _ h3).trans h4, h5, htid, h6, h7, h8, fun i x hi => RepC.mono hx.I hx.cells (h9 i x hi)⟩
  | false =>
    rw [hbuf] at h
    obtain ⟨blk, cap, cur, tid, fr, h3, h4, h5, hk, h6⟩ := h
    exact ⟨blk, cap, cur, tid, fr, hl.trans h3, (hb _ _ h3).trans h4, h5, hk, h6.ext hx⟩

theorem cell_of_same {a : Addr} (h : w'.heap[a.block]? = w.heap[a.block]?) : w'.cell? a = w.cell? a := by simp [World.cell?, h]

/-- Ghost and world with a box more. -/
def addBox (γ : Gh) (b : Nat) (L : Option (Nat × Nat)) : Gh := { γ with loc := fun i => if i = b then L else γ.loc i }
def setMem (mem : Nat → Option Box) (b : Nat) (bx : Box) : Nat → Option Box := fun i => bif Nat.beq i b then some bx else mem i

theorem setMem_same (b : Nat) (bx : Box) : setMem mem b bx b = some bx := by simp [setMem]
theorem setMem_other {b c : Nat} (bx : Box) (h : c ≠ b) : setMem mem b bx c = mem c := by simp [setMem, beq_ne h]

theorem ext_add (h : MemOk B γ mem w) {b : Nat} {bx : Box} {L : Option (Nat × Nat)} (hver : ∀ bx0, mem b = some bx0 → bx0.ver < bx.ver)
    (hw : Blw B w w') (hold : ∀ k, k < w.heap.size → w'.heap[k]? = w.heap[k]?) : Ext B γ mem w (addBox γ b L) (setMem mem b bx) w' where
  below := hw
  I := fun _ _ x => x
  anew := fun _ _ x => .inl x
  cells := fun blk o x => cell_of_same (hold blk (h.imm blk o x))
  boxes := fun c cx hc => by
    by_cases e : c = b
    · subst e
      refine ⟨bx, setMem_same _ _, Nat.le_of_lt (hver _ hc), fun e => absurd e ?_⟩
      have := hver _ hc; omega
    · exact ⟨cx, by rw [setMem_other _ e]; exact hc, Nat.le_refl _, fun _ => ⟨by simp [addBox, e], rfl, rfl⟩⟩

theorem MemOk.add (h : MemOk B γ mem w) {b : Nat} {bx : Box} {L : Option (Nat × Nat)} (hver : ∀ bx0, mem b = some bx0 → bx0.ver < bx.ver)
    (hw : Blw B w w') (hold : ∀ k, k < w.heap.size → w'.heap[k]? = w.heap[k]?) (hL : ∀ blk k, L = some (blk, k) → w.heap.size ≤ blk ∧ blk < w'.heap.size)
    (hat : BoxAt (addBox γ b L) (setMem mem b bx) w' b bx) : MemOk B (addBox γ b L) (setMem mem b bx) w' where
  glob := h.globE (ext_add (L := L) h hver hw hold)
  base := Nat.le_trans h.base hw.size
  boxes := fun c cx hc => by
    by_cases e : c = b
    · subst e
      rw [setMem_same] at hc
      obtain rfl := Option.some.inj hc
      exact hat
    · rw [setMem_other _ e] at hc
      refine (h.boxes c cx hc).keep (ext_add h hver hw hold) (by simp [addBox, e]) fun blk k hl => hold blk (h.fresh c blk k (by rw [hc]; simp) hl).2
  inj := fun c d blk k k' hc hd h1 h2 => by
    by_cases e : c = b
    · by_cases e2 : d = b
      · rw [e, e2]
      · exfalso
        simp only [addBox, if_pos e] at h1
        simp only [addBox, if_neg e2] at h2
        rw [setMem_other _ e2] at hd
        have := (h.fresh d blk k' hd h2).2
        have := (hL _ _ h1).1
        omega
    · by_cases e2 : d = b
      · exfalso
        simp only [addBox, if_neg e] at h1
        simp only [addBox, if_pos e2] at h2
        rw [setMem_other _ e] at hc
        have := (h.fresh c blk k hc h1).2
        have := (hL _ _ h2).1
        omega
      · simp only [addBox, if_neg e] at h1
        simp only [addBox, if_neg e2] at h2
        rw [setMem_other _ e] at hc
        rw [setMem_other _ e2] at hd
        exact h.inj c d blk k k' hc hd h1 h2
  fresh := fun c blk k hc h1 => by
    by_cases e : c = b
    · simp only [addBox, if_pos e] at h1
      obtain ⟨h2, h3⟩ := hL _ _ h1
      exact ⟨.inl (by have := h.base; omega), h3⟩
    · simp only [addBox, if_neg e] at h1
      rw [setMem_other _ e] at hc
      have := h.fresh c blk k hc h1
      exact ⟨this.1, Nat.lt_of_lt_of_le this.2 hw.size⟩
  imm := fun blk off hi => Nat.lt_of_lt_of_le (h.imm blk off hi) hw.size
  sep := fun c cx blk k off hc h1 hi => by
    by_cases e : c = b
    · exfalso
      simp only [addBox, if_pos e] at h1
      have := (hL _ _ h1).1
      have := h.imm blk off hi
      omega
    · simp only [addBox, if_neg e] at h1
      rw [setMem_other _ e] at hc
      exact h.sep c cx blk k off hc h1 hi

theorem hold_alloc (w : World) (o : Obj) : ∀ k, k < w.heap.size → (w.alloc o).heap[k]? = w.heap[k]? := fun k hk => Below.heap_alloc w o k hk

theorem thawed_zero (cs : Array Value) : Thawed cs (0, 0) := fun o _ h => by omega
theorem thb_zero (e : Ty) (cs : Array Value) : ThB e cs (0, 0) := ⟨thawed_zero cs, fun _ h => by omega⟩

/-- A new variable. -/
theorem MemOk.newVar (h : MemOk B γ mem w) {b : Nat} {v : Val} {tid : TypeId} {ver : Nat} (hver : ∀ bx0, mem b = some bx0 → bx0.ver < ver) {cs : Array Value} (t' : TypeId) (htid : tid = 0 ∨ t' = tid) (hv : Rep γ mem w v .cells cs.toList) :
    let bx : Box := { val := v, tid, buf := false, ro := false, lk := false, ver }
    MemOk B (addBox γ b (some (w.heap.size, 0))) (setMem mem b bx) (w.alloc (.cells cs t')) ∧ Ext B γ mem w (addBox γ b (some (w.heap.size, 0))) (setMem mem b bx) (w.alloc (.cells cs t')) := by
  intro bx
  have hw : Blw B w (w.alloc (.cells cs t')) := (Blw.refl _ _).alloc h.base _
  have hx := ext_add (L := some (w.heap.size, 0)) h (bx := bx) hver hw (hold_alloc w _)
  refine ⟨h.add hver hw (hold_alloc w _) (fun blk k e => by obtain ⟨rfl, rfl⟩ := Prod.mk.inj (Option.some.inj e); exact ⟨Nat.le_refl _, by simp⟩) ?_, hx⟩
  exact ⟨w.heap.size, 0, cs, t', (0, 0), by simp [addBox], heap_alloc_new w _, thawed_zero cs, htid, hv.ext hx⟩

/-- A new buffer, in a new block, wherever it lies (its cells may be anything behind the elements). -/
theorem MemOk.newBufAt (h : MemOk B γ mem w) {b : Nat} {e : Ty} {l : List e.den} {tid : TypeId} {ver cap blk : Nat} (hver : ∀ bx0, mem b = some bx0 → bx0.ver < ver) {cs : Array Value} {t' : TypeId} {fr : Nat × Nat} (he : 0 < e.size)
    (hw : Blw B w w') (hold : ∀ k, k < w.heap.size → w'.heap[k]? = w.heap[k]?) (hge : w.heap.size ≤ blk) (hnew : w'.heap[blk]? = some (.cells cs t' fr)) (hth : ThB e cs fr) (htid : tid = 0 ∨ t' = tid)
    (h1 : l.length ≤ cap) (h2 : cap ≤ maxLen) (h3 : cs.size = cap * e.size) (h4 : ∀ (i : Nat) (x : e.den), l[i]? = some x → RepC w' γ.I e x ((cs.toList.drop (i * e.size)).take e.size)) :
    let bx : Box := { val := .data (.slice e) l, tid, buf := true, ro := false, lk := false, ver }
    MemOk B (addBox γ b (some (blk, cap))) (setMem mem b bx) w' ∧ Ext B γ mem w (addBox γ b (some (blk, cap))) (setMem mem b bx) w' := by
  intro bx
  have hlt : blk < w'.heap.size := (Array.getElem?_eq_some_iff.1 hnew).1
  have hx := ext_add (L := some (blk, cap)) h (bx := bx) hver hw hold
  refine ⟨h.add hver hw hold (fun c k q => by obtain ⟨rfl, rfl⟩ := Prod.mk.inj (Option.some.inj q); exact ⟨hge, hlt⟩) ?_, hx⟩
  exact .inr ⟨e, l, rfl, he, .inr ⟨blk, cap, cs, t', fr, by simp [addBox], hnew, hth, htid, h1, h2, h3, h4⟩⟩

/-- A new buffer, in the next block. -/
theorem MemOk.newBuf (h : MemOk B γ mem w) {b : Nat} {e : Ty} {l : List e.den} {tid : TypeId} {ver cap : Nat} (hver : ∀ bx0, mem b = some bx0 → bx0.ver < ver) {cs : Array Value} {t' : TypeId} {fr : Nat × Nat} (he : 0 < e.size)
    (hw : Blw B w w') (hold : ∀ k, k < w.heap.size → w'.heap[k]? = w.heap[k]?) (hnew : w'.heap[w.heap.size]? = some (.cells cs t' fr)) (hth : ThB e cs fr) (htid : tid = 0 ∨ t' = tid)
    (h1 : l.length ≤ cap) (h2 : cap ≤ maxLen) (h3 : cs.size = cap * e.size) (h4 : ∀ (i : Nat) (x : e.den), l[i]? = some x → RepC w γ.I e x ((cs.toList.drop (i * e.size)).take e.size)) :
    let bx : Box := { val := .data (.slice e) l, tid, buf := true, ro := false, lk := false, ver }
    MemOk B (addBox γ b (some (w.heap.size, cap))) (setMem mem b bx) w' ∧ Ext B γ mem w (addBox γ b (some (w.heap.size, cap))) (setMem mem b bx) w' :=
  h.newBufAt hver he hw hold (Nat.le_refl _) hnew hth htid h1 h2 h3 fun i x hi =>
    RepC.mono (fun _ _ q => q) (fun blk o q => cell_of_same (hold blk (h.imm blk o q))) (h4 i x hi)

/-- A new buffer that has no block yet: nil. -/
theorem MemOk.newNil (h : MemOk B γ mem w) {b : Nat} {e : Ty} {tid : TypeId} {ver : Nat} (hver : ∀ bx0, mem b = some bx0 → bx0.ver < ver) (he : 0 < e.size) :
    let bx : Box := { val := .data (.slice e) ([] : List e.den), tid, buf := true, ro := false, lk := false, ver }
    MemOk B (addBox γ b none) (setMem mem b bx) w ∧ Ext B γ mem w (addBox γ b none) (setMem mem b bx) w := by
  intro bx
  have hx := ext_add (L := none) h (bx := bx) hver (Blw.refl B w) (fun _ _ => rfl)
  refine ⟨h.add hver (Blw.refl B w) (fun _ _ => rfl) (fun blk k e => by cases e) ?_, hx⟩
  exact .inr ⟨e, [], rfl, he, .inl ⟨by simp [addBox], rfl⟩⟩

/-- A new map that is not there yet. -/
theorem MemOk.newMap (h : MemOk B γ mem w) {b : Nat} {ver : Nat} (hver : ∀ bx0, mem b = some bx0 → bx0.ver < ver) :
    let bx : Box := { val := .mapv [], tid := 0, buf := true, ro := false, lk := false, ver }
    MemOk B (addBox γ b none) (setMem mem b bx) w ∧ Ext B γ mem w (addBox γ b none) (setMem mem b bx) w := by
  intro bx
  have hx := ext_add (L := none) h (bx := bx) hver (Blw.refl B w) (fun _ _ => rfl)
  refine ⟨h.add hver (Blw.refl B w) (fun _ _ => rfl) (fun blk k e => by cases e) ?_, hx⟩
  exact .inl ⟨[], rfl, .inl ⟨by simp [addBox], rfl⟩⟩

/-- The same, where the world has gone on. -/
theorem MemOk.newMapNil (h : MemOk B γ mem w) {b : Nat} {ver : Nat} (hver : ∀ bx0, mem b = some bx0 → bx0.ver < ver) (hw : Blw B w w') (hold : ∀ k, k < w.heap.size → w'.heap[k]? = w.heap[k]?) :
    let bx : Box := { val := .mapv [], tid := 0, buf := true, ro := false, lk := false, ver }
    MemOk B (addBox γ b none) (setMem mem b bx) w' ∧ Ext B γ mem w (addBox γ b none) (setMem mem b bx) w' := by
  intro bx
  have hx := ext_add (L := none) h (bx := bx) hver hw hold
  refine ⟨h.add hver hw hold (fun blk k e => by cases e) ?_, hx⟩
  exact .inl ⟨[], rfl, .inl ⟨by simp [addBox], rfl⟩⟩

/-- A new map, in a new block. -/
theorem MemOk.newMapAt (h : MemOk B γ mem w) {b : Nat} {ver blk : Nat} {o : Obj} {l : List (Int × Int × Unit)} (hver : ∀ bx0, mem b = some bx0 → bx0.ver < ver) (hw : Blw B w w') (hold : ∀ k, k < w.heap.size → w'.heap[k]? = w.heap[k]?) (hge : w.heap.size ≤ blk)
    (hnew : w'.heap[blk]? = some o) (hm : MapIs o l) :
    let bx : Box := { val := .mapv l, tid := 0, buf := true, ro := false, lk := false, ver }
    MemOk B (addBox γ b (some (blk, 0))) (setMem mem b bx) w' ∧ Ext B γ mem w (addBox γ b (some (blk, 0))) (setMem mem b bx) w' := by
  intro bx
  have hlt : blk < w'.heap.size := (Array.getElem?_eq_some_iff.1 hnew).1
  have hx := ext_add (L := some (blk, 0)) h (bx := bx) hver hw hold
  refine ⟨h.add hver hw hold (fun c k q => by obtain ⟨rfl, rfl⟩ := Prod.mk.inj (Option.some.inj q); exact ⟨hge, hlt⟩) ?_, hx⟩
  exact .inl ⟨l, rfl, .inr ⟨blk, 0, o, by simp [addBox], hnew, hm⟩⟩

theorem roSpan_write {bx : Box} {off : Nat} (h : roSpan bx off) (hro : bx.ro = false) : False := by rw [roSpan, hro] at h; exact absurd h.1 (by simp)

/-- What a box holds is made anew, in place. -/
theorem MemOk.write (h : MemOk B γ mem w) {b : Nat} {bx : Box} (hb : mem b = some bx) (hro : bx.ro = false) {blk k : Nat} (hl : γ.loc b = some (blk, k)) {cur cur' : Array Value} {t : TypeId} {fr : Nat × Nat}
    (hg : w.heap[blk]? = some (.cells cur t fr)) (hs : cur'.size = cur.size) {v : Val} (hrow : ({ bx with val := v } : Box).row = bx.row)
    (hat : ∀ w' mem', Ext B γ mem w γ mem' w' → w'.heap[blk]? = some (.cells cur' t fr) → BoxAt γ mem' w' b { bx with val := v }) :
    MemOk B γ (setMem mem b { bx with val := v }) (w.setRow blk cur') ∧ Ext B γ mem w γ (setMem mem b { bx with val := v }) (w.setRow blk cur') := by
  have hf := h.fresh b blk k (by rw [hb]; simp) hl
  have hblk := setRow_heap w blk cur cur' t fr hg
  have hother : ∀ i, i ≠ blk → (w.setRow blk cur').heap[i]? = w.heap[i]? := fun i hi => setRow_other w blk i cur' (fun e => hi e)
  have hx : Ext B γ mem w γ (setMem mem b { bx with val := v }) (w.setRow blk cur') :=
    { below := ⟨rfl, rfl, rfl, by simp, fun i hi => hother i (fun e => hi (by rw [e]; exact hf.1))⟩
      I := fun _ _ x => x
      anew := fun _ _ x => .inl x
      cells := fun c o x => by
        by_cases e : c = blk
        · subst e; exact (roSpan_write (h.sep b bx c k o hb hl x) hro).elim
        · exact cell_of_same (hother c e)
      boxes := fun c cx hc => by
        by_cases e : c = b
        · subst e
          obtain rfl : cx = bx := Option.some.inj (hc.symm.trans hb)
          exact ⟨_, setMem_same _ _, Nat.le_refl _, fun _ => ⟨rfl, rfl, hrow⟩⟩
        · exact ⟨cx, by rw [setMem_other _ e]; exact hc, Nat.le_refl _, fun _ => ⟨rfl, rfl, rfl⟩⟩ }
  refine ⟨?_, hx⟩
  exact
    { glob := h.globE hx
      base := by have := h.base; simpa using this
      boxes := fun c cx hc => by
        by_cases e : c = b
        · subst e
          rw [setMem_same] at hc
          obtain rfl := Option.some.inj hc
          exact hat _ _ hx hblk
        · rw [setMem_other _ e] at hc
          refine (h.boxes c cx hc).keep hx rfl fun blk' k' hl' => hother blk' fun e2 => e ?_
          subst e2
          exact h.inj c b blk' k' k (by rw [hc]; simp) (by rw [hb]; simp) hl' hl
      inj := fun c d blk' k1 k2 hc hd h1 h2 => h.inj c d blk' k1 k2 (by
          by_cases e : c = b
          · subst e; rw [hb]; simp
          · rwa [setMem_other _ e] at hc) (by
          by_cases e : d = b
          · subst e; rw [hb]; simp
          · rwa [setMem_other _ e] at hd) h1 h2
      fresh := fun c blk' k' hc h1 => by
        have := h.fresh c blk' k' (by
          by_cases e : c = b
          · subst e; rw [hb]; simp
          · rwa [setMem_other _ e] at hc) h1
        exact ⟨this.1, by simpa using this.2⟩
      imm := fun blk' off hi => by have := h.imm blk' off hi; simpa using this
      sep := fun c cx blk' k' off hc h1 hi => by
        by_cases e : c = b
        · subst e
          rw [hl] at h1
          obtain ⟨rfl, rfl⟩ := Prod.mk.inj (Option.some.inj h1)
          exact (roSpan_write (h.sep c bx blk k off hb hl hi) hro).elim
        · rw [setMem_other _ e] at hc
          exact h.sep c cx blk' k' off hc h1 hi }

/-- The cells of a box's elements, that never change from now on. -/
def freezeGh (γ : Gh) (b : Nat) (n : Nat) : Gh := { γ with I := fun blk off => γ.I blk off ∨ ((∃ k, γ.loc b = some (blk, k)) ∧ off < n) }

theorem MemOk.freeze (h : MemOk B γ mem w) {b : Nat} {bx : Box} (hb : mem b = some bx) {e : Ty} {n : Nat} (hrow : bx.row = some (e, n)) :
    MemOk B (freezeGh γ b (n * e.size)) (setMem mem b { bx with ro := true }) w ∧ Ext B γ mem w (freezeGh γ b (n * e.size)) (setMem mem b { bx with ro := true }) w := by
  have hx : Ext B γ mem w (freezeGh γ b (n * e.size)) (setMem mem b { bx with ro := true }) w :=
    { below := Blw.refl _ _
      I := fun _ _ x => .inl x
      anew := fun blk o x => by
        rcases x with x | ⟨⟨k, x⟩, _⟩
        · exact .inl x
        · exact .inr (h.fresh b blk k (by rw [hb]; simp) x).1
      cells := fun _ _ _ => rfl
      boxes := fun c cx hc => by
        by_cases e : c = b
        · subst e
          obtain rfl : cx = bx := Option.some.inj (hc.symm.trans hb)
          exact ⟨_, setMem_same _ _, Nat.le_refl _, fun _ => ⟨rfl, rfl, rfl⟩⟩
        · exact ⟨cx, by rw [setMem_other _ e]; exact hc, Nat.le_refl _, fun _ => ⟨rfl, rfl, rfl⟩⟩ }
  refine ⟨?_, hx⟩
  exact
    { glob := h.globE hx
      base := h.base
      boxes := fun c cx hc => by
        by_cases e : c = b
        · subst e
          rw [setMem_same] at hc
          obtain rfl := Option.some.inj hc
          have := (h.boxes c bx hb).keep hx rfl (fun _ _ _ => rfl)
          exact this
        · rw [setMem_other _ e] at hc
          exact (h.boxes c cx hc).keep hx rfl (fun _ _ _ => rfl)
      inj := fun c d blk' k1 k2 hc hd h1 h2 => h.inj c d blk' k1 k2 (by
          by_cases e : c = b
          · subst e; rw [hb]; simp
          · rwa [setMem_other _ e] at hc) (by
          by_cases e : d = b
          · subst e; rw [hb]; simp
          · rwa [setMem_other _ e] at hd) h1 h2
      fresh := fun c blk' k' hc h1 => h.fresh c blk' k' (by
          by_cases e : c = b
          · subst e; rw [hb]; simp
          · rwa [setMem_other _ e] at hc) h1
      imm := fun blk' off hi => by
        rcases hi with hi | ⟨⟨k, hk⟩, _⟩
        · exact h.imm blk' off hi
        · exact (h.fresh b blk' k (by rw [hb]; simp) hk).2
      sep := fun c cx blk' k' off hc h1 hi => by
        by_cases e' : c = b
        · subst e'
          rw [setMem_same] at hc
          obtain rfl := Option.some.inj hc
          rcases hi with hi | ⟨⟨k, hk⟩, ho⟩
          · obtain ⟨a1, a2⟩ := h.sep c bx blk' k' off hb h1 hi
            exact ⟨rfl, a2⟩
          · refine ⟨rfl, fun _ u m hr => ?_⟩
            have hr' : bx.row = some (u, m) := hr
            rw [hrow] at hr'
            obtain ⟨rfl, rfl⟩ := Prod.mk.inj (Option.some.inj hr')
            exact ho
        · rw [setMem_other _ e'] at hc
          rcases hi with hi | ⟨⟨k, hk⟩, ho⟩
          · exact h.sep c cx blk' k' off hc h1 hi
          · exact absurd (h.inj c b blk' k' k (by rw [hc]; simp) (by rw [hb]; simp) h1 hk) e' }
end

end Go.Ge
namespace Go.Ge
set_option linter.unusedVariables false
set_option linter.unusedSimpArgs false
open RowKit

/-- A value is reckoned, a slot is written; the ghost state goes along. -/
def Goes (P : Program) (B : Own) (N : Nat) (γ : Gh) (σ : St) (a : Act) (w : World) (d : Option Nat) (s : Sem Value) (σ' : St) : Prop :=
  ∃ v w' γ', s.run P w = .ok v w' ∧ Sim B N γ' σ' (a.put d v) w' ∧ Ext B γ σ.mem w γ' σ'.mem w'

section
variable {P : Program} {B : Own} {N : Nat} {γ : Gh} {σ σ' : St} {a : Act} {w : World} {d : Option Nat}

theorem goes_put (h : Sim B N γ σ a w) (hd : ∀ k, d = some k → k < N) {s : Sem Value} {v : Val} {x : Value} (hs : s.run P w = .ok x w) (hv : Rep γ σ.mem w v .val [x]) :
    Goes P B N γ σ a w d s (σ.putO d v) :=
  ⟨x, w, γ, hs, h.putO' hd hv, by cases d <;> exact Ext.refl _ _ _ _⟩

theorem ver_newBox {β : Type} {b : Nat} {val : Val} {tid : TypeId} {buf : Bool} {k : Nat → St → Tree β} {y : β} (h : (σ.newBox b val tid buf k).run = some y) :
    ∃ ver, (∀ bx0, σ.mem b = some bx0 → bx0.ver < ver) ∧ (k ver (σ.setBox b { val, tid, buf, ro := false, lk := false, ver })).run = some y := by
  unfold St.newBox at h
  split at h
  · rename_i bx hb
    cases hl : bx.lk with
    | true => rw [hl] at h; cases h
    | false =>
      rw [hl] at h
      exact ⟨bx.ver + 1, (fun bx0 h0 => by rw [hb] at h0; obtain rfl := Option.some.inj h0; omega), h⟩
  · rename_i hb
    exact ⟨0, (fun bx0 h0 => by rw [hb] at h0; cases h0), h⟩

theorem setBox_mem (σ : St) (b : Nat) (bx : Box) : (σ.setBox b bx).mem = setMem σ.mem b bx := rfl

/-- A reference to a box just made. -/
theorem ofBox_new {mem : Nat → Option Box} {b ver : Nat} {bx : Box} (h : mem b = some bx) (hv : bx.ver = ver) {K : Box → Prop} (hk : K bx) : OfBox mem b ver K :=
  ⟨bx, h, by omega, fun _ => hk⟩

theorem stepAssign_sound {cx : Ctx} (hc : CxOk P cx) {nb : Nat} {bf : List Nat} {ty : TypeId} {x : Operand} (h : Sim B N γ σ a w) (hd : ∀ k, d = some k → k < N)
    (hr : (stepAssign cx nb bf d ty (opv σ x) σ).run = some σ') : Goes P B N γ σ a w d (pure (a.eval x)) σ' := by
  have hv := h.opv x
  unfold stepAssign at hr
  split at hr
  · rename_i hn
    rw [hn] at hv
    obtain ⟨_, hr⟩ := bif_some hr
    obtain rfl := Option.some.inj hr
    exact goes_put h hd rfl hv
  · rename_i hn
    rw [hn] at hv
    have hx : a.eval x = .slice none 0 0 := by simpa [Rep] using hv
    split at hr
    · rename_i k e hT
      cases hb : memN bf k with
      | true =>
        rw [hb] at hr
        simp only [cond_true] at hr
        obtain ⟨ver, hver, hr2⟩ := ver_newBox hr
        obtain rfl := Option.some.inj hr2
        obtain ⟨eid, h1, h2, h3, h4⟩ := (hc.T _ _ hT).slice
        obtain ⟨m1, m2⟩ := h.ok.newNil (tid := 0) hver h4
        refine ⟨_, w, _, rfl, h.step m2 m1 (hd k rfl) ?_, m2⟩
        rw [hx]
        exact ⟨⟨_, rfl, rfl⟩, ofBox_new (setMem_same _ _) rfl ⟨e, 0, rfl, rfl, .inl ⟨by simp [addBox], rfl⟩⟩⟩
      | false =>
        rw [hb] at hr
        obtain rfl := Option.some.inj hr
        exact goes_put (d := some k) h hd rfl (by rw [hx]; exact ⟨_, .inl ⟨⟨none, rfl⟩, rfl⟩, rfl⟩)
    · obtain rfl := Option.some.inj hr
      exact goes_put h hd rfl (by rw [hx]; rfl)
  · obtain rfl := Option.some.inj hr
    exact goes_put h hd rfl hv

theorem repBool {b : Bool} {v : Value} (h : Rep γ σ.mem w (.data .bool b) .val [v]) : v = .bool b := by
  obtain ⟨cs, h1, h2⟩ := repV_data.1 h
  rw [h2, show cs = _ from h1]; rfl
theorem repInt {k : IntKind} {n : Int} {v : Value} (h : Rep γ σ.mem w (.data (.int k) n) .val [v]) : v = .int k n ∧ k.min ≤ n ∧ n ≤ k.max := by
  obtain ⟨cs, h1, h2⟩ := repV_data.1 h
  rw [h2, h1.1]; exact ⟨rfl, h1.2⟩
theorem repStr {s : List UInt8} {v : Value} (h : Rep γ σ.mem w (.data .str s) .val [v]) : v = .string ⟨s.toArray⟩ ∧ s.length ≤ maxLen := by
  obtain ⟨cs, h1, h2⟩ := repV_data.1 h
  rw [h2, h1.1]; exact ⟨rfl, h1.2⟩
theorem mkBool (b : Bool) : Rep γ σ.mem w (.data .bool b) .val [.bool b] := ⟨_, rfl, rfl⟩
theorem mkInt {k : IntKind} {n : Int} (h : k.min ≤ n ∧ n ≤ k.max) : Rep γ σ.mem w (.data (.int k) n) .val [.int k n] := ⟨_, ⟨rfl, h.1, h.2⟩, rfl⟩
theorem mkStr {s : List UInt8} (h : s.length ≤ maxLen) : Rep γ σ.mem w (.data .str s) .val [.string ⟨s.toArray⟩] := ⟨_, ⟨rfl, h⟩, rfl⟩

theorem stepPick_sound {c x y : Operand} (h : Sim B N γ σ a w) (hd : ∀ k, d = some k → k < N) (hr : (stepPick d (opv σ c) (opv σ x) (opv σ y) σ).run = some σ') :
    Goes P B N γ σ a w d (do pure (if ← asBool (a.eval c) then a.eval x else a.eval y)) σ' := by
  have hc := h.opv c; have hx := h.opv x; have hy := h.opv y
  unfold stepPick at hr
  split at hr
  · rename_i cb hcb
    rw [hcb] at hc
    have hcv : a.eval c = .bool cb := repBool hc
    have hrun : (do pure (if ← asBool (a.eval c) then a.eval x else a.eval y) : Sem Value).run P w = .ok (if (show Bool from cb) = true then a.eval x else a.eval y) w := by
      rw [hcv]; cases cb <;> rfl
    split at hr
    · rename_i t x1 u y1 hx1 hy1
      rw [hx1] at hx; rw [hy1] at hy
      split at hr
      · rename_i y2 hy2
        obtain rfl := Option.some.inj hr
        obtain ⟨e, e2⟩ := Ty.to_some hy2
        subst e; subst e2
        refine goes_put h hd hrun ?_
        cases cb
        · exact hy
        · exact hx
      · cases hr
    · have hr2 := node_some hr
      cases cb
      · obtain rfl := Option.some.inj hr2; exact goes_put h hd hrun hy
      · obtain rfl := Option.some.inj hr2; exact goes_put h hd hrun hx
  · cases hr

/-! ### Operators -/

theorem int_in_wrap (k : IntKind) (n : Int) : k.min ≤ k.wrap n ∧ k.wrap n ≤ k.max := wrap_within k n

theorem tmod_in {k : IntKind} {x y : Int} (h : k.min ≤ x ∧ x ≤ k.max) : k.min ≤ x.tmod y ∧ x.tmod y ≤ k.max := by
  have hmin : k.min ≤ 0 := by cases k <;> decide
  have hmax : 0 ≤ k.max := by cases k <;> decide
  have hab : (x.tmod y).natAbs ≤ x.natAbs := by
    rw [Int.natAbs_tmod]; exact Nat.mod_le _ _
  rcases Int.le_total 0 x with h0 | h0
  · have := Int.tmod_nonneg y h0
    omega
  · have : x.tmod y ≤ 0 := by
      have := Int.tmod_nonneg y (show 0 ≤ -x by omega)
      rw [Int.neg_tmod] at this; omega
    omega

theorem fdiv_in {k : IntKind} {x : Int} (n : Nat) (h : k.min ≤ x ∧ x ≤ k.max) : k.min ≤ x.fdiv (2 ^ n) ∧ x.fdiv (2 ^ n) ≤ k.max := by
  have hmin : k.min ≤ 0 := by cases k <;> decide
  have hmax : 0 ≤ k.max := by cases k <;> decide
  have hp : (0 : Int) < 2 ^ n := Int.pow_pos (by decide)
  have e : x.fdiv (2 ^ n) = x / 2 ^ n := Int.fdiv_eq_ediv_of_nonneg _ (by omega)
  rw [e]
  rcases Int.le_total 0 x with h0 | h0
  · have h1 := Int.ediv_nonneg h0 (Int.le_of_lt hp)
    have h2 := Int.ediv_le_self (2 ^ n : Int) h0
    omega
  · have h2 : x / 2 ^ n < 1 := Int.ediv_lt_of_lt_mul hp (by omega)
    have h3 : x ≤ x / 2 ^ n := by
      rw [Int.le_ediv_iff_mul_le hp]
      have h1 : (1 : Int) ≤ 2 ^ n := hp
      have := Int.mul_le_mul_of_nonpos_left h0 h1
      simpa using this
    omega

theorem isShift_some {op : BinOp} {l : Bool} (h : isShift op = some l) : (op = .shl ∧ l = true) ∨ (op = .shr ∧ l = false) := by
  cases op <;> simp [isShift] at h <;> simp [h]
theorem isEq_some {op : BinOp} {l : Bool} (h : isEq op = some l) : (op = .eql ∧ l = true) ∨ (op = .neq ∧ l = false) := by
  cases op <;> simp [isEq] at h <;> simp [h]

/-- The whole of a binary operation as execOp has it. -/
def binSem (op : BinOp) (xt : TypeId) (x y : Operand) (u v : Value) : Sem Value := do eqGuard op xt x y u v; binOp op xt u v

theorem binInt_sound {op : BinOp} {k : IntKind} {n m : Int} {v : Val} {xt : TypeId} {x y : Operand} (hn : k.min ≤ n ∧ n ≤ k.max) (hs : isShift op = none) (hr : (binInt op k n m).run = some v) :
    ∃ r, (binSem op xt x y (.int k n) (.int k m)).run P w = .ok r w ∧ Rep γ σ.mem w v .val [r] := by
  unfold binSem
  cases op <;> simp only [eqGuard_at_int, Sem.run_bind, Sem.run_pure, Result.andThen_ok] <;> simp only [binInt] at hr
  case add => obtain rfl := Option.some.inj hr; exact ⟨.int k (iadd k n m), by simp only [binOp_add, Op.intArith, Sem.run_pure]; rfl, mkInt (int_in_wrap _ _)⟩
  case sub => obtain rfl := Option.some.inj hr; exact ⟨.int k (isub k n m), by simp only [binOp_sub, Op.intArith, Sem.run_pure]; rfl, mkInt (int_in_wrap _ _)⟩
  case mul => obtain rfl := Option.some.inj hr; exact ⟨.int k (imul k n m), by simp only [binOp_mul, Op.intArith, Sem.run_pure]; rfl, mkInt (int_in_wrap _ _)⟩
  case quo =>
    have hr2 := node_some hr
    cases hz : eqI m 0
    · rw [hz] at hr2; obtain rfl := Option.some.inj hr2
      have hm : m ≠ 0 := by simpa [eqI] using hz
      exact ⟨.int k (iquo k n m), by simp only [binOp_quo, Op.intDiv, if_neg hm, Sem.run_pure]; rfl, mkInt (int_in_wrap _ _)⟩
    · rw [hz] at hr2; cases hr2
  case rem =>
    have hr2 := node_some hr
    cases hz : eqI m 0
    · rw [hz] at hr2; obtain rfl := Option.some.inj hr2
      have hm : m ≠ 0 := by simpa [eqI] using hz
      exact ⟨.int k (irem n m), by simp only [binOp_rem, Op.intDiv, if_neg hm, Sem.run_pure]; rfl, mkInt (tmod_in hn)⟩
    · rw [hz] at hr2; cases hr2
  case and => obtain rfl := Option.some.inj hr; exact ⟨.int k (iand k n m), by simp only [binOp_and, intBits_and, Sem.run_pure]; rfl, mkInt (int_in_wrap _ _)⟩
  case or => obtain rfl := Option.some.inj hr; exact ⟨.int k (ior k n m), by simp only [binOp_or, intBits_or, Sem.run_pure]; rfl, mkInt (int_in_wrap _ _)⟩
  case xor => obtain rfl := Option.some.inj hr; exact ⟨.int k (ixor k n m), by simp only [binOp_xor, intBits_xor, Sem.run_pure]; rfl, mkInt (int_in_wrap _ _)⟩
  case andNot => obtain rfl := Option.some.inj hr; exact ⟨.int k (iandn k n m), by simp only [binOp_andNot, intBits_andNot, Sem.run_pure]; rfl, mkInt (int_in_wrap _ _)⟩
  case shl => cases hs
  case shr => cases hs
  case eql => obtain rfl := Option.some.inj hr; exact ⟨.bool (eqI n m), by simp [binOp, Op.intCmp, eqI]; rfl, mkBool _⟩
  case neq => obtain rfl := Option.some.inj hr; exact ⟨.bool (nt (eqI n m)), by simp [binOp, Op.intCmp, eqI, nt]; rfl, mkBool _⟩
  case lss => obtain rfl := Option.some.inj hr; exact ⟨.bool (ltI n m), by simp [binOp, Op.intCmp, ltI], mkBool _⟩
  case leq => obtain rfl := Option.some.inj hr; exact ⟨.bool (leI n m), by simp [binOp, Op.intCmp, leI], mkBool _⟩
  case gtr => obtain rfl := Option.some.inj hr; exact ⟨.bool (ltI m n), by simp [binOp, Op.intCmp, ltI], mkBool _⟩
  case geq => obtain rfl := Option.some.inj hr; exact ⟨.bool (leI m n), by simp [binOp, Op.intCmp, leI], mkBool _⟩

theorem bytes_toList (s : List UInt8) : (⟨s.toArray⟩ : ByteArray).toList = s := by rw [ByteArray.toList_eq]

theorem beqS (s t : List UInt8) : (s == t) = eqS s t := by rw [Bool.eq_iff_iff]; simp [eqS]

theorem binStr_sound {op : BinOp} {s t : List UInt8} {v : Val} {xt : TypeId} {x y : Operand} (hr : (binStr op s t).run = some v) :
    ∃ r, (binSem op xt x y (.string ⟨s.toArray⟩) (.string ⟨t.toArray⟩)).run P w = .ok r w ∧ Rep γ σ.mem w v .val [r] := by
  unfold binSem
  cases op <;> simp only [eqGuard_at_string, Sem.run_bind, Sem.run_pure, Result.andThen_ok] <;> simp only [binStr] at hr <;> try (cases hr; done)
  case add =>
    obtain ⟨hf, hr2⟩ := need_some hr
    obtain rfl := Option.some.inj hr2
    have hl : s.length + t.length ≤ 4294967296 := by have h2 : plus (len s) (len t) ≤ 4294967296 := of_decide_eq_true hf; simp only [plus, len] at h2; omega
    refine ⟨.string ⟨(s ++ t).toArray⟩, ?_, mkStr (by simp only [app, List.length_append, maxLen]; omega)⟩
    have hsz : ∀ l : List UInt8, (⟨l.toArray⟩ : ByteArray).size = l.length := fun l => rfl
    have : ¬ (((s.length + t.length : Nat) : Int) > IntKind.i64.max) := by rw [IntKind.max_i64]; omega
    simp only [binOp, Op.stringOp, hsz, this, if_false, Sem.run_pure]
    congr 2
  case eql => obtain rfl := Option.some.inj hr; exact ⟨.bool (eqS s t), by simp only [binOp, Op.stringOp, bytes_toList, beqS, Sem.run_pure], mkBool _⟩
  case neq => obtain rfl := Option.some.inj hr; exact ⟨.bool (nt (eqS s t)), by simp only [binOp, Op.stringOp, bytes_toList, beqS, Sem.run_pure]; rfl, mkBool _⟩
  case lss => obtain rfl := Option.some.inj hr; exact ⟨.bool (ltS s t), by simp only [binOp, Op.stringOp, bytes_toList, beqS, Sem.run_pure]; rfl, mkBool _⟩
  case leq => obtain rfl := Option.some.inj hr; exact ⟨.bool (oor (ltS s t) (eqS s t)), by simp only [binOp, Op.stringOp, bytes_toList, beqS, Sem.run_pure]; rfl, mkBool _⟩
  case gtr => obtain rfl := Option.some.inj hr; exact ⟨.bool (nt (oor (ltS s t) (eqS s t))), by simp only [binOp, Op.stringOp, bytes_toList, beqS, Sem.run_pure]; rfl, mkBool _⟩
  case geq => obtain rfl := Option.some.inj hr; exact ⟨.bool (nt (ltS s t)), by simp only [binOp, Op.stringOp, bytes_toList, beqS, Sem.run_pure]; rfl, mkBool _⟩

theorem shift_sound {op : BinOp} {left : Bool} {k k' : IntKind} {n m : Int} {xt : TypeId} {x y : Operand} (hn : k.min ≤ n ∧ n ≤ k.max) (hs : isShift op = some left) (h0 : ltI m 0 = false) :
    ∃ r, (binSem op xt x y (.int k n) (.int k' m)).run P w = .ok r w ∧ Rep γ σ.mem w (.data (.int k) (bif left then ishl k n m else ishr k n m)) .val [r] := by
  have h1 : ¬ m < 0 := by simpa [ltI] using h0
  unfold binSem
  rcases isShift_some hs with ⟨rfl, rfl⟩ | ⟨rfl, rfl⟩
  · exact ⟨.int k (ishl k n m), by simp only [eqGuard_shl, binOp_shl, Op.shift, if_neg h1, Sem.run_bind, Sem.run_pure, Result.andThen_ok]; rfl, mkInt (int_in_wrap _ _)⟩
  · exact ⟨.int k (ishr k n m), by simp only [eqGuard_shr, binOp_shr, Op.shift, if_neg h1, Sem.run_bind, Sem.run_pure, Result.andThen_ok]; rfl, mkInt (fdiv_in _ hn)⟩

/-- The parts of a value that is an aggregate. -/
theorem part_of {t : Ty} {tid : TypeId} (ht : Den P t tid) {cs : Array Value} {off : Nat} (h : off + t.size ≤ cs.size) (h1 : t.isAgg = false → t.size = 1) :
    (part tid cs off).run P w = .ok (ofCells t ((cs.toList.drop off).take t.size)) w := by
  unfold part
  rw [Sem.run_bind, ht.agg w, Result.andThen_ok]
  cases hag : t.isAgg with
  | true =>
    simp only [if_true, Sem.run_bind, ht.sizeOf w, Result.andThen_ok, Sem.run_pure, ofCells, hag, cond_true]
    congr 2
    apply Array.ext'
    simp
  | false =>
    have hs := h1 hag
    simp only [if_neg (show ¬ (false = true) by simp), ofCells, hag, cond_false, hs]
    have hlt : off < cs.size := by omega
    have e : (cs.toList.drop off).take 1 = [cs[off]] := by
      apply List.ext_getElem?
      intro i
      rw [List.getElem?_take]
      cases i with
      | zero => simp [hlt]
      | succ i => simp
    rw [e]
    simp [hlt]

theorem scalar_size : ∀ {t : Ty}, t.isAgg = false → t.size = 1 := by
  intro t h
  induction t with
  | alt u a r iha ihr => exact ihr h
  | arr | pair | unit => cases h
  | _ => rfl

theorem rank_pos (t : Ty) : 1 ≤ t.rank := by cases t <;> simp [Ty.rank]

/-- Equality of data. -/
theorem equalIn_sound {γ : Gh} {w : World} : ∀ (t : Ty), (∀ (d : Nat) (tid : TypeId) (x y : t.den) (cx cy : List Value) (c : Bool), Den P t tid → RepC w γ.I t x cx → RepC w γ.I t y cy → Ty.eqv t x y = some c → t.rank < d →
      (Op.equalIn d tid (ofCells t cx) (ofCells t cy)).run P w = .ok c w) ∧
    (∀ (d off : Nat) (fs : List Field) (x y : t.den) (cx cy : List Value) (xs ys : Array Value) (c : Bool), DenF P t off fs → RepC w γ.I t x cx → RepC w γ.I t y cy → Ty.eqv t x y = some c → t.rank < d →
      xs.toList.drop off = cx → ys.toList.drop off = cy → off ≤ xs.size → off ≤ ys.size → (Op.eqFields d xs ys fs).run P w = .ok c w) := by
  intro t
  induction t with
  | int k =>
    refine ⟨fun d tid x y cx cy c hd hx hy he hs => ?_, fun d off fs x y cx cy xs ys c hd => by simp [DenF, denG] at hd⟩
    obtain ⟨d, rfl⟩ : ∃ e, d = e + 1 := ⟨d - 1, by omega⟩
    rw [hx.1, hy.1]
    obtain rfl := Option.some.inj he
    show (Op.equalIn (d + 1) tid (.int k x) (.int k y)).run P w = _
    rw [run_equalIn_int w d tid k k x y hd.int]
    congr 1
  | bool =>
    refine ⟨fun d tid x y cx cy c hd hx hy he hs => ?_, fun d off fs x y cx cy xs ys c hd => by simp [DenF, denG] at hd⟩
    obtain ⟨d, rfl⟩ : ∃ e, d = e + 1 := ⟨d - 1, by omega⟩
    rw [show cx = _ from hx, show cy = _ from hy]
    obtain rfl := Option.some.inj he
    exact run_equalIn_bool' w d tid x y hd.bool
  | str =>
    refine ⟨fun d tid x y cx cy c hd hx hy he hs => ?_, fun d off fs x y cx cy xs ys c hd => by simp [DenF, denG] at hd⟩
    obtain ⟨d, rfl⟩ : ∃ e, d = e + 1 := ⟨d - 1, by omega⟩
    rw [hx.1, hy.1]
    obtain rfl := Option.some.inj he
    have h1 := run_equalIn_string (P := P) w d tid ⟨List.toArray (α := UInt8) x⟩ ⟨List.toArray (α := UInt8) y⟩ hd.str
    rw [bytes_toList (show List UInt8 from x), bytes_toList (show List UInt8 from y), beqS] at h1
    exact h1
  | slice e ih => exact ⟨(fun d tid x y cx cy c hd hx hy he => by cases he), (fun d off fs x y cx cy xs ys c hd => by simp [DenF, denG] at hd)⟩
  | alt u a r iha ihr => exact ⟨(fun d tid x y cx cy c hd hx hy he => by cases he), (fun d off fs x y cx cy xs ys c hd => by simp [DenF, denG] at hd)⟩
  | noi => exact ⟨(fun d tid x y cx cy c hd hx hy he => by cases he), (fun d off fs x y cx cy xs ys c hd => by simp [DenF, denG] at hd)⟩
  | arr n e ih =>
    refine ⟨fun d tid x y cx cy c hd hx hy he hs => ?_, (fun d off fs x y cx cy xs ys c hd => by simp [DenF, denG] at hd)⟩
    cases e with
    | int k =>
      obtain ⟨d, rfl⟩ : ∃ e, d = e + 1 := ⟨d - 1, by omega⟩
      obtain ⟨d, rfl⟩ : ∃ e, d = e + 1 := ⟨d - 1, by have : (Ty.arr n (.int k)).rank = 1 + 1 := rfl; omega⟩
      obtain rfl := Option.some.inj he
      obtain ⟨eid, k1, k2, k3⟩ := hd.arr
      obtain ⟨i, z, i1, i2, _, _⟩ := k2.info
      have hcell := k2.cells
      show (Op.equalIn (d + 1 + 1) tid (.agg cx.toArray) (.agg cy.toArray)).run P w = _
      rw [run_equalIn_array w (d + 1) cx.toArray cy.toArray k1 i1, hcell]
      obtain ⟨hxl, hxc, hxe⟩ := hx
      obtain ⟨hyl, hyc, hye⟩ := hy
      have hz : (Ty.int k).size = 1 := rfl
      rw [hz] at hxc hxe hyc hye ⊢
      rw [Nat.mul_one] at hxc hyc
      change List Int at x y
      have item : ∀ is : List Nat, (∀ i ∈ is, i < n) → (Op.eqItems (d + 1) eid 1 cx.toArray cy.toArray is).run P w = .ok (is.all fun i => decide (x[i]? = y[i]?)) w := by
        intro is
        induction is with
        | nil => intro _; rfl
        | cons i is ihs =>
          intro hi
          have hin := hi i (List.mem_cons_self ..)
          obtain ⟨a, hxi⟩ : ∃ a, x[i]? = some a := ⟨_, List.getElem?_eq_getElem (by rw [show x.length = n from hxl]; exact hin)⟩
          obtain ⟨b, hyi⟩ : ∃ a, y[i]? = some a := ⟨_, List.getElem?_eq_getElem (by rw [show y.length = n from hyl]; exact hin)⟩
          have px := part_of (w := w) k2 (cs := cx.toArray) (off := i * 1) (by rw [hz]; simp [hxc]; omega) (fun _ => hz)
          have py := part_of (w := w) k2 (cs := cy.toArray) (off := i * 1) (by rw [hz]; simp [hyc]; omega) (fun _ => hz)
          have ex := (hxe i _ hxi).1
          have ey := (hye i _ hyi).1
          rw [hz] at px py
          rw [show cx.toArray.toList = cx from rfl, ex] at px
          rw [show cy.toArray.toList = cy from rfl, ey] at py
          simp only [Op.eqItems, Sem.run_bind, px, py, Result.andThen_ok]
          have heq := run_equalIn_int w d eid k k a b k2.int
          simp only [ofCells, Ty.isAgg, cond_false, List.headD_cons, heq, if_true, Result.andThen_ok, hxi, hyi, List.all_cons]
          cases hb : (a == b) with
          | true =>
            have hxy : a = b := by simpa using hb
            simp only [Bool.not_true, Bool.false_eq_true, if_false, hxy, decide_true, Bool.true_and]
            exact ihs fun j hj => hi j (List.mem_cons_of_mem _ hj)
          | false =>
            have hxy : ¬ a = b := by simpa using hb
            simp [hxy]
      rw [item _ fun i hi => List.mem_range.1 hi]
      congr 1
      unfold eqL
      rw [Bool.eq_iff_iff, List.all_eq_true]
      simp only [List.mem_range, decide_eq_true_eq]
      constructor
      · intro h
        apply List.ext_getElem?
        intro i
        by_cases hin : i < n
        · exact h i hin
        · rw [List.getElem?_eq_none (by rw [show x.length = n from hxl]; omega), List.getElem?_eq_none (by rw [show y.length = n from hyl]; omega)]
      · intro h i _
        exact congrArg (fun l => l[i]?) h
    | _ => cases he
  | unit =>
    refine ⟨(fun d tid x y cx cy c hd => by simp [Den, denG] at hd), fun d off fs x y cx cy xs ys c hd hx hy he hs h1 h2 h3 h4 => ?_⟩
    cases fs with
    | nil => obtain rfl := Option.some.inj he; rfl
    | cons f r => simp [DenF, denG] at hd
  | pair a b iha ihb =>
    have key : (∀ (d off : Nat) (fs : List Field) (x y : (Ty.pair a b).den) (cx cy : List Value) (xs ys : Array Value) (c : Bool), DenF P (.pair a b) off fs → RepC w γ.I (.pair a b) x cx → RepC w γ.I (.pair a b) y cy → Ty.eqv (.pair a b) x y = some c → (Ty.pair a b).rank < d + 1 →
      xs.toList.drop off = cx → ys.toList.drop off = cy → off ≤ xs.size → off ≤ ys.size → (Op.eqFields d xs ys fs).run P w = .ok c w) := by
      intro d off fs x y cx cy xs ys c hd hx hy he hs h1 h2 h3 h4
      obtain ⟨f, r, rfl, k1, k2, k3, k4, k5⟩ := hd.cons
      obtain ⟨x1, x2, hxe, hx1, hx2⟩ := hx
      obtain ⟨y1, y2, hye, hy1, hy2⟩ := hy
      simp only [Ty.eqv] at he
      cases hea : Ty.eqv a x.1 y.1 with
      | none => rw [hea] at he; cases he
      | some p =>
        cases heb : Ty.eqv b x.2 y.2 with
        | none => rw [hea, heb] at he; cases he
        | some q =>
          rw [hea, heb] at he
          obtain rfl := Option.some.inj he
          have hlx := hx1.length
          have hly := hy1.length
          have lx : xs.size - off = x1.length + x2.length := by
            have := congrArg List.length (h1.trans hxe); simpa using this
          have ly : ys.size - off = y1.length + y2.length := by
            have := congrArg List.length (h2.trans hye); simpa using this
          have px := part_of (w := w) k3 (cs := xs) (off := f.offset) (by omega) scalar_size
          have py := part_of (w := w) k3 (cs := ys) (off := f.offset) (by omega) scalar_size
          have ex : (xs.toList.drop f.offset).take a.size = x1 := by rw [k1, h1, hxe, ← hlx, List.take_left]
          have ey : (ys.toList.drop f.offset).take a.size = y1 := by rw [k1, h2, hye, ← hly, List.take_left]
          rw [ex] at px
          rw [ey] at py
          have hsz : (Ty.pair a b).rank = a.rank + b.rank + 1 := rfl
          have hra := rank_pos a
          have hrb := rank_pos b
          have heq := iha.1 d f.type x.1 y.1 x1 y1 p k3 hx1 hy1 hea (by omega)
          simp only [Op.eqFields, if_pos k2, Sem.run_bind, px, py, heq, Result.andThen_ok]
          cases p with
          | false => simp [an]
          | true =>
            simp only [Bool.not_true, Bool.false_eq_true, if_false]
            rw [ihb.2 d (off + a.size) r x.2 y.2 x2 y2 xs ys q k5 hx2 hy2 heb (by omega) (by rw [← List.drop_drop, h1, hxe, ← hlx, List.drop_left]) (by rw [← List.drop_drop, h2, hye, ← hly, List.drop_left]) (by omega) (by omega)]
            simp [an]
    refine ⟨fun d tid x y cx cy c hd hx hy he hs => ?_, fun d off fs x y cx cy xs ys c hd hx hy he hs => key d off fs x y cx cy xs ys c hd hx hy he (by omega)⟩
    obtain ⟨d, rfl⟩ : ∃ e, d = e + 1 := ⟨d - 1, by omega⟩
    obtain ⟨fs, k1, k2, k3, k4⟩ := hd.pair
    have hf : P.fieldsOf tid = fs := by simp [Program.fieldsOf, k1]
    show (Op.equalIn (d + 1) tid (.agg _) (.agg _)).run P w = _
    rw [run_equalIn_struct w d tid _ _ (by rw [hf]; exact k1) k4, hf]
    exact key d 0 fs.toList x y cx cy _ _ c k2 hx hy he (by omega) (by simp) (by simp) (by simp) (by simp)

end

end Go.Ge
