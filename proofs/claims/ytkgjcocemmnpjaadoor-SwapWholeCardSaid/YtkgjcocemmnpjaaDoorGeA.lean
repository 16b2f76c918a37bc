/- A ghost interpreter of the model's code, and that it tells the truth: part 1. It says of a function of plain data what a call of it comes to. -/
import Derived.WalkKit
namespace Go.Ge
set_option linter.unusedVariables false

/-- The types of plain data. A struct is a chain of pairs that ends in unit; an interface is a chain of the types that its values may have, and ends in none. -/
inductive Ty where
  | int (k : IntKind) | bool | str | slice (e : Ty) | arr (n : Nat) (e : Ty) | pair (a b : Ty) | unit
  | alt (u : Nat) (a r : Ty) | noi

def Ty.den : Ty → Type
  | .int _ => Int
  | .bool => Bool
  | .str => List UInt8
  | .slice e => List e.den
  | .arr _ e => List e.den
  | .pair a b => a.den × b.den
  | .unit => Unit
  | .alt _ a r => a.den ⊕ r.den
  | .noi => Unit

def kcode : IntKind → Nat
  | .i8 => 0 | .i16 => 1 | .i32 => 2 | .i64 => 3 | .u8 => 4 | .u16 => 5 | .u32 => 6 | .u64 => 7

theorem kcode_inj {a b : IntKind} (h : Nat.beq (kcode a) (kcode b) = true) : a = b := by
  cases a <;> cases b <;> first | rfl | (exact absurd h (by decide))

def Ty.beq : Ty → Ty → Bool
  | .int k, .int k' => Nat.beq (kcode k) (kcode k')
  | .bool, .bool => true
  | .str, .str => true
  | .slice e, .slice f => Ty.beq e f
  | .arr n e, .arr m f => Nat.beq n m && Ty.beq e f
  | .pair a b, .pair c d => Ty.beq a c && Ty.beq b d
  | .unit, .unit => true
  | .alt u a r, .alt v b s => Nat.beq u v && (Ty.beq a b && Ty.beq r s)
  | .noi, .noi => true
  | _, _ => false

theorem Ty.eq_of_beq : ∀ {a b : Ty}, Ty.beq a b = true → a = b := by
  intro a
  induction a with
  | int k => intro b h; cases b <;> first | (exact congrArg _ (kcode_inj h)) | (cases h)
  | bool => intro b h; cases b <;> first | rfl | (cases h)
  | str => intro b h; cases b <;> first | rfl | (cases h)
  | slice e ih => intro b h; cases b <;> first | (exact congrArg _ (ih h)) | (cases h)
  | arr n e ih =>
    intro b h
    cases b <;> first | (cases h; done) | skip
    simp only [Ty.beq, Bool.and_eq_true] at h
    rw [Nat.eq_of_beq_eq_true h.1, ih h.2]
  | pair a b iha ihb =>
    intro c h
    cases c <;> first | (cases h; done) | skip
    simp only [Ty.beq, Bool.and_eq_true] at h
    rw [iha h.1, ihb h.2]
  | unit => intro b h; cases b <;> first | rfl | (cases h)
  | alt u a r iha ihr =>
    intro c h
    cases c <;> first | (cases h; done) | skip
    simp only [Ty.beq, Bool.and_eq_true] at h
    rw [Nat.eq_of_beq_eq_true h.1, iha h.2.1, ihr h.2.2]
  | noi => intro b h; cases b <;> first | rfl | (cases h)

def Ty.to (t u : Ty) (x : t.den) : Option u.den :=
  if h : Ty.beq t u = true then some ((Ty.eq_of_beq h) ▸ x) else none

theorem Ty.beq_refl (t : Ty) : Ty.beq t t = true := by
  induction t with
  | int k => cases k <;> rfl
  | bool => rfl
  | str => rfl
  | slice e ih => exact ih
  | arr n e ih => simp [Ty.beq, ih]
  | pair a b iha ihb => simp [Ty.beq, iha, ihb]
  | unit => rfl
  | alt u a r iha ihr => simp [Ty.beq, iha, ihr]
  | noi => rfl

theorem Ty.to_some {t u : Ty} {x : t.den} {y : u.den} (h : Ty.to t u x = some y) : ∃ e : t = u, y = e ▸ x := by
  unfold Ty.to at h
  split at h
  · rename_i hb
    exact ⟨Ty.eq_of_beq hb, by simpa using h.symm⟩
  · cases h

/-- A list of one element type as one of another, if they are one. -/
def toL (t u : Ty) (l : List t.den) : Option (List u.den) :=
  if h : Ty.beq t u = true then some ((Ty.eq_of_beq h) ▸ l) else none

theorem toL_some {t u : Ty} {l : List t.den} {m : List u.den} (h : toL t u l = some m) : ∃ e : t = u, m = e ▸ l := by
  unfold toL at h
  split at h
  · rename_i hb
    exact ⟨Ty.eq_of_beq hb, by simpa using h.symm⟩
  · cases h

/-- How many cells a value of the type takes. -/
def Ty.size : Ty → Nat
  | .int _ | .bool | .str | .slice _ => 1
  | .arr n e => n * e.size
  | .pair a b => a.size + b.size
  | .unit => 0
  | .alt _ _ r => r.size
  | .noi => 1

def Ty.isAgg : Ty → Bool
  | .arr .. | .pair .. | .unit => true
  | .alt _ _ r => r.isAgg
  | _ => false

def Ty.zero : (t : Ty) → t.den
  | .int _ => (0 : Int)
  | .bool => false
  | .str => ([] : List UInt8)
  | .slice _ => []
  | .arr n e => List.replicate n e.zero
  | .pair a b => (a.zero, b.zero)
  | .unit => ()
  | .alt _ _ r => .inr r.zero
  | .noi => ()

/-! ### The words of what is computed: each stands for a plain function, and is not looked into while a program is walked -/

def sel {α : Type} (c : Bool) (x y : α) : α := bif c then x else y
def obind {α β : Type} (o : Option α) (f : α → Option β) : Option β := o.bind f
def nt (b : Bool) : Bool := !b
def an (a b : Bool) : Bool := a && b
def oor (a b : Bool) : Bool := a || b
def eqI (a b : Int) : Bool := decide (a = b)
def eqN (a b : Nat) : Bool := Nat.beq a b
def ltI (a b : Int) : Bool := decide (a < b)
def leI (a b : Int) : Bool := decide (a ≤ b)
def eqS (a b : List UInt8) : Bool := decide (a = b)
def ltS (a b : List UInt8) : Bool := Op.bytesLess a b
def eqL (a b : List Int) : Bool := decide (a = b)
def eqB (a b : Bool) : Bool := a == b
def way1 {S : Type} (o : Option (S ⊕ (Nat × S))) : Option (S ⊕ S) := o.map fun r => match r with | .inl x => .inl x | .inr y => .inr y.2
def iadd (k : IntKind) (a b : Int) : Int := k.wrap (a + b)
def isub (k : IntKind) (a b : Int) : Int := k.wrap (a - b)
def imul (k : IntKind) (a b : Int) : Int := k.wrap (a * b)
def iquo (k : IntKind) (a b : Int) : Int := k.wrap (a.tdiv b)
def irem (a b : Int) : Int := a.tmod b
def icv (k : IntKind) (a : Int) : Int := k.wrap a
def iand (k : IntKind) (x y : Int) : Int := k.wrap (BitVec.ofInt k.bits x &&& BitVec.ofInt k.bits y).toNat
def ior (k : IntKind) (x y : Int) : Int := k.wrap (BitVec.ofInt k.bits x ||| BitVec.ofInt k.bits y).toNat
def ixor (k : IntKind) (x y : Int) : Int := k.wrap (BitVec.ofInt k.bits x ^^^ BitVec.ofInt k.bits y).toNat
def iandn (k : IntKind) (x y : Int) : Int := k.wrap (BitVec.ofInt k.bits x &&& ~~~BitVec.ofInt k.bits y).toNat
def imin (a b : Int) : Int := bif decide (b < a) then b else a
def imax (a b : Int) : Int := bif decide (a < b) then b else a
def ishl (k : IntKind) (a b : Int) : Int := k.wrap (a * 2 ^ (min b.toNat k.bits))
def ishr (k : IntKind) (a b : Int) : Int := a.fdiv (2 ^ (min b.toNat k.bits))
def plus (a b : Int) : Int := a + b
def minus (a b : Int) : Int := a - b
def len {α : Type} (l : List α) : Int := l.length
def app {α : Type} (l m : List α) : List α := l ++ m
def one {α : Type} (x : α) : List α := [x]
def idx {α : Type} (l : List α) (i : Int) : Option α := if 0 ≤ i then l[i.toNat]? else none
def lset {α : Type} (l : List α) (i : Int) (x : α) : List α := l.set i.toNat x
def lrep {α : Type} (n : Int) (x : α) : List α := List.replicate n.toNat x
def sub {α : Type} (l : List α) (lo n : Int) : List α := (l.drop lo.toNat).take n.toNat
def ltake {α : Type} (l : List α) (n : Int) : List α := l.take n.toNat
/-- A row with another one laid over it from a place on. -/
def over {α : Type} (l : List α) (lo : Int) (c : List α) : List α := l.take lo.toNat ++ c ++ l.drop (lo.toNat + c.length)
/-- One of two. -/
def pick {α β γ : Type} (f : α → γ) (g : β → γ) (x : α ⊕ β) : γ := match x with | .inl a => f a | .inr b => g b
def u8 (b : UInt8) : Int := (b.toNat : Int)
def bytesInts (s : List UInt8) : List Int := s.map fun b => (b.toNat : Int)
def intsBytes (l : List Int) : List UInt8 := l.map fun n => UInt8.ofNat n.toNat
/-- May what has so many parts be? -/
def fits (n : Int) : Bool := decide (n ≤ 4294967296)
def inside (a b n : Int) : Bool := decide (0 ≤ a) && decide (a ≤ b) && decide (b ≤ n)
def within (i n : Int) : Bool := decide (0 ≤ i) && decide (i < n)

/-- What a computation comes to: a tree of tests and of parts that are looked into. -/
inductive Tree (α : Type) : Type 1 where
  | ret (a : α)
  | fail
  | node (c : Bool) (t e : Tree α)
  | look {T : Type} (o : Option T) (k : T → Tree α)

namespace Tree
def bind {α β : Type} : Tree α → (α → Tree β) → Tree β
  | .ret a, f => f a
  | .fail, _ => .fail
  | .node c t e, f => .node c (t.bind f) (e.bind f)
  | .look o k, f => .look o fun x => (k x).bind f

def run {α : Type} : Tree α → Option α
  | .ret a => some a
  | .fail => none
  | .node c t e => sel c t.run e.run
  | .look o k => obind o fun x => (k x).run

/-- Go on from what a tree of data comes to, once. -/
def join {T β : Type} (t : Tree T) (k : T → Tree β) : Tree β :=
  match t with
  | .ret x => k x
  | .node c (.ret x) (.ret y) => k (sel c x y)
  | t => .look t.run k

/-- The same, told once in any case. -/
def joinL {T β : Type} (b : Bool) (t : Tree T) (k : T → Tree β) : Tree β := bif b then .look t.run k else t.join k

def need {α : Type} (c : Bool) (t : Tree α) : Tree α := .node c t .fail
def ofOpt {α : Type} : Option α → Tree α
  | some a => .ret a
  | none => .fail
end Tree

/-- A place within a variable: a field (with the cells ahead of it), an element. -/
inductive Sel where
  | fld (k off : Nat)
  | idx (i : Int) (size : Nat)

/-- The values of the ghost interpreter. -/
inductive Val where
  | undef
  | data (t : Ty) (x : t.den)
  | nils
  | nilm
  | nilp
  | nili
  | selfp (b ver : Nat)
  | cell (t : Ty) (x : t.den)
  | ptr (b ver : Nat) (p : List Sel)
  | whole (b ver : Nat)
  | mref (b ver : Nat)
  | mapv (l : List (Int × Int × Unit))
  | part (b ver : Nat) (lo n : Int)
  | win (b ver : Nat) (q : List Sel) (e : Ty) (k : Nat) (lo n : Int)
  | fn (f : Nat) (caps : List (Nat × Nat))
  | mix (a b : Val)
  | tup (vs : Val)
  | nl

structure Box where
  val : Val
  tid : TypeId
  buf : Bool
  ro : Bool
  lk : Bool
  ver : Nat

structure St where
  slots : Nat → Val
  mem : Nat → Option Box

/-- What is proved of a function: its parameters' types, its results', and what it computes. -/
structure Con where
  A : Ty
  R : Ty
  spec : A.den → Option R.den

/-- What a pointer leads to: plain data, lists that are appended to, and such things behind pointers; or no pointer. -/
inductive OT where
  | dat (t : Ty)
  | buf (e : Ty) (eid : Nat)
  | map
  | ref (tid : Nat) (o : OT)
  | rf (tid : Nat) (o : OT)
  | pair (a b : OT)
  | unit
  | nilp

def OT.den : OT → Type
  | .dat t => t.den
  | .buf e _ => List e.den
  | .map => List (Int × Int × Unit)
  | .ref _ o => o.den
  | .rf _ o => o.den
  | .pair a b => a.den × b.den
  | .unit => Unit
  | .nilp => Unit

/-- How many variables behind pointers there are, and how many lists. -/
def OT.nr : OT → Nat
  | .ref _ o => o.nr + 1
  | .rf _ o => o.nr
  | .pair a b => a.nr + b.nr
  | _ => 0
def OT.nb : OT → Nat
  | .buf .. => 1
  | .map => 1
  | .ref _ o => o.nb
  | .rf _ o => o.nb + 1
  | .pair a b => a.nb + b.nb
  | _ => 0

/-- The same of a function some of whose parameters are pointers: which ones, what these lead to, and what becomes of it. -/
structure RCon where
  ps : List Bool
  A : Ty
  U : OT
  R : Ty
  spec : A.den × U.den → Option (R.den × U.den)

/-- A field of an object: plain data, a list that is appended to, a pointer that is nil at first, a pointer to the object itself or nil. -/
inductive OFld where
  | dat (t : Ty)
  | buf (e : Ty) (eid : Nat)
  | map
  | one
  | self

/-- Functions that are taken as a whole. Of strings.Builder: copyCheck, String; and the builder's type. A list that is copied, for its caller's own; a function that takes a list of its caller's own, and data, and gives such a list (or leaves one in its place). -/
inductive Spc where
  | chk (T : Nat)
  | str (T E : Nat)
  | clone (e : Ty)
  | own (e A : Ty) (res : Bool) (spec : List e.den → A.den → Option (List e.den))
  | maker (g : Nat)
  | tcl (T : Nat)
  | look (ps : List Bool) (A R : Ty) (spec : A.den → Option R.den)

/-- T: the types of plain data; objs: the types of objects; els: slices' types and their elements'; ones: the other types that take one cell; ptrs: the pointers' types among them. -/
structure Ctx where
  T : List (Nat × Ty)
  ones : List Nat
  ptrs : List Nat
  fns : List (Nat × Func)
  con : List (Nat × Con)
  rcon : List (Nat × RCon)
  objs : List (Nat × List OFld)
  spc : List (Nat × Spc)
  els : List (Nat × Nat)
  inv : List (String × Con)

/-- What is told of a name. -/
def findS {α : Type} : List (String × α) → String → Option α
  | [], _ => none
  | (i, a) :: r, k => bif decide (i = k) then some a else findS r k

def find {α : Type} : List (Nat × α) → Nat → Option α
  | [], _ => none
  | (i, a) :: r, k => bif Nat.beq i k then some a else find r k

def St.put (σ : St) (d : Nat) (v : Val) : St := { σ with slots := fun t => bif Nat.beq t d then v else σ.slots t }
def St.putO (σ : St) (d : Option Nat) (v : Val) : St := match d with | some d => σ.put d v | none => σ
def St.setBox (σ : St) (b : Nat) (x : Box) : St := { σ with mem := fun i => bif Nat.beq i b then some x else σ.mem i }

/-- A new variable of a name: what stood for the name before is no more. -/
def St.newBox {β : Type} (σ : St) (b : Nat) (val : Val) (tid : TypeId) (buf : Bool) (k : Nat → St → Tree β) : Tree β :=
  match σ.mem b with
  | some bx => bif bx.lk then .fail else k (bx.ver + 1) (σ.setBox b { val, tid, buf, ro := false, lk := false, ver := bx.ver + 1 })
  | none => k 0 (σ.setBox b { val, tid, buf, ro := false, lk := false, ver := 0 })

def memN : List Nat → Nat → Bool
  | [], _ => false
  | i :: r, t => Nat.beq t i || memN r t

/-- A function's number: from 10000000 on it is a method, with its receiver ahead of its arguments. -/
def fnNo (f : Nat) : Nat := bif Nat.blt f 10000000 then f else f % 10000000
def fnArgs (f : Nat) (args caps : List Val) : List Val := bif Nat.blt f 10000000 then args ++ caps else caps ++ args
def fnVal (f : Nat) (arr : Array Value) : Value := bif Nat.blt f 10000000 then .func (.func f) #[] arr else .func (.func (f % 10000000)) arr #[]

/-- The value of an operand. -/
def constVal : Value → Val
  | .int k n => bif decide (k.min ≤ n) && decide (n ≤ k.max) then .data (.int k) n else .undef
  | .bool b => .data .bool b
  | .string s => bif Nat.ble s.data.toList.length 4294967296 then .data .str s.data.toList else .undef
  | .pointer none => .nilp
  | .nilIface => .nili
  | .slice none 0 0 => .nils
  | _ => .undef

def opv (σ : St) : Operand → Val
  | .tmp t => σ.slots t
  | .const v => constVal v
  | .func f => bif Nat.blt f 10000000 then .fn f [] else .undef
  | .global _ => .undef

/-- A field of a chain of pairs. -/
def fldOff : Ty → Nat → Option Nat
  | .pair _ _, 0 => some 0
  | .pair a b, k + 1 => (fldOff b k).map (a.size + ·)
  | _, _ => none

def valSize : Val → Nat
  | .data t _ => t.size
  | .mix a b => valSize a + valSize b
  | .nl => 0
  | _ => 1

def fldAtD : (t : Ty) → t.den → Nat → Option (Nat × Val)
  | .pair a _, x, 0 => some (0, .data a x.1)
  | .pair a b, x, k + 1 => match fldAtD b x.2 k with | some r => some (a.size + r.1, r.2) | none => none
  | _, _, _ => none

/-- A field, and how many cells stand ahead of it. -/
def fldAt : Val → Nat → Option (Nat × Val)
  | .data t x, k => fldAtD t x k
  | .mix a _, 0 => some (0, a)
  | .mix a b, k + 1 => match fldAt b k with | some r => some (valSize a + r.1, r.2) | none => none
  | _, _ => none

/-- To data of a type. -/
def toD (t : Ty) : Val → Option t.den
  | .data u x => Ty.to u t x
  | .nils => match t with | .slice _ => some [] | _ => none
  | _ => none

/-- Data of just a type. -/
def toS (t : Ty) : Val → Option t.den
  | .data u x => Ty.to u t x
  | _ => none

def setFldD : (t : Ty) → t.den → Nat → (Val → Tree Val) → Tree t.den
  | .pair a b, x, 0, f => (f (.data a x.1)).bind fun v => match toS a v with
    | some y => .ret (y, x.2)
    | none => .fail
  | .pair a b, x, k + 1, f => (setFldD b x.2 k f).bind fun y => .ret (x.1, y)
  | _, _, _, _ => .fail

def setFld : Val → Nat → (Val → Tree Val) → Tree Val
  | .data t x, k, f => (setFldD t x k f).bind fun y => .ret (.data t y)
  | .mix a b, 0, f => (f a).bind fun v => .ret (.mix v b)
  | .mix a b, k + 1, f => (setFld b k f).bind fun v => .ret (.mix a v)
  | _, _, _ => .fail

/-- Follow a path. -/
def nav : List Sel → Val → Tree Val
  | [], v => .ret v
  | .fld k off :: p, v => match fldAt v k with
    | some (o, u) => bif Nat.beq o off then nav p u else .fail
    | none => .fail
  | .idx i size :: p, v => match v with
    | .data (.arr _ e) l => bif Nat.beq size e.size then .look (idx (α := e.den) l i) fun x => nav p (.data e x) else .fail
    | _ => .fail

/-- Follow a path from a box: a buffer's begins at an element. -/
def navB (buf : Bool) (p : List Sel) (v : Val) : Tree Val :=
  match buf with
  | false => nav p v
  | true => match p, v with
    | .idx i size :: p, .data (.slice e) l => bif Nat.beq size e.size then .look (idx (α := e.den) l i) fun x => nav p (.data e x) else .fail
    | _, _ => .fail

/-- What stands at a path's end, made anew. -/
def navSet : List Sel → Val → Val → Tree Val
  | [], _, u => .ret u
  | .fld k off :: p, v, u => setFld v k fun w => navSet p w u
  | .idx i size :: p, v, u => match v with
    | .data (.arr n e) l => .look (idx (α := e.den) l i) fun x => (navSet p (.data e x) u).bind fun w => match toS e w with
      | some y => .ret (.data (.arr n e) (lset (α := e.den) l i y))
      | none => .fail
    | _ => .fail

def navSetB (buf : Bool) (p : List Sel) (v u : Val) : Tree Val :=
  match buf with
  | false => navSet p v u
  | true => match p, v with
    | .idx i size :: p, .data (.slice e) l => .look (idx (α := e.den) l i) fun x => (navSet p (.data e x) u).bind fun w => match toS e w with
      | some y => .ret (.data (.slice e) (lset (α := e.den) l i y))
      | none => .fail
    | _, _ => .fail

/-! ### Laws -/

namespace Tree
theorem run_bind {α β : Type} (t : Tree α) (f : α → Tree β) : (t.bind f).run = t.run.bind fun a => (f a).run := by
  induction t with
  | ret a => rfl
  | fail => rfl
  | node c t e iht ihe => cases c <;> simp [bind, run, iht, ihe, sel]
  | look o k ih => cases o <;> simp [bind, run, ih, obind]

theorem run_join {T β : Type} (t : Tree T) (k : T → Tree β) : (t.join k).run = t.run.bind fun a => (k a).run := by
  unfold join
  split
  · rfl
  · rename_i c x y; cases c <;> rfl
  · rfl

theorem run_joinL {T β : Type} (b : Bool) (t : Tree T) (k : T → Tree β) : (t.joinL b k).run = t.run.bind fun a => (k a).run := by
  cases b with
  | true => rfl
  | false => exact run_join t k

end Tree

end Go.Ge
namespace Go.Ge
set_option linter.unusedVariables false

/-! ### Data out of values -/

def fldTy : Ty → Nat → Option Ty
  | .pair a _, 0 => some a
  | .pair _ b, k + 1 => fldTy b k
  | _, _ => none



/-- Are there no slices in it? -/
def Ty.flat : Ty → Bool
  | .slice _ => false
  | .arr _ e => e.flat
  | .pair a b => a.flat && b.flat
  | .alt _ a r => a.flat && r.flat
  | _ => true

/-- The elements' type and number of what a box holds: a buffer's, an array's. -/
def Box.row (bx : Box) : Option (Ty × Nat) :=
  match bx.buf, bx.val with
  | true, .data (.slice e) l => some (e, List.length (α := e.den) l)
  | false, .data (.arr n e) _ => some (e, n)
  | _, _ => none

/-- The list that a value stands for, of elements of a type, without a change. -/
def listOf (e : Ty) (σ : St) : Val → Option (List e.den)
  | .data (.slice u) l => toL u e l
  | .nils => some []
  | .whole b ver => match σ.mem b with
    | some bx => bif Nat.beq bx.ver ver && bx.buf then (match bx.val with | .data (.slice u) l => toL u e l | _ => none) else none
    | none => none
  | .part b ver lo n => match σ.mem b with
    | some bx => bif Nat.beq bx.ver ver then (match bx.buf, bx.val with
      | true, .data (.slice u) l => toL u e (sub (α := u.den) l lo n)
      | false, .data (.arr _ u) l => toL u e (sub (α := u.den) l lo n)
      | _, _ => none) else none
    | none => none
  | _ => none

/-- Is a reference not stale? -/
def live (σ : St) (b ver : Nat) : Bool := match σ.mem b with | some bx => Nat.beq bx.ver ver | none => false

/-- Data of a type, lent. -/
def lend (σ : St) : (t : Ty) → Val → Option t.den
  | .slice e, v => (listOf e σ v : Option (List e.den))
  | .pair a b, v => match v with
    | .data u x => Ty.to u (.pair a b) x
    | .mix p q => (match lend σ a p, lend σ b q with
      | some x, some y => some (x, y)
      | _, _ => none)
    | _ => none
  | .alt n a r, v => match v with
    | .data u x => Ty.to u (.alt n a r) x
    | .nili => match lend σ r .nili with
      | some x => some (.inr x)
      | none => none
    | _ => none
  | .noi, v => match v with
    | .data u x => Ty.to u .noi x
    | .nili => some ()
    | _ => none
  | t, v => match v with
    | .data u x => Ty.to u t x
    | _ => none

/-- A box may not be written to any more. -/
def freeze (σ : St) (b : Nat) : Option St :=
  match σ.mem b with
  | some bx => bif bx.ro then some σ else bif bx.lk then none else some (σ.setBox b { bx with ro := true })
  | none => none

def freezeV (σ : St) : Val → Option St
  | .whole b _ => freeze σ b
  | .part b _ _ _ => freeze σ b
  | .mix v w => match freezeV σ v with
    | some σ => freezeV σ w
    | none => none
  | _ => some σ

/-- Data of a type, for good. -/
def give (σ : St) (t : Ty) (v : Val) : Option (t.den × St) :=
  match v with
  | .data u x => match Ty.to u t x with | some y => some (y, σ) | none => none
  | v => match lend σ t v, freezeV σ v with
    | some x, some σ => some (x, σ)
    | _, _ => none

def lendAll (σ : St) : (A : Ty) → List Val → Option A.den
  | .unit, [] => some ()
  | .pair t r, v :: vs => match lend σ t v, lendAll σ r vs with
    | some x, some y => some (x, y)
    | _, _ => none
  | _, _ => none

/-- What a pointer leads to, lent. -/
def lendPt (σ : St) (t : Ty) : Val → Option t.den
  | .ptr b ver [] => match σ.mem b with
    | some bx => bif Nat.beq bx.ver ver && !bx.buf then lend σ t bx.val else none
    | none => none
  | .cell u x => Ty.to u t x
  | _ => none
/-- Arguments some of which are pointers to what is looked at alone. -/
def lendP (σ : St) : List Bool → (A : Ty) → List Val → Option A.den
  | [], .unit, [] => some ()
  | p :: ps, .pair t r, v :: vs => match (bif p then lendPt σ t v else lend σ t v), lendP σ ps r vs with
    | some x, some y => some (x, y)
    | _, _ => none
  | _, _, _ => none

def giveAll (σ : St) : (A : Ty) → List Val → Option (A.den × St)
  | .unit, [] => some ((), σ)
  | .pair t r, v :: vs => match give σ t v with
    | some (x, σ) => match giveAll σ r vs with
      | some (y, σ) => some ((x, y), σ)
      | none => none
    | none => none
  | _, _ => none

def tupOf : (R : Ty) → R.den → Val
  | .pair t r, x => .mix (.data t x.1) (tupOf r x.2)
  | _, _ => .nl

def resVal (R : Ty) (x : R.den) : Val :=
  match R, x with
  | .pair t .unit, x => .data t x.1
  | R, x => .tup (tupOf R x)

def nth : Val → Nat → Option Val
  | .mix a _, 0 => some a
  | .mix _ b, k + 1 => nth b k
  | _, _ => none

/-! ### Operators -/

def bitsOf (op : BinOp) (k : IntKind) (x y : Int) : Option Int :=
  match op with
  | .and => some (iand k x y)
  | .or => some (ior k x y)
  | .xor => some (ixor k x y)
  | .andNot => some (iandn k x y)
  | _ => none

/-- Are two data the same? (There is no such question of slices.) -/
def Ty.eqv : (t : Ty) → t.den → t.den → Option Bool
  | .int _, x, y => some (eqI x y)
  | .bool, x, y => some (eqB x y)
  | .str, x, y => some (eqS x y)
  | .pair a b, x, y => match Ty.eqv a x.1 y.1, Ty.eqv b x.2 y.2 with
    | some p, some q => some (an p q)
    | _, _ => none
  | .unit, _, _ => some true
  | .arr _ e, x, y => match e, x, y with
    | .int _, x, y => some (eqL x y)
    | _, _, _ => none
  | _, _, _ => none

def Ty.rank : Ty → Nat
  | .pair a b => a.rank + b.rank + 1
  | .arr _ e => e.rank + 1
  | _ => 1

def binInt (op : BinOp) (k : IntKind) (a b : Int) : Tree Val :=
  match op with
  | .add => .ret (.data (.int k) (iadd k a b))
  | .sub => .ret (.data (.int k) (isub k a b))
  | .mul => .ret (.data (.int k) (imul k a b))
  | .quo => .node (eqI b 0) .fail (.ret (.data (.int k) (iquo k a b)))
  | .rem => .node (eqI b 0) .fail (.ret (.data (.int k) (irem a b)))
  | .eql => .ret (.data .bool (eqI a b))
  | .neq => .ret (.data .bool (nt (eqI a b)))
  | .lss => .ret (.data .bool (ltI a b))
  | .leq => .ret (.data .bool (leI a b))
  | .gtr => .ret (.data .bool (ltI b a))
  | .geq => .ret (.data .bool (leI b a))
  | op => match bitsOf op k a b with
    | some c => .ret (.data (.int k) c)
    | none => .fail

def binStr (op : BinOp) (x y : List UInt8) : Tree Val :=
  match op with
  | .add => .need (fits (plus (len x) (len y))) (.ret (.data .str (app x y)))
  | .eql => .ret (.data .bool (eqS x y))
  | .neq => .ret (.data .bool (nt (eqS x y)))
  | .lss => .ret (.data .bool (ltS x y))
  | .leq => .ret (.data .bool (oor (ltS x y) (eqS x y)))
  | .gtr => .ret (.data .bool (nt (oor (ltS x y) (eqS x y))))
  | .geq => .ret (.data .bool (nt (ltS x y)))
  | _ => .fail

def isEq : BinOp → Option Bool
  | .eql => some true
  | .neq => some false
  | _ => none

def isShift : BinOp → Option Bool
  | .shl => some true
  | .shr => some false
  | _ => none

def isTy (o : Option Ty) (t : Ty) : Bool := match o with | some u => Ty.beq u t | none => false

def bin (tt : Option Ty) (pt : Bool) (op : BinOp) (x y : Val) : Tree Val :=
  match x, y with
  | .data (.int k) a, .data (.int k') b =>
    match isShift op with
    | some left => .node (ltI b 0) .fail (.ret (.data (.int k) (bif left then ishl k a b else ishr k a b)))
    | none => bif Nat.beq (kcode k) (kcode k') then binInt op k a b else .fail
  | .data .str a, .data .str b => binStr op a b
  | .data .bool a, .data .bool b => bif isTy tt .bool then (match isEq op with
    | some true => .ret (.data .bool (eqB a b))
    | some false => .ret (.data .bool (nt (eqB a b)))
    | none => .fail) else .fail
  | .data (.pair a b) x, .data t y => bif isTy tt (.pair a b) && Nat.ble (Ty.pair a b).rank 9000 then (match Ty.to t (.pair a b) y, isEq op with
    | some y, some e => match Ty.eqv (.pair a b) x y with
      | some c => .ret (.data .bool (bif e then c else nt c))
      | none => .fail
    | _, _ => .fail) else .fail
  | .data (.arr n e) x, .data t y => bif isTy tt (.arr n e) && Nat.ble (Ty.arr n e).rank 9000 then (match Ty.to t (.arr n e) y, isEq op with
    | some y, some q => match Ty.eqv (.arr n e) x y with
      | some c => .ret (.data .bool (bif q then c else nt c))
      | none => .fail
    | _, _ => .fail) else .fail
  | .nilp, .nilp => match pt, isEq op with | true, some e => .ret (.data .bool e) | _, _ => .fail
  | _, _ => .fail

def binP (σ : St) (tt : Option Ty) (pt : Bool) (op : BinOp) (x y : Val) : Tree Val :=
  match x, y with
  | .ptr b ver _, .nilp => bif live σ b ver && pt then (match isEq op with | some e => .ret (.data .bool (!e)) | none => .fail) else .fail
  | .nilp, .ptr b ver _ => bif live σ b ver && pt then (match isEq op with | some e => .ret (.data .bool (!e)) | none => .fail) else .fail
  | x, y => bin tt pt op x y

/-- The lesser, or the greater, of two numbers. -/
def binMin (least : Bool) (x y : Val) : Tree Val :=
  match x, y with
  | .data (.int k) a, .data (.int k') b => bif Nat.beq (kcode k) (kcode k') then .ret (.data (.int k) (bif least then imin a b else imax a b)) else .fail
  | _, _ => .fail

def un (op : UnOp) (x : Val) : Tree Val :=
  match op, x with
  | .not, .data .bool b => .ret (.data .bool (nt b))
  | .neg, .data (.int k) n => .ret (.data (.int k) (isub k 0 n))
  | .xor, .data (.int k) n => .ret (.data (.int k) (ixor k (bif k.signed then -1 else k.max) n))
  | _, _ => .fail

/-! ### Building -/

def putFld : (t : Ty) → t.den → Nat → (u : Ty) → u.den → Option t.den
  | .pair a b, x, 0, u, y => match Ty.to u a y with | some y => some (y, x.2) | none => none
  | .pair a b, x, k + 1, u, y => match putFld b x.2 k u y with | some z => some (x.1, z) | none => none
  | _, _, _, _, _ => none

def buildParts (σ : St) (t : Ty) (x : t.den) : List (Nat × Operand) → Option (t.den × St)
  | [] => some (x, σ)
  | (k, o) :: r => match fldTy t k with
    | some u => match give σ u (opv σ o) with
      | some (y, σ) => match putFld t x k u y with
        | some x => buildParts σ t x r
        | none => none
      | none => none
    | none => none

def buildList (σ : St) (e : Ty) (l : List e.den) : List (Nat × Operand) → Option (List e.den × St)
  | [] => some (l, σ)
  | (k, o) :: r => match give σ e (opv σ o) with
    | some (y, σ) => bif Nat.blt k l.length then buildList σ e (l.set k y) r else none
    | none => none

/-! ### One operation -/

def lenOf (σ : St) : Val → Option Int
  | .data .str s => some (len (α := UInt8) s)
  | .data (.slice e) l => some (len (α := e.den) l)
  | .data (.arr n _) _ => bif Nat.ble n 4294967296 then some n else none
  | .nils => some 0
  | .whole b ver => match σ.mem b with
    | some bx => bif Nat.beq bx.ver ver && bx.buf then (match bx.val with | .data (.slice u) l => some (len (α := u.den) l) | _ => none) else none
    | none => none
  | .part b ver _ n => bif live σ b ver then some n else none
  | _ => none

/-- Does a value that has a length fit its type? -/
def lenTy (o : Option Ty) : Val → Bool
  | .data .str _ => isTy o .str
  | .data (.slice e) _ => isTy o (.slice e)
  | .data (.arr n e) _ => isTy o (.arr n e)
  | .nils | .whole .. | .part .. => match o with | some (.slice _) => true | _ => false
  | _ => false

/-- The bounds of a slice of what has n elements. -/
def bounds (σ : St) (n : Int) (lo hi : Option Operand) : Option (Int × Int) :=
  match lo, hi with
  | none, none => some (0, n)
  | some a, none => match opv σ a with | .data (.int _) x => some (x, n) | _ => none
  | none, some b => match opv σ b with | .data (.int _) y => some (0, y) | _ => none
  | some a, some b => match opv σ a, opv σ b with | .data (.int _) x, .data (.int _) y => some (x, y) | _, _ => none

def isRef : Val → Bool
  | .ptr .. | .whole .. | .part .. | .fn .. | .nilp | .nili | .selfp .. | .mix .. | .cell .. | .nils => true
  | _ => false

section
variable (cx : Ctx) (nb : Nat) (bf : List Nat) (inl : Nat → List Val → St → Tree (Val × St))

/-- nil: for a variable that is appended to, a new buffer. -/
def stepAssign (d : Option Nat) (ty : TypeId) (v : Val) (σ : St) : Tree St :=
  match v with
  | .undef => bif memN cx.ones ty then .ret (σ.putO d .undef) else .fail
  | .nils => match d, find cx.T ty with
    | some d, some (.slice e) => bif memN bf d then σ.newBox (nb + d) (.data (.slice e) []) 0 true fun ver σ => .ret (σ.put d (.whole (nb + d) ver))
      else .ret (σ.put d (.data (.slice e) []))
    | _, _ => .ret (σ.putO d .nils)
  | v => .ret (σ.putO d v)

def stepPick (d : Option Nat) (c a b : Val) (σ : St) : Tree St :=
  match c with
  | .data .bool c => match a, b with
    | .data t x, .data u y => match Ty.to u t y with
      | some y => .ret (σ.putO d (.data t (sel c x y)))
      | none => .fail
    | a, b => .node c (.ret (σ.putO d a)) (.ret (σ.putO d b))
  | _ => .fail

/-- Data's fields, each by itself. -/
def openD : (t : Ty) → t.den → Val
  | .pair a b, x => .mix (.data a x.1) (openD b x.2)
  | t, x => .data t x
def openV : Val → Val
  | .data t x => openD t x
  | v => v
/-- Does a value stand for one of a type, with lists of one's own in its fields? -/
def mix1 : Ty → Val → Bool
  | .slice _, .whole .. => true
  | t, .data u _ => Ty.beq u t
  | _, _ => false
def mixTy : Ty → Val → Bool
  | .pair a b, .mix p q => mix1 a p && mixTy b q
  | t, .data u _ => Ty.beq u t
  | _, _ => false
def ownV (u : Ty) : Val → Bool
  | .whole b ver => mix1 u (.whole b ver)
  | .mix p q => mixTy u (.mix p q)
  | _ => false
def pairV : Val → Bool
  | .data (.pair _ _) _ => true
  | .mix .. => true
  | _ => false
def readMix (ty : TypeId) : Val → Bool
  | .mix p q => match find cx.T ty with | some u => mixTy u (.mix p q) | none => false
  | _ => false

/-- May a value be read at a type? -/
def readTy (ty : TypeId) : Val → Bool
  | .data u _ => isTy (find cx.T ty) u
  | .whole .. => match find cx.T ty with | some (.slice _) => true | _ => false
  | .ptr .. | .nilp | .fn .. => memN cx.ones ty
  | _ => false

def stepLoad (d : Option Nat) (ty : TypeId) (a : Val) (σ : St) : Tree St :=
  match a with
  | .cell u x => bif isTy (find cx.T ty) u then .ret (σ.putO d (.data u x)) else .fail
  | .ptr b ver p => match σ.mem b with
    | some bx => bif Nat.beq bx.ver ver then (navB bx.buf p bx.val).bind fun v => bif readTy cx ty v || readMix cx ty v then .ret (σ.putO d v) else .fail else .fail
    | none => .fail
  | _ => .fail

/-- A value laid at a path in a box that may be written to: one that takes as many cells as what lay there. -/
def storeAt (b ver : Nat) (p : List Sel) (fit : Val → Bool) (v : Val) (σ : St) : Tree St :=
  match σ.mem b with
  | some bx => bif Nat.beq bx.ver ver && !bx.lk && !bx.ro then
      (navB bx.buf p bx.val).bind fun old => bif fit old then (navSetB bx.buf p bx.val v).bind fun c => .ret (σ.setBox b { bx with val := c }) else .fail
    else .fail
  | none => .fail

/-- A list of one's own laid in a field of a struct that stands by itself, or such a struct laid in a variable. -/
def storeOp (b ver : Nat) (p : List Sel) (n : Nat) (v : Val) (σ : St) : Tree St :=
  match σ.mem b with
  | some bx => bif Nat.beq bx.ver ver && !bx.lk && !bx.ro && !bx.buf && pairV bx.val then
      (nav p (openV bx.val)).bind fun old => bif Nat.beq (valSize old) n then (navSet p (openV bx.val) v).bind fun c => bif pairV c then .ret (σ.setBox b { bx with val := c }) else .fail else .fail
    else .fail
  | none => .fail

def fitD (u : Ty) : Val → Bool
  | .data t _ => Ty.beq t u
  | _ => false

def isUndef : Val → Bool
  | .undef => true
  | _ => false

def stepStore (ty : TypeId) (a v : Val) (σ : St) : Tree St :=
  match a with
  | .ptr b ver p => match σ.mem b with
    | some bx => bif Nat.beq bx.ver ver then (navB bx.buf p bx.val).bind fun old => match old with
        | .data u _ => bif isTy (find cx.T ty) u then (bif memN bf 8000000 && ownV u v then storeOp b ver p u.size v σ else match give σ u v with
            | some (y, σ) => storeAt b ver p (fitD u) (.data u y) σ
            | none => .fail) else .fail
        | _ => bif readTy cx ty v && isRef v then storeAt b ver p (fun old => (readTy cx ty old && isRef old) || isUndef old) v σ else .fail
      else .fail
    | none => .fail
  | _ => .fail

def isNilC : Operand → Bool
  | .const (.slice none 0 0) => true
  | _ => false

/-- nil laid in a field of a struct, for a list that is appended to there: a list of one's own. -/
def stepNil (ty : TypeId) (a : Val) (σ : St) : Tree St :=
  match a, find cx.T ty with
  | .ptr b ver p, some (.slice e) => bif Nat.blt 0 e.size then σ.newBox (b * 1000 + 990) (.data (.slice e) []) 0 true fun v σ => storeOp b ver p 1 (.whole (b * 1000 + 990) v) σ else .fail
  | _, _ => .fail

/-- A struct of noughts one of whose fields is a list of one's own (8500000 + 10 * slot + field). -/
def newFld (d : Nat) : List Nat → Option Nat
  | [] => none
  | m :: r => bif Nat.ble 8500000 m && Nat.blt m 8999999 && Nat.beq ((m - 8500000) / 10) d then some ((m - 8500000) % 10) else newFld d r
def zmix : Ty → Nat → Val → Val
  | .pair _ b, 0, v => .mix v (openD b b.zero)
  | .pair a b, k + 1, v => .mix (.data a a.zero) (zmix b k v)
  | t, _, _ => .data t t.zero
def stepZero (d : Nat) (t : Ty) (k : Nat) (σ : St) : Tree St :=
  match fldTy t k with
  | some (.slice e) => bif Nat.blt 0 e.size then σ.newBox (nb + d) (.data (.slice e) []) 0 true fun ver σ => .ret (σ.put d (zmix t k (.whole (nb + d) ver))) else .fail
  | _ => .fail
def zeroAt (d : Option Nat) (parts : List (Nat × Operand)) : Option (Nat × Nat) := match d, parts with
  | some d, [] => match newFld d bf with | some k => some (d, k) | none => none
  | _, _ => none

def stepSlice (d : Option Nat) (ty : TypeId) (x : Val) (lo hi : Option Operand) (σ : St) : Tree St :=
  match find cx.T ty, x with
  | some .str, .data .str s => match bounds σ (len (α := UInt8) s) lo hi with
    | some (a, b) => .need (inside a b (len (α := UInt8) s)) (.ret (σ.putO d (.data .str (sub (α := UInt8) s a (minus b a)))))
    | none => .fail
  | some (.slice u), .data (.slice e) l => bif Ty.beq u e then (match bounds σ (len (α := e.den) l) lo hi with
    | some (a, b) => .need (inside a b (len (α := e.den) l)) (.ret (σ.putO d (.data (.slice e) (sub (α := e.den) l a (minus b a)))))
    | none => .fail) else .fail
  | some (.slice u), .part c ver l n => match σ.mem c with
    | some bx => bif Nat.beq bx.ver ver && (match bx.row with | some (e, _) => Ty.beq u e | none => false) then (match bounds σ n lo hi with
      | some (a, b) => .need (inside a b n) (.ret (σ.putO d (.part c ver (plus l a) (minus b a))))
      | none => .fail) else .fail
    | none => .fail
  | some (.slice u), .whole c ver => match σ.mem c with
    | some bx => bif Nat.beq bx.ver ver && bx.buf then (match bx.val with
      | .data (.slice e) l => bif Ty.beq u e then (match lo, hi with
        | none, none => .ret (σ.putO d (.whole c ver))
        | lo, hi => match bounds σ (len (α := e.den) l) lo hi with
          | some (a, b) => .need (inside a b (len (α := e.den) l)) (.ret (σ.putO d (.part c ver a (minus b a))))
          | none => .fail) else .fail
      | _ => .fail) else .fail
    | none => .fail
  | some (.arr m u), .ptr c ver (s :: q) => bif live σ c ver && Nat.ble m 4294967296 then (match bounds σ m lo hi with
    | some (a, b) => .need (inside a b m) (.ret (σ.putO d (.win c ver (s :: q) u m a (minus b a))))
    | none => .fail) else .fail
  | some (.arr m u), .ptr c ver [] => match σ.mem c with
    | some bx => bif Nat.beq bx.ver ver && !bx.buf then (match bx.val with
      | .data (.arr n e) _ => bif Nat.beq m n && Ty.beq u e && Nat.ble n 4294967296 then (match bounds σ n lo hi with
        | some (a, b) => .need (inside a b n) (.ret (σ.putO d (.part c ver a (minus b a))))
        | none => .fail) else .fail
      | _ => .fail) else .fail
    | none => .fail
  | _, _ => .fail

def boxElem (σ : St) (b ver : Nat) : Option (Ty × Int) := match σ.mem b with
  | some bx => bif Nat.beq bx.ver ver then (match bx.buf, bx.val with
    | true, .data (.slice e) l => some (e, len (α := e.den) l)
    | false, .data (.arr n e) _ => some (e, n)
    | _, _ => none) else none
  | none => none

/-- The elements' type of a slice of pointers, if it is one that is told. -/
def rowEl (ty : TypeId) : Option Nat :=
  match find cx.T ty with
  | some _ => none
  | none => match find cx.els ty with
    | some e => bif memN cx.ones e then some e else none
    | none => none

/-- An element of a row of pointers: which one, the number tells. -/
def atRow (d : Option Nat) (b ver : Nat) (σ : St) (i : Int) : Nat → Nat → Tree St
  | 0, _ => .fail
  | m + 1, k => .node (eqI i k) (.ret (σ.putO d (.ptr b ver [.fld k k]))) (atRow d b ver σ i m (k + 1))

def rowPath : List Sel → Bool
  | [.fld _ off] => Nat.beq off 0
  | _ => false

def stepIndexAddr (d : Option Nat) (ty : TypeId) (x : Val) (i : Int) (σ : St) : Tree St :=
  match find cx.T ty, x with
  | some (.slice u), .data (.slice e) l => bif Ty.beq u e then .look (idx (l : List e.den) i) fun y => .ret (σ.putO d (.cell e y)) else .fail
  | some (.arr m u), .cell (.arr n e) l => bif Ty.beq u e && Nat.beq m n then .look (idx (l : List e.den) i) fun y => .ret (σ.putO d (.cell e y)) else .fail
  | some (.slice u), .whole b ver => match boxElem σ b ver with
    | some (e, n) => bif Ty.beq u e then .need (within i n) (.ret (σ.putO d (.ptr b ver [.idx i e.size]))) else .fail
    | none => .fail
  | some (.slice u), .part b ver lo n => match boxElem σ b ver with
    | some (e, _) => bif Ty.beq u e then .need (within i n) (.ret (σ.putO d (.ptr b ver [.idx (plus lo i) e.size]))) else .fail
    | none => .fail
  | some (.arr m u), .ptr b ver p => bif live σ b ver then .need (within i m) (.ret (σ.putO d (.ptr b ver (p ++ [.idx i u.size])))) else .fail
  | none, .win b ver q _ _ lo n => match rowEl cx ty with
    | some _ => bif rowPath q && decide (lo = 0) && live σ b ver then atRow d b ver σ i n.toNat 0 else .fail
    | none => .fail
  | _, _ => .fail

/-- The same where the number is known. -/
def stepRowAt (d : Option Nat) (ty : TypeId) (x : Val) (i : Int) (σ : St) : Tree St :=
  match x, rowEl cx ty with
  | .win b ver q _ _ lo n, some _ => bif rowPath q && decide (lo = 0) && live σ b ver then (match i with
      | .ofNat k => bif decide ((k : Int) < n) then .ret (σ.putO d (.ptr b ver [.fld k k])) else .fail
      | .negSucc _ => .fail) else .fail
  | x, _ => stepIndexAddr cx d ty x i σ

def stepIndex (d : Option Nat) (ty : TypeId) (x : Val) (i : Int) (σ : St) : Tree St :=
  match find cx.T ty, x with
  | some .str, .data .str s => .look (idx (s : List UInt8) i) fun b => .ret (σ.putO d (.data (.int .u8) (u8 b)))
  | some (.arr m u), .data (.arr n e) l => bif Ty.beq u e && Nat.beq m n then .look (idx (l : List e.den) i) fun y => .ret (σ.putO d (.data e y)) else .fail
  | _, _ => .fail

def OFld.size : OFld → Nat
  | .dat t => t.size
  | _ => 1

/-- Where an object's field begins. -/
def objOff : List OFld → Nat → Option Nat
  | [], _ => none
  | _ :: _, 0 => some 0
  | f :: r, k + 1 => match objOff r k with | some o => some (f.size + o) | none => none

def stepFieldAddr (d : Option Nat) (s : TypeId) (x : Val) (k : Nat) (σ : St) : Tree St :=
  match x with
  | .cell u y => bif isTy (find cx.T s) u then (match fldAt (.data u y) k with
    | some (_, .data t z) => .ret (σ.putO d (.cell t z))
    | _ => .fail) else .fail
  | .ptr b ver p => bif live σ b ver then (match find cx.T s with
    | some t => match fldOff t k, fldTy t k with
      | some off, some _ => .ret (σ.putO d (.ptr b ver (p ++ [.fld k off])))
      | _, _ => .fail
    | none => match find cx.objs s with
      | some fs => match objOff fs k with
        | some off => .ret (σ.putO d (.ptr b ver (p ++ [.fld k off])))
        | none => .fail
      | none => .fail) else .fail
  | _ => .fail

def stepConvert (d : Option Nat) (src dst : TypeId) (x : Val) (σ : St) : Tree St :=
  match find cx.T src, find cx.T dst, x with
  | some (.int _), some (.int k), .data (.int _) n => .ret (σ.putO d (.data (.int k) (icv k n)))
  | some .str, some .str, .data .str s => .ret (σ.putO d (.data .str s))
  | some .str, some (.slice (.int .u8)), .data .str s => match d with
    | some d => .need (fits (len (α := UInt8) s)) (σ.newBox (nb + d) (.data (.slice (.int .u8)) (bytesInts s)) 0 true fun ver σ => .ret (σ.put d (.whole (nb + d) ver)))
    | none => .fail
  | some (.slice (.int .u8)), some .str, x => match listOf (.int .u8) σ x with
    | some l => .ret (σ.putO d (.data .str (intsBytes l)))
    | none => .fail
  | _, _, _ => .fail

/-- What append's and copy's second argument stands for. -/
def moreOf (e : Ty) (σ : St) (x : Val) : Option (List e.den) := match x with
  | .data .str t => toL (.int .u8) e (bytesInts t)
  | x => listOf e σ x

/-- Is a buffer, whose elements' type is told, one of a slice's type? -/
def elOk (ty t : Nat) : Bool := Nat.beq t 0 || (match find cx.els ty with | some e => Nat.beq e t | none => false)

/-- append: onto a buffer of the call's own. -/
def stepAppend (d : Option Nat) (ty : TypeId) (s x : Val) (σ : St) : Tree St :=
  match d, find cx.T ty with
  | some d, some (.slice e) =>
    match moreOf e σ x with
    | some m => match s with
      | .nils => .need (fits (len (α := e.den) m)) (σ.newBox (nb + d) (.data (.slice e) m) 0 true fun ver σ => .ret (σ.put d (.whole (nb + d) ver)))
      | .whole b ver => match σ.mem b, listOf e σ (.whole b ver) with
        | some bx, some l => bif bx.lk || !elOk cx ty bx.tid then .fail else
          .need (fits (plus (len (α := e.den) l) (len (α := e.den) m))) (.ret ((σ.setBox b { bx with val := .data (.slice e) (app (α := e.den) l m), ver := ver + 1 }).put d (.whole b (ver + 1))))
        | _, _ => .fail
      | _ => .fail
    | none => .fail
  | _, _ => .fail

/-- A row laid into a row that a path leads to, from a place on. -/
def copyInto (e : Ty) (m : List e.den) (b ver : Nat) (q : List Sel) (chk : Nat → Ty → Bool) (lo : Int) (σ : St) : Tree St :=
  match σ.mem b with
  | some bx => bif Nat.beq bx.ver ver && !bx.lk && !bx.ro then
      (match bx.buf with
      | true => match q, bx.val with
        | [], .data (.slice u) l => match toL e u m with
          | some m => .ret (σ.setBox b { bx with val := .data (.slice u) (over (α := u.den) l lo m) })
          | none => .fail
        | _, _ => .fail
      | false => (nav q bx.val).bind fun old => match old with
        | .data (.arr k u) l => bif chk k u then (match toL e u m with
          | some m => (navSet q bx.val (.data (.arr k u) (over (α := u.den) l lo m))).bind fun c => .ret (σ.setBox b { bx with val := c })
          | none => .fail) else .fail
        | _ => .fail)
    else .fail
  | none => .fail

/-- Into what a value of a slice's type stands for; f tells what goes there, of so many elements. -/
def copyTo (e : Ty) (m : Int → List e.den) (t : Val) (σ : St) : Tree (Int × St) :=
  match t with
  | .part b ver lo n => (copyInto e (m n) b ver [] (fun _ _ => true) lo σ).bind fun σ => .ret (n, σ)
  | .whole b ver => match lenOf σ t with | some n => (copyInto e (m n) b ver [] (fun _ _ => true) 0 σ).bind fun σ => .ret (n, σ) | none => .fail
  | .win b ver q u k lo n => (copyInto e (m n) b ver q (fun k' u' => Nat.beq k k' && Ty.beq u u') lo σ).bind fun σ => .ret (n, σ)
  | _ => .fail

def stepCopy (d : Option Nat) (ty : TypeId) (t x : Val) (σ : St) : Tree St :=
  match find cx.T ty with
  | some (.slice e) => match moreOf e σ x with
    | none => .fail
    | some m => (copyTo e (fun n => ltake (α := e.den) m n) t σ).bind fun r => .ret (r.2.putO d (.data (.int .i64) (len (ltake (α := e.den) m r.1))))
  | _ => .fail

def stepClear (ty : TypeId) (t : Val) (σ : St) : Tree St :=
  match find cx.T ty with
  | some (.slice e) => (copyTo e (fun n => lrep n e.zero) t σ).bind fun r => .ret r.2
  | _ => .fail

/-- What stands where such a thing is told, its variables having these names (and versions); and what the variables hold. -/
def conV : (o : OT) → o.den → (N M : List (Nat × Nat)) → Val
  | .dat t, x, _, _ => .data t x
  | .buf _ _, _, _, M => match M with | (b, v) :: _ => .whole b v | [] => .undef
  | .map, _, _, M => match M with | (b, v) :: _ => .mref b v | [] => .undef
  | .ref _ _, _, N, _ => match N with | (b, v) :: _ => .ptr b v [] | [] => .undef
  | .rf _ _, _, _, M => match M with | (b, v) :: _ => .ptr b v [] | [] => .undef
  | .pair p q, u, N, M => .mix (conV p u.1 (N.take p.nr) (M.take p.nb)) (conV q u.2 (N.drop p.nr) (M.drop p.nb))
  | .unit, _, _, _ => .data .unit ()
  | .nilp, _, _, _ => .nilp
def conM : (o : OT) → o.den → (N M : List (Nat × Nat)) → Nat → Option Box
  | .dat _, _, _, _, _ => none
  | .buf e eid, l, _, M, c => match M with
    | (b, v) :: _ => bif Nat.beq c b then some { val := .data (.slice e) l, tid := eid, buf := true, ro := false, lk := false, ver := v } else none
    | [] => none
  | .map, l, _, M, c => match M with
    | (b, v) :: _ => bif Nat.beq c b then some { val := .mapv l, tid := 0, buf := true, ro := false, lk := false, ver := v } else none
    | [] => none
  | .ref tid o, u, N, M, c => match N with
    | (b, v) :: N => bif Nat.beq c b then some { val := conV o u N M, tid, buf := false, ro := false, lk := false, ver := v } else conM o u N M c
    | [] => none
  | .rf tid o, u, N, M, c => match M with
    | (b, v) :: M => bif Nat.beq c b then some { val := conV o u N M, tid, buf := false, ro := false, lk := false, ver := v } else conM o u N M c
    | [] => none
  | .pair p q, u, N, M, c => match conM p u.1 (N.take p.nr) (M.take p.nb) c with
    | some x => some x
    | none => conM q u.2 (N.drop p.nr) (M.drop p.nb) c
  | .unit, _, _, _, _ => none
  | .nilp, _, _, _, _ => none

/-- Such a thing, as memory holds it: its data, and the names of its variables. -/
def readO (mem : Nat → Option Box) : (o : OT) → Val → Option (o.den × List (Nat × Nat) × List (Nat × Nat))
  | .dat t, v => match toS t v with | some x => some (x, [], []) | none => none
  | .buf e eid, v => match v with
    | .whole b ver => match mem b with
      | some bx => bif Nat.beq bx.ver ver && bx.buf && !bx.lk && !bx.ro && Nat.beq bx.tid eid && Nat.blt 0 e.size then (match bx.val with
        | .data (.slice u) l => match toL u e l with | some l => some (l, [], [(b, ver)]) | none => none
        | _ => none) else none
      | none => none
    | _ => none
  | .map, v => match v with
    | .mref b ver => match mem b with
      | some bx => bif Nat.beq bx.ver ver && bx.buf && !bx.lk && !bx.ro then (match bx.val with
        | .mapv l => some (l, [], [(b, ver)])
        | _ => none) else none
      | none => none
    | _ => none
  | .ref tid o, v => match v with
    | .ptr b ver [] => match mem b with
      | some bx => bif Nat.beq bx.ver ver && !bx.buf && !bx.lk && !bx.ro && Nat.beq bx.tid tid then (match readO mem o bx.val with
        | some (u, N, M) => some (u, (b, ver) :: N, M)
        | none => none) else none
      | none => none
    | _ => none
  | .rf tid o, v => match v with
    | .ptr b ver [] => match mem b with
      | some bx => bif Nat.beq bx.ver ver && !bx.buf && !bx.lk && !bx.ro && Nat.beq bx.tid tid then (match readO mem o bx.val with
        | some (u, N, M) => some (u, N, (b, ver) :: M)
        | none => none) else none
      | none => none
    | _ => none
  | .pair p q, v => match v with
    | .mix a b => match readO mem p a, readO mem q b with
      | some (x, N, M), some (y, N', M') => some ((x, y), N ++ N', M ++ M')
      | _, _ => none
    | _ => none
  | .unit, v => match v with | .data .unit _ => some ((), [], []) | _ => none
  | .nilp, v => match v with | .nilp => some ((), [], []) | _ => none

def noDup : List Nat → Bool
  | [] => true
  | b :: r => !memN r b && noDup r
def namesOf (N M : List (Nat × Nat)) : List Nat := N.map (·.1) ++ M.map (·.1)

/-- The arguments' data, what the pointers lead to, and the names of its variables. -/
def refArgs (σ : St) : List Bool → (A : Ty) → (U : OT) → List Val → Option (A.den × U.den × List (Nat × Nat) × List (Nat × Nat))
  | [], A, U, vs => match A, U, vs with
    | .unit, .unit, [] => some ((), (), [], [])
    | _, _, _ => none
  | false :: ps, A, U, vs => match A, vs with
    | .pair t A, v :: vs => match toD t v, refArgs σ ps A U vs with
      | some x, some (y, u, q) => some ((x, y), u, q)
      | _, _ => none
    | _, _ => none
  | true :: ps, A, U, vs => match U, vs with
    | .pair (.ref tid o) U, v :: vs => match readO σ.mem (.ref tid o) v, refArgs σ ps A U vs with
      | some (x, N, M), some (y, u, N', M') => some (y, (x, u), N ++ N', M ++ M')
      | _, _ => none
    | .pair .nilp U, .nilp :: vs => match refArgs σ ps A U vs with
      | some (y, u, q) => some (y, ((), u), q)
      | none => none
    | _, _ => none

/-- A contract's number: a function has two, one of them where its first argument is no pointer. -/
def rkey (f : Nat) : List Val → Nat
  | .nilp :: _ => 2 * f + 1
  | _ => 2 * f

def setRefs (U : OT) (u : U.den) (N M : List (Nat × Nat)) (σ : St) : St :=
  { σ with mem := fun c => match conM U u N (M.map fun p => (p.1, p.2 + 1)) c with
      | some bx => some bx
      | none => σ.mem c }

def isWhole : Val → Bool
  | .whole .. => true
  | _ => false

/-- A builder's operations that are taken as a whole. -/
def stepSpc (s : Spc) (d : Option Nat) (args : List Val) (σ : St) : Tree St :=
  match s, args with
  | .chk T, [.ptr b ver []] => match σ.mem b with
    | some bx => match bx.val with
      | .mix (.selfp b' v') (.mix u (.data .unit _)) => bif Nat.beq bx.ver ver && !bx.buf && !bx.lk && !bx.ro && Nat.beq bx.tid T && Nat.blt 0 T && Nat.beq b' b && Nat.beq v' ver && isWhole u then .ret (σ.putO d (.tup .nl)) else .fail
      | _ => .fail
    | none => .fail
  | .str T E, [.ptr b ver []] => match σ.mem b with
    | some bx => match bx.val with
      | .mix (.selfp _ _) (.mix (.whole h hv) (.data .unit _)) => bif Nat.beq bx.ver ver && !bx.buf && Nat.beq bx.tid T && Nat.blt 0 T && !Nat.beq h b then (match σ.mem h with
        | some hx => bif Nat.beq hx.ver hv && hx.buf && !hx.lk && Nat.beq hx.tid E && Nat.blt 0 E then (match hx.val with
          | .data (.slice (.int .u8)) l => .ret ((σ.setBox h { hx with val := .data (.slice (.int .u8)) [], ver := hx.ver + 1 }).putO d (.data .str (intsBytes l)))
          | _ => .fail) else .fail
        | none => .fail) else .fail
      | _ => .fail
    | none => .fail
  | .look ps A R spec, args => match lendP σ ps A args with
    | some x => .look (spec x) fun y => .ret (σ.putO d (resVal R y))
    | none => .fail
  | _, _ => .fail

/-- Is it a list that is told here and is the function's own? (4000000 + slot) -/
def ownRow (d : Option Nat) : Option Nat := match d with | some d => bif memN bf (4000000 + d) then some d else none | none => none

/-- Is it appended to later on? -/
def isBuf (d : Option Nat) : Option Nat := match d with | some d => bif memN bf d then some d else none | none => none

/-- A list that is copied is the caller's own. -/
def stepClone (e : Ty) (d : Option Nat) (args : List Val) (σ : St) : Tree St :=
  match d, args with
  | some d, [x] => match give σ (.slice e) x with
    | some (l, σ) => bif Nat.blt 0 e.size then .need (fits (len (α := e.den) l)) (σ.newBox (nb + d) (.data (.slice e) l) 0 true fun ver σ => .ret (σ.put d (.whole (nb + d) ver))) else .fail
    | none => .fail
  | _, _ => .fail

/-- A function that puts its argument into a new variable and gives a function that has it. -/
def stepMaker (g : Nat) (d : Option Nat) (args : List Val) (σ : St) : Tree St :=
  match d, args with
  | some _, [.undef] => .fail
  | some _, [.tup _] => .fail
  | some d, [v] => bif Nat.blt g 10000000 then σ.newBox (nb + d) v 0 false fun ver σ => .ret (σ.put d (.fn g [(nb + d, ver)])) else .fail
  | _, _ => .fail

/-- A copy of an object that has a map and a number. -/
def stepTcl (T : Nat) (d : Option Nat) (args : List Val) (σ : St) : Tree St :=
  match d, args with
  | some d, [.ptr b ver []] => match σ.mem b with
    | some bx => match bx.val with
      | .mix (.mref mb mv) (.mix (.data (.int .i64) n) (.data .unit _)) => bif Nat.beq bx.ver ver && !bx.buf && Nat.beq bx.tid T && Nat.blt 0 T then (match σ.mem mb with
        | some mx => bif Nat.beq mx.ver mv && mx.buf then (match mx.val with
          | .mapv l => σ.newBox ((nb + d) * 1000 + 999) (.mapv l) 0 true fun mv' σ => σ.newBox (nb + d) (.mix (.mref ((nb + d) * 1000 + 999) mv') (.mix (.data (.int .i64) n) (.data .unit ()))) T false fun ver' σ => .ret (σ.put d (.ptr (nb + d) ver' []))
          | _ => .fail) else .fail
        | none => .fail) else .fail
      | _ => .fail
    | none => .fail
  | _, _ => .fail

/-- A list of one's own: which one, and what it holds. -/
def ownRef (e : Ty) (σ : St) : Val → Option (Nat × Nat × Box × List e.den)
  | .whole b ver => match σ.mem b with
    | some bx => bif Nat.beq bx.ver ver && bx.buf && !bx.lk && !bx.ro && Nat.beq bx.tid 0 then (match bx.val with
      | .data (.slice u) l => (match toL u e l with | some l => some (b, ver, bx, l) | none => none)
      | _ => none) else none
    | none => none
  | .part b ver lo n => match σ.mem b with
    | some bx => bif Nat.beq bx.ver ver && bx.buf && !bx.lk && !bx.ro && Nat.beq bx.tid 0 && decide (lo = 0) then (match bx.val with
      | .data (.slice u) l => (match toL u e l with | some l => some (b, ver, bx, sub (α := e.den) l lo n) | none => none)
      | _ => none) else none
    | none => none
  | _ => none

def stepOwn (e A : Ty) (res : Bool) (spec : List e.den → A.den → Option (List e.den)) (d : Option Nat) (args : List Val) (σ : St) : Tree St :=
  match args with
  | v :: vs => match giveAll σ A vs with
    | some (x, σ) => match ownRef e σ v with
      | some (b, ver, bx, l) => .look (spec l x) fun l' => match res, d with
        | true, some d => .ret ((σ.setBox b { bx with val := .data (.slice e) l', ver := ver + 1 }).put d (.whole b (ver + 1)))
        | false, d => bif isWhole v then .ret ((σ.setBox b { bx with val := .data (.slice e) l' }).putO d (.tup .nl)) else .fail
        | _, _ => .fail
      | none => .fail
    | none => .fail
  | [] => .fail

/-- Is it a function of own lists? (A copy is the caller's own where it is written to later on.) -/
def ownSpc (d : Option Nat) (f : Nat) : Option Spc :=
  match find cx.spc f with
  | some (.clone e) => match isBuf bf d with | some _ => some (.clone e) | none => none
  | some (.own e A r s) => some (.own e A r s)
  | some (.maker g) => some (.maker g)
  | some (.tcl T) => some (.tcl T)
  | _ => none

def callFn (d : Option Nat) (f : Nat) (args : List Val) (σ : St) : Tree St :=
  match find cx.con f with
  | some c => match c.R.flat with
    | true => match lendAll σ c.A args with
      | some x => .look (c.spec x) fun y => .ret (σ.putO d (resVal c.R y))
      | none => .fail
    | false => match giveAll σ c.A args with
      | some (x, σ) => .look (c.spec x) fun y => .ret (σ.putO d (resVal c.R y))
      | none => .fail
  | none => match find cx.spc f with
   | some s => stepSpc s d args σ
   | none => match find cx.rcon (rkey f args) with
    | some c => (match refArgs σ c.ps c.A c.U args with
      | some (x, u, N, M) => bif noDup (namesOf N M) then .look (c.spec (x, u)) fun y => .ret ((setRefs c.U y.2 N M σ).putO d (resVal c.R y.1)) else .fail
      | none => (inl f args σ).bind fun r => .ret (r.2.putO d r.1))
    | none => (inl f args σ).bind fun r => .ret (r.2.putO d r.1)

def callAny (d : Option Nat) (f : Nat) (args : List Val) (σ : St) : Tree St :=
  match ownSpc cx bf d f with
  | some (.clone e) => stepClone nb e d args σ
  | some (.own e A r s) => stepOwn e A r s d args σ
  | some (.maker g) => stepMaker nb g d args σ
  | some (.tcl T) => stepTcl nb T d args σ
  | _ => callFn cx inl d f args σ

/-- A value of one of an interface's types, as the interface's. -/
def injTo : (t : Ty) → (u : Nat) → Option ((a : Ty) × (a.den → t.den))
  | .alt n a r, u => bif Nat.beq n u then some ⟨a, .inl⟩ else match injTo r u with
    | some ⟨b, f⟩ => some ⟨b, fun x => .inr (f x)⟩
    | none => none
  | _, _ => none

def stepIface (d : Option Nat) (ty u : TypeId) (x : Val) (σ : St) : Tree St :=
  match find cx.T ty with
  | some t => match injTo t u with
    | some ⟨a, f⟩ => match give σ a x with
      | some (y, σ) => .ret (σ.putO d (.data t (f y)))
      | none => .fail
    | none => .fail
  | none => .fail

/-- A method of an interface's value. -/
def stepInvoke (d : Option Nat) (name : String) (args : List Val) (σ : St) : Tree St :=
  match findS cx.inv name with
  | some c => match giveAll σ c.A args with
    | some (x, σ) => .look (c.spec x) fun y => .ret (σ.putO d (resVal c.R y))
    | none => .fail
  | none => .fail

def stepCall (d : Option Nat) (ty : TypeId) (c : Call) (σ : St) : Tree St :=
  match c.callee with
  | .builtin b => match b, c.args.toList.map (opv σ), c.argTypes.toList with
    | .len, [x], [t] => bif lenTy (find cx.T t) x then (match lenOf σ x with
      | some n => .ret (σ.putO d (.data (.int .i64) n))
      | none => .fail) else (match rowEl cx t, x with
      | some _, .win b ver _ _ _ _ n => bif live σ b ver && decide (n ≤ 64) then .ret (σ.putO d (.data (.int .i64) n)) else .fail
      | _, _ => .fail)
    | .append, [s, x], [t, u] => match find cx.T u with
      | some .str | some (.slice _) => stepAppend cx nb d t s x σ
      | _ => .fail
    | .copy, [t, x], [tt, tx] => match find cx.T tx with
      | some .str | some (.slice _) => stepCopy cx d tt t x σ
      | _ => .fail
    | .clear, [t], [tt] => match d with | none => stepClear cx tt t σ | some _ => .fail
    | .min, [x, y], _ => binMin true x y |>.bind fun v => .ret (σ.putO d v)
    | .max, [x, y], _ => binMin false x y |>.bind fun v => .ret (σ.putO d v)
    | _, _, _ => .fail
  | .value f => match opv σ f with
    | .fn f caps => bif caps.all (fun b => live σ b.1 b.2) then callAny cx nb bf inl d (fnNo f) (fnArgs f (c.args.toList.map (opv σ)) (caps.map fun b => .ptr b.1 b.2 [])) σ else .fail
    | _ => .fail
  | .invoke r name => stepInvoke cx d name (opv σ r :: c.args.toList.map (opv σ)) σ

def capsOf : List Val → Option (List (Nat × Nat))
  | [] => some []
  | .ptr b ver [] :: r => (capsOf r).map ((b, ver) :: ·)
  | _ => none

/-- The number that a variable's next version has. -/
def nextVer (σ : St) (b : Nat) : Nat := match σ.mem b with | some bx => bx.ver + 1 | none => 0

/-- A new object's fields: lists that are appended to are variables of their own. -/
def mkObj (b ver : Nat) : List OFld → Nat → St → Tree (Val × St)
  | [], _, σ => .ret (.data .unit (), σ)
  | .dat t :: r, j, σ => (mkObj b ver r (j + 1) σ).bind fun x => .ret (.mix (.data t t.zero) x.1, x.2)
  | .one :: r, j, σ => (mkObj b ver r (j + 1) σ).bind fun x => .ret (.mix .nilp x.1, x.2)
  | .self :: r, j, σ => (mkObj b ver r (j + 1) σ).bind fun x => .ret (.mix (.selfp b ver) x.1, x.2)
  | .buf e eid :: r, j, σ => bif Nat.blt 0 e.size then σ.newBox (b * 1000 + 999 - j) (.data (.slice e) []) eid true fun v σ => (mkObj b ver r (j + 1) σ).bind fun x => .ret (.mix (.whole (b * 1000 + 999 - j) v) x.1, x.2) else .fail
  | .map :: r, j, σ => σ.newBox (b * 1000 + 999 - j) (.mapv []) 0 true fun v σ => (mkObj b ver r (j + 1) σ).bind fun x => .ret (.mix (.mref (b * 1000 + 999 - j) v) x.1, x.2)

/-- An object's fields as they are told where it is made: plain data, and lists that are not there. -/
def zeroObj : List OFld → Option Val
  | [] => some (.data .unit ())
  | .dat t :: r => match zeroObj r with | some v => some (.mix (.data t t.zero) v) | none => none
  | .buf _ _ :: r => match zeroObj r with | some v => some (.mix .nils v) | none => none
  | .one :: r => match zeroObj r with | some v => some (.mix .nilp v) | none => none
  | .self :: _ => none
  | .map :: r => match zeroObj r with | some v => some (.mix .nilm v) | none => none

/-- A pointer, or a list of one's own. -/
def ptrV : Val → Bool
  | .ptr _ _ _ => true
  | .whole _ _ => true
  | _ => false

def buildObj (σ : St) (fs : List OFld) : Val → List (Nat × Operand) → Option Val
  | v, [] => some v
  | v, (k, x) :: r => match fldAt v k, objOff fs k, fs[k]? with
    | some (o, .data t _), some o', some f => bif Nat.beq o o' && Nat.beq t.size f.size then (match toS t (opv σ x) with
      | some y => match (setFld v k fun _ => .ret (.data t y)).run with
        | some v => buildObj σ fs v r
        | none => none
      | none => none) else none
    | some (o, z), some o', some f => bif Nat.beq o o' && Nat.beq 1 f.size && Nat.beq (valSize z) 1 && ptrV (opv σ x) then (match (setFld v k fun _ => .ret (opv σ x)).run with
        | some v => buildObj σ fs v r
        | none => none) else none
    | _, _, _ => none

/-- An object as it was told becomes a variable's: its lists are variables of their own. -/
def openObj (b : Nat) : List OFld → Nat → Val → St → Tree (Val × St)
  | [], _, .data .unit x, σ => .ret (.data .unit x, σ)
  | .dat _ :: r, j, .mix (.data u y) v, σ => (openObj b r (j + 1) v σ).bind fun x => .ret (.mix (.data u y) x.1, x.2)
  | .one :: r, j, .mix .nilp v, σ => (openObj b r (j + 1) v σ).bind fun x => .ret (.mix .nilp x.1, x.2)
  | .one :: r, j, .mix (.ptr c cv p) v, σ => (openObj b r (j + 1) v σ).bind fun x => .ret (.mix (.ptr c cv p) x.1, x.2)
  | .buf _ _ :: r, j, .mix (.whole c cv) v, σ => (openObj b r (j + 1) v σ).bind fun x => .ret (.mix (.whole c cv) x.1, x.2)
  | .buf e eid :: r, j, .mix .nils v, σ => bif Nat.blt 0 e.size then σ.newBox (b * 1000 + 999 - j) (.data (.slice e) []) eid true fun ver σ => (openObj b r (j + 1) v σ).bind fun x => .ret (.mix (.whole (b * 1000 + 999 - j) ver) x.1, x.2) else .fail
  | .map :: r, j, .mix .nilm v, σ => σ.newBox (b * 1000 + 999 - j) (.mapv []) 0 true fun ver σ => (openObj b r (j + 1) v σ).bind fun x => .ret (.mix (.mref (b * 1000 + 999 - j) ver) x.1, x.2)
  | _, _, _, _ => .fail

/-- A row of pointers, as it is told. -/
def rowVal (σ : St) : Nat → List (Nat × Operand) → Option Val
  | _, [] => some (.data .unit ())
  | k, (j, x) :: r => bif Nat.beq j k then (match opv σ x, rowVal σ (k + 1) r with
    | .nilp, some v => some (.mix .nilp v)
    | .ptr b ver p, some v => some (.mix (.ptr b ver p) v)
    | .fn f c, some v => some (.mix (.fn f c) v)
    | _, _ => none) else none

def stepRow (d : Option Nat) (t : TypeId) (len : Nat) (parts : List (Nat × Operand)) (σ : St) : Tree St :=
  match d, rowEl cx t, rowVal σ 0 parts with
  | some d, some _, some v => bif Nat.beq len parts.length && Nat.blt 0 len && Nat.ble len 64 then
      σ.newBox (nb + d) v 0 false fun ver σ => .ret (σ.put d (.win (nb + d) ver [.fld 0 0] .bool len 0 len)) else .fail
  | _, _, _ => .fail

def stepBox (d : Option Nat) (elem : TypeId) (x : Val) (σ : St) : Tree St :=
  match d, x with
  | some _, .undef => .fail
  | some _, .tup _ => .fail
  | some d, v => match find cx.objs elem with
    | some fs => (openObj (nb + d) fs 0 v σ).bind fun r => r.2.newBox (nb + d) r.1 elem false fun ver σ => .ret (σ.put d (.ptr (nb + d) ver []))
    | none => σ.newBox (nb + d) v 0 false fun ver σ => .ret (σ.put d (.ptr (nb + d) ver []))
  | none, _ => .fail

/-- A new variable of plain data; of a list that is appended to: the list is a variable of its own. -/
def stepAlloc (d : Nat) (t : Ty) (σ : St) : Tree St :=
  match isBuf bf (some d), t with
  | some _, .slice e => bif Nat.blt 0 e.size then σ.newBox ((nb + d) * 1000 + 999) (.data (.slice e) []) 0 true fun v σ =>
      σ.newBox (nb + d) (.whole ((nb + d) * 1000 + 999) v) 0 false fun ver σ => .ret (σ.put d (.ptr (nb + d) ver [])) else .fail
  | _, t => σ.newBox (nb + d) (.data t t.zero) 0 false fun ver σ => .ret (σ.put d (.ptr (nb + d) ver []))

def opStep (o : Oper) (σ : St) : Tree St :=
  match o.op with
  | .move x | .assign x => stepAssign cx nb bf o.dst o.type (opv σ x) σ
  | .pick c a b => stepPick o.dst (opv σ c) (opv σ a) (opv σ b) σ
  | .alloc elem => match o.dst, find cx.T elem with
    | some d, some t => stepAlloc nb bf d t σ
    | some d, none => match find cx.objs elem with
      | some fs => (mkObj (nb + d) (nextVer σ (nb + d)) fs 0 σ).bind fun r => r.2.newBox (nb + d) r.1 elem false fun ver σ => .ret (σ.put d (.ptr (nb + d) ver []))
      | none => bif memN cx.ones elem then σ.newBox (nb + d) .undef 0 false fun ver σ => .ret (σ.put d (.ptr (nb + d) ver [])) else .fail
    | _, _ => .fail
  | .box elem x => stepBox cx nb o.dst elem (opv σ x) σ
  | .build t parts => match find cx.T t with
    | some (.pair a b) => match zeroAt bf o.dst parts.toList with
      | some (d, k) => stepZero nb d (.pair a b) k σ
      | none => match buildParts σ (.pair a b) (Ty.pair a b).zero parts.toList with
        | some (x, σ) => .ret (σ.putO o.dst (.data (.pair a b) x))
        | none => .fail
    | some (.arr n e) => match buildList σ e (List.replicate n e.zero) parts.toList with
      | some (l, σ) => .ret (σ.putO o.dst (.data (.arr n e) l))
      | none => .fail
    | none => match find cx.objs t with
      | some fs => match zeroObj fs with
        | some z => match buildObj σ fs z parts.toList with
          | some (.mix p q) => .ret (σ.putO o.dst (.mix p q))
          | some (.data .unit _) => .ret (σ.putO o.dst (.data .unit ()))
          | _ => .fail
        | none => .fail
      | none => .fail
    | _ => .fail
  | .buildSlice t len parts => match find cx.T t with
    | some (.slice e) => match isBuf bf o.dst, len, parts.toList with
      | some d, 0, [] => σ.newBox (nb + d) (.data (.slice e) []) 0 true fun ver σ => .ret (σ.put d (.whole (nb + d) ver))
      | _, _, _ => bif Nat.ble (len * e.size) 65536 then (match buildList σ e (List.replicate len e.zero) parts.toList with
      | some (l, σ) => (match ownRow bf o.dst with
        | some d => σ.newBox (nb + d) (.data (.slice e) l) 0 true fun ver σ => .ret (σ.put d (.whole (nb + d) ver))
        | none => .ret (σ.putO o.dst (.data (.slice e) l)))
      | none => .fail) else .fail
    | none => stepRow cx nb o.dst t len parts.toList σ
    | _ => .fail
  | .load t a => stepLoad cx o.dst t (opv σ a) σ
  | .store t a x => match o.dst with | none => bif memN bf 8000001 && isNilC x then stepNil cx t (opv σ a) σ else stepStore cx bf t (opv σ a) (opv σ x) σ | some _ => .fail
  | .nilCheck x => match opv σ x with
    | .ptr b ver p => bif live σ b ver then .ret (σ.putO o.dst (.ptr b ver p)) else .fail
    | .cell t x => .ret (σ.putO o.dst (.cell t x))
    | .fn f c => .ret (σ.putO o.dst (.fn f c))
    | _ => .fail
  | .binOp op xt x y _ => (binP σ (find cx.T xt) (memN cx.ptrs xt) op (opv σ x) (opv σ y)).bind fun v => .ret (σ.putO o.dst v)
  | .unOp op _ x => (un op (opv σ x)).bind fun v => .ret (σ.putO o.dst v)
  | .convert src dst x => stepConvert cx nb o.dst src dst (opv σ x) σ
  | .makeFunc (.func f) first caps => match first.toList, capsOf (caps.toList.map (opv σ)) with
    | [], some cs => bif Nat.blt f 10000000 then .ret (σ.putO o.dst (.fn f cs)) else .fail
    | [x], some [] => (match capsOf [opv σ x] with
      | some cs => bif Nat.blt f 10000000 then .ret (σ.putO o.dst (.fn (f + 10000000) cs)) else .fail
      | none => .fail)
    | _, _ => .fail
  | .slice t x lo hi none => stepSlice cx o.dst t (opv σ x) lo hi σ
  | .fieldAddr s x k => stepFieldAddr cx o.dst s (opv σ x) k σ
  | .field xt x k => match opv σ x with
    | .data u y => bif isTy (find cx.T xt) u then (match fldAt (.data u y) k with
      | some (_, v) => .ret (σ.putO o.dst v)
      | none => .fail) else .fail
    | _ => .fail
  | .indexAddr t x i => match opv σ i with
    | .data (.int _) i => bif memN bf 5000000 then stepRowAt cx o.dst t (opv σ x) i σ else stepIndexAddr cx o.dst t (opv σ x) i σ
    | _ => .fail
  | .index t x i => match opv σ i with
    | .data (.int _) i => stepIndex cx o.dst t (opv σ x) i σ
    | _ => .fail
  | .makeSlice t l c => match o.dst, find cx.T t, opv σ l, opv σ c with
    | some d, some (.slice e), .data (.int _) l, .data (.int _) c =>
      .need (inside 0 l c) (.need (fits c)
        (σ.newBox (nb + d) (.data (.slice e) (lrep l e.zero)) 0 true fun ver σ => .ret (σ.put d (.whole (nb + d) ver))))
    | _, _, _, _ => .fail
  | .extract t k => match opv σ t with
    | .tup vs => match nth vs k with
      | some v => .ret (σ.putO o.dst v)
      | none => .fail
    | _ => .fail
  | .call c => stepCall cx nb bf inl o.dst o.type c σ
  | .makeInterface u x => stepIface cx o.dst o.type u (opv σ x) σ
  | _ => .fail

/-! ### A region -/

def guardIs (g : Option (Nat × Bool)) (j : Nat) (want : Bool) : Bool :=
  match g with | some (i, b) => Nat.beq i j && (b == want) | none => false

/-- The operations that stand under a guard, and those behind them: those of the guard itself, and those whose guard is among them. -/
def under (j : Nat) (want : Bool) : (inner : List Nat) → List (Nat × Oper) → List (Nat × Oper) × List (Nat × Oper)
  | _, [] => ([], [])
  | inner, (i, o) :: r =>
    bif guardIs o.guard j want then let x := under j want (i :: inner) r; ((i, { o with guard := none }) :: x.1, x.2)
    else bif (match o.guard with | some (k, _) => inner.any (Nat.beq k) | none => false) then let x := under j want (i :: inner) r; ((i, o) :: x.1, x.2)
    else ([], (i, o) :: r)

def inlines (cx : Ctx) : List (Nat × Oper) → Bool
  | [] => false
  | (_, o) :: r => (match o.op with
    | .call c => match c.callee with
      | .value (.func f) => match find cx.con f with | some _ => false | none => true
      | .value _ => true
      | .builtin .append => true
      | _ => false
    | .store .. => true
    | _ => false) || inlines cx r

def St.lockAll (σ : St) : St := { σ with mem := fun i => match σ.mem i with | some b => some { b with lk := true } | none => none }
def St.undef (σ : St) : List (Nat × Oper) → St
  | [] => σ
  | (_, o) :: r => (σ.undef r).putO o.dst .undef

/-- Does one of them write to a slot? -/
def hits (d : Nat) : List (Nat × Oper) → Bool
  | [] => false
  | (_, o) :: r => (match o.dst with | some k => Nat.beq k d | none => false) || hits d r

/-- What a choice comes to where its test is known. -/
def chosen (σ : St) (pk : Oper) (dj : Nat) (want : Bool) : Option Val :=
  match pk.op with
  | .pick (.tmp c) a b => bif Nat.beq c dj then some (opv σ (bif want then a else b)) else none
  | _ => none

def evalOps (all : Array Oper) : Nat → List (Nat × Oper) → St → Tree St
  | 0, _, _ => .fail
  | n + 1, [], σ => .ret σ
  | n + 1, (i, o) :: r, σ =>
    match o.guard with
    | none => (opStep cx nb bf inl o σ).bind fun σ => evalOps all n r σ
    | some (j, want) =>
      let g := under j want [] ((i, o) :: r)
      match (all[j]?).bind (·.dst) with
      | none => .fail
      | some dj => match σ.slots dj, g.2 with
        | .data .bool c, (_, pk) :: rest => bif hits dj g.1 then .fail else match pk.guard with
          | some _ => .fail
          | none =>
            let c' := bif want then c else nt c
            bif inlines cx g.1 then
              (Tree.node c' ((evalOps all n g.1 σ).bind fun σ => match chosen σ pk dj want with
                  | some v => .ret (σ.putO pk.dst v)
                  | none => .fail)
                (match chosen (σ.undef g.1) pk dj (!want) with
                  | some v => .ret ((σ.undef g.1).putO pk.dst v)
                  | none => .fail)).bind fun σ => evalOps all n rest σ
            else match find cx.T pk.type, pk.dst with
              | some t, some dp => (Tree.node c' ((evalOps all n g.1 σ.lockAll).bind fun τ => match (chosen τ pk dj want).bind (toD t) with
                    | some x => .ret x
                    | none => .fail)
                  (match (chosen (σ.undef g.1) pk dj (!want)).bind (toD t) with
                    | some x => .ret x
                    | none => .fail)).join fun x => evalOps all n rest ((σ.undef g.1).put dp (.data t x))
              | _, _ => .fail
        | _, _ => .fail

def number : Nat → List Oper → List (Nat × Oper)
  | _, [] => []
  | k, o :: r => (k, o) :: number (k + 1) r

def evalRegion (ops : Array Oper) (σ : St) : Tree St := evalOps cx nb bf inl ops (2 * ops.size + 1) (number 0 ops.toList) σ

/-! ### A region whose order is drawn -/

def opnds : Op → List Operand
  | .move x | .assign x | .box _ x | .load _ x | .nilCheck x | .unOp _ _ x | .convert _ _ x | .fieldAddr _ x _ | .field _ x _ | .extract x _ => [x]
  | .pick c a b => [c, a, b]
  | .build _ ps | .buildSlice _ _ ps => ps.toList.map (·.2)
  | .store _ a x => [a, x]
  | .binOp _ _ x y _ => [x, y]
  | .makeFunc _ f c => f.toList ++ c.toList
  | .slice _ x lo hi _ => x :: (lo.toList ++ hi.toList)
  | .indexAddr _ x i | .index _ x i => [x, i]
  | .makeSlice _ l c => [l, c]
  | .call c => (match c.callee with | .value f => [f] | .invoke r _ => [r] | _ => []) ++ c.args.toList
  | .makeInterface _ x => [x]
  | _ => []

def tmpsOf : List Operand → List Nat
  | [] => []
  | .tmp t :: r => t :: tmpsOf r
  | _ :: r => tmpsOf r

/-- What an operation does to memory: 0 nothing, 1 it makes a variable, 2 it changes what its operands name, 3 who knows. -/
def calleeOf (o : Oper) (σ : St) : Option Nat := match o.op with
  | .call c => match c.callee with
    | .value x => match opv σ x with
      | .fn f _ => some (fnNo f)
      | _ => none
    | _ => none
  | _ => none

def fnEq : Option Nat → Option Nat → Bool
  | some a, some b => Nat.beq a b
  | none, none => true
  | _, _ => false

def hasR (f : Nat) : Bool := match find cx.rcon (2 * f) with
  | some _ => true
  | none => match find cx.rcon (2 * f + 1) with
    | some _ => true
    | none => false

def cls (g : Option Nat) (o : Oper) : Nat := match o.op with
  | .assign _ | .move _ | .makeSlice .. | .convert .. => 1
  | .box e _ => match find cx.objs e with
    | some _ => 3
    | none => 1
  | .alloc e => match find cx.T e with
    | some (.slice _) => 3
    | some _ => 1
    | none => match find cx.objs e with
      | some _ => 3
      | none => 1
  | .build .. | .buildSlice .. => 2
  | .store _ _ x => bif isNilC x then 3 else 2
  | .call c => match c.callee with
    | .builtin .len | .builtin .min | .builtin .max => 0
    | .builtin .append => 2
    | .builtin _ => 3
    | .value _ => match g with
      | some f => match find cx.spc f with
        | some (.clone _) => 2
        | some (.own _ _ _ _) => 2
        | some (.maker _) => 2
        | some (.tcl _) => 3
        | s => match find cx.con f with
          | some c => bif c.R.flat then 0 else 2
          | none => match s, hasR cx f with
            | some (.look _ _ _ _), _ => 0
            | none, true => 2
            | _, _ => 3
      | none => 3
    | .invoke .. => 2
  | .makeInterface .. => 2
  | _ => 0

/-- What an operation looks at in memory, and what it may change there; bar: nobody knows. -/
structure Fp where
  rd : List Nat
  wr : List Nat
  bar : Bool
  fn : Option Nat

def refBoxes (σ : St) : Val → List Nat
  | .ptr b _ _ => [b]
  | .whole b _ => [b]
  | .mref b _ => [b]
  | .part b _ _ _ => [b]
  | .win b _ _ _ _ _ _ => [b]
  | .fn _ caps => caps.map (·.1)
  | .mix a b => refBoxes σ a ++ refBoxes σ b
  | _ => []

def refsOf (σ : St) : List Operand → List Nat
  | [] => []
  | x :: r => refBoxes σ (opv σ x) ++ refsOf σ r

/-- The boxes that an operation looks at: where a value is moved, none. -/
def needs (o : Oper) (σ : St) : List Nat := match o.op with
  | .move _ | .assign _ => []
  | _ => refsOf σ (opnds o.op)

/-- The boxes that the boxes of pointers name. -/
def inBoxes (σ : St) : List Val → List Nat
  | [] => []
  | .ptr b _ [] :: r => (match σ.mem b with | some bx => refBoxes σ bx.val | none => []) ++ inBoxes σ r
  | _ :: r => inBoxes σ r

/-- What the pointers lead to, of a function that is told so. -/
def reach (o : Oper) (σ : St) (g : Option Nat) : List Nat := match o.op, g with
  | .call c, some f => match find cx.rcon (rkey f (c.args.toList.map (opv σ))) with
    | some k => match refArgs σ k.ps k.A k.U (c.args.toList.map (opv σ)) with
      | some (_, _, N, M) => namesOf N M
      | none => []
    | none => match find cx.spc f with
      | some (.look _ _ _ _) => inBoxes σ (c.args.toList.map (opv σ))
      | _ => []
  | _, _ => []

def own (o : Oper) : List Nat := match o.dst with | some d => [nb + d] | none => []

def fpOf (o : Oper) (σ : St) : Fp :=
  let g := calleeOf o σ
  let rd := own nb o ++ (needs o σ ++ reach cx o σ g)
  match cls cx g o with
  | 0 => ⟨rd, [], false, g⟩
  | 1 => ⟨rd, own nb o, false, g⟩
  | 2 => ⟨rd, rd, false, g⟩
  | _ => ⟨[], [], true, g⟩

def St.only (σ : St) (ts rd : List Nat) : St := { slots := fun t => bif memN ts t then σ.slots t else .undef, mem := fun b => bif memN rd b then σ.mem b else none }

def lay (σ : St) (d : Option Nat) (wr : List Nat) (τ : St) : St :=
  { slots := match d with | some d => fun t => bif Nat.beq t d then τ.slots d else σ.slots t | none => σ.slots
    mem := fun b => bif memN wr b then τ.mem b else σ.mem b }

def noInl (_ : Nat) (_ : List Val) (_ : St) : Tree (Val × St) := .fail

/-- An operation of a function that is told, in a part of memory. -/
def partStep (fp : Fp) (o : Oper) (σ : St) : Tree St := bif fnEq (calleeOf o σ) fp.fn then opStep cx nb bf noInl o σ else .fail

/-- An operation that looks at nothing but its operands and what these name. -/
def isoStep (fp : Fp) (o : Oper) (σ : St) : Tree St :=
  bif fp.bar then opStep cx nb bf inl o σ
  else (partStep cx nb bf fp o (σ.only (tmpsOf (opnds o.op)) fp.rd)).bind fun τ => .ret (lay σ o.dst fp.wr τ)

abbrev Done := Nat × Oper × Fp × Nat

def maskAt : List Done → Nat → Nat
  | [], _ => 0
  | (i, _, _, m) :: r, k => bif Nat.beq i k then m else maskAt r k

def edgesMask (done : List Done) : List Edge → Nat
  | [] => 0
  | e :: r => bif Region.binds .any e then (edgesMask done r ||| 2 ^ e.on) ||| maskAt done e.on else edgesMask done r

/-- What an operation waits for, through others too: a number's bits. -/
def mask (done : List Done) (o : Oper) : Nat := edgesMask done o.after.toList

def disj (a b : List Nat) : Bool := a.all fun x => !memN b x

/-- Two operations that may come in either order. -/
def apart (x y : Oper) (f g : Fp) : Bool :=
  !f.bar && !g.bar && disj f.wr g.rd && disj g.wr f.rd &&
  (match x.dst with | some d => !memN (tmpsOf (opnds y.op)) d && (match y.dst with | some e => !Nat.beq d e | none => true) | none => true) &&
  (match y.dst with | some e => !memN (tmpsOf (opnds x.op)) e | none => true)

def loose (o : Oper) (f : Fp) (m : Nat) : List Done → Bool
  | [] => true
  | (k, ok, fk, _) :: r => (Nat.testBit m k || apart ok o fk f) && loose o f m r

/-- The operations in their own order; whatever order is drawn comes to the same. -/
def evalD : List (Nat × Oper) → List Done → St → Tree St
  | [], _, σ => .ret σ
  | (i, o) :: r, done, σ => match o.guard with
    | some _ => .fail
    | none =>
      let f := fpOf cx nb o σ
      let m := mask done o
      bif loose o f m done && (o.after.all fun e => !Region.binds .any e || Nat.blt e.on i) then
        (isoStep cx nb bf inl f o σ).bind fun σ => evalD r ((i, o, f, m) :: done) σ
      else .fail

/-! Where there are guards: what is skipped is kept in mind. -/

def guardSlot (all : Array Oper) (o : Oper) : List Nat := match o.guard with
  | some (g, _) => match (all[g]?).bind (·.dst) with | some d => [d] | none => []
  | none => []
def looksG (all : Array Oper) (o : Oper) : List Nat := guardSlot all o ++ tmpsOf (opnds o.op)
def guardOff (o : Oper) (k : Nat) : Bool := match o.guard with | some (g, _) => !Nat.beq g k | none => true

def apartG (all : Array Oper) (i j : Nat) (x y : Oper) (f g : Fp) : Bool :=
  !f.bar && !g.bar && disj f.wr g.rd && disj g.wr f.rd && guardOff x j && guardOff y i &&
  (match x.dst with | some d => !memN (looksG all y) d && (match y.dst with | some e => !Nat.beq d e | none => true) | none => true) &&
  (match y.dst with | some e => !memN (looksG all x) e | none => true)

def looseG (all : Array Oper) (i : Nat) (o : Oper) (f : Fp) (m : Nat) : List Done → Bool
  | [] => true
  | (k, ok, fk, _) :: r => (Nat.testBit m k || apartG all k i ok o fk f) && looseG all i o f m r

def skipped (i : Nat) (sk : Nat → Bool) : Nat → Bool := fun k => Nat.beq k i || sk k

/-- The operations in their own order, each way through the tests by itself. -/
def evalG (all : Array Oper) : List (Nat × Oper) → List Done → St → (Nat → Bool) → Tree St
  | [], _, σ, _ => .ret σ
  | (i, o) :: r, done, σ, sk =>
    let f := fpOf cx nb o σ
    let m := mask done o
    bif looseG all i o f m done && (o.after.all fun e => !Region.binds .any e || Nat.blt e.on i) then
      match o.guard with
      | none => (isoStep cx nb bf inl f o σ).bind fun σ => evalG all r ((i, o, f, m) :: done) σ sk
      | some (g, want) => match (all[g]?).bind (·.dst) with
        | none => .fail
        | some dg => bif sk g then evalG all r ((i, o, f, m) :: done) (σ.putO o.dst .undef) (skipped i sk)
          else match σ.slots dg with
            | .data .bool c => .node c
                (bif want then (isoStep cx nb bf inl f o (σ.put dg (.data .bool true))).bind fun σ => evalG all r ((i, o, f, m) :: done) σ sk
                  else evalG all r ((i, o, f, m) :: done) ((σ.put dg (.data .bool true)).putO o.dst .undef) (skipped i sk))
                (bif want then evalG all r ((i, o, f, m) :: done) ((σ.put dg (.data .bool false)).putO o.dst .undef) (skipped i sk)
                  else (isoStep cx nb bf inl f o (σ.put dg (.data .bool false))).bind fun σ => evalG all r ((i, o, f, m) :: done) σ sk)
            | _ => .fail
    else .fail

def noTwice : List Oper → Bool
  | [] => true
  | o :: r => (match o.dst with | some d => !memN (opDsts r) d | none => true) && noTwice r
where opDsts : List Oper → List Nat
  | [] => []
  | o :: r => match o.dst with | some d => d :: opDsts r | none => opDsts r

def evalDrawn (ops : Array Oper) (σ : St) : Tree St :=
  bif ops.any fun o => o.guard.isSome then (bif noTwice ops.toList then evalG cx nb bf inl ops (number 0 ops.toList) [] σ (fun _ => false) else .fail)
  else evalD cx nb bf inl (number 0 ops.toList) [] σ
end

end Go.Ge
namespace Go.Ge
set_option linter.unusedVariables false
set_option linter.unusedSectionVars false

/-! ### Rounds without a bound -/

def rounds {S R : Type} (f : S → Option (S ⊕ R)) : Nat → S → Option R
  | 0, _ => none
  | n + 1, s => (f s).bind fun x => match x with | .inl s => rounds f n s | .inr r => some r

theorem rounds_mono {S R : Type} {f : S → Option (S ⊕ R)} : ∀ {n : Nat} {s : S} {r : R}, rounds f n s = some r → ∀ m, n ≤ m → rounds f m s = some r := by
  intro n
  induction n with
  | zero => intro s r h; cases h
  | succ n ih =>
    intro s r h m hm
    obtain ⟨k, rfl⟩ : ∃ k, m = k + 1 := ⟨m - 1, by omega⟩
    simp only [rounds] at h ⊢
    cases hf : f s with
    | none => rw [hf] at h; cases h
    | some x =>
      rw [hf] at h
      cases x with
      | inl s' => exact ih h k (by omega)
      | inr r' => exact h

open Classical in
/-- What a loop comes to, if it ends. -/
noncomputable def LoopC {S R : Type} (f : S → Option (S ⊕ R)) (s : S) : Option R :=
  if h : ∃ n r, rounds f n s = some r then some (Classical.choose (Classical.choose_spec h)) else none

theorem loopC_of_rounds {S R : Type} {f : S → Option (S ⊕ R)} {n : Nat} {s : S} {r : R} (h : rounds f n s = some r) : LoopC f s = some r := by
  have hex : ∃ n r, rounds f n s = some r := ⟨n, r, h⟩
  unfold LoopC
  rw [dif_pos hex]
  have h2 := Classical.choose_spec (Classical.choose_spec hex)
  have a := rounds_mono h (max n (Classical.choose hex)) (by omega)
  have b := rounds_mono h2 (max n (Classical.choose hex)) (by omega)
  rw [a] at b
  exact b.symm

/-- A way to tell what a loop comes to. There is one alone: proofs leave it open; where the kernel is to run a loop, it is Lp.fast. -/
class Lp where
  loop : {S R : Type} → (S → Option (S ⊕ R)) → S → Option R
  ok : ∀ {S R : Type} (f : S → Option (S ⊕ R)) (s : S), loop f s = LoopC f s

theorem Lp.one (i j : Lp) : i = j := by
  obtain ⟨l, h⟩ := i
  obtain ⟨m, k⟩ := j
  have : @l = @m := by funext S R f s; rw [h, k]
  subst this
  rfl

/-- The kernel can run it, where a loop ends soon. -/
@[reducible] noncomputable def Lp.fast : Lp where
  loop := fun f s => match rounds f 100000 s with | some r => some r | none => LoopC f s
  ok := fun f s => by
    generalize 100000 = k
    cases hk : rounds f k s with
    | some r => exact (loopC_of_rounds hk).symm
    | none => rfl

section
variable [Lp]

noncomputable def Loop {S R : Type} (f : S → Option (S ⊕ R)) (s : S) : Option R := Lp.loop f s

theorem loop_of_rounds {S R : Type} {f : S → Option (S ⊕ R)} {n : Nat} {s : S} {r : R} (h : rounds f n s = some r) : Loop f s = some r := (Lp.ok f s).trans (loopC_of_rounds h)

theorem rounds_of_loop {S R : Type} {f : S → Option (S ⊕ R)} {s : S} {r : R} (h : Loop f s = some r) : ∃ n, rounds f n s = some r := by
  replace h := (Lp.ok f s).symm.trans h
  unfold LoopC at h
  split at h
  · rename_i hex
    have h2 := Classical.choose_spec (Classical.choose_spec hex)
    exact ⟨_, by rw [h2]; exact h⟩
  · cases h

theorem Loop_eq {S R : Type} (f : S → Option (S ⊕ R)) (s : S) : Loop f s = (f s).bind fun x => match x with | .inl s => Loop f s | .inr r => some r := by
  cases hf : f s with
  | none =>
    cases hl : Loop f s with
    | none => rfl
    | some r =>
      obtain ⟨n, hn⟩ := rounds_of_loop hl
      cases n with
      | zero => cases hn
      | succ n => simp [rounds, hf] at hn
  | some x =>
    cases x with
    | inr r => exact loop_of_rounds (n := 1) (by simp [rounds, hf])
    | inl s' =>
      show Loop f s = Loop f s'
      cases hl : Loop f s' with
      | some r =>
        obtain ⟨n, hn⟩ := rounds_of_loop hl
        exact loop_of_rounds (n := n + 1) (by simp [rounds, hf, hn])
      | none =>
        cases hl2 : Loop f s with
        | none => rfl
        | some r =>
          obtain ⟨n, hn⟩ := rounds_of_loop hl2
          cases n with
          | zero => cases hn
          | succ n =>
            simp [rounds, hf] at hn
            rw [loop_of_rounds hn] at hl; cases hl

end

/-! ### What is carried through a loop, and over a test's end -/

inductive Sh where
  | d (t : Ty)
  | k (v : Val)
  | m (a b : Sh)
  | mp

def Sh.ty : Sh → Ty
  | .d t => t
  | .k _ => .unit
  | .m a b => .pair a.ty b.ty
  | .mp => .slice (.pair (.int .i64) (.pair (.int .i64) .unit))

def pathBeq : List Sel → List Sel → Bool
  | [], [] => true
  | .fld k o :: p, .fld k' o' :: q => Nat.beq k k' && Nat.beq o o' && pathBeq p q
  | _, _ => false

def capsBeq : List (Nat × Nat) → List (Nat × Nat) → Bool
  | [], [] => true
  | (a, b) :: r, (c, d) :: s => Nat.beq a c && Nat.beq b d && capsBeq r s
  | _, _ => false

theorem pathBeq_eq : ∀ {p q : List Sel}, pathBeq p q = true → p = q := by
  intro p
  induction p with
  | nil => intro q h; cases q <;> first | rfl | cases h
  | cons s p ih =>
    intro q h
    cases s with
    | idx i n => cases q <;> cases h
    | fld k o =>
      cases q with
      | nil => cases h
      | cons s' q =>
        cases s' with
        | idx i n => cases h
        | fld k' o' =>
          simp only [pathBeq, Bool.and_eq_true] at h
          rw [Nat.eq_of_beq_eq_true h.1.1, Nat.eq_of_beq_eq_true h.1.2, ih h.2]

theorem capsBeq_eq : ∀ {p q : List (Nat × Nat)}, capsBeq p q = true → p = q := by
  intro p
  induction p with
  | nil => intro q h; cases q <;> first | rfl | cases h
  | cons s p ih =>
    intro q h
    obtain ⟨a, b⟩ := s
    cases q with
    | nil => cases h
    | cons s' q =>
      obtain ⟨c, d⟩ := s'
      simp only [capsBeq, Bool.and_eq_true] at h
      rw [Nat.eq_of_beq_eq_true h.1.1, Nat.eq_of_beq_eq_true h.1.2, ih h.2]

/-- Is a value, at the end of a round, the reference that it was at its head? A buffer's version may have gone on. -/
def sameRef (V : Nat → Bool → Bool) (σ0 σ : St) : Val → Val → Bool
  | .ptr b v p, .ptr b' v' p' => Nat.beq b b' && pathBeq p p' && (bif V b false then (match σ0.mem b, σ.mem b with | some x, some y => Nat.beq x.ver v && Nat.beq y.ver v' | _, _ => false) else Nat.beq v v')
  | .whole b v, .whole b' v' => Nat.beq b b' && (match σ0.mem b, σ.mem b with | some x, some y => Nat.beq x.ver v && Nat.beq y.ver v' && y.buf | _, _ => false)
  | .mref b v, .mref b' v' => Nat.beq b b' && (match σ0.mem b, σ.mem b with | some x, some y => Nat.beq x.ver v && Nat.beq y.ver v' && y.buf | _, _ => false)
  | .fn f c, .fn f' c' => Nat.beq f f' && capsBeq c c'
  | .nilp, .nilp => true
  | .nili, .nili => true
  | .selfp b v, .selfp b' v' => Nat.beq b b' && Nat.beq v v'
  | _, _ => false

def shOf : Val → Sh
  | .data t _ => .d t
  | .mix a b => .m (shOf a) (shOf b)
  | .mapv _ => .mp
  | v => .k v

def Sh.out (V : Nat → Bool → Bool) (σ0 σ : St) : (s : Sh) → Val → Option s.ty.den
  | .d t, v => toD t v
  | .k u, v => bif sameRef V σ0 σ u v then some () else none
  | .m a b, .mix v w => match Sh.out V σ0 σ a v, Sh.out V σ0 σ b w with
    | some x, some y => some (x, y)
    | _, _ => none
  | .m _ _, _ => none
  | .mp, .mapv l => some l
  | .mp, _ => none

/-- A reference as it is behind a round: a buffer that was carried is another one. -/
def bump (M : Nat → Bool) (V : Nat → Bool → Bool) : Val → Val
  | .whole b v => bif M b && V b true then .whole b (v + 1) else .whole b v
  | .mref b v => bif M b && V b true then .mref b (v + 1) else .mref b v
  | .ptr b v p => bif M b && V b false then .ptr b (v + 1) p else .ptr b v p
  | v => v

def Sh.inn (M : Nat → Bool) (V : Nat → Bool → Bool) : (s : Sh) → s.ty.den → Val
  | .d t, x => .data t x
  | .k v, _ => bump M V v
  | .m a b, x => .mix (a.inn M V x.1) (b.inn M V x.2)
  | .mp, l => .mapv l

/-- 3999999 in M: the lists that are carried keep their versions (what is stored into them, at their elements alone). fz: what stands in a slot for a list is given for good at a way out; the buffers that are carried may not be written to behind it. -/
structure Plan where
  S : List (Nat × Nat)
  M : List Nat
  fz : Bool

/-- What is told of a function: what is carried at each test and loop, in order; the variables that are appended to. -/
structure FPlan where
  marks : List (Option Plan)
  bufs : List Nat

structure Carry where
  S : List (Nat × Sh)
  M : List (Nat × Sh × Box)
  V : Nat → Bool → Bool

def tyS : List (Nat × Sh) → Ty
  | [] => .unit
  | (_, s) :: r => .pair s.ty (tyS r)
def tyM : List (Nat × Sh × Box) → Ty
  | [] => .unit
  | (_, s, _) :: r => .pair s.ty (tyM r)

/-- A chain that ends without a unit where it can. -/
def Carry.ty (c : Carry) : Ty := .pair (tyS c.S) (tyM c.M)

def outS (V : Nat → Bool → Bool) (σ0 σ : St) : (l : List (Nat × Sh)) → Option (tyS l).den
  | [] => some ()
  | (i, s) :: r => match Sh.out V σ0 σ s (σ.slots i), outS V σ0 σ r with
    | some x, some y => some (x, y)
    | _, _ => none

/-- What is asked of a box at a round's end. -/
def okBox (fz mv : Bool) (bx b : Box) : Bool := (fz || (bx.ro == b.ro)) && Nat.beq bx.tid b.tid && (bx.buf == b.buf) && (mv || Nat.beq bx.ver b.ver)

def outM (V : Nat → Bool → Bool) (fz : Bool) (σ0 σ : St) : (l : List (Nat × Sh × Box)) → Option (tyM l).den
  | [] => some ()
  | (i, s, b) :: r => match σ.mem i with
    | some bx => bif okBox fz (V i b.buf) bx b then (match Sh.out V σ0 σ s bx.val, outM V fz σ0 σ r with
      | some x, some y => some (x, y)
      | _, _ => none) else none
    | none => none

def Carry.out (c : Carry) (fz : Bool) (σ0 σ : St) : Option c.ty.den :=
  match outS c.V σ0 σ c.S, outM c.V fz σ0 σ c.M with
  | some x, some y => some (x, y)
  | _, _ => none

def innS (M : Nat → Bool) (V : Nat → Bool → Bool) : (l : List (Nat × Sh)) → (tyS l).den → Nat → Option Val
  | [], _, _ => none
  | (i, s) :: r, x, t => bif Nat.beq t i then some (s.inn M V x.1) else innS M V r x.2 t

def innM (fz : Bool) (M : Nat → Bool) (V : Nat → Bool → Bool) : (l : List (Nat × Sh × Box)) → (tyM l).den → Nat → Option Box
  | [], _, _ => none
  | (i, s, b) :: r, x, t => bif Nat.beq t i then some { b with val := s.inn M V x.1, ro := b.ro || fz, ver := bif V t b.buf then b.ver + 1 else b.ver } else innM fz M V r x.2 t

def inM : List (Nat × Sh × Box) → Nat → Bool
  | [], _ => false
  | (i, _, _) :: r, t => Nat.beq t i || inM r t

/-- The state with what was carried; lock: within a round what is not carried may not be written. -/
def Carry.inn (c : Carry) (fz lock : Bool) (wr : List Nat) (σ0 : St) (x : c.ty.den) : St :=
  { slots := fun t => match innS (inM c.M) c.V c.S x.1 t with
      | some v => v
      | none => bif memN wr t then .undef else σ0.slots t
    mem := fun b => match innM fz (inM c.M) c.V c.M x.2 b with
      | some bx => some bx
      | none => match σ0.mem b with
        | some bx => some { bx with lk := bx.lk || lock }
        | none => none }

/-- Lists that stand in slots are given for good. -/
def settle : List (Nat × Sh) → St → Option St
  | [], σ => some σ
  | (i, .d t) :: r, σ => match give σ t (σ.slots i) with
    | some (x, σ) => settle r (σ.put i (.data t x))
    | none => none
  | _ :: r, σ => settle r σ

def Carry.outX (c : Carry) (fz : Bool) (σ0 σ : St) : Option c.ty.den :=
  bif fz then (match settle c.S σ with
    | some σ => c.out true σ0 σ
    | none => none)
  else c.out false σ0 σ

/-- At a round's end (3777777 in M: lists that stand in slots are given for good). -/
def Carry.outR (c : Carry) (gv : Bool) (σ0 σ : St) : Option c.ty.den :=
  bif gv then (match settle c.S σ with
    | some σ => c.out false σ0 σ
    | none => none)
  else c.out false σ0 σ

/-- What is not carried is locked. -/
def Carry.lock (c : Carry) (σ : St) : St :=
  { σ with mem := fun b => match σ.mem b with
      | some bx => some (bif inM c.M b then bx else { bx with lk := true })
      | none => none }

/-! ### Static looks at code -/

def opWrites : List Oper → List Nat
  | [] => []
  | o :: r => match o.dst with | some d => d :: opWrites r | none => opWrites r

def writes : Code → List Nat
  | .region _ ops _ => opWrites ops.toList
  | .seq a b => writes a ++ writes b
  | .cond _ a b => writes a ++ writes b
  | .block _ a => writes a
  | .loop a => writes a
  | .scope a => writes a
  | _ => []

/-- The ways out of code, but for its end: 1 return, i + 2 the exit i. -/
def exits : Code → List Nat
  | .seq a b => exits a ++ (exits b).filter fun e => !memN (exits a) e
  | .cond _ a b => exits a ++ (exits b).filter fun e => !memN (exits a) e
  | .block i a => (exits a).filter fun e => !Nat.beq e (i + 2)
  | .loop a => exits a
  | .scope a => exits a
  | .ret => [1]
  | .exit i => [i + 2]
  | _ => []

/-- How many tests and loops. -/
def marks : Code → Nat
  | .seq a b => marks a + marks b
  | .cond _ a b => marks a + marks b + 1
  | .block _ a => marks a
  | .loop a => marks a + 1
  | .scope a => marks a
  | _ => 0

def ixOf : List Nat → Nat → Option Nat
  | [], _ => none
  | e :: r, k => bif Nat.beq e k then some 0 else (ixOf r k).map (· + 1)

def addNew : List Nat → List Nat → List Nat
  | [], l => l
  | b :: r, l => bif memN l b then addNew r l else addNew r (l ++ [b])

section
variable (cx : Ctx)

def mkS (σ : St) : List (Nat × Nat) → Option (List (Nat × Sh))
  | [] => some []
  | (i, ty) :: r => match mkS σ r with
    | none => none
    | some l => bif Nat.beq ty 999999 then (match σ.slots i with
      | .whole b v => some ((i, .k (.whole b v)) :: l)
      | _ => some l) else match σ.slots i with
      | .data t _ => some ((i, .d t) :: l)
      | .undef | .nils => match find cx.T ty with
        | some t => some ((i, .d t) :: l)
        | none => none
      | v => some ((i, .k v) :: l)

/-- The variables that an object's fields name. -/
def partBoxes (σ : St) : List Nat → List Nat
  | [] => []
  | b :: r => (match σ.mem b with | some bx => (match bx.val with | .mix u v => refBoxes σ (.mix u v) | .whole c _ => [c] | .fn f c => refBoxes σ (.fn f c) | _ => []) | none => []) ++ partBoxes σ r

def boxesOf (σ : St) : List Nat → List Nat
  | [] => []
  | i :: r =>
    let r0 := refBoxes σ (σ.slots i)
    let r1 := partBoxes σ r0
    let r2 := partBoxes σ r1
    let r3 := partBoxes σ r2
    let r4 := partBoxes σ r3
    addNew (r0 ++ (r1 ++ (r2 ++ (r3 ++ (r4 ++ partBoxes σ r4))))) (boxesOf σ r)

def mkM (σ : St) : List Nat → Option (List (Nat × Sh × Box))
  | [] => some []
  | b :: r => match σ.mem b, mkM σ r with
    | some bx, some l => bif bx.lk then none else some ((b, shOf bx.val, bx) :: l)
    | _, _ => none

/-- Lists in slots that are given for good ahead of a loop (told in the plan, from 2000000 on). -/
def refBuf : Val → Option Nat
  | .whole b _ => some b
  | .part b _ _ _ => some b
  | _ => none
def giveS : List Nat → St → Option St
  | [], σ => some σ
  | m :: r, σ => bif Nat.ble 2000000 m then (match refBuf (σ.slots (m - 2000000)) with
      | some b => match σ.mem b with
        | some bx => match bx.val with
          | .data (.slice e) _ => match give σ (.slice e) (σ.slots (m - 2000000)) with
            | some (x, σ) => giveS r (σ.put (m - 2000000) (.data (.slice e) x))
            | none => none
          | _ => none
        | none => none
      | none => giveS r σ) else giveS r σ

/-- The variables (no buffers) that may be made anew (3888887 in M: all that are carried). -/
def mvOf (all : Bool) (nb : Nat) (bf : List Nat) (σ : St) (b : Nat) : Bool := (all || memN (bf.map (nb + ·)) b) && (match σ.mem b with | some x => !x.buf && !isWhole x.val | none => false)

/-- The variables that slots name themselves: these stay. -/
def rootsOf (σ : St) : List Nat → List Nat
  | [] => []
  | i :: r => refBoxes σ (σ.slots i) ++ rootsOf σ r

def mkCarry (nb : Nat) (bf : List Nat) (σ : St) (p : Plan) : Option Carry :=
  match mkS cx σ p.S, mkM σ (boxesOf σ p.M) with
  | some s, some m => some ⟨s, m, fun b buf => bif buf then !memN p.M 3999999 else mvOf (memN p.M 3888887 && !memN (rootsOf σ p.M) b) nb bf σ b⟩
  | _, _ => none

variable (nb : Nat) (bf : List Nat) (inl : Nat → List Val → St → Tree (Val × St))

/-- The ways out, one behind the other: the first of a number has it, the last has all others. -/
def pickWay {α : Type} : List Nat → Nat → (Nat → Tree α) → Tree α
  | [], _, _ => .fail
  | [e], _, f => f e
  | e :: r, i, f => .node (eqN i 0) (f e) (pickWay r (i - 1) f)

variable [Lp]

/-- A loop that is walked round by round. -/
def again {S : Type} (f : S → Tree (Nat × S)) : Nat → S → Tree (Nat × S)
  | 0, _ => .fail
  | n + 1, s => (f s).bind fun r => bif Nat.beq r.1 0 then again f n r.2 else .ret r

/-- The counter of a loop that is walked round by round. -/
def unrollSlot (p : Plan) : Option Nat := match p.M with
  | [m] => bif Nat.ble 6000000 m then some (m - 6000000) else none
  | _ => none

/-- A loop that is walked round by round, its counter known. -/
def againC (f : St → Tree (Nat × St)) (c : Nat) : Nat → Nat → St → Tree (Nat × St)
  | 0, _, _ => .fail
  | n + 1, j, σ => match σ.slots c with
    | .data (.int .i64) x => .need (eqI x j) ((f (σ.put c (.data (.int .i64) (j : Int)))).bind fun r => bif Nat.beq r.1 0 then againC f c n (j + 1) r.2 else .ret r)
    | _ => .fail

noncomputable def evalC : Code → List (Option Plan) → St → Tree (Nat × St)
  | .skip, _, σ => .ret (0, σ)
  | .label _, _, σ => .ret (0, σ)
  | .ret, _, σ => .ret (1, σ)
  | .exit i, _, σ => .ret (i + 2, σ)
  | .region _ ops dr, _, σ => (bif dr then evalDrawn cx nb bf inl ops σ else evalRegion cx nb bf inl ops σ).bind fun σ => .ret (0, σ)
  | .seq a b, pl, σ => (evalC a pl σ).bind fun r => bif Nat.beq r.1 0 then evalC b (pl.drop (marks a)) r.2 else .ret r
  | .block i a, pl, σ => (evalC a pl σ).bind fun r => .ret (bif Nat.beq r.1 (i + 2) then 0 else r.1, r.2)
  | .scope a, pl, σ => evalC a pl σ
  | .cond c a b, pl, σ => match opv σ c, pl with
    | .data .bool c, none :: pl => .node c (evalC a pl σ) (evalC b (pl.drop (marks a)) σ)
    | .data .bool c, some p :: pl => match giveS p.M σ with
     | none => .fail
     | some σ => match mkCarry cx nb bf σ p with
      | none => .fail
      | some k =>
        let t := Tree.node c (evalC a pl (k.lock σ)) (evalC b (pl.drop (marks a)) (k.lock σ))
        let wr := writes a ++ writes b
        match exits a ++ (exits b).filter (fun e => !memN (exits a) e) with
        | [] => (t.bind fun r => bif Nat.beq r.1 0 then Tree.ofOpt (k.outX p.fz σ r.2) else .fail).joinL (memN p.M 3888888) fun x => .ret (0, k.inn p.fz false wr σ x)
        | es => (t.bind fun r => match ixOf (0 :: es) r.1, k.outX p.fz σ r.2 with
            | some i, some x => .ret (i, x)
            | _, _ => .fail).joinL (memN p.M 3888888) fun x => pickWay (0 :: es) x.1 fun e => .ret (e, k.inn p.fz false wr σ x.2)
    | _, _ => .fail
  | .loop a, pl, σ => match pl with
    | some p :: pl => match unrollSlot p with
     | some c => againC (fun σ => evalC a pl σ) c 100 0 σ
     | none => match giveS p.M σ with
     | none => .fail
     | some σ => match mkCarry cx nb bf σ p with
      | none => .fail
      | some k => match k.out false σ σ with
        | none => .fail
        | some x0 =>
          let wr := writes a
          let es := exits a
          let body (x : k.ty.den) : Option (k.ty.den ⊕ (Nat × k.ty.den)) := ((evalC a pl (k.inn false true wr σ x)).bind fun r => bif Nat.beq r.1 0 then (match k.outR (memN p.M 3777777) σ r.2 with
              | some y => .ret (.inl y)
              | none => .fail)
            else match ixOf es r.1, k.outX p.fz σ r.2 with
              | some i, some y => .ret (.inr (i, y))
              | _, _ => .fail).run
          match es with
          | [e] => .look (Loop (fun x => way1 (body x)) x0) fun x => .ret (e, k.inn p.fz false wr σ x)
          | es => .look (Loop body x0) fun x => pickWay es x.1 fun e => .ret (e, k.inn p.fz false wr σ x.2)
    | none :: pl => again (fun σ => evalC a pl σ) 100000 σ
    | _ => .fail
  | _, _, _ => .fail
end

variable [Lp]

/-! ### A function -/

def argSt (mem : Nat → Option Box) (args : List Val) : St := { slots := fun t => (args[t]?).getD .undef, mem }

def oneResult (cx : Ctx) (σ : St) : ResultVar → Tree Val
  | .tmp t => .ret (σ.slots t)
  | .cell a ty => (stepLoad cx (some 0) ty (σ.slots a) σ).bind fun τ => .ret (τ.slots 0)

def resultsL (cx : Ctx) (σ : St) : List ResultVar → Tree Val
  | [] => .ret .nl
  | r :: rs => (oneResult cx σ r).bind fun v => (resultsL cx σ rs).bind fun l => .ret (.mix v l)

def results1 (cx : Ctx) (σ : St) : List ResultVar → Tree Val
  | [r] => oneResult cx σ r
  | rs => (resultsL cx σ rs).bind fun l => .ret (.tup l)

def memSt (mem : Nat → Option Box) : St := { slots := fun _ => .undef, mem }

/-- The types of what a function's ways are joined to, where its plan tells it (7000000 and the type's number; 7999999: its results', as a tuple). -/
def tysOf (cx : Ctx) : List TypeId → Option (List Ty)
  | [] => some []
  | t :: r => match find cx.T t, tysOf cx r with
    | some u, some l => some (u :: l)
    | _, _ => none
def joinTy (cx : Ctx) (res : List TypeId) : List Nat → Option (Bool × List Ty)
  | [] => none
  | m :: r => bif Nat.ble 7000000 m && Nat.ble m 7999999 then (bif Nat.beq m 7999999 then (tysOf cx res).map fun l => (true, l) else (find cx.T (m - 7000000)).map fun R => (false, [R])) else joinTy cx res r

/-- A function's result, in slots; and out of them. -/
def spread (tup : Bool) (v : Val) : Nat → Val :=
  match tup, v with
  | false, v => fun t => bif Nat.beq t 0 then v else .undef
  | true, .tup m => fun t => match nth m t with | some u => u | none => .undef
  | true, _ => fun _ => .undef
def mixLen : Val → Nat
  | .mix _ b => mixLen b + 1
  | _ => 0
def spreadOk (tup : Bool) (v : Val) (n : Nat) : Bool :=
  match tup, v with
  | false, _ => Nat.beq n 1
  | true, .tup m => Nat.beq (mixLen m) n
  | true, _ => false
def gath (slots : Nat → Val) : Nat → Nat → Val
  | _, 0 => .nl
  | i, n + 1 => .mix (slots i) (gath slots (i + 1) n)
def gather (tup : Bool) (n : Nat) (slots : Nat → Val) : Val :=
  match tup with
  | false => slots 0
  | true => .tup (gath slots 0 n)
def outSt (tup : Bool) (v : Val) (mem : Nat → Option Box) : St := { slots := spread tup v, mem }
def shsOf : List Ty → Nat → List (Nat × Sh)
  | [], _ => []
  | t :: r, i => (i, .d t) :: shsOf r (i + 1)

/-- What its ways come to, once: its result, and the variables that its arguments lead to. -/
def joinF (R : Bool × List Ty) (args : List Val) (mem : Nat → Option Box) (F : (Nat → Option Box) → Tree (Val × (Nat → Option Box))) : Tree (Val × (Nat → Option Box)) :=
  match mkM (memSt mem) (boxesOf (argSt mem args) (List.range args.length)) with
  | none => .fail
  | some m =>
    let k : Carry := ⟨shsOf R.2 0, m, fun _ buf => buf⟩
    let wr := List.range R.2.length
    ((F (k.lock (memSt mem)).mem).bind fun r => bif spreadOk R.1 r.1 R.2.length then Tree.ofOpt (k.out false (memSt mem) (outSt R.1 r.1 r.2)) else .fail).join fun x =>
      .ret (gather R.1 R.2.length (k.inn false false wr (memSt mem) x).slots, (k.inn false false wr (memSt mem) x).mem)

noncomputable def bodyF (cx : Ctx) (nb : Nat) (p : FPlan) (inl : Nat → List Val → St → Tree (Val × St)) (fn : Func) (c : Code) (args : List Val) (mem : Nat → Option Box) : Tree (Val × (Nat → Option Box)) :=
  (evalC cx nb p.bufs inl c p.marks (argSt mem args)).bind fun r =>
    bif Nat.beq r.1 0 || Nat.beq r.1 1 then (results1 cx r.2 fn.results.toList).bind fun v => .ret (v, r.2.mem) else .fail

/-- Where the names of the variables begin of a function that is walked in place: one that is walked more than once, and whose variables stay, asks for names that are free (9000000 and the slot of its variable). -/
def freeOf (mem : Nat → Option Box) (s : Nat) : Nat → Nat → Nat
  | 0, b => b
  | k + 1, b => match mem (b + s) with
    | none => b
    | some _ => freeOf mem s k (b + 200)
def baseOf (mem : Nat → Option Box) (b : Nat) : List Nat → Nat
  | [] => b
  | m :: r => bif Nat.ble 9000000 m then freeOf mem (m - 9000000) 4 b else baseOf mem b r

/-- A function's body, walked. -/
noncomputable def evalF (cx : Ctx) : Nat → (nb : Nat) → (plans : Nat → FPlan) → Nat → List Val → (Nat → Option Box) → Tree (Val × (Nat → Option Box))
  | 0, _, _, _, _, _ => .fail
  | n + 1, nb, plans, f, args, mem => match find cx.fns f with
    | some fn => match fn.body with
      | some c => match joinTy cx fn.resultTypes.toList (plans f).bufs with
        | none => bodyF cx nb (plans f) (fun g xs σ => (evalF cx n (baseOf σ.mem ((nb + g + 1) * 1000) (plans g).bufs) plans g xs σ.mem).bind fun r => .ret (r.1, { σ with mem := r.2 })) fn c args mem
        | some R => joinF R args mem (bodyF cx nb (plans f) (fun g xs σ => (evalF cx n (baseOf σ.mem ((nb + g + 1) * 1000) (plans g).bufs) plans g xs σ.mem).bind fun r => .ret (r.1, { σ with mem := r.2 })) fn c args)
      | none => .fail
    | none => .fail

def valsOf : (A : Ty) → A.den → List Val
  | .pair t r, x => .data t x.1 :: valsOf r x.2
  | _, _ => []

def unMix : Val → List Val
  | .mix a b => a :: unMix b
  | _ => []

def unTup : (R : Ty) → Val → List Val
  | .pair _ .unit, v => [v]
  | _, .tup v => unMix v
  | _, v => [v]

/-- The arguments of a function some of whose parameters are pointers: each leads to variables of its own. -/
def refName (k : Nat) : Nat := 777000000 + k
def bufName (k : Nat) : Nat := 778000000 + k
def canN (k : Nat) : Nat → List (Nat × Nat)
  | 0 => []
  | n + 1 => (refName k, 0) :: canN (k + 1) n
def canM (k : Nat) : Nat → List (Nat × Nat)
  | 0 => []
  | n + 1 => (bufName k, 0) :: canM (k + 1) n

def valsR : List Bool → OT → (A : Ty) → A.den → Nat → List Val
  | [], _, _, _, _ => []
  | false :: ps, U, A, x, k => match A, x with
    | .pair t A, x => .data t x.1 :: valsR ps U A x.2 k
    | _, _ => []
  | true :: ps, U, A, x, k => match U with
    | .pair .nilp U => .nilp :: valsR ps U A x k
    | .pair o U => .ptr (refName k) 0 [] :: valsR ps U A x (k + o.nr)
    | _ => []

def readR (mem : Nat → Option Box) : (U : OT) → Nat → Option (U.den × List (Nat × Nat) × List (Nat × Nat))
  | .pair .nilp U, k => match readR mem U k with
    | some (u, N, M) => some (((), u), N, M)
    | none => none
  | .pair o U, k => match readO mem o (.ptr (refName k) 0 []), readR mem U (k + o.nr) with
    | some (x, N, M), some (u, N', M') => some ((x, u), N ++ N', M ++ M')
    | _, _ => none
  | .unit, _ => some ((), [], [])
  | _, _ => none

def sameNs : List (Nat × Nat) → List (Nat × Nat) → Bool
  | [], [] => true
  | (a, b) :: r, (c, d) :: s => Nat.beq a c && Nat.beq b d && sameNs r s
  | _, _ => false

noncomputable def semR (cx : Ctx) (n : Nat) (plans : Nat → FPlan) (f : Nat) (ps : List Bool) (A : Ty) (U : OT) (R : Ty) (x : A.den × U.den) : Option (R.den × U.den) :=
  ((evalF cx n 0 plans f (valsR ps U A x.1 0) (conM U x.2 (canN 0 U.nr) (canM 0 U.nb))).bind fun r => match giveAll (memSt r.2) R (unTup R r.1) with
    | some (y, σ) => (match readR σ.mem U 0 with
      | some (u, N, M) => bif sameNs N (canN 0 U.nr) && noDup (namesOf N M) && noDup (namesOf (canN 0 U.nr) (canM 0 U.nb)) then .ret (y, u) else .fail
      | none => .fail)
    | none => .fail).run

/-- Arguments some of which are pointers to what is looked at alone. -/
def valsP : List Bool → (A : Ty) → A.den → List Val
  | p :: ps, .pair t r, x => (bif p then .cell t x.1 else .data t x.1) :: valsP ps r x.2
  | _, _, _ => []

/-- What a function computes that only looks at what its pointers lead to. -/
noncomputable def semL (cx : Ctx) (n : Nat) (plans : Nat → FPlan) (f : Nat) (ps : List Bool) (A R : Ty) (x : A.den) : Option R.den :=
  ((evalF cx n 0 plans f (valsP ps A x) (fun _ => none)).bind fun r => match lendAll (memSt r.2) R (unTup R r.1) with
    | some y => .ret y
    | none => .fail).run

/-- What a function of plain data computes. -/
noncomputable def sem (cx : Ctx) (n : Nat) (plans : Nat → FPlan) (f : Nat) (A R : Ty) (x : A.den) : Option R.den :=
  ((evalF cx n 0 plans f (valsOf A x) (fun _ => none)).bind fun r => match lendAll (memSt r.2) R (unTup R r.1) with
    | some y => .ret y
    | none => .fail).run

end Go.Ge
