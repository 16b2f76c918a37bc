/- Plain laws of what the functions compute: part 1. -/
import Derived.Test.YtpcimoekpbilgaaGreatDoorGeI
import Derived.Lib.Repeat
/- Plain laws of numbers: sums that stay in range, bits of words. -/
namespace Go.Ge
set_option linter.unusedVariables false
set_option linter.unusedSimpArgs false

theorem iadd_i64 {a b:Int} (h:-9223372036854775808≤a + b) (h2:a + b≤9223372036854775807):iadd .i64 a b=a + b:=by
 unfold iadd;simp [IntKind.wrap,IntKind.min,IntKind.max,IntKind.signed,IntKind.bits];omega
theorem isub_i64 {a b:Int} (h:-9223372036854775808≤a - b) (h2:a - b≤9223372036854775807):isub .i64 a b=a - b:=by
 unfold isub;simp [IntKind.wrap,IntKind.min,IntKind.max,IntKind.signed,IntKind.bits];omega
theorem imul_i64 {a b:Int} (h:-9223372036854775808≤a * b) (h2:a * b≤9223372036854775807):imul .i64 a b=a * b:=by
 unfold imul;simp [IntKind.wrap,IntKind.min,IntKind.max,IntKind.signed,IntKind.bits];omega
theorem icv_i64 {a:Int} (h:-9223372036854775808≤a) (h2:a≤9223372036854775807):icv .i64 a=a:=by
 unfold icv;simp [IntKind.wrap,IntKind.min,IntKind.max,IntKind.signed,IntKind.bits];omega
theorem icv_u64 {a:Int} (h:0≤a) (h2:a≤18446744073709551615):icv .u64 a=a:=by
 unfold icv;simp [IntKind.wrap,IntKind.min,IntKind.max,IntKind.signed,IntKind.bits];omega
theorem wrap_u32 (a:Int):IntKind.wrap .u32 a=a % 4294967296:=by
 simp [IntKind.wrap,IntKind.min,IntKind.max,IntKind.signed,IntKind.bits]

/-! ### Words of 32 bits -/
def Bv (x:Int):BitVec 32:=BitVec.ofInt 32 x
def Can (x:Int):Prop:=0≤x∧x < 4294967296

theorem can_wrap (a:Int):Can (IntKind.wrap .u32 a):=by rw [wrap_u32];unfold Can;omega
theorem bv_toNat (a:Int):((Bv a).toNat:Int)=a % 4294967296:=by
 unfold Bv
 rw [BitVec.toNat_ofInt]
 have:0≤a % ((2 ^ 32:Nat):Int):=Int.emod_nonneg _ (by decide)
 rw [Int.toNat_of_nonneg this];rfl
theorem eq32 {a b:Int} (ha:Can a) (hb:Can b) (h:Bv a=Bv b):a=b:=by
 have h1:=bv_toNat a
 have h2:=bv_toNat b
 rw [h] at h1
 unfold Can at ha hb
 omega
theorem bv_wrap (a:Int):Bv (IntKind.wrap .u32 a)=Bv a:=by
 apply BitVec.eq_of_toNat_eq
 have h1:=bv_toNat a
 have h2:=bv_toNat (IntKind.wrap .u32 a)
 rw [wrap_u32] at h2 ⊢
 omega
theorem bv_nat (v:BitVec 32):Bv (v.toNat:Int)=v:=by
 apply BitVec.eq_of_toNat_eq
 have h1:=bv_toNat (v.toNat:Int)
 have:=v.isLt
 omega
theorem bv_or (x y:Int):Bv (ior .u32 x y)=Bv x ||| Bv y:=by unfold ior;rw [bv_wrap];exact bv_nat _
theorem can_or (x y:Int):Can (ior .u32 x y):=can_wrap _
theorem ior_comm32 (x y:Int):ior .u32 x y=ior .u32 y x:=eq32 (can_or _ _) (can_or _ _) (by rw [bv_or,bv_or,BitVec.or_comm])
/-! ### Tests and places, decided -/
theorem ltI_true {a b:Int} (h:a < b):ltI a b=true:=by simp [ltI,h]
theorem ltI_false {a b:Int} (h:b≤a):ltI a b=false:=by simp [ltI];omega
theorem leI_true {a b:Int} (h:a≤b):leI a b=true:=by simp [leI,h]
theorem leI_false {a b:Int} (h:b < a):leI a b=false:=by simp [leI];omega
theorem eqI_true {a b:Int} (h:a=b):eqI a b=true:=by simp [eqI,h]
theorem eqI_false {a b:Int} (h:a ≠ b):eqI a b=false:=by simp [eqI,h]
theorem within_true {i n:Int} (h0:0≤i) (h1:i < n):within i n=true:=by simp [within,h0,h1]
theorem inside_true {i j n:Int} (h0:0≤i) (h1:i≤j) (h2:j≤n):inside i j n=true:=by simp [inside,h0,h1,h2]
theorem fits_true {n:Int} (h:n≤4294967296):fits n=true:=by simp [fits,h]
theorem way1_inl {S:Type} (s:S):way1 (some (.inl s:S ⊕ (Nat×S)))=some (.inl s):=rfl
theorem way1_inr {S:Type} (n:Nat) (s:S):way1 (some (.inr (n,s):S ⊕ (Nat×S)))=some (.inr s):=rfl
theorem idx_getD {α:Type} (l:List α) (d:α) {i:Nat} (h:i < l.length):idx l (i:Int)=some (l.getD i d):=by
 rw [idx_nat,List.getElem?_eq_getElem h,List.getD_eq_getElem?_getD,List.getElem?_eq_getElem h];rfl
theorem lset_nat {α:Type} (l:List α) (i:Nat) (x:α):lset l (i:Int) x=l.set i x:=by simp [lset]
end Go.Ge

/- Plain laws of loops that go through a list, of words in natural numbers. -/
namespace Go.Ge
set_option linter.unusedVariables false
set_option linter.unusedSimpArgs false

def runL {α σ R:Type} (step:Nat→σ→α→Option (σ ⊕ R)) (fin:Nat→σ→R):List α→Nat→σ→Option R
  | [],i,s=>some (fin i s)
  | x :: r, i, s => match step i s x with
    | none=>none
    | some (.inl s')=>runL step fin r (i + 1) s'
    | some (.inr y)=>some y

theorem loop_run {α σ S R:Type} {f:S→Option (S ⊕ R)} (l:List α) (mk:σ→Nat→S) (step:Nat→σ→α→Option (σ ⊕ R)) (fin:Nat→σ→R) (Inv:Nat→σ→Prop)
    (hstep:∀ s i x,l[i]? = some x→i < l.length→Inv i s→f (mk s i)=(step i s x).map (fun q=>match q with | .inl s'=>.inl (mk s' (i + 1)) | .inr y=>.inr y))
    (hinv:∀ s i x s',l[i]? = some x→Inv i s→step i s x=some (.inl s')→Inv (i + 1) s')
    (hfin:∀ s,Inv l.length s→f (mk s l.length)=some (.inr (fin l.length s))) (hsome:∀ s i x,l[i]? = some x→Inv i s→step i s x ≠ none) :
    ∀ s,Inv 0 s→Loop f (mk s 0)=runL step fin l 0 s:=by
  have key:∀ (rest pre:List α) (s:σ),l=pre ++ rest→Inv pre.length s→Loop f (mk s pre.length)=runL step fin rest pre.length s:=by
    intro rest
    induction rest with
    | nil =>
      intro pre s hl hI
      rw [List.append_nil] at hl
      subst hl
      rw [Loop_eq,hfin s hI]
      rfl
    | cons x r ih =>
      intro pre s hl hI
      have hx:l[pre.length]? = some x:=by rw [hl];simp
      have hlt:pre.length < l.length:=by rw [hl];simp
      rw [Loop_eq,hstep s pre.length x hx hlt hI]
      unfold runL
      cases hs:step pre.length s x with
      | none=>exact absurd hs (hsome s _ x hx hI)
      | some q =>
        cases q with
        | inr y=>rfl
        | inl s' =>
          have:=ih (pre ++ [x]) s' (by rw [hl];simp) (by rw [List.length_append];exact hinv s _ x s' hx hI hs)
          rw [List.length_append] at this
          exact this
  intro s hI
  exact key l [] s rfl hI

/-! ### Words in natural numbers -/
theorem ltI_len {α:Type} (i:Nat) (l:List α):ltI (i:Int) (len l)=decide (i < l.length):=by simp [ltI,len]
theorem leI_len {α:Type} (i:Nat) (l:List α):leI (len l) (i:Int)=decide (l.length≤i):=by simp [leI,len]
theorem ltI_lens {α β:Type} (l:List α) (m:List β):ltI (len l) (len m)=decide (l.length < m.length):=by simp [ltI,len]
theorem leI_lens {α β:Type} (l:List α) (m:List β):leI (len l) (len m)=decide (l.length≤m.length):=by simp [leI,len]
theorem eqI_lens {α β:Type} (l:List α) (m:List β):eqI (len l) (len m)=decide (l.length=m.length):=by unfold eqI len;apply decide_eq_decide.2;omega
theorem fits_len2 {α β:Type} {l:List α} {m:List β} (h:l.length + m.length≤4294967296):fits (plus (len l) (len m))=true:=by
 apply fits_true;simp only [plus,len];omega
theorem sel_if {α:Type} (c:Bool) (x y:α):sel c x y=if c=true then x else y:=by cases c <;> rfl
theorem sel_decide {α:Type} (p:Prop) [Decidable p] (x y:α):sel (decide p) x y=if p then x else y:=by by_cases h:p <;> simp [h,sel]
theorem eqS_iff {a b:List UInt8}:eqS a b=decide (a=b):=rfl
theorem eqS_false {a b:List UInt8} (h:a ≠ b):eqS a b=false:=by simp [eqS,h]
theorem eqS_true {a b:List UInt8} (h:a=b):eqS a b=true:=by simp [eqS,h]
theorem u8_eq {c:UInt8} {n:UInt8}:eqI (u8 c) (n.toNat:Int)=decide (c=n):=by
 unfold eqI u8
 by_cases h:c=n
 ·simp [h]
 ·have:c.toNat ≠ n.toNat:=fun e=>h (UInt8.toNat_inj.1 e)
  simp [h];omega
theorem sub_take {α:Type} (l:List α) (n:Nat):sub l 0 (minus (n:Int) 0)=l.take n:=by
 unfold sub minus
 simp
theorem sub_take' {α β:Type} (l:List α) (m:List β):sub l 0 (minus (len m) 0)=l.take m.length:=sub_take l m.length
theorem sub_drop {α:Type} (l:List α) (n:Nat) (h:n≤l.length):sub l (n:Int) (minus (len l) (n:Int))=l.drop n:=by
 unfold sub minus len
 rw [Int.toNat_natCast]
 apply List.take_of_length_le
 rw [List.length_drop]
 omega
theorem eqN_zero:eqN 0 0=true:=rfl
theorem eqN_one:eqN 1 0=false:=rfl

theorem getElem?_lt {α:Type} {l:List α} {i:Nat} {x:α} (h:l[i]? = some x):i < l.length:=(List.getElem?_eq_some_iff.1 h).1
theorem sub_one {α:Type} {l:List α} {i:Nat} {x:α} (h:l[i]? = some x):sub l (i:Int) (minus ((i + 1:Nat):Int) (i:Int))=[x]:=by
 unfold sub minus
 rw [show ((i + 1:Nat):Int) - (i:Int)=1 by omega,Int.toNat_natCast]
 obtain ⟨hi,rfl⟩:=List.getElem?_eq_some_iff.1 h
 rw [List.drop_eq_getElem_cons hi]
 rfl
theorem inside_nat {a b n:Nat} (h:a≤b) (k:b≤n):inside (a:Int) (b:Int) (n:Int)=true:=inside_true (by omega) (by omega) (by omega)
theorem inside_len {α:Type} {a b:Nat} {l:List α} (h:a≤b) (k:b≤l.length):inside (a:Int) (b:Int) (len l)=true:=inside_nat h k
theorem idx_some' {α:Type} {l:List α} {i:Nat} {x:α} (h:l[i]? = some x):idx l (i:Int)=some x:=by rw [idx_nat,h]
theorem ltI_len_true {α:Type} {l:List α} {i:Nat} (h:i < l.length):ltI (i:Int) (len l)=true:=by rw [ltI_len,decide_eq_true h]
theorem ltI_len_end {α:Type} {l:List α}:ltI (l.length:Int) (len l)=false:=by rw [ltI_len,decide_eq_false (by omega)]
theorem app_eq {α:Type} (l m:List α):app l m=l ++ m:=rfl
theorem nt_eq (b:Bool):nt b = !b:=rfl
theorem len_eq {α:Type} (l:List α):len l=(l.length:Int):=rfl
end Go.Ge

/- The order of texts; two lists gone through side by side. -/
namespace Go.Ge
set_option linter.unusedVariables false
set_option linter.unusedSimpArgs false

theorem ltS_nil (y:List UInt8):ltS [] y=decide (y ≠ []):=by cases y <;> simp [ltS,Op.bytesLess]
theorem ltS_nil' (x:List UInt8):ltS x []=false:=by cases x <;> simp [ltS,Op.bytesLess]
theorem ltS_cons (a b:UInt8) (x y:List UInt8):ltS (a :: x) (b :: y)=(decide (a < b) || (a == b && ltS x y)):=by simp [ltS,Op.bytesLess]

theorem u8_irrefl (a:UInt8):¬ a < a:=UInt8.lt_irrefl a
theorem u8_tri (a b:UInt8):a < b∨a=b∨b < a:=by
 rcases Nat.lt_trichotomy a.toNat b.toNat with h | h | h
 ·exact .inl h
 ·exact .inr (.inl (UInt8.toNat_inj.1 h))
 ·exact .inr (.inr h)

theorem ltS_irrefl:∀ x:List UInt8,ltS x x=false:=by
 intro x
 induction x with
 | nil=>rfl
 | cons a x ih=>rw [ltS_cons,ih];simp [u8_irrefl]

theorem ltS_trans:∀ {x y z:List UInt8},ltS x y=true→ltS y z=true→ltS x z=true:=by
  intro x
  induction x with
  | nil =>
    intro y z h k
    cases z with
    | nil=>rw [ltS_nil'] at k;cases k
    | cons c z=>rfl
  | cons a x ih =>
    intro y z h k
    cases y with
    | nil=>rw [ltS_nil'] at h;cases h
    | cons b y =>
      cases z with
      | nil=>rw [ltS_nil'] at k;cases k
      | cons c z =>
        rw [ltS_cons] at h k ⊢
        simp only [Bool.or_eq_true,decide_eq_true_eq,Bool.and_eq_true,beq_iff_eq] at h k ⊢
        rcases h with h | ⟨rfl,h⟩
        · rcases k with k | ⟨rfl,k⟩
          · exact .inl (UInt8.lt_trans h k)
          · exact .inl h
        · rcases k with k | ⟨rfl,k⟩
          · exact .inl k
          · exact .inr ⟨rfl,ih h k⟩

theorem ltS_tri:∀ (x y:List UInt8),ltS x y=true∨x=y∨ltS y x=true:=by
  intro x
  induction x with
  | nil=>intro y;cases y <;> simp [ltS_nil]
  | cons a x ih =>
    intro y
    cases y with
    | nil=>exact .inr (.inr rfl)
    | cons b y =>
      rw [ltS_cons,ltS_cons]
      simp only [Bool.or_eq_true,decide_eq_true_eq,Bool.and_eq_true,beq_iff_eq]
      rcases u8_tri a b with h | rfl | h
      · exact .inl (.inl h)
      · rcases ih y with h | rfl | h
        · exact .inl (.inr ⟨rfl,h⟩)
        · exact .inr (.inl rfl)
        · exact .inr (.inr (.inr ⟨rfl,h⟩))
      · exact .inr (.inr (.inl h))

theorem ltS_asymm {x y:List UInt8} (h:ltS x y=true):ltS y x=false:=by
 cases k:ltS y x with
 | false=>rfl
 | true=>have:=ltS_trans h k;rw [ltS_irrefl] at this;cases this
theorem ltS_ne {x y:List UInt8} (h:ltS x y=true):x ≠ y:=fun e=>by rw [e,ltS_irrefl] at h;cases h

theorem gtS_eq (x y:List UInt8):nt (oor (ltS x y) (eqS x y))=ltS y x:=by
 rcases ltS_tri x y with h | rfl | h
 ·rw [h,ltS_asymm h];rfl
 ·rw [eqS_self,ltS_irrefl];rfl
 ·rw [h,ltS_asymm h,eqS_false (fun e=>ltS_ne h e.symm)];rfl

def cmpS (x y:List UInt8):Int:=if ltS x y=true then -1 else if x=y then 0 else 1

def cmpL:List (List UInt8)→List (List UInt8)→Int
 | [],[]=>0
 | [],_ :: _=>-1
 | _ :: _,[]=>1
 | a :: x,b :: y=>if a=b then cmpL x y else if ltS a b=true then -1 else 1

theorem cmpL_self:∀ x,cmpL x x=0:=by
 intro x
 induction x with
 | nil=>rfl
 | cons a x ih=>rw [cmpL,if_pos rfl];exact ih
theorem cmpL_zero:∀ {x y},cmpL x y=0→x=y:=by
  intro x
  induction x with
  | nil=>intro y h;cases y with | nil=>rfl | cons b y=>cases h
  | cons a x ih =>
    intro y h
    cases y with
    | nil=>cases h
    | cons b y =>
      rw [cmpL] at h
      split at h
      · rename_i e;rw [e,ih h]
      · split at h <;> cases h
theorem cmpL_neg:∀ x y,cmpL x y = - cmpL y x:=by
  intro x
  induction x with
  | nil=>intro y;cases y <;> rfl
  | cons a x ih =>
    intro y
    cases y with
    | nil=>rfl
    | cons b y =>
      rw [cmpL,cmpL]
      by_cases e:a=b
      · rw [if_pos e,if_pos e.symm,ih y]
      · have e':¬ b=a:=fun q=>e q.symm
        rw [if_neg e,if_neg e']
        rcases ltS_tri a b with h | h | h
        · rw [if_pos h,if_neg (by rw [ltS_asymm h];simp)]
        · exact absurd h e
        · rw [if_neg (by rw [ltS_asymm h];simp),if_pos h];rfl
theorem cmpL_trans:∀ {x y z},cmpL x y < 0→cmpL y z < 0→cmpL x z < 0:=by
  intro x
  induction x with
  | nil =>
    intro y z h k
    cases z with
    | nil=>cases y with | nil=>exact absurd k (by simp [cmpL]) | cons b y=>exact absurd k (by simp [cmpL])
    | cons c z=>exact (by decide:(-1:Int) < 0)
  | cons a x ih =>
    intro y z h k
    cases y with
    | nil=>exact absurd h (by simp [cmpL])
    | cons b y =>
      cases z with
      | nil=>exact absurd k (by simp [cmpL])
      | cons c z =>
        rw [cmpL] at h k ⊢
        by_cases e:a=b
        · subst e
          rw [if_pos rfl] at h
          by_cases e2:a=c
          · subst e2
            rw [if_pos rfl] at k ⊢
            exact ih h k
          · rw [if_neg e2] at k ⊢
            exact k
        · rw [if_neg e] at h
          have hab:ltS a b=true:=by
            cases q:ltS a b with
            | true=>rfl
            | false=>rw [q,if_neg (by simp)] at h;exact absurd h (by decide)
          by_cases e2:b=c
          · subst e2
            rw [if_neg e]
            exact h
          · rw [if_neg e2] at k
            have hbc:ltS b c=true:=by
              cases q:ltS b c with
              | true=>rfl
              | false=>rw [q,if_neg (by simp)] at k;exact absurd k (by decide)
            have hac:=ltS_trans hab hbc
            rw [if_neg (ltS_ne hac),if_pos hac]
            decide
theorem cmpL_app (x r:List (List UInt8)) (h:r ≠ []):cmpL x (x ++ r) = -1:=by
 induction x with
 | nil=>cases r with | nil=>exact absurd rfl h | cons a r=>rfl
 | cons a x ih=>rw [List.cons_append,cmpL,if_pos rfl];exact ih

/-! ### Side by side -/
theorem zip_at {α β:Type} {x:List α} {y:List β} {i:Nat} {p:α×β} (h:(x.zip y)[i]? = some p):x[i]? = some p.1∧y[i]? = some p.2:=by
 rw [List.getElem?_zip_eq_some] at h
 exact h
theorem zip_same {α:Type} [DecidableEq α]:∀ (x y:List α),(x.zip y).all (fun p=>decide (p.1=p.2))=decide (x.take (min x.length y.length)=y.take (min x.length y.length)):=by
  intro x
  induction x with
  | nil=>intro y;simp
  | cons a x ih =>
    intro y
    cases y with
    | nil=>simp
    | cons b y =>
      rw [List.zip_cons_cons,List.all_cons,ih y]
      simp only [List.length_cons,Nat.add_min_add_right,List.take_succ_cons]
      by_cases e:a=b
      · subst e;simp
      · simp [e]
theorem zip_same_len {α:Type} [DecidableEq α] {x y:List α} (h:x.length=y.length):(x.zip y).all (fun p=>decide (p.1=p.2))=decide (x=y):=by
 rw [zip_same,h,Nat.min_self,List.take_length,← h,List.take_length]
end Go.Ge

/- What some functions of the library compute, as plain programs. -/
namespace Go.Ge
abbrev Sb:=List UInt8

noncomputable def P_internal_stringslite_IndexByte:(Ty.pair .str (.pair (.int .u8) .unit)).den→Option (Ty.pair (.int .i64) .unit).den:=fun x=>some (Lib.indexByte x.1 (show Int from x.2.1).toNat.toUInt8,())

noncomputable def P_strings_Split:(List UInt8)×(List UInt8)×Unit→Option ((List (List UInt8))×Unit):=fun x=>(S_split x.1 x.2.1).map fun y=>(y,())
noncomputable def P_strings_Join:(List (List UInt8))×(List UInt8)×Unit→Option ((List UInt8)×Unit):=fun x=>(S_join x.1 x.2.1).map fun y=>(y,())

end Go.Ge

/- What the functions of layer 02 compute, as plain programs (written by a program from what the ghost interpreter comes to). -/
namespace Go.Ge
set_option linter.unusedVariables false
set_option maxRecDepth 100000

noncomputable def P_math_bits_RotateLeft32 (x:Int×Int×Unit):Option (Int×Unit) :=
 sel (ltI (iand IntKind.u64 (icv IntKind.u64 x.2.1) (31:Int)) (0:Int))
 none
 (sel (ltI (isub IntKind.u64 (32:Int) (iand IntKind.u64 (icv IntKind.u64 x.2.1) (31:Int))) (0:Int))
 none
 (some (ior IntKind.u32 (ishl IntKind.u32 x.1 (iand IntKind.u64 (icv IntKind.u64 x.2.1) (31:Int))) (ishr IntKind.u32 x.1 (isub IntKind.u64 (32:Int) (iand IntKind.u64 (icv IntKind.u64 x.2.1) (31:Int)))),())))

noncomputable def P_sha_right (x:Int×Int×Unit):Option (Int×Unit) :=
 obind (P_math_bits_RotateLeft32 (x.1,(isub IntKind.i64 (0:Int) x.2.1,()))) (fun (y1:Int×Unit)=>some (y1.1,()))

noncomputable def P_ref02_turn (x:Int×Int×Unit):Option (Int×Unit) :=
 sel (ltI x.2.1 (0:Int))
 none
 (sel (ltI (isub IntKind.i64 (32:Int) x.2.1) (0:Int))
 none
 (some (ior IntKind.u32 (ishr IntKind.u32 x.1 x.2.1) (ishl IntKind.u32 x.1 (isub IntKind.i64 (32:Int) x.2.1)),())))

end Go.Ge

/- What the functions of layer 03 compute, as plain programs (written by a program from what the ghost interpreter comes to). -/
namespace Go.Ge
set_option linter.unusedVariables false
set_option maxRecDepth 100000

noncomputable def P_internal_stringslite_HasPrefix (x:Sb×Sb×Unit):Option (Bool×Unit) :=
 obind (sel (leI (@len UInt8 x.2.1) (@len UInt8 x.1))
 (sel (inside (0:Int) (@len UInt8 x.2.1) (@len UInt8 x.1))
 (some (eqS (@sub UInt8 x.1 (0:Int) (minus (@len UInt8 x.2.1) (0:Int))) x.2.1))
 none)
 (some false)) (fun (y1:Bool)=>some (y1,()))

noncomputable def P_internal_stringslite_CutPrefix (x:Sb×Sb×Unit):Option (Sb×Bool×Unit) :=
 obind (P_internal_stringslite_HasPrefix (x.1,(x.2.1,()))) (fun (y1:Bool×Unit)=>sel (nt y1.1)
 (some (x.1,(false,())))
 (sel (inside (@len UInt8 x.2.1) (@len UInt8 x.1) (@len UInt8 x.1))
 (some (@sub UInt8 x.1 (@len UInt8 x.2.1) (minus (@len UInt8 x.1) (@len UInt8 x.2.1)),(true,())))
 none))

noncomputable def P_strings_CutPrefix (x:Sb×Sb×Unit):Option (Sb×Bool×Unit) :=
 obind (P_internal_stringslite_CutPrefix (x.1,(x.2.1,()))) (fun (y1:Sb×Bool×Unit)=>some (y1.1,(y1.2.1,())))

noncomputable def P_strings_IndexByte (x:Sb×Int×Unit):Option (Int×Unit) :=
 obind (P_internal_stringslite_IndexByte (x.1,(x.2.1,()))) (fun (y1:Int×Unit)=>some (y1.1,()))

end Go.Ge

/- What the functions of layer 12 compute, as plain programs (written by a program from what the ghost interpreter comes to). -/
namespace Go.Ge
set_option linter.unusedVariables false
set_option maxRecDepth 100000

abbrev S6x0:=((Sb×Unit)×(List (Bool))×Unit)
abbrev S6x1:=(Int×Int×Unit)
abbrev S6x2:=(Bool×Int×Unit)
abbrev S6x3:=(Int×Bool×Int×Int×Unit)
abbrev S6x4:=((Nat×(Sb×Unit)×(List (Bool))×Unit))
abbrev S6x5:=((Sb×Unit)×Unit)
abbrev S6x6:=(Sb×Int×Int×Int×Int×Int×Int×Sb×Unit)
abbrev S6x7:=(Nat×S6x2×(List (Bool))×Unit)
noncomputable def P_header_in (x:Int×Int×Unit):Option (Bool×Unit) :=
 some (sel (leI (0:Int) x.1)
 (ltI x.1 x.2.1)
 false,())

noncomputable def P_header_clear (x:Sb×Int×Unit):Option (Bool×Unit) :=
 obind (sel (sel (nt (eqS x.1 ([]:List (UInt8))))
 (leI (@len UInt8 x.1) x.2.1)
 false)
 (obind (P_strings_IndexByte (x.1,((0:Int),()))) (fun (y1:Int×Unit)=>some (ltI y1.1 (0:Int))))
 (some false)) (fun (y1:Bool)=>some (y1,()))

noncomputable def P_header_is (x:S6x6×Int×Unit):Option (Bool×Unit) :=
 obind (P_header_in (x.1.2.2.1,((2097152:Int),()))) (fun (y1:Bool×Unit)=>obind (sel y1.1
 (obind (P_header_in (x.1.2.2.2.1,((2097152:Int),()))) (fun (y2:Bool×Unit)=>some y2.1))
 (some false)) (fun (y2:Bool)=>obind (sel y2
 (obind (P_header_in (x.1.2.2.2.2.1,((2097152:Int),()))) (fun (y3:Bool×Unit)=>some y3.1))
 (some false)) (fun (y3:Bool)=>obind (sel y3
 (obind (P_header_in (x.1.2.2.2.2.2.1,((8589934592:Int),()))) (fun (y4:Bool×Unit)=>some y4.1))
 (some false)) (fun (y4:Bool)=>obind (sel y4
 (obind (P_header_in (x.1.2.2.2.2.2.2.1,((8589934592:Int),()))) (fun (y5:Bool×Unit)=>some y5.1))
 (some false)) (fun (y5:Bool)=>obind (sel (nt (nt y5))
 (obind (P_header_clear (x.1.1,(x.2.1,()))) (fun (y6:Bool×Unit)=>some (nt y6.1)))
 (some true)) (fun (y6:Bool)=>sel y6
 (some (false,()))
 (sel (eqI x.1.2.1 (1:Int))
 (some (eqS x.1.2.2.2.2.2.2.2.1 ([]:List (UInt8)),()))
 (sel (eqI x.1.2.1 (2:Int))
 (some (sel (eqS x.1.2.2.2.2.2.2.2.1 ([]:List (UInt8)))
 (eqI x.1.2.2.2.2.2.1 (0:Int))
 false,()))
 (sel (eqI x.1.2.1 (3:Int))
 (obind (P_header_clear (x.1.2.2.2.2.2.2.2.1,((100:Int),()))) (fun (y7:Bool×Unit)=>some (sel y7.1
 (eqI x.1.2.2.2.2.2.1 (0:Int))
 false,())))
 (some (false,())))))))))))

noncomputable def P_header_fields (x:Unit):Option ((List S6x1)×Unit) :=
 some (([((0:Int),((100:Int),())),((100:Int),((8:Int),())),((108:Int),((8:Int),())),((116:Int),((8:Int),())),((124:Int),((12:Int),())),((136:Int),((12:Int),())),((148:Int),((8:Int),())),((156:Int),((1:Int),())),((157:Int),((100:Int),())),((257:Int),((8:Int),())),((345:Int),((155:Int),()))]:List S6x1),())

noncomputable def P_header_Sum_L0 (x:Sb×Unit) (y2:Int×Int×Unit) (y3:S6x1×Unit):Option ((S6x1×Unit) ⊕ (S6x1×Unit)) :=
 @way1 (S6x1×Unit) (sel (ltI y3.1.2.1 (@len Int (bytesInts x.1)))
 (sel (within y3.1.2.1 (@len Int (bytesInts x.1)))
 (obind (@idx Int (bytesInts x.1) y3.1.2.1) (fun (y4:Int)=>some (Sum.inl ((iadd IntKind.i64 y3.1.1 (icv IntKind.i64 (((sel (sel (leI y2.1 y3.1.2.1)
 (ltI y3.1.2.1 (iadd IntKind.i64 y2.1 y2.2.1))
 false)
 (((32:Int),()),())
 ((y4,()),())).1).1)),(iadd IntKind.i64 y3.1.2.1 (1:Int),())),()):((S6x1×Unit)) ⊕ ((Nat×S6x1×Unit)))))
 none)
 (some (Sum.inr ((0:Nat),((y3.1.1,(y3.1.2.1,())),())):((S6x1×Unit)) ⊕ ((Nat×S6x1×Unit)))))

noncomputable def P_header_Sum (x:Sb×Unit):Option (Int×Unit) :=
 obind (P_header_fields ()) (fun (y1:(List S6x1)×Unit)=>obind (@idx S6x1 y1.1 (6:Int)) (fun (y2:Int×Int×Unit)=>sel (fits (@len UInt8 x.1))
 (obind (Loop (P_header_Sum_L0 x y2) (((0:Int),((0:Int),())),())) (fun (y3:S6x1×Unit)=>some (y3.1.1,())))
 none))

noncomputable def P_header_of (x:Sb×Int×Unit):Option (Sb×Unit) :=
 obind (P_header_fields ()) (fun (y1:(List S6x1)×Unit)=>obind (@idx S6x1 y1.1 x.2.1) (fun (y2:Int×Int×Unit)=>sel (inside y2.1 (iadd IntKind.i64 y2.1 y2.2.1) (@len UInt8 x.1))
 (some (@sub UInt8 x.1 y2.1 (minus (iadd IntKind.i64 y2.1 y2.2.1) y2.1),()))
 none))

noncomputable def P_strings_trimRightByte_L0 (x:Sb×Int×Unit) (y1:(Sb×Unit)×Unit):Option (S6x5 ⊕ S6x5) :=
 @way1 S6x5 (obind (sel (ltI (0:Int) (@len UInt8 y1.1.1))
 (obind (@idx UInt8 y1.1.1 (isub IntKind.i64 (@len UInt8 y1.1.1) (1:Int))) (fun (y2:UInt8)=>some (eqI (u8 y2) x.2.1)))
 (some false)) (fun (y2:Bool)=>sel y2
 (sel (inside (0:Int) (isub IntKind.i64 (@len UInt8 y1.1.1) (1:Int)) (@len UInt8 y1.1.1))
 (some (Sum.inl ((@sub UInt8 y1.1.1 (0:Int) (minus (isub IntKind.i64 (@len UInt8 y1.1.1) (1:Int)) (0:Int)),()),()):(S6x5) ⊕ ((Nat×(Sb×Unit)×Unit))))
 none)
 (some (Sum.inr ((0:Nat),((y1.1.1,()),())):(S6x5) ⊕ ((Nat×(Sb×Unit)×Unit))))))

noncomputable def P_strings_trimRightByte (x:Sb×Int×Unit):Option (Sb×Unit) :=
 obind (Loop (P_strings_trimRightByte_L0 x) ((x.1,()),())) (fun (y1:(Sb×Unit)×Unit)=>some (y1.1.1,()))

noncomputable def P_strings_makeASCIISet_L0 (x:Sb×Unit) (y1:S6x2×(List (Bool))×Unit):Option ((S6x2×(List (Bool))×Unit) ⊕ S6x7) :=
 sel (ltI y1.1.2.1 (@len UInt8 x.1))
 (obind (@idx UInt8 x.1 y1.1.2.1) (fun (y2:UInt8)=>sel (leI (128:Int) (u8 y2))
 (some (Sum.inr ((1:Nat),((false,(y1.1.2.1,())),(y1.2.1,()))):((S6x2×(List (Bool))×Unit)) ⊕ (S6x7)))
 (sel (within (u8 y2) (256:Int))
 (obind (@idx Bool y1.2.1 (u8 y2)) (fun (y3:Bool)=>obind (@idx Bool y1.2.1 (u8 y2)) (fun (y4:Bool)=>obind (@idx Bool y1.2.1 (u8 y2)) (fun (y5:Bool)=>some (Sum.inl ((y1.1.1,(iadd IntKind.i64 y1.1.2.1 (1:Int),())),(@lset Bool y1.2.1 (u8 y2) true,())):((S6x2×(List (Bool))×Unit)) ⊕ (S6x7))))))
 none)))
 (some (Sum.inr ((0:Nat),((y1.1.1,(y1.1.2.1,())),(y1.2.1,()))):((S6x2×(List (Bool))×Unit)) ⊕ (S6x7)))

noncomputable def P_strings_makeASCIISet (x:Sb×Unit):Option ((List (Bool))×Bool×Unit) :=
 obind (Loop (P_strings_makeASCIISet_L0 x) ((false,((0:Int),())),(([false,false,false,false,false,false,false,false,false,false,false,false,false,false,false,false,false,false,false,false,false,false,false,false,false,false,false,false,false,false,false,false,false,false,false,false,false,false,false,false,false,false,false,false,false,false,false,false,false,false,false,false,false,false,false,false,false,false,false,false,false,false,false,false,false,false,false,false,false,false,false,false,false,false,false,false,false,false,false,false,false,false,false,false,false,false,false,false,false,false,false,false,false,false,false,false,false,false,false,false,false,false,false,false,false,false,false,false,false,false,false,false,false,false,false,false,false,false,false,false,false,false,false,false,false,false,false,false,false,false,false,false,false,false,false,false,false,false,false,false,false,false,false,false,false,false,false,false,false,false,false,false,false,false,false,false,false,false,false,false,false,false,false,false,false,false,false,false,false,false,false,false,false,false,false,false,false,false,false,false,false,false,false,false,false,false,false,false,false,false,false,false,false,false,false,false,false,false,false,false,false,false,false,false,false,false,false,false,false,false,false,false,false,false,false,false,false,false,false,false,false,false,false,false,false,false,false,false,false,false,false,false,false,false,false,false,false,false,false,false,false,false,false,false,false,false,false,false,false,false,false,false,false,false,false,false]:List (Bool)),()))) (fun (y1:Nat×S6x2×(List (Bool))×Unit)=>sel (eqN y1.1 (0:Nat))
 (some (y1.2.2.1,(true,())))
 (some (y1.2.2.1,(y1.2.1.1,()))))

noncomputable def P_strings_asciiSet_contains (x:(Int×Unit)×(List (Bool))×Unit):Option ((Bool×Unit)×(List (Bool))×Unit) :=
 sel (within x.1.1 (256:Int))
 (obind (@idx Bool x.2.1 x.1.1) (fun (y1:Bool)=>some ((y1,()),(x.2.1,()))))
 none

noncomputable def P_strings_trimRightASCII_L0 (y1:(Sb×Unit)×(List (Bool))×Unit):Option (S6x0 ⊕ S6x0) :=
 @way1 S6x0 (sel (ltI (0:Int) (@len UInt8 y1.1.1))
 (obind (@idx UInt8 y1.1.1 (isub IntKind.i64 (@len UInt8 y1.1.1) (1:Int))) (fun (y2:UInt8)=>obind (P_strings_asciiSet_contains ((u8 y2,()),(y1.2.1,()))) (fun (y3:(Bool×Unit)×(List (Bool))×Unit)=>sel (nt y3.1.1)
 (some (Sum.inr ((0:Nat),((y1.1.1,()),(y3.2.1,()))):(S6x0) ⊕ S6x4))
 (sel (inside (0:Int) (isub IntKind.i64 (@len UInt8 y1.1.1) (1:Int)) (@len UInt8 y1.1.1))
 (some (Sum.inl ((@sub UInt8 y1.1.1 (0:Int) (minus (isub IntKind.i64 (@len UInt8 y1.1.1) (1:Int)) (0:Int)),()),(y3.2.1,())):(S6x0) ⊕ S6x4))
 none))))
 (some (Sum.inr ((0:Nat),((y1.1.1,()),(y1.2.1,()))):(S6x0) ⊕ S6x4)))

noncomputable def P_strings_trimRightASCII (x:(Sb×Unit)×(List (Bool))×Unit):Option S6x0 :=
 obind (Loop (P_strings_trimRightASCII_L0) ((x.1.1,()),(x.2.1,()))) (fun (y1:(Sb×Unit)×(List (Bool))×Unit)=>some ((y1.1.1,()),(y1.2.1,())))

noncomputable def P_strings_TrimRight (x:Sb×Sb×Unit):Option (Sb×Unit) :=
 sel (sel (nt (eqS x.1 ([]:List (UInt8))))
 (eqS x.2.1 ([]:List (UInt8)))
 true)
 (some (x.1,()))
 (obind (sel (eqI (@len UInt8 x.2.1) (1:Int))
 (obind (@idx UInt8 x.2.1 (0:Int)) (fun (y1:UInt8)=>some (ltI (u8 y1) (128:Int))))
 (some false)) (fun (y1:Bool)=>sel y1
 (obind (@idx UInt8 x.2.1 (0:Int)) (fun (y2:UInt8)=>obind (P_strings_trimRightByte (x.1,(u8 y2,()))) (fun (y3:Sb×Unit)=>some (y3.1,()))))
 (obind (P_strings_makeASCIISet (x.2.1,())) (fun (y2:(List (Bool))×Bool×Unit)=>sel y2.2.1
 (obind (P_strings_trimRightASCII ((x.1,()),(y2.1,()))) (fun (y3:(Sb×Unit)×(List (Bool))×Unit)=>some (y3.1.1,())))
 none))))

noncomputable def P_digits_FromOctal_L0 (x:Sb×Unit) (y1:S6x3×Unit):Option ((S6x3×Unit) ⊕ (Nat×S6x3×Unit)) :=
 sel (ltI y1.1.2.2.2.1 (@len Int (bytesInts x.1)))
 (sel (within y1.1.2.2.2.1 (@len Int (bytesInts x.1)))
 (obind (@idx Int (bytesInts x.1) y1.1.2.2.2.1) (fun (y2:Int)=>sel (sel (nt (ltI y2 (48:Int)))
 (ltI (55:Int) y2)
 true)
 (some (Sum.inr ((1:Nat),(((0:Int),(false,(y1.1.2.2.1,(y1.1.2.2.2.1,())))),())):((S6x3×Unit)) ⊕ ((Nat×S6x3×Unit))))
 (sel (ltI (3:Int) (0:Int))
 none
 (some (Sum.inl ((y1.1.1,(y1.1.2.1,(ior IntKind.i64 (ishl IntKind.i64 y1.1.2.2.1 (3:Int)) (icv IntKind.i64 (isub IntKind.u8 y2 (48:Int))),(iadd IntKind.i64 y1.1.2.2.2.1 (1:Int),())))),()):((S6x3×Unit)) ⊕ ((Nat×S6x3×Unit)))))))
 none)
 (some (Sum.inr ((0:Nat),((y1.1.1,(y1.1.2.1,(y1.1.2.2.1,(y1.1.2.2.2.1,())))),())):((S6x3×Unit)) ⊕ ((Nat×S6x3×Unit))))

noncomputable def P_digits_FromOctal (x:Sb×Unit):Option (Int×Bool×Unit) :=
 sel (sel (nt (ltI (@len UInt8 x.1) (1:Int)))
 (ltI (21:Int) (@len UInt8 x.1))
 true)
 (some ((0:Int),(false,())))
 (sel (fits (@len UInt8 x.1))
 (obind (Loop (P_digits_FromOctal_L0 x) (((0:Int),(false,((0:Int),((0:Int),())))),())) (fun (y1:Nat×S6x3×Unit)=>sel (eqN y1.1 (0:Nat))
 (some (y1.2.1.2.2.1,(true,())))
 (some (y1.2.1.1,(y1.2.1.2.1,())))))
 none)

noncomputable def P_header_number (x:Sb×Unit):Option (Int×Unit) :=
 obind (P_strings_TrimRight (x.1,(([(0:UInt8),(32:UInt8)]:List (UInt8)),()))) (fun (y1:Sb×Unit)=>obind (P_digits_FromOctal (y1.1,())) (fun (y2:Int×Bool×Unit)=>sel (sel (nt (nt y2.2.1))
 (eqI (@len UInt8 y1.1) (@len UInt8 x.1))
 true)
 (some ((-1:Int),()))
 (some (y2.1,()))))

noncomputable def P_header_text (x:Sb×Unit):Option (Sb×Bool×Unit) :=
 obind (P_strings_TrimRight (x.1,(([(0:UInt8)]:List (UInt8)),()))) (fun (y1:Sb×Unit)=>obind (P_strings_IndexByte (y1.1,((0:Int),()))) (fun (y2:Int×Unit)=>some (y1.1,(ltI y2.1 (0:Int),()))))

noncomputable def P_header_Take (x:Sb×Unit):Option (S6x6×Int×Unit) :=
 obind (sel (nt (nt (eqI (@len UInt8 x.1) (512:Int))))
 (obind (P_header_of (x.1,((9:Int),()))) (fun (y1:Sb×Unit)=>some (nt (eqS y1.1 ([(117:UInt8),(115:UInt8),(116:UInt8),(97:UInt8),(114:UInt8),(0:UInt8),(48:UInt8),(48:UInt8)]:List (UInt8))))))
 (some true)) (fun (y1:Bool)=>obind (sel (nt y1)
 (obind (P_header_of (x.1,((6:Int),()))) (fun (y2:Sb×Unit)=>obind (P_header_number (y2.1,())) (fun (y3:Int×Unit)=>obind (P_header_Sum (x.1,())) (fun (y4:Int×Unit)=>some (nt (eqI y3.1 y4.1))))))
 (some true)) (fun (y2:Bool)=>sel y2
 (some ((([]:List (UInt8)),((0:Int),((0:Int),((0:Int),((0:Int),((0:Int),((0:Int),(([]:List (UInt8)),())))))))),((2:Int),())))
 (obind (P_header_of (x.1,((0:Int),()))) (fun (y3:Sb×Unit)=>obind (P_header_text (y3.1,())) (fun (y4:Sb×Bool×Unit)=>obind (P_header_of (x.1,((8:Int),()))) (fun (y5:Sb×Unit)=>obind (P_header_text (y5.1,())) (fun (y6:Sb×Bool×Unit)=>obind (P_header_of (x.1,((10:Int),()))) (fun (y7:Sb×Unit)=>obind (P_header_text (y7.1,())) (fun (y8:Sb×Bool×Unit)=>obind (sel (nt (eqS y8.1 ([]:List (UInt8))))
 (sel (fits (plus (@len UInt8 y8.1) (@len UInt8 ([(47:UInt8)]:List (UInt8)))))
 (sel (fits (plus (@len UInt8 (@app UInt8 y8.1 ([(47:UInt8)]:List (UInt8)))) (@len UInt8 y4.1)))
 (some ((@app UInt8 (@app UInt8 y8.1 ([(47:UInt8)]:List (UInt8))) y4.1,()),()))
 none)
 none)
 (some ((y4.1,()),()))) (fun (y9:(Sb×Unit)×Unit)=>obind (P_header_of (x.1,((1:Int),()))) (fun (y10:Sb×Unit)=>obind (P_header_number (y10.1,())) (fun (y11:Int×Unit)=>obind (P_header_of (x.1,((2:Int),()))) (fun (y12:Sb×Unit)=>obind (P_header_number (y12.1,())) (fun (y13:Int×Unit)=>obind (P_header_of (x.1,((3:Int),()))) (fun (y14:Sb×Unit)=>obind (P_header_number (y14.1,())) (fun (y15:Int×Unit)=>obind (P_header_of (x.1,((4:Int),()))) (fun (y16:Sb×Unit)=>obind (P_header_number (y16.1,())) (fun (y17:Int×Unit)=>obind (P_header_of (x.1,((5:Int),()))) (fun (y18:Sb×Unit)=>obind (P_header_number (y18.1,())) (fun (y19:Int×Unit)=>obind (P_header_of (x.1,((7:Int),()))) (fun (y20:Sb×Unit)=>obind (sel (nt (sel (nt (sel (nt (nt y4.2.1))
 (nt y6.2.1)
 true))
 (nt y8.2.1)
 true))
 (obind (P_header_is (((sel (((sel (eqS y20.1 ([(48:UInt8)]:List (UInt8)))
 ((eqS y20.1 ([(48:UInt8)]:List (UInt8)),()),())
 ((eqS y20.1 ([(0:UInt8)]:List (UInt8)),()),())).1).1)
 ((),((y9.1.1,((1:Int),(y11.1,(y13.1,(y15.1,(y17.1,(y19.1,(([]:List (UInt8)),())))))))),()))
 ((),(((sel (eqS y20.1 ([(53:UInt8)]:List (UInt8)))
 ((),((y9.1.1,((2:Int),(y11.1,(y13.1,(y15.1,(y17.1,(y19.1,(([]:List (UInt8)),())))))))),()))
 ((),(((sel (eqS y20.1 ([(50:UInt8)]:List (UInt8)))
 ((),((y9.1.1,((3:Int),(y11.1,(y13.1,(y15.1,(y17.1,(y19.1,(y6.1,())))))))),()))
 ((),((y9.1.1,((0:Int),(y11.1,(y13.1,(y15.1,(y17.1,(y19.1,(([]:List (UInt8)),())))))))),()))).2).1,()))).2).1,()))).2).1,((256:Int),()))) (fun (y21:Bool×Unit)=>some (nt y21.1)))
 (some true)) (fun (y21:Bool)=>sel y21
 (some ((([]:List (UInt8)),((0:Int),((0:Int),((0:Int),((0:Int),((0:Int),((0:Int),(([]:List (UInt8)),())))))))),((2:Int),())))
 (some (((sel (((sel (eqS y20.1 ([(48:UInt8)]:List (UInt8)))
 ((eqS y20.1 ([(48:UInt8)]:List (UInt8)),()),())
 ((eqS y20.1 ([(0:UInt8)]:List (UInt8)),()),())).1).1)
 ((),((y9.1.1,((1:Int),(y11.1,(y13.1,(y15.1,(y17.1,(y19.1,(([]:List (UInt8)),())))))))),()))
 ((),(((sel (eqS y20.1 ([(53:UInt8)]:List (UInt8)))
 ((),((y9.1.1,((2:Int),(y11.1,(y13.1,(y15.1,(y17.1,(y19.1,(([]:List (UInt8)),())))))))),()))
 ((),(((sel (eqS y20.1 ([(50:UInt8)]:List (UInt8)))
 ((),((y9.1.1,((3:Int),(y11.1,(y13.1,(y15.1,(y17.1,(y19.1,(y6.1,())))))))),()))
 ((),((y9.1.1,((0:Int),(y11.1,(y13.1,(y15.1,(y17.1,(y19.1,(([]:List (UInt8)),())))))))),()))).2).1,()))).2).1,()))).2).1,((0:Int),())))))))))))))))))))))))))

noncomputable def P_strings_trimLeftByte_L0 (x:Sb×Int×Unit) (y1:(Sb×Unit)×Unit):Option (S6x5 ⊕ S6x5) :=
 @way1 S6x5 (obind (sel (ltI (0:Int) (@len UInt8 y1.1.1))
 (obind (@idx UInt8 y1.1.1 (0:Int)) (fun (y2:UInt8)=>some (eqI (u8 y2) x.2.1)))
 (some false)) (fun (y2:Bool)=>sel y2
 (sel (inside (1:Int) (@len UInt8 y1.1.1) (@len UInt8 y1.1.1))
 (some (Sum.inl ((@sub UInt8 y1.1.1 (1:Int) (minus (@len UInt8 y1.1.1) (1:Int)),()),()):(S6x5) ⊕ ((Nat×(Sb×Unit)×Unit))))
 none)
 (some (Sum.inr ((0:Nat),((y1.1.1,()),())):(S6x5) ⊕ ((Nat×(Sb×Unit)×Unit))))))

noncomputable def P_strings_trimLeftByte (x:Sb×Int×Unit):Option (Sb×Unit) :=
 obind (Loop (P_strings_trimLeftByte_L0 x) ((x.1,()),())) (fun (y1:(Sb×Unit)×Unit)=>some (y1.1.1,()))

noncomputable def P_strings_trimLeftASCII_L0 (y1:(Sb×Unit)×(List (Bool))×Unit):Option (S6x0 ⊕ S6x0) :=
 @way1 S6x0 (sel (ltI (0:Int) (@len UInt8 y1.1.1))
 (obind (@idx UInt8 y1.1.1 (0:Int)) (fun (y2:UInt8)=>obind (P_strings_asciiSet_contains ((u8 y2,()),(y1.2.1,()))) (fun (y3:(Bool×Unit)×(List (Bool))×Unit)=>sel (nt y3.1.1)
 (some (Sum.inr ((0:Nat),((y1.1.1,()),(y3.2.1,()))):(S6x0) ⊕ S6x4))
 (sel (inside (1:Int) (@len UInt8 y1.1.1) (@len UInt8 y1.1.1))
 (some (Sum.inl ((@sub UInt8 y1.1.1 (1:Int) (minus (@len UInt8 y1.1.1) (1:Int)),()),(y3.2.1,())):(S6x0) ⊕ S6x4))
 none))))
 (some (Sum.inr ((0:Nat),((y1.1.1,()),(y1.2.1,()))):(S6x0) ⊕ S6x4)))

noncomputable def P_strings_trimLeftASCII (x:(Sb×Unit)×(List (Bool))×Unit):Option S6x0 :=
 obind (Loop (P_strings_trimLeftASCII_L0) ((x.1.1,()),(x.2.1,()))) (fun (y1:(Sb×Unit)×(List (Bool))×Unit)=>some ((y1.1.1,()),(y1.2.1,())))

noncomputable def P_strings_Trim (x:Sb×Sb×Unit):Option (Sb×Unit) :=
 sel (sel (nt (eqS x.1 ([]:List (UInt8))))
 (eqS x.2.1 ([]:List (UInt8)))
 true)
 (some (x.1,()))
 (obind (sel (eqI (@len UInt8 x.2.1) (1:Int))
 (obind (@idx UInt8 x.2.1 (0:Int)) (fun (y1:UInt8)=>some (ltI (u8 y1) (128:Int))))
 (some false)) (fun (y1:Bool)=>sel y1
 (obind (@idx UInt8 x.2.1 (0:Int)) (fun (y2:UInt8)=>obind (P_strings_trimRightByte (x.1,(u8 y2,()))) (fun (y3:Sb×Unit)=>obind (@idx UInt8 x.2.1 (0:Int)) (fun (y4:UInt8)=>obind (P_strings_trimLeftByte (y3.1,(u8 y4,()))) (fun (y5:Sb×Unit)=>some (y5.1,()))))))
 (obind (P_strings_makeASCIISet (x.2.1,())) (fun (y2:(List (Bool))×Bool×Unit)=>sel y2.2.1
 (obind (P_strings_trimRightASCII ((x.1,()),(y2.1,()))) (fun (y3:(Sb×Unit)×(List (Bool))×Unit)=>obind (P_strings_trimLeftASCII ((y3.1.1,()),(y3.2.1,()))) (fun (y4:(Sb×Unit)×(List (Bool))×Unit)=>some (y4.1.1,()))))
 none))))

noncomputable def P_header_Zero (x:Sb×Unit):Option (Bool×Unit) :=
 obind (sel (eqI (@len UInt8 x.1) (512:Int))
 (obind (P_strings_Trim (x.1,(([(0:UInt8)]:List (UInt8)),()))) (fun (y1:Sb×Unit)=>some (eqS y1.1 ([]:List (UInt8)))))
 (some false)) (fun (y1:Bool)=>some (y1,()))

noncomputable def P_ref12_clear_L0 (x:Sb×Int×Unit) (y1:S6x2×Unit):Option ((S6x2×Unit) ⊕ (Nat×S6x2×Unit)) :=
 sel (ltI y1.1.2.1 (@len UInt8 x.1))
 (obind (@idx UInt8 x.1 y1.1.2.1) (fun (y2:UInt8)=>sel (eqI (u8 y2) (0:Int))
 (some (Sum.inr ((1:Nat),((false,(y1.1.2.1,())),())):((S6x2×Unit)) ⊕ ((Nat×S6x2×Unit))))
 (some (Sum.inl ((y1.1.1,(iadd IntKind.i64 y1.1.2.1 (1:Int),())),()):((S6x2×Unit)) ⊕ ((Nat×S6x2×Unit))))))
 (some (Sum.inr ((0:Nat),((y1.1.1,(y1.1.2.1,())),())):((S6x2×Unit)) ⊕ ((Nat×S6x2×Unit))))

noncomputable def P_ref12_clear (x:Sb×Int×Unit):Option (Bool×Unit) :=
 obind (Loop (P_ref12_clear_L0 x) ((false,((0:Int),())),())) (fun (y1:Nat×S6x2×Unit)=>sel (eqN y1.1 (0:Nat))
 (some (sel (leI (1:Int) (@len UInt8 x.1))
 (leI (@len UInt8 x.1) x.2.1)
 false,()))
 (some (y1.2.1.1,())))

noncomputable def P_ref12_in (x:Int×Int×Unit):Option (Bool×Unit) :=
 some (sel (leI (0:Int) x.1)
 (ltI x.1 x.2.1)
 false,())

noncomputable def P_ref12_may (x:S6x6×Int×Unit):Option (Bool×Unit) :=
 obind (sel (eqI x.1.2.1 (3:Int))
 (obind (P_ref12_clear (x.1.2.2.2.2.2.2.2.1,((100:Int),()))) (fun (y1:Bool×Unit)=>some ((y1.1,()),())))
 (some ((eqS x.1.2.2.2.2.2.2.2.1 ([]:List (UInt8)),()),()))) (fun (y1:(Bool×Unit)×Unit)=>obind (P_ref12_clear (x.1.1,(x.2.1,()))) (fun (y2:Bool×Unit)=>obind (sel (sel (sel y2.1
 (leI (1:Int) x.1.2.1)
 false)
 (leI x.1.2.1 (3:Int))
 false)
 (obind (P_ref12_in (x.1.2.2.1,((2097152:Int),()))) (fun (y3:Bool×Unit)=>some y3.1))
 (some false)) (fun (y3:Bool)=>obind (sel y3
 (obind (P_ref12_in (x.1.2.2.2.1,((2097152:Int),()))) (fun (y4:Bool×Unit)=>some y4.1))
 (some false)) (fun (y4:Bool)=>obind (sel y4
 (obind (P_ref12_in (x.1.2.2.2.2.1,((2097152:Int),()))) (fun (y5:Bool×Unit)=>some y5.1))
 (some false)) (fun (y5:Bool)=>obind (sel y5
 (obind (P_ref12_in (x.1.2.2.2.2.2.1,((8589934592:Int),()))) (fun (y6:Bool×Unit)=>some y6.1))
 (some false)) (fun (y6:Bool)=>obind (sel y6
 (obind (P_ref12_in (x.1.2.2.2.2.2.2.1,((8589934592:Int),()))) (fun (y7:Bool×Unit)=>some y7.1))
 (some false)) (fun (y7:Bool)=>some (sel (sel y7
 (sel (nt (eqI x.1.2.2.2.2.2.1 (0:Int)))
 (eqI x.1.2.1 (1:Int))
 true)
 false)
 y1.1.1
 false,()))))))))

noncomputable def P_ref12_Sum_L0 (x:Sb×Unit) (y1:S6x1×Unit):Option ((S6x1×Unit) ⊕ (S6x1×Unit)) :=
 @way1 (S6x1×Unit) (sel (ltI y1.1.2.1 (@len UInt8 x.1))
 (obind (sel (sel (leI (148:Int) y1.1.2.1)
 (ltI y1.1.2.1 (156:Int))
 false)
 (some ((iadd IntKind.i64 y1.1.1 (32:Int),()),()))
 (obind (@idx UInt8 x.1 y1.1.2.1) (fun (y2:UInt8)=>some ((iadd IntKind.i64 y1.1.1 (icv IntKind.i64 (u8 y2)),()),())))) (fun (y2:(Int×Unit)×Unit)=>some (Sum.inl ((y2.1.1,(iadd IntKind.i64 y1.1.2.1 (1:Int),())),()):((S6x1×Unit)) ⊕ ((Nat×S6x1×Unit)))))
 (some (Sum.inr ((0:Nat),((y1.1.1,(y1.1.2.1,())),())):((S6x1×Unit)) ⊕ ((Nat×S6x1×Unit)))))

noncomputable def P_ref12_Sum (x:Sb×Unit):Option (Int×Unit) :=
 obind (Loop (P_ref12_Sum_L0 x) (((0:Int),((0:Int),())),())) (fun (y1:S6x1×Unit)=>some (y1.1.1,()))

end Go.Ge

/- SHA-256 in plain words: rotations, the words of a block, the rounds. -/
namespace Go.Ge
set_option linter.unusedVariables false
set_option linter.unusedSimpArgs false

def rot (n x:Int):Int:=ior .u32 (ishr .u32 x n) (ishl .u32 x (32 - n))

theorem right_of {n m:Int} (h:iand .u64 (icv .u64 (isub .i64 0 n)) 31=m) (h1:ltI m 0=false) (h2:isub .u64 32 m=n) (h3:ltI n 0=false) (h4:32 - n=m) (x:Int):P_sha_right (x,(n,()))=some (rot n x,()):=by
 unfold P_sha_right P_math_bits_RotateLeft32 rot
 dsimp only
 rw [h,h1,sel_false,h2,h3,sel_false,obind_some,h4,ior_comm32]
theorem turn_of {n:Int} (h1:ltI n 0=false) (h2:isub .i64 32 n=32 - n) (h3:ltI (32 - n) 0=false) (x:Int):P_ref02_turn (x,(n,()))=some (rot n x,()):=by
 unfold P_ref02_turn rot
 dsimp only
 rw [h1,sel_false,h2,h3,sel_false]

theorem r6 (x:Int):P_sha_right (x,(6,()))=some (rot 6 x,()):=right_of (m:=26) (by decide) (by decide) (by decide) (by decide) (by decide) x
theorem r2 (x:Int):P_sha_right (x,(2,()))=some (rot 2 x,()):=right_of (m:=30) (by decide) (by decide) (by decide) (by decide) (by decide) x
theorem t2 (x:Int):P_ref02_turn (x,(2,()))=some (rot 2 x,()):=turn_of (by decide) (by decide) (by decide) x
/-! ### The words of a block -/
def word (b:List Int) (t:Nat):Int :=
 ior .u32 (ior .u32 (ior .u32 (ishl .u32 (icv .u32 (b.getD (4 * t) 0)) 24) (ishl .u32 (icv .u32 (b.getD (4 * t + 1) 0)) 16)) (ishl .u32 (icv .u32 (b.getD (4 * t + 2) 0)) 8)) (icv .u32 (b.getD (4 * t + 3) 0))
def zeros (n:Nat):List Int:=List.replicate n 0
def fillW (b:List Int):Nat→List Int
 | 0=>zeros 64
 | t + 1=>(fillW b t).set t (word b t)
def nextW (p:List Int) (t:Nat):Int :=
 iadd .u32 (iadd .u32 (iadd .u32 (ixor .u32 (ixor .u32 (rot 17 (p.getD (t - 2) 0)) (rot 19 (p.getD (t - 2) 0))) (ishr .u32 (p.getD (t - 2) 0) 10)) (p.getD (t - 7) 0))
  (ixor .u32 (ixor .u32 (rot 7 (p.getD (t - 15) 0)) (rot 18 (p.getD (t - 15) 0))) (ishr .u32 (p.getD (t - 15) 0) 3))) (p.getD (t - 16) 0)
def extW (l:List Int):Nat→List Int
 | 0=>l
 | k + 1=>(extW l k).set (16 + k) (nextW (extW l k) (16 + k))
def schedW (b:List Int):List Int:=extW (fillW b 16) 48
/-! ### The same of the reference -/
/-! ### The rounds -/
abbrev W8:=Int×Int×Int×Int×Int×Int×Int×Int
def rnd (k w:Int):W8→W8
  | (a, b, c, d, e, f, g, h) =>
    let one:=iadd .u32 (iadd .u32 (iadd .u32 (iadd .u32 h (ixor .u32 (ixor .u32 (rot 6 e) (rot 11 e)) (rot 25 e))) (ixor .u32 g (iand .u32 e (ixor .u32 f g)))) k) w
    let two:=iadd .u32 (ixor .u32 (ixor .u32 (rot 2 a) (rot 13 a)) (rot 22 a)) (ior .u32 (iand .u32 a b) (iand .u32 c (ior .u32 a b)))
    (iadd .u32 one two,a,b,c,iadd .u32 d one,e,f,g)
def rnds (K w:List Int) (s:W8):Nat→W8
 | 0=>s
 | t + 1=>rnd (K.getD t 0) (w.getD t 0) (rnds K w s t)
def K256:List Int:=[1116352408,1899447441,3049323471,3921009573,961987163,1508970993,2453635748,2870763221,3624381080,310598401,607225278,1426881987,1925078388,2162078206,2614888103,3248222580,3835390401,4022224774,264347078,604807628,770255983,1249150122,1555081692,1996064986,2554220882,2821834349,2952996808,3210313671,3336571891,3584528711,113926993,338241895,666307205,773529912,1294757372,1396182291,1695183700,1986661051,2177026350,2456956037,2730485921,2820302411,3259730800,3345764771,3516065817,3600352804,4094571909,275423344,430227734,506948616,659060556,883997877,958139571,1322822218,1537002063,1747873779,1955562222,2024104815,2227730452,2361852424,2428436474,2756734187,3204031479,3329325298]
def list8 (s:W8):List Int:=[s.1,s.2.1,s.2.2.1,s.2.2.2.1,s.2.2.2.2.1,s.2.2.2.2.2.1,s.2.2.2.2.2.2.1,s.2.2.2.2.2.2.2]

/-! ### A block -/
def of8 (l:List Int):W8:=(l.getD 0 0,l.getD 1 0,l.getD 2 0,l.getD 3 0,l.getD 4 0,l.getD 5 0,l.getD 6 0,l.getD 7 0)
def addW (l m:List Int):Nat→List Int
 | 0=>l
 | i + 1=>(addW l m i).set i (iadd .u32 (l.getD i 0) (m.getD i 0))
def comp (h b:List Int):List Int:=addW h (list8 (rnds K256 (schedW b) (of8 h) 64)) 8
end Go.Ge

/- SHA-256 in plain words: streams. -/
namespace Go.Ge
set_option linter.unusedVariables false
set_option linter.unusedSimpArgs false

def H0:List Int:=[1779033703,3144134277,1013904242,2773480762,1359893119,2600822924,528734635,1541459225]
def hsB (all:List UInt8):Nat→List Int
 | 0=>H0
 | k + 1=>comp (hsB all k) (bytesInts ((all.drop (64 * k)).take 64))
abbrev Strm:=(Bool×List Int×Unit)×List Int×Int×Unit

def Inv (st:Strm) (all:List UInt8):Prop :=
 ∃ wait,st=((decide (64≤all.length),(if 64≤all.length then hsB all (all.length / 64) else zeros 8),()),wait,(all.length:Int),())∧wait.length=64∧wait.take (all.length % 64)=bytesInts (all.drop (64 * (all.length / 64)))

theorem bytesInts_app (a b:List UInt8):bytesInts (a ++ b)=bytesInts a ++ bytesInts b:=by simp [bytesInts]
theorem bytesInts_take (a:List UInt8) (n:Nat):(bytesInts a).take n=bytesInts (a.take n):=by simp [bytesInts,List.map_take]
theorem length_bytes (a:List UInt8):(bytesInts a).length=a.length:=by simp [bytesInts]

end Go.Ge

/- SHA-256 in plain words: sums, the program's and the reference's. -/
namespace Go.Ge
set_option linter.unusedVariables false
set_option linter.unusedSimpArgs false

/-! ### What stands behind the bytes -/
def zs (n:Nat):Nat:=(119 - n % 64) % 64
/-! ### The reference -/
/-! ### The bytes of the sum -/
/-! ### The program -/
end Go.Ge

/- The laws of layer 02 in plain words. -/
namespace Go.Ge
set_option linter.unusedVariables false
set_option linter.unusedSimpArgs false

abbrev PartS:=(Bool×List UInt8×Int×Unit)×Strm×Strm×Unit

end Go.Ge

/- Bytes as hexadecimal digits, and back, in plain words. -/
namespace Go.Ge
set_option linter.unusedVariables false
set_option linter.unusedSimpArgs false

def hexT:List UInt8:=[48,49,50,51,52,53,54,55,56,57,97,98,99,100,101,102]
def hx (n:Nat):UInt8:=hexT.getD n 0
theorem idx_bytes (s:List UInt8) {k:Nat} (h:k < s.length):idx (bytesInts s) (k:Int)=some (u8 s[k]):=by
 rw [idx_nat];simp [bytesInts,u8,h]
theorem idx_str (s:List UInt8) {k:Nat} (h:k < s.length):idx s (k:Int)=some s[k]:=by
 rw [idx_nat];simp [h]
theorem len_bytes (s:List UInt8):len (bytesInts s)=(s.length:Int):=by simp [len,bytesInts]
/-! ### The reference's digits -/
end Go.Ge

/- Pairs of hexadecimal digits as bytes, in plain words. -/
namespace Go.Ge
set_option linter.unusedVariables false
set_option linter.unusedSimpArgs false

def hv (c:UInt8):Int:=Lib.indexByte hexT c
theorem u8_inj {a b:UInt8} (h:u8 a=u8 b):a=b:=by
 have:a.toNat=b.toNat:=by unfold u8 at h;omega
 exact UInt8.toNat_inj.1 this

theorem sub_tail (l:List UInt8) (k:Nat) (h:k≤l.length):sub l (k:Int) (minus (len l) (k:Int))=l.drop k:=by
 unfold sub minus len
 rw [Int.toNat_natCast,List.take_of_length_le (by rw [List.length_drop];omega)]

end Go.Ge

/- Pairs of hexadecimal digits as bytes: the reference. -/
namespace Go.Ge
set_option linter.unusedVariables false
set_option linter.unusedSimpArgs false

theorem iadd_nat {a b:Nat} (h:a + b < 4611686018427387904):iadd .i64 (a:Int) (b:Int)=((a + b:Nat):Int):=by
 rw [iadd_i64 (by omega) (by omega)];omega

end Go.Ge

/- Digests in plain words. -/
namespace Go.Ge
set_option linter.unusedVariables false
set_option linter.unusedSimpArgs false

theorem sub_head (l:List UInt8) (k:Nat):sub l 0 (minus (k:Int) 0)=l.take k:=by
 unfold sub minus
 rw [show ((0:Int).toNat)=0 from rfl,List.drop_zero,Int.sub_zero,Int.toNat_natCast]

end Go.Ge

/- Octal digits in plain words. -/
namespace Go.Ge
set_option linter.unusedVariables false
set_option linter.unusedSimpArgs false

def octD (n k:Nat):UInt8:=UInt8.ofNat (48 + n / 8 ^ k % 8)
def octF (n:Nat):Nat→List UInt8
 | 0=>[]
 | k + 1=>octD n k :: octF n k
end Go.Ge

/- Texts without what stands at their ends, and the number of octal digits, in plain words. -/
namespace Go.Ge
set_option linter.unusedVariables false
set_option linter.unusedSimpArgs false
set_option maxRecDepth 100000

/-! ### What stands at the end is let go -/
def rtrim (p:UInt8→Bool) (s:List UInt8):List UInt8:=(s.reverse.dropWhile p).reverse
theorem rtrim_snoc_yes {p:UInt8→Bool} (s:List UInt8) {x:UInt8} (h:p x=true):rtrim p (s ++ [x])=rtrim p s:=by
 simp [rtrim,List.dropWhile_cons,h]
theorem rtrim_snoc_no {p:UInt8→Bool} (s:List UInt8) {x:UInt8} (h:p x=false):rtrim p (s ++ [x])=s ++ [x]:=by
 simp [rtrim,List.dropWhile_cons,h]
theorem rtrim_all {p:UInt8→Bool}:∀ (z s:List UInt8),(∀ x ∈ z,p x=true)→rtrim p (s ++ z)=rtrim p s:=by
  intro z
  induction z with
  | nil=>intro s _;rw [List.append_nil]
  | cons x r ih =>
    intro s h
    rw [show s ++ x :: r=(s ++ [x]) ++ r by simp,ih (s ++ [x]) (fun y hy=>h y (List.mem_cons_of_mem _ hy)),rtrim_snoc_yes s (h x (List.mem_cons_self ..))]
theorem rtrim_id {p:UInt8→Bool} {s:List UInt8} (h:∀ x,s.getLast? = some x→p x=false):rtrim p s=s:=by
 rcases List.eq_nil_or_concat s with rfl | ⟨r,x,rfl⟩
 ·rfl
 ·have:=h x (by simp)
  rw [List.concat_eq_append]
  exact rtrim_snoc_no r this

theorem last_idx (r:List UInt8) (x:UInt8) (hr:r.length≤1048576):isub .i64 (len (r ++ [x])) 1=(r.length:Int)∧idx (r ++ [x]) (r.length:Int)=some x:=by
 constructor
 ·have:len (r ++ [x])=((r.length + 1:Nat):Int):=by simp [len]
  rw [this,isub_i64 (by omega) (by omega)]
  omega
 ·rw [idx_nat];simp

theorem trimByte_loop (c:Int):∀ (n:Nat) (s:List UInt8),s.length≤n→s.length≤1048576→∀ q:List UInt8,Loop (P_strings_trimRightByte_L0 (q,(c,()))) ((s,()),())=some ((rtrim (fun x=>eqI (u8 x) c) s,()),()):=by
  intro n
  induction n with
  | zero =>
    intro s h _ q
    obtain rfl:s=[]:=List.length_eq_zero_iff.1 (by omega)
    rw [Loop_eq]
    rfl
  | succ n ih =>
    intro s h hb q
    rcases List.eq_nil_or_concat s with rfl | ⟨r,x,rfl⟩
    · rw [Loop_eq];rfl
    · rw [List.concat_eq_append] at h hb ⊢
      rw [List.length_append] at h hb
      simp only [List.length_cons,List.length_nil] at h hb
      obtain ⟨e1,e2⟩:=last_idx r x (by omega)
      rw [Loop_eq]
      have e0:P_strings_trimRightByte_L0 (q,(c,())) ((r ++ [x],()),())=if eqI (u8 x) c=true then some (.inl ((r,()),())) else some (.inr ((r ++ [x],()),())):=by
        unfold P_strings_trimRightByte_L0
        dsimp only
        rw [ltI_true (by simp only [len,List.length_append,List.length_cons,List.length_nil];omega),sel_true,e1,e2,obind_some,obind_some]
        cases hx:eqI (u8 x) c with
        | true =>
          rw [sel_true,inside_true (by omega) (by omega) (by simp only [len,List.length_append];omega),sel_true,way1_inl,show sub (r ++ [x]) 0 (minus (r.length:Int) 0)=r from by rw [sub_head];simp,if_pos rfl]
        | false=>rw [sel_false,way1_inr,if_neg (by simp)]
      rw [e0]
      cases hx:eqI (u8 x) c with
      | true =>
        rw [if_pos rfl,rtrim_snoc_yes r (p:=fun x=>eqI (u8 x) c) hx]
        exact ih r (by omega) (by omega) q
      | false =>
        rw [if_neg (by simp),rtrim_snoc_no r (p:=fun x=>eqI (u8 x) c) hx]
        rfl

theorem trimRightByte_val (s:List UInt8) (c:Int) (hs:s.length≤1048576):P_strings_trimRightByte (s,(c,()))=some (rtrim (fun x=>eqI (u8 x) c) s,()):=by
 unfold P_strings_trimRightByte
 rw [trimByte_loop c s.length s (Nat.le_refl _) hs s,obind_some]

def isNul (x:UInt8):Bool:=eqI (u8 x) 0
theorem isNul_iff (x:UInt8):isNul x=true ↔ x=0:=by
 unfold isNul eqI
 rw [decide_eq_true_iff]
 constructor
 ·intro h
  exact u8_inj (a:=x) (b:=0) h
 ·rintro rfl;rfl

theorem trimRight_nul (s:List UInt8) (hs:s.length≤1048576):P_strings_TrimRight (s,([0],()))=some (rtrim isNul s,()):=by
 unfold P_strings_TrimRight
 dsimp only
 by_cases h:s=[]
 ·subst h
  rfl
 ·rw [show eqS s []=false from decide_eq_false h,nt_false,sel_true,show eqS [0] []=false from rfl,sel_false,show eqI (len ([0]:List UInt8)) 1=true from rfl,sel_true,show idx ([0]:List UInt8) 0=some 0 from rfl,obind_some,obind_some,show ltI (u8 0) 128=true from rfl,sel_true,obind_some,
   trimRightByte_val s _ hs,obind_some]
  rfl

/-! ### Both noughts and blanks -/
def setNB:List Bool:=((List.replicate 256 false).set 0 true).set 32 true
def isNB (x:UInt8):Bool:=setNB.getD x.toNat false
theorem length_setNB:setNB.length=256:=by simp only [setNB,List.length_set,List.length_replicate]
theorem isNB_T:∀ n:Fin 256,setNB.getD n.val false=(decide (n.val=0) || decide (n.val=32)):=by decide +kernel
theorem isNB_iff (x:UInt8):isNB x=true ↔ x=0∨x=32:=by
 unfold isNB
 rw [isNB_T ⟨x.toNat,x.toNat_lt⟩]
 simp only [Bool.or_eq_true,decide_eq_true_iff]
 constructor
 ·rintro (h | h)
  ·exact .inl (UInt8.toNat_inj.1 h)
  ·exact .inr (UInt8.toNat_inj.1 h)
 ·rintro (rfl | rfl)
  ·exact .inl rfl
  ·exact .inr rfl

theorem contains_val (x:UInt8):P_strings_asciiSet_contains ((u8 x,()),(setNB,()))=some ((isNB x,()),(setNB,())):=by
 unfold P_strings_asciiSet_contains
 have hx:=x.toNat_lt
 have e:u8 x=(x.toNat:Int):=rfl
 dsimp only
 rw [e,within_true (by omega) (by omega),sel_true,idx_getD setNB false (i:=x.toNat) (by show _ < setNB.length;rw [length_setNB];omega),obind_some]
 rfl

theorem makeSet_val:P_strings_makeASCIISet ([0,32],())=some (setNB,(true,())):=by
 unfold P_strings_makeASCIISet
 have key:Loop (P_strings_makeASCIISet_L0 ([0,32],())) ((false,(0,())),(List.replicate 256 false,()))=some (0,((false,(2,())),(setNB,()))):=by
  rw [Loop_eq,show P_strings_makeASCIISet_L0 ([0,32],()) ((false,(0,())),(List.replicate 256 false,()))=some (.inl ((false,(1,())),((List.replicate 256 false).set 0 true,()))) from rfl]
  show Loop (P_strings_makeASCIISet_L0 ([0,32],())) ((false,(1,())),((List.replicate 256 false).set 0 true,()))=_
  rw [Loop_eq,show P_strings_makeASCIISet_L0 ([0,32],()) ((false,(1,())),((List.replicate 256 false).set 0 true,()))=some (.inl ((false,(2,())),(setNB,()))) from rfl]
  show Loop (P_strings_makeASCIISet_L0 ([0,32],())) ((false,(2,())),(setNB,()))=_
  rw [Loop_eq]
  rfl
 exact (congrArg (obind · _) key).trans rfl

theorem trimNB_loop:∀ (n:Nat) (s:List UInt8),s.length≤n→s.length≤1048576→Loop P_strings_trimRightASCII_L0 ((s,()),(setNB,()))=some ((rtrim isNB s,()),(setNB,())):=by
  intro n
  induction n with
  | zero =>
    intro s h _
    obtain rfl:s=[]:=List.length_eq_zero_iff.1 (by omega)
    rw [Loop_eq]
    rfl
  | succ n ih =>
    intro s h hb
    rcases List.eq_nil_or_concat s with rfl | ⟨r,x,rfl⟩
    · rw [Loop_eq];rfl
    · rw [List.concat_eq_append] at h hb ⊢
      rw [List.length_append] at h hb
      simp only [List.length_cons,List.length_nil] at h hb
      obtain ⟨e1,e2⟩:=last_idx r x (by omega)
      rw [Loop_eq]
      have e0:P_strings_trimRightASCII_L0 ((r ++ [x],()),(setNB,()))=if isNB x=true then some (.inl ((r,()),(setNB,()))) else some (.inr ((r ++ [x],()),(setNB,()))):=by
        unfold P_strings_trimRightASCII_L0
        dsimp only
        rw [ltI_true (by simp only [len,List.length_append,List.length_cons,List.length_nil];omega),sel_true,e1,e2,obind_some,contains_val,obind_some]
        dsimp only
        cases hx:isNB x with
        | true =>
          rw [nt_true,sel_false,inside_true (by omega) (by omega) (by simp only [len,List.length_append];omega),sel_true,way1_inl,show sub (r ++ [x]) 0 (minus (r.length:Int) 0)=r from by rw [sub_head];simp,if_pos rfl]
        | false=>rw [nt_false,sel_true,way1_inr,if_neg (by simp)]
      rw [e0]
      cases hx:isNB x with
      | true =>
        rw [if_pos rfl,rtrim_snoc_yes r hx]
        exact ih r (by omega) (by omega)
      | false =>
        rw [if_neg (by simp),rtrim_snoc_no r hx]
        rfl

theorem trimRight_nb (s:List UInt8) (hs:s.length≤1048576):P_strings_TrimRight (s,([0,32],()))=some (rtrim isNB s,()):=by
 unfold P_strings_TrimRight
 dsimp only
 by_cases h:s=[]
 ·subst h
  rfl
 ·rw [show eqS s []=false from decide_eq_false h,nt_false,sel_true,show eqS [0,32] []=false from rfl,sel_false,show eqI (len ([0,32]:List UInt8)) 1=false from rfl,sel_false,obind_some,sel_false,makeSet_val,obind_some]
  dsimp only
  rw [sel_true]
  unfold P_strings_trimRightASCII
  dsimp only
  rw [trimNB_loop s.length s (Nat.le_refl _) hs]
  rfl

/-! ### The left end -/
theorem trimLeft_loop (c:Int):∀ (n:Nat) (s:List UInt8),s.length≤n→∀ q:List UInt8,Loop (P_strings_trimLeftByte_L0 (q,(c,()))) ((s,()),())=some ((s.dropWhile (fun x=>eqI (u8 x) c),()),()):=by
  intro n
  induction n with
  | zero =>
    intro s h q
    obtain rfl:s=[]:=List.length_eq_zero_iff.1 (by omega)
    rw [Loop_eq]
    rfl
  | succ n ih =>
    intro s h q
    cases s with
    | nil=>rw [Loop_eq];rfl
    | cons x r =>
      simp only [List.length_cons] at h
      rw [Loop_eq]
      have e0:P_strings_trimLeftByte_L0 (q,(c,())) ((x :: r,()),())=if eqI (u8 x) c=true then some (.inl ((r,()),())) else some (.inr ((x :: r,()),())):=by
        unfold P_strings_trimLeftByte_L0
        dsimp only
        rw [ltI_true (by simp only [len,List.length_cons];omega),sel_true,show idx (x :: r) 0=some x from rfl,obind_some,obind_some]
        cases hx:eqI (u8 x) c with
        | true =>
          rw [sel_true,inside_true (by decide) (by simp only [len,List.length_cons];omega) (Int.le_refl _),sel_true,way1_inl,show sub (x :: r) 1 (minus (len (x :: r)) 1)=r from sub_tail (x :: r) 1 (by simp),if_pos rfl]
        | false=>rw [sel_false,way1_inr,if_neg (by simp)]
      rw [e0,List.dropWhile_cons]
      cases hx:eqI (u8 x) c with
      | true =>
        rw [if_pos rfl,if_pos rfl]
        exact ih r (by omega) q
      | false =>
        rw [if_neg (by simp),if_neg (by simp)]
        rfl

theorem trimLeftByte_val (s:List UInt8) (c:Int):P_strings_trimLeftByte (s,(c,()))=some (s.dropWhile (fun x=>eqI (u8 x) c),()):=by
 unfold P_strings_trimLeftByte
 rw [trimLeft_loop c s.length s (Nat.le_refl _) s,obind_some]

theorem mem_while {p:UInt8→Bool} {l:List UInt8} {x:UInt8} (h:x ∈ l.takeWhile p):p x=true:=List.all_eq_true.1 List.all_takeWhile x h

theorem trim_nul (s:List UInt8) (hs:s.length≤1048576):P_strings_Trim (s,([0],()))=some ((rtrim isNul s).dropWhile isNul,()):=by
 unfold P_strings_Trim
 dsimp only
 by_cases h:s=[]
 ·subst h
  rfl
 ·rw [show eqS s []=false from decide_eq_false h,nt_false,sel_true,show eqS [0] []=false from rfl,sel_false,show eqI (len ([0]:List UInt8)) 1=true from rfl,sel_true,show idx ([0]:List UInt8) 0=some 0 from rfl,obind_some,obind_some,show ltI (u8 0) 128=true from rfl,sel_true,obind_some,
   trimRightByte_val s _ hs,obind_some,obind_some,trimLeftByte_val,obind_some]
  rfl

theorem trim_empty (s:List UInt8):(rtrim isNul s).dropWhile isNul=[] ↔ ∀ x ∈ s,x=0:=by
 constructor
 ·intro h
  have h1:∀ x ∈ rtrim isNul s,isNul x=true:=by
   intro x hx
   have:=List.takeWhile_append_dropWhile (p:=isNul) (l:=rtrim isNul s)
   rw [h,List.append_nil] at this
   rw [← this] at hx
   exact mem_while hx
  -- the trimmed text ends in no nought,so it is empty
  have h2:rtrim isNul s=[]:=by
   rcases List.eq_nil_or_concat (rtrim isNul s) with h2 | ⟨r,x,h2⟩
   ·exact h2
   ·exfalso
    have hx:=h1 x (by rw [h2];simp)
    unfold rtrim at h2
    have h3:(s.reverse.dropWhile isNul)=x :: r.reverse:=by
     have:=congrArg List.reverse h2
     simpa using this
    have:=List.head?_dropWhile_not isNul s.reverse
    rw [h3] at this
    simp [hx] at this
  intro x hx
  have h3:s.reverse.dropWhile isNul=[]:=by
   have:=congrArg List.reverse h2
   simpa [rtrim] using this
  have:=List.takeWhile_append_dropWhile (p:=isNul) (l:=s.reverse)
  rw [h3,List.append_nil] at this
  have hm:x ∈ s.reverse:=List.mem_reverse.2 hx
  rw [← this] at hm
  exact (isNul_iff x).1 (mem_while hm)
 ·intro h
  have:rtrim isNul s=[]:=by
   have:=rtrim_all (p:=isNul) s [] (fun x hx=>(isNul_iff x).2 (h x hx))
   rw [List.nil_append] at this
   exact this
  rw [this]
  rfl

theorem zero_val (b:List UInt8) (hb:b.length≤1048576):P_header_Zero (b,())=some (decide (b.length=512∧∀ x ∈ b,x=0),()):=by
 unfold P_header_Zero
 dsimp only
 by_cases h:b.length=512
 ·rw [eqI_true (by simp only [len];omega),sel_true,trim_nul b hb,obind_some,obind_some]
  congr 2
  unfold eqS
  dsimp only
  by_cases h2:∀ x ∈ b,x=0
  ·rw [decide_eq_true ((trim_empty b).2 h2),decide_eq_true ⟨h,h2⟩]
  ·rw [decide_eq_false (fun e=>h2 ((trim_empty b).1 e)),decide_eq_false (fun e=>h2 e.2)]
 ·rw [eqI_false (by simp only [len];omega),sel_false,obind_some,decide_eq_false (fun e=>h e.1)]
end Go.Ge

/- Headers: which ones may be; numbers and texts of fields, in plain words. -/
namespace Go.Ge
set_option linter.unusedVariables false
set_option linter.unusedSimpArgs false

theorem sub48:∀ d:Fin 8,icv .i64 (isub .u8 ((48 + d.val:Nat):Int) 48)=(d.val:Int):=by decide +kernel
theorem ior8 {v d:Nat} (hd:d < 8) (hv:8 * v + d < 9223372036854775808):ior .i64 (ishl .i64 (v:Int) 3) (icv .i64 (isub .u8 ((48 + d:Nat):Int) 48))=((8 * v + d:Nat):Int):=by
 rw [sub48 ⟨d,hd⟩]
 have e1:ishl .i64 (v:Int) 3=((8 * v:Nat):Int):=by
  unfold ishl
  rw [show min (Int.toNat 3) IntKind.i64.bits=3 from rfl,show (v:Int) * 2 ^ 3=((8 * v:Nat):Int) by omega]
  exact icv_i64 (by omega) (by omega)
 rw [e1]
 unfold ior
 have e:(BitVec.ofInt IntKind.i64.bits ((8 * v:Nat):Int) ||| BitVec.ofInt IntKind.i64.bits (d:Int)).toNat=8 * v + d:=by
  rw [BitVec.toNat_or]
  have h1:(BitVec.ofInt IntKind.i64.bits ((8 * v:Nat):Int)).toNat=2 ^ 3 * v:=by
   rw [BitVec.toNat_ofInt,show (IntKind.i64.bits)=64 from rfl]
   omega
  have h2:(BitVec.ofInt IntKind.i64.bits (d:Int)).toNat=d:=by
   rw [BitVec.toNat_ofInt,show (IntKind.i64.bits)=64 from rfl]
   omega
  rw [h1,h2,← Nat.two_pow_add_eq_or_of_lt hd]
 rw [e]
 exact icv_i64 (by omega) (by omega)

/-! ### Texts without noughts -/
def noNul (s:List UInt8):Prop:=∀ x ∈ s,x ≠ 0
instance (s:List UInt8):Decidable (noNul s):=inferInstanceAs (Decidable (∀ x ∈ s,x ≠ 0))

theorem index_nul:∀ s:List UInt8,decide (Lib.indexByte s 0 < 0)=decide (noNul s):=by
  intro s
  induction s with
  | nil=>rfl
  | cons b r ih =>
    unfold Lib.indexByte
    by_cases hb:b=0
    · subst hb
      rw [if_pos (by rfl),decide_eq_false (by decide),decide_eq_false (fun h=>h 0 (List.mem_cons_self ..) rfl)]
    · rw [if_neg (by simpa using hb)]
      by_cases hr:noNul r
      · rw [decide_eq_true hr] at ih
        have h1:Lib.indexByte r 0 < 0:=of_decide_eq_true ih
        have h2:=(indexByte_range 0 r).1
        have h3:Lib.indexByte r 0 = -1:=by omega
        rw [h3,if_pos (by rfl),decide_eq_true (by decide),decide_eq_true]
        intro x hx
        rcases List.mem_cons.1 hx with rfl | hx
        · exact hb
        · exact hr x hx
      · rw [decide_eq_false hr] at ih
        have h1:¬ Lib.indexByte r 0 < 0:=of_decide_eq_false ih
        rw [if_neg (by simp only [beq_iff_eq];omega),decide_eq_false (by omega),decide_eq_false]
        intro h
        exact hr fun x hx=>h x (List.mem_cons_of_mem _ hx)

theorem indexNul_val (s:List UInt8):P_strings_IndexByte (s,(0,()))=some (Lib.indexByte s 0,()):=rfl

theorem text_val (s:List UInt8) (hs:s.length≤1048576):P_header_text (s,())=some (rtrim isNul s,(decide (noNul (rtrim isNul s)),())):=by
 unfold P_header_text
 dsimp only
 rw [trimRight_nul s hs,obind_some]
 dsimp only
 rw [indexNul_val,obind_some]
 unfold ltI
 dsimp only
 rw [index_nul]

/-! ### Which headers may be -/
abbrev Hd:=List UInt8×Int×Int×Int×Int×Int×Int×List UInt8×Unit
def clr (s:List UInt8) (most:Int):Prop:=s ≠ []∧(s.length:Int)≤most∧noNul s
instance (s:List UInt8) (most:Int):Decidable (clr s most):=inferInstanceAs (Decidable (_∧_∧_))
def inN (n b:Int):Prop:=0≤n∧n < b
instance (n b:Int):Decidable (inN n b):=inferInstanceAs (Decidable (_∧_))
def kindOk (h:Hd):Prop:=(h.2.1=1∧h.2.2.2.2.2.2.2.1=[])∨(h.2.1=2∧h.2.2.2.2.2.2.2.1=[]∧h.2.2.2.2.2.1=0)∨(h.2.1=3∧clr h.2.2.2.2.2.2.2.1 100∧h.2.2.2.2.2.1=0)
instance (h:Hd):Decidable (kindOk h):=inferInstanceAs (Decidable (_∨_∨_))
def okHd (h:Hd) (most:Int):Prop:=inN h.2.2.1 2097152∧inN h.2.2.2.1 2097152∧inN h.2.2.2.2.1 2097152∧inN h.2.2.2.2.2.1 8589934592∧inN h.2.2.2.2.2.2.1 8589934592∧clr h.1 most∧kindOk h
instance (h:Hd) (most:Int):Decidable (okHd h most):=inferInstanceAs (Decidable (_∧_∧_∧_∧_∧_∧_))

theorem in_val (n b:Int):P_header_in (n,(b,()))=some (decide (inN n b),()):=by
 unfold P_header_in
 dsimp only
 by_cases h:0≤n
 ·rw [leI_true h,sel_true]
  unfold ltI inN
  congr 2
  simp [h]
 ·rw [leI_false (by omega),sel_false,decide_eq_false (fun e=>h e.1)]
theorem clear_val (s:List UInt8) (m:Int):P_header_clear (s,(m,()))=some (decide (clr s m),()):=by
 unfold P_header_clear
 dsimp only
 by_cases h:s=[]
 ·subst h
  rw [show eqS [] []=true from rfl,nt_true,sel_false,sel_false,obind_some,decide_eq_false (fun e=>e.1 rfl)]
 ·rw [show eqS s []=false from decide_eq_false h,nt_false,sel_true]
  by_cases h2:(s.length:Int)≤m
  ·rw [leI_true (by simp only [len];exact h2),sel_true,indexNul_val,obind_some,obind_some]
   unfold ltI
   dsimp only
   rw [index_nul]
   congr 2
   unfold clr
   simp [h,h2]
  ·rw [leI_false (by simp only [len];omega),sel_false,obind_some,decide_eq_false (fun e=>h2 e.2.1)]

theorem is_val12 (h:Hd) (m:Int):P_header_is (h,(m,()))=some (decide (okHd h m),()):=by
  unfold P_header_is
  dsimp only
  by_cases h1:inN h.2.2.1 2097152
  case neg=>rw [in_val,obind_some,decide_eq_false h1,sel_false,obind_some,sel_false,obind_some,sel_false,obind_some,sel_false,obind_some,nt_false,nt_true,sel_false,obind_some,sel_true,decide_eq_false (fun e=>h1 e.1)]
  rw [in_val,obind_some,decide_eq_true h1,sel_true,in_val,obind_some,obind_some]
  by_cases h2:inN h.2.2.2.1 2097152
  case neg=>rw [decide_eq_false h2,sel_false,obind_some,sel_false,obind_some,sel_false,obind_some,nt_false,nt_true,sel_false,obind_some,sel_true,decide_eq_false (fun e=>h2 e.2.1)]
  rw [decide_eq_true h2,sel_true,in_val,obind_some,obind_some]
  by_cases h3:inN h.2.2.2.2.1 2097152
  case neg=>rw [decide_eq_false h3,sel_false,obind_some,sel_false,obind_some,nt_false,nt_true,sel_false,obind_some,sel_true,decide_eq_false (fun e=>h3 e.2.2.1)]
  rw [decide_eq_true h3,sel_true,in_val,obind_some,obind_some]
  by_cases h4:inN h.2.2.2.2.2.1 8589934592
  case neg=>rw [decide_eq_false h4,sel_false,obind_some,nt_false,nt_true,sel_false,obind_some,sel_true,decide_eq_false (fun e=>h4 e.2.2.2.1)]
  rw [decide_eq_true h4,sel_true,in_val,obind_some,obind_some]
  by_cases h5:inN h.2.2.2.2.2.2.1 8589934592
  case neg=>rw [decide_eq_false h5,nt_false,nt_true,sel_false,obind_some,sel_true,decide_eq_false (fun e=>h5 e.2.2.2.2.1)]
  rw [decide_eq_true h5,nt_true,nt_false,sel_true,clear_val,obind_some,obind_some]
  by_cases h6:clr h.1 m
  case neg=>rw [decide_eq_false h6,nt_false,sel_true,decide_eq_false (fun e=>h6 e.2.2.2.2.2.1)]
  rw [decide_eq_true h6,nt_true,sel_false]
  have hk:decide (okHd h m)=decide (kindOk h):=decide_eq_decide.2 ⟨fun e=>e.2.2.2.2.2.2,fun e=>⟨h1,h2,h3,h4,h5,h6,e⟩⟩
  rw [hk]
  by_cases k1:h.2.1=1
  · rw [k1,eqI_self,sel_true]
    unfold eqS
    rw [show decide (h.2.2.2.2.2.2.2.1=[])=decide (kindOk h) from decide_eq_decide.2 (by unfold kindOk;simp [k1])]
  · rw [eqI_false k1, sel_false]
    by_cases k2:h.2.1=2
    · rw [k2,eqI_self,sel_true]
      unfold eqS eqI
      by_cases kl:h.2.2.2.2.2.2.2.1=[]
      · rw [decide_eq_true kl,sel_true,show decide (h.2.2.2.2.2.1=0)=decide (kindOk h) from decide_eq_decide.2 (by unfold kindOk;simp [k2,kl])]
      · rw [decide_eq_false kl,sel_false,show decide (kindOk h)=false from decide_eq_false (by unfold kindOk;simp [k2,kl])]
    · rw [eqI_false k2,sel_false]
      by_cases k3:h.2.1=3
      · rw [k3,eqI_self,sel_true,clear_val,obind_some]
        dsimp only
        unfold eqI
        by_cases kl:clr h.2.2.2.2.2.2.2.1 100
        · rw [decide_eq_true kl,sel_true,show decide (h.2.2.2.2.2.1=0)=decide (kindOk h) from decide_eq_decide.2 (by unfold kindOk;simp [k3,kl])]
        · rw [decide_eq_false kl,sel_false,show decide (kindOk h)=false from decide_eq_false (by unfold kindOk;simp [k3,kl])]
      · rw [eqI_false k3,sel_false,show decide (kindOk h)=false from decide_eq_false (by unfold kindOk;simp [k1,k2,k3])]
end Go.Ge

/- The reference's headers that may be; what a block is summed up to. -/
namespace Go.Ge
set_option linter.unusedVariables false
set_option linter.unusedSimpArgs false

theorem refClear_loop (s:List UInt8) (hs:s.length≤1048576) (m:Int):∀ (n i:Nat),s.length - i≤n→i≤s.length→∃ q,Loop (P_ref12_clear_L0 (s,(m,()))) ((false,((i:Int),())),())=some q∧(if noNul (s.drop i) then q.1=0 else q.1=1∧q.2.1.1=false):=by
  intro n
  induction n with
  | zero =>
    intro i h hi
    have:i=s.length:=by omega
    subst this
    rw [Loop_eq]
    refine ⟨(0,((false,((s.length:Int),())),())),?_,?_⟩
    · unfold P_ref12_clear_L0
      dsimp only
      rw [ltI_false (by simp only [len];omega),sel_false]
      rfl
    · rw [List.drop_length,if_pos (by intro x hx;cases hx)]
  | succ n ih =>
    intro i h hi
    rw [Loop_eq]
    by_cases hlt:i < s.length
    · have hd:s.drop i=s[i] :: s.drop (i + 1):=List.drop_eq_getElem_cons hlt
      have e0:P_ref12_clear_L0 (s,(m,())) ((false,((i:Int),())),())=if s[i]=0 then some (.inr (1,((false,((i:Int),())),()))) else some (.inl ((false,(((i + 1:Nat):Int),())),())):=by
        unfold P_ref12_clear_L0
        dsimp only
        rw [ltI_true (by simp only [len];omega),sel_true,idx_str s hlt,obind_some]
        by_cases hz:s[i]=0
        · rw [hz,show eqI (u8 0) 0=true from rfl,sel_true,if_pos rfl]
        · rw [show eqI (u8 s[i]) 0=false from eqI_false (fun e=>hz (u8_inj (b:=0) e)),sel_false,if_neg hz,iadd_one (by omega)]
      rw [e0]
      by_cases hz:s[i]=0
      · rw [if_pos hz]
        refine ⟨_,rfl,?_⟩
        rw [if_neg (fun hn=>hn s[i] (by rw [hd];exact List.mem_cons_self ..) hz)]
        exact ⟨rfl,rfl⟩
      · rw [if_neg hz]
        obtain ⟨q,q1,q2⟩:=ih (i + 1) (by omega) (by omega)
        refine ⟨q,q1,?_⟩
        have e:noNul (s.drop i) ↔ noNul (s.drop (i + 1)):=by
          rw [hd]
          constructor
          · intro h x hx;exact h x (List.mem_cons_of_mem _ hx)
          · intro h x hx
            rcases List.mem_cons.1 hx with rfl | hx
            · exact hz
            · exact h x hx
        by_cases hn:noNul (s.drop (i + 1))
        · rw [if_pos hn] at q2;rw [if_pos (e.2 hn)];exact q2
        · rw [if_neg hn] at q2;rw [if_neg (fun k=>hn (e.1 k))];exact q2
    · have:i=s.length:=by omega
      subst this
      refine ⟨(0,((false,((s.length:Int),())),())),?_,?_⟩
      · unfold P_ref12_clear_L0
        dsimp only
        rw [ltI_false (by simp only [len];omega),sel_false]
        rfl
      · rw [List.drop_length,if_pos (by intro x hx;cases hx)]

theorem refClear_val (s:List UInt8) (hs:s.length≤1048576) (m:Int):P_ref12_clear (s,(m,()))=some (decide (clr s m),()):=by
 unfold P_ref12_clear
 dsimp only
 obtain ⟨q,q1,q2⟩:=refClear_loop s hs m s.length 0 (by omega) (by omega)
 rw [show Loop (P_ref12_clear_L0 (s,(m,()))) ((false,(0,())),())=some q from q1,obind_some]
 rw [List.drop_zero] at q2
 by_cases hn:noNul s
 ·rw [if_pos hn] at q2
  rw [q2,show eqN 0 0=true from rfl,sel_true]
  by_cases h:s=[]
  ·subst h
   rw [leI_false (by decide),sel_false,decide_eq_false (fun e=>e.1 rfl)]
  ·have:=List.length_pos_iff.2 h
   rw [leI_true (by simp only [len];omega),sel_true]
   unfold leI
   rw [show decide (len s≤m)=decide (clr s m) from decide_eq_decide.2 ⟨fun e=>⟨h,e,hn⟩,fun e=>e.2.1⟩]
 ·rw [if_neg hn] at q2
  rw [q2.1,show eqN 1 0=false from rfl,sel_false,q2.2,decide_eq_false (fun e=>hn e.2.2)]

theorem refIn_val (n b:Int):P_ref12_in (n,(b,()))=some (decide (inN n b),()):=in_val n b

theorem may_val (h:Hd) (m:Int) (h1:h.1.length≤1048576) (h2:h.2.2.2.2.2.2.2.1.length≤1048576):P_ref12_may (h,(m,()))=some (decide (okHd h m),()):=by
 unfold P_ref12_may
 dsimp only
 have hlink:(sel (eqI h.2.1 3) (obind (P_ref12_clear (h.2.2.2.2.2.2.2.1,(100,()))) fun y1=>some ((y1.1,()),())) (some ((eqS h.2.2.2.2.2.2.2.1 [],()),()))) =
   some ((decide ((h.2.1=3∧clr h.2.2.2.2.2.2.2.1 100)∨(h.2.1 ≠ 3∧h.2.2.2.2.2.2.2.1=[])),()),()):=by
  by_cases k3:h.2.1=3
  ·rw [k3,eqI_self,sel_true,refClear_val _ h2,obind_some]
   rw [show decide (clr h.2.2.2.2.2.2.2.1 100)=decide (((3:Int)=3∧clr h.2.2.2.2.2.2.2.1 100)∨((3:Int) ≠ 3∧h.2.2.2.2.2.2.2.1=[])) from decide_eq_decide.2 (by simp)]
  ·rw [eqI_false k3,sel_false]
   unfold eqS
   rw [show decide (h.2.2.2.2.2.2.2.1=[])=decide ((h.2.1=3∧clr h.2.2.2.2.2.2.2.1 100)∨(h.2.1 ≠ 3∧h.2.2.2.2.2.2.2.1=[])) from decide_eq_decide.2 (by simp [k3])]
 rw [hlink,obind_some,refClear_val _ h1,obind_some]
 dsimp only
 have hno:∀ {p:Prop} [Decidable p],¬ p→decide p=false:=fun {p} _ h=>decide_eq_false h
 by_cases h6:clr h.1 m
 case neg=>rw [decide_eq_false h6,sel_false,sel_false,sel_false,obind_some,sel_false,obind_some,sel_false,obind_some,sel_false,obind_some,sel_false,obind_some,sel_false,sel_false,decide_eq_false (fun e=>h6 e.2.2.2.2.2.1)]
 rw [decide_eq_true h6,sel_true]
 have hkk:okHd h m→1≤h.2.1∧h.2.1≤3:=fun e=>by
  rcases e.2.2.2.2.2.2 with k | k | k <;> omega
 by_cases k1:1≤h.2.1
 case neg=>rw [leI_false (by omega),sel_false,sel_false,obind_some,sel_false,obind_some,sel_false,obind_some,sel_false,obind_some,sel_false,obind_some,sel_false,sel_false,decide_eq_false (fun e=>k1 (hkk e).1)]
 rw [leI_true k1,sel_true]
 by_cases k2:h.2.1≤3
 case neg=>rw [leI_false (by omega),sel_false,obind_some,sel_false,obind_some,sel_false,obind_some,sel_false,obind_some,sel_false,obind_some,sel_false,sel_false,decide_eq_false (fun e=>k2 (hkk e).2)]
 rw [leI_true k2,sel_true,refIn_val,obind_some,obind_some]
 by_cases n1:inN h.2.2.1 2097152
 case neg=>rw [decide_eq_false n1,sel_false,obind_some,sel_false,obind_some,sel_false,obind_some,sel_false,obind_some,sel_false,sel_false,decide_eq_false (fun e=>n1 e.1)]
 rw [decide_eq_true n1,sel_true,refIn_val,obind_some,obind_some]
 by_cases n2:inN h.2.2.2.1 2097152
 case neg=>rw [decide_eq_false n2,sel_false,obind_some,sel_false,obind_some,sel_false,obind_some,sel_false,sel_false,decide_eq_false (fun e=>n2 e.2.1)]
 rw [decide_eq_true n2,sel_true,refIn_val,obind_some,obind_some]
 by_cases n3:inN h.2.2.2.2.1 2097152
 case neg=>rw [decide_eq_false n3,sel_false,obind_some,sel_false,obind_some,sel_false,sel_false,decide_eq_false (fun e=>n3 e.2.2.1)]
 rw [decide_eq_true n3,sel_true,refIn_val,obind_some,obind_some]
 by_cases n4:inN h.2.2.2.2.2.1 8589934592
 case neg=>rw [decide_eq_false n4,sel_false,obind_some,sel_false,sel_false,decide_eq_false (fun e=>n4 e.2.2.2.1)]
 rw [decide_eq_true n4,sel_true,refIn_val,obind_some,obind_some]
 by_cases n5:inN h.2.2.2.2.2.2.1 8589934592
 case neg=>rw [decide_eq_false n5,sel_false,sel_false,decide_eq_false (fun e=>n5 e.2.2.2.2.1)]
 rw [decide_eq_true n5,sel_true]
 have hk:decide (okHd h m)=decide (kindOk h):=decide_eq_decide.2 ⟨fun e=>e.2.2.2.2.2.2,fun e=>⟨n1,n2,n3,n4,n5,h6,e⟩⟩
 rw [hk]
 have hk3:h.2.1=1∨h.2.1=2∨h.2.1=3:=by omega
 by_cases hz:h.2.2.2.2.2.1=0
 ·rw [eqI_true hz,nt_true,sel_false,sel_true]
  rw [show decide ((h.2.1=3∧clr h.2.2.2.2.2.2.2.1 100)∨(h.2.1 ≠ 3∧h.2.2.2.2.2.2.2.1=[]))=decide (kindOk h) from decide_eq_decide.2 (by
   unfold kindOk
   rcases hk3 with k | k | k <;> simp [k,hz])]
 ·rw [eqI_false hz,nt_false,sel_true]
  by_cases ko:h.2.1=1
  ·rw [eqI_true ko,sel_true]
   rw [show decide ((h.2.1=3∧clr h.2.2.2.2.2.2.2.1 100)∨(h.2.1 ≠ 3∧h.2.2.2.2.2.2.2.1=[]))=decide (kindOk h) from decide_eq_decide.2 (by unfold kindOk;simp [ko])]
  ·rw [eqI_false ko,sel_false]
   rw [show decide (kindOk h)=false from decide_eq_false (by unfold kindOk;simp [ko,hz])]

/-! ### Sums -/
def sumAt (b:List UInt8) (k:Nat):Nat:=if 148≤k∧k < 156 then 32 else (b.getD k 0).toNat
def sumTo (b:List UInt8):Nat→Nat
 | 0=>0
 | k + 1=>sumTo b k + sumAt b k
theorem sumAt_le (b:List UInt8) (k:Nat):sumAt b k≤255:=by
 unfold sumAt
 have:=(b.getD k 0).toNat_lt
 split <;> omega
theorem sumTo_le (b:List UInt8) (k:Nat):sumTo b k≤255 * k:=by
 induction k with
 | zero=>exact Nat.le_refl _
 | succ k ih=>have:=sumAt_le b k;simp only [sumTo];omega

theorem idx_fields:idx ([(0,(100,())),(100,(8,())),(108,(8,())),(116,(8,())),(124,(12,())),(136,(12,())),(148,(8,())),(156,(1,())),(157,(100,())),(257,(8,())),(345,(155,()))]:List (Int×Int×Unit)) 6=some (148,(8,())):=rfl

theorem sum_val12 (b:List UInt8) (hb:b.length≤1048576):P_header_Sum (b,())=some ((sumTo b b.length:Int),()):=by
 unfold P_header_Sum P_header_fields
 rw [obind_some]
 dsimp only
 rw [idx_fields,obind_some,fits_true (by simp only [len];omega),sel_true]
 have key:Loop (P_header_Sum_L0 (b,()) (148,(8,()))) ((0,(0,())),())=some (((sumTo b b.length:Int),((b.length:Int),())),()) :=
  loop_seq (f:=P_header_Sum_L0 (b,()) (148,(8,()))) (r:=(((sumTo b b.length:Int),((b.length:Int),())),())) b.length (fun k=>(((sumTo b k:Int),((k:Int),())),())) (fun k hk=>by
   unfold P_header_Sum_L0
   dsimp only
   have h1:=sumTo_le b k
   have h2:=sumAt_le b k
   have hgd:b.getD k 0=b[k]:=by simp [List.getD_eq_getElem?_getD,hk]
   rw [len_bytes,ltI_true (by omega),sel_true,within_true (by omega) (by omega),sel_true,idx_bytes b hk,obind_some,way1_inl,iadd_one (by omega),show iadd .i64 148 8=156 from by decide]
   have hs:(sel (sel (leI 148 (k:Int)) (ltI (k:Int) 156) false) (((32:Int),()),()) ((u8 b[k],()),())).1.1=(sumAt b k:Int):=by
    unfold sumAt
    by_cases h:148≤k
    ·by_cases h':k < 156
     ·rw [leI_true (by omega),sel_true,ltI_true (by omega),sel_true,if_pos ⟨h,h'⟩];rfl
     ·rw [leI_true (by omega),sel_true,ltI_false (by omega),sel_false,if_neg (fun e=>h' e.2),hgd];rfl
    ·rw [leI_false (by omega),sel_false,sel_false,if_neg (fun e=>h e.1),hgd];rfl
   rw [hs,icv_i64 (by omega) (by omega),show iadd .i64 (sumTo b k:Int) (sumAt b k:Int)=((sumTo b k + sumAt b k:Nat):Int) from iadd_nat (by omega)]
   rfl) (by
   unfold P_header_Sum_L0
   dsimp only
   rw [len_bytes,ltI_false (by omega),sel_false,way1_inr])
 rw [key,obind_some]

theorem refSum_val12 (b:List UInt8) (hb:b.length≤1048576):P_ref12_Sum (b,())=some ((sumTo b b.length:Int),()):=by
  unfold P_ref12_Sum
  have key:Loop (P_ref12_Sum_L0 (b,())) ((0,(0,())),())=some (((sumTo b b.length:Int),((b.length:Int),())),()) :=
    loop_seq (f:=P_ref12_Sum_L0 (b,())) (r:=(((sumTo b b.length:Int),((b.length:Int),())),())) b.length (fun k=>(((sumTo b k:Int),((k:Int),())),())) (fun k hk=>by
      unfold P_ref12_Sum_L0
      dsimp only
      have h1:=sumTo_le b k
      have h2:=sumAt_le b k
      have hgd:b.getD k 0=b[k]:=by simp [List.getD_eq_getElem?_getD,hk]
      have hu:=b[k].toNat_lt
      have e:∀ v:Nat,v=sumAt b k→iadd .i64 (sumTo b k:Int) (v:Int)=((sumTo b (k + 1):Nat):Int):=fun v hv=>by
        rw [hv,iadd_nat (by omega)]
        rfl
      rw [ltI_true (by simp only [len];omega),sel_true]
      unfold sumAt at e
      by_cases h:148≤k
      · by_cases h' : k < 156
        · rw [leI_true (by omega),sel_true,ltI_true (by omega),sel_true,obind_some,way1_inl,iadd_one (by omega)]
          dsimp only
          rw [show iadd .i64 (sumTo b k:Int) 32=_ from e 32 (by rw [if_pos ⟨h,h'⟩])]
        · rw [leI_true (by omega),sel_true,ltI_false (by omega),sel_false,idx_str b hk,obind_some,obind_some,way1_inl,iadd_one (by omega)]
          dsimp only
          rw [show icv .i64 (u8 b[k])=(b[k].toNat:Int) from icv_i64 (by unfold u8;omega) (by unfold u8;omega),e b[k].toNat (by rw [if_neg (fun e=>h' e.2),hgd])]
      · rw [leI_false (by omega),sel_false,sel_false,idx_str b hk,obind_some,obind_some,way1_inl,iadd_one (by omega)]
        dsimp only
        rw [show icv .i64 (u8 b[k])=(b[k].toNat:Int) from icv_i64 (by unfold u8;omega) (by unfold u8;omega),e b[k].toNat (by rw [if_neg (fun e=>h e.1),hgd])]) (by
      unfold P_ref12_Sum_L0
      dsimp only
      rw [ltI_false (by simp only [len];omega),sel_false,way1_inr])
  rw [key,obind_some]

end Go.Ge

/- A header's block, field by field. -/
namespace Go.Ge
set_option linter.unusedVariables false
set_option linter.unusedSimpArgs false

def nul (n:Nat):List UInt8:=List.replicate n 0
theorem length_nul (n:Nat):(nul n).length=n:=List.length_replicate
def magic:List UInt8:=[117,115,116,97,114,0,48,48]

theorem flat_split (fs:List (List UInt8)) (k:Nat) (hk:k < fs.length):fs.flatten=(fs.take k).flatten ++ (fs[k] ++ (fs.drop (k + 1)).flatten):=by
 conv=>lhs;rw [← List.take_append_drop k fs,List.drop_eq_getElem_cons hk]
 rw [List.flatten_append,List.flatten_cons]
theorem flat_set (fs:List (List UInt8)) (k:Nat) (hk:k < fs.length) (x:List UInt8):(fs.set k x).flatten=(fs.take k).flatten ++ (x ++ (fs.drop (k + 1)).flatten):=by
 rw [List.set_eq_take_append_cons_drop,if_pos hk,List.flatten_append,List.flatten_cons]

theorem over_mid (A z R s:List UInt8) (off:Nat) (hA:A.length=off) (hs:s.length≤z.length):over (bytesInts (A ++ (z ++ R))) (off:Int) (bytesInts s)=bytesInts (A ++ ((s ++ z.drop s.length) ++ R)):=by
 unfold over
 rw [Int.toNat_natCast,length_bytes]
 have h1:(bytesInts (A ++ (z ++ R))).take off=bytesInts A:=by rw [bytesInts_take,List.take_left' hA]
 have h2:(bytesInts (A ++ (z ++ R))).drop (off + s.length)=bytesInts (z.drop s.length ++ R):=by
  have:(A ++ (z ++ R)).drop (off + s.length)=z.drop s.length ++ R:=by
   rw [← hA,← List.drop_drop,List.drop_left,List.drop_append_of_le_length hs]
  rw [← this]
  simp [bytesInts,List.map_drop]
 rw [h1,h2,← bytesInts_app,← bytesInts_app,List.append_assoc,List.append_assoc]

theorem ov (fs:List (List UInt8)) (k:Nat) (hk:k < fs.length) (s:List UInt8) (n l off:Nat) (hz:fs[k]=nul n) (hl:s.length=l) (hln:l≤n) (ho:(fs.take k).flatten.length=off) (h5:off + l≤512) :
  over (bytesInts fs.flatten) (off:Int) (ltake (bytesInts s) (minus 512 (off:Int)))=bytesInts (fs.set k (s ++ nul (n - l))).flatten:=by
 have e:ltake (bytesInts s) (minus 512 (off:Int))=bytesInts s:=by
  unfold ltake minus
  rw [List.take_of_length_le]
  rw [length_bytes];omega
 rw [e,flat_split fs k hk,over_mid _ _ _ _ off ho (by rw [hz,length_nul];omega),flat_set fs k hk,hz,hl]
 simp [nul]

def fldsOf (h:Hd) (m u g z t:Nat) (kd:UInt8) (sm:List UInt8):List (List UInt8):=[h.1 ++ nul (100 - h.1.length),octF m 7 ++ nul 1,octF u 7 ++ nul 1,octF g 7 ++ nul 1,octF z 11 ++ nul 1,octF t 11 ++ nul 1,sm,[kd] ++ nul 0,h.2.2.2.2.2.2.2.1 ++ nul (100 - h.2.2.2.2.2.2.2.1.length),magic ++ nul 0,nul 80,nul 155,nul 12]

end Go.Ge

/- What a header is put as. -/
namespace Go.Ge
set_option linter.unusedVariables false
set_option linter.unusedSimpArgs false

def hfields:List (Int×Int×Unit):=[(0,(100,())),(100,(8,())),(108,(8,())),(116,(8,())),(124,(12,())),(136,(12,())),(148,(8,())),(156,(1,())),(157,(100,())),(257,(8,())),(345,(155,()))]
theorem fields_val:P_header_fields ()=some (hfields,()):=rfl
structure Fits (h:Hd) (m u g z t:Nat) (kd:UInt8):Prop where
 path:h.1.length≤100
 link:h.2.2.2.2.2.2.2.1.length≤100
 m:h.2.2.1=(m:Int)∧m < 2097152
 u:h.2.2.2.1=(u:Int)∧u < 2097152
 g:h.2.2.2.2.1=(g:Int)∧g < 2097152
 z:h.2.2.2.2.2.1=(z:Int)∧z < 8589934592
 t:h.2.2.2.2.2.2.1=(t:Int)∧t < 8589934592
 kind:(h.2.1=1∧kd=48)∨(h.2.1=2∧kd=53)∨(h.2.1=3∧kd=50)

def putF (h:Hd) (m u g z t:Nat) (kd:UInt8):List UInt8:=(fldsOf h m u g z t kd (octF (sumTo (fldsOf h m u g z t kd (nul 8)).flatten 512) 6 ++ [0,32])).flatten

end Go.Ge

/- What a block is taken as: of any block; of one that was put. -/
namespace Go.Ge
set_option linter.unusedVariables false
set_option linter.unusedSimpArgs false

/-! ### Any block -/
theorem fromOctal_total (s : List UInt8) (hs : s.length ≤ 1048576) : ∃ n ok, P_digits_FromOctal (s, ()) = some (n, (ok, ())) := by
  unfold P_digits_FromOctal
  dsimp only
  cases hc:(sel (nt (ltI (len s) 1)) (ltI 21 (len s)) true) with
  | true=>exact ⟨0,false,rfl⟩
  | false =>
    rw [sel_false,fits_true (by simp only [len];omega),sel_true]
    have key:∀ (k i:Nat) (v:Int),s.length - i≤k→i≤s.length→∃ q,Loop (P_digits_FromOctal_L0 (s,())) ((0,(false,(v,((i:Int),())))),())=some q:=by
      intro k
      induction k with
      | zero =>
        intro i v h hi
        rw [Loop_eq]
        unfold P_digits_FromOctal_L0
        dsimp only
        rw [len_bytes,ltI_false (by omega),sel_false]
        exact ⟨_,rfl⟩
      | succ k ih =>
        intro i v h hi
        by_cases hlt:i < s.length
        · cases hd:(sel (nt (ltI (u8 s[i]) 48)) (ltI 55 (u8 s[i])) true) with
          | true =>
            have e0:P_digits_FromOctal_L0 (s,()) ((0,(false,(v,((i:Int),())))),())=some (.inr (1,((0,(false,(v,((i:Int),())))),()))):=by
              unfold P_digits_FromOctal_L0
              dsimp only
              rw [len_bytes,ltI_true (by omega),sel_true,within_true (by omega) (by omega),sel_true,idx_bytes s hlt,obind_some,hd,sel_true]
            rw [Loop_eq,e0]
            exact ⟨_,rfl⟩
          | false =>
            have e0:P_digits_FromOctal_L0 (s,()) ((0,(false,(v,((i:Int),())))),())=some (.inl ((0,(false,(ior .i64 (ishl .i64 v 3) (icv .i64 (isub .u8 (u8 s[i]) 48)),(((i + 1:Nat):Int),())))),())):=by
              unfold P_digits_FromOctal_L0
              dsimp only
              rw [len_bytes,ltI_true (by omega),sel_true,within_true (by omega) (by omega),sel_true,idx_bytes s hlt,obind_some,hd,sel_false,ltI_false (by decide),sel_false,iadd_one (by omega)]
            rw [Loop_eq,e0]
            exact ih (i + 1) _ (by omega) (by omega)
        · rw [Loop_eq]
          unfold P_digits_FromOctal_L0
          dsimp only
          rw [len_bytes,ltI_false (by omega),sel_false]
          exact ⟨_,rfl⟩
    obtain ⟨q,hq⟩:=key s.length 0 0 (by omega) (by omega)
    rw [show Loop (P_digits_FromOctal_L0 (s,())) ((0,(false,(0,(0,())))),())=some q from hq,obind_some]
    cases eqN q.1 0 with
    | true=>exact ⟨_,_,rfl⟩
    | false=>exact ⟨_,_,rfl⟩

theorem rtrim_length (p:UInt8→Bool) (s:List UInt8):(rtrim p s).length≤s.length:=by
 unfold rtrim
 rw [List.length_reverse]
 have:=List.takeWhile_append_dropWhile (p:=p) (l:=s.reverse)
 have:=congrArg List.length this
 rw [List.length_append,List.length_reverse] at this
 omega

theorem number_total (s:List UInt8) (hs:s.length≤1048576):∃ n,P_header_number (s,())=some (n,()):=by
 unfold P_header_number
 dsimp only
 have hl:=rtrim_length isNB s
 rw [trimRight_nb s hs,obind_some]
 obtain ⟨n,ok,h⟩:=fromOctal_total (rtrim isNB s) (by omega)
 dsimp only
 rw [h,obind_some]
 cases (sel (nt (nt ok)) (eqI (len (rtrim isNB s)) (len s)) true) with
 | true=>exact ⟨_,rfl⟩
 | false=>exact ⟨_,rfl⟩

def fld (b:List UInt8) (a n:Nat):List UInt8:=(b.drop a).take n
theorem fld_length (b:List UInt8) (a n:Nat):(fld b a n).length≤n:=by simp [fld];omega

theorem of_val12 (b:List UInt8) (hb:b.length=512) (k:Int) (a n:Nat) (hk:idx hfields k=some ((a:Int),((n:Int),()))) (h:a + n≤512):P_header_of (b,(k,()))=some (fld b a n,()):=by
 unfold P_header_of
 rw [fields_val,obind_some]
 dsimp only
 rw [hk,obind_some]
 dsimp only
 rw [show iadd .i64 (a:Int) (n:Int)=((a + n:Nat):Int) from iadd_nat (by omega),inside_true (by omega) (by omega) (by simp only [len];omega),sel_true]
 unfold sub minus fld
 rw [Int.toNat_natCast,show (((a + n:Nat):Int) - (a:Int)).toNat=n by omega]

section
variable (b:List UInt8)
theorem o0 (hb:b.length=512):P_header_of (b,(0,()))=some (fld b 0 100,()):=of_val12 b hb 0 0 100 rfl (by omega)
theorem o1 (hb:b.length=512):P_header_of (b,(1,()))=some (fld b 100 8,()):=of_val12 b hb 1 100 8 rfl (by omega)
theorem o2 (hb:b.length=512):P_header_of (b,(2,()))=some (fld b 108 8,()):=of_val12 b hb 2 108 8 rfl (by omega)
theorem o3 (hb:b.length=512):P_header_of (b,(3,()))=some (fld b 116 8,()):=of_val12 b hb 3 116 8 rfl (by omega)
theorem o4 (hb:b.length=512):P_header_of (b,(4,()))=some (fld b 124 12,()):=of_val12 b hb 4 124 12 rfl (by omega)
theorem o5 (hb:b.length=512):P_header_of (b,(5,()))=some (fld b 136 12,()):=of_val12 b hb 5 136 12 rfl (by omega)
theorem o6 (hb:b.length=512):P_header_of (b,(6,()))=some (fld b 148 8,()):=of_val12 b hb 6 148 8 rfl (by omega)
theorem o7 (hb:b.length=512):P_header_of (b,(7,()))=some (fld b 156 1,()):=of_val12 b hb 7 156 1 rfl (by omega)
theorem o8 (hb:b.length=512):P_header_of (b,(8,()))=some (fld b 157 100,()):=of_val12 b hb 8 157 100 rfl (by omega)
theorem o9 (hb:b.length=512):P_header_of (b,(9,()))=some (fld b 257 8,()):=of_val12 b hb 9 257 8 rfl (by omega)
theorem o10 (hb:b.length=512):P_header_of (b,(10,()))=some (fld b 345 155,()):=of_val12 b hb 10 345 155 rfl (by omega)
end

def noHd:Hd:=([],(0,(0,(0,(0,(0,(0,([],()))))))))

theorem take_other (b:List UInt8) (hb:b.length=512) (hm:fld b 257 8 ≠ magic):P_header_Take (b,())=some (noHd,(2,())):=by
 unfold P_header_Take
 dsimp only
 rw [eqI_true (by simp only [len];omega),nt_true,nt_false,sel_true,o9 b hb,obind_some,obind_some,show ([117,115,116,97,114,0,48,48]:List UInt8)=magic from rfl]
 dsimp only
 rw [show eqS (fld b 257 8) magic=false from decide_eq_false hm,nt_false,nt_true,sel_false,obind_some,sel_true]
 rfl

theorem take_bad (b:List UInt8) (hb:b.length=512) {n:Int} (hn:P_header_number (fld b 148 8,())=some (n,())) (hne:n ≠ (sumTo b 512:Int)):P_header_Take (b,())=some (noHd,(2,())):=by
 by_cases hm:fld b 257 8=magic
 ·unfold P_header_Take
  dsimp only
  rw [eqI_true (by simp only [len];omega),nt_true,nt_false,sel_true,o9 b hb,obind_some,obind_some,show ([117,115,116,97,114,0,48,48]:List UInt8)=magic from rfl]
  dsimp only
  rw [hm,show eqS magic magic=true from eqS_self _,nt_true,nt_false,sel_true,o6 b hb,obind_some]
  dsimp only
  rw [hn,obind_some,sum_val12 b (by omega),obind_some]
  dsimp only
  rw [hb,eqI_false hne,nt_false,obind_some,sel_true]
  rfl
 ·exact take_other b hb hm

end Go.Ge

/- What is put is taken as it was; the laws of layer 12. -/
namespace Go.Ge
set_option linter.unusedVariables false
set_option linter.unusedSimpArgs false

section
variable {h:Hd} {m u g z t:Nat} {kd:UInt8}
theorem nul_all (n:Nat):∀ x ∈ nul n,x=0:=fun x hx=>List.eq_of_mem_replicate hx

end
end Go.Ge

/- The laws of layer 12 in plain words. -/
namespace Go.Ge
set_option linter.unusedVariables false
set_option linter.unusedSimpArgs false

def hA:Hd:=([100,47],(2,(493,(0,(0,(0,(1,([],()))))))))
def hC:Hd:=([100],(2,(0,(0,(0,(1,(0,([],()))))))))
/-! ### A byte changed -/
end Go.Ge

/- What the functions of layer 13 compute, as plain programs (written by a program from what the ghost interpreter comes to). -/
namespace Go.Ge
set_option linter.unusedVariables false
set_option maxRecDepth 100000

abbrev S24x0:=((Sb×Int×Int×Int×Int×Int×Int×Sb×Unit)×Sb×Unit)
abbrev S24x1:=(Bool×Sb×Int×Bool×Bool×Unit)
abbrev S24x2:=((Unit×Unit×Bool×Unit)×S24x0×(List S24x0)×S24x1×Unit)
abbrev S24x3:=(S24x0×Bool×Unit)
noncomputable def P_tar_fill (x:Int×Unit):Option (Int×Unit) :=
 sel (eqI (512:Int) (0:Int))
 none
 (sel (eqI (512:Int) (0:Int))
 none
 (some (irem (isub IntKind.i64 (512:Int) (irem x.1 (512:Int))) (512:Int),())))

noncomputable def P_tar_Reader_ends (x:(Bool×Unit)×S24x1×Unit):Option (S24x3×S24x1×Unit) :=
 some ((((([]:List (UInt8)),((0:Int),((0:Int),((0:Int),((0:Int),((0:Int),((0:Int),(([]:List (UInt8)),())))))))),(([]:List (UInt8)),())),(false,())),((x.2.1.1,(([]:List (UInt8)),(x.2.1.2.2.1,(true,(x.1.1,x.2.1.2.2.2.2.2))))),()))

noncomputable def P_tar_Reader_Next (x:Unit×S24x1×Unit):Option (S24x3×S24x1×Unit) :=
 sel (sel (nt (nt x.2.1.1))
 x.2.1.2.2.2.1
 true)
 (some ((((([]:List (UInt8)),((0:Int),((0:Int),((0:Int),((0:Int),((0:Int),((0:Int),(([]:List (UInt8)),())))))))),(([]:List (UInt8)),())),(false,())),(x.2.1,())))
 (sel (ltI (@len UInt8 x.2.1.2.1) (512:Int))
 (obind (P_tar_Reader_ends ((true,()),(x.2.1,()))) (fun (y1:S24x3×S24x1×Unit)=>some ((y1.1.1,(y1.1.2.1,())),(y1.2.1,()))))
 (sel (inside (0:Int) (512:Int) (@len UInt8 x.2.1.2.1))
 (obind (P_header_Zero (@sub UInt8 x.2.1.2.1 (0:Int) (minus (512:Int) (0:Int)),())) (fun (y1:Bool×Unit)=>sel y1.1
 (obind (sel (leI (1024:Int) (@len UInt8 x.2.1.2.1))
 (sel (eqI (512:Int) (0:Int))
 none
 (some (eqI (irem (@len UInt8 x.2.1.2.1) (512:Int)) (0:Int))))
 (some false)) (fun (y2:Bool)=>obind (sel (nt (nt y2))
 (obind (P_strings_Trim (x.2.1.2.1,(([(0:UInt8)]:List (UInt8)),()))) (fun (y3:Sb×Unit)=>some (nt (eqS y3.1 ([]:List (UInt8))))))
 (some true)) (fun (y3:Bool)=>obind (P_tar_Reader_ends ((y3,()),(x.2.1,()))) (fun (y4:S24x3×S24x1×Unit)=>some ((y4.1.1,(y4.1.2.1,())),(y4.2.1,()))))))
 (sel (inside (0:Int) (512:Int) (@len UInt8 x.2.1.2.1))
 (obind (P_header_Take (@sub UInt8 x.2.1.2.1 (0:Int) (minus (512:Int) (0:Int)),())) (fun (y2:(Sb×Int×Int×Int×Int×Int×Int×Sb×Unit)×Int×Unit)=>sel (inside (512:Int) (@len UInt8 x.2.1.2.1) (@len UInt8 x.2.1.2.1))
 (sel (nt (eqI y2.2.1 (0:Int)))
 (obind (P_tar_Reader_ends ((true,()),(x.2.1,()))) (fun (y3:S24x3×S24x1×Unit)=>some ((y3.1.1,(y3.1.2.1,())),(y3.2.1,()))))
 (sel (ltI (@len UInt8 (@sub UInt8 x.2.1.2.1 (512:Int) (minus (@len UInt8 x.2.1.2.1) (512:Int)))) y2.1.2.2.2.2.2.1)
 (obind (P_tar_Reader_ends ((true,()),(x.2.1,()))) (fun (y3:S24x3×S24x1×Unit)=>some ((y3.1.1,(y3.1.2.1,())),(y3.2.1,()))))
 (obind (P_tar_fill (y2.1.2.2.2.2.2.1,())) (fun (y3:Int×Unit)=>sel (ltI (@len UInt8 (@sub UInt8 x.2.1.2.1 (512:Int) (minus (@len UInt8 x.2.1.2.1) (512:Int)))) (iadd IntKind.i64 y2.1.2.2.2.2.2.1 y3.1))
 (obind (P_tar_Reader_ends ((true,()),(x.2.1,()))) (fun (y4:S24x3×S24x1×Unit)=>some ((y4.1.1,(y4.1.2.1,())),(y4.2.1,()))))
 (sel (leI (64:Int) x.2.1.2.2.1)
 (obind (P_tar_Reader_ends ((true,()),(x.2.1,()))) (fun (y4:S24x3×S24x1×Unit)=>some ((y4.1.1,(y4.1.2.1,())),(y4.2.1,()))))
 (obind (P_tar_fill (y2.1.2.2.2.2.2.1,())) (fun (y4:Int×Unit)=>sel (inside (iadd IntKind.i64 y2.1.2.2.2.2.2.1 y4.1) (@len UInt8 (@sub UInt8 x.2.1.2.1 (512:Int) (minus (@len UInt8 x.2.1.2.1) (512:Int)))) (@len UInt8 (@sub UInt8 x.2.1.2.1 (512:Int) (minus (@len UInt8 x.2.1.2.1) (512:Int)))))
 (sel (inside (0:Int) y2.1.2.2.2.2.2.1 (@len UInt8 (@sub UInt8 x.2.1.2.1 (512:Int) (minus (@len UInt8 x.2.1.2.1) (512:Int)))))
 (some (((y2.1,(@sub UInt8 (@sub UInt8 x.2.1.2.1 (512:Int) (minus (@len UInt8 x.2.1.2.1) (512:Int))) (0:Int) (minus y2.1.2.2.2.2.2.1 (0:Int)),())),(true,())),((x.2.1.1,(@sub UInt8 (@sub UInt8 x.2.1.2.1 (512:Int) (minus (@len UInt8 x.2.1.2.1) (512:Int))) (iadd IntKind.i64 y2.1.2.2.2.2.2.1 y4.1) (minus (@len UInt8 (@sub UInt8 x.2.1.2.1 (512:Int) (minus (@len UInt8 x.2.1.2.1) (512:Int)))) (iadd IntKind.i64 y2.1.2.2.2.2.2.1 y4.1)),(iadd IntKind.i64 x.2.1.2.2.1 (1:Int),x.2.1.2.2.2))),())))
 none)
 none)))))))
 none))
 none)))
 none))

noncomputable def P_tar_Reader_Bad (x:Unit×S24x1×Unit):Option ((Bool×Unit)×S24x1×Unit) :=
 some ((x.2.1.2.2.2.2.1,()),(x.2.1,()))

noncomputable def P_tar_Read_L0 (y2:(Unit×Unit×Bool×Unit)×S24x0×(List S24x0)×S24x1×Unit):Option (S24x2 ⊕ S24x2) :=
 @way1 S24x2 (sel y2.1.2.2.1
 (sel (fits (plus (@len S24x0 y2.2.2.1) (@len S24x0 ([y2.2.1]:List S24x0))))
 (obind (P_tar_Reader_Next ((),(y2.2.2.2.1,()))) (fun (y3:S24x3×S24x1×Unit)=>some (Sum.inl (((),((),(y3.1.2.1,()))),(y3.1.1,(@app S24x0 y2.2.2.1 ([y2.2.1]:List S24x0),(y3.2.1,())))):(S24x2) ⊕ ((Nat×(Unit×Unit×Bool×Unit)×S24x0×(List S24x0)×S24x1×Unit)))))
 none)
 (some (Sum.inr ((0:Nat),(((),((),(y2.1.2.2.1,()))),(y2.2.1,(y2.2.2.1,(y2.2.2.2.1,()))))):(S24x2) ⊕ ((Nat×(Unit×Unit×Bool×Unit)×S24x0×(List S24x0)×S24x1×Unit)))))

noncomputable def P_tar_Read (x:Sb×Unit):Option ((List S24x0)×Int×Unit) :=
 obind (P_tar_Reader_Next ((),((true,(x.1,((0:Int),(ltI (8192:Int) (@len UInt8 x.1),(ltI (8192:Int) (@len UInt8 x.1),()))))),()))) (fun (y1:S24x3×S24x1×Unit)=>obind (Loop (P_tar_Read_L0) (((),((),(y1.1.2.1,()))),(y1.1.1,(([]:List S24x0),(y1.2.1,()))))) (fun (y2:(Unit×Unit×Bool×Unit)×S24x0×(List S24x0)×S24x1×Unit)=>obind (P_tar_Reader_Bad ((),(y2.2.2.2.1,()))) (fun (y3:(Bool×Unit)×S24x1×Unit)=>sel y3.1.1
 (some (([]:List S24x0),((10:Int),())))
 (some (y2.2.2.1,((0:Int),()))))))

noncomputable def P_ref13_whole_L0 (y1:(Int×Unit)×Unit):Option (((Int×Unit)×Unit) ⊕ ((Int×Unit)×Unit)) :=
 @way1 ((Int×Unit)×Unit) (sel (eqI (512:Int) (0:Int))
 none
 (sel (nt (eqI (irem y1.1.1 (512:Int)) (0:Int)))
 (some (Sum.inl ((iadd IntKind.i64 y1.1.1 (1:Int),()),()):(((Int×Unit)×Unit)) ⊕ ((Nat×(Int×Unit)×Unit))))
 (some (Sum.inr ((0:Nat),((y1.1.1,()),())):(((Int×Unit)×Unit)) ⊕ ((Nat×(Int×Unit)×Unit))))))

noncomputable def P_ref13_whole (x:Int×Unit):Option (Int×Unit) :=
 obind (Loop (P_ref13_whole_L0) ((x.1,()),())) (fun (y1:(Int×Unit)×Unit)=>some (y1.1.1,()))

end Go.Ge

/- Entries, one behind the other, in plain words: what is written. -/
namespace Go.Ge
set_option linter.unusedVariables false
set_option linter.unusedSimpArgs false

abbrev Pt:=Hd×List UInt8×Unit
def hsize (h:Hd):Int:=h.2.2.2.2.2.1
def kdOf (h:Hd):UInt8:=if h.2.1=1 then 48 else if h.2.1=2 then 53 else 50
def putB (h:Hd):List UInt8:=putF h h.2.2.1.toNat h.2.2.2.1.toNat h.2.2.2.2.1.toNat h.2.2.2.2.2.1.toNat h.2.2.2.2.2.2.1.toNat (kdOf h)

def okPt (p:Pt):Prop:=okHd p.1 100∧hsize p.1=(p.2.1.length:Int)
instance (p:Pt):Decidable (okPt p):=inferInstanceAs (Decidable (_∧_))
def fillN (n:Nat):Nat:=(512 - n % 512) % 512
def body (p:Pt):List UInt8:=putB p.1 ++ p.2.1 ++ nul (fillN p.2.1.length)
theorem fillN_lt (n:Nat):fillN n < 512:=Nat.mod_lt _ (by decide)
theorem fill_val (n:Nat) (hn:n≤1048576):P_tar_fill ((n:Int),())=some ((fillN n:Int),()):=by
 unfold P_tar_fill
 dsimp only
 rw [show eqI 512 0=false from rfl,sel_false,sel_false]
 have e1:irem (n:Int) 512=((n % 512:Nat):Int):=rfl
 rw [e1,isub_i64 (by omega) (by omega),show (512:Int) - ((n % 512:Nat):Int)=((512 - n % 512:Nat):Int) by omega]
 rfl

theorem whole13_val (n:Nat) (hn:n≤1048576):P_ref13_whole ((n:Int),())=some (((n + fillN n:Nat):Int),()):=by
 unfold P_ref13_whole
 dsimp only
 have key:=loop_seq (f:=P_ref13_whole_L0) (r:=((((n + fillN n:Nat):Int),()),())) (fillN n) (fun i=>((((n + i:Nat):Int),()),())) (fun i hi=>by
   have hm:=hi
   unfold fillN at hm
   unfold P_ref13_whole_L0
   dsimp only
   rw [show eqI 512 0=false from rfl,sel_false,show irem ((n + i:Nat):Int) 512=(((n + i) % 512:Nat):Int) from rfl,eqI_false (by omega),nt_false,sel_true,iadd_one (by omega)]
   rfl) (by
   unfold P_ref13_whole_L0
   dsimp only
   rw [show eqI 512 0=false from rfl,sel_false,show irem ((n + fillN n:Nat):Int) 512=(((n + fillN n) % 512:Nat):Int) from rfl,eqI_true (by unfold fillN;omega),nt_true,sel_false]
   rfl)
 rw [show Loop P_ref13_whole_L0 (((n:Int),()),())=_ from key,obind_some]

structure FewP (l:List Pt) (n:Nat):Prop where
 many:l.length≤n
 path:∀ p ∈ l,p.1.1.length≤300
 link:∀ p ∈ l,p.1.2.2.2.2.2.2.2.1.length≤300
 data:∀ p ∈ l,p.2.1.length≤8192

end Go.Ge

/- Entries, one behind the other, in plain words: what is read; the laws. -/
namespace Go.Ge
set_option linter.unusedVariables false
set_option linter.unusedSimpArgs false

abbrev Rd:=Bool×List UInt8×Int×Bool×Bool×Unit
def zeroPt:Pt:=(noHd,([],()))
def rd (r:List UInt8) (n:Int):Rd:=(true,(r,(n,(false,(false,())))))
def rdEnd (n:Int) (b:Bool):Rd:=(true,([],(n,(true,(b,())))))

theorem next_over (r:List UInt8) (n:Int) (b:Bool):P_tar_Reader_Next ((),((true,(r,(n,(true,(b,()))))),()))=some ((zeroPt,(false,())),((true,(r,(n,(true,(b,()))))),())):=by
 unfold P_tar_Reader_Next
 dsimp only
 rfl

theorem ends_val (r:List UInt8) (n:Int) (b:Bool):P_tar_Reader_ends ((b,()),(rd r n,()))=some ((zeroPt,(false,())),(rdEnd n b,())):=rfl

theorem next_short (r:List UInt8) (n:Int) (h:r.length < 512):P_tar_Reader_Next ((),(rd r n,()))=some ((zeroPt,(false,())),(rdEnd n true,())):=by
 have e:=ends_val r n true
 unfold P_tar_Reader_Next
 dsimp only [rd] at e ⊢
 rw [nt_true,nt_false,sel_true,sel_false,ltI_true (by rw [len_eq];omega),sel_true,e,obind_some]

theorem next_zero (r:List UInt8) (n:Int) (h:512≤r.length) (hl:r.length≤1048576) (hz:∀ x ∈ r.take 512,x=0) :
    P_tar_Reader_Next ((),(rd r n,()))=some ((zeroPt,(false,())),(rdEnd n (!decide (1024≤r.length∧r.length % 512=0∧∀ x ∈ r,x=0)),())):=by
  have e:=fun b=>ends_val r n b
  unfold P_tar_Reader_Next
  dsimp only [rd] at e ⊢
  have ht:(r.take 512).length=512:=by rw [List.length_take];omega
  rw [nt_true,nt_false,sel_true,sel_false,ltI_false (by rw [len_eq];omega),sel_false,inside_true (by decide) (by decide) (by rw [len_eq];omega),sel_true,show sub r 0 (minus 512 0)=r.take 512 from sub_take r 512,zero_val _ (by omega),decide_eq_true ⟨ht,hz⟩,obind_some,sel_true]
  rw [show eqI 512 0=false from rfl,sel_false,show irem (len r) 512=((r.length % 512:Nat):Int) from rfl,show leI 1024 (len r)=decide (1024≤r.length) from by unfold leI len;apply decide_eq_decide.2;omega,show eqI ((r.length % 512:Nat):Int) 0=decide (r.length % 512=0) from by unfold eqI;apply decide_eq_decide.2;omega,trim_nul r hl]
  have hb:decide ((rtrim isNul r).dropWhile isNul=[])=decide (∀ x ∈ r,x=0):=decide_eq_decide.2 (trim_empty r)
  by_cases a:1024≤r.length
  · by_cases b : r.length % 512 = 0
    · by_cases c : ∀ x ∈ r, x = 0
      · have c':=(trim_empty r).2 c
        rw [decide_eq_true a,sel_true,decide_eq_true b,obind_some,nt_true,nt_false,sel_true,obind_some,obind_some]
        dsimp only
        rw [eqS_true c',nt_true,e,obind_some,decide_eq_true ⟨a,b,c⟩]
        rfl
      · have c':¬ (rtrim isNul r).dropWhile isNul=[]:=fun q=>c ((trim_empty r).1 q)
        rw [decide_eq_true a,sel_true,decide_eq_true b,obind_some,nt_true,nt_false,sel_true,obind_some,obind_some]
        dsimp only
        rw [eqS_false c',nt_false,e,obind_some,decide_eq_false (fun q=>c q.2.2)]
        rfl
    · rw [decide_eq_true a,sel_true,decide_eq_false b,obind_some,nt_false,nt_true,sel_false,obind_some,e,obind_some,decide_eq_false (fun q=>b q.2.1)]
      rfl
  · rw [decide_eq_false a,sel_false,obind_some,nt_false,nt_true,sel_false,obind_some,e,obind_some,decide_eq_false (fun q=>a q.1)]
    rfl

theorem step_more (p:Pt) (out:List Pt) (st:Rd) (ho:out.length≤1000) {p1:Pt} {ok1:Bool} {st1:Rd} (h:P_tar_Reader_Next ((),(st,()))=some ((p1,(ok1,())),(st1,()))) :
  P_tar_Read_L0 (((),((),(true,()))),(p,(out,(st,()))))=some (.inl (((),((),(ok1,()))),(p1,(out ++ [p],(st1,()))))):=by
 unfold P_tar_Read_L0
 dsimp only
 rw [sel_true,fits_len2 (by simp only [List.length_cons,List.length_nil];omega),sel_true,h,obind_some]
 rfl
theorem step_last (p:Pt) (out:List Pt) (st:Rd):P_tar_Read_L0 (((),((),(false,()))),(p,(out,(st,()))))=some (.inr (((),((),(false,()))),(p,(out,(st,()))))):=rfl

theorem read_long (s:List UInt8) (h:8192 < s.length):P_tar_Read (s,())=some ([],(10,())):=by
 unfold P_tar_Read
 dsimp only
 rw [ltI_true (by rw [len_eq];omega),next_over,obind_some]
 dsimp only
 rw [Loop_eq,step_last]
 rfl

/-! ### awake -/
end Go.Ge

/- What is read of any bytes: in plain words. -/
namespace Go.Ge
set_option linter.unusedVariables false
set_option linter.unusedSimpArgs false

theorem fin_is (c:Bool) (h:Hd):∃ x e,obind (sel c (obind (P_header_is (h,((256:Int),()))) (fun (y21:Bool×Unit)=>some (nt y21.1))) (some true)) (fun y=>sel y (some (noHd,((2:Int),()))) (some (h,((0:Int),()))))=some (x,(e,()))∧(e=0→okHd x 256):=by
  rw [is_val12,obind_some]
  cases c with
  | false=>exact ⟨_,_,rfl,fun q=>absurd q (by decide)⟩
  | true =>
    by_cases hk:okHd h 256
    · rw [decide_eq_true hk]
      exact ⟨h,0,rfl,fun _=>hk⟩
    · rw [decide_eq_false hk]
      exact ⟨_,_,rfl,fun q=>absurd q (by decide)⟩

theorem take_ok (b:List UInt8) (hb:b.length=512):∃ x e,P_header_Take (b,())=some (x,(e,()))∧(e=0→okHd x 256):=by
  by_cases hm:fld b 257 8=magic
  case neg=>exact ⟨_,_,take_other b hb hm,fun e=>absurd e (by decide)⟩
  obtain ⟨n6,h6⟩:=number_total (fld b 148 8) (by have:=fld_length b 148 8;omega)
  by_cases hs:n6=(sumTo b 512:Int)
  case neg=>exact ⟨_,_,take_bad b hb h6 hs,fun e=>absurd e (by decide)⟩
  obtain ⟨n1,h1⟩:=number_total (fld b 100 8) (by have:=fld_length b 100 8;omega)
  obtain ⟨n2,h2⟩:=number_total (fld b 108 8) (by have:=fld_length b 108 8;omega)
  obtain ⟨n3,h3⟩:=number_total (fld b 116 8) (by have:=fld_length b 116 8;omega)
  obtain ⟨n4,h4⟩:=number_total (fld b 124 12) (by have:=fld_length b 124 12;omega)
  obtain ⟨n5,h5⟩:=number_total (fld b 136 12) (by have:=fld_length b 136 12;omega)
  have t0:=text_val (fld b 0 100) (by have:=fld_length b 0 100;omega)
  have t8:=text_val (fld b 157 100) (by have:=fld_length b 157 100;omega)
  have t10:=text_val (fld b 345 155) (by have:=fld_length b 345 155;omega)
  have l0:=rtrim_length isNul (fld b 0 100)
  have l10:=rtrim_length isNul (fld b 345 155)
  have m0:=fld_length b 0 100
  have m10:=fld_length b 345 155
  unfold P_header_Take
  dsimp only
  rw [eqI_true (by simp only [len];omega),nt_true,nt_false,sel_true,o9 b hb,obind_some,obind_some,show ([117,115,116,97,114,0,48,48]:List UInt8)=magic from rfl]
  dsimp only
  rw [hm,show eqS magic magic=true from eqS_self _,nt_true,nt_false,sel_true,o6 b hb,obind_some]
  dsimp only
  rw [h6,obind_some,sum_val12 b (by omega),obind_some]
  dsimp only
  rw [hb,eqI_true hs,nt_true,obind_some,sel_false,o0 b hb,obind_some]
  dsimp only
  rw [t0,obind_some,o8 b hb,obind_some]
  dsimp only
  rw [t8,obind_some,o10 b hb,obind_some]
  dsimp only
  rw [t10,obind_some]
  dsimp only
  have hpre:∃ p:List UInt8,(sel (nt (eqS (rtrim isNul (fld b 345 155)) [])) (sel (fits (plus (len (rtrim isNul (fld b 345 155))) (len ([47]:List UInt8)))) (sel (fits (plus (len (app (rtrim isNul (fld b 345 155)) [47])) (len (rtrim isNul (fld b 0 100)))))
      (some ((app (app (rtrim isNul (fld b 345 155)) [47]) (rtrim isNul (fld b 0 100)),()),())) none) none) (some ((rtrim isNul (fld b 0 100),()),())))=some ((p,()),()):=by
    cases (nt (eqS (rtrim isNul (fld b 345 155)) [])) with
    | true =>
      rw [sel_true,fits_true (by simp only [plus,len,List.length_cons,List.length_nil];omega),sel_true,fits_true (by simp only [plus,len,app,List.length_append,List.length_cons,List.length_nil];omega),sel_true]
      exact ⟨_,rfl⟩
    | false=>exact ⟨_,rfl⟩
  obtain ⟨p,hp⟩:=hpre
  rw [hp,obind_some,o1 b hb,obind_some]
  dsimp only
  rw [h1,obind_some,o2 b hb,obind_some]
  dsimp only
  rw [h2,obind_some,o3 b hb,obind_some]
  dsimp only
  rw [h3,obind_some,o4 b hb,obind_some]
  dsimp only
  rw [h4,obind_some,o5 b hb,obind_some]
  dsimp only
  rw [h5,obind_some,o7 b hb,obind_some]
  exact fin_is _ _


theorem next_any (r:List UInt8) (n:Nat) (hl:r.length≤10000):∃ p ok st,P_tar_Reader_Next ((),(rd r (n:Int),()))=some ((p,(ok,())),(st,())) ∧
  ((ok=false∧∃ b,st=rdEnd (n:Int) b)∨(ok=true∧okHd p.1 256∧p.2.1.length≤r.length∧n < 64∧∃ r',st=rd r' ((n + 1:Nat):Int)∧r'.length + 512≤r.length)):=by
 by_cases h512:r.length < 512
 ·exact ⟨_,_,_,next_short r n h512,.inl ⟨rfl,_,rfl⟩⟩
 by_cases hz:∀ x ∈ r.take 512,x=0
 ·exact ⟨_,_,_,next_zero r n (by omega) (by omega) hz,.inl ⟨rfl,_,rfl⟩⟩
 have e:=fun b=>ends_val r (n:Int) b
 have ht:(r.take 512).length=512:=by rw [List.length_take];omega
 obtain ⟨x,er,t1,t2⟩:=take_ok (r.take 512) ht
 have hdl:(r.drop 512).length=r.length - 512:=List.length_drop
 unfold P_tar_Reader_Next
 dsimp only [rd] at e ⊢
 rw [nt_true,nt_false,sel_true,sel_false,ltI_false (by rw [len_eq];omega),sel_false,inside_true (by decide) (by decide) (by rw [len_eq];omega),sel_true,show sub r 0 (minus 512 0)=r.take 512 from sub_take r 512]
 rw [zero_val (r.take 512) (by omega),obind_some]
 dsimp only
 rw [decide_eq_false (fun q=>hz q.2),sel_false,sel_true,t1,obind_some,inside_true (by decide) (by rw [len_eq];omega) (Int.le_refl _),sel_true,show sub r 512 (minus (len r) 512)=r.drop 512 from sub_drop r 512 (by omega)]
 dsimp only
 by_cases he:er=0
 case neg =>
  rw [eqI_false he,nt_false,sel_true,e,obind_some]
  exact ⟨_,_,_,rfl,.inl ⟨rfl,_,rfl⟩⟩
 rw [eqI_true he,nt_true,sel_false]
 have hok:=t2 he
 obtain ⟨s0,s1⟩:=hok.2.2.2.1
 obtain ⟨k,hk⟩:=Int.eq_ofNat_of_zero_le s0
 rw [hk]
 by_cases h1:(r.drop 512).length < k
 ·rw [ltI_true (by rw [len_eq];omega),sel_true,e,obind_some]
  exact ⟨_,_,_,rfl,.inl ⟨rfl,_,rfl⟩⟩
 ·have hf:=fillN_lt k
  rw [ltI_false (by rw [len_eq];omega),sel_false,fill_val k (by omega),obind_some,iadd_i64 (by omega) (by omega)]
  dsimp only
  by_cases h2:(r.drop 512).length < k + fillN k
  ·rw [ltI_true (by rw [len_eq];omega),sel_true,e,obind_some]
   exact ⟨_,_,_,rfl,.inl ⟨rfl,_,rfl⟩⟩
  ·rw [ltI_false (by rw [len_eq];omega),sel_false]
   by_cases h3:64≤n
   ·rw [leI_true (by omega),sel_true,e,obind_some]
    exact ⟨_,_,_,rfl,.inl ⟨rfl,_,rfl⟩⟩
   ·rw [leI_false (by omega),sel_false,obind_some,iadd_i64 (by omega) (by omega),inside_true (by omega) (by rw [len_eq];omega) (Int.le_refl _),sel_true,inside_true (by omega) (by omega) (by rw [len_eq];omega),sel_true]
    rw [show sub (r.drop 512) 0 (minus (k:Int) 0)=(r.drop 512).take k from sub_take _ k,show (k:Int) + (fillN k:Int)=((k + fillN k:Nat):Int) by omega,sub_drop _ (k + fillN k) (by omega),iadd_one (by omega)]
    refine ⟨_,_,_,rfl,.inr ⟨rfl,hok,?_,by omega,_,rfl,?_⟩⟩
    ·dsimp only;rw [List.length_take];omega
    ·rw [List.length_drop];omega

theorem okHd_small {h:Hd} (k:okHd h 256):h.1.length≤300∧h.2.2.2.2.2.2.2.1.length≤300:=by
 obtain ⟨_,_,_,_,_,⟨_,c1,_⟩,c2⟩:=k
 refine ⟨by omega,?_⟩
 rcases c2 with ⟨_,e⟩ | ⟨_,e,_⟩ | ⟨_,⟨_,e,_⟩,_⟩
 ·rw [e];simp
 ·rw [e];simp
 ·omega

def RdP (p:Pt):Prop:=p.1.1.length≤300∧p.1.2.2.2.2.2.2.2.1.length≤300∧p.2.1.length≤8192

theorem read_rest:∀ (m n:Nat) (r:List UInt8) (out:List Pt) (p:Pt),r.length≤m→r.length≤8192→out.length + 1=n→n≤64→(∀ q ∈ out ++ [p],RdP q) →
    ∃ (out':List Pt) (p':Pt) (b:Int×Bool),Loop P_tar_Read_L0 (((),((),(true,()))),(p,(out,(rd r (n:Int),()))))=some (((),((),(false,()))),(p',(out',(rdEnd b.1 b.2,()))))∧out'.length≤64∧∀ q ∈ out',RdP q:=by
  intro m
  induction m using Nat.strongRecOn with
  | _ m ih =>
    intro n r out p hm hr hn h64 hq
    obtain ⟨p1,ok1,st1,h1,h2⟩:=next_any r n (by omega)
    have hstep:=step_more p out (rd r (n:Int)) (by omega) h1
    rcases h2 with ⟨rfl,b,rfl⟩ | ⟨rfl,k1,k2,k3,r',rfl,k4⟩
    · refine ⟨out ++ [p],p1,((n:Int),b),?_,by rw [List.length_append];simp;omega,hq⟩
      rw [Loop_eq,hstep]
      show Loop _ _=_
      rw [Loop_eq,step_last];rfl
    · have hs:=okHd_small k1
      obtain ⟨o,p',b,z1,z2,z3⟩:=ih r'.length (by omega) (n + 1) r' (out ++ [p]) p1 (Nat.le_refl _) (by omega) (by rw [List.length_append];simp;omega) (by omega) (fun q hqq=>by
        rcases List.mem_append.1 hqq with hqq | hqq
        · exact hq q hqq
        · rw [List.mem_singleton] at hqq
          subst hqq
          exact ⟨hs.1,hs.2,by omega⟩)
      exact ⟨o,p',b,by rw [Loop_eq,hstep];exact z1,z2,z3⟩

theorem read_any (s:List UInt8):∃ l e,P_tar_Read (s,())=some (l,(e,()))∧l.length≤64∧(∀ q ∈ l,RdP q)∧(e=0∨(e=10∧l=[])):=by
 by_cases h8:8192 < s.length
 ·exact ⟨_,_,read_long s h8,by simp,fun q hq=>(by cases hq),.inr ⟨rfl,rfl⟩⟩
 obtain ⟨p,ok,st,h1,h2⟩:=next_any s 0 (by omega)
 have fin:∀ (b:Int×Bool) (o:List Pt),(obind (P_tar_Reader_Bad ((),(rdEnd b.1 b.2,()))) fun y3=>sel y3.1.1 (some (([]:List Pt),((10:Int),()))) (some (o,((0:Int),()))))=some (if b.2=true then (([]:List Pt),((10:Int),())) else (o,((0:Int),()))):=fun b o=>by
  obtain ⟨b1,b2⟩:=b
  cases b2 <;> rfl
 unfold P_tar_Read
 dsimp only
 rw [ltI_false (by rw [len_eq];omega),show P_tar_Reader_Next ((),((true,(s,((0:Int),(false,(false,()))))),()))=_ from h1,obind_some]
 dsimp only
 rcases h2 with ⟨rfl,b,rfl⟩ | ⟨rfl,k1,k2,k3,r',rfl,k4⟩
 ·rw [Loop_eq,step_last]
  show ∃ l e,(obind (P_tar_Reader_Bad ((),(rdEnd _ _,()))) fun y3=>sel y3.1.1 (some (([]:List Pt),((10:Int),()))) (some (([]:List Pt),((0:Int),()))))=_∧_
  rw [fin (_,_)]
  cases b with
  | true=>exact ⟨_,_,rfl,by simp,fun q hq=>(by cases hq),.inr ⟨rfl,rfl⟩⟩
  | false=>exact ⟨_,_,rfl,by simp,fun q hq=>(by cases hq),.inl rfl⟩
 ·have hs:=okHd_small k1
  obtain ⟨o,p',b,z1,z2,z3⟩:=read_rest r'.length 1 r' [] p (Nat.le_refl _) (by omega) rfl (by omega) (fun q hq=>by
   rw [List.nil_append,List.mem_singleton] at hq
   subst hq
   exact ⟨hs.1,hs.2,by omega⟩)
  rw [show Loop P_tar_Read_L0 (((),((),(true,()))),(p,(([]:List Pt),(rd r' ((0 + 1:Nat):Int),()))))=_ from z1,obind_some]
  dsimp only
  rw [fin b o]
  cases hb:b.2 with
  | true=>exact ⟨_,_,rfl,by simp,fun q hq=>(by cases hq),.inr ⟨rfl,rfl⟩⟩
  | false=>exact ⟨_,_,rfl,z2,z3,.inl rfl⟩
end Go.Ge
