/- Plain laws of what the functions compute: part 1. -/
import Derived.Test.YtpipdmfkbnbchaaGreatDoorGeI
import Derived.Lib.Repeat
namespace Go.Ge
set_option linter.unusedSectionVars false
variable [Lp]
set_option linter.unusedVariables false
set_option linter.unusedSimpArgs false
theorem iH{a b:Int}(h:-9223372036854775808≤a+b)(h2:a+b≤9223372036854775807):aI .i64 a b=a+b:=by
 unfold aI;simp[IntKind.wrap,IntKind.min,IntKind.max,IntKind.signed,IntKind.bits];omega
theorem fZ{a b:Int}(h:-9223372036854775808≤a-b)(h2:a-b≤9223372036854775807):dO .i64 a b=a-b:=by
 unfold dO;simp[IntKind.wrap,IntKind.min,IntKind.max,IntKind.signed,IntKind.bits];omega
theorem DH{a b:Int}(h:-9223372036854775808≤a*b)(h2:a*b≤9223372036854775807):lJ .i64 a b=a*b:=by
 unfold lJ;simp[IntKind.wrap,IntKind.min,IntKind.max,IntKind.signed,IntKind.bits];omega
theorem AJ{a:Int}(h:-9223372036854775808≤a)(h2:a≤9223372036854775807):qy .i64 a=a:=by
 unfold qy;simp[IntKind.wrap,IntKind.min,IntKind.max,IntKind.signed,IntKind.bits];omega
theorem wrap_u32(a:Int):IntKind.wrap .u32 a=a % 4294967296:=by
 simp[IntKind.wrap,IntKind.min,IntKind.max,IntKind.signed,IntKind.bits]
def Bv(x:Int):BitVec 32:=BitVec.ofInt 32 x
def Can(x:Int):Prop:=0≤x∧x<4294967296
theorem Pq(a:Int):Can (IntKind.wrap .u32 a):=by rw[wrap_u32];unfold Can;omega
theorem zv(a:Int):((Bv a).toNat:Int)=a % 4294967296:=by
 unfold Bv
 rw[BitVec.toNat_ofInt]
 have:0≤a % ((2 ^ 32:Nat):Int):=Int.emod_nonneg _ (by decide)
 rw[Int.toNat_of_nonneg this];rfl
theorem aat{a b:Int}(ha:Can a)(hb:Can b)(h:Bv a=Bv b):a=b:=by
 have h1:=zv a
 have h2:=zv b
 rw[h] at h1
 unfold Can at ha hb
 omega
theorem Ni(a:Int):Bv (IntKind.wrap .u32 a)=Bv a:=by
 apply BitVec.eq_of_toNat_eq
 have h1:=zv a
 have h2:=zv (IntKind.wrap .u32 a)
 rw[wrap_u32] at h2⊢
 omega
theorem Se(v:BitVec 32):Bv (v.toNat:Int)=v:=by
 apply BitVec.eq_of_toNat_eq
 have h1:=zv (v.toNat:Int)
 have:=v.isLt
 omega
theorem bv_and(x y:Int):Bv (jF .u32 x y)=Bv x &&& Bv y:=by unfold jF;rw[Ni];exact Se _
theorem WE(x y:Int):Bv (CW .u32 x y)=Bv x ||| Bv y:=by unfold CW;rw[Ni];exact Se _
theorem WG(x y:Int):Bv (eu .u32 x y)=Bv x ^^^ Bv y:=by unfold eu;rw[Ni];exact Se _
theorem Sf(x y:Int):Can (CW .u32 x y):=Pq _
theorem Nj(x y:Int):Can (eu .u32 x y):=Pq _
theorem Sg(x y:Int):CW .u32 x y=CW .u32 y x:=aat (Sf _ _) (Sf _ _) (by rw[WE,WE,BitVec.or_comm])
theorem Pr(x y:Int):aI .u32 x y=aI .u32 y x:=by unfold aI;rw[Int.add_comm]
theorem aci(e f g:Int):eu .u32 g (jF .u32 e (eu .u32 f g))=eu .u32 (jF .u32 e f) (jF .u32 (eu .u32 4294967295 e) g):=by
 refine aat (Nj _ _) (Nj _ _) ?_
 simp only[WG,bv_and]
 have h:Bv 4294967295=BitVec.allOnes 32:=by decide
 rw[h]
 ext i hi
 simp only[BitVec.getElem_xor,BitVec.getElem_and,BitVec.getElem_allOnes]
 cases (Bv e)[i]<;>cases (Bv f)[i]<;>cases (Bv g)[i]<;>rfl
theorem aau(a b c:Int):CW .u32 (jF .u32 a b) (jF .u32 c (CW .u32 a b))=eu .u32 (eu .u32 (jF .u32 a b) (jF .u32 a c)) (jF .u32 b c):=by
 refine aat (Sf _ _) (Nj _ _) ?_
 simp only[WG,bv_and,WE]
 ext i hi
 simp only[BitVec.getElem_xor,BitVec.getElem_and,BitVec.getElem_or]
 cases (Bv a)[i]<;>cases (Bv b)[i]<;>cases (Bv c)[i]<;>rfl
theorem aT{a b:Int}(h:a<b):aY a b=true:=by simp[aY,h]
theorem aJ{a b:Int}(h:b≤a):aY a b=false:=by simp[aY];omega
theorem cz{a b:Int}(h:a≤b):cO a b=true:=by simp[cO,h]
theorem eU{a b:Int}(h:b<a):cO a b=false:=by simp[cO];omega
theorem aR{a b:Int}(h:a=b):bC a b=true:=by simp[bC,h]
theorem aN{a b:Int}(h:a≠b):bC a b=false:=by simp[bC,h]
theorem cF{i n:Int}(h0:0≤i)(h1:i<n):within i n=true:=by simp[within,h0,h1]
theorem bB{i j n:Int}(h0:0≤i)(h1:i≤j)(h2:j≤n):inside i j n=true:=by simp[inside,h0,h1,h2]
theorem dD{n:Int}(h:n≤4294967296):fits n=true:=by simp[fits,h]
theorem fD{S:Type}(s:S):ep (some (.inl s:S⊕(Nat×S)))=some (.inl s):=rfl
theorem gL{S:Type}(n:Nat)(s:S):ep (some (.inr (n,s):S⊕(Nat×S)))=some (.inr s):=rfl
theorem nM{α:Type}(l:List α)(d:α){i:Nat}(h:i<l.length):idx l (i:Int)=some (l.getD i d):=by
 rw[uZ,List.getElem?_eq_getElem h,List.getD_eq_getElem?_getD,List.getElem?_eq_getElem h];rfl
theorem I3{α:Type}(l:List α)(d:α){i:Int}{k:Nat}(e:i=k)(h:k<l.length):idx l i=some (l.getD k d):=by subst e;exact nM l d h
theorem DI{α:Type}(l:List α)(i:Nat)(x:α):sX l (i:Int) x=l.set i x:=by simp[sX]
end Go.Ge
namespace Go.Ge
set_option linter.unusedSectionVars false
variable [Lp]
set_option linter.unusedVariables false
set_option linter.unusedSimpArgs false
def uN{α σ R:Type}(step:Nat→σ→α→Option (σ⊕R))(fin:Nat→σ→R):List α→Nat→σ→Option R
 | [],i,s=>some (fin i s)
 | x::r,i,s=>match step i s x with
   | none=>none
   | some (.inl s')=>uN step fin r (i+1) s'
   | some (.inr y)=>some y
theorem uh{α σ S R:Type}{f:S→Option (S⊕R)}(l:List α)(mk:σ→Nat→S)(step:Nat→σ→α→Option (σ⊕R))(fin:Nat→σ→R)(Inv:Nat→σ→Prop)
  (hstep:∀s i x,l[i]?=some x→i<l.length→Inv i s→f (mk s i)=(step i s x).map (fun q=>match q with|.inl s'=>.inl (mk s' (i+1))|.inr y=>.inr y))
  (hinv:∀s i x s',l[i]?=some x→Inv i s→step i s x=some (.inl s')→Inv (i+1) s')
  (Nk:∀s,Inv l.length s→f (mk s l.length)=some (.inr (fin l.length s))) (hsome:∀s i x,l[i]?=some x→Inv i s→step i s x≠none) :
  ∀s,Inv 0 s→Loop f (mk s 0)=uN step fin l 0 s:=by
 have key:∀(rest pre:List α) (s:σ),l=pre++rest→Inv pre.length s→Loop f (mk s pre.length)=uN step fin rest pre.length s:=by
  intro rest
  induction rest with
  | nil =>
    intro pre s hl hI
    rw[List.append_nil] at hl
    subst hl
    rw[aV,Nk s hI]
    rfl
  | cons x r ih =>
    intro pre s hl hI
    have hx:l[pre.length]?=some x:=by rw[hl];simp
    have hlt:pre.length<l.length:=by rw[hl];simp
    rw[aV,hstep s pre.length x hx hlt hI]
    unfold uN
    cases hs:step pre.length s x with
    | none=>exact absurd hs (hsome s _ x hx hI)
    | some q =>
      cases q with
      | inr y=>rfl
      | inl s' =>
        have:=ih (pre++[x]) s' (by rw[hl];simp) (by rw[List.length_append];exact hinv s _ x s' hx hI hs)
        rw[List.length_append] at this
        exact this
 intro s hI
 exact key l [] s rfl hI
theorem DJ{α:Type}(i:Nat)(l:List α):aY (i:Int) (len l)=decide (i<l.length):=by simp[aY,len]
theorem DK{α:Type}(l:List α):aY (0:Int) (len l)=decide (0<l.length):=DJ 0 l
theorem HF{α:Type}(i:Nat)(l:List α):cO (len l) (i:Int)=decide (l.length≤i):=by simp[cO,len]
theorem Pu{α β:Type}(l:List α)(m:List β):aY (len l) (len m)=decide (l.length<m.length):=by simp[aY,len]
theorem I4{α β:Type}(l:List α)(m:List β):cO (len l) (len m)=decide (l.length≤m.length):=by simp[cO,len]
theorem WH{α β:Type}(l:List α)(m:List β):bC (len l) (len m)=decide (l.length=m.length):=by unfold bC len;apply decide_eq_decide.2;omega
theorem cM{α β:Type}{l:List α}{m:List β}(h:l.length+m.length≤4294967296):fits (plus (len l) (len m))=true:=by
 apply dD;simp only[plus,len];omega
theorem lX{α:Type}(c:Bool)(x y:α):aj c x y=if c=true then x else y:=by cases c<;>rfl
theorem Nl{a b:List UInt8}:cc a b=decide (a=b):=rfl
theorem cu{a b:List UInt8}(h:a≠b):cc a b=false:=by simp[cc,h]
theorem fE{a b:List UInt8}(h:a=b):cc a b=true:=by simp[cc,h]
theorem Bz{c:UInt8}{n:UInt8}:bC (u8 c) (n.toNat:Int)=decide (c=n):=by
 unfold bC u8
 by_cases h:c=n
 ·simp[h]
 ·have:c.toNat≠n.toNat:=fun e=>h (UInt8.toNat_inj.1 e)
  simp[h];omega
theorem jl{α:Type}(l:List α)(n:Nat):sub l 0 (minus (n:Int) 0)=l.take n:=by
 unfold sub minus
 simp
theorem LR{α β:Type}(l:List α)(m:List β):sub l 0 (minus (len m) 0)=l.take m.length:=jl l m.length
theorem pV{α:Type}(l:List α)(n:Nat)(h:n≤l.length):sub l (n:Int) (minus (len l) (n:Int))=l.drop n:=by
 unfold sub minus len
 rw[Int.toNat_natCast]
 apply List.take_of_length_le
 rw[List.length_drop]
 omega
theorem cG:fB 0 0=true:=rfl
theorem jc:fB 1 0=false:=rfl
theorem aH{α:Type}{l:List α}{i:Nat}{x:α}(h:l[i]?=some x):i<l.length:=(List.getElem?_eq_some_iff.1 h).1
theorem sub_one{α:Type}{l:List α}{i:Nat}{x:α}(h:l[i]?=some x):sub l (i:Int) (minus ((i+1:Nat):Int) (i:Int))=[x]:=by
 unfold sub minus
 rw[show((i+1:Nat):Int)-(i:Int)=1 by omega,Int.toNat_natCast]
 obtain⟨hi,rfl⟩:=List.getElem?_eq_some_iff.1 h
 rw[List.drop_eq_getElem_cons hi]
 rfl
theorem Si{a b n:Nat}(h:a≤b)(k:b≤n):inside (a:Int) (b:Int) (n:Int)=true:=bB (by omega) (by omega) (by omega)
theorem qH{α:Type}{a b:Nat}{l:List α}(h:a≤b)(k:b≤l.length):inside (a:Int) (b:Int) (len l)=true:=Si h k
theorem az{α:Type}{l:List α}{i:Nat}{x:α}(h:l[i]?=some x):idx l (i:Int)=some x:=by rw[uZ,h]
theorem au{α:Type}{l:List α}{i:Nat}(h:i<l.length):aY (i:Int) (len l)=true:=by rw[DJ,decide_eq_true h]
theorem aE{α:Type}{l:List α}:aY (l.length:Int) (len l)=false:=by rw[DJ,decide_eq_false (by omega)]
theorem Cv{α:Type}(l m:List α):app l m=l++m:=rfl
theorem TC(b:Bool):nt b=!b:=rfl
theorem bN{α:Type}(l:List α):len l=(l.length:Int):=rfl
end Go.Ge
namespace Go.Ge
set_option linter.unusedSectionVars false
variable [Lp]
set_option linter.unusedVariables false
set_option linter.unusedSimpArgs false
theorem YU(y:List UInt8):iD [] y=decide (y≠[]):=by cases y<;>simp[iD,Op.bytesLess]
theorem I5(x:List UInt8):iD x []=false:=by cases x<;>simp[iD,Op.bytesLess]
theorem DL(a b:UInt8)(x y:List UInt8):iD (a::x) (b::y)=(decide (a<b)||(a==b&&iD x y)):=by simp[iD,Op.bytesLess]
theorem Uz(a:UInt8):¬a<a:=UInt8.lt_irrefl a
theorem aav(a b:UInt8):a<b∨a=b∨b<a:=by
 rcases Nat.lt_trichotomy a.toNat b.toNat with h|h|h
 ·exact .inl h
 ·exact .inr (.inl (UInt8.toNat_inj.1 h))
 ·exact .inr (.inr h)
theorem qI:∀x:List UInt8,iD x x=false:=by
 intro x
 induction x with
 | nil=>rfl
 | cons a x ih=>rw[DL,ih];simp[Uz]
theorem AK:∀{x y z:List UInt8},iD x y=true→iD y z=true→iD x z=true:=by
 intro x
 induction x with
 | nil =>
   intro y z h k
   cases z with
   | nil=>rw[I5] at k;cases k
   | cons c z=>rfl
 | cons a x ih =>
   intro y z h k
   cases y with
   | nil=>rw[I5] at h;cases h
   | cons b y =>
     cases z with
     | nil=>rw[I5] at k;cases k
     | cons c z =>
       rw[DL] at h k⊢
       simp only[Bool.or_eq_true,decide_eq_true_eq,Bool.and_eq_true,beq_iff_eq] at h k⊢
       rcases h with h|⟨rfl,h⟩
       ·rcases k with k|⟨rfl,k⟩
        ·exact .inl (UInt8.lt_trans h k)
        ·exact .inl h
       ·rcases k with k|⟨rfl,k⟩
        ·exact .inl k
        ·exact .inr ⟨rfl,ih h k⟩
theorem HG:∀(x y:List UInt8),iD x y=true∨x=y∨iD y x=true:=by
 intro x
 induction x with
 | nil=>intro y;cases y<;>simp[YU]
 | cons a x ih =>
   intro y
   cases y with
   | nil=>exact .inr (.inr rfl)
   | cons b y =>
     rw[DL,DL]
     simp only[Bool.or_eq_true,decide_eq_true_eq,Bool.and_eq_true,beq_iff_eq]
     rcases aav a b with h|rfl|h
     ·exact .inl (.inl h)
     ·rcases ih y with h|rfl|h
      ·exact .inl (.inr ⟨rfl,h⟩)
      ·exact .inr (.inl rfl)
      ·exact .inr (.inr (.inr ⟨rfl,h⟩))
     ·exact .inr (.inr (.inl h))
theorem wM{x y:List UInt8}(h:iD x y=true):iD y x=false:=by
 cases k:iD y x with
 | false=>rfl
 | true=>have:=AK h k;rw[qI] at this;cases this
theorem Fb{x y:List UInt8}(h:iD x y=true):x≠y:=fun e=>by rw[e,qI] at h;cases h
theorem aaw(x y:List UInt8):nt (oor (iD x y) (cc x y))=iD y x:=by
 rcases HG x y with h|rfl|h
 ·rw[h,wM h];rfl
 ·rw[ug,qI];rfl
 ·rw[h,wM h,cu (fun e=>Fb h e.symm)];rfl
def cmpL:List (List UInt8)→List (List UInt8)→Int
 | [],[]=>0
 | [],_::_=>-1
 | _::_,[]=>1
 | a::x,b::y=>if a=b then cmpL x y else if iD a b=true then -1 else 1
theorem oW:∀x,cmpL x x=0:=by
 intro x
 induction x with
 | nil=>rfl
 | cons a x ih=>rw[cmpL,if_pos rfl];exact ih
theorem UA:∀{x y},cmpL x y=0→x=y:=by
 intro x
 induction x with
 | nil=>intro y h;cases y with|nil=>rfl|cons b y=>cases h
 | cons a x ih =>
   intro y h
   cases y with
   | nil=>cases h
   | cons b y =>
     rw[cmpL] at h
     split at h
     ·rename_i e;rw[e,ih h]
     ·split at h<;>cases h
theorem WI:∀x y,cmpL x y=- cmpL y x:=by
 intro x
 induction x with
 | nil=>intro y;cases y<;>rfl
 | cons a x ih =>
   intro y
   cases y with
   | nil=>rfl
   | cons b y =>
     rw[cmpL,cmpL]
     by_cases e:a=b
     ·rw[if_pos e,if_pos e.symm,ih y]
     ·have e':¬b=a:=fun q=>e q.symm
      rw[if_neg e,if_neg e']
      rcases HG a b with h|h|h
      ·rw[if_pos h,if_neg (by rw[wM h];simp)]
      ·exact absurd h e
      ·rw[if_neg (by rw[wM h];simp),if_pos h];rfl
theorem uj:∀{x y z},cmpL x y<0→cmpL y z<0→cmpL x z<0:=by
 intro x
 induction x with
 | nil =>
   intro y z h k
   cases z with
   | nil=>cases y with|nil=>exact absurd k (by simp[cmpL])|cons b y=>exact absurd k (by simp[cmpL])
   | cons c z=>exact(by decide:(-1:Int)<0)
 | cons a x ih =>
   intro y z h k
   cases y with
   | nil=>exact absurd h (by simp[cmpL])
   | cons b y =>
     cases z with
     | nil=>exact absurd k (by simp[cmpL])
     | cons c z =>
       rw[cmpL] at h k⊢
       by_cases e:a=b
       ·subst e
        rw[if_pos rfl] at h
        by_cases e2:a=c
        ·subst e2
         rw[if_pos rfl] at k⊢
         exact ih h k
        ·rw[if_neg e2] at k⊢
         exact k
       ·rw[if_neg e] at h
        have hab:iD a b=true:=by
         cases q:iD a b with
         | true=>rfl
         | false=>rw[q,if_neg (by simp)] at h;exact absurd h (by decide)
        by_cases e2:b=c
        ·subst e2
         rw[if_neg e]
         exact h
        ·rw[if_neg e2] at k
         have hbc:iD b c=true:=by
          cases q:iD b c with
          | true=>rfl
          | false=>rw[q,if_neg (by simp)] at k;exact absurd k (by decide)
         have hac:=AK hab hbc
         rw[if_neg (Fb hac),if_pos hac]
         decide
theorem aax{α β:Type}{x:List α}{y:List β}{i:Nat}{p:α×β}(h:(x.zip y)[i]?=some p):x[i]?=some p.1∧y[i]?=some p.2:=by
 rw[List.getElem?_zip_eq_some] at h
 exact h
theorem WJ{α:Type}[DecidableEq α]:∀(x y:List α),(x.zip y).all (fun p=>decide (p.1=p.2))=decide (x.take (min x.length y.length)=y.take (min x.length y.length)):=by
 intro x
 induction x with
 | nil=>intro y;simp
 | cons a x ih =>
   intro y
   cases y with
   | nil=>simp
   | cons b y =>
     rw[List.zip_cons_cons,List.all_cons,ih y]
     simp only[List.length_cons,Nat.add_min_add_right,List.take_succ_cons]
     by_cases e:a=b
     ·subst e;simp
     ·simp[e]
end Go.Ge
namespace Go.Ge
set_option linter.unusedSectionVars false
variable [Lp]
set_option linter.unusedVariables false
set_option linter.unusedSimpArgs false
theorem WK{α:Type}(l:List α)(p:Nat→α→Bool) :
  (∃i x,l[i]?=some x∧p i x=true∧∀j y,j<i→l[j]?=some y→p j y=false)∨∀i x,l[i]?=some x→p i x=false:=by
 by_cases h:∃i x,l[i]?=some x∧p i x=true
 ·left
  have key:∀n i x,i≤n→l[i]?=some x→p i x=true→∃i x,l[i]?=some x∧p i x=true∧∀j y,j<i→l[j]?=some y→p j y=false:=by
   intro n
   induction n with
   | zero =>
     intro i x hi hx hp
     obtain rfl:i=0:=by omega
     exact⟨0,x,hx,hp,fun j y hj=>by omega⟩
   | succ n ih =>
     intro i x hi hx hp
     by_cases k:∃j y,j<i∧l[j]?=some y∧p j y=true
     ·obtain⟨j,y,hj,hy,hq⟩:=k
      exact ih j y (by omega) hy hq
     ·refine⟨i,x,hx,hp,fun j y hj hy=>?_⟩
      cases hq:p j y with
      | false=>rfl
      | true=>exact absurd ⟨j,y,hj,hy,hq⟩ k
  obtain⟨i,x,hx,hp⟩:=h
  exact key i i x (Nat.le_refl _) hx hp
 ·right
  intro i x hx
  cases hq:p i x with
  | false=>rfl
  | true=>exact absurd ⟨i,x,hx,hq⟩ h
theorem mM{α S R:Type}{f:S→Option (S⊕R)}(l:List α)(mk:Int→S)(p:Nat→α→Bool)(UB:Nat→α→R)(UC:R)(hl:l.length≤4294967296)
  (hstep:∀i x,l[i]?=some x→i<l.length→aI .i64 (i:Int) 1=((i+1:Nat):Int)→f (mk (i:Int))=some (if p i x=true then .inr (UB i x) else .inl (mk ((i+1:Nat):Int))))
  (Nk:f (mk (l.length:Int))=some (.inr UC)) :
  (∃i x,l[i]?=some x∧p i x=true∧(∀j y,j<i→l[j]?=some y→p j y=false)∧Loop f (mk 0)=some (UB i x))∨((∀i x,l[i]?=some x→p i x=false)∧Loop f (mk 0)=some UC):=by
 have adv:∀i x,l[i]?=some x→p i x=false→f (mk (i:Int))=some (.inl (mk ((i+1:Nat):Int))):=fun i x hx hp=>by
  have hi:=aH hx
  rw[hstep i x hx hi (aZ (by omega)),hp];rfl
 rcases WK l p with ⟨i,x,hx,hp,hj⟩|hn
 ·left
  refine⟨i,x,hx,hp,hj,?_⟩
  have hi:=aH hx
  refine ez i (fun j:Nat=>mk (j:Int)) (fun j hji=>?_) ?_
  ·have hjl:j<l.length:=by omega
   exact adv j l[j] (List.getElem?_eq_getElem hjl) (hj j _ hji (List.getElem?_eq_getElem hjl))
  ·rw[hstep i x hx hi (aZ (by omega)),hp];rfl
 ·right
  refine⟨hn,ez l.length (fun j:Nat=>mk (j:Int)) (fun j hj=>?_) Nk⟩
  exact adv j l[j] (List.getElem?_eq_getElem hj) (hn j _ (List.getElem?_eq_getElem hj))
theorem qJ{α S R:Type}{f:S→Option (S⊕R)}(l:List α)(n:Nat)(mk:Int→S)(p:Nat→α→Bool)(UB:Nat→α→R)(UC:Nat→R)(hl:min n l.length≤4294967296)
  (hstep:∀i x,l[i]?=some x→i<l.length→i<n→aI .i64 (i:Int) 1=((i+1:Nat):Int)→f (mk (i:Int))=some (if p i x=true then .inr (UB i x) else .inl (mk ((i+1:Nat):Int))))
  (Nk:f (mk ((min n l.length:Nat):Int))=some (.inr (UC (min n l.length)))) :
  (∃i x,i<n∧l[i]?=some x∧p i x=true∧(∀j y,j<i→l[j]?=some y→p j y=false)∧Loop f (mk 0)=some (UB i x))∨((∀i x,i<n→l[i]?=some x→p i x=false)∧Loop f (mk 0)=some (UC (min n l.length))):=by
 have ht:∀i x,(l.take n)[i]?=some x↔(i<n∧l[i]?=some x):=fun i x=>by
  rw[List.getElem?_take]
  by_cases h:i<n
  ·simp[h]
  ·simp[h]
 have hlen:(l.take n).length=min n l.length:=List.length_take
 rcases mM (f:=f) (l.take n) mk p UB (UC (min n l.length)) (by rw[hlen];exact hl) (fun i x hx hi G7=>by
  obtain⟨h1,h2⟩:=(ht i x).1 hx
  exact hstep i x h2 (aH h2) h1 G7) (by rw[hlen];exact Nk) with ⟨i,x,hx,hp,hj,h⟩|⟨hn,h⟩
 ·obtain⟨h1,h2⟩:=(ht i x).1 hx
  exact .inl ⟨i,x,h1,h2,hp,fun j y hji hy=>hj j y hji ((ht j y).2 ⟨by omega,hy⟩),h⟩
 ·exact .inr ⟨fun i x hi hx=>hn i x ((ht i x).2 ⟨hi,hx⟩),h⟩
theorem Fc{α σ S R:Type}{f:S→Option (S⊕R)}(l:List α)(mk:σ→Int→S)(step:σ→Nat→α→σ)(fin:σ→R)(Inv:σ→Nat→Prop)(hl:l.length≤4294967296)
  (hstep:∀s i x,l[i]?=some x→i<l.length→aI .i64 (i:Int) 1=((i+1:Nat):Int)→Inv s i→f (mk s (i:Int))=some (.inl (mk (step s i x) ((i+1:Nat):Int)))∧Inv (step s i x) (i+1))
  (Nk:∀s,Inv s l.length→f (mk s (l.length:Int))=some (.inr (fin s))) (s:σ) (h0:Inv s 0):∃t,Inv t l.length∧Loop f (mk s 0)=some (fin t)∧t=(l.zipIdx).foldl (fun a p=>step a p.2 p.1) s:=by
 have key:∀(rest pre:List α) (s:σ),l=pre++rest→Inv s pre.length→∃t,Inv t l.length∧Loop f (mk s (pre.length:Int))=some (fin t)∧t=(rest.zipIdx pre.length).foldl (fun a p=>step a p.2 p.1) s:=by
  intro rest
  induction rest with
  | nil =>
    intro pre s Hv hI
    rw[List.append_nil] at Hv
    subst Hv
    exact⟨s,hI,by rw[aV,Nk s hI];rfl,rfl⟩
  | cons x r ih =>
    intro pre s Hv hI
    have hx:l[pre.length]?=some x:=by rw[Hv];simp
    have hlt:=aH hx
    obtain⟨h1,h2⟩:=hstep s pre.length x hx hlt (aZ (by omega)) hI
    obtain⟨t,t1,t2,t3⟩:=ih (pre++[x]) (step s pre.length x) (by rw[Hv];simp) (by rw[List.length_append];exact h2)
    rw[List.length_append] at t2 t3
    exact⟨t,t1,by rw[aV,h1];exact t2,t3⟩
 exact key l [] s rfl h0
theorem zw{α β S R:Type}{f:S→Option (S⊕R)}(l:List α)(mk:List β→Int→S)(g:α→List β)(fin:R)(hl:l.length≤4294967296)
  (hstep:∀i x,l[i]?=some x→i<l.length→aI .i64 (i:Int) 1=((i+1:Nat):Int)→f (mk ((l.take i).flatMap g) (i:Int))=some (.inl (mk ((l.take i).flatMap g++g x) ((i+1:Nat):Int))))
  (Nk:f (mk (l.flatMap g) (l.length:Int))=some (.inr fin)):Loop f (mk [] 0)=some fin:=by
 refine ez l.length (fun j:Nat=>mk ((l.take j).flatMap g) (j:Int)) (fun j hj=>?_) (by simp only[List.take_length];exact Nk)
 have hx:l[j]?=some l[j]:=List.getElem?_eq_getElem hj
 have:=hstep j l[j] hx hj (aZ (by omega))
 rw[this,List.take_add_one,hx,List.flatMap_append]
 simp
theorem wN{α:Type}{l:List α}(h:l.length≤4294967296):fits (len l)=true:=Uv h
theorem bQ{α:Type}{l:List α}{x:α}:x∈l↔∃i:Nat,l[i]?=some x:=by rw[List.mem_iff_getElem?]
end Go.Ge
namespace Go.Ge
abbrev Sb:=List UInt8
set_option linter.unusedSectionVars false
variable [Lp]
noncomputable def pW:(Ty.pair .str (.pair (.int .u8) .unit)).den→Option (Ty.pair (.int .i64) .unit).den:=fun x=>some (Lib.indexByte x.1 (show Int from x.2.1).toNat.toUInt8,())
end Go.Ge
namespace Go.Ge
set_option linter.unusedSectionVars false
variable [Lp]
set_option linter.unusedVariables false
set_option maxRecDepth 100000
abbrev lM:=((Bool×(List (Int))×Unit)×(List (Int))×Int×Unit)
abbrev fo:=((Int×Unit)×(List (Int))×Unit)
abbrev wO:=(Int×Int×Int×Int×Int×Int×Int×Int×Int×Unit)
abbrev uO:=((Nat×(Int×Unit)×(List (Int))×Unit))
abbrev Pv:=(Bool×(List (Int))×Unit)
abbrev I6:=((List (Int))×Unit)
abbrev WL:=((Unit×Int×Unit)×(List (Int))×Unit)
abbrev WM:=((Unit×Unit)×(List (Int))×Unit)
abbrev WN:=((Int×Unit)×Pv×Unit)
abbrev WO:=((Int×Unit)×lM×Unit)
noncomputable def zx(x:Unit):Option I6 :=
 some (([(1779033703:Int),(3144134277:Int),(1013904242:Int),(2773480762:Int),(1359893119:Int),(2600822924:Int),(528734635:Int),(1541459225:Int)]:List (Int)),())
noncomputable def zy(x:Unit):Option I6 :=
 some (([(1116352408:Int),(1899447441:Int),(3049323471:Int),(3921009573:Int),(961987163:Int),(1508970993:Int),(2453635748:Int),(2870763221:Int),(3624381080:Int),(310598401:Int),(607225278:Int),(1426881987:Int),(1925078388:Int),(2162078206:Int),(2614888103:Int),(3248222580:Int),(3835390401:Int),(4022224774:Int),(264347078:Int),(604807628:Int),(770255983:Int),(1249150122:Int),(1555081692:Int),(1996064986:Int),(2554220882:Int),(2821834349:Int),(2952996808:Int),(3210313671:Int),(3336571891:Int),(3584528711:Int),(113926993:Int),(338241895:Int),(666307205:Int),(773529912:Int),(1294757372:Int),(1396182291:Int),(1695183700:Int),(1986661051:Int),(2177026350:Int),(2456956037:Int),(2730485921:Int),(2820302411:Int),(3259730800:Int),(3345764771:Int),(3516065817:Int),(3600352804:Int),(4094571909:Int),(275423344:Int),(430227734:Int),(506948616:Int),(659060556:Int),(883997877:Int),(958139571:Int),(1322822218:Int),(1537002063:Int),(1747873779:Int),(1955562222:Int),(2024104815:Int),(2227730452:Int),(2361852424:Int),(2428436474:Int),(2756734187:Int),(3204031479:Int),(3329325298:Int)]:List (Int)),())
noncomputable def iU(x:Int×Int×Unit):Option (Int×Unit) :=
 aj (aY (jF IntKind.u64 (qy IntKind.u64 x.2.1) (31:Int)) (0:Int))
 none
 (aj (aY (dO IntKind.u64 (32:Int) (jF IntKind.u64 (qy IntKind.u64 x.2.1) (31:Int))) (0:Int))
 none
 (some (CW IntKind.u32 (yQ IntKind.u32 x.1 (jF IntKind.u64 (qy IntKind.u64 x.2.1) (31:Int))) (rN IntKind.u32 x.1 (dO IntKind.u64 (32:Int) (jF IntKind.u64 (qy IntKind.u64 x.2.1) (31:Int)))),())))
noncomputable def cq(x:Int×Int×Unit):Option (Int×Unit) :=
 ah (iU (x.1,(dO IntKind.i64 (0:Int) x.2.1,()))) (fun(y1:Int×Unit)=>some (y1.1,()))
noncomputable def DM(x:(List (Int))×Unit)(y1:(Int×Unit)×(List (Int))×Unit)(y2:(Int×Unit)×(List (Int))×Unit):Option (fo⊕fo) :=
 @ep fo (aj (aY y2.1.1 (minus (aI IntKind.i64 (lJ IntKind.i64 (4:Int) y1.1.1) (4:Int)) (lJ IntKind.i64 (4:Int) y1.1.1)))
 (aj (within y2.1.1 (minus (aI IntKind.i64 (lJ IntKind.i64 (4:Int) y1.1.1) (4:Int)) (lJ IntKind.i64 (4:Int) y1.1.1)))
 (ah (@idx Int x.1 (plus (lJ IntKind.i64 (4:Int) y1.1.1) y2.1.1)) (fun(y3:Int)=>aj (within y1.1.1 (64:Int))
 (ah (@idx Int y2.2.1 y1.1.1) (fun(y4:Int)=>aj (aY (8:Int) (0:Int))
 none
 (aj (within y1.1.1 (64:Int))
 (ah (@idx Int y2.2.1 y1.1.1) (fun(y5:Int)=>ah (@idx Int y2.2.1 y1.1.1) (fun(y6:Int)=>ah (@idx Int y2.2.1 y1.1.1) (fun(y7:Int)=>some (Sum.inl ((aI IntKind.i64 y2.1.1 (1:Int),()),(@sX Int y2.2.1 y1.1.1 (CW IntKind.u32 (yQ IntKind.u32 y4 (8:Int)) (qy IntKind.u32 y3)),())):(fo)⊕uO)))))
 none)))
 none))
 none)
 (some (Sum.inr ((0:Nat),((y2.1.1,()),(y2.2.1,()))):(fo)⊕uO)))
noncomputable def DN(x:(List (Int))×Unit)(y1:(Int×Unit)×(List (Int))×Unit):Option (fo⊕fo) :=
 @ep fo (aj (aY y1.1.1 (16:Int))
 (aj (inside (lJ IntKind.i64 (4:Int) y1.1.1) (aI IntKind.i64 (lJ IntKind.i64 (4:Int) y1.1.1) (4:Int)) (64:Int))
 (ah (Loop (DM x y1) (((0:Int),()),(y1.2.1,()))) (fun(y2:(Int×Unit)×(List (Int))×Unit)=>some (Sum.inl ((aI IntKind.i64 y1.1.1 (1:Int),()),(y2.2.1,())):(fo)⊕uO)))
 none)
 (some (Sum.inr ((0:Nat),((y1.1.1,()),(y1.2.1,()))):(fo)⊕uO)))
noncomputable def DO(y2:(Int×Unit)×(List (Int))×Unit):Option (fo⊕fo) :=
 @ep fo (aj (aY y2.1.1 (64:Int))
 (aj (within (dO IntKind.i64 y2.1.1 (2:Int)) (64:Int))
 (ah (@idx Int y2.2.1 (dO IntKind.i64 y2.1.1 (2:Int))) (fun(y3:Int)=>aj (within (dO IntKind.i64 y2.1.1 (15:Int)) (64:Int))
 (ah (@idx Int y2.2.1 (dO IntKind.i64 y2.1.1 (15:Int))) (fun(y4:Int)=>ah (cq (y4,((7:Int),()))) (fun(y5:Int×Unit)=>ah (cq (y4,((18:Int),()))) (fun(y6:Int×Unit)=>aj (aY (3:Int) (0:Int))
 none
 (ah (cq (y3,((17:Int),()))) (fun(y7:Int×Unit)=>ah (cq (y3,((19:Int),()))) (fun(y8:Int×Unit)=>aj (aY (10:Int) (0:Int))
 none
 (aj (within (dO IntKind.i64 y2.1.1 (7:Int)) (64:Int))
 (ah (@idx Int y2.2.1 (dO IntKind.i64 y2.1.1 (7:Int))) (fun(y9:Int)=>aj (within (dO IntKind.i64 y2.1.1 (16:Int)) (64:Int))
 (ah (@idx Int y2.2.1 (dO IntKind.i64 y2.1.1 (16:Int))) (fun(tf:Int)=>aj (within y2.1.1 (64:Int))
 (ah (@idx Int y2.2.1 y2.1.1) (fun(oc:Int)=>ah (@idx Int y2.2.1 y2.1.1) (fun(gv:Int)=>ah (@idx Int y2.2.1 y2.1.1) (fun(fh:Int)=>some (Sum.inl ((aI IntKind.i64 y2.1.1 (1:Int),()),(@sX Int y2.2.1 y2.1.1 (aI IntKind.u32 (aI IntKind.u32 (aI IntKind.u32 (eu IntKind.u32 (eu IntKind.u32 y7.1 y8.1) (rN IntKind.u32 y3 (10:Int))) y9) (eu IntKind.u32 (eu IntKind.u32 y5.1 y6.1) (rN IntKind.u32 y4 (3:Int)))) tf),())):(fo)⊕uO)))))
 none))
 none))
 none))))))))
 none))
 none)
 (some (Sum.inr ((0:Nat),((y2.1.1,()),(y2.2.1,()))):(fo)⊕uO)))
noncomputable def uk(x:(List (Int))×Unit):Option I6 :=
 ah (Loop (DN x) (((0:Int),()),(([(0:Int),(0:Int),(0:Int),(0:Int),(0:Int),(0:Int),(0:Int),(0:Int),(0:Int),(0:Int),(0:Int),(0:Int),(0:Int),(0:Int),(0:Int),(0:Int),(0:Int),(0:Int),(0:Int),(0:Int),(0:Int),(0:Int),(0:Int),(0:Int),(0:Int),(0:Int),(0:Int),(0:Int),(0:Int),(0:Int),(0:Int),(0:Int),(0:Int),(0:Int),(0:Int),(0:Int),(0:Int),(0:Int),(0:Int),(0:Int),(0:Int),(0:Int),(0:Int),(0:Int),(0:Int),(0:Int),(0:Int),(0:Int),(0:Int),(0:Int),(0:Int),(0:Int),(0:Int),(0:Int),(0:Int),(0:Int),(0:Int),(0:Int),(0:Int),(0:Int),(0:Int),(0:Int),(0:Int),(0:Int)]:List (Int)),()))) (fun(y1:(Int×Unit)×(List (Int))×Unit)=>ah (Loop (DO) (((16:Int),()),(y1.2.1,()))) (fun(y2:(Int×Unit)×(List (Int))×Unit)=>some (y2.2.1,())))
noncomputable def zz(y2:(List (Int))×Unit)(y3:(List (Int))×Unit)(gv:wO×Unit):Option ((wO×Unit)⊕(wO×Unit)) :=
 @ep (wO×Unit) (aj (aY gv.1.2.2.2.2.2.2.2.2.1 (64:Int))
 (ah (cq (gv.1.2.2.2.2.1,((6:Int),()))) (fun(fh:Int×Unit)=>ah (cq (gv.1.2.2.2.2.1,((11:Int),()))) (fun(xw:Int×Unit)=>ah (cq (gv.1.2.2.2.2.1,((25:Int),()))) (fun(HH:Int×Unit)=>aj (within gv.1.2.2.2.2.2.2.2.2.1 (64:Int))
 (ah (@idx Int y2.1 gv.1.2.2.2.2.2.2.2.2.1) (fun(Oe:Int)=>aj (within gv.1.2.2.2.2.2.2.2.2.1 (64:Int))
 (ah (@idx Int y3.1 gv.1.2.2.2.2.2.2.2.2.1) (fun(J9:Int)=>ah (cq (gv.1.1,((2:Int),()))) (fun(Yd:Int×Unit)=>ah (cq (gv.1.1,((13:Int),()))) (fun(Sj:Int×Unit)=>ah (cq (gv.1.1,((22:Int),()))) (fun(QT:Int×Unit)=>some (Sum.inl ((aI IntKind.u32 (aI IntKind.u32 (aI IntKind.u32 (aI IntKind.u32 (aI IntKind.u32 gv.1.2.2.2.2.2.2.2.1 (eu IntKind.u32 (eu IntKind.u32 fh.1 xw.1) HH.1)) (eu IntKind.u32 gv.1.2.2.2.2.2.2.1 (jF IntKind.u32 gv.1.2.2.2.2.1 (eu IntKind.u32 gv.1.2.2.2.2.2.1 gv.1.2.2.2.2.2.2.1)))) Oe) J9) (aI IntKind.u32 (eu IntKind.u32 (eu IntKind.u32 Yd.1 Sj.1) QT.1) (CW IntKind.u32 (jF IntKind.u32 gv.1.1 gv.1.2.1) (jF IntKind.u32 gv.1.2.2.1 (CW IntKind.u32 gv.1.1 gv.1.2.1)))),(gv.1.1,(gv.1.2.1,(gv.1.2.2.1,(aI IntKind.u32 gv.1.2.2.2.1 (aI IntKind.u32 (aI IntKind.u32 (aI IntKind.u32 (aI IntKind.u32 gv.1.2.2.2.2.2.2.2.1 (eu IntKind.u32 (eu IntKind.u32 fh.1 xw.1) HH.1)) (eu IntKind.u32 gv.1.2.2.2.2.2.2.1 (jF IntKind.u32 gv.1.2.2.2.2.1 (eu IntKind.u32 gv.1.2.2.2.2.2.1 gv.1.2.2.2.2.2.2.1)))) Oe) J9),(gv.1.2.2.2.2.1,(gv.1.2.2.2.2.2.1,(gv.1.2.2.2.2.2.2.1,(aI IntKind.i64 gv.1.2.2.2.2.2.2.2.2.1 (1:Int),()))))))))),()):((wO×Unit))⊕((Nat×wO×Unit))))))))
 none))
 none))))
 (some (Sum.inr ((0:Nat),((gv.1.1,(gv.1.2.1,(gv.1.2.2.1,(gv.1.2.2.2.1,(gv.1.2.2.2.2.1,(gv.1.2.2.2.2.2.1,(gv.1.2.2.2.2.2.2.1,(gv.1.2.2.2.2.2.2.2.1,(gv.1.2.2.2.2.2.2.2.2.1,()))))))))),())):((wO×Unit))⊕((Nat×wO×Unit)))))
noncomputable def zA(gv:wO×Unit)(fh:(Int×Unit)×Pv×Unit):Option (WN⊕WN) :=
 @ep WN (aj (aY fh.1.1 (8:Int))
 (ah (@idx Int ([gv.1.1,gv.1.2.1,gv.1.2.2.1,gv.1.2.2.2.1,gv.1.2.2.2.2.1,gv.1.2.2.2.2.2.1,gv.1.2.2.2.2.2.2.1,gv.1.2.2.2.2.2.2.2.1]:List (Int)) fh.1.1) (fun(xw:Int)=>aj (within fh.1.1 (8:Int))
 (ah (@idx Int fh.2.1.2.1 fh.1.1) (fun(HH:Int)=>aj (within fh.1.1 (8:Int))
 (ah (@idx Int fh.2.1.2.1 fh.1.1) (fun(Oe:Int)=>ah (@idx Int fh.2.1.2.1 fh.1.1) (fun(J9:Int)=>ah (@idx Int fh.2.1.2.1 fh.1.1) (fun(Yd:Int)=>some (Sum.inl ((aI IntKind.i64 fh.1.1 (1:Int),()),((fh.2.1.1,(@sX Int fh.2.1.2.1 fh.1.1 (aI IntKind.u32 HH xw),fh.2.1.2.2)),())):(WN)⊕((Nat×(Int×Unit)×Pv×Unit)))))))
 none))
 none))
 (some (Sum.inr ((0:Nat),((fh.1.1,()),(fh.2.1,()))):(WN)⊕((Nat×(Int×Unit)×Pv×Unit)))))
noncomputable def DP(x:I6×Pv×Unit):Option (Unit×Pv×Unit) :=
 ah (aj (nt x.2.1.1)
 (ah (zx ()) (fun(y1:(List (Int))×Unit)=>some ((),((true,(y1.1,x.2.1.2.2)),()))))
 (some ((),(x.2.1,())))) (fun(y1:Unit×Pv×Unit)=>ah (zy ()) (fun(y2:(List (Int))×Unit)=>ah (uk (x.1.1,())) (fun(y3:(List (Int))×Unit)=>aj (within (0:Int) (8:Int))
 (ah (@idx Int y1.2.1.2.1 (0:Int)) (fun(y4:Int)=>aj (within (1:Int) (8:Int))
 (ah (@idx Int y1.2.1.2.1 (1:Int)) (fun(y5:Int)=>aj (within (2:Int) (8:Int))
 (ah (@idx Int y1.2.1.2.1 (2:Int)) (fun(y6:Int)=>aj (within (3:Int) (8:Int))
 (ah (@idx Int y1.2.1.2.1 (3:Int)) (fun(y7:Int)=>aj (within (4:Int) (8:Int))
 (ah (@idx Int y1.2.1.2.1 (4:Int)) (fun(y8:Int)=>aj (within (5:Int) (8:Int))
 (ah (@idx Int y1.2.1.2.1 (5:Int)) (fun(y9:Int)=>aj (within (6:Int) (8:Int))
 (ah (@idx Int y1.2.1.2.1 (6:Int)) (fun(tf:Int)=>aj (within (7:Int) (8:Int))
 (ah (@idx Int y1.2.1.2.1 (7:Int)) (fun(oc:Int)=>ah (Loop (zz y2 y3) ((y4,(y5,(y6,(y7,(y8,(y9,(tf,(oc,((0:Int),()))))))))),())) (fun(gv:wO×Unit)=>ah (Loop (zA gv) (((0:Int),()),(y1.2.1,()))) (fun(fh:(Int×Unit)×Pv×Unit)=>some ((),(fh.2.1,()))))))
 none))
 none))
 none))
 none))
 none))
 none))
 none))
 none)))
noncomputable def A4(y3:(List (Int))×Unit)(y4:(List (Int))×Unit)(fh:wO×Unit):Option ((wO×Unit)⊕(wO×Unit)) :=
 @ep (wO×Unit) (aj (aY fh.1.2.2.2.2.2.2.2.2.1 (64:Int))
 (ah (cq (fh.1.2.2.2.2.1,((6:Int),()))) (fun(xw:Int×Unit)=>ah (cq (fh.1.2.2.2.2.1,((11:Int),()))) (fun(HH:Int×Unit)=>ah (cq (fh.1.2.2.2.2.1,((25:Int),()))) (fun(Oe:Int×Unit)=>aj (within fh.1.2.2.2.2.2.2.2.2.1 (64:Int))
 (ah (@idx Int y3.1 fh.1.2.2.2.2.2.2.2.2.1) (fun(J9:Int)=>aj (within fh.1.2.2.2.2.2.2.2.2.1 (64:Int))
 (ah (@idx Int y4.1 fh.1.2.2.2.2.2.2.2.2.1) (fun(Yd:Int)=>ah (cq (fh.1.1,((2:Int),()))) (fun(Sj:Int×Unit)=>ah (cq (fh.1.1,((13:Int),()))) (fun(QT:Int×Unit)=>ah (cq (fh.1.1,((22:Int),()))) (fun(UD:Int×Unit)=>some (Sum.inl ((aI IntKind.u32 (aI IntKind.u32 (aI IntKind.u32 (aI IntKind.u32 (aI IntKind.u32 fh.1.2.2.2.2.2.2.2.1 (eu IntKind.u32 (eu IntKind.u32 xw.1 HH.1) Oe.1)) (eu IntKind.u32 fh.1.2.2.2.2.2.2.1 (jF IntKind.u32 fh.1.2.2.2.2.1 (eu IntKind.u32 fh.1.2.2.2.2.2.1 fh.1.2.2.2.2.2.2.1)))) J9) Yd) (aI IntKind.u32 (eu IntKind.u32 (eu IntKind.u32 Sj.1 QT.1) UD.1) (CW IntKind.u32 (jF IntKind.u32 fh.1.1 fh.1.2.1) (jF IntKind.u32 fh.1.2.2.1 (CW IntKind.u32 fh.1.1 fh.1.2.1)))),(fh.1.1,(fh.1.2.1,(fh.1.2.2.1,(aI IntKind.u32 fh.1.2.2.2.1 (aI IntKind.u32 (aI IntKind.u32 (aI IntKind.u32 (aI IntKind.u32 fh.1.2.2.2.2.2.2.2.1 (eu IntKind.u32 (eu IntKind.u32 xw.1 HH.1) Oe.1)) (eu IntKind.u32 fh.1.2.2.2.2.2.2.1 (jF IntKind.u32 fh.1.2.2.2.2.1 (eu IntKind.u32 fh.1.2.2.2.2.2.1 fh.1.2.2.2.2.2.2.1)))) J9) Yd),(fh.1.2.2.2.2.1,(fh.1.2.2.2.2.2.1,(fh.1.2.2.2.2.2.2.1,(aI IntKind.i64 fh.1.2.2.2.2.2.2.2.2.1 (1:Int),()))))))))),()):((wO×Unit))⊕((Nat×wO×Unit))))))))
 none))
 none))))
 (some (Sum.inr ((0:Nat),((fh.1.1,(fh.1.2.1,(fh.1.2.2.1,(fh.1.2.2.2.1,(fh.1.2.2.2.2.1,(fh.1.2.2.2.2.2.1,(fh.1.2.2.2.2.2.2.1,(fh.1.2.2.2.2.2.2.2.1,(fh.1.2.2.2.2.2.2.2.2.1,()))))))))),())):((wO×Unit))⊕((Nat×wO×Unit)))))
noncomputable def A5(fh:wO×Unit)(xw:(Int×Unit)×lM×Unit):Option (WO⊕WO) :=
 @ep WO (aj (aY xw.1.1 (8:Int))
 (ah (@idx Int ([fh.1.1,fh.1.2.1,fh.1.2.2.1,fh.1.2.2.2.1,fh.1.2.2.2.2.1,fh.1.2.2.2.2.2.1,fh.1.2.2.2.2.2.2.1,fh.1.2.2.2.2.2.2.2.1]:List (Int)) xw.1.1) (fun(HH:Int)=>aj (within xw.1.1 (8:Int))
 (ah (@idx Int xw.2.1.1.2.1 xw.1.1) (fun(Oe:Int)=>aj (within xw.1.1 (8:Int))
 (ah (@idx Int xw.2.1.1.2.1 xw.1.1) (fun(J9:Int)=>ah (@idx Int xw.2.1.1.2.1 xw.1.1) (fun(Yd:Int)=>ah (@idx Int xw.2.1.1.2.1 xw.1.1) (fun(Sj:Int)=>some (Sum.inl ((aI IntKind.i64 xw.1.1 (1:Int),()),(((xw.2.1.1.1,(@sX Int xw.2.1.1.2.1 xw.1.1 (aI IntKind.u32 Oe HH),xw.2.1.1.2.2)),xw.2.1.2),())):(WO)⊕((Nat×(Int×Unit)×lM×Unit)))))))
 none))
 none))
 (some (Sum.inr ((0:Nat),((xw.1.1,()),(xw.2.1,()))):(WO)⊕((Nat×(Int×Unit)×lM×Unit)))))
noncomputable def A6(y1:(Sb×Unit)×lM×Unit):Option (((Sb×Unit)×lM×Unit)⊕((Sb×Unit)×lM×Unit)) :=
 @ep ((Sb×Unit)×lM×Unit) (aj (nt (cc y1.1.1 ([]:List (UInt8))))
 (aj (bC (64:Int) (0:Int))
 none
 (aj (inside (ij y1.2.1.2.2.1 (64:Int)) (64:Int) (64:Int))
 (aj (inside (@len Int (@kz Int (ax y1.1.1) (minus (64:Int) (ij y1.2.1.2.2.1 (64:Int))))) (@len UInt8 y1.1.1) (@len UInt8 y1.1.1))
 (ah (aj (bC (aI IntKind.i64 (ij y1.2.1.2.2.1 (64:Int)) (@len Int (@kz Int (ax y1.1.1) (minus (64:Int) (ij y1.2.1.2.2.1 (64:Int)))))) (64:Int))
 (ah (aj (nt y1.2.1.1.1)
 (ah (zx ()) (fun(y2:(List (Int))×Unit)=>some ((),(((true,(y2.1,y1.2.1.1.2.2)),(@over Int y1.2.1.2.1 (ij y1.2.1.2.2.1 (64:Int)) (@kz Int (ax y1.1.1) (minus (64:Int) (ij y1.2.1.2.2.1 (64:Int)))),(aI IntKind.i64 y1.2.1.2.2.1 (@len Int (@kz Int (ax y1.1.1) (minus (64:Int) (ij y1.2.1.2.2.1 (64:Int))))),y1.2.1.2.2.2))),()))))
 (some ((),((y1.2.1.1,(@over Int y1.2.1.2.1 (ij y1.2.1.2.2.1 (64:Int)) (@kz Int (ax y1.1.1) (minus (64:Int) (ij y1.2.1.2.2.1 (64:Int)))),(aI IntKind.i64 y1.2.1.2.2.1 (@len Int (@kz Int (ax y1.1.1) (minus (64:Int) (ij y1.2.1.2.2.1 (64:Int))))),y1.2.1.2.2.2))),())))) (fun(y2:Unit×lM×Unit)=>ah (zy ()) (fun(y3:(List (Int))×Unit)=>ah (uk (@over Int y1.2.1.2.1 (ij y1.2.1.2.2.1 (64:Int)) (@kz Int (ax y1.1.1) (minus (64:Int) (ij y1.2.1.2.2.1 (64:Int)))),())) (fun(y4:(List (Int))×Unit)=>aj (within (0:Int) (8:Int))
 (ah (@idx Int y2.2.1.1.2.1 (0:Int)) (fun(y5:Int)=>aj (within (1:Int) (8:Int))
 (ah (@idx Int y2.2.1.1.2.1 (1:Int)) (fun(y6:Int)=>aj (within (2:Int) (8:Int))
 (ah (@idx Int y2.2.1.1.2.1 (2:Int)) (fun(y7:Int)=>aj (within (3:Int) (8:Int))
 (ah (@idx Int y2.2.1.1.2.1 (3:Int)) (fun(y8:Int)=>aj (within (4:Int) (8:Int))
 (ah (@idx Int y2.2.1.1.2.1 (4:Int)) (fun(y9:Int)=>aj (within (5:Int) (8:Int))
 (ah (@idx Int y2.2.1.1.2.1 (5:Int)) (fun(tf:Int)=>aj (within (6:Int) (8:Int))
 (ah (@idx Int y2.2.1.1.2.1 (6:Int)) (fun(oc:Int)=>aj (within (7:Int) (8:Int))
 (ah (@idx Int y2.2.1.1.2.1 (7:Int)) (fun(gv:Int)=>ah (Loop (A4 y3 y4) ((y5,(y6,(y7,(y8,(y9,(tf,(oc,(gv,((0:Int),()))))))))),())) (fun(fh:wO×Unit)=>ah (Loop (A5 fh) (((0:Int),()),(y2.2.1,()))) (fun(xw:(Int×Unit)×lM×Unit)=>some ((),(xw.2.1,()))))))
 none))
 none))
 none))
 none))
 none))
 none))
 none))
 none))))
 (some ((),((y1.2.1.1,(@over Int y1.2.1.2.1 (ij y1.2.1.2.2.1 (64:Int)) (@kz Int (ax y1.1.1) (minus (64:Int) (ij y1.2.1.2.2.1 (64:Int)))),(aI IntKind.i64 y1.2.1.2.2.1 (@len Int (@kz Int (ax y1.1.1) (minus (64:Int) (ij y1.2.1.2.2.1 (64:Int))))),y1.2.1.2.2.2))),())))) (fun(y2:Unit×lM×Unit)=>some (Sum.inl ((@sub UInt8 y1.1.1 (@len Int (@kz Int (ax y1.1.1) (minus (64:Int) (ij y1.2.1.2.2.1 (64:Int))))) (minus (@len UInt8 y1.1.1) (@len Int (@kz Int (ax y1.1.1) (minus (64:Int) (ij y1.2.1.2.2.1 (64:Int)))))),()),(y2.2.1,())):(((Sb×Unit)×lM×Unit))⊕((Nat×(Sb×Unit)×lM×Unit)))))
 none)
 none))
 (some (Sum.inr ((0:Nat),((y1.1.1,()),(y1.2.1,()))):(((Sb×Unit)×lM×Unit))⊕((Nat×(Sb×Unit)×lM×Unit)))))
noncomputable def jm(x:(Sb×Unit)×lM×Unit):Option (Unit×lM×Unit) :=
 ah (Loop (A6) ((x.1.1,()),(x.2.1,()))) (fun(y1:(Sb×Unit)×lM×Unit)=>some ((),(y1.2.1,())))
noncomputable def A7(y2:Unit×lM×Unit):Option ((Unit×lM×Unit)⊕(Unit×lM×Unit)) :=
 @ep (Unit×lM×Unit) (aj (bC (64:Int) (0:Int))
 none
 (aj (nt (bC (ij y2.2.1.2.2.1 (64:Int)) (56:Int)))
 (ah (jm ((([(0:UInt8)]:List (UInt8)),()),(y2.2.1,()))) (fun(y3:Unit×lM×Unit)=>some (Sum.inl ((),(y3.2.1,())):((Unit×lM×Unit))⊕((Nat×Unit×lM×Unit)))))
 (some (Sum.inr ((0:Nat),((),(y2.2.1,()))):((Unit×lM×Unit))⊕((Nat×Unit×lM×Unit))))))
noncomputable def A8(x:Unit×lM×Unit)(y3:(Int×Unit)×(List (Int))×Unit):Option (fo⊕fo) :=
 @ep fo (aj (aY y3.1.1 (8:Int))
 (aj (aY (lJ IntKind.i64 (8:Int) y3.1.1) (0:Int))
 none
 (aj (within (dO IntKind.i64 (7:Int) y3.1.1) (8:Int))
 (ah (@idx Int y3.2.1 (dO IntKind.i64 (7:Int) y3.1.1)) (fun(y4:Int)=>ah (@idx Int y3.2.1 (dO IntKind.i64 (7:Int) y3.1.1)) (fun(y5:Int)=>ah (@idx Int y3.2.1 (dO IntKind.i64 (7:Int) y3.1.1)) (fun(y6:Int)=>some (Sum.inl ((aI IntKind.i64 y3.1.1 (1:Int),()),(@sX Int y3.2.1 (dO IntKind.i64 (7:Int) y3.1.1) (qy IntKind.u8 (rN IntKind.u64 (lJ IntKind.u64 (qy IntKind.u64 (((((((),(x.2.1,())).2).1).2).2).1)) (8:Int)) (lJ IntKind.i64 (8:Int) y3.1.1))),())):(fo)⊕uO)))))
 none))
 (some (Sum.inr ((0:Nat),((y3.1.1,()),(y3.2.1,()))):(fo)⊕uO)))
noncomputable def A9(y4:Unit×lM×Unit)(y5:(Int×Unit)×(List (Int))×Unit):Option (fo⊕fo) :=
 @ep fo (aj (aY y5.1.1 (32:Int))
 (aj (bC (4:Int) (0:Int))
 none
 (aj (within (GI IntKind.i64 y5.1.1 (4:Int)) (8:Int))
 (ah (@idx Int y4.2.1.1.2.1 (GI IntKind.i64 y5.1.1 (4:Int))) (fun(y6:Int)=>aj (bC (4:Int) (0:Int))
 none
 (aj (aY (dO IntKind.i64 (24:Int) (lJ IntKind.i64 (8:Int) (ij y5.1.1 (4:Int)))) (0:Int))
 none
 (aj (within y5.1.1 (32:Int))
 (ah (@idx Int y5.2.1 y5.1.1) (fun(y7:Int)=>ah (@idx Int y5.2.1 y5.1.1) (fun(y8:Int)=>ah (@idx Int y5.2.1 y5.1.1) (fun(y9:Int)=>some (Sum.inl ((aI IntKind.i64 y5.1.1 (1:Int),()),(@sX Int y5.2.1 y5.1.1 (qy IntKind.u8 (rN IntKind.u32 y6 (dO IntKind.i64 (24:Int) (lJ IntKind.i64 (8:Int) (ij y5.1.1 (4:Int)))))),())):(fo)⊕uO)))))
 none))))
 none))
 (some (Sum.inr ((0:Nat),((y5.1.1,()),(y5.2.1,()))):(fo)⊕uO)))
noncomputable def wP(x:Unit×lM×Unit):Option (I6×lM×Unit) :=
 ah (jm ((bz ([(128:Int)]:List (Int)),()),((((),(x.2.1,())).2).1,()))) (fun(y1:Unit×lM×Unit)=>ah (Loop (A7) ((),(y1.2.1,()))) (fun(y2:Unit×lM×Unit)=>ah (Loop (A8 x) (((0:Int),()),(([(0:Int),(0:Int),(0:Int),(0:Int),(0:Int),(0:Int),(0:Int),(0:Int)]:List (Int)),()))) (fun(y3:(Int×Unit)×(List (Int))×Unit)=>aj (inside (0:Int) (8:Int) (8:Int))
 (ah (jm ((bz (@sub Int y3.2.1 (0:Int) (minus (8:Int) (0:Int))),()),(y2.2.1,()))) (fun(y4:Unit×lM×Unit)=>ah (Loop (A9 y4) (((0:Int),()),(([(0:Int),(0:Int),(0:Int),(0:Int),(0:Int),(0:Int),(0:Int),(0:Int),(0:Int),(0:Int),(0:Int),(0:Int),(0:Int),(0:Int),(0:Int),(0:Int),(0:Int),(0:Int),(0:Int),(0:Int),(0:Int),(0:Int),(0:Int),(0:Int),(0:Int),(0:Int),(0:Int),(0:Int),(0:Int),(0:Int),(0:Int),(0:Int)]:List (Int)),()))) (fun(y5:(Int×Unit)×(List (Int))×Unit)=>some ((y5.2.1,()),(x.2.1,())))))
 none)))
noncomputable def LS(x:Sb×Unit):Option I6 :=
 ah (jm ((x.1,()),(((false,(([(0:Int),(0:Int),(0:Int),(0:Int),(0:Int),(0:Int),(0:Int),(0:Int)]:List (Int)),())),(([(0:Int),(0:Int),(0:Int),(0:Int),(0:Int),(0:Int),(0:Int),(0:Int),(0:Int),(0:Int),(0:Int),(0:Int),(0:Int),(0:Int),(0:Int),(0:Int),(0:Int),(0:Int),(0:Int),(0:Int),(0:Int),(0:Int),(0:Int),(0:Int),(0:Int),(0:Int),(0:Int),(0:Int),(0:Int),(0:Int),(0:Int),(0:Int),(0:Int),(0:Int),(0:Int),(0:Int),(0:Int),(0:Int),(0:Int),(0:Int),(0:Int),(0:Int),(0:Int),(0:Int),(0:Int),(0:Int),(0:Int),(0:Int),(0:Int),(0:Int),(0:Int),(0:Int),(0:Int),(0:Int),(0:Int),(0:Int),(0:Int),(0:Int),(0:Int),(0:Int),(0:Int),(0:Int),(0:Int),(0:Int)]:List (Int)),((0:Int),()))),()))) (fun(y1:Unit×lM×Unit)=>ah (wP ((),(y1.2.1,()))) (fun(y2:I6×lM×Unit)=>some (y2.1.1,())))
noncomputable def vI(x:Unit):Option I6 :=
 some (([(1779033703:Int),(3144134277:Int),(1013904242:Int),(2773480762:Int),(1359893119:Int),(2600822924:Int),(528734635:Int),(1541459225:Int)]:List (Int)),())
noncomputable def jo(y1:(Unit×Unit)×(List (Int))×Unit):Option (WM⊕WM) :=
 @ep WM (aj (bC (64:Int) (0:Int))
 none
 (aj (nt (bC (ij (@len Int y1.2.1) (64:Int)) (56:Int)))
 (aj (fits (plus (@len Int y1.2.1) (@len Int ([(0:Int)]:List (Int)))))
 (some (Sum.inl (((),()),(@app Int y1.2.1 ([(0:Int)]:List (Int)),())):(WM)⊕((Nat×(Unit×Unit)×(List (Int))×Unit))))
 none)
 (some (Sum.inr ((0:Nat),(((),()),(y1.2.1,()))):(WM)⊕((Nat×(Unit×Unit)×(List (Int))×Unit))))))
noncomputable def dQ(x:Sb×Unit)(y2:(Unit×Int×Unit)×(List (Int))×Unit):Option (WL⊕WL) :=
 @ep WL (aj (cO (0:Int) y2.1.2.1)
 (aj (aY (lJ IntKind.i64 (8:Int) y2.1.2.1) (0:Int))
 none
 (aj (fits (plus (@len Int y2.2.1) (@len Int ([qy IntKind.u8 (rN IntKind.u64 (lJ IntKind.u64 (qy IntKind.u64 (@len UInt8 x.1)) (8:Int)) (lJ IntKind.i64 (8:Int) y2.1.2.1))]:List (Int)))))
 (some (Sum.inl (((),(dO IntKind.i64 y2.1.2.1 (1:Int),())),(@app Int y2.2.1 ([qy IntKind.u8 (rN IntKind.u64 (lJ IntKind.u64 (qy IntKind.u64 (@len UInt8 x.1)) (8:Int)) (lJ IntKind.i64 (8:Int) y2.1.2.1))]:List (Int)),())):(WL)⊕((Nat×(Unit×Int×Unit)×(List (Int))×Unit))))
 none))
 (some (Sum.inr ((0:Nat),(((),(y2.1.2.1,())),(y2.2.1,()))):(WL)⊕((Nat×(Unit×Int×Unit)×(List (Int))×Unit)))))
noncomputable def qY(x:Sb×Unit):Option (Sb×Unit) :=
 aj (fits (@len UInt8 x.1))
 (aj (fits (plus (@len Int (ax x.1)) (@len Int ([(128:Int)]:List (Int)))))
 (ah (Loop (jo) (((),()),(@app Int (ax x.1) ([(128:Int)]:List (Int)),()))) (fun(y1:(Unit×Unit)×(List (Int))×Unit)=>ah (Loop (dQ x) (((),((7:Int),())),(y1.2.1,()))) (fun(y2:(Unit×Int×Unit)×(List (Int))×Unit)=>some (bz y2.2.1,()))))
 none)
 none
noncomputable def bS(x:Int×Int×Unit):Option (Int×Unit) :=
 aj (aY x.2.1 (0:Int))
 none
 (aj (aY (dO IntKind.i64 (32:Int) x.2.1) (0:Int))
 none
 (some (CW IntKind.u32 (rN IntKind.u32 x.1 x.2.1) (yQ IntKind.u32 x.1 (dO IntKind.i64 (32:Int) x.2.1)),())))
noncomputable def uo(x:Unit):Option I6 :=
 some (([(1116352408:Int),(1899447441:Int),(3049323471:Int),(3921009573:Int),(961987163:Int),(1508970993:Int),(2453635748:Int),(2870763221:Int),(3624381080:Int),(310598401:Int),(607225278:Int),(1426881987:Int),(1925078388:Int),(2162078206:Int),(2614888103:Int),(3248222580:Int),(3835390401:Int),(4022224774:Int),(264347078:Int),(604807628:Int),(770255983:Int),(1249150122:Int),(1555081692:Int),(1996064986:Int),(2554220882:Int),(2821834349:Int),(2952996808:Int),(3210313671:Int),(3336571891:Int),(3584528711:Int),(113926993:Int),(338241895:Int),(666307205:Int),(773529912:Int),(1294757372:Int),(1396182291:Int),(1695183700:Int),(1986661051:Int),(2177026350:Int),(2456956037:Int),(2730485921:Int),(2820302411:Int),(3259730800:Int),(3345764771:Int),(3516065817:Int),(3600352804:Int),(4094571909:Int),(275423344:Int),(430227734:Int),(506948616:Int),(659060556:Int),(883997877:Int),(958139571:Int),(1322822218:Int),(1537002063:Int),(1747873779:Int),(1955562222:Int),(2024104815:Int),(2227730452:Int),(2361852424:Int),(2428436474:Int),(2756734187:Int),(3204031479:Int),(3329325298:Int)]:List (Int)),())
noncomputable def gA(x:(List (Int))×Sb×Unit)(y1:(Int×Unit)×(List (Int))×Unit):Option (fo⊕fo) :=
 @ep fo (aj (aY y1.1.1 (16:Int))
 (ah (@idx UInt8 x.2.1 (lJ IntKind.i64 (4:Int) y1.1.1)) (fun(y2:UInt8)=>aj (aY (24:Int) (0:Int))
 none
 (ah (@idx UInt8 x.2.1 (aI IntKind.i64 (lJ IntKind.i64 (4:Int) y1.1.1) (1:Int))) (fun(y3:UInt8)=>aj (aY (16:Int) (0:Int))
 none
 (ah (@idx UInt8 x.2.1 (aI IntKind.i64 (lJ IntKind.i64 (4:Int) y1.1.1) (2:Int))) (fun(y4:UInt8)=>aj (aY (8:Int) (0:Int))
 none
 (ah (@idx UInt8 x.2.1 (aI IntKind.i64 (lJ IntKind.i64 (4:Int) y1.1.1) (3:Int))) (fun(y5:UInt8)=>aj (within y1.1.1 (64:Int))
 (ah (@idx Int y1.2.1 y1.1.1) (fun(y6:Int)=>ah (@idx Int y1.2.1 y1.1.1) (fun(y7:Int)=>ah (@idx Int y1.2.1 y1.1.1) (fun(y8:Int)=>some (Sum.inl ((aI IntKind.i64 y1.1.1 (1:Int),()),(@sX Int y1.2.1 y1.1.1 (CW IntKind.u32 (CW IntKind.u32 (CW IntKind.u32 (yQ IntKind.u32 (qy IntKind.u32 (u8 y2)) (24:Int)) (yQ IntKind.u32 (qy IntKind.u32 (u8 y3)) (16:Int))) (yQ IntKind.u32 (qy IntKind.u32 (u8 y4)) (8:Int))) (qy IntKind.u32 (u8 y5))),())):(fo)⊕uO)))))
 none))))))))
 (some (Sum.inr ((0:Nat),((y1.1.1,()),(y1.2.1,()))):(fo)⊕uO)))
noncomputable def jq(y2:(Int×Unit)×(List (Int))×Unit):Option (fo⊕fo) :=
 @ep fo (aj (aY y2.1.1 (64:Int))
 (aj (within (dO IntKind.i64 y2.1.1 (2:Int)) (64:Int))
 (ah (@idx Int y2.2.1 (dO IntKind.i64 y2.1.1 (2:Int))) (fun(y3:Int)=>aj (within (dO IntKind.i64 y2.1.1 (15:Int)) (64:Int))
 (ah (@idx Int y2.2.1 (dO IntKind.i64 y2.1.1 (15:Int))) (fun(y4:Int)=>ah (bS (y3,((17:Int),()))) (fun(y5:Int×Unit)=>ah (bS (y3,((19:Int),()))) (fun(y6:Int×Unit)=>aj (aY (10:Int) (0:Int))
 none
 (aj (within (dO IntKind.i64 y2.1.1 (7:Int)) (64:Int))
 (ah (@idx Int y2.2.1 (dO IntKind.i64 y2.1.1 (7:Int))) (fun(y7:Int)=>ah (bS (y4,((7:Int),()))) (fun(y8:Int×Unit)=>ah (bS (y4,((18:Int),()))) (fun(y9:Int×Unit)=>aj (aY (3:Int) (0:Int))
 none
 (aj (within (dO IntKind.i64 y2.1.1 (16:Int)) (64:Int))
 (ah (@idx Int y2.2.1 (dO IntKind.i64 y2.1.1 (16:Int))) (fun(tf:Int)=>aj (within y2.1.1 (64:Int))
 (ah (@idx Int y2.2.1 y2.1.1) (fun(oc:Int)=>ah (@idx Int y2.2.1 y2.1.1) (fun(gv:Int)=>ah (@idx Int y2.2.1 y2.1.1) (fun(fh:Int)=>some (Sum.inl ((aI IntKind.i64 y2.1.1 (1:Int),()),(@sX Int y2.2.1 y2.1.1 (aI IntKind.u32 (aI IntKind.u32 (aI IntKind.u32 (eu IntKind.u32 (eu IntKind.u32 y5.1 y6.1) (rN IntKind.u32 y3 (10:Int))) y7) (eu IntKind.u32 (eu IntKind.u32 y8.1 y9.1) (rN IntKind.u32 y4 (3:Int)))) tf),())):(fo)⊕uO)))))
 none))
 none)))))
 none)))))
 none))
 none)
 (some (Sum.inr ((0:Nat),((y2.1.1,()),(y2.2.1,()))):(fo)⊕uO)))
noncomputable def gB(y2:(Int×Unit)×(List (Int))×Unit)(y3:(List (Int))×Unit)(y4:(Int×Unit)×(List (Int))×Unit):Option (fo⊕fo) :=
 @ep fo (aj (aY y4.1.1 (64:Int))
 (aj (within (4:Int) (8:Int))
 (ah (@idx Int y4.2.1 (4:Int)) (fun(y5:Int)=>aj (within (0:Int) (8:Int))
 (ah (@idx Int y4.2.1 (0:Int)) (fun(y6:Int)=>aj (within (7:Int) (8:Int))
 (ah (@idx Int y4.2.1 (7:Int)) (fun(y7:Int)=>ah (bS (y5,((6:Int),()))) (fun(y8:Int×Unit)=>ah (bS (y5,((11:Int),()))) (fun(y9:Int×Unit)=>ah (bS (y5,((25:Int),()))) (fun(tf:Int×Unit)=>aj (within (5:Int) (8:Int))
 (ah (@idx Int y4.2.1 (5:Int)) (fun(oc:Int)=>aj (within (6:Int) (8:Int))
 (ah (@idx Int y4.2.1 (6:Int)) (fun(gv:Int)=>aj (within y4.1.1 (64:Int))
 (ah (@idx Int y3.1 y4.1.1) (fun(fh:Int)=>aj (within y4.1.1 (64:Int))
 (ah (@idx Int y2.2.1 y4.1.1) (fun(xw:Int)=>ah (bS (y6,((2:Int),()))) (fun(HH:Int×Unit)=>ah (bS (y6,((13:Int),()))) (fun(Oe:Int×Unit)=>ah (bS (y6,((22:Int),()))) (fun(J9:Int×Unit)=>aj (within (1:Int) (8:Int))
 (ah (@idx Int y4.2.1 (1:Int)) (fun(Yd:Int)=>aj (within (2:Int) (8:Int))
 (ah (@idx Int y4.2.1 (2:Int)) (fun(Sj:Int)=>aj (within (1:Int) (8:Int))
 (ah (@idx Int y4.2.1 (1:Int)) (fun(QT:Int)=>aj (within (2:Int) (8:Int))
 (ah (@idx Int y4.2.1 (2:Int)) (fun(UD:Int)=>aj (within (0:Int) (8:Int))
 (ah (@idx Int y4.2.1 (0:Int)) (fun(y22:Int)=>aj (within (1:Int) (8:Int))
 (ah (@idx Int y4.2.1 (1:Int)) (fun(y23:Int)=>aj (within (2:Int) (8:Int))
 (ah (@idx Int y4.2.1 (2:Int)) (fun(y24:Int)=>aj (within (3:Int) (8:Int))
 (ah (@idx Int y4.2.1 (3:Int)) (fun(y25:Int)=>aj (within (4:Int) (8:Int))
 (ah (@idx Int y4.2.1 (4:Int)) (fun(y26:Int)=>aj (within (5:Int) (8:Int))
 (ah (@idx Int y4.2.1 (5:Int)) (fun(y27:Int)=>aj (within (6:Int) (8:Int))
 (ah (@idx Int y4.2.1 (6:Int)) (fun(y28:Int)=>some (Sum.inl ((aI IntKind.i64 y4.1.1 (1:Int),()),(([aI IntKind.u32 (aI IntKind.u32 (aI IntKind.u32 (aI IntKind.u32 (aI IntKind.u32 y7 (eu IntKind.u32 (eu IntKind.u32 y8.1 y9.1) tf.1)) (eu IntKind.u32 (jF IntKind.u32 y5 oc) (jF IntKind.u32 (eu IntKind.u32 (4294967295:Int) y5) gv))) fh) xw) (aI IntKind.u32 (eu IntKind.u32 (eu IntKind.u32 HH.1 Oe.1) J9.1) (eu IntKind.u32 (eu IntKind.u32 (jF IntKind.u32 y6 Yd) (jF IntKind.u32 y6 Sj)) (jF IntKind.u32 QT UD))),y22,y23,y24,aI IntKind.u32 y25 (aI IntKind.u32 (aI IntKind.u32 (aI IntKind.u32 (aI IntKind.u32 y7 (eu IntKind.u32 (eu IntKind.u32 y8.1 y9.1) tf.1)) (eu IntKind.u32 (jF IntKind.u32 y5 oc) (jF IntKind.u32 (eu IntKind.u32 (4294967295:Int) y5) gv))) fh) xw),y26,y27,y28]:List (Int)),())):(fo)⊕uO)))
 none))
 none))
 none))
 none))
 none))
 none))
 none))
 none))
 none))
 none))
 none)))))
 none))
 none))
 none))
 none)))))
 none))
 none))
 none)
 (some (Sum.inr ((0:Nat),((y4.1.1,()),(y4.2.1,()))):(fo)⊕uO)))
noncomputable def jr(x:(List (Int))×Sb×Unit)(y5:(Int×Unit)×(List (Int))×Unit):Option (fo⊕fo) :=
 @ep fo (aj (aY y5.1.1 (8:Int))
 (aj (within y5.1.1 (8:Int))
 (ah (@idx Int y5.2.1 y5.1.1) (fun(y6:Int)=>aj (within y5.1.1 (8:Int))
 (ah (@idx Int x.1 y5.1.1) (fun(y7:Int)=>aj (within y5.1.1 (8:Int))
 (ah (@idx Int y5.2.1 y5.1.1) (fun(y8:Int)=>ah (@idx Int y5.2.1 y5.1.1) (fun(y9:Int)=>ah (@idx Int y5.2.1 y5.1.1) (fun(tf:Int)=>some (Sum.inl ((aI IntKind.i64 y5.1.1 (1:Int),()),(@sX Int y5.2.1 y5.1.1 (aI IntKind.u32 y6 y7),())):(fo)⊕uO)))))
 none))
 none))
 none)
 (some (Sum.inr ((0:Nat),((y5.1.1,()),(y5.2.1,()))):(fo)⊕uO)))
noncomputable def qZ(x:(List (Int))×Sb×Unit):Option I6 :=
 ah (Loop (gA x) (((0:Int),()),(([(0:Int),(0:Int),(0:Int),(0:Int),(0:Int),(0:Int),(0:Int),(0:Int),(0:Int),(0:Int),(0:Int),(0:Int),(0:Int),(0:Int),(0:Int),(0:Int),(0:Int),(0:Int),(0:Int),(0:Int),(0:Int),(0:Int),(0:Int),(0:Int),(0:Int),(0:Int),(0:Int),(0:Int),(0:Int),(0:Int),(0:Int),(0:Int),(0:Int),(0:Int),(0:Int),(0:Int),(0:Int),(0:Int),(0:Int),(0:Int),(0:Int),(0:Int),(0:Int),(0:Int),(0:Int),(0:Int),(0:Int),(0:Int),(0:Int),(0:Int),(0:Int),(0:Int),(0:Int),(0:Int),(0:Int),(0:Int),(0:Int),(0:Int),(0:Int),(0:Int),(0:Int),(0:Int),(0:Int),(0:Int)]:List (Int)),()))) (fun(y1:(Int×Unit)×(List (Int))×Unit)=>ah (Loop (jq) (((16:Int),()),(y1.2.1,()))) (fun(y2:(Int×Unit)×(List (Int))×Unit)=>ah (uo ()) (fun(y3:(List (Int))×Unit)=>ah (Loop (gB y2 y3) (((0:Int),()),(x.1,()))) (fun(y4:(Int×Unit)×(List (Int))×Unit)=>ah (Loop (jr x) (((0:Int),()),(y4.2.1,()))) (fun(y5:(Int×Unit)×(List (Int))×Unit)=>some (y5.2.1,()))))))
noncomputable def lY(y2:Sb×Unit)(y3:(Int×Unit)×(List (Int))×Unit):Option (fo⊕fo) :=
 @ep fo (aj (cO (aI IntKind.i64 y3.1.1 (64:Int)) (@len UInt8 y2.1))
 (aj (inside y3.1.1 (aI IntKind.i64 y3.1.1 (64:Int)) (@len UInt8 y2.1))
 (ah (qZ (y3.2.1,(@sub UInt8 y2.1 y3.1.1 (minus (aI IntKind.i64 y3.1.1 (64:Int)) y3.1.1),()))) (fun(y4:(List (Int))×Unit)=>some (Sum.inl ((aI IntKind.i64 y3.1.1 (64:Int),()),(y4.1,())):(fo)⊕uO)))
 none)
 (some (Sum.inr ((0:Nat),((y3.1.1,()),(y3.2.1,()))):(fo)⊕uO)))
noncomputable def lZ(y3:(Int×Unit)×(List (Int))×Unit)(y4:(Int×Unit)×(List (Int))×Unit):Option (fo⊕fo) :=
 @ep fo (aj (aY y4.1.1 (32:Int))
 (aj (bC (4:Int) (0:Int))
 none
 (aj (within (GI IntKind.i64 y4.1.1 (4:Int)) (8:Int))
 (ah (@idx Int y3.2.1 (GI IntKind.i64 y4.1.1 (4:Int))) (fun(y5:Int)=>aj (bC (4:Int) (0:Int))
 none
 (aj (aY (dO IntKind.i64 (24:Int) (lJ IntKind.i64 (8:Int) (ij y4.1.1 (4:Int)))) (0:Int))
 none
 (aj (within y4.1.1 (32:Int))
 (ah (@idx Int y4.2.1 y4.1.1) (fun(y6:Int)=>ah (@idx Int y4.2.1 y4.1.1) (fun(y7:Int)=>ah (@idx Int y4.2.1 y4.1.1) (fun(y8:Int)=>some (Sum.inl ((aI IntKind.i64 y4.1.1 (1:Int),()),(@sX Int y4.2.1 y4.1.1 (qy IntKind.u8 (rN IntKind.u32 y5 (dO IntKind.i64 (24:Int) (lJ IntKind.i64 (8:Int) (ij y4.1.1 (4:Int)))))),())):(fo)⊕uO)))))
 none))))
 none))
 (some (Sum.inr ((0:Nat),((y4.1.1,()),(y4.2.1,()))):(fo)⊕uO)))
noncomputable def u5(x:Sb×Unit):Option I6 :=
 ah (vI ()) (fun(y1:(List (Int))×Unit)=>ah (qY (x.1,())) (fun(y2:Sb×Unit)=>ah (Loop (lY y2) (((0:Int),()),(y1.1,()))) (fun(y3:(Int×Unit)×(List (Int))×Unit)=>ah (Loop (lZ y3) (((0:Int),()),(([(0:Int),(0:Int),(0:Int),(0:Int),(0:Int),(0:Int),(0:Int),(0:Int),(0:Int),(0:Int),(0:Int),(0:Int),(0:Int),(0:Int),(0:Int),(0:Int),(0:Int),(0:Int),(0:Int),(0:Int),(0:Int),(0:Int),(0:Int),(0:Int),(0:Int),(0:Int),(0:Int),(0:Int),(0:Int),(0:Int),(0:Int),(0:Int)]:List (Int)),()))) (fun(y4:(Int×Unit)×(List (Int))×Unit)=>some (y4.2.1,())))))
end Go.Ge
namespace Go.Ge
set_option linter.unusedSectionVars false
variable [Lp]
set_option linter.unusedVariables false
set_option maxRecDepth 100000
abbrev KB:=(Sb×Bool×Unit×Int×Unit)
abbrev WQ:=((Int×Unit)×(Unit×Unit×Unit)×(List (Int))×Unit)
abbrev WR:=((Unit×Int×Unit)×(List (Int))×Unit)
abbrev KC:=(Int×Int×Unit)
noncomputable def kE(x:Sb×Unit)(y1:(Int×Unit)×(Unit×Unit×Unit)×(List (Int))×Unit):Option (WQ⊕WQ) :=
 @ep WQ (aj (aY y1.1.1 (@len Int (ax x.1)))
 (aj (within y1.1.1 (@len Int (ax x.1)))
 (ah (@idx Int (ax x.1) y1.1.1) (fun(y2:Int)=>aj (aY (4:Int) (0:Int))
 none
 (ah (@idx UInt8 ([(48:UInt8),(49:UInt8),(50:UInt8),(51:UInt8),(52:UInt8),(53:UInt8),(54:UInt8),(55:UInt8),(56:UInt8),(57:UInt8),(97:UInt8),(98:UInt8),(99:UInt8),(100:UInt8),(101:UInt8),(102:UInt8)]:List (UInt8)) (rN IntKind.u8 y2 (4:Int))) (fun(y3:UInt8)=>aj (fits (plus (@len Int y1.2.2.1) (@len Int ([u8 y3]:List (Int)))))
 (ah (@idx UInt8 ([(48:UInt8),(49:UInt8),(50:UInt8),(51:UInt8),(52:UInt8),(53:UInt8),(54:UInt8),(55:UInt8),(56:UInt8),(57:UInt8),(97:UInt8),(98:UInt8),(99:UInt8),(100:UInt8),(101:UInt8),(102:UInt8)]:List (UInt8)) (jF IntKind.u8 y2 (15:Int))) (fun(y4:UInt8)=>aj (fits (plus (@len Int (@app Int y1.2.2.1 ([u8 y3]:List (Int)))) (@len Int ([u8 y4]:List (Int)))))
 (some (Sum.inl ((aI IntKind.i64 y1.1.1 (1:Int),()),(((),((),y1.2.1.2.2)),(@app Int (@app Int y1.2.2.1 ([u8 y3]:List (Int))) ([u8 y4]:List (Int)),()))):(WQ)⊕((Nat×(Int×Unit)×(Unit×Unit×Unit)×(List (Int))×Unit))))
 none))
 none))))
 none)
 (some (Sum.inr ((0:Nat),((y1.1.1,()),(((),((),y1.2.1.2.2)),(y1.2.2.1,())))):(WQ)⊕((Nat×(Int×Unit)×(Unit×Unit×Unit)×(List (Int))×Unit)))))
noncomputable def pX(x:Sb×Unit):Option (Sb×Unit) :=
 aj (fits (@len UInt8 x.1))
 (ah (Loop (kE x) (((0:Int),()),(((),((),())),(([]:List (Int)),())))) (fun(y1:(Int×Unit)×(Unit×Unit×Unit)×(List (Int))×Unit)=>some (bz y1.2.2.1,())))
 none
noncomputable def zB(x:Sb×Unit):Option (Sb×Unit) :=
 ah (LS (x.1,())) (fun(y1:(List (Int))×Unit)=>aj (inside (0:Int) (32:Int) (32:Int))
 (ah (pX (bz (@sub Int y1.1 (0:Int) (minus (32:Int) (0:Int))),())) (fun(y2:Sb×Unit)=>aj (fits (plus (@len UInt8 ([(115:UInt8),(104:UInt8),(97:UInt8),(50:UInt8),(53:UInt8),(54:UInt8),(58:UInt8)]:List (UInt8))) (@len UInt8 y2.1)))
 (some (@app UInt8 ([(115:UInt8),(104:UInt8),(97:UInt8),(50:UInt8),(53:UInt8),(54:UInt8),(58:UInt8)]:List (UInt8)) y2.1,()))
 none))
 none)
noncomputable def dw(x:Sb×Sb×Unit):Option (Bool×Unit) :=
 ah (aj (cO (@len UInt8 x.2.1) (@len UInt8 x.1))
 (aj (inside (0:Int) (@len UInt8 x.2.1) (@len UInt8 x.1))
 (some (cc (@sub UInt8 x.1 (0:Int) (minus (@len UInt8 x.2.1) (0:Int))) x.2.1))
 none)
 (some false)) (fun(y1:Bool)=>some (y1,()))
noncomputable def ny(x:Sb×Int×Unit):Option (Int×Unit) :=
 ah (pW (x.1,(x.2.1,()))) (fun(y1:Int×Unit)=>some (y1.1,()))
noncomputable def kT(x:Int×Unit):Option (Int×Unit) :=
 aj (aY x.1 (10:Int))
 (some (qy IntKind.u8 (aI IntKind.i64 (48:Int) x.1),()))
 (some (qy IntKind.u8 (dO IntKind.i64 (aI IntKind.i64 (97:Int) x.1) (10:Int)),()))
noncomputable def l8(x:Sb×Unit)(y1:(Unit×Int×Unit)×(List (Int))×Unit):Option (WR⊕WR) :=
 @ep WR (aj (aY y1.1.2.1 (@len UInt8 x.1))
 (ah (@idx UInt8 x.1 y1.1.2.1) (fun(y2:UInt8)=>aj (bC (16:Int) (0:Int))
 none
 (ah (kT (GI IntKind.i64 (qy IntKind.i64 (u8 y2)) (16:Int),())) (fun(y3:Int×Unit)=>aj (fits (plus (@len Int y1.2.1) (@len Int ([y3.1]:List (Int)))))
 (ah (@idx UInt8 x.1 y1.1.2.1) (fun(y4:UInt8)=>aj (bC (16:Int) (0:Int))
 none
 (ah (kT (ij (qy IntKind.i64 (u8 y4)) (16:Int),())) (fun(y5:Int×Unit)=>aj (fits (plus (@len Int (@app Int y1.2.1 ([y3.1]:List (Int)))) (@len Int ([y5.1]:List (Int)))))
 (some (Sum.inl (((),(aI IntKind.i64 y1.1.2.1 (1:Int),())),(@app Int (@app Int y1.2.1 ([y3.1]:List (Int))) ([y5.1]:List (Int)),())):(WR)⊕((Nat×(Unit×Int×Unit)×(List (Int))×Unit))))
 none))))
 none))))
 (some (Sum.inr ((0:Nat),(((),(y1.1.2.1,())),(y1.2.1,()))):(WR)⊕((Nat×(Unit×Int×Unit)×(List (Int))×Unit)))))
noncomputable def u6(x:Sb×Unit):Option (Sb×Unit) :=
 ah (Loop (l8 x) (((),((0:Int),())),(([]:List (Int)),()))) (fun(y1:(Unit×Int×Unit)×(List (Int))×Unit)=>some (bz y1.2.1,()))
noncomputable def uq(x:Sb×Unit):Option (Sb×Unit) :=
 ah (u5 (x.1,())) (fun(y1:(List (Int))×Unit)=>aj (inside (0:Int) (32:Int) (32:Int))
 (ah (u6 (bz (@sub Int y1.1 (0:Int) (minus (32:Int) (0:Int))),())) (fun(y2:Sb×Unit)=>aj (fits (plus (@len UInt8 ([(115:UInt8),(104:UInt8),(97:UInt8),(50:UInt8),(53:UInt8),(54:UInt8),(58:UInt8)]:List (UInt8))) (@len UInt8 y2.1)))
 (some (@app UInt8 ([(115:UInt8),(104:UInt8),(97:UInt8),(50:UInt8),(53:UInt8),(54:UInt8),(58:UInt8)]:List (UInt8)) y2.1,()))
 none))
 none)
noncomputable def dR(x:Int×Unit)(y1:KC×Unit):Option ((KC×Unit)⊕(Nat×KC×Unit)) :=
 aj (aY y1.1.2.1 (16:Int))
 (ah (kT (y1.1.2.1,())) (fun(y2:Int×Unit)=>aj (bC y2.1 x.1)
 (some (Sum.inr ((1:Nat),((y1.1.2.1,(y1.1.2.1,())),())):((KC×Unit))⊕((Nat×KC×Unit))))
 (some (Sum.inl ((y1.1.1,(aI IntKind.i64 y1.1.2.1 (1:Int),())),()):((KC×Unit))⊕((Nat×KC×Unit))))))
 (some (Sum.inr ((0:Nat),((y1.1.1,(y1.1.2.1,())),())):((KC×Unit))⊕((Nat×KC×Unit))))
noncomputable def nN(x:Int×Unit):Option (Int×Unit) :=
 ah (Loop (dR x) (((0:Int),((0:Int),())),())) (fun(y1:Nat×KC×Unit)=>aj (fB y1.1 (0:Nat))
 (some ((-1:Int),()))
 (some (y1.2.1.1,())))
noncomputable def gC(x:Sb×Unit)(y1:KB×(List (Int))×Unit):Option ((KB×(List (Int))×Unit)⊕(Nat×KB×(List (Int))×Unit)) :=
 aj (aY (aI IntKind.i64 y1.1.2.2.2.1 (1:Int)) (@len UInt8 x.1))
 (ah (@idx UInt8 x.1 y1.1.2.2.2.1) (fun(y2:UInt8)=>ah (nN (u8 y2,())) (fun(y3:Int×Unit)=>ah (@idx UInt8 x.1 (aI IntKind.i64 y1.1.2.2.2.1 (1:Int))) (fun(y4:UInt8)=>ah (nN (u8 y4,())) (fun(y5:Int×Unit)=>aj (aj (nt (aY y3.1 (0:Int)))
 (aY y5.1 (0:Int))
 true)
 (some (Sum.inr ((1:Nat),((([]:List (UInt8)),(false,((),(y1.1.2.2.2.1,())))),(y1.2.1,()))):((KB×(List (Int))×Unit))⊕((Nat×KB×(List (Int))×Unit))))
 (aj (fits (plus (@len Int y1.2.1) (@len Int ([qy IntKind.u8 (aI IntKind.i64 (lJ IntKind.i64 (16:Int) y3.1) y5.1)]:List (Int)))))
 (some (Sum.inl ((y1.1.1,(y1.1.2.1,((),(aI IntKind.i64 y1.1.2.2.2.1 (2:Int),())))),(@app Int y1.2.1 ([qy IntKind.u8 (aI IntKind.i64 (lJ IntKind.i64 (16:Int) y3.1) y5.1)]:List (Int)),())):((KB×(List (Int))×Unit))⊕((Nat×KB×(List (Int))×Unit))))
 none))))))
 (some (Sum.inr ((0:Nat),((y1.1.1,(y1.1.2.1,((),(y1.1.2.2.2.1,())))),(y1.2.1,()))):((KB×(List (Int))×Unit))⊕((Nat×KB×(List (Int))×Unit))))
noncomputable def nO(x:Sb×Unit):Option (Sb×Bool×Unit) :=
 aj (bC (2:Int) (0:Int))
 none
 (aj (bC (ij (@len UInt8 x.1) (2:Int)) (1:Int))
 (some (([]:List (UInt8)),(false,())))
 (ah (Loop (gC x) ((([]:List (UInt8)),(false,((),((0:Int),())))),(([]:List (Int)),()))) (fun(y1:Nat×KB×(List (Int))×Unit)=>aj (fB y1.1 (0:Nat))
 (some (bz y1.2.2.1,(true,())))
 (some (y1.2.1.1,(y1.2.1.2.1,()))))))
noncomputable def ri(x:Sb×Unit):Option (Int×Unit) :=
 ah (aj (nt (nt (bC (@len UInt8 x.1) (71:Int))))
 (aj (inside (0:Int) (7:Int) (@len UInt8 x.1))
 (some (nt (cc (@sub UInt8 x.1 (0:Int) (minus (7:Int) (0:Int))) ([(115:UInt8),(104:UInt8),(97:UInt8),(50:UInt8),(53:UInt8),(54:UInt8),(58:UInt8)]:List (UInt8)))))
 none)
 (some true)) (fun(y1:Bool)=>aj y1
 (some ((2:Int),()))
 (aj (inside (7:Int) (@len UInt8 x.1) (@len UInt8 x.1))
 (ah (nO (@sub UInt8 x.1 (7:Int) (minus (@len UInt8 x.1) (7:Int)),())) (fun(y2:Sb×Bool×Unit)=>aj (nt y2.2.1)
 (some ((2:Int),()))
 (some ((0:Int),()))))
 none))
end Go.Ge
namespace Go.Ge
set_option linter.unusedSectionVars false
variable [Lp]
set_option linter.unusedVariables false
set_option maxRecDepth 100000
abbrev DQ:=((Sb×Unit)×(List (Bool))×Unit)
abbrev tg:=(Int×Int×Unit)
abbrev zC:=(Bool×Int×Unit)
abbrev KD:=(Int×Bool×Int×Int×Unit)
abbrev UE:=((Nat×(Sb×Unit)×(List (Bool))×Unit))
abbrev KE:=((Sb×Unit)×Unit)
abbrev aay:=(Sb×Int×Int×Int×Int×Int×Int×Sb×Unit)
abbrev YV:=(Nat×zC×(List (Bool))×Unit)
noncomputable def l9(x:Int×Int×Unit):Option (Bool×Unit) :=
 some (aj (cO (0:Int) x.1)
 (aY x.1 x.2.1)
 false,())
noncomputable def pY(x:Sb×Int×Unit):Option (Bool×Unit) :=
 ah (aj (aj (nt (cc x.1 ([]:List (UInt8))))
 (cO (@len UInt8 x.1) x.2.1)
 false)
 (ah (ny (x.1,((0:Int),()))) (fun(y1:Int×Unit)=>some (aY y1.1 (0:Int))))
 (some false)) (fun(y1:Bool)=>some (y1,()))
noncomputable def rZ(x:aay×Int×Unit):Option (Bool×Unit) :=
 ah (l9 (x.1.2.2.1,((2097152:Int),()))) (fun(y1:Bool×Unit)=>ah (aj y1.1
 (ah (l9 (x.1.2.2.2.1,((2097152:Int),()))) (fun(y2:Bool×Unit)=>some y2.1))
 (some false)) (fun(y2:Bool)=>ah (aj y2
 (ah (l9 (x.1.2.2.2.2.1,((2097152:Int),()))) (fun(y3:Bool×Unit)=>some y3.1))
 (some false)) (fun(y3:Bool)=>ah (aj y3
 (ah (l9 (x.1.2.2.2.2.2.1,((8589934592:Int),()))) (fun(y4:Bool×Unit)=>some y4.1))
 (some false)) (fun(y4:Bool)=>ah (aj y4
 (ah (l9 (x.1.2.2.2.2.2.2.1,((8589934592:Int),()))) (fun(y5:Bool×Unit)=>some y5.1))
 (some false)) (fun(y5:Bool)=>ah (aj (nt (nt y5))
 (ah (pY (x.1.1,(x.2.1,()))) (fun(y6:Bool×Unit)=>some (nt y6.1)))
 (some true)) (fun(y6:Bool)=>aj y6
 (some (false,()))
 (aj (bC x.1.2.1 (1:Int))
 (some (cc x.1.2.2.2.2.2.2.2.1 ([]:List (UInt8)),()))
 (aj (bC x.1.2.1 (2:Int))
 (some (aj (cc x.1.2.2.2.2.2.2.2.1 ([]:List (UInt8)))
 (bC x.1.2.2.2.2.2.1 (0:Int))
 false,()))
 (aj (bC x.1.2.1 (3:Int))
 (ah (pY (x.1.2.2.2.2.2.2.2.1,((100:Int),()))) (fun(y7:Bool×Unit)=>some (aj y7.1
 (bC x.1.2.2.2.2.2.1 (0:Int))
 false,())))
 (some (false,())))))))))))
noncomputable def oe(x:Unit):Option ((List tg)×Unit) :=
 some (([((0:Int),((100:Int),())),((100:Int),((8:Int),())),((108:Int),((8:Int),())),((116:Int),((8:Int),())),((124:Int),((12:Int),())),((136:Int),((12:Int),())),((148:Int),((8:Int),())),((156:Int),((1:Int),())),((157:Int),((100:Int),())),((257:Int),((8:Int),())),((345:Int),((155:Int),()))]:List tg),())
noncomputable def kG(x:Sb×Unit)(y2:Int×Int×Unit)(y3:tg×Unit):Option ((tg×Unit)⊕(tg×Unit)) :=
 @ep (tg×Unit) (aj (aY y3.1.2.1 (@len Int (ax x.1)))
 (aj (within y3.1.2.1 (@len Int (ax x.1)))
 (ah (@idx Int (ax x.1) y3.1.2.1) (fun(y4:Int)=>some (Sum.inl ((aI IntKind.i64 y3.1.1 (qy IntKind.i64 (((aj (aj (cO y2.1 y3.1.2.1)
 (aY y3.1.2.1 (aI IntKind.i64 y2.1 y2.2.1))
 false)
 (((32:Int),()),())
 ((y4,()),())).1).1)),(aI IntKind.i64 y3.1.2.1 (1:Int),())),()):((tg×Unit))⊕((Nat×tg×Unit)))))
 none)
 (some (Sum.inr ((0:Nat),((y3.1.1,(y3.1.2.1,())),())):((tg×Unit))⊕((Nat×tg×Unit)))))
noncomputable def xO(x:Sb×Unit):Option (Int×Unit) :=
 ah (oe ()) (fun(y1:(List tg)×Unit)=>ah (@idx tg y1.1 (6:Int)) (fun(y2:Int×Int×Unit)=>aj (fits (@len UInt8 x.1))
 (ah (Loop (kG x y2) (((0:Int),((0:Int),())),())) (fun(y3:tg×Unit)=>some (y3.1.1,())))
 none))
noncomputable def bX(x:Sb×Int×Unit):Option (Sb×Unit) :=
 ah (oe ()) (fun(y1:(List tg)×Unit)=>ah (@idx tg y1.1 x.2.1) (fun(y2:Int×Int×Unit)=>aj (inside y2.1 (aI IntKind.i64 y2.1 y2.2.1) (@len UInt8 x.1))
 (some (@sub UInt8 x.1 y2.1 (minus (aI IntKind.i64 y2.1 y2.2.1) y2.1),()))
 none))
noncomputable def eP(x:Sb×Int×Unit)(y1:(Sb×Unit)×Unit):Option (KE⊕KE) :=
 @ep KE (ah (aj (aY (0:Int) (@len UInt8 y1.1.1))
 (ah (@idx UInt8 y1.1.1 (dO IntKind.i64 (@len UInt8 y1.1.1) (1:Int))) (fun(y2:UInt8)=>some (bC (u8 y2) x.2.1)))
 (some false)) (fun(y2:Bool)=>aj y2
 (aj (inside (0:Int) (dO IntKind.i64 (@len UInt8 y1.1.1) (1:Int)) (@len UInt8 y1.1.1))
 (some (Sum.inl ((@sub UInt8 y1.1.1 (0:Int) (minus (dO IntKind.i64 (@len UInt8 y1.1.1) (1:Int)) (0:Int)),()),()):(KE)⊕((Nat×(Sb×Unit)×Unit))))
 none)
 (some (Sum.inr ((0:Nat),((y1.1.1,()),())):(KE)⊕((Nat×(Sb×Unit)×Unit))))))
noncomputable def eA(x:Sb×Int×Unit):Option (Sb×Unit) :=
 ah (Loop (eP x) ((x.1,()),())) (fun(y1:(Sb×Unit)×Unit)=>some (y1.1.1,()))
noncomputable def bP(x:Sb×Unit)(y1:zC×(List (Bool))×Unit):Option ((zC×(List (Bool))×Unit)⊕YV) :=
 aj (aY y1.1.2.1 (@len UInt8 x.1))
 (ah (@idx UInt8 x.1 y1.1.2.1) (fun(y2:UInt8)=>aj (cO (128:Int) (u8 y2))
 (some (Sum.inr ((1:Nat),((false,(y1.1.2.1,())),(y1.2.1,()))):((zC×(List (Bool))×Unit))⊕(YV)))
 (aj (within (u8 y2) (256:Int))
 (ah (@idx Bool y1.2.1 (u8 y2)) (fun(y3:Bool)=>ah (@idx Bool y1.2.1 (u8 y2)) (fun(y4:Bool)=>ah (@idx Bool y1.2.1 (u8 y2)) (fun(y5:Bool)=>some (Sum.inl ((y1.1.1,(aI IntKind.i64 y1.1.2.1 (1:Int),())),(@sX Bool y1.2.1 (u8 y2) true,())):((zC×(List (Bool))×Unit))⊕(YV))))))
 none)))
 (some (Sum.inr ((0:Nat),((y1.1.1,(y1.1.2.1,())),(y1.2.1,()))):((zC×(List (Bool))×Unit))⊕(YV)))
noncomputable def cS(x:Sb×Unit):Option ((List (Bool))×Bool×Unit) :=
 ah (Loop (bP x) ((false,((0:Int),())),(((List.replicate 256 false):List (Bool)),()))) (fun(y1:Nat×zC×(List (Bool))×Unit)=>aj (fB y1.1 (0:Nat))
 (some (y1.2.2.1,(true,())))
 (some (y1.2.2.1,(y1.2.1.1,()))))
noncomputable def cm(x:(Int×Unit)×(List (Bool))×Unit):Option ((Bool×Unit)×(List (Bool))×Unit) :=
 aj (within x.1.1 (256:Int))
 (ah (@idx Bool x.2.1 x.1.1) (fun(y1:Bool)=>some ((y1,()),(x.2.1,()))))
 none
noncomputable def bY(y1:(Sb×Unit)×(List (Bool))×Unit):Option (DQ⊕DQ) :=
 @ep DQ (aj (aY (0:Int) (@len UInt8 y1.1.1))
 (ah (@idx UInt8 y1.1.1 (dO IntKind.i64 (@len UInt8 y1.1.1) (1:Int))) (fun(y2:UInt8)=>ah (cm ((u8 y2,()),(y1.2.1,()))) (fun(y3:(Bool×Unit)×(List (Bool))×Unit)=>aj (nt y3.1.1)
 (some (Sum.inr ((0:Nat),((y1.1.1,()),(y3.2.1,()))):(DQ)⊕UE))
 (aj (inside (0:Int) (dO IntKind.i64 (@len UInt8 y1.1.1) (1:Int)) (@len UInt8 y1.1.1))
 (some (Sum.inl ((@sub UInt8 y1.1.1 (0:Int) (minus (dO IntKind.i64 (@len UInt8 y1.1.1) (1:Int)) (0:Int)),()),(y3.2.1,())):(DQ)⊕UE))
 none))))
 (some (Sum.inr ((0:Nat),((y1.1.1,()),(y1.2.1,()))):(DQ)⊕UE)))
noncomputable def dm(x:(Sb×Unit)×(List (Bool))×Unit):Option DQ :=
 ah (Loop (bY) ((x.1.1,()),(x.2.1,()))) (fun(y1:(Sb×Unit)×(List (Bool))×Unit)=>some ((y1.1.1,()),(y1.2.1,())))
noncomputable def eV(x:Sb×Sb×Unit):Option (Sb×Unit) :=
 aj (aj (nt (cc x.1 ([]:List (UInt8))))
 (cc x.2.1 ([]:List (UInt8)))
 true)
 (some (x.1,()))
 (ah (aj (bC (@len UInt8 x.2.1) (1:Int))
 (ah (@idx UInt8 x.2.1 (0:Int)) (fun(y1:UInt8)=>some (aY (u8 y1) (128:Int))))
 (some false)) (fun(y1:Bool)=>aj y1
 (ah (@idx UInt8 x.2.1 (0:Int)) (fun(y2:UInt8)=>ah (eA (x.1,(u8 y2,()))) (fun(y3:Sb×Unit)=>some (y3.1,()))))
 (ah (cS (x.2.1,())) (fun(y2:(List (Bool))×Bool×Unit)=>aj y2.2.1
 (ah (dm ((x.1,()),(y2.1,()))) (fun(y3:(Sb×Unit)×(List (Bool))×Unit)=>some (y3.1.1,())))
 none))))
noncomputable def bH(x:Sb×Unit)(y1:KD×Unit):Option ((KD×Unit)⊕(Nat×KD×Unit)) :=
 aj (aY y1.1.2.2.2.1 (@len Int (ax x.1)))
 (aj (within y1.1.2.2.2.1 (@len Int (ax x.1)))
 (ah (@idx Int (ax x.1) y1.1.2.2.2.1) (fun(y2:Int)=>aj (aj (nt (aY y2 (48:Int)))
 (aY (55:Int) y2)
 true)
 (some (Sum.inr ((1:Nat),(((0:Int),(false,(y1.1.2.2.1,(y1.1.2.2.2.1,())))),())):((KD×Unit))⊕((Nat×KD×Unit))))
 (aj (aY (3:Int) (0:Int))
 none
 (some (Sum.inl ((y1.1.1,(y1.1.2.1,(CW IntKind.i64 (yQ IntKind.i64 y1.1.2.2.1 (3:Int)) (qy IntKind.i64 (dO IntKind.u8 y2 (48:Int))),(aI IntKind.i64 y1.1.2.2.2.1 (1:Int),())))),()):((KD×Unit))⊕((Nat×KD×Unit)))))))
 none)
 (some (Sum.inr ((0:Nat),((y1.1.1,(y1.1.2.1,(y1.1.2.2.1,(y1.1.2.2.2.1,())))),())):((KD×Unit))⊕((Nat×KD×Unit))))
noncomputable def dK(x:Sb×Unit):Option (Int×Bool×Unit) :=
 aj (aj (nt (aY (@len UInt8 x.1) (1:Int)))
 (aY (21:Int) (@len UInt8 x.1))
 true)
 (some ((0:Int),(false,())))
 (aj (fits (@len UInt8 x.1))
 (ah (Loop (bH x) (((0:Int),(false,((0:Int),((0:Int),())))),())) (fun(y1:Nat×KD×Unit)=>aj (fB y1.1 (0:Nat))
 (some (y1.2.1.2.2.1,(true,())))
 (some (y1.2.1.1,(y1.2.1.2.1,())))))
 none)
noncomputable def cY(x:Sb×Unit):Option (Int×Unit) :=
 ah (eV (x.1,(([(0:UInt8),(32:UInt8)]:List (UInt8)),()))) (fun(y1:Sb×Unit)=>ah (dK (y1.1,())) (fun(y2:Int×Bool×Unit)=>aj (aj (nt (nt y2.2.1))
 (bC (@len UInt8 y1.1) (@len UInt8 x.1))
 true)
 (some ((-1:Int),()))
 (some (y2.1,()))))
noncomputable def kU(x:Sb×Unit):Option (Sb×Bool×Unit) :=
 ah (eV (x.1,(([(0:UInt8)]:List (UInt8)),()))) (fun(y1:Sb×Unit)=>ah (ny (y1.1,((0:Int),()))) (fun(y2:Int×Unit)=>some (y1.1,(aY y2.1 (0:Int),()))))
noncomputable def fy(x:Sb×Unit):Option (aay×Int×Unit) :=
 ah (aj (nt (nt (bC (@len UInt8 x.1) (512:Int))))
 (ah (bX (x.1,((9:Int),()))) (fun(y1:Sb×Unit)=>some (nt (cc y1.1 ([(117:UInt8),(115:UInt8),(116:UInt8),(97:UInt8),(114:UInt8),(0:UInt8),(48:UInt8),(48:UInt8)]:List (UInt8))))))
 (some true)) (fun(y1:Bool)=>ah (aj (nt y1)
 (ah (bX (x.1,((6:Int),()))) (fun(y2:Sb×Unit)=>ah (cY (y2.1,())) (fun(y3:Int×Unit)=>ah (xO (x.1,())) (fun(y4:Int×Unit)=>some (nt (bC y3.1 y4.1))))))
 (some true)) (fun(y2:Bool)=>aj y2
 (some ((([]:List (UInt8)),((0:Int),((0:Int),((0:Int),((0:Int),((0:Int),((0:Int),(([]:List (UInt8)),())))))))),((2:Int),())))
 (ah (bX (x.1,((0:Int),()))) (fun(y3:Sb×Unit)=>ah (kU (y3.1,())) (fun(y4:Sb×Bool×Unit)=>ah (bX (x.1,((8:Int),()))) (fun(y5:Sb×Unit)=>ah (kU (y5.1,())) (fun(y6:Sb×Bool×Unit)=>ah (bX (x.1,((10:Int),()))) (fun(y7:Sb×Unit)=>ah (kU (y7.1,())) (fun(y8:Sb×Bool×Unit)=>ah (aj (nt (cc y8.1 ([]:List (UInt8))))
 (aj (fits (plus (@len UInt8 y8.1) (@len UInt8 ([(47:UInt8)]:List (UInt8)))))
 (aj (fits (plus (@len UInt8 (@app UInt8 y8.1 ([(47:UInt8)]:List (UInt8)))) (@len UInt8 y4.1)))
 (some ((@app UInt8 (@app UInt8 y8.1 ([(47:UInt8)]:List (UInt8))) y4.1,()),()))
 none)
 none)
 (some ((y4.1,()),()))) (fun(y9:(Sb×Unit)×Unit)=>ah (bX (x.1,((1:Int),()))) (fun(tf:Sb×Unit)=>ah (cY (tf.1,())) (fun(oc:Int×Unit)=>ah (bX (x.1,((2:Int),()))) (fun(gv:Sb×Unit)=>ah (cY (gv.1,())) (fun(fh:Int×Unit)=>ah (bX (x.1,((3:Int),()))) (fun(xw:Sb×Unit)=>ah (cY (xw.1,())) (fun(HH:Int×Unit)=>ah (bX (x.1,((4:Int),()))) (fun(Oe:Sb×Unit)=>ah (cY (Oe.1,())) (fun(J9:Int×Unit)=>ah (bX (x.1,((5:Int),()))) (fun(Yd:Sb×Unit)=>ah (cY (Yd.1,())) (fun(Sj:Int×Unit)=>ah (bX (x.1,((7:Int),()))) (fun(QT:Sb×Unit)=>ah (aj (nt (aj (nt (aj (nt (nt y4.2.1))
 (nt y6.2.1)
 true))
 (nt y8.2.1)
 true))
 (ah (rZ (((aj (((aj (cc QT.1 ([(48:UInt8)]:List (UInt8)))
 ((cc QT.1 ([(48:UInt8)]:List (UInt8)),()),())
 ((cc QT.1 ([(0:UInt8)]:List (UInt8)),()),())).1).1)
 ((),((y9.1.1,((1:Int),(oc.1,(fh.1,(HH.1,(J9.1,(Sj.1,(([]:List (UInt8)),())))))))),()))
 ((),(((aj (cc QT.1 ([(53:UInt8)]:List (UInt8)))
 ((),((y9.1.1,((2:Int),(oc.1,(fh.1,(HH.1,(J9.1,(Sj.1,(([]:List (UInt8)),())))))))),()))
 ((),(((aj (cc QT.1 ([(50:UInt8)]:List (UInt8)))
 ((),((y9.1.1,((3:Int),(oc.1,(fh.1,(HH.1,(J9.1,(Sj.1,(y6.1,())))))))),()))
 ((),((y9.1.1,((0:Int),(oc.1,(fh.1,(HH.1,(J9.1,(Sj.1,(([]:List (UInt8)),())))))))),()))).2).1,()))).2).1,()))).2).1,((256:Int),()))) (fun(UD:Bool×Unit)=>some (nt UD.1)))
 (some true)) (fun(UD:Bool)=>aj UD
 (some ((([]:List (UInt8)),((0:Int),((0:Int),((0:Int),((0:Int),((0:Int),((0:Int),(([]:List (UInt8)),())))))))),((2:Int),())))
 (some (((aj (((aj (cc QT.1 ([(48:UInt8)]:List (UInt8)))
 ((cc QT.1 ([(48:UInt8)]:List (UInt8)),()),())
 ((cc QT.1 ([(0:UInt8)]:List (UInt8)),()),())).1).1)
 ((),((y9.1.1,((1:Int),(oc.1,(fh.1,(HH.1,(J9.1,(Sj.1,(([]:List (UInt8)),())))))))),()))
 ((),(((aj (cc QT.1 ([(53:UInt8)]:List (UInt8)))
 ((),((y9.1.1,((2:Int),(oc.1,(fh.1,(HH.1,(J9.1,(Sj.1,(([]:List (UInt8)),())))))))),()))
 ((),(((aj (cc QT.1 ([(50:UInt8)]:List (UInt8)))
 ((),((y9.1.1,((3:Int),(oc.1,(fh.1,(HH.1,(J9.1,(Sj.1,(y6.1,())))))))),()))
 ((),((y9.1.1,((0:Int),(oc.1,(fh.1,(HH.1,(J9.1,(Sj.1,(([]:List (UInt8)),())))))))),()))).2).1,()))).2).1,()))).2).1,((0:Int),())))))))))))))))))))))))))
noncomputable def fe(x:Sb×Int×Unit)(y1:(Sb×Unit)×Unit):Option (KE⊕KE) :=
 @ep KE (ah (aj (aY (0:Int) (@len UInt8 y1.1.1))
 (ah (@idx UInt8 y1.1.1 (0:Int)) (fun(y2:UInt8)=>some (bC (u8 y2) x.2.1)))
 (some false)) (fun(y2:Bool)=>aj y2
 (aj (inside (1:Int) (@len UInt8 y1.1.1) (@len UInt8 y1.1.1))
 (some (Sum.inl ((@sub UInt8 y1.1.1 (1:Int) (minus (@len UInt8 y1.1.1) (1:Int)),()),()):(KE)⊕((Nat×(Sb×Unit)×Unit))))
 none)
 (some (Sum.inr ((0:Nat),((y1.1.1,()),())):(KE)⊕((Nat×(Sb×Unit)×Unit))))))
noncomputable def gh(x:Sb×Int×Unit):Option (Sb×Unit) :=
 ah (Loop (fe x) ((x.1,()),())) (fun(y1:(Sb×Unit)×Unit)=>some (y1.1.1,()))
noncomputable def dL(y1:(Sb×Unit)×(List (Bool))×Unit):Option (DQ⊕DQ) :=
 @ep DQ (aj (aY (0:Int) (@len UInt8 y1.1.1))
 (ah (@idx UInt8 y1.1.1 (0:Int)) (fun(y2:UInt8)=>ah (cm ((u8 y2,()),(y1.2.1,()))) (fun(y3:(Bool×Unit)×(List (Bool))×Unit)=>aj (nt y3.1.1)
 (some (Sum.inr ((0:Nat),((y1.1.1,()),(y3.2.1,()))):(DQ)⊕UE))
 (aj (inside (1:Int) (@len UInt8 y1.1.1) (@len UInt8 y1.1.1))
 (some (Sum.inl ((@sub UInt8 y1.1.1 (1:Int) (minus (@len UInt8 y1.1.1) (1:Int)),()),(y3.2.1,())):(DQ)⊕UE))
 none))))
 (some (Sum.inr ((0:Nat),((y1.1.1,()),(y1.2.1,()))):(DQ)⊕UE)))
noncomputable def fM(x:(Sb×Unit)×(List (Bool))×Unit):Option DQ :=
 ah (Loop (dL) ((x.1.1,()),(x.2.1,()))) (fun(y1:(Sb×Unit)×(List (Bool))×Unit)=>some ((y1.1.1,()),(y1.2.1,())))
noncomputable def gM(x:Sb×Sb×Unit):Option (Sb×Unit) :=
 aj (aj (nt (cc x.1 ([]:List (UInt8))))
 (cc x.2.1 ([]:List (UInt8)))
 true)
 (some (x.1,()))
 (ah (aj (bC (@len UInt8 x.2.1) (1:Int))
 (ah (@idx UInt8 x.2.1 (0:Int)) (fun(y1:UInt8)=>some (aY (u8 y1) (128:Int))))
 (some false)) (fun(y1:Bool)=>aj y1
 (ah (@idx UInt8 x.2.1 (0:Int)) (fun(y2:UInt8)=>ah (eA (x.1,(u8 y2,()))) (fun(y3:Sb×Unit)=>ah (@idx UInt8 x.2.1 (0:Int)) (fun(y4:UInt8)=>ah (gh (y3.1,(u8 y4,()))) (fun(y5:Sb×Unit)=>some (y5.1,()))))))
 (ah (cS (x.2.1,())) (fun(y2:(List (Bool))×Bool×Unit)=>aj y2.2.1
 (ah (dm ((x.1,()),(y2.1,()))) (fun(y3:(Sb×Unit)×(List (Bool))×Unit)=>ah (fM ((y3.1.1,()),(y3.2.1,()))) (fun(y4:(Sb×Unit)×(List (Bool))×Unit)=>some (y4.1.1,()))))
 none))))
noncomputable def vJ(x:Sb×Unit):Option (Bool×Unit) :=
 ah (aj (bC (@len UInt8 x.1) (512:Int))
 (ah (gM (x.1,(([(0:UInt8)]:List (UInt8)),()))) (fun(y1:Sb×Unit)=>some (cc y1.1 ([]:List (UInt8)))))
 (some false)) (fun(y1:Bool)=>some (y1,()))
noncomputable def fq(x:Sb×Int×Unit)(y1:zC×Unit):Option ((zC×Unit)⊕(Nat×zC×Unit)) :=
 aj (aY y1.1.2.1 (@len UInt8 x.1))
 (ah (@idx UInt8 x.1 y1.1.2.1) (fun(y2:UInt8)=>aj (bC (u8 y2) (0:Int))
 (some (Sum.inr ((1:Nat),((false,(y1.1.2.1,())),())):((zC×Unit))⊕((Nat×zC×Unit))))
 (some (Sum.inl ((y1.1.1,(aI IntKind.i64 y1.1.2.1 (1:Int),())),()):((zC×Unit))⊕((Nat×zC×Unit))))))
 (some (Sum.inr ((0:Nat),((y1.1.1,(y1.1.2.1,())),())):((zC×Unit))⊕((Nat×zC×Unit))))
noncomputable def kV(x:Sb×Int×Unit):Option (Bool×Unit) :=
 ah (Loop (fq x) ((false,((0:Int),())),())) (fun(y1:Nat×zC×Unit)=>aj (fB y1.1 (0:Nat))
 (some (aj (cO (1:Int) (@len UInt8 x.1))
 (cO (@len UInt8 x.1) x.2.1)
 false,()))
 (some (y1.2.1.1,())))
noncomputable def oM(x:Int×Int×Unit):Option (Bool×Unit) :=
 some (aj (cO (0:Int) x.1)
 (aY x.1 x.2.1)
 false,())
noncomputable def r7(x:aay×Int×Unit):Option (Bool×Unit) :=
 ah (aj (bC x.1.2.1 (3:Int))
 (ah (kV (x.1.2.2.2.2.2.2.2.1,((100:Int),()))) (fun(y1:Bool×Unit)=>some ((y1.1,()),())))
 (some ((cc x.1.2.2.2.2.2.2.2.1 ([]:List (UInt8)),()),()))) (fun(y1:(Bool×Unit)×Unit)=>ah (kV (x.1.1,(x.2.1,()))) (fun(y2:Bool×Unit)=>ah (aj (aj (aj y2.1
 (cO (1:Int) x.1.2.1)
 false)
 (cO x.1.2.1 (3:Int))
 false)
 (ah (oM (x.1.2.2.1,((2097152:Int),()))) (fun(y3:Bool×Unit)=>some y3.1))
 (some false)) (fun(y3:Bool)=>ah (aj y3
 (ah (oM (x.1.2.2.2.1,((2097152:Int),()))) (fun(y4:Bool×Unit)=>some y4.1))
 (some false)) (fun(y4:Bool)=>ah (aj y4
 (ah (oM (x.1.2.2.2.2.1,((2097152:Int),()))) (fun(y5:Bool×Unit)=>some y5.1))
 (some false)) (fun(y5:Bool)=>ah (aj y5
 (ah (oM (x.1.2.2.2.2.2.1,((8589934592:Int),()))) (fun(y6:Bool×Unit)=>some y6.1))
 (some false)) (fun(y6:Bool)=>ah (aj y6
 (ah (oM (x.1.2.2.2.2.2.2.1,((8589934592:Int),()))) (fun(y7:Bool×Unit)=>some y7.1))
 (some false)) (fun(y7:Bool)=>some (aj (aj y7
 (aj (nt (bC x.1.2.2.2.2.2.1 (0:Int)))
 (bC x.1.2.1 (1:Int))
 true)
 false)
 y1.1.1
 false,()))))))))
noncomputable def mb(x:Sb×Unit)(y1:tg×Unit):Option ((tg×Unit)⊕(tg×Unit)) :=
 @ep (tg×Unit) (aj (aY y1.1.2.1 (@len UInt8 x.1))
 (ah (aj (aj (cO (148:Int) y1.1.2.1)
 (aY y1.1.2.1 (156:Int))
 false)
 (some ((aI IntKind.i64 y1.1.1 (32:Int),()),()))
 (ah (@idx UInt8 x.1 y1.1.2.1) (fun(y2:UInt8)=>some ((aI IntKind.i64 y1.1.1 (qy IntKind.i64 (u8 y2)),()),())))) (fun(y2:(Int×Unit)×Unit)=>some (Sum.inl ((y2.1.1,(aI IntKind.i64 y1.1.2.1 (1:Int),())),()):((tg×Unit))⊕((Nat×tg×Unit)))))
 (some (Sum.inr ((0:Nat),((y1.1.1,(y1.1.2.1,())),())):((tg×Unit))⊕((Nat×tg×Unit)))))
noncomputable def u7(x:Sb×Unit):Option (Int×Unit) :=
 ah (Loop (mb x) (((0:Int),((0:Int),())),())) (fun(y1:tg×Unit)=>some (y1.1.1,()))
end Go.Ge
namespace Go.Ge
set_option linter.unusedSectionVars false
variable [Lp]
set_option linter.unusedVariables false
set_option maxRecDepth 100000
abbrev xP:=((Sb×Int×Int×Int×Int×Int×Int×Sb×Unit)×Sb×Unit)
abbrev wQ:=(Bool×Sb×Int×Bool×Bool×Unit)
abbrev WS:=((Unit×Unit×Bool×Unit)×xP×(List xP)×wQ×Unit)
abbrev KF:=(xP×Bool×Unit)
noncomputable def xQ(x:Int×Unit):Option (Int×Unit) :=
 aj (bC (512:Int) (0:Int))
 none
 (aj (bC (512:Int) (0:Int))
 none
 (some (ij (dO IntKind.i64 (512:Int) (ij x.1 (512:Int))) (512:Int),())))
noncomputable def eR(x:(Bool×Unit)×wQ×Unit):Option (KF×wQ×Unit) :=
 some ((((([]:List (UInt8)),((0:Int),((0:Int),((0:Int),((0:Int),((0:Int),((0:Int),(([]:List (UInt8)),())))))))),(([]:List (UInt8)),())),(false,())),((x.2.1.1,(([]:List (UInt8)),(x.2.1.2.2.1,(true,(x.1.1,x.2.1.2.2.2.2.2))))),()))
noncomputable def bT(x:Unit×wQ×Unit):Option (KF×wQ×Unit) :=
 aj (aj (nt (nt x.2.1.1))
 x.2.1.2.2.2.1
 true)
 (some ((((([]:List (UInt8)),((0:Int),((0:Int),((0:Int),((0:Int),((0:Int),((0:Int),(([]:List (UInt8)),())))))))),(([]:List (UInt8)),())),(false,())),(x.2.1,())))
 (aj (aY (@len UInt8 x.2.1.2.1) (512:Int))
 (ah (eR ((true,()),(x.2.1,()))) (fun(y1:KF×wQ×Unit)=>some ((y1.1.1,(y1.1.2.1,())),(y1.2.1,()))))
 (aj (inside (0:Int) (512:Int) (@len UInt8 x.2.1.2.1))
 (ah (vJ (@sub UInt8 x.2.1.2.1 (0:Int) (minus (512:Int) (0:Int)),())) (fun(y1:Bool×Unit)=>aj y1.1
 (ah (aj (cO (1024:Int) (@len UInt8 x.2.1.2.1))
 (aj (bC (512:Int) (0:Int))
 none
 (some (bC (ij (@len UInt8 x.2.1.2.1) (512:Int)) (0:Int))))
 (some false)) (fun(y2:Bool)=>ah (aj (nt (nt y2))
 (ah (gM (x.2.1.2.1,(([(0:UInt8)]:List (UInt8)),()))) (fun(y3:Sb×Unit)=>some (nt (cc y3.1 ([]:List (UInt8))))))
 (some true)) (fun(y3:Bool)=>ah (eR ((y3,()),(x.2.1,()))) (fun(y4:KF×wQ×Unit)=>some ((y4.1.1,(y4.1.2.1,())),(y4.2.1,()))))))
 (aj (inside (0:Int) (512:Int) (@len UInt8 x.2.1.2.1))
 (ah (fy (@sub UInt8 x.2.1.2.1 (0:Int) (minus (512:Int) (0:Int)),())) (fun(y2:(Sb×Int×Int×Int×Int×Int×Int×Sb×Unit)×Int×Unit)=>aj (inside (512:Int) (@len UInt8 x.2.1.2.1) (@len UInt8 x.2.1.2.1))
 (aj (nt (bC y2.2.1 (0:Int)))
 (ah (eR ((true,()),(x.2.1,()))) (fun(y3:KF×wQ×Unit)=>some ((y3.1.1,(y3.1.2.1,())),(y3.2.1,()))))
 (aj (aY (@len UInt8 (@sub UInt8 x.2.1.2.1 (512:Int) (minus (@len UInt8 x.2.1.2.1) (512:Int)))) y2.1.2.2.2.2.2.1)
 (ah (eR ((true,()),(x.2.1,()))) (fun(y3:KF×wQ×Unit)=>some ((y3.1.1,(y3.1.2.1,())),(y3.2.1,()))))
 (ah (xQ (y2.1.2.2.2.2.2.1,())) (fun(y3:Int×Unit)=>aj (aY (@len UInt8 (@sub UInt8 x.2.1.2.1 (512:Int) (minus (@len UInt8 x.2.1.2.1) (512:Int)))) (aI IntKind.i64 y2.1.2.2.2.2.2.1 y3.1))
 (ah (eR ((true,()),(x.2.1,()))) (fun(y4:KF×wQ×Unit)=>some ((y4.1.1,(y4.1.2.1,())),(y4.2.1,()))))
 (aj (cO (64:Int) x.2.1.2.2.1)
 (ah (eR ((true,()),(x.2.1,()))) (fun(y4:KF×wQ×Unit)=>some ((y4.1.1,(y4.1.2.1,())),(y4.2.1,()))))
 (ah (xQ (y2.1.2.2.2.2.2.1,())) (fun(y4:Int×Unit)=>aj (inside (aI IntKind.i64 y2.1.2.2.2.2.2.1 y4.1) (@len UInt8 (@sub UInt8 x.2.1.2.1 (512:Int) (minus (@len UInt8 x.2.1.2.1) (512:Int)))) (@len UInt8 (@sub UInt8 x.2.1.2.1 (512:Int) (minus (@len UInt8 x.2.1.2.1) (512:Int)))))
 (aj (inside (0:Int) y2.1.2.2.2.2.2.1 (@len UInt8 (@sub UInt8 x.2.1.2.1 (512:Int) (minus (@len UInt8 x.2.1.2.1) (512:Int)))))
 (some (((y2.1,(@sub UInt8 (@sub UInt8 x.2.1.2.1 (512:Int) (minus (@len UInt8 x.2.1.2.1) (512:Int))) (0:Int) (minus y2.1.2.2.2.2.2.1 (0:Int)),())),(true,())),((x.2.1.1,(@sub UInt8 (@sub UInt8 x.2.1.2.1 (512:Int) (minus (@len UInt8 x.2.1.2.1) (512:Int))) (aI IntKind.i64 y2.1.2.2.2.2.2.1 y4.1) (minus (@len UInt8 (@sub UInt8 x.2.1.2.1 (512:Int) (minus (@len UInt8 x.2.1.2.1) (512:Int)))) (aI IntKind.i64 y2.1.2.2.2.2.2.1 y4.1)),(aI IntKind.i64 x.2.1.2.2.1 (1:Int),x.2.1.2.2.2))),())))
 none)
 none)))))))
 none))
 none)))
 none))
noncomputable def js(x:Unit×wQ×Unit):Option ((Bool×Unit)×wQ×Unit) :=
 some ((x.2.1.2.2.2.2.1,()),(x.2.1,()))
noncomputable def gw(y2:(Unit×Unit×Bool×Unit)×xP×(List xP)×wQ×Unit):Option (WS⊕WS) :=
 @ep WS (aj y2.1.2.2.1
 (aj (fits (plus (@len xP y2.2.2.1) (@len xP ([y2.2.1]:List xP))))
 (ah (bT ((),(y2.2.2.2.1,()))) (fun(y3:KF×wQ×Unit)=>some (Sum.inl (((),((),(y3.1.2.1,()))),(y3.1.1,(@app xP y2.2.2.1 ([y2.2.1]:List xP),(y3.2.1,())))):(WS)⊕((Nat×(Unit×Unit×Bool×Unit)×xP×(List xP)×wQ×Unit)))))
 none)
 (some (Sum.inr ((0:Nat),(((),((),(y2.1.2.2.1,()))),(y2.2.1,(y2.2.2.1,(y2.2.2.2.1,()))))):(WS)⊕((Nat×(Unit×Unit×Bool×Unit)×xP×(List xP)×wQ×Unit)))))
noncomputable def mc(x:Sb×Unit):Option ((List xP)×Int×Unit) :=
 ah (bT ((),((true,(x.1,((0:Int),(aY (8192:Int) (@len UInt8 x.1),(aY (8192:Int) (@len UInt8 x.1),()))))),()))) (fun(y1:KF×wQ×Unit)=>ah (Loop (gw) (((),((),(y1.1.2.1,()))),(y1.1.1,(([]:List xP),(y1.2.1,()))))) (fun(y2:(Unit×Unit×Bool×Unit)×xP×(List xP)×wQ×Unit)=>ah (js ((),(y2.2.2.2.1,()))) (fun(y3:(Bool×Unit)×wQ×Unit)=>aj y3.1.1
 (some (([]:List xP),((10:Int),())))
 (some (y2.2.2.1,((0:Int),()))))))
noncomputable def jt(y1:(Int×Unit)×Unit):Option (((Int×Unit)×Unit)⊕((Int×Unit)×Unit)) :=
 @ep ((Int×Unit)×Unit) (aj (bC (512:Int) (0:Int))
 none
 (aj (nt (bC (ij y1.1.1 (512:Int)) (0:Int)))
 (some (Sum.inl ((aI IntKind.i64 y1.1.1 (1:Int),()),()):(((Int×Unit)×Unit))⊕((Nat×(Int×Unit)×Unit))))
 (some (Sum.inr ((0:Nat),((y1.1.1,()),())):(((Int×Unit)×Unit))⊕((Nat×(Int×Unit)×Unit))))))
noncomputable def kW(x:Int×Unit):Option (Int×Unit) :=
 ah (Loop (jt) ((x.1,()),())) (fun(y1:(Int×Unit)×Unit)=>some (y1.1.1,()))
end Go.Ge
namespace Go.Ge
set_option linter.unusedSectionVars false
variable [Lp]
set_option linter.unusedVariables false
set_option maxRecDepth 100000
abbrev DR:=(Bool×Int×Unit)
abbrev DT:=(Int×Int×Unit)
abbrev Ba:=(Nat×DR×Unit)
abbrev WT:=((Unit×Sb×Int×Unit)×(List Sb)×Unit)
abbrev WU:=((Unit×Int×Unit)×(List Sb)×Unit)
abbrev Nn:=(Nat×DT×Unit)
abbrev KG:=(Sb×Int×Unit)
abbrev G8:=((DR×Unit))
noncomputable def dY(x:Sb×Sb×Unit):Option (Bool×Unit) :=
 ah (dw (x.1,(x.2.1,()))) (fun(y1:Bool×Unit)=>some (y1.1,()))
noncomputable def dI(x:(List Sb)×Sb×Unit)(y1:DT×Unit):Option ((DT×Unit)⊕Nn) :=
 aj (aY y1.1.2.1 (@len Sb x.1))
 (ah (@idx Sb x.1 y1.1.2.1) (fun(y2:List (UInt8))=>aj (cc x.2.1 y2)
 (some (Sum.inr ((1:Nat),((y1.1.2.1,(y1.1.2.1,())),())):((DT×Unit))⊕(Nn)))
 (some (Sum.inl ((y1.1.1,(aI IntKind.i64 y1.1.2.1 (1:Int),())),()):((DT×Unit))⊕(Nn)))))
 (some (Sum.inr ((0:Nat),((y1.1.1,(y1.1.2.1,())),())):((DT×Unit))⊕(Nn)))
noncomputable def fY(x:(List Sb)×Sb×Unit):Option (Int×Unit) :=
 ah (Loop (dI x) (((0:Int),((0:Int),())),())) (fun(y1:Nat×DT×Unit)=>aj (fB y1.1 (0:Nat))
 (some ((-1:Int),()))
 (some (y1.2.1.1,())))
noncomputable def cl(x:(List Sb)×Sb×Unit):Option (Bool×Unit) :=
 ah (fY (x.1,(x.2.1,()))) (fun(y1:Int×Unit)=>some (cO (0:Int) y1.1,()))
noncomputable def ju(x:Sb×Unit)(y1:(Unit×Sb×Int×Unit)×(List Sb)×Unit):Option (WT⊕WT) :=
 @ep WT (aj (aY y1.1.2.2.1 (@len UInt8 x.1))
 (ah (@idx UInt8 x.1 y1.1.2.2.1) (fun(y2:UInt8)=>ah (aj (bC (u8 y2) (47:Int))
 (aj (fits (plus (@len Sb y1.2.1) (@len Sb ([y1.1.2.1]:List Sb))))
 (some (((),(([]:List (UInt8)),())),(@app Sb y1.2.1 ([y1.1.2.1]:List Sb),())))
 none)
 (aj (inside y1.1.2.2.1 (aI IntKind.i64 y1.1.2.2.1 (1:Int)) (@len UInt8 x.1))
 (aj (fits (plus (@len UInt8 y1.1.2.1) (@len UInt8 (@sub UInt8 x.1 y1.1.2.2.1 (minus (aI IntKind.i64 y1.1.2.2.1 (1:Int)) y1.1.2.2.1)))))
 (some (((),(@app UInt8 y1.1.2.1 (@sub UInt8 x.1 y1.1.2.2.1 (minus (aI IntKind.i64 y1.1.2.2.1 (1:Int)) y1.1.2.2.1)),())),(y1.2.1,())))
 none)
 none)) (fun(y3:(Unit×Sb×Unit)×(List Sb)×Unit)=>some (Sum.inl (((),(y3.1.2.1,(aI IntKind.i64 y1.1.2.2.1 (1:Int),()))),(y3.2.1,())):(WT)⊕((Nat×(Unit×Sb×Int×Unit)×(List Sb)×Unit))))))
 (some (Sum.inr ((0:Nat),(((),(y1.1.2.1,(y1.1.2.2.1,()))),(y1.2.1,()))):(WT)⊕((Nat×(Unit×Sb×Int×Unit)×(List Sb)×Unit)))))
noncomputable def dN(x:Sb×Unit):Option ((List Sb)×Unit) :=
 aj (cc x.1 ([]:List (UInt8)))
 (some (([]:List Sb),()))
 (ah (Loop (ju x) (((),(([]:List (UInt8)),((0:Int),()))),(([]:List Sb),()))) (fun(y1:(Unit×Sb×Int×Unit)×(List Sb)×Unit)=>aj (fits (plus (@len Sb y1.2.1) (@len Sb ([y1.1.2.1]:List Sb))))
 (some (@app Sb y1.2.1 ([y1.1.2.1]:List Sb),()))
 none))
noncomputable def kH(x:(List Sb)×Unit)(y1:KG×Unit):Option ((KG×Unit)⊕(KG×Unit)) :=
 @ep (KG×Unit) (aj (aY y1.1.2.1 (@len Sb x.1))
 (ah (aj (aY (0:Int) y1.1.2.1)
 (aj (fits (plus (@len UInt8 y1.1.1) (@len UInt8 ([(47:UInt8)]:List (UInt8)))))
 (some ((@app UInt8 y1.1.1 ([(47:UInt8)]:List (UInt8)),()),()))
 none)
 (some ((y1.1.1,()),()))) (fun(y2:(Sb×Unit)×Unit)=>ah (@idx Sb x.1 y1.1.2.1) (fun(y3:List (UInt8))=>aj (fits (plus (@len UInt8 y2.1.1) (@len UInt8 y3)))
 (some (Sum.inl ((@app UInt8 y2.1.1 y3,(aI IntKind.i64 y1.1.2.1 (1:Int),())),()):((KG×Unit))⊕((Nat×KG×Unit))))
 none)))
 (some (Sum.inr ((0:Nat),((y1.1.1,(y1.1.2.1,())),())):((KG×Unit))⊕((Nat×KG×Unit)))))
noncomputable def mN(x:(List Sb)×Unit):Option (Sb×Unit) :=
 ah (Loop (kH x) ((([]:List (UInt8)),((0:Int),())),())) (fun(y1:KG×Unit)=>some (y1.1.1,()))
noncomputable def iI(x:Sb×Unit)(y1:DR×Unit):Option ((DR×Unit)⊕Ba) :=
 aj (aY y1.1.2.1 (@len UInt8 x.1))
 (ah (@idx UInt8 x.1 y1.1.2.1) (fun(y2:UInt8)=>ah (aj (nt (bC (u8 y2) (0:Int)))
 (ah (@idx UInt8 x.1 y1.1.2.1) (fun(y3:UInt8)=>some (bC (u8 y3) (47:Int))))
 (some true)) (fun(y3:Bool)=>aj y3
 (some (Sum.inr ((1:Nat),((false,(y1.1.2.1,())),())):G8⊕(Ba)))
 (some (Sum.inl ((y1.1.1,(aI IntKind.i64 y1.1.2.1 (1:Int),())),()):G8⊕(Ba))))))
 (some (Sum.inr ((0:Nat),((y1.1.1,(y1.1.2.1,())),())):G8⊕(Ba)))
noncomputable def pZ(x:Sb×Unit):Option (Bool×Unit) :=
 ah (Loop (iI x) ((false,((0:Int),())),())) (fun(y1:Nat×DR×Unit)=>aj (fB y1.1 (0:Nat))
 (some (aj (aj (aj (cO (1:Int) (@len UInt8 x.1))
 (cO (@len UInt8 x.1) (32:Int))
 false)
 (nt (cc x.1 ([(46:UInt8)]:List (UInt8))))
 false)
 (nt (cc x.1 ([(46:UInt8),(46:UInt8)]:List (UInt8))))
 false,()))
 (some (y1.2.1.1,())))
noncomputable def nP(y1:(List Sb)×Unit)(y2:DR×Unit):Option ((DR×Unit)⊕Ba) :=
 aj (aY y2.1.2.1 (@len Sb y1.1))
 (ah (@idx Sb y1.1 y2.1.2.1) (fun(y3:List (UInt8))=>ah (pZ (y3,())) (fun(y4:Bool×Unit)=>aj (nt y4.1)
 (some (Sum.inr ((1:Nat),((false,(y2.1.2.1,())),())):G8⊕(Ba)))
 (some (Sum.inl ((y2.1.1,(aI IntKind.i64 y2.1.2.1 (1:Int),())),()):G8⊕(Ba))))))
 (some (Sum.inr ((0:Nat),((y2.1.1,(y2.1.2.1,())),())):G8⊕(Ba)))
noncomputable def ur(x:Sb×Unit):Option (Bool×Unit) :=
 ah (dN (x.1,())) (fun(y1:(List Sb)×Unit)=>ah (Loop (nP y1) ((false,((0:Int),())),())) (fun(y2:Nat×DR×Unit)=>aj (fB y2.1 (0:Nat))
 (some (aj (cO (@len Sb y1.1) (8:Int))
 (cO (@len UInt8 x.1) (96:Int))
 false,()))
 (some (y2.2.1.1,()))))
noncomputable def jv(y1:(List Sb)×Unit)(y2:(Unit×Int×Unit)×(List Sb)×Unit):Option (WU⊕WU) :=
 @ep WU (aj (aY y2.1.2.1 (@len Sb y1.1))
 (ah (@idx Sb y1.1 y2.1.2.1) (fun(y3:List (UInt8))=>ah (aj (nt (cc y3 ([]:List (UInt8))))
 (ah (@idx Sb y1.1 y2.1.2.1) (fun(y4:List (UInt8))=>some (nt (cc y4 ([(46:UInt8)]:List (UInt8))))))
 (some false)) (fun(y4:Bool)=>ah (aj y4
 (ah (@idx Sb y1.1 y2.1.2.1) (fun(y5:List (UInt8))=>aj (fits (plus (@len Sb y2.2.1) (@len Sb ([y5]:List Sb))))
 (some (((),()),(@app Sb y2.2.1 ([y5]:List Sb),())))
 none))
 (some (((),()),(y2.2.1,())))) (fun(y5:(Unit×Unit)×(List Sb)×Unit)=>some (Sum.inl (((),(aI IntKind.i64 y2.1.2.1 (1:Int),())),(y5.2.1,())):(WU)⊕((Nat×(Unit×Int×Unit)×(List Sb)×Unit)))))))
 (some (Sum.inr ((0:Nat),(((),(y2.1.2.1,())),(y2.2.1,()))):(WU)⊕((Nat×(Unit×Int×Unit)×(List Sb)×Unit)))))
noncomputable def rj(x:Sb×Unit):Option KG :=
 ah (dN (x.1,())) (fun(y1:(List Sb)×Unit)=>ah (Loop (jv y1) (((),((0:Int),())),(([]:List Sb),()))) (fun(y2:(Unit×Int×Unit)×(List Sb)×Unit)=>ah (mN (y2.2.1,())) (fun(y3:Sb×Unit)=>ah (aj (nt (cc x.1 ([]:List (UInt8))))
 (ah (@idx UInt8 x.1 (0:Int)) (fun(y4:UInt8)=>some (bC (u8 y4) (47:Int))))
 (some false)) (fun(y4:Bool)=>ah (aj (nt y4)
 (ah (ur (y3.1,())) (fun(y5:Bool×Unit)=>some (nt y5.1)))
 (some true)) (fun(y5:Bool)=>aj y5
 (some (([]:List (UInt8)),((2:Int),())))
 (some (y3.1,((0:Int),()))))))))
noncomputable def mg(x:Sb×Sb×Unit):Option (Bool×Unit) :=
 ah (aj (cO (@len UInt8 x.2.1) (@len UInt8 x.1))
 (aj (inside (0:Int) (@len UInt8 x.2.1) (@len UInt8 x.1))
 (some (cc (@sub UInt8 x.1 (0:Int) (minus (@len UInt8 x.2.1) (0:Int))) x.2.1))
 none)
 (some false)) (fun(y1:Bool)=>some (y1,()))
noncomputable def p4(x:Sb×Unit):Option (Int×Sb×Unit) :=
 aj (cc x.1 ([(46:UInt8),(119:UInt8),(104:UInt8),(46:UInt8),(46:UInt8),(119:UInt8),(104:UInt8),(46:UInt8),(46:UInt8),(111:UInt8),(112:UInt8),(113:UInt8)]:List (UInt8)))
 (some ((2:Int),(([]:List (UInt8)),())))
 (ah (mg (x.1,(([(46:UInt8),(119:UInt8),(104:UInt8),(46:UInt8),(46:UInt8),(119:UInt8),(104:UInt8),(46:UInt8)]:List (UInt8)),()))) (fun(y1:Bool×Unit)=>aj (aj (nt (aj (nt (aj (nt y1.1)
 (cc x.1 ([(46:UInt8),(119:UInt8),(104:UInt8),(46:UInt8)]:List (UInt8)))
 true))
 (cc x.1 ([(46:UInt8),(119:UInt8),(104:UInt8),(46:UInt8),(46:UInt8)]:List (UInt8)))
 true))
 (cc x.1 ([(46:UInt8),(119:UInt8),(104:UInt8),(46:UInt8),(46:UInt8),(46:UInt8)]:List (UInt8)))
 true)
 (some ((3:Int),(([]:List (UInt8)),())))
 (ah (mg (x.1,(([(46:UInt8),(119:UInt8),(104:UInt8),(46:UInt8)]:List (UInt8)),()))) (fun(y2:Bool×Unit)=>aj y2.1
 (aj (inside (4:Int) (@len UInt8 x.1) (@len UInt8 x.1))
 (some ((1:Int),(@sub UInt8 x.1 (4:Int) (minus (@len UInt8 x.1) (4:Int)),())))
 none)
 (some ((0:Int),(x.1,())))))))
noncomputable def iV(x:Sb×Unit):Option (Sb×Sb×Unit) :=
 ah (dN (x.1,())) (fun(y1:(List Sb)×Unit)=>aj (bC (@len Sb y1.1) (0:Int))
 (some (([]:List (UInt8)),(([]:List (UInt8)),())))
 (aj (inside (0:Int) (dO IntKind.i64 (@len Sb y1.1) (1:Int)) (@len Sb y1.1))
 (ah (mN (@sub Sb y1.1 (0:Int) (minus (dO IntKind.i64 (@len Sb y1.1) (1:Int)) (0:Int)),())) (fun(y2:Sb×Unit)=>ah (@idx Sb y1.1 (dO IntKind.i64 (@len Sb y1.1) (1:Int))) (fun(y3:List (UInt8))=>some (y2.1,(y3,())))))
 none))
noncomputable def iJ(x:(List Sb)×(List Sb)×Unit)(y1:DR×Unit):Option ((DR×Unit)⊕Ba) :=
 aj (aj (aY y1.1.2.1 (@len Sb x.1))
 (aY y1.1.2.1 (@len Sb x.2.1))
 false)
 (ah (@idx Sb x.1 y1.1.2.1) (fun(y2:List (UInt8))=>ah (@idx Sb x.2.1 y1.1.2.1) (fun(y3:List (UInt8))=>aj (nt (cc y2 y3))
 (some (Sum.inr ((1:Nat),((false,(y1.1.2.1,())),())):G8⊕(Ba)))
 (some (Sum.inl ((y1.1.1,(aI IntKind.i64 y1.1.2.1 (1:Int),())),()):G8⊕(Ba))))))
 (some (Sum.inr ((0:Nat),((y1.1.1,(y1.1.2.1,())),())):G8⊕(Ba)))
noncomputable def ef(x:(List Sb)×(List Sb)×Unit):Option (Bool×Unit) :=
 aj (nt (bC (@len Sb x.1) (@len Sb x.2.1)))
 (some (false,()))
 (ah (Loop (iJ x) ((false,((0:Int),())),())) (fun(y1:Nat×DR×Unit)=>aj (fB y1.1 (0:Nat))
 (some (true,()))
 (some (y1.2.1.1,()))))
noncomputable def mO(x:Sb×Sb×Unit):Option (Sb×Unit) :=
 aj (cc x.1 ([]:List (UInt8)))
 (some (x.2.1,()))
 (aj (cc x.2.1 ([]:List (UInt8)))
 (some (x.1,()))
 (aj (fits (plus (@len UInt8 x.1) (@len UInt8 ([(47:UInt8)]:List (UInt8)))))
 (aj (fits (plus (@len UInt8 (@app UInt8 x.1 ([(47:UInt8)]:List (UInt8)))) (@len UInt8 x.2.1)))
 (some (@app UInt8 (@app UInt8 x.1 ([(47:UInt8)]:List (UInt8))) x.2.1,()))
 none)
 none))
noncomputable def jw(y1:(List Sb)×Unit)(y2:(List Sb)×Unit)(y3:DR×Unit):Option ((DR×Unit)⊕Ba) :=
 aj (aj (aY y3.1.2.1 (@len Sb y2.1))
 (aY y3.1.2.1 (@len Sb y1.1))
 false)
 (ah (@idx Sb y1.1 y3.1.2.1) (fun(y4:List (UInt8))=>ah (@idx Sb y2.1 y3.1.2.1) (fun(y5:List (UInt8))=>aj (nt (cc y4 y5))
 (some (Sum.inr ((1:Nat),((false,(y3.1.2.1,())),())):G8⊕(Ba)))
 (some (Sum.inl ((y3.1.1,(aI IntKind.i64 y3.1.2.1 (1:Int),())),()):G8⊕(Ba))))))
 (some (Sum.inr ((0:Nat),((y3.1.1,(y3.1.2.1,())),())):G8⊕(Ba)))
noncomputable def rq(x:Sb×Sb×Unit):Option (Bool×Unit) :=
 ah (dN (x.1,())) (fun(y1:(List Sb)×Unit)=>ah (dN (x.2.1,())) (fun(y2:(List Sb)×Unit)=>aj (cO (@len Sb y1.1) (@len Sb y2.1))
 (some (false,()))
 (ah (Loop (jw y1 y2) ((false,((0:Int),())),())) (fun(y3:Nat×DR×Unit)=>aj (fB y3.1 (0:Nat))
 (some (true,()))
 (some (y3.2.1.1,()))))))
noncomputable def cT(y1:(List Sb)×Unit)(y2:(List Sb)×Unit)(y3:DT×Unit):Option ((DT×Unit)⊕Nn) :=
 aj (aj (aY y3.1.2.1 (@len Sb y1.1))
 (aY y3.1.2.1 (@len Sb y2.1))
 false)
 (ah (@idx Sb y1.1 y3.1.2.1) (fun(y4:List (UInt8))=>ah (@idx Sb y2.1 y3.1.2.1) (fun(y5:List (UInt8))=>aj (iD y4 y5)
 (some (Sum.inr ((1:Nat),(((-1:Int),(y3.1.2.1,())),())):((DT×Unit))⊕(Nn)))
 (ah (@idx Sb y1.1 y3.1.2.1) (fun(y6:List (UInt8))=>ah (@idx Sb y2.1 y3.1.2.1) (fun(y7:List (UInt8))=>aj (nt (oor (iD y6 y7) (cc y6 y7)))
 (some (Sum.inr ((1:Nat),(((1:Int),(y3.1.2.1,())),())):((DT×Unit))⊕(Nn)))
 (some (Sum.inl ((y3.1.1,(aI IntKind.i64 y3.1.2.1 (1:Int),())),()):((DT×Unit))⊕(Nn)))))))))
 (some (Sum.inr ((0:Nat),((y3.1.1,(y3.1.2.1,())),())):((DT×Unit))⊕(Nn)))
noncomputable def kI(x:Sb×Sb×Unit):Option (Int×Unit) :=
 ah (dN (x.1,())) (fun(y1:(List Sb)×Unit)=>ah (dN (x.2.1,())) (fun(y2:(List Sb)×Unit)=>ah (Loop (cT y1 y2) (((0:Int),((0:Int),())),())) (fun(y3:Nat×DT×Unit)=>aj (fB y3.1 (0:Nat))
 (aj (aY (@len Sb y1.1) (@len Sb y2.1))
 (some ((-1:Int),()))
 (aj (aY (@len Sb y2.1) (@len Sb y1.1))
 (some ((1:Int),()))
 (some ((0:Int),()))))
 (some (y3.2.1.1,())))))
end Go.Ge
namespace Go.Ge
set_option linter.unusedSectionVars false
variable [Lp]
set_option linter.unusedVariables false
set_option maxRecDepth 100000
abbrev BA:=(Int×Bool×Int×Int×Unit)
noncomputable def fF(x:Sb×Unit)(y1:BA×Unit):Option ((BA×Unit)⊕(Nat×BA×Unit)) :=
 aj (aY y1.1.2.2.2.1 (@len UInt8 x.1))
 (ah (@idx UInt8 x.1 y1.1.2.2.2.1) (fun(y2:UInt8)=>ah (aj (nt (aY (u8 y2) (48:Int)))
 (ah (@idx UInt8 x.1 y1.1.2.2.2.1) (fun(y3:UInt8)=>some (aY (55:Int) (u8 y3))))
 (some true)) (fun(y3:Bool)=>aj (aj (nt y3)
 (aY (1152921504606846975:Int) y1.1.2.2.1)
 true)
 (some (Sum.inr ((1:Nat),(((0:Int),(false,(y1.1.2.2.1,(y1.1.2.2.2.1,())))),())):((BA×Unit))⊕((Nat×BA×Unit))))
 (ah (@idx UInt8 x.1 y1.1.2.2.2.1) (fun(y4:UInt8)=>some (Sum.inl ((y1.1.1,(y1.1.2.1,(aI IntKind.i64 (lJ IntKind.i64 (8:Int) y1.1.2.2.1) (qy IntKind.i64 (dO IntKind.u8 (u8 y4) (48:Int))),(aI IntKind.i64 y1.1.2.2.2.1 (1:Int),())))),()):((BA×Unit))⊕((Nat×BA×Unit))))))))
 (some (Sum.inr ((0:Nat),((y1.1.1,(y1.1.2.1,(y1.1.2.2.1,(y1.1.2.2.2.1,())))),())):((BA×Unit))⊕((Nat×BA×Unit))))
noncomputable def lq(x:Sb×Unit):Option (Int×Bool×Unit) :=
 aj (aj (nt (aY (@len UInt8 x.1) (1:Int)))
 (aY (21:Int) (@len UInt8 x.1))
 true)
 (some ((0:Int),(false,())))
 (ah (Loop (fF x) (((0:Int),(false,((0:Int),((0:Int),())))),())) (fun(y1:Nat×BA×Unit)=>aj (fB y1.1 (0:Nat))
 (some (y1.2.1.2.2.1,(true,())))
 (some (y1.2.1.1,(y1.2.1.2.1,())))))
end Go.Ge
