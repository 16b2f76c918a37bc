/- Plain laws of what the functions compute: part 1. -/
import Derived.Test.YtefacgohfjccgaaGreatDoorGeI
import Derived.Lib.Repeat
set_option linter.unusedSectionVars false
set_option linter.unusedVariables false
set_option linter.unusedSimpArgs false
noncomputable section
namespace Go.Ge
variable [Lp]
theorem fJ{a b:Int}(h:-9223372036854775808≤a+b)(h2:a+b≤9223372036854775807):aL .i64 a b=a+b:=by
 unfold aL;simp[IntKind.wrap,IntKind.min,IntKind.max,IntKind.signed,IntKind.bits];omega
theorem eT{a b:Int}(h:-9223372036854775808≤a-b)(h2:a-b≤9223372036854775807):ef .i64 a b=a-b:=by
 unfold ef;simp[IntKind.wrap,IntKind.min,IntKind.max,IntKind.signed,IntKind.bits];omega
theorem C6{a b:Int}(h:-9223372036854775808≤a*b)(h2:a*b≤9223372036854775807):nr .i64 a b=a*b:=by
 unfold nr;simp[IntKind.wrap,IntKind.min,IntKind.max,IntKind.signed,IntKind.bits];omega
theorem El{a:Int}(h:-9223372036854775808≤a)(h2:a≤9223372036854775807):qW .i64 a=a:=by
 unfold qW;simp[IntKind.wrap,IntKind.min,IntKind.max,IntKind.signed,IntKind.bits];omega
theorem wrap_u32(a:Int):IntKind.wrap .u32 a=a % 4294967296:=by
 simp[IntKind.wrap,IntKind.min,IntKind.max,IntKind.signed,IntKind.bits]
def Bv(x:Int):BitVec 32:=BitVec.ofInt 32 x
def Can(x:Int):Prop:=0≤x∧x<4294967296
theorem Vm(a:Int):Can (IntKind.wrap .u32 a):=by rw[wrap_u32];unfold Can;omega
theorem xG(a:Int):((Bv a).toNat:Int)=a % 4294967296:=by
 unfold Bv;rw[acL];have:0≤a % ((2 ^ 32:Nat):Int):=Int.emod_nonneg _ (by decide);rw[acI this];rfl
theorem agA{a b:Int}(ha:Can a)(hb:Can b)(h:Bv a=Bv b):a=b:=by
 have h1:=xG a;have h2:=xG b;rw[h] at h1;unfold Can at ha hb;omega
theorem L8(a:Int):Bv (IntKind.wrap .u32 a)=Bv a:=by
 apply acE;have h1:=xG a;have h2:=xG (IntKind.wrap .u32 a);rw[wrap_u32] at h2⊢;omega
theorem XY(v:BitVec 32):Bv (v.toNat:Int)=v:=by
 apply acE;have h1:=xG (v.toNat:Int);have:=v.isLt;omega
theorem bv_and(x y:Int):Bv (jA .u32 x y)=Bv x &&& Bv y:=by unfold jA;rw[L8];exact XY _
theorem ZC(x y:Int):Bv (zx .u32 x y)=Bv x ||| Bv y:=by unfold zx;rw[L8];exact XY _
theorem aec(x y:Int):Bv (fc .u32 x y)=Bv x ^^^ Bv y:=by unfold fc;rw[L8];exact XY _
theorem NG(x y:Int):Can (zx .u32 x y):=Vm _
theorem SR(x y:Int):Can (fc .u32 x y):=Vm _
theorem XZ(x:Int)(n:Nat)(hn:n≤32):Bv (nu .u32 x n)=Bv x <<< n:=by
 unfold nu;rw[L8];apply acE;have h1:=xG (x*2 ^ (min (n:Int).toNat IntKind.u32.bits));have h2:=xG x;have e:min (n:Int).toNat IntKind.u32.bits=n:=by simp[IntKind.bits];omega
 rw[e] at h1⊢;rw[BitVec.toNat_shiftLeft,Nat.shiftLeft_eq];have h3:(((Bv x).toNat*2 ^ n % 2 ^ 32:Nat):Int)=(x*2 ^ n) % 4294967296:=by
  rw[Int.natCast_emod,Int.natCast_mul,h2,Int.natCast_pow];show(x % 4294967296*2 ^ n) % 4294967296=_
  rw[Int.mul_emod,Int.emod_emod_of_dvd _ (Int.dvd_refl _),←Int.mul_emod]
 omega
theorem X0(x y:Int):zx .u32 x y=zx .u32 y x:=agA (NG _ _) (NG _ _) (by rw[ZC,ZC,BitVec.or_comm])
theorem Vn(x y:Int):aL .u32 x y=aL .u32 y x:=by unfold aL;rw[Int.add_comm]
theorem akj(e f g:Int):fc .u32 g (jA .u32 e (fc .u32 f g))=fc .u32 (jA .u32 e f) (jA .u32 (fc .u32 4294967295 e) g):=by
 refine agA (SR _ _) (SR _ _) ?_;simp only[aec,bv_and];have h:Bv 4294967295=BitVec.allOnes 32:=by decide
 rw[h]
 ext i hi
 simp only[BitVec.getElem_xor,BitVec.getElem_and,BitVec.getElem_allOnes];cases (Bv e)[i]<;>cases (Bv f)[i]<;>cases (Bv g)[i]<;>rfl
theorem aiv(a b c:Int):zx .u32 (jA .u32 a b) (jA .u32 c (zx .u32 a b))=fc .u32 (fc .u32 (jA .u32 a b) (jA .u32 a c)) (jA .u32 b c):=by
 refine agA (NG _ _) (SR _ _) ?_;simp only[aec,bv_and,ZC]
 ext i hi
 simp only[BitVec.getElem_xor,BitVec.getElem_and,BitVec.getElem_or];cases (Bv a)[i]<;>cases (Bv b)[i]<;>cases (Bv c)[i]<;>rfl
theorem agB(a b c d:Int):zx .u32 (nu .u32 (zx .u32 (nu .u32 (zx .u32 (nu .u32 (zx .u32 (nu .u32 0 8) a) 8) b) 8) c) 8) d=zx .u32 (zx .u32 (zx .u32 (nu .u32 a 24) (nu .u32 b 16)) (nu .u32 c 8)) d:=by
 refine agA (NG _ _) (NG _ _) ?_;have s8:∀x,Bv (nu .u32 x 8)=Bv x <<< 8:=fun x=>XZ x 8 (by decide);have s16:∀x,Bv (nu .u32 x 16)=Bv x <<< 16:=fun x=>XZ x 16 (by decide);have s24:∀x,Bv (nu .u32 x 24)=Bv x <<< 24:=fun x=>XZ x 24 (by decide);simp only[ZC,s8,s16,s24];have z:Bv 0=0#32:=by decide
 rw[z];simp[BitVec.shiftLeft_or_distrib,←BitVec.shiftLeft_add]
theorem aT{a b:Int}(h:a<b):bB a b=true:=by simp[bB,h]
theorem aH{a b:Int}(h:b≤a):bB a b=false:=by simp[bB];omega
theorem cE{a b:Int}(h:a≤b):cX a b=true:=by simp[cX,h]
theorem fU{a b:Int}(h:b<a):cX a b=false:=by simp[cX];omega
theorem aP{a b:Int}(h:a=b):bI a b=true:=by simp[bI,h]
theorem aM{a b:Int}(h:a≠b):bI a b=false:=by simp[bI,h]
theorem bE{i n:Int}(h0:0≤i)(h1:i<n):within i n=true:=by simp[within,h0,h1]
theorem bq{i j n:Int}(h0:0≤i)(h1:i≤j)(h2:j≤n):inside i j n=true:=by simp[inside,h0,h1,h2]
theorem dO{n:Int}(h:n≤4294967296):fits n=true:=by simp[fits,h]
theorem dh{S:Type}(s:S):eP (some (.inl s:S⊕(Nat×S)))=some (.inl s):=rfl
theorem dR{S:Type}(n:Nat)(s:S):eP (some (.inr (n,s):S⊕(Nat×S)))=some (.inr s):=rfl
theorem fK{α:Type}(l:List α)(d:α){i:Nat}(h:i<l.length):idx l (i:Int)=some (l.getD i d):=by
 rw[yK,kL h,RT,kL h];rfl
theorem nB{α:Type}(l:List α)(d:α){i:Int}{k:Nat}(e:i=k)(h:k<l.length):idx l i=some (l.getD k d):=by subst e;exact fK l d h
theorem su{α:Type}(l:List α)(i:Nat)(x:α):vL l (i:Int) x=l.set i x:=by simp[vL]
end Go.Ge
namespace Go.Ge
variable [Lp]
def yq{α σ R:Type}(step:Nat→σ→α→Option (σ⊕R))(fin:Nat→σ→R):List α→Nat→σ→Option R
 | [],i,s=>some (fin i s)
 | x::r,i,s=>match step i s x with
   | none=>none
   | some (.inl s')=>yq step fin r (i+1) s'
   | some (.inr y)=>some y
theorem xH{α σ S R:Type}{f:S→Option (S⊕R)}(l:List α)(mk:σ→Nat→S)(step:Nat→σ→α→Option (σ⊕R))(fin:Nat→σ→R)(Inv:Nat→σ→Prop)
  (hstep:∀s i x,l[i]?=some x→i<l.length→Inv i s→f (mk s i)=(step i s x).map (fun q=>match q with|.inl s'=>.inl (mk s' (i+1))|.inr y=>.inr y))
  (hinv:∀s i x s',l[i]?=some x→Inv i s→step i s x=some (.inl s')→Inv (i+1) s')
  (SS:∀s,Inv l.length s→f (mk s l.length)=some (.inr (fin l.length s))) (hsome:∀s i x,l[i]?=some x→Inv i s→step i s x≠none) :
  ∀s,Inv 0 s→Loop f (mk s 0)=yq step fin l 0 s:=by
 have key:∀(rest pre:List α) (s:σ),l=pre++rest→Inv pre.length s→Loop f (mk s pre.length)=yq step fin rest pre.length s:=by
  intro rest;induction rest with
  | nil =>
    intro pre s hl hI;rw[Am] at hl;subst hl;rw[aX,SS s hI];rfl
  | cons x r ih =>
    intro pre s hl hI;have hx:l[pre.length]?=some x:=by rw[hl];simp
    have hlt:pre.length<l.length:=by rw[hl];simp
    rw[aX,hstep s pre.length x hx hlt hI];unfold yq;cases hs:step pre.length s x with
    | none=>exact absurd hs (hsome s _ x hx hI)
    | some q =>
      cases q with
      | inr y=>rfl
      | inl s' =>
        have:=ih (pre++[x]) s' (by rw[hl];simp) (by rw[iO];exact hinv s _ x s' hx hI hs);rw[iO] at this;exact this
 intro s hI;exact key l [] s rfl hI
theorem HA{α:Type}(i:Nat)(l:List α):bB (i:Int) (len l)=decide (i<l.length):=by simp[bB,len]
theorem HB{α:Type}(l:List α):bB (0:Int) (len l)=decide (0<l.length):=HA 0 l
theorem L9{α:Type}(i:Nat)(l:List α):cX (len l) (i:Int)=decide (l.length≤i):=by simp[cX,len]
theorem Vo{α β:Type}(l:List α)(m:List β):bB (len l) (len m)=decide (l.length<m.length):=by simp[bB,len]
theorem NH{α β:Type}(l:List α)(m:List β):cX (len l) (len m)=decide (l.length≤m.length):=by simp[cX,len]
theorem aed{α β:Type}(l:List α)(m:List β):bI (len l) (len m)=decide (l.length=m.length):=by unfold bI len;apply decide_eq_decide.2;omega
theorem cG{α β:Type}{l:List α}{m:List β}(h:l.length+m.length≤4294967296):fits (plus (len l) (len m))=true:=by
 apply dO;simp only[plus,len];omega
theorem iB{α:Type}(c:Bool)(x y:α):aj c x y=if c=true then x else y:=by cases c<;>rfl
theorem SU{a b:List UInt8}:cc a b=decide (a=b):=rfl
theorem cJ{a b:List UInt8}(h:a≠b):cc a b=false:=by simp[cc,h]
theorem gH{a b:List UInt8}(h:a=b):cc a b=true:=by simp[cc,h]
theorem E6{c:UInt8}{n:UInt8}:bI (u8 c) (n.toNat:Int)=decide (c=n):=by
 unfold bI u8;by_cases h:c=n
 ·simp[h]
 ·have:c.toNat≠n.toNat:=fun e=>h (UInt8.toNat_inj.1 e);simp[h];omega
theorem kY{α:Type}(l:List α)(n:Nat):sub l 0 (minus (n:Int) 0)=l.take n:=by
 unfold sub minus;simp
theorem Q8{α β:Type}(l:List α)(m:List β):sub l 0 (minus (len m) 0)=l.take m.length:=kY l m.length
theorem sw{α:Type}(l:List α)(n:Nat)(h:n≤l.length):sub l (n:Int) (minus (len l) (n:Int))=l.drop n:=by
 unfold sub minus len;rw[u6];apply GG;rw[qV];omega
theorem cv:fT 0 0=true:=rfl
theorem kN:fT 1 0=false:=rfl
theorem aI{α:Type}{l:List α}{i:Nat}{x:α}(h:l[i]?=some x):i<l.length:=(List.getElem?_eq_some_iff.1 h).1
theorem sub_one{α:Type}{l:List α}{i:Nat}{x:α}(h:l[i]?=some x):sub l (i:Int) (minus ((i+1:Nat):Int) (i:Int))=[x]:=by
 unfold sub minus;rw[show((i+1:Nat):Int)-(i:Int)=1 by omega,u6];obtain⟨hi,rfl⟩:=List.getElem?_eq_some_iff.1 h;rw[CD hi];rfl
theorem X1{a b n:Nat}(h:a≤b)(k:b≤n):inside (a:Int) (b:Int) (n:Int)=true:=bq (by omega) (by omega) (by omega)
theorem tW{α:Type}{a b:Nat}{l:List α}(h:a≤b)(k:b≤l.length):inside (a:Int) (b:Int) (len l)=true:=X1 h k
theorem aB{α:Type}{l:List α}{i:Nat}{x:α}(h:l[i]?=some x):idx l (i:Int)=some x:=by rw[yK,h]
theorem au{α:Type}{l:List α}{i:Nat}(h:i<l.length):bB (i:Int) (len l)=true:=by rw[HA,fo h]
theorem aE{α:Type}{l:List α}:bB (l.length:Int) (len l)=false:=by rw[HA,dJ (by omega)]
theorem F9{α:Type}(l m:List α):app l m=l++m:=rfl
theorem ZD(b:Bool):nt b=!b:=rfl
theorem bX{α:Type}(l:List α):len l=(l.length:Int):=rfl
end Go.Ge
namespace Go.Ge
variable [Lp]
theorem agC(y:List UInt8):jy [] y=decide (y≠[]):=by cases y<;>simp[jy,Op.bytesLess]
theorem NI(x:List UInt8):jy x []=false:=by cases x<;>simp[jy,Op.bytesLess]
theorem HC(a b:UInt8)(x y:List UInt8):jy (a::x) (b::y)=(decide (a<b)||(a==b&&jy x y)):=by simp[jy,Op.bytesLess]
theorem aaY(a:UInt8):¬a<a:=UInt8.lt_irrefl a
theorem aiw(a b:UInt8):a<b∨a=b∨b<a:=by
 rcases TZ a.toNat b.toNat with h|h|h
 ·exact .inl h
 ·exact .inr (.inl (UInt8.toNat_inj.1 h))
 ·exact .inr (.inr h)
theorem oq:∀x:List UInt8,jy x x=false:=by
 intro x;induction x with
 | nil=>rfl
 | cons a x ih=>rw[HC,ih];simp[aaY]
theorem Em:∀{x y z:List UInt8},jy x y=true→jy y z=true→jy x z=true:=by
 intro x;induction x with
 | nil =>
   intro y z h k;cases z with
   | nil=>rw[NI] at k;cases k
   | cons c z=>rfl
 | cons a x ih =>
   intro y z h k;cases y with
   | nil=>rw[NI] at h;cases h
   | cons b y =>
     cases z with
     | nil=>rw[NI] at k;cases k
     | cons c z =>
       rw[HC] at h k⊢;simp only[zv,nY,dW,Zk] at h k⊢;rcases h with h|⟨rfl,h⟩
       ·rcases k with k|⟨rfl,k⟩
        ·exact .inl (UInt8.lt_trans h k)
        ·exact .inl h
       ·rcases k with k|⟨rfl,k⟩
        ·exact .inl k
        ·exact .inr ⟨rfl,ih h k⟩
theorem Ma:∀(x y:List UInt8),jy x y=true∨x=y∨jy y x=true:=by
 intro x;induction x with
 | nil=>intro y;cases y<;>simp[agC]
 | cons a x ih =>
   intro y;cases y with
   | nil=>exact .inr (.inr rfl)
   | cons b y =>
     rw[HC,HC];simp only[zv,nY,dW,Zk];rcases aiw a b with h|rfl|h
     ·exact .inl (.inl h)
     ·rcases ih y with h|rfl|h
      ·exact .inl (.inr ⟨rfl,h⟩)
      ·exact .inr (.inl rfl)
      ·exact .inr (.inr (.inr ⟨rfl,h⟩))
     ·exact .inr (.inr (.inl h))
theorem AJ{x y:List UInt8}(h:jy x y=true):jy y x=false:=by
 cases k:jy y x with
 | false=>rfl
 | true=>have:=Em h k;rw[oq] at this;cases this
theorem Ga{x y:List UInt8}(h:jy x y=true):x≠y:=fun e=>by rw[e,oq] at h;cases h
theorem aix(x y:List UInt8):nt (oor (jy x y) (cc x y))=jy y x:=by
 rcases Ma x y with h|rfl|h
 ·rw[h,AJ h];rfl
 ·rw[xF,oq];rfl
 ·rw[h,AJ h,cJ (fun e=>Ga h e.symm)];rfl
def cmpL:List (List UInt8)→List (List UInt8)→Int
 | [],[]=>0
 | [],_::_=>-1
 | _::_,[]=>1
 | a::x,b::y=>if a=b then cmpL x y else if jy a b=true then -1 else 1
theorem rI:∀x,cmpL x x=0:=by
 intro x;induction x with
 | nil=>rfl
 | cons a x ih=>rw[cmpL,bu rfl];exact ih
theorem aaZ:∀{x y},cmpL x y=0→x=y:=by
 intro x;induction x with
 | nil=>intro y h;cases y with|nil=>rfl|cons b y=>cases h
 | cons a x ih =>
   intro y h;cases y with
   | nil=>cases h
   | cons b y =>
     rw[cmpL] at h;split at h
     ·rename_i e;rw[e,ih h]
     ·split at h<;>cases h
theorem aee:∀x y,cmpL x y=- cmpL y x:=by
 intro x;induction x with
 | nil=>intro y;cases y<;>rfl
 | cons a x ih =>
   intro y;cases y with
   | nil=>rfl
   | cons b y =>
     rw[cmpL,cmpL];by_cases e:a=b
     ·rw[bu e,bu e.symm,ih y]
     ·have e':¬b=a:=fun q=>e q.symm;rw[br e,br e'];rcases Ma a b with h|h|h
      ·rw[bu h,br (by rw[AJ h];simp)]
      ·exact absurd h e
      ·rw[br (by rw[AJ h];simp),bu h];rfl
theorem xI:∀{x y z},cmpL x y<0→cmpL y z<0→cmpL x z<0:=by
 intro x;induction x with
 | nil =>
   intro y z h k;cases z with
   | nil=>cases y with|nil=>exact absurd k (by simp[cmpL])|cons b y=>exact absurd k (by simp[cmpL])
   | cons c z=>exact(by decide:(-1:Int)<0)
 | cons a x ih =>
   intro y z h k;cases y with
   | nil=>exact absurd h (by simp[cmpL])
   | cons b y =>
     cases z with
     | nil=>exact absurd k (by simp[cmpL])
     | cons c z =>
       rw[cmpL] at h k⊢;by_cases e:a=b
       ·subst e;rw[bu rfl] at h;by_cases e2:a=c
        ·subst e2;rw[bu rfl] at k⊢;exact ih h k
        ·rw[br e2] at k⊢;exact k
       ·rw[br e] at h;have hab:jy a b=true:=by
         cases q:jy a b with
         | true=>rfl
         | false=>rw[q,br (by simp)] at h;exact absurd h (by decide)
        by_cases e2:b=c
        ·subst e2;rw[br e];exact h
        ·rw[br e2] at k;have hbc:jy b c=true:=by
          cases q:jy b c with
          | true=>rfl
          | false=>rw[q,br (by simp)] at k;exact absurd k (by decide)
         have hac:=Em hab hbc;rw[br (Ga hac),bu hac];decide
theorem aiy{α β:Type}{x:List α}{y:List β}{i:Nat}{p:α×β}(h:(x.zip y)[i]?=some p):x[i]?=some p.1∧y[i]?=some p.2:=by
 rw[acu] at h;exact h
theorem aef{α:Type}[DecidableEq α]:∀(x y:List α),(x.zip y).all (fun p=>decide (p.1=p.2))=decide (x.take (min x.length y.length)=y.take (min x.length y.length)):=by
 intro x;induction x with
 | nil=>intro y;simp
 | cons a x ih =>
   intro y;cases y with
   | nil=>simp
   | cons b y =>
     rw[List.zip_cons_cons,QF,ih y];simp only[ep,Nat.add_min_add_right,Y4];by_cases e:a=b
     ·subst e;simp
     ·simp[e]
end Go.Ge
namespace Go.Ge
variable [Lp]
theorem aeg{α:Type}(l:List α)(p:Nat→α→Bool) :
  (∃i x,l[i]?=some x∧p i x=true∧∀j y,j<i→l[j]?=some y→p j y=false)∨∀i x,l[i]?=some x→p i x=false:=by
 by_cases h:∃i x,l[i]?=some x∧p i x=true
 ·left;have key:∀n i x,i≤n→l[i]?=some x→p i x=true→∃i x,l[i]?=some x∧p i x=true∧∀j y,j<i→l[j]?=some y→p j y=false:=by
   intro n;induction n with
   | zero =>
     intro i x hi hx hp;obtain rfl:i=0:=by omega
     exact⟨0,x,hx,hp,fun j y hj=>by omega⟩
   | succ n ih =>
     intro i x hi hx hp;by_cases k:∃j y,j<i∧l[j]?=some y∧p j y=true
     ·obtain⟨j,y,hj,hy,hq⟩:=k;exact ih j y (by omega) hy hq
     ·refine⟨i,x,hx,hp,fun j y hj hy=>?_⟩;cases hq:p j y with
      | false=>rfl
      | true=>exact absurd ⟨j,y,hj,hy,hq⟩ k
  obtain⟨i,x,hx,hp⟩:=h;exact key i i x (cU _) hx hp
 ·right;intro i x hx;cases hq:p i x with
  | false=>rfl
  | true=>exact absurd ⟨i,x,hx,hq⟩ h
theorem p8{α S R:Type}{f:S→Option (S⊕R)}(l:List α)(mk:Int→S)(p:Nat→α→Bool)(aa0:Nat→α→R)(aa1:R)(hl:l.length≤4294967296)
  (hstep:∀i x,l[i]?=some x→i<l.length→aL .i64 (i:Int) 1=((i+1:Nat):Int)→f (mk (i:Int))=some (if p i x=true then .inr (aa0 i x) else .inl (mk ((i+1:Nat):Int))))
  (SS:f (mk (l.length:Int))=some (.inr aa1)) :
  (∃i x,l[i]?=some x∧p i x=true∧(∀j y,j<i→l[j]?=some y→p j y=false)∧Loop f (mk 0)=some (aa0 i x))∨((∀i x,l[i]?=some x→p i x=false)∧Loop f (mk 0)=some aa1):=by
 have adv:∀i x,l[i]?=some x→p i x=false→f (mk (i:Int))=some (.inl (mk ((i+1:Nat):Int))):=fun i x hx hp=>by
  have hi:=aI hx;rw[hstep i x hx hi (aY (by omega)),hp];rfl
 rcases aeg l p with ⟨i,x,hx,hp,hj⟩|hn
 ·left;refine⟨i,x,hx,hp,hj,?_⟩;have hi:=aI hx;refine de i (fun j:Nat=>mk (j:Int)) (fun j hji=>?_) ?_
  ·have hjl:j<l.length:=by omega
   exact adv j l[j] (kL hjl) (hj j _ hji (kL hjl))
  ·rw[hstep i x hx hi (aY (by omega)),hp];rfl
 ·right;refine⟨hn,de l.length (fun j:Nat=>mk (j:Int)) (fun j hj=>?_) SS⟩;exact adv j l[j] (kL hj) (hn j _ (kL hj))
theorem tX{α S R:Type}{f:S→Option (S⊕R)}(l:List α)(n:Nat)(mk:Int→S)(p:Nat→α→Bool)(aa0:Nat→α→R)(aa1:Nat→R)(hl:min n l.length≤4294967296)
  (hstep:∀i x,l[i]?=some x→i<l.length→i<n→aL .i64 (i:Int) 1=((i+1:Nat):Int)→f (mk (i:Int))=some (if p i x=true then .inr (aa0 i x) else .inl (mk ((i+1:Nat):Int))))
  (SS:f (mk ((min n l.length:Nat):Int))=some (.inr (aa1 (min n l.length)))) :
  (∃i x,i<n∧l[i]?=some x∧p i x=true∧(∀j y,j<i→l[j]?=some y→p j y=false)∧Loop f (mk 0)=some (aa0 i x))∨((∀i x,i<n→l[i]?=some x→p i x=false)∧Loop f (mk 0)=some (aa1 (min n l.length))):=by
 have ht:∀i x,(l.take n)[i]?=some x↔(i<n∧l[i]?=some x):=fun i x=>by
  rw[gN];by_cases h:i<n
  ·simp[h]
  ·simp[h]
 have hlen:(l.take n).length=min n l.length:=cW;rcases p8 (f:=f) (l.take n) mk p aa0 (aa1 (min n l.length)) (by rw[hlen];exact hl) (fun i x hx hi Lt=>by
  obtain⟨h1,h2⟩:=(ht i x).1 hx;exact hstep i x h2 (aI h2) h1 Lt) (by rw[hlen];exact SS) with ⟨i,x,hx,hp,hj,h⟩|⟨hn,h⟩
 ·obtain⟨h1,h2⟩:=(ht i x).1 hx;exact .inl ⟨i,x,h1,h2,hp,fun j y hji hy=>hj j y hji ((ht j y).2 ⟨by omega,hy⟩),h⟩
 ·exact .inr ⟨fun i x hi hx=>hn i x ((ht i x).2 ⟨hi,hx⟩),h⟩
theorem Jn{α σ S R:Type}{f:S→Option (S⊕R)}(l:List α)(mk:σ→Int→S)(step:σ→Nat→α→σ)(fin:σ→R)(Inv:σ→Nat→Prop)(hl:l.length≤4294967296)
  (hstep:∀s i x,l[i]?=some x→i<l.length→aL .i64 (i:Int) 1=((i+1:Nat):Int)→Inv s i→f (mk s (i:Int))=some (.inl (mk (step s i x) ((i+1:Nat):Int)))∧Inv (step s i x) (i+1))
  (SS:∀s,Inv s l.length→f (mk s (l.length:Int))=some (.inr (fin s))) (s:σ) (h0:Inv s 0):∃t,Inv t l.length∧Loop f (mk s 0)=some (fin t)∧t=(l.zipIdx).foldl (fun a p=>step a p.2 p.1) s:=by
 have key:∀(rest pre:List α) (s:σ),l=pre++rest→Inv s pre.length→∃t,Inv t l.length∧Loop f (mk s (pre.length:Int))=some (fin t)∧t=(rest.zipIdx pre.length).foldl (fun a p=>step a p.2 p.1) s:=by
  intro rest;induction rest with
  | nil =>
    intro pre s LY hI;rw[Am] at LY;subst LY;exact⟨s,hI,by rw[aX,SS s hI];rfl,rfl⟩
  | cons x r ih =>
    intro pre s LY hI;have hx:l[pre.length]?=some x:=by rw[LY];simp
    have hlt:=aI hx;obtain⟨h1,h2⟩:=hstep s pre.length x hx hlt (aY (by omega)) hI;obtain⟨t,t1,t2,t3⟩:=ih (pre++[x]) (step s pre.length x) (by rw[LY];simp) (by rw[iO];exact h2);rw[iO] at t2 t3;exact⟨t,t1,by rw[aX,h1];exact t2,t3⟩
 exact key l [] s rfl h0
theorem C7{α β S R:Type}{f:S→Option (S⊕R)}(l:List α)(mk:List β→Int→S)(g:α→List β)(fin:R)(hl:l.length≤4294967296)
  (hstep:∀i x,l[i]?=some x→i<l.length→aL .i64 (i:Int) 1=((i+1:Nat):Int)→f (mk ((l.take i).flatMap g) (i:Int))=some (.inl (mk ((l.take i).flatMap g++g x) ((i+1:Nat):Int))))
  (SS:f (mk (l.flatMap g) (l.length:Int))=some (.inr fin)):Loop f (mk [] 0)=some fin:=by
 refine de l.length (fun j:Nat=>mk ((l.take j).flatMap g) (j:Int)) (fun j hj=>?_) (by simp only[GJ];exact SS);have hx:l[j]?=some l[j]:=kL hj;have:=hstep j l[j] hx hj (aY (by omega));rw[this,TQ,hx,List.flatMap_append];simp
theorem mG{α:Type}{l:List α}(h:l.length≤4294967296):fits (len l)=true:=aaU h
theorem bJ{α:Type}{l:List α}{x:α}:x∈l↔∃i:Nat,l[i]?=some x:=by rw[List.mem_iff_getElem?]
end Go.Ge
namespace Go.Ge
abbrev Sb:=List UInt8
variable [Lp]
def sx:(Ty.pair .str (.pair (.int .u8) .unit)).den→Option (Ty.pair (.int .i64) .unit).den:=fun x=>some (Lib.indexByte x.1 (show Int from x.2.1).toNat.toUInt8,())
def gr(s:List UInt8)(c:Int):Option (List UInt8):=if c<0∨140737488355328<s.length*c.toNat then none else some (Lib.repeatL s c.toNat)
def pn:(List UInt8)×Int×Unit→Option ((List UInt8)×Unit):=fun x=>(gr x.1 x.2.1).map fun y=>(y,())
theorem tM{s:List UInt8}{c:Int}{y:List UInt8}(h:gr s c=some y):0≤c∧s.length*c.toNat≤140737488355328∧y=Lib.repeatL s c.toNat:=by
 unfold gr at h;split at h
 ·cases h
 ·next hn =>
  have:=aN h;exact⟨by omega,by omega,this.symm⟩
theorem C8{s:List UInt8}{c:Int}{y:List UInt8}(h:gr s c=some y):y.length≤maxLen:=by
 obtain⟨_,h2,rfl⟩:=tM h;rw[Lib.repeatL_length,Ub];exact gY h2 (by decide)
end Go.Ge
namespace Go.Ge
variable [Lp]
set_option maxRecDepth 100000
abbrev nU:=((Bool×(List (Int))×Unit)×(List (Int))×Int×Unit)
abbrev gu:=((Int×Unit)×(List (Int))×Unit)
abbrev AK:=(Int×Int×Int×Int×Int×Int×Int×Int×Int×Unit)
abbrev yu:=((Nat×(Int×Unit)×(List (Int))×Unit))
abbrev Vp:=(Bool×(List (Int))×Unit)
abbrev NJ:=((List (Int))×Unit)
abbrev aeh:=((Unit×Int×Unit)×(List (Int))×Unit)
abbrev aei:=((Unit×Unit)×(List (Int))×Unit)
abbrev aej:=((Int×Unit)×Vp×Unit)
abbrev aek:=((Int×Unit)×nU×Unit)
def rJ(x:Unit):Option NJ :=
 some (([(1779033703:Int),(3144134277:Int),(1013904242:Int),(2773480762:Int),(1359893119:Int),(2600822924:Int),(528734635:Int),(1541459225:Int)]:List (Int)),())
def yL(x:Unit):Option NJ :=
 some (([(1116352408:Int),(1899447441:Int),(3049323471:Int),(3921009573:Int),(961987163:Int),(1508970993:Int),(2453635748:Int),(2870763221:Int),(3624381080:Int),(310598401:Int),(607225278:Int),(1426881987:Int),(1925078388:Int),(2162078206:Int),(2614888103:Int),(3248222580:Int),(3835390401:Int),(4022224774:Int),(264347078:Int),(604807628:Int),(770255983:Int),(1249150122:Int),(1555081692:Int),(1996064986:Int),(2554220882:Int),(2821834349:Int),(2952996808:Int),(3210313671:Int),(3336571891:Int),(3584528711:Int),(113926993:Int),(338241895:Int),(666307205:Int),(773529912:Int),(1294757372:Int),(1396182291:Int),(1695183700:Int),(1986661051:Int),(2177026350:Int),(2456956037:Int),(2730485921:Int),(2820302411:Int),(3259730800:Int),(3345764771:Int),(3516065817:Int),(3600352804:Int),(4094571909:Int),(275423344:Int),(430227734:Int),(506948616:Int),(659060556:Int),(883997877:Int),(958139571:Int),(1322822218:Int),(1537002063:Int),(1747873779:Int),(1955562222:Int),(2024104815:Int),(2227730452:Int),(2361852424:Int),(2428436474:Int),(2756734187:Int),(3204031479:Int),(3329325298:Int)]:List (Int)),())
def kz(x:Int×Int×Unit):Option (Int×Unit) :=
 aj (bB (jA IntKind.u64 (qW IntKind.u64 x.2.1) (31:Int)) (0:Int))
 none
 (aj (bB (ef IntKind.u64 (32:Int) (jA IntKind.u64 (qW IntKind.u64 x.2.1) (31:Int))) (0:Int))
 none
 (some (zx IntKind.u32 (nu IntKind.u32 x.1 (jA IntKind.u64 (qW IntKind.u64 x.2.1) (31:Int))) (rU IntKind.u32 x.1 (ef IntKind.u64 (32:Int) (jA IntKind.u64 (qW IntKind.u64 x.2.1) (31:Int)))),())))
def bP(x:Int×Int×Unit):Option (Int×Unit) :=
 ah (kz (x.1,(ef IntKind.i64 (0:Int) x.2.1,()))) (fun(y1:Int×Unit)=>some (y1.1,()))
def jS(x:(List (Int))×Unit)(y1:(Int×Unit)×(List (Int))×Unit)(y2:(Int×Unit)×(List (Int))×Unit):Option (gu⊕gu) :=
 @eP gu (aj (bB y2.1.1 (minus (aL IntKind.i64 (nr IntKind.i64 (4:Int) y1.1.1) (4:Int)) (nr IntKind.i64 (4:Int) y1.1.1)))
 (aj (within y2.1.1 (minus (aL IntKind.i64 (nr IntKind.i64 (4:Int) y1.1.1) (4:Int)) (nr IntKind.i64 (4:Int) y1.1.1)))
 (ah (@idx Int x.1 (plus (nr IntKind.i64 (4:Int) y1.1.1) y2.1.1)) (fun(y3:Int)=>aj (within y1.1.1 (64:Int))
 (ah (@idx Int y2.2.1 y1.1.1) (fun(y4:Int)=>aj (bB (8:Int) (0:Int))
 none
 (aj (within y1.1.1 (64:Int))
 (ah (@idx Int y2.2.1 y1.1.1) (fun(y5:Int)=>ah (@idx Int y2.2.1 y1.1.1) (fun(y6:Int)=>ah (@idx Int y2.2.1 y1.1.1) (fun(y7:Int)=>some (Sum.inl ((aL IntKind.i64 y2.1.1 (1:Int),()),(@vL Int y2.2.1 y1.1.1 (zx IntKind.u32 (nu IntKind.u32 y4 (8:Int)) (qW IntKind.u32 y3)),())):(gu)⊕yu)))))
 none)))
 none))
 none)
 (some (Sum.inr ((0:Nat),((y2.1.1,()),(y2.2.1,()))):(gu)⊕yu)))
def jT(x:(List (Int))×Unit)(y1:(Int×Unit)×(List (Int))×Unit):Option (gu⊕gu) :=
 @eP gu (aj (bB y1.1.1 (16:Int))
 (aj (inside (nr IntKind.i64 (4:Int) y1.1.1) (aL IntKind.i64 (nr IntKind.i64 (4:Int) y1.1.1) (4:Int)) (64:Int))
 (ah (Loop (jS x y1) (((0:Int),()),(y1.2.1,()))) (fun(y2:(Int×Unit)×(List (Int))×Unit)=>some (Sum.inl ((aL IntKind.i64 y1.1.1 (1:Int),()),(y2.2.1,())):(gu)⊕yu)))
 none)
 (some (Sum.inr ((0:Nat),((y1.1.1,()),(y1.2.1,()))):(gu)⊕yu)))
def jU(y2:(Int×Unit)×(List (Int))×Unit):Option (gu⊕gu) :=
 @eP gu (aj (bB y2.1.1 (64:Int))
 (aj (within (ef IntKind.i64 y2.1.1 (2:Int)) (64:Int))
 (ah (@idx Int y2.2.1 (ef IntKind.i64 y2.1.1 (2:Int))) (fun(y3:Int)=>aj (within (ef IntKind.i64 y2.1.1 (15:Int)) (64:Int))
 (ah (@idx Int y2.2.1 (ef IntKind.i64 y2.1.1 (15:Int))) (fun(y4:Int)=>ah (bP (y4,((7:Int),()))) (fun(y5:Int×Unit)=>ah (bP (y4,((18:Int),()))) (fun(y6:Int×Unit)=>aj (bB (3:Int) (0:Int))
 none
 (ah (bP (y3,((17:Int),()))) (fun(y7:Int×Unit)=>ah (bP (y3,((19:Int),()))) (fun(y8:Int×Unit)=>aj (bB (10:Int) (0:Int))
 none
 (aj (within (ef IntKind.i64 y2.1.1 (7:Int)) (64:Int))
 (ah (@idx Int y2.2.1 (ef IntKind.i64 y2.1.1 (7:Int))) (fun(y9:Int)=>aj (within (ef IntKind.i64 y2.1.1 (16:Int)) (64:Int))
 (ah (@idx Int y2.2.1 (ef IntKind.i64 y2.1.1 (16:Int))) (fun(Ai:Int)=>aj (within y2.1.1 (64:Int))
 (ah (@idx Int y2.2.1 y2.1.1) (fun(qB:Int)=>ah (@idx Int y2.2.1 y2.1.1) (fun(iK:Int)=>ah (@idx Int y2.2.1 y2.1.1) (fun(gq:Int)=>some (Sum.inl ((aL IntKind.i64 y2.1.1 (1:Int),()),(@vL Int y2.2.1 y2.1.1 (aL IntKind.u32 (aL IntKind.u32 (aL IntKind.u32 (fc IntKind.u32 (fc IntKind.u32 y7.1 y8.1) (rU IntKind.u32 y3 (10:Int))) y9) (fc IntKind.u32 (fc IntKind.u32 y5.1 y6.1) (rU IntKind.u32 y4 (3:Int)))) Ai),())):(gu)⊕yu)))))
 none))
 none))
 none))))))))
 none))
 none)
 (some (Sum.inr ((0:Nat),((y2.1.1,()),(y2.2.1,()))):(gu)⊕yu)))
def ou(x:(List (Int))×Unit):Option NJ :=
 ah (Loop (jT x) (((0:Int),()),(([(0:Int),(0:Int),(0:Int),(0:Int),(0:Int),(0:Int),(0:Int),(0:Int),(0:Int),(0:Int),(0:Int),(0:Int),(0:Int),(0:Int),(0:Int),(0:Int),(0:Int),(0:Int),(0:Int),(0:Int),(0:Int),(0:Int),(0:Int),(0:Int),(0:Int),(0:Int),(0:Int),(0:Int),(0:Int),(0:Int),(0:Int),(0:Int),(0:Int),(0:Int),(0:Int),(0:Int),(0:Int),(0:Int),(0:Int),(0:Int),(0:Int),(0:Int),(0:Int),(0:Int),(0:Int),(0:Int),(0:Int),(0:Int),(0:Int),(0:Int),(0:Int),(0:Int),(0:Int),(0:Int),(0:Int),(0:Int),(0:Int),(0:Int),(0:Int),(0:Int),(0:Int),(0:Int),(0:Int),(0:Int)]:List (Int)),()))) (fun(y1:(Int×Unit)×(List (Int))×Unit)=>ah (Loop (jU) (((16:Int),()),(y1.2.1,()))) (fun(y2:(Int×Unit)×(List (Int))×Unit)=>some (y2.2.1,())))
def C9(y2:(List (Int))×Unit)(y3:(List (Int))×Unit)(iK:AK×Unit):Option ((AK×Unit)⊕(AK×Unit)) :=
 @eP (AK×Unit) (aj (bB iK.1.2.2.2.2.2.2.2.2.1 (64:Int))
 (ah (bP (iK.1.2.2.2.2.1,((6:Int),()))) (fun(gq:Int×Unit)=>ah (bP (iK.1.2.2.2.2.1,((11:Int),()))) (fun(Aj:Int×Unit)=>ah (bP (iK.1.2.2.2.2.1,((25:Int),()))) (fun(NK:Int×Unit)=>aj (within iK.1.2.2.2.2.2.2.2.2.1 (64:Int))
 (ah (@idx Int y2.1 iK.1.2.2.2.2.2.2.2.2.1) (fun(TK:Int)=>aj (within iK.1.2.2.2.2.2.2.2.2.1 (64:Int))
 (ah (@idx Int y3.1 iK.1.2.2.2.2.2.2.2.2.1) (fun(OW:Int)=>ah (bP (iK.1.1,((2:Int),()))) (fun(ZE:Int×Unit)=>ah (bP (iK.1.1,((13:Int),()))) (fun(X2:Int×Unit)=>ah (bP (iK.1.1,((22:Int),()))) (fun(WB:Int×Unit)=>some (Sum.inl ((aL IntKind.u32 (aL IntKind.u32 (aL IntKind.u32 (aL IntKind.u32 (aL IntKind.u32 iK.1.2.2.2.2.2.2.2.1 (fc IntKind.u32 (fc IntKind.u32 gq.1 Aj.1) NK.1)) (fc IntKind.u32 iK.1.2.2.2.2.2.2.1 (jA IntKind.u32 iK.1.2.2.2.2.1 (fc IntKind.u32 iK.1.2.2.2.2.2.1 iK.1.2.2.2.2.2.2.1)))) TK) OW) (aL IntKind.u32 (fc IntKind.u32 (fc IntKind.u32 ZE.1 X2.1) WB.1) (zx IntKind.u32 (jA IntKind.u32 iK.1.1 iK.1.2.1) (jA IntKind.u32 iK.1.2.2.1 (zx IntKind.u32 iK.1.1 iK.1.2.1)))),(iK.1.1,(iK.1.2.1,(iK.1.2.2.1,(aL IntKind.u32 iK.1.2.2.2.1 (aL IntKind.u32 (aL IntKind.u32 (aL IntKind.u32 (aL IntKind.u32 iK.1.2.2.2.2.2.2.2.1 (fc IntKind.u32 (fc IntKind.u32 gq.1 Aj.1) NK.1)) (fc IntKind.u32 iK.1.2.2.2.2.2.2.1 (jA IntKind.u32 iK.1.2.2.2.2.1 (fc IntKind.u32 iK.1.2.2.2.2.2.1 iK.1.2.2.2.2.2.2.1)))) TK) OW),(iK.1.2.2.2.2.1,(iK.1.2.2.2.2.2.1,(iK.1.2.2.2.2.2.2.1,(aL IntKind.i64 iK.1.2.2.2.2.2.2.2.2.1 (1:Int),()))))))))),()):((AK×Unit))⊕((Nat×AK×Unit))))))))
 none))
 none))))
 (some (Sum.inr ((0:Nat),((iK.1.1,(iK.1.2.1,(iK.1.2.2.1,(iK.1.2.2.2.1,(iK.1.2.2.2.2.1,(iK.1.2.2.2.2.2.1,(iK.1.2.2.2.2.2.2.1,(iK.1.2.2.2.2.2.2.2.1,(iK.1.2.2.2.2.2.2.2.2.1,()))))))))),())):((AK×Unit))⊕((Nat×AK×Unit)))))
def Da(iK:AK×Unit)(gq:(Int×Unit)×Vp×Unit):Option (aej⊕aej) :=
 @eP aej (aj (bB gq.1.1 (8:Int))
 (ah (@idx Int ([iK.1.1,iK.1.2.1,iK.1.2.2.1,iK.1.2.2.2.1,iK.1.2.2.2.2.1,iK.1.2.2.2.2.2.1,iK.1.2.2.2.2.2.2.1,iK.1.2.2.2.2.2.2.2.1]:List (Int)) gq.1.1) (fun(Aj:Int)=>aj (within gq.1.1 (8:Int))
 (ah (@idx Int gq.2.1.2.1 gq.1.1) (fun(NK:Int)=>aj (within gq.1.1 (8:Int))
 (ah (@idx Int gq.2.1.2.1 gq.1.1) (fun(TK:Int)=>ah (@idx Int gq.2.1.2.1 gq.1.1) (fun(OW:Int)=>ah (@idx Int gq.2.1.2.1 gq.1.1) (fun(ZE:Int)=>some (Sum.inl ((aL IntKind.i64 gq.1.1 (1:Int),()),((gq.2.1.1,(@vL Int gq.2.1.2.1 gq.1.1 (aL IntKind.u32 NK Aj),gq.2.1.2.2)),())):(aej)⊕((Nat×(Int×Unit)×Vp×Unit)))))))
 none))
 none))
 (some (Sum.inr ((0:Nat),((gq.1.1,()),(gq.2.1,()))):(aej)⊕((Nat×(Int×Unit)×Vp×Unit)))))
def HD(x:NJ×Vp×Unit):Option (Unit×Vp×Unit) :=
 ah (aj (nt x.2.1.1)
 (ah (rJ ()) (fun(y1:(List (Int))×Unit)=>some ((),((true,(y1.1,x.2.1.2.2)),()))))
 (some ((),(x.2.1,())))) (fun(y1:Unit×Vp×Unit)=>ah (yL ()) (fun(y2:(List (Int))×Unit)=>ah (ou (x.1.1,())) (fun(y3:(List (Int))×Unit)=>aj (within (0:Int) (8:Int))
 (ah (@idx Int y1.2.1.2.1 (0:Int)) (fun(y4:Int)=>aj (within (1:Int) (8:Int))
 (ah (@idx Int y1.2.1.2.1 (1:Int)) (fun(y5:Int)=>aj (within (2:Int) (8:Int))
 (ah (@idx Int y1.2.1.2.1 (2:Int)) (fun(y6:Int)=>aj (within (3:Int) (8:Int))
 (ah (@idx Int y1.2.1.2.1 (3:Int)) (fun(y7:Int)=>aj (within (4:Int) (8:Int))
 (ah (@idx Int y1.2.1.2.1 (4:Int)) (fun(y8:Int)=>aj (within (5:Int) (8:Int))
 (ah (@idx Int y1.2.1.2.1 (5:Int)) (fun(y9:Int)=>aj (within (6:Int) (8:Int))
 (ah (@idx Int y1.2.1.2.1 (6:Int)) (fun(Ai:Int)=>aj (within (7:Int) (8:Int))
 (ah (@idx Int y1.2.1.2.1 (7:Int)) (fun(qB:Int)=>ah (Loop (C9 y2 y3) ((y4,(y5,(y6,(y7,(y8,(y9,(Ai,(qB,((0:Int),()))))))))),())) (fun(iK:AK×Unit)=>ah (Loop (Da iK) (((0:Int),()),(y1.2.1,()))) (fun(gq:(Int×Unit)×Vp×Unit)=>some ((),(gq.2.1,()))))))
 none))
 none))
 none))
 none))
 none))
 none))
 none))
 none)))
def fV(y3:(List (Int))×Unit)(y4:(List (Int))×Unit)(gq:AK×Unit):Option ((AK×Unit)⊕(AK×Unit)) :=
 @eP (AK×Unit) (aj (bB gq.1.2.2.2.2.2.2.2.2.1 (64:Int))
 (ah (bP (gq.1.2.2.2.2.1,((6:Int),()))) (fun(Aj:Int×Unit)=>ah (bP (gq.1.2.2.2.2.1,((11:Int),()))) (fun(NK:Int×Unit)=>ah (bP (gq.1.2.2.2.2.1,((25:Int),()))) (fun(TK:Int×Unit)=>aj (within gq.1.2.2.2.2.2.2.2.2.1 (64:Int))
 (ah (@idx Int y3.1 gq.1.2.2.2.2.2.2.2.2.1) (fun(OW:Int)=>aj (within gq.1.2.2.2.2.2.2.2.2.1 (64:Int))
 (ah (@idx Int y4.1 gq.1.2.2.2.2.2.2.2.2.1) (fun(ZE:Int)=>ah (bP (gq.1.1,((2:Int),()))) (fun(X2:Int×Unit)=>ah (bP (gq.1.1,((13:Int),()))) (fun(WB:Int×Unit)=>ah (bP (gq.1.1,((22:Int),()))) (fun(y21:Int×Unit)=>some (Sum.inl ((aL IntKind.u32 (aL IntKind.u32 (aL IntKind.u32 (aL IntKind.u32 (aL IntKind.u32 gq.1.2.2.2.2.2.2.2.1 (fc IntKind.u32 (fc IntKind.u32 Aj.1 NK.1) TK.1)) (fc IntKind.u32 gq.1.2.2.2.2.2.2.1 (jA IntKind.u32 gq.1.2.2.2.2.1 (fc IntKind.u32 gq.1.2.2.2.2.2.1 gq.1.2.2.2.2.2.2.1)))) OW) ZE) (aL IntKind.u32 (fc IntKind.u32 (fc IntKind.u32 X2.1 WB.1) y21.1) (zx IntKind.u32 (jA IntKind.u32 gq.1.1 gq.1.2.1) (jA IntKind.u32 gq.1.2.2.1 (zx IntKind.u32 gq.1.1 gq.1.2.1)))),(gq.1.1,(gq.1.2.1,(gq.1.2.2.1,(aL IntKind.u32 gq.1.2.2.2.1 (aL IntKind.u32 (aL IntKind.u32 (aL IntKind.u32 (aL IntKind.u32 gq.1.2.2.2.2.2.2.2.1 (fc IntKind.u32 (fc IntKind.u32 Aj.1 NK.1) TK.1)) (fc IntKind.u32 gq.1.2.2.2.2.2.2.1 (jA IntKind.u32 gq.1.2.2.2.2.1 (fc IntKind.u32 gq.1.2.2.2.2.2.1 gq.1.2.2.2.2.2.2.1)))) OW) ZE),(gq.1.2.2.2.2.1,(gq.1.2.2.2.2.2.1,(gq.1.2.2.2.2.2.2.1,(aL IntKind.i64 gq.1.2.2.2.2.2.2.2.2.1 (1:Int),()))))))))),()):((AK×Unit))⊕((Nat×AK×Unit))))))))
 none))
 none))))
 (some (Sum.inr ((0:Nat),((gq.1.1,(gq.1.2.1,(gq.1.2.2.1,(gq.1.2.2.2.1,(gq.1.2.2.2.2.1,(gq.1.2.2.2.2.2.1,(gq.1.2.2.2.2.2.2.1,(gq.1.2.2.2.2.2.2.2.1,(gq.1.2.2.2.2.2.2.2.2.1,()))))))))),())):((AK×Unit))⊕((Nat×AK×Unit)))))
def iq(gq:AK×Unit)(Aj:(Int×Unit)×nU×Unit):Option (aek⊕aek) :=
 @eP aek (aj (bB Aj.1.1 (8:Int))
 (ah (@idx Int ([gq.1.1,gq.1.2.1,gq.1.2.2.1,gq.1.2.2.2.1,gq.1.2.2.2.2.1,gq.1.2.2.2.2.2.1,gq.1.2.2.2.2.2.2.1,gq.1.2.2.2.2.2.2.2.1]:List (Int)) Aj.1.1) (fun(NK:Int)=>aj (within Aj.1.1 (8:Int))
 (ah (@idx Int Aj.2.1.1.2.1 Aj.1.1) (fun(TK:Int)=>aj (within Aj.1.1 (8:Int))
 (ah (@idx Int Aj.2.1.1.2.1 Aj.1.1) (fun(OW:Int)=>ah (@idx Int Aj.2.1.1.2.1 Aj.1.1) (fun(ZE:Int)=>ah (@idx Int Aj.2.1.1.2.1 Aj.1.1) (fun(X2:Int)=>some (Sum.inl ((aL IntKind.i64 Aj.1.1 (1:Int),()),(((Aj.2.1.1.1,(@vL Int Aj.2.1.1.2.1 Aj.1.1 (aL IntKind.u32 TK NK),Aj.2.1.1.2.2)),Aj.2.1.2),())):(aek)⊕((Nat×(Int×Unit)×nU×Unit)))))))
 none))
 none))
 (some (Sum.inr ((0:Nat),((Aj.1.1,()),(Aj.2.1,()))):(aek)⊕((Nat×(Int×Unit)×nU×Unit)))))
def fW(y1:(Sb×Unit)×nU×Unit):Option (((Sb×Unit)×nU×Unit)⊕((Sb×Unit)×nU×Unit)) :=
 @eP ((Sb×Unit)×nU×Unit) (aj (nt (cc y1.1.1 ([]:List (UInt8))))
 (aj (bI (64:Int) (0:Int))
 none
 (aj (inside (jz y1.2.1.2.2.1 (64:Int)) (64:Int) (64:Int))
 (aj (inside (@len Int (@iH Int (ay y1.1.1) (minus (64:Int) (jz y1.2.1.2.2.1 (64:Int))))) (@len UInt8 y1.1.1) (@len UInt8 y1.1.1))
 (ah (aj (bI (aL IntKind.i64 (jz y1.2.1.2.2.1 (64:Int)) (@len Int (@iH Int (ay y1.1.1) (minus (64:Int) (jz y1.2.1.2.2.1 (64:Int)))))) (64:Int))
 (ah (aj (nt y1.2.1.1.1)
 (ah (rJ ()) (fun(y2:(List (Int))×Unit)=>some ((),(((true,(y2.1,y1.2.1.1.2.2)),(@over Int y1.2.1.2.1 (jz y1.2.1.2.2.1 (64:Int)) (@iH Int (ay y1.1.1) (minus (64:Int) (jz y1.2.1.2.2.1 (64:Int)))),(aL IntKind.i64 y1.2.1.2.2.1 (@len Int (@iH Int (ay y1.1.1) (minus (64:Int) (jz y1.2.1.2.2.1 (64:Int))))),y1.2.1.2.2.2))),()))))
 (some ((),((y1.2.1.1,(@over Int y1.2.1.2.1 (jz y1.2.1.2.2.1 (64:Int)) (@iH Int (ay y1.1.1) (minus (64:Int) (jz y1.2.1.2.2.1 (64:Int)))),(aL IntKind.i64 y1.2.1.2.2.1 (@len Int (@iH Int (ay y1.1.1) (minus (64:Int) (jz y1.2.1.2.2.1 (64:Int))))),y1.2.1.2.2.2))),())))) (fun(y2:Unit×nU×Unit)=>ah (yL ()) (fun(y3:(List (Int))×Unit)=>ah (ou (@over Int y1.2.1.2.1 (jz y1.2.1.2.2.1 (64:Int)) (@iH Int (ay y1.1.1) (minus (64:Int) (jz y1.2.1.2.2.1 (64:Int)))),())) (fun(y4:(List (Int))×Unit)=>aj (within (0:Int) (8:Int))
 (ah (@idx Int y2.2.1.1.2.1 (0:Int)) (fun(y5:Int)=>aj (within (1:Int) (8:Int))
 (ah (@idx Int y2.2.1.1.2.1 (1:Int)) (fun(y6:Int)=>aj (within (2:Int) (8:Int))
 (ah (@idx Int y2.2.1.1.2.1 (2:Int)) (fun(y7:Int)=>aj (within (3:Int) (8:Int))
 (ah (@idx Int y2.2.1.1.2.1 (3:Int)) (fun(y8:Int)=>aj (within (4:Int) (8:Int))
 (ah (@idx Int y2.2.1.1.2.1 (4:Int)) (fun(y9:Int)=>aj (within (5:Int) (8:Int))
 (ah (@idx Int y2.2.1.1.2.1 (5:Int)) (fun(Ai:Int)=>aj (within (6:Int) (8:Int))
 (ah (@idx Int y2.2.1.1.2.1 (6:Int)) (fun(qB:Int)=>aj (within (7:Int) (8:Int))
 (ah (@idx Int y2.2.1.1.2.1 (7:Int)) (fun(iK:Int)=>ah (Loop (fV y3 y4) ((y5,(y6,(y7,(y8,(y9,(Ai,(qB,(iK,((0:Int),()))))))))),())) (fun(gq:AK×Unit)=>ah (Loop (iq gq) (((0:Int),()),(y2.2.1,()))) (fun(Aj:(Int×Unit)×nU×Unit)=>some ((),(Aj.2.1,()))))))
 none))
 none))
 none))
 none))
 none))
 none))
 none))
 none))))
 (some ((),((y1.2.1.1,(@over Int y1.2.1.2.1 (jz y1.2.1.2.2.1 (64:Int)) (@iH Int (ay y1.1.1) (minus (64:Int) (jz y1.2.1.2.2.1 (64:Int)))),(aL IntKind.i64 y1.2.1.2.2.1 (@len Int (@iH Int (ay y1.1.1) (minus (64:Int) (jz y1.2.1.2.2.1 (64:Int))))),y1.2.1.2.2.2))),())))) (fun(y2:Unit×nU×Unit)=>some (Sum.inl ((@sub UInt8 y1.1.1 (@len Int (@iH Int (ay y1.1.1) (minus (64:Int) (jz y1.2.1.2.2.1 (64:Int))))) (minus (@len UInt8 y1.1.1) (@len Int (@iH Int (ay y1.1.1) (minus (64:Int) (jz y1.2.1.2.2.1 (64:Int)))))),()),(y2.2.1,())):(((Sb×Unit)×nU×Unit))⊕((Nat×(Sb×Unit)×nU×Unit)))))
 none)
 none))
 (some (Sum.inr ((0:Nat),((y1.1.1,()),(y1.2.1,()))):(((Sb×Unit)×nU×Unit))⊕((Nat×(Sb×Unit)×nU×Unit)))))
def gv(x:(Sb×Unit)×nU×Unit):Option (Unit×nU×Unit) :=
 ah (Loop (fW) ((x.1.1,()),(x.2.1,()))) (fun(y1:(Sb×Unit)×nU×Unit)=>some ((),(y1.2.1,())))
def eF(y2:Unit×nU×Unit):Option ((Unit×nU×Unit)⊕(Unit×nU×Unit)) :=
 @eP (Unit×nU×Unit) (aj (bI (64:Int) (0:Int))
 none
 (aj (nt (bI (jz y2.2.1.2.2.1 (64:Int)) (56:Int)))
 (ah (gv ((([(0:UInt8)]:List (UInt8)),()),(y2.2.1,()))) (fun(y3:Unit×nU×Unit)=>some (Sum.inl ((),(y3.2.1,())):((Unit×nU×Unit))⊕((Nat×Unit×nU×Unit)))))
 (some (Sum.inr ((0:Nat),((),(y2.2.1,()))):((Unit×nU×Unit))⊕((Nat×Unit×nU×Unit))))))
def fX(x:Unit×nU×Unit)(y3:(Int×Unit)×(List (Int))×Unit):Option (gu⊕gu) :=
 @eP gu (aj (bB y3.1.1 (8:Int))
 (aj (bB (nr IntKind.i64 (8:Int) y3.1.1) (0:Int))
 none
 (aj (within (ef IntKind.i64 (7:Int) y3.1.1) (8:Int))
 (ah (@idx Int y3.2.1 (ef IntKind.i64 (7:Int) y3.1.1)) (fun(y4:Int)=>ah (@idx Int y3.2.1 (ef IntKind.i64 (7:Int) y3.1.1)) (fun(y5:Int)=>ah (@idx Int y3.2.1 (ef IntKind.i64 (7:Int) y3.1.1)) (fun(y6:Int)=>some (Sum.inl ((aL IntKind.i64 y3.1.1 (1:Int),()),(@vL Int y3.2.1 (ef IntKind.i64 (7:Int) y3.1.1) (qW IntKind.u8 (rU IntKind.u64 (nr IntKind.u64 (qW IntKind.u64 (((((((),(x.2.1,())).2).1).2).2).1)) (8:Int)) (nr IntKind.i64 (8:Int) y3.1.1))),())):(gu)⊕yu)))))
 none))
 (some (Sum.inr ((0:Nat),((y3.1.1,()),(y3.2.1,()))):(gu)⊕yu)))
def ir(y4:Unit×nU×Unit)(y5:(Int×Unit)×(List (Int))×Unit):Option (gu⊕gu) :=
 @eP gu (aj (bB y5.1.1 (32:Int))
 (aj (bI (4:Int) (0:Int))
 none
 (aj (within (KZ IntKind.i64 y5.1.1 (4:Int)) (8:Int))
 (ah (@idx Int y4.2.1.1.2.1 (KZ IntKind.i64 y5.1.1 (4:Int))) (fun(y6:Int)=>aj (bI (4:Int) (0:Int))
 none
 (aj (bB (ef IntKind.i64 (24:Int) (nr IntKind.i64 (8:Int) (jz y5.1.1 (4:Int)))) (0:Int))
 none
 (aj (within y5.1.1 (32:Int))
 (ah (@idx Int y5.2.1 y5.1.1) (fun(y7:Int)=>ah (@idx Int y5.2.1 y5.1.1) (fun(y8:Int)=>ah (@idx Int y5.2.1 y5.1.1) (fun(y9:Int)=>some (Sum.inl ((aL IntKind.i64 y5.1.1 (1:Int),()),(@vL Int y5.2.1 y5.1.1 (qW IntKind.u8 (rU IntKind.u32 y6 (ef IntKind.i64 (24:Int) (nr IntKind.i64 (8:Int) (jz y5.1.1 (4:Int)))))),())):(gu)⊕yu)))))
 none))))
 none))
 (some (Sum.inr ((0:Nat),((y5.1.1,()),(y5.2.1,()))):(gu)⊕yu)))
def pq(x:Unit×nU×Unit):Option (NJ×nU×Unit) :=
 ah (gv ((bt ([(128:Int)]:List (Int)),()),((((),(x.2.1,())).2).1,()))) (fun(y1:Unit×nU×Unit)=>ah (Loop (eF) ((),(y1.2.1,()))) (fun(y2:Unit×nU×Unit)=>ah (Loop (fX x) (((0:Int),()),(([(0:Int),(0:Int),(0:Int),(0:Int),(0:Int),(0:Int),(0:Int),(0:Int)]:List (Int)),()))) (fun(y3:(Int×Unit)×(List (Int))×Unit)=>aj (inside (0:Int) (8:Int) (8:Int))
 (ah (gv ((bt (@sub Int y3.2.1 (0:Int) (minus (8:Int) (0:Int))),()),(y2.2.1,()))) (fun(y4:Unit×nU×Unit)=>ah (Loop (ir y4) (((0:Int),()),(([(0:Int),(0:Int),(0:Int),(0:Int),(0:Int),(0:Int),(0:Int),(0:Int),(0:Int),(0:Int),(0:Int),(0:Int),(0:Int),(0:Int),(0:Int),(0:Int),(0:Int),(0:Int),(0:Int),(0:Int),(0:Int),(0:Int),(0:Int),(0:Int),(0:Int),(0:Int),(0:Int),(0:Int),(0:Int),(0:Int),(0:Int),(0:Int)]:List (Int)),()))) (fun(y5:(Int×Unit)×(List (Int))×Unit)=>some ((y5.2.1,()),(x.2.1,())))))
 none)))
def En(x:Sb×Unit):Option NJ :=
 ah (gv ((x.1,()),(((false,(([(0:Int),(0:Int),(0:Int),(0:Int),(0:Int),(0:Int),(0:Int),(0:Int)]:List (Int)),())),(([(0:Int),(0:Int),(0:Int),(0:Int),(0:Int),(0:Int),(0:Int),(0:Int),(0:Int),(0:Int),(0:Int),(0:Int),(0:Int),(0:Int),(0:Int),(0:Int),(0:Int),(0:Int),(0:Int),(0:Int),(0:Int),(0:Int),(0:Int),(0:Int),(0:Int),(0:Int),(0:Int),(0:Int),(0:Int),(0:Int),(0:Int),(0:Int),(0:Int),(0:Int),(0:Int),(0:Int),(0:Int),(0:Int),(0:Int),(0:Int),(0:Int),(0:Int),(0:Int),(0:Int),(0:Int),(0:Int),(0:Int),(0:Int),(0:Int),(0:Int),(0:Int),(0:Int),(0:Int),(0:Int),(0:Int),(0:Int),(0:Int),(0:Int),(0:Int),(0:Int),(0:Int),(0:Int),(0:Int),(0:Int)]:List (Int)),((0:Int),()))),()))) (fun(y1:Unit×nU×Unit)=>ah (pq ((),(y1.2.1,()))) (fun(y2:NJ×nU×Unit)=>some (y2.1.1,())))
def zJ(x:Unit):Option NJ :=
 some (([(1779033703:Int),(3144134277:Int),(1013904242:Int),(2773480762:Int),(1359893119:Int),(2600822924:Int),(528734635:Int),(1541459225:Int)]:List (Int)),())
def kZ(y1:(Unit×Unit)×(List (Int))×Unit):Option (aei⊕aei) :=
 @eP aei (aj (bI (64:Int) (0:Int))
 none
 (aj (nt (bI (jz (@len Int y1.2.1) (64:Int)) (56:Int)))
 (aj (fits (plus (@len Int y1.2.1) (@len Int ([(0:Int)]:List (Int)))))
 (some (Sum.inl (((),()),(@app Int y1.2.1 ([(0:Int)]:List (Int)),())):(aei)⊕((Nat×(Unit×Unit)×(List (Int))×Unit))))
 none)
 (some (Sum.inr ((0:Nat),(((),()),(y1.2.1,()))):(aei)⊕((Nat×(Unit×Unit)×(List (Int))×Unit))))))
def ew(x:Sb×Unit)(y2:(Unit×Int×Unit)×(List (Int))×Unit):Option (aeh⊕aeh) :=
 @eP aeh (aj (cX (0:Int) y2.1.2.1)
 (aj (bB (nr IntKind.i64 (8:Int) y2.1.2.1) (0:Int))
 none
 (aj (fits (plus (@len Int y2.2.1) (@len Int ([qW IntKind.u8 (rU IntKind.u64 (nr IntKind.u64 (qW IntKind.u64 (@len UInt8 x.1)) (8:Int)) (nr IntKind.i64 (8:Int) y2.1.2.1))]:List (Int)))))
 (some (Sum.inl (((),(ef IntKind.i64 y2.1.2.1 (1:Int),())),(@app Int y2.2.1 ([qW IntKind.u8 (rU IntKind.u64 (nr IntKind.u64 (qW IntKind.u64 (@len UInt8 x.1)) (8:Int)) (nr IntKind.i64 (8:Int) y2.1.2.1))]:List (Int)),())):(aeh)⊕((Nat×(Unit×Int×Unit)×(List (Int))×Unit))))
 none))
 (some (Sum.inr ((0:Nat),(((),(y2.1.2.1,())),(y2.2.1,()))):(aeh)⊕((Nat×(Unit×Int×Unit)×(List (Int))×Unit)))))
def uA(x:Sb×Unit):Option (Sb×Unit) :=
 aj (fits (@len UInt8 x.1))
 (aj (fits (plus (@len Int (ay x.1)) (@len Int ([(128:Int)]:List (Int)))))
 (ah (Loop (kZ) (((),()),(@app Int (ay x.1) ([(128:Int)]:List (Int)),()))) (fun(y1:(Unit×Unit)×(List (Int))×Unit)=>ah (Loop (ew x) (((),((7:Int),())),(y1.2.1,()))) (fun(y2:(Unit×Int×Unit)×(List (Int))×Unit)=>some (bt y2.2.1,()))))
 none)
 none
def b6(x:Int×Int×Unit):Option (Int×Unit) :=
 aj (bB x.2.1 (0:Int))
 none
 (aj (bB (ef IntKind.i64 (32:Int) x.2.1) (0:Int))
 none
 (some (zx IntKind.u32 (rU IntKind.u32 x.1 x.2.1) (nu IntKind.u32 x.1 (ef IntKind.i64 (32:Int) x.2.1)),())))
def xJ(x:Unit):Option NJ :=
 some (([(1116352408:Int),(1899447441:Int),(3049323471:Int),(3921009573:Int),(961987163:Int),(1508970993:Int),(2453635748:Int),(2870763221:Int),(3624381080:Int),(310598401:Int),(607225278:Int),(1426881987:Int),(1925078388:Int),(2162078206:Int),(2614888103:Int),(3248222580:Int),(3835390401:Int),(4022224774:Int),(264347078:Int),(604807628:Int),(770255983:Int),(1249150122:Int),(1555081692:Int),(1996064986:Int),(2554220882:Int),(2821834349:Int),(2952996808:Int),(3210313671:Int),(3336571891:Int),(3584528711:Int),(113926993:Int),(338241895:Int),(666307205:Int),(773529912:Int),(1294757372:Int),(1396182291:Int),(1695183700:Int),(1986661051:Int),(2177026350:Int),(2456956037:Int),(2730485921:Int),(2820302411:Int),(3259730800:Int),(3345764771:Int),(3516065817:Int),(3600352804:Int),(4094571909:Int),(275423344:Int),(430227734:Int),(506948616:Int),(659060556:Int),(883997877:Int),(958139571:Int),(1322822218:Int),(1537002063:Int),(1747873779:Int),(1955562222:Int),(2024104815:Int),(2227730452:Int),(2361852424:Int),(2428436474:Int),(2756734187:Int),(3204031479:Int),(3329325298:Int)]:List (Int)),())
def iQ(x:(List (Int))×Sb×Unit)(y1:(Int×Unit)×(List (Int))×Unit):Option (gu⊕gu) :=
 @eP gu (aj (bB y1.1.1 (16:Int))
 (ah (@idx UInt8 x.2.1 (nr IntKind.i64 (4:Int) y1.1.1)) (fun(y2:UInt8)=>aj (bB (24:Int) (0:Int))
 none
 (ah (@idx UInt8 x.2.1 (aL IntKind.i64 (nr IntKind.i64 (4:Int) y1.1.1) (1:Int))) (fun(y3:UInt8)=>aj (bB (16:Int) (0:Int))
 none
 (ah (@idx UInt8 x.2.1 (aL IntKind.i64 (nr IntKind.i64 (4:Int) y1.1.1) (2:Int))) (fun(y4:UInt8)=>aj (bB (8:Int) (0:Int))
 none
 (ah (@idx UInt8 x.2.1 (aL IntKind.i64 (nr IntKind.i64 (4:Int) y1.1.1) (3:Int))) (fun(y5:UInt8)=>aj (within y1.1.1 (64:Int))
 (ah (@idx Int y1.2.1 y1.1.1) (fun(y6:Int)=>ah (@idx Int y1.2.1 y1.1.1) (fun(y7:Int)=>ah (@idx Int y1.2.1 y1.1.1) (fun(y8:Int)=>some (Sum.inl ((aL IntKind.i64 y1.1.1 (1:Int),()),(@vL Int y1.2.1 y1.1.1 (zx IntKind.u32 (zx IntKind.u32 (zx IntKind.u32 (nu IntKind.u32 (qW IntKind.u32 (u8 y2)) (24:Int)) (nu IntKind.u32 (qW IntKind.u32 (u8 y3)) (16:Int))) (nu IntKind.u32 (qW IntKind.u32 (u8 y4)) (8:Int))) (qW IntKind.u32 (u8 y5))),())):(gu)⊕yu)))))
 none))))))))
 (some (Sum.inr ((0:Nat),((y1.1.1,()),(y1.2.1,()))):(gu)⊕yu)))
def ld(y2:(Int×Unit)×(List (Int))×Unit):Option (gu⊕gu) :=
 @eP gu (aj (bB y2.1.1 (64:Int))
 (aj (within (ef IntKind.i64 y2.1.1 (2:Int)) (64:Int))
 (ah (@idx Int y2.2.1 (ef IntKind.i64 y2.1.1 (2:Int))) (fun(y3:Int)=>aj (within (ef IntKind.i64 y2.1.1 (15:Int)) (64:Int))
 (ah (@idx Int y2.2.1 (ef IntKind.i64 y2.1.1 (15:Int))) (fun(y4:Int)=>ah (b6 (y3,((17:Int),()))) (fun(y5:Int×Unit)=>ah (b6 (y3,((19:Int),()))) (fun(y6:Int×Unit)=>aj (bB (10:Int) (0:Int))
 none
 (aj (within (ef IntKind.i64 y2.1.1 (7:Int)) (64:Int))
 (ah (@idx Int y2.2.1 (ef IntKind.i64 y2.1.1 (7:Int))) (fun(y7:Int)=>ah (b6 (y4,((7:Int),()))) (fun(y8:Int×Unit)=>ah (b6 (y4,((18:Int),()))) (fun(y9:Int×Unit)=>aj (bB (3:Int) (0:Int))
 none
 (aj (within (ef IntKind.i64 y2.1.1 (16:Int)) (64:Int))
 (ah (@idx Int y2.2.1 (ef IntKind.i64 y2.1.1 (16:Int))) (fun(Ai:Int)=>aj (within y2.1.1 (64:Int))
 (ah (@idx Int y2.2.1 y2.1.1) (fun(qB:Int)=>ah (@idx Int y2.2.1 y2.1.1) (fun(iK:Int)=>ah (@idx Int y2.2.1 y2.1.1) (fun(gq:Int)=>some (Sum.inl ((aL IntKind.i64 y2.1.1 (1:Int),()),(@vL Int y2.2.1 y2.1.1 (aL IntKind.u32 (aL IntKind.u32 (aL IntKind.u32 (fc IntKind.u32 (fc IntKind.u32 y5.1 y6.1) (rU IntKind.u32 y3 (10:Int))) y7) (fc IntKind.u32 (fc IntKind.u32 y8.1 y9.1) (rU IntKind.u32 y4 (3:Int)))) Ai),())):(gu)⊕yu)))))
 none))
 none)))))
 none)))))
 none))
 none)
 (some (Sum.inr ((0:Nat),((y2.1.1,()),(y2.2.1,()))):(gu)⊕yu)))
def iR(y2:(Int×Unit)×(List (Int))×Unit)(y3:(List (Int))×Unit)(y4:(Int×Unit)×(List (Int))×Unit):Option (gu⊕gu) :=
 @eP gu (aj (bB y4.1.1 (64:Int))
 (aj (within (4:Int) (8:Int))
 (ah (@idx Int y4.2.1 (4:Int)) (fun(y5:Int)=>aj (within (0:Int) (8:Int))
 (ah (@idx Int y4.2.1 (0:Int)) (fun(y6:Int)=>aj (within (7:Int) (8:Int))
 (ah (@idx Int y4.2.1 (7:Int)) (fun(y7:Int)=>ah (b6 (y5,((6:Int),()))) (fun(y8:Int×Unit)=>ah (b6 (y5,((11:Int),()))) (fun(y9:Int×Unit)=>ah (b6 (y5,((25:Int),()))) (fun(Ai:Int×Unit)=>aj (within (5:Int) (8:Int))
 (ah (@idx Int y4.2.1 (5:Int)) (fun(qB:Int)=>aj (within (6:Int) (8:Int))
 (ah (@idx Int y4.2.1 (6:Int)) (fun(iK:Int)=>aj (within y4.1.1 (64:Int))
 (ah (@idx Int y3.1 y4.1.1) (fun(gq:Int)=>aj (within y4.1.1 (64:Int))
 (ah (@idx Int y2.2.1 y4.1.1) (fun(Aj:Int)=>ah (b6 (y6,((2:Int),()))) (fun(NK:Int×Unit)=>ah (b6 (y6,((13:Int),()))) (fun(TK:Int×Unit)=>ah (b6 (y6,((22:Int),()))) (fun(OW:Int×Unit)=>aj (within (1:Int) (8:Int))
 (ah (@idx Int y4.2.1 (1:Int)) (fun(ZE:Int)=>aj (within (2:Int) (8:Int))
 (ah (@idx Int y4.2.1 (2:Int)) (fun(X2:Int)=>aj (within (1:Int) (8:Int))
 (ah (@idx Int y4.2.1 (1:Int)) (fun(WB:Int)=>aj (within (2:Int) (8:Int))
 (ah (@idx Int y4.2.1 (2:Int)) (fun(y21:Int)=>aj (within (0:Int) (8:Int))
 (ah (@idx Int y4.2.1 (0:Int)) (fun(y22:Int)=>aj (within (1:Int) (8:Int))
 (ah (@idx Int y4.2.1 (1:Int)) (fun(y23:Int)=>aj (within (2:Int) (8:Int))
 (ah (@idx Int y4.2.1 (2:Int)) (fun(y24:Int)=>aj (within (3:Int) (8:Int))
 (ah (@idx Int y4.2.1 (3:Int)) (fun(y25:Int)=>aj (within (4:Int) (8:Int))
 (ah (@idx Int y4.2.1 (4:Int)) (fun(y26:Int)=>aj (within (5:Int) (8:Int))
 (ah (@idx Int y4.2.1 (5:Int)) (fun(y27:Int)=>aj (within (6:Int) (8:Int))
 (ah (@idx Int y4.2.1 (6:Int)) (fun(y28:Int)=>some (Sum.inl ((aL IntKind.i64 y4.1.1 (1:Int),()),(([aL IntKind.u32 (aL IntKind.u32 (aL IntKind.u32 (aL IntKind.u32 (aL IntKind.u32 y7 (fc IntKind.u32 (fc IntKind.u32 y8.1 y9.1) Ai.1)) (fc IntKind.u32 (jA IntKind.u32 y5 qB) (jA IntKind.u32 (fc IntKind.u32 (4294967295:Int) y5) iK))) gq) Aj) (aL IntKind.u32 (fc IntKind.u32 (fc IntKind.u32 NK.1 TK.1) OW.1) (fc IntKind.u32 (fc IntKind.u32 (jA IntKind.u32 y6 ZE) (jA IntKind.u32 y6 X2)) (jA IntKind.u32 WB y21))),y22,y23,y24,aL IntKind.u32 y25 (aL IntKind.u32 (aL IntKind.u32 (aL IntKind.u32 (aL IntKind.u32 y7 (fc IntKind.u32 (fc IntKind.u32 y8.1 y9.1) Ai.1)) (fc IntKind.u32 (jA IntKind.u32 y5 qB) (jA IntKind.u32 (fc IntKind.u32 (4294967295:Int) y5) iK))) gq) Aj),y26,y27,y28]:List (Int)),())):(gu)⊕yu)))
 none))
 none))
 none))
 none))
 none))
 none))
 none))
 none))
 none))
 none))
 none)))))
 none))
 none))
 none))
 none)))))
 none))
 none))
 none)
 (some (Sum.inr ((0:Nat),((y4.1.1,()),(y4.2.1,()))):(gu)⊕yu)))
def lf(x:(List (Int))×Sb×Unit)(y5:(Int×Unit)×(List (Int))×Unit):Option (gu⊕gu) :=
 @eP gu (aj (bB y5.1.1 (8:Int))
 (aj (within y5.1.1 (8:Int))
 (ah (@idx Int y5.2.1 y5.1.1) (fun(y6:Int)=>aj (within y5.1.1 (8:Int))
 (ah (@idx Int x.1 y5.1.1) (fun(y7:Int)=>aj (within y5.1.1 (8:Int))
 (ah (@idx Int y5.2.1 y5.1.1) (fun(y8:Int)=>ah (@idx Int y5.2.1 y5.1.1) (fun(y9:Int)=>ah (@idx Int y5.2.1 y5.1.1) (fun(Ai:Int)=>some (Sum.inl ((aL IntKind.i64 y5.1.1 (1:Int),()),(@vL Int y5.2.1 y5.1.1 (aL IntKind.u32 y6 y7),())):(gu)⊕yu)))))
 none))
 none))
 none)
 (some (Sum.inr ((0:Nat),((y5.1.1,()),(y5.2.1,()))):(gu)⊕yu)))
def uB(x:(List (Int))×Sb×Unit):Option NJ :=
 ah (Loop (iQ x) (((0:Int),()),(([(0:Int),(0:Int),(0:Int),(0:Int),(0:Int),(0:Int),(0:Int),(0:Int),(0:Int),(0:Int),(0:Int),(0:Int),(0:Int),(0:Int),(0:Int),(0:Int),(0:Int),(0:Int),(0:Int),(0:Int),(0:Int),(0:Int),(0:Int),(0:Int),(0:Int),(0:Int),(0:Int),(0:Int),(0:Int),(0:Int),(0:Int),(0:Int),(0:Int),(0:Int),(0:Int),(0:Int),(0:Int),(0:Int),(0:Int),(0:Int),(0:Int),(0:Int),(0:Int),(0:Int),(0:Int),(0:Int),(0:Int),(0:Int),(0:Int),(0:Int),(0:Int),(0:Int),(0:Int),(0:Int),(0:Int),(0:Int),(0:Int),(0:Int),(0:Int),(0:Int),(0:Int),(0:Int),(0:Int),(0:Int)]:List (Int)),()))) (fun(y1:(Int×Unit)×(List (Int))×Unit)=>ah (Loop (ld) (((16:Int),()),(y1.2.1,()))) (fun(y2:(Int×Unit)×(List (Int))×Unit)=>ah (xJ ()) (fun(y3:(List (Int))×Unit)=>ah (Loop (iR y2 y3) (((0:Int),()),(x.1,()))) (fun(y4:(Int×Unit)×(List (Int))×Unit)=>ah (Loop (lf x) (((0:Int),()),(y4.2.1,()))) (fun(y5:(Int×Unit)×(List (Int))×Unit)=>some (y5.2.1,()))))))
def ow(y2:Sb×Unit)(y3:(Int×Unit)×(List (Int))×Unit):Option (gu⊕gu) :=
 @eP gu (aj (cX (aL IntKind.i64 y3.1.1 (64:Int)) (@len UInt8 y2.1))
 (aj (inside y3.1.1 (aL IntKind.i64 y3.1.1 (64:Int)) (@len UInt8 y2.1))
 (ah (uB (y3.2.1,(@sub UInt8 y2.1 y3.1.1 (minus (aL IntKind.i64 y3.1.1 (64:Int)) y3.1.1),()))) (fun(y4:(List (Int))×Unit)=>some (Sum.inl ((aL IntKind.i64 y3.1.1 (64:Int),()),(y4.1,())):(gu)⊕yu)))
 none)
 (some (Sum.inr ((0:Nat),((y3.1.1,()),(y3.2.1,()))):(gu)⊕yu)))
def oz(y3:(Int×Unit)×(List (Int))×Unit)(y4:(Int×Unit)×(List (Int))×Unit):Option (gu⊕gu) :=
 @eP gu (aj (bB y4.1.1 (32:Int))
 (aj (bI (4:Int) (0:Int))
 none
 (aj (within (KZ IntKind.i64 y4.1.1 (4:Int)) (8:Int))
 (ah (@idx Int y3.2.1 (KZ IntKind.i64 y4.1.1 (4:Int))) (fun(y5:Int)=>aj (bI (4:Int) (0:Int))
 none
 (aj (bB (ef IntKind.i64 (24:Int) (nr IntKind.i64 (8:Int) (jz y4.1.1 (4:Int)))) (0:Int))
 none
 (aj (within y4.1.1 (32:Int))
 (ah (@idx Int y4.2.1 y4.1.1) (fun(y6:Int)=>ah (@idx Int y4.2.1 y4.1.1) (fun(y7:Int)=>ah (@idx Int y4.2.1 y4.1.1) (fun(y8:Int)=>some (Sum.inl ((aL IntKind.i64 y4.1.1 (1:Int),()),(@vL Int y4.2.1 y4.1.1 (qW IntKind.u8 (rU IntKind.u32 y5 (ef IntKind.i64 (24:Int) (nr IntKind.i64 (8:Int) (jz y4.1.1 (4:Int)))))),())):(gu)⊕yu)))))
 none))))
 none))
 (some (Sum.inr ((0:Nat),((y4.1.1,()),(y4.2.1,()))):(gu)⊕yu)))
def yM(x:Sb×Unit):Option NJ :=
 ah (zJ ()) (fun(y1:(List (Int))×Unit)=>ah (uA (x.1,())) (fun(y2:Sb×Unit)=>ah (Loop (ow y2) (((0:Int),()),(y1.1,()))) (fun(y3:(Int×Unit)×(List (Int))×Unit)=>ah (Loop (oz y3) (((0:Int),()),(([(0:Int),(0:Int),(0:Int),(0:Int),(0:Int),(0:Int),(0:Int),(0:Int),(0:Int),(0:Int),(0:Int),(0:Int),(0:Int),(0:Int),(0:Int),(0:Int),(0:Int),(0:Int),(0:Int),(0:Int),(0:Int),(0:Int),(0:Int),(0:Int),(0:Int),(0:Int),(0:Int),(0:Int),(0:Int),(0:Int),(0:Int),(0:Int)]:List (Int)),()))) (fun(y4:(Int×Unit)×(List (Int))×Unit)=>some (y4.2.1,())))))
end Go.Ge
namespace Go.Ge
variable [Lp]
set_option maxRecDepth 100000
abbrev PG:=(Sb×Bool×Unit×Int×Unit)
abbrev ael:=((Int×Unit)×(Unit×Unit×Unit)×(List (Int))×Unit)
abbrev aem:=((Unit×Int×Unit)×(List (Int))×Unit)
abbrev PI:=(Int×Int×Unit)
def mH(x:Sb×Unit)(y1:(Int×Unit)×(Unit×Unit×Unit)×(List (Int))×Unit):Option (ael⊕ael) :=
 @eP ael (aj (bB y1.1.1 (@len Int (ay x.1)))
 (aj (within y1.1.1 (@len Int (ay x.1)))
 (ah (@idx Int (ay x.1) y1.1.1) (fun(y2:Int)=>aj (bB (4:Int) (0:Int))
 none
 (ah (@idx UInt8 ([(48:UInt8),(49:UInt8),(50:UInt8),(51:UInt8),(52:UInt8),(53:UInt8),(54:UInt8),(55:UInt8),(56:UInt8),(57:UInt8),(97:UInt8),(98:UInt8),(99:UInt8),(100:UInt8),(101:UInt8),(102:UInt8)]:List (UInt8)) (rU IntKind.u8 y2 (4:Int))) (fun(y3:UInt8)=>aj (fits (plus (@len Int y1.2.2.1) (@len Int ([u8 y3]:List (Int)))))
 (ah (@idx UInt8 ([(48:UInt8),(49:UInt8),(50:UInt8),(51:UInt8),(52:UInt8),(53:UInt8),(54:UInt8),(55:UInt8),(56:UInt8),(57:UInt8),(97:UInt8),(98:UInt8),(99:UInt8),(100:UInt8),(101:UInt8),(102:UInt8)]:List (UInt8)) (jA IntKind.u8 y2 (15:Int))) (fun(y4:UInt8)=>aj (fits (plus (@len Int (@app Int y1.2.2.1 ([u8 y3]:List (Int)))) (@len Int ([u8 y4]:List (Int)))))
 (some (Sum.inl ((aL IntKind.i64 y1.1.1 (1:Int),()),(((),((),y1.2.1.2.2)),(@app Int (@app Int y1.2.2.1 ([u8 y3]:List (Int))) ([u8 y4]:List (Int)),()))):(ael)⊕((Nat×(Int×Unit)×(Unit×Unit×Unit)×(List (Int))×Unit))))
 none))
 none))))
 none)
 (some (Sum.inr ((0:Nat),((y1.1.1,()),(((),((),y1.2.1.2.2)),(y1.2.2.1,())))):(ael)⊕((Nat×(Int×Unit)×(Unit×Unit×Unit)×(List (Int))×Unit)))))
def sy(x:Sb×Unit):Option (Sb×Unit) :=
 aj (fits (@len UInt8 x.1))
 (ah (Loop (mH x) (((0:Int),()),(((),((),())),(([]:List (Int)),())))) (fun(y1:(Int×Unit)×(Unit×Unit×Unit)×(List (Int))×Unit)=>some (bt y1.2.2.1,())))
 none
def yN(x:Sb×Unit):Option (Sb×Unit) :=
 ah (En (x.1,())) (fun(y1:(List (Int))×Unit)=>aj (inside (0:Int) (32:Int) (32:Int))
 (ah (sy (bt (@sub Int y1.1 (0:Int) (minus (32:Int) (0:Int))),())) (fun(y2:Sb×Unit)=>aj (fits (plus (@len UInt8 ([(115:UInt8),(104:UInt8),(97:UInt8),(50:UInt8),(53:UInt8),(54:UInt8),(58:UInt8)]:List (UInt8))) (@len UInt8 y2.1)))
 (some (@app UInt8 ([(115:UInt8),(104:UInt8),(97:UInt8),(50:UInt8),(53:UInt8),(54:UInt8),(58:UInt8)]:List (UInt8)) y2.1,()))
 none))
 none)
def dS(x:Sb×Sb×Unit):Option (Bool×Unit) :=
 ah (aj (cX (@len UInt8 x.2.1) (@len UInt8 x.1))
 (aj (inside (0:Int) (@len UInt8 x.2.1) (@len UInt8 x.1))
 (some (cc (@sub UInt8 x.1 (0:Int) (minus (@len UInt8 x.2.1) (0:Int))) x.2.1))
 none)
 (some false)) (fun(y1:Bool)=>some (y1,()))
def p9(x:Sb×Int×Unit):Option (Int×Unit) :=
 ah (sx (x.1,(x.2.1,()))) (fun(y1:Int×Unit)=>some (y1.1,()))
def mU(x:Int×Unit):Option (Int×Unit) :=
 aj (bB x.1 (10:Int))
 (some (qW IntKind.u8 (aL IntKind.i64 (48:Int) x.1),()))
 (some (qW IntKind.u8 (ef IntKind.i64 (aL IntKind.i64 (97:Int) x.1) (10:Int)),()))
def oA(x:Sb×Unit)(y1:(Unit×Int×Unit)×(List (Int))×Unit):Option (aem⊕aem) :=
 @eP aem (aj (bB y1.1.2.1 (@len UInt8 x.1))
 (ah (@idx UInt8 x.1 y1.1.2.1) (fun(y2:UInt8)=>aj (bI (16:Int) (0:Int))
 none
 (ah (mU (KZ IntKind.i64 (qW IntKind.i64 (u8 y2)) (16:Int),())) (fun(y3:Int×Unit)=>aj (fits (plus (@len Int y1.2.1) (@len Int ([y3.1]:List (Int)))))
 (ah (@idx UInt8 x.1 y1.1.2.1) (fun(y4:UInt8)=>aj (bI (16:Int) (0:Int))
 none
 (ah (mU (jz (qW IntKind.i64 (u8 y4)) (16:Int),())) (fun(y5:Int×Unit)=>aj (fits (plus (@len Int (@app Int y1.2.1 ([y3.1]:List (Int)))) (@len Int ([y5.1]:List (Int)))))
 (some (Sum.inl (((),(aL IntKind.i64 y1.1.2.1 (1:Int),())),(@app Int (@app Int y1.2.1 ([y3.1]:List (Int))) ([y5.1]:List (Int)),())):(aem)⊕((Nat×(Unit×Int×Unit)×(List (Int))×Unit))))
 none))))
 none))))
 (some (Sum.inr ((0:Nat),(((),(y1.1.2.1,())),(y1.2.1,()))):(aem)⊕((Nat×(Unit×Int×Unit)×(List (Int))×Unit)))))
def yO(x:Sb×Unit):Option (Sb×Unit) :=
 ah (Loop (oA x) (((),((0:Int),())),(([]:List (Int)),()))) (fun(y1:(Unit×Int×Unit)×(List (Int))×Unit)=>some (bt y1.2.1,()))
def xK(x:Sb×Unit):Option (Sb×Unit) :=
 ah (yM (x.1,())) (fun(y1:(List (Int))×Unit)=>aj (inside (0:Int) (32:Int) (32:Int))
 (ah (yO (bt (@sub Int y1.1 (0:Int) (minus (32:Int) (0:Int))),())) (fun(y2:Sb×Unit)=>aj (fits (plus (@len UInt8 ([(115:UInt8),(104:UInt8),(97:UInt8),(50:UInt8),(53:UInt8),(54:UInt8),(58:UInt8)]:List (UInt8))) (@len UInt8 y2.1)))
 (some (@app UInt8 ([(115:UInt8),(104:UInt8),(97:UInt8),(50:UInt8),(53:UInt8),(54:UInt8),(58:UInt8)]:List (UInt8)) y2.1,()))
 none))
 none)
def ez(x:Int×Unit)(y1:PI×Unit):Option ((PI×Unit)⊕(Nat×PI×Unit)) :=
 aj (bB y1.1.2.1 (16:Int))
 (ah (mU (y1.1.2.1,())) (fun(y2:Int×Unit)=>aj (bI y2.1 x.1)
 (some (Sum.inr ((1:Nat),((y1.1.2.1,(y1.1.2.1,())),())):((PI×Unit))⊕((Nat×PI×Unit))))
 (some (Sum.inl ((y1.1.1,(aL IntKind.i64 y1.1.2.1 (1:Int),())),()):((PI×Unit))⊕((Nat×PI×Unit))))))
 (some (Sum.inr ((0:Nat),((y1.1.1,(y1.1.2.1,())),())):((PI×Unit))⊕((Nat×PI×Unit))))
def qj(x:Int×Unit):Option (Int×Unit) :=
 ah (Loop (ez x) (((0:Int),((0:Int),())),())) (fun(y1:Nat×PI×Unit)=>aj (fT y1.1 (0:Nat))
 (some ((-1:Int),()))
 (some (y1.2.1.1,())))
def iS(x:Sb×Unit)(y1:PG×(List (Int))×Unit):Option ((PG×(List (Int))×Unit)⊕(Nat×PG×(List (Int))×Unit)) :=
 aj (bB (aL IntKind.i64 y1.1.2.2.2.1 (1:Int)) (@len UInt8 x.1))
 (ah (@idx UInt8 x.1 y1.1.2.2.2.1) (fun(y2:UInt8)=>ah (qj (u8 y2,())) (fun(y3:Int×Unit)=>ah (@idx UInt8 x.1 (aL IntKind.i64 y1.1.2.2.2.1 (1:Int))) (fun(y4:UInt8)=>ah (qj (u8 y4,())) (fun(y5:Int×Unit)=>aj (aj (nt (bB y3.1 (0:Int)))
 (bB y5.1 (0:Int))
 true)
 (some (Sum.inr ((1:Nat),((([]:List (UInt8)),(false,((),(y1.1.2.2.2.1,())))),(y1.2.1,()))):((PG×(List (Int))×Unit))⊕((Nat×PG×(List (Int))×Unit))))
 (aj (fits (plus (@len Int y1.2.1) (@len Int ([qW IntKind.u8 (aL IntKind.i64 (nr IntKind.i64 (16:Int) y3.1) y5.1)]:List (Int)))))
 (some (Sum.inl ((y1.1.1,(y1.1.2.1,((),(aL IntKind.i64 y1.1.2.2.2.1 (2:Int),())))),(@app Int y1.2.1 ([qW IntKind.u8 (aL IntKind.i64 (nr IntKind.i64 (16:Int) y3.1) y5.1)]:List (Int)),())):((PG×(List (Int))×Unit))⊕((Nat×PG×(List (Int))×Unit))))
 none))))))
 (some (Sum.inr ((0:Nat),((y1.1.1,(y1.1.2.1,((),(y1.1.2.2.2.1,())))),(y1.2.1,()))):((PG×(List (Int))×Unit))⊕((Nat×PG×(List (Int))×Unit))))
def qk(x:Sb×Unit):Option (Sb×Bool×Unit) :=
 aj (bI (2:Int) (0:Int))
 none
 (aj (bI (jz (@len UInt8 x.1) (2:Int)) (1:Int))
 (some (([]:List (UInt8)),(false,())))
 (ah (Loop (iS x) ((([]:List (UInt8)),(false,((),((0:Int),())))),(([]:List (Int)),()))) (fun(y1:Nat×PG×(List (Int))×Unit)=>aj (fT y1.1 (0:Nat))
 (some (bt y1.2.2.1,(true,())))
 (some (y1.2.1.1,(y1.2.1.2.1,()))))))
def uC(x:Sb×Unit):Option (Int×Unit) :=
 ah (aj (nt (nt (bI (@len UInt8 x.1) (71:Int))))
 (aj (inside (0:Int) (7:Int) (@len UInt8 x.1))
 (some (nt (cc (@sub UInt8 x.1 (0:Int) (minus (7:Int) (0:Int))) ([(115:UInt8),(104:UInt8),(97:UInt8),(50:UInt8),(53:UInt8),(54:UInt8),(58:UInt8)]:List (UInt8)))))
 none)
 (some true)) (fun(y1:Bool)=>aj y1
 (some ((2:Int),()))
 (aj (inside (7:Int) (@len UInt8 x.1) (@len UInt8 x.1))
 (ah (qk (@sub UInt8 x.1 (7:Int) (minus (@len UInt8 x.1) (7:Int)),())) (fun(y2:Sb×Bool×Unit)=>aj (nt y2.2.1)
 (some ((2:Int),()))
 (some ((0:Int),()))))
 none))
end Go.Ge
namespace Go.Ge
variable [Lp]
set_option maxRecDepth 100000
abbrev HE:=((Sb×Unit)×(List (Bool))×Unit)
abbrev wD:=(Int×Int×Unit)
abbrev Db:=(Bool×Int×Unit)
abbrev PJ:=(Int×Bool×Int×Int×Unit)
abbrev aa3:=((Nat×(Sb×Unit)×(List (Bool))×Unit))
abbrev PK:=((Sb×Unit)×Unit)
abbrev aiz:=(Sb×Int×Int×Int×Int×Int×Int×Sb×Unit)
abbrev agD:=(Nat×Db×(List (Bool))×Unit)
def oB(x:Int×Int×Unit):Option (Bool×Unit) :=
 some (aj (cX (0:Int) x.1)
 (bB x.1 x.2.1)
 false,())
def sA(x:Sb×Int×Unit):Option (Bool×Unit) :=
 ah (aj (aj (nt (cc x.1 ([]:List (UInt8))))
 (cX (@len UInt8 x.1) x.2.1)
 false)
 (ah (p9 (x.1,((0:Int),()))) (fun(y1:Int×Unit)=>some (bB y1.1 (0:Int))))
 (some false)) (fun(y1:Bool)=>some (y1,()))
def vn(x:aiz×Int×Unit):Option (Bool×Unit) :=
 ah (oB (x.1.2.2.1,((2097152:Int),()))) (fun(y1:Bool×Unit)=>ah (aj y1.1
 (ah (oB (x.1.2.2.2.1,((2097152:Int),()))) (fun(y2:Bool×Unit)=>some y2.1))
 (some false)) (fun(y2:Bool)=>ah (aj y2
 (ah (oB (x.1.2.2.2.2.1,((2097152:Int),()))) (fun(y3:Bool×Unit)=>some y3.1))
 (some false)) (fun(y3:Bool)=>ah (aj y3
 (ah (oB (x.1.2.2.2.2.2.1,((8589934592:Int),()))) (fun(y4:Bool×Unit)=>some y4.1))
 (some false)) (fun(y4:Bool)=>ah (aj y4
 (ah (oB (x.1.2.2.2.2.2.2.1,((8589934592:Int),()))) (fun(y5:Bool×Unit)=>some y5.1))
 (some false)) (fun(y5:Bool)=>ah (aj (nt (nt y5))
 (ah (sA (x.1.1,(x.2.1,()))) (fun(y6:Bool×Unit)=>some (nt y6.1)))
 (some true)) (fun(y6:Bool)=>aj y6
 (some (false,()))
 (aj (bI x.1.2.1 (1:Int))
 (some (cc x.1.2.2.2.2.2.2.2.1 ([]:List (UInt8)),()))
 (aj (bI x.1.2.1 (2:Int))
 (some (aj (cc x.1.2.2.2.2.2.2.2.1 ([]:List (UInt8)))
 (bI x.1.2.2.2.2.2.1 (0:Int))
 false,()))
 (aj (bI x.1.2.1 (3:Int))
 (ah (sA (x.1.2.2.2.2.2.2.2.1,((100:Int),()))) (fun(y7:Bool×Unit)=>some (aj y7.1
 (bI x.1.2.2.2.2.2.1 (0:Int))
 false,())))
 (some (false,())))))))))))
def qC(x:Unit):Option ((List wD)×Unit) :=
 some (([((0:Int),((100:Int),())),((100:Int),((8:Int),())),((108:Int),((8:Int),())),((116:Int),((8:Int),())),((124:Int),((12:Int),())),((136:Int),((12:Int),())),((148:Int),((8:Int),())),((156:Int),((1:Int),())),((157:Int),((100:Int),())),((257:Int),((8:Int),())),((345:Int),((155:Int),()))]:List wD),())
def mI(x:Sb×Unit)(y2:Int×Int×Unit)(y3:wD×Unit):Option ((wD×Unit)⊕(wD×Unit)) :=
 @eP (wD×Unit) (aj (bB y3.1.2.1 (@len Int (ay x.1)))
 (aj (within y3.1.2.1 (@len Int (ay x.1)))
 (ah (@idx Int (ay x.1) y3.1.2.1) (fun(y4:Int)=>some (Sum.inl ((aL IntKind.i64 y3.1.1 (qW IntKind.i64 (((aj (aj (cX y2.1 y3.1.2.1)
 (bB y3.1.2.1 (aL IntKind.i64 y2.1 y2.2.1))
 false)
 (((32:Int),()),())
 ((y4,()),())).1).1)),(aL IntKind.i64 y3.1.2.1 (1:Int),())),()):((wD×Unit))⊕((Nat×wD×Unit)))))
 none)
 (some (Sum.inr ((0:Nat),((y3.1.1,(y3.1.2.1,())),())):((wD×Unit))⊕((Nat×wD×Unit)))))
def Bq(x:Sb×Unit):Option (Int×Unit) :=
 ah (qC ()) (fun(y1:(List wD)×Unit)=>ah (@idx wD y1.1 (6:Int)) (fun(y2:Int×Int×Unit)=>aj (fits (@len UInt8 x.1))
 (ah (Loop (mI x y2) (((0:Int),((0:Int),())),())) (fun(y3:wD×Unit)=>some (y3.1.1,())))
 none))
def cg(x:Sb×Int×Unit):Option (Sb×Unit) :=
 ah (qC ()) (fun(y1:(List wD)×Unit)=>ah (@idx wD y1.1 x.2.1) (fun(y2:Int×Int×Unit)=>aj (inside y2.1 (aL IntKind.i64 y2.1 y2.2.1) (@len UInt8 x.1))
 (some (@sub UInt8 x.1 y2.1 (minus (aL IntKind.i64 y2.1 y2.2.1) y2.1),()))
 none))
def fL(x:Sb×Int×Unit)(y1:(Sb×Unit)×Unit):Option (PK⊕PK) :=
 @eP PK (ah (aj (bB (0:Int) (@len UInt8 y1.1.1))
 (ah (@idx UInt8 y1.1.1 (ef IntKind.i64 (@len UInt8 y1.1.1) (1:Int))) (fun(y2:UInt8)=>some (bI (u8 y2) x.2.1)))
 (some false)) (fun(y2:Bool)=>aj y2
 (aj (inside (0:Int) (ef IntKind.i64 (@len UInt8 y1.1.1) (1:Int)) (@len UInt8 y1.1.1))
 (some (Sum.inl ((@sub UInt8 y1.1.1 (0:Int) (minus (ef IntKind.i64 (@len UInt8 y1.1.1) (1:Int)) (0:Int)),()),()):(PK)⊕((Nat×(Sb×Unit)×Unit))))
 none)
 (some (Sum.inr ((0:Nat),((y1.1.1,()),())):(PK)⊕((Nat×(Sb×Unit)×Unit))))))
def fq(x:Sb×Int×Unit):Option (Sb×Unit) :=
 ah (Loop (fL x) ((x.1,()),())) (fun(y1:(Sb×Unit)×Unit)=>some (y1.1.1,()))
def bZ(x:Sb×Unit)(y1:Db×(List (Bool))×Unit):Option ((Db×(List (Bool))×Unit)⊕agD) :=
 aj (bB y1.1.2.1 (@len UInt8 x.1))
 (ah (@idx UInt8 x.1 y1.1.2.1) (fun(y2:UInt8)=>aj (cX (128:Int) (u8 y2))
 (some (Sum.inr ((1:Nat),((false,(y1.1.2.1,())),(y1.2.1,()))):((Db×(List (Bool))×Unit))⊕(agD)))
 (aj (within (u8 y2) (256:Int))
 (ah (@idx Bool y1.2.1 (u8 y2)) (fun(y3:Bool)=>ah (@idx Bool y1.2.1 (u8 y2)) (fun(y4:Bool)=>ah (@idx Bool y1.2.1 (u8 y2)) (fun(y5:Bool)=>some (Sum.inl ((y1.1.1,(aL IntKind.i64 y1.1.2.1 (1:Int),())),(@vL Bool y1.2.1 (u8 y2) true,())):((Db×(List (Bool))×Unit))⊕(agD))))))
 none)))
 (some (Sum.inr ((0:Nat),((y1.1.1,(y1.1.2.1,())),(y1.2.1,()))):((Db×(List (Bool))×Unit))⊕(agD)))
def dG(x:Sb×Unit):Option ((List (Bool))×Bool×Unit) :=
 ah (Loop (bZ x) ((false,((0:Int),())),(((List.replicate 256 false):List (Bool)),()))) (fun(y1:Nat×Db×(List (Bool))×Unit)=>aj (fT y1.1 (0:Nat))
 (some (y1.2.2.1,(true,())))
 (some (y1.2.2.1,(y1.2.1.1,()))))
def cD(x:(Int×Unit)×(List (Bool))×Unit):Option ((Bool×Unit)×(List (Bool))×Unit) :=
 aj (within x.1.1 (256:Int))
 (ah (@idx Bool x.2.1 x.1.1) (fun(y1:Bool)=>some ((y1,()),(x.2.1,()))))
 none
def cj(y1:(Sb×Unit)×(List (Bool))×Unit):Option (HE⊕HE) :=
 @eP HE (aj (bB (0:Int) (@len UInt8 y1.1.1))
 (ah (@idx UInt8 y1.1.1 (ef IntKind.i64 (@len UInt8 y1.1.1) (1:Int))) (fun(y2:UInt8)=>ah (cD ((u8 y2,()),(y1.2.1,()))) (fun(y3:(Bool×Unit)×(List (Bool))×Unit)=>aj (nt y3.1.1)
 (some (Sum.inr ((0:Nat),((y1.1.1,()),(y3.2.1,()))):(HE)⊕aa3))
 (aj (inside (0:Int) (ef IntKind.i64 (@len UInt8 y1.1.1) (1:Int)) (@len UInt8 y1.1.1))
 (some (Sum.inl ((@sub UInt8 y1.1.1 (0:Int) (minus (ef IntKind.i64 (@len UInt8 y1.1.1) (1:Int)) (0:Int)),()),(y3.2.1,())):(HE)⊕aa3))
 none))))
 (some (Sum.inr ((0:Nat),((y1.1.1,()),(y1.2.1,()))):(HE)⊕aa3)))
def dP(x:(Sb×Unit)×(List (Bool))×Unit):Option HE :=
 ah (Loop (cj) ((x.1.1,()),(x.2.1,()))) (fun(y1:(Sb×Unit)×(List (Bool))×Unit)=>some ((y1.1.1,()),(y1.2.1,())))
def fY(x:Sb×Sb×Unit):Option (Sb×Unit) :=
 aj (aj (nt (cc x.1 ([]:List (UInt8))))
 (cc x.2.1 ([]:List (UInt8)))
 true)
 (some (x.1,()))
 (ah (aj (bI (@len UInt8 x.2.1) (1:Int))
 (ah (@idx UInt8 x.2.1 (0:Int)) (fun(y1:UInt8)=>some (bB (u8 y1) (128:Int))))
 (some false)) (fun(y1:Bool)=>aj y1
 (ah (@idx UInt8 x.2.1 (0:Int)) (fun(y2:UInt8)=>ah (fq (x.1,(u8 y2,()))) (fun(y3:Sb×Unit)=>some (y3.1,()))))
 (ah (dG (x.2.1,())) (fun(y2:(List (Bool))×Bool×Unit)=>aj y2.2.1
 (ah (dP ((x.1,()),(y2.1,()))) (fun(y3:(Sb×Unit)×(List (Bool))×Unit)=>some (y3.1.1,())))
 none))))
def bR(x:Sb×Unit)(y1:PJ×Unit):Option ((PJ×Unit)⊕(Nat×PJ×Unit)) :=
 aj (bB y1.1.2.2.2.1 (@len Int (ay x.1)))
 (aj (within y1.1.2.2.2.1 (@len Int (ay x.1)))
 (ah (@idx Int (ay x.1) y1.1.2.2.2.1) (fun(y2:Int)=>aj (aj (nt (bB y2 (48:Int)))
 (bB (55:Int) y2)
 true)
 (some (Sum.inr ((1:Nat),(((0:Int),(false,(y1.1.2.2.1,(y1.1.2.2.2.1,())))),())):((PJ×Unit))⊕((Nat×PJ×Unit))))
 (aj (bB (3:Int) (0:Int))
 none
 (some (Sum.inl ((y1.1.1,(y1.1.2.1,(zx IntKind.i64 (nu IntKind.i64 y1.1.2.2.1 (3:Int)) (qW IntKind.i64 (ef IntKind.u8 y2 (48:Int))),(aL IntKind.i64 y1.1.2.2.2.1 (1:Int),())))),()):((PJ×Unit))⊕((Nat×PJ×Unit)))))))
 none)
 (some (Sum.inr ((0:Nat),((y1.1.1,(y1.1.2.1,(y1.1.2.2.1,(y1.1.2.2.2.1,())))),())):((PJ×Unit))⊕((Nat×PJ×Unit))))
def eg(x:Sb×Unit):Option (Int×Bool×Unit) :=
 aj (aj (nt (bB (@len UInt8 x.1) (1:Int)))
 (bB (21:Int) (@len UInt8 x.1))
 true)
 (some ((0:Int),(false,())))
 (aj (fits (@len UInt8 x.1))
 (ah (Loop (bR x) (((0:Int),(false,((0:Int),((0:Int),())))),())) (fun(y1:Nat×PJ×Unit)=>aj (fT y1.1 (0:Nat))
 (some (y1.2.1.2.2.1,(true,())))
 (some (y1.2.1.1,(y1.2.1.2.1,())))))
 none)
def dK(x:Sb×Unit):Option (Int×Unit) :=
 ah (fY (x.1,(([(0:UInt8),(32:UInt8)]:List (UInt8)),()))) (fun(y1:Sb×Unit)=>ah (eg (y1.1,())) (fun(y2:Int×Bool×Unit)=>aj (aj (nt (nt y2.2.1))
 (bI (@len UInt8 y1.1) (@len UInt8 x.1))
 true)
 (some ((-1:Int),()))
 (some (y2.1,()))))
def mV(x:Sb×Unit):Option (Sb×Bool×Unit) :=
 ah (fY (x.1,(([(0:UInt8)]:List (UInt8)),()))) (fun(y1:Sb×Unit)=>ah (p9 (y1.1,((0:Int),()))) (fun(y2:Int×Unit)=>some (y1.1,(bB y2.1 (0:Int),()))))
def gC(x:Sb×Unit):Option (aiz×Int×Unit) :=
 ah (aj (nt (nt (bI (@len UInt8 x.1) (512:Int))))
 (ah (cg (x.1,((9:Int),()))) (fun(y1:Sb×Unit)=>some (nt (cc y1.1 ([(117:UInt8),(115:UInt8),(116:UInt8),(97:UInt8),(114:UInt8),(0:UInt8),(48:UInt8),(48:UInt8)]:List (UInt8))))))
 (some true)) (fun(y1:Bool)=>ah (aj (nt y1)
 (ah (cg (x.1,((6:Int),()))) (fun(y2:Sb×Unit)=>ah (dK (y2.1,())) (fun(y3:Int×Unit)=>ah (Bq (x.1,())) (fun(y4:Int×Unit)=>some (nt (bI y3.1 y4.1))))))
 (some true)) (fun(y2:Bool)=>aj y2
 (some ((([]:List (UInt8)),((0:Int),((0:Int),((0:Int),((0:Int),((0:Int),((0:Int),(([]:List (UInt8)),())))))))),((2:Int),())))
 (ah (cg (x.1,((0:Int),()))) (fun(y3:Sb×Unit)=>ah (mV (y3.1,())) (fun(y4:Sb×Bool×Unit)=>ah (cg (x.1,((8:Int),()))) (fun(y5:Sb×Unit)=>ah (mV (y5.1,())) (fun(y6:Sb×Bool×Unit)=>ah (cg (x.1,((10:Int),()))) (fun(y7:Sb×Unit)=>ah (mV (y7.1,())) (fun(y8:Sb×Bool×Unit)=>ah (aj (nt (cc y8.1 ([]:List (UInt8))))
 (aj (fits (plus (@len UInt8 y8.1) (@len UInt8 ([(47:UInt8)]:List (UInt8)))))
 (aj (fits (plus (@len UInt8 (@app UInt8 y8.1 ([(47:UInt8)]:List (UInt8)))) (@len UInt8 y4.1)))
 (some ((@app UInt8 (@app UInt8 y8.1 ([(47:UInt8)]:List (UInt8))) y4.1,()),()))
 none)
 none)
 (some ((y4.1,()),()))) (fun(y9:(Sb×Unit)×Unit)=>ah (cg (x.1,((1:Int),()))) (fun(Ai:Sb×Unit)=>ah (dK (Ai.1,())) (fun(qB:Int×Unit)=>ah (cg (x.1,((2:Int),()))) (fun(iK:Sb×Unit)=>ah (dK (iK.1,())) (fun(gq:Int×Unit)=>ah (cg (x.1,((3:Int),()))) (fun(Aj:Sb×Unit)=>ah (dK (Aj.1,())) (fun(NK:Int×Unit)=>ah (cg (x.1,((4:Int),()))) (fun(TK:Sb×Unit)=>ah (dK (TK.1,())) (fun(OW:Int×Unit)=>ah (cg (x.1,((5:Int),()))) (fun(ZE:Sb×Unit)=>ah (dK (ZE.1,())) (fun(X2:Int×Unit)=>ah (cg (x.1,((7:Int),()))) (fun(WB:Sb×Unit)=>ah (aj (nt (aj (nt (aj (nt (nt y4.2.1))
 (nt y6.2.1)
 true))
 (nt y8.2.1)
 true))
 (ah (vn (((aj (((aj (cc WB.1 ([(48:UInt8)]:List (UInt8)))
 ((cc WB.1 ([(48:UInt8)]:List (UInt8)),()),())
 ((cc WB.1 ([(0:UInt8)]:List (UInt8)),()),())).1).1)
 ((),((y9.1.1,((1:Int),(qB.1,(gq.1,(NK.1,(OW.1,(X2.1,(([]:List (UInt8)),())))))))),()))
 ((),(((aj (cc WB.1 ([(53:UInt8)]:List (UInt8)))
 ((),((y9.1.1,((2:Int),(qB.1,(gq.1,(NK.1,(OW.1,(X2.1,(([]:List (UInt8)),())))))))),()))
 ((),(((aj (cc WB.1 ([(50:UInt8)]:List (UInt8)))
 ((),((y9.1.1,((3:Int),(qB.1,(gq.1,(NK.1,(OW.1,(X2.1,(y6.1,())))))))),()))
 ((),((y9.1.1,((0:Int),(qB.1,(gq.1,(NK.1,(OW.1,(X2.1,(([]:List (UInt8)),())))))))),()))).2).1,()))).2).1,()))).2).1,((256:Int),()))) (fun(y21:Bool×Unit)=>some (nt y21.1)))
 (some true)) (fun(y21:Bool)=>aj y21
 (some ((([]:List (UInt8)),((0:Int),((0:Int),((0:Int),((0:Int),((0:Int),((0:Int),(([]:List (UInt8)),())))))))),((2:Int),())))
 (some (((aj (((aj (cc WB.1 ([(48:UInt8)]:List (UInt8)))
 ((cc WB.1 ([(48:UInt8)]:List (UInt8)),()),())
 ((cc WB.1 ([(0:UInt8)]:List (UInt8)),()),())).1).1)
 ((),((y9.1.1,((1:Int),(qB.1,(gq.1,(NK.1,(OW.1,(X2.1,(([]:List (UInt8)),())))))))),()))
 ((),(((aj (cc WB.1 ([(53:UInt8)]:List (UInt8)))
 ((),((y9.1.1,((2:Int),(qB.1,(gq.1,(NK.1,(OW.1,(X2.1,(([]:List (UInt8)),())))))))),()))
 ((),(((aj (cc WB.1 ([(50:UInt8)]:List (UInt8)))
 ((),((y9.1.1,((3:Int),(qB.1,(gq.1,(NK.1,(OW.1,(X2.1,(y6.1,())))))))),()))
 ((),((y9.1.1,((0:Int),(qB.1,(gq.1,(NK.1,(OW.1,(X2.1,(([]:List (UInt8)),())))))))),()))).2).1,()))).2).1,()))).2).1,((0:Int),())))))))))))))))))))))))))
def gh(x:Sb×Int×Unit)(y1:(Sb×Unit)×Unit):Option (PK⊕PK) :=
 @eP PK (ah (aj (bB (0:Int) (@len UInt8 y1.1.1))
 (ah (@idx UInt8 y1.1.1 (0:Int)) (fun(y2:UInt8)=>some (bI (u8 y2) x.2.1)))
 (some false)) (fun(y2:Bool)=>aj y2
 (aj (inside (1:Int) (@len UInt8 y1.1.1) (@len UInt8 y1.1.1))
 (some (Sum.inl ((@sub UInt8 y1.1.1 (1:Int) (minus (@len UInt8 y1.1.1) (1:Int)),()),()):(PK)⊕((Nat×(Sb×Unit)×Unit))))
 none)
 (some (Sum.inr ((0:Nat),((y1.1.1,()),())):(PK)⊕((Nat×(Sb×Unit)×Unit))))))
def iC(x:Sb×Int×Unit):Option (Sb×Unit) :=
 ah (Loop (gh x) ((x.1,()),())) (fun(y1:(Sb×Unit)×Unit)=>some (y1.1.1,()))
def ek(y1:(Sb×Unit)×(List (Bool))×Unit):Option (HE⊕HE) :=
 @eP HE (aj (bB (0:Int) (@len UInt8 y1.1.1))
 (ah (@idx UInt8 y1.1.1 (0:Int)) (fun(y2:UInt8)=>ah (cD ((u8 y2,()),(y1.2.1,()))) (fun(y3:(Bool×Unit)×(List (Bool))×Unit)=>aj (nt y3.1.1)
 (some (Sum.inr ((0:Nat),((y1.1.1,()),(y3.2.1,()))):(HE)⊕aa3))
 (aj (inside (1:Int) (@len UInt8 y1.1.1) (@len UInt8 y1.1.1))
 (some (Sum.inl ((@sub UInt8 y1.1.1 (1:Int) (minus (@len UInt8 y1.1.1) (1:Int)),()),(y3.2.1,())):(HE)⊕aa3))
 none))))
 (some (Sum.inr ((0:Nat),((y1.1.1,()),(y1.2.1,()))):(HE)⊕aa3)))
def gQ(x:(Sb×Unit)×(List (Bool))×Unit):Option HE :=
 ah (Loop (ek) ((x.1.1,()),(x.2.1,()))) (fun(y1:(Sb×Unit)×(List (Bool))×Unit)=>some ((y1.1.1,()),(y1.2.1,())))
def jd(x:Sb×Sb×Unit):Option (Sb×Unit) :=
 aj (aj (nt (cc x.1 ([]:List (UInt8))))
 (cc x.2.1 ([]:List (UInt8)))
 true)
 (some (x.1,()))
 (ah (aj (bI (@len UInt8 x.2.1) (1:Int))
 (ah (@idx UInt8 x.2.1 (0:Int)) (fun(y1:UInt8)=>some (bB (u8 y1) (128:Int))))
 (some false)) (fun(y1:Bool)=>aj y1
 (ah (@idx UInt8 x.2.1 (0:Int)) (fun(y2:UInt8)=>ah (fq (x.1,(u8 y2,()))) (fun(y3:Sb×Unit)=>ah (@idx UInt8 x.2.1 (0:Int)) (fun(y4:UInt8)=>ah (iC (y3.1,(u8 y4,()))) (fun(y5:Sb×Unit)=>some (y5.1,()))))))
 (ah (dG (x.2.1,())) (fun(y2:(List (Bool))×Bool×Unit)=>aj y2.2.1
 (ah (dP ((x.1,()),(y2.1,()))) (fun(y3:(Sb×Unit)×(List (Bool))×Unit)=>ah (gQ ((y3.1.1,()),(y3.2.1,()))) (fun(y4:(Sb×Unit)×(List (Bool))×Unit)=>some (y4.1.1,()))))
 none))))
def zK(x:Sb×Unit):Option (Bool×Unit) :=
 ah (aj (bI (@len UInt8 x.1) (512:Int))
 (ah (jd (x.1,(([(0:UInt8)]:List (UInt8)),()))) (fun(y1:Sb×Unit)=>some (cc y1.1 ([]:List (UInt8)))))
 (some false)) (fun(y1:Bool)=>some (y1,()))
def gw(x:Sb×Int×Unit)(y1:Db×Unit):Option ((Db×Unit)⊕(Nat×Db×Unit)) :=
 aj (bB y1.1.2.1 (@len UInt8 x.1))
 (ah (@idx UInt8 x.1 y1.1.2.1) (fun(y2:UInt8)=>aj (bI (u8 y2) (0:Int))
 (some (Sum.inr ((1:Nat),((false,(y1.1.2.1,())),())):((Db×Unit))⊕((Nat×Db×Unit))))
 (some (Sum.inl ((y1.1.1,(aL IntKind.i64 y1.1.2.1 (1:Int),())),()):((Db×Unit))⊕((Nat×Db×Unit))))))
 (some (Sum.inr ((0:Nat),((y1.1.1,(y1.1.2.1,())),())):((Db×Unit))⊕((Nat×Db×Unit))))
def mW(x:Sb×Int×Unit):Option (Bool×Unit) :=
 ah (Loop (gw x) ((false,((0:Int),())),())) (fun(y1:Nat×Db×Unit)=>aj (fT y1.1 (0:Nat))
 (some (aj (cX (1:Int) (@len UInt8 x.1))
 (cX (@len UInt8 x.1) x.2.1)
 false,()))
 (some (y1.2.1.1,())))
def qZ(x:Int×Int×Unit):Option (Bool×Unit) :=
 some (aj (cX (0:Int) x.1)
 (bB x.1 x.2.1)
 false,())
def vo(x:aiz×Int×Unit):Option (Bool×Unit) :=
 ah (aj (bI x.1.2.1 (3:Int))
 (ah (mW (x.1.2.2.2.2.2.2.2.1,((100:Int),()))) (fun(y1:Bool×Unit)=>some ((y1.1,()),())))
 (some ((cc x.1.2.2.2.2.2.2.2.1 ([]:List (UInt8)),()),()))) (fun(y1:(Bool×Unit)×Unit)=>ah (mW (x.1.1,(x.2.1,()))) (fun(y2:Bool×Unit)=>ah (aj (aj (aj y2.1
 (cX (1:Int) x.1.2.1)
 false)
 (cX x.1.2.1 (3:Int))
 false)
 (ah (qZ (x.1.2.2.1,((2097152:Int),()))) (fun(y3:Bool×Unit)=>some y3.1))
 (some false)) (fun(y3:Bool)=>ah (aj y3
 (ah (qZ (x.1.2.2.2.1,((2097152:Int),()))) (fun(y4:Bool×Unit)=>some y4.1))
 (some false)) (fun(y4:Bool)=>ah (aj y4
 (ah (qZ (x.1.2.2.2.2.1,((2097152:Int),()))) (fun(y5:Bool×Unit)=>some y5.1))
 (some false)) (fun(y5:Bool)=>ah (aj y5
 (ah (qZ (x.1.2.2.2.2.2.1,((8589934592:Int),()))) (fun(y6:Bool×Unit)=>some y6.1))
 (some false)) (fun(y6:Bool)=>ah (aj y6
 (ah (qZ (x.1.2.2.2.2.2.2.1,((8589934592:Int),()))) (fun(y7:Bool×Unit)=>some y7.1))
 (some false)) (fun(y7:Bool)=>some (aj (aj y7
 (aj (nt (bI x.1.2.2.2.2.2.1 (0:Int)))
 (bI x.1.2.1 (1:Int))
 true)
 false)
 y1.1.1
 false,()))))))))
def oC(x:Sb×Unit)(y1:wD×Unit):Option ((wD×Unit)⊕(wD×Unit)) :=
 @eP (wD×Unit) (aj (bB y1.1.2.1 (@len UInt8 x.1))
 (ah (aj (aj (cX (148:Int) y1.1.2.1)
 (bB y1.1.2.1 (156:Int))
 false)
 (some ((aL IntKind.i64 y1.1.1 (32:Int),()),()))
 (ah (@idx UInt8 x.1 y1.1.2.1) (fun(y2:UInt8)=>some ((aL IntKind.i64 y1.1.1 (qW IntKind.i64 (u8 y2)),()),())))) (fun(y2:(Int×Unit)×Unit)=>some (Sum.inl ((y2.1.1,(aL IntKind.i64 y1.1.2.1 (1:Int),())),()):((wD×Unit))⊕((Nat×wD×Unit)))))
 (some (Sum.inr ((0:Nat),((y1.1.1,(y1.1.2.1,())),())):((wD×Unit))⊕((Nat×wD×Unit)))))
def yP(x:Sb×Unit):Option (Int×Unit) :=
 ah (Loop (oC x) (((0:Int),((0:Int),())),())) (fun(y1:wD×Unit)=>some (y1.1.1,()))
end Go.Ge
namespace Go.Ge
variable [Lp]
set_option maxRecDepth 100000
abbrev Br:=((Sb×Int×Int×Int×Int×Int×Int×Sb×Unit)×Sb×Unit)
abbrev AL:=(Bool×Sb×Int×Bool×Bool×Unit)
abbrev aen:=((Unit×Unit×Bool×Unit)×Br×(List Br)×AL×Unit)
abbrev PL:=(Br×Bool×Unit)
def zL(x:Int×Unit):Option (Sb×Unit) :=
 ah (pn (([(0:UInt8)]:List (UInt8)),(x.1,()))) (fun(y1:Sb×Unit)=>some (y1.1,()))
def Bs(x:Int×Unit):Option (Int×Unit) :=
 aj (bI (512:Int) (0:Int))
 none
 (aj (bI (512:Int) (0:Int))
 none
 (some (jz (ef IntKind.i64 (512:Int) (jz x.1 (512:Int))) (512:Int),())))
def fM(x:(Bool×Unit)×AL×Unit):Option (PL×AL×Unit) :=
 some ((((([]:List (UInt8)),((0:Int),((0:Int),((0:Int),((0:Int),((0:Int),((0:Int),(([]:List (UInt8)),())))))))),(([]:List (UInt8)),())),(false,())),((x.2.1.1,(([]:List (UInt8)),(x.2.1.2.2.1,(true,(x.1.1,x.2.1.2.2.2.2.2))))),()))
def bY(x:Unit×AL×Unit):Option (PL×AL×Unit) :=
 aj (aj (nt (nt x.2.1.1))
 x.2.1.2.2.2.1
 true)
 (some ((((([]:List (UInt8)),((0:Int),((0:Int),((0:Int),((0:Int),((0:Int),((0:Int),(([]:List (UInt8)),())))))))),(([]:List (UInt8)),())),(false,())),(x.2.1,())))
 (aj (bB (@len UInt8 x.2.1.2.1) (512:Int))
 (ah (fM ((true,()),(x.2.1,()))) (fun(y1:PL×AL×Unit)=>some ((y1.1.1,(y1.1.2.1,())),(y1.2.1,()))))
 (aj (inside (0:Int) (512:Int) (@len UInt8 x.2.1.2.1))
 (ah (zK (@sub UInt8 x.2.1.2.1 (0:Int) (minus (512:Int) (0:Int)),())) (fun(y1:Bool×Unit)=>aj y1.1
 (ah (aj (cX (1024:Int) (@len UInt8 x.2.1.2.1))
 (aj (bI (512:Int) (0:Int))
 none
 (some (bI (jz (@len UInt8 x.2.1.2.1) (512:Int)) (0:Int))))
 (some false)) (fun(y2:Bool)=>ah (aj (nt (nt y2))
 (ah (jd (x.2.1.2.1,(([(0:UInt8)]:List (UInt8)),()))) (fun(y3:Sb×Unit)=>some (nt (cc y3.1 ([]:List (UInt8))))))
 (some true)) (fun(y3:Bool)=>ah (fM ((y3,()),(x.2.1,()))) (fun(y4:PL×AL×Unit)=>some ((y4.1.1,(y4.1.2.1,())),(y4.2.1,()))))))
 (aj (inside (0:Int) (512:Int) (@len UInt8 x.2.1.2.1))
 (ah (gC (@sub UInt8 x.2.1.2.1 (0:Int) (minus (512:Int) (0:Int)),())) (fun(y2:(Sb×Int×Int×Int×Int×Int×Int×Sb×Unit)×Int×Unit)=>aj (inside (512:Int) (@len UInt8 x.2.1.2.1) (@len UInt8 x.2.1.2.1))
 (aj (nt (bI y2.2.1 (0:Int)))
 (ah (fM ((true,()),(x.2.1,()))) (fun(y3:PL×AL×Unit)=>some ((y3.1.1,(y3.1.2.1,())),(y3.2.1,()))))
 (aj (bB (@len UInt8 (@sub UInt8 x.2.1.2.1 (512:Int) (minus (@len UInt8 x.2.1.2.1) (512:Int)))) y2.1.2.2.2.2.2.1)
 (ah (fM ((true,()),(x.2.1,()))) (fun(y3:PL×AL×Unit)=>some ((y3.1.1,(y3.1.2.1,())),(y3.2.1,()))))
 (ah (Bs (y2.1.2.2.2.2.2.1,())) (fun(y3:Int×Unit)=>aj (bB (@len UInt8 (@sub UInt8 x.2.1.2.1 (512:Int) (minus (@len UInt8 x.2.1.2.1) (512:Int)))) (aL IntKind.i64 y2.1.2.2.2.2.2.1 y3.1))
 (ah (fM ((true,()),(x.2.1,()))) (fun(y4:PL×AL×Unit)=>some ((y4.1.1,(y4.1.2.1,())),(y4.2.1,()))))
 (aj (cX (64:Int) x.2.1.2.2.1)
 (ah (fM ((true,()),(x.2.1,()))) (fun(y4:PL×AL×Unit)=>some ((y4.1.1,(y4.1.2.1,())),(y4.2.1,()))))
 (ah (Bs (y2.1.2.2.2.2.2.1,())) (fun(y4:Int×Unit)=>aj (inside (aL IntKind.i64 y2.1.2.2.2.2.2.1 y4.1) (@len UInt8 (@sub UInt8 x.2.1.2.1 (512:Int) (minus (@len UInt8 x.2.1.2.1) (512:Int)))) (@len UInt8 (@sub UInt8 x.2.1.2.1 (512:Int) (minus (@len UInt8 x.2.1.2.1) (512:Int)))))
 (aj (inside (0:Int) y2.1.2.2.2.2.2.1 (@len UInt8 (@sub UInt8 x.2.1.2.1 (512:Int) (minus (@len UInt8 x.2.1.2.1) (512:Int)))))
 (some (((y2.1,(@sub UInt8 (@sub UInt8 x.2.1.2.1 (512:Int) (minus (@len UInt8 x.2.1.2.1) (512:Int))) (0:Int) (minus y2.1.2.2.2.2.2.1 (0:Int)),())),(true,())),((x.2.1.1,(@sub UInt8 (@sub UInt8 x.2.1.2.1 (512:Int) (minus (@len UInt8 x.2.1.2.1) (512:Int))) (aL IntKind.i64 y2.1.2.2.2.2.2.1 y4.1) (minus (@len UInt8 (@sub UInt8 x.2.1.2.1 (512:Int) (minus (@len UInt8 x.2.1.2.1) (512:Int)))) (aL IntKind.i64 y2.1.2.2.2.2.2.1 y4.1)),(aL IntKind.i64 x.2.1.2.2.1 (1:Int),x.2.1.2.2.2))),())))
 none)
 none)))))))
 none))
 none)))
 none))
def lg(x:Unit×AL×Unit):Option ((Bool×Unit)×AL×Unit) :=
 some ((x.2.1.2.2.2.2.1,()),(x.2.1,()))
def iL(y2:(Unit×Unit×Bool×Unit)×Br×(List Br)×AL×Unit):Option (aen⊕aen) :=
 @eP aen (aj y2.1.2.2.1
 (aj (fits (plus (@len Br y2.2.2.1) (@len Br ([y2.2.1]:List Br))))
 (ah (bY ((),(y2.2.2.2.1,()))) (fun(y3:PL×AL×Unit)=>some (Sum.inl (((),((),(y3.1.2.1,()))),(y3.1.1,(@app Br y2.2.2.1 ([y2.2.1]:List Br),(y3.2.1,())))):(aen)⊕((Nat×(Unit×Unit×Bool×Unit)×Br×(List Br)×AL×Unit)))))
 none)
 (some (Sum.inr ((0:Nat),(((),((),(y2.1.2.2.1,()))),(y2.2.1,(y2.2.2.1,(y2.2.2.2.1,()))))):(aen)⊕((Nat×(Unit×Unit×Bool×Unit)×Br×(List Br)×AL×Unit)))))
def kC(x:Sb×Unit):Option ((List Br)×Int×Unit) :=
 ah (bY ((),((true,(x.1,((0:Int),(bB (8192:Int) (@len UInt8 x.1),(bB (8192:Int) (@len UInt8 x.1),()))))),()))) (fun(y1:PL×AL×Unit)=>ah (Loop (iL) (((),((),(y1.1.2.1,()))),(y1.1.1,(([]:List Br),(y1.2.1,()))))) (fun(y2:(Unit×Unit×Bool×Unit)×Br×(List Br)×AL×Unit)=>ah (lg ((),(y2.2.2.2.1,()))) (fun(y3:(Bool×Unit)×AL×Unit)=>aj y3.1.1
 (some (([]:List Br),((10:Int),())))
 (some (y2.2.2.1,((0:Int),()))))))
def lp(y1:(Int×Unit)×Unit):Option (((Int×Unit)×Unit)⊕((Int×Unit)×Unit)) :=
 @eP ((Int×Unit)×Unit) (aj (bI (512:Int) (0:Int))
 none
 (aj (nt (bI (jz y1.1.1 (512:Int)) (0:Int)))
 (some (Sum.inl ((aL IntKind.i64 y1.1.1 (1:Int),()),()):(((Int×Unit)×Unit))⊕((Nat×(Int×Unit)×Unit))))
 (some (Sum.inr ((0:Nat),((y1.1.1,()),())):(((Int×Unit)×Unit))⊕((Nat×(Int×Unit)×Unit))))))
def mX(x:Int×Unit):Option (Int×Unit) :=
 ah (Loop (lp) ((x.1,()),())) (fun(y1:(Int×Unit)×Unit)=>some (y1.1.1,()))
end Go.Ge
namespace Go.Ge
variable [Lp]
set_option maxRecDepth 100000
abbrev HF:=(Bool×Int×Unit)
abbrev HG:=(Int×Int×Unit)
abbrev EO:=(Nat×HF×Unit)
abbrev aeo:=((Unit×Sb×Int×Unit)×(List Sb)×Unit)
abbrev aep:=((Unit×Int×Unit)×(List Sb)×Unit)
abbrev SV:=(Nat×HG×Unit)
abbrev PM:=(Sb×Int×Unit)
abbrev Lu:=((HF×Unit))
def eG(x:Sb×Sb×Unit):Option (Bool×Unit) :=
 ah (dS (x.1,(x.2.1,()))) (fun(y1:Bool×Unit)=>some (y1.1,()))
def ec(x:(List Sb)×Sb×Unit)(y1:HG×Unit):Option ((HG×Unit)⊕SV) :=
 aj (bB y1.1.2.1 (@len Sb x.1))
 (ah (@idx Sb x.1 y1.1.2.1) (fun(y2:List (UInt8))=>aj (cc x.2.1 y2)
 (some (Sum.inr ((1:Nat),((y1.1.2.1,(y1.1.2.1,())),())):((HG×Unit))⊕(SV)))
 (some (Sum.inl ((y1.1.1,(aL IntKind.i64 y1.1.2.1 (1:Int),())),()):((HG×Unit))⊕(SV)))))
 (some (Sum.inr ((0:Nat),((y1.1.1,(y1.1.2.1,())),())):((HG×Unit))⊕(SV)))
def ia(x:(List Sb)×Sb×Unit):Option (Int×Unit) :=
 ah (Loop (ec x) (((0:Int),((0:Int),())),())) (fun(y1:Nat×HG×Unit)=>aj (fT y1.1 (0:Nat))
 (some ((-1:Int),()))
 (some (y1.2.1.1,())))
def cC(x:(List Sb)×Sb×Unit):Option (Bool×Unit) :=
 ah (ia (x.1,(x.2.1,()))) (fun(y1:Int×Unit)=>some (cX (0:Int) y1.1,()))
def lq(x:Sb×Unit)(y1:(Unit×Sb×Int×Unit)×(List Sb)×Unit):Option (aeo⊕aeo) :=
 @eP aeo (aj (bB y1.1.2.2.1 (@len UInt8 x.1))
 (ah (@idx UInt8 x.1 y1.1.2.2.1) (fun(y2:UInt8)=>ah (aj (bI (u8 y2) (47:Int))
 (aj (fits (plus (@len Sb y1.2.1) (@len Sb ([y1.1.2.1]:List Sb))))
 (some (((),(([]:List (UInt8)),())),(@app Sb y1.2.1 ([y1.1.2.1]:List Sb),())))
 none)
 (aj (inside y1.1.2.2.1 (aL IntKind.i64 y1.1.2.2.1 (1:Int)) (@len UInt8 x.1))
 (aj (fits (plus (@len UInt8 y1.1.2.1) (@len UInt8 (@sub UInt8 x.1 y1.1.2.2.1 (minus (aL IntKind.i64 y1.1.2.2.1 (1:Int)) y1.1.2.2.1)))))
 (some (((),(@app UInt8 y1.1.2.1 (@sub UInt8 x.1 y1.1.2.2.1 (minus (aL IntKind.i64 y1.1.2.2.1 (1:Int)) y1.1.2.2.1)),())),(y1.2.1,())))
 none)
 none)) (fun(y3:(Unit×Sb×Unit)×(List Sb)×Unit)=>some (Sum.inl (((),(y3.1.2.1,(aL IntKind.i64 y1.1.2.2.1 (1:Int),()))),(y3.2.1,())):(aeo)⊕((Nat×(Unit×Sb×Int×Unit)×(List Sb)×Unit))))))
 (some (Sum.inr ((0:Nat),(((),(y1.1.2.1,(y1.1.2.2.1,()))),(y1.2.1,()))):(aeo)⊕((Nat×(Unit×Sb×Int×Unit)×(List Sb)×Unit)))))
def eo(x:Sb×Unit):Option ((List Sb)×Unit) :=
 aj (cc x.1 ([]:List (UInt8)))
 (some (([]:List Sb),()))
 (ah (Loop (lq x) (((),(([]:List (UInt8)),((0:Int),()))),(([]:List Sb),()))) (fun(y1:(Unit×Sb×Int×Unit)×(List Sb)×Unit)=>aj (fits (plus (@len Sb y1.2.1) (@len Sb ([y1.1.2.1]:List Sb))))
 (some (@app Sb y1.2.1 ([y1.1.2.1]:List Sb),()))
 none))
def mJ(x:(List Sb)×Unit)(y1:PM×Unit):Option ((PM×Unit)⊕(PM×Unit)) :=
 @eP (PM×Unit) (aj (bB y1.1.2.1 (@len Sb x.1))
 (ah (aj (bB (0:Int) y1.1.2.1)
 (aj (fits (plus (@len UInt8 y1.1.1) (@len UInt8 ([(47:UInt8)]:List (UInt8)))))
 (some ((@app UInt8 y1.1.1 ([(47:UInt8)]:List (UInt8)),()),()))
 none)
 (some ((y1.1.1,()),()))) (fun(y2:(Sb×Unit)×Unit)=>ah (@idx Sb x.1 y1.1.2.1) (fun(y3:List (UInt8))=>aj (fits (plus (@len UInt8 y2.1.1) (@len UInt8 y3)))
 (some (Sum.inl ((@app UInt8 y2.1.1 y3,(aL IntKind.i64 y1.1.2.1 (1:Int),())),()):((PM×Unit))⊕((Nat×PM×Unit))))
 none)))
 (some (Sum.inr ((0:Nat),((y1.1.1,(y1.1.2.1,())),())):((PM×Unit))⊕((Nat×PM×Unit)))))
def pz(x:(List Sb)×Unit):Option (Sb×Unit) :=
 ah (Loop (mJ x) ((([]:List (UInt8)),((0:Int),())),())) (fun(y1:PM×Unit)=>some (y1.1.1,()))
def jV(x:Sb×Unit)(y1:HF×Unit):Option ((HF×Unit)⊕EO) :=
 aj (bB y1.1.2.1 (@len UInt8 x.1))
 (ah (@idx UInt8 x.1 y1.1.2.1) (fun(y2:UInt8)=>ah (aj (nt (bI (u8 y2) (0:Int)))
 (ah (@idx UInt8 x.1 y1.1.2.1) (fun(y3:UInt8)=>some (bI (u8 y3) (47:Int))))
 (some true)) (fun(y3:Bool)=>aj y3
 (some (Sum.inr ((1:Nat),((false,(y1.1.2.1,())),())):Lu⊕(EO)))
 (some (Sum.inl ((y1.1.1,(aL IntKind.i64 y1.1.2.1 (1:Int),())),()):Lu⊕(EO))))))
 (some (Sum.inr ((0:Nat),((y1.1.1,(y1.1.2.1,())),())):Lu⊕(EO)))
def sB(x:Sb×Unit):Option (Bool×Unit) :=
 ah (Loop (jV x) ((false,((0:Int),())),())) (fun(y1:Nat×HF×Unit)=>aj (fT y1.1 (0:Nat))
 (some (aj (aj (aj (cX (1:Int) (@len UInt8 x.1))
 (cX (@len UInt8 x.1) (32:Int))
 false)
 (nt (cc x.1 ([(46:UInt8)]:List (UInt8))))
 false)
 (nt (cc x.1 ([(46:UInt8),(46:UInt8)]:List (UInt8))))
 false,()))
 (some (y1.2.1.1,())))
def ql(y1:(List Sb)×Unit)(y2:HF×Unit):Option ((HF×Unit)⊕EO) :=
 aj (bB y2.1.2.1 (@len Sb y1.1))
 (ah (@idx Sb y1.1 y2.1.2.1) (fun(y3:List (UInt8))=>ah (sB (y3,())) (fun(y4:Bool×Unit)=>aj (nt y4.1)
 (some (Sum.inr ((1:Nat),((false,(y2.1.2.1,())),())):Lu⊕(EO)))
 (some (Sum.inl ((y2.1.1,(aL IntKind.i64 y2.1.2.1 (1:Int),())),()):Lu⊕(EO))))))
 (some (Sum.inr ((0:Nat),((y2.1.1,(y2.1.2.1,())),())):Lu⊕(EO)))
def xL(x:Sb×Unit):Option (Bool×Unit) :=
 ah (eo (x.1,())) (fun(y1:(List Sb)×Unit)=>ah (Loop (ql y1) ((false,((0:Int),())),())) (fun(y2:Nat×HF×Unit)=>aj (fT y2.1 (0:Nat))
 (some (aj (cX (@len Sb y1.1) (8:Int))
 (cX (@len UInt8 x.1) (96:Int))
 false,()))
 (some (y2.2.1.1,()))))
def lu(y1:(List Sb)×Unit)(y2:(Unit×Int×Unit)×(List Sb)×Unit):Option (aep⊕aep) :=
 @eP aep (aj (bB y2.1.2.1 (@len Sb y1.1))
 (ah (@idx Sb y1.1 y2.1.2.1) (fun(y3:List (UInt8))=>ah (aj (nt (cc y3 ([]:List (UInt8))))
 (ah (@idx Sb y1.1 y2.1.2.1) (fun(y4:List (UInt8))=>some (nt (cc y4 ([(46:UInt8)]:List (UInt8))))))
 (some false)) (fun(y4:Bool)=>ah (aj y4
 (ah (@idx Sb y1.1 y2.1.2.1) (fun(y5:List (UInt8))=>aj (fits (plus (@len Sb y2.2.1) (@len Sb ([y5]:List Sb))))
 (some (((),()),(@app Sb y2.2.1 ([y5]:List Sb),())))
 none))
 (some (((),()),(y2.2.1,())))) (fun(y5:(Unit×Unit)×(List Sb)×Unit)=>some (Sum.inl (((),(aL IntKind.i64 y2.1.2.1 (1:Int),())),(y5.2.1,())):(aep)⊕((Nat×(Unit×Int×Unit)×(List Sb)×Unit)))))))
 (some (Sum.inr ((0:Nat),(((),(y2.1.2.1,())),(y2.2.1,()))):(aep)⊕((Nat×(Unit×Int×Unit)×(List Sb)×Unit)))))
def uD(x:Sb×Unit):Option PM :=
 ah (eo (x.1,())) (fun(y1:(List Sb)×Unit)=>ah (Loop (lu y1) (((),((0:Int),())),(([]:List Sb),()))) (fun(y2:(Unit×Int×Unit)×(List Sb)×Unit)=>ah (pz (y2.2.1,())) (fun(y3:Sb×Unit)=>ah (aj (nt (cc x.1 ([]:List (UInt8))))
 (ah (@idx UInt8 x.1 (0:Int)) (fun(y4:UInt8)=>some (bI (u8 y4) (47:Int))))
 (some false)) (fun(y4:Bool)=>ah (aj (nt y4)
 (ah (xL (y3.1,())) (fun(y5:Bool×Unit)=>some (nt y5.1)))
 (some true)) (fun(y5:Bool)=>aj y5
 (some (([]:List (UInt8)),((2:Int),())))
 (some (y3.1,((0:Int),()))))))))
def oD(x:Sb×Sb×Unit):Option (Bool×Unit) :=
 ah (aj (cX (@len UInt8 x.2.1) (@len UInt8 x.1))
 (aj (inside (0:Int) (@len UInt8 x.2.1) (@len UInt8 x.1))
 (some (cc (@sub UInt8 x.1 (0:Int) (minus (@len UInt8 x.2.1) (0:Int))) x.2.1))
 none)
 (some false)) (fun(y1:Bool)=>some (y1,()))
def sC(x:Sb×Unit):Option (Int×Sb×Unit) :=
 aj (cc x.1 ([(46:UInt8),(119:UInt8),(104:UInt8),(46:UInt8),(46:UInt8),(119:UInt8),(104:UInt8),(46:UInt8),(46:UInt8),(111:UInt8),(112:UInt8),(113:UInt8)]:List (UInt8)))
 (some ((2:Int),(([]:List (UInt8)),())))
 (ah (oD (x.1,(([(46:UInt8),(119:UInt8),(104:UInt8),(46:UInt8),(46:UInt8),(119:UInt8),(104:UInt8),(46:UInt8)]:List (UInt8)),()))) (fun(y1:Bool×Unit)=>aj (aj (nt (aj (nt (aj (nt y1.1)
 (cc x.1 ([(46:UInt8),(119:UInt8),(104:UInt8),(46:UInt8)]:List (UInt8)))
 true))
 (cc x.1 ([(46:UInt8),(119:UInt8),(104:UInt8),(46:UInt8),(46:UInt8)]:List (UInt8)))
 true))
 (cc x.1 ([(46:UInt8),(119:UInt8),(104:UInt8),(46:UInt8),(46:UInt8),(46:UInt8)]:List (UInt8)))
 true)
 (some ((3:Int),(([]:List (UInt8)),())))
 (ah (oD (x.1,(([(46:UInt8),(119:UInt8),(104:UInt8),(46:UInt8)]:List (UInt8)),()))) (fun(y2:Bool×Unit)=>aj y2.1
 (aj (inside (4:Int) (@len UInt8 x.1) (@len UInt8 x.1))
 (some ((1:Int),(@sub UInt8 x.1 (4:Int) (minus (@len UInt8 x.1) (4:Int)),())))
 none)
 (some ((0:Int),(x.1,())))))))
def kD(x:Sb×Unit):Option (Sb×Sb×Unit) :=
 ah (eo (x.1,())) (fun(y1:(List Sb)×Unit)=>aj (bI (@len Sb y1.1) (0:Int))
 (some (([]:List (UInt8)),(([]:List (UInt8)),())))
 (aj (inside (0:Int) (ef IntKind.i64 (@len Sb y1.1) (1:Int)) (@len Sb y1.1))
 (ah (pz (@sub Sb y1.1 (0:Int) (minus (ef IntKind.i64 (@len Sb y1.1) (1:Int)) (0:Int)),())) (fun(y2:Sb×Unit)=>ah (@idx Sb y1.1 (ef IntKind.i64 (@len Sb y1.1) (1:Int))) (fun(y3:List (UInt8))=>some (y2.1,(y3,())))))
 none))
def jW(x:(List Sb)×(List Sb)×Unit)(y1:HF×Unit):Option ((HF×Unit)⊕EO) :=
 aj (aj (bB y1.1.2.1 (@len Sb x.1))
 (bB y1.1.2.1 (@len Sb x.2.1))
 false)
 (ah (@idx Sb x.1 y1.1.2.1) (fun(y2:List (UInt8))=>ah (@idx Sb x.2.1 y1.1.2.1) (fun(y3:List (UInt8))=>aj (nt (cc y2 y3))
 (some (Sum.inr ((1:Nat),((false,(y1.1.2.1,())),())):Lu⊕(EO)))
 (some (Sum.inl ((y1.1.1,(aL IntKind.i64 y1.1.2.1 (1:Int),())),()):Lu⊕(EO))))))
 (some (Sum.inr ((0:Nat),((y1.1.1,(y1.1.2.1,())),())):Lu⊕(EO)))
def eM(x:(List Sb)×(List Sb)×Unit):Option (Bool×Unit) :=
 aj (nt (bI (@len Sb x.1) (@len Sb x.2.1)))
 (some (false,()))
 (ah (Loop (jW x) ((false,((0:Int),())),())) (fun(y1:Nat×HF×Unit)=>aj (fT y1.1 (0:Nat))
 (some (true,()))
 (some (y1.2.1.1,()))))
def pE(x:Sb×Sb×Unit):Option (Sb×Unit) :=
 aj (cc x.1 ([]:List (UInt8)))
 (some (x.2.1,()))
 (aj (cc x.2.1 ([]:List (UInt8)))
 (some (x.1,()))
 (aj (fits (plus (@len UInt8 x.1) (@len UInt8 ([(47:UInt8)]:List (UInt8)))))
 (aj (fits (plus (@len UInt8 (@app UInt8 x.1 ([(47:UInt8)]:List (UInt8)))) (@len UInt8 x.2.1)))
 (some (@app UInt8 (@app UInt8 x.1 ([(47:UInt8)]:List (UInt8))) x.2.1,()))
 none)
 none))
def lz(y1:(List Sb)×Unit)(y2:(List Sb)×Unit)(y3:HF×Unit):Option ((HF×Unit)⊕EO) :=
 aj (aj (bB y3.1.2.1 (@len Sb y2.1))
 (bB y3.1.2.1 (@len Sb y1.1))
 false)
 (ah (@idx Sb y1.1 y3.1.2.1) (fun(y4:List (UInt8))=>ah (@idx Sb y2.1 y3.1.2.1) (fun(y5:List (UInt8))=>aj (nt (cc y4 y5))
 (some (Sum.inr ((1:Nat),((false,(y3.1.2.1,())),())):Lu⊕(EO)))
 (some (Sum.inl ((y3.1.1,(aL IntKind.i64 y3.1.2.1 (1:Int),())),()):Lu⊕(EO))))))
 (some (Sum.inr ((0:Nat),((y3.1.1,(y3.1.2.1,())),())):Lu⊕(EO)))
def uE(x:Sb×Sb×Unit):Option (Bool×Unit) :=
 ah (eo (x.1,())) (fun(y1:(List Sb)×Unit)=>ah (eo (x.2.1,())) (fun(y2:(List Sb)×Unit)=>aj (cX (@len Sb y1.1) (@len Sb y2.1))
 (some (false,()))
 (ah (Loop (lz y1 y2) ((false,((0:Int),())),())) (fun(y3:Nat×HF×Unit)=>aj (fT y3.1 (0:Nat))
 (some (true,()))
 (some (y3.2.1.1,()))))))
def dH(y1:(List Sb)×Unit)(y2:(List Sb)×Unit)(y3:HG×Unit):Option ((HG×Unit)⊕SV) :=
 aj (aj (bB y3.1.2.1 (@len Sb y1.1))
 (bB y3.1.2.1 (@len Sb y2.1))
 false)
 (ah (@idx Sb y1.1 y3.1.2.1) (fun(y4:List (UInt8))=>ah (@idx Sb y2.1 y3.1.2.1) (fun(y5:List (UInt8))=>aj (jy y4 y5)
 (some (Sum.inr ((1:Nat),(((-1:Int),(y3.1.2.1,())),())):((HG×Unit))⊕(SV)))
 (ah (@idx Sb y1.1 y3.1.2.1) (fun(y6:List (UInt8))=>ah (@idx Sb y2.1 y3.1.2.1) (fun(y7:List (UInt8))=>aj (nt (oor (jy y6 y7) (cc y6 y7)))
 (some (Sum.inr ((1:Nat),(((1:Int),(y3.1.2.1,())),())):((HG×Unit))⊕(SV)))
 (some (Sum.inl ((y3.1.1,(aL IntKind.i64 y3.1.2.1 (1:Int),())),()):((HG×Unit))⊕(SV)))))))))
 (some (Sum.inr ((0:Nat),((y3.1.1,(y3.1.2.1,())),())):((HG×Unit))⊕(SV)))
def mK(x:Sb×Sb×Unit):Option (Int×Unit) :=
 ah (eo (x.1,())) (fun(y1:(List Sb)×Unit)=>ah (eo (x.2.1,())) (fun(y2:(List Sb)×Unit)=>ah (Loop (dH y1 y2) (((0:Int),((0:Int),())),())) (fun(y3:Nat×HG×Unit)=>aj (fT y3.1 (0:Nat))
 (aj (bB (@len Sb y1.1) (@len Sb y2.1))
 (some ((-1:Int),()))
 (aj (bB (@len Sb y2.1) (@len Sb y1.1))
 (some ((1:Int),()))
 (some ((0:Int),()))))
 (some (y3.2.1.1,())))))
end Go.Ge
namespace Go.Ge
variable [Lp]
set_option maxRecDepth 100000
abbrev E7:=(Int×Bool×Int×Int×Unit)
def gI(x:Sb×Unit)(y1:E7×Unit):Option ((E7×Unit)⊕(Nat×E7×Unit)) :=
 aj (bB y1.1.2.2.2.1 (@len UInt8 x.1))
 (ah (@idx UInt8 x.1 y1.1.2.2.2.1) (fun(y2:UInt8)=>ah (aj (nt (bB (u8 y2) (48:Int)))
 (ah (@idx UInt8 x.1 y1.1.2.2.2.1) (fun(y3:UInt8)=>some (bB (55:Int) (u8 y3))))
 (some true)) (fun(y3:Bool)=>aj (aj (nt y3)
 (bB (1152921504606846975:Int) y1.1.2.2.1)
 true)
 (some (Sum.inr ((1:Nat),(((0:Int),(false,(y1.1.2.2.1,(y1.1.2.2.2.1,())))),())):((E7×Unit))⊕((Nat×E7×Unit))))
 (ah (@idx UInt8 x.1 y1.1.2.2.2.1) (fun(y4:UInt8)=>some (Sum.inl ((y1.1.1,(y1.1.2.1,(aL IntKind.i64 (nr IntKind.i64 (8:Int) y1.1.2.2.1) (qW IntKind.i64 (ef IntKind.u8 (u8 y4) (48:Int))),(aL IntKind.i64 y1.1.2.2.2.1 (1:Int),())))),()):((E7×Unit))⊕((Nat×E7×Unit))))))))
 (some (Sum.inr ((0:Nat),((y1.1.1,(y1.1.2.1,(y1.1.2.2.1,(y1.1.2.2.2.1,())))),())):((E7×Unit))⊕((Nat×E7×Unit))))
def nH(x:Sb×Unit):Option (Int×Bool×Unit) :=
 aj (aj (nt (bB (@len UInt8 x.1) (1:Int)))
 (bB (21:Int) (@len UInt8 x.1))
 true)
 (some ((0:Int),(false,())))
 (ah (Loop (gI x) (((0:Int),(false,((0:Int),((0:Int),())))),())) (fun(y1:Nat×E7×Unit)=>aj (fT y1.1 (0:Nat))
 (some (y1.2.1.2.2.1,(true,())))
 (some (y1.2.1.1,(y1.2.1.2.1,())))))
end Go.Ge
