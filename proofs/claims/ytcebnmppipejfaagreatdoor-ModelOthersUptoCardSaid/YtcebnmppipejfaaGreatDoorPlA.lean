import Derived.Test.YtcebnmppipejfaaGreatDoorGeI
import Derived.Lib.Repeat
set_option linter.unusedSectionVars false
set_option linter.unusedVariables false
set_option linter.unusedSimpArgs false
set_option linter.defProp false
noncomputable section
open Option renaming some->ab,none->ah
open Go.IntKind (i64 u32)
namespace Go.Ge
variable [Lp]
def e8{a b}(h:-9223372036854775808<=a+b)(c:a+b<=9223372036854775807):aH .i64 a b=a+b:=by
 unfold aH;simp[IntKind.wrap,IntKind.signed,IntKind.bits];omega
def dL{a b}(h:-9223372036854775808<=a-b)(c:a-b<=9223372036854775807):da .i64 a b=a-b:=by
 unfold da;simp[IntKind.wrap,IntKind.signed,IntKind.bits];omega
def B7{a b}(h:-9223372036854775808<=a*b)(c:a*b<=9223372036854775807):jD .i64 a b=a*b:=by
 unfold jD;simp[IntKind.wrap,IntKind.signed,IntKind.bits];omega
def Ag{a}(h:-9223372036854775808<=a)(b:a<=9223372036854775807):kE .i64 a=a:=by
 unfold kE;simp[IntKind.wrap,IntKind.signed,IntKind.bits];omega
def ag0{a}(h:0<=a)(b:a<=18446744073709551615):kE .u64 a=a:=by
 unfold kE;simp[IntKind.wrap,IntKind.signed,IntKind.bits];omega
def wrap_u32 a:IntKind.wrap .u32 a=a % 4294967296:=by
 simp[IntKind.wrap,IntKind.signed,IntKind.bits]
def Bv(x:Int):BitVec 32:=BitVec.ofInt 32 x
def Can(x:Int):Prop:=0<=x/\x<4294967296
def Va a:Can (IntKind.wrap .u32 a):=by rw[wrap_u32];unfold Can;omega
def wV a:((Bv a).toNat:Int)=a % 4294967296:=by
 unfold Bv;rw[ado];have:0<=a % ((2 ^ 32:Nat):Int):=Int.emod_nonneg _ aK;rw[adn this];rfl
def ag1{a b}(c:Can a)(d:Can b)(h:Bv a=Bv b):a=b:=by
 have e:=wV a;have f:=wV b;rw[h] at e;unfold Can at c d;omega
def KN a:Bv (IntKind.wrap .u32 a)=Bv a:=by
 apply adi;have c:=wV a;have b:=wV (IntKind.wrap .u32 a);rw[wrap_u32] at b⊢;omega
def X0 v:Bv (v.toNat:Int)=v:=by
 apply adi;have a:=wV v.toNat;omega
def bv_and x y:Bv (jR .u32 x y)=Bv x &&& Bv y:=by unfold jR;rw[KN];apply X0
def Z0 x y:Bv (zM .u32 x y)=Bv x ||| Bv y:=by unfold zM;rw[KN];apply X0
def aeG x y:Bv (gM .u32 x y)=Bv x ^^^ Bv y:=by unfold gM;rw[KN];apply X0
def MD x y:Can (zM .u32 x y):=Va _
def Sk x y:Can (gM .u32 x y):=Va _
def X1 x (n:Nat) (b:n<=32):Bv (nR .u32 x n)=Bv x <<< n:=by
 unfold nR;rw[KN];apply adi;have a:=wV (x*2 ^ (min (n:Int).toNat IntKind.u32.bits));have e:min (n:Int).toNat IntKind.u32.bits=n:=by simp[IntKind.bits];omega
 rw[e] at a⊢;rw[BitVec.toNat_shiftLeft];have c:(((Bv x).toNat*2 ^ n % 2 ^ 32:Nat):Int)=(x*2 ^ n) % 4294967296:=by
  rw[Int.natCast_emod,Int.natCast_mul,(wV x)];show(x % 4294967296*2 ^ n) % 4294967296=_
  rw[Int.mul_emod,Int.emod_emod_of_dvd _ (Int.dvd_refl _),<-Int.mul_emod]
 omega
def X2 x y:zM .u32 x y=zM .u32 y x:=ag1 (MD _ _) (MD _ _) (by rw[Z0,Z0,BitVec.or_comm])
def Vb x y:aH .u32 x y=aH .u32 y x:=by unfold aH;rw[Int.add_comm]
def akC e f g:gM .u32 g (jR .u32 e<|gM .u32 f g)=gM .u32 (jR .u32 e f) (jR .u32 (gM .u32 4294967295 e) g):=by
 refine ag1 (Sk _ _) (Sk _ _) ?_;simp only[aeG,bv_and];have h:Bv 4294967295=BitVec.allOnes 32:=aK;rw[h]
 ext i hi
 simp only[BitVec.getElem_xor,BitVec.getElem_and,BitVec.getElem_allOnes];cases (Bv e)[i]<;>cases (Bv f)[i]<;>cases (Bv g)[i]<;>rfl
def ai2 a b c:zM .u32 (jR .u32 a b) (jR .u32 c<|zM .u32 a b)=gM .u32 (gM .u32 (jR .u32 a b)<|jR .u32 a c) (jR .u32 b c):=by
 refine ag1 (MD _ _) (Sk _ _) ?_;simp only[aeG,bv_and,Z0]
 ext i hi
 simp;cases (Bv a)[i]<;>cases (Bv b)[i]<;>cases (Bv c)[i]<;>rfl
def ag2 a b c d:zM .u32 (nR .u32 (zM .u32 (nR .u32 (zM .u32 (nR .u32 (zM .u32 (nR .u32 0 8) a) 8) b) 8) c) 8) d=zM .u32 (zM .u32 (zM .u32 (nR .u32 a 24)<|nR .u32 b 16)<|nR .u32 c 8) d:=by
 refine ag1 (MD _ _) (MD _ _) ?_;have g:∀x,Bv (nR .u32 x 8)=Bv x <<< 8:=λx=>X1 x 8 aK;have e:∀x,Bv (nR .u32 x 16)=Bv x <<< 16:=λx=>X1 x 16 aK;have f:∀x,Bv (nR .u32 x 24)=Bv x <<< 24:=λx=>X1 x 24 aK;simp only[Z0,g,e,f];simp[BitVec.shiftLeft_or_distrib]
def aO{a b}(h:a<b):ba a b=true:=by simp[ba,h]
def aJ{a b}(h:b<=a):ba a b=false:=by simp[ba];omega
def bO{a b}(h:a<=b):cu a b=true:=by simp[cu,h]
def ea{a b}(h:b<a):cu a b=false:=by simp[cu];omega
def aE{a b}(h:a=b):aS a b=true:=by simp[aS,h]
def ax{a b}(h:a≠b):aS a b=false:=by simp[aS,h]
def aM{i n}(a:0<=i)(b:i<n):within i n=true:=by simp[within,a,b]
def aV{i j n}(a:0<=i)(b:i<=j)(c:j<=n):inside i j n=true:=by simp[inside,a,b,c]
def ec{n}(h:n<=4294967296):fits n=true:=by simp[fits,h]
def jV{S} s:dq (ab (.inl s:S⊕(Nat×S)))=ab (.inl s):=rfl
def mB{S} n s:dq (ab (.inr (n,s):S⊕(Nat×S)))=ab (.inr s):=rfl
def fH{α}(l:List α) d {i} (h:i<l.length):idx l i=ab (l.getD i d):=by
 rw[vQ,ac9,ik h];rfl
def nu{α}(l:List α) d {i:Int} {k:Nat} (e:i=k) (h:k<l.length):idx l i=ab (l.getD k d):=by subst e;exact fH l d h
def uK{α}(l:List α)(i:Nat) x:lP l i x=l.set i x:=by simp[lP]
def uL{d c R:Type}(a:Nat->c->d->Option (c⊕R))(b:Nat->c->R):List d->Nat->c->Option R
 | [],i,s=>ab (b i s)
 | x::r,i,s=>match a i s x with
   | none=>ah
   | some (.inl e)=>uL a b r (i+1) e
   | some (.inr y)=>ab y
def pV{α σ S R}{f:S->Option (S⊕R)}(l:List α)(j:σ->Nat->S) step fin (Inv:Nat->σ->Prop)
  (c:∀s i x,l[i]?=ab x->i<l.length->Inv i s->f (j s i)=(step i s x).map λq=>match q with|.inl d=>.inl (j d<|i+1)|.inr y=>.inr y)
  (hinv:∀s i x d,l[i]?=ab x->Inv i s->step i s x=ab (.inl d)->Inv (i+1) d)
  (k:∀s,Inv l.length s->f (j s l.length)=ab (.inr<|fin l.length s)) (e:∀s i x,l[i]?=ab x->Inv i s->step i s x≠ah) :
  ∀s,Inv 0 s->Loop f (j s 0)=uL step fin l 0 s:=by
 have key:∀b a s,l=a++b->Inv a.length s->Loop f (j s a.length)=uL step fin b a.length s:=by
  intro b;induction b with
  | nil =>
    intro a s h g;rw[zQ] at h;subst h;rw[aT,k s g];rfl
  | cons x r n =>
    intro a s h g;have hx:l[a.length]?=ab x:=by rw[h];simp
    rw[aT,c s a.length x hx (by rw[h];simp) g];unfold uL;cases m:step a.length s x with
    | none=>exact absurd m (e s _ x hx g)
    | some q =>
      cases q with
      | inr y=>rfl
      | inl d =>
        have:=n (a++[x]) d (by rw[h];simp) (by rw[jB];exact hinv s _ x d hx g m);rw[jB] at this;exact this
 intro s g;exact key l [] s rfl g
def Gg{α}(i:Nat)(l:List α):ba i (len l)=decide (i<l.length):=by simp[ba,len]
def Gi{α}(l:List α):ba 0 (len l)=decide (0<l.length):=Gg 0 l
def Ah{α}(i:Nat)(l:List α):cu (len l) i=decide (l.length<=i):=by simp[cu,len]
def Gj{α β}(l:List α)(m:List β):ba (len l) (len m)=decide (l.length<m.length):=by simp[ba,len]
def ME{α β}(l:List α)(m:List β):cu (len l) (len m)=decide (l.length<=m.length):=by simp[cu,len]
def Vc{α β}(l:List α)(m:List β):aS (len l) (len m)=decide (l.length=m.length):=by unfold len;apply gX.2;omega
def bo{α β}{l:List α}{m:List β}(h:l.length+m.length<=4294967296):fits (plus (len l)<|len m)=true:=by
 apply ec;simp only[plus,len];omega
def ew{α} c (x y:α):ao c x y=if c=true then x else y:=by cases c<;>rfl
def MF{α} p [Decidable p] (x y:α):ao (decide p) x y=if p then x else y:=by by_cases h:p<;>simp[ ao]
def tM{a b}:bH a b=decide (a=b):=rfl
def bw{a b}(h:a≠b):bH a b=false:=by simp[bH,h]
def di{a b}(h:a=b):bH a b=true:=by simp[bH,h]
def DT{c n}:aS (u8 c) (n.toNat:Int)=decide (c=n):=by
 unfold aS u8;by_cases h:c=n
 .simp[h]
 .have:c.toNat≠n.toNat:=λe=>h (T0.1 e);simp[h];omega
def hU{α}(l:List α)(n:Nat):sub l 0 (minus n 0)=l.take n:=by
 unfold sub minus;simp
def Qw{α β}(l:List α)(m:List β):sub l 0 (minus (len m) 0)=l.take m.length:=hU l m.length
def mC{α}(l:List α) n (h:n<=l.length):sub l n (minus (len l) n)=l.drop n:=by
 unfold minus len;apply Hi;rw[pP];omega
def b9:de 0 0=true:=rfl
def fv:de 1 0=false:=rfl
def aF{a:Type}{l:List a}{i x}(h:l[i]?=ab x):i<l.length:=(hR.1 h).1
def sub_one{α}{l:List α}{i:Nat}{x}(h:l[i]?=ab x):sub l i (minus ((i+1:Nat):Int) i)=[x]:=by
 unfold sub minus;rw[show((i+1:Nat):Int)-i=1 by omega,qJ];obtain⟨a,rfl⟩:=hR.1 h;rw[y8 a];rfl
def X3{a b n:Nat}(h:a<=b)(k:b<=n):inside a b n=true:=aV ai ai ai
def l8{α a b}{l:List α}(h:a<=b)(k:b<=l.length):inside a b (len l)=true:=X3 h k
def au{α}{l:List α}{i:Nat}{x}(h:l[i]?=ab x):idx l i=ab x:=by rw[vQ,h]
def aq{α}{l:List α}{i}(h:i<l.length):ba i (len l)=true:=by rw[Gg,dD h]
def aw{α}{l:List α}:ba (l.length:Int) (len l)=false:=by rw[Gg,cL ai]
def vf{α}(l m:List α):app l m=l++m:=rfl
def Z1 b:nt b=!b:=rfl
def bE{α}(l:List α):len l=(l.length:Int):=rfl
def ag3 y:ft [] y=decide (y≠[]):=by cases y<;>simp[ft,Op.bytesLess]
def aeH x:ft x []=false:=by cases x<;>simp[ft,Op.bytesLess]
def Gk a b x y:ft (a::x) (b::y)=(decide (a<b)||(a==b&&ft x y)):=by simp[ft,Op.bytesLess]
def ai3(a b:UInt8):a<b\/a=b\/b<a:=by
 rcases P5 a.toNat b.toNat with h|h|h
 .exact .inl h
 .exact .inr (.inl<|T0.1 h)
 .exact .inr (.inr h)
def kq:∀x,ft x x=false:=by
 intro x;induction x with
 | nil=>rfl
 | cons a x b=>rw[Gk,b];simp
def C8:∀{x y z},ft x y=true->ft y z=true->ft x z=true:=by
 intro x;induction x with
 | nil =>
   intro y z h k;cases z with
   | nil=>rw[aeH] at k;cases k
   | cons c z=>rfl
 | cons a x d =>
   intro y z h k;cases y with
   | nil=>cases h
   | cons b y =>
     cases z with
     | nil=>cases k
     | cons c z =>
       rw[Gk] at h k⊢;simp at h k⊢;rcases h with h|⟨rfl,h⟩
       .rcases k with k|⟨rfl,k⟩
        .exact .inl (UInt8.lt_trans h k)
        .exact .inl h
       .rcases k with k|⟨rfl,k⟩
        .exact .inl k
        .exact .inr ⟨rfl,d h k⟩
def C9:∀x y,ft x y=true\/x=y\/ft y x=true:=by
 intro x;induction x with
 | nil=>intro y;cases y<;>simp[ag3]
 | cons a x c =>
   intro y;cases y with
   | nil=>exact .inr (.inr rfl)
   | cons b y =>
     rw[Gk,Gk];simp only[Fs,uv,gy,beq_iff_eq];rcases ai3 a b with h|rfl|h
     .exact .inl (.inl h)
     .rcases c y with h|rfl|h
      .exact .inl (.inr ⟨rfl,h⟩)
      .exact .inr (.inl rfl)
      .exact .inr (.inr<|.inr ⟨rfl,h⟩)
     .exact .inr (.inr<|.inl h)
def rb{x y}(h:ft x y=true):ft y x=false:=by
 cases k:ft y x with
 | false=>rfl
 | true=>have:=C8 h k;rw[kq] at this;cases this
def EL{x y}(h:ft x y=true):x≠y:=λe=>by rw[e,kq] at h;cases h
def X4 x y:nt (oor (ft x y)<|bH x y)=ft y x:=by
 rcases C9 x y with h|rfl|h
 .rw[h,rb h];rfl
 .rw[rR,kq];rfl
 .rw[h,rb h,bw λe=>EL h e.symm];rfl
def X5(x y:ay):Int:=if ft x y=true then -1 else if x=y then 0 else 1
def cmpL:List ay->List ay->Int
 | [],[]=>0
 | [],_::_=>-1
 | _::_,[]=>1
 | a::x,b::y=>if a=b then cmpL x y else if ft a b=true then -1 else 1
def na:∀x,cmpL x x=0:=by
 intro x;induction x with
 | nil=>rfl
 | cons a x b=>rw[cmpL,aX rfl];exact b
def abt:∀{x y},cmpL x y=0->x=y:=by
 intro x;induction x with
 | nil=>intro y h;cases y with|nil=>rfl|cons b y=>cases h
 | cons a x c =>
   intro y h;cases y with
   | nil=>cases h
   | cons b y =>
     rw[cmpL] at h;split at h
     .rename_i e;rw[e,c h]
     .split at h<;>cases h
def aeI:∀x y,cmpL x y=- cmpL y x:=by
 intro x;induction x with
 | nil=>intro y;cases y<;>rfl
 | cons a x c =>
   intro y;cases y with
   | nil=>rfl
   | cons b y =>
     rw[cmpL,cmpL];by_cases e:a=b
     .rw[aX e,aX e.symm,c y]
     .have d:¬b=a:=λq=>e q.symm;rw[aR e,aR d];rcases C9 a b with h|h|h
      .rw[aX h,aR (by rw[rb h];simp)]
      .exact absurd h e
      .rw[aR<|by rw[rb h];simp,aX h];rfl
def td:∀{x y z},cmpL x y<0->cmpL y z<0->cmpL x z<0:=by
 intro x;induction x with
 | nil =>
   intro y z h k;cases z with
   | nil=>cases y with|nil=>exact absurd k (by simp[cmpL])|cons b y=>exact absurd k (by simp[cmpL])
   | cons c z=>exact(by decide:(-1)<0)
 | cons a x j =>
   intro y z h k;cases y with
   | nil=>exact absurd h (by simp[cmpL])
   | cons b y =>
     cases z with
     | nil=>exact absurd k (by simp[cmpL])
     | cons c z =>
       rw[cmpL] at h k⊢;by_cases e:a=b
       .subst e;rw[aX rfl] at h;by_cases d:a=c
        .subst d;rw[aX rfl] at k⊢;exact j h k
        .rw[aR d] at k⊢;exact k
       .rw[aR e] at h;have g:ft a b=true:=by
         cases q:ft a b with
         | true=>rfl
         | false=>rw[q] at h;exact absurd h aK
        by_cases d:b=c
        .subst d;rw[aR e];exact h
        .rw[aR d] at k;have i:ft b c=true:=by
          cases q:ft b c with
          | true=>rfl
          | false=>rw[q] at k;exact absurd k aK
         have f:=C8 g i;rw[aR<|EL f,aX f];decide
def Vd x r (h:r≠[]):cmpL x (x++r)=-1:=by
 induction x with
 | nil=>cases r with|nil=>exact absurd rfl h|cons a r=>rfl
 | cons a x b=>rw[JJ,cmpL,aX rfl];exact b
def aeJ{a b:Type}{x:List a}{y:List b}{i:Nat}{p}(h:(x.zip y)[i]?=ab p):x[i]?=ab p.1/\y[i]?=ab p.2:=by
 rw[ada] at h;exact h
def Ve{c:Type}[DecidableEq c]:∀(x y:List c),(x.zip y).all (λp=>decide (p.1=p.2))=decide (x.take (min x.length y.length)=y.take (min x.length y.length)):=by
 intro x;induction x with
 | nil=>simp
 | cons a x d =>
   intro y;cases y with
   | nil=>simp
   | cons b y =>
     rw[List.zip_cons_cons,List.all_cons,d y];by_cases e:a=b
     .simp
     .simp
def Sl{a:Type}[DecidableEq a]{x y:List a}(h:x.length=y.length):(x.zip y).all (λp=>decide (p.1=p.2))=decide (x=y):=by
 rw[Ve,h,adG,Es,<-h,Es]
def ob{α β o x}{f:α->Option β}{r}(h:o=ab x)(k:f x=r):ag o f=r:=by rw[h];exact k
def aeK{f:Type}(l:List f)(p:Nat->f->Bool) :
  (∃i x,l[i]?=ab x/\p i x=true/\∀j y,j<i->l[j]?=ab y->p j y=false)\/∀i x,l[i]?=ab x->p i x=false:=by
 by_cases h:∃i x,l[i]?=ab x/\p i x=true
 .left;have key:∀n i x,i<=n->l[i]?=ab x->p i x=true->∃i x,l[i]?=ab x/\p i x=true/\∀j y,j<i->l[j]?=ab y->p j y=false:=by
   intro n;induction n with
   | zero =>
     intro i x g a b;obtain rfl:i=0:=ai;exact⟨0,x,a,b,λj y d=>ai⟩
   | succ n m =>
     intro i x g a b;by_cases k:∃j y,j<i/\l[j]?=ab y/\p j y=true
     .obtain⟨j,y,d,e,c⟩:=k;exact m j y ai e c
     .refine⟨i,x,a,b,λj y d e=>?_⟩;cases c:p j y with
      | false=>rfl
      | true=>exact absurd ⟨j,y,d,e,c⟩ k
  obtain⟨i,x,a,b⟩:=h;exact key i i x (cp _) a b
 .right;intro i x a;cases c:p i x with
  | false=>rfl
  | true=>exact absurd ⟨i,x,a,c⟩ h
def iK{o S R:Type}{f}(l:List o)(b:Int->S)(p:Nat->o->Bool)(c:Nat->o->R) d (s:l.length<=4294967296)
  (a:∀i x,l[i]?=ab x->i<l.length->aH .i64 i 1=((i+1:Nat):Int)->f (b i)=ab (if p i x=true then .inr (c i x) else .inl (b ((i+1:Nat):Int))))
  (g:f (b (l.length:Int))=ab (.inr d)) :
  (∃i x,l[i]?=ab x/\p i x=true/\(∀j y,j<i->l[j]?=ab y->p j y=false)/\Loop f (b 0)=ab (c i x))\/((∀i x,l[i]?=ab x->p i x=false)/\Loop f (b 0)=ab d):=by
 have h:∀i x,l[i]?=ab x->p i x=false->f _=ab (.inl<|b _):=λi x e n=>by
  have hi:=aF e;rw[a i x e hi<|aL ai,n];rfl
 rcases aeK l p with ⟨i,x,e,n,k⟩|r
 .left;refine⟨i,x,e,n,k,?_⟩;have hi:=aF e;refine dh i (λj=>b j) (λj q=>?_) ?_
  .have m:j<l.length:=ai;exact h j l[j] (ik m) (k j _ q<|ik m)
  .rw[a i x e hi<|aL ai,n];rfl
 .right;refine⟨r,dh l.length (λj=>b j) (λj k=>?_) g⟩;exact h j l[j] (ik k) (r j _<|ik k)
def rS{o S R:Type}{f}(l:List o) n (mk:Int->S) (p:Nat->o->Bool) (a:Nat->o->R) (b:Nat->R) (t:min n l.length<=4294967296)
  (c:∀i x,l[i]?=ab x->i<l.length->i<n->aH .i64 i 1=((i+1:Nat):Int)->f (mk i)=ab (if p i x=true then .inr (a i x) else .inl (mk ((i+1:Nat):Int))))
  (d:f (mk ((min n l.length:Nat):Int))=ab (.inr<|b<|min n l.length)) :
  (∃i x,i<n/\l[i]?=ab x/\p i x=true/\(∀j y,j<i->l[j]?=ab y->p j y=false)/\Loop f (mk 0)=ab (a i x))\/((∀i x,i<n->l[i]?=ab x->p i x=false)/\Loop f (mk 0)=ab (b<|min n l.length)):=by
 have k:∀i x,(l.take n)[i]?=ab x↔(i<n/\l[i]?=ab x):=λi x=>by
  rw[jP];by_cases h:i<n
  .simp
  .simp
 have hlen:(l.take n).length=min n l.length:=kC;rcases iK _ mk p a _ (by rw[hlen];exact t) (λi x e s g=>by
  obtain⟨q,m⟩:=(k i x).1 e;exact c i x m (aF m) q g) (by rw[hlen];exact d) with ⟨i,x,e,u,v,h⟩|⟨w,h⟩
 .obtain⟨q,m⟩:=(k i x).1 e;exact .inl ⟨i,x,q,m,u,λj y r z=>v j y r ((k j y).2 ⟨ai,z⟩),h⟩
 .exact .inr ⟨λi x s e=>w i x ((k i x).2 ⟨s,e⟩),h⟩
def zr{u k S R:Type}{f}(l:List u)(m:k->Int->S)(d:k->Nat->u->k)(h:k->R)(c:k->Nat->Prop)(D:l.length<=4294967296)
  (j:∀s i x,l[i]?=ab x->i<l.length->aH .i64 i 1=((i+1:Nat):Int)->c s i->f (m s i)=ab (.inl<|m (d s i x) ((i+1:Nat):Int))/\c (d s i x) (i+1))
  (n:∀s,c s l.length->f (m s (l.length:Int))=ab (.inr<|h s)) s (y:c s 0):∃t,c t l.length/\Loop f (m s 0)=ab (h t)/\t=(l.zipIdx).foldl (λa p=>d a p.2 p.1) s:=by
 have key:∀e b s,l=b++e->c s b.length->∃t,c t l.length/\Loop f (m s b.length)=ab (h t)/\t=(e.zipIdx b.length).foldl (λa p=>d a p.2 p.1) s:=by
  intro e;induction e with
  | nil =>
    intro b s g o;rw[zQ] at g;subst g;exact⟨s,o,by rw[aT,n s o];rfl,rfl⟩
  | cons x r z =>
    intro b s g o;have hx:l[b.length]?=ab x:=by rw[g];simp
    have q:=aF hx;obtain⟨A,B⟩:=j s b.length x hx q (aL ai) o;obtain⟨t,C,v,w⟩:=z (b++[x]) _ (by rw[g];simp) (by rw[jB];exact B);rw[jB] at v w;exact⟨t,C,by rw[aT,A];exact v,w⟩
 exact key l [] s rfl y
def rT{e h S R:Type}{f:S->Option (S⊕R)}(l:List e)(b:List h->Int->S) g fin (k:l.length<=4294967296)
  (a:∀i x,l[i]?=ab x->i<l.length->aH .i64 i 1=((i+1:Nat):Int)->f (b ((l.take i).flatMap g) i)=ab (.inl<|b ((l.take i).flatMap g++g x) ((i+1:Nat):Int)))
  (c:f (b (l.flatMap g) (l.length:Int))=ab (.inr fin)):Loop f (b [] 0)=ab fin:=by
 refine dh l.length (λj=>b ((l.take j).flatMap g) j) (λj d=>?_) (by simp;exact c);have hx:=ik d;have:=a j l[j] hx d (aL ai);rw[this,Er,hx,List.flatMap_append];simp
def cN{α}{l:List α}(h:l.length<=4294967296):fits (len l)=true:=abn h
def bz{a:Type}{l:List a}{x}:x∈l↔∃i:Nat,l[i]?=ab x:=by rw[P2]
end Go.Ge
namespace Go.Ge
abbrev Sb:=ay
variable [Lp]
def fI:(Ty.pair .str<|.pair (.int .u8) .unit).den->Option (Ty.pair (.int .i64) .unit).den:=λx=>ab (Lib.indexByte x.1 (show Int from x.2.1).toNat.toUInt8,())
def gi(s:ay)(c:Int):Option ay:=if c<0\/140737488355328<s.length*c.toNat then ah else ab (Lib.repeatL s c.toNat)
def oO:ay×Int×al->Option (ay×al):=λx=>(gi x.1 x.2.1).map λy=>(y,())
def sO{s:ay}{c:Int}{y:ay}(h:gi s c=ab y):0<=c/\s.length*c.toNat<=140737488355328/\y=Lib.repeatL s c.toNat:=by
 unfold gi at h;split at h
 .cases h
 .next a =>
  have:=aQ h;exact⟨ai,ai,this.symm⟩
def B8{s:ay}{c:Int}{y:ay}(h:gi s c=ab y):y.length<=maxLen:=by
 obtain⟨_,a,rfl⟩:=sO h;rw[Lib.repeatL_length,T2];exact iU a aK
def vg:ay×ay×al->Option ((List ay)×al):=λx=>(C7 x.1 x.2.1).map λy=>(y,())
def lf:(List ay)×ay×al->Option (ay×al):=λx=>(EK x.1 x.2.1).map λy=>(y,())
set_option maxRecDepth 100000
abbrev EM:=((Bool×(List<|Int)×al)×(List<|Int)×Int×al)
abbrev MG:=(((Int×al)×(List<|Int)×al)⊕((Int×al)×(List<|Int)×al))
abbrev ag4:=(Int×Int×Int×Int×Int×Int×Int×Int×Int×al)
abbrev Sn:=((List<|Int)×al)
def uM(x:al):Option Sn :=
 ab (([(1779033703:Int),3144134277,1013904242,2773480762,1359893119,2600822924,528734635,1541459225]:List (Int)),())
def B9(x:al):Option Sn :=
 ab (([(1116352408:Int),1899447441,3049323471,3921009573,961987163,1508970993,2453635748,2870763221,3624381080,310598401,607225278,1426881987,1925078388,2162078206,2614888103,3248222580,3835390401,4022224774,264347078,604807628,770255983,1249150122,1555081692,1996064986,2554220882,2821834349,2952996808,3210313671,3336571891,3584528711,113926993,338241895,666307205,773529912,1294757372,1396182291,1695183700,1986661051,2177026350,2456956037,2730485921,2820302411,3259730800,3345764771,3516065817,3600352804,4094571909,275423344,430227734,506948616,659060556,883997877,958139571,1322822218,1537002063,1747873779,1955562222,2024104815,2227730452,2361852424,2428436474,2756734187,3204031479,3329325298]:List (Int)),())
def kr(x:Int×Int×al):Option (Int×al) :=
 ao (ba (jR IntKind.u64 (kE IntKind.u64 x.2.1) 31) 0)
 ah
 (ao (ba (da IntKind.u64 32<|jR IntKind.u64 (kE IntKind.u64 x.2.1) 31) 0)
 ah
 (ab (zM u32 (nR u32 x.1<|jR IntKind.u64 (kE IntKind.u64 x.2.1) 31)<|mz u32 x.1<|da IntKind.u64 32<|jR IntKind.u64 (kE IntKind.u64 x.2.1) 31,())))
def cq(x:Int×Int×al):Option (Int×al) :=
 ag (kr (x.1,da i64 0 x.2.1,())) (λa=>ab (a.1,()))
def jW(x:(List<|Int)×al)(a:(Int×al)×(List<|Int)×al)(b:(Int×al)×(List<|Int)×al):Option MG :=
 dq (ao (ba b.1.1<|minus (aH i64 (jD i64 4 a.1.1) 4)<|jD i64 4 a.1.1)
 (ao (within b.1.1<|minus (aH i64 (jD i64 4 a.1.1) 4)<|jD i64 4 a.1.1)
 (ag (idx x.1<|plus (jD i64 4 a.1.1) b.1.1) λc=>ao (within a.1.1 64)
 (ag (idx b.2.1 a.1.1) λd=>ao (ba 8 0)
 ah
 (ao (within a.1.1 64)
 (ag (idx b.2.1 a.1.1) λe=>ag (idx b.2.1 a.1.1) λf=>ag (idx b.2.1 a.1.1) λg=>ab (Sum.inl ((aH i64 b.1.1 1,()),lP b.2.1 a.1.1<|zM u32 (nR u32 d 8)<|kE u32 c,())))
 ah))
 ah)
 ah)
 (ab<|Sum.inr (0,(b.1.1,()),b.2.1,())))
def ny(x:(List<|Int)×al)(a:(Int×al)×(List<|Int)×al):Option MG :=
 dq (ao (ba a.1.1 16)
 (ao (inside (jD i64 4 a.1.1) (aH i64 (jD i64 4 a.1.1) 4) 64)
 (ag (Loop (jW x a) (((0:Int),()),a.2.1,())) λb=>ab (Sum.inl ((aH i64 a.1.1 1,()),b.2.1,())))
 ah)
 (ab<|Sum.inr (0,(a.1.1,()),a.2.1,())))
def nz(a:(Int×al)×(List<|Int)×al):Option MG :=
 dq (ao (ba a.1.1 64)
 (ao (within (da i64 a.1.1 2) 64)
 (ag (idx a.2.1<|da i64 a.1.1 2) λb=>ao (within (da i64 a.1.1 15) 64)
 (ag (idx a.2.1<|da i64 a.1.1 15) λc=>ag (cq (c,(7:Int),())) λe=>ag (cq (c,(18:Int),())) λf=>ao (ba 3 0)
 ah
 (ag (cq (b,(17:Int),())) λg=>ag (cq (b,(19:Int),())) λh=>ao (ba 10 0)
 ah
 (ao (within (da i64 a.1.1 7) 64)
 (ag (idx a.2.1<|da i64 a.1.1 7) λi=>ao (within (da i64 a.1.1 16) 64)
 (ag (idx a.2.1<|da i64 a.1.1 16) λd=>ao (within a.1.1 64)
 (ag (idx a.2.1 a.1.1) λj=>ag (idx a.2.1 a.1.1) λk=>ag (idx a.2.1 a.1.1) λl=>ab (Sum.inl ((aH i64 a.1.1 1,()),lP a.2.1 a.1.1<|aH u32 (aH u32 (aH u32 (gM u32 (gM u32 g.1 h.1)<|mz u32 b 10) i)<|gM u32 (gM u32 e.1 f.1)<|mz u32 c 3) d,())))
 ah)
 ah)
 ah)))
 ah)
 ah)
 (ab<|Sum.inr (0,(a.1.1,()),a.2.1,())))
def rU(x:(List<|Int)×al):Option Sn :=
 ag (Loop (ny x) (((0:Int),()),([(0:Int),0,0,0,0,0,0,0,0,0,0,0,0,0,0,0,0,0,0,0,0,0,0,0,0,0,0,0,0,0,0,0,0,0,0,0,0,0,0,0,0,0,0,0,0,0,0,0,0,0,0,0,0,0,0,0,0,0,0,0,0,0,0,0]:List (Int)),())) (λa=>ag (Loop (nz) (((16:Int),()),a.2.1,())) λb=>ab (b.2.1,()))
def kI(j:(List<|Int)×al)(k:(List<|Int)×al)(a:ag4×al):Option ((ag4×al)⊕(ag4×al)) :=
 dq (ao (ba a.1.2.2.2.2.2.2.2.2.1 64)
 (ag (cq (a.1.2.2.2.2.1,(6:Int),())) λb=>ag (cq (a.1.2.2.2.2.1,(11:Int),())) λc=>ag (cq (a.1.2.2.2.2.1,(25:Int),())) λd=>ao (within a.1.2.2.2.2.2.2.2.2.1 64)
 (ag (idx j.1 a.1.2.2.2.2.2.2.2.2.1) λe=>ao (within a.1.2.2.2.2.2.2.2.2.1 64)
 (ag (idx k.1 a.1.2.2.2.2.2.2.2.2.1) λf=>ag (cq (a.1.1,(2:Int),())) λg=>ag (cq (a.1.1,(13:Int),())) λh=>ag (cq (a.1.1,(22:Int),())) λi=>ab (Sum.inl ((aH u32 (aH u32 (aH u32 (aH u32 (aH u32 a.1.2.2.2.2.2.2.2.1<|gM u32 (gM u32 b.1 c.1) d.1)<|gM u32 a.1.2.2.2.2.2.2.1<|jR u32 a.1.2.2.2.2.1<|gM u32 a.1.2.2.2.2.2.1 a.1.2.2.2.2.2.2.1) e) f)<|aH u32 (gM u32 (gM u32 g.1 h.1) i.1)<|zM u32 (jR u32 a.1.1 a.1.2.1)<|jR u32 a.1.2.2.1<|zM u32 a.1.1 a.1.2.1,a.1.1,a.1.2.1,a.1.2.2.1,aH u32 a.1.2.2.2.1<|aH u32 (aH u32 (aH u32 (aH u32 a.1.2.2.2.2.2.2.2.1<|gM u32 (gM u32 b.1 c.1) d.1)<|gM u32 a.1.2.2.2.2.2.2.1<|jR u32 a.1.2.2.2.2.1<|gM u32 a.1.2.2.2.2.2.1 a.1.2.2.2.2.2.2.1) e) f,a.1.2.2.2.2.1,a.1.2.2.2.2.2.1,a.1.2.2.2.2.2.2.1,aH i64 a.1.2.2.2.2.2.2.2.2.1 1,()),())))
 ah)
 ah)
 (ab<|Sum.inr (0,(a.1.1,a.1.2.1,a.1.2.2.1,a.1.2.2.2.1,a.1.2.2.2.2.1,a.1.2.2.2.2.2.1,a.1.2.2.2.2.2.2.1,a.1.2.2.2.2.2.2.2.1,a.1.2.2.2.2.2.2.2.2.1,()),())))
def hW(b:ag4×al)(a:(Int×al)×EM×al):Option (((Int×al)×EM×al)⊕((Int×al)×EM×al)) :=
 dq (ao (ba a.1.1 8)
 (ag (idx ([b.1.1,b.1.2.1,b.1.2.2.1,b.1.2.2.2.1,b.1.2.2.2.2.1,b.1.2.2.2.2.2.1,b.1.2.2.2.2.2.2.1,b.1.2.2.2.2.2.2.2.1]:List (Int)) a.1.1) λc=>ao (within a.1.1 8)
 (ag (idx a.2.1.1.2.1 a.1.1) λd=>ao (within a.1.1 8)
 (ag (idx a.2.1.1.2.1 a.1.1) λe=>ag (idx a.2.1.1.2.1 a.1.1) λf=>ag (idx a.2.1.1.2.1 a.1.1) λg=>ab (Sum.inl ((aH i64 a.1.1 1,()),((a.2.1.1.1,lP a.2.1.1.2.1 a.1.1<|aH u32 d c,a.2.1.1.2.2),a.2.1.2),())))
 ah)
 ah)
 (ab<|Sum.inr (0,(a.1.1,()),a.2.1,())))
def fQ(a:(Sb×al)×EM×al):Option (((Sb×al)×EM×al)⊕((Sb×al)×EM×al)) :=
 dq (ao (nt<|bH a.1.1 ([]:ay))
 (ao (aS 64 0)
 ah
 (ao (inside (jQ a.2.1.2.2.1 64) 64 64)
 (ao (inside (len<|@iW Int (aC a.1.1)<|minus 64<|jQ a.2.1.2.2.1 64) (len a.1.1)<|len a.1.1)
 (ag (ao (aS (aH i64 (jQ a.2.1.2.2.1 64)<|len<|@iW Int (aC a.1.1)<|minus 64<|jQ a.2.1.2.2.1 64) 64)
 (ag (ao (nt a.2.1.1.1)
 (ag (uM ()) λb=>ab ((),((true,b.1,a.2.1.1.2.2),over a.2.1.2.1 (jQ a.2.1.2.2.1 64)<|@iW Int (aC a.1.1)<|minus 64<|jQ a.2.1.2.2.1 64,aH i64 a.2.1.2.2.1<|len<|@iW Int (aC a.1.1)<|minus 64<|jQ a.2.1.2.2.1 64,a.2.1.2.2.2),()))
 (ab ((),(a.2.1.1,over a.2.1.2.1 (jQ a.2.1.2.2.1 64)<|@iW Int (aC a.1.1)<|minus 64<|jQ a.2.1.2.2.1 64,aH i64 a.2.1.2.2.1<|len<|@iW Int (aC a.1.1)<|minus 64<|jQ a.2.1.2.2.1 64,a.2.1.2.2.2),()))) λb=>ag (B9 ()) λh=>ag (rU (over a.2.1.2.1 (jQ a.2.1.2.2.1 64)<|@iW Int (aC a.1.1)<|minus 64<|jQ a.2.1.2.2.1 64,())) λi=>ao (within 0 8)
 (ag (idx b.2.1.1.2.1 (0:Int)) λj=>ao (within 1 8)
 (ag (idx b.2.1.1.2.1 (1:Int)) λk=>ao (within 2 8)
 (ag (idx b.2.1.1.2.1 (2:Int)) λl=>ao (within 3 8)
 (ag (idx b.2.1.1.2.1 (3:Int)) λm=>ao (within 4 8)
 (ag (idx b.2.1.1.2.1 (4:Int)) λn=>ao (within 5 8)
 (ag (idx b.2.1.1.2.1 (5:Int)) λc=>ao (within 6 8)
 (ag (idx b.2.1.1.2.1 (6:Int)) λd=>ao (within 7 8)
 (ag (idx b.2.1.1.2.1 (7:Int)) λe=>ag (Loop (kI h i) ((j,k,l,m,n,c,d,e,(0:Int),()),())) λf=>ag (Loop (hW f) (((0:Int),()),b.2.1,())) λg=>ab ((),g.2.1,()))
 ah)
 ah)
 ah)
 ah)
 ah)
 ah)
 ah)
 ah)
 (ab ((),(a.2.1.1,over a.2.1.2.1 (jQ a.2.1.2.2.1 64)<|@iW Int (aC a.1.1)<|minus 64<|jQ a.2.1.2.2.1 64,aH i64 a.2.1.2.2.1<|len<|@iW Int (aC a.1.1)<|minus 64<|jQ a.2.1.2.2.1 64,a.2.1.2.2.2),()))) λb=>ab (Sum.inl ((sub a.1.1 (len<|@iW Int (aC a.1.1)<|minus 64<|jQ a.2.1.2.2.1 64)<|minus (len a.1.1)<|len<|@iW Int (aC a.1.1)<|minus 64<|jQ a.2.1.2.2.1 64,()),b.2.1,())))
 ah)
 ah))
 (ab<|Sum.inr (0,(a.1.1,()),a.2.1,())))
def gj(x:(Sb×al)×EM×al):Option (al×EM×al) :=
 ag (Loop (fQ) ((x.1.1,()),x.2.1,())) (λa=>ab ((),a.2.1,()))
def eR(a:al×EM×al):Option ((al×EM×al)⊕(al×EM×al)) :=
 dq (ao (aS 64 0)
 ah
 (ao (nt<|aS (jQ a.2.1.2.2.1 64) 56)
 (ag (gj ((([0]:ay),()),a.2.1,())) λb=>ab (Sum.inl ((),b.2.1,())))
 (ab<|Sum.inr (0,(),a.2.1,()))))
def kJ(x:al×EM×al)(a:(Int×al)×(List<|Int)×al):Option MG :=
 dq (ao (ba a.1.1 8)
 (ao (ba (jD i64 8 a.1.1) 0)
 ah
 (ao (within (da i64 7 a.1.1) 8)
 (ag (idx a.2.1<|da i64 7 a.1.1) λb=>ag (idx a.2.1<|da i64 7 a.1.1) λc=>ag (idx a.2.1<|da i64 7 a.1.1) λd=>ab (Sum.inl ((aH i64 a.1.1 1,()),lP a.2.1 (da i64 7 a.1.1)<|kE IntKind.u8<|mz IntKind.u64 (jD IntKind.u64 (kE IntKind.u64<|((((((),x.2.1,()).2).1).2).2).1) 8)<|jD i64 8 a.1.1,())))
 ah))
 (ab<|Sum.inr (0,(a.1.1,()),a.2.1,())))
def kK(b:al×EM×al)(a:(Int×al)×(List<|Int)×al):Option MG :=
 dq (ao (ba a.1.1 32)
 (ao (aS 4 0)
 ah
 (ao (within (Lq i64 a.1.1 4) 8)
 (ag (idx b.2.1.1.2.1<|Lq i64 a.1.1 4) λc=>ao (aS 4 0)
 ah
 (ao (ba (da i64 24<|jD i64 8<|jQ a.1.1 4) 0)
 ah
 (ao (within a.1.1 32)
 (ag (idx a.2.1 a.1.1) λd=>ag (idx a.2.1 a.1.1) λe=>ag (idx a.2.1 a.1.1) λf=>ab (Sum.inl ((aH i64 a.1.1 1,()),lP a.2.1 a.1.1<|kE IntKind.u8<|mz u32 c<|da i64 24<|jD i64 8<|jQ a.1.1 4,())))
 ah)))
 ah))
 (ab<|Sum.inr (0,(a.1.1,()),a.2.1,())))
def oP(x:al×EM×al):Option (Sn×EM×al) :=
 ag (gj ((bu ([(128:Int)]:List (Int)),()),(((),x.2.1,()).2).1,())) (λa=>ag (Loop (eR) ((),a.2.1,())) λb=>ag (Loop (kJ x) (((0:Int),()),([(0:Int),0,0,0,0,0,0,0]:List (Int)),())) λc=>ao (inside 0 8 8)
 (ag (gj ((bu<|sub c.2.1 (0:Int)<|minus 8 0,()),b.2.1,())) λd=>ag (Loop (kK d) (((0:Int),()),([(0:Int),0,0,0,0,0,0,0,0,0,0,0,0,0,0,0,0,0,0,0,0,0,0,0,0,0,0,0,0,0,0,0]:List (Int)),())) λe=>ab ((e.2.1,()),x.2.1,()))
 ah)
def Da(x:Sb×al):Option Sn :=
 ag (gj ((x.1,()),((false,([(0:Int),0,0,0,0,0,0,0]:List (Int)),()),([(0:Int),0,0,0,0,0,0,0,0,0,0,0,0,0,0,0,0,0,0,0,0,0,0,0,0,0,0,0,0,0,0,0,0,0,0,0,0,0,0,0,0,0,0,0,0,0,0,0,0,0,0,0,0,0,0,0,0,0,0,0,0,0,0,0]:List (Int)),(0:Int),()),())) (λa=>ag (oP ((),a.2.1,())) λb=>ab (b.1.1,()))
def yJ(x:al):Option Sn :=
 ab (([(1779033703:Int),3144134277,1013904242,2773480762,1359893119,2600822924,528734635,1541459225]:List (Int)),())
def lg(a:(al×al)×(List<|Int)×al):Option (((al×al)×(List<|Int)×al)⊕((al×al)×(List<|Int)×al)) :=
 dq (ao (aS 64 0)
 ah
 (ao (nt<|aS (jQ (len a.2.1) 64) 56)
 (ao (fits<|plus (len a.2.1)<|len ([(0:Int)]:List (Int)))
 (ab<|Sum.inl (((),()),app a.2.1 ([(0:Int)]:List (Int)),()))
 ah)
 (ab<|Sum.inr (0,((),()),a.2.1,()))))
def fl(x:Sb×al)(a:(al×Int×al)×(List<|Int)×al):Option (((al×Int×al)×(List<|Int)×al)⊕((al×Int×al)×(List<|Int)×al)) :=
 dq (ao (cu 0 a.1.2.1)
 (ao (ba (jD i64 8 a.1.2.1) 0)
 ah
 (ao (fits<|plus (len a.2.1)<|len ([kE IntKind.u8<|mz IntKind.u64 (jD IntKind.u64 (kE IntKind.u64<|len x.1) 8)<|jD i64 8 a.1.2.1]:List (Int)))
 (ab<|Sum.inl (((),da i64 a.1.2.1 1,()),app a.2.1 ([kE IntKind.u8<|mz IntKind.u64 (jD IntKind.u64 (kE IntKind.u64<|len x.1) 8)<|jD i64 8 a.1.2.1]:List (Int)),()))
 ah))
 (ab<|Sum.inr (0,((),a.1.2.1,()),a.2.1,())))
def tN(x:Sb×al):Option (Sb×al) :=
 ao (fits<|len x.1)
 (ao (fits<|plus (len<|aC x.1)<|len ([(128:Int)]:List (Int)))
 (ag (Loop (lg) (((),()),app (aC x.1) ([(128:Int)]:List (Int)),())) λa=>ag (Loop (fl x) (((),(7:Int),()),a.2.1,())) λb=>ab (bu b.2.1,()))
 ah)
 ah
def cw(x:Int×Int×al):Option (Int×al) :=
 ao (ba x.2.1 0)
 ah
 (ao (ba (da i64 32 x.2.1) 0)
 ah
 (ab (zM u32 (mz u32 x.1 x.2.1)<|nR u32 x.1<|da i64 32 x.2.1,())))
def wW(x:al):Option Sn :=
 ab (([(1116352408:Int),1899447441,3049323471,3921009573,961987163,1508970993,2453635748,2870763221,3624381080,310598401,607225278,1426881987,1925078388,2162078206,2614888103,3248222580,3835390401,4022224774,264347078,604807628,770255983,1249150122,1555081692,1996064986,2554220882,2821834349,2952996808,3210313671,3336571891,3584528711,113926993,338241895,666307205,773529912,1294757372,1396182291,1695183700,1986661051,2177026350,2456956037,2730485921,2820302411,3259730800,3345764771,3516065817,3600352804,4094571909,275423344,430227734,506948616,659060556,883997877,958139571,1322822218,1537002063,1747873779,1955562222,2024104815,2227730452,2361852424,2428436474,2756734187,3204031479,3329325298]:List (Int)),())
def lh(x:(List<|Int)×Sb×al)(a:(Int×al)×(List<|Int)×al):Option MG :=
 dq (ao (ba a.1.1 16)
 (ag (idx x.2.1<|jD i64 4 a.1.1) λb=>ao (ba 24 0)
 ah
 (ag (idx x.2.1<|aH i64 (jD i64 4 a.1.1) 1) λc=>ao (ba 16 0)
 ah
 (ag (idx x.2.1<|aH i64 (jD i64 4 a.1.1) 2) λd=>ao (ba 8 0)
 ah
 (ag (idx x.2.1<|aH i64 (jD i64 4 a.1.1) 3) λe=>ao (within a.1.1 64)
 (ag (idx a.2.1 a.1.1) λf=>ag (idx a.2.1 a.1.1) λg=>ag (idx a.2.1 a.1.1) λh=>ab (Sum.inl ((aH i64 a.1.1 1,()),lP a.2.1 a.1.1<|zM u32 (zM u32 (zM u32 (nR u32 (kE u32<|u8 b) 24)<|nR u32 (kE u32<|u8 c) 16)<|nR u32 (kE u32<|u8 d) 8)<|kE u32<|u8 e,())))
 ah))))
 (ab<|Sum.inr (0,(a.1.1,()),a.2.1,())))
def oQ(a:(Int×al)×(List<|Int)×al):Option MG :=
 dq (ao (ba a.1.1 64)
 (ao (within (da i64 a.1.1 2) 64)
 (ag (idx a.2.1<|da i64 a.1.1 2) λb=>ao (within (da i64 a.1.1 15) 64)
 (ag (idx a.2.1<|da i64 a.1.1 15) λc=>ag (cw (b,(17:Int),())) λe=>ag (cw (b,(19:Int),())) λf=>ao (ba 10 0)
 ah
 (ao (within (da i64 a.1.1 7) 64)
 (ag (idx a.2.1<|da i64 a.1.1 7) λg=>ag (cw (c,(7:Int),())) λh=>ag (cw (c,(18:Int),())) λi=>ao (ba 3 0)
 ah
 (ao (within (da i64 a.1.1 16) 64)
 (ag (idx a.2.1<|da i64 a.1.1 16) λd=>ao (within a.1.1 64)
 (ag (idx a.2.1 a.1.1) λj=>ag (idx a.2.1 a.1.1) λk=>ag (idx a.2.1 a.1.1) λl=>ab (Sum.inl ((aH i64 a.1.1 1,()),lP a.2.1 a.1.1<|aH u32 (aH u32 (aH u32 (gM u32 (gM u32 e.1 f.1)<|mz u32 b 10) g)<|gM u32 (gM u32 h.1 i.1)<|mz u32 c 3) d,())))
 ah)
 ah))
 ah))
 ah)
 ah)
 (ab<|Sum.inr (0,(a.1.1,()),a.2.1,())))
def lj(z:(Int×al)×(List<|Int)×al)(A:(List<|Int)×al)(a:(Int×al)×(List<|Int)×al):Option MG :=
 dq (ao (ba a.1.1 64)
 (ao (within 4 8)
 (ag (idx a.2.1 (4:Int)) λb=>ao (within 0 8)
 (ag (idx a.2.1 (0:Int)) λc=>ao (within 7 8)
 (ag (idx a.2.1 (7:Int)) λw=>ag (cw (b,(6:Int),())) λx=>ag (cw (b,(11:Int),())) λy=>ag (cw (b,(25:Int),())) λd=>ao (within 5 8)
 (ag (idx a.2.1 (5:Int)) λe=>ao (within 6 8)
 (ag (idx a.2.1 (6:Int)) λf=>ao (within a.1.1 64)
 (ag (idx A.1 a.1.1) λg=>ao (within a.1.1 64)
 (ag (idx z.2.1 a.1.1) λh=>ag (cw (c,(2:Int),())) λi=>ag (cw (c,(13:Int),())) λj=>ag (cw (c,(22:Int),())) λk=>ao (within 1 8)
 (ag (idx a.2.1 (1:Int)) λl=>ao (within 2 8)
 (ag (idx a.2.1 (2:Int)) λm=>ao (within 1 8)
 (ag (idx a.2.1 (1:Int)) λn=>ao (within 2 8)
 (ag (idx a.2.1 (2:Int)) λo=>ao (within 0 8)
 (ag (idx a.2.1 (0:Int)) λp=>ao (within 1 8)
 (ag (idx a.2.1 (1:Int)) λq=>ao (within 2 8)
 (ag (idx a.2.1 (2:Int)) λr=>ao (within 3 8)
 (ag (idx a.2.1 (3:Int)) λs=>ao (within 4 8)
 (ag (idx a.2.1 (4:Int)) λt=>ao (within 5 8)
 (ag (idx a.2.1 (5:Int)) λu=>ao (within 6 8)
 (ag (idx a.2.1 (6:Int)) λv=>ab (Sum.inl ((aH i64 a.1.1 1,()),([aH u32 (aH u32 (aH u32 (aH u32 (aH u32 w<|gM u32 (gM u32 x.1 y.1) d.1)<|gM u32 (jR u32 b e)<|jR u32 (gM u32 4294967295 b) f) g) h)<|aH u32 (gM u32 (gM u32 i.1 j.1) k.1)<|gM u32 (gM u32 (jR u32 c l)<|jR u32 c m)<|jR u32 n o,p,q,r,aH u32 s (aH u32 (aH u32 (aH u32 (aH u32 w<|gM u32 (gM u32 x.1 y.1) d.1)<|gM u32 (jR u32 b e)<|jR u32 (gM u32 4294967295 b) f) g) h),t,u,v]:List (Int)),())))
 ah)
 ah)
 ah)
 ah)
 ah)
 ah)
 ah)
 ah)
 ah)
 ah)
 ah)
 ah)
 ah)
 ah)
 ah)
 ah)
 ah)
 ah)
 (ab<|Sum.inr (0,(a.1.1,()),a.2.1,())))
def oR(x:(List<|Int)×Sb×al)(a:(Int×al)×(List<|Int)×al):Option MG :=
 dq (ao (ba a.1.1 8)
 (ao (within a.1.1 8)
 (ag (idx a.2.1 a.1.1) λb=>ao (within a.1.1 8)
 (ag (idx x.1 a.1.1) λc=>ao (within a.1.1 8)
 (ag (idx a.2.1 a.1.1) λe=>ag (idx a.2.1 a.1.1) λf=>ag (idx a.2.1 a.1.1) λd=>ab (Sum.inl ((aH i64 a.1.1 1,()),lP a.2.1 a.1.1<|aH u32 b c,())))
 ah)
 ah)
 ah)
 (ab<|Sum.inr (0,(a.1.1,()),a.2.1,())))
def tO(x:(List<|Int)×Sb×al):Option Sn :=
 ag (Loop (lh x) (((0:Int),()),([(0:Int),0,0,0,0,0,0,0,0,0,0,0,0,0,0,0,0,0,0,0,0,0,0,0,0,0,0,0,0,0,0,0,0,0,0,0,0,0,0,0,0,0,0,0,0,0,0,0,0,0,0,0,0,0,0,0,0,0,0,0,0,0,0,0]:List (Int)),())) (λa=>ag (Loop (oQ) (((16:Int),()),a.2.1,())) λb=>ag (wW ()) λc=>ag (Loop (lj b c) (((0:Int),()),x.1,())) λd=>ag (Loop (oR x) (((0:Int),()),d.2.1,())) λe=>ab (e.2.1,()))
def n8(b:Sb×al)(a:(Int×al)×(List<|Int)×al):Option MG :=
 dq (ao (cu (aH i64 a.1.1 64)<|len b.1)
 (ao (inside a.1.1 (aH i64 a.1.1 64)<|len b.1)
 (ag (tO (a.2.1,sub b.1 a.1.1<|minus (aH i64 a.1.1 64) a.1.1,())) λc=>ab (Sum.inl ((aH i64 a.1.1 64,()),c.1,())))
 ah)
 (ab<|Sum.inr (0,(a.1.1,()),a.2.1,())))
def rV(b:(Int×al)×(List<|Int)×al)(a:(Int×al)×(List<|Int)×al):Option MG :=
 dq (ao (ba a.1.1 32)
 (ao (aS 4 0)
 ah
 (ao (within (Lq i64 a.1.1 4) 8)
 (ag (idx b.2.1<|Lq i64 a.1.1 4) λc=>ao (aS 4 0)
 ah
 (ao (ba (da i64 24<|jD i64 8<|jQ a.1.1 4) 0)
 ah
 (ao (within a.1.1 32)
 (ag (idx a.2.1 a.1.1) λd=>ag (idx a.2.1 a.1.1) λe=>ag (idx a.2.1 a.1.1) λf=>ab (Sum.inl ((aH i64 a.1.1 1,()),lP a.2.1 a.1.1<|kE IntKind.u8<|mz u32 c<|da i64 24<|jD i64 8<|jQ a.1.1 4,())))
 ah)))
 ah))
 (ab<|Sum.inr (0,(a.1.1,()),a.2.1,())))
def x5(x:Sb×al):Option Sn :=
 ag (yJ ()) (λa=>ag (tN (x.1,())) λb=>ag (Loop (n8 b) (((0:Int),()),a.1,())) λc=>ag (Loop (rV c) (((0:Int),()),([(0:Int),0,0,0,0,0,0,0,0,0,0,0,0,0,0,0,0,0,0,0,0,0,0,0,0,0,0,0,0,0,0,0]:List (Int)),())) λd=>ab (d.2.1,()))
end Go.Ge
namespace Go.Ge
variable [Lp]
set_option maxRecDepth 100000
def mD(x:Sb×al)(a:(Int×al)×(al×al×al)×(List<|Int)×al):Option (((Int×al)×(al×al×al)×(List<|Int)×al)⊕((Int×al)×(al×al×al)×(List<|Int)×al)) :=
 dq (ao (ba a.1.1<|len<|aC x.1)
 (ao (within a.1.1<|len<|aC x.1)
 (ag (idx (aC x.1) a.1.1) λc=>ao (ba 4 0)
 ah
 (ag (idx ([48,49,50,51,52,53,54,55,56,57,97,98,99,100,101,102]:ay)<|mz IntKind.u8 c 4) λb=>ao (fits<|plus (len a.2.2.1)<|len ([u8 b]:List (Int)))
 (ag (idx ([48,49,50,51,52,53,54,55,56,57,97,98,99,100,101,102]:ay)<|jR IntKind.u8 c 15) λd=>ao (fits<|plus (len<|app a.2.2.1 ([u8 b]:List (Int)))<|len ([u8 d]:List (Int)))
 (ab<|Sum.inl ((aH i64 a.1.1 1,()),((),(),a.2.1.2.2),app (app a.2.2.1 ([u8 b]:List (Int))) ([u8 d]:List (Int)),()))
 ah)
 ah))
 ah)
 (ab<|Sum.inr (0,(a.1.1,()),((),(),a.2.1.2.2),a.2.2.1,())))
def l9(x:Sb×al):Option (Sb×al) :=
 ao (fits<|len x.1)
 (ag (Loop (mD x) (((0:Int),()),((),(),()),([]:List (Int)),())) λa=>ab (bu a.2.2.1,()))
 ah
def n9(x:Sb×al):Option (Sb×al) :=
 ag (Da (x.1,())) (λb=>ao (inside 0 32 32)
 (ag (l9 (bu<|sub b.1 (0:Int)<|minus 32 0,())) λa=>ao (fits<|plus (len ([115,104,97,50,53,54,58]:ay))<|len a.1)
 (ab (app ([115,104,97,50,53,54,58]:ay) a.1,()))
 ah)
 ah)
def cA(x:Sb×Sb×al):Option (Bool×al) :=
 ag (ao (cu (len x.2.1)<|len x.1)
 (ao (inside 0 (len x.2.1)<|len x.1)
 (ab<|bH (sub x.1 (0:Int)<|minus (len x.2.1) 0) x.2.1)
 ah)
 (ab false)) (λa=>ab (a,()))
def fJ(x:Sb×Sb×al):Option (Sb×Bool×al) :=
 ag (cA (x.1,x.2.1,())) (λa=>ao (nt a.1)
 (ab (x.1,false,()))
 (ao (inside (len x.2.1) (len x.1)<|len x.1)
 (ab (sub x.1 (len x.2.1)<|minus (len x.1)<|len x.2.1,true,()))
 ah))
def kL(x:Sb×Sb×al):Option (Sb×Bool×al) :=
 ag (fJ (x.1,x.2.1,())) (λa=>ab (a.1,a.2.1,()))
def dy(x:Sb×Int×al):Option (Int×al) :=
 ag (fI (x.1,x.2.1,())) (λa=>ab (a.1,()))
def nc(x:Int×al):Option (Int×al) :=
 ao (ba x.1 10)
 (ab (kE IntKind.u8<|aH i64 48 x.1,()))
 (ab (kE IntKind.u8<|da i64 (aH i64 97 x.1) 10,()))
def oa(x:Sb×al)(a:(al×Int×al)×(List<|Int)×al):Option (((al×Int×al)×(List<|Int)×al)⊕((al×Int×al)×(List<|Int)×al)) :=
 dq (ao (ba a.1.2.1<|len x.1)
 (ag (idx x.1 a.1.2.1) λd=>ao (aS 16 0)
 ah
 (ag (nc (Lq i64 (kE i64<|u8 d) 16,())) λb=>ao (fits<|plus (len a.2.1)<|len ([b.1]:List (Int)))
 (ag (idx x.1 a.1.2.1) λe=>ao (aS 16 0)
 ah
 (ag (nc (jQ (kE i64<|u8 e) 16,())) λc=>ao (fits<|plus (len<|app a.2.1 ([b.1]:List (Int)))<|len ([c.1]:List (Int)))
 (ab<|Sum.inl (((),aH i64 a.1.2.1 1,()),app (app a.2.1 ([b.1]:List (Int))) ([c.1]:List (Int)),()))
 ah))
 ah))
 (ab<|Sum.inr (0,((),a.1.2.1,()),a.2.1,())))
def x6(x:Sb×al):Option (Sb×al) :=
 ag (Loop (oa x) (((),(0:Int),()),([]:List (Int)),())) (λa=>ab (bu a.2.1,()))
def te(x:Sb×al):Option (Sb×al) :=
 ag (x5 (x.1,())) (λb=>ao (inside 0 32 32)
 (ag (x6 (bu<|sub b.1 (0:Int)<|minus 32 0,())) λa=>ao (fits<|plus (len ([115,104,97,50,53,54,58]:ay))<|len a.1)
 (ab (app ([115,104,97,50,53,54,58]:ay) a.1,()))
 ah)
 ah)
def fm(x:Int×al)(a:(Int×Int×al)×al):Option (((Int×Int×al)×al)⊕(Nat×(Int×Int×al)×al)) :=
 ao (ba a.1.2.1 16)
 (ag (nc (a.1.2.1,())) λb=>ao (aS b.1 x.1)
 (ab<|Sum.inr (1,(a.1.2.1,a.1.2.1,()),()))
 (ab<|Sum.inl ((a.1.1,aH i64 a.1.2.1 1,()),())))
 (ab<|Sum.inr (0,(a.1.1,a.1.2.1,()),()))
def pW(x:Int×al):Option (Int×al) :=
 ag (Loop (fm x) (((0:Int),(0:Int),()),())) (λa=>ao (de a.1 0)
 (ab ((-1:Int),()))
 (ab (a.2.1.1,())))
def iL(x:Sb×al)(a:(Sb×Bool×al×Int×al)×(List<|Int)×al):Option (((Sb×Bool×al×Int×al)×(List<|Int)×al)⊕(Nat×(Sb×Bool×al×Int×al)×(List<|Int)×al)) :=
 ao (ba (aH i64 a.1.2.2.2.1 1)<|len x.1)
 (ag (idx x.1 a.1.2.2.2.1) λd=>ag (pW (u8 d,())) λb=>ag (idx x.1<|aH i64 a.1.2.2.2.1 1) λe=>ag (pW (u8 e,())) λc=>ao (ao (nt<|ba b.1 0)
 (ba c.1 0)
 true)
 (ab<|Sum.inr (1,(([]:ay),false,(),a.1.2.2.2.1,()),a.2.1,()))
 (ao (fits<|plus (len a.2.1)<|len ([kE IntKind.u8<|aH i64 (jD i64 16 b.1) c.1]:List (Int)))
 (ab<|Sum.inl ((a.1.1,a.1.2.1,(),aH i64 a.1.2.2.2.1 2,()),app a.2.1 ([kE IntKind.u8<|aH i64 (jD i64 16 b.1) c.1]:List (Int)),()))
 ah))
 (ab<|Sum.inr (0,(a.1.1,a.1.2.1,(),a.1.2.2.2.1,()),a.2.1,()))
def pX(x:Sb×al):Option (Sb×Bool×al) :=
 ao (aS 2 0)
 ah
 (ao (aS (jQ (len x.1) 2) 1)
 (ab (([]:ay),false,()))
 (ag (Loop (iL x) ((([]:ay),false,(),(0:Int),()),([]:List (Int)),())) λa=>ao (de a.1 0)
 (ab (bu a.2.2.1,true,()))
 (ab (a.2.1.1,a.2.1.2.1,()))))
def fA(x:Sb×al):Option (Int×al) :=
 ag (ao (nt<|nt<|aS (len x.1) 71)
 (ao (inside 0 7<|len x.1)
 (ab<|nt<|bH (sub x.1 (0:Int)<|minus 7 0) ([115,104,97,50,53,54,58]:ay))
 ah)
 (ab true)) (λa=>ao a
 (ab ((2:Int),()))
 (ao (inside 7 (len x.1)<|len x.1)
 (ag (pX (sub x.1 (7:Int)<|minus (len x.1) 7,())) λb=>ao (nt b.2.1)
 (ab ((2:Int),()))
 (ab ((0:Int),())))
 ah))
end Go.Ge
namespace Go.Ge
variable [Lp]
set_option maxRecDepth 100000
abbrev abu:=((Sb×al)×(List<|Bool)×al)
abbrev ai4:=(Sb×Int×Int×Int×Int×Int×Int×Sb×al)
def lR(x:Int×Int×al):Option (Bool×al) :=
 ab (ao (cu 0 x.1)
 (ba x.1 x.2.1)
 false,())
def oc(x:Sb×Int×al):Option (Bool×al) :=
 ag (ao (ao (nt<|bH x.1 ([]:ay))
 (cu (len x.1) x.2.1)
 false)
 (ag (dy (x.1,(0:Int),())) λa=>ab (ba a.1 0))
 (ab false)) (λa=>ab (a,()))
def re(x:ai4×Int×al):Option (Bool×al) :=
 ag (lR (x.1.2.2.1,(2097152:Int),())) (λf=>ag (ao f.1
 (ag (lR (x.1.2.2.2.1,(2097152:Int),())) λa=>ab a.1)
 (ab false)) λa=>ag (ao a
 (ag (lR (x.1.2.2.2.2.1,(2097152:Int),())) λb=>ab b.1)
 (ab false)) λb=>ag (ao b
 (ag (lR (x.1.2.2.2.2.2.1,(8589934592:Int),())) λc=>ab c.1)
 (ab false)) λc=>ag (ao c
 (ag (lR (x.1.2.2.2.2.2.2.1,(8589934592:Int),())) λd=>ab d.1)
 (ab false)) λd=>ag (ao (nt<|nt d)
 (ag (oc (x.1.1,x.2.1,())) λe=>ab (nt e.1))
 (ab true)) λe=>ao e
 (ab (false,()))
 (ao (aS x.1.2.1 1)
 (ab (bH x.1.2.2.2.2.2.2.2.1 ([]:ay),()))
 (ao (aS x.1.2.1 2)
 (ab (ao (bH x.1.2.2.2.2.2.2.2.1 ([]:ay))
 (aS x.1.2.2.2.2.2.1 0)
 false,()))
 (ao (aS x.1.2.1 3)
 (ag (oc (x.1.2.2.2.2.2.2.2.1,(100:Int),())) λg=>ab (ao g.1
 (aS x.1.2.2.2.2.2.1 0)
 false,()))
 (ab (false,()))))))
def mE(x:al):Option ((List<|Int×Int×al)×al) :=
 ab (([((0:Int),(100:Int),()),((100:Int),(8:Int),()),((108:Int),(8:Int),()),((116:Int),(8:Int),()),((124:Int),(12:Int),()),((136:Int),(12:Int),()),((148:Int),(8:Int),()),((156:Int),(1:Int),()),((157:Int),(100:Int),()),((257:Int),(8:Int),()),((345:Int),(155:Int),())]:List (Int×Int×al)),())
def qo(x:Sb×al)(b:Int×Int×al)(a:(Int×Int×al)×al):Option (((Int×Int×al)×al)⊕((Int×Int×al)×al)) :=
 dq (ao (ba a.1.2.1<|len<|aC x.1)
 (ao (within a.1.2.1<|len<|aC x.1)
 (ag (idx (aC x.1) a.1.2.1) λc=>ab (Sum.inl ((aH i64 a.1.1<|kE i64<|((ao (ao (cu b.1 a.1.2.1)
 (ba a.1.2.1<|aH i64 b.1 b.2.1)
 false)
 (((32:Int),()),())
 ((c,()),())).1).1,aH i64 a.1.2.1 1,()),())))
 ah)
 (ab<|Sum.inr (0,(a.1.1,a.1.2.1,()),())))
def vR(x:Sb×al):Option (Int×al) :=
 ag (mE ()) (λa=>ag (idx a.1 (6:Int)) λb=>ao (fits<|len x.1)
 (ag (Loop (qo x b) (((0:Int),(0:Int),()),())) λc=>ab (c.1.1,()))
 ah)
def cc(x:Sb×Int×al):Option (Sb×al) :=
 ag (mE ()) (λb=>ag (idx b.1 x.2.1) λa=>ao (inside a.1 (aH i64 a.1 a.2.1)<|len x.1)
 (ab (sub x.1 a.1<|minus (aH i64 a.1 a.2.1) a.1,()))
 ah)
def fK(x:Sb×Int×al)(a:(Sb×al)×al):Option (((Sb×al)×al)⊕((Sb×al)×al)) :=
 dq (ag (ao (ba 0<|len a.1.1)
 (ag (idx a.1.1<|da i64 (len a.1.1) 1) λb=>ab (aS (u8 b) x.2.1))
 (ab false)) λb=>ao b
 (ao (inside 0 (da i64 (len a.1.1) 1)<|len a.1.1)
 (ab<|Sum.inl ((sub a.1.1 (0:Int)<|minus (da i64 (len a.1.1) 1) 0,()),()))
 ah)
 (ab<|Sum.inr (0,(a.1.1,()),())))
def fo(x:Sb×Int×al):Option (Sb×al) :=
 ag (Loop (fK x) ((x.1,()),())) (λa=>ab (a.1.1,()))
def eO(x:Sb×al)(a:(Bool×Int×al)×(List<|Bool)×al):Option (((Bool×Int×al)×(List<|Bool)×al)⊕(Nat×(Bool×Int×al)×(List<|Bool)×al)) :=
 ao (ba a.1.2.1<|len x.1)
 (ag (idx x.1 a.1.2.1) λb=>ao (cu 128<|u8 b)
 (ab<|Sum.inr (1,(false,a.1.2.1,()),a.2.1,()))
 (ao (within (u8 b) 256)
 (ag (idx a.2.1<|u8 b) λc=>ag (idx a.2.1<|u8 b) λd=>ag (idx a.2.1<|u8 b) λe=>ab (Sum.inl ((a.1.1,aH i64 a.1.2.1 1,()),lP a.2.1 (u8 b) true,())))
 ah))
 (ab<|Sum.inr (0,(a.1.1,a.1.2.1,()),a.2.1,()))
def eF(x:Sb×al):Option ((List<|Bool)×Bool×al) :=
 ag (Loop (eO x) ((false,(0:Int),()),((List.replicate 256 false):List (Bool)),())) (λa=>ao (de a.1 0)
 (ab (a.2.2.1,true,()))
 (ab (a.2.2.1,a.2.1.1,())))
def cI(x:(Int×al)×(List<|Bool)×al):Option ((Bool×al)×(List<|Bool)×al) :=
 ao (within x.1.1 256)
 (ag (idx x.2.1 x.1.1) λa=>ab ((a,()),x.2.1,()))
 ah
def cJ(a:(Sb×al)×(List<|Bool)×al):Option (abu⊕abu) :=
 dq (ao (ba 0<|len a.1.1)
 (ag (idx a.1.1<|da i64 (len a.1.1) 1) λc=>ag (cI ((u8 c,()),a.2.1,())) λb=>ao (nt b.1.1)
 (ab<|Sum.inr (0,(a.1.1,()),b.2.1,()))
 (ao (inside 0 (da i64 (len a.1.1) 1)<|len a.1.1)
 (ab<|Sum.inl ((sub a.1.1 (0:Int)<|minus (da i64 (len a.1.1) 1) 0,()),b.2.1,()))
 ah))
 (ab<|Sum.inr (0,(a.1.1,()),a.2.1,())))
def ed(x:(Sb×al)×(List<|Bool)×al):Option abu :=
 ag (Loop (cJ) ((x.1.1,()),x.2.1,())) (λa=>ab ((a.1.1,()),a.2.1,()))
def eS(x:Sb×Sb×al):Option (Sb×al) :=
 ao (ao (nt<|bH x.1 ([]:ay))
 (bH x.2.1 ([]:ay))
 true)
 (ab (x.1,()))
 (ag (ao (aS (len x.2.1) 1)
 (ag (idx x.2.1 (0:Int)) λb=>ab (ba (u8 b) 128))
 (ab false)) λb=>ao b
 (ag (idx x.2.1 (0:Int)) λa=>ag (fo (x.1,u8 a,())) λc=>ab (c.1,()))
 (ag (eF (x.2.1,())) λa=>ao a.2.1
 (ag (ed ((x.1,()),a.1,())) λc=>ab (c.1.1,()))
 ah))
def bS(x:Sb×al)(a:(Int×Bool×Int×Int×al)×al):Option (((Int×Bool×Int×Int×al)×al)⊕(Nat×(Int×Bool×Int×Int×al)×al)) :=
 ao (ba a.1.2.2.2.1<|len<|aC x.1)
 (ao (within a.1.2.2.2.1<|len<|aC x.1)
 (ag (idx (aC x.1) a.1.2.2.2.1) λb=>ao (ao (nt<|ba b 48)
 (ba 55 b)
 true)
 (ab<|Sum.inr (1,((0:Int),false,a.1.2.2.1,a.1.2.2.2.1,()),()))
 (ao (ba 3 0)
 ah
 (ab<|Sum.inl ((a.1.1,a.1.2.1,zM i64 (nR i64 a.1.2.2.1 3)<|kE i64<|da IntKind.u8 b 48,aH i64 a.1.2.2.2.1 1,()),()))))
 ah)
 (ab<|Sum.inr (0,(a.1.1,a.1.2.1,a.1.2.2.1,a.1.2.2.2.1,()),()))
def dN(x:Sb×al):Option (Int×Bool×al) :=
 ao (ao (nt<|ba (len x.1) 1)
 (ba 21<|len x.1)
 true)
 (ab ((0:Int),false,()))
 (ao (fits<|len x.1)
 (ag (Loop (bS x) (((0:Int),false,(0:Int),(0:Int),()),())) λa=>ao (de a.1 0)
 (ab (a.2.1.2.2.1,true,()))
 (ab (a.2.1.1,a.2.1.2.1,())))
 ah)
def dz(x:Sb×al):Option (Int×al) :=
 ag (eS (x.1,([0,32]:ay),())) (λa=>ag (dN (a.1,())) λb=>ao (ao (nt<|nt b.2.1)
 (aS (len a.1)<|len x.1)
 true)
 (ab ((-1:Int),()))
 (ab (b.1,())))
def ks(x:Sb×al):Option (Sb×Bool×al) :=
 ag (eS (x.1,([0]:ay),())) (λa=>ag (dy (a.1,(0:Int),())) λb=>ab (a.1,ba b.1 0,()))
def fB(x:Sb×al):Option (ai4×Int×al) :=
 ag (ao (nt<|nt<|aS (len x.1) 512)
 (ag (cc (x.1,(9:Int),())) λk=>ab (nt<|bH k.1 ([117,115,116,97,114,0,48,48]:ay)))
 (ab true)) (λk=>ag (ao (nt k)
 (ag (cc (x.1,(6:Int),())) λl=>ag (dz (l.1,())) λm=>ag (vR (x.1,())) λi=>ab (nt<|aS m.1 i.1))
 (ab true)) λl=>ao l
 (ab ((([]:ay),(0:Int),(0:Int),(0:Int),(0:Int),(0:Int),(0:Int),([]:ay),()),(2:Int),()))
 (ag (cc (x.1,(0:Int),())) λm=>ag (ks (m.1,())) λi=>ag (cc (x.1,(8:Int),())) λt=>ag (ks (t.1,())) λn=>ag (cc (x.1,(10:Int),())) λu=>ag (ks (u.1,())) λj=>ag (ao (nt<|bH j.1 ([]:ay))
 (ao (fits<|plus (len j.1)<|len ([47]:ay))
 (ao (fits<|plus (len<|app j.1 ([47]:ay))<|len i.1)
 (ab ((app (app j.1 ([47]:ay)) i.1,()),()))
 ah)
 ah)
 (ab ((i.1,()),()))) λg=>ag (cc (x.1,(1:Int),())) λo=>ag (dz (o.1,())) λb=>ag (cc (x.1,(2:Int),())) λp=>ag (dz (p.1,())) λc=>ag (cc (x.1,(3:Int),())) λq=>ag (dz (q.1,())) λd=>ag (cc (x.1,(4:Int),())) λr=>ag (dz (r.1,())) λe=>ag (cc (x.1,(5:Int),())) λs=>ag (dz (s.1,())) λf=>ag (cc (x.1,(7:Int),())) λa=>ag (ao (nt<|ao (nt<|ao (nt<|nt i.2.1)
 (nt n.2.1)
 true)
 (nt j.2.1)
 true)
 (ag (re (((ao (((ao (bH a.1 ([48]:ay))
 ((bH a.1 ([48]:ay),()),())
 ((bH a.1 ([0]:ay),()),())).1).1)
 ((),(g.1.1,(1:Int),b.1,c.1,d.1,e.1,f.1,([]:ay),()),())
 ((),((ao (bH a.1 ([53]:ay))
 ((),(g.1.1,(2:Int),b.1,c.1,d.1,e.1,f.1,([]:ay),()),())
 ((),((ao (bH a.1 ([50]:ay))
 ((),(g.1.1,(3:Int),b.1,c.1,d.1,e.1,f.1,n.1,()),())
 ((),(g.1.1,(0:Int),b.1,c.1,d.1,e.1,f.1,([]:ay),()),())).2).1,())).2).1,())).2).1,(256:Int),())) λh=>ab (nt h.1))
 (ab true)) λh=>ao h
 (ab ((([]:ay),(0:Int),(0:Int),(0:Int),(0:Int),(0:Int),(0:Int),([]:ay),()),(2:Int),()))
 (ab (((ao (((ao (bH a.1 ([48]:ay))
 ((bH a.1 ([48]:ay),()),())
 ((bH a.1 ([0]:ay),()),())).1).1)
 ((),(g.1.1,(1:Int),b.1,c.1,d.1,e.1,f.1,([]:ay),()),())
 ((),((ao (bH a.1 ([53]:ay))
 ((),(g.1.1,(2:Int),b.1,c.1,d.1,e.1,f.1,([]:ay),()),())
 ((),((ao (bH a.1 ([50]:ay))
 ((),(g.1.1,(3:Int),b.1,c.1,d.1,e.1,f.1,n.1,()),())
 ((),(g.1.1,(0:Int),b.1,c.1,d.1,e.1,f.1,([]:ay),()),())).2).1,())).2).1,())).2).1,(0:Int),()))))
def fZ(x:Sb×Int×al)(a:(Sb×al)×al):Option (((Sb×al)×al)⊕((Sb×al)×al)) :=
 dq (ag (ao (ba 0<|len a.1.1)
 (ag (idx a.1.1 (0:Int)) λb=>ab (aS (u8 b) x.2.1))
 (ab false)) λb=>ao b
 (ao (inside 1 (len a.1.1)<|len a.1.1)
 (ab<|Sum.inl ((sub a.1.1 (1:Int)<|minus (len a.1.1) 1,()),()))
 ah)
 (ab<|Sum.inr (0,(a.1.1,()),())))
def iu(x:Sb×Int×al):Option (Sb×al) :=
 ag (Loop (fZ x) ((x.1,()),())) (λa=>ab (a.1.1,()))
def fL(a:(Sb×al)×(List<|Bool)×al):Option (abu⊕abu) :=
 dq (ao (ba 0<|len a.1.1)
 (ag (idx a.1.1 (0:Int)) λc=>ag (cI ((u8 c,()),a.2.1,())) λb=>ao (nt b.1.1)
 (ab<|Sum.inr (0,(a.1.1,()),b.2.1,()))
 (ao (inside 1 (len a.1.1)<|len a.1.1)
 (ab<|Sum.inl ((sub a.1.1 (1:Int)<|minus (len a.1.1) 1,()),b.2.1,()))
 ah))
 (ab<|Sum.inr (0,(a.1.1,()),a.2.1,())))
def gQ(x:(Sb×al)×(List<|Bool)×al):Option abu :=
 ag (Loop (fL) ((x.1.1,()),x.2.1,())) (λa=>ab ((a.1.1,()),a.2.1,()))
def iY(x:Sb×Sb×al):Option (Sb×al) :=
 ao (ao (nt<|bH x.1 ([]:ay))
 (bH x.2.1 ([]:ay))
 true)
 (ab (x.1,()))
 (ag (ao (aS (len x.2.1) 1)
 (ag (idx x.2.1 (0:Int)) λc=>ab (ba (u8 c) 128))
 (ab false)) λc=>ao c
 (ag (idx x.2.1 (0:Int)) λa=>ag (fo (x.1,u8 a,())) λb=>ag (idx x.2.1 (0:Int)) λd=>ag (iu (b.1,u8 d,())) λe=>ab (e.1,()))
 (ag (eF (x.2.1,())) λa=>ao a.2.1
 (ag (ed ((x.1,()),a.1,())) λb=>ag (gQ ((b.1.1,()),b.2.1,())) λd=>ab (d.1.1,()))
 ah))
def tP(x:Sb×al):Option (Bool×al) :=
 ag (ao (aS (len x.1) 512)
 (ag (iY (x.1,([0]:ay),())) λa=>ab (bH a.1 ([]:ay)))
 (ab false)) (λa=>ab (a,()))
def gk(x:Sb×Int×al)(a:(Bool×Int×al)×al):Option (((Bool×Int×al)×al)⊕(Nat×(Bool×Int×al)×al)) :=
 ao (ba a.1.2.1<|len x.1)
 (ag (idx x.1 a.1.2.1) λb=>ao (aS (u8 b) 0)
 (ab<|Sum.inr (1,(false,a.1.2.1,()),()))
 (ab<|Sum.inl ((a.1.1,aH i64 a.1.2.1 1,()),())))
 (ab<|Sum.inr (0,(a.1.1,a.1.2.1,()),()))
def nd(x:Sb×Int×al):Option (Bool×al) :=
 ag (Loop (gk x) ((false,(0:Int),()),())) (λa=>ao (de a.1 0)
 (ab (ao (cu 1<|len x.1)
 (cu (len x.1) x.2.1)
 false,()))
 (ab (a.2.1.1,())))
def qM(x:Int×Int×al):Option (Bool×al) :=
 ab (ao (cu 0 x.1)
 (ba x.1 x.2.1)
 false,())
def uN(x:ai4×Int×al):Option (Bool×al) :=
 ag (ao (aS x.1.2.1 3)
 (ag (nd (x.1.2.2.2.2.2.2.2.1,(100:Int),())) λa=>ab ((a.1,()),()))
 (ab ((bH x.1.2.2.2.2.2.2.2.1 ([]:ay),()),()))) (λa=>ag (nd (x.1.1,x.2.1,())) λg=>ag (ao (ao (ao g.1
 (cu 1 x.1.2.1)
 false)
 (cu x.1.2.1 3)
 false)
 (ag (qM (x.1.2.2.1,(2097152:Int),())) λb=>ab b.1)
 (ab false)) λb=>ag (ao b
 (ag (qM (x.1.2.2.2.1,(2097152:Int),())) λc=>ab c.1)
 (ab false)) λc=>ag (ao c
 (ag (qM (x.1.2.2.2.2.1,(2097152:Int),())) λd=>ab d.1)
 (ab false)) λd=>ag (ao d
 (ag (qM (x.1.2.2.2.2.2.1,(8589934592:Int),())) λe=>ab e.1)
 (ab false)) λe=>ag (ao e
 (ag (qM (x.1.2.2.2.2.2.2.1,(8589934592:Int),())) λf=>ab f.1)
 (ab false)) λf=>ab (ao (ao f
 (ao (nt<|aS x.1.2.2.2.2.2.1 0)
 (aS x.1.2.1 1)
 true)
 false)
 a.1.1
 false,()))
def rW(x:Sb×al)(a:(Int×Int×al)×al):Option (((Int×Int×al)×al)⊕((Int×Int×al)×al)) :=
 dq (ao (ba a.1.2.1<|len x.1)
 (ag (ao (ao (cu 148 a.1.2.1)
 (ba a.1.2.1 156)
 false)
 (ab ((aH i64 a.1.1 32,()),()))
 (ag (idx x.1 a.1.2.1) λb=>ab ((aH i64 a.1.1<|kE i64<|u8 b,()),()))) λb=>ab (Sum.inl ((b.1.1,aH i64 a.1.2.1 1,()),())))
 (ab<|Sum.inr (0,(a.1.1,a.1.2.1,()),())))
def x7(x:Sb×al):Option (Int×al) :=
 ag (Loop (rW x) (((0:Int),(0:Int),()),())) (λa=>ab (a.1.1,()))
end Go.Ge
namespace Go.Ge
variable [Lp]
set_option maxRecDepth 100000
abbrev HJ:=((Sb×Int×Int×Int×Int×Int×Int×Sb×al)×Sb×al)
abbrev Sp:=(Bool×Sb×Int×Bool×Bool×al)
def DU(x:Int×al):Option (Sb×al) :=
 ag (oO (([0]:ay),x.1,())) (λa=>ab (a.1,()))
def wX(x:Int×al):Option (Int×al) :=
 ao (aS 512 0)
 ah
 (ao (aS 512 0)
 ah
 (ab (jQ (da i64 512<|jQ x.1 512) 512,())))
def eV(x:(Bool×al)×Sp×al):Option ((HJ×Bool×al)×Sp×al) :=
 ab ((((([]:ay),(0:Int),(0:Int),(0:Int),(0:Int),(0:Int),(0:Int),([]:ay),()),([]:ay),()),false,()),(x.2.1.1,([]:ay),x.2.1.2.2.1,true,x.1.1,x.2.1.2.2.2.2.2),())
def bP(x:al×Sp×al):Option ((HJ×Bool×al)×Sp×al) :=
 ao (ao (nt<|nt x.2.1.1)
 x.2.1.2.2.2.1
 true)
 (ab ((((([]:ay),(0:Int),(0:Int),(0:Int),(0:Int),(0:Int),(0:Int),([]:ay),()),([]:ay),()),false,()),x.2.1,()))
 (ao (ba (len x.2.1.2.1) 512)
 (ag (eV ((true,()),x.2.1,())) λd=>ab ((d.1.1,d.1.2.1,()),d.2.1,()))
 (ao (inside 0 512<|len x.2.1.2.1)
 (ag (tP (sub x.2.1.2.1 (0:Int)<|minus 512 0,())) λd=>ao d.1
 (ag (ao (cu 1024<|len x.2.1.2.1)
 (ao (aS 512 0)
 ah
 (ab<|aS (jQ (len x.2.1.2.1) 512) 0))
 (ab false)) λb=>ag (ao (nt<|nt b)
 (ag (iY (x.2.1.2.1,([0]:ay),())) λc=>ab (nt<|bH c.1 ([]:ay)))
 (ab true)) λc=>ag (eV ((c,()),x.2.1,())) λa=>ab ((a.1.1,a.1.2.1,()),a.2.1,()))
 (ao (inside 0 512<|len x.2.1.2.1)
 (ag (fB (sub x.2.1.2.1 (0:Int)<|minus 512 0,())) λb=>ao (inside 512 (len x.2.1.2.1)<|len x.2.1.2.1)
 (ao (nt<|aS b.2.1 0)
 (ag (eV ((true,()),x.2.1,())) λc=>ab ((c.1.1,c.1.2.1,()),c.2.1,()))
 (ao (ba (len<|sub x.2.1.2.1 (512:Int)<|minus (len x.2.1.2.1) 512) b.1.2.2.2.2.2.1)
 (ag (eV ((true,()),x.2.1,())) λc=>ab ((c.1.1,c.1.2.1,()),c.2.1,()))
 (ag (wX (b.1.2.2.2.2.2.1,())) λc=>ao (ba (len<|sub x.2.1.2.1 (512:Int)<|minus (len x.2.1.2.1) 512)<|aH i64 b.1.2.2.2.2.2.1 c.1)
 (ag (eV ((true,()),x.2.1,())) λa=>ab ((a.1.1,a.1.2.1,()),a.2.1,()))
 (ao (cu 64 x.2.1.2.2.1)
 (ag (eV ((true,()),x.2.1,())) λa=>ab ((a.1.1,a.1.2.1,()),a.2.1,()))
 (ag (wX (b.1.2.2.2.2.2.1,())) λa=>ao (inside (aH i64 b.1.2.2.2.2.2.1 a.1) (len<|sub x.2.1.2.1 (512:Int)<|minus (len x.2.1.2.1) 512)<|len<|sub x.2.1.2.1 (512:Int)<|minus (len x.2.1.2.1) 512)
 (ao (inside 0 b.1.2.2.2.2.2.1<|len<|sub x.2.1.2.1 (512:Int)<|minus (len x.2.1.2.1) 512)
 (ab (((b.1,sub (sub x.2.1.2.1 (512:Int)<|minus (len x.2.1.2.1) 512) (0:Int)<|minus b.1.2.2.2.2.2.1 0,()),true,()),(x.2.1.1,sub (sub x.2.1.2.1 (512:Int)<|minus (len x.2.1.2.1) 512) (aH i64 b.1.2.2.2.2.2.1 a.1)<|minus (len<|sub x.2.1.2.1 (512:Int)<|minus (len x.2.1.2.1) 512)<|aH i64 b.1.2.2.2.2.2.1 a.1,aH i64 x.2.1.2.2.1 1,x.2.1.2.2.2),()))
 ah)
 ah)))))
 ah)
 ah))
 ah))
def iM(x:al×Sp×al):Option ((Bool×al)×Sp×al) :=
 ab ((x.2.1.2.2.2.2.1,()),x.2.1,())
def iF(a:(al×al×Bool×al)×HJ×(List HJ)×Sp×al):Option (((al×al×Bool×al)×HJ×(List HJ)×Sp×al)⊕((al×al×Bool×al)×HJ×(List HJ)×Sp×al)) :=
 dq (ao a.1.2.2.1
 (ao (fits<|plus (len a.2.2.1)<|len ([a.2.1]:List HJ))
 (ag (bP ((),a.2.2.2.1,())) λb=>ab (Sum.inl (((),(),b.1.2.1,()),b.1.1,app a.2.2.1 ([a.2.1]:List HJ),b.2.1,())))
 ah)
 (ab<|Sum.inr (0,((),(),a.1.2.2.1,()),a.2.1,a.2.2.1,a.2.2.2.1,())))
def fh(x:Sb×al):Option ((List HJ)×Int×al) :=
 ag (bP ((),(true,x.1,(0:Int),ba 8192<|len x.1,ba 8192<|len x.1,()),())) (λa=>ag (Loop (iF) (((),(),a.1.2.1,()),a.1.1,([]:List HJ),a.2.1,())) λb=>ag (iM ((),b.2.2.2.1,())) λc=>ao c.1.1
 (ab (([]:List HJ),(10:Int),()))
 (ab (b.2.2.1,(0:Int),())))
def lp(a:(Int×al)×al):Option (((Int×al)×al)⊕((Int×al)×al)) :=
 dq (ao (aS 512 0)
 ah
 (ao (nt<|aS (jQ a.1.1 512) 0)
 (ab<|Sum.inl ((aH i64 a.1.1 1,()),()))
 (ab<|Sum.inr (0,(a.1.1,()),()))))
def nf(x:Int×al):Option (Int×al) :=
 ag (Loop (lp) ((x.1,()),())) (λa=>ab (a.1.1,()))
end Go.Ge
namespace Go.Ge
variable [Lp]
set_option maxRecDepth 100000
abbrev abv:=(((Bool×Int×al)×al)⊕(Nat×(Bool×Int×al)×al))
abbrev HK:=(Int×Int×al)
abbrev ag5:=((HK×al)⊕(Nat×HK×al))
abbrev abw:=(Int×Int×Int×al)
def fC(x:Sb×al):Option ((List Sb)×al) :=
 ao (bH x.1 ([]:ay))
 (ab (([]:List Sb),()))
 (ag (vg (x.1,([47]:ay),())) λa=>ab (a.1,()))
def nB(x:Sb×al)(a:(Bool×Int×al)×al):Option abv :=
 ao (ba a.1.2.1 2)
 (ag (idx ([([46]:ay),([46,46]:ay)]:List Sb) a.1.2.1) λb=>ao (bH x.1 b)
 (ab<|Sum.inr (1,(false,a.1.2.1,()),()))
 (ab<|Sum.inl ((a.1.1,aH i64 a.1.2.1 1,()),())))
 (ab<|Sum.inr (0,(a.1.1,a.1.2.1,()),()))
def rX(x:Sb×al):Option (Bool×al) :=
 ag (Loop (nB x) ((false,(0:Int),()),())) (λb=>ao (de b.1 0)
 (ag (ao (ao (cu 1<|len x.1)
 (cu (len x.1) 32)
 false)
 (ag (dy (x.1,(0:Int),())) λa=>ab (ba a.1 0))
 (ab false)) λa=>ab (a,()))
 (ab (b.2.1.1,())))
def cE(x:Sb×Sb×al):Option (Bool×al) :=
 ag (cA (x.1,x.2.1,())) (λa=>ab (a.1,()))
def oS(d:(List Sb)×al)(a:(Sb×Int×al×Int×al)×(List Sb)×al):Option (((Sb×Int×al×Int×al)×(List Sb)×al)⊕(Nat×(Sb×Int×al×Int×al)×(List Sb)×al)) :=
 ao (ba a.1.2.2.2.1<|len d.1)
 (ag (idx d.1 a.1.2.2.2.1) λc=>ag (ao (ao (nt<|bH c ([]:ay))
 (bH c ([46]:ay))
 true)
 (ab (0,(a.1.1,a.1.2.1,(),()),a.2.1,()))
 (ag (rX (c,())) λb=>ao (nt b.1)
 (ab (1,(([]:ay),(2:Int),(),()),a.2.1,()))
 (ao (fits<|plus (len a.2.1)<|len ([c]:List Sb))
 (ab (0,(a.1.1,a.1.2.1,(),()),app a.2.1 ([c]:List Sb),()))
 ah))) λb=>ao (de b.1 0)
 (ab<|Sum.inl ((b.2.1.1,b.2.1.2.1,(),aH i64 a.1.2.2.2.1 1,()),b.2.2.1,()))
 (ab<|Sum.inr (1,(b.2.1.1,b.2.1.2.1,(),a.1.2.2.2.1,()),b.2.2.1,())))
 (ab<|Sum.inr (0,(a.1.1,a.1.2.1,(),a.1.2.2.2.1,()),a.2.1,()))
def pY(x:Sb×al):Option (Sb×Int×al) :=
 ag (fC (x.1,())) (λc=>ag (Loop (oS c) ((([]:ay),(0:Int),(),(0:Int),()),([]:List Sb),())) λa=>ao (de a.1 0)
 (ag (lf (a.2.2.1,([47]:ay),())) λb=>ag (cE (x.1,([47]:ay),())) λd=>ao (ao (nt<|ao (nt d.1)
 (ba 8<|len a.2.2.1)
 true)
 (ba 96<|len b.1)
 true)
 (ab (([]:ay),(2:Int),()))
 (ab (b.1,(0:Int),())))
 (ab (a.2.1.1,a.2.1.2.1,())))
def bW(x:(List Sb)×Sb×al)(a:HK×al):Option ag5 :=
 ao (ba a.1.2.1<|len x.1)
 (ag (idx x.1 a.1.2.1) λb=>ao (bH x.2.1 b)
 (ab<|Sum.inr (1,(a.1.2.1,a.1.2.1,()),()))
 (ab<|Sum.inl ((a.1.1,aH i64 a.1.2.1 1,()),())))
 (ab<|Sum.inr (0,(a.1.1,a.1.2.1,()),()))
def fb(x:(List Sb)×Sb×al):Option (Int×al) :=
 ag (Loop (bW x) (((0:Int),(0:Int),()),())) (λa=>ao (de a.1 0)
 (ab ((-1:Int),()))
 (ab (a.2.1.1,())))
def bB(x:(List Sb)×Sb×al):Option (Bool×al) :=
 ag (fb (x.1,x.2.1,())) (λa=>ab (cu 0 a.1,()))
def rY(x:Sb×al):Option (Int×Sb×al) :=
 ag (kL (x.1,([46,119,104,46]:ay),())) (λa=>ao (nt a.2.1)
 (ab ((0:Int),x.1,()))
 (ao (bH x.1 ([46,119,104,46,46,119,104,46,46,111,112,113]:ay))
 (ab ((2:Int),([]:ay),()))
 (ag (cE (a.1,([46,119,104,46]:ay),())) λc=>ag (ao (nt c.1)
 (ag (bB (([([]:ay),([46]:ay),([46,46]:ay)]:List Sb),a.1,())) λb=>ab b.1)
 (ab true)) λb=>ao b
 (ab ((3:Int),([]:ay),()))
 (ab ((1:Int),a.1,())))))
def cR(x:Sb×Int×al)(a:HK×al):Option ag5 :=
 ao (cu 0 a.1.2.1)
 (ag (idx x.1 a.1.2.1) λb=>ao (aS (u8 b) x.2.1)
 (ab<|Sum.inr (1,(a.1.2.1,a.1.2.1,()),()))
 (ab<|Sum.inl ((a.1.1,da i64 a.1.2.1 1,()),())))
 (ab<|Sum.inr (0,(a.1.1,a.1.2.1,()),()))
def dk(x:Sb×Int×al):Option (Int×al) :=
 ag (Loop (cR x) (((0:Int),da i64 (len x.1) 1,()),())) (λa=>ao (de a.1 0)
 (ab ((-1:Int),()))
 (ab (a.2.1.1,())))
def nS(x:Sb×al)(a:HK×al):Option ((HK×al)⊕(HK×al)) :=
 dq (ao (cu 0 a.1.2.1)
 (ag (idx x.1 a.1.2.1) λb=>ab (Sum.inl ((aH u32 (jD u32 a.1.1 16777619)<|kE u32<|u8 b,da i64 a.1.2.1 1,()),())))
 (ab<|Sum.inr (0,(a.1.1,a.1.2.1,()),())))
def nT(a:abw×al):Option ((abw×al)⊕(abw×al)) :=
 dq (ao (ba 0 a.1.2.2.1)
 (ao (ba 1 0)
 ah
 (ab<|Sum.inl ((((ao (nt<|aS (jR i64 a.1.2.2.1 1) 0)
 ((jD u32 a.1.1 a.1.2.1,()),())
 ((a.1.1,()),())).1).1,jD u32 a.1.2.1 a.1.2.1,mz i64 a.1.2.2.1 1,()),())))
 (ab<|Sum.inr (0,(a.1.1,a.1.2.1,a.1.2.2.1,()),())))
def hY(x:Sb×al):Option HK :=
 ag (Loop (nS x) (((0:Int),da i64 (len x.1) 1,()),())) (λa=>ag (Loop (nT) (((1:Int),(16777619:Int),len x.1,()),())) λb=>ab (a.1.1,b.1.1,()))
def jX(x:Sb×Sb×al)(a:HK×al):Option ((HK×al)⊕(HK×al)) :=
 dq (ao (cu (da i64 (len x.1)<|len x.2.1) a.1.2.1)
 (ag (idx x.1 a.1.2.1) λb=>ab (Sum.inl ((aH u32 (jD u32 a.1.1 16777619)<|kE u32<|u8 b,da i64 a.1.2.1 1,()),())))
 (ab<|Sum.inr (0,(a.1.1,a.1.2.1,()),())))
def jY(x:Sb×Sb×al)(b:Int×Int×al)(a:abw×al):Option ((abw×al)⊕(Nat×abw×al)) :=
 ao (cu 0 a.1.2.2.1)
 (ag (idx x.1 a.1.2.2.1) λc=>ag (idx x.1<|aH i64 a.1.2.2.1<|len x.2.1) λd=>ag (ao (aS (da u32 (aH u32 (jD u32 a.1.2.1 16777619)<|kE u32<|u8 c)<|jD u32 b.2.1<|kE u32<|u8 d) b.1)
 (ao (inside a.1.2.2.1 (aH i64 a.1.2.2.1<|len x.2.1)<|len x.1)
 (ab<|bH (sub x.1 a.1.2.2.1<|minus (aH i64 a.1.2.2.1<|len x.2.1) a.1.2.2.1) x.2.1)
 ah)
 (ab false)) λe=>ao e
 (ab<|Sum.inr (1,(a.1.2.2.1,da u32 (aH u32 (jD u32 a.1.2.1 16777619)<|kE u32<|u8 c)<|jD u32 b.2.1<|kE u32<|u8 d,a.1.2.2.1,()),()))
 (ab<|Sum.inl ((a.1.1,da u32 (aH u32 (jD u32 a.1.2.1 16777619)<|kE u32<|u8 c)<|jD u32 b.2.1<|kE u32<|u8 d,da i64 a.1.2.2.1 1,()),())))
 (ab<|Sum.inr (0,(a.1.1,a.1.2.1,a.1.2.2.1,()),()))
def fq(x:Sb×Sb×al):Option (Int×al) :=
 ag (hY (x.2.1,())) (λa=>ag (Loop (jX x) (((0:Int),da i64 (len x.1) 1,()),())) λb=>ag (ao (aS b.1.1 a.1)
 (ao (inside (da i64 (len x.1)<|len x.2.1) (len x.1)<|len x.1)
 (ab<|bH (sub x.1 (da i64 (len x.1)<|len x.2.1)<|minus (len x.1)<|da i64 (len x.1)<|len x.2.1) x.2.1)
 ah)
 (ab false)) λd=>ao d
 (ab (da i64 (len x.1)<|len x.2.1,()))
 (ag (Loop (jY x a) (((0:Int),b.1.1,da i64 (da i64 (len x.1)<|len x.2.1) 1,()),())) λc=>ao (de c.1 0)
 (ab ((-1:Int),()))
 (ab (c.2.1.1,()))))
def pK(x:Sb×Sb×al):Option (Int×al) :=
 ao (aS (len x.2.1) 0)
 (ab (len x.1,()))
 (ao (aS (len x.2.1) 1)
 (ag (idx x.2.1 (0:Int)) λa=>ag (dk (x.1,u8 a,())) λb=>ab (b.1,()))
 (ao (aS (len x.2.1)<|len x.1)
 (ao (bH x.2.1 x.1)
 (ab ((0:Int),()))
 (ab ((-1:Int),())))
 (ao (ba (len x.1)<|len x.2.1)
 (ab ((-1:Int),()))
 (ag (fq (x.1,x.2.1,())) λa=>ab (a.1,())))))
def gr(x:Sb×al):Option (Sb×Sb×al) :=
 ag (pK (x.1,([47]:ay),())) (λa=>ao (ba a.1 0)
 (ab (([]:ay),x.1,()))
 (ao (inside 0 a.1<|len x.1)
 (ao (inside (aH i64 a.1 1) (len x.1)<|len x.1)
 (ab (sub x.1 (0:Int)<|minus a.1 0,sub x.1 (aH i64 a.1 1)<|minus (len x.1)<|aH i64 a.1 1,()))
 ah)
 ah))
def et(x:(List Sb)×(List Sb)×al)(a:(Bool×Int×al)×al):Option abv :=
 ao (ba a.1.2.1<|len x.1)
 (ag (idx x.1 a.1.2.1) λb=>ag (idx x.2.1 a.1.2.1) λc=>ao (nt<|bH b c)
 (ab<|Sum.inr (1,(false,a.1.2.1,()),()))
 (ab<|Sum.inl ((a.1.1,aH i64 a.1.2.1 1,()),())))
 (ab<|Sum.inr (0,(a.1.1,a.1.2.1,()),()))
def fc(x:(List Sb)×(List Sb)×al):Option (Bool×al) :=
 ao (nt<|aS (len x.1)<|len x.2.1)
 (ab (false,()))
 (ag (Loop (et x) ((false,(0:Int),()),())) λa=>ao (de a.1 0)
 (ab (true,()))
 (ab (a.2.1.1,())))
def dE(x:Sb×Sb×al):Option (Bool×al) :=
 ag (fC (x.1,())) (λb=>ag (fC (x.2.1,())) λa=>ag (ao (ba (len a.1)<|len b.1)
 (ao (inside 0 (len a.1)<|len b.1)
 (ag (fc (sub b.1 (0:Int)<|minus (len a.1) 0,a.1,())) λc=>ab c.1)
 ah)
 (ab false)) λc=>ab (c,()))
def iZ(x:Sb×al):Option (Bool×al) :=
 ab (nt<|bH x.1 x.1,())
def jZ(x:Sb×Sb×al):Option (Int×al) :=
 ag (iZ (x.1,())) (λb=>ag (iZ (x.2.1,())) λa=>ao b.1
 (ao a.1
 (ab ((0:Int),()))
 (ab ((-1:Int),())))
 (ao a.1
 (ab ((1:Int),()))
 (ao (ft x.1 x.2.1)
 (ab ((-1:Int),()))
 (ao (nt<|oor (ft x.1 x.2.1)<|bH x.1 x.2.1)
 (ab ((1:Int),()))
 (ab ((0:Int),()))))))
def dO(b:(List Sb)×al)(c:(List Sb)×al)(a:HK×al):Option ag5 :=
 ao (ba a.1.2.1<|len b.1)
 (ag (idx b.1 a.1.2.1) λe=>ao (cu (len c.1) a.1.2.1)
 (ab<|Sum.inr (1,((1:Int),a.1.2.1,()),()))
 (ag (idx c.1 a.1.2.1) λf=>ag (jZ (e,f,())) λd=>ao (nt<|aS d.1 0)
 (ab<|Sum.inr (1,(d.1,a.1.2.1,()),()))
 (ab<|Sum.inl ((a.1.1,aH i64 a.1.2.1 1,()),()))))
 (ab<|Sum.inr (0,(a.1.1,a.1.2.1,()),()))
def ha(x:Sb×Sb×al):Option (Int×al) :=
 ag (fC (x.1,())) (λa=>ag (fC (x.2.1,())) λb=>ag (Loop (dO a b) (((0:Int),(0:Int),()),())) λc=>ao (de c.1 0)
 (ao (ba (len a.1)<|len b.1)
 (ab ((-1:Int),()))
 (ab ((0:Int),())))
 (ab (c.2.1.1,())))
def lq(x:Sb×al)(a:(al×Sb×Int×al)×(List Sb)×al):Option (((al×Sb×Int×al)×(List Sb)×al)⊕((al×Sb×Int×al)×(List Sb)×al)) :=
 dq (ao (ba a.1.2.2.1<|len x.1)
 (ag (idx x.1 a.1.2.2.1) λc=>ag (ao (aS (u8 c) 47)
 (ao (fits<|plus (len a.2.1)<|len ([a.1.2.1]:List Sb))
 (ab (((),([]:ay),()),app a.2.1 ([a.1.2.1]:List Sb),()))
 ah)
 (ao (inside a.1.2.2.1 (aH i64 a.1.2.2.1 1)<|len x.1)
 (ao (fits<|plus (len a.1.2.1)<|len<|sub x.1 a.1.2.2.1<|minus (aH i64 a.1.2.2.1 1) a.1.2.2.1)
 (ab (((),app a.1.2.1<|sub x.1 a.1.2.2.1<|minus (aH i64 a.1.2.2.1 1) a.1.2.2.1,()),a.2.1,()))
 ah)
 ah)) λb=>ab (Sum.inl (((),b.1.2.1,aH i64 a.1.2.2.1 1,()),b.2.1,())))
 (ab<|Sum.inr (0,((),a.1.2.1,a.1.2.2.1,()),a.2.1,())))
def eB(x:Sb×al):Option ((List Sb)×al) :=
 ao (bH x.1 ([]:ay))
 (ab (([]:List Sb),()))
 (ag (Loop (lq x) (((),([]:ay),(0:Int),()),([]:List Sb),())) λa=>ao (fits<|plus (len a.2.1)<|len ([a.1.2.1]:List Sb))
 (ab (app a.2.1 ([a.1.2.1]:List Sb),()))
 ah)
def qp(x:(List Sb)×al)(a:(Sb×Int×al)×al):Option (((Sb×Int×al)×al)⊕((Sb×Int×al)×al)) :=
 dq (ao (ba a.1.2.1<|len x.1)
 (ag (ao (ba 0 a.1.2.1)
 (ao (fits<|plus (len a.1.1)<|len ([47]:ay))
 (ab ((app a.1.1 ([47]:ay),()),()))
 ah)
 (ab ((a.1.1,()),()))) λb=>ag (idx x.1 a.1.2.1) λc=>ao (fits<|plus (len b.1.1)<|len c)
 (ab<|Sum.inl ((app b.1.1 c,aH i64 a.1.2.1 1,()),()))
 ah)
 (ab<|Sum.inr (0,(a.1.1,a.1.2.1,()),())))
def oT(x:(List Sb)×al):Option (Sb×al) :=
 ag (Loop (qp x) ((([]:ay),(0:Int),()),())) (λa=>ab (a.1.1,()))
def nC(x:Sb×al)(a:(Bool×Int×al)×al):Option abv :=
 ao (ba a.1.2.1<|len x.1)
 (ag (idx x.1 a.1.2.1) λc=>ag (ao (nt<|aS (u8 c) 0)
 (ag (idx x.1 a.1.2.1) λb=>ab (aS (u8 b) 47))
 (ab true)) λb=>ao b
 (ab<|Sum.inr (1,(false,a.1.2.1,()),()))
 (ab<|Sum.inl ((a.1.1,aH i64 a.1.2.1 1,()),())))
 (ab<|Sum.inr (0,(a.1.1,a.1.2.1,()),()))
def rZ(x:Sb×al):Option (Bool×al) :=
 ag (Loop (nC x) ((false,(0:Int),()),())) (λa=>ao (de a.1 0)
 (ab (ao (ao (ao (cu 1<|len x.1)
 (cu (len x.1) 32)
 false)
 (nt<|bH x.1 ([46]:ay))
 false)
 (nt<|bH x.1 ([46,46]:ay))
 false,()))
 (ab (a.2.1.1,())))
def tQ(b:(List Sb)×al)(a:(Bool×Int×al)×al):Option abv :=
 ao (ba a.1.2.1<|len b.1)
 (ag (idx b.1 a.1.2.1) λc=>ag (rZ (c,())) λd=>ao (nt d.1)
 (ab<|Sum.inr (1,(false,a.1.2.1,()),()))
 (ab<|Sum.inl ((a.1.1,aH i64 a.1.2.1 1,()),())))
 (ab<|Sum.inr (0,(a.1.1,a.1.2.1,()),()))
def wY(x:Sb×al):Option (Bool×al) :=
 ag (eB (x.1,())) (λa=>ag (Loop (tQ a) ((false,(0:Int),()),())) λb=>ao (de b.1 0)
 (ab (ao (cu (len a.1) 8)
 (cu (len x.1) 96)
 false,()))
 (ab (b.2.1.1,())))
def lr(b:(List Sb)×al)(a:(al×Int×al)×(List Sb)×al):Option (((al×Int×al)×(List Sb)×al)⊕((al×Int×al)×(List Sb)×al)) :=
 dq (ao (ba a.1.2.1<|len b.1)
 (ag (idx b.1 a.1.2.1) λe=>ag (ao (nt<|bH e ([]:ay))
 (ag (idx b.1 a.1.2.1) λd=>ab (nt<|bH d ([46]:ay)))
 (ab false)) λd=>ag (ao d
 (ag (idx b.1 a.1.2.1) λc=>ao (fits<|plus (len a.2.1)<|len ([c]:List Sb))
 (ab (((),()),app a.2.1 ([c]:List Sb),()))
 ah)
 (ab (((),()),a.2.1,()))) λc=>ab (Sum.inl (((),aH i64 a.1.2.1 1,()),c.2.1,())))
 (ab<|Sum.inr (0,((),a.1.2.1,()),a.2.1,())))
def tR(x:Sb×al):Option (Sb×Int×al) :=
 ag (eB (x.1,())) (λd=>ag (Loop (lr d) (((),(0:Int),()),([]:List Sb),())) λe=>ag (oT (e.2.1,())) λc=>ag (ao (nt<|bH x.1 ([]:ay))
 (ag (idx x.1 (0:Int)) λa=>ab (aS (u8 a) 47))
 (ab false)) λa=>ag (ao (nt a)
 (ag (wY (c.1,())) λb=>ab (nt b.1))
 (ab true)) λb=>ao b
 (ab (([]:ay),(2:Int),()))
 (ab (c.1,(0:Int),())))
def od(x:Sb×Sb×al):Option (Bool×al) :=
 ag (ao (cu (len x.2.1)<|len x.1)
 (ao (inside 0 (len x.2.1)<|len x.1)
 (ab<|bH (sub x.1 (0:Int)<|minus (len x.2.1) 0) x.2.1)
 ah)
 (ab false)) (λa=>ab (a,()))
def r0(x:Sb×al):Option (Int×Sb×al) :=
 ao (bH x.1 ([46,119,104,46,46,119,104,46,46,111,112,113]:ay))
 (ab ((2:Int),([]:ay),()))
 (ag (od (x.1,([46,119,104,46,46,119,104,46]:ay),())) λa=>ao (ao (nt<|ao (nt<|ao (nt a.1)
 (bH x.1 ([46,119,104,46]:ay))
 true)
 (bH x.1 ([46,119,104,46,46]:ay))
 true)
 (bH x.1 ([46,119,104,46,46,46]:ay))
 true)
 (ab ((3:Int),([]:ay),()))
 (ag (od (x.1,([46,119,104,46]:ay),())) λb=>ao b.1
 (ao (inside 4 (len x.1)<|len x.1)
 (ab ((1:Int),sub x.1 (4:Int)<|minus (len x.1) 4,()))
 ah)
 (ab ((0:Int),x.1,()))))
def kt(x:Sb×al):Option (Sb×Sb×al) :=
 ag (eB (x.1,())) (λa=>ao (aS (len a.1) 0)
 (ab (([]:ay),([]:ay),()))
 (ao (inside 0 (da i64 (len a.1) 1)<|len a.1)
 (ag (oT (sub a.1 (0:Int)<|minus (da i64 (len a.1) 1) 0,())) λb=>ag (idx a.1<|da i64 (len a.1) 1) λc=>ab (b.1,c,()))
 ah))
def j0(x:(List Sb)×(List Sb)×al)(a:(Bool×Int×al)×al):Option abv :=
 ao (ao (ba a.1.2.1<|len x.1)
 (ba a.1.2.1<|len x.2.1)
 false)
 (ag (idx x.1 a.1.2.1) λb=>ag (idx x.2.1 a.1.2.1) λc=>ao (nt<|bH b c)
 (ab<|Sum.inr (1,(false,a.1.2.1,()),()))
 (ab<|Sum.inl ((a.1.1,aH i64 a.1.2.1 1,()),())))
 (ab<|Sum.inr (0,(a.1.1,a.1.2.1,()),()))
def eW(x:(List Sb)×(List Sb)×al):Option (Bool×al) :=
 ao (nt<|aS (len x.1)<|len x.2.1)
 (ab (false,()))
 (ag (Loop (j0 x) ((false,(0:Int),()),())) λa=>ao (de a.1 0)
 (ab (true,()))
 (ab (a.2.1.1,())))
def oU(x:Sb×Sb×al):Option (Sb×al) :=
 ao (ao (nt<|bH x.1 ([]:ay))
 (bH x.2.1 ([]:ay))
 true)
 (ao (fits<|plus (len x.1)<|len x.2.1)
 (ab (app x.1 x.2.1,()))
 ah)
 (ao (fits<|plus (len x.1)<|len ([47]:ay))
 (ao (fits<|plus (len<|app x.1 ([47]:ay))<|len x.2.1)
 (ab (app (app x.1 ([47]:ay)) x.2.1,()))
 ah)
 ah)
def oV(x:Sb×Sb×al):Option (Sb×al) :=
 ao (bH x.1 ([]:ay))
 (ab (x.2.1,()))
 (ao (bH x.2.1 ([]:ay))
 (ab (x.1,()))
 (ao (fits<|plus (len x.1)<|len ([47]:ay))
 (ao (fits<|plus (len<|app x.1 ([47]:ay))<|len x.2.1)
 (ab (app (app x.1 ([47]:ay)) x.2.1,()))
 ah)
 ah))
def oW(b:(List Sb)×al)(c:(List Sb)×al)(a:(Bool×Int×al)×al):Option abv :=
 ao (ao (ba a.1.2.1<|len c.1)
 (ba a.1.2.1<|len b.1)
 false)
 (ag (idx b.1 a.1.2.1) λd=>ag (idx c.1 a.1.2.1) λe=>ao (nt<|bH d e)
 (ab<|Sum.inr (1,(false,a.1.2.1,()),()))
 (ab<|Sum.inl ((a.1.1,aH i64 a.1.2.1 1,()),())))
 (ab<|Sum.inr (0,(a.1.1,a.1.2.1,()),()))
def tS(x:Sb×Sb×al):Option (Bool×al) :=
 ag (eB (x.1,())) (λa=>ag (eB (x.2.1,())) λb=>ao (cu (len a.1)<|len b.1)
 (ab (false,()))
 (ag (Loop (oW a b) ((false,(0:Int),()),())) λc=>ao (de c.1 0)
 (ab (true,()))
 (ab (c.2.1.1,()))))
def dP(b:(List Sb)×al)(c:(List Sb)×al)(a:HK×al):Option ag5 :=
 ao (ao (ba a.1.2.1<|len b.1)
 (ba a.1.2.1<|len c.1)
 false)
 (ag (idx b.1 a.1.2.1) λf=>ag (idx c.1 a.1.2.1) λg=>ao (ft f g)
 (ab<|Sum.inr (1,((-1:Int),a.1.2.1,()),()))
 (ag (idx b.1 a.1.2.1) λd=>ag (idx c.1 a.1.2.1) λe=>ao (nt<|oor (ft d e)<|bH d e)
 (ab<|Sum.inr (1,((1:Int),a.1.2.1,()),()))
 (ab<|Sum.inl ((a.1.1,aH i64 a.1.2.1 1,()),()))))
 (ab<|Sum.inr (0,(a.1.1,a.1.2.1,()),()))
def mF(x:Sb×Sb×al):Option (Int×al) :=
 ag (eB (x.1,())) (λa=>ag (eB (x.2.1,())) λb=>ag (Loop (dP a b) (((0:Int),(0:Int),()),())) λc=>ao (de c.1 0)
 (ao (ba (len a.1)<|len b.1)
 (ab ((-1:Int),()))
 (ao (ba (len b.1)<|len a.1)
 (ab ((1:Int),()))
 (ab ((0:Int),()))))
 (ab (c.2.1.1,())))
end Go.Ge
namespace Go.Ge
variable [Lp]
set_option maxRecDepth 100000
def gB(x:Sb×al)(a:(Int×Bool×Int×Int×al)×al):Option (((Int×Bool×Int×Int×al)×al)⊕(Nat×(Int×Bool×Int×Int×al)×al)) :=
 ao (ba a.1.2.2.2.1<|len x.1)
 (ag (idx x.1 a.1.2.2.2.1) λc=>ag (ao (nt<|ba (u8 c) 48)
 (ag (idx x.1 a.1.2.2.2.1) λb=>ab (ba 55<|u8 b))
 (ab true)) λb=>ao (ao (nt b)
 (ba 1152921504606846975 a.1.2.2.1)
 true)
 (ab<|Sum.inr (1,((0:Int),false,a.1.2.2.1,a.1.2.2.2.1,()),()))
 (ag (idx x.1 a.1.2.2.2.1) λd=>ab (Sum.inl ((a.1.1,a.1.2.1,aH i64 (jD i64 8 a.1.2.2.1)<|kE i64<|da IntKind.u8 (u8 d) 48,aH i64 a.1.2.2.2.1 1,()),()))))
 (ab<|Sum.inr (0,(a.1.1,a.1.2.1,a.1.2.2.1,a.1.2.2.2.1,()),()))
def nE(x:Sb×al):Option (Int×Bool×al) :=
 ao (ao (nt<|ba (len x.1) 1)
 (ba 21<|len x.1)
 true)
 (ab ((0:Int),false,()))
 (ag (Loop (gB x) (((0:Int),false,(0:Int),(0:Int),()),())) λa=>ao (de a.1 0)
 (ab (a.2.1.2.2.1,true,()))
 (ab (a.2.1.1,a.2.1.2.1,())))
end Go.Ge
namespace Go.Ge
variable [Lp]
set_option maxRecDepth 100000
abbrev Jh:=(Int×(List<|Sb×Sb×(List Sb)×Sb×Int×Int×Bool×al)×(List<|Sb×(List Sb)×Sb×Sb×(List<|Sb×Sb×Sb×al)×al)×(List<|Sb×(List Sb)×Sb×Sb×Sb×(List<|Sb×Sb×Sb×al)×al)×al)
abbrev Gl:=(((Bool×Int×al)×al)⊕(Nat×(Bool×Int×al)×al))
abbrev r4:=(Sb×(List Sb)×al)
abbrev Qx:=((Int×al)×al×(List r4)×al)
abbrev Ba:=(Int×Int×al)
abbrev DV:=(Bool×Int×al)
def en(l:List ay)(x:al):Option (List ay):=bif fits (len l) then ab (vB l) else ah
def gl(l:List ay)(x:al):Option (List ay):=ab (Lib.compact (α:=ay) l)
def kM(x:(List Sb)×al)(a:DV×al):Option Gl :=
 ao (ao (ba a.1.2.1<|len x.1)
 (ba a.1.2.1 8)
 false)
 (ag (idx x.1 a.1.2.1) λb=>ao (ba 100<|len b)
 (ab<|Sum.inr (1,(false,a.1.2.1,()),()))
 (ab<|Sum.inl ((a.1.1,aH i64 a.1.2.1 1,()),())))
 (ab<|Sum.inr (0,(a.1.1,a.1.2.1,()),()))
def oX(x:(List Sb)×al):Option (Bool×al) :=
 ag (Loop (kM x) ((false,(0:Int),()),())) (λa=>ao (de a.1 0)
 (ab (cu (len x.1) 8,()))
 (ab (a.2.1.1,())))
def bc(x:(List Sb)×al):Option ((List Sb)×al) :=
 bif fits (len x.1) then ab (x.1,()) else ah
def mG(x:Sb×al):Option (Bool×al) :=
 ag (ao (ao (cu 1<|len x.1)
 (cu (len x.1) 32)
 false)
 (ag (iY (x.1,([97,98,99,100,101,102,103,104,105,106,107,108,109,110,111,112,113,114,115,116,117,118,119,120,121,122,48,49,50,51,52,53,54,55,56,57,46,95,45]:ay),())) λa=>ab (bH a.1 ([]:ay)))
 (ab false)) (λa=>ab (a,()))
def oY(x:(List Sb)×al)(a:Ba×al):Option ((Ba×al)⊕(Nat×Ba×al)) :=
 ao (ba a.1.2.1<|len x.1)
 (ag (idx x.1 a.1.2.1) λb=>ag (mG (b,())) λc=>ao (nt c.1)
 (ab<|Sum.inr (1,(a.1.2.1,a.1.2.1,()),()))
 (ab<|Sum.inl ((a.1.1,aH i64 a.1.2.1 1,()),())))
 (ab<|Sum.inr (0,(a.1.1,a.1.2.1,()),()))
def fD(x:(List Sb)×al):Option (Int×al) :=
 ao (fits<|len x.1)
 (ag (en x.1 ()) λc=>ag (gl c ()) λa=>ag (Loop (oY x) (((0:Int),(0:Int),()),())) λb=>ao (de b.1 0)
 (ao (ao (nt<|ao (nt<|ba 4<|len x.1)
 (ba (len a)<|len x.1)
 true)
 (cu 0<|-1)
 true)
 (ab ((1:Int),()))
 (ab ((0:Int),())))
 (ao (ao (nt<|ao (nt<|ba 4<|len x.1)
 (ba (len a)<|len x.1)
 true)
 (cu 0 b.2.1.1)
 true)
 (ab ((1:Int),()))
 (ab ((0:Int),()))))
 ah
def qq(x:(List r4)×Sb×al)(a:Ba×Sb×al):Option ((Ba×Sb×al)⊕(Nat×Ba×Sb×al)) :=
 ao (ba a.1.2.1<|len x.1)
 (ag (idx x.1 a.1.2.1) λb=>ao (bH b.1 a.2.1)
 (ab<|Sum.inr (1,(a.1.2.1,a.1.2.1,()),a.2.1,()))
 (ab<|Sum.inl ((a.1.1,aH i64 a.1.2.1 1,()),a.2.1,())))
 (ab<|Sum.inr (0,(a.1.1,a.1.2.1,()),a.2.1,()))
def vS(x:(List r4)×Sb×al):Option (Int×al) :=
 ag (Loop (qq x) (((0:Int),(0:Int),()),x.2.1,())) (λa=>ao (de a.1 0)
 (ab ((-1:Int),()))
 (ab (a.2.1.1,())))
def jJ(b:Sb×(List Sb)×al)(a:Ba×(List Sb)×al):Option ((Ba×(List Sb)×al)⊕(Nat×Ba×(List Sb)×al)) :=
 ao (ba a.1.2.1<|len b.2.1)
 (ag (idx b.2.1 a.1.2.1) λc=>ag (bB (a.2.1,c,())) λd=>ao d.1
 (ab<|Sum.inr (1,(a.1.2.1,a.1.2.1,()),a.2.1,()))
 (ab<|Sum.inl ((a.1.1,aH i64 a.1.2.1 1,()),a.2.1,())))
 (ab<|Sum.inr (0,(a.1.1,a.1.2.1,()),a.2.1,()))
def qs(x:(List r4)×Sb×(List Sb)×al)(c:Int×al)(a:Ba×(List Sb)×al):Option ((Ba×(List Sb)×al)⊕(Nat×Ba×(List Sb)×al)) :=
 ao (ba a.1.2.1<|len x.1)
 (ag (idx x.1 a.1.2.1) λd=>ao (nt<|aS a.1.2.1 c.1)
 (ag (Loop (jJ d) (((0:Int),(0:Int),()),a.2.1,())) λb=>ao (de b.1 0)
 (ao (cu 0<|-1)
 (ab<|Sum.inr (1,((8:Int),a.1.2.1,()),b.2.2.1,()))
 (ab<|Sum.inl ((a.1.1,aH i64 a.1.2.1 1,()),b.2.2.1,())))
 (ao (cu 0 b.2.1.1)
 (ab<|Sum.inr (1,((8:Int),a.1.2.1,()),b.2.2.1,()))
 (ab<|Sum.inl ((a.1.1,aH i64 a.1.2.1 1,()),b.2.2.1,()))))
 (ab<|Sum.inl ((a.1.1,aH i64 a.1.2.1 1,()),a.2.1,())))
 (ab<|Sum.inr (0,(a.1.1,a.1.2.1,()),a.2.1,()))
def gu(x:(List r4)×Sb×(List Sb)×al):Option (Int×al) :=
 ag (fD (x.2.2.1,())) (λa=>ao (nt<|aS a.1 0)
 (ab (a.1,()))
 (ag (vS (x.1,x.2.1,())) λc=>ag (Loop (qs x c) (((0:Int),(0:Int),()),x.2.2.1,())) λb=>ao (de b.1 0)
 (ab ((0:Int),()))
 (ab (b.2.1.1,()))))
def tT(x:Int×Jh×al)(a:(Int×al)×al×(List r4)×al):Option (Qx⊕Qx) :=
 dq (ao (ba a.1.1<|len x.2.1.2.2.2.1)
 (ag (idx x.2.1.2.2.2.1 a.1.1) λb=>ag (bc (b.2.1,())) λc=>ao (fits<|plus (len a.2.2.1)<|len ([(b.1,c.1,())]:List r4))
 (ab<|Sum.inl ((aH i64 a.1.1 1,()),(),app a.2.2.1 ([(b.1,c.1,())]:List r4),()))
 ah)
 (ab<|Sum.inr (0,(a.1.1,()),(),a.2.2.1,())))
def tU(x:Int×Jh×al)(a:(Int×al)×al×(List r4)×al):Option (Qx⊕Qx) :=
 dq (ao (ba a.1.1<|len x.2.1.2.2.1)
 (ag (idx x.2.1.2.2.1 a.1.1) λb=>ag (bc (b.2.1,())) λc=>ao (fits<|plus (len a.2.2.1)<|len ([(b.1,c.1,())]:List r4))
 (ab<|Sum.inl ((aH i64 a.1.1 1,()),(),app a.2.2.1 ([(b.1,c.1,())]:List r4),()))
 ah)
 (ab<|Sum.inr (0,(a.1.1,()),(),a.2.2.1,())))
def tV(x:Int×Jh×al)(a:(Int×al)×al×(List r4)×al):Option (Qx⊕Qx) :=
 dq (ao (ba a.1.1<|len x.2.1.2.1)
 (ag (idx x.2.1.2.1 a.1.1) λb=>ag (ao b.2.2.2.2.2.2.1
 (ag (bc (b.2.2.1,())) λc=>ao (fits<|plus (len a.2.2.1)<|len ([(b.1,c.1,())]:List r4))
 (ab ((),b,(),app a.2.2.1 ([(b.1,c.1,())]:List r4),()))
 ah)
 (ab ((),b,(),a.2.2.1,()))) λc=>ab (Sum.inl ((aH i64 a.1.1 1,()),(),c.2.2.2.1,())))
 (ab<|Sum.inr (0,(a.1.1,()),(),a.2.2.1,())))
def qN(x:Int×Jh×al):Option ((List r4)×al) :=
 ag (ao (aS x.1 1)
 (ag (Loop (tT x) (((0:Int),()),(),([]:List r4),())) λa=>ab ((),(),a.2.2.1,()))
 (ag (ao (aS x.1 2)
 (ag (Loop (tU x) (((0:Int),()),(),([]:List r4),())) λa=>ab ((),(),a.2.2.1,()))
 (ag (ao (aS x.1 3)
 (ag (Loop (tV x) (((0:Int),()),(),([]:List r4),())) λa=>ab ((),(),a.2.2.1,()))
 (ab ((),(),([]:List r4),()))) λa=>ab ((),(),a.2.2.1,()))) λa=>ab ((),(),a.2.2.1,()))) (λa=>ab (a.2.2.1,()))
def nF(x:Sb×al)(a:DV×al):Option Gl :=
 ao (ba a.1.2.1<|len x.1)
 (ag (idx x.1 a.1.2.1) λb=>ao (ao (ao (ao (ao (ao (nt<|ba (u8 b) 97)
 (ba 122<|u8 b)
 true)
 (ao (nt<|ba (u8 b) 48)
 (ba 57<|u8 b)
 true)
 false)
 (nt<|aS (u8 b) 46)
 false)
 (nt<|aS (u8 b) 95)
 false)
 (nt<|aS (u8 b) 45)
 false)
 (ab<|Sum.inr (1,(false,a.1.2.1,()),()))
 (ab<|Sum.inl ((a.1.1,aH i64 a.1.2.1 1,()),())))
 (ab<|Sum.inr (0,(a.1.1,a.1.2.1,()),()))
def oe(x:Sb×al):Option (Bool×al) :=
 ag (Loop (nF x) ((false,(0:Int),()),())) (λa=>ao (de a.1 0)
 (ab (ao (cu 1<|len x.1)
 (cu (len x.1) 32)
 false,()))
 (ab (a.2.1.1,())))
def iN(x:(List Sb)×al)(b:DV×al)(a:DV×al):Option Gl :=
 ao (ba a.1.2.1 b.1.2.1)
 (ag (idx x.1 a.1.2.1) λc=>ag (idx x.1 b.1.2.1) λd=>ao (bH c d)
 (ab<|Sum.inr (1,(false,a.1.2.1,()),()))
 (ab<|Sum.inl ((a.1.1,aH i64 a.1.2.1 1,()),())))
 (ab<|Sum.inr (0,(a.1.1,a.1.2.1,()),()))
def oZ(x:(List Sb)×al)(a:DV×al):Option Gl :=
 ao (ba a.1.2.1<|len x.1)
 (ag (idx x.1 a.1.2.1) λc=>ag (oe (c,())) λd=>ao (nt d.1)
 (ab<|Sum.inr (1,(false,a.1.2.1,()),()))
 (ag (Loop (iN x a) ((a.1.1,(0:Int),()),())) λb=>ao (de b.1 0)
 (ab<|Sum.inl ((b.2.1.1,aH i64 a.1.2.1 1,()),()))
 (ab<|Sum.inr (1,(b.2.1.1,a.1.2.1,()),()))))
 (ab<|Sum.inr (0,(a.1.1,a.1.2.1,()),()))
def ng(x:(List Sb)×al):Option (Bool×al) :=
 ag (Loop (oZ x) ((false,(0:Int),()),())) (λa=>ao (de a.1 0)
 (ab (cu (len x.1) 4,()))
 (ab (a.2.1.1,())))
def r5(x:(List Sb)×al)(a:DV×al):Option Gl :=
 ao (ao (ba a.1.2.1<|len x.1)
 (ba a.1.2.1 8)
 false)
 (ag (idx x.1 a.1.2.1) λb=>ao (ba 100<|len b)
 (ab<|Sum.inr (1,(false,a.1.2.1,()),()))
 (ab<|Sum.inl ((a.1.1,aH i64 a.1.2.1 1,()),())))
 (ab<|Sum.inr (0,(a.1.1,a.1.2.1,()),()))
def lS(x:(List Sb)×al):Option (Bool×al) :=
 ag (Loop (r5 x) ((false,(0:Int),()),())) (λa=>ao (de a.1 0)
 (ab (cu (len x.1) 8,()))
 (ab (a.2.1.1,())))
def eT(x:(List<|Sb×Sb×Sb×al)×al)(a:DV×al):Option Gl :=
 ao (ao (ba a.1.2.1<|len x.1)
 (ba a.1.2.1 8)
 false)
 (ag (idx x.1 a.1.2.1) λc=>ag (ao (nt<|ba 100<|len c.1)
 (ag (idx x.1 a.1.2.1) λb=>ab (ba 200<|len b.2.2.1))
 (ab true)) λb=>ao b
 (ab<|Sum.inr (1,(false,a.1.2.1,()),()))
 (ab<|Sum.inl ((a.1.1,aH i64 a.1.2.1 1,()),())))
 (ab<|Sum.inr (0,(a.1.1,a.1.2.1,()),()))
def eG(x:(List<|Sb×Sb×Sb×al)×al):Option (Bool×al) :=
 ag (Loop (eT x) ((false,(0:Int),()),())) (λa=>ao (de a.1 0)
 (ab (cu (len x.1) 8,()))
 (ab (a.2.1.1,())))
def ja(x:Jh×al)(a:DV×al):Option Gl :=
 ao (ao (ba a.1.2.1<|len x.1.2.1)
 (ba a.1.2.1 40)
 false)
 (ag (idx x.1.2.1 a.1.2.1) λb=>ag (lS (b.2.2.1,())) λc=>ao (nt c.1)
 (ab<|Sum.inr (1,(false,a.1.2.1,()),()))
 (ab<|Sum.inl ((a.1.1,aH i64 a.1.2.1 1,()),())))
 (ab<|Sum.inr (0,(a.1.1,a.1.2.1,()),()))
def jb(x:Jh×al)(a:DV×al):Option Gl :=
 ao (ao (ba a.1.2.1<|len x.1.2.2.1)
 (ba a.1.2.1 40)
 false)
 (ag (idx x.1.2.2.1 a.1.2.1) λd=>ag (lS (d.2.1,())) λe=>ag (ao (nt<|nt e.1)
 (ag (idx x.1.2.2.1 a.1.2.1) λb=>ab (ba 200<|len b.2.2.2.1))
 (ab true)) λb=>ag (ao (nt b)
 (ag (idx x.1.2.2.1 a.1.2.1) λc=>ag (eG (c.2.2.2.2.1,())) λf=>ab (nt f.1))
 (ab true)) λc=>ao c
 (ab<|Sum.inr (1,(false,a.1.2.1,()),()))
 (ab<|Sum.inl ((a.1.1,aH i64 a.1.2.1 1,()),())))
 (ab<|Sum.inr (0,(a.1.1,a.1.2.1,()),()))
def jc(x:Jh×al)(a:DV×al):Option Gl :=
 ao (ao (ba a.1.2.1<|len x.1.2.2.2.1)
 (ba a.1.2.1 40)
 false)
 (ag (idx x.1.2.2.2.1 a.1.2.1) λd=>ag (lS (d.2.1,())) λe=>ag (ao (nt<|nt e.1)
 (ag (idx x.1.2.2.2.1 a.1.2.1) λb=>ab (ba 200<|len b.2.2.2.2.1))
 (ab true)) λb=>ag (ao (nt b)
 (ag (idx x.1.2.2.2.1 a.1.2.1) λc=>ag (eG (c.2.2.2.2.2.1,())) λf=>ab (nt f.1))
 (ab true)) λc=>ao c
 (ab<|Sum.inr (1,(false,a.1.2.1,()),()))
 (ab<|Sum.inl ((a.1.1,aH i64 a.1.2.1 1,()),())))
 (ab<|Sum.inr (0,(a.1.1,a.1.2.1,()),()))
def rf(x:Jh×al):Option (Bool×al) :=
 ag (Loop (ja x) ((false,(0:Int),()),())) (λa=>ao (de a.1 0)
 (ag (Loop (jb x) ((a.2.1.1,(0:Int),()),())) λb=>ao (de b.1 0)
 (ag (Loop (jc x) ((b.2.1.1,(0:Int),()),())) λc=>ao (de c.1 0)
 (ab (ao (ao (cu (len x.1.2.1) 40)
 (cu (len x.1.2.2.1) 40)
 false)
 (cu (len x.1.2.2.2.1) 40)
 false,()))
 (ab (c.2.1.1,())))
 (ab (b.2.1.1,())))
 (ab (a.2.1.1,())))
end Go.Ge
namespace Go.Ge
variable [Lp]
abbrev Tx:=ay
abbrev Nm:=Tx×List Tx×al
def MH(l:List Nm)(id:Tx):Int:=match l.findIdx? (λx=>decide (x.1=id)) with|some i=>(i:Int)|none=>-1
def aeL{l id}{i:Nat}{x}(b:l[i]?=ab x)(c:x.1=id)(d:∀j y,j<i->l[j]?=ab y->decide (y.1=id)=false):MH l id=i:=by
 unfold MH;have:l.findIdx? (λx=>decide (x.1=id))=ab i:=by
  rw[ac5];obtain⟨e,rfl⟩:=hR.1 b;exact⟨e,by simp[c],λj a=>by have:=d j l[j] a (ik ai);simpa using this⟩
 rw[this]
def X6{l id}(a:∀(i:Nat) x,l[i]?=ab x->decide (x.1=id)=false):MH l id=-1:=by
 unfold MH;have:l.findIdx? (λx=>decide (x.1=id))=none:=by
  rw[adb];intro x b;obtain⟨i,c⟩:=bz.1 b;exact a i x c
 rw[this]
def MI(l:List Nm)(id:Tx)(b:l.length<=4294967296):vS (l,id,())=ab (MH l id,()):=by
 unfold vS;rcases iK (f:=qq (l,_)) l (λi=>((0,i,()),id,())) (λ_ x=>decide (x.1=id)) (λi x=>(1,(i,i,()),id,())) _ b (λi x a c d=>by
  unfold qq;rw[aq c,ae,au a,aa,ew,d];by_cases h:x.1=id<;>simp[bH,h]) (by unfold qq;rw[aw];rfl) with ⟨i,x,a,e,g,h⟩|⟨j,h⟩
 .rw[h,aeL a (iq e) g];rfl
 .rw[h,X6 j];rfl
def wZ(l:List Tx)(s:Tx)(c:l.length<=4294967296):bB (l,s,())=ab (decide<|s∈l,()):=by
 unfold bB fb;rcases iK (f:=bW (l,s,())) l (λi=>((0,i,()),())) (λ_ x=>decide (x=s)) (λi x=>(1,(i,i,()),())) _ c (λi x a b d=>by
  unfold bW;rw[aq b,ae,au a,aa,ew,d];by_cases h:x=s
  .simp[bH,h]
  .have g:¬s=x:=λe=>h e.symm;simp[bH,h,g]) (by unfold bW;rw[aw];rfl) with ⟨i,x,a,j,n,h⟩|⟨k,h⟩
 .rw[h];have:s∈l:=by rw[<-iq j];exact bz.2 ⟨i,a⟩
  rw[dD this];show ab (cu 0 i,())=_
  rw[bO ai]
 .rw[h];have:s∉l:=λm=>by
   obtain⟨i,b⟩:=bz.1 m;have:=k i s b;simp at this
  simp[this,de,ao,ag,cu]
def Small(l:List Nm):Prop:=l.length<=4294967296/\∀x∈l,x.2.1.length<=4294967296
set_option maxRecDepth 100000
def allowed:Tx:=[97,98,99,100,101,102,103,104,105,106,107,108,109,110,111,112,113,114,115,116,117,118,119,120,121,122,48,49,50,51,52,53,54,55,56,57,46,95,45]
def Sq(c:UInt8):Bool:=allowed.contains c
def iv(s:Tx):Bool:=decide (1<=s.length)&&decide (s.length<=32)&&s.all Sq
def Z2(a:Tx)(b:List Bool):List Bool:=(a.zipIdx).foldl (λt p=>lP t (u8 p.1) true) b
def EN:List Bool:=List.replicate 256 false
def akD c:u8 c<256:=by unfold u8;have:=c.toNat_lt;omega
def akE c:0<=u8 c:=by unfold u8;omega
def Qy c:within (u8 c) 256=true:=aM (akE c) (akD c)
def aeM{t}(h:t.length=256) c:idx t (u8 c)=ab (t.getD c.toNat false):=nu t false rfl (by have:=c.toNat_lt;omega)
def O1(a:Tx)(j:a.length<=4294967296)(k:∀c∈a,c<128):eF (a,())=ab (Z2 a EN,true,()):=by
 unfold eF;obtain⟨t,o,l,m⟩:=zr (f:=eO (a,())) a (λt i=>((false,i,()),t,())) (λt i x=>lP t _ true) _ (λt _=>t.length=256) j
  (λt i x h n b e=>by
   refine⟨?_,by simp[lP,e]⟩;unfold eO;have d:u8 x<128:=by unfold u8;have:x.toNat<128:=(k x<|bz.2 ⟨i,h⟩);omega
   rw[aq n,ae,au h,aa,ea d,af,Qy,ae,aeM e,aa,aa,aa,b])
  (λt e=>by unfold eO;rw[aw];rfl) EN (by simp[EN])
 have g:Loop _ _=_:=l;rw[show(List.replicate 256 false)=EN from rfl,g];rw[m];rfl
def ai5 c:(Z2 allowed EN).getD c.toNat false=Sq c:=by
 have key:∀n:Fin 256,(Z2 allowed EN).getD n.val false=Sq (UInt8.ofNat n.val):=by decide +kernel
 have:=key ⟨c.toNat,c.toNat_lt⟩;simp_all
def Z3:(Z2 allowed EN).length=256:=by decide +kernel
def MJ{t}(a:t.length=256) c:cI ((u8 c,()),t,())=ab ((t.getD c.toNat false,()),t,()):=by
 unfold cI;rw[Qy,ae,aeM a,aa]
def Sr{t}(a:t.length=256):∀(s:Tx),gQ ((s,()),t,())=ab ((s.dropWhile<|λc=>t.getD c.toNat false,()),t,()):=by
 have key:∀s,Loop fL ((s,()),t,())=ab ((s.dropWhile<|λc=>t.getD c.toNat false,()),t,()):=by
  intro s;induction s with
  | nil =>
    rw[aT];rfl
  | cons c r d =>
    rw[aT];unfold fL;have hi:idx (c::r) 0=ab c:=rfl;rw[Gi,hi,aa,MJ a,aa,Ov];cases e:t.getD c.toNat false with
    | false=>rfl
    | true =>
      rw[ aV aK (by simp[len];omega) (sF _)];have b:sub (c::r) 1 (minus (len (c::r)) 1)=r:=by
       have:=mC (c::r) 1 bb
       grind
      rw[b];show Loop fL _=_
      grind
 intro s;unfold gQ;rw[key,aa]
def aeN{α}{l:List α}(h:l.length<=4294967296):da .i64 (len l) 1=(l.length:Int)-1:=dL (by simp only[len];omega) (by simp only[len];omega)
def O2{t}(f:t.length=256):∀n (s:Tx),s.length=n->n<=4294967296->ed ((s,()),t,())=ab (((s.reverse.dropWhile λc=>t.getD c.toNat false).reverse,()),t,()):=by
 have key:∀n s,s.length=n->n<=4294967296->Loop cJ ((s,()),t,())=ab (((s.reverse.dropWhile λc=>t.getD c.toNat false).reverse,()),t,()):=by
  intro n;induction n with
  | zero =>
    intro s a _;obtain rfl:=zN.1 a;rw[aT];rfl
  | succ n g =>
    intro s a d;obtain⟨r,c,rfl⟩:∃r c,s=r++[c]:=⟨s.dropLast,s.getLast (by intro e;rw[e] at a;simp at a),(ah8 _).symm⟩;rw[aT];unfold cJ;have hlen:da .i64 (len<|r++[c]) 1=r.length:=by rw[aeN ai];simp
    have hi:idx (r++[c]) r.length=ab c:=by rw[vQ];simp
    rw[Gi,show decide _=true from bb,hlen,hi,aa,MJ f,aa,List.reverse_append,List.reverse_singleton,Zo,Ov];cases h:t.getD c.toNat false with
    | false=>simp[nt,ao,dq]
    | true =>
      rw[ (aV aK ai<|by simp only[len,jB];omega)];have b:sub (r++[c]) 0 (minus r.length 0)=r:=by rw[hU];simp
      rw[b];show Loop cJ _=_
      grind
 intro n s a d;unfold ed;rw[key n s a d,aa]
def dropWhile_nil{b:Type}{p}{l:List b}:l.dropWhile p=[]↔l.all p=true:=by
 induction l with
 | nil=>simp
 | cons a r c =>
   rw[Ov]
   grind
def aeO{p}(s:Tx):((s.reverse.dropWhile p).reverse.dropWhile p=[])↔s.all p=true:=by
 constructor
 .intro h;rw[dropWhile_nil] at h;have a:s.reverse.all p=true:=by
   have e:s.reverse.takeWhile p++s.reverse.dropWhile p=s.reverse:=El;rw[<-e,List.all_append];simp_all
  grind
 .intro h;have:s.reverse.dropWhile p=[]:=by rw[dropWhile_nil,List.all_reverse];exact h
  simp_all
def Gm(s:Tx):mG (s,())=ab (iv s,()):=by
 unfold mG iv;have d:cu 1 (len s)=decide (1<=s.length):=by unfold len;apply gX.2;omega
 have f:cu (len s) 32=decide (s.length<=32):=by unfold len;apply gX.2;omega
 rw[d,f];by_cases a:1<=s.length
 .rw[dD a,ae];by_cases c:s.length<=32
  .rw[dD c,ae,show([97,98,99,100,101,102,103,104,105,106,107,108,109,110,111,112,113,114,115,116,117,118,119,120,121,122,48,49,50,51,52,53,54,55,56,57,46,95,45])=allowed from rfl];unfold iY;have g:s≠[]:=by intro e;rw[e] at a;simp at a
   rw[bw g,aA,ae,bw (show allowed≠[] by decide),af,show aS _ 1=false from rfl,af,aa,O1 allowed aK aK,aa];rw[ O2 Z3 s.length s rfl ai,aa];rw[Sr Z3];rw[(funext ai5)];show ab _=_
   have:=aeO (p:=Sq) s;by_cases b:s.all Sq=true
   .rw[di<|this.2 b,b];rfl
   .rw[bw λe=>b (this.1 e)]
    grind
  .rw[cL c,af,aa];simp
 .rw[cL a,af,af,aa];simp
def Vf(c:UInt8):Bool:=ao (ao (ao (ao (ao (nt<|ba (u8 c) 97) (ba 122<|u8 c) true) (ao (nt<|ba (u8 c) 48) (ba 57<|u8 c) true) false) (nt<|aS (u8 c) 46) false) (nt<|aS (u8 c) 95) false) (nt<|aS (u8 c) 45) false
def Vg c:Vf c=!Sq c:=by
 have key:∀n:Fin 256,Vf (UInt8.ofNat n.val)=!Sq (UInt8.ofNat n.val):=by decide +kernel
 have:=key ⟨c.toNat,c.toNat_lt⟩;simp_all
def Bb(s:Tx)(c:s.length<=4294967296):oe (s,())=ab (iv s,()):=by
 unfold oe iv;rcases iK (f:=nF (s,())) s (λi=>((false,i,()),())) (λ_ x=>Vf x) _ _ c (λi x a b d=>by
  unfold nF;rw[aq b,au a,d];show ao (Vf x) _ _=_
  cases Vf x<;>rfl) (by unfold nF;rw[aw];rfl) with ⟨i,x,a,e,l,h⟩|⟨g,h⟩
 .rw[h];have:s.all Sq=false:=by
   rw[Vg] at e
   grind
  rw[this,adA];rfl
 .rw[h];have:s.all Sq=true:=by
   rw[vL];intro x a;obtain⟨i,b⟩:=bz.1 a;have:=g i x b;rw[Vg] at this
   grind
  rw[this,adD];have j:cu 1 (len s)=decide (1<=s.length):=by unfold len;apply gX.2;omega
  have k:cu (len s) 32=decide (s.length<=32):=by unfold len;apply gX.2;omega
  rw[j,k];cases decide (1<=s.length)<;>rfl
end Go.Ge
