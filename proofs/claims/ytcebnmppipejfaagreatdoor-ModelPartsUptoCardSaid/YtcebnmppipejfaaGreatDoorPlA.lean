import Derived.Test.YtcebnmppipejfaaGreatDoorGeI
import Derived.Lib.Repeat
set_option linter.unusedSectionVars false
set_option linter.unusedVariables false
set_option linter.unusedSimpArgs false
set_option linter.defProp false
noncomputable section
open Option renaming some->ab,none->ah
open Go.IntKind (i64 u32)
namespace Go.Ge
variable [Lp]
def ff{a b:Int}(h:-9223372036854775808<=a+b)(c:a+b<=9223372036854775807):aH .i64 a b=a+b:=by
 unfold aH;simp[IntKind.wrap,IntKind.min,IntKind.max,IntKind.signed,IntKind.bits];omega
def dL{a b:Int}(h:-9223372036854775808<=a-b)(c:a-b<=9223372036854775807):db .i64 a b=a-b:=by
 unfold db;simp[IntKind.wrap,IntKind.min,IntKind.max,IntKind.signed,IntKind.bits];omega
def Ch{a b:Int}(h:-9223372036854775808<=a*b)(c:a*b<=9223372036854775807):jH .i64 a b=a*b:=by
 unfold jH;simp[IntKind.wrap,IntKind.min,IntKind.max,IntKind.signed,IntKind.bits];omega
def Ao{a:Int}(h:-9223372036854775808<=a)(b:a<=9223372036854775807):kF .i64 a=a:=by
 unfold kF;simp[IntKind.wrap,IntKind.min,IntKind.max,IntKind.signed,IntKind.bits];omega
def ahm{a:Int}(h:0<=a)(b:a<=18446744073709551615):kF .u64 a=a:=by
 unfold kF;simp[IntKind.wrap,IntKind.min,IntKind.max,IntKind.signed,IntKind.bits];omega
def wrap_u32(a:Int):IntKind.wrap .u32 a=a % 4294967296:=by
 simp[IntKind.wrap,IntKind.min,IntKind.max,IntKind.signed,IntKind.bits]
def Bv(x:Int):BitVec 32:=BitVec.ofInt 32 x
def Can(x:Int):Prop:=0<=x/\x<4294967296
def Vr(a:Int):Can (IntKind.wrap .u32 a):=by rw[wrap_u32];unfold Can;omega
def w9(a:Int):((Bv a).toNat:Int)=a % 4294967296:=by
 unfold Bv;rw[adG];have:0<=a % ((2 ^ 32:Nat):Int):=Int.emod_nonneg _ aK;rw[adF this];rfl
def ahn{a b:Int}(c:Can a)(d:Can b)(h:Bv a=Bv b):a=b:=by
 have e:=w9 a;have f:=w9 b;rw[h] at e;unfold Can at c d;omega
def K1(a:Int):Bv (IntKind.wrap .u32 a)=Bv a:=by
 apply adA;have c:=w9 a;have b:=w9 (IntKind.wrap .u32 a);rw[wrap_u32] at b⊢;omega
def Ye(v:BitVec 32):Bv (v.toNat:Int)=v:=by
 apply adA;have a:=w9 (v.toNat:Int);have:=v.isLt;omega
def bv_and(x y:Int):Bv (jV .u32 x y)=Bv x &&& Bv y:=by unfold jV;rw[K1];exact Ye _
def aag(x y:Int):Bv (zX .u32 x y)=Bv x ||| Bv y:=by unfold zX;rw[K1];exact Ye _
def aeZ(x y:Int):Bv (gQ .u32 x y)=Bv x ^^^ Bv y:=by unfold gQ;rw[K1];exact Ye _
def MU(x y:Int):Can (zX .u32 x y):=Vr _
def SE(x y:Int):Can (gQ .u32 x y):=Vr _
def Yf(x:Int)(n:Nat)(c:n<=32):Bv (nW .u32 x n)=Bv x <<< n:=by
 unfold nW;rw[K1];apply adA;have a:=w9 (x*2 ^ (min (n:Int).toNat IntKind.u32.bits));have b:=w9 x;have e:min (n:Int).toNat IntKind.u32.bits=n:=by simp[IntKind.bits];omega
 rw[e] at a⊢;rw[BitVec.toNat_shiftLeft,Nat.shiftLeft_eq];have d:(((Bv x).toNat*2 ^ n % 2 ^ 32:Nat):Int)=(x*2 ^ n) % 4294967296:=by
  rw[Int.natCast_emod,Int.natCast_mul,b,Int.natCast_pow];show(x % 4294967296*2 ^ n) % 4294967296=_
  rw[Int.mul_emod,Int.emod_emod_of_dvd _ (Int.dvd_refl _),<-Int.mul_emod]
 omega
def Yg(x y:Int):zX .u32 x y=zX .u32 y x:=ahn (MU _ _) (MU _ _) (by rw[aag,aag,BitVec.or_comm])
def Vs(x y:Int):aH .u32 x y=aH .u32 y x:=by unfold aH;rw[Int.add_comm]
def akZ(e f g:Int):gQ .u32 g (jV .u32 e<|gQ .u32 f g)=gQ .u32 (jV .u32 e f) (jV .u32 (gQ .u32 4294967295 e) g):=by
 refine ahn (SE _ _) (SE _ _) ?_;simp only[aeZ,bv_and];have h:Bv 4294967295=BitVec.allOnes 32:=aK;rw[h]
 ext i hi
 simp only[BitVec.getElem_xor,BitVec.getElem_and,BitVec.getElem_allOnes];cases (Bv e)[i]<;>cases (Bv f)[i]<;>cases (Bv g)[i]<;>rfl
def ajq(a b c:Int):zX .u32 (jV .u32 a b) (jV .u32 c<|zX .u32 a b)=gQ .u32 (gQ .u32 (jV .u32 a b)<|jV .u32 a c) (jV .u32 b c):=by
 refine ahn (MU _ _) (SE _ _) ?_;simp only[aeZ,bv_and,aag]
 ext i hi
 simp only[BitVec.getElem_xor,BitVec.getElem_and,BitVec.getElem_or];cases (Bv a)[i]<;>cases (Bv b)[i]<;>cases (Bv c)[i]<;>rfl
def aho(a b c d:Int):zX .u32 (nW .u32 (zX .u32 (nW .u32 (zX .u32 (nW .u32 (zX .u32 (nW .u32 0 8) a) 8) b) 8) c) 8) d=zX .u32 (zX .u32 (zX .u32 (nW .u32 a 24)<|nW .u32 b 16)<|nW .u32 c 8) d:=by
 refine ahn (MU _ _) (MU _ _) ?_;have g:∀x,Bv (nW .u32 x 8)=Bv x <<< 8:=λx=>Yf x 8 aK;have e:∀x,Bv (nW .u32 x 16)=Bv x <<< 16:=λx=>Yf x 16 aK;have f:∀x,Bv (nW .u32 x 24)=Bv x <<< 24:=λx=>Yf x 24 aK;simp only[aag,g,e,f];have z:Bv 0=0#32:=aK;rw[z];simp[BitVec.shiftLeft_or_distrib,<-BitVec.shiftLeft_add]
def aP{a b:Int}(h:a<b):aZ a b=true:=by simp[aZ,h]
def aI{a b:Int}(h:b<=a):aZ a b=false:=by simp[aZ];omega
def bO{a b:Int}(h:a<=b):cj a b=true:=by simp[cj,h]
def ea{a b:Int}(h:b<a):cj a b=false:=by simp[cj];omega
def aE{a b:Int}(h:a=b):aS a b=true:=by simp[aS,h]
def ax{a b:Int}(h:a≠b):aS a b=false:=by simp[aS,h]
def aM{i n:Int}(a:0<=i)(b:i<n):within i n=true:=by simp[within,a,b]
def aU{i j n:Int}(a:0<=i)(b:i<=j)(c:j<=n):inside i j n=true:=by simp[inside,a,b,c]
def ec{n:Int}(h:n<=4294967296):fits n=true:=by simp[fits,h]
def dA{S:Type}(s:S):dn (ab (.inl s:S⊕(Nat×S)))=ab (.inl s):=rfl
def lh{S:Type}(n:Nat)(s:S):dn (ab (.inr (n,s):S⊕(Nat×S)))=ab (.inr s):=rfl
def fL{a:Type}(l:List a)(d:a){i:Nat}(h:i<l.length):idx l (i:Int)=ab (l.getD i d):=by
 rw[vW,ia h,Xd,ia h];rfl
def nB{a:Type}(l:List a)(d:a){i:Int}{k:Nat}(e:i=k)(h:k<l.length):idx l i=ab (l.getD k d):=by subst e;exact fL l d h
def ig{a:Type}(l:List a)(i:Nat)(x:a):lS l (i:Int) x=l.set i x:=by simp[lS]
def uV{d c R:Type}(a:Nat->c->d->Option (c⊕R))(b:Nat->c->R):List d->Nat->c->Option R
 | [],i,s=>ab (b i s)
 | x::r,i,s=>match a i s x with
   | none=>ah
   | some (.inl e)=>uV a b r (i+1) e
   | some (.inr y)=>ab y
def pZ{p j S R:Type}{f:S->Option (S⊕R)}(l:List p)(m:j->Nat->S)(a:Nat->j->p->Option (j⊕R))(c:Nat->j->R)(b:Nat->j->Prop)
  (d:∀s i x,l[i]?=ab x->i<l.length->b i s->f (m s i)=(a i s x).map λq=>match q with|.inl e=>.inl (m e<|i+1)|.inr y=>.inr y)
  (n:∀s i x e,l[i]?=ab x->b i s->a i s x=ab (.inl e)->b (i+1) e)
  (o:∀s,b l.length s->f (m s l.length)=ab (.inr<|c l.length s)) (g:∀s i x,l[i]?=ab x->b i s->a i s x≠ah) :
  ∀s,b 0 s->Loop f (m s 0)=uV a c l 0 s:=by
 have key:∀(rest pre:List p) (s:j),l=pre++rest->b pre.length s->Loop f (m s pre.length)=uV a c rest pre.length s:=by
  intro rest;induction rest with
  | nil =>
    intro pre s k h;rw[zi] at k;subst k;rw[aT,o s h];rfl
  | cons x r v =>
    intro pre s k h;have hx:l[pre.length]?=ab x:=by rw[k];simp
    have t:pre.length<l.length:=by rw[k];simp
    rw[aT,d s pre.length x hx t h];unfold uV;cases u:a pre.length s x with
    | none=>exact absurd u (g s _ x hx h)
    | some q =>
      cases q with
      | inr y=>rfl
      | inl e =>
        have:=v (pre++[x]) e (by rw[k];simp) (by rw[hY];exact n s _ x e hx h u);rw[hY] at this;exact this
 intro s h;exact key l [] s rfl h
def Gm{a:Type}(i:Nat)(l:List a):aZ (i:Int) (len l)=decide (i<l.length):=by simp[aZ,len]
def Gn{a:Type}(l:List a):aZ (0:Int) (len l)=decide (0<l.length):=Gm 0 l
def Ap{a:Type}(i:Nat)(l:List a):cj (len l) (i:Int)=decide (l.length<=i):=by simp[cj,len]
def Gp{a b:Type}(l:List a)(m:List b):aZ (len l) (len m)=decide (l.length<m.length):=by simp[aZ,len]
def MV{a b:Type}(l:List a)(m:List b):cj (len l) (len m)=decide (l.length<=m.length):=by simp[cj,len]
def Vt{a b:Type}(l:List a)(m:List b):aS (len l) (len m)=decide (l.length=m.length):=by unfold aS len;apply hH.2;omega
def bo{a b:Type}{l:List a}{m:List b}(h:l.length+m.length<=4294967296):fits (plus (len l)<|len m)=true:=by
 apply ec;simp only[plus,len];omega
def eA{a:Type}(c:Bool)(x y:a):ao c x y=if c=true then x else y:=by cases c<;>rfl
def MW{a:Type}(p:Prop)[Decidable p](x y:a):ao (decide p) x y=if p then x else y:=by by_cases h:p<;>simp[h,ao]
def tX{a b:aw}:bG a b=decide (a=b):=rfl
def bw{a b:aw}(h:a≠b):bG a b=false:=by simp[bG,h]
def cN{a b:aw}(h:a=b):bG a b=true:=by simp[bG,h]
def D6{c:UInt8}{n:UInt8}:aS (u8 c) (n.toNat:Int)=decide (c=n):=by
 unfold aS u8;by_cases h:c=n
 .simp[h]
 .have:c.toNat≠n.toNat:=λe=>h (Uh.1 e);simp[h];omega
def ij{a:Type}(l:List a)(n:Nat):sub l 0 (minus (n:Int) 0)=l.take n:=by
 unfold sub minus;simp
def Dg{a b:Type}(l:List a)(m:List b):sub l 0 (minus (len m) 0)=l.take m.length:=ij l m.length
def mG{a:Type}(l:List a)(n:Nat)(h:n<=l.length):sub l (n:Int) (minus (len l) (n:Int))=l.drop n:=by
 unfold sub minus len;rw[pS];apply Hp;rw[nV];omega
def bW:da 0 0=true:=rfl
def eZ:da 1 0=false:=rfl
def aG{a:Type}{l:List a}{i:Nat}{x:a}(h:l[i]?=ab x):i<l.length:=(ib.1 h).1
def sub_one{a:Type}{l:List a}{i:Nat}{x:a}(h:l[i]?=ab x):sub l (i:Int) (minus ((i+1:Nat):Int) (i:Int))=[x]:=by
 unfold sub minus;rw[show((i+1:Nat):Int)-(i:Int)=1 by omega,pS];obtain⟨b,rfl⟩:=ib.1 h;rw[zg b];rfl
def Yh{a b n:Nat}(h:a<=b)(k:b<=n):inside (a:Int) (b:Int) (n:Int)=true:=aU ai ai ai
def mf{c:Type}{a b:Nat}{l:List c}(h:a<=b)(k:b<=l.length):inside (a:Int) (b:Int) (len l)=true:=Yh h k
def au{α:Type}{l:List α}{i:Nat}{x:α}(h:l[i]?=ab x):idx l (i:Int)=ab x:=by rw[vW,h]
def aq{a:Type}{l:List a}{i:Nat}(h:i<l.length):aZ (i:Int) (len l)=true:=by rw[Gm,dE h]
def ay{α:Type}{l:List α}:aZ (l.length:Int) (len l)=false:=by rw[Gm,cL ai]
def vm{a:Type}(l m:List a):app l m=l++m:=rfl
def Vu(b:Bool):nt b=!b:=rfl
def bE{a:Type}(l:List a):len l=(l.length:Int):=rfl
def ahp(y:aw):fq [] y=decide (y≠[]):=by cases y<;>simp[fq,Op.bytesLess]
def MX(x:aw):fq x []=false:=by cases x<;>simp[fq,Op.bytesLess]
def Gq(a b:UInt8)(x y:aw):fq (a::x) (b::y)=(decide (a<b)||(a==b&&fq x y)):=by simp[fq,Op.bytesLess]
def abH(a:UInt8):¬a<a:=UInt8.lt_irrefl a
def ajr(a b:UInt8):a<b\/a=b\/b<a:=by
 rcases Qm a.toNat b.toNat with h|h|h
 .exact .inl h
 .exact .inr (.inl<|Uh.1 h)
 .exact .inr (.inr h)
def kt:∀x:aw,fq x x=false:=by
 intro x;induction x with
 | nil=>rfl
 | cons a x b=>rw[Gq,b];simp[abH]
def Dh:∀{x y z:aw},fq x y=true->fq y z=true->fq x z=true:=by
 intro x;induction x with
 | nil =>
   intro y z h k;cases z with
   | nil=>rw[MX] at k;cases k
   | cons c z=>rfl
 | cons a x d =>
   intro y z h k;cases y with
   | nil=>rw[MX] at h;cases h
   | cons b y =>
     cases z with
     | nil=>rw[MX] at k;cases k
     | cons c z =>
       rw[Gq] at h k⊢;simp only[BS,pR,gw,Un] at h k⊢;rcases h with h|⟨rfl,h⟩
       .rcases k with k|⟨rfl,k⟩
        .exact .inl (UInt8.lt_trans h k)
        .exact .inl h
       .rcases k with k|⟨rfl,k⟩
        .exact .inl k
        .exact .inr ⟨rfl,d h k⟩
def Di:∀(x y:aw),fq x y=true\/x=y\/fq y x=true:=by
 intro x;induction x with
 | nil=>intro y;cases y<;>simp[ahp]
 | cons a x c =>
   intro y;cases y with
   | nil=>exact .inr (.inr rfl)
   | cons b y =>
     rw[Gq,Gq];simp only[BS,pR,gw,Un];rcases ajr a b with h|rfl|h
     .exact .inl (.inl h)
     .rcases c y with h|rfl|h
      .exact .inl (.inr ⟨rfl,h⟩)
      .exact .inr (.inl rfl)
      .exact .inr (.inr<|.inr ⟨rfl,h⟩)
     .exact .inr (.inr<|.inl h)
def rj{x y:aw}(h:fq x y=true):fq y x=false:=by
 cases k:fq y x with
 | false=>rfl
 | true=>have:=Dh h k;rw[kt] at this;cases this
def EX{x y:aw}(h:fq x y=true):x≠y:=λe=>by rw[e,kt] at h;cases h
def Yi(x y:aw):nt (oor (fq x y)<|bG x y)=fq y x:=by
 rcases Di x y with h|rfl|h
 .rw[h,rj h];rfl
 .rw[rW,kt];rfl
 .rw[h,rj h,bw λe=>EX h e.symm];rfl
def Vv(x y:aw):Int:=if fq x y=true then -1 else if x=y then 0 else 1
def cmpL:List aw->List aw->Int
 | [],[]=>0
 | [],_::_=>-1
 | _::_,[]=>1
 | a::x,b::y=>if a=b then cmpL x y else if fq a b=true then -1 else 1
def ng:∀x,cmpL x x=0:=by
 intro x;induction x with
 | nil=>rfl
 | cons a x b=>rw[cmpL,aW rfl];exact b
def abI:∀{x y},cmpL x y=0->x=y:=by
 intro x;induction x with
 | nil=>intro y h;cases y with|nil=>rfl|cons b y=>cases h
 | cons a x c =>
   intro y h;cases y with
   | nil=>cases h
   | cons b y =>
     rw[cmpL] at h;split at h
     .rename_i e;rw[e,c h]
     .split at h<;>cases h
def ae0:∀x y,cmpL x y=- cmpL y x:=by
 intro x;induction x with
 | nil=>intro y;cases y<;>rfl
 | cons a x c =>
   intro y;cases y with
   | nil=>rfl
   | cons b y =>
     rw[cmpL,cmpL];by_cases e:a=b
     .rw[aW e,aW e.symm,c y]
     .have d:¬b=a:=λq=>e q.symm;rw[aQ e,aQ d];rcases Di a b with h|h|h
      .rw[aW h,aQ (by rw[rj h];simp)]
      .exact absurd h e
      .rw[aQ<|by rw[rj h];simp,aW h];rfl
def tm:∀{x y z},cmpL x y<0->cmpL y z<0->cmpL x z<0:=by
 intro x;induction x with
 | nil =>
   intro y z h k;cases z with
   | nil=>cases y with|nil=>exact absurd k (by simp[cmpL])|cons b y=>exact absurd k (by simp[cmpL])
   | cons c z=>exact(by decide:(-1:Int)<0)
 | cons a x j =>
   intro y z h k;cases y with
   | nil=>exact absurd h (by simp[cmpL])
   | cons b y =>
     cases z with
     | nil=>exact absurd k (by simp[cmpL])
     | cons c z =>
       rw[cmpL] at h k⊢;by_cases e:a=b
       .subst e;rw[aW rfl] at h;by_cases d:a=c
        .subst d;rw[aW rfl] at k⊢;exact j h k
        .rw[aQ d] at k⊢;exact k
       .rw[aQ e] at h;have g:fq a b=true:=by
         cases q:fq a b with
         | true=>rfl
         | false=>rw[q,aQ aY] at h;exact absurd h aK
        by_cases d:b=c
        .subst d;rw[aQ e];exact h
        .rw[aQ d] at k;have i:fq b c=true:=by
          cases q:fq b c with
          | true=>rfl
          | false=>rw[q,aQ aY] at k;exact absurd k aK
         have f:=Dh g i;rw[aQ<|EX f,aW f];decide
def Vw(x r:List aw)(h:r≠[]):cmpL x (x++r)=-1:=by
 induction x with
 | nil=>cases r with|nil=>exact absurd rfl h|cons a r=>rfl
 | cons a x b=>rw[JW,cmpL,aW rfl];exact b
def ae1{a b:Type}{x:List a}{y:List b}{i:Nat}{p:a×b}(h:(x.zip y)[i]?=ab p):x[i]?=ab p.1/\y[i]?=ab p.2:=by
 rw[adu] at h;exact h
def Vx{c:Type}[DecidableEq c]:∀(x y:List c),(x.zip y).all (λp=>decide (p.1=p.2))=decide (x.take (min x.length y.length)=y.take (min x.length y.length)):=by
 intro x;induction x with
 | nil=>intro y;simp
 | cons a x d =>
   intro y;cases y with
   | nil=>simp
   | cons b y =>
     rw[List.zip_cons_cons,adU,d y];simp only[eU,Nat.add_min_add_right,Ud];by_cases e:a=b
     .subst e;simp
     .simp[e]
def SF{a:Type}[DecidableEq a]{x y:List a}(h:x.length=y.length):(x.zip y).all (λp=>decide (p.1=p.2))=decide (x=y):=by
 rw[Vx,h,adZ,DG,<-h,DG]
def ob{a b:Type}{o:Option a}{x:a}{f:a->Option b}{r:Option b}(h:o=ab x)(k:f x=r):ag o f=r:=by rw[h];exact k
def ae2{f:Type}(l:List f)(p:Nat->f->Bool) :
  (∃i x,l[i]?=ab x/\p i x=true/\∀j y,j<i->l[j]?=ab y->p j y=false)\/∀i x,l[i]?=ab x->p i x=false:=by
 by_cases h:∃i x,l[i]?=ab x/\p i x=true
 .left;have key:∀n i x,i<=n->l[i]?=ab x->p i x=true->∃i x,l[i]?=ab x/\p i x=true/\∀j y,j<i->l[j]?=ab y->p j y=false:=by
   intro n;induction n with
   | zero =>
     intro i x g a b;obtain rfl:i=0:=ai;exact⟨0,x,a,b,λj y d=>ai⟩
   | succ n m =>
     intro i x g a b;by_cases k:∃j y,j<i/\l[j]?=ab y/\p j y=true
     .obtain⟨j,y,d,e,c⟩:=k;exact m j y ai e c
     .refine⟨i,x,a,b,λj y d e=>?_⟩;cases c:p j y with
      | false=>rfl
      | true=>exact absurd ⟨j,y,d,e,c⟩ k
  obtain⟨i,x,a,b⟩:=h;exact key i i x (cq _) a b
 .right;intro i x a;cases c:p i x with
  | false=>rfl
  | true=>exact absurd ⟨i,x,a,c⟩ h
def iQ{o S R:Type}{f:S->Option (S⊕R)}(l:List o)(b:Int->S)(p:Nat->o->Bool)(c:Nat->o->R)(d:R)(s:l.length<=4294967296)
  (a:∀i x,l[i]?=ab x->i<l.length->aH .i64 (i:Int) 1=((i+1:Nat):Int)->f (b (i:Int))=ab (if p i x=true then .inr (c i x) else .inl (b ((i+1:Nat):Int))))
  (g:f (b (l.length:Int))=ab (.inr d)) :
  (∃i x,l[i]?=ab x/\p i x=true/\(∀j y,j<i->l[j]?=ab y->p j y=false)/\Loop f (b 0)=ab (c i x))\/((∀i x,l[i]?=ab x->p i x=false)/\Loop f (b 0)=ab d):=by
 have h:∀i x,l[i]?=ab x->p i x=false->f (b (i:Int))=ab (.inl<|b ((i+1:Nat):Int)):=λi x e n=>by
  have hi:=aG e;rw[a i x e hi<|aL ai,n];rfl
 rcases ae2 l p with ⟨i,x,e,n,k⟩|r
 .left;refine⟨i,x,e,n,k,?_⟩;have hi:=aG e;refine dh i (λj:Nat=>b (j:Int)) (λj q=>?_) ?_
  .have m:j<l.length:=ai;exact h j l[j] (ia m) (k j _ q<|ia m)
  .rw[a i x e hi<|aL ai,n];rfl
 .right;refine⟨r,dh l.length (λj:Nat=>b (j:Int)) (λj k=>?_) g⟩;exact h j l[j] (ia k) (r j _<|ia k)
def rX{q S R:Type}{f:S->Option (S⊕R)}(l:List q)(n:Nat)(d:Int->S)(p:Nat->q->Bool)(a:Nat->q->R)(b:Nat->R)(u:min n l.length<=4294967296)
  (c:∀i x,l[i]?=ab x->i<l.length->i<n->aH .i64 (i:Int) 1=((i+1:Nat):Int)->f (d (i:Int))=ab (if p i x=true then .inr (a i x) else .inl (d ((i+1:Nat):Int))))
  (e:f (d ((min n l.length:Nat):Int))=ab (.inr<|b<|min n l.length)) :
  (∃i x,i<n/\l[i]?=ab x/\p i x=true/\(∀j y,j<i->l[j]?=ab y->p j y=false)/\Loop f (d 0)=ab (a i x))\/((∀i x,i<n->l[i]?=ab x->p i x=false)/\Loop f (d 0)=ab (b<|min n l.length)):=by
 have m:∀i x,(l.take n)[i]?=ab x↔(i<n/\l[i]?=ab x):=λi x=>by
  rw[jU];by_cases h:i<n
  .simp[h]
  .simp[h]
 have hlen:(l.take n).length=min n l.length:=km;rcases iQ (f:=f) (l.take n) d p a (b<|min n l.length) (by rw[hlen];exact u) (λi x g t k=>by
  obtain⟨r,o⟩:=(m i x).1 g;exact c i x o (aG o) r k) (by rw[hlen];exact e) with ⟨i,x,g,v,w,h⟩|⟨z,h⟩
 .obtain⟨r,o⟩:=(m i x).1 g;exact .inl ⟨i,x,r,o,v,λj y s A=>w j y s ((m j y).2 ⟨ai,A⟩),h⟩
 .exact .inr ⟨λi x t g=>z i x ((m i x).2 ⟨t,g⟩),h⟩
def zB{n e S R:Type}{f:S->Option (S⊕R)}(l:List n)(j:e->Int->S)(b:e->Nat->n->e)(g:e->R)(c:e->Nat->Prop)(B:l.length<=4294967296)
  (h:∀s i x,l[i]?=ab x->i<l.length->aH .i64 (i:Int) 1=((i+1:Nat):Int)->c s i->f (j s (i:Int))=ab (.inl<|j (b s i x) ((i+1:Nat):Int))/\c (b s i x) (i+1))
  (k:∀s,c s l.length->f (j s (l.length:Int))=ab (.inr<|g s)) (s:e) (v:c s 0):∃t,c t l.length/\Loop f (j s 0)=ab (g t)/\t=(l.zipIdx).foldl (λa p=>b a p.2 p.1) s:=by
 have key:∀(rest pre:List n) (s:e),l=pre++rest->c s pre.length->∃t,c t l.length/\Loop f (j s (pre.length:Int))=ab (g t)/\t=(rest.zipIdx pre.length).foldl (λa p=>b a p.2 p.1) s:=by
  intro rest;induction rest with
  | nil =>
    intro pre s d m;rw[zi] at d;subst d;exact⟨s,m,by rw[aT,k s m];rfl,rfl⟩
  | cons x r w =>
    intro pre s d m;have hx:l[pre.length]?=ab x:=by rw[d];simp
    have o:=aG hx;obtain⟨y,z⟩:=h s pre.length x hx o (aL ai) m;obtain⟨t,A,q,u⟩:=w (pre++[x]) (b s pre.length x) (by rw[d];simp) (by rw[hY];exact z);rw[hY] at q u;exact⟨t,A,by rw[aT,y];exact q,u⟩
 exact key l [] s rfl v
def rY{e h S R:Type}{f:S->Option (S⊕R)}(l:List e)(b:List h->Int->S)(g:e->List h)(c:R)(m:l.length<=4294967296)
  (a:∀i x,l[i]?=ab x->i<l.length->aH .i64 (i:Int) 1=((i+1:Nat):Int)->f (b ((l.take i).flatMap g) (i:Int))=ab (.inl<|b ((l.take i).flatMap g++g x) ((i+1:Nat):Int)))
  (d:f (b (l.flatMap g) (l.length:Int))=ab (.inr c)):Loop f (b [] 0)=ab c:=by
 refine dh l.length (λj:Nat=>b ((l.take j).flatMap g) (j:Int)) (λj k=>?_) (by simp only[DG];exact d);have hx:l[j]?=ab l[j]:=ia k;have:=a j l[j] hx k (aL ai);rw[this,ED,hx,List.flatMap_append];simp
def cO{a:Type}{l:List a}(h:l.length<=4294967296):fits (len l)=true:=abC h
def bz{a:Type}{l:List a}{x:a}:x∈l↔∃i:Nat,l[i]?=ab x:=by rw[Qk]
end Go.Ge
namespace Go.Ge
abbrev Sb:=aw
variable [Lp]
def fM:(Ty.pair .str<|.pair (.int .u8) .unit).den->Option (Ty.pair (.int .i64) .unit).den:=λx=>ab (Lib.indexByte x.1 (show Int from x.2.1).toNat.toUInt8,())
def gn(s:aw)(c:Int):Option aw:=if c<0\/140737488355328<s.length*c.toNat then ah else ab (Lib.repeatL s c.toNat)
def oT:aw×Int×al->Option (aw×al):=λx=>(gn x.1 x.2.1).map λy=>(y,())
def sW{s:aw}{c:Int}{y:aw}(h:gn s c=ab y):0<=c/\s.length*c.toNat<=140737488355328/\y=Lib.repeatL s c.toNat:=by
 unfold gn at h;split at h
 .cases h
 .next a =>
  have:=aR h;exact⟨ai,ai,this.symm⟩
def Ci{s:aw}{c:Int}{y:aw}(h:gn s c=ab y):y.length<=maxLen:=by
 obtain⟨_,a,rfl⟩:=sW h;rw[Lib.repeatL_length,Uj];exact jb a aK
def vn:aw×aw×al->Option ((List aw)×al):=λx=>(Df x.1 x.2.1).map λy=>(y,())
def lj:(List aw)×aw×al->Option (aw×al):=λx=>(EW x.1 x.2.1).map λy=>(y,())
set_option maxRecDepth 100000
abbrev EY:=((Bool×(List<|Int)×al)×(List<|Int)×Int×al)
abbrev MY:=(((Int×al)×(List<|Int)×al)⊕((Int×al)×(List<|Int)×al))
abbrev ahq:=(Int×Int×Int×Int×Int×Int×Int×Int×Int×al)
abbrev SG:=((List<|Int)×al)
def uW(x:al):Option SG :=
 ab (([(1779033703:Int),3144134277,1013904242,2773480762,1359893119,2600822924,528734635,1541459225]:List (Int)),())
def Cj(x:al):Option SG :=
 ab (([(1116352408:Int),1899447441,3049323471,3921009573,961987163,1508970993,2453635748,2870763221,3624381080,310598401,607225278,1426881987,1925078388,2162078206,2614888103,3248222580,3835390401,4022224774,264347078,604807628,770255983,1249150122,1555081692,1996064986,2554220882,2821834349,2952996808,3210313671,3336571891,3584528711,113926993,338241895,666307205,773529912,1294757372,1396182291,1695183700,1986661051,2177026350,2456956037,2730485921,2820302411,3259730800,3345764771,3516065817,3600352804,4094571909,275423344,430227734,506948616,659060556,883997877,958139571,1322822218,1537002063,1747873779,1955562222,2024104815,2227730452,2361852424,2428436474,2756734187,3204031479,3329325298]:List (Int)),())
def ku(x:Int×Int×al):Option (Int×al) :=
 ao (aZ (jV IntKind.u64 (kF IntKind.u64 x.2.1) 31) 0)
 ah
 (ao (aZ (db IntKind.u64 32<|jV IntKind.u64 (kF IntKind.u64 x.2.1) 31) 0)
 ah
 (ab (zX u32 (nW u32 x.1<|jV IntKind.u64 (kF IntKind.u64 x.2.1) 31)<|mE u32 x.1<|db IntKind.u64 32<|jV IntKind.u64 (kF IntKind.u64 x.2.1) 31,())))
def cr(x:Int×Int×al):Option (Int×al) :=
 ag (ku (x.1,db i64 0 x.2.1,())) (λa=>ab (a.1,()))
def jZ(x:(List<|Int)×al)(a:(Int×al)×(List<|Int)×al)(b:(Int×al)×(List<|Int)×al):Option MY :=
 dn (ao (aZ b.1.1<|minus (aH i64 (jH i64 4 a.1.1) 4)<|jH i64 4 a.1.1)
 (ao (within b.1.1<|minus (aH i64 (jH i64 4 a.1.1) 4)<|jH i64 4 a.1.1)
 (ag (idx x.1<|plus (jH i64 4 a.1.1) b.1.1) λc=>ao (within a.1.1 64)
 (ag (idx b.2.1 a.1.1) λd=>ao (aZ 8 0)
 ah
 (ao (within a.1.1 64)
 (ag (idx b.2.1 a.1.1) λe=>ag (idx b.2.1 a.1.1) λf=>ag (idx b.2.1 a.1.1) λg=>ab (Sum.inl ((aH i64 b.1.1 1,()),lS b.2.1 a.1.1<|zX u32 (nW u32 d 8)<|kF u32 c,())))
 ah))
 ah)
 ah)
 (ab<|Sum.inr (0,(b.1.1,()),b.2.1,())))
def nE(x:(List<|Int)×al)(a:(Int×al)×(List<|Int)×al):Option MY :=
 dn (ao (aZ a.1.1 16)
 (ao (inside (jH i64 4 a.1.1) (aH i64 (jH i64 4 a.1.1) 4) 64)
 (ag (Loop (jZ x a) (((0:Int),()),a.2.1,())) λb=>ab (Sum.inl ((aH i64 a.1.1 1,()),b.2.1,())))
 ah)
 (ab<|Sum.inr (0,(a.1.1,()),a.2.1,())))
def nF(a:(Int×al)×(List<|Int)×al):Option MY :=
 dn (ao (aZ a.1.1 64)
 (ao (within (db i64 a.1.1 2) 64)
 (ag (idx a.2.1<|db i64 a.1.1 2) λb=>ao (within (db i64 a.1.1 15) 64)
 (ag (idx a.2.1<|db i64 a.1.1 15) λc=>ag (cr (c,(7:Int),())) λe=>ag (cr (c,(18:Int),())) λf=>ao (aZ 3 0)
 ah
 (ag (cr (b,(17:Int),())) λg=>ag (cr (b,(19:Int),())) λh=>ao (aZ 10 0)
 ah
 (ao (within (db i64 a.1.1 7) 64)
 (ag (idx a.2.1<|db i64 a.1.1 7) λi=>ao (within (db i64 a.1.1 16) 64)
 (ag (idx a.2.1<|db i64 a.1.1 16) λd=>ao (within a.1.1 64)
 (ag (idx a.2.1 a.1.1) λj=>ag (idx a.2.1 a.1.1) λk=>ag (idx a.2.1 a.1.1) λl=>ab (Sum.inl ((aH i64 a.1.1 1,()),lS a.2.1 a.1.1<|aH u32 (aH u32 (aH u32 (gQ u32 (gQ u32 g.1 h.1)<|mE u32 b 10) i)<|gQ u32 (gQ u32 e.1 f.1)<|mE u32 c 3) d,())))
 ah)
 ah)
 ah)))
 ah)
 ah)
 (ab<|Sum.inr (0,(a.1.1,()),a.2.1,())))
def rZ(x:(List<|Int)×al):Option SG :=
 ag (Loop (nE x) (((0:Int),()),([(0:Int),0,0,0,0,0,0,0,0,0,0,0,0,0,0,0,0,0,0,0,0,0,0,0,0,0,0,0,0,0,0,0,0,0,0,0,0,0,0,0,0,0,0,0,0,0,0,0,0,0,0,0,0,0,0,0,0,0,0,0,0,0,0,0]:List (Int)),())) (λa=>ag (Loop (nF) (((16:Int),()),a.2.1,())) λb=>ab (b.2.1,()))
def ik(j:(List<|Int)×al)(k:(List<|Int)×al)(a:ahq×al):Option ((ahq×al)⊕(ahq×al)) :=
 dn (ao (aZ a.1.2.2.2.2.2.2.2.2.1 64)
 (ag (cr (a.1.2.2.2.2.1,(6:Int),())) λb=>ag (cr (a.1.2.2.2.2.1,(11:Int),())) λc=>ag (cr (a.1.2.2.2.2.1,(25:Int),())) λd=>ao (within a.1.2.2.2.2.2.2.2.2.1 64)
 (ag (idx j.1 a.1.2.2.2.2.2.2.2.2.1) λe=>ao (within a.1.2.2.2.2.2.2.2.2.1 64)
 (ag (idx k.1 a.1.2.2.2.2.2.2.2.2.1) λf=>ag (cr (a.1.1,(2:Int),())) λg=>ag (cr (a.1.1,(13:Int),())) λh=>ag (cr (a.1.1,(22:Int),())) λi=>ab (Sum.inl ((aH u32 (aH u32 (aH u32 (aH u32 (aH u32 a.1.2.2.2.2.2.2.2.1<|gQ u32 (gQ u32 b.1 c.1) d.1)<|gQ u32 a.1.2.2.2.2.2.2.1<|jV u32 a.1.2.2.2.2.1<|gQ u32 a.1.2.2.2.2.2.1 a.1.2.2.2.2.2.2.1) e) f)<|aH u32 (gQ u32 (gQ u32 g.1 h.1) i.1)<|zX u32 (jV u32 a.1.1 a.1.2.1)<|jV u32 a.1.2.2.1<|zX u32 a.1.1 a.1.2.1,a.1.1,a.1.2.1,a.1.2.2.1,aH u32 a.1.2.2.2.1<|aH u32 (aH u32 (aH u32 (aH u32 a.1.2.2.2.2.2.2.2.1<|gQ u32 (gQ u32 b.1 c.1) d.1)<|gQ u32 a.1.2.2.2.2.2.2.1<|jV u32 a.1.2.2.2.2.1<|gQ u32 a.1.2.2.2.2.2.1 a.1.2.2.2.2.2.2.1) e) f,a.1.2.2.2.2.1,a.1.2.2.2.2.2.1,a.1.2.2.2.2.2.2.1,aH i64 a.1.2.2.2.2.2.2.2.2.1 1,()),())))
 ah)
 ah)
 (ab<|Sum.inr (0,(a.1.1,a.1.2.1,a.1.2.2.1,a.1.2.2.2.1,a.1.2.2.2.2.1,a.1.2.2.2.2.2.1,a.1.2.2.2.2.2.2.1,a.1.2.2.2.2.2.2.2.1,a.1.2.2.2.2.2.2.2.2.1,()),())))
def iq(b:ahq×al)(a:(Int×al)×EY×al):Option (((Int×al)×EY×al)⊕((Int×al)×EY×al)) :=
 dn (ao (aZ a.1.1 8)
 (ag (idx ([b.1.1,b.1.2.1,b.1.2.2.1,b.1.2.2.2.1,b.1.2.2.2.2.1,b.1.2.2.2.2.2.1,b.1.2.2.2.2.2.2.1,b.1.2.2.2.2.2.2.2.1]:List (Int)) a.1.1) λc=>ao (within a.1.1 8)
 (ag (idx a.2.1.1.2.1 a.1.1) λd=>ao (within a.1.1 8)
 (ag (idx a.2.1.1.2.1 a.1.1) λe=>ag (idx a.2.1.1.2.1 a.1.1) λf=>ag (idx a.2.1.1.2.1 a.1.1) λg=>ab (Sum.inl ((aH i64 a.1.1 1,()),((a.2.1.1.1,lS a.2.1.1.2.1 a.1.1<|aH u32 d c,a.2.1.1.2.2),a.2.1.2),())))
 ah)
 ah)
 (ab<|Sum.inr (0,(a.1.1,()),a.2.1,())))
def fV(a:(Sb×al)×EY×al):Option (((Sb×al)×EY×al)⊕((Sb×al)×EY×al)) :=
 dn (ao (nt<|bG a.1.1 ([]:aw))
 (ao (aS 64 0)
 ah
 (ao (inside (jK a.2.1.2.2.1 64) 64 64)
 (ao (inside (len<|@jd Int (aC a.1.1)<|minus 64<|jK a.2.1.2.2.1 64) (len a.1.1)<|len a.1.1)
 (ag (ao (aS (aH i64 (jK a.2.1.2.2.1 64)<|len<|@jd Int (aC a.1.1)<|minus 64<|jK a.2.1.2.2.1 64) 64)
 (ag (ao (nt a.2.1.1.1)
 (ag (uW ()) λb=>ab ((),((true,b.1,a.2.1.1.2.2),over a.2.1.2.1 (jK a.2.1.2.2.1 64)<|@jd Int (aC a.1.1)<|minus 64<|jK a.2.1.2.2.1 64,aH i64 a.2.1.2.2.1<|len<|@jd Int (aC a.1.1)<|minus 64<|jK a.2.1.2.2.1 64,a.2.1.2.2.2),()))
 (ab ((),(a.2.1.1,over a.2.1.2.1 (jK a.2.1.2.2.1 64)<|@jd Int (aC a.1.1)<|minus 64<|jK a.2.1.2.2.1 64,aH i64 a.2.1.2.2.1<|len<|@jd Int (aC a.1.1)<|minus 64<|jK a.2.1.2.2.1 64,a.2.1.2.2.2),()))) λb=>ag (Cj ()) λh=>ag (rZ (over a.2.1.2.1 (jK a.2.1.2.2.1 64)<|@jd Int (aC a.1.1)<|minus 64<|jK a.2.1.2.2.1 64,())) λi=>ao (within 0 8)
 (ag (idx b.2.1.1.2.1 (0:Int)) λj=>ao (within 1 8)
 (ag (idx b.2.1.1.2.1 (1:Int)) λk=>ao (within 2 8)
 (ag (idx b.2.1.1.2.1 (2:Int)) λl=>ao (within 3 8)
 (ag (idx b.2.1.1.2.1 (3:Int)) λm=>ao (within 4 8)
 (ag (idx b.2.1.1.2.1 (4:Int)) λn=>ao (within 5 8)
 (ag (idx b.2.1.1.2.1 (5:Int)) λc=>ao (within 6 8)
 (ag (idx b.2.1.1.2.1 (6:Int)) λd=>ao (within 7 8)
 (ag (idx b.2.1.1.2.1 (7:Int)) λe=>ag (Loop (ik h i) ((j,k,l,m,n,c,d,e,(0:Int),()),())) λf=>ag (Loop (iq f) (((0:Int),()),b.2.1,())) λg=>ab ((),g.2.1,()))
 ah)
 ah)
 ah)
 ah)
 ah)
 ah)
 ah)
 ah)
 (ab ((),(a.2.1.1,over a.2.1.2.1 (jK a.2.1.2.2.1 64)<|@jd Int (aC a.1.1)<|minus 64<|jK a.2.1.2.2.1 64,aH i64 a.2.1.2.2.1<|len<|@jd Int (aC a.1.1)<|minus 64<|jK a.2.1.2.2.1 64,a.2.1.2.2.2),()))) λb=>ab (Sum.inl ((sub a.1.1 (len<|@jd Int (aC a.1.1)<|minus 64<|jK a.2.1.2.2.1 64)<|minus (len a.1.1)<|len<|@jd Int (aC a.1.1)<|minus 64<|jK a.2.1.2.2.1 64,()),b.2.1,())))
 ah)
 ah))
 (ab<|Sum.inr (0,(a.1.1,()),a.2.1,())))
def gp(x:(Sb×al)×EY×al):Option (al×EY×al) :=
 ag (Loop (fV) ((x.1.1,()),x.2.1,())) (λa=>ab ((),a.2.1,()))
def eV(a:al×EY×al):Option ((al×EY×al)⊕(al×EY×al)) :=
 dn (ao (aS 64 0)
 ah
 (ao (nt<|aS (jK a.2.1.2.2.1 64) 56)
 (ag (gp ((([0]:aw),()),a.2.1,())) λb=>ab (Sum.inl ((),b.2.1,())))
 (ab<|Sum.inr (0,(),a.2.1,()))))
def kK(x:al×EY×al)(a:(Int×al)×(List<|Int)×al):Option MY :=
 dn (ao (aZ a.1.1 8)
 (ao (aZ (jH i64 8 a.1.1) 0)
 ah
 (ao (within (db i64 7 a.1.1) 8)
 (ag (idx a.2.1<|db i64 7 a.1.1) λb=>ag (idx a.2.1<|db i64 7 a.1.1) λc=>ag (idx a.2.1<|db i64 7 a.1.1) λd=>ab (Sum.inl ((aH i64 a.1.1 1,()),lS a.2.1 (db i64 7 a.1.1)<|kF IntKind.u8<|mE IntKind.u64 (jH IntKind.u64 (kF IntKind.u64<|((((((),x.2.1,()).2).1).2).2).1) 8)<|jH i64 8 a.1.1,())))
 ah))
 (ab<|Sum.inr (0,(a.1.1,()),a.2.1,())))
def kL(b:al×EY×al)(a:(Int×al)×(List<|Int)×al):Option MY :=
 dn (ao (aZ a.1.1 32)
 (ao (aS 4 0)
 ah
 (ao (within (LJ i64 a.1.1 4) 8)
 (ag (idx b.2.1.1.2.1<|LJ i64 a.1.1 4) λc=>ao (aS 4 0)
 ah
 (ao (aZ (db i64 24<|jH i64 8<|jK a.1.1 4) 0)
 ah
 (ao (within a.1.1 32)
 (ag (idx a.2.1 a.1.1) λd=>ag (idx a.2.1 a.1.1) λe=>ag (idx a.2.1 a.1.1) λf=>ab (Sum.inl ((aH i64 a.1.1 1,()),lS a.2.1 a.1.1<|kF IntKind.u8<|mE u32 c<|db i64 24<|jH i64 8<|jK a.1.1 4,())))
 ah)))
 ah))
 (ab<|Sum.inr (0,(a.1.1,()),a.2.1,())))
def oU(x:al×EY×al):Option (SG×EY×al) :=
 ag (gp ((bu ([(128:Int)]:List (Int)),()),(((),x.2.1,()).2).1,())) (λa=>ag (Loop (eV) ((),a.2.1,())) λb=>ag (Loop (kK x) (((0:Int),()),([(0:Int),0,0,0,0,0,0,0]:List (Int)),())) λc=>ao (inside 0 8 8)
 (ag (gp ((bu<|sub c.2.1 (0:Int)<|minus 8 0,()),b.2.1,())) λd=>ag (Loop (kL d) (((0:Int),()),([(0:Int),0,0,0,0,0,0,0,0,0,0,0,0,0,0,0,0,0,0,0,0,0,0,0,0,0,0,0,0,0,0,0]:List (Int)),())) λe=>ab ((e.2.1,()),x.2.1,()))
 ah)
def Dj(x:Sb×al):Option SG :=
 ag (gp ((x.1,()),((false,([(0:Int),0,0,0,0,0,0,0]:List (Int)),()),([(0:Int),0,0,0,0,0,0,0,0,0,0,0,0,0,0,0,0,0,0,0,0,0,0,0,0,0,0,0,0,0,0,0,0,0,0,0,0,0,0,0,0,0,0,0,0,0,0,0,0,0,0,0,0,0,0,0,0,0,0,0,0,0,0,0]:List (Int)),(0:Int),()),())) (λa=>ag (oU ((),a.2.1,())) λb=>ab (b.1.1,()))
def yR(x:al):Option SG :=
 ab (([(1779033703:Int),3144134277,1013904242,2773480762,1359893119,2600822924,528734635,1541459225]:List (Int)),())
def lp(a:(al×al)×(List<|Int)×al):Option (((al×al)×(List<|Int)×al)⊕((al×al)×(List<|Int)×al)) :=
 dn (ao (aS 64 0)
 ah
 (ao (nt<|aS (jK (len a.2.1) 64) 56)
 (ao (fits<|plus (len a.2.1)<|len ([(0:Int)]:List (Int)))
 (ab<|Sum.inl (((),()),app a.2.1 ([(0:Int)]:List (Int)),()))
 ah)
 (ab<|Sum.inr (0,((),()),a.2.1,()))))
def fw(x:Sb×al)(a:(al×Int×al)×(List<|Int)×al):Option (((al×Int×al)×(List<|Int)×al)⊕((al×Int×al)×(List<|Int)×al)) :=
 dn (ao (cj 0 a.1.2.1)
 (ao (aZ (jH i64 8 a.1.2.1) 0)
 ah
 (ao (fits<|plus (len a.2.1)<|len ([kF IntKind.u8<|mE IntKind.u64 (jH IntKind.u64 (kF IntKind.u64<|len x.1) 8)<|jH i64 8 a.1.2.1]:List (Int)))
 (ab<|Sum.inl (((),db i64 a.1.2.1 1,()),app a.2.1 ([kF IntKind.u8<|mE IntKind.u64 (jH IntKind.u64 (kF IntKind.u64<|len x.1) 8)<|jH i64 8 a.1.2.1]:List (Int)),()))
 ah))
 (ab<|Sum.inr (0,((),a.1.2.1,()),a.2.1,())))
def tY(x:Sb×al):Option (Sb×al) :=
 ao (fits<|len x.1)
 (ao (fits<|plus (len<|aC x.1)<|len ([(128:Int)]:List (Int)))
 (ag (Loop (lp) (((),()),app (aC x.1) ([(128:Int)]:List (Int)),())) λa=>ag (Loop (fw x) (((),(7:Int),()),a.2.1,())) λb=>ab (bu b.2.1,()))
 ah)
 ah
def ca(x:Int×Int×al):Option (Int×al) :=
 ao (aZ x.2.1 0)
 ah
 (ao (aZ (db i64 32 x.2.1) 0)
 ah
 (ab (zX u32 (mE u32 x.1 x.2.1)<|nW u32 x.1<|db i64 32 x.2.1,())))
def xa(x:al):Option SG :=
 ab (([(1116352408:Int),1899447441,3049323471,3921009573,961987163,1508970993,2453635748,2870763221,3624381080,310598401,607225278,1426881987,1925078388,2162078206,2614888103,3248222580,3835390401,4022224774,264347078,604807628,770255983,1249150122,1555081692,1996064986,2554220882,2821834349,2952996808,3210313671,3336571891,3584528711,113926993,338241895,666307205,773529912,1294757372,1396182291,1695183700,1986661051,2177026350,2456956037,2730485921,2820302411,3259730800,3345764771,3516065817,3600352804,4094571909,275423344,430227734,506948616,659060556,883997877,958139571,1322822218,1537002063,1747873779,1955562222,2024104815,2227730452,2361852424,2428436474,2756734187,3204031479,3329325298]:List (Int)),())
def lq(x:(List<|Int)×Sb×al)(a:(Int×al)×(List<|Int)×al):Option MY :=
 dn (ao (aZ a.1.1 16)
 (ag (idx x.2.1<|jH i64 4 a.1.1) λb=>ao (aZ 24 0)
 ah
 (ag (idx x.2.1<|aH i64 (jH i64 4 a.1.1) 1) λc=>ao (aZ 16 0)
 ah
 (ag (idx x.2.1<|aH i64 (jH i64 4 a.1.1) 2) λd=>ao (aZ 8 0)
 ah
 (ag (idx x.2.1<|aH i64 (jH i64 4 a.1.1) 3) λe=>ao (within a.1.1 64)
 (ag (idx a.2.1 a.1.1) λf=>ag (idx a.2.1 a.1.1) λg=>ag (idx a.2.1 a.1.1) λh=>ab (Sum.inl ((aH i64 a.1.1 1,()),lS a.2.1 a.1.1<|zX u32 (zX u32 (zX u32 (nW u32 (kF u32<|u8 b) 24)<|nW u32 (kF u32<|u8 c) 16)<|nW u32 (kF u32<|u8 d) 8)<|kF u32<|u8 e,())))
 ah))))
 (ab<|Sum.inr (0,(a.1.1,()),a.2.1,())))
def oV(a:(Int×al)×(List<|Int)×al):Option MY :=
 dn (ao (aZ a.1.1 64)
 (ao (within (db i64 a.1.1 2) 64)
 (ag (idx a.2.1<|db i64 a.1.1 2) λb=>ao (within (db i64 a.1.1 15) 64)
 (ag (idx a.2.1<|db i64 a.1.1 15) λc=>ag (ca (b,(17:Int),())) λe=>ag (ca (b,(19:Int),())) λf=>ao (aZ 10 0)
 ah
 (ao (within (db i64 a.1.1 7) 64)
 (ag (idx a.2.1<|db i64 a.1.1 7) λg=>ag (ca (c,(7:Int),())) λh=>ag (ca (c,(18:Int),())) λi=>ao (aZ 3 0)
 ah
 (ao (within (db i64 a.1.1 16) 64)
 (ag (idx a.2.1<|db i64 a.1.1 16) λd=>ao (within a.1.1 64)
 (ag (idx a.2.1 a.1.1) λj=>ag (idx a.2.1 a.1.1) λk=>ag (idx a.2.1 a.1.1) λl=>ab (Sum.inl ((aH i64 a.1.1 1,()),lS a.2.1 a.1.1<|aH u32 (aH u32 (aH u32 (gQ u32 (gQ u32 e.1 f.1)<|mE u32 b 10) g)<|gQ u32 (gQ u32 h.1 i.1)<|mE u32 c 3) d,())))
 ah)
 ah))
 ah))
 ah)
 ah)
 (ab<|Sum.inr (0,(a.1.1,()),a.2.1,())))
def lr(z:(Int×al)×(List<|Int)×al)(A:(List<|Int)×al)(a:(Int×al)×(List<|Int)×al):Option MY :=
 dn (ao (aZ a.1.1 64)
 (ao (within 4 8)
 (ag (idx a.2.1 (4:Int)) λb=>ao (within 0 8)
 (ag (idx a.2.1 (0:Int)) λc=>ao (within 7 8)
 (ag (idx a.2.1 (7:Int)) λw=>ag (ca (b,(6:Int),())) λx=>ag (ca (b,(11:Int),())) λy=>ag (ca (b,(25:Int),())) λd=>ao (within 5 8)
 (ag (idx a.2.1 (5:Int)) λe=>ao (within 6 8)
 (ag (idx a.2.1 (6:Int)) λf=>ao (within a.1.1 64)
 (ag (idx A.1 a.1.1) λg=>ao (within a.1.1 64)
 (ag (idx z.2.1 a.1.1) λh=>ag (ca (c,(2:Int),())) λi=>ag (ca (c,(13:Int),())) λj=>ag (ca (c,(22:Int),())) λk=>ao (within 1 8)
 (ag (idx a.2.1 (1:Int)) λl=>ao (within 2 8)
 (ag (idx a.2.1 (2:Int)) λm=>ao (within 1 8)
 (ag (idx a.2.1 (1:Int)) λn=>ao (within 2 8)
 (ag (idx a.2.1 (2:Int)) λo=>ao (within 0 8)
 (ag (idx a.2.1 (0:Int)) λp=>ao (within 1 8)
 (ag (idx a.2.1 (1:Int)) λq=>ao (within 2 8)
 (ag (idx a.2.1 (2:Int)) λr=>ao (within 3 8)
 (ag (idx a.2.1 (3:Int)) λs=>ao (within 4 8)
 (ag (idx a.2.1 (4:Int)) λt=>ao (within 5 8)
 (ag (idx a.2.1 (5:Int)) λu=>ao (within 6 8)
 (ag (idx a.2.1 (6:Int)) λv=>ab (Sum.inl ((aH i64 a.1.1 1,()),([aH u32 (aH u32 (aH u32 (aH u32 (aH u32 w<|gQ u32 (gQ u32 x.1 y.1) d.1)<|gQ u32 (jV u32 b e)<|jV u32 (gQ u32 4294967295 b) f) g) h)<|aH u32 (gQ u32 (gQ u32 i.1 j.1) k.1)<|gQ u32 (gQ u32 (jV u32 c l)<|jV u32 c m)<|jV u32 n o,p,q,r,aH u32 s (aH u32 (aH u32 (aH u32 (aH u32 w<|gQ u32 (gQ u32 x.1 y.1) d.1)<|gQ u32 (jV u32 b e)<|jV u32 (gQ u32 4294967295 b) f) g) h),t,u,v]:List (Int)),())))
 ah)
 ah)
 ah)
 ah)
 ah)
 ah)
 ah)
 ah)
 ah)
 ah)
 ah)
 ah)
 ah)
 ah)
 ah)
 ah)
 ah)
 ah)
 (ab<|Sum.inr (0,(a.1.1,()),a.2.1,())))
def oW(x:(List<|Int)×Sb×al)(a:(Int×al)×(List<|Int)×al):Option MY :=
 dn (ao (aZ a.1.1 8)
 (ao (within a.1.1 8)
 (ag (idx a.2.1 a.1.1) λb=>ao (within a.1.1 8)
 (ag (idx x.1 a.1.1) λc=>ao (within a.1.1 8)
 (ag (idx a.2.1 a.1.1) λe=>ag (idx a.2.1 a.1.1) λf=>ag (idx a.2.1 a.1.1) λd=>ab (Sum.inl ((aH i64 a.1.1 1,()),lS a.2.1 a.1.1<|aH u32 b c,())))
 ah)
 ah)
 ah)
 (ab<|Sum.inr (0,(a.1.1,()),a.2.1,())))
def tZ(x:(List<|Int)×Sb×al):Option SG :=
 ag (Loop (lq x) (((0:Int),()),([(0:Int),0,0,0,0,0,0,0,0,0,0,0,0,0,0,0,0,0,0,0,0,0,0,0,0,0,0,0,0,0,0,0,0,0,0,0,0,0,0,0,0,0,0,0,0,0,0,0,0,0,0,0,0,0,0,0,0,0,0,0,0,0,0,0]:List (Int)),())) (λa=>ag (Loop (oV) (((16:Int),()),a.2.1,())) λb=>ag (xa ()) λc=>ag (Loop (lr b c) (((0:Int),()),x.1,())) λd=>ag (Loop (oW x) (((0:Int),()),d.2.1,())) λe=>ab (e.2.1,()))
def oh(b:Sb×al)(a:(Int×al)×(List<|Int)×al):Option MY :=
 dn (ao (cj (aH i64 a.1.1 64)<|len b.1)
 (ao (inside a.1.1 (aH i64 a.1.1 64)<|len b.1)
 (ag (tZ (a.2.1,sub b.1 a.1.1<|minus (aH i64 a.1.1 64) a.1.1,())) λc=>ab (Sum.inl ((aH i64 a.1.1 64,()),c.1,())))
 ah)
 (ab<|Sum.inr (0,(a.1.1,()),a.2.1,())))
def r0(b:(Int×al)×(List<|Int)×al)(a:(Int×al)×(List<|Int)×al):Option MY :=
 dn (ao (aZ a.1.1 32)
 (ao (aS 4 0)
 ah
 (ao (within (LJ i64 a.1.1 4) 8)
 (ag (idx b.2.1<|LJ i64 a.1.1 4) λc=>ao (aS 4 0)
 ah
 (ao (aZ (db i64 24<|jH i64 8<|jK a.1.1 4) 0)
 ah
 (ao (within a.1.1 32)
 (ag (idx a.2.1 a.1.1) λd=>ag (idx a.2.1 a.1.1) λe=>ag (idx a.2.1 a.1.1) λf=>ab (Sum.inl ((aH i64 a.1.1 1,()),lS a.2.1 a.1.1<|kF IntKind.u8<|mE u32 c<|db i64 24<|jH i64 8<|jK a.1.1 4,())))
 ah)))
 ah))
 (ab<|Sum.inr (0,(a.1.1,()),a.2.1,())))
def ya(x:Sb×al):Option SG :=
 ag (yR ()) (λa=>ag (tY (x.1,())) λb=>ag (Loop (oh b) (((0:Int),()),a.1,())) λc=>ag (Loop (r0 c) (((0:Int),()),([(0:Int),0,0,0,0,0,0,0,0,0,0,0,0,0,0,0,0,0,0,0,0,0,0,0,0,0,0,0,0,0,0,0]:List (Int)),())) λd=>ab (d.2.1,()))
end Go.Ge
namespace Go.Ge
variable [Lp]
set_option maxRecDepth 100000
def mH(x:Sb×al)(a:(Int×al)×(al×al×al)×(List<|Int)×al):Option (((Int×al)×(al×al×al)×(List<|Int)×al)⊕((Int×al)×(al×al×al)×(List<|Int)×al)) :=
 dn (ao (aZ a.1.1<|len<|aC x.1)
 (ao (within a.1.1<|len<|aC x.1)
 (ag (idx (aC x.1) a.1.1) λc=>ao (aZ 4 0)
 ah
 (ag (idx ([48,49,50,51,52,53,54,55,56,57,97,98,99,100,101,102]:aw)<|mE IntKind.u8 c 4) λb=>ao (fits<|plus (len a.2.2.1)<|len ([u8 b]:List (Int)))
 (ag (idx ([48,49,50,51,52,53,54,55,56,57,97,98,99,100,101,102]:aw)<|jV IntKind.u8 c 15) λd=>ao (fits<|plus (len<|app a.2.2.1 ([u8 b]:List (Int)))<|len ([u8 d]:List (Int)))
 (ab<|Sum.inl ((aH i64 a.1.1 1,()),((),(),a.2.1.2.2),app (app a.2.2.1 ([u8 b]:List (Int))) ([u8 d]:List (Int)),()))
 ah)
 ah))
 ah)
 (ab<|Sum.inr (0,(a.1.1,()),((),(),a.2.1.2.2),a.2.2.1,())))
def mg(x:Sb×al):Option (Sb×al) :=
 ao (fits<|len x.1)
 (ag (Loop (mH x) (((0:Int),()),((),(),()),([]:List (Int)),())) λa=>ab (bu a.2.2.1,()))
 ah
def oi(x:Sb×al):Option (Sb×al) :=
 ag (Dj (x.1,())) (λb=>ao (inside 0 32 32)
 (ag (mg (bu<|sub b.1 (0:Int)<|minus 32 0,())) λa=>ao (fits<|plus (len ([115,104,97,50,53,54,58]:aw))<|len a.1)
 (ab (app ([115,104,97,50,53,54,58]:aw) a.1,()))
 ah)
 ah)
def cw(x:Sb×Sb×al):Option (Bool×al) :=
 ag (ao (cj (len x.2.1)<|len x.1)
 (ao (inside 0 (len x.2.1)<|len x.1)
 (ab<|bG (sub x.1 (0:Int)<|minus (len x.2.1) 0) x.2.1)
 ah)
 (ab false)) (λa=>ab (a,()))
def fN(x:Sb×Sb×al):Option (Sb×Bool×al) :=
 ag (cw (x.1,x.2.1,())) (λa=>ao (nt a.1)
 (ab (x.1,false,()))
 (ao (inside (len x.2.1) (len x.1)<|len x.1)
 (ab (sub x.1 (len x.2.1)<|minus (len x.1)<|len x.2.1,true,()))
 ah))
def kM(x:Sb×Sb×al):Option (Sb×Bool×al) :=
 ag (fN (x.1,x.2.1,())) (λa=>ab (a.1,a.2.1,()))
def dx(x:Sb×Int×al):Option (Int×al) :=
 ag (fM (x.1,x.2.1,())) (λa=>ab (a.1,()))
def nh(x:Int×al):Option (Int×al) :=
 ao (aZ x.1 10)
 (ab (kF IntKind.u8<|aH i64 48 x.1,()))
 (ab (kF IntKind.u8<|db i64 (aH i64 97 x.1) 10,()))
def oj(x:Sb×al)(a:(al×Int×al)×(List<|Int)×al):Option (((al×Int×al)×(List<|Int)×al)⊕((al×Int×al)×(List<|Int)×al)) :=
 dn (ao (aZ a.1.2.1<|len x.1)
 (ag (idx x.1 a.1.2.1) λd=>ao (aS 16 0)
 ah
 (ag (nh (LJ i64 (kF i64<|u8 d) 16,())) λb=>ao (fits<|plus (len a.2.1)<|len ([b.1]:List (Int)))
 (ag (idx x.1 a.1.2.1) λe=>ao (aS 16 0)
 ah
 (ag (nh (jK (kF i64<|u8 e) 16,())) λc=>ao (fits<|plus (len<|app a.2.1 ([b.1]:List (Int)))<|len ([c.1]:List (Int)))
 (ab<|Sum.inl (((),aH i64 a.1.2.1 1,()),app (app a.2.1 ([b.1]:List (Int))) ([c.1]:List (Int)),()))
 ah))
 ah))
 (ab<|Sum.inr (0,((),a.1.2.1,()),a.2.1,())))
def yb(x:Sb×al):Option (Sb×al) :=
 ag (Loop (oj x) (((),(0:Int),()),([]:List (Int)),())) (λa=>ab (bu a.2.1,()))
def tn(x:Sb×al):Option (Sb×al) :=
 ag (ya (x.1,())) (λb=>ao (inside 0 32 32)
 (ag (yb (bu<|sub b.1 (0:Int)<|minus 32 0,())) λa=>ao (fits<|plus (len ([115,104,97,50,53,54,58]:aw))<|len a.1)
 (ab (app ([115,104,97,50,53,54,58]:aw) a.1,()))
 ah)
 ah)
def eI(x:Int×al)(a:(Int×Int×al)×al):Option (((Int×Int×al)×al)⊕(Nat×(Int×Int×al)×al)) :=
 ao (aZ a.1.2.1 16)
 (ag (nh (a.1.2.1,())) λb=>ao (aS b.1 x.1)
 (ab<|Sum.inr (1,(a.1.2.1,a.1.2.1,()),()))
 (ab<|Sum.inl ((a.1.1,aH i64 a.1.2.1 1,()),())))
 (ab<|Sum.inr (0,(a.1.1,a.1.2.1,()),()))
def p4(x:Int×al):Option (Int×al) :=
 ag (Loop (eI x) (((0:Int),(0:Int),()),())) (λa=>ao (da a.1 0)
 (ab ((-1:Int),()))
 (ab (a.2.1.1,())))
def iR(x:Sb×al)(a:(Sb×Bool×al×Int×al)×(List<|Int)×al):Option (((Sb×Bool×al×Int×al)×(List<|Int)×al)⊕(Nat×(Sb×Bool×al×Int×al)×(List<|Int)×al)) :=
 ao (aZ (aH i64 a.1.2.2.2.1 1)<|len x.1)
 (ag (idx x.1 a.1.2.2.2.1) λd=>ag (p4 (u8 d,())) λb=>ag (idx x.1<|aH i64 a.1.2.2.2.1 1) λe=>ag (p4 (u8 e,())) λc=>ao (ao (nt<|aZ b.1 0)
 (aZ c.1 0)
 true)
 (ab<|Sum.inr (1,(([]:aw),false,(),a.1.2.2.2.1,()),a.2.1,()))
 (ao (fits<|plus (len a.2.1)<|len ([kF IntKind.u8<|aH i64 (jH i64 16 b.1) c.1]:List (Int)))
 (ab<|Sum.inl ((a.1.1,a.1.2.1,(),aH i64 a.1.2.2.2.1 2,()),app a.2.1 ([kF IntKind.u8<|aH i64 (jH i64 16 b.1) c.1]:List (Int)),()))
 ah))
 (ab<|Sum.inr (0,(a.1.1,a.1.2.1,(),a.1.2.2.2.1,()),a.2.1,()))
def p5(x:Sb×al):Option (Sb×Bool×al) :=
 ao (aS 2 0)
 ah
 (ao (aS (jK (len x.1) 2) 1)
 (ab (([]:aw),false,()))
 (ag (Loop (iR x) ((([]:aw),false,(),(0:Int),()),([]:List (Int)),())) λa=>ao (da a.1 0)
 (ab (bu a.2.2.1,true,()))
 (ab (a.2.1.1,a.2.1.2.1,()))))
def fE(x:Sb×al):Option (Int×al) :=
 ag (ao (nt<|nt<|aS (len x.1) 71)
 (ao (inside 0 7<|len x.1)
 (ab<|nt<|bG (sub x.1 (0:Int)<|minus 7 0) ([115,104,97,50,53,54,58]:aw))
 ah)
 (ab true)) (λa=>ao a
 (ab ((2:Int),()))
 (ao (inside 7 (len x.1)<|len x.1)
 (ag (p5 (sub x.1 (7:Int)<|minus (len x.1) 7,())) λb=>ao (nt b.2.1)
 (ab ((2:Int),()))
 (ab ((0:Int),())))
 ah))
end Go.Ge
namespace Go.Ge
variable [Lp]
set_option maxRecDepth 100000
abbrev abJ:=((Sb×al)×(List<|Bool)×al)
abbrev ajs:=(Sb×Int×Int×Int×Int×Int×Int×Sb×al)
def lU(x:Int×Int×al):Option (Bool×al) :=
 ab (ao (cj 0 x.1)
 (aZ x.1 x.2.1)
 false,())
def om(x:Sb×Int×al):Option (Bool×al) :=
 ag (ao (ao (nt<|bG x.1 ([]:aw))
 (cj (len x.1) x.2.1)
 false)
 (ag (dx (x.1,(0:Int),())) λa=>ab (aZ a.1 0))
 (ab false)) (λa=>ab (a,()))
def rk(x:ajs×Int×al):Option (Bool×al) :=
 ag (lU (x.1.2.2.1,(2097152:Int),())) (λf=>ag (ao f.1
 (ag (lU (x.1.2.2.2.1,(2097152:Int),())) λa=>ab a.1)
 (ab false)) λa=>ag (ao a
 (ag (lU (x.1.2.2.2.2.1,(2097152:Int),())) λb=>ab b.1)
 (ab false)) λb=>ag (ao b
 (ag (lU (x.1.2.2.2.2.2.1,(8589934592:Int),())) λc=>ab c.1)
 (ab false)) λc=>ag (ao c
 (ag (lU (x.1.2.2.2.2.2.2.1,(8589934592:Int),())) λd=>ab d.1)
 (ab false)) λd=>ag (ao (nt<|nt d)
 (ag (om (x.1.1,x.2.1,())) λe=>ab (nt e.1))
 (ab true)) λe=>ao e
 (ab (false,()))
 (ao (aS x.1.2.1 1)
 (ab (bG x.1.2.2.2.2.2.2.2.1 ([]:aw),()))
 (ao (aS x.1.2.1 2)
 (ab (ao (bG x.1.2.2.2.2.2.2.2.1 ([]:aw))
 (aS x.1.2.2.2.2.2.1 0)
 false,()))
 (ao (aS x.1.2.1 3)
 (ag (om (x.1.2.2.2.2.2.2.2.1,(100:Int),())) λg=>ab (ao g.1
 (aS x.1.2.2.2.2.2.1 0)
 false,()))
 (ab (false,()))))))
def mI(x:al):Option ((List<|Int×Int×al)×al) :=
 ab (([((0:Int),(100:Int),()),((100:Int),(8:Int),()),((108:Int),(8:Int),()),((116:Int),(8:Int),()),((124:Int),(12:Int),()),((136:Int),(12:Int),()),((148:Int),(8:Int),()),((156:Int),(1:Int),()),((157:Int),(100:Int),()),((257:Int),(8:Int),()),((345:Int),(155:Int),())]:List (Int×Int×al)),())
def qu(x:Sb×al)(b:Int×Int×al)(a:(Int×Int×al)×al):Option (((Int×Int×al)×al)⊕((Int×Int×al)×al)) :=
 dn (ao (aZ a.1.2.1<|len<|aC x.1)
 (ao (within a.1.2.1<|len<|aC x.1)
 (ag (idx (aC x.1) a.1.2.1) λc=>ab (Sum.inl ((aH i64 a.1.1<|kF i64<|((ao (ao (cj b.1 a.1.2.1)
 (aZ a.1.2.1<|aH i64 b.1 b.2.1)
 false)
 (((32:Int),()),())
 ((c,()),())).1).1,aH i64 a.1.2.1 1,()),())))
 ah)
 (ab<|Sum.inr (0,(a.1.1,a.1.2.1,()),())))
def vX(x:Sb×al):Option (Int×al) :=
 ag (mI ()) (λa=>ag (idx a.1 (6:Int)) λb=>ao (fits<|len x.1)
 (ag (Loop (qu x b) (((0:Int),(0:Int),()),())) λc=>ab (c.1.1,()))
 ah)
def cd(x:Sb×Int×al):Option (Sb×al) :=
 ag (mI ()) (λb=>ag (idx b.1 x.2.1) λa=>ao (inside a.1 (aH i64 a.1 a.2.1)<|len x.1)
 (ab (sub x.1 a.1<|minus (aH i64 a.1 a.2.1) a.1,()))
 ah)
def fO(x:Sb×Int×al)(a:(Sb×al)×al):Option (((Sb×al)×al)⊕((Sb×al)×al)) :=
 dn (ag (ao (aZ 0<|len a.1.1)
 (ag (idx a.1.1<|db i64 (len a.1.1) 1) λb=>ab (aS (u8 b) x.2.1))
 (ab false)) λb=>ao b
 (ao (inside 0 (db i64 (len a.1.1) 1)<|len a.1.1)
 (ab<|Sum.inl ((sub a.1.1 (0:Int)<|minus (db i64 (len a.1.1) 1) 0,()),()))
 ah)
 (ab<|Sum.inr (0,(a.1.1,()),())))
def fx(x:Sb×Int×al):Option (Sb×al) :=
 ag (Loop (fO x) ((x.1,()),())) (λa=>ab (a.1.1,()))
def cD(x:Sb×al)(a:(Bool×Int×al)×(List<|Bool)×al):Option (((Bool×Int×al)×(List<|Bool)×al)⊕(Nat×(Bool×Int×al)×(List<|Bool)×al)) :=
 ao (aZ a.1.2.1<|len x.1)
 (ag (idx x.1 a.1.2.1) λb=>ao (cj 128<|u8 b)
 (ab<|Sum.inr (1,(false,a.1.2.1,()),a.2.1,()))
 (ao (within (u8 b) 256)
 (ag (idx a.2.1<|u8 b) λc=>ag (idx a.2.1<|u8 b) λd=>ag (idx a.2.1<|u8 b) λe=>ab (Sum.inl ((a.1.1,aH i64 a.1.2.1 1,()),lS a.2.1 (u8 b) true,())))
 ah))
 (ab<|Sum.inr (0,(a.1.1,a.1.2.1,()),a.2.1,()))
def eJ(x:Sb×al):Option ((List<|Bool)×Bool×al) :=
 ag (Loop (cD x) ((false,(0:Int),()),((List.replicate 256 false):List (Bool)),())) (λa=>ao (da a.1 0)
 (ab (a.2.2.1,true,()))
 (ab (a.2.2.1,a.2.1.1,())))
def cI(x:(Int×al)×(List<|Bool)×al):Option ((Bool×al)×(List<|Bool)×al) :=
 ao (within x.1.1 256)
 (ag (idx x.2.1 x.1.1) λa=>ab ((a,()),x.2.1,()))
 ah
def cJ(a:(Sb×al)×(List<|Bool)×al):Option (abJ⊕abJ) :=
 dn (ao (aZ 0<|len a.1.1)
 (ag (idx a.1.1<|db i64 (len a.1.1) 1) λc=>ag (cI ((u8 c,()),a.2.1,())) λb=>ao (nt b.1.1)
 (ab<|Sum.inr (0,(a.1.1,()),b.2.1,()))
 (ao (inside 0 (db i64 (len a.1.1) 1)<|len a.1.1)
 (ab<|Sum.inl ((sub a.1.1 (0:Int)<|minus (db i64 (len a.1.1) 1) 0,()),b.2.1,()))
 ah))
 (ab<|Sum.inr (0,(a.1.1,()),a.2.1,())))
def ed(x:(Sb×al)×(List<|Bool)×al):Option abJ :=
 ag (Loop (cJ) ((x.1.1,()),x.2.1,())) (λa=>ab ((a.1.1,()),a.2.1,()))
def eW(x:Sb×Sb×al):Option (Sb×al) :=
 ao (ao (nt<|bG x.1 ([]:aw))
 (bG x.2.1 ([]:aw))
 true)
 (ab (x.1,()))
 (ag (ao (aS (len x.2.1) 1)
 (ag (idx x.2.1 (0:Int)) λb=>ab (aZ (u8 b) 128))
 (ab false)) λb=>ao b
 (ag (idx x.2.1 (0:Int)) λa=>ag (fx (x.1,u8 a,())) λc=>ab (c.1,()))
 (ag (eJ (x.2.1,())) λa=>ao a.2.1
 (ag (ed ((x.1,()),a.1,())) λc=>ab (c.1.1,()))
 ah))
def bS(x:Sb×al)(a:(Int×Bool×Int×Int×al)×al):Option (((Int×Bool×Int×Int×al)×al)⊕(Nat×(Int×Bool×Int×Int×al)×al)) :=
 ao (aZ a.1.2.2.2.1<|len<|aC x.1)
 (ao (within a.1.2.2.2.1<|len<|aC x.1)
 (ag (idx (aC x.1) a.1.2.2.2.1) λb=>ao (ao (nt<|aZ b 48)
 (aZ 55 b)
 true)
 (ab<|Sum.inr (1,((0:Int),false,a.1.2.2.1,a.1.2.2.2.1,()),()))
 (ao (aZ 3 0)
 ah
 (ab<|Sum.inl ((a.1.1,a.1.2.1,zX i64 (nW i64 a.1.2.2.1 3)<|kF i64<|db IntKind.u8 b 48,aH i64 a.1.2.2.2.1 1,()),()))))
 ah)
 (ab<|Sum.inr (0,(a.1.1,a.1.2.1,a.1.2.2.1,a.1.2.2.2.1,()),()))
def dN(x:Sb×al):Option (Int×Bool×al) :=
 ao (ao (nt<|aZ (len x.1) 1)
 (aZ 21<|len x.1)
 true)
 (ab ((0:Int),false,()))
 (ao (fits<|len x.1)
 (ag (Loop (bS x) (((0:Int),false,(0:Int),(0:Int),()),())) λa=>ao (da a.1 0)
 (ab (a.2.1.2.2.1,true,()))
 (ab (a.2.1.1,a.2.1.2.1,())))
 ah)
def dy(x:Sb×al):Option (Int×al) :=
 ag (eW (x.1,([0,32]:aw),())) (λa=>ag (dN (a.1,())) λb=>ao (ao (nt<|nt b.2.1)
 (aS (len a.1)<|len x.1)
 true)
 (ab ((-1:Int),()))
 (ab (b.1,())))
def kv(x:Sb×al):Option (Sb×Bool×al) :=
 ag (eW (x.1,([0]:aw),())) (λa=>ag (dx (a.1,(0:Int),())) λb=>ab (a.1,aZ b.1 0,()))
def fF(x:Sb×al):Option (ajs×Int×al) :=
 ag (ao (nt<|nt<|aS (len x.1) 512)
 (ag (cd (x.1,(9:Int),())) λk=>ab (nt<|bG k.1 ([117,115,116,97,114,0,48,48]:aw)))
 (ab true)) (λk=>ag (ao (nt k)
 (ag (cd (x.1,(6:Int),())) λl=>ag (dy (l.1,())) λm=>ag (vX (x.1,())) λi=>ab (nt<|aS m.1 i.1))
 (ab true)) λl=>ao l
 (ab ((([]:aw),(0:Int),(0:Int),(0:Int),(0:Int),(0:Int),(0:Int),([]:aw),()),(2:Int),()))
 (ag (cd (x.1,(0:Int),())) λm=>ag (kv (m.1,())) λi=>ag (cd (x.1,(8:Int),())) λt=>ag (kv (t.1,())) λn=>ag (cd (x.1,(10:Int),())) λu=>ag (kv (u.1,())) λj=>ag (ao (nt<|bG j.1 ([]:aw))
 (ao (fits<|plus (len j.1)<|len ([47]:aw))
 (ao (fits<|plus (len<|app j.1 ([47]:aw))<|len i.1)
 (ab ((app (app j.1 ([47]:aw)) i.1,()),()))
 ah)
 ah)
 (ab ((i.1,()),()))) λg=>ag (cd (x.1,(1:Int),())) λo=>ag (dy (o.1,())) λb=>ag (cd (x.1,(2:Int),())) λp=>ag (dy (p.1,())) λc=>ag (cd (x.1,(3:Int),())) λq=>ag (dy (q.1,())) λd=>ag (cd (x.1,(4:Int),())) λr=>ag (dy (r.1,())) λe=>ag (cd (x.1,(5:Int),())) λs=>ag (dy (s.1,())) λf=>ag (cd (x.1,(7:Int),())) λa=>ag (ao (nt<|ao (nt<|ao (nt<|nt i.2.1)
 (nt n.2.1)
 true)
 (nt j.2.1)
 true)
 (ag (rk (((ao (((ao (bG a.1 ([48]:aw))
 ((bG a.1 ([48]:aw),()),())
 ((bG a.1 ([0]:aw),()),())).1).1)
 ((),(g.1.1,(1:Int),b.1,c.1,d.1,e.1,f.1,([]:aw),()),())
 ((),((ao (bG a.1 ([53]:aw))
 ((),(g.1.1,(2:Int),b.1,c.1,d.1,e.1,f.1,([]:aw),()),())
 ((),((ao (bG a.1 ([50]:aw))
 ((),(g.1.1,(3:Int),b.1,c.1,d.1,e.1,f.1,n.1,()),())
 ((),(g.1.1,(0:Int),b.1,c.1,d.1,e.1,f.1,([]:aw),()),())).2).1,())).2).1,())).2).1,(256:Int),())) λh=>ab (nt h.1))
 (ab true)) λh=>ao h
 (ab ((([]:aw),(0:Int),(0:Int),(0:Int),(0:Int),(0:Int),(0:Int),([]:aw),()),(2:Int),()))
 (ab (((ao (((ao (bG a.1 ([48]:aw))
 ((bG a.1 ([48]:aw),()),())
 ((bG a.1 ([0]:aw),()),())).1).1)
 ((),(g.1.1,(1:Int),b.1,c.1,d.1,e.1,f.1,([]:aw),()),())
 ((),((ao (bG a.1 ([53]:aw))
 ((),(g.1.1,(2:Int),b.1,c.1,d.1,e.1,f.1,([]:aw),()),())
 ((),((ao (bG a.1 ([50]:aw))
 ((),(g.1.1,(3:Int),b.1,c.1,d.1,e.1,f.1,n.1,()),())
 ((),(g.1.1,(0:Int),b.1,c.1,d.1,e.1,f.1,([]:aw),()),())).2).1,())).2).1,())).2).1,(0:Int),()))))
def gf(x:Sb×Int×al)(a:(Sb×al)×al):Option (((Sb×al)×al)⊕((Sb×al)×al)) :=
 dn (ag (ao (aZ 0<|len a.1.1)
 (ag (idx a.1.1 (0:Int)) λb=>ab (aS (u8 b) x.2.1))
 (ab false)) λb=>ao b
 (ao (inside 1 (len a.1.1)<|len a.1.1)
 (ab<|Sum.inl ((sub a.1.1 (1:Int)<|minus (len a.1.1) 1,()),()))
 ah)
 (ab<|Sum.inr (0,(a.1.1,()),())))
def iA(x:Sb×Int×al):Option (Sb×al) :=
 ag (Loop (gf x) ((x.1,()),())) (λa=>ab (a.1.1,()))
def fP(a:(Sb×al)×(List<|Bool)×al):Option (abJ⊕abJ) :=
 dn (ao (aZ 0<|len a.1.1)
 (ag (idx a.1.1 (0:Int)) λc=>ag (cI ((u8 c,()),a.2.1,())) λb=>ao (nt b.1.1)
 (ab<|Sum.inr (0,(a.1.1,()),b.2.1,()))
 (ao (inside 1 (len a.1.1)<|len a.1.1)
 (ab<|Sum.inl ((sub a.1.1 (1:Int)<|minus (len a.1.1) 1,()),b.2.1,()))
 ah))
 (ab<|Sum.inr (0,(a.1.1,()),a.2.1,())))
def gU(x:(Sb×al)×(List<|Bool)×al):Option abJ :=
 ag (Loop (fP) ((x.1.1,()),x.2.1,())) (λa=>ab ((a.1.1,()),a.2.1,()))
def jf(x:Sb×Sb×al):Option (Sb×al) :=
 ao (ao (nt<|bG x.1 ([]:aw))
 (bG x.2.1 ([]:aw))
 true)
 (ab (x.1,()))
 (ag (ao (aS (len x.2.1) 1)
 (ag (idx x.2.1 (0:Int)) λc=>ab (aZ (u8 c) 128))
 (ab false)) λc=>ao c
 (ag (idx x.2.1 (0:Int)) λa=>ag (fx (x.1,u8 a,())) λb=>ag (idx x.2.1 (0:Int)) λd=>ag (iA (b.1,u8 d,())) λe=>ab (e.1,()))
 (ag (eJ (x.2.1,())) λa=>ao a.2.1
 (ag (ed ((x.1,()),a.1,())) λb=>ag (gU ((b.1.1,()),b.2.1,())) λd=>ab (d.1.1,()))
 ah))
def ua(x:Sb×al):Option (Bool×al) :=
 ag (ao (aS (len x.1) 512)
 (ag (jf (x.1,([0]:aw),())) λa=>ab (bG a.1 ([]:aw)))
 (ab false)) (λa=>ab (a,()))
def gq(x:Sb×Int×al)(a:(Bool×Int×al)×al):Option (((Bool×Int×al)×al)⊕(Nat×(Bool×Int×al)×al)) :=
 ao (aZ a.1.2.1<|len x.1)
 (ag (idx x.1 a.1.2.1) λb=>ao (aS (u8 b) 0)
 (ab<|Sum.inr (1,(false,a.1.2.1,()),()))
 (ab<|Sum.inl ((a.1.1,aH i64 a.1.2.1 1,()),())))
 (ab<|Sum.inr (0,(a.1.1,a.1.2.1,()),()))
def ni(x:Sb×Int×al):Option (Bool×al) :=
 ag (Loop (gq x) ((false,(0:Int),()),())) (λa=>ao (da a.1 0)
 (ab (ao (cj 1<|len x.1)
 (cj (len x.1) x.2.1)
 false,()))
 (ab (a.2.1.1,())))
def qQ(x:Int×Int×al):Option (Bool×al) :=
 ab (ao (cj 0 x.1)
 (aZ x.1 x.2.1)
 false,())
def uX(x:ajs×Int×al):Option (Bool×al) :=
 ag (ao (aS x.1.2.1 3)
 (ag (ni (x.1.2.2.2.2.2.2.2.1,(100:Int),())) λa=>ab ((a.1,()),()))
 (ab ((bG x.1.2.2.2.2.2.2.2.1 ([]:aw),()),()))) (λa=>ag (ni (x.1.1,x.2.1,())) λg=>ag (ao (ao (ao g.1
 (cj 1 x.1.2.1)
 false)
 (cj x.1.2.1 3)
 false)
 (ag (qQ (x.1.2.2.1,(2097152:Int),())) λb=>ab b.1)
 (ab false)) λb=>ag (ao b
 (ag (qQ (x.1.2.2.2.1,(2097152:Int),())) λc=>ab c.1)
 (ab false)) λc=>ag (ao c
 (ag (qQ (x.1.2.2.2.2.1,(2097152:Int),())) λd=>ab d.1)
 (ab false)) λd=>ag (ao d
 (ag (qQ (x.1.2.2.2.2.2.1,(8589934592:Int),())) λe=>ab e.1)
 (ab false)) λe=>ag (ao e
 (ag (qQ (x.1.2.2.2.2.2.2.1,(8589934592:Int),())) λf=>ab f.1)
 (ab false)) λf=>ab (ao (ao f
 (ao (nt<|aS x.1.2.2.2.2.2.1 0)
 (aS x.1.2.1 1)
 true)
 false)
 a.1.1
 false,()))
def r4(x:Sb×al)(a:(Int×Int×al)×al):Option (((Int×Int×al)×al)⊕((Int×Int×al)×al)) :=
 dn (ao (aZ a.1.2.1<|len x.1)
 (ag (ao (ao (cj 148 a.1.2.1)
 (aZ a.1.2.1 156)
 false)
 (ab ((aH i64 a.1.1 32,()),()))
 (ag (idx x.1 a.1.2.1) λb=>ab ((aH i64 a.1.1<|kF i64<|u8 b,()),()))) λb=>ab (Sum.inl ((b.1.1,aH i64 a.1.2.1 1,()),())))
 (ab<|Sum.inr (0,(a.1.1,a.1.2.1,()),())))
def yc(x:Sb×al):Option (Int×al) :=
 ag (Loop (r4 x) (((0:Int),(0:Int),()),())) (λa=>ab (a.1.1,()))
end Go.Ge
namespace Go.Ge
variable [Lp]
set_option maxRecDepth 100000
abbrev HT:=((Sb×Int×Int×Int×Int×Int×Int×Sb×al)×Sb×al)
abbrev SH:=(Bool×Sb×Int×Bool×Bool×al)
def D7(x:Int×al):Option (Sb×al) :=
 ag (oT (([0]:aw),x.1,())) (λa=>ab (a.1,()))
def xc(x:Int×al):Option (Int×al) :=
 ao (aS 512 0)
 ah
 (ao (aS 512 0)
 ah
 (ab (jK (db i64 512<|jK x.1 512) 512,())))
def e7(x:(Bool×al)×SH×al):Option ((HT×Bool×al)×SH×al) :=
 ab ((((([]:aw),(0:Int),(0:Int),(0:Int),(0:Int),(0:Int),(0:Int),([]:aw),()),([]:aw),()),false,()),(x.2.1.1,([]:aw),x.2.1.2.2.1,true,x.1.1,x.2.1.2.2.2.2.2),())
def bP(x:al×SH×al):Option ((HT×Bool×al)×SH×al) :=
 ao (ao (nt<|nt x.2.1.1)
 x.2.1.2.2.2.1
 true)
 (ab ((((([]:aw),(0:Int),(0:Int),(0:Int),(0:Int),(0:Int),(0:Int),([]:aw),()),([]:aw),()),false,()),x.2.1,()))
 (ao (aZ (len x.2.1.2.1) 512)
 (ag (e7 ((true,()),x.2.1,())) λd=>ab ((d.1.1,d.1.2.1,()),d.2.1,()))
 (ao (inside 0 512<|len x.2.1.2.1)
 (ag (ua (sub x.2.1.2.1 (0:Int)<|minus 512 0,())) λd=>ao d.1
 (ag (ao (cj 1024<|len x.2.1.2.1)
 (ao (aS 512 0)
 ah
 (ab<|aS (jK (len x.2.1.2.1) 512) 0))
 (ab false)) λb=>ag (ao (nt<|nt b)
 (ag (jf (x.2.1.2.1,([0]:aw),())) λc=>ab (nt<|bG c.1 ([]:aw)))
 (ab true)) λc=>ag (e7 ((c,()),x.2.1,())) λa=>ab ((a.1.1,a.1.2.1,()),a.2.1,()))
 (ao (inside 0 512<|len x.2.1.2.1)
 (ag (fF (sub x.2.1.2.1 (0:Int)<|minus 512 0,())) λb=>ao (inside 512 (len x.2.1.2.1)<|len x.2.1.2.1)
 (ao (nt<|aS b.2.1 0)
 (ag (e7 ((true,()),x.2.1,())) λc=>ab ((c.1.1,c.1.2.1,()),c.2.1,()))
 (ao (aZ (len<|sub x.2.1.2.1 (512:Int)<|minus (len x.2.1.2.1) 512) b.1.2.2.2.2.2.1)
 (ag (e7 ((true,()),x.2.1,())) λc=>ab ((c.1.1,c.1.2.1,()),c.2.1,()))
 (ag (xc (b.1.2.2.2.2.2.1,())) λc=>ao (aZ (len<|sub x.2.1.2.1 (512:Int)<|minus (len x.2.1.2.1) 512)<|aH i64 b.1.2.2.2.2.2.1 c.1)
 (ag (e7 ((true,()),x.2.1,())) λa=>ab ((a.1.1,a.1.2.1,()),a.2.1,()))
 (ao (cj 64 x.2.1.2.2.1)
 (ag (e7 ((true,()),x.2.1,())) λa=>ab ((a.1.1,a.1.2.1,()),a.2.1,()))
 (ag (xc (b.1.2.2.2.2.2.1,())) λa=>ao (inside (aH i64 b.1.2.2.2.2.2.1 a.1) (len<|sub x.2.1.2.1 (512:Int)<|minus (len x.2.1.2.1) 512)<|len<|sub x.2.1.2.1 (512:Int)<|minus (len x.2.1.2.1) 512)
 (ao (inside 0 b.1.2.2.2.2.2.1<|len<|sub x.2.1.2.1 (512:Int)<|minus (len x.2.1.2.1) 512)
 (ab (((b.1,sub (sub x.2.1.2.1 (512:Int)<|minus (len x.2.1.2.1) 512) (0:Int)<|minus b.1.2.2.2.2.2.1 0,()),true,()),(x.2.1.1,sub (sub x.2.1.2.1 (512:Int)<|minus (len x.2.1.2.1) 512) (aH i64 b.1.2.2.2.2.2.1 a.1)<|minus (len<|sub x.2.1.2.1 (512:Int)<|minus (len x.2.1.2.1) 512)<|aH i64 b.1.2.2.2.2.2.1 a.1,aH i64 x.2.1.2.2.1 1,x.2.1.2.2.2),()))
 ah)
 ah)))))
 ah)
 ah))
 ah))
def iS(x:al×SH×al):Option ((Bool×al)×SH×al) :=
 ab ((x.2.1.2.2.2.2.1,()),x.2.1,())
def iL(a:(al×al×Bool×al)×HT×(List HT)×SH×al):Option (((al×al×Bool×al)×HT×(List HT)×SH×al)⊕((al×al×Bool×al)×HT×(List HT)×SH×al)) :=
 dn (ao a.1.2.2.1
 (ao (fits<|plus (len a.2.2.1)<|len ([a.2.1]:List HT))
 (ag (bP ((),a.2.2.2.1,())) λb=>ab (Sum.inl (((),(),b.1.2.1,()),b.1.1,app a.2.2.1 ([a.2.1]:List HT),b.2.1,())))
 ah)
 (ab<|Sum.inr (0,((),(),a.1.2.2.1,()),a.2.1,a.2.2.1,a.2.2.2.1,())))
def fo(x:Sb×al):Option ((List HT)×Int×al) :=
 ag (bP ((),(true,x.1,(0:Int),aZ 8192<|len x.1,aZ 8192<|len x.1,()),())) (λa=>ag (Loop (iL) (((),(),a.1.2.1,()),a.1.1,([]:List HT),a.2.1,())) λb=>ag (iS ((),b.2.2.2.1,())) λc=>ao c.1.1
 (ab (([]:List HT),(10:Int),()))
 (ab (b.2.2.1,(0:Int),())))
def lu(a:(Int×al)×al):Option (((Int×al)×al)⊕((Int×al)×al)) :=
 dn (ao (aS 512 0)
 ah
 (ao (nt<|aS (jK a.1.1 512) 0)
 (ab<|Sum.inl ((aH i64 a.1.1 1,()),()))
 (ab<|Sum.inr (0,(a.1.1,()),()))))
def nj(x:Int×al):Option (Int×al) :=
 ag (Loop (lu) ((x.1,()),())) (λa=>ab (a.1.1,()))
end Go.Ge
namespace Go.Ge
variable [Lp]
set_option maxRecDepth 100000
abbrev abK:=(((Bool×Int×al)×al)⊕(Nat×(Bool×Int×al)×al))
abbrev HU:=(Int×Int×al)
abbrev ahr:=((HU×al)⊕(Nat×HU×al))
abbrev abL:=(Int×Int×Int×al)
def fG(x:Sb×al):Option ((List Sb)×al) :=
 ao (bG x.1 ([]:aw))
 (ab (([]:List Sb),()))
 (ag (vn (x.1,([47]:aw),())) λa=>ab (a.1,()))
def nG(x:Sb×al)(a:(Bool×Int×al)×al):Option abK :=
 ao (aZ a.1.2.1 2)
 (ag (idx ([([46]:aw),([46,46]:aw)]:List Sb) a.1.2.1) λb=>ao (bG x.1 b)
 (ab<|Sum.inr (1,(false,a.1.2.1,()),()))
 (ab<|Sum.inl ((a.1.1,aH i64 a.1.2.1 1,()),())))
 (ab<|Sum.inr (0,(a.1.1,a.1.2.1,()),()))
def r5(x:Sb×al):Option (Bool×al) :=
 ag (Loop (nG x) ((false,(0:Int),()),())) (λb=>ao (da b.1 0)
 (ag (ao (ao (cj 1<|len x.1)
 (cj (len x.1) 32)
 false)
 (ag (dx (x.1,(0:Int),())) λa=>ab (aZ a.1 0))
 (ab false)) λa=>ab (a,()))
 (ab (b.2.1.1,())))
def cE(x:Sb×Sb×al):Option (Bool×al) :=
 ag (cw (x.1,x.2.1,())) (λa=>ab (a.1,()))
def oX(d:(List Sb)×al)(a:(Sb×Int×al×Int×al)×(List Sb)×al):Option (((Sb×Int×al×Int×al)×(List Sb)×al)⊕(Nat×(Sb×Int×al×Int×al)×(List Sb)×al)) :=
 ao (aZ a.1.2.2.2.1<|len d.1)
 (ag (idx d.1 a.1.2.2.2.1) λc=>ag (ao (ao (nt<|bG c ([]:aw))
 (bG c ([46]:aw))
 true)
 (ab (0,(a.1.1,a.1.2.1,(),()),a.2.1,()))
 (ag (r5 (c,())) λb=>ao (nt b.1)
 (ab (1,(([]:aw),(2:Int),(),()),a.2.1,()))
 (ao (fits<|plus (len a.2.1)<|len ([c]:List Sb))
 (ab (0,(a.1.1,a.1.2.1,(),()),app a.2.1 ([c]:List Sb),()))
 ah))) λb=>ao (da b.1 0)
 (ab<|Sum.inl ((b.2.1.1,b.2.1.2.1,(),aH i64 a.1.2.2.2.1 1,()),b.2.2.1,()))
 (ab<|Sum.inr (1,(b.2.1.1,b.2.1.2.1,(),a.1.2.2.2.1,()),b.2.2.1,())))
 (ab<|Sum.inr (0,(a.1.1,a.1.2.1,(),a.1.2.2.2.1,()),a.2.1,()))
def p6(x:Sb×al):Option (Sb×Int×al) :=
 ag (fG (x.1,())) (λc=>ag (Loop (oX c) ((([]:aw),(0:Int),(),(0:Int),()),([]:List Sb),())) λa=>ao (da a.1 0)
 (ag (lj (a.2.2.1,([47]:aw),())) λb=>ag (cE (x.1,([47]:aw),())) λd=>ao (ao (nt<|ao (nt d.1)
 (aZ 8<|len a.2.2.1)
 true)
 (aZ 96<|len b.1)
 true)
 (ab (([]:aw),(2:Int),()))
 (ab (b.1,(0:Int),())))
 (ab (a.2.1.1,a.2.1.2.1,())))
def bX(x:(List Sb)×Sb×al)(a:HU×al):Option ahr :=
 ao (aZ a.1.2.1<|len x.1)
 (ag (idx x.1 a.1.2.1) λb=>ao (bG x.2.1 b)
 (ab<|Sum.inr (1,(a.1.2.1,a.1.2.1,()),()))
 (ab<|Sum.inl ((a.1.1,aH i64 a.1.2.1 1,()),())))
 (ab<|Sum.inr (0,(a.1.1,a.1.2.1,()),()))
def fi(x:(List Sb)×Sb×al):Option (Int×al) :=
 ag (Loop (bX x) (((0:Int),(0:Int),()),())) (λa=>ao (da a.1 0)
 (ab ((-1:Int),()))
 (ab (a.2.1.1,())))
def bB(x:(List Sb)×Sb×al):Option (Bool×al) :=
 ag (fi (x.1,x.2.1,())) (λa=>ab (cj 0 a.1,()))
def r8(x:Sb×al):Option (Int×Sb×al) :=
 ag (kM (x.1,([46,119,104,46]:aw),())) (λa=>ao (nt a.2.1)
 (ab ((0:Int),x.1,()))
 (ao (bG x.1 ([46,119,104,46,46,119,104,46,46,111,112,113]:aw))
 (ab ((2:Int),([]:aw),()))
 (ag (cE (a.1,([46,119,104,46]:aw),())) λc=>ag (ao (nt c.1)
 (ag (bB (([([]:aw),([46]:aw),([46,46]:aw)]:List Sb),a.1,())) λb=>ab b.1)
 (ab true)) λb=>ao b
 (ab ((3:Int),([]:aw),()))
 (ab ((1:Int),a.1,())))))
def cS(x:Sb×Int×al)(a:HU×al):Option ahr :=
 ao (cj 0 a.1.2.1)
 (ag (idx x.1 a.1.2.1) λb=>ao (aS (u8 b) x.2.1)
 (ab<|Sum.inr (1,(a.1.2.1,a.1.2.1,()),()))
 (ab<|Sum.inl ((a.1.1,db i64 a.1.2.1 1,()),())))
 (ab<|Sum.inr (0,(a.1.1,a.1.2.1,()),()))
def di(x:Sb×Int×al):Option (Int×al) :=
 ag (Loop (cS x) (((0:Int),db i64 (len x.1) 1,()),())) (λa=>ao (da a.1 0)
 (ab ((-1:Int),()))
 (ab (a.2.1.1,())))
def nX(x:Sb×al)(a:HU×al):Option ((HU×al)⊕(HU×al)) :=
 dn (ao (cj 0 a.1.2.1)
 (ag (idx x.1 a.1.2.1) λb=>ab (Sum.inl ((aH u32 (jH u32 a.1.1 16777619)<|kF u32<|u8 b,db i64 a.1.2.1 1,()),())))
 (ab<|Sum.inr (0,(a.1.1,a.1.2.1,()),())))
def nY(a:abL×al):Option ((abL×al)⊕(abL×al)) :=
 dn (ao (aZ 0 a.1.2.2.1)
 (ao (aZ 1 0)
 ah
 (ab<|Sum.inl ((((ao (nt<|aS (jV i64 a.1.2.2.1 1) 0)
 ((jH u32 a.1.1 a.1.2.1,()),())
 ((a.1.1,()),())).1).1,jH u32 a.1.2.1 a.1.2.1,mE i64 a.1.2.2.1 1,()),())))
 (ab<|Sum.inr (0,(a.1.1,a.1.2.1,a.1.2.2.1,()),())))
def ir(x:Sb×al):Option HU :=
 ag (Loop (nX x) (((0:Int),db i64 (len x.1) 1,()),())) (λa=>ag (Loop (nY) (((1:Int),(16777619:Int),len x.1,()),())) λb=>ab (a.1.1,b.1.1,()))
def j0(x:Sb×Sb×al)(a:HU×al):Option ((HU×al)⊕(HU×al)) :=
 dn (ao (cj (db i64 (len x.1)<|len x.2.1) a.1.2.1)
 (ag (idx x.1 a.1.2.1) λb=>ab (Sum.inl ((aH u32 (jH u32 a.1.1 16777619)<|kF u32<|u8 b,db i64 a.1.2.1 1,()),())))
 (ab<|Sum.inr (0,(a.1.1,a.1.2.1,()),())))
def j6(x:Sb×Sb×al)(b:Int×Int×al)(a:abL×al):Option ((abL×al)⊕(Nat×abL×al)) :=
 ao (cj 0 a.1.2.2.1)
 (ag (idx x.1 a.1.2.2.1) λc=>ag (idx x.1<|aH i64 a.1.2.2.1<|len x.2.1) λd=>ag (ao (aS (db u32 (aH u32 (jH u32 a.1.2.1 16777619)<|kF u32<|u8 c)<|jH u32 b.2.1<|kF u32<|u8 d) b.1)
 (ao (inside a.1.2.2.1 (aH i64 a.1.2.2.1<|len x.2.1)<|len x.1)
 (ab<|bG (sub x.1 a.1.2.2.1<|minus (aH i64 a.1.2.2.1<|len x.2.1) a.1.2.2.1) x.2.1)
 ah)
 (ab false)) λe=>ao e
 (ab<|Sum.inr (1,(a.1.2.2.1,db u32 (aH u32 (jH u32 a.1.2.1 16777619)<|kF u32<|u8 c)<|jH u32 b.2.1<|kF u32<|u8 d,a.1.2.2.1,()),()))
 (ab<|Sum.inl ((a.1.1,db u32 (aH u32 (jH u32 a.1.2.1 16777619)<|kF u32<|u8 c)<|jH u32 b.2.1<|kF u32<|u8 d,db i64 a.1.2.2.1 1,()),())))
 (ab<|Sum.inr (0,(a.1.1,a.1.2.1,a.1.2.2.1,()),()))
def fy(x:Sb×Sb×al):Option (Int×al) :=
 ag (ir (x.2.1,())) (λa=>ag (Loop (j0 x) (((0:Int),db i64 (len x.1) 1,()),())) λb=>ag (ao (aS b.1.1 a.1)
 (ao (inside (db i64 (len x.1)<|len x.2.1) (len x.1)<|len x.1)
 (ab<|bG (sub x.1 (db i64 (len x.1)<|len x.2.1)<|minus (len x.1)<|db i64 (len x.1)<|len x.2.1) x.2.1)
 ah)
 (ab false)) λd=>ao d
 (ab (db i64 (len x.1)<|len x.2.1,()))
 (ag (Loop (j6 x a) (((0:Int),b.1.1,db i64 (db i64 (len x.1)<|len x.2.1) 1,()),())) λc=>ao (da c.1 0)
 (ab ((-1:Int),()))
 (ab (c.2.1.1,()))))
def pM(x:Sb×Sb×al):Option (Int×al) :=
 ao (aS (len x.2.1) 0)
 (ab (len x.1,()))
 (ao (aS (len x.2.1) 1)
 (ag (idx x.2.1 (0:Int)) λa=>ag (di (x.1,u8 a,())) λb=>ab (b.1,()))
 (ao (aS (len x.2.1)<|len x.1)
 (ao (bG x.2.1 x.1)
 (ab ((0:Int),()))
 (ab ((-1:Int),())))
 (ao (aZ (len x.1)<|len x.2.1)
 (ab ((-1:Int),()))
 (ag (fy (x.1,x.2.1,())) λa=>ab (a.1,())))))
def gy(x:Sb×al):Option (Sb×Sb×al) :=
 ag (pM (x.1,([47]:aw),())) (λa=>ao (aZ a.1 0)
 (ab (([]:aw),x.1,()))
 (ao (inside 0 a.1<|len x.1)
 (ao (inside (aH i64 a.1 1) (len x.1)<|len x.1)
 (ab (sub x.1 (0:Int)<|minus a.1 0,sub x.1 (aH i64 a.1 1)<|minus (len x.1)<|aH i64 a.1 1,()))
 ah)
 ah))
def ev(x:(List Sb)×(List Sb)×al)(a:(Bool×Int×al)×al):Option abK :=
 ao (aZ a.1.2.1<|len x.1)
 (ag (idx x.1 a.1.2.1) λb=>ag (idx x.2.1 a.1.2.1) λc=>ao (nt<|bG b c)
 (ab<|Sum.inr (1,(false,a.1.2.1,()),()))
 (ab<|Sum.inl ((a.1.1,aH i64 a.1.2.1 1,()),())))
 (ab<|Sum.inr (0,(a.1.1,a.1.2.1,()),()))
def fj(x:(List Sb)×(List Sb)×al):Option (Bool×al) :=
 ao (nt<|aS (len x.1)<|len x.2.1)
 (ab (false,()))
 (ag (Loop (ev x) ((false,(0:Int),()),())) λa=>ao (da a.1 0)
 (ab (true,()))
 (ab (a.2.1.1,())))
def dF(x:Sb×Sb×al):Option (Bool×al) :=
 ag (fG (x.1,())) (λb=>ag (fG (x.2.1,())) λa=>ag (ao (aZ (len a.1)<|len b.1)
 (ao (inside 0 (len a.1)<|len b.1)
 (ag (fj (sub b.1 (0:Int)<|minus (len a.1) 0,a.1,())) λc=>ab c.1)
 ah)
 (ab false)) λc=>ab (c,()))
def jg(x:Sb×al):Option (Bool×al) :=
 ab (nt<|bG x.1 x.1,())
def j7(x:Sb×Sb×al):Option (Int×al) :=
 ag (jg (x.1,())) (λb=>ag (jg (x.2.1,())) λa=>ao b.1
 (ao a.1
 (ab ((0:Int),()))
 (ab ((-1:Int),())))
 (ao a.1
 (ab ((1:Int),()))
 (ao (fq x.1 x.2.1)
 (ab ((-1:Int),()))
 (ao (nt<|oor (fq x.1 x.2.1)<|bG x.1 x.2.1)
 (ab ((1:Int),()))
 (ab ((0:Int),()))))))
def dO(b:(List Sb)×al)(c:(List Sb)×al)(a:HU×al):Option ahr :=
 ao (aZ a.1.2.1<|len b.1)
 (ag (idx b.1 a.1.2.1) λe=>ao (cj (len c.1) a.1.2.1)
 (ab<|Sum.inr (1,((1:Int),a.1.2.1,()),()))
 (ag (idx c.1 a.1.2.1) λf=>ag (j7 (e,f,())) λd=>ao (nt<|aS d.1 0)
 (ab<|Sum.inr (1,(d.1,a.1.2.1,()),()))
 (ab<|Sum.inl ((a.1.1,aH i64 a.1.2.1 1,()),()))))
 (ab<|Sum.inr (0,(a.1.1,a.1.2.1,()),()))
def hM(x:Sb×Sb×al):Option (Int×al) :=
 ag (fG (x.1,())) (λa=>ag (fG (x.2.1,())) λb=>ag (Loop (dO a b) (((0:Int),(0:Int),()),())) λc=>ao (da c.1 0)
 (ao (aZ (len a.1)<|len b.1)
 (ab ((-1:Int),()))
 (ab ((0:Int),())))
 (ab (c.2.1.1,())))
def lv(x:Sb×al)(a:(al×Sb×Int×al)×(List Sb)×al):Option (((al×Sb×Int×al)×(List Sb)×al)⊕((al×Sb×Int×al)×(List Sb)×al)) :=
 dn (ao (aZ a.1.2.2.1<|len x.1)
 (ag (idx x.1 a.1.2.2.1) λc=>ag (ao (aS (u8 c) 47)
 (ao (fits<|plus (len a.2.1)<|len ([a.1.2.1]:List Sb))
 (ab (((),([]:aw),()),app a.2.1 ([a.1.2.1]:List Sb),()))
 ah)
 (ao (inside a.1.2.2.1 (aH i64 a.1.2.2.1 1)<|len x.1)
 (ao (fits<|plus (len a.1.2.1)<|len<|sub x.1 a.1.2.2.1<|minus (aH i64 a.1.2.2.1 1) a.1.2.2.1)
 (ab (((),app a.1.2.1<|sub x.1 a.1.2.2.1<|minus (aH i64 a.1.2.2.1 1) a.1.2.2.1,()),a.2.1,()))
 ah)
 ah)) λb=>ab (Sum.inl (((),b.1.2.1,aH i64 a.1.2.2.1 1,()),b.2.1,())))
 (ab<|Sum.inr (0,((),a.1.2.1,a.1.2.2.1,()),a.2.1,())))
def eE(x:Sb×al):Option ((List Sb)×al) :=
 ao (bG x.1 ([]:aw))
 (ab (([]:List Sb),()))
 (ag (Loop (lv x) (((),([]:aw),(0:Int),()),([]:List Sb),())) λa=>ao (fits<|plus (len a.2.1)<|len ([a.1.2.1]:List Sb))
 (ab (app a.2.1 ([a.1.2.1]:List Sb),()))
 ah)
def qv(x:(List Sb)×al)(a:(Sb×Int×al)×al):Option (((Sb×Int×al)×al)⊕((Sb×Int×al)×al)) :=
 dn (ao (aZ a.1.2.1<|len x.1)
 (ag (ao (aZ 0 a.1.2.1)
 (ao (fits<|plus (len a.1.1)<|len ([47]:aw))
 (ab ((app a.1.1 ([47]:aw),()),()))
 ah)
 (ab ((a.1.1,()),()))) λb=>ag (idx x.1 a.1.2.1) λc=>ao (fits<|plus (len b.1.1)<|len c)
 (ab<|Sum.inl ((app b.1.1 c,aH i64 a.1.2.1 1,()),()))
 ah)
 (ab<|Sum.inr (0,(a.1.1,a.1.2.1,()),())))
def oY(x:(List Sb)×al):Option (Sb×al) :=
 ag (Loop (qv x) ((([]:aw),(0:Int),()),())) (λa=>ab (a.1.1,()))
def nH(x:Sb×al)(a:(Bool×Int×al)×al):Option abK :=
 ao (aZ a.1.2.1<|len x.1)
 (ag (idx x.1 a.1.2.1) λc=>ag (ao (nt<|aS (u8 c) 0)
 (ag (idx x.1 a.1.2.1) λb=>ab (aS (u8 b) 47))
 (ab true)) λb=>ao b
 (ab<|Sum.inr (1,(false,a.1.2.1,()),()))
 (ab<|Sum.inl ((a.1.1,aH i64 a.1.2.1 1,()),())))
 (ab<|Sum.inr (0,(a.1.1,a.1.2.1,()),()))
def r9(x:Sb×al):Option (Bool×al) :=
 ag (Loop (nH x) ((false,(0:Int),()),())) (λa=>ao (da a.1 0)
 (ab (ao (ao (ao (cj 1<|len x.1)
 (cj (len x.1) 32)
 false)
 (nt<|bG x.1 ([46]:aw))
 false)
 (nt<|bG x.1 ([46,46]:aw))
 false,()))
 (ab (a.2.1.1,())))
def ub(b:(List Sb)×al)(a:(Bool×Int×al)×al):Option abK :=
 ao (aZ a.1.2.1<|len b.1)
 (ag (idx b.1 a.1.2.1) λc=>ag (r9 (c,())) λd=>ao (nt d.1)
 (ab<|Sum.inr (1,(false,a.1.2.1,()),()))
 (ab<|Sum.inl ((a.1.1,aH i64 a.1.2.1 1,()),())))
 (ab<|Sum.inr (0,(a.1.1,a.1.2.1,()),()))
def xd(x:Sb×al):Option (Bool×al) :=
 ag (eE (x.1,())) (λa=>ag (Loop (ub a) ((false,(0:Int),()),())) λb=>ao (da b.1 0)
 (ab (ao (cj (len a.1) 8)
 (cj (len x.1) 96)
 false,()))
 (ab (b.2.1.1,())))
def lz(b:(List Sb)×al)(a:(al×Int×al)×(List Sb)×al):Option (((al×Int×al)×(List Sb)×al)⊕((al×Int×al)×(List Sb)×al)) :=
 dn (ao (aZ a.1.2.1<|len b.1)
 (ag (idx b.1 a.1.2.1) λe=>ag (ao (nt<|bG e ([]:aw))
 (ag (idx b.1 a.1.2.1) λd=>ab (nt<|bG d ([46]:aw)))
 (ab false)) λd=>ag (ao d
 (ag (idx b.1 a.1.2.1) λc=>ao (fits<|plus (len a.2.1)<|len ([c]:List Sb))
 (ab (((),()),app a.2.1 ([c]:List Sb),()))
 ah)
 (ab (((),()),a.2.1,()))) λc=>ab (Sum.inl (((),aH i64 a.1.2.1 1,()),c.2.1,())))
 (ab<|Sum.inr (0,((),a.1.2.1,()),a.2.1,())))
def uc(x:Sb×al):Option (Sb×Int×al) :=
 ag (eE (x.1,())) (λd=>ag (Loop (lz d) (((),(0:Int),()),([]:List Sb),())) λe=>ag (oY (e.2.1,())) λc=>ag (ao (nt<|bG x.1 ([]:aw))
 (ag (idx x.1 (0:Int)) λa=>ab (aS (u8 a) 47))
 (ab false)) λa=>ag (ao (nt a)
 (ag (xd (c.1,())) λb=>ab (nt b.1))
 (ab true)) λb=>ao b
 (ab (([]:aw),(2:Int),()))
 (ab (c.1,(0:Int),())))
def oo(x:Sb×Sb×al):Option (Bool×al) :=
 ag (ao (cj (len x.2.1)<|len x.1)
 (ao (inside 0 (len x.2.1)<|len x.1)
 (ab<|bG (sub x.1 (0:Int)<|minus (len x.2.1) 0) x.2.1)
 ah)
 (ab false)) (λa=>ab (a,()))
def sa(x:Sb×al):Option (Int×Sb×al) :=
 ao (bG x.1 ([46,119,104,46,46,119,104,46,46,111,112,113]:aw))
 (ab ((2:Int),([]:aw),()))
 (ag (oo (x.1,([46,119,104,46,46,119,104,46]:aw),())) λa=>ao (ao (nt<|ao (nt<|ao (nt a.1)
 (bG x.1 ([46,119,104,46]:aw))
 true)
 (bG x.1 ([46,119,104,46,46]:aw))
 true)
 (bG x.1 ([46,119,104,46,46,46]:aw))
 true)
 (ab ((3:Int),([]:aw),()))
 (ag (oo (x.1,([46,119,104,46]:aw),())) λb=>ao b.1
 (ao (inside 4 (len x.1)<|len x.1)
 (ab ((1:Int),sub x.1 (4:Int)<|minus (len x.1) 4,()))
 ah)
 (ab ((0:Int),x.1,()))))
def kx(x:Sb×al):Option (Sb×Sb×al) :=
 ag (eE (x.1,())) (λa=>ao (aS (len a.1) 0)
 (ab (([]:aw),([]:aw),()))
 (ao (inside 0 (db i64 (len a.1) 1)<|len a.1)
 (ag (oY (sub a.1 (0:Int)<|minus (db i64 (len a.1) 1) 0,())) λb=>ag (idx a.1<|db i64 (len a.1) 1) λc=>ab (b.1,c,()))
 ah))
def j8(x:(List Sb)×(List Sb)×al)(a:(Bool×Int×al)×al):Option abK :=
 ao (ao (aZ a.1.2.1<|len x.1)
 (aZ a.1.2.1<|len x.2.1)
 false)
 (ag (idx x.1 a.1.2.1) λb=>ag (idx x.2.1 a.1.2.1) λc=>ao (nt<|bG b c)
 (ab<|Sum.inr (1,(false,a.1.2.1,()),()))
 (ab<|Sum.inl ((a.1.1,aH i64 a.1.2.1 1,()),())))
 (ab<|Sum.inr (0,(a.1.1,a.1.2.1,()),()))
def e8(x:(List Sb)×(List Sb)×al):Option (Bool×al) :=
 ao (nt<|aS (len x.1)<|len x.2.1)
 (ab (false,()))
 (ag (Loop (j8 x) ((false,(0:Int),()),())) λa=>ao (da a.1 0)
 (ab (true,()))
 (ab (a.2.1.1,())))
def oZ(x:Sb×Sb×al):Option (Sb×al) :=
 ao (ao (nt<|bG x.1 ([]:aw))
 (bG x.2.1 ([]:aw))
 true)
 (ao (fits<|plus (len x.1)<|len x.2.1)
 (ab (app x.1 x.2.1,()))
 ah)
 (ao (fits<|plus (len x.1)<|len ([47]:aw))
 (ao (fits<|plus (len<|app x.1 ([47]:aw))<|len x.2.1)
 (ab (app (app x.1 ([47]:aw)) x.2.1,()))
 ah)
 ah)
def pa(x:Sb×Sb×al):Option (Sb×al) :=
 ao (bG x.1 ([]:aw))
 (ab (x.2.1,()))
 (ao (bG x.2.1 ([]:aw))
 (ab (x.1,()))
 (ao (fits<|plus (len x.1)<|len ([47]:aw))
 (ao (fits<|plus (len<|app x.1 ([47]:aw))<|len x.2.1)
 (ab (app (app x.1 ([47]:aw)) x.2.1,()))
 ah)
 ah))
def pb(b:(List Sb)×al)(c:(List Sb)×al)(a:(Bool×Int×al)×al):Option abK :=
 ao (ao (aZ a.1.2.1<|len c.1)
 (aZ a.1.2.1<|len b.1)
 false)
 (ag (idx b.1 a.1.2.1) λd=>ag (idx c.1 a.1.2.1) λe=>ao (nt<|bG d e)
 (ab<|Sum.inr (1,(false,a.1.2.1,()),()))
 (ab<|Sum.inl ((a.1.1,aH i64 a.1.2.1 1,()),())))
 (ab<|Sum.inr (0,(a.1.1,a.1.2.1,()),()))
def ud(x:Sb×Sb×al):Option (Bool×al) :=
 ag (eE (x.1,())) (λa=>ag (eE (x.2.1,())) λb=>ao (cj (len a.1)<|len b.1)
 (ab (false,()))
 (ag (Loop (pb a b) ((false,(0:Int),()),())) λc=>ao (da c.1 0)
 (ab (true,()))
 (ab (c.2.1.1,()))))
def dP(b:(List Sb)×al)(c:(List Sb)×al)(a:HU×al):Option ahr :=
 ao (ao (aZ a.1.2.1<|len b.1)
 (aZ a.1.2.1<|len c.1)
 false)
 (ag (idx b.1 a.1.2.1) λf=>ag (idx c.1 a.1.2.1) λg=>ao (fq f g)
 (ab<|Sum.inr (1,((-1:Int),a.1.2.1,()),()))
 (ag (idx b.1 a.1.2.1) λd=>ag (idx c.1 a.1.2.1) λe=>ao (nt<|oor (fq d e)<|bG d e)
 (ab<|Sum.inr (1,((1:Int),a.1.2.1,()),()))
 (ab<|Sum.inl ((a.1.1,aH i64 a.1.2.1 1,()),()))))
 (ab<|Sum.inr (0,(a.1.1,a.1.2.1,()),()))
def mJ(x:Sb×Sb×al):Option (Int×al) :=
 ag (eE (x.1,())) (λa=>ag (eE (x.2.1,())) λb=>ag (Loop (dP a b) (((0:Int),(0:Int),()),())) λc=>ao (da c.1 0)
 (ao (aZ (len a.1)<|len b.1)
 (ab ((-1:Int),()))
 (ao (aZ (len b.1)<|len a.1)
 (ab ((1:Int),()))
 (ab ((0:Int),()))))
 (ab (c.2.1.1,())))
end Go.Ge
namespace Go.Ge
variable [Lp]
set_option maxRecDepth 100000
def gG(x:Sb×al)(a:(Int×Bool×Int×Int×al)×al):Option (((Int×Bool×Int×Int×al)×al)⊕(Nat×(Int×Bool×Int×Int×al)×al)) :=
 ao (aZ a.1.2.2.2.1<|len x.1)
 (ag (idx x.1 a.1.2.2.2.1) λc=>ag (ao (nt<|aZ (u8 c) 48)
 (ag (idx x.1 a.1.2.2.2.1) λb=>ab (aZ 55<|u8 b))
 (ab true)) λb=>ao (ao (nt b)
 (aZ 1152921504606846975 a.1.2.2.1)
 true)
 (ab<|Sum.inr (1,((0:Int),false,a.1.2.2.1,a.1.2.2.2.1,()),()))
 (ag (idx x.1 a.1.2.2.2.1) λd=>ab (Sum.inl ((a.1.1,a.1.2.1,aH i64 (jH i64 8 a.1.2.2.1)<|kF i64<|db IntKind.u8 (u8 d) 48,aH i64 a.1.2.2.2.1 1,()),()))))
 (ab<|Sum.inr (0,(a.1.1,a.1.2.1,a.1.2.2.1,a.1.2.2.2.1,()),()))
def nI(x:Sb×al):Option (Int×Bool×al) :=
 ao (ao (nt<|aZ (len x.1) 1)
 (aZ 21<|len x.1)
 true)
 (ab ((0:Int),false,()))
 (ag (Loop (gG x) (((0:Int),false,(0:Int),(0:Int),()),())) λa=>ao (da a.1 0)
 (ab (a.2.1.2.2.1,true,()))
 (ab (a.2.1.1,a.2.1.2.1,())))
end Go.Ge
namespace Go.Ge
variable [Lp]
set_option maxRecDepth 100000
abbrev Jr:=(Int×(List<|Sb×Sb×(List Sb)×Sb×Int×Int×Bool×al)×(List<|Sb×(List Sb)×Sb×Sb×(List<|Sb×Sb×Sb×al)×al)×(List<|Sb×(List Sb)×Sb×Sb×Sb×(List<|Sb×Sb×Sb×al)×al)×al)
abbrev Gr:=(((Bool×Int×al)×al)⊕(Nat×(Bool×Int×al)×al))
abbrev sb:=(Sb×(List Sb)×al)
abbrev QM:=((Int×al)×al×(List sb)×al)
abbrev Bl:=(Int×Int×al)
abbrev D8:=(Bool×Int×al)
def eo(l:List aw)(x:al):Option (List aw):=bif fits (len l) then ab (ri l) else ah
def eK(l:List aw)(x:al):Option (List aw):=ab (Lib.compact (α:=aw) l)
def kN(x:(List Sb)×al)(a:D8×al):Option Gr :=
 ao (ao (aZ a.1.2.1<|len x.1)
 (aZ a.1.2.1 8)
 false)
 (ag (idx x.1 a.1.2.1) λb=>ao (aZ 100<|len b)
 (ab<|Sum.inr (1,(false,a.1.2.1,()),()))
 (ab<|Sum.inl ((a.1.1,aH i64 a.1.2.1 1,()),())))
 (ab<|Sum.inr (0,(a.1.1,a.1.2.1,()),()))
def pc(x:(List Sb)×al):Option (Bool×al) :=
 ag (Loop (kN x) ((false,(0:Int),()),())) (λa=>ao (da a.1 0)
 (ab (cj (len x.1) 8,()))
 (ab (a.2.1.1,())))
def bc(x:(List Sb)×al):Option ((List Sb)×al) :=
 bif fits (len x.1) then ab (x.1,()) else ah
def mK(x:Sb×al):Option (Bool×al) :=
 ag (ao (ao (cj 1<|len x.1)
 (cj (len x.1) 32)
 false)
 (ag (jf (x.1,([97,98,99,100,101,102,103,104,105,106,107,108,109,110,111,112,113,114,115,116,117,118,119,120,121,122,48,49,50,51,52,53,54,55,56,57,46,95,45]:aw),())) λa=>ab (bG a.1 ([]:aw)))
 (ab false)) (λa=>ab (a,()))
def pd(x:(List Sb)×al)(a:Bl×al):Option ((Bl×al)⊕(Nat×Bl×al)) :=
 ao (aZ a.1.2.1<|len x.1)
 (ag (idx x.1 a.1.2.1) λb=>ag (mK (b,())) λc=>ao (nt c.1)
 (ab<|Sum.inr (1,(a.1.2.1,a.1.2.1,()),()))
 (ab<|Sum.inl ((a.1.1,aH i64 a.1.2.1 1,()),())))
 (ab<|Sum.inr (0,(a.1.1,a.1.2.1,()),()))
def fH(x:(List Sb)×al):Option (Int×al) :=
 ao (fits<|len x.1)
 (ag (eo x.1 ()) λc=>ag (eK c ()) λa=>ag (Loop (pd x) (((0:Int),(0:Int),()),())) λb=>ao (da b.1 0)
 (ao (ao (nt<|ao (nt<|aZ 4<|len x.1)
 (aZ (len a)<|len x.1)
 true)
 (cj 0<|-1)
 true)
 (ab ((1:Int),()))
 (ab ((0:Int),())))
 (ao (ao (nt<|ao (nt<|aZ 4<|len x.1)
 (aZ (len a)<|len x.1)
 true)
 (cj 0 b.2.1.1)
 true)
 (ab ((1:Int),()))
 (ab ((0:Int),()))))
 ah
def qw(x:(List sb)×Sb×al)(a:Bl×Sb×al):Option ((Bl×Sb×al)⊕(Nat×Bl×Sb×al)) :=
 ao (aZ a.1.2.1<|len x.1)
 (ag (idx x.1 a.1.2.1) λb=>ao (bG b.1 a.2.1)
 (ab<|Sum.inr (1,(a.1.2.1,a.1.2.1,()),a.2.1,()))
 (ab<|Sum.inl ((a.1.1,aH i64 a.1.2.1 1,()),a.2.1,())))
 (ab<|Sum.inr (0,(a.1.1,a.1.2.1,()),a.2.1,()))
def vY(x:(List sb)×Sb×al):Option (Int×al) :=
 ag (Loop (qw x) (((0:Int),(0:Int),()),x.2.1,())) (λa=>ao (da a.1 0)
 (ab ((-1:Int),()))
 (ab (a.2.1.1,())))
def jO(b:Sb×(List Sb)×al)(a:Bl×(List Sb)×al):Option ((Bl×(List Sb)×al)⊕(Nat×Bl×(List Sb)×al)) :=
 ao (aZ a.1.2.1<|len b.2.1)
 (ag (idx b.2.1 a.1.2.1) λc=>ag (bB (a.2.1,c,())) λd=>ao d.1
 (ab<|Sum.inr (1,(a.1.2.1,a.1.2.1,()),a.2.1,()))
 (ab<|Sum.inl ((a.1.1,aH i64 a.1.2.1 1,()),a.2.1,())))
 (ab<|Sum.inr (0,(a.1.1,a.1.2.1,()),a.2.1,()))
def qx(x:(List sb)×Sb×(List Sb)×al)(c:Int×al)(a:Bl×(List Sb)×al):Option ((Bl×(List Sb)×al)⊕(Nat×Bl×(List Sb)×al)) :=
 ao (aZ a.1.2.1<|len x.1)
 (ag (idx x.1 a.1.2.1) λd=>ao (nt<|aS a.1.2.1 c.1)
 (ag (Loop (jO d) (((0:Int),(0:Int),()),a.2.1,())) λb=>ao (da b.1 0)
 (ao (cj 0<|-1)
 (ab<|Sum.inr (1,((8:Int),a.1.2.1,()),b.2.2.1,()))
 (ab<|Sum.inl ((a.1.1,aH i64 a.1.2.1 1,()),b.2.2.1,())))
 (ao (cj 0 b.2.1.1)
 (ab<|Sum.inr (1,((8:Int),a.1.2.1,()),b.2.2.1,()))
 (ab<|Sum.inl ((a.1.1,aH i64 a.1.2.1 1,()),b.2.2.1,()))))
 (ab<|Sum.inl ((a.1.1,aH i64 a.1.2.1 1,()),a.2.1,())))
 (ab<|Sum.inr (0,(a.1.1,a.1.2.1,()),a.2.1,()))
def gz(x:(List sb)×Sb×(List Sb)×al):Option (Int×al) :=
 ag (fH (x.2.2.1,())) (λa=>ao (nt<|aS a.1 0)
 (ab (a.1,()))
 (ag (vY (x.1,x.2.1,())) λc=>ag (Loop (qx x c) (((0:Int),(0:Int),()),x.2.2.1,())) λb=>ao (da b.1 0)
 (ab ((0:Int),()))
 (ab (b.2.1.1,()))))
def ue(x:Int×Jr×al)(a:(Int×al)×al×(List sb)×al):Option (QM⊕QM) :=
 dn (ao (aZ a.1.1<|len x.2.1.2.2.2.1)
 (ag (idx x.2.1.2.2.2.1 a.1.1) λb=>ag (bc (b.2.1,())) λc=>ao (fits<|plus (len a.2.2.1)<|len ([(b.1,c.1,())]:List sb))
 (ab<|Sum.inl ((aH i64 a.1.1 1,()),(),app a.2.2.1 ([(b.1,c.1,())]:List sb),()))
 ah)
 (ab<|Sum.inr (0,(a.1.1,()),(),a.2.2.1,())))
def uf(x:Int×Jr×al)(a:(Int×al)×al×(List sb)×al):Option (QM⊕QM) :=
 dn (ao (aZ a.1.1<|len x.2.1.2.2.1)
 (ag (idx x.2.1.2.2.1 a.1.1) λb=>ag (bc (b.2.1,())) λc=>ao (fits<|plus (len a.2.2.1)<|len ([(b.1,c.1,())]:List sb))
 (ab<|Sum.inl ((aH i64 a.1.1 1,()),(),app a.2.2.1 ([(b.1,c.1,())]:List sb),()))
 ah)
 (ab<|Sum.inr (0,(a.1.1,()),(),a.2.2.1,())))
def ug(x:Int×Jr×al)(a:(Int×al)×al×(List sb)×al):Option (QM⊕QM) :=
 dn (ao (aZ a.1.1<|len x.2.1.2.1)
 (ag (idx x.2.1.2.1 a.1.1) λb=>ag (ao b.2.2.2.2.2.2.1
 (ag (bc (b.2.2.1,())) λc=>ao (fits<|plus (len a.2.2.1)<|len ([(b.1,c.1,())]:List sb))
 (ab ((),b,(),app a.2.2.1 ([(b.1,c.1,())]:List sb),()))
 ah)
 (ab ((),b,(),a.2.2.1,()))) λc=>ab (Sum.inl ((aH i64 a.1.1 1,()),(),c.2.2.2.1,())))
 (ab<|Sum.inr (0,(a.1.1,()),(),a.2.2.1,())))
def qR(x:Int×Jr×al):Option ((List sb)×al) :=
 ag (ao (aS x.1 1)
 (ag (Loop (ue x) (((0:Int),()),(),([]:List sb),())) λa=>ab ((),(),a.2.2.1,()))
 (ag (ao (aS x.1 2)
 (ag (Loop (uf x) (((0:Int),()),(),([]:List sb),())) λa=>ab ((),(),a.2.2.1,()))
 (ag (ao (aS x.1 3)
 (ag (Loop (ug x) (((0:Int),()),(),([]:List sb),())) λa=>ab ((),(),a.2.2.1,()))
 (ab ((),(),([]:List sb),()))) λa=>ab ((),(),a.2.2.1,()))) λa=>ab ((),(),a.2.2.1,()))) (λa=>ab (a.2.2.1,()))
def nJ(x:Sb×al)(a:D8×al):Option Gr :=
 ao (aZ a.1.2.1<|len x.1)
 (ag (idx x.1 a.1.2.1) λb=>ao (ao (ao (ao (ao (ao (nt<|aZ (u8 b) 97)
 (aZ 122<|u8 b)
 true)
 (ao (nt<|aZ (u8 b) 48)
 (aZ 57<|u8 b)
 true)
 false)
 (nt<|aS (u8 b) 46)
 false)
 (nt<|aS (u8 b) 95)
 false)
 (nt<|aS (u8 b) 45)
 false)
 (ab<|Sum.inr (1,(false,a.1.2.1,()),()))
 (ab<|Sum.inl ((a.1.1,aH i64 a.1.2.1 1,()),())))
 (ab<|Sum.inr (0,(a.1.1,a.1.2.1,()),()))
def oq(x:Sb×al):Option (Bool×al) :=
 ag (Loop (nJ x) ((false,(0:Int),()),())) (λa=>ao (da a.1 0)
 (ab (ao (cj 1<|len x.1)
 (cj (len x.1) 32)
 false,()))
 (ab (a.2.1.1,())))
def iT(x:(List Sb)×al)(b:D8×al)(a:D8×al):Option Gr :=
 ao (aZ a.1.2.1 b.1.2.1)
 (ag (idx x.1 a.1.2.1) λc=>ag (idx x.1 b.1.2.1) λd=>ao (bG c d)
 (ab<|Sum.inr (1,(false,a.1.2.1,()),()))
 (ab<|Sum.inl ((a.1.1,aH i64 a.1.2.1 1,()),())))
 (ab<|Sum.inr (0,(a.1.1,a.1.2.1,()),()))
def pe(x:(List Sb)×al)(a:D8×al):Option Gr :=
 ao (aZ a.1.2.1<|len x.1)
 (ag (idx x.1 a.1.2.1) λc=>ag (oq (c,())) λd=>ao (nt d.1)
 (ab<|Sum.inr (1,(false,a.1.2.1,()),()))
 (ag (Loop (iT x a) ((a.1.1,(0:Int),()),())) λb=>ao (da b.1 0)
 (ab<|Sum.inl ((b.2.1.1,aH i64 a.1.2.1 1,()),()))
 (ab<|Sum.inr (1,(b.2.1.1,a.1.2.1,()),()))))
 (ab<|Sum.inr (0,(a.1.1,a.1.2.1,()),()))
def nk(x:(List Sb)×al):Option (Bool×al) :=
 ag (Loop (pe x) ((false,(0:Int),()),())) (λa=>ao (da a.1 0)
 (ab (cj (len x.1) 4,()))
 (ab (a.2.1.1,())))
def sd(x:(List Sb)×al)(a:D8×al):Option Gr :=
 ao (ao (aZ a.1.2.1<|len x.1)
 (aZ a.1.2.1 8)
 false)
 (ag (idx x.1 a.1.2.1) λb=>ao (aZ 100<|len b)
 (ab<|Sum.inr (1,(false,a.1.2.1,()),()))
 (ab<|Sum.inl ((a.1.1,aH i64 a.1.2.1 1,()),())))
 (ab<|Sum.inr (0,(a.1.1,a.1.2.1,()),()))
def lV(x:(List Sb)×al):Option (Bool×al) :=
 ag (Loop (sd x) ((false,(0:Int),()),())) (λa=>ao (da a.1 0)
 (ab (cj (len x.1) 8,()))
 (ab (a.2.1.1,())))
def eX(x:(List<|Sb×Sb×Sb×al)×al)(a:D8×al):Option Gr :=
 ao (ao (aZ a.1.2.1<|len x.1)
 (aZ a.1.2.1 8)
 false)
 (ag (idx x.1 a.1.2.1) λc=>ag (ao (nt<|aZ 100<|len c.1)
 (ag (idx x.1 a.1.2.1) λb=>ab (aZ 200<|len b.2.2.1))
 (ab true)) λb=>ao b
 (ab<|Sum.inr (1,(false,a.1.2.1,()),()))
 (ab<|Sum.inl ((a.1.1,aH i64 a.1.2.1 1,()),())))
 (ab<|Sum.inr (0,(a.1.1,a.1.2.1,()),()))
def eL(x:(List<|Sb×Sb×Sb×al)×al):Option (Bool×al) :=
 ag (Loop (eX x) ((false,(0:Int),()),())) (λa=>ao (da a.1 0)
 (ab (cj (len x.1) 8,()))
 (ab (a.2.1.1,())))
def jh(x:Jr×al)(a:D8×al):Option Gr :=
 ao (ao (aZ a.1.2.1<|len x.1.2.1)
 (aZ a.1.2.1 40)
 false)
 (ag (idx x.1.2.1 a.1.2.1) λb=>ag (lV (b.2.2.1,())) λc=>ao (nt c.1)
 (ab<|Sum.inr (1,(false,a.1.2.1,()),()))
 (ab<|Sum.inl ((a.1.1,aH i64 a.1.2.1 1,()),())))
 (ab<|Sum.inr (0,(a.1.1,a.1.2.1,()),()))
def ji(x:Jr×al)(a:D8×al):Option Gr :=
 ao (ao (aZ a.1.2.1<|len x.1.2.2.1)
 (aZ a.1.2.1 40)
 false)
 (ag (idx x.1.2.2.1 a.1.2.1) λd=>ag (lV (d.2.1,())) λe=>ag (ao (nt<|nt e.1)
 (ag (idx x.1.2.2.1 a.1.2.1) λb=>ab (aZ 200<|len b.2.2.2.1))
 (ab true)) λb=>ag (ao (nt b)
 (ag (idx x.1.2.2.1 a.1.2.1) λc=>ag (eL (c.2.2.2.2.1,())) λf=>ab (nt f.1))
 (ab true)) λc=>ao c
 (ab<|Sum.inr (1,(false,a.1.2.1,()),()))
 (ab<|Sum.inl ((a.1.1,aH i64 a.1.2.1 1,()),())))
 (ab<|Sum.inr (0,(a.1.1,a.1.2.1,()),()))
def jj(x:Jr×al)(a:D8×al):Option Gr :=
 ao (ao (aZ a.1.2.1<|len x.1.2.2.2.1)
 (aZ a.1.2.1 40)
 false)
 (ag (idx x.1.2.2.2.1 a.1.2.1) λd=>ag (lV (d.2.1,())) λe=>ag (ao (nt<|nt e.1)
 (ag (idx x.1.2.2.2.1 a.1.2.1) λb=>ab (aZ 200<|len b.2.2.2.2.1))
 (ab true)) λb=>ag (ao (nt b)
 (ag (idx x.1.2.2.2.1 a.1.2.1) λc=>ag (eL (c.2.2.2.2.2.1,())) λf=>ab (nt f.1))
 (ab true)) λc=>ao c
 (ab<|Sum.inr (1,(false,a.1.2.1,()),()))
 (ab<|Sum.inl ((a.1.1,aH i64 a.1.2.1 1,()),())))
 (ab<|Sum.inr (0,(a.1.1,a.1.2.1,()),()))
def rl(x:Jr×al):Option (Bool×al) :=
 ag (Loop (jh x) ((false,(0:Int),()),())) (λa=>ao (da a.1 0)
 (ag (Loop (ji x) ((a.2.1.1,(0:Int),()),())) λb=>ao (da b.1 0)
 (ag (Loop (jj x) ((b.2.1.1,(0:Int),()),())) λc=>ao (da c.1 0)
 (ab (ao (ao (cj (len x.1.2.1) 40)
 (cj (len x.1.2.2.1) 40)
 false)
 (cj (len x.1.2.2.2.1) 40)
 false,()))
 (ab (c.2.1.1,())))
 (ab (b.2.1.1,())))
 (ab (a.2.1.1,())))
end Go.Ge
namespace Go.Ge
variable [Lp]
abbrev Tx:=aw
abbrev Nm:=Tx×List Tx×al
def MZ(l:List Nm)(id:Tx):Int:=match l.findIdx? (λx=>decide (x.1=id)) with|some i=>(i:Int)|none=>-1
def ae3{l:List Nm}{id:Tx}{i:Nat}{x:Nm}(b:l[i]?=ab x)(c:x.1=id)(d:∀j y,j<i->l[j]?=ab y->decide (y.1=id)=false):MZ l id=i:=by
 unfold MZ;have:l.findIdx? (λx=>decide (x.1=id))=ab i:=by
  rw[aa3];obtain⟨e,rfl⟩:=ib.1 b;exact⟨e,by simp[c],λj a=>by have:=d j l[j] a (ia ai);simpa using this⟩
 rw[this]
def Yj{l:List Nm}{id:Tx}(a:∀(i:Nat) (x:Nm),l[i]?=ab x->decide (x.1=id)=false):MZ l id=-1:=by
 unfold MZ;have:l.findIdx? (λx=>decide (x.1=id))=none:=by
  rw[adv];intro x b;obtain⟨i,c⟩:=bz.1 b;exact a i x c
 rw[this]
def M0(l:List Nm)(id:Tx)(b:l.length<=4294967296):vY (l,id,())=ab (MZ l id,()):=by
 unfold vY;rcases iQ (f:=qw (l,id,())) l (λi=>(((0:Int),i,()),id,())) (λ_ x=>decide (x.1=id)) (λi x=>(1,((i:Int),(i:Int),()),id,())) (0,((0:Int),len l,()),id,()) b (λi x a c d=>by
  unfold qw;dsimp only;rw[aq c,ae,au a,aa,eA,d];by_cases h:x.1=id<;>simp[bG,h]) (by unfold qw;dsimp only;rw[ay,af];rfl) with ⟨i,x,a,e,g,h⟩|⟨j,h⟩
 .rw[h,aa,ae3 a (iy e) g];rfl
 .rw[h,aa,Yj j];rfl
def xe(l:List Tx)(s:Tx)(c:l.length<=4294967296):bB (l,s,())=ab (decide<|s∈l,()):=by
 unfold bB fi;dsimp only;rcases iQ (f:=bX (l,s,())) l (λi=>(((0:Int),i,()),())) (λ_ x=>decide (x=s)) (λi x=>(1,((i:Int),(i:Int),()),())) (0,((0:Int),len l,()),()) c (λi x a b d=>by
  unfold bX;dsimp only;rw[aq b,ae,au a,aa,eA,d];by_cases h:x=s
  .simp[bG,h]
  .have g:¬s=x:=λe=>h e.symm;simp[bG,h,g]) (by unfold bX;dsimp only;rw[ay,af];rfl) with ⟨i,x,a,j,n,h⟩|⟨k,h⟩
 .rw[h,aa];have:s∈l:=by rw[<-iy j];exact bz.2 ⟨i,a⟩
  rw[dE this];show ab (cj 0 (i:Int),())=_
  rw[bO ai]
 .rw[h,aa];have:s∉l:=λm=>by
   obtain⟨i,b⟩:=bz.1 m;have:=k i s b;simp at this
  simp[this,da,ao,ag,cj]
def Small(l:List Nm):Prop:=l.length<=4294967296/\∀x∈l,x.2.1.length<=4294967296
end Go.Ge
