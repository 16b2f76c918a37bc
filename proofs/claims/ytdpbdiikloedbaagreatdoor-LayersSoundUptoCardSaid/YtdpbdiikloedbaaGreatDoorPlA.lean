/- Plain laws of what the functions compute: part 1. -/
import Derived.Test.YtdpbdiikloedbaaGreatDoorGeK
import Derived.Lib.Repeat
set_option linter.unusedSectionVars false
noncomputable section
open Go.IntKind (i64 u32)
namespace Go.Ge
variable [Lp]
theorem en{a b:Int}(h:-9223372036854775808<=a+b)(c:a+b<=9223372036854775807):aF .i64 a b=a+b:=by
 unfold aF;simp[IntKind.wrap,IntKind.min,IntKind.max,IntKind.signed,IntKind.bits];omega
theorem de{a b:Int}(h:-9223372036854775808<=a-b)(c:a-b<=9223372036854775807):cC .i64 a b=a-b:=by
 unfold cC;simp[IntKind.wrap,IntKind.min,IntKind.max,IntKind.signed,IntKind.bits];omega
theorem zK{a b:Int}(h:-9223372036854775808<=a*b)(c:a*b<=9223372036854775807):gX .i64 a b=a*b:=by
 unfold gX;simp[IntKind.wrap,IntKind.min,IntKind.max,IntKind.signed,IntKind.bits];omega
theorem yc{a:Int}(h:-9223372036854775808<=a)(b:a<=9223372036854775807):jC .i64 a=a:=by
 unfold jC;simp[IntKind.wrap,IntKind.min,IntKind.max,IntKind.signed,IntKind.bits];omega
theorem acW{a:Int}(h:0<=a)(b:a<=18446744073709551615):jC .u64 a=a:=by
 unfold jC;simp[IntKind.wrap,IntKind.min,IntKind.max,IntKind.signed,IntKind.bits];omega
theorem wrap_u32(a:Int):IntKind.wrap .u32 a=a % 4294967296:=by
 simp[IntKind.wrap,IntKind.min,IntKind.max,IntKind.signed,IntKind.bits]
def Bv(x:Int):BitVec 32:=BitVec.ofInt 32 x
def Can(x:Int):Prop:=0<=x/\x<4294967296
theorem Sa(a:Int):Can (IntKind.wrap .u32 a):=by rw[wrap_u32];unfold Can;omega
theorem uL(a:Int):((Bv a).toNat:Int)=a % 4294967296:=by
 unfold Bv;rw[ZH];have:0<=a % ((2 ^ 32:Nat):Int):=Int.emod_nonneg _ (by decide);rw[ZF this];rfl
theorem acX{a b:Int}(c:Can a)(d:Can b)(h:Bv a=Bv b):a=b:=by
 have e:=uL a;have f:=uL b;rw[h] at e;unfold Can at c d;omega
theorem HY(a:Int):Bv (IntKind.wrap .u32 a)=Bv a:=by
 apply ZC;have c:=uL a;have b:=uL (IntKind.wrap .u32 a);rw[wrap_u32] at b⊢;omega
theorem UR(v:BitVec 32):Bv (v.toNat:Int)=v:=by
 apply ZC;have a:=uL (v.toNat:Int);have:=v.isLt;omega
theorem bv_and(x y:Int):Bv (lP .u32 x y)=Bv x &&& Bv y:=by unfold lP;rw[HY];exact UR _
theorem Wz(x y:Int):Bv (wV .u32 x y)=Bv x ||| Bv y:=by unfold wV;rw[HY];exact UR _
theorem aaY(x y:Int):Bv (fI .u32 x y)=Bv x ^^^ Bv y:=by unfold fI;rw[HY];exact UR _
theorem JP(x y:Int):Can (wV .u32 x y):=Sa _
theorem Pm(x y:Int):Can (fI .u32 x y):=Sa _
theorem US(x:Int)(n:Nat)(c:n<=32):Bv (lQ .u32 x n)=Bv x <<< n:=by
 unfold lQ;rw[HY];apply ZC;have a:=uL (x*2 ^ (min (n:Int).toNat IntKind.u32.bits));have b:=uL x;have e:min (n:Int).toNat IntKind.u32.bits=n:=by simp[IntKind.bits];omega
 rw[e] at a⊢;rw[BitVec.toNat_shiftLeft,Nat.shiftLeft_eq];have d:(((Bv x).toNat*2 ^ n % 2 ^ 32:Nat):Int)=(x*2 ^ n) % 4294967296:=by
  rw[Int.natCast_emod,Int.natCast_mul,b,Int.natCast_pow];show(x % 4294967296*2 ^ n) % 4294967296=_
  rw[Int.mul_emod,Int.emod_emod_of_dvd _ (Int.dvd_refl _),<-Int.mul_emod]
 omega
theorem UT(x y:Int):wV .u32 x y=wV .u32 y x:=acX (JP _ _) (JP _ _) (by rw[Wz,Wz,BitVec.or_comm])
theorem Sc(x y:Int):aF .u32 x y=aF .u32 y x:=by unfold aF;rw[Int.add_comm]
theorem af4(e f g:Int):fI .u32 g (lP .u32 e<|fI .u32 f g)=fI .u32 (lP .u32 e f) (lP .u32 (fI .u32 4294967295 e) g):=by
 refine acX (Pm _ _) (Pm _ _) ?_;simp only[aaY,bv_and];have h:Bv 4294967295=BitVec.allOnes 32:=by decide
 rw[h]
 ext i hi
 simp only[BitVec.getElem_xor,BitVec.getElem_and,BitVec.getElem_allOnes];cases (Bv e)[i]<;>cases (Bv f)[i]<;>cases (Bv g)[i]<;>rfl
theorem aeG(a b c:Int):wV .u32 (lP .u32 a b) (lP .u32 c<|wV .u32 a b)=fI .u32 (fI .u32 (lP .u32 a b)<|lP .u32 a c) (lP .u32 b c):=by
 refine acX (JP _ _) (Pm _ _) ?_;simp only[aaY,bv_and,Wz]
 ext i hi
 simp only[BitVec.getElem_xor,BitVec.getElem_and,BitVec.getElem_or];cases (Bv a)[i]<;>cases (Bv b)[i]<;>cases (Bv c)[i]<;>rfl
theorem acY(a b c d:Int):wV .u32 (lQ .u32 (wV .u32 (lQ .u32 (wV .u32 (lQ .u32 (wV .u32 (lQ .u32 0 8) a) 8) b) 8) c) 8) d=wV .u32 (wV .u32 (wV .u32 (lQ .u32 a 24)<|lQ .u32 b 16)<|lQ .u32 c 8) d:=by
 refine acX (JP _ _) (JP _ _) ?_;have g:∀x,Bv (lQ .u32 x 8)=Bv x <<< 8:=λx=>US x 8 (by decide);have e:∀x,Bv (lQ .u32 x 16)=Bv x <<< 16:=λx=>US x 16 (by decide);have f:∀x,Bv (lQ .u32 x 24)=Bv x <<< 24:=λx=>US x 24 (by decide);simp only[Wz,g,e,f];have z:Bv 0=0#32:=by decide
 rw[z];simp[BitVec.shiftLeft_or_distrib,<-BitVec.shiftLeft_add]
theorem aK{a b:Int}(h:a<b):aY a b=true:=by simp[aY,h]
theorem aB{a b:Int}(h:b<=a):aY a b=false:=by simp[aY];omega
theorem b6{a b:Int}(h:a<=b):cu a b=true:=by simp[cu,h]
theorem eF{a b:Int}(h:b<a):cu a b=false:=by simp[cu];omega
theorem aJ{a b:Int}(h:a=b):aX a b=true:=by simp[aX,h]
theorem aE{a b:Int}(h:a≠b):aX a b=false:=by simp[aX,h]
theorem aW{i n:Int}(a:0<=i)(b:i<n):within i n=true:=by simp[within,a,b]
theorem aR{i j n:Int}(a:0<=i)(b:i<=j)(c:j<=n):inside i j n=true:=by simp[inside,a,b,c]
theorem dz{n:Int}(h:n<=4294967296):fits n=true:=by simp[fits,h]
theorem cS{S:Type}(s:S):dh (some (.inl s:S⊕(Nat×S)))=some (.inl s):=rfl
theorem dG{S:Type}(n:Nat)(s:S):dh (some (.inr (n,s):S⊕(Nat×S)))=some (.inr s):=rfl
theorem eW{a:Type}(l:List a)(d:a){i:Nat}(h:i<l.length):idx l (i:Int)=some (l.getD i d):=by
 rw[tK,fN h,Oj,fN h];rfl
theorem lW{a:Type}(l:List a)(d:a){i:Int}{k:Nat}(e:i=k)(h:k<l.length):idx l i=some (l.getD k d):=by subst e;exact eW l d h
theorem gm{a:Type}(l:List a)(i:Nat)(x:a):lR l (i:Int) x=l.set i x:=by simp[lR]
def sD{d c R:Type}(a:Nat->c->d->Option (c⊕R))(b:Nat->c->R):List d->Nat->c->Option R
 | [],i,s=>some (b i s)
 | x::r,i,s=>match a i s x with
   | none=>none
   | some (.inl e)=>sD a b r (i+1) e
   | some (.inr y)=>some y
theorem oh{p j S R:Type}{f:S->Option (S⊕R)}(l:List p)(m:j->Nat->S)(a:Nat->j->p->Option (j⊕R))(c:Nat->j->R)(b:Nat->j->Prop)
  (d:∀s i x,l[i]?=some x->i<l.length->b i s->f (m s i)=(a i s x).map λq=>match q with|.inl e=>.inl (m e<|i+1)|.inr y=>.inr y)
  (n:∀s i x e,l[i]?=some x->b i s->a i s x=some (.inl e)->b (i+1) e)
  (o:∀s,b l.length s->f (m s l.length)=some (.inr<|c l.length s)) (g:∀s i x,l[i]?=some x->b i s->a i s x≠none) :
  ∀s,b 0 s->Loop f (m s 0)=sD a c l 0 s:=by
 have key:∀(rest pre:List p) (s:j),l=pre++rest->b pre.length s->Loop f (m s pre.length)=sD a c rest pre.length s:=by
  intro rest;induction rest with
  | nil =>
    intro pre s k h;rw[xN] at k;subst k;rw[aN,o s h];rfl
  | cons x r v =>
    intro pre s k h;have hx:l[pre.length]?=some x:=by rw[k];simp
    have t:pre.length<l.length:=by rw[k];simp
    rw[aN,d s pre.length x hx t h];unfold sD;cases u:a pre.length s x with
    | none=>exact absurd u (g s _ x hx h)
    | some q =>
      cases q with
      | inr y=>rfl
      | inl e =>
        have:=v (pre++[x]) e (by rw[k];simp) (by rw[fQ];exact n s _ x e hx h u);rw[fQ] at this;exact this
 intro s h;exact key l [] s rfl h
theorem DB{a:Type}(i:Nat)(l:List a):aY (i:Int) (len l)=decide (i<l.length):=by simp[aY,len]
theorem DC{a:Type}(l:List a):aY (0:Int) (len l)=decide (0<l.length):=DB 0 l
theorem yd{a:Type}(i:Nat)(l:List a):cu (len l) (i:Int)=decide (l.length<=i):=by simp[cu,len]
theorem DD{a b:Type}(l:List a)(m:List b):aY (len l) (len m)=decide (l.length<m.length):=by simp[aY,len]
theorem JQ{a b:Type}(l:List a)(m:List b):cu (len l) (len m)=decide (l.length<=m.length):=by simp[cu,len]
theorem Sd{a b:Type}(l:List a)(m:List b):aX (len l) (len m)=decide (l.length=m.length):=by unfold aX len;apply gi.2;omega
theorem bD{a b:Type}{l:List a}{m:List b}(h:l.length+m.length<=4294967296):fits (plus (len l)<|len m)=true:=by
 apply dz;simp only[plus,len];omega
theorem hJ{a:Type}(c:Bool)(x y:a):aj c x y=if c=true then x else y:=by cases c<;>rfl
theorem JR{a:Type}(p:Prop)[Decidable p](x y:a):aj (decide p) x y=if p then x else y:=by by_cases h:p<;>simp[h,aj]
theorem AO{a b:aq}:bt a b=decide (a=b):=rfl
theorem bj{a b:aq}(h:a≠b):bt a b=false:=by simp[bt,h]
theorem ch{a b:aq}(h:a=b):bt a b=true:=by simp[bt,h]
theorem BK{c:UInt8}{n:UInt8}:aX (u8 c) (n.toNat:Int)=decide (c=n):=by
 unfold aX u8;by_cases h:c=n
 .simp[h]
 .have:c.toNat≠n.toNat:=λe=>h (QR.1 e);simp[h];omega
theorem gn{a:Type}(l:List a)(n:Nat):sub l 0 (minus (n:Int) 0)=l.take n:=by
 unfold sub minus;simp
theorem AP{a b:Type}(l:List a)(m:List b):sub l 0 (minus (len m) 0)=l.take m.length:=gn l m.length
theorem mD{a:Type}(l:List a)(n:Nat)(h:n<=l.length):sub l (n:Int) (minus (len l) (n:Int))=l.drop n:=by
 unfold sub minus len;rw[qZ];apply Bd;rw[kx];omega
theorem bO:dJ 0 0=true:=rfl
theorem ed:dJ 1 0=false:=rfl
theorem aD{a:Type}{l:List a}{i:Nat}{x:a}(h:l[i]?=some x):i<l.length:=(fq.1 h).1
theorem sub_one{a:Type}{l:List a}{i:Nat}{x:a}(h:l[i]?=some x):sub l (i:Int) (minus ((i+1:Nat):Int) (i:Int))=[x]:=by
 unfold sub minus;rw[show((i+1:Nat):Int)-(i:Int)=1 by omega,qZ];obtain⟨b,rfl⟩:=fq.1 h;rw[wM b];rfl
theorem UU{a b n:Nat}(h:a<=b)(k:b<=n):inside (a:Int) (b:Int) (n:Int)=true:=aR (by omega) (by omega) (by omega)
theorem mE{c:Type}{a b:Nat}{l:List c}(h:a<=b)(k:b<=l.length):inside (a:Int) (b:Int) (len l)=true:=UU h k
theorem ao{a:Type}{l:List a}{i:Nat}{x:a}(h:l[i]?=some x):idx l (i:Int)=some x:=by rw[tK,h]
theorem ak{a:Type}{l:List a}{i:Nat}(h:i<l.length):aY (i:Int) (len l)=true:=by rw[DB,dI h]
theorem ay{a:Type}{l:List a}:aY (l.length:Int) (len l)=false:=by rw[DB,cJ (by omega)]
theorem ye{a:Type}(l m:List a):app l m=l++m:=rfl
theorem Se(b:Bool):nt b=!b:=rfl
theorem bz{a:Type}(l:List a):len l=(l.length:Int):=rfl
theorem acZ(y:aq):iu [] y=decide (y≠[]):=by cases y<;>simp[iu,Op.bytesLess]
theorem JS(x:aq):iu x []=false:=by cases x<;>simp[iu,Op.bytesLess]
theorem DE(a b:UInt8)(x y:aq):iu (a::x) (b::y)=(decide (a<b)||(a==b&&iu x y)):=by simp[iu,Op.bytesLess]
theorem X1(a:UInt8):¬a<a:=UInt8.lt_irrefl a
theorem aeH(a b:UInt8):a<b\/a=b\/b<a:=by
 rcases MW a.toNat b.toNat with h|h|h
 .exact .inl h
 .exact .inr (.inl<|QR.1 h)
 .exact .inr (.inr h)
theorem jv:∀x:aq,iu x x=false:=by
 intro x;induction x with
 | nil=>rfl
 | cons a x b=>rw[DE,b];simp[X1]
theorem AQ:∀{x y z:aq},iu x y=true->iu y z=true->iu x z=true:=by
 intro x;induction x with
 | nil =>
   intro y z h k;cases z with
   | nil=>rw[JS] at k;cases k
   | cons c z=>rfl
 | cons a x d =>
   intro y z h k;cases y with
   | nil=>rw[JS] at h;cases h
   | cons b y =>
     cases z with
     | nil=>rw[JS] at k;cases k
     | cons c z =>
       rw[DE] at h k⊢;simp only[wc,kQ,dv,Q0] at h k⊢;rcases h with h|⟨rfl,h⟩
       .rcases k with k|⟨rfl,k⟩
        .exact .inl (UInt8.lt_trans h k)
        .exact .inl h
       .rcases k with k|⟨rfl,k⟩
        .exact .inl k
        .exact .inr ⟨rfl,d h k⟩
theorem AR:∀(x y:aq),iu x y=true\/x=y\/iu y x=true:=by
 intro x;induction x with
 | nil=>intro y;cases y<;>simp[acZ]
 | cons a x c =>
   intro y;cases y with
   | nil=>exact .inr (.inr rfl)
   | cons b y =>
     rw[DE,DE];simp only[wc,kQ,dv,Q0];rcases aeH a b with h|rfl|h
     .exact .inl (.inl h)
     .rcases c y with h|rfl|h
      .exact .inl (.inr ⟨rfl,h⟩)
      .exact .inr (.inl rfl)
      .exact .inr (.inr<|.inr ⟨rfl,h⟩)
     .exact .inr (.inr<|.inl h)
theorem pD{x y:aq}(h:iu x y=true):iu y x=false:=by
 cases k:iu y x with
 | false=>rfl
 | true=>have:=AQ h k;rw[jv] at this;cases this
theorem yf{x y:aq}(h:iu x y=true):x≠y:=λe=>by rw[e,jv] at h;cases h
theorem UW(x y:aq):nt (Zk (iu x y)<|bt x y)=iu y x:=by
 rcases AR x y with h|rfl|h
 .rw[h,pD h];rfl
 .rw[kT,jv];rfl
 .rw[h,pD h,bj λe=>yf h e.symm];rfl
def Pn(x y:aq):Int:=if iu x y=true then -1 else if x=y then 0 else 1
def cmpL:List aq->List aq->Int
 | [],[]=>0
 | [],_::_=>-1
 | _::_,[]=>1
 | a::x,b::y=>if a=b then cmpL x y else if iu a b=true then -1 else 1
theorem lC:∀x,cmpL x x=0:=by
 intro x;induction x with
 | nil=>rfl
 | cons a x b=>rw[cmpL,aQ rfl];exact b
theorem X2:∀{x y},cmpL x y=0->x=y:=by
 intro x;induction x with
 | nil=>intro y h;cases y with|nil=>rfl|cons b y=>cases h
 | cons a x c =>
   intro y h;cases y with
   | nil=>cases h
   | cons b y =>
     rw[cmpL] at h;split at h
     .rename_i e;rw[e,c h]
     .split at h<;>cases h
theorem aaZ:∀x y,cmpL x y=- cmpL y x:=by
 intro x;induction x with
 | nil=>intro y;cases y<;>rfl
 | cons a x c =>
   intro y;cases y with
   | nil=>rfl
   | cons b y =>
     rw[cmpL,cmpL];by_cases e:a=b
     .rw[aQ e,aQ e.symm,c y]
     .have d:¬b=a:=λq=>e q.symm;rw[aM e,aM d];rcases AR a b with h|h|h
      .rw[aQ h,aM (by rw[pD h];simp)]
      .exact absurd h e
      .rw[aM<|by rw[pD h];simp,aQ h];rfl
theorem rp:∀{x y z},cmpL x y<0->cmpL y z<0->cmpL x z<0:=by
 intro x;induction x with
 | nil =>
   intro y z h k;cases z with
   | nil=>cases y with|nil=>exact absurd k (by simp[cmpL])|cons b y=>exact absurd k (by simp[cmpL])
   | cons c z=>exact(by decide:(-1:Int)<0)
 | cons a x j =>
   intro y z h k;cases y with
   | nil=>exact absurd h (by simp[cmpL])
   | cons b y =>
     cases z with
     | nil=>exact absurd k (by simp[cmpL])
     | cons c z =>
       rw[cmpL] at h k⊢;by_cases e:a=b
       .subst e;rw[aQ rfl] at h;by_cases d:a=c
        .subst d;rw[aQ rfl] at k⊢;exact j h k
        .rw[aM d] at k⊢;exact k
       .rw[aM e] at h;have g:iu a b=true:=by
         cases q:iu a b with
         | true=>rfl
         | false=>rw[q,aM (by simp)] at h;exact absurd h (by decide)
        by_cases d:b=c
        .subst d;rw[aM e];exact h
        .rw[aM d] at k;have i:iu b c=true:=by
          cases q:iu b c with
          | true=>rfl
          | false=>rw[q,aM (by simp)] at k;exact absurd k (by decide)
         have f:=AQ g i;rw[aM<|yf f,aQ f];decide
theorem Sf(x r:List aq)(h:r≠[]):cmpL x (x++r)=-1:=by
 induction x with
 | nil=>cases r with|nil=>exact absurd rfl h|cons a r=>rfl
 | cons a x b=>rw[zi,cmpL,aQ rfl];exact b
theorem aa0{a b:Type}{x:List a}{y:List b}{i:Nat}{p:a×b}(h:(x.zip y)[i]?=some p):x[i]?=some p.1/\y[i]?=some p.2:=by
 rw[Zt] at h;exact h
theorem Sg{c:Type}[DecidableEq c]:∀(x y:List c),(x.zip y).all (λp=>decide (p.1=p.2))=decide (x.take (min x.length y.length)=y.take (min x.length y.length)):=by
 intro x;induction x with
 | nil=>intro y;simp
 | cons a x d =>
   intro y;cases y with
   | nil=>simp
   | cons b y =>
     rw[List.zip_cons_cons,Iz,d y];simp only[dd,Nat.add_min_add_right,V3];by_cases e:a=b
     .subst e;simp
     .simp[e]
theorem Po{a:Type}[DecidableEq a]{x y:List a}(h:x.length=y.length):(x.zip y).all (λp=>decide (p.1=p.2))=decide (x=y):=by
 rw[Sg,h,ZY,wQ,<-h,wQ]
theorem ob{a b:Type}{o:Option a}{x:a}{f:a->Option b}{r:Option b}(h:o=some x)(k:f x=r):af o f=r:=by rw[h];exact k
theorem aa1{f:Type}(l:List f)(p:Nat->f->Bool) :
  (∃i x,l[i]?=some x/\p i x=true/\∀j y,j<i->l[j]?=some y->p j y=false)\/∀i x,l[i]?=some x->p i x=false:=by
 by_cases h:∃i x,l[i]?=some x/\p i x=true
 .left;have key:∀n i x,i<=n->l[i]?=some x->p i x=true->∃i x,l[i]?=some x/\p i x=true/\∀j y,j<i->l[j]?=some y->p j y=false:=by
   intro n;induction n with
   | zero =>
     intro i x g a b;obtain rfl:i=0:=by omega
     exact⟨0,x,a,b,λj y d=>by omega⟩
   | succ n m =>
     intro i x g a b;by_cases k:∃j y,j<i/\l[j]?=some y/\p j y=true
     .obtain⟨j,y,d,e,c⟩:=k;exact m j y (by omega) e c
     .refine⟨i,x,a,b,λj y d e=>?_⟩;cases c:p j y with
      | false=>rfl
      | true=>exact absurd ⟨j,y,d,e,c⟩ k
  obtain⟨i,x,a,b⟩:=h;exact key i i x (cg _) a b
 .right;intro i x a;cases c:p i x with
  | false=>rfl
  | true=>exact absurd ⟨i,x,a,c⟩ h
theorem ko{o S R:Type}{f:S->Option (S⊕R)}(l:List o)(b:Int->S)(p:Nat->o->Bool)(c:Nat->o->R)(d:R)(s:l.length<=4294967296)
  (a:∀i x,l[i]?=some x->i<l.length->aF .i64 (i:Int) 1=((i+1:Nat):Int)->f (b (i:Int))=some (if p i x=true then .inr (c i x) else .inl (b ((i+1:Nat):Int))))
  (g:f (b (l.length:Int))=some (.inr d)) :
  (∃i x,l[i]?=some x/\p i x=true/\(∀j y,j<i->l[j]?=some y->p j y=false)/\Loop f (b 0)=some (c i x))\/((∀i x,l[i]?=some x->p i x=false)/\Loop f (b 0)=some d):=by
 have h:∀i x,l[i]?=some x->p i x=false->f (b (i:Int))=some (.inl<|b ((i+1:Nat):Int)):=λi x e n=>by
  have hi:=aD e;rw[a i x e hi<|aL<|by omega,n];rfl
 rcases aa1 l p with ⟨i,x,e,n,k⟩|r
 .left;refine⟨i,x,e,n,k,?_⟩;have hi:=aD e;refine cR i (λj:Nat=>b (j:Int)) (λj q=>?_) ?_
  .have m:j<l.length:=by omega
   exact h j l[j] (fN m) (k j _ q<|fN m)
  .rw[a i x e hi<|aL<|by omega,n];rfl
 .right;refine⟨r,cR l.length (λj:Nat=>b (j:Int)) (λj k=>?_) g⟩;exact h j l[j] (fN k) (r j _<|fN k)
theorem rq{q S R:Type}{f:S->Option (S⊕R)}(l:List q)(n:Nat)(d:Int->S)(p:Nat->q->Bool)(a:Nat->q->R)(b:Nat->R)(u:min n l.length<=4294967296)
  (c:∀i x,l[i]?=some x->i<l.length->i<n->aF .i64 (i:Int) 1=((i+1:Nat):Int)->f (d (i:Int))=some (if p i x=true then .inr (a i x) else .inl (d ((i+1:Nat):Int))))
  (e:f (d ((min n l.length:Nat):Int))=some (.inr<|b<|min n l.length)) :
  (∃i x,i<n/\l[i]?=some x/\p i x=true/\(∀j y,j<i->l[j]?=some y->p j y=false)/\Loop f (d 0)=some (a i x))\/((∀i x,i<n->l[i]?=some x->p i x=false)/\Loop f (d 0)=some (b<|min n l.length)):=by
 have m:∀i x,(l.take n)[i]?=some x↔(i<n/\l[i]?=some x):=λi x=>by
  rw[fi];by_cases h:i<n
  .simp[h]
  .simp[h]
 have hlen:(l.take n).length=min n l.length:=fB;rcases ko (f:=f) (l.take n) d p a (b<|min n l.length) (by rw[hlen];exact u) (λi x g t k=>by
  obtain⟨r,o⟩:=(m i x).1 g;exact c i x o (aD o) r k) (by rw[hlen];exact e) with ⟨i,x,g,v,w,h⟩|⟨z,h⟩
 .obtain⟨r,o⟩:=(m i x).1 g;exact .inl ⟨i,x,r,o,v,λj y s A=>w j y s ((m j y).2 ⟨by omega,A⟩),h⟩
 .exact .inr ⟨λi x t g=>z i x ((m i x).2 ⟨t,g⟩),h⟩
theorem xp{n e S R:Type}{f:S->Option (S⊕R)}(l:List n)(j:e->Int->S)(b:e->Nat->n->e)(g:e->R)(c:e->Nat->Prop)(B:l.length<=4294967296)
  (h:∀s i x,l[i]?=some x->i<l.length->aF .i64 (i:Int) 1=((i+1:Nat):Int)->c s i->f (j s (i:Int))=some (.inl<|j (b s i x) ((i+1:Nat):Int))/\c (b s i x) (i+1))
  (k:∀s,c s l.length->f (j s (l.length:Int))=some (.inr<|g s)) (s:e) (v:c s 0):∃t,c t l.length/\Loop f (j s 0)=some (g t)/\t=(l.zipIdx).foldl (λa p=>b a p.2 p.1) s:=by
 have key:∀(rest pre:List n) (s:e),l=pre++rest->c s pre.length->∃t,c t l.length/\Loop f (j s (pre.length:Int))=some (g t)/\t=(rest.zipIdx pre.length).foldl (λa p=>b a p.2 p.1) s:=by
  intro rest;induction rest with
  | nil =>
    intro pre s d m;rw[xN] at d;subst d;exact⟨s,m,by rw[aN,k s m];rfl,rfl⟩
  | cons x r w =>
    intro pre s d m;have hx:l[pre.length]?=some x:=by rw[d];simp
    have o:=aD hx;obtain⟨y,z⟩:=h s pre.length x hx o (aL<|by omega) m;obtain⟨t,A,q,u⟩:=w (pre++[x]) (b s pre.length x) (by rw[d];simp) (by rw[fQ];exact z);rw[fQ] at q u;exact⟨t,A,by rw[aN,y];exact q,u⟩
 exact key l [] s rfl v
theorem xq{e h S R:Type}{f:S->Option (S⊕R)}(l:List e)(b:List h->Int->S)(g:e->List h)(c:R)(m:l.length<=4294967296)
  (a:∀i x,l[i]?=some x->i<l.length->aF .i64 (i:Int) 1=((i+1:Nat):Int)->f (b ((l.take i).flatMap g) (i:Int))=some (.inl<|b ((l.take i).flatMap g++g x) ((i+1:Nat):Int)))
  (d:f (b (l.flatMap g) (l.length:Int))=some (.inr c)):Loop f (b [] 0)=some c:=by
 refine cR l.length (λj:Nat=>b ((l.take j).flatMap g) (j:Int)) (λj k=>?_) (by simp only[wQ];exact d);have hx:l[j]?=some l[j]:=fN k;have:=a j l[j] hx k (aL<|by omega);rw[this,Be,hx,List.flatMap_append];simp
theorem ja{a:Type}{l:List a}(h:l.length<=4294967296):fits (len l)=true:=XW h
theorem bp{a:Type}{l:List a}{x:a}:x∈l↔∃i:Nat,l[i]?=some x:=by rw[MR]
end Go.Ge
namespace Go.Ge
abbrev Sb:=aq
variable [Lp]
def eX:(Ty.pair .str<|.pair (.int .u8) .unit).den->Option (Ty.pair (.int .i64) .unit).den:=λx=>some (Lib.indexByte x.1 (show Int from x.2.1).toNat.toUInt8,())
def ft(s:aq)(c:Int):Option aq:=if c<0\/140737488355328<s.length*c.toNat then none else some (Lib.repeatL s c.toNat)
def ni:aq×Int×ai->Option (aq×ai):=λx=>(ft x.1 x.2.1).map λy=>(y,())
theorem qN{s:aq}{c:Int}{y:aq}(h:ft s c=some y):0<=c/\s.length*c.toNat<=140737488355328/\y=Lib.repeatL s c.toNat:=by
 unfold ft at h;split at h
 .cases h
 .next a =>
  have:=aI h;exact⟨by omega,by omega,this.symm⟩
theorem zL{s:aq}{c:Int}{y:aq}(h:ft s c=some y):y.length<=maxLen:=by
 obtain⟨_,a,rfl⟩:=qN h;rw[Lib.repeatL_length,QX];exact gj a (by decide)
def s9:aq×aq×ai->Option ((List aq)×ai):=λx=>(AN x.1 x.2.1).map λy=>(y,())
def uM:(List aq)×aq×ai->Option (aq×ai):=λx=>(E3 x.1 x.2.1).map λy=>(y,())
set_option maxRecDepth 100000
abbrev Cu:=((Bool×(List<|Int)×ai)×(List<|Int)×Int×ai)
abbrev JT:=(((Int×ai)×(List<|Int)×ai)⊕((Int×ai)×(List<|Int)×ai))
abbrev ac0:=(Int×Int×Int×Int×Int×Int×Int×Int×Int×ai)
abbrev Pp:=((List<|Int)×ai)
def sE(x:ai):Option Pp :=
 some (([(1779033703:Int),3144134277,1013904242,2773480762,1359893119,2600822924,528734635,1541459225]:List (Int)),())
def zM(x:ai):Option Pp :=
 some (([(1116352408:Int),1899447441,3049323471,3921009573,961987163,1508970993,2453635748,2870763221,3624381080,310598401,607225278,1426881987,1925078388,2162078206,2614888103,3248222580,3835390401,4022224774,264347078,604807628,770255983,1249150122,1555081692,1996064986,2554220882,2821834349,2952996808,3210313671,3336571891,3584528711,113926993,338241895,666307205,773529912,1294757372,1396182291,1695183700,1986661051,2177026350,2456956037,2730485921,2820302411,3259730800,3345764771,3516065817,3600352804,4094571909,275423344,430227734,506948616,659060556,883997877,958139571,1322822218,1537002063,1747873779,1955562222,2024104815,2227730452,2361852424,2428436474,2756734187,3204031479,3329325298]:List (Int)),())
def jw(x:Int×Int×ai):Option (Int×ai) :=
 aj (aY (lP IntKind.u64 (jC IntKind.u64 x.2.1) 31) 0)
 none
 (aj (aY (cC IntKind.u64 32<|lP IntKind.u64 (jC IntKind.u64 x.2.1) 31) 0)
 none
 (some (wV u32 (lQ u32 x.1<|lP IntKind.u64 (jC IntKind.u64 x.2.1) 31)<|mu u32 x.1<|cC IntKind.u64 32<|lP IntKind.u64 (jC IntKind.u64 x.2.1) 31,())))
def b7(x:Int×Int×ai):Option (Int×ai) :=
 af (jw (x.1,cC i64 0 x.2.1,())) (λa=>some (a.1,()))
def jb(x:(List<|Int)×ai)(a:(Int×ai)×(List<|Int)×ai)(b:(Int×ai)×(List<|Int)×ai):Option JT :=
 dh (aj (aY b.1.1<|minus (aF i64 (gX i64 4 a.1.1) 4)<|gX i64 4 a.1.1)
 (aj (within b.1.1<|minus (aF i64 (gX i64 4 a.1.1) 4)<|gX i64 4 a.1.1)
 (af (idx x.1<|plus (gX i64 4 a.1.1) b.1.1) λc=>aj (within a.1.1 64)
 (af (idx b.2.1 a.1.1) λd=>aj (aY 8 0)
 none
 (aj (within a.1.1 64)
 (af (idx b.2.1 a.1.1) λe=>af (idx b.2.1 a.1.1) λf=>af (idx b.2.1 a.1.1) λg=>some (Sum.inl ((aF i64 b.1.1 1,()),lR b.2.1 a.1.1<|wV u32 (lQ u32 d 8)<|jC u32 c,())))
 none))
 none)
 none)
 (some<|Sum.inr (0,(b.1.1,()),b.2.1,())))
def jc(x:(List<|Int)×ai)(a:(Int×ai)×(List<|Int)×ai):Option JT :=
 dh (aj (aY a.1.1 16)
 (aj (inside (gX i64 4 a.1.1) (aF i64 (gX i64 4 a.1.1) 4) 64)
 (af (Loop (jb x a) (((0:Int),()),a.2.1,())) λb=>some (Sum.inl ((aF i64 a.1.1 1,()),b.2.1,())))
 none)
 (some<|Sum.inr (0,(a.1.1,()),a.2.1,())))
def jd(a:(Int×ai)×(List<|Int)×ai):Option JT :=
 dh (aj (aY a.1.1 64)
 (aj (within (cC i64 a.1.1 2) 64)
 (af (idx a.2.1<|cC i64 a.1.1 2) λb=>aj (within (cC i64 a.1.1 15) 64)
 (af (idx a.2.1<|cC i64 a.1.1 15) λc=>af (b7 (c,(7:Int),())) λe=>af (b7 (c,(18:Int),())) λf=>aj (aY 3 0)
 none
 (af (b7 (b,(17:Int),())) λg=>af (b7 (b,(19:Int),())) λh=>aj (aY 10 0)
 none
 (aj (within (cC i64 a.1.1 7) 64)
 (af (idx a.2.1<|cC i64 a.1.1 7) λi=>aj (within (cC i64 a.1.1 16) 64)
 (af (idx a.2.1<|cC i64 a.1.1 16) λd=>aj (within a.1.1 64)
 (af (idx a.2.1 a.1.1) λj=>af (idx a.2.1 a.1.1) λk=>af (idx a.2.1 a.1.1) λl=>some (Sum.inl ((aF i64 a.1.1 1,()),lR a.2.1 a.1.1<|aF u32 (aF u32 (aF u32 (fI u32 (fI u32 g.1 h.1)<|mu u32 b 10) i)<|fI u32 (fI u32 e.1 f.1)<|mu u32 c 3) d,())))
 none)
 none)
 none)))
 none)
 none)
 (some<|Sum.inr (0,(a.1.1,()),a.2.1,())))
def p9(x:(List<|Int)×ai):Option Pp :=
 af (Loop (jc x) (((0:Int),()),([(0:Int),0,0,0,0,0,0,0,0,0,0,0,0,0,0,0,0,0,0,0,0,0,0,0,0,0,0,0,0,0,0,0,0,0,0,0,0,0,0,0,0,0,0,0,0,0,0,0,0,0,0,0,0,0,0,0,0,0,0,0,0,0,0,0]:List (Int)),())) (λa=>af (Loop (jd) (((16:Int),()),a.2.1,())) λb=>some (b.2.1,()))
def fa(j:(List<|Int)×ai)(k:(List<|Int)×ai)(a:ac0×ai):Option ((ac0×ai)⊕(ac0×ai)) :=
 dh (aj (aY a.1.2.2.2.2.2.2.2.2.1 64)
 (af (b7 (a.1.2.2.2.2.1,(6:Int),())) λb=>af (b7 (a.1.2.2.2.2.1,(11:Int),())) λc=>af (b7 (a.1.2.2.2.2.1,(25:Int),())) λd=>aj (within a.1.2.2.2.2.2.2.2.2.1 64)
 (af (idx j.1 a.1.2.2.2.2.2.2.2.2.1) λe=>aj (within a.1.2.2.2.2.2.2.2.2.1 64)
 (af (idx k.1 a.1.2.2.2.2.2.2.2.2.1) λf=>af (b7 (a.1.1,(2:Int),())) λg=>af (b7 (a.1.1,(13:Int),())) λh=>af (b7 (a.1.1,(22:Int),())) λi=>some (Sum.inl ((aF u32 (aF u32 (aF u32 (aF u32 (aF u32 a.1.2.2.2.2.2.2.2.1<|fI u32 (fI u32 b.1 c.1) d.1)<|fI u32 a.1.2.2.2.2.2.2.1<|lP u32 a.1.2.2.2.2.1<|fI u32 a.1.2.2.2.2.2.1 a.1.2.2.2.2.2.2.1) e) f)<|aF u32 (fI u32 (fI u32 g.1 h.1) i.1)<|wV u32 (lP u32 a.1.1 a.1.2.1)<|lP u32 a.1.2.2.1<|wV u32 a.1.1 a.1.2.1,a.1.1,a.1.2.1,a.1.2.2.1,aF u32 a.1.2.2.2.1<|aF u32 (aF u32 (aF u32 (aF u32 a.1.2.2.2.2.2.2.2.1<|fI u32 (fI u32 b.1 c.1) d.1)<|fI u32 a.1.2.2.2.2.2.2.1<|lP u32 a.1.2.2.2.2.1<|fI u32 a.1.2.2.2.2.2.1 a.1.2.2.2.2.2.2.1) e) f,a.1.2.2.2.2.1,a.1.2.2.2.2.2.1,a.1.2.2.2.2.2.2.1,aF i64 a.1.2.2.2.2.2.2.2.2.1 1,()),())))
 none)
 none)
 (some<|Sum.inr (0,(a.1.1,a.1.2.1,a.1.2.2.1,a.1.2.2.2.1,a.1.2.2.2.2.1,a.1.2.2.2.2.2.1,a.1.2.2.2.2.2.2.1,a.1.2.2.2.2.2.2.2.1,a.1.2.2.2.2.2.2.2.2.1,()),())))
def gp(b:ac0×ai)(a:(Int×ai)×Cu×ai):Option (((Int×ai)×Cu×ai)⊕((Int×ai)×Cu×ai)) :=
 dh (aj (aY a.1.1 8)
 (af (idx ([b.1.1,b.1.2.1,b.1.2.2.1,b.1.2.2.2.1,b.1.2.2.2.2.1,b.1.2.2.2.2.2.1,b.1.2.2.2.2.2.2.1,b.1.2.2.2.2.2.2.2.1]:List (Int)) a.1.1) λc=>aj (within a.1.1 8)
 (af (idx a.2.1.1.2.1 a.1.1) λd=>aj (within a.1.1 8)
 (af (idx a.2.1.1.2.1 a.1.1) λe=>af (idx a.2.1.1.2.1 a.1.1) λf=>af (idx a.2.1.1.2.1 a.1.1) λg=>some (Sum.inl ((aF i64 a.1.1 1,()),((a.2.1.1.1,lR a.2.1.1.2.1 a.1.1<|aF u32 d c,a.2.1.1.2.2),a.2.1.2),())))
 none)
 none)
 (some<|Sum.inr (0,(a.1.1,()),a.2.1,())))
def fb(a:(Sb×ai)×Cu×ai):Option (((Sb×ai)×Cu×ai)⊕((Sb×ai)×Cu×ai)) :=
 dh (aj (nt<|bt a.1.1 ([]:aq))
 (aj (aX 64 0)
 none
 (aj (inside (iE a.2.1.2.2.1 64) 64 64)
 (aj (inside (len<|@iU Int (av a.1.1)<|minus 64<|iE a.2.1.2.2.1 64) (len a.1.1)<|len a.1.1)
 (af (aj (aX (aF i64 (iE a.2.1.2.2.1 64)<|len<|@iU Int (av a.1.1)<|minus 64<|iE a.2.1.2.2.1 64) 64)
 (af (aj (nt a.2.1.1.1)
 (af (sE ()) λb=>some ((),((true,b.1,a.2.1.1.2.2),over a.2.1.2.1 (iE a.2.1.2.2.1 64)<|@iU Int (av a.1.1)<|minus 64<|iE a.2.1.2.2.1 64,aF i64 a.2.1.2.2.1<|len<|@iU Int (av a.1.1)<|minus 64<|iE a.2.1.2.2.1 64,a.2.1.2.2.2),()))
 (some ((),(a.2.1.1,over a.2.1.2.1 (iE a.2.1.2.2.1 64)<|@iU Int (av a.1.1)<|minus 64<|iE a.2.1.2.2.1 64,aF i64 a.2.1.2.2.1<|len<|@iU Int (av a.1.1)<|minus 64<|iE a.2.1.2.2.1 64,a.2.1.2.2.2),()))) λb=>af (zM ()) λh=>af (p9 (over a.2.1.2.1 (iE a.2.1.2.2.1 64)<|@iU Int (av a.1.1)<|minus 64<|iE a.2.1.2.2.1 64,())) λi=>aj (within 0 8)
 (af (idx b.2.1.1.2.1 (0:Int)) λj=>aj (within 1 8)
 (af (idx b.2.1.1.2.1 (1:Int)) λk=>aj (within 2 8)
 (af (idx b.2.1.1.2.1 (2:Int)) λl=>aj (within 3 8)
 (af (idx b.2.1.1.2.1 (3:Int)) λm=>aj (within 4 8)
 (af (idx b.2.1.1.2.1 (4:Int)) λn=>aj (within 5 8)
 (af (idx b.2.1.1.2.1 (5:Int)) λc=>aj (within 6 8)
 (af (idx b.2.1.1.2.1 (6:Int)) λd=>aj (within 7 8)
 (af (idx b.2.1.1.2.1 (7:Int)) λe=>af (Loop (fa h i) ((j,k,l,m,n,c,d,e,(0:Int),()),())) λf=>af (Loop (gp f) (((0:Int),()),b.2.1,())) λg=>some ((),g.2.1,()))
 none)
 none)
 none)
 none)
 none)
 none)
 none)
 none)
 (some ((),(a.2.1.1,over a.2.1.2.1 (iE a.2.1.2.2.1 64)<|@iU Int (av a.1.1)<|minus 64<|iE a.2.1.2.2.1 64,aF i64 a.2.1.2.2.1<|len<|@iU Int (av a.1.1)<|minus 64<|iE a.2.1.2.2.1 64,a.2.1.2.2.2),()))) λb=>some (Sum.inl ((sub a.1.1 (len<|@iU Int (av a.1.1)<|minus 64<|iE a.2.1.2.2.1 64)<|minus (len a.1.1)<|len<|@iU Int (av a.1.1)<|minus 64<|iE a.2.1.2.2.1 64,()),b.2.1,())))
 none)
 none))
 (some<|Sum.inr (0,(a.1.1,()),a.2.1,())))
def fu(x:(Sb×ai)×Cu×ai):Option (ai×Cu×ai) :=
 af (Loop (fb) ((x.1.1,()),x.2.1,())) (λa=>some ((),a.2.1,()))
def dZ(a:ai×Cu×ai):Option ((ai×Cu×ai)⊕(ai×Cu×ai)) :=
 dh (aj (aX 64 0)
 none
 (aj (nt<|aX (iE a.2.1.2.2.1 64) 56)
 (af (fu ((([0]:aq),()),a.2.1,())) λb=>some (Sum.inl ((),b.2.1,())))
 (some<|Sum.inr (0,(),a.2.1,()))))
def fc(x:ai×Cu×ai)(a:(Int×ai)×(List<|Int)×ai):Option JT :=
 dh (aj (aY a.1.1 8)
 (aj (aY (gX i64 8 a.1.1) 0)
 none
 (aj (within (cC i64 7 a.1.1) 8)
 (af (idx a.2.1<|cC i64 7 a.1.1) λb=>af (idx a.2.1<|cC i64 7 a.1.1) λc=>af (idx a.2.1<|cC i64 7 a.1.1) λd=>some (Sum.inl ((aF i64 a.1.1 1,()),lR a.2.1 (cC i64 7 a.1.1)<|jC IntKind.u8<|mu IntKind.u64 (gX IntKind.u64 (jC IntKind.u64<|((((((),x.2.1,()).2).1).2).2).1) 8)<|gX i64 8 a.1.1,())))
 none))
 (some<|Sum.inr (0,(a.1.1,()),a.2.1,())))
def gq(b:ai×Cu×ai)(a:(Int×ai)×(List<|Int)×ai):Option JT :=
 dh (aj (aY a.1.1 32)
 (aj (aX 4 0)
 none
 (aj (within (GX i64 a.1.1 4) 8)
 (af (idx b.2.1.1.2.1<|GX i64 a.1.1 4) λc=>aj (aX 4 0)
 none
 (aj (aY (cC i64 24<|gX i64 8<|iE a.1.1 4) 0)
 none
 (aj (within a.1.1 32)
 (af (idx a.2.1 a.1.1) λd=>af (idx a.2.1 a.1.1) λe=>af (idx a.2.1 a.1.1) λf=>some (Sum.inl ((aF i64 a.1.1 1,()),lR a.2.1 a.1.1<|jC IntKind.u8<|mu u32 c<|cC i64 24<|gX i64 8<|iE a.1.1 4,())))
 none)))
 none))
 (some<|Sum.inr (0,(a.1.1,()),a.2.1,())))
def nj(x:ai×Cu×ai):Option (Pp×Cu×ai) :=
 af (fu ((bh ([(128:Int)]:List (Int)),()),(((),x.2.1,()).2).1,())) (λa=>af (Loop (dZ) ((),a.2.1,())) λb=>af (Loop (fc x) (((0:Int),()),([(0:Int),0,0,0,0,0,0,0]:List (Int)),())) λc=>aj (inside 0 8 8)
 (af (fu ((bh<|sub c.2.1 (0:Int)<|minus 8 0,()),b.2.1,())) λd=>af (Loop (gq d) (((0:Int),()),([(0:Int),0,0,0,0,0,0,0,0,0,0,0,0,0,0,0,0,0,0,0,0,0,0,0,0,0,0,0,0,0,0,0]:List (Int)),())) λe=>some ((e.2.1,()),x.2.1,()))
 none)
def AU(x:Sb×ai):Option Pp :=
 af (fu ((x.1,()),((false,([(0:Int),0,0,0,0,0,0,0]:List (Int)),()),([(0:Int),0,0,0,0,0,0,0,0,0,0,0,0,0,0,0,0,0,0,0,0,0,0,0,0,0,0,0,0,0,0,0,0,0,0,0,0,0,0,0,0,0,0,0,0,0,0,0,0,0,0,0,0,0,0,0,0,0,0,0,0,0,0,0]:List (Int)),(0:Int),()),())) (λa=>af (nj ((),a.2.1,())) λb=>some (b.1.1,()))
def wv(x:ai):Option Pp :=
 some (([(1779033703:Int),3144134277,1013904242,2773480762,1359893119,2600822924,528734635,1541459225]:List (Int)),())
def jR(a:(ai×ai)×(List<|Int)×ai):Option (((ai×ai)×(List<|Int)×ai)⊕((ai×ai)×(List<|Int)×ai)) :=
 dh (aj (aX 64 0)
 none
 (aj (nt<|aX (iE (len a.2.1) 64) 56)
 (aj (fits<|plus (len a.2.1)<|len ([(0:Int)]:List (Int)))
 (some<|Sum.inl (((),()),app a.2.1 ([(0:Int)]:List (Int)),()))
 none)
 (some<|Sum.inr (0,((),()),a.2.1,()))))
def dR(x:Sb×ai)(a:(ai×Int×ai)×(List<|Int)×ai):Option (((ai×Int×ai)×(List<|Int)×ai)⊕((ai×Int×ai)×(List<|Int)×ai)) :=
 dh (aj (cu 0 a.1.2.1)
 (aj (aY (gX i64 8 a.1.2.1) 0)
 none
 (aj (fits<|plus (len a.2.1)<|len ([jC IntKind.u8<|mu IntKind.u64 (gX IntKind.u64 (jC IntKind.u64<|len x.1) 8)<|gX i64 8 a.1.2.1]:List (Int)))
 (some<|Sum.inl (((),cC i64 a.1.2.1 1,()),app a.2.1 ([jC IntKind.u8<|mu IntKind.u64 (gX IntKind.u64 (jC IntKind.u64<|len x.1) 8)<|gX i64 8 a.1.2.1]:List (Int)),()))
 none))
 (some<|Sum.inr (0,((),a.1.2.1,()),a.2.1,())))
def rQ(x:Sb×ai):Option (Sb×ai) :=
 aj (fits<|len x.1)
 (aj (fits<|plus (len<|av x.1)<|len ([(128:Int)]:List (Int)))
 (af (Loop (jR) (((),()),app (av x.1) ([(128:Int)]:List (Int)),())) λa=>af (Loop (dR x) (((),(7:Int),()),a.2.1,())) λb=>some (bh b.2.1,()))
 none)
 none
def bV(x:Int×Int×ai):Option (Int×ai) :=
 aj (aY x.2.1 0)
 none
 (aj (aY (cC i64 32 x.2.1) 0)
 none
 (some (wV u32 (mu u32 x.1 x.2.1)<|lQ u32 x.1<|cC i64 32 x.2.1,())))
def uN(x:ai):Option Pp :=
 some (([(1116352408:Int),1899447441,3049323471,3921009573,961987163,1508970993,2453635748,2870763221,3624381080,310598401,607225278,1426881987,1925078388,2162078206,2614888103,3248222580,3835390401,4022224774,264347078,604807628,770255983,1249150122,1555081692,1996064986,2554220882,2821834349,2952996808,3210313671,3336571891,3584528711,113926993,338241895,666307205,773529912,1294757372,1396182291,1695183700,1986661051,2177026350,2456956037,2730485921,2820302411,3259730800,3345764771,3516065817,3600352804,4094571909,275423344,430227734,506948616,659060556,883997877,958139571,1322822218,1537002063,1747873779,1955562222,2024104815,2227730452,2361852424,2428436474,2756734187,3204031479,3329325298]:List (Int)),())
def gN(x:(List<|Int)×Sb×ai)(a:(Int×ai)×(List<|Int)×ai):Option JT :=
 dh (aj (aY a.1.1 16)
 (af (idx x.2.1<|gX i64 4 a.1.1) λb=>aj (aY 24 0)
 none
 (af (idx x.2.1<|aF i64 (gX i64 4 a.1.1) 1) λc=>aj (aY 16 0)
 none
 (af (idx x.2.1<|aF i64 (gX i64 4 a.1.1) 2) λd=>aj (aY 8 0)
 none
 (af (idx x.2.1<|aF i64 (gX i64 4 a.1.1) 3) λe=>aj (within a.1.1 64)
 (af (idx a.2.1 a.1.1) λf=>af (idx a.2.1 a.1.1) λg=>af (idx a.2.1 a.1.1) λh=>some (Sum.inl ((aF i64 a.1.1 1,()),lR a.2.1 a.1.1<|wV u32 (wV u32 (wV u32 (lQ u32 (jC u32<|u8 b) 24)<|lQ u32 (jC u32<|u8 c) 16)<|lQ u32 (jC u32<|u8 d) 8)<|jC u32<|u8 e,())))
 none))))
 (some<|Sum.inr (0,(a.1.1,()),a.2.1,())))
def jS(a:(Int×ai)×(List<|Int)×ai):Option JT :=
 dh (aj (aY a.1.1 64)
 (aj (within (cC i64 a.1.1 2) 64)
 (af (idx a.2.1<|cC i64 a.1.1 2) λb=>aj (within (cC i64 a.1.1 15) 64)
 (af (idx a.2.1<|cC i64 a.1.1 15) λc=>af (bV (b,(17:Int),())) λe=>af (bV (b,(19:Int),())) λf=>aj (aY 10 0)
 none
 (aj (within (cC i64 a.1.1 7) 64)
 (af (idx a.2.1<|cC i64 a.1.1 7) λg=>af (bV (c,(7:Int),())) λh=>af (bV (c,(18:Int),())) λi=>aj (aY 3 0)
 none
 (aj (within (cC i64 a.1.1 16) 64)
 (af (idx a.2.1<|cC i64 a.1.1 16) λd=>aj (within a.1.1 64)
 (af (idx a.2.1 a.1.1) λj=>af (idx a.2.1 a.1.1) λk=>af (idx a.2.1 a.1.1) λl=>some (Sum.inl ((aF i64 a.1.1 1,()),lR a.2.1 a.1.1<|aF u32 (aF u32 (aF u32 (fI u32 (fI u32 e.1 f.1)<|mu u32 b 10) g)<|fI u32 (fI u32 h.1 i.1)<|mu u32 c 3) d,())))
 none)
 none))
 none))
 none)
 none)
 (some<|Sum.inr (0,(a.1.1,()),a.2.1,())))
def gO(z:(Int×ai)×(List<|Int)×ai)(A:(List<|Int)×ai)(a:(Int×ai)×(List<|Int)×ai):Option JT :=
 dh (aj (aY a.1.1 64)
 (aj (within 4 8)
 (af (idx a.2.1 (4:Int)) λb=>aj (within 0 8)
 (af (idx a.2.1 (0:Int)) λc=>aj (within 7 8)
 (af (idx a.2.1 (7:Int)) λw=>af (bV (b,(6:Int),())) λx=>af (bV (b,(11:Int),())) λy=>af (bV (b,(25:Int),())) λd=>aj (within 5 8)
 (af (idx a.2.1 (5:Int)) λe=>aj (within 6 8)
 (af (idx a.2.1 (6:Int)) λf=>aj (within a.1.1 64)
 (af (idx A.1 a.1.1) λg=>aj (within a.1.1 64)
 (af (idx z.2.1 a.1.1) λh=>af (bV (c,(2:Int),())) λi=>af (bV (c,(13:Int),())) λj=>af (bV (c,(22:Int),())) λk=>aj (within 1 8)
 (af (idx a.2.1 (1:Int)) λl=>aj (within 2 8)
 (af (idx a.2.1 (2:Int)) λm=>aj (within 1 8)
 (af (idx a.2.1 (1:Int)) λn=>aj (within 2 8)
 (af (idx a.2.1 (2:Int)) λo=>aj (within 0 8)
 (af (idx a.2.1 (0:Int)) λp=>aj (within 1 8)
 (af (idx a.2.1 (1:Int)) λq=>aj (within 2 8)
 (af (idx a.2.1 (2:Int)) λr=>aj (within 3 8)
 (af (idx a.2.1 (3:Int)) λs=>aj (within 4 8)
 (af (idx a.2.1 (4:Int)) λt=>aj (within 5 8)
 (af (idx a.2.1 (5:Int)) λu=>aj (within 6 8)
 (af (idx a.2.1 (6:Int)) λv=>some (Sum.inl ((aF i64 a.1.1 1,()),([aF u32 (aF u32 (aF u32 (aF u32 (aF u32 w<|fI u32 (fI u32 x.1 y.1) d.1)<|fI u32 (lP u32 b e)<|lP u32 (fI u32 4294967295 b) f) g) h)<|aF u32 (fI u32 (fI u32 i.1 j.1) k.1)<|fI u32 (fI u32 (lP u32 c l)<|lP u32 c m)<|lP u32 n o,p,q,r,aF u32 s (aF u32 (aF u32 (aF u32 (aF u32 w<|fI u32 (fI u32 x.1 y.1) d.1)<|fI u32 (lP u32 b e)<|lP u32 (fI u32 4294967295 b) f) g) h),t,u,v]:List (Int)),())))
 none)
 none)
 none)
 none)
 none)
 none)
 none)
 none)
 none)
 none)
 none)
 none)
 none)
 none)
 none)
 none)
 none)
 none)
 (some<|Sum.inr (0,(a.1.1,()),a.2.1,())))
def jT(x:(List<|Int)×Sb×ai)(a:(Int×ai)×(List<|Int)×ai):Option JT :=
 dh (aj (aY a.1.1 8)
 (aj (within a.1.1 8)
 (af (idx a.2.1 a.1.1) λb=>aj (within a.1.1 8)
 (af (idx x.1 a.1.1) λc=>aj (within a.1.1 8)
 (af (idx a.2.1 a.1.1) λe=>af (idx a.2.1 a.1.1) λf=>af (idx a.2.1 a.1.1) λd=>some (Sum.inl ((aF i64 a.1.1 1,()),lR a.2.1 a.1.1<|aF u32 b c,())))
 none)
 none)
 none)
 (some<|Sum.inr (0,(a.1.1,()),a.2.1,())))
def rR(x:(List<|Int)×Sb×ai):Option Pp :=
 af (Loop (gN x) (((0:Int),()),([(0:Int),0,0,0,0,0,0,0,0,0,0,0,0,0,0,0,0,0,0,0,0,0,0,0,0,0,0,0,0,0,0,0,0,0,0,0,0,0,0,0,0,0,0,0,0,0,0,0,0,0,0,0,0,0,0,0,0,0,0,0,0,0,0,0]:List (Int)),())) (λa=>af (Loop (jS) (((16:Int),()),a.2.1,())) λb=>af (uN ()) λc=>af (Loop (gO b c) (((0:Int),()),x.1,())) λd=>af (Loop (jT x) (((0:Int),()),d.2.1,())) λe=>some (e.2.1,()))
def mF(b:Sb×ai)(a:(Int×ai)×(List<|Int)×ai):Option JT :=
 dh (aj (cu (aF i64 a.1.1 64)<|len b.1)
 (aj (inside a.1.1 (aF i64 a.1.1 64)<|len b.1)
 (af (rR (a.2.1,sub b.1 a.1.1<|minus (aF i64 a.1.1 64) a.1.1,())) λc=>some (Sum.inl ((aF i64 a.1.1 64,()),c.1,())))
 none)
 (some<|Sum.inr (0,(a.1.1,()),a.2.1,())))
def mG(b:(Int×ai)×(List<|Int)×ai)(a:(Int×ai)×(List<|Int)×ai):Option JT :=
 dh (aj (aY a.1.1 32)
 (aj (aX 4 0)
 none
 (aj (within (GX i64 a.1.1 4) 8)
 (af (idx b.2.1<|GX i64 a.1.1 4) λc=>aj (aX 4 0)
 none
 (aj (aY (cC i64 24<|gX i64 8<|iE a.1.1 4) 0)
 none
 (aj (within a.1.1 32)
 (af (idx a.2.1 a.1.1) λd=>af (idx a.2.1 a.1.1) λe=>af (idx a.2.1 a.1.1) λf=>some (Sum.inl ((aF i64 a.1.1 1,()),lR a.2.1 a.1.1<|jC IntKind.u8<|mu u32 c<|cC i64 24<|gX i64 8<|iE a.1.1 4,())))
 none)))
 none))
 (some<|Sum.inr (0,(a.1.1,()),a.2.1,())))
def vD(x:Sb×ai):Option Pp :=
 af (wv ()) (λa=>af (rQ (x.1,())) λb=>af (Loop (mF b) (((0:Int),()),a.1,())) λc=>af (Loop (mG c) (((0:Int),()),([(0:Int),0,0,0,0,0,0,0,0,0,0,0,0,0,0,0,0,0,0,0,0,0,0,0,0,0,0,0,0,0,0,0]:List (Int)),())) λd=>some (d.2.1,()))
end Go.Ge
namespace Go.Ge
variable [Lp]
set_option maxRecDepth 100000
def kU(x:Sb×ai)(a:(Int×ai)×(ai×ai×ai)×(List<|Int)×ai):Option (((Int×ai)×(ai×ai×ai)×(List<|Int)×ai)⊕((Int×ai)×(ai×ai×ai)×(List<|Int)×ai)) :=
 dh (aj (aY a.1.1<|len<|av x.1)
 (aj (within a.1.1<|len<|av x.1)
 (af (idx (av x.1) a.1.1) λc=>aj (aY 4 0)
 none
 (af (idx ([48,49,50,51,52,53,54,55,56,57,97,98,99,100,101,102]:aq)<|mu IntKind.u8 c 4) λb=>aj (fits<|plus (len a.2.2.1)<|len ([u8 b]:List (Int)))
 (af (idx ([48,49,50,51,52,53,54,55,56,57,97,98,99,100,101,102]:aq)<|lP IntKind.u8 c 15) λd=>aj (fits<|plus (len<|app a.2.2.1 ([u8 b]:List (Int)))<|len ([u8 d]:List (Int)))
 (some<|Sum.inl ((aF i64 a.1.1 1,()),((),(),a.2.1.2.2),app (app a.2.2.1 ([u8 b]:List (Int))) ([u8 d]:List (Int)),()))
 none)
 none))
 none)
 (some<|Sum.inr (0,(a.1.1,()),((),(),a.2.1.2.2),a.2.2.1,())))
def qa(x:Sb×ai):Option (Sb×ai) :=
 aj (fits<|len x.1)
 (af (Loop (kU x) (((0:Int),()),((),(),()),([]:List (Int)),())) λa=>some (bh a.2.2.1,()))
 none
def sF(x:Sb×ai):Option (Sb×ai) :=
 af (AU (x.1,())) (λb=>aj (inside 0 32 32)
 (af (qa (bh<|sub b.1 (0:Int)<|minus 32 0,())) λa=>aj (fits<|plus (len ([115,104,97,50,53,54,58]:aq))<|len a.1)
 (some (app ([115,104,97,50,53,54,58]:aq) a.1,()))
 none)
 none)
def cj(x:Sb×Sb×ai):Option (Bool×ai) :=
 af (aj (cu (len x.2.1)<|len x.1)
 (aj (inside 0 (len x.2.1)<|len x.1)
 (some<|bt (sub x.1 (0:Int)<|minus (len x.2.1) 0) x.2.1)
 none)
 (some false)) (λa=>some (a,()))
def eY(x:Sb×Sb×ai):Option (Sb×Bool×ai) :=
 af (cj (x.1,x.2.1,())) (λa=>aj (nt a.1)
 (some (x.1,false,()))
 (aj (inside (len x.2.1) (len x.1)<|len x.1)
 (some (sub x.1 (len x.2.1)<|minus (len x.1)<|len x.2.1,true,()))
 none))
def jD(x:Sb×Sb×ai):Option (Sb×Bool×ai) :=
 af (eY (x.1,x.2.1,())) (λa=>some (a.1,a.2.1,()))
def cN(x:Sb×Int×ai):Option (Int×ai) :=
 af (eX (x.1,x.2.1,())) (λa=>some (a.1,()))
def lD(x:Int×ai):Option (Int×ai) :=
 aj (aY x.1 10)
 (some (jC IntKind.u8<|aF i64 48 x.1,()))
 (some (jC IntKind.u8<|cC i64 (aF i64 97 x.1) 10,()))
def mH(x:Sb×ai)(a:(ai×Int×ai)×(List<|Int)×ai):Option (((ai×Int×ai)×(List<|Int)×ai)⊕((ai×Int×ai)×(List<|Int)×ai)) :=
 dh (aj (aY a.1.2.1<|len x.1)
 (af (idx x.1 a.1.2.1) λd=>aj (aX 16 0)
 none
 (af (lD (GX i64 (jC i64<|u8 d) 16,())) λb=>aj (fits<|plus (len a.2.1)<|len ([b.1]:List (Int)))
 (af (idx x.1 a.1.2.1) λe=>aj (aX 16 0)
 none
 (af (lD (iE (jC i64<|u8 e) 16,())) λc=>aj (fits<|plus (len<|app a.2.1 ([b.1]:List (Int)))<|len ([c.1]:List (Int)))
 (some<|Sum.inl (((),aF i64 a.1.2.1 1,()),app (app a.2.1 ([b.1]:List (Int))) ([c.1]:List (Int)),()))
 none))
 none))
 (some<|Sum.inr (0,((),a.1.2.1,()),a.2.1,())))
def vE(x:Sb×ai):Option (Sb×ai) :=
 af (Loop (mH x) (((),(0:Int),()),([]:List (Int)),())) (λa=>some (bh a.2.1,()))
def uO(x:Sb×ai):Option (Sb×ai) :=
 af (vD (x.1,())) (λb=>aj (inside 0 32 32)
 (af (vE (bh<|sub b.1 (0:Int)<|minus 32 0,())) λa=>aj (fits<|plus (len ([115,104,97,50,53,54,58]:aq))<|len a.1)
 (some (app ([115,104,97,50,53,54,58]:aq) a.1,()))
 none)
 none)
def dS(x:Int×ai)(a:(Int×Int×ai)×ai):Option (((Int×Int×ai)×ai)⊕(Nat×(Int×Int×ai)×ai)) :=
 aj (aY a.1.2.1 16)
 (af (lD (a.1.2.1,())) λb=>aj (aX b.1 x.1)
 (some<|Sum.inr (1,(a.1.2.1,a.1.2.1,()),()))
 (some<|Sum.inl ((a.1.1,aF i64 a.1.2.1 1,()),())))
 (some<|Sum.inr (0,(a.1.1,a.1.2.1,()),()))
def oi(x:Int×ai):Option (Int×ai) :=
 af (Loop (dS x) (((0:Int),(0:Int),()),())) (λa=>aj (dJ a.1 0)
 (some ((-1:Int),()))
 (some (a.2.1.1,())))
def gP(x:Sb×ai)(a:(Sb×Bool×ai×Int×ai)×(List<|Int)×ai):Option (((Sb×Bool×ai×Int×ai)×(List<|Int)×ai)⊕(Nat×(Sb×Bool×ai×Int×ai)×(List<|Int)×ai)) :=
 aj (aY (aF i64 a.1.2.2.2.1 1)<|len x.1)
 (af (idx x.1 a.1.2.2.2.1) λd=>af (oi (u8 d,())) λb=>af (idx x.1<|aF i64 a.1.2.2.2.1 1) λe=>af (oi (u8 e,())) λc=>aj (aj (nt<|aY b.1 0)
 (aY c.1 0)
 true)
 (some<|Sum.inr (1,(([]:aq),false,(),a.1.2.2.2.1,()),a.2.1,()))
 (aj (fits<|plus (len a.2.1)<|len ([jC IntKind.u8<|aF i64 (gX i64 16 b.1) c.1]:List (Int)))
 (some<|Sum.inl ((a.1.1,a.1.2.1,(),aF i64 a.1.2.2.2.1 2,()),app a.2.1 ([jC IntKind.u8<|aF i64 (gX i64 16 b.1) c.1]:List (Int)),()))
 none))
 (some<|Sum.inr (0,(a.1.1,a.1.2.1,(),a.1.2.2.2.1,()),a.2.1,()))
def oj(x:Sb×ai):Option (Sb×Bool×ai) :=
 aj (aX 2 0)
 none
 (aj (aX (iE (len x.1) 2) 1)
 (some (([]:aq),false,()))
 (af (Loop (gP x) ((([]:aq),false,(),(0:Int),()),([]:List (Int)),())) λa=>aj (dJ a.1 0)
 (some (bh a.2.2.1,true,()))
 (some (a.2.1.1,a.2.1.2.1,()))))
def rS(x:Sb×ai):Option (Int×ai) :=
 af (aj (nt<|nt<|aX (len x.1) 71)
 (aj (inside 0 7<|len x.1)
 (some<|nt<|bt (sub x.1 (0:Int)<|minus 7 0) ([115,104,97,50,53,54,58]:aq))
 none)
 (some true)) (λa=>aj a
 (some ((2:Int),()))
 (aj (inside 7 (len x.1)<|len x.1)
 (af (oj (sub x.1 (7:Int)<|minus (len x.1) 7,())) λb=>aj (nt b.2.1)
 (some ((2:Int),()))
 (some ((0:Int),())))
 none))
end Go.Ge
namespace Go.Ge
variable [Lp]
set_option maxRecDepth 100000
abbrev X3:=((Sb×ai)×(List<|Bool)×ai)
abbrev aeI:=(Sb×Int×Int×Int×Int×Int×Int×Sb×ai)
def kq(x:Int×Int×ai):Option (Bool×ai) :=
 some (aj (cu 0 x.1)
 (aY x.1 x.2.1)
 false,())
def mI(x:Sb×Int×ai):Option (Bool×ai) :=
 af (aj (aj (nt<|bt x.1 ([]:aq))
 (cu (len x.1) x.2.1)
 false)
 (af (cN (x.1,(0:Int),())) λa=>some (aY a.1 0))
 (some false)) (λa=>some (a,()))
def pE(x:aeI×Int×ai):Option (Bool×ai) :=
 af (kq (x.1.2.2.1,(2097152:Int),())) (λf=>af (aj f.1
 (af (kq (x.1.2.2.2.1,(2097152:Int),())) λa=>some a.1)
 (some false)) λa=>af (aj a
 (af (kq (x.1.2.2.2.2.1,(2097152:Int),())) λb=>some b.1)
 (some false)) λb=>af (aj b
 (af (kq (x.1.2.2.2.2.2.1,(8589934592:Int),())) λc=>some c.1)
 (some false)) λc=>af (aj c
 (af (kq (x.1.2.2.2.2.2.2.1,(8589934592:Int),())) λd=>some d.1)
 (some false)) λd=>af (aj (nt<|nt d)
 (af (mI (x.1.1,x.2.1,())) λe=>some (nt e.1))
 (some true)) λe=>aj e
 (some (false,()))
 (aj (aX x.1.2.1 1)
 (some (bt x.1.2.2.2.2.2.2.2.1 ([]:aq),()))
 (aj (aX x.1.2.1 2)
 (some (aj (bt x.1.2.2.2.2.2.2.2.1 ([]:aq))
 (aX x.1.2.2.2.2.2.1 0)
 false,()))
 (aj (aX x.1.2.1 3)
 (af (mI (x.1.2.2.2.2.2.2.2.1,(100:Int),())) λg=>some (aj g.1
 (aX x.1.2.2.2.2.2.1 0)
 false,()))
 (some (false,()))))))
def kV(x:ai):Option ((List<|Int×Int×ai)×ai) :=
 some (([((0:Int),(100:Int),()),((100:Int),(8:Int),()),((108:Int),(8:Int),()),((116:Int),(8:Int),()),((124:Int),(12:Int),()),((136:Int),(12:Int),()),((148:Int),(8:Int),()),((156:Int),(1:Int),()),((157:Int),(100:Int),()),((257:Int),(8:Int),()),((345:Int),(155:Int),())]:List (Int×Int×ai)),())
def kW(x:Sb×ai)(b:Int×Int×ai)(a:(Int×Int×ai)×ai):Option (((Int×Int×ai)×ai)⊕((Int×Int×ai)×ai)) :=
 dh (aj (aY a.1.2.1<|len<|av x.1)
 (aj (within a.1.2.1<|len<|av x.1)
 (af (idx (av x.1) a.1.2.1) λc=>some (Sum.inl ((aF i64 a.1.1<|jC i64<|((aj (aj (cu b.1 a.1.2.1)
 (aY a.1.2.1<|aF i64 b.1 b.2.1)
 false)
 (((32:Int),()),())
 ((c,()),())).1).1,aF i64 a.1.2.1 1,()),())))
 none)
 (some<|Sum.inr (0,(a.1.1,a.1.2.1,()),())))
def tL(x:Sb×ai):Option (Int×ai) :=
 af (kV ()) (λa=>af (idx a.1 (6:Int)) λb=>aj (fits<|len x.1)
 (af (Loop (kW x b) (((0:Int),(0:Int),()),())) λc=>some (c.1.1,()))
 none)
def bW(x:Sb×Int×ai):Option (Sb×ai) :=
 af (kV ()) (λb=>af (idx b.1 x.2.1) λa=>aj (inside a.1 (aF i64 a.1 a.2.1)<|len x.1)
 (some (sub x.1 a.1<|minus (aF i64 a.1 a.2.1) a.1,()))
 none)
def eZ(x:Sb×Int×ai)(a:(Sb×ai)×ai):Option (((Sb×ai)×ai)⊕((Sb×ai)×ai)) :=
 dh (af (aj (aY 0<|len a.1.1)
 (af (idx a.1.1<|cC i64 (len a.1.1) 1) λb=>some (aX (u8 b) x.2.1))
 (some false)) λb=>aj b
 (aj (inside 0 (cC i64 (len a.1.1) 1)<|len a.1.1)
 (some<|Sum.inl ((sub a.1.1 (0:Int)<|minus (cC i64 (len a.1.1) 1) 0,()),()))
 none)
 (some<|Sum.inr (0,(a.1.1,()),())))
def eG(x:Sb×Int×ai):Option (Sb×ai) :=
 af (Loop (eZ x) ((x.1,()),())) (λa=>some (a.1.1,()))
def bR(x:Sb×ai)(a:(Bool×Int×ai)×(List<|Bool)×ai):Option (((Bool×Int×ai)×(List<|Bool)×ai)⊕(Nat×(Bool×Int×ai)×(List<|Bool)×ai)) :=
 aj (aY a.1.2.1<|len x.1)
 (af (idx x.1 a.1.2.1) λb=>aj (cu 128<|u8 b)
 (some<|Sum.inr (1,(false,a.1.2.1,()),a.2.1,()))
 (aj (within (u8 b) 256)
 (af (idx a.2.1<|u8 b) λc=>af (idx a.2.1<|u8 b) λd=>af (idx a.2.1<|u8 b) λe=>some (Sum.inl ((a.1.1,aF i64 a.1.2.1 1,()),lR a.2.1 (u8 b) true,())))
 none))
 (some<|Sum.inr (0,(a.1.1,a.1.2.1,()),a.2.1,()))
def dm(x:Sb×ai):Option ((List<|Bool)×Bool×ai) :=
 af (Loop (bR x) ((false,(0:Int),()),((List.replicate 256 false):List (Bool)),())) (λa=>aj (dJ a.1 0)
 (some (a.2.2.1,true,()))
 (some (a.2.2.1,a.2.1.1,())))
def cr(x:(Int×ai)×(List<|Bool)×ai):Option ((Bool×ai)×(List<|Bool)×ai) :=
 aj (within x.1.1 256)
 (af (idx x.2.1 x.1.1) λa=>some ((a,()),x.2.1,()))
 none
def bY(a:(Sb×ai)×(List<|Bool)×ai):Option (X3⊕X3) :=
 dh (aj (aY 0<|len a.1.1)
 (af (idx a.1.1<|cC i64 (len a.1.1) 1) λc=>af (cr ((u8 c,()),a.2.1,())) λb=>aj (nt b.1.1)
 (some<|Sum.inr (0,(a.1.1,()),b.2.1,()))
 (aj (inside 0 (cC i64 (len a.1.1) 1)<|len a.1.1)
 (some<|Sum.inl ((sub a.1.1 (0:Int)<|minus (cC i64 (len a.1.1) 1) 0,()),b.2.1,()))
 none))
 (some<|Sum.inr (0,(a.1.1,()),a.2.1,())))
def dA(x:(Sb×ai)×(List<|Bool)×ai):Option X3 :=
 af (Loop (bY) ((x.1.1,()),x.2.1,())) (λa=>some ((a.1.1,()),a.2.1,()))
def ea(x:Sb×Sb×ai):Option (Sb×ai) :=
 aj (aj (nt<|bt x.1 ([]:aq))
 (bt x.2.1 ([]:aq))
 true)
 (some (x.1,()))
 (af (aj (aX (len x.2.1) 1)
 (af (idx x.2.1 (0:Int)) λb=>some (aY (u8 b) 128))
 (some false)) λb=>aj b
 (af (idx x.2.1 (0:Int)) λa=>af (eG (x.1,u8 a,())) λc=>some (c.1,()))
 (af (dm (x.2.1,())) λa=>aj a.2.1
 (af (dA ((x.1,()),a.1,())) λc=>some (c.1.1,()))
 none))
def bL(x:Sb×ai)(a:(Int×Bool×Int×Int×ai)×ai):Option (((Int×Bool×Int×Int×ai)×ai)⊕(Nat×(Int×Bool×Int×Int×ai)×ai)) :=
 aj (aY a.1.2.2.2.1<|len<|av x.1)
 (aj (within a.1.2.2.2.1<|len<|av x.1)
 (af (idx (av x.1) a.1.2.2.2.1) λb=>aj (aj (nt<|aY b 48)
 (aY 55 b)
 true)
 (some<|Sum.inr (1,((0:Int),false,a.1.2.2.1,a.1.2.2.2.1,()),()))
 (aj (aY 3 0)
 none
 (some<|Sum.inl ((a.1.1,a.1.2.1,wV i64 (lQ i64 a.1.2.2.1 3)<|jC i64<|cC IntKind.u8 b 48,aF i64 a.1.2.2.2.1 1,()),()))))
 none)
 (some<|Sum.inr (0,(a.1.1,a.1.2.1,a.1.2.2.1,a.1.2.2.2.1,()),()))
def dn(x:Sb×ai):Option (Int×Bool×ai) :=
 aj (aj (nt<|aY (len x.1) 1)
 (aY 21<|len x.1)
 true)
 (some ((0:Int),false,()))
 (aj (fits<|len x.1)
 (af (Loop (bL x) (((0:Int),false,(0:Int),(0:Int),()),())) λa=>aj (dJ a.1 0)
 (some (a.2.1.2.2.1,true,()))
 (some (a.2.1.1,a.2.1.2.1,())))
 none)
def cO(x:Sb×ai):Option (Int×ai) :=
 af (ea (x.1,([0,32]:aq),())) (λa=>af (dn (a.1,())) λb=>aj (aj (nt<|nt b.2.1)
 (aX (len a.1)<|len x.1)
 true)
 (some ((-1:Int),()))
 (some (b.1,())))
def jx(x:Sb×ai):Option (Sb×Bool×ai) :=
 af (ea (x.1,([0]:aq),())) (λa=>af (cN (a.1,(0:Int),())) λb=>some (a.1,aY b.1 0,()))
def eR(x:Sb×ai):Option (aeI×Int×ai) :=
 af (aj (nt<|nt<|aX (len x.1) 512)
 (af (bW (x.1,(9:Int),())) λk=>some (nt<|bt k.1 ([117,115,116,97,114,0,48,48]:aq)))
 (some true)) (λk=>af (aj (nt k)
 (af (bW (x.1,(6:Int),())) λl=>af (cO (l.1,())) λm=>af (tL (x.1,())) λi=>some (nt<|aX m.1 i.1))
 (some true)) λl=>aj l
 (some ((([]:aq),(0:Int),(0:Int),(0:Int),(0:Int),(0:Int),(0:Int),([]:aq),()),(2:Int),()))
 (af (bW (x.1,(0:Int),())) λm=>af (jx (m.1,())) λi=>af (bW (x.1,(8:Int),())) λt=>af (jx (t.1,())) λn=>af (bW (x.1,(10:Int),())) λu=>af (jx (u.1,())) λj=>af (aj (nt<|bt j.1 ([]:aq))
 (aj (fits<|plus (len j.1)<|len ([47]:aq))
 (aj (fits<|plus (len<|app j.1 ([47]:aq))<|len i.1)
 (some ((app (app j.1 ([47]:aq)) i.1,()),()))
 none)
 none)
 (some ((i.1,()),()))) λg=>af (bW (x.1,(1:Int),())) λo=>af (cO (o.1,())) λb=>af (bW (x.1,(2:Int),())) λp=>af (cO (p.1,())) λc=>af (bW (x.1,(3:Int),())) λq=>af (cO (q.1,())) λd=>af (bW (x.1,(4:Int),())) λr=>af (cO (r.1,())) λe=>af (bW (x.1,(5:Int),())) λs=>af (cO (s.1,())) λf=>af (bW (x.1,(7:Int),())) λa=>af (aj (nt<|aj (nt<|aj (nt<|nt i.2.1)
 (nt n.2.1)
 true)
 (nt j.2.1)
 true)
 (af (pE (((aj (((aj (bt a.1 ([48]:aq))
 ((bt a.1 ([48]:aq),()),())
 ((bt a.1 ([0]:aq),()),())).1).1)
 ((),(g.1.1,(1:Int),b.1,c.1,d.1,e.1,f.1,([]:aq),()),())
 ((),((aj (bt a.1 ([53]:aq))
 ((),(g.1.1,(2:Int),b.1,c.1,d.1,e.1,f.1,([]:aq),()),())
 ((),((aj (bt a.1 ([50]:aq))
 ((),(g.1.1,(3:Int),b.1,c.1,d.1,e.1,f.1,n.1,()),())
 ((),(g.1.1,(0:Int),b.1,c.1,d.1,e.1,f.1,([]:aq),()),())).2).1,())).2).1,())).2).1,(256:Int),())) λh=>some (nt h.1))
 (some true)) λh=>aj h
 (some ((([]:aq),(0:Int),(0:Int),(0:Int),(0:Int),(0:Int),(0:Int),([]:aq),()),(2:Int),()))
 (some (((aj (((aj (bt a.1 ([48]:aq))
 ((bt a.1 ([48]:aq),()),())
 ((bt a.1 ([0]:aq),()),())).1).1)
 ((),(g.1.1,(1:Int),b.1,c.1,d.1,e.1,f.1,([]:aq),()),())
 ((),((aj (bt a.1 ([53]:aq))
 ((),(g.1.1,(2:Int),b.1,c.1,d.1,e.1,f.1,([]:aq),()),())
 ((),((aj (bt a.1 ([50]:aq))
 ((),(g.1.1,(3:Int),b.1,c.1,d.1,e.1,f.1,n.1,()),())
 ((),(g.1.1,(0:Int),b.1,c.1,d.1,e.1,f.1,([]:aq),()),())).2).1,())).2).1,())).2).1,(0:Int),()))))
def fk(x:Sb×Int×ai)(a:(Sb×ai)×ai):Option (((Sb×ai)×ai)⊕((Sb×ai)×ai)) :=
 dh (af (aj (aY 0<|len a.1.1)
 (af (idx a.1.1 (0:Int)) λb=>some (aX (u8 b) x.2.1))
 (some false)) λb=>aj b
 (aj (inside 1 (len a.1.1)<|len a.1.1)
 (some<|Sum.inl ((sub a.1.1 (1:Int)<|minus (len a.1.1) 1,()),()))
 none)
 (some<|Sum.inr (0,(a.1.1,()),())))
def gB(x:Sb×Int×ai):Option (Sb×ai) :=
 af (Loop (fk x) ((x.1,()),())) (λa=>some (a.1.1,()))
def dN(a:(Sb×ai)×(List<|Bool)×ai):Option (X3⊕X3) :=
 dh (aj (aY 0<|len a.1.1)
 (af (idx a.1.1 (0:Int)) λc=>af (cr ((u8 c,()),a.2.1,())) λb=>aj (nt b.1.1)
 (some<|Sum.inr (0,(a.1.1,()),b.2.1,()))
 (aj (inside 1 (len a.1.1)<|len a.1.1)
 (some<|Sum.inl ((sub a.1.1 (1:Int)<|minus (len a.1.1) 1,()),b.2.1,()))
 none))
 (some<|Sum.inr (0,(a.1.1,()),a.2.1,())))
def fV(x:(Sb×ai)×(List<|Bool)×ai):Option X3 :=
 af (Loop (dN) ((x.1.1,()),x.2.1,())) (λa=>some ((a.1.1,()),a.2.1,()))
def hM(x:Sb×Sb×ai):Option (Sb×ai) :=
 aj (aj (nt<|bt x.1 ([]:aq))
 (bt x.2.1 ([]:aq))
 true)
 (some (x.1,()))
 (af (aj (aX (len x.2.1) 1)
 (af (idx x.2.1 (0:Int)) λc=>some (aY (u8 c) 128))
 (some false)) λc=>aj c
 (af (idx x.2.1 (0:Int)) λa=>af (eG (x.1,u8 a,())) λb=>af (idx x.2.1 (0:Int)) λd=>af (gB (b.1,u8 d,())) λe=>some (e.1,()))
 (af (dm (x.2.1,())) λa=>aj a.2.1
 (af (dA ((x.1,()),a.1,())) λb=>af (fV ((b.1.1,()),b.2.1,())) λd=>some (d.1.1,()))
 none))
def rT(x:Sb×ai):Option (Bool×ai) :=
 af (aj (aX (len x.1) 512)
 (af (hM (x.1,([0]:aq),())) λa=>some (bt a.1 ([]:aq)))
 (some false)) (λa=>some (a,()))
def fv(x:Sb×Int×ai)(a:(Bool×Int×ai)×ai):Option (((Bool×Int×ai)×ai)⊕(Nat×(Bool×Int×ai)×ai)) :=
 aj (aY a.1.2.1<|len x.1)
 (af (idx x.1 a.1.2.1) λb=>aj (aX (u8 b) 0)
 (some<|Sum.inr (1,(false,a.1.2.1,()),()))
 (some<|Sum.inl ((a.1.1,aF i64 a.1.2.1 1,()),())))
 (some<|Sum.inr (0,(a.1.1,a.1.2.1,()),()))
def lE(x:Sb×Int×ai):Option (Bool×ai) :=
 af (Loop (fv x) ((false,(0:Int),()),())) (λa=>aj (dJ a.1 0)
 (some (aj (cu 1<|len x.1)
 (cu (len x.1) x.2.1)
 false,()))
 (some (a.2.1.1,())))
def pf(x:Int×Int×ai):Option (Bool×ai) :=
 some (aj (cu 0 x.1)
 (aY x.1 x.2.1)
 false,())
def sG(x:aeI×Int×ai):Option (Bool×ai) :=
 af (aj (aX x.1.2.1 3)
 (af (lE (x.1.2.2.2.2.2.2.2.1,(100:Int),())) λa=>some ((a.1,()),()))
 (some ((bt x.1.2.2.2.2.2.2.2.1 ([]:aq),()),()))) (λa=>af (lE (x.1.1,x.2.1,())) λg=>af (aj (aj (aj g.1
 (cu 1 x.1.2.1)
 false)
 (cu x.1.2.1 3)
 false)
 (af (pf (x.1.2.2.1,(2097152:Int),())) λb=>some b.1)
 (some false)) λb=>af (aj b
 (af (pf (x.1.2.2.2.1,(2097152:Int),())) λc=>some c.1)
 (some false)) λc=>af (aj c
 (af (pf (x.1.2.2.2.2.1,(2097152:Int),())) λd=>some d.1)
 (some false)) λd=>af (aj d
 (af (pf (x.1.2.2.2.2.2.1,(8589934592:Int),())) λe=>some e.1)
 (some false)) λe=>af (aj e
 (af (pf (x.1.2.2.2.2.2.2.1,(8589934592:Int),())) λf=>some f.1)
 (some false)) λf=>some (aj (aj f
 (aj (nt<|aX x.1.2.2.2.2.2.1 0)
 (aX x.1.2.1 1)
 true)
 false)
 a.1.1
 false,()))
def mJ(x:Sb×ai)(a:(Int×Int×ai)×ai):Option (((Int×Int×ai)×ai)⊕((Int×Int×ai)×ai)) :=
 dh (aj (aY a.1.2.1<|len x.1)
 (af (aj (aj (cu 148 a.1.2.1)
 (aY a.1.2.1 156)
 false)
 (some ((aF i64 a.1.1 32,()),()))
 (af (idx x.1 a.1.2.1) λb=>some ((aF i64 a.1.1<|jC i64<|u8 b,()),()))) λb=>some (Sum.inl ((b.1.1,aF i64 a.1.2.1 1,()),())))
 (some<|Sum.inr (0,(a.1.1,a.1.2.1,()),())))
def vF(x:Sb×ai):Option (Int×ai) :=
 af (Loop (mJ x) (((0:Int),(0:Int),()),())) (λa=>some (a.1.1,()))
end Go.Ge
namespace Go.Ge
variable [Lp]
set_option maxRecDepth 100000
abbrev E5:=((Sb×Int×Int×Int×Int×Int×Int×Sb×ai)×Sb×ai)
abbrev Pq:=(Bool×Sb×Int×Bool×Bool×ai)
def wx(x:Int×ai):Option (Sb×ai) :=
 af (ni (([0]:aq),x.1,())) (λa=>some (a.1,()))
def uP(x:Int×ai):Option (Int×ai) :=
 aj (aX 512 0)
 none
 (aj (aX 512 0)
 none
 (some (iE (cC i64 512<|iE x.1 512) 512,())))
def ef(x:(Bool×ai)×Pq×ai):Option ((E5×Bool×ai)×Pq×ai) :=
 some ((((([]:aq),(0:Int),(0:Int),(0:Int),(0:Int),(0:Int),(0:Int),([]:aq),()),([]:aq),()),false,()),(x.2.1.1,([]:aq),x.2.1.2.2.1,true,x.1.1,x.2.1.2.2.2.2.2),())
def bJ(x:ai×Pq×ai):Option ((E5×Bool×ai)×Pq×ai) :=
 aj (aj (nt<|nt x.2.1.1)
 x.2.1.2.2.2.1
 true)
 (some ((((([]:aq),(0:Int),(0:Int),(0:Int),(0:Int),(0:Int),(0:Int),([]:aq),()),([]:aq),()),false,()),x.2.1,()))
 (aj (aY (len x.2.1.2.1) 512)
 (af (ef ((true,()),x.2.1,())) λd=>some ((d.1.1,d.1.2.1,()),d.2.1,()))
 (aj (inside 0 512<|len x.2.1.2.1)
 (af (rT (sub x.2.1.2.1 (0:Int)<|minus 512 0,())) λd=>aj d.1
 (af (aj (cu 1024<|len x.2.1.2.1)
 (aj (aX 512 0)
 none
 (some<|aX (iE (len x.2.1.2.1) 512) 0))
 (some false)) λb=>af (aj (nt<|nt b)
 (af (hM (x.2.1.2.1,([0]:aq),())) λc=>some (nt<|bt c.1 ([]:aq)))
 (some true)) λc=>af (ef ((c,()),x.2.1,())) λa=>some ((a.1.1,a.1.2.1,()),a.2.1,()))
 (aj (inside 0 512<|len x.2.1.2.1)
 (af (eR (sub x.2.1.2.1 (0:Int)<|minus 512 0,())) λb=>aj (inside 512 (len x.2.1.2.1)<|len x.2.1.2.1)
 (aj (nt<|aX b.2.1 0)
 (af (ef ((true,()),x.2.1,())) λc=>some ((c.1.1,c.1.2.1,()),c.2.1,()))
 (aj (aY (len<|sub x.2.1.2.1 (512:Int)<|minus (len x.2.1.2.1) 512) b.1.2.2.2.2.2.1)
 (af (ef ((true,()),x.2.1,())) λc=>some ((c.1.1,c.1.2.1,()),c.2.1,()))
 (af (uP (b.1.2.2.2.2.2.1,())) λc=>aj (aY (len<|sub x.2.1.2.1 (512:Int)<|minus (len x.2.1.2.1) 512)<|aF i64 b.1.2.2.2.2.2.1 c.1)
 (af (ef ((true,()),x.2.1,())) λa=>some ((a.1.1,a.1.2.1,()),a.2.1,()))
 (aj (cu 64 x.2.1.2.2.1)
 (af (ef ((true,()),x.2.1,())) λa=>some ((a.1.1,a.1.2.1,()),a.2.1,()))
 (af (uP (b.1.2.2.2.2.2.1,())) λa=>aj (inside (aF i64 b.1.2.2.2.2.2.1 a.1) (len<|sub x.2.1.2.1 (512:Int)<|minus (len x.2.1.2.1) 512)<|len<|sub x.2.1.2.1 (512:Int)<|minus (len x.2.1.2.1) 512)
 (aj (inside 0 b.1.2.2.2.2.2.1<|len<|sub x.2.1.2.1 (512:Int)<|minus (len x.2.1.2.1) 512)
 (some (((b.1,sub (sub x.2.1.2.1 (512:Int)<|minus (len x.2.1.2.1) 512) (0:Int)<|minus b.1.2.2.2.2.2.1 0,()),true,()),(x.2.1.1,sub (sub x.2.1.2.1 (512:Int)<|minus (len x.2.1.2.1) 512) (aF i64 b.1.2.2.2.2.2.1 a.1)<|minus (len<|sub x.2.1.2.1 (512:Int)<|minus (len x.2.1.2.1) 512)<|aF i64 b.1.2.2.2.2.2.1 a.1,aF i64 x.2.1.2.2.1 1,x.2.1.2.2.2),()))
 none)
 none)))))
 none)
 none))
 none))
def gQ(x:ai×Pq×ai):Option ((Bool×ai)×Pq×ai) :=
 some ((x.2.1.2.2.2.2.1,()),x.2.1,())
def gK(a:(ai×ai×Bool×ai)×E5×(List E5)×Pq×ai):Option (((ai×ai×Bool×ai)×E5×(List E5)×Pq×ai)⊕((ai×ai×Bool×ai)×E5×(List E5)×Pq×ai)) :=
 dh (aj a.1.2.2.1
 (aj (fits<|plus (len a.2.2.1)<|len ([a.2.1]:List E5))
 (af (bJ ((),a.2.2.2.1,())) λb=>some (Sum.inl (((),(),b.1.2.1,()),b.1.1,app a.2.2.1 ([a.2.1]:List E5),b.2.1,())))
 none)
 (some<|Sum.inr (0,((),(),a.1.2.2.1,()),a.2.1,a.2.2.1,a.2.2.2.1,())))
def eD(x:Sb×ai):Option ((List E5)×Int×ai) :=
 af (bJ ((),(true,x.1,(0:Int),aY 8192<|len x.1,aY 8192<|len x.1,()),())) (λa=>af (Loop (gK) (((),(),a.1.2.1,()),a.1.1,([]:List E5),a.2.1,())) λb=>af (gQ ((),b.2.2.2.1,())) λc=>aj c.1.1
 (some (([]:List E5),(10:Int),()))
 (some (b.2.2.1,(0:Int),())))
def jU(a:(Int×ai)×ai):Option (((Int×ai)×ai)⊕((Int×ai)×ai)) :=
 dh (aj (aX 512 0)
 none
 (aj (nt<|aX (iE a.1.1 512) 0)
 (some<|Sum.inl ((aF i64 a.1.1 1,()),()))
 (some<|Sum.inr (0,(a.1.1,()),()))))
def lF(x:Int×ai):Option (Int×ai) :=
 af (Loop (jU) ((x.1,()),())) (λa=>some (a.1.1,()))
end Go.Ge
namespace Go.Ge
variable [Lp]
set_option maxRecDepth 100000
abbrev X4:=(((Bool×Int×ai)×ai)⊕(Nat×(Bool×Int×ai)×ai))
abbrev E6:=(Int×Int×ai)
abbrev ac1:=((E6×ai)⊕(Nat×E6×ai))
abbrev X5:=(Int×Int×Int×ai)
def eS(x:Sb×ai):Option ((List Sb)×ai) :=
 aj (bt x.1 ([]:aq))
 (some (([]:List Sb),()))
 (af (s9 (x.1,([47]:aq),())) λa=>some (a.1,()))
def l6(x:Sb×ai)(a:(Bool×Int×ai)×ai):Option X4 :=
 aj (aY a.1.2.1 2)
 (af (idx ([([46]:aq),([46,46]:aq)]:List Sb) a.1.2.1) λb=>aj (bt x.1 b)
 (some<|Sum.inr (1,(false,a.1.2.1,()),()))
 (some<|Sum.inl ((a.1.1,aF i64 a.1.2.1 1,()),())))
 (some<|Sum.inr (0,(a.1.1,a.1.2.1,()),()))
def qb(x:Sb×ai):Option (Bool×ai) :=
 af (Loop (l6 x) ((false,(0:Int),()),())) (λb=>aj (dJ b.1 0)
 (af (aj (aj (cu 1<|len x.1)
 (cu (len x.1) 32)
 false)
 (af (cN (x.1,(0:Int),())) λa=>some (aY a.1 0))
 (some false)) λa=>some (a,()))
 (some (b.2.1.1,())))
def cp(x:Sb×Sb×ai):Option (Bool×ai) :=
 af (cj (x.1,x.2.1,())) (λa=>some (a.1,()))
def jV(d:(List Sb)×ai)(a:(Sb×Int×ai×Int×ai)×(List Sb)×ai):Option (((Sb×Int×ai×Int×ai)×(List Sb)×ai)⊕(Nat×(Sb×Int×ai×Int×ai)×(List Sb)×ai)) :=
 aj (aY a.1.2.2.2.1<|len d.1)
 (af (idx d.1 a.1.2.2.2.1) λc=>af (aj (aj (nt<|bt c ([]:aq))
 (bt c ([46]:aq))
 true)
 (some (0,(a.1.1,a.1.2.1,(),()),a.2.1,()))
 (af (qb (c,())) λb=>aj (nt b.1)
 (some (1,(([]:aq),(2:Int),(),()),a.2.1,()))
 (aj (fits<|plus (len a.2.1)<|len ([c]:List Sb))
 (some (0,(a.1.1,a.1.2.1,(),()),app a.2.1 ([c]:List Sb),()))
 none))) λb=>aj (dJ b.1 0)
 (some<|Sum.inl ((b.2.1.1,b.2.1.2.1,(),aF i64 a.1.2.2.2.1 1,()),b.2.2.1,()))
 (some<|Sum.inr (1,(b.2.1.1,b.2.1.2.1,(),a.1.2.2.2.1,()),b.2.2.1,())))
 (some<|Sum.inr (0,(a.1.1,a.1.2.1,(),a.1.2.2.2.1,()),a.2.1,()))
def om(x:Sb×ai):Option (Sb×Int×ai) :=
 af (eS (x.1,())) (λc=>af (Loop (jV c) ((([]:aq),(0:Int),(),(0:Int),()),([]:List Sb),())) λa=>aj (dJ a.1 0)
 (af (uM (a.2.2.1,([47]:aq),())) λb=>af (cp (x.1,([47]:aq),())) λd=>aj (aj (nt<|aj (nt d.1)
 (aY 8<|len a.2.2.1)
 true)
 (aY 96<|len b.1)
 true)
 (some (([]:aq),(2:Int),()))
 (some (b.1,(0:Int),())))
 (some (a.2.1.1,a.2.1.2.1,())))
def bP(x:(List Sb)×Sb×ai)(a:E6×ai):Option ac1 :=
 aj (aY a.1.2.1<|len x.1)
 (af (idx x.1 a.1.2.1) λb=>aj (bt x.2.1 b)
 (some<|Sum.inr (1,(a.1.2.1,a.1.2.1,()),()))
 (some<|Sum.inl ((a.1.1,aF i64 a.1.2.1 1,()),())))
 (some<|Sum.inr (0,(a.1.1,a.1.2.1,()),()))
def er(x:(List Sb)×Sb×ai):Option (Int×ai) :=
 af (Loop (bP x) (((0:Int),(0:Int),()),())) (λa=>aj (dJ a.1 0)
 (some ((-1:Int),()))
 (some (a.2.1.1,())))
def bu(x:(List Sb)×Sb×ai):Option (Bool×ai) :=
 af (er (x.1,x.2.1,())) (λa=>some (cu 0 a.1,()))
def qc(x:Sb×ai):Option (Int×Sb×ai) :=
 af (jD (x.1,([46,119,104,46]:aq),())) (λa=>aj (nt a.2.1)
 (some ((0:Int),x.1,()))
 (aj (bt x.1 ([46,119,104,46,46,119,104,46,46,111,112,113]:aq))
 (some ((2:Int),([]:aq),()))
 (af (cp (a.1,([46,119,104,46]:aq),())) λc=>af (aj (nt c.1)
 (af (bu (([([]:aq),([46]:aq),([46,46]:aq)]:List Sb),a.1,())) λb=>some b.1)
 (some true)) λb=>aj b
 (some ((3:Int),([]:aq),()))
 (some ((1:Int),a.1,())))))
def cA(x:Sb×Int×ai)(a:E6×ai):Option ac1 :=
 aj (cu 0 a.1.2.1)
 (af (idx x.1 a.1.2.1) λb=>aj (aX (u8 b) x.2.1)
 (some<|Sum.inr (1,(a.1.2.1,a.1.2.1,()),()))
 (some<|Sum.inl ((a.1.1,cC i64 a.1.2.1 1,()),())))
 (some<|Sum.inr (0,(a.1.1,a.1.2.1,()),()))
def cI(x:Sb×Int×ai):Option (Int×ai) :=
 af (Loop (cA x) (((0:Int),cC i64 (len x.1) 1,()),())) (λa=>aj (dJ a.1 0)
 (some ((-1:Int),()))
 (some (a.2.1.1,())))
def mq(x:Sb×ai)(a:E6×ai):Option ((E6×ai)⊕(E6×ai)) :=
 dh (aj (cu 0 a.1.2.1)
 (af (idx x.1 a.1.2.1) λb=>some (Sum.inl ((aF u32 (gX u32 a.1.1 16777619)<|jC u32<|u8 b,cC i64 a.1.2.1 1,()),())))
 (some<|Sum.inr (0,(a.1.1,a.1.2.1,()),())))
def mr(a:X5×ai):Option ((X5×ai)⊕(X5×ai)) :=
 dh (aj (aY 0 a.1.2.2.1)
 (aj (aY 1 0)
 none
 (some<|Sum.inl ((((aj (nt<|aX (lP i64 a.1.2.2.1 1) 0)
 ((gX u32 a.1.1 a.1.2.1,()),())
 ((a.1.1,()),())).1).1,gX u32 a.1.2.1 a.1.2.1,mu i64 a.1.2.2.1 1,()),())))
 (some<|Sum.inr (0,(a.1.1,a.1.2.1,a.1.2.2.1,()),())))
def gr(x:Sb×ai):Option E6 :=
 af (Loop (mq x) (((0:Int),cC i64 (len x.1) 1,()),())) (λa=>af (Loop (mr) (((1:Int),(16777619:Int),len x.1,()),())) λb=>some (a.1.1,b.1.1,()))
def je(x:Sb×Sb×ai)(a:E6×ai):Option ((E6×ai)⊕(E6×ai)) :=
 dh (aj (cu (cC i64 (len x.1)<|len x.2.1) a.1.2.1)
 (af (idx x.1 a.1.2.1) λb=>some (Sum.inl ((aF u32 (gX u32 a.1.1 16777619)<|jC u32<|u8 b,cC i64 a.1.2.1 1,()),())))
 (some<|Sum.inr (0,(a.1.1,a.1.2.1,()),())))
def jf(x:Sb×Sb×ai)(b:Int×Int×ai)(a:X5×ai):Option ((X5×ai)⊕(Nat×X5×ai)) :=
 aj (cu 0 a.1.2.2.1)
 (af (idx x.1 a.1.2.2.1) λc=>af (idx x.1<|aF i64 a.1.2.2.1<|len x.2.1) λd=>af (aj (aX (cC u32 (aF u32 (gX u32 a.1.2.1 16777619)<|jC u32<|u8 c)<|gX u32 b.2.1<|jC u32<|u8 d) b.1)
 (aj (inside a.1.2.2.1 (aF i64 a.1.2.2.1<|len x.2.1)<|len x.1)
 (some<|bt (sub x.1 a.1.2.2.1<|minus (aF i64 a.1.2.2.1<|len x.2.1) a.1.2.2.1) x.2.1)
 none)
 (some false)) λe=>aj e
 (some<|Sum.inr (1,(a.1.2.2.1,cC u32 (aF u32 (gX u32 a.1.2.1 16777619)<|jC u32<|u8 c)<|gX u32 b.2.1<|jC u32<|u8 d,a.1.2.2.1,()),()))
 (some<|Sum.inl ((a.1.1,cC u32 (aF u32 (gX u32 a.1.2.1 16777619)<|jC u32<|u8 c)<|gX u32 b.2.1<|jC u32<|u8 d,cC i64 a.1.2.2.1 1,()),())))
 (some<|Sum.inr (0,(a.1.1,a.1.2.1,a.1.2.2.1,()),()))
def eH(x:Sb×Sb×ai):Option (Int×ai) :=
 af (gr (x.2.1,())) (λa=>af (Loop (je x) (((0:Int),cC i64 (len x.1) 1,()),())) λb=>af (aj (aX b.1.1 a.1)
 (aj (inside (cC i64 (len x.1)<|len x.2.1) (len x.1)<|len x.1)
 (some<|bt (sub x.1 (cC i64 (len x.1)<|len x.2.1)<|minus (len x.1)<|cC i64 (len x.1)<|len x.2.1) x.2.1)
 none)
 (some false)) λd=>aj d
 (some (cC i64 (len x.1)<|len x.2.1,()))
 (af (Loop (jf x a) (((0:Int),b.1.1,cC i64 (cC i64 (len x.1)<|len x.2.1) 1,()),())) λc=>aj (dJ c.1 0)
 (some ((-1:Int),()))
 (some (c.2.1.1,()))))
def n0(x:Sb×Sb×ai):Option (Int×ai) :=
 aj (aX (len x.2.1) 0)
 (some (len x.1,()))
 (aj (aX (len x.2.1) 1)
 (af (idx x.2.1 (0:Int)) λa=>af (cI (x.1,u8 a,())) λb=>some (b.1,()))
 (aj (aX (len x.2.1)<|len x.1)
 (aj (bt x.2.1 x.1)
 (some ((0:Int),()))
 (some ((-1:Int),())))
 (aj (aY (len x.1)<|len x.2.1)
 (some ((-1:Int),()))
 (af (eH (x.1,x.2.1,())) λa=>some (a.1,())))))
def fD(x:Sb×ai):Option (Sb×Sb×ai) :=
 af (n0 (x.1,([47]:aq),())) (λa=>aj (aY a.1 0)
 (some (([]:aq),x.1,()))
 (aj (inside 0 a.1<|len x.1)
 (aj (inside (aF i64 a.1 1) (len x.1)<|len x.1)
 (some (sub x.1 (0:Int)<|minus a.1 0,sub x.1 (aF i64 a.1 1)<|minus (len x.1)<|aF i64 a.1 1,()))
 none)
 none))
def cL(x:(List Sb)×(List Sb)×ai)(a:(Bool×Int×ai)×ai):Option X4 :=
 aj (aY a.1.2.1<|len x.1)
 (af (idx x.1 a.1.2.1) λb=>af (idx x.2.1 a.1.2.1) λc=>aj (nt<|bt b c)
 (some<|Sum.inr (1,(false,a.1.2.1,()),()))
 (some<|Sum.inl ((a.1.1,aF i64 a.1.2.1 1,()),())))
 (some<|Sum.inr (0,(a.1.1,a.1.2.1,()),()))
def et(x:(List Sb)×(List Sb)×ai):Option (Bool×ai) :=
 aj (nt<|aX (len x.1)<|len x.2.1)
 (some (false,()))
 (af (Loop (cL x) ((false,(0:Int),()),())) λa=>aj (dJ a.1 0)
 (some (true,()))
 (some (a.2.1.1,())))
def cX(x:Sb×Sb×ai):Option (Bool×ai) :=
 af (eS (x.1,())) (λb=>af (eS (x.2.1,())) λa=>af (aj (aY (len a.1)<|len b.1)
 (aj (inside 0 (len a.1)<|len b.1)
 (af (et (sub b.1 (0:Int)<|minus (len a.1) 0,a.1,())) λc=>some c.1)
 none)
 (some false)) λc=>some (c,()))
def hR(x:Sb×ai):Option (Bool×ai) :=
 some (nt<|bt x.1 x.1,())
def jg(x:Sb×Sb×ai):Option (Int×ai) :=
 af (hR (x.1,())) (λb=>af (hR (x.2.1,())) λa=>aj b.1
 (aj a.1
 (some ((0:Int),()))
 (some ((-1:Int),())))
 (aj a.1
 (some ((1:Int),()))
 (aj (iu x.1 x.2.1)
 (some ((-1:Int),()))
 (aj (nt<|Zk (iu x.1 x.2.1)<|bt x.1 x.2.1)
 (some ((1:Int),()))
 (some ((0:Int),()))))))
def dq(b:(List Sb)×ai)(c:(List Sb)×ai)(a:E6×ai):Option ac1 :=
 aj (aY a.1.2.1<|len b.1)
 (af (idx b.1 a.1.2.1) λe=>aj (cu (len c.1) a.1.2.1)
 (some<|Sum.inr (1,((1:Int),a.1.2.1,()),()))
 (af (idx c.1 a.1.2.1) λf=>af (jg (e,f,())) λd=>aj (nt<|aX d.1 0)
 (some<|Sum.inr (1,(d.1,a.1.2.1,()),()))
 (some<|Sum.inl ((a.1.1,aF i64 a.1.2.1 1,()),()))))
 (some<|Sum.inr (0,(a.1.1,a.1.2.1,()),()))
def kX(x:Sb×Sb×ai):Option (Int×ai) :=
 af (eS (x.1,())) (λa=>af (eS (x.2.1,())) λb=>af (Loop (dq a b) (((0:Int),(0:Int),()),())) λc=>aj (dJ c.1 0)
 (aj (aY (len a.1)<|len b.1)
 (some ((-1:Int),()))
 (some ((0:Int),())))
 (some (c.2.1.1,())))
def jW(x:Sb×ai)(a:(ai×Sb×Int×ai)×(List Sb)×ai):Option (((ai×Sb×Int×ai)×(List Sb)×ai)⊕((ai×Sb×Int×ai)×(List Sb)×ai)) :=
 dh (aj (aY a.1.2.2.1<|len x.1)
 (af (idx x.1 a.1.2.2.1) λc=>af (aj (aX (u8 c) 47)
 (aj (fits<|plus (len a.2.1)<|len ([a.1.2.1]:List Sb))
 (some (((),([]:aq),()),app a.2.1 ([a.1.2.1]:List Sb),()))
 none)
 (aj (inside a.1.2.2.1 (aF i64 a.1.2.2.1 1)<|len x.1)
 (aj (fits<|plus (len a.1.2.1)<|len<|sub x.1 a.1.2.2.1<|minus (aF i64 a.1.2.2.1 1) a.1.2.2.1)
 (some (((),app a.1.2.1<|sub x.1 a.1.2.2.1<|minus (aF i64 a.1.2.2.1 1) a.1.2.2.1,()),a.2.1,()))
 none)
 none)) λb=>some (Sum.inl (((),b.1.2.1,aF i64 a.1.2.2.1 1,()),b.2.1,())))
 (some<|Sum.inr (0,((),a.1.2.1,a.1.2.2.1,()),a.2.1,())))
def dP(x:Sb×ai):Option ((List Sb)×ai) :=
 aj (bt x.1 ([]:aq))
 (some (([]:List Sb),()))
 (af (Loop (jW x) (((),([]:aq),(0:Int),()),([]:List Sb),())) λa=>aj (fits<|plus (len a.2.1)<|len ([a.1.2.1]:List Sb))
 (some (app a.2.1 ([a.1.2.1]:List Sb),()))
 none)
def kY(x:(List Sb)×ai)(a:(Sb×Int×ai)×ai):Option (((Sb×Int×ai)×ai)⊕((Sb×Int×ai)×ai)) :=
 dh (aj (aY a.1.2.1<|len x.1)
 (af (aj (aY 0 a.1.2.1)
 (aj (fits<|plus (len a.1.1)<|len ([47]:aq))
 (some ((app a.1.1 ([47]:aq),()),()))
 none)
 (some ((a.1.1,()),()))) λb=>af (idx x.1 a.1.2.1) λc=>aj (fits<|plus (len b.1.1)<|len c)
 (some<|Sum.inl ((app b.1.1 c,aF i64 a.1.2.1 1,()),()))
 none)
 (some<|Sum.inr (0,(a.1.1,a.1.2.1,()),())))
def nk(x:(List Sb)×ai):Option (Sb×ai) :=
 af (Loop (kY x) ((([]:aq),(0:Int),()),())) (λa=>some (a.1.1,()))
def jh(x:Sb×ai)(a:(Bool×Int×ai)×ai):Option X4 :=
 aj (aY a.1.2.1<|len x.1)
 (af (idx x.1 a.1.2.1) λc=>af (aj (nt<|aX (u8 c) 0)
 (af (idx x.1 a.1.2.1) λb=>some (aX (u8 b) 47))
 (some true)) λb=>aj b
 (some<|Sum.inr (1,(false,a.1.2.1,()),()))
 (some<|Sum.inl ((a.1.1,aF i64 a.1.2.1 1,()),())))
 (some<|Sum.inr (0,(a.1.1,a.1.2.1,()),()))
def qd(x:Sb×ai):Option (Bool×ai) :=
 af (Loop (jh x) ((false,(0:Int),()),())) (λa=>aj (dJ a.1 0)
 (some (aj (aj (aj (cu 1<|len x.1)
 (cu (len x.1) 32)
 false)
 (nt<|bt x.1 ([46]:aq))
 false)
 (nt<|bt x.1 ([46,46]:aq))
 false,()))
 (some (a.2.1.1,())))
def oo(b:(List Sb)×ai)(a:(Bool×Int×ai)×ai):Option X4 :=
 aj (aY a.1.2.1<|len b.1)
 (af (idx b.1 a.1.2.1) λc=>af (qd (c,())) λd=>aj (nt d.1)
 (some<|Sum.inr (1,(false,a.1.2.1,()),()))
 (some<|Sum.inl ((a.1.1,aF i64 a.1.2.1 1,()),())))
 (some<|Sum.inr (0,(a.1.1,a.1.2.1,()),()))
def uQ(x:Sb×ai):Option (Bool×ai) :=
 af (dP (x.1,())) (λa=>af (Loop (oo a) ((false,(0:Int),()),())) λb=>aj (dJ b.1 0)
 (some (aj (cu (len a.1) 8)
 (cu (len x.1) 96)
 false,()))
 (some (b.2.1.1,())))
def jX(b:(List Sb)×ai)(a:(ai×Int×ai)×(List Sb)×ai):Option (((ai×Int×ai)×(List Sb)×ai)⊕((ai×Int×ai)×(List Sb)×ai)) :=
 dh (aj (aY a.1.2.1<|len b.1)
 (af (idx b.1 a.1.2.1) λe=>af (aj (nt<|bt e ([]:aq))
 (af (idx b.1 a.1.2.1) λd=>some (nt<|bt d ([46]:aq)))
 (some false)) λd=>af (aj d
 (af (idx b.1 a.1.2.1) λc=>aj (fits<|plus (len a.2.1)<|len ([c]:List Sb))
 (some (((),()),app a.2.1 ([c]:List Sb),()))
 none)
 (some (((),()),a.2.1,()))) λc=>some (Sum.inl (((),aF i64 a.1.2.1 1,()),c.2.1,())))
 (some<|Sum.inr (0,((),a.1.2.1,()),a.2.1,())))
def rU(x:Sb×ai):Option (Sb×Int×ai) :=
 af (dP (x.1,())) (λd=>af (Loop (jX d) (((),(0:Int),()),([]:List Sb),())) λe=>af (nk (e.2.1,())) λc=>af (aj (nt<|bt x.1 ([]:aq))
 (af (idx x.1 (0:Int)) λa=>some (aX (u8 a) 47))
 (some false)) λa=>af (aj (nt a)
 (af (uQ (c.1,())) λb=>some (nt b.1))
 (some true)) λb=>aj b
 (some (([]:aq),(2:Int),()))
 (some (c.1,(0:Int),())))
def mK(x:Sb×Sb×ai):Option (Bool×ai) :=
 af (aj (cu (len x.2.1)<|len x.1)
 (aj (inside 0 (len x.2.1)<|len x.1)
 (some<|bt (sub x.1 (0:Int)<|minus (len x.2.1) 0) x.2.1)
 none)
 (some false)) (λa=>some (a,()))
def qe(x:Sb×ai):Option (Int×Sb×ai) :=
 aj (bt x.1 ([46,119,104,46,46,119,104,46,46,111,112,113]:aq))
 (some ((2:Int),([]:aq),()))
 (af (mK (x.1,([46,119,104,46,46,119,104,46]:aq),())) λa=>aj (aj (nt<|aj (nt<|aj (nt a.1)
 (bt x.1 ([46,119,104,46]:aq))
 true)
 (bt x.1 ([46,119,104,46,46]:aq))
 true)
 (bt x.1 ([46,119,104,46,46,46]:aq))
 true)
 (some ((3:Int),([]:aq),()))
 (af (mK (x.1,([46,119,104,46]:aq),())) λb=>aj b.1
 (aj (inside 4 (len x.1)<|len x.1)
 (some ((1:Int),sub x.1 (4:Int)<|minus (len x.1) 4,()))
 none)
 (some ((0:Int),x.1,()))))
def jy(x:Sb×ai):Option (Sb×Sb×ai) :=
 af (dP (x.1,())) (λa=>aj (aX (len a.1) 0)
 (some (([]:aq),([]:aq),()))
 (aj (inside 0 (cC i64 (len a.1) 1)<|len a.1)
 (af (nk (sub a.1 (0:Int)<|minus (cC i64 (len a.1) 1) 0,())) λb=>af (idx a.1<|cC i64 (len a.1) 1) λc=>some (b.1,c,()))
 none))
def ji(x:(List Sb)×(List Sb)×ai)(a:(Bool×Int×ai)×ai):Option X4 :=
 aj (aj (aY a.1.2.1<|len x.1)
 (aY a.1.2.1<|len x.2.1)
 false)
 (af (idx x.1 a.1.2.1) λb=>af (idx x.2.1 a.1.2.1) λc=>aj (nt<|bt b c)
 (some<|Sum.inr (1,(false,a.1.2.1,()),()))
 (some<|Sum.inl ((a.1.1,aF i64 a.1.2.1 1,()),())))
 (some<|Sum.inr (0,(a.1.1,a.1.2.1,()),()))
def eg(x:(List Sb)×(List Sb)×ai):Option (Bool×ai) :=
 aj (nt<|aX (len x.1)<|len x.2.1)
 (some (false,()))
 (af (Loop (ji x) ((false,(0:Int),()),())) λa=>aj (dJ a.1 0)
 (some (true,()))
 (some (a.2.1.1,())))
def np(x:Sb×Sb×ai):Option (Sb×ai) :=
 aj (aj (nt<|bt x.1 ([]:aq))
 (bt x.2.1 ([]:aq))
 true)
 (aj (fits<|plus (len x.1)<|len x.2.1)
 (some (app x.1 x.2.1,()))
 none)
 (aj (fits<|plus (len x.1)<|len ([47]:aq))
 (aj (fits<|plus (len<|app x.1 ([47]:aq))<|len x.2.1)
 (some (app (app x.1 ([47]:aq)) x.2.1,()))
 none)
 none)
def nq(x:Sb×Sb×ai):Option (Sb×ai) :=
 aj (bt x.1 ([]:aq))
 (some (x.2.1,()))
 (aj (bt x.2.1 ([]:aq))
 (some (x.1,()))
 (aj (fits<|plus (len x.1)<|len ([47]:aq))
 (aj (fits<|plus (len<|app x.1 ([47]:aq))<|len x.2.1)
 (some (app (app x.1 ([47]:aq)) x.2.1,()))
 none)
 none))
def jY(b:(List Sb)×ai)(c:(List Sb)×ai)(a:(Bool×Int×ai)×ai):Option X4 :=
 aj (aj (aY a.1.2.1<|len c.1)
 (aY a.1.2.1<|len b.1)
 false)
 (af (idx b.1 a.1.2.1) λd=>af (idx c.1 a.1.2.1) λe=>aj (nt<|bt d e)
 (some<|Sum.inr (1,(false,a.1.2.1,()),()))
 (some<|Sum.inl ((a.1.1,aF i64 a.1.2.1 1,()),())))
 (some<|Sum.inr (0,(a.1.1,a.1.2.1,()),()))
def rV(x:Sb×Sb×ai):Option (Bool×ai) :=
 af (dP (x.1,())) (λa=>af (dP (x.2.1,())) λb=>aj (cu (len a.1)<|len b.1)
 (some (false,()))
 (af (Loop (jY a b) ((false,(0:Int),()),())) λc=>aj (dJ c.1 0)
 (some (true,()))
 (some (c.2.1.1,()))))
def dt(b:(List Sb)×ai)(c:(List Sb)×ai)(a:E6×ai):Option ac1 :=
 aj (aj (aY a.1.2.1<|len b.1)
 (aY a.1.2.1<|len c.1)
 false)
 (af (idx b.1 a.1.2.1) λf=>af (idx c.1 a.1.2.1) λg=>aj (iu f g)
 (some<|Sum.inr (1,((-1:Int),a.1.2.1,()),()))
 (af (idx b.1 a.1.2.1) λd=>af (idx c.1 a.1.2.1) λe=>aj (nt<|Zk (iu d e)<|bt d e)
 (some<|Sum.inr (1,((1:Int),a.1.2.1,()),()))
 (some<|Sum.inl ((a.1.1,aF i64 a.1.2.1 1,()),()))))
 (some<|Sum.inr (0,(a.1.1,a.1.2.1,()),()))
def kZ(x:Sb×Sb×ai):Option (Int×ai) :=
 af (dP (x.1,())) (λa=>af (dP (x.2.1,())) λb=>af (Loop (dt a b) (((0:Int),(0:Int),()),())) λc=>aj (dJ c.1 0)
 (aj (aY (len a.1)<|len b.1)
 (some ((-1:Int),()))
 (aj (aY (len b.1)<|len a.1)
 (some ((1:Int),()))
 (some ((0:Int),()))))
 (some (c.2.1.1,())))
end Go.Ge
namespace Go.Ge
variable [Lp]
set_option maxRecDepth 100000
def fK(x:Sb×ai)(a:(Int×Bool×Int×Int×ai)×ai):Option (((Int×Bool×Int×Int×ai)×ai)⊕(Nat×(Int×Bool×Int×Int×ai)×ai)) :=
 aj (aY a.1.2.2.2.1<|len x.1)
 (af (idx x.1 a.1.2.2.2.1) λc=>af (aj (nt<|aY (u8 c) 48)
 (af (idx x.1 a.1.2.2.2.1) λb=>some (aY 55<|u8 b))
 (some true)) λb=>aj (aj (nt b)
 (aY 1152921504606846975 a.1.2.2.1)
 true)
 (some<|Sum.inr (1,((0:Int),false,a.1.2.2.1,a.1.2.2.2.1,()),()))
 (af (idx x.1 a.1.2.2.2.1) λd=>some (Sum.inl ((a.1.1,a.1.2.1,aF i64 (gX i64 8 a.1.2.2.1)<|jC i64<|cC IntKind.u8 (u8 d) 48,aF i64 a.1.2.2.2.1 1,()),()))))
 (some<|Sum.inr (0,(a.1.1,a.1.2.1,a.1.2.2.1,a.1.2.2.2.1,()),()))
def l7(x:Sb×ai):Option (Int×Bool×ai) :=
 aj (aj (nt<|aY (len x.1) 1)
 (aY 21<|len x.1)
 true)
 (some ((0:Int),false,()))
 (af (Loop (fK x) (((0:Int),false,(0:Int),(0:Int),()),())) λa=>aj (dJ a.1 0)
 (some (a.2.1.2.2.1,true,()))
 (some (a.2.1.1,a.2.1.2.1,())))
end Go.Ge
namespace Go.Ge
variable [Lp]
set_option maxRecDepth 100000
abbrev Gv:=(Int×(List<|Sb×Sb×(List Sb)×Sb×Int×Int×Bool×ai)×(List<|Sb×(List Sb)×Sb×Sb×(List<|Sb×Sb×Sb×ai)×ai)×(List<|Sb×(List Sb)×Sb×Sb×Sb×(List<|Sb×Sb×Sb×ai)×ai)×ai)
abbrev Gw:=(((Bool×Int×ai)×ai)⊕(Nat×(Bool×Int×ai)×ai))
abbrev qf:=(Sb×(List Sb)×ai)
abbrev NA:=((Int×ai)×ai×(List qf)×ai)
abbrev yY:=(Int×Int×ai)
abbrev DF:=(Bool×Int×ai)
def dH(l:List aq)(x:ai):Option (List aq):=bif fits (len l) then some (mC l) else none
def dT(l:List aq)(x:ai):Option (List aq):=some (Lib.compact (α:=aq) l)
def bA(x:(List Sb)×ai):Option ((List Sb)×ai) :=
 bif fits (len x.1) then some (x.1,()) else none
def oO(x:Sb×ai):Option (Bool×ai) :=
 af (aj (aj (cu 1<|len x.1)
 (cu (len x.1) 32)
 false)
 (af (hM (x.1,([97,98,99,100,101,102,103,104,105,106,107,108,109,110,111,112,113,114,115,116,117,118,119,120,121,122,48,49,50,51,52,53,54,55,56,57,46,95,45]:aq),())) λa=>some (bt a.1 ([]:aq)))
 (some false)) (λa=>some (a,()))
def nu(x:(List Sb)×ai)(a:yY×ai):Option ((yY×ai)⊕(Nat×yY×ai)) :=
 aj (aY a.1.2.1<|len x.1)
 (af (idx x.1 a.1.2.1) λb=>af (oO (b,())) λc=>aj (nt c.1)
 (some<|Sum.inr (1,(a.1.2.1,a.1.2.1,()),()))
 (some<|Sum.inl ((a.1.1,aF i64 a.1.2.1 1,()),())))
 (some<|Sum.inr (0,(a.1.1,a.1.2.1,()),()))
def oq(x:(List Sb)×ai):Option (Int×ai) :=
 aj (fits<|len x.1)
 (af (dH x.1 ()) λc=>af (dT c ()) λa=>af (Loop (nu x) (((0:Int),(0:Int),()),())) λb=>aj (dJ b.1 0)
 (aj (aj (nt<|aj (nt<|aY 4<|len x.1)
 (aY (len a)<|len x.1)
 true)
 (cu 0<|-1)
 true)
 (some ((1:Int),()))
 (some ((0:Int),())))
 (aj (aj (nt<|aj (nt<|aY 4<|len x.1)
 (aY (len a)<|len x.1)
 true)
 (cu 0 b.2.1.1)
 true)
 (some ((1:Int),()))
 (some ((0:Int),()))))
 none
def oP(x:(List qf)×Sb×ai)(a:yY×Sb×ai):Option ((yY×Sb×ai)⊕(Nat×yY×Sb×ai)) :=
 aj (aY a.1.2.1<|len x.1)
 (af (idx x.1 a.1.2.1) λb=>aj (bt b.1 a.2.1)
 (some<|Sum.inr (1,(a.1.2.1,a.1.2.1,()),a.2.1,()))
 (some<|Sum.inl ((a.1.1,aF i64 a.1.2.1 1,()),a.2.1,())))
 (some<|Sum.inr (0,(a.1.1,a.1.2.1,()),a.2.1,()))
def tM(x:(List qf)×Sb×ai):Option (Int×ai) :=
 af (Loop (oP x) (((0:Int),(0:Int),()),x.2.1,())) (λa=>aj (dJ a.1 0)
 (some ((-1:Int),()))
 (some (a.2.1.1,())))
def iL(b:Sb×(List Sb)×ai)(a:yY×(List Sb)×ai):Option ((yY×(List Sb)×ai)⊕(Nat×yY×(List Sb)×ai)) :=
 aj (aY a.1.2.1<|len b.2.1)
 (af (idx b.2.1 a.1.2.1) λc=>af (bu (a.2.1,c,())) λd=>aj d.1
 (some<|Sum.inr (1,(a.1.2.1,a.1.2.1,()),a.2.1,()))
 (some<|Sum.inl ((a.1.1,aF i64 a.1.2.1 1,()),a.2.1,())))
 (some<|Sum.inr (0,(a.1.1,a.1.2.1,()),a.2.1,()))
def oQ(x:(List qf)×Sb×(List Sb)×ai)(c:Int×ai)(a:yY×(List Sb)×ai):Option ((yY×(List Sb)×ai)⊕(Nat×yY×(List Sb)×ai)) :=
 aj (aY a.1.2.1<|len x.1)
 (af (idx x.1 a.1.2.1) λd=>aj (nt<|aX a.1.2.1 c.1)
 (af (Loop (iL d) (((0:Int),(0:Int),()),a.2.1,())) λb=>aj (dJ b.1 0)
 (aj (cu 0<|-1)
 (some<|Sum.inr (1,((8:Int),a.1.2.1,()),b.2.2.1,()))
 (some<|Sum.inl ((a.1.1,aF i64 a.1.2.1 1,()),b.2.2.1,())))
 (aj (cu 0 b.2.1.1)
 (some<|Sum.inr (1,((8:Int),a.1.2.1,()),b.2.2.1,()))
 (some<|Sum.inl ((a.1.1,aF i64 a.1.2.1 1,()),b.2.2.1,()))))
 (some<|Sum.inl ((a.1.1,aF i64 a.1.2.1 1,()),a.2.1,())))
 (some<|Sum.inr (0,(a.1.1,a.1.2.1,()),a.2.1,()))
def tN(x:(List qf)×Sb×(List Sb)×ai):Option (Int×ai) :=
 af (oq (x.2.2.1,())) (λa=>aj (nt<|aX a.1 0)
 (some (a.1,()))
 (af (tM (x.1,x.2.1,())) λc=>af (Loop (oQ x c) (((0:Int),(0:Int),()),x.2.2.1,())) λb=>aj (dJ b.1 0)
 (some ((0:Int),()))
 (some (b.2.1.1,()))))
def rW(x:Int×Gv×ai)(a:(Int×ai)×ai×(List qf)×ai):Option (NA⊕NA) :=
 dh (aj (aY a.1.1<|len x.2.1.2.2.2.1)
 (af (idx x.2.1.2.2.2.1 a.1.1) λb=>af (bA (b.2.1,())) λc=>aj (fits<|plus (len a.2.2.1)<|len ([(b.1,c.1,())]:List qf))
 (some<|Sum.inl ((aF i64 a.1.1 1,()),(),app a.2.2.1 ([(b.1,c.1,())]:List qf),()))
 none)
 (some<|Sum.inr (0,(a.1.1,()),(),a.2.2.1,())))
def rX(x:Int×Gv×ai)(a:(Int×ai)×ai×(List qf)×ai):Option (NA⊕NA) :=
 dh (aj (aY a.1.1<|len x.2.1.2.2.1)
 (af (idx x.2.1.2.2.1 a.1.1) λb=>af (bA (b.2.1,())) λc=>aj (fits<|plus (len a.2.2.1)<|len ([(b.1,c.1,())]:List qf))
 (some<|Sum.inl ((aF i64 a.1.1 1,()),(),app a.2.2.1 ([(b.1,c.1,())]:List qf),()))
 none)
 (some<|Sum.inr (0,(a.1.1,()),(),a.2.2.1,())))
def rY(x:Int×Gv×ai)(a:(Int×ai)×ai×(List qf)×ai):Option (NA⊕NA) :=
 dh (aj (aY a.1.1<|len x.2.1.2.1)
 (af (idx x.2.1.2.1 a.1.1) λb=>af (aj b.2.2.2.2.2.2.1
 (af (bA (b.2.2.1,())) λc=>aj (fits<|plus (len a.2.2.1)<|len ([(b.1,c.1,())]:List qf))
 (some ((),b,(),app a.2.2.1 ([(b.1,c.1,())]:List qf),()))
 none)
 (some ((),b,(),a.2.2.1,()))) λc=>some (Sum.inl ((aF i64 a.1.1 1,()),(),c.2.2.2.1,())))
 (some<|Sum.inr (0,(a.1.1,()),(),a.2.2.1,())))
def yg(x:Int×Gv×ai):Option ((List qf)×ai) :=
 af (aj (aX x.1 1)
 (af (Loop (rW x) (((0:Int),()),(),([]:List qf),())) λa=>some ((),(),a.2.2.1,()))
 (af (aj (aX x.1 2)
 (af (Loop (rX x) (((0:Int),()),(),([]:List qf),())) λa=>some ((),(),a.2.2.1,()))
 (af (aj (aX x.1 3)
 (af (Loop (rY x) (((0:Int),()),(),([]:List qf),())) λa=>some ((),(),a.2.2.1,()))
 (some ((),(),([]:List qf),()))) λa=>some ((),(),a.2.2.1,()))) λa=>some ((),(),a.2.2.1,()))) (λa=>some (a.2.2.1,()))
def l8(x:Sb×ai)(a:DF×ai):Option Gw :=
 aj (aY a.1.2.1<|len x.1)
 (af (idx x.1 a.1.2.1) λb=>aj (aj (aj (aj (aj (aj (nt<|aY (u8 b) 97)
 (aY 122<|u8 b)
 true)
 (aj (nt<|aY (u8 b) 48)
 (aY 57<|u8 b)
 true)
 false)
 (nt<|aX (u8 b) 46)
 false)
 (nt<|aX (u8 b) 95)
 false)
 (nt<|aX (u8 b) 45)
 false)
 (some<|Sum.inr (1,(false,a.1.2.1,()),()))
 (some<|Sum.inl ((a.1.1,aF i64 a.1.2.1 1,()),())))
 (some<|Sum.inr (0,(a.1.1,a.1.2.1,()),()))
def mL(x:Sb×ai):Option (Bool×ai) :=
 af (Loop (l8 x) ((false,(0:Int),()),())) (λa=>aj (dJ a.1 0)
 (some (aj (cu 1<|len x.1)
 (cu (len x.1) 32)
 false,()))
 (some (a.2.1.1,())))
def gR(x:(List Sb)×ai)(b:DF×ai)(a:DF×ai):Option Gw :=
 aj (aY a.1.2.1 b.1.2.1)
 (af (idx x.1 a.1.2.1) λc=>af (idx x.1 b.1.2.1) λd=>aj (bt c d)
 (some<|Sum.inr (1,(false,a.1.2.1,()),()))
 (some<|Sum.inl ((a.1.1,aF i64 a.1.2.1 1,()),())))
 (some<|Sum.inr (0,(a.1.1,a.1.2.1,()),()))
def nw(x:(List Sb)×ai)(a:DF×ai):Option Gw :=
 aj (aY a.1.2.1<|len x.1)
 (af (idx x.1 a.1.2.1) λc=>af (mL (c,())) λd=>aj (nt d.1)
 (some<|Sum.inr (1,(false,a.1.2.1,()),()))
 (af (Loop (gR x a) ((a.1.1,(0:Int),()),())) λb=>aj (dJ b.1 0)
 (some<|Sum.inl ((b.2.1.1,aF i64 a.1.2.1 1,()),()))
 (some<|Sum.inr (1,(b.2.1.1,a.1.2.1,()),()))))
 (some<|Sum.inr (0,(a.1.1,a.1.2.1,()),()))
def lG(x:(List Sb)×ai):Option (Bool×ai) :=
 af (Loop (nw x) ((false,(0:Int),()),())) (λa=>aj (dJ a.1 0)
 (some (cu (len x.1) 4,()))
 (some (a.2.1.1,())))
def qg(x:(List Sb)×ai)(a:DF×ai):Option Gw :=
 aj (aj (aY a.1.2.1<|len x.1)
 (aY a.1.2.1 8)
 false)
 (af (idx x.1 a.1.2.1) λb=>aj (aY 100<|len b)
 (some<|Sum.inr (1,(false,a.1.2.1,()),()))
 (some<|Sum.inl ((a.1.1,aF i64 a.1.2.1 1,()),())))
 (some<|Sum.inr (0,(a.1.1,a.1.2.1,()),()))
def kr(x:(List Sb)×ai):Option (Bool×ai) :=
 af (Loop (qg x) ((false,(0:Int),()),())) (λa=>aj (dJ a.1 0)
 (some (cu (len x.1) 8,()))
 (some (a.2.1.1,())))
def ec(x:(List<|Sb×Sb×Sb×ai)×ai)(a:DF×ai):Option Gw :=
 aj (aj (aY a.1.2.1<|len x.1)
 (aY a.1.2.1 8)
 false)
 (af (idx x.1 a.1.2.1) λc=>af (aj (nt<|aY 100<|len c.1)
 (af (idx x.1 a.1.2.1) λb=>some (aY 200<|len b.2.2.1))
 (some true)) λb=>aj b
 (some<|Sum.inr (1,(false,a.1.2.1,()),()))
 (some<|Sum.inl ((a.1.1,aF i64 a.1.2.1 1,()),())))
 (some<|Sum.inr (0,(a.1.1,a.1.2.1,()),()))
def dU(x:(List<|Sb×Sb×Sb×ai)×ai):Option (Bool×ai) :=
 af (Loop (ec x) ((false,(0:Int),()),())) (λa=>aj (dJ a.1 0)
 (some (cu (len x.1) 8,()))
 (some (a.2.1.1,())))
def hU(x:Gv×ai)(a:DF×ai):Option Gw :=
 aj (aj (aY a.1.2.1<|len x.1.2.1)
 (aY a.1.2.1 40)
 false)
 (af (idx x.1.2.1 a.1.2.1) λb=>af (kr (b.2.2.1,())) λc=>aj (nt c.1)
 (some<|Sum.inr (1,(false,a.1.2.1,()),()))
 (some<|Sum.inl ((a.1.1,aF i64 a.1.2.1 1,()),())))
 (some<|Sum.inr (0,(a.1.1,a.1.2.1,()),()))
def hW(x:Gv×ai)(a:DF×ai):Option Gw :=
 aj (aj (aY a.1.2.1<|len x.1.2.2.1)
 (aY a.1.2.1 40)
 false)
 (af (idx x.1.2.2.1 a.1.2.1) λd=>af (kr (d.2.1,())) λe=>af (aj (nt<|nt e.1)
 (af (idx x.1.2.2.1 a.1.2.1) λb=>some (aY 200<|len b.2.2.2.1))
 (some true)) λb=>af (aj (nt b)
 (af (idx x.1.2.2.1 a.1.2.1) λc=>af (dU (c.2.2.2.2.1,())) λf=>some (nt f.1))
 (some true)) λc=>aj c
 (some<|Sum.inr (1,(false,a.1.2.1,()),()))
 (some<|Sum.inl ((a.1.1,aF i64 a.1.2.1 1,()),())))
 (some<|Sum.inr (0,(a.1.1,a.1.2.1,()),()))
def hY(x:Gv×ai)(a:DF×ai):Option Gw :=
 aj (aj (aY a.1.2.1<|len x.1.2.2.2.1)
 (aY a.1.2.1 40)
 false)
 (af (idx x.1.2.2.2.1 a.1.2.1) λd=>af (kr (d.2.1,())) λe=>af (aj (nt<|nt e.1)
 (af (idx x.1.2.2.2.1 a.1.2.1) λb=>some (aY 200<|len b.2.2.2.2.1))
 (some true)) λb=>af (aj (nt b)
 (af (idx x.1.2.2.2.1 a.1.2.1) λc=>af (dU (c.2.2.2.2.2.1,())) λf=>some (nt f.1))
 (some true)) λc=>aj c
 (some<|Sum.inr (1,(false,a.1.2.1,()),()))
 (some<|Sum.inl ((a.1.1,aF i64 a.1.2.1 1,()),())))
 (some<|Sum.inr (0,(a.1.1,a.1.2.1,()),()))
def pF(x:Gv×ai):Option (Bool×ai) :=
 af (Loop (hU x) ((false,(0:Int),()),())) (λa=>aj (dJ a.1 0)
 (af (Loop (hW x) ((a.2.1.1,(0:Int),()),())) λb=>aj (dJ b.1 0)
 (af (Loop (hY x) ((b.2.1.1,(0:Int),()),())) λc=>aj (dJ c.1 0)
 (some (aj (aj (cu (len x.1.2.1) 40)
 (cu (len x.1.2.2.1) 40)
 false)
 (cu (len x.1.2.2.2.1) 40)
 false,()))
 (some (c.2.1.1,())))
 (some (b.2.1.1,())))
 (some (a.2.1.1,())))
end Go.Ge
namespace Go.Ge
variable [Lp]
abbrev Tx:=aq
abbrev Nm:=Tx×List Tx×ai
def DG(l:List Nm)(id:Tx):Int:=match l.findIdx? (λx=>decide (x.1=id)) with|some i=>(i:Int)|none=>-1
theorem aa2{l:List Nm}{id:Tx}{i:Nat}{x:Nm}(b:l[i]?=some x)(c:x.1=id)(d:∀j y,j<i->l[j]?=some y->decide (y.1=id)=false):DG l id=i:=by
 unfold DG;have:l.findIdx? (λx=>decide (x.1=id))=some i:=by
  rw[Zp];obtain⟨e,rfl⟩:=fq.1 b;exact⟨e,by simp[c],λj a=>by have:=d j l[j] a (fN<|by omega);simpa using this⟩
 rw[this]
theorem JU{l:List Nm}{id:Tx}(a:∀(i:Nat) (x:Nm),l[i]?=some x->decide (x.1=id)=false):DG l id=-1:=by
 unfold DG;have:l.findIdx? (λx=>decide (x.1=id))=none:=by
  rw[Zu];intro x b;obtain⟨i,c⟩:=bp.1 b;exact a i x c
 rw[this]
theorem JV(l:List Nm)(id:Tx)(b:l.length<=4294967296):tM (l,id,())=some (DG l id,()):=by
 unfold tM;rcases ko (f:=oP (l,id,())) l (λi=>(((0:Int),i,()),id,())) (λ_ x=>decide (x.1=id)) (λi x=>(1,((i:Int),(i:Int),()),id,())) (0,((0:Int),len l,()),id,()) b (λi x a c d=>by
  unfold oP;dsimp only;rw[ak c,ab,ao a,aa,hJ,d];by_cases h:x.1=id<;>simp[bt,h]) (by unfold oP;dsimp only;rw[ay,ae];rfl) with ⟨i,x,a,e,g,h⟩|⟨j,h⟩
 .rw[h,aa,aa2 a (gM e) g];rfl
 .rw[h,aa,JU j];rfl
theorem zN(l:List Tx)(s:Tx)(c:l.length<=4294967296):bu (l,s,())=some (decide<|s∈l,()):=by
 unfold bu er;dsimp only;rcases ko (f:=bP (l,s,())) l (λi=>(((0:Int),i,()),())) (λ_ x=>decide (x=s)) (λi x=>(1,((i:Int),(i:Int),()),())) (0,((0:Int),len l,()),()) c (λi x a b d=>by
  unfold bP;dsimp only;rw[ak b,ab,ao a,aa,hJ,d];by_cases h:x=s
  .simp[bt,h]
  .have g:¬s=x:=λe=>h e.symm;simp[bt,h,g]) (by unfold bP;dsimp only;rw[ay,ae];rfl) with ⟨i,x,a,j,n,h⟩|⟨k,h⟩
 .rw[h,aa];have:s∈l:=by rw[<-gM j];exact bp.2 ⟨i,a⟩
  rw[dI this];show some (cu 0 (i:Int),())=_
  rw[b6<|by omega]
 .rw[h,aa];have:s∉l:=λm=>by
   obtain⟨i,b⟩:=bp.1 m;have:=k i s b;simp at this
  simp[this,dJ,aj,af,cu]
def Small(l:List Nm):Prop:=l.length<=4294967296/\∀x∈l,x.2.1.length<=4294967296
end Go.Ge
