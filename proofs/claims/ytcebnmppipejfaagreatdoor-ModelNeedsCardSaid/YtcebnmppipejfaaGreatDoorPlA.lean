import Derived.Test.YtcebnmppipejfaaGreatDoorGeK
import Derived.Lib.Repeat
set_option linter.unusedSectionVars false
set_option linter.unusedVariables false
set_option linter.unusedSimpArgs false
noncomputable section
open Go.IntKind (i64 u32)
namespace Go.Ge
variable [Lp]
theorem fE{a b:Int}(h:-9223372036854775808<=a+b)(c:a+b<=9223372036854775807):ax .i64 a b=a+b:=by
 unfold ax;simp[IntKind.wrap,IntKind.min,IntKind.max,IntKind.signed,IntKind.bits];omega
theorem fo{a b:Int}(h:-9223372036854775808<=a-b)(c:a-b<=9223372036854775807):cE .i64 a b=a-b:=by
 unfold cE;simp[IntKind.wrap,IntKind.min,IntKind.max,IntKind.signed,IntKind.bits];omega
theorem Ak{a b:Int}(h:-9223372036854775808<=a*b)(c:a*b<=9223372036854775807):gU .i64 a b=a*b:=by
 unfold gU;simp[IntKind.wrap,IntKind.min,IntKind.max,IntKind.signed,IntKind.bits];omega
theorem Bu{a:Int}(h:-9223372036854775808<=a)(b:a<=9223372036854775807):kq .i64 a=a:=by
 unfold kq;simp[IntKind.wrap,IntKind.min,IntKind.max,IntKind.signed,IntKind.bits];omega
theorem wrap_u32(a:Int):IntKind.wrap .u32 a=a % 4294967296:=by
 simp[IntKind.wrap,IntKind.min,IntKind.max,IntKind.signed,IntKind.bits]
def Bv(x:Int):BitVec 32:=BitVec.ofInt 32 x
def Can(x:Int):Prop:=0<=x/\x<4294967296
theorem T0(a:Int):Can (IntKind.wrap .u32 a):=by rw[wrap_u32];unfold Can;omega
theorem uA(a:Int):((Bv a).toNat:Int)=a % 4294967296:=by
 unfold Bv;rw[abe];have:0<=a % ((2 ^ 32:Nat):Int):=Int.emod_nonneg _ (by decide);rw[aba this];rfl
theorem aeB{a b:Int}(c:Can a)(d:Can b)(h:Bv a=Bv b):a=b:=by
 have e:=uA a;have f:=uA b;rw[h] at e;unfold Can at c d;omega
theorem JX(a:Int):Bv (IntKind.wrap .u32 a)=Bv a:=by
 apply aa6;have c:=uA a;have b:=uA (IntKind.wrap .u32 a);rw[wrap_u32] at b⊢;omega
theorem Wu(v:BitVec 32):Bv (v.toNat:Int)=v:=by
 apply aa6;have a:=uA (v.toNat:Int);have:=v.isLt;omega
theorem bv_and(x y:Int):Bv (jQ .u32 x y)=Bv x &&& Bv y:=by unfold jQ;rw[JX];exact Wu _
theorem Yj(x y:Int):Bv (xc .u32 x y)=Bv x ||| Bv y:=by unfold xc;rw[JX];exact Wu _
theorem acD(x y:Int):Bv (fC .u32 x y)=Bv x ^^^ Bv y:=by unfold fC;rw[JX];exact Wu _
theorem LI(x y:Int):Can (xc .u32 x y):=T0 _
theorem Rf(x y:Int):Can (fC .u32 x y):=T0 _
theorem Wv(x:Int)(n:Nat)(c:n<=32):Bv (lS .u32 x n)=Bv x <<< n:=by
 unfold lS;rw[JX];apply aa6;have a:=uA (x*2 ^ (min (n:Int).toNat IntKind.u32.bits));have b:=uA x;have e:min (n:Int).toNat IntKind.u32.bits=n:=by simp[IntKind.bits];omega
 rw[e] at a⊢;rw[BitVec.toNat_shiftLeft,Nat.shiftLeft_eq];have d:(((Bv x).toNat*2 ^ n % 2 ^ 32:Nat):Int)=(x*2 ^ n) % 4294967296:=by
  rw[Int.natCast_emod,Int.natCast_mul,b,Int.natCast_pow];show(x % 4294967296*2 ^ n) % 4294967296=_
  rw[Int.mul_emod,Int.emod_emod_of_dvd _ (Int.dvd_refl _),<-Int.mul_emod]
 omega
theorem Ww(x y:Int):xc .u32 x y=xc .u32 y x:=aeB (LI _ _) (LI _ _) (by rw[Yj,Yj,BitVec.or_comm])
theorem T1(x y:Int):ax .u32 x y=ax .u32 y x:=by unfold ax;rw[Int.add_comm]
theorem ahP(e f g:Int):fC .u32 g (jQ .u32 e<|fC .u32 f g)=fC .u32 (jQ .u32 e f) (jQ .u32 (fC .u32 4294967295 e) g):=by
 refine aeB (Rf _ _) (Rf _ _) ?_;simp only[acD,bv_and];have h:Bv 4294967295=BitVec.allOnes 32:=by decide
 rw[h]
 ext i hi
 simp only[BitVec.getElem_xor,BitVec.getElem_and,BitVec.getElem_allOnes];cases (Bv e)[i]<;>cases (Bv f)[i]<;>cases (Bv g)[i]<;>rfl
theorem agn(a b c:Int):xc .u32 (jQ .u32 a b) (jQ .u32 c<|xc .u32 a b)=fC .u32 (fC .u32 (jQ .u32 a b)<|jQ .u32 a c) (jQ .u32 b c):=by
 refine aeB (LI _ _) (Rf _ _) ?_;simp only[acD,bv_and,Yj]
 ext i hi
 simp only[BitVec.getElem_xor,BitVec.getElem_and,BitVec.getElem_or];cases (Bv a)[i]<;>cases (Bv b)[i]<;>cases (Bv c)[i]<;>rfl
theorem aeC(a b c d:Int):xc .u32 (lS .u32 (xc .u32 (lS .u32 (xc .u32 (lS .u32 (xc .u32 (lS .u32 0 8) a) 8) b) 8) c) 8) d=xc .u32 (xc .u32 (xc .u32 (lS .u32 a 24)<|lS .u32 b 16)<|lS .u32 c 8) d:=by
 refine aeB (LI _ _) (LI _ _) ?_;have g:∀x,Bv (lS .u32 x 8)=Bv x <<< 8:=λx=>Wv x 8 (by decide);have e:∀x,Bv (lS .u32 x 16)=Bv x <<< 16:=λx=>Wv x 16 (by decide);have f:∀x,Bv (lS .u32 x 24)=Bv x <<< 24:=λx=>Wv x 24 (by decide);simp only[Yj,g,e,f];have z:Bv 0=0#32:=by decide
 rw[z];simp[BitVec.shiftLeft_or_distrib,<-BitVec.shiftLeft_add]
theorem aU{a b:Int}(h:a<b):aO a b=true:=by simp[aO,h]
theorem aD{a b:Int}(h:b<=a):aO a b=false:=by simp[aO];omega
theorem cr{a b:Int}(h:a<=b):ca a b=true:=by simp[ca,h]
theorem eu{a b:Int}(h:b<a):ca a b=false:=by simp[ca];omega
theorem aW{a b:Int}(h:a=b):aL a b=true:=by simp[aL,h]
theorem aF{a b:Int}(h:a≠b):aL a b=false:=by simp[aL,h]
theorem br{i n:Int}(a:0<=i)(b:i<n):within i n=true:=by simp[within,a,b]
theorem aY{i j n:Int}(a:0<=i)(b:i<=j)(c:j<=n):inside i j n=true:=by simp[inside,a,b,c]
theorem dA{n:Int}(h:n<=4294967296):fits n=true:=by simp[fits,h]
theorem cX{S:Type}(s:S):cA (some (.inl s:S⊕(Nat×S)))=some (.inl s):=rfl
theorem dG{S:Type}(n:Nat)(s:S):cA (some (.inr (n,s):S⊕(Nat×S)))=some (.inr s):=rfl
theorem e7{a:Type}(l:List a)(d:a){i:Nat}(h:i<l.length):idx l (i:Int)=some (l.getD i d):=by
 rw[vw,jE h,Qg,jE h];rfl
theorem lW{a:Type}(l:List a)(d:a){i:Int}{k:Nat}(e:i=k)(h:k<l.length):idx l i=some (l.getD k d):=by subst e;exact e7 l d h
theorem pI{a:Type}(l:List a)(i:Nat)(x:a):jF l (i:Int) x=l.set i x:=by simp[jF]
def vf{d c R:Type}(a:Nat->c->d->Option (c⊕R))(b:Nat->c->R):List d->Nat->c->Option R
 | [],i,s=>some (b i s)
 | x::r,i,s=>match a i s x with
   | none=>none
   | some (.inl e)=>vf a b r (i+1) e
   | some (.inr y)=>some y
theorem uB{p j S R:Type}{f:S->Option (S⊕R)}(l:List p)(m:j->Nat->S)(a:Nat->j->p->Option (j⊕R))(c:Nat->j->R)(b:Nat->j->Prop)
  (d:∀s i x,l[i]?=some x->i<l.length->b i s->f (m s i)=(a i s x).map λq=>match q with|.inl e=>.inl (m e<|i+1)|.inr y=>.inr y)
  (n:∀s i x e,l[i]?=some x->b i s->a i s x=some (.inl e)->b (i+1) e)
  (o:∀s,b l.length s->f (m s l.length)=some (.inr<|c l.length s)) (g:∀s i x,l[i]?=some x->b i s->a i s x≠none) :
  ∀s,b 0 s->Loop f (m s 0)=vf a c l 0 s:=by
 have key:∀(rest pre:List p) (s:j),l=pre++rest->b pre.length s->Loop f (m s pre.length)=vf a c rest pre.length s:=by
  intro rest;induction rest with
  | nil =>
    intro pre s k h;rw[wX] at k;subst k;rw[aR,o s h];rfl
  | cons x r v =>
    intro pre s k h;have hx:l[pre.length]?=some x:=by rw[k];simp
    have t:pre.length<l.length:=by rw[k];simp
    rw[aR,d s pre.length x hx t h];unfold vf;cases u:a pre.length s x with
    | none=>exact absurd u (g s _ x hx h)
    | some q =>
      cases q with
      | inr y=>rfl
      | inl e =>
        have:=v (pre++[x]) e (by rw[k];simp) (by rw[iP];exact n s _ x e hx h u);rw[iP] at this;exact this
 intro s h;exact key l [] s rfl h
theorem EP{a:Type}(i:Nat)(l:List a):aO (i:Int) (len l)=decide (i<l.length):=by simp[aO,len]
theorem ER{a:Type}(l:List a):aO (0:Int) (len l)=decide (0<l.length):=EP 0 l
theorem JY{a:Type}(i:Nat)(l:List a):ca (len l) (i:Int)=decide (l.length<=i):=by simp[ca,len]
theorem T2{a b:Type}(l:List a)(m:List b):aO (len l) (len m)=decide (l.length<m.length):=by simp[aO,len]
theorem LJ{a b:Type}(l:List a)(m:List b):ca (len l) (len m)=decide (l.length<=m.length):=by simp[ca,len]
theorem acE{a b:Type}(l:List a)(m:List b):aL (len l) (len m)=decide (l.length=m.length):=by unfold aL len;apply ky.2;omega
theorem b7{a b:Type}{l:List a}{m:List b}(h:l.length+m.length<=4294967296):fits (plus (len l)<|len m)=true:=by
 apply dA;simp only[plus,len];omega
theorem gX{a:Type}(c:Bool)(x y:a):aj c x y=if c=true then x else y:=by cases c<;>rfl
theorem Yk{a b:aq}:bz a b=decide (a=b):=rfl
theorem cw{a b:aq}(h:a≠b):bz a b=false:=by simp[bz,h]
theorem fF{a b:aq}(h:a=b):bz a b=true:=by simp[bz,h]
theorem Cl{c:UInt8}{n:UInt8}:aL (u8 c) (n.toNat:Int)=decide (c=n):=by
 unfold aL u8;by_cases h:c=n
 .simp[h]
 .have:c.toNat≠n.toNat:=λe=>h (SL.1 e);simp[h];omega
theorem jU{a:Type}(l:List a)(n:Nat):sub l 0 (minus (n:Int) 0)=l.take n:=by
 unfold sub minus;simp
theorem PE{a b:Type}(l:List a)(m:List b):sub l 0 (minus (len m) 0)=l.take m.length:=jU l m.length
theorem pJ{a:Type}(l:List a)(n:Nat)(h:n<=l.length):sub l (n:Int) (minus (len l) (n:Int))=l.drop n:=by
 unfold sub minus len;rw[rK];apply zN;rw[ma];omega
theorem eJ:cR 0 0=true:=rfl
theorem jI:cR 1 0=false:=rfl
theorem aG{a:Type}{l:List a}{i:Nat}{x:a}(h:l[i]?=some x):i<l.length:=(ix.1 h).1
theorem sub_one{a:Type}{l:List a}{i:Nat}{x:a}(h:l[i]?=some x):sub l (i:Int) (minus ((i+1:Nat):Int) (i:Int))=[x]:=by
 unfold sub minus;rw[show((i+1:Nat):Int)-(i:Int)=1 by omega,rK];obtain⟨b,rfl⟩:=ix.1 h;rw[BJ b];rfl
theorem Wx{a b n:Nat}(h:a<=b)(k:b<=n):inside (a:Int) (b:Int) (n:Int)=true:=aY (by omega) (by omega) (by omega)
theorem qE{c:Type}{a b:Nat}{l:List c}(h:a<=b)(k:b<=l.length):inside (a:Int) (b:Int) (len l)=true:=Wx h k
theorem az{a:Type}{l:List a}{i:Nat}{x:a}(h:l[i]?=some x):idx l (i:Int)=some x:=by rw[vw,h]
theorem au{a:Type}{l:List a}{i:Nat}(h:i<l.length):aO (i:Int) (len l)=true:=by rw[EP,cd h]
theorem aB{a:Type}{l:List a}:aO (l.length:Int) (len l)=false:=by rw[EP,dL (by omega)]
theorem Dh{a:Type}(l m:List a):app l m=l++m:=rfl
theorem Yl(b:Bool):nt b=!b:=rfl
theorem bM{a:Type}(l:List a):len l=(l.length:Int):=rfl
theorem aeD(y:aq):jH [] y=decide (y≠[]):=by cases y<;>simp[jH,Op.bytesLess]
theorem LK(x:aq):jH x []=false:=by cases x<;>simp[jH,Op.bytesLess]
theorem ES(a b:UInt8)(x y:aq):jH (a::x) (b::y)=(decide (a<b)||(a==b&&jH x y)):=by simp[jH,Op.bytesLess]
theorem ZK(a:UInt8):¬a<a:=UInt8.lt_irrefl a
theorem ago(a b:UInt8):a<b\/a=b\/b<a:=by
 rcases SH a.toNat b.toNat with h|h|h
 .exact .inl h
 .exact .inr (.inl<|SL.1 h)
 .exact .inr (.inr h)
theorem mx:∀x:aq,jH x x=false:=by
 intro x;induction x with
 | nil=>rfl
 | cons a x b=>rw[ES,b];simp[ZK]
theorem Gq:∀{x y z:aq},jH x y=true->jH y z=true->jH x z=true:=by
 intro x;induction x with
 | nil =>
   intro y z h k;cases z with
   | nil=>rw[LK] at k;cases k
   | cons c z=>rfl
 | cons a x d =>
   intro y z h k;cases y with
   | nil=>rw[LK] at h;cases h
   | cons b y =>
     cases z with
     | nil=>rw[LK] at k;cases k
     | cons c z =>
       rw[ES] at h k⊢;simp only[x7,nI,dF,XU] at h k⊢;rcases h with h|⟨rfl,h⟩
       .rcases k with k|⟨rfl,k⟩
        .exact .inl (UInt8.lt_trans h k)
        .exact .inl h
       .rcases k with k|⟨rfl,k⟩
        .exact .inl k
        .exact .inr ⟨rfl,d h k⟩
theorem JZ:∀(x y:aq),jH x y=true\/x=y\/jH y x=true:=by
 intro x;induction x with
 | nil=>intro y;cases y<;>simp[aeD]
 | cons a x c =>
   intro y;cases y with
   | nil=>exact .inr (.inr rfl)
   | cons b y =>
     rw[ES,ES];simp only[x7,nI,dF,XU];rcases ago a b with h|rfl|h
     .exact .inl (.inl h)
     .rcases c y with h|rfl|h
      .exact .inl (.inr ⟨rfl,h⟩)
      .exact .inr (.inl rfl)
      .exact .inr (.inr<|.inr ⟨rfl,h⟩)
     .exact .inr (.inr<|.inl h)
theorem xC{x y:aq}(h:jH x y=true):jH y x=false:=by
 cases k:jH y x with
 | false=>rfl
 | true=>have:=Gq h k;rw[mx] at this;cases this
theorem Rg{x y:aq}(h:jH x y=true):x≠y:=λe=>by rw[e,mx] at h;cases h
theorem agp(x y:aq):nt (oor (jH x y)<|bz x y)=jH y x:=by
 rcases JZ x y with h|rfl|h
 .rw[h,xC h];rfl
 .rw[rW,mx];rfl
 .rw[h,xC h,cw λe=>Rg h e.symm];rfl
def cmpL:List aq->List aq->Int
 | [],[]=>0
 | [],_::_=>-1
 | _::_,[]=>1
 | a::x,b::y=>if a=b then cmpL x y else if jH a b=true then -1 else 1
theorem oX:∀x,cmpL x x=0:=by
 intro x;induction x with
 | nil=>rfl
 | cons a x b=>rw[cmpL,bd rfl];exact b
theorem ZL:∀{x y},cmpL x y=0->x=y:=by
 intro x;induction x with
 | nil=>intro y h;cases y with|nil=>rfl|cons b y=>cases h
 | cons a x c =>
   intro y h;cases y with
   | nil=>cases h
   | cons b y =>
     rw[cmpL] at h;split at h
     .rename_i e;rw[e,c h]
     .split at h<;>cases h
theorem acF:∀x y,cmpL x y=- cmpL y x:=by
 intro x;induction x with
 | nil=>intro y;cases y<;>rfl
 | cons a x c =>
   intro y;cases y with
   | nil=>rfl
   | cons b y =>
     rw[cmpL,cmpL];by_cases e:a=b
     .rw[bd e,bd e.symm,c y]
     .have d:¬b=a:=λq=>e q.symm;rw[bb e,bb d];rcases JZ a b with h|h|h
      .rw[bd h,bb (by rw[xC h];simp)]
      .exact absurd h e
      .rw[bb<|by rw[xC h];simp,bd h];rfl
theorem uC:∀{x y z},cmpL x y<0->cmpL y z<0->cmpL x z<0:=by
 intro x;induction x with
 | nil =>
   intro y z h k;cases z with
   | nil=>cases y with|nil=>exact absurd k (by simp[cmpL])|cons b y=>exact absurd k (by simp[cmpL])
   | cons c z=>exact(by decide:(-1:Int)<0)
 | cons a x j =>
   intro y z h k;cases y with
   | nil=>exact absurd h (by simp[cmpL])
   | cons b y =>
     cases z with
     | nil=>exact absurd k (by simp[cmpL])
     | cons c z =>
       rw[cmpL] at h k⊢;by_cases e:a=b
       .subst e;rw[bd rfl] at h;by_cases d:a=c
        .subst d;rw[bd rfl] at k⊢;exact j h k
        .rw[bb d] at k⊢;exact k
       .rw[bb e] at h;have g:jH a b=true:=by
         cases q:jH a b with
         | true=>rfl
         | false=>rw[q,bb (by simp)] at h;exact absurd h (by decide)
        by_cases d:b=c
        .subst d;rw[bb e];exact h
        .rw[bb d] at k;have i:jH b c=true:=by
          cases q:jH b c with
          | true=>rfl
          | false=>rw[q,bb (by simp)] at k;exact absurd k (by decide)
         have f:=Gq g i;rw[bb<|Rg f,bd f];decide
theorem agq{a b:Type}{x:List a}{y:List b}{i:Nat}{p:a×b}(h:(x.zip y)[i]?=some p):x[i]?=some p.1/\y[i]?=some p.2:=by
 rw[Xy] at h;exact h
theorem acG{c:Type}[DecidableEq c]:∀(x y:List c),(x.zip y).all (λp=>decide (p.1=p.2))=decide (x.take (min x.length y.length)=y.take (min x.length y.length)):=by
 intro x;induction x with
 | nil=>intro y;simp
 | cons a x d =>
   intro y;cases y with
   | nil=>simp
   | cons b y =>
     rw[List.zip_cons_cons,O8,d y];simp only[dW,Nat.add_min_add_right,XF];by_cases e:a=b
     .subst e;simp
     .simp[e]
theorem ob{a b:Type}{o:Option a}{x:a}{f:a->Option b}{r:Option b}(h:o=some x)(k:f x=r):ab o f=r:=by rw[h];exact k
theorem acH{f:Type}(l:List f)(p:Nat->f->Bool) :
  (∃i x,l[i]?=some x/\p i x=true/\∀j y,j<i->l[j]?=some y->p j y=false)\/∀i x,l[i]?=some x->p i x=false:=by
 by_cases h:∃i x,l[i]?=some x/\p i x=true
 .left;have key:∀n i x,i<=n->l[i]?=some x->p i x=true->∃i x,l[i]?=some x/\p i x=true/\∀j y,j<i->l[j]?=some y->p j y=false:=by
   intro n;induction n with
   | zero =>
     intro i x g a b;obtain rfl:i=0:=by omega
     exact⟨0,x,a,b,λj y d=>by omega⟩
   | succ n m =>
     intro i x g a b;by_cases k:∃j y,j<i/\l[j]?=some y/\p j y=true
     .obtain⟨j,y,d,e,c⟩:=k;exact m j y (by omega) e c
     .refine⟨i,x,a,b,λj y d e=>?_⟩;cases c:p j y with
      | false=>rfl
      | true=>exact absurd ⟨j,y,d,e,c⟩ k
  obtain⟨i,x,a,b⟩:=h;exact key i i x (cD _) a b
 .right;intro i x a;cases c:p i x with
  | false=>rfl
  | true=>exact absurd ⟨i,x,a,c⟩ h
theorem qF{o S R:Type}{f:S->Option (S⊕R)}(l:List o)(b:Int->S)(p:Nat->o->Bool)(c:Nat->o->R)(d:R)(s:l.length<=4294967296)
  (a:∀i x,l[i]?=some x->i<l.length->ax .i64 (i:Int) 1=((i+1:Nat):Int)->f (b (i:Int))=some (if p i x=true then .inr (c i x) else .inl (b ((i+1:Nat):Int))))
  (g:f (b (l.length:Int))=some (.inr d)) :
  (∃i x,l[i]?=some x/\p i x=true/\(∀j y,j<i->l[j]?=some y->p j y=false)/\Loop f (b 0)=some (c i x))\/((∀i x,l[i]?=some x->p i x=false)/\Loop f (b 0)=some d):=by
 have h:∀i x,l[i]?=some x->p i x=false->f (b (i:Int))=some (.inl<|b ((i+1:Nat):Int)):=λi x e n=>by
  have hi:=aG e;rw[a i x e hi<|aT<|by omega,n];rfl
 rcases acH l p with ⟨i,x,e,n,k⟩|r
 .left;refine⟨i,x,e,n,k,?_⟩;have hi:=aG e;refine cq i (λj:Nat=>b (j:Int)) (λj q=>?_) ?_
  .have m:j<l.length:=by omega
   exact h j l[j] (jE m) (k j _ q<|jE m)
  .rw[a i x e hi<|aT<|by omega,n];rfl
 .right;refine⟨r,cq l.length (λj:Nat=>b (j:Int)) (λj k=>?_) g⟩;exact h j l[j] (jE k) (r j _<|jE k)
theorem sz{q S R:Type}{f:S->Option (S⊕R)}(l:List q)(n:Nat)(d:Int->S)(p:Nat->q->Bool)(a:Nat->q->R)(b:Nat->R)(u:min n l.length<=4294967296)
  (c:∀i x,l[i]?=some x->i<l.length->i<n->ax .i64 (i:Int) 1=((i+1:Nat):Int)->f (d (i:Int))=some (if p i x=true then .inr (a i x) else .inl (d ((i+1:Nat):Int))))
  (e:f (d ((min n l.length:Nat):Int))=some (.inr<|b<|min n l.length)) :
  (∃i x,i<n/\l[i]?=some x/\p i x=true/\(∀j y,j<i->l[j]?=some y->p j y=false)/\Loop f (d 0)=some (a i x))\/((∀i x,i<n->l[i]?=some x->p i x=false)/\Loop f (d 0)=some (b<|min n l.length)):=by
 have m:∀i x,(l.take n)[i]?=some x↔(i<n/\l[i]?=some x):=λi x=>by
  rw[gm];by_cases h:i<n
  .simp[h]
  .simp[h]
 have hlen:(l.take n).length=min n l.length:=gM;rcases qF (f:=f) (l.take n) d p a (b<|min n l.length) (by rw[hlen];exact u) (λi x g t k=>by
  obtain⟨r,o⟩:=(m i x).1 g;exact c i x o (aG o) r k) (by rw[hlen];exact e) with ⟨i,x,g,v,w,h⟩|⟨z,h⟩
 .obtain⟨r,o⟩:=(m i x).1 g;exact .inl ⟨i,x,r,o,v,λj y s A=>w j y s ((m j y).2 ⟨by omega,A⟩),h⟩
 .exact .inr ⟨λi x t g=>z i x ((m i x).2 ⟨t,g⟩),h⟩
theorem PF{n e S R:Type}{f:S->Option (S⊕R)}(l:List n)(j:e->Int->S)(b:e->Nat->n->e)(g:e->R)(c:e->Nat->Prop)(B:l.length<=4294967296)
  (h:∀s i x,l[i]?=some x->i<l.length->ax .i64 (i:Int) 1=((i+1:Nat):Int)->c s i->f (j s (i:Int))=some (.inl<|j (b s i x) ((i+1:Nat):Int))/\c (b s i x) (i+1))
  (k:∀s,c s l.length->f (j s (l.length:Int))=some (.inr<|g s)) (s:e) (v:c s 0):∃t,c t l.length/\Loop f (j s 0)=some (g t)/\t=(l.zipIdx).foldl (λa p=>b a p.2 p.1) s:=by
 have key:∀(rest pre:List n) (s:e),l=pre++rest->c s pre.length->∃t,c t l.length/\Loop f (j s (pre.length:Int))=some (g t)/\t=(rest.zipIdx pre.length).foldl (λa p=>b a p.2 p.1) s:=by
  intro rest;induction rest with
  | nil =>
    intro pre s d m;rw[wX] at d;subst d;exact⟨s,m,by rw[aR,k s m];rfl,rfl⟩
  | cons x r w =>
    intro pre s d m;have hx:l[pre.length]?=some x:=by rw[d];simp
    have o:=aG hx;obtain⟨y,z⟩:=h s pre.length x hx o (aT<|by omega) m;obtain⟨t,A,q,u⟩:=w (pre++[x]) (b s pre.length x) (by rw[d];simp) (by rw[iP];exact z);rw[iP] at q u;exact⟨t,A,by rw[aR,y];exact q,u⟩
 exact key l [] s rfl v
theorem nP{e h S R:Type}{f:S->Option (S⊕R)}(l:List e)(b:List h->Int->S)(g:e->List h)(c:R)(m:l.length<=4294967296)
  (a:∀i x,l[i]?=some x->i<l.length->ax .i64 (i:Int) 1=((i+1:Nat):Int)->f (b ((l.take i).flatMap g) (i:Int))=some (.inl<|b ((l.take i).flatMap g++g x) ((i+1:Nat):Int)))
  (d:f (b (l.flatMap g) (l.length:Int))=some (.inr c)):Loop f (b [] 0)=some c:=by
 refine cq l.length (λj:Nat=>b ((l.take j).flatMap g) (j:Int)) (λj k=>?_) (by simp only[Iw];exact d);have hx:l[j]?=some l[j]:=jE k;have:=a j l[j] hx k (aT<|by omega);rw[this,Qk,hx,List.flatMap_append];simp
theorem gY{a:Type}{l:List a}(h:l.length<=4294967296):fits (len l)=true:=ZF h
theorem bR{a:Type}{l:List a}{x:a}:x∈l↔∃i:Nat,l[i]?=some x:=by rw[OZ]
end Go.Ge
namespace Go.Ge
abbrev Sb:=aq
variable [Lp]
def iV:(Ty.pair .str<|.pair (.int .u8) .unit).den->Option (Ty.pair (.int .i64) .unit).den:=λx=>some (Lib.indexByte x.1 (show Int from x.2.1).toNat.toUInt8,())
def fq(s:aq)(c:Int):Option aq:=if c<0\/140737488355328<s.length*c.toNat then none else some (Lib.repeatL s c.toNat)
def mV:aq×Int×ai->Option (aq×ai):=λx=>(fq x.1 x.2.1).map λy=>(y,())
theorem ql{s:aq}{c:Int}{y:aq}(h:fq s c=some y):0<=c/\s.length*c.toNat<=140737488355328/\y=Lib.repeatL s c.toNat:=by
 unfold fq at h;split at h
 .cases h
 .next a =>
  have:=aE h;exact⟨by omega,by omega,this.symm⟩
theorem Al{s:aq}{c:Int}{y:aq}(h:fq s c=some y):y.length<=maxLen:=by
 obtain⟨_,a,rfl⟩:=ql h;rw[Lib.repeatL_length,SN];exact iz a (by decide)
def zi:aq×aq×ai->Option ((List aq)×ai):=λx=>(JW x.1 x.2.1).map λy=>(y,())
def uD:(List aq)×aq×ai->Option (aq×ai):=λx=>(Rc x.1 x.2.1).map λy=>(y,())
set_option maxRecDepth 100000
abbrev Di:=((Bool×(List<|Int)×ai)×(List<|Int)×Int×ai)
abbrev LL:=(((Int×ai)×(List<|Int)×ai)⊕((Int×ai)×(List<|Int)×ai))
abbrev aeE:=(Int×Int×Int×Int×Int×Int×Int×Int×Int×ai)
abbrev Rh:=((List<|Int)×ai)
def rY(x:ai):Option Rh :=
 some (([(1779033703:Int),3144134277,1013904242,2773480762,1359893119,2600822924,528734635,1541459225]:List (Int)),())
def Am(x:ai):Option Rh :=
 some (([(1116352408:Int),1899447441,3049323471,3921009573,961987163,1508970993,2453635748,2870763221,3624381080,310598401,607225278,1426881987,1925078388,2162078206,2614888103,3248222580,3835390401,4022224774,264347078,604807628,770255983,1249150122,1555081692,1996064986,2554220882,2821834349,2952996808,3210313671,3336571891,3584528711,113926993,338241895,666307205,773529912,1294757372,1396182291,1695183700,1986661051,2177026350,2456956037,2730485921,2820302411,3259730800,3345764771,3516065817,3600352804,4094571909,275423344,430227734,506948616,659060556,883997877,958139571,1322822218,1537002063,1747873779,1955562222,2024104815,2227730452,2361852424,2428436474,2756734187,3204031479,3329325298]:List (Int)),())
def jv(x:Int×Int×ai):Option (Int×ai) :=
 aj (aO (jQ IntKind.u64 (kq IntKind.u64 x.2.1) 31) 0)
 none
 (aj (aO (cE IntKind.u64 32<|jQ IntKind.u64 (kq IntKind.u64 x.2.1) 31) 0)
 none
 (some (xc u32 (lS u32 x.1<|jQ IntKind.u64 (kq IntKind.u64 x.2.1) 31)<|mQ u32 x.1<|cE IntKind.u64 32<|jQ IntKind.u64 (kq IntKind.u64 x.2.1) 31,())))
def bZ(x:Int×Int×ai):Option (Int×ai) :=
 ab (jv (x.1,cE i64 0 x.2.1,())) (λa=>some (a.1,()))
def iW(x:(List<|Int)×ai)(a:(Int×ai)×(List<|Int)×ai)(b:(Int×ai)×(List<|Int)×ai):Option LL :=
 cA (aj (aO b.1.1<|minus (ax i64 (gU i64 4 a.1.1) 4)<|gU i64 4 a.1.1)
 (aj (within b.1.1<|minus (ax i64 (gU i64 4 a.1.1) 4)<|gU i64 4 a.1.1)
 (ab (idx x.1<|plus (gU i64 4 a.1.1) b.1.1) λc=>aj (within a.1.1 64)
 (ab (idx b.2.1 a.1.1) λd=>aj (aO 8 0)
 none
 (aj (within a.1.1 64)
 (ab (idx b.2.1 a.1.1) λe=>ab (idx b.2.1 a.1.1) λf=>ab (idx b.2.1 a.1.1) λg=>some (Sum.inl ((ax i64 b.1.1 1,()),jF b.2.1 a.1.1<|xc u32 (lS u32 d 8)<|kq u32 c,())))
 none))
 none)
 none)
 (some<|Sum.inr (0,(b.1.1,()),b.2.1,())))
def iX(x:(List<|Int)×ai)(a:(Int×ai)×(List<|Int)×ai):Option LL :=
 cA (aj (aO a.1.1 16)
 (aj (inside (gU i64 4 a.1.1) (ax i64 (gU i64 4 a.1.1) 4) 64)
 (ab (Loop (iW x a) (((0:Int),()),a.2.1,())) λb=>some (Sum.inl ((ax i64 a.1.1 1,()),b.2.1,())))
 none)
 (some<|Sum.inr (0,(a.1.1,()),a.2.1,())))
def iY(a:(Int×ai)×(List<|Int)×ai):Option LL :=
 cA (aj (aO a.1.1 64)
 (aj (within (cE i64 a.1.1 2) 64)
 (ab (idx a.2.1<|cE i64 a.1.1 2) λb=>aj (within (cE i64 a.1.1 15) 64)
 (ab (idx a.2.1<|cE i64 a.1.1 15) λc=>ab (bZ (c,(7:Int),())) λe=>ab (bZ (c,(18:Int),())) λf=>aj (aO 3 0)
 none
 (ab (bZ (b,(17:Int),())) λg=>ab (bZ (b,(19:Int),())) λh=>aj (aO 10 0)
 none
 (aj (within (cE i64 a.1.1 7) 64)
 (ab (idx a.2.1<|cE i64 a.1.1 7) λi=>aj (within (cE i64 a.1.1 16) 64)
 (ab (idx a.2.1<|cE i64 a.1.1 16) λd=>aj (within a.1.1 64)
 (ab (idx a.2.1 a.1.1) λj=>ab (idx a.2.1 a.1.1) λk=>ab (idx a.2.1 a.1.1) λl=>some (Sum.inl ((ax i64 a.1.1 1,()),jF a.2.1 a.1.1<|ax u32 (ax u32 (ax u32 (fC u32 (fC u32 g.1 h.1)<|mQ u32 b 10) i)<|fC u32 (fC u32 e.1 f.1)<|mQ u32 c 3) d,())))
 none)
 none)
 none)))
 none)
 none)
 (some<|Sum.inr (0,(a.1.1,()),a.2.1,())))
def pK(x:(List<|Int)×ai):Option Rh :=
 ab (Loop (iX x) (((0:Int),()),([(0:Int),0,0,0,0,0,0,0,0,0,0,0,0,0,0,0,0,0,0,0,0,0,0,0,0,0,0,0,0,0,0,0,0,0,0,0,0,0,0,0,0,0,0,0,0,0,0,0,0,0,0,0,0,0,0,0,0,0,0,0,0,0,0,0]:List (Int)),())) (λa=>ab (Loop (iY) (((16:Int),()),a.2.1,())) λb=>some (b.2.1,()))
def fc(j:(List<|Int)×ai)(k:(List<|Int)×ai)(a:aeE×ai):Option ((aeE×ai)⊕(aeE×ai)) :=
 cA (aj (aO a.1.2.2.2.2.2.2.2.2.1 64)
 (ab (bZ (a.1.2.2.2.2.1,(6:Int),())) λb=>ab (bZ (a.1.2.2.2.2.1,(11:Int),())) λc=>ab (bZ (a.1.2.2.2.2.1,(25:Int),())) λd=>aj (within a.1.2.2.2.2.2.2.2.2.1 64)
 (ab (idx j.1 a.1.2.2.2.2.2.2.2.2.1) λe=>aj (within a.1.2.2.2.2.2.2.2.2.1 64)
 (ab (idx k.1 a.1.2.2.2.2.2.2.2.2.1) λf=>ab (bZ (a.1.1,(2:Int),())) λg=>ab (bZ (a.1.1,(13:Int),())) λh=>ab (bZ (a.1.1,(22:Int),())) λi=>some (Sum.inl ((ax u32 (ax u32 (ax u32 (ax u32 (ax u32 a.1.2.2.2.2.2.2.2.1<|fC u32 (fC u32 b.1 c.1) d.1)<|fC u32 a.1.2.2.2.2.2.2.1<|jQ u32 a.1.2.2.2.2.1<|fC u32 a.1.2.2.2.2.2.1 a.1.2.2.2.2.2.2.1) e) f)<|ax u32 (fC u32 (fC u32 g.1 h.1) i.1)<|xc u32 (jQ u32 a.1.1 a.1.2.1)<|jQ u32 a.1.2.2.1<|xc u32 a.1.1 a.1.2.1,a.1.1,a.1.2.1,a.1.2.2.1,ax u32 a.1.2.2.2.1<|ax u32 (ax u32 (ax u32 (ax u32 a.1.2.2.2.2.2.2.2.1<|fC u32 (fC u32 b.1 c.1) d.1)<|fC u32 a.1.2.2.2.2.2.2.1<|jQ u32 a.1.2.2.2.2.1<|fC u32 a.1.2.2.2.2.2.1 a.1.2.2.2.2.2.2.1) e) f,a.1.2.2.2.2.1,a.1.2.2.2.2.2.1,a.1.2.2.2.2.2.2.1,ax i64 a.1.2.2.2.2.2.2.2.2.1 1,()),())))
 none)
 none)
 (some<|Sum.inr (0,(a.1.1,a.1.2.1,a.1.2.2.1,a.1.2.2.2.1,a.1.2.2.2.2.1,a.1.2.2.2.2.2.1,a.1.2.2.2.2.2.2.1,a.1.2.2.2.2.2.2.2.1,a.1.2.2.2.2.2.2.2.2.1,()),())))
def gj(b:aeE×ai)(a:(Int×ai)×Di×ai):Option (((Int×ai)×Di×ai)⊕((Int×ai)×Di×ai)) :=
 cA (aj (aO a.1.1 8)
 (ab (idx ([b.1.1,b.1.2.1,b.1.2.2.1,b.1.2.2.2.1,b.1.2.2.2.2.1,b.1.2.2.2.2.2.1,b.1.2.2.2.2.2.2.1,b.1.2.2.2.2.2.2.2.1]:List (Int)) a.1.1) λc=>aj (within a.1.1 8)
 (ab (idx a.2.1.1.2.1 a.1.1) λd=>aj (within a.1.1 8)
 (ab (idx a.2.1.1.2.1 a.1.1) λe=>ab (idx a.2.1.1.2.1 a.1.1) λf=>ab (idx a.2.1.1.2.1 a.1.1) λg=>some (Sum.inl ((ax i64 a.1.1 1,()),((a.2.1.1.1,jF a.2.1.1.2.1 a.1.1<|ax u32 d c,a.2.1.1.2.2),a.2.1.2),())))
 none)
 none)
 (some<|Sum.inr (0,(a.1.1,()),a.2.1,())))
def fe(a:(Sb×ai)×Di×ai):Option (((Sb×ai)×Di×ai)⊕((Sb×ai)×Di×ai)) :=
 cA (aj (nt<|bz a.1.1 ([]:aq))
 (aj (aL 64 0)
 none
 (aj (inside (iA a.2.1.2.2.1 64) 64 64)
 (aj (inside (len<|@gC Int (av a.1.1)<|minus 64<|iA a.2.1.2.2.1 64) (len a.1.1)<|len a.1.1)
 (ab (aj (aL (ax i64 (iA a.2.1.2.2.1 64)<|len<|@gC Int (av a.1.1)<|minus 64<|iA a.2.1.2.2.1 64) 64)
 (ab (aj (nt a.2.1.1.1)
 (ab (rY ()) λb=>some ((),((true,b.1,a.2.1.1.2.2),over a.2.1.2.1 (iA a.2.1.2.2.1 64)<|@gC Int (av a.1.1)<|minus 64<|iA a.2.1.2.2.1 64,ax i64 a.2.1.2.2.1<|len<|@gC Int (av a.1.1)<|minus 64<|iA a.2.1.2.2.1 64,a.2.1.2.2.2),()))
 (some ((),(a.2.1.1,over a.2.1.2.1 (iA a.2.1.2.2.1 64)<|@gC Int (av a.1.1)<|minus 64<|iA a.2.1.2.2.1 64,ax i64 a.2.1.2.2.1<|len<|@gC Int (av a.1.1)<|minus 64<|iA a.2.1.2.2.1 64,a.2.1.2.2.2),()))) λb=>ab (Am ()) λh=>ab (pK (over a.2.1.2.1 (iA a.2.1.2.2.1 64)<|@gC Int (av a.1.1)<|minus 64<|iA a.2.1.2.2.1 64,())) λi=>aj (within 0 8)
 (ab (idx b.2.1.1.2.1 (0:Int)) λj=>aj (within 1 8)
 (ab (idx b.2.1.1.2.1 (1:Int)) λk=>aj (within 2 8)
 (ab (idx b.2.1.1.2.1 (2:Int)) λl=>aj (within 3 8)
 (ab (idx b.2.1.1.2.1 (3:Int)) λm=>aj (within 4 8)
 (ab (idx b.2.1.1.2.1 (4:Int)) λn=>aj (within 5 8)
 (ab (idx b.2.1.1.2.1 (5:Int)) λc=>aj (within 6 8)
 (ab (idx b.2.1.1.2.1 (6:Int)) λd=>aj (within 7 8)
 (ab (idx b.2.1.1.2.1 (7:Int)) λe=>ab (Loop (fc h i) ((j,k,l,m,n,c,d,e,(0:Int),()),())) λf=>ab (Loop (gj f) (((0:Int),()),b.2.1,())) λg=>some ((),g.2.1,()))
 none)
 none)
 none)
 none)
 none)
 none)
 none)
 none)
 (some ((),(a.2.1.1,over a.2.1.2.1 (iA a.2.1.2.2.1 64)<|@gC Int (av a.1.1)<|minus 64<|iA a.2.1.2.2.1 64,ax i64 a.2.1.2.2.1<|len<|@gC Int (av a.1.1)<|minus 64<|iA a.2.1.2.2.1 64,a.2.1.2.2.2),()))) λb=>some (Sum.inl ((sub a.1.1 (len<|@gC Int (av a.1.1)<|minus 64<|iA a.2.1.2.2.1 64)<|minus (len a.1.1)<|len<|@gC Int (av a.1.1)<|minus 64<|iA a.2.1.2.2.1 64,()),b.2.1,())))
 none)
 none))
 (some<|Sum.inr (0,(a.1.1,()),a.2.1,())))
def ft(x:(Sb×ai)×Di×ai):Option (ai×Di×ai) :=
 ab (Loop (fe) ((x.1.1,()),x.2.1,())) (λa=>some ((),a.2.1,()))
def ej(a:ai×Di×ai):Option ((ai×Di×ai)⊕(ai×Di×ai)) :=
 cA (aj (aL 64 0)
 none
 (aj (nt<|aL (iA a.2.1.2.2.1 64) 56)
 (ab (ft ((([0]:aq),()),a.2.1,())) λb=>some (Sum.inl ((),b.2.1,())))
 (some<|Sum.inr (0,(),a.2.1,()))))
def ff(x:ai×Di×ai)(a:(Int×ai)×(List<|Int)×ai):Option LL :=
 cA (aj (aO a.1.1 8)
 (aj (aO (gU i64 8 a.1.1) 0)
 none
 (aj (within (cE i64 7 a.1.1) 8)
 (ab (idx a.2.1<|cE i64 7 a.1.1) λb=>ab (idx a.2.1<|cE i64 7 a.1.1) λc=>ab (idx a.2.1<|cE i64 7 a.1.1) λd=>some (Sum.inl ((ax i64 a.1.1 1,()),jF a.2.1 (cE i64 7 a.1.1)<|kq IntKind.u8<|mQ IntKind.u64 (gU IntKind.u64 (kq IntKind.u64<|((((((),x.2.1,()).2).1).2).2).1) 8)<|gU i64 8 a.1.1,())))
 none))
 (some<|Sum.inr (0,(a.1.1,()),a.2.1,())))
def gk(b:ai×Di×ai)(a:(Int×ai)×(List<|Int)×ai):Option LL :=
 cA (aj (aO a.1.1 32)
 (aj (aL 4 0)
 none
 (aj (within (Ix i64 a.1.1 4) 8)
 (ab (idx b.2.1.1.2.1<|Ix i64 a.1.1 4) λc=>aj (aL 4 0)
 none
 (aj (aO (cE i64 24<|gU i64 8<|iA a.1.1 4) 0)
 none
 (aj (within a.1.1 32)
 (ab (idx a.2.1 a.1.1) λd=>ab (idx a.2.1 a.1.1) λe=>ab (idx a.2.1 a.1.1) λf=>some (Sum.inl ((ax i64 a.1.1 1,()),jF a.2.1 a.1.1<|kq IntKind.u8<|mQ u32 c<|cE i64 24<|gU i64 8<|iA a.1.1 4,())))
 none)))
 none))
 (some<|Sum.inr (0,(a.1.1,()),a.2.1,())))
def mW(x:ai×Di×ai):Option (Rh×Di×ai) :=
 ab (ft ((aX ([(128:Int)]:List (Int)),()),(((),x.2.1,()).2).1,())) (λa=>ab (Loop (ej) ((),a.2.1,())) λb=>ab (Loop (ff x) (((0:Int),()),([(0:Int),0,0,0,0,0,0,0]:List (Int)),())) λc=>aj (inside 0 8 8)
 (ab (ft ((aX<|sub c.2.1 (0:Int)<|minus 8 0,()),b.2.1,())) λd=>ab (Loop (gk d) (((0:Int),()),([(0:Int),0,0,0,0,0,0,0,0,0,0,0,0,0,0,0,0,0,0,0,0,0,0,0,0,0,0,0,0,0,0,0]:List (Int)),())) λe=>some ((e.2.1,()),x.2.1,()))
 none)
def Bw(x:Sb×ai):Option Rh :=
 ab (ft ((x.1,()),((false,([(0:Int),0,0,0,0,0,0,0]:List (Int)),()),([(0:Int),0,0,0,0,0,0,0,0,0,0,0,0,0,0,0,0,0,0,0,0,0,0,0,0,0,0,0,0,0,0,0,0,0,0,0,0,0,0,0,0,0,0,0,0,0,0,0,0,0,0,0,0,0,0,0,0,0,0,0,0,0,0,0]:List (Int)),(0:Int),()),())) (λa=>ab (mW ((),a.2.1,())) λb=>some (b.1.1,()))
def wo(x:ai):Option Rh :=
 some (([(1779033703:Int),3144134277,1013904242,2773480762,1359893119,2600822924,528734635,1541459225]:List (Int)),())
def jV(a:(ai×ai)×(List<|Int)×ai):Option (((ai×ai)×(List<|Int)×ai)⊕((ai×ai)×(List<|Int)×ai)) :=
 cA (aj (aL 64 0)
 none
 (aj (nt<|aL (iA (len a.2.1) 64) 56)
 (aj (fits<|plus (len a.2.1)<|len ([(0:Int)]:List (Int)))
 (some<|Sum.inl (((),()),app a.2.1 ([(0:Int)]:List (Int)),()))
 none)
 (some<|Sum.inr (0,((),()),a.2.1,()))))
def dZ(x:Sb×ai)(a:(ai×Int×ai)×(List<|Int)×ai):Option (((ai×Int×ai)×(List<|Int)×ai)⊕((ai×Int×ai)×(List<|Int)×ai)) :=
 cA (aj (ca 0 a.1.2.1)
 (aj (aO (gU i64 8 a.1.2.1) 0)
 none
 (aj (fits<|plus (len a.2.1)<|len ([kq IntKind.u8<|mQ IntKind.u64 (gU IntKind.u64 (kq IntKind.u64<|len x.1) 8)<|gU i64 8 a.1.2.1]:List (Int)))
 (some<|Sum.inl (((),cE i64 a.1.2.1 1,()),app a.2.1 ([kq IntKind.u8<|mQ IntKind.u64 (gU IntKind.u64 (kq IntKind.u64<|len x.1) 8)<|gU i64 8 a.1.2.1]:List (Int)),()))
 none))
 (some<|Sum.inr (0,((),a.1.2.1,()),a.2.1,())))
def rb(x:Sb×ai):Option (Sb×ai) :=
 aj (fits<|len x.1)
 (aj (fits<|plus (len<|av x.1)<|len ([(128:Int)]:List (Int)))
 (ab (Loop (jV) (((),()),app (av x.1) ([(128:Int)]:List (Int)),())) λa=>ab (Loop (dZ x) (((),(7:Int),()),a.2.1,())) λb=>some (aX b.2.1,()))
 none)
 none
def bP(x:Int×Int×ai):Option (Int×ai) :=
 aj (aO x.2.1 0)
 none
 (aj (aO (cE i64 32 x.2.1) 0)
 none
 (some (xc u32 (mQ u32 x.1 x.2.1)<|lS u32 x.1<|cE i64 32 x.2.1,())))
def uE(x:ai):Option Rh :=
 some (([(1116352408:Int),1899447441,3049323471,3921009573,961987163,1508970993,2453635748,2870763221,3624381080,310598401,607225278,1426881987,1925078388,2162078206,2614888103,3248222580,3835390401,4022224774,264347078,604807628,770255983,1249150122,1555081692,1996064986,2554220882,2821834349,2952996808,3210313671,3336571891,3584528711,113926993,338241895,666307205,773529912,1294757372,1396182291,1695183700,1986661051,2177026350,2456956037,2730485921,2820302411,3259730800,3345764771,3516065817,3600352804,4094571909,275423344,430227734,506948616,659060556,883997877,958139571,1322822218,1537002063,1747873779,1955562222,2024104815,2227730452,2361852424,2428436474,2756734187,3204031479,3329325298]:List (Int)),())
def gN(x:(List<|Int)×Sb×ai)(a:(Int×ai)×(List<|Int)×ai):Option LL :=
 cA (aj (aO a.1.1 16)
 (ab (idx x.2.1<|gU i64 4 a.1.1) λb=>aj (aO 24 0)
 none
 (ab (idx x.2.1<|ax i64 (gU i64 4 a.1.1) 1) λc=>aj (aO 16 0)
 none
 (ab (idx x.2.1<|ax i64 (gU i64 4 a.1.1) 2) λd=>aj (aO 8 0)
 none
 (ab (idx x.2.1<|ax i64 (gU i64 4 a.1.1) 3) λe=>aj (within a.1.1 64)
 (ab (idx a.2.1 a.1.1) λf=>ab (idx a.2.1 a.1.1) λg=>ab (idx a.2.1 a.1.1) λh=>some (Sum.inl ((ax i64 a.1.1 1,()),jF a.2.1 a.1.1<|xc u32 (xc u32 (xc u32 (lS u32 (kq u32<|u8 b) 24)<|lS u32 (kq u32<|u8 c) 16)<|lS u32 (kq u32<|u8 d) 8)<|kq u32<|u8 e,())))
 none))))
 (some<|Sum.inr (0,(a.1.1,()),a.2.1,())))
def jW(a:(Int×ai)×(List<|Int)×ai):Option LL :=
 cA (aj (aO a.1.1 64)
 (aj (within (cE i64 a.1.1 2) 64)
 (ab (idx a.2.1<|cE i64 a.1.1 2) λb=>aj (within (cE i64 a.1.1 15) 64)
 (ab (idx a.2.1<|cE i64 a.1.1 15) λc=>ab (bP (b,(17:Int),())) λe=>ab (bP (b,(19:Int),())) λf=>aj (aO 10 0)
 none
 (aj (within (cE i64 a.1.1 7) 64)
 (ab (idx a.2.1<|cE i64 a.1.1 7) λg=>ab (bP (c,(7:Int),())) λh=>ab (bP (c,(18:Int),())) λi=>aj (aO 3 0)
 none
 (aj (within (cE i64 a.1.1 16) 64)
 (ab (idx a.2.1<|cE i64 a.1.1 16) λd=>aj (within a.1.1 64)
 (ab (idx a.2.1 a.1.1) λj=>ab (idx a.2.1 a.1.1) λk=>ab (idx a.2.1 a.1.1) λl=>some (Sum.inl ((ax i64 a.1.1 1,()),jF a.2.1 a.1.1<|ax u32 (ax u32 (ax u32 (fC u32 (fC u32 e.1 f.1)<|mQ u32 b 10) g)<|fC u32 (fC u32 h.1 i.1)<|mQ u32 c 3) d,())))
 none)
 none))
 none))
 none)
 none)
 (some<|Sum.inr (0,(a.1.1,()),a.2.1,())))
def gO(z:(Int×ai)×(List<|Int)×ai)(A:(List<|Int)×ai)(a:(Int×ai)×(List<|Int)×ai):Option LL :=
 cA (aj (aO a.1.1 64)
 (aj (within 4 8)
 (ab (idx a.2.1 (4:Int)) λb=>aj (within 0 8)
 (ab (idx a.2.1 (0:Int)) λc=>aj (within 7 8)
 (ab (idx a.2.1 (7:Int)) λw=>ab (bP (b,(6:Int),())) λx=>ab (bP (b,(11:Int),())) λy=>ab (bP (b,(25:Int),())) λd=>aj (within 5 8)
 (ab (idx a.2.1 (5:Int)) λe=>aj (within 6 8)
 (ab (idx a.2.1 (6:Int)) λf=>aj (within a.1.1 64)
 (ab (idx A.1 a.1.1) λg=>aj (within a.1.1 64)
 (ab (idx z.2.1 a.1.1) λh=>ab (bP (c,(2:Int),())) λi=>ab (bP (c,(13:Int),())) λj=>ab (bP (c,(22:Int),())) λk=>aj (within 1 8)
 (ab (idx a.2.1 (1:Int)) λl=>aj (within 2 8)
 (ab (idx a.2.1 (2:Int)) λm=>aj (within 1 8)
 (ab (idx a.2.1 (1:Int)) λn=>aj (within 2 8)
 (ab (idx a.2.1 (2:Int)) λo=>aj (within 0 8)
 (ab (idx a.2.1 (0:Int)) λp=>aj (within 1 8)
 (ab (idx a.2.1 (1:Int)) λq=>aj (within 2 8)
 (ab (idx a.2.1 (2:Int)) λr=>aj (within 3 8)
 (ab (idx a.2.1 (3:Int)) λs=>aj (within 4 8)
 (ab (idx a.2.1 (4:Int)) λt=>aj (within 5 8)
 (ab (idx a.2.1 (5:Int)) λu=>aj (within 6 8)
 (ab (idx a.2.1 (6:Int)) λv=>some (Sum.inl ((ax i64 a.1.1 1,()),([ax u32 (ax u32 (ax u32 (ax u32 (ax u32 w<|fC u32 (fC u32 x.1 y.1) d.1)<|fC u32 (jQ u32 b e)<|jQ u32 (fC u32 4294967295 b) f) g) h)<|ax u32 (fC u32 (fC u32 i.1 j.1) k.1)<|fC u32 (fC u32 (jQ u32 c l)<|jQ u32 c m)<|jQ u32 n o,p,q,r,ax u32 s (ax u32 (ax u32 (ax u32 (ax u32 w<|fC u32 (fC u32 x.1 y.1) d.1)<|fC u32 (jQ u32 b e)<|jQ u32 (fC u32 4294967295 b) f) g) h),t,u,v]:List (Int)),())))
 none)
 none)
 none)
 none)
 none)
 none)
 none)
 none)
 none)
 none)
 none)
 none)
 none)
 none)
 none)
 none)
 none)
 none)
 (some<|Sum.inr (0,(a.1.1,()),a.2.1,())))
def jX(x:(List<|Int)×Sb×ai)(a:(Int×ai)×(List<|Int)×ai):Option LL :=
 cA (aj (aO a.1.1 8)
 (aj (within a.1.1 8)
 (ab (idx a.2.1 a.1.1) λb=>aj (within a.1.1 8)
 (ab (idx x.1 a.1.1) λc=>aj (within a.1.1 8)
 (ab (idx a.2.1 a.1.1) λe=>ab (idx a.2.1 a.1.1) λf=>ab (idx a.2.1 a.1.1) λd=>some (Sum.inl ((ax i64 a.1.1 1,()),jF a.2.1 a.1.1<|ax u32 b c,())))
 none)
 none)
 none)
 (some<|Sum.inr (0,(a.1.1,()),a.2.1,())))
def re(x:(List<|Int)×Sb×ai):Option Rh :=
 ab (Loop (gN x) (((0:Int),()),([(0:Int),0,0,0,0,0,0,0,0,0,0,0,0,0,0,0,0,0,0,0,0,0,0,0,0,0,0,0,0,0,0,0,0,0,0,0,0,0,0,0,0,0,0,0,0,0,0,0,0,0,0,0,0,0,0,0,0,0,0,0,0,0,0,0]:List (Int)),())) (λa=>ab (Loop (jW) (((16:Int),()),a.2.1,())) λb=>ab (uE ()) λc=>ab (Loop (gO b c) (((0:Int),()),x.1,())) λd=>ab (Loop (jX x) (((0:Int),()),d.2.1,())) λe=>some (e.2.1,()))
def my(b:Sb×ai)(a:(Int×ai)×(List<|Int)×ai):Option LL :=
 cA (aj (ca (ax i64 a.1.1 64)<|len b.1)
 (aj (inside a.1.1 (ax i64 a.1.1 64)<|len b.1)
 (ab (re (a.2.1,sub b.1 a.1.1<|minus (ax i64 a.1.1 64) a.1.1,())) λc=>some (Sum.inl ((ax i64 a.1.1 64,()),c.1,())))
 none)
 (some<|Sum.inr (0,(a.1.1,()),a.2.1,())))
def mz(b:(Int×ai)×(List<|Int)×ai)(a:(Int×ai)×(List<|Int)×ai):Option LL :=
 cA (aj (aO a.1.1 32)
 (aj (aL 4 0)
 none
 (aj (within (Ix i64 a.1.1 4) 8)
 (ab (idx b.2.1<|Ix i64 a.1.1 4) λc=>aj (aL 4 0)
 none
 (aj (aO (cE i64 24<|gU i64 8<|iA a.1.1 4) 0)
 none
 (aj (within a.1.1 32)
 (ab (idx a.2.1 a.1.1) λd=>ab (idx a.2.1 a.1.1) λe=>ab (idx a.2.1 a.1.1) λf=>some (Sum.inl ((ax i64 a.1.1 1,()),jF a.2.1 a.1.1<|kq IntKind.u8<|mQ u32 c<|cE i64 24<|gU i64 8<|iA a.1.1 4,())))
 none)))
 none))
 (some<|Sum.inr (0,(a.1.1,()),a.2.1,())))
def vy(x:Sb×ai):Option Rh :=
 ab (wo ()) (λa=>ab (rb (x.1,())) λb=>ab (Loop (my b) (((0:Int),()),a.1,())) λc=>ab (Loop (mz c) (((0:Int),()),([(0:Int),0,0,0,0,0,0,0,0,0,0,0,0,0,0,0,0,0,0,0,0,0,0,0,0,0,0,0,0,0,0,0]:List (Int)),())) λd=>some (d.2.1,()))
end Go.Ge
namespace Go.Ge
variable [Lp]
set_option maxRecDepth 100000
def kW(x:Sb×ai)(a:(Int×ai)×(ai×ai×ai)×(List<|Int)×ai):Option (((Int×ai)×(ai×ai×ai)×(List<|Int)×ai)⊕((Int×ai)×(ai×ai×ai)×(List<|Int)×ai)) :=
 cA (aj (aO a.1.1<|len<|av x.1)
 (aj (within a.1.1<|len<|av x.1)
 (ab (idx (av x.1) a.1.1) λc=>aj (aO 4 0)
 none
 (ab (idx ([48,49,50,51,52,53,54,55,56,57,97,98,99,100,101,102]:aq)<|mQ IntKind.u8 c 4) λb=>aj (fits<|plus (len a.2.2.1)<|len ([u8 b]:List (Int)))
 (ab (idx ([48,49,50,51,52,53,54,55,56,57,97,98,99,100,101,102]:aq)<|jQ IntKind.u8 c 15) λd=>aj (fits<|plus (len<|app a.2.2.1 ([u8 b]:List (Int)))<|len ([u8 d]:List (Int)))
 (some<|Sum.inl ((ax i64 a.1.1 1,()),((),(),a.2.1.2.2),app (app a.2.2.1 ([u8 b]:List (Int))) ([u8 d]:List (Int)),()))
 none)
 none))
 none)
 (some<|Sum.inr (0,(a.1.1,()),((),(),a.2.1.2.2),a.2.2.1,())))
def mX(x:Sb×ai):Option (Sb×ai) :=
 aj (fits<|len x.1)
 (ab (Loop (kW x) (((0:Int),()),((),(),()),([]:List (Int)),())) λa=>some (aX a.2.2.1,()))
 none
def oY(x:Sb×ai):Option (Sb×ai) :=
 ab (Bw (x.1,())) (λb=>aj (inside 0 32 32)
 (ab (mX (aX<|sub b.1 (0:Int)<|minus 32 0,())) λa=>aj (fits<|plus (len ([115,104,97,50,53,54,58]:aq))<|len a.1)
 (some (app ([115,104,97,50,53,54,58]:aq) a.1,()))
 none)
 none)
def cM(x:Sb×Sb×ai):Option (Bool×ai) :=
 ab (aj (ca (len x.2.1)<|len x.1)
 (aj (inside 0 (len x.2.1)<|len x.1)
 (some<|bz (sub x.1 (0:Int)<|minus (len x.2.1) 0) x.2.1)
 none)
 (some false)) (λa=>some (a,()))
def iZ(x:Sb×Sb×ai):Option (Sb×Bool×ai) :=
 ab (cM (x.1,x.2.1,())) (λa=>aj (nt a.1)
 (some (x.1,false,()))
 (aj (inside (len x.2.1) (len x.1)<|len x.1)
 (some (sub x.1 (len x.2.1)<|minus (len x.1)<|len x.2.1,true,()))
 none))
def sX(x:Sb×Sb×ai):Option (Sb×Bool×ai) :=
 ab (iZ (x.1,x.2.1,())) (λa=>some (a.1,a.2.1,()))
def fg(x:Sb×Int×ai):Option (Int×ai) :=
 ab (iV (x.1,x.2.1,())) (λa=>some (a.1,()))
def lJ(x:Int×ai):Option (Int×ai) :=
 aj (aO x.1 10)
 (some (kq IntKind.u8<|ax i64 48 x.1,()))
 (some (kq IntKind.u8<|cE i64 (ax i64 97 x.1) 10,()))
def mA(x:Sb×ai)(a:(ai×Int×ai)×(List<|Int)×ai):Option (((ai×Int×ai)×(List<|Int)×ai)⊕((ai×Int×ai)×(List<|Int)×ai)) :=
 cA (aj (aO a.1.2.1<|len x.1)
 (ab (idx x.1 a.1.2.1) λd=>aj (aL 16 0)
 none
 (ab (lJ (Ix i64 (kq i64<|u8 d) 16,())) λb=>aj (fits<|plus (len a.2.1)<|len ([b.1]:List (Int)))
 (ab (idx x.1 a.1.2.1) λe=>aj (aL 16 0)
 none
 (ab (lJ (iA (kq i64<|u8 e) 16,())) λc=>aj (fits<|plus (len<|app a.2.1 ([b.1]:List (Int)))<|len ([c.1]:List (Int)))
 (some<|Sum.inl (((),ax i64 a.1.2.1 1,()),app (app a.2.1 ([b.1]:List (Int))) ([c.1]:List (Int)),()))
 none))
 none))
 (some<|Sum.inr (0,((),a.1.2.1,()),a.2.1,())))
def vz(x:Sb×ai):Option (Sb×ai) :=
 ab (Loop (mA x) (((),(0:Int),()),([]:List (Int)),())) (λa=>some (aX a.2.1,()))
def qG(x:Sb×ai):Option (Sb×ai) :=
 ab (vy (x.1,())) (λb=>aj (inside 0 32 32)
 (ab (vz (aX<|sub b.1 (0:Int)<|minus 32 0,())) λa=>aj (fits<|plus (len ([115,104,97,50,53,54,58]:aq))<|len a.1)
 (some (app ([115,104,97,50,53,54,58]:aq) a.1,()))
 none)
 none)
def ea(x:Int×ai)(a:(Int×Int×ai)×ai):Option (((Int×Int×ai)×ai)⊕(Nat×(Int×Int×ai)×ai)) :=
 aj (aO a.1.2.1 16)
 (ab (lJ (a.1.2.1,())) λb=>aj (aL b.1 x.1)
 (some<|Sum.inr (1,(a.1.2.1,a.1.2.1,()),()))
 (some<|Sum.inl ((a.1.1,ax i64 a.1.2.1 1,()),())))
 (some<|Sum.inr (0,(a.1.1,a.1.2.1,()),()))
def nQ(x:Int×ai):Option (Int×ai) :=
 ab (Loop (ea x) (((0:Int),(0:Int),()),())) (λa=>aj (cR a.1 0)
 (some ((-1:Int),()))
 (some (a.2.1.1,())))
def gP(x:Sb×ai)(a:(Sb×Bool×ai×Int×ai)×(List<|Int)×ai):Option (((Sb×Bool×ai×Int×ai)×(List<|Int)×ai)⊕(Nat×(Sb×Bool×ai×Int×ai)×(List<|Int)×ai)) :=
 aj (aO (ax i64 a.1.2.2.2.1 1)<|len x.1)
 (ab (idx x.1 a.1.2.2.2.1) λd=>ab (nQ (u8 d,())) λb=>ab (idx x.1<|ax i64 a.1.2.2.2.1 1) λe=>ab (nQ (u8 e,())) λc=>aj (aj (nt<|aO b.1 0)
 (aO c.1 0)
 true)
 (some<|Sum.inr (1,(([]:aq),false,(),a.1.2.2.2.1,()),a.2.1,()))
 (aj (fits<|plus (len a.2.1)<|len ([kq IntKind.u8<|ax i64 (gU i64 16 b.1) c.1]:List (Int)))
 (some<|Sum.inl ((a.1.1,a.1.2.1,(),ax i64 a.1.2.2.2.1 2,()),app a.2.1 ([kq IntKind.u8<|ax i64 (gU i64 16 b.1) c.1]:List (Int)),()))
 none))
 (some<|Sum.inr (0,(a.1.1,a.1.2.1,(),a.1.2.2.2.1,()),a.2.1,()))
def nR(x:Sb×ai):Option (Sb×Bool×ai) :=
 aj (aL 2 0)
 none
 (aj (aL (iA (len x.1) 2) 1)
 (some (([]:aq),false,()))
 (ab (Loop (gP x) ((([]:aq),false,(),(0:Int),()),([]:List (Int)),())) λa=>aj (cR a.1 0)
 (some (aX a.2.2.1,true,()))
 (some (a.2.1.1,a.2.1.2.1,()))))
def eV(x:Sb×ai):Option (Int×ai) :=
 ab (aj (nt<|nt<|aL (len x.1) 71)
 (aj (inside 0 7<|len x.1)
 (some<|nt<|bz (sub x.1 (0:Int)<|minus 7 0) ([115,104,97,50,53,54,58]:aq))
 none)
 (some true)) (λa=>aj a
 (some ((2:Int),()))
 (aj (inside 7 (len x.1)<|len x.1)
 (ab (nR (sub x.1 (7:Int)<|minus (len x.1) 7,())) λb=>aj (nt b.2.1)
 (some ((2:Int),()))
 (some ((0:Int),())))
 none))
end Go.Ge
namespace Go.Ge
variable [Lp]
set_option maxRecDepth 100000
abbrev ZM:=((Sb×ai)×(List<|Bool)×ai)
abbrev agr:=(Sb×Int×Int×Int×Int×Int×Int×Sb×ai)
def kr(x:Int×Int×ai):Option (Bool×ai) :=
 some (aj (ca 0 x.1)
 (aO x.1 x.2.1)
 false,())
def mB(x:Sb×Int×ai):Option (Bool×ai) :=
 ab (aj (aj (nt<|bz x.1 ([]:aq))
 (ca (len x.1) x.2.1)
 false)
 (ab (fg (x.1,(0:Int),())) λa=>some (aO a.1 0))
 (some false)) (λa=>some (a,()))
def oZ(x:agr×Int×ai):Option (Bool×ai) :=
 ab (kr (x.1.2.2.1,(2097152:Int),())) (λf=>ab (aj f.1
 (ab (kr (x.1.2.2.2.1,(2097152:Int),())) λa=>some a.1)
 (some false)) λa=>ab (aj a
 (ab (kr (x.1.2.2.2.2.1,(2097152:Int),())) λb=>some b.1)
 (some false)) λb=>ab (aj b
 (ab (kr (x.1.2.2.2.2.2.1,(8589934592:Int),())) λc=>some c.1)
 (some false)) λc=>ab (aj c
 (ab (kr (x.1.2.2.2.2.2.2.1,(8589934592:Int),())) λd=>some d.1)
 (some false)) λd=>ab (aj (nt<|nt d)
 (ab (mB (x.1.1,x.2.1,())) λe=>some (nt e.1))
 (some true)) λe=>aj e
 (some (false,()))
 (aj (aL x.1.2.1 1)
 (some (bz x.1.2.2.2.2.2.2.2.1 ([]:aq),()))
 (aj (aL x.1.2.1 2)
 (some (aj (bz x.1.2.2.2.2.2.2.2.1 ([]:aq))
 (aL x.1.2.2.2.2.2.1 0)
 false,()))
 (aj (aL x.1.2.1 3)
 (ab (mB (x.1.2.2.2.2.2.2.2.1,(100:Int),())) λg=>some (aj g.1
 (aL x.1.2.2.2.2.2.1 0)
 false,()))
 (some (false,()))))))
def kX(x:ai):Option ((List<|Int×Int×ai)×ai) :=
 some (([((0:Int),(100:Int),()),((100:Int),(8:Int),()),((108:Int),(8:Int),()),((116:Int),(8:Int),()),((124:Int),(12:Int),()),((136:Int),(12:Int),()),((148:Int),(8:Int),()),((156:Int),(1:Int),()),((157:Int),(100:Int),()),((257:Int),(8:Int),()),((345:Int),(155:Int),())]:List (Int×Int×ai)),())
def kY(x:Sb×ai)(b:Int×Int×ai)(a:(Int×Int×ai)×ai):Option (((Int×Int×ai)×ai)⊕((Int×Int×ai)×ai)) :=
 cA (aj (aO a.1.2.1<|len<|av x.1)
 (aj (within a.1.2.1<|len<|av x.1)
 (ab (idx (av x.1) a.1.2.1) λc=>some (Sum.inl ((ax i64 a.1.1<|kq i64<|((aj (aj (ca b.1 a.1.2.1)
 (aO a.1.2.1<|ax i64 b.1 b.2.1)
 false)
 (((32:Int),()),())
 ((c,()),())).1).1,ax i64 a.1.2.1 1,()),())))
 none)
 (some<|Sum.inr (0,(a.1.1,a.1.2.1,()),())))
def tl(x:Sb×ai):Option (Int×ai) :=
 ab (kX ()) (λa=>ab (idx a.1 (6:Int)) λb=>aj (fits<|len x.1)
 (ab (Loop (kY x b) (((0:Int),(0:Int),()),())) λc=>some (c.1.1,()))
 none)
def bQ(x:Sb×Int×ai):Option (Sb×ai) :=
 ab (kX ()) (λb=>ab (idx b.1 x.2.1) λa=>aj (inside a.1 (ax i64 a.1 a.2.1)<|len x.1)
 (some (sub x.1 a.1<|minus (ax i64 a.1 a.2.1) a.1,()))
 none)
def e8(x:Sb×Int×ai)(a:(Sb×ai)×ai):Option (((Sb×ai)×ai)⊕((Sb×ai)×ai)) :=
 cA (ab (aj (aO 0<|len a.1.1)
 (ab (idx a.1.1<|cE i64 (len a.1.1) 1) λb=>some (aL (u8 b) x.2.1))
 (some false)) λb=>aj b
 (aj (inside 0 (cE i64 (len a.1.1) 1)<|len a.1.1)
 (some<|Sum.inl ((sub a.1.1 (0:Int)<|minus (cE i64 (len a.1.1) 1) 0,()),()))
 none)
 (some<|Sum.inr (0,(a.1.1,()),())))
def eK(x:Sb×Int×ai):Option (Sb×ai) :=
 ab (Loop (e8 x) ((x.1,()),())) (λa=>some (a.1.1,()))
def bL(x:Sb×ai)(a:(Bool×Int×ai)×(List<|Bool)×ai):Option (((Bool×Int×ai)×(List<|Bool)×ai)⊕(Nat×(Bool×Int×ai)×(List<|Bool)×ai)) :=
 aj (aO a.1.2.1<|len x.1)
 (ab (idx x.1 a.1.2.1) λb=>aj (ca 128<|u8 b)
 (some<|Sum.inr (1,(false,a.1.2.1,()),a.2.1,()))
 (aj (within (u8 b) 256)
 (ab (idx a.2.1<|u8 b) λc=>ab (idx a.2.1<|u8 b) λd=>ab (idx a.2.1<|u8 b) λe=>some (Sum.inl ((a.1.1,ax i64 a.1.2.1 1,()),jF a.2.1 (u8 b) true,())))
 none))
 (some<|Sum.inr (0,(a.1.1,a.1.2.1,()),a.2.1,()))
def dh(x:Sb×ai):Option ((List<|Bool)×Bool×ai) :=
 ab (Loop (bL x) ((false,(0:Int),()),((List.replicate 256 false):List (Bool)),())) (λa=>aj (cR a.1 0)
 (some (a.2.2.1,true,()))
 (some (a.2.2.1,a.2.1.1,())))
def cj(x:(Int×ai)×(List<|Bool)×ai):Option ((Bool×ai)×(List<|Bool)×ai) :=
 aj (within x.1.1 256)
 (ab (idx x.2.1 x.1.1) λa=>some ((a,()),x.2.1,()))
 none
def bU(a:(Sb×ai)×(List<|Bool)×ai):Option (ZM⊕ZM) :=
 cA (aj (aO 0<|len a.1.1)
 (ab (idx a.1.1<|cE i64 (len a.1.1) 1) λc=>ab (cj ((u8 c,()),a.2.1,())) λb=>aj (nt b.1.1)
 (some<|Sum.inr (0,(a.1.1,()),b.2.1,()))
 (aj (inside 0 (cE i64 (len a.1.1) 1)<|len a.1.1)
 (some<|Sum.inl ((sub a.1.1 (0:Int)<|minus (cE i64 (len a.1.1) 1) 0,()),b.2.1,()))
 none))
 (some<|Sum.inr (0,(a.1.1,()),a.2.1,())))
def dB(x:(Sb×ai)×(List<|Bool)×ai):Option ZM :=
 ab (Loop (bU) ((x.1.1,()),x.2.1,())) (λa=>some ((a.1.1,()),a.2.1,()))
def ek(x:Sb×Sb×ai):Option (Sb×ai) :=
 aj (aj (nt<|bz x.1 ([]:aq))
 (bz x.2.1 ([]:aq))
 true)
 (some (x.1,()))
 (ab (aj (aL (len x.2.1) 1)
 (ab (idx x.2.1 (0:Int)) λb=>some (aO (u8 b) 128))
 (some false)) λb=>aj b
 (ab (idx x.2.1 (0:Int)) λa=>ab (eK (x.1,u8 a,())) λc=>some (c.1,()))
 (ab (dh (x.2.1,())) λa=>aj a.2.1
 (ab (dB ((x.1,()),a.1,())) λc=>some (c.1.1,()))
 none))
def bF(x:Sb×ai)(a:(Int×Bool×Int×Int×ai)×ai):Option (((Int×Bool×Int×Int×ai)×ai)⊕(Nat×(Int×Bool×Int×Int×ai)×ai)) :=
 aj (aO a.1.2.2.2.1<|len<|av x.1)
 (aj (within a.1.2.2.2.1<|len<|av x.1)
 (ab (idx (av x.1) a.1.2.2.2.1) λb=>aj (aj (nt<|aO b 48)
 (aO 55 b)
 true)
 (some<|Sum.inr (1,((0:Int),false,a.1.2.2.1,a.1.2.2.2.1,()),()))
 (aj (aO 3 0)
 none
 (some<|Sum.inl ((a.1.1,a.1.2.1,xc i64 (lS i64 a.1.2.2.1 3)<|kq i64<|cE IntKind.u8 b 48,ax i64 a.1.2.2.2.1 1,()),()))))
 none)
 (some<|Sum.inr (0,(a.1.1,a.1.2.1,a.1.2.2.1,a.1.2.2.2.1,()),()))
def di(x:Sb×ai):Option (Int×Bool×ai) :=
 aj (aj (nt<|aO (len x.1) 1)
 (aO 21<|len x.1)
 true)
 (some ((0:Int),false,()))
 (aj (fits<|len x.1)
 (ab (Loop (bF x) (((0:Int),false,(0:Int),(0:Int),()),())) λa=>aj (cR a.1 0)
 (some (a.2.1.2.2.1,true,()))
 (some (a.2.1.1,a.2.1.2.1,())))
 none)
def cU(x:Sb×ai):Option (Int×ai) :=
 ab (ek (x.1,([0,32]:aq),())) (λa=>ab (di (a.1,())) λb=>aj (aj (nt<|nt b.2.1)
 (aL (len a.1)<|len x.1)
 true)
 (some ((-1:Int),()))
 (some (b.1,())))
def jw(x:Sb×ai):Option (Sb×Bool×ai) :=
 ab (ek (x.1,([0]:aq),())) (λa=>ab (fg (a.1,(0:Int),())) λb=>some (a.1,aO b.1 0,()))
def eW(x:Sb×ai):Option (agr×Int×ai) :=
 ab (aj (nt<|nt<|aL (len x.1) 512)
 (ab (bQ (x.1,(9:Int),())) λk=>some (nt<|bz k.1 ([117,115,116,97,114,0,48,48]:aq)))
 (some true)) (λk=>ab (aj (nt k)
 (ab (bQ (x.1,(6:Int),())) λl=>ab (cU (l.1,())) λm=>ab (tl (x.1,())) λi=>some (nt<|aL m.1 i.1))
 (some true)) λl=>aj l
 (some ((([]:aq),(0:Int),(0:Int),(0:Int),(0:Int),(0:Int),(0:Int),([]:aq),()),(2:Int),()))
 (ab (bQ (x.1,(0:Int),())) λm=>ab (jw (m.1,())) λi=>ab (bQ (x.1,(8:Int),())) λt=>ab (jw (t.1,())) λn=>ab (bQ (x.1,(10:Int),())) λu=>ab (jw (u.1,())) λj=>ab (aj (nt<|bz j.1 ([]:aq))
 (aj (fits<|plus (len j.1)<|len ([47]:aq))
 (aj (fits<|plus (len<|app j.1 ([47]:aq))<|len i.1)
 (some ((app (app j.1 ([47]:aq)) i.1,()),()))
 none)
 none)
 (some ((i.1,()),()))) λg=>ab (bQ (x.1,(1:Int),())) λo=>ab (cU (o.1,())) λb=>ab (bQ (x.1,(2:Int),())) λp=>ab (cU (p.1,())) λc=>ab (bQ (x.1,(3:Int),())) λq=>ab (cU (q.1,())) λd=>ab (bQ (x.1,(4:Int),())) λr=>ab (cU (r.1,())) λe=>ab (bQ (x.1,(5:Int),())) λs=>ab (cU (s.1,())) λf=>ab (bQ (x.1,(7:Int),())) λa=>ab (aj (nt<|aj (nt<|aj (nt<|nt i.2.1)
 (nt n.2.1)
 true)
 (nt j.2.1)
 true)
 (ab (oZ (((aj (((aj (bz a.1 ([48]:aq))
 ((bz a.1 ([48]:aq),()),())
 ((bz a.1 ([0]:aq),()),())).1).1)
 ((),(g.1.1,(1:Int),b.1,c.1,d.1,e.1,f.1,([]:aq),()),())
 ((),((aj (bz a.1 ([53]:aq))
 ((),(g.1.1,(2:Int),b.1,c.1,d.1,e.1,f.1,([]:aq),()),())
 ((),((aj (bz a.1 ([50]:aq))
 ((),(g.1.1,(3:Int),b.1,c.1,d.1,e.1,f.1,n.1,()),())
 ((),(g.1.1,(0:Int),b.1,c.1,d.1,e.1,f.1,([]:aq),()),())).2).1,())).2).1,())).2).1,(256:Int),())) λh=>some (nt h.1))
 (some true)) λh=>aj h
 (some ((([]:aq),(0:Int),(0:Int),(0:Int),(0:Int),(0:Int),(0:Int),([]:aq),()),(2:Int),()))
 (some (((aj (((aj (bz a.1 ([48]:aq))
 ((bz a.1 ([48]:aq),()),())
 ((bz a.1 ([0]:aq),()),())).1).1)
 ((),(g.1.1,(1:Int),b.1,c.1,d.1,e.1,f.1,([]:aq),()),())
 ((),((aj (bz a.1 ([53]:aq))
 ((),(g.1.1,(2:Int),b.1,c.1,d.1,e.1,f.1,([]:aq),()),())
 ((),((aj (bz a.1 ([50]:aq))
 ((),(g.1.1,(3:Int),b.1,c.1,d.1,e.1,f.1,n.1,()),())
 ((),(g.1.1,(0:Int),b.1,c.1,d.1,e.1,f.1,([]:aq),()),())).2).1,())).2).1,())).2).1,(0:Int),()))))
def fj(x:Sb×Int×ai)(a:(Sb×ai)×ai):Option (((Sb×ai)×ai)⊕((Sb×ai)×ai)) :=
 cA (ab (aj (aO 0<|len a.1.1)
 (ab (idx a.1.1 (0:Int)) λb=>some (aL (u8 b) x.2.1))
 (some false)) λb=>aj b
 (aj (inside 1 (len a.1.1)<|len a.1.1)
 (some<|Sum.inl ((sub a.1.1 (1:Int)<|minus (len a.1.1) 1,()),()))
 none)
 (some<|Sum.inr (0,(a.1.1,()),())))
def gu(x:Sb×Int×ai):Option (Sb×ai) :=
 ab (Loop (fj x) ((x.1,()),())) (λa=>some (a.1.1,()))
def dQ(a:(Sb×ai)×(List<|Bool)×ai):Option (ZM⊕ZM) :=
 cA (aj (aO 0<|len a.1.1)
 (ab (idx a.1.1 (0:Int)) λc=>ab (cj ((u8 c,()),a.2.1,())) λb=>aj (nt b.1.1)
 (some<|Sum.inr (0,(a.1.1,()),b.2.1,()))
 (aj (inside 1 (len a.1.1)<|len a.1.1)
 (some<|Sum.inl ((sub a.1.1 (1:Int)<|minus (len a.1.1) 1,()),b.2.1,()))
 none))
 (some<|Sum.inr (0,(a.1.1,()),a.2.1,())))
def fR(x:(Sb×ai)×(List<|Bool)×ai):Option ZM :=
 ab (Loop (dQ) ((x.1.1,()),x.2.1,())) (λa=>some ((a.1.1,()),a.2.1,()))
def gZ(x:Sb×Sb×ai):Option (Sb×ai) :=
 aj (aj (nt<|bz x.1 ([]:aq))
 (bz x.2.1 ([]:aq))
 true)
 (some (x.1,()))
 (ab (aj (aL (len x.2.1) 1)
 (ab (idx x.2.1 (0:Int)) λc=>some (aO (u8 c) 128))
 (some false)) λc=>aj c
 (ab (idx x.2.1 (0:Int)) λa=>ab (eK (x.1,u8 a,())) λb=>ab (idx x.2.1 (0:Int)) λd=>ab (gu (b.1,u8 d,())) λe=>some (e.1,()))
 (ab (dh (x.2.1,())) λa=>aj a.2.1
 (ab (dB ((x.1,()),a.1,())) λb=>ab (fR ((b.1.1,()),b.2.1,())) λd=>some (d.1.1,()))
 none))
def rf(x:Sb×ai):Option (Bool×ai) :=
 ab (aj (aL (len x.1) 512)
 (ab (gZ (x.1,([0]:aq),())) λa=>some (bz a.1 ([]:aq)))
 (some false)) (λa=>some (a,()))
def fu(x:Sb×Int×ai)(a:(Bool×Int×ai)×ai):Option (((Bool×Int×ai)×ai)⊕(Nat×(Bool×Int×ai)×ai)) :=
 aj (aO a.1.2.1<|len x.1)
 (ab (idx x.1 a.1.2.1) λb=>aj (aL (u8 b) 0)
 (some<|Sum.inr (1,(false,a.1.2.1,()),()))
 (some<|Sum.inl ((a.1.1,ax i64 a.1.2.1 1,()),())))
 (some<|Sum.inr (0,(a.1.1,a.1.2.1,()),()))
def lK(x:Sb×Int×ai):Option (Bool×ai) :=
 ab (Loop (fu x) ((false,(0:Int),()),())) (λa=>aj (cR a.1 0)
 (some (aj (ca 1<|len x.1)
 (ca (len x.1) x.2.1)
 false,()))
 (some (a.2.1.1,())))
def oG(x:Int×Int×ai):Option (Bool×ai) :=
 some (aj (ca 0 x.1)
 (aO x.1 x.2.1)
 false,())
def rZ(x:agr×Int×ai):Option (Bool×ai) :=
 ab (aj (aL x.1.2.1 3)
 (ab (lK (x.1.2.2.2.2.2.2.2.1,(100:Int),())) λa=>some ((a.1,()),()))
 (some ((bz x.1.2.2.2.2.2.2.2.1 ([]:aq),()),()))) (λa=>ab (lK (x.1.1,x.2.1,())) λg=>ab (aj (aj (aj g.1
 (ca 1 x.1.2.1)
 false)
 (ca x.1.2.1 3)
 false)
 (ab (oG (x.1.2.2.1,(2097152:Int),())) λb=>some b.1)
 (some false)) λb=>ab (aj b
 (ab (oG (x.1.2.2.2.1,(2097152:Int),())) λc=>some c.1)
 (some false)) λc=>ab (aj c
 (ab (oG (x.1.2.2.2.2.1,(2097152:Int),())) λd=>some d.1)
 (some false)) λd=>ab (aj d
 (ab (oG (x.1.2.2.2.2.2.1,(8589934592:Int),())) λe=>some e.1)
 (some false)) λe=>ab (aj e
 (ab (oG (x.1.2.2.2.2.2.2.1,(8589934592:Int),())) λf=>some f.1)
 (some false)) λf=>some (aj (aj f
 (aj (nt<|aL x.1.2.2.2.2.2.1 0)
 (aL x.1.2.1 1)
 true)
 false)
 a.1.1
 false,()))
def mC(x:Sb×ai)(a:(Int×Int×ai)×ai):Option (((Int×Int×ai)×ai)⊕((Int×Int×ai)×ai)) :=
 cA (aj (aO a.1.2.1<|len x.1)
 (ab (aj (aj (ca 148 a.1.2.1)
 (aO a.1.2.1 156)
 false)
 (some ((ax i64 a.1.1 32,()),()))
 (ab (idx x.1 a.1.2.1) λb=>some ((ax i64 a.1.1<|kq i64<|u8 b,()),()))) λb=>some (Sum.inl ((b.1.1,ax i64 a.1.2.1 1,()),())))
 (some<|Sum.inr (0,(a.1.1,a.1.2.1,()),())))
def vA(x:Sb×ai):Option (Int×ai) :=
 ab (Loop (mC x) (((0:Int),(0:Int),()),())) (λa=>some (a.1.1,()))
end Go.Ge
namespace Go.Ge
variable [Lp]
set_option maxRecDepth 100000
abbrev Gr:=((Sb×Int×Int×Int×Int×Int×Int×Sb×ai)×Sb×ai)
abbrev Ri:=(Bool×Sb×Int×Bool×Bool×ai)
def wq(x:Int×ai):Option (Sb×ai) :=
 ab (mV (([0]:aq),x.1,())) (λa=>some (a.1,()))
def uF(x:Int×ai):Option (Int×ai) :=
 aj (aL 512 0)
 none
 (aj (aL 512 0)
 none
 (some (iA (cE i64 512<|iA x.1 512) 512,())))
def ep(x:(Bool×ai)×Ri×ai):Option ((Gr×Bool×ai)×Ri×ai) :=
 some ((((([]:aq),(0:Int),(0:Int),(0:Int),(0:Int),(0:Int),(0:Int),([]:aq),()),([]:aq),()),false,()),(x.2.1.1,([]:aq),x.2.1.2.2.1,true,x.1.1,x.2.1.2.2.2.2.2),())
def bE(x:ai×Ri×ai):Option ((Gr×Bool×ai)×Ri×ai) :=
 aj (aj (nt<|nt x.2.1.1)
 x.2.1.2.2.2.1
 true)
 (some ((((([]:aq),(0:Int),(0:Int),(0:Int),(0:Int),(0:Int),(0:Int),([]:aq),()),([]:aq),()),false,()),x.2.1,()))
 (aj (aO (len x.2.1.2.1) 512)
 (ab (ep ((true,()),x.2.1,())) λd=>some ((d.1.1,d.1.2.1,()),d.2.1,()))
 (aj (inside 0 512<|len x.2.1.2.1)
 (ab (rf (sub x.2.1.2.1 (0:Int)<|minus 512 0,())) λd=>aj d.1
 (ab (aj (ca 1024<|len x.2.1.2.1)
 (aj (aL 512 0)
 none
 (some<|aL (iA (len x.2.1.2.1) 512) 0))
 (some false)) λb=>ab (aj (nt<|nt b)
 (ab (gZ (x.2.1.2.1,([0]:aq),())) λc=>some (nt<|bz c.1 ([]:aq)))
 (some true)) λc=>ab (ep ((c,()),x.2.1,())) λa=>some ((a.1.1,a.1.2.1,()),a.2.1,()))
 (aj (inside 0 512<|len x.2.1.2.1)
 (ab (eW (sub x.2.1.2.1 (0:Int)<|minus 512 0,())) λb=>aj (inside 512 (len x.2.1.2.1)<|len x.2.1.2.1)
 (aj (nt<|aL b.2.1 0)
 (ab (ep ((true,()),x.2.1,())) λc=>some ((c.1.1,c.1.2.1,()),c.2.1,()))
 (aj (aO (len<|sub x.2.1.2.1 (512:Int)<|minus (len x.2.1.2.1) 512) b.1.2.2.2.2.2.1)
 (ab (ep ((true,()),x.2.1,())) λc=>some ((c.1.1,c.1.2.1,()),c.2.1,()))
 (ab (uF (b.1.2.2.2.2.2.1,())) λc=>aj (aO (len<|sub x.2.1.2.1 (512:Int)<|minus (len x.2.1.2.1) 512)<|ax i64 b.1.2.2.2.2.2.1 c.1)
 (ab (ep ((true,()),x.2.1,())) λa=>some ((a.1.1,a.1.2.1,()),a.2.1,()))
 (aj (ca 64 x.2.1.2.2.1)
 (ab (ep ((true,()),x.2.1,())) λa=>some ((a.1.1,a.1.2.1,()),a.2.1,()))
 (ab (uF (b.1.2.2.2.2.2.1,())) λa=>aj (inside (ax i64 b.1.2.2.2.2.2.1 a.1) (len<|sub x.2.1.2.1 (512:Int)<|minus (len x.2.1.2.1) 512)<|len<|sub x.2.1.2.1 (512:Int)<|minus (len x.2.1.2.1) 512)
 (aj (inside 0 b.1.2.2.2.2.2.1<|len<|sub x.2.1.2.1 (512:Int)<|minus (len x.2.1.2.1) 512)
 (some (((b.1,sub (sub x.2.1.2.1 (512:Int)<|minus (len x.2.1.2.1) 512) (0:Int)<|minus b.1.2.2.2.2.2.1 0,()),true,()),(x.2.1.1,sub (sub x.2.1.2.1 (512:Int)<|minus (len x.2.1.2.1) 512) (ax i64 b.1.2.2.2.2.2.1 a.1)<|minus (len<|sub x.2.1.2.1 (512:Int)<|minus (len x.2.1.2.1) 512)<|ax i64 b.1.2.2.2.2.2.1 a.1,ax i64 x.2.1.2.2.1 1,x.2.1.2.2.2),()))
 none)
 none)))))
 none)
 none))
 none))
def gQ(x:ai×Ri×ai):Option ((Bool×ai)×Ri×ai) :=
 some ((x.2.1.2.2.2.2.1,()),x.2.1,())
def gG(a:(ai×ai×Bool×ai)×Gr×(List Gr)×Ri×ai):Option (((ai×ai×Bool×ai)×Gr×(List Gr)×Ri×ai)⊕((ai×ai×Bool×ai)×Gr×(List Gr)×Ri×ai)) :=
 cA (aj a.1.2.2.1
 (aj (fits<|plus (len a.2.2.1)<|len ([a.2.1]:List Gr))
 (ab (bE ((),a.2.2.2.1,())) λb=>some (Sum.inl (((),(),b.1.2.1,()),b.1.1,app a.2.2.1 ([a.2.1]:List Gr),b.2.1,())))
 none)
 (some<|Sum.inr (0,((),(),a.1.2.2.1,()),a.2.1,a.2.2.1,a.2.2.2.1,())))
def fv(x:Sb×ai):Option ((List Gr)×Int×ai) :=
 ab (bE ((),(true,x.1,(0:Int),aO 8192<|len x.1,aO 8192<|len x.1,()),())) (λa=>ab (Loop (gG) (((),(),a.1.2.1,()),a.1.1,([]:List Gr),a.2.1,())) λb=>ab (gQ ((),b.2.2.2.1,())) λc=>aj c.1.1
 (some (([]:List Gr),(10:Int),()))
 (some (b.2.2.1,(0:Int),())))
def jY(a:(Int×ai)×ai):Option (((Int×ai)×ai)⊕((Int×ai)×ai)) :=
 cA (aj (aL 512 0)
 none
 (aj (nt<|aL (iA a.1.1 512) 0)
 (some<|Sum.inl ((ax i64 a.1.1 1,()),()))
 (some<|Sum.inr (0,(a.1.1,()),()))))
def lL(x:Int×ai):Option (Int×ai) :=
 ab (Loop (jY) ((x.1,()),())) (λa=>some (a.1.1,()))
end Go.Ge
namespace Go.Ge
variable [Lp]
set_option maxRecDepth 100000
abbrev ZN:=(((Bool×Int×ai)×ai)⊕(Nat×(Bool×Int×ai)×ai))
abbrev Gs:=(Int×Int×ai)
abbrev aeF:=((Gs×ai)⊕(Nat×Gs×ai))
abbrev ZO:=(Int×Int×Int×ai)
def gH(x:Sb×ai):Option ((List Sb)×ai) :=
 aj (bz x.1 ([]:aq))
 (some (([]:List Sb),()))
 (ab (zi (x.1,([47]:aq),())) λa=>some (a.1,()))
def ET(x:Sb×ai)(a:(Bool×Int×ai)×ai):Option ZN :=
 aj (aO a.1.2.1 2)
 (ab (idx ([([46]:aq),([46,46]:aq)]:List Sb) a.1.2.1) λb=>aj (bz x.1 b)
 (some<|Sum.inr (1,(false,a.1.2.1,()),()))
 (some<|Sum.inl ((a.1.1,ax i64 a.1.2.1 1,()),())))
 (some<|Sum.inr (0,(a.1.1,a.1.2.1,()),()))
def An(x:Sb×ai):Option (Bool×ai) :=
 ab (Loop (ET x) ((false,(0:Int),()),())) (λb=>aj (cR b.1 0)
 (ab (aj (aj (ca 1<|len x.1)
 (ca (len x.1) 32)
 false)
 (ab (fg (x.1,(0:Int),())) λa=>some (aO a.1 0))
 (some false)) λa=>some (a,()))
 (some (b.2.1.1,())))
def cT(x:Sb×Sb×ai):Option (Bool×ai) :=
 ab (cM (x.1,x.2.1,())) (λa=>some (a.1,()))
def Gt(d:(List Sb)×ai)(a:(Sb×Int×ai×Int×ai)×(List Sb)×ai):Option (((Sb×Int×ai×Int×ai)×(List Sb)×ai)⊕(Nat×(Sb×Int×ai×Int×ai)×(List Sb)×ai)) :=
 aj (aO a.1.2.2.2.1<|len d.1)
 (ab (idx d.1 a.1.2.2.2.1) λc=>ab (aj (aj (nt<|bz c ([]:aq))
 (bz c ([46]:aq))
 true)
 (some (0,(a.1.1,a.1.2.1,(),()),a.2.1,()))
 (ab (An (c,())) λb=>aj (nt b.1)
 (some (1,(([]:aq),(2:Int),(),()),a.2.1,()))
 (aj (fits<|plus (len a.2.1)<|len ([c]:List Sb))
 (some (0,(a.1.1,a.1.2.1,(),()),app a.2.1 ([c]:List Sb),()))
 none))) λb=>aj (cR b.1 0)
 (some<|Sum.inl ((b.2.1.1,b.2.1.2.1,(),ax i64 a.1.2.2.2.1 1,()),b.2.2.1,()))
 (some<|Sum.inr (1,(b.2.1.1,b.2.1.2.1,(),a.1.2.2.2.1,()),b.2.2.1,())))
 (some<|Sum.inr (0,(a.1.1,a.1.2.1,(),a.1.2.2.2.1,()),a.2.1,()))
def wu(x:Sb×ai):Option (Sb×Int×ai) :=
 ab (gH (x.1,())) (λc=>ab (Loop (Gt c) ((([]:aq),(0:Int),(),(0:Int),()),([]:List Sb),())) λa=>aj (cR a.1 0)
 (ab (uD (a.2.2.1,([47]:aq),())) λb=>ab (cT (x.1,([47]:aq),())) λd=>aj (aj (nt<|aj (nt d.1)
 (aO 8<|len a.2.2.1)
 true)
 (aO 96<|len b.1)
 true)
 (some (([]:aq),(2:Int),()))
 (some (b.1,(0:Int),())))
 (some (a.2.1.1,a.2.1.2.1,())))
def dM(x:(List Sb)×Sb×ai)(a:Gs×ai):Option aeF :=
 aj (aO a.1.2.1<|len x.1)
 (ab (idx x.1 a.1.2.1) λb=>aj (bz x.2.1 b)
 (some<|Sum.inr (1,(a.1.2.1,a.1.2.1,()),()))
 (some<|Sum.inl ((a.1.1,ax i64 a.1.2.1 1,()),())))
 (some<|Sum.inr (0,(a.1.1,a.1.2.1,()),()))
def gd(x:(List Sb)×Sb×ai):Option (Int×ai) :=
 ab (Loop (dM x) (((0:Int),(0:Int),()),())) (λa=>aj (cR a.1 0)
 (some ((-1:Int),()))
 (some (a.2.1.1,())))
def bI(x:(List Sb)×Sb×ai):Option (Bool×ai) :=
 ab (gd (x.1,x.2.1,())) (λa=>some (ca 0 a.1,()))
def yq(x:Sb×ai):Option (Int×Sb×ai) :=
 ab (sX (x.1,([46,119,104,46]:aq),())) (λa=>aj (nt a.2.1)
 (some ((0:Int),x.1,()))
 (aj (bz x.1 ([46,119,104,46,46,119,104,46,46,111,112,113]:aq))
 (some ((2:Int),([]:aq),()))
 (ab (cT (a.1,([46,119,104,46]:aq),())) λc=>ab (aj (nt c.1)
 (ab (bI (([([]:aq),([46]:aq),([46,46]:aq)]:List Sb),a.1,())) λb=>some b.1)
 (some true)) λb=>aj b
 (some ((3:Int),([]:aq),()))
 (some ((1:Int),a.1,())))))
def kZ(x:Sb×Int×ai)(a:Gs×ai):Option aeF :=
 aj (ca 0 a.1.2.1)
 (ab (idx x.1 a.1.2.1) λb=>aj (aL (u8 b) x.2.1)
 (some<|Sum.inr (1,(a.1.2.1,a.1.2.1,()),()))
 (some<|Sum.inl ((a.1.1,cE i64 a.1.2.1 1,()),())))
 (some<|Sum.inr (0,(a.1.1,a.1.2.1,()),()))
def fG(x:Sb×Int×ai):Option (Int×ai) :=
 ab (Loop (kZ x) (((0:Int),cE i64 (len x.1) 1,()),())) (λa=>aj (cR a.1 0)
 (some ((-1:Int),()))
 (some (a.2.1.1,())))
def mf(x:Sb×ai)(a:Gs×ai):Option ((Gs×ai)⊕(Gs×ai)) :=
 cA (aj (ca 0 a.1.2.1)
 (ab (idx x.1 a.1.2.1) λb=>some (Sum.inl ((ax u32 (gU u32 a.1.1 16777619)<|kq u32<|u8 b,cE i64 a.1.2.1 1,()),())))
 (some<|Sum.inr (0,(a.1.1,a.1.2.1,()),())))
def mg(a:ZO×ai):Option ((ZO×ai)⊕(ZO×ai)) :=
 cA (aj (aO 0 a.1.2.2.1)
 (aj (aO 1 0)
 none
 (some<|Sum.inl ((((aj (nt<|aL (jQ i64 a.1.2.2.1 1) 0)
 ((gU u32 a.1.1 a.1.2.1,()),())
 ((a.1.1,()),())).1).1,gU u32 a.1.2.1 a.1.2.1,mQ i64 a.1.2.2.1 1,()),())))
 (some<|Sum.inr (0,(a.1.1,a.1.2.1,a.1.2.2.1,()),())))
def gl(x:Sb×ai):Option Gs :=
 ab (Loop (mf x) (((0:Int),cE i64 (len x.1) 1,()),())) (λa=>ab (Loop (mg) (((1:Int),(16777619:Int),len x.1,()),())) λb=>some (a.1.1,b.1.1,()))
def ja(x:Sb×Sb×ai)(a:Gs×ai):Option ((Gs×ai)⊕(Gs×ai)) :=
 cA (aj (ca (cE i64 (len x.1)<|len x.2.1) a.1.2.1)
 (ab (idx x.1 a.1.2.1) λb=>some (Sum.inl ((ax u32 (gU u32 a.1.1 16777619)<|kq u32<|u8 b,cE i64 a.1.2.1 1,()),())))
 (some<|Sum.inr (0,(a.1.1,a.1.2.1,()),())))
def jb(x:Sb×Sb×ai)(b:Int×Int×ai)(a:ZO×ai):Option ((ZO×ai)⊕(Nat×ZO×ai)) :=
 aj (ca 0 a.1.2.2.1)
 (ab (idx x.1 a.1.2.2.1) λc=>ab (idx x.1<|ax i64 a.1.2.2.1<|len x.2.1) λd=>ab (aj (aL (cE u32 (ax u32 (gU u32 a.1.2.1 16777619)<|kq u32<|u8 c)<|gU u32 b.2.1<|kq u32<|u8 d) b.1)
 (aj (inside a.1.2.2.1 (ax i64 a.1.2.2.1<|len x.2.1)<|len x.1)
 (some<|bz (sub x.1 a.1.2.2.1<|minus (ax i64 a.1.2.2.1<|len x.2.1) a.1.2.2.1) x.2.1)
 none)
 (some false)) λe=>aj e
 (some<|Sum.inr (1,(a.1.2.2.1,cE u32 (ax u32 (gU u32 a.1.2.1 16777619)<|kq u32<|u8 c)<|gU u32 b.2.1<|kq u32<|u8 d,a.1.2.2.1,()),()))
 (some<|Sum.inl ((a.1.1,cE u32 (ax u32 (gU u32 a.1.2.1 16777619)<|kq u32<|u8 c)<|gU u32 b.2.1<|kq u32<|u8 d,cE i64 a.1.2.2.1 1,()),())))
 (some<|Sum.inr (0,(a.1.1,a.1.2.1,a.1.2.2.1,()),()))
def eL(x:Sb×Sb×ai):Option (Int×ai) :=
 ab (gl (x.2.1,())) (λa=>ab (Loop (ja x) (((0:Int),cE i64 (len x.1) 1,()),())) λb=>ab (aj (aL b.1.1 a.1)
 (aj (inside (cE i64 (len x.1)<|len x.2.1) (len x.1)<|len x.1)
 (some<|bz (sub x.1 (cE i64 (len x.1)<|len x.2.1)<|minus (len x.1)<|cE i64 (len x.1)<|len x.2.1) x.2.1)
 none)
 (some false)) λd=>aj d
 (some (cE i64 (len x.1)<|len x.2.1,()))
 (ab (Loop (jb x a) (((0:Int),b.1.1,cE i64 (cE i64 (len x.1)<|len x.2.1) 1,()),())) λc=>aj (cR c.1 0)
 (some ((-1:Int),()))
 (some (c.2.1.1,()))))
def sY(x:Sb×Sb×ai):Option (Int×ai) :=
 aj (aL (len x.2.1) 0)
 (some (len x.1,()))
 (aj (aL (len x.2.1) 1)
 (ab (idx x.2.1 (0:Int)) λa=>ab (fG (x.1,u8 a,())) λb=>some (b.1,()))
 (aj (aL (len x.2.1)<|len x.1)
 (aj (bz x.2.1 x.1)
 (some ((0:Int),()))
 (some ((-1:Int),())))
 (aj (aO (len x.1)<|len x.2.1)
 (some ((-1:Int),()))
 (ab (eL (x.1,x.2.1,())) λa=>some (a.1,())))))
def jx(x:Sb×ai):Option (Sb×Sb×ai) :=
 ab (sY (x.1,([47]:aq),())) (λa=>aj (aO a.1 0)
 (some (([]:aq),x.1,()))
 (aj (inside 0 a.1<|len x.1)
 (aj (inside (ax i64 a.1 1) (len x.1)<|len x.1)
 (some (sub x.1 (0:Int)<|minus a.1 0,sub x.1 (ax i64 a.1 1)<|minus (len x.1)<|ax i64 a.1 1,()))
 none)
 none))
def qh(x:(List Sb)×(List Sb)×ai)(a:(Bool×Int×ai)×ai):Option ZN :=
 aj (aO a.1.2.1<|len x.1)
 (ab (idx x.1 a.1.2.1) λb=>ab (idx x.2.1 a.1.2.1) λc=>aj (nt<|bz b c)
 (some<|Sum.inr (1,(false,a.1.2.1,()),()))
 (some<|Sum.inl ((a.1.1,ax i64 a.1.2.1 1,()),())))
 (some<|Sum.inr (0,(a.1.1,a.1.2.1,()),()))
def la(x:(List Sb)×(List Sb)×ai):Option (Bool×ai) :=
 aj (nt<|aL (len x.1)<|len x.2.1)
 (some (false,()))
 (ab (Loop (qh x) ((false,(0:Int),()),())) λa=>aj (cR a.1 0)
 (some (true,()))
 (some (a.2.1.1,())))
def eX(x:Sb×Sb×ai):Option (Bool×ai) :=
 ab (gH (x.1,())) (λb=>ab (gH (x.2.1,())) λa=>ab (aj (aO (len a.1)<|len b.1)
 (aj (inside 0 (len a.1)<|len b.1)
 (ab (la (sub b.1 (0:Int)<|minus (len a.1) 0,a.1,())) λc=>some c.1)
 none)
 (some false)) λc=>some (c,()))
def oH(x:Sb×ai):Option (Bool×ai) :=
 some (nt<|bz x.1 x.1,())
def r0(x:Sb×Sb×ai):Option (Int×ai) :=
 ab (oH (x.1,())) (λb=>ab (oH (x.2.1,())) λa=>aj b.1
 (aj a.1
 (some ((0:Int),()))
 (some ((-1:Int),())))
 (aj a.1
 (some ((1:Int),()))
 (aj (jH x.1 x.2.1)
 (some ((-1:Int),()))
 (aj (nt<|oor (jH x.1 x.2.1)<|bz x.1 x.2.1)
 (some ((1:Int),()))
 (some ((0:Int),()))))))
def Dj(b:(List Sb)×ai)(c:(List Sb)×ai)(a:Gs×ai):Option aeF :=
 aj (aO a.1.2.1<|len b.1)
 (ab (idx b.1 a.1.2.1) λe=>aj (ca (len c.1) a.1.2.1)
 (some<|Sum.inr (1,((1:Int),a.1.2.1,()),()))
 (ab (idx c.1 a.1.2.1) λf=>ab (r0 (e,f,())) λd=>aj (nt<|aL d.1 0)
 (some<|Sum.inr (1,(d.1,a.1.2.1,()),()))
 (some<|Sum.inl ((a.1.1,ax i64 a.1.2.1 1,()),()))))
 (some<|Sum.inr (0,(a.1.1,a.1.2.1,()),()))
def oi(x:Sb×Sb×ai):Option (Int×ai) :=
 ab (gH (x.1,())) (λa=>ab (gH (x.2.1,())) λb=>ab (Loop (Dj a b) (((0:Int),(0:Int),()),())) λc=>aj (cR c.1 0)
 (aj (aO (len a.1)<|len b.1)
 (some ((-1:Int),()))
 (some ((0:Int),())))
 (some (c.2.1.1,())))
def jZ(x:Sb×ai)(a:(ai×Sb×Int×ai)×(List Sb)×ai):Option (((ai×Sb×Int×ai)×(List Sb)×ai)⊕((ai×Sb×Int×ai)×(List Sb)×ai)) :=
 cA (aj (aO a.1.2.2.1<|len x.1)
 (ab (idx x.1 a.1.2.2.1) λc=>ab (aj (aL (u8 c) 47)
 (aj (fits<|plus (len a.2.1)<|len ([a.1.2.1]:List Sb))
 (some (((),([]:aq),()),app a.2.1 ([a.1.2.1]:List Sb),()))
 none)
 (aj (inside a.1.2.2.1 (ax i64 a.1.2.2.1 1)<|len x.1)
 (aj (fits<|plus (len a.1.2.1)<|len<|sub x.1 a.1.2.2.1<|minus (ax i64 a.1.2.2.1 1) a.1.2.2.1)
 (some (((),app a.1.2.1<|sub x.1 a.1.2.2.1<|minus (ax i64 a.1.2.2.1 1) a.1.2.2.1,()),a.2.1,()))
 none)
 none)) λb=>some (Sum.inl (((),b.1.2.1,ax i64 a.1.2.2.1 1,()),b.2.1,())))
 (some<|Sum.inr (0,((),a.1.2.1,a.1.2.2.1,()),a.2.1,())))
def dT(x:Sb×ai):Option ((List Sb)×ai) :=
 aj (bz x.1 ([]:aq))
 (some (([]:List Sb),()))
 (ab (Loop (jZ x) (((),([]:aq),(0:Int),()),([]:List Sb),())) λa=>aj (fits<|plus (len a.2.1)<|len ([a.1.2.1]:List Sb))
 (some (app a.2.1 ([a.1.2.1]:List Sb),()))
 none)
def ld(x:(List Sb)×ai)(a:(Sb×Int×ai)×ai):Option (((Sb×Int×ai)×ai)⊕((Sb×Int×ai)×ai)) :=
 cA (aj (aO a.1.2.1<|len x.1)
 (ab (aj (aO 0 a.1.2.1)
 (aj (fits<|plus (len a.1.1)<|len ([47]:aq))
 (some ((app a.1.1 ([47]:aq),()),()))
 none)
 (some ((a.1.1,()),()))) λb=>ab (idx x.1 a.1.2.1) λc=>aj (fits<|plus (len b.1.1)<|len c)
 (some<|Sum.inl ((app b.1.1 c,ax i64 a.1.2.1 1,()),()))
 none)
 (some<|Sum.inr (0,(a.1.1,a.1.2.1,()),())))
def mY(x:(List Sb)×ai):Option (Sb×ai) :=
 ab (Loop (ld x) ((([]:aq),(0:Int),()),())) (λa=>some (a.1.1,()))
def jc(x:Sb×ai)(a:(Bool×Int×ai)×ai):Option ZN :=
 aj (aO a.1.2.1<|len x.1)
 (ab (idx x.1 a.1.2.1) λc=>ab (aj (nt<|aL (u8 c) 0)
 (ab (idx x.1 a.1.2.1) λb=>some (aL (u8 b) 47))
 (some true)) λb=>aj b
 (some<|Sum.inr (1,(false,a.1.2.1,()),()))
 (some<|Sum.inl ((a.1.1,ax i64 a.1.2.1 1,()),())))
 (some<|Sum.inr (0,(a.1.1,a.1.2.1,()),()))
def pL(x:Sb×ai):Option (Bool×ai) :=
 ab (Loop (jc x) ((false,(0:Int),()),())) (λa=>aj (cR a.1 0)
 (some (aj (aj (aj (ca 1<|len x.1)
 (ca (len x.1) 32)
 false)
 (nt<|bz x.1 ([46]:aq))
 false)
 (nt<|bz x.1 ([46,46]:aq))
 false,()))
 (some (a.2.1.1,())))
def nS(b:(List Sb)×ai)(a:(Bool×Int×ai)×ai):Option ZN :=
 aj (aO a.1.2.1<|len b.1)
 (ab (idx b.1 a.1.2.1) λc=>ab (pL (c,())) λd=>aj (nt d.1)
 (some<|Sum.inr (1,(false,a.1.2.1,()),()))
 (some<|Sum.inl ((a.1.1,ax i64 a.1.2.1 1,()),())))
 (some<|Sum.inr (0,(a.1.1,a.1.2.1,()),()))
def uG(x:Sb×ai):Option (Bool×ai) :=
 ab (dT (x.1,())) (λa=>ab (Loop (nS a) ((false,(0:Int),()),())) λb=>aj (cR b.1 0)
 (some (aj (ca (len a.1) 8)
 (ca (len x.1) 96)
 false,()))
 (some (b.2.1.1,())))
def j0(b:(List Sb)×ai)(a:(ai×Int×ai)×(List Sb)×ai):Option (((ai×Int×ai)×(List Sb)×ai)⊕((ai×Int×ai)×(List Sb)×ai)) :=
 cA (aj (aO a.1.2.1<|len b.1)
 (ab (idx b.1 a.1.2.1) λe=>ab (aj (nt<|bz e ([]:aq))
 (ab (idx b.1 a.1.2.1) λd=>some (nt<|bz d ([46]:aq)))
 (some false)) λd=>ab (aj d
 (ab (idx b.1 a.1.2.1) λc=>aj (fits<|plus (len a.2.1)<|len ([c]:List Sb))
 (some (((),()),app a.2.1 ([c]:List Sb),()))
 none)
 (some (((),()),a.2.1,()))) λc=>some (Sum.inl (((),ax i64 a.1.2.1 1,()),c.2.1,())))
 (some<|Sum.inr (0,((),a.1.2.1,()),a.2.1,())))
def rh(x:Sb×ai):Option (Sb×Int×ai) :=
 ab (dT (x.1,())) (λd=>ab (Loop (j0 d) (((),(0:Int),()),([]:List Sb),())) λe=>ab (mY (e.2.1,())) λc=>ab (aj (nt<|bz x.1 ([]:aq))
 (ab (idx x.1 (0:Int)) λa=>some (aL (u8 a) 47))
 (some false)) λa=>ab (aj (nt a)
 (ab (uG (c.1,())) λb=>some (nt b.1))
 (some true)) λb=>aj b
 (some (([]:aq),(2:Int),()))
 (some (c.1,(0:Int),())))
def mD(x:Sb×Sb×ai):Option (Bool×ai) :=
 ab (aj (ca (len x.2.1)<|len x.1)
 (aj (inside 0 (len x.2.1)<|len x.1)
 (some<|bz (sub x.1 (0:Int)<|minus (len x.2.1) 0) x.2.1)
 none)
 (some false)) (λa=>some (a,()))
def pM(x:Sb×ai):Option (Int×Sb×ai) :=
 aj (bz x.1 ([46,119,104,46,46,119,104,46,46,111,112,113]:aq))
 (some ((2:Int),([]:aq),()))
 (ab (mD (x.1,([46,119,104,46,46,119,104,46]:aq),())) λa=>aj (aj (nt<|aj (nt<|aj (nt a.1)
 (bz x.1 ([46,119,104,46]:aq))
 true)
 (bz x.1 ([46,119,104,46,46]:aq))
 true)
 (bz x.1 ([46,119,104,46,46,46]:aq))
 true)
 (some ((3:Int),([]:aq),()))
 (ab (mD (x.1,([46,119,104,46]:aq),())) λb=>aj b.1
 (aj (inside 4 (len x.1)<|len x.1)
 (some ((1:Int),sub x.1 (4:Int)<|minus (len x.1) 4,()))
 none)
 (some ((0:Int),x.1,()))))
def jy(x:Sb×ai):Option (Sb×Sb×ai) :=
 ab (dT (x.1,())) (λa=>aj (aL (len a.1) 0)
 (some (([]:aq),([]:aq),()))
 (aj (inside 0 (cE i64 (len a.1) 1)<|len a.1)
 (ab (mY (sub a.1 (0:Int)<|minus (cE i64 (len a.1) 1) 0,())) λb=>ab (idx a.1<|cE i64 (len a.1) 1) λc=>some (b.1,c,()))
 none))
def jd(x:(List Sb)×(List Sb)×ai)(a:(Bool×Int×ai)×ai):Option ZN :=
 aj (aj (aO a.1.2.1<|len x.1)
 (aO a.1.2.1<|len x.2.1)
 false)
 (ab (idx x.1 a.1.2.1) λb=>ab (idx x.2.1 a.1.2.1) λc=>aj (nt<|bz b c)
 (some<|Sum.inr (1,(false,a.1.2.1,()),()))
 (some<|Sum.inl ((a.1.1,ax i64 a.1.2.1 1,()),())))
 (some<|Sum.inr (0,(a.1.1,a.1.2.1,()),()))
def dH(x:(List Sb)×(List Sb)×ai):Option (Bool×ai) :=
 aj (nt<|aL (len x.1)<|len x.2.1)
 (some (false,()))
 (ab (Loop (jd x) ((false,(0:Int),()),())) λa=>aj (cR a.1 0)
 (some (true,()))
 (some (a.2.1.1,())))
def tm(x:Sb×Sb×ai):Option (Sb×ai) :=
 aj (aj (nt<|bz x.1 ([]:aq))
 (bz x.2.1 ([]:aq))
 true)
 (aj (fits<|plus (len x.1)<|len x.2.1)
 (some (app x.1 x.2.1,()))
 none)
 (aj (fits<|plus (len x.1)<|len ([47]:aq))
 (aj (fits<|plus (len<|app x.1 ([47]:aq))<|len x.2.1)
 (some (app (app x.1 ([47]:aq)) x.2.1,()))
 none)
 none)
def mZ(x:Sb×Sb×ai):Option (Sb×ai) :=
 aj (bz x.1 ([]:aq))
 (some (x.2.1,()))
 (aj (bz x.2.1 ([]:aq))
 (some (x.1,()))
 (aj (fits<|plus (len x.1)<|len ([47]:aq))
 (aj (fits<|plus (len<|app x.1 ([47]:aq))<|len x.2.1)
 (some (app (app x.1 ([47]:aq)) x.2.1,()))
 none)
 none))
def j6(b:(List Sb)×ai)(c:(List Sb)×ai)(a:(Bool×Int×ai)×ai):Option ZN :=
 aj (aj (aO a.1.2.1<|len c.1)
 (aO a.1.2.1<|len b.1)
 false)
 (ab (idx b.1 a.1.2.1) λd=>ab (idx c.1 a.1.2.1) λe=>aj (nt<|bz d e)
 (some<|Sum.inr (1,(false,a.1.2.1,()),()))
 (some<|Sum.inl ((a.1.1,ax i64 a.1.2.1 1,()),())))
 (some<|Sum.inr (0,(a.1.1,a.1.2.1,()),()))
def ri(x:Sb×Sb×ai):Option (Bool×ai) :=
 ab (dT (x.1,())) (λa=>ab (dT (x.2.1,())) λb=>aj (ca (len a.1)<|len b.1)
 (some (false,()))
 (ab (Loop (j6 a b) ((false,(0:Int),()),())) λc=>aj (cR c.1 0)
 (some (true,()))
 (some (c.2.1.1,()))))
def dk(b:(List Sb)×ai)(c:(List Sb)×ai)(a:Gs×ai):Option aeF :=
 aj (aj (aO a.1.2.1<|len b.1)
 (aO a.1.2.1<|len c.1)
 false)
 (ab (idx b.1 a.1.2.1) λf=>ab (idx c.1 a.1.2.1) λg=>aj (jH f g)
 (some<|Sum.inr (1,((-1:Int),a.1.2.1,()),()))
 (ab (idx b.1 a.1.2.1) λd=>ab (idx c.1 a.1.2.1) λe=>aj (nt<|oor (jH d e)<|bz d e)
 (some<|Sum.inr (1,((1:Int),a.1.2.1,()),()))
 (some<|Sum.inl ((a.1.1,ax i64 a.1.2.1 1,()),()))))
 (some<|Sum.inr (0,(a.1.1,a.1.2.1,()),()))
def lf(x:Sb×Sb×ai):Option (Int×ai) :=
 ab (dT (x.1,())) (λa=>ab (dT (x.2.1,())) λb=>ab (Loop (dk a b) (((0:Int),(0:Int),()),())) λc=>aj (cR c.1 0)
 (aj (aO (len a.1)<|len b.1)
 (some ((-1:Int),()))
 (aj (aO (len b.1)<|len a.1)
 (some ((1:Int),()))
 (some ((0:Int),()))))
 (some (c.2.1.1,())))
end Go.Ge
namespace Go.Ge
variable [Lp]
set_option maxRecDepth 100000
def fH(x:Sb×ai)(a:(Int×Bool×Int×Int×ai)×ai):Option (((Int×Bool×Int×Int×ai)×ai)⊕(Nat×(Int×Bool×Int×Int×ai)×ai)) :=
 aj (aO a.1.2.2.2.1<|len x.1)
 (ab (idx x.1 a.1.2.2.2.1) λc=>ab (aj (nt<|aO (u8 c) 48)
 (ab (idx x.1 a.1.2.2.2.1) λb=>some (aO 55<|u8 b))
 (some true)) λb=>aj (aj (nt b)
 (aO 1152921504606846975 a.1.2.2.1)
 true)
 (some<|Sum.inr (1,((0:Int),false,a.1.2.2.1,a.1.2.2.2.1,()),()))
 (ab (idx x.1 a.1.2.2.2.1) λd=>some (Sum.inl ((a.1.1,a.1.2.1,ax i64 (gU i64 8 a.1.2.2.1)<|kq i64<|cE IntKind.u8 (u8 d) 48,ax i64 a.1.2.2.2.1 1,()),()))))
 (some<|Sum.inr (0,(a.1.1,a.1.2.1,a.1.2.2.1,a.1.2.2.2.1,()),()))
def l4(x:Sb×ai):Option (Int×Bool×ai) :=
 aj (aj (nt<|aO (len x.1) 1)
 (aO 21<|len x.1)
 true)
 (some ((0:Int),false,()))
 (ab (Loop (fH x) (((0:Int),false,(0:Int),(0:Int),()),())) λa=>aj (cR a.1 0)
 (some (a.2.1.2.2.1,true,()))
 (some (a.2.1.1,a.2.1.2.1,())))
end Go.Ge
namespace Go.Ge
variable [Lp]
set_option maxRecDepth 100000
abbrev zj:=(Int×(List<|Sb×Sb×(List Sb)×Sb×Int×Int×Bool×ai)×(List<|Sb×(List Sb)×Sb×Sb×(List<|Sb×Sb×Sb×ai)×ai)×(List<|Sb×(List Sb)×Sb×Sb×Sb×(List<|Sb×Sb×Sb×ai)×ai)×ai)
abbrev fS:=(Sb×(List Sb)×ai)
abbrev EU:=(((Bool×Int×ai)×ai)⊕(Nat×(Bool×Int×ai)×ai))
abbrev PG:=((Int×ai)×ai×(List fS)×ai)
abbrev PH:=((ai×Int×ai)×(List fS)×ai)
abbrev zk:=(Int×Int×ai)
abbrev Cm:=(Bool×Int×ai)
def dI(l:List aq)(x:ai):Option (List aq):=bif fits (len l) then some (mw l) else none
def ec(l:List aq)(x:ai):Option (List aq):=some (Lib.compact (α:=aq) l)
def jJ(x:(List Sb)×ai)(a:Cm×ai):Option EU :=
 aj (aj (aO a.1.2.1<|len x.1)
 (aO a.1.2.1 8)
 false)
 (ab (idx x.1 a.1.2.1) λb=>aj (aO 100<|len b)
 (some<|Sum.inr (1,(false,a.1.2.1,()),()))
 (some<|Sum.inl ((a.1.1,ax i64 a.1.2.1 1,()),())))
 (some<|Sum.inr (0,(a.1.1,a.1.2.1,()),()))
def na(x:(List Sb)×ai):Option (Bool×ai) :=
 ab (Loop (jJ x) ((false,(0:Int),()),())) (λa=>aj (cR a.1 0)
 (some (ca (len x.1) 8,()))
 (some (a.2.1.1,())))
def aP(x:(List Sb)×ai):Option ((List Sb)×ai) :=
 bif fits (len x.1) then some (x.1,()) else none
def lg(x:Sb×ai):Option (Bool×ai) :=
 ab (aj (aj (ca 1<|len x.1)
 (ca (len x.1) 32)
 false)
 (ab (gZ (x.1,([97,98,99,100,101,102,103,104,105,106,107,108,109,110,111,112,113,114,115,116,117,118,119,120,121,122,48,49,50,51,52,53,54,55,56,57,46,95,45]:aq),())) λa=>some (bz a.1 ([]:aq)))
 (some false)) (λa=>some (a,()))
def nc(x:(List Sb)×ai)(a:zk×ai):Option ((zk×ai)⊕(Nat×zk×ai)) :=
 aj (aO a.1.2.1<|len x.1)
 (ab (idx x.1 a.1.2.1) λb=>ab (lg (b,())) λc=>aj (nt c.1)
 (some<|Sum.inr (1,(a.1.2.1,a.1.2.1,()),()))
 (some<|Sum.inl ((a.1.1,ax i64 a.1.2.1 1,()),())))
 (some<|Sum.inr (0,(a.1.1,a.1.2.1,()),()))
def fy(x:(List Sb)×ai):Option (Int×ai) :=
 aj (fits<|len x.1)
 (ab (dI x.1 ()) λc=>ab (ec c ()) λa=>ab (Loop (nc x) (((0:Int),(0:Int),()),())) λb=>aj (cR b.1 0)
 (aj (aj (nt<|aj (nt<|aO 4<|len x.1)
 (aO (len a)<|len x.1)
 true)
 (ca 0<|-1)
 true)
 (some ((1:Int),()))
 (some ((0:Int),())))
 (aj (aj (nt<|aj (nt<|aO 4<|len x.1)
 (aO (len a)<|len x.1)
 true)
 (ca 0 b.2.1.1)
 true)
 (some ((1:Int),()))
 (some ((0:Int),()))))
 none
def oj(x:(List fS)×Sb×ai)(a:zk×Sb×ai):Option ((zk×Sb×ai)⊕(Nat×zk×Sb×ai)) :=
 aj (aO a.1.2.1<|len x.1)
 (ab (idx x.1 a.1.2.1) λb=>aj (bz b.1 a.2.1)
 (some<|Sum.inr (1,(a.1.2.1,a.1.2.1,()),a.2.1,()))
 (some<|Sum.inl ((a.1.1,ax i64 a.1.2.1 1,()),a.2.1,())))
 (some<|Sum.inr (0,(a.1.1,a.1.2.1,()),a.2.1,()))
def tn(x:(List fS)×Sb×ai):Option (Int×ai) :=
 ab (Loop (oj x) (((0:Int),(0:Int),()),x.2.1,())) (λa=>aj (cR a.1 0)
 (some ((-1:Int),()))
 (some (a.2.1.1,())))
def iI(b:Sb×(List Sb)×ai)(a:zk×(List Sb)×ai):Option ((zk×(List Sb)×ai)⊕(Nat×zk×(List Sb)×ai)) :=
 aj (aO a.1.2.1<|len b.2.1)
 (ab (idx b.2.1 a.1.2.1) λc=>ab (bI (a.2.1,c,())) λd=>aj d.1
 (some<|Sum.inr (1,(a.1.2.1,a.1.2.1,()),a.2.1,()))
 (some<|Sum.inl ((a.1.1,ax i64 a.1.2.1 1,()),a.2.1,())))
 (some<|Sum.inr (0,(a.1.1,a.1.2.1,()),a.2.1,()))
def om(x:(List fS)×Sb×(List Sb)×ai)(c:Int×ai)(a:zk×(List Sb)×ai):Option ((zk×(List Sb)×ai)⊕(Nat×zk×(List Sb)×ai)) :=
 aj (aO a.1.2.1<|len x.1)
 (ab (idx x.1 a.1.2.1) λd=>aj (nt<|aL a.1.2.1 c.1)
 (ab (Loop (iI d) (((0:Int),(0:Int),()),a.2.1,())) λb=>aj (cR b.1 0)
 (aj (ca 0<|-1)
 (some<|Sum.inr (1,((8:Int),a.1.2.1,()),b.2.2.1,()))
 (some<|Sum.inl ((a.1.1,ax i64 a.1.2.1 1,()),b.2.2.1,())))
 (aj (ca 0 b.2.1.1)
 (some<|Sum.inr (1,((8:Int),a.1.2.1,()),b.2.2.1,()))
 (some<|Sum.inl ((a.1.1,ax i64 a.1.2.1 1,()),b.2.2.1,()))))
 (some<|Sum.inl ((a.1.1,ax i64 a.1.2.1 1,()),a.2.1,())))
 (some<|Sum.inr (0,(a.1.1,a.1.2.1,()),a.2.1,()))
def je(x:(List fS)×Sb×(List Sb)×ai):Option (Int×ai) :=
 ab (fy (x.2.2.1,())) (λa=>aj (nt<|aL a.1 0)
 (some (a.1,()))
 (ab (tn (x.1,x.2.1,())) λc=>ab (Loop (om x c) (((0:Int),(0:Int),()),x.2.2.1,())) λb=>aj (cR b.1 0)
 (some ((0:Int),()))
 (some (b.2.1.1,()))))
def rj(x:Int×zj×ai)(a:(Int×ai)×ai×(List fS)×ai):Option (PG⊕PG) :=
 cA (aj (aO a.1.1<|len x.2.1.2.2.2.1)
 (ab (idx x.2.1.2.2.2.1 a.1.1) λb=>ab (aP (b.2.1,())) λc=>aj (fits<|plus (len a.2.2.1)<|len ([(b.1,c.1,())]:List fS))
 (some<|Sum.inl ((ax i64 a.1.1 1,()),(),app a.2.2.1 ([(b.1,c.1,())]:List fS),()))
 none)
 (some<|Sum.inr (0,(a.1.1,()),(),a.2.2.1,())))
def rk(x:Int×zj×ai)(a:(Int×ai)×ai×(List fS)×ai):Option (PG⊕PG) :=
 cA (aj (aO a.1.1<|len x.2.1.2.2.1)
 (ab (idx x.2.1.2.2.1 a.1.1) λb=>ab (aP (b.2.1,())) λc=>aj (fits<|plus (len a.2.2.1)<|len ([(b.1,c.1,())]:List fS))
 (some<|Sum.inl ((ax i64 a.1.1 1,()),(),app a.2.2.1 ([(b.1,c.1,())]:List fS),()))
 none)
 (some<|Sum.inr (0,(a.1.1,()),(),a.2.2.1,())))
def rl(x:Int×zj×ai)(a:(Int×ai)×ai×(List fS)×ai):Option (PG⊕PG) :=
 cA (aj (aO a.1.1<|len x.2.1.2.1)
 (ab (idx x.2.1.2.1 a.1.1) λb=>ab (aj b.2.2.2.2.2.2.1
 (ab (aP (b.2.2.1,())) λc=>aj (fits<|plus (len a.2.2.1)<|len ([(b.1,c.1,())]:List fS))
 (some ((),b,(),app a.2.2.1 ([(b.1,c.1,())]:List fS),()))
 none)
 (some ((),b,(),a.2.2.1,()))) λc=>some (Sum.inl ((ax i64 a.1.1 1,()),(),c.2.2.2.1,())))
 (some<|Sum.inr (0,(a.1.1,()),(),a.2.2.1,())))
def oI(x:Int×zj×ai):Option ((List fS)×ai) :=
 ab (aj (aL x.1 1)
 (ab (Loop (rj x) (((0:Int),()),(),([]:List fS),())) λa=>some ((),(),a.2.2.1,()))
 (ab (aj (aL x.1 2)
 (ab (Loop (rk x) (((0:Int),()),(),([]:List fS),())) λa=>some ((),(),a.2.2.1,()))
 (ab (aj (aL x.1 3)
 (ab (Loop (rl x) (((0:Int),()),(),([]:List fS),())) λa=>some ((),(),a.2.2.1,()))
 (some ((),(),([]:List fS),()))) λa=>some ((),(),a.2.2.1,()))) λa=>some ((),(),a.2.2.1,()))) (λa=>some (a.2.2.1,()))
def EV(x:Sb×ai)(a:Cm×ai):Option EU :=
 aj (aO a.1.2.1<|len x.1)
 (ab (idx x.1 a.1.2.1) λb=>aj (aj (aj (aj (aj (aj (nt<|aO (u8 b) 97)
 (aO 122<|u8 b)
 true)
 (aj (nt<|aO (u8 b) 48)
 (aO 57<|u8 b)
 true)
 false)
 (nt<|aL (u8 b) 46)
 false)
 (nt<|aL (u8 b) 95)
 false)
 (nt<|aL (u8 b) 45)
 false)
 (some<|Sum.inr (1,(false,a.1.2.1,()),()))
 (some<|Sum.inl ((a.1.1,ax i64 a.1.2.1 1,()),())))
 (some<|Sum.inr (0,(a.1.1,a.1.2.1,()),()))
def uH(x:Sb×ai):Option (Bool×ai) :=
 ab (Loop (EV x) ((false,(0:Int),()),())) (λa=>aj (cR a.1 0)
 (some (aj (ca 1<|len x.1)
 (ca (len x.1) 32)
 false,()))
 (some (a.2.1.1,())))
def Gu(x:(List Sb)×ai)(b:Cm×ai)(a:Cm×ai):Option EU :=
 aj (aO a.1.2.1 b.1.2.1)
 (ab (idx x.1 a.1.2.1) λc=>ab (idx x.1 b.1.2.1) λd=>aj (bz c d)
 (some<|Sum.inr (1,(false,a.1.2.1,()),()))
 (some<|Sum.inl ((a.1.1,ax i64 a.1.2.1 1,()),())))
 (some<|Sum.inr (0,(a.1.1,a.1.2.1,()),()))
def Gv(x:(List Sb)×ai)(a:Cm×ai):Option EU :=
 aj (aO a.1.2.1<|len x.1)
 (ab (idx x.1 a.1.2.1) λc=>ab (uH (c,())) λd=>aj (nt d.1)
 (some<|Sum.inr (1,(false,a.1.2.1,()),()))
 (ab (Loop (Gu x a) ((a.1.1,(0:Int),()),())) λb=>aj (cR b.1 0)
 (some<|Sum.inl ((b.2.1.1,ax i64 a.1.2.1 1,()),()))
 (some<|Sum.inr (1,(b.2.1.1,a.1.2.1,()),()))))
 (some<|Sum.inr (0,(a.1.1,a.1.2.1,()),()))
def rm(x:(List Sb)×ai):Option (Bool×ai) :=
 ab (Loop (Gv x) ((false,(0:Int),()),())) (λa=>aj (cR a.1 0)
 (some (ca (len x.1) 4,()))
 (some (a.2.1.1,())))
def pN(x:(List Sb)×ai)(a:Cm×ai):Option EU :=
 aj (aj (aO a.1.2.1<|len x.1)
 (aO a.1.2.1 8)
 false)
 (ab (idx x.1 a.1.2.1) λb=>aj (aO 100<|len b)
 (some<|Sum.inr (1,(false,a.1.2.1,()),()))
 (some<|Sum.inl ((a.1.1,ax i64 a.1.2.1 1,()),())))
 (some<|Sum.inr (0,(a.1.1,a.1.2.1,()),()))
def ks(x:(List Sb)×ai):Option (Bool×ai) :=
 ab (Loop (pN x) ((false,(0:Int),()),())) (λa=>aj (cR a.1 0)
 (some (ca (len x.1) 8,()))
 (some (a.2.1.1,())))
def en(x:(List<|Sb×Sb×Sb×ai)×ai)(a:Cm×ai):Option EU :=
 aj (aj (aO a.1.2.1<|len x.1)
 (aO a.1.2.1 8)
 false)
 (ab (idx x.1 a.1.2.1) λc=>ab (aj (nt<|aO 100<|len c.1)
 (ab (idx x.1 a.1.2.1) λb=>some (aO 200<|len b.2.2.1))
 (some true)) λb=>aj b
 (some<|Sum.inr (1,(false,a.1.2.1,()),()))
 (some<|Sum.inl ((a.1.1,ax i64 a.1.2.1 1,()),())))
 (some<|Sum.inr (0,(a.1.1,a.1.2.1,()),()))
def ed(x:(List<|Sb×Sb×Sb×ai)×ai):Option (Bool×ai) :=
 ab (Loop (en x) ((false,(0:Int),()),())) (λa=>aj (cR a.1 0)
 (some (ca (len x.1) 8,()))
 (some (a.2.1.1,())))
def hJ(x:zj×ai)(a:Cm×ai):Option EU :=
 aj (aj (aO a.1.2.1<|len x.1.2.1)
 (aO a.1.2.1 40)
 false)
 (ab (idx x.1.2.1 a.1.2.1) λb=>ab (ks (b.2.2.1,())) λc=>aj (nt c.1)
 (some<|Sum.inr (1,(false,a.1.2.1,()),()))
 (some<|Sum.inl ((a.1.1,ax i64 a.1.2.1 1,()),())))
 (some<|Sum.inr (0,(a.1.1,a.1.2.1,()),()))
def hM(x:zj×ai)(a:Cm×ai):Option EU :=
 aj (aj (aO a.1.2.1<|len x.1.2.2.1)
 (aO a.1.2.1 40)
 false)
 (ab (idx x.1.2.2.1 a.1.2.1) λd=>ab (ks (d.2.1,())) λe=>ab (aj (nt<|nt e.1)
 (ab (idx x.1.2.2.1 a.1.2.1) λb=>some (aO 200<|len b.2.2.2.1))
 (some true)) λb=>ab (aj (nt b)
 (ab (idx x.1.2.2.1 a.1.2.1) λc=>ab (ed (c.2.2.2.2.1,())) λf=>some (nt f.1))
 (some true)) λc=>aj c
 (some<|Sum.inr (1,(false,a.1.2.1,()),()))
 (some<|Sum.inl ((a.1.1,ax i64 a.1.2.1 1,()),())))
 (some<|Sum.inr (0,(a.1.1,a.1.2.1,()),()))
def hR(x:zj×ai)(a:Cm×ai):Option EU :=
 aj (aj (aO a.1.2.1<|len x.1.2.2.2.1)
 (aO a.1.2.1 40)
 false)
 (ab (idx x.1.2.2.2.1 a.1.2.1) λd=>ab (ks (d.2.1,())) λe=>ab (aj (nt<|nt e.1)
 (ab (idx x.1.2.2.2.1 a.1.2.1) λb=>some (aO 200<|len b.2.2.2.2.1))
 (some true)) λb=>ab (aj (nt b)
 (ab (idx x.1.2.2.2.1 a.1.2.1) λc=>ab (ed (c.2.2.2.2.2.1,())) λf=>some (nt f.1))
 (some true)) λc=>aj c
 (some<|Sum.inr (1,(false,a.1.2.1,()),()))
 (some<|Sum.inl ((a.1.1,ax i64 a.1.2.1 1,()),())))
 (some<|Sum.inr (0,(a.1.1,a.1.2.1,()),()))
def pa(x:zj×ai):Option (Bool×ai) :=
 ab (Loop (hJ x) ((false,(0:Int),()),())) (λa=>aj (cR a.1 0)
 (ab (Loop (hM x) ((a.2.1.1,(0:Int),()),())) λb=>aj (cR b.1 0)
 (ab (Loop (hR x) ((b.2.1.1,(0:Int),()),())) λc=>aj (cR c.1 0)
 (some (aj (aj (ca (len x.1.2.1) 40)
 (ca (len x.1.2.2.1) 40)
 false)
 (ca (len x.1.2.2.2.1) 40)
 false,()))
 (some (c.2.1.1,())))
 (some (b.2.1.1,())))
 (some (a.2.1.1,())))
def rn(x:Int×zj×ai)(a:(ai×Int×ai)×(List fS)×ai):Option (PH⊕PH) :=
 cA (aj (aO a.1.2.1<|len x.2.1.2.2.2.1)
 (ab (idx x.2.1.2.2.2.1 a.1.2.1) λb=>ab (idx x.2.1.2.2.2.1 a.1.2.1) λc=>aj (fits<|plus (len a.2.1)<|len ([(b.1,c.2.1,())]:List fS))
 (some<|Sum.inl (((),ax i64 a.1.2.1 1,()),app a.2.1 ([(b.1,c.2.1,())]:List fS),()))
 none)
 (some<|Sum.inr (0,((),a.1.2.1,()),a.2.1,())))
def rp(x:Int×zj×ai)(a:(ai×Int×ai)×(List fS)×ai):Option (PH⊕PH) :=
 cA (aj (aO a.1.2.1<|len x.2.1.2.2.1)
 (ab (idx x.2.1.2.2.1 a.1.2.1) λb=>ab (idx x.2.1.2.2.1 a.1.2.1) λc=>aj (fits<|plus (len a.2.1)<|len ([(b.1,c.2.1,())]:List fS))
 (some<|Sum.inl (((),ax i64 a.1.2.1 1,()),app a.2.1 ([(b.1,c.2.1,())]:List fS),()))
 none)
 (some<|Sum.inr (0,((),a.1.2.1,()),a.2.1,())))
def rq(x:Int×zj×ai)(a:(ai×Int×ai)×(List fS)×ai):Option (PH⊕PH) :=
 cA (aj (aO a.1.2.1<|len x.2.1.2.1)
 (ab (idx x.2.1.2.1 a.1.2.1) λd=>ab (aj d.2.2.2.2.2.2.1
 (ab (idx x.2.1.2.1 a.1.2.1) λb=>ab (idx x.2.1.2.1 a.1.2.1) λc=>aj (fits<|plus (len a.2.1)<|len ([(b.1,c.2.2.1,())]:List fS))
 (some (((),()),app a.2.1 ([(b.1,c.2.2.1,())]:List fS),()))
 none)
 (some (((),()),a.2.1,()))) λb=>some (Sum.inl (((),ax i64 a.1.2.1 1,()),b.2.1,())))
 (some<|Sum.inr (0,((),a.1.2.1,()),a.2.1,())))
def yr(x:Int×zj×ai):Option ((List fS)×ai) :=
 ab (aj (aL x.1 1)
 (ab (Loop (rn x) (((),(0:Int),()),([]:List fS),())) λa=>some (((),()),a.2.1,()))
 (ab (aj (aL x.1 2)
 (ab (Loop (rp x) (((),(0:Int),()),([]:List fS),())) λa=>some (((),()),a.2.1,()))
 (ab (aj (aL x.1 3)
 (ab (Loop (rq x) (((),(0:Int),()),([]:List fS),())) λa=>some (((),()),a.2.1,()))
 (some (((),()),([]:List fS),()))) λa=>some (((),()),a.2.1,()))) λa=>some (((),()),a.2.1,()))) (λa=>some (a.2.1,()))
end Go.Ge
namespace Go.Ge
variable [Lp]
abbrev Tx:=aq
abbrev Nm:=Tx×List Tx×ai
def LM(l:List Nm)(id:Tx):Int:=match l.findIdx? (λx=>decide (x.1=id)) with|some i=>(i:Int)|none=>-1
theorem acI{l:List Nm}{id:Tx}{i:Nat}{x:Nm}(b:l[i]?=some x)(c:x.1=id)(d:∀j y,j<i->l[j]?=some y->decide (y.1=id)=false):LM l id=i:=by
 unfold LM;have:l.findIdx? (λx=>decide (x.1=id))=some i:=by
  rw[aaU];obtain⟨e,rfl⟩:=ix.1 b;exact⟨e,by simp[c],λj a=>by have:=d j l[j] a (jE<|by omega);simpa using this⟩
 rw[this]
theorem Wy{l:List Nm}{id:Tx}(a:∀(i:Nat) (x:Nm),l[i]?=some x->decide (x.1=id)=false):LM l id=-1:=by
 unfold LM;have:l.findIdx? (λx=>decide (x.1=id))=none:=by
  rw[aaY];intro x b;obtain⟨i,c⟩:=bR.1 b;exact a i x c
 rw[this]
theorem LN(l:List Nm)(id:Tx)(b:l.length<=4294967296):tn (l,id,())=some (LM l id,()):=by
 unfold tn;rcases qF (f:=oj (l,id,())) l (λi=>(((0:Int),i,()),id,())) (λ_ x=>decide (x.1=id)) (λi x=>(1,((i:Int),(i:Int),()),id,())) (0,((0:Int),len l,()),id,()) b (λi x a c d=>by
  unfold oj;dsimp only;rw[au c,ae,az a,aa,gX,d];by_cases h:x.1=id<;>simp[bz,h]) (by unfold oj;dsimp only;rw[aB,af];rfl) with ⟨i,x,a,e,g,h⟩|⟨j,h⟩
 .rw[h,aa,acI a (kx e) g];rfl
 .rw[h,aa,Wy j];rfl
theorem uI(l:List Tx)(s:Tx)(c:l.length<=4294967296):bI (l,s,())=some (decide<|s∈l,()):=by
 unfold bI gd;dsimp only;rcases qF (f:=dM (l,s,())) l (λi=>(((0:Int),i,()),())) (λ_ x=>decide (x=s)) (λi x=>(1,((i:Int),(i:Int),()),())) (0,((0:Int),len l,()),()) c (λi x a b d=>by
  unfold dM;dsimp only;rw[au b,ae,az a,aa,gX,d];by_cases h:x=s
  .simp[bz,h]
  .have g:¬s=x:=λe=>h e.symm;simp[bz,h,g]) (by unfold dM;dsimp only;rw[aB,af];rfl) with ⟨i,x,a,j,n,h⟩|⟨k,h⟩
 .rw[h,aa];have:s∈l:=by rw[<-kx j];exact bR.2 ⟨i,a⟩
  rw[cd this];show some (ca 0 (i:Int),())=_
  rw[cr<|by omega]
 .rw[h,aa];have:s∉l:=λm=>by
   obtain⟨i,b⟩:=bR.1 m;have:=k i s b;simp at this
  simp[this,cR,aj,ab,ca]
def Small(l:List Nm):Prop:=l.length<=4294967296/\∀x∈l,x.2.1.length<=4294967296
end Go.Ge
