import Derived.Test.YtgklgliokhbcnaaGreatDoorPlE
import Derived.Lib.ParseIntBCases
import Derived.Lib.ItoaMem
set_option linter.unusedSectionVars false
set_option linter.unusedVariables false
set_option linter.unusedSimpArgs false
set_option linter.defProp false
open Option renaming some->aa,none->af
namespace Go.Ge
variable [Lp]
def Sm(n:Nd):Prop:=n.1.length<=200/\n.2.2.2.2.1.length<=300/\n.2.2.2.1.length<=8192
def vY(l:List Nd):Prop:=l.length<=4096/\∀x∈l,Sm x
def key(n:Nd):List bb:=parts n.1
def cmp(n:Nd)(p:bb):Int:=cmpL (parts n.1) (parts p)
def vY.at{l}(h:vY l){i:Nat}{x}(a:l[i]?=aa x):Sm x:=h.2 x (eG a)
def vY.take{l}(h:vY l) k:vY (l.take k):=⟨by rw[dk];have:=h.1;omega,λx a=>h.2 x (DQ a)⟩
def Ni(n:Nd) p (a:n.1.length<=4096) (b:p.length<=4096):mB (n,p,())=aa (cmp n p,()):=by
 unfold mB;rw[CB _ _ a b];rfl
def ahg{a b:Nat}(c:a<=1048576)(d:b<=1048576):kz .i64 (jt .u64 (kz .u64<|aw .i64 a b) 1)=(((a+b) / 2:Nat):Int):=by
 rw[fA ah ah,agX ah ah];have e:jt .u64 (a+b) 1=(((a+b) / 2:Nat):Int):=by
  unfold jt;have f:2 ^ min 1 IntKind.u64.bits=2:=aD
  grind
 rw[e,wP ah ah]
def abK l p (s:vY l) (B:p.length<=4096):∀n e d,d-e<=n->e<=d->d<=l.length ->
  ∃k,e<=k/\k<=d/\Loop (jB (l,p,())) ((e,d,()),())=aa (((k:Int),(k:Int),()),()) /\
   ((∀(i j:Nat) x y,i<=j->l[i]?=aa x->l[j]?=aa y->cmp y p<0->cmp x p<0)->(∀j y,j<e->l[j]?=aa y->cmp y p<0)->(∀j y,d<=j->l[j]?=aa y->¬cmp y p<0) ->
    (∀j y,j<k->l[j]?=aa y->cmp y p<0)/\(∀j y,k<=j->l[j]?=aa y->¬cmp y p<0)):=by
 intro n;induction n with
 | zero =>
   intro e d C D t;obtain rfl:d=e:=ah;refine⟨d,bV _,bV _,?_,λ_ a b=>⟨a,b⟩⟩;rw[aN];unfold jB;rw[aC<|tr _];rfl
 | succ n u =>
   intro e d C D t;by_cases h:d=e
   .simp_all
   .have E:=s.1;obtain⟨x,m⟩:∃x,l[(e+d) / 2]?=aa x:=⟨_,fH ah⟩;have f:jB (l,p,()) ((e,d,()),())=aa (.inl<|if cmp x p<0 then(((((e+d) / 2+1:Nat):Int),d,()),()) else((e,(((e+d) / 2:Nat):Int),()),())):=by
     unfold jB;dsimp only;rw[aH ah,aC aD,ahg ah ah,ao m,ab,Ni x p (by have:=(s.at m).1;omega) B,ab];rw[aB ah];by_cases g:cmp x p<0
     .rw[aH g,aQ g];rfl
     .rw[aC ah,aK g];rfl
    rw[aN,f];by_cases g:cmp x p<0
    .obtain⟨k,v,w,o,q⟩:=u ((e+d) / 2+1) d ah ah t;refine⟨k,ah,w,by rw[aQ g];exact o,λa b c=>q a (λj y z A=>?_) c⟩
     grind
    .obtain⟨k,v,w,o,q⟩:=u e ((e+d) / 2) ah ah ah;refine⟨k,v,ah,by rw[aK g];exact o,λa b c=>q a b λj y z A r=>g (a _ _ x y z m A r)⟩
def Ord(l:List Nd):Prop:=∀(i j:Nat) (x y:Nd),i<j->l[i]?=aa x->l[j]?=aa y->cmpL (key x) (key y)<0
def Ord.mono{l}(h:Ord l) p:∀(i j:Nat) x y,i<=j->l[i]?=aa x->l[j]?=aa y->cmp y p<0->cmp x p<0:=by
 intro i j x y a b c d;rcases tL i j with g|g
 .exact mn (h i j x y g b c) d
 .grind
def Ord.take{l}(h:Ord l) k:Ord (l.take k):=λi j x y c a b=>by
 rw[jM] at a b;split at a
 .split at b
  .exact h i j x y c a b
  .cases b
 .cases a
structure Plc (l:List Nd) (p:bb) (k:Nat) (b:Bool):Prop where
 le:k<=l.length
 lo:∀(j:Nat) (y:Nd),j<k->l[j]?=aa y->cmp y p<0
 hi:∀(j:Nat) (y:Nd),k<=j->l[j]?=aa y->¬cmp y p<0
 is:b=true->∃x,l[k]?=aa x/\x.1=p
 no:b=false->∀x∈l,x.1≠p
def VV{n p}(h:cmp n p=0):n.1=p:=by
 have:=H6 h;rw[<-dO n.1,this,dO]
def Nj{n p}(h:n.1=p):cmp n p=0:=by subst h;apply jJ
def Dv l p (q:vY l) (r:p.length<=4096):∃(k:Nat) (b:Bool),ej (l,p,())=aa ((k:Int),b,())/\k<=l.length/\(b=true->k<l.length)/\(Ord l->Plc l p k b):=by
 obtain⟨k,_,i,t,u⟩:=abK l p q r l.length 0 l.length ah ah (bV _);have c:Loop (jB _) ((0,len l,()),())=aa _:=t;have a:=λ(h:Ord l)=>u (h.mono p) (λj y m=>ah) (λj y m d=>by have:=av d;omega);by_cases n:k<l.length
 .obtain⟨x,f⟩:∃x,l[k]?=aa x:=⟨_,fH n⟩;refine⟨k,decide _,?_,i,λ_=>n,λh=>⟨i,(a h).1,(a h).2,λo=>⟨x,f,VV (fb o)⟩,λo y d e=>?_⟩⟩
  .unfold ej;rw[c,ab];rw[al n,ao f,ab,Ni x p (by have:=(q.at f).1;omega) r];rfl
  .obtain⟨j,m⟩:=bc.1 d;have v:=Nj e;rcases Lo j k with g|g|g
   .grind
   .grind
   .have s:=h k j x y g f m;rw[show key y=parts p by unfold key;rw[e]] at s;exact(a h).2 k x (bV _) f s
 .obtain rfl:k=l.length:=ah;refine⟨l.length,false,?_,i,λh=>(by cases h),λh=>⟨i,(a h).1,(a h).2,λh=>(by cases h),λo y d e=>?_⟩⟩
  .unfold ej;rw[c,ab];rw[aq,ag]
  .obtain⟨j,m⟩:=bc.1 d;have v:=Nj e
   grind
def Dir(l:List Nd)(d:bb)(e:Int):Prop:=(d=[]/\e=0)\/(d≠[]/\(((∀x∈l,x.1≠d)/\e=3)\/∃x∈l,x.1=d/\((x.2.1=2/\e=0)\/(x.2.1≠2/\e=12))))
def Z0 l d (j:vY l) (hd:d.length<=4096):∃e,ow (l,d,())=aa (e,())/\(Ord l->Dir l d e):=by
 unfold ow;by_cases c:d=[]
 .subst c;exact⟨0,rfl,λ_=>.inl ⟨rfl,rfl⟩⟩
 .rw[aY c];obtain⟨k,b,m,o,n,g⟩:=Dv l d j hd;rw[m,ab];cases b with
  | false =>
    exact⟨3,rfl,λh=>.inr ⟨c,.inl ⟨(g h).no rfl,rfl⟩⟩⟩
  | true =>
    obtain⟨x,f⟩:∃x,l[k]?=aa x:=⟨_,fH (n rfl)⟩;rw[ ao f,ab];have i:Ord l->x.1=d:=λh=>by
     obtain⟨y,p,e⟩:=(g h).is rfl
     grind
    by_cases a:x.2.1=2
    .refine⟨0,?_,λh=>.inr ⟨c,.inr ⟨x,eG f,i h,.inl ⟨a,rfl⟩⟩⟩⟩;rw[au a];rfl
    .refine⟨12,?_,λh=>.inr ⟨c,.inr ⟨x,eG f,i h,.inr ⟨a,rfl⟩⟩⟩⟩;rw[show aG x.2.1 2=false by simp[aG,a]];rfl
def CG l p (c:vY l):(∃(i:Nat) (x:Nd),l[i]?=aa x/\x.1=p/\hR (l,p,())=aa ((i:Int),()))\/((∀x∈l,x.1≠p)/\hR (l,p,())=aa (-1,())):=by
 unfold hR;rcases eu (f:=qy (l,p,())) l (λi=>((0,i,()),())) (λ_ x=>decide (x.1=p)) (λi x=>(1,(i,i,()),())) _ (by have:=c.1;omega) (λi x a b d=>by
  unfold qy;rw[al b,ao a,ab,u5,d];by_cases h:x.1=p<;>simp[h,ak]) (by unfold qy;rw[aq,ag]) with ⟨i,x,a,g,_,h⟩|⟨j,h⟩
 .left;refine⟨i,x,a,fb g,?_⟩;rw[h];rfl
 .right;refine⟨λx a e=>?_,by rw[h];rfl⟩;obtain⟨i,b⟩:=bc.1 a
  grind
def Nk l d (o:vY l):∃b,ox (l,d,())=aa (b,())/\(b=true->d=[]\/∃x∈l,x.1=d/\x.2.1=2)/\(Ord l->b=false->d≠[]/\∀x∈l,x.1=d->x.2.1≠2):=by
 unfold ox;by_cases f:d=[]
 .subst f;rcases CG l [] o with ⟨i,x,a,c,h⟩|⟨_,h⟩<;>rw[h]<;>exact⟨true,rfl,λ_=>.inl rfl,λ_ h=>by cases h⟩
 .rcases CG l d o with ⟨i,x,a,c,h⟩|⟨r,h⟩
  .rw[h,ab,aY f,aE,ai];rw[ ao a];refine⟨_,rfl,λm=>.inr ⟨x,eG a,c,fb m⟩,λp m=>⟨f,λy s n u=>?_⟩⟩;have t:=xf m;obtain⟨j,q⟩:=bc.1 s;have k:key x=key y:=by unfold key;rw[c,n]
   rcases Lo i j with g|g|g
   .have:=p i j x y g a q;rw[k,jJ] at this;omega
   .grind
   .have:=p j i y x g q a;rw[k,jJ] at this;omega
  .rw[h,aY f];exact⟨false,rfl,λh=>(by cases h),λ_ _=>⟨f,λx a e=>absurd e (r x a)⟩⟩
structure Valid (l:List Nd):Prop where
 few:l.length<=64
 ord:Ord l
 may:∀x∈l,fU x=true
 up:∀x∈l,(bd x.1).1=[]\/∃y∈l,y.1=(bd x.1).1/\y.2.1=2
def Nl p:(bd p).1.length<=p.length:=by
 rcases rS p with ⟨_,h⟩|⟨a,b,c,_,h⟩
 .grind
 .grind
def x4{p}(h:(bd p).1≠[]):parts p=parts (bd p).1++[(bd p).2]:=by
 rcases rS p with ⟨_,e⟩|⟨a,b,c,d,e⟩
 .grind
 .rw[e] at h⊢;unfold parts;rw[aK<|by rw[c];simp,aK h,c];exact CA a b d
def Ord.uniq{l}(h:Ord l){x y}(d:x∈l)(f:y∈l)(e:x.1=y.1):x=y:=by
 obtain⟨i,a⟩:=bc.1 d;obtain⟨j,b⟩:=bc.1 f;have c:key x=key y:=by unfold key;rw[e]
 rcases Lo i j with g|g|g
 .have:=h i j x y g a b;rw[c,jJ] at this;omega
 .grind
 .have:=h j i y x g b a;rw[c,jJ] at this;omega
def Nn{l}(h:∀k x y,l[k]?=aa x->l[k+1]?=aa y->cmpL (key x) (key y)<0):Ord l:=by
 have run:∀d i x y,l[i]?=aa x->l[i+1+d]?=aa y->cmpL (key x) (key y)<0:=by
  intro d;induction d with
  | zero=>intro i x y b a;exact h i x y b a
  | succ d e =>
    intro i x y b a;have g:=av a;obtain⟨z,c⟩:∃z,l[i+1+d]?=aa z:=⟨_,fH ah⟩;exact mn (e i x z b c) (h _ z y c a)
 intro i j x y f b a;exact run (j-i-1) i x y b (by rw[show i+1+_=j by omega];exact a)
def G1(l:List Nd)(i:Nat)(x:Nd):Bool:=match i with
 | 0=>false
 | k+1=>match l[k]? with
   | some y=>decide (0<=cmpL (key y) (key x))
   | none=>false
def A6{l k x y}(a:l[k]?=aa y):G1 l (k+1) x=decide (0<=cmpL (key y) (key x)):=by
 show(match l[k]? with|some y=>decide _|none=>false)=_
 rw[a]
noncomputable def VW(l:List Nd)(d:bb):Int:=match ow (l,d,()) with
 | some y=>y.1
 | none=>0
def Np l d (a:vY l) (hd:d.length<=4096):ow (l,d,())=aa (VW l d,())/\(Ord l->Dir l d (VW l d)):=by
 obtain⟨e,b,c⟩:=Z0 l d a hd;have:VW l d=e:=by unfold VW;rw[b]
 grind
noncomputable def Ju(l:List Nd)(d:bb):Bool:=match ox (l,d,()) with
 | some y=>y.1
 | none=>false
def Il l d (a:vY l):ox (l,d,())=aa (Ju l d,())/\(Ju l d=true->d=[]\/∃x∈l,x.1=d/\x.2.1=2)/\(Ord l->Ju l d=false->d≠[]/\∀x∈l,x.1=d->x.2.1≠2):=by
 obtain⟨e,b,c,f⟩:=Nk l d a;have:Ju l d=e:=by unfold Ju;rw[b]
 grind
def QK{l}(h:∀i x,l[i]?=aa x->G1 l i x=false):Ord l:=Nn λk x y a b=>by
 have:=h _ y b;rw[A6 a] at this
 grind
def QL{l}(h:Ord l){i x}(a:l[i]?=aa x):G1 l i x=false:=by
 cases i with
 | zero=>rfl
 | succ k =>
   have c:=av a;obtain⟨y,b⟩:∃y,l[k]?=aa y:=⟨_,fH ah⟩;rw[A6 b];have:=h k _ y x ah b a
   grind
def abL{l}(h:Ord l){i x y}(b:l[i]?=aa x)(d:y∈l)(f:(bd x.1).1≠[])(e:y.1=(bd x.1).1):y∈l.take i:=by
 obtain⟨j,a⟩:=bc.1 d;have k:cmpL (key y) (key x)=-1:=by
  unfold key;rw[e,x4 f];exact Vl _ _ aT
 rcases tL j i with g|g
 .exact eG (by rw[jM,aQ g];exact a)
 .exfalso;rcases tL i j with c|c
  .have:=mn (h i j x y c b a) (show cmpL _ (key x)<0 by omega);rw[jJ] at this;omega
  .obtain rfl:i=j:=ah;rw[b] at a;obtain rfl:=aI a;rw[jJ] at k;omega
def mo l (b:vY l):∃e,ek (l,())=aa (e,())/\(e=0↔Valid l):=by
 unfold ek;have o:aL 64 (len l)=decide (64<l.length):=by unfold len;apply gm.2;omega
 rw[o];by_cases t:64<l.length
 .rw[cU t];exact⟨1,rfl,λh=>ah,λh=>by have:=h.few;omega⟩
 .rw[cd t];have c:∀{i:Nat} {x},l[i]?=aa x->(bd x.1).1.length<=4096:=λ{i x} hx=>by have:=(b.at hx).1;have:=Nl x.1;omega
  rcases eu (f:=qx (l,())) l (λi=>((0,i,()),())) (λi x=>!fU x||G1 l i x||decide (VW (l.take i) (bd x.1).1≠0)) _ _ ah (λi x hx m w=>by
   unfold qx;dsimp only;rw[al m,ai,ao hx,ab,rB _ (by have:=(b.at hx).1;omega),ab,ZZ _ (by have:=(b.at hx).1;omega),ab];cases E:fU x with
   | false=>rfl
   | true =>
     rw[aW,ag];have p:inside 0 i (len l)=true:=je (pW _) ah;rw[p,ai,fT,((Np _ (bd x.1).1 (b.take i)<|c hx).1),ab,w];cases i with
     | zero =>
       rw[aC aT,ag];generalize VW _ (bd x.1).1=e;by_cases a:e=0
       .rw[au a,aW,ag];simp[G1,a]
       .rw[show aG e 0=false by simp[aG,a],aE,ai];simp[ a]
     | succ k =>
       obtain⟨y,d⟩:∃y,l[k]?=aa y:=⟨_,fH ah⟩;rw[aH ah,ai,df ah ah,show(((k+1:Nat):Int)-1)=k by omega,ao d,ab,CB _ _ (by have:=(b.at d).1;omega) (by have:=(b.at hx).1;omega),ab];rw[tk];rw[A6 d];unfold key;generalize VW _ (bd x.1).1=e;by_cases u:0<=cmpL (parts y.1) (parts x.1)
       .rw[cU u,ai];simp
       .rw[cd u,ag];by_cases a:e=0
        .rw[au a,aW,ag];simp[a]
        .rw[show aG e 0=false by simp[aG,a],aE,ai];simp[a]) (by unfold qx;rw[aq,ag]) with ⟨i,x,hx,A,_,h⟩|⟨F,h⟩
  .rw[h];refine⟨1,rfl,λh=>ah,λj=>?_⟩;rw[j.may x<|eG hx,QL j.ord hx] at A;have hd:=(Np _ (bd x.1).1 (b.take i)<|c hx).2 (j.ord.take i);rcases hd with ⟨_,e⟩|⟨q,hd⟩
   .grind
   .rcases j.up x (eG hx) with G|⟨y,d,g,r⟩
    .grind
    .have B:=abL j.ord hx d q g;rcases hd with ⟨C,_⟩|⟨z,a,s,⟨_,e⟩|⟨D,_⟩⟩
     .grind
     .grind
     .have:=j.ord.uniq (DQ a) d (by rw[s,g])
      grind
  .rw[h];have n:∀i x,l[i]?=aa x->fU x=true/\G1 l i x=false/\VW (l.take i) (bd x.1).1=0:=λi x hx=>by
    grind
   have v:=QK λi x hx=>(n i x hx).2.1;refine⟨0,rfl,λ_=>⟨ah,v,λx hx=>?_,λx hx=>?_⟩,λ_=>rfl⟩
   .obtain⟨i,m⟩:=bc.1 hx
    grind
   .obtain⟨i,m⟩:=bc.1 hx;have hd:=(Np _ (bd x.1).1 (b.take i)<|c m).2 (v.take i);rw[(n i x m).2.2] at hd;rcases hd with ⟨e,_⟩|⟨_,⟨_,e⟩|⟨y,d,g,⟨r,_⟩|⟨_,e⟩⟩⟩
    .grind
    .omega
    .grind
    .omega
def oL l (c:vY l):∃b,iL (l,())=aa (b,())/\(b=true↔Valid l):=by
 unfold iL;have m:aL 64 (len l)=decide (64<l.length):=by unfold len;apply gm.2;omega
 rw[m];by_cases o:64<l.length
 .rw[cU o];exact⟨false,rfl,λh=>(by cases h),λh=>by have:=h.few;omega⟩
 .rw[cd o];rcases eu (f:=uD (l,())) l (λi=>((false,i,()),())) (λi x=>!fU x||!Ju l (bd x.1).1||G1 l i x) _ _ ah (λi x a e q=>by
   unfold uD;dsimp only;rw[al e,ai,ao a,ab,wT _ (by have:=(c.at a).1;omega),ab,ab,yS _ (by have:=(c.at a).1;omega) (by have:=(c.at a).2.1;omega),ab];cases t:fU x with
   | false=>rfl
   | true =>
     rw[aW,ag,(Il l (bd x.1).1 c).1,ab];cases u:Ju l (bd x.1).1 with
     | false=>rfl
     | true =>
       rw[aW,ag,q];cases i with
       | zero=>rw[aC aT,ag];simp[G1]
       | succ k =>
         obtain⟨y,g⟩:∃y,l[k]?=aa y:=⟨_,fH ah⟩;rw[aH ah,ai,df ah ah,show(((k+1:Nat):Int)-1)=k by omega,ao g,ab,ab,xX _ _ (by have:=(c.at g).1;omega) (by have:=(c.at a).1;omega),ab];rw[tk];rw[A6 g];unfold key;by_cases p:0<=cmpL (parts y.1) (parts x.1)
         .rw[cU p,ai];simp
         .rw[cd p,ag];simp) (by unfold uD;rw[aq,ag]) with ⟨i,x,a,n,_,h⟩|⟨v,h⟩
  .rw[h];refine⟨false,rfl,λh=>(by cases h),λj=>?_⟩;rw[j.may x<|eG a,QL j.ord a] at n;simp at n;obtain⟨w,z⟩:=(Il l (bd x.1).1 c).2.2 j.ord n;rcases j.up x (eG a) with A|⟨y,g,r,s⟩
   .grind
   .grind
  .rw[h];have d:∀i x,l[i]?=aa x->fU x=true/\Ju l (bd x.1).1=true/\G1 l i x=false:=λi x a=>by
    grind
   refine⟨true,rfl,λ_=>⟨ah,QK λi x a=>(d i x a).2.2,λx a=>?_,λx a=>?_⟩,λ_=>rfl⟩
   .obtain⟨i,e⟩:=bc.1 a
    grind
   .obtain⟨i,e⟩:=bc.1 a;exact(Il l (bd x.1).1 c).2.1 (d i x e).2.1
def takeWhile_eq{e:Type}{P}:∀{l:List e} {k},k<=l.length->(∀j y,j<k->l[j]?=aa y->P y=true)->(∀y,l[k]?=aa y->P y=false)->l.takeWhile P=l.take k/\l.dropWhile P=l.drop k:=by
 intro l;induction l with
 | nil=>simp
 | cons a r f =>
   intro k g c d;cases k with
   | zero =>
     have:=d a rfl;simp[ this]
   | succ k =>
     obtain⟨h,i⟩:=f (by simpa using g) (λj y m b=>c (j+1) y ah b) (λy b=>d y b);simp[ (c 0 a ah rfl),h,i]
def G2{d S R:Type}{f}(l:List d)(a:d->Bool)(e:Int->Int->List d->S)(g:Int->List d->R)(A:l.length<=4294967296)
  (b:∀(w j:Nat) L x,l[j]?=aa x->L[j]?=aa x->w<=j->j<L.length->aw .i64 w 1=((w+1:Nat):Int)->aw .i64 j 1=((j+1:Nat):Int) ->
   f (e w j L)=aa (.inl<|if a x=true then e w ((j+1:Nat):Int) L else e ((w+1:Nat):Int) ((j+1:Nat):Int) (L.set w x)))
  (h:∀(w:Nat) L,f (e w (L.length:Int) L)=aa (.inr<|g w L)) :
  ∀n w j L,l.length-j<=n->w<=j->j<=l.length->L.length=l.length->L.take w=(l.take j).filter (λx=>!a x)->L.drop j=l.drop j ->
   ∃(w':Nat) (L':List d),Loop f (e w j L)=aa (g w' L')/\L'.length=l.length/\w'<=l.length/\L'.take w'=l.filter (λx=>!a x):=by
 intro n;induction n with
 | zero =>
   intro w j L v q u c i o;obtain rfl:j=L.length:=ah;refine⟨w,L,?_,c,ah,?_⟩
   .rw[aN,h];rfl
   .rw[i,c,zw]
 | succ n r =>
   intro w j L v q u c i o;by_cases y:j=l.length
   .exact r w j L ah q u c i o
   .have s:j<L.length:=ah;have hx:l[j]?=aa l[j]:=fH ah;have t:L[j]?=aa l[j]:=by
     have:=congrArg (λz=>z[0]?) o;simpa [ hx] using this
    have k:L.drop (j+1)=l.drop (j+1):=by
     have:=congrArg (List.drop 1) o;simpa using this
    have m:l.take (j+1)=l.take j++[l[j]]:=by rw[yn,hx];rfl
    rw[aN,b w j L l[j] hx t q s (aB ah) (aB ah)];by_cases p:a l[j]=true
    .rw[aQ p];exact r w _ L ah ah ah c (by rw[i,m,ac8];simp[p]) k
    .rw[aK p];refine r _ _ _ ah ah ah (by simpa using c) ?_ ?_
     .rw[m,ac8,<-i,yn,List.take_set_of_le (bV w)];simp[p,show w<L.length by omega]
     .rw[List.drop_set_of_lt ah];exact k
def CH{α}(L:List α) w (a:w<=L.length) m:sub (over L w m) 0 (minus w 0)=L.take w:=by
 rw[fT];unfold over;rw[vb,xg,acV (by rw[dk];omega),Oz,ads]
def G3{α}(L:List α) w (a:w<=L.length) z:len (over L w<|lJ (minus (len L) w) z)=(L.length:Int):=by
 unfold over lJ minus len;simp;omega
def filter_one{d:Type}{l:List d}{P k x}(c:l[k]?=aa x)(f:P x=false)(h:∀j y,j≠k->l[j]?=aa y->P y=true):l.filter P=l.take k++l.drop (k+1):=by
 have e:l=l.take k++x::l.drop (k+1):=by
  conv=>lhs;rw[<-Fz k l,BT (av c)]
  rw[(iy.1 c).2]
 conv=>lhs;rw[e]
 rw[ac8,ade,f];have g:(l.take k).filter P=l.take k:=Lf.2 λy b=>by
  obtain⟨j,a⟩:=bc.1 b;rw[jM] at a;split at a
  .exact h j y ah a
  .cases a
 have i:(l.drop _).filter P=l.drop (k+1):=Lf.2 λy b=>by
  obtain⟨j,a⟩:=bc.1 b;rw[va] at a;exact h _ y ah a
 rw[g,i];simp
def vA(l:List Nd)(n:Nd):List Nd:=l.takeWhile (λx=>decide (cmp x n.1<0))++n::l.dropWhile (λx=>decide (cmp x n.1<0))
def gone(p:bb)(x:Nd):Bool:=decide (x.1=p)||ea (parts x.1) (parts p)
def qq(l:List Nd)(p:bb):List Nd:=l.filter λx=>!gone p x
def Ord.filter{l}(h:Ord l) P:Ord (l.filter P):=by
 have c:l.Pairwise λx y=>cmpL (key x) (key y)<0:=by
  rw[Rl];intro i j d e a;exact h i j _ _ a (fH d) (fH e)
 have b:=c.filter P;rw[Rl] at b;intro i j x y a f g;obtain⟨k,m⟩:=iy.1 f;obtain⟨n,o⟩:=iy.1 g;rw[<-m,<-o];exact b i j k n a
def vY.filter{l}(h:vY l) P:vY (l.filter P):=⟨fi (TP _ _) h.1,λx a=>h.2 x (zx.1 a).1⟩
def ahh{l n k b}(h:Plc l n.1 k b):vA l n=l.take k++[n]++l.drop k:=by
 obtain⟨c,d⟩:=takeWhile_eq h.le (λj y e a=>cU (h.lo j y e a)) (λy a=>cd (h.hi k y (bV _) a));unfold vA;rw[c,d];simp
def Nq{l}(o:Valid l){p}(t:p≠[])(u:∀x∈l,x.1≠p):∀m x,x∈l->(parts x.1).length<=m->ea (parts x.1) (parts p)=false:=by
 intro m;induction m with
 | zero =>
   intro x i j;exact cd ah
 | succ m v =>
   intro x i j;cases w:ea _ _ with
   | false=>rfl
   | true =>
     exfalso;obtain⟨q,f⟩:=fb w;have c:=o.may x i;unfold fU xZ at c;simp only[gw] at c;by_cases h:(bd x.1).1=[]
     .have d:=c.1.1.1.1.1.1.1.2;have r:(parts x.1).length<=1:=by
       rcases rS x.1 with ⟨a,_⟩|⟨a,b,z,C,e⟩
       .unfold parts;split
        .simp
        .rw[pN _ a];simp
       .rw[e] at h;subst h;have:=wa.1 d [] (by
         rw[z];show []∈cE _
         rw[Fa [] aT];simp)
        exact absurd this aD
      have:parts p=[]:=yZ.1 ah;have:=dO p;rw[‹parts p=[]›] at this;exact t this.symm
     .have k:=x4 h;rcases o.up x i with e|⟨y,s,n,A⟩
      .exact absurd e h
      .rw[<-n] at k;rw[k] at q f;rw[acV<|by simp at q;omega] at f;rcases tL (parts p).length (parts y.1).length with g|g
       .have:=v y s (by rw[k] at j;simp at j;omega);exact absurd ⟨g,f⟩ (xf this)
       .have B:parts p=parts y.1:=by rw[<-f,JK ah]
        refine u y s ?_;rw[<-dO y.1,<-B,dO]
def Yp{l}(c:Valid l){p}(d:p≠[])(a:∀x∈l,x.1≠p):qq l p=l:=Lf.2 λx b=>by
 unfold gone;rw[Nq c d a _ x b<|bV _,cd (a x b)];rfl
open Classical in
noncomputable def bG(l:List Nd)(n:Nd):List Nd×Int :=
 if ¬Valid l\/fU n=false then([],1) else
 if(bd n.1).1≠[]/\∀x∈l,x.1≠(bd n.1).1 then([],3) else
 if(bd n.1).1≠[]/\∀x∈l,x.1=(bd n.1).1->x.2.1≠2 then([],12) else
 let r:=if(∃x∈l,x.1=n.1/\x.2.1=2)/\n.2.1=2 then l.filter (λx=>!decide (x.1=n.1)) else qq l n.1
 if 64<=r.length then([],5) else(vA r n,0)
def Z1{n}(h:fU n=true):n.1≠[]:=by
 unfold fU xZ at h
 grind
def ahi(l:List Nd) k (n:Nd) (a:k<=l.length) (c:l.length<=4096):bj l (k,[n],())=aa (l.take k++[n]++l.drop k):=by
 unfold bj tR;have b:inside 0 k _=true:=je (pW _) a;rw[b,aJ cT];simp
def VX r (n:Nd) (a:vY r) (d:Ord r) (i:n.1.length<=200) (c:Int) (j:c=r.length) :
  ak (ch 64 c) (aa (([]:List Nd),(5:Int),())) (ae (ej (r,n.1,())) λy=>ae (bj r (y.1,[n],())) λz=>aa (z,0,())) =
   aa (if 64<=r.length then([],5,()) else(vA r n,0,())):=by
 rw[tk];by_cases h:64<=r.length
 .rw[cU ah,ai,aQ h]
 .rw[cd ah,ag,aK h];obtain⟨k,b,e,f,l,g⟩:=Dv r n.1 a ah;rw[e,ab];rw[ahi r k n f a.1,ab,ahh (g d)]
def VY x p (hx:x.1.length<=200) (a:p.length<=200):ak (nt<|bt x.1 p) (ae (dz (x.1,p,())) λy=>aa y.1) (aa true)=aa (gone p x):=by
 rw[Aa _ _ ah ah,u5];unfold gone;cases decide (x.1=p)<;>rfl
def abM l (n:Nd) (a:vY l) (c:n.1.length<=200):(∃i x,l[i]?=aa x/\gone n.1 x=true/\(∀(j:Nat) y,j<i->l[j]?=aa y->gone n.1 y=false)/\Loop (qd (l,n,())) ((0,0,()),(),n.1,())=aa (1,((i:Int),(i:Int),()),(),n.1,())) \/
  ((∀(i:Nat) x,l[i]?=aa x->gone n.1 x=false)/\Loop (qd (l,n,())) ((0,0,()),(),n.1,())=aa (0,(0,(l.length:Int),()),(),n.1,())) :=
 eu l (λi=>((0,i,()),_)) _ _ _ (by have:=a.1;omega) (λi x b d e=>by
  unfold qd;dsimp only;rw[al d,aF ah dR,ao b,ab,VY _ _ (a.at b).1 c,e];cases gone n.1 x<;>rfl) (by unfold qd;rw[aq,ag])
def abN l (n:Nd) (c:vY l) (k:n.1.length<=200) (i:Nat) x (hx:l[i]?=aa x) (s:gone n.1 x=true) (d:∀j y,j<i->l[j]?=aa y->gone n.1 y=false) :
  ∃(w:Nat) (L:List Nd),Loop (qe) ((i,aw IntKind.i64 i 1,(),()),(),n.1,l,())=aa (((w:Int),(l.length:Int),(),()),(),n.1,L,())/\L.length=l.length/\w<=l.length/\L.take w=qq l n.1:=by
 have hi:=av hx;have t:=c.1;have a:l.take i=(l.take<|i+1).filter (λx=>!gone n.1 x):=by
  rw[yn];have e:(l.take i).filter (λx=>!gone n.1 x)=l.take i:=Lf.2 λy m=>by
   obtain⟨j,g⟩:=bc.1 m
   grind
  grind
 obtain⟨w,L,e,h,o,p⟩:=G2 (f:=qe) l _ (λw j L=>((w,j,_),(),n.1,L,())) (λw L=>((w,L.length,_),(),n.1,L,())) ah (λw j L x hx b u g q d=>by
  unfold qe;dsimp only;obtain⟨z,r⟩:∃z,L[w]?=aa z:=⟨_,fH ah⟩;rw[al g,aF ah dR,ai,ao b,ab,VY _ _ (c.at hx).1 k,ab,d];cases gone n.1 x with
  | true=>rfl
  | false =>
    rw[ aF ah dR,ao r,q];rfl) (λw L=>by
  unfold qe;rw[aq];rfl) l.length i _ l ah ah ah rfl a rfl
 refine⟨w,L,?_,h,o,p⟩;rw[aB ah,e,h]
def VZ{l}(f:Ord l){n x k}(d:l[k]?=aa x)(e:x.1=n.1):l.filter (λx=>!decide (x.1=n.1))=l.take k++l.drop (k+1)/\vA (l.take k++l.drop (k+1)) n=l.take k++[n]++l.drop (k+1):=by
 have r:=av d;have b:key x=parts n.1:=by unfold key;rw[e]
 have h:∀j y,j<k->l[j]?=aa y->cmp y n.1<0:=λj y c a=>by
  have:=f j k y x c a d;rw[b] at this;exact this
 have i:∀j y,k<j->l[j]?=aa y->¬cmp y n.1<0:=λj y c a p=>by
  have:=f k j x y c d a;rw[b] at this;have:=mn this p;rw[jJ] at this;omega
 have q:(l.take k).length=k:=by rw[dk];omega
 constructor
 .refine filter_one d (by rw[cU e];rfl) λj y c a=>?_;rw[cd];rfl;intro o;have s:=Nj o;rcases tL j k with g|g
  .grind
  .have m:key x=key y:=by rw[b];unfold key;rw[o]
   have:=f k j x y ah d a;rw[m,jJ] at this;omega
 .obtain⟨t,u⟩:=takeWhile_eq (l:=l.take k++l.drop (k+1)) (k:=k) (P:=λx=>decide _) (by rw[iC];omega) (λj y c a=>by
   rw[TK ah,jM,aQ c] at a;exact cU (h j y c a)) (λy a=>by
   rw[acX ah,va] at a;exact cd (i _ y ah a))
  unfold vA
  grind
def abO{a:Type}{l:List a}{k}(b:k<l.length) n:l.set k n=l.take k++[n]++l.drop (k+1):=by
 rw[List.set_eq_take_append_cons_drop,aQ b];simp
def Jv l n (f:vY l) (F:Sm n):tT (l,n,())=aa ((bG l n).1,(bG l n).2,()):=by
 obtain⟨e,G,C⟩:=mo l f;have g:=F.1;unfold tT;dsimp only;rw[G,ab,ZZ n ah,ab];by_cases a:¬Valid l\/fU n=false
 .have o:bG l n=([],1):=by unfold bG;rw[aQ a]
  rw[o];have:ak (nt<|nt<|aG e 0) (aa<|nt<|fU n) (aa true)=aa true:=by
   rcases a with h|h
   .rw[show aG e 0=false by unfold aG;exact cd λp=>h (C.1 p)];rfl
   .rw[h];cases nt _<;>rfl
  rw[this,ab,ai]
 .have hv:Valid l:=by
   grind
  have H:fU n=true:=by
   grind
  obtain rfl:=C.2 hv;rw[H];have:ak (nt<|nt<|aG 0 0) (aa<|nt true) (aa true)=aa false:=rfl;rw[this,ab,ag,rB _ ah,ab];obtain⟨d,I,J⟩:=Z0 l (bd n.1).1 f (by have:=Nl n.1;omega);rw[I,ab];by_cases z:(¬((bd n.1).1≠[]/\∀x∈l,x.1≠(bd n.1).1))/\(¬((bd n.1).1≠[]/\∀x∈l,x.1=(bd n.1).1->x.2.1≠2))/\d=0
  .obtain⟨K,M,A⟩:=z;subst A;have o:bG l n=(let r:=if(∃x∈l,x.1=n.1/\x.2.1=2)/\n.2.1=2 then l.filter (λx=>!decide (x.1=n.1)) else qq l n.1
     if 64<=r.length then([],5) else(vA r n,0)):=by
    unfold bG;rw[aK a,aK K,aK M]
   rw[show nt _=false by rfl,ag];obtain⟨k,b,N,Y,Z,O⟩:=Dv l n.1 f ah;have m:=O hv.ord;rw[N,ab];obtain⟨u,P,Q⟩:∃u,ak b (ae (idx l k) λy=>aa (aG y.2.1 2)) _=aa u/\(ak u (aG n.2.1 2) false=true↔((∃x∈l,x.1=n.1/\x.2.1=2)/\n.2.1=2)):=by
    cases b with
    | false =>
      refine⟨false,rfl,?_⟩;exact⟨λh=>(by cases h),λ⟨⟨x,hx,e,_⟩,_⟩=>absurd e (m.no rfl x hx)⟩
    | true =>
      obtain⟨x,hx,e⟩:=m.is rfl;refine⟨aG x.2.1 2,by rw[ai,ao hx,ab],?_⟩;rw[nX,gw];unfold aG;rw[Ap,Ap];refine⟨λh=>⟨⟨x,eG hx,e,h.1⟩,h.2⟩,λ⟨⟨y,hy,R,S⟩,h2⟩=>?_⟩;have:=hv.ord.uniq (eG hx) hy (by rw[e,R])
      grind
   rw[P,ab];by_cases c:(∃x∈l,x.1=n.1/\x.2.1=2)/\n.2.1=2
   .rw[Q.2 c,ai];have v:b=true:=by
     cases b with
     | true=>rfl
     | false=>obtain⟨⟨x,hx,e,_⟩,_⟩:=c;exact absurd e (m.no rfl x hx)
    obtain⟨x,hx,e⟩:=m.is v;have T:=av hx;rw[dh (by have:=f.1;omega),ai,aF ah dR,ai,ao hx,ab,ab,ab,Cu];obtain⟨U,V⟩:=VZ hv.ord hx e;have D:=hv.few;rw[aQ c,U] at o;have B:¬64<=(l.take k++l.drop (k+1)).length:=cT;rw[o];simp only[B,if_false];rw[V,abO T]
   .have W:ak u (aG n.2.1 2) false=false:=by
     grind
    rw[W,ag,ab];rw[show nt _=false by rfl,ag,dh (by have:=f.1;omega),ai];rcases abM l n f g with ⟨i,x,hx,z,v,h⟩|⟨v,h⟩
    .obtain⟨w,L,X,w2,w3,E⟩:=abN l n f g i x hx z v;rw[h,ab];rw[gL,ag,show aG i (-1)=false by exact cd ah,ag,X,ab];dsimp only;rw[aO ah dR<|tr _,G3 L w ah,aO (tr _) ah ah,CH L w ah,E];have hlen:(qq l n.1).length=w:=by rw[<-E,dk];omega
     refine T8 (VX (qq l n.1) n (f.filter _) (hv.ord.filter _) g _<|by unfold minus;omega) ?_
     grind
    .have hr:qq l n.1=l:=Lf.2 λx hx=>by
      obtain⟨j,hj⟩:=bc.1 hx
      grind
     rw[h,ab];rw[cO,ai,show aG (-1) (-1)=true by rfl,ai];have tv:=VX l n f hv.ord g (len l) rfl
     grind
  .rcases J hv.ord with ⟨p,q⟩|⟨p,⟨c,q⟩|⟨x,hx,s,⟨t,q⟩|⟨t,q⟩⟩⟩
   .grind
   .subst q;have o:bG l n=([],3):=by unfold bG;rw[aK a,aQ ⟨p,c⟩]
    rw[o];rfl
   .grind
   .subst q;have o:bG l n=([],12):=by
     unfold bG;rw[aK a,aK (λh=>h.2 x hx s),aQ ⟨p,λy hy e=>by
      have:=hv.ord.uniq hx hy (by rw[s,e]);subst this;exact t⟩]
    rw[o];rfl
def kg(l:List Nd)(p:bb)(b:Bool):List Nd:=l.filter λx=>!ea (parts x.1) (parts p)&&(!b||!decide (x.1=p))
def CI l p b (d:vY l) (g:p.length<=4096):jC (l,p,b,())=aa (kg l p b,()):=by
 unfold jC;have o:=d.1;have c:∀m,m.flatMap (λx=>if(!ea (parts x.1) (parts p)&&(!b||!decide (x.1=p)))=true then [x] else [])=kg m p b:=by
  intro m;unfold kg;induction m with
  | nil=>rfl
  | cons a r q =>
    grind
 have h:=hJ (f:=lW (l,p,b,())) l (λa i=>(((),i,()),a,())) (λx=>if(!ea (parts x.1) (parts p)&&(!b||!decide (x.1=p)))=true then [x] else []) _ ah (λi x e j k=>by
  unfold lW;have hlen:((l.take i).flatMap λx=>if(!ea (parts x.1) (parts p)&&(!b||!decide (x.1=p)))=true then [x] else []).length<=4096:=by
   rw[c];unfold kg
   grind
  rw[al j,ao e,ab,S3 _ _ (by have:=(d.at e).1;omega) g,ab,ab,ab,k,aJ (by simp only[Rn];omega)];rw[u5];cases ea _ _<;>cases b<;>cases decide (x.1=p)<;>simp[ak,nt,ae,cq,app]) (by
  unfold lW;rw[aq,c];rfl)
 have n:Loop _ _=aa _:=h;rw[n,ab]
def Ps l p:kg l p true=qq l p:=by
 unfold kg qq;unfold gone
 grind
def V0(l r:List Nd)(n:Nd)(d:vY r)(e:n.1.length<=200):∃k,k<=r.length/\Loop (kZ (l,n,()) ((r,()),())) ((0,()),())=aa (((k:Int),()),())/\vA r n=r.take k++[n]++r.drop k:=by
 have t:=d.1;rcases eu (f:=kZ (l,n,()) ((r,()),())) r (λi=>((i,()),())) (λ_ x=>!decide (cmp x n.1<0)) _ _ ah (λi x b g m=>by
  unfold kZ;dsimp only;rw[al g,ao b,ab,xX _ _ (by have:=(d.at b).1;omega) ah,ab,m];unfold cmp aL;cases decide (cmpL _ _<0)<;>rfl) (by
  unfold kZ;rw[aq];rfl) with ⟨i,x,b,o,p,h⟩|⟨e,h⟩
 .refine⟨i,by have:=av b;omega,h,?_⟩;obtain⟨q,s⟩:=takeWhile_eq (l:=r) (k:=i) (P:=λx=>decide _) (by have:=av b;omega) (λj y c a=>by
   have:=p j y c a;simpa using this) (λy a=>by
   rw[b] at a;obtain rfl:=aI a;simpa using o)
  unfold vA
  grind
 .refine⟨r.length,bV _,h,?_⟩;obtain⟨q,s⟩:=takeWhile_eq (P:=λx=>decide _) (bV _) (λj y c a=>by
   have:=e j y a;simpa using this) (λy a=>by
   have:=av a;omega)
  unfold vA
  grind
def CJ(l r:List Nd)(n:Nd)(c:vY r)(d:n.1.length<=200) :
  ak (ch 64<|len r) (aa (([]:List Nd),(5:Int),())) (ae (Loop (kZ (l,n,()) ((r,()),())) ((0,()),())) λa=>ak (inside 0 a.1.1<|len r)
   (ak (fits<|plus (len ([]:List Nd))<|len<|sub r 0<|minus a.1.1 0)
   (ak (fits<|plus (len<|app ([]:List Nd)<|sub r 0<|minus a.1.1 0)<|len [n])
   (ak (inside a.1.1 (len r)<|len r)
   (ak (fits<|plus (len<|app (app ([]:List Nd)<|sub r 0<|minus a.1.1 0) [n])<|len<|sub r a.1.1<|minus (len r) a.1.1)
   (aa (app (app (app ([]:List Nd)<|sub r 0<|minus a.1.1 0) [n])<|sub r a.1.1<|minus (len r) a.1.1,0,()))
   af) af) af) af) af)=aa (if 64<=r.length then([],5,()) else(vA r n,0,())):=by
 rw[tk];by_cases h:64<=r.length
 .rw[cU dR,ai,aQ h]
 .rw[cd dR,aK h];obtain⟨k,b,e,f⟩:=V0 l r n c d;rw[e,ab];have g:inside 0 k _=true:=je (pW _) b;have i:inside k (len r) _=true:=aO ah dR (tr _);rw[g,fT,jd r k b,i];rw[(aJ cT),(aJ<|by rw[gU];simp;omega),(aJ<|by rw[gU,gU];simp;omega),f];rfl
def CK l n (f:vY l) (B:Sm n):oy (l,n,())=aa ((bG l n).1,(bG l n).2,()):=by
 obtain⟨e,E,C⟩:=oL l f;have m:=B.1;have N:=f.1;unfold oy;dsimp only;rw[E,ab,yS n ah (by have:=B.2.1;omega),ab];by_cases b:¬Valid l\/fU n=false
 .have g:bG l n=([],1):=by unfold bG;rw[aQ b]
  rw[g];have:ak (nt<|nt e) (aa<|nt<|fU n) (aa true)=aa true:=by
   rcases b with h|h
   .rw[show e=false by
     cases e with
     | false=>rfl
     | true=>exact absurd (C.1 rfl) h]
    rfl
   .rw[h];cases nt _<;>rfl
  rw[this,ab,ai]
 .have hv:Valid l:=by
   grind
  have D:fU n=true:=by
   grind
  obtain rfl:=C.2 hv;rw[D];have:ak (nt<|nt true) (aa<|nt true) (aa true)=aa false:=rfl;rw[this,ab,wT _ ah,ab];obtain⟨p,F,G⟩:∃p,ak (nt<|bt (bd n.1).1 []) (ae (hR (l,(bd n.1).1,())) λy=>aa (aL y.1 0)) (aa false)=aa p/\(p=true↔((bd n.1).1≠[]/\∀x∈l,x.1≠(bd n.1).1)):=by
   by_cases q:(bd n.1).1=[]
   .refine⟨false,by rw[q];rfl,λh=>(by cases h),λh=>absurd q h.1⟩
   .rw[aY q,aE,ai];rcases CG l (bd n.1).1 f with ⟨i,x,o,c,h⟩|⟨j,h⟩
    .refine⟨false,by rw[h,ab,aC ah],λh=>(by cases h),λh=>absurd c (h.2 x<|eG o)⟩
    .exact⟨true,by rw[h];rfl,λ_=>⟨q,j⟩,λ_=>rfl⟩
  rw[F,ab];by_cases s:(bd n.1).1≠[]/\∀x∈l,x.1≠(bd n.1).1
  .have g:bG l n=([],3):=by unfold bG;rw[aK b,aQ s]
   rw[G.2 s,g];rfl
  .have:p=false:=by
    grind
   rw[this];obtain⟨d,H,O,I⟩:=Nk l (bd n.1).1 f;rw[H,ab];by_cases t:(bd n.1).1≠[]/\∀x∈l,x.1=(bd n.1).1->x.2.1≠2
   .have g:bG l n=([],12):=by unfold bG;rw[aK b,aK s,aQ t]
    have:d=false:=by
     grind
    rw[this,g];rfl
   .have:d=true:=by
     cases d with
     | true=>rfl
     | false=>exact absurd (I hv.ord rfl) t
    rw[this];have g:bG l n=(let r:=if(∃x∈l,x.1=n.1/\x.2.1=2)/\n.2.1=2 then l.filter (λx=>!decide (x.1=n.1)) else qq l n.1
      if 64<=r.length then([],5) else(vA r n,0)):=by
     unfold bG;rw[aK b,aK s,aK t]
    rcases CG l n.1 f with ⟨i,x,o,c,h⟩|⟨j,h⟩
    .have hi:=av o;have k:=eG o;rw[h,ab];rw[bz ah,ai,ao o,ab,ab];by_cases a:x.2.1=2/\n.2.1=2
     .obtain⟨J,P⟩:=VZ hv.ord o c;rw[aQ<|show((∃x∈l,x.1=n.1/\x.2.1=2)/\n.2.1=2) from⟨⟨x,k,c,a.1⟩,a.2⟩] at g;have K:inside 0 i (len l)=true:=je (pW _) ah;rw[au a.1,au a.2,K,fT,aB ah,(aO ah dR<|tr _),jd l _ ah];rw[(aJ cT),(aJ<|by rw[gU,Lk,dk,rj];omega)];refine T8 (CJ l (l.take i++l.drop _) n (by rw[<-J];apply f.filter) m) ?_
      grind
     .have L:ak (aG x.2.1 2) (aG n.2.1 2) false=false:=by
       unfold aG;by_cases u:x.2.1=2
       .rw[cU u];exact cd λv=>a ⟨u,v⟩
       .rw[cd u,ag]
      rw[aK (show ¬((∃x∈l,x.1=n.1/\x.2.1=2)/\n.2.1=2) from λh=>by
       obtain⟨⟨y,w,z,A⟩,v⟩:=h;have:=hv.ord.uniq k w (by rw[c,z]);subst this;exact a ⟨A,v⟩)] at g
      rw[L,CI l n.1 true f ah,Ps];refine T8 (CJ l _ n (f.filter _) m) ?_
      grind
    .have M:¬((∃x∈l,x.1=n.1/\x.2.1=2)/\n.2.1=2):=λ⟨⟨y,w,z,_⟩,_⟩=>j y w z;rw[ Yp hv (Z1 D) j] at g;rw[h];refine T8 (CJ l l n f m) ?_
     grind
def Z2:Nd:=([],0,0,[],[],())
def findF(l:List Nd)(p:bb):Nd×Bool×aj:=match l.find? λx=>decide (x.1=p) with
 | some x=>(x,true,())
 | none=>(Z2,false,())
def Fg{l p}(h:∀x∈l,x.1≠p):findF l p=(Z2,false,()):=by
 unfold findF;rw[TI.2 λx a=>by simp[h x a]]
def A7{l}(c:Ord l){p x}(b:x∈l)(e:x.1=p):findF l p=(x,true,()):=by
 unfold findF;cases h:l.find? λx=>decide (x.1=p) with
 | none=>have:=TI.1 h x b;simp[e] at this
 | some y =>
   have a:=Ze h;have a:y.1=p:=by simpa using a
   have:=c.uniq b (TL h) (by rw[e,a]);subst this;rfl
def abP l p (c:vY l) (f:p.length<=4096) (hv:Valid l):yE (l,p,())=aa (findF l p):=by
 obtain⟨e,g,h⟩:=mo l c;obtain rfl:=h.2 hv;obtain⟨k,b,i,m,n,j⟩:=Dv l p c f;have a:=j hv.ord;unfold yE;rw[g,ab];rw[show nt _=false by rfl,ag,i,ab];cases b with
 | false=>rw[ Fg (a.no rfl)];rfl
 | true =>
   obtain⟨x,d,e⟩:=a.is rfl;rw[aW,ag,ao d,ab,A7 hv.ord (eG d) e]
def ahj:List Nd->Bool
 | a::b::r=>decide (cmpL (key a) (key b)<0)&&ahj (b::r)
 | _=>true
def ae6:∀{l},ahj l=true->Ord l:=by
 intro l h;refine Nn ?_;induction l with
 | nil=>intro k x y c;simp at c
 | cons a r e =>
   cases r with
   | nil=>intro k x y c d;simp at d
   | cons b r =>
     simp only[ahj,gw,Ap] at h;intro k x y c d;cases k with
     | zero =>
       obtain rfl:a=x:=by simpa using c
       obtain rfl:b=y:=by simpa using d
       exact h.1
     | succ k=>exact e h.2 k x y c d
def Nr(l:List Nd):Bool:=decide (l.length<=64)&&ahj l&&l.all fU&&l.all λx=>decide ((bd x.1).1=[])||l.any λy=>decide (y.1=(bd x.1).1)&&decide (y.2.1=2)
def A8{l}(h:Nr l=true):Valid l:=by
 unfold Nr at h;simp only[gw,Ap] at h;refine⟨h.1.1.1,ae6 h.1.1.2,λx a=>wa.1 h.1.2 x a,λx a=>?_⟩;have:=wa.1 h.2 x a;simp only[Ll,Ap,TJ,gw] at this;exact this
def nD:Nd:=([100],2,493,[],[],())
def nA:Nd:=([100,47,97],1,420,[120],[],())
def Yq:Nr []=true/\Nr [nD]=true/\Nr [nD,nA]=true:=by decide +kernel
set_option synthInstance.maxHeartbeats 200000 in
set_option synthInstance.maxSize 4000 in
instance anJ:DecidableEq Nd:=inferInstance
def QM a r n:vA (a::r) n=if cmp a n.1<0 then a::vA r n else n::a::r:=by
 unfold vA;by_cases h:cmp a n.1<0
 .rw[aQ h];simp[h]
 .rw[aK h];simp[h]
def vB{r n x}:x∈vA r n↔x=n\/x∈r:=by
 induction r with
 | nil=>simp[vA]
 | cons a r b =>
   rw[QM];split
   .rw[fh,b,fh];constructor
    .rintro(h|h|h)
     .exact .inr (.inl h)
     .exact .inl h
     .exact .inr (.inr h)
    .rintro(h|h|h)
     .exact .inr (.inl h)
     .exact .inl h
     .exact .inr (.inr h)
   .rw[fh]
def ae7 r n:(vA r n).length=r.length+1:=by
 unfold vA;rw[iC,iD,<-EB,<-iC,BJ]
def Ae{l}:Ord l↔l.Pairwise λx y=>cmpL (key x) (key y)<0:=by
 constructor
 .intro h;rw[Rl];intro i j b c a;exact h i j _ _ a (fH b) (fH c)
 .intro h i j x y a d e;rw[Rl] at h;obtain⟨f,g⟩:=iy.1 d;obtain⟨k,m⟩:=iy.1 e;rw[<-g,<-m];exact h i j f k a
def ae8{r n}(b:Ord r)(c:∀x∈r,x.1≠n.1):Ord (vA r n):=by
 rw[Ae] at b⊢;induction r with
 | nil=>simp[vA]
 | cons a r f =>
   rw[FB] at b;rw[QM];split
   .rename_i h;refine FB.2 ⟨λy hy=>?_,f b.2 λx g=>c x (by simp[g])⟩;rcases vB.1 hy with rfl|hy
    .exact h
    .exact b.1 y hy
   .rename_i h;have d:cmpL (key n) (key a)<0:=by
     have i:cmp a n.1≠0:=λe=>c a aT (VV e);have j:cmpL _ (key a)=- cmpL _ (key n):=MW _ _;have k:cmp a n.1=cmpL (key a) (key n):=rfl;omega
    refine FB.2 ⟨λy hy=>?_,FB.2 b⟩;rcases fh.1 hy with rfl|hy
    .exact d
    .exact mn d (b.1 y hy)
def Ns{x y:Nd}{p}(b:(bd x.1).1≠[])(e:y.1=(bd x.1).1)(h:ea (parts y.1) (parts p)=true):ea (parts x.1) (parts p)=true:=by
 have a:=x4 b;rw[<-e] at a;obtain⟨d,c⟩:=fb h;refine cU ⟨?_,?_⟩
 .rw[a,iC];omega
 .rw[a,acV ah,c]
def Fh{x:Nd}(b:(bd x.1).1≠[]):ea (parts x.1) (parts (bd x.1).1)=true:=by
 have a:=x4 b;refine cU ⟨?_,?_⟩
 .rw[a];simp
 .rw[a];simp
def K5(l:List Nd)(n:Nd)(r:List Nd):Prop :=
 (((∃x∈l,x.1=n.1/\x.2.1=2)/\n.2.1=2)/\r=l.filter λx=>!decide (x.1=n.1))\/((¬((∃x∈l,x.1=n.1/\x.2.1=2)/\n.2.1=2))/\r=qq l n.1)
def Nt l n:((bG l n).1=[]/\(bG l n).2≠0) \/
  (Valid l/\fU n=true/\((bd n.1).1=[]\/∃x∈l,x.1=(bd n.1).1/\x.2.1=2)/\∃r,K5 l n r/\r.length<64/\bG l n=(vA r n,0)):=by
 unfold bG;by_cases b:¬Valid l\/fU n=false
 .rw[aQ b];exact .inl ⟨rfl,aD⟩
 .rw[aK b];by_cases c:(bd n.1).1≠[]/\∀x∈l,x.1≠(bd n.1).1
  .rw[aQ c];exact .inl ⟨rfl,aD⟩
  .rw[aK c];by_cases f:(bd n.1).1≠[]/\∀x∈l,x.1=(bd n.1).1->x.2.1≠2
   .rw[aQ f];exact .inl ⟨rfl,aD⟩
   .rw[aK f];have hv:=BK λh=>b (.inl h);have g:fU n=true:=by
     cases h:fU n with
     | true=>rfl
     | false=>exact absurd (.inr h) b
    have i:(bd n.1).1=[]\/∃x∈l,x.1=(bd n.1).1/\x.2.1=2:=by
     by_cases j:(bd n.1).1=[]
     .exact .inl j
     .right;refine BK λh=>f ⟨j,λx k e c=>h ⟨x,k,e,c⟩⟩
    by_cases d:(∃x∈l,x.1=n.1/\x.2.1=2)/\n.2.1=2
    .simp only[aQ d];by_cases a:64<=(l.filter λx=>!decide (x.1=n.1)).length
     .rw[aQ a];exact .inl ⟨rfl,aD⟩
     .rw[aK a];exact .inr ⟨hv,g,i,_,.inl ⟨d,rfl⟩,ah,rfl⟩
    .simp only[aK d];by_cases a:64<=(qq l n.1).length
     .rw[aQ a];exact .inl ⟨rfl,aD⟩
     .rw[aK a];exact .inr ⟨hv,g,i,_,.inr ⟨d,rfl⟩,ah,rfl⟩
def K5.sub{l r n}(h:K5 l n r):(∀x∈r,x∈l/\x.1≠n.1)/\∃P,r=l.filter P:=by
 rcases h with ⟨_,rfl⟩|⟨_,rfl⟩
 .refine⟨λx a=>?_,_,rfl⟩;have:=zx.1 a;simpa using this
 .refine⟨λx a=>?_,_,rfl⟩;have:=zx.1 a;unfold gone at this;simp at this;exact⟨this.1,this.2.1⟩
def QN{l r n}(k:Valid l)(p:fU n=true)(q:(bd n.1).1=[]\/∃x∈l,x.1=(bd n.1).1/\x.2.1=2)(j:K5 l n r)(s:r.length<64):Valid (vA r n):=by
 obtain⟨c,P,t⟩:=j.sub;refine⟨by rw[ae7];omega,ae8 (by rw[t];exact k.ord.filter P) λx hx=>(c x hx).2,λx hx=>?_,λx hx=>?_⟩
 .rcases vB.1 hx with rfl|hx
  .exact p
  .exact k.may x (c x hx).1
 .rcases vB.1 hx with rfl|hx
  ·
   rcases q with h|⟨y,g,b,d⟩
   .exact .inl h
   .by_cases f:(bd x.1).1=[]
    .exact .inl f
    .right;refine⟨y,vB.2 (.inr ?_),b,d⟩;have a:=Fh f;rw[<-b] at a;have hlen:(parts y.1).length<(parts x.1).length:=by
      exact(fb a).1
     have i:y.1≠x.1:=λe=>by rw[e] at hlen;omega
     have m:ea (parts y.1) (parts x.1)=false:=by
      exact cd λh=>ah
     rcases j with ⟨_,rfl⟩|⟨_,rfl⟩
     .exact zx.2 ⟨g,by simp[i]⟩
     .exact zx.2 ⟨g,by unfold gone;simp[i,m]⟩
  .rcases k.up x (c x hx).1 with h|⟨y,g,b,d⟩
   .exact .inl h
   .by_cases f:(bd x.1).1=[]
    .exact .inl f
    .right;have a:=Fh f;by_cases e:y.1=n.1
     .rcases j with ⟨u,rfl⟩|⟨_,rfl⟩
      .exact⟨n,vB.2 (.inl rfl),by rw[<-e,b],u.2⟩
      .have:=(zx.1 hx).2;rw[<-b,e] at a;unfold gone at this;rw[a] at this;simp at this
     .refine⟨y,vB.2 (.inr ?_),b,d⟩;rcases j with ⟨_,rfl⟩|⟨_,rfl⟩
      .exact zx.2 ⟨g,by simp[e]⟩
      .refine zx.2 ⟨g,?_⟩;have xz:=(zx.1 hx).2;unfold gone at xz⊢;cases o:ea _ _ with
       | false=>simp[e]
       | true =>
         rw[Ns f b o] at xz;simp at xz
def Nu(a:List bb):Prop:=∀x∈a,47∉x/\x≠[]
def gA(m:Int)(p:bb):Nd:=(p,(2:Int),m,([]:bb),([]:bb),())
def eM(a:List bb)(j:Nat):bb:=aR (a.take<|j+1)
def tl(a:List bb)(k:Nat):List Nd:=(List.range k).map λj=>gA 0 (eM a j)
def V1 a k:tl a (k+1)=tl a k++[gA 0<|eM a k]:=by
 unfold tl;rw[List.range_succ,List.map_append];rfl
def x5 a k:(tl a k).length=k:=by unfold tl;rw[y4,Rq]
def rC{ns}(h:Nu ns){i x}(b:ns[i]?=aa x):rT (aR<|ns.take i) x=eM ns i:=by
 have c:ns.take (i+1)=ns.take i++[x]:=by rw[yn,b];rfl
 have:=M8 [x] _ (λy a=>by
  rw[<-c] at a;exact h y (DQ a))
 unfold eM
 grind
def CL:∀a k,(aR<|a.take k).length<=(aR a).length:=by
 intro a;induction a with
 | nil=>simp
 | cons x r b =>
   intro k;cases k with
   | zero=>simp[aR]
   | succ k =>
     rw[Y9];cases r with
     | nil=>simp
     | cons y r =>
       cases k with
       | zero=>simp[aR]
       | succ k =>
         have:=b (k+1);rw[Y9] at this⊢;simp only[aR,iC,iD] at this⊢;omega
def Eo:∀c x,x∈c->x.length<=(aR c).length:=by
 intro c;induction c with
 | nil=>intro x d;cases d
 | cons a r e =>
   intro x d;cases r with
   | nil =>
     rw[DR] at d;subst d;simp[aR]
   | cons b r =>
     simp only[aR]
     grind
def Jw(a:List bb):Prop:=Nu a/\a.length<=16/\(aR a).length<=200
def Jw.tm{ns}(h:Jw ns) k:(aR<|ns.take k).length<=200:=fi (CL ns k) h.2.2
def Jw.K6{ns}(h:Jw ns){x}(a:x∈ns):x.length<=200:=fi (Eo ns x a) h.2.2
def Jw.take{ns}(h:Jw ns) k:Jw (ns.take k):=⟨λx a=>h.1 x (DQ a),by rw[dk];have:=h.2.1;omega,h.tm k⟩
def Jx a (h:Jw a):Loop (hH (a,())) (((),([]:bb),0,()),([]:List Nd),()) =
  aa (((),aR a,(a.length:Int),()),tl a a.length,()):=by
 obtain⟨t,l,m,_⟩:=uc (f:=hH (a,())) a (λs i=>(((),s.1,i,()),s.2,())) (λs i x=>(rT s.1 x,s.2++[gA 0 _])) _
  (λs i=>s.1=aR (a.take i)/\s.2=tl a i) (by have:=h.2.1;omega) (λs i x d e b c=>by
   have g:=h.K6 (eG d);have j:=h.tm i;have hlen:=x5 a i;have k:=h.2.1;constructor
   .unfold hH;rw[al e,ao d,ab,Ig _ _ (by rw[c.1];omega) ah,ab,aJ (by rw[c.2];simp;omega),b];rfl
   .dsimp only;rw[c.1,c.2,rC h.1 d,V1];exact⟨rfl,rfl⟩) (λs _=>by
   unfold hH;rw[aq];rfl) ([],[]) ⟨by simp[aR],rfl⟩
 grind
def preB(a:List bb)(k:Nat):Bool:=(List.range k).all λj=>fU (gA 0<|eM a j)
def Nv{ns}(h:Nu ns){j}(c:j<ns.length):(bd<|eM ns j).1=aR (ns.take j):=by
 have a:ns.take (j+1)≠[]:=by
  intro e;simp_all
 unfold eM;rw[CC (λx b=>h x (DQ b)) a];rw[TQ]
 grind
def x6{ns}(h:Nu ns) j:parts (eM ns j)=ns.take (j+1):=kf _ λx a=>h x (DQ a)
def uf{ns}(h:Nu ns):aR ns=[]↔ns=[]:=by
 constructor
 .intro e;have:=kf ns h;rw[e] at this;exact this.symm
 .rintro rfl;rfl
def Yr{ns}(h:Jw ns)(g:ns≠[]){n}(p:n.1=aR ns) :
  Valid (tl ns (ns.length-1)++[n])↔(preB ns (ns.length-1)=true/\fU n=true):=by
 have a:∀j x,(tl ns (ns.length-1)++[n])[j]?=aa x->x.1=eM ns j/\j<ns.length/\(j<ns.length-1->x=gA 0 (eM ns j)):=by
  intro j x hx;rw[Ro,x5] at hx;by_cases b:j<ns.length-1
  .rw[aQ b] at hx;unfold tl at hx;rw[JN,Ox b] at hx;obtain rfl:=aI hx;exact⟨rfl,ah,λ_=>rfl⟩
  .rw[aK b] at hx;have:j-(ns.length-1)=0:=by
    grind
   unfold eM
   grind
 constructor
 .intro d;refine⟨?_,d.may n aT⟩;unfold preB;rw[wa];intro j b;refine d.may _ (DP _ ?_);unfold tl
  grind
 .rintro⟨k,q⟩;unfold preB at k;refine⟨?_,?_,?_,?_⟩
  .rw[iC,x5];have:=h.2.1
   grind
  .intro i j x y l hx m;obtain⟨c,f,_⟩:=a i x hx;obtain⟨o,r,_⟩:=a j y m;unfold key;rw[c,o,x6 h.1,x6 h.1];have e:ns.take (j+1)=ns.take (i+1)++(ns.take<|j+1).drop (i+1):=by
    have:=(Fz (i+1)<|ns.take<|j+1).symm
    grind
   rw[e,Vl]
   .decide
   .grind
  .intro x hx;rcases Oy.1 hx with hx|hx
   .obtain⟨j,b,rfl⟩:=Lq.1 hx
    grind
   .grind
  .intro x hx;obtain⟨j,b⟩:=bc.1 hx;obtain⟨c,f,_⟩:=a j x b;rw[c,Nv h.1 f];cases j with
   | zero=>left;rfl
   | succ j =>
     right;refine⟨gA 0<|eM ns j,DP _ ?_,rfl,rfl⟩
     grind
def Nw{ns}(h:Jw ns)(a:ns≠[]){n}(c:n.1=aR ns)(i:Sm n) :
  en (n,())=aa (preB ns (ns.length-1)&&fU n,()):=by
 have d:bd n.1=(aR ns.dropLast,ns.getLast a):=by rw[c];exact CC h.1 a
 have k:=h.tm (ns.length-1);have b:Jw (ns.take<|ns.length-1):=h.take _;have f:tl (ns.take<|ns.length-1) (ns.take<|ns.length-1).length=tl ns (ns.length-1):=by
  rw[dk,xh ah];apply Y7;unfold eM
  grind
 unfold en;rw[rB n.1 (by have:=i.1;omega),ab,d];dsimp only;rw[TQ,rR _ ah,ab,(kf _ b.1),Jx _ b,ab,f];rw[aY<|by rw[c];exact λe=>a ((uf h.1).1 e),aE,ai,aJ (by rw[x5];have:=h.2.1;simp;omega),ai];have g:vY (tl ns (ns.length-1)++[n]):=⟨by rw[iC,x5];have:=h.2.1;simp;omega,λx hx=>by
  rcases Oy.1 hx with hx|hx
  .obtain⟨j,o,rfl⟩:=Lq.1 hx;exact⟨h.tm _,by simp[gA],by simp[gA]⟩
  .rw[DR] at hx;subst hx;exact i⟩
 obtain⟨e,l,m⟩:=mo _ g;rw[gU,l,ab];rw[show aG e 0=_ by
  rw[Rs,gw,<-(Yr h a c),<-m];unfold aG;simp]
def ahk{n}(h:fU n=true):fU (gA 0 n.1)=true:=by
 unfold fU at h⊢;simp at h⊢;exact⟨⟨⟨h.1.1.1,by simp[gA]⟩,by simp[gA]⟩,by simp[QJ,gA]⟩
def zo{ns}(h:Jw ns):lh (aR ns,())=aa (preB ns ns.length&&decide (ns≠[]),()):=by
 have c:=h.tm ns.length;rw[zw] at c;unfold lh;dsimp only;rw[ig _ ah,ab,(kf _ h.1)];have key:∀d k,k+d=ns.length->(∀j,j<k->fU (gA 0<|eM ns j)=true) ->
   ∃r,Loop (gI (ns,())) ((false,aR<|ns.take k,(k:Int),()),())=aa r/\((r.1=0/\preB ns ns.length=true)\/(r.1=1/\r.2.1.1=false/\preB ns ns.length=false)):=by
  intro d;induction d with
  | zero =>
    intro k n a;obtain rfl:k=ns.length:=ah;refine⟨(0,(false,aR<|ns.take ns.length,ns.length,()),()),?_,.inl ⟨rfl,?_⟩⟩
    .rw[aN];unfold gI;rw[aq];rfl
    .unfold preB
     grind
  | succ d o =>
    intro k n a;have hx:ns[k]?=aa ns[k]:=fH ah;have p:=h.K6 (List.getElem_mem<|show k<ns.length by omega);have q:=h.tm k;have i:=h.tm (k+1);have s:=h.2.1;have step:gI (ns,()) ((false,aR<|ns.take k,k,()),())=aa (if fU (gA 0<|eM ns k)=true then .inl ((false,eM ns k,((k+1):Int),()),()) else .inr (1,(false,eM ns k,k,()),())):=by
     unfold gI;dsimp only;have b:=yS (gA 0<|eM ns k) (by show(eM ns k).length<=4096;unfold eM;omega) (by simp[gA]);unfold gA at b;rw[al ah,ao hx,ab,A4 _ _ ah ah,ab,rC h.1 hx,b,aB ah];unfold gA;cases fU _<;>rfl
    by_cases b:fU (gA 0<|eM ns k)=true
    .rw[aQ b] at step;obtain⟨r,l,e⟩:=o (k+1) ah (λj t=>by
      by_cases u:j=k
      .grind
      .exact a j ah)
     exact⟨r,by rw[aN,step];exact l,e⟩
    .rw[aK b] at step;refine⟨_,by rw[aN,step];rfl,.inr ⟨rfl,rfl,?_⟩⟩;unfold preB
     grind
 obtain⟨r,l,e⟩:=key ns.length 0 ah (λj t=>ah);have f:Loop (gI (ns,())) ((false,([]),0,()),())=aa r:=by
  have:aR (ns.take 0)=[]:=by simp[aR]
  grind
 rw[f,ab];rcases e with ⟨g,m⟩|⟨g,m,v⟩
 .rw[g,show cl 0 0=true from rfl,ai];unfold nt bt;have:=uf h.1
  grind
 .rw[g,m,v];rfl
def vC(a:List bb):Bool:=preB a a.length&&decide (a≠[])
def Ta{ns}(a:ns≠[]):preB ns ns.length=(preB ns (ns.length-1)&&fU (gA 0<|aR ns)):=by
 unfold preB;have:eM ns (ns.length-1)=aR ns:=by unfold eM;rw[JK ah]
 grind
def abQ{ns}(a:ns≠[]){n}(c:n.1=aR ns):(preB ns (ns.length-1)&&fU n)=(fU n&&vC ns):=by
 unfold vC;rw[Ta a];cases b:fU n with
 | false=>simp
 | true =>
   have:=ahk b
   grind
def Ys{n:Nd}(b:n.1=[]):en (n,())=aa (false,()):=by
 unfold en;have a:bd ([])=([],[]):=aD;rw[b,rB _ aT,ab,a];rw[rR _ aT,ab,show parts []=[] from rfl];have:=Jx [] ⟨λx c=>(by cases c),aT,(by simp[aR])⟩;rw[this];rfl
def QO{ns}(h:Jw ns):mG (aR ns,())=aa (decide (ns=[])||vC ns,()):=by
 unfold mG;by_cases a:ns=[]
 .subst a;rfl
 .have b:=λe=>a ((uf h.1).1 e);have c:Sm (gA 0 _):=⟨h.2.2,by simp[gA],by simp[gA]⟩;have:=Nw h a rfl c;unfold gA at this;rw[aY b,this,cd a];unfold vC;rw[Ta a,cU a,adp];rfl
def mq(p:Pt)(a:bb):Nd:=(a,p.1.2.1,p.1.2.2.1,p.2.1,p.1.2.2.2.2.2.2.2.1,())
def vQ(p:Pt):Bool:=decide (p.1.2.1=1)&&decide (p.2.1=[])
def x7(a:List bb):List bb:=a.dropLast++[(nW<|a.getLastD []).2]
def bS(p:Pt):Int×List bb×Bool :=
 if nV p.1.1=true then
  let a:=names p.1.1
  if(nW<|a.getLastD []).1=1 then(1,x7 a,vQ p&&vC (x7 a))
  else if(nW<|a.getLastD []).1=2 then(2,a.dropLast,vQ p&&(decide (a.dropLast=[])||vC a.dropLast))
  else if(nW<|a.getLastD []).1=0 then(0,a,(decide (a=[])&&decide (p.1.2.1=2))||(fU (mq p<|aR a)&&vC a))
  else(0,[],false)
 else(0,[],false)
def CM{s}(h:nV s=true):Jw (names s):=by
 obtain⟨b,c,d⟩:=rU h;exact⟨λx a=>⟨(xc s x a).1,(xc s x a).2.1⟩,ah,ah⟩
def Fi{s}(h:nV s=true):((names s).getLastD []).length<=96:=by
 obtain⟨b,c,d⟩:=rU h;cases e:names s with
 | nil=>simp
 | cons a r =>
   have:(a::r).getLastD []∈names s:=by
    grind
   have:=Eo _ _ this;omega
def yT{ns}(h:Nu ns):bd (aR ns)=(aR ns.dropLast,ns.getLastD []):=by
 by_cases a:ns=[]
 .subst a;decide
 .rw[CC h a]
  grind
def Nx{n}(h:(nW n).1=1):(nW n).2=n.drop 4/\n.drop 4≠[]:=by
 unfold nW at h⊢
 grind
def Ny n:(nW n).1=0\/(nW n).1=1\/(nW n).1=2\/(nW n).1=3:=by
 unfold nW
 grind
def ae9 d n:(rT d n).length<=d.length+n.length+1:=by
 unfold rT
 grind
def Im{s}(h:nV s=true)(g:(nW<|(names s).getLastD []).1=1):rT (aR (names s).dropLast) (nW<|(names s).getLastD []).2=aR (x7<|names s)/\Jw (x7<|names s):=by
 have a:=CM h;obtain⟨e,d⟩:=Nx g;have b:(names s).getLastD []∈names s:=by
  grind
 have c:Nu (x7<|names s):=λx hx=>by
  rcases Oy.1 hx with hx|hx
  .exact a.1 x (by rw[TQ] at hx;exact DQ hx)
  .rw[DR] at hx;subst hx;rw[e];exact⟨λq=>(a.1 _ b).1 (PR q),d⟩
 have f:rT _ (nW _).2=aR (x7<|names s):=M8 [_] _ c;refine⟨f,c,?_,?_⟩
 .unfold x7;have:=a.2.1
  grind
 .rw[<-f];have i:=ae9 (aR (names s).dropLast) (nW<|(names s).getLastD []).2;have j:=Fi h;have k:(aR (names s).dropLast).length<=96:=by
   rw[TQ];have:=CL (names s) ((names s).length-1);have:=(rU h).2.2;omega
  grind
def Dw{ns}(h:Jw ns):Jw ns.dropLast:=by
 rw[TQ];apply h.take
def SmP(p:Pt):Prop:=p.1.1.length<=300/\p.1.2.2.2.2.2.2.2.1.length<=300/\p.2.1.length<=8192
def CN p (h:SmP p):pf (p,())=aa ((bS p).1,aR (bS p).2.1,(bS p).2.2,()):=by
 unfold pf;rw[S1 p.1.1 (by have:=h.1;omega),ab];unfold bS;cases c:nV p.1.1 with
 | false =>
   have:lF p.1.1=([],2):=by unfold lF;rw[c];rfl
   rw[this];rfl
 | true =>
   have f:lF p.1.1=(aR<|names p.1.1,0):=by unfold lF;rw[c];rfl
   have a:=CM c;have k:=(rU c).2.2;rw[f];dsimp only;rw[ wT _ ah,ab,yT a.1];dsimp only;rw[Jq,ab];have i:∀A,(ak (ak (aG p.1.2.1 1) (bt p.2.1 []) false) A<|some false)=if vQ p=true then A else aa false:=λA=>by
    unfold vQ aG bt;by_cases d:p.1.2.1=1
    .by_cases n:p.2.1=[]
     .simp[ ak]
     .simp[ ak]
    .simp[ ak]
   have j:=Fi c;rcases Ny _ with b|b|b|b
   .rw[b];unfold sG;rw[ab];rw[show lM ((aR _,_),())=_ from(yS (mq p _) (by show(aR _).length<=4096;omega) (by show p.1.2.2.2.2.2.2.2.1.length<=4096;have:=h.2.1;omega)),zo a];have g:ak (bt (aR<|names p.1.1) []) (aG p.1.2.1 2) false=(decide (names p.1.1=[])&&decide (p.1.2.1=2)):=by
     have:=uf a.1;unfold bt aG;by_cases d:names p.1.1=[]
     .rw[cU d,cU (this.2 d)];simp[ak]
     .rw[cd d,cd λe=>d (this.1 e)];rfl
    rw[g];cases decide (names p.1.1=[])&&decide (p.1.2.1=2) with
    | true=>rfl
    | false =>
      cases fU _<;>rfl
   .obtain⟨l,m⟩:=Im c b;rw[b,A4 _ _ (by have:=(Dw a).2.2;omega) (by rw[(Nx b).1,rj];omega),ab,l];rw[zo m,i];cases vQ p<;>rfl
   .rw[b];have hd:=Dw a;rw[zo hd,i];have g:bt (aR (names p.1.1).dropLast) []=decide ((names p.1.1).dropLast=[]):=by
     have:=uf hd.1;unfold bt
     grind
    rw[g];cases vQ p<;>cases decide ((names p.1.1).dropLast=[])<;>rfl
   .rw[b];rfl
set_option maxRecDepth 100000
end Go.Ge
namespace Go.Ge
variable [Lp]
set_option maxRecDepth 100000
def tn(i:Nat)(n:Nat)(x:UInt8):Option (Nat⊕(Nat×(Int×Bool×Int×Int×aj)×aj)) :=
 aa (if x.toNat<48\/55<x.toNat then .inr (1,(0,false,(n:Int),(i:Int),()),()) else .inl (8*n+(x.toNat-48)))
def CO(i:Nat)(n:Nat):Nat×(Int×Bool×Int×Int×aj)×aj:=(0,(0,false,(n:Int),(i:Int),()),())
def Nz{i n b x}(c:i<=21/\n<8 ^ i)(d:i<21)(a:tn i n x=aa (.inl b)):i+1<=21/\b<8 ^ (i+1):=by
 have a:=aI a;split at a
 .cases a
 .obtain rfl:=T4 a;omega
def Z3{i}(h:i<=20):8 ^ i<=1152921504606846976:=by
 have:8 ^ i<=8 ^ 20:=Nat.pow_le_pow_right aD h;omega
def Ep s (l:s.length<=21):Loop (bN (s,())) ((0,false,0,0,()),())=vu tn CO s 0 0:=by
 have key:=qo (f:=bN (s,())) s (λ(n:Nat) i=>((0,false,n,i,()),())) tn CO (λi n=>i<=21/\n<8 ^ i)
  (λn i x c g d=>by
   have m:=Z3 (i:=i) ah;obtain⟨o,j⟩:=iy.1 c;unfold bN tn;dsimp only;rw[lE,aH ah,aF ah ah,zZ s g,j,ab,aB ah];by_cases a:x.toNat<48
   .rw[aH<|by unfold u8;omega,aQ (.inl a)];rfl
   .by_cases b:55<x.toNat
    .rw[aC<|by unfold u8;omega,aE,ai,aH (by unfold u8;omega),aQ (.inr b)];rfl
    .rw[aC<|by unfold u8;omega,aC (by unfold u8;omega),aK ah];have e:u8 x=((48+(x.toNat-48):Nat):Int):=by unfold u8;omega
     rw[e,amE ah ah];rfl)
  (λn i x p c d k=>Nz d (by have:=av c;omega) k)
  (λn d=>by
   unfold bN CO;dsimp only;rw[lE,aC ah,ag])
  (λ_ _ _ _ _ h=>by cases h) 0 ⟨ah,aD⟩
 exact key
def Io s (k:s.length<=21):Loop (gp (s,())) ((0,false,0,0,()),())=vu tn CO s 0 0:=by
 have key:=qo (f:=gp (s,())) s (λ(n:Nat) i=>((0,false,n,i,()),())) tn CO (λi n=>i<=21/\n<8 ^ i)
  (λn i x c g d=>by
   have l:=Z3 (i:=i) ah;unfold gp tn;dsimp only;rw[al g,ai,ao c,ab,ab,ab,aB ah];by_cases a:x.toNat<48
   .rw[aH<|by unfold u8;omega,aW,ag,aQ (.inl a)];rfl
   .by_cases b:55<x.toNat
    .rw[aC<|by unfold u8;omega,aE,ai,ab,aH (by unfold u8;omega),aQ (.inr b)];rfl
    .rw[aC<|by unfold u8;omega,aE,ai,aC (by unfold u8;omega),aC ah,aK ah];have e:u8 x=((48+(x.toNat-48):Nat):Int):=by unfold u8;omega
     rw[e,aih ⟨x.toNat-48,ah⟩,Ct ah ah,fA ah ah];rfl)
  (λn i x m c d j=>Nz d (by have:=av c;omega) j)
  (λn d=>by
   unfold gp CO;rw[aq,ag])
  (λ_ _ _ _ _ h=>by cases h) 0 ⟨ah,aD⟩
 exact key
def Pu:∀r i n,∃q,vu tn CO r i n=aa q/\(q.1=0\/q.1=1):=by
 intro r;induction r with
 | nil=>intro i n;exact⟨_,rfl,.inl rfl⟩
 | cons x r a =>
   intro i n;unfold vu tn;by_cases h:x.toNat<48\/55<x.toNat
   .rw[aQ h];exact⟨_,rfl,.inr rfl⟩
   .rw[aK h];apply a
def CP s (e:s.length<=1048576):dG (s,())=nI (s,())/\∃n b,dG (s,())=aa (n,b,()):=by
 unfold dG nI;dsimp only;by_cases f:s.length<1
 .rw[aH<|by rw[bw];omega];exact⟨rfl,_,_,rfl⟩
 .by_cases g:21<s.length
  .rw[aC<|by rw[bw];omega,aE,ai,aH (by rw[bw];omega)];exact⟨rfl,_,_,rfl⟩
  .rw[aC<|by rw[bw];omega,aC (by rw[bw];omega),dS (by rw[bw];omega),Ep s ah,Io s ah];refine⟨rfl,?_⟩;obtain⟨q,a,d⟩:=Pu s 0 0;rw[a,ab];rcases d with c|c
   .rw[c];exact⟨_,_,rfl⟩
   .rw[c];exact⟨_,_,rfl⟩
end Go.Ge
namespace Go.Ge
variable [Lp]
def afa{k S R:Type}{f}(l:List k)(a:Nat->S)(p:k->Bool)(b:Nat->R) fin
  (h:∀i x,l[i]?=aa x->f (a i)=aa (if p x=true then .inr (b i) else .inl (a<|i+1))) (c:f (a l.length)=aa (.inr fin)) :
  ∀d i,i+d=l.length->(∃(j:Nat) (x:k),i<=j/\l[j]?=aa x/\p x=true/\(∀m y,i<=m->m<j->l[m]?=aa y->p y=false)/\Loop f (a i)=aa (b j)) \/
   ((∀m y,i<=m->l[m]?=aa y->p y=false)/\Loop f (a i)=aa fin):=by
 intro d;induction d with
 | zero =>
   intro i r;obtain rfl:i=l.length:=ah;refine .inr ⟨λm y g q=>?_,by rw[aN,c];rfl⟩
   grind
 | succ d s =>
   intro i r;have hx:l[i]?=aa l[i]:=fH ah;have e:=h i _ hx;by_cases n:p l[i]=true
   .rw[aQ n] at e;exact .inl ⟨i,_,bV _,hx,n,λm y g t=>absurd g ah,by rw[aN,e];rfl⟩
   .rw[aK n] at e;rcases s (i+1) ah with ⟨j,x,u,o,v,A,w⟩|⟨u,o⟩
    .refine .inl ⟨j,x,ah,o,v,λm y g z q=>?_,by rw[aN,e];exact w⟩
     grind
    .refine .inr ⟨λm y g q=>?_,by rw[aN,e];exact o⟩
     grind
def V2 p s:∃z,s=dm p s++z/\∀x∈z,p x=true:=by
 refine⟨(s.reverse.takeWhile p).reverse,?_,λx a=>?_⟩
 .unfold dm;rw[<-List.reverse_append,BJ,List.reverse_reverse]
 .rw[List.mem_reverse] at a;exact Ic a
def V3{p s m x}(b:s[m]?=aa x)(c:p x=false):m<(dm p s).length/\∀j,j<=m->(dm p s)[j]?=s[j]?:=by
 obtain⟨z,d,a⟩:=V2 p s
 grind
def A9{p s j}(c:∀m y,j<=m->s[m]?=aa y->p y=true)(d:∀m y,m<j->s[m]?=aa y->p y=false):dm p s=s.take j:=by
 conv=>lhs;rw[((Fz j s).symm)]
 rw[Qx _ _ λx a=>by
  obtain⟨i,b⟩:=bc.1 a;rw[va] at b;exact c _ x ah b]
 refine aeT λx a=>?_
 grind
def NA(x:UInt8):Bool:=decide (48<=x.toNat/\x.toNat<=55)
def afb{x}(h:NA x=true):BN x=false:=by
 unfold NA at h;cases a:BN x with
 | false=>rfl
 | true =>
   rcases(VD x).1 a with e|e
   .simp_all
   .simp_all
def V4:∀r i n x,x∈r->NA x=false->∃q,vu tn CO r i n=aa q/\q.1=1/\q.2.1.2.1=false:=by
 intro r;induction r with
 | nil=>intro i n x hx;cases hx
 | cons a r c =>
   intro i n x hx b;unfold vu tn;by_cases h:a.toNat<48\/55<a.toNat
   .simp_all
   .rw[aK h];rcases fh.1 hx with e|hx
    .subst e;unfold NA at b
     grind
    .exact c _ _ x hx b
def Pv{s}(c:s.length<=21){x}(a:x∈s)(d:NA x=false):∃n,dG (s,())=aa (n,false,()):=by
 have b:=List.length_pos_of_mem a;unfold dG;dsimp only;rw[aC<|by rw[bw];omega,aE,ai,aC (by rw[bw];omega),ag,dS (by rw[bw];omega),ai,Ep s c];obtain⟨q,e,f,g⟩:=V4 s 0 0 x a d;rw[e,ab,f,gL,ag,g]
 grind
def amF x:ch 48 (u8 x)=decide (48<=x.toNat):=by unfold u8;apply gm.2;omega
def amG x:ch (u8 x) 55=decide (x.toNat<=55):=by unfold u8;apply gm.2;omega
def rW s (F:s.length<=21):ft (s,())=dw (s,()):=by
 unfold ft dw;rw[GQ s ah,ab];have first:=afa (f:=nK (s,())) s (λi=>((i,()),())) (λx=>!NA x) _ _ (λi x u=>by
  have hi:=av u;unfold nK;rw[al hi,ai,ao u,ab,ab,ab,amF,amG,aB ah];unfold NA;by_cases c:48<=x.toNat
  .by_cases a:x.toNat<=55
   .rw[cU c,cU a,cU ⟨c,a⟩];rfl
   .rw[cU c,cd a,cd λq=>a q.2];rfl
  .rw[cd c,cd λq:48<=x.toNat/\x.toNat<=55=>c q.1];rfl) (by
  unfold nK;rw[aq];rfl) s.length 0 ah
 rcases first with ⟨j,x,_,u,A,p,v⟩|⟨r,v⟩
 .rw[show Loop _ (((0:Int),()),())=_ from v,ab];have G:=av u;dsimp only;rw[ar<|by rw[bw];omega];have second:=afa (f:=nL (s,())) s (λi=>((0,i,()),())) (λx=>!BN x) _ _ (λi y d=>by
   have hi:=av d;have B:aG _ 0=decide (y=0):=Ek (n:=0);have w:aG _ 32=decide (y=32):=Ek (n:=32);unfold nL;rw[al hi,ao d,ab,ab,B,w,aB ah];have g:=VD y;by_cases c:y=0
   .rw[cU c,g.2 (.inl c)];rfl
   .by_cases a:y=32
    .rw[cd c,cU a,g.2 (.inr a)];rfl
    .rw[cd c,cd a,show BN y=false by
     cases C:BN y with
     | false=>rfl
     | true=>rcases g.1 C with e|e
             .grind
             .exact absurd e a];rfl) (by
   unfold nL;rw[aq,ag]) (s.length-j) j ah
  rcases second with ⟨m,y,o,d,D,_,h⟩|⟨k,h⟩
  .rw[show Loop _ _=_ from h,ab];obtain⟨H,I⟩:=V3 d (by simpa using D);have t:x∈dm BN s:=by
    grind
   have hlen:=pP BN s;obtain⟨n,E⟩:=Pv ah t (by simpa using A);rw[E];rfl
  .rw[show Loop _ _=_ from h];have l:=A9 (λm y o d=>by simpa using k m y o d) (λm y o d=>afb (by simpa using p m y (pW _) o d));have z:inside 0 j (len s)=true:=je (pW _) ah;rw[z,fT,l];obtain⟨c,n,b,a⟩:=CP (s.take j) (by rw[dk];omega);rw[<-c,a];rw[ar<|by rw[bw,bw,dk];omega];cases b<;>rfl
 .rw[show Loop _ (((0:Int),()),())=_ from v,ab,au (by rw[bw])];have l:dm BN s=s:=by
   have:=A9 (s:=s) (j:=s.length) (λm y o d=>by have:=av d;omega) (λm y o d=>afb (by simpa using r m y (pW _) d))
   grind
  rw[l];obtain⟨_,n,b,a⟩:=CP s ah;rw[a];rw[au rfl];cases b<;>rfl
def Ip s (M:s.length<=1000):∃t w,ph (s,())=aa (t,w,())/\kp (s,())=aa (dm db s,w,())/\(w=true->t=dm db s)/\t.length<=s.length:=by
 have A:∀y,aG _ 0=db y:=λy=>rfl;rw[GS s ah];unfold ph;have inner:∀i,i<=s.length->_:=λi B=>afa (f:=gQ (s,())) s (λk=>((([]),false,k,()),())) (λx=>!db x) _ _ (λk y a=>by
  have F:=av a;unfold gQ;rw[al F,ao a,ab,A,aB ah];cases db y<;>rfl) (by
  unfold gQ;rw[aq,ag]) (s.length-i) i ah
 have outer:(∃(i:Nat) (x:UInt8),s[i]?=aa x/\db x=true/\(∀(m:Nat) (y:UInt8),m<i->s[m]?=aa y->db y=false)/\Loop (dK (s,())) ((([]:bb),false,(0:Int),()),())=(ae (Loop (gQ (s,())) ((([]:bb),false,(i:Int),()),())) λn=>aa (if n.1=0 then(1,(s.take i,true,(i:Int),()),()) else(1,(n.2.1.1,n.2.1.2.1,i,()),())))) \/
   ((∀(m:Nat) (y:UInt8),s[m]?=aa y->db y=false)/\Loop (dK (s,())) ((([]:bb),false,0,()),())=aa (0,(([]:bb),false,(s.length:Int),()),())):=by
  have key:∀d i,i+d=s.length->(∀m y,m<i->s[m]?=aa y->db y=false)->(∃(j:Nat) (x:UInt8),s[j]?=aa x/\db x=true/\(∀m y,m<j->s[m]?=aa y->db y=false)/\Loop (dK (s,())) ((([]:bb),false,(i:Int),()),())=(ae (Loop (gQ (s,())) ((([]:bb),false,j,()),())) λn=>aa (if n.1=0 then(1,(s.take j,true,(j:Int),()),()) else(1,(n.2.1.1,n.2.1.2.1,j,()),())))) \/
   ((∀(m:Nat) y,s[m]?=aa y->db y=false)/\Loop (dK (s,())) ((([]),false,(i:Int),()),())=aa (0,(([]),false,(s.length:Int),()),())):=by
   intro d;induction d with
   | zero =>
     intro i B o;obtain rfl:i=s.length:=ah;refine .inr ⟨λm y a=>o m y (av a) a,?_⟩;have v:dK (s,()) ((([]),false,(s.length:Int),()),())=aa (.inr (0,(([]),false,s.length,()),())):=by
      unfold dK;rw[aq,ag]
     rw[aN,v];rfl
   | succ d G =>
     intro i B o;have hx:s[i]?=aa s[i]:=fH ah;cases u:db s[i] with
     | true =>
       refine .inl ⟨i,s[i],hx,u,o,?_⟩;have p:∃z,Loop (gQ (s,())) ((([]),false,(i:Int),()),())=aa z/\(z.1=0\/z.1=1):=by
        grind
       obtain⟨z,v,H⟩:=p;have C:inside 0 i (len s)=true:=je (pW _) ah;have r:dK (s,()) ((([]:bb),false,(i:Int),()),())=aa (.inr<|if z.1=0 then(1,(s.take i,true,i,()),()) else(1,(z.2.1.1,z.2.1.2.1,i,()),())):=by
        unfold dK;rw[al<|show i<s.length by omega,ai,ao hx,ab,A,u,ai,v,ab];rcases H with c|c
        .rw[c,cO,ai,C,ai,fT,aQ rfl]
        .rw[c,gL,ag,aK aD]
       rw[v,aN,r];rfl
     | false =>
       have r:dK (s,()) ((([]),false,i,()),())=aa (.inl ((([]),false,((i+1:Nat):Int),()),())):=by
        unfold dK;rw[al<|show i<s.length by omega,ai,ao hx,ab,A,u,ag,aB ah]
       rw[aN,r];exact G _ ah (λm y b a=>by
        by_cases e:m=i
        .grind
        .exact o m y ah a)
  exact key s.length 0 ah (λm y b=>absurd b ah)
 rcases outer with ⟨i,x,hx,u,o,D⟩|⟨l,D⟩
 .rw[D];have B:=av hx;rcases inner i ah with ⟨j,y,I,a,J,_,h⟩|⟨K,h⟩
  .rw[show Loop _ _=_ from h,ab,ab,aK (show ¬1=0 by decide),gL,ag];obtain⟨N,L⟩:=V3 a (by simpa using J);have:¬z8 _:=λq=>by
    have b:=bc.2 ⟨i,by rw[L i I,hx]⟩;exact q x b ((z7 x).1 u)
   grind
  .rw[show Loop _ _=_ from h,ab,aQ rfl];have g:=A9 (λm y b a=>by simpa using K m y b a) (λm y b a=>o m y b a);refine⟨_,true,rfl,?_,λ_=>g.symm,by rw[dk];omega⟩;have:z8 (dm db s):=λy a=>by
    rw[g] at a;obtain⟨m,b⟩:=bc.1 a;have E:=av b;rw[dk] at E;rw[List.getElem?_take_of_lt ah] at b;intro e;have:=o m y ah b;rw[(z7 y).2 e] at this;cases this
   grind
 .rw[D,ab,cO,ai];have g:dm db s=s:=by
   have:=A9 (j:=s.length) (λm y b a=>by have:=av a;omega) (λm y b a=>l m y a)
   grind
  have:z8 (dm db s):=λy a e=>by
   rw[g] at a;obtain⟨m,b⟩:=bc.1 a;have:=l m y b;rw[(z7 y).2 e] at this;cases this
  grind
def u6 b (c:b.length=512) (a e:Nat) (h:a<=e) (d:e<=512):inside a e (len b)=true/\sub b a (minus e a)=gz b a (e-a):=by
 refine⟨je h ah,?_⟩;unfold sub minus gz
 grind
def afc p q r (H c:Hd) (d:p=true->q=true->r=true->c=H) (e:c.1.length<=1048576) (f:c.2.2.2.2.2.2.2.1.length<=1048576) :
  ae (ak (nt<|ak (nt<|ak (nt<|nt p) (nt q) true) (nt r) true) (ae (vt (c,256,())) λa=>aa (nt a.1))<|some true) (λa=>ak a (aa (abH,(2:Int),())) (aa (c,0,()))) =
  ae (ak (nt<|ak (nt<|ak (nt<|nt p) (nt q) true) (nt r) true) (ae (rJ (H,256,())) λb=>aa (nt b.1))<|some true) (λb=>ak b (aa (abH,2,())) (aa (H,0,()))):=by
 rw[ahf c 256 e f,VH,ab,ab];cases p with
 | false=>rfl
 | true =>
   cases q with
   | false=>rfl
   | true =>
     cases r with
     | false=>rfl
     | true=>rw[d rfl rfl rfl]
def take_same(b:bb)(a:b.length=512):pj (b,())=fe (b,()):=by
 obtain⟨O,o⟩:=eT (gz b 148 8) (by have:=cM b 148 8;omega);have r6:=rW (gz b 148 8) (by have:=cM b 148 8;omega);obtain⟨r,s⟩:=u6 b a 257 265 ah ah;obtain⟨G,H⟩:=u6 b a 148 156 ah ah;have p:aG (len b) 512=true:=au (by simp only[len];omega);by_cases i:gz b 257 8=rV
 case neg =>
  rw[Ff b a i];unfold pj;rw[p,aW,aE,ai,show inside (257:Int) (265:Int) (len b)=true from r,ai,show sub b (257:Int) (minus (265:Int) (257:Int))=gz b 257 8 from s,show([117,115,116,97,114,0,48,48]:bb)=rV from rfl,show bt (gz b 257 8) rV=false from cd i,aE,ab,aW,ag,ab,ai];rfl
 by_cases q:O=(Bx b 512:Int)
 case neg =>
  rw[VO b a o q];unfold pj;rw[p,aW,aE,ai,show inside (257:Int) (265:Int) (len b)=true from r,ai,show sub b (257:Int) (minus (265:Int) (257:Int))=gz b 257 8 from s,show([117,115,116,97,114,0,48,48]:bb)=rV from rfl,i,show bt rV rV=true from zQ _,aW,ab,aE,ai,show inside (148:Int) (156:Int) (len b)=true from G,ai,show sub b (148:Int) (minus (156:Int) (148:Int))=gz b 148 8 from H,r6,o,ab,GY b ah,ab];rw[a,ar q,aE,ab,ai];rfl
 obtain⟨n1,I⟩:=eT (gz b 100 8) (by have:=cM b 100 8;omega);obtain⟨n2,J⟩:=eT (gz b 108 8) (by have:=cM b 108 8;omega);obtain⟨n3,K⟩:=eT (gz b 116 8) (by have:=cM b 116 8;omega);obtain⟨n4,L⟩:=eT (gz b 124 12) (by have:=cM b 124 12;omega);obtain⟨n5,M⟩:=eT (gz b 136 12) (by have:=cM b 136 12;omega);have r1:=(rW (gz b 100 8) (by have:=cM b 100 8;omega)).trans I;have r2:=(rW (gz b 108 8) (by have:=cM b 108 8;omega)).trans J;have P:=(rW (gz b 116 8) (by have:=cM b 116 8;omega)).trans K;have Q:=(rW (gz b 124 12) (by have:=cM b 124 12;omega)).trans L;have R:=(rW (gz b 136 12) (by have:=cM b 136 12;omega)).trans M;have m0:=cM b 0 100;have m8:=cM b 157 100;have m10:=cM b 345 155;obtain⟨h,S,t,u,v,T⟩:=Ip (gz b 0 100) ah;obtain⟨U,V,w,y,z,W⟩:=Ip (gz b 157 100) ah;obtain⟨d,A,j,k,l,N⟩:=Ip (gz b 345 155) ah;have l0:=pP db (gz b 0 100);have l10:=pP db (gz b 345 155);obtain⟨X,Y⟩:=u6 b a 0 100 ah ah;obtain⟨i8,Z⟩:=u6 b a 157 257 ah ah;obtain⟨B,C⟩:=u6 b a 345 500 ah ah;obtain⟨i1,s1⟩:=u6 b a 100 108 ah ah;obtain⟨i2,s2⟩:=u6 b a 108 116 ah ah;obtain⟨i3,s3⟩:=u6 b a 116 124 ah ah;obtain⟨i4,s4⟩:=u6 b a 124 136 ah ah;obtain⟨i5,s5⟩:=u6 b a 136 148 ah ah;obtain⟨c,hk,f7⟩:∃c,b[156]?=aa c/\gz b 156 1=[c]:=by
  refine⟨b[156],fH ah,?_⟩;unfold gz;rw[BT ah];rfl
 unfold fe;rw[p,aW,aE,ai,o9 b a,ab,ab,show([117,115,116,97,114,0,48,48])=rV from rfl];rw[i,show bt rV rV=true from zQ _,aW,aE,ai,o6 b a,ab];rw[o,ab,Ik b ah,ab];rw[a,au q,aW,ab,ag,o0 b a,ab];rw[u,ab,o8 b a,ab];rw[y,ab,o10 b a,ab];rw[k,ab];have m:(ak (nt<|bt (dm db<|gz b 345 155) []) (ak (fits<|plus (len<|dm db<|gz b 345 155)<|len ([47]:bb)) (ak (fits<|plus (len<|app (dm db<|gz b 345 155) [47])<|len<|dm db<|gz b 0 100)
   (aa ((app (app (dm db<|gz b 345 155) [47])<|dm db<|gz b 0 100,()),())) af) af)<|some ((dm db<|gz b 0 100,()),()))=aa ((if dm db (gz b 345 155)=[] then dm db (gz b 0 100) else dm db (gz b 345 155)++[47]++dm db (gz b 0 100),()),()):=by
  by_cases e:dm db (gz b 345 155)=[]
  .rw[aQ e,cc e,aW,ag]
  .rw[aK e,aY e,aE,ai,dS (by simp only[plus,len,iD,p6];omega),ai,dS (by simp only[plus,len,app,iC,iD,p6];omega),ai];rfl
 rw[m,ab,o1 b a,ab];rw[I,ab,o2 b a,ab];rw[J,ab,o3 b a,ab];rw[K,ab,o4 b a,ab];rw[L,ab,o5 b a,ab];rw[M,ab,o7 b a,ab,f7];unfold pj;rw[p,aW,aE,ai,show inside 257 265 _=true from r,ai,show sub b 257 (minus 265 257)=gz b 257 8 from s,show([117,115,116,97,114,0,48,48])=rV from rfl,i,show bt rV rV=true from zQ _,aW,ab,aE,ai,show inside 148 156 _=true from G,ai,show sub b 148 (minus 156 148)=gz b 148 8 from H,r6,o,ab,GY b ah,ab];rw[a,au q,ab];rw[show inside 0 100 _=true from X,show sub b 0 (minus 100 0)=gz b 0 100 from Y,t,ab];rw[show inside 157 257 _=true from i8,show sub b 157 (minus 257 157)=gz b 157 100 from Z,w,ab];rw[show inside 345 500 _=true from B,show sub b 345 (minus 500 345)=gz b 345 155 from C,j,ab];rw[show inside 100 108 _=true from i1,show sub b 100 (minus 108 100)=gz b 100 8 from s1,r1,ab];rw[show inside 108 116 _=true from i2,show sub b 108 (minus 116 108)=gz b 108 8 from s2,r2,ab];rw[show inside 116 124 _=true from i3,show sub b 116 (minus 124 116)=gz b 116 8 from s3,P,ab];rw[show inside 124 136 _=true from i4,show sub b 124 (minus 136 124)=gz b 124 12 from s4,Q,ab];rw[show inside 136 148 _=true from i5,show sub b 136 (minus 148 136)=gz b 136 12 from s5,R,ab];have f:∀(x:Int×Int×Int×Int×Int×Int×bb×aj),(ak (nt<|bt d []) (ak (fits<|plus (len d)<|len ([47]:bb)) (ak (fits<|plus (len<|app d [47])<|len h)
   (aa ((),(app (app d [47]) h,x),())) af) af)<|some ((),_))=aa ((),(if d=[] then h else d++[47]++h,x),()):=λx=>by
  by_cases e:d=[]
  .rw[aQ e,cc e,aW,ag]
  .rw[aK e,aY e,dS (by simp only[plus,len,iD,p6];omega),ai,dS (by simp only[plus,len,app,iC,iD,p6];omega)];rfl
 rw[f,ab,show idx b 156=aa c from ao hk,ab];have D:bt [c] [48]=decide (c=48):=gm.2 aT;have c0:bt [c] [0]=decide (c=0):=gm.2 aT;have c53:bt [c] [53]=decide (c=53):=gm.2 aT;have E:bt [c] [50]=decide (c=50):=gm.2 aT;have d48:aG _ 48=decide (c=48):=Ek (n:=48);have d0:aG _ 0=decide (c=0):=Ek (n:=0);have d53:aG _ 53=decide (c=53):=Ek (n:=53);have d50:aG _ 50=decide (c=50):=Ek (n:=50);rw[D,c0,c53,E,d48,d0,d53,d50];have g:(if d=[] then h else d++[47]++h).length<=1048576:=by
  grind
 refine afc S V A _ _ (λa0 a8 F=>?_) ?_ ?_
 .rw[v a0,z a8,l F];all_goals cases decide _<;>cases decide (c=0)<;>cases decide (c=53)<;>cases decide (c=50)
 .cases decide (c=48)<;>cases decide (c=0)<;>cases decide (c=53)<;>cases decide (c=50)<;>exact g
 .have h8:U.length<=1048576:=ah;have hn:([]:bb).length<=1048576:=aT;cases decide (c=48)<;>cases decide (c=0)<;>cases decide (c=53)<;>cases decide (c=50)<;>first|exact hn|exact h8
abbrev Stp:=((bb×aj)⊕((bb×aj)⊕(aj⊕((Nd×aj)⊕aj))))
def Z4(p:Pt)(w:Int×List bb×Bool):Stp :=
 if w.1=1 then .inl (aR w.2.1,()) else if w.1=2 then .inr (.inl (aR w.2.1,())) else if w.2.1=[] then .inr (.inr<|.inl ()) else .inr (.inr<|.inr<|.inl (mq p<|aR w.2.1,()))
def yU(p:Pt):Stp:=Z4 p (bS p)
def NB p A:(ak (ak (aG p.1.2.1 1) (bt p.2.1 []) false) A<|some false)=if vQ p=true then A else aa false:=by
 unfold vQ aG bt;by_cases a:p.1.2.1=1
 .by_cases b:p.2.1=[]
  .simp[ ak]
  .simp[ ak]
 .simp[ ak]
def abR a:x7 a≠[]:=by unfold x7;simp
def afd p (k:SmP p):∃s,sF (p,())=aa (s,(bS p).2.2,())/\((bS p).2.2=true->s=yU p):=by
 unfold sF;rw[QB p.1.1 (by have:=k.1;omega),ab];unfold yU;cases c:nV p.1.1 with
 | false =>
   have:lF p.1.1=([],2):=by unfold lF;rw[c];rfl
   have f:bS p=(0,[],false):=by unfold bS;rw[c,aK aT]
   rw[this,f];exact⟨_,rfl,λh=>by cases h⟩
 | true =>
   have l:lF p.1.1=(aR<|names p.1.1,0):=by unfold lF;rw[c];rfl
   have d:=CM c;have q:=(rU c).2.2;have o:=Fi c;rw[l];dsimp only;rw[ rB _ ah,ab,yT d.1];dsimp only;rw[VK,ab];rcases Ny _ with b|b|b|b
   .have f:bS p=(0,names p.1.1,(decide (names p.1.1=[])&&decide (p.1.2.1=2))||(fU (mq p<|aR<|names p.1.1)&&vC (names p.1.1))):=by
     unfold bS;rw[c,aQ rfl];dsimp only;rw[b,aK aD,aK aD,aQ rfl]
    rw[f,b];unfold Z4;have g:=uf d.1;by_cases a:names p.1.1=[]
    .have i:=g.2 a;rw[cU a,cc i,aQ a];by_cases j:p.1.2.1=2
     .rw[au j,cU j];exact⟨_,rfl,λ_=>rfl⟩
     .rw[ar j,cd j];have:=Ys (n:=mq p _) i;rw[show en ((aR<|names p.1.1,_),())=_ from this];have m:vC (names p.1.1)=false:=by unfold vC;rw[a];rfl
      rw[m];simp only[adl];exact⟨_,rfl,λh=>by cases h⟩
    .have i:=λe=>a (g.1 e);rw[cd a,aY i,aK a];have r:Sm (mq p<|aR<|names p.1.1):=⟨by show(aR _).length<=200;omega,k.2.1,k.2.2⟩;have:=Nw d a rfl r;rw[abQ a rfl] at this;rw[show en ((aR _,_),())=_ from this];exact⟨_,rfl,λ_=>rfl⟩
   .obtain⟨t,u⟩:=Im c b;have f:bS p=(1,x7<|names p.1.1,vQ p&&vC (x7<|names p.1.1)):=by
     unfold bS;rw[c,aQ rfl];dsimp only;rw[b,aQ rfl]
    rw[f,b,Ig _ _ (by have:=(Dw d).2.2;omega) (by rw[(Nx b).1,rj];omega),ab,t];rw[QO u,NB,cd (abR _)];refine⟨.inl _,?_,λ_=>rfl⟩;cases vQ p<;>rfl
   .have hd:=Dw d;have f:bS p=(2,(names p.1.1).dropLast,vQ p&&(decide ((names p.1.1).dropLast=[])||vC (names p.1.1).dropLast)):=by
     unfold bS;rw[c,aQ rfl];dsimp only;rw[b,aK aD,aQ rfl]
    rw[f,b];rw[QO hd,NB];refine⟨.inr _,?_,λ_=>rfl⟩;cases vQ p<;>rfl
   .have f:bS p=(0,[],false):=by
     unfold bS;rw[c,aQ rfl];dsimp only;rw[b,aK aD,aK aD,aK aD]
    rw[f,b];exact⟨_,rfl,λh=>by cases h⟩
def jg(l:List Pt):Bool:=l.all λp=>(bS p).2.2
def Tb(l:List Pt):Prop:=l.length<=10000/\∀p∈l,SmP p
def afe{l}:(∀(i:Nat) x,l[i]?=aa x->(!(bS x).2.2)=false)->jg l=true:=λh=>by
 unfold jg;rw[wa];intro x a;obtain⟨i,b⟩:=bc.1 a;have:=h i x b;simpa using this
def Z5{l}{i:Nat}{x}(a:l[i]?=aa x)(h:(!(bS x).2.2)=true):jg l=false:=by
 unfold jg;rw[List.all_eq_false];exact⟨x,eG a,by simpa using h⟩
def QP l (c:Tb l):mH (l,())=aa (if jg l=true then(l.map yU,true,()) else([],false,())):=by
 unfold mH;have n:=c.1;rcases eu (f:=l4 (l,())) l (λi=>((([]),false,(),i,()),(l.take i.toNat).map yU,())) (λ_ x=>!(bS x).2.2) _ _ ah (λi x a d b=>by
  obtain⟨s,e,g⟩:=afd x (c.2 x<|eG a);unfold l4;dsimp only;rw[al d,ao a,ab,e,ab,b];rw[vb,vb];cases j:(bS x).2.2 with
  | false=>rfl
  | true =>
    rw[ aJ cT,g j];have:(l.take<|i+1).map yU=(l.take i).map yU++[yU x]:=by rw[yn,a,List.map_append];rfl
    rw[this];rfl) (by
  unfold l4;rw[aq,ag,vb,zw]) with ⟨i,x,a,k,_,h⟩|⟨m,h⟩
 .rw[show Loop _ ((([]),_),([]),())=_ from h,Z5 a k];rfl
 .rw[show Loop _ ((([]),_),([]),())=_ from h,afe m];rfl
def CQ l (c:Tb l):qf (l,())=aa (jg l,()):=by
 unfold qf;have j:=c.1;rcases eu (f:=pg (l,())) l (λi=>((false,i,()),())) (λ_ x=>!(bS x).2.2) _ _ ah (λi x b d a=>by
  unfold pg;dsimp only;rw[al d,ao b,ab,CN x (c.2 x<|eG b),a];cases (bS x).2.2<;>rfl) (by
  unfold pg;rw[aq,ag]) with ⟨i,x,b,e,_,h⟩|⟨g,h⟩
 .rw[h,Z5 b e];rfl
 .rw[h,afe g];rfl
def QQ{l:List Nd}{g:Nd->Bool}{i x}(b:l[i]?=aa x)(c:g x=true)(d:∀j y,j<i->l[j]?=aa y->g y=false):l.take i=(l.take<|i+1).filter (λx=>!g x):=by
 rw[yn];have e:(l.take i).filter (λx=>!g x)=l.take i:=Lf.2 λy a=>by
  obtain⟨j,f⟩:=bc.1 a
  grind
 grind
def abS l p (a:vY l) (c:p.length<=4096):(∃i x,l[i]?=aa x/\gone p x=true/\(∀(j:Nat) y,j<i->l[j]?=aa y->gone p y=false)/\Loop (la (l,p,())) ((0,0,()),(),p,())=aa (1,((i:Int),(i:Int),()),(),p,())) \/
  ((∀(i:Nat) x,l[i]?=aa x->gone p x=false)/\Loop (la (l,p,())) ((0,0,()),(),p,())=aa (0,(0,(l.length:Int),()),(),p,())) :=
 eu l (λi=>((0,i,()),_)) _ _ _ (by have:=a.1;omega) (λi x b d e=>by
  unfold la;dsimp only;rw[al d,aF ah dR,ao b,ab,Aa _ _ (by have:=(a.at b).1;omega) c,u5,e];unfold gone;cases decide (x.1=p)<;>cases ea _ _<;>rfl) (by unfold la;rw[aq,ag])
def abT l p (d:vY l) (g:p.length<=4096) (i:Nat) x (hx:l[i]?=aa x) (h:gone p x=true) (a:∀j y,j<i->l[j]?=aa y->gone p y=false) :
  ∃(w:Nat) (L:List Nd),Loop (ld) ((i,aw IntKind.i64 i 1,(),()),(),p,l,())=aa (((w:Int),(l.length:Int),(),()),(),p,L,())/\L.length=l.length/\w<=l.length/\L.take w=qq l p:=by
 have hi:=av hx;have s:=d.1;obtain⟨w,L,k,e,m,n⟩:=G2 (f:=ld) l _ (λw j L=>((w,j,_),(),p,L,())) (λw L=>((w,L.length,_),(),p,L,())) ah (λw j L x hx b t o q a=>by
  unfold ld;dsimp only;obtain⟨z,r⟩:∃z,L[w]?=aa z:=⟨_,fH ah⟩;have c:ak (nt<|bt x.1 p) (ae (dz (x.1,p,())) λy=>aa y.1) (aa true)=aa (gone p x):=by
   rw[Aa _ _ (by have:=(d.at hx).1;omega) g,u5];unfold gone;cases decide (x.1=p)<;>rfl
  rw[al o,aF ah dR,ai,ao b,ab,c,ab,a];cases gone p x with
  | true=>rfl
  | false =>
    rw[ aF ah dR,ao r,q];rfl) (λw L=>by
  unfold ld;rw[aq];rfl) l.length i _ l ah ah ah rfl (QQ hx h a) rfl
 refine⟨w,L,?_,e,m,n⟩;rw[aB ah,k,e]
def Yt l p (a:vY l) (c:p.length<=4096) (hv:Valid l):uE (l,p,())=aa (qq l p,()):=by
 obtain⟨e,f,g⟩:=mo l a;obtain rfl:=g.2 hv;unfold uE;dsimp only;rw[f,ab];rw[show nt _=false by rfl,ag,dh (by have:=a.1;omega),ai];rcases abS l p a c with ⟨i,x,b,k,d,h⟩|⟨d,h⟩
 .obtain⟨w,L,m,q,r,n⟩:=abT l p a c i x b k d;rw[h,ab];rw[gL,ag,show aG i (-1)=false by exact cd ah,ag,m,ab];dsimp only;rw[aO ah dR<|tr _,ai,G3 L w ah,aO (tr _) ah ah,ai,CH L w ah,n]
 .have o:qq l p=l:=Lf.2 λx b=>by
   obtain⟨j,s⟩:=bc.1 b
   grind
  rw[h,ab,o];rw[cO,ai,show aG (-1) (-1)=true by rfl,ai]
def NC(p:bb)(x:Nd):Bool:=ea (parts x.1) (parts p)
def abU l p (a:vY l) (c:p.length<=4096):(∃i x,l[i]?=aa x/\NC p x=true/\(∀(j:Nat) y,j<i->l[j]?=aa y->NC p y=false)/\Loop (mC (l,p,())) ((0,0,()),(),p,())=aa (1,((i:Int),(i:Int),()),(),p,())) \/
  ((∀(i:Nat) x,l[i]?=aa x->NC p x=false)/\Loop (mC (l,p,())) ((0,0,()),(),p,())=aa (0,(0,(l.length:Int),()),(),p,())) :=
 eu l (λi=>((0,i,()),_)) _ _ _ (by have:=a.1;omega) (λi x b d e=>by
  unfold mC;dsimp only;rw[al d,aF ah dR,ao b,ab,Aa _ _ (by have:=(a.at b).1;omega) c,e];unfold NC;cases ea _ _<;>rfl) (by unfold mC;rw[aq,ag])
def abV l p (c:vY l) (e:p.length<=4096) (i:Nat) x (hx:l[i]?=aa x) (g:NC p x=true) (a:∀j y,j<i->l[j]?=aa y->NC p y=false) :
  ∃(w:Nat) (L:List Nd),Loop (mD) ((i,aw IntKind.i64 i 1,(),()),(),p,l,())=aa (((w:Int),(l.length:Int),(),()),(),p,L,())/\L.length=l.length/\w<=l.length/\L.take w=l.filter (λx=>!NC p x):=by
 have hi:=av hx;have r:=c.1;obtain⟨w,L,h,d,k,m⟩:=G2 (f:=mD) l _ (λw j L=>((w,j,_),(),p,L,())) (λw L=>((w,L.length,_),(),p,L,())) ah (λw j L x hx b s n o a=>by
  unfold mD;dsimp only;obtain⟨z,q⟩:∃z,L[w]?=aa z:=⟨_,fH ah⟩;rw[al n,aF ah dR,ai,ao b,ab,Aa _ _ (by have:=(c.at hx).1;omega) e,ab,a];unfold NC;cases ea _ _ with
  | true=>rfl
  | false =>
    rw[ aF ah dR,ao q,o];rfl) (λw L=>by
  unfold mD;rw[aq];rfl) l.length i _ l ah ah ah rfl (QQ hx g a) rfl
 refine⟨w,L,?_,d,k,m⟩;rw[aB ah,h,d]
def ND l p:kg l p false=l.filter (λx=>!NC p x):=by
 unfold kg NC
 grind
def abW l p (a:vY l) (c:p.length<=4096) (hv:Valid l):wq (l,p,())=aa (kg l p false,()):=by
 obtain⟨e,f,g⟩:=mo l a;obtain rfl:=g.2 hv;rw[ND];unfold wq;dsimp only;rw[f,ab];rw[show nt _=false by rfl,ag,dh (by have:=a.1;omega),ai];rcases abU l p a c with ⟨i,x,b,k,d,h⟩|⟨d,h⟩
 .obtain⟨w,L,m,q,r,n⟩:=abV l p a c i x b k d;rw[h,ab];rw[gL,ag,show aG i (-1)=false by exact cd ah,ag,m,ab];dsimp only;rw[aO ah dR<|tr _,ai,G3 L w ah,aO (tr _) ah ah,ai,CH L w ah,n]
 .have o:l.filter (λx=>!NC p x)=l:=Lf.2 λx b=>by
   obtain⟨j,s⟩:=bc.1 b
   grind
  rw[h,ab,o];rw[cO,ai,show aG (-1) (-1)=true by rfl,ai]
def CR l p (c:vY l) (hv:Valid l):pe (l,p,())=aa (findF l p):=by
 obtain⟨e,d,g⟩:=oL l c;obtain rfl:=g.2 hv;unfold pe;rcases CG l p c with ⟨i,x,f,a,h⟩|⟨b,h⟩
 .rw[h,ab,d];rw[ ao f,A7 hv.ord (eG f) a];rfl
 .rw[h,d,Fg b];rfl
def abX(b:Bool):eqB b b=true:=by cases b<;>rfl
def Yu{n}(h:fU n=true):n.1.length<=92/\n.2.2.2.2.1.length<=100/\n.2.2.2.1.length<=8192:=by
 unfold fU at h;simp at h;have b:=h.1.1.1;have a:=h.2;unfold xZ at b;simp at b;refine⟨b.1.1.2,?_⟩;unfold QJ at a;split at a
 .have:=fb a;exact⟨by rw[this.1];simp,this.2⟩
 .split at a
  .have:=fb a;exact⟨by rw[this.1];simp,by rw[this.2];simp⟩
  .split at a
   .have:=fb a;exact⟨this.2.2.1,by rw[this.1];simp⟩
   .cases a
def fD{l}(h:Valid l):vY l:=⟨by have:=h.few;omega,λx a=>by
 have:=Yu (h.may x a);exact⟨ah,ah,ah⟩⟩
def V5{l}(h:Valid l) p:Valid (qq l p):=by
 refine⟨fi (TP _ _) h.few,h.ord.filter _,λx d=>h.may x (zx.1 d).1,λx d=>?_⟩;obtain⟨f,b⟩:=zx.1 d;by_cases c:(bd x.1).1=[]
 .exact .inl c
 .rcases h.up x f with g|⟨y,i,e,k⟩
  .exact absurd g c
  .refine .inr ⟨y,zx.2 ⟨i,?_⟩,e,k⟩;cases a:gone p y with
   | false=>rfl
   | true =>
     have:gone p x=true:=by
      unfold gone at a⊢;rw[Ll] at a⊢;rcases a with a|a
      .right;rw[<-fb a,e];exact Fh c
      .exact .inr (Ns c e a)
     rw[this] at b;cases b
def NF{l}(h:Valid l) p:Valid (kg l p false):=by
 refine⟨fi (TP _ _) h.few,h.ord.filter _,λx b=>h.may x (zx.1 b).1,λx b=>?_⟩;obtain⟨c,a⟩:=zx.1 b;by_cases d:(bd x.1).1=[]
 .exact .inl d
 .rcases h.up x c with f|⟨y,g,e,k⟩
  .exact absurd f d
  .refine .inr ⟨y,zx.2 ⟨g,?_⟩,e,k⟩;cases i:ea _ _ with
   | false=>rfl
   | true =>
     rw[Ns d e i] at a;cases a
def Tc l p:kg l p true=qq l p:=by
 unfold kg qq gone
 congr 1
 funext x;cases decide (x.1=p)<;>cases ea _ _<;>rfl
def x8 p:Jw (bS p).2.1:=by
 have a:Jw []:=⟨λx c=>(by cases c),aT,(by simp[aR])⟩;unfold bS;split
 .rename_i b;dsimp only;split
  .rename_i d;exact(Im b d).2
  .split
   .exact Dw (CM b)
   .split
    .exact CM b
    .exact a
 .exact a
def x9(t:List Nd)(p:Pt):List Nd:=if(bS p).1=1 then qq t (aR (bS p).2.1) else if(bS p).1=2 then kg t (aR (bS p).2.1) false else t
def ya{t}(h:Valid t) p:Valid (x9 t p):=by
 unfold x9;split
 .exact V5 h _
 .split
  .exact NF h _
  .exact h
def Pw{t}(h:Valid t) p:wv (yU p,t,())=aa (x9 t p,()):=by
 have a:=x8 p;have d:=fD h;unfold yU Z4 x9;by_cases b:(bS p).1=1
 .rw[aQ b,aQ b];show jl _=_
  unfold jl;dsimp only;rw[Yt t _ d (by have:=a.2.2;omega) h,ab]
 .rw[aK b,aK b];by_cases c:(bS p).1=2
  .rw[aQ c,aQ c];show gH _=_
   unfold gH;dsimp only;rw[abW t _ d (by have:=a.2.2;omega) h,ab]
  .rw[aK c,aK c];by_cases e:(bS p).2.1=[]
   .rw[aQ e];rfl
   .rw[aK e];rfl
def NG{t}(h:Valid t) p (a:p.length<=4096):sD (t,p,())=aa (qq t p,()):=by
 obtain⟨b,c,d⟩:=oL t (fD h);unfold sD;rw[c,ab,d.2 h];rw[aW,ag,CI t p true (fD h) a,ab,Tc]
def Px{t}(h:Valid t) p (a:p.length<=4096):uF (t,p,())=aa (kg t p false,()):=by
 obtain⟨b,c,d⟩:=oL t (fD h);unfold uF;rw[c,ab,d.2 h];rw[aW,ag,CI t p false (fD h) a,ab]
def QR{a c:Type}(f:c->a->c)(l:List a) b {i x} (hx:l[i]?=aa x):(l.take<|i+1).foldl f b=f ((l.take i).foldl f b) x:=by
 rw[yn,hx,List.foldl_append];rfl
def Yv(l:List Pt) ok t0 (e:Valid t0) (j:l.length<=10000):Loop (lf (l.map yU,ok,())) ((t0,0,()),())=aa ((l.foldl x9 t0,(l.length:Int),()),())/\Valid (l.foldl x9 t0):=by
 obtain⟨t,b,g,_⟩:=uc (f:=lf (l.map yU,_)) l (λt i=>((t,i,()),())) _ _ (λt i=>t=(l.take i).foldl x9 t0/\Valid t) ah (λt i x d h a c=>by
  constructor
  .unfold lf;rw[al<|by rw[y4];exact h,ao (by rw[JN,d];rfl),ab,a];rw[show wv _=_ from Pw c.2 x];rfl
  .exact⟨by rw[QR x9 l t0 d,<-c.1],ya c.2 x⟩) (λt _=>by
  unfold lf;rw[show aL l.length _=false by rw[<-y4];exact aq];rfl) t0 ⟨rfl,e⟩
 rw[zw] at b;rw[<-b.1];exact⟨g,b.2⟩
def Py a l (j:Tb l) (m:Valid a):Loop (oA (a,l,())) ((a,0,()),())=aa ((l.foldl x9 a,(l.length:Int),()),()):=by
 have n:=j.1;obtain⟨t,k,b,_⟩:=uc (f:=oA (a,l,())) l (λt i=>((t,i,()),())) (λt _ x=>x9 t x) _ (λt i=>t=(l.take i).foldl x9 a/\Valid t) ah (λt i x h o c e=>by
  have d:=x8 x;constructor
  .unfold oA;rw[al o,ao h,ab,CN x (j.2 x<|eG h),ab,c];dsimp only;rw[NG e.2 _ (by have:=d.2.2;omega),ab,Px e.2 _ (by have:=d.2.2;omega)];unfold x9;by_cases b:(bS x).1=1
   .rw[au b,aQ b];rfl
   .rw[ar b,aK b];by_cases g:(bS x).1=2
    .rw[au g,aQ g];rfl
    .rw[ar g,aK g];rfl
  .exact⟨by rw[QR x9 l a h,<-e.1],ya e.2 x⟩) (λt _=>by
  unfold oA;rw[aq];rfl) a ⟨rfl,m⟩
 rw[zw] at k;rw[<-k.1];exact b
end Go.Ge
