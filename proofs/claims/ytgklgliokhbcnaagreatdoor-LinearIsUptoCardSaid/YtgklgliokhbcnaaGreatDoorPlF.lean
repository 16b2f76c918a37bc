import Derived.Test.YtgklgliokhbcnaaGreatDoorPlE
import Derived.Lib.ParseIntBCases
import Derived.Lib.ItoaMem
set_option linter.unusedSectionVars false
set_option linter.unusedVariables false
set_option linter.unusedSimpArgs false
set_option linter.defProp false
open Option renaming some->aa,none->af
namespace Go.Ge
variable [Lp]
def akw c (h:Hd):∃x e,ae (ak c (ae (sq (h,256,())) λa=>aa (nt a.1))<|some true) (λy=>ak y (aa (acY,(2:Int),())) (aa (h,0,())))=aa (x,e,())/\(e=0->Qi x 256):=by
 rw[WI];cases c with
 | false=>exact⟨_,_,rfl,λq=>absurd q aF⟩
 | true =>
   by_cases b:Qi h 256
   .rw[cW b];exact⟨h,0,rfl,λ_=>b⟩
   .rw[cf b];exact⟨_,_,rfl,λq=>absurd q aF⟩
def abc b (a:b.length=512):∃x e,fv (b,())=aa (x,e,())/\(e=0->Qi x 256):=by
 by_cases d:gR b 257 8=sD
 case neg=>exact⟨_,_,F5 b a d,λe=>absurd e aF⟩
 obtain⟨g,f⟩:=e9 (gR b 148 8) (by have:=cU b 148 8;omega);by_cases hs:g=Ca b 512
 case neg=>exact⟨_,_,WQ b a f hs,λe=>absurd e aF⟩
 obtain⟨n,h⟩:=e9 (gR b 100 8) (by have:=cU b 100 8;omega);obtain⟨o,i⟩:=e9 (gR b 108 8) (by have:=cU b 108 8;omega);obtain⟨q,j⟩:=e9 (gR b 116 8) (by have:=cU b 116 8;omega);obtain⟨r,k⟩:=e9 (gR b 124 12) (by have:=cU b 124 12;omega);obtain⟨s,l⟩:=e9 (gR b 136 12) (by have:=cU b 136 12;omega);have t:=qj dk (gR b 0 100);have l10:=qj dk (gR b 345 155);have m0:=cU b 0 100;have m10:=cU b 345 155;unfold fv;rw[au<|by simp only[len];omega,aW,aE,ai,o9 b a,ab,ab,show([117,115,116,97,114,0,48,48])=sD from rfl];rw[d,show bg sD sD=true from AB _,aW,aE,ai,o6 b a,ab];rw[f,ab,Ji b ah,ab];rw[a,au hs,ab,o0 b a,ab];rw[(HM (gR b 0 100) ah),ab,o8 b a,ab];rw[(HM (gR b 157 100) (by have:=cU b 157 100;omega)),ab,o10 b a,ab];rw[(HM (gR b 345 155) ah),ab];have c:∃p,(ak (nt<|bg (dx dk<|gR b 345 155) []) (ak (fits<|plus (len<|dx dk<|gR b 345 155)<|len ([47]:bb)) (ak (fits<|plus (len<|app (dx dk<|gR b 345 155) [47])<|len<|dx dk<|gR b 0 100)
   (aa ((app (app (dx dk<|gR b 345 155) [47])<|dx dk<|gR b 0 100,()),())) af) af)<|some ((dx dk<|gR b 0 100,()),()))=aa ((p,()),()):=by
  cases (nt _) with
  | true =>
    rw[ai,ea (by simp only[plus,len,iV,qv];omega),ai,ea (by simp only[plus,len,app,iU,iV,qv];omega),ai]
    grind
  | false=>exact⟨_,rfl⟩
 obtain⟨p,m⟩:=c;rw[m,ab,o1 b a,ab];rw[h,ab,o2 b a,ab];rw[i,ab,o3 b a,ab];rw[j,ab,o4 b a,ab];rw[k,ab,o5 b a,ab];rw[l,o7 b a];apply akw
def WW r (n:Nat) (u:r.length<=10000):∃p c d,cc ((),rd r n,())=aa ((p,c,()),d,()) /\
  ((c=false/\∃b,d=HS n b)\/(c=true/\Qi p.1 256/\p.2.1.length<=r.length/\n<64/\∃g,d=rd g ((n+1:Nat):Int)/\g.length+512<=r.length)):=by
 by_cases a:r.length<512
 .exact⟨_,_,_,Oa r n a,.inl ⟨rfl,_,rfl⟩⟩
 by_cases h:∀x∈r.take 512,x=0
 .exact⟨_,_,_,RE r n ah ah h,.inl ⟨rfl,_,rfl⟩⟩
 have e:=λb=>HT r n b;have i:(r.take 512).length=512:=by rw[dw];omega
 obtain⟨x,j,l,m⟩:=abc _ i;have o:(r.drop 512).length=r.length-512:=rV;unfold cc;dsimp only[rd] at e⊢;rw[aW,aE,ai,ag,aB (by rw[bz];omega),ag,aM aF aF (by rw[bz];omega),ai,show sub r 0 (minus 512 0)=r.take 512 from gl r 512];rw[N1 _ ah,ab];rw[cf<|λq=>h q.2,ag,ai,l,ab,aM aF (by rw[bz];omega) (uh _),ai,show sub r 512 (minus _ 512)=r.drop 512 from jB r 512 ah];by_cases f:j=0
 case neg =>
  rw[ar f,aE,ai,e,ab]
  grind
 rw[au f,aW,ag];obtain⟨s,v⟩:=(m f).2.2.2.1;obtain⟨k,t⟩:=UN s;rw[t];by_cases w:(r.drop 512).length<k
 .rw[aH<|by rw[bz];omega,ai,e,ab]
  grind
 .have y:=WR k;rw[aB<|by rw[bz];omega,ag,WS k ah,ab,eV ah ah];by_cases z:(r.drop 512).length<k+Cb k
  .rw[aH<|by rw[bz];omega,ai,e,ab]
   grind
  .rw[aB<|by rw[bz];omega,ag];by_cases A:64<=n
   .rw[bA ah,ai,e,ab]
    grind
   .rw[cO ah,ag,ab,eV ah ah,aM ah (by rw[bz];omega) (uh _),ai,aM ah ah (by rw[bz];omega),ai];rw[show sub _ 0 _=(r.drop 512).take k from gl _ k,show k+Cb k=((k+Cb k:Nat):Int) by omega,jB _ _ ah,aC ah]
    grind
def Ob{h}(k:Qi h 256):h.1.length<=300/\h.2.2.2.2.2.2.2.1.length<=300:=by
 obtain⟨_,_,_,_,_,⟨_,b,_⟩,a⟩:=k;rcases a with ⟨_,e⟩|⟨_,e,_⟩|⟨_,⟨_,e,_⟩,_⟩
 .grind
 .grind
 .omega
def RdP(p:Pt):Prop:=p.1.1.length<=300/\p.1.2.2.2.2.2.2.2.1.length<=300/\p.2.1.length<=8192
def ac0:∀(m n:Nat) r out p,r.length<=m->r.length<=8192->out.length+1=n->n<=64->(∀q∈out++[p],RdP q) ->
  ∃(a:List Pt) (e:Pt) (b:Int×Bool),Loop kV (((),(),true,()),p,out,rd r n,())=aa (((),(),false,()),e,a,HS b.1 b.2,())/\a.length<=64/\∀q∈a,RdP q:=by
 intro m;induction m using Nat.strongRecOn with
 | _ m h =>
   intro n r out p y z hn i j;obtain⟨f,k,l,s,t⟩:=WW r n ah;have c:=RF p out _ ah s;rcases t with ⟨rfl,b,rfl⟩|⟨rfl,u,A,B,g,rfl,C⟩
   .refine⟨out++[p],f,(n,b),?_,cR,j⟩;rw[aN,c];show Loop _ _=_
    rw[aN];rfl
   .have hs:=Ob u;obtain⟨o,e,b,v,w,x⟩:=h g.length ah (n+1) g (out++[p]) f (b0 _) ah cR ah (λq d=>by
     rcases Pv.1 d with d|d
     .grind
     .rw[Ey] at d;subst d;exact⟨hs.1,hs.2,ah⟩)
    exact⟨o,e,b,by rw[aN,c];exact v,w,x⟩
def agj s:∃l e,gr (s,())=aa (l,e,())/\l.length<=64/\(∀q∈l,RdP q)/\(e=0\/(e=10/\l=[])):=by
 by_cases f:8192<s.length
 .exact⟨_,_,RG s f,aT,λq a=>(by cases a),.inr ⟨rfl,rfl⟩⟩
 obtain⟨p,m,n,g,h⟩:=WW s 0 ah;have fin:∀(b:Int×Bool) o,(ae (iR ((),HS b.1 b.2,())) λc=>ak c.1.1 (aa (([]:List Pt),(10:Int),())) (aa (o,_)))=aa (if b.2=true then _ else(o,0,())):=λb o=>by
  obtain⟨r,i⟩:=b;cases i<;>rfl
 unfold gr;dsimp only;rw[aB<|by rw[bz];omega,show cc ((),(true,s,0,_),())=_ from g,ab];rcases h with ⟨rfl,b,rfl⟩|⟨rfl,j,t,u,d,rfl,v⟩
 .rw[aN];show ∃l e,(ae (iR _) λc=>ak c.1.1 _ _)=_/\_
  rw[fin (_,_)]
  grind
 .have hs:=Ob j;obtain⟨o,w,b,k,x,y⟩:=ac0 d.length 1 d [] p (b0 _) ah rfl ah (λq a=>by
   rw[Mj,Ey] at a;subst a;exact⟨hs.1,hs.2,ah⟩)
  rw[show Loop kV _=_ from k,ab]
  grind
set_option maxRecDepth 100000
end Go.Ge
namespace Go.Ge
variable [Lp]
abbrev Nd:=bb×Int×Int×bb×bb×aj
def L5{a b}:(cl a b=true)↔a<=b:=by
 refine⟨?_,bA⟩
 .intro h;rcases Int.lt_or_le b a with g|g
  .rw[cO g] at h;cases h
  .exact g
def tZ{a b}:cl a b=decide (a<=b):=by
 rw[Pu,L5,A6]
def Zy{p}(g:p≠[]):((mi p).2=0/\(mi p).1=p)↔((parts p).all uW=true/\(parts p).length<=8/\p.length<=96):=by
 constructor
 .rintro⟨b,d⟩;obtain⟨c,h⟩:=acO b;obtain⟨i,j,k⟩:=sC c;have l:parts p=names p:=by
   have:=Kg p
   grind
  grind
 .rintro⟨b,d,c⟩;have e:∀x∈parts p,oz x=true:=λx a=>by
   have:=w8.1 b x a;unfold uW at this;unfold oz
   grind
  have hn:names p=parts p:=Mf.2 e;have f:aS (names p)=p:=by rw[hn,dV]
  have m:p.head?≠aa 47:=by
   rw[<-f];exact Zs λx a=>⟨(xS p x a).1,(xS p x a).2.1⟩
  have n:oA p=true:=by
   unfold oA
   grind
  unfold mi
  grind
def yH(p:bb):Bool:=decide (p≠[])&&(parts p).all uW&&decide ((parts p).length<=8)&&decide (p.length<=92)&&decide ((bd p).2.length<=28)&&decide ((oB (bd p).2).1=0)
def Zz p (b:p.length<=4096):vm (p,())=aa (yH p,()):=by
 unfold vm;rw[Ry p b,ab,sf p ah,ab];rw[WL,ab];rw[oC,oC,oC,oC,oC]
 congr 2
 rw[Pu];unfold yH;by_cases a:p=[]
 .subst a;simp[bg,nt]
 .have c:=Zy a;simp only[gO,aD,bg,afK,L5,len]
  grind
def RH(n:Nd):Bool:=if n.2.1=1 then decide (n.2.2.2.2.1=[]/\n.2.2.2.1.length<=8192) else if n.2.1=2 then decide (n.2.2.2.2.1=[]/\n.2.2.2.1=[]) else if n.2.1=3 then decide (n.2.2.2.1=[]/\n.2.2.2.2.1≠[]/\n.2.2.2.2.1.length<=100/\0∉n.2.2.2.2.1) else false
def gm(n:Nd):Bool:=yH n.1&&decide (0<=n.2.2.1)&&decide (n.2.2.1<=4095)&&RH n
def Qn s c:dC (s,u8 c,())=aa (Lib.indexByte s c,()):=by
 have:(u8 c).toNat.toUInt8=c:=by simp[u8]
 unfold dC fC;rw[this];rfl
def abd(n:Nd)(g:n.1.length<=4096):AE (n,())=aa (gm n,()):=by
 obtain⟨p,k,m,d,l,u⟩:=n;unfold AE gm RH;rw[Zz p g,ab];have i:aL m 0=!decide (0<=m):=by unfold aL;by_cases h:m<0<;>simp[h]<;>omega
 have j:aL 4095 m=!decide (m<=4095):=by unfold aL;by_cases h:4095<m<;>simp[h]<;>omega
 rw[i,j];cases yH p with
 | false=>rfl
 | true =>
   cases decide (0<=m) with
   | false=>rfl
   | true =>
     cases decide (m<=4095) with
     | false=>rfl
     | true =>
       simp only[aW,aE,ai,ag,Bool.not_true,Bool.true_and];by_cases a:k=1
       .subst a;simp only[aD,aaw,ai,y9,bg,tZ,len,oC]
        congr 2
        grind
       .rw[show aD k 1=false by simp[aD,a],ag,aK a];by_cases b:k=2
        .subst b;simp only[aD,aaw,ai,bg,oC];simp_all
        .rw[show aD k 2=false by simp[aD,b],ag,aK b];by_cases c:k=3
         .subst c;rw[show aD 3 3=true by rfl,show((l,_):bb×Int×aj)=(l,u8 0,()) by rfl,Qn,ab];have o:aL _ 0=decide (0∉l):=E7 l;rw[o];by_cases hd:d=[]
          .by_cases e:l=[]
           .subst hd e;rfl
           .by_cases f:l.length<=100
            .simp[bg,hd,e,tZ,len,nt,ak,ae,f,show(l.length:Int)<=100 by omega]
            .simp[ tZ,len,ak,ae,f,show ¬(l.length:Int)<=100 by omega]
          .simp[bg,hd,ak,ae]
         .rw[show aD k 3=false by simp[aD,c],ag,aK c]
def ZA s (hs:s.length<=1048576):tg (s,())=aa (decide<|s≠[]/\s.length<=100/\0∉s,()):=by
 unfold tg;rcases eE (f:=oh (s,())) s (λi=>((false,i,()),())) (λ_ x=>decide (x=0)) (λi x=>(1,(false,i,()),())) _ ah (λi x a b d=>by
  unfold oh;rw[al b,ai,ao a,ab,al9,di,d];by_cases e:x=0<;>simp[e]) (by unfold oh;rw[aq,ag]) with ⟨i,x,a,j,_,h⟩|⟨hn,h⟩
 .rw[h,ab,hJ,ag]
  grind
 .rw[h,ab,cV,ai,oC];have c:0∉s:=λc=>by
   obtain⟨i,b⟩:=bc.1 c
   grind
  congr 2
  rw[Pu];simp only[gO,L5,len,A6];constructor
  .grind
  .rintro⟨g,k,_⟩;exact⟨by have:=UU.2 g;omega,ah⟩
def zB(n:Nd)(f:n.1.length<=4096)(g:n.2.2.2.2.1.length<=4096):mu (n,())=aa (gm n,()):=by
 obtain⟨p,k,m,d,l,u⟩:=n;unfold mu gm RH;dsimp only at f g⊢;rw[xI p f,ab];rw[Ki,Rx p ah,ZA l ah];simp only[ab,oC];have i:(ak (nt<|bg p []) (aa<|(parts p).all uW&&decide ((parts p).length<=8)&&decide (p.length<=96)) (aa false):Option Bool)=aa (decide (p≠[])&&(parts p).all uW&&decide ((parts p).length<=8)&&decide (p.length<=96)):=by
  by_cases h:p=[]
  .subst h;rfl
  .simp[bg,h,ak,nt]
 rw[i,ab];have j:((((((decide (p≠[])&&(parts p).all uW&&decide ((parts p).length<=8)&&decide (p.length<=96))&&cl (len p) 92)&&cl (len (bd p).2) 28)&&aD (oB (bd p).2).1 0)&&cl 0 m)&&cl m 4095)=(yH p&&decide (0<=m)&&decide (m<=4095)):=by
  rw[Pu];unfold yH;simp only[gO,L5,len,aD]
  grind
 simp only[j];generalize (yH p&&decide (0<=m)&&decide (m<=4095))=c;by_cases a:k=1
 .subst a;rw[show aD 1 1=true by rfl,ai]
  congr 2
  rw[Bool.and_assoc];rw[Pu];simp[bg,tZ,len];omega
 .rw[show aD k 1=false by simp[aD,a],ag,aK a];by_cases b:k=2
  .subst b;rw[show aD 2 2=true by rfl,ai];rw[Bool.and_assoc];simp[bg]
  .rw[show aD k 2=false by simp[aD,b],ag,aK b];by_cases e:k=3
   .subst e;rw[show aD 3 3=true by rfl];cases c with
    | false=>rfl
    | true =>
      by_cases hd:d=[]
      .simp[bg,hd,ak,ae]
      .simp[bg,hd,ak,ae]
   .rw[show aD k 3=false by simp[aD,e],ag,aK e,aey]
def Sm(n:Nd):Prop:=n.1.length<=200/\n.2.2.2.2.1.length<=300/\n.2.2.2.1.length<=8192
def wX(l:List Nd):Prop:=l.length<=4096/\∀x∈l,Sm x
def key(n:Nd):List bb:=parts n.1
def cmp(n:Nd)(p:bb):Int:=cmpL (parts n.1) (parts p)
def wX.at{l}(h:wX l){i:Nat}{x}(a:l[i]?=aa x):Sm x:=h.2 x (eG a)
def wX.take{l}(h:wX l) k:wX (l.take k):=⟨by rw[dw];have:=h.1;omega,λx a=>h.2 x (Ex a)⟩
def Oc(n:Nd) p (hn:n.1.length<=4096) (a:p.length<=4096):ng (n,p,())=aa (cmp n p,()):=by
 unfold ng;rw[Dd _ _ hn a];rfl
def aix{a b:Nat}(c:a<=1048576)(d:b<=1048576):lj .i64 (jT .u64 (lj .u64<|aw .i64 a b) 1)=(((a+b) / 2:Nat):Int):=by
 rw[eV ah ah,aid ah ah];have e:jT .u64 (a+b) 1=(((a+b) / 2:Nat):Int):=by
  unfold jT;have f:2 ^ min 1 IntKind.u64.bits=2:=aF
  grind
 rw[e,xE ah ah]
def ac1 l p (s:wX l) (B:p.length<=4096):∀n e d,d-e<=n->e<=d->d<=l.length ->
  ∃k,e<=k/\k<=d/\Loop (j9 (l,p,())) ((e,d,()),())=aa (((k:Int),(k:Int),()),()) /\
   ((∀(i j:Nat) x y,i<=j->l[i]?=aa x->l[j]?=aa y->cmp y p<0->cmp x p<0)->(∀j y,j<e->l[j]?=aa y->cmp y p<0)->(∀j y,d<=j->l[j]?=aa y->¬cmp y p<0) ->
    (∀j y,j<k->l[j]?=aa y->cmp y p<0)/\(∀j y,k<=j->l[j]?=aa y->¬cmp y p<0)):=by
 intro n;induction n with
 | zero =>
   intro e d C D t;obtain rfl:d=e:=ah;refine⟨d,b0 _,b0 _,?_,λ_ a b=>⟨a,b⟩⟩;rw[aN];unfold j9;rw[aB<|uh _];rfl
 | succ n u =>
   intro e d C D t;by_cases h:d=e
   .simp_all
   .have E:=s.1;obtain⟨x,m⟩:∃x,l[(e+d) / 2]?=aa x:=⟨_,ft ah⟩;have f:j9 (l,p,()) ((e,d,()),())=aa (.inl<|if cmp x p<0 then(((((e+d) / 2+1:Nat):Int),d,()),()) else((e,(((e+d) / 2:Nat):Int),()),())):=by
     unfold j9;dsimp only;rw[aH ah,aB aF,aix ah ah,ao m,ab,Oc x p (by have:=(s.at m).1;omega) B,ab];rw[aC ah];by_cases g:cmp x p<0
     .rw[aH g,aQ g];rfl
     .rw[aB ah,aK g];rfl
    rw[aN,f];by_cases g:cmp x p<0
    .obtain⟨k,v,w,o,q⟩:=u ((e+d) / 2+1) d ah ah t;refine⟨k,ah,w,by rw[aQ g];exact o,λa b c=>q a (λj y z A=>?_) c⟩
     grind
    .obtain⟨k,v,w,o,q⟩:=u e ((e+d) / 2) ah ah ah;refine⟨k,v,ah,by rw[aK g];exact o,λa b c=>q a b λj y z A r=>g (a _ _ x y z m A r)⟩
def Ord(l:List Nd):Prop:=∀(i j:Nat) (x y:Nd),i<j->l[i]?=aa x->l[j]?=aa y->cmpL (key x) (key y)<0
def Ord.mono{l}(h:Ord l) p:∀(i j:Nat) x y,i<=j->l[i]?=aa x->l[j]?=aa y->cmp y p<0->cmp x p<0:=by
 intro i j x y a b c d;rcases ug i j with g|g
 .exact mT (h i j x y g b c) d
 .grind
def Ord.take{l}(h:Ord l) k:Ord (l.take k):=λi j x y c a b=>by
 rw[kn] at a b;split at a
 .split at b
  .exact h i j x y c a b
  .cases b
 .cases a
structure Plc (l:List Nd) (p:bb) (k:Nat) (b:Bool):Prop where
 le:k<=l.length
 lo:∀(j:Nat) (y:Nd),j<k->l[j]?=aa y->cmp y p<0
 hi:∀(j:Nat) (y:Nd),k<=j->l[j]?=aa y->¬cmp y p<0
 is:b=true->∃x,l[k]?=aa x/\x.1=p
 no:b=false->∀x∈l,x.1≠p
def WX{n p}(h:cmp n p=0):n.1=p:=by
 have:=I6 h;rw[<-dV n.1,this,dV]
def Od{n p}(h:n.1=p):cmp n p=0:=by subst h;apply kk
def Ea l p (q:wX l) (r:p.length<=4096):∃(k:Nat) (b:Bool),ew (l,p,())=aa ((k:Int),b,())/\k<=l.length/\(b=true->k<l.length)/\(Ord l->Plc l p k b):=by
 obtain⟨k,_,i,t,u⟩:=ac1 l p q r l.length 0 l.length ah ah (b0 _);have c:Loop (j9 _) ((0,len l,()),())=aa _:=t;have a:=λ(h:Ord l)=>u (h.mono p) (λj y m=>ah) (λj y m d=>by have:=av d;omega);by_cases n:k<l.length
 .obtain⟨x,f⟩:∃x,l[k]?=aa x:=⟨_,ft n⟩;refine⟨k,decide _,?_,i,λ_=>n,λh=>⟨i,(a h).1,(a h).2,λo=>⟨x,f,WX (fy o)⟩,λo y d e=>?_⟩⟩
  .unfold ew;rw[c,ab];rw[al n,ao f,ab,Oc x p (by have:=(q.at f).1;omega) r];rfl
  .obtain⟨j,m⟩:=bc.1 d;have v:=Od e;rcases Mn j k with g|g|g
   .grind
   .grind
   .have s:=h k j x y g f m;rw[show key y=parts p by unfold key;rw[e]] at s;exact(a h).2 k x (b0 _) f s
 .obtain rfl:k=l.length:=ah;refine⟨l.length,false,?_,i,λh=>(by cases h),λh=>⟨i,(a h).1,(a h).2,λh=>(by cases h),λo y d e=>?_⟩⟩
  .unfold ew;rw[c,ab];rw[aq,ag]
  .obtain⟨j,m⟩:=bc.1 d;have v:=Od e
   grind
def Dir(l:List Nd)(d:bb)(e:Int):Prop:=(d=[]/\e=0)\/(d≠[]/\(((∀x∈l,x.1≠d)/\e=3)\/∃x∈l,x.1=d/\((x.2.1=2/\e=0)\/(x.2.1≠2/\e=12))))
def abe l d (j:wX l) (hd:d.length<=4096):∃e,oT (l,d,())=aa (e,())/\(Ord l->Dir l d e):=by
 unfold oT;by_cases c:d=[]
 .subst c;exact⟨0,rfl,λ_=>.inl ⟨rfl,rfl⟩⟩
 .rw[aY c];obtain⟨k,b,m,o,n,g⟩:=Ea l d j hd;rw[m,ab];cases b with
  | false =>
    exact⟨3,rfl,λh=>.inr ⟨c,.inl ⟨(g h).no rfl,rfl⟩⟩⟩
  | true =>
    obtain⟨x,f⟩:∃x,l[k]?=aa x:=⟨_,ft (n rfl)⟩;rw[ ao f,ab];have i:Ord l->x.1=d:=λh=>by
     obtain⟨y,p,e⟩:=(g h).is rfl
     grind
    by_cases a:x.2.1=2
    .refine⟨0,?_,λh=>.inr ⟨c,.inr ⟨x,eG f,i h,.inl ⟨a,rfl⟩⟩⟩⟩;rw[au a];rfl
    .refine⟨12,?_,λh=>.inr ⟨c,.inr ⟨x,eG f,i h,.inr ⟨a,rfl⟩⟩⟩⟩;rw[show aD x.2.1 2=false by simp[aD,a]];rfl
def Di l p (c:wX l):(∃(i:Nat) (x:Nd),l[i]?=aa x/\x.1=p/\iy (l,p,())=aa ((i:Int),()))\/((∀x∈l,x.1≠p)/\iy (l,p,())=aa (-1,())):=by
 unfold iy;rcases eE (f:=qY (l,p,())) l (λi=>((0,i,()),())) (λ_ x=>decide (x.1=p)) (λi x=>(1,(i,i,()),())) _ (by have:=c.1;omega) (λi x a b d=>by
  unfold qY;rw[al b,ao a,ab,vI,d];by_cases h:x.1=p<;>simp[h,ak]) (by unfold qY;rw[aq,ag]) with ⟨i,x,a,g,_,h⟩|⟨hn,h⟩
 .left;refine⟨i,x,a,fy g,?_⟩;rw[h];rfl
 .right;refine⟨λx a e=>?_,by rw[h];rfl⟩;obtain⟨i,b⟩:=bc.1 a
  grind
def Oe l d (o:wX l):∃b,oU (l,d,())=aa (b,())/\(b=true->d=[]\/∃x∈l,x.1=d/\x.2.1=2)/\(Ord l->b=false->d≠[]/\∀x∈l,x.1=d->x.2.1≠2):=by
 unfold oU;by_cases f:d=[]
 .subst f;rcases Di l [] o with ⟨i,x,a,c,h⟩|⟨_,h⟩<;>rw[h]<;>exact⟨true,rfl,λ_=>.inl rfl,λ_ h=>by cases h⟩
 .rcases Di l d o with ⟨i,x,a,c,h⟩|⟨hn,h⟩
  .rw[h,ab,aY f,aE,ai];rw[ ao a];refine⟨_,rfl,λm=>.inr ⟨x,eG a,c,fy m⟩,λp m=>⟨f,λy r n t=>?_⟩⟩;have s:=xV m;obtain⟨j,q⟩:=bc.1 r;have k:key x=key y:=by unfold key;rw[c,n]
   rcases Mn i j with g|g|g
   .have:=p i j x y g a q;rw[k,kk] at this;omega
   .grind
   .have:=p j i y x g q a;rw[k,kk] at this;omega
  .rw[h,aY f];exact⟨false,rfl,λh=>(by cases h),λ_ _=>⟨f,λx a e=>absurd e (hn x a)⟩⟩
structure Valid (l:List Nd):Prop where
 few:l.length<=64
 ord:Ord l
 may:∀x∈l,gm x=true
 up:∀x∈l,(bd x.1).1=[]\/∃y∈l,y.1=(bd x.1).1/\y.2.1=2
def Of p:(bd p).1.length<=p.length:=by
 rcases sA p with ⟨_,h⟩|⟨a,b,c,_,h⟩
 .grind
 .grind
def yI{p}(h:(bd p).1≠[]):parts p=parts (bd p).1++[(bd p).2]:=by
 rcases sA p with ⟨_,e⟩|⟨a,b,c,d,e⟩
 .grind
 .rw[e] at h⊢;unfold parts;rw[aK<|by rw[c];simp,aK h,c];exact Dc a b d
def Ord.uniq{l}(h:Ord l){x y}(d:x∈l)(f:y∈l)(e:x.1=y.1):x=y:=by
 obtain⟨i,a⟩:=bc.1 d;obtain⟨j,b⟩:=bc.1 f;have c:key x=key y:=by unfold key;rw[e]
 rcases Mn i j with g|g|g
 .have:=h i j x y g a b;rw[c,kk] at this;omega
 .grind
 .have:=h j i y x g b a;rw[c,kk] at this;omega
def Og{l}(h:∀k x y,l[k]?=aa x->l[k+1]?=aa y->cmpL (key x) (key y)<0):Ord l:=by
 have run:∀d i x y,l[i]?=aa x->l[i+1+d]?=aa y->cmpL (key x) (key y)<0:=by
  intro d;induction d with
  | zero=>intro i x y b a;exact h i x y b a
  | succ d e =>
    intro i x y b a;have g:=av a;obtain⟨z,c⟩:∃z,l[i+1+d]?=aa z:=⟨_,ft ah⟩;exact mT (e i x z b c) (h _ z y c a)
 intro i j x y f b a;exact run (j-i-1) i x y b (by rw[show i+1+_=j by omega];exact a)
def HU(l:List Nd)(i:Nat)(x:Nd):Bool:=match i with
 | 0=>false
 | k+1=>match l[k]? with
   | some y=>decide (0<=cmpL (key y) (key x))
   | none=>false
def BH{l k x y}(a:l[k]?=aa y):HU l (k+1) x=decide (0<=cmpL (key y) (key x)):=by
 show(match l[k]? with|some y=>decide _|none=>false)=_
 rw[a]
noncomputable def WY(l:List Nd)(d:bb):Int:=match oT (l,d,()) with
 | some y=>y.1
 | none=>0
def Oh l d (a:wX l) (hd:d.length<=4096):oT (l,d,())=aa (WY l d,())/\(Ord l->Dir l d (WY l d)):=by
 obtain⟨e,b,c⟩:=abe l d a hd;have:WY l d=e:=by unfold WY;rw[b]
 grind
noncomputable def Km(l:List Nd)(d:bb):Bool:=match oU (l,d,()) with
 | some y=>y.1
 | none=>false
def Jj l d (a:wX l):oU (l,d,())=aa (Km l d,())/\(Km l d=true->d=[]\/∃x∈l,x.1=d/\x.2.1=2)/\(Ord l->Km l d=false->d≠[]/\∀x∈l,x.1=d->x.2.1≠2):=by
 obtain⟨e,b,c,f⟩:=Oe l d a;have:Km l d=e:=by unfold Km;rw[b]
 grind
def RI{l}(h:∀i x,l[i]?=aa x->HU l i x=false):Ord l:=Og λk x y a b=>by
 have:=h _ y b;rw[BH a] at this
 grind
def RJ{l}(h:Ord l){i x}(a:l[i]?=aa x):HU l i x=false:=by
 cases i with
 | zero=>rfl
 | succ k =>
   have c:=av a;obtain⟨y,b⟩:∃y,l[k]?=aa y:=⟨_,ft ah⟩;rw[BH b];have:=h k _ y x ah b a
   grind
def ac2{l}(h:Ord l){i x y}(b:l[i]?=aa x)(d:y∈l)(f:(bd x.1).1≠[])(e:y.1=(bd x.1).1):y∈l.take i:=by
 obtain⟨j,a⟩:=bc.1 d;have k:cmpL (key y) (key x)=-1:=by
  unfold key;rw[e,yI f];exact Wl _ _ aT
 rcases ug j i with g|g
 .exact eG (by rw[kn,aQ g];exact a)
 .exfalso;rcases ug i j with c|c
  .have:=mT (h i j x y c b a) (show cmpL _ (key x)<0 by omega);rw[kk] at this;omega
  .obtain rfl:i=j:=ah;rw[b] at a;obtain rfl:=aI a;rw[kk] at k;omega
def mU l (b:wX l):∃e,ez (l,())=aa (e,())/\(e=0↔Valid l):=by
 unfold ez;have o:aL 64 (len l)=decide (64<l.length):=by unfold len;apply gG.2;omega
 rw[o];by_cases t:64<l.length
 .rw[cW t];exact⟨1,rfl,λh=>ah,λh=>by have:=h.few;omega⟩
 .rw[cf t];have c:∀{i:Nat} {x},l[i]?=aa x->(bd x.1).1.length<=4096:=λ{i x} hx=>by have:=(b.at hx).1;have:=Of x.1;omega
  rcases eE (f:=qX (l,())) l (λi=>((0,i,()),())) (λi x=>!gm x||HU l i x||decide (WY (l.take i) (bd x.1).1≠0)) _ _ ah (λi x hx m w=>by
   unfold qX;dsimp only;rw[al m,ai,ao hx,ab,sf _ (by have:=(b.at hx).1;omega),ab,abd _ (by have:=(b.at hx).1;omega),ab];cases E:gm x with
   | false=>rfl
   | true =>
     rw[aW,ag];have p:inside 0 i (len l)=true:=jC (pq _) ah;rw[p,ai,gl,((Oh _ (bd x.1).1 (b.take i)<|c hx).1),ab,w];cases i with
     | zero =>
       rw[aB aT,ag];generalize WY _ (bd x.1).1=e;by_cases a:e=0
       .rw[au a,aW,ag];simp[HU,a]
       .rw[show aD e 0=false by simp[aD,a],aE,ai];simp[ a]
     | succ k =>
       obtain⟨y,d⟩:∃y,l[k]?=aa y:=⟨_,ft ah⟩;rw[aH ah,ai,du ah ah,show(((k+1:Nat):Int)-1)=k by omega,ao d,ab,Dd _ _ (by have:=(b.at d).1;omega) (by have:=(b.at hx).1;omega),ab];rw[tZ];rw[BH d];unfold key;generalize WY _ (bd x.1).1=e;by_cases u:0<=cmpL (parts y.1) (parts x.1)
       .rw[cW u,ai];simp
       .rw[cf u,ag];by_cases a:e=0
        .rw[au a,aW,ag];simp[a]
        .rw[show aD e 0=false by simp[aD,a],aE,ai];simp[a]) (by unfold qX;rw[aq,ag]) with ⟨i,x,hx,A,_,h⟩|⟨hn,h⟩
  .rw[h];refine⟨1,rfl,λh=>ah,λj=>?_⟩;rw[j.may x<|eG hx,RJ j.ord hx] at A;have hd:=(Oh _ (bd x.1).1 (b.take i)<|c hx).2 (j.ord.take i);rcases hd with ⟨_,e⟩|⟨q,hd⟩
   .grind
   .rcases j.up x (eG hx) with F|⟨y,d,g,r⟩
    .grind
    .have B:=ac2 j.ord hx d q g;rcases hd with ⟨C,_⟩|⟨z,a,s,⟨_,e⟩|⟨D,_⟩⟩
     .grind
     .grind
     .have:=j.ord.uniq (Ex a) d (by rw[s,g])
      grind
  .rw[h];have n:∀i x,l[i]?=aa x->gm x=true/\HU l i x=false/\WY (l.take i) (bd x.1).1=0:=λi x hx=>by
    grind
   have v:=RI λi x hx=>(n i x hx).2.1;refine⟨0,rfl,λ_=>⟨ah,v,λx hx=>?_,λx hx=>?_⟩,λ_=>rfl⟩
   .obtain⟨i,m⟩:=bc.1 hx
    grind
   .obtain⟨i,m⟩:=bc.1 hx;have hd:=(Oh _ (bd x.1).1 (b.take i)<|c m).2 (v.take i);rw[(n i x m).2.2] at hd;rcases hd with ⟨e,_⟩|⟨_,⟨_,e⟩|⟨y,d,g,⟨r,_⟩|⟨_,e⟩⟩⟩
    .grind
    .omega
    .grind
    .omega
def pg l (c:wX l):∃b,jd (l,())=aa (b,())/\(b=true↔Valid l):=by
 unfold jd;have m:aL 64 (len l)=decide (64<l.length):=by unfold len;apply gG.2;omega
 rw[m];by_cases o:64<l.length
 .rw[cW o];exact⟨false,rfl,λh=>(by cases h),λh=>by have:=h.few;omega⟩
 .rw[cf o];rcases eE (f:=vn (l,())) l (λi=>((false,i,()),())) (λi x=>!gm x||!Km l (bd x.1).1||HU l i x) _ _ ah (λi x a e q=>by
   unfold vn;dsimp only;rw[al e,ai,ao a,ab,xI _ (by have:=(c.at a).1;omega),ab,ab,zB _ (by have:=(c.at a).1;omega) (by have:=(c.at a).2.1;omega),ab];cases t:gm x with
   | false=>rfl
   | true =>
     rw[aW,ag,(Jj l (bd x.1).1 c).1,ab];cases u:Km l (bd x.1).1 with
     | false=>rfl
     | true =>
       rw[aW,ag,q];cases i with
       | zero=>rw[aB aT,ag];simp[HU]
       | succ k =>
         obtain⟨y,g⟩:∃y,l[k]?=aa y:=⟨_,ft ah⟩;rw[aH ah,ai,du ah ah,show(((k+1:Nat):Int)-1)=k by omega,ao g,ab,ab,yG _ _ (by have:=(c.at g).1;omega) (by have:=(c.at a).1;omega),ab];rw[tZ];rw[BH g];unfold key;by_cases p:0<=cmpL (parts y.1) (parts x.1)
         .rw[cW p,ai];simp
         .rw[cf p,ag];simp) (by unfold vn;rw[aq,ag]) with ⟨i,x,a,n,_,h⟩|⟨hn,h⟩
  .rw[h];refine⟨false,rfl,λh=>(by cases h),λj=>?_⟩;rw[j.may x<|eG a,RJ j.ord a] at n;simp at n;obtain⟨v,w⟩:=(Jj l (bd x.1).1 c).2.2 j.ord n;rcases j.up x (eG a) with z|⟨y,g,r,s⟩
   .grind
   .grind
  .rw[h];have d:∀i x,l[i]?=aa x->gm x=true/\Km l (bd x.1).1=true/\HU l i x=false:=λi x a=>by
    grind
   refine⟨true,rfl,λ_=>⟨ah,RI λi x a=>(d i x a).2.2,λx a=>?_,λx a=>?_⟩,λ_=>rfl⟩
   .obtain⟨i,e⟩:=bc.1 a
    grind
   .obtain⟨i,e⟩:=bc.1 a;exact(Jj l (bd x.1).1 c).2.1 (d i x e).2.1
def takeWhile_eq{e:Type}{P}:∀{l:List e} {k},k<=l.length->(∀j y,j<k->l[j]?=aa y->P y=true)->(∀y,l[k]?=aa y->P y=false)->l.takeWhile P=l.take k/\l.dropWhile P=l.drop k:=by
 intro l;induction l with
 | nil=>simp
 | cons a r f =>
   intro k g c d;cases k with
   | zero =>
     have:=d a rfl;simp[ this]
   | succ k =>
     obtain⟨h,i⟩:=f (by simpa using g) (λj y m b=>c (j+1) y ah b) (λy b=>d y b);simp[ (c 0 a ah rfl),h,i]
def HV{d S R:Type}{f}(l:List d)(a:d->Bool)(e:Int->Int->List d->S)(g:Int->List d->R)(y:l.length<=4294967296)
  (b:∀(w j:Nat) L x,l[j]?=aa x->L[j]?=aa x->w<=j->j<L.length->aw .i64 w 1=((w+1:Nat):Int)->aw .i64 j 1=((j+1:Nat):Int) ->
   f (e w j L)=aa (.inl<|if a x=true then e w ((j+1:Nat):Int) L else e ((w+1:Nat):Int) ((j+1:Nat):Int) (L.set w x)))
  (h:∀(w:Nat) L,f (e w (L.length:Int) L)=aa (.inr<|g w L)) :
  ∀n w j L,l.length-j<=n->w<=j->j<=l.length->L.length=l.length->L.take w=(l.take j).filter (λx=>!a x)->L.drop j=l.drop j ->
   ∃(w':Nat) (L':List d),Loop f (e w j L)=aa (g w' L')/\L'.length=l.length/\w'<=l.length/\L'.take w'=l.filter (λx=>!a x):=by
 intro n;induction n with
 | zero =>
   intro w j L hn q u c i o;obtain rfl:j=L.length:=ah;refine⟨w,L,?_,c,ah,?_⟩
   .rw[aN,h];rfl
   .rw[i,c,zJ]
 | succ n r =>
   intro w j L hn q u c i o;by_cases v:j=l.length
   .exact r w j L ah q u c i o
   .have s:j<L.length:=ah;have hx:l[j]?=aa l[j]:=ft ah;have t:L[j]?=aa l[j]:=by
     have:=congrArg (λz=>z[0]?) o;simpa [ hx] using this
    have k:L.drop (j+1)=l.drop (j+1):=by
     have:=congrArg (List.drop 1) o;simpa using this
    have m:l.take (j+1)=l.take j++[l[j]]:=by rw[xX,hx];rfl
    rw[aN,b w j L l[j] hx t q s (aC ah) (aC ah)];by_cases p:a l[j]=true
    .rw[aQ p];exact r w _ L ah ah ah c (by rw[i,m,aem];simp[p]) k
    .rw[aK p];refine r _ _ _ ah ah ah (by simpa using c) ?_ ?_
     .rw[m,aem,<-i,xX,List.take_set_of_le (b0 w)];simp[p,show w<L.length by omega]
     .rw[List.drop_set_of_lt ah];exact k
def Dj{α}(L:List α) w (a:w<=L.length) m:sub (over L w m) 0 (minus w 0)=L.take w:=by
 rw[gl];unfold over;rw[uB,xW,ad9 (by rw[dw];omega),Pw,aeF]
def HW{α}(L:List α) w (a:w<=L.length) z:len (over L w<|lh (minus (len L) w) z)=(L.length:Int):=by
 unfold over lh minus len;simp;omega
def filter_one{d:Type}{l:List d}{P k x}(c:l[k]?=aa x)(f:P x=false)(h:∀j y,j≠k->l[j]?=aa y->P y=true):l.filter P=l.take k++l.drop (k+1):=by
 have e:l=l.take k++x::l.drop (k+1):=by
  conv=>lhs;rw[<-Gp k l,Cv (av c)]
  rw[(iQ.1 c).2]
 conv=>lhs;rw[e]
 rw[aem,aeq,f];have g:(l.take k).filter P=l.take k:=Mf.2 λy b=>by
  obtain⟨j,a⟩:=bc.1 b;rw[kn] at a;split at a
  .exact h j y ah a
  .cases a
 have i:(l.drop _).filter P=l.drop (k+1):=Mf.2 λy b=>by
  obtain⟨j,a⟩:=bc.1 b;rw[vM] at a;exact h _ y ah a
 rw[g,i];simp
def wq(l:List Nd)(n:Nd):List Nd:=l.takeWhile (λx=>decide (cmp x n.1<0))++n::l.dropWhile (λx=>decide (cmp x n.1<0))
def gone(p:bb)(x:Nd):Bool:=decide (x.1=p)||ek (parts x.1) (parts p)
def qR(l:List Nd)(p:bb):List Nd:=l.filter λx=>!gone p x
def Ord.filter{l}(h:Ord l) P:Ord (l.filter P):=by
 have c:l.Pairwise λx y=>cmpL (key x) (key y)<0:=by
  rw[Ss];intro i j d e a;exact h i j _ _ a (ft d) (ft e)
 have b:=c.filter P;rw[Ss] at b;intro i j x y a f g;obtain⟨k,m⟩:=iQ.1 f;obtain⟨n,o⟩:=iQ.1 g;rw[<-m,<-o];exact b i j k n a
def wX.filter{l}(h:wX l) P:wX (l.filter P):=⟨fB (UQ _ _) h.1,λx a=>h.2 x (Aj.1 a).1⟩
def aiy{l n k b}(h:Plc l n.1 k b):wq l n=l.take k++[n]++l.drop k:=by
 obtain⟨c,d⟩:=takeWhile_eq h.le (λj y e a=>cW (h.lo j y e a)) (λy a=>cf (h.hi k y (b0 _) a));unfold wq;rw[c,d];simp
def Oi{l}(o:Valid l){p}(t:p≠[])(u:∀x∈l,x.1≠p):∀m x,x∈l->(parts x.1).length<=m->ek (parts x.1) (parts p)=false:=by
 intro m;induction m with
 | zero =>
   intro x i j;exact cf ah
 | succ m v =>
   intro x i j;cases w:ek _ _ with
   | false=>rfl
   | true =>
     exfalso;obtain⟨q,f⟩:=fy w;have c:=o.may x i;unfold gm yH at c;simp only[gO] at c;by_cases h:(bd x.1).1=[]
     .have d:=c.1.1.1.1.1.1.1.2;have r:(parts x.1).length<=1:=by
       rcases sA x.1 with ⟨a,_⟩|⟨a,b,z,C,e⟩
       .unfold parts;split
        .simp
        .rw[qh _ a];simp
       .rw[e] at h;subst h;have:=w8.1 d [] (by
         rw[z];show []∈cM _
         rw[F1 [] aT];simp)
        exact absurd this aF
      have:parts p=[]:=zI.1 ah;have:=dV p;rw[‹parts p=[]›] at this;exact t this.symm
     .have k:=yI h;rcases o.up x i with e|⟨y,s,n,A⟩
      .exact absurd e h
      .rw[<-n] at k;rw[k] at q f;rw[ad9<|by simp at q;omega] at f;rcases ug (parts p).length (parts y.1).length with g|g
       .have:=v y s (by rw[k] at j;simp at j;omega);exact absurd ⟨g,f⟩ (xV this)
       .have B:parts p=parts y.1:=by rw[<-f,KE ah]
        refine u y s ?_;rw[<-dV y.1,<-B,dV]
def ZB{l}(c:Valid l){p}(d:p≠[])(a:∀x∈l,x.1≠p):qR l p=l:=Mf.2 λx b=>by
 unfold gone;rw[Oi c d a _ x b<|b0 _,cf (a x b)];rfl
open Classical in
noncomputable def bI(l:List Nd)(n:Nd):List Nd×Int :=
 if ¬Valid l\/gm n=false then([],1) else
 if(bd n.1).1≠[]/\∀x∈l,x.1≠(bd n.1).1 then([],3) else
 if(bd n.1).1≠[]/\∀x∈l,x.1=(bd n.1).1->x.2.1≠2 then([],12) else
 let r:=if(∃x∈l,x.1=n.1/\x.2.1=2)/\n.2.1=2 then l.filter (λx=>!decide (x.1=n.1)) else qR l n.1
 if 64<=r.length then([],5) else(wq r n,0)
def abf{n}(h:gm n=true):n.1≠[]:=by
 unfold gm yH at h
 grind
def aiz(l:List Nd) k (n:Nd) (a:k<=l.length) (c:l.length<=4096):bk l (k,[n],())=aa (l.take k++[n]++l.drop k):=by
 unfold bk uI;have b:inside 0 k _=true:=jC (pq _) a;rw[b,aJ cR];simp
def WZ r (n:Nd) (a:wX r) (d:Ord r) (hn:n.1.length<=200) (c:Int) (i:c=r.length) :
  ak (cl 64 c) (aa (([]:List Nd),(5:Int),())) (ae (ew (r,n.1,())) λy=>ae (bk r (y.1,[n],())) λz=>aa (z,0,())) =
   aa (if 64<=r.length then([],5,()) else(wq r n,0,())):=by
 rw[tZ];by_cases h:64<=r.length
 .rw[cW ah,ai,aQ h]
 .rw[cf ah,ag,aK h];obtain⟨k,b,e,f,j,g⟩:=Ea r n.1 a ah;rw[e,ab];rw[aiz r k n f a.1,ab,aiy (g d)]
def W0 x p (hx:x.1.length<=200) (a:p.length<=200):ak (nt<|bg x.1 p) (ae (dH (x.1,p,())) λy=>aa y.1) (aa true)=aa (gone p x):=by
 rw[AP _ _ ah ah,vI];unfold gone;cases decide (x.1=p)<;>rfl
def ac3 l (n:Nd) (a:wX l) (hn:n.1.length<=200):(∃i x,l[i]?=aa x/\gone n.1 x=true/\(∀(j:Nat) y,j<i->l[j]?=aa y->gone n.1 y=false)/\Loop (qC (l,n,())) ((0,0,()),(),n.1,())=aa (1,((i:Int),(i:Int),()),(),n.1,())) \/
  ((∀(i:Nat) x,l[i]?=aa x->gone n.1 x=false)/\Loop (qC (l,n,())) ((0,0,()),(),n.1,())=aa (0,(0,(l.length:Int),()),(),n.1,())) :=
 eE l (λi=>((0,i,()),_)) _ _ _ (by have:=a.1;omega) (λi x b c d=>by
  unfold qC;dsimp only;rw[al c,aG ah dR,ao b,ab,W0 _ _ (a.at b).1 hn,d];cases gone n.1 x<;>rfl) (by unfold qC;rw[aq,ag])
def ac4 l (n:Nd) (c:wX l) (hn:n.1.length<=200) (i:Nat) x (hx:l[i]?=aa x) (r:gone n.1 x=true) (d:∀j y,j<i->l[j]?=aa y->gone n.1 y=false) :
  ∃(w:Nat) (L:List Nd),Loop (qD) ((i,aw IntKind.i64 i 1,(),()),(),n.1,l,())=aa (((w:Int),(l.length:Int),(),()),(),n.1,L,())/\L.length=l.length/\w<=l.length/\L.take w=qR l n.1:=by
 have hi:=av hx;have s:=c.1;have a:l.take i=(l.take<|i+1).filter (λx=>!gone n.1 x):=by
  rw[xX];have e:(l.take i).filter (λx=>!gone n.1 x)=l.take i:=Mf.2 λy k=>by
   obtain⟨j,g⟩:=bc.1 k
   grind
  grind
 obtain⟨w,L,e,h,m,o⟩:=HV (f:=qD) l _ (λw j L=>((w,j,_),(),n.1,L,())) (λw L=>((w,L.length,_),(),n.1,L,())) ah (λw j L x hx b t g p d=>by
  unfold qD;dsimp only;obtain⟨z,q⟩:∃z,L[w]?=aa z:=⟨_,ft ah⟩;rw[al g,aG ah dR,ai,ao b,ab,W0 _ _ (c.at hx).1 hn,ab,d];cases gone n.1 x with
  | true=>rfl
  | false =>
    rw[ aG ah dR,ao q,p];rfl) (λw L=>by
  unfold qD;rw[aq];rfl) l.length i _ l ah ah ah rfl a rfl
 refine⟨w,L,?_,h,m,o⟩;rw[aC ah,e,h]
def W1{l}(f:Ord l){n x k}(d:l[k]?=aa x)(e:x.1=n.1):l.filter (λx=>!decide (x.1=n.1))=l.take k++l.drop (k+1)/\wq (l.take k++l.drop (k+1)) n=l.take k++[n]++l.drop (k+1):=by
 have r:=av d;have b:key x=parts n.1:=by unfold key;rw[e]
 have h:∀j y,j<k->l[j]?=aa y->cmp y n.1<0:=λj y c a=>by
  have:=f j k y x c a d;rw[b] at this;exact this
 have i:∀j y,k<j->l[j]?=aa y->¬cmp y n.1<0:=λj y c a p=>by
  have:=f k j x y c d a;rw[b] at this;have:=mT this p;rw[kk] at this;omega
 have q:(l.take k).length=k:=by rw[dw];omega
 constructor
 .refine filter_one d (by rw[cW e];rfl) λj y c a=>?_;rw[cf];rfl;intro o;have s:=Od o;rcases ug j k with g|g
  .grind
  .have m:key x=key y:=by rw[b];unfold key;rw[o]
   have:=f k j x y ah d a;rw[m,kk] at this;omega
 .obtain⟨t,u⟩:=takeWhile_eq (l:=l.take k++l.drop (k+1)) (k:=k) (P:=λx=>decide _) (by rw[iU];omega) (λj y c a=>by
   rw[UL ah,kn,aQ c] at a;exact cW (h j y c a)) (λy a=>by
   rw[aeb ah,vM] at a;exact cf (i _ y ah a))
  unfold wq
  grind
def ac5{a:Type}{l:List a}{k}(b:k<l.length) n:l.set k n=l.take k++[n]++l.drop (k+1):=by
 rw[List.set_eq_take_append_cons_drop,aQ b];simp
def Kn l n (f:wX l) (hn:Sm n):uK (l,n,())=aa ((bI l n).1,(bI l n).2,()):=by
 obtain⟨e,G,D⟩:=mU l f;have g:=hn.1;unfold uK;dsimp only;rw[G,ab,abd n ah,ab];by_cases a:¬Valid l\/gm n=false
 .have o:bI l n=([],1):=by unfold bI;rw[aQ a]
  rw[o];have:ak (nt<|nt<|aD e 0) (aa<|nt<|gm n) (aa true)=aa true:=by
   rcases a with h|h
   .rw[show aD e 0=false by unfold aD;exact cf λp=>h (D.1 p)];rfl
   .rw[h];cases nt _<;>rfl
  rw[this,ab,ai]
 .have hv:Valid l:=by
   grind
  have H:gm n=true:=by
   grind
  obtain rfl:=D.2 hv;rw[H];have:ak (nt<|nt<|aD 0 0) (aa<|nt true) (aa true)=aa false:=rfl;rw[this,ab,ag,sf _ ah,ab];obtain⟨d,I,J⟩:=abe l (bd n.1).1 f (by have:=Of n.1;omega);rw[I,ab];by_cases z:(¬((bd n.1).1≠[]/\∀x∈l,x.1≠(bd n.1).1))/\(¬((bd n.1).1≠[]/\∀x∈l,x.1=(bd n.1).1->x.2.1≠2))/\d=0
  .obtain⟨K,M,A⟩:=z;subst A;have o:bI l n=(let r:=if(∃x∈l,x.1=n.1/\x.2.1=2)/\n.2.1=2 then l.filter (λx=>!decide (x.1=n.1)) else qR l n.1
     if 64<=r.length then([],5) else(wq r n,0)):=by
    unfold bI;rw[aK a,aK K,aK M]
   rw[show nt _=false by rfl,ag];obtain⟨k,b,N,X,Y,O⟩:=Ea l n.1 f ah;have m:=O hv.ord;rw[N,ab];obtain⟨u,P,Q⟩:∃u,ak b (ae (idx l k) λy=>aa (aD y.2.1 2)) _=aa u/\(ak u (aD n.2.1 2) false=true↔((∃x∈l,x.1=n.1/\x.2.1=2)/\n.2.1=2)):=by
    cases b with
    | false =>
      refine⟨false,rfl,?_⟩;exact⟨λh=>(by cases h),λ⟨⟨x,hx,e,_⟩,_⟩=>absurd e (m.no rfl x hx)⟩
    | true =>
      obtain⟨x,hx,e⟩:=m.is rfl;refine⟨aD x.2.1 2,by rw[ai,ao hx,ab],?_⟩;rw[oC,gO];unfold aD;rw[A6,A6];refine⟨λh=>⟨⟨x,eG hx,e,h.1⟩,h.2⟩,λ⟨⟨y,B,R,S⟩,Z⟩=>?_⟩;have:=hv.ord.uniq (eG hx) B (by rw[e,R])
      grind
   rw[P,ab];by_cases c:(∃x∈l,x.1=n.1/\x.2.1=2)/\n.2.1=2
   .rw[Q.2 c,ai];have v:b=true:=by
     cases b with
     | true=>rfl
     | false=>obtain⟨⟨x,hx,e,_⟩,_⟩:=c;exact absurd e (m.no rfl x hx)
    obtain⟨x,hx,e⟩:=m.is v;have T:=av hx;rw[cK (by have:=f.1;omega),ai,aG ah dR,ai,ao hx,ab,ab,ab,C6];obtain⟨U,V⟩:=W1 hv.ord hx e;have E:=hv.few;rw[aQ c,U] at o;have C:¬64<=(l.take k++l.drop (k+1)).length:=cR;rw[o];simp only[C,if_false];rw[V,ac5 T]
   .have hs:ak u (aD n.2.1 2) false=false:=by
     grind
    rw[hs,ag,ab];rw[show nt _=false by rfl,ag,cK (by have:=f.1;omega),ai];rcases ac3 l n f g with ⟨i,x,hx,z,v,h⟩|⟨v,h⟩
    .obtain⟨w,L,W,w2,w3,F⟩:=ac4 l n f g i x hx z v;rw[h,ab];rw[hJ,ag,show aD i (-1)=false by exact cf ah,ag,W,ab];dsimp only;rw[aM ah dR<|uh _,HW L w ah,aM (uh _) ah ah,Dj L w ah,F];have hlen:(qR l n.1).length=w:=by rw[<-F,dw];omega
     refine U9 (WZ (qR l n.1) n (f.filter _) (hv.ord.filter _) g _<|by unfold minus;omega) ?_
     grind
    .have hr:qR l n.1=l:=Mf.2 λx hx=>by
      obtain⟨j,hj⟩:=bc.1 hx
      grind
     rw[h,ab];rw[cV,ai,show aD (-1) (-1)=true by rfl,ai];have tv:=WZ l n f hv.ord g (len l) rfl
     grind
  .rcases J hv.ord with ⟨p,q⟩|⟨p,⟨c,q⟩|⟨x,hx,s,⟨t,q⟩|⟨t,q⟩⟩⟩
   .grind
   .subst q;have o:bI l n=([],3):=by unfold bI;rw[aK a,aQ ⟨p,c⟩]
    rw[o];rfl
   .grind
   .subst q;have o:bI l n=([],12):=by
     unfold bI;rw[aK a,aK (λh=>h.2 x hx s),aQ ⟨p,λy B e=>by
      have:=hv.ord.uniq hx B (by rw[s,e]);subst this;exact t⟩]
    rw[o];rfl
def kN(l:List Nd)(p:bb)(b:Bool):List Nd:=l.filter λx=>!ek (parts x.1) (parts p)&&(!b||!decide (x.1=p))
def Dk l p b (d:wX l) (g:p.length<=4096):ka (l,p,b,())=aa (kN l p b,()):=by
 unfold ka;have o:=d.1;have c:∀m,m.flatMap (λx=>if(!ek (parts x.1) (parts p)&&(!b||!decide (x.1=p)))=true then [x] else [])=kN m p b:=by
  intro m;unfold kN;induction m with
  | nil=>rfl
  | cons a r q =>
    grind
 have h:=iv (f:=mE (l,p,b,())) l (λa i=>(((),i,()),a,())) (λx=>if(!ek (parts x.1) (parts p)&&(!b||!decide (x.1=p)))=true then [x] else []) _ ah (λi x e j k=>by
  unfold mE;have hlen:((l.take i).flatMap λx=>if(!ek (parts x.1) (parts p)&&(!b||!decide (x.1=p)))=true then [x] else []).length<=4096:=by
   rw[c];unfold kN
   grind
  rw[al j,ao e,ab,T4 _ _ (by have:=(d.at e).1;omega) g,ab,ab,ab,k,aJ (by simp only[Sv];omega)];rw[vI];cases ek _ _<;>cases b<;>cases decide (x.1=p)<;>simp[ak,nt,ae,cr,app]) (by
  unfold mE;rw[aq,c];rfl)
 have n:Loop _ _=aa _:=h;rw[n,ab]
def Qo l p:kN l p true=qR l p:=by
 unfold kN qR;unfold gone
 grind
def W2(l r:List Nd)(n:Nd)(d:wX r)(e:n.1.length<=200):∃k,k<=r.length/\Loop (lU (l,n,()) ((r,()),())) ((0,()),())=aa (((k:Int),()),())/\wq r n=r.take k++[n]++r.drop k:=by
 have t:=d.1;rcases eE (f:=lU (l,n,()) ((r,()),())) r (λi=>((i,()),())) (λ_ x=>!decide (cmp x n.1<0)) _ _ ah (λi x b g m=>by
  unfold lU;dsimp only;rw[al g,ao b,ab,yG _ _ (by have:=(d.at b).1;omega) ah,ab,m];unfold cmp aL;cases decide (cmpL _ _<0)<;>rfl) (by
  unfold lU;rw[aq];rfl) with ⟨i,x,b,o,p,h⟩|⟨e,h⟩
 .refine⟨i,by have:=av b;omega,h,?_⟩;obtain⟨q,s⟩:=takeWhile_eq (l:=r) (k:=i) (P:=λx=>decide _) (by have:=av b;omega) (λj y c a=>by
   have:=p j y c a;simpa using this) (λy a=>by
   rw[b] at a;obtain rfl:=aI a;simpa using o)
  unfold wq
  grind
 .refine⟨r.length,b0 _,h,?_⟩;obtain⟨q,s⟩:=takeWhile_eq (P:=λx=>decide _) (b0 _) (λj y c a=>by
   have:=e j y a;simpa using this) (λy a=>by
   have:=av a;omega)
  unfold wq
  grind
def Dm(l r:List Nd)(n:Nd)(c:wX r)(d:n.1.length<=200) :
  ak (cl 64<|len r) (aa (([]:List Nd),(5:Int),())) (ae (Loop (lU (l,n,()) ((r,()),())) ((0,()),())) λa=>ak (inside 0 a.1.1<|len r)
   (ak (fits<|plus (len ([]:List Nd))<|len<|sub r 0<|minus a.1.1 0)
   (ak (fits<|plus (len<|app ([]:List Nd)<|sub r 0<|minus a.1.1 0)<|len [n])
   (ak (inside a.1.1 (len r)<|len r)
   (ak (fits<|plus (len<|app (app ([]:List Nd)<|sub r 0<|minus a.1.1 0) [n])<|len<|sub r a.1.1<|minus (len r) a.1.1)
   (aa (app (app (app ([]:List Nd)<|sub r 0<|minus a.1.1 0) [n])<|sub r a.1.1<|minus (len r) a.1.1,0,()))
   af) af) af) af) af)=aa (if 64<=r.length then([],5,()) else(wq r n,0,())):=by
 rw[tZ];by_cases h:64<=r.length
 .rw[cW dR,ai,aQ h]
 .rw[cf dR,aK h];obtain⟨k,b,e,f⟩:=W2 l r n c d;rw[e,ab];have g:inside 0 k _=true:=jC (pq _) b;have i:inside k (len r) _=true:=aM ah dR (uh _);rw[g,gl,jB r k b,i];rw[(aJ cR),(aJ<|by rw[ib];simp;omega),(aJ<|by rw[ib,ib];simp;omega),f];rfl
def Dn l n (f:wX l) (hn:Sm n):oV (l,n,())=aa ((bI l n).1,(bI l n).2,()):=by
 obtain⟨e,D,B⟩:=pg l f;have m:=hn.1;have L:=f.1;unfold oV;dsimp only;rw[D,ab,zB n ah (by have:=hn.2.1;omega),ab];by_cases b:¬Valid l\/gm n=false
 .have g:bI l n=([],1):=by unfold bI;rw[aQ b]
  rw[g];have:ak (nt<|nt e) (aa<|nt<|gm n) (aa true)=aa true:=by
   rcases b with h|h
   .rw[show e=false by
     cases e with
     | false=>rfl
     | true=>exact absurd (B.1 rfl) h]
    rfl
   .rw[h];cases nt _<;>rfl
  rw[this,ab,ai]
 .have hv:Valid l:=by
   grind
  have C:gm n=true:=by
   grind
  obtain rfl:=B.2 hv;rw[C];have:ak (nt<|nt true) (aa<|nt true) (aa true)=aa false:=rfl;rw[this,ab,xI _ ah,ab];obtain⟨p,E,F⟩:∃p,ak (nt<|bg (bd n.1).1 []) (ae (iy (l,(bd n.1).1,())) λy=>aa (aL y.1 0)) (aa false)=aa p/\(p=true↔((bd n.1).1≠[]/\∀x∈l,x.1≠(bd n.1).1)):=by
   by_cases q:(bd n.1).1=[]
   .refine⟨false,by rw[q];rfl,λh=>(by cases h),λh=>absurd q h.1⟩
   .rw[aY q,aE,ai];rcases Di l (bd n.1).1 f with ⟨i,x,o,c,h⟩|⟨j,h⟩
    .refine⟨false,by rw[h,ab,aB ah],λh=>(by cases h),λh=>absurd c (h.2 x<|eG o)⟩
    .exact⟨true,by rw[h];rfl,λ_=>⟨q,j⟩,λ_=>rfl⟩
  rw[E,ab];by_cases s:(bd n.1).1≠[]/\∀x∈l,x.1≠(bd n.1).1
  .have g:bI l n=([],3):=by unfold bI;rw[aK b,aQ s]
   rw[F.2 s,g];rfl
  .have:p=false:=by
    grind
   rw[this];obtain⟨d,G,M,H⟩:=Oe l (bd n.1).1 f;rw[G,ab];by_cases t:(bd n.1).1≠[]/\∀x∈l,x.1=(bd n.1).1->x.2.1≠2
   .have g:bI l n=([],12):=by unfold bI;rw[aK b,aK s,aQ t]
    have:d=false:=by
     grind
    rw[this,g];rfl
   .have:d=true:=by
     cases d with
     | true=>rfl
     | false=>exact absurd (H hv.ord rfl) t
    rw[this];have g:bI l n=(let r:=if(∃x∈l,x.1=n.1/\x.2.1=2)/\n.2.1=2 then l.filter (λx=>!decide (x.1=n.1)) else qR l n.1
      if 64<=r.length then([],5) else(wq r n,0)):=by
     unfold bI;rw[aK b,aK s,aK t]
    rcases Di l n.1 f with ⟨i,x,o,c,h⟩|⟨j,h⟩
    .have hi:=av o;have k:=eG o;rw[h,ab];rw[bA ah,ai,ao o,ab,ab];by_cases a:x.2.1=2/\n.2.1=2
     .obtain⟨I,N⟩:=W1 hv.ord o c;rw[aQ<|show((∃x∈l,x.1=n.1/\x.2.1=2)/\n.2.1=2) from⟨⟨x,k,c,a.1⟩,a.2⟩] at g;have J:inside 0 i (len l)=true:=jC (pq _) ah;rw[au a.1,au a.2,J,gl,aC ah,(aM ah dR<|uh _),jB l _ ah];rw[(aJ cR),(aJ<|by rw[ib,Mj,dw,rV];omega)];refine U9 (Dm l (l.take i++l.drop _) n (by rw[<-I];apply f.filter) m) ?_
      grind
     .have hs:ak (aD x.2.1 2) (aD n.2.1 2) false=false:=by
       unfold aD;by_cases u:x.2.1=2
       .rw[cW u];exact cf λv=>a ⟨u,v⟩
       .rw[cf u,ag]
      rw[aK (show ¬((∃x∈l,x.1=n.1/\x.2.1=2)/\n.2.1=2) from λh=>by
       obtain⟨⟨y,w,z,A⟩,v⟩:=h;have:=hv.ord.uniq k w (by rw[c,z]);subst this;exact a ⟨A,v⟩)] at g
      rw[hs,Dk l n.1 true f ah,Qo];refine U9 (Dm l _ n (f.filter _) m) ?_
      grind
    .have K:¬((∃x∈l,x.1=n.1/\x.2.1=2)/\n.2.1=2):=λ⟨⟨y,w,z,_⟩,_⟩=>j y w z;rw[ ZB hv (abf C) j] at g;rw[h];refine U9 (Dm l l n f m) ?_
     grind
def abg:Nd:=([],0,0,[],[],())
def findF(l:List Nd)(p:bb):Nd×Bool×aj:=match l.find? λx=>decide (x.1=p) with
 | some x=>(x,true,())
 | none=>(abg,false,())
def F6{l p}(h:∀x∈l,x.1≠p):findF l p=(abg,false,()):=by
 unfold findF;rw[UJ.2 λx a=>by simp[h x a]]
def BI{l}(c:Ord l){p x}(b:x∈l)(e:x.1=p):findF l p=(x,true,()):=by
 unfold findF;cases h:l.find? λx=>decide (x.1=p) with
 | none=>have:=UJ.1 h x b;simp[e] at this
 | some y =>
   have a:=aat h;have a:y.1=p:=by simpa using a
   have:=c.uniq b (UM h) (by rw[e,a]);subst this;rfl
def ac6 l p (c:wX l) (f:p.length<=4096) (hv:Valid l):zm (l,p,())=aa (findF l p):=by
 obtain⟨e,g,h⟩:=mU l c;obtain rfl:=h.2 hv;obtain⟨k,b,i,m,n,j⟩:=Ea l p c f;have a:=j hv.ord;unfold zm;rw[g,ab];rw[show nt _=false by rfl,ag,i,ab];cases b with
 | false=>rw[ F6 (a.no rfl)];rfl
 | true =>
   obtain⟨x,d,e⟩:=a.is rfl;rw[aW,ag,ao d,ab,BI hv.ord (eG d) e]
def aiA:List Nd->Bool
 | a::b::r=>decide (cmpL (key a) (key b)<0)&&aiA (b::r)
 | _=>true
def agk:∀{l},aiA l=true->Ord l:=by
 intro l h;refine Og ?_;induction l with
 | nil=>intro k x y c;simp at c
 | cons a r e =>
   cases r with
   | nil=>intro k x y c d;simp at d
   | cons b r =>
     simp only[aiA,gO,A6] at h;intro k x y c d;cases k with
     | zero =>
       obtain rfl:a=x:=by simpa using c
       obtain rfl:b=y:=by simpa using d
       exact h.1
     | succ k=>exact e h.2 k x y c d
def Oj(l:List Nd):Bool:=decide (l.length<=64)&&aiA l&&l.all gm&&l.all λx=>decide ((bd x.1).1=[])||l.any λy=>decide (y.1=(bd x.1).1)&&decide (y.2.1=2)
def BJ{l}(h:Oj l=true):Valid l:=by
 unfold Oj at h;simp only[gO,A6] at h;refine⟨h.1.1.1,agk h.1.1.2,λx a=>w8.1 h.1.2 x a,λx a=>?_⟩;have:=w8.1 h.2 x a;simp only[Mk,A6,JP,gO] at this;exact this
def nD:Nd:=([100],2,493,[],[],())
def nA:Nd:=([100,47,97],1,420,[120],[],())
def ZC:Oj []=true/\Oj [nD]=true/\Oj [nD,nA]=true:=by decide +kernel
set_option synthInstance.maxHeartbeats 200000 in
set_option synthInstance.maxSize 4000 in
instance ao2:DecidableEq Nd:=inferInstance
def RL a r n:wq (a::r) n=if cmp a n.1<0 then a::wq r n else n::a::r:=by
 unfold wq;by_cases h:cmp a n.1<0
 .rw[aQ h];simp[h]
 .rw[aK h];simp[h]
def wu{r n x}:x∈wq r n↔x=n\/x∈r:=by
 induction r with
 | nil=>simp[wq]
 | cons a r b =>
   rw[RL];split
   .rw[fA,b,fA];constructor
    .rintro(h|h|h)
     .exact .inr (.inl h)
     .exact .inl h
     .exact .inr (.inr h)
    .rintro(h|h|h)
     .exact .inr (.inl h)
     .exact .inl h
     .exact .inr (.inr h)
   .rw[fA]
def agl r n:(wq r n).length=r.length+1:=by
 unfold wq;rw[iU,iV,<-Fo,<-iU,Cm]
def AT{l}:Ord l↔l.Pairwise λx y=>cmpL (key x) (key y)<0:=by
 constructor
 .intro h;rw[Ss];intro i j b c a;exact h i j _ _ a (ft b) (ft c)
 .intro h i j x y a d e;rw[Ss] at h;obtain⟨f,g⟩:=iQ.1 d;obtain⟨k,m⟩:=iQ.1 e;rw[<-g,<-m];exact h i j f k a
def agm{r n}(c:Ord r)(d:∀x∈r,x.1≠n.1):Ord (wq r n):=by
 rw[AT] at c⊢;induction r with
 | nil=>simp[wq]
 | cons a r g =>
   rw[Gq] at c;rw[RL];split
   .rename_i h;refine Gq.2 ⟨λy b=>?_,g c.2 λx i=>d x (by simp[i])⟩;rcases wu.1 b with rfl|b
    .exact h
    .exact c.1 y b
   .rename_i h;have f:cmpL (key n) (key a)<0:=by
     have j:cmp a n.1≠0:=λe=>d a aT (WX e);have k:cmpL _ (key a)=- cmpL _ (key n):=NT _ _;have l:cmp a n.1=cmpL (key a) (key n):=rfl;omega
    refine Gq.2 ⟨λy b=>?_,Gq.2 c⟩;rcases fA.1 b with rfl|b
    .exact f
    .exact mT f (c.1 y b)
def Ol{x y:Nd}{p}(b:(bd x.1).1≠[])(e:y.1=(bd x.1).1)(h:ek (parts y.1) (parts p)=true):ek (parts x.1) (parts p)=true:=by
 have a:=yI b;rw[<-e] at a;obtain⟨d,c⟩:=fy h;refine cW ⟨?_,?_⟩
 .rw[a,iU];omega
 .rw[a,ad9 ah,c]
def F7{x:Nd}(b:(bd x.1).1≠[]):ek (parts x.1) (parts (bd x.1).1)=true:=by
 have a:=yI b;refine cW ⟨?_,?_⟩
 .rw[a];simp
 .rw[a];simp
def L6(l:List Nd)(n:Nd)(r:List Nd):Prop :=
 (((∃x∈l,x.1=n.1/\x.2.1=2)/\n.2.1=2)/\r=l.filter λx=>!decide (x.1=n.1))\/((¬((∃x∈l,x.1=n.1/\x.2.1=2)/\n.2.1=2))/\r=qR l n.1)
def Om l n:((bI l n).1=[]/\(bI l n).2≠0) \/
  (Valid l/\gm n=true/\((bd n.1).1=[]\/∃x∈l,x.1=(bd n.1).1/\x.2.1=2)/\∃r,L6 l n r/\r.length<64/\bI l n=(wq r n,0)):=by
 unfold bI;by_cases b:¬Valid l\/gm n=false
 .rw[aQ b];exact .inl ⟨rfl,aF⟩
 .rw[aK b];by_cases c:(bd n.1).1≠[]/\∀x∈l,x.1≠(bd n.1).1
  .rw[aQ c];exact .inl ⟨rfl,aF⟩
  .rw[aK c];by_cases f:(bd n.1).1≠[]/\∀x∈l,x.1=(bd n.1).1->x.2.1≠2
   .rw[aQ f];exact .inl ⟨rfl,aF⟩
   .rw[aK f];have hv:=Cn λh=>b (.inl h);have g:gm n=true:=by
     cases h:gm n with
     | true=>rfl
     | false=>exact absurd (.inr h) b
    have i:(bd n.1).1=[]\/∃x∈l,x.1=(bd n.1).1/\x.2.1=2:=by
     by_cases j:(bd n.1).1=[]
     .exact .inl j
     .right;refine Cn λh=>f ⟨j,λx k e c=>h ⟨x,k,e,c⟩⟩
    by_cases d:(∃x∈l,x.1=n.1/\x.2.1=2)/\n.2.1=2
    .simp only[aQ d];by_cases a:64<=(l.filter λx=>!decide (x.1=n.1)).length
     .rw[aQ a];exact .inl ⟨rfl,aF⟩
     .rw[aK a];exact .inr ⟨hv,g,i,_,.inl ⟨d,rfl⟩,ah,rfl⟩
    .simp only[aK d];by_cases a:64<=(qR l n.1).length
     .rw[aQ a];exact .inl ⟨rfl,aF⟩
     .rw[aK a];exact .inr ⟨hv,g,i,_,.inr ⟨d,rfl⟩,ah,rfl⟩
def L6.sub{l r n}(h:L6 l n r):(∀x∈r,x∈l/\x.1≠n.1)/\∃P,r=l.filter P:=by
 rcases h with ⟨_,rfl⟩|⟨_,rfl⟩
 .refine⟨λx a=>?_,_,rfl⟩;have:=Aj.1 a;simpa using this
 .refine⟨λx a=>?_,_,rfl⟩;have:=Aj.1 a;unfold gone at this;simp at this;exact⟨this.1,this.2.1⟩
def RM{l r n}(k:Valid l)(p:gm n=true)(q:(bd n.1).1=[]\/∃x∈l,x.1=(bd n.1).1/\x.2.1=2)(j:L6 l n r)(s:r.length<64):Valid (wq r n):=by
 obtain⟨c,P,t⟩:=j.sub;refine⟨by rw[agl];omega,agm (by rw[t];exact k.ord.filter P) λx hx=>(c x hx).2,λx hx=>?_,λx hx=>?_⟩
 .rcases wu.1 hx with rfl|hx
  .exact p
  .exact k.may x (c x hx).1
 .rcases wu.1 hx with rfl|hx
  ·
   rcases q with h|⟨y,g,b,d⟩
   .exact .inl h
   .by_cases f:(bd x.1).1=[]
    .exact .inl f
    .right;refine⟨y,wu.2 (.inr ?_),b,d⟩;have a:=F7 f;rw[<-b] at a;have hlen:(parts y.1).length<(parts x.1).length:=by
      exact(fy a).1
     have i:y.1≠x.1:=λe=>by rw[e] at hlen;omega
     have m:ek (parts y.1) (parts x.1)=false:=by
      exact cf λh=>ah
     rcases j with ⟨_,rfl⟩|⟨_,rfl⟩
     .exact Aj.2 ⟨g,by simp[i]⟩
     .exact Aj.2 ⟨g,by unfold gone;simp[i,m]⟩
  .rcases k.up x (c x hx).1 with h|⟨y,g,b,d⟩
   .exact .inl h
   .by_cases f:(bd x.1).1=[]
    .exact .inl f
    .right;have a:=F7 f;by_cases e:y.1=n.1
     .rcases j with ⟨u,rfl⟩|⟨_,rfl⟩
      .exact⟨n,wu.2 (.inl rfl),by rw[<-e,b],u.2⟩
      .have:=(Aj.1 hx).2;rw[<-b,e] at a;unfold gone at this;rw[a] at this;simp at this
     .refine⟨y,wu.2 (.inr ?_),b,d⟩;rcases j with ⟨_,rfl⟩|⟨_,rfl⟩
      .exact Aj.2 ⟨g,by simp[e]⟩
      .refine Aj.2 ⟨g,?_⟩;have yd:=(Aj.1 hx).2;unfold gone at yd⊢;cases o:ek _ _ with
       | false=>simp[e]
       | true =>
         rw[Ol f b o] at yd;simp at yd
def On(a:List bb):Prop:=∀x∈a,47∉x/\x≠[]
def gS(m:Int)(p:bb):Nd:=(p,(2:Int),m,([]:bb),([]:bb),())
def eW(a:List bb)(j:Nat):bb:=aS (a.take<|j+1)
def ua(a:List bb)(k:Nat):List Nd:=(List.range k).map λj=>gS 0 (eW a j)
def W3 a k:ua a (k+1)=ua a k++[gS 0<|eW a k]:=by
 unfold ua;rw[List.range_succ,List.map_append];rfl
def yJ a k:(ua a k).length=k:=by unfold ua;rw[zK,Sy]
def sg{ns}(h:On ns){i x}(b:ns[i]?=aa x):sB (aS<|ns.take i) x=eW ns i:=by
 have c:ns.take (i+1)=ns.take i++[x]:=by rw[xX,b];rfl
 have:=N4 [x] _ (λy a=>by
  rw[<-c] at a;exact h y (Ex a))
 unfold eW
 grind
def Dp:∀a k,(aS<|a.take k).length<=(aS a).length:=by
 intro a;induction a with
 | nil=>simp
 | cons x r b =>
   intro k;cases k with
   | zero=>simp[aS]
   | succ k =>
     rw[aap];cases r with
     | nil=>simp
     | cons y r =>
       cases k with
       | zero=>simp[aS]
       | succ k =>
         have:=b (k+1);rw[aap] at this⊢;simp only[aS,iU,iV] at this⊢;omega
def E8:∀c x,x∈c->x.length<=(aS c).length:=by
 intro c;induction c with
 | nil=>intro x d;cases d
 | cons a r e =>
   intro x d;cases r with
   | nil =>
     rw[Ey] at d;subst d;simp[aS]
   | cons b r =>
     simp only[aS]
     grind
def Ko(a:List bb):Prop:=On a/\a.length<=16/\(aS a).length<=200
def Ko.ub{ns}(h:Ko ns) k:(aS<|ns.take k).length<=200:=fB (Dp ns k) h.2.2
def Ko.L7{ns}(h:Ko ns){x}(a:x∈ns):x.length<=200:=fB (E8 ns x a) h.2.2
def Ko.take{ns}(h:Ko ns) k:Ko (ns.take k):=⟨λx a=>h.1 x (Ex a),by rw[dw];have:=h.2.1;omega,h.ub k⟩
def Kp a (h:Ko a):Loop (ir (a,())) (((),([]:bb),0,()),([]:List Nd),()) =
  aa (((),aS a,(a.length:Int),()),ua a a.length,()):=by
 obtain⟨t,l,m,_⟩:=qe (f:=ir (a,())) a (λs i=>(((),s.1,i,()),s.2,())) (λs i x=>(sB s.1 x,s.2++[gS 0 _])) _
  (λs i=>s.1=aS (a.take i)/\s.2=ua a i) (by have:=h.2.1;omega) (λs i x d e b c=>by
   have g:=h.L7 (eG d);have j:=h.ub i;have hlen:=yJ a i;have k:=h.2.1;constructor
   .unfold ir;rw[al e,ao d,ab,Je _ _ (by rw[c.1];omega) ah,ab,aJ (by rw[c.2];simp;omega),b];rfl
   .dsimp only;rw[c.1,c.2,sg h.1 d,W3];exact⟨rfl,rfl⟩) (λs _=>by
   unfold ir;rw[aq];rfl) ([],[]) ⟨by simp[aS],rfl⟩
 grind
def preB(a:List bb)(k:Nat):Bool:=(List.range k).all λj=>gm (gS 0<|eW a j)
def Oo{ns}(h:On ns){j}(c:j<ns.length):(bd<|eW ns j).1=aS (ns.take j):=by
 have a:ns.take (j+1)≠[]:=by
  intro e;simp_all
 unfold eW;rw[De (λx b=>h x (Ex b)) a];rw[UR]
 grind
def yK{ns}(h:On ns) j:parts (eW ns j)=ns.take (j+1):=kM _ λx a=>h x (Ex a)
def uY{ns}(h:On ns):aS ns=[]↔ns=[]:=by
 constructor
 .intro e;have:=kM ns h;rw[e] at this;exact this.symm
 .rintro rfl;rfl
def ZD{ns}(h:Ko ns)(g:ns≠[]){n}(p:n.1=aS ns) :
  Valid (ua ns (ns.length-1)++[n])↔(preB ns (ns.length-1)=true/\gm n=true):=by
 have a:∀j x,(ua ns (ns.length-1)++[n])[j]?=aa x->x.1=eW ns j/\j<ns.length/\(j<ns.length-1->x=gS 0 (eW ns j)):=by
  intro j x hx;rw[Sw,yJ] at hx;by_cases b:j<ns.length-1
  .rw[aQ b] at hx;unfold ua at hx;rw[KI,Ps b] at hx;obtain rfl:=aI hx;exact⟨rfl,ah,λ_=>rfl⟩
  .rw[aK b] at hx;have:j-(ns.length-1)=0:=by
    grind
   unfold eW
   grind
 constructor
 .intro d;refine⟨?_,d.may n aT⟩;unfold preB;rw[w8];intro j b;refine d.may _ (Ew _ ?_);unfold ua
  grind
 .rintro⟨k,q⟩;unfold preB at k;refine⟨?_,?_,?_,?_⟩
  .rw[iU,yJ];have:=h.2.1
   grind
  .intro i j x y l hx m;obtain⟨c,f,_⟩:=a i x hx;obtain⟨o,r,_⟩:=a j y m;unfold key;rw[c,o,yK h.1,yK h.1];have e:ns.take (j+1)=ns.take (i+1)++(ns.take<|j+1).drop (i+1):=by
    have:=(Gp (i+1)<|ns.take<|j+1).symm
    grind
   rw[e,Wl]
   .decide
   .grind
  .intro x hx;rcases Pv.1 hx with hx|hx
   .obtain⟨j,b,rfl⟩:=Mo.1 hx
    grind
   .grind
  .intro x hx;obtain⟨j,b⟩:=bc.1 hx;obtain⟨c,f,_⟩:=a j x b;rw[c,Oo h.1 f];cases j with
   | zero=>left;rfl
   | succ j =>
     right;refine⟨gS 0<|eW ns j,Ew _ ?_,rfl,rfl⟩
     grind
def Oq{ns}(h:Ko ns)(a:ns≠[]){n}(c:n.1=aS ns)(i:Sm n) :
  eA (n,())=aa (preB ns (ns.length-1)&&gm n,()):=by
 have d:bd n.1=(aS ns.dropLast,ns.getLast a):=by rw[c];exact De h.1 a
 have k:=h.ub (ns.length-1);have b:Ko (ns.take<|ns.length-1):=h.take _;have f:ua (ns.take<|ns.length-1) (ns.take<|ns.length-1).length=ua ns (ns.length-1):=by
  rw[dw,xY ah];apply aan;unfold eW
  grind
 unfold eA;rw[sf n.1 (by have:=i.1;omega),ab,d];dsimp only;rw[UR,sz _ ah,ab,(kM _ b.1),Kp _ b,ab,f];rw[aY<|by rw[c];exact λe=>a ((uY h.1).1 e),aE,ai,aJ (by rw[yJ];have:=h.2.1;simp;omega),ai];have g:wX (ua ns (ns.length-1)++[n]):=⟨by rw[iU,yJ];have:=h.2.1;simp;omega,λx hx=>by
  rcases Pv.1 hx with hx|hx
  .obtain⟨j,o,rfl⟩:=Mo.1 hx;exact⟨h.ub _,by simp[gS],by simp[gS]⟩
  .rw[Ey] at hx;subst hx;exact i⟩
 obtain⟨e,l,m⟩:=mU _ g;rw[ib,l,ab];rw[show aD e 0=_ by
  rw[Pu,gO,<-(ZD h a c),<-m];unfold aD;simp]
def aiB{n}(h:gm n=true):gm (gS 0 n.1)=true:=by
 unfold gm at h⊢;simp at h⊢;exact⟨⟨⟨h.1.1.1,by simp[gS]⟩,by simp[gS]⟩,by simp[RH,gS]⟩
def Ad{ns}(h:Ko ns):lZ (aS ns,())=aa (preB ns ns.length&&decide (ns≠[]),()):=by
 have c:=h.ub ns.length;rw[zJ] at c;unfold lZ;dsimp only;rw[iG _ ah,ab,(kM _ h.1)];have key:∀d k,k+d=ns.length->(∀j,j<k->gm (gS 0<|eW ns j)=true) ->
   ∃r,Loop (gZ (ns,())) ((false,aS<|ns.take k,(k:Int),()),())=aa r/\((r.1=0/\preB ns ns.length=true)\/(r.1=1/\r.2.1.1=false/\preB ns ns.length=false)):=by
  intro d;induction d with
  | zero =>
    intro k n a;obtain rfl:k=ns.length:=ah;refine⟨(0,(false,aS<|ns.take ns.length,ns.length,()),()),?_,.inl ⟨rfl,?_⟩⟩
    .rw[aN];unfold gZ;rw[aq];rfl
    .unfold preB
     grind
  | succ d o =>
    intro k n a;have hx:ns[k]?=aa ns[k]:=ft ah;have p:=h.L7 (aer<|show k<ns.length by omega);have q:=h.ub k;have i:=h.ub (k+1);have s:=h.2.1;have step:gZ (ns,()) ((false,aS<|ns.take k,k,()),())=aa (if gm (gS 0<|eW ns k)=true then .inl ((false,eW ns k,((k+1):Int),()),()) else .inr (1,(false,eW ns k,k,()),())):=by
     unfold gZ;dsimp only;have b:=zB (gS 0<|eW ns k) (by show(eW ns k).length<=4096;unfold eW;omega) (by simp[gS]);unfold gS at b;rw[al ah,ao hx,ab,BF _ _ ah ah,ab,sg h.1 hx,b,aC ah];unfold gS;cases gm _<;>rfl
    by_cases b:gm (gS 0<|eW ns k)=true
    .rw[aQ b] at step;obtain⟨r,l,e⟩:=o (k+1) ah (λj t=>by
      by_cases u:j=k
      .grind
      .exact a j ah)
     exact⟨r,by rw[aN,step];exact l,e⟩
    .rw[aK b] at step;refine⟨_,by rw[aN,step];rfl,.inr ⟨rfl,rfl,?_⟩⟩;unfold preB
     grind
 obtain⟨r,l,e⟩:=key ns.length 0 ah (λj t=>ah);have f:Loop (gZ (ns,())) ((false,([]),0,()),())=aa r:=by
  have:aS (ns.take 0)=[]:=by simp[aS]
  grind
 rw[f,ab];rcases e with ⟨g,m⟩|⟨g,m,v⟩
 .rw[g,show cm 0 0=true from rfl,ai];unfold nt bg;have:=uY h.1
  grind
 .rw[g,m,v];rfl
def wv(a:List bb):Bool:=preB a a.length&&decide (a≠[])
def Ub{ns}(a:ns≠[]):preB ns ns.length=(preB ns (ns.length-1)&&gm (gS 0<|aS ns)):=by
 unfold preB;have:eW ns (ns.length-1)=aS ns:=by unfold eW;rw[KE ah]
 grind
def ac7{ns}(a:ns≠[]){n}(c:n.1=aS ns):(preB ns (ns.length-1)&&gm n)=(gm n&&wv ns):=by
 unfold wv;rw[Ub a];cases b:gm n with
 | false=>simp
 | true =>
   have:=aiB b
   grind
def ZE{n:Nd}(b:n.1=[]):eA (n,())=aa (false,()):=by
 unfold eA;have a:bd ([])=([],[]):=aF;rw[b,sf _ aT,ab,a];rw[sz _ aT,ab,show parts []=[] from rfl];have:=Kp [] ⟨λx c=>(by cases c),aT,(by simp[aS])⟩;rw[this];rfl
def RN{ns}(h:Ko ns):np (aS ns,())=aa (decide (ns=[])||wv ns,()):=by
 unfold np;by_cases a:ns=[]
 .subst a;rfl
 .have b:=λe=>a ((uY h.1).1 e);have hs:Sm (gS 0 _):=⟨h.2.2,by simp[gS],by simp[gS]⟩;have:=Oq h a rfl hs;unfold gS at this;rw[aY b,this,cf a];unfold wv;rw[Ub a,cW a,aeC];rfl
def mV(p:Pt)(a:bb):Nd:=(a,p.1.2.1,p.1.2.2.1,p.2.1,p.1.2.2.2.2.2.2.2.1,())
def wP(p:Pt):Bool:=decide (p.1.2.1=1)&&decide (p.2.1=[])
def yL(a:List bb):List bb:=a.dropLast++[(oB<|a.getLastD []).2]
def bW(p:Pt):Int×List bb×Bool :=
 if oA p.1.1=true then
  let a:=names p.1.1
  if(oB<|a.getLastD []).1=1 then(1,yL a,wP p&&wv (yL a))
  else if(oB<|a.getLastD []).1=2 then(2,a.dropLast,wP p&&(decide (a.dropLast=[])||wv a.dropLast))
  else if(oB<|a.getLastD []).1=0 then(0,a,(decide (a=[])&&decide (p.1.2.1=2))||(gm (mV p<|aS a)&&wv a))
  else(0,[],false)
 else(0,[],false)
def Dq{s}(h:oA s=true):Ko (names s):=by
 obtain⟨b,c,d⟩:=sC h;exact⟨λx a=>⟨(xS s x a).1,(xS s x a).2.1⟩,ah,ah⟩
def F8{s}(h:oA s=true):((names s).getLastD []).length<=96:=by
 obtain⟨b,c,d⟩:=sC h;cases hn:names s with
 | nil=>simp
 | cons a r =>
   have:(a::r).getLastD []∈names s:=by
    grind
   have:=E8 _ _ this;omega
def zC{ns}(h:On ns):bd (aS ns)=(aS ns.dropLast,ns.getLastD []):=by
 by_cases a:ns=[]
 .subst a;decide
 .rw[De h a]
  grind
def Ot{n}(h:(oB n).1=1):(oB n).2=n.drop 4/\n.drop 4≠[]:=by
 unfold oB at h⊢
 grind
def Ou n:(oB n).1=0\/(oB n).1=1\/(oB n).1=2\/(oB n).1=3:=by
 unfold oB
 grind
def agn d n:(sB d n).length<=d.length+n.length+1:=by
 unfold sB
 grind
def Jk{s}(h:oA s=true)(g:(oB<|(names s).getLastD []).1=1):sB (aS (names s).dropLast) (oB<|(names s).getLastD []).2=aS (yL<|names s)/\Ko (yL<|names s):=by
 have a:=Dq h;obtain⟨e,d⟩:=Ot g;have b:(names s).getLastD []∈names s:=by
  grind
 have c:On (yL<|names s):=λx hx=>by
  rcases Pv.1 hx with hx|hx
  .exact a.1 x (by rw[UR] at hx;exact Ex hx)
  .rw[Ey] at hx;subst hx;rw[e];exact⟨λq=>(a.1 _ b).1 (QM q),d⟩
 have f:sB _ (oB _).2=aS (yL<|names s):=N4 [_] _ c;refine⟨f,c,?_,?_⟩
 .unfold yL;have:=a.2.1
  grind
 .rw[<-f];have i:=agn (aS (names s).dropLast) (oB<|(names s).getLastD []).2;have j:=F8 h;have k:(aS (names s).dropLast).length<=96:=by
   rw[UR];have:=Dp (names s) ((names s).length-1);have:=(sC h).2.2;omega
  grind
def Eb{ns}(h:Ko ns):Ko ns.dropLast:=by
 rw[UR];apply h.take
def SmP(p:Pt):Prop:=p.1.1.length<=300/\p.1.2.2.2.2.2.2.2.1.length<=300/\p.2.1.length<=8192
def Dr p (h:SmP p):pK (p,())=aa ((bW p).1,aS (bW p).2.1,(bW p).2.2,()):=by
 unfold pK;rw[T2 p.1.1 (by have:=h.1;omega),ab];unfold bW;cases c:oA p.1.1 with
 | false =>
   have:mi p.1.1=([],2):=by unfold mi;rw[c];rfl
   rw[this];rfl
 | true =>
   have f:mi p.1.1=(aS<|names p.1.1,0):=by unfold mi;rw[c];rfl
   have a:=Dq c;have k:=(sC c).2.2;rw[f];dsimp only;rw[ xI _ ah,ab,zC a.1];dsimp only;rw[Ki,ab];have i:∀A,(ak (ak (aD p.1.2.1 1) (bg p.2.1 []) false) A<|some false)=if wP p=true then A else aa false:=λA=>by
    unfold wP aD bg;by_cases d:p.1.2.1=1
    .by_cases n:p.2.1=[]
     .simp[ ak]
     .simp[ ak]
    .simp[ ak]
   have j:=F8 c;rcases Ou _ with b|b|b|b
   .rw[b];unfold tl;rw[ab];rw[show mu ((aS _,_),())=_ from(zB (mV p _) (by show(aS _).length<=4096;omega) (by show p.1.2.2.2.2.2.2.2.1.length<=4096;have:=h.2.1;omega)),Ad a];have g:ak (bg (aS<|names p.1.1) []) (aD p.1.2.1 2) false=(decide (names p.1.1=[])&&decide (p.1.2.1=2)):=by
     have:=uY a.1;unfold bg aD;by_cases d:names p.1.1=[]
     .rw[cW d,cW (this.2 d)];simp[ak]
     .rw[cf d,cf λe=>d (this.1 e)];rfl
    rw[g];cases decide (names p.1.1=[])&&decide (p.1.2.1=2) with
    | true=>rfl
    | false =>
      cases gm _<;>rfl
   .obtain⟨l,m⟩:=Jk c b;rw[b,BF _ _ (by have:=(Eb a).2.2;omega) (by rw[(Ot b).1,rV];omega),ab,l];rw[Ad m,i];cases wP p<;>rfl
   .rw[b];have hd:=Eb a;rw[Ad hd,i];have g:bg (aS (names p.1.1).dropLast) []=decide ((names p.1.1).dropLast=[]):=by
     have:=uY hd.1;unfold bg
     grind
    rw[g];cases wP p<;>cases decide ((names p.1.1).dropLast=[])<;>rfl
   .rw[b];rfl
set_option maxRecDepth 100000
end Go.Ge
namespace Go.Ge
variable [Lp]
set_option maxRecDepth 100000
def uc(i:Nat)(n:Nat)(x:UInt8):Option (Nat⊕(Nat×(Int×Bool×Int×Int×aj)×aj)) :=
 aa (if x.toNat<48\/55<x.toNat then .inr (1,(0,false,(n:Int),(i:Int),()),()) else .inl (8*n+(x.toNat-48)))
def Ds(i:Nat)(n:Nat):Nat×(Int×Bool×Int×Int×aj)×aj:=(0,(0,false,(n:Int),(i:Int),()),())
def Ov{i n b x}(c:i<=21/\n<8 ^ i)(d:i<21)(a:uc i n x=aa (.inl b)):i+1<=21/\b<8 ^ (i+1):=by
 have a:=aI a;split at a
 .cases a
 .obtain rfl:=U5 a;omega
def abh{i}(h:i<=20):8 ^ i<=1152921504606846976:=by
 have:8 ^ i<=8 ^ 20:=Nat.pow_le_pow_right aF h;omega
def E9 s (hs:s.length<=21):Loop (bP (s,())) ((0,false,0,0,()),())=wg uc Ds s 0 0:=by
 have key:=qO (f:=bP (s,())) s (λ(n:Nat) i=>((0,false,n,i,()),())) uc Ds (λi n=>i<=21/\n<8 ^ i)
  (λn i x c g d=>by
   have l:=abh (i:=i) ah;obtain⟨m,j⟩:=iQ.1 c;unfold bP uc;dsimp only;rw[mh,aH ah,aG ah ah,AL s g,j,ab,aC ah];by_cases a:x.toNat<48
   .rw[aH<|by unfold u8;omega,aQ (.inl a)];rfl
   .by_cases b:55<x.toNat
    .rw[aB<|by unfold u8;omega,aE,ai,aH (by unfold u8;omega),aQ (.inr b)];rfl
    .rw[aB<|by unfold u8;omega,aB (by unfold u8;omega),aK ah];have e:u8 x=((48+(x.toNat-48):Nat):Int):=by unfold u8;omega
     rw[e,anX ah ah];rfl)
  (λn i x o c d k=>Ov d (by have:=av c;omega) k)
  (λn d=>by
   unfold bP Ds;dsimp only;rw[mh,aB ah,ag])
  (λ_ _ _ _ _ h=>by cases h) 0 ⟨ah,aF⟩
 exact key
def Jl s (hs:s.length<=21):Loop (gI (s,())) ((0,false,0,0,()),())=wg uc Ds s 0 0:=by
 have key:=qO (f:=gI (s,())) s (λ(n:Nat) i=>((0,false,n,i,()),())) uc Ds (λi n=>i<=21/\n<8 ^ i)
  (λn i x c g d=>by
   have k:=abh (i:=i) ah;unfold gI uc;dsimp only;rw[al g,ai,ao c,ab,ab,ab,aC ah];by_cases a:x.toNat<48
   .rw[aH<|by unfold u8;omega,aW,ag,aQ (.inl a)];rfl
   .by_cases b:55<x.toNat
    .rw[aB<|by unfold u8;omega,aE,ai,ab,aH (by unfold u8;omega),aQ (.inr b)];rfl
    .rw[aB<|by unfold u8;omega,aE,ai,aB (by unfold u8;omega),aB ah,aK ah];have e:u8 x=((48+(x.toNat-48):Nat):Int):=by unfold u8;omega
     rw[e,ajA ⟨x.toNat-48,ah⟩,C5 ah ah,eV ah ah];rfl)
  (λn i x l c d j=>Ov d (by have:=av c;omega) j)
  (λn d=>by
   unfold gI Ds;rw[aq,ag])
  (λ_ _ _ _ _ h=>by cases h) 0 ⟨ah,aF⟩
 exact key
def Qp:∀r i n,∃q,wg uc Ds r i n=aa q/\(q.1=0\/q.1=1):=by
 intro r;induction r with
 | nil=>intro i n;exact⟨_,rfl,.inl rfl⟩
 | cons x r a =>
   intro i n;unfold wg uc;by_cases h:x.toNat<48\/55<x.toNat
   .rw[aQ h];exact⟨_,rfl,.inr rfl⟩
   .rw[aK h];apply a
def Dt s (hs:s.length<=1048576):dN (s,())=oe (s,())/\∃n b,dN (s,())=aa (n,b,()):=by
 unfold dN oe;dsimp only;by_cases e:s.length<1
 .rw[aH<|by rw[bz];omega];exact⟨rfl,_,_,rfl⟩
 .by_cases f:21<s.length
  .rw[aB<|by rw[bz];omega,aE,ai,aH (by rw[bz];omega)];exact⟨rfl,_,_,rfl⟩
  .rw[aB<|by rw[bz];omega,aB (by rw[bz];omega),ea (by rw[bz];omega),E9 s ah,Jl s ah];refine⟨rfl,?_⟩;obtain⟨q,a,d⟩:=Qp s 0 0;rw[a,ab];rcases d with c|c
   .rw[c];exact⟨_,_,rfl⟩
   .rw[c];exact⟨_,_,rfl⟩
end Go.Ge
namespace Go.Ge
variable [Lp]
def ago{g S R:Type}{f}(l:List g)(a:Nat->S)(p:g->Bool)(b:Nat->R) fin
  (h:∀i x,l[i]?=aa x->f (a i)=aa (if p x=true then .inr (b i) else .inl (a<|i+1))) (c:f (a l.length)=aa (.inr fin)) :
  ∀d i,i+d=l.length->(∃(j:Nat) (x:g),i<=j/\l[j]?=aa x/\p x=true/\(∀m y,i<=m->m<j->l[m]?=aa y->p y=false)/\Loop f (a i)=aa (b j)) \/
   ((∀m y,i<=m->l[m]?=aa y->p y=false)/\Loop f (a i)=aa fin):=by
 intro d;induction d with
 | zero =>
   intro i q;obtain rfl:i=l.length:=ah;refine .inr ⟨λm y e o=>?_,by rw[aN,c];rfl⟩
   grind
 | succ d r =>
   intro i q;have hx:l[i]?=aa l[i]:=ft ah;have hs:=h i _ hx;by_cases k:p l[i]=true
   .rw[aQ k] at hs;exact .inl ⟨i,_,b0 _,hx,k,λm y e s=>absurd e ah,by rw[aN,hs];rfl⟩
   .rw[aK k] at hs;rcases r (i+1) ah with ⟨j,x,t,n,u,z,v⟩|⟨t,n⟩
    .refine .inl ⟨j,x,ah,n,u,λm y e w o=>?_,by rw[aN,hs];exact v⟩
     grind
    .refine .inr ⟨λm y e o=>?_,by rw[aN,hs];exact n⟩
     grind
def W4 p s:∃z,s=dx p s++z/\∀x∈z,p x=true:=by
 refine⟨(s.reverse.takeWhile p).reverse,?_,λx a=>?_⟩
 .unfold dx;rw[<-List.reverse_append,Cm,List.reverse_reverse]
 .rw[List.mem_reverse] at a;exact Jc a
def W5{p s m x}(b:s[m]?=aa x)(c:p x=false):m<(dx p s).length/\∀j,j<=m->(dx p s)[j]?=s[j]?:=by
 obtain⟨z,d,a⟩:=W4 p s
 grind
def BK{p s j}(c:∀m y,j<=m->s[m]?=aa y->p y=true)(d:∀m y,m<j->s[m]?=aa y->p y=false):dx p s=s.take j:=by
 conv=>lhs;rw[((Gp j s).symm)]
 rw[Ru _ _ λx a=>by
  obtain⟨i,b⟩:=bc.1 a;rw[vM] at b;exact c _ x ah b]
 refine af6 λx a=>?_
 grind
def Ow(x:UInt8):Bool:=decide (48<=x.toNat/\x.toNat<=55)
def agp{x}(h:Ow x=true):Cq x=false:=by
 unfold Ow at h;cases a:Cq x with
 | false=>rfl
 | true =>
   rcases(WD x).1 a with e|e
   .simp_all
   .simp_all
def W6:∀r i n x,x∈r->Ow x=false->∃q,wg uc Ds r i n=aa q/\q.1=1/\q.2.1.2.1=false:=by
 intro r;induction r with
 | nil=>intro i n x hx;cases hx
 | cons a r c =>
   intro i n x hx b;unfold wg uc;by_cases h:a.toNat<48\/55<a.toNat
   .simp_all
   .rw[aK h];rcases fA.1 hx with e|hx
    .subst e;unfold Ow at b
     grind
    .exact c _ _ x hx b
def Qq{s}(c:s.length<=21){x}(a:x∈s)(d:Ow x=false):∃n,dN (s,())=aa (n,false,()):=by
 have b:=List.length_pos_of_mem a;unfold dN;dsimp only;rw[aB<|by rw[bz];omega,aE,ai,aB (by rw[bz];omega),ag,ea (by rw[bz];omega),ai,E9 s c];obtain⟨q,e,f,g⟩:=W6 s 0 0 x a d;rw[e,ab,f,hJ,ag,g]
 grind
def anZ x:cl 48 (u8 x)=decide (48<=x.toNat):=by unfold u8;apply gG.2;omega
def an0 x:cl (u8 x) 55=decide (x.toNat<=55):=by unfold u8;apply gG.2;omega
def sE s (hs:s.length<=21):fH (s,())=dD (s,()):=by
 unfold fH dD;rw[HK s ah,ab];have first:=ago (f:=oi (s,())) s (λi=>((i,()),())) (λx=>!Ow x) _ _ (λi x u=>by
  have hi:=av u;unfold oi;rw[al hi,ai,ao u,ab,ab,ab,anZ,an0,aC ah];unfold Ow;by_cases c:48<=x.toNat
  .by_cases a:x.toNat<=55
   .rw[cW c,cW a,cW ⟨c,a⟩];rfl
   .rw[cW c,cf a,cf λq=>a q.2];rfl
  .rw[cf c,cf λq:48<=x.toNat/\x.toNat<=55=>c q.1];rfl) (by
  unfold oi;rw[aq];rfl) s.length 0 ah
 rcases first with ⟨j,x,_,u,A,p,v⟩|⟨r,v⟩
 .rw[show Loop _ (((0:Int),()),())=_ from v,ab];have E:=av u;dsimp only;rw[ar<|by rw[bz];omega];have second:=ago (f:=oj (s,())) s (λi=>((0,i,()),())) (λx=>!Cq x) _ _ (λi y d=>by
   have hi:=av d;have B:aD _ 0=decide (y=0):=E4 (n:=0);have w:aD _ 32=decide (y=32):=E4 (n:=32);unfold oj;rw[al hi,ao d,ab,ab,B,w,aC ah];have g:=WD y;by_cases c:y=0
   .rw[cW c,g.2 (.inl c)];rfl
   .by_cases a:y=32
    .rw[cf c,cW a,g.2 (.inr a)];rfl
    .rw[cf c,cf a,show Cq y=false by
     cases C:Cq y with
     | false=>rfl
     | true=>rcases g.1 C with e|e
             .grind
             .exact absurd e a];rfl) (by
   unfold oj;rw[aq,ag]) (s.length-j) j ah
  rcases second with ⟨m,y,o,d,D,_,h⟩|⟨k,h⟩
  .rw[show Loop _ _=_ from h,ab];obtain⟨F,G⟩:=W5 d (by simpa using D);have t:x∈dx Cq s:=by
    grind
   have hlen:=qj Cq s;obtain⟨n,hn⟩:=Qq ah t (by simpa using A);rw[hn];rfl
  .rw[show Loop _ _=_ from h];have l:=BK (λm y o d=>by simpa using k m y o d) (λm y o d=>agp (by simpa using p m y (pq _) o d));have z:inside 0 j (len s)=true:=jC (pq _) ah;rw[z,gl,l];obtain⟨c,n,b,a⟩:=Dt (s.take j) (by rw[dw];omega);rw[<-c,a];rw[ar<|by rw[bz,bz,dw];omega];cases b<;>rfl
 .rw[show Loop _ (((0:Int),()),())=_ from v,ab,au (by rw[bz])];have l:dx Cq s=s:=by
   have:=BK (s:=s) (j:=s.length) (λm y o d=>by have:=av d;omega) (λm y o d=>agp (by simpa using r m y (pq _) d))
   grind
  rw[l];obtain⟨_,n,b,a⟩:=Dt s ah;rw[a];rw[au rfl];cases b<;>rfl
def Jm s (hs:s.length<=1000):∃t v,pM (s,())=aa (t,v,())/\kU (s,())=aa (dx dk s,v,())/\(v=true->t=dx dk s)/\t.length<=s.length:=by
 have w:∀y,aD _ 0=dk y:=λy=>rfl;rw[HM s ah];unfold pM;have inner:∀i,i<=s.length->_:=λi A=>ago (f:=hU (s,())) s (λk=>((([]),false,k,()),())) (λx=>!dk x) _ _ (λk y a=>by
  have E:=av a;unfold hU;rw[al E,ao a,ab,w,aC ah];cases dk y<;>rfl) (by
  unfold hU;rw[aq,ag]) (s.length-i) i ah
 have outer:(∃(i:Nat) (x:UInt8),s[i]?=aa x/\dk x=true/\(∀(m:Nat) (y:UInt8),m<i->s[m]?=aa y->dk y=false)/\Loop (dS (s,())) ((([]:bb),false,(0:Int),()),())=(ae (Loop (hU (s,())) ((([]:bb),false,(i:Int),()),())) λn=>aa (if n.1=0 then(1,(s.take i,true,(i:Int),()),()) else(1,(n.2.1.1,n.2.1.2.1,i,()),())))) \/
   ((∀(m:Nat) (y:UInt8),s[m]?=aa y->dk y=false)/\Loop (dS (s,())) ((([]:bb),false,0,()),())=aa (0,(([]:bb),false,(s.length:Int),()),())):=by
  have key:∀d i,i+d=s.length->(∀m y,m<i->s[m]?=aa y->dk y=false)->(∃(j:Nat) (x:UInt8),s[j]?=aa x/\dk x=true/\(∀m y,m<j->s[m]?=aa y->dk y=false)/\Loop (dS (s,())) ((([]:bb),false,(i:Int),()),())=(ae (Loop (hU (s,())) ((([]:bb),false,j,()),())) λn=>aa (if n.1=0 then(1,(s.take j,true,(j:Int),()),()) else(1,(n.2.1.1,n.2.1.2.1,j,()),())))) \/
   ((∀(m:Nat) y,s[m]?=aa y->dk y=false)/\Loop (dS (s,())) ((([]),false,(i:Int),()),())=aa (0,(([]),false,(s.length:Int),()),())):=by
   intro d;induction d with
   | zero =>
     intro i A o;obtain rfl:i=s.length:=ah;refine .inr ⟨λm y a=>o m y (av a) a,?_⟩;have u:dS (s,()) ((([]),false,(s.length:Int),()),())=aa (.inr (0,(([]),false,s.length,()),())):=by
      unfold dS;rw[aq,ag]
     rw[aN,u];rfl
   | succ d F =>
     intro i A o;have hx:s[i]?=aa s[i]:=ft ah;cases hn:dk s[i] with
     | true =>
       refine .inl ⟨i,s[i],hx,hn,o,?_⟩;have p:∃z,Loop (hU (s,())) ((([]),false,(i:Int),()),())=aa z/\(z.1=0\/z.1=1):=by
        grind
       obtain⟨z,u,G⟩:=p;have B:inside 0 i (len s)=true:=jC (pq _) ah;have r:dS (s,()) ((([]:bb),false,(i:Int),()),())=aa (.inr<|if z.1=0 then(1,(s.take i,true,i,()),()) else(1,(z.2.1.1,z.2.1.2.1,i,()),())):=by
        unfold dS;rw[al<|show i<s.length by omega,ai,ao hx,ab,w,hn,ai,u,ab];rcases G with c|c
        .rw[c,cV,ai,B,ai,gl,aQ rfl]
        .rw[c,hJ,ag,aK aF]
       rw[u,aN,r];rfl
     | false =>
       have r:dS (s,()) ((([]),false,i,()),())=aa (.inl ((([]),false,((i+1:Nat):Int),()),())):=by
        unfold dS;rw[al<|show i<s.length by omega,ai,ao hx,ab,w,hn,ag,aC ah]
       rw[aN,r];exact F _ ah (λm y b a=>by
        by_cases e:m=i
        .grind
        .exact o m y ah a)
  exact key s.length 0 ah (λm y b=>absurd b ah)
 rcases outer with ⟨i,x,hx,hn,o,C⟩|⟨l,C⟩
 .rw[C];have A:=av hx;rcases inner i ah with ⟨j,y,H,a,I,_,h⟩|⟨J,h⟩
  .rw[show Loop _ _=_ from h,ab,ab,aK (show ¬1=0 by decide),hJ,ag];obtain⟨L,K⟩:=W5 a (by simpa using I);have:¬AO _:=λq=>by
    have b:=bc.2 ⟨i,by rw[K i H,hx]⟩;exact q x b ((AN x).1 hn)
   grind
  .rw[show Loop _ _=_ from h,ab,aQ rfl];have g:=BK (λm y b a=>by simpa using J m y b a) (λm y b a=>o m y b a);refine⟨_,true,rfl,?_,λ_=>g.symm,by rw[dw];omega⟩;have:AO (dx dk s):=λy a=>by
    rw[g] at a;obtain⟨m,b⟩:=bc.1 a;have D:=av b;rw[dw] at D;rw[List.getElem?_take_of_lt ah] at b;intro e;have:=o m y ah b;rw[(AN y).2 e] at this;cases this
   grind
 .rw[C,ab,cV,ai];have g:dx dk s=s:=by
   have:=BK (j:=s.length) (λm y b a=>by have:=av a;omega) (λm y b a=>l m y a)
   grind
  have:AO (dx dk s):=λy a e=>by
   rw[g] at a;obtain⟨m,b⟩:=bc.1 a;have:=l m y b;rw[(AN y).2 e] at this;cases this
  grind
def vJ b (c:b.length=512) (a e:Nat) (h:a<=e) (d:e<=512):inside a e (len b)=true/\sub b a (minus e a)=gR b a (e-a):=by
 refine⟨jC h ah,?_⟩;unfold sub minus gR
 grind
def agq p q r (H c:Hd) (d:p=true->q=true->r=true->c=H) (e:c.1.length<=1048576) (f:c.2.2.2.2.2.2.2.1.length<=1048576) :
  ae (ak (nt<|ak (nt<|ak (nt<|nt p) (nt q) true) (nt r) true) (ae (wa (c,256,())) λa=>aa (nt a.1))<|some true) (λa=>ak a (aa (acY,(2:Int),())) (aa (c,0,()))) =
  ae (ak (nt<|ak (nt<|ak (nt<|nt p) (nt q) true) (nt r) true) (ae (sq (H,256,())) λb=>aa (nt b.1))<|some true) (λb=>ak b (aa (acY,2,())) (aa (H,0,()))):=by
 rw[aiw c 256 e f,WI,ab,ab];cases p with
 | false=>rfl
 | true =>
   cases q with
   | false=>rfl
   | true =>
     cases r with
     | false=>rfl
     | true=>rw[d rfl rfl rfl]
def take_same(b:bb)(a:b.length=512):pN (b,())=fv (b,()):=by
 obtain⟨N,o⟩:=e9 (gR b 148 8) (by have:=cU b 148 8;omega);have r6:=sE (gR b 148 8) (by have:=cU b 148 8;omega);obtain⟨q,r⟩:=vJ b a 257 265 ah ah;obtain⟨F,G⟩:=vJ b a 148 156 ah ah;have p:aD (len b) 512=true:=au (by simp only[len];omega);by_cases i:gR b 257 8=sD
 case neg =>
  rw[F5 b a i];unfold pN;rw[p,aW,aE,ai,show inside (257:Int) (265:Int) (len b)=true from q,ai,show sub b (257:Int) (minus (265:Int) (257:Int))=gR b 257 8 from r,show([117,115,116,97,114,0,48,48]:bb)=sD from rfl,show bg (gR b 257 8) sD=false from cf i,aE,ab,aW,ag,ab,ai];rfl
 by_cases hs:N=(Ca b 512:Int)
 case neg =>
  rw[WQ b a o hs];unfold pN;rw[p,aW,aE,ai,show inside (257:Int) (265:Int) (len b)=true from q,ai,show sub b (257:Int) (minus (265:Int) (257:Int))=gR b 257 8 from r,show([117,115,116,97,114,0,48,48]:bb)=sD from rfl,i,show bg sD sD=true from AB _,aW,ab,aE,ai,show inside (148:Int) (156:Int) (len b)=true from F,ai,show sub b (148:Int) (minus (156:Int) (148:Int))=gR b 148 8 from G,r6,o,ab,HR b ah,ab];rw[a,ar hs,aE,ab,ai];rfl
 obtain⟨n1,H⟩:=e9 (gR b 100 8) (by have:=cU b 100 8;omega);obtain⟨n2,I⟩:=e9 (gR b 108 8) (by have:=cU b 108 8;omega);obtain⟨n3,J⟩:=e9 (gR b 116 8) (by have:=cU b 116 8;omega);obtain⟨n4,K⟩:=e9 (gR b 124 12) (by have:=cU b 124 12;omega);obtain⟨n5,L⟩:=e9 (gR b 136 12) (by have:=cU b 136 12;omega);have r1:=(sE (gR b 100 8) (by have:=cU b 100 8;omega)).trans H;have r2:=(sE (gR b 108 8) (by have:=cU b 108 8;omega)).trans I;have O:=(sE (gR b 116 8) (by have:=cU b 116 8;omega)).trans J;have P:=(sE (gR b 124 12) (by have:=cU b 124 12;omega)).trans K;have Q:=(sE (gR b 136 12) (by have:=cU b 136 12;omega)).trans L;have m0:=cU b 0 100;have m8:=cU b 157 100;have m10:=cU b 345 155;obtain⟨h,R,s,t,u,S⟩:=Jm (gR b 0 100) ah;obtain⟨T,U,v,w,y,V⟩:=Jm (gR b 157 100) ah;obtain⟨d,z,j,k,l,M⟩:=Jm (gR b 345 155) ah;have l0:=qj dk (gR b 0 100);have l10:=qj dk (gR b 345 155);obtain⟨W,X⟩:=vJ b a 0 100 ah ah;obtain⟨i8,Y⟩:=vJ b a 157 257 ah ah;obtain⟨A,B⟩:=vJ b a 345 500 ah ah;obtain⟨Z,s1⟩:=vJ b a 100 108 ah ah;obtain⟨i2,s2⟩:=vJ b a 108 116 ah ah;obtain⟨i3,s3⟩:=vJ b a 116 124 ah ah;obtain⟨i4,s4⟩:=vJ b a 124 136 ah ah;obtain⟨i5,s5⟩:=vJ b a 136 148 ah ah;obtain⟨c,hk,f7⟩:∃c,b[156]?=aa c/\gR b 156 1=[c]:=by
  refine⟨b[156],ft ah,?_⟩;unfold gR;rw[Cv ah];rfl
 unfold fv;rw[p,aW,aE,ai,o9 b a,ab,ab,show([117,115,116,97,114,0,48,48])=sD from rfl];rw[i,show bg sD sD=true from AB _,aW,aE,ai,o6 b a,ab];rw[o,ab,Ji b ah,ab];rw[a,au hs,aW,ab,ag,o0 b a,ab];rw[t,ab,o8 b a,ab];rw[w,ab,o10 b a,ab];rw[k,ab];have m:(ak (nt<|bg (dx dk<|gR b 345 155) []) (ak (fits<|plus (len<|dx dk<|gR b 345 155)<|len ([47]:bb)) (ak (fits<|plus (len<|app (dx dk<|gR b 345 155) [47])<|len<|dx dk<|gR b 0 100)
   (aa ((app (app (dx dk<|gR b 345 155) [47])<|dx dk<|gR b 0 100,()),())) af) af)<|some ((dx dk<|gR b 0 100,()),()))=aa ((if dx dk (gR b 345 155)=[] then dx dk (gR b 0 100) else dx dk (gR b 345 155)++[47]++dx dk (gR b 0 100),()),()):=by
  by_cases e:dx dk (gR b 345 155)=[]
  .rw[aQ e,ch e,aW,ag]
  .rw[aK e,aY e,aE,ai,ea (by simp only[plus,len,iV,qv];omega),ai,ea (by simp only[plus,len,app,iU,iV,qv];omega),ai];rfl
 rw[m,ab,o1 b a,ab];rw[H,ab,o2 b a,ab];rw[I,ab,o3 b a,ab];rw[J,ab,o4 b a,ab];rw[K,ab,o5 b a,ab];rw[L,ab,o7 b a,ab,f7];unfold pN;rw[p,aW,aE,ai,show inside 257 265 _=true from q,ai,show sub b 257 (minus 265 257)=gR b 257 8 from r,show([117,115,116,97,114,0,48,48])=sD from rfl,i,show bg sD sD=true from AB _,aW,ab,aE,ai,show inside 148 156 _=true from F,ai,show sub b 148 (minus 156 148)=gR b 148 8 from G,r6,o,ab,HR b ah,ab];rw[a,au hs,ab];rw[show inside 0 100 _=true from W,show sub b 0 (minus 100 0)=gR b 0 100 from X,s,ab];rw[show inside 157 257 _=true from i8,show sub b 157 (minus 257 157)=gR b 157 100 from Y,v,ab];rw[show inside 345 500 _=true from A,show sub b 345 (minus 500 345)=gR b 345 155 from B,j,ab];rw[show inside 100 108 _=true from Z,show sub b 100 (minus 108 100)=gR b 100 8 from s1,r1,ab];rw[show inside 108 116 _=true from i2,show sub b 108 (minus 116 108)=gR b 108 8 from s2,r2,ab];rw[show inside 116 124 _=true from i3,show sub b 116 (minus 124 116)=gR b 116 8 from s3,O,ab];rw[show inside 124 136 _=true from i4,show sub b 124 (minus 136 124)=gR b 124 12 from s4,P,ab];rw[show inside 136 148 _=true from i5,show sub b 136 (minus 148 136)=gR b 136 12 from s5,Q,ab];have f:∀(x:Int×Int×Int×Int×Int×Int×bb×aj),(ak (nt<|bg d []) (ak (fits<|plus (len d)<|len ([47]:bb)) (ak (fits<|plus (len<|app d [47])<|len h)
   (aa ((),(app (app d [47]) h,x),())) af) af)<|some ((),_))=aa ((),(if d=[] then h else d++[47]++h,x),()):=λx=>by
  by_cases e:d=[]
  .rw[aQ e,ch e,aW,ag]
  .rw[aK e,aY e,ea (by simp only[plus,len,iV,qv];omega),ai,ea (by simp only[plus,len,app,iU,iV,qv];omega)];rfl
 rw[f,ab,show idx b 156=aa c from ao hk,ab];have C:bg [c] [48]=decide (c=48):=gG.2 aT;have c0:bg [c] [0]=decide (c=0):=gG.2 aT;have c53:bg [c] [53]=decide (c=53):=gG.2 aT;have D:bg [c] [50]=decide (c=50):=gG.2 aT;have d48:aD _ 48=decide (c=48):=E4 (n:=48);have d0:aD _ 0=decide (c=0):=E4 (n:=0);have d53:aD _ 53=decide (c=53):=E4 (n:=53);have d50:aD _ 50=decide (c=50):=E4 (n:=50);rw[C,c0,c53,D,d48,d0,d53,d50];have g:(if d=[] then h else d++[47]++h).length<=1048576:=by
  grind
 refine agq R U z _ _ (λa0 a8 E=>?_) ?_ ?_
 .rw[u a0,y a8,l E];all_goals cases decide _<;>cases decide (c=0)<;>cases decide (c=53)<;>cases decide (c=50)
 .cases decide (c=48)<;>cases decide (c=0)<;>cases decide (c=53)<;>cases decide (c=50)<;>exact g
 .have h8:T.length<=1048576:=ah;have hn:([]:bb).length<=1048576:=aT;cases decide (c=48)<;>cases decide (c=0)<;>cases decide (c=53)<;>cases decide (c=50)<;>first|exact hn|exact h8
abbrev Stp:=((bb×aj)⊕((bb×aj)⊕(aj⊕((Nd×aj)⊕aj))))
def abi(p:Pt)(w:Int×List bb×Bool):Stp :=
 if w.1=1 then .inl (aS w.2.1,()) else if w.1=2 then .inr (.inl (aS w.2.1,())) else if w.2.1=[] then .inr (.inr<|.inl ()) else .inr (.inr<|.inr<|.inl (mV p<|aS w.2.1,()))
def zD(p:Pt):Stp:=abi p (bW p)
def Ox p A:(ak (ak (aD p.1.2.1 1) (bg p.2.1 []) false) A<|some false)=if wP p=true then A else aa false:=by
 unfold wP aD bg;by_cases a:p.1.2.1=1
 .by_cases b:p.2.1=[]
  .simp[ ak]
  .simp[ ak]
 .simp[ ak]
def ac8 a:yL a≠[]:=by unfold yL;simp
def agr p (k:SmP p):∃s,tk (p,())=aa (s,(bW p).2.2,())/\((bW p).2.2=true->s=zD p):=by
 unfold tk;rw[Ry p.1.1 (by have:=k.1;omega),ab];unfold zD;cases c:oA p.1.1 with
 | false =>
   have:mi p.1.1=([],2):=by unfold mi;rw[c];rfl
   have f:bW p=(0,[],false):=by unfold bW;rw[c,aK aT]
   rw[this,f];exact⟨_,rfl,λh=>by cases h⟩
 | true =>
   have l:mi p.1.1=(aS<|names p.1.1,0):=by unfold mi;rw[c];rfl
   have d:=Dq c;have q:=(sC c).2.2;have o:=F8 c;rw[l];dsimp only;rw[ sf _ ah,ab,zC d.1];dsimp only;rw[WL,ab];rcases Ou _ with b|b|b|b
   .have f:bW p=(0,names p.1.1,(decide (names p.1.1=[])&&decide (p.1.2.1=2))||(gm (mV p<|aS<|names p.1.1)&&wv (names p.1.1))):=by
     unfold bW;rw[c,aQ rfl];dsimp only;rw[b,aK aF,aK aF,aQ rfl]
    rw[f,b];unfold abi;have g:=uY d.1;by_cases a:names p.1.1=[]
    .have i:=g.2 a;rw[cW a,ch i,aQ a];by_cases j:p.1.2.1=2
     .rw[au j,cW j];exact⟨_,rfl,λ_=>rfl⟩
     .rw[ar j,cf j];have:=ZE (n:=mV p _) i;rw[show eA ((aS<|names p.1.1,_),())=_ from this];have m:wv (names p.1.1)=false:=by unfold wv;rw[a];rfl
      rw[m];simp only[aey];exact⟨_,rfl,λh=>by cases h⟩
    .have i:=λe=>a (g.1 e);rw[cf a,aY i,aK a];have hs:Sm (mV p<|aS<|names p.1.1):=⟨by show(aS _).length<=200;omega,k.2.1,k.2.2⟩;have:=Oq d a rfl hs;rw[ac7 a rfl] at this;rw[show eA ((aS _,_),())=_ from this];exact⟨_,rfl,λ_=>rfl⟩
   .obtain⟨r,t⟩:=Jk c b;have f:bW p=(1,yL<|names p.1.1,wP p&&wv (yL<|names p.1.1)):=by
     unfold bW;rw[c,aQ rfl];dsimp only;rw[b,aQ rfl]
    rw[f,b,Je _ _ (by have:=(Eb d).2.2;omega) (by rw[(Ot b).1,rV];omega),ab,r];rw[RN t,Ox,cf (ac8 _)];refine⟨.inl _,?_,λ_=>rfl⟩;cases wP p<;>rfl
   .have hd:=Eb d;have f:bW p=(2,(names p.1.1).dropLast,wP p&&(decide ((names p.1.1).dropLast=[])||wv (names p.1.1).dropLast)):=by
     unfold bW;rw[c,aQ rfl];dsimp only;rw[b,aK aF,aQ rfl]
    rw[f,b];rw[RN hd,Ox];refine⟨.inr _,?_,λ_=>rfl⟩;cases wP p<;>rfl
   .have f:bW p=(0,[],false):=by
     unfold bW;rw[c,aQ rfl];dsimp only;rw[b,aK aF,aK aF,aK aF]
    rw[f,b];exact⟨_,rfl,λh=>by cases h⟩
def jE(l:List Pt):Bool:=l.all λp=>(bW p).2.2
def Uc(l:List Pt):Prop:=l.length<=10000/\∀p∈l,SmP p
def agt{l}:(∀(i:Nat) x,l[i]?=aa x->(!(bW x).2.2)=false)->jE l=true:=λh=>by
 unfold jE;rw[w8];intro x a;obtain⟨i,b⟩:=bc.1 a;have:=h i x b;simpa using this
def abj{l}{i:Nat}{x}(a:l[i]?=aa x)(h:(!(bW x).2.2)=true):jE l=false:=by
 unfold jE;rw[List.all_eq_false];exact⟨x,eG a,by simpa using h⟩
def RO l (c:Uc l):nq (l,())=aa (if jE l=true then(l.map zD,true,()) else([],false,())):=by
 unfold nq;have m:=c.1;rcases eE (f:=mI (l,())) l (λi=>((([]),false,(),i,()),(l.take i.toNat).map zD,())) (λ_ x=>!(bW x).2.2) _ _ ah (λi x a d b=>by
  obtain⟨s,e,g⟩:=agr x (c.2 x<|eG a);unfold mI;dsimp only;rw[al d,ao a,ab,e,ab,b];rw[uB,uB];cases j:(bW x).2.2 with
  | false=>rfl
  | true =>
    rw[ aJ cR,g j];have:(l.take<|i+1).map zD=(l.take i).map zD++[zD x]:=by rw[xX,a,List.map_append];rfl
    rw[this];rfl) (by
  unfold mI;rw[aq,ag,uB,zJ]) with ⟨i,x,a,k,_,h⟩|⟨hn,h⟩
 .rw[show Loop _ ((([]),_),([]),())=_ from h,abj a k];rfl
 .rw[show Loop _ ((([]),_),([]),())=_ from h,agt hn];rfl
def Du l (c:Uc l):qE (l,())=aa (jE l,()):=by
 unfold qE;have g:=c.1;rcases eE (f:=pL (l,())) l (λi=>((false,i,()),())) (λ_ x=>!(bW x).2.2) _ _ ah (λi x b d a=>by
  unfold pL;dsimp only;rw[al d,ao b,ab,Dr x (c.2 x<|eG b),a];cases (bW x).2.2<;>rfl) (by
  unfold pL;rw[aq,ag]) with ⟨i,x,b,e,_,h⟩|⟨hn,h⟩
 .rw[h,abj b e];rfl
 .rw[h,agt hn];rfl
end Go.Ge
