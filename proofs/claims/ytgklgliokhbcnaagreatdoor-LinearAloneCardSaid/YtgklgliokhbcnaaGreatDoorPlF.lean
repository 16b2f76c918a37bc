import Derived.Test.YtgklgliokhbcnaaGreatDoorPlE
import Derived.Lib.ParseIntBCases
import Derived.Lib.ItoaMem
set_option linter.unusedSectionVars false
set_option linter.unusedVariables false
set_option linter.unusedSimpArgs false
set_option linter.defProp false
noncomputable section
open Option renaming some->aa,none->af
namespace Go.Ge
variable [Lp]
structure Valid (l:List Nd):Prop where
 few:l.length<=64
 ord:Ord l
 may:∀x∈l,fW x=true
 up:∀x∈l,(bh x.1).1=[]\/∃y∈l,y.1=(bh x.1).1/\y.2.1=2
def Nf p:(bh p).1.length<=p.length:=by
 rcases rG p with ⟨_,h⟩|⟨a,b,c,_,h⟩
 .grind
 .grind
def xH{p}(h:(bh p).1≠[]):parts p=parts (bh p).1++[(bh p).2]:=by
 rcases rG p with ⟨_,e⟩|⟨a,b,c,d,e⟩
 .grind
 .rw[e] at h⊢;unfold parts;rw[aJ<|by rw[c];simp,aJ h,c];exact Co a b d
def Ord.uniq{l}(h:Ord l){x y}(d:x∈l)(f:y∈l)(e:x.1=y.1):x=y:=by
 obtain⟨i,a⟩:=bq.1 d;obtain⟨j,b⟩:=bq.1 f;have c:key x=key y:=by unfold key;rw[e]
 rcases Ll i j with g|g|g
 .have:=h i j x y g a b;rw[c,jP] at this;omega
 .grind
 .have:=h j i y x g b a;rw[c,jP] at this;omega
def Ng{l}(h:∀k x y,l[k]?=aa x->l[k+1]?=aa y->cmpL (key x) (key y)<0):Ord l:=by
 have run:∀d i x y,l[i]?=aa x->l[i+1+d]?=aa y->cmpL (key x) (key y)<0:=by
  intro d;induction d with
  | zero=>intro i x y b a;exact h i x y b a
  | succ d e =>
    intro i x y b a;have g:=av a;obtain⟨z,c⟩:∃z,l[i+1+d]?=aa z:=⟨_,fX ag⟩;exact mg (e i x z b c) (h _ z y c a)
 intro i j x y f b a;exact run (j-i-1) i x y b (by rw[show i+1+_=j by omega];exact a)
def GU(l:List Nd)(i:Nat)(x:Nd):Bool:=match i with
 | 0=>false
 | k+1=>match l[k]? with
   | some y=>decide (0<=cmpL (key y) (key x))
   | none=>false
def AW{l k x y}(a:l[k]?=aa y):GU l (k+1) x=decide (0<=cmpL (key y) (key x)):=by
 show(match l[k]? with|some y=>decide _|none=>false)=_
 rw[a]
def VM(l:List Nd)(d:bg):Int:=match oh (l,d,()) with
 | some y=>y.1
 | none=>0
def Nh l d (a:vI l) (hd:d.length<=4096):oh (l,d,())=aa (VM l d,())/\(Ord l->Dir l d (VM l d)):=by
 obtain⟨e,b,c⟩:=ZU l d a hd;have:VM l d=e:=by unfold VM;rw[b]
 grind
def Jq(l:List Nd)(d:bg):Bool:=match oi (l,d,()) with
 | some y=>y.1
 | none=>false
def Ic l d (a:vI l):oi (l,d,())=aa (Jq l d,())/\(Jq l d=true->d=[]\/∃x∈l,x.1=d/\x.2.1=2)/\(Ord l->Jq l d=false->d≠[]/\∀x∈l,x.1=d->x.2.1≠2):=by
 obtain⟨e,b,c,f⟩:=Nc l d a;have:Jq l d=e:=by unfold Jq;rw[b]
 grind
def QA{l}(h:∀i x,l[i]?=aa x->GU l i x=false):Ord l:=Ng λk x y a b=>by
 have:=h _ y b;rw[AW a] at this
 grind
def QB{l}(h:Ord l){i x}(a:l[i]?=aa x):GU l i x=false:=by
 cases i with
 | zero=>rfl
 | succ k =>
   have c:=av a;obtain⟨y,b⟩:∃y,l[k]?=aa y:=⟨_,fX ag⟩;rw[AW b];have:=h k _ y x ag b a
   grind
def abA{l}(h:Ord l){i x y}(b:l[i]?=aa x)(d:y∈l)(f:(bh x.1).1≠[])(e:y.1=(bh x.1).1):y∈l.take i:=by
 obtain⟨j,a⟩:=bq.1 d;have k:cmpL (key y) (key x)=-1:=by
  unfold key;rw[e,xH f];exact Vb _ _ aS
 rcases rR j i with g|g
 .exact dW (by rw[jq,aN g];exact a)
 .exfalso;rcases rR i j with c|c
  .have:=mg (h i j x y c b a) (show cmpL _ (key x)<0 by omega);rw[jP] at this;omega
  .obtain rfl:i=j:=ag;rw[b] at a;obtain rfl:=aF a;rw[jP] at k;omega
def mh l (b:vI l):∃e,eo (l,())=aa (e,())/\(e=0↔Valid l):=by
 unfold eo;have o:aU 64 (len l)=decide (64<l.length):=by unfold len;apply gO.2;omega
 rw[o];by_cases t:64<l.length
 .rw[dn t];exact⟨1,rfl,λh=>ag,λh=>by have:=h.few;omega⟩
 .rw[cm t];have c:∀{i:Nat} {x},l[i]?=aa x->(bh x.1).1.length<=4096:=λ{i x} hx=>by have:=(b.at hx).1;have:=Nf x.1;omega
  rcases eL (f:=qk (l,())) l (λi=>((0,i,()),())) (λi x=>!fW x||GU l i x||decide (VM (l.take i) (bh x.1).1≠0)) _ _ ag (λi x hx m w=>by
   unfold qk;dsimp only;rw[al m,ai,ao hx,ab,rk _ (by have:=(b.at hx).1;omega),ab,ZT _ (by have:=(b.at hx).1;omega),ab];cases E:fW x with
   | false=>rfl
   | true =>
     rw[aV,ah];have p:inside 0 i (len l)=true:=jd (pF _) ag;rw[p,ai,fV,((Nh _ (bh x.1).1 (b.take i)<|c hx).1),ab,w];cases i with
     | zero =>
       rw[aC aS,ah];generalize VM _ (bh x.1).1=e;by_cases a:e=0
       .rw[au a,aV,ah];simp[GU,a]
       .rw[show aG e 0=false by simp[aG,a],aI,ai];simp[ a]
     | succ k =>
       obtain⟨y,d⟩:∃y,l[k]?=aa y:=⟨_,fX ag⟩;rw[aT ag,ai,dv ag ag,show(((k+1:Nat):Int)-1)=k by omega,ao d,ab,Cp _ _ (by have:=(b.at d).1;omega) (by have:=(b.at hx).1;omega),ab];rw[wB];rw[AW d];unfold key;generalize VM _ (bh x.1).1=e;by_cases u:0<=cmpL (parts y.1) (parts x.1)
       .rw[dn u,ai];simp
       .rw[cm u,ah];by_cases a:e=0
        .rw[au a,aV,ah];simp[a]
        .rw[show aG e 0=false by simp[aG,a],aI,ai];simp[a]) (by unfold qk;rw[aq,ah]) with ⟨i,x,hx,A,_,h⟩|⟨hn,h⟩
  .rw[h];refine⟨1,rfl,λh=>ag,λj=>?_⟩;rw[j.may x<|dW hx,QB j.ord hx] at A;have hd:=(Nh _ (bh x.1).1 (b.take i)<|c hx).2 (j.ord.take i);rcases hd with ⟨_,e⟩|⟨q,hd⟩
   .grind
   .rcases j.up x (dW hx) with F|⟨y,d,g,r⟩
    .grind
    .have B:=abA j.ord hx d q g;rcases hd with ⟨C,_⟩|⟨z,a,s,⟨_,e⟩|⟨D,_⟩⟩
     .grind
     .grind
     .have:=j.ord.uniq (DC a) d (by rw[s,g])
      grind
  .rw[h];have n:∀i x,l[i]?=aa x->fW x=true/\GU l i x=false/\VM (l.take i) (bh x.1).1=0:=λi x hx=>by
    grind
   have v:=QA λi x hx=>(n i x hx).2.1;refine⟨0,rfl,λ_=>⟨ag,v,λx hx=>?_,λx hx=>?_⟩,λ_=>rfl⟩
   .obtain⟨i,m⟩:=bq.1 hx
    grind
   .obtain⟨i,m⟩:=bq.1 hx;have hd:=(Nh _ (bh x.1).1 (b.take i)<|c m).2 (v.take i);rw[(n i x m).2.2] at hd;rcases hd with ⟨e,_⟩|⟨_,⟨_,e⟩|⟨y,d,g,⟨r,_⟩|⟨_,e⟩⟩⟩
    .grind
    .omega
    .grind
    .omega
def oB l (c:vI l):∃b,iM (l,())=aa (b,())/\(b=true↔Valid l):=by
 unfold iM;have m:aU 64 (len l)=decide (64<l.length):=by unfold len;apply gO.2;omega
 rw[m];by_cases o:64<l.length
 .rw[dn o];exact⟨false,rfl,λh=>(by cases h),λh=>by have:=h.few;omega⟩
 .rw[cm o];rcases eL (f:=uo (l,())) l (λi=>((false,i,()),())) (λi x=>!fW x||!Jq l (bh x.1).1||GU l i x) _ _ ag (λi x a e q=>by
   unfold uo;dsimp only;rw[al e,ai,ao a,ab,wx _ (by have:=(c.at a).1;omega),ab,ab,yz _ (by have:=(c.at a).1;omega) (by have:=(c.at a).2.1;omega),ab];cases t:fW x with
   | false=>rfl
   | true =>
     rw[aV,ah,(Ic l (bh x.1).1 c).1,ab];cases u:Jq l (bh x.1).1 with
     | false=>rfl
     | true =>
       rw[aV,ah,q];cases i with
       | zero=>rw[aC aS,ah];simp[GU]
       | succ k =>
         obtain⟨y,g⟩:∃y,l[k]?=aa y:=⟨_,fX ag⟩;rw[aT ag,ai,dv ag ag,show(((k+1:Nat):Int)-1)=k by omega,ao g,ab,ab,xD _ _ (by have:=(c.at g).1;omega) (by have:=(c.at a).1;omega),ab];rw[wB];rw[AW g];unfold key;by_cases p:0<=cmpL (parts y.1) (parts x.1)
         .rw[dn p,ai];simp
         .rw[cm p,ah];simp) (by unfold uo;rw[aq,ah]) with ⟨i,x,a,n,_,h⟩|⟨hn,h⟩
  .rw[h];refine⟨false,rfl,λh=>(by cases h),λj=>?_⟩;rw[j.may x<|dW a,QB j.ord a] at n;simp at n;obtain⟨v,w⟩:=(Ic l (bh x.1).1 c).2.2 j.ord n;rcases j.up x (dW a) with z|⟨y,g,r,s⟩
   .grind
   .grind
  .rw[h];have d:∀i x,l[i]?=aa x->fW x=true/\Jq l (bh x.1).1=true/\GU l i x=false:=λi x a=>by
    grind
   refine⟨true,rfl,λ_=>⟨ag,QA λi x a=>(d i x a).2.2,λx a=>?_,λx a=>?_⟩,λ_=>rfl⟩
   .obtain⟨i,e⟩:=bq.1 a
    grind
   .obtain⟨i,e⟩:=bq.1 a;exact(Ic l (bh x.1).1 c).2.1 (d i x e).2.1
def takeWhile_eq{e:Type}{P}:∀{l:List e} {k},k<=l.length->(∀j y,j<k->l[j]?=aa y->P y=true)->(∀y,l[k]?=aa y->P y=false)->l.takeWhile P=l.take k/\l.dropWhile P=l.drop k:=by
 intro l;induction l with
 | nil=>simp
 | cons a r f =>
   intro k g c d;cases k with
   | zero =>
     have:=d a rfl;simp[ this]
   | succ k =>
     obtain⟨h,i⟩:=f (by simpa using g) (λj y m b=>c (j+1) y ag b) (λy b=>d y b);simp[ (c 0 a ag rfl),h,i]
def GV{d S R:Type}{f}(l:List d)(a:d->Bool)(e:Int->Int->List d->S)(g:Int->List d->R)(y:l.length<=4294967296)
  (b:∀(w j:Nat) L x,l[j]?=aa x->L[j]?=aa x->w<=j->j<L.length->aw .i64 w 1=((w+1:Nat):Int)->aw .i64 j 1=((j+1:Nat):Int) ->
   f (e w j L)=aa (.inl<|if a x=true then e w ((j+1:Nat):Int) L else e ((w+1:Nat):Int) ((j+1:Nat):Int) (L.set w x)))
  (h:∀(w:Nat) L,f (e w (L.length:Int) L)=aa (.inr<|g w L)) :
  ∀n w j L,l.length-j<=n->w<=j->j<=l.length->L.length=l.length->L.take w=(l.take j).filter (λx=>!a x)->L.drop j=l.drop j ->
   ∃(w':Nat) (L':List d),Loop f (e w j L)=aa (g w' L')/\L'.length=l.length/\w'<=l.length/\L'.take w'=l.filter (λx=>!a x):=by
 intro n;induction n with
 | zero =>
   intro w j L hn q u c i o;obtain rfl:j=L.length:=ag;refine⟨w,L,?_,c,ag,?_⟩
   .rw[aO,h];rfl
   .rw[i,c,yI]
 | succ n r =>
   intro w j L hn q u c i o;by_cases v:j=l.length
   .exact r w j L ag q u c i o
   .have s:j<L.length:=ag;have hx:l[j]?=aa l[j]:=fX ag;have t:L[j]?=aa l[j]:=by
     have:=congrArg (λz=>z[0]?) o;simpa [ hx] using this
    have k:L.drop (j+1)=l.drop (j+1):=by
     have:=congrArg (List.drop 1) o;simpa using this
    have m:l.take (j+1)=l.take j++[l[j]]:=by rw[wN,hx];rfl
    rw[aO,b w j L l[j] hx t q s (az ag) (az ag)];by_cases p:a l[j]=true
    .rw[aN p];exact r w _ L ag ag ag c (by rw[i,m,ac2];simp[p]) k
    .rw[aJ p];refine r _ _ _ ag ag ag (by simpa using c) ?_ ?_
     .rw[m,ac2,<-i,wN,List.take_set_of_le (bX w)];simp[p,show w<L.length by omega]
     .rw[List.drop_set_of_lt ag];exact k
def Cv{α}(L:List α) w (a:w<=L.length) m:sub (over L w m) 0 (minus w 0)=L.take w:=by
 rw[fV];unfold over;rw[vM,vL,acQ (by rw[dk];omega),Oj,ado]
def GW{α}(L:List α) w (a:w<=L.length) z:len (over L w<|lP (minus (len L) w) z)=(L.length:Int):=by
 unfold over lP minus len;simp;omega
def filter_one{d:Type}{l:List d}{P k x}(c:l[k]?=aa x)(f:P x=false)(h:∀j y,j≠k->l[j]?=aa y->P y=true):l.filter P=l.take k++l.drop (k+1):=by
 have e:l=l.take k++x::l.drop (k+1):=by
  conv=>lhs;rw[<-Fk k l,BK (av c)]
  rw[(hR.1 c).2]
 conv=>lhs;rw[e]
 rw[ac2,ac6,f];have g:(l.take k).filter P=l.take k:=Ld.2 λy b=>by
  obtain⟨j,a⟩:=bq.1 b;rw[jq] at a;split at a
  .exact h j y ag a
  .cases a
 have i:(l.drop _).filter P=l.drop (k+1):=Ld.2 λy b=>by
  obtain⟨j,a⟩:=bq.1 b;rw[tu] at a;exact h _ y ag a
 rw[g,i];simp
def vf(l:List Nd)(n:Nd):List Nd:=l.takeWhile (λx=>decide (cmp x n.1<0))++n::l.dropWhile (λx=>decide (cmp x n.1<0))
def gone(p:bg)(x:Nd):Bool:=decide (x.1=p)||dZ (parts x.1) (parts p)
def qe(l:List Nd)(p:bg):List Nd:=l.filter λx=>!gone p x
def Ord.filter{l}(h:Ord l) P:Ord (l.filter P):=by
 have c:l.Pairwise λx y=>cmpL (key x) (key y)<0:=by
  rw[Q9];intro i j d e a;exact h i j _ _ a (fX d) (fX e)
 have b:=c.filter P;rw[Q9] at b;intro i j x y a f g;obtain⟨k,m⟩:=hR.1 f;obtain⟨n,o⟩:=hR.1 g;rw[<-m,<-o];exact b i j k n a
def vI.filter{l}(h:vI l) P:vI (l.filter P):=⟨gi (TD _ _) h.1,λx a=>h.2 x (zg.1 a).1⟩
def ahm{l n k b}(h:Plc l n.1 k b):vf l n=l.take k++[n]++l.drop k:=by
 obtain⟨c,d⟩:=takeWhile_eq h.le (λj y e a=>dn (h.lo j y e a)) (λy a=>cm (h.hi k y (bX _) a));unfold vf;rw[c,d];simp
def Ni{l}(o:Valid l){p}(t:p≠[])(u:∀x∈l,x.1≠p):∀m x,x∈l->(parts x.1).length<=m->dZ (parts x.1) (parts p)=false:=by
 intro m;induction m with
 | zero =>
   intro x i j;exact cm ag
 | succ m v =>
   intro x i j;cases w:dZ _ _ with
   | false=>rfl
   | true =>
     exfalso;obtain⟨q,f⟩:=fU w;have c:=o.may x i;unfold fW xG at c;simp only[gz] at c;by_cases h:(bh x.1).1=[]
     .have d:=c.1.1.1.1.1.1.1.2;have r:(parts x.1).length<=1:=by
       rcases rG x.1 with ⟨a,_⟩|⟨a,b,z,C,e⟩
       .unfold parts;split
        .simp
        .rw[pt _ a];simp
       .rw[e] at h;subst h;have:=vN.1 d [] (by
         rw[z];show []∈cE _
         rw[EY [] aS];simp)
        exact absurd this aD
      have:parts p=[]:=yG.1 ag;have:=dP p;rw[‹parts p=[]›] at this;exact t this.symm
     .have k:=xH h;rcases o.up x i with e|⟨y,s,n,A⟩
      .exact absurd e h
      .rw[<-n] at k;rw[k] at q f;rw[acQ<|by simp at q;omega] at f;rcases rR (parts p).length (parts y.1).length with g|g
       .have:=v y s (by rw[k] at j;simp at j;omega);exact absurd ⟨g,f⟩ (wM this)
       .have B:parts p=parts y.1:=by rw[<-f,JG ag]
        refine u y s ?_;rw[<-dP y.1,<-B,dP]
def Yj{l}(c:Valid l){p}(d:p≠[])(a:∀x∈l,x.1≠p):qe l p=l:=Ld.2 λx b=>by
 unfold gone;rw[Ni c d a _ x b<|bX _,cm (a x b)];rfl
open Classical in
def bG(l:List Nd)(n:Nd):List Nd×Int :=
 if ¬Valid l\/fW n=false then([],1) else
 if(bh n.1).1≠[]/\∀x∈l,x.1≠(bh n.1).1 then([],3) else
 if(bh n.1).1≠[]/\∀x∈l,x.1=(bh n.1).1->x.2.1≠2 then([],12) else
 let r:=if(∃x∈l,x.1=n.1/\x.2.1=2)/\n.2.1=2 then l.filter (λx=>!decide (x.1=n.1)) else qe l n.1
 if 64<=r.length then([],5) else(vf r n,0)
def ZV{n}(h:fW n=true):n.1≠[]:=by
 unfold fW xG at h
 grind
def ahn(l:List Nd) k (n:Nd) (a:k<=l.length) (c:l.length<=4096):bj l (k,[n],())=aa (l.take k++[n]++l.drop k):=by
 unfold bj tE;have b:inside 0 k _=true:=jd (pF _) a;rw[b,aH cJ];simp
def VN r (n:Nd) (a:vI r) (d:Ord r) (hn:n.1.length<=200) (c:Int) (i:c=r.length) :
  ak (cw 64 c) (aa (([]:List Nd),(5:Int),())) (ae (en (r,n.1,())) λy=>ae (bj r (y.1,[n],())) λz=>aa (z,0,())) =
   aa (if 64<=r.length then([],5,()) else(vf r n,0,())):=by
 rw[wB];by_cases h:64<=r.length
 .rw[dn ag,ai,aN h]
 .rw[cm ag,ah,aJ h];obtain⟨k,b,e,f,j,g⟩:=Dk r n.1 a ag;rw[e,ab];rw[ahn r k n f a.1,ab,ahm (g d)]
def VO x p (hx:x.1.length<=200) (a:p.length<=200):ak (nt<|br x.1 p) (ae (dC (x.1,p,())) λy=>aa y.1) (aa true)=aa (gone p x):=by
 rw[zO _ _ ag ag,uJ];unfold gone;cases decide (x.1=p)<;>rfl
def abB l (n:Nd) (a:vI l) (hn:n.1.length<=200):(∃i x,l[i]?=aa x/\gone n.1 x=true/\(∀(j:Nat) y,j<i->l[j]?=aa y->gone n.1 y=false)/\Loop (pT (l,n,())) ((0,0,()),(),n.1,())=aa (1,((i:Int),(i:Int),()),(),n.1,())) \/
  ((∀(i:Nat) x,l[i]?=aa x->gone n.1 x=false)/\Loop (pT (l,n,())) ((0,0,()),(),n.1,())=aa (0,(0,(l.length:Int),()),(),n.1,())) :=
 eL l (λi=>((0,i,()),_)) _ _ _ (by have:=a.1;omega) (λi x b c d=>by
  unfold pT;dsimp only;rw[al c,aE ag ef,ao b,ab,VO _ _ (a.at b).1 hn,d];cases gone n.1 x<;>rfl) (by unfold pT;rw[aq,ah])
def abC l (n:Nd) (c:vI l) (hn:n.1.length<=200) (i:Nat) x (hx:l[i]?=aa x) (r:gone n.1 x=true) (d:∀j y,j<i->l[j]?=aa y->gone n.1 y=false) :
  ∃(w:Nat) (L:List Nd),Loop (pU) ((i,aw IntKind.i64 i 1,(),()),(),n.1,l,())=aa (((w:Int),(l.length:Int),(),()),(),n.1,L,())/\L.length=l.length/\w<=l.length/\L.take w=qe l n.1:=by
 have hi:=av hx;have s:=c.1;have a:l.take i=(l.take<|i+1).filter (λx=>!gone n.1 x):=by
  rw[wN];have e:(l.take i).filter (λx=>!gone n.1 x)=l.take i:=Ld.2 λy k=>by
   obtain⟨j,g⟩:=bq.1 k
   grind
  grind
 obtain⟨w,L,e,h,m,o⟩:=GV (f:=pU) l _ (λw j L=>((w,j,_),(),n.1,L,())) (λw L=>((w,L.length,_),(),n.1,L,())) ag (λw j L x hx b t g p d=>by
  unfold pU;dsimp only;obtain⟨z,q⟩:∃z,L[w]?=aa z:=⟨_,fX ag⟩;rw[al g,aE ag ef,ai,ao b,ab,VO _ _ (c.at hx).1 hn,ab,d];cases gone n.1 x with
  | true=>rfl
  | false =>
    rw[ aE ag ef,ao q,p];rfl) (λw L=>by
  unfold pU;rw[aq];rfl) l.length i _ l ag ag ag rfl a rfl
 refine⟨w,L,?_,h,m,o⟩;rw[az ag,e,h]
def VP{l}(f:Ord l){n x k}(d:l[k]?=aa x)(e:x.1=n.1):l.filter (λx=>!decide (x.1=n.1))=l.take k++l.drop (k+1)/\vf (l.take k++l.drop (k+1)) n=l.take k++[n]++l.drop (k+1):=by
 have r:=av d;have b:key x=parts n.1:=by unfold key;rw[e]
 have h:∀j y,j<k->l[j]?=aa y->cmp y n.1<0:=λj y c a=>by
  have:=f j k y x c a d;rw[b] at this;exact this
 have i:∀j y,k<j->l[j]?=aa y->¬cmp y n.1<0:=λj y c a p=>by
  have:=f k j x y c d a;rw[b] at this;have:=mg this p;rw[jP] at this;omega
 have q:(l.take k).length=k:=by rw[dk];omega
 constructor
 .refine filter_one d (by rw[dn e];rfl) λj y c a=>?_;rw[cm];rfl;intro o;have s:=Nb o;rcases rR j k with g|g
  .grind
  .have m:key x=key y:=by rw[b];unfold key;rw[o]
   have:=f k j x y ag d a;rw[m,jP] at this;omega
 .obtain⟨t,u⟩:=takeWhile_eq (l:=l.take k++l.drop (k+1)) (k:=k) (P:=λx=>decide _) (by rw[jt];omega) (λj y c a=>by
   rw[Tz ag,jq,aN c] at a;exact dn (h j y c a)) (λy a=>by
   rw[acS ag,tu] at a;exact cm (i _ y ag a))
  unfold vf
  grind
def abD{a:Type}{l:List a}{k}(b:k<l.length) n:l.set k n=l.take k++[n]++l.drop (k+1):=by
 rw[List.set_eq_take_append_cons_drop,aN b];simp
def Jr l n (f:vI l) (hn:Sm n):tG (l,n,())=aa ((bG l n).1,(bG l n).2,()):=by
 obtain⟨e,F,C⟩:=mh l f;have g:=hn.1;unfold tG;dsimp only;rw[F,ab,ZT n ag,ab];by_cases a:¬Valid l\/fW n=false
 .have o:bG l n=([],1):=by unfold bG;rw[aN a]
  rw[o];have:ak (nt<|nt<|aG e 0) (aa<|nt<|fW n) (aa true)=aa true:=by
   rcases a with h|h
   .rw[show aG e 0=false by unfold aG;exact cm λp=>h (C.1 p)];rfl
   .rw[h];cases nt _<;>rfl
  rw[this,ab,ai]
 .have hv:Valid l:=by
   grind
  have G:fW n=true:=by
   grind
  obtain rfl:=C.2 hv;rw[G];have:ak (nt<|nt<|aG 0 0) (aa<|nt true) (aa true)=aa false:=rfl;rw[this,ab,ah,rk _ ag,ab];obtain⟨d,H,I⟩:=ZU l (bh n.1).1 f (by have:=Nf n.1;omega);rw[H,ab];by_cases z:(¬((bh n.1).1≠[]/\∀x∈l,x.1≠(bh n.1).1))/\(¬((bh n.1).1≠[]/\∀x∈l,x.1=(bh n.1).1->x.2.1≠2))/\d=0
  .obtain⟨J,K,A⟩:=z;subst A;have o:bG l n=(let r:=if(∃x∈l,x.1=n.1/\x.2.1=2)/\n.2.1=2 then l.filter (λx=>!decide (x.1=n.1)) else qe l n.1
     if 64<=r.length then([],5) else(vf r n,0)):=by
    unfold bG;rw[aJ a,aJ J,aJ K]
   rw[show nt _=false by rfl,ah];obtain⟨k,b,M,W,X,N⟩:=Dk l n.1 f ag;have m:=N hv.ord;rw[M,ab];obtain⟨u,O,P⟩:∃u,ak b (ae (idx l k) λy=>aa (aG y.2.1 2)) _=aa u/\(ak u (aG n.2.1 2) false=true↔((∃x∈l,x.1=n.1/\x.2.1=2)/\n.2.1=2)):=by
    cases b with
    | false =>
      refine⟨false,rfl,?_⟩;exact⟨λh=>(by cases h),λ⟨⟨x,hx,e,_⟩,_⟩=>absurd e (m.no rfl x hx)⟩
    | true =>
      obtain⟨x,hx,e⟩:=m.is rfl;refine⟨aG x.2.1 2,by rw[ai,ao hx,ab],?_⟩;rw[qS,gz];unfold aG;rw[Ae,Ae];refine⟨λh=>⟨⟨x,dW hx,e,h.1⟩,h.2⟩,λ⟨⟨y,hy,Q,R⟩,Y⟩=>?_⟩;have:=hv.ord.uniq (dW hx) hy (by rw[e,Q])
      grind
   rw[O,ab];by_cases c:(∃x∈l,x.1=n.1/\x.2.1=2)/\n.2.1=2
   .rw[P.2 c,ai];have v:b=true:=by
     cases b with
     | true=>rfl
     | false=>obtain⟨⟨x,hx,e,_⟩,_⟩:=c;exact absurd e (m.no rfl x hx)
    obtain⟨x,hx,e⟩:=m.is v;have S:=av hx;rw[cY (by have:=f.1;omega),ai,aE ag ef,ai,ao hx,ab,ab,ab,zJ];obtain⟨T,U⟩:=VP hv.ord hx e;have D:=hv.few;rw[aN c,T] at o;have B:¬64<=(l.take k++l.drop (k+1)).length:=cJ;rw[o];simp only[B,if_false];rw[U,abD S]
   .have hs:ak u (aG n.2.1 2) false=false:=by
     grind
    rw[hs,ah,ab];rw[show nt _=false by rfl,ah,cY (by have:=f.1;omega),ai];rcases abB l n f g with ⟨i,x,hx,z,v,h⟩|⟨v,h⟩
    .obtain⟨w,L,V,Z,w3,E⟩:=abC l n f g i x hx z v;rw[h,ab];rw[gM,ah,show aG i (-1)=false by exact cm ag,ah,V,ab];dsimp only;rw[aL ag ef<|tc _,GW L w ag,aL (tc _) ag ag,Cv L w ag,E];have hlen:(qe l n.1).length=w:=by rw[<-E,dk];omega
     refine TV (VN (qe l n.1) n (f.filter _) (hv.ord.filter _) g _<|by unfold minus;omega) ?_
     grind
    .have hr:qe l n.1=l:=Ld.2 λx hx=>by
      obtain⟨j,hj⟩:=bq.1 hx
      grind
     rw[h,ab];rw[cV,ai,show aG (-1) (-1)=true by rfl,ai];have tv:=VN l n f hv.ord g (len l) rfl
     grind
  .rcases I hv.ord with ⟨p,q⟩|⟨p,⟨c,q⟩|⟨x,hx,s,⟨t,q⟩|⟨t,q⟩⟩⟩
   .grind
   .subst q;have o:bG l n=([],3):=by unfold bG;rw[aJ a,aN ⟨p,c⟩]
    rw[o];rfl
   .grind
   .subst q;have o:bG l n=([],12):=by
     unfold bG;rw[aJ a,aJ (λh=>h.2 x hx s),aN ⟨p,λy hy e=>by
      have:=hv.ord.uniq hx hy (by rw[s,e]);subst this;exact t⟩]
    rw[o];rfl
def kh(l:List Nd)(p:bg)(b:Bool):List Nd:=l.filter λx=>!dZ (parts x.1) (parts p)&&(!b||!decide (x.1=p))
def Cw l p b (d:vI l) (g:p.length<=4096):jI (l,p,b,())=aa (kh l p b,()):=by
 unfold jI;have o:=d.1;have c:∀m,m.flatMap (λx=>if(!dZ (parts x.1) (parts p)&&(!b||!decide (x.1=p)))=true then [x] else [])=kh m p b:=by
  intro m;unfold kh;induction m with
  | nil=>rfl
  | cons a r q =>
    grind
 have h:=hM (f:=lV (l,p,b,())) l (λa i=>(((),i,()),a,())) (λx=>if(!dZ (parts x.1) (parts p)&&(!b||!decide (x.1=p)))=true then [x] else []) _ ag (λi x e j k=>by
  unfold lV;have hlen:((l.take i).flatMap λx=>if(!dZ (parts x.1) (parts p)&&(!b||!decide (x.1=p)))=true then [x] else []).length<=4096:=by
   rw[c];unfold kh
   grind
  rw[al j,ao e,ab,SQ _ _ (by have:=(d.at e).1;omega) g,ab,ab,ab,k,aH (by simp only[Ra];omega)];rw[uJ];cases dZ _ _<;>cases b<;>cases decide (x.1=p)<;>simp[ak,nt,ae,cl,app]) (by
  unfold lV;rw[aq,c];rfl)
 have n:Loop _ _=aa _:=h;rw[n,ab]
def Ph l p:kh l p true=qe l p:=by
 unfold kh qe;unfold gone
 grind
def VQ(l r:List Nd)(n:Nd)(d:vI r)(e:n.1.length<=200):∃k,k<=r.length/\Loop (kZ (l,n,()) ((r,()),())) ((0,()),())=aa (((k:Int),()),())/\vf r n=r.take k++[n]++r.drop k:=by
 have t:=d.1;rcases eL (f:=kZ (l,n,()) ((r,()),())) r (λi=>((i,()),())) (λ_ x=>!decide (cmp x n.1<0)) _ _ ag (λi x b g m=>by
  unfold kZ;dsimp only;rw[al g,ao b,ab,xD _ _ (by have:=(d.at b).1;omega) ag,ab,m];unfold cmp aU;cases decide (cmpL _ _<0)<;>rfl) (by
  unfold kZ;rw[aq];rfl) with ⟨i,x,b,o,p,h⟩|⟨e,h⟩
 .refine⟨i,by have:=av b;omega,h,?_⟩;obtain⟨q,s⟩:=takeWhile_eq (l:=r) (k:=i) (P:=λx=>decide _) (by have:=av b;omega) (λj y c a=>by
   have:=p j y c a;simpa using this) (λy a=>by
   rw[b] at a;obtain rfl:=aF a;simpa using o)
  unfold vf
  grind
 .refine⟨r.length,bX _,h,?_⟩;obtain⟨q,s⟩:=takeWhile_eq (P:=λx=>decide _) (bX _) (λj y c a=>by
   have:=e j y a;simpa using this) (λy a=>by
   have:=av a;omega)
  unfold vf
  grind
def Cx(l r:List Nd)(n:Nd)(c:vI r)(d:n.1.length<=200) :
  ak (cw 64<|len r) (aa (([]:List Nd),(5:Int),())) (ae (Loop (kZ (l,n,()) ((r,()),())) ((0,()),())) λa=>ak (inside 0 a.1.1<|len r)
   (ak (fits<|plus (len ([]:List Nd))<|len<|sub r 0<|minus a.1.1 0)
   (ak (fits<|plus (len<|app ([]:List Nd)<|sub r 0<|minus a.1.1 0)<|len [n])
   (ak (inside a.1.1 (len r)<|len r)
   (ak (fits<|plus (len<|app (app ([]:List Nd)<|sub r 0<|minus a.1.1 0) [n])<|len<|sub r a.1.1<|minus (len r) a.1.1)
   (aa (app (app (app ([]:List Nd)<|sub r 0<|minus a.1.1 0) [n])<|sub r a.1.1<|minus (len r) a.1.1,0,()))
   af) af) af) af) af)=aa (if 64<=r.length then([],5,()) else(vf r n,0,())):=by
 rw[wB];by_cases h:64<=r.length
 .rw[dn ef,ai,aN h]
 .rw[cm ef,aJ h];obtain⟨k,b,e,f⟩:=VQ l r n c d;rw[e,ab];have g:inside 0 k _=true:=jd (pF _) b;have i:inside k (len r) _=true:=aL ag ef (tc _);rw[g,fV,jc r k b,i];rw[(aH cJ),(aH<|by rw[gX];simp;omega),(aH<|by rw[gX,gX];simp;omega),f];rfl
def Cy l n (f:vI l) (hn:Sm n):oj (l,n,())=aa ((bG l n).1,(bG l n).2,()):=by
 obtain⟨e,D,B⟩:=oB l f;have m:=hn.1;have L:=f.1;unfold oj;dsimp only;rw[D,ab,yz n ag (by have:=hn.2.1;omega),ab];by_cases b:¬Valid l\/fW n=false
 .have g:bG l n=([],1):=by unfold bG;rw[aN b]
  rw[g];have:ak (nt<|nt e) (aa<|nt<|fW n) (aa true)=aa true:=by
   rcases b with h|h
   .rw[show e=false by
     cases e with
     | false=>rfl
     | true=>exact absurd (B.1 rfl) h]
    rfl
   .rw[h];cases nt _<;>rfl
  rw[this,ab,ai]
 .have hv:Valid l:=by
   grind
  have C:fW n=true:=by
   grind
  obtain rfl:=B.2 hv;rw[C];have:ak (nt<|nt true) (aa<|nt true) (aa true)=aa false:=rfl;rw[this,ab,wx _ ag,ab];obtain⟨p,E,F⟩:∃p,ak (nt<|br (bh n.1).1 []) (ae (hW (l,(bh n.1).1,())) λy=>aa (aU y.1 0)) (aa false)=aa p/\(p=true↔((bh n.1).1≠[]/\∀x∈l,x.1≠(bh n.1).1)):=by
   by_cases q:(bh n.1).1=[]
   .refine⟨false,by rw[q];rfl,λh=>(by cases h),λh=>absurd q h.1⟩
   .rw[aY q,aI,ai];rcases Cu l (bh n.1).1 f with ⟨i,x,o,c,h⟩|⟨j,h⟩
    .refine⟨false,by rw[h,ab,aC ag],λh=>(by cases h),λh=>absurd c (h.2 x<|dW o)⟩
    .exact⟨true,by rw[h];rfl,λ_=>⟨q,j⟩,λ_=>rfl⟩
  rw[E,ab];by_cases s:(bh n.1).1≠[]/\∀x∈l,x.1≠(bh n.1).1
  .have g:bG l n=([],3):=by unfold bG;rw[aJ b,aN s]
   rw[F.2 s,g];rfl
  .have:p=false:=by
    grind
   rw[this];obtain⟨d,G,M,H⟩:=Nc l (bh n.1).1 f;rw[G,ab];by_cases t:(bh n.1).1≠[]/\∀x∈l,x.1=(bh n.1).1->x.2.1≠2
   .have g:bG l n=([],12):=by unfold bG;rw[aJ b,aJ s,aN t]
    have:d=false:=by
     grind
    rw[this,g];rfl
   .have:d=true:=by
     cases d with
     | true=>rfl
     | false=>exact absurd (H hv.ord rfl) t
    rw[this];have g:bG l n=(let r:=if(∃x∈l,x.1=n.1/\x.2.1=2)/\n.2.1=2 then l.filter (λx=>!decide (x.1=n.1)) else qe l n.1
      if 64<=r.length then([],5) else(vf r n,0)):=by
     unfold bG;rw[aJ b,aJ s,aJ t]
    rcases Cu l n.1 f with ⟨i,x,o,c,h⟩|⟨j,h⟩
    .have hi:=av o;have k:=dW o;rw[h,ab];rw[bA ag,ai,ao o,ab,ab];by_cases a:x.2.1=2/\n.2.1=2
     .obtain⟨I,N⟩:=VP hv.ord o c;rw[aN<|show((∃x∈l,x.1=n.1/\x.2.1=2)/\n.2.1=2) from⟨⟨x,k,c,a.1⟩,a.2⟩] at g;have J:inside 0 i (len l)=true:=jd (pF _) ag;rw[au a.1,au a.2,J,fV,az ag,(aL ag ef<|tc _),jc l _ ag];rw[(aH cJ),(aH<|by rw[gX,JJ,dk,qU];omega)];refine TV (Cx l (l.take i++l.drop _) n (by rw[<-I];apply f.filter) m) ?_
      grind
     .have hs:ak (aG x.2.1 2) (aG n.2.1 2) false=false:=by
       unfold aG;by_cases u:x.2.1=2
       .rw[dn u];exact cm λv=>a ⟨u,v⟩
       .rw[cm u,ah]
      rw[aJ (show ¬((∃x∈l,x.1=n.1/\x.2.1=2)/\n.2.1=2) from λh=>by
       obtain⟨⟨y,w,z,A⟩,v⟩:=h;have:=hv.ord.uniq k w (by rw[c,z]);subst this;exact a ⟨A,v⟩)] at g
      rw[hs,Cw l n.1 true f ag,Ph];refine TV (Cx l _ n (f.filter _) m) ?_
      grind
    .have K:¬((∃x∈l,x.1=n.1/\x.2.1=2)/\n.2.1=2):=λ⟨⟨y,w,z,_⟩,_⟩=>j y w z;rw[ Yj hv (ZV C) j] at g;rw[h];refine TV (Cx l l n f m) ?_
     grind
def ZW:Nd:=([],0,0,[],[],())
def findF(l:List Nd)(p:bg):Nd×Bool×aj:=match l.find? λx=>decide (x.1=p) with
 | some x=>(x,true,())
 | none=>(ZW,false,())
def E3{l p}(h:∀x∈l,x.1≠p):findF l p=(ZW,false,()):=by
 unfold findF;rw[Tu.2 λx a=>by simp[h x a]]
def AX{l}(c:Ord l){p x}(b:x∈l)(e:x.1=p):findF l p=(x,true,()):=by
 unfold findF;cases h:l.find? λx=>decide (x.1=p) with
 | none=>have:=Tu.1 h x b;simp[e] at this
 | some y =>
   have a:=Y8 h;have a:y.1=p:=by simpa using a
   have:=c.uniq b (TA h) (by rw[e,a]);subst this;rfl
def abE l p (c:vI l) (f:p.length<=4096) (hv:Valid l):ym (l,p,())=aa (findF l p):=by
 obtain⟨e,g,h⟩:=mh l c;obtain rfl:=h.2 hv;obtain⟨k,b,i,m,n,j⟩:=Dk l p c f;have a:=j hv.ord;unfold ym;rw[g,ab];rw[show nt _=false by rfl,ah,i,ab];cases b with
 | false=>rw[ E3 (a.no rfl)];rfl
 | true =>
   obtain⟨x,d,e⟩:=a.is rfl;rw[aV,ah,ao d,ab,AX hv.ord (dW d) e]
def aho:List Nd->Bool
 | a::b::r=>decide (cmpL (key a) (key b)<0)&&aho (b::r)
 | _=>true
def ae4:∀{l},aho l=true->Ord l:=by
 intro l h;refine Ng ?_;induction l with
 | nil=>intro k x y c;simp at c
 | cons a r e =>
   cases r with
   | nil=>intro k x y c d;simp at d
   | cons b r =>
     simp only[aho,gz,Ae] at h;intro k x y c d;cases k with
     | zero =>
       obtain rfl:a=x:=by simpa using c
       obtain rfl:b=y:=by simpa using d
       exact h.1
     | succ k=>exact e h.2 k x y c d
def Nj(l:List Nd):Bool:=decide (l.length<=64)&&aho l&&l.all fW&&l.all λx=>decide ((bh x.1).1=[])||l.any λy=>decide (y.1=(bh x.1).1)&&decide (y.2.1=2)
def AY{l}(h:Nj l=true):Valid l:=by
 unfold Nj at h;simp only[gz,Ae] at h;refine⟨h.1.1.1,ae4 h.1.1.2,λx a=>vN.1 h.1.2 x a,λx a=>?_⟩;have:=vN.1 h.2 x a;simp only[Li,Ae,Tv,gz] at this;exact this
def nD:Nd:=([100],2,493,[],[],())
def nA:Nd:=([100,47,97],1,420,[120],[],())
def Yk:Nj []=true/\Nj [nD]=true/\Nj [nD,nA]=true:=by decide +kernel
set_option synthInstance.maxHeartbeats 200000 in
set_option synthInstance.maxSize 4000 in
instance anQ:DecidableEq Nd:=inferInstance
def QC a r n:vf (a::r) n=if cmp a n.1<0 then a::vf r n else n::a::r:=by
 unfold vf;by_cases h:cmp a n.1<0
 .rw[aN h];simp[h]
 .rw[aJ h];simp[h]
def vg{r n x}:x∈vf r n↔x=n\/x∈r:=by
 induction r with
 | nil=>simp[vf]
 | cons a r b =>
   rw[QC];split
   .rw[fI,b,fI];constructor
    .rintro(h|h|h)
     .exact .inr (.inl h)
     .exact .inl h
     .exact .inr (.inr h)
    .rintro(h|h|h)
     .exact .inr (.inl h)
     .exact .inl h
     .exact .inr (.inr h)
   .rw[fI]
def ae5 r n:(vf r n).length=r.length+1:=by
 unfold vf;rw[jt,iE,<-En,<-jt,BA]
def zU{l}:Ord l↔l.Pairwise λx y=>cmpL (key x) (key y)<0:=by
 constructor
 .intro h;rw[Q9];intro i j b c a;exact h i j _ _ a (fX b) (fX c)
 .intro h i j x y a d e;rw[Q9] at h;obtain⟨f,g⟩:=hR.1 d;obtain⟨k,m⟩:=hR.1 e;rw[<-g,<-m];exact h i j f k a
def ae6{r n}(b:Ord r)(c:∀x∈r,x.1≠n.1):Ord (vf r n):=by
 rw[zU] at b⊢;induction r with
 | nil=>simp[vf]
 | cons a r f =>
   rw[Fl] at b;rw[QC];split
   .rename_i h;refine Fl.2 ⟨λy hy=>?_,f b.2 λx g=>c x (by simp[g])⟩;rcases vg.1 hy with rfl|hy
    .exact h
    .exact b.1 y hy
   .rename_i h;have d:cmpL (key n) (key a)<0:=by
     have i:cmp a n.1≠0:=λe=>c a aS (VL e);have j:cmpL _ (key a)=- cmpL _ (key n):=MQ _ _;have k:cmp a n.1=cmpL (key a) (key n):=rfl;omega
    refine Fl.2 ⟨λy hy=>?_,Fl.2 b⟩;rcases fI.1 hy with rfl|hy
    .exact d
    .exact mg d (b.1 y hy)
def Nk{x y:Nd}{p}(b:(bh x.1).1≠[])(e:y.1=(bh x.1).1)(h:dZ (parts y.1) (parts p)=true):dZ (parts x.1) (parts p)=true:=by
 have a:=xH b;rw[<-e] at a;obtain⟨d,c⟩:=fU h;refine dn ⟨?_,?_⟩
 .rw[a,jt];omega
 .rw[a,acQ ag,c]
def E4{x:Nd}(b:(bh x.1).1≠[]):dZ (parts x.1) (parts (bh x.1).1)=true:=by
 have a:=xH b;refine dn ⟨?_,?_⟩
 .rw[a];simp
 .rw[a];simp
def K3(l:List Nd)(n:Nd)(r:List Nd):Prop :=
 (((∃x∈l,x.1=n.1/\x.2.1=2)/\n.2.1=2)/\r=l.filter λx=>!decide (x.1=n.1))\/((¬((∃x∈l,x.1=n.1/\x.2.1=2)/\n.2.1=2))/\r=qe l n.1)
def Nl l n:((bG l n).1=[]/\(bG l n).2≠0) \/
  (Valid l/\fW n=true/\((bh n.1).1=[]\/∃x∈l,x.1=(bh n.1).1/\x.2.1=2)/\∃r,K3 l n r/\r.length<64/\bG l n=(vf r n,0)):=by
 unfold bG;by_cases b:¬Valid l\/fW n=false
 .rw[aN b];exact .inl ⟨rfl,aD⟩
 .rw[aJ b];by_cases c:(bh n.1).1≠[]/\∀x∈l,x.1≠(bh n.1).1
  .rw[aN c];exact .inl ⟨rfl,aD⟩
  .rw[aJ c];by_cases f:(bh n.1).1≠[]/\∀x∈l,x.1=(bh n.1).1->x.2.1≠2
   .rw[aN f];exact .inl ⟨rfl,aD⟩
   .rw[aJ f];have hv:=BB λh=>b (.inl h);have g:fW n=true:=by
     cases h:fW n with
     | true=>rfl
     | false=>exact absurd (.inr h) b
    have i:(bh n.1).1=[]\/∃x∈l,x.1=(bh n.1).1/\x.2.1=2:=by
     by_cases j:(bh n.1).1=[]
     .exact .inl j
     .right;refine BB λh=>f ⟨j,λx k e c=>h ⟨x,k,e,c⟩⟩
    by_cases d:(∃x∈l,x.1=n.1/\x.2.1=2)/\n.2.1=2
    .simp only[aN d];by_cases a:64<=(l.filter λx=>!decide (x.1=n.1)).length
     .rw[aN a];exact .inl ⟨rfl,aD⟩
     .rw[aJ a];exact .inr ⟨hv,g,i,_,.inl ⟨d,rfl⟩,ag,rfl⟩
    .simp only[aJ d];by_cases a:64<=(qe l n.1).length
     .rw[aN a];exact .inl ⟨rfl,aD⟩
     .rw[aJ a];exact .inr ⟨hv,g,i,_,.inr ⟨d,rfl⟩,ag,rfl⟩
def K3.sub{l r n}(h:K3 l n r):(∀x∈r,x∈l/\x.1≠n.1)/\∃P,r=l.filter P:=by
 rcases h with ⟨_,rfl⟩|⟨_,rfl⟩
 .refine⟨λx a=>?_,_,rfl⟩;have:=zg.1 a;simpa using this
 .refine⟨λx a=>?_,_,rfl⟩;have:=zg.1 a;unfold gone at this;simp at this;exact⟨this.1,this.2.1⟩
def QD{l r n}(k:Valid l)(p:fW n=true)(q:(bh n.1).1=[]\/∃x∈l,x.1=(bh n.1).1/\x.2.1=2)(j:K3 l n r)(s:r.length<64):Valid (vf r n):=by
 obtain⟨c,P,t⟩:=j.sub;refine⟨by rw[ae5];omega,ae6 (by rw[t];exact k.ord.filter P) λx hx=>(c x hx).2,λx hx=>?_,λx hx=>?_⟩
 .rcases vg.1 hx with rfl|hx
  .exact p
  .exact k.may x (c x hx).1
 .rcases vg.1 hx with rfl|hx
  ·
   rcases q with h|⟨y,g,b,d⟩
   .exact .inl h
   .by_cases f:(bh x.1).1=[]
    .exact .inl f
    .right;refine⟨y,vg.2 (.inr ?_),b,d⟩;have a:=E4 f;rw[<-b] at a;have hlen:(parts y.1).length<(parts x.1).length:=by
      exact(fU a).1
     have i:y.1≠x.1:=λe=>by rw[e] at hlen;omega
     have m:dZ (parts y.1) (parts x.1)=false:=by
      exact cm λh=>ag
     rcases j with ⟨_,rfl⟩|⟨_,rfl⟩
     .exact zg.2 ⟨g,by simp[i]⟩
     .exact zg.2 ⟨g,by unfold gone;simp[i,m]⟩
  .rcases k.up x (c x hx).1 with h|⟨y,g,b,d⟩
   .exact .inl h
   .by_cases f:(bh x.1).1=[]
    .exact .inl f
    .right;have a:=E4 f;by_cases e:y.1=n.1
     .rcases j with ⟨u,rfl⟩|⟨_,rfl⟩
      .exact⟨n,vg.2 (.inl rfl),by rw[<-e,b],u.2⟩
      .have:=(zg.1 hx).2;rw[<-b,e] at a;unfold gone at this;rw[a] at this;simp at this
     .refine⟨y,vg.2 (.inr ?_),b,d⟩;rcases j with ⟨_,rfl⟩|⟨_,rfl⟩
      .exact zg.2 ⟨g,by simp[e]⟩
      .refine zg.2 ⟨g,?_⟩;have ye:=(zg.1 hx).2;unfold gone at ye⊢;cases o:dZ _ _ with
       | false=>simp[e]
       | true =>
         rw[Nk f b o] at ye;simp at ye
def Nn(a:List bg):Prop:=∀x∈a,47∉x/\x≠[]
def gC(m:Int)(p:bg):Nd:=(p,(2:Int),m,([]:bg),([]:bg),())
def eM(a:List bg)(j:Nat):bg:=aP (a.take<|j+1)
def sY(a:List bg)(k:Nat):List Nd:=(List.range k).map λj=>gC 0 (eM a j)
def VR a k:sY a (k+1)=sY a k++[gC 0<|eM a k]:=by
 unfold sY;rw[adb,TN];rfl
def xI a k:(sY a k).length=k:=by unfold sY;rw[yJ,Re]
def rl{ns}(h:Nn ns){i x}(b:ns[i]?=aa x):rH (aP<|ns.take i) x=eM ns i:=by
 have c:ns.take (i+1)=ns.take i++[x]:=by rw[wN,b];rfl
 have:=M3 [x] _ (λy a=>by
  rw[<-c] at a;exact h y (DC a))
 unfold eM
 grind
def Cz:∀a k,(aP<|a.take k).length<=(aP a).length:=by
 intro a;induction a with
 | nil=>simp
 | cons x r b =>
   intro k;cases k with
   | zero=>simp[aP]
   | succ k =>
     rw[Y2];cases r with
     | nil=>simp
     | cons y r =>
       cases k with
       | zero=>simp[aP]
       | succ k =>
         have:=b (k+1);rw[Y2] at this⊢;simp only[aP,jt,iE] at this⊢;omega
def Eb:∀c x,x∈c->x.length<=(aP c).length:=by
 intro c;induction c with
 | nil=>intro x d;cases d
 | cons a r e =>
   intro x d;cases r with
   | nil =>
     rw[DD] at d;subst d;simp[aP]
   | cons b r =>
     simp only[aP]
     grind
def Js(a:List bg):Prop:=Nn a/\a.length<=16/\(aP a).length<=200
def Js.sZ{ns}(h:Js ns) k:(aP<|ns.take k).length<=200:=gi (Cz ns k) h.2.2
def Js.K4{ns}(h:Js ns){x}(a:x∈ns):x.length<=200:=gi (Eb ns x a) h.2.2
def Js.take{ns}(h:Js ns) k:Js (ns.take k):=⟨λx a=>h.1 x (DC a),by rw[dk];have:=h.2.1;omega,h.sZ k⟩
def Jt a (h:Js a):Loop (hJ (a,())) (((),([]:bg),0,()),([]:List Nd),()) =
  aa (((),aP a,(a.length:Int),()),sY a a.length,()):=by
 obtain⟨t,k,l,_⟩:=rE (f:=hJ (a,())) a (λs i=>(((),s.1,i,()),s.2,())) (λs i x=>(rH s.1 x,s.2++[gC 0 _])) _
  (λs i=>s.1=aP (a.take i)/\s.2=sY a i) (by have:=h.2.1;omega) (λs i x d e b c=>by
   have g:=h.K4 (dW d);have j:=h.sZ i;have hlen:=xI a i;have Hb:=h.2.1;constructor
   .unfold hJ;rw[al e,ao d,ab,H7 _ _ (by rw[c.1];omega) ag,ab,aH (by rw[c.2];simp;omega),b];rfl
   .dsimp only;rw[c.1,c.2,rl h.1 d,VR];exact⟨rfl,rfl⟩) (λs _=>by
   unfold hJ;rw[aq];rfl) ([],[]) ⟨by simp[aP],rfl⟩
 grind
def preB(a:List bg)(k:Nat):Bool:=(List.range k).all λj=>fW (gC 0<|eM a j)
def Np{ns}(h:Nn ns){j}(c:j<ns.length):(bh<|eM ns j).1=aP (ns.take j):=by
 have a:ns.take (j+1)≠[]:=by
  intro e;simp_all
 unfold eM;rw[Cq (λx b=>h x (DC b)) a];rw[TE]
 grind
def xJ{ns}(h:Nn ns) j:parts (eM ns j)=ns.take (j+1):=kg _ λx a=>h x (DC a)
def tS{ns}(h:Nn ns):aP ns=[]↔ns=[]:=by
 constructor
 .intro e;have:=kg ns h;rw[e] at this;exact this.symm
 .rintro rfl;rfl
def Yl{ns}(h:Js ns)(g:ns≠[]){n}(p:n.1=aP ns) :
  Valid (sY ns (ns.length-1)++[n])↔(preB ns (ns.length-1)=true/\fW n=true):=by
 have a:∀j x,(sY ns (ns.length-1)++[n])[j]?=aa x->x.1=eM ns j/\j<ns.length/\(j<ns.length-1->x=gC 0 (eM ns j)):=by
  intro j x hx;rw[Rb,xI] at hx;by_cases b:j<ns.length-1
  .rw[aN b] at hx;unfold sY at hx;rw[Em,JI b] at hx;obtain rfl:=aF hx;exact⟨rfl,ag,λ_=>rfl⟩
  .rw[aJ b] at hx;have:j-(ns.length-1)=0:=by
    grind
   unfold eM
   grind
 constructor
 .intro d;refine⟨?_,d.may n aS⟩;unfold preB;rw[vN];intro j b;refine d.may _ (zd _ ?_);unfold sY
  grind
 .rintro⟨k,q⟩;unfold preB at k;refine⟨?_,?_,?_,?_⟩
  .rw[jt,xI];have:=h.2.1
   grind
  .intro i j x y l hx m;obtain⟨c,f,_⟩:=a i x hx;obtain⟨o,r,_⟩:=a j y m;unfold key;rw[c,o,xJ h.1,xJ h.1];have e:ns.take (j+1)=ns.take (i+1)++(ns.take<|j+1).drop (i+1):=by
    have:=(Fk (i+1)<|ns.take<|j+1).symm
    grind
   rw[e,Vb]
   .decide
   .grind
  .intro x hx;rcases Oi.1 hx with hx|hx
   .obtain⟨j,b,rfl⟩:=Lm.1 hx
    grind
   .grind
  .intro x hx;obtain⟨j,b⟩:=bq.1 hx;obtain⟨c,f,_⟩:=a j x b;rw[c,Np h.1 f];cases j with
   | zero=>left;rfl
   | succ j =>
     right;refine⟨gC 0<|eM ns j,zd _ ?_,rfl,rfl⟩
     grind
def Nq{ns}(h:Js ns)(a:ns≠[]){n}(c:n.1=aP ns)(i:Sm n) :
  ep (n,())=aa (preB ns (ns.length-1)&&fW n,()):=by
 have d:bh n.1=(aP ns.dropLast,ns.getLast a):=by rw[c];exact Cq h.1 a
 have k:=h.sZ (ns.length-1);have b:Js (ns.take<|ns.length-1):=h.take _;have f:sY (ns.take<|ns.length-1) (ns.take<|ns.length-1).length=sY ns (ns.length-1):=by
  rw[dk,wO ag];apply Y0;unfold eM
  grind
 unfold ep;rw[rk n.1 (by have:=i.1;omega),ab,d];dsimp only;rw[TE,rF _ ag,ab,(kg _ b.1),Jt _ b,ab,f];rw[aY<|by rw[c];exact λe=>a ((tS h.1).1 e),aI,ai,aH (by rw[xI];have:=h.2.1;simp;omega),ai];have g:vI (sY ns (ns.length-1)++[n]):=⟨by rw[jt,xI];have:=h.2.1;simp;omega,λx hx=>by
  rcases Oi.1 hx with hx|hx
  .obtain⟨j,o,rfl⟩:=Lm.1 hx;exact⟨h.sZ _,by simp[gC],by simp[gC]⟩
  .rw[DD] at hx;subst hx;exact i⟩
 obtain⟨e,l,m⟩:=mh _ g;rw[gX,l,ab];rw[show aG e 0=_ by
  rw[Rg,gz,<-(Yl h a c),<-m];unfold aG;simp]
def ahp{n}(h:fW n=true):fW (gC 0 n.1)=true:=by
 unfold fW at h⊢;simp at h⊢;exact⟨⟨⟨h.1.1.1,by simp[gC]⟩,by simp[gC]⟩,by simp[Qz,gC]⟩
def y7{ns}(h:Js ns):lh (aP ns,())=aa (preB ns ns.length&&decide (ns≠[]),()):=by
 have c:=h.sZ ns.length;rw[yI] at c;unfold lh;dsimp only;rw[iq _ ag,ab,(kg _ h.1)];have key:∀d k,k+d=ns.length->(∀j,j<k->fW (gC 0<|eM ns j)=true) ->
   ∃r,Loop (gJ (ns,())) ((false,aP<|ns.take k,(k:Int),()),())=aa r/\((r.1=0/\preB ns ns.length=true)\/(r.1=1/\r.2.1.1=false/\preB ns ns.length=false)):=by
  intro d;induction d with
  | zero =>
    intro k n a;obtain rfl:k=ns.length:=ag;refine⟨(0,(false,aP<|ns.take ns.length,ns.length,()),()),?_,.inl ⟨rfl,?_⟩⟩
    .rw[aO];unfold gJ;rw[aq];rfl
    .unfold preB
     grind
  | succ d o =>
    intro k n a;have hx:ns[k]?=aa ns[k]:=fX ag;have p:=h.K4 (ac7<|show k<ns.length by omega);have q:=h.sZ k;have i:=h.sZ (k+1);have Hb:=h.2.1;have step:gJ (ns,()) ((false,aP<|ns.take k,k,()),())=aa (if fW (gC 0<|eM ns k)=true then .inl ((false,eM ns k,((k+1):Int),()),()) else .inr (1,(false,eM ns k,k,()),())):=by
     unfold gJ;dsimp only;have b:=yz (gC 0<|eM ns k) (by show(eM ns k).length<=4096;unfold eM;omega) (by simp[gC]);unfold gC at b;rw[al ag,ao hx,ab,AU _ _ ag ag,ab,rl h.1 hx,b,az ag];unfold gC;cases fW _<;>rfl
    by_cases b:fW (gC 0<|eM ns k)=true
    .rw[aN b] at step;obtain⟨r,l,e⟩:=o (k+1) ag (λj s=>by
      by_cases t:j=k
      .grind
      .exact a j ag)
     exact⟨r,by rw[aO,step];exact l,e⟩
    .rw[aJ b] at step;refine⟨_,by rw[aO,step];rfl,.inr ⟨rfl,rfl,?_⟩⟩;unfold preB
     grind
 obtain⟨r,l,e⟩:=key ns.length 0 ag (λj s=>ag);have f:Loop (gJ (ns,())) ((false,([]),0,()),())=aa r:=by
  have:aP (ns.take 0)=[]:=by simp[aP]
  grind
 rw[f,ab];rcases e with ⟨g,m⟩|⟨g,m,u⟩
 .rw[g,show cK 0 0=true from rfl,ai];unfold nt br;have:=tS h.1
  grind
 .rw[g,m,u];rfl
def vh(a:List bg):Bool:=preB a a.length&&decide (a≠[])
def SX{ns}(a:ns≠[]):preB ns ns.length=(preB ns (ns.length-1)&&fW (gC 0<|aP ns)):=by
 unfold preB;have:eM ns (ns.length-1)=aP ns:=by unfold eM;rw[JG ag]
 grind
def abF{ns}(a:ns≠[]){n}(c:n.1=aP ns):(preB ns (ns.length-1)&&fW n)=(fW n&&vh ns):=by
 unfold vh;rw[SX a];cases b:fW n with
 | false=>simp
 | true =>
   have:=ahp b
   grind
def Ym{n:Nd}(b:n.1=[]):ep (n,())=aa (false,()):=by
 unfold ep;have a:bh ([])=([],[]):=aD;rw[b,rk _ aS,ab,a];rw[rF _ aS,ab,show parts []=[] from rfl];have:=Jt [] ⟨λx c=>(by cases c),aS,(by simp[aP])⟩;rw[this];rfl
def QE{ns}(h:Js ns):mB (aP ns,())=aa (decide (ns=[])||vh ns,()):=by
 unfold mB;by_cases a:ns=[]
 .subst a;rfl
 .have b:=λe=>a ((tS h.1).1 e);have hs:Sm (gC 0 _):=⟨h.2.2,by simp[gC],by simp[gC]⟩;have:=Nq h a rfl hs;unfold gC at this;rw[aY b,this,cm a];unfold vh;rw[SX a,dn a,adl];rfl
def mi(p:Pt)(a:bg):Nd:=(a,p.1.2.1,p.1.2.2.1,p.2.1,p.1.2.2.2.2.2.2.2.1,())
def vx(p:Pt):Bool:=decide (p.1.2.1=1)&&decide (p.2.1=[])
def xK(a:List bg):List bg:=a.dropLast++[(nN<|a.getLastD []).2]
def bU(p:Pt):Int×List bg×Bool :=
 if nM p.1.1=true then
  let a:=names p.1.1
  if(nN<|a.getLastD []).1=1 then(1,xK a,vx p&&vh (xK a))
  else if(nN<|a.getLastD []).1=2 then(2,a.dropLast,vx p&&(decide (a.dropLast=[])||vh a.dropLast))
  else if(nN<|a.getLastD []).1=0 then(0,a,(decide (a=[])&&decide (p.1.2.1=2))||(fW (mi p<|aP a)&&vh a))
  else(0,[],false)
 else(0,[],false)
def CA{s}(h:nM s=true):Js (names s):=by
 obtain⟨b,c,d⟩:=rI h;exact⟨λx a=>⟨(wJ s x a).1,(wJ s x a).2.1⟩,ag,ag⟩
def E5{s}(h:nM s=true):((names s).getLastD []).length<=96:=by
 obtain⟨b,c,d⟩:=rI h;cases hn:names s with
 | nil=>simp
 | cons a r =>
   have:(a::r).getLastD []∈names s:=by
    grind
   have:=Eb _ _ this;omega
def yA{ns}(h:Nn ns):bh (aP ns)=(aP ns.dropLast,ns.getLastD []):=by
 by_cases a:ns=[]
 .subst a;decide
 .rw[Cq h a]
  grind
def Nr{n}(h:(nN n).1=1):(nN n).2=n.drop 4/\n.drop 4≠[]:=by
 unfold nN at h⊢
 grind
def Ns n:(nN n).1=0\/(nN n).1=1\/(nN n).1=2\/(nN n).1=3:=by
 unfold nN
 grind
def ae7 d n:(rH d n).length<=d.length+n.length+1:=by
 unfold rH
 grind
def Ie{s}(h:nM s=true)(g:(nN<|(names s).getLastD []).1=1):rH (aP (names s).dropLast) (nN<|(names s).getLastD []).2=aP (xK<|names s)/\Js (xK<|names s):=by
 have a:=CA h;obtain⟨e,d⟩:=Nr g;have b:(names s).getLastD []∈names s:=by
  grind
 have c:Nn (xK<|names s):=λx hx=>by
  rcases Oi.1 hx with hx|hx
  .exact a.1 x (by rw[TE] at hx;exact DC hx)
  .rw[DD] at hx;subst hx;rw[e];exact⟨λq=>(a.1 _ b).1 (PH q),d⟩
 have f:rH _ (nN _).2=aP (xK<|names s):=M3 [_] _ c;refine⟨f,c,?_,?_⟩
 .unfold xK;have:=a.2.1
  grind
 .rw[<-f];have i:=ae7 (aP (names s).dropLast) (nN<|(names s).getLastD []).2;have j:=E5 h;have k:(aP (names s).dropLast).length<=96:=by
   rw[TE];have:=Cz (names s) ((names s).length-1);have:=(rI h).2.2;omega
  grind
def Dm{ns}(h:Js ns):Js ns.dropLast:=by
 rw[TE];apply h.take
def SmP(p:Pt):Prop:=p.1.1.length<=300/\p.1.2.2.2.2.2.2.2.1.length<=300/\p.2.1.length<=8192
def CB p (h:SmP p):oT (p,())=aa ((bU p).1,aP (bU p).2.1,(bU p).2.2,()):=by
 unfold oT;rw[SO p.1.1 (by have:=h.1;omega),ab];unfold bU;cases c:nM p.1.1 with
 | false =>
   have:lE p.1.1=([],2):=by unfold lE;rw[c];rfl
   rw[this];rfl
 | true =>
   have f:lE p.1.1=(aP<|names p.1.1,0):=by unfold lE;rw[c];rfl
   have a:=CA c;have k:=(rI c).2.2;rw[f];dsimp only;rw[ wx _ ag,ab,yA a.1];dsimp only;rw[Jm,ab];have i:∀A,(ak (ak (aG p.1.2.1 1) (br p.2.1 []) false) A<|some false)=if vx p=true then A else aa false:=λA=>by
    unfold vx aG br;by_cases d:p.1.2.1=1
    .by_cases n:p.2.1=[]
     .simp[ ak]
     .simp[ ak]
    .simp[ ak]
   have j:=E5 c;rcases Ns _ with b|b|b|b
   .rw[b];unfold sv;rw[ab];rw[show lL ((aP _,_),())=_ from(yz (mi p _) (by show(aP _).length<=4096;omega) (by show p.1.2.2.2.2.2.2.2.1.length<=4096;have:=h.2.1;omega)),y7 a];have g:ak (br (aP<|names p.1.1) []) (aG p.1.2.1 2) false=(decide (names p.1.1=[])&&decide (p.1.2.1=2)):=by
     have:=tS a.1;unfold br aG;by_cases d:names p.1.1=[]
     .rw[dn d,dn (this.2 d)];simp[ak]
     .rw[cm d,cm λe=>d (this.1 e)];rfl
    rw[g];cases decide (names p.1.1=[])&&decide (p.1.2.1=2) with
    | true=>rfl
    | false =>
      cases fW _<;>rfl
   .obtain⟨l,m⟩:=Ie c b;rw[b,AU _ _ (by have:=(Dm a).2.2;omega) (by rw[(Nr b).1,qU];omega),ab,l];rw[y7 m,i];cases vx p<;>rfl
   .rw[b];have hd:=Dm a;rw[y7 hd,i];have g:br (aP (names p.1.1).dropLast) []=decide ((names p.1.1).dropLast=[]):=by
     have:=tS hd.1;unfold br
     grind
    rw[g];cases vx p<;>cases decide ((names p.1.1).dropLast=[])<;>rfl
   .rw[b];rfl
set_option maxRecDepth 100000
end Go.Ge
namespace Go.Ge
variable [Lp]
set_option maxRecDepth 100000
def s6(i:Nat)(n:Nat)(x:UInt8):Option (Nat⊕(Nat×(Int×Bool×Int×Int×aj)×aj)) :=
 aa (if x.toNat<48\/55<x.toNat then .inr (1,(0,false,(n:Int),(i:Int),()),()) else .inl (8*n+(x.toNat-48)))
def CC(i:Nat)(n:Nat):Nat×(Int×Bool×Int×Int×aj)×aj:=(0,(0,false,(n:Int),(i:Int),()),())
def Nt{i n b x}(c:i<=21/\n<8 ^ i)(d:i<21)(a:s6 i n x=aa (.inl b)):i+1<=21/\b<8 ^ (i+1):=by
 have a:=aF a;split at a
 .cases a
 .obtain rfl:=TR a;omega
def ZX{i}(h:i<=20):8 ^ i<=1152921504606846976:=by
 have:8 ^ i<=8 ^ 20:=Nat.pow_le_pow_right aD h;omega
def Ec s (hs:s.length<=21):Loop (bO (s,())) ((0,false,0,0,()),())=va s6 CC s 0 0:=by
 have key:=qc (f:=bO (s,())) s (λ(n:Nat) i=>((0,false,n,i,()),())) s6 CC (λi n=>i<=21/\n<8 ^ i)
  (λn i x c g d=>by
   have l:=ZX (i:=i) ag;obtain⟨m,j⟩:=hR.1 c;unfold bO s6;dsimp only;rw[lD,aT ag,aE ag ag,zK s g,j,ab,az ag];by_cases a:x.toNat<48
   .rw[aT<|by unfold u8;omega,aN (.inl a)];rfl
   .by_cases b:55<x.toNat
    .rw[aC<|by unfold u8;omega,aI,ai,aT (by unfold u8;omega),aN (.inr b)];rfl
    .rw[aC<|by unfold u8;omega,aC (by unfold u8;omega),aJ ag];have e:u8 x=((48+(x.toNat-48):Nat):Int):=by unfold u8;omega
     rw[e,amM ag ag];rfl)
  (λn i x o c d k=>Nt d (by have:=av c;omega) k)
  (λn d=>by
   unfold bO CC;dsimp only;rw[lD,aC ag,ah])
  (λ_ _ _ _ _ h=>by cases h) 0 ⟨ag,aD⟩
 exact key
def Ig s (hs:s.length<=21):Loop (gu (s,())) ((0,false,0,0,()),())=va s6 CC s 0 0:=by
 have key:=qc (f:=gu (s,())) s (λ(n:Nat) i=>((0,false,n,i,()),())) s6 CC (λi n=>i<=21/\n<8 ^ i)
  (λn i x c g d=>by
   have k:=ZX (i:=i) ag;unfold gu s6;dsimp only;rw[al g,ai,ao c,ab,ab,ab,az ag];by_cases a:x.toNat<48
   .rw[aT<|by unfold u8;omega,aV,ah,aN (.inl a)];rfl
   .by_cases b:55<x.toNat
    .rw[aC<|by unfold u8;omega,aI,ai,ab,aT (by unfold u8;omega),aN (.inr b)];rfl
    .rw[aC<|by unfold u8;omega,aI,ai,aC (by unfold u8;omega),aC ag,aJ ag];have e:u8 x=((48+(x.toNat-48):Nat):Int):=by unfold u8;omega
     rw[e,ain ⟨x.toNat-48,ag⟩,zI ag ag,eA ag ag];rfl)
  (λn i x l c d j=>Nt d (by have:=av c;omega) j)
  (λn d=>by
   unfold gu CC;rw[aq,ah])
  (λ_ _ _ _ _ h=>by cases h) 0 ⟨ag,aD⟩
 exact key
def Pj:∀r i n,∃q,va s6 CC r i n=aa q/\(q.1=0\/q.1=1):=by
 intro r;induction r with
 | nil=>intro i n;exact⟨_,rfl,.inl rfl⟩
 | cons x r a =>
   intro i n;unfold va s6;by_cases h:x.toNat<48\/55<x.toNat
   .rw[aN h];exact⟨_,rfl,.inr rfl⟩
   .rw[aJ h];apply a
def CD s (hs:s.length<=1048576):dI (s,())=ny (s,())/\∃n b,dI (s,())=aa (n,b,()):=by
 unfold dI ny;dsimp only;by_cases e:s.length<1
 .rw[aT<|by rw[bw];omega];exact⟨rfl,_,_,rfl⟩
 .by_cases f:21<s.length
  .rw[aC<|by rw[bw];omega,aI,ai,aT (by rw[bw];omega)];exact⟨rfl,_,_,rfl⟩
  .rw[aC<|by rw[bw];omega,aC (by rw[bw];omega),dU (by rw[bw];omega),Ec s ag,Ig s ag];refine⟨rfl,?_⟩;obtain⟨q,a,d⟩:=Pj s 0 0;rw[a,ab];rcases d with c|c
   .rw[c];exact⟨_,_,rfl⟩
   .rw[c];exact⟨_,_,rfl⟩
end Go.Ge
namespace Go.Ge
variable [Lp]
def ae8{g S R:Type}{f}(l:List g)(a:Nat->S)(p:g->Bool)(b:Nat->R) fin
  (h:∀i x,l[i]?=aa x->f (a i)=aa (if p x=true then .inr (b i) else .inl (a<|i+1))) (c:f (a l.length)=aa (.inr fin)) :
  ∀d i,i+d=l.length->(∃(j:Nat) (x:g),i<=j/\l[j]?=aa x/\p x=true/\(∀m y,i<=m->m<j->l[m]?=aa y->p y=false)/\Loop f (a i)=aa (b j)) \/
   ((∀m y,i<=m->l[m]?=aa y->p y=false)/\Loop f (a i)=aa fin):=by
 intro d;induction d with
 | zero =>
   intro i q;obtain rfl:i=l.length:=ag;refine .inr ⟨λm y e o=>?_,by rw[aO,c];rfl⟩
   grind
 | succ d r =>
   intro i q;have hx:l[i]?=aa l[i]:=fX ag;have hs:=h i _ hx;by_cases k:p l[i]=true
   .rw[aN k] at hs;exact .inl ⟨i,_,bX _,hx,k,λm y e s=>absurd e ag,by rw[aO,hs];rfl⟩
   .rw[aJ k] at hs;rcases r (i+1) ag with ⟨j,x,t,n,u,z,v⟩|⟨t,n⟩
    .refine .inl ⟨j,x,ag,n,u,λm y e w o=>?_,by rw[aO,hs];exact v⟩
     grind
    .refine .inr ⟨λm y e o=>?_,by rw[aO,hs];exact n⟩
     grind
def VS p s:∃z,s=dq p s++z/\∀x∈z,p x=true:=by
 refine⟨(s.reverse.takeWhile p).reverse,?_,λx a=>?_⟩
 .unfold dq;rw[<-List.reverse_append,BA,List.reverse_reverse]
 .rw[List.mem_reverse] at a;exact H5 a
def VT{p s m x}(b:s[m]?=aa x)(c:p x=false):m<(dq p s).length/\∀j,j<=m->(dq p s)[j]?=s[j]?:=by
 obtain⟨z,d,a⟩:=VS p s
 grind
def AZ{p s j}(c:∀m y,j<=m->s[m]?=aa y->p y=true)(d:∀m y,m<j->s[m]?=aa y->p y=false):dq p s=s.take j:=by
 conv=>lhs;rw[((Fk j s).symm)]
 rw[Qn _ _ λx a=>by
  obtain⟨i,b⟩:=bq.1 a;rw[tu] at b;exact c _ x ag b]
 refine aeR λx a=>?_
 grind
def Nu(x:UInt8):Bool:=decide (48<=x.toNat/\x.toNat<=55)
def ae9{x}(h:Nu x=true):BG x=false:=by
 unfold Nu at h;cases a:BG x with
 | false=>rfl
 | true =>
   rcases(Vt x).1 a with e|e
   .simp_all
   .simp_all
def VU:∀r i n x,x∈r->Nu x=false->∃q,va s6 CC r i n=aa q/\q.1=1/\q.2.1.2.1=false:=by
 intro r;induction r with
 | nil=>intro i n x hx;cases hx
 | cons a r c =>
   intro i n x hx b;unfold va s6;by_cases h:a.toNat<48\/55<a.toNat
   .simp_all
   .rw[aJ h];rcases fI.1 hx with e|hx
    .subst e;unfold Nu at b
     grind
    .exact c _ _ x hx b
def Pk{s}(c:s.length<=21){x}(a:x∈s)(d:Nu x=false):∃n,dI (s,())=aa (n,false,()):=by
 have b:=List.length_pos_of_mem a;unfold dI;dsimp only;rw[aC<|by rw[bw];omega,aI,ai,aC (by rw[bw];omega),ah,dU (by rw[bw];omega),ai,Ec s c];obtain⟨q,e,f,g⟩:=VU s 0 0 x a d;rw[e,ab,f,gM,ah,g]
 grind
def amN x:cw 48 (u8 x)=decide (48<=x.toNat):=by unfold u8;apply gO.2;omega
def amO x:cw (u8 x) 55=decide (x.toNat<=55):=by unfold u8;apply gO.2;omega
def rK s (hs:s.length<=21):ft (s,())=dA (s,()):=by
 unfold ft dA;rw[GJ s ag,ab];have first:=ae8 (f:=nB (s,())) s (λi=>((i,()),())) (λx=>!Nu x) _ _ (λi x u=>by
  have hi:=av u;unfold nB;rw[al hi,ai,ao u,ab,ab,ab,amN,amO,az ag];unfold Nu;by_cases c:48<=x.toNat
  .by_cases a:x.toNat<=55
   .rw[dn c,dn a,dn ⟨c,a⟩];rfl
   .rw[dn c,cm a,cm λq=>a q.2];rfl
  .rw[cm c,cm λq:48<=x.toNat/\x.toNat<=55=>c q.1];rfl) (by
  unfold nB;rw[aq];rfl) s.length 0 ag
 rcases first with ⟨j,x,_,u,A,p,v⟩|⟨r,v⟩
 .rw[show Loop _ (((0:Int),()),())=_ from v,ab];have E:=av u;dsimp only;rw[ar<|by rw[bw];omega];have second:=ae8 (f:=nC (s,())) s (λi=>((0,i,()),())) (λx=>!BG x) _ _ (λi y d=>by
   have hi:=av d;have B:aG _ 0=decide (y=0):=D7 (n:=0);have w:aG _ 32=decide (y=32):=D7 (n:=32);unfold nC;rw[al hi,ao d,ab,ab,B,w,az ag];have g:=Vt y;by_cases c:y=0
   .rw[dn c,g.2 (.inl c)];rfl
   .by_cases a:y=32
    .rw[cm c,dn a,g.2 (.inr a)];rfl
    .rw[cm c,cm a,show BG y=false by
     cases C:BG y with
     | false=>rfl
     | true=>rcases g.1 C with e|e
             .grind
             .exact absurd e a];rfl) (by
   unfold nC;rw[aq,ah]) (s.length-j) j ag
  rcases second with ⟨m,y,o,d,D,_,h⟩|⟨k,h⟩
  .rw[show Loop _ _=_ from h,ab];obtain⟨F,G⟩:=VT d (by simpa using D);have t:x∈dq BG s:=by
    grind
   have hlen:=px BG s;obtain⟨n,hn⟩:=Pk ag t (by simpa using A);rw[hn];rfl
  .rw[show Loop _ _=_ from h];have l:=AZ (λm y o d=>by simpa using k m y o d) (λm y o d=>ae9 (by simpa using p m y (pF _) o d));have z:inside 0 j (len s)=true:=jd (pF _) ag;rw[z,fV,l];obtain⟨c,n,b,a⟩:=CD (s.take j) (by rw[dk];omega);rw[<-c,a];rw[ar<|by rw[bw,bw,dk];omega];cases b<;>rfl
 .rw[show Loop _ (((0:Int),()),())=_ from v,ab,au (by rw[bw])];have l:dq BG s=s:=by
   have:=AZ (s:=s) (j:=s.length) (λm y o d=>by have:=av d;omega) (λm y o d=>ae9 (by simpa using r m y (pF _) d))
   grind
  rw[l];obtain⟨_,n,b,a⟩:=CD s ag;rw[a];rw[au rfl];cases b<;>rfl
def Ih s (hs:s.length<=1000):∃t v,oV (s,())=aa (t,v,())/\kq (s,())=aa (dq db s,v,())/\(v=true->t=dq db s)/\t.length<=s.length:=by
 have w:∀y,aG _ 0=db y:=λy=>rfl;rw[GL s ag];unfold oV;have inner:∀i,i<=s.length->_:=λi A=>ae8 (f:=gT (s,())) s (λk=>((([]),false,k,()),())) (λx=>!db x) _ _ (λk y a=>by
  have E:=av a;unfold gT;rw[al E,ao a,ab,w,az ag];cases db y<;>rfl) (by
  unfold gT;rw[aq,ah]) (s.length-i) i ag
 have outer:(∃(i:Nat) (x:UInt8),s[i]?=aa x/\db x=true/\(∀(m:Nat) (y:UInt8),m<i->s[m]?=aa y->db y=false)/\Loop (dM (s,())) ((([]:bg),false,(0:Int),()),())=(ae (Loop (gT (s,())) ((([]:bg),false,(i:Int),()),())) λn=>aa (if n.1=0 then(1,(s.take i,true,(i:Int),()),()) else(1,(n.2.1.1,n.2.1.2.1,i,()),())))) \/
   ((∀(m:Nat) (y:UInt8),s[m]?=aa y->db y=false)/\Loop (dM (s,())) ((([]:bg),false,0,()),())=aa (0,(([]:bg),false,(s.length:Int),()),())):=by
  have key:∀d i,i+d=s.length->(∀m y,m<i->s[m]?=aa y->db y=false)->(∃(j:Nat) (x:UInt8),s[j]?=aa x/\db x=true/\(∀m y,m<j->s[m]?=aa y->db y=false)/\Loop (dM (s,())) ((([]:bg),false,(i:Int),()),())=(ae (Loop (gT (s,())) ((([]:bg),false,j,()),())) λn=>aa (if n.1=0 then(1,(s.take j,true,(j:Int),()),()) else(1,(n.2.1.1,n.2.1.2.1,j,()),())))) \/
   ((∀(m:Nat) y,s[m]?=aa y->db y=false)/\Loop (dM (s,())) ((([]),false,(i:Int),()),())=aa (0,(([]),false,(s.length:Int),()),())):=by
   intro d;induction d with
   | zero =>
     intro i A o;obtain rfl:i=s.length:=ag;refine .inr ⟨λm y a=>o m y (av a) a,?_⟩;have u:dM (s,()) ((([]),false,(s.length:Int),()),())=aa (.inr (0,(([]),false,s.length,()),())):=by
      unfold dM;rw[aq,ah]
     rw[aO,u];rfl
   | succ d F =>
     intro i A o;have hx:s[i]?=aa s[i]:=fX ag;cases hn:db s[i] with
     | true =>
       refine .inl ⟨i,s[i],hx,hn,o,?_⟩;have p:∃z,Loop (gT (s,())) ((([]),false,(i:Int),()),())=aa z/\(z.1=0\/z.1=1):=by
        grind
       obtain⟨z,u,G⟩:=p;have B:inside 0 i (len s)=true:=jd (pF _) ag;have r:dM (s,()) ((([]:bg),false,(i:Int),()),())=aa (.inr<|if z.1=0 then(1,(s.take i,true,i,()),()) else(1,(z.2.1.1,z.2.1.2.1,i,()),())):=by
        unfold dM;rw[al<|show i<s.length by omega,ai,ao hx,ab,w,hn,ai,u,ab];rcases G with c|c
        .rw[c,cV,ai,B,ai,fV,aN rfl]
        .rw[c,gM,ah,aJ aD]
       rw[u,aO,r];rfl
     | false =>
       have r:dM (s,()) ((([]),false,i,()),())=aa (.inl ((([]),false,((i+1:Nat):Int),()),())):=by
        unfold dM;rw[al<|show i<s.length by omega,ai,ao hx,ab,w,hn,ah,az ag]
       rw[aO,r];exact F _ ag (λm y b a=>by
        by_cases e:m=i
        .grind
        .exact o m y ag a)
  exact key s.length 0 ag (λm y b=>absurd b ag)
 rcases outer with ⟨i,x,hx,hn,o,C⟩|⟨l,C⟩
 .rw[C];have A:=av hx;rcases inner i ag with ⟨j,y,H,a,I,_,h⟩|⟨J,h⟩
  .rw[show Loop _ _=_ from h,ab,ab,aJ (show ¬1=0 by decide),gM,ah];obtain⟨L,K⟩:=VT a (by simpa using I);have:¬zN _:=λq=>by
    have b:=bq.2 ⟨i,by rw[K i H,hx]⟩;exact q x b ((zM x).1 hn)
   grind
  .rw[show Loop _ _=_ from h,ab,aN rfl];have g:=AZ (λm y b a=>by simpa using J m y b a) (λm y b a=>o m y b a);refine⟨_,true,rfl,?_,λ_=>g.symm,by rw[dk];omega⟩;have:zN (dq db s):=λy a=>by
    rw[g] at a;obtain⟨m,b⟩:=bq.1 a;have D:=av b;rw[dk] at D;rw[List.getElem?_take_of_lt ag] at b;intro e;have:=o m y ag b;rw[(zM y).2 e] at this;cases this
   grind
 .rw[C,ab,cV,ai];have g:dq db s=s:=by
   have:=AZ (j:=s.length) (λm y b a=>by have:=av a;omega) (λm y b a=>l m y a)
   grind
  have:zN (dq db s):=λy a e=>by
   rw[g] at a;obtain⟨m,b⟩:=bq.1 a;have:=l m y b;rw[(zM y).2 e] at this;cases this
  grind
def uK b (c:b.length=512) (a e:Nat) (h:a<=e) (d:e<=512):inside a e (len b)=true/\sub b a (minus e a)=gB b a (e-a):=by
 refine⟨jd h ag,?_⟩;unfold sub minus gB
 grind
def afa p q r (H c:Hd) (d:p=true->q=true->r=true->c=H) (e:c.1.length<=1048576) (f:c.2.2.2.2.2.2.2.1.length<=1048576) :
  ae (ak (nt<|ak (nt<|ak (nt<|nt p) (nt q) true) (nt r) true) (ae (u7 (c,256,())) λa=>aa (nt a.1))<|some true) (λa=>ak a (aa (abw,(2:Int),())) (aa (c,0,()))) =
  ae (ak (nt<|ak (nt<|ak (nt<|nt p) (nt q) true) (nt r) true) (ae (rv (H,256,())) λb=>aa (nt b.1))<|some true) (λb=>ak b (aa (abw,2,())) (aa (H,0,()))):=by
 rw[ahk c 256 e f,Vx,ab,ab];cases p with
 | false=>rfl
 | true =>
   cases q with
   | false=>rfl
   | true =>
     cases r with
     | false=>rfl
     | true=>rw[d rfl rfl rfl]
def take_same(b:bg)(a:b.length=512):oW (b,())=fe (b,()):=by
 obtain⟨N,o⟩:=eR (gB b 148 8) (by have:=cP b 148 8;omega);have r6:=rK (gB b 148 8) (by have:=cP b 148 8;omega);obtain⟨q,r⟩:=uK b a 257 265 ag ag;obtain⟨F,G⟩:=uK b a 148 156 ag ag;have p:aG (len b) 512=true:=au (by simp only[len];omega);by_cases i:gB b 257 8=rJ
 case neg =>
  rw[E2 b a i];unfold oW;rw[p,aV,aI,ai,show inside (257:Int) (265:Int) (len b)=true from q,ai,show sub b (257:Int) (minus (265:Int) (257:Int))=gB b 257 8 from r,show([117,115,116,97,114,0,48,48]:bg)=rJ from rfl,show br (gB b 257 8) rJ=false from cm i,aI,ab,aV,ah,ab,ai];rfl
 by_cases hs:N=(Bk b 512:Int)
 case neg =>
  rw[VE b a o hs];unfold oW;rw[p,aV,aI,ai,show inside (257:Int) (265:Int) (len b)=true from q,ai,show sub b (257:Int) (minus (265:Int) (257:Int))=gB b 257 8 from r,show([117,115,116,97,114,0,48,48]:bg)=rJ from rfl,i,show br rJ rJ=true from zy _,aV,ab,aI,ai,show inside (148:Int) (156:Int) (len b)=true from F,ai,show sub b (148:Int) (minus (156:Int) (148:Int))=gB b 148 8 from G,r6,o,ab,GQ b ag,ab];rw[a,ar hs,aI,ab,ai];rfl
 obtain⟨n1,H⟩:=eR (gB b 100 8) (by have:=cP b 100 8;omega);obtain⟨n2,I⟩:=eR (gB b 108 8) (by have:=cP b 108 8;omega);obtain⟨n3,J⟩:=eR (gB b 116 8) (by have:=cP b 116 8;omega);obtain⟨n4,K⟩:=eR (gB b 124 12) (by have:=cP b 124 12;omega);obtain⟨n5,L⟩:=eR (gB b 136 12) (by have:=cP b 136 12;omega);have r1:=(rK (gB b 100 8) (by have:=cP b 100 8;omega)).trans H;have r2:=(rK (gB b 108 8) (by have:=cP b 108 8;omega)).trans I;have O:=(rK (gB b 116 8) (by have:=cP b 116 8;omega)).trans J;have P:=(rK (gB b 124 12) (by have:=cP b 124 12;omega)).trans K;have Q:=(rK (gB b 136 12) (by have:=cP b 136 12;omega)).trans L;have m0:=cP b 0 100;have m8:=cP b 157 100;have m10:=cP b 345 155;obtain⟨h,R,s,t,u,S⟩:=Ih (gB b 0 100) ag;obtain⟨T,U,v,w,y,V⟩:=Ih (gB b 157 100) ag;obtain⟨d,z,j,k,l,M⟩:=Ih (gB b 345 155) ag;have l0:=px db (gB b 0 100);have l10:=px db (gB b 345 155);obtain⟨W,X⟩:=uK b a 0 100 ag ag;obtain⟨i8,Y⟩:=uK b a 157 257 ag ag;obtain⟨A,B⟩:=uK b a 345 500 ag ag;obtain⟨Z,s1⟩:=uK b a 100 108 ag ag;obtain⟨i2,s2⟩:=uK b a 108 116 ag ag;obtain⟨i3,s3⟩:=uK b a 116 124 ag ag;obtain⟨i4,s4⟩:=uK b a 124 136 ag ag;obtain⟨i5,s5⟩:=uK b a 136 148 ag ag;obtain⟨c,hk,f7⟩:∃c,b[156]?=aa c/\gB b 156 1=[c]:=by
  refine⟨b[156],fX ag,?_⟩;unfold gB;rw[BK ag];rfl
 unfold fe;rw[p,aV,aI,ai,o9 b a,ab,ab,show([117,115,116,97,114,0,48,48])=rJ from rfl];rw[i,show br rJ rJ=true from zy _,aV,aI,ai,o6 b a,ab];rw[o,ab,Ib b ag,ab];rw[a,au hs,aV,ab,ah,o0 b a,ab];rw[t,ab,o8 b a,ab];rw[w,ab,o10 b a,ab];rw[k,ab];have m:(ak (nt<|br (dq db<|gB b 345 155) []) (ak (fits<|plus (len<|dq db<|gB b 345 155)<|len ([47]:bg)) (ak (fits<|plus (len<|app (dq db<|gB b 345 155) [47])<|len<|dq db<|gB b 0 100)
   (aa ((app (app (dq db<|gB b 345 155) [47])<|dq db<|gB b 0 100,()),())) af) af)<|some ((dq db<|gB b 0 100,()),()))=aa ((if dq db (gB b 345 155)=[] then dq db (gB b 0 100) else dq db (gB b 345 155)++[47]++dq db (gB b 0 100),()),()):=by
  by_cases e:dq db (gB b 345 155)=[]
  .rw[aN e,ck e,aV,ah]
  .rw[aJ e,aY e,aI,ai,dU (by simp only[plus,len,iE,pM];omega),ai,dU (by simp only[plus,len,app,jt,iE,pM];omega),ai];rfl
 rw[m,ab,o1 b a,ab];rw[H,ab,o2 b a,ab];rw[I,ab,o3 b a,ab];rw[J,ab,o4 b a,ab];rw[K,ab,o5 b a,ab];rw[L,ab,o7 b a,ab,f7];unfold oW;rw[p,aV,aI,ai,show inside 257 265 _=true from q,ai,show sub b 257 (minus 265 257)=gB b 257 8 from r,show([117,115,116,97,114,0,48,48])=rJ from rfl,i,show br rJ rJ=true from zy _,aV,ab,aI,ai,show inside 148 156 _=true from F,ai,show sub b 148 (minus 156 148)=gB b 148 8 from G,r6,o,ab,GQ b ag,ab];rw[a,au hs,ab];rw[show inside 0 100 _=true from W,show sub b 0 (minus 100 0)=gB b 0 100 from X,s,ab];rw[show inside 157 257 _=true from i8,show sub b 157 (minus 257 157)=gB b 157 100 from Y,v,ab];rw[show inside 345 500 _=true from A,show sub b 345 (minus 500 345)=gB b 345 155 from B,j,ab];rw[show inside 100 108 _=true from Z,show sub b 100 (minus 108 100)=gB b 100 8 from s1,r1,ab];rw[show inside 108 116 _=true from i2,show sub b 108 (minus 116 108)=gB b 108 8 from s2,r2,ab];rw[show inside 116 124 _=true from i3,show sub b 116 (minus 124 116)=gB b 116 8 from s3,O,ab];rw[show inside 124 136 _=true from i4,show sub b 124 (minus 136 124)=gB b 124 12 from s4,P,ab];rw[show inside 136 148 _=true from i5,show sub b 136 (minus 148 136)=gB b 136 12 from s5,Q,ab];have f:∀(x:Int×Int×Int×Int×Int×Int×bg×aj),(ak (nt<|br d []) (ak (fits<|plus (len d)<|len ([47]:bg)) (ak (fits<|plus (len<|app d [47])<|len h)
   (aa ((),(app (app d [47]) h,x),())) af) af)<|some ((),_))=aa ((),(if d=[] then h else d++[47]++h,x),()):=λx=>by
  by_cases e:d=[]
  .rw[aN e,ck e,aV,ah]
  .rw[aJ e,aY e,dU (by simp only[plus,len,iE,pM];omega),ai,dU (by simp only[plus,len,app,jt,iE,pM];omega)];rfl
 rw[f,ab,show idx b 156=aa c from ao hk,ab];have C:br [c] [48]=decide (c=48):=gO.2 aS;have c0:br [c] [0]=decide (c=0):=gO.2 aS;have c53:br [c] [53]=decide (c=53):=gO.2 aS;have D:br [c] [50]=decide (c=50):=gO.2 aS;have d48:aG _ 48=decide (c=48):=D7 (n:=48);have d0:aG _ 0=decide (c=0):=D7 (n:=0);have d53:aG _ 53=decide (c=53):=D7 (n:=53);have d50:aG _ 50=decide (c=50):=D7 (n:=50);rw[C,c0,c53,D,d48,d0,d53,d50];have g:(if d=[] then h else d++[47]++h).length<=1048576:=by
  grind
 refine afa R U z _ _ (λa0 a8 E=>?_) ?_ ?_
 .rw[u a0,y a8,l E];all_goals cases decide _<;>cases decide (c=0)<;>cases decide (c=53)<;>cases decide (c=50)
 .cases decide (c=48)<;>cases decide (c=0)<;>cases decide (c=53)<;>cases decide (c=50)<;>exact g
 .have h8:T.length<=1048576:=ag;have hn:([]:bg).length<=1048576:=aS;cases decide (c=48)<;>cases decide (c=0)<;>cases decide (c=53)<;>cases decide (c=50)<;>first|exact hn|exact h8
abbrev Stp:=((bg×aj)⊕((bg×aj)⊕(aj⊕((Nd×aj)⊕aj))))
def ZY(p:Pt)(w:Int×List bg×Bool):Stp :=
 if w.1=1 then .inl (aP w.2.1,()) else if w.1=2 then .inr (.inl (aP w.2.1,())) else if w.2.1=[] then .inr (.inr<|.inl ()) else .inr (.inr<|.inr<|.inl (mi p<|aP w.2.1,()))
def yB(p:Pt):Stp:=ZY p (bU p)
def Nv p A:(ak (ak (aG p.1.2.1 1) (br p.2.1 []) false) A<|some false)=if vx p=true then A else aa false:=by
 unfold vx aG br;by_cases a:p.1.2.1=1
 .by_cases b:p.2.1=[]
  .simp[ ak]
  .simp[ ak]
 .simp[ ak]
def abG a:xK a≠[]:=by unfold xK;simp
def afb p (k:SmP p):∃s,su (p,())=aa (s,(bU p).2.2,())/\((bU p).2.2=true->s=yB p):=by
 unfold su;rw[Qr p.1.1 (by have:=k.1;omega),ab];unfold yB;cases c:nM p.1.1 with
 | false =>
   have:lE p.1.1=([],2):=by unfold lE;rw[c];rfl
   have f:bU p=(0,[],false):=by unfold bU;rw[c,aJ aS]
   rw[this,f];exact⟨_,rfl,λh=>by cases h⟩
 | true =>
   have l:lE p.1.1=(aP<|names p.1.1,0):=by unfold lE;rw[c];rfl
   have d:=CA c;have q:=(rI c).2.2;have o:=E5 c;rw[l];dsimp only;rw[ rk _ ag,ab,yA d.1];dsimp only;rw[VA,ab];rcases Ns _ with b|b|b|b
   .have f:bU p=(0,names p.1.1,(decide (names p.1.1=[])&&decide (p.1.2.1=2))||(fW (mi p<|aP<|names p.1.1)&&vh (names p.1.1))):=by
     unfold bU;rw[c,aN rfl];dsimp only;rw[b,aJ aD,aJ aD,aN rfl]
    rw[f,b];unfold ZY;have g:=tS d.1;by_cases a:names p.1.1=[]
    .have i:=g.2 a;rw[dn a,ck i,aN a];by_cases j:p.1.2.1=2
     .rw[au j,dn j];exact⟨_,rfl,λ_=>rfl⟩
     .rw[ar j,cm j];have:=Ym (n:=mi p _) i;rw[show ep ((aP<|names p.1.1,_),())=_ from this];have m:vh (names p.1.1)=false:=by unfold vh;rw[a];rfl
      rw[m];simp only[adg];exact⟨_,rfl,λh=>by cases h⟩
    .have i:=λe=>a (g.1 e);rw[cm a,aY i,aJ a];have hs:Sm (mi p<|aP<|names p.1.1):=⟨by show(aP _).length<=200;omega,k.2.1,k.2.2⟩;have:=Nq d a rfl hs;rw[abF a rfl] at this;rw[show ep ((aP _,_),())=_ from this];exact⟨_,rfl,λ_=>rfl⟩
   .obtain⟨r,t⟩:=Ie c b;have f:bU p=(1,xK<|names p.1.1,vx p&&vh (xK<|names p.1.1)):=by
     unfold bU;rw[c,aN rfl];dsimp only;rw[b,aN rfl]
    rw[f,b,H7 _ _ (by have:=(Dm d).2.2;omega) (by rw[(Nr b).1,qU];omega),ab,r];rw[QE t,Nv,cm (abG _)];refine⟨.inl _,?_,λ_=>rfl⟩;cases vx p<;>rfl
   .have hd:=Dm d;have f:bU p=(2,(names p.1.1).dropLast,vx p&&(decide ((names p.1.1).dropLast=[])||vh (names p.1.1).dropLast)):=by
     unfold bU;rw[c,aN rfl];dsimp only;rw[b,aJ aD,aN rfl]
    rw[f,b];rw[QE hd,Nv];refine⟨.inr _,?_,λ_=>rfl⟩;cases vx p<;>rfl
   .have f:bU p=(0,[],false):=by
     unfold bU;rw[c,aN rfl];dsimp only;rw[b,aJ aD,aJ aD,aJ aD]
    rw[f,b];exact⟨_,rfl,λh=>by cases h⟩
def jf(l:List Pt):Bool:=l.all λp=>(bU p).2.2
def SY(l:List Pt):Prop:=l.length<=10000/\∀p∈l,SmP p
def afc{l}:(∀(i:Nat) x,l[i]?=aa x->(!(bU x).2.2)=false)->jf l=true:=λh=>by
 unfold jf;rw[vN];intro x a;obtain⟨i,b⟩:=bq.1 a;have:=h i x b;simpa using this
def ZZ{l}{i:Nat}{x}(a:l[i]?=aa x)(h:(!(bU x).2.2)=true):jf l=false:=by
 unfold jf;rw[List.all_eq_false];exact⟨x,dW a,by simpa using h⟩
def QF l (c:SY l):mC (l,())=aa (if jf l=true then(l.map yB,true,()) else([],false,())):=by
 unfold mC;have m:=c.1;rcases eL (f:=lZ (l,())) l (λi=>((([]),false,(),i,()),(l.take i.toNat).map yB,())) (λ_ x=>!(bU x).2.2) _ _ ag (λi x a d b=>by
  obtain⟨s,e,g⟩:=afb x (c.2 x<|dW a);unfold lZ;dsimp only;rw[al d,ao a,ab,e,ab,b];rw[vM,vM];cases j:(bU x).2.2 with
  | false=>rfl
  | true =>
    rw[ aH cJ,g j];have:(l.take<|i+1).map yB=(l.take i).map yB++[yB x]:=by rw[wN,a,TN];rfl
    rw[this];rfl) (by
  unfold lZ;rw[aq,ah,vM,yI]) with ⟨i,x,a,k,_,h⟩|⟨hn,h⟩
 .rw[show Loop _ ((([]),_),([]),())=_ from h,ZZ a k];rfl
 .rw[show Loop _ ((([]),_),([]),())=_ from h,afc hn];rfl
def CE l (c:SY l):pV (l,())=aa (jf l,()):=by
 unfold pV;have g:=c.1;rcases eL (f:=oU (l,())) l (λi=>((false,i,()),())) (λ_ x=>!(bU x).2.2) _ _ ag (λi x b d a=>by
  unfold oU;dsimp only;rw[al d,ao b,ab,CB x (c.2 x<|dW b),a];cases (bU x).2.2<;>rfl) (by
  unfold oU;rw[aq,ah]) with ⟨i,x,b,e,_,h⟩|⟨hn,h⟩
 .rw[h,ZZ b e];rfl
 .rw[h,afc hn];rfl
def QG{l:List Nd}{g:Nd->Bool}{i x}(b:l[i]?=aa x)(c:g x=true)(d:∀j y,j<i->l[j]?=aa y->g y=false):l.take i=(l.take<|i+1).filter (λx=>!g x):=by
 rw[wN];have e:(l.take i).filter (λx=>!g x)=l.take i:=Ld.2 λy a=>by
  obtain⟨j,f⟩:=bq.1 a
  grind
 grind
def abH l p (a:vI l) (c:p.length<=4096):(∃i x,l[i]?=aa x/\gone p x=true/\(∀(j:Nat) y,j<i->l[j]?=aa y->gone p y=false)/\Loop (la (l,p,())) ((0,0,()),(),p,())=aa (1,((i:Int),(i:Int),()),(),p,())) \/
  ((∀(i:Nat) x,l[i]?=aa x->gone p x=false)/\Loop (la (l,p,())) ((0,0,()),(),p,())=aa (0,(0,(l.length:Int),()),(),p,())) :=
 eL l (λi=>((0,i,()),_)) _ _ _ (by have:=a.1;omega) (λi x b d e=>by
  unfold la;dsimp only;rw[al d,aE ag ef,ao b,ab,zO _ _ (by have:=(a.at b).1;omega) c,uJ,e];unfold gone;cases decide (x.1=p)<;>cases dZ _ _<;>rfl) (by unfold la;rw[aq,ah])
def abI l p (d:vI l) (g:p.length<=4096) (i:Nat) x (hx:l[i]?=aa x) (h:gone p x=true) (a:∀j y,j<i->l[j]?=aa y->gone p y=false) :
  ∃(w:Nat) (L:List Nd),Loop (ld) ((i,aw IntKind.i64 i 1,(),()),(),p,l,())=aa (((w:Int),(l.length:Int),(),()),(),p,L,())/\L.length=l.length/\w<=l.length/\L.take w=qe l p:=by
 have hi:=av hx;have s:=d.1;obtain⟨w,L,k,e,m,n⟩:=GV (f:=ld) l _ (λw j L=>((w,j,_),(),p,L,())) (λw L=>((w,L.length,_),(),p,L,())) ag (λw j L x hx b t o q a=>by
  unfold ld;dsimp only;obtain⟨z,r⟩:∃z,L[w]?=aa z:=⟨_,fX ag⟩;have c:ak (nt<|br x.1 p) (ae (dC (x.1,p,())) λy=>aa y.1) (aa true)=aa (gone p x):=by
   rw[zO _ _ (by have:=(d.at hx).1;omega) g,uJ];unfold gone;cases decide (x.1=p)<;>rfl
  rw[al o,aE ag ef,ai,ao b,ab,c,ab,a];cases gone p x with
  | true=>rfl
  | false =>
    rw[ aE ag ef,ao r,q];rfl) (λw L=>by
  unfold ld;rw[aq];rfl) l.length i _ l ag ag ag rfl (QG hx h a) rfl
 refine⟨w,L,?_,e,m,n⟩;rw[az ag,k,e]
def Yn l p (a:vI l) (c:p.length<=4096) (hv:Valid l):uq (l,p,())=aa (qe l p,()):=by
 obtain⟨e,f,g⟩:=mh l a;obtain rfl:=g.2 hv;unfold uq;dsimp only;rw[f,ab];rw[show nt _=false by rfl,ah,cY (by have:=a.1;omega),ai];rcases abH l p a c with ⟨i,x,b,k,d,h⟩|⟨d,h⟩
 .obtain⟨w,L,m,q,r,n⟩:=abI l p a c i x b k d;rw[h,ab];rw[gM,ah,show aG i (-1)=false by exact cm ag,ah,m,ab];dsimp only;rw[aL ag ef<|tc _,ai,GW L w ag,aL (tc _) ag ag,ai,Cv L w ag,n]
 .have o:qe l p=l:=Ld.2 λx b=>by
   obtain⟨j,s⟩:=bq.1 b
   grind
  rw[h,ab,o];rw[cV,ai,show aG (-1) (-1)=true by rfl,ai]
def Nw(p:bg)(x:Nd):Bool:=dZ (parts x.1) (parts p)
def abJ l p (a:vI l) (c:p.length<=4096):(∃i x,l[i]?=aa x/\Nw p x=true/\(∀(j:Nat) y,j<i->l[j]?=aa y->Nw p y=false)/\Loop (mx (l,p,())) ((0,0,()),(),p,())=aa (1,((i:Int),(i:Int),()),(),p,())) \/
  ((∀(i:Nat) x,l[i]?=aa x->Nw p x=false)/\Loop (mx (l,p,())) ((0,0,()),(),p,())=aa (0,(0,(l.length:Int),()),(),p,())) :=
 eL l (λi=>((0,i,()),_)) _ _ _ (by have:=a.1;omega) (λi x b d e=>by
  unfold mx;dsimp only;rw[al d,aE ag ef,ao b,ab,zO _ _ (by have:=(a.at b).1;omega) c,e];unfold Nw;cases dZ _ _<;>rfl) (by unfold mx;rw[aq,ah])
def abK l p (c:vI l) (e:p.length<=4096) (i:Nat) x (hx:l[i]?=aa x) (g:Nw p x=true) (a:∀j y,j<i->l[j]?=aa y->Nw p y=false) :
  ∃(w:Nat) (L:List Nd),Loop (my) ((i,aw IntKind.i64 i 1,(),()),(),p,l,())=aa (((w:Int),(l.length:Int),(),()),(),p,L,())/\L.length=l.length/\w<=l.length/\L.take w=l.filter (λx=>!Nw p x):=by
 have hi:=av hx;have r:=c.1;obtain⟨w,L,h,d,k,m⟩:=GV (f:=my) l _ (λw j L=>((w,j,_),(),p,L,())) (λw L=>((w,L.length,_),(),p,L,())) ag (λw j L x hx b s n o a=>by
  unfold my;dsimp only;obtain⟨z,q⟩:∃z,L[w]?=aa z:=⟨_,fX ag⟩;rw[al n,aE ag ef,ai,ao b,ab,zO _ _ (by have:=(c.at hx).1;omega) e,ab,a];unfold Nw;cases dZ _ _ with
  | true=>rfl
  | false =>
    rw[ aE ag ef,ao q,o];rfl) (λw L=>by
  unfold my;rw[aq];rfl) l.length i _ l ag ag ag rfl (QG hx g a) rfl
 refine⟨w,L,?_,d,k,m⟩;rw[az ag,h,d]
def Nx l p:kh l p false=l.filter (λx=>!Nw p x):=by
 unfold kh Nw
 grind
def abL l p (a:vI l) (c:p.length<=4096) (hv:Valid l):vV (l,p,())=aa (kh l p false,()):=by
 obtain⟨e,f,g⟩:=mh l a;obtain rfl:=g.2 hv;rw[Nx];unfold vV;dsimp only;rw[f,ab];rw[show nt _=false by rfl,ah,cY (by have:=a.1;omega),ai];rcases abJ l p a c with ⟨i,x,b,k,d,h⟩|⟨d,h⟩
 .obtain⟨w,L,m,q,r,n⟩:=abK l p a c i x b k d;rw[h,ab];rw[gM,ah,show aG i (-1)=false by exact cm ag,ah,m,ab];dsimp only;rw[aL ag ef<|tc _,ai,GW L w ag,aL (tc _) ag ag,ai,Cv L w ag,n]
 .have o:l.filter (λx=>!Nw p x)=l:=Ld.2 λx b=>by
   obtain⟨j,s⟩:=bq.1 b
   grind
  rw[h,ab,o];rw[cV,ai,show aG (-1) (-1)=true by rfl,ai]
def CF l p (c:vI l) (hv:Valid l):oS (l,p,())=aa (findF l p):=by
 obtain⟨e,d,g⟩:=oB l c;obtain rfl:=g.2 hv;unfold oS;rcases Cu l p c with ⟨i,x,f,a,h⟩|⟨b,h⟩
 .rw[h,ab,d];rw[ ao f,AX hv.ord (dW f) a];rfl
 .rw[h,d,E3 b];rfl
def Yo{n}(h:fW n=true):n.1.length<=92/\n.2.2.2.2.1.length<=100/\n.2.2.2.1.length<=8192:=by
 unfold fW at h;simp at h;have b:=h.1.1.1;have a:=h.2;unfold xG at b;simp at b;refine⟨b.1.1.2,?_⟩;unfold Qz at a;split at a
 .have:=fU a;exact⟨by rw[this.1];simp,this.2⟩
 .split at a
  .have:=fU a;exact⟨by rw[this.1];simp,by rw[this.2];simp⟩
  .split at a
   .have:=fU a;exact⟨this.2.2.1,by rw[this.1];simp⟩
   .cases a
def fE{l}(h:Valid l):vI l:=⟨by have:=h.few;omega,λx a=>by
 have:=Yo (h.may x a);exact⟨ag,ag,ag⟩⟩
def VV{l}(h:Valid l) p:Valid (qe l p):=by
 refine⟨gi (TD _ _) h.few,h.ord.filter _,λx d=>h.may x (zg.1 d).1,λx d=>?_⟩;obtain⟨f,b⟩:=zg.1 d;by_cases c:(bh x.1).1=[]
 .exact .inl c
 .rcases h.up x f with g|⟨y,i,e,k⟩
  .exact absurd g c
  .refine .inr ⟨y,zg.2 ⟨i,?_⟩,e,k⟩;cases a:gone p y with
   | false=>rfl
   | true =>
     have:gone p x=true:=by
      unfold gone at a⊢;rw[Li] at a⊢;rcases a with a|a
      .right;rw[<-fU a,e];exact E4 c
      .exact .inr (Nk c e a)
     rw[this] at b;cases b
def Ny{l}(h:Valid l) p:Valid (kh l p false):=by
 refine⟨gi (TD _ _) h.few,h.ord.filter _,λx b=>h.may x (zg.1 b).1,λx b=>?_⟩;obtain⟨c,a⟩:=zg.1 b;by_cases d:(bh x.1).1=[]
 .exact .inl d
 .rcases h.up x c with f|⟨y,g,e,k⟩
  .exact absurd f d
  .refine .inr ⟨y,zg.2 ⟨g,?_⟩,e,k⟩;cases i:dZ _ _ with
   | false=>rfl
   | true =>
     rw[Nk d e i] at a;cases a
def SZ l p:kh l p true=qe l p:=by
 unfold kh qe gone
 congr 1
 funext x;cases decide (x.1=p)<;>cases dZ _ _<;>rfl
def xL p:Js (bU p).2.1:=by
 have a:Js []:=⟨λx c=>(by cases c),aS,(by simp[aP])⟩;unfold bU;split
 .rename_i b;dsimp only;split
  .rename_i d;exact(Ie b d).2
  .split
   .exact Dm (CA b)
   .split
    .exact CA b
    .exact a
 .exact a
def xM(t:List Nd)(p:Pt):List Nd:=if(bU p).1=1 then qe t (aP (bU p).2.1) else if(bU p).1=2 then kh t (aP (bU p).2.1) false else t
def xN{t}(h:Valid t) p:Valid (xM t p):=by
 unfold xM;split
 .exact VV h _
 .split
  .exact Ny h _
  .exact h
def Pl{t}(h:Valid t) p:vX (yB p,t,())=aa (xM t p,()):=by
 have a:=xL p;have hs:=fE h;unfold yB ZY xM;by_cases b:(bU p).1=1
 .rw[aN b,aN b];show jm _=_
  unfold jm;dsimp only;rw[Yn t _ hs (by have:=a.2.2;omega) h,ab]
 .rw[aJ b,aJ b];by_cases c:(bU p).1=2
  .rw[aN c,aN c];show gI _=_
   unfold gI;dsimp only;rw[abL t _ hs (by have:=a.2.2;omega) h,ab]
  .rw[aJ c,aJ c];by_cases d:(bU p).2.1=[]
   .rw[aN d];rfl
   .rw[aJ d];rfl
def Nz{t}(h:Valid t) p (a:p.length<=4096):sr (t,p,())=aa (qe t p,()):=by
 obtain⟨b,c,d⟩:=oB t (fE h);unfold sr;rw[c,ab,d.2 h];rw[aV,ah,Cw t p true (fE h) a,ab,SZ]
def Pm{t}(h:Valid t) p (a:p.length<=4096):ur (t,p,())=aa (kh t p false,()):=by
 obtain⟨b,c,d⟩:=oB t (fE h);unfold ur;rw[c,ab,d.2 h];rw[aV,ah,Cw t p false (fE h) a,ab]
def QH{a c:Type}(f:c->a->c)(l:List a) b {i x} (hx:l[i]?=aa x):(l.take<|i+1).foldl f b=f ((l.take i).foldl f b) x:=by
 rw[wN,hx,List.foldl_append];rfl
def Yp(l:List Pt) ok t0 (e:Valid t0) (j:l.length<=10000):Loop (lf (l.map yB,ok,())) ((t0,0,()),())=aa ((l.foldl xM t0,(l.length:Int),()),())/\Valid (l.foldl xM t0):=by
 obtain⟨t,b,g,_⟩:=rE (f:=lf (l.map yB,_)) l (λt i=>((t,i,()),())) _ _ (λt i=>t=(l.take i).foldl xM t0/\Valid t) ag (λt i x d h a c=>by
  constructor
  .unfold lf;rw[al<|by rw[yJ];exact h,ao (by rw[Em,d];rfl),ab,a];rw[show vX _=_ from Pl c.2 x];rfl
  .exact⟨by rw[QH xM l t0 d,<-c.1],xN c.2 x⟩) (λt _=>by
  unfold lf;rw[show aU l.length _=false by rw[<-yJ];exact aq];rfl) t0 ⟨rfl,e⟩
 rw[yI] at b;rw[<-b.1];exact⟨g,b.2⟩
def Pn a l (j:SY l) (m:Valid a):Loop (oo (a,l,())) ((a,0,()),())=aa ((l.foldl xM a,(l.length:Int),()),()):=by
 have n:=j.1;obtain⟨t,k,b,_⟩:=rE (f:=oo (a,l,())) l (λt i=>((t,i,()),())) (λt _ x=>xM t x) _ (λt i=>t=(l.take i).foldl xM a/\Valid t) ag (λt i x h o c e=>by
  have d:=xL x;constructor
  .unfold oo;rw[al o,ao h,ab,CB x (j.2 x<|dW h),ab,c];dsimp only;rw[Nz e.2 _ (by have:=d.2.2;omega),ab,Pm e.2 _ (by have:=d.2.2;omega)];unfold xM;by_cases b:(bU x).1=1
   .rw[au b,aN b];rfl
   .rw[ar b,aJ b];by_cases g:(bU x).1=2
    .rw[au g,aN g];rfl
    .rw[ar g,aJ g];rfl
  .exact⟨by rw[QH xM l a h,<-e.1],xN e.2 x⟩) (λt _=>by
  unfold oo;rw[aq];rfl) a ⟨rfl,m⟩
 rw[yI] at k;rw[<-k.1];exact b
def xO{t n}(h:(bG t n).2=0):Valid (bG t n).1:=by
 rcases Nl t n with ⟨_,a⟩|⟨b,a,c,r,d,e,f⟩
 .grind
 .rw[f];exact QD b a c d e
def jg:List bg->bg->List Nd->List Nd×Int
 | [],_,t=>(t,0)
 | nm::r,at',t =>
   if(findF t<|rH at' nm).2.1=true/\(findF t<|rH at' nm).1.2.1=2 then jg r (rH at' nm) t
   else if(bG t<|gC 493<|rH at' nm).2=0 then jg r (rH at' nm) (bG t<|gC 493<|rH at' nm).1
   else([],(bG t<|gC 493<|rH at' nm).2)
def CG:∀r a t,Valid t->(jg r a t).2=0->Valid (jg r a t).1:=by
 intro r;induction r with
 | nil=>intro a t h _;exact h
 | cons nm r d =>
   intro a t h b;unfold jg at b⊢;split at b
   .grind
   .rename_i e;rw[aJ e];split at b
    .rename_i c;rw[aN c];exact d _ _ (xO c) b
    .grind
abbrev DS:=((List Nd×(List Nd×(Int×(bg×(Int×aj)))))×aj)
def VW{f:DS->Option (DS⊕(Nat×DS))} b (h:Js b) n (hn:n<=b.length)
  (c:∀i x t,i<n->b[i]?=aa x->Valid t ->
   f ((t,[],0,aP<|b.take i,i,()),()) =
    aa (if(findF t<|eM b i).2.1=true/\(findF t<|eM b i).1.2.1=2 then .inl ((t,[],0,eM b i,((i+1:Nat):Int),()),())
     else if(bG t<|gC 493<|eM b i).2=0 then .inl (((bG t<|gC 493<|eM b i).1,[],0,eM b i,((i+1:Nat):Int),()),())
     else .inr (1,(t,[],(bG t<|gC 493<|eM b i).2,eM b i,i,()),())))
  (g:∀t a,f ((t,[],0,a,n,()),())=aa (.inr (0,(t,[],0,a,n,()),()))) :
  ∀d i t,i+d=n->Valid t->∃z,Loop f ((t,[],0,aP<|b.take i,i,()),())=aa z /\
   (((jg ((b.take n).drop i) (aP<|b.take i) t).2=0/\z.1=0/\z.2.1.1=(jg ((b.take n).drop i) (aP<|b.take i) t).1) \/
    ((jg ((b.take n).drop i) (aP<|b.take i) t).2≠0/\z.1=1/\z.2.1.2.1=[]/\z.2.1.2.2.1=(jg ((b.take n).drop i) (aP<|b.take i) t).2)):=by
 intro d;induction d with
 | zero =>
   intro i t q k;obtain rfl:i=n:=ag;refine⟨_,by rw[aO,g];rfl,.inl ?_⟩;rw[Fj<|by rw[dk];omega];exact⟨rfl,rfl,rfl⟩
 | succ d p =>
   intro i t q k;have hx:b[i]?=aa b[i]:=fX ag;have hs:=c i b[i] t ag hx k;have e:(b.take n).drop i=b[i]::(b.take n).drop (i+1):=by
    rw[BK<|by rw[dk];omega,ac4]
   rw[e];unfold jg;rw[(rl h.1 hx)];split
   .rename_i l;rw[aN l] at hs;obtain⟨z,m,o⟩:=p (i+1) t ag k;refine⟨z,?_,by exact o⟩;rw[aO,hs];exact m
   .rename_i l;rw[aJ l] at hs;split
    .rename_i j;rw[aN j] at hs;obtain⟨z,m,o⟩:=p (i+1) _ ag (xO j);refine⟨z,?_,by exact o⟩;rw[aO,hs];exact m
    .rename_i j;rw[aJ j] at hs;refine⟨_,by rw[aO,hs];rfl,.inr ⟨j,rfl,rfl,rfl⟩⟩
def afd m {ns} (h:Js ns) i:Sm (gC m<|eM ns i):=⟨h.sZ _,by simp[gC],by simp[gC]⟩
def tq(a:List bg)(t:List Nd)(n:Nd):List Nd×Int:=if(jg a.dropLast [] t).2=0 then bG (jg a.dropLast [] t).1 n else([],(jg a.dropLast [] t).2)
def S0{ns}(h:Js ns){n}(w:n.1=aP ns)(y:Sm n){t}(r:Valid t):kE ((n,()),t,())=aa ((tq ns t n).1,(tq ns t n).2,()):=by
 have hd:=Dm h;unfold kE;rw[w,rk _ (by have:=h.2.2;omega),ab,yA h.1];dsimp only;rw[rF _ (by have:=hd.2.2;omega),ab,kg _ hd.1];obtain⟨z,A,g⟩:=VW (f:=fo (ns.dropLast,())) ns.dropLast hd ns.dropLast.length (bX _) (λi x u B j s=>by
  have c:=fE s;have C:=hd.K4 (dW j);have D:=hd.sZ i;have v:=hd.sZ (i+1);have Hb:=hd.2.1;unfold fo;dsimp only;rw[al B,ao j,ab,H7 _ _ ag ag,ab,rl hd.1 j];dsimp only;rw[abE u _ c (by unfold eM;omega) s,ab,az ag];have E:=Jr u _ c (afd 493 hd i);rw[show tG (u,(eM ns.dropLast i,_),())=_ from E,ab];by_cases k:(findF u<|eM ns.dropLast i).2.1=true
  .by_cases d:(findF u<|eM ns.dropLast i).1.2.1=2
   .rw[k,au d,aN ⟨rfl,d⟩];rfl
   .rw[k,ar d,aJ λq=>d q.2];by_cases b:(bG u<|gC 493<|eM ns.dropLast i).2=0
    .rw[au b,aN b];rfl
    .rw[ar b,aJ b];rfl
  .rw[show(findF u _).2.1=false by simpa using k];by_cases b:(bG u<|gC 493<|eM ns.dropLast i).2=0
   .rw[au b,aN b];rfl
   .rw[ar b,aJ b];rfl) (λu a=>by
  unfold fo;rw[aq,ah]) ns.dropLast.length 0 t ag r
 rw[yI,DG] at g;rw[show Loop (fo _) ((t,([]),0,([]),0,()),())=_ from A,ab];have l:aP (ns.dropLast.take 0)=[]:=by simp[aP]
 rw[l] at g;unfold tq;rcases g with ⟨e,m,o⟩|⟨e,m,o,F⟩
 .have p:=CG _ _ _ r e;rw[m,show cK 0 0=true from rfl,ai,o,aN e,Jr _ n (fE p) y,ab]
 .rw[m,show cK 1 0=false from rfl,ah,o,F,aJ e]
def VX{ns}(h:Js ns){t}(p:Valid t):vY (t,aP ns,())=aa ((if(jg ns.dropLast [] t).2=0 then(jg ns.dropLast [] t).1 else []),(jg ns.dropLast [] t).2,()):=by
 unfold vY;dsimp only;rw[iq _ (by have:=h.2.2;omega),ab,kg _ h.1];obtain⟨z,r,g⟩:=VW (f:=mD (ns,())) ns h (ns.length-1) ag (λi x u A j o=>by
  have c:=fE o;have s:=h.K4 (dW j);have v:=h.sZ i;have Hb:=h.2.1;unfold mD;dsimp only;rw[az ag,al ag,ao j,ab,AU _ _ ag ag,ab,rl h.1 j];rw[CF u _ c o,ab];have w:=Cy u _ c (afd 493 h i);rw[show oj (u,(eM ns i,_),())=_ from w,ab];by_cases k:(findF u<|eM ns i).2.1=true
  .by_cases d:(findF u<|eM ns i).1.2.1=2
   .rw[k,au d,aN ⟨rfl,d⟩];rfl
   .rw[k,ar d,aJ λq=>d q.2];by_cases b:(bG u<|gC 493<|eM ns i).2=0
    .rw[au b,aN b];rfl
    .rw[ar b,aJ b];rfl
  .rw[show(findF u _).2.1=false by simpa using k];by_cases b:(bG u<|gC 493<|eM ns i).2=0
   .rw[au b,aN b];rfl
   .rw[ar b,aJ b];rfl) (λu a=>by
  unfold mD;have Hb:=h.2.1;rw[az ag,show aU _ (len ns)=false from aC ef,ah]) (ns.length-1) 0 t ag p
 rw[DG,List.dropLast_eq_take.symm] at g;rw[show Loop (mD _) ((t,([]),0,([]),0,()),())=_ from r,ab];have l:aP (ns.take 0)=[]:=by simp[aP]
 rw[l] at g;rcases g with ⟨e,m,n⟩|⟨e,m,n,y⟩
 .rw[m,show cK 0 0=true from rfl,ai,n,aN e,e]
 .rw[m,show cK 1 0=false from rfl,ah,n,y,aJ e]
end Go.Ge
