import Derived.Test.YtcebnmppipejfaaGreatDoorPlE
import Derived.Lib.ParseIntBCases
import Derived.Lib.ItoaMem
set_option linter.unusedSectionVars false
set_option linter.unusedVariables false
set_option linter.unusedSimpArgs false
set_option linter.defProp false
noncomputable section
open Option renaming some->ab,none->ah
namespace Go.Ge
variable [Lp]
def QS(a:Nd)(r:List Nd)(n:Nd):uT (a::r) n=if cmp a n.1<0 then a::uT r n else n::a::r:=by
 unfold uT;by_cases h:cmp a n.1<0
 .rw[aX h,TO,Ov];simp[h]
 .rw[aR h,TO,Ov];simp[h]
def uU{r:List Nd}{n x:Nd}:x∈uT r n↔x=n\/x∈r:=by
 induction r with
 | nil=>simp[uT]
 | cons a r b =>
   rw[QS];split
   .rw[lW,b,lW];constructor
    .rintro(h|h|h)
     .exact .inr (.inl h)
     .exact .inl h
     .exact .inr (.inr h)
    .rintro(h|h|h)
     .exact .inr (.inl h)
     .exact .inl h
     .exact .inr (.inr h)
   .rw[lW]
def afj(r:List Nd)(n:Nd):(uT r n).length=r.length+1:=by
 unfold uT;rw[jB,jC,<-Ft,<-jB,El]
def Ig{l:List Nd}:Ord l↔l.Pairwise λx y=>cmpL (key x) (key y)<0:=by
 constructor
 .intro h;rw[Dr];intro i j b c a;exact h i j _ _ a (ik b) (ik c)
 .intro h i j x y a d e;rw[Dr] at h;obtain⟨f,g⟩:=hR.1 d;obtain⟨k,m⟩:=hR.1 e;rw[<-g,<-m];exact h i j f k a
def afk{r:List Nd}{n:Nd}(b:Ord r)(c:∀x∈r,x.1≠n.1):Ord (uT r n):=by
 rw[Ig] at b⊢;induction r with
 | nil=>simp[uT]
 | cons a r f =>
   rw[TR] at b;rw[QS];split
   .rename_i h;refine TR.2 ⟨λy hy=>?_,f b.2 λx g=>c x (by simp[g])⟩;rcases uU.1 hy with rfl|hy
    .exact h
    .exact b.1 y hy
   .rename_i h;have d:cmpL (key n) (key a)<0:=by
     have i:cmp a n.1≠0:=λe=>c a bb (VK e);have j:cmpL (key n) (key a)=- cmpL (key a) (key n):=aeI _ _;have k:cmp a n.1=cmpL (key a) (key n):=rfl;omega
    refine TR.2 ⟨λy hy=>?_,TR.2 b⟩;rcases lW.1 hy with rfl|hy
    .exact d
    .exact td d (b.1 y hy)
def Nk{x y:Nd}{p:ay}(b:(bp x.1).1≠[])(e:y.1=(bp x.1).1)(h:du (parts y.1) (parts p)=true):du (parts x.1) (parts p)=true:=by
 have a:=xp b;rw[<-e] at a;unfold du at h⊢;obtain⟨d,c⟩:=iq h;refine dD ⟨?_,?_⟩
 .rw[a,jB];omega
 .rw[a,ac6 ai,c]
def E3{x:Nd}(b:(bp x.1).1≠[]):du (parts x.1) (parts (bp x.1).1)=true:=by
 have a:=xp b;unfold du;refine dD ⟨?_,?_⟩
 .rw[a,jB];simp
 .rw[a];simp
def KY(l:List Nd)(n:Nd)(r:List Nd):Prop :=
 (((∃x∈l,x.1=n.1/\x.2.1=2)/\n.2.1=2)/\r=l.filter λx=>!decide (x.1=n.1))\/((¬((∃x∈l,x.1=n.1/\x.2.1=2)/\n.2.1=2))/\r=pH l n.1)
def Nl(l:List Nd)(n:Nd):((bK l n).1=[]/\(bK l n).2≠0) \/
  (Valid l/\fY n=true/\((bp n.1).1=[]\/∃x∈l,x.1=(bp n.1).1/\x.2.1=2)/\∃r,KY l n r/\r.length<64/\bK l n=(uT r n,0)):=by
 unfold bK;by_cases b:¬Valid l\/fY n=false
 .rw[aX b];exact .inl ⟨rfl,aK⟩
 .rw[aR b];by_cases c:(bp n.1).1≠[]/\∀x∈l,x.1≠(bp n.1).1
  .rw[aX c];exact .inl ⟨rfl,aK⟩
  .rw[aR c];by_cases f:(bp n.1).1≠[]/\∀x∈l,x.1=(bp n.1).1->x.2.1≠2
   .rw[aX f];exact .inl ⟨rfl,aK⟩
   .rw[aR f];have hv:Valid l:=K9 λh=>b (.inl h);have g:fY n=true:=by
     cases h:fY n with
     | true=>rfl
     | false=>exact absurd (.inr h) b
    have i:(bp n.1).1=[]\/∃x∈l,x.1=(bp n.1).1/\x.2.1=2:=by
     by_cases j:(bp n.1).1=[]
     .exact .inl j
     .right;refine K9 λh=>f ⟨j,λx k e c=>h ⟨x,k,e,c⟩⟩
    by_cases d:(∃x∈l,x.1=n.1/\x.2.1=2)/\n.2.1=2
    .simp only[aX d];by_cases a:64<=(l.filter λx=>!decide (x.1=n.1)).length
     .rw[aX a];exact .inl ⟨rfl,aK⟩
     .rw[aR a];exact .inr ⟨hv,g,i,_,.inl ⟨d,rfl⟩,ai,rfl⟩
    .simp only[aR d];by_cases a:64<=(pH l n.1).length
     .rw[aX a];exact .inl ⟨rfl,aK⟩
     .rw[aR a];exact .inr ⟨hv,g,i,_,.inr ⟨d,rfl⟩,ai,rfl⟩
def KY.sub{l r:List Nd}{n:Nd}(h:KY l n r):(∀x∈r,x∈l/\x.1≠n.1)/\∃P,r=l.filter P:=by
 rcases h with ⟨_,rfl⟩|⟨_,rfl⟩
 .refine⟨λx a=>?_,_,rfl⟩;have:=y9.1 a;simpa using this
 .refine⟨λx a=>?_,_,rfl⟩;have:=y9.1 a;unfold gone at this;simp at this;exact⟨this.1,this.2.1⟩
def QT{l r:List Nd}{n:Nd}(m:Valid l)(q:fY n=true)(s:(bp n.1).1=[]\/∃x∈l,x.1=(bp n.1).1/\x.2.1=2)(k:KY l n r)(t:r.length<64):Valid (uT r n):=by
 obtain⟨c,P,u⟩:=k.sub;have v:Ord r:=by rw[u];exact m.ord.filter P
 refine⟨by rw[afj];omega,afk v λx hx=>(c x hx).2,λx hx=>?_,λx hx=>?_⟩
 .rcases uU.1 hx with rfl|hx
  .exact q
  .exact m.may x (c x hx).1
 .rcases uU.1 hx with rfl|hx
  ·
   rcases s with h|⟨y,i,b,d⟩
   .exact .inl h
   .by_cases g:(bp x.1).1=[]
    .exact .inl g
    .right;refine⟨y,uU.2 (.inr ?_),b,d⟩;have a:=E3 g;rw[<-b] at a;have hlen:(parts y.1).length<(parts x.1).length:=by
      unfold du at a;exact(iq a).1
     have j:y.1≠x.1:=λe=>by rw[e] at hlen;omega
     have o:du (parts y.1) (parts x.1)=false:=by
      unfold du;exact cL λh=>ai
     rcases k with ⟨_,rfl⟩|⟨_,rfl⟩
     .exact y9.2 ⟨i,by simp[j]⟩
     .exact y9.2 ⟨i,by unfold gone;simp[j,o]⟩
  .rcases m.up x (c x hx).1 with h|⟨y,i,b,d⟩
   .exact .inl h
   .by_cases g:(bp x.1).1=[]
    .exact .inl g
    .right;have a:=E3 g;by_cases e:y.1=n.1
     .rcases k with ⟨w,rfl⟩|⟨_,rfl⟩
      .exact⟨n,uU.2 (.inl rfl),by rw[<-e,b],w.2⟩
      .have:=(y9.1 hx).2;rw[<-b,e] at a;unfold gone at this;rw[a] at this;simp at this
     .refine⟨y,uU.2 (.inr ?_),b,d⟩;rcases k with ⟨_,rfl⟩|⟨_,rfl⟩
      .exact y9.2 ⟨i,by simp[e]⟩
      .refine y9.2 ⟨i,?_⟩;have f:=(y9.1 hx).2;unfold gone at f⊢;cases p:du (parts y.1) (parts n.1) with
       | false=>simp[e]
       | true =>
         rw[Nk g b p] at f;simp at f
def Nn(a:List ay):Prop:=∀x∈a,47∉x/\x≠[]
def gg(m:Int)(p:ay):Nd:=(p,(2:Int),m,([]:ay),([]:ay),())
def eD(a:List ay)(j:Nat):ay:=aP (a.take<|j+1)
def so(a:List ay)(k:Nat):List Nd:=(List.range k).map λj=>gg 0 (eD a j)
def VQ(a:List ay)(k:Nat):so a (k+1)=so a k++[gg 0<|eD a k]:=by
 unfold so;rw[List.range_succ,ZA];rfl
def xq(a:List ay)(k:Nat):(so a k).length=k:=by unfold so;rw[ux,Zu]
def qR{ns:List ay}(h:Nn ns){i:Nat}{x:ay}(b:ns[i]?=ab x):rk (aP<|ns.take i) x=eD ns i:=by
 have c:ns.take (i+1)=ns.take i++[x]:=by rw[Er,b];rfl
 have:=MR [x] _ (λy a=>by
  rw[<-c] at a;exact h y (JI a))
 unfold eD
 grind
def Cr:∀(ns:List ay) (k:Nat),(aP<|ns.take k).length<=(aP ns).length:=by
 intro ns;induction ns with
 | nil=>intro k;simp
 | cons x r a =>
   intro k;cases k with
   | zero=>simp[aP]
   | succ k =>
     rw[Zr];cases r with
     | nil=>simp
     | cons y r =>
       cases k with
       | zero=>simp[aP]
       | succ k =>
         have:=a (k+1);rw[Zr] at this⊢;simp only[aP,jB,jC] at this⊢;omega
def D0:∀(ns:List ay) (x:ay),x∈ns->x.length<=(aP ns).length:=by
 intro ns;induction ns with
 | nil=>intro x c;cases c
 | cons a r d =>
   intro x c;cases r with
   | nil =>
     rw[zO] at c;subst c;simp[aP]
   | cons b r =>
     simp only[aP,jB,jC]
     grind
def Ih(a:List ay):Prop:=Nn a/\a.length<=16/\(aP a).length<=200
def Ih.sq{ns:List ay}(h:Ih ns)(k:Nat):(aP<|ns.take k).length<=200:=iU (Cr ns k) h.2.2
def Ih.KZ{a:List ay}(h:Ih a){x:ay}(b:x∈a):x.length<=200:=iU (D0 a x b) h.2.2
def Ih.take{a:List ay}(h:Ih a)(k:Nat):Ih (a.take k):=⟨λx b=>h.1 x (JI b),by rw[kC];have:=h.2.1;omega,h.sq k⟩
def Js(a:List ay)(h:Ih a):Loop (ia (a,())) (((),([]:ay),(0:Int),()),([]:List Nd),()) =
  ab (((),aP a,(a.length:Int),()),so a a.length,()):=by
 obtain⟨t,l,m,_⟩:=zr (f:=ia (a,())) a (λ(s:ay×List Nd) i=>(((),s.1,i,()),s.2,())) (λs i x=>(rk s.1 x,s.2++[gg 0 _])) _
  (λs i=>s.1=aP (a.take i)/\s.2=so a i) (by have:=h.2.1;omega) (λs i x d e b c=>by
   have g:=h.KZ (eQ d);have j:=h.sq i;have hlen:=xq a i;have k:=h.2.1;constructor
   .unfold ia;rw[aq e,ae,au d,aa,HS _ _ (by rw[c.1];omega) ai,aa,bo (by rw[c.2,hlen];simp only[jC,nQ];omega),ae,b];rfl
   .dsimp only;rw[c.1,c.2,qR h.1 d,VQ];exact⟨rfl,rfl⟩) (λs _=>by
   unfold ia;rw[aw,af];rfl) ([],[]) ⟨by simp[aP],rfl⟩
 grind
def preB(a:List ay)(k:Nat):Bool:=(List.range k).all λj=>fY (gg 0<|eD a j)
def Np{a:List ay}(h:Nn a){j:Nat}(d:j<a.length):(bp<|eD a j).1=aP (a.take j):=by
 have b:a.take (j+1)≠[]:=by
  intro e;simp_all
 unfold eD;rw[Ci (λx c=>h x (JI c)) b];rw[TV,kC,IL]
 grind
def xr{a:List ay}(h:Nn a)(j:Nat):parts (eD a j)=a.take (j+1):=j7 _ λx b=>h x (JI b)
def tl{a:List ay}(h:Nn a):aP a=[]↔a=[]:=by
 constructor
 .intro e;have:=j7 a h;rw[e] at this;exact this.symm
 .rintro rfl;rfl
def YH{ns:List ay}(h:Ih ns)(c:ns≠[]){n:Nd}(p:n.1=aP ns) :
  Valid (so ns (ns.length-1)++[n])↔(preB ns (ns.length-1)=true/\fY n=true):=by
 have q:=Li.2 c;have b:∀(j:Nat) (x:Nd),(so ns (ns.length-1)++[n])[j]?=ab x->x.1=eD ns j/\j<ns.length/\(j<ns.length-1->x=gg 0 (eD ns j)):=by
  intro j x hx;rw[Rp,xq] at hx;by_cases a:j<ns.length-1
  .rw[aX a] at hx;unfold so at hx;rw[Ep,W1 a] at hx;obtain rfl:=aQ hx;exact⟨rfl,ai,λ_=>rfl⟩
  .rw[aR a] at hx;have:j-(ns.length-1)=0:=by
    grind
   rw[this] at hx;obtain rfl:=aQ hx;refine⟨?_,ai,λh=>absurd h a⟩;unfold eD
   grind
 constructor
 .intro f;refine⟨?_,f.may n bb⟩;unfold preB;rw[vL];intro j a;refine f.may _ (En _ ?_);unfold so
  grind
 .rintro⟨k,r⟩;unfold preB at k;refine⟨?_,?_,?_,?_⟩
  .rw[jB,xq];have:=h.2.1
   grind
  .intro i j x y l hx m;obtain⟨d,g,_⟩:=b i x hx;obtain⟨o,s,_⟩:=b j y m;unfold key;rw[d,o,xr h.1,xr h.1];have e:ns.take (j+1)=ns.take (i+1)++(ns.take<|j+1).drop (i+1):=by
    have:=(BI (i+1)<|ns.take<|j+1).symm
    grind
   rw[e,Vd]
   .decide
   .grind
  .intro x hx;rcases Rr.1 hx with hx|hx
   .obtain⟨j,a,rfl⟩:=T3.1 hx
    grind
   .grind
  .intro x hx;obtain⟨j,a⟩:=bz.1 hx;obtain⟨d,g,_⟩:=b j x a;rw[d,Np h.1 g];cases j with
   | zero=>left;rfl
   | succ j =>
     right;refine⟨gg 0<|eD ns j,En _ ?_,rfl,rfl⟩
     grind
def Nq{ns:List ay}(h:Ih ns)(a:ns≠[]){n:Nd}(c:n.1=aP ns)(m:Sm n) :
  eJ (n,())=ab (preB ns (ns.length-1)&&fY n,()):=by
 have d:bp n.1=(aP ns.dropLast,ns.getLast a):=by rw[c];exact Ci h.1 a
 have o:=h.sq (ns.length-1);have f:ns.dropLast=ns.take _:=TV;have b:Ih (ns.take<|ns.length-1):=h.take _;have g:=j7 _ b.1;have i:so (ns.take<|ns.length-1) (ns.take<|ns.length-1).length=so ns (ns.length-1):=by
  rw[kC,yx ai];apply W0;intro j p;unfold eD
  grind
 unfold eJ;rw[qP n.1 (by have:=m.1;omega),aa,d];dsimp only;rw[f,ri _ ai,aa,g,Js _ b,aa,i];have k:n.1≠[]:=by rw[c];exact λe=>a ((tl h.1).1 e)
 rw[bw k,aA,ae,bo (by rw[xq];have:=h.2.1;simp only[jC,nQ];omega),ae];have l:wk (so ns (ns.length-1)++[n]):=⟨by rw[jB,xq];have:=h.2.1;simp;omega,λx hx=>by
  rcases Rr.1 hx with hx|hx
  .obtain⟨j,p,rfl⟩:=T3.1 hx;exact⟨h.sq _,by simp[gg],by simp[gg]⟩
  .rw[zO] at hx;subst hx;exact m⟩
 obtain⟨e,q,r⟩:=mr _ l;rw[vf,q,aa];have hv:=YH h a c;rw[show aS e 0=_ by
  rw[Rq,gy,<-hv,<-r];unfold aS;simp]
def ahr{n:Nd}(h:fY n=true):fY (gg 0 n.1)=true:=by
 unfold fY at h⊢;simp only[gy] at h⊢;exact⟨⟨⟨h.1.1.1,by simp[gg]⟩,by simp[gg]⟩,by simp[QP,gg]⟩
def yQ{ns:List ay}(h:Ih ns):lG (aP ns,())=ab (preB ns ns.length&&decide (ns≠[]),()):=by
 have c:=j7 _ h.1;have e:=h.sq ns.length;rw[Es] at e;unfold lG;dsimp only;rw[iw _ ai,aa,c];have key:∀(d k:Nat),k+d=ns.length->(∀j,j<k->fY (gg 0<|eD ns j)=true) ->
   ∃r,Loop (gU (ns,())) ((false,aP<|ns.take k,(k:Int),()),())=ab r/\((r.1=0/\preB ns ns.length=true)\/(r.1=1/\r.2.1.1=false/\preB ns ns.length=false)):=by
  intro d;induction d with
  | zero =>
    intro k o a;obtain rfl:k=ns.length:=ai;refine⟨(0,(false,aP<|ns.take ns.length,(ns.length:Int),()),()),?_,.inl ⟨rfl,?_⟩⟩
    .rw[aT];unfold gU;rw[aw,af];rfl
    .unfold preB
     grind
  | succ d p =>
    intro k o a;have hx:ns[k]?=ab ns[k]:=ik ai;have q:=h.KZ (adt<|show k<ns.length by omega);have s:=h.sq k;have m:=h.sq (k+1);have t:=h.2.1;have step:gU (ns,()) ((false,aP<|ns.take k,(k:Int),()),())=ab (if fY (gg 0<|eD ns k)=true then .inl ((false,eD ns k,((k+1:Nat):Int),()),()) else .inr (1,(false,eD ns k,(k:Int),()),())):=by
     unfold gU;dsimp only;have b:=yi (gg 0<|eD ns k) (by show(eD ns k).length<=4096;unfold eD;omega) (by simp[gg]);unfold gg at b;rw[aq<|show k<ns.length by omega,ae,au hx,aa,Ap _ _ ai ai,aa,qR h.1 hx,b,aa,aL ai];unfold gg;cases fY _<;>rfl
    by_cases b:fY (gg 0<|eD ns k)=true
    .rw[aX b] at step;obtain⟨r,n,f⟩:=p (k+1) ai (λj u=>by
      by_cases v:j=k
      .grind
      .exact a j ai)
     exact⟨r,by rw[aT,step];exact n,f⟩
    .rw[aR b] at step;refine⟨_,by rw[aT,step];rfl,.inr ⟨rfl,rfl,?_⟩⟩;unfold preB
     grind
 obtain⟨r,n,f⟩:=key ns.length 0 ai (λj u=>ai);have g:Loop (gU (ns,())) ((false,([]:ay),(0:Int),()),())=ab r:=by
  have:aP (ns.take 0)=[]:=by simp[aP]
  grind
 rw[g,aa];rcases f with ⟨i,l⟩|⟨i,l,w⟩
 .rw[i,show de 0 0=true from rfl,ae,l,Bool.true_and]
  congr 2
  unfold nt bH;have:=tl h.1
  grind
 .rw[i,show de 1 0=false from rfl,af,l,w];rfl
def uV(a:List ay):Bool:=preB a a.length&&decide (a≠[])
def S2{a:List ay}(b:a≠[]):preB a a.length=(preB a (a.length-1)&&fY (gg 0<|aP a)):=by
 have c:0<a.length:=Li.2 b;have e:a.length=a.length-1+1:=ai;unfold preB
 conv=>lhs;rw[e]
 have:eD a (a.length-1)=aP a:=by unfold eD;rw[Hi ai]
 grind
def acf{a:List ay}(b:a≠[]){n:Nd}(d:n.1=aP a):(preB a (a.length-1)&&fY n)=(fY n&&uV a):=by
 unfold uV;rw[S2 b,dD b];cases c:fY n with
 | false=>simp
 | true =>
   have:=ahr c
   grind
def YI{n:Nd}(b:n.1=[]):eJ (n,())=ab (false,()):=by
 unfold eJ;have a:bp ([]:ay)=([],[]):=aK;rw[b,qP _ bb,aa,a];rw[ri _ bb,aa,show parts []=[] from rfl];have:=Js [] ⟨λx c=>(by cases c),bb,(by simp[aP])⟩;rw[this,aa];rfl
def QU{b:List ay}(h:Ih b):mN (aP b,())=ab (decide (b=[])||uV b,()):=by
 unfold mN;by_cases a:b=[]
 .subst a;rfl
 .have c:aP b≠[]:=λe=>a ((tl h.1).1 e);have d:Sm (gg 0<|aP b):=⟨h.2.2,by simp[gg],by simp[gg]⟩;have:=Nq h a (n:=gg 0 (aP b)) rfl d;unfold gg at this;rw[bw c,aA,ae,this,aa,aa,cL a,Lm];unfold uV;rw[S2 a,dD a,adD];rfl
def jm(p:Pt)(a:ay):Nd:=(a,p.1.2.1,p.1.2.2.1,p.2.1,p.1.2.2.2.2.2.2.2.1,())
def vk(p:Pt):Bool:=decide (p.1.2.1=1)&&decide (p.2.1=[])
def vl(ns:List ay):List ay:=ns.dropLast++[(nI<|ns.getLastD []).2]
def bR(p:Pt):Int×List ay×Bool :=
 if nH p.1.1=true then
  let ns:=names p.1.1
  if(nI<|ns.getLastD []).1=1 then(1,vl ns,vk p&&uV (vl ns))
  else if(nI<|ns.getLastD []).1=2 then(2,ns.dropLast,vk p&&(decide (ns.dropLast=[])||uV ns.dropLast))
  else if(nI<|ns.getLastD []).1=0 then(0,ns,(decide (ns=[])&&decide (p.1.2.1=2))||(fY (jm p<|aP ns)&&uV ns))
  else(0,[],false)
 else(0,[],false)
def Ct{s:ay}(h:nH s=true):Ih (names s):=by
 obtain⟨b,c,d⟩:=rl h;exact⟨λx a=>⟨(wG s x a).1,(wG s x a).2.1⟩,ai,ai⟩
def E4{s:ay}(h:nH s=true):((names s).getLastD []).length<=96:=by
 obtain⟨b,c,d⟩:=rl h;cases e:names s with
 | nil=>simp
 | cons a r =>
   have:(a::r).getLastD []∈names s:=by
    grind
   have:=D0 (names s) _ this;omega
def yj{a:List ay}(h:Nn a):bp (aP a)=(aP a.dropLast,a.getLastD []):=by
 by_cases b:a=[]
 .subst b;decide
 .rw[Ci h b]
  grind
def Nr{n:ay}(h:(nI n).1=1):(nI n).2=n.drop 4/\n.drop 4≠[]:=by
 unfold nI at h⊢
 grind
def Nt(n:ay):(nI n).1=0\/(nI n).1=1\/(nI n).1=2\/(nI n).1=3:=by
 unfold nI
 grind
def afl(d n:ay):(rk d n).length<=d.length+n.length+1:=by
 unfold rk
 grind
def Ii{s:ay}(h:nH s=true)(g:(nI<|(names s).getLastD []).1=1):rk (aP (names s).dropLast) (nI<|(names s).getLastD []).2=aP (vl<|names s)/\Ih (vl<|names s):=by
 have a:=Ct h;obtain⟨e,d⟩:=Nr g;have b:(names s).getLastD []∈names s:=by
  grind
 have c:Nn (vl<|names s):=λx hx=>by
  rcases Rr.1 hx with hx|hx
  .exact a.1 x (by rw[TV] at hx;exact JI hx)
  .rw[zO] at hx;subst hx;rw[e];exact⟨λq=>(a.1 _ b).1 (P3 q),d⟩
 have f:rk (aP (names s).dropLast) (nI<|(names s).getLastD []).2=aP (vl<|names s):=MR [_] _ c;refine⟨f,c,?_,?_⟩
 .unfold vl;have:=a.2.1
  grind
 .rw[<-f];have i:=afl (aP (names s).dropLast) (nI<|(names s).getLastD []).2;have j:=E4 h;have k:(aP (names s).dropLast).length<=96:=by
   rw[TV];have:=Cr (names s) ((names s).length-1);have:=(rl h).2.2;omega
  grind
def Di{a:List ay}(h:Ih a):Ih a.dropLast:=by
 rw[TV];exact h.take _
def SmP(p:Pt):Prop:=p.1.1.length<=300/\p.1.2.2.2.2.2.2.2.1.length<=300/\p.2.1.length<=8192
def Cu(p:Pt)(i:SmP p):ph (p,())=ab ((bR p).1,aP (bR p).2.1,(bR p).2.2,()):=by
 unfold ph;rw[SF p.1.1 (by have:=i.1;omega),aa];unfold bR;cases d:nH p.1.1 with
 | false =>
   have:lv p.1.1=([],2):=by unfold lv;rw[d];rfl
   rw[this,aR bb];rfl
 | true =>
   have g:lv p.1.1=(aP<|names p.1.1,0):=by unfold lv;rw[d];rfl
   have a:=Ct d;have m:=(rl d).2.2;rw[g,aX rfl];dsimp only;rw[show nt (aS 0 0)=false from rfl,af,vV _ ai,aa,yj a.1];dsimp only;rw[Jl,aa];have j:∀(A:Option Bool),(ao (ao (aS p.1.2.1 1) (bH p.2.1 []) false) A<|some false)=if vk p=true then A else ab false:=λA=>by
    unfold vk aS bH;by_cases c:p.1.2.1=1
    .by_cases k:p.2.1=[]
     .simp[c,k,ao]
     .simp[c,k,ao]
    .simp[c,ao]
   have l:=E4 d;rcases Nt ((names p.1.1).getLastD []) with b|b|b|b
   .rw[b,show aS 0 1=false from rfl,af,show aS 0 2=false from rfl,af,show aS 0 0=true from rfl,ae,aR aK,aR aK,aX rfl];unfold sg;rw[aa];have f:=yi (jm p<|aP<|names p.1.1) (by show(aP<|names p.1.1).length<=4096;omega) (by show p.1.2.2.2.2.2.2.2.1.length<=4096;have:=i.2.1;omega);rw[show lV ((aP<|names p.1.1,p.1.2.1,p.1.2.2.1,p.2.1,p.1.2.2.2.2.2.2.2.1,()),())=_ from f,aa,yQ a,aa];have h:ao (bH (aP<|names p.1.1) []) (aS p.1.2.1 2) false=(decide (names p.1.1=[])&&decide (p.1.2.1=2)):=by
     have:=tl a.1;unfold bH aS;by_cases c:names p.1.1=[]
     .rw[dD c,dD (this.2 c)];simp[ao]
     .rw[cL c,cL λe=>c (this.1 e)];rfl
    rw[h];cases decide (names p.1.1=[])&&decide (p.1.2.1=2) with
    | true=>rfl
    | false =>
      cases fY (jm p<|aP<|names p.1.1)<;>rfl
   .obtain⟨n,o⟩:=Ii d b;rw[b,show aS 1 1=true from rfl,ae,aX rfl,Ap _ _ (by have:=(Di a).2.2;omega) (by rw[(Nr b).1,pP];omega),aa,n];rw[yQ o,aa,j];cases vk p<;>rfl
   .rw[b,show aS 2 1=false from rfl,af,show aS 2 2=true from rfl,ae,aR aK,aX rfl];have hd:=Di a;rw[yQ hd,aa,j];have h:bH (aP (names p.1.1).dropLast) []=decide ((names p.1.1).dropLast=[]):=by
     have:=tl hd.1;unfold bH
     grind
    rw[h];cases vk p<;>cases decide ((names p.1.1).dropLast=[])<;>rfl
   .rw[b,show aS 3 1=false from rfl,af,show aS 3 2=false from rfl,af,show aS 3 0=false from rfl,af,aR aK,aR aK,aR aK];rfl
set_option maxRecDepth 100000
end Go.Ge
namespace Go.Ge
variable [Lp]
set_option maxRecDepth 100000
def qH(i:Nat)(n:Nat)(x:UInt8):Option (Nat⊕(Nat×(Int×Bool×Int×Int×al)×al)) :=
 ab (if x.toNat<48\/55<x.toNat then .inr (1,(0,false,(n:Int),(i:Int),()),()) else .inl (8*n+(x.toNat-48)))
def Cv(i:Nat)(n:Nat):Nat×(Int×Bool×Int×Int×al)×al:=(0,(0,false,(n:Int),(i:Int),()),())
def Nu{i n b:Nat}{x:UInt8}(c:i<=21/\n<8 ^ i)(d:i<21)(a:qH i n x=ab (.inl b)):i+1<=21/\b<8 ^ (i+1):=by
 unfold qH at a;have a:=aQ a;split at a
 .cases a
 .obtain rfl:=T4 a;refine⟨ai,?_⟩;rw[Nat.pow_succ];omega
def aam{i:Nat}(h:i<=20):8 ^ i<=1152921504606846976:=by
 have:(8:Nat) ^ i<=8 ^ 20:=Nat.pow_le_pow_right aK h;have e:(8:Nat) ^ 20=1152921504606846976:=aK;omega
def D1(s:ay)(m:s.length<=21):Loop (bS (s,())) ((0,false,0,0,()),())=uL qH Cv s 0 0:=by
 have key:=pV (f:=bS (s,())) s (λ(n:Nat) i=>((0,false,(n:Int),(i:Int),()),())) qH Cv (λi n=>i<=21/\n<8 ^ i)
  (λn i x c g d=>by
   have o:=aam (i:=i) ai;obtain⟨p,j⟩:=hR.1 c;have k:=x.toNat_lt;unfold bS qH;dsimp only;rw[lu,aO ai,ae,aM ai ai,ae,zt s g,j,aa,aL ai];by_cases a:x.toNat<48
   .rw[aO<|by unfold u8;omega,aG,af,ae,aX (.inl a)];rfl
   .by_cases b:55<x.toNat
    .rw[aJ<|by unfold u8;omega,aA,ae,aO (by unfold u8;omega),ae,aX (.inr b)];rfl
    .rw[aJ<|by unfold u8;omega,aA,ae,aJ (by unfold u8;omega),af,show ba 3 0=false from rfl,af,aR ai];have e:u8 x=((48+(x.toNat-48):Nat):Int):=by unfold u8;omega
     rw[e,amE ai ai];rfl)
  (λn i x q c d l=>Nu d (by have:=aF c;omega) l)
  (λn d=>by
   unfold bS Cv;dsimp only;rw[lu,aJ ai,af])
  (λ_ _ _ _ _ h=>by cases h) 0 ⟨ai,aK⟩
 exact key
def Ij(s:ay)(m:s.length<=21):Loop (gB (s,())) ((0,false,0,0,()),())=uL qH Cv s 0 0:=by
 have key:=pV (f:=gB (s,())) s (λ(n:Nat) i=>((0,false,(n:Int),(i:Int),()),())) qH Cv (λi n=>i<=21/\n<8 ^ i)
  (λn i x c g d=>by
   have o:=aam (i:=i) ai;have j:=x.toNat_lt;unfold gB qH;dsimp only;rw[aq g,ae,au c,aa,aa,aa,aL ai];by_cases a:x.toNat<48
   .rw[aO<|by unfold u8;omega,aG,af,aa,aG,af,ae,aX (.inl a)];rfl
   .by_cases b:55<x.toNat
    .rw[aJ<|by unfold u8;omega,aA,ae,aa,aO (by unfold u8;omega),aG,af,ae,aX (.inr b)];rfl
    .rw[aJ<|by unfold u8;omega,aA,ae,aa,aJ (by unfold u8;omega),aA,ae,aJ ai,af,aR ai];have e:u8 x=((48+(x.toNat-48):Nat):Int):=by unfold u8;omega
     rw[e,aiv ⟨x.toNat-48,ai⟩,B7 ai ai,e8 Bw Bw];have k:(8:Int)*(n:Int)+((x.toNat-48:Nat):Int)=((8*n+(x.toNat-48):Nat):Int):=ai;dsimp only;rw[k];rfl)
  (λn i x p c d l=>Nu d (by have:=aF c;omega) l)
  (λn d=>by
   unfold gB Cv;dsimp only;rw[aw,af])
  (λ_ _ _ _ _ h=>by cases h) 0 ⟨ai,aK⟩
 exact key
def Pk:∀(r:ay) (i n:Nat),∃q,uL qH Cv r i n=ab q/\(q.1=0\/q.1=1):=by
 intro r;induction r with
 | nil=>intro i n;exact⟨_,rfl,.inl rfl⟩
 | cons x r a =>
   intro i n;unfold uL qH;by_cases h:x.toNat<48\/55<x.toNat
   .rw[aX h];exact⟨_,rfl,.inr rfl⟩
   .rw[aR h];exact a (i+1) _
def Cw(s:ay)(e:s.length<=1048576):dN (s,())=nE (s,())/\∃n b,dN (s,())=ab (n,b,()):=by
 unfold dN nE;dsimp only;by_cases f:s.length<1
 .rw[aO<|by rw[bE];omega,aG,af,ae,ae];exact⟨rfl,_,_,rfl⟩
 .by_cases g:21<s.length
  .rw[aJ<|by rw[bE];omega,aA,ae,aO (by rw[bE];omega),ae,ae];exact⟨rfl,_,_,rfl⟩
  .rw[aJ<|by rw[bE];omega,aA,ae,aJ (by rw[bE];omega),af,af,ec (by rw[bE];omega),ae,D1 s ai,Ij s ai];refine⟨rfl,?_⟩;obtain⟨q,a,d⟩:=Pk s 0 0;rw[a,aa];rcases d with c|c
   .rw[c,b9,ae];exact⟨_,_,rfl⟩
   .rw[c,fv,af];exact⟨_,_,rfl⟩
end Go.Ge
namespace Go.Ge
variable [Lp]
def afm{a S R:Type}{f:S->Option (S⊕R)}(l:List a)(b:Nat->S)(p:a->Bool)(c:Nat->R)(e:R)
  (h:∀(i:Nat) (x:a),l[i]?=ab x->f (b i)=ab (if p x=true then .inr (c i) else .inl (b<|i+1))) (g:f (b l.length)=ab (.inr e)) :
  ∀(d i:Nat),i+d=l.length->(∃(j:Nat) (x:a),i<=j/\l[j]?=ab x/\p x=true/\(∀(m:Nat) (y:a),i<=m->m<j->l[m]?=ab y->p y=false)/\Loop f (b i)=ab (c j)) \/
   ((∀(m:Nat) (y:a),i<=m->l[m]?=ab y->p y=false)/\Loop f (b i)=ab e):=by
 intro d;induction d with
 | zero =>
   intro i s;obtain rfl:i=l.length:=ai;refine .inr ⟨λm y n r=>?_,by rw[aT,g];rfl⟩
   grind
 | succ d t =>
   intro i s;have hx:l[i]?=ab l[i]:=ik ai;have k:=h i _ hx;by_cases o:p l[i]=true
   .rw[aX o] at k;exact .inl ⟨i,_,cp _,hx,o,λm y n u=>absurd n ai,by rw[aT,k];rfl⟩
   .rw[aR o] at k;rcases t (i+1) ai with ⟨j,x,v,q,w,B,z⟩|⟨v,q⟩
    .refine .inl ⟨j,x,ai,q,w,λm y n A r=>?_,by rw[aT,k];exact z⟩
     grind
    .refine .inr ⟨λm y n r=>?_,by rw[aT,k];exact q⟩
     grind
def VR(p:UInt8->Bool)(s:ay):∃z,s=cX p s++z/\∀x∈z,p x=true:=by
 refine⟨(s.reverse.takeWhile p).reverse,?_,λx a=>?_⟩
 .unfold cX;rw[<-List.reverse_append,El,List.reverse_reverse]
 .rw[TY] at a;exact HQ a
def VS{p:UInt8->Bool}{s:ay}{m:Nat}{x:UInt8}(b:s[m]?=ab x)(c:p x=false):m<(cX p s).length/\∀j,j<=m->(cX p s)[j]?=s[j]?:=by
 obtain⟨z,d,a⟩:=VR p s
 grind
def Aw{p:UInt8->Bool}{s:ay}{j:Nat}(c:∀(m:Nat) (y:UInt8),j<=m->s[m]?=ab y->p y=true)(d:∀(m:Nat) (y:UInt8),m<j->s[m]?=ab y->p y=false):cX p s=s.take j:=by
 have e:=(BI j s).symm
 conv=>lhs;rw[e]
 rw[QD _ _ λx a=>by
  obtain⟨i,b⟩:=bz.1 a;rw[sY] at b;exact c _ x ai b]
 refine ae2 λx a=>?_
 grind
def Jt(x:UInt8):Bool:=decide (48<=x.toNat/\x.toNat<=55)
def afn{x:UInt8}(h:Jt x=true):Ao x=false:=by
 unfold Jt at h;cases a:Ao x with
 | false=>rfl
 | true =>
   rcases(Vs x).1 a with e|e
   .simp_all
   .simp_all
def VT:∀(r:ay) (i n:Nat) (x:UInt8),x∈r->Jt x=false->∃q,uL qH Cv r i n=ab q/\q.1=1/\q.2.1.2.1=false:=by
 intro r;induction r with
 | nil=>intro i n x hx;cases hx
 | cons a r c =>
   intro i n x hx b;unfold uL qH;by_cases h:a.toNat<48\/55<a.toNat
   .simp_all
   .rw[aR h];rcases lW.1 hx with e|hx
    .subst e;unfold Jt at b
     grind
    .exact c _ _ x hx b
def Pl{s:ay}(c:s.length<=21){x:UInt8}(a:x∈s)(d:Jt x=false):∃n,dN (s,())=ab (n,false,()):=by
 have b:=List.length_pos_of_mem a;unfold dN;dsimp only;rw[aJ<|by rw[bE];omega,aA,ae,aJ (by rw[bE];omega),af,ec (by rw[bE];omega),ae,D1 s c];obtain⟨q,e,f,g⟩:=VT s 0 0 x a d;rw[e,aa,f,fv,af,g]
 grind
def amO(x:UInt8):cu 48 (u8 x)=decide (48<=x.toNat):=by unfold cu u8;apply gX.2;omega
def amP(x:UInt8):cu (u8 x) 55=decide (x.toNat<=55):=by unfold cu u8;apply gX.2;omega
def rm(s:ay)(F:s.length<=21):fO (s,())=dz (s,()):=by
 unfold fO dz;rw[Gr s ai,aa];have first:=afm (f:=nK (s,())) s (λi=>(((i:Int),()),())) (λx=>!Jt x) _ _ (λi x u=>by
  have hi:=aF u;unfold nK;rw[aq hi,ae,au u,aa,aa,aa,amO,amP,aL ai];unfold Jt;by_cases c:48<=x.toNat
  .by_cases a:x.toNat<=55
   .rw[dD c,dD a,dD ⟨c,a⟩];rfl
   .rw[dD c,cL a,cL λq:48<=x.toNat/\x.toNat<=55=>a q.2];rfl
  .rw[cL c,cL λq:48<=x.toNat/\x.toNat<=55=>c q.1];rfl) (by
  unfold nK;rw[aw,af];rfl) s.length 0 ai
 rcases first with ⟨j,x,_,u,B,p,v⟩|⟨r,v⟩
 .rw[show Loop _ (((0:Int),()),())=_ from v,aa];have G:=aF u;have w:Jt x=false:=by simpa using B
  dsimp only;rw[ax<|by rw[bE];omega,af];have second:=afm (f:=nL (s,())) s (λi=>(((0:Int),(i:Int),()),())) (λx=>!Ao x) _ _ (λi y d=>by
   have hi:=aF d;have e0:aS (u8 y) 0=decide (y=0):=DT (n:=0);have z:aS (u8 y) 32=decide (y=32):=DT (n:=32);unfold nL;rw[aq hi,ae,au d,aa,aa,e0,z,aL ai];have g:=Vs y;by_cases c:y=0
   .rw[dD c,g.2 (.inl c)];rfl
   .by_cases a:y=32
    .rw[cL c,dD a,g.2 (.inr a)];rfl
    .rw[cL c,cL a,show Ao y=false by
     cases C:Ao y with
     | false=>rfl
     | true=>rcases g.1 C with e|e
             .grind
             .exact absurd e a];rfl) (by
   unfold nL;rw[aw,af]) (s.length-j) j ai
  rcases second with ⟨m,y,o,d,D,_,h⟩|⟨k,h⟩
  .rw[show Loop _ _=_ from h,aa,fv,af];obtain⟨H,I⟩:=VS d (by simpa using D);have t:x∈cX Ao s:=by
    grind
   have hlen:=pA Ao s;obtain⟨n,E⟩:=Pl ai t w;rw[E,aa];rfl
  .rw[show Loop _ _=_ from h,aa,b9,ae];have l:=Aw (λm y o d=>by simpa using k m y o d) (λm y o d=>afn (by simpa using p m y (qK _) o d));have A:inside (0:Int) (j:Int) (len s)=true:=l8 (qK _) ai;rw[A,ae,hU,l];obtain⟨c,n,b,a⟩:=Cw (s.take j) (by rw[kC];omega);rw[<-c,a,aa,aa];rw[ax<|show len _≠len s by rw[bE,bE,kC];omega];cases b<;>rfl
 .rw[show Loop _ (((0:Int),()),())=_ from v,aa,aE (by rw[bE]),ae];have l:cX Ao s=s:=by
   have:=Aw (s:=s) (j:=s.length) (λm y o d=>by have:=aF d;omega) (λm y o d=>afn (by simpa using r m y (qK _) d))
   grind
  rw[l];obtain⟨_,n,b,a⟩:=Cw s ai;rw[a,aa];rw[aE rfl];cases b<;>rfl
def Ik(s:ay)(L:s.length<=1000):∃t w,pn (s,())=ab (t,w,())/\ks (s,())=ab (cX cU s,w,())/\(w=true->t=cX cU s)/\t.length<=s.length:=by
 have e0:∀y:UInt8,aS (u8 y) 0=cU y:=λy=>rfl;rw[Gt s ai];unfold pn;have inner:∀i:Nat,i<=s.length->_:=λi A=>afm (f:=hJ (s,())) s (λk=>((([]:ay),false,(k:Int),()),())) (λx=>!cU x) _ _ (λk y a=>by
  have E:=aF a;unfold hJ;rw[aq E,ae,au a,aa,e0,aL ai];cases cU y<;>rfl) (by
  unfold hJ;rw[aw,af]) (s.length-i) i ai
 have outer:(∃(i:Nat) (x:UInt8),s[i]?=ab x/\cU x=true/\(∀(m:Nat) (y:UInt8),m<i->s[m]?=ab y->cU y=false)/\Loop (dU (s,())) ((([]:ay),false,(0:Int),()),())=(ag (Loop (hJ (s,())) ((([]:ay),false,(i:Int),()),())) λn=>ab (if n.1=0 then(1,(s.take i,true,(i:Int),()),()) else(1,(n.2.1.1,n.2.1.2.1,(i:Int),()),())))) \/
   ((∀(m:Nat) (y:UInt8),s[m]?=ab y->cU y=false)/\Loop (dU (s,())) ((([]:ay),false,(0:Int),()),())=ab (0,(([]:ay),false,(s.length:Int),()),())):=by
  have key:∀(d i:Nat),i+d=s.length->(∀(m:Nat) (y:UInt8),m<i->s[m]?=ab y->cU y=false)->(∃(j:Nat) (x:UInt8),s[j]?=ab x/\cU x=true/\(∀(m:Nat) (y:UInt8),m<j->s[m]?=ab y->cU y=false)/\Loop (dU (s,())) ((([]:ay),false,(i:Int),()),())=(ag (Loop (hJ (s,())) ((([]:ay),false,(j:Int),()),())) λn=>ab (if n.1=0 then(1,(s.take j,true,(j:Int),()),()) else(1,(n.2.1.1,n.2.1.2.1,(j:Int),()),())))) \/
   ((∀(m:Nat) (y:UInt8),s[m]?=ab y->cU y=false)/\Loop (dU (s,())) ((([]:ay),false,(i:Int),()),())=ab (0,(([]:ay),false,(s.length:Int),()),())):=by
   intro d;induction d with
   | zero =>
     intro i A o;obtain rfl:i=s.length:=ai;refine .inr ⟨λm y a=>o m y (aF a) a,?_⟩;have v:dU (s,()) ((([]:ay),false,(s.length:Int),()),())=ab (.inr (0,(([]:ay),false,(s.length:Int),()),())):=by
      unfold dU;rw[aw,af]
     rw[aT,v];rfl
   | succ d F =>
     intro i A o;have hx:s[i]?=ab s[i]:=ik ai;cases u:cU s[i] with
     | true =>
       refine .inl ⟨i,s[i],hx,u,o,?_⟩;have p:∃z,Loop (hJ (s,())) ((([]:ay),false,(i:Int),()),())=ab z/\(z.1=0\/z.1=1):=by
        grind
       obtain⟨z,v,G⟩:=p;have B:inside (0:Int) (i:Int) (len s)=true:=l8 (qK _) ai;have r:dU (s,()) ((([]:ay),false,(i:Int),()),())=ab (.inr<|if z.1=0 then(1,(s.take i,true,(i:Int),()),()) else(1,(z.2.1.1,z.2.1.2.1,(i:Int),()),())):=by
        unfold dU;rw[aq<|show i<s.length by omega,ae,au hx,aa,e0,u,ae,v,aa];rcases G with c|c
        .rw[c,b9,ae,B,ae,hU,aX rfl]
        .rw[c,fv,af,aR aK]
       rw[v,aa,aT,r];rfl
     | false =>
       have r:dU (s,()) ((([]:ay),false,(i:Int),()),())=ab (.inl ((([]:ay),false,((i+1:Nat):Int),()),())):=by
        unfold dU;rw[aq<|show i<s.length by omega,ae,au hx,aa,e0,u,af,aL ai]
       rw[aT,r];exact F _ ai (λm y b a=>by
        by_cases e:m=i
        .grind
        .exact o m y ai a)
  exact key s.length 0 ai (λm y b=>absurd b ai)
 rcases outer with ⟨i,x,hx,u,o,C⟩|⟨l,C⟩
 .rw[C];have A:=aF hx;rcases inner i ai with ⟨j,y,H,a,I,_,h⟩|⟨J,h⟩
  .rw[show Loop _ _=_ from h,aa,aa,aR (show ¬(1:Nat)=0 by decide),fv,af];refine⟨[],false,rfl,?_,λq=>(by cases q),bb⟩;obtain⟨M,K⟩:=VS a (by simpa using I);have:¬zv _:=λq=>by
    have b:=bz.2 ⟨i,by rw[K i H,hx]⟩;exact q x b ((zu x).1 u)
   grind
  .rw[show Loop _ _=_ from h,aa,aa,aX rfl,fv,af];have g:=Aw (λm y b a=>by simpa using J m y b a) (λm y b a=>o m y b a);refine⟨_,true,rfl,?_,λ_=>g.symm,by dsimp only;rw[kC];omega⟩;have:zv (cX cU s):=λy a=>by
    rw[g] at a;obtain⟨m,b⟩:=bz.1 a;have D:=aF b;rw[kC] at D;rw[List.getElem?_take_of_lt ai] at b;intro e;have:=o m y ai b;rw[(zu y).2 e] at this;cases this
   grind
 .rw[C,aa,b9,ae];have g:cX cU s=s:=by
   have:=Aw (j:=s.length) (λm y b a=>by have:=aF a;omega) (λm y b a=>l m y a)
   grind
  refine⟨s,true,rfl,?_,λ_=>g.symm,cp _⟩;have:zv (cX cU s):=λy a e=>by
   rw[g] at a;obtain⟨m,b⟩:=bz.1 a;have:=l m y b;rw[(zu y).2 e] at this;cases this
  grind
def uh(b:ay)(c:b.length=512)(a e:Nat)(h:a<=e)(d:e<=512):inside (a:Int) (e:Int) (len b)=true/\sub b (a:Int) (minus (e:Int) (a:Int))=gz b a (e-a):=by
 refine⟨l8 h ai,?_⟩;unfold sub minus gz
 grind
def afo(p q r:Bool)(H c:Hd)(d:p=true->q=true->r=true->c=H)(e:c.1.length<=1048576)(f:c.2.2.2.2.2.2.2.1.length<=1048576) :
  ag (ao (nt<|ao (nt<|ao (nt<|nt p) (nt q) true) (nt r) true) (ag (uN (c,(256:Int),())) λ(a:Bool×al)=>ab (nt a.1))<|some true) (λ(a:Bool)=>ao a (ab (ab5,(2:Int),())) (ab (c,(0:Int),()))) =
  ag (ao (nt<|ao (nt<|ao (nt<|nt p) (nt q) true) (nt r) true) (ag (re (H,(256:Int),())) λ(b:Bool×al)=>ab (nt b.1))<|some true) (λ(b:Bool)=>ao b (ab (ab5,(2:Int),())) (ab (H,(0:Int),()))):=by
 rw[ahl c 256 e f,Vw,aa,aa];cases p with
 | false=>rfl
 | true =>
   cases q with
   | false=>rfl
   | true =>
     cases r with
     | false=>rfl
     | true=>rw[d rfl rfl rfl]
def take_same(b:ay)(a:b.length=512):po (b,())=fB (b,()):=by
 obtain⟨P,p⟩:=fg (gz b 148 8) (by have:=cr b 148 8;omega);have r6:=rm (gz b 148 8) (by have:=cr b 148 8;omega);obtain⟨s,t⟩:=uh b a 257 265 ai ai;obtain⟨H,I⟩:=uh b a 148 156 ai ai;have q:aS (len b) 512=true:=aE (by simp only[len];omega);by_cases j:gz b 257 8=nN
 case neg =>
  rw[E1 b a j];unfold po;rw[q,aG,aA,ae,show inside (257:Int) (265:Int) (len b)=true from s,ae,show sub b (257:Int) (minus (265:Int) (257:Int))=gz b 257 8 from t,show([117,115,116,97,114,0,48,48]:ay)=nN from rfl,show bH (gz b 257 8) nN=false from cL j,aA,aa,aG,af,aa,ae];rfl
 by_cases r:P=(zB b 512:Int)
 case neg =>
  rw[VD b a p r];unfold po;rw[q,aG,aA,ae,show inside (257:Int) (265:Int) (len b)=true from s,ae,show sub b (257:Int) (minus (265:Int) (257:Int))=gz b 257 8 from t,show([117,115,116,97,114,0,48,48]:ay)=nN from rfl,j,show bH nN nN=true from rR _,aG,aa,aA,ae,show inside (148:Int) (156:Int) (len b)=true from H,ae,show sub b (148:Int) (minus (156:Int) (148:Int))=gz b 148 8 from I,r6,p,aa,GK b ai,aa];rw[a,ax r,aA,aa,ae];rfl
 obtain⟨n1,J⟩:=fg (gz b 100 8) (by have:=cr b 100 8;omega);obtain⟨n2,K⟩:=fg (gz b 108 8) (by have:=cr b 108 8;omega);obtain⟨n3,L⟩:=fg (gz b 116 8) (by have:=cr b 116 8;omega);obtain⟨n4,M⟩:=fg (gz b 124 12) (by have:=cr b 124 12;omega);obtain⟨n5,N⟩:=fg (gz b 136 12) (by have:=cr b 136 12;omega);have Q:=(rm (gz b 100 8) (by have:=cr b 100 8;omega)).trans J;have r2:=(rm (gz b 108 8) (by have:=cr b 108 8;omega)).trans K;have R:=(rm (gz b 116 8) (by have:=cr b 116 8;omega)).trans L;have S:=(rm (gz b 124 12) (by have:=cr b 124 12;omega)).trans M;have T:=(rm (gz b 136 12) (by have:=cr b 136 12;omega)).trans N;have m0:=cr b 0 100;have m8:=cr b 157 100;have m10:=cr b 345 155;obtain⟨f,U,u,v,w,V⟩:=Ik (gz b 0 100) ai;obtain⟨W,X,y,z,A,Y⟩:=Ik (gz b 157 100) ai;obtain⟨d,B,k,l,m,O⟩:=Ik (gz b 345 155) ai;have l0:=pA cU (gz b 0 100);have l10:=pA cU (gz b 345 155);obtain⟨Z,s0⟩:=uh b a 0 100 ai ai;obtain⟨i8,s8⟩:=uh b a 157 257 ai ai;obtain⟨C,D⟩:=uh b a 345 500 ai ai;obtain⟨i1,s1⟩:=uh b a 100 108 ai ai;obtain⟨i2,s2⟩:=uh b a 108 116 ai ai;obtain⟨i3,s3⟩:=uh b a 116 124 ai ai;obtain⟨i4,s4⟩:=uh b a 124 136 ai ai;obtain⟨i5,s5⟩:=uh b a 136 148 ai ai;obtain⟨c,hk,f7⟩:∃c,b[156]?=ab c/\gz b 156 1=[c]:=by
  refine⟨b[156],ik ai,?_⟩;unfold gz;rw[y8 ai];rfl
 unfold fB;rw[q,aG,aA,ae,o9 b a,aa,aa,show([117,115,116,97,114,0,48,48]:ay)=nN from rfl];rw[j,show bH nN nN=true from rR _,aG,aA,ae,o6 b a,aa];rw[p,aa,Ib b ai,aa];rw[a,aE r,aG,aa,af,o0 b a,aa];rw[v,aa,o8 b a,aa];rw[z,aa,o10 b a,aa];rw[l,aa];have o:(ao (nt<|bH (cX cU<|gz b 345 155) []) (ao (fits<|plus (len<|cX cU<|gz b 345 155)<|len ([47]:ay)) (ao (fits<|plus (len<|app (cX cU<|gz b 345 155) [47])<|len<|cX cU<|gz b 0 100)
   (ab ((app (app (cX cU<|gz b 345 155) [47])<|cX cU<|gz b 0 100,()),())) ah) ah)<|some ((cX cU<|gz b 0 100,()),()))=ab ((if cX cU (gz b 345 155)=[] then cX cU (gz b 0 100) else cX cU (gz b 345 155)++[47]++cX cU (gz b 0 100),()),()):=by
  by_cases e:cX cU (gz b 345 155)=[]
  .rw[aX e,di e,aG,af]
  .rw[aR e,bw e,aA,ae,ec (by simp only[plus,len,jC,nQ];omega),ae,ec (by simp only[plus,len,app,jB,jC,nQ];omega),ae];rfl
 rw[o,aa,o1 b a,aa];rw[J,aa,o2 b a,aa];rw[K,aa,o3 b a,aa];rw[L,aa,o4 b a,aa];rw[M,aa,o5 b a,aa];rw[N,aa,o7 b a,aa,f7];unfold po;rw[q,aG,aA,ae,show inside (257:Int) (265:Int) (len b)=true from s,ae,show sub b (257:Int) (minus (265:Int) (257:Int))=gz b 257 8 from t,show([117,115,116,97,114,0,48,48]:ay)=nN from rfl,j,show bH nN nN=true from rR _,aG,aa,aA,ae,show inside (148:Int) (156:Int) (len b)=true from H,ae,show sub b (148:Int) (minus (156:Int) (148:Int))=gz b 148 8 from I,r6,p,aa,GK b ai,aa];rw[a,aE r,aG,aa,af];rw[show inside (0:Int) (100:Int) (len b)=true from Z,ae,show sub b (0:Int) (minus (100:Int) (0:Int))=gz b 0 100 from s0,u,aa];rw[show inside (157:Int) (257:Int) (len b)=true from i8,ae,show sub b (157:Int) (minus (257:Int) (157:Int))=gz b 157 100 from s8,y,aa];rw[show inside (345:Int) (500:Int) (len b)=true from C,ae,show sub b (345:Int) (minus (500:Int) (345:Int))=gz b 345 155 from D,k,aa];rw[show inside (100:Int) (108:Int) (len b)=true from i1,ae,show sub b (100:Int) (minus (108:Int) (100:Int))=gz b 100 8 from s1,Q,aa];rw[show inside (108:Int) (116:Int) (len b)=true from i2,ae,show sub b (108:Int) (minus (116:Int) (108:Int))=gz b 108 8 from s2,r2,aa];rw[show inside (116:Int) (124:Int) (len b)=true from i3,ae,show sub b (116:Int) (minus (124:Int) (116:Int))=gz b 116 8 from s3,R,aa];rw[show inside (124:Int) (136:Int) (len b)=true from i4,ae,show sub b (124:Int) (minus (136:Int) (124:Int))=gz b 124 12 from s4,S,aa];rw[show inside (136:Int) (148:Int) (len b)=true from i5,ae,show sub b (136:Int) (minus (148:Int) (136:Int))=gz b 136 12 from s5,T,aa];have g:∀(x:Int×Int×Int×Int×Int×Int×ay×al),(ao (nt<|bH d []) (ao (fits<|plus (len d)<|len ([47]:ay)) (ao (fits<|plus (len<|app d [47])<|len f)
   (ab ((),(app (app d [47]) f,x),())) ah) ah)<|some ((),(f,x),()))=ab ((),(if d=[] then f else d++[47]++f,x),()):=λx=>by
  by_cases e:d=[]
  .rw[aX e,di e,aG,af]
  .rw[aR e,bw e,aA,ae,ec (by simp only[plus,len,jC,nQ];omega),ae,ec (by simp only[plus,len,app,jB,jC,nQ];omega),ae];rfl
 rw[g,aa,show idx b (156:Int)=ab c from au (i:=156) hk,aa];have E:bH [c] [48]=decide (c=48):=gX.2 bb;have c0:bH [c] [0]=decide (c=0):=gX.2 bb;have c53:bH [c] [53]=decide (c=53):=gX.2 bb;have F:bH [c] [50]=decide (c=50):=gX.2 bb;have d48:aS (u8 c) 48=decide (c=48):=DT (n:=48);have d0:aS (u8 c) 0=decide (c=0):=DT (n:=0);have d53:aS (u8 c) 53=decide (c=53):=DT (n:=53);have d50:aS (u8 c) 50=decide (c=50):=DT (n:=50);rw[E,c0,c53,F,d48,d0,d53,d50];have h:(if d=[] then f else d++[47]++f).length<=1048576:=by
  grind
 refine afo U X B _ _ (λa0 a8 G=>?_) ?_ ?_
 .rw[w a0,A a8,m G];all_goals cases decide (c=48)<;>cases decide (c=0)<;>cases decide (c=53)<;>cases decide (c=50)<;>rfl
 .cases decide (c=48)<;>cases decide (c=0)<;>cases decide (c=53)<;>cases decide (c=50)<;>exact h
 .have h8:W.length<=1048576:=ai;have hn:([]:ay).length<=1048576:=bb;cases decide (c=48)<;>cases decide (c=0)<;>cases decide (c=53)<;>cases decide (c=50)<;>first|exact hn|exact h8
abbrev Stp:=((ay×al)⊕((ay×al)⊕(al⊕((Nd×al)⊕al))))
def aan(p:Pt)(w:Int×List ay×Bool):Stp :=
 if w.1=1 then .inl (aP w.2.1,()) else if w.1=2 then .inr (.inl (aP w.2.1,())) else if w.2.1=[] then .inr (.inr<|.inl ()) else .inr (.inr<|.inr<|.inl (jm p<|aP w.2.1,()))
def jF(p:Pt):Stp:=aan p (bR p)
def Nv(p:Pt)(A:Option Bool):(ao (ao (aS p.1.2.1 1) (bH p.2.1 []) false) A<|some false)=if vk p=true then A else ab false:=by
 unfold vk aS bH;by_cases a:p.1.2.1=1
 .by_cases b:p.2.1=[]
  .simp[a,b,ao]
  .simp[a,b,ao]
 .simp[a,ao]
def acg(a:List ay):vl a≠[]:=by unfold vl;simp
def afp(p:Pt)(k:SmP p):∃s,se (p,())=ab (s,(bR p).2.2,())/\((bR p).2.2=true->s=jF p):=by
 unfold se;dsimp only;rw[QH p.1.1 (by have:=k.1;omega),aa];dsimp only;unfold jF;cases c:nH p.1.1 with
 | false =>
   have:lv p.1.1=([],2):=by unfold lv;rw[c];rfl
   have f:bR p=(0,[],false):=by unfold bR;rw[c,aR bb]
   rw[this,f];exact⟨_,rfl,λh=>by cases h⟩
 | true =>
   have l:lv p.1.1=(aP<|names p.1.1,0):=by unfold lv;rw[c];rfl
   have d:=Ct c;have q:=(rl c).2.2;have o:=E4 c;rw[l];dsimp only;rw[show nt (aS 0 0)=false from rfl,af,qP _ ai,aa,yj d.1];dsimp only;rw[Vz,aa];dsimp only;rcases Nt ((names p.1.1).getLastD []) with b|b|b|b
   .have f:bR p=(0,names p.1.1,(decide (names p.1.1=[])&&decide (p.1.2.1=2))||(fY (jm p<|aP<|names p.1.1)&&uV (names p.1.1))):=by
     unfold bR;rw[c,aX rfl];dsimp only;rw[b,aR aK,aR aK,aX rfl]
    rw[f,b,show aS 0 1=false from rfl,af,show aS 0 2=false from rfl,af,show aS 0 3=false from rfl,af];unfold aan;dsimp only;rw[aR aK,aR aK];have g:=tl d.1;by_cases a:names p.1.1=[]
    .have i:aP (names p.1.1)=[]:=g.2 a;rw[dD a,di i,ae,aX a];by_cases j:p.1.2.1=2
     .rw[aE j,dD j,ae];exact⟨_,rfl,λ_=>rfl⟩
     .rw[ax j,cL j,af];have:=YI (n:=jm p (aP<|names p.1.1)) i;rw[show eJ ((aP<|names p.1.1,p.1.2.1,p.1.2.2.1,p.2.1,p.1.2.2.2.2.2.2.2.1,()),())=_ from this,aa];have m:uV (names p.1.1)=false:=by unfold uV;rw[a];rfl
      rw[m];simp only[adA,adB];exact⟨_,rfl,λh=>by cases h⟩
    .have i:aP (names p.1.1)≠[]:=λe=>a (g.1 e);rw[cL a,bw i,af,af,aR a];have r:Sm (jm p<|aP<|names p.1.1):=⟨by show(aP<|names p.1.1).length<=200;omega,k.2.1,k.2.2⟩;have:=Nq d a (n:=jm p (aP<|names p.1.1)) rfl r;rw[acf a rfl] at this;rw[show eJ ((aP<|names p.1.1,p.1.2.1,p.1.2.2.1,p.2.1,p.1.2.2.2.2.2.2.2.1,()),())=_ from this,aa];simp only[Bool.false_and,Lm];exact⟨_,rfl,λ_=>rfl⟩
   .obtain⟨t,u⟩:=Ii c b;have f:bR p=(1,vl<|names p.1.1,vk p&&uV (vl<|names p.1.1)):=by
     unfold bR;rw[c,aX rfl];dsimp only;rw[b,aX rfl]
    rw[f,b,show aS 1 1=true from rfl,ae,HS _ _ (by have:=(Di d).2.2;omega) (by rw[(Nr b).1,pP];omega),aa,t];dsimp only;rw[QU u,aa,Nv,cL (acg _),Lm];refine⟨.inl (aP<|vl<|names p.1.1,()),?_,λ_=>rfl⟩;cases vk p<;>rfl
   .have hd:=Di d;have f:bR p=(2,(names p.1.1).dropLast,vk p&&(decide ((names p.1.1).dropLast=[])||uV (names p.1.1).dropLast)):=by
     unfold bR;rw[c,aX rfl];dsimp only;rw[b,aR aK,aX rfl]
    rw[f,b,show aS 2 1=false from rfl,af,show aS 2 2=true from rfl,ae];rw[QU hd,aa,Nv];refine⟨.inr<|.inl (aP (names p.1.1).dropLast,()),?_,λ_=>rfl⟩;cases vk p<;>rfl
   .have f:bR p=(0,[],false):=by
     unfold bR;rw[c,aX rfl];dsimp only;rw[b,aR aK,aR aK,aR aK]
    rw[f,b,show aS 3 1=false from rfl,af,show aS 3 2=false from rfl,af,show aS 3 3=true from rfl,ae];exact⟨_,rfl,λh=>by cases h⟩
def ic(l:List Pt):Bool:=l.all λp=>(bR p).2.2
def S3(l:List Pt):Prop:=l.length<=10000/\∀p∈l,SmP p
def afq{l:List Pt}:(∀(i:Nat) (x:Pt),l[i]?=ab x->(!(bR x).2.2)=false)->ic l=true:=λh=>by
 unfold ic;rw[vL];intro x a;obtain⟨i,b⟩:=bz.1 a;have:=h i x b;simpa using this
def aao{l:List Pt}{i:Nat}{x:Pt}(a:l[i]?=ab x)(h:(!(bR x).2.2)=true):ic l=false:=by
 unfold ic;rw[List.all_eq_false];exact⟨x,eQ a,by simpa using h⟩
def QV(l:List Pt)(c:S3 l):mO (l,())=ab (if ic l=true then(l.map jF,true,()) else([],false,())):=by
 unfold mO;have n:=c.1;rcases iK (f:=gm (l,())) l (λi=>((([]:List Stp),false,(),i,()),(l.take i.toNat).map jF,())) (λ_ x=>!(bR x).2.2) (λi _=>(1,(([]:List Stp),false,(),(i:Int),()),(l.take i).map jF,())) (0,(([]:List Stp),false,(),(l.length:Int),()),l.map jF,()) ai (λi x a d b=>by
  obtain⟨s,e,g⟩:=afp x (c.2 x<|eQ a);unfold gm;dsimp only;rw[aq d,ae,au a,aa,e,aa,b];dsimp only;rw[qJ,qJ];have hlen:((l.take i).map jF).length<=10000:=by rw[ux,kC];omega
  cases j:(bR x).2.2 with
  | false=>rfl
  | true =>
    rw[aG,af,bo (by simp only[jC,nQ];omega),ae,g j];have:(l.take<|i+1).map jF=(l.take i).map jF++[jF x]:=by rw[Er,a,ZA];rfl
    rw[this];rfl) (by
  unfold gm;dsimp only;rw[aw,af,qJ,Es]) with ⟨i,x,a,k,_,h⟩|⟨m,h⟩
 .rw[show Loop (gm (l,())) ((([]:List Stp),false,(),(0:Int),()),([]:List Stp),())=_ from h,aa,aao a k];rfl
 .rw[show Loop (gm (l,())) ((([]:List Stp),false,(),(0:Int),()),([]:List Stp),())=_ from h,aa,afq m];rfl
def Cx(l:List Pt)(c:S3 l):p5 (l,())=ab (ic l,()):=by
 unfold p5;have j:=c.1;rcases iK (f:=pj (l,())) l (λi=>((false,i,()),())) (λ_ x=>!(bR x).2.2) (λi _=>(1,(false,(i:Int),()),())) (0,(false,(l.length:Int),()),()) ai (λi x b d a=>by
  unfold pj;dsimp only;rw[aq d,ae,au b,aa,Cu x (c.2 x<|eQ b),aa,a];dsimp only;cases (bR x).2.2<;>rfl) (by
  unfold pj;dsimp only;rw[aw,af]) with ⟨i,x,b,e,_,h⟩|⟨g,h⟩
 .rw[h,aa,aao b e];rfl
 .rw[h,aa,afq g];rfl
def QW{l:List Nd}{g:Nd->Bool}{i:Nat}{x:Nd}(a:l[i]?=ab x)(c:g x=true)(d:∀(j:Nat) y,j<i->l[j]?=ab y->g y=false):l.take i=(l.take<|i+1).filter (λx=>!g x):=by
 rw[Er,a,Lj];have e:(l.take i).filter (λx=>!g x)=l.take i:=Hj.2 λy b=>by
  obtain⟨j,f⟩:=bz.1 b
  grind
 grind
def ach(l:List Nd)(p:ay)(a:wk l)(c:p.length<=4096):(∃i x,l[i]?=ab x/\gone p x=true/\(∀(j:Nat) y,j<i->l[j]?=ab y->gone p y=false)/\Loop (iO (l,p,())) ((0,0,()),(),p,())=ab (1,((i:Int),(i:Int),()),(),p,())) \/
  ((∀(i:Nat) x,l[i]?=ab x->gone p x=false)/\Loop (iO (l,p,())) ((0,0,()),(),p,())=ab (0,(0,(l.length:Int),()),(),p,())) :=
 iK (f:=iO (l,p,())) l (λi=>((0,i,()),(),p,())) (λ_ x=>gone p x) (λi x=>(1,((i:Int),(i:Int),()),(),p,())) (0,(0,(l.length:Int),()),(),p,()) (by have:=a.1;omega) (λi x b d e=>by
  unfold iO;dsimp only;rw[aq d,ae,aM ai fi,ae,au b,aa,zw _ _ (by have:=(a.at b).1;omega) c,aa,tM,e];unfold gone;cases decide (x.1=p)<;>cases du (parts x.1) (parts p)<;>rfl) (by unfold iO;dsimp only;rw[aw,af])
def aci(l:List Nd)(p:ay)(g:wk l)(k:p.length<=4096)(i:Nat)(x:Nd)(a:l[i]?=ab x)(m:gone p x=true)(b:∀(j:Nat) y,j<i->l[j]?=ab y->gone p y=false) :
  ∃(w:Nat) (L:List Nd),Loop (lD) (((i:Int),aH IntKind.i64 (i:Int) 1,(),()),(),p,l,())=ab (((w:Int),(l.length:Int),(),()),(),p,L,())/\L.length=l.length/\w<=l.length/\L.take w=pH l p:=by
 have hi:=aF a;have u:=g.1;obtain⟨w,L,n,h,o,q⟩:=GM (f:=lD) l (gone p) (λw j L=>((w,j,(),()),(),p,L,())) (λw L=>((w,(L.length:Int),(),()),(),p,L,())) ai (λw j L x a c v r s b=>by
  unfold lD;dsimp only;have d:w<L.length:=ai;obtain⟨z,t⟩:∃z,L[w]?=ab z:=⟨_,ik d⟩;have e:ao (nt<|bH x.1 p) (ag (dE (x.1,p,())) λ(y:Bool×al)=>ab y.1) (ab true)=ab (gone p x):=by
   rw[zw _ _ (by have:=(g.at a).1;omega) k,aa,tM];unfold gone;cases decide (x.1=p)<;>rfl
  rw[aq r,ae,aM ai fi,ae,au c,aa,e,aa,b];cases gone p x with
  | true=>rfl
  | false =>
    rw[aA,ae,aM ai fi,ae,au t,aa,aa,aa,aa,s,uK];rfl) (λw L=>by
  unfold lD;rw[aw,af];rfl) l.length i (i+1) l ai ai ai rfl (QW a m b) rfl
 refine⟨w,L,?_,h,o,q⟩;rw[aL ai,n,h]
def YJ(l:List Nd)(p:ay)(a:wk l)(c:p.length<=4096)(f:Valid l):tZ (l,p,())=ab (pH l p,()):=by
 obtain⟨e,g,k⟩:=mr l a;obtain rfl:=k.2 f;unfold tZ;dsimp only;rw[g,aa];rw[show nt (aS 0 0)=false by rfl,af,cN (by have:=a.1;omega),ae];rcases ach l p a c with ⟨i,x,b,m,d,h⟩|⟨d,h⟩
 .obtain⟨w,L,n,r,s,o⟩:=aci l p a c i x b m d;rw[h,aa];rw[fv,af,show aS (i:Int) (-1)=false by unfold aS;exact cL ai,af,n,aa];dsimp only;rw[aV ai fi<|sF _,ae,GN L w ai,aV (sF _) ai ai,ae,Cn L w ai,o]
 .have q:pH l p=l:=Hj.2 λx b=>by
   obtain⟨j,t⟩:=bz.1 b
   grind
  rw[h,aa,q];rw[b9,ae,show aS (-1) (-1)=true by rfl,ae]
def Il(p:ay)(x:Nd):Bool:=du (parts x.1) (parts p)
def acj(l:List Nd)(p:ay)(a:wk l)(c:p.length<=4096):(∃i x,l[i]?=ab x/\Il p x=true/\(∀(j:Nat) y,j<i->l[j]?=ab y->Il p y=false)/\Loop (jM (l,p,())) ((0,0,()),(),p,())=ab (1,((i:Int),(i:Int),()),(),p,())) \/
  ((∀(i:Nat) x,l[i]?=ab x->Il p x=false)/\Loop (jM (l,p,())) ((0,0,()),(),p,())=ab (0,(0,(l.length:Int),()),(),p,())) :=
 iK (f:=jM (l,p,())) l (λi=>((0,i,()),(),p,())) (λ_ x=>Il p x) (λi x=>(1,((i:Int),(i:Int),()),(),p,())) (0,(0,(l.length:Int),()),(),p,()) (by have:=a.1;omega) (λi x b d e=>by
  unfold jM;dsimp only;rw[aq d,ae,aM ai fi,ae,au b,aa,zw _ _ (by have:=(a.at b).1;omega) c,aa,e];unfold Il;cases du (parts x.1) (parts p)<;>rfl) (by unfold jM;dsimp only;rw[aw,af])
def ack(l:List Nd)(p:ay)(e:wk l)(h:p.length<=4096)(i:Nat)(x:Nd)(a:l[i]?=ab x)(k:Il p x=true)(b:∀(j:Nat) y,j<i->l[j]?=ab y->Il p y=false) :
  ∃(w:Nat) (L:List Nd),Loop (mL) (((i:Int),aH IntKind.i64 (i:Int) 1,(),()),(),p,l,())=ab (((w:Int),(l.length:Int),(),()),(),p,L,())/\L.length=l.length/\w<=l.length/\L.take w=l.filter (λx=>!Il p x):=by
 have hi:=aF a;have t:=e.1;obtain⟨w,L,m,g,n,o⟩:=GM (f:=mL) l (Il p) (λw j L=>((w,j,(),()),(),p,L,())) (λw L=>((w,(L.length:Int),(),()),(),p,L,())) ai (λw j L x a c u q r b=>by
  unfold mL;dsimp only;have d:w<L.length:=ai;obtain⟨z,s⟩:∃z,L[w]?=ab z:=⟨_,ik d⟩;rw[aq q,ae,aM ai fi,ae,au c,aa,zw _ _ (by have:=(e.at a).1;omega) h,aa,b];unfold Il;cases du (parts x.1) (parts p) with
  | true=>rfl
  | false =>
    rw[aA,ae,aM ai fi,ae,au s,aa,aa,aa,aa,r,uK];rfl) (λw L=>by
  unfold mL;rw[aw,af];rfl) l.length i (i+1) l ai ai ai rfl (QW a k b) rfl
 refine⟨w,L,?_,g,n,o⟩;rw[aL ai,m,g]
def Nw(l:List Nd)(p:ay):ib l p false=l.filter (λx=>!Il p x):=by
 unfold ib Il
 grind
def acm(l:List Nd)(p:ay)(a:wk l)(c:p.length<=4096)(f:Valid l):vX (l,p,())=ab (ib l p false,()):=by
 obtain⟨e,g,k⟩:=mr l a;obtain rfl:=k.2 f;rw[Nw];unfold vX;dsimp only;rw[g,aa];rw[show nt (aS 0 0)=false by rfl,af,cN (by have:=a.1;omega),ae];rcases acj l p a c with ⟨i,x,b,m,d,h⟩|⟨d,h⟩
 .obtain⟨w,L,n,r,s,o⟩:=ack l p a c i x b m d;rw[h,aa];rw[fv,af,show aS (i:Int) (-1)=false by unfold aS;exact cL ai,af,n,aa];dsimp only;rw[aV ai fi<|sF _,ae,GN L w ai,aV (sF _) ai ai,ae,Cn L w ai,o]
 .have q:l.filter (λx=>!Il p x)=l:=Hj.2 λx b=>by
   obtain⟨j,t⟩:=bz.1 b
   grind
  rw[h,aa,q];rw[b9,ae,show aS (-1) (-1)=true by rfl,ae]
def VU(l:List Nd)(p:ay)(c:wk l)(d:Valid l):vW (l,p,())=ab (findF l p):=by
 obtain⟨e,f,j⟩:=tk l c;obtain rfl:=j.2 d;unfold vW;rcases Cm l p c with ⟨i,x,g,a,h⟩|⟨b,h⟩
 .rw[h,aa,f,aa];rw[aJ ai,au g,E2 d.ord (eQ g) a];rfl
 .rw[h,aa,f,aa,Ni b];rfl
def YK{n:Nd}(h:fY n=true):n.1.length<=92/\n.2.2.2.2.1.length<=100/\n.2.2.2.1.length<=8192:=by
 unfold fY at h;simp only[gy] at h;have b:=h.1.1.1;have a:=h.2;unfold xo at b;simp only[gy,uv] at b;refine⟨b.1.1.2,?_⟩;unfold QP at a;split at a
 .have:=iq a;exact⟨by rw[this.1];simp,this.2⟩
 .split at a
  .have:=iq a;exact⟨by rw[this.1];simp,by rw[this.2];simp⟩
  .split at a
   .have:=iq a;exact⟨this.2.2.1,by rw[this.1];simp⟩
   .cases a
def gJ{l:List Nd}(h:Valid l):wk l:=⟨by have:=h.few;omega,λx a=>by
 have:=YK (h.may x a);exact⟨ai,ai,ai⟩⟩
def VV{l:List Nd}(h:Valid l)(p:ay):Valid (pH l p):=by
 refine⟨iU (TU _ _) h.few,h.ord.filter _,λx d=>h.may x (y9.1 d).1,λx d=>?_⟩;obtain⟨f,b⟩:=y9.1 d;by_cases c:(bp x.1).1=[]
 .exact .inl c
 .rcases h.up x f with g|⟨y,i,e,k⟩
  .exact absurd g c
  .refine .inr ⟨y,y9.2 ⟨i,?_⟩,e,k⟩;cases a:gone p y with
   | false=>rfl
   | true =>
     have:gone p x=true:=by
      unfold gone at a⊢;rw[Fs] at a⊢;rcases a with a|a
      .right;rw[<-iq a,e];exact E3 c
      .exact .inr (Nk c e a)
     rw[this] at b;cases b
def Nx{l:List Nd}(h:Valid l)(p:ay):Valid (ib l p false):=by
 refine⟨iU (TU _ _) h.few,h.ord.filter _,λx b=>h.may x (y9.1 b).1,λx b=>?_⟩;obtain⟨c,a⟩:=y9.1 b;by_cases d:(bp x.1).1=[]
 .exact .inl d
 .rcases h.up x c with f|⟨y,g,e,k⟩
  .exact absurd f d
  .refine .inr ⟨y,y9.2 ⟨g,?_⟩,e,k⟩;cases i:du (parts y.1) (parts p) with
   | false=>rfl
   | true =>
     rw[Nk d e i] at a;cases a
def S4(l:List Nd)(p:ay):ib l p true=pH l p:=by
 unfold ib pH gone
 congr 1
 funext x;cases decide (x.1=p)<;>cases du (parts x.1) (parts p)<;>rfl
def xv(p:Pt):Ih (bR p).2.1:=by
 have a:Ih []:=⟨λx c=>(by cases c),bb,(by simp[aP])⟩;unfold bR;split
 .rename_i b;dsimp only;split
  .rename_i d;exact(Ii b d).2
  .split
   .exact Di (Ct b)
   .split
    .exact Ct b
    .exact a
 .exact a
def uW(t:List Nd)(p:Pt):List Nd:=if(bR p).1=1 then pH t (aP (bR p).2.1) else if(bR p).1=2 then ib t (aP (bR p).2.1) false else t
def xw{t:List Nd}(h:Valid t)(p:Pt):Valid (uW t p):=by
 unfold uW;split
 .exact VV h _
 .split
  .exact Nx h _
  .exact h
def Pm{t:List Nd}(h:Valid t)(p:Pt):sf (jF p,t,())=ab (uW t p,()):=by
 have a:=xv p;have d:=gJ h;unfold sf jF aan uW;dsimp only;by_cases b:(bR p).1=1
 .rw[aX b,aX b];show jw _=_
  unfold jw;dsimp only;rw[YJ t _ d (by have:=a.2.2;omega) h,aa]
 .rw[aR b,aR b];by_cases c:(bR p).1=2
  .rw[aX c,aX c];show gT _=_
   unfold gT;dsimp only;rw[acm t _ d (by have:=a.2.2;omega) h,aa]
  .rw[aR c,aR c];by_cases e:(bR p).2.1=[]
   .rw[aX e];rfl
   .rw[aR e];rfl
def Ny{t:List Nd}(h:Valid t)(p:ay)(a:p.length<=4096):sd (t,p,())=ab (pH t p,()):=by
 obtain⟨b,c,d⟩:=tk t (gJ h);unfold sd;dsimp only;rw[c,aa,d.2 h];dsimp only;rw[aG,af,Co t p true (gJ h) a,aa,S4]
def Pn{t:List Nd}(h:Valid t)(p:ay)(a:p.length<=4096):ua (t,p,())=ab (ib t p false,()):=by
 obtain⟨b,c,d⟩:=tk t (gJ h);unfold ua;dsimp only;rw[c,aa,d.2 h];dsimp only;rw[aG,af,Co t p false (gJ h) a,aa]
def QX{a c:Type}(f:c->a->c)(l:List a)(b:c){i:Nat}{x:a}(d:l[i]?=ab x):(l.take<|i+1).foldl f b=f ((l.take i).foldl f b) x:=by
 rw[Er,d,List.foldl_append];rfl
def YL(l:List Pt)(e:Bool)(a:List Nd)(h:Valid a)(m:l.length<=10000):Loop (lE (l.map jF,e,())) ((a,(0:Int),()),())=ab ((l.foldl uW a,(l.length:Int),()),())/\Valid (l.foldl uW a):=by
 obtain⟨t,c,j,_⟩:=zr (f:=lE (l.map jF,e,())) l (λ(t:List Nd) i=>((t,i,()),())) (λt _ x=>uW t x) (λt=>((t,(l.length:Int),()),())) (λt i=>t=(l.take i).foldl uW a/\Valid t) ai (λt i x g k b d=>by
  have hy:(l.map jF)[i]?=ab (jF x):=by rw[Ep,g];rfl
  constructor
  .unfold lE;dsimp only;rw[aq<|show i<(l.map jF).length by rw[ux];exact k,ae,au hy,aa,b];rw[show sf (jF x,t,())=_ from Pm d.2 x,aa];rfl
  .exact⟨by rw[QX uW l a g,<-d.1],xw d.2 x⟩) (λt _=>by
  unfold lE;dsimp only;rw[show ba (l.length:Int) (len<|l.map jF)=false by rw[<-ux (f:=jF)];exact aw,af];rfl) a ⟨rfl,h⟩
 rw[Es] at c;rw[<-c.1];exact⟨j,c.2⟩
def Po(a:List Nd)(l:List Pt)(j:S3 l)(m:Valid a):Loop (ot (a,l,())) ((a,(0:Int),()),())=ab ((l.foldl uW a,(l.length:Int),()),()):=by
 have n:=j.1;obtain⟨t,k,b,_⟩:=zr (f:=ot (a,l,())) l (λ(t:List Nd) i=>((t,i,()),())) (λt _ x=>uW t x) (λt=>((t,(l.length:Int),()),())) (λt i=>t=(l.take i).foldl uW a/\Valid t) ai (λt i x h o c e=>by
  have d:=xv x;constructor
  .unfold ot;dsimp only;rw[aq o,ae,au h,aa,Cu x (j.2 x<|eQ h),aa,c];dsimp only;rw[Ny e.2 _ (by have:=d.2.2;omega),aa,Pn e.2 _ (by have:=d.2.2;omega),aa];unfold uW;by_cases b:(bR x).1=1
   .rw[aE b,aX b];rfl
   .rw[ax b,aR b];by_cases g:(bR x).1=2
    .rw[aE g,aX g];rfl
    .rw[ax g,aR g];rfl
  .exact⟨by rw[QX uW l a h,<-e.1],xw e.2 x⟩) (λt _=>by
  unfold ot;dsimp only;rw[aw,af];rfl) a ⟨rfl,m⟩
 rw[Es] at k;rw[<-k.1];exact b
def xy{t:List Nd}{n:Nd}(h:(bK t n).2=0):Valid (bK t n).1:=by
 rcases Nl t n with ⟨_,a⟩|⟨b,a,c,r,d,e,f⟩
 .grind
 .rw[f];exact QT b a c d e
def jn:List ay->ay->List Nd->List Nd×Int
 | [],_,t=>(t,0)
 | nm::r,at',t =>
   if(findF t<|rk at' nm).2.1=true/\(findF t<|rk at' nm).1.2.1=2 then jn r (rk at' nm) t
   else if(bK t<|gg 493<|rk at' nm).2=0 then jn r (rk at' nm) (bK t<|gg 493<|rk at' nm).1
   else([],(bK t<|gg 493<|rk at' nm).2)
def Cy:∀(r:List ay) (a:ay) (t:List Nd),Valid t->(jn r a t).2=0->Valid (jn r a t).1:=by
 intro r;induction r with
 | nil=>intro a t h _;exact h
 | cons nm r d =>
   intro a t h b;unfold jn at b⊢;split at b
   .grind
   .rename_i e;rw[aR e];split at b
    .rename_i c;rw[aX c];exact d _ _ (xy c) b
    .grind
abbrev DS:=((List Nd×(List Nd×(Int×(ay×(Int×al)))))×al)
def VW{f:DS->Option (DS⊕(Nat×DS))}(ns:List ay)(h:Ih ns)(n:Nat)(u:n<=ns.length)
  (b:∀(i:Nat) (x:ay) (t:List Nd),i<n->ns[i]?=ab x->Valid t ->
   f ((t,[],(0:Int),aP<|ns.take i,(i:Int),()),()) =
    ab (if(findF t<|eD ns i).2.1=true/\(findF t<|eD ns i).1.2.1=2 then .inl ((t,[],(0:Int),eD ns i,((i+1:Nat):Int),()),())
     else if(bK t<|gg 493<|eD ns i).2=0 then .inl (((bK t<|gg 493<|eD ns i).1,[],(0:Int),eD ns i,((i+1:Nat):Int),()),())
     else .inr (1,(t,[],(bK t<|gg 493<|eD ns i).2,eD ns i,(i:Int),()),())))
  (g:∀(t:List Nd) (a:ay),f ((t,[],(0:Int),a,(n:Int),()),())=ab (.inr (0,(t,[],(0:Int),a,(n:Int),()),()))) :
  ∀(d i:Nat) (t:List Nd),i+d=n->Valid t->∃z,Loop f ((t,[],(0:Int),aP<|ns.take i,(i:Int),()),())=ab z /\
   (((jn ((ns.take n).drop i) (aP<|ns.take i) t).2=0/\z.1=0/\z.2.1.1=(jn ((ns.take n).drop i) (aP<|ns.take i) t).1) \/
    ((jn ((ns.take n).drop i) (aP<|ns.take i) t).2≠0/\z.1=1/\z.2.1.2.1=[]/\z.2.1.2.2.1=(jn ((ns.take n).drop i) (aP<|ns.take i) t).2)):=by
 intro d;induction d with
 | zero =>
   intro i t r l;obtain rfl:i=n:=ai;refine⟨_,by rw[aT,g];rfl,.inl ?_⟩;rw[JG<|by rw[kC];omega];exact⟨rfl,rfl,rfl⟩
 | succ d q =>
   intro i t r l;have hx:ns[i]?=ab ns[i]:=ik ai;have c:=b i ns[i] t ai hx l;have e:(ns.take n).drop i=ns[i]::(ns.take n).drop (i+1):=by
    rw[y8<|by rw[kC];omega,adr]
   have s:=qR h.1 hx;rw[e];unfold jn;rw[s];have j:eD ns i=aP (ns.take<|i+1):=rfl;split
   .rename_i m;rw[aX m] at c;obtain⟨z,o,p⟩:=q (i+1) t ai l;refine⟨z,?_,by rw[j];exact p⟩;rw[aT,c];exact o
   .rename_i m;rw[aR m] at c;split
    .rename_i k;rw[aX k] at c;obtain⟨z,o,p⟩:=q (i+1) _ ai (xy k);refine⟨z,?_,by rw[j];exact p⟩;rw[aT,c];exact o
    .rename_i k;rw[aR k] at c;refine⟨_,by rw[aT,c];rfl,.inr ⟨k,rfl,rfl,rfl⟩⟩
def afr(m:Int){a:List ay}(h:Ih a)(i:Nat):Sm (gg m<|eD a i):=⟨h.sq<|i+1,by simp[gg],by simp[gg]⟩
def sS(a:List ay)(t:List Nd)(n:Nd):List Nd×Int:=if(jn a.dropLast [] t).2=0 then bK (jn a.dropLast [] t).1 n else([],(jn a.dropLast [] t).2)
def S5{b:List ay}(h:Ih b){n:Nd}(y:n.1=aP b)(A:Sm n){t:List Nd}(s:Valid t):kV ((n,()),t,())=ab ((sS b t n).1,(sS b t n).2,()):=by
 have hd:Ih b.dropLast:=Di h;unfold kV;rw[y,qP _ (by have:=h.2.2;omega),aa,yj h.1];dsimp only;rw[ri _ (by have:=hd.2.2;omega),aa,j7 _ hd.1];obtain⟨z,B,j⟩:=VW (f:=fN (b.dropLast,())) b.dropLast hd b.dropLast.length (cp _) (λi x u C k v=>by
  have d:=gJ v;have D:=hd.KZ (eQ k);have E:=hd.sq i;have w:=hd.sq (i+1);have F:=hd.2.1;unfold fN;dsimp only;rw[aq C,ae,au k,aa,HS _ _ ai ai,aa,qR hd.1 k];dsimp only;rw[ace u _ d (by unfold eD;omega) v,aa,aL ai];have G:=Jr u (gg 493<|eD b.dropLast i) d (afr 493 hd i);rw[show tf (u,(eD b.dropLast i,(2:Int),(493:Int),([]:ay),([]:ay),()),())=_ from G,aa];by_cases l:(findF u<|eD b.dropLast i).2.1=true
  .by_cases e:(findF u<|eD b.dropLast i).1.2.1=2
   .rw[l,aE e,aX ⟨rfl,e⟩];rfl
   .rw[l,ax e,aR λq=>e q.2];by_cases c:(bK u<|gg 493<|eD b.dropLast i).2=0
    .rw[aE c,aX c];rfl
    .rw[ax c,aR c];rfl
  .rw[show(findF u<|eD b.dropLast i).2.1=false by simpa using l,aR λq=>by cases q.1];by_cases c:(bK u<|gg 493<|eD b.dropLast i).2=0
   .rw[aE c,aX c];rfl
   .rw[ax c,aR c];rfl) (λu a=>by
  unfold fN;rw[aw,af]) b.dropLast.length 0 t ai s
 rw[Es,zR] at j;rw[show Loop (fN (b.dropLast,())) ((t,([]:List Nd),(0:Int),([]:ay),(0:Int),()),())=_ from B,aa];have m:aP (b.dropLast.take 0)=[]:=by simp[aP]
 rw[m] at j;unfold sS;rcases j with ⟨g,o,p⟩|⟨g,o,p,H⟩
 .have r:=Cy _ _ _ s g;rw[o,show de 0 0=true from rfl,ae,p,aX g,Jr _ n (gJ r) A,aa]
 .rw[o,show de 1 0=false from rfl,af,p,H,aR g]
def VX{b:List ay}(h:Ih b){t:List Nd}(v:Valid t):vZ (t,aP b,())=ab ((if(jn b.dropLast [] t).2=0 then(jn b.dropLast [] t).1 else []),(jn b.dropLast [] t).2,()):=by
 unfold vZ;dsimp only;rw[iw _ (by have:=h.2.2;omega),aa,j7 _ h.1];have j:b.take (b.length-1)=b.dropLast:=List.dropLast_eq_take.symm;obtain⟨z,w,k⟩:=VW (f:=mP (b,())) b h (b.length-1) ai (λi x u D l s=>by
  have d:=gJ s;have y:=h.KZ (eQ l);have A:=h.sq i;have m:=h.2.1;unfold mP;dsimp only;rw[aL ai,aq (show i+1<b.length by omega),ae,au l,aa,Ap _ _ ai ai,aa,qR h.1 l];rw[VU u _ d s,aa];have B:=Cq u (gg 493<|eD b i) d (afr 493 h i);rw[show oq (u,(eD b i,(2:Int),(493:Int),([]:ay),([]:ay),()),())=_ from B,aa];by_cases n:(findF u<|eD b i).2.1=true
  .by_cases e:(findF u<|eD b i).1.2.1=2
   .rw[n,aE e,aX ⟨rfl,e⟩];rfl
   .rw[n,ax e,aR λq=>e q.2];by_cases c:(bK u<|gg 493<|eD b i).2=0
    .rw[aE c,aX c];rfl
    .rw[ax c,aR c];rfl
  .rw[show(findF u<|eD b i).2.1=false by simpa using n,aR λq=>by cases q.1];by_cases c:(bK u<|gg 493<|eD b i).2=0
   .rw[aE c,aX c];rfl
   .rw[ax c,aR c];rfl) (λu a=>by
  unfold mP;have m:=h.2.1;rw[aL ai,show ba ((b.length-1+1:Nat):Int) (len b)=false from aJ fi,af]) (b.length-1) 0 t ai v
 rw[zR,j] at k;rw[show Loop (mP (b,())) ((t,([]:List Nd),(0:Int),([]:ay),(0:Int),()),())=_ from w,aa];have o:aP (b.take 0)=[]:=by simp[aP]
 rw[o] at k;rcases k with ⟨g,p,r⟩|⟨g,p,r,C⟩
 .rw[p,show de 0 0=true from rfl,ae,r,aX g,g]
 .rw[p,show de 1 0=false from rfl,af,r,C,aR g]
def YM(p:Pt):(bR p).1=0\/(bR p).1=1\/(bR p).1=2:=by
 unfold bR
 grind
def oD(t:List Nd)(p:Pt):List Nd×Int:=if(bR p).1=0/\(bR p).2.1≠[] then sS (bR p).2.1 t (jm p<|aP (bR p).2.1) else(t,0)
def yR:List Pt->List Nd->List Nd×Int
 | [],t=>(t,0)
 | p::r,t=>if(oD t p).2=0 then yR r (oD t p).1 else([],(oD t p).2)
def VY{a:List ay}{t:List Nd}{n:Nd}(h:(sS a t n).2=0):Valid (sS a t n).1:=by
 unfold sS at h⊢;split at h
 .rename_i b;rw[aX b];exact xy h
 .grind
def yk{t:List Nd}{p:Pt}(b:Valid t)(h:(oD t p).2=0):Valid (oD t p).1:=by
 unfold oD at h⊢;split at h
 .rename_i a;rw[aX a];exact VY h
 .grind
def Ax:∀(l:List Pt) (t:List Nd),Valid t->(((yR l t).2=0/\Valid (yR l t).1)\/((yR l t).2≠0/\(yR l t).1=[])):=by
 intro l;induction l with
 | nil=>intro t h;exact .inl ⟨rfl,h⟩
 | cons p r a =>
   intro t h;unfold yR;split
   .rename_i b;exact a _ (yk h b)
   .grind
def aap{p:Pt}(a:SmP p){b:List ay}(h:Ih b):Sm (jm p<|aP b):=⟨h.2.2,a.2.1,a.2.2⟩
def VZ{t:List Nd}(h:Valid t)(p:Pt)(d:SmP p):xh (jF p,t,())=ab ((oD t p).1,(oD t p).2,()):=by
 have b:=xv p;unfold xh jF aan oD;rcases YM p with a|a|a
 .rw[aR<|by rw[a];decide,aR (by rw[a];decide)];by_cases c:(bR p).2.1=[]
  .rw[aX c,aR λq=>q.2 c];rfl
  .rw[aR c,aX ⟨a,c⟩];exact S5 b rfl (aap d b) h
 .rw[aX a,aR λq=>by rw[a] at q;exact absurd q.1 aK];rfl
 .rw[aR<|by rw[a];decide,aX a,aR λq=>by rw[a] at q;exact absurd q.1 aK];rfl
def runs{S R:Type}{f:S->Option (S⊕R)}(l:List Pt)(h:List Nd->Nat->S)(b:List Nd->R)(c:Int->List Nd->Nat->R)
  (a:∀(i:Nat) (x:Pt) (t:List Nd),l[i]?=ab x->Valid t->f (h t i)=ab (if(oD t x).2=0 then .inl (h (oD t x).1<|i+1) else .inr (c (oD t x).2 t i)))
  (e:∀t,f (h t l.length)=ab (.inr<|b t)) :
  ∀(d i:Nat) (t:List Nd),i+d=l.length->Valid t->∃z,Loop f (h t i)=ab z /\
   (((yR (l.drop i) t).2=0/\z=b (yR (l.drop i) t).1)\/((yR (l.drop i) t).2≠0/\∃m n,z=c (yR (l.drop i) t).2 m n)):=by
 intro d;induction d with
 | zero =>
   intro i t o k;obtain rfl:i=l.length:=ai;refine⟨_,by rw[aT,e];rfl,.inl ?_⟩;rw[Lk];exact⟨rfl,rfl⟩
 | succ d p =>
   intro i t o k;have hx:l[i]?=ab l[i]:=ik ai;have j:=a i l[i] t hx k;rw[y8 ai];unfold yR;split
   .rename_i g;rw[aX g] at j;obtain⟨z,q,r⟩:=p (i+1) _ ai (yk k g);exact⟨z,by rw[aT,j];exact q,r⟩
   .rename_i g;rw[aR g] at j;exact⟨_,by rw[aT,j];rfl,.inr ⟨g,t,i,rfl⟩⟩
open Classical in
def mu(l:List Nd)(a:List Pt):List Nd×Int:=if Valid l then(if ic a=true then yR a (a.foldl uW l) else([],10)) else([],1)
def yl(a:List Pt):∀(l:List Nd),Valid l->Valid (a.foldl uW l):=by
 induction a with
 | nil=>intro l h;exact h
 | cons p r b=>intro l h;exact b _ (xw h p)
def aht(l:List Nd)(ps:List Pt)(h:wk l)(c:S3 ps):ub (l,ps,())=ab ((mu l ps).1,(mu l ps).2,()):=by
 obtain⟨e,o,j⟩:=mr l h;have v:=h.1;have w:=c.1;unfold ub mu;rw[o,aa];by_cases hv:Valid l
 .rw[j.2 hv,show nt (aS 0 0)=false from rfl,af,aX hv,QV ps c,aa];by_cases a:ic ps=true
  .rw[aX a,aX a];rw[aG,af,bo (by simp only[nQ];omega),ae,show app ([]:List Nd) l=l from rfl];obtain⟨p,k⟩:=YL ps true l hv ai;rw[p,aa];obtain⟨z,r,m⟩:=runs (f:=lF (ps.map jF,true,())) ps (λt i=>(([],(0:Int),t,(i:Int),()),())) (λt=>(0,([],(0:Int),t,(ps.length:Int),()),())) (λe t i=>(1,([],e,t,(i:Int),()),())) (λi x t d s=>by
    have hi:=aF d;have hy:(ps.map jF)[i]?=ab (jF x):=by rw[Ep,d];rfl
    unfold lF;rw[aq<|show i<(ps.map jF).length by rw[ux];exact hi,ae,au hy,aa,aL ai];rw[show xh (jF x,t,())=_ from VZ s x (c.2 x<|eQ d),aa];by_cases b:(oD t x).2=0
    .rw[aE b,aX b];rfl
    .rw[ax b,aR b];rfl) (λt=>by
    unfold lF;rw[show ba (ps.length:Int) (len<|ps.map jF)=false by rw[<-ux (f:=jF)];exact aw,af]) ps.length 0 (ps.foldl uW l) ai k
   rw[zR] at m;rw[show Loop (lF (ps.map jF,true,())) (([],(0:Int),ps.foldl uW l,(0:Int),()),())=_ from r,aa];rcases m with ⟨n,g⟩|⟨n,y,A,g⟩
   .rw[g,n];rfl
   .rw[g];rcases Ax ps _ k with ⟨B,_⟩|⟨_,u⟩
    .grind
    .rw[u];rfl
  .rw[aR a,aR a];rfl
 .have:e≠0:=λq=>hv (j.1 q);rw[ax this,aA,ae,aR hv]
def YN(l:List Nd)(a:List Pt)(B:wk l)(k:S3 a):yd (l,a,())=ab ((mu l a).1,(mu l a).2,()):=by
 obtain⟨e,C,D⟩:=tk l B;have H:=k.1;unfold yd mu;rw[C,aa];by_cases hv:Valid l
 .rw[D.2 hv,aG,af,aX hv,Cx a k,aa];by_cases m:ic a=true
  .rw[aX m,m,aG,af];have E:=Po l a k hv;have u:=yl a l hv;rw[E,aa];obtain⟨z,F,v⟩:=runs (f:=ou (l,a,())) a (λt i=>((t,[],(0:Int),(i:Int),()),())) (λt=>(0,(t,[],(0:Int),(a.length:Int),()),())) (λe t i=>(1,(t,[],e,(i:Int),()),())) (λi x t p w=>by
    have hi:=aF p;have g:=k.2 x (eQ p);have c:=xv x;unfold ou;rw[aq hi,ae,au p,aa,Cu x g,aa,aL ai];rw[VX c w,aa,aa];unfold sg;rw[aa];by_cases h:(bR x).1=0
    .have y:=tl c.1;by_cases n:(bR x).2.1=[]
     .have b:oD t x=(t,0):=by unfold oD;rw[aR λq=>q.2 n]
      rw[b,aE h,di (y.2 n)];rfl
     .have b:oD t x=sS (bR x).2.1 t (jm x<|aP (bR x).2.1):=by unfold oD;rw[aX ⟨h,n⟩]
      rw[b,aE h,bw λq=>n (y.1 q)];by_cases hd:(jn (bR x).2.1.dropLast [] t).2=0
      .have d:sS (bR x).2.1 t (jm x<|aP (bR x).2.1)=bK (jn (bR x).2.1.dropLast [] t).1 (jm x<|aP (bR x).2.1):=by unfold sS;rw[aX hd]
       have r:=Cy _ _ _ w hd;have j:=Cq (jn (bR x).2.1.dropLast [] t).1 (jm x<|aP (bR x).2.1) (gJ r) (aap g c);rw[d,aE hd,aX hd,aG,af];rw[show oq ((jn (bR x).2.1.dropLast [] t).1,(aP (bR x).2.1,x.1.2.1,x.1.2.2.1,x.2.1,x.1.2.2.2.2.2.2.2.1,()),())=_ from j,aa];by_cases o:(bK (jn (bR x).2.1.dropLast [] t).1<|jm x<|aP (bR x).2.1).2=0
       .rw[aE o,aX o];rfl
       .rw[ax o,aR o];rfl
      .have d:sS (bR x).2.1 t (jm x<|aP (bR x).2.1)=([],(jn (bR x).2.1.dropLast [] t).2):=by unfold sS;rw[aR hd]
       rw[d,ax hd,aR hd,aR hd];rfl
    .have b:oD t x=(t,0):=by unfold oD;rw[aR λq=>h q.1]
     rw[b,ax h];rfl) (λt=>by
    unfold ou;rw[aw,af]) a.length 0 (a.foldl uW l) ai u
   rw[zR] at v;rw[show Loop (ou (l,a,())) ((a.foldl uW l,[],(0:Int),(0:Int),()),())=_ from F,aa];rcases v with ⟨A,s⟩|⟨A,I,J,s⟩
   .rw[s,A];rfl
   .rw[s];rcases Ax a _ u with ⟨K,_⟩|⟨_,G⟩
    .grind
    .rw[G];rfl
  .rw[aR m,show ic a=false by simpa using m];rfl
 .have:e=false:=by
   grind
  rw[this,aR hv];rfl
def rd0:Rd:=(false,[],0,false,false,())
abbrev Ns:=(Bool×Int×al)×(al×al×al)×Rd×al
def ns(k:Int):Ns:=((false,k,()),((),(),()),rd0,())
def YO:fh (kF 1024,())=ab ([],0,()):=by
 have a:∀x∈kF 1024,x=0:=ahm _;have c:(kF 1024).length=1024:=tj _;unfold fh;dsimp only;rw[aJ<|show len (kF 1024)<=8192 by unfold len;omega];rw[show bP ((),(true,kF 1024,(0:Int),false,false,()),())=_ from Ic (kF 1024) 0 ai ai (λx b=>a x (JI b)),dD ⟨ai,ai,a⟩,aa];dsimp only;rw[aT,wI];rfl
def Has(t:List Nd)(p:ay):Prop:=p=[]\/∃x∈t,x.1=p/\x.2.1=2
def V0{t:List Nd}{n:Nd}(c:Valid t)(d:fY n=true)(h:Has t (bp n.1).1):((bK t n).2=0/\n∈(bK t n).1)\/(bK t n).2=5:=by
 unfold bK;rw[aR<|show ¬(¬Valid t\/fY n=false) from λq=>q.elim (λq=>q c) λq=>by rw[d] at q;cases q];have f:¬((bp n.1).1≠[]/\∀x∈t,x.1≠(bp n.1).1):=λq=>by
  rcases h with h|⟨x,a,e,_⟩
  .exact q.1 h
  .exact q.2 x a e
 have b:¬((bp n.1).1≠[]/\∀x∈t,x.1=(bp n.1).1->x.2.1≠2):=λq=>by
  rcases h with h|⟨x,a,e,k⟩
  .exact q.1 h
  .exact q.2 x a e k
 rw[aR f,aR b];have key:∀r:List Nd,((if 64<=r.length then(([]:List Nd),(5:Int)) else(uT r n,0)).2=0/\n∈(if 64<=r.length then(([]:List Nd),(5:Int)) else(uT r n,0)).1)\/(if 64<=r.length then(([]:List Nd),(5:Int)) else(uT r n,0)).2=5:=λr=>by
  split
  .exact .inr rfl
  .exact .inl ⟨rfl,uU.2 (.inl rfl)⟩
 exact key _
def acn{t:List Nd}{p:ay}(h:(findF t p).2.1=true):(findF t p).1∈t/\(findF t p).1.1=p:=by
 unfold findF at h⊢;cases a:t.find? λx=>decide (x.1=p) with
 | none=>rw[a] at h;cases h
 | some x=>exact⟨aaQ a,by have:=P8 a;simpa using this⟩
def afs{p:ay}(h:fY (gg 0 p)=true):fY (gg 493 p)=true:=by
 unfold fY at h⊢;simp only[gy] at h⊢;exact⟨⟨⟨h.1.1.1,by simp[gg]⟩,by simp[gg]⟩,by simp[QP,gg]⟩
def aco{ns:List ay}(h:Ih ns)(n:Nat)(v:n<=ns.length)(j:preB ns n=true):∀(d i:Nat) (t:List Nd),i+d=n->Valid t->Has t (aP<|ns.take i) ->
  ((jn ((ns.take n).drop i) (aP<|ns.take i) t).2=0/\Has (jn ((ns.take n).drop i) (aP<|ns.take i) t).1 (aP<|ns.take n))\/(jn ((ns.take n).drop i) (aP<|ns.take i) t).2=5:=by
 intro d;induction d with
 | zero =>
   intro i t q k l;obtain rfl:i=n:=ai;rw[JG<|by rw[kC];omega];exact .inl ⟨rfl,l⟩
 | succ d o =>
   intro i t q k l;have hx:ns[i]?=ab ns[i]:=ik ai;have b:(ns.take n).drop i=ns[i]::(ns.take n).drop (i+1):=by
    rw[y8<|by rw[kC];omega,adr]
   have r:=qR h.1 hx;have c:eD ns i=aP (ns.take<|i+1):=rfl;rw[b];unfold jn;rw[r];split
   .rename_i p;obtain⟨m1,s⟩:=acn p.1;rw[c];exact o (i+1) t ai k (.inr ⟨_,m1,by rw[s,c],p.2⟩)
   .have e:fY (gg 493<|eD ns i)=true:=by
     unfold preB at j;rw[vL] at j;exact afs (j i<|Ll.2 ai)
    have a:=V0 k e (by
     show Has t (bp<|eD ns i).1
     rw[Np h.1 ai];exact l)
    split
    .rename_i f;rcases a with ⟨_,g⟩|m
     .rw[c];exact o (i+1) _ ai (xy f) (.inr ⟨_,g,rfl,rfl⟩)
     .rw[m] at f;cases f
    .rename_i f;rcases a with ⟨u,_⟩|m
     .exact absurd u f
     .exact .inr m
def acp{a:List ay}(h:Ih a){n:Nd}(k:n.1=aP a)(l:fY n=true)(b:uV a=true){t:List Nd}(g:Valid t):(sS a t n).2=0\/(sS a t n).2=5:=by
 have d:a.take (a.length-1)=a.dropLast:=List.dropLast_eq_take.symm;have c:preB a (a.length-1)=true:=by
  unfold uV at b;simp only[gy,uv] at b;rw[S2 b.2] at b;simp only[gy] at b;exact b.1.1
 have hd:=aco h (a.length-1) ai c (a.length-1) 0 t ai g (.inl<|by simp[aP]);have e:aP (a.take 0)=[]:=by simp[aP]
 rw[zR,d,e] at hd;unfold sS;rcases hd with ⟨i,m⟩|j
 .rw[aX i];have f:=Cy _ _ _ g i;rcases V0 f l (by rw[k,yj h.1];exact m) with ⟨o,_⟩|p
  .exact .inl o
  .exact .inr p
 .rw[aR<|by rw[j];decide];exact .inr j
def YP{p:Pt}(a:(bR p).2.2=true)(c:(bR p).1=0)(b:(bR p).2.1≠[]):fY (jm p<|aP (bR p).2.1)=true/\uV (bR p).2.1=true:=by
 have key:∀(ns:List ay) (q:Bool),ns≠[]->((decide (ns=[])&&q)||(fY (jm p<|aP ns)&&uV ns))=true->fY (jm p<|aP ns)=true/\uV ns=true:=λns q d g=>by
  rw[cL d,Bool.false_and,Lm,gy] at g;exact g
 unfold bR at a c b⊢;split at c
 .rename_i e;rw[aX e] at a b⊢;dsimp only at a c b⊢;split at c
  .cases c
  .rename_i h;rw[aR h] at a b⊢;split at c
   .cases c
   .rename_i i;rw[aR i] at a b⊢;split at c
    .rename_i f;rw[aX f] at a b⊢;exact key _ _ b a
    .rename_i f;rw[aR f] at b;exact absurd rfl b
 .rename_i e;rw[aR e] at b;exact absurd rfl b
def V1:∀(ps:List Pt) (t:List Nd),ic ps=true->Valid t->(yR ps t).2=0\/(yR ps t).2=5:=by
 intro ps;induction ps with
 | nil=>intro t _ _;exact .inl rfl
 | cons p r e =>
   intro t c d;unfold ic at c;simp only[List.all_cons,gy] at c;unfold yR;split
   .rename_i a;exact e _ c.2 (yk d a)
   .rename_i a;right;show(oD t p).2=5
    unfold oD at a⊢;split
    .rename_i b;rw[aX b] at a;obtain⟨m1,f⟩:=YP c.1 b.1 b.2;rcases acp (xv p) (n:=jm p (aP (bR p).2.1)) rfl m1 f d with g|h
     .exact absurd g a
     .exact h
    .rename_i b;rw[aR b] at a;exact absurd rfl a
def ahu{l:List Pt}(c:l.length<=64)(a:∀q∈l,RdP q):S3 l:=⟨ai,λp b=>a p b⟩
def acq{s:ay}{l:List Pt}{e:Int}(h:fh (s,())=ab (l,e,()))(c:S3 l):hH (s,())=ab (if e=0/\ic l=true then 0 else 10,()):=by
 unfold hH;dsimp only;rw[h,aa];dsimp only;rw[QV l c,aa];by_cases b:e=0
 .by_cases a:ic l=true
  .rw[aE b,aX a,aX ⟨b,a⟩];rfl
  .rw[aE b,aR a,aR λq=>a q.2];rfl
 .rw[ax b,aR (show ¬(e=0/\ic l=true) from λq=>b q.1)];by_cases a:ic l=true
  .rw[aX a];rfl
  .rw[aR a];rfl
def acr{s:ay}{a:List Pt}{e:Int}(h:fh (s,())=ab (a,e,()))(f:S3 a){l:List Nd}(d:Valid l):jN (l,s,())=ab (if e=0 then((mu l a).1,(mu l a).2,()) else([],10,())):=by
 obtain⟨c,g,i⟩:=mr l (gJ d);unfold jN;dsimp only;rw[h,aa,g,aa];dsimp only;rw[aht l a (gJ d) f,aa,i.2 d];by_cases b:e=0
 .rw[aE b,aX b];rfl
 .rw[ax b,aR b];rfl
def Kj(t:List Nd)(q:ay):Option Nd:=t.find? λx=>decide (x.1=q)
def aaq(t:List Nd)(q:ay):findF t q=match Kj t q with
 | some x=>(x,true,())
 | none=>(afh,false,()):=rfl
def at_mem{t:List Nd}{q:ay}{x:Nd}(h:Kj t q=ab x):x∈t/\x.1=q:=by
 unfold Kj at h
 grind
def Ay{t:List Nd}(a:Ord t){q:ay}{x:Nd}:Kj t q=ab x↔x∈t/\x.1=q:=by
 constructor
 .exact at_mem
 .rintro⟨b,c⟩;have:=E2 a b c;rw[aaq] at this
  grind
def aar{a b:Option Nd}(h:∀x,a=ab x↔b=ab x):a=b:=by
 cases a with
 | none =>
   cases b with
   | none=>rfl
   | some y=>exact absurd ((h y).2 rfl) bb
 | some x=>exact((h x).1 rfl).symm
def acs:∀{l m:List Nd},(l.Pairwise λx y=>cmpL (key x) (key y)<0)->(m.Pairwise λx y=>cmpL (key x) (key y)<0)->(∀c,c∈l↔c∈m)->l=m:=by
 intro l;induction l with
 | nil =>
   intro m _ _ h;cases m with
   | nil=>rfl
   | cons d m=>exact absurd ((h d).2 bb) bb
 | cons c l k =>
   intro m g i h;cases m with
   | nil=>exact absurd ((h c).1 bb) bb
   | cons d m =>
     rw[TR] at g i;have a:∀x:Nd,¬cmpL _ (key x)<0:=λx=>by rw[na];omega
     have j:c=d:=by
      have b:c=d\/c∈m:=by simpa using(h c).1 bb
      have f:d=c\/d∈l:=by simpa using(h d).2 bb
      rcases b with e|b
      .exact e
      .rcases f with e|f
       .grind
       .exact absurd (td (g.1 d f)<|i.1 c b) (a c)
     grind
def ajf{s t:List Nd}(d:Ord s)(e:Ord t)(h:∀q,Kj s q=Kj t q):s=t :=
 acs (Ig.1 d) (Ig.1 e) λc=>by
  have a:=Ay d (q:=c.1) (x:=c);have b:=Ay e (q:=c.1) (x:=c)
  grind
def acu{l:List Nd}(k:Valid l){p:ay}(A:p≠[]):∀(m:Nat) (x:Nd),x∈l->(parts x.1).length<=m->du (parts x.1) (parts p)=true->∃y∈l,y.1=p/\y.2.1=2:=by
 intro m;induction m with
 | zero =>
   intro x f n h;unfold du at h
   grind
 | succ m C =>
   intro x f n h;by_cases o:∃y∈l,y.1=p
   .by_cases q:(bp x.1).1=[]
    .exfalso;have r:=h;have s:=(iq r).1;have c:=k.may x f;unfold fY xo at c;simp only[gy,uv] at c;have d:=c.1.1.1.1.1.1.1.2;have B:(parts x.1).length<=1:=by
      rcases rj x.1 with ⟨a,_⟩|⟨a,b,D,F,e⟩
      .unfold parts;split
       .simp
       .rw[pc _ a];simp
      .rw[e] at q;subst q;have:=vL.1 d [] (by
        unfold parts;rw[D,aR bb];show []∈cC _
        rw[ET [] bb];simp)
       exact absurd this aK
     have t:parts p=[]:=zN.1 ai;have:=fV p;rw[t] at this;exact A this.symm
    .rcases k.up x f with e|⟨y,i,u,v⟩
     .grind
     .have w:=xp q;rw[<-u] at w;obtain⟨s,j⟩:=iq h;rw[w] at s j;have z:(parts p).length<=(parts y.1).length:=by simp at s;omega
      rw[ac6 z] at j;rcases vM (parts p).length (parts y.1).length with g|g
      .exact C y i (by rw[w] at n;simp at n;omega) (by unfold du;exact dD ⟨g,j⟩)
      .have E:parts p=parts y.1:=by rw[<-j,Hi ai]
       exact⟨y,i,by rw[<-fV y.1,<-E,fV],v⟩
   .have:=Nh k A (λy i e=>o ⟨y,i,e⟩) _ x f (cp _)
    grind
def aas{t:List Nd}{n:Nd}(h:(bK t n).2=0)(q:ay) :
  Kj (bK t n).1 q=if q=n.1 then ab n else if du (parts q) (parts n.1)=true/\n.2.1≠2 then ah else Kj t q:=by
 rcases Nl t n with ⟨_,f⟩|⟨e,f,p,r,g,s,u⟩
 .exact absurd h f
 have hvalid:=QT e f p g s;have i:=aal f;rw[u];refine aar λx=>?_;rw[Ay hvalid.ord,uU];obtain⟨m,_⟩:=g.sub;by_cases v:q=n.1
 .grind
 .rw[aR v];have j:(x=n\/x∈r)/\x.1=q↔x∈r/\x.1=q:=by
   grind
  rw[j];rcases g with ⟨⟨⟨d,B,w,y⟩,k⟩,rfl⟩|⟨A,rfl⟩
  .rw[aR<|λz=>z.2 k,Ay e.ord,y9]
   grind
  .unfold pH;rw[y9];by_cases l:du (parts q) (parts n.1)=true
   .by_cases o:n.2.1=2
    .rw[aR<|λz=>z.2 o,Ay e.ord];constructor
     .grind
     .rintro⟨a,c⟩;exfalso;have:=acu e i _ x a (cp _) (by rw[c];exact l)
      grind
    .rw[aX ⟨l,o⟩];constructor
     .rintro⟨⟨a,b⟩,c⟩;unfold gone at b
      grind
     .grind
   .rw[aR<|λz=>l z.1,Ay e.ord];constructor
    .grind
    .rintro⟨a,c⟩;refine⟨⟨a,?_⟩,c⟩;unfold gone
     grind
def Pp(q:ay)(s:Option Nd):Option Nd:=match s with
 | some x=>if x.2.1=2 then ab x else ab (gg 493 q)
 | none=>ab (gg 493 q)
def V2{t:List Nd}(p:ay):((findF t p).2.1=true/\(findF t p).1.2.1=2)↔∃x,Kj t p=ab x/\x.2.1=2:=by
 rw[aaq]
 grind
def aft{a:List ay}(h:Nn a){i j:Nat}(b:i<a.length)(c:j<a.length)(e:eD a i=eD a j):i=j:=by
 have:=congrArg (λp=>(parts p).length) e;simp only[xr h,kC] at this;omega
def ahv{ns:List ay}(h:Nn ns)(n:Nat)(C:n<=ns.length)(q:ay):∀(d i:Nat) (t:List Nd),i+d=n->Valid t ->
  (jn ((ns.take n).drop i) (aP<|ns.take i) t).2=0 ->
  ((∃j,i<=j/\j<n/\q=eD ns j)->Kj (jn ((ns.take n).drop i) (aP<|ns.take i) t).1 q=Pp q (Kj t q)) /\
  ((¬∃j,i<=j/\j<n/\q=eD ns j)->Kj (jn ((ns.take n).drop i) (aP<|ns.take i) t).1 q=Kj t q):=by
 intro d;induction d with
 | zero =>
   intro i t v r _;obtain rfl:i=n:=ai;rw[JG<|by rw[kC];omega];exact⟨λ⟨j,a,b,_⟩=>absurd a ai,λ_=>rfl⟩
 | succ d s =>
   intro i t v r k;have hx:ns[i]?=ab ns[i]:=ik ai;have l:(ns.take n).drop i=ns[i]::(ns.take n).drop (i+1):=by
    rw[y8<|by rw[kC];omega,adr]
   have w:=qR h hx;have o:eD ns i=aP _:=rfl;rw[l] at k⊢;unfold jn at k⊢;rw[w] at k⊢;have f:(∃j,i<=j/\j<n/\q=eD ns j)↔(q=eD ns i\/∃j,i+1<=j/\j<n/\q=eD ns j):=by
    grind
   have apart:q=eD ns i->¬∃j,i+1<=j/\j<n/\q=eD ns j:=by
    rintro e ⟨j,a,b,c⟩;have:=aft h ai ai (e.symm.trans c);omega
   by_cases m:(findF t<|eD ns i).2.1=true/\(findF t<|eD ns i).1.2.1=2
   .rw[aX m] at k⊢;rw[o] at k⊢;obtain⟨y,u⟩:=s _ t ai r k;rw[f];obtain⟨x,A,D⟩:=(V2 _).1 m;constructor
    .rintro(e|e)
     .rw[u<|apart e,e,A];unfold Pp
      grind
     .grind
    .grind
   .rw[aR m] at k⊢;by_cases p:(bK t<|gg 493<|eD ns i).2=0
    .rw[aX p] at k⊢;obtain⟨y,u⟩:=s _ _ ai (xy p) k;have g:=aas p q;rw[f];have B:¬(gg 493<|eD ns i).2.1≠2:=λz=>z rfl;constructor
     .rintro(e|e)
      .rw[aX<|show q=(gg 493<|eD ns i).1 from e] at g;unfold Pp;rw[V2] at m
       grind
      .rw[aR λz:q=(gg 493<|eD ns i).1=>apart z e] at g
       grind
     .intro e;rw[aR λz:q=(gg 493<|eD ns i).1=>e (.inl z)] at g
      grind
    .grind
def ahw(a:List ay)(n:Nd)(q:ay)(s:Option Nd):Option Nd :=
 if q=n.1 then ab n else if du (parts q) a=true/\n.2.1≠2 then ah else if du a (parts q)=true/\q≠[] then Pp q s else s
def acv{a:List ay}(h:Nn a)(q:ay):(∃j,0<=j/\j<a.length-1/\q=eD a j)↔(du a (parts q)=true/\q≠[]):=by
 constructor
 .rintro⟨j,_,g,rfl⟩;rw[xr h];constructor
  .unfold du
   grind
  .intro e;have:=congrArg (λp=>(parts p).length) e;simp only[xr h,kC,show(parts []).length=0 from rfl] at this;omega
 .rintro⟨c,d⟩;obtain⟨i,f⟩:=iq c;have b:0<(parts q).length:=by
   apply Nat.pos_of_ne_zero;intro e;have:=fV q;rw[zN.1 e] at this;exact d this.symm
  refine⟨(parts q).length-1,qK _,ai,?_⟩;unfold eD;rw[show(parts q).length-1+1=(parts q).length by omega,f,fV]
def ahx{a:List ay}(h:Nn a){t:List Nd}(f:Valid t){n:Nd}(g:n.1=aP a)(d:(sS a t n).2=0)(q:ay):Kj (sS a t n).1 q=ahw a n q (Kj t q):=by
 have b:a.take _=a.dropLast:=List.dropLast_eq_take.symm;have c:aP (a.take 0)=[]:=by simp[aP]
 unfold sS at d⊢;by_cases hd:(jn a.dropLast [] t).2=0
 .rw[aX hd] at d⊢;have e:=ahv h (a.length-1) ai q (a.length-1) 0 t ai f (by rw[zR,b,c];exact hd);rw[zR,b,c,acv h] at e;rw[aas d q,g,j7 a h];unfold ahw
  grind
 .grind
def acw(q:ay)(s:Option Nd)(p:Pt):Option Nd:=if(bR p).1=0/\(bR p).2.1≠[] then ahw (bR p).2.1 (jm p<|aP (bR p).2.1) q s else s
def Pq(q:ay)(p:Pt):Bool:=(decide ((bR p).1=1)&&(decide (q=aP (bR p).2.1)||du (parts q) (bR p).2.1))||(decide ((bR p).1=2)&&du (parts q) (bR p).2.1)
def afu(q:ay)(a:List Pt)(s:Option Nd):Option Nd:=if a.any (Pq q)=true then ah else s
def ajg:∀(ps:List Pt) (t:List Nd),Valid t->(yR ps t).2=0->∀q,Kj (yR ps t).1 q=ps.foldl (acw q) (Kj t q):=by
 intro ps;induction ps with
 | nil=>intro t _ _ q;rfl
 | cons p r e =>
   intro t c b q;unfold yR at b⊢;by_cases a:(oD t p).2=0
   .rw[aX a] at b⊢;rw[e _ (yk c a) b q,Zz]
    congr 1
    unfold oD acw at *;by_cases d:(bR p).1=0/\(bR p).2.1≠[]
    .rw[aX d] at a⊢;rw[aX d];exact ahx (xv p).1 c rfl a q
    .grind
   .grind
def ajh{t:List Nd}(a:Valid t)(p:Pt)(q:ay):Kj (uW t p) q=if Pq q p=true then ah else Kj t q:=by
 have b:=xw a p;have c:=xv p;have g:=j7 _ c.1;refine aar λx=>?_;rw[Ay b.ord];have key:∀P:Nd->Bool,(∀x,x.1=q->P x=!Pq q p)->((x∈t.filter P/\x.1=q)↔(if Pq q p=true then ah else Kj t q)=ab x):=by
  intro P i;by_cases d:Pq q p=true
  .grind
  .rw[aR d,Ay a.ord]
   grind
 unfold uW;by_cases e:(bR p).1=1
 .rw[aX e];refine key _ λy h=>?_;unfold gone Pq
  grind
 .rw[aR e];by_cases f:(bR p).1=2
  .rw[aX f];refine key _ λy h=>?_;unfold Pq
   grind
  .rw[aR f];have d:Pq q p=false:=by unfold Pq;rw[cL e,cL f];rfl
   rw[aR<|by rw[d];decide,Ay a.ord]
def acx:∀(ps:List Pt) (t:List Nd),Valid t->∀q,Kj (ps.foldl uW t) q=afu q ps (Kj t q):=by
 intro ps;induction ps with
 | nil=>intro t _ q;rfl
 | cons p r b =>
   intro t a q;rw[Zz,b _ (xw a p) q,ajh a p q];unfold afu
   grind
def YQ{l:List Nd}(b:Valid l){a:List Pt}(e:ic a=true)(c:(mu l a).2=0):Valid (mu l a).1/\∀q,Kj (mu l a).1 q=a.foldl (acw q) (afu q a<|Kj l q):=by
 have f:mu l a=yR a (a.foldl uW l):=by unfold mu;rw[aX b,aX e]
 rw[f] at c⊢;have d:=yl a l b;refine⟨?_,λq=>?_⟩
 .rcases Ax a _ d with ⟨_,h⟩|⟨h,_⟩
  .exact h
  .grind
 .rw[ajg a _ d c q,acx a l b q]
def afv{l:List Nd}(e:Valid l)(a:List Pt):((mu l a).2=0/\ic a=true)\/((mu l a).2≠0/\(mu l a).1=[]/\((mu l a).2=10\/(mu l a).2=5)):=by
 by_cases c:ic a=true
 .have f:mu l a=yR a (a.foldl uW l):=by unfold mu;rw[aX e,aX c]
  rw[f];have g:=yl a l e;rcases Ax a _ g with ⟨d,h⟩|⟨d,h⟩
  .exact .inl ⟨d,c⟩
  .rcases V1 a _ c g with b|b
   .exact absurd b d
   .exact .inr ⟨d,h,.inr b⟩
 .have f:mu l a=([],10):=by unfold mu;rw[aX e,aR c]
  rw[f];exact .inr ⟨aK,rfl,.inl rfl⟩
end Go.Ge
