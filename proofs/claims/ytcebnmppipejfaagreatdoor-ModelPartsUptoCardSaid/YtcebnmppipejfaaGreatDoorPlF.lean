import Derived.Test.YtcebnmppipejfaaGreatDoorPlE
import Derived.Lib.ParseIntBCases
import Derived.Lib.ItoaMem
set_option linter.unusedSectionVars false
set_option linter.unusedVariables false
set_option linter.unusedSimpArgs false
set_option linter.defProp false
noncomputable section
open Option renaming some->ab,none->ah
namespace Go.Ge
variable [Lp]
def afz:Nd:=([],0,0,[],[],())
def findF(l:List Nd)(p:aw):Nd×Bool×al:=match l.find? λx=>decide (x.1=p) with
 | some x=>(x,true,())
 | none=>(afz,false,())
def NC{l:List Nd}{p:aw}(h:∀x∈l,x.1≠p):findF l p=(afz,false,()):=by
 unfold findF;rw[T6.2 λx a=>by simp[h x a]]
def Fc{l:List Nd}(c:Ord l){p:aw}{x:Nd}(b:x∈l)(e:x.1=p):findF l p=(x,true,()):=by
 unfold findF;cases h:l.find? λx=>decide (x.1=p) with
 | none=>have:=T6.1 h x b;simp[e] at this
 | some y =>
   have a:=Qo h;have d:=Xf h;have a:y.1=p:=by simpa using a
   have:=c.uniq b d (by rw[e,a]);subst this;rfl
def acv(l:List Nd)(p:aw)(d:wx l)(g:p.length<=4096)(c:Valid l):yh (l,p,())=ab (findF l p):=by
 obtain⟨e,h,i⟩:=mx l d;obtain rfl:=i.2 c;obtain⟨k,b,j,n,o,m⟩:=Du l p d g;have a:=m c.ord;unfold yh;dsimp only;rw[h,aa];dsimp only;rw[show nt (aS 0 0)=false by rfl,af,j,aa];dsimp only;cases b with
 | false=>rw[az,ae,NC (a.no rfl)];rfl
 | true =>
   obtain⟨x,f,e⟩:=a.is rfl;rw[aF,af,au f,aa,Fc c.ord (eT f) e]
def ahO:List Nd->Bool
 | a::b::r=>decide (cmpL (key a) (key b)<0)&&ahO (b::r)
 | _=>true
def afA:∀{l:List Nd},ahO l=true->Ord l:=by
 intro l h;refine Nz ?_;induction l with
 | nil=>intro k x y c;simp at c
 | cons a r e =>
   cases r with
   | nil=>intro k x y c d;simp at d
   | cons b r =>
     simp only[ahO,gw,pR] at h;intro k x y c d;cases k with
     | zero =>
       obtain rfl:a=x:=by simpa using c
       obtain rfl:b=y:=by simpa using d
       exact h.1
     | succ k=>exact e h.2 k x y c d
def ND(l:List Nd):Bool:=decide (l.length<=64)&&ahO l&&l.all gd&&l.all λx=>decide ((bp x.1).1=[])||l.any λy=>decide (y.1=(bp x.1).1)&&decide (y.2.1=2)
def AE{l:List Nd}(h:ND l=true):Valid l:=by
 unfold ND at h;simp only[gw,pR] at h;refine⟨h.1.1.1,afA h.1.1.2,λx a=>vR.1 h.1.2 x a,λx a=>?_⟩;have:=vR.1 h.2 x a;simp only[BS,pR,Qn,gw] at this;exact this
def nD:Nd:=([100],2,493,[],[],())
def nA:Nd:=([100,47,97],1,420,[120],[],())
def YS:ND []=true/\ND [nD]=true/\ND [nD,nA]=true:=by decide +kernel
set_option synthInstance.maxHeartbeats 200000 in
set_option synthInstance.maxSize 4000 in
instance aoa:DecidableEq Nd:=inferInstance
def Q7(a:Nd)(r:List Nd)(n:Nd):u6 (a::r) n=if cmp a n.1<0 then a::u6 r n else n::a::r:=by
 unfold u6;by_cases h:cmp a n.1<0
 .rw[aW h,RF,Hr];simp[h]
 .rw[aQ h,RF,Hr];simp[h]
def u7{r:List Nd}{n x:Nd}:x∈u6 r n↔x=n\/x∈r:=by
 induction r with
 | nil=>simp[u6]
 | cons a r b =>
   rw[Q7];split
   .rw[ld,b,ld];constructor
    .rintro(h|h|h)
     .exact .inr (.inl h)
     .exact .inl h
     .exact .inr (.inr h)
    .rintro(h|h|h)
     .exact .inr (.inl h)
     .exact .inl h
     .exact .inr (.inr h)
   .rw[ld]
def afB(r:List Nd)(n:Nd):(u6 r n).length=r.length+1:=by
 unfold u6;rw[hY,eU,<-Fz,<-hY,BP]
def Iq{l:List Nd}:Ord l↔l.Pairwise λx y=>cmpL (key x) (key y)<0:=by
 constructor
 .intro h;rw[DC];intro i j b c a;exact h i j _ _ a (ia b) (ia c)
 .intro h i j x y a d e;rw[DC] at h;obtain⟨f,g⟩:=ib.1 d;obtain⟨k,m⟩:=ib.1 e;rw[<-g,<-m];exact h i j f k a
def afC{r:List Nd}{n:Nd}(b:Ord r)(c:∀x∈r,x.1≠n.1):Ord (u6 r n):=by
 rw[Iq] at b⊢;induction r with
 | nil=>simp[u6]
 | cons a r f =>
   rw[T7] at b;rw[Q7];split
   .rename_i h;refine T7.2 ⟨λy hy=>?_,f b.2 λx g=>c x (by simp[g])⟩;rcases u7.1 hy with rfl|hy
    .exact h
    .exact b.1 y hy
   .rename_i h;have d:cmpL (key n) (key a)<0:=by
     have i:cmp a n.1≠0:=λe=>c a aY (V3 e);have j:cmpL (key n) (key a)=- cmpL (key a) (key n):=ae0 _ _;have k:cmp a n.1=cmpL (key a) (key n):=rfl;omega
    refine T7.2 ⟨λy hy=>?_,T7.2 b⟩;rcases ld.1 hy with rfl|hy
    .exact d
    .exact tm d (b.1 y hy)
def NF{x y:Nd}{p:aw}(b:(bp x.1).1≠[])(e:y.1=(bp x.1).1)(h:dt (parts y.1) (parts p)=true):dt (parts x.1) (parts p)=true:=by
 have a:=xy b;rw[<-e] at a;unfold dt at h⊢;obtain⟨d,c⟩:=iy h;refine dE ⟨?_,?_⟩
 .rw[a,hY];omega
 .rw[a,adr ai,c]
def Fe{x:Nd}(b:(bp x.1).1≠[]):dt (parts x.1) (parts (bp x.1).1)=true:=by
 have a:=xy b;unfold dt;refine dE ⟨?_,?_⟩
 .rw[a,hY];simp
 .rw[a];simp
def Lb(l:List Nd)(n:Nd)(r:List Nd):Prop :=
 (((∃x∈l,x.1=n.1/\x.2.1=2)/\n.2.1=2)/\r=l.filter λx=>!decide (x.1=n.1))\/((¬((∃x∈l,x.1=n.1/\x.2.1=2)/\n.2.1=2))/\r=pK l n.1)
def NG(l:List Nd)(n:Nd):((bL l n).1=[]/\(bL l n).2≠0) \/
  (Valid l/\gd n=true/\((bp n.1).1=[]\/∃x∈l,x.1=(bp n.1).1/\x.2.1=2)/\∃r,Lb l n r/\r.length<64/\bL l n=(u6 r n,0)):=by
 unfold bL;by_cases b:¬Valid l\/gd n=false
 .rw[aW b];exact .inl ⟨rfl,aK⟩
 .rw[aQ b];by_cases c:(bp n.1).1≠[]/\∀x∈l,x.1≠(bp n.1).1
  .rw[aW c];exact .inl ⟨rfl,aK⟩
  .rw[aQ c];by_cases f:(bp n.1).1≠[]/\∀x∈l,x.1=(bp n.1).1->x.2.1≠2
   .rw[aW f];exact .inl ⟨rfl,aK⟩
   .rw[aQ f];have hv:Valid l:=JS λh=>b (.inl h);have g:gd n=true:=by
     cases h:gd n with
     | true=>rfl
     | false=>exact absurd (.inr h) b
    have i:(bp n.1).1=[]\/∃x∈l,x.1=(bp n.1).1/\x.2.1=2:=by
     by_cases j:(bp n.1).1=[]
     .exact .inl j
     .right;refine JS λh=>f ⟨j,λx k e c=>h ⟨x,k,e,c⟩⟩
    by_cases d:(∃x∈l,x.1=n.1/\x.2.1=2)/\n.2.1=2
    .simp only[aW d];by_cases a:64<=(l.filter λx=>!decide (x.1=n.1)).length
     .rw[aW a];exact .inl ⟨rfl,aK⟩
     .rw[aQ a];exact .inr ⟨hv,g,i,_,.inl ⟨d,rfl⟩,ai,rfl⟩
    .simp only[aQ d];by_cases a:64<=(pK l n.1).length
     .rw[aW a];exact .inl ⟨rfl,aK⟩
     .rw[aQ a];exact .inr ⟨hv,g,i,_,.inr ⟨d,rfl⟩,ai,rfl⟩
def Lb.sub{l r:List Nd}{n:Nd}(h:Lb l n r):(∀x∈r,x∈l/\x.1≠n.1)/\∃P,r=l.filter P:=by
 rcases h with ⟨_,rfl⟩|⟨_,rfl⟩
 .refine⟨λx a=>?_,_,rfl⟩;have:=zj.1 a;simpa using this
 .refine⟨λx a=>?_,_,rfl⟩;have:=zj.1 a;unfold gone at this;simp at this;exact⟨this.1,this.2.1⟩
def Q8{l r:List Nd}{n:Nd}(m:Valid l)(q:gd n=true)(s:(bp n.1).1=[]\/∃x∈l,x.1=(bp n.1).1/\x.2.1=2)(k:Lb l n r)(t:r.length<64):Valid (u6 r n):=by
 obtain⟨c,P,u⟩:=k.sub;have v:Ord r:=by rw[u];exact m.ord.filter P
 refine⟨by rw[afB];omega,afC v λx hx=>(c x hx).2,λx hx=>?_,λx hx=>?_⟩
 .rcases u7.1 hx with rfl|hx
  .exact q
  .exact m.may x (c x hx).1
 .rcases u7.1 hx with rfl|hx
  ·
   rcases s with h|⟨y,i,b,d⟩
   .exact .inl h
   .by_cases g:(bp x.1).1=[]
    .exact .inl g
    .right;refine⟨y,u7.2 (.inr ?_),b,d⟩;have a:=Fe g;rw[<-b] at a;have hlen:(parts y.1).length<(parts x.1).length:=by
      unfold dt at a;exact(iy a).1
     have j:y.1≠x.1:=λe=>by rw[e] at hlen;omega
     have o:dt (parts y.1) (parts x.1)=false:=by
      unfold dt;exact cL λh=>ai
     rcases k with ⟨_,rfl⟩|⟨_,rfl⟩
     .exact zj.2 ⟨i,by simp[j]⟩
     .exact zj.2 ⟨i,by unfold gone;simp[j,o]⟩
  .rcases m.up x (c x hx).1 with h|⟨y,i,b,d⟩
   .exact .inl h
   .by_cases g:(bp x.1).1=[]
    .exact .inl g
    .right;have a:=Fe g;by_cases e:y.1=n.1
     .rcases k with ⟨w,rfl⟩|⟨_,rfl⟩
      .exact⟨n,u7.2 (.inl rfl),by rw[<-e,b],w.2⟩
      .have:=(zj.1 hx).2;rw[<-b,e] at a;unfold gone at this;rw[a] at this;simp at this
     .refine⟨y,u7.2 (.inr ?_),b,d⟩;rcases k with ⟨_,rfl⟩|⟨_,rfl⟩
      .exact zj.2 ⟨i,by simp[e]⟩
      .refine zj.2 ⟨i,?_⟩;have f:=(zj.1 hx).2;unfold gone at f⊢;cases p:dt (parts y.1) (parts n.1) with
       | false=>simp[e]
       | true =>
         rw[NF g b p] at f;simp at f
def NH(a:List aw):Prop:=∀x∈a,47∉x/\x≠[]
def gl(m:Int)(p:aw):Nd:=(p,(2:Int),m,([]:aw),([]:aw),())
def eG(a:List aw)(j:Nat):aw:=aN (a.take<|j+1)
def sv(a:List aw)(k:Nat):List Nd:=(List.range k).map λj=>gl 0 (eG a j)
def V9(a:List aw)(k:Nat):sv a (k+1)=sv a k++[gl 0<|eG a k]:=by
 unfold sv;rw[List.range_succ,ZP];rfl
def xz(a:List aw)(k:Nat):(sv a k).length=k:=by unfold sv;rw[uI,ZJ]
def qV{ns:List aw}(h:NH ns){i:Nat}{x:aw}(b:ns[i]?=ab x):rq (aN<|ns.take i) x=eG ns i:=by
 have c:ns.take (i+1)=ns.take i++[x]:=by rw[ED,b];rfl
 have:=Nb [x] _ (λy a=>by
  rw[<-c] at a;exact h y (Hq a))
 unfold eG
 grind
def CB:∀(ns:List aw) (k:Nat),(aN<|ns.take k).length<=(aN ns).length:=by
 intro ns;induction ns with
 | nil=>intro k;simp
 | cons x r a =>
   intro k;cases k with
   | zero=>simp[aN]
   | succ k =>
     rw[Ud];cases r with
     | nil=>simp
     | cons y r =>
       cases k with
       | zero=>simp[aN]
       | succ k =>
         have:=a (k+1);rw[Ud] at this⊢;simp only[aN,hY,eU] at this⊢;omega
def Ed:∀(ns:List aw) (x:aw),x∈ns->x.length<=(aN ns).length:=by
 intro ns;induction ns with
 | nil=>intro x c;cases c
 | cons a r d =>
   intro x c;cases r with
   | nil =>
     rw[yE] at c;subst c;simp[aN]
   | cons b r =>
     simp only[aN,hY,eU]
     grind
def Ir(a:List aw):Prop:=NH a/\a.length<=16/\(aN a).length<=200
def Ir.sw{ns:List aw}(h:Ir ns)(k:Nat):(aN<|ns.take k).length<=200:=jb (CB ns k) h.2.2
def Ir.Lc{a:List aw}(h:Ir a){x:aw}(b:x∈a):x.length<=200:=jb (Ed a x b) h.2.2
def Ir.take{a:List aw}(h:Ir a)(k:Nat):Ir (a.take k):=⟨λx b=>h.1 x (Hq b),by rw[km];have:=h.2.1;omega,h.sw k⟩
def JC(a:List aw)(h:Ir a):Loop (iu (a,())) (((),([]:aw),(0:Int),()),([]:List Nd),()) =
  ab (((),aN a,(a.length:Int),()),sv a a.length,()):=by
 obtain⟨t,l,m,_⟩:=zB (f:=iu (a,())) a (λ(s:aw×List Nd) i=>(((),s.1,i,()),s.2,())) (λs i x=>(rq s.1 x,s.2++[gl 0 _])) _
  (λs i=>s.1=aN (a.take i)/\s.2=sv a i) (by have:=h.2.1;omega) (λs i x d e b c=>by
   have g:=h.Lc (eT d);have j:=h.sw i;have hlen:=xz a i;have k:=h.2.1;constructor
   .unfold iu;rw[aq e,ae,au d,aa,H2 _ _ (by rw[c.1];omega) ai,aa,bo (by rw[c.2,hlen];simp only[eU,gj];omega),ae,b];rfl
   .dsimp only;rw[c.1,c.2,qV h.1 d,V9];exact⟨rfl,rfl⟩) (λs _=>by
   unfold iu;rw[ay,af];rfl) ([],[]) ⟨by simp[aN],rfl⟩
 grind
def preB(a:List aw)(k:Nat):Bool:=(List.range k).all λj=>gd (gl 0<|eG a j)
def NI{a:List aw}(h:NH a){j:Nat}(d:j<a.length):(bp<|eG a j).1=aN (a.take j):=by
 have b:a.take (j+1)≠[]:=by
  intro e;simp_all
 unfold eG;rw[Cr (λx c=>h x (Hq c)) b];rw[Ub,km,I0]
 grind
def xA{a:List aw}(h:NH a)(j:Nat):parts (eG a j)=a.take (j+1):=ka _ λx b=>h x (Hq b)
def tC{a:List aw}(h:NH a):aN a=[]↔a=[]:=by
 constructor
 .intro e;have:=ka a h;rw[e] at this;exact this.symm
 .rintro rfl;rfl
def YT{ns:List aw}(h:Ir ns)(c:ns≠[]){n:Nd}(p:n.1=aN ns) :
  Valid (sv ns (ns.length-1)++[n])↔(preB ns (ns.length-1)=true/\gd n=true):=by
 have q:=Ly.2 c;have b:∀(j:Nat) (x:Nd),(sv ns (ns.length-1)++[n])[j]?=ab x->x.1=eG ns j/\j<ns.length/\(j<ns.length-1->x=gl 0 (eG ns j)):=by
  intro j x hx;rw[RE,xz] at hx;by_cases a:j<ns.length-1
  .rw[aW a] at hx;unfold sv at hx;rw[EC,Lx a] at hx;obtain rfl:=aR hx;exact⟨rfl,ai,λ_=>rfl⟩
  .rw[aQ a] at hx;have:j-(ns.length-1)=0:=by
    grind
   rw[this] at hx;obtain rfl:=aR hx;refine⟨?_,ai,λh=>absurd h a⟩;unfold eG
   grind
 constructor
 .intro f;refine⟨?_,f.may n aY⟩;unfold preB;rw[vR];intro j a;refine f.may _ (DF _ ?_);unfold sv
  grind
 .rintro⟨k,r⟩;unfold preB at k;refine⟨?_,?_,?_,?_⟩
  .rw[hY,xz];have:=h.2.1
   grind
  .intro i j x y l hx m;obtain⟨d,g,_⟩:=b i x hx;obtain⟨o,s,_⟩:=b j y m;unfold key;rw[d,o,xA h.1,xA h.1];have e:ns.take (j+1)=ns.take (i+1)++(ns.take<|j+1).drop (i+1):=by
    have:=(BR (i+1)<|ns.take<|j+1).symm
    grind
   rw[e,Vw]
   .decide
   .grind
  .intro x hx;rcases Ht.1 hx with hx|hx
   .obtain⟨j,a,rfl⟩:=Uk.1 hx
    grind
   .grind
  .intro x hx;obtain⟨j,a⟩:=bz.1 hx;obtain⟨d,g,_⟩:=b j x a;rw[d,NI h.1 g];cases j with
   | zero=>left;rfl
   | succ j =>
     right;refine⟨gl 0<|eG ns j,DF _ ?_,rfl,rfl⟩
     grind
def NJ{ns:List aw}(h:Ir ns)(a:ns≠[]){n:Nd}(c:n.1=aN ns)(m:Sm n) :
  eO (n,())=ab (preB ns (ns.length-1)&&gd n,()):=by
 have d:bp n.1=(aN ns.dropLast,ns.getLast a):=by rw[c];exact Cr h.1 a
 have o:=h.sw (ns.length-1);have f:ns.dropLast=ns.take _:=Ub;have b:Ir (ns.take<|ns.length-1):=h.take _;have g:=ka _ b.1;have i:sv (ns.take<|ns.length-1) (ns.take<|ns.length-1).length=sv ns (ns.length-1):=by
  rw[km,yF ai];apply Lw;intro j p;unfold eG
  grind
 unfold eO;rw[qT n.1 (by have:=m.1;omega),aa,d];dsimp only;rw[f,rn _ ai,aa,g,JC _ b,aa,i];have k:n.1≠[]:=by rw[c];exact λe=>a ((tC h.1).1 e)
 rw[bw k,az,ae,bo (by rw[xz];have:=h.2.1;simp only[eU,gj];omega),ae];have l:wx (sv ns (ns.length-1)++[n]):=⟨by rw[hY,xz];have:=h.2.1;simp;omega,λx hx=>by
  rcases Ht.1 hx with hx|hx
  .obtain⟨j,p,rfl⟩:=Uk.1 hx;exact⟨h.sw _,by simp[gl],by simp[gl]⟩
  .rw[yE] at hx;subst hx;exact m⟩
 obtain⟨e,q,r⟩:=mx _ l;rw[vm,q,aa];have hv:=YT h a c;rw[show aS e 0=_ by
  rw[RH,gw,<-hv,<-r];unfold aS;simp]
def ahP{n:Nd}(h:gd n=true):gd (gl 0 n.1)=true:=by
 unfold gd at h⊢;simp only[gw] at h⊢;exact⟨⟨⟨h.1.1.1,by simp[gl]⟩,by simp[gl]⟩,by simp[Q4,gl]⟩
def yX{ns:List aw}(h:Ir ns):lJ (aN ns,())=ab (preB ns ns.length&&decide (ns≠[]),()):=by
 have c:=ka _ h.1;have e:=h.sw ns.length;rw[DG] at e;unfold lJ;dsimp only;rw[iC _ ai,aa,c];have key:∀(d k:Nat),k+d=ns.length->(∀j,j<k->gd (gl 0<|eG ns j)=true) ->
   ∃r,Loop (gY (ns,())) ((false,aN<|ns.take k,(k:Int),()),())=ab r/\((r.1=0/\preB ns ns.length=true)\/(r.1=1/\r.2.1.1=false/\preB ns ns.length=false)):=by
  intro d;induction d with
  | zero =>
    intro k o a;obtain rfl:k=ns.length:=ai;refine⟨(0,(false,aN<|ns.take ns.length,(ns.length:Int),()),()),?_,.inl ⟨rfl,?_⟩⟩
    .rw[aT];unfold gY;rw[ay,af];rfl
    .unfold preB
     grind
  | succ d p =>
    intro k o a;have hx:ns[k]?=ab ns[k]:=ia ai;have q:=h.Lc (adL<|show k<ns.length by omega);have s:=h.sw k;have m:=h.sw (k+1);have t:=h.2.1;have step:gY (ns,()) ((false,aN<|ns.take k,(k:Int),()),())=ab (if gd (gl 0<|eG ns k)=true then .inl ((false,eG ns k,((k+1:Nat):Int),()),()) else .inr (1,(false,eG ns k,(k:Int),()),())):=by
     unfold gY;dsimp only;have b:=yp (gl 0<|eG ns k) (by show(eG ns k).length<=4096;unfold eG;omega) (by simp[gl]);unfold gl at b;rw[aq<|show k<ns.length by omega,ae,au hx,aa,Ay _ _ ai ai,aa,qV h.1 hx,b,aa,aL ai];unfold gl;cases gd _<;>rfl
    by_cases b:gd (gl 0<|eG ns k)=true
    .rw[aW b] at step;obtain⟨r,n,f⟩:=p (k+1) ai (λj u=>by
      by_cases v:j=k
      .grind
      .exact a j ai)
     exact⟨r,by rw[aT,step];exact n,f⟩
    .rw[aQ b] at step;refine⟨_,by rw[aT,step];rfl,.inr ⟨rfl,rfl,?_⟩⟩;unfold preB
     grind
 obtain⟨r,n,f⟩:=key ns.length 0 ai (λj u=>ai);have g:Loop (gY (ns,())) ((false,([]:aw),(0:Int),()),())=ab r:=by
  have:aN (ns.take 0)=[]:=by simp[aN]
  grind
 rw[g,aa];rcases f with ⟨i,l⟩|⟨i,l,w⟩
 .rw[i,show da 0 0=true from rfl,ae,l,Bool.true_and]
  congr 2
  unfold nt bG;have:=tC h.1
  grind
 .rw[i,show da 1 0=false from rfl,af,l,w];rfl
def u9(a:List aw):Bool:=preB a a.length&&decide (a≠[])
def Tk{a:List aw}(b:a≠[]):preB a a.length=(preB a (a.length-1)&&gd (gl 0<|aN a)):=by
 have c:0<a.length:=Ly.2 b;have e:a.length=a.length-1+1:=ai;unfold preB
 conv=>lhs;rw[e]
 have:eG a (a.length-1)=aN a:=by unfold eG;rw[Hp ai]
 grind
def acw{a:List aw}(b:a≠[]){n:Nd}(d:n.1=aN a):(preB a (a.length-1)&&gd n)=(gd n&&u9 a):=by
 unfold u9;rw[Tk b,dE b];cases c:gd n with
 | false=>simp
 | true =>
   have:=ahP c
   grind
def YU{n:Nd}(b:n.1=[]):eO (n,())=ab (false,()):=by
 unfold eO;have a:bp ([]:aw)=([],[]):=aK;rw[b,qT _ aY,aa,a];rw[rn _ aY,aa,show parts []=[] from rfl];have:=JC [] ⟨λx c=>(by cases c),aY,(by simp[aN])⟩;rw[this,aa];rfl
def Q9{b:List aw}(h:Ir b):mR (aN b,())=ab (decide (b=[])||u9 b,()):=by
 unfold mR;by_cases a:b=[]
 .subst a;rfl
 .have c:aN b≠[]:=λe=>a ((tC h.1).1 e);have d:Sm (gl 0<|aN b):=⟨h.2.2,by simp[gl],by simp[gl]⟩;have:=NJ h a (n:=gl 0 (aN b)) rfl d;unfold gl at this;rw[bw c,az,ae,this,aa,aa,cL a,LF];unfold u9;rw[Tk a,dE a,adV];rfl
def jt(p:Pt)(a:aw):Nd:=(a,p.1.2.1,p.1.2.2.1,p.2.1,p.1.2.2.2.2.2.2.2.1,())
def vr(p:Pt):Bool:=decide (p.1.2.1=1)&&decide (p.2.1=[])
def vt(ns:List aw):List aw:=ns.dropLast++[(nM<|ns.getLastD []).2]
def bR(p:Pt):Int×List aw×Bool :=
 if nL p.1.1=true then
  let ns:=names p.1.1
  if(nM<|ns.getLastD []).1=1 then(1,vt ns,vr p&&u9 (vt ns))
  else if(nM<|ns.getLastD []).1=2 then(2,ns.dropLast,vr p&&(decide (ns.dropLast=[])||u9 ns.dropLast))
  else if(nM<|ns.getLastD []).1=0 then(0,ns,(decide (ns=[])&&decide (p.1.2.1=2))||(gd (jt p<|aN ns)&&u9 ns))
  else(0,[],false)
 else(0,[],false)
def CC{s:aw}(h:nL s=true):Ir (names s):=by
 obtain⟨b,c,d⟩:=rr h;exact⟨λx a=>⟨(wN s x a).1,(wN s x a).2.1⟩,ai,ai⟩
def Ff{s:aw}(h:nL s=true):((names s).getLastD []).length<=96:=by
 obtain⟨b,c,d⟩:=rr h;cases e:names s with
 | nil=>simp
 | cons a r =>
   have:(a::r).getLastD []∈names s:=by
    grind
   have:=Ed (names s) _ this;omega
def yq{a:List aw}(h:NH a):bp (aN a)=(aN a.dropLast,a.getLastD []):=by
 by_cases b:a=[]
 .subst b;decide
 .rw[Cr h b]
  grind
def NK{n:aw}(h:(nM n).1=1):(nM n).2=n.drop 4/\n.drop 4≠[]:=by
 unfold nM at h⊢
 grind
def NL(n:aw):(nM n).1=0\/(nM n).1=1\/(nM n).1=2\/(nM n).1=3:=by
 unfold nM
 grind
def afD(d n:aw):(rq d n).length<=d.length+n.length+1:=by
 unfold rq
 grind
def Is{s:aw}(h:nL s=true)(g:(nM<|(names s).getLastD []).1=1):rq (aN (names s).dropLast) (nM<|(names s).getLastD []).2=aN (vt<|names s)/\Ir (vt<|names s):=by
 have a:=CC h;obtain⟨e,d⟩:=NK g;have b:(names s).getLastD []∈names s:=by
  grind
 have c:NH (vt<|names s):=λx hx=>by
  rcases Ht.1 hx with hx|hx
  .exact a.1 x (by rw[Ub] at hx;exact Hq hx)
  .rw[yE] at hx;subst hx;rw[e];exact⟨λq=>(a.1 _ b).1 (Xg q),d⟩
 have f:rq (aN (names s).dropLast) (nM<|(names s).getLastD []).2=aN (vt<|names s):=Nb [_] _ c;refine⟨f,c,?_,?_⟩
 .unfold vt;have:=a.2.1
  grind
 .rw[<-f];have i:=afD (aN (names s).dropLast) (nM<|(names s).getLastD []).2;have j:=Ff h;have k:(aN (names s).dropLast).length<=96:=by
   rw[Ub];have:=CB (names s) ((names s).length-1);have:=(rr h).2.2;omega
  grind
def Dv{a:List aw}(h:Ir a):Ir a.dropLast:=by
 rw[Ub];exact h.take _
def SmP(p:Pt):Prop:=p.1.1.length<=300/\p.1.2.2.2.2.2.2.2.1.length<=300/\p.2.1.length<=8192
def CD(p:Pt)(i:SmP p):pq (p,())=ab ((bR p).1,aN (bR p).2.1,(bR p).2.2,()):=by
 unfold pq;rw[SX p.1.1 (by have:=i.1;omega),aa];unfold bR;cases d:nL p.1.1 with
 | false =>
   have:lB p.1.1=([],2):=by unfold lB;rw[d];rfl
   rw[this,aQ aY];rfl
 | true =>
   have g:lB p.1.1=(aN<|names p.1.1,0):=by unfold lB;rw[d];rfl
   have a:=CC d;have m:=(rr d).2.2;rw[g,aW rfl];dsimp only;rw[show nt (aS 0 0)=false from rfl,af,v8 _ ai,aa,yq a.1];dsimp only;rw[Jv,aa];have j:∀(A:Option Bool),(ao (ao (aS p.1.2.1 1) (bG p.2.1 []) false) A<|some false)=if vr p=true then A else ab false:=λA=>by
    unfold vr aS bG;by_cases c:p.1.2.1=1
    .by_cases k:p.2.1=[]
     .simp[c,k,ao]
     .simp[c,k,ao]
    .simp[c,ao]
   have l:=Ff d;rcases NL ((names p.1.1).getLastD []) with b|b|b|b
   .rw[b,show aS 0 1=false from rfl,af,show aS 0 2=false from rfl,af,show aS 0 0=true from rfl,ae,aQ aK,aQ aK,aW rfl];unfold so;rw[aa];have f:=yp (jt p<|aN<|names p.1.1) (by show(aN<|names p.1.1).length<=4096;omega) (by show p.1.2.2.2.2.2.2.2.1.length<=4096;have:=i.2.1;omega);rw[show lZ ((aN<|names p.1.1,p.1.2.1,p.1.2.2.1,p.2.1,p.1.2.2.2.2.2.2.2.1,()),())=_ from f,aa,yX a,aa];have h:ao (bG (aN<|names p.1.1) []) (aS p.1.2.1 2) false=(decide (names p.1.1=[])&&decide (p.1.2.1=2)):=by
     have:=tC a.1;unfold bG aS;by_cases c:names p.1.1=[]
     .rw[dE c,dE (this.2 c)];simp[ao]
     .rw[cL c,cL λe=>c (this.1 e)];rfl
    rw[h];cases decide (names p.1.1=[])&&decide (p.1.2.1=2) with
    | true=>rfl
    | false =>
      cases gd (jt p<|aN<|names p.1.1)<;>rfl
   .obtain⟨n,o⟩:=Is d b;rw[b,show aS 1 1=true from rfl,ae,aW rfl,Ay _ _ (by have:=(Dv a).2.2;omega) (by rw[(NK b).1,nV];omega),aa,n];rw[yX o,aa,j];cases vr p<;>rfl
   .rw[b,show aS 2 1=false from rfl,af,show aS 2 2=true from rfl,ae,aQ aK,aW rfl];have hd:=Dv a;rw[yX hd,aa,j];have h:bG (aN (names p.1.1).dropLast) []=decide ((names p.1.1).dropLast=[]):=by
     have:=tC hd.1;unfold bG
     grind
    rw[h];cases vr p<;>cases decide ((names p.1.1).dropLast=[])<;>rfl
   .rw[b,show aS 3 1=false from rfl,af,show aS 3 2=false from rfl,af,show aS 3 0=false from rfl,af,aQ aK,aQ aK,aQ aK];rfl
set_option maxRecDepth 100000
end Go.Ge
namespace Go.Ge
variable [Lp]
set_option maxRecDepth 100000
def qM(i:Nat)(n:Nat)(x:UInt8):Option (Nat⊕(Nat×(Int×Bool×Int×Int×al)×al)) :=
 ab (if x.toNat<48\/55<x.toNat then .inr (1,(0,false,(n:Int),(i:Int),()),()) else .inl (8*n+(x.toNat-48)))
def CE(i:Nat)(n:Nat):Nat×(Int×Bool×Int×Int×al)×al:=(0,(0,false,(n:Int),(i:Int),()),())
def NM{i n b:Nat}{x:UInt8}(c:i<=21/\n<8 ^ i)(d:i<21)(a:qM i n x=ab (.inl b)):i+1<=21/\b<8 ^ (i+1):=by
 unfold qM at a;have a:=aR a;split at a
 .cases a
 .obtain rfl:=Ul a;refine⟨ai,?_⟩;rw[Nat.pow_succ];omega
def aaA{i:Nat}(h:i<=20):8 ^ i<=1152921504606846976:=by
 have:(8:Nat) ^ i<=8 ^ 20:=Nat.pow_le_pow_right aK h;have e:(8:Nat) ^ 20=1152921504606846976:=aK;omega
def Ee(s:aw)(m:s.length<=21):Loop (bS (s,())) ((0,false,0,0,()),())=uV qM CE s 0 0:=by
 have key:=pZ (f:=bS (s,())) s (λ(n:Nat) i=>((0,false,(n:Int),(i:Int),()),())) qM CE (λi n=>i<=21/\n<8 ^ i)
  (λn i x c g d=>by
   have o:=aaA (i:=i) ai;obtain⟨p,j⟩:=ib.1 c;have k:=x.toNat_lt;unfold bS qM;dsimp only;rw[lA,aP ai,ae,aM ai ai,ae,zC s g,j,aa,aL ai];by_cases a:x.toNat<48
   .rw[aP<|by unfold u8;omega,aF,af,ae,aW (.inl a)];rfl
   .by_cases b:55<x.toNat
    .rw[aI<|by unfold u8;omega,az,ae,aP (by unfold u8;omega),ae,aW (.inr b)];rfl
    .rw[aI<|by unfold u8;omega,az,ae,aI (by unfold u8;omega),af,show aZ 3 0=false from rfl,af,aQ ai];have e:u8 x=((48+(x.toNat-48):Nat):Int):=by unfold u8;omega
     rw[e,am1 ai ai];rfl)
  (λn i x q c d l=>NM d (by have:=aG c;omega) l)
  (λn d=>by
   unfold bS CE;dsimp only;rw[lA,aI ai,af])
  (λ_ _ _ _ _ h=>by cases h) 0 ⟨ai,aK⟩
 exact key
def Iu(s:aw)(m:s.length<=21):Loop (gG (s,())) ((0,false,0,0,()),())=uV qM CE s 0 0:=by
 have key:=pZ (f:=gG (s,())) s (λ(n:Nat) i=>((0,false,(n:Int),(i:Int),()),())) qM CE (λi n=>i<=21/\n<8 ^ i)
  (λn i x c g d=>by
   have o:=aaA (i:=i) ai;have j:=x.toNat_lt;unfold gG qM;dsimp only;rw[aq g,ae,au c,aa,aa,aa,aL ai];by_cases a:x.toNat<48
   .rw[aP<|by unfold u8;omega,aF,af,aa,aF,af,ae,aW (.inl a)];rfl
   .by_cases b:55<x.toNat
    .rw[aI<|by unfold u8;omega,az,ae,aa,aP (by unfold u8;omega),aF,af,ae,aW (.inr b)];rfl
    .rw[aI<|by unfold u8;omega,az,ae,aa,aI (by unfold u8;omega),az,ae,aI ai,af,aQ ai];have e:u8 x=((48+(x.toNat-48):Nat):Int):=by unfold u8;omega
     rw[e,aiW ⟨x.toNat-48,ai⟩,Ch ai ai,ff BF BF];have k:(8:Int)*(n:Int)+((x.toNat-48:Nat):Int)=((8*n+(x.toNat-48):Nat):Int):=ai;dsimp only;rw[k];rfl)
  (λn i x p c d l=>NM d (by have:=aG c;omega) l)
  (λn d=>by
   unfold gG CE;dsimp only;rw[ay,af])
  (λ_ _ _ _ _ h=>by cases h) 0 ⟨ai,aK⟩
 exact key
def PB:∀(r:aw) (i n:Nat),∃q,uV qM CE r i n=ab q/\(q.1=0\/q.1=1):=by
 intro r;induction r with
 | nil=>intro i n;exact⟨_,rfl,.inl rfl⟩
 | cons x r a =>
   intro i n;unfold uV qM;by_cases h:x.toNat<48\/55<x.toNat
   .rw[aW h];exact⟨_,rfl,.inr rfl⟩
   .rw[aQ h];exact a (i+1) _
def CF(s:aw)(e:s.length<=1048576):dN (s,())=nI (s,())/\∃n b,dN (s,())=ab (n,b,()):=by
 unfold dN nI;dsimp only;by_cases f:s.length<1
 .rw[aP<|by rw[bE];omega,aF,af,ae,ae];exact⟨rfl,_,_,rfl⟩
 .by_cases g:21<s.length
  .rw[aI<|by rw[bE];omega,az,ae,aP (by rw[bE];omega),ae,ae];exact⟨rfl,_,_,rfl⟩
  .rw[aI<|by rw[bE];omega,az,ae,aI (by rw[bE];omega),af,af,ec (by rw[bE];omega),ae,Ee s ai,Iu s ai];refine⟨rfl,?_⟩;obtain⟨q,a,d⟩:=PB s 0 0;rw[a,aa];rcases d with c|c
   .rw[c,bW,ae];exact⟨_,_,rfl⟩
   .rw[c,eZ,af];exact⟨_,_,rfl⟩
end Go.Ge
namespace Go.Ge
variable [Lp]
def afE{a S R:Type}{f:S->Option (S⊕R)}(l:List a)(b:Nat->S)(p:a->Bool)(c:Nat->R)(e:R)
  (h:∀(i:Nat) (x:a),l[i]?=ab x->f (b i)=ab (if p x=true then .inr (c i) else .inl (b<|i+1))) (g:f (b l.length)=ab (.inr e)) :
  ∀(d i:Nat),i+d=l.length->(∃(j:Nat) (x:a),i<=j/\l[j]?=ab x/\p x=true/\(∀(m:Nat) (y:a),i<=m->m<j->l[m]?=ab y->p y=false)/\Loop f (b i)=ab (c j)) \/
   ((∀(m:Nat) (y:a),i<=m->l[m]?=ab y->p y=false)/\Loop f (b i)=ab e):=by
 intro d;induction d with
 | zero =>
   intro i s;obtain rfl:i=l.length:=ai;refine .inr ⟨λm y n r=>?_,by rw[aT,g];rfl⟩
   grind
 | succ d t =>
   intro i s;have hx:l[i]?=ab l[i]:=ia ai;have k:=h i _ hx;by_cases o:p l[i]=true
   .rw[aW o] at k;exact .inl ⟨i,_,cq _,hx,o,λm y n u=>absurd n ai,by rw[aT,k];rfl⟩
   .rw[aQ o] at k;rcases t (i+1) ai with ⟨j,x,v,q,w,B,z⟩|⟨v,q⟩
    .refine .inl ⟨j,x,ai,q,w,λm y n A r=>?_,by rw[aT,k];exact z⟩
     grind
    .refine .inr ⟨λm y n r=>?_,by rw[aT,k];exact q⟩
     grind
def Wa(p:UInt8->Bool)(s:aw):∃z,s=cX p s++z/\∀x∈z,p x=true:=by
 refine⟨(s.reverse.takeWhile p).reverse,?_,λx a=>?_⟩
 .unfold cX;rw[<-List.reverse_append,BP,List.reverse_reverse]
 .rw[Uf] at a;exact HY a
def Wb{p:UInt8->Bool}{s:aw}{m:Nat}{x:UInt8}(b:s[m]?=ab x)(c:p x=false):m<(cX p s).length/\∀j,j<=m->(cX p s)[j]?=s[j]?:=by
 obtain⟨z,d,a⟩:=Wa p s
 grind
def AF{p:UInt8->Bool}{s:aw}{j:Nat}(c:∀(m:Nat) (y:UInt8),j<=m->s[m]?=ab y->p y=true)(d:∀(m:Nat) (y:UInt8),m<j->s[m]?=ab y->p y=false):cX p s=s.take j:=by
 have e:=(BR j s).symm
 conv=>lhs;rw[e]
 rw[QT _ _ λx a=>by
  obtain⟨i,b⟩:=bz.1 a;rw[tf] at b;exact c _ x ai b]
 refine afk λx a=>?_
 grind
def JD(x:UInt8):Bool:=decide (48<=x.toNat/\x.toNat<=55)
def afF{x:UInt8}(h:JD x=true):Ax x=false:=by
 unfold JD at h;cases a:Ax x with
 | false=>rfl
 | true =>
   rcases(VL x).1 a with e|e
   .simp_all
   .simp_all
def Wc:∀(r:aw) (i n:Nat) (x:UInt8),x∈r->JD x=false->∃q,uV qM CE r i n=ab q/\q.1=1/\q.2.1.2.1=false:=by
 intro r;induction r with
 | nil=>intro i n x hx;cases hx
 | cons a r c =>
   intro i n x hx b;unfold uV qM;by_cases h:a.toNat<48\/55<a.toNat
   .simp_all
   .rw[aQ h];rcases ld.1 hx with e|hx
    .subst e;unfold JD at b
     grind
    .exact c _ _ x hx b
def PC{s:aw}(c:s.length<=21){x:UInt8}(a:x∈s)(d:JD x=false):∃n,dN (s,())=ab (n,false,()):=by
 have b:=List.length_pos_of_mem a;unfold dN;dsimp only;rw[aI<|by rw[bE];omega,az,ae,aI (by rw[bE];omega),af,ec (by rw[bE];omega),ae,Ee s c];obtain⟨q,e,f,g⟩:=Wc s 0 0 x a d;rw[e,aa,f,eZ,af,g]
 grind
def anb(x:UInt8):cj 48 (u8 x)=decide (48<=x.toNat):=by unfold cj u8;apply hH.2;omega
def anc(x:UInt8):cj (u8 x) 55=decide (x.toNat<=55):=by unfold cj u8;apply hH.2;omega
def ru(s:aw)(F:s.length<=21):fS (s,())=dy (s,()):=by
 unfold fS dy;rw[Gx s ai,aa];have first:=afE (f:=nO (s,())) s (λi=>(((i:Int),()),())) (λx=>!JD x) _ _ (λi x u=>by
  have hi:=aG u;unfold nO;rw[aq hi,ae,au u,aa,aa,aa,anb,anc,aL ai];unfold JD;by_cases c:48<=x.toNat
  .by_cases a:x.toNat<=55
   .rw[dE c,dE a,dE ⟨c,a⟩];rfl
   .rw[dE c,cL a,cL λq:48<=x.toNat/\x.toNat<=55=>a q.2];rfl
  .rw[cL c,cL λq:48<=x.toNat/\x.toNat<=55=>c q.1];rfl) (by
  unfold nO;rw[ay,af];rfl) s.length 0 ai
 rcases first with ⟨j,x,_,u,B,p,v⟩|⟨r,v⟩
 .rw[show Loop _ (((0:Int),()),())=_ from v,aa];have G:=aG u;have w:JD x=false:=by simpa using B
  dsimp only;rw[ax<|by rw[bE];omega,af];have second:=afE (f:=nP (s,())) s (λi=>(((0:Int),(i:Int),()),())) (λx=>!Ax x) _ _ (λi y d=>by
   have hi:=aG d;have e0:aS (u8 y) 0=decide (y=0):=D6 (n:=0);have z:aS (u8 y) 32=decide (y=32):=D6 (n:=32);unfold nP;rw[aq hi,ae,au d,aa,aa,e0,z,aL ai];have g:=VL y;by_cases c:y=0
   .rw[dE c,g.2 (.inl c)];rfl
   .by_cases a:y=32
    .rw[cL c,dE a,g.2 (.inr a)];rfl
    .rw[cL c,cL a,show Ax y=false by
     cases C:Ax y with
     | false=>rfl
     | true=>rcases g.1 C with e|e
             .grind
             .exact absurd e a];rfl) (by
   unfold nP;rw[ay,af]) (s.length-j) j ai
  rcases second with ⟨m,y,o,d,D,_,h⟩|⟨k,h⟩
  .rw[show Loop _ _=_ from h,aa,eZ,af];obtain⟨H,I⟩:=Wb d (by simpa using D);have t:x∈cX Ax s:=by
    grind
   have hlen:=pE Ax s;obtain⟨n,E⟩:=PC ai t w;rw[E,aa];rfl
  .rw[show Loop _ _=_ from h,aa,bW,ae];have l:=AF (λm y o d=>by simpa using k m y o d) (λm y o d=>afF (by simpa using p m y (qO _) o d));have A:inside (0:Int) (j:Int) (len s)=true:=mf (qO _) ai;rw[A,ae,ij,l];obtain⟨c,n,b,a⟩:=CF (s.take j) (by rw[km];omega);rw[<-c,a,aa,aa];rw[ax<|show len _≠len s by rw[bE,bE,km];omega];cases b<;>rfl
 .rw[show Loop _ (((0:Int),()),())=_ from v,aa,aE (by rw[bE]),ae];have l:cX Ax s=s:=by
   have:=AF (s:=s) (j:=s.length) (λm y o d=>by have:=aG d;omega) (λm y o d=>afF (by simpa using r m y (qO _) d))
   grind
  rw[l];obtain⟨_,n,b,a⟩:=CF s ai;rw[a,aa];rw[aE rfl];cases b<;>rfl
def Iv(s:aw)(L:s.length<=1000):∃t w,pt (s,())=ab (t,w,())/\kv (s,())=ab (cX cU s,w,())/\(w=true->t=cX cU s)/\t.length<=s.length:=by
 have e0:∀y:UInt8,aS (u8 y) 0=cU y:=λy=>rfl;rw[Gz s ai];unfold pt;have inner:∀i:Nat,i<=s.length->_:=λi A=>afE (f:=hS (s,())) s (λk=>((([]:aw),false,(k:Int),()),())) (λx=>!cU x) _ _ (λk y a=>by
  have E:=aG a;unfold hS;rw[aq E,ae,au a,aa,e0,aL ai];cases cU y<;>rfl) (by
  unfold hS;rw[ay,af]) (s.length-i) i ai
 have outer:(∃(i:Nat) (x:UInt8),s[i]?=ab x/\cU x=true/\(∀(m:Nat) (y:UInt8),m<i->s[m]?=ab y->cU y=false)/\Loop (dW (s,())) ((([]:aw),false,(0:Int),()),())=(ag (Loop (hS (s,())) ((([]:aw),false,(i:Int),()),())) λn=>ab (if n.1=0 then(1,(s.take i,true,(i:Int),()),()) else(1,(n.2.1.1,n.2.1.2.1,(i:Int),()),())))) \/
   ((∀(m:Nat) (y:UInt8),s[m]?=ab y->cU y=false)/\Loop (dW (s,())) ((([]:aw),false,(0:Int),()),())=ab (0,(([]:aw),false,(s.length:Int),()),())):=by
  have key:∀(d i:Nat),i+d=s.length->(∀(m:Nat) (y:UInt8),m<i->s[m]?=ab y->cU y=false)->(∃(j:Nat) (x:UInt8),s[j]?=ab x/\cU x=true/\(∀(m:Nat) (y:UInt8),m<j->s[m]?=ab y->cU y=false)/\Loop (dW (s,())) ((([]:aw),false,(i:Int),()),())=(ag (Loop (hS (s,())) ((([]:aw),false,(j:Int),()),())) λn=>ab (if n.1=0 then(1,(s.take j,true,(j:Int),()),()) else(1,(n.2.1.1,n.2.1.2.1,(j:Int),()),())))) \/
   ((∀(m:Nat) (y:UInt8),s[m]?=ab y->cU y=false)/\Loop (dW (s,())) ((([]:aw),false,(i:Int),()),())=ab (0,(([]:aw),false,(s.length:Int),()),())):=by
   intro d;induction d with
   | zero =>
     intro i A o;obtain rfl:i=s.length:=ai;refine .inr ⟨λm y a=>o m y (aG a) a,?_⟩;have v:dW (s,()) ((([]:aw),false,(s.length:Int),()),())=ab (.inr (0,(([]:aw),false,(s.length:Int),()),())):=by
      unfold dW;rw[ay,af]
     rw[aT,v];rfl
   | succ d F =>
     intro i A o;have hx:s[i]?=ab s[i]:=ia ai;cases u:cU s[i] with
     | true =>
       refine .inl ⟨i,s[i],hx,u,o,?_⟩;have p:∃z,Loop (hS (s,())) ((([]:aw),false,(i:Int),()),())=ab z/\(z.1=0\/z.1=1):=by
        grind
       obtain⟨z,v,G⟩:=p;have B:inside (0:Int) (i:Int) (len s)=true:=mf (qO _) ai;have r:dW (s,()) ((([]:aw),false,(i:Int),()),())=ab (.inr<|if z.1=0 then(1,(s.take i,true,(i:Int),()),()) else(1,(z.2.1.1,z.2.1.2.1,(i:Int),()),())):=by
        unfold dW;rw[aq<|show i<s.length by omega,ae,au hx,aa,e0,u,ae,v,aa];rcases G with c|c
        .rw[c,bW,ae,B,ae,ij,aW rfl]
        .rw[c,eZ,af,aQ aK]
       rw[v,aa,aT,r];rfl
     | false =>
       have r:dW (s,()) ((([]:aw),false,(i:Int),()),())=ab (.inl ((([]:aw),false,((i+1:Nat):Int),()),())):=by
        unfold dW;rw[aq<|show i<s.length by omega,ae,au hx,aa,e0,u,af,aL ai]
       rw[aT,r];exact F _ ai (λm y b a=>by
        by_cases e:m=i
        .grind
        .exact o m y ai a)
  exact key s.length 0 ai (λm y b=>absurd b ai)
 rcases outer with ⟨i,x,hx,u,o,C⟩|⟨l,C⟩
 .rw[C];have A:=aG hx;rcases inner i ai with ⟨j,y,H,a,I,_,h⟩|⟨J,h⟩
  .rw[show Loop _ _=_ from h,aa,aa,aQ (show ¬(1:Nat)=0 by decide),eZ,af];refine⟨[],false,rfl,?_,λq=>(by cases q),aY⟩;obtain⟨M,K⟩:=Wb a (by simpa using I);have:¬zE _:=λq=>by
    have b:=bz.2 ⟨i,by rw[K i H,hx]⟩;exact q x b ((zD x).1 u)
   grind
  .rw[show Loop _ _=_ from h,aa,aa,aW rfl,eZ,af];have g:=AF (λm y b a=>by simpa using J m y b a) (λm y b a=>o m y b a);refine⟨_,true,rfl,?_,λ_=>g.symm,by dsimp only;rw[km];omega⟩;have:zE (cX cU s):=λy a=>by
    rw[g] at a;obtain⟨m,b⟩:=bz.1 a;have D:=aG b;rw[km] at D;rw[List.getElem?_take_of_lt ai] at b;intro e;have:=o m y ai b;rw[(zD y).2 e] at this;cases this
   grind
 .rw[C,aa,bW,ae];have g:cX cU s=s:=by
   have:=AF (j:=s.length) (λm y b a=>by have:=aG a;omega) (λm y b a=>l m y a)
   grind
  refine⟨s,true,rfl,?_,λ_=>g.symm,cq _⟩;have:zE (cX cU s):=λy a e=>by
   rw[g] at a;obtain⟨m,b⟩:=bz.1 a;have:=l m y b;rw[(zD y).2 e] at this;cases this
  grind
def uz(b:aw)(c:b.length=512)(a e:Nat)(h:a<=e)(d:e<=512):inside (a:Int) (e:Int) (len b)=true/\sub b (a:Int) (minus (e:Int) (a:Int))=gD b a (e-a):=by
 refine⟨mf h ai,?_⟩;unfold sub minus gD
 grind
def afG(p q r:Bool)(H c:Hd)(d:p=true->q=true->r=true->c=H)(e:c.1.length<=1048576)(f:c.2.2.2.2.2.2.2.1.length<=1048576) :
  ag (ao (nt<|ao (nt<|ao (nt<|nt p) (nt q) true) (nt r) true) (ag (uX (c,(256:Int),())) λ(a:Bool×al)=>ab (nt a.1))<|some true) (λ(a:Bool)=>ao a (ab (acm,(2:Int),())) (ab (c,(0:Int),()))) =
  ag (ao (nt<|ao (nt<|ao (nt<|nt p) (nt q) true) (nt r) true) (ag (rk (H,(256:Int),())) λ(b:Bool×al)=>ab (nt b.1))<|some true) (λ(b:Bool)=>ao b (ab (acm,(2:Int),())) (ab (H,(0:Int),()))):=by
 rw[ahJ c 256 e f,VP,aa,aa];cases p with
 | false=>rfl
 | true =>
   cases q with
   | false=>rfl
   | true =>
     cases r with
     | false=>rfl
     | true=>rw[d rfl rfl rfl]
def take_same(b:aw)(a:b.length=512):pv (b,())=fF (b,()):=by
 obtain⟨P,p⟩:=fm (gD b 148 8) (by have:=cu b 148 8;omega);have r6:=ru (gD b 148 8) (by have:=cu b 148 8;omega);obtain⟨s,t⟩:=uz b a 257 265 ai ai;obtain⟨H,I⟩:=uz b a 148 156 ai ai;have q:aS (len b) 512=true:=aE (by simp only[len];omega);by_cases j:gD b 257 8=nR
 case neg =>
  rw[Fb b a j];unfold pv;rw[q,aF,az,ae,show inside (257:Int) (265:Int) (len b)=true from s,ae,show sub b (257:Int) (minus (265:Int) (257:Int))=gD b 257 8 from t,show([117,115,116,97,114,0,48,48]:aw)=nR from rfl,show bG (gD b 257 8) nR=false from cL j,az,aa,aF,af,aa,ae];rfl
 by_cases r:P=(zK b 512:Int)
 case neg =>
  rw[VW b a p r];unfold pv;rw[q,aF,az,ae,show inside (257:Int) (265:Int) (len b)=true from s,ae,show sub b (257:Int) (minus (265:Int) (257:Int))=gD b 257 8 from t,show([117,115,116,97,114,0,48,48]:aw)=nR from rfl,j,show bG nR nR=true from rW _,aF,aa,az,ae,show inside (148:Int) (156:Int) (len b)=true from H,ae,show sub b (148:Int) (minus (156:Int) (148:Int))=gD b 148 8 from I,r6,p,aa,GQ b ai,aa];rw[a,ax r,az,aa,ae];rfl
 obtain⟨n1,J⟩:=fm (gD b 100 8) (by have:=cu b 100 8;omega);obtain⟨n2,K⟩:=fm (gD b 108 8) (by have:=cu b 108 8;omega);obtain⟨n3,L⟩:=fm (gD b 116 8) (by have:=cu b 116 8;omega);obtain⟨n4,M⟩:=fm (gD b 124 12) (by have:=cu b 124 12;omega);obtain⟨n5,N⟩:=fm (gD b 136 12) (by have:=cu b 136 12;omega);have Q:=(ru (gD b 100 8) (by have:=cu b 100 8;omega)).trans J;have r2:=(ru (gD b 108 8) (by have:=cu b 108 8;omega)).trans K;have R:=(ru (gD b 116 8) (by have:=cu b 116 8;omega)).trans L;have S:=(ru (gD b 124 12) (by have:=cu b 124 12;omega)).trans M;have T:=(ru (gD b 136 12) (by have:=cu b 136 12;omega)).trans N;have m0:=cu b 0 100;have m8:=cu b 157 100;have m10:=cu b 345 155;obtain⟨f,U,u,v,w,V⟩:=Iv (gD b 0 100) ai;obtain⟨W,X,y,z,A,Y⟩:=Iv (gD b 157 100) ai;obtain⟨d,B,k,l,m,O⟩:=Iv (gD b 345 155) ai;have l0:=pE cU (gD b 0 100);have l10:=pE cU (gD b 345 155);obtain⟨Z,s0⟩:=uz b a 0 100 ai ai;obtain⟨i8,s8⟩:=uz b a 157 257 ai ai;obtain⟨C,D⟩:=uz b a 345 500 ai ai;obtain⟨i1,s1⟩:=uz b a 100 108 ai ai;obtain⟨i2,s2⟩:=uz b a 108 116 ai ai;obtain⟨i3,s3⟩:=uz b a 116 124 ai ai;obtain⟨i4,s4⟩:=uz b a 124 136 ai ai;obtain⟨i5,s5⟩:=uz b a 136 148 ai ai;obtain⟨c,hk,f7⟩:∃c,b[156]?=ab c/\gD b 156 1=[c]:=by
  refine⟨b[156],ia ai,?_⟩;unfold gD;rw[zg ai];rfl
 unfold fF;rw[q,aF,az,ae,o9 b a,aa,aa,show([117,115,116,97,114,0,48,48]:aw)=nR from rfl];rw[j,show bG nR nR=true from rW _,aF,az,ae,o6 b a,aa];rw[p,aa,Im b ai,aa];rw[a,aE r,aF,aa,af,o0 b a,aa];rw[v,aa,o8 b a,aa];rw[z,aa,o10 b a,aa];rw[l,aa];have o:(ao (nt<|bG (cX cU<|gD b 345 155) []) (ao (fits<|plus (len<|cX cU<|gD b 345 155)<|len ([47]:aw)) (ao (fits<|plus (len<|app (cX cU<|gD b 345 155) [47])<|len<|cX cU<|gD b 0 100)
   (ab ((app (app (cX cU<|gD b 345 155) [47])<|cX cU<|gD b 0 100,()),())) ah) ah)<|some ((cX cU<|gD b 0 100,()),()))=ab ((if cX cU (gD b 345 155)=[] then cX cU (gD b 0 100) else cX cU (gD b 345 155)++[47]++cX cU (gD b 0 100),()),()):=by
  by_cases e:cX cU (gD b 345 155)=[]
  .rw[aW e,cN e,aF,af]
  .rw[aQ e,bw e,az,ae,ec (by simp only[plus,len,eU,gj];omega),ae,ec (by simp only[plus,len,app,hY,eU,gj];omega),ae];rfl
 rw[o,aa,o1 b a,aa];rw[J,aa,o2 b a,aa];rw[K,aa,o3 b a,aa];rw[L,aa,o4 b a,aa];rw[M,aa,o5 b a,aa];rw[N,aa,o7 b a,aa,f7];unfold pv;rw[q,aF,az,ae,show inside (257:Int) (265:Int) (len b)=true from s,ae,show sub b (257:Int) (minus (265:Int) (257:Int))=gD b 257 8 from t,show([117,115,116,97,114,0,48,48]:aw)=nR from rfl,j,show bG nR nR=true from rW _,aF,aa,az,ae,show inside (148:Int) (156:Int) (len b)=true from H,ae,show sub b (148:Int) (minus (156:Int) (148:Int))=gD b 148 8 from I,r6,p,aa,GQ b ai,aa];rw[a,aE r,aF,aa,af];rw[show inside (0:Int) (100:Int) (len b)=true from Z,ae,show sub b (0:Int) (minus (100:Int) (0:Int))=gD b 0 100 from s0,u,aa];rw[show inside (157:Int) (257:Int) (len b)=true from i8,ae,show sub b (157:Int) (minus (257:Int) (157:Int))=gD b 157 100 from s8,y,aa];rw[show inside (345:Int) (500:Int) (len b)=true from C,ae,show sub b (345:Int) (minus (500:Int) (345:Int))=gD b 345 155 from D,k,aa];rw[show inside (100:Int) (108:Int) (len b)=true from i1,ae,show sub b (100:Int) (minus (108:Int) (100:Int))=gD b 100 8 from s1,Q,aa];rw[show inside (108:Int) (116:Int) (len b)=true from i2,ae,show sub b (108:Int) (minus (116:Int) (108:Int))=gD b 108 8 from s2,r2,aa];rw[show inside (116:Int) (124:Int) (len b)=true from i3,ae,show sub b (116:Int) (minus (124:Int) (116:Int))=gD b 116 8 from s3,R,aa];rw[show inside (124:Int) (136:Int) (len b)=true from i4,ae,show sub b (124:Int) (minus (136:Int) (124:Int))=gD b 124 12 from s4,S,aa];rw[show inside (136:Int) (148:Int) (len b)=true from i5,ae,show sub b (136:Int) (minus (148:Int) (136:Int))=gD b 136 12 from s5,T,aa];have g:∀(x:Int×Int×Int×Int×Int×Int×aw×al),(ao (nt<|bG d []) (ao (fits<|plus (len d)<|len ([47]:aw)) (ao (fits<|plus (len<|app d [47])<|len f)
   (ab ((),(app (app d [47]) f,x),())) ah) ah)<|some ((),(f,x),()))=ab ((),(if d=[] then f else d++[47]++f,x),()):=λx=>by
  by_cases e:d=[]
  .rw[aW e,cN e,aF,af]
  .rw[aQ e,bw e,az,ae,ec (by simp only[plus,len,eU,gj];omega),ae,ec (by simp only[plus,len,app,hY,eU,gj];omega),ae];rfl
 rw[g,aa,show idx b (156:Int)=ab c from au (i:=156) hk,aa];have E:bG [c] [48]=decide (c=48):=hH.2 aY;have c0:bG [c] [0]=decide (c=0):=hH.2 aY;have c53:bG [c] [53]=decide (c=53):=hH.2 aY;have F:bG [c] [50]=decide (c=50):=hH.2 aY;have d48:aS (u8 c) 48=decide (c=48):=D6 (n:=48);have d0:aS (u8 c) 0=decide (c=0):=D6 (n:=0);have d53:aS (u8 c) 53=decide (c=53):=D6 (n:=53);have d50:aS (u8 c) 50=decide (c=50):=D6 (n:=50);rw[E,c0,c53,F,d48,d0,d53,d50];have h:(if d=[] then f else d++[47]++f).length<=1048576:=by
  grind
 refine afG U X B _ _ (λa0 a8 G=>?_) ?_ ?_
 .rw[w a0,A a8,m G];all_goals cases decide (c=48)<;>cases decide (c=0)<;>cases decide (c=53)<;>cases decide (c=50)<;>rfl
 .cases decide (c=48)<;>cases decide (c=0)<;>cases decide (c=53)<;>cases decide (c=50)<;>exact h
 .have h8:W.length<=1048576:=ai;have hn:([]:aw).length<=1048576:=aY;cases decide (c=48)<;>cases decide (c=0)<;>cases decide (c=53)<;>cases decide (c=50)<;>first|exact hn|exact h8
abbrev Stp:=((aw×al)⊕((aw×al)⊕(al⊕((Nd×al)⊕al))))
def aaB(p:Pt)(w:Int×List aw×Bool):Stp :=
 if w.1=1 then .inl (aN w.2.1,()) else if w.1=2 then .inr (.inl (aN w.2.1,())) else if w.2.1=[] then .inr (.inr<|.inl ()) else .inr (.inr<|.inr<|.inl (jt p<|aN w.2.1,()))
def jJ(p:Pt):Stp:=aaB p (bR p)
def NN(p:Pt)(A:Option Bool):(ao (ao (aS p.1.2.1 1) (bG p.2.1 []) false) A<|some false)=if vr p=true then A else ab false:=by
 unfold vr aS bG;by_cases a:p.1.2.1=1
 .by_cases b:p.2.1=[]
  .simp[a,b,ao]
  .simp[a,b,ao]
 .simp[a,ao]
def acx(a:List aw):vt a≠[]:=by unfold vt;simp
def afH(p:Pt)(k:SmP p):∃s,sk (p,())=ab (s,(bR p).2.2,())/\((bR p).2.2=true->s=jJ p):=by
 unfold sk;dsimp only;rw[QX p.1.1 (by have:=k.1;omega),aa];dsimp only;unfold jJ;cases c:nL p.1.1 with
 | false =>
   have:lB p.1.1=([],2):=by unfold lB;rw[c];rfl
   have f:bR p=(0,[],false):=by unfold bR;rw[c,aQ aY]
   rw[this,f];exact⟨_,rfl,λh=>by cases h⟩
 | true =>
   have l:lB p.1.1=(aN<|names p.1.1,0):=by unfold lB;rw[c];rfl
   have d:=CC c;have q:=(rr c).2.2;have o:=Ff c;rw[l];dsimp only;rw[show nt (aS 0 0)=false from rfl,af,qT _ ai,aa,yq d.1];dsimp only;rw[VS,aa];dsimp only;rcases NL ((names p.1.1).getLastD []) with b|b|b|b
   .have f:bR p=(0,names p.1.1,(decide (names p.1.1=[])&&decide (p.1.2.1=2))||(gd (jt p<|aN<|names p.1.1)&&u9 (names p.1.1))):=by
     unfold bR;rw[c,aW rfl];dsimp only;rw[b,aQ aK,aQ aK,aW rfl]
    rw[f,b,show aS 0 1=false from rfl,af,show aS 0 2=false from rfl,af,show aS 0 3=false from rfl,af];unfold aaB;dsimp only;rw[aQ aK,aQ aK];have g:=tC d.1;by_cases a:names p.1.1=[]
    .have i:aN (names p.1.1)=[]:=g.2 a;rw[dE a,cN i,ae,aW a];by_cases j:p.1.2.1=2
     .rw[aE j,dE j,ae];exact⟨_,rfl,λ_=>rfl⟩
     .rw[ax j,cL j,af];have:=YU (n:=jt p (aN<|names p.1.1)) i;rw[show eO ((aN<|names p.1.1,p.1.2.1,p.1.2.2.1,p.2.1,p.1.2.2.2.2.2.2.2.1,()),())=_ from this,aa];have m:u9 (names p.1.1)=false:=by unfold u9;rw[a];rfl
      rw[m];simp only[adR,adS];exact⟨_,rfl,λh=>by cases h⟩
    .have i:aN (names p.1.1)≠[]:=λe=>a (g.1 e);rw[cL a,bw i,af,af,aQ a];have r:Sm (jt p<|aN<|names p.1.1):=⟨by show(aN<|names p.1.1).length<=200;omega,k.2.1,k.2.2⟩;have:=NJ d a (n:=jt p (aN<|names p.1.1)) rfl r;rw[acw a rfl] at this;rw[show eO ((aN<|names p.1.1,p.1.2.1,p.1.2.2.1,p.2.1,p.1.2.2.2.2.2.2.2.1,()),())=_ from this,aa];simp only[Bool.false_and,LF];exact⟨_,rfl,λ_=>rfl⟩
   .obtain⟨t,u⟩:=Is c b;have f:bR p=(1,vt<|names p.1.1,vr p&&u9 (vt<|names p.1.1)):=by
     unfold bR;rw[c,aW rfl];dsimp only;rw[b,aW rfl]
    rw[f,b,show aS 1 1=true from rfl,ae,H2 _ _ (by have:=(Dv d).2.2;omega) (by rw[(NK b).1,nV];omega),aa,t];dsimp only;rw[Q9 u,aa,NN,cL (acx _),LF];refine⟨.inl (aN<|vt<|names p.1.1,()),?_,λ_=>rfl⟩;cases vr p<;>rfl
   .have hd:=Dv d;have f:bR p=(2,(names p.1.1).dropLast,vr p&&(decide ((names p.1.1).dropLast=[])||u9 (names p.1.1).dropLast)):=by
     unfold bR;rw[c,aW rfl];dsimp only;rw[b,aQ aK,aW rfl]
    rw[f,b,show aS 2 1=false from rfl,af,show aS 2 2=true from rfl,ae];rw[Q9 hd,aa,NN];refine⟨.inr<|.inl (aN (names p.1.1).dropLast,()),?_,λ_=>rfl⟩;cases vr p<;>rfl
   .have f:bR p=(0,[],false):=by
     unfold bR;rw[c,aW rfl];dsimp only;rw[b,aQ aK,aQ aK,aQ aK]
    rw[f,b,show aS 3 1=false from rfl,af,show aS 3 2=false from rfl,af,show aS 3 3=true from rfl,ae];exact⟨_,rfl,λh=>by cases h⟩
def iw(l:List Pt):Bool:=l.all λp=>(bR p).2.2
def Tl(l:List Pt):Prop:=l.length<=10000/\∀p∈l,SmP p
def afI{l:List Pt}:(∀(i:Nat) (x:Pt),l[i]?=ab x->(!(bR x).2.2)=false)->iw l=true:=λh=>by
 unfold iw;rw[vR];intro x a;obtain⟨i,b⟩:=bz.1 a;have:=h i x b;simpa using this
def aaC{l:List Pt}{i:Nat}{x:Pt}(a:l[i]?=ab x)(h:(!(bR x).2.2)=true):iw l=false:=by
 unfold iw;rw[List.all_eq_false];exact⟨x,eT a,by simpa using h⟩
def Ra(l:List Pt)(c:Tl l):mS (l,())=ab (if iw l=true then(l.map jJ,true,()) else([],false,())):=by
 unfold mS;have n:=c.1;rcases iQ (f:=gr (l,())) l (λi=>((([]:List Stp),false,(),i,()),(l.take i.toNat).map jJ,())) (λ_ x=>!(bR x).2.2) (λi _=>(1,(([]:List Stp),false,(),(i:Int),()),(l.take i).map jJ,())) (0,(([]:List Stp),false,(),(l.length:Int),()),l.map jJ,()) ai (λi x a d b=>by
  obtain⟨s,e,g⟩:=afH x (c.2 x<|eT a);unfold gr;dsimp only;rw[aq d,ae,au a,aa,e,aa,b];dsimp only;rw[pS,pS];have hlen:((l.take i).map jJ).length<=10000:=by rw[uI,km];omega
  cases j:(bR x).2.2 with
  | false=>rfl
  | true =>
    rw[aF,af,bo (by simp only[eU,gj];omega),ae,g j];have:(l.take<|i+1).map jJ=(l.take i).map jJ++[jJ x]:=by rw[ED,a,ZP];rfl
    rw[this];rfl) (by
  unfold gr;dsimp only;rw[ay,af,pS,DG]) with ⟨i,x,a,k,_,h⟩|⟨m,h⟩
 .rw[show Loop (gr (l,())) ((([]:List Stp),false,(),(0:Int),()),([]:List Stp),())=_ from h,aa,aaC a k];rfl
 .rw[show Loop (gr (l,())) ((([]:List Stp),false,(),(0:Int),()),([]:List Stp),())=_ from h,aa,afI m];rfl
def CG(l:List Pt)(c:Tl l):p9 (l,())=ab (iw l,()):=by
 unfold p9;have j:=c.1;rcases iQ (f:=pr (l,())) l (λi=>((false,i,()),())) (λ_ x=>!(bR x).2.2) (λi _=>(1,(false,(i:Int),()),())) (0,(false,(l.length:Int),()),()) ai (λi x b d a=>by
  unfold pr;dsimp only;rw[aq d,ae,au b,aa,CD x (c.2 x<|eT b),aa,a];dsimp only;cases (bR x).2.2<;>rfl) (by
  unfold pr;dsimp only;rw[ay,af]) with ⟨i,x,b,e,_,h⟩|⟨g,h⟩
 .rw[h,aa,aaC b e];rfl
 .rw[h,aa,afI g];rfl
def Rb{l:List Nd}{g:Nd->Bool}{i:Nat}{x:Nd}(a:l[i]?=ab x)(c:g x=true)(d:∀(j:Nat) y,j<i->l[j]?=ab y->g y=false):l.take i=(l.take<|i+1).filter (λx=>!g x):=by
 rw[ED,a,LA];have e:(l.take i).filter (λx=>!g x)=l.take i:=Hs.2 λy b=>by
  obtain⟨j,f⟩:=bz.1 b
  grind
 grind
def acy(l:List Nd)(p:aw)(a:wx l)(c:p.length<=4096):(∃i x,l[i]?=ab x/\gone p x=true/\(∀(j:Nat) y,j<i->l[j]?=ab y->gone p y=false)/\Loop (iV (l,p,())) ((0,0,()),(),p,())=ab (1,((i:Int),(i:Int),()),(),p,())) \/
  ((∀(i:Nat) x,l[i]?=ab x->gone p x=false)/\Loop (iV (l,p,())) ((0,0,()),(),p,())=ab (0,(0,(l.length:Int),()),(),p,())) :=
 iQ (f:=iV (l,p,())) l (λi=>((0,i,()),(),p,())) (λ_ x=>gone p x) (λi x=>(1,((i:Int),(i:Int),()),(),p,())) (0,(0,(l.length:Int),()),(),p,()) (by have:=a.1;omega) (λi x b d e=>by
  unfold iV;dsimp only;rw[aq d,ae,aM ai ft,ae,au b,aa,zF _ _ (by have:=(a.at b).1;omega) c,aa,tX,e];unfold gone;cases decide (x.1=p)<;>cases dt (parts x.1) (parts p)<;>rfl) (by unfold iV;dsimp only;rw[ay,af])
def acz(l:List Nd)(p:aw)(g:wx l)(k:p.length<=4096)(i:Nat)(x:Nd)(a:l[i]?=ab x)(m:gone p x=true)(b:∀(j:Nat) y,j<i->l[j]?=ab y->gone p y=false) :
  ∃(w:Nat) (L:List Nd),Loop (lG) (((i:Int),aH IntKind.i64 (i:Int) 1,(),()),(),p,l,())=ab (((w:Int),(l.length:Int),(),()),(),p,L,())/\L.length=l.length/\w<=l.length/\L.take w=pK l p:=by
 have hi:=aG a;have u:=g.1;obtain⟨w,L,n,h,o,q⟩:=GS (f:=lG) l (gone p) (λw j L=>((w,j,(),()),(),p,L,())) (λw L=>((w,(L.length:Int),(),()),(),p,L,())) ai (λw j L x a c v r s b=>by
  unfold lG;dsimp only;have d:w<L.length:=ai;obtain⟨z,t⟩:∃z,L[w]?=ab z:=⟨_,ia d⟩;have e:ao (nt<|bG x.1 p) (ag (dF (x.1,p,())) λ(y:Bool×al)=>ab y.1) (ab true)=ab (gone p x):=by
   rw[zF _ _ (by have:=(g.at a).1;omega) k,aa,tX];unfold gone;cases decide (x.1=p)<;>rfl
  rw[aq r,ae,aM ai ft,ae,au c,aa,e,aa,b];cases gone p x with
  | true=>rfl
  | false =>
    rw[az,ae,aM ai ft,ae,au t,aa,aa,aa,aa,s,ig];rfl) (λw L=>by
  unfold lG;rw[ay,af];rfl) l.length i (i+1) l ai ai ai rfl (Rb a m b) rfl
 refine⟨w,L,?_,h,o,q⟩;rw[aL ai,n,h]
def YV(l:List Nd)(p:aw)(a:wx l)(c:p.length<=4096)(f:Valid l):uo (l,p,())=ab (pK l p,()):=by
 obtain⟨e,g,k⟩:=mx l a;obtain rfl:=k.2 f;unfold uo;dsimp only;rw[g,aa];rw[show nt (aS 0 0)=false by rfl,af,cO (by have:=a.1;omega),ae];rcases acy l p a c with ⟨i,x,b,m,d,h⟩|⟨d,h⟩
 .obtain⟨w,L,n,r,s,o⟩:=acz l p a c i x b m d;rw[h,aa];rw[eZ,af,show aS (i:Int) (-1)=false by unfold aS;exact cL ai,af,n,aa];dsimp only;rw[aU ai ft<|sN _,ae,GU L w ai,aU (sN _) ai ai,ae,Cx L w ai,o]
 .have q:pK l p=l:=Hs.2 λx b=>by
   obtain⟨j,t⟩:=bz.1 b
   grind
  rw[h,aa,q];rw[bW,ae,show aS (-1) (-1)=true by rfl,ae]
def Iw(p:aw)(x:Nd):Bool:=dt (parts x.1) (parts p)
def acA(l:List Nd)(p:aw)(a:wx l)(c:p.length<=4096):(∃i x,l[i]?=ab x/\Iw p x=true/\(∀(j:Nat) y,j<i->l[j]?=ab y->Iw p y=false)/\Loop (jR (l,p,())) ((0,0,()),(),p,())=ab (1,((i:Int),(i:Int),()),(),p,())) \/
  ((∀(i:Nat) x,l[i]?=ab x->Iw p x=false)/\Loop (jR (l,p,())) ((0,0,()),(),p,())=ab (0,(0,(l.length:Int),()),(),p,())) :=
 iQ (f:=jR (l,p,())) l (λi=>((0,i,()),(),p,())) (λ_ x=>Iw p x) (λi x=>(1,((i:Int),(i:Int),()),(),p,())) (0,(0,(l.length:Int),()),(),p,()) (by have:=a.1;omega) (λi x b d e=>by
  unfold jR;dsimp only;rw[aq d,ae,aM ai ft,ae,au b,aa,zF _ _ (by have:=(a.at b).1;omega) c,aa,e];unfold Iw;cases dt (parts x.1) (parts p)<;>rfl) (by unfold jR;dsimp only;rw[ay,af])
def acB(l:List Nd)(p:aw)(e:wx l)(h:p.length<=4096)(i:Nat)(x:Nd)(a:l[i]?=ab x)(k:Iw p x=true)(b:∀(j:Nat) y,j<i->l[j]?=ab y->Iw p y=false) :
  ∃(w:Nat) (L:List Nd),Loop (mP) (((i:Int),aH IntKind.i64 (i:Int) 1,(),()),(),p,l,())=ab (((w:Int),(l.length:Int),(),()),(),p,L,())/\L.length=l.length/\w<=l.length/\L.take w=l.filter (λx=>!Iw p x):=by
 have hi:=aG a;have t:=e.1;obtain⟨w,L,m,g,n,o⟩:=GS (f:=mP) l (Iw p) (λw j L=>((w,j,(),()),(),p,L,())) (λw L=>((w,(L.length:Int),(),()),(),p,L,())) ai (λw j L x a c u q r b=>by
  unfold mP;dsimp only;have d:w<L.length:=ai;obtain⟨z,s⟩:∃z,L[w]?=ab z:=⟨_,ia d⟩;rw[aq q,ae,aM ai ft,ae,au c,aa,zF _ _ (by have:=(e.at a).1;omega) h,aa,b];unfold Iw;cases dt (parts x.1) (parts p) with
  | true=>rfl
  | false =>
    rw[az,ae,aM ai ft,ae,au s,aa,aa,aa,aa,r,ig];rfl) (λw L=>by
  unfold mP;rw[ay,af];rfl) l.length i (i+1) l ai ai ai rfl (Rb a k b) rfl
 refine⟨w,L,?_,g,n,o⟩;rw[aL ai,m,g]
def NO(l:List Nd)(p:aw):iv l p false=l.filter (λx=>!Iw p x):=by
 unfold iv Iw
 grind
def acC(l:List Nd)(p:aw)(a:wx l)(c:p.length<=4096)(f:Valid l):wc (l,p,())=ab (iv l p false,()):=by
 obtain⟨e,g,k⟩:=mx l a;obtain rfl:=k.2 f;rw[NO];unfold wc;dsimp only;rw[g,aa];rw[show nt (aS 0 0)=false by rfl,af,cO (by have:=a.1;omega),ae];rcases acA l p a c with ⟨i,x,b,m,d,h⟩|⟨d,h⟩
 .obtain⟨w,L,n,r,s,o⟩:=acB l p a c i x b m d;rw[h,aa];rw[eZ,af,show aS (i:Int) (-1)=false by unfold aS;exact cL ai,af,n,aa];dsimp only;rw[aU ai ft<|sN _,ae,GU L w ai,aU (sN _) ai ai,ae,Cx L w ai,o]
 .have q:l.filter (λx=>!Iw p x)=l:=Hs.2 λx b=>by
   obtain⟨j,t⟩:=bz.1 b
   grind
  rw[h,aa,q];rw[bW,ae,show aS (-1) (-1)=true by rfl,ae]
def Wd(l:List Nd)(p:aw)(c:wx l)(d:Valid l):wa (l,p,())=ab (findF l p):=by
 obtain⟨e,f,j⟩:=tB l c;obtain rfl:=j.2 d;unfold wa;rcases Cw l p c with ⟨i,x,g,a,h⟩|⟨b,h⟩
 .rw[h,aa,f,aa];rw[aI ai,au g,Fc d.ord (eT g) a];rfl
 .rw[h,aa,f,aa,NC b];rfl
def YW{n:Nd}(h:gd n=true):n.1.length<=92/\n.2.2.2.2.1.length<=100/\n.2.2.2.1.length<=8192:=by
 unfold gd at h;simp only[gw] at h;have b:=h.1.1.1;have a:=h.2;unfold xw at b;simp only[gw,pR] at b;refine⟨b.1.1.2,?_⟩;unfold Q4 at a;split at a
 .have:=iy a;exact⟨by rw[this.1];simp,this.2⟩
 .split at a
  .have:=iy a;exact⟨by rw[this.1];simp,by rw[this.2];simp⟩
  .split at a
   .have:=iy a;exact⟨this.2.2.1,by rw[this.1];simp⟩
   .cases a
def gN{l:List Nd}(h:Valid l):wx l:=⟨by have:=h.few;omega,λx a=>by
 have:=YW (h.may x a);exact⟨ai,ai,ai⟩⟩
def We{l:List Nd}(h:Valid l)(p:aw):Valid (pK l p):=by
 refine⟨jb (Ua _ _) h.few,h.ord.filter _,λx d=>h.may x (zj.1 d).1,λx d=>?_⟩;obtain⟨f,b⟩:=zj.1 d;by_cases c:(bp x.1).1=[]
 .exact .inl c
 .rcases h.up x f with g|⟨y,i,e,k⟩
  .exact absurd g c
  .refine .inr ⟨y,zj.2 ⟨i,?_⟩,e,k⟩;cases a:gone p y with
   | false=>rfl
   | true =>
     have:gone p x=true:=by
      unfold gone at a⊢;rw[BS] at a⊢;rcases a with a|a
      .right;rw[<-iy a,e];exact Fe c
      .exact .inr (NF c e a)
     rw[this] at b;cases b
def NP{l:List Nd}(h:Valid l)(p:aw):Valid (iv l p false):=by
 refine⟨jb (Ua _ _) h.few,h.ord.filter _,λx b=>h.may x (zj.1 b).1,λx b=>?_⟩;obtain⟨c,a⟩:=zj.1 b;by_cases d:(bp x.1).1=[]
 .exact .inl d
 .rcases h.up x c with f|⟨y,g,e,k⟩
  .exact absurd f d
  .refine .inr ⟨y,zj.2 ⟨g,?_⟩,e,k⟩;cases i:dt (parts y.1) (parts p) with
   | false=>rfl
   | true =>
     rw[NF d e i] at a;cases a
def Tm(l:List Nd)(p:aw):iv l p true=pK l p:=by
 unfold iv pK gone
 congr 1
 funext x;cases decide (x.1=p)<;>cases dt (parts x.1) (parts p)<;>rfl
def xB(p:Pt):Ir (bR p).2.1:=by
 have a:Ir []:=⟨λx c=>(by cases c),aY,(by simp[aN])⟩;unfold bR;split
 .rename_i b;dsimp only;split
  .rename_i d;exact(Is b d).2
  .split
   .exact Dv (CC b)
   .split
    .exact CC b
    .exact a
 .exact a
def va(t:List Nd)(p:Pt):List Nd:=if(bR p).1=1 then pK t (aN (bR p).2.1) else if(bR p).1=2 then iv t (aN (bR p).2.1) false else t
def xC{t:List Nd}(h:Valid t)(p:Pt):Valid (va t p):=by
 unfold va;split
 .exact We h _
 .split
  .exact NP h _
  .exact h
def PD{t:List Nd}(h:Valid t)(p:Pt):sn (jJ p,t,())=ab (va t p,()):=by
 have a:=xB p;have d:=gN h;unfold sn jJ aaB va;dsimp only;by_cases b:(bR p).1=1
 .rw[aW b,aW b];show jD _=_
  unfold jD;dsimp only;rw[YV t _ d (by have:=a.2.2;omega) h,aa]
 .rw[aQ b,aQ b];by_cases c:(bR p).1=2
  .rw[aW c,aW c];show gX _=_
   unfold gX;dsimp only;rw[acC t _ d (by have:=a.2.2;omega) h,aa]
  .rw[aQ c,aQ c];by_cases e:(bR p).2.1=[]
   .rw[aW e];rfl
   .rw[aQ e];rfl
def NQ{t:List Nd}(h:Valid t)(p:aw)(a:p.length<=4096):sj (t,p,())=ab (pK t p,()):=by
 obtain⟨b,c,d⟩:=tB t (gN h);unfold sj;dsimp only;rw[c,aa,d.2 h];dsimp only;rw[aF,af,Cy t p true (gN h) a,aa,Tm]
def PE{t:List Nd}(h:Valid t)(p:aw)(a:p.length<=4096):uq (t,p,())=ab (iv t p false,()):=by
 obtain⟨b,c,d⟩:=tB t (gN h);unfold uq;dsimp only;rw[c,aa,d.2 h];dsimp only;rw[aF,af,Cy t p false (gN h) a,aa]
def Rc{a c:Type}(f:c->a->c)(l:List a)(b:c){i:Nat}{x:a}(d:l[i]?=ab x):(l.take<|i+1).foldl f b=f ((l.take i).foldl f b) x:=by
 rw[ED,d,List.foldl_append];rfl
def YX(l:List Pt)(e:Bool)(a:List Nd)(h:Valid a)(m:l.length<=10000):Loop (lH (l.map jJ,e,())) ((a,(0:Int),()),())=ab ((l.foldl va a,(l.length:Int),()),())/\Valid (l.foldl va a):=by
 obtain⟨t,c,j,_⟩:=zB (f:=lH (l.map jJ,e,())) l (λ(t:List Nd) i=>((t,i,()),())) (λt _ x=>va t x) (λt=>((t,(l.length:Int),()),())) (λt i=>t=(l.take i).foldl va a/\Valid t) ai (λt i x g k b d=>by
  have hy:(l.map jJ)[i]?=ab (jJ x):=by rw[EC,g];rfl
  constructor
  .unfold lH;dsimp only;rw[aq<|show i<(l.map jJ).length by rw[uI];exact k,ae,au hy,aa,b];rw[show sn (jJ x,t,())=_ from PD d.2 x,aa];rfl
  .exact⟨by rw[Rc va l a g,<-d.1],xC d.2 x⟩) (λt _=>by
  unfold lH;dsimp only;rw[show aZ (l.length:Int) (len<|l.map jJ)=false by rw[<-uI (f:=jJ)];exact ay,af];rfl) a ⟨rfl,h⟩
 rw[DG] at c;rw[<-c.1];exact⟨j,c.2⟩
def PF(a:List Nd)(l:List Pt)(j:Tl l)(m:Valid a):Loop (oA (a,l,())) ((a,(0:Int),()),())=ab ((l.foldl va a,(l.length:Int),()),()):=by
 have n:=j.1;obtain⟨t,k,b,_⟩:=zB (f:=oA (a,l,())) l (λ(t:List Nd) i=>((t,i,()),())) (λt _ x=>va t x) (λt=>((t,(l.length:Int),()),())) (λt i=>t=(l.take i).foldl va a/\Valid t) ai (λt i x h o c e=>by
  have d:=xB x;constructor
  .unfold oA;dsimp only;rw[aq o,ae,au h,aa,CD x (j.2 x<|eT h),aa,c];dsimp only;rw[NQ e.2 _ (by have:=d.2.2;omega),aa,PE e.2 _ (by have:=d.2.2;omega),aa];unfold va;by_cases b:(bR x).1=1
   .rw[aE b,aW b];rfl
   .rw[ax b,aQ b];by_cases g:(bR x).1=2
    .rw[aE g,aW g];rfl
    .rw[ax g,aQ g];rfl
  .exact⟨by rw[Rc va l a h,<-e.1],xC e.2 x⟩) (λt _=>by
  unfold oA;dsimp only;rw[ay,af];rfl) a ⟨rfl,m⟩
 rw[DG] at k;rw[<-k.1];exact b
def xD{t:List Nd}{n:Nd}(h:(bL t n).2=0):Valid (bL t n).1:=by
 rcases NG t n with ⟨_,a⟩|⟨b,a,c,r,d,e,f⟩
 .grind
 .rw[f];exact Q8 b a c d e
def ju:List aw->aw->List Nd->List Nd×Int
 | [],_,t=>(t,0)
 | nm::r,at',t =>
   if(findF t<|rq at' nm).2.1=true/\(findF t<|rq at' nm).1.2.1=2 then ju r (rq at' nm) t
   else if(bL t<|gl 493<|rq at' nm).2=0 then ju r (rq at' nm) (bL t<|gl 493<|rq at' nm).1
   else([],(bL t<|gl 493<|rq at' nm).2)
def CH:∀(r:List aw) (a:aw) (t:List Nd),Valid t->(ju r a t).2=0->Valid (ju r a t).1:=by
 intro r;induction r with
 | nil=>intro a t h _;exact h
 | cons nm r d =>
   intro a t h b;unfold ju at b⊢;split at b
   .grind
   .rename_i e;rw[aQ e];split at b
    .rename_i c;rw[aW c];exact d _ _ (xD c) b
    .grind
abbrev DS:=((List Nd×(List Nd×(Int×(aw×(Int×al)))))×al)
def Wf{f:DS->Option (DS⊕(Nat×DS))}(ns:List aw)(h:Ir ns)(n:Nat)(u:n<=ns.length)
  (b:∀(i:Nat) (x:aw) (t:List Nd),i<n->ns[i]?=ab x->Valid t ->
   f ((t,[],(0:Int),aN<|ns.take i,(i:Int),()),()) =
    ab (if(findF t<|eG ns i).2.1=true/\(findF t<|eG ns i).1.2.1=2 then .inl ((t,[],(0:Int),eG ns i,((i+1:Nat):Int),()),())
     else if(bL t<|gl 493<|eG ns i).2=0 then .inl (((bL t<|gl 493<|eG ns i).1,[],(0:Int),eG ns i,((i+1:Nat):Int),()),())
     else .inr (1,(t,[],(bL t<|gl 493<|eG ns i).2,eG ns i,(i:Int),()),())))
  (g:∀(t:List Nd) (a:aw),f ((t,[],(0:Int),a,(n:Int),()),())=ab (.inr (0,(t,[],(0:Int),a,(n:Int),()),()))) :
  ∀(d i:Nat) (t:List Nd),i+d=n->Valid t->∃z,Loop f ((t,[],(0:Int),aN<|ns.take i,(i:Int),()),())=ab z /\
   (((ju ((ns.take n).drop i) (aN<|ns.take i) t).2=0/\z.1=0/\z.2.1.1=(ju ((ns.take n).drop i) (aN<|ns.take i) t).1) \/
    ((ju ((ns.take n).drop i) (aN<|ns.take i) t).2≠0/\z.1=1/\z.2.1.2.1=[]/\z.2.1.2.2.1=(ju ((ns.take n).drop i) (aN<|ns.take i) t).2)):=by
 intro d;induction d with
 | zero =>
   intro i t r l;obtain rfl:i=n:=ai;refine⟨_,by rw[aT,g];rfl,.inl ?_⟩;rw[JT<|by rw[km];omega];exact⟨rfl,rfl,rfl⟩
 | succ d q =>
   intro i t r l;have hx:ns[i]?=ab ns[i]:=ia ai;have c:=b i ns[i] t ai hx l;have e:(ns.take n).drop i=ns[i]::(ns.take n).drop (i+1):=by
    rw[zg<|by rw[km];omega,adJ]
   have s:=qV h.1 hx;rw[e];unfold ju;rw[s];have j:eG ns i=aN (ns.take<|i+1):=rfl;split
   .rename_i m;rw[aW m] at c;obtain⟨z,o,p⟩:=q (i+1) t ai l;refine⟨z,?_,by rw[j];exact p⟩;rw[aT,c];exact o
   .rename_i m;rw[aQ m] at c;split
    .rename_i k;rw[aW k] at c;obtain⟨z,o,p⟩:=q (i+1) _ ai (xD k);refine⟨z,?_,by rw[j];exact p⟩;rw[aT,c];exact o
    .rename_i k;rw[aQ k] at c;refine⟨_,by rw[aT,c];rfl,.inr ⟨k,rfl,rfl,rfl⟩⟩
def afJ(m:Int){a:List aw}(h:Ir a)(i:Nat):Sm (gl m<|eG a i):=⟨h.sw<|i+1,by simp[gl],by simp[gl]⟩
def s6(a:List aw)(t:List Nd)(n:Nd):List Nd×Int:=if(ju a.dropLast [] t).2=0 then bL (ju a.dropLast [] t).1 n else([],(ju a.dropLast [] t).2)
def Tn{b:List aw}(h:Ir b){n:Nd}(y:n.1=aN b)(A:Sm n){t:List Nd}(s:Valid t):kW ((n,()),t,())=ab ((s6 b t n).1,(s6 b t n).2,()):=by
 have hd:Ir b.dropLast:=Dv h;unfold kW;rw[y,qT _ (by have:=h.2.2;omega),aa,yq h.1];dsimp only;rw[rn _ (by have:=hd.2.2;omega),aa,ka _ hd.1];obtain⟨z,B,j⟩:=Wf (f:=fR (b.dropLast,())) b.dropLast hd b.dropLast.length (cq _) (λi x u C k v=>by
  have d:=gN v;have D:=hd.Lc (eT k);have E:=hd.sw i;have w:=hd.sw (i+1);have F:=hd.2.1;unfold fR;dsimp only;rw[aq C,ae,au k,aa,H2 _ _ ai ai,aa,qV hd.1 k];dsimp only;rw[acv u _ d (by unfold eG;omega) v,aa,aL ai];have G:=JB u (gl 493<|eG b.dropLast i) d (afJ 493 hd i);rw[show tp (u,(eG b.dropLast i,(2:Int),(493:Int),([]:aw),([]:aw),()),())=_ from G,aa];by_cases l:(findF u<|eG b.dropLast i).2.1=true
  .by_cases e:(findF u<|eG b.dropLast i).1.2.1=2
   .rw[l,aE e,aW ⟨rfl,e⟩];rfl
   .rw[l,ax e,aQ λq=>e q.2];by_cases c:(bL u<|gl 493<|eG b.dropLast i).2=0
    .rw[aE c,aW c];rfl
    .rw[ax c,aQ c];rfl
  .rw[show(findF u<|eG b.dropLast i).2.1=false by simpa using l,aQ λq=>by cases q.1];by_cases c:(bL u<|gl 493<|eG b.dropLast i).2=0
   .rw[aE c,aW c];rfl
   .rw[ax c,aQ c];rfl) (λu a=>by
  unfold fR;rw[ay,af]) b.dropLast.length 0 t ai s
 rw[DG,zZ] at j;rw[show Loop (fR (b.dropLast,())) ((t,([]:List Nd),(0:Int),([]:aw),(0:Int),()),())=_ from B,aa];have m:aN (b.dropLast.take 0)=[]:=by simp[aN]
 rw[m] at j;unfold s6;rcases j with ⟨g,o,p⟩|⟨g,o,p,H⟩
 .have r:=CH _ _ _ s g;rw[o,show da 0 0=true from rfl,ae,p,aW g,JB _ n (gN r) A,aa]
 .rw[o,show da 1 0=false from rfl,af,p,H,aQ g]
def Wg{b:List aw}(h:Ir b){t:List Nd}(v:Valid t):wg (t,aN b,())=ab ((if(ju b.dropLast [] t).2=0 then(ju b.dropLast [] t).1 else []),(ju b.dropLast [] t).2,()):=by
 unfold wg;dsimp only;rw[iC _ (by have:=h.2.2;omega),aa,ka _ h.1];have j:b.take (b.length-1)=b.dropLast:=List.dropLast_eq_take.symm;obtain⟨z,w,k⟩:=Wf (f:=mT (b,())) b h (b.length-1) ai (λi x u D l s=>by
  have d:=gN s;have y:=h.Lc (eT l);have A:=h.sw i;have m:=h.2.1;unfold mT;dsimp only;rw[aL ai,aq (show i+1<b.length by omega),ae,au l,aa,Ay _ _ ai ai,aa,qV h.1 l];rw[Wd u _ d s,aa];have B:=CA u (gl 493<|eG b i) d (afJ 493 h i);rw[show oz (u,(eG b i,(2:Int),(493:Int),([]:aw),([]:aw),()),())=_ from B,aa];by_cases n:(findF u<|eG b i).2.1=true
  .by_cases e:(findF u<|eG b i).1.2.1=2
   .rw[n,aE e,aW ⟨rfl,e⟩];rfl
   .rw[n,ax e,aQ λq=>e q.2];by_cases c:(bL u<|gl 493<|eG b i).2=0
    .rw[aE c,aW c];rfl
    .rw[ax c,aQ c];rfl
  .rw[show(findF u<|eG b i).2.1=false by simpa using n,aQ λq=>by cases q.1];by_cases c:(bL u<|gl 493<|eG b i).2=0
   .rw[aE c,aW c];rfl
   .rw[ax c,aQ c];rfl) (λu a=>by
  unfold mT;have m:=h.2.1;rw[aL ai,show aZ ((b.length-1+1:Nat):Int) (len b)=false from aI ft,af]) (b.length-1) 0 t ai v
 rw[zZ,j] at k;rw[show Loop (mT (b,())) ((t,([]:List Nd),(0:Int),([]:aw),(0:Int),()),())=_ from w,aa];have o:aN (b.take 0)=[]:=by simp[aN]
 rw[o] at k;rcases k with ⟨g,p,r⟩|⟨g,p,r,C⟩
 .rw[p,show da 0 0=true from rfl,ae,r,aW g,g]
 .rw[p,show da 1 0=false from rfl,af,r,C,aQ g]
def YY(p:Pt):(bR p).1=0\/(bR p).1=1\/(bR p).1=2:=by
 unfold bR
 grind
def oI(t:List Nd)(p:Pt):List Nd×Int:=if(bR p).1=0/\(bR p).2.1≠[] then s6 (bR p).2.1 t (jt p<|aN (bR p).2.1) else(t,0)
def yY:List Pt->List Nd->List Nd×Int
 | [],t=>(t,0)
 | p::r,t=>if(oI t p).2=0 then yY r (oI t p).1 else([],(oI t p).2)
def Wh{a:List aw}{t:List Nd}{n:Nd}(h:(s6 a t n).2=0):Valid (s6 a t n).1:=by
 unfold s6 at h⊢;split at h
 .rename_i b;rw[aW b];exact xD h
 .grind
def yr{t:List Nd}{p:Pt}(b:Valid t)(h:(oI t p).2=0):Valid (oI t p).1:=by
 unfold oI at h⊢;split at h
 .rename_i a;rw[aW a];exact Wh h
 .grind
def AG:∀(l:List Pt) (t:List Nd),Valid t->(((yY l t).2=0/\Valid (yY l t).1)\/((yY l t).2≠0/\(yY l t).1=[])):=by
 intro l;induction l with
 | nil=>intro t h;exact .inl ⟨rfl,h⟩
 | cons p r a =>
   intro t h;unfold yY;split
   .rename_i b;exact a _ (yr h b)
   .grind
def aaD{p:Pt}(a:SmP p){b:List aw}(h:Ir b):Sm (jt p<|aN b):=⟨h.2.2,a.2.1,a.2.2⟩
def Wi{t:List Nd}(h:Valid t)(p:Pt)(d:SmP p):xp (jJ p,t,())=ab ((oI t p).1,(oI t p).2,()):=by
 have b:=xB p;unfold xp jJ aaB oI;rcases YY p with a|a|a
 .rw[aQ<|by rw[a];decide,aQ (by rw[a];decide)];by_cases c:(bR p).2.1=[]
  .rw[aW c,aQ λq=>q.2 c];rfl
  .rw[aQ c,aW ⟨a,c⟩];exact Tn b rfl (aaD d b) h
 .rw[aW a,aQ λq=>by rw[a] at q;exact absurd q.1 aK];rfl
 .rw[aQ<|by rw[a];decide,aW a,aQ λq=>by rw[a] at q;exact absurd q.1 aK];rfl
def runs{S R:Type}{f:S->Option (S⊕R)}(l:List Pt)(h:List Nd->Nat->S)(b:List Nd->R)(c:Int->List Nd->Nat->R)
  (a:∀(i:Nat) (x:Pt) (t:List Nd),l[i]?=ab x->Valid t->f (h t i)=ab (if(oI t x).2=0 then .inl (h (oI t x).1<|i+1) else .inr (c (oI t x).2 t i)))
  (e:∀t,f (h t l.length)=ab (.inr<|b t)) :
  ∀(d i:Nat) (t:List Nd),i+d=l.length->Valid t->∃z,Loop f (h t i)=ab z /\
   (((yY (l.drop i) t).2=0/\z=b (yY (l.drop i) t).1)\/((yY (l.drop i) t).2≠0/\∃m n,z=c (yY (l.drop i) t).2 m n)):=by
 intro d;induction d with
 | zero =>
   intro i t o k;obtain rfl:i=l.length:=ai;refine⟨_,by rw[aT,e];rfl,.inl ?_⟩;rw[LB];exact⟨rfl,rfl⟩
 | succ d p =>
   intro i t o k;have hx:l[i]?=ab l[i]:=ia ai;have j:=a i l[i] t hx k;rw[zg ai];unfold yY;split
   .rename_i g;rw[aW g] at j;obtain⟨z,q,r⟩:=p (i+1) _ ai (yr k g);exact⟨z,by rw[aT,j];exact q,r⟩
   .rename_i g;rw[aQ g] at j;exact⟨_,by rw[aT,j];rfl,.inr ⟨g,t,i,rfl⟩⟩
open Classical in
def my(l:List Nd)(a:List Pt):List Nd×Int:=if Valid l then(if iw a=true then yY a (a.foldl va l) else([],10)) else([],1)
def yu(a:List Pt):∀(l:List Nd),Valid l->Valid (a.foldl va l):=by
 induction a with
 | nil=>intro l h;exact h
 | cons p r b=>intro l h;exact b _ (xC h p)
def ahR(l:List Nd)(ps:List Pt)(h:wx l)(c:Tl ps):ur (l,ps,())=ab ((my l ps).1,(my l ps).2,()):=by
 obtain⟨e,o,j⟩:=mx l h;have v:=h.1;have w:=c.1;unfold ur my;rw[o,aa];by_cases hv:Valid l
 .rw[j.2 hv,show nt (aS 0 0)=false from rfl,af,aW hv,Ra ps c,aa];by_cases a:iw ps=true
  .rw[aW a,aW a];rw[aF,af,bo (by simp only[gj];omega),ae,show app ([]:List Nd) l=l from rfl];obtain⟨p,k⟩:=YX ps true l hv ai;rw[p,aa];obtain⟨z,r,m⟩:=runs (f:=lI (ps.map jJ,true,())) ps (λt i=>(([],(0:Int),t,(i:Int),()),())) (λt=>(0,([],(0:Int),t,(ps.length:Int),()),())) (λe t i=>(1,([],e,t,(i:Int),()),())) (λi x t d s=>by
    have hi:=aG d;have hy:(ps.map jJ)[i]?=ab (jJ x):=by rw[EC,d];rfl
    unfold lI;rw[aq<|show i<(ps.map jJ).length by rw[uI];exact hi,ae,au hy,aa,aL ai];rw[show xp (jJ x,t,())=_ from Wi s x (c.2 x<|eT d),aa];by_cases b:(oI t x).2=0
    .rw[aE b,aW b];rfl
    .rw[ax b,aQ b];rfl) (λt=>by
    unfold lI;rw[show aZ (ps.length:Int) (len<|ps.map jJ)=false by rw[<-uI (f:=jJ)];exact ay,af]) ps.length 0 (ps.foldl va l) ai k
   rw[zZ] at m;rw[show Loop (lI (ps.map jJ,true,())) (([],(0:Int),ps.foldl va l,(0:Int),()),())=_ from r,aa];rcases m with ⟨n,g⟩|⟨n,y,A,g⟩
   .rw[g,n];rfl
   .rw[g];rcases AG ps _ k with ⟨B,_⟩|⟨_,u⟩
    .grind
    .rw[u];rfl
  .rw[aQ a,aQ a];rfl
 .have:e≠0:=λq=>hv (j.1 q);rw[ax this,az,ae,aQ hv]
def YZ(l:List Nd)(a:List Pt)(B:wx l)(k:Tl a):yj (l,a,())=ab ((my l a).1,(my l a).2,()):=by
 obtain⟨e,C,D⟩:=tB l B;have H:=k.1;unfold yj my;rw[C,aa];by_cases hv:Valid l
 .rw[D.2 hv,aF,af,aW hv,CG a k,aa];by_cases m:iw a=true
  .rw[aW m,m,aF,af];have E:=PF l a k hv;have u:=yu a l hv;rw[E,aa];obtain⟨z,F,v⟩:=runs (f:=oB (l,a,())) a (λt i=>((t,[],(0:Int),(i:Int),()),())) (λt=>(0,(t,[],(0:Int),(a.length:Int),()),())) (λe t i=>(1,(t,[],e,(i:Int),()),())) (λi x t p w=>by
    have hi:=aG p;have g:=k.2 x (eT p);have c:=xB x;unfold oB;rw[aq hi,ae,au p,aa,CD x g,aa,aL ai];rw[Wg c w,aa,aa];unfold so;rw[aa];by_cases h:(bR x).1=0
    .have y:=tC c.1;by_cases n:(bR x).2.1=[]
     .have b:oI t x=(t,0):=by unfold oI;rw[aQ λq=>q.2 n]
      rw[b,aE h,cN (y.2 n)];rfl
     .have b:oI t x=s6 (bR x).2.1 t (jt x<|aN (bR x).2.1):=by unfold oI;rw[aW ⟨h,n⟩]
      rw[b,aE h,bw λq=>n (y.1 q)];by_cases hd:(ju (bR x).2.1.dropLast [] t).2=0
      .have d:s6 (bR x).2.1 t (jt x<|aN (bR x).2.1)=bL (ju (bR x).2.1.dropLast [] t).1 (jt x<|aN (bR x).2.1):=by unfold s6;rw[aW hd]
       have r:=CH _ _ _ w hd;have j:=CA (ju (bR x).2.1.dropLast [] t).1 (jt x<|aN (bR x).2.1) (gN r) (aaD g c);rw[d,aE hd,aW hd,aF,af];rw[show oz ((ju (bR x).2.1.dropLast [] t).1,(aN (bR x).2.1,x.1.2.1,x.1.2.2.1,x.2.1,x.1.2.2.2.2.2.2.2.1,()),())=_ from j,aa];by_cases o:(bL (ju (bR x).2.1.dropLast [] t).1<|jt x<|aN (bR x).2.1).2=0
       .rw[aE o,aW o];rfl
       .rw[ax o,aQ o];rfl
      .have d:s6 (bR x).2.1 t (jt x<|aN (bR x).2.1)=([],(ju (bR x).2.1.dropLast [] t).2):=by unfold s6;rw[aQ hd]
       rw[d,ax hd,aQ hd,aQ hd];rfl
    .have b:oI t x=(t,0):=by unfold oI;rw[aQ λq=>h q.1]
     rw[b,ax h];rfl) (λt=>by
    unfold oB;rw[ay,af]) a.length 0 (a.foldl va l) ai u
   rw[zZ] at v;rw[show Loop (oB (l,a,())) ((a.foldl va l,[],(0:Int),(0:Int),()),())=_ from F,aa];rcases v with ⟨A,s⟩|⟨A,I,J,s⟩
   .rw[s,A];rfl
   .rw[s];rcases AG a _ u with ⟨K,_⟩|⟨_,G⟩
    .grind
    .rw[G];rfl
  .rw[aQ m,show iw a=false by simpa using m];rfl
 .have:e=false:=by
   grind
  rw[this,aQ hv];rfl
def rd0:Rd:=(false,[],0,false,false,())
abbrev Ns:=(Bool×Int×al)×(al×al×al)×Rd×al
def ns(k:Int):Ns:=((false,k,()),((),(),()),rd0,())
def Y0:fo (kG 1024,())=ab ([],0,()):=by
 have a:∀x∈kG 1024,x=0:=ahK _;have c:(kG 1024).length=1024:=tz _;unfold fo;dsimp only;rw[aI<|show len (kG 1024)<=8192 by unfold len;omega];rw[show bP ((),(true,kG 1024,(0:Int),false,false,()),())=_ from Io (kG 1024) 0 ai ai (λx b=>a x (Hq b)),dE ⟨ai,ai,a⟩,aa];dsimp only;rw[aT,wP];rfl
def Has(t:List Nd)(p:aw):Prop:=p=[]\/∃x∈t,x.1=p/\x.2.1=2
def Wj{t:List Nd}{n:Nd}(c:Valid t)(d:gd n=true)(h:Has t (bp n.1).1):((bL t n).2=0/\n∈(bL t n).1)\/(bL t n).2=5:=by
 unfold bL;rw[aQ<|show ¬(¬Valid t\/gd n=false) from λq=>q.elim (λq=>q c) λq=>by rw[d] at q;cases q];have f:¬((bp n.1).1≠[]/\∀x∈t,x.1≠(bp n.1).1):=λq=>by
  rcases h with h|⟨x,a,e,_⟩
  .exact q.1 h
  .exact q.2 x a e
 have b:¬((bp n.1).1≠[]/\∀x∈t,x.1=(bp n.1).1->x.2.1≠2):=λq=>by
  rcases h with h|⟨x,a,e,k⟩
  .exact q.1 h
  .exact q.2 x a e k
 rw[aQ f,aQ b];have key:∀r:List Nd,((if 64<=r.length then(([]:List Nd),(5:Int)) else(u6 r n,0)).2=0/\n∈(if 64<=r.length then(([]:List Nd),(5:Int)) else(u6 r n,0)).1)\/(if 64<=r.length then(([]:List Nd),(5:Int)) else(u6 r n,0)).2=5:=λr=>by
  split
  .exact .inr rfl
  .exact .inl ⟨rfl,u7.2 (.inl rfl)⟩
 exact key _
def acD{t:List Nd}{p:aw}(h:(findF t p).2.1=true):(findF t p).1∈t/\(findF t p).1.1=p:=by
 unfold findF at h⊢;cases a:t.find? λx=>decide (x.1=p) with
 | none=>rw[a] at h;cases h
 | some x=>exact⟨Xf a,by have:=Qo a;simpa using this⟩
def afK{p:aw}(h:gd (gl 0 p)=true):gd (gl 493 p)=true:=by
 unfold gd at h⊢;simp only[gw] at h⊢;exact⟨⟨⟨h.1.1.1,by simp[gl]⟩,by simp[gl]⟩,by simp[Q4,gl]⟩
def acE{ns:List aw}(h:Ir ns)(n:Nat)(v:n<=ns.length)(j:preB ns n=true):∀(d i:Nat) (t:List Nd),i+d=n->Valid t->Has t (aN<|ns.take i) ->
  ((ju ((ns.take n).drop i) (aN<|ns.take i) t).2=0/\Has (ju ((ns.take n).drop i) (aN<|ns.take i) t).1 (aN<|ns.take n))\/(ju ((ns.take n).drop i) (aN<|ns.take i) t).2=5:=by
 intro d;induction d with
 | zero =>
   intro i t q k l;obtain rfl:i=n:=ai;rw[JT<|by rw[km];omega];exact .inl ⟨rfl,l⟩
 | succ d o =>
   intro i t q k l;have hx:ns[i]?=ab ns[i]:=ia ai;have b:(ns.take n).drop i=ns[i]::(ns.take n).drop (i+1):=by
    rw[zg<|by rw[km];omega,adJ]
   have r:=qV h.1 hx;have c:eG ns i=aN (ns.take<|i+1):=rfl;rw[b];unfold ju;rw[r];split
   .rename_i p;obtain⟨m1,s⟩:=acD p.1;rw[c];exact o (i+1) t ai k (.inr ⟨_,m1,by rw[s,c],p.2⟩)
   .have e:gd (gl 493<|eG ns i)=true:=by
     unfold preB at j;rw[vR] at j;exact afK (j i<|LD.2 ai)
    have a:=Wj k e (by
     show Has t (bp<|eG ns i).1
     rw[NI h.1 ai];exact l)
    split
    .rename_i f;rcases a with ⟨_,g⟩|m
     .rw[c];exact o (i+1) _ ai (xD f) (.inr ⟨_,g,rfl,rfl⟩)
     .rw[m] at f;cases f
    .rename_i f;rcases a with ⟨u,_⟩|m
     .exact absurd u f
     .exact .inr m
def acF{a:List aw}(h:Ir a){n:Nd}(k:n.1=aN a)(l:gd n=true)(b:u9 a=true){t:List Nd}(g:Valid t):(s6 a t n).2=0\/(s6 a t n).2=5:=by
 have d:a.take (a.length-1)=a.dropLast:=List.dropLast_eq_take.symm;have c:preB a (a.length-1)=true:=by
  unfold u9 at b;simp only[gw,pR] at b;rw[Tk b.2] at b;simp only[gw] at b;exact b.1.1
 have hd:=acE h (a.length-1) ai c (a.length-1) 0 t ai g (.inl<|by simp[aN]);have e:aN (a.take 0)=[]:=by simp[aN]
 rw[zZ,d,e] at hd;unfold s6;rcases hd with ⟨i,m⟩|j
 .rw[aW i];have f:=CH _ _ _ g i;rcases Wj f l (by rw[k,yq h.1];exact m) with ⟨o,_⟩|p
  .exact .inl o
  .exact .inr p
 .rw[aQ<|by rw[j];decide];exact .inr j
def Y1{p:Pt}(a:(bR p).2.2=true)(c:(bR p).1=0)(b:(bR p).2.1≠[]):gd (jt p<|aN (bR p).2.1)=true/\u9 (bR p).2.1=true:=by
 have key:∀(ns:List aw) (q:Bool),ns≠[]->((decide (ns=[])&&q)||(gd (jt p<|aN ns)&&u9 ns))=true->gd (jt p<|aN ns)=true/\u9 ns=true:=λns q d g=>by
  rw[cL d,Bool.false_and,LF,gw] at g;exact g
 unfold bR at a c b⊢;split at c
 .rename_i e;rw[aW e] at a b⊢;dsimp only at a c b⊢;split at c
  .cases c
  .rename_i h;rw[aQ h] at a b⊢;split at c
   .cases c
   .rename_i i;rw[aQ i] at a b⊢;split at c
    .rename_i f;rw[aW f] at a b⊢;exact key _ _ b a
    .rename_i f;rw[aQ f] at b;exact absurd rfl b
 .rename_i e;rw[aQ e] at b;exact absurd rfl b
def Wk:∀(ps:List Pt) (t:List Nd),iw ps=true->Valid t->(yY ps t).2=0\/(yY ps t).2=5:=by
 intro ps;induction ps with
 | nil=>intro t _ _;exact .inl rfl
 | cons p r e =>
   intro t c d;unfold iw at c;simp only[adU,gw] at c;unfold yY;split
   .rename_i a;exact e _ c.2 (yr d a)
   .rename_i a;right;show(oI t p).2=5
    unfold oI at a⊢;split
    .rename_i b;rw[aW b] at a;obtain⟨m1,f⟩:=Y1 c.1 b.1 b.2;rcases acF (xB p) (n:=jt p (aN (bR p).2.1)) rfl m1 f d with g|h
     .exact absurd g a
     .exact h
    .rename_i b;rw[aQ b] at a;exact absurd rfl a
def ahS{l:List Pt}(c:l.length<=64)(a:∀q∈l,RdP q):Tl l:=⟨ai,λp b=>a p b⟩
def acG{s:aw}{l:List Pt}{e:Int}(h:fo (s,())=ab (l,e,()))(c:Tl l):hR (s,())=ab (if e=0/\iw l=true then 0 else 10,()):=by
 unfold hR;dsimp only;rw[h,aa];dsimp only;rw[Ra l c,aa];by_cases b:e=0
 .by_cases a:iw l=true
  .rw[aE b,aW a,aW ⟨b,a⟩];rfl
  .rw[aE b,aQ a,aQ λq=>a q.2];rfl
 .rw[ax b,aQ (show ¬(e=0/\iw l=true) from λq=>b q.1)];by_cases a:iw l=true
  .rw[aW a];rfl
  .rw[aQ a];rfl
def acH{s:aw}{a:List Pt}{e:Int}(h:fo (s,())=ab (a,e,()))(f:Tl a){l:List Nd}(d:Valid l):jS (l,s,())=ab (if e=0 then((my l a).1,(my l a).2,()) else([],10,())):=by
 obtain⟨c,g,i⟩:=mx l (gN d);unfold jS;dsimp only;rw[h,aa,g,aa];dsimp only;rw[ahR l a (gN d) f,aa,i.2 d];by_cases b:e=0
 .rw[aE b,aW b];rfl
 .rw[ax b,aQ b];rfl
def Kx(t:List Nd)(q:aw):Option Nd:=t.find? λx=>decide (x.1=q)
def aaE(t:List Nd)(q:aw):findF t q=match Kx t q with
 | some x=>(x,true,())
 | none=>(afz,false,()):=rfl
def at_mem{t:List Nd}{q:aw}{x:Nd}(h:Kx t q=ab x):x∈t/\x.1=q:=by
 unfold Kx at h
 grind
def AH{t:List Nd}(a:Ord t){q:aw}{x:Nd}:Kx t q=ab x↔x∈t/\x.1=q:=by
 constructor
 .exact at_mem
 .rintro⟨b,c⟩;have:=Fc a b c;rw[aaE] at this
  grind
def aaF{a b:Option Nd}(h:∀x,a=ab x↔b=ab x):a=b:=by
 cases a with
 | none =>
   cases b with
   | none=>rfl
   | some y=>exact absurd ((h y).2 rfl) aY
 | some x=>exact((h x).1 rfl).symm
def acI:∀{l m:List Nd},(l.Pairwise λx y=>cmpL (key x) (key y)<0)->(m.Pairwise λx y=>cmpL (key x) (key y)<0)->(∀c,c∈l↔c∈m)->l=m:=by
 intro l;induction l with
 | nil =>
   intro m _ _ h;cases m with
   | nil=>rfl
   | cons d m=>exact absurd ((h d).2 aY) aY
 | cons c l k =>
   intro m g i h;cases m with
   | nil=>exact absurd ((h c).1 aY) aY
   | cons d m =>
     rw[T7] at g i;have a:∀x:Nd,¬cmpL _ (key x)<0:=λx=>by rw[ng];omega
     have j:c=d:=by
      have b:c=d\/c∈m:=by simpa using(h c).1 aY
      have f:d=c\/d∈l:=by simpa using(h d).2 aY
      rcases b with e|b
      .exact e
      .rcases f with e|f
       .grind
       .exact absurd (tm (g.1 d f)<|i.1 c b) (a c)
     grind
def ajD{s t:List Nd}(d:Ord s)(e:Ord t)(h:∀q,Kx s q=Kx t q):s=t :=
 acI (Iq.1 d) (Iq.1 e) λc=>by
  have a:=AH d (q:=c.1) (x:=c);have b:=AH e (q:=c.1) (x:=c)
  grind
def acJ{l:List Nd}(k:Valid l){p:aw}(A:p≠[]):∀(m:Nat) (x:Nd),x∈l->(parts x.1).length<=m->dt (parts x.1) (parts p)=true->∃y∈l,y.1=p/\y.2.1=2:=by
 intro m;induction m with
 | zero =>
   intro x f n h;unfold dt at h
   grind
 | succ m C =>
   intro x f n h;by_cases o:∃y∈l,y.1=p
   .by_cases q:(bp x.1).1=[]
    .exfalso;have r:=h;have s:=(iy r).1;have c:=k.may x f;unfold gd xw at c;simp only[gw,pR] at c;have d:=c.1.1.1.1.1.1.1.2;have B:(parts x.1).length<=1:=by
      rcases rp x.1 with ⟨a,_⟩|⟨a,b,D,F,e⟩
      .unfold parts;split
       .simp
       .rw[ph _ a];simp
      .rw[e] at q;subst q;have:=vR.1 d [] (by
        unfold parts;rw[D,aQ aY];show []∈cB _
        rw[E3 [] aY];simp)
       exact absurd this aK
     have t:parts p=[]:=zY.1 ai;have:=ga p;rw[t] at this;exact A this.symm
    .rcases k.up x f with e|⟨y,i,u,v⟩
     .grind
     .have w:=xy q;rw[<-u] at w;obtain⟨s,j⟩:=iy h;rw[w] at s j;have z:(parts p).length<=(parts y.1).length:=by simp at s;omega
      rw[adr z] at j;rcases vS (parts p).length (parts y.1).length with g|g
      .exact C y i (by rw[w] at n;simp at n;omega) (by unfold dt;exact dE ⟨g,j⟩)
      .have E:parts p=parts y.1:=by rw[<-j,Hp ai]
       exact⟨y,i,by rw[<-ga y.1,<-E,ga],v⟩
   .have:=NB k A (λy i e=>o ⟨y,i,e⟩) _ x f (cq _)
    grind
def aaG{t:List Nd}{n:Nd}(h:(bL t n).2=0)(q:aw) :
  Kx (bL t n).1 q=if q=n.1 then ab n else if dt (parts q) (parts n.1)=true/\n.2.1≠2 then ah else Kx t q:=by
 rcases NG t n with ⟨_,f⟩|⟨e,f,p,r,g,s,u⟩
 .exact absurd h f
 have hvalid:=Q8 e f p g s;have i:=aaz f;rw[u];refine aaF λx=>?_;rw[AH hvalid.ord,u7];obtain⟨m,_⟩:=g.sub;by_cases v:q=n.1
 .grind
 .rw[aQ v];have j:(x=n\/x∈r)/\x.1=q↔x∈r/\x.1=q:=by
   grind
  rw[j];rcases g with ⟨⟨⟨d,B,w,y⟩,k⟩,rfl⟩|⟨A,rfl⟩
  .rw[aQ<|λz=>z.2 k,AH e.ord,zj]
   grind
  .unfold pK;rw[zj];by_cases l:dt (parts q) (parts n.1)=true
   .by_cases o:n.2.1=2
    .rw[aQ<|λz=>z.2 o,AH e.ord];constructor
     .grind
     .rintro⟨a,c⟩;exfalso;have:=acJ e i _ x a (cq _) (by rw[c];exact l)
      grind
    .rw[aW ⟨l,o⟩];constructor
     .rintro⟨⟨a,b⟩,c⟩;unfold gone at b
      grind
     .grind
   .rw[aQ<|λz=>l z.1,AH e.ord];constructor
    .grind
    .rintro⟨a,c⟩;refine⟨⟨a,?_⟩,c⟩;unfold gone
     grind
def PG(q:aw)(s:Option Nd):Option Nd:=match s with
 | some x=>if x.2.1=2 then ab x else ab (gl 493 q)
 | none=>ab (gl 493 q)
def Wl{t:List Nd}(p:aw):((findF t p).2.1=true/\(findF t p).1.2.1=2)↔∃x,Kx t p=ab x/\x.2.1=2:=by
 rw[aaE]
 grind
def afL{a:List aw}(h:NH a){i j:Nat}(b:i<a.length)(c:j<a.length)(e:eG a i=eG a j):i=j:=by
 have:=congrArg (λp=>(parts p).length) e;simp only[xA h,km] at this;omega
def ahT{ns:List aw}(h:NH ns)(n:Nat)(C:n<=ns.length)(q:aw):∀(d i:Nat) (t:List Nd),i+d=n->Valid t ->
  (ju ((ns.take n).drop i) (aN<|ns.take i) t).2=0 ->
  ((∃j,i<=j/\j<n/\q=eG ns j)->Kx (ju ((ns.take n).drop i) (aN<|ns.take i) t).1 q=PG q (Kx t q)) /\
  ((¬∃j,i<=j/\j<n/\q=eG ns j)->Kx (ju ((ns.take n).drop i) (aN<|ns.take i) t).1 q=Kx t q):=by
 intro d;induction d with
 | zero =>
   intro i t v r _;obtain rfl:i=n:=ai;rw[JT<|by rw[km];omega];exact⟨λ⟨j,a,b,_⟩=>absurd a ai,λ_=>rfl⟩
 | succ d s =>
   intro i t v r k;have hx:ns[i]?=ab ns[i]:=ia ai;have l:(ns.take n).drop i=ns[i]::(ns.take n).drop (i+1):=by
    rw[zg<|by rw[km];omega,adJ]
   have w:=qV h hx;have o:eG ns i=aN _:=rfl;rw[l] at k⊢;unfold ju at k⊢;rw[w] at k⊢;have f:(∃j,i<=j/\j<n/\q=eG ns j)↔(q=eG ns i\/∃j,i+1<=j/\j<n/\q=eG ns j):=by
    grind
   have apart:q=eG ns i->¬∃j,i+1<=j/\j<n/\q=eG ns j:=by
    rintro e ⟨j,a,b,c⟩;have:=afL h ai ai (e.symm.trans c);omega
   by_cases m:(findF t<|eG ns i).2.1=true/\(findF t<|eG ns i).1.2.1=2
   .rw[aW m] at k⊢;rw[o] at k⊢;obtain⟨y,u⟩:=s _ t ai r k;rw[f];obtain⟨x,A,D⟩:=(Wl _).1 m;constructor
    .rintro(e|e)
     .rw[u<|apart e,e,A];unfold PG
      grind
     .grind
    .grind
   .rw[aQ m] at k⊢;by_cases p:(bL t<|gl 493<|eG ns i).2=0
    .rw[aW p] at k⊢;obtain⟨y,u⟩:=s _ _ ai (xD p) k;have g:=aaG p q;rw[f];have B:¬(gl 493<|eG ns i).2.1≠2:=λz=>z rfl;constructor
     .rintro(e|e)
      .rw[aW<|show q=(gl 493<|eG ns i).1 from e] at g;unfold PG;rw[Wl] at m
       grind
      .rw[aQ λz:q=(gl 493<|eG ns i).1=>apart z e] at g
       grind
     .intro e;rw[aQ λz:q=(gl 493<|eG ns i).1=>e (.inl z)] at g
      grind
    .grind
def ahU(a:List aw)(n:Nd)(q:aw)(s:Option Nd):Option Nd :=
 if q=n.1 then ab n else if dt (parts q) a=true/\n.2.1≠2 then ah else if dt a (parts q)=true/\q≠[] then PG q s else s
def acK{a:List aw}(h:NH a)(q:aw):(∃j,0<=j/\j<a.length-1/\q=eG a j)↔(dt a (parts q)=true/\q≠[]):=by
 constructor
 .rintro⟨j,_,g,rfl⟩;rw[xA h];constructor
  .unfold dt
   grind
  .intro e;have:=congrArg (λp=>(parts p).length) e;simp only[xA h,km,show(parts []).length=0 from rfl] at this;omega
 .rintro⟨c,d⟩;obtain⟨i,f⟩:=iy c;have b:0<(parts q).length:=by
   apply Nat.pos_of_ne_zero;intro e;have:=ga q;rw[zY.1 e] at this;exact d this.symm
  refine⟨(parts q).length-1,qO _,ai,?_⟩;unfold eG;rw[show(parts q).length-1+1=(parts q).length by omega,f,ga]
def ahV{a:List aw}(h:NH a){t:List Nd}(f:Valid t){n:Nd}(g:n.1=aN a)(d:(s6 a t n).2=0)(q:aw):Kx (s6 a t n).1 q=ahU a n q (Kx t q):=by
 have b:a.take _=a.dropLast:=List.dropLast_eq_take.symm;have c:aN (a.take 0)=[]:=by simp[aN]
 unfold s6 at d⊢;by_cases hd:(ju a.dropLast [] t).2=0
 .rw[aW hd] at d⊢;have e:=ahT h (a.length-1) ai q (a.length-1) 0 t ai f (by rw[zZ,b,c];exact hd);rw[zZ,b,c,acK h] at e;rw[aaG d q,g,ka a h];unfold ahU
  grind
 .grind
def acL(q:aw)(s:Option Nd)(p:Pt):Option Nd:=if(bR p).1=0/\(bR p).2.1≠[] then ahU (bR p).2.1 (jt p<|aN (bR p).2.1) q s else s
def PH(q:aw)(p:Pt):Bool:=(decide ((bR p).1=1)&&(decide (q=aN (bR p).2.1)||dt (parts q) (bR p).2.1))||(decide ((bR p).1=2)&&dt (parts q) (bR p).2.1)
def afM(q:aw)(a:List Pt)(s:Option Nd):Option Nd:=if a.any (PH q)=true then ah else s
def ajE:∀(ps:List Pt) (t:List Nd),Valid t->(yY ps t).2=0->∀q,Kx (yY ps t).1 q=ps.foldl (acL q) (Kx t q):=by
 intro ps;induction ps with
 | nil=>intro t _ _ q;rfl
 | cons p r e =>
   intro t c b q;unfold yY at b⊢;by_cases a:(oI t p).2=0
   .rw[aW a] at b⊢;rw[e _ (yr c a) b q,ZO]
    congr 1
    unfold oI acL at *;by_cases d:(bR p).1=0/\(bR p).2.1≠[]
    .rw[aW d] at a⊢;rw[aW d];exact ahV (xB p).1 c rfl a q
    .grind
   .grind
def ajF{t:List Nd}(a:Valid t)(p:Pt)(q:aw):Kx (va t p) q=if PH q p=true then ah else Kx t q:=by
 have b:=xC a p;have c:=xB p;have g:=ka _ c.1;refine aaF λx=>?_;rw[AH b.ord];have key:∀P:Nd->Bool,(∀x,x.1=q->P x=!PH q p)->((x∈t.filter P/\x.1=q)↔(if PH q p=true then ah else Kx t q)=ab x):=by
  intro P i;by_cases d:PH q p=true
  .grind
  .rw[aQ d,AH a.ord]
   grind
 unfold va;by_cases e:(bR p).1=1
 .rw[aW e];refine key _ λy h=>?_;unfold gone PH
  grind
 .rw[aQ e];by_cases f:(bR p).1=2
  .rw[aW f];refine key _ λy h=>?_;unfold PH
   grind
  .rw[aQ f];have d:PH q p=false:=by unfold PH;rw[cL e,cL f];rfl
   rw[aQ<|by rw[d];decide,AH a.ord]
def acM:∀(ps:List Pt) (t:List Nd),Valid t->∀q,Kx (ps.foldl va t) q=afM q ps (Kx t q):=by
 intro ps;induction ps with
 | nil=>intro t _ q;rfl
 | cons p r b =>
   intro t a q;rw[ZO,b _ (xC a p) q,ajF a p q];unfold afM
   grind
def Y2{l:List Nd}(b:Valid l){a:List Pt}(e:iw a=true)(c:(my l a).2=0):Valid (my l a).1/\∀q,Kx (my l a).1 q=a.foldl (acL q) (afM q a<|Kx l q):=by
 have f:my l a=yY a (a.foldl va l):=by unfold my;rw[aW b,aW e]
 rw[f] at c⊢;have d:=yu a l b;refine⟨?_,λq=>?_⟩
 .rcases AG a _ d with ⟨_,h⟩|⟨h,_⟩
  .exact h
  .grind
 .rw[ajE a _ d c q,acM a l b q]
def afN{l:List Nd}(e:Valid l)(a:List Pt):((my l a).2=0/\iw a=true)\/((my l a).2≠0/\(my l a).1=[]/\((my l a).2=10\/(my l a).2=5)):=by
 by_cases c:iw a=true
 .have f:my l a=yY a (a.foldl va l):=by unfold my;rw[aW e,aW c]
  rw[f];have g:=yu a l e;rcases AG a _ g with ⟨d,h⟩|⟨d,h⟩
  .exact .inl ⟨d,c⟩
  .rcases Wk a _ c g with b|b
   .exact absurd b d
   .exact .inr ⟨d,h,.inr b⟩
 .have f:my l a=([],10):=by unfold my;rw[aW e,aQ c]
  rw[f];exact .inr ⟨aK,rfl,.inl rfl⟩
end Go.Ge
