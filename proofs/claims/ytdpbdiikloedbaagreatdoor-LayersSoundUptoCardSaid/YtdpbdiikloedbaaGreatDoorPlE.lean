/- Plain laws of what the functions compute: part 5. -/
import Derived.Test.YtdpbdiikloedbaaGreatDoorPlD
import Derived.Lib.ParseIntBCases
import Derived.Lib.ItoaMem
set_option linter.unusedSectionVars false
namespace Go.Ge
variable [Lp]
abbrev Rd:=Bool×aq×Int×Bool×Bool×ai
def PV:Pt:=(YA,[],())
def rd(r:aq)(n:Int):Rd:=(true,r,n,false,false,())
def zX(n:Int)(b:Bool):Rd:=(true,[],n,true,b,())
theorem YB(r:aq)(n:Int)(b:Bool):bJ ((),(true,r,n,true,b,()),())=some ((PV,false,()),(true,r,n,true,b,()),()):=by
 unfold bJ;dsimp only;rfl
theorem DY(r:aq)(n:Int)(b:Bool):ef ((b,()),rd r n,())=some ((PV,false,()),zX n b,()):=rfl
theorem Kd(r:aq)(n:Int)(h:r.length<512):bJ ((),rd r n,())=some ((PV,false,()),zX n true,()):=by
 have e:=DY r n true;unfold bJ;dsimp only[rd] at e⊢;rw[aA,aw,ab,ae,aK (by rw[bz];omega),ab,e,aa]
theorem Fv(r:aq)(n:Int)(h:512<=r.length)(f:r.length<=1048576)(g:∀x∈r.take 512,x=0) :
  bJ ((),rd r n,())=some ((PV,false,()),zX n<|!decide (1024<=r.length/\r.length % 512=0/\∀x∈r,x=0),()):=by
 have e:=λb=>DY r n b;unfold bJ;dsimp only[rd] at e⊢;have i:(r.take 512).length=512:=by rw[fB];omega
 rw[aA,aw,ab,ae,aB (by rw[bz];omega),ae,aR (by decide) (by decide) (by rw[bz];omega),ab,show sub r 0 (minus 512 0)=r.take 512 from gn r 512,J0 _ (by omega),dI ⟨i,g⟩,aa,ab];rw[show aX 512 0=false from rfl,ae,show iE (len r) 512=((r.length % 512:Nat):Int) from rfl,show cu 1024 (len r)=decide (1024<=r.length) from by unfold cu len;apply gi.2;omega,show aX ((r.length % 512:Nat):Int) 0=decide (r.length % 512=0) from by unfold aX;apply gi.2;omega,SB r f];have j:decide ((cm ca r).dropWhile ca=[])=decide (∀x∈r,x=0):=gi.2 (uW r);by_cases a:1024<=r.length
 .by_cases b:r.length % 512=0
  .by_cases c:∀x∈r,x=0
   .have d:=(uW r).2 c;rw[dI a,ab,dI b,aa,aA,aw,ab,aa,aa];dsimp only;rw[ch d,aA,e,aa,dI ⟨a,b,c⟩];rfl
   .have d:¬(cm ca r).dropWhile ca=[]:=λq=>c ((uW r).1 q);rw[dI a,ab,dI b,aa,aA,aw,ab,aa,aa];dsimp only;rw[bj d,aw,e,aa,cJ λq=>c q.2.2];rfl
  .rw[dI a,ab,cJ b,aa,aw,aA,ae,aa,e,aa,cJ λq=>b q.2.1];rfl
 .rw[cJ a,ae,aa,aw,aA,ae,aa,e,aa,cJ λq=>a q.1];rfl
theorem NQ(p:Pt)(a:List Pt)(d:Rd)(f:a.length<=1000){e:Pt}{b:Bool}{c:Rd}(h:bJ ((),d,())=some ((e,b,()),c,())) :
  gK (((),(),true,()),p,a,d,())=some (.inl (((),(),b,()),e,a++[p],c,())):=by
 unfold gK;dsimp only;rw[ab,bD (by simp only[dd,eB];omega),ab,h,aa];rfl
theorem uo(p:Pt)(a:List Pt)(b:Rd):gK (((),(),false,()),p,a,b,())=some (.inr (((),(),false,()),p,a,b,())):=rfl
theorem NR(s:aq)(h:8192<s.length):eD (s,())=some ([],10,()):=by
 unfold eD;dsimp only;rw[aK<|by rw[bz];omega,YB,aa];dsimp only;rw[aN,uo];rfl
theorem aeT(c:Bool)(h:Hd):∃x e,af (aj c (af (pE (h,(256:Int),())) λ(a:Bool×ai)=>some (nt a.1))<|some true) (λy=>aj y (some (YA,(2:Int),())) (some (h,(0:Int),())))=some (x,e,())/\(e=0->Hn x 256):=by
 rw[SC,aa];cases c with
 | false=>exact⟨_,_,rfl,λq=>absurd q (by decide)⟩
 | true =>
   by_cases b:Hn h 256
   .rw[dI b];exact⟨h,0,rfl,λ_=>b⟩
   .rw[cJ b];exact⟨_,_,rfl,λq=>absurd q (by decide)⟩
theorem WR(b:aq)(a:b.length=512):∃x e,eR (b,())=some (x,e,())/\(e=0->Hn x 256):=by
 by_cases d:fJ b 257 8=mf
 case neg=>exact⟨_,_,CC b a d,λe=>absurd e (by decide)⟩
 obtain⟨h,f⟩:=ez (fJ b 148 8) (by have:=b9 b 148 8;omega);by_cases g:h=(pJ b 512:Int)
 case neg=>exact⟨_,_,SL b a f g,λe=>absurd e (by decide)⟩
 obtain⟨r,i⟩:=ez (fJ b 100 8) (by have:=b9 b 100 8;omega);obtain⟨s,j⟩:=ez (fJ b 108 8) (by have:=b9 b 108 8;omega);obtain⟨t,k⟩:=ez (fJ b 116 8) (by have:=b9 b 116 8;omega);obtain⟨u,l⟩:=ez (fJ b 124 12) (by have:=b9 b 124 12;omega);obtain⟨v,m⟩:=ez (fJ b 136 12) (by have:=b9 b 136 12;omega);have n:=DM (fJ b 0 100) (by have:=b9 b 0 100;omega);have o:=DM (fJ b 157 100) (by have:=b9 b 157 100;omega);have t10:=DM (fJ b 345 155) (by have:=b9 b 345 155;omega);have w:=nP ca (fJ b 0 100);have l10:=nP ca (fJ b 345 155);have m0:=b9 b 0 100;have m10:=b9 b 345 155;unfold eR;dsimp only;rw[aJ<|by simp only[len];omega,aA,aw,ab,o9 b a,aa,aa,show([117,115,116,97,114,0,48,48]:aq)=mf from rfl];dsimp only;rw[d,show bt mf mf=true from kT _,aA,aw,ab,o6 b a,aa];dsimp only;rw[f,aa,Fu b (by omega),aa];dsimp only;rw[a,aJ g,aA,aa,ae,o0 b a,aa];dsimp only;rw[n,aa,o8 b a,aa];dsimp only;rw[o,aa,o10 b a,aa];dsimp only;rw[t10,aa];dsimp only;have c:∃p:aq,(aj (nt<|bt (cm ca<|fJ b 345 155) []) (aj (fits<|plus (len<|cm ca<|fJ b 345 155)<|len ([47]:aq)) (aj (fits<|plus (len<|app (cm ca<|fJ b 345 155) [47])<|len<|cm ca<|fJ b 0 100)
   (some ((app (app (cm ca<|fJ b 345 155) [47])<|cm ca<|fJ b 0 100,()),())) none) none)<|some ((cm ca<|fJ b 0 100,()),()))=some ((p,()),()):=by
  cases (nt<|bt (cm ca<|fJ b 345 155) []) with
  | true =>
    rw[ab,dz (by simp only[plus,len,dd,eB];omega),ab,dz (by simp only[plus,len,app,fQ,dd,eB];omega),ab];exact⟨_,rfl⟩
  | false=>exact⟨_,rfl⟩
 obtain⟨p,q⟩:=c;rw[q,aa,o1 b a,aa];dsimp only;rw[i,aa,o2 b a,aa];dsimp only;rw[j,aa,o3 b a,aa];dsimp only;rw[k,aa,o4 b a,aa];dsimp only;rw[l,aa,o5 b a,aa];dsimp only;rw[m,aa,o7 b a,aa];exact aeT _ _
theorem SR(r:aq)(n:Nat)(v:r.length<=10000):∃p d f,bJ ((),rd r (n:Int),())=some ((p,d,()),f,()) /\
  ((d=false/\∃b,f=zX (n:Int) b)\/(d=true/\Hn p.1 256/\p.2.1.length<=r.length/\n<64/\∃h,f=rd h ((n+1:Nat):Int)/\h.length+512<=r.length)):=by
 by_cases a:r.length<512
 .exact⟨_,_,_,Kd r n a,.inl ⟨rfl,_,rfl⟩⟩
 by_cases i:∀x∈r.take 512,x=0
 .exact⟨_,_,_,Fv r n (by omega) (by omega) i,.inl ⟨rfl,_,rfl⟩⟩
 have e:=λb=>DY r (n:Int) b;have j:(r.take 512).length=512:=by rw[fB];omega
 obtain⟨x,l,m,o⟩:=WR (r.take 512) j;have s:(r.drop 512).length=r.length-512:=kx;unfold bJ;dsimp only[rd] at e⊢;rw[aA,aw,ab,ae,aB (by rw[bz];omega),ae,aR (by decide) (by decide) (by rw[bz];omega),ab,show sub r 0 (minus 512 0)=r.take 512 from gn r 512];rw[J0 (r.take 512)<|by omega,aa];dsimp only;rw[cJ<|λq=>i q.2,ae,ab,m,aa,aR (by decide) (by rw[bz];omega) (re _),ab,show sub r 512 (minus (len r) 512)=r.drop 512 from mD r 512 (by omega)];dsimp only;by_cases g:l=0
 case neg =>
  rw[aE g,aw,ab,e,aa];exact⟨_,_,_,rfl,.inl ⟨rfl,_,rfl⟩⟩
 rw[aJ g,aA,ae];have c:=o g;obtain⟨t,w⟩:=c.2.2.2.1;obtain⟨k,u⟩:=Zz t;rw[u];by_cases y:(r.drop 512).length<k
 .rw[aK<|by rw[bz];omega,ab,e,aa];exact⟨_,_,_,rfl,.inl ⟨rfl,_,rfl⟩⟩
 .have z:=SM k;rw[aB<|by rw[bz];omega,ae,SN k (by omega),aa,en (by omega) (by omega)];dsimp only;by_cases A:(r.drop 512).length<k+mg k
  .rw[aK<|by rw[bz];omega,ab,e,aa];exact⟨_,_,_,rfl,.inl ⟨rfl,_,rfl⟩⟩
  .rw[aB<|by rw[bz];omega,ae];by_cases B:64<=n
   .rw[b6<|by omega,ab,e,aa];exact⟨_,_,_,rfl,.inl ⟨rfl,_,rfl⟩⟩
   .rw[eF<|by omega,ae,aa,en (by omega) (by omega),aR (by omega) (by rw[bz];omega) (re _),ab,aR (by omega) (by omega) (by rw[bz];omega),ab];rw[show sub (r.drop 512) 0 (minus (k:Int) 0)=(r.drop 512).take k from gn _ k,show(k:Int)+(mg k:Int)=((k+mg k:Nat):Int) by omega,mD _ (k+mg k) (by omega),aL (by omega)];refine⟨_,_,_,rfl,.inr ⟨rfl,c,?_,by omega,_,rfl,?_⟩⟩
    .dsimp only;rw[fB];omega
    .rw[kx];omega
theorem Ke{h:Hd}(k:Hn h 256):h.1.length<=300/\h.2.2.2.2.2.2.2.1.length<=300:=by
 obtain⟨_,_,_,_,_,⟨_,b,_⟩,a⟩:=k;refine⟨by omega,?_⟩;rcases a with ⟨_,e⟩|⟨_,e,_⟩|⟨_,⟨_,e,_⟩,_⟩
 .rw[e];simp
 .rw[e];simp
 .omega
def RdP(p:Pt):Prop:=p.1.1.length<=300/\p.1.2.2.2.2.2.2.2.1.length<=300/\p.2.1.length<=8192
theorem YC:∀(m n:Nat) (r:aq) (out:List Pt) (p:Pt),r.length<=m->r.length<=8192->out.length+1=n->n<=64->(∀q∈out++[p],RdP q) ->
  ∃(c:List Pt) (e:Pt) (b:Int×Bool),Loop gK (((),(),true,()),p,out,rd r (n:Int),())=some (((),(),false,()),e,c,zX b.1 b.2,())/\c.length<=64/\∀q∈c,RdP q:=by
 intro m;induction m using Nat.strongRecOn with
 | _ m j =>
   intro n r out p z A B k f;obtain⟨g,l,s,t,u⟩:=SR r n (by omega);have d:=NQ p out (rd r (n:Int)) (by omega) t;rcases u with ⟨rfl,b,rfl⟩|⟨rfl,v,C,D,h,rfl,E⟩
   .refine⟨out++[p],g,((n:Int),b),?_,by rw[fQ];simp;omega,f⟩;rw[aN,d];show Loop _ _=_
    rw[aN,uo];rfl
   .have i:=Ke v;obtain⟨o,e,b,w,x,y⟩:=j h.length (by omega) (n+1) h (out++[p]) g (cg _) (by omega) (by rw[fQ];simp;omega) (by omega) (λq a=>by
     rcases pO.1 a with a|a
     .exact f q a
     .rw[wO] at a;subst a;exact⟨i.1,i.2,by omega⟩)
    exact⟨o,e,b,by rw[aN,d];exact w,x,y⟩
theorem abA(s:aq):∃l e,eD (s,())=some (l,e,())/\l.length<=64/\(∀q∈l,RdP q)/\(e=0\/(e=10/\l=[])):=by
 by_cases g:8192<s.length
 .exact⟨_,_,NR s g,by simp,λq a=>(by cases a),.inr ⟨rfl,rfl⟩⟩
 obtain⟨p,t,u,h,i⟩:=SR s 0 (by omega);have fin:∀(b:Int×Bool) (o:List Pt),(af (gQ ((),zX b.1 b.2,())) λc=>aj c.1.1 (some (([]:List Pt),(10:Int),())) (some (o,(0:Int),())))=some (if b.2=true then(([]:List Pt),(10:Int),()) else(o,(0:Int),())):=λb o=>by
  obtain⟨v,j⟩:=b;cases j<;>rfl
 unfold eD;dsimp only;rw[aB<|by rw[bz];omega,show bJ ((),(true,s,(0:Int),false,false,()),())=_ from h,aa];dsimp only;rcases i with ⟨rfl,b,rfl⟩|⟨rfl,k,w,x,d,rfl,y⟩
 .rw[aN,uo];show ∃l e,(af (gQ ((),zX _ _,())) λc=>aj c.1.1 (some (([]:List Pt),(10:Int),())) (some (([]:List Pt),(0:Int),())))=_/\_
  rw[fin (_,_)];cases b with
  | true=>exact⟨_,_,rfl,by simp,λq a=>(by cases a),.inr ⟨rfl,rfl⟩⟩
  | false=>exact⟨_,_,rfl,by simp,λq a=>(by cases a),.inl rfl⟩
 .have f:=Ke k;obtain⟨o,z,b,m,n,r⟩:=YC d.length 1 d [] p (cg _) (by omega) rfl (by omega) (λq a=>by
   rw[sW,wO] at a;subst a;exact⟨f.1,f.2,by omega⟩)
  rw[show Loop gK (((),(),true,()),p,([]:List Pt),rd d ((0+1:Nat):Int),())=_ from m,aa];dsimp only;rw[fin b o];cases A:b.2 with
  | true=>exact⟨_,_,rfl,by simp,λq a=>(by cases a),.inr ⟨rfl,rfl⟩⟩
  | false=>exact⟨_,_,rfl,n,r,.inl rfl⟩
set_option maxRecDepth 100000
end Go.Ge
namespace Go.Ge
variable [Lp]
abbrev Nd:=aq×Int×Int×aq×aq×ai
theorem H7{a b:Int}:(cu a b=true)↔a<=b:=by
 constructor
 .intro h;rcases Int.lt_or_le b a with g|g
  .rw[eF g] at h;cases h
  .exact g
 .exact b6
theorem tZ{a b:Int}:cu a b=decide (a<=b):=by
 rw[Ey,H7,kQ]
theorem Vo{p:aq}(q:p≠[]):((j6 p).2=0/\(j6 p).1=p)↔((parts p).all qh=true/\(parts p).length<=8/\p.length<=96):=by
 constructor
 .rintro⟨a,c⟩;obtain⟨d,i⟩:=Yn a;obtain⟨j,k,g⟩:=pI d;have e:aG (names p)=p:=by rw[<-i,c]
  have l:parts p=names p:=by
   have:=Gy p;rw[e] at this;exact this
  rw[l];refine⟨j,k,?_⟩;rw[e] at g;exact g
 .rintro⟨a,c,d⟩;have m:∀x∈parts p,l9 x=true:=λx b=>by
   have:=ra.1 a x b;unfold qh at this;have:=gM this;unfold l9;refine dI ⟨λe=>?_,this.1⟩;subst e;exact absurd this.2.2.1 (by decide)
  have h:names p=parts p:=Ew.2 m;have f:aG (names p)=p:=by rw[h,fh]
  have n:p.head?≠some 47:=by
   rw[<-f];exact Vf λx b=>⟨(uj p x b).1,(uj p x b).2.1⟩
  have o:kH p=true:=by
   unfold kH;rw[f,h];simp[a,c,d,n]
  unfold j6;rw[aQ o];exact⟨rfl,f⟩
def u0(p:aq):Bool:=decide (p≠[])&&(parts p).all qh&&decide ((parts p).length<=8)&&decide (p.length<=92)&&decide ((bg p).2.length<=28)&&decide ((kt (bg p).2).1=0)
theorem Vp(p:aq)(g:p.length<=4096):r8 (p,())=some (u0 p,()):=by
 unfold r8;dsimp only;rw[NL p g,aa,pj p (by omega),aa];dsimp only;rw[SF,aa];dsimp only;rw[jF,jF,jF,jF,jF]
 congr 2
 rw[Ey];unfold u0;by_cases a:p=[]
 .subst a;simp[bt,nt]
 .have f:=Vo a;simp only[dv,kQ,aX,bt,Se,H7,len,jL,GS];constructor
  .rintro⟨⟨⟨⟨b,c⟩,k⟩,l,m⟩,h⟩;obtain⟨d,e,i⟩:=f.1 ⟨b,c⟩;exact⟨⟨⟨⟨⟨a,d⟩,e⟩,by omega⟩,by omega⟩,h⟩
  .rintro⟨⟨⟨⟨⟨_,d⟩,e⟩,i⟩,n⟩,j⟩;obtain⟨b,c⟩:=f.2 ⟨d,e,by omega⟩;exact⟨⟨⟨⟨b,c⟩,a⟩,by omega,by omega⟩,j⟩
def NS(n:Nd):Bool:=if n.2.1=1 then decide (n.2.2.2.2.1=[]/\n.2.2.2.1.length<=8192) else if n.2.1=2 then decide (n.2.2.2.2.1=[]/\n.2.2.2.1=[]) else if n.2.1=3 then decide (n.2.2.2.1=[]/\n.2.2.2.2.1≠[]/\n.2.2.2.2.1.length<=100/\0∉n.2.2.2.2.1) else false
def eP(n:Nd):Bool:=u0 n.1&&decide (0<=n.2.2.1)&&decide (n.2.2.1<=4095)&&NS n
theorem Mc(s:aq)(c:UInt8):cN (s,u8 c,())=some (Lib.indexByte s c,()):=by
 have:(show Int from u8 c).toNat.toUInt8=c:=by simp[u8]
 unfold cN eX;dsimp only;rw[this];rfl
theorem WS(n:Nd)(g:n.1.length<=4096):xA (n,())=some (eP n,()):=by
 obtain⟨p,k,m,d,l,u⟩:=n;unfold xA eP NS;dsimp only;rw[Vp p g,aa];dsimp only;have i:aY m 0=!decide (0<=m):=by unfold aY;by_cases h:m<0<;>simp[h]<;>omega
 have j:aY 4095 m=!decide (m<=4095):=by unfold aY;by_cases h:4095<m<;>simp[h]<;>omega
 rw[i,j];cases u0 p with
 | false=>rfl
 | true =>
   cases decide (0<=m) with
   | false=>rfl
   | true =>
     cases decide (m<=4095) with
     | false=>rfl
     | true =>
       simp only[aA,aw,ab,ae,QT,QU];by_cases a:k=1
       .subst a;simp only[aX,Bw,ab,ky,bt,tZ,len,jF]
        congr 2
        rw[Ey];simp;intro _;omega
       .rw[show aX k 1=false by simp[aX,a],ae,aM a];by_cases b:k=2
        .subst b;simp only[aX,Bw,ab,ky,bt,tZ,len,jF]
         congr 2
         rw[Ey];simp
        .rw[show aX k 2=false by simp[aX,b],ae,aM b];by_cases c:k=3
         .subst c;rw[show aX 3 3=true by rfl,ab,aQ rfl,jF,jF,show((l,(0:Int),()):aq×Int×ai)=(l,u8 0,()) by rfl,Mc,aa];dsimp only;have o:aY (Lib.indexByte l 0) 0=decide (0∉l):=BM l;rw[o];by_cases hd:d=[]
          .by_cases e:l=[]
           .subst hd e;rfl
           .by_cases f:l.length<=100
            .simp[bt,hd,e,tZ,len,nt,aj,af,f,show(l.length:Int)<=100 by omega]
            .simp[bt,hd,e,tZ,len,nt,aj,af,f,show ¬(l.length:Int)<=100 by omega]
          .simp[bt,hd,aj,af]
         .rw[show aX k 3=false by simp[aX,c],ae,aM c]
theorem Vq(s:aq)(n:s.length<=1048576):qk (s,())=some (decide<|s≠[]/\s.length<=100/\0∉s,()):=by
 unfold qk;rcases ko (f:=ma (s,())) s (λi=>((false,i,()),())) (λ_ x=>decide (x=0)) (λi x=>(1,(false,(i:Int),()),())) ((0:Nat),(false,(s.length:Int),()),()) (by omega) (λi x c d g=>by
  unfold ma;dsimp only;rw[ak d,ab,ao c,aa,aga,hJ,g];by_cases j:x=0<;>simp[j]) (by unfold ma;dsimp only;rw[ay,ae]) with ⟨i,x,c,k,_,h⟩|⟨l,h⟩
 .rw[h,aa,ed,ae];have:x=0:=gM k;subst this;have a:(0:UInt8)∈s:=bp.2 ⟨i,c⟩;rw[cJ<|by rintro⟨_,_,h⟩;exact h a]
 .rw[h,aa,bO,ab,jF];have a:(0:UInt8)∉s:=λa=>by
   obtain⟨i,d⟩:=bp.1 a;have:=l i 0 d;exact absurd this (by decide)
  congr 2
  rw[Ey];simp only[dv,H7,len,kQ];constructor
  .rintro⟨b,m⟩;exact⟨λe=>by rw[e] at b;simp at b,by omega,a⟩
  .rintro⟨b,m,_⟩;exact⟨by have:=Ir.2 b;omega,by omega⟩
theorem vS(n:Nd)(r:n.1.length<=4096)(s:n.2.2.2.2.1.length<=4096):ku (n,())=some (eP n,()):=by
 obtain⟨p,k,m,d,l,u⟩:=n;unfold ku eP NS;dsimp only at r s⊢;rw[tP p r,aa];dsimp only;rw[GB,aa,NK p (by omega),Vq l (by omega)];simp only[aa,jF];have e0:(aj (nt<|bt p []) (some<|(parts p).all qh&&decide ((parts p).length<=8)&&decide (p.length<=96)) (some false):Option Bool)=some (decide (p≠[])&&(parts p).all qh&&decide ((parts p).length<=8)&&decide (p.length<=96)):=by
  by_cases h:p=[]
  .subst h;rfl
  .simp[bt,h,aj,nt]
 rw[e0,aa];have t:((((((decide (p≠[])&&(parts p).all qh&&decide ((parts p).length<=8)&&decide (p.length<=96))&&cu (len p) 92)&&cu (len (bg p).2) 28)&&aX (kt (bg p).2).1 0)&&cu 0 m)&&cu m 4095)=(u0 p&&decide (0<=m)&&decide (m<=4095)):=by
  rw[Ey];unfold u0;simp only[dv,H7,len,aX,kQ];constructor
  .rintro⟨⟨⟨⟨⟨⟨⟨⟨a,b⟩,e⟩,x⟩,v⟩,w⟩,f⟩,g⟩,i⟩;exact⟨⟨⟨⟨⟨⟨⟨a,b⟩,e⟩,by omega⟩,by omega⟩,f⟩,g⟩,i⟩
  .rintro⟨⟨⟨⟨⟨⟨⟨a,b⟩,e⟩,v⟩,w⟩,f⟩,g⟩,i⟩;exact⟨⟨⟨⟨⟨⟨⟨⟨a,b⟩,e⟩,by omega⟩,by omega⟩,by omega⟩,f⟩,g⟩,i⟩
 simp only[t];generalize (u0 p&&decide (0<=m)&&decide (m<=4095))=c;by_cases j:k=1
 .subst j;rw[show aX 1 1=true by rfl,ab,aQ rfl]
  congr 2
  rw[Bool.and_assoc]
  congr 1
  rw[Ey];simp[bt,tZ,len];intro _;omega
 .rw[show aX k 1=false by simp[aX,j],ae,aM j];by_cases o:k=2
  .subst o;rw[show aX 2 2=true by rfl,ab,aQ rfl]
   congr 2
   rw[Bool.and_assoc]
   congr 1
   rw[Ey];simp[bt]
  .rw[show aX k 2=false by simp[aX,o],ae,aM o];by_cases q:k=3
   .subst q;rw[show aX 3 3=true by rfl,ab,aQ rfl];cases c with
    | false=>rfl
    | true =>
      by_cases hd:d=[]
      .simp[bt,hd,aj,af]
      .simp[bt,hd,aj,af]
   .rw[show aX k 3=false by simp[aX,q],ae,aM q,V8]
def Sm(n:Nd):Prop:=n.1.length<=200/\n.2.2.2.2.1.length<=300/\n.2.2.2.1.length<=8192
def y5(l:List Nd):Prop:=l.length<=4096/\∀x∈l,Sm x
def key(n:Nd):List aq:=parts n.1
def cmp(n:Nd)(p:aq):Int:=cmpL (parts n.1) (parts p)
theorem y5.at{l:List Nd}(h:y5 l){i:Nat}{x:Nd}(a:l[i]?=some x):Sm x:=h.2 x (dY a)
theorem y5.take{l:List Nd}(h:y5 l)(k:Nat):y5 (l.take k):=⟨by rw[fB];have:=h.1;omega,λx a=>h.2 x (CO a)⟩
theorem Kf(n:Nd)(p:aq)(a:n.1.length<=4096)(b:p.length<=4096):la (n,p,())=some (cmp n p,()):=by
 unfold la;dsimp only;rw[Gz _ _ a b,aa];rfl
theorem adj{a b:Nat}(f:a<=1048576)(g:b<=1048576):jC .i64 (mu .u64 (jC .u64<|aF .i64 (a:Int) (b:Int)) 1)=(((a+b) / 2:Nat):Int):=by
 rw[en (by omega)<|by omega,acW (by omega) (by omega)];have e:mu .u64 ((a:Int)+(b:Int)) 1=(((a+b) / 2:Nat):Int):=by
  unfold mu;rw[show(1:Int).toNat=1 from rfl];have c:((a:Int)+b).fdiv 2=((a:Int)+b) / 2:=adR _ (by omega);have d:(2:Int) ^ min 1 IntKind.u64.bits=2:=by decide
  simp[d,c]
 rw[e,yc (by omega) (by omega)]
theorem YD(l:List Nd)(p:aq)(t:y5 l)(z:p.length<=4096):∀(n lo hi:Nat),hi-lo<=n->lo<=hi->hi<=l.length ->
  ∃k:Nat,lo<=k/\k<=hi/\Loop (iM (l,p,())) (((lo:Int),(hi:Int),()),())=some (((k:Int),(k:Int),()),()) /\
   ((∀(i j:Nat) (x y:Nd),i<=j->l[i]?=some x->l[j]?=some y->cmp y p<0->cmp x p<0)->(∀(j:Nat) (y:Nd),j<lo->l[j]?=some y->cmp y p<0)->(∀(j:Nat) (y:Nd),hi<=j->l[j]?=some y->¬cmp y p<0) ->
    (∀(j:Nat) (y:Nd),j<k->l[j]?=some y->cmp y p<0)/\(∀(j:Nat) (y:Nd),k<=j->l[j]?=some y->¬cmp y p<0)):=by
 intro n;induction n with
 | zero =>
   intro lo hi A B g;obtain rfl:hi=lo:=by omega
   refine⟨hi,cg _,cg _,?_,λ_ a b=>⟨a,b⟩⟩;rw[aN];unfold iM;dsimp only;rw[aB<|re _,ae];rfl
 | succ n m =>
   intro lo hi A B g;by_cases h:hi=lo
   .subst h;exact m hi hi (by omega) (cg _) g
   .have D:=t.1;have C:(lo+hi) / 2<l.length:=by omega
    obtain⟨x,f⟩:∃x,l[(lo+hi) / 2]?=some x:=⟨_,fN C⟩;have e:iM (l,p,()) (((lo:Int),(hi:Int),()),())=some (.inl<|if cmp x p<0 then(((((lo+hi) / 2+1:Nat):Int),(hi:Int),()),()) else(((lo:Int),(((lo+hi) / 2:Nat):Int),()),())):=by
     unfold iM;dsimp only;rw[aK<|by omega,ab,aB (by decide),ae,adj (by omega) (by omega),ao f,aa,Kf x p (by have:=(t.at f).1;omega) z,aa];dsimp only;rw[aL<|by omega];by_cases d:cmp x p<0
     .rw[aK d,aQ d];rfl
     .rw[aB<|by omega,aM d];rfl
    rw[aN,e];by_cases d:cmp x p<0
    .obtain⟨k,u,v,o,q⟩:=m ((lo+hi) / 2+1) hi (by omega) (by omega) g;refine⟨k,by omega,v,by rw[aQ d];exact o,λa b c=>q a (λj y w r=>?_) c⟩;exact a j ((lo+hi) / 2) y x (by omega) r f d
    .obtain⟨k,u,v,o,q⟩:=m lo ((lo+hi) / 2) (by omega) (by omega) (by omega);refine⟨k,u,by omega,by rw[aM d];exact o,λa b c=>q a b λj y w r s=>d (a _ _ x y w f r s)⟩
def Ord(l:List Nd):Prop:=∀(i j:Nat) (x y:Nd),i<j->l[i]?=some x->l[j]?=some y->cmpL (key x) (key y)<0
theorem Ord.mono{l:List Nd}(h:Ord l)(p:aq):∀(i j:Nat) (x y:Nd),i<=j->l[i]?=some x->l[j]?=some y->cmp y p<0->cmp x p<0:=by
 intro i j x y d b a c;rcases sY i j with g|g
 .exact rp (h i j x y g b a) c
 .obtain rfl:i=j:=by omega
  rw[b] at a;obtain rfl:=aI a;exact c
theorem Ord.take{l:List Nd}(h:Ord l)(k:Nat):Ord (l.take k):=λi j x y c a b=>by
 rw[fi] at a b;split at a
 .split at b
  .exact h i j x y c a b
  .cases b
 .cases a
structure Plc (l:List Nd) (p:aq) (k:Nat) (b:Bool):Prop where
 le:k<=l.length
 lo:∀(j:Nat) (y:Nd),j<k->l[j]?=some y->cmp y p<0
 hi:∀(j:Nat) (y:Nd),k<=j->l[j]?=some y->¬cmp y p<0
 is:b=true->∃x,l[k]?=some x/\x.1=p
 no:b=false->∀x∈l,x.1≠p
theorem SS{n:Nd}{p:aq}(h:cmp n p=0):n.1=p:=by
 have:=X2 h;rw[<-fh n.1,this,fh]
theorem Kg{n:Nd}{p:aq}(h:n.1=p):cmp n p=0:=by subst h;exact lC _
theorem A1(l:List Nd)(p:aq)(r:y5 l)(s:p.length<=4096):∃(k:Nat) (b:Bool),dV (l,p,())=some ((k:Int),b,())/\k<=l.length/\(b=true->k<l.length)/\(Ord l->Plc l p k b):=by
 obtain⟨k,_,m,v,w⟩:=YD l p r s l.length 0 l.length (by omega) (by omega) (cg _);have f:Loop (iM (l,p,())) ((0,len l,()),())=some (((k:Int),(k:Int),()),()):=v;have a:=λ(h:Ord l)=>w (h.mono p) (λj y c=>by omega) (λj y c i=>by have:=aD i;omega);by_cases o:k<l.length
 .obtain⟨x,d⟩:∃x,l[k]?=some x:=⟨_,fN o⟩;refine⟨k,decide (cmp x p=0),?_,m,λ_=>o,λh=>⟨m,(a h).1,(a h).2,λn=>⟨x,d,SS (gM n)⟩,λn y i e=>?_⟩⟩
  .unfold dV;dsimp only;rw[f,aa];dsimp only;rw[ak o,ab,ao d,aa,Kf x p (by have:=(r.at d).1;omega) s,aa];rfl
  .obtain⟨j,c⟩:=bp.1 i;have t:=Kg e;have q:=Ln n;rcases MW j k with g|g|g
   .have:=(a h).1 j y g c;omega
   .subst g;rw[d] at c;obtain rfl:=aI c;exact q t
   .have u:=h k j x y g d c;rw[show key y=parts p by unfold key;rw[e]] at u;exact(a h).2 k x (cg _) d u
 .obtain rfl:k=l.length:=by omega
  refine⟨l.length,false,?_,m,λh=>(by cases h),λh=>⟨m,(a h).1,(a h).2,λh=>(by cases h),λn y i e=>?_⟩⟩
  .unfold dV;dsimp only;rw[f,aa];dsimp only;rw[ay,ae]
  .obtain⟨j,c⟩:=bp.1 i;have t:=Kg e;have:=(a h).1 j y (aD c) c;omega
def Dir(l:List Nd)(d:aq)(e:Int):Prop:=(d=[]/\e=0)\/(d≠[]/\(((∀x∈l,x.1≠d)/\e=3)\/∃x∈l,x.1=d/\((x.2.1=2/\e=0)\/(x.2.1≠2/\e=12))))
theorem WT(l:List Nd)(d:aq)(m:y5 l)(n:d.length<=4096):∃e,mO (l,d,())=some (e,())/\(Ord l->Dir l d e):=by
 unfold mO;dsimp only;by_cases c:d=[]
 .subst c;exact⟨0,rfl,λ_=>.inl ⟨rfl,rfl⟩⟩
 .rw[bj c,ae];obtain⟨k,b,o,r,p,g⟩:=A1 l d m n;rw[o,aa];dsimp only;cases b with
  | false =>
    rw[aw,ab];exact⟨3,rfl,λh=>.inr ⟨c,.inl ⟨(g h).no rfl,rfl⟩⟩⟩
  | true =>
    have q:=p rfl;obtain⟨x,f⟩:∃x,l[k]?=some x:=⟨_,fN q⟩;rw[aA,ae,ao f,aa];have i:Ord l->x.1=d:=λh=>by
     obtain⟨y,j,e⟩:=(g h).is rfl;rw[f] at j;rw[aI j,e]
    by_cases a:x.2.1=2
    .refine⟨0,?_,λh=>.inr ⟨c,.inr ⟨x,dY f,i h,.inl ⟨a,rfl⟩⟩⟩⟩;rw[aJ a];rfl
    .refine⟨12,?_,λh=>.inr ⟨c,.inr ⟨x,dY f,i h,.inr ⟨a,rfl⟩⟩⟩⟩;rw[show aX x.2.1 2=false by simp[aX,a]];rfl
theorem zY(l:List Nd)(p:aq)(c:y5 l):(∃(i:Nat) (x:Nd),l[i]?=some x/\x.1=p/\gD (l,p,())=some ((i:Int),()))\/((∀x∈l,x.1≠p)/\gD (l,p,())=some (-1,())):=by
 unfold gD;rcases ko (f:=oU (l,p,())) l (λi=>((0,i,()),())) (λ_ x=>decide (x.1=p)) (λi x=>(1,((i:Int),(i:Int),()),())) ((0:Nat),(0,(l.length:Int),()),()) (by have:=c.1;omega) (λi x a b d=>by
  unfold oU;dsimp only;rw[ak b,ab,ao a,aa,AO,d];by_cases h:x.1=p<;>simp[h,aj]) (by unfold oU;dsimp only;rw[ay,ae]) with ⟨i,x,a,g,_,h⟩|⟨j,h⟩
 .left;refine⟨i,x,a,gM g,?_⟩;rw[h];rfl
 .right;refine⟨λx a e=>?_,by rw[h];rfl⟩;obtain⟨i,b⟩:=bp.1 a;have:=j i x b;simp[e] at this
theorem Kh(l:List Nd)(d:aq)(q:y5 l):∃b,mP (l,d,())=some (b,())/\(b=true->d=[]\/∃x∈l,x.1=d/\x.2.1=2)/\(Ord l->b=false->d≠[]/\∀x∈l,x.1=d->x.2.1≠2):=by
 unfold mP;dsimp only;by_cases f:d=[]
 .subst f;rcases zY l [] q with ⟨i,x,a,c,h⟩|⟨_,h⟩<;>rw[h,aa]<;>exact⟨true,rfl,λ_=>.inl rfl,λ_ h=>by cases h⟩
 .rcases zY l d q with ⟨i,x,a,c,h⟩|⟨s,h⟩
  .rw[h,aa,bj f,aw,ab];dsimp only;rw[b6<|by omega,ab,ao a,aa,aa,aa];refine⟨_,rfl,λn=>.inr ⟨x,dY a,c,gM n⟩,λr n=>⟨f,λy t o u=>?_⟩⟩;have p:=Ln n;obtain⟨j,m⟩:=bp.1 t;have k:key x=key y:=by unfold key;rw[c,o]
   rcases MW i j with g|g|g
   .have:=r i j x y g a m;rw[k,lC] at this;omega
   .subst g;rw[a] at m;obtain rfl:=aI m;exact p u
   .have:=r j i y x g m a;rw[k,lC] at this;omega
  .rw[h,aa,bj f,aw,ab];exact⟨false,rfl,λh=>(by cases h),λ_ _=>⟨f,λx a e=>absurd e (s x a)⟩⟩
structure Valid (l:List Nd):Prop where
 few:l.length<=64
 ord:Ord l
 may:∀x∈l,eP x=true
 up:∀x∈l,(bg x.1).1=[]\/∃y∈l,y.1=(bg x.1).1/\y.2.1=2
theorem Ki(p:aq):(bg p).1.length<=p.length:=by
 rcases pH p with ⟨_,h⟩|⟨a,b,c,_,h⟩
 .rw[h];simp
 .rw[h,c];simp
theorem u5{p:aq}(h:(bg p).1≠[]):parts p=parts (bg p).1++[(bg p).2]:=by
 rcases pH p with ⟨_,e⟩|⟨a,b,c,d,e⟩
 .rw[e] at h;exact absurd rfl h
 .rw[e] at h⊢;have f:p≠[]:=by rw[c];simp
  unfold parts;rw[aM f,aM h,c];exact zT a b d
theorem Ord.uniq{l:List Nd}(h:Ord l){x y:Nd}(d:x∈l)(f:y∈l)(e:x.1=y.1):x=y:=by
 obtain⟨i,b⟩:=bp.1 d;obtain⟨j,a⟩:=bp.1 f;have c:key x=key y:=by unfold key;rw[e]
 rcases MW i j with g|g|g
 .have:=h i j x y g b a;rw[c,lC] at this;omega
 .subst g;rw[b] at a;exact aI a
 .have:=h j i y x g a b;rw[c,lC] at this;omega
theorem Kj{l:List Nd}(h:∀(k:Nat) (x y:Nd),l[k]?=some x->l[k+1]?=some y->cmpL (key x) (key y)<0):Ord l:=by
 have run:∀(d i:Nat) (x y:Nd),l[i]?=some x->l[i+1+d]?=some y->cmpL (key x) (key y)<0:=by
  intro d;induction d with
  | zero=>intro i x y b a;exact h i x y b a
  | succ d e =>
    intro i x y b a;have g:=aD a;obtain⟨z,c⟩:∃z,l[i+1+d]?=some z:=⟨_,fN (by omega)⟩;exact rp (e i x z b c) (h (i+1+d) z y c a)
 intro i j x y f b a;exact run (j-i-1) i x y b (by rw[show i+1+(j-i-1)=j by omega];exact a)
def BN(l:List Nd)(i:Nat)(x:Nd):Bool:=match i with
 | 0=>false
 | k+1=>match l[k]? with
   | some y=>decide (0<=cmpL (key y) (key x))
   | none=>false
theorem yo{l:List Nd}{k:Nat}{x y:Nd}(a:l[k]?=some y):BN l (k+1) x=decide (0<=cmpL (key y) (key x)):=by
 show(match l[k]? with|some y=>decide (0<=cmpL (key y) (key x))|none=>false)=_
 rw[a]
noncomputable def SU(l:List Nd)(d:aq):Int:=match mO (l,d,()) with
 | some y=>y.1
 | none=>0
theorem Kk(l:List Nd)(d:aq)(b:y5 l)(c:d.length<=4096):mO (l,d,())=some (SU l d,())/\(Ord l->Dir l d (SU l d)):=by
 obtain⟨e,a,f⟩:=WT l d b c;have:SU l d=e:=by unfold SU;rw[a]
 rw[this];exact⟨a,f⟩
noncomputable def GD(l:List Nd)(d:aq):Bool:=match mP (l,d,()) with
 | some y=>y.1
 | none=>false
theorem Fw(l:List Nd)(d:aq)(b:y5 l):mP (l,d,())=some (GD l d,())/\(GD l d=true->d=[]\/∃x∈l,x.1=d/\x.2.1=2)/\(Ord l->GD l d=false->d≠[]/\∀x∈l,x.1=d->x.2.1≠2):=by
 obtain⟨e,a,c,f⟩:=Kh l d b;have:GD l d=e:=by unfold GD;rw[a]
 rw[this];exact⟨a,c,f⟩
theorem NT{l:List Nd}(h:∀(i:Nat) (x:Nd),l[i]?=some x->BN l i x=false):Ord l:=Kj λk x y a b=>by
 have:=h (k+1) y b;rw[yo a] at this;have:=Ln this;omega
theorem NU{l:List Nd}(h:Ord l){i:Nat}{x:Nd}(a:l[i]?=some x):BN l i x=false:=by
 cases i with
 | zero=>rfl
 | succ k =>
   have c:=aD a;obtain⟨y,b⟩:∃y,l[k]?=some y:=⟨_,fN (by omega)⟩;rw[yo b];have:=h k (k+1) y x (by omega) b a;exact cJ (by omega)
theorem YE{l:List Nd}(h:Ord l){i:Nat}{x y:Nd}(b:l[i]?=some x)(d:y∈l)(f:(bg x.1).1≠[])(e:y.1=(bg x.1).1):y∈l.take i:=by
 obtain⟨j,a⟩:=bp.1 d;have k:cmpL (key y) (key x)=-1:=by
  unfold key;rw[e,u5 f];exact Sf _ _ (by simp)
 rcases sY j i with g|g
 .exact dY (i:=j) (by rw[fi,aQ g];exact a)
 .exfalso;rcases sY i j with c|c
  .have:=rp (h i j x y c b a) (show cmpL (key y) (key x)<0 by omega);rw[lC] at this;omega
  .obtain rfl:i=j:=by omega
   rw[b] at a;obtain rfl:=aI a;rw[lC] at k;omega
theorem po(l:List Nd)(d:y5 l):∃e,e7 (l,())=some (e,())/\(e=0↔Valid l):=by
 unfold e7;dsimp only;have t:aY 64 (len l)=decide (64<l.length):=by unfold aY len;apply gi.2;omega
 rw[t];by_cases C:64<l.length
 .rw[dI C,ab];exact⟨1,rfl,λh=>by omega,λh=>by have:=h.few;omega⟩
 .rw[cJ C,ae];have j:∀{i:Nat} {x:Nd},l[i]?=some x->(bg x.1).1.length<=4096:=λ{i x} hx=>by have:=(d.at hx).1;have:=Ki x.1;omega
  rcases ko (f:=oS (l,())) l (λi=>((0,i,()),())) (λi x=>!eP x||BN l i x||decide (SU (l.take i) (bg x.1).1≠0)) (λi x=>(1,(1,(i:Int),()),())) ((0:Nat),(0,(l.length:Int),()),()) (by have:=d.1;omega) (λi x hx o F=>by
   unfold oS;dsimp only;rw[ak o,ab,ao hx,aa,pj _ (by have:=(d.at hx).1;omega),aa,WS _ (by have:=(d.at hx).1;omega),aa];dsimp only;cases I:eP x with
   | false=>rfl
   | true =>
     rw[aA,ae];have u:inside 0 (i:Int) (len l)=true:=mE (a:=0) (nY _) (by omega);have q:=(Kk (l.take i) (bg x.1).1 (d.take i)<|j hx).1;rw[u,ab,gn,q,aa,F];dsimp only;cases i with
     | zero =>
       rw[aB<|by simp,ae];generalize SU (l.take 0) (bg x.1).1=e;by_cases b:e=0
       .rw[aJ b,aA,ae];simp[BN,b]
       .rw[show aX e 0=false by simp[aX,b],aw,ab];simp[BN,b]
     | succ k =>
       obtain⟨y,g⟩:∃y,l[k]?=some y:=⟨_,fN (by omega)⟩;rw[aK<|by omega,ab,de (by omega) (by omega),show(((k+1:Nat):Int)-1)=(k:Int) by omega,ao g,aa,Gz _ _ (by have:=(d.at g).1;omega) (by have:=(d.at hx).1;omega),aa];dsimp only;rw[tZ];rw[yo g];unfold key;generalize SU (l.take<|k+1) (bg x.1).1=e;by_cases D:0<=cmpL (parts y.1) (parts x.1)
       .rw[dI D,ab];simp
       .rw[cJ D,ae];by_cases b:e=0
        .rw[aJ b,aA,ae];simp[b]
        .rw[show aX e 0=false by simp[aX,b],aw,ab];simp[b]) (by unfold oS;dsimp only;rw[ay,ae]) with ⟨i,x,hx,s,_,h⟩|⟨G,h⟩
  .rw[h,aa,ed,ae];refine⟨1,rfl,λh=>by omega,λp=>?_⟩;rw[p.may x<|dY hx,NU p.ord hx] at s;simp only[QT,yN,kQ] at s;have hd:=(Kk (l.take i) (bg x.1).1 (d.take i)<|j hx).2 (p.ord.take i);rcases hd with ⟨_,e⟩|⟨r,hd⟩
   .exact absurd e s
   .rcases p.up x (dY hx) with H|⟨y,g,c,m⟩
    .exact absurd H r
    .have v:=YE p.ord hx g r c;rcases hd with ⟨w,_⟩|⟨z,b,A,⟨_,e⟩|⟨B,_⟩⟩
     .exact absurd c (w y v)
     .exact absurd e s
     .have:=p.ord.uniq (CO b) g (by rw[A,c]);subst this;exact absurd m B
  .rw[h,aa,bO,ab];have n:∀(i:Nat) (x:Nd),l[i]?=some x->eP x=true/\BN l i x=false/\SU (l.take i) (bg x.1).1=0:=λi x hx=>by
    have:=G i x hx;simp only[vl,FV,GS,V5] at this;exact⟨this.1.1,this.1.2,by simpa using this.2⟩
   have E:Ord l:=NT λi x hx=>(n i x hx).2.1;refine⟨0,rfl,λ_=>⟨by omega,E,λx hx=>?_,λx hx=>?_⟩,λ_=>rfl⟩
   .obtain⟨i,o⟩:=bp.1 hx;exact(n i x o).1
   .obtain⟨i,o⟩:=bp.1 hx;have hd:=(Kk (l.take i) (bg x.1).1 (d.take i)<|j o).2 (E.take i);rw[(n i x o).2.2] at hd;rcases hd with ⟨e,_⟩|⟨_,⟨_,e⟩|⟨y,g,c,⟨m,_⟩|⟨_,e⟩⟩⟩
    .exact .inl e
    .omega
    .exact .inr ⟨y,CO g,c,m⟩
    .omega
theorem rz(l:List Nd)(c:y5 l):∃b,kI (l,())=some (b,())/\(b=true↔Valid l):=by
 unfold kI;dsimp only;have m:aY 64 (len l)=decide (64<l.length):=by unfold aY len;apply gi.2;omega
 rw[m];by_cases q:64<l.length
 .rw[dI q,ab];exact⟨false,rfl,λh=>(by cases h),λh=>by have:=h.few;omega⟩
 .rw[cJ q,ae];rcases ko (f:=r9 (l,())) l (λi=>((false,i,()),())) (λi x=>!eP x||!GD l (bg x.1).1||BN l i x) (λi x=>(1,(false,(i:Int),()),())) ((0:Nat),(false,(l.length:Int),()),()) (by have:=c.1;omega) (λi x a e s=>by
   unfold r9;dsimp only;rw[ak e,ab,ao a,aa,tP _ (by have:=(c.at a).1;omega),aa,aa,vS _ (by have:=(c.at a).1;omega) (by have:=(c.at a).2.1;omega),aa];dsimp only;cases z:eP x with
   | false=>rfl
   | true =>
     rw[aA,ae,(Fw l (bg x.1).1 c).1,aa];dsimp only;cases A:GD l (bg x.1).1 with
     | false=>rfl
     | true =>
       rw[aA,ae,s];cases i with
       | zero=>rw[aB<|by simp,ae];simp[BN]
       | succ k =>
         obtain⟨y,g⟩:∃y,l[k]?=some y:=⟨_,fN (by omega)⟩;rw[aK<|by omega,ab,de (by omega) (by omega),show(((k+1:Nat):Int)-1)=(k:Int) by omega,ao g,aa,aa,zU _ _ (by have:=(c.at g).1;omega) (by have:=(c.at a).1;omega),aa];dsimp only;rw[tZ];rw[yo g];unfold key;by_cases r:0<=cmpL (parts y.1) (parts x.1)
         .rw[dI r,ab];simp
         .rw[cJ r,ae];simp) (by unfold r9;dsimp only;rw[ay,ae]) with ⟨i,x,a,n,_,h⟩|⟨t,h⟩
  .rw[h,aa,ed,ae];refine⟨false,rfl,λh=>(by cases h),λj=>?_⟩;rw[j.may x<|dY a,NU j.ord a] at n;simp only[QT,yN,QV,jL] at n;obtain⟨u,v⟩:=(Fw l (bg x.1).1 c).2.2 j.ord n;rcases j.up x (dY a) with w|⟨y,g,o,p⟩
   .exact absurd w u
   .exact absurd p (v y g o)
  .rw[h,aa,bO,ab];have d:∀(i:Nat) (x:Nd),l[i]?=some x->eP x=true/\GD l (bg x.1).1=true/\BN l i x=false:=λi x a=>by
    have:=t i x a;simp only[vl,FV] at this;exact⟨this.1.1,this.1.2,this.2⟩
   refine⟨true,rfl,λ_=>⟨by omega,NT λi x a=>(d i x a).2.2,λx a=>?_,λx a=>?_⟩,λ_=>rfl⟩
   .obtain⟨i,e⟩:=bp.1 a;exact(d i x e).1
   .obtain⟨i,e⟩:=bp.1 a;exact(Fw l (bg x.1).1 c).2.1 (d i x e).2.1
theorem takeWhile_eq{b:Type}{P:b->Bool}:∀{l:List b} {k:Nat},k<=l.length->(∀(j:Nat) (y:b),j<k->l[j]?=some y->P y=true)->(∀y,l[k]?=some y->P y=false)->l.takeWhile P=l.take k/\l.dropWhile P=l.drop k:=by
 intro l;induction l with
 | nil=>intro k d _ _;simp
 | cons a r g =>
   intro k d e f;cases k with
   | zero =>
     have:=f a rfl;simp[Is,Im,this]
   | succ k =>
     have h:=e 0 a (by omega) rfl;obtain⟨i,m⟩:=g (k:=k) (by simpa using d) (λj y n c=>e (j+1) y (by omega) c) (λy c=>f y c);simp[Is,Im,h,i,m]
theorem DZ{b S R:Type}{f:S->Option (S⊕R)}(l:List b)(a:b->Bool)(e:Int->Int->List b->S)(g:Int->List b->R)(A:l.length<=4294967296)
  (c:∀(w j:Nat) (L:List b) (x:b),l[j]?=some x->L[j]?=some x->w<=j->j<L.length->aF .i64 (w:Int) 1=((w+1:Nat):Int)->aF .i64 (j:Int) 1=((j+1:Nat):Int) ->
   f (e (w:Int) (j:Int) L)=some (.inl<|if a x=true then e (w:Int) ((j+1:Nat):Int) L else e ((w+1:Nat):Int) ((j+1:Nat):Int) (L.set w x)))
  (h:∀(w:Nat) (L:List b),f (e (w:Int) (L.length:Int) L)=some (.inr<|g (w:Int) L)) :
  ∀(n w j:Nat) (L:List b),l.length-j<=n->w<=j->j<=l.length->L.length=l.length->L.take w=(l.take j).filter (λx=>!a x)->L.drop j=l.drop j ->
   ∃(w':Nat) (L':List b),Loop f (e (w:Int) (j:Int) L)=some (g (w':Int) L')/\L'.length=l.length/\w'<=l.length/\L'.take w'=l.filter (λx=>!a x):=by
 intro n;induction n with
 | zero =>
   intro w j L v q u d i o;obtain rfl:j=L.length:=by omega
   refine⟨w,L,?_,d,by omega,?_⟩
   .rw[aN,h];rfl
   .rw[i,d,wQ]
 | succ n r =>
   intro w j L v q u d i o;by_cases y:j=l.length
   .exact r w j L (by omega) q u d i o
   .have s:j<L.length:=by omega
    have hx:l[j]?=some l[j]:=fN (by omega);have t:L[j]?=some l[j]:=by
     have:=congrArg (λz=>z[0]?) o;simpa [mn,hx] using this
    have k:L.drop (j+1)=l.drop (j+1):=by
     have:=congrArg (List.drop 1) o;simpa [vm] using this
    have m:l.take (j+1)=l.take j++[l[j]]:=by rw[Be,hx];rfl
    rw[aN,c w j L l[j] hx t q s (aL<|by omega) (aL<|by omega)];by_cases p:a l[j]=true
    .rw[aQ p];exact r w (j+1) L (by omega) (by omega) (by omega) d (by rw[i,m,Iv];simp[p]) k
    .rw[aM p];refine r (w+1) (j+1) (L.set w l[j]) (by omega) (by omega) (by omega) (by simpa using d) ?_ ?_
     .rw[m,Iv,<-i,Be,List.take_set_of_le (cg w)];simp[p,show w<L.length by omega]
     .rw[List.drop_set_of_lt<|by omega];exact k
theorem zZ{a:Type}(L:List a)(w:Nat)(b:w<=L.length)(m:List a):sub (over L (w:Int) m) 0 (minus (w:Int) 0)=L.take w:=by
 rw[gn];unfold over;rw[qZ,kR,TN (by rw[fB];omega),Bs,ZY]
theorem D0{a:Type}(L:List a)(w:Nat)(b:w<=L.length)(z:a):len (over L (w:Int)<|jN (minus (len L) (w:Int)) z)=(L.length:Int):=by
 unfold over jN minus len;simp;omega
theorem filter_one{b:Type}{l:List b}{P:b->Bool}{k:Nat}{x:b}(d:l[k]?=some x)(f:P x=false)(h:∀(j:Nat) (y:b),j≠k->l[j]?=some y->P y=true):l.filter P=l.take k++l.drop (k+1):=by
 have g:=aD d;have e:l=l.take k++x::l.drop (k+1):=by
  conv=>lhs;rw[<-uu k l,wM g]
  rw[(fq.1 d).2]
 conv=>lhs;rw[e]
 rw[Iv,ZR,f];have i:(l.take k).filter P=l.take k:=Ew.2 λy c=>by
  obtain⟨j,a⟩:=bp.1 c;rw[fi] at a;split at a
  .exact h j y (by omega) a
  .cases a
 have m:(l.drop<|k+1).filter P=l.drop (k+1):=Ew.2 λy c=>by
  obtain⟨j,a⟩:=bp.1 c;rw[mn] at a;exact h (k+1+j) y (by omega) a
 rw[i,m];simp
def sO(l:List Nd)(n:Nd):List Nd:=l.takeWhile (λx=>decide (cmp x n.1<0))++n::l.dropWhile (λx=>decide (cmp x n.1<0))
def gone(p:aq)(x:Nd):Bool:=decide (x.1=p)||cd (parts x.1) (parts p)
def mh(l:List Nd)(p:aq):List Nd:=l.filter λx=>!gone p x
theorem Ord.filter{l:List Nd}(h:Ord l)(P:Nd->Bool):Ord (l.filter P):=by
 have c:l.Pairwise λx y=>cmpL (key x) (key y)<0:=by
  rw[Bb];intro i j d e a;exact h i j _ _ a (fN d) (fN e)
 have b:=c.filter P;rw[Bb] at b;intro i j x y a f g;obtain⟨k,m⟩:=fq.1 f;obtain⟨n,o⟩:=fq.1 g;rw[<-m,<-o];exact b i j k n a
theorem y5.filter{l:List Nd}(h:y5 l)(P:Nd->Bool):y5 (l.filter P):=⟨gj (MS _ _) h.1,λx a=>h.2 x (we.1 a).1⟩
theorem adk{l:List Nd}{n:Nd}{k:Nat}{b:Bool}(h:Plc l n.1 k b):sO l n=l.take k++[n]++l.drop k:=by
 obtain⟨c,d⟩:=takeWhile_eq (P:=λx=>decide (cmp x n.1<0)) h.le (λj y e a=>dI (h.lo j y e a)) (λy a=>cJ (h.hi k y (cg _) a));unfold sO;rw[c,d];simp
theorem Kl{l:List Nd}(q:Valid l){p:aq}(v:p≠[])(w:∀x∈l,x.1≠p):∀(m:Nat) (x:Nd),x∈l->(parts x.1).length<=m->cd (parts x.1) (parts p)=false:=by
 intro m;induction m with
 | zero =>
   intro x i j;unfold cd;exact cJ (by omega)
 | succ m z =>
   intro x i j;cases r:cd (parts x.1) (parts p) with
   | false=>rfl
   | true =>
     exfalso;unfold cd at r;obtain⟨s,h⟩:=gM r;have c:=q.may x i;unfold eP u0 at c;simp only[dv,kQ] at c;by_cases d:(bg x.1).1=[]
     .have f:=c.1.1.1.1.1.1.1.2;have t:(parts x.1).length<=1:=by
       rcases pH x.1 with ⟨a,_⟩|⟨a,b,A,D,e⟩
       .unfold parts;split
        .simp
        .rw[nB _ a];simp
       .rw[e] at d;have d:a=[]:=d;subst d;have:qh []=true:=ra.1 f [] (by
         unfold parts;rw[A,aM (by simp)];show []∈cc ([]++47::b)
         rw[Cz []<|by simp];simp)
        exact absurd this (by decide)
      have:parts p=[]:=wN.1 (by omega);have:=fh p;rw[‹parts p=[]›] at this;exact v this.symm
     .have k:=u5 d;rcases q.up x i with e|⟨y,u,n,B⟩
      .exact absurd e d
      .rw[<-n] at k;rw[k] at s h;have o:(parts p).length<=(parts y.1).length:=by simp at s;omega
       rw[TN o] at h;rcases sY (parts p).length (parts y.1).length with g|g
       .have:=z y u (by rw[k] at j;simp at j;omega);unfold cd at this;exact absurd ⟨g,h⟩ (Ln this)
       .have C:parts p=parts y.1:=by rw[<-h,Bd (by omega)]
        refine w y u ?_;rw[<-fh y.1,<-C,fh]
theorem Vr{l:List Nd}(c:Valid l){p:aq}(d:p≠[])(a:∀x∈l,x.1≠p):mh l p=l:=Ew.2 λx b=>by
 unfold gone;rw[Kl c d a _ x b<|cg _,cJ (a x b)];rfl
open Classical in
noncomputable def bC(l:List Nd)(n:Nd):List Nd×Int :=
 if ¬Valid l\/eP n=false then([],1) else
 if(bg n.1).1≠[]/\∀x∈l,x.1≠(bg n.1).1 then([],3) else
 if(bg n.1).1≠[]/\∀x∈l,x.1=(bg n.1).1->x.2.1≠2 then([],12) else
 let r:=if(∃x∈l,x.1=n.1/\x.2.1=2)/\n.2.1=2 then l.filter (λx=>!decide (x.1=n.1)) else mh l n.1
 if 64<=r.length then([],5) else(sO r n,0)
theorem WU{n:Nd}(h:eP n=true):n.1≠[]:=by
 unfold eP u0 at h;simp only[dv,kQ] at h;exact h.1.1.1.1.1.1.1.1
theorem adl(l:List Nd)(k:Nat)(n:Nd)(b:k<=l.length)(d:l.length<=4096):aS l ((k:Int),[n],())=some (l.take k++[n]++l.drop k):=by
 unfold aS E4;dsimp only;have c:inside 0 (k:Int) (len l)=true:=mE (a:=0) (nY _) b;rw[c,bD (by simp;omega)];simp
theorem SV(r:List Nd)(n:Nd)(a:y5 r)(d:Ord r)(j:n.1.length<=200)(c:Int)(e:c=r.length) :
  aj (cu 64 c) (some (([]:List Nd),(5:Int),())) (af (dV (r,n.1,())) λ(y:Int×Bool×ai)=>af (aS r (y.1,[n],())) λz=>some (z,(0:Int),())) =
   some (if 64<=r.length then([],5,()) else(sO r n,0,())):=by
 subst e;rw[tZ];by_cases h:64<=r.length
 .rw[dI<|by omega,ab,aQ h]
 .rw[cJ<|by omega,ae,aM h];obtain⟨k,b,f,g,l,i⟩:=A1 r n.1 a (by omega);rw[f,aa];dsimp only;rw[adl r k n g a.1,aa,adk (i d)]
theorem SW(x:Nd)(p:aq)(a:x.1.length<=200)(b:p.length<=200):aj (nt<|bt x.1 p) (af (cX (x.1,p,())) λ(y:Bool×ai)=>some y.1) (some true)=some (gone p x):=by
 rw[xz _ _ (by omega)<|by omega,aa,AO];unfold gone;cases decide (x.1=p)<;>rfl
theorem YF(l:List Nd)(n:Nd)(a:y5 l)(c:n.1.length<=200):(∃i x,l[i]?=some x/\gone n.1 x=true/\(∀(j:Nat) y,j<i->l[j]?=some y->gone n.1 y=false)/\Loop (lI (l,n,())) ((0,0,()),(),n.1,())=some (1,((i:Int),(i:Int),()),(),n.1,())) \/
  ((∀(i:Nat) x,l[i]?=some x->gone n.1 x=false)/\Loop (lI (l,n,())) ((0,0,()),(),n.1,())=some (0,(0,(l.length:Int),()),(),n.1,())) :=
 ko (f:=lI (l,n,())) l (λi=>((0,i,()),(),n.1,())) (λ_ x=>gone n.1 x) (λi x=>(1,((i:Int),(i:Int),()),(),n.1,())) (0,(0,(l.length:Int),()),(),n.1,()) (by have:=a.1;omega) (λi x b d e=>by
  unfold lI;dsimp only;rw[ak d,ab,aW (by omega) (by unfold len;omega),ab,ao b,aa,SW _ _ (a.at b).1 c,aa,e];cases gone n.1 x<;>rfl) (by unfold lI;dsimp only;rw[ay,ae])
theorem YG(l:List Nd)(n:Nd)(k:y5 l)(o:n.1.length<=200)(i:Nat)(x:Nd)(b:l[i]?=some x)(p:gone n.1 x=true)(c:∀(j:Nat) y,j<i->l[j]?=some y->gone n.1 y=false) :
  ∃(w:Nat) (L:List Nd),Loop (ox) (((i:Int),aF IntKind.i64 (i:Int) 1,(),()),(),n.1,l,())=some (((w:Int),(l.length:Int),(),()),(),n.1,L,())/\L.length=l.length/\w<=l.length/\L.take w=mh l n.1:=by
 have hi:=aD b;have v:=k.1;have d:l.take i=(l.take<|i+1).filter (λx=>!gone n.1 x):=by
  rw[Be,b,Iv];have e:(l.take i).filter (λx=>!gone n.1 x)=l.take i:=Ew.2 λy q=>by
   obtain⟨j,a⟩:=bp.1 q;rw[fi] at a;split at a
   .rw[c j y (by omega) a];rfl
   .cases a
  rw[e];simp[p]
 obtain⟨w,L,e,m,r,s⟩:=DZ (f:=ox) l (gone n.1) (λw j L=>((w,j,(),()),(),n.1,L,())) (λw L=>((w,(L.length:Int),(),()),(),n.1,L,())) (by omega) (λw j L x b g A a t c=>by
  unfold ox;dsimp only;have h:w<L.length:=by omega
  obtain⟨z,u⟩:∃z,L[w]?=some z:=⟨_,fN h⟩;rw[ak a,ab,aW (by omega) (by unfold len;omega),ab,ao g,aa,SW _ _ (k.at b).1 o,aa,c];cases gone n.1 x with
  | true=>rfl
  | false =>
    rw[aw,ab,aW (by omega) (by unfold len;omega),ab,ao u,aa,aa,aa,aa,t,gm];rfl) (λw L=>by
  unfold ox;dsimp only;rw[ay,ae];rfl) l.length i (i+1) l (by omega) (by omega) (by omega) rfl d rfl
 refine⟨w,L,?_,m,r,s⟩;rw[aL<|by omega,e,m]
theorem SX{l:List Nd}(i:Ord l){n x:Nd}{k:Nat}(f:l[k]?=some x)(e:x.1=n.1):l.filter (λx=>!decide (x.1=n.1))=l.take k++l.drop (k+1)/\sO (l.take k++l.drop (k+1)) n=l.take k++[n]++l.drop (k+1):=by
 have t:=aD f;have c:key x=parts n.1:=by unfold key;rw[e]
 have h:∀(j:Nat) (y:Nd),j<k->l[j]?=some y->cmp y n.1<0:=λj y d a=>by
  have:=i j k y x d a f;rw[c] at this;exact this
 have m:∀(j:Nat) (y:Nd),k<j->l[j]?=some y->¬cmp y n.1<0:=λj y d a q=>by
  have:=i k j x y d f a;rw[c] at this;have:=rp this q;rw[lC] at this;omega
 have b:(l.take k).length=k:=by rw[fB];omega
 constructor
 .refine filter_one f (by rw[dI e];rfl) λj y d a=>?_;rw[cJ];rfl;intro p;have u:=Kg p;rcases sY j k with g|g
  .have:=h j y g a;omega
  .have o:key x=key y:=by rw[c];unfold key;rw[p]
   have:=i k j x y (by omega) f a;rw[o,lC] at this;omega
 .obtain⟨r,s⟩:=takeWhile_eq (l:=l.take k++l.drop (k+1)) (k:=k) (P:=λx=>decide (cmp x n.1<0)) (by rw[fQ,b];omega) (λj y d a=>by
   rw[Ol<|by omega,fi,aQ d] at a;exact dI (h j y d a)) (λy a=>by
   rw[Ij<|by omega,b,Wc,mn] at a;exact cJ (m _ y (by omega) a))
  unfold sO;rw[r,s,F1 b,F0 b];simp
theorem YH{a:Type}{l:List a}{k:Nat}(b:k<l.length)(n:a):l.set k n=l.take k++[n]++l.drop (k+1):=by
 rw[adM,aQ b];simp
theorem GF(l:List Nd)(n:Nd)(m:y5 l)(J:Sm n):ru (l,n,())=some ((bC l n).1,(bC l n).2,()):=by
 obtain⟨e,K,D⟩:=po l m;have o:=J.1;unfold ru;dsimp only;rw[K,aa,WS n (by omega),aa];dsimp only;by_cases c:¬Valid l\/eP n=false
 .have g:bC l n=([],1):=by unfold bC;rw[aQ c]
  rw[g];have:aj (nt<|nt<|aX e 0) (some<|nt<|eP n) (some true)=some true:=by
   rcases c with h|h
   .rw[show aX e 0=false by unfold aX;exact cJ λs=>h (D.1 s)];rfl
   .rw[h];cases nt (nt<|aX e 0)<;>rfl
  rw[this,aa,ab]
 .have hv:Valid l:=by
   by_cases h:Valid l
   .exact h
   .exact absurd (.inl h) c
  have M:eP n=true:=by
   cases h:eP n with
   | true=>rfl
   | false=>exact absurd (.inr h) c
  obtain rfl:=D.2 hv;rw[M];have:aj (nt<|nt<|aX 0 0) (some<|nt true) (some true)=some false:=rfl;rw[this,aa,ae,pj _ (by omega),aa];dsimp only;obtain⟨d,N,O⟩:=WT l (bg n.1).1 m (by have:=Ki n.1;omega);rw[N,aa];dsimp only;by_cases v:(¬((bg n.1).1≠[]/\∀x∈l,x.1≠(bg n.1).1))/\(¬((bg n.1).1≠[]/\∀x∈l,x.1=(bg n.1).1->x.2.1≠2))/\d=0
  .obtain⟨P,Q,B⟩:=v;subst B;have g:bC l n=(let r:=if(∃x∈l,x.1=n.1/\x.2.1=2)/\n.2.1=2 then l.filter (λx=>!decide (x.1=n.1)) else mh l n.1
     if 64<=r.length then([],5) else(sO r n,0)):=by
    unfold bC;rw[aM c,aM P,aM Q]
   rw[show nt (aX 0 0)=false by rfl,ae];obtain⟨k,b,E,p2,p3,R⟩:=A1 l n.1 m (by omega);have p:=R hv.ord;rw[E,aa];dsimp only;obtain⟨z,S,F⟩:∃z,aj b (af (idx l (k:Int)) λ(y:Nd)=>some (aX y.2.1 2)) (some false)=some z/\(aj z (aX n.2.1 2) false=true↔((∃x∈l,x.1=n.1/\x.2.1=2)/\n.2.1=2)):=by
    cases b with
    | false =>
      refine⟨false,rfl,?_⟩;rw[ae];exact⟨λh=>(by cases h),λ⟨⟨x,hx,e,_⟩,_⟩=>absurd e (p.no rfl x hx)⟩
    | true =>
      obtain⟨x,hx,e⟩:=p.is rfl;refine⟨aX x.2.1 2,by rw[ab,ao hx,aa],?_⟩;rw[jF,dv];unfold aX;rw[kQ,kQ];refine⟨λh=>⟨⟨x,dY hx,e,h.1⟩,h.2⟩,λ⟨⟨y,hy,T,C⟩,U⟩=>?_⟩;have:=hv.ord.uniq (dY hx) hy (by rw[e,T]);subst this;exact⟨C,U⟩
   rw[S,aa];by_cases f:(∃x∈l,x.1=n.1/\x.2.1=2)/\n.2.1=2
   .rw[F.2 f,ab];have A:b=true:=by
     cases b with
     | true=>rfl
     | false=>obtain⟨⟨x,hx,e,_⟩,_⟩:=f;exact absurd e (p.no rfl x hx)
    obtain⟨x,hx,e⟩:=p.is A;have V:=aD hx;rw[ja (by have:=m.1;omega),ab,aW (by omega) (by unfold len;omega),ab,ao hx,aa,aa,aa,gm];obtain⟨W,X⟩:=SX hv.ord hx e;have G:=hv.few;rw[aQ f,W] at g;have a:¬64<=(l.take k++l.drop (k+1)).length:=by simp;omega
    rw[g];simp only[a,pR];rw[X,YH V]
   .have Y:aj z (aX n.2.1 2) false=false:=by
     cases h:aj z (aX n.2.1 2) false with
     | false=>rfl
     | true=>exact absurd (F.1 h) f
    rw[aM f] at g;rw[Y,ae,aa];dsimp only;rw[show nt (aX 0 0)=false by rfl,ae,ja (by have:=m.1;omega),ab];rcases YF l n m o with ⟨i,x,hx,v,A,h⟩|⟨A,h⟩
    .obtain⟨w,L,Z,w2,w3,H⟩:=YG l n m o i x hx v A;rw[h,aa];dsimp only;rw[ed,ae,show aX (i:Int) (-1)=false by unfold aX;exact cJ (by omega),ae,Z,aa];dsimp only;rw[aR (by omega) (by unfold len;omega)<|re _,ab,D0 L w (by omega),aR (re _) (by omega) (by omega),ab,zZ L w (by omega),H];have hlen:(mh l n.1).length=w:=by rw[<-H,fB];omega
     refine tn (SV (mh l n.1) n (m.filter _) (hv.ord.filter _) o (minus (w:Int) 0)<|by rw[hlen];unfold minus;omega) ?_;rw[g];by_cases a:64<=(mh l n.1).length
     .rw[aQ a];simp only[a,ky]
     .rw[aM a];simp only[a,pR]
    .have hr:mh l n.1=l:=Ew.2 λx hx=>by
      obtain⟨j,hj⟩:=bp.1 hx;rw[A j x hj];rfl
     rw[hr] at g;rw[h,aa];dsimp only;rw[bO,ab,show aX (-1) (-1)=true by rfl,ab];have I:=SV l n m hv.ord o (len l) rfl;rw[E] at I;refine tn I ?_;rw[g];by_cases a:64<=l.length
     .rw[aQ a];simp only[a,ky]
     .rw[aM a];simp only[a,pR]
  .rcases O hv.ord with ⟨s,t⟩|⟨s,⟨f,t⟩|⟨x,hx,q,⟨u,t⟩|⟨u,t⟩⟩⟩
   .exact absurd ⟨λh=>h.1 s,λh=>h.1 s,t⟩ v
   .subst t;have g:bC l n=([],3):=by unfold bC;rw[aM c,aQ ⟨s,f⟩]
    rw[g];rfl
   .exact absurd ⟨λh=>h.2 x hx q,λh=>h.2 x hx q u,t⟩ v
   .subst t;have g:bC l n=([],12):=by
     unfold bC;rw[aM c,aM (λh=>h.2 x hx q),aQ ⟨s,λy hy e=>by
      have:=hv.ord.uniq hx hy (by rw[q,e]);subst this;exact u⟩]
    rw[g];rfl
def gv(l:List Nd)(p:aq)(b:Bool):List Nd:=l.filter λx=>!cd (parts x.1) (parts p)&&(!b||!decide (x.1=p))
theorem z6(l:List Nd)(p:aq)(b:Bool)(d:y5 l)(g:p.length<=4096):iN (l,p,b,())=some (gv l p b,()):=by
 unfold iN;have q:=d.1;have c:∀m:List Nd,m.flatMap (λx=>if(!cd (parts x.1) (parts p)&&(!b||!decide (x.1=p)))=true then [x] else [])=gv m p b:=by
  intro m;unfold gv;induction m with
  | nil=>rfl
  | cons a r j =>
    rw[FX,j,ZR];split<;>simp
 have h:=xq (f:=ia (l,p,b,())) l (λa i=>(((),i,()),a,())) (λx=>if(!cd (parts x.1) (parts p)&&(!b||!decide (x.1=p)))=true then [x] else []) (((),(l.length:Int),()),gv l p b,()) (by omega) (λi x e k n=>by
  unfold ia;dsimp only;have hlen:((l.take i).flatMap λx=>if(!cd (parts x.1) (parts p)&&(!b||!decide (x.1=p)))=true then [x] else []).length<=4096:=by
   rw[c];unfold gv;refine gj (MS _ _) ?_;rw[fB];omega
  rw[ak k,ab,ao e,aa,PF _ _ (by have:=(d.at e).1;omega) g,aa,aa,aa,n,bD (by simp only[Lm];omega)];dsimp only;rw[AO];cases cd (parts x.1) (parts p)<;>cases b<;>cases decide (x.1=p)<;>simp[aj,nt,af,dh,app]) (by
  unfold ia;dsimp only;rw[ay,ae,c];rfl)
 have o:Loop (ia (l,p,b,())) (((),(0:Int),()),([]:List Nd),())=some (((),(l.length:Int),()),gv l p b,()):=h;rw[o,aa]
theorem Md(l:List Nd)(p:aq):gv l p true=mh l p:=by
 unfold gv mh
 congr 1
 funext x;unfold gone;cases cd (parts x.1) (parts p)<;>cases decide (x.1=p)<;>rfl
theorem SY(l r:List Nd)(n:Nd)(g:y5 r)(m:n.1.length<=200):∃k:Nat,k<=r.length/\Loop (j8 (l,n,()) ((r,()),())) (((0:Int),()),())=some (((k:Int),()),())/\sO r n=r.take k++[n]++r.drop k:=by
 have t:=g.1;rcases ko (f:=j8 (l,n,()) ((r,()),())) r (λi=>((i,()),())) (λ_ x=>!decide (cmp x n.1<0)) (λi _=>(((i:Int),()),())) (((r.length:Int),()),()) (by omega) (λi x b o p=>by
  unfold j8;dsimp only;rw[ak o,ab,ao b,aa,zU _ _ (by have:=(g.at b).1;omega) (by omega),aa,p];dsimp only;unfold cmp aY;cases decide (cmpL (parts x.1) (parts n.1)<0)<;>rfl) (by
  unfold j8;dsimp only;rw[ay,ae];rfl) with ⟨i,x,b,q,s,h⟩|⟨m,h⟩
 .refine⟨i,by have:=aD b;omega,h,?_⟩;obtain⟨d,e⟩:=takeWhile_eq (l:=r) (k:=i) (P:=λx=>decide (cmp x n.1<0)) (by have:=aD b;omega) (λj y c a=>by
   have:=s j y c a;simpa using this) (λy a=>by
   rw[b] at a;obtain rfl:=aI a;simpa using q)
  unfold sO;rw[d,e];simp
 .refine⟨r.length,cg _,h,?_⟩;obtain⟨d,e⟩:=takeWhile_eq (l:=r) (k:=r.length) (P:=λx=>decide (cmp x n.1<0)) (cg _) (λj y c a=>by
   have:=m j y a;simpa using this) (λy a=>by
   have:=aD a;omega)
  unfold sO;rw[d,e];simp
theorem z7(l r:List Nd)(n:Nd)(c:y5 r)(e:n.1.length<=200) :
  aj (cu 64<|len r) (some (([]:List Nd),(5:Int),())) (af (Loop (j8 (l,n,()) ((r,()),())) (((0:Int),()),())) λ(b:(Int×ai)×ai)=>aj (inside 0 b.1.1<|len r)
   (aj (fits<|plus (len ([]:List Nd))<|len<|sub r 0<|minus b.1.1 0)
   (aj (fits<|plus (len<|app ([]:List Nd)<|sub r 0<|minus b.1.1 0)<|len [n])
   (aj (inside b.1.1 (len r)<|len r)
   (aj (fits<|plus (len<|app (app ([]:List Nd)<|sub r 0<|minus b.1.1 0) [n])<|len<|sub r b.1.1<|minus (len r) b.1.1)
   (some (app (app (app ([]:List Nd)<|sub r 0<|minus b.1.1 0) [n])<|sub r b.1.1<|minus (len r) b.1.1,(0:Int),()))
   none) none) none) none) none)=some (if 64<=r.length then([],5,()) else(sO r n,0,())):=by
 have q:=c.1;rw[tZ];by_cases h:64<=r.length
 .rw[dI<|by unfold len;omega,ab,aQ h]
 .rw[cJ<|by unfold len;omega,ae,aM h];obtain⟨k,d,f,g⟩:=SY l r n c e;rw[f,aa];dsimp only;have i:inside 0 (k:Int) (len r)=true:=mE (a:=0) (nY _) d;have j:inside (k:Int) (len r) (len r)=true:=aR (by omega) (by unfold len;omega) (re _);rw[i,ab,gn,mD r k d,j];have m:fits (plus (len ([]:List Nd))<|len<|r.take k)=true:=bD (by rw[fB];simp;omega);have o:fits (plus (len<|app ([]:List Nd)<|r.take k)<|len [n])=true:=bD (by rw[ye,sW,fB];simp;omega);have p:fits (plus (len<|app (app ([]:List Nd)<|r.take k) [n])<|len<|r.drop k)=true:=bD (by rw[ye,ye,sW,fQ,fB,kx];simp;omega);rw[m,o,p,ab,ab,ab,ab,g];rfl
theorem z8(l:List Nd)(n:Nd)(k:y5 l)(G:Sm n):mQ (l,n,())=some ((bC l n).1,(bC l n).2,()):=by
 obtain⟨e,L,H⟩:=rz l k;have q:=G.1;have W:=k.1;unfold mQ;dsimp only;rw[L,aa,vS n (by omega) (by have:=G.2.1;omega),aa];dsimp only;by_cases c:¬Valid l\/eP n=false
 .have g:bC l n=([],1):=by unfold bC;rw[aQ c]
  rw[g];have:aj (nt<|nt e) (some<|nt<|eP n) (some true)=some true:=by
   rcases c with h|h
   .rw[show e=false by
     cases e with
     | false=>rfl
     | true=>exact absurd (H.1 rfl) h]
    rfl
   .rw[h];cases nt (nt e)<;>rfl
  rw[this,aa,ab]
 .have hv:Valid l:=by
   by_cases h:Valid l
   .exact h
   .exact absurd (.inl h) c
  have I:eP n=true:=by
   cases h:eP n with
   | true=>rfl
   | false=>exact absurd (.inr h) c
  obtain rfl:=H.2 hv;rw[I];have:aj (nt<|nt true) (some<|nt true) (some true)=some false:=rfl;rw[this,aa,ae,tP _ (by omega),aa];dsimp only;obtain⟨s,M,J⟩:∃s,aj (nt<|bt (bg n.1).1 []) (af (gD (l,(bg n.1).1,())) λ(y:Int×ai)=>some (aY y.1 0)) (some false)=some s/\(s=true↔((bg n.1).1≠[]/\∀x∈l,x.1≠(bg n.1).1)):=by
   by_cases v:(bg n.1).1=[]
   .refine⟨false,by rw[v];rfl,λh=>(by cases h),λh=>absurd v h.1⟩
   .rw[bj v,aw,ab];rcases zY l (bg n.1).1 k with ⟨i,x,o,j,h⟩|⟨m,h⟩
    .refine⟨false,by rw[h,aa,aB (by omega)],λh=>(by cases h),λh=>absurd j (h.2 x<|dY o)⟩
    .exact⟨true,by rw[h,aa];rfl,λ_=>⟨v,m⟩,λ_=>rfl⟩
  rw[M,aa];by_cases t:(bg n.1).1≠[]/\∀x∈l,x.1≠(bg n.1).1
  .have g:bC l n=([],3):=by unfold bC;rw[aM c,aQ t]
   rw[J.2 t,g];rfl
  .have:s=false:=by
    cases s with
    | false=>rfl
    | true=>exact absurd (J.1 rfl) t
   rw[this,ae];obtain⟨d,N,O,P⟩:=Kh l (bg n.1).1 k;rw[N,aa];dsimp only;by_cases u:(bg n.1).1≠[]/\∀x∈l,x.1=(bg n.1).1->x.2.1≠2
   .have g:bC l n=([],12):=by unfold bC;rw[aM c,aM t,aQ u]
    have:d=false:=by
     cases d with
     | false=>rfl
     | true =>
       rcases O rfl with h|⟨x,o,w,z⟩
       .exact absurd h u.1
       .exact absurd z (u.2 x o w)
    rw[this,g];rfl
   .have:d=true:=by
     cases d with
     | true=>rfl
     | false=>exact absurd (P hv.ord rfl) u
    rw[this,show nt true=false by rfl,ae];have g:bC l n=(let r:=if(∃x∈l,x.1=n.1/\x.2.1=2)/\n.2.1=2 then l.filter (λx=>!decide (x.1=n.1)) else mh l n.1
      if 64<=r.length then([],5) else(sO r n,0)):=by
     unfold bC;rw[aM c,aM t,aM u]
    rcases zY l n.1 k with ⟨i,x,o,j,h⟩|⟨m,h⟩
    .have hi:=aD o;have p:=dY o;rw[h,aa];dsimp only;rw[b6<|by omega,ab,ao o,aa,aa];by_cases f:x.2.1=2/\n.2.1=2
     .obtain⟨K,X⟩:=SX hv.ord o j;rw[aQ<|show((∃x∈l,x.1=n.1/\x.2.1=2)/\n.2.1=2) from⟨⟨x,p,j,f.1⟩,f.2⟩,K] at g;have Q:inside 0 (i:Int) (len l)=true:=mE (a:=0) (nY _) (by omega);have R:inside ((i+1:Nat):Int) (len l) (len l)=true:=aR (by omega) (by unfold len;omega) (re _);rw[aJ f.1,aJ f.2,ab,ab,Q,ab,gn,aL (by omega),R,mD l (i+1) (by omega)];have S:fits (plus (len ([]:List Nd))<|len<|l.take i)=true:=bD (by rw[fB];simp;omega);have T:fits (plus (len<|app ([]:List Nd)<|l.take i)<|len<|l.drop<|i+1)=true:=bD (by rw[ye,sW,fB,kx];omega);rw[S,T,ab,ab,ab,aa];dsimp only;have U:y5 (l.take i++l.drop (i+1)):=by rw[<-K];exact k.filter _
      refine tn (z7 l (l.take i++l.drop (i+1)) n U q) ?_;rw[g];by_cases b:64<=(l.take i++l.drop (i+1)).length
      .rw[aQ b];simp only[b,ky]
      .rw[aM b];simp only[b,pR]
     .have V:aj (aX x.2.1 2) (aX n.2.1 2) false=false:=by
       unfold aX;by_cases A:x.2.1=2
       .rw[dI A,ab];exact cJ λB=>f ⟨A,B⟩
       .rw[cJ A,ae]
      rw[aM (show ¬((∃x∈l,x.1=n.1/\x.2.1=2)/\n.2.1=2) from λh=>by
       obtain⟨⟨y,C,D,E⟩,B⟩:=h;have:=hv.ord.uniq p C (by rw[j,D]);subst this;exact f ⟨E,B⟩)] at g
      rw[V,ae,z6 l n.1 true k (by omega),Md];simp only[aa,ab];refine tn (z7 l (mh l n.1) n (k.filter _) q) ?_;rw[g];by_cases b:64<=(mh l n.1).length
      .rw[aQ b];simp only[b,ky]
      .rw[aM b];simp only[b,pR]
    .have F:¬((∃x∈l,x.1=n.1/\x.2.1=2)/\n.2.1=2):=λ⟨⟨y,C,D,_⟩,_⟩=>m y C D;rw[aM F,Vr hv (WU I) m] at g;rw[h,aa];dsimp only;rw[show cu 0 (-1)=false by rfl];simp only[aa,ae];refine tn (z7 l l n k q) ?_;rw[g];by_cases b:64<=l.length
     .rw[aQ b];simp only[b,ky]
     .rw[aM b];simp only[b,pR]
def abB:Nd:=([],0,0,[],[],())
def findF(l:List Nd)(p:aq):Nd×Bool×ai:=match l.find? λx=>decide (x.1=p) with
 | some x=>(x,true,())
 | none=>(abB,false,())
theorem Km{l:List Nd}{p:aq}(h:∀x∈l,x.1≠p):findF l p=(abB,false,()):=by
 unfold findF;rw[QH.2 λx a=>by simp[h x a]]
theorem CD{l:List Nd}(c:Ord l){p:aq}{x:Nd}(b:x∈l)(e:x.1=p):findF l p=(x,true,()):=by
 unfold findF;cases h:l.find? λx=>decide (x.1=p) with
 | none=>have:=QH.1 h x b;simp[e] at this
 | some y =>
   have a:=QS h;have d:=Qy h;have a:y.1=p:=by simpa using a
   have:=c.uniq b d (by rw[e,a]);subst this;rfl
theorem YI(l:List Nd)(p:aq)(d:y5 l)(g:p.length<=4096)(c:Valid l):vM (l,p,())=some (findF l p):=by
 obtain⟨e,h,i⟩:=po l d;obtain rfl:=i.2 c;obtain⟨k,b,j,n,o,m⟩:=A1 l p d g;have a:=m c.ord;unfold vM;dsimp only;rw[h,aa];dsimp only;rw[show nt (aX 0 0)=false by rfl,ae,j,aa];dsimp only;cases b with
 | false=>rw[aw,ab,Km (a.no rfl)];rfl
 | true =>
   obtain⟨x,f,e⟩:=a.is rfl;rw[aA,ae,ao f,aa,CD c.ord (dY f) e]
def adm:List Nd->Bool
 | a::b::r=>decide (cmpL (key a) (key b)<0)&&adm (b::r)
 | _=>true
theorem abC:∀{l:List Nd},adm l=true->Ord l:=by
 intro l h;refine Kj ?_;induction l with
 | nil=>intro k x y c;simp at c
 | cons a r e =>
   cases r with
   | nil=>intro k x y c d;simp at d
   | cons b r =>
     simp only[adm,dv,kQ] at h;intro k x y c d;cases k with
     | zero =>
       obtain rfl:a=x:=by simpa using c
       obtain rfl:b=y:=by simpa using d
       exact h.1
     | succ k=>exact e h.2 k x y c d
def Kn(l:List Nd):Bool:=decide (l.length<=64)&&adm l&&l.all eP&&l.all λx=>decide ((bg x.1).1=[])||l.any λy=>decide (y.1=(bg x.1).1)&&decide (y.2.1=2)
theorem yp{l:List Nd}(h:Kn l=true):Valid l:=by
 unfold Kn at h;simp only[dv,kQ] at h;refine⟨h.1.1.1,abC h.1.1.2,λx a=>ra.1 h.1.2 x a,λx a=>?_⟩;have:=ra.1 h.2 x a;simp only[wc,kQ,FZ,dv] at this;exact this
def nD:Nd:=([100],2,493,[],[],())
def nA:Nd:=([100,47,97],1,420,[120],[],())
theorem Vs:Kn []=true/\Kn [nD]=true/\Kn [nD,nA]=true:=by decide +kernel
theorem Me(l:List Nd)(a:l.length<=4294967296):tQ (l,l,())=some (true,()):=by
 unfold tQ;dsimp only;rw[iZ,aA,ae];rcases ko (f:=oT (l,l,())) l (λi=>((false,i,()),())) (λ_ _=>false) (λi x=>(1,(false,(i:Int),()),())) ((0:Nat),(false,(l.length:Int),()),()) a (λi x b c d=>by
  unfold oT;dsimp only;rw[ak c,ab,ab,ao b,aa,aa,kT,kT,kT,iZ,iZ,d];rfl) (by unfold oT;dsimp only;rw[ay,ae,ae]) with ⟨i,x,_,e,_⟩|⟨g,h⟩
 .cases e
 .rw[h];rfl
set_option synthInstance.maxHeartbeats 200000 in
set_option synthInstance.maxSize 4000 in
instance ajq:DecidableEq Nd:=inferInstance
theorem NV(a:Nd)(r:List Nd)(n:Nd):sO (a::r) n=if cmp a n.1<0 then a::sO r n else n::a::r:=by
 unfold sO;by_cases h:cmp a n.1<0
 .rw[aQ h,Is,Im];simp[h]
 .rw[aM h,Is,Im];simp[h]
theorem sP{r:List Nd}{n x:Nd}:x∈sO r n↔x=n\/x∈r:=by
 induction r with
 | nil=>simp[sO]
 | cons a r b =>
   rw[NV];split
   .rw[fP,b,fP];constructor
    .rintro(h|h|h)
     .exact .inr (.inl h)
     .exact .inl h
     .exact .inr (.inr h)
    .rintro(h|h|h)
     .exact .inr (.inl h)
     .exact .inl h
     .exact .inr (.inr h)
   .rw[fP]
theorem abD(r:List Nd)(n:Nd):(sO r n).length=r.length+1:=by
 unfold sO;rw[fQ,dd,<-xP,<-fQ,Ii]
theorem Fx{l:List Nd}:Ord l↔l.Pairwise λx y=>cmpL (key x) (key y)<0:=by
 constructor
 .intro h;rw[Bb];intro i j b c a;exact h i j _ _ a (fN b) (fN c)
 .intro h i j x y a d e;rw[Bb] at h;obtain⟨f,g⟩:=fq.1 d;obtain⟨k,m⟩:=fq.1 e;rw[<-g,<-m];exact h i j f k a
theorem abE{r:List Nd}{n:Nd}(c:Ord r)(d:∀x∈r,x.1≠n.1):Ord (sO r n):=by
 rw[Fx] at c⊢;induction r with
 | nil=>simp[sO]
 | cons a r g =>
   rw[FW] at c;rw[NV];split
   .rename_i h;refine FW.2 ⟨λy b=>?_,g c.2 λx i=>d x (by simp[i])⟩;rcases sP.1 b with rfl|b
    .exact h
    .exact c.1 y b
   .rename_i h;have f:cmpL (key n) (key a)<0:=by
     have j:cmp a n.1≠0:=λe=>d a (by simp) (SS e);have k:cmpL (key n) (key a)=- cmpL (key a) (key n):=aaZ _ _;have l:cmp a n.1=cmpL (key a) (key n):=rfl;omega
    refine FW.2 ⟨λy b=>?_,FW.2 c⟩;rcases fP.1 b with rfl|b
    .exact f
    .exact rp f (c.1 y b)
theorem Ko{x y:Nd}{p:aq}(b:(bg x.1).1≠[])(e:y.1=(bg x.1).1)(h:cd (parts y.1) (parts p)=true):cd (parts x.1) (parts p)=true:=by
 have a:=u5 b;rw[<-e] at a;unfold cd at h⊢;obtain⟨d,c⟩:=gM h;refine dI ⟨?_,?_⟩
 .rw[a,fQ];omega
 .rw[a,TN (by omega),c]
theorem CE{x:Nd}(b:(bg x.1).1≠[]):cd (parts x.1) (parts (bg x.1).1)=true:=by
 have a:=u5 b;unfold cd;refine dI ⟨?_,?_⟩
 .rw[a,fQ];simp
 .rw[a];simp
def H8(l:List Nd)(n:Nd)(r:List Nd):Prop :=
 (((∃x∈l,x.1=n.1/\x.2.1=2)/\n.2.1=2)/\r=l.filter λx=>!decide (x.1=n.1))\/((¬((∃x∈l,x.1=n.1/\x.2.1=2)/\n.2.1=2))/\r=mh l n.1)
theorem Kp(l:List Nd)(n:Nd):((bC l n).1=[]/\(bC l n).2≠0) \/
  (Valid l/\eP n=true/\((bg n.1).1=[]\/∃x∈l,x.1=(bg n.1).1/\x.2.1=2)/\∃r,H8 l n r/\r.length<64/\bC l n=(sO r n,0)):=by
 unfold bC;by_cases b:¬Valid l\/eP n=false
 .rw[aQ b];exact .inl ⟨rfl,by decide⟩
 .rw[aM b];by_cases c:(bg n.1).1≠[]/\∀x∈l,x.1≠(bg n.1).1
  .rw[aQ c];exact .inl ⟨rfl,by decide⟩
  .rw[aM c];by_cases f:(bg n.1).1≠[]/\∀x∈l,x.1=(bg n.1).1->x.2.1≠2
   .rw[aQ f];exact .inl ⟨rfl,by decide⟩
   .rw[aM f];have hv:Valid l:=Ev λh=>b (.inl h);have g:eP n=true:=by
     cases h:eP n with
     | true=>rfl
     | false=>exact absurd (.inr h) b
    have i:(bg n.1).1=[]\/∃x∈l,x.1=(bg n.1).1/\x.2.1=2:=by
     by_cases j:(bg n.1).1=[]
     .exact .inl j
     .right;refine Ev λh=>f ⟨j,λx k e c=>h ⟨x,k,e,c⟩⟩
    by_cases d:(∃x∈l,x.1=n.1/\x.2.1=2)/\n.2.1=2
    .simp only[aQ d];by_cases a:64<=(l.filter λx=>!decide (x.1=n.1)).length
     .rw[aQ a];exact .inl ⟨rfl,by decide⟩
     .rw[aM a];exact .inr ⟨hv,g,i,_,.inl ⟨d,rfl⟩,by omega,rfl⟩
    .simp only[aM d];by_cases a:64<=(mh l n.1).length
     .rw[aQ a];exact .inl ⟨rfl,by decide⟩
     .rw[aM a];exact .inr ⟨hv,g,i,_,.inr ⟨d,rfl⟩,by omega,rfl⟩
theorem H8.sub{l r:List Nd}{n:Nd}(h:H8 l n r):(∀x∈r,x∈l/\x.1≠n.1)/\∃P,r=l.filter P:=by
 rcases h with ⟨_,rfl⟩|⟨_,rfl⟩
 .refine⟨λx a=>?_,_,rfl⟩;have:=we.1 a;simpa using this
 .refine⟨λx a=>?_,_,rfl⟩;have:=we.1 a;unfold gone at this;simp at this;exact⟨this.1,this.2.1⟩
theorem NW{l r:List Nd}{n:Nd}(o:Valid l)(s:eP n=true)(t:(bg n.1).1=[]\/∃x∈l,x.1=(bg n.1).1/\x.2.1=2)(m:H8 l n r)(u:r.length<64):Valid (sO r n):=by
 obtain⟨c,P,v⟩:=m.sub;have w:Ord r:=by rw[v];exact o.ord.filter P
 refine⟨by rw[abD];omega,abE w λx d=>(c x d).2,λx d=>?_,λx d=>?_⟩
 .rcases sP.1 d with rfl|d
  .exact s
  .exact o.may x (c x d).1
 .rcases sP.1 d with rfl|d
  ·
   rcases t with h|⟨y,j,b,f⟩
   .exact .inl h
   .by_cases i:(bg x.1).1=[]
    .exact .inl i
    .right;refine⟨y,sP.2 (.inr ?_),b,f⟩;have a:=CE i;rw[<-b] at a;have hlen:(parts y.1).length<(parts x.1).length:=by
      unfold cd at a;exact(gM a).1
     have k:y.1≠x.1:=λe=>by rw[e] at hlen;omega
     have p:cd (parts y.1) (parts x.1)=false:=by
      unfold cd;exact cJ λh=>by omega
     rcases m with ⟨_,rfl⟩|⟨_,rfl⟩
     .exact we.2 ⟨j,by simp[k]⟩
     .exact we.2 ⟨j,by unfold gone;simp[k,p]⟩
  .rcases o.up x (c x d).1 with h|⟨y,j,b,f⟩
   .exact .inl h
   .by_cases i:(bg x.1).1=[]
    .exact .inl i
    .right;have a:=CE i;by_cases e:y.1=n.1
     .rcases m with ⟨z,rfl⟩|⟨_,rfl⟩
      .exact⟨n,sP.2 (.inl rfl),by rw[<-e,b],z.2⟩
      .have:=(we.1 d).2;rw[<-b,e] at a;unfold gone at this;rw[a] at this;simp at this
     .refine⟨y,sP.2 (.inr ?_),b,f⟩;rcases m with ⟨_,rfl⟩|⟨_,rfl⟩
      .exact we.2 ⟨j,by simp[e]⟩
      .refine we.2 ⟨j,?_⟩;have g:=(we.1 d).2;unfold gone at g⊢;cases q:cd (parts y.1) (parts n.1) with
       | false=>simp[e]
       | true =>
         rw[Ko i b q] at g;simp at g
def Kq(a:List aq):Prop:=∀x∈a,47∉x/\x≠[]
def fe(m:Int)(p:aq):Nd:=(p,(2:Int),m,([]:aq),([]:aq),())
def dK(a:List aq)(j:Nat):aq:=aG (a.take<|j+1)
def n7(a:List aq)(k:Nat):List Nd:=(List.range k).map λj=>fe 0 (dK a j)
theorem SZ(a:List aq)(k:Nat):n7 a (k+1)=n7 a k++[fe 0<|dK a k]:=by
 unfold n7;rw[List.range_succ,xO];rfl
theorem u6(a:List aq)(k:Nat):(n7 a k).length=k:=by unfold n7;rw[qI,QI]
theorem pq{a:List aq}(h:Kq a){i:Nat}{x:aq}(d:a[i]?=some x):ow (aG<|a.take i) x=dK a i:=by
 have b:a.take (i+1)=a.take i++[x]:=by rw[Be,d];rfl
 have:=J4 [x] (a.take i) (λy c=>by
  rw[<-b] at c;exact h y (CO c))
 unfold dK;rw[b];exact this
theorem Aa:∀(ns:List aq) (k:Nat),(aG<|ns.take k).length<=(aG ns).length:=by
 intro ns;induction ns with
 | nil=>intro k;simp
 | cons x r a =>
   intro k;cases k with
   | zero=>simp[aG]
   | succ k =>
     rw[V3];cases r with
     | nil=>simp
     | cons y r =>
       cases k with
       | zero=>simp[aG]
       | succ k =>
         have:=a (k+1);rw[V3] at this⊢;simp only[aG,fQ,dd] at this⊢;omega
theorem BO:∀(ns:List aq) (x:aq),x∈ns->x.length<=(aG ns).length:=by
 intro ns;induction ns with
 | nil=>intro x c;cases c
 | cons a r d =>
   intro x c;cases r with
   | nil =>
     rw[wO] at c;subst c;simp[aG]
   | cons b r =>
     simp only[aG,fQ,dd];rcases fP.1 c with rfl|c
     .omega
     .have:=d x c;omega
def Fy(a:List aq):Prop:=Kq a/\a.length<=16/\(aG a).length<=200
theorem Fy.oV{a:List aq}(h:Fy a)(k:Nat):(aG<|a.take k).length<=200:=gj (Aa a k) h.2.2
theorem Fy.H9{a:List aq}(h:Fy a){x:aq}(b:x∈a):x.length<=200:=gj (BO a x b) h.2.2
theorem Fy.take{a:List aq}(h:Fy a)(k:Nat):Fy (a.take k):=⟨λx b=>h.1 x (CO b),by rw[fB];have:=h.2.1;omega,h.oV k⟩
theorem GG(a:List aq)(h:Fy a):Loop (gu (a,())) (((),([]:aq),(0:Int),()),([]:List Nd),()) =
  some (((),aG a,(a.length:Int),()),n7 a a.length,()):=by
 obtain⟨t,e,g,_⟩:=xp (f:=gu (a,())) a (λ(s:aq×List Nd) i=>(((),s.1,i,()),s.2,())) (λs i x=>(ow s.1 x,s.2++[fe 0<|ow s.1 x])) (λs=>(((),s.1,(a.length:Int),()),s.2,()))
  (λs i=>s.1=aG (a.take i)/\s.2=n7 a i) (by have:=h.2.1;omega) (λs i x d j b c=>by
   have k:=h.H9 (dY d);have l:=h.oV i;have hlen:=u6 a i;have m:=h.2.1;constructor
   .unfold gu;dsimp only;rw[ak j,ab,ao d,aa,Fe _ _ (by rw[c.1];omega) (by omega),aa,bD (by rw[c.2,hlen];simp only[dd,eB];omega),ab,b];rfl
   .dsimp only;rw[c.1,c.2,pq h.1 d,SZ];exact⟨rfl,rfl⟩) (λs _=>by
   unfold gu;dsimp only;rw[ay,ae];rfl) ([],[]) ⟨by simp[aG],rfl⟩
 rw[g,e.1,e.2,wQ]
def preB(a:List aq)(k:Nat):Bool:=(List.range k).all λj=>eP (fe 0<|dK a j)
theorem Kr{a:List aq}(h:Kq a){j:Nat}(d:j<a.length):(bg<|dK a j).1=aG (a.take j):=by
 have b:a.take (j+1)≠[]:=by
  intro e;have:=congrArg List.length e;rw[fB,eB] at this;omega
 unfold dK;rw[zV (λx c=>h x (CO c)) b];dsimp only;rw[QE,fB,Bs]
 congr 2
 omega
theorem u7{a:List aq}(h:Kq a)(j:Nat):parts (dK a j)=a.take (j+1):=jk _ λx b=>h x (CO b)
theorem rA{a:List aq}(h:Kq a):aG a=[]↔a=[]:=by
 constructor
 .intro e;have:=jk a h;rw[e] at this;exact this.symm
 .rintro rfl;rfl
theorem Vt{a:List aq}(h:Fy a)(f:a≠[]){n:Nd}(p:n.1=aG a) :
  Valid (n7 a (a.length-1)++[n])↔(preB a (a.length-1)=true/\eP n=true):=by
 have v:0<a.length:=Ir.2 f;have d:∀(j:Nat) (x:Nd),(n7 a (a.length-1)++[n])[j]?=some x->x.1=dK a j/\j<a.length/\(j<a.length-1->x=fe 0 (dK a j)):=by
  intro j x b;rw[On,u6] at b;by_cases c:j<a.length-1
  .rw[aQ c] at b;unfold n7 at b;rw[wP,Iq c] at b;obtain rfl:=aI b;exact⟨rfl,by omega,λ_=>rfl⟩
  .rw[aM c] at b;have:j-(a.length-1)=0:=by
    have:=aD b;simp at this;omega
   rw[this] at b;obtain rfl:=aI b;have g:j=a.length-1:=by omega
   refine⟨?_,by omega,λh=>absurd h c⟩;rw[p];unfold dK;rw[g,Bd (by omega)]
 constructor
 .intro m;refine⟨?_,m.may n (by simp)⟩;unfold preB;rw[ra];intro j c;rw[B8] at c;refine m.may _ (mZ _ ?_);unfold n7;exact pQ.2 ⟨j,B8.2 c,rfl⟩
 .rintro⟨k,q⟩;unfold preB at k;rw[ra] at k;refine⟨?_,?_,?_,?_⟩
  .rw[fQ,u6];have:=h.2.1;simp;omega
  .intro i j x y r b s;obtain⟨l,o,_⟩:=d i x b;obtain⟨t,w,_⟩:=d j y s;unfold key;rw[l,t,u7 h.1,u7 h.1];have e:a.take (j+1)=a.take (i+1)++(a.take<|j+1).drop (i+1):=by
    have:=(uu (i+1)<|a.take<|j+1).symm
    rwa [Bs,pb (by omega)] at this
   rw[e,Sf]
   .decide
   .intro u;have:=congrArg List.length u;rw[kx,fB] at this;simp at this;omega
  .intro x b;rcases pO.1 b with b|b
   .obtain⟨j,c,rfl⟩:=pQ.1 b;exact k j c
   .rw[wO] at b;subst b;exact q
  .intro x b;obtain⟨j,c⟩:=bp.1 b;obtain⟨l,o,_⟩:=d j x c;rw[l,Kr h.1 o];cases j with
   | zero=>left;rfl
   | succ j =>
     right;refine⟨fe 0<|dK a j,mZ _ ?_,rfl,rfl⟩;unfold n7;exact pQ.2 ⟨j,B8.2 (by omega),rfl⟩
theorem Ks{a:List aq}(h:Fy a)(b:a≠[]){n:Nd}(f:n.1=aG a)(q:Sm n) :
  dW (n,())=some (preB a (a.length-1)&&eP n,()):=by
 have u:0<a.length:=Ir.2 b;have g:bg n.1=(aG a.dropLast,a.getLast b):=by rw[f];exact zV h.1 b
 have r:=h.oV (a.length-1);have i:a.dropLast=a.take (a.length-1):=QE;have d:Fy (a.take<|a.length-1):=h.take _;have k:parts (aG<|a.take<|a.length-1)=a.take (a.length-1):=jk _ d.1;have l:n7 (a.take<|a.length-1) (a.take<|a.length-1).length=n7 a (a.length-1):=by
  rw[fB,pb (by omega)];unfold n7;apply Il;intro j m;rw[B8] at m;unfold dK;rw[Bs,pb (by omega)]
 unfold dW;dsimp only;rw[pj n.1 (by have:=q.1;omega),aa,g];dsimp only;rw[i,pG _ (by omega),aa,k,GG _ d,aa,l];dsimp only;have o:n.1≠[]:=by rw[f];exact λe=>b ((rA h.1).1 e)
 rw[bj o,aw,ab,bD (by rw[u6];have:=h.2.1;simp only[dd,eB];omega),ab];have p:y5 (n7 a (a.length-1)++[n]):=⟨by rw[fQ,u6];have:=h.2.1;simp;omega,λx c=>by
  rcases pO.1 c with c|c
  .obtain⟨j,m,rfl⟩:=pQ.1 c;rw[B8] at m;exact⟨h.oV<|j+1,by simp[fe],by simp[fe]⟩
  .rw[wO] at c;subst c;exact q⟩
 obtain⟨e,s,t⟩:=po _ p;rw[ye,s,aa];dsimp only;have hv:=Vt h b f;rw[show aX e 0=(preB a (a.length-1)&&eP n) by
  rw[Ey,dv,<-hv,<-t];unfold aX;simp]
theorem adn{n:Nd}(h:eP n=true):eP (fe 0 n.1)=true:=by
 unfold eP at h⊢;simp only[dv] at h⊢;exact⟨⟨⟨h.1.1.1,by simp[fe]⟩,by simp[fe]⟩,by simp[NS,fe]⟩
theorem wC{a:List aq}(h:Fy a):ke (aG a,())=some (preB a a.length&&decide (a≠[]),()):=by
 have f:parts (aG a)=a:=jk _ h.1;have g:=h.oV a.length;rw[wQ] at g;unfold ke;dsimp only;rw[gC _<|by omega,aa,f];have key:∀(d k:Nat),k+d=a.length->(∀j,j<k->eP (fe 0<|dK a j)=true) ->
   ∃r,Loop (fZ (a,())) ((false,aG<|a.take k,(k:Int),()),())=some r/\((r.1=0/\preB a a.length=true)\/(r.1=1/\r.2.1.1=false/\preB a a.length=false)):=by
  intro d;induction d with
  | zero =>
    intro k s b;obtain rfl:k=a.length:=by omega
    refine⟨(0,(false,aG<|a.take a.length,(a.length:Int),()),()),?_,.inl ⟨rfl,?_⟩⟩
    .rw[aN];unfold fZ;dsimp only;rw[ay,ae];rfl
    .unfold preB;rw[ra];exact λj i=>b j (B8.1 i)
  | succ d t =>
    intro k s b;have hx:a[k]?=some a[k]:=fN (by omega);have u:=h.H9 (ZP<|show k<a.length by omega);have v:=h.oV k;have q:=h.oV (k+1);have w:=h.2.1;have step:fZ (a,()) ((false,aG<|a.take k,(k:Int),()),())=some (if eP (fe 0<|dK a k)=true then .inl ((false,dK a k,((k+1:Nat):Int),()),()) else .inr (1,(false,dK a k,(k:Int),()),())):=by
     unfold fZ;dsimp only;have c:=vS (fe 0<|dK a k) (by show(dK a k).length<=4096;unfold dK;omega) (by simp[fe]);unfold fe at c;rw[ak<|show k<a.length by omega,ab,ao hx,aa,yl _ _ (by omega) (by omega),aa,pq h.1 hx,c,aa,aL (by omega)];unfold fe;cases eP (dK a k,(2:Int),(0:Int),([]:aq),([]:aq),())<;>rfl
    by_cases c:eP (fe 0<|dK a k)=true
    .rw[aQ c] at step;obtain⟨r,e,l⟩:=t (k+1) (by omega) (λj i=>by
      by_cases m:j=k
      .rw[m];exact c
      .exact b j (by omega))
     exact⟨r,by rw[aN,step];exact e,l⟩
    .rw[aM c] at step;refine⟨_,by rw[aN,step];rfl,.inr ⟨rfl,rfl,?_⟩⟩;unfold preB;rw[QJ];exact⟨k,B8.2 (by omega),c⟩
 obtain⟨r,e,l⟩:=key a.length 0 (by omega) (λj i=>by omega);have n:Loop (fZ (a,())) ((false,([]:aq),(0:Int),()),())=some r:=by
  have:aG (a.take 0)=[]:=by simp[aG]
  rw[this] at e;exact e
 rw[n,aa];rcases l with ⟨o,p⟩|⟨o,p,x⟩
 .rw[o,show dJ 0 0=true from rfl,ab,p,QU]
  congr 2
  unfold nt bt;rw[Ey];have:=rA h.1;simp[this]
 .rw[o,show dJ 1 0=false from rfl,ae,p,x];rfl
def pK(a:List aq):Bool:=preB a a.length&&decide (a≠[])
theorem PW{a:List aq}(b:a≠[]):preB a a.length=(preB a (a.length-1)&&eP (fe 0<|aG a)):=by
 have c:0<a.length:=Ir.2 b;have e:a.length=a.length-1+1:=by omega
 unfold preB
 conv=>lhs;rw[e]
 rw[List.range_succ,List.all_append];have:dK a (a.length-1)=aG a:=by unfold dK;rw[Bd<|by omega]
 simp[this]
theorem YJ{a:List aq}(b:a≠[]){n:Nd}(c:n.1=aG a):(preB a (a.length-1)&&eP n)=(eP n&&pK a):=by
 unfold pK;rw[PW b,dI b];cases d:eP n with
 | false=>simp
 | true =>
   have:=adn d;rw[c] at this;rw[this];simp
theorem Vu{n:Nd}(b:n.1=[]):dW (n,())=some (false,()):=by
 unfold dW;dsimp only;have a:bg ([]:aq)=([],[]):=by decide
 rw[b,pj _ (by simp),aa,a];dsimp only;rw[pG _<|by simp,aa,show parts []=[] from rfl];have:=GG [] ⟨λx c=>(by cases c),(by simp),(by simp[aG])⟩;rw[this,aa];rfl
theorem NX{b:List aq}(h:Fy b):lf (aG b,())=some (decide (b=[])||pK b,()):=by
 unfold lf;dsimp only;by_cases a:b=[]
 .subst a;rfl
 .have c:aG b≠[]:=λe=>a ((rA h.1).1 e);have d:Sm (fe 0<|aG b):=⟨h.2.2,by simp[fe],by simp[fe]⟩;have:=Ks h a (n:=fe 0 (aG b)) rfl d;unfold fe at this;rw[bj c,aw,ab,this,aa,aa,cJ a,yN];dsimp only;unfold pK;rw[PW a,dI a,ZV];rfl
def ic(p:Pt)(a:aq):Nd:=(a,p.1.2.1,p.1.2.2.1,p.2.1,p.1.2.2.2.2.2.2.2.1,())
def tc(p:Pt):Bool:=decide (p.1.2.1=1)&&decide (p.2.1=[])
def rB(a:List aq):List aq:=a.dropLast++[(kt<|a.getLastD []).2]
def bH(p:Pt):Int×List aq×Bool :=
 if kH p.1.1=true then
  let ns:=names p.1.1
  if(kt<|ns.getLastD []).1=1 then(1,rB ns,tc p&&pK (rB ns))
  else if(kt<|ns.getLastD []).1=2 then(2,ns.dropLast,tc p&&(decide (ns.dropLast=[])||pK ns.dropLast))
  else if(kt<|ns.getLastD []).1=0 then(0,ns,(decide (ns=[])&&decide (p.1.2.1=2))||(eP (ic p<|aG ns)&&pK ns))
  else(0,[],false)
 else(0,[],false)
theorem Ab{s:aq}(h:kH s=true):Fy (names s):=by
 obtain⟨b,c,d⟩:=pI h;exact⟨λx a=>⟨(uj s x a).1,(uj s x a).2.1⟩,by omega,by omega⟩
theorem CF{s:aq}(h:kH s=true):((names s).getLastD []).length<=96:=by
 obtain⟨c,d,e⟩:=pI h;cases b:names s with
 | nil=>simp
 | cons a r =>
   have:(a::r).getLastD []∈names s:=by
    rw[b,ZJ,<-Zv (h:=by simp)];exact List.getLast_mem _
   have:=BO (names s) _ this;omega
theorem vT{c:List aq}(h:Kq c):bg (aG c)=(aG c.dropLast,c.getLastD []):=by
 by_cases b:c=[]
 .subst b;decide
 .rw[zV h b];cases c with
  | nil=>exact absurd rfl b
  | cons a r=>rw[Zv,ZJ]
theorem Kt{n:aq}(h:(kt n).1=1):(kt n).2=n.drop 4/\n.drop 4≠[]:=by
 unfold kt at h⊢;split at h
 .rename_i b;rw[aQ b];split at h
  .cases h
  .rename_i c;rw[aM c];split at h
   .cases h
   .rename_i a;rw[aM a];exact⟨rfl,λe=>a (.inr<|.inl e)⟩
 .cases h
theorem abF{n:aq}(h:(kt n).1≠0):n≠[]:=by
 rintro rfl;exact h (by decide)
theorem Ku(n:aq):(kt n).1=0\/(kt n).1=1\/(kt n).1=2\/(kt n).1=3:=by
 unfold kt;split
 .split
  .exact .inr (.inr<|.inl rfl)
  .split
   .exact .inr (.inr<|.inr rfl)
   .exact .inr (.inl rfl)
 .exact .inl rfl
theorem abG(d n:aq):(ow d n).length<=d.length+n.length+1:=by
 unfold ow;split<;>simp<;>omega
theorem Fz{s:aq}(h:kH s=true)(k:(kt<|(names s).getLastD []).1=1):ow (aG (names s).dropLast) (kt<|(names s).getLastD []).2=aG (rB<|names s)/\Fy (rB<|names s):=by
 have c:=Ab h;obtain⟨e,j⟩:=Kt k;have d:(names s).getLastD []≠[]:=abF (by rw[k];decide);have f:names s≠[]:=λq=>d (by rw[q];rfl);have g:(names s).getLastD []∈names s:=by
  cases m:names s with
  | nil=>exact absurd m f
  | cons a r =>
    rw[ZJ,<-Zv (h:=by simp)];exact List.getLast_mem _
 have i:Kq (rB<|names s):=λx b=>by
  unfold rB at b;rcases pO.1 b with b|b
  .exact c.1 x (by rw[QE] at b;exact CO b)
  .rw[wO] at b;subst b;rw[e];exact⟨λq=>(c.1 _ g).1 (FU q),j⟩
 have l:ow (aG (names s).dropLast) (kt<|(names s).getLastD []).2=aG (rB<|names s):=J4 [_] _ i;refine⟨l,i,?_,?_⟩
 .unfold rB;rw[fQ,List.length_dropLast];have:=c.2.1;simp;have:=Ir.2 f;omega
 .rw[<-l];have n:=abG (aG (names s).dropLast) (kt<|(names s).getLastD []).2;have o:=CF h;have p:(aG (names s).dropLast).length<=96:=by
   rw[QE];have:=Aa (names s) ((names s).length-1);have:=(pI h).2.2;omega
  have t:(kt<|(names s).getLastD []).2.length<=96:=by rw[e,kx];omega
  omega
theorem A2{a:List aq}(h:Fy a):Fy a.dropLast:=by
 rw[QE];exact h.take _
def SmP(p:Pt):Prop:=p.1.1.length<=300/\p.1.2.2.2.2.2.2.2.1.length<=300/\p.2.1.length<=8192
theorem Ac(p:Pt)(i:SmP p):nG (p,())=some ((bH p).1,aG (bH p).2.1,(bH p).2.2,()):=by
 unfold nG;dsimp only;rw[PD p.1.1 (by have:=i.1;omega),aa];dsimp only;unfold bH;cases d:kH p.1.1 with
 | false =>
   have:j6 p.1.1=([],2):=by unfold j6;rw[d];rfl
   rw[this,aM (by simp)];rfl
 | true =>
   have g:j6 p.1.1=(aG<|names p.1.1,0):=by unfold j6;rw[d];rfl
   have a:=Ab d;have m:=(pI d).2.2;rw[g,aQ rfl];dsimp only;rw[show nt (aX 0 0)=false from rfl,ae,tP _ (by omega),aa,vT a.1];dsimp only;rw[GB,aa];dsimp only;have j:∀(A:Option Bool),(aj (aj (aX p.1.2.1 1) (bt p.2.1 []) false) A<|some false)=if tc p=true then A else some false:=λA=>by
    unfold tc aX bt;by_cases c:p.1.2.1=1
    .by_cases k:p.2.1=[]
     .simp[c,k,aj]
     .simp[c,k,aj]
    .simp[c,aj]
   have l:=CF d;rcases Ku ((names p.1.1).getLastD []) with b|b|b|b
   .rw[b,show aX 0 1=false from rfl,ae,show aX 0 2=false from rfl,ae,show aX 0 0=true from rfl,ab,aM (by decide),aM (by decide),aQ rfl];unfold qo;dsimp only;rw[aa];dsimp only;have f:=vS (ic p<|aG<|names p.1.1) (by show(aG<|names p.1.1).length<=4096;omega) (by show p.1.2.2.2.2.2.2.2.1.length<=4096;have:=i.2.1;omega);rw[show ku ((aG<|names p.1.1,p.1.2.1,p.1.2.2.1,p.2.1,p.1.2.2.2.2.2.2.2.1,()),())=_ from f,aa,wC a,aa];dsimp only;have h:aj (bt (aG<|names p.1.1) []) (aX p.1.2.1 2) false=(decide (names p.1.1=[])&&decide (p.1.2.1=2)):=by
     have:=rA a.1;unfold bt aX;by_cases c:names p.1.1=[]
     .rw[dI c,dI (this.2 c)];simp[aj]
     .rw[cJ c,cJ λe=>c (this.1 e)];rfl
    rw[h];cases decide (names p.1.1=[])&&decide (p.1.2.1=2) with
    | true=>rfl
    | false =>
      rw[aw,ab];unfold pK;cases eP (ic p<|aG<|names p.1.1)<;>rfl
   .obtain⟨n,o⟩:=Fz d b;rw[b,show aX 1 1=true from rfl,ab,aQ rfl,yl _ _ (by have:=(A2 a).2.2;omega) (by rw[(Kt b).1,kx];omega),aa,n];dsimp only;rw[wC o,aa,j];unfold pK;cases tc p<;>rfl
   .rw[b,show aX 2 1=false from rfl,ae,show aX 2 2=true from rfl,ab,aM (by decide),aQ rfl];have hd:=A2 a;rw[wC hd,aa,j];have h:bt (aG (names p.1.1).dropLast) []=decide ((names p.1.1).dropLast=[]):=by
     have:=rA hd.1;unfold bt;exact gi.2 this
    rw[h];unfold pK;cases tc p<;>cases decide ((names p.1.1).dropLast=[])<;>rfl
   .rw[b,show aX 3 1=false from rfl,ae,show aX 3 2=false from rfl,ae,show aX 3 0=false from rfl,ae,aM (by decide),aM (by decide),aM (by decide)];rfl
set_option maxRecDepth 100000
end Go.Ge
namespace Go.Ge
variable [Lp]
set_option maxRecDepth 100000
def oW(i:Nat)(n:Nat)(x:UInt8):Option (Nat⊕(Nat×(Int×Bool×Int×Int×ai)×ai)) :=
 some (if x.toNat<48\/55<x.toNat then .inr (1,(0,false,(n:Int),(i:Int),()),()) else .inl (8*n+(x.toNat-48)))
def Ad(i:Nat)(n:Nat):Nat×(Int×Bool×Int×Int×ai)×ai:=(0,(0,false,(n:Int),(i:Int),()),())
theorem Kv{i n b:Nat}{x:UInt8}(c:i<=21/\n<8 ^ i)(d:i<21)(a:oW i n x=some (.inl b)):i+1<=21/\b<8 ^ (i+1):=by
 unfold oW at a;have a:=aI a;split at a
 .cases a
 .obtain rfl:=M3 a;refine⟨by omega,?_⟩;rw[Nat.pow_succ];omega
theorem WV{i:Nat}(h:i<=20):8 ^ i<=1152921504606846976:=by
 have:(8:Nat) ^ i<=8 ^ 20:=Nat.pow_le_pow_right (by decide) h;have e:(8:Nat) ^ 20=1152921504606846976:=by decide
 omega
theorem BP(s:aq)(m:s.length<=21):Loop (bL (s,())) ((0,false,0,0,()),())=sD oW Ad s 0 0:=by
 have key:=oh (f:=bL (s,())) s (λ(n:Nat) i=>((0,false,(n:Int),(i:Int),()),())) oW Ad (λi n=>i<=21/\n<8 ^ i)
  (λn i x c g d=>by
   have o:=WV (i:=i) (by omega);obtain⟨p,j⟩:=fq.1 c;have k:=x.toNat_lt;unfold bL oW;dsimp only;rw[jZ,aK (by omega),ab,aW (by omega) (by omega),ab,xw s g,j,aa,aL (by omega)];by_cases a:x.toNat<48
   .rw[aK<|by unfold u8;omega,aA,ae,ab,aQ (.inl a)];rfl
   .by_cases b:55<x.toNat
    .rw[aB<|by unfold u8;omega,aw,ab,aK (by unfold u8;omega),ab,aQ (.inr b)];rfl
    .rw[aB<|by unfold u8;omega,aw,ab,aB (by unfold u8;omega),ae,show aY 3 0=false from rfl,ae,aM (by omega)];have e:u8 x=((48+(x.toNat-48):Nat):Int):=by unfold u8;omega
     rw[e,air (by omega) (by omega)];rfl)
  (λn i x q c d l=>Kv d (by have:=aD c;omega) l)
  (λn d=>by
   unfold bL Ad;dsimp only;rw[jZ,aB (by omega),ae])
  (λ_ _ _ _ _ h=>by cases h) 0 ⟨by omega,by decide⟩
 exact key
theorem FA(s:aq)(m:s.length<=21):Loop (fK (s,())) ((0,false,0,0,()),())=sD oW Ad s 0 0:=by
 have key:=oh (f:=fK (s,())) s (λ(n:Nat) i=>((0,false,(n:Int),(i:Int),()),())) oW Ad (λi n=>i<=21/\n<8 ^ i)
  (λn i x c g d=>by
   have o:=WV (i:=i) (by omega);have j:=x.toNat_lt;unfold fK oW;dsimp only;rw[ak g,ab,ao c,aa,aa,aa,aL (by omega)];by_cases a:x.toNat<48
   .rw[aK<|by unfold u8;omega,aA,ae,aa,aA,ae,ab,aQ (.inl a)];rfl
   .by_cases b:55<x.toNat
    .rw[aB<|by unfold u8;omega,aw,ab,aa,aK (by unfold u8;omega),aA,ae,ab,aQ (.inr b)];rfl
    .rw[aB<|by unfold u8;omega,aw,ab,aa,aB (by unfold u8;omega),aw,ab,aB (by omega),ae,aM (by omega)];have e:u8 x=((48+(x.toNat-48):Nat):Int):=by unfold u8;omega
     rw[e,aed ⟨x.toNat-48,by omega⟩,zK (by omega) (by omega),en (by dsimp only;omega) (by dsimp only;omega)];have k:(8:Int)*(n:Int)+((x.toNat-48:Nat):Int)=((8*n+(x.toNat-48):Nat):Int):=by omega
     dsimp only;rw[k];rfl)
  (λn i x p c d l=>Kv d (by have:=aD c;omega) l)
  (λn d=>by
   unfold fK Ad;dsimp only;rw[ay,ae])
  (λ_ _ _ _ _ h=>by cases h) 0 ⟨by omega,by decide⟩
 exact key
theorem Mf:∀(r:aq) (i n:Nat),∃q,sD oW Ad r i n=some q/\(q.1=0\/q.1=1):=by
 intro r;induction r with
 | nil=>intro i n;exact⟨_,rfl,.inl rfl⟩
 | cons x r a =>
   intro i n;unfold sD oW;by_cases h:x.toNat<48\/55<x.toNat
   .rw[aQ h];exact⟨_,rfl,.inr rfl⟩
   .rw[aM h];exact a (i+1) _
theorem Ae(s:aq)(e:s.length<=1048576):dn (s,())=l7 (s,())/\∃n b,dn (s,())=some (n,b,()):=by
 unfold dn l7;dsimp only;by_cases f:s.length<1
 .rw[aK<|by rw[bz];omega,aA,ae,ab,ab];exact⟨rfl,_,_,rfl⟩
 .by_cases g:21<s.length
  .rw[aB<|by rw[bz];omega,aw,ab,aK (by rw[bz];omega),ab,ab];exact⟨rfl,_,_,rfl⟩
  .rw[aB<|by rw[bz];omega,aw,ab,aB (by rw[bz];omega),ae,ae,dz (by rw[bz];omega),ab,BP s (by omega),FA s (by omega)];refine⟨rfl,?_⟩;obtain⟨q,a,d⟩:=Mf s 0 0;rw[a,aa];rcases d with c|c
   .rw[c,bO,ab];exact⟨_,_,rfl⟩
   .rw[c,ed,ae];exact⟨_,_,rfl⟩
end Go.Ge
