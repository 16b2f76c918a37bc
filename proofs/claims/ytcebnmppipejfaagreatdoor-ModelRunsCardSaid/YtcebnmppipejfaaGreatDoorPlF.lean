import Derived.Test.YtcebnmppipejfaaGreatDoorPlE
import Derived.Lib.ParseIntBCases
import Derived.Lib.ItoaMem
set_option linter.unusedSectionVars false
set_option linter.unusedVariables false
set_option linter.unusedSimpArgs false
set_option linter.defProp false
open Option renaming some->aa,none->af
namespace Go.Ge
variable [Lp]
def uW(n:Nat):bj:=List.replicate n 0
def uX n:(uW n).length=n:=adK
def qM:bj:=[117,115,116,97,114,0,48,48]
def acY(a:List bj) k c:a.flatten=(a.take k).flatten++(a[k]++(a.drop<|k+1).flatten):=by
 conv=>lhs;rw[<-Ba k a,zm c]
 rw[List.flatten_append,ahK]
def ajE(a:List bj) k (c:k<a.length) x:(a.set k x).flatten=(a.take k).flatten++(x++(a.drop<|k+1).flatten):=by rw[amP,aN c,List.flatten_append,ahK]
def ajF(A z R s:bj) off (hA:A.length=off) (a:s.length<=z.length):over (aB<|A++(z++R)) off (aB s)=aB (A++((s++z.drop s.length)++R)):=by
 unfold over;rw[An,gx];have c:(aB<|A++(z++R)).take off=aB A:=by rw[EI,adV hA]
 have d:(aB<|A++(z++R)).drop (off+s.length)=aB (z.drop s.length++R):=by
  have:(A++(z++R)).drop (off+s.length)=z.drop s.length++R:=by rw[<-hA,<-Ap,Nc,abn a]
  rw[<-this];simp[aB]
 rw[c,d,<-vH,<-vH,rO,rO]
def ov(a:List bj) k c s n l off (d:a[k]=uW n) (f:s.length=l) (i:l<=n) (j:(a.take k).flatten.length=off) (o:off+l<=512) :
  over (aB a.flatten) off (kD (aB s)<|minus 512 (off:Int))=aB (a.set k<|s++uW (n-l)).flatten:=by
 have e:kD (aB s) (minus 512 off)=aB s:=by unfold kD minus;rw[Is];rw[gx];omega
 rw[e,acY a k c,ajF _ _ _ _ off j (by rw[d,uX];omega),ajE a k c,d,f];simp[uW]
def ajG(h:Hd)(m u g z t:Nat)(a:UInt8)(c:bj):List bj:=[h.1++uW (100-h.1.length),acM m 7++uW 1,acM u 7++uW 1,acM g 7++uW 1,acM z 11++uW 1,acM t 11++uW 1,c,[a]++uW 0,h.2.2.2.2.2.2.2.1++uW (100-h.2.2.2.2.2.2.2.1.length),qM++uW 0,uW 80,uW 155,uW 12]
def aeI:List (Int×Int×al):=[(0,100,()),(100,8,()),(108,8,()),(116,8,()),(124,12,()),(136,12,()),(148,8,()),(156,1,()),(157,100,()),(257,8,()),(345,155,())]
def acZ:mI ()=aa (aeI,()):=rfl
structure Fits (h:Hd) (m u g z t:Nat) (kd:UInt8):Prop where
 path:h.1.length<=100
 link:h.2.2.2.2.2.2.2.1.length<=100
 m:h.2.2.1=(m:Int)/\m<2097152
 u:h.2.2.2.1=(u:Int)/\u<2097152
 g:h.2.2.2.2.1=(g:Int)/\g<2097152
 z:h.2.2.2.2.2.1=(z:Int)/\z<8589934592
 t:h.2.2.2.2.2.2.1=(t:Int)/\t<8589934592
 kind:(h.2.1=1/\kd=48)\/(h.2.1=2/\kd=53)\/(h.2.1=3/\kd=50)
def arx(h:Hd)(m u g z t:Nat)(a:UInt8):bj:=(ajG h m u g z t a<|acM (BM (ajG h m u g z t a<|uW 8).flatten 512) 6++[0,32]).flatten
def NU s (j:s.length<=1048576):∃n c,dD (s,())=aa (n,c,()):=by unfold dD;cases l:(ao _ _ true) with|true=>exact⟨0,false,rfl⟩|false =>(rw[ dN (by simp only[len];omega)];have key:∀k i v,s.length-i<=k->i<=s.length->∃q,Loop (bR (s,())) ((0,false,v,i,()),())=aa q:=by intro k;induction k with|zero =>intro i v h d;rw[aZ];unfold bR;dsimp only;rw[lL,aF ai,ag];exact⟨_,rfl⟩|succ k e =>intro i v h d;by_cases a:i<s.length;{cases hd:(ao _ _ true) with|true =>(have e0:bR (s,()) ((0,false,v,(i:Int),()),())=aa (.inr (1,(0,false,v,i,()),())):=by unfold bR;dsimp only;rw[lL,aT ai,aj,aO ai ai,aj,BC s a,ab,hd,aj]);rw[aZ,e0];exact⟨_,rfl⟩|false =>(have e0:bR (s,()) ((0,false,v,i,()),())=aa (.inl ((0,false,B6 .i64 (om .i64 v 3)<|kg .i64<|cR .u8 (u8 s[i]) 48,((i+1:Nat):Int),()),())):=by unfold bR;dsimp only;rw[lL,aT ai,aj,aO ai ai,aj,BC s a,ab,hd,ag,aF aI,ag,aJ ai]);rw[aZ,e0];exact e _ _ ai ai};rw[aZ];unfold bR;dsimp only;rw[lL,aF ai];exact⟨_,rfl⟩);obtain⟨q,f⟩:=key s.length 0 0 ai ai;rw[show Loop (bR _) ((0,false,0,0,()),())=aa q from f,ab];cases cF q.1 0 with|true=>exact⟨_,_,rfl⟩|false=>exact⟨_,_,rfl⟩
def qd p s:(de p s).length<=s.length:=by unfold de;rw[Ut];have:=Al (p:=p) (l:=s.reverse);have:=congrArg List.length this;rw[gR,Ut] at this;omega
def eX s (a:s.length<=1048576):∃n,dt (s,())=aa (n,()):=by unfold dt;have c:=qd DX s;rw[JJ s a,ab];obtain⟨n,d,h⟩:=NU (de DX s) ai;rw[h,ab];cases (ao _ _ true) with|true=>exact⟨_,rfl⟩|false=>exact⟨_,rfl⟩
def gE(b:bj)(a n:Nat):bj:=(b.drop a).take n
def cJ b a n:(gE b a n).length<=n:=by simp[gE];omega
def pa b (d:b.length=512) k (a n:Nat) (c:idx aeI k=aa ((a:Int),(n:Int),())) (h:a+n<=512):ca (b,k,())=aa (gE b a n,()):=by unfold ca;rw[acZ,ab,c,ab,show aC .i64 a n=_ from yP ai,aV ai ai (by simp only[len];omega),aj];unfold sub minus gE;rw[An,show(((a+n:Nat):Int)-a).toNat=n by omega]
section
variable (b:bj)
def o0(a:b.length=512):ca (b,0,())=aa (gE b 0 100,()):=pa b a 0 0 100 rfl ai
def o1(a:b.length=512):ca (b,1,())=aa (gE b 100 8,()):=pa b a 1 100 8 rfl ai
def o2(a:b.length=512):ca (b,2,())=aa (gE b 108 8,()):=pa b a 2 108 8 rfl ai
def o3(a:b.length=512):ca (b,3,())=aa (gE b 116 8,()):=pa b a 3 116 8 rfl ai
def o4(a:b.length=512):ca (b,4,())=aa (gE b 124 12,()):=pa b a 4 124 12 rfl ai
def o5(a:b.length=512):ca (b,5,())=aa (gE b 136 12,()):=pa b a 5 136 12 rfl ai
def o6(a:b.length=512):ca (b,6,())=aa (gE b 148 8,()):=pa b a 6 148 8 rfl ai
def o7(a:b.length=512):ca (b,7,())=aa (gE b 156 1,()):=pa b a 7 156 1 rfl ai
def o8(a:b.length=512):ca (b,8,())=aa (gE b 157 100,()):=pa b a 8 157 100 rfl ai
def o9(a:b.length=512):ca (b,9,())=aa (gE b 257 8,()):=pa b a 9 257 8 rfl ai
def o10(a:b.length=512):ca (b,10,())=aa (gE b 345 155,()):=pa b a 10 345 155 rfl ai
end
def agl:Hd:=([],0,0,0,0,0,0,[],())
def H6 b (a:b.length=512) (c:gE b 257 8≠qM):fm (b,())=aa (agl,2,()):=by unfold fm;rw[ay<|by simp only[len];omega,o9 b a,ab,show([117,115,116,97,114,0,48,48])=qM from rfl,show bA _ qM=false from cj c];rfl
def ZZ b (a:b.length=512) {n} (e:dt (gE b 148 8,())=aa (n,())) (c:n≠BM b 512):fm (b,())=aa (agl,2,()):=by
 by_cases d:gE b 257 8=qM
 {unfold fm;rw[ay<|by simp only[len];omega,aM,aE,aj,o9 b a,ab,ab,d,o6 b a,ab,e,ab,Ls b ai,ab,a,ax c];rfl};exact H6 b a d
section
variable {h:Hd} {m u g z t:Nat} {kd:UInt8}
def alQ(n:Nat):∀x∈uW n,x=0:=λx a=>List.eq_of_mem_replicate a
end
def hA:Hd:=([100,47],2,493,0,0,0,1,[],())
def hC:Hd:=([100],2,0,0,0,1,0,[],())
abbrev Pt:=Hd×bj×al
def anf(h:Hd):Int:=h.2.2.2.2.2.1
def ary(h:Hd):UInt8:=if h.2.1=1 then 48 else if h.2.1=2 then 53 else 50
def arz(h:Hd):bj:=arx h h.2.2.1.toNat h.2.2.2.1.toNat h.2.2.2.2.1.toNat h.2.2.2.2.2.1.toNat h.2.2.2.2.2.2.1.toNat (ary h)
def arA(p:Pt):Prop:=QX p.1 100/\anf p.1=(p.2.1.length:Int)
instance (p:Pt):Decidable (arA p):=inferInstanceAs (Decidable<|_/\_)
def BN(n:Nat):Nat:=(512-n % 512) % 512
def body(p:Pt):bj:=arz p.1++p.2.1++uW (BN p.2.1.length)
def Z0 n:BN n<512:=D7 _ aI
def Z1(n:Nat)(a:n<=1048576):yE (n,())=aa ((BN n:Int),()):=by unfold yE;dsimp only;have c:fX n 512=((n % 512):Int):=rfl;rw[ dc ai ai,show 512-_=((512-n % 512:Nat):Int) by omega];rfl
def Z2 n:Lib.repeatL [0] n=uW n:=by induction n with|zero=>rfl|succ n a =>show [0]++Lib.repeatL [0] n=uW _;rw[a];rfl
def Z3(n:Nat)(a:n<=1048576):GS (n,())=aa (uW n,()):=by
 unfold GS;have:pv ([0],n,())=aa (uW n,()):=by show(gf [0] n).map _=_;unfold gf;rw[aK dW,Z2];rfl
 rw[this,ab]
def Z4(n:Nat)(c:n<=1048576):nh (n,())=aa (((n+BN n:Nat):Int),()):=by
 unfold nh;have key:=cp (f:=lp) (BN n) (λi=>((((n+i:Nat):Int),()),())) (λi a=>by
  unfold BN at a;unfold lp;dsimp only;rw[show aR 512 0=false from rfl,ag,show fX _ 512=(((n+i) % 512:Nat):Int) from rfl,ax ai,aJ ai];rfl) (by
  unfold lp;rw[show aR 512 0=false from rfl,show fX _ 512=(((n+BN n) % 512:Nat):Int) from rfl,ay (by unfold BN;omega)];rfl)
 rw[show Loop lp ((n,()),())=_ from key,ab]
def Xc a:(aB a).length=a.length:=qg ..
structure aus (l:List Pt) (n:Nat):Prop where
 many:l.length<=n
 path:∀p∈l,p.1.1.length<=300
 link:∀p∈l,p.1.2.2.2.2.2.2.2.1.length<=300
 data:∀p∈l,p.2.1.length<=8192
abbrev Rd:=Bool×bj×Int×Bool×Bool×al
def Xd:Pt:=(agl,[],())
def rd(r:bj)(n:Int):Rd:=(true,r,n,false,false,())
def JT(n:Int)(b:Bool):Rd:=(true,[],n,true,b,())
def agm r n b:b3 ((),(true,r,n,true,b,()),())=aa ((Xd,false,()),(true,r,n,true,b,()),()):=by rfl
def JU r n b:eF ((b,()),rd r n,())=aa ((Xd,false,()),JT n b,()):=rfl
def Q9 r n (h:r.length<512):b3 ((),rd r n,())=aa ((Xd,false,()),JT n true,()):=by have e:=JU r n true;unfold b3;dsimp only[rd] at e⊢;rw[aM,aE,aj,ag,aT (by rw[bG];omega),aj,e,ab]
def Lt r n (h:512<=r.length) (f:r.length<=1048576) (i:∀x∈r.take 512,x=0) :
  b3 ((),rd r n,())=aa ((Xd,false,()),JT n<|!decide (1024<=r.length/\r.length % 512=0/\∀x∈r,x=0),()):=by
 have e:=λb=>JU r n b;unfold b3;dsimp only[rd] at e⊢;have j:(r.take 512).length=512:=by rw[cY];omega
 rw[aM,aE,aj,ag,aF (by rw[bG];omega),ag,aV aI aI (by rw[bG];omega),aj,show sub r 0 (minus 512 0)=r.take 512 from fY r 512,QW _ ai,cT ⟨j,i⟩,ab,aj,show aR 512 0=false from rfl,ag,show fX _ 512=((r.length % 512):Int) from rfl,show cm 1024 _=decide (1024<=r.length) from by unfold len;apply fk.2;omega,show aR _ 0=decide (r.length % 512=0) from by apply fk.2;omega,ZR r f];by_cases a:1024<=r.length
 .by_cases b:r.length % 512=0;{by_cases c:∀x∈r,x=0;{have d:=(CK r).2 c;rw[cT a,aj,cT b,ab,aM,aE,aj,ab,ab];dsimp only;rw[cc d,cT ⟨a,b,c⟩];rfl};have d:¬(de da r).dropWhile da=[]:=λq=>c ((CK r).1 q);rw[cT a,aj,cT b,ab,ab,bg d,cj λq=>c q.2.2];rfl}
  .rw[cT a,aj,cj b,ab,aE,aM,ag,ab,e,ab,cj λq=>b q.2.1];rfl
 .rw[cj a,ag,cj λq=>a q.1];rfl
def Vb(p:Pt)(a:List Pt)(d:Rd)(f:a.length<=1000){e:Pt}{ok1}{c:Rd}(h:b3 ((),d,())=aa ((e,ok1,()),c,())) :
  iB (((),(),true,()),p,a,d,())=aa (.inl (((),(),ok1,()),e,a++[p],c,())):=by
 unfold iB;rw[ aP dW,h];rfl
def agn(p:Pt)(a:List Pt)(c:Rd):iB (((),(),false,()),p,a,c,())=aa (.inr (((),(),false,()),p,a,c,())):=rfl
def Lu s (h:8192<s.length):eY (s,())=aa ([],10,()):=by unfold eY;dsimp only;rw[aT<|by rw[bG];omega,agm,ab,aZ];rfl
def an3 c (h:Hd):∃x e,ae (ao c (ae (ss (h,256,())) λa=>aa (nt a.1))<|some true) (λy=>ao y (aa (agl,(2:Int),())) (aa (h,0,())))=aa (x,e,())/\(e=0->QX x 256):=by rw[ZS];cases c with|false=>exact⟨_,_,rfl,λq=>absurd q aI⟩|true =>by_cases d:QX h 256;{rw[cT d];exact⟨h,0,rfl,λ_=>d⟩};rw[cj d];exact⟨_,_,rfl,λq=>absurd q aI⟩
def aeJ b (a:b.length=512):∃x e,fm (b,())=aa (x,e,())/\(e=0->QX x 256):=by
 by_cases d:gE b 257 8=qM;case neg=>exact⟨_,_,H6 b a d,λe=>absurd e aI⟩
 obtain⟨j,f⟩:=eX (gE b 148 8) (by have:=cJ b 148 8;omega);by_cases i:j=BM b 512;case neg=>exact⟨_,_,ZZ b a f i,λe=>absurd e aI⟩
 obtain⟨s,k⟩:=eX (gE b 100 8) (by have:=cJ b 100 8;omega);obtain⟨v,l⟩:=eX (gE b 108 8) (by have:=cJ b 108 8;omega);obtain⟨w,n⟩:=eX (gE b 116 8) (by have:=cJ b 116 8;omega);obtain⟨y,o⟩:=eX (gE b 124 12) (by have:=cJ b 124 12;omega);obtain⟨A,q⟩:=eX (gE b 136 12) (by have:=cJ b 136 12;omega);have B:=qd da (gE b 0 100);have l10:=qd da (gE b 345 155);have m0:=cJ b 0 100;have m10:=cJ b 345 155;unfold fm;rw[ay<|by simp only[len];omega,aM,aE,aj,o9 b a,ab,ab,show([117,115,116,97,114,0,48,48])=qM from rfl,d,show bA qM qM=true from yC _,aM,aE,aj,o6 b a,ab,f,ab,Ls b ai,ab,a,ay i,ab,o0 b a,ab,(JL (gE b 0 100) ai),ab,o8 b a,ab,(JL (gE b 157 100) (by have:=cJ b 157 100;omega)),ab,o10 b a,ab,(JL (gE b 345 155) ai),ab];have c:∃p,(ao (nt<|bA (de da<|gE b 345 155) []) (ao (fits<|plus (len<|de da<|gE b 345 155)<|len ([47]:bj)) (ao (fits<|plus (len<|app (de da<|gE b 345 155) [47])<|len<|de da<|gE b 0 100)
   (aa ((app (app (de da<|gE b 345 155) [47])<|de da<|gE b 0 100,()),())) af) af)<|some ((de da<|gE b 0 100,()),()))=aa ((p,()),()):=by
  cases (nt _) with|true =>rw[aj,dN (by simp only[plus,len,iG,qp];omega),aj,dN (by simp only[plus,len,app,gR,iG,qp];omega),aj];grind|false=>exact⟨_,rfl⟩
 obtain⟨p,r⟩:=c;rw[r,ab,o1 b a,ab,k,ab,o2 b a,ab,l,ab,o3 b a,ab,n,ab,o4 b a,ab,o,ab,o5 b a,ab,q,o7 b a];apply an3
def Z5 r (n:Nat) (B:r.length<=10000):∃p c d,b3 ((),rd r n,())=aa ((p,c,()),d,()) /\
  ((c=false/\∃b,d=JT n b)\/(c=true/\QX p.1 256/\p.2.1.length<=r.length/\n<64/\∃i,d=rd i ((n+1:Nat):Int)/\i.length+512<=r.length)):=by
 by_cases a:r.length<512
 .exact⟨_,_,_,Q9 r n a,.inl ⟨rfl,_,rfl⟩⟩
 by_cases j:∀x∈r.take 512,x=0
 .exact⟨_,_,_,Lt r n ai ai j,.inl ⟨rfl,_,rfl⟩⟩
 have e:=λb=>JU r n b;have l:(r.take 512).length=512:=by rw[cY];omega
 obtain⟨x,o,s,v⟩:=aeJ _ l;have w:(r.drop 512).length=r.length-512:=qo;unfold b3;dsimp only[rd] at e⊢;rw[aM,aE,aj,ag,aF (by rw[bG];omega),ag,aV aI aI (by rw[bG];omega),aj,show sub r 0 (minus 512 0)=r.take 512 from fY r 512,QW _ ai,ab,cj<|λq=>j q.2,ag,aj,s,ab,aV aI (by rw[bG];omega) (sK _),aj,show sub r 512 (minus _ 512)=r.drop 512 from je r 512 ai];by_cases f:o=0
 case neg =>
  rw[ax f,aE,aj,e,ab]
  grind
 rw[ay f,aM,ag];obtain⟨y,C⟩:=(v f).2.2.2.1;obtain⟨k,A⟩:=ahB y;rw[A];by_cases D:(r.drop 512).length<k
 .rw[aT<|by rw[bG];omega,aj,e,ab]
  grind
 .have E:=Z0 k;rw[aF<|by rw[bG];omega,ag,Z1 k ai,ab,eh ai ai];by_cases F:(r.drop 512).length<k+BN k
  .rw[aT<|by rw[bG];omega,aj,e,ab]
   grind
  .rw[aF<|by rw[bG];omega,ag];by_cases G:64<=n
   .rw[bL ai,aj,e,ab]
    grind
   .rw[cN ai,ag,ab,eh ai ai,aV ai (by rw[bG];omega) (sK _),aj,aV ai ai (by rw[bG];omega),aj,show sub _ 0 _=(r.drop 512).take k from fY _ k,show k+BN k=((k+BN k:Nat):Int) by omega,je _ _ ai,aJ ai]
    grind
def Ra{h}(k:QX h 256):h.1.length<=300/\h.2.2.2.2.2.2.2.1.length<=300:=by
 obtain⟨_,_,_,_,_,⟨_,c,_⟩,a⟩:=k;rcases a with ⟨_,e⟩|⟨_,e,_⟩|⟨_,⟨_,e,_⟩,_⟩
 .grind
 {grind};omega
def RdP(p:Pt):Prop:=p.1.1.length<=300/\p.1.2.2.2.2.2.2.2.1.length<=300/\p.2.1.length<=8192
def ago:∀(m n:Nat) r out p,r.length<=m->r.length<=8192->out.length+1=n->n<=64->(∀q∈out++[p],RdP q) ->
  ∃(a:List Pt) (e:Pt) (b:Int×Bool),Loop iB (((),(),true,()),p,out,rd r n,())=aa (((),(),false,()),e,a,JT b.1 b.2,())/\a.length<=64/\∀q∈a,RdP q:=by
 intro m;induction m using Nat.strongRecOn with|_ m k =>intro n r out p E F G l s;obtain⟨f,v,w,x,y⟩:=Z5 r n ai;have c:=Vb p out _ ai x;rcases y with ⟨rfl,b,rfl⟩|⟨rfl,A,H,I,i,rfl,J⟩;{refine⟨out++[p],f,(n,b),?_,dW,s⟩;rw[aZ,c];show Loop _ _=_;rw[aZ];rfl};(have j:=Ra A;obtain⟨o,e,b,B,C,D⟩:=k i.length ai (n+1) i (out++[p]) f (b8 _) ai dW ai (λq d=>by rcases Gp.1 d with d|d;{grind};rw[D5] at d;subst d;exact⟨j.1,j.2,ai⟩));exact⟨o,e,b,by rw[aZ,c];exact B,C,D⟩
def ajH s:∃l e,eY (s,())=aa (l,e,())/\l.length<=64/\(∀q∈l,RdP q)/\(e=0\/(e=10/\l=[])):=by
 by_cases i:8192<s.length
 .exact⟨_,_,Lu s i,aW,λq a=>(by cases a),.inr ⟨rfl,rfl⟩⟩
 obtain⟨p,w,x,j,k⟩:=Z5 s 0 ai;have fin:∀(b:Int×Bool) o,(ae (iI ((),JT b.1 b.2,())) λc=>ao c.1.1 (aa (([]:List Pt),(10:Int),())) (aa (o,_)))=aa (if b.2=true then _ else(o,0,())):=λb o=>by obtain⟨y,n⟩:=b;cases n<;>rfl
 unfold eY;dsimp only;rw[aF<|by rw[bG];omega,show b3 ((),(true,s,0,_),())=_ from j,ab];rcases k with ⟨rfl,b,rfl⟩|⟨rfl,r,A,B,d,rfl,C⟩
 .rw[aZ];show ∃l e,(ae (iI _) λc=>ao c.1.1 _ _)=_/\_;rw[fin (_,_)];grind
 have f:=Ra r;obtain⟨o,D,b,v,E,F⟩:=ago d.length 1 d [] p (b8 _) ai rfl ai (λq a=>by rw[Gn,D5] at a;subst a;exact⟨f.1,f.2,ai⟩)
 rw[show Loop iB _=_ from v,ab];grind
set_option maxRecDepth 100000
end Go.Ge
namespace Go.Ge
variable [Lp]
abbrev Nd:=bj×Int×Int×bj×bj×al
def OU{a b}:(cm a b=true)↔a<=b:=by refine⟨?_,bL⟩;intro h;rcases Int.lt_or_le b a with g|g;{rw[cN g] at h;cases h};exact g
def z6{a b}:cm a b=decide (a<=b):=by rw[Iy,OU,zn]
def ac0{p}(k:p≠[]):((lM p).2=0/\(lM p).1=p)↔((parts p).all uU=true/\(parts p).length<=8/\p.length<=96):=by
 constructor
 .rintro⟨c,e⟩;obtain⟨d,l⟩:=af3 c;obtain⟨n,o,q⟩:=sD d;have r:parts p=names p:=by have:=MC p;grind
  grind
 rintro⟨c,e,d⟩;have f:∀x∈parts p,oe x=true:=λx a=>by have:=wH.1 c x a;unfold uU at this;unfold oe;grind
 have i:names p=parts p:=Hp.2 f;have j:aX (names p)=p:=by rw[i,dP]
 have s:p.head?≠aa 47:=by rw[<-j];exact acQ λx a=>⟨(yk p x a).1,(yk p x a).2.1⟩
 have v:oh p=true:=by unfold oh;grind
 unfold lM;grind
def yV(p:bj):Bool:=decide (p≠[])&&(parts p).all uU&&decide ((parts p).length<=8)&&decide (p.length<=92)&&decide ((bt p).2.length<=28)&&decide ((oi (bt p).2).1=0)
def ac1 p (c:p.length<=4096):vo (p,())=aa (yV p,()):=by
 unfold vo;rw[U4 p c,ab,r9 p ai,ab,ZV,ab,kX,kX,kX,kX,kX];congr 2;rw[Iy];unfold yV;by_cases a:p=[]
 {subst a;simp[bA,nt]};have d:=ac0 a;simp only[gC,aR,bA,ai9,OU,len];grind
def Vc(n:Nd):Bool:=if n.2.1=1 then decide (n.2.2.2.2.1=[]/\n.2.2.2.1.length<=8192) else if n.2.1=2 then decide (n.2.2.2.2.1=[]/\n.2.2.2.1=[]) else if n.2.1=3 then decide (n.2.2.2.1=[]/\n.2.2.2.2.1≠[]/\n.2.2.2.2.1.length<=100/\0∉n.2.2.2.2.1) else false
def fZ(n:Nd):Bool:=yV n.1&&decide (0<=n.2.2.1)&&decide (n.2.2.1<=4095)&&Vc n
def TD s c:dq (s,u8 c,())=aa (Lib.indexByte s c,()):=by
 have:(u8 c).toNat.toUInt8=c:=by simp[u8]
 unfold dq fv;rw[this];rfl
def aeK(n:Nd)(j:n.1.length<=4096):Bt (n,())=aa (fZ n,()):=by
 obtain⟨p,k,m,d,l,u⟩:=n;unfold Bt fZ Vc;rw[ac1 p j,ab];have o:ba m 0=!decide (0<=m):=by unfold ba;by_cases h:m<0<;>simp[h]<;>omega
 have q:ba 4095 m=!decide (m<=4095):=by unfold ba;by_cases h:4095<m<;>simp[h]<;>omega
 rw[o,q];cases yV p with|false=>rfl|true =>cases decide (0<=m) with|false=>rfl|true =>cases decide (m<=4095) with|false=>rfl|true =>simp only[aM,aE,aj,ag,Bool.not_true,Bool.true_and];by_cases a:k=1;{subst a;simp only[aR,ad0,aj,zx,bA,z6,len,kX];congr 2;grind};rw[show aR k 1=false by simp[aR,a],ag,aK a];by_cases c:k=2;{subst c;simp only[aR,ad0,aj,bA,kX];simp_all};rw[show aR k 2=false by simp[aR,c],ag,aK c];by_cases e:k=3;{subst e;rw[show aR 3 3=true by rfl,show((l,_):bj×Int×al)=(l,u8 0,()) by rfl,TD,ab];have r:ba _ 0=decide (0∉l):=GW l;rw[r];by_cases hd:d=[];{by_cases f:l=[];{subst hd f;rfl};by_cases i:l.length<=100;{simp[bA,hd,f,z6,len,nt,ao,ae,i,show(l.length:Int)<=100 by omega]};simp[ z6,len,ao,ae,i,show ¬(l.length:Int)<=100 by omega]};simp[bA,hd,ao,ae]};rw[show aR k 3=false by simp[aR,e],ag,aK e]
def ac2 s (l:s.length<=1048576):tp (s,())=aa (decide<|s≠[]/\s.length<=100/\0∉s,()):=by
 unfold tp;rcases eR (f:=nV (s,())) s (λi=>((false,i,()),())) (λ_ x=>decide (x=0)) (λi x=>(1,(false,i,()),())) _ ai (λi x a c e=>by unfold nV;rw[aq c,aj,au a,ab,apy,di,e];by_cases j:x=0<;>simp[j]) (by unfold nV;rw[aw,ag]) with ⟨i,x,a,n,_,h⟩|⟨o,h⟩
 .rw[h,ab,js,ag];grind
 rw[h,ab,cu,aj,kX];have d:0∉s:=λd=>by obtain⟨i,c⟩:=bp.1 d;grind
 congr 2;rw[Iy];simp only[gC,OU,len,zn];constructor;{grind};rintro⟨k,p,_⟩;exact⟨by have:=X9.2 k;omega,ai⟩
def z7(n:Nd)(i:n.1.length<=4096)(j:n.2.2.2.2.1.length<=4096):lV (n,())=aa (fZ n,()):=by
 obtain⟨p,k,m,d,l,u⟩:=n;unfold lV fZ Vc;dsimp only at i j⊢;rw[xY p i,ab,ME,U3 p ai,ac2 l ai];simp only[ab,kX];have e0:(ao (nt<|bA p []) (aa<|(parts p).all uU&&decide ((parts p).length<=8)&&decide (p.length<=96)) (aa false):Option Bool)=aa (decide (p≠[])&&(parts p).all uU&&decide ((parts p).length<=8)&&decide (p.length<=96)):=by by_cases h:p=[];{subst h;rfl};simp[bA,h,ao,nt]
 rw[e0,ab];have o:((((((decide (p≠[])&&(parts p).all uU&&decide ((parts p).length<=8)&&decide (p.length<=96))&&cm (len p) 92)&&cm (len (bt p).2) 28)&&aR (oi (bt p).2).1 0)&&cm 0 m)&&cm m 4095)=(yV p&&decide (0<=m)&&decide (m<=4095)):=by rw[Iy];unfold yV;simp only[gC,OU,len,aR];grind
 simp only[o];generalize (yV p&&decide (0<=m)&&decide (m<=4095))=c;by_cases a:k=1
 {subst a;rw[show aR 1 1=true by rfl,aj];congr 2;rw[Bool.and_assoc,Iy];simp[bA,z6,len];omega};rw[show aR k 1=false by simp[aR,a],ag,aK a];by_cases e:k=2;{subst e;rw[show aR 2 2=true by rfl,aj,Bool.and_assoc];simp[bA]};rw[show aR k 2=false by simp[aR,e],ag,aK e];by_cases f:k=3;{subst f;rw[show aR 3 3=true by rfl];cases c with|false=>rfl|true =>by_cases hd:d=[];{simp[bA,hd,ao,ae]};simp[bA,hd,ao,ae]};rw[show aR k 3=false by simp[aR,f],ag,aK f,ahW]
def Sm(n:Nd):Prop:=n.1.length<=200/\n.2.2.2.2.1.length<=300/\n.2.2.2.1.length<=8192
def xk(l:List Nd):Prop:=l.length<=4096/\∀x∈l,Sm x
def key(n:Nd):List bj:=parts n.1
def cmp(n:Nd)(p:bj):Int:=cmpL (parts n.1) (parts p)
def xk.at{l}(h:xk l){i:Nat}{x}(a:l[i]?=aa x):Sm x:=h.2 x (kG a)
def xk.take{l}(h:xk l) k:xk (l.take k):=⟨by rw[cY];have:=h.1;omega,λx a=>h.2 x (Bb a)⟩
def Rb(n:Nd) p (a:n.1.length<=4096) (c:p.length<=4096):mJ (n,p,())=aa (cmp n p,()):=by unfold mJ;rw[EM _ _ a c];rfl
def alR{a b:Nat}(c:a<=1048576)(d:b<=1048576):kg .i64 (jv .u64 (kg .u64<|aC .i64 a b) 1)=(((a+b) / 2:Nat):Int):=by
 rw[eh ai ai,alv ai ai];have e:jv .u64 (a+b) 1=(((a+b) / 2:Nat):Int):=by unfold jv;have f:2 ^ min 1 IntKind.u64.bits=2:=aI;grind
 rw[e,xT ai ai]
def agp l p (w:xk l) (G:p.length<=4096):∀n e d,d-e<=n->e<=d->d<=l.length ->
  ∃k,e<=k/\k<=d/\Loop (jD (l,p,())) ((e,d,()),())=aa (((k:Int),(k:Int),()),()) /\((∀(i j:Nat) x y,i<=j->l[i]?=aa x->l[j]?=aa y->cmp y p<0->cmp x p<0)->(∀j y,j<e->l[j]?=aa y->cmp y p<0)->(∀j y,d<=j->l[j]?=aa y->¬cmp y p<0) ->(∀j y,j<k->l[j]?=aa y->cmp y p<0)/\(∀j y,k<=j->l[j]?=aa y->¬cmp y p<0)):=by
 intro n;induction n with|zero =>(intro e d H I A;obtain rfl:d=e:=ai;refine⟨d,b8 _,b8 _,?_,λ_ a b=>⟨a,b⟩⟩;rw[aZ];unfold jD;rw[aF<|sK _];rfl)|succ n B =>intro e d H I A;by_cases h:d=e;{simp_all};(have J:=w.1;obtain⟨x,q⟩:∃x,l[(e+d) / 2]?=aa x:=⟨_,gQ ai⟩;have f:jD (l,p,()) ((e,d,()),())=aa (.inl<|if cmp x p<0 then(((((e+d) / 2+1:Nat):Int),d,()),()) else((e,(((e+d) / 2:Nat):Int),()),())):=by unfold jD;dsimp only;rw[aT ai,aF aI,alR ai ai,au q,ab,Rb x p (by have:=(w.at q).1;omega) G,ab,aJ ai];by_cases o:cmp x p<0;{rw[aT o,aN o];rfl};rw[aF ai,aK o];rfl);rw[aZ,f];by_cases o:cmp x p<0;{obtain⟨k,C,D,r,s⟩:=B ((e+d) / 2+1) d ai ai A;refine⟨k,ai,D,by rw[aN o];exact r,λa b c=>s a (λj y E F=>?_) c⟩;grind};obtain⟨k,C,D,r,s⟩:=B e ((e+d) / 2) ai ai ai;refine⟨k,C,ai,by rw[aK o];exact r,λa b c=>s a b λj y E F v=>o (a _ _ x y E q F v)⟩
def Ord(l:List Nd):Prop:=∀(i j:Nat) (x y:Nd),i<j->l[i]?=aa x->l[j]?=aa y->cmpL (key x) (key y)<0
def Ord.mono{l}(h:Ord l) p:∀(i j:Nat) x y,i<=j->l[i]?=aa x->l[j]?=aa y->cmp y p<0->cmp x p<0:=by
 intro i j x y a c d e;rcases xy i j with g|g
 {exact mx (h i j x y g c d) e};grind
def Ord.take{l}(h:Ord l) k:Ord (l.take k):=λi j x y d a c=>by
 rw[kh] at a c;split at a
 {split at c;{exact h i j x y d a c};cases c};cases a
structure Plc (l:List Nd) (p:bj) (k:Nat) (b:Bool):Prop where
 le:k<=l.length
 lo:∀(j:Nat) (y:Nd),j<k->l[j]?=aa y->cmp y p<0
 hi:∀(j:Nat) (y:Nd),k<=j->l[j]?=aa y->¬cmp y p<0
 is:b=true->∃x,l[k]?=aa x/\x.1=p
 no:b=false->∀x∈l,x.1≠p
def Z6{n p}(h:cmp n p=0):n.1=p:=by have:=Lh h;rw[<-dP n.1,this,dP]
def Rc{n p}(h:n.1=p):cmp n p=0:=by subst h;apply jL
def F2 l p (r:xk l) (s:p.length<=4096):∃(k:Nat) (b:Bool),ev (l,p,())=aa ((k:Int),b,())/\k<=l.length/\(b=true->k<l.length)/\(Ord l->Plc l p k b):=by
 obtain⟨k,_,i,w,A⟩:=agp l p r s l.length 0 l.length ai ai (b8 _);have c:Loop (jD _) ((0,len l,()),())=aa _:=w;have a:=λ(h:Ord l)=>A (h.mono p) (λj y n=>ai) (λj y n d=>by have:=aA d;omega);by_cases o:k<l.length
 {obtain⟨x,f⟩:∃x,l[k]?=aa x:=⟨_,gQ o⟩;refine⟨k,decide _,?_,i,λ_=>o,λh=>⟨i,(a h).1,(a h).2,λq=>⟨x,f,Z6 (gb q)⟩,λq y d e=>?_⟩⟩;{unfold ev;rw[c,ab,aq o,au f,ab,Rb x p (by have:=(r.at f).1;omega) s];rfl};obtain⟨j,n⟩:=bp.1 d;have B:=Rc e;rcases Ma j k with g|g|g;{grind};{grind};have v:=h k j x y g f n;rw[show key y=parts p by unfold key;rw[e]] at v;exact(a h).2 k x (b8 _) f v};obtain rfl:k=l.length:=ai;refine⟨l.length,false,?_,i,λh=>(by cases h),λh=>⟨i,(a h).1,(a h).2,λh=>(by cases h),λq y d e=>?_⟩⟩;{unfold ev;rw[c,ab,aw,ag]};obtain⟨j,n⟩:=bp.1 d;have B:=Rc e;grind
def Dir(l:List Nd)(d:bj)(e:Int):Prop:=(d=[]/\e=0)\/(d≠[]/\(((∀x∈l,x.1≠d)/\e=3)\/∃x∈l,x.1=d/\((x.2.1=2/\e=0)\/(x.2.1≠2/\e=12))))
def aeL l d (n:xk l) (hd:d.length<=4096):∃e,oN (l,d,())=aa (e,())/\(Ord l->Dir l d e):=by
 unfold oN;by_cases c:d=[]
 {subst c;exact⟨0,rfl,λ_=>.inl ⟨rfl,rfl⟩⟩};rw[bg c];obtain⟨k,b,o,q,p,i⟩:=F2 l d n hd;rw[o,ab];cases b with|false =>exact⟨3,rfl,λh=>.inr ⟨c,.inl ⟨(i h).no rfl,rfl⟩⟩⟩|true =>(obtain⟨x,f⟩:∃x,l[k]?=aa x:=⟨_,gQ (p rfl)⟩;rw[ au f,ab];have j:Ord l->x.1=d:=λh=>by obtain⟨y,r,e⟩:=(i h).is rfl;grind);by_cases a:x.2.1=2;{refine⟨0,?_,λh=>.inr ⟨c,.inr ⟨x,kG f,j h,.inl ⟨a,rfl⟩⟩⟩⟩;rw[ay a];rfl};refine⟨12,?_,λh=>.inr ⟨c,.inr ⟨x,kG f,j h,.inr ⟨a,rfl⟩⟩⟩⟩;rw[show aR x.2.1 2=false by simp[aR,a]];rfl
def ES l p (d:xk l):(∃(i:Nat) (x:Nd),l[i]?=aa x/\x.1=p/\ic (l,p,())=aa ((i:Int),()))\/((∀x∈l,x.1≠p)/\ic (l,p,())=aa (-1,())):=by
 unfold ic;rcases eR (f:=rh (l,p,())) l (λi=>((0,i,()),())) (λ_ x=>decide (x.1=p)) (λi x=>(1,(i,i,()),())) _ (by have:=d.1;omega) (λi x a c j=>by unfold rh;rw[aq c,au a,ab,tZ,j];by_cases h:x.1=p<;>simp[h,ao]) (by unfold rh;rw[aw,ag]) with ⟨i,x,a,k,_,h⟩|⟨n,h⟩
 {left;refine⟨i,x,a,gb k,?_⟩;rw[h];rfl};right;refine⟨λx a e=>?_,by rw[h];rfl⟩;obtain⟨i,c⟩:=bp.1 a;grind
def Re l d (p:xk l):∃b,oO (l,d,())=aa (b,())/\(b=true->d=[]\/∃x∈l,x.1=d/\x.2.1=2)/\(Ord l->b=false->d≠[]/\∀x∈l,x.1=d->x.2.1≠2):=by
 unfold oO;by_cases f:d=[]
 {subst f;rcases ES l [] p with ⟨i,x,a,c,h⟩|⟨_,h⟩<;>rw[h]<;>exact⟨true,rfl,λ_=>.inl rfl,λ_ h=>by cases h⟩};rcases ES l d p with ⟨i,x,a,c,h⟩|⟨s,h⟩;{(rw[h,ab,bg f,aE,aj, au a];refine⟨_,rfl,λn=>.inr ⟨x,kG a,c,gb n⟩,λq n=>⟨f,λy v o A=>?_⟩⟩;have w:=Yb n;obtain⟨j,r⟩:=bp.1 v;have k:key x=key y:=by unfold key;rw[c,o]);rcases Ma i j with g|g|g;{have:=q i j x y g a r;rw[k,jL] at this;omega};{grind};have:=q j i y x g r a;rw[k,jL] at this;omega};rw[h,bg f];exact⟨false,rfl,λh=>(by cases h),λ_ _=>⟨f,λx a e=>absurd e (s x a)⟩⟩
structure Valid (l:List Nd):Prop where
 few:l.length<=64
 ord:Ord l
 may:∀x∈l,fZ x=true
 up:∀x∈l,(bt x.1).1=[]\/∃y∈l,y.1=(bt x.1).1/\y.2.1=2
def Rf p:(bt p).1.length<=p.length:=by
 rcases sB p with ⟨_,h⟩|⟨a,b,c,_,h⟩
 {grind};grind
def yW{p}(h:(bt p).1≠[]):parts p=parts (bt p).1++[(bt p).2]:=by
 rcases sB p with ⟨_,e⟩|⟨a,b,c,d,e⟩
 {grind};rw[e] at h⊢;unfold parts;rw[aK<|by rw[c];simp,aK h,c];exact EL a b d
def Ord.uniq{l}(h:Ord l){x y}(f:x∈l)(k:y∈l)(e:x.1=y.1):x=y:=by
 obtain⟨i,a⟩:=bp.1 f;obtain⟨j,c⟩:=bp.1 k;have d:key x=key y:=by unfold key;rw[e]
 rcases Ma i j with g|g|g
 .have:=h i j x y g a c;rw[d,jL] at this;omega
 {grind};have:=h j i y x g c a;rw[d,jL] at this;omega
def Rg{l}(h:∀k x y,l[k]?=aa x->l[k+1]?=aa y->cmpL (key x) (key y)<0):Ord l:=by
 have run:∀d i x y,l[i]?=aa x->l[i+1+d]?=aa y->cmpL (key x) (key y)<0:=by intro d;induction d with|zero=>intro i x y c a;exact h i x y c a|succ d f =>intro i x y c a;have o:=aA a;obtain⟨z,e⟩:∃z,l[i+1+d]?=aa z:=⟨_,gQ ai⟩;exact mx (f i x z c e) (h _ z y e a)
 intro i j x y n c a;exact run (j-i-1) i x y c (by rw[show i+1+_=j by omega];exact a)
def JV(l:List Nd)(i:Nat)(x:Nd):Bool:=match i with|0=>false|k+1=>match l[k]? with|some y=>decide (0<=cmpL (key y) (key x))|none=>false
def CO{l k x y}(a:l[k]?=aa y):JV l (k+1) x=decide (0<=cmpL (key y) (key x)):=by show(match l[k]? with|some y=>decide _|none=>false)=_;rw[a]
noncomputable def Z7(l:List Nd)(d:bj):Int:=match oN (l,d,()) with|some y=>y.1|none=>0
def Rh l d (a:xk l) (hd:d.length<=4096):oN (l,d,())=aa (Z7 l d,())/\(Ord l->Dir l d (Z7 l d)):=by
 obtain⟨e,c,f⟩:=aeL l d a hd;have:Z7 l d=e:=by unfold Z7;rw[c]
 grind
noncomputable def MI(l:List Nd)(d:bj):Bool:=match oO (l,d,()) with|some y=>y.1|none=>false
def Lv l d (a:xk l):oO (l,d,())=aa (MI l d,())/\(MI l d=true->d=[]\/∃x∈l,x.1=d/\x.2.1=2)/\(Ord l->MI l d=false->d≠[]/\∀x∈l,x.1=d->x.2.1≠2):=by
 obtain⟨e,c,f,i⟩:=Re l d a;have:MI l d=e:=by unfold MI;rw[c]
 grind
def Vd{l}(h:∀i x,l[i]?=aa x->JV l i x=false):Ord l:=Rg λk x y a c=>by have:=h _ y c;rw[CO a] at this;grind
def Ve{l}(h:Ord l){i x}(a:l[i]?=aa x):JV l i x=false:=by cases i with|zero=>rfl|succ k =>have d:=aA a;obtain⟨y,c⟩:∃y,l[k]?=aa y:=⟨_,gQ ai⟩;rw[CO c];have:=h k _ y x ai c a;grind
def agq{l}(h:Ord l){i x y}(c:l[i]?=aa x)(f:y∈l)(k:(bt x.1).1≠[])(e:y.1=(bt x.1).1):y∈l.take i:=by
 obtain⟨j,a⟩:=bp.1 f;have n:cmpL (key y) (key x)=-1:=by unfold key;rw[e,yW k];exact Zx _ _ aW
 rcases xy j i with g|g
 {exact kG (by rw[kh,aN g];exact a)};exfalso;rcases xy i j with d|d;{have:=mx (h i j x y d c a) (show cmpL _ (key x)<0 by omega);rw[jL] at this;omega};obtain rfl:i=j:=ai;rw[c] at a;obtain rfl:=aU a;rw[jL] at n;omega
def my l (c:xk l):∃e,ew (l,())=aa (e,())/\(e=0↔Valid l):=by
 unfold ew;have r:ba 64 (len l)=decide (64<l.length):=by unfold len;apply fk.2;omega
 rw[r];by_cases B:64<l.length
 .rw[cT B];exact⟨1,rfl,λh=>ai,λh=>by have:=h.few;omega⟩
 rw[cj B];have d:∀{i:Nat} {x},l[i]?=aa x->(bt x.1).1.length<=4096:=λ{i x} hx=>by have:=(c.at hx).1;have:=Rf x.1;omega
 rcases eR (f:=rf (l,())) l (λi=>((0,i,()),())) (λi x=>!fZ x||JV l i x||decide (Z7 (l.take i) (bt x.1).1≠0)) _ _ ai (λi x hx p E=>by unfold rf;dsimp only;rw[aq p,aj,au hx,ab,r9 _ (by have:=(c.at hx).1;omega),ab,aeK _ (by have:=(c.at hx).1;omega),ab];cases J:fZ x with|false=>rfl|true =>rw[aM,ag];have s:inside 0 i (len l)=true:=jf (qh _) ai;rw[s,aj,fY,((Rh _ (bt x.1).1 (c.take i)<|d hx).1),ab,E];cases i with|zero =>rw[aF aW,ag];generalize Z7 _ (bt x.1).1=e;by_cases a:e=0;{rw[ay a,aM,ag];simp[JV,a]};rw[show aR e 0=false by simp[aR,a],aE,aj];simp[ a]|succ k =>obtain⟨y,j⟩:∃y,l[k]?=aa y:=⟨_,gQ ai⟩;rw[aT ai,aj,dc ai ai,show(((k+1:Nat):Int)-1)=k by omega,au j,ab,EM _ _ (by have:=(c.at j).1;omega) (by have:=(c.at hx).1;omega),ab,z6,CO j];unfold key;generalize Z7 _ (bt x.1).1=e;by_cases C:0<=cmpL (parts y.1) (parts x.1);{rw[cT C,aj];simp};rw[cj C,ag];by_cases a:e=0;{rw[ay a,aM,ag];simp[a]};rw[show aR e 0=false by simp[aR,a],aE,aj];simp[a]) (by unfold rf;rw[aw,ag]) with ⟨i,x,hx,F,_,h⟩|⟨K,h⟩
 {rw[h];refine⟨1,rfl,λh=>ai,λo=>?_⟩;rw[o.may x<|kG hx,Ve o.ord hx] at F;have hd:=(Rh _ (bt x.1).1 (c.take i)<|d hx).2 (o.ord.take i);rcases hd with ⟨_,e⟩|⟨v,hd⟩;{grind};rcases o.up x (kG hx) with L|⟨y,j,n,w⟩;{grind};have G:=agq o.ord hx j v n;rcases hd with ⟨H,_⟩|⟨z,a,A,⟨_,e⟩|⟨I,_⟩⟩;{grind};{grind};have:=o.ord.uniq (Bb a) j (by rw[A,n]);grind};(rw[h];have q:∀i x,l[i]?=aa x->fZ x=true/\JV l i x=false/\Z7 (l.take i) (bt x.1).1=0:=λi x hx=>by grind);have D:=Vd λi x hx=>(q i x hx).2.1;refine⟨0,rfl,λ_=>⟨ai,D,λx hx=>?_,λx hx=>?_⟩,λ_=>rfl⟩;{obtain⟨i,p⟩:=bp.1 hx;grind};obtain⟨i,p⟩:=bp.1 hx;have hd:=(Rh _ (bt x.1).1 (c.take i)<|d p).2 (D.take i);rw[(q i x p).2.2] at hd;rcases hd with ⟨e,_⟩|⟨_,⟨_,e⟩|⟨y,j,n,⟨w,_⟩|⟨_,e⟩⟩⟩;{grind};{omega};{grind};omega
def pb l (c:xk l):∃b,iS (l,())=aa (b,())/\(b=true↔Valid l):=by
 unfold iS;have o:ba 64 (len l)=decide (64<l.length):=by unfold len;apply fk.2;omega
 rw[o];by_cases q:64<l.length
 .rw[cT q];exact⟨false,rfl,λh=>(by cases h),λh=>by have:=h.few;omega⟩
 rw[cj q];rcases eR (f:=vp (l,())) l (λi=>((false,i,()),())) (λi x=>!fZ x||!MI l (bt x.1).1||JV l i x) _ _ ai (λi x a e s=>by unfold vp;dsimp only;rw[aq e,aj,au a,ab,xY _ (by have:=(c.at a).1;omega),ab,ab,z7 _ (by have:=(c.at a).1;omega) (by have:=(c.at a).2.1;omega),ab];cases A:fZ x with|false=>rfl|true =>rw[aM,ag,(Lv l (bt x.1).1 c).1,ab];cases B:MI l (bt x.1).1 with|false=>rfl|true =>rw[aM,ag,s];cases i with|zero=>rw[aF aW,ag];simp[JV]|succ k =>obtain⟨y,j⟩:∃y,l[k]?=aa y:=⟨_,gQ ai⟩;rw[aT ai,aj,dc ai ai,show(((k+1:Nat):Int)-1)=k by omega,au j,ab,ab,yT _ _ (by have:=(c.at j).1;omega) (by have:=(c.at a).1;omega),ab,z6,CO j];unfold key;by_cases r:0<=cmpL (parts y.1) (parts x.1);{rw[cT r,aj];simp};rw[cj r,ag];simp) (by unfold vp;rw[aw,ag]) with ⟨i,x,a,p,_,h⟩|⟨C,h⟩
 {rw[h];refine⟨false,rfl,λh=>(by cases h),λn=>?_⟩;rw[n.may x<|kG a,Ve n.ord a] at p;simp at p;obtain⟨D,E⟩:=(Lv l (bt x.1).1 c).2.2 n.ord p;rcases n.up x (kG a) with F|⟨y,j,v,w⟩;{grind};grind};(rw[h];have d:∀i x,l[i]?=aa x->fZ x=true/\MI l (bt x.1).1=true/\JV l i x=false:=λi x a=>by grind);refine⟨true,rfl,λ_=>⟨ai,Vd λi x a=>(d i x a).2.2,λx a=>?_,λx a=>?_⟩,λ_=>rfl⟩;{obtain⟨i,e⟩:=bp.1 a;grind};obtain⟨i,e⟩:=bp.1 a;exact(Lv l (bt x.1).1 c).2.1 (d i x e).2.1
def takeWhile_eq{f:Type}{P}:∀{l:List f} {k},k<=l.length->(∀j y,j<k->l[j]?=aa y->P y=true)->(∀y,l[k]?=aa y->P y=false)->l.takeWhile P=l.take k/\l.dropWhile P=l.drop k:=by intro l;induction l with|nil=>simp|cons a r i =>intro k n d e;cases k with|zero =>have:=e a rfl;simp[ this]|succ k =>obtain⟨o,p⟩:=i (by simpa using n) (λj y q c=>d (j+1) y ai c) (λy c=>e y c);simp[ (d 0 a ai rfl),o,p]
def JW{e S R:Type}{f}(l:List e)(a:e->Bool)(i:Int->Int->List e->S)(k:Int->List e->R)(G:l.length<=4294967296)
  (c:∀(w j:Nat) L x,l[j]?=aa x->L[j]?=aa x->w<=j->j<L.length->aC .i64 w 1=((w+1:Nat):Int)->aC .i64 j 1=((j+1:Nat):Int) ->f (i w j L)=aa (.inl<|if a x=true then i w ((j+1:Nat):Int) L else i ((w+1:Nat):Int) ((j+1:Nat):Int) (L.set w x)))
  (o:∀(w:Nat) L,f (i w (L.length:Int) L)=aa (.inr<|k w L)) : ∀n w j L,l.length-j<=n->w<=j->j<=l.length->L.length=l.length->L.take w=(l.take j).filter (λx=>!a x)->L.drop j=l.drop j ->∃(w':Nat) (L':List e),Loop f (i w j L)=aa (k w' L')/\L'.length=l.length/\w'<=l.length/\L'.take w'=l.filter (λx=>!a x):=by
 intro n;induction n with|zero =>(intro w j L E y D d p s;obtain rfl:j=L.length:=ai;refine⟨w,L,?_,d,ai,?_⟩;{rw[aZ,o];rfl};rw[p,d,Ao])|succ n A =>intro w j L E y D d p s;by_cases F:j=l.length;{exact A w j L ai y D d p s};(have B:j<L.length:=ai;have hx:l[j]?=aa l[j]:=gQ ai;have C:L[j]?=aa l[j]:=by have:=congrArg (λz=>z[0]?) s;simpa [ hx] using this);(have q:L.drop (j+1)=l.drop (j+1):=by have:=congrArg (List.drop 1) s;simpa using this);(have r:l.take (j+1)=l.take j++[l[j]]:=by rw[yn,hx];rfl);rw[aZ,c w j L l[j] hx C y B (aJ ai) (aJ ai)];by_cases v:a l[j]=true;{rw[aN v];exact A w _ L ai ai ai d (by rw[p,r,Yc];simp[v]) q};rw[aK v];refine A _ _ _ ai ai ai (by simpa using d) ?_ ?_;{rw[r,Yc,<-p,yn,List.take_set_of_le (b8 w)];simp[v,show w<L.length by omega]};rw[List.drop_set_of_lt ai];exact q
def ET{α}(L:List α) w (a:w<=L.length) m:sub (over L w m) 0 (minus w 0)=L.take w:=by rw[fY];unfold over;rw[An,rO,ahx (by rw[cY];omega),GH,ah2]
def JX{α}(L:List α) w (a:w<=L.length) z:len (over L w<|oq (minus (len L) w) z)=(L.length:Int):=by unfold over oq minus len;simp;omega
def filter_one{f:Type}{l:List f}{P k x}(d:l[k]?=aa x)(i:P x=false)(h:∀j y,j≠k->l[j]?=aa y->P y=true):l.filter P=l.take k++l.drop (k+1):=by
 have e:l=l.take k++x::l.drop (k+1):=by
  conv=>lhs;rw[<-Ba k l,zm (aA d)]
  rw[(ga.1 d).2]
 conv=>lhs;rw[e]
 rw[Yc,adS,i];have n:(l.take k).filter P=l.take k:=Hp.2 λy c=>by obtain⟨j,a⟩:=bp.1 c;rw[kh] at a;split at a;{exact h j y ai a};cases a
 have o:(l.drop _).filter P=l.drop (k+1):=Hp.2 λy c=>by obtain⟨j,a⟩:=bp.1 c;rw[xw] at a;exact h _ y ai a
 rw[n,o];simp
def wk(l:List Nd)(n:Nd):List Nd:=l.takeWhile (λx=>decide (cmp x n.1<0))++n::l.dropWhile (λx=>decide (cmp x n.1<0))
def gone(p:bj)(x:Nd):Bool:=decide (x.1=p)||ek (parts x.1) (parts p)
def qN(l:List Nd)(p:bj):List Nd:=l.filter λx=>!gone p x
def Ord.filter{l}(h:Ord l) P:Ord (l.filter P):=by
 have d:l.Pairwise λx y=>cmpL (key x) (key y)<0:=by rw[D3];intro i j e f a;exact h i j _ _ a (gQ e) (gQ f)
 have c:=d.filter P;rw[D3] at c;intro i j x y a k n;obtain⟨o,p⟩:=ga.1 k;obtain⟨q,r⟩:=ga.1 n;rw[<-p,<-r];exact c i j o q a
def xk.filter{l}(h:xk l) P:xk (l.filter P):=⟨gS (X6 _ _) h.1,λx a=>h.2 x (B8.1 a).1⟩
def alS{l n k b}(h:Plc l n.1 k b):wk l n=l.take k++[n]++l.drop k:=by obtain⟨c,d⟩:=takeWhile_eq h.le (λj y e a=>cT (h.lo j y e a)) (λy a=>cj (h.hi k y (b8 _) a));unfold wk;rw[c,d];simp
def Ri{l}(q:Valid l){p}(w:p≠[])(A:∀x∈l,x.1≠p):∀m x,x∈l->(parts x.1).length<=m->ek (parts x.1) (parts p)=false:=by intro m;induction m with|zero =>intro x j k;exact cj ai|succ m B =>intro x j k;cases C:ek _ _ with|false=>rfl|true =>exfalso;obtain⟨r,f⟩:=gb C;have c:=q.may x j;unfold fZ yV at c;simp only[gC] at c;by_cases i:(bt x.1).1=[];{(have d:=c.1.1.1.1.1.1.1.2;have s:(parts x.1).length<=1:=by rcases sB x.1 with ⟨a,_⟩|⟨a,b,D,G,e⟩;{unfold parts;split;{simp};rw[qb _ a];simp};(rw[e] at i;subst i;have:=wH.1 d [] (by rw[D];show []∈cD _;rw[HZ [] aW];simp));exact absurd this aI);have:parts p=[]:=Am.1 ai;have:=dP p;rw[‹parts p=[]›] at this;exact w this.symm};have n:=yW i;rcases q.up x j with e|⟨y,v,o,E⟩;{exact absurd e i};rw[<-o] at n;rw[n] at r f;rw[ahx<|by simp at r;omega] at f;rcases xy (parts p).length (parts y.1).length with g|g;{have:=B y v (by rw[n] at k;simp at k;omega);exact absurd ⟨g,f⟩ (Yb this)};(have F:parts p=parts y.1:=by rw[<-f,Is ai]);refine A y v ?_;rw[<-dP y.1,<-F,dP]
def ac3{l}(d:Valid l){p}(e:p≠[])(a:∀x∈l,x.1≠p):qN l p=l:=Hp.2 λx c=>by unfold gone;rw[Ri d e a _ x c<|b8 _,cj (a x c)];rfl
open Classical in
noncomputable def bN(l:List Nd)(n:Nd):List Nd×Int :=
 if ¬Valid l\/fZ n=false then([],1) else if(bt n.1).1≠[]/\∀x∈l,x.1≠(bt n.1).1 then([],3) else if(bt n.1).1≠[]/\∀x∈l,x.1=(bt n.1).1->x.2.1≠2 then([],12) else let r:=if(∃x∈l,x.1=n.1/\x.2.1=2)/\n.2.1=2 then l.filter (λx=>!decide (x.1=n.1)) else qN l n.1
 if 64<=r.length then([],5) else(wk r n,0)
def aeM{n}(h:fZ n=true):n.1≠[]:=by unfold fZ yV at h;grind
def alT(l:List Nd) k (n:Nd) (a:k<=l.length) (d:l.length<=4096):bc l (k,[n],())=aa (l.take k++[n]++l.drop k):=by unfold bc vX;have c:inside 0 k _=true:=jf (qh _) a;rw[c,aP dW];simp
def Z8 r (n:Nd) (a:xk r) (d:Ord r) (j:n.1.length<=200) (c:Int) (l:c=r.length) :
  ao (cm 64 c) (aa (([]:List Nd),(5:Int),())) (ae (ev (r,n.1,())) λy=>ae (bc r (y.1,[n],())) λz=>aa (z,0,())) =aa (if 64<=r.length then([],5,()) else(wk r n,0,())):=by
 rw[z6];by_cases h:64<=r.length
 .rw[cT ai,aj,aN h]
 .rw[cj ai,ag,aK h];obtain⟨k,b,e,f,o,i⟩:=F2 r n.1 a ai;rw[e,ab,alT r k n f a.1,ab,alS (i d)]
def Z9 x p (hx:x.1.length<=200) (a:p.length<=200):ao (nt<|bA x.1 p) (ae (dv (x.1,p,())) λy=>aa y.1) (aa true)=aa (gone p x):=by rw[BF _ _ ai ai,tZ];unfold gone;cases decide (x.1=p)<;>rfl
def agr l (n:Nd) (a:xk l) (d:n.1.length<=200):(∃i x,l[i]?=aa x/\gone n.1 x=true/\(∀(j:Nat) y,j<i->l[j]?=aa y->gone n.1 y=false)/\Loop (qz (l,n,())) ((0,0,()),(),n.1,())=aa (1,((i:Int),(i:Int),()),(),n.1,())) \/  ((∀(i:Nat) x,l[i]?=aa x->gone n.1 x=false)/\Loop (qz (l,n,())) ((0,0,()),(),n.1,())=aa (0,(0,(l.length:Int),()),(),n.1,())) :=eR l (λi=>((0,i,()),_)) _ _ _ (by have:=a.1;omega) (λi x c e f=>by unfold qz;dsimp only;rw[aq e,aO ai ep,au c,ab,Z9 _ _ (a.at c).1 d,f];cases gone n.1 x<;>rfl) (by unfold qz;rw[aw,ag])
def ags l (n:Nd) (d:xk l) (q:n.1.length<=200) (i:Nat) x (hx:l[i]?=aa x) (C:gone n.1 x=true) (e:∀j y,j<i->l[j]?=aa y->gone n.1 y=false) :
  ∃(w:Nat) (L:List Nd),Loop (qA) ((i,aC IntKind.i64 i 1,(),()),(),n.1,l,())=aa (((w:Int),(l.length:Int),(),()),(),n.1,L,())/\L.length=l.length/\w<=l.length/\L.take w=qN l n.1:=by
 have hi:=aA hx;have D:=d.1;have a:l.take i=(l.take<|i+1).filter (λx=>!gone n.1 x):=by
  rw[yn];have k:(l.take i).filter (λx=>!gone n.1 x)=l.take i:=Hp.2 λy r=>by obtain⟨j,o⟩:=bp.1 r;grind
  grind
 obtain⟨w,L,k,p,s,v⟩:=JW (f:=qA) l _ (λw j L=>((w,j,_),(),n.1,L,())) (λw L=>((w,L.length,_),(),n.1,L,())) ai (λw j L x hx c E o A e=>by
  unfold qA;dsimp only;obtain⟨z,B⟩:∃z,L[w]?=aa z:=⟨_,gQ ai⟩;rw[aq o,aO ai ep,aj,au c,ab,Z9 _ _ (d.at hx).1 q,ab,e];cases gone n.1 x with|true=>rfl|false =>rw[ aO ai ep,au B,A];rfl) (λw L=>by
  unfold qA;rw[aw];rfl) l.length i _ l ai ai ai rfl a rfl
 refine⟨w,L,?_,p,s,v⟩;rw[aJ ai,k,p]
def aaa{l}(i:Ord l){n x k}(f:l[k]?=aa x)(e:x.1=n.1):l.filter (λx=>!decide (x.1=n.1))=l.take k++l.drop (k+1)/\wk (l.take k++l.drop (k+1)) n=l.take k++[n]++l.drop (k+1):=by
 have w:=aA f;have c:key x=parts n.1:=by unfold key;rw[e]
 have o:∀j y,j<k->l[j]?=aa y->cmp y n.1<0:=λj y d a=>by have:=i j k y x d a f;rw[c] at this;exact this
 have p:∀j y,k<j->l[j]?=aa y->¬cmp y n.1<0:=λj y d a s=>by have:=i k j x y d f a;rw[c] at this;have:=mx this s;rw[jL] at this;omega
 have v:(l.take k).length=k:=by rw[cY];omega
 constructor
 .refine filter_one f (by rw[cT e];rfl) λj y d a=>?_;rw[cj];rfl;intro r;have A:=Rc r;rcases xy j k with g|g;{grind};(have q:key x=key y:=by rw[c];unfold key;rw[r]);have:=i k j x y ai f a;rw[q,jL] at this;omega
 obtain⟨B,C⟩:=takeWhile_eq (l:=l.take k++l.drop (k+1)) (k:=k) (P:=λx=>decide _) (by rw[gR];omega) (λj y d a=>by
  rw[X3 ai,kh,aN d] at a;exact cT (o j y d a)) (λy a=>by
  rw[ahz ai,xw] at a;exact cj (p _ y ai a))
 unfold wk;grind
def agt{a:Type}{l:List a}{k}(c:k<l.length) n:l.set k n=l.take k++[n]++l.drop (k+1):=by rw[amP,aN c];simp
def MJ l n (f:xk l) (K:Sm n):uO (l,n,())=aa ((bN l n).1,(bN l n).2,()):=by
 obtain⟨e,M,H⟩:=my l f;have o:=K.1;unfold uO;dsimp only;rw[M,ab,aeK n ai,ab];by_cases a:¬Valid l\/fZ n=false
 .have q:bN l n=([],1):=by unfold bN;rw[aN a]
  rw[q];have:ao (nt<|nt<|aR e 0) (aa<|nt<|fZ n) (aa true)=aa true:=by rcases a with h|h;{rw[show aR e 0=false by unfold aR;exact cj λs=>h (H.1 s)];rfl};rw[h];cases nt _<;>rfl
  rw[this,ab,aj]
 have hv:Valid l:=by grind
 have N:fZ n=true:=by grind
 obtain rfl:=H.2 hv;rw[N];have:ao (nt<|nt<|aR 0 0) (aa<|nt true) (aa true)=aa false:=rfl;rw[this,ab,ag,r9 _ ai,ab];obtain⟨d,O,P⟩:=aeL l (bt n.1).1 f (by have:=Rf n.1;omega);rw[O,ab];by_cases E:(¬((bt n.1).1≠[]/\∀x∈l,x.1≠(bt n.1).1))/\(¬((bt n.1).1≠[]/\∀x∈l,x.1=(bt n.1).1->x.2.1≠2))/\d=0
 .obtain⟨Q,R,F⟩:=E;subst F;have q:bN l n=(let r:=if(∃x∈l,x.1=n.1/\x.2.1=2)/\n.2.1=2 then l.filter (λx=>!decide (x.1=n.1)) else qN l n.1
    if 64<=r.length then([],5) else(wk r n,0)):=by
   unfold bN;rw[aK a,aK Q,aK R]
  (rw[show nt _=false by rfl,ag];obtain⟨k,b,S,p2,p3,T⟩:=F2 l n.1 f ai;have p:=T hv.ord;rw[S,ab];obtain⟨C,U,V⟩:∃C,ao b (ae (idx l k) λy=>aa (aR y.2.1 2)) _=aa C/\(ao C (aR n.2.1 2) false=true↔((∃x∈l,x.1=n.1/\x.2.1=2)/\n.2.1=2)):=by cases b with|false =>refine⟨false,rfl,?_⟩;exact⟨λh=>(by cases h),λ⟨⟨x,hx,e,_⟩,_⟩=>absurd e (p.no rfl x hx)⟩|true =>obtain⟨x,hx,e⟩:=p.is rfl;refine⟨aR x.2.1 2,by rw[aj,au hx,ab],?_⟩;rw[kX,gC];unfold aR;rw[zn,zn];refine⟨λh=>⟨⟨x,kG hx,e,h.1⟩,h.2⟩,λ⟨⟨y,hy,W,X⟩,h2⟩=>?_⟩;have:=hv.ord.uniq (kG hx) hy (by rw[e,W]);grind);rw[U,ab];by_cases c:(∃x∈l,x.1=n.1/\x.2.1=2)/\n.2.1=2;{(rw[V.2 c,aj];have D:b=true:=by cases b with|true=>rfl|false=>obtain⟨⟨x,hx,e,_⟩,_⟩:=c;exact absurd e (p.no rfl x hx));obtain⟨x,hx,e⟩:=p.is D;have Y:=aA hx;rw[ej (by have:=f.1;omega),aj,aO ai ep,aj,au hx,ab,ab,ab,Jz];obtain⟨Z,s2⟩:=aaa hv.ord hx e;have I:=hv.few;rw[aN c,Z] at q;have G:¬64<=(l.take k++l.drop (k+1)).length:=dW;rw[q];simp only[G,if_false];rw[s2,agt Y]};(have hs:ao C (aR n.2.1 2) false=false:=by grind);rw[hs,ag,ab,show nt _=false by rfl,ag,ej (by have:=f.1;omega),aj];rcases agr l n f o with ⟨i,x,hx,E,D,h⟩|⟨D,h⟩;{(obtain⟨w,L,w1,w2,w3,J⟩:=ags l n f o i x hx E D;rw[h,ab,js,ag,show aR i (-1)=false by exact cj ai,ag,w1,ab];dsimp only;rw[aV ai ep<|sK _,JX L w ai,aV (sK _) ai ai,ET L w ai,J];have hlen:(qN l n.1).length=w:=by rw[<-J,cY];omega);refine Bd (Z8 (qN l n.1) n (f.filter _) (hv.ord.filter _) o _<|by unfold minus;omega) ?_;grind};(have hr:qN l n.1=l:=Hp.2 λx hx=>by obtain⟨j,hj⟩:=bp.1 hx;grind);rw[h,ab,cu,aj,show aR (-1) (-1)=true by rfl,aj];have tv:=Z8 l n f hv.ord o (len l) rfl;grind
 rcases P hv.ord with ⟨s,v⟩|⟨s,⟨c,v⟩|⟨x,hx,A,⟨B,v⟩|⟨B,v⟩⟩⟩;{grind};{(subst v;have q:bN l n=([],3):=by unfold bN;rw[aK a,aN ⟨s,c⟩]);rw[q];rfl};{grind};(subst v;have q:bN l n=([],12):=by unfold bN;rw[aK a,aK (λh=>h.2 x hx A),aN ⟨s,λy hy e=>by have:=hv.ord.uniq hx hy (by rw[A,e]);subst this;exact B⟩]);rw[q];rfl
def kb(l:List Nd)(p:bj)(b:Bool):List Nd:=l.filter λx=>!ek (parts x.1) (parts p)&&(!b||!decide (x.1=p))
def EU l p b (d:xk l) (j:p.length<=4096):jE (l,p,b,())=aa (kb l p b,()):=by
 unfold jE;have q:=d.1;have c:∀m,m.flatMap (λx=>if(!ek (parts x.1) (parts p)&&(!b||!decide (x.1=p)))=true then [x] else [])=kb m p b:=by intro m;unfold kb;induction m with|nil=>rfl|cons a r s =>grind
 have h:=hU (f:=ma (l,p,b,())) l (λa i=>(((),i,()),a,())) (λx=>if(!ek (parts x.1) (parts p)&&(!b||!decide (x.1=p)))=true then [x] else []) _ ai (λi x e k n=>by
  unfold ma;have hlen:((l.take i).flatMap λx=>if(!ek (parts x.1) (parts p)&&(!b||!decide (x.1=p)))=true then [x] else []).length<=4096:=by rw[c];unfold kb;grind
  rw[aq k,au e,ab,W7 _ _ (by have:=(d.at e).1;omega) j,ab,ab,ab,n,aP (by simp only[VL];omega),tZ];cases ek _ _<;>cases b<;>cases decide (x.1=p)<;>simp[ao,nt,ae,cf,app]) (by
  unfold ma;rw[aw,c];rfl)
 have o:Loop _ _=aa _:=h;rw[o,ab]
def TE l p:kb l p true=qN l p:=by unfold kb qN;unfold gone;grind
def aab(l r:List Nd)(n:Nd)(e:xk r)(o:n.1.length<=200):∃k,k<=r.length/\Loop (lu (l,n,()) ((r,()),())) ((0,()),())=aa (((k:Int),()),())/\wk r n=r.take k++[n]++r.drop k:=by
 have B:=e.1;rcases eR (f:=lu (l,n,()) ((r,()),())) r (λi=>((i,()),())) (λ_ x=>!decide (cmp x n.1<0)) _ _ ai (λi x c p q=>by
  unfold lu;dsimp only;rw[aq p,au c,ab,yT _ _ (by have:=(e.at c).1;omega) ai,ab,q];unfold cmp ba;cases decide (cmpL _ _<0)<;>rfl) (by
  unfold lu;rw[aw];rfl) with ⟨i,x,c,s,v,h⟩|⟨o,h⟩
 .refine⟨i,by have:=aA c;omega,h,?_⟩;obtain⟨w,A⟩:=takeWhile_eq (l:=r) (k:=i) (P:=λx=>decide _) (by have:=aA c;omega) (λj y d a=>by
   have:=v j y d a;simpa using this) (λy a=>by
   rw[c] at a;obtain rfl:=aU a;simpa using s)
  unfold wk
  grind
 .refine⟨r.length,b8 _,h,?_⟩;obtain⟨w,A⟩:=takeWhile_eq (P:=λx=>decide _) (b8 _) (λj y d a=>by
   have:=o j y a;simpa using this) (λy a=>by
   have:=aA a;omega)
  unfold wk
  grind
def EV(l r:List Nd)(n:Nd)(d:xk r)(e:n.1.length<=200) :
  ao (cm 64<|len r) (aa (([]:List Nd),(5:Int),())) (ae (Loop (lu (l,n,()) ((r,()),())) ((0,()),())) λa=>ao (inside 0 a.1.1<|len r)
   (ao (fits<|plus (len ([]:List Nd))<|len<|sub r 0<|minus a.1.1 0)
   (ao (fits<|plus (len<|app ([]:List Nd)<|sub r 0<|minus a.1.1 0)<|len [n])
   (ao (inside a.1.1 (len r)<|len r)
   (ao (fits<|plus (len<|app (app ([]:List Nd)<|sub r 0<|minus a.1.1 0) [n])<|len<|sub r a.1.1<|minus (len r) a.1.1)
   (aa (app (app (app ([]:List Nd)<|sub r 0<|minus a.1.1 0) [n])<|sub r a.1.1<|minus (len r) a.1.1,0,())) af) af) af) af) af)=aa (if 64<=r.length then([],5,()) else(wk r n,0,())):=by
 rw[z6];by_cases h:64<=r.length
 .rw[cT ep,aj,aN h]
 .rw[cj ep,aK h];obtain⟨k,c,f,i⟩:=aab l r n d e;rw[f,ab];have j:inside 0 k _=true:=jf (qh _) c;have o:inside k (len r) _=true:=aV ai ep (sK _);rw[j,fY,je r k c,o,(aP dW),(aP<|by rw[hJ];simp;omega),(aP<|by rw[hJ,hJ];simp;omega),i];rfl
def EW l n (j:xk l) (H:Sm n):oP (l,n,())=aa ((bN l n).1,(bN l n).2,()):=by
 obtain⟨e,K,I⟩:=pb l j;have q:=H.1;have T:=j.1;unfold oP;dsimp only;rw[K,ab,z7 n ai (by have:=H.2.1;omega),ab];by_cases c:¬Valid l\/fZ n=false
 .have k:bN l n=([],1):=by unfold bN;rw[aN c]
  rw[k];have:ao (nt<|nt e) (aa<|nt<|fZ n) (aa true)=aa true:=by rcases c with h|h;{(rw[show e=false by cases e with|false=>rfl|true=>exact absurd (I.1 rfl) h]);rfl};rw[h];cases nt _<;>rfl
  rw[this,ab,aj]
 have hv:Valid l:=by grind
 have J:fZ n=true:=by grind
 obtain rfl:=I.2 hv;rw[J];have:ao (nt<|nt true) (aa<|nt true) (aa true)=aa false:=rfl;rw[this,ab,xY _ ai,ab];obtain⟨v,L,M⟩:∃v,ao (nt<|bA (bt n.1).1 []) (ae (ic (l,(bt n.1).1,())) λy=>aa (ba y.1 0)) (aa false)=aa v/\(v=true↔((bt n.1).1≠[]/\∀x∈l,x.1≠(bt n.1).1)):=by by_cases w:(bt n.1).1=[];{refine⟨false,by rw[w];rfl,λh=>(by cases h),λh=>absurd w h.1⟩};rw[bg w,aE,aj];rcases ES l (bt n.1).1 j with ⟨i,x,s,f,h⟩|⟨o,h⟩;{refine⟨false,by rw[h,ab,aF ai],λh=>(by cases h),λh=>absurd f (h.2 x<|kG s)⟩};exact⟨true,by rw[h];rfl,λ_=>⟨w,o⟩,λ_=>rfl⟩
 rw[L,ab];by_cases A:(bt n.1).1≠[]/\∀x∈l,x.1≠(bt n.1).1;{(have k:bN l n=([],3):=by unfold bN;rw[aK c,aN A]);rw[M.2 A,k];rfl}
 (have:v=false:=by grind);rw[this];obtain⟨d,N,U,O⟩:=Re l (bt n.1).1 j;rw[N,ab];by_cases B:(bt n.1).1≠[]/\∀x∈l,x.1=(bt n.1).1->x.2.1≠2;{(have k:bN l n=([],12):=by unfold bN;rw[aK c,aK A,aN B]);(have:d=false:=by grind);rw[this,k];rfl}
 have:d=true:=by cases d with|true=>rfl|false=>exact absurd (O hv.ord rfl) B
 rw[this];have k:bN l n=(let r:=if(∃x∈l,x.1=n.1/\x.2.1=2)/\n.2.1=2 then l.filter (λx=>!decide (x.1=n.1)) else qN l n.1
   if 64<=r.length then([],5) else(wk r n,0)):=by
  unfold bN;rw[aK c,aK A,aK B]
 rcases ES l n.1 j with ⟨i,x,s,f,h⟩|⟨o,h⟩;{have hi:=aA s;have p:=kG s;rw[h,ab,bL ai,aj,au s,ab,ab];by_cases a:x.2.1=2/\n.2.1=2;{obtain⟨P,V⟩:=aaa hv.ord s f;rw[aN<|show((∃x∈l,x.1=n.1/\x.2.1=2)/\n.2.1=2) from⟨⟨x,p,f,a.1⟩,a.2⟩] at k;have Q:inside 0 i (len l)=true:=jf (qh _) ai;rw[ay a.1,ay a.2,Q,fY,aJ ai,(aV ai ep<|sK _),je l _ ai,(aP dW),(aP<|by rw[hJ,Gn,cY,qo];omega)];refine Bd (EV l (l.take i++l.drop _) n (by rw[<-P];apply j.filter) q) ?_;grind};(have R:ao (aR x.2.1 2) (aR n.2.1 2) false=false:=by unfold aR;by_cases C:x.2.1=2;{rw[cT C];exact cj λD=>a ⟨C,D⟩};rw[cj C,ag]);(rw[aK (show ¬((∃x∈l,x.1=n.1/\x.2.1=2)/\n.2.1=2) from λh=>by obtain⟨⟨y,E,F,G⟩,D⟩:=h;have:=hv.ord.uniq p E (by rw[f,F]);subst this;exact a ⟨G,D⟩)] at k);rw[R,EU l n.1 true j ai,TE];refine Bd (EV l _ n (j.filter _) q) ?_;grind};have S:¬((∃x∈l,x.1=n.1/\x.2.1=2)/\n.2.1=2):=λ⟨⟨y,E,F,_⟩,_⟩=>o y E F;rw[ ac3 hv (aeM J) o] at k;rw[h];refine Bd (EV l l n j q) ?_;grind
def aeN:Nd:=([],0,0,[],[],())
def findF(l:List Nd)(p:bj):Nd×Bool×al:=match l.find? λx=>decide (x.1=p) with|some x=>(x,true,())|none=>(aeN,false,())
def H7{l p}(h:∀x∈l,x.1≠p):findF l p=(aeN,false,()):=by unfold findF;rw[Pf.2 λx a=>by simp[h x a]]
def CP{l}(d:Ord l){p x}(c:x∈l)(e:x.1=p):findF l p=(x,true,()):=by unfold findF;cases h:l.find? λx=>decide (x.1=p) with|none=>have:=Pf.1 h x c;simp[e] at this|some y =>(have a:=Pn h;have a:y.1=p:=by simpa using a);have:=d.uniq c (X0 h) (by rw[e,a]);subst this;rfl
def agu l p (c:xk l) (f:p.length<=4096) (hv:Valid l):zO (l,p,())=aa (findF l p):=by obtain⟨e,i,j⟩:=my l c;obtain rfl:=j.2 hv;obtain⟨k,b,n,q,r,o⟩:=F2 l p c f;have a:=o hv.ord;unfold zO;rw[i,ab,show nt _=false by rfl,ag,n,ab];cases b with|false=>rw[ H7 (a.no rfl)];rfl|true =>obtain⟨x,d,e⟩:=a.is rfl;rw[aM,ag,au d,ab,CP hv.ord (kG d) e]
def alU:List Nd->Bool|a::b::r=>decide (cmpL (key a) (key b)<0)&&alU (b::r)|_=>true
def ajI:∀{l},alU l=true->Ord l:=by intro l h;refine Rg ?_;induction l with|nil=>intro k x y c;simp at c|cons a r e =>cases r with|nil=>intro k x y c d;simp at d|cons b r =>simp only[alU,gC,zn] at h;intro k x y c d;cases k with|zero =>(obtain rfl:a=x:=by simpa using c);(obtain rfl:b=y:=by simpa using d);exact h.1|succ k=>exact e h.2 k x y c d
def Rj(l:List Nd):Bool:=decide (l.length<=64)&&alU l&&l.all fZ&&l.all λx=>decide ((bt x.1).1=[])||l.any λy=>decide (y.1=(bt x.1).1)&&decide (y.2.1=2)
def CQ{l}(h:Rj l=true):Valid l:=by unfold Rj at h;simp only[gC,zn] at h;refine⟨h.1.1.1,ajI h.1.1.2,λx a=>wH.1 h.1.2 x a,λx a=>?_⟩;have:=wH.1 h.2 x a;simp only[Iw,zn,SM,gC] at this;exact this
def nD:Nd:=([100],2,493,[],[],())
def nA:Nd:=([100,47,97],1,420,[120],[],())
def ac4:Rj []=true/\Rj [nD]=true/\Rj [nD,nA]=true:=by decide +kernel
set_option synthInstance.maxHeartbeats 200000 in
set_option synthInstance.maxSize 4000 in
instance asv:DecidableEq Nd:=inferInstance
def Vf a r n:wk (a::r) n=if cmp a n.1<0 then a::wk r n else n::a::r:=by
 unfold wk;by_cases h:cmp a n.1<0
 {rw[aN h];simp[h]};rw[aK h];simp[h]
def wm{r n x}:x∈wk r n↔x=n\/x∈r:=by induction r with|nil=>simp[wk]|cons a r c =>rw[Vf];split;{rw[eK,c,eK];constructor;{rintro(h|h|h);{exact .inr (.inl h)};{exact .inl h};exact .inr (.inr h)};rintro(h|h|h);{exact .inr (.inl h)};{exact .inl h};exact .inr (.inr h)};rw[eK]
def ajJ r n:(wk r n).length=r.length+1:=by unfold wk;rw[gR,iG,<-Ht,<-gR,Al]
def BO{l}:Ord l↔l.Pairwise λx y=>cmpL (key x) (key y)<0:=by
 constructor
 {intro h;rw[D3];intro i j c d a;exact h i j _ _ a (gQ c) (gQ d)};intro h i j x y a e f;rw[D3] at h;obtain⟨k,n⟩:=ga.1 e;obtain⟨o,p⟩:=ga.1 f;rw[<-n,<-p];exact h i j k o a
def ajK{r n}(c:Ord r)(d:∀x∈r,x.1≠n.1):Ord (wk r n):=by rw[BO] at c⊢;induction r with|nil=>simp[wk]|cons a r i =>rw[ym] at c;rw[Vf];split;{rename_i h;refine ym.2 ⟨λy hy=>?_,i c.2 λx j=>d x (by simp[j])⟩;rcases wm.1 hy with rfl|hy;{exact h};exact c.1 y hy};(rename_i h;have f:cmpL (key n) (key a)<0:=by have k:cmp a n.1≠0:=λe=>d a aW (Z6 e);have l:cmpL _ (key a)=- cmpL _ (key n):=QO _ _;have o:cmp a n.1=cmpL (key a) (key n):=rfl;omega);refine ym.2 ⟨λy hy=>?_,ym.2 c⟩;rcases eK.1 hy with rfl|hy;{exact f};exact mx f (c.1 y hy)
def Rk{x y:Nd}{p}(c:(bt x.1).1≠[])(e:y.1=(bt x.1).1)(h:ek (parts y.1) (parts p)=true):ek (parts x.1) (parts p)=true:=by
 have a:=yW c;rw[<-e] at a;obtain⟨f,d⟩:=gb h;refine cT ⟨?_,?_⟩
 {rw[a,gR];omega};rw[a,ahx ai,d]
def H8{x:Nd}(c:(bt x.1).1≠[]):ek (parts x.1) (parts (bt x.1).1)=true:=by
 have a:=yW c;refine cT ⟨?_,?_⟩
 {rw[a];simp};rw[a];simp
def OV(l:List Nd)(n:Nd)(r:List Nd):Prop :=(((∃x∈l,x.1=n.1/\x.2.1=2)/\n.2.1=2)/\r=l.filter λx=>!decide (x.1=n.1))\/((¬((∃x∈l,x.1=n.1/\x.2.1=2)/\n.2.1=2))/\r=qN l n.1)
def Rl l n:((bN l n).1=[]/\(bN l n).2≠0) \/
  (Valid l/\fZ n=true/\((bt n.1).1=[]\/∃x∈l,x.1=(bt n.1).1/\x.2.1=2)/\∃r,OV l n r/\r.length<64/\bN l n=(wk r n,0)):=by
 unfold bN;by_cases c:¬Valid l\/fZ n=false
 .rw[aN c];exact .inl ⟨rfl,aI⟩
 .rw[aK c];by_cases d:(bt n.1).1≠[]/\∀x∈l,x.1≠(bt n.1).1;{rw[aN d];exact .inl ⟨rfl,aI⟩}
  rw[aK d];by_cases i:(bt n.1).1≠[]/\∀x∈l,x.1=(bt n.1).1->x.2.1≠2;{rw[aN i];exact .inl ⟨rfl,aI⟩}
  rw[aK i];have hv:=nF λh=>c (.inl h);have j:fZ n=true:=by
   cases h:fZ n with
   | true=>rfl
   | false=>exact absurd (.inr h) c
  have k:(bt n.1).1=[]\/∃x∈l,x.1=(bt n.1).1/\x.2.1=2:=by
   by_cases o:(bt n.1).1=[]
   .exact .inl o
   .right;refine nF λh=>i ⟨o,λx p e d=>h ⟨x,p,e,d⟩⟩
  by_cases f:(∃x∈l,x.1=n.1/\x.2.1=2)/\n.2.1=2
  .simp only[aN f];by_cases a:64<=(l.filter λx=>!decide (x.1=n.1)).length
   .rw[aN a];exact .inl ⟨rfl,aI⟩
   .rw[aK a];exact .inr ⟨hv,j,k,_,.inl ⟨f,rfl⟩,ai,rfl⟩
  .simp only[aK f];by_cases a:64<=(qN l n.1).length
   .rw[aN a];exact .inl ⟨rfl,aI⟩
   .rw[aK a];exact .inr ⟨hv,j,k,_,.inr ⟨f,rfl⟩,ai,rfl⟩
def OV.sub{l r n}(h:OV l n r):(∀x∈r,x∈l/\x.1≠n.1)/\∃P,r=l.filter P:=by
 rcases h with ⟨_,rfl⟩|⟨_,rfl⟩
 {refine⟨λx a=>?_,_,rfl⟩;have:=B8.1 a;simpa using this};refine⟨λx a=>?_,_,rfl⟩;have:=B8.1 a;unfold gone at this;simp at this;exact⟨this.1,this.2.1⟩
def Vg{l r n}(q:Valid l)(w:fZ n=true)(A:(bt n.1).1=[]\/∃x∈l,x.1=(bt n.1).1/\x.2.1=2)(p:OV l n r)(B:r.length<64):Valid (wk r n):=by
 obtain⟨d,P,C⟩:=p.sub;refine⟨by rw[ajJ];omega,ajK (by rw[C];exact q.ord.filter P) λx hx=>(d x hx).2,λx hx=>?_,λx hx=>?_⟩
 .rcases wm.1 hx with rfl|hx;{exact w};exact q.may x (d x hx).1
 rcases wm.1 hx with rfl|hx
 · rcases A with h|⟨y,k,c,f⟩;{exact .inl h};by_cases j:(bt x.1).1=[];{exact .inl j};(right;refine⟨y,wm.2 (.inr ?_),c,f⟩;have a:=H8 j;rw[<-c] at a;have hlen:(parts y.1).length<(parts x.1).length:=by exact(gb a).1);(have o:y.1≠x.1:=λe=>by rw[e] at hlen;omega);(have s:ek (parts y.1) (parts x.1)=false:=by exact cj λh=>ai);rcases p with ⟨_,rfl⟩|⟨_,rfl⟩;{exact B8.2 ⟨k,by simp[o]⟩};exact B8.2 ⟨k,by unfold gone;simp[o,s]⟩
 .rcases q.up x (d x hx).1 with h|⟨y,k,c,f⟩;{exact .inl h};by_cases j:(bt x.1).1=[];{exact .inl j};right;have a:=H8 j;by_cases e:y.1=n.1;{rcases p with ⟨D,rfl⟩|⟨_,rfl⟩;{exact⟨n,wm.2 (.inl rfl),by rw[<-e,c],D.2⟩};have:=(B8.1 hx).2;rw[<-c,e] at a;unfold gone at this;rw[a] at this;simp at this};refine⟨y,wm.2 (.inr ?_),c,f⟩;rcases p with ⟨_,rfl⟩|⟨_,rfl⟩;{exact B8.2 ⟨k,by simp[e]⟩};refine B8.2 ⟨k,?_⟩;have i:=(B8.1 hx).2;unfold gone at i⊢;cases v:ek _ _ with|false=>simp[e]|true =>rw[Rk j c v] at i;simp at i
def Rm(a:List bj):Prop:=∀x∈a,47∉x/\x≠[]
def gG(m:Int)(p:bj):Nd:=(p,(2:Int),m,([]:bj),([]:bj),())
def eS(a:List bj)(j:Nat):bj:=aX (a.take<|j+1)
def uc(a:List bj)(k:Nat):List Nd:=(List.range k).map λj=>gG 0 (eS a j)
def aac ns k:uc ns (k+1)=uc ns k++[gG 0<|eS ns k]:=by unfold uc;rw[List.range_succ,Po];rfl
def yX ns k:(uc ns k).length=k:=by unfold uc;rw[qg,L9]
def sa{ns}(h:Rm ns){i x}(c:ns[i]?=aa x):sC (aX<|ns.take i) x=eS ns i:=by
 have d:ns.take (i+1)=ns.take i++[x]:=by rw[yn,c];rfl
 have:=Q0 [x] _ (λy a=>by rw[<-d] at a;exact h y (Bb a))
 unfold eS;grind
def EX:∀ns k,(aX<|ns.take k).length<=(aX ns).length:=by intro ns;induction ns with|nil=>simp|cons x r a =>intro k;cases k with|zero=>simp[aX]|succ k =>rw[adN];cases r with|nil=>simp|cons y r =>cases k with|zero=>simp[aX]|succ k =>have:=a (k+1);rw[adN] at this⊢;simp only[aX,gR,iG] at this⊢;omega
def GX:∀c x,x∈c->x.length<=(aX c).length:=by intro c;induction c with|nil=>intro x d;cases d|cons a r e =>intro x d;cases r with|nil =>rw[D5] at d;subst d;simp[aX]|cons b r =>simp only[aX];grind
def MK(a:List bj):Prop:=Rm a/\a.length<=16/\(aX a).length<=200
def MK.ud{ns}(h:MK ns) k:(aX<|ns.take k).length<=200:=gS (EX ns k) h.2.2
def MK.OW{ns}(h:MK ns){x}(a:x∈ns):x.length<=200:=gS (GX ns x a) h.2.2
def MK.take{ns}(h:MK ns) k:MK (ns.take k):=⟨λx a=>h.1 x (Bb a),by rw[cY];have:=h.2.1;omega,h.ud k⟩
def ML ns (h:MK ns):Loop (hS (ns,())) (((),([]:bj),0,()),([]:List Nd),()) =
  aa (((),aX ns,(ns.length:Int),()),uc ns ns.length,()):=by
 obtain⟨t,n,o,_⟩:=sz (f:=hS (ns,())) ns (λs i=>(((),s.1,i,()),s.2,())) (λs i x=>(sC s.1 x,s.2++[gG 0 _])) _
  (λs i=>s.1=aX (ns.take i)/\s.2=uc ns i) (by have:=h.2.1;omega) (λs i x d e a c=>by
   have j:=h.OW (kG d);have k:=h.ud i;have hlen:=yX ns i;have l:=h.2.1;constructor;{unfold hS;rw[aq e,au d,ab,Ln _ _ (by rw[c.1];omega) ai,ab,aP (by rw[c.2];simp;omega),a];rfl}
   .dsimp only;rw[c.1,c.2,sa h.1 d,aac];exact⟨rfl,rfl⟩) (λs _=>by
   unfold hS;rw[aw];rfl) ([],[]) ⟨by simp[aX],rfl⟩
 grind
def preB(a:List bj)(k:Nat):Bool:=(List.range k).all λj=>fZ (gG 0<|eS a j)
def Rn{ns}(h:Rm ns){j}(d:j<ns.length):(bt<|eS ns j).1=aX (ns.take j):=by
 have a:ns.take (j+1)≠[]:=by intro e;simp_all
 unfold eS;rw[EN (λx c=>h x (Bb c)) a,X7];grind
def yY{ns}(h:Rm ns) j:parts (eS ns j)=ns.take (j+1):=ka _ λx a=>h x (Bb a)
def uY{ns}(h:Rm ns):aX ns=[]↔ns=[]:=by
 constructor
 {intro e;have:=ka ns h;rw[e] at this;exact this.symm};rintro rfl;rfl
def ac5{ns}(h:MK ns)(l:ns≠[]){n}(s:n.1=aX ns) :
  Valid (uc ns (ns.length-1)++[n])↔(preB ns (ns.length-1)=true/\fZ n=true):=by
 have a:∀j x,(uc ns (ns.length-1)++[n])[j]?=aa x->x.1=eS ns j/\j<ns.length/\(j<ns.length-1->x=gG 0 (eS ns j)):=by intro j x hx;rw[VM,yX] at hx;by_cases c:j<ns.length-1;{rw[aN c] at hx;unfold uc at hx;rw[B7,SL c] at hx;obtain rfl:=aU hx;exact⟨rfl,ai,λ_=>rfl⟩};(rw[aK c] at hx;have:j-(ns.length-1)=0:=by grind);unfold eS;grind
 constructor
 .intro f;refine⟨?_,f.may n aW⟩;unfold preB;rw[wH];intro j c;refine f.may _ (Gm _ ?_);unfold uc
  grind
 .rintro⟨o,v⟩;unfold preB at o;refine⟨?_,?_,?_,?_⟩;{rw[gR,yX];have:=h.2.1;grind};{(intro i j x y p hx q;obtain⟨d,k,_⟩:=a i x hx;obtain⟨r,w,_⟩:=a j y q;unfold key;rw[d,r,yY h.1,yY h.1];have e:ns.take (j+1)=ns.take (i+1)++(ns.take<|j+1).drop (i+1):=by have:=(Ba (i+1)<|ns.take<|j+1).symm;grind);rw[e,Zx];{decide};grind};{intro x hx;rcases Gp.1 hx with hx|hx;{obtain⟨j,c,rfl⟩:=Bc.1 hx;grind};grind};intro x hx;obtain⟨j,c⟩:=bp.1 hx;obtain⟨d,k,_⟩:=a j x c;rw[d,Rn h.1 k];cases j with|zero=>left;rfl|succ j =>right;refine⟨gG 0<|eS ns j,Gm _ ?_,rfl,rfl⟩;grind
def Ro{ns}(h:MK ns)(a:ns≠[]){n}(d:n.1=aX ns)(l:Sm n) :
  ez (n,())=aa (preB ns (ns.length-1)&&fZ n,()):=by
 have f:bt n.1=(aX ns.dropLast,ns.getLast a):=by rw[d];exact EN h.1 a
 have o:=h.ud (ns.length-1);have c:MK (ns.take<|ns.length-1):=h.take _;have i:uc (ns.take<|ns.length-1) (ns.take<|ns.length-1).length=uc ns (ns.length-1):=by rw[cY,yo ai];apply Pd;unfold eS;grind
 unfold ez;rw[r9 n.1 (by have:=l.1;omega),ab,f];dsimp only;rw[X7,sA _ ai,ab,(ka _ c.1),ML _ c,ab,i,bg<|by rw[d];exact λe=>a ((uY h.1).1 e),aE,aj,aP (by rw[yX];have:=h.2.1;simp;omega),aj];have k:xk (uc ns (ns.length-1)++[n]):=⟨by rw[gR,yX];have:=h.2.1;simp;omega,λx hx=>by rcases Gp.1 hx with hx|hx;{obtain⟨j,r,rfl⟩:=Bc.1 hx;exact⟨h.ud _,by simp[gG],by simp[gG]⟩};rw[D5] at hx;subst hx;exact l⟩
 obtain⟨e,p,q⟩:=my _ k;rw[hJ,p,ab,show aR e 0=_ by rw[Iy,gC,<-(ac5 h a d),<-q];unfold aR;simp]
def alV{n}(h:fZ n=true):fZ (gG 0 n.1)=true:=by unfold fZ at h⊢;simp at h⊢;exact⟨⟨⟨h.1.1.1,by simp[gG]⟩,by simp[gG]⟩,by simp[Vc,gG]⟩
def AM{ns}(h:MK ns):lC (aX ns,())=aa (preB ns ns.length&&decide (ns≠[]),()):=by
 have e:=h.ud ns.length;rw[Ao] at e;unfold lC;dsimp only;rw[ix _ ai,ab,(ka _ h.1)];have key:∀d k,k+d=ns.length->(∀j,j<k->fZ (gG 0<|eS ns j)=true) ->
   ∃r,Loop (gM (ns,())) ((false,aX<|ns.take k,(k:Int),()),())=aa r/\((r.1=0/\preB ns ns.length=true)\/(r.1=1/\r.2.1.1=false/\preB ns ns.length=false)):=by
  intro d;induction d with|zero =>(intro k q a;obtain rfl:k=ns.length:=ai;refine⟨(0,(false,aX<|ns.take ns.length,ns.length,()),()),?_,.inl ⟨rfl,?_⟩⟩;{rw[aZ];unfold gM;rw[aw];rfl};unfold preB;grind)|succ d s =>(intro k q a;have hx:ns[k]?=aa ns[k]:=gQ ai;have v:=h.OW (ahO<|show k<ns.length by omega);have w:=h.ud k;have n:=h.ud (k+1);have x:=h.2.1;have step:gM (ns,()) ((false,aX<|ns.take k,k,()),())=aa (if fZ (gG 0<|eS ns k)=true then .inl ((false,eS ns k,((k+1):Int),()),()) else .inr (1,(false,eS ns k,k,()),())):=by unfold gM;dsimp only;have c:=z7 (gG 0<|eS ns k) (by show(eS ns k).length<=4096;unfold eS;omega) (by simp[gG]);unfold gG at c;rw[aq ai,au hx,ab,CL _ _ ai ai,ab,sa h.1 hx,c,aJ ai];unfold gG;cases fZ _<;>rfl);by_cases c:fZ (gG 0<|eS ns k)=true;{(rw[aN c] at step;obtain⟨r,o,f⟩:=s (k+1) ai (λj y=>by by_cases A:j=k;{grind};exact a j ai));exact⟨r,by rw[aZ,step];exact o,f⟩};rw[aK c] at step;refine⟨_,by rw[aZ,step];rfl,.inr ⟨rfl,rfl,?_⟩⟩;unfold preB;grind
 obtain⟨r,o,f⟩:=key ns.length 0 ai (λj y=>ai);have i:Loop (gM (ns,())) ((false,([]),0,()),())=aa r:=by
  have:aX (ns.take 0)=[]:=by simp[aX]
  grind
 rw[i,ab];rcases f with ⟨l,p⟩|⟨l,p,B⟩
 {rw[l,show cF 0 0=true from rfl,aj];unfold nt bA;have:=uY h.1;grind};rw[l,p,B];rfl
def wo(a:List bj):Bool:=preB a a.length&&decide (a≠[])
def Xe{ns}(a:ns≠[]):preB ns ns.length=(preB ns (ns.length-1)&&fZ (gG 0<|aX ns)):=by
 unfold preB;have:eS ns (ns.length-1)=aX ns:=by unfold eS;rw[Is ai]
 grind
def agv{ns}(a:ns≠[]){n}(d:n.1=aX ns):(preB ns (ns.length-1)&&fZ n)=(fZ n&&wo ns):=by unfold wo;rw[Xe a];cases c:fZ n with|false=>simp|true =>have:=alV c;grind
def ac6{n:Nd}(c:n.1=[]):ez (n,())=aa (false,()):=by unfold ez;have a:bt ([])=([],[]):=aI;rw[c,r9 _ aW,ab,a,sA _ aW,ab,show parts []=[] from rfl];have:=ML [] ⟨λx d=>(by cases d),aW,(by simp[aX])⟩;rw[this];rfl
def Vh{ns}(h:MK ns):mO (aX ns,())=aa (decide (ns=[])||wo ns,()):=by
 unfold mO;by_cases a:ns=[]
 {subst a;rfl};have c:=λe=>a ((uY h.1).1 e);have d:Sm (gG 0 _):=⟨h.2.2,by simp[gG],by simp[gG]⟩;have:=Ro h a rfl d;unfold gG at this;rw[bg c,this,cj a];unfold wo;rw[Xe a,cT a,ahZ];rfl
def mz(p:Pt)(a:bj):Nd:=(a,p.1.2.1,p.1.2.2.1,p.2.1,p.1.2.2.2.2.2.2.2.1,())
def wT(p:Pt):Bool:=decide (p.1.2.1=1)&&decide (p.2.1=[])
def yZ(ns:List bj):List bj:=ns.dropLast++[(oi<|ns.getLastD []).2]
def bW(p:Pt):Int×List bj×Bool :=
 if oh p.1.1=true then
  let ns:=names p.1.1
  if(oi<|ns.getLastD []).1=1 then(1,yZ ns,wT p&&wo (yZ ns)) else if(oi<|ns.getLastD []).1=2 then(2,ns.dropLast,wT p&&(decide (ns.dropLast=[])||wo ns.dropLast)) else if(oi<|ns.getLastD []).1=0 then(0,ns,(decide (ns=[])&&decide (p.1.2.1=2))||(fZ (mz p<|aX ns)&&wo ns)) else(0,[],false)
 else(0,[],false)
def EY{s}(h:oh s=true):MK (names s):=by obtain⟨c,d,e⟩:=sD h;exact⟨λx a=>⟨(yk s x a).1,(yk s x a).2.1⟩,ai,ai⟩
def H9{s}(h:oh s=true):((names s).getLastD []).length<=96:=by obtain⟨c,d,e⟩:=sD h;cases f:names s with|nil=>simp|cons a r =>(have:(a::r).getLastD []∈names s:=by grind);have:=GX _ _ this;omega
def z8{ns}(h:Rm ns):bt (aX ns)=(aX ns.dropLast,ns.getLastD []):=by
 by_cases a:ns=[]
 {subst a;decide};rw[EN h a];grind
def Rp{n}(h:(oi n).1=1):(oi n).2=n.drop 4/\n.drop 4≠[]:=by unfold oi at h⊢;grind
def Rq n:(oi n).1=0\/(oi n).1=1\/(oi n).1=2\/(oi n).1=3:=by unfold oi;grind
def ajL d n:(sC d n).length<=d.length+n.length+1:=by unfold sC;grind
def Lw{s}(h:oh s=true)(j:(oi<|(names s).getLastD []).1=1):sC (aX (names s).dropLast) (oi<|(names s).getLastD []).2=aX (yZ<|names s)/\MK (yZ<|names s):=by
 have a:=EY h;obtain⟨e,f⟩:=Rp j;have c:(names s).getLastD []∈names s:=by grind
 have d:Rm (yZ<|names s):=λx hx=>by rcases Gp.1 hx with hx|hx;{exact a.1 x (by rw[X7] at hx;exact Bb hx)};rw[D5] at hx;subst hx;rw[e];exact⟨λq=>(a.1 _ c).1 (X1 q),f⟩
 have i:sC _ (oi _).2=aX (yZ<|names s):=Q0 [_] _ d;refine⟨i,d,?_,?_⟩
 .unfold yZ;have:=a.2.1;grind
 rw[<-i];have k:=ajL (aX (names s).dropLast) (oi<|(names s).getLastD []).2;have l:=H9 h;have n:(aX (names s).dropLast).length<=96:=by rw[X7];have:=EX (names s) ((names s).length-1);have:=(sD h).2.2;omega
 grind
def F3{ns}(h:MK ns):MK ns.dropLast:=by rw[X7];apply h.take
def SmP(p:Pt):Prop:=p.1.1.length<=300/\p.1.2.2.2.2.2.2.2.1.length<=300/\p.2.1.length<=8192
def EZ p (k:SmP p):pF (p,())=aa ((bW p).1,aX (bW p).2.1,(bW p).2.2,()):=by unfold pF;rw[W5 p.1.1 (by have:=k.1;omega),ab];unfold bW;cases d:oh p.1.1 with|false =>(have:lM p.1.1=([],2):=by unfold lM;rw[d];rfl);rw[this];rfl|true =>(have i:lM p.1.1=(aX<|names p.1.1,0):=by unfold lM;rw[d];rfl);(have a:=EY d;have o:=(sD d).2.2;rw[i];dsimp only;rw[ xY _ ai,ab,z8 a.1];dsimp only;rw[ME,ab];have l:∀A,(ao (ao (aR p.1.2.1 1) (bA p.2.1 []) false) A<|some false)=if wT p=true then A else aa false:=λA=>by unfold wT aR bA;by_cases f:p.1.2.1=1;{by_cases s:p.2.1=[];{simp[ ao]};simp[ ao]};simp[ ao]);have n:=H9 d;rcases Rq _ with c|c|c|c;{(rw[c];unfold tw;rw[ab,show lV ((aX _,_),())=_ from(z7 (mz p _) (by show(aX _).length<=4096;omega) (by show p.1.2.2.2.2.2.2.2.1.length<=4096;have:=k.2.1;omega)),AM a];have j:ao (bA (aX<|names p.1.1) []) (aR p.1.2.1 2) false=(decide (names p.1.1=[])&&decide (p.1.2.1=2)):=by have:=uY a.1;unfold bA aR;by_cases f:names p.1.1=[];{rw[cT f,cT (this.2 f)];simp[ao]};rw[cj f,cj λe=>f (this.1 e)];rfl);rw[j];cases decide (names p.1.1=[])&&decide (p.1.2.1=2) with|true=>rfl|false =>cases fZ _<;>rfl};{obtain⟨q,r⟩:=Lw d c;rw[c,CL _ _ (by have:=(F3 a).2.2;omega) (by rw[(Rp c).1,qo];omega),ab,q,AM r,l];cases wT p<;>rfl};{(rw[c];have hd:=F3 a;rw[AM hd,l];have j:bA (aX (names p.1.1).dropLast) []=decide ((names p.1.1).dropLast=[]):=by have:=uY hd.1;unfold bA;grind);rw[j];cases wT p<;>cases decide ((names p.1.1).dropLast=[])<;>rfl};rw[c];rfl
set_option maxRecDepth 100000
end Go.Ge
namespace Go.Ge
variable [Lp]
set_option maxRecDepth 100000
def ue(i:Nat)(n:Nat)(x:UInt8):Option (Nat⊕(Nat×(Int×Bool×Int×Int×al)×al)) :=aa (if x.toNat<48\/55<x.toNat then .inr (1,(0,false,(n:Int),(i:Int),()),()) else .inl (8*n+(x.toNat-48)))
def E0(i:Nat)(n:Nat):Nat×(Int×Bool×Int×Int×al)×al:=(0,(0,false,(n:Int),(i:Int),()),())
def Rr{i n c x}(d:i<=21/\n<8 ^ i)(e:i<21)(a:ue i n x=aa (.inl c)):i+1<=21/\c<8 ^ (i+1):=by
 have a:=aU a;split at a
 {cases a};obtain rfl:=Ym a;omega
def aeO{i}(h:i<=20):8 ^ i<=1152921504606846976:=by have:8 ^ i<=8 ^ 20:=Nat.pow_le_pow_right aI h;omega
def GY s (o:s.length<=21):Loop (bR (s,())) ((0,false,0,0,()),())=wg ue E0 s 0 0:=by
 have key:=qK (f:=bR (s,())) s (λ(n:Nat) i=>((0,false,n,i,()),())) ue E0 (λi n=>i<=21/\n<8 ^ i)
  (λn i x c j d=>by have p:=aeO (i:=i) ai;obtain⟨q,k⟩:=ga.1 c;unfold bR ue;dsimp only;rw[lL,aT ai,aO ai ai,BC s j,k,ab,aJ ai];by_cases a:x.toNat<48;{rw[aT<|by unfold u8;omega,aN (.inl a)];rfl};by_cases b:55<x.toNat;{rw[aF<|by unfold u8;omega,aE,aj,aT (by unfold u8;omega),aN (.inr b)];rfl};(rw[aF<|by unfold u8;omega,aF (by unfold u8;omega),aK ai];have e:u8 x=((48+(x.toNat-48):Nat):Int):=by unfold u8;omega);rw[e,aru ai ai];rfl)
  (λn i x r c d l=>Rr d (by have:=aA c;omega) l) (λn d=>by unfold bR E0;dsimp only;rw[lL,aF ai,ag])
  (λ_ _ _ _ _ h=>by cases h) 0 ⟨ai,aI⟩
 exact key
def Lx s (l:s.length<=21):Loop (gz (s,())) ((0,false,0,0,()),())=wg ue E0 s 0 0:=by
 have key:=qK (f:=gz (s,())) s (λ(n:Nat) i=>((0,false,n,i,()),())) ue E0 (λi n=>i<=21/\n<8 ^ i)
  (λn i x c j d=>by have o:=aeO (i:=i) ai;unfold gz ue;dsimp only;rw[aq j,aj,au c,ab,ab,ab,aJ ai];by_cases a:x.toNat<48;{rw[aT<|by unfold u8;omega,aM,ag,aN (.inl a)];rfl};by_cases b:55<x.toNat;{rw[aF<|by unfold u8;omega,aE,aj,ab,aT (by unfold u8;omega),aN (.inr b)];rfl};(rw[aF<|by unfold u8;omega,aE,aj,aF (by unfold u8;omega),aF ai,aK ai];have e:u8 x=((48+(x.toNat-48):Nat):Int):=by unfold u8;omega);rw[e,anj ⟨x.toNat-48,ai⟩,ED ai ai,eh ai ai];rfl)
  (λn i x p c d k=>Rr d (by have:=aA c;omega) k) (λn d=>by unfold gz E0;rw[aw,ag])
  (λ_ _ _ _ _ h=>by cases h) 0 ⟨ai,aI⟩
 exact key
def TF:∀r i n,∃q,wg ue E0 r i n=aa q/\(q.1=0\/q.1=1):=by intro r;induction r with|nil=>intro i n;exact⟨_,rfl,.inl rfl⟩|cons x r a =>intro i n;unfold wg ue;by_cases h:x.toNat<48\/55<x.toNat;{rw[aN h];exact⟨_,rfl,.inr rfl⟩};rw[aK h];apply a
def E1 s (e:s.length<=1048576):dD (s,())=nU (s,())/\∃n b,dD (s,())=aa (n,b,()):=by
 unfold dD nU;dsimp only;by_cases f:s.length<1
 {rw[aT<|by rw[bG];omega];exact⟨rfl,_,_,rfl⟩};by_cases i:21<s.length;{rw[aF<|by rw[bG];omega,aE,aj,aT (by rw[bG];omega)];exact⟨rfl,_,_,rfl⟩};rw[aF<|by rw[bG];omega,aF (by rw[bG];omega),dN (by rw[bG];omega),GY s ai,Lx s ai];refine⟨rfl,?_⟩;obtain⟨q,a,d⟩:=TF s 0 0;rw[a,ab];rcases d with c|c;{rw[c];exact⟨_,_,rfl⟩};rw[c];exact⟨_,_,rfl⟩
end Go.Ge
namespace Go.Ge
variable [Lp]
def ajM{o S R:Type}{f}(l:List o)(a:Nat->S)(p:o->Bool)(c:Nat->R) fin
  (h:∀i x,l[i]?=aa x->f (a i)=aa (if p x=true then .inr (c i) else .inl (a<|i+1))) (e:f (a l.length)=aa (.inr fin)) : ∀d i,i+d=l.length->(∃(j:Nat) (x:o),i<=j/\l[j]?=aa x/\p x=true/\(∀m y,i<=m->m<j->l[m]?=aa y->p y=false)/\Loop f (a i)=aa (c j)) \/ ((∀m y,i<=m->l[m]?=aa y->p y=false)/\Loop f (a i)=aa fin):=by
 intro d;induction d with|zero =>(intro i v;obtain rfl:i=l.length:=ai;refine .inr ⟨λm y n s=>?_,by rw[aZ,e];rfl⟩;grind)|succ d w =>intro i v;have hx:l[i]?=aa l[i]:=gQ ai;have k:=h i _ hx;by_cases q:p l[i]=true;{rw[aN q] at k;exact .inl ⟨i,_,b8 _,hx,q,λm y n A=>absurd n ai,by rw[aZ,k];rfl⟩};rw[aK q] at k;rcases w (i+1) ai with ⟨j,x,B,r,C,F,D⟩|⟨B,r⟩;{refine .inl ⟨j,x,ai,r,C,λm y n E s=>?_,by rw[aZ,k];exact D⟩;grind};refine .inr ⟨λm y n s=>?_,by rw[aZ,k];exact r⟩;grind
def aad p s:∃z,s=de p s++z/\∀x∈z,p x=true:=by
 refine⟨(s.reverse.takeWhile p).reverse,?_,λx a=>?_⟩
 {unfold de;rw[<-List.reverse_append,Al,List.reverse_reverse]};rw[adR] at a;exact Ll a
def aae{p s m x}(c:s[m]?=aa x)(d:p x=false):m<(de p s).length/\∀j,j<=m->(de p s)[j]?=s[j]?:=by obtain⟨z,e,a⟩:=aad p s;grind
def CR{p s j}(d:∀m y,j<=m->s[m]?=aa y->p y=true)(e:∀m y,m<j->s[m]?=aa y->p y=false):de p s=s.take j:=by
 conv=>lhs;rw[((Ba j s).symm)]
 rw[U0 _ _ λx a=>by obtain⟨i,c⟩:=bp.1 a;rw[xw] at c;exact d _ x ai c]
 refine ajs λx a=>?_;grind
def Rs(x:UInt8):Bool:=decide (48<=x.toNat/\x.toNat<=55)
def ajN{x}(h:Rs x=true):DX x=false:=by unfold Rs at h;cases a:DX x with|false=>rfl|true =>rcases(ZO x).1 a with e|e;{simp_all};simp_all
def aaf:∀r i n x,x∈r->Rs x=false->∃q,wg ue E0 r i n=aa q/\q.1=1/\q.2.1.2.1=false:=by intro r;induction r with|nil=>intro i n x hx;cases hx|cons a r d =>intro i n x hx c;unfold wg ue;by_cases h:a.toNat<48\/55<a.toNat;{simp_all};rw[aK h];rcases eK.1 hx with e|hx;{subst e;unfold Rs at c;grind};exact d _ _ x hx c
def TG{s}(d:s.length<=21){x}(a:x∈s)(e:Rs x=false):∃n,dD (s,())=aa (n,false,()):=by have c:=List.length_pos_of_mem a;unfold dD;dsimp only;rw[aF<|by rw[bG];omega,aE,aj,aF (by rw[bG];omega),ag,dN (by rw[bG];omega),aj,GY s d];obtain⟨q,f,i,j⟩:=aaf s 0 0 x a e;rw[f,ab,i,js,ag,j];grind
def arB x:cm 48 (u8 x)=decide (48<=x.toNat):=by unfold u8;apply fk.2;omega
def arC x:cm (u8 x) 55=decide (x.toNat<=55):=by unfold u8;apply fk.2;omega
def sE s (J:s.length<=21):fB (s,())=dt (s,()):=by
 unfold fB dt;rw[JJ s ai,ab];have first:=ajM (f:=nW (s,())) s (λi=>((i,()),())) (λx=>!Rs x) _ _ (λi x B=>by
  have hi:=aA B;unfold nW;rw[aq hi,aj,au B,ab,ab,ab,arB,arC,aJ ai];unfold Rs;by_cases c:48<=x.toNat;{by_cases a:x.toNat<=55;{rw[cT c,cT a,cT ⟨c,a⟩];rfl};rw[cT c,cj a,cj λq=>a q.2];rfl}
  .rw[cj c,cj λq:48<=x.toNat/\x.toNat<=55=>c q.1];rfl) (by
  unfold nW;rw[aw];rfl) s.length 0 ai
 rcases first with ⟨j,x,_,B,F,v,C⟩|⟨w,C⟩
 .rw[show Loop _ (((0:Int),()),())=_ from C,ab];have K:=aA B;dsimp only;rw[ax<|by rw[bG];omega];have second:=ajM (f:=nX (s,())) s (λi=>((0,i,()),())) (λx=>!DX x) _ _ (λi y d=>by
   have hi:=aA d;have e0:aR _ 0=decide (y=0):=GU (n:=0);have D:aR _ 32=decide (y=32):=GU (n:=32);unfold nX;rw[aq hi,au d,ab,ab,e0,D,aJ ai];have k:=ZO y;by_cases c:y=0
   .rw[cT c,k.2 (.inl c)];rfl
   .by_cases a:y=32
    .rw[cj c,cT a,k.2 (.inr a)];rfl
    .rw[cj c,cj a,show DX y=false by
     cases G:DX y with
     | false=>rfl
     | true=>rcases k.1 G with e|e
             .grind
             .exact absurd e a];rfl) (by
   unfold nX;rw[aw,ag]) (s.length-j) j ai
  rcases second with ⟨m,y,r,d,H,_,l⟩|⟨o,l⟩
  .rw[show Loop _ _=_ from l,ab];obtain⟨L,M⟩:=aae d (by simpa using H);have A:x∈de DX s:=by
    grind
   have hlen:=qd DX s;obtain⟨n,I⟩:=TG ai A (by simpa using F);rw[I];rfl
  .rw[show Loop _ _=_ from l];have p:=CR (λm y r d=>by simpa using o m y r d) (λm y r d=>ajN (by simpa using v m y (qh _) r d));have E:inside 0 j (len s)=true:=jf (qh _) ai;rw[E,fY,p];obtain⟨c,n,b,a⟩:=E1 (s.take j) (by rw[cY];omega);rw[<-c,a,ax<|by rw[bG,bG,cY];omega];cases b<;>rfl
 .rw[show Loop _ (((0:Int),()),())=_ from C,ab,ay (by rw[bG])];have p:de DX s=s:=by
   have:=CR (s:=s) (j:=s.length) (λm y r d=>by have:=aA d;omega) (λm y r d=>ajN (by simpa using w m y (qh _) d))
   grind
  rw[p];obtain⟨_,n,b,a⟩:=E1 s ai;rw[a,ay rfl];cases b<;>rfl
def Ly s (O:s.length<=1000):∃t C,pH (s,())=aa (t,C,())/\kq (s,())=aa (de da s,C,())/\(C=true->t=de da s)/\t.length<=s.length:=by
 have e0:∀y,aR _ 0=da y:=λy=>rfl;rw[JL s ai];unfold pH;have inner:∀i,i<=s.length->_:=λi D=>ajM (f:=gY (s,())) s (λk=>((([]),false,k,()),())) (λx=>!da x) _ _ (λk y a=>by
  have H:=aA a;unfold gY;rw[aq H,au a,ab,e0,aJ ai];cases da y<;>rfl) (by
  unfold gY;rw[aw,ag]) (s.length-i) i ai
 have outer:(∃(i:Nat) (x:UInt8),s[i]?=aa x/\da x=true/\(∀(m:Nat) (y:UInt8),m<i->s[m]?=aa y->da y=false)/\Loop (dI (s,())) ((([]:bj),false,(0:Int),()),())=(ae (Loop (gY (s,())) ((([]:bj),false,(i:Int),()),())) λp=>aa (if p.1=0 then(1,(s.take i,true,(i:Int),()),()) else(1,(p.2.1.1,p.2.1.2.1,i,()),())))) \/
   ((∀(m:Nat) (y:UInt8),s[m]?=aa y->da y=false)/\Loop (dI (s,())) ((([]:bj),false,0,()),())=aa (0,(([]:bj),false,(s.length:Int),()),())):=by
  have key:∀d i,i+d=s.length->(∀m y,m<i->s[m]?=aa y->da y=false)->(∃(j:Nat) (x:UInt8),s[j]?=aa x/\da x=true/\(∀m y,m<j->s[m]?=aa y->da y=false)/\Loop (dI (s,())) ((([]:bj),false,(i:Int),()),())=(ae (Loop (gY (s,())) ((([]:bj),false,j,()),())) λp=>aa (if p.1=0 then(1,(s.take j,true,(j:Int),()),()) else(1,(p.2.1.1,p.2.1.2.1,j,()),())))) \/
   ((∀(m:Nat) y,s[m]?=aa y->da y=false)/\Loop (dI (s,())) ((([]),false,(i:Int),()),())=aa (0,(([]),false,(s.length:Int),()),())):=by
   intro d;induction d with|zero =>(intro i D r;obtain rfl:i=s.length:=ai;refine .inr ⟨λm y a=>r m y (aA a) a,?_⟩;have B:dI (s,()) ((([]),false,(s.length:Int),()),())=aa (.inr (0,(([]),false,s.length,()),())):=by unfold dI;rw[aw,ag]);rw[aZ,B];rfl|succ d I =>intro i D r;have hx:s[i]?=aa s[i]:=gQ ai;cases A:da s[i] with|true =>(refine .inl ⟨i,s[i],hx,A,r,?_⟩;have v:∃z,Loop (gY (s,())) ((([]),false,(i:Int),()),())=aa z/\(z.1=0\/z.1=1):=by grind);(obtain⟨z,B,J⟩:=v;have E:inside 0 i (len s)=true:=jf (qh _) ai;have w:dI (s,()) ((([]:bj),false,(i:Int),()),())=aa (.inr<|if z.1=0 then(1,(s.take i,true,i,()),()) else(1,(z.2.1.1,z.2.1.2.1,i,()),())):=by unfold dI;rw[aq<|show i<s.length by omega,aj,au hx,ab,e0,A,aj,B,ab];rcases J with c|c;{rw[c,cu,aj,E,aj,fY,aN rfl]};rw[c,js,ag,aK aI]);rw[B,aZ,w];rfl|false =>(have w:dI (s,()) ((([]),false,i,()),())=aa (.inl ((([]),false,((i+1:Nat):Int),()),())):=by unfold dI;rw[aq<|show i<s.length by omega,aj,au hx,ab,e0,A,ag,aJ ai]);rw[aZ,w];exact I _ ai (λm y l a=>by by_cases e:m=i;{grind};exact r m y ai a)
  exact key s.length 0 ai (λm y l=>absurd l ai)
 rcases outer with ⟨i,x,hx,A,r,F⟩|⟨o,F⟩
 .rw[F];have D:=aA hx;rcases inner i ai with ⟨j,y,K,a,L,_,h⟩|⟨M,h⟩;{(rw[show Loop _ _=_ from h,ab,ab,aK (show ¬1=0 by decide),js,ag];obtain⟨P,N⟩:=aae a (by simpa using L);have:¬BE _:=λq=>by have l:=bp.2 ⟨i,by rw[N i K,hx]⟩;exact q x l ((BD x).1 A));grind};(rw[show Loop _ _=_ from h,ab,aN rfl];have n:=CR (λm y l a=>by simpa using M m y l a) (λm y l a=>r m y l a);refine⟨_,true,rfl,?_,λ_=>n.symm,by rw[cY];omega⟩;have:BE (de da s):=λy a=>by rw[n] at a;obtain⟨m,l⟩:=bp.1 a;have G:=aA l;rw[cY] at G;rw[List.getElem?_take_of_lt ai] at l;intro e;have:=r m y ai l;rw[(BD y).2 e] at this;cases this);grind
 rw[F,ab,cu,aj];have n:de da s=s:=by have:=CR (j:=s.length) (λm y l a=>by have:=aA a;omega) (λm y l a=>o m y a);grind
 have:BE (de da s):=λy a e=>by rw[n] at a;obtain⟨m,l⟩:=bp.1 a;have:=o m y l;rw[(BD y).2 e] at this;cases this
 grind
end Go.Ge
