import Derived.Test.YtcebnmppipejfaaGreatDoorPlD
import Derived.Lib.ParseIntBCases
import Derived.Lib.ItoaMem
set_option linter.unusedSectionVars false
set_option linter.unusedVariables false
set_option linter.unusedSimpArgs false
namespace Go.Ge
variable [Lp]
theorem Js(s:aq)(j:s.length<=1048576):∃n c,di (s,())=some (n,c,()):=by
 unfold di;dsimp only;cases l:(aj (nt<|aO (len s) 1) (aO 21<|len s) true) with
 | true=>exact⟨0,false,rfl⟩
 | false =>
   rw[af,dA (by simp only[len];omega),ae];have key:∀(k i:Nat) (v:Int),s.length-i<=k->i<=s.length->∃q,Loop (bF (s,())) ((0,false,v,(i:Int),()),())=some q:=by
    intro k;induction k with
    | zero =>
      intro i v h d;rw[aR];unfold bF;dsimp only;rw[j7,aD (by omega),af];exact⟨_,rfl⟩
    | succ k e =>
      intro i v h d;by_cases a:i<s.length
      .cases hd:(aj (nt<|aO (u8 s[i]) 48) (aO 55<|u8 s[i]) true) with
       | true =>
         have e0:bF (s,()) ((0,false,v,(i:Int),()),())=some (.inr (1,(0,false,v,(i:Int),()),())):=by
          unfold bF;dsimp only;rw[j7,aU (by omega),ae,br (by omega) (by omega),ae,xG s a,aa,hd,ae]
         rw[aR,e0];exact⟨_,rfl⟩
       | false =>
         have e0:bF (s,()) ((0,false,v,(i:Int),()),())=some (.inl ((0,false,xc .i64 (lS .i64 v 3)<|kq .i64<|cE .u8 (u8 s[i]) 48,((i+1:Nat):Int),()),())):=by
          unfold bF;dsimp only;rw[j7,aU (by omega),ae,br (by omega) (by omega),ae,xG s a,aa,hd,af,aD (by decide),af,aT (by omega)]
         rw[aR,e0];exact e (i+1) _ (by omega) (by omega)
      .rw[aR];unfold bF;dsimp only;rw[j7,aD (by omega),af];exact⟨_,rfl⟩
   obtain⟨q,f⟩:=key s.length 0 0 (by omega) (by omega);rw[show Loop (bF (s,())) ((0,false,0,0,()),())=some q from f,aa];cases cR q.1 0 with
   | true=>exact⟨_,_,rfl⟩
   | false=>exact⟨_,_,rfl⟩
theorem nw(p:UInt8->Bool)(s:aq):(cc p s).length<=s.length:=by
 unfold cc;rw[abb];have:=Kf (p:=p) (l:=s.reverse);have:=congrArg List.length this;rw[iP,abb] at this;omega
theorem eE(s:aq)(a:s.length<=1048576):∃n,cU (s,())=some (n,()):=by
 unfold cU;dsimp only;have d:=nw vg s;rw[EZ s a,aa];obtain⟨n,c,h⟩:=Js (cc vg s) (by omega);dsimp only;rw[h,aa];cases (aj (nt<|nt c) (aL (len<|cc vg s)<|len s) true) with
 | true=>exact⟨_,rfl⟩
 | false=>exact⟨_,rfl⟩
def fD(b:aq)(a n:Nat):aq:=(b.drop a).take n
theorem b3(b:aq)(a n:Nat):(fD b a n).length<=n:=by simp[fD];omega
theorem mM(b:aq)(d:b.length=512)(k:Int)(a n:Nat)(c:idx YA k=some ((a:Int),(n:Int),()))(h:a+n<=512):bQ (b,k,())=some (fD b a n,()):=by
 unfold bQ;rw[W1,aa];dsimp only;rw[c,aa];dsimp only;rw[show ax .i64 (a:Int) (n:Int)=((a+n:Nat):Int) from uN (by omega),aY (by omega) (by omega) (by simp only[len];omega),ae];unfold sub minus fD;rw[rK,show(((a+n:Nat):Int)-(a:Int)).toNat=n by omega]
section
variable (b:aq)
theorem o0(a:b.length=512):bQ (b,0,())=some (fD b 0 100,()):=mM b a 0 0 100 rfl (by omega)
theorem o1(a:b.length=512):bQ (b,1,())=some (fD b 100 8,()):=mM b a 1 100 8 rfl (by omega)
theorem o2(a:b.length=512):bQ (b,2,())=some (fD b 108 8,()):=mM b a 2 108 8 rfl (by omega)
theorem o3(a:b.length=512):bQ (b,3,())=some (fD b 116 8,()):=mM b a 3 116 8 rfl (by omega)
theorem o4(a:b.length=512):bQ (b,4,())=some (fD b 124 12,()):=mM b a 4 124 12 rfl (by omega)
theorem o5(a:b.length=512):bQ (b,5,())=some (fD b 136 12,()):=mM b a 5 136 12 rfl (by omega)
theorem o6(a:b.length=512):bQ (b,6,())=some (fD b 148 8,()):=mM b a 6 148 8 rfl (by omega)
theorem o7(a:b.length=512):bQ (b,7,())=some (fD b 156 1,()):=mM b a 7 156 1 rfl (by omega)
theorem o8(a:b.length=512):bQ (b,8,())=some (fD b 157 100,()):=mM b a 8 157 100 rfl (by omega)
theorem o9(a:b.length=512):bQ (b,9,())=some (fD b 257 8,()):=mM b a 9 257 8 rfl (by omega)
theorem o10(a:b.length=512):bQ (b,10,())=some (fD b 345 155,()):=mM b a 10 345 155 rfl (by omega)
end
def aab:Hd:=([],0,0,0,0,0,0,[],())
theorem DG(b:aq)(a:b.length=512)(c:fD b 257 8≠l7):eW (b,())=some (aab,2,()):=by
 unfold eW;dsimp only;rw[aW<|by simp only[len];omega,aH,aA,ae,o9 b a,aa,aa,show([117,115,116,97,114,0,48,48]:aq)=l7 from rfl];dsimp only;rw[show bz (fD b 257 8) l7=false from dL c,aA,aH,af,aa,ae];rfl
theorem Uo(b:aq)(a:b.length=512){n:Int}(e:cU (fD b 148 8,())=some (n,()))(c:n≠(pd b 512:Int)):eW (b,())=some (aab,2,()):=by
 by_cases d:fD b 257 8=l7
 .unfold eW;dsimp only;rw[aW<|by simp only[len];omega,aH,aA,ae,o9 b a,aa,aa,show([117,115,116,97,114,0,48,48]:aq)=l7 from rfl];dsimp only;rw[d,show bz l7 l7=true from rW _,aH,aA,ae,o6 b a,aa];dsimp only;rw[e,aa,G8 b (by omega),aa];dsimp only;rw[a,aF c,aA,aa,ae];rfl
 .exact DG b a d
section
variable {h:Hd} {m u g z t:Nat} {kd:UInt8}
theorem aeT(n:Nat):∀x∈kp n,x=0:=λx a=>List.eq_of_mem_replicate a
end
def hA:Hd:=([100,47],2,493,0,0,0,1,[],())
def hC:Hd:=([100],2,0,0,0,1,0,[],())
abbrev Pt:=Hd×aq×ai
def afL(h:Hd):Int:=h.2.2.2.2.2.1
def aj0(h:Hd):UInt8:=if h.2.1=1 then 48 else if h.2.1=2 then 53 else 50
def aj1(h:Hd):aq:=ajZ h h.2.2.1.toNat h.2.2.2.1.toNat h.2.2.2.2.1.toNat h.2.2.2.2.2.1.toNat h.2.2.2.2.2.2.1.toNat (aj0 h)
def aj2(p:Pt):Prop:=I4 p.1 100/\afL p.1=(p.2.1.length:Int)
instance (p:Pt):Decidable (aj2 p):=inferInstanceAs (Decidable<|_/\_)
def l8(n:Nat):Nat:=(512-n % 512) % 512
def body(p:Pt):aq:=aj1 p.1++p.2.1++kp (l8 p.2.1.length)
theorem Up(n:Nat):l8 n<512:=w9 _ (by decide)
theorem Uq(n:Nat)(c:n<=1048576):uF ((n:Int),())=some ((l8 n:Int),()):=by
 unfold uF;dsimp only;rw[show aL 512 0=false from rfl,af,af];have a:iA (n:Int) 512=((n % 512:Nat):Int):=rfl;rw[a,fo (by omega) (by omega),show(512:Int)-((n % 512:Nat):Int)=((512-n % 512:Nat):Int) by omega];rfl
theorem Ur(n:Nat):Lib.repeatL [0] n=kp n:=by
 induction n with
 | zero=>rfl
 | succ n a =>
   show [0]++Lib.repeatL [0] n=kp (n+1)
   rw[a];rfl
theorem Us(n:Nat)(a:n<=1048576):wq ((n:Int),())=some (kp n,()):=by
 unfold wq;dsimp only;have:mV ([0],(n:Int),())=some (kp n,()):=by
  show(fq [0] (n:Int)).map (λy=>(y,()))=_
  unfold fq;rw[bb<|by rw[rK];simp only[dW,gi];omega,rK,Ur];rfl
 rw[this,aa]
theorem Ut(n:Nat)(d:n<=1048576):lL ((n:Int),())=some (((n+l8 n:Nat):Int),()):=by
 unfold lL;dsimp only;have key:=cq (f:=jY) (r:=((((n+l8 n:Nat):Int),()),())) (l8 n) (λi=>((((n+i:Nat):Int),()),())) (λi a=>by
  have c:=a;unfold l8 at c;unfold jY;dsimp only;rw[show aL 512 0=false from rfl,af,show iA ((n+i:Nat):Int) 512=(((n+i) % 512:Nat):Int) from rfl,aF (by omega),aA,ae,aT (by omega)];rfl) (by
  unfold jY;dsimp only;rw[show aL 512 0=false from rfl,af,show iA ((n+l8 n:Nat):Int) 512=(((n+l8 n) % 512:Nat):Int) from rfl,aW (by unfold l8;omega),aH,af];rfl)
 rw[show Loop jY (((n:Int),()),())=_ from key,aa]
structure am2 (l:List Pt) (n:Nat):Prop where
 many:l.length<=n
 path:∀p∈l,p.1.1.length<=300
 link:∀p∈l,p.1.2.2.2.2.2.2.2.1.length<=300
 data:∀p∈l,p.2.1.length<=8192
abbrev Rd:=Bool×aq×Int×Bool×Bool×ai
def RO:Pt:=(aab,[],())
def rd(r:aq)(n:Int):Rd:=(true,r,n,false,false,())
def AG(n:Int)(b:Bool):Rd:=(true,[],n,true,b,())
theorem aac(r:aq)(n:Int)(b:Bool):bE ((),(true,r,n,true,b,()),())=some ((RO,false,()),(true,r,n,true,b,()),()):=by
 unfold bE;dsimp only;rfl
theorem Fi(r:aq)(n:Int)(b:Bool):ep ((b,()),rd r n,())=some ((RO,false,()),AG n b,()):=rfl
theorem L7(r:aq)(n:Int)(h:r.length<512):bE ((),rd r n,())=some ((RO,false,()),AG n true,()):=by
 have e:=Fi r n true;unfold bE;dsimp only[rd] at e⊢;rw[aH,aA,ae,af,aU (by rw[bM];omega),ae,e,aa]
theorem G9(r:aq)(n:Int)(h:512<=r.length)(f:r.length<=1048576)(i:∀x∈r.take 512,x=0) :
  bE ((),rd r n,())=some ((RO,false,()),AG n<|!decide (1024<=r.length/\r.length % 512=0/\∀x∈r,x=0),()):=by
 have e:=λb=>Fi r n b;unfold bE;dsimp only[rd] at e⊢;have j:(r.take 512).length=512:=by rw[gM];omega
 rw[aH,aA,ae,af,aD (by rw[bM];omega),af,aY (by decide) (by decide) (by rw[bM];omega),ae,show sub r 0 (minus 512 0)=r.take 512 from jU r 512,LS _ (by omega),cd ⟨j,i⟩,aa,ae];rw[show aL 512 0=false from rfl,af,show iA (len r) 512=((r.length % 512:Nat):Int) from rfl,show ca 1024 (len r)=decide (1024<=r.length) from by unfold ca len;apply ky.2;omega,show aL ((r.length % 512:Nat):Int) 0=decide (r.length % 512=0) from by unfold aL;apply ky.2;omega,Uh r f];have k:decide ((cc b4 r).dropWhile b4=[])=decide (∀x∈r,x=0):=ky.2 (uP r);by_cases a:1024<=r.length
 .by_cases b:r.length % 512=0
  .by_cases c:∀x∈r,x=0
   .have d:=(uP r).2 c;rw[cd a,ae,cd b,aa,aH,aA,ae,aa,aa];dsimp only;rw[fF d,aH,e,aa,cd ⟨a,b,c⟩];rfl
   .have d:¬(cc b4 r).dropWhile b4=[]:=λq=>c ((uP r).1 q);rw[cd a,ae,cd b,aa,aH,aA,ae,aa,aa];dsimp only;rw[cw d,aA,e,aa,dL λq=>c q.2.2];rfl
  .rw[cd a,ae,dL b,aa,aA,aH,af,aa,e,aa,dL λq=>b q.2.1];rfl
 .rw[dL a,af,aa,aA,aH,af,aa,e,aa,dL λq=>a q.1];rfl
theorem PU(p:Pt)(a:List Pt)(e:Rd)(i:a.length<=1000){f:Pt}{c:Bool}{d:Rd}(h:bE ((),e,())=some ((f,c,()),d,())) :
  gG (((),(),true,()),p,a,e,())=some (.inl (((),(),c,()),f,a++[p],d,())):=by
 unfold gG;dsimp only;rw[ae,b7 (by simp only[dW,gi];omega),ae,h,aa];rfl
theorem ua(p:Pt)(a:List Pt)(c:Rd):gG (((),(),false,()),p,a,c,())=some (.inr (((),(),false,()),p,a,c,())):=rfl
theorem PV(s:aq)(h:8192<s.length):fv (s,())=some ([],10,()):=by
 unfold fv;dsimp only;rw[aU<|by rw[bM];omega,aac,aa];dsimp only;rw[aR,ua];rfl
theorem agB(c:Bool)(h:Hd):∃x e,ab (aj c (ab (oZ (h,(256:Int),())) λ(a:Bool×ai)=>some (nt a.1))<|some true) (λy=>aj y (some (aab,(2:Int),())) (some (h,(0:Int),())))=some (x,e,())/\(e=0->I4 x 256):=by
 rw[Ui,aa];cases c with
 | false=>exact⟨_,_,rfl,λq=>absurd q (by decide)⟩
 | true =>
   by_cases d:I4 h 256
   .rw[cd d];exact⟨h,0,rfl,λ_=>d⟩
   .rw[dL d];exact⟨_,_,rfl,λq=>absurd q (by decide)⟩
theorem YB(b:aq)(a:b.length=512):∃x e,eW (b,())=some (x,e,())/\(e=0->I4 x 256):=by
 by_cases d:fD b 257 8=l7
 case neg=>exact⟨_,_,DG b a d,λe=>absurd e (by decide)⟩
 obtain⟨j,f⟩:=eE (fD b 148 8) (by have:=b3 b 148 8;omega);by_cases i:j=(pd b 512:Int)
 case neg=>exact⟨_,_,Uo b a f i,λe=>absurd e (by decide)⟩
 obtain⟨v,k⟩:=eE (fD b 100 8) (by have:=b3 b 100 8;omega);obtain⟨w,l⟩:=eE (fD b 108 8) (by have:=b3 b 108 8;omega);obtain⟨y,n⟩:=eE (fD b 116 8) (by have:=b3 b 116 8;omega);obtain⟨A,o⟩:=eE (fD b 124 12) (by have:=b3 b 124 12;omega);obtain⟨B,q⟩:=eE (fD b 136 12) (by have:=b3 b 136 12;omega);have t0:=E1 (fD b 0 100) (by have:=b3 b 0 100;omega);have r:=E1 (fD b 157 100) (by have:=b3 b 157 100;omega);have t10:=E1 (fD b 345 155) (by have:=b3 b 345 155;omega);have C:=nw b4 (fD b 0 100);have l10:=nw b4 (fD b 345 155);have m0:=b3 b 0 100;have m10:=b3 b 345 155;unfold eW;dsimp only;rw[aW<|by simp only[len];omega,aH,aA,ae,o9 b a,aa,aa,show([117,115,116,97,114,0,48,48]:aq)=l7 from rfl];dsimp only;rw[d,show bz l7 l7=true from rW _,aH,aA,ae,o6 b a,aa];dsimp only;rw[f,aa,G8 b (by omega),aa];dsimp only;rw[a,aW i,aH,aa,af,o0 b a,aa];dsimp only;rw[t0,aa,o8 b a,aa];dsimp only;rw[r,aa,o10 b a,aa];dsimp only;rw[t10,aa];dsimp only;have c:∃p:aq,(aj (nt<|bz (cc b4<|fD b 345 155) []) (aj (fits<|plus (len<|cc b4<|fD b 345 155)<|len ([47]:aq)) (aj (fits<|plus (len<|app (cc b4<|fD b 345 155) [47])<|len<|cc b4<|fD b 0 100)
   (some ((app (app (cc b4<|fD b 345 155) [47])<|cc b4<|fD b 0 100,()),())) none) none)<|some ((cc b4<|fD b 0 100,()),()))=some ((p,()),()):=by
  cases (nt<|bz (cc b4<|fD b 345 155) []) with
  | true =>
    rw[ae,dA (by simp only[plus,len,dW,gi];omega),ae,dA (by simp only[plus,len,app,iP,dW,gi];omega),ae];exact⟨_,rfl⟩
  | false=>exact⟨_,rfl⟩
 obtain⟨p,s⟩:=c;rw[s,aa,o1 b a,aa];dsimp only;rw[k,aa,o2 b a,aa];dsimp only;rw[l,aa,o3 b a,aa];dsimp only;rw[n,aa,o4 b a,aa];dsimp only;rw[o,aa,o5 b a,aa];dsimp only;rw[q,aa,o7 b a,aa];exact agB _ _
theorem Uu(r:aq)(n:Nat)(C:r.length<=10000):∃p d f,bE ((),rd r (n:Int),())=some ((p,d,()),f,()) /\
  ((d=false/\∃b,f=AG (n:Int) b)\/(d=true/\I4 p.1 256/\p.2.1.length<=r.length/\n<64/\∃j,f=rd j ((n+1:Nat):Int)/\j.length+512<=r.length)):=by
 by_cases a:r.length<512
 .exact⟨_,_,_,L7 r n a,.inl ⟨rfl,_,rfl⟩⟩
 by_cases l:∀x∈r.take 512,x=0
 .exact⟨_,_,_,G9 r n (by omega) (by omega) l,.inl ⟨rfl,_,rfl⟩⟩
 have e:=λb=>Fi r (n:Int) b;have o:(r.take 512).length=512:=by rw[gM];omega
 obtain⟨x,s,v,w⟩:=YB (r.take 512) o;have y:(r.drop 512).length=r.length-512:=ma;unfold bE;dsimp only[rd] at e⊢;rw[aH,aA,ae,af,aD (by rw[bM];omega),af,aY (by decide) (by decide) (by rw[bM];omega),ae,show sub r 0 (minus 512 0)=r.take 512 from jU r 512];rw[LS (r.take 512)<|by omega,aa];dsimp only;rw[dL<|λq=>l q.2,af,ae,v,aa,aY (by decide) (by rw[bM];omega) (DY _),ae,show sub r 512 (minus (len r) 512)=r.drop 512 from pJ r 512 (by omega)];dsimp only;by_cases i:s=0
 case neg =>
  rw[aF i,aA,ae,e,aa];exact⟨_,_,_,rfl,.inl ⟨rfl,_,rfl⟩⟩
 rw[aW i,aH,af];have c:=w i;obtain⟨A,D⟩:=c.2.2.2.1;obtain⟨k,B⟩:=aa3 A;rw[B];by_cases E:(r.drop 512).length<k
 .rw[aU<|by rw[bM];omega,ae,e,aa];exact⟨_,_,_,rfl,.inl ⟨rfl,_,rfl⟩⟩
 .have F:=Up k;rw[aD<|by rw[bM];omega,af,Uq k (by omega),aa,fE (by omega) (by omega)];dsimp only;by_cases G:(r.drop 512).length<k+l8 k
  .rw[aU<|by rw[bM];omega,ae,e,aa];exact⟨_,_,_,rfl,.inl ⟨rfl,_,rfl⟩⟩
  .rw[aD<|by rw[bM];omega,af];by_cases H:64<=n
   .rw[cr<|by omega,ae,e,aa];exact⟨_,_,_,rfl,.inl ⟨rfl,_,rfl⟩⟩
   .rw[eu<|by omega,af,aa,fE (by omega) (by omega),aY (by omega) (by rw[bM];omega) (DY _),ae,aY (by omega) (by omega) (by rw[bM];omega),ae];rw[show sub (r.drop 512) 0 (minus (k:Int) 0)=(r.drop 512).take k from jU _ k,show(k:Int)+(l8 k:Int)=((k+l8 k:Nat):Int) by omega,pJ _ (k+l8 k) (by omega),aT (by omega)];refine⟨_,_,_,rfl,.inr ⟨rfl,c,?_,by omega,_,rfl,?_⟩⟩
    .dsimp only;rw[gM];omega
    .rw[ma];omega
theorem L8{h:Hd}(k:I4 h 256):h.1.length<=300/\h.2.2.2.2.2.2.2.1.length<=300:=by
 obtain⟨_,_,_,_,_,⟨_,c,_⟩,a⟩:=k;refine⟨by omega,?_⟩;rcases a with ⟨_,e⟩|⟨_,e,_⟩|⟨_,⟨_,e,_⟩,_⟩
 .rw[e];simp
 .rw[e];simp
 .omega
def RdP(p:Pt):Prop:=p.1.1.length<=300/\p.1.2.2.2.2.2.2.2.1.length<=300/\p.2.1.length<=8192
theorem aad:∀(m n:Nat) (r:aq) (out:List Pt) (p:Pt),r.length<=m->r.length<=8192->out.length+1=n->n<=64->(∀q∈out++[p],RdP q) ->
  ∃(c:List Pt) (e:Pt) (b:Int×Bool),Loop gG (((),(),true,()),p,out,rd r (n:Int),())=some (((),(),false,()),e,c,AG b.1 b.2,())/\c.length<=64/\∀q∈c,RdP q:=by
 intro m;induction m using Nat.strongRecOn with
 | _ m l =>
   intro n r out p E F G s f;obtain⟨i,v,w,x,y⟩:=Uu r n (by omega);have d:=PU p out (rd r (n:Int)) (by omega) x;rcases y with ⟨rfl,b,rfl⟩|⟨rfl,A,H,I,j,rfl,J⟩
   .refine⟨out++[p],i,((n:Int),b),?_,by rw[iP];simp;omega,f⟩;rw[aR,d];show Loop _ _=_
    rw[aR,ua];rfl
   .have k:=L8 A;obtain⟨o,e,b,B,C,D⟩:=l j.length (by omega) (n+1) j (out++[p]) i (cD _) (by omega) (by rw[iP];simp;omega) (by omega) (λq a=>by
     rcases sv.1 a with a|a
     .exact f q a
     .rw[zO] at a;subst a;exact⟨k.1,k.2,by omega⟩)
    exact⟨o,e,b,by rw[aR,d];exact B,C,D⟩
theorem ac7(s:aq):∃l e,fv (s,())=some (l,e,())/\l.length<=64/\(∀q∈l,RdP q)/\(e=0\/(e=10/\l=[])):=by
 by_cases i:8192<s.length
 .exact⟨_,_,PV s i,by simp,λq a=>(by cases a),.inr ⟨rfl,rfl⟩⟩
 obtain⟨p,y,A,j,k⟩:=Uu s 0 (by omega);have fin:∀(b:Int×Bool) (o:List Pt),(ab (gQ ((),AG b.1 b.2,())) λc=>aj c.1.1 (some (([]:List Pt),(10:Int),())) (some (o,(0:Int),())))=some (if b.2=true then(([]:List Pt),(10:Int),()) else(o,(0:Int),())):=λb o=>by
  obtain⟨B,n⟩:=b;cases n<;>rfl
 unfold fv;dsimp only;rw[aD<|by rw[bM];omega,show bE ((),(true,s,(0:Int),false,false,()),())=_ from j,aa];dsimp only;rcases k with ⟨rfl,b,rfl⟩|⟨rfl,r,C,D,d,rfl,E⟩
 .rw[aR,ua];show ∃l e,(ab (gQ ((),AG _ _,())) λc=>aj c.1.1 (some (([]:List Pt),(10:Int),())) (some (([]:List Pt),(0:Int),())))=_/\_
  rw[fin (_,_)];cases b with
  | true=>exact⟨_,_,rfl,by simp,λq a=>(by cases a),.inr ⟨rfl,rfl⟩⟩
  | false=>exact⟨_,_,rfl,by simp,λq a=>(by cases a),.inl rfl⟩
 .have f:=L8 r;obtain⟨o,F,b,v,w,x⟩:=aad d.length 1 d [] p (cD _) (by omega) rfl (by omega) (λq a=>by
   rw[wY,zO] at a;subst a;exact⟨f.1,f.2,by omega⟩)
  rw[show Loop gG (((),(),true,()),p,([]:List Pt),rd d ((0+1:Nat):Int),())=_ from v,aa];dsimp only;rw[fin b o];cases G:b.2 with
  | true=>exact⟨_,_,rfl,by simp,λq a=>(by cases a),.inr ⟨rfl,rfl⟩⟩
  | false=>exact⟨_,_,rfl,w,x,.inl rfl⟩
set_option maxRecDepth 100000
end Go.Ge
namespace Go.Ge
variable [Lp]
abbrev Nd:=aq×Int×Int×aq×aq×ai
theorem RP{a b:Int}:(ca a b=true)↔a<=b:=by
 constructor
 .intro h;rcases Int.lt_or_le b a with g|g
  .rw[eu g] at h;cases h
  .exact g
 .exact cr
theorem RQ{a b:Int}:ca a b=decide (a<=b):=by
 rw[HC,RP,nI]
def AH(p:aq):Bool:=decide (p≠[])&&(parts p).all zI&&decide ((parts p).length<=8)&&decide (p.length<=92)&&decide ((bC p).2.length<=28)&&decide ((mF (bC p).2).1=0)
def YC(n:Nd):Bool:=if n.2.1=1 then decide (n.2.2.2.2.1=[]/\n.2.2.2.1.length<=8192) else if n.2.1=2 then decide (n.2.2.2.2.1=[]/\n.2.2.2.1=[]) else if n.2.1=3 then decide (n.2.2.2.1=[]/\n.2.2.2.2.1≠[]/\n.2.2.2.2.1.length<=100/\0∉n.2.2.2.2.1) else false
def kg(n:Nd):Bool:=AH n.1&&decide (0<=n.2.2.1)&&decide (n.2.2.1<=4095)&&YC n
theorem W2(s:aq)(q:s.length<=1048576):pR (s,())=some (decide<|s≠[]/\s.length<=100/\0∉s,()):=by
 unfold pR;rcases qF (f:=l5 (s,())) s (λi=>((false,i,()),())) (λ_ x=>decide (x=0)) (λi x=>(1,(false,(i:Int),()),())) ((0:Nat),(false,(s.length:Int),()),()) (by omega) (λi x d j k=>by
  unfold l5;dsimp only;rw[au j,ae,az d,aa,ahV,gX,k];by_cases l:x=0<;>simp[l]) (by unfold l5;dsimp only;rw[aB,af]) with ⟨i,x,d,n,_,h⟩|⟨o,h⟩
 .rw[h,aa,jI,af];have:x=0:=kx n;subst this;have a:(0:UInt8)∈s:=bR.2 ⟨i,d⟩;rw[dL<|by rintro⟨_,_,h⟩;exact h a]
 .rw[h,aa,eJ,ae,Yu];have a:(0:UInt8)∉s:=λa=>by
   obtain⟨i,j⟩:=bR.1 a;have:=o i 0 j;exact absurd this (by decide)
  congr 2
  rw[HC];simp only[dF,RP,len,nI];constructor
  .rintro⟨c,p⟩;exact⟨λe=>by rw[e] at c;simp at c,by omega,a⟩
  .rintro⟨c,p,_⟩;exact⟨by have:=SD.2 c;omega,by omega⟩
theorem vM(n:Nd)(v:n.1.length<=4096)(w:n.2.2.2.2.1.length<=4096):ku (n,())=some (kg n,()):=by
 obtain⟨p,k,m,d,l,u⟩:=n;unfold ku kg YC;dsimp only at v w⊢;rw[tr p v,aa];dsimp only;rw[H9,aa,PR p (by omega),W2 l (by omega)];simp only[aa,Yu];have e0:(aj (nt<|bz p []) (some<|(parts p).all zI&&decide ((parts p).length<=8)&&decide (p.length<=96)) (some false):Option Bool)=some (decide (p≠[])&&(parts p).all zI&&decide ((parts p).length<=8)&&decide (p.length<=96)):=by
  by_cases h:p=[]
  .subst h;rfl
  .simp[bz,h,aj,nt]
 rw[e0,aa];have x:((((((decide (p≠[])&&(parts p).all zI&&decide ((parts p).length<=8)&&decide (p.length<=96))&&ca (len p) 92)&&ca (len (bC p).2) 28)&&aL (mF (bC p).2).1 0)&&ca 0 m)&&ca m 4095)=(AH p&&decide (0<=m)&&decide (m<=4095)):=by
  rw[HC];unfold AH;simp only[dF,RP,len,aL,nI];constructor
  .rintro⟨⟨⟨⟨⟨⟨⟨⟨a,e⟩,f⟩,B⟩,y⟩,A⟩,i⟩,j⟩,o⟩;exact⟨⟨⟨⟨⟨⟨⟨a,e⟩,f⟩,by omega⟩,by omega⟩,i⟩,j⟩,o⟩
  .rintro⟨⟨⟨⟨⟨⟨⟨a,e⟩,f⟩,y⟩,A⟩,i⟩,j⟩,o⟩;exact⟨⟨⟨⟨⟨⟨⟨⟨a,e⟩,f⟩,by omega⟩,by omega⟩,by omega⟩,i⟩,j⟩,o⟩
 simp only[x];generalize (AH p&&decide (0<=m)&&decide (m<=4095))=c;by_cases q:k=1
 .subst q;rw[show aL 1 1=true by rfl,ae,bd rfl]
  congr 2
  rw[Bool.and_assoc]
  congr 1
  rw[HC];simp[bz,RQ,len];intro _;omega
 .rw[show aL k 1=false by simp[aL,q],af,bb q];by_cases r:k=2
  .subst r;rw[show aL 2 2=true by rfl,ae,bd rfl]
   congr 2
   rw[Bool.and_assoc]
   congr 1
   rw[HC];simp[bz]
  .rw[show aL k 2=false by simp[aL,r],af,bb r];by_cases s:k=3
   .subst s;rw[show aL 3 3=true by rfl,ae,bd rfl];cases c with
    | false=>rfl
    | true =>
      by_cases hd:d=[]
      .simp[bz,hd,aj,ab]
      .simp[bz,hd,aj,ab]
   .rw[show aL k 3=false by simp[aL,s],af,bb s,abt]
def Sm(n:Nd):Prop:=n.1.length<=200/\n.2.2.2.2.1.length<=300/\n.2.2.2.1.length<=8192
def PW(l:List Nd):Prop:=l.length<=4096/\∀x∈l,Sm x
def key(n:Nd):List aq:=parts n.1
def cmp(n:Nd)(p:aq):Int:=cmpL (parts n.1) (parts p)
theorem PW.at{l:List Nd}(h:PW l){i:Nat}{x:Nd}(a:l[i]?=some x):Sm x:=h.2 x (iy a)
theorem PW.take{l:List Nd}(h:PW l)(k:Nat):PW (l.take k):=⟨by rw[gM];have:=h.1;omega,λx a=>h.2 x (Nj a)⟩
def Ord(l:List Nd):Prop:=∀(i j:Nat) (x y:Nd),i<j->l[i]?=some x->l[j]?=some y->cmpL (key x) (key y)<0
theorem Ord.mono{l:List Nd}(h:Ord l)(p:aq):∀(i j:Nat) (x y:Nd),i<=j->l[i]?=some x->l[j]?=some y->cmp y p<0->cmp x p<0:=by
 intro i j x y e c a d;rcases ud i j with g|g
 .exact uC (h i j x y g c a) d
 .obtain rfl:i=j:=by omega
  rw[c] at a;obtain rfl:=aE a;exact d
theorem Ord.take{l:List Nd}(h:Ord l)(k:Nat):Ord (l.take k):=λi j x y d a c=>by
 rw[gm] at a c;split at a
 .split at c
  .exact h i j x y d a c
  .cases c
 .cases a
structure Plc (l:List Nd) (p:aq) (k:Nat) (b:Bool):Prop where
 le:k<=l.length
 lo:∀(j:Nat) (y:Nd),j<k->l[j]?=some y->cmp y p<0
 hi:∀(j:Nat) (y:Nd),k<=j->l[j]?=some y->¬cmp y p<0
 is:b=true->∃x,l[k]?=some x/\x.1=p
 no:b=false->∀x∈l,x.1≠p
theorem ac8{n:Nd}{p:aq}(h:cmp n p=0):n.1=p:=by
 have:=ZL h;rw[<-fJ n.1,this,fJ]
theorem ac9{n:Nd}{p:aq}(h:n.1=p):cmp n p=0:=by subst h;exact oX _
theorem AJ(l:List Nd)(p:aq)(d:PW l):(∃(i:Nat) (x:Nd),l[i]?=some x/\x.1=p/\gx (l,p,())=some ((i:Int),()))\/((∀x∈l,x.1≠p)/\gx (l,p,())=some (-1,())):=by
 unfold gx;rcases qF (f:=oq (l,p,())) l (λi=>((0,i,()),())) (λ_ x=>decide (x.1=p)) (λi x=>(1,((i:Int),(i:Int),()),())) ((0:Nat),(0,(l.length:Int),()),()) (by have:=d.1;omega) (λi x a c j=>by
  unfold oq;dsimp only;rw[au c,ae,az a,aa,Yk,j];by_cases h:x.1=p<;>simp[h,aj]) (by unfold oq;dsimp only;rw[aB,af]) with ⟨i,x,a,k,_,h⟩|⟨n,h⟩
 .left;refine⟨i,x,a,kx k,?_⟩;rw[h];rfl
 .right;refine⟨λx a e=>?_,by rw[h];rfl⟩;obtain⟨i,c⟩:=bR.1 a;have:=n i x c;simp[e] at this
theorem L9(l:List Nd)(d:aq)(r:PW l):∃b,mG (l,d,())=some (b,())/\(b=true->d=[]\/∃x∈l,x.1=d/\x.2.1=2)/\(Ord l->b=false->d≠[]/\∀x∈l,x.1=d->x.2.1≠2):=by
 unfold mG;dsimp only;by_cases f:d=[]
 .subst f;rcases AJ l [] r with ⟨i,x,a,c,h⟩|⟨_,h⟩<;>rw[h,aa]<;>exact⟨true,rfl,λ_=>.inl rfl,λ_ h=>by cases h⟩
 .rcases AJ l d r with ⟨i,x,a,c,h⟩|⟨v,h⟩
  .rw[h,aa,cw f,aA,ae];dsimp only;rw[cr<|by omega,ae,az a,aa,aa,aa];refine⟨_,rfl,λo=>.inr ⟨x,iy a,c,kx o⟩,λs o=>⟨f,λy w p A=>?_⟩⟩;have q:=SF o;obtain⟨j,n⟩:=bR.1 w;have k:key x=key y:=by unfold key;rw[c,p]
   rcases SH i j with g|g|g
   .have:=s i j x y g a n;rw[k,oX] at this;omega
   .subst g;rw[a] at n;obtain rfl:=aE n;exact q A
   .have:=s j i y x g n a;rw[k,oX] at this;omega
  .rw[h,aa,cw f,aA,ae];exact⟨false,rfl,λh=>(by cases h),λ_ _=>⟨f,λx a e=>absurd e (v x a)⟩⟩
structure Valid (l:List Nd):Prop where
 few:l.length<=64
 ord:Ord l
 may:∀x∈l,kg x=true
 up:∀x∈l,(bC x.1).1=[]\/∃y∈l,y.1=(bC x.1).1/\y.2.1=2
theorem yC{p:aq}(h:(bC p).1≠[]):parts p=parts (bC p).1++[(bC p).2]:=by
 rcases sb p with ⟨_,e⟩|⟨a,b,c,d,e⟩
 .rw[e] at h;exact absurd rfl h
 .rw[e] at h⊢;have f:p≠[]:=by rw[c];simp
  unfold parts;rw[bb f,bb h,c];exact As a b d
theorem Ord.uniq{l:List Nd}(h:Ord l){x y:Nd}(f:x∈l)(k:y∈l)(e:x.1=y.1):x=y:=by
 obtain⟨i,c⟩:=bR.1 f;obtain⟨j,a⟩:=bR.1 k;have d:key x=key y:=by unfold key;rw[e]
 rcases SH i j with g|g|g
 .have:=h i j x y g c a;rw[d,oX] at this;omega
 .subst g;rw[c] at a;exact aE a
 .have:=h j i y x g a c;rw[d,oX] at this;omega
theorem Ma{l:List Nd}(h:∀(k:Nat) (x y:Nd),l[k]?=some x->l[k+1]?=some y->cmpL (key x) (key y)<0):Ord l:=by
 have run:∀(d i:Nat) (x y:Nd),l[i]?=some x->l[i+1+d]?=some y->cmpL (key x) (key y)<0:=by
  intro d;induction d with
  | zero=>intro i x y c a;exact h i x y c a
  | succ d f =>
    intro i x y c a;have o:=aG a;obtain⟨z,e⟩:∃z,l[i+1+d]?=some z:=⟨_,jE (by omega)⟩;exact uC (f i x z c e) (h (i+1+d) z y e a)
 intro i j x y n c a;exact run (j-i-1) i x y c (by rw[show i+1+(j-i-1)=j by omega];exact a)
def PX(l:List Nd)(i:Nat)(x:Nd):Bool:=match i with
 | 0=>false
 | k+1=>match l[k]? with
   | some y=>decide (0<=cmpL (key y) (key x))
   | none=>false
theorem DH{l:List Nd}{k:Nat}{x y:Nd}(a:l[k]?=some y):PX l (k+1) x=decide (0<=cmpL (key y) (key x)):=by
 show(match l[k]? with|some y=>decide (0<=cmpL (key y) (key x))|none=>false)=_
 rw[a]
noncomputable def Ih(l:List Nd)(d:aq):Bool:=match mG (l,d,()) with
 | some y=>y.1
 | none=>false
theorem Ha(l:List Nd)(d:aq)(c:PW l):mG (l,d,())=some (Ih l d,())/\(Ih l d=true->d=[]\/∃x∈l,x.1=d/\x.2.1=2)/\(Ord l->Ih l d=false->d≠[]/\∀x∈l,x.1=d->x.2.1≠2):=by
 obtain⟨e,a,f,i⟩:=L9 l d c;have:Ih l d=e:=by unfold Ih;rw[a]
 rw[this];exact⟨a,f,i⟩
theorem aae{l:List Nd}(h:∀(i:Nat) (x:Nd),l[i]?=some x->PX l i x=false):Ord l:=Ma λk x y a c=>by
 have:=h (k+1) y c;rw[DH a] at this;have:=SF this;omega
theorem aaf{l:List Nd}(h:Ord l){i:Nat}{x:Nd}(a:l[i]?=some x):PX l i x=false:=by
 cases i with
 | zero=>rfl
 | succ k =>
   have d:=aG a;obtain⟨y,c⟩:∃y,l[k]?=some y:=⟨_,jE (by omega)⟩;rw[DH c];have:=h k (k+1) y x (by omega) c a;exact dL (by omega)
theorem qO(l:List Nd)(c:PW l):∃b,kJ (l,())=some (b,())/\(b=true↔Valid l):=by
 unfold kJ;dsimp only;have o:aO 64 (len l)=decide (64<l.length):=by unfold aO len;apply ky.2;omega
 rw[o];by_cases s:64<l.length
 .rw[cd s,ae];exact⟨false,rfl,λh=>(by cases h),λh=>by have:=h.few;omega⟩
 .rw[dL s,af];rcases qF (f:=ry (l,())) l (λi=>((false,i,()),())) (λi x=>!kg x||!Ih l (bC x.1).1||PX l i x) (λi x=>(1,(false,(i:Int),()),())) ((0:Nat),(false,(l.length:Int),()),()) (by have:=c.1;omega) (λi x a e w=>by
   unfold ry;dsimp only;rw[au e,ae,az a,aa,tr _ (by have:=(c.at a).1;omega),aa,aa,vM _ (by have:=(c.at a).1;omega) (by have:=(c.at a).2.1;omega),aa];dsimp only;cases E:kg x with
   | false=>rfl
   | true =>
     rw[aH,af,(Ha l (bC x.1).1 c).1,aa];dsimp only;cases F:Ih l (bC x.1).1 with
     | false=>rfl
     | true =>
       rw[aH,af,w];cases i with
       | zero=>rw[aD<|by simp,af];simp[PX]
       | succ k =>
         obtain⟨y,j⟩:∃y,l[k]?=some y:=⟨_,jE (by omega)⟩;rw[aU<|by omega,ae,fo (by omega) (by omega),show(((k+1:Nat):Int)-1)=(k:Int) by omega,az j,aa,aa,Au _ _ (by have:=(c.at j).1;omega) (by have:=(c.at a).1;omega),aa];dsimp only;rw[RQ];rw[DH j];unfold key;by_cases v:0<=cmpL (parts y.1) (parts x.1)
         .rw[cd v,ae];simp
         .rw[dL v,af];simp) (by unfold ry;dsimp only;rw[aB,af]) with ⟨i,x,a,p,_,h⟩|⟨A,h⟩
  .rw[h,aa,jI,af];refine⟨false,rfl,λh=>(by cases h),λn=>?_⟩;rw[n.may x<|iy a,aaf n.ord a] at p;simp only[abu,B6,XQ,kS] at p;obtain⟨B,C⟩:=(Ha l (bC x.1).1 c).2.2 n.ord p;rcases n.up x (iy a) with D|⟨y,j,q,r⟩
   .exact absurd D B
   .exact absurd r (C y j q)
  .rw[h,aa,eJ,ae];have d:∀(i:Nat) (x:Nd),l[i]?=some x->kg x=true/\Ih l (bC x.1).1=true/\PX l i x=false:=λi x a=>by
    have:=A i x a;simp only[BK,O4] at this;exact⟨this.1.1,this.1.2,this.2⟩
   refine⟨true,rfl,λ_=>⟨by omega,aae λi x a=>(d i x a).2.2,λx a=>?_,λx a=>?_⟩,λ_=>rfl⟩
   .obtain⟨i,e⟩:=bR.1 a;exact(d i x e).1
   .obtain⟨i,e⟩:=bR.1 a;exact(Ha l (bC x.1).1 c).2.1 (d i x e).2.1
theorem takeWhile_eq{c:Type}{P:c->Bool}:∀{l:List c} {k:Nat},k<=l.length->(∀(j:Nat) (y:c),j<k->l[j]?=some y->P y=true)->(∀y,l[k]?=some y->P y=false)->l.takeWhile P=l.take k/\l.dropWhile P=l.drop k:=by
 intro l;induction l with
 | nil=>intro k e _ _;simp
 | cons a r n =>
   intro k e f i;cases k with
   | zero =>
     have:=i a rfl;simp[Km,Ki,this]
   | succ k =>
     have o:=f 0 a (by omega) rfl;obtain⟨p,q⟩:=n (k:=k) (by simpa using e) (λj y s d=>f (j+1) y (by omega) d) (λy d=>i y d);simp[Km,Ki,o,p,q]
theorem filter_one{c:Type}{l:List c}{P:c->Bool}{k:Nat}{x:c}(f:l[k]?=some x)(i:P x=false)(h:∀(j:Nat) (y:c),j≠k->l[j]?=some y->P y=true):l.filter P=l.take k++l.drop (k+1):=by
 have n:=aG f;have e:l=l.take k++x::l.drop (k+1):=by
  conv=>lhs;rw[<-x6 k l,BJ n]
  rw[(ix.1 f).2]
 conv=>lhs;rw[e]
 rw[List.filter_append,List.filter_cons,i];have o:(l.take k).filter P=l.take k:=abc.2 λy d=>by
  obtain⟨j,a⟩:=bR.1 d;rw[gm] at a;split at a
  .exact h j y (by omega) a
  .cases a
 have p:(l.drop<|k+1).filter P=l.drop (k+1):=abc.2 λy d=>by
  obtain⟨j,a⟩:=bR.1 d;rw[l9] at a;exact h (k+1+j) y (by omega) a
 rw[o,p];simp
def vh(l:List Nd)(n:Nd):List Nd:=l.takeWhile (λx=>decide (cmp x n.1<0))++n::l.dropWhile (λx=>decide (cmp x n.1<0))
def gone(p:aq)(x:Nd):Bool:=decide (x.1=p)||cH (parts x.1) (parts p)
def uU(l:List Nd)(p:aq):List Nd:=l.filter λx=>!gone p x
theorem Ord.filter{l:List Nd}(h:Ord l)(P:Nd->Bool):Ord (l.filter P):=by
 have d:l.Pairwise λx y=>cmpL (key x) (key y)<0:=by
  rw[Ng];intro i j e f a;exact h i j _ _ a (jE e) (jE f)
 have c:=d.filter P;rw[Ng] at c;intro i j x y a k n;obtain⟨o,p⟩:=ix.1 k;obtain⟨q,r⟩:=ix.1 n;rw[<-p,<-r];exact c i j o q a
theorem PW.filter{l:List Nd}(h:PW l)(P:Nd->Bool):PW (l.filter P):=⟨iz (O0 _ _) h.1,λx a=>h.2 x (wZ.1 a).1⟩
theorem Mb{l:List Nd}(r:Valid l){p:aq}(B:p≠[])(C:∀x∈l,x.1≠p):∀(m:Nat) (x:Nd),x∈l->(parts x.1).length<=m->cH (parts x.1) (parts p)=false:=by
 intro m;induction m with
 | zero =>
   intro x j k;unfold cH;exact dL (by omega)
 | succ m D =>
   intro x j k;cases s:cH (parts x.1) (parts p) with
   | false=>rfl
   | true =>
     exfalso;unfold cH at s;obtain⟨v,i⟩:=kx s;have c:=r.may x j;unfold kg AH at c;simp only[dF,nI] at c;by_cases d:(bC x.1).1=[]
     .have f:=c.1.1.1.1.1.1.1.2;have w:(parts x.1).length<=1:=by
       rcases sb x.1 with ⟨a,_⟩|⟨a,b,E,H,e⟩
       .unfold parts;split
        .simp
        .rw[nf _ a];simp
       .rw[e] at d;have d:a=[]:=d;subst d;have:zI []=true:=va.1 f [] (by
         unfold parts;rw[E,bb (by simp)];show []∈cC ([]++47::b)
         rw[Dq []<|by simp];simp)
        exact absurd this (by decide)
      have:parts p=[]:=vY.1 (by omega);have:=fJ p;rw[‹parts p=[]›] at this;exact B this.symm
     .have n:=yC d;rcases r.up x j with e|⟨y,A,o,F⟩
      .exact absurd e d
      .rw[<-o] at n;rw[n] at v i;have q:(parts p).length<=(parts y.1).length:=by simp at v;omega
       rw[Y0 q] at i;rcases ud (parts p).length (parts y.1).length with g|g
       .have:=D y A (by rw[n] at k;simp at k;omega);unfold cH at this;exact absurd ⟨g,i⟩ (SF this)
       .have G:parts p=parts y.1:=by rw[<-i,zN (by omega)]
        refine C y A ?_;rw[<-fJ y.1,<-G,fJ]
theorem W3{l:List Nd}(d:Valid l){p:aq}(e:p≠[])(a:∀x∈l,x.1≠p):uU l p=l:=abc.2 λx c=>by
 unfold gone;rw[Mb d e a _ x c<|cD _,dL (a x c)];rfl
open Classical in
noncomputable def b9(l:List Nd)(n:Nd):List Nd×Int :=
 if ¬Valid l\/kg n=false then([],1) else
 if(bC n.1).1≠[]/\∀x∈l,x.1≠(bC n.1).1 then([],3) else
 if(bC n.1).1≠[]/\∀x∈l,x.1=(bC n.1).1->x.2.1≠2 then([],12) else
 let r:=if(∃x∈l,x.1=n.1/\x.2.1=2)/\n.2.1=2 then l.filter (λx=>!decide (x.1=n.1)) else uU l n.1
 if 64<=r.length then([],5) else(vh r n,0)
theorem YD{n:Nd}(h:kg n=true):n.1≠[]:=by
 unfold kg AH at h;simp only[dF,nI] at h;exact h.1.1.1.1.1.1.1.1
theorem ada{l:List Nd}(p:Ord l){n x:Nd}{k:Nat}(i:l[k]?=some x)(e:x.1=n.1):l.filter (λx=>!decide (x.1=n.1))=l.take k++l.drop (k+1)/\vh (l.take k++l.drop (k+1)) n=l.take k++[n]++l.drop (k+1):=by
 have B:=aG i;have d:key x=parts n.1:=by unfold key;rw[e]
 have o:∀(j:Nat) (y:Nd),j<k->l[j]?=some y->cmp y n.1<0:=λj y f a=>by
  have:=p j k y x f a i;rw[d] at this;exact this
 have q:∀(j:Nat) (y:Nd),k<j->l[j]?=some y->¬cmp y n.1<0:=λj y f a v=>by
  have:=p k j x y f i a;rw[d] at this;have:=uC this v;rw[oX] at this;omega
 have c:(l.take k).length=k:=by rw[gM];omega
 constructor
 .refine filter_one i (by rw[cd e];rfl) λj y f a=>?_;rw[dL];rfl;intro s;have C:=ac9 s;rcases ud j k with g|g
  .have:=o j y g a;omega
  .have r:key x=key y:=by rw[d];unfold key;rw[s]
   have:=p k j x y (by omega) i a;rw[r,oX] at this;omega
 .obtain⟨w,A⟩:=takeWhile_eq (l:=l.take k++l.drop (k+1)) (k:=k) (P:=λx=>decide (cmp x n.1<0)) (by rw[iP,c];omega) (λj y f a=>by
   rw[Qh<|by omega,gm,bd f] at a;exact cd (o j y f a)) (λy a=>by
   rw[Vt<|by omega,c,abA,l9] at a;exact dL (q _ y (by omega) a))
  unfold vh;rw[w,A,HD c,HB c];simp
def kh(l:List Nd)(p:aq)(b:Bool):List Nd:=l.filter λx=>!cH (parts x.1) (parts p)&&(!b||!decide (x.1=p))
theorem AK(l:List Nd)(p:aq)(b:Bool)(d:PW l)(j:p.length<=4096):iJ (l,p,b,())=some (kh l p b,()):=by
 unfold iJ;have s:=d.1;have c:∀m:List Nd,m.flatMap (λx=>if(!cH (parts x.1) (parts p)&&(!b||!decide (x.1=p)))=true then [x] else [])=kh m p b:=by
  intro m;unfold kh;induction m with
  | nil=>rfl
  | cons a r k =>
    rw[abl,k,List.filter_cons];split<;>simp
 have h:=nP (f:=hY (l,p,b,())) l (λa i=>(((),i,()),a,())) (λx=>if(!cH (parts x.1) (parts p)&&(!b||!decide (x.1=p)))=true then [x] else []) (((),(l.length:Int),()),kh l p b,()) (by omega) (λi x e n o=>by
  unfold hY;dsimp only;have hlen:((l.take i).flatMap λx=>if(!cH (parts x.1) (parts p)&&(!b||!decide (x.1=p)))=true then [x] else []).length<=4096:=by
   rw[c];unfold kh;refine iz (O0 _ _) ?_;rw[gM];omega
  rw[au n,ae,az e,aa,Rz _ _ (by have:=(d.at e).1;omega) j,aa,aa,aa,o,b7 (by simp only[Qi];omega)];dsimp only;rw[Yk];cases cH (parts x.1) (parts p)<;>cases b<;>cases decide (x.1=p)<;>simp[aj,nt,ab,cA,app]) (by
  unfold hY;dsimp only;rw[aB,af,c];rfl)
 have q:Loop (hY (l,p,b,())) (((),(0:Int),()),([]:List Nd),())=some (((),(l.length:Int),()),kh l p b,()):=h;rw[q,aa]
theorem Ob(l:List Nd)(p:aq):kh l p true=uU l p:=by
 unfold kh uU
 congr 1
 funext x;unfold gone;cases cH (parts x.1) (parts p)<;>cases decide (x.1=p)<;>rfl
theorem Uv(l r:List Nd)(n:Nd)(p:PW r)(q:n.1.length<=200):∃k:Nat,k<=r.length/\Loop (ka (l,n,()) ((r,()),())) (((0:Int),()),())=some (((k:Int),()),())/\vh r n=r.take k++[n]++r.drop k:=by
 have B:=p.1;rcases qF (f:=ka (l,n,()) ((r,()),())) r (λi=>((i,()),())) (λ_ x=>!decide (cmp x n.1<0)) (λi _=>(((i:Int),()),())) (((r.length:Int),()),()) (by omega) (λi x c s v=>by
  unfold ka;dsimp only;rw[au s,ae,az c,aa,Au _ _ (by have:=(p.at c).1;omega) (by omega),aa,v];dsimp only;unfold cmp aO;cases decide (cmpL (parts x.1) (parts n.1)<0)<;>rfl) (by
  unfold ka;dsimp only;rw[aB,af];rfl) with ⟨i,x,c,w,A,h⟩|⟨q,h⟩
 .refine⟨i,by have:=aG c;omega,h,?_⟩;obtain⟨e,o⟩:=takeWhile_eq (l:=r) (k:=i) (P:=λx=>decide (cmp x n.1<0)) (by have:=aG c;omega) (λj y d a=>by
   have:=A j y d a;simpa using this) (λy a=>by
   rw[c] at a;obtain rfl:=aE a;simpa using w)
  unfold vh;rw[e,o];simp
 .refine⟨r.length,cD _,h,?_⟩;obtain⟨e,o⟩:=takeWhile_eq (l:=r) (k:=r.length) (P:=λx=>decide (cmp x n.1<0)) (cD _) (λj y d a=>by
   have:=q j y a;simpa using this) (λy a=>by
   have:=aG a;omega)
  unfold vh;rw[e,o];simp
theorem AL(l r:List Nd)(n:Nd)(d:PW r)(f:n.1.length<=200) :
  aj (ca 64<|len r) (some (([]:List Nd),(5:Int),())) (ab (Loop (ka (l,n,()) ((r,()),())) (((0:Int),()),())) λ(c:(Int×ai)×ai)=>aj (inside 0 c.1.1<|len r)
   (aj (fits<|plus (len ([]:List Nd))<|len<|sub r 0<|minus c.1.1 0)
   (aj (fits<|plus (len<|app ([]:List Nd)<|sub r 0<|minus c.1.1 0)<|len [n])
   (aj (inside c.1.1 (len r)<|len r)
   (aj (fits<|plus (len<|app (app ([]:List Nd)<|sub r 0<|minus c.1.1 0) [n])<|len<|sub r c.1.1<|minus (len r) c.1.1)
   (some (app (app (app ([]:List Nd)<|sub r 0<|minus c.1.1 0) [n])<|sub r c.1.1<|minus (len r) c.1.1,(0:Int),()))
   none) none) none) none) none)=some (if 64<=r.length then([],5,()) else(vh r n,0,())):=by
 have w:=d.1;rw[RQ];by_cases h:64<=r.length
 .rw[cd<|by unfold len;omega,ae,bd h]
 .rw[dL<|by unfold len;omega,af,bb h];obtain⟨k,e,i,j⟩:=Uv l r n d f;rw[i,aa];dsimp only;have o:inside 0 (k:Int) (len r)=true:=qE (a:=0) (pj _) e;have p:inside (k:Int) (len r) (len r)=true:=aY (by omega) (by unfold len;omega) (DY _);rw[o,ae,jU,pJ r k e,p];have q:fits (plus (len ([]:List Nd))<|len<|r.take k)=true:=b7 (by rw[gM];simp;omega);have s:fits (plus (len<|app ([]:List Nd)<|r.take k)<|len [n])=true:=b7 (by rw[Dh,wY,gM];simp;omega);have v:fits (plus (len<|app (app ([]:List Nd)<|r.take k) [n])<|len<|r.drop k)=true:=b7 (by rw[Dh,Dh,wY,iP,gM,ma];simp;omega);rw[q,s,v,ae,ae,ae,ae,j];rfl
theorem AM(l:List Nd)(n:Nd)(p:PW l)(M:Sm n):mH (l,n,())=some ((b9 l n).1,(b9 l n).2,()):=by
 obtain⟨e,R,N⟩:=qO l p;have w:=M.1;have hb:=p.1;unfold mH;dsimp only;rw[R,aa,vM n (by omega) (by have:=M.2.1;omega),aa];dsimp only;by_cases f:¬Valid l\/kg n=false
 .have k:b9 l n=([],1):=by unfold b9;rw[bd f]
  rw[k];have:aj (nt<|nt e) (some<|nt<|kg n) (some true)=some true:=by
   rcases f with h|h
   .rw[show e=false by
     cases e with
     | false=>rfl
     | true=>exact absurd (N.1 rfl) h]
    rfl
   .rw[h];cases nt (nt e)<;>rfl
  rw[this,aa,ae]
 .have hv:Valid l:=by
   by_cases h:Valid l
   .exact h
   .exact absurd (.inl h) f
  have O:kg n=true:=by
   cases h:kg n with
   | true=>rfl
   | false=>exact absurd (.inr h) f
  obtain rfl:=N.2 hv;rw[O];have:aj (nt<|nt true) (some<|nt true) (some true)=some false:=rfl;rw[this,aa,af,tr _ (by omega),aa];dsimp only;obtain⟨A,S,P⟩:∃A,aj (nt<|bz (bC n.1).1 []) (ab (gx (l,(bC n.1).1,())) λ(y:Int×ai)=>some (aO y.1 0)) (some false)=some A/\(A=true↔((bC n.1).1≠[]/\∀x∈l,x.1≠(bC n.1).1)):=by
   by_cases D:(bC n.1).1=[]
   .refine⟨false,by rw[D];rfl,λh=>(by cases h),λh=>absurd D h.1⟩
   .rw[cw D,aA,ae];rcases AJ l (bC n.1).1 p with ⟨i,x,s,o,h⟩|⟨q,h⟩
    .refine⟨false,by rw[h,aa,aD (by omega)],λh=>(by cases h),λh=>absurd o (h.2 x<|iy s)⟩
    .exact⟨true,by rw[h,aa];rfl,λ_=>⟨D,q⟩,λ_=>rfl⟩
  rw[S,aa];by_cases B:(bC n.1).1≠[]/\∀x∈l,x.1≠(bC n.1).1
  .have k:b9 l n=([],3):=by unfold b9;rw[bb f,bd B]
   rw[P.2 B,k];rfl
  .have:A=false:=by
    cases A with
    | false=>rfl
    | true=>exact absurd (P.1 rfl) B
   rw[this,af];obtain⟨d,T,U,V⟩:=L9 l (bC n.1).1 p;rw[T,aa];dsimp only;by_cases C:(bC n.1).1≠[]/\∀x∈l,x.1=(bC n.1).1->x.2.1≠2
   .have k:b9 l n=([],12):=by unfold b9;rw[bb f,bb B,bd C]
    have:d=false:=by
     cases d with
     | false=>rfl
     | true =>
       rcases U rfl with h|⟨x,s,E,F⟩
       .exact absurd h C.1
       .exact absurd F (C.2 x s E)
    rw[this,k];rfl
   .have:d=true:=by
     cases d with
     | true=>rfl
     | false=>exact absurd (V hv.ord rfl) C
    rw[this,show nt true=false by rfl,af];have k:b9 l n=(let r:=if(∃x∈l,x.1=n.1/\x.2.1=2)/\n.2.1=2 then l.filter (λx=>!decide (x.1=n.1)) else uU l n.1
      if 64<=r.length then([],5) else(vh r n,0)):=by
     unfold b9;rw[bb f,bb B,bb C]
    rcases AJ l n.1 p with ⟨i,x,s,o,h⟩|⟨q,h⟩
    .have hi:=aG s;have v:=iy s;rw[h,aa];dsimp only;rw[cr<|by omega,ae,az s,aa,aa];by_cases j:x.2.1=2/\n.2.1=2
     .obtain⟨Q,s2⟩:=ada hv.ord s o;rw[bd<|show((∃x∈l,x.1=n.1/\x.2.1=2)/\n.2.1=2) from⟨⟨x,v,o,j.1⟩,j.2⟩,Q] at k;have W:inside 0 (i:Int) (len l)=true:=qE (a:=0) (pj _) (by omega);have X:inside ((i+1:Nat):Int) (len l) (len l)=true:=aY (by omega) (by unfold len;omega) (DY _);rw[aW j.1,aW j.2,ae,ae,W,ae,jU,aT (by omega),X,pJ l (i+1) (by omega)];have Y:fits (plus (len ([]:List Nd))<|len<|l.take i)=true:=b7 (by rw[gM];simp;omega);have Z:fits (plus (len<|app ([]:List Nd)<|l.take i)<|len<|l.drop<|i+1)=true:=b7 (by rw[Dh,wY,gM,ma];omega);rw[Y,Z,ae,ae,ae,aa];dsimp only;have hr:PW (l.take i++l.drop (i+1)):=by rw[<-Q];exact p.filter _
      refine w8 (AL l (l.take i++l.drop (i+1)) n hr w) ?_;rw[k];by_cases c:64<=(l.take i++l.drop (i+1)).length
      .rw[bd c];simp only[c,mh]
      .rw[bb c];simp only[c,sR]
     .have hs:aj (aL x.2.1 2) (aL n.2.1 2) false=false:=by
       unfold aL;by_cases G:x.2.1=2
       .rw[cd G,ae];exact dL λH=>j ⟨G,H⟩
       .rw[dL G,af]
      rw[bb (show ¬((∃x∈l,x.1=n.1/\x.2.1=2)/\n.2.1=2) from λh=>by
       obtain⟨⟨y,I,J,K⟩,H⟩:=h;have:=hv.ord.uniq v I (by rw[o,J]);subst this;exact j ⟨K,H⟩)] at k
      rw[hs,af,AK l n.1 true p (by omega),Ob];simp only[aa,ae];refine w8 (AL l (uU l n.1) n (p.filter _) w) ?_;rw[k];by_cases c:64<=(uU l n.1).length
      .rw[bd c];simp only[c,mh]
      .rw[bb c];simp only[c,sR]
    .have L:¬((∃x∈l,x.1=n.1/\x.2.1=2)/\n.2.1=2):=λ⟨⟨y,I,J,_⟩,_⟩=>q y I J;rw[bb L,W3 hv (YD O) q] at k;rw[h,aa];dsimp only;rw[show ca 0 (-1)=false by rfl];simp only[aa,af];refine w8 (AL l l n p w) ?_;rw[k];by_cases c:64<=l.length
     .rw[bd c];simp only[c,mh]
     .rw[bb c];simp only[c,sR]
def adb:Nd:=([],0,0,[],[],())
def findF(l:List Nd)(p:aq):Nd×Bool×ai:=match l.find? λx=>decide (x.1=p) with
 | some x=>(x,true,())
 | none=>(adb,false,())
theorem W4{l:List Nd}{p:aq}(h:∀x∈l,x.1≠p):findF l p=(adb,false,()):=by
 unfold findF;rw[SG.2 λx a=>by simp[h x a]]
theorem Mc{l:List Nd}(d:Ord l){p:aq}{x:Nd}(c:x∈l)(e:x.1=p):findF l p=(x,true,()):=by
 unfold findF;cases h:l.find? λx=>decide (x.1=p) with
 | none=>have:=SG.1 h x c;simp[e] at this
 | some y =>
   have a:=abr h;have f:=aaZ h;have a:y.1=p:=by simpa using a
   have:=d.uniq c f (by rw[e,a]);subst this;rfl
def aeU:List Nd->Bool
 | a::b::r=>decide (cmpL (key a) (key b)<0)&&aeU (b::r)
 | _=>true
theorem ade:∀{l:List Nd},aeU l=true->Ord l:=by
 intro l h;refine Ma ?_;induction l with
 | nil=>intro k x y c;simp at c
 | cons a r e =>
   cases r with
   | nil=>intro k x y c d;simp at d
   | cons b r =>
     simp only[aeU,dF,nI] at h;intro k x y c d;cases k with
     | zero =>
       obtain rfl:a=x:=by simpa using c
       obtain rfl:b=y:=by simpa using d
       exact h.1
     | succ k=>exact e h.2 k x y c d
def Md(l:List Nd):Bool:=decide (l.length<=64)&&aeU l&&l.all kg&&l.all λx=>decide ((bC x.1).1=[])||l.any λy=>decide (y.1=(bC x.1).1)&&decide (y.2.1=2)
theorem Fj{l:List Nd}(h:Md l=true):Valid l:=by
 unfold Md at h;simp only[dF,nI] at h;refine⟨h.1.1.1,ade h.1.1.2,λx a=>va.1 h.1.2 x a,λx a=>?_⟩;have:=va.1 h.2 x a;simp only[x7,nI,XK,dF] at this;exact this
def nD:Nd:=([100],2,493,[],[],())
def nA:Nd:=([100,47,97],1,420,[120],[],())
theorem adf:Md []=true/\Md [nD]=true/\Md [nD,nA]=true:=by decide +kernel
set_option synthInstance.maxHeartbeats 200000 in
set_option synthInstance.maxSize 4000 in
instance ald:DecidableEq Nd:=inferInstance
theorem PY(a:Nd)(r:List Nd)(n:Nd):vh (a::r) n=if cmp a n.1<0 then a::vh r n else n::a::r:=by
 unfold vh;by_cases h:cmp a n.1<0
 .rw[bd h,Km,Ki];simp[h]
 .rw[bb h,Km,Ki];simp[h]
theorem si{r:List Nd}{n x:Nd}:x∈vh r n↔x=n\/x∈r:=by
 induction r with
 | nil=>simp[vh]
 | cons a r c =>
   rw[PY];split
   .rw[fY,c,fY];constructor
    .rintro(h|h|h)
     .exact .inr (.inl h)
     .exact .inl h
     .exact .inr (.inr h)
    .rintro(h|h|h)
     .exact .inr (.inl h)
     .exact .inl h
     .exact .inr (.inr h)
   .rw[fY]
theorem adg(r:List Nd)(n:Nd):(vh r n).length=r.length+1:=by
 unfold vh;rw[iP,dW,<-x8,<-iP,Kf]
theorem Hb{l:List Nd}:Ord l↔l.Pairwise λx y=>cmpL (key x) (key y)<0:=by
 constructor
 .intro h;rw[Ng];intro i j c d a;exact h i j _ _ a (jE c) (jE d)
 .intro h i j x y a e f;rw[Ng] at h;obtain⟨k,n⟩:=ix.1 e;obtain⟨o,p⟩:=ix.1 f;rw[<-n,<-p];exact h i j k o a
theorem adh{r:List Nd}{n:Nd}(d:Ord r)(f:∀x∈r,x.1≠n.1):Ord (vh r n):=by
 rw[Hb] at d⊢;induction r with
 | nil=>simp[vh]
 | cons a r j =>
   rw[Ko] at d;rw[PY];split
   .rename_i h;refine Ko.2 ⟨λy c=>?_,j d.2 λx k=>f x (by simp[k])⟩;rcases si.1 c with rfl|c
    .exact h
    .exact d.1 y c
   .rename_i h;have i:cmpL (key n) (key a)<0:=by
     have l:cmp a n.1≠0:=λe=>f a (by simp) (ac8 e);have o:cmpL (key n) (key a)=- cmpL (key a) (key n):=acF _ _;have p:cmp a n.1=cmpL (key a) (key n):=rfl;omega
    refine Ko.2 ⟨λy c=>?_,Ko.2 d⟩;rcases fY.1 c with rfl|c
    .exact i
    .exact uC i (d.1 y c)
theorem Me{x y:Nd}{p:aq}(c:(bC x.1).1≠[])(e:y.1=(bC x.1).1)(h:cH (parts y.1) (parts p)=true):cH (parts x.1) (parts p)=true:=by
 have a:=yC c;rw[<-e] at a;unfold cH at h⊢;obtain⟨f,d⟩:=kx h;refine cd ⟨?_,?_⟩
 .rw[a,iP];omega
 .rw[a,Y0 (by omega),d]
theorem DI{x:Nd}(c:(bC x.1).1≠[]):cH (parts x.1) (parts (bC x.1).1)=true:=by
 have a:=yC c;unfold cH;refine cd ⟨?_,?_⟩
 .rw[a,iP];simp
 .rw[a];simp
def J7(l:List Nd)(n:Nd)(r:List Nd):Prop :=
 (((∃x∈l,x.1=n.1/\x.2.1=2)/\n.2.1=2)/\r=l.filter λx=>!decide (x.1=n.1))\/((¬((∃x∈l,x.1=n.1/\x.2.1=2)/\n.2.1=2))/\r=uU l n.1)
theorem Mf(l:List Nd)(n:Nd):((b9 l n).1=[]/\(b9 l n).2≠0) \/
  (Valid l/\kg n=true/\((bC n.1).1=[]\/∃x∈l,x.1=(bC n.1).1/\x.2.1=2)/\∃r,J7 l n r/\r.length<64/\b9 l n=(vh r n,0)):=by
 unfold b9;by_cases c:¬Valid l\/kg n=false
 .rw[bd c];exact .inl ⟨rfl,by decide⟩
 .rw[bb c];by_cases d:(bC n.1).1≠[]/\∀x∈l,x.1≠(bC n.1).1
  .rw[bd d];exact .inl ⟨rfl,by decide⟩
  .rw[bb d];by_cases i:(bC n.1).1≠[]/\∀x∈l,x.1=(bC n.1).1->x.2.1≠2
   .rw[bd i];exact .inl ⟨rfl,by decide⟩
   .rw[bb i];have hv:Valid l:=SA λh=>c (.inl h);have j:kg n=true:=by
     cases h:kg n with
     | true=>rfl
     | false=>exact absurd (.inr h) c
    have k:(bC n.1).1=[]\/∃x∈l,x.1=(bC n.1).1/\x.2.1=2:=by
     by_cases o:(bC n.1).1=[]
     .exact .inl o
     .right;refine SA λh=>i ⟨o,λx p e d=>h ⟨x,p,e,d⟩⟩
    by_cases f:(∃x∈l,x.1=n.1/\x.2.1=2)/\n.2.1=2
    .simp only[bd f];by_cases a:64<=(l.filter λx=>!decide (x.1=n.1)).length
     .rw[bd a];exact .inl ⟨rfl,by decide⟩
     .rw[bb a];exact .inr ⟨hv,j,k,_,.inl ⟨f,rfl⟩,by omega,rfl⟩
    .simp only[bb f];by_cases a:64<=(uU l n.1).length
     .rw[bd a];exact .inl ⟨rfl,by decide⟩
     .rw[bb a];exact .inr ⟨hv,j,k,_,.inr ⟨f,rfl⟩,by omega,rfl⟩
theorem J7.sub{l r:List Nd}{n:Nd}(h:J7 l n r):(∀x∈r,x∈l/\x.1≠n.1)/\∃P,r=l.filter P:=by
 rcases h with ⟨_,rfl⟩|⟨_,rfl⟩
 .refine⟨λx a=>?_,_,rfl⟩;have:=wZ.1 a;simpa using this
 .refine⟨λx a=>?_,_,rfl⟩;have:=wZ.1 a;unfold gone at this;simp at this;exact⟨this.1,this.2.1⟩
theorem PZ{l r:List Nd}{n:Nd}(s:Valid l)(A:kg n=true)(B:(bC n.1).1=[]\/∃x∈l,x.1=(bC n.1).1/\x.2.1=2)(q:J7 l n r)(C:r.length<64):Valid (vh r n):=by
 obtain⟨d,P,D⟩:=q.sub;have E:Ord r:=by rw[D];exact s.ord.filter P
 refine⟨by rw[adg];omega,adh E λx f=>(d x f).2,λx f=>?_,λx f=>?_⟩
 .rcases si.1 f with rfl|f
  .exact A
  .exact s.may x (d x f).1
 .rcases si.1 f with rfl|f
  ·
   rcases B with h|⟨y,o,c,i⟩
   .exact .inl h
   .by_cases k:(bC x.1).1=[]
    .exact .inl k
    .right;refine⟨y,si.2 (.inr ?_),c,i⟩;have a:=DI k;rw[<-c] at a;have hlen:(parts y.1).length<(parts x.1).length:=by
      unfold cH at a;exact(kx a).1
     have p:y.1≠x.1:=λe=>by rw[e] at hlen;omega
     have v:cH (parts y.1) (parts x.1)=false:=by
      unfold cH;exact dL λh=>by omega
     rcases q with ⟨_,rfl⟩|⟨_,rfl⟩
     .exact wZ.2 ⟨o,by simp[p]⟩
     .exact wZ.2 ⟨o,by unfold gone;simp[p,v]⟩
  .rcases s.up x (d x f).1 with h|⟨y,o,c,i⟩
   .exact .inl h
   .by_cases k:(bC x.1).1=[]
    .exact .inl k
    .right;have a:=DI k;by_cases e:y.1=n.1
     .rcases q with ⟨F,rfl⟩|⟨_,rfl⟩
      .exact⟨n,si.2 (.inl rfl),by rw[<-e,c],F.2⟩
      .have:=(wZ.1 f).2;rw[<-c,e] at a;unfold gone at this;rw[a] at this;simp at this
     .refine⟨y,si.2 (.inr ?_),c,i⟩;rcases q with ⟨_,rfl⟩|⟨_,rfl⟩
      .exact wZ.2 ⟨o,by simp[e]⟩
      .refine wZ.2 ⟨o,?_⟩;have j:=(wZ.1 f).2;unfold gone at j⊢;cases w:cH (parts y.1) (parts n.1) with
       | false=>simp[e]
       | true =>
         rw[Me k c w] at j;simp at j
def Mg(a:List aq):Prop:=∀x∈a,47∉x/\x≠[]
def kQ(m:Int)(p:aq):Nd:=(p,(2:Int),m,([]:aq),([]:aq),())
def fh(a:List aq)(j:Nat):aq:=aM (a.take<|j+1)
theorem uV{a:List aq}(h:Mg a){i:Nat}{x:aq}(e:a[i]?=some x):sd (aM<|a.take i) x=fh a i:=by
 have c:a.take (i+1)=a.take i++[x]:=by rw[Qk,e];rfl
 have:=LV [x] (a.take i) (λy d=>by
  rw[<-c] at d;exact h y (Nj d))
 unfold fh;rw[c];exact this
theorem AN:∀(ns:List aq) (k:Nat),(aM<|ns.take k).length<=(aM ns).length:=by
 intro ns;induction ns with
 | nil=>intro k;simp
 | cons x r a =>
   intro k;cases k with
   | zero=>simp[aM]
   | succ k =>
     rw[XF];cases r with
     | nil=>simp
     | cons y r =>
       cases k with
       | zero=>simp[aM]
       | succ k =>
         have:=a (k+1);rw[XF] at this⊢;simp only[aM,iP,dW] at this⊢;omega
theorem Cv:∀(ns:List aq) (x:aq),x∈ns->x.length<=(aM ns).length:=by
 intro ns;induction ns with
 | nil=>intro x c;cases c
 | cons a r d =>
   intro x c;cases r with
   | nil =>
     rw[zO] at c;subst c;simp[aM]
   | cons b r =>
     simp only[aM,iP,dW];rcases fY.1 c with rfl|c
     .omega
     .have:=d x c;omega
def P0(a:List aq):Prop:=Mg a/\a.length<=16/\(aM a).length<=200
theorem P0.yD{a:List aq}(h:P0 a)(k:Nat):(aM<|a.take k).length<=200:=iz (AN a k) h.2.2
theorem P0.YE{a:List aq}(h:P0 a){x:aq}(c:x∈a):x.length<=200:=iz (Cv a x c) h.2.2
theorem P0.take{a:List aq}(h:P0 a)(k:Nat):P0 (a.take k):=⟨λx c=>h.1 x (Nj c),by rw[gM];have:=h.2.1;omega,h.yD k⟩
def preB(a:List aq)(k:Nat):Bool:=(List.range k).all λj=>kg (kQ 0<|fh a j)
theorem W5{a:List aq}(h:Mg a){j:Nat}(f:j<a.length):(bC<|fh a j).1=aM (a.take j):=by
 have c:a.take (j+1)≠[]:=by
  intro e;have:=congrArg List.length e;rw[gM,gi] at this;omega
 unfold fh;rw[Ia (λx d=>h x (Nj d)) c];dsimp only;rw[XE,gM,Kr]
 congr 2
 omega
theorem DJ{a:List aq}(h:Mg a)(j:Nat):parts (fh a j)=a.take (j+1):=mE _ λx c=>h x (Nj c)
theorem BF{a:List aq}(h:Mg a):aM a=[]↔a=[]:=by
 constructor
 .intro e;have:=mE a h;rw[e] at this;exact this.symm
 .rintro rfl;rfl
theorem wD{a:List aq}(h:P0 a):kb (aM a,())=some (preB a a.length&&decide (a≠[]),()):=by
 have i:parts (aM a)=a:=mE _ h.1;have l:=h.yD a.length;rw[Iw] at l;unfold kb;dsimp only;rw[gv _<|by omega,aa,i];have key:∀(d k:Nat),k+d=a.length->(∀j,j<k->kg (kQ 0<|fh a j)=true) ->
   ∃r,Loop (fV (a,())) ((false,aM<|a.take k,(k:Int),()),())=some r/\((r.1=0/\preB a a.length=true)\/(r.1=1/\r.2.1.1=false/\preB a a.length=false)):=by
  intro d;induction d with
  | zero =>
    intro k x c;obtain rfl:k=a.length:=by omega
    refine⟨(0,(false,aM<|a.take a.length,(a.length:Int),()),()),?_,.inl ⟨rfl,?_⟩⟩
    .rw[aR];unfold fV;dsimp only;rw[aB,af];rfl
    .unfold preB;rw[va];exact λj n=>c j (B5.1 n)
  | succ d y =>
    intro k x c;have hx:a[k]?=some a[k]:=jE (by omega);have A:=h.YE (List.getElem_mem<|show k<a.length by omega);have B:=h.yD k;have w:=h.yD (k+1);have C:=h.2.1;have step:fV (a,()) ((false,aM<|a.take k,(k:Int),()),())=some (if kg (kQ 0<|fh a k)=true then .inl ((false,fh a k,((k+1:Nat):Int),()),()) else .inr (1,(false,fh a k,(k:Int),()),())):=by
     unfold fV;dsimp only;have e:=vM (kQ 0<|fh a k) (by show(fh a k).length<=4096;unfold fh;omega) (by simp[kQ]);unfold kQ at e;rw[au<|show k<a.length by omega,ae,az hx,aa,yx _ _ (by omega) (by omega),aa,uV h.1 hx,e,aa,aT (by omega)];unfold kQ;cases kg (fh a k,(2:Int),(0:Int),([]:aq),([]:aq),())<;>rfl
    by_cases e:kg (kQ 0<|fh a k)=true
    .rw[bd e] at step;obtain⟨r,f,o⟩:=y (k+1) (by omega) (λj n=>by
      by_cases p:j=k
      .rw[p];exact e
      .exact c j (by omega))
     exact⟨r,by rw[aR,step];exact f,o⟩
    .rw[bb e] at step;refine⟨_,by rw[aR,step];rfl,.inr ⟨rfl,rfl,?_⟩⟩;unfold preB;rw[abk];exact⟨k,B5.2 (by omega),e⟩
 obtain⟨r,f,o⟩:=key a.length 0 (by omega) (λj n=>by omega);have q:Loop (fV (a,())) ((false,([]:aq),(0:Int),()),())=some r:=by
  have:aM (a.take 0)=[]:=by simp[aM]
  rw[this] at f;exact f
 rw[q,aa];rcases o with ⟨s,v⟩|⟨s,v,D⟩
 .rw[s,show cR 0 0=true from rfl,ae,v,abv]
  congr 2
  unfold nt bz;rw[HC];have:=BF h.1;simp[this]
 .rw[s,show cR 1 0=false from rfl,af,v,D];rfl
def AO(a:List aq):Bool:=preB a a.length&&decide (a≠[])
theorem aeV{a:List aq}(c:a≠[]):preB a a.length=(preB a (a.length-1)&&kg (kQ 0<|aM a)):=by
 have d:0<a.length:=SD.2 c;have e:a.length=a.length-1+1:=by omega
 unfold preB
 conv=>lhs;rw[e]
 rw[List.range_succ,List.all_append];have:fh a (a.length-1)=aM a:=by unfold fh;rw[zN<|by omega]
 simp[this]
def lY(p:Pt)(a:aq):Nd:=(a,p.1.2.1,p.1.2.2.1,p.2.1,p.1.2.2.2.2.2.2.2.1,())
def Hc(p:Pt):Bool:=decide (p.1.2.1=1)&&decide (p.2.1=[])
def AP(a:List aq):List aq:=a.dropLast++[(mF<|a.getLastD []).2]
def cg(p:Pt):Int×List aq×Bool :=
 if tq p.1.1=true then
  let ns:=names p.1.1
  if(mF<|ns.getLastD []).1=1 then(1,AP ns,Hc p&&AO (AP ns))
  else if(mF<|ns.getLastD []).1=2 then(2,ns.dropLast,Hc p&&(decide (ns.dropLast=[])||AO ns.dropLast))
  else if(mF<|ns.getLastD []).1=0 then(0,ns,(decide (ns=[])&&decide (p.1.2.1=2))||(kg (lY p<|aM ns)&&AO ns))
  else(0,[],false)
 else(0,[],false)
theorem Fk{s:aq}(h:tq s=true):P0 (names s):=by
 obtain⟨c,d,e⟩:=vD h;exact⟨λx a=>⟨(BB s x a).1,(BB s x a).2.1⟩,by omega,by omega⟩
theorem Mh{s:aq}(h:tq s=true):((names s).getLastD []).length<=96:=by
 obtain⟨d,e,f⟩:=vD h;cases c:names s with
 | nil=>simp
 | cons a r =>
   have:(a::r).getLastD []∈names s:=by
    rw[c,abf,<-aa0 (h:=by simp)];exact List.getLast_mem _
   have:=Cv (names s) _ this;omega
theorem Ii{d:List aq}(h:Mg d):bC (aM d)=(aM d.dropLast,d.getLastD []):=by
 by_cases c:d=[]
 .subst c;decide
 .rw[Ia h c];cases d with
  | nil=>exact absurd rfl c
  | cons a r=>rw[aa0,abf]
theorem Uw{n:aq}(h:(mF n).1=1):(mF n).2=n.drop 4/\n.drop 4≠[]:=by
 unfold mF at h⊢;split at h
 .rename_i c;rw[bd c];split at h
  .cases h
  .rename_i d;rw[bb d];split at h
   .cases h
   .rename_i a;rw[bb a];exact⟨rfl,λe=>a (.inr<|.inl e)⟩
 .cases h
theorem adi{n:aq}(h:(mF n).1≠0):n≠[]:=by
 rintro rfl;exact h (by decide)
theorem W6(n:aq):(mF n).1=0\/(mF n).1=1\/(mF n).1=2\/(mF n).1=3:=by
 unfold mF;split
 .split
  .exact .inr (.inr<|.inl rfl)
  .split
   .exact .inr (.inr<|.inr rfl)
   .exact .inr (.inl rfl)
 .exact .inl rfl
theorem adj(d n:aq):(sd d n).length<=d.length+n.length+1:=by
 unfold sd;split<;>simp<;>omega
theorem P1{s:aq}(h:tq s=true)(n:(mF<|(names s).getLastD []).1=1):sd (aM (names s).dropLast) (mF<|(names s).getLastD []).2=aM (AP<|names s)/\P0 (AP<|names s):=by
 have d:=Fk h;obtain⟨e,l⟩:=Uw n;have f:(names s).getLastD []≠[]:=adi (by rw[n];decide);have i:names s≠[]:=λq=>f (by rw[q];rfl);have j:(names s).getLastD []∈names s:=by
  cases p:names s with
  | nil=>exact absurd p i
  | cons a r =>
    rw[abf,<-aa0 (h:=by simp)];exact List.getLast_mem _
 have k:Mg (AP<|names s):=λx c=>by
  unfold AP at c;rcases sv.1 c with c|c
  .exact d.1 x (by rw[XE] at c;exact Nj c)
  .rw[zO] at c;subst c;rw[e];exact⟨λq=>(d.1 _ j).1 (Kk q),l⟩
 have o:sd (aM (names s).dropLast) (mF<|(names s).getLastD []).2=aM (AP<|names s):=LV [_] _ k;refine⟨o,k,?_,?_⟩
 .unfold AP;rw[iP,List.length_dropLast];have:=d.2.1;simp;have:=SD.2 i;omega
 .rw[<-o];have v:=adj (aM (names s).dropLast) (mF<|(names s).getLastD []).2;have w:=Mh h;have y:(aM (names s).dropLast).length<=96:=by
   rw[XE];have:=AN (names s) ((names s).length-1);have:=(vD h).2.2;omega
  have A:(mF<|(names s).getLastD []).2.length<=96:=by rw[e,ma];omega
  omega
theorem RR{a:List aq}(h:P0 a):P0 a.dropLast:=by
 rw[XE];exact h.take _
def SmP(p:Pt):Prop:=p.1.1.length<=300/\p.1.2.2.2.2.2.2.2.1.length<=300/\p.2.1.length<=8192
theorem AQ(p:Pt)(l:SmP p):ni (p,())=some ((cg p).1,aM (cg p).2.1,(cg p).2.2,()):=by
 unfold ni;dsimp only;rw[Ry p.1.1 (by have:=l.1;omega),aa];dsimp only;unfold cg;cases f:tq p.1.1 with
 | false =>
   have:Dr p.1.1=([],2):=by unfold Dr;rw[f];rfl
   rw[this,bb (by simp)];rfl
 | true =>
   have j:Dr p.1.1=(aM<|names p.1.1,0):=by unfold Dr;rw[f];rfl
   have a:=Fk f;have r:=(vD f).2.2;rw[j,bd rfl];dsimp only;rw[show nt (aL 0 0)=false from rfl,af,tr _ (by omega),aa,Ii a.1];dsimp only;rw[H9,aa];dsimp only;have n:∀(A:Option Bool),(aj (aj (aL p.1.2.1 1) (bz p.2.1 []) false) A<|some false)=if Hc p=true then A else some false:=λA=>by
    unfold Hc aL bz;by_cases d:p.1.2.1=1
    .by_cases o:p.2.1=[]
     .simp[d,o,aj]
     .simp[d,o,aj]
    .simp[d,aj]
   have q:=Mh f;rcases W6 ((names p.1.1).getLastD []) with c|c|c|c
   .rw[c,show aL 0 1=false from rfl,af,show aL 0 2=false from rfl,af,show aL 0 0=true from rfl,ae,bb (by decide),bb (by decide),bd rfl];unfold pT;dsimp only;rw[aa];dsimp only;have i:=vM (lY p<|aM<|names p.1.1) (by show(aM<|names p.1.1).length<=4096;omega) (by show p.1.2.2.2.2.2.2.2.1.length<=4096;have:=l.2.1;omega);rw[show ku ((aM<|names p.1.1,p.1.2.1,p.1.2.2.1,p.2.1,p.1.2.2.2.2.2.2.2.1,()),())=_ from i,aa,wD a,aa];dsimp only;have k:aj (bz (aM<|names p.1.1) []) (aL p.1.2.1 2) false=(decide (names p.1.1=[])&&decide (p.1.2.1=2)):=by
     have:=BF a.1;unfold bz aL;by_cases d:names p.1.1=[]
     .rw[cd d,cd (this.2 d)];simp[aj]
     .rw[dL d,dL λe=>d (this.1 e)];rfl
    rw[k];cases decide (names p.1.1=[])&&decide (p.1.2.1=2) with
    | true=>rfl
    | false =>
      rw[aA,ae];unfold AO;cases kg (lY p<|aM<|names p.1.1)<;>rfl
   .obtain⟨s,v⟩:=P1 f c;rw[c,show aL 1 1=true from rfl,ae,bd rfl,yx _ _ (by have:=(RR a).2.2;omega) (by rw[(Uw c).1,ma];omega),aa,s];dsimp only;rw[wD v,aa,n];unfold AO;cases Hc p<;>rfl
   .rw[c,show aL 2 1=false from rfl,af,show aL 2 2=true from rfl,ae,bb (by decide),bd rfl];have hd:=RR a;rw[wD hd,aa,n];have k:bz (aM (names p.1.1).dropLast) []=decide ((names p.1.1).dropLast=[]):=by
     have:=BF hd.1;unfold bz;exact ky.2 this
    rw[k];unfold AO;cases Hc p<;>cases decide ((names p.1.1).dropLast=[])<;>rfl
   .rw[c,show aL 3 1=false from rfl,af,show aL 3 2=false from rfl,af,show aL 3 0=false from rfl,af,bb (by decide),bb (by decide),bb (by decide)];rfl
set_option maxRecDepth 100000
end Go.Ge
namespace Go.Ge
variable [Lp]
set_option maxRecDepth 100000
def oz(i:Nat)(n:Nat)(x:UInt8):Option (Nat⊕(Nat×(Int×Bool×Int×Int×ai)×ai)) :=
 some (if x.toNat<48\/55<x.toNat then .inr (1,(0,false,(n:Int),(i:Int),()),()) else .inl (8*n+(x.toNat-48)))
def AR(i:Nat)(n:Nat):Nat×(Int×Bool×Int×Int×ai)×ai:=(0,(0,false,(n:Int),(i:Int),()),())
theorem Mi{i n c:Nat}{x:UInt8}(d:i<=21/\n<8 ^ i)(e:i<21)(a:oz i n x=some (.inl c)):i+1<=21/\c<8 ^ (i+1):=by
 unfold oz at a;have a:=aE a;split at a
 .cases a
 .obtain rfl:=XT a;refine⟨by omega,?_⟩;rw[Nat.pow_succ];omega
theorem YF{i:Nat}(h:i<=20):8 ^ i<=1152921504606846976:=by
 have:(8:Nat) ^ i<=8 ^ 20:=Nat.pow_le_pow_right (by decide) h;have e:(8:Nat) ^ 20=1152921504606846976:=by decide
 omega
theorem Cw(s:aq)(p:s.length<=21):Loop (bF (s,())) ((0,false,0,0,()),())=vf oz AR s 0 0:=by
 have key:=uB (f:=bF (s,())) s (λ(n:Nat) i=>((0,false,(n:Int),(i:Int),()),())) oz AR (λi n=>i<=21/\n<8 ^ i)
  (λn i x c j d=>by
   have q:=YF (i:=i) (by omega);obtain⟨r,k⟩:=ix.1 c;have l:=x.toNat_lt;unfold bF oz;dsimp only;rw[j7,aU (by omega),ae,br (by omega) (by omega),ae,xG s j,k,aa,aT (by omega)];by_cases a:x.toNat<48
   .rw[aU<|by unfold u8;omega,aH,af,ae,bd (.inl a)];rfl
   .by_cases b:55<x.toNat
    .rw[aD<|by unfold u8;omega,aA,ae,aU (by unfold u8;omega),ae,bd (.inr b)];rfl
    .rw[aD<|by unfold u8;omega,aA,ae,aD (by unfold u8;omega),af,show aO 3 0=false from rfl,af,bb (by omega)];have e:u8 x=((48+(x.toNat-48):Nat):Int):=by unfold u8;omega
     rw[e,ajU (by omega) (by omega)];rfl)
  (λn i x v c d o=>Mi d (by have:=aG c;omega) o)
  (λn d=>by
   unfold bF AR;dsimp only;rw[j7,aD (by omega),af])
  (λ_ _ _ _ _ h=>by cases h) 0 ⟨by omega,by decide⟩
 exact key
theorem He(s:aq)(p:s.length<=21):Loop (fH (s,())) ((0,false,0,0,()),())=vf oz AR s 0 0:=by
 have key:=uB (f:=fH (s,())) s (λ(n:Nat) i=>((0,false,(n:Int),(i:Int),()),())) oz AR (λi n=>i<=21/\n<8 ^ i)
  (λn i x c j d=>by
   have q:=YF (i:=i) (by omega);have k:=x.toNat_lt;unfold fH oz;dsimp only;rw[au j,ae,az c,aa,aa,aa,aT (by omega)];by_cases a:x.toNat<48
   .rw[aU<|by unfold u8;omega,aH,af,aa,aH,af,ae,bd (.inl a)];rfl
   .by_cases b:55<x.toNat
    .rw[aD<|by unfold u8;omega,aA,ae,aa,aU (by unfold u8;omega),aH,af,ae,bd (.inr b)];rfl
    .rw[aD<|by unfold u8;omega,aA,ae,aa,aD (by unfold u8;omega),aA,ae,aD (by omega),af,bb (by omega)];have e:u8 x=((48+(x.toNat-48):Nat):Int):=by unfold u8;omega
     rw[e,afR ⟨x.toNat-48,by omega⟩,Ak (by omega) (by omega),fE (by dsimp only;omega) (by dsimp only;omega)];have l:(8:Int)*(n:Int)+((x.toNat-48:Nat):Int)=((8*n+(x.toNat-48):Nat):Int):=by omega
     dsimp only;rw[l];rfl)
  (λn i x r c d o=>Mi d (by have:=aG c;omega) o)
  (λn d=>by
   unfold fH AR;dsimp only;rw[aB,af])
  (λ_ _ _ _ _ h=>by cases h) 0 ⟨by omega,by decide⟩
 exact key
theorem Oc:∀(r:aq) (i n:Nat),∃q,vf oz AR r i n=some q/\(q.1=0\/q.1=1):=by
 intro r;induction r with
 | nil=>intro i n;exact⟨_,rfl,.inl rfl⟩
 | cons x r a =>
   intro i n;unfold vf oz;by_cases h:x.toNat<48\/55<x.toNat
   .rw[bd h];exact⟨_,rfl,.inr rfl⟩
   .rw[bb h];exact a (i+1) _
theorem AU(s:aq)(e:s.length<=1048576):di (s,())=l4 (s,())/\∃n b,di (s,())=some (n,b,()):=by
 unfold di l4;dsimp only;by_cases f:s.length<1
 .rw[aU<|by rw[bM];omega,aH,af,ae,ae];exact⟨rfl,_,_,rfl⟩
 .by_cases i:21<s.length
  .rw[aD<|by rw[bM];omega,aA,ae,aU (by rw[bM];omega),ae,ae];exact⟨rfl,_,_,rfl⟩
  .rw[aD<|by rw[bM];omega,aA,ae,aD (by rw[bM];omega),af,af,dA (by rw[bM];omega),ae,Cw s (by omega),He s (by omega)];refine⟨rfl,?_⟩;obtain⟨q,a,d⟩:=Oc s 0 0;rw[a,aa];rcases d with c|c
   .rw[c,eJ,ae];exact⟨_,_,rfl⟩
   .rw[c,jI,af];exact⟨_,_,rfl⟩
end Go.Ge
namespace Go.Ge
variable [Lp]
theorem adk{c S R:Type}{f:S->Option (S⊕R)}(l:List c)(k:Nat->S)(p:c->Bool)(n:Nat->R)(o:R)
  (h:∀(i:Nat) (x:c),l[i]?=some x->f (k i)=some (if p x=true then .inr (n i) else .inl (k<|i+1))) (q:f (k l.length)=some (.inr o)) :
  ∀(d i:Nat),i+d=l.length->(∃(j:Nat) (x:c),i<=j/\l[j]?=some x/\p x=true/\(∀(m:Nat) (y:c),i<=m->m<j->l[m]?=some y->p y=false)/\Loop f (k i)=some (n j)) \/
   ((∀(m:Nat) (y:c),i<=m->l[m]?=some y->p y=false)/\Loop f (k i)=some o):=by
 intro d;induction d with
 | zero =>
   intro i D;obtain rfl:i=l.length:=by omega
   refine .inr ⟨λm y v a=>?_,by rw[aR,q];rfl⟩;have:=aG a;omega
 | succ d E =>
   intro i D;have hx:l[i]?=some l[i]:=jE (by omega);have r:=h i _ hx;by_cases w:p l[i]=true
   .rw[bd w] at r;exact .inl ⟨i,_,cD _,hx,w,λm y v F=>absurd v (by omega),by rw[aR,r];rfl⟩
   .rw[bb w] at r;have s:p l[i]=false:=by simpa using w
    rcases E (i+1) (by omega) with ⟨j,x,C,A,G,H,I⟩|⟨C,A⟩
    .refine .inl ⟨j,x,by omega,A,G,λm y v B a=>?_,by rw[aR,r];exact I⟩;by_cases e:m=i
     .subst e;rw[hx] at a;rw[<-aE a];exact s
     .exact H m y (by omega) B a
    .refine .inr ⟨λm y v a=>?_,by rw[aR,r];exact A⟩;by_cases e:m=i
     .subst e;rw[hx] at a;rw[<-aE a];exact s
     .exact C m y (by omega) a
theorem Ux(p:UInt8->Bool)(s:aq):∃z,s=cc p s++z/\∀x∈z,p x=true:=by
 refine⟨(s.reverse.takeWhile p).reverse,?_,λx a=>?_⟩
 .unfold cc;rw[<-List.reverse_append,Kf,List.reverse_reverse]
 .rw[XM] at a;exact Gy a
theorem Uy{p:UInt8->Bool}{s:aq}{m:Nat}{x:UInt8}(e:s[m]?=some x)(f:p x=false):m<(cc p s).length/\∀j,j<=m->(cc p s)[j]?=s[j]?:=by
 obtain⟨z,c,a⟩:=Ux p s;have i:m<(cc p s).length:=by
  apply SA;intro k;have d:(cc p s++z)[m]?=some x:=by rw[<-c];exact e
  rw[Vt<|by omega] at d;have:=a x (iy d);rw[f] at this;cases this
 refine⟨i,λj l=>?_⟩
 conv=>rhs;rw[c]
 rw[Qh<|by omega]
theorem yE{p:UInt8->Bool}{s:aq}{j:Nat}(d:∀(m:Nat) (y:UInt8),j<=m->s[m]?=some y->p y=true)(f:∀(m:Nat) (y:UInt8),m<j->s[m]?=some y->p y=false):cc p s=s.take j:=by
 have e:s=s.take j++s.drop j:=(x6 j s).symm
 conv=>lhs;rw[e]
 rw[PN _ _ λx a=>by
  obtain⟨i,c⟩:=bR.1 a;rw[l9] at c;exact d (j+i) x (by omega) c]
 refine ac0 λx a=>?_;rw[List.getLast?_eq_getElem?] at a;have k:=aG a;rw[gM] at a k;rw[afx<|by omega] at a;exact f _ x (by omega) a
def Ij(x:UInt8):Bool:=decide (48<=x.toNat/\x.toNat<=55)
theorem adl{x:UInt8}(h:Ij x=true):vg x=false:=by
 unfold Ij at h;have h:=kx h;cases a:vg x with
 | false=>rfl
 | true =>
   rcases(Ue x).1 a with e|e
   .subst e;exact absurd h.1 (by decide)
   .subst e;exact absurd h.1 (by decide)
theorem Uz:∀(r:aq) (i n:Nat) (x:UInt8),x∈r->Ij x=false->∃q,vf oz AR r i n=some q/\q.1=1/\q.2.1.2.1=false:=by
 intro r;induction r with
 | nil=>intro i n x c;cases c
 | cons a r f =>
   intro i n x c d;unfold vf oz;by_cases h:a.toNat<48\/55<a.toNat
   .rw[bd h];exact⟨_,rfl,rfl,rfl⟩
   .rw[bb h];rcases fY.1 c with e|c
    .subst e;unfold Ij at d;have:=SF d;omega
    .exact f (i+1) _ x c d
theorem Od{s:aq}(d:s.length<=21){x:UInt8}(a:x∈s)(e:Ij x=false):∃n,di (s,())=some (n,false,()):=by
 have c:0<s.length:=List.length_pos_of_mem a;unfold di;dsimp only;rw[aD<|by rw[bM];omega,aA,ae,aD (by rw[bM];omega),af,dA (by rw[bM];omega),ae,Cw s d];obtain⟨q,f,i,j⟩:=Uz s 0 0 x a e;rw[f,aa,i,jI,af,j];exact⟨_,rfl⟩
theorem aj4(x:UInt8):ca 48 (u8 x)=decide (48<=x.toNat):=by unfold ca u8;apply ky.2;omega
theorem aj5(x:UInt8):ca (u8 x) 55=decide (x.toNat<=55):=by unfold ca u8;apply ky.2;omega
theorem pe(s:aq)(N:s.length<=21):fa (s,())=cU (s,()):=by
 unfold fa cU;dsimp only;rw[EZ s<|by omega,aa];dsimp only;have first:=adk (f:=fW (s,())) s (λi=>(((i:Int),()),())) (λx=>!Ij x) (λj=>(((j:Int),()),())) (((s.length:Int),()),()) (λi x A=>by
  have hi:=aG A;unfold fW;dsimp only;rw[au hi,ae,az A,aa,aa,aa,aj4,aj5,aT (by omega)];unfold Ij;by_cases c:48<=x.toNat
  .by_cases d:x.toNat<=55
   .rw[cd c,cd d,cd ⟨c,d⟩];rfl
   .rw[cd c,dL d,dL λq:48<=x.toNat/\x.toNat<=55=>d q.2];rfl
  .rw[dL c,dL λq:48<=x.toNat/\x.toNat<=55=>c q.1];rfl) (by
  unfold fW;dsimp only;rw[aB,af];rfl) s.length 0 (by omega)
 rcases first with ⟨j,x,_,A,I,B,E⟩|⟨C,E⟩
 .rw[show Loop (fW (s,())) (((0:Int),()),())=_ from E,aa];have O:=aG A;have F:Ij x=false:=by simpa using I
  dsimp only;rw[aF<|by rw[bM];omega,af];have second:=adk (f:=fX (s,())) s (λi=>(((0:Int),(i:Int),()),())) (λx=>!vg x) (λj=>(1,((-1:Int),(j:Int),()),())) (0,((0:Int),(s.length:Int),()),()) (λi y k=>by
   have hi:=aG k;have e0:aL (u8 y) 0=decide (y=0):=Cl (n:=0);have G:aL (u8 y) 32=decide (y=32):=Cl (n:=32);unfold fX;dsimp only;rw[au hi,ae,az k,aa,aa,e0,G,aT (by omega)];have l:=Ue y;by_cases c:y=0
   .rw[cd c,l.2 (.inl c)];rfl
   .by_cases d:y=32
    .rw[dL c,cd d,l.2 (.inr d)];rfl
    .rw[dL c,dL d,show vg y=false by
     cases J:vg y with
     | false=>rfl
     | true=>rcases l.1 J with e|e
             .exact absurd e c
             .exact absurd e d];rfl) (by
   unfold fX;dsimp only;rw[aB,af]) (s.length-j) j (by omega)
  rcases second with ⟨m,y,o,k,K,_,r⟩|⟨v,r⟩
  .rw[show Loop (fX (s,())) (((0:Int),(j:Int),()),())=_ from r,aa,jI,af];obtain⟨P,L⟩:=Uy (p:=vg) k (by simpa using K);have D:x∈cc vg s:=by
    refine bR.2 ⟨j,?_⟩;rw[L j o,A]
   have hlen:=nw vg s;obtain⟨n,M⟩:=Od (by omega) D F;rw[M,aa];rfl
  .rw[show Loop (fX (s,())) (((0:Int),(j:Int),()),())=_ from r,aa,eJ,ae];have w:cc vg s=s.take j:=yE (λm y o k=>by simpa using v m y o k) (λm y o k=>adl (by simpa using B m y (pj _) o k));have H:inside (0:Int) (j:Int) (len s)=true:=qE (a:=0) (pj _) (by omega);rw[H,ae,jU,w];obtain⟨c,n,b,d⟩:=AU (s.take j) (by rw[gM];omega);rw[<-c,d,aa,aa];dsimp only;rw[aF<|show len (s.take j)≠len s by rw[bM,bM,gM];omega];cases b<;>rfl
 .rw[show Loop (fW (s,())) (((0:Int),()),())=_ from E,aa,aW (by rw[bM]),ae];have w:cc vg s=s:=by
   have:=yE (p:=vg) (s:=s) (j:=s.length) (λm y o k=>by have:=aG k;omega) (λm y o k=>adl (by simpa using C m y (pj _) k));rw[this,Iw]
  rw[w];obtain⟨_,n,b,d⟩:=AU s (by omega);rw[d,aa];dsimp only;rw[aW rfl];cases b<;>rfl
theorem Hf(s:aq)(Q:s.length<=1000):∃t E,nk (s,())=some (t,E,())/\jw (s,())=some (cc b4 s,E,())/\(E=true->t=cc b4 s)/\t.length<=s.length:=by
 have e0:∀y:UInt8,aL (u8 y) 0=b4 y:=λy=>rfl;rw[E1 s<|by omega];unfold nk;have inner:∀i:Nat,i<=s.length->_:=λi F=>adk (f:=eD (s,())) s (λk=>((([]:aq),false,(k:Int),()),())) (λx=>!b4 x) (λj=>(1,(([]:aq),false,(j:Int),()),())) (0,(([]:aq),false,(s.length:Int),()),()) (λk y l=>by
  have J:=aG l;unfold eD;dsimp only;rw[au J,ae,az l,aa,e0,aT (by omega)];cases b4 y<;>rfl) (by
  unfold eD;dsimp only;rw[aB,af]) (s.length-i) i (by omega)
 have outer:(∃(i:Nat) (x:UInt8),s[i]?=some x/\b4 x=true/\(∀(m:Nat) (y:UInt8),m<i->s[m]?=some y->b4 y=false)/\Loop (dw (s,())) ((([]:aq),false,(0:Int),()),())=(ab (Loop (eD (s,())) ((([]:aq),false,(i:Int),()),())) λv=>some (if v.1=0 then(1,(s.take i,true,(i:Int),()),()) else(1,(v.2.1.1,v.2.1.2.1,(i:Int),()),())))) \/
   ((∀(m:Nat) (y:UInt8),s[m]?=some y->b4 y=false)/\Loop (dw (s,())) ((([]:aq),false,(0:Int),()),())=some (0,(([]:aq),false,(s.length:Int),()),())):=by
  have key:∀(d i:Nat),i+d=s.length->(∀(m:Nat) (y:UInt8),m<i->s[m]?=some y->b4 y=false)->(∃(j:Nat) (x:UInt8),s[j]?=some x/\b4 x=true/\(∀(m:Nat) (y:UInt8),m<j->s[m]?=some y->b4 y=false)/\Loop (dw (s,())) ((([]:aq),false,(i:Int),()),())=(ab (Loop (eD (s,())) ((([]:aq),false,(j:Int),()),())) λv=>some (if v.1=0 then(1,(s.take j,true,(j:Int),()),()) else(1,(v.2.1.1,v.2.1.2.1,(j:Int),()),())))) \/
   ((∀(m:Nat) (y:UInt8),s[m]?=some y->b4 y=false)/\Loop (dw (s,())) ((([]:aq),false,(i:Int),()),())=some (0,(([]:aq),false,(s.length:Int),()),())):=by
   intro d;induction d with
   | zero =>
     intro i F w;obtain rfl:i=s.length:=by omega
     refine .inr ⟨λm y l=>w m y (aG l) l,?_⟩;have D:dw (s,()) ((([]:aq),false,(s.length:Int),()),())=some (.inr (0,(([]:aq),false,(s.length:Int),()),())):=by
      unfold dw;dsimp only;rw[aB,af]
     rw[aR,D];rfl
   | succ d K =>
     intro i F w;have hx:s[i]?=some s[i]:=jE (by omega);cases C:b4 s[i] with
     | true =>
       refine .inl ⟨i,s[i],hx,C,w,?_⟩;have A:∃z,Loop (eD (s,())) ((([]:aq),false,(i:Int),()),())=some z/\(z.1=0\/z.1=1):=by
        rcases inner i (by omega) with ⟨j,x,_,_,_,_,h⟩|⟨_,h⟩
        .exact⟨_,h,.inr rfl⟩
        .exact⟨_,h,.inl rfl⟩
       obtain⟨z,D,L⟩:=A;have G:inside (0:Int) (i:Int) (len s)=true:=qE (a:=0) (pj _) (by omega);have B:dw (s,()) ((([]:aq),false,(i:Int),()),())=some (.inr<|if z.1=0 then(1,(s.take i,true,(i:Int),()),()) else(1,(z.2.1.1,z.2.1.2.1,(i:Int),()),())):=by
        unfold dw;dsimp only;rw[au<|show i<s.length by omega,ae,az hx,aa,e0,C,ae,D,aa];rcases L with c|c
        .rw[c,eJ,ae,G,ae,jU,bd rfl]
        .rw[c,jI,af,bb (by decide)]
       rw[D,aa,aR,B];rfl
     | false =>
       have B:dw (s,()) ((([]:aq),false,(i:Int),()),())=some (.inl ((([]:aq),false,((i+1:Nat):Int),()),())):=by
        unfold dw;dsimp only;rw[au<|show i<s.length by omega,ae,az hx,aa,e0,C,af,aT (by omega)]
       rw[aR,B];exact K (i+1) (by omega) (λm y n l=>by
        by_cases e:m=i
        .subst e;rw[hx] at l;rw[<-aE l];exact C
        .exact w m y (by omega) l)
  exact key s.length 0 (by omega) (λm y n=>absurd n (by omega))
 rcases outer with ⟨i,x,hx,C,w,H⟩|⟨r,H⟩
 .rw[H];have F:=aG hx;rcases inner i (by omega) with ⟨j,y,M,l,N,_,h⟩|⟨O,h⟩
  .rw[show Loop (eD (s,())) ((([]:aq),false,(i:Int),()),())=_ from h,aa,aa,bb (show ¬(1:Nat)=0 by decide),jI,af];refine⟨[],false,rfl,?_,λq=>(by cases q),by simp⟩;obtain⟨R,P⟩:=Uy (p:=b4) l (by simpa using N);have:¬xI (cc b4 s):=λq=>by
    have n:x∈cc b4 s:=bR.2 ⟨i,by rw[P i M,hx]⟩;exact q x n ((xH x).1 C)
   rw[dL this]
  .rw[show Loop (eD (s,())) ((([]:aq),false,(i:Int),()),())=_ from h,aa,aa,bd rfl,jI,af];have o:cc b4 s=s.take i:=yE (λm y n l=>by simpa using O m y n l) (λm y n l=>w m y n l);refine⟨_,true,rfl,?_,λ_=>o.symm,by dsimp only;rw[gM];omega⟩;have:xI (cc b4 s):=λy l=>by
    rw[o] at l;obtain⟨m,n⟩:=bR.1 l;have I:=aG n;rw[gM] at I;rw[afx<|by omega] at n;intro e;have:=w m y (by omega) n;rw[(xH y).2 e] at this;cases this
   rw[cd this]
 .rw[H,aa,eJ,ae];have o:cc b4 s=s:=by
   have:=yE (p:=b4) (s:=s) (j:=s.length) (λm y n l=>by have:=aG l;omega) (λm y n l=>r m y l);rw[this,Iw]
  refine⟨s,true,rfl,?_,λ_=>o.symm,cD _⟩;have:xI (cc b4 s):=λy l e=>by
   rw[o] at l;obtain⟨m,n⟩:=bR.1 l;have:=r m y n;rw[(xH y).2 e] at this;cases this
  rw[cd this]
theorem rF(b:aq)(c:b.length=512)(a e:Nat)(h:a<=e)(d:e<=512):inside (a:Int) (e:Int) (len b)=true/\sub b (a:Int) (minus (e:Int) (a:Int))=fD b a (e-a):=by
 refine⟨qE h<|by omega,?_⟩;unfold sub minus fD;rw[rK,show((e:Int)-(a:Int)).toNat=e-a by omega]
theorem adm(p q r:Bool)(H d:Hd)(e:p=true->q=true->r=true->d=H)(f:d.1.length<=1048576)(i:d.2.2.2.2.2.2.2.1.length<=1048576) :
  ab (aj (nt<|aj (nt<|aj (nt<|nt p) (nt q) true) (nt r) true) (ab (rZ (d,(256:Int),())) λ(a:Bool×ai)=>some (nt a.1))<|some true) (λ(a:Bool)=>aj a (some (aab,(2:Int),())) (some (d,(0:Int),()))) =
  ab (aj (nt<|aj (nt<|aj (nt<|nt p) (nt q) true) (nt r) true) (ab (oZ (H,(256:Int),())) λ(c:Bool×ai)=>some (nt c.1))<|some true) (λ(c:Bool)=>aj c (some (aab,(2:Int),())) (some (H,(0:Int),()))):=by
 rw[aeS d 256 f i,Ui,aa,aa];cases p with
 | false=>rfl
 | true =>
   cases q with
   | false=>rfl
   | true =>
     cases r with
     | false=>rfl
     | true=>rw[e rfl rfl rfl]
theorem take_same(b:aq)(a:b.length=512):np (b,())=eW (b,()):=by
 obtain⟨V,s⟩:=eE (fD b 148 8) (by have:=b3 b 148 8;omega);have r6:=pe (fD b 148 8) (by have:=b3 b 148 8;omega);obtain⟨y,A⟩:=rF b a 257 265 (by omega) (by omega);obtain⟨N,O⟩:=rF b a 148 156 (by omega) (by omega);have v:aL (len b) 512=true:=aW (by simp only[len];omega);by_cases l:fD b 257 8=l7
 case neg =>
  rw[DG b a l];unfold np;dsimp only;rw[v,aH,aA,ae,show inside (257:Int) (265:Int) (len b)=true from y,ae,show sub b (257:Int) (minus (265:Int) (257:Int))=fD b 257 8 from A,show([117,115,116,97,114,0,48,48]:aq)=l7 from rfl,show bz (fD b 257 8) l7=false from dL l,aA,aa,aH,af,aa,ae];rfl
 by_cases w:V=(pd b 512:Int)
 case neg =>
  rw[Uo b a s w];unfold np;dsimp only;rw[v,aH,aA,ae,show inside (257:Int) (265:Int) (len b)=true from y,ae,show sub b (257:Int) (minus (265:Int) (257:Int))=fD b 257 8 from A,show([117,115,116,97,114,0,48,48]:aq)=l7 from rfl,l,show bz l7 l7=true from rW _,aH,aa,aA,ae,show inside (148:Int) (156:Int) (len b)=true from N,ae,show sub b (148:Int) (minus (156:Int) (148:Int))=fD b 148 8 from O,r6,s,aa,Fh b (by omega),aa];dsimp only;rw[a,aF w,aA,aa,ae];rfl
 obtain⟨n1,P⟩:=eE (fD b 100 8) (by have:=b3 b 100 8;omega);obtain⟨n2,Q⟩:=eE (fD b 108 8) (by have:=b3 b 108 8;omega);obtain⟨n3,R⟩:=eE (fD b 116 8) (by have:=b3 b 116 8;omega);obtain⟨n4,S⟩:=eE (fD b 124 12) (by have:=b3 b 124 12;omega);obtain⟨n5,T⟩:=eE (fD b 136 12) (by have:=b3 b 136 12;omega);have W:=(pe (fD b 100 8) (by have:=b3 b 100 8;omega)).trans P;have r2:=(pe (fD b 108 8) (by have:=b3 b 108 8;omega)).trans Q;have X:=(pe (fD b 116 8) (by have:=b3 b 116 8;omega)).trans R;have Y:=(pe (fD b 124 12) (by have:=b3 b 124 12;omega)).trans S;have Z:=(pe (fD b 136 12) (by have:=b3 b 136 12;omega)).trans T;have m0:=b3 b 0 100;have m8:=b3 b 157 100;have m10:=b3 b 345 155;obtain⟨f,k0,B,C,D,rd0⟩:=Hf (fD b 0 100) (by omega);obtain⟨t8,k8,E,F,G,rd8⟩:=Hf (fD b 157 100) (by omega);obtain⟨d,H,o,p,q,U⟩:=Hf (fD b 345 155) (by omega);have l0:=nw b4 (fD b 0 100);have l10:=nw b4 (fD b 345 155);obtain⟨i0,s0⟩:=rF b a 0 100 (by omega) (by omega);obtain⟨i8,s8⟩:=rF b a 157 257 (by omega) (by omega);obtain⟨I,J⟩:=rF b a 345 500 (by omega) (by omega);obtain⟨i1,s1⟩:=rF b a 100 108 (by omega) (by omega);obtain⟨i2,s2⟩:=rF b a 108 116 (by omega) (by omega);obtain⟨i3,s3⟩:=rF b a 116 124 (by omega) (by omega);obtain⟨i4,s4⟩:=rF b a 124 136 (by omega) (by omega);obtain⟨i5,s5⟩:=rF b a 136 148 (by omega) (by omega);obtain⟨c,hk,f7⟩:∃c,b[156]?=some c/\fD b 156 1=[c]:=by
  refine⟨b[156],jE (by omega),?_⟩;unfold fD;rw[BJ<|by omega];rfl
 unfold eW;dsimp only;rw[v,aH,aA,ae,o9 b a,aa,aa,show([117,115,116,97,114,0,48,48]:aq)=l7 from rfl];dsimp only;rw[l,show bz l7 l7=true from rW _,aH,aA,ae,o6 b a,aa];dsimp only;rw[s,aa,G8 b (by omega),aa];dsimp only;rw[a,aW w,aH,aa,af,o0 b a,aa];dsimp only;rw[C,aa,o8 b a,aa];dsimp only;rw[F,aa,o10 b a,aa];dsimp only;rw[p,aa];dsimp only;have r:(aj (nt<|bz (cc b4<|fD b 345 155) []) (aj (fits<|plus (len<|cc b4<|fD b 345 155)<|len ([47]:aq)) (aj (fits<|plus (len<|app (cc b4<|fD b 345 155) [47])<|len<|cc b4<|fD b 0 100)
   (some ((app (app (cc b4<|fD b 345 155) [47])<|cc b4<|fD b 0 100,()),())) none) none)<|some ((cc b4<|fD b 0 100,()),()))=some ((if cc b4 (fD b 345 155)=[] then cc b4 (fD b 0 100) else cc b4 (fD b 345 155)++[47]++cc b4 (fD b 0 100),()),()):=by
  by_cases e:cc b4 (fD b 345 155)=[]
  .rw[bd e,fF e,aH,af]
  .rw[bb e,cw e,aA,ae,dA (by simp only[plus,len,dW,gi];omega),ae,dA (by simp only[plus,len,app,iP,dW,gi];omega),ae];rfl
 rw[r,aa,o1 b a,aa];dsimp only;rw[P,aa,o2 b a,aa];dsimp only;rw[Q,aa,o3 b a,aa];dsimp only;rw[R,aa,o4 b a,aa];dsimp only;rw[S,aa,o5 b a,aa];dsimp only;rw[T,aa,o7 b a,aa,f7];unfold np;dsimp only;rw[v,aH,aA,ae,show inside (257:Int) (265:Int) (len b)=true from y,ae,show sub b (257:Int) (minus (265:Int) (257:Int))=fD b 257 8 from A,show([117,115,116,97,114,0,48,48]:aq)=l7 from rfl,l,show bz l7 l7=true from rW _,aH,aa,aA,ae,show inside (148:Int) (156:Int) (len b)=true from N,ae,show sub b (148:Int) (minus (156:Int) (148:Int))=fD b 148 8 from O,r6,s,aa,Fh b (by omega),aa];dsimp only;rw[a,aW w,aH,aa,af];rw[show inside (0:Int) (100:Int) (len b)=true from i0,ae,show sub b (0:Int) (minus (100:Int) (0:Int))=fD b 0 100 from s0,B,aa];rw[show inside (157:Int) (257:Int) (len b)=true from i8,ae,show sub b (157:Int) (minus (257:Int) (157:Int))=fD b 157 100 from s8,E,aa];rw[show inside (345:Int) (500:Int) (len b)=true from I,ae,show sub b (345:Int) (minus (500:Int) (345:Int))=fD b 345 155 from J,o,aa];rw[show inside (100:Int) (108:Int) (len b)=true from i1,ae,show sub b (100:Int) (minus (108:Int) (100:Int))=fD b 100 8 from s1,W,aa];rw[show inside (108:Int) (116:Int) (len b)=true from i2,ae,show sub b (108:Int) (minus (116:Int) (108:Int))=fD b 108 8 from s2,r2,aa];rw[show inside (116:Int) (124:Int) (len b)=true from i3,ae,show sub b (116:Int) (minus (124:Int) (116:Int))=fD b 116 8 from s3,X,aa];rw[show inside (124:Int) (136:Int) (len b)=true from i4,ae,show sub b (124:Int) (minus (136:Int) (124:Int))=fD b 124 12 from s4,Y,aa];rw[show inside (136:Int) (148:Int) (len b)=true from i5,ae,show sub b (136:Int) (minus (148:Int) (136:Int))=fD b 136 12 from s5,Z,aa];dsimp only;have j:∀(x:Int×Int×Int×Int×Int×Int×aq×ai),(aj (nt<|bz d []) (aj (fits<|plus (len d)<|len ([47]:aq)) (aj (fits<|plus (len<|app d [47])<|len f)
   (some ((),(app (app d [47]) f,x),())) none) none)<|some ((),(f,x),()))=some ((),(if d=[] then f else d++[47]++f,x),()):=λx=>by
  by_cases e:d=[]
  .rw[bd e,fF e,aH,af]
  .rw[bb e,cw e,aA,ae,dA (by simp only[plus,len,dW,gi];omega),ae,dA (by simp only[plus,len,app,iP,dW,gi];omega),ae];rfl
 rw[j,aa,show idx b (156:Int)=some c from az (i:=156) hk,aa];have K:bz [c] [48]=decide (c=48):=ky.2 (by simp);have c0:bz [c] [0]=decide (c=0):=ky.2 (by simp);have c53:bz [c] [53]=decide (c=53):=ky.2 (by simp);have L:bz [c] [50]=decide (c=50):=ky.2 (by simp);have d48:aL (u8 c) 48=decide (c=48):=Cl (n:=48);have d0:aL (u8 c) 0=decide (c=0):=Cl (n:=0);have d53:aL (u8 c) 53=decide (c=53):=Cl (n:=53);have d50:aL (u8 c) 50=decide (c=50):=Cl (n:=50);rw[K,c0,c53,L,d48,d0,d53,d50];have k:(if d=[] then f else d++[47]++f).length<=1048576:=by
  split
  .omega
  .simp only[iP,dW,gi];omega
 refine adm k0 k8 H _ _ (λa0 a8 M=>?_) ?_ ?_
 .rw[D a0,G a8,q M];all_goals cases decide (c=48)<;>cases decide (c=0)<;>cases decide (c=53)<;>cases decide (c=50)<;>rfl
 .cases decide (c=48)<;>cases decide (c=0)<;>cases decide (c=53)<;>cases decide (c=50)<;>exact k
 .have h8:t8.length<=1048576:=by omega
  have hn:([]:aq).length<=1048576:=by simp
  cases decide (c=48)<;>cases decide (c=0)<;>cases decide (c=53)<;>cases decide (c=50)<;>first|exact hn|exact h8
abbrev Stp:=((aq×ai)⊕((aq×ai)⊕(ai⊕((Nd×ai)⊕ai))))
def lu(l:List Pt):Bool:=l.all λp=>(cg p).2.2
def adn(l:List Pt):Prop:=l.length<=10000/\∀p∈l,SmP p
theorem agC{l:List Pt}:(∀(i:Nat) (x:Pt),l[i]?=some x->(!(cg x).2.2)=false)->lu l=true:=λh=>by
 unfold lu;rw[va];intro x a;obtain⟨i,c⟩:=bR.1 a;have:=h i x c;simpa using this
theorem aeW{l:List Pt}{i:Nat}{x:Pt}(a:l[i]?=some x)(h:(!(cg x).2.2)=true):lu l=false:=by
 unfold lu;rw[abk];exact⟨x,iy a,by simpa using h⟩
theorem AV(l:List Pt)(d:adn l):nU (l,())=some (lu l,()):=by
 unfold nU;have n:=d.1;rcases qF (f:=nj (l,())) l (λi=>((false,i,()),())) (λ_ x=>!(cg x).2.2) (λi _=>(1,(false,(i:Int),()),())) (0,(false,(l.length:Int),()),()) (by omega) (λi x c e a=>by
  unfold nj;dsimp only;rw[au e,ae,az c,aa,AQ x (d.2 x<|iy c),aa,a];dsimp only;cases (cg x).2.2<;>rfl) (by
  unfold nj;dsimp only;rw[aB,af]) with ⟨i,x,c,j,_,h⟩|⟨k,h⟩
 .rw[h,aa,aeW c j];rfl
 .rw[h,aa,agC k];rfl
theorem UA(l:List Nd)(p:aq)(d:PW l)(f:Valid l):tw (l,p,())=some (findF l p):=by
 obtain⟨e,j,n⟩:=qO l d;obtain rfl:=n.2 f;unfold tw;dsimp only;rcases AJ l p d with ⟨i,x,k,a,h⟩|⟨c,h⟩
 .rw[h,aa,j,aa];dsimp only;rw[aD<|by omega,az k,Mc f.ord (iy k) a];rfl
 .rw[h,aa,j,aa,W4 c];rfl
end Go.Ge
