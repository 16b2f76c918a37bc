/- Plain laws of what the functions compute: part 6. -/
import Derived.Test.YtdpbdiikloedbaaGreatDoorPlE
set_option linter.unusedSectionVars false
noncomputable section
namespace Go.Ge
variable [Lp]
theorem abH{b S R:Type}{f:S->Option (S⊕R)}(l:List b)(c:Nat->S)(p:b->Bool)(g:Nat->R)(k:R)
  (h:∀(i:Nat) (x:b),l[i]?=some x->f (c i)=some (if p x=true then .inr (g i) else .inl (c<|i+1))) (n:f (c l.length)=some (.inr k)) :
  ∀(d i:Nat),i+d=l.length->(∃(j:Nat) (x:b),i<=j/\l[j]?=some x/\p x=true/\(∀(m:Nat) (y:b),i<=m->m<j->l[m]?=some y->p y=false)/\Loop f (c i)=some (g j)) \/
   ((∀(m:Nat) (y:b),i<=m->l[m]?=some y->p y=false)/\Loop f (c i)=some k):=by
 intro d;induction d with
 | zero =>
   intro i w;obtain rfl:i=l.length:=by omega
   refine .inr ⟨λm y r a=>?_,by rw[aN,n];rfl⟩;have:=aD a;omega
 | succ d z =>
   intro i w;have hx:l[i]?=some l[i]:=fN (by omega);have o:=h i _ hx;by_cases s:p l[i]=true
   .rw[aQ s] at o;exact .inl ⟨i,_,cg _,hx,s,λm y r A=>absurd r (by omega),by rw[aN,o];rfl⟩
   .rw[aM s] at o;have q:p l[i]=false:=by simpa using s
    rcases z (i+1) (by omega) with ⟨j,x,v,t,B,C,D⟩|⟨v,t⟩
    .refine .inl ⟨j,x,by omega,t,B,λm y r u a=>?_,by rw[aN,o];exact D⟩;by_cases e:m=i
     .subst e;rw[hx] at a;rw[<-aI a];exact q
     .exact C m y (by omega) u a
    .refine .inr ⟨λm y r a=>?_,by rw[aN,o];exact t⟩;by_cases e:m=i
     .subst e;rw[hx] at a;rw[<-aI a];exact q
     .exact v m y (by omega) a
theorem S0(p:UInt8->Bool)(s:aq):∃z,s=cm p s++z/\∀x∈z,p x=true:=by
 refine⟨(s.reverse.takeWhile p).reverse,?_,λx a=>?_⟩
 .unfold cm;rw[<-List.reverse_append,Ii,List.reverse_reverse]
 .rw[QO] at a;exact Fb a
theorem S1{p:UInt8->Bool}{s:aq}{m:Nat}{x:UInt8}(d:s[m]?=some x)(e:p x=false):m<(cm p s).length/\∀j,j<=m->(cm p s)[j]?=s[j]?:=by
 obtain⟨z,b,a⟩:=S0 p s;have f:m<(cm p s).length:=by
  apply Ev;intro g;have c:(cm p s++z)[m]?=some x:=by rw[<-b];exact d
  rw[Ij<|by omega] at c;have:=a x (dY c);rw[e] at this;cases this
 refine⟨f,λj h=>?_⟩
 conv=>rhs;rw[b]
 rw[Ol<|by omega]
theorem yq{p:UInt8->Bool}{s:aq}{j:Nat}(c:∀(m:Nat) (y:UInt8),j<=m->s[m]?=some y->p y=true)(d:∀(m:Nat) (y:UInt8),m<j->s[m]?=some y->p y=false):cm p s=s.take j:=by
 have e:s=s.take j++s.drop j:=(uu j s).symm
 conv=>lhs;rw[e]
 rw[NI _ _ λx a=>by
  obtain⟨i,b⟩:=bp.1 a;rw[mn] at b;exact c (j+i) x (by omega) b]
 refine abk λx a=>?_;rw[List.getLast?_eq_getElem?] at a;have f:=aD a;rw[fB] at a f;rw[adY<|by omega] at a;exact d _ x (by omega) a
def GH(x:UInt8):Bool:=decide (48<=x.toNat/\x.toNat<=55)
theorem abI{x:UInt8}(h:GH x=true):vp x=false:=by
 unfold GH at h;have h:=gM h;cases a:vp x with
 | false=>rfl
 | true =>
   rcases(Sy x).1 a with e|e
   .subst e;exact absurd h.1 (by decide)
   .subst e;exact absurd h.1 (by decide)
theorem S2:∀(r:aq) (i n:Nat) (x:UInt8),x∈r->GH x=false->∃q,sD oW Ad r i n=some q/\q.1=1/\q.2.1.2.1=false:=by
 intro r;induction r with
 | nil=>intro i n x b;cases b
 | cons a r d =>
   intro i n x b c;unfold sD oW;by_cases h:a.toNat<48\/55<a.toNat
   .rw[aQ h];exact⟨_,rfl,rfl,rfl⟩
   .rw[aM h];rcases fP.1 b with e|b
    .subst e;unfold GH at c;have:=Ln c;omega
    .exact d (i+1) _ x b c
theorem Mg{s:aq}(c:s.length<=21){x:UInt8}(a:x∈s)(d:GH x=false):∃n,dn (s,())=some (n,false,()):=by
 have b:0<s.length:=List.length_pos_of_mem a;unfold dn;dsimp only;rw[aB<|by rw[bz];omega,aw,ab,aB (by rw[bz];omega),ae,dz (by rw[bz];omega),ab,BP s c];obtain⟨q,e,f,g⟩:=S2 s 0 0 x a d;rw[e,aa,f,ed,ae,g];exact⟨_,rfl⟩
theorem aiB(x:UInt8):cu 48 (u8 x)=decide (48<=x.toNat):=by unfold cu u8;apply gi.2;omega
theorem aiC(x:UInt8):cu (u8 x) 55=decide (x.toNat<=55):=by unfold cu u8;apply gi.2;omega
theorem pL(s:aq)(I:s.length<=21):e9 (s,())=cO (s,()):=by
 unfold e9 cO;dsimp only;rw[DK s<|by omega,aa];dsimp only;have first:=abH (f:=ga (s,())) s (λi=>(((i:Int),()),())) (λx=>!GH x) (λj=>(((j:Int),()),())) (((s.length:Int),()),()) (λi x t=>by
  have hi:=aD t;unfold ga;dsimp only;rw[ak hi,ab,ao t,aa,aa,aa,aiB,aiC,aL (by omega)];unfold GH;by_cases c:48<=x.toNat
  .by_cases d:x.toNat<=55
   .rw[dI c,dI d,dI ⟨c,d⟩];rfl
   .rw[dI c,cJ d,cJ λq:48<=x.toNat/\x.toNat<=55=>d q.2];rfl
  .rw[cJ c,cJ λq:48<=x.toNat/\x.toNat<=55=>c q.1];rfl) (by
  unfold ga;dsimp only;rw[ay,ae];rfl) s.length 0 (by omega)
 rcases first with ⟨j,x,_,t,D,u,z⟩|⟨v,z⟩
 .rw[show Loop (ga (s,())) (((0:Int),()),())=_ from z,aa];have J:=aD t;have A:GH x=false:=by simpa using D
  dsimp only;rw[aE<|by rw[bz];omega,ae];have second:=abH (f:=gb (s,())) s (λi=>(((0:Int),(i:Int),()),())) (λx=>!vp x) (λj=>(1,((-1:Int),(j:Int),()),())) (0,((0:Int),(s.length:Int),()),()) (λi y g=>by
   have hi:=aD g;have e0:aX (u8 y) 0=decide (y=0):=BK (n:=0);have B:aX (u8 y) 32=decide (y=32):=BK (n:=32);unfold gb;dsimp only;rw[ak hi,ab,ao g,aa,aa,e0,B,aL (by omega)];have h:=Sy y;by_cases c:y=0
   .rw[dI c,h.2 (.inl c)];rfl
   .by_cases d:y=32
    .rw[cJ c,dI d,h.2 (.inr d)];rfl
    .rw[cJ c,cJ d,show vp y=false by
     cases E:vp y with
     | false=>rfl
     | true=>rcases h.1 E with e|e
             .exact absurd e c
             .exact absurd e d];rfl) (by
   unfold gb;dsimp only;rw[ay,ae]) (s.length-j) j (by omega)
  rcases second with ⟨m,y,k,g,F,_,l⟩|⟨o,l⟩
  .rw[show Loop (gb (s,())) (((0:Int),(j:Int),()),())=_ from l,aa,ed,ae];obtain⟨K,G⟩:=S1 (p:=vp) g (by simpa using F);have w:x∈cm vp s:=by
    refine bp.2 ⟨j,?_⟩;rw[G j k,t]
   have hlen:=nP vp s;obtain⟨n,H⟩:=Mg (by omega) w A;rw[H,aa];rfl
  .rw[show Loop (gb (s,())) (((0:Int),(j:Int),()),())=_ from l,aa,bO,ab];have r:cm vp s=s.take j:=yq (λm y k g=>by simpa using o m y k g) (λm y k g=>abI (by simpa using u m y (nY _) k g));have C:inside (0:Int) (j:Int) (len s)=true:=mE (a:=0) (nY _) (by omega);rw[C,ab,gn,r];obtain⟨c,n,b,d⟩:=Ae (s.take j) (by rw[fB];omega);rw[<-c,d,aa,aa];dsimp only;rw[aE<|show len (s.take j)≠len s by rw[bz,bz,fB];omega];cases b<;>rfl
 .rw[show Loop (ga (s,())) (((0:Int),()),())=_ from z,aa,aJ (by rw[bz]),ab];have r:cm vp s=s:=by
   have:=yq (p:=vp) (s:=s) (j:=s.length) (λm y k g=>by have:=aD g;omega) (λm y k g=>abI (by simpa using v m y (nY _) g));rw[this,wQ]
  rw[r];obtain⟨_,n,b,d⟩:=Ae s (by omega);rw[d,aa];dsimp only;rw[aJ rfl];cases b<;>rfl
theorem FB(s:aq)(N:s.length<=1000):∃t B,nI (s,())=some (t,B,())/\jx (s,())=some (cm ca s,B,())/\(B=true->t=cm ca s)/\t.length<=s.length:=by
 have e0:∀y:UInt8,aX (u8 y) 0=ca y:=λy=>rfl;rw[DM s<|by omega];unfold nI;have inner:∀i:Nat,i<=s.length->_:=λi C=>abH (f:=ev (s,())) s (λk=>((([]:aq),false,(k:Int),()),())) (λx=>!ca x) (λj=>(1,(([]:aq),false,(j:Int),()),())) (0,(([]:aq),false,(s.length:Int),()),()) (λk y b=>by
  have G:=aD b;unfold ev;dsimp only;rw[ak G,ab,ao b,aa,e0,aL (by omega)];cases ca y<;>rfl) (by
  unfold ev;dsimp only;rw[ay,ae]) (s.length-i) i (by omega)
 have outer:(∃(i:Nat) (x:UInt8),s[i]?=some x/\ca x=true/\(∀(m:Nat) (y:UInt8),m<i->s[m]?=some y->ca y=false)/\Loop (dw (s,())) ((([]:aq),false,(0:Int),()),())=(af (Loop (ev (s,())) ((([]:aq),false,(i:Int),()),())) λo=>some (if o.1=0 then(1,(s.take i,true,(i:Int),()),()) else(1,(o.2.1.1,o.2.1.2.1,(i:Int),()),())))) \/
   ((∀(m:Nat) (y:UInt8),s[m]?=some y->ca y=false)/\Loop (dw (s,())) ((([]:aq),false,(0:Int),()),())=some (0,(([]:aq),false,(s.length:Int),()),())):=by
  have key:∀(d i:Nat),i+d=s.length->(∀(m:Nat) (y:UInt8),m<i->s[m]?=some y->ca y=false)->(∃(j:Nat) (x:UInt8),s[j]?=some x/\ca x=true/\(∀(m:Nat) (y:UInt8),m<j->s[m]?=some y->ca y=false)/\Loop (dw (s,())) ((([]:aq),false,(i:Int),()),())=(af (Loop (ev (s,())) ((([]:aq),false,(j:Int),()),())) λo=>some (if o.1=0 then(1,(s.take j,true,(j:Int),()),()) else(1,(o.2.1.1,o.2.1.2.1,(j:Int),()),())))) \/
   ((∀(m:Nat) (y:UInt8),s[m]?=some y->ca y=false)/\Loop (dw (s,())) ((([]:aq),false,(i:Int),()),())=some (0,(([]:aq),false,(s.length:Int),()),())):=by
   intro d;induction d with
   | zero =>
     intro i C r;obtain rfl:i=s.length:=by omega
     refine .inr ⟨λm y b=>r m y (aD b) b,?_⟩;have A:dw (s,()) ((([]:aq),false,(s.length:Int),()),())=some (.inr (0,(([]:aq),false,(s.length:Int),()),())):=by
      unfold dw;dsimp only;rw[ay,ae]
     rw[aN,A];rfl
   | succ d H =>
     intro i C r;have hx:s[i]?=some s[i]:=fN (by omega);cases w:ca s[i] with
     | true =>
       refine .inl ⟨i,s[i],hx,w,r,?_⟩;have u:∃z,Loop (ev (s,())) ((([]:aq),false,(i:Int),()),())=some z/\(z.1=0\/z.1=1):=by
        rcases inner i (by omega) with ⟨j,x,_,_,_,_,h⟩|⟨_,h⟩
        .exact⟨_,h,.inr rfl⟩
        .exact⟨_,h,.inl rfl⟩
       obtain⟨z,A,I⟩:=u;have D:inside (0:Int) (i:Int) (len s)=true:=mE (a:=0) (nY _) (by omega);have v:dw (s,()) ((([]:aq),false,(i:Int),()),())=some (.inr<|if z.1=0 then(1,(s.take i,true,(i:Int),()),()) else(1,(z.2.1.1,z.2.1.2.1,(i:Int),()),())):=by
        unfold dw;dsimp only;rw[ak<|show i<s.length by omega,ab,ao hx,aa,e0,w,ab,A,aa];rcases I with c|c
        .rw[c,bO,ab,D,ab,gn,aQ rfl]
        .rw[c,ed,ae,aM (by decide)]
       rw[A,aa,aN,v];rfl
     | false =>
       have v:dw (s,()) ((([]:aq),false,(i:Int),()),())=some (.inl ((([]:aq),false,((i+1:Nat):Int),()),())):=by
        unfold dw;dsimp only;rw[ak<|show i<s.length by omega,ab,ao hx,aa,e0,w,ae,aL (by omega)]
       rw[aN,v];exact H (i+1) (by omega) (λm y g b=>by
        by_cases e:m=i
        .subst e;rw[hx] at b;rw[<-aI b];exact w
        .exact r m y (by omega) b)
  exact key s.length 0 (by omega) (λm y g=>absurd g (by omega))
 rcases outer with ⟨i,x,hx,w,r,E⟩|⟨n,E⟩
 .rw[E];have C:=aD hx;rcases inner i (by omega) with ⟨j,y,J,b,K,_,h⟩|⟨L,h⟩
  .rw[show Loop (ev (s,())) ((([]:aq),false,(i:Int),()),())=_ from h,aa,aa,aM (show ¬(1:Nat)=0 by decide),ed,ae];refine⟨[],false,rfl,?_,λq=>(by cases q),by simp⟩;obtain⟨O,M⟩:=S1 (p:=ca) b (by simpa using K);have:¬vJ (cm ca s):=λq=>by
    have g:x∈cm ca s:=bp.2 ⟨i,by rw[M i J,hx]⟩;exact q x g ((xy x).1 w)
   rw[cJ this]
  .rw[show Loop (ev (s,())) ((([]:aq),false,(i:Int),()),())=_ from h,aa,aa,aQ rfl,ed,ae];have l:cm ca s=s.take i:=yq (λm y g b=>by simpa using L m y g b) (λm y g b=>r m y g b);refine⟨_,true,rfl,?_,λ_=>l.symm,by dsimp only;rw[fB];omega⟩;have:vJ (cm ca s):=λy b=>by
    rw[l] at b;obtain⟨m,g⟩:=bp.1 b;have F:=aD g;rw[fB] at F;rw[adY<|by omega] at g;intro e;have:=r m y (by omega) g;rw[(xy y).2 e] at this;cases this
   rw[dI this]
 .rw[E,aa,bO,ab];have l:cm ca s=s:=by
   have:=yq (p:=ca) (s:=s) (j:=s.length) (λm y g b=>by have:=aD b;omega) (λm y g b=>n m y b);rw[this,wQ]
  refine⟨s,true,rfl,?_,λ_=>l.symm,cg _⟩;have:vJ (cm ca s):=λy b e=>by
   rw[l] at b;obtain⟨m,g⟩:=bp.1 b;have:=n m y g;rw[(xy y).2 e] at this;cases this
  rw[dI this]
theorem sj(b:aq)(c:b.length=512)(a e:Nat)(h:a<=e)(d:e<=512):inside (a:Int) (e:Int) (len b)=true/\sub b (a:Int) (minus (e:Int) (a:Int))=fJ b a (e-a):=by
 refine⟨mE h<|by omega,?_⟩;unfold sub minus fJ;rw[qZ,show((e:Int)-(a:Int)).toNat=e-a by omega]
theorem abJ(p q r:Bool)(H c:Hd)(d:p=true->q=true->r=true->c=H)(e:c.1.length<=1048576)(f:c.2.2.2.2.2.2.2.1.length<=1048576) :
  af (aj (nt<|aj (nt<|aj (nt<|nt p) (nt q) true) (nt r) true) (af (sG (c,(256:Int),())) λ(a:Bool×ai)=>some (nt a.1))<|some true) (λ(a:Bool)=>aj a (some (YA,(2:Int),())) (some (c,(0:Int),()))) =
  af (aj (nt<|aj (nt<|aj (nt<|nt p) (nt q) true) (nt r) true) (af (pE (H,(256:Int),())) λ(b:Bool×ai)=>some (nt b.1))<|some true) (λ(b:Bool)=>aj b (some (YA,(2:Int),())) (some (H,(0:Int),()))):=by
 rw[adh c 256 e f,SC,aa,aa];cases p with
 | false=>rfl
 | true =>
   cases q with
   | false=>rfl
   | true =>
     cases r with
     | false=>rfl
     | true=>rw[d rfl rfl rfl]
theorem take_same(b:aq)(a:b.length=512):nJ (b,())=eR (b,()):=by
 obtain⟨P,p⟩:=ez (fJ b 148 8) (by have:=b9 b 148 8;omega);have r6:=pL (fJ b 148 8) (by have:=b9 b 148 8;omega);obtain⟨s,t⟩:=sj b a 257 265 (by omega) (by omega);obtain⟨H,I⟩:=sj b a 148 156 (by omega) (by omega);have q:aX (len b) 512=true:=aJ (by simp only[len];omega);by_cases j:fJ b 257 8=mf
 case neg =>
  rw[CC b a j];unfold nJ;dsimp only;rw[q,aA,aw,ab,show inside (257:Int) (265:Int) (len b)=true from s,ab,show sub b (257:Int) (minus (265:Int) (257:Int))=fJ b 257 8 from t,show([117,115,116,97,114,0,48,48]:aq)=mf from rfl,show bt (fJ b 257 8) mf=false from cJ j,aw,aa,aA,ae,aa,ab];rfl
 by_cases r:P=(pJ b 512:Int)
 case neg =>
  rw[SL b a p r];unfold nJ;dsimp only;rw[q,aA,aw,ab,show inside (257:Int) (265:Int) (len b)=true from s,ab,show sub b (257:Int) (minus (265:Int) (257:Int))=fJ b 257 8 from t,show([117,115,116,97,114,0,48,48]:aq)=mf from rfl,j,show bt mf mf=true from kT _,aA,aa,aw,ab,show inside (148:Int) (156:Int) (len b)=true from H,ab,show sub b (148:Int) (minus (156:Int) (148:Int))=fJ b 148 8 from I,r6,p,aa,DX b (by omega),aa];dsimp only;rw[a,aE r,aw,aa,ab];rfl
 obtain⟨n1,J⟩:=ez (fJ b 100 8) (by have:=b9 b 100 8;omega);obtain⟨n2,K⟩:=ez (fJ b 108 8) (by have:=b9 b 108 8;omega);obtain⟨n3,L⟩:=ez (fJ b 116 8) (by have:=b9 b 116 8;omega);obtain⟨n4,M⟩:=ez (fJ b 124 12) (by have:=b9 b 124 12;omega);obtain⟨n5,N⟩:=ez (fJ b 136 12) (by have:=b9 b 136 12;omega);have Q:=(pL (fJ b 100 8) (by have:=b9 b 100 8;omega)).trans J;have r2:=(pL (fJ b 108 8) (by have:=b9 b 108 8;omega)).trans K;have R:=(pL (fJ b 116 8) (by have:=b9 b 116 8;omega)).trans L;have S:=(pL (fJ b 124 12) (by have:=b9 b 124 12;omega)).trans M;have T:=(pL (fJ b 136 12) (by have:=b9 b 136 12;omega)).trans N;have m0:=b9 b 0 100;have m8:=b9 b 157 100;have m10:=b9 b 345 155;obtain⟨f,U,u,v,w,V⟩:=FB (fJ b 0 100) (by omega);obtain⟨W,X,y,z,A,Y⟩:=FB (fJ b 157 100) (by omega);obtain⟨d,B,k,l,m,O⟩:=FB (fJ b 345 155) (by omega);have l0:=nP ca (fJ b 0 100);have l10:=nP ca (fJ b 345 155);obtain⟨Z,s0⟩:=sj b a 0 100 (by omega) (by omega);obtain⟨i8,s8⟩:=sj b a 157 257 (by omega) (by omega);obtain⟨C,D⟩:=sj b a 345 500 (by omega) (by omega);obtain⟨i1,s1⟩:=sj b a 100 108 (by omega) (by omega);obtain⟨i2,s2⟩:=sj b a 108 116 (by omega) (by omega);obtain⟨i3,s3⟩:=sj b a 116 124 (by omega) (by omega);obtain⟨i4,s4⟩:=sj b a 124 136 (by omega) (by omega);obtain⟨i5,s5⟩:=sj b a 136 148 (by omega) (by omega);obtain⟨c,hk,f7⟩:∃c,b[156]?=some c/\fJ b 156 1=[c]:=by
  refine⟨b[156],fN (by omega),?_⟩;unfold fJ;rw[wM<|by omega];rfl
 unfold eR;dsimp only;rw[q,aA,aw,ab,o9 b a,aa,aa,show([117,115,116,97,114,0,48,48]:aq)=mf from rfl];dsimp only;rw[j,show bt mf mf=true from kT _,aA,aw,ab,o6 b a,aa];dsimp only;rw[p,aa,Fu b (by omega),aa];dsimp only;rw[a,aJ r,aA,aa,ae,o0 b a,aa];dsimp only;rw[v,aa,o8 b a,aa];dsimp only;rw[z,aa,o10 b a,aa];dsimp only;rw[l,aa];dsimp only;have o:(aj (nt<|bt (cm ca<|fJ b 345 155) []) (aj (fits<|plus (len<|cm ca<|fJ b 345 155)<|len ([47]:aq)) (aj (fits<|plus (len<|app (cm ca<|fJ b 345 155) [47])<|len<|cm ca<|fJ b 0 100)
   (some ((app (app (cm ca<|fJ b 345 155) [47])<|cm ca<|fJ b 0 100,()),())) none) none)<|some ((cm ca<|fJ b 0 100,()),()))=some ((if cm ca (fJ b 345 155)=[] then cm ca (fJ b 0 100) else cm ca (fJ b 345 155)++[47]++cm ca (fJ b 0 100),()),()):=by
  by_cases e:cm ca (fJ b 345 155)=[]
  .rw[aQ e,ch e,aA,ae]
  .rw[aM e,bj e,aw,ab,dz (by simp only[plus,len,dd,eB];omega),ab,dz (by simp only[plus,len,app,fQ,dd,eB];omega),ab];rfl
 rw[o,aa,o1 b a,aa];dsimp only;rw[J,aa,o2 b a,aa];dsimp only;rw[K,aa,o3 b a,aa];dsimp only;rw[L,aa,o4 b a,aa];dsimp only;rw[M,aa,o5 b a,aa];dsimp only;rw[N,aa,o7 b a,aa,f7];unfold nJ;dsimp only;rw[q,aA,aw,ab,show inside (257:Int) (265:Int) (len b)=true from s,ab,show sub b (257:Int) (minus (265:Int) (257:Int))=fJ b 257 8 from t,show([117,115,116,97,114,0,48,48]:aq)=mf from rfl,j,show bt mf mf=true from kT _,aA,aa,aw,ab,show inside (148:Int) (156:Int) (len b)=true from H,ab,show sub b (148:Int) (minus (156:Int) (148:Int))=fJ b 148 8 from I,r6,p,aa,DX b (by omega),aa];dsimp only;rw[a,aJ r,aA,aa,ae];rw[show inside (0:Int) (100:Int) (len b)=true from Z,ab,show sub b (0:Int) (minus (100:Int) (0:Int))=fJ b 0 100 from s0,u,aa];rw[show inside (157:Int) (257:Int) (len b)=true from i8,ab,show sub b (157:Int) (minus (257:Int) (157:Int))=fJ b 157 100 from s8,y,aa];rw[show inside (345:Int) (500:Int) (len b)=true from C,ab,show sub b (345:Int) (minus (500:Int) (345:Int))=fJ b 345 155 from D,k,aa];rw[show inside (100:Int) (108:Int) (len b)=true from i1,ab,show sub b (100:Int) (minus (108:Int) (100:Int))=fJ b 100 8 from s1,Q,aa];rw[show inside (108:Int) (116:Int) (len b)=true from i2,ab,show sub b (108:Int) (minus (116:Int) (108:Int))=fJ b 108 8 from s2,r2,aa];rw[show inside (116:Int) (124:Int) (len b)=true from i3,ab,show sub b (116:Int) (minus (124:Int) (116:Int))=fJ b 116 8 from s3,R,aa];rw[show inside (124:Int) (136:Int) (len b)=true from i4,ab,show sub b (124:Int) (minus (136:Int) (124:Int))=fJ b 124 12 from s4,S,aa];rw[show inside (136:Int) (148:Int) (len b)=true from i5,ab,show sub b (136:Int) (minus (148:Int) (136:Int))=fJ b 136 12 from s5,T,aa];dsimp only;have g:∀(x:Int×Int×Int×Int×Int×Int×aq×ai),(aj (nt<|bt d []) (aj (fits<|plus (len d)<|len ([47]:aq)) (aj (fits<|plus (len<|app d [47])<|len f)
   (some ((),(app (app d [47]) f,x),())) none) none)<|some ((),(f,x),()))=some ((),(if d=[] then f else d++[47]++f,x),()):=λx=>by
  by_cases e:d=[]
  .rw[aQ e,ch e,aA,ae]
  .rw[aM e,bj e,aw,ab,dz (by simp only[plus,len,dd,eB];omega),ab,dz (by simp only[plus,len,app,fQ,dd,eB];omega),ab];rfl
 rw[g,aa,show idx b (156:Int)=some c from ao (i:=156) hk,aa];have E:bt [c] [48]=decide (c=48):=gi.2 (by simp);have c0:bt [c] [0]=decide (c=0):=gi.2 (by simp);have c53:bt [c] [53]=decide (c=53):=gi.2 (by simp);have F:bt [c] [50]=decide (c=50):=gi.2 (by simp);have d48:aX (u8 c) 48=decide (c=48):=BK (n:=48);have d0:aX (u8 c) 0=decide (c=0):=BK (n:=0);have d53:aX (u8 c) 53=decide (c=53):=BK (n:=53);have d50:aX (u8 c) 50=decide (c=50):=BK (n:=50);rw[E,c0,c53,F,d48,d0,d53,d50];have h:(if d=[] then f else d++[47]++f).length<=1048576:=by
  split
  .omega
  .simp only[fQ,dd,eB];omega
 refine abJ U X B _ _ (λa0 a8 G=>?_) ?_ ?_
 .rw[w a0,A a8,m G];all_goals cases decide (c=48)<;>cases decide (c=0)<;>cases decide (c=53)<;>cases decide (c=50)<;>rfl
 .cases decide (c=48)<;>cases decide (c=0)<;>cases decide (c=53)<;>cases decide (c=50)<;>exact h
 .have h8:W.length<=1048576:=by omega
  have hn:([]:aq).length<=1048576:=by simp
  cases decide (c=48)<;>cases decide (c=0)<;>cases decide (c=53)<;>cases decide (c=50)<;>first|exact hn|exact h8
abbrev Stp:=((aq×ai)⊕((aq×ai)⊕(ai⊕((Nd×ai)⊕ai))))
def WW(p:Pt)(w:Int×List aq×Bool):Stp :=
 if w.1=1 then .inl (aG w.2.1,()) else if w.1=2 then .inr (.inl (aG w.2.1,())) else if w.2.1=[] then .inr (.inr<|.inl ()) else .inr (.inr<|.inr<|.inl (ic p<|aG w.2.1,()))
def iG(p:Pt):Stp:=WW p (bH p)
theorem Kw(p:Pt)(A:Option Bool):(aj (aj (aX p.1.2.1 1) (bt p.2.1 []) false) A<|some false)=if tc p=true then A else some false:=by
 unfold tc aX bt;by_cases a:p.1.2.1=1
 .by_cases b:p.2.1=[]
  .simp[a,b,aj]
  .simp[a,b,aj]
 .simp[a,aj]
theorem YK(a:List aq):rB a≠[]:=by unfold rB;simp
theorem abK(p:Pt)(k:SmP p):∃s,qm (p,())=some (s,(bH p).2.2,())/\((bH p).2.2=true->s=iG p):=by
 unfold qm;dsimp only;rw[NL p.1.1 (by have:=k.1;omega),aa];dsimp only;unfold iG;cases c:kH p.1.1 with
 | false =>
   have:j6 p.1.1=([],2):=by unfold j6;rw[c];rfl
   have f:bH p=(0,[],false):=by unfold bH;rw[c,aM (by simp)]
   rw[this,f];exact⟨_,rfl,λh=>by cases h⟩
 | true =>
   have l:j6 p.1.1=(aG<|names p.1.1,0):=by unfold j6;rw[c];rfl
   have d:=Ab c;have q:=(pI c).2.2;have o:=CF c;rw[l];dsimp only;rw[show nt (aX 0 0)=false from rfl,ae,pj _ (by omega),aa,vT d.1];dsimp only;rw[SF,aa];dsimp only;rcases Ku ((names p.1.1).getLastD []) with b|b|b|b
   .have f:bH p=(0,names p.1.1,(decide (names p.1.1=[])&&decide (p.1.2.1=2))||(eP (ic p<|aG<|names p.1.1)&&pK (names p.1.1))):=by
     unfold bH;rw[c,aQ rfl];dsimp only;rw[b,aM (by decide),aM (by decide),aQ rfl]
    rw[f,b,show aX 0 1=false from rfl,ae,show aX 0 2=false from rfl,ae,show aX 0 3=false from rfl,ae];unfold WW;dsimp only;rw[aM<|by decide,aM (by decide)];have g:=rA d.1;by_cases a:names p.1.1=[]
    .have i:aG (names p.1.1)=[]:=g.2 a;rw[dI a,ch i,ab,aQ a];by_cases j:p.1.2.1=2
     .rw[aJ j,dI j,ab];exact⟨_,rfl,λ_=>rfl⟩
     .rw[aE j,cJ j,ae];have:=Vu (n:=ic p (aG<|names p.1.1)) i;rw[show dW ((aG<|names p.1.1,p.1.2.1,p.1.2.2.1,p.2.1,p.1.2.2.2.2.2.2.2.1,()),())=_ from this,aa];have m:pK (names p.1.1)=false:=by unfold pK;rw[a];rfl
      rw[m];simp only[V8,QV];exact⟨_,rfl,λh=>by cases h⟩
    .have i:aG (names p.1.1)≠[]:=λe=>a (g.1 e);rw[cJ a,bj i,ae,ae,aM a];have r:Sm (ic p<|aG<|names p.1.1):=⟨by show(aG<|names p.1.1).length<=200;omega,k.2.1,k.2.2⟩;have:=Ks d a (n:=ic p (aG<|names p.1.1)) rfl r;rw[YJ a rfl] at this;rw[show dW ((aG<|names p.1.1,p.1.2.1,p.1.2.2.1,p.2.1,p.1.2.2.2.2.2.2.2.1,()),())=_ from this,aa];simp only[ZS,yN];exact⟨_,rfl,λ_=>rfl⟩
   .obtain⟨t,u⟩:=Fz c b;have f:bH p=(1,rB<|names p.1.1,tc p&&pK (rB<|names p.1.1)):=by
     unfold bH;rw[c,aQ rfl];dsimp only;rw[b,aQ rfl]
    rw[f,b,show aX 1 1=true from rfl,ab,Fe _ _ (by have:=(A2 d).2.2;omega) (by rw[(Kt b).1,kx];omega),aa,t];dsimp only;rw[NX u,aa,Kw,cJ (YK _),yN];refine⟨.inl (aG<|rB<|names p.1.1,()),?_,λ_=>rfl⟩;cases tc p<;>rfl
   .have hd:=A2 d;have f:bH p=(2,(names p.1.1).dropLast,tc p&&(decide ((names p.1.1).dropLast=[])||pK (names p.1.1).dropLast)):=by
     unfold bH;rw[c,aQ rfl];dsimp only;rw[b,aM (by decide),aQ rfl]
    rw[f,b,show aX 2 1=false from rfl,ae,show aX 2 2=true from rfl,ab];rw[NX hd,aa,Kw];refine⟨.inr<|.inl (aG (names p.1.1).dropLast,()),?_,λ_=>rfl⟩;cases tc p<;>rfl
   .have f:bH p=(0,[],false):=by
     unfold bH;rw[c,aQ rfl];dsimp only;rw[b,aM (by decide),aM (by decide),aM (by decide)]
    rw[f,b,show aX 3 1=false from rfl,ae,show aX 3 2=false from rfl,ae,show aX 3 3=true from rfl,ab];exact⟨_,rfl,λh=>by cases h⟩
def gw(l:List Pt):Bool:=l.all λp=>(bH p).2.2
def PX(l:List Pt):Prop:=l.length<=10000/\∀p∈l,SmP p
theorem abL{l:List Pt}:(∀(i:Nat) (x:Pt),l[i]?=some x->(!(bH x).2.2)=false)->gw l=true:=λh=>by
 unfold gw;rw[ra];intro x a;obtain⟨i,b⟩:=bp.1 a;have:=h i x b;simpa using this
theorem WX{l:List Pt}{i:Nat}{x:Pt}(a:l[i]?=some x)(h:(!(bH x).2.2)=true):gw l=false:=by
 unfold gw;rw[QJ];exact⟨x,dY a,by simpa using h⟩
theorem NY(l:List Pt)(c:PX l):lg (l,())=some (if gw l=true then(l.map iG,true,()) else([],false,())):=by
 unfold lg;have n:=c.1;rcases ko (f:=fw (l,())) l (λi=>((([]:List Stp),false,(),i,()),(l.take i.toNat).map iG,())) (λ_ x=>!(bH x).2.2) (λi _=>(1,(([]:List Stp),false,(),(i:Int),()),(l.take i).map iG,())) (0,(([]:List Stp),false,(),(l.length:Int),()),l.map iG,()) (by omega) (λi x a d b=>by
  obtain⟨s,e,g⟩:=abK x (c.2 x<|dY a);unfold fw;dsimp only;rw[ak d,ab,ao a,aa,e,aa,b];dsimp only;rw[qZ,qZ];have hlen:((l.take i).map iG).length<=10000:=by rw[qI,fB];omega
  cases j:(bH x).2.2 with
  | false=>rfl
  | true =>
    rw[aA,ae,bD (by simp only[dd,eB];omega),ab,g j];have:(l.take<|i+1).map iG=(l.take i).map iG++[iG x]:=by rw[Be,a,xO];rfl
    rw[this];rfl) (by
  unfold fw;dsimp only;rw[ay,ae,qZ,wQ]) with ⟨i,x,a,k,_,h⟩|⟨m,h⟩
 .rw[show Loop (fw (l,())) ((([]:List Stp),false,(),(0:Int),()),([]:List Stp),())=_ from h,aa,WX a k];rfl
 .rw[show Loop (fw (l,())) ((([]:List Stp),false,(),(0:Int),()),([]:List Stp),())=_ from h,aa,abL m];rfl
theorem Af(l:List Pt)(c:PX l):oy (l,())=some (gw l,()):=by
 unfold oy;have j:=c.1;rcases ko (f:=nH (l,())) l (λi=>((false,i,()),())) (λ_ x=>!(bH x).2.2) (λi _=>(1,(false,(i:Int),()),())) (0,(false,(l.length:Int),()),()) (by omega) (λi x b d a=>by
  unfold nH;dsimp only;rw[ak d,ab,ao b,aa,Ac x (c.2 x<|dY b),aa,a];dsimp only;cases (bH x).2.2<;>rfl) (by
  unfold nH;dsimp only;rw[ay,ae]) with ⟨i,x,b,e,_,h⟩|⟨g,h⟩
 .rw[h,aa,WX b e];rfl
 .rw[h,aa,abL g];rfl
theorem NZ{l:List Nd}{g:Nd->Bool}{i:Nat}{x:Nd}(b:l[i]?=some x)(c:g x=true)(d:∀(j:Nat) y,j<i->l[j]?=some y->g y=false):l.take i=(l.take<|i+1).filter (λx=>!g x):=by
 rw[Be,b,Iv];have e:(l.take i).filter (λx=>!g x)=l.take i:=Ew.2 λy f=>by
  obtain⟨j,a⟩:=bp.1 f;rw[fi] at a;split at a
  .rw[d j y (by omega) a];rfl
  .cases a
 rw[e];simp[c]
theorem YL(l:List Nd)(p:aq)(a:y5 l)(c:p.length<=4096):(∃i x,l[i]?=some x/\gone p x=true/\(∀(j:Nat) y,j<i->l[j]?=some y->gone p y=false)/\Loop (gT (l,p,())) ((0,0,()),(),p,())=some (1,((i:Int),(i:Int),()),(),p,())) \/
  ((∀(i:Nat) x,l[i]?=some x->gone p x=false)/\Loop (gT (l,p,())) ((0,0,()),(),p,())=some (0,(0,(l.length:Int),()),(),p,())) :=
 ko (f:=gT (l,p,())) l (λi=>((0,i,()),(),p,())) (λ_ x=>gone p x) (λi x=>(1,((i:Int),(i:Int),()),(),p,())) (0,(0,(l.length:Int),()),(),p,()) (by have:=a.1;omega) (λi x b d e=>by
  unfold gT;dsimp only;rw[ak d,ab,aW (by omega) (by unfold len;omega),ab,ao b,aa,xz _ _ (by have:=(a.at b).1;omega) c,aa,AO,e];unfold gone;cases decide (x.1=p)<;>cases cd (parts x.1) (parts p)<;>rfl) (by unfold gT;dsimp only;rw[ay,ae])
theorem YM(l:List Nd)(p:aq)(g:y5 l)(k:p.length<=4096)(i:Nat)(x:Nd)(a:l[i]?=some x)(m:gone p x=true)(b:∀(j:Nat) y,j<i->l[j]?=some y->gone p y=false) :
  ∃(w:Nat) (L:List Nd),Loop (j9) (((i:Int),aF IntKind.i64 (i:Int) 1,(),()),(),p,l,())=some (((w:Int),(l.length:Int),(),()),(),p,L,())/\L.length=l.length/\w<=l.length/\L.take w=mh l p:=by
 have hi:=aD a;have u:=g.1;obtain⟨w,L,n,h,o,q⟩:=DZ (f:=j9) l (gone p) (λw j L=>((w,j,(),()),(),p,L,())) (λw L=>((w,(L.length:Int),(),()),(),p,L,())) (by omega) (λw j L x a c v r s b=>by
  unfold j9;dsimp only;have d:w<L.length:=by omega
  obtain⟨z,t⟩:∃z,L[w]?=some z:=⟨_,fN d⟩;have e:aj (nt<|bt x.1 p) (af (cX (x.1,p,())) λ(y:Bool×ai)=>some y.1) (some true)=some (gone p x):=by
   rw[xz _ _ (by have:=(g.at a).1;omega) k,aa,AO];unfold gone;cases decide (x.1=p)<;>rfl
  rw[ak r,ab,aW (by omega) (by unfold len;omega),ab,ao c,aa,e,aa,b];cases gone p x with
  | true=>rfl
  | false =>
    rw[aw,ab,aW (by omega) (by unfold len;omega),ab,ao t,aa,aa,aa,aa,s,gm];rfl) (λw L=>by
  unfold j9;dsimp only;rw[ay,ae];rfl) l.length i (i+1) l (by omega) (by omega) (by omega) rfl (NZ a m b) rfl
 refine⟨w,L,?_,h,o,q⟩;rw[aL<|by omega,n,h]
theorem Vv(l:List Nd)(p:aq)(a:y5 l)(d:p.length<=4096)(f:Valid l):sa (l,p,())=some (mh l p,()):=by
 obtain⟨e,g,k⟩:=po l a;obtain rfl:=k.2 f;unfold sa;dsimp only;rw[g,aa];dsimp only;rw[show nt (aX 0 0)=false by rfl,ae,ja (by have:=a.1;omega),ab];rcases YL l p a d with ⟨i,x,b,m,c,h⟩|⟨c,h⟩
 .obtain⟨w,L,n,s,t,o⟩:=YM l p a d i x b m c;rw[h,aa];dsimp only;rw[ed,ae,show aX (i:Int) (-1)=false by unfold aX;exact cJ (by omega),ae,n,aa];dsimp only;rw[aR (by omega) (by unfold len;omega)<|re _,ab,D0 L w (by omega),aR (re _) (by omega) (by omega),ab,zZ L w (by omega),o]
 .have q:mh l p=l:=Ew.2 λx b=>by
   obtain⟨j,r⟩:=bp.1 b;rw[c j x r];rfl
  rw[h,aa,q];dsimp only;rw[bO,ab,show aX (-1) (-1)=true by rfl,ab]
def FC(p:aq)(x:Nd):Bool:=cd (parts x.1) (parts p)
theorem YN(l:List Nd)(p:aq)(a:y5 l)(c:p.length<=4096):(∃i x,l[i]?=some x/\FC p x=true/\(∀(j:Nat) y,j<i->l[j]?=some y->FC p y=false)/\Loop (iO (l,p,())) ((0,0,()),(),p,())=some (1,((i:Int),(i:Int),()),(),p,())) \/
  ((∀(i:Nat) x,l[i]?=some x->FC p x=false)/\Loop (iO (l,p,())) ((0,0,()),(),p,())=some (0,(0,(l.length:Int),()),(),p,())) :=
 ko (f:=iO (l,p,())) l (λi=>((0,i,()),(),p,())) (λ_ x=>FC p x) (λi x=>(1,((i:Int),(i:Int),()),(),p,())) (0,(0,(l.length:Int),()),(),p,()) (by have:=a.1;omega) (λi x b d e=>by
  unfold iO;dsimp only;rw[ak d,ab,aW (by omega) (by unfold len;omega),ab,ao b,aa,xz _ _ (by have:=(a.at b).1;omega) c,aa,e];unfold FC;cases cd (parts x.1) (parts p)<;>rfl) (by unfold iO;dsimp only;rw[ay,ae])
theorem YO(l:List Nd)(p:aq)(e:y5 l)(h:p.length<=4096)(i:Nat)(x:Nd)(a:l[i]?=some x)(k:FC p x=true)(b:∀(j:Nat) y,j<i->l[j]?=some y->FC p y=false) :
  ∃(w:Nat) (L:List Nd),Loop (ld) (((i:Int),aF IntKind.i64 (i:Int) 1,(),()),(),p,l,())=some (((w:Int),(l.length:Int),(),()),(),p,L,())/\L.length=l.length/\w<=l.length/\L.take w=l.filter (λx=>!FC p x):=by
 have hi:=aD a;have t:=e.1;obtain⟨w,L,m,g,n,o⟩:=DZ (f:=ld) l (FC p) (λw j L=>((w,j,(),()),(),p,L,())) (λw L=>((w,(L.length:Int),(),()),(),p,L,())) (by omega) (λw j L x a c u q r b=>by
  unfold ld;dsimp only;have d:w<L.length:=by omega
  obtain⟨z,s⟩:∃z,L[w]?=some z:=⟨_,fN d⟩;rw[ak q,ab,aW (by omega) (by unfold len;omega),ab,ao c,aa,xz _ _ (by have:=(e.at a).1;omega) h,aa,b];unfold FC;cases cd (parts x.1) (parts p) with
  | true=>rfl
  | false =>
    rw[aw,ab,aW (by omega) (by unfold len;omega),ab,ao s,aa,aa,aa,aa,r,gm];rfl) (λw L=>by
  unfold ld;dsimp only;rw[ay,ae];rfl) l.length i (i+1) l (by omega) (by omega) (by omega) rfl (NZ a k b) rfl
 refine⟨w,L,?_,g,n,o⟩;rw[aL<|by omega,m,g]
theorem Kx(l:List Nd)(p:aq):gv l p false=l.filter (λx=>!FC p x):=by
 unfold gv FC
 congr 1
 funext x;cases cd (parts x.1) (parts p)<;>rfl
theorem YP(l:List Nd)(p:aq)(a:y5 l)(d:p.length<=4096)(f:Valid l):tS (l,p,())=some (gv l p false,()):=by
 obtain⟨e,g,k⟩:=po l a;obtain rfl:=k.2 f;rw[Kx];unfold tS;dsimp only;rw[g,aa];dsimp only;rw[show nt (aX 0 0)=false by rfl,ae,ja (by have:=a.1;omega),ab];rcases YN l p a d with ⟨i,x,b,m,c,h⟩|⟨c,h⟩
 .obtain⟨w,L,n,s,t,o⟩:=YO l p a d i x b m c;rw[h,aa];dsimp only;rw[ed,ae,show aX (i:Int) (-1)=false by unfold aX;exact cJ (by omega),ae,n,aa];dsimp only;rw[aR (by omega) (by unfold len;omega)<|re _,ab,D0 L w (by omega),aR (re _) (by omega) (by omega),ab,zZ L w (by omega),o]
 .have q:l.filter (λx=>!FC p x)=l:=Ew.2 λx b=>by
   obtain⟨j,r⟩:=bp.1 b;rw[c j x r];rfl
  rw[h,aa,q];dsimp only;rw[bO,ab,show aX (-1) (-1)=true by rfl,ab]
theorem S3(l:List Nd)(p:aq)(c:y5 l)(d:Valid l):tR (l,p,())=some (findF l p):=by
 obtain⟨e,f,j⟩:=rz l c;obtain rfl:=j.2 d;unfold tR;dsimp only;rcases zY l p c with ⟨i,x,g,a,h⟩|⟨b,h⟩
 .rw[h,aa,f,aa];dsimp only;rw[aB<|by omega,ao g,CD d.ord (dY g) a];rfl
 .rw[h,aa,f,aa,Km b];rfl
theorem Vw{n:Nd}(h:eP n=true):n.1.length<=92/\n.2.2.2.2.1.length<=100/\n.2.2.2.1.length<=8192:=by
 unfold eP at h;simp only[dv] at h;have b:=h.1.1.1;have a:=h.2;unfold u0 at b;simp only[dv,kQ] at b;refine⟨b.1.1.2,?_⟩;unfold NS at a;split at a
 .have:=gM a;exact⟨by rw[this.1];simp,this.2⟩
 .split at a
  .have:=gM a;exact⟨by rw[this.1];simp,by rw[this.2];simp⟩
  .split at a
   .have:=gM a;exact⟨this.2.2.1,by rw[this.1];simp⟩
   .cases a
theorem kg{l:List Nd}(h:Valid l):y5 l:=⟨by have:=h.few;omega,λx a=>by
 have:=Vw (h.may x a);exact⟨by omega,by omega,by omega⟩⟩
theorem S4{l:List Nd}(h:Valid l)(p:aq):Valid (mh l p):=by
 refine⟨gj (MS _ _) h.few,h.ord.filter _,λx d=>h.may x (we.1 d).1,λx d=>?_⟩;obtain⟨f,b⟩:=we.1 d;by_cases c:(bg x.1).1=[]
 .exact .inl c
 .rcases h.up x f with g|⟨y,i,e,k⟩
  .exact absurd g c
  .refine .inr ⟨y,we.2 ⟨i,?_⟩,e,k⟩;cases a:gone p y with
   | false=>rfl
   | true =>
     have:gone p x=true:=by
      unfold gone at a⊢;rw[wc] at a⊢;rcases a with a|a
      .right;rw[<-gM a,e];exact CE c
      .exact .inr (Ko c e a)
     rw[this] at b;cases b
theorem Ky{l:List Nd}(h:Valid l)(p:aq):Valid (gv l p false):=by
 refine⟨gj (MS _ _) h.few,h.ord.filter _,λx b=>h.may x (we.1 b).1,λx b=>?_⟩;obtain⟨c,a⟩:=we.1 b;by_cases d:(bg x.1).1=[]
 .exact .inl d
 .rcases h.up x c with f|⟨y,g,e,k⟩
  .exact absurd f d
  .refine .inr ⟨y,we.2 ⟨g,?_⟩,e,k⟩;cases i:cd (parts y.1) (parts p) with
   | false=>rfl
   | true =>
     rw[Ko d e i] at a;cases a
theorem PY(l:List Nd)(p:aq):gv l p true=mh l p:=by
 unfold gv mh gone
 congr 1
 funext x;cases decide (x.1=p)<;>cases cd (parts x.1) (parts p)<;>rfl
theorem u9(p:Pt):Fy (bH p).2.1:=by
 have a:Fy []:=⟨λx c=>(by cases c),(by simp),(by simp[aG])⟩;unfold bH;split
 .rename_i b;dsimp only;split
  .rename_i d;exact(Fz b d).2
  .split
   .exact A2 (Ab b)
   .split
    .exact Ab b
    .exact a
 .exact a
def sQ(t:List Nd)(p:Pt):List Nd:=if(bH p).1=1 then mh t (aG (bH p).2.1) else if(bH p).1=2 then gv t (aG (bH p).2.1) false else t
theorem va{t:List Nd}(h:Valid t)(p:Pt):Valid (sQ t p):=by
 unfold sQ;split
 .exact S4 h _
 .split
  .exact Ky h _
  .exact h
theorem Mh{t:List Nd}(h:Valid t)(p:Pt):qn (iG p,t,())=some (sQ t p,()):=by
 have a:=u9 p;have d:=kg h;unfold qn iG WW sQ;dsimp only;by_cases b:(bH p).1=1
 .rw[aQ b,aQ b];show iA _=_
  unfold iA;dsimp only;rw[Vv t _ d (by have:=a.2.2;omega) h,aa]
 .rw[aM b,aM b];by_cases c:(bH p).1=2
  .rw[aQ c,aQ c];show fY _=_
   unfold fY;dsimp only;rw[YP t _ d (by have:=a.2.2;omega) h,aa]
  .rw[aM c,aM c];by_cases e:(bH p).2.1=[]
   .rw[aQ e];rfl
   .rw[aM e];rfl
theorem Kz{t:List Nd}(h:Valid t)(p:aq)(a:p.length<=4096):ql (t,p,())=some (mh t p,()):=by
 obtain⟨b,c,d⟩:=rz t (kg h);unfold ql;dsimp only;rw[c,aa,d.2 h];dsimp only;rw[aA,ae,z6 t p true (kg h) a,aa,PY]
theorem Mi{t:List Nd}(h:Valid t)(p:aq)(a:p.length<=4096):sb (t,p,())=some (gv t p false,()):=by
 obtain⟨b,c,d⟩:=rz t (kg h);unfold sb;dsimp only;rw[c,aa,d.2 h];dsimp only;rw[aA,ae,z6 t p false (kg h) a,aa]
theorem N0{a c:Type}(f:c->a->c)(l:List a)(b:c){i:Nat}{x:a}(d:l[i]?=some x):(l.take<|i+1).foldl f b=f ((l.take i).foldl f b) x:=by
 rw[Be,d,List.foldl_append];rfl
theorem Vx(l:List Pt)(e:Bool)(a:List Nd)(h:Valid a)(m:l.length<=10000):Loop (ka (l.map iG,e,())) ((a,(0:Int),()),())=some ((l.foldl sQ a,(l.length:Int),()),())/\Valid (l.foldl sQ a):=by
 obtain⟨t,c,j,_⟩:=xp (f:=ka (l.map iG,e,())) l (λ(t:List Nd) i=>((t,i,()),())) (λt _ x=>sQ t x) (λt=>((t,(l.length:Int),()),())) (λt i=>t=(l.take i).foldl sQ a/\Valid t) (by omega) (λt i x g k b d=>by
  have hy:(l.map iG)[i]?=some (iG x):=by rw[wP,g];rfl
  constructor
  .unfold ka;dsimp only;rw[ak<|show i<(l.map iG).length by rw[qI];exact k,ab,ao hy,aa,b];rw[show qn (iG x,t,())=_ from Mh d.2 x,aa];rfl
  .exact⟨by rw[N0 sQ l a g,<-d.1],va d.2 x⟩) (λt _=>by
  unfold ka;dsimp only;rw[show aY (l.length:Int) (len<|l.map iG)=false by rw[<-qI (f:=iG)];exact ay,ae];rfl) a ⟨rfl,h⟩
 rw[wQ] at c;rw[<-c.1];exact⟨j,c.2⟩
theorem Mj(a:List Nd)(l:List Pt)(j:PX l)(m:Valid a):Loop (mR (a,l,())) ((a,(0:Int),()),())=some ((l.foldl sQ a,(l.length:Int),()),()):=by
 have n:=j.1;obtain⟨t,k,b,_⟩:=xp (f:=mR (a,l,())) l (λ(t:List Nd) i=>((t,i,()),())) (λt _ x=>sQ t x) (λt=>((t,(l.length:Int),()),())) (λt i=>t=(l.take i).foldl sQ a/\Valid t) (by omega) (λt i x h o c e=>by
  have d:=u9 x;constructor
  .unfold mR;dsimp only;rw[ak o,ab,ao h,aa,Ac x (j.2 x<|dY h),aa,c];dsimp only;rw[Kz e.2 _ (by have:=d.2.2;omega),aa,Mi e.2 _ (by have:=d.2.2;omega),aa];unfold sQ;by_cases b:(bH x).1=1
   .rw[aJ b,aQ b];rfl
   .rw[aE b,aM b];by_cases g:(bH x).1=2
    .rw[aJ g,aQ g];rfl
    .rw[aE g,aM g];rfl
  .exact⟨by rw[N0 sQ l a h,<-e.1],va e.2 x⟩) (λt _=>by
  unfold mR;dsimp only;rw[ay,ae];rfl) a ⟨rfl,m⟩
 rw[wQ] at k;rw[<-k.1];exact b
theorem vb{t:List Nd}{n:Nd}(h:(bC t n).2=0):Valid (bC t n).1:=by
 rcases Kp t n with ⟨_,a⟩|⟨b,a,c,r,d,e,f⟩
 .exact absurd h a
 .rw[f];exact NW b a c d e
def ig:List aq->aq->List Nd->List Nd×Int
 | [],_,t=>(t,0)
 | nm::r,at',t =>
   if(findF t<|ow at' nm).2.1=true/\(findF t<|ow at' nm).1.2.1=2 then ig r (ow at' nm) t
   else if(bC t<|fe 493<|ow at' nm).2=0 then ig r (ow at' nm) (bC t<|fe 493<|ow at' nm).1
   else([],(bC t<|fe 493<|ow at' nm).2)
theorem Ag:∀(r:List aq) (a:aq) (t:List Nd),Valid t->(ig r a t).2=0->Valid (ig r a t).1:=by
 intro r;induction r with
 | nil=>intro a t h _;exact h
 | cons nm r e =>
   intro a t h b;unfold ig at b⊢;split at b
   .rename_i d;rw[aQ d];exact e _ _ h b
   .rename_i d;rw[aM d];split at b
    .rename_i c;rw[aQ c];exact e _ _ (vb c) b
    .rename_i c;exact absurd b c
abbrev DS:=((List Nd×(List Nd×(Int×(aq×(Int×ai)))))×ai)
theorem S5{f:DS->Option (DS⊕(Nat×DS))}(b:List aq)(h:Fy b)(n:Nat)(v:n<=b.length)
  (c:∀(i:Nat) (x:aq) (t:List Nd),i<n->b[i]?=some x->Valid t ->
   f ((t,[],(0:Int),aG<|b.take i,(i:Int),()),()) =
    some (if(findF t<|dK b i).2.1=true/\(findF t<|dK b i).1.2.1=2 then .inl ((t,[],(0:Int),dK b i,((i+1:Nat):Int),()),())
     else if(bC t<|fe 493<|dK b i).2=0 then .inl (((bC t<|fe 493<|dK b i).1,[],(0:Int),dK b i,((i+1:Nat):Int),()),())
     else .inr (1,(t,[],(bC t<|fe 493<|dK b i).2,dK b i,(i:Int),()),())))
  (j:∀(t:List Nd) (a:aq),f ((t,[],(0:Int),a,(n:Int),()),())=some (.inr (0,(t,[],(0:Int),a,(n:Int),()),()))) :
  ∀(d i:Nat) (t:List Nd),i+d=n->Valid t->∃z,Loop f ((t,[],(0:Int),aG<|b.take i,(i:Int),()),())=some z /\
   (((ig ((b.take n).drop i) (aG<|b.take i) t).2=0/\z.1=0/\z.2.1.1=(ig ((b.take n).drop i) (aG<|b.take i) t).1) \/
    ((ig ((b.take n).drop i) (aG<|b.take i) t).2≠0/\z.1=1/\z.2.1.2.1=[]/\z.2.1.2.2.1=(ig ((b.take n).drop i) (aG<|b.take i) t).2)):=by
 intro d;induction d with
 | zero =>
   intro i t s m;obtain rfl:i=n:=by omega
   refine⟨_,by rw[aN,j];rfl,.inl ?_⟩;rw[GU<|by rw[fB];omega];exact⟨rfl,rfl,rfl⟩
 | succ d r =>
   intro i t s m;have hx:b[i]?=some b[i]:=fN (by omega);have e:=c i b[i] t (by omega) hx m;have g:(b.take n).drop i=b[i]::(b.take n).drop (i+1):=by
    rw[wM<|by rw[fB];omega,ZM]
   have u:=pq h.1 hx;rw[g];unfold ig;rw[u];have k:dK b i=aG (b.take<|i+1):=rfl;split
   .rename_i o;rw[aQ o] at e;obtain⟨z,p,q⟩:=r (i+1) t (by omega) m;refine⟨z,?_,by rw[k];exact q⟩;rw[aN,e];exact p
   .rename_i o;rw[aM o] at e;split
    .rename_i l;rw[aQ l] at e;obtain⟨z,p,q⟩:=r (i+1) _ (by omega) (vb l);refine⟨z,?_,by rw[k];exact q⟩;rw[aN,e];exact p
    .rename_i l;rw[aM l] at e;refine⟨_,by rw[aN,e];rfl,.inr ⟨l,rfl,rfl,rfl⟩⟩
theorem abM(m:Int){a:List aq}(h:Fy a)(i:Nat):Sm (fe m<|dK a i):=⟨h.oV<|i+1,by simp[fe],by simp[fe]⟩
def qT(a:List aq)(t:List Nd)(n:Nd):List Nd×Int:=if(ig a.dropLast [] t).2=0 then bC (ig a.dropLast [] t).1 n else([],(ig a.dropLast [] t).2)
theorem PZ{b:List aq}(h:Fy b){n:Nd}(y:n.1=aG b)(A:Sm n){t:List Nd}(s:Valid t):jG ((n,()),t,())=some ((qT b t n).1,(qT b t n).2,()):=by
 have hd:Fy b.dropLast:=A2 h;unfold jG;dsimp only;rw[y,pj _ (by have:=h.2.2;omega),aa,vT h.1];dsimp only;rw[pG _ (by have:=hd.2.2;omega),aa,jk _ hd.1];obtain⟨z,B,j⟩:=S5 (f:=e8 (b.dropLast,())) b.dropLast hd b.dropLast.length (cg _) (λi x u C k v=>by
  have d:=kg v;have D:=hd.H9 (dY k);have E:=hd.oV i;have w:=hd.oV (i+1);have F:=hd.2.1;unfold e8;dsimp only;rw[ak C,ab,ao k,aa,Fe _ _ (by omega) (by omega),aa,pq hd.1 k];dsimp only;rw[YI u _ d (by unfold dK;omega) v,aa,aL (by omega)];have G:=GF u (fe 493<|dK b.dropLast i) d (abM 493 hd i);rw[show ru (u,(dK b.dropLast i,(2:Int),(493:Int),([]:aq),([]:aq),()),())=_ from G,aa];dsimp only;by_cases l:(findF u<|dK b.dropLast i).2.1=true
  .by_cases e:(findF u<|dK b.dropLast i).1.2.1=2
   .rw[l,aJ e,aQ ⟨rfl,e⟩];rfl
   .rw[l,aE e,aM λq=>e q.2];by_cases c:(bC u<|fe 493<|dK b.dropLast i).2=0
    .rw[aJ c,aQ c];rfl
    .rw[aE c,aM c];rfl
  .rw[show(findF u<|dK b.dropLast i).2.1=false by simpa using l,aM λq=>by cases q.1];by_cases c:(bC u<|fe 493<|dK b.dropLast i).2=0
   .rw[aJ c,aQ c];rfl
   .rw[aE c,aM c];rfl) (λu a=>by
  unfold e8;dsimp only;rw[ay,ae]) b.dropLast.length 0 t (by omega) s
 rw[wQ,wR] at j;rw[show Loop (e8 (b.dropLast,())) ((t,([]:List Nd),(0:Int),([]:aq),(0:Int),()),())=_ from B,aa];have m:aG (b.dropLast.take 0)=[]:=by simp[aG]
 rw[m] at j;unfold qT;rcases j with ⟨g,o,p⟩|⟨g,o,p,H⟩
 .have r:=Ag _ _ _ s g;rw[o,show dJ 0 0=true from rfl,ab,p,aQ g,GF _ n (kg r) A,aa]
 .rw[o,show dJ 1 0=false from rfl,ae,p,H,aM g]
theorem S6{b:List aq}(h:Fy b){t:List Nd}(w:Valid t):tT (t,aG b,())=some ((if(ig b.dropLast [] t).2=0 then(ig b.dropLast [] t).1 else []),(ig b.dropLast [] t).2,()):=by
 unfold tT;dsimp only;rw[gC _ (by have:=h.2.2;omega),aa,jk _ h.1];have j:b.take (b.length-1)=b.dropLast:=List.dropLast_eq_take.symm;obtain⟨z,y,k⟩:=S5 (f:=lh (b,())) b h (b.length-1) (by omega) (λi x u E l s=>by
  have d:=kg s;have A:=h.H9 (dY l);have B:=h.oV i;have v:=h.oV (i+1);have m:=h.2.1;unfold lh;dsimp only;rw[aL<|by omega,ak (show i+1<b.length by omega),ab,ao l,aa,yl _ _ (by omega) (by omega),aa,pq h.1 l];dsimp only;rw[S3 u _ d s,aa];have C:=z8 u (fe 493<|dK b i) d (abM 493 h i);rw[show mQ (u,(dK b i,(2:Int),(493:Int),([]:aq),([]:aq),()),())=_ from C,aa];dsimp only;by_cases n:(findF u<|dK b i).2.1=true
  .by_cases e:(findF u<|dK b i).1.2.1=2
   .rw[n,aJ e,aQ ⟨rfl,e⟩];rfl
   .rw[n,aE e,aM λq=>e q.2];by_cases c:(bC u<|fe 493<|dK b i).2=0
    .rw[aJ c,aQ c];rfl
    .rw[aE c,aM c];rfl
  .rw[show(findF u<|dK b i).2.1=false by simpa using n,aM λq=>by cases q.1];by_cases c:(bC u<|fe 493<|dK b i).2=0
   .rw[aJ c,aQ c];rfl
   .rw[aE c,aM c];rfl) (λu a=>by
  unfold lh;dsimp only;have m:=h.2.1;rw[aL<|by omega,show aY ((b.length-1+1:Nat):Int) (len b)=false from aB (by unfold len;omega),ae]) (b.length-1) 0 t (by omega) w
 rw[wR,j] at k;rw[show Loop (lh (b,())) ((t,([]:List Nd),(0:Int),([]:aq),(0:Int),()),())=_ from y,aa];have o:aG (b.take 0)=[]:=by simp[aG]
 rw[o] at k;rcases k with ⟨g,p,r⟩|⟨g,p,r,D⟩
 .rw[p,show dJ 0 0=true from rfl,ab,r,aQ g,g]
 .rw[p,show dJ 1 0=false from rfl,ae,r,D,aM g]
theorem Vy(p:Pt):(bH p).1=0\/(bH p).1=1\/(bH p).1=2:=by
 unfold bH;split
 .dsimp only;split
  .exact .inr (.inl rfl)
  .split
   .exact .inr (.inr rfl)
   .split
    .exact .inl rfl
    .exact .inl rfl
 .exact .inl rfl
def mW(t:List Nd)(p:Pt):List Nd×Int:=if(bH p).1=0/\(bH p).2.1≠[] then qT (bH p).2.1 t (ic p<|aG (bH p).2.1) else(t,0)
def wD:List Pt->List Nd->List Nd×Int
 | [],t=>(t,0)
 | p::r,t=>if(mW t p).2=0 then wD r (mW t p).1 else([],(mW t p).2)
theorem S7{b:List aq}{t:List Nd}{n:Nd}(h:(qT b t n).2=0):Valid (qT b t n).1:=by
 unfold qT at h⊢;split at h
 .rename_i a;rw[aQ a];exact vb h
 .rename_i a;exact absurd h a
theorem vU{t:List Nd}{p:Pt}(b:Valid t)(h:(mW t p).2=0):Valid (mW t p).1:=by
 unfold mW at h⊢;split at h
 .rename_i a;rw[aQ a];exact S7 h
 .rename_i a;rw[aM a];exact b
theorem yr:∀(l:List Pt) (t:List Nd),Valid t->(((wD l t).2=0/\Valid (wD l t).1)\/((wD l t).2≠0/\(wD l t).1=[])):=by
 intro l;induction l with
 | nil=>intro t h;exact .inl ⟨rfl,h⟩
 | cons p r b =>
   intro t h;unfold wD;split
   .rename_i a;exact b _ (vU h a)
   .rename_i a;exact .inr ⟨a,rfl⟩
theorem WY{p:Pt}(a:SmP p){b:List aq}(h:Fy b):Sm (ic p<|aG b):=⟨h.2.2,a.2.1,a.2.2⟩
theorem S8{t:List Nd}(h:Valid t)(p:Pt)(d:SmP p):uZ (iG p,t,())=some ((mW t p).1,(mW t p).2,()):=by
 have b:=u9 p;unfold uZ iG WW mW;dsimp only;rcases Vy p with a|a|a
 .rw[aM<|by rw[a];decide,aM (by rw[a];decide)];by_cases c:(bH p).2.1=[]
  .rw[aQ c,aM λq=>q.2 c];rfl
  .rw[aM c,aQ ⟨a,c⟩];exact PZ b rfl (WY d b) h
 .rw[aQ a,aM λq=>by rw[a] at q;exact absurd q.1 (by decide)];rfl
 .rw[aM<|by rw[a];decide,aQ a,aM λq=>by rw[a] at q;exact absurd q.1 (by decide)];rfl
theorem runs{S R:Type}{f:S->Option (S⊕R)}(l:List Pt)(h:List Nd->Nat->S)(b:List Nd->R)(c:Int->List Nd->Nat->R)
  (a:∀(i:Nat) (x:Pt) (t:List Nd),l[i]?=some x->Valid t->f (h t i)=some (if(mW t x).2=0 then .inl (h (mW t x).1<|i+1) else .inr (c (mW t x).2 t i)))
  (e:∀t,f (h t l.length)=some (.inr<|b t)) :
  ∀(d i:Nat) (t:List Nd),i+d=l.length->Valid t->∃z,Loop f (h t i)=some z /\
   (((wD (l.drop i) t).2=0/\z=b (wD (l.drop i) t).1)\/((wD (l.drop i) t).2≠0/\∃m n,z=c (wD (l.drop i) t).2 m n)):=by
 intro d;induction d with
 | zero =>
   intro i t o k;obtain rfl:i=l.length:=by omega
   refine⟨_,by rw[aN,e];rfl,.inl ?_⟩;rw[Ix];exact⟨rfl,rfl⟩
 | succ d p =>
   intro i t o k;have hx:l[i]?=some l[i]:=fN (by omega);have j:=a i l[i] t hx k;rw[wM<|by omega];unfold wD;split
   .rename_i g;rw[aQ g] at j;obtain⟨z,q,r⟩:=p (i+1) _ (by omega) (vU k g);exact⟨z,by rw[aN,j];exact q,r⟩
   .rename_i g;rw[aM g] at j;exact⟨_,by rw[aN,j];rfl,.inr ⟨g,t,i,rfl⟩⟩
open Classical in
def kO(l:List Nd)(a:List Pt):List Nd×Int:=if Valid l then(if gw a=true then wD a (a.foldl sQ l) else([],10)) else([],1)
theorem vV(a:List Pt):∀(l:List Nd),Valid l->Valid (a.foldl sQ l):=by
 induction a with
 | nil=>intro l h;exact h
 | cons p r b=>intro l h;exact b _ (va h p)
theorem adp(l:List Nd)(a:List Pt)(k:y5 l)(d:PX a):sd (l,a,())=some ((kO l a).1,(kO l a).2,()):=by
 obtain⟨e,p,m⟩:=po l k;have y:=k.1;have A:=d.1;unfold sd kO;dsimp only;rw[p,aa];dsimp only;by_cases hv:Valid l
 .rw[m.2 hv,show nt (aX 0 0)=false from rfl,ae,aQ hv,NY a d,aa];by_cases b:gw a=true
  .rw[aQ b,aQ b];dsimp only;rw[aA,ae,bD (by simp only[eB];omega),ab,show app ([]:List Nd) l=l from rfl];obtain⟨r,n⟩:=Vx a true l hv (by omega);rw[r,aa];dsimp only;obtain⟨z,s,o⟩:=runs (f:=kb (a.map iG,true,())) a (λt i=>(([],(0:Int),t,(i:Int),()),())) (λt=>(0,([],(0:Int),t,(a.length:Int),()),())) (λe t i=>(1,([],e,t,(i:Int),()),())) (λi x t g u=>by
    have hi:=aD g;have hy:(a.map iG)[i]?=some (iG x):=by rw[wP,g];rfl
    unfold kb;dsimp only;rw[ak<|show i<(a.map iG).length by rw[qI];exact hi,ab,ao hy,aa,aL (by omega)];rw[show uZ (iG x,t,())=_ from S8 u x (d.2 x<|dY g),aa];dsimp only;by_cases c:(mW t x).2=0
    .rw[aJ c,aQ c];rfl
    .rw[aE c,aM c];rfl) (λt=>by
    unfold kb;dsimp only;rw[show aY (a.length:Int) (len<|a.map iG)=false by rw[<-qI (f:=iG)];exact ay,ae]) a.length 0 (a.foldl sQ l) (by omega) n
   rw[wR] at o;rw[show Loop (kb (a.map iG,true,())) (([],(0:Int),a.foldl sQ l,(0:Int),()),())=_ from s,aa];rcases o with ⟨h,j⟩|⟨h,B,C,j⟩
   .rw[j,h];rfl
   .rw[j];rcases yr a _ n with ⟨v,_⟩|⟨_,w⟩
    .exact absurd v h
    .rw[w];rfl
  .rw[aM b,aM b];rfl
 .have:e≠0:=λq=>hv (m.1 q);rw[aE this,aw,ab,aM hv]
theorem Vz(l:List Nd)(a:List Pt)(v:y5 l)(k:PX a):vN (l,a,())=some ((kO l a).1,(kO l a).2,()):=by
 obtain⟨e,F,w⟩:=rz l v;have K:=v.1;have L:=k.1;unfold vN kO;dsimp only;rw[F,aa];dsimp only;by_cases hv:Valid l
 .rw[w.2 hv,aA,ae,aQ hv,Af a k,aa];dsimp only;by_cases m:gw a=true
  .rw[aQ m,m,aA,ae];have G:=Mj l a k hv;have y:=vV a l hv;rw[G,aa];dsimp only;obtain⟨z,H,C⟩:=runs (f:=mS (l,a,())) a (λt i=>((t,[],(0:Int),(i:Int),()),())) (λt=>(0,(t,[],(0:Int),(a.length:Int),()),())) (λe t i=>(1,(t,[],e,(i:Int),()),())) (λi x t p D=>by
    have hi:=aD p;have g:=k.2 x (dY p);have c:=u9 x;unfold mS;dsimp only;rw[ak hi,ab,ao p,aa,Ac x g,aa,aL (by omega)];dsimp only;rw[S6 c D,aa,aa];unfold qo;dsimp only;rw[aa];dsimp only;by_cases h:(bH x).1=0
    .have E:=rA c.1;by_cases n:(bH x).2.1=[]
     .have b:mW t x=(t,0):=by unfold mW;rw[aM λq=>q.2 n]
      rw[b,aJ h,ch (E.2 n)];rfl
     .have b:mW t x=qT (bH x).2.1 t (ic x<|aG (bH x).2.1):=by unfold mW;rw[aQ ⟨h,n⟩]
      rw[b,aJ h,bj λq=>n (E.1 q)];rw[show ∀(A B:Option ((((List Nd)×(List Nd)×Int×Int×ai)×ai)⊕(Nat×((List Nd)×(List Nd)×Int×Int×ai)×ai))),aj (aj (nt<|nt true) false true) A B=B from λA B=>rfl];by_cases hd:(ig (bH x).2.1.dropLast [] t).2=0
      .have d:qT (bH x).2.1 t (ic x<|aG (bH x).2.1)=bC (ig (bH x).2.1.dropLast [] t).1 (ic x<|aG (bH x).2.1):=by unfold qT;rw[aQ hd]
       have r:=Ag _ _ _ D hd;have j:=z8 (ig (bH x).2.1.dropLast [] t).1 (ic x<|aG (bH x).2.1) (kg r) (WY g c);rw[d,aJ hd,aQ hd,aA,ae];rw[show mQ ((ig (bH x).2.1.dropLast [] t).1,(aG (bH x).2.1,x.1.2.1,x.1.2.2.1,x.2.1,x.1.2.2.2.2.2.2.2.1,()),())=_ from j,aa];dsimp only;by_cases o:(bC (ig (bH x).2.1.dropLast [] t).1<|ic x<|aG (bH x).2.1).2=0
       .rw[aJ o,aQ o];rfl
       .rw[aE o,aM o];rfl
      .have d:qT (bH x).2.1 t (ic x<|aG (bH x).2.1)=([],(ig (bH x).2.1.dropLast [] t).2):=by unfold qT;rw[aM hd]
       rw[d,aE hd,aM hd,aM hd];rfl
    .have b:mW t x=(t,0):=by unfold mW;rw[aM λq=>h q.1]
     rw[b,aE h];rfl) (λt=>by
    unfold mS;dsimp only;rw[ay,ae]) a.length 0 (a.foldl sQ l) (by omega) y
   rw[wR] at C;rw[show Loop (mS (l,a,())) ((a.foldl sQ l,[],(0:Int),(0:Int),()),())=_ from H,aa];rcases C with ⟨s,u⟩|⟨s,M,N,u⟩
   .rw[u,s];rfl
   .rw[u];rcases yr a _ y with ⟨I,_⟩|⟨_,J⟩
    .exact absurd I s
    .rw[J];rfl
  .rw[aM m,show gw a=false by simpa using m];rfl
 .have:e=false:=by
   cases e with
   | false=>rfl
   | true=>exact absurd (w.1 rfl) hv
  rw[this,aM hv];rfl
def rd0:Rd:=(false,[],0,false,false,())
abbrev Ns:=(Bool×Int×ai)×(ai×ai×ai)×Rd×ai
def ns(k:Int):Ns:=((false,k,()),((),(),()),rd0,())
theorem VA:eD (lL 1024,())=some ([],0,()):=by
 have a:∀x∈lL 1024,x=0:=adi _;have c:(lL 1024).length=1024:=ry _;unfold eD;dsimp only;rw[aB<|show len (lL 1024)<=8192 by unfold len;omega];rw[show bJ ((),(true,lL 1024,(0:Int),false,false,()),())=_ from Fv (lL 1024) 0 (by omega) (by omega) (λx b=>a x (CO b)),dI ⟨by omega,by omega,a⟩,aa];dsimp only;rw[aN,uo];rfl
def Has(t:List Nd)(p:aq):Prop:=p=[]\/∃x∈t,x.1=p/\x.2.1=2
theorem S9{t:List Nd}{n:Nd}(c:Valid t)(d:eP n=true)(h:Has t (bg n.1).1):((bC t n).2=0/\n∈(bC t n).1)\/(bC t n).2=5:=by
 unfold bC;rw[aM<|show ¬(¬Valid t\/eP n=false) from λq=>q.elim (λq=>q c) λq=>by rw[d] at q;cases q];have f:¬((bg n.1).1≠[]/\∀x∈t,x.1≠(bg n.1).1):=λq=>by
  rcases h with h|⟨x,a,e,_⟩
  .exact q.1 h
  .exact q.2 x a e
 have b:¬((bg n.1).1≠[]/\∀x∈t,x.1=(bg n.1).1->x.2.1≠2):=λq=>by
  rcases h with h|⟨x,a,e,k⟩
  .exact q.1 h
  .exact q.2 x a e k
 rw[aM f,aM b];have key:∀r:List Nd,((if 64<=r.length then(([]:List Nd),(5:Int)) else(sO r n,0)).2=0/\n∈(if 64<=r.length then(([]:List Nd),(5:Int)) else(sO r n,0)).1)\/(if 64<=r.length then(([]:List Nd),(5:Int)) else(sO r n,0)).2=5:=λr=>by
  split
  .exact .inr rfl
  .exact .inl ⟨rfl,sP.2 (.inl rfl)⟩
 exact key _
theorem YQ{t:List Nd}{p:aq}(h:(findF t p).2.1=true):(findF t p).1∈t/\(findF t p).1.1=p:=by
 unfold findF at h⊢;cases a:t.find? λx=>decide (x.1=p) with
 | none=>rw[a] at h;cases h
 | some x=>exact⟨Qy a,by have:=QS a;simpa using this⟩
theorem abN{p:aq}(h:eP (fe 0 p)=true):eP (fe 493 p)=true:=by
 unfold eP at h⊢;simp only[dv] at h⊢;exact⟨⟨⟨h.1.1.1,by simp[fe]⟩,by simp[fe]⟩,by simp[NS,fe]⟩
theorem YR{a:List aq}(h:Fy a)(n:Nat)(w:n<=a.length)(k:preB a n=true):∀(d i:Nat) (t:List Nd),i+d=n->Valid t->Has t (aG<|a.take i) ->
  ((ig ((a.take n).drop i) (aG<|a.take i) t).2=0/\Has (ig ((a.take n).drop i) (aG<|a.take i) t).1 (aG<|a.take n))\/(ig ((a.take n).drop i) (aG<|a.take i) t).2=5:=by
 intro d;induction d with
 | zero =>
   intro i t r l m;obtain rfl:i=n:=by omega
   rw[GU<|by rw[fB];omega];exact .inl ⟨rfl,m⟩
 | succ d p =>
   intro i t r l m;have hx:a[i]?=some a[i]:=fN (by omega);have c:(a.take n).drop i=a[i]::(a.take n).drop (i+1):=by
    rw[wM<|by rw[fB];omega,ZM]
   have s:=pq h.1 hx;have e:dK a i=aG (a.take<|i+1):=rfl;rw[c];unfold ig;rw[s];split
   .rename_i q;obtain⟨m1,u⟩:=YQ q.1;rw[e];exact p (i+1) t (by omega) l (.inr ⟨_,m1,by rw[u,e],q.2⟩)
   .have f:eP (fe 493<|dK a i)=true:=by
     unfold preB at k;rw[ra] at k;exact abN (k i<|B8.2<|by omega)
    have b:=S9 l f (by
     show Has t (bg<|dK a i).1
     rw[Kr h.1<|by omega];exact m)
    split
    .rename_i g;rcases b with ⟨_,j⟩|o
     .rw[e];exact p (i+1) _ (by omega) (vb g) (.inr ⟨_,j,rfl,rfl⟩)
     .rw[o] at g;cases g
    .rename_i g;rcases b with ⟨v,_⟩|o
     .exact absurd v g
     .exact .inr o
theorem YS{a:List aq}(h:Fy a){n:Nd}(k:n.1=aG a)(l:eP n=true)(b:pK a=true){t:List Nd}(g:Valid t):(qT a t n).2=0\/(qT a t n).2=5:=by
 have d:a.take (a.length-1)=a.dropLast:=List.dropLast_eq_take.symm;have c:preB a (a.length-1)=true:=by
  unfold pK at b;simp only[dv,kQ] at b;rw[PW b.2] at b;simp only[dv] at b;exact b.1.1
 have hd:=YR h (a.length-1) (by omega) c (a.length-1) 0 t (by omega) g (.inl<|by simp[aG]);have e:aG (a.take 0)=[]:=by simp[aG]
 rw[wR,d,e] at hd;unfold qT;rcases hd with ⟨i,m⟩|j
 .rw[aQ i];have f:=Ag _ _ _ g i;rcases S9 f l (by rw[k,vT h.1];exact m) with ⟨o,_⟩|p
  .exact .inl o
  .exact .inr p
 .rw[aM<|by rw[j];decide];exact .inr j
theorem VB{p:Pt}(a:(bH p).2.2=true)(c:(bH p).1=0)(b:(bH p).2.1≠[]):eP (ic p<|aG (bH p).2.1)=true/\pK (bH p).2.1=true:=by
 have key:∀(ns:List aq) (q:Bool),ns≠[]->((decide (ns=[])&&q)||(eP (ic p<|aG ns)&&pK ns))=true->eP (ic p<|aG ns)=true/\pK ns=true:=λns q d g=>by
  rw[cJ d,ZS,yN,dv] at g;exact g
 unfold bH at a c b⊢;split at c
 .rename_i e;rw[aQ e] at a b⊢;dsimp only at a c b⊢;split at c
  .cases c
  .rename_i h;rw[aM h] at a b⊢;split at c
   .cases c
   .rename_i i;rw[aM i] at a b⊢;split at c
    .rename_i f;rw[aQ f] at a b⊢;exact key _ _ b a
    .rename_i f;rw[aM f] at b;exact absurd rfl b
 .rename_i e;rw[aM e] at b;exact absurd rfl b
theorem Ta:∀(ps:List Pt) (t:List Nd),gw ps=true->Valid t->(wD ps t).2=0\/(wD ps t).2=5:=by
 intro ps;induction ps with
 | nil=>intro t _ _;exact .inl rfl
 | cons p r e =>
   intro t c d;unfold gw at c;simp only[Iz,dv] at c;unfold wD;split
   .rename_i a;exact e _ c.2 (vU d a)
   .rename_i a;right;show(mW t p).2=5
    unfold mW at a⊢;split
    .rename_i b;rw[aQ b] at a;obtain⟨m1,f⟩:=VB c.1 b.1 b.2;rcases YS (u9 p) (n:=ic p (aG (bH p).2.1)) rfl m1 f d with g|h
     .exact absurd g a
     .exact h
    .rename_i b;rw[aM b] at a;exact absurd rfl a
theorem adq{l:List Pt}(c:l.length<=64)(a:∀q∈l,RdP q):PX l:=⟨by omega,λp b=>a p b⟩
theorem YT{s:aq}{l:List Pt}{e:Int}(h:eD (s,())=some (l,e,()))(c:PX l):gh (s,())=some (if e=0/\gw l=true then 0 else 10,()):=by
 unfold gh;dsimp only;rw[h,aa];dsimp only;rw[NY l c,aa];by_cases b:e=0
 .by_cases a:gw l=true
  .rw[aJ b,aQ a,aQ ⟨b,a⟩];rfl
  .rw[aJ b,aM a,aM λq=>a q.2];rfl
 .rw[aE b,aM (show ¬(e=0/\gw l=true) from λq=>b q.1)];by_cases a:gw l=true
  .rw[aQ a];rfl
  .rw[aM a];rfl
theorem YU{s:aq}{a:List Pt}{e:Int}(h:eD (s,())=some (a,e,()))(f:PX a){l:List Nd}(d:Valid l):iP (l,s,())=some (if e=0 then((kO l a).1,(kO l a).2,()) else([],10,())):=by
 obtain⟨c,g,i⟩:=po l (kg d);unfold iP;dsimp only;rw[h,aa,g,aa];dsimp only;rw[adp l a (kg d) f,aa,i.2 d];by_cases b:e=0
 .rw[aJ b,aQ b];rfl
 .rw[aE b,aM b];rfl
def Es(t:List Nd)(q:aq):Option Nd:=t.find? λx=>decide (x.1=q)
theorem WZ(t:List Nd)(q:aq):findF t q=match Es t q with
 | some x=>(x,true,())
 | none=>(abB,false,()):=rfl
theorem at_mem{t:List Nd}{q:aq}{x:Nd}(h:Es t q=some x):x∈t/\x.1=q:=by
 unfold Es at h;exact⟨Qy h,by have:=QS h;simpa using this⟩
theorem yu{t:List Nd}(b:Ord t){q:aq}{x:Nd}:Es t q=some x↔x∈t/\x.1=q:=by
 constructor
 .exact at_mem
 .rintro⟨c,d⟩;have:=CD b c d;rw[WZ] at this;cases a:Es t q with
  | none=>rw[a] at this;cases (br (br this).2).1
  | some y=>rw[a] at this;rw[(br this).1]
theorem W0{a b:Option Nd}(h:∀x,a=some x↔b=some x):a=b:=by
 cases a with
 | none =>
   cases b with
   | none=>rfl
   | some y=>exact absurd ((h y).2 rfl) (by simp)
 | some x=>exact((h x).1 rfl).symm
theorem YV:∀{l m:List Nd},(l.Pairwise λx y=>cmpL (key x) (key y)<0)->(m.Pairwise λx y=>cmpL (key x) (key y)<0)->(∀c,c∈l↔c∈m)->l=m:=by
 intro l;induction l with
 | nil =>
   intro m _ _ h;cases m with
   | nil=>rfl
   | cons d m=>exact absurd ((h d).2<|by simp) (by simp)
 | cons c l n =>
   intro m f g h;cases m with
   | nil=>exact absurd ((h c).1<|by simp) (by simp)
   | cons d m =>
     rw[FW] at f g;have a:∀x:Nd,¬cmpL (key x) (key x)<0:=λx=>by rw[lC];omega
     have i:c=d:=by
      have j:c=d\/c∈m:=by simpa using(h c).1 (by simp)
      have k:d=c\/d∈l:=by simpa using(h d).2 (by simp)
      rcases j with e|j
      .exact e
      .rcases k with e|k
       .exact e.symm
       .exact absurd (rp (f.1 d k)<|g.1 c j) (a c)
     subst i;rw[n f.2 g.2 λq=>?_];constructor
     .intro b;rcases fP.1 ((h q).1<|nX _ b) with e|e
      .subst e;exact absurd (f.1 q b) (a q)
      .exact e
     .intro b;rcases fP.1 ((h q).2<|nX _ b) with e|e
      .subst e;exact absurd (g.1 q b) (a q)
      .exact e
theorem aeU{s t:List Nd}(e:Ord s)(f:Ord t)(h:∀q,Es s q=Es t q):s=t :=
 YV (Fx.1 e) (Fx.1 f) λc=>by
  have a:=yu e (q:=c.1) (x:=c);have b:=yu f (q:=c.1) (x:=c);rw[h c.1] at a;constructor
  .intro d;exact(b.1<|a.2 ⟨d,rfl⟩).1
  .intro d;exact(a.1<|b.2 ⟨d,rfl⟩).1
theorem YW{l:List Nd}(o:Valid l){p:aq}(A:p≠[]):∀(m:Nat) (x:Nd),x∈l->(parts x.1).length<=m->cd (parts x.1) (parts p)=true->∃y∈l,y.1=p/\y.2.1=2:=by
 intro m;induction m with
 | zero =>
   intro x j q d;unfold cd at d;have:=(gM d).1;omega
 | succ m C =>
   intro x j q d;by_cases r:∃y∈l,y.1=p
   .by_cases f:(bg x.1).1=[]
    .exfalso;have h:=d;unfold cd at h;have s:=(gM h).1;have c:=o.may x j;unfold eP u0 at c;simp only[dv,kQ] at c;have i:=c.1.1.1.1.1.1.1.2;have B:(parts x.1).length<=1:=by
      rcases pH x.1 with ⟨a,_⟩|⟨a,b,D,F,e⟩
      .unfold parts;split
       .simp
       .rw[nB _ a];simp
      .rw[e] at f;have f:a=[]:=f;subst f;have:qh []=true:=ra.1 i [] (by
        unfold parts;rw[D,aM (by simp)];show []∈cc ([]++47::b)
        rw[Cz []<|by simp];simp)
       exact absurd this (by decide)
     have t:parts p=[]:=wN.1 (by omega);have:=fh p;rw[t] at this;exact A this.symm
    .rcases o.up x j with e|⟨y,k,u,v⟩
     .exact absurd e f
     .have w:=u5 f;rw[<-u] at w;unfold cd at d;obtain⟨s,n⟩:=gM d;rw[w] at s n;have z:(parts p).length<=(parts y.1).length:=by simp at s;omega
      rw[TN z] at n;rcases sY (parts p).length (parts y.1).length with g|g
      .exact C y k (by rw[w] at q;simp at q;omega) (by unfold cd;exact dI ⟨g,n⟩)
      .have E:parts p=parts y.1:=by rw[<-n,Bd (by omega)]
       exact⟨y,k,by rw[<-fh y.1,<-E,fh],v⟩
   .have:=Kl o A (λy k e=>r ⟨y,k,e⟩) _ x j (cg _);rw[this] at d;cases d
theorem W1{t:List Nd}{n:Nd}(h:(bC t n).2=0)(q:aq) :
  Es (bC t n).1 q=if q=n.1 then some n else if cd (parts q) (parts n.1)=true/\n.2.1≠2 then none else Es t q:=by
 rcases Kp t n with ⟨_,m⟩|⟨i,m,y,r,o,A,B⟩
 .exact absurd h m
 have hvalid:=NW i m y o A;have p:=WU m;rw[B];dsimp only;refine W0 λx=>?_;rw[yu hvalid.ord,sP];obtain⟨j,_⟩:=o.sub;by_cases g:q=n.1
 .rw[aQ g];constructor
  .rintro⟨e|k,f⟩
   .rw[e]
   .exact absurd (f.trans g) (j x k).2
  .intro e;obtain rfl:=aI e;exact⟨.inl rfl,g.symm⟩
 .rw[aM g];have s:(x=n\/x∈r)/\x.1=q↔x∈r/\x.1=q:=by
   constructor
   .rintro⟨e|k,f⟩
    .subst e;exact absurd f.symm g
    .exact⟨k,f⟩
   .rintro⟨k,f⟩;exact⟨.inr k,f⟩
  rw[s];rcases o with ⟨⟨⟨d,E,C,D⟩,u⟩,rfl⟩|⟨v,rfl⟩
  .rw[aM<|λz=>z.2 u,yu i.ord,we];constructor
   .rintro⟨⟨a,_⟩,b⟩;exact⟨a,b⟩
   .rintro⟨a,b⟩;exact⟨⟨a,by simp only[jL,GS];rw[b];exact g⟩,b⟩
  .unfold mh;rw[we];by_cases l:cd (parts q) (parts n.1)=true
   .by_cases w:n.2.1=2
    .rw[aM<|λz=>z.2 w,yu i.ord];constructor
     .rintro⟨⟨a,b⟩,c⟩;exact⟨a,c⟩
     .rintro⟨a,c⟩;exfalso;have:=YW i p _ x a (cg _) (by rw[c];exact l);exact v ⟨this,w⟩
    .rw[aQ ⟨l,w⟩];constructor
     .rintro⟨⟨a,b⟩,c⟩;unfold gone at b;rw[c,l] at b;simp at b
     .intro e;cases e
   .rw[aM<|λz=>l z.1,yu i.ord];constructor
    .rintro⟨⟨a,b⟩,c⟩;exact⟨a,c⟩
    .rintro⟨a,c⟩;refine⟨⟨a,?_⟩,c⟩;unfold gone;rw[c,cJ g,show cd (parts q) (parts n.1)=false by simpa using l];rfl
def Mk(q:aq)(s:Option Nd):Option Nd:=match s with
 | some x=>if x.2.1=2 then some x else some (fe 493 q)
 | none=>some (fe 493 q)
theorem Tb{t:List Nd}(p:aq):((findF t p).2.1=true/\(findF t p).1.2.1=2)↔∃x,Es t p=some x/\x.2.1=2:=by
 rw[WZ];cases Es t p with
 | none=>simp
 | some x=>simp
theorem abO{a:List aq}(h:Kq a){i j:Nat}(b:i<a.length)(c:j<a.length)(e:dK a i=dK a j):i=j:=by
 have:=congrArg (λp=>(parts p).length) e;simp only[u7 h,fB] at this;omega
theorem adr{f:List aq}(h:Kq f)(n:Nat)(F:n<=f.length)(q:aq):∀(d i:Nat) (t:List Nd),i+d=n->Valid t ->
  (ig ((f.take n).drop i) (aG<|f.take i) t).2=0 ->
  ((∃j,i<=j/\j<n/\q=dK f j)->Es (ig ((f.take n).drop i) (aG<|f.take i) t).1 q=Mk q (Es t q)) /\
  ((¬∃j,i<=j/\j<n/\q=dK f j)->Es (ig ((f.take n).drop i) (aG<|f.take i) t).1 q=Es t q):=by
 intro d;induction d with
 | zero =>
   intro i t A w _;obtain rfl:i=n:=by omega
   rw[GU<|by rw[fB];omega];exact⟨λ⟨j,a,b,_⟩=>absurd a (by omega),λ_=>rfl⟩
 | succ d y =>
   intro i t A w m;have hx:f[i]?=some f[i]:=fN (by omega);have o:(f.take n).drop i=f[i]::(f.take n).drop (i+1):=by
    rw[wM<|by rw[fB];omega,ZM]
   have B:=pq h hx;have l:dK f i=aG (f.take<|i+1):=rfl;rw[o] at m⊢;unfold ig at m⊢;rw[B] at m⊢;have k:(∃j,i<=j/\j<n/\q=dK f j)↔(q=dK f i\/∃j,i+1<=j/\j<n/\q=dK f j):=by
    constructor
    .rintro⟨j,a,b,c⟩;by_cases e:j=i
     .subst e;exact .inl c
     .exact .inr ⟨j,by omega,b,c⟩
    .rintro(c|⟨j,a,b,c⟩)
     .exact⟨i,cg _,by omega,c⟩
     .exact⟨j,by omega,b,c⟩
   have apart:q=dK f i->¬∃j,i+1<=j/\j<n/\q=dK f j:=by
    rintro e ⟨j,a,b,c⟩;have:=abO h (by omega) (by omega) (e.symm.trans c);omega
   by_cases r:(findF t<|dK f i).2.1=true/\(findF t<|dK f i).1.2.1=2
   .rw[aQ r] at m⊢;rw[l] at m⊢;obtain⟨u,p⟩:=y (i+1) t (by omega) w m;rw[k];obtain⟨x,C,D⟩:=(Tb _).1 r;constructor
    .rintro(e|e)
     .rw[p<|apart e,e,C];unfold Mk;simp only[aQ D]
     .exact u e
    .intro e;exact p λz=>e (.inr z)
   .rw[aM r] at m⊢;by_cases s:(bC t<|fe 493<|dK f i).2=0
    .rw[aQ s] at m⊢;rw[l] at m⊢;obtain⟨u,p⟩:=y (i+1) _ (by omega) (vb s) m;have g:=W1 s q;rw[<-l] at u p;rw[k];have v:¬(fe 493<|dK f i).2.1≠2:=λz=>z rfl;rw[aM λz:cd (parts q) (parts (fe 493<|dK f i).1)=true/\(fe 493<|dK f i).2.1≠2=>v z.2] at g;constructor
     .rintro(e|e)
      .rw[aQ<|show q=(fe 493<|dK f i).1 from e] at g;rw[<-l,p (apart e),g];unfold Mk;rw[Tb] at r;cases E:Es t q with
       | none=>dsimp only;rw[e]
       | some x =>
         dsimp only;rw[aM<|λz=>r ⟨x,by rw[<-e];exact E,z⟩,e]
      .rw[aM λz:q=(fe 493<|dK f i).1=>apart z e] at g;rw[<-l,u e,g]
     .intro e;rw[aM λz:q=(fe 493<|dK f i).1=>e (.inl z)] at g;rw[<-l,p λz=>e (.inr z),g]
    .rw[aM s] at m;exact absurd m s
def ads(a:List aq)(n:Nd)(q:aq)(s:Option Nd):Option Nd :=
 if q=n.1 then some n else if cd (parts q) a=true/\n.2.1≠2 then none else if cd a (parts q)=true/\q≠[] then Mk q s else s
theorem YX{a:List aq}(h:Kq a)(q:aq):(∃j,0<=j/\j<a.length-1/\q=dK a j)↔(cd a (parts q)=true/\q≠[]):=by
 constructor
 .rintro⟨j,_,g,rfl⟩;rw[u7 h];constructor
  .unfold cd;refine dI ⟨?_,?_⟩
   .rw[fB];omega
   .rw[fB,pb (by omega)]
  .intro e;have:=congrArg (λp=>(parts p).length) e;simp only[u7 h,fB,show(parts []).length=0 from rfl] at this;omega
 .rintro⟨b,d⟩;unfold cd at b;obtain⟨i,f⟩:=gM b;have c:0<(parts q).length:=by
   apply Nat.pos_of_ne_zero;intro e;have:=fh q;rw[wN.1 e] at this;exact d this.symm
  refine⟨(parts q).length-1,nY _,by omega,?_⟩;unfold dK;rw[show(parts q).length-1+1=(parts q).length by omega,f,fh]
theorem adt{a:List aq}(h:Kq a){t:List Nd}(k:Valid t){n:Nd}(j:n.1=aG a)(c:(qT a t n).2=0)(q:aq):Es (qT a t n).1 q=ads a n q (Es t q):=by
 have d:a.take (a.length-1)=a.dropLast:=List.dropLast_eq_take.symm;have e:aG (a.take 0)=[]:=by simp[aG]
 unfold qT at c⊢;by_cases hd:(ig a.dropLast [] t).2=0
 .rw[aQ hd] at c⊢;have b:=adr h (a.length-1) (by omega) q (a.length-1) 0 t (by omega) k (by rw[wR,d,e];exact hd);rw[wR,d,e,YX h] at b;rw[W1 c q,j,jk a h];unfold ads;rw[j];by_cases f:q=aG a
  .rw[aQ f,aQ f]
  .rw[aM f,aM f];by_cases g:cd (parts q) a=true/\n.2.1≠2
   .rw[aQ g,aQ g]
   .rw[aM g,aM g];by_cases i:cd a (parts q)=true/\q≠[]
    .rw[aQ i,b.1 i]
    .rw[aM i,b.2 i]
 .rw[aM hd] at c;exact absurd c hd
def YY(q:aq)(s:Option Nd)(p:Pt):Option Nd:=if(bH p).1=0/\(bH p).2.1≠[] then ads (bH p).2.1 (ic p<|aG (bH p).2.1) q s else s
def KA(q:aq)(p:Pt):Bool:=(decide ((bH p).1=1)&&(decide (q=aG (bH p).2.1)||cd (parts q) (bH p).2.1))||(decide ((bH p).1=2)&&cd (parts q) (bH p).2.1)
def abP(q:aq)(a:List Pt)(s:Option Nd):Option Nd:=if a.any (KA q)=true then none else s
theorem aeV:∀(ps:List Pt) (t:List Nd),Valid t->(wD ps t).2=0->∀q,Es (wD ps t).1 q=ps.foldl (YY q) (Es t q):=by
 intro ps;induction ps with
 | nil=>intro t _ _ q;rfl
 | cons p r e =>
   intro t d b q;unfold wD at b⊢;by_cases a:(mW t p).2=0
   .rw[aQ a] at b⊢;rw[e _ (vU d a) b q,QQ]
    congr 1
    unfold mW YY at *;by_cases c:(bH p).1=0/\(bH p).2.1≠[]
    .rw[aQ c] at a⊢;rw[aQ c];exact adt (u9 p).1 d rfl a q
    .rw[aM c,aM c]
   .rw[aM a] at b;exact absurd b a
theorem aeW{t:List Nd}(h:Valid t)(p:Pt)(q:aq):Es (sQ t p) q=if KA q p=true then none else Es t q:=by
 have i:=va h p;have j:=u9 p;have d:parts (aG (bH p).2.1)=(bH p).2.1:=jk _ j.1;refine W0 λx=>?_;rw[yu i.ord];have key:∀P:Nd->Bool,(∀x,x.1=q->P x=!KA q p)->((x∈t.filter P/\x.1=q)↔(if KA q p=true then none else Es t q)=some x):=by
  intro P l;rw[we];by_cases c:KA q p=true
  .rw[aQ c];constructor
   .rintro⟨⟨_,a⟩,b⟩;rw[l x b,c] at a;cases a
   .intro e;cases e
  .rw[aM c,yu h.ord];constructor
   .rintro⟨⟨a,_⟩,b⟩;exact⟨a,b⟩
   .rintro⟨a,b⟩;exact⟨⟨a,by rw[l x b];simpa using c⟩,b⟩
 unfold sQ;by_cases f:(bH p).1=1
 .rw[aQ f];refine key _ λy k=>?_;unfold gone KA;rw[k,d,f];simp
 .rw[aM f];by_cases g:(bH p).1=2
  .rw[aQ g];refine key _ λy k=>?_;unfold KA;rw[k,d,g];simp
  .rw[aM g];have c:KA q p=false:=by unfold KA;rw[cJ f,cJ g];rfl
   rw[aM<|by rw[c];decide,yu h.ord]
theorem YZ:∀(ps:List Pt) (t:List Nd),Valid t->∀q,Es (ps.foldl sQ t) q=abP q ps (Es t q):=by
 intro ps;induction ps with
 | nil=>intro t _ q;rfl
 | cons p r b =>
   intro t a q;rw[QQ,b _ (va a p) q,aeW a p q];unfold abP;rw[List.any_cons];cases KA q p with
   | false=>rfl
   | true =>
     rw[aQ rfl];simp
theorem VC{l:List Nd}(b:Valid l){a:List Pt}(e:gw a=true)(c:(kO l a).2=0):Valid (kO l a).1/\∀q,Es (kO l a).1 q=a.foldl (YY q) (abP q a<|Es l q):=by
 have f:kO l a=wD a (a.foldl sQ l):=by unfold kO;rw[aQ b,aQ e]
 rw[f] at c⊢;have d:=vV a l b;refine⟨?_,λq=>?_⟩
 .rcases yr a _ d with ⟨_,h⟩|⟨h,_⟩
  .exact h
  .exact absurd c h
 .rw[aeV a _ d c q,YZ a l b q]
theorem abQ{l:List Nd}(e:Valid l)(a:List Pt):((kO l a).2=0/\gw a=true)\/((kO l a).2≠0/\(kO l a).1=[]/\((kO l a).2=10\/(kO l a).2=5)):=by
 by_cases c:gw a=true
 .have f:kO l a=wD a (a.foldl sQ l):=by unfold kO;rw[aQ e,aQ c]
  rw[f];have g:=vV a l e;rcases yr a _ g with ⟨d,h⟩|⟨d,h⟩
  .exact .inl ⟨d,c⟩
  .rcases Ta a _ c g with b|b
   .exact absurd b d
   .exact .inr ⟨d,h,.inr b⟩
 .have f:kO l a=([],10):=by unfold kO;rw[aQ e,aM c]
  rw[f];exact .inr ⟨by decide,rfl,.inl rfl⟩
def yv(q:aq)(f:Option Nd->Option Nd):Prop:=(∃c,∀s,f s=c)\/(∀s,f s=Mk q s)\/(∀s,f s=s)
theorem N3(q:aq)(s:Option Nd):Mk q (Mk q s)=Mk q s:=by
 cases s with
 | none=>rfl
 | some x =>
   show Mk q (if x.2.1=2 then some x else some (fe 493 q))=if x.2.1=2 then some x else some (fe 493 q)
   by_cases h:x.2.1=2
   .rw[aQ h];show(if x.2.1=2 then some x else some (fe 493 q))=_
    rw[aQ h]
   .rw[aM h];rfl
theorem yv.comp{q:aq}{f g:Option Nd->Option Nd}(b:yv q f)(a:yv q g):yv q (λs=>f (g s)):=by
 rcases b with ⟨c,d⟩|b|b
 .exact .inl ⟨c,λs=>d _⟩
 .rcases a with ⟨c,d⟩|a|a
  .exact .inl ⟨Mk q c,λs=>by show f (g s)=_;rw[b,d]⟩
  .exact .inr (.inl λs=>by show f (g s)=_;rw[b,a,N3])
  .exact .inr (.inl λs=>by show f (g s)=_;rw[b,a])
 .rcases a with ⟨c,d⟩|a|a
  .exact .inl ⟨c,λs=>by show f (g s)=_;rw[b,d]⟩
  .exact .inr (.inl λs=>by show f (g s)=_;rw[b,a])
  .exact .inr (.inr λs=>by show f (g s)=_;rw[b,a])
theorem yv.agk{q:aq}{f:Option Nd->Option Nd}(a:yv q f)(s:Option Nd):f (f s)=f s:=by
 rcases a with ⟨c,b⟩|a|a
 .rw[b,b]
 .rw[a,a,N3]
 .rw[a,a]
theorem VD(q:aq)(p:Pt):yv q (λs=>YY q s p):=by
 unfold YY;by_cases a:(bH p).1=0/\(bH p).2.1≠[]
 .simp only[aQ a];unfold ads;by_cases b:q=(ic p<|aG (bH p).2.1).1
  .simp only[aQ b];exact .inl ⟨_,λ_=>rfl⟩
  .simp only[aM b];by_cases c:cd (parts q) (bH p).2.1=true/\(ic p<|aG (bH p).2.1).2.1≠2
   .simp only[aQ c];exact .inl ⟨_,λ_=>rfl⟩
   .simp only[aM c];by_cases d:cd (bH p).2.1 (parts q)=true/\q≠[]
    .simp only[aQ d];exact .inr (.inl λ_=>rfl)
    .simp only[aM d];exact .inr (.inr λ_=>rfl)
 .simp only[aM a];exact .inr (.inr λ_=>rfl)
theorem Tc(q:aq):∀(ps:List Pt),yv q (λs=>ps.foldl (YY q) s):=by
 intro ps;induction ps with
 | nil=>exact .inr (.inr λ_=>rfl)
 | cons p r a=>exact a.comp (VD q p)
theorem Td(q:aq)(a:List Pt):yv q (abP q a):=by
 unfold abP;by_cases h:a.any (KA q)=true
 .simp only[aQ h];exact .inl ⟨_,λ_=>rfl⟩
 .simp only[aM h];exact .inr (.inr λ_=>rfl)
theorem abR{l:List Nd}(b:Valid l){a:List Pt}(c:gw a=true):(kO l a).2=0\/(kO l a).2=5:=by
 have d:kO l a=wD a (a.foldl sQ l):=by unfold kO;rw[aQ b,aQ c]
 rw[d];exact Ta a _ c (vV a l b)
theorem Y0{l:List Nd}(d:Valid l){a:List Pt}(b:gw a=true)(e:(kO l a).2=0):kO (kO l a).1 a=((kO l a).1,0)\/(kO (kO l a).1 a).2=5:=by
 obtain⟨c,f⟩:=VC d b e;rcases abR c b with h|h
 .left;obtain⟨g,i⟩:=VC c b h;have:(kO (kO l a).1 a).1=(kO l a).1:=aeU g.ord c.ord λq=>by
   rw[i,f];exact((Tc q a).comp<|Td q a).agk (Es l q)
  exact IB this h
 .exact .inr h
def Bj(s:aq):List Pt×Int:=match eD (s,()) with
 | some (l,e,_)=>(l,e)
 | none=>([],10)
theorem Ia(s:aq):eD (s,())=some ((Bj s).1,(Bj s).2,())/\PX (Bj s).1:=by
 obtain⟨d,e,a,b,c,_⟩:=abA s;unfold Bj;rw[a];exact⟨rfl,adq b c⟩
def eI(l:List Nd)(s:aq):List Nd×Int:=if(Bj s).2=0 then kO l (Bj s).1 else([],10)
theorem N4{l:List Nd}(a:Valid l)(s:aq):iP (l,s,())=some ((eI l s).1,(eI l s).2,()):=by
 obtain⟨b,c⟩:=Ia s;rw[YU b c a];unfold eI;by_cases h:(Bj s).2=0
 .rw[aQ h,aQ h]
 .rw[aM h,aM h]
theorem xD{l:List Nd}(c:Valid l)(s:aq):((eI l s).2=0/\Valid (eI l s).1/\(eI (eI l s).1 s=((eI l s).1,0)\/(eI (eI l s).1 s).2=5))\/((eI l s).2≠0/\(eI l s).1=[]):=by
 unfold eI;by_cases h:(Bj s).2=0
 .rw[aQ h];simp only[aQ h];rcases abQ c (Bj s).1 with ⟨a,b⟩|⟨a,b,_⟩
  .exact .inl ⟨a,(VC c b a).1,Y0 c b a⟩
  .exact .inr ⟨a,b⟩
 .rw[aM h];exact .inr ⟨by decide,rfl⟩
def qL:List aq->List Nd->List Nd×Int
 | [],t=>(t,0)
 | s::r,t=>if(eI t s).2=0 then qL r (eI t s).1 else([],(eI t s).2)
theorem N5:∀(r:List aq) (s:aq) (t u:List Nd),qL r t=(u,0)->qL (r++[s]) t=if(eI u s).2=0 then((eI u s).1,0) else([],(eI u s).2):=by
 intro r;induction r with
 | nil =>
   intro s t u h;have:t=u:=congrArg Prod.fst h;subst this;rfl
 | cons a r c =>
   intro s t u h;rw[zi];unfold qL at h⊢;by_cases b:(eI t a).2=0
   .rw[aQ b] at h⊢;exact c s _ u h
   .rw[aM b] at h;exact absurd (congrArg Prod.snd h) b
theorem adu(r:List aq)(s:r.length<=1000):oA (r,())=some ((qL r []).1,(qL r []).2,()):=by
 have key:∀(d i:Nat) (t:List Nd),i+d=r.length->Valid t->∃z,Loop (fx (r,())) ((([]:List Nd),(0:Int),t,(i:Int),()),())=some z /\
   (((qL (r.drop i) t).2=0/\z.1=0/\z.2.1.2.2.1=(qL (r.drop i) t).1)\/((qL (r.drop i) t).2≠0/\z.1=1/\z.2.1.1=(qL (r.drop i) t).1/\z.2.1.2.1=(qL (r.drop i) t).2)):=by
  intro d;induction d with
  | zero =>
    intro i t o l;obtain rfl:i=r.length:=by omega
    rw[Ix];have p:fx (r,()) ((([]:List Nd),(0:Int),t,(r.length:Int),()),())=some (.inr (0,(([]:List Nd),(0:Int),t,(r.length:Int),()),())):=by
     unfold fx;dsimp only;rw[ay,ae]
    exact⟨(0,(([]:List Nd),(0:Int),t,(r.length:Int),()),()),by rw[aN,p];rfl,.inl ⟨rfl,rfl,rfl⟩⟩
  | succ d q =>
    intro i t o l;have hx:r[i]?=some r[i]:=fN (by omega);rw[wM<|by omega];unfold qL;have j:fx (r,()) ((([]:List Nd),(0:Int),t,(i:Int),()),())=some (if(eI t r[i]).2=0 then .inl ((([]:List Nd),(0:Int),(eI t r[i]).1,((i+1:Nat):Int),()),()) else .inr (1,(([]:List Nd),(eI t r[i]).2,t,(i:Int),()),())):=by
     unfold fx;dsimp only;rw[ak<|show i<r.length by omega,ab,ao hx,aa,N4 l,aa,aL (by omega)];dsimp only;by_cases f:(eI t r[i]).2=0
     .rw[aJ f,aQ f];rfl
     .rw[aE f,aM f];rfl
    by_cases f:(eI t r[i]).2=0
    .rw[aQ f] at j⊢;have m:Valid (eI t r[i]).1:=by
      rcases xD l r[i] with ⟨_,h,_⟩|⟨h,_⟩
      .exact h
      .exact absurd f h
     obtain⟨z,n,k⟩:=q (i+1) _ (by omega) m;exact⟨z,by rw[aN,j];exact n,k⟩
    .rw[aM f] at j⊢;exact⟨(1,(([]:List Nd),(eI t r[i]).2,t,(i:Int),()),()),by rw[aN,j];rfl,.inr ⟨f,rfl,rfl,rfl⟩⟩
 have g:Valid []:=yp Vs.1;obtain⟨z,n,k⟩:=key r.length 0 [] (by omega) g;rw[wR] at k;unfold oA;rw[show Loop (fx (r,())) ((([]:List Nd),(0:Int),([]:List Nd),(0:Int),()),())=_ from n,aa];rcases k with ⟨a,b,c⟩|⟨a,b,c,e⟩
 .rw[b,c,a];rfl
 .rw[b,c,e];rfl
theorem N6(b:aq)(l:b.length<=100000):tU (b,())=some (decide (b.length=512/\∀x∈b,x=0),()):=by
 have e0:∀y:UInt8,aX (u8 y) 0=decide (y=0):=λy=>BK (n:=0);have h:=abH (f:=iQ (b,())) b (λi=>((false,(i:Int),()),())) (λx=>!decide (x=0)) (λj=>(1,(false,(j:Int),()),())) (0,(false,(b.length:Int),()),()) (λi x a=>by
  have hi:=aD a;unfold iQ;dsimp only;rw[ak hi,ab,ao a,aa,e0,aL (by omega)];cases decide (x=0)<;>rfl) (by
  unfold iQ;dsimp only;rw[ay,ae]) b.length 0 (by omega)
 unfold tU;rcases h with ⟨j,x,_,a,g,_,d⟩|⟨k,d⟩
 .rw[show Loop (iQ (b,())) ((false,(0:Int),()),())=_ from d,aa,ed,ae];have e:x≠0:=by simpa using g
  rw[cJ λq:b.length=512/\∀x∈b,x=0=>e (q.2 x<|dY a)]
 .rw[show Loop (iQ (b,())) ((false,(0:Int),()),())=_ from d,aa,bO,ab];have c:∀x∈b,x=0:=λx a=>by
   obtain⟨i,hi⟩:=bp.1 a;simpa using k i x (nY _) hi
  have:aX (len b) 512=decide (b.length=512/\∀x∈b,x=0):=by
   unfold aX len;apply gi.2;constructor
   .intro h;exact⟨by omega,c⟩
   .intro h;omega
  rw[this]
theorem Y1(b:aq)(o:b.length<=100000):tV (b,())=some (decide (1024<=b.length/\b.length % 512=0/\∀x∈b,x=0),()):=by
 have e0:∀y:UInt8,aX (u8 y) 0=decide (y=0):=λy=>BK (n:=0);have h:=abH (f:=iR (b,())) b (λi=>((false,(i:Int),()),())) (λx=>!decide (x=0)) (λj=>(1,(false,(j:Int),()),())) (0,(false,(b.length:Int),()),()) (λi x a=>by
  have hi:=aD a;unfold iR;dsimp only;rw[ak hi,ab,ao a,aa,e0,aL (by omega)];cases decide (x=0)<;>rfl) (by
  unfold iR;dsimp only;rw[ay,ae]) b.length 0 (by omega)
 unfold tV;dsimp only;by_cases g:1024<=b.length
 case neg =>
  rw[aK<|by rw[bz];omega,aA,ae,aa,ab,cJ λq:1024<=b.length/\b.length % 512=0/\∀x∈b,x=0=>g q.1]
 rw[aB<|by rw[bz];omega,aw,ab,show aX 512 0=false from rfl,ae,show iE (len b) 512=((b.length % 512:Nat):Int) from rfl];by_cases k:b.length % 512=0
 case neg =>
  rw[aE<|by omega,aw,aa,ab,cJ λq:1024<=b.length/\b.length % 512=0/\∀x∈b,x=0=>k q.2.1]
 rw[aJ<|by omega,aA,aa,ae];rcases h with ⟨j,x,_,a,l,_,d⟩|⟨m,d⟩
 .rw[show Loop (iR (b,())) ((false,(0:Int),()),())=_ from d,aa,ed,ae];have e:x≠0:=by simpa using l
  rw[cJ λq:1024<=b.length/\b.length % 512=0/\∀x∈b,x=0=>e (q.2.2 x<|dY a)]
 .rw[show Loop (iR (b,())) ((false,(0:Int),()),())=_ from d,aa,bO,ab];have c:∀x∈b,x=0:=λx a=>by
   obtain⟨i,hi⟩:=bp.1 a;simpa using m i x (nY _) hi
  rw[dI (⟨g,k,c⟩:1024<=b.length/\b.length % 512=0/\∀x∈b,x=0)]
abbrev PS:=(aq×(List Pt×(Bool×(ai×ai))))×(List Pt×ai)
def ps0(r:aq)(a:List Pt):PS:=((r,([]:List Pt),false,(),()),a,())
theorem N7(r:aq)(c:List Pt)(C:r.length<=8192):∃p g h,bJ ((),rd r (c.length:Int),())=some ((p,g,()),h,()) /\
  ((g=false/\∃b z,h=zX (c.length:Int) b/\dX (ps0 r c)=some (.inr z)/\((z.1=0/\b=true)\/(z.1=1/\z.2.1.2.1=c/\z.2.1.2.2.1=!b))) \/
   (g=true/\∃l,h=rd l ((c.length+1:Nat):Int)/\l.length+512<=r.length/\c.length<64/\dX (ps0 r c)=some (.inl<|ps0 l<|c++[p]))):=by
 by_cases d:r.length<512
 .refine⟨_,_,_,Kd r c.length d,.inl ⟨rfl,true,(0,ps0 r c),rfl,?_,.inl ⟨rfl,rfl⟩⟩⟩;unfold dX ps0;dsimp only;rw[eF<|by rw[bz];omega,ae]
 have m:(r.take 512).length=512:=by rw[fB];omega
 have f:inside (0:Int) (512:Int) (len r)=true:=aR (by decide) (by decide) (by rw[bz];omega);by_cases o:∀x∈r.take 512,x=0
 .refine⟨_,_,_,Fv r c.length (by omega) (by omega) o,.inl ⟨rfl,_,(1,(r,c,decide (1024<=r.length/\r.length % 512=0/\∀x∈r,x=0),(),()),c,()),rfl,?_,.inr ⟨rfl,rfl,by simp⟩⟩⟩;unfold dX ps0;dsimp only;rw[b6<|by rw[bz];omega,ab,f,ab,show sub r 0 (minus 512 0)=r.take 512 from gn r 512,N6 _ (by omega),aa,dI (⟨m,o⟩:(r.take 512).length=512/\∀x∈r.take 512,x=0),ab,Y1 r (by omega),aa]
 have e:=λb=>DY r (c.length:Int) b;obtain⟨x,v,u,w⟩:=WR (r.take 512) m;have t3:=(take_same (r.take 512) m).trans u;have y:(r.drop 512).length=r.length-512:=kx;unfold bJ dX ps0;dsimp only[rd] at e⊢;rw[aA,aw,ab,ae,aB (by rw[bz];omega),ae,f,ab,show sub r 0 (minus 512 0)=r.take 512 from gn r 512];rw[J0 (r.take 512)<|by omega,aa,b6 (a:=512) (b:=len r) (by rw[bz];omega),ab,ab,N6 _ (by omega),aa];dsimp only;rw[cJ (λq:(r.take 512).length=512/\∀x∈r.take 512,x=0=>o q.2),ae,ae,ab,ab,u,t3,aa,aa,aR (i:=512) (j:=len r) (n:=len r) (by decide) (by rw[bz];omega) (re _),ab,show sub r 512 (minus (len r) 512)=r.drop 512 from mD r 512 (by omega)];dsimp only;by_cases s:v=0
 case neg =>
  rw[aE s,aw,ab,e,aa];exact⟨_,_,_,rfl,.inl ⟨rfl,_,_,rfl,rfl,.inr ⟨rfl,rfl,rfl⟩⟩⟩
 rw[aJ s,aA,ae];have t:=w s;obtain⟨A,D⟩:=t.2.2.2.1;obtain⟨k,B⟩:=Zz A;rw[B];by_cases E:8192<k
 .rw[aK (a:=len (r.drop 512))<|by rw[bz];omega,ab,e,aa,aK (a:=8192) (b:=(k:Int)) (by omega)];exact⟨_,_,_,rfl,.inl ⟨rfl,_,_,rfl,rfl,.inr ⟨rfl,rfl,rfl⟩⟩⟩
 have F:=SM k;rw[aB (a:=8192) (b:=(k:Int))<|by omega,show lF ((k:Int),())=_ from SQ k (by omega),aa];dsimp only;rw[show aF .i64 512 ((k+mg k:Nat):Int)=((512+(k+mg k):Nat):Int) from uU (a:=512) (by omega)];by_cases G:(r.drop 512).length<k
 .rw[aK (a:=len (r.drop 512))<|by rw[bz];omega,ab,e,aa,aK (a:=len r) (by rw[bz];omega)];exact⟨_,_,_,rfl,.inl ⟨rfl,_,_,rfl,rfl,.inr ⟨rfl,rfl,rfl⟩⟩⟩
 .rw[aB (a:=len (r.drop 512))<|by rw[bz];omega,ae,SN k (by omega),aa,en (a:=(k:Int)) (by omega) (by omega)];dsimp only;by_cases H:(r.drop 512).length<k+mg k
  .rw[aK (a:=len (r.drop 512))<|by rw[bz];omega,ab,e,aa,aK (a:=len r) (by rw[bz];omega)];exact⟨_,_,_,rfl,.inl ⟨rfl,_,_,rfl,rfl,.inr ⟨rfl,rfl,rfl⟩⟩⟩
  .rw[aB (a:=len (r.drop 512))<|by rw[bz];omega,ae,aB (a:=len r) (by rw[bz];omega)];by_cases I:64<=c.length
   .rw[b6 (b:=(c.length:Int))<|by omega,ab,e,aa,b6 (b:=len c) (by rw[bz];omega)];exact⟨_,_,_,rfl,.inl ⟨rfl,_,_,rfl,rfl,.inr ⟨rfl,rfl,rfl⟩⟩⟩
   .rw[eF (b:=(c.length:Int))<|by omega,ae,aa,en (a:=(k:Int)) (by omega) (by omega),aR (i:=(k:Int)+(mg k:Int)) (by omega) (by rw[bz];omega) (re _),ab,aR (i:=0) (j:=(k:Int)) (by omega) (by omega) (by rw[bz];omega),ab];rw[show sub (r.drop 512) 0 (minus (k:Int) 0)=(r.drop 512).take k from gn _ k,show(k:Int)+(mg k:Int)=((k+mg k:Nat):Int) by omega,mD _ (k+mg k) (by omega),aL (by omega)];rw[eF (b:=len c)<|by rw[bz];omega];have es:sub r 512 (minus ((512+k:Nat):Int) 512)=(r.drop 512).take k:=by
     unfold sub minus;rw[show(((512+k:Nat):Int)-512).toNat=k by omega];rfl
    refine⟨_,_,_,rfl,.inr ⟨rfl,_,rfl,?_,by omega,?_⟩⟩
    .rw[kx];omega
    .rw[show aF .i64 512 ((k:Nat):Int)=((512+k:Nat):Int) from uU (a:=512) (by omega),es];rw[show aj (nt<|aj (nt false) false true) (some false) (some true)=some false from rfl];rw[aa,aw,ab,ae,aR (i:=512) (by decide) (by omega) (by rw[bz];omega),ab,bD (by simp only[dd,eB];omega),ab,aa];dsimp only;rw[show aF .i64 512 ((k+mg k:Nat):Int)=((512+(k+mg k):Nat):Int) from uU (a:=512) (by omega),aR (by omega) (by rw[bz];omega) (re _),ab,mD r (512+(k+mg k)) (by omega),vm];rfl
theorem Y2:∀(m:Nat) (r:aq) (out:List Pt) (p:Pt),r.length<=m->r.length<=8192->out.length<=63 ->
  ∃(c:List Pt) (d:Pt) (b:Int×Bool) (z:Nat×PS),Loop gK (((),(),true,()),p,out,rd r ((out.length+1:Nat):Int),())=some (((),(),false,()),d,c,zX b.1 b.2,()) /\
   Loop dX (ps0 r<|out++[p])=some z/\((z.1=0/\b.2=true)\/(z.1=1/\z.2.1.2.1=c/\z.2.1.2.2.1=!b.2)):=by
 intro m;induction m using Nat.strongRecOn with
 | _ m h =>
   intro r out p x i j;obtain⟨e,k,l,f,n⟩:=N7 r (out++[p]) i;have hlen:((out++[p]).length:Int)=((out.length+1:Nat):Int):=by simp
   rw[hlen] at f;have a:=NQ p out (rd r ((out.length+1:Nat):Int)) (by omega) f;rcases n with ⟨rfl,b,z,rfl,q,s⟩|⟨rfl,g,rfl,y,A,t⟩
   .refine⟨out++[p],e,(((out++[p]).length:Int),b),z,?_,by rw[aN,q];rfl,s⟩;rw[aN,a];show Loop _ _=_
    rw[aN,uo];rfl
   .obtain⟨o,d,b,z,u,v,w⟩:=h g.length (by omega) g (out++[p]) e (cg _) (by omega) (by omega);exact⟨o,d,b,z,by rw[aN,a];exact u,by rw[aN,t];exact v,w⟩
theorem N8(s:aq):kJ (s,())=eD (s,()):=by
 by_cases f:8192<s.length
 .rw[NR s f];unfold kJ se;dsimp only;rw[aK<|by rw[bz];omega,ab,aa];rfl
 obtain⟨p,v,w,g,h⟩:=N7 s [] (by omega);have fin:∀(b:Int×Bool) (o:List Pt),(af (gQ ((),zX b.1 b.2,())) λa=>aj a.1.1 (some (([]:List Pt),(10:Int),())) (some (o,(0:Int),())))=some (if b.2=true then(([]:List Pt),(10:Int),()) else(o,(0:Int),())):=λb o=>by
  obtain⟨x,i⟩:=b;cases i<;>rfl
 have parts:∀(o:List Pt) (b:Bool) (z:Nat×PS),Loop dX (ps0 s [])=some z->((z.1=0/\b=true)\/(z.1=1/\z.2.1.2.1=o/\z.2.1.2.2.1=!b))->kJ (s,())=some (if b=true then(([]:List Pt),(10:Int),()) else(o,(0:Int),())):=λo b z j k=>by
  unfold kJ se;dsimp only;rw[aB<|by rw[bz];omega,ae,show Loop dX ((s,([]:List Pt),false,(),()),([]:List Pt),())=_ from j,aa];rcases k with ⟨c,d⟩|⟨c,d,l⟩
  .rw[c,bO,ab,aa,d];rfl
  .rw[c,ed,ae,aa,d,l];cases b<;>rfl
 have e0:(([]:List Pt).length:Int)=0:=rfl;unfold eD;dsimp only;rw[aB<|by rw[bz];omega,show bJ ((),(true,s,(0:Int),false,false,()),())=_ from g,aa];dsimp only;rcases h with ⟨rfl,b,z,rfl,m,n⟩|⟨rfl,e,rfl,y,A,q⟩
 .rw[aN,uo];show _=(af (gQ ((),zX _ _,())) λa=>aj a.1.1 (some (([]:List Pt),(10:Int),())) (some (([]:List Pt),(0:Int),())))
  rw[fin (_,b),parts [] b z (by rw[aN,m];rfl) n]
 .obtain⟨o,B,b,z,r,t,u⟩:=Y2 e.length e [] p (cg _) (by omega) (by simp);rw[show Loop gK (((),(),true,()),p,([]:List Pt),rd e ((([]:List Pt).length+1:Nat):Int),())=_ from r,aa];dsimp only;rw[fin b o];exact parts o b.2 z (by rw[aN,q];exact t) u
theorem Ah(s:aq):oz (s,())=some (if(Bj s).2=0/\gw (Bj s).1=true then 0 else 10,()):=by
 obtain⟨d,e⟩:=Ia s;unfold oz;dsimp only;rw[N8 s,d,aa];dsimp only;rw[Af _ e,aa];dsimp only;by_cases a:(Bj s).2=0
 .rw[aJ a];by_cases c:gw (Bj s).1=true
  .rw[c,aQ ⟨a,rfl⟩];rfl
  .have b:gw (Bj s).1=false:=by simpa using c
   rw[b,aM λq:(Bj s).2=0/\false=true=>Bool.noConfusion q.2];rfl
 .rw[aE a,aM λq:(Bj s).2=0/\gw (Bj s).1=true=>a q.1];rfl
theorem Te{l:List Nd}(b:Valid l){a:List Pt}(c:¬gw a=true):kO l a=([],10):=by unfold kO;rw[aQ b,aM c]
end Go.Ge
