import Derived.Test.YtcebnmppipejfaaGreatDoorPlF
set_option linter.unusedSectionVars false
set_option linter.unusedVariables false
set_option linter.unusedSimpArgs false
set_option linter.defProp false
noncomputable section
open Option renaming some->aa,none->af
namespace Go.Ge
variable [Lp]
def vI b (c:b.length=512) (a e:Nat) (h:a<=e) (d:e<=512):inside a e (len b)=true/\sub b a (minus e a)=gE b a (e-a):=by refine⟨jf h ai,?_⟩;unfold sub minus gE;grind
def ajO p q r (H c:Hd) (d:p=true->q=true->r=true->c=H) (e:c.1.length<=1048576) (f:c.2.2.2.2.2.2.2.1.length<=1048576) :
  ae (ao (nt<|ao (nt<|ao (nt<|nt p) (nt q) true) (nt r) true) (ae (v7 (c,256,())) λa=>aa (nt a.1))<|some true) (λa=>ao a (aa (agl,(2:Int),())) (aa (c,0,()))) =ae (ao (nt<|ao (nt<|ao (nt<|nt p) (nt q) true) (nt r) true) (ae (ss (H,256,())) λb=>aa (nt b.1))<|some true) (λb=>ao b (aa (agl,2,())) (aa (H,0,()))):=by
 rw[alP c 256 e f,ZS,ab,ab];cases p with|false=>rfl|true =>cases q with|false=>rfl|true =>cases r with|false=>rfl|true=>rw[d rfl rfl rfl]
def take_same(b:bj)(a:b.length=512):pI (b,())=fm (b,()):=by
 obtain⟨O,o⟩:=eX (gE b 148 8) (by have:=cJ b 148 8;omega);have r6:=sE (gE b 148 8) (by have:=cJ b 148 8;omega);obtain⟨r,s⟩:=vI b a 257 265 ai ai;obtain⟨G,H⟩:=vI b a 148 156 ai ai;have p:aR (len b) 512=true:=ay (by simp only[len];omega);by_cases i:gE b 257 8=qM;case neg =>rw[H6 b a i];unfold pI;rw[p,aM,aE,aj,show inside (257:Int) (265:Int) (len b)=true from r,aj,show sub b (257:Int) (minus (265:Int) (257:Int))=gE b 257 8 from s,show([117,115,116,97,114,0,48,48]:bj)=qM from rfl,show bA (gE b 257 8) qM=false from cj i,aE,ab,aM,ag,ab,aj];rfl
 by_cases q:O=(BM b 512:Int);case neg =>rw[ZZ b a o q];unfold pI;rw[p,aM,aE,aj,show inside (257:Int) (265:Int) (len b)=true from r,aj,show sub b (257:Int) (minus (265:Int) (257:Int))=gE b 257 8 from s,show([117,115,116,97,114,0,48,48]:bj)=qM from rfl,i,show bA qM qM=true from yC _,aM,ab,aE,aj,show inside (148:Int) (156:Int) (len b)=true from G,aj,show sub b (148:Int) (minus (156:Int) (148:Int))=gE b 148 8 from H,r6,o,ab,JS b ai,ab,a,ax q,aE,ab,aj];rfl
 obtain⟨n1,I⟩:=eX (gE b 100 8) (by have:=cJ b 100 8;omega);obtain⟨n2,J⟩:=eX (gE b 108 8) (by have:=cJ b 108 8;omega);obtain⟨n3,K⟩:=eX (gE b 116 8) (by have:=cJ b 116 8;omega);obtain⟨n4,L⟩:=eX (gE b 124 12) (by have:=cJ b 124 12;omega);obtain⟨n5,M⟩:=eX (gE b 136 12) (by have:=cJ b 136 12;omega);have P:=(sE (gE b 100 8) (by have:=cJ b 100 8;omega)).trans I;have r2:=(sE (gE b 108 8) (by have:=cJ b 108 8;omega)).trans J;have Q:=(sE (gE b 116 8) (by have:=cJ b 116 8;omega)).trans K;have R:=(sE (gE b 124 12) (by have:=cJ b 124 12;omega)).trans L;have S:=(sE (gE b 136 12) (by have:=cJ b 136 12;omega)).trans M;have m0:=cJ b 0 100;have m8:=cJ b 157 100;have m10:=cJ b 345 155;obtain⟨h,T,t,u,v,U⟩:=Ly (gE b 0 100) ai;obtain⟨V,W,w,y,z,X⟩:=Ly (gE b 157 100) ai;obtain⟨d,A,j,k,l,N⟩:=Ly (gE b 345 155) ai;have l0:=qd da (gE b 0 100);have l10:=qd da (gE b 345 155);obtain⟨Y,Z⟩:=vI b a 0 100 ai ai;obtain⟨i8,s8⟩:=vI b a 157 257 ai ai;obtain⟨B,C⟩:=vI b a 345 500 ai ai;obtain⟨i1,s1⟩:=vI b a 100 108 ai ai;obtain⟨i2,s2⟩:=vI b a 108 116 ai ai;obtain⟨i3,s3⟩:=vI b a 116 124 ai ai;obtain⟨i4,s4⟩:=vI b a 124 136 ai ai;obtain⟨i5,s5⟩:=vI b a 136 148 ai ai;obtain⟨c,hk,f7⟩:∃c,b[156]?=aa c/\gE b 156 1=[c]:=by refine⟨b[156],gQ ai,?_⟩;unfold gE;rw[zm ai];rfl
 unfold fm;rw[p,aM,aE,aj,o9 b a,ab,ab,show([117,115,116,97,114,0,48,48])=qM from rfl,i,show bA qM qM=true from yC _,aM,aE,aj,o6 b a,ab,o,ab,Ls b ai,ab,a,ay q,aM,ab,ag,o0 b a,ab,u,ab,o8 b a,ab,y,ab,o10 b a,ab,k,ab];have m:(ao (nt<|bA (de da<|gE b 345 155) []) (ao (fits<|plus (len<|de da<|gE b 345 155)<|len ([47]:bj)) (ao (fits<|plus (len<|app (de da<|gE b 345 155) [47])<|len<|de da<|gE b 0 100)
   (aa ((app (app (de da<|gE b 345 155) [47])<|de da<|gE b 0 100,()),())) af) af)<|some ((de da<|gE b 0 100,()),()))=aa ((if de da (gE b 345 155)=[] then de da (gE b 0 100) else de da (gE b 345 155)++[47]++de da (gE b 0 100),()),()):=by
  by_cases e:de da (gE b 345 155)=[]
  .rw[aN e,cc e,aM,ag]
  .rw[aK e,bg e,aE,aj,dN (by simp only[plus,len,iG,qp];omega),aj,dN (by simp only[plus,len,app,gR,iG,qp];omega),aj];rfl
 rw[m,ab,o1 b a,ab,I,ab,o2 b a,ab,J,ab,o3 b a,ab,K,ab,o4 b a,ab,L,ab,o5 b a,ab,M,ab,o7 b a,ab,f7];unfold pI;rw[p,aM,aE,aj,show inside 257 265 _=true from r,aj,show sub b 257 (minus 265 257)=gE b 257 8 from s,show([117,115,116,97,114,0,48,48])=qM from rfl,i,show bA qM qM=true from yC _,aM,ab,aE,aj,show inside 148 156 _=true from G,aj,show sub b 148 (minus 156 148)=gE b 148 8 from H,r6,o,ab,JS b ai,ab,a,ay q,ab,show inside 0 100 _=true from Y,show sub b 0 (minus 100 0)=gE b 0 100 from Z,t,ab,show inside 157 257 _=true from i8,show sub b 157 (minus 257 157)=gE b 157 100 from s8,w,ab,show inside 345 500 _=true from B,show sub b 345 (minus 500 345)=gE b 345 155 from C,j,ab,show inside 100 108 _=true from i1,show sub b 100 (minus 108 100)=gE b 100 8 from s1,P,ab,show inside 108 116 _=true from i2,show sub b 108 (minus 116 108)=gE b 108 8 from s2,r2,ab,show inside 116 124 _=true from i3,show sub b 116 (minus 124 116)=gE b 116 8 from s3,Q,ab,show inside 124 136 _=true from i4,show sub b 124 (minus 136 124)=gE b 124 12 from s4,R,ab,show inside 136 148 _=true from i5,show sub b 136 (minus 148 136)=gE b 136 12 from s5,S,ab];have f:∀(x:Int×Int×Int×Int×Int×Int×bj×al),(ao (nt<|bA d []) (ao (fits<|plus (len d)<|len ([47]:bj)) (ao (fits<|plus (len<|app d [47])<|len h)
   (aa ((),(app (app d [47]) h,x),())) af) af)<|some ((),_))=aa ((),(if d=[] then h else d++[47]++h,x),()):=λx=>by
  by_cases e:d=[]
  .rw[aN e,cc e,aM,ag]
  .rw[aK e,bg e,dN (by simp only[plus,len,iG,qp];omega),aj,dN (by simp only[plus,len,app,gR,iG,qp];omega)];rfl
 rw[f,ab,show idx b 156=aa c from au hk,ab];have D:bA [c] [48]=decide (c=48):=fk.2 aW;have c0:bA [c] [0]=decide (c=0):=fk.2 aW;have c53:bA [c] [53]=decide (c=53):=fk.2 aW;have E:bA [c] [50]=decide (c=50):=fk.2 aW;have d48:aR _ 48=decide (c=48):=GU (n:=48);have d0:aR _ 0=decide (c=0):=GU (n:=0);have d53:aR _ 53=decide (c=53):=GU (n:=53);have d50:aR _ 50=decide (c=50):=GU (n:=50);rw[D,c0,c53,E,d48,d0,d53,d50];have g:(if d=[] then h else d++[47]++h).length<=1048576:=by
  grind
 refine ajO T W A _ _ (λa0 a8 F=>?_) ?_ ?_
 .rw[v a0,z a8,l F];all_goals cases decide _<;>cases decide (c=0)<;>cases decide (c=53)<;>cases decide (c=50)
 .cases decide (c=48)<;>cases decide (c=0)<;>cases decide (c=53)<;>cases decide (c=50)<;>exact g
 .have h8:V.length<=1048576:=ai;have hn:([]:bj).length<=1048576:=aW;cases decide (c=48)<;>cases decide (c=0)<;>cases decide (c=53)<;>cases decide (c=50)<;>first|exact hn|exact h8
abbrev Stp:=((bj×al)⊕((bj×al)⊕(al⊕((Nd×al)⊕al))))
def aeP(p:Pt)(w:Int×List bj×Bool):Stp :=if w.1=1 then .inl (aX w.2.1,()) else if w.1=2 then .inr (.inl (aX w.2.1,())) else if w.2.1=[] then .inr (.inr<|.inl ()) else .inr (.inr<|.inr<|.inl (mz p<|aX w.2.1,()))
def Aa(p:Pt):Stp:=aeP p (bW p)
def Rt p A:(ao (ao (aR p.1.2.1 1) (bA p.2.1 []) false) A<|some false)=if wT p=true then A else aa false:=by
 unfold wT aR bA;by_cases a:p.1.2.1=1
 {by_cases b:p.2.1=[];{simp[ ao]};simp[ ao]};simp[ ao]
def agw ns:yZ ns≠[]:=by unfold yZ;simp
def ajP p (k:SmP p):∃s,tu (p,())=aa (s,(bW p).2.2,())/\((bW p).2.2=true->s=Aa p):=by unfold tu;rw[U4 p.1.1 (by have:=k.1;omega),ab];unfold Aa;cases c:oh p.1.1 with|false =>(have:lM p.1.1=([],2):=by unfold lM;rw[c];rfl);(have f:bW p=(0,[],false):=by unfold bW;rw[c,aK aW]);rw[this,f];exact⟨_,rfl,λh=>by cases h⟩|true =>(have l:lM p.1.1=(aX<|names p.1.1,0):=by unfold lM;rw[c];rfl);have d:=EY c;have q:=(sD c).2.2;have o:=H9 c;rw[l];dsimp only;rw[ r9 _ ai,ab,z8 d.1];dsimp only;rw[ZV,ab];rcases Rq _ with b|b|b|b;{(have f:bW p=(0,names p.1.1,(decide (names p.1.1=[])&&decide (p.1.2.1=2))||(fZ (mz p<|aX<|names p.1.1)&&wo (names p.1.1))):=by unfold bW;rw[c,aN rfl];dsimp only;rw[b,aK aI,aK aI,aN rfl]);rw[f,b];unfold aeP;have g:=uY d.1;by_cases a:names p.1.1=[];{have i:=g.2 a;rw[cT a,cc i,aN a];by_cases j:p.1.2.1=2;{rw[ay j,cT j];exact⟨_,rfl,λ_=>rfl⟩};(rw[ax j,cj j];have:=ac6 (n:=mz p _) i;rw[show ez ((aX<|names p.1.1,_),())=_ from this];have m:wo (names p.1.1)=false:=by unfold wo;rw[a];rfl);rw[m];simp only[ahW];exact⟨_,rfl,λh=>by cases h⟩};have i:=λe=>a (g.1 e);rw[cj a,bg i,aK a];have r:Sm (mz p<|aX<|names p.1.1):=⟨by show(aX _).length<=200;omega,k.2.1,k.2.2⟩;have:=Ro d a rfl r;rw[agv a rfl] at this;rw[show ez ((aX _,_),())=_ from this];exact⟨_,rfl,λ_=>rfl⟩};{(obtain⟨t,u⟩:=Lw c b;have f:bW p=(1,yZ<|names p.1.1,wT p&&wo (yZ<|names p.1.1)):=by unfold bW;rw[c,aN rfl];dsimp only;rw[b,aN rfl]);rw[f,b,Ln _ _ (by have:=(F3 d).2.2;omega) (by rw[(Rp b).1,qo];omega),ab,t,Vh u,Rt,cj (agw _)];refine⟨.inl _,?_,λ_=>rfl⟩;cases wT p<;>rfl};{(have hd:=F3 d;have f:bW p=(2,(names p.1.1).dropLast,wT p&&(decide ((names p.1.1).dropLast=[])||wo (names p.1.1).dropLast)):=by unfold bW;rw[c,aN rfl];dsimp only;rw[b,aK aI,aN rfl]);rw[f,b,Vh hd,Rt];refine⟨.inr _,?_,λ_=>rfl⟩;cases wT p<;>rfl};(have f:bW p=(0,[],false):=by unfold bW;rw[c,aN rfl];dsimp only;rw[b,aK aI,aK aI,aK aI]);rw[f,b];exact⟨_,rfl,λh=>by cases h⟩
def hW(l:List Pt):Bool:=l.all λp=>(bW p).2.2
def Xf(l:List Pt):Prop:=l.length<=10000/\∀p∈l,SmP p
def ajQ{l}:(∀(i:Nat) x,l[i]?=aa x->(!(bW x).2.2)=false)->hW l=true:=λh=>by unfold hW;rw[wH];intro x a;obtain⟨i,b⟩:=bp.1 a;have:=h i x b;simpa using this
def aeQ{l}{i:Nat}{x}(a:l[i]?=aa x)(h:(!(bW x).2.2)=true):hW l=false:=by unfold hW;rw[List.all_eq_false];exact⟨x,kG a,by simpa using h⟩
def Vi l (c:Xf l):mP (l,())=aa (if hW l=true then(l.map Aa,true,()) else([],false,())):=by
 unfold mP;have n:=c.1;rcases eR (f:=mg (l,())) l (λi=>((([]),false,(),i,()),(l.take i.toNat).map Aa,())) (λ_ x=>!(bW x).2.2) _ _ ai (λi x a d b=>by
  obtain⟨s,e,g⟩:=ajP x (c.2 x<|kG a);unfold mg;dsimp only;rw[aq d,au a,ab,e,ab,b,An,An];cases j:(bW x).2.2 with|false=>rfl|true =>(rw[ aP dW,g j];have:(l.take<|i+1).map Aa=(l.take i).map Aa++[Aa x]:=by rw[yn,a,Po];rfl);rw[this];rfl) (by
  unfold mg;rw[aw,ag,An,Ao]) with ⟨i,x,a,k,_,h⟩|⟨m,h⟩
 {rw[show Loop _ ((([]),_),([]),())=_ from h,aeQ a k];rfl};rw[show Loop _ ((([]),_),([]),())=_ from h,ajQ m];rfl
def E2 l (c:Xf l):qB (l,())=aa (hW l,()):=by
 unfold qB;have j:=c.1;rcases eR (f:=pG (l,())) l (λi=>((false,i,()),())) (λ_ x=>!(bW x).2.2) _ _ ai (λi x b d a=>by
  unfold pG;dsimp only;rw[aq d,au b,ab,EZ x (c.2 x<|kG b),a];cases (bW x).2.2<;>rfl) (by
  unfold pG;rw[aw,ag]) with ⟨i,x,b,e,_,h⟩|⟨g,h⟩
 {rw[h,aeQ b e];rfl};rw[h,ajQ g];rfl
def Vj{l:List Nd}{g:Nd->Bool}{i x}(b:l[i]?=aa x)(c:g x=true)(d:∀j y,j<i->l[j]?=aa y->g y=false):l.take i=(l.take<|i+1).filter (λx=>!g x):=by
 rw[yn];have e:(l.take i).filter (λx=>!g x)=l.take i:=Hp.2 λy a=>by obtain⟨j,f⟩:=bp.1 a;grind
 grind
def agx l p (a:xk l) (c:p.length<=4096):(∃i x,l[i]?=aa x/\gone p x=true/\(∀(j:Nat) y,j<i->l[j]?=aa y->gone p y=false)/\Loop (lv (l,p,())) ((0,0,()),(),p,())=aa (1,((i:Int),(i:Int),()),(),p,())) \/  ((∀(i:Nat) x,l[i]?=aa x->gone p x=false)/\Loop (lv (l,p,())) ((0,0,()),(),p,())=aa (0,(0,(l.length:Int),()),(),p,())) :=eR l (λi=>((0,i,()),_)) _ _ _ (by have:=a.1;omega) (λi x b d e=>by unfold lv;dsimp only;rw[aq d,aO ai ep,au b,ab,BF _ _ (by have:=(a.at b).1;omega) c,tZ,e];unfold gone;cases decide (x.1=p)<;>cases ek _ _<;>rfl) (by unfold lv;rw[aw,ag])
def agy l p (d:xk l) (g:p.length<=4096) (i:Nat) x (hx:l[i]?=aa x) (h:gone p x=true) (a:∀j y,j<i->l[j]?=aa y->gone p y=false) :
  ∃(w:Nat) (L:List Nd),Loop (lz) ((i,aC IntKind.i64 i 1,(),()),(),p,l,())=aa (((w:Int),(l.length:Int),(),()),(),p,L,())/\L.length=l.length/\w<=l.length/\L.take w=qN l p:=by
 have hi:=aA hx;have s:=d.1;obtain⟨w,L,k,e,m,n⟩:=JW (f:=lz) l _ (λw j L=>((w,j,_),(),p,L,())) (λw L=>((w,L.length,_),(),p,L,())) ai (λw j L x hx b t o q a=>by
  unfold lz;dsimp only;obtain⟨z,r⟩:∃z,L[w]?=aa z:=⟨_,gQ ai⟩;have c:ao (nt<|bA x.1 p) (ae (dv (x.1,p,())) λy=>aa y.1) (aa true)=aa (gone p x):=by rw[BF _ _ (by have:=(d.at hx).1;omega) g,tZ];unfold gone;cases decide (x.1=p)<;>rfl
  rw[aq o,aO ai ep,aj,au b,ab,c,ab,a];cases gone p x with|true=>rfl|false =>rw[ aO ai ep,au r,q];rfl) (λw L=>by
  unfold lz;rw[aw];rfl) l.length i _ l ai ai ai rfl (Vj hx h a) rfl
 refine⟨w,L,?_,e,m,n⟩;rw[aJ ai,k,e]
def ac7 l p (a:xk l) (c:p.length<=4096) (hv:Valid l):vq (l,p,())=aa (qN l p,()):=by
 obtain⟨e,f,g⟩:=my l a;obtain rfl:=g.2 hv;unfold vq;dsimp only;rw[f,ab,show nt _=false by rfl,ag,ej (by have:=a.1;omega),aj];rcases agx l p a c with ⟨i,x,b,k,d,h⟩|⟨d,h⟩
 .obtain⟨w,L,m,q,r,n⟩:=agy l p a c i x b k d;rw[h,ab,js,ag,show aR i (-1)=false by exact cj ai,ag,m,ab];dsimp only;rw[aV ai ep<|sK _,aj,JX L w ai,aV (sK _) ai ai,aj,ET L w ai,n]
 have o:qN l p=l:=Hp.2 λx b=>by obtain⟨j,s⟩:=bp.1 b;grind
 rw[h,ab,o,cu,aj,show aR (-1) (-1)=true by rfl,aj]
def Ru(p:bj)(x:Nd):Bool:=ek (parts x.1) (parts p)
def agz l p (a:xk l) (c:p.length<=4096):(∃i x,l[i]?=aa x/\Ru p x=true/\(∀(j:Nat) y,j<i->l[j]?=aa y->Ru p y=false)/\Loop (mK (l,p,())) ((0,0,()),(),p,())=aa (1,((i:Int),(i:Int),()),(),p,())) \/  ((∀(i:Nat) x,l[i]?=aa x->Ru p x=false)/\Loop (mK (l,p,())) ((0,0,()),(),p,())=aa (0,(0,(l.length:Int),()),(),p,())) :=eR l (λi=>((0,i,()),_)) _ _ _ (by have:=a.1;omega) (λi x b d e=>by unfold mK;dsimp only;rw[aq d,aO ai ep,au b,ab,BF _ _ (by have:=(a.at b).1;omega) c,e];unfold Ru;cases ek _ _<;>rfl) (by unfold mK;rw[aw,ag])
def agA l p (c:xk l) (e:p.length<=4096) (i:Nat) x (hx:l[i]?=aa x) (g:Ru p x=true) (a:∀j y,j<i->l[j]?=aa y->Ru p y=false) :
  ∃(w:Nat) (L:List Nd),Loop (mL) ((i,aC IntKind.i64 i 1,(),()),(),p,l,())=aa (((w:Int),(l.length:Int),(),()),(),p,L,())/\L.length=l.length/\w<=l.length/\L.take w=l.filter (λx=>!Ru p x):=by
 have hi:=aA hx;have r:=c.1;obtain⟨w,L,h,d,k,m⟩:=JW (f:=mL) l _ (λw j L=>((w,j,_),(),p,L,())) (λw L=>((w,L.length,_),(),p,L,())) ai (λw j L x hx b s n o a=>by
  unfold mL;dsimp only;obtain⟨z,q⟩:∃z,L[w]?=aa z:=⟨_,gQ ai⟩;rw[aq n,aO ai ep,aj,au b,ab,BF _ _ (by have:=(c.at hx).1;omega) e,ab,a];unfold Ru;cases ek _ _ with|true=>rfl|false =>rw[ aO ai ep,au q,o];rfl) (λw L=>by
  unfold mL;rw[aw];rfl) l.length i _ l ai ai ai rfl (Vj hx g a) rfl
 refine⟨w,L,?_,d,k,m⟩;rw[aJ ai,h,d]
def Rv l p:kb l p false=l.filter (λx=>!Ru p x):=by unfold kb Ru;grind
def agB l p (a:xk l) (c:p.length<=4096) (hv:Valid l):xE (l,p,())=aa (kb l p false,()):=by
 obtain⟨e,f,g⟩:=my l a;obtain rfl:=g.2 hv;rw[Rv];unfold xE;dsimp only;rw[f,ab,show nt _=false by rfl,ag,ej (by have:=a.1;omega),aj];rcases agz l p a c with ⟨i,x,b,k,d,h⟩|⟨d,h⟩
 .obtain⟨w,L,m,q,r,n⟩:=agA l p a c i x b k d;rw[h,ab,js,ag,show aR i (-1)=false by exact cj ai,ag,m,ab];dsimp only;rw[aV ai ep<|sK _,aj,JX L w ai,aV (sK _) ai ai,aj,ET L w ai,n]
 have o:l.filter (λx=>!Ru p x)=l:=Hp.2 λx b=>by obtain⟨j,s⟩:=bp.1 b;grind
 rw[h,ab,o,cu,aj,show aR (-1) (-1)=true by rfl,aj]
def E3 l p (c:xk l) (hv:Valid l):pE (l,p,())=aa (findF l p):=by
 obtain⟨e,d,g⟩:=pb l c;obtain rfl:=g.2 hv;unfold pE;rcases ES l p c with ⟨i,x,f,a,h⟩|⟨b,h⟩
 {rw[h,ab,d, au f,CP hv.ord (kG f) a];rfl};rw[h,d,H7 b];rfl
def ac8{n}(h:fZ n=true):n.1.length<=92/\n.2.2.2.2.1.length<=100/\n.2.2.2.1.length<=8192:=by
 unfold fZ at h;simp at h;have b:=h.1.1.1;have a:=h.2;unfold yV at b;simp at b;refine⟨b.1.1.2,?_⟩;unfold Vc at a;split at a
 {have:=gb a;exact⟨by rw[this.1];simp,this.2⟩};split at a;{have:=gb a;exact⟨by rw[this.1];simp,by rw[this.2];simp⟩};split at a;{have:=gb a;exact⟨this.2.2.1,by rw[this.1];simp⟩};cases a
def fG{l}(h:Valid l):xk l:=⟨by have:=h.few;omega,λx a=>by have:=ac8 (h.may x a);exact⟨ai,ai,ai⟩⟩
def aag{l}(h:Valid l) p:Valid (qN l p):=by
 refine⟨gS (X6 _ _) h.few,h.ord.filter _,λx d=>h.may x (B8.1 d).1,λx d=>?_⟩;obtain⟨f,b⟩:=B8.1 d;by_cases c:(bt x.1).1=[]
 {exact .inl c};rcases h.up x f with g|⟨y,i,e,k⟩;{exact absurd g c};refine .inr ⟨y,B8.2 ⟨i,?_⟩,e,k⟩;cases a:gone p y with|false=>rfl|true =>(have:gone p x=true:=by unfold gone at a⊢;rw[Iw] at a⊢;rcases a with a|a;{right;rw[<-gb a,e];exact H8 c};exact .inr (Rk c e a));rw[this] at b;cases b
def Rw{l}(h:Valid l) p:Valid (kb l p false):=by
 refine⟨gS (X6 _ _) h.few,h.ord.filter _,λx b=>h.may x (B8.1 b).1,λx b=>?_⟩;obtain⟨c,a⟩:=B8.1 b;by_cases d:(bt x.1).1=[]
 {exact .inl d};rcases h.up x c with f|⟨y,g,e,k⟩;{exact absurd f d};refine .inr ⟨y,B8.2 ⟨g,?_⟩,e,k⟩;cases i:ek _ _ with|false=>rfl|true =>rw[Rk d e i] at a;cases a
def Xg l p:kb l p true=qN l p:=by unfold kb qN gone;congr 1;funext x;cases decide (x.1=p)<;>cases ek _ _<;>rfl
def y3 p:MK (bW p).2.1:=by
 have a:MK []:=⟨λx c=>(by cases c),aW,(by simp[aX])⟩;unfold bW;split
 {rename_i b;dsimp only;split;{rename_i d;exact(Lw b d).2};split;{exact F3 (EY b)};split;{exact EY b};exact a};exact a
def y4(t:List Nd)(p:Pt):List Nd:=if(bW p).1=1 then qN t (aX (bW p).2.1) else if(bW p).1=2 then kb t (aX (bW p).2.1) false else t
def y5{t}(h:Valid t) p:Valid (y4 t p):=by
 unfold y4;split
 {exact aag h _};split;{exact Rw h _};exact h
def TH{t}(h:Valid t) p:xG (Aa p,t,())=aa (y4 t p,()):=by
 have a:=y3 p;have d:=fG h;unfold Aa aeP y4;by_cases b:(bW p).1=1
 {rw[aN b,aN b];show jr _=_;unfold jr;dsimp only;rw[ac7 t _ d (by have:=a.2.2;omega) h,ab]};rw[aK b,aK b];by_cases c:(bW p).1=2;{rw[aN c,aN c];show gL _=_;unfold gL;dsimp only;rw[agB t _ d (by have:=a.2.2;omega) h,ab]};rw[aK c,aK c];by_cases e:(bW p).2.1=[];{rw[aN e];rfl};rw[aK e];rfl
def Rx{t}(h:Valid t) p (a:p.length<=4096):tq (t,p,())=aa (qN t p,()):=by obtain⟨b,c,d⟩:=pb t (fG h);unfold tq;rw[c,ab,d.2 h,aM,ag,EU t p true (fG h) a,ab,Xg]
def TI{t}(h:Valid t) p (a:p.length<=4096):vr (t,p,())=aa (kb t p false,()):=by obtain⟨b,c,d⟩:=pb t (fG h);unfold vr;rw[c,ab,d.2 h,aM,ag,EU t p false (fG h) a,ab]
def Vk{a c:Type}(f:c->a->c)(l:List a) b {i x} (hx:l[i]?=aa x):(l.take<|i+1).foldl f b=f ((l.take i).foldl f b) x:=by rw[yn,hx,List.foldl_append];rfl
def ac9(l:List Pt) ok t0 (e:Valid t0) (j:l.length<=10000):Loop (lA (l.map Aa,ok,())) ((t0,0,()),())=aa ((l.foldl y4 t0,(l.length:Int),()),())/\Valid (l.foldl y4 t0):=by
 obtain⟨t,b,g,_⟩:=sz (f:=lA (l.map Aa,_)) l (λt i=>((t,i,()),())) _ _ (λt i=>t=(l.take i).foldl y4 t0/\Valid t) ai (λt i x d h a c=>by
  constructor;{unfold lA;rw[aq<|by rw[qg];exact h,au (by rw[B7,d];rfl),ab,a,show xG _=_ from TH c.2 x];rfl}
  .exact⟨by rw[Vk y4 l t0 d,<-c.1],y5 c.2 x⟩) (λt _=>by
  unfold lA;rw[show ba l.length _=false by rw[<-qg];exact aw];rfl) t0 ⟨rfl,e⟩
 rw[Ao] at b;rw[<-b.1];exact⟨g,b.2⟩
def TJ a l (j:Xf l) (m:Valid a):Loop (oR (a,l,())) ((a,0,()),())=aa ((l.foldl y4 a,(l.length:Int),()),()):=by
 have n:=j.1;obtain⟨t,k,b,_⟩:=sz (f:=oR (a,l,())) l (λt i=>((t,i,()),())) (λt _ x=>y4 t x) _ (λt i=>t=(l.take i).foldl y4 a/\Valid t) ai (λt i x h o c e=>by
  have d:=y3 x;constructor;{unfold oR;rw[aq o,au h,ab,EZ x (j.2 x<|kG h),ab,c];dsimp only;rw[Rx e.2 _ (by have:=d.2.2;omega),ab,TI e.2 _ (by have:=d.2.2;omega)];unfold y4;by_cases b:(bW x).1=1;{rw[ay b,aN b];rfl};rw[ax b,aK b];by_cases g:(bW x).1=2;{rw[ay g,aN g];rfl};rw[ax g,aK g];rfl}
  .exact⟨by rw[Vk y4 l a h,<-e.1],y5 e.2 x⟩) (λt _=>by
  unfold oR;rw[aw];rfl) a ⟨rfl,m⟩
 rw[Ao] at k;rw[<-k.1];exact b
def y6{t n}(h:(bN t n).2=0):Valid (bN t n).1:=by
 rcases Rl t n with ⟨_,a⟩|⟨b,a,c,r,d,e,f⟩
 {grind};rw[f];exact Vg b a c d e
def ji:List bj->bj->List Nd->List Nd×Int|[],_,t=>(t,0)|nm::r,at',t =>if(findF t<|sC at' nm).2.1=true/\(findF t<|sC at' nm).1.2.1=2 then ji r (sC at' nm) t else if(bN t<|gG 493<|sC at' nm).2=0 then ji r (sC at' nm) (bN t<|gG 493<|sC at' nm).1 else([],(bN t<|gG 493<|sC at' nm).2)
def E4:∀r a t,Valid t->(ji r a t).2=0->Valid (ji r a t).1:=by intro r;induction r with|nil=>intro a t h _;exact h|cons nm r d =>intro a t h b;unfold ji at b⊢;split at b;{grind};rename_i e;rw[aK e];split at b;{rename_i c;rw[aN c];exact d _ _ (y6 c) b};grind
abbrev DS:=((List Nd×(List Nd×(Int×(bj×(Int×al)))))×al)
def aah{f:DS->Option (DS⊕(Nat×DS))} ns (h:MK ns) n (r:n<=ns.length)
  (b:∀i x t,i<n->ns[i]?=aa x->Valid t ->f ((t,[],0,aX<|ns.take i,i,()),()) =aa (if(findF t<|eS ns i).2.1=true/\(findF t<|eS ns i).1.2.1=2 then .inl ((t,[],0,eS ns i,((i+1:Nat):Int),()),()) else if(bN t<|gG 493<|eS ns i).2=0 then .inl (((bN t<|gG 493<|eS ns i).1,[],0,eS ns i,((i+1:Nat):Int),()),()) else .inr (1,(t,[],(bN t<|gG 493<|eS ns i).2,eS ns i,i,()),())))
  (g:∀t a,f ((t,[],0,a,n,()),())=aa (.inr (0,(t,[],0,a,n,()),()))) : ∀d i t,i+d=n->Valid t->∃z,Loop f ((t,[],0,aX<|ns.take i,i,()),())=aa z /\(((ji ((ns.take n).drop i) (aX<|ns.take i) t).2=0/\z.1=0/\z.2.1.1=(ji ((ns.take n).drop i) (aX<|ns.take i) t).1) \/ ((ji ((ns.take n).drop i) (aX<|ns.take i) t).2≠0/\z.1=1/\z.2.1.2.1=[]/\z.2.1.2.2.1=(ji ((ns.take n).drop i) (aX<|ns.take i) t).2)):=by
 intro d;induction d with|zero =>(intro i t q k;obtain rfl:i=n:=ai;refine⟨_,by rw[aZ,g];rfl,.inl ?_⟩;rw[Iu<|by rw[cY];omega];exact⟨rfl,rfl,rfl⟩)|succ d p =>(intro i t q k;have hx:ns[i]?=aa ns[i]:=gQ ai;have c:=b i ns[i] t ai hx k;have e:(ns.take n).drop i=ns[i]::(ns.take n).drop (i+1):=by rw[zm<|by rw[cY];omega,ahM]);rw[e];unfold ji;rw[(sa h.1 hx)];split;{rename_i l;rw[aN l] at c;obtain⟨z,m,o⟩:=p (i+1) t ai k;refine⟨z,?_,by exact o⟩;rw[aZ,c];exact m};rename_i l;rw[aK l] at c;split;{rename_i j;rw[aN j] at c;obtain⟨z,m,o⟩:=p (i+1) _ ai (y6 j);refine⟨z,?_,by exact o⟩;rw[aZ,c];exact m};rename_i j;rw[aK j] at c;refine⟨_,by rw[aZ,c];rfl,.inr ⟨j,rfl,rfl,rfl⟩⟩
def ajR m {ns} (h:MK ns) i:Sm (gG m<|eS ns i):=⟨h.ud _,by simp[gG],by simp[gG]⟩
def uE(a:List bj)(t:List Nd)(n:Nd):List Nd×Int:=if(ji a.dropLast [] t).2=0 then bN (ji a.dropLast [] t).1 n else([],(ji a.dropLast [] t).2)
def Xh{ns}(h:MK ns){n}(w:n.1=aX ns)(y:Sm n){t}(r:Valid t):kM ((n,()),t,())=aa ((uE ns t n).1,(uE ns t n).2,()):=by
 have hd:=F3 h;unfold kM;rw[w,r9 _ (by have:=h.2.2;omega),ab,z8 h.1];dsimp only;rw[sA _ (by have:=hd.2.2;omega),ab,ka _ hd.1];obtain⟨z,A,g⟩:=aah (f:=fA (ns.dropLast,())) ns.dropLast hd ns.dropLast.length (b8 _) (λi x u B j s=>by
  have c:=fG s;have C:=hd.OW (kG j);have D:=hd.ud i;have v:=hd.ud (i+1);have E:=hd.2.1;unfold fA;dsimp only;rw[aq B,au j,ab,Ln _ _ ai ai,ab,sa hd.1 j];dsimp only;rw[agu u _ c (by unfold eS;omega) s,ab,aJ ai];have F:=MJ u _ c (ajR 493 hd i);rw[show uO (u,(eS ns.dropLast i,_),())=_ from F,ab];by_cases k:(findF u<|eS ns.dropLast i).2.1=true;{by_cases d:(findF u<|eS ns.dropLast i).1.2.1=2;{rw[k,ay d,aN ⟨rfl,d⟩];rfl};rw[k,ax d,aK λq=>d q.2];by_cases b:(bN u<|gG 493<|eS ns.dropLast i).2=0;{rw[ay b,aN b];rfl};rw[ax b,aK b];rfl}
  .rw[show(findF u _).2.1=false by simpa using k];by_cases b:(bN u<|gG 493<|eS ns.dropLast i).2=0;{rw[ay b,aN b];rfl}
   .rw[ax b,aK b];rfl) (λu a=>by
  unfold fA;rw[aw,ag]) ns.dropLast.length 0 t ai r
 rw[Ao,D6] at g;rw[show Loop (fA _) ((t,([]),0,([]),0,()),())=_ from A,ab];have l:aX (ns.dropLast.take 0)=[]:=by simp[aX]
 rw[l] at g;unfold uE;rcases g with ⟨e,m,o⟩|⟨e,m,o,G⟩
 {have p:=E4 _ _ _ r e;rw[m,show cF 0 0=true from rfl,aj,o,aN e,MJ _ n (fG p) y,ab]};rw[m,show cF 1 0=false from rfl,ag,o,G,aK e]
def aai{ns}(h:MK ns){t}(r:Valid t):xH (t,aX ns,())=aa ((if(ji ns.dropLast [] t).2=0 then(ji ns.dropLast [] t).1 else []),(ji ns.dropLast [] t).2,()):=by
 unfold xH;dsimp only;rw[ix _ (by have:=h.2.2;omega),ab,ka _ h.1];obtain⟨z,s,g⟩:=aah (f:=mQ (ns,())) ns h (ns.length-1) ai (λi x u B j p=>by
  have c:=fG p;have v:=h.OW (kG j);have w:=h.ud i;have k:=h.2.1;unfold mQ;dsimp only;rw[aJ ai,aq ai,au j,ab,CL _ _ ai ai,ab,sa h.1 j,E3 u _ c p,ab];have y:=EW u _ c (ajR 493 h i);rw[show oP (u,(eS ns i,_),())=_ from y,ab];by_cases l:(findF u<|eS ns i).2.1=true;{by_cases d:(findF u<|eS ns i).1.2.1=2;{rw[l,ay d,aN ⟨rfl,d⟩];rfl};rw[l,ax d,aK λq=>d q.2];by_cases b:(bN u<|gG 493<|eS ns i).2=0;{rw[ay b,aN b];rfl};rw[ax b,aK b];rfl}
  .rw[show(findF u _).2.1=false by simpa using l];by_cases b:(bN u<|gG 493<|eS ns i).2=0;{rw[ay b,aN b];rfl}
   .rw[ax b,aK b];rfl) (λu a=>by
  unfold mQ;have k:=h.2.1;rw[aJ ai,show ba _ (len ns)=false from aF ep,ag]) (ns.length-1) 0 t ai r
 rw[D6,List.dropLast_eq_take.symm] at g;rw[show Loop (mQ _) ((t,([]),0,([]),0,()),())=_ from s,ab];have m:aX (ns.take 0)=[]:=by simp[aX]
 rw[m] at g;rcases g with ⟨e,n,o⟩|⟨e,n,o,A⟩
 {rw[n,show cF 0 0=true from rfl,aj,o,aN e,e]};rw[n,show cF 1 0=false from rfl,ag,o,A,aK e]
def ada p:(bW p).1=0\/(bW p).1=1\/(bW p).1=2:=by unfold bW;grind
def qf(t:List Nd)(p:Pt):List Nd×Int:=if(bW p).1=0/\(bW p).2.1≠[] then uE (bW p).2.1 t (mz p<|aX (bW p).2.1) else(t,0)
def AN:List Pt->List Nd->List Nd×Int|[],t=>(t,0)|p::r,t=>if(qf t p).2=0 then AN r (qf t p).1 else([],(qf t p).2)
def aaj{ns t n}(h:(uE ns t n).2=0):Valid (uE ns t n).1:=by
 unfold uE at h⊢;split at h
 {rename_i a;rw[aN a];exact y6 h};grind
def Ab{t p}(b:Valid t)(h:(qf t p).2=0):Valid (qf t p).1:=by
 unfold qf at h⊢;split at h
 {rename_i a;rw[aN a];exact aaj h};grind
def CS:∀l t,Valid t->(((AN l t).2=0/\Valid (AN l t).1)\/((AN l t).2≠0/\(AN l t).1=[])):=by intro l;induction l with|nil=>intro t h;exact .inl ⟨rfl,h⟩|cons p r a =>intro t h;unfold AN;split;{rename_i b;exact a _ (Ab h b)};grind
def aeR{p}(a:SmP p){ns}(h:MK ns):Sm (mz p<|aX ns):=⟨h.2.2,a.2.1,a.2.2⟩
def aak{t}(h:Valid t) p (d:SmP p):Cq (Aa p,t,())=aa ((qf t p).1,(qf t p).2,()):=by
 have b:=y3 p;unfold Aa aeP qf;rcases ada p with a|a|a
 .rw[aK<|by rw[a];decide,aK (by rw[a];decide)];by_cases c:(bW p).2.1=[];{rw[aN c,aK λq=>q.2 c];rfl};rw[aK c,aN ⟨a,c⟩];exact Xh b rfl (aeR d b) h
 {rw[aN a,aK λq=>by rw[a] at q;exact absurd q.1 aI];rfl};rw[aK<|by rw[a];decide,aN a,aK λq=>by rw[a] at q;exact absurd q.1 aI];rfl
def runs{S R f}(l:List Pt)(h:List Nd->Nat->S)(b:List Nd->R)(c:Int->List Nd->Nat->R)
  (a:∀i x t,l[i]?=aa x->Valid t->f (h t i)=aa (if(qf t x).2=0 then .inl (h (qf t x).1<|i+1) else .inr (c (qf t x).2 t i))) (e:∀t,f (h t l.length)=aa (.inr<|b t)) : ∀d i t,i+d=l.length->Valid t->∃z,Loop f (h t i)=aa z /\(((AN (l.drop i) t).2=0/\z=b (AN (l.drop i) t).1)\/((AN (l.drop i) t).2≠0/\∃m n,z=c (AN (l.drop i) t).2 m n)):=by
 intro d;induction d with|zero =>(intro i t o k;obtain rfl:i=l.length:=ai;refine⟨_,by rw[aZ,e];rfl,.inl ?_⟩;rw[Ix];exact⟨rfl,rfl⟩)|succ d p =>intro i t o k;have j:=a i l[i] t (gQ ai) k;rw[zm ai];unfold AN;split;{rename_i g;rw[aN g] at j;obtain⟨z,q,r⟩:=p (i+1) _ ai (Ab k g);exact⟨z,by rw[aZ,j];exact q,r⟩};rename_i g;rw[aK g] at j;exact⟨_,by rw[aZ,j];rfl,.inr ⟨g,t,i,rfl⟩⟩
open Classical in
def ox(l:List Nd)(a:List Pt):List Nd×Int:=if Valid l then(if hW a=true then AN a (a.foldl y4 l) else([],10)) else([],1)
def Ac(a:List Pt):∀l,Valid l->Valid (a.foldl y4 l):=by induction a with|nil=>intro l h;exact h|cons p r b=>intro l h;exact b _ (y5 h p)
def alW l ps (h:xk l) (c:Xf ps):vt (l,ps,())=aa ((ox l ps).1,(ox l ps).2,()):=by
 obtain⟨e,o,j⟩:=my l h;have v:=h.1;have w:=c.1;unfold vt ox;rw[o,ab];by_cases hv:Valid l
 .rw[j.2 hv,aN hv,Vi ps c,ab];by_cases a:hW ps=true
  .rw[aN a,aN a, aP dW,show app ([]) l=l from rfl];obtain⟨p,k⟩:=ac9 ps true l hv ai;rw[p,ab];obtain⟨z,r,m⟩:=runs (f:=lB (ps.map Aa,true,())) ps (λt i=>(([],0,t,i,()),())) _ (λe t i=>(1,([],e,t,i,()),())) (λi x t d s=>by
    have hi:=aA d;unfold lB;rw[aq<|by rw[qg];exact hi,au (by rw[B7,d];rfl),ab,aJ ai,show Cq _=_ from aak s x (c.2 x<|kG d),ab];by_cases b:(qf t x).2=0;{rw[ay b,aN b];rfl}
    .rw[ax b,aK b];rfl) (λt=>by
    unfold lB;rw[show ba ps.length _=false by rw[<-qg];exact aw,ag]) ps.length 0 _ ai k
   rw[D6] at m;rw[show Loop (lB _) (([],0,ps.foldl y4 l,0,()),())=_ from r];rcases m with ⟨n,g⟩|⟨n,y,A,g⟩
   .rw[g,n];rfl
   .rw[g];rcases CS ps _ k with ⟨B,_⟩|⟨_,u⟩
    .grind
    .rw[u];rfl
  .rw[aK a,aK a];rfl
 .have:=λq=>hv (j.1 q);rw[ax this,aE,aj,aK hv]
def adb l ps (w:xk l) (h:Xf ps):zP (l,ps,())=aa ((ox l ps).1,(ox l ps).2,()):=by
 obtain⟨e,y,A⟩:=pb l w;have D:=h.1;unfold zP ox;rw[y,ab];by_cases hv:Valid l
 .rw[A.2 hv,aN hv,E2 ps h,ab];by_cases m:hW ps=true
  .rw[aN m,m];have p:=Ac ps l hv;rw[(TJ l ps h hv),ab];obtain⟨z,B,r⟩:=runs (f:=oS (l,ps,())) ps (λt i=>((t,[],0,i,()),())) _ (λe t i=>(1,(t,[],e,i,()),())) (λi x t n s=>by
    have hi:=aA n;have d:=h.2 x (kG n);have b:=y3 x;unfold oS;rw[aq hi,au n,ab,EZ x d,ab,aJ ai,aai b s,ab,ab];unfold tw;rw[ab];by_cases g:(bW x).1=0;{have u:=uY b.1;by_cases j:(bW x).2.1=[];{(have a:qf t x=(t,0):=by unfold qf;rw[aK λq=>q.2 j]);rw[a,ay g,cc (u.2 j)];rfl};(have a:qf t x=uE (bW x).2.1 t (mz x<|aX (bW x).2.1):=by unfold qf;rw[aN ⟨g,j⟩]);rw[a,ay g,bg λq=>j (u.1 q)];by_cases hd:(ji (bW x).2.1.dropLast [] t).2=0;{(have c:uE (bW x).2.1 t (mz x<|aX (bW x).2.1)=bN (ji (bW x).2.1.dropLast [] t).1 (mz x<|aX (bW x).2.1):=by unfold uE;rw[aN hd]);rw[c,ay hd,aN hd,show oP ((ji (bW x).2.1.dropLast [] t).1,(aX (bW x).2.1,_),())=_ from(EW (ji (bW x).2.1.dropLast [] t).1 (mz x<|aX (bW x).2.1) (fG<|E4 _ _ _ s hd)<|aeR d b),ab];by_cases k:(bN (ji (bW x).2.1.dropLast [] t).1<|mz x<|aX (bW x).2.1).2=0;{rw[ay k,aN k];rfl};rw[ax k,aK k];rfl};(have c:uE (bW x).2.1 t (mz x<|aX (bW x).2.1)=([],(ji (bW x).2.1.dropLast [] t).2):=by unfold uE;rw[aK hd]);rw[c,ax hd,aK hd,aK hd];rfl}
    .have a:qf t x=(t,0):=by unfold qf;rw[aK λq=>g q.1]
     rw[a,ax g];rfl) (λt=>by
    unfold oS;rw[aw,ag]) ps.length 0 _ ai p
   rw[D6] at r;rw[show Loop (oS _) ((ps.foldl y4 l,[],0,0,()),())=_ from B];rcases r with ⟨v,o⟩|⟨v,E,F,o⟩;{rw[o,v];rfl};rw[o];rcases CS ps _ p with ⟨G,_⟩|⟨_,C⟩;{grind};rw[C];rfl
  rw[ show hW ps=false by simpa using m];rfl
 have:e=false:=by grind
 rw[this,aK hv];rfl
def rd0:Rd:=(false,[],0,false,false,())
abbrev Ns:=(Bool×Int×al)×(al×al×al)×Rd×al
def ns(k:Int):Ns:=((false,k,()),((),(),()),rd0,())
def ade:eY (uW 1024,())=aa ([],0,()):=by have a:∀x∈uW 1024,x=0:=alQ _;have c:(uW 1024).length=1024:=uX _;unfold eY;dsimp only;rw[aF<|show len (uW 1024)<=8192 by unfold len;omega,show b3 ((),(true,uW 1024,(0:Int),false,false,()),())=_ from Lt (uW 1024) 0 ai ai (λx b=>a x (Bb b)),cT ⟨ai,ai,a⟩,ab];dsimp only;rw[aZ,agn];rfl
def Has(t:List Nd)(p:bj):Prop:=p=[]\/∃x∈t,x.1=p/\x.2.1=2
def aal{t n}(c:Valid t)(d:fZ n=true)(h:Has t (bt n.1).1):((bN t n).2=0/\n∈(bN t n).1)\/(bN t n).2=5:=by
 unfold bN;rw[aK λq=>q.elim (λq=>q c) λq=>by rw[d] at q;cases q];have f:¬((bt n.1).1≠[]/\∀x∈t,x.1≠(bt n.1).1):=λq=>by rcases h with h|⟨x,a,e,_⟩;{exact q.1 h};exact q.2 x a e
 have b:¬((bt n.1).1≠[]/\∀x∈t,x.1=(bt n.1).1->x.2.1≠2):=λq=>by rcases h with h|⟨x,a,e,k⟩;{exact q.1 h};exact q.2 x a e k
 rw[aK f,aK b];have key:∀r,((if 64<=r.length then(([]),(5:Int)) else(wk r n,0)).2=0/\n∈(if 64<=r.length then(([]),(5:Int)) else(wk r n,0)).1)\/(if 64<=r.length then(([]),(5:Int)) else(wk r n,0)).2=5:=λr=>by split;{exact .inr rfl};exact .inl ⟨rfl,wm.2 (.inl rfl)⟩
 apply key
def agC{t p}(h:(findF t p).2.1=true):(findF t p).1∈t/\(findF t p).1.1=p:=by unfold findF at h⊢;cases a:t.find? λx=>decide (x.1=p) with|none=>rw[a] at h;cases h|some x=>exact⟨X0 a,by have:=Pn a;simpa using this⟩
def ajS{p}(h:fZ (gG 0 p)=true):fZ (gG 493 p)=true:=by unfold fZ at h⊢;simp at h⊢;exact⟨⟨⟨h.1.1.1,by simp[gG]⟩,by simp[gG]⟩,by simp[Vc,gG]⟩
def agD{ns}(h:MK ns) n (u:n<=ns.length) (j:preB ns n=true):∀d i t,i+d=n->Valid t->Has t (aX<|ns.take i) ->
  ((ji ((ns.take n).drop i) (aX<|ns.take i) t).2=0/\Has (ji ((ns.take n).drop i) (aX<|ns.take i) t).1 (aX<|ns.take n))\/(ji ((ns.take n).drop i) (aX<|ns.take i) t).2=5:=by
 intro d;induction d with|zero =>(intro i t q k l;obtain rfl:i=n:=ai;rw[Iu<|by rw[cY];omega];exact .inl ⟨rfl,l⟩)|succ d o =>(intro i t q k l;have b:(ns.take n).drop i=ns[i]::(ns.take n).drop (i+1):=by rw[zm<|by rw[cY];omega,ahM]);have c:eS ns i=aX _:=rfl;rw[b];unfold ji;rw[(sa h.1<|gQ ai)];split;{rename_i p;obtain⟨m1,r⟩:=agC p.1;exact o _ t ai k (.inr ⟨_,m1,by rw[r,c],p.2⟩)};(have e:fZ (gG 493<|eS ns i)=true:=by unfold preB at j;rw[wH] at j;exact ajS (j i<|Iz.2 ai));(have a:=aal k e (by show Has t (bt<|eS ns i).1;rw[Rn h.1 ai];exact l));split;{rename_i f;rcases a with ⟨_,g⟩|m;{rw[c];exact o _ _ ai (y6 f) (.inr ⟨_,g,rfl,rfl⟩)};rw[m] at f;cases f};rename_i f;rcases a with ⟨s,_⟩|m;{exact absurd s f};exact .inr m
def agE{ns}(h:MK ns){n}(g:n.1=aX ns)(i:fZ n=true)(a:wo ns=true){t}(d:Valid t):(uE ns t n).2=0\/(uE ns t n).2=5:=by
 have b:preB ns (ns.length-1)=true:=by unfold wo at a;simp at a;rw[Xe a.2] at a;simp at a;exact a.1.1
 have hd:=agD h _ ai b (ns.length-1) 0 t ai d (.inl<|by simp[aX]);have c:aX (ns.take 0)=[]:=by simp[aX]
 rw[D6,List.dropLast_eq_take.symm,c] at hd;unfold uE;rcases hd with ⟨e,j⟩|f
 {rw[aN e];rcases aal (E4 _ _ _ d e) i (by rw[g,z8 h.1];exact j) with ⟨k,_⟩|l;{exact .inl k};exact .inr l};rw[aK<|by rw[f];decide];exact .inr f
def adf{p}(a:(bW p).2.2=true)(c:(bW p).1=0)(b:(bW p).2.1≠[]):fZ (mz p<|aX (bW p).2.1)=true/\wo (bW p).2.1=true:=by
 have key:∀d q,d≠[]->((decide _&&q)||(fZ (mz p<|aX d)&&wo d))=true->fZ _=true/\wo d=true:=λd q e h=>by rw[cj e,Bool.false_and,ahY,gC] at h;exact h
 unfold bW at a c b⊢;split at c
 {rename_i f;rw[aN f] at a b⊢;dsimp only at a c b⊢;split at c;{cases c};rename_i i;rw[aK i] at a b⊢;split at c;{cases c};rename_i j;rw[aK j] at a b⊢;split at c;{rename_i g;rw[aN g] at a b⊢;exact key _ _ b a};rename_i g;rw[aK g] at b;exact absurd rfl b};rename_i f;rw[aK f] at b;exact absurd rfl b
def aam:∀b t,hW b=true->Valid t->(AN b t).2=0\/(AN b t).2=5:=by intro b;induction b with|nil=>intro t _ _;exact .inl rfl|cons p r f =>intro t d e;unfold hW at d;simp only[List.all_cons,gC] at d;unfold AN;split;{rename_i a;exact f _ d.2 (Ab e a)};rename_i a;right;unfold qf at a⊢;split;{rename_i c;rw[aN c] at a;obtain⟨m1,g⟩:=adf d.1 c.1 c.2;rcases agE (y3 p) rfl m1 g e with h|i;{exact absurd h a};exact i};rename_i c;rw[aK c] at a;exact absurd rfl a
def alX{l}(c:l.length<=64)(a:∀q∈l,RdP q):Xf l:=⟨ai,λp b=>a p b⟩
def agF{s}{l:List Pt}{e}(h:eY (s,())=aa (l,e,()))(c:Xf l):gX (s,())=aa (if e=0/\hW l=true then 0 else 10,()):=by
 unfold gX;rw[h,ab,Vi l c];by_cases a:e=0
 {by_cases b:hW l=true;{rw[ay a,aN b,aN ⟨a,b⟩];rfl};rw[ay a,aK b,aK λq=>b q.2];rfl};rw[ax a,aK (show ¬(e=0/\hW l=true) from λq=>a q.1)];by_cases b:hW l=true;{rfl};rfl
def agG{s}{a:List Pt}{e}(h:eY (s,())=aa (a,e,()))(f:Xf a){l}(d:Valid l):jF (l,s,())=aa (if e=0 then((ox l a).1,(ox l a).2,()) else([],10,())):=by
 obtain⟨c,g,i⟩:=my l (fG d);unfold jF;rw[h,ab,g,alW l a (fG d) f,i.2 d];by_cases b:e=0
 {rw[ay b,aN b];rfl};rw[ax b,aK b];rfl
def OX(t:List Nd)(q:bj):Option Nd:=t.find? λx=>decide (x.1=q)
def aeS t q:findF t q=match OX t q with|some x=>(x,true,())|none=>(aeN,false,()):=rfl
def at_mem{t q x}(h:OX t q=aa x):x∈t/\x.1=q:=by unfold OX at h;grind
def CT{t}(a:Ord t){q x}:OX t q=aa x↔x∈t/\x.1=q:=by refine⟨at_mem,?_⟩;rintro⟨b,c⟩;have:=CP a b c;rw[aeS] at this;grind
def aeT{a b:Option Nd}(h:∀x,a=aa x↔b=aa x):a=b:=by cases a with|none =>(cases b with|none=>rfl|some y=>exact absurd ((h y).2 rfl) aW)|some x=>exact((h x).1 rfl).symm
def agH:∀{l m:List Nd},(l.Pairwise λx y=>cmpL (key x) (key y)<0)->(m.Pairwise λx y=>cmpL (key x) (key y)<0)->(∀c,c∈l↔c∈m)->l=m:=by intro l;induction l with|nil =>(intro m _ _ h;cases m with|nil=>rfl|cons d m=>exact absurd ((h d).2 aW) aW)|cons c l k =>intro m g i h;cases m with|nil=>exact absurd ((h c).1 aW) aW|cons d m =>(rw[ym] at g i;have a:∀x,¬cmpL _ (key x)<0:=λx=>by rw[jL];omega);(have j:c=d:=by (have b:c=d\/c∈m:=by simpa using(h c).1 aW);(have f:d=c\/d∈l:=by simpa using(h d).2 aW);rcases b with e|b;{exact e};rcases f with e|f;{grind};exact absurd (mx (g.1 d f)<|i.1 c b) (a c));grind
def an4{s t}(d:Ord s)(e:Ord t)(h:∀q,OX s q=OX t q):s=t :=agH (BO.1 d) (BO.1 e) λc=>by have a:=CT d (q:=c.1) (x:=c);have b:=CT e (q:=c.1) (x:=c);grind
def agI{l}(j:Valid l){p}(v:p≠[]):∀m x,x∈l->(parts x.1).length<=m->ek (parts x.1) (parts p)=true->∃y∈l,y.1=p/\y.2.1=2:=by intro m;induction m with|zero =>intro x d k f;unfold ek at f;grind|succ m z =>intro x d k f;by_cases n:∃y∈l,y.1=p;{by_cases o:(bt x.1).1=[];{(exfalso;have q:=(gb f).1;have c:=j.may x d;unfold fZ yV at c;simp only[gC] at c;have w:(parts x.1).length<=1:=by rcases sB x.1 with ⟨a,_⟩|⟨a,b,A,C,e⟩;{unfold parts;split;{simp};rw[qb _ a];simp};(rw[e] at o;subst o;have:=wH.1 c.1.1.1.1.1.1.1.2 [] (by unfold parts;rw[A,HZ [] aW];simp));exact absurd this aI);have r:parts p=[]:=Am.1 ai;have:=dP p;rw[r] at this;exact v this.symm};rcases j.up x d with e|⟨y,h,s,t⟩;{grind};have u:=yW o;rw[<-s] at u;obtain⟨q,i⟩:=gb f;rw[u] at q i;rw[ahx<|by simp at q;omega] at i;rcases xy (parts p).length (parts y.1).length with g|g;{exact z y h (by rw[u] at k;simp at k;omega) (cT ⟨g,i⟩)};(have B:parts p=parts y.1:=by rw[<-i,Is ai]);exact⟨y,h,by rw[<-dP y.1,<-B,dP],t⟩};have:=Ri j v (λy h e=>n ⟨y,h,e⟩) _ x d (b8 _);grind
def aeU{t n}(h:(bN t n).2=0) q :
  OX (bN t n).1 q=if q=n.1 then aa n else if ek (parts q) (parts n.1)=true/\n.2.1≠2 then af else OX t q:=by
 rcases Rl t n with ⟨_,f⟩|⟨e,f,o,r,g,p,s⟩
 .exact absurd h f
 rw[s];refine aeT λx=>?_;rw[CT (Vg e f o g p).ord,wm];obtain⟨l,_⟩:=g.sub;by_cases u:q=n.1
 .grind
 .rw[aK u];have i:(x=n\/x∈r)/\x.1=q↔x∈r/\x.1=q:=by
   grind
  rw[i];rcases g with ⟨⟨⟨d,A,v,w⟩,j⟩,rfl⟩|⟨y,rfl⟩
  .rw[aK<|λz=>z.2 j,CT e.ord]
   grind
  .unfold qN;rw[B8];by_cases k:ek (parts q) (parts n.1)=true
   .by_cases m:n.2.1=2
    .rw[aK<|λz=>z.2 m,CT e.ord];constructor
     .grind
     .rintro⟨a,c⟩;have:=agI e (aeM f) _ x a (b8 _) (by rw[c];exact k)
      grind
    .rw[aN ⟨k,m⟩];constructor
     .rintro⟨⟨a,b⟩,c⟩;unfold gone at b
      grind
     .grind
   .rw[aK<|λz=>k z.1,CT e.ord];constructor
    .grind
    .rintro⟨a,c⟩;unfold gone
     grind
def TK(q:bj)(s:Option Nd):Option Nd:=match s with|some x=>if x.2.1=2 then aa x else aa (gG 493 q)|none=>aa (gG 493 q)
def aan{t} p:((findF t p).2.1=true/\(findF t p).1.2.1=2)↔∃x,OX t p=aa x/\x.2.1=2:=by rw[aeS];grind
def ajT{ns}(h:Rm ns){i j}(a:i<ns.length)(b:j<ns.length)(e:eS ns i=eS ns j):i=j:=by have:=congrArg (λp=>(parts p).length) e;simp only[yY h,cY] at this;omega
def alY{ns}(h:Rm ns) n (A:n<=ns.length) q:∀d i t,i+d=n->Valid t ->
  (ji ((ns.take n).drop i) (aX<|ns.take i) t).2=0 ->((∃j,i<=j/\j<n/\q=eS ns j)->OX (ji ((ns.take n).drop i) (aX<|ns.take i) t).1 q=TK q (OX t q)) /\((¬∃j,i<=j/\j<n/\q=eS ns j)->OX (ji ((ns.take n).drop i) (aX<|ns.take i) t).1 q=OX t q):=by
 intro d;induction d with|zero =>(intro i t v r _;obtain rfl:i=n:=ai;rw[Iu<|by rw[cY];omega];exact⟨λ⟨j,a,b,_⟩=>absurd a ai,λ_=>rfl⟩)|succ d s =>(intro i t v r k;have l:(ns.take n).drop i=ns[i]::(ns.take n).drop (i+1):=by rw[zm<|by rw[cY];omega,ahM]);(have o:eS ns i=aX _:=rfl;rw[l] at k⊢;unfold ji at k⊢;rw[(sa h<|gQ ai)] at k⊢;have f:(∃j,i<=j/\j<n/\q=eS ns j)↔(q=eS ns i\/∃j,i+1<=j/\j<n/\q=eS ns j):=by grind);(have apart:q=eS ns i->¬∃j,i+1<=j/\j<n/\q=eS ns j:=by rintro e ⟨j,a,b,c⟩;have:=ajT h ai ai (e.symm.trans c);omega);by_cases m:(findF t<|eS ns i).2.1=true/\(findF t<|eS ns i).1.2.1=2;{rw[aN m] at k⊢;rw[o] at k⊢;obtain⟨w,u⟩:=s _ t ai r k;rw[f];obtain⟨x,B,C⟩:=(aan _).1 m;constructor;{rintro(e|e);{rw[u<|apart e];unfold TK;grind};grind};grind};rw[aK m] at k⊢;by_cases p:(bN t<|gG 493<|eS ns i).2=0;{rw[aN p] at k⊢;obtain⟨w,u⟩:=s _ _ ai (y6 p) k;have g:=aeU p q;rw[f];have y:¬(gG 493<|eS ns i).2.1≠2:=λz=>z rfl;constructor;{rintro(e|e);{rw[aN<|show q=(gG 493<|eS ns i).1 from e] at g;unfold TK;rw[aan] at m;grind};rw[aK λz:q=(gG 493<|eS ns i).1=>apart z e] at g;grind};intro e;rw[aK λz:q=(gG 493<|eS ns i).1=>e (.inl z)] at g;grind};grind
def alZ(a:List bj)(n:Nd)(q:bj)(s:Option Nd):Option Nd :=if q=n.1 then aa n else if ek (parts q) a=true/\n.2.1≠2 then af else if ek a (parts q)=true/\q≠[] then TK q s else s
def agJ{ns}(h:Rm ns) q:(∃j,0<=j/\j<ns.length-1/\q=eS ns j)↔(ek ns (parts q)=true/\q≠[]):=by
 constructor
 .rintro⟨j,_,f,rfl⟩;rw[yY h];constructor;{unfold ek;grind};intro e;have:=congrArg (λp=>(parts p).length) e;simp only[yY h,cY,show(parts []).length=0 from rfl] at this;omega
 rintro⟨b,c⟩;obtain⟨g,d⟩:=gb b;have a:0<(parts q).length:=by apply Nat.pos_of_ne_zero;intro e;have:=dP q;rw[Am.1 e] at this;exact c this.symm
 refine⟨(parts q).length-1,qh _,ai,?_⟩;unfold eS;rw[show(parts q).length-1+1=(parts q).length by omega,d,dP]
def al0{ns}(h:Rm ns){t}(d:Valid t){n}(e:n.1=aX ns)(a:(uE ns t n).2=0) q:OX (uE ns t n).1 q=alZ ns n q (OX t q):=by
 have b:ns.take _=ns.dropLast:=List.dropLast_eq_take.symm;have f:aX (ns.take 0)=[]:=by simp[aX]
 unfold uE at a⊢;by_cases hd:(ji ns.dropLast [] t).2=0
 {rw[aN hd] at a⊢;have c:=alY h (ns.length-1) ai q (ns.length-1) 0 t ai d (by rw[ b];exact hd);rw[ agJ h] at c;rw[aeU a q,e,ka ns h];unfold alZ;grind};grind
def agK(q:bj)(s:Option Nd)(p:Pt):Option Nd:=if(bW p).1=0/\(bW p).2.1≠[] then alZ (bW p).2.1 (mz p<|aX (bW p).2.1) q s else s
def TL(q:bj)(p:Pt):Bool:=(decide ((bW p).1=1)&&(decide (q=aX (bW p).2.1)||ek (parts q) (bW p).2.1))||(decide ((bW p).1=2)&&ek (parts q) (bW p).2.1)
def ajU(q:bj)(a:List Pt)(s:Option Nd):Option Nd:=if a.any (TL q)=true then af else s
def an5:∀a t,Valid t->(AN a t).2=0->∀q,OX (AN a t).1 q=a.foldl (agK q) (OX t q):=by intro a;induction a with|nil=>intro t _ _ q;rfl|cons p r f =>intro t d c q;unfold AN at c⊢;by_cases b:(qf t p).2=0;{rw[aN b] at c⊢;rw[f _ (Ab d b) c q,Nb];congr 1;unfold qf agK at *;by_cases e:(bW p).1=0/\(bW p).2.1≠[];{rw[aN e] at b⊢;rw[aN e];exact al0 (y3 p).1 d rfl b q};grind};grind
def an6{t}(a:Valid t) p q:OX (y4 t p) q=if TL q p=true then af else OX t q:=by
 have e:=ka _ (y3 p).1;refine aeT λx=>?_;rw[CT (y5 a p).ord];have key:∀P,(∀x,x.1=q->P x=!TL q p)->((x∈t.filter P/\x.1=q)↔(if TL q p=true then af else OX t q)=aa x):=by by_cases b:TL q p=true;{grind};rw[aK b,CT a.ord];grind
 unfold y4;by_cases c:(bW p).1=1
 {rw[aN c];refine key _ λy f=>?_;unfold gone TL;grind};rw[aK c];by_cases d:(bW p).1=2;{rw[aN d];refine key _ λy f=>?_;unfold TL;grind};(rw[aK d];have b:TL q p=false:=by unfold TL;rw[cj c,cj d];rfl);rw[aK<|by rw[b];decide,CT a.ord]
def agL:∀a t,Valid t->∀q,OX (a.foldl y4 t) q=ajU q a (OX t q):=by intro a;induction a with|nil=>intro t _ q;rfl|cons p r c =>intro t b q;rw[Nb,c _ (y5 b p) q,an6 b p q];unfold ajU;grind
def adg{l}(a:Valid l){ps}(d:hW ps=true)(b:(ox l ps).2=0):Valid (ox l ps).1/\∀q,OX (ox l ps).1 q=ps.foldl (agK q) (ajU q ps<|OX l q):=by
 have e:ox l ps=AN ps (ps.foldl y4 l):=by unfold ox;rw[aN a,aN d]
 rw[e] at b⊢;have c:=Ac ps l a;refine⟨?_,λq=>?_⟩
 {rcases CS ps _ c with ⟨_,h⟩|⟨h,_⟩;{exact h};grind};rw[an5 ps _ c b q,agL ps l a q]
def ajV{l:List Nd}(e:Valid l)(a:List Pt):((ox l a).2=0/\hW a=true)\/((ox l a).2≠0/\(ox l a).1=[]/\((ox l a).2=10\/(ox l a).2=5)):=by
 by_cases c:hW a=true
 .have f:ox l a=AN a (a.foldl y4 l):=by unfold ox;rw[aN e,aN c]
  rw[f];have g:=Ac a l e;rcases CS a _ g with ⟨d,h⟩|⟨d,h⟩;{exact .inl ⟨d,c⟩};rcases aam a _ c g with b|b;{exact absurd b d};exact .inr ⟨d,h,.inr b⟩
 have f:ox l a=([],10):=by unfold ox;rw[aN e,aK c]
 rw[f];exact .inr ⟨aI,rfl,.inl rfl⟩
def CU(q:bj)(f:Option Nd->Option Nd):Prop:=(∃c,∀s,f s=c)\/(∀s,f s=TK q s)\/(∀s,f s=s)
def Vl q s:TK q (TK q s)=TK q s:=by cases s with|none=>rfl|some x =>show TK q (if x.2.1=2 then aa x else aa (gG 493 q))=if x.2.1=2 then aa x else aa (gG 493 q);by_cases h:x.2.1=2;{rw[aN h];show(if x.2.1=2 then aa x else aa _)=_;rw[aN h]};rw[aK h];rfl
def CU.comp{q f g}(b:CU q f)(a:CU q g):CU q (λs=>f (g s)):=by
 rcases b with ⟨c,d⟩|b|b
 .exact .inl ⟨c,λs=>d _⟩
 {rcases a with ⟨c,d⟩|a|a;{exact .inl ⟨TK q c,λs=>by show f _=_;rw[b,d]⟩};{exact .inr (.inl λs=>by show f (g s)=_;rw[b,a,Vl])};exact .inr (.inl λs=>by show f (g s)=_;rw[b,a])};rcases a with ⟨c,d⟩|a|a;{exact .inl ⟨c,λs=>by show f _=_;rw[b,d]⟩};{exact .inr (.inl λs=>by show f _=_;rw[b,a])};exact .inr (.inr λs=>by show f _=_;rw[b,a])
def CU.apD{q f}(a:CU q f) s:f (f s)=f s:=by
 rcases a with ⟨c,b⟩|a|a
 .rw[b,b]
 {rw[a,a,Vl]};rw[a]
def adh q p:CU q (λs=>agK q s p):=by
 unfold agK;by_cases a:(bW p).1=0/\(bW p).2.1≠[]
 {simp only[aN a];unfold alZ;by_cases b:q=(mz p<|aX (bW p).2.1).1;{simp only[aN b];exact .inl ⟨_,λ_=>rfl⟩};simp only[aK b];by_cases c:ek (parts q) (bW p).2.1=true/\(mz p<|aX (bW p).2.1).2.1≠2;{simp only[aN c];exact .inl ⟨_,λ_=>rfl⟩};simp only[aK c];by_cases d:ek (bW p).2.1 (parts q)=true/\q≠[];{simp only[aN d];exact .inr (.inl λ_=>rfl)};simp only[aK d];exact .inr (.inr λ_=>rfl)};simp only[aK a];exact .inr (.inr λ_=>rfl)
def aao q:∀(ps:List Pt),CU q (λs=>ps.foldl (agK q) s):=by intro ps;induction ps with|nil=>exact .inr (.inr λ_=>rfl)|cons p r a=>exact a.comp (adh q p)
def aap q ps:CU q (ajU q ps):=by
 unfold ajU;by_cases h:ps.any (TL q)=true
 {simp only[aN h];exact .inl ⟨_,λ_=>rfl⟩};simp only[aK h];exact .inr (.inr λ_=>rfl)
def ajW{l}(a:Valid l){ps}(b:hW ps=true):(ox l ps).2=0\/(ox l ps).2=5:=by
 have c:ox l ps=AN ps (ps.foldl y4 l):=by unfold ox;rw[aN a,aN b]
 rw[c];exact aam ps _ b (Ac ps l a)
def agM{l}(c:Valid l){ps}(a:hW ps=true)(d:(ox l ps).2=0):ox (ox l ps).1 ps=((ox l ps).1,0)\/(ox (ox l ps).1 ps).2=5:=by
 obtain⟨b,e⟩:=adg c a d;rcases ajW b a with h|h
 .left;obtain⟨f,g⟩:=adg b a h;have:=an4 f.ord b.ord λq=>by rw[g,e];exact((aao q ps).comp<|aap q ps).apD _
  exact Prod.ext this h
 exact .inr h
def Gz(s:bj):List Pt×Int:=match eY (s,()) with|some (l,e,_)=>(l,e)|none=>([],10)
def OY s:eY (s,())=aa ((Gz s).1,(Gz s).2,())/\Xf (Gz s).1:=by obtain⟨d,e,a,b,c,_⟩:=ajH s;unfold Gz;rw[a];exact⟨rfl,alX b c⟩
def hY(l:List Nd)(s:bj):List Nd×Int:=if(Gz s).2=0 then ox l (Gz s).1 else([],10)
def Vm{l}(a:Valid l) s:jF (l,s,())=aa ((hY l s).1,(hY l s).2,()):=by
 obtain⟨b,c⟩:=OY s;rw[agG b c a];unfold hY;by_cases h:(Gz s).2=0
 {rw[aN h,aN h]};rw[aK h,aK h]
def LA{l}(c:Valid l) s:((hY l s).2=0/\Valid (hY l s).1/\(hY (hY l s).1 s=((hY l s).1,0)\/(hY (hY l s).1 s).2=5))\/((hY l s).2≠0/\(hY l s).1=[]):=by
 unfold hY;by_cases h:(Gz s).2=0
 {rw[aN h];simp only[aN h];rcases ajV c (Gz s).1 with ⟨a,b⟩|⟨a,b,_⟩;{exact .inl ⟨a,(adg c b a).1,agM c b a⟩};exact .inr ⟨a,b⟩};rw[aK h];exact .inr ⟨aI,rfl⟩
def wq:List bj->List Nd->List Nd×Int|[],t=>(t,0)|s::r,t=>if(hY t s).2=0 then wq r (hY t s).1 else([],(hY t s).2)
def agN:∀r s t u,wq r t=(u,0)->wq (r++[s]) t=if(hY u s).2=0 then((hY u s).1,0) else([],(hY u s).2):=by intro r;induction r with|nil =>intro s t u h;have:=congrArg Prod.fst h;subst this;rfl|cons a r c =>intro s t u h;rw[Na];unfold wq at h⊢;by_cases b:(hY t a).2=0;{rw[aN b] at h⊢;exact c s _ u h};rw[aK b] at h;exact absurd (congrArg Prod.snd h) b
def al1 r (q:r.length<=1000):qD (r,())=aa ((wq r []).1,(wq r []).2,()):=by
 have key:∀d i t,i+d=r.length->Valid t->∃z,Loop (gi (r,())) ((([]:List Nd),(0:Int),t,(i:Int),()),())=aa z /\
   (((wq (r.drop i) t).2=0/\z.1=0/\z.2.1.2.2.1=(wq (r.drop i) t).1)\/((wq (r.drop i) t).2≠0/\z.1=1/\z.2.1.1=(wq (r.drop i) t).1/\z.2.1.2.1=(wq (r.drop i) t).2)):=by
  intro d;induction d with|zero =>(intro i t n k;obtain rfl:i=r.length:=ai;rw[Ix];have o:gi (r,()) ((([]:List Nd),(0:Int),t,(r.length:Int),()),())=aa (.inr (0,(([]),0,t,r.length,()),())):=by unfold gi;dsimp only;rw[aw,ag]);exact⟨(0,_),by rw[aZ,o];rfl,.inl ⟨rfl,rfl,rfl⟩⟩|succ d p =>(intro i t n k;rw[zm ai];unfold wq;have g:gi (r,()) ((([]),0,t,i,()),())=aa (if(hY t r[i]).2=0 then .inl ((([]),0,(hY t r[i]).1,((i+1):Int),()),()) else .inr (1,(([]),(hY t r[i]).2,t,i,()),())):=by unfold gi;dsimp only;rw[aq ai,au (gQ ai),ab,Vm k,ab,aJ ai];by_cases f:(hY t r[i]).2=0;{rw[ay f,aN f];rfl};rw[ax f,aK f];rfl);by_cases f:(hY t r[i]).2=0;{(rw[aN f] at g⊢;have l:Valid (hY t r[i]).1:=by rcases LA k r[i] with ⟨_,h,_⟩|⟨h,_⟩;{exact h};exact absurd f h);obtain⟨z,m,j⟩:=p (i+1) _ ai l;exact⟨z,by rw[aZ,g];exact m,j⟩};rw[aK f] at g⊢;exact⟨(1,_),by rw[aZ,g];rfl,.inr ⟨f,rfl,rfl,rfl⟩⟩
 obtain⟨z,m,j⟩:=key r.length 0 [] ai (CQ ac4.1);rw[D6] at j;unfold qD;rw[show Loop (gi _) ((([]),0,([]),0,()),())=_ from m,ab];rcases j with ⟨a,b,c⟩|⟨a,b,c,e⟩
 {rw[b,c,a];rfl};rw[b,c,e];rfl
def Vn b (k:b.length<=100000):xI (b,())=aa (decide (b.length=512/\∀x∈b,x=0),()):=by
 have e0:∀y:UInt8,aR _ 0=decide (y=0):=λy=>GU (n:=0);have h:=ajM (f:=rk (b,())) b (λi=>((false,i,()),())) (λx=>!decide _) _ _ (λi x a=>by
  have hi:=aA a;unfold rk;rw[aq hi,au a,ab,e0,aJ ai];cases decide (x=0)<;>rfl) (by
  unfold rk;rw[aw,ag]) b.length 0 ai
 unfold xI;rcases h with ⟨j,x,_,a,g,_,c⟩|⟨l,c⟩
 .rw[show Loop _ ((false,(0:Int),()),())=_ from c,ab,js,ag];have d:x≠0:=by simpa using g
  rw[cj λq:b.length=512/\∀x∈b,x=0=>d (q.2 x<|kG a)]
 rw[show Loop _ ((false,(0:Int),()),())=_ from c,ab,cu,aj];have e:∀x∈b,x=0:=λx a=>by obtain⟨i,hi⟩:=bp.1 a;grind
 have:aR (len b) 512=decide (b.length=512/\∀x∈b,x=0):=by unfold aR len;grind
 grind
def agO b (m:b.length<=100000):xJ (b,())=aa (decide (1024<=b.length/\b.length % 512=0/\∀x∈b,x=0),()):=by
 have e0:∀y:UInt8,aR _ 0=decide (y=0):=λy=>GU (n:=0);have h:=ajM (f:=rl (b,())) b (λi=>((false,i,()),())) (λx=>!decide _) _ _ (λi x a=>by
  have hi:=aA a;unfold rl;rw[aq hi,au a,ab,e0,aJ ai];cases decide (x=0)<;>rfl) (by
  unfold rl;rw[aw,ag]) b.length 0 ai
 unfold xJ;dsimp only;by_cases g:1024<=b.length;case neg =>rw[aT<|by rw[bG];omega,aM,ag,ab,aj,cj λq:1024<=b.length/\b.length % 512=0/\∀x∈b,x=0=>g q.1]
 rw[aF<|by rw[bG];omega,aE,aj,show aR 512 0=false from rfl,ag,show fX _ 512=((b.length % 512):Int) from rfl];by_cases k:b.length % 512=0;case neg =>rw[ax ai,aE,ab,aj,cj λq:1024<=b.length/\b.length % 512=0/\∀x∈b,x=0=>k q.2.1]
 rw[ay ai,aM,ab,ag];rcases h with ⟨j,x,_,a,l,_,c⟩|⟨o,c⟩
 .rw[show Loop _ ((false,(0:Int),()),())=_ from c,ab,js,ag];have d:x≠0:=by simpa using l
  rw[cj λq:1024<=b.length/\b.length % 512=0/\∀x∈b,x=0=>d (q.2.2 x<|kG a)]
 rw[show Loop _ ((false,(0:Int),()),())=_ from c,ab,cu,aj];have e:∀x∈b,x=0:=λx a=>by obtain⟨i,hi⟩:=bp.1 a;grind
 grind
abbrev PS:=(bj×(List Pt×(Bool×(al×al))))×(List Pt×al)
def ps0(r:bj)(a:List Pt):PS:=((r,([]:List Pt),false,(),()),a,())
def Vo r out (v:r.length<=8192):∃p f g,b3 ((),rd r (out.length:Int),())=aa ((p,f,()),g,()) /\
  ((f=false/\∃b z,g=JT (out.length:Int) b/\eA (ps0 r out)=aa (.inr z)/\((z.1=0/\b=true)\/(z.1=1/\z.2.1.2.1=out/\z.2.1.2.2.1=!b))) \/ (f=true/\∃h,g=rd h ((out.length+1:Nat):Int)/\h.length+512<=r.length/\out.length<64/\eA (ps0 r out)=aa (.inl<|ps0 h<|out++[p]))):=by
 by_cases c:r.length<512
 .refine⟨_,_,_,Q9 r out.length c,.inl ⟨rfl,true,(0,ps0 r out),rfl,?_,.inl ⟨rfl,rfl⟩⟩⟩;unfold eA ps0;dsimp only;rw[cN<|by rw[bG];omega,ag]
 have i:(r.take 512).length=512:=by rw[cY];omega
 have d:inside 0 512 (len r)=true:=aV aI aI (by rw[bG];omega);by_cases j:∀x∈r.take 512,x=0
 .refine⟨_,_,_,Lt r out.length ai ai j,.inl ⟨rfl,_,(1,(r,out,decide (1024<=r.length/\r.length % 512=0/\∀x∈r,x=0),(),()),out,()),rfl,?_,.inr ⟨rfl,rfl,aW⟩⟩⟩;unfold eA ps0;dsimp only;rw[bL<|by rw[bG];omega,aj,d,aj,show sub r 0 (minus 512 0)=r.take 512 from fY r 512,Vn _ ai,ab,cT ⟨i,j⟩,aj,agO r ai,ab]
 have e:=λb=>JU r out.length b;obtain⟨x,n,m,o⟩:=aeJ _ i;have s:(r.drop 512).length=r.length-512:=qo;unfold b3 eA ps0;dsimp only[rd] at e⊢;rw[aM,aE,aj,ag,aF (by rw[bG];omega),ag,d,show sub r 0 (minus 512 0)=r.take 512 from fY r 512,QW _ ai,ab,bL (a:=512) (by rw[bG];omega),Vn _ ai,ab,cj (λq:(r.take 512).length=512/\∀x∈r.take 512,x=0=>j q.2),m,((take_same _ i).trans m),ab,ab,aV aI (by rw[bG];omega) (sK _),aj,show sub r 512 (minus _ 512)=r.drop 512 from je r 512 ai];by_cases l:n=0
 case neg =>
  rw[ax l];exact⟨_,_,_,rfl,.inl ⟨rfl,_,_,rfl,rfl,.inr ⟨rfl,rfl,rfl⟩⟩⟩
 rw[ay l];obtain⟨t,w⟩:=(o l).2.2.2.1;obtain⟨k,u⟩:=ahB t;rw[u];by_cases y:8192<k
 .rw[aT<|by rw[bG];omega,aj,e,ab,aT ai];exact⟨_,_,_,rfl,.inl ⟨rfl,_,_,rfl,rfl,.inr ⟨rfl,rfl,rfl⟩⟩⟩
 have A:=Z0 k;rw[aF (a:=8192) ai,show nh _=_ from Z4 k ai,ab,show aC .i64 512 _=_ from yP (a:=512) ai];by_cases B:(r.drop 512).length<k
 .rw[aT<|by rw[bG];omega,aj,e,ab,aT (by rw[bG];omega)];exact⟨_,_,_,rfl,.inl ⟨rfl,_,_,rfl,rfl,.inr ⟨rfl,rfl,rfl⟩⟩⟩
 .rw[aF<|by rw[bG];omega,ag,Z1 k ai,ab,eh ai ai];by_cases C:(r.drop 512).length<k+BN k
  .rw[aT<|by rw[bG];omega,aT (by rw[bG];omega)];exact⟨_,_,_,rfl,.inl ⟨rfl,_,_,rfl,rfl,.inr ⟨rfl,rfl,rfl⟩⟩⟩
  .rw[aF<|by rw[bG];omega,aF (by rw[bG];omega)];by_cases D:64<=out.length
   .rw[bL ai,bL (by rw[bG];omega)];exact⟨_,_,_,rfl,.inl ⟨rfl,_,_,rfl,rfl,.inr ⟨rfl,rfl,rfl⟩⟩⟩
   .rw[cN ai,ab,eh ai ai,aV ai (by rw[bG];omega) (sK _),aj,aV ai ai (by rw[bG];omega),aj, show _+_=((k+BN k:Nat):Int) by omega,je _ _ ai,aJ ai,cN<|by rw[bG];omega];have es:sub r 512 (minus ((512+k:Nat):Int) 512)=(r.drop 512).take k:=by
     unfold sub minus
     grind
    refine⟨_,_,_,rfl,.inr ⟨rfl,_,rfl,?_,ai,?_⟩⟩
    .grind
    .rw[show aC .i64 512 _=_ from yP (a:=512) ai,es,show ao _ _ _=aa false from rfl,ab,aV aI ai (by rw[bG];omega),aP dW,ab,show aC .i64 512 _=_ from yP (a:=512) ai,aV ai (by rw[bG];omega) (sK _),je r _ ai,Ap];rfl
def agP:∀m r (out:List Pt) (p:Pt),r.length<=m->r.length<=8192->out.length<=63 ->
  ∃(c:List Pt) (d:Pt) (b:Int×Bool) (z:Nat×PS),Loop iB (((),(),true,()),p,out,rd r ((out.length+1:Nat):Int),())=aa (((),(),false,()),d,c,JT b.1 b.2,()) /\Loop eA (ps0 r<|out++[p])=aa z/\((z.1=0/\b.2=true)\/(z.1=1/\z.2.1.2.1=c/\z.2.1.2.2.1=!b.2)):=by
 intro m;induction m using Nat.strongRecOn with|_ m h =>intro r out p x i j;obtain⟨e,k,l,f,n⟩:=Vo r _ i;have hlen:((out++[p]).length:Int)=((out.length+1:Nat):Int):=aW;rw[hlen] at f;have a:=Vb p out _ ai f;rcases n with ⟨rfl,b,z,rfl,q,s⟩|⟨rfl,g,rfl,y,A,t⟩;{refine⟨out++[p],e,(((out++[p]).length:Int),b),z,?_,by rw[aZ,q];rfl,s⟩;rw[aZ,a];show Loop _ _=_;rw[aZ];rfl};obtain⟨o,d,b,z,u,v,w⟩:=h g.length ai g (out++[p]) e (b8 _) ai ai;exact⟨o,d,b,z,by rw[aZ,a];exact u,by rw[aZ,t];exact v,w⟩
def Vp s:mh (s,())=eY (s,()):=by
 by_cases f:8192<s.length
 .rw[Lu s f];unfold mh vu;dsimp only;rw[aT<|by rw[bG];omega];rfl
 obtain⟨p,v,w,g,h⟩:=Vo s [] ai;have fin:∀(b:Int×Bool) (o:List Pt),(ae (iI ((),JT b.1 b.2,())) λa=>ao a.1.1 (aa _) (aa (o,_)))=aa (if b.2=true then(([]),(10:Int),()) else(o,0,())):=λb o=>by obtain⟨x,i⟩:=b;cases i<;>rfl
 have parts:∀o b z,Loop eA (ps0 s [])=aa z->((z.1=0/\b=true)\/(z.1=1/\z.2.1.2.1=o/\z.2.1.2.2.1=!b))->mh (s,())=aa (if b=true then _ else _):=λo b z j k=>by unfold mh vu;dsimp only;rw[aF<|by rw[bG];omega,show Loop eA ((s,_),_)=_ from j,ab];rcases k with ⟨c,d⟩|⟨c,d,l⟩;{rw[c,d];rfl};rw[c,d,l];cases b<;>rfl
 unfold eY;dsimp only;rw[aF<|by rw[bG];omega,show b3 ((),(true,s,0,_),())=_ from g,ab];rcases h with ⟨rfl,b,z,rfl,m,n⟩|⟨rfl,e,rfl,y,A,q⟩
 {rw[aZ];show _=(ae (iI _) λa=>ao a.1.1 _ _);rw[fin (_,b),parts [] b z (by rw[aZ,m];rfl) n]};obtain⟨o,B,b,z,r,t,u⟩:=agP e.length e [] p (b8 _) ai aW;rw[show Loop iB _=_ from r,ab,fin b o];exact parts o b.2 z (by rw[aZ,q];exact t) u
def y7 s:ks (s,())=aa (if(Gz s).2=0/\hW (Gz s).1=true then 0 else 10,()):=by
 obtain⟨d,e⟩:=OY s;unfold ks;rw[Vp s,d,ab,E2 _ e];by_cases a:(Gz s).2=0
 {rw[ay a];by_cases c:hW (Gz s).1=true;{rw[c,aN ⟨a,rfl⟩];rfl};(have b:hW (Gz s).1=false:=by simpa using c);rw[b,aK λq=>Bool.noConfusion q.2];rfl};rw[ax a,aK λq=>a q.1];rfl
def aaq{l}(a:Valid l){ps}(b:¬hW ps=true):ox l ps=([],10):=by unfold ox;rw[aN a,aK b]
def DY(a:List bD)(id:Tx):Option Nat:=a.findIdx? λx=>decide (x.1=id)
def CV(a:List bD)(id:Tx):Int:=match DY a id with|some i=>(i:Int)|none=>-1
def Ry{ls id i x}(a:ls[i]?=aa x)(b:x.1=id)(c:∀j y,j<i->ls[j]?=aa y->decide (y.1=id)=false):DY ls id=aa i:=by unfold DY;rw[XZ];grind
def JY{ls id}(b:∀(i:Nat) x,ls[i]?=aa x->decide (x.1=id)=false):DY ls id=none:=by unfold DY;rw[adG];intro x a;obtain⟨i,c⟩:=bp.1 a;grind
def y8{ls id i}(h:DY ls id=aa i):∃x,ls[i]?=aa x/\x.1=id:=by unfold DY at h;rw[XZ] at h;grind
def OZ{ls id}:(∃i,DY ls id=aa i)↔∃x∈ls,x.1=id:=by
 constructor
 {rintro⟨i,h⟩;obtain⟨x,a,b⟩:=y8 h;grind};rintro⟨x,a,b⟩;cases h:DY ls id with|some i=>exact⟨i,rfl⟩|none =>unfold DY at h;grind
def ajX{ls id}:CV ls id<0↔¬∃x∈ls,x.1=id:=by rw[<-OZ];unfold CV;grind
def Vq{f} ls (id:Tx) (m:ls.length<=1000000)
  (b:∀c i,f ((c,i,()),())=ao (ba i<|len ls) (ae (idx ls i) λy=>ao (bA y.1 id) (aa<|.inr (1,(i,i,()),())) (aa<|.inl ((c,aC .i64 i 1,()),()))) (aa<|.inr (0,(c,i,()),()))) : ae (Loop f ((0,0,()),())) (λd=>ao (cF d.1 0) (aa ((-1:Int),())) (aa (d.2.1.1,())))=aa (CV ls id,()):=by
 rcases eR (f:=f) ls (λi=>((0,i,()),())) (λ_ x=>decide (x.1=id)) (λi x=>(1,(i,i,()),())) _ ai (λi x a e g=>by rw[b,aq e,aj,au a,ab,di,g];by_cases h:x.1=id<;>simp[bA,h]) (by rw[b,aw];rfl) with ⟨i,x,a,j,k,h⟩|⟨l,h⟩
 .rw[h];unfold CV;rw[Ry a (gb j) k];rfl
 .rw[h];unfold CV;rw[JY l];rfl
def Rz(a:List bD)(id:Tx)(b:a.length<=1000000):Cu (a,id,())=aa (CV a id,()):=Vq a id b λc i=>rfl
def CW(s:aL)(id:Tx)(a:s.2.2.1.length<=1000000):iq (s,id,())=aa (CV s.2.2.1 id,()):=Vq s.2.2.1 id a λc i=>rfl
def AO(a:List bD):Nat->Tx->List bD->List bD×Int|n,id,acc=>match DY a id with|none=>([],3)|some i=>match n,a[i]? with|0,_=>([],5)|n+1,aa x=>if x.2.1=[] then(acc++[x],0) else AO a n x.2.1 (acc++[x])|_,af=>([],3)
def bB(a:List bD)(id:Tx):List bD×Int:=AO a 16 id []
def adi(a:List bD)(c:Tx)(d:a.length<=1000000):∀n (id:Tx) (acc:List bD) k,n+k=16->acc.length<=k ->
  ∃f g j,Loop (lH (a,c,())) ((id,([]:List bD),0,(),k,()),acc,())=aa (1,(f,(AO a n id acc).1,(AO a n id acc).2,g),j):=by
 intro n;induction n with|zero =>(intro id acc k l m;rw[aZ];unfold lH;dsimp only;rw[bL ai,aj,Rz a id d,ab];unfold AO CV;cases h:DY a id with|none=>exact⟨_,_,_,rfl⟩|some i =>dsimp only;rw[aF ai,ag,ay ai,aj];simp_all)|succ n o =>intro id acc k l m;rw[aZ];unfold lH;dsimp only;rw[bL ai,Rz a id d,ab];unfold AO CV;cases h:DY a id with|none=>exact⟨_,_,_,rfl⟩|some i =>obtain⟨x,e,p⟩:=y8 h;dsimp only;rw[ ax ai,au e,ab,show fits _=true from aP (by show _+1<=_;omega),ab,e];dsimp only;rw[cI];by_cases b:x.2.1=[];{rw[cT b,aN b];exact⟨_,_,_,rfl⟩};rw[cj b,aK b,aJ ai];have:=o x.2.1 (acc++[x]) (k+1) ai (by rw[gR];show _+1<=_;omega);exact this
def BP(a:List bD)(id:Tx)(b:a.length<=1000000):ku (a,id,())=aa ((bB a id).1,(bB a id).2,()):=by unfold ku;obtain⟨d,e,f,h⟩:=adi a id b 16 id [] 0 rfl (b8 _);have c:Loop (lH _) ((id,([]),0,(),0,()),_)=_:=h;rw[c];rfl
def al3{ls}:∀{n id acc},(∀x∈acc,x∈ls)->(∀x∈(AO ls n id acc).1,x∈ls)/\(AO ls n id acc).1.length<=n+acc.length:=by intro n;induction n with|zero =>unfold AO;grind|succ n a =>intro id acc h;unfold AO;cases b:DY ls id with|none=>simp|some i =>grind
def BQ{ls id}:(∀x∈(bB ls id).1,x∈ls)/\(bB ls id).1.length<=16:=by obtain⟨a,b⟩:=al3 (acc:=[]) Ak;exact⟨a,by unfold bB;simpa using b⟩
def RA{l}(a:Valid l) s:qC (l,s,())=aa ((hY l s).1,(hY l s).2,()):=by
 obtain⟨d,e⟩:=OY s;obtain⟨v,f,g⟩:=pb l (fG a);unfold qC;rw[f,ab,g.2 a,aM,ag,y7 s,ab,Vp s,d];unfold hY;by_cases b:(Gz s).2=0
 {rw[aN b];by_cases c:hW (Gz s).1=true;{rw[aN ⟨b,c⟩,show nt _=false from rfl,ag,ab,adb l _ (fG a) e,ab]};rw[aK<|λq=>c q.2,aaq a c];rfl};rw[aK b,aK λq=>b q.1];rfl
def agQ(b:List Tx)(p:b.length<=1000000):zW (b,())=aa ((wq b []).1,(wq b []).2,()):=by
 unfold zW;have key:∀r t k,b=b.take k++r->k+r.length=b.length->Valid t->∃q,(Loop (iZ (b,())) ((([]:List Nd),(0:Int),t,(k:Int),()),())=aa (1,(([]),(wq r t).2,q),())/\(wq r t).1=[]) \/
   ∃j l m,Loop (iZ (b,())) ((([]:List Nd),(0:Int),t,(k:Int),()),())=aa (0,(j,l,(wq r t).1,m),())/\(wq r t).2=0:=by
  intro r;induction r with|nil =>intro t k n a e;rw[qp,IA] at a;refine⟨((t,k,()):List Nd×Int×al),.inr ⟨[],0,(k,()),?_,rfl⟩⟩;rw[aZ];unfold iZ;rw[a,aw];rfl|cons d r o =>(intro t k n a e;rw[iG] at a;have hx:b[k]?=aa d:=by grind);(have step:iZ (b,()) ((([]),0,t,k,()),())=aa (if(hY t d).2=0 then .inl ((([]),0,(hY t d).1,((k+1:Nat):Int),()),()) else .inr (1,(([]),(hY t d).2,t,k,()),())):=by unfold iZ;dsimp only;rw[aq ai,aj,au hx,ab,RA e d,ab,aJ ai];by_cases c:(hY t d).2=0;{rw[ay c,aM,ag,aN c]};rw[ax c,aE,aj,aK c]);rw[aZ,step];unfold wq;by_cases c:(hY t d).2=0;{(rw[aN c,aN c];have f:Valid (hY t d).1:=by rcases LA e d with ⟨_,h,_⟩|⟨h,_⟩;{exact h};grind);exact o (hY t d).1 _ (by rw[yn,hx];simpa using n) ai f};grind
 obtain⟨q,⟨h,g⟩|⟨j,l,m,h,g⟩⟩:=key b [] 0 aW aW (CQ ac4.1)
 {have i:Loop _ ((([]),(0:Int),([]),(0:Int),()),())=_:=h;rw[i,ab,g];rfl};have i:Loop (iZ _) ((([]),0,([]),0,()),())=_:=h;rw[i,g];rfl
def x4(a:List bD)(b:List Tx)(id:Tx):Tx:=match DY a id with|some i=>(b[i]?).getD []|none=>[]
def dZ(a:List bD)(b:List Tx)(id:Tx):List Nd×Int :=if(bB a id).2=0 then wq ((bB a id).1.reverse.map λx=>x4 a b x.1) [] else([],(bB a id).2)
def CX(s:aL)(i:Nat):jY (s,i,())=aa ((s.2.2.2.1[i]?).getD [],()):=by
 unfold jY;dsimp only;by_cases h:i<s.2.2.2.1.length
 {have hx:=gQ h;rw[aq h,au hx,hx];rfl};have hx:s.2.2.2.1[i]?=none:=SK ai;rw[aF ep,hx];rfl
def y9(s:aL)(id:Tx)(h:s.2.2.1.length<=1000000):jZ (s,id,())=aa ((dZ s.2.2.1 s.2.2.2.1 id).1,(dZ s.2.2.1 s.2.2.2.1 id).2,()):=by
 obtain⟨j,d⟩:=BQ;unfold jZ dZ;rw[BP _ id h,ab];by_cases b:(bB s.2.2.1 id).2=0
 .rw[ay b,aM,ag,aN b];generalize (bB s.2.2.1 id).1=c at j d;generalize l:(c,_)=q;have e:q.1=c:=by rw[<-l]
  have key:∀n a,n<=c.length->a.length+n<=1000->∃z,Loop (mS (s,id,()) q) (((),n-1,()),a,())=aa (z,(a++(c.take n).reverse.map λx=>x4 s.2.2.1 s.2.2.2.1 x.1,())):=by intro n;induction n with|zero =>intro a _ _;rw[aZ];unfold mS;dsimp only;rw[cN ai,ag];simp[cf]|succ n m =>(intro a o p;obtain⟨x,f⟩:∃x,c[n]?=aa x:=⟨_,gQ ai⟩;obtain⟨i,k⟩:=OZ.2 ⟨x,j x (kG f),rfl⟩;have hd:x4 s.2.2.1 s.2.2.2.1 x.1=(s.2.2.2.1[i]?).getD []:=by unfold x4;rw[k]);(obtain⟨z,g⟩:=m (a++[x4 s.2.2.1 s.2.2.2.1 x.1]) ai (by rw[gR];show _+1+n<=_;omega);refine⟨z,?_⟩;have step:mS (s,id,()) q (((),n,()),a,())=aa (.inl (((),n-1,()),a++[x4 s.2.2.1 s.2.2.2.1 x.1],())):=by unfold mS;dsimp only;rw[ e,au f,ab,CW s x.1 h,ab,show CV s.2.2.1 x.1=i by unfold CV;rw[k],CX s i,ab,<-hd,show fits _=true from aP (by show _+1<=_;omega),dc ai ai];rfl);rw[show((n+1:Nat):Int)-1=n by omega,aZ,step];refine Bd g ?_;rw[yn,f];simp
  obtain⟨z,g⟩:=key c.length [] (b8 _) dW;have hlen:cR .i64 (len c) 1=c.length-1:=dc ep ep;rw[hlen,g,ab,Ao,Gn,agQ _ (by rw[qg,Ut];omega),ab]
 rw[ax b,aE,aj,aK b]
def mA(s:Tx):Prop:=(Gz s).2=0/\hW (Gz s).1=true
structure AP (ls:List bD) (ds:List Tx):Prop where
 same:ds.length=ls.length
 chain:∀x∈ls,(bB ls x.1).2=0
 each:∀(i:Nat) (x:bD) (d:Tx),ls[i]?=aa x->ds[i]?=aa d->x.2.2.2.2.2.2.1=true/\x.2.2.2.2.2.1=0/\x.2.2.2.2.1=(d.length:Int)/\x.2.2.2.1=ql d/\mA d/\(dZ ls ds x.1).2=0
open Classical in
def Xi(s:aL)(C:s.2.2.1.length<=100)(A:∀d∈s.2.2.2.1,d.length<=8192):∃b,tE (s,())=aa (b,())/\(b=true↔AP s.2.2.1 s.2.2.2.1):=by
 have l:vC (s.2.2.1,())=aa (if(∀x∈s.2.2.1,(bB s.2.2.1 x.1).2=0) then 0 else 2,()):=by
  unfold vC;rcases eR (f:=pU (s.2.2.1,())) s.2.2.1 (λi=>((0,i,()),())) (λ_ x=>decide ((bB s.2.2.1 x.1).2≠0)) (λi x=>(1,(2,i,()),())) _ ai (λi x c m w=>by unfold pU;dsimp only;rw[aq m,au c,ab,BP _ x.1 ai,ab,w];by_cases h:(bB s.2.2.1 x.1).2=0;{rw[ay h];simp[h,nt,ao]};rw[ax h];simp[h,nt,ao]) (by unfold pU;rw[aw];rfl) with ⟨i,x,c,y,_,h⟩|⟨z,h⟩
  .rw[h,aK λq=>by simp[q x<|kG c] at y];rfl
  rw[h,aN λx c=>by
  obtain⟨i,m⟩:=bp.1 c;have:=z i x m;simpa using this];rfl
 unfold tE;rw[l,ab];by_cases e:s.2.2.2.1.length=s.2.2.1.length
 .rw[ay<|show @len Tx s.2.2.2.1=@len bD s.2.2.1 by unfold len;omega,aM,aE,aj,ab];by_cases g:∀x∈s.2.2.1,(bB s.2.2.1 x.1).2=0
  .rw[aN g];obtain⟨j,n⟩:∃j:Nat->bD->Prop,∀i x,j i x↔¬∃d,s.2.2.2.1[i]?=aa d/\x.2.2.2.2.2.2.1=true/\x.2.2.2.2.2.1=0/\x.2.2.2.2.1=(d.length:Int)/\x.2.2.2.1=ql d/\mA d/\(dZ s.2.2.1 s.2.2.2.1 x.1).2=0:=⟨_,λ_ _=>Iff.rfl⟩;rcases eR (f:=n6 (s,())) s.2.2.1 (λi=>((false,i,()),())) _ _ _ ai (λi x c m w=>by
    (obtain⟨d,a⟩:∃d,s.2.2.2.1[i]?=aa d:=⟨_,gQ ai⟩;have B:=A d (kG a);unfold n6;dsimp only;rw[aq m,aj,aq ai,aj,au c,ab,au a,ab,ab,F1 d ai,ab,ab,y7 d,ab,y9 s x.1 ai,ab,w];have k:j i x↔¬(x.2.2.2.2.2.2.1=true/\x.2.2.2.2.2.1=0/\x.2.2.2.2.1=d.length/\x.2.2.2.1=ql d/\mA d/\(dZ s.2.2.1 s.2.2.2.1 x.1).2=0):=by grind);by_cases o:x.2.2.2.2.2.2.1=true
    rotate_left
    .rw[aN<|cT<|k.2 λq=>o q.1,show x.2.2.2.2.2.2.1=false by simpa using o];rfl
    rw[o,aM,ag];by_cases p:x.2.2.2.2.2.1=0
    .rw[ay p,aM,ag];by_cases r:x.2.2.2.2.1=d.length
     .rw[show aR x.2.2.2.2.1 (@len UInt8 d)=true from ay r,aM,ag,cI];by_cases t:x.2.2.2.1=ql d
      .rw[cT t,aM,ag];by_cases u:mA d
       .rw[aN<|show(Gz d).2=0/\hW (Gz d).1=true from u,show nt _=false from rfl,ag];by_cases v:(dZ s.2.2.1 s.2.2.2.1 x.1).2=0
        .rw[ay v,aM,ag,aK (by rw[Pe];exact λq=>k.1 q ⟨o,p,r,t,u,v⟩)]
        .rw[ax v,aE,aj,aN (cT<|k.2 λq=>v q.2.2.2.2.2)]
       .rw[aK<|show ¬((Gz d).2=0/\hW (Gz d).1=true) from u,show nt _=true from rfl,aj,aN (cT<|k.2 λq=>u q.2.2.2.2.1)]
      .rw[cj t,aE,aj,aN (cT<|k.2 λq=>t q.2.2.2.1)]
     .rw[show aR x.2.2.2.2.1 (@len UInt8 d)=false from ax r,aE,aj,aN (cT<|k.2 λq=>r q.2.2.1)]
    .rw[ax p,aE,aj,aN (cT<|k.2 λq=>p q.2.1)]) (by
    unfold n6;rw[aw];rfl) with ⟨i,x,c,y,_,h⟩|⟨z,h⟩
   .rw[h];refine⟨false,rfl,λq=>(by cases q),λq=>?_⟩;obtain⟨d,a⟩:∃d,s.2.2.2.1[i]?=aa d:=⟨_,gQ (by have:=aA c;omega)⟩;exact absurd ⟨d,a,q.each i x d c a⟩ ((n i x).1<|gb y)
   .rw[h];refine⟨true,rfl,λ_=>⟨e,g,λi x d c a=>?_⟩,λ_=>rfl⟩
    grind
  .rw[aK g];exact⟨false,rfl,λq=>(by cases q),λq=>absurd q.chain g⟩
 .rw[ax<|show @len Tx s.2.2.2.1≠@len bD s.2.2.1 by unfold len;omega];exact⟨false,rfl,λq=>(by cases q),λq=>absurd q.same e⟩
structure uw (s:aL):Prop where
 ll:s.2.2.1.length<=40
 il:s.2.1.length<=40
 bl:s.1.length<=40
 xl:∀x∈s.2.2.1,BdL x
 xi:∀x∈s.2.1,BdI x
 xb:∀x∈s.1,BdB x
 dl:∀d∈s.2.2.2.1,d.length<=8192
 ml:s.2.2.2.2.1.length<=1000000
def uw.apE{s}(h:uw s):BdX (0,s.2.2.1,[],[],()) :=⟨⟨h.ll,λx a=>(h.xl x a).2.2.1,aW,λx a=>(by cases a),aW,λx a=>(by cases a)⟩,h.xl,λx a=>(by cases a),λx a=>(by cases a)⟩
def uw.apF{s}(h:uw s):BdX (0,[],s.2.1,[],()) :=⟨⟨aW,λx a=>(by cases a),h.il,λx a=>(h.xi x a).2.1,aW,λx a=>(by cases a)⟩,λx a=>(by cases a),h.xi,λx a=>(by cases a)⟩
def uw.apG{s}(h:uw s):BdX (0,[],[],s.1,()) :=⟨⟨aW,λx a=>(by cases a),aW,λx a=>(by cases a),h.bl,λx a=>(h.xb x a).2.1⟩,λx a=>(by cases a),λx a=>(by cases a),h.xb⟩
def aar(s:aL)(x:eE):Prop:=x.2.2.1=[]\/∃y∈s.2.2.1,y.1=x.2.2.1
def E5(s:aL)(x:r5):Prop:=(x.2.2.1=[]\/∃y∈s.2.1,y.1=x.2.2.1)/\∃y∈s.2.2.1,y.1=x.2.2.2.1
def O0(s:aL)(x:uV):Prop:=(∃y∈s.2.2.1,y.1=x.1)/\1<=x.2.1/\x.2.1<=1000
structure lN (s:aL):Prop where
 b:jh 1 (0,[],[],s.1,())
 i:jh 2 (0,[],s.2.1,[],())
 l:jh 3 (0,s.2.2.1,[],[],())
 lays:AP s.2.2.1 s.2.2.2.1
 NV:s.2.2.2.2.1.length<=32
 tops:∀x∈s.2.1,aar s x
 refs:∀x∈s.1,E5 s x
 U9:∀x∈s.2.2.2.2.1,O0 s x
 GZ:(s.2.2.2.2.1.map (·.1)).Pairwise λx y=>dK x y=true
def an7{p}[Decidable p](h:p):¬decide (¬p)=true:=by simpa using h
def an8{p}[Decidable p](h:¬p):decide (¬p)=true:=cT h
def ajY(s:aL)(x:r5)(b:s.2.1.length<=1000000) c:∃q,Loop (oT (s,()) x) ((c,0,()),())=aa ((c||s.2.1.any (λy=>decide (y.1=x.2.2.1)),q),()):=by
 obtain⟨t,_,h,j⟩:=sz (f:=oT (s,()) x) s.2.1 (λc i=>((c,i,()),())) (λc _ y=>c||decide (y.1=x.2.2.1)) _ (λ_ _=>True) ai (λc i y d b e _=>by
  refine⟨?_,trivial⟩;unfold oT;rw[aq b,aj,e];cases c with|true=>rfl|false =>rw[ag,au d,ab,cI];by_cases q:y.1=x.2.2.1<;>simp[ cf]) (λc _=>by
  unfold oT;rw[aw];rfl) c trivial
 have:t=(c||s.2.1.any λy=>decide (y.1=x.2.2.1)):=by
  have key:∀(l:List eE) k c,(l.zipIdx k).foldl (λa p=>a||decide (p.1.1=x.2.2.1)) c=(c||l.any λy=>decide (y.1=x.2.2.1)):=by intro l;induction l with|nil=>simp|cons y r g=>intro k c;rw[List.zipIdx_cons,Nb,g];simp[adY]
  grind
 grind
open Classical in
def Vr s (h:uw s):∃b,wc (s,())=aa (b,())/\(b=true↔lN s):=by
 have R:=h.ll;obtain⟨S,T,K⟩:=ER 1 (0,[],[],_) (.inl rfl) rfl h.apG;obtain⟨U,V,L⟩:=ER 2 (0,[],s.2.1,_) (.inr<|.inl rfl) rfl h.apF;obtain⟨W,X,M⟩:=ER 3 (0,s.2.2.1,[],_) (.inr<|.inr rfl) rfl h.apE;obtain⟨N,Y,O⟩:=Xi s ai h.dl;have F:ba 32 (@len uV s.2.2.2.2.1)=decide (32<s.2.2.2.2.1.length):=by unfold len;apply fk.2;omega
 unfold wc;rw[T,ab,H4 (by rw[V,ab]),H4 (by rw[X,ab]),H4 (by rw[Y,ab]),F];by_cases n:S=0
 rotate_left
 .rw[ax n];exact⟨false,rfl,λq=>(by cases q),λq=>absurd (K.2 q.b) n⟩
 by_cases r:U=0
 rotate_left
 .rw[ay n,ax r];exact⟨false,rfl,λq=>(by cases q),λq=>absurd (L.2 q.i) r⟩
 by_cases t:W=0
 rotate_left
 .rw[ay n,ay r,ax t];exact⟨false,rfl,λq=>(by cases q),λq=>absurd (M.2 q.l) t⟩
 by_cases v:N=true
 rotate_left
 .have:N=false:=by simpa using v
  rw[ay n,ay r,ay t,this];exact⟨false,rfl,λq=>(by cases q),λq=>absurd (O.2 q.lays) v⟩
 by_cases P:32<s.2.2.2.2.1.length
 .rw[ay n,ay r,ay t,v,cT P];exact⟨false,rfl,λq=>(by cases q),λq=>by have:=q.NV;omega⟩
 rw[ay n,ay r,ay t,v,cj P];have e:∀id,iq (s,_)=aa _:=λid=>CW s id ai;have g:∀id,ba (CV s.2.2.1 id) 0=decide _:=λid=>by unfold ba;exact fk.2 ajX
 rcases eR (f:=tF (s,())) s.2.1 (λi=>((false,i,()),())) (λ_ x=>decide (¬aar s x)) (λi x=>(1,_)) (0,(false,_),()) (by have:=h.il;omega) (λi x d o u=>by
  unfold tF;rw[aq o,aj,au d,ab,cI,u];by_cases q:x.2.2.1=[]
  .rw[cT q,aM,ag,aK (an7<|.inl q)]
  .rw[cj q,aE,aj,ab,e,ab,g];by_cases z:∃y∈s.2.2.1,y.1=x.2.2.1
   .rw[cj<|λw=>w z,ag,aK (an7<|.inr z)]
   .rw[cT z,aj,aN (an8<|by rintro(w|w);exact q w;exact z w)]) (by
  unfold tF;rw[aw];rfl) with ⟨i,x,d,A,_,j⟩|⟨Q,j⟩
 .rw[j,ab];exact⟨false,rfl,λq=>(by cases q),λq=>absurd (q.tops x<|kG d) (gb A)⟩
 have t1:∀x∈s.2.1,aar s x:=λx d=>by
  obtain⟨i,o⟩:=bp.1 d
  grind
 rw[j,ab];rcases eR (f:=tG (s,())) s.1 (λi=>((false,i,()),())) (λ_ x=>decide (¬E5 s x)) (λi x=>(1,(false,_),())) (0,(false,_),()) (by have:=h.bl;omega) (λi x d o u=>by
  obtain⟨q,Z⟩:=ajY s x (by have:=h.il;omega) _;unfold tG;rw[aq o,au d,ab,Z,ab,u,H4<|by rw[e,ab,g]];have G:(bA x.2.2.1 []||s.2.1.any λy=>decide (y.1=x.2.2.1))=decide (x.2.2.1=[]\/∃y∈s.2.1,y.1=x.2.2.1):=by
   rw[cI]
   grind
  rw[G];by_cases m:x.2.2.1=[]\/∃y∈s.2.1,y.1=x.2.2.1
  .by_cases p:∃y∈s.2.2.1,y.1=x.2.2.2.1
   .rw[cT m,cj (λw=>w p),aK (an7 ⟨m,p⟩)];rfl
   .rw[cT m,cT p,aN (an8 λw=>p w.2)];rfl
  .rw[cj m,aN (an8 λw=>m w.1)];rfl) (by
  unfold tG;rw[aw];rfl) with ⟨i,x,d,A,_,j⟩|⟨Q,j⟩
 .rw[j,ab];exact⟨false,rfl,λq=>(by cases q),λq=>absurd (q.refs x<|kG d) (gb A)⟩
 have t2:∀x∈s.1,E5 s x:=λx d=>by
  obtain⟨i,o⟩:=bp.1 d
  grind
 rw[j,ab];obtain⟨B,c⟩:∃B:Nat->uV->Prop,∀i x,B i x↔¬(O0 s x/\∀k y,k+1=i->s.2.2.2.2.1[k]?=aa y->dK y.1 x.1=true):=⟨_,λ_ _=>Iff.rfl⟩;rcases eR (f:=tH (s,())) s.2.2.2.2.1 (λi=>((false,i,()),())) _ (λi x=>(1,(false,i,()),())) (0,(false,_),()) ai (λi x d o u=>by
  unfold tH;dsimp only;rw[aq o,aj,au d,ab,e,ab,g,u];by_cases m:∃y∈s.2.2.1,y.1=x.1
  rotate_left
  .rw[cT m,aj,aN (cT<|(c i x).2 λw=>m w.1.1)]
  rw[cj<|λw=>w m,ag];by_cases p:1<=x.2.1
  rotate_left
  .rw[aT ai,aj,aN (cT<|(c i x).2 λw=>p w.1.2.1)]
  rw[aF ai,ag];by_cases H:x.2.1<=1000
  rotate_left
  .rw[aT ai,aj,aN (cT<|(c i x).2 λw=>H w.1.2.2)]
  rw[aF ai,ag];cases i with
  | zero =>
    rw[show ba 0 _=false from rfl,ag,aK (by rw[Pe,c];exact λw=>w ⟨⟨m,p,H⟩,λk y I=>ai⟩)]
  | succ k =>
    obtain⟨y,C⟩:∃y,s.2.2.2.2.1[k]?=aa y:=⟨_,gQ ai⟩;rw[aT ai,aj,dc ai ai,show((k+1:Nat):Int)-1=k by omega,au C,ab];by_cases E:dK y.1 x.1=true
    .rw[E,aM,ag,aK (by
     rw[Pe,c];refine λw=>w ⟨⟨m,p,H⟩,λk' y' I D=>?_⟩;obtain rfl:k'=k:=ai;rw[C] at D;obtain rfl:=aU D;exact E)]
    .rw[show dK y.1 x.1=false by simpa using E,aE,aj,aN (cT<|(c _ x).2 λw=>E (w.2 k y rfl C))]) (by
  unfold tH;rw[aw];rfl) with ⟨i,x,d,A,_,j⟩|⟨Q,j⟩
 .rw[j];refine⟨false,rfl,λq=>(by cases q),λq=>absurd ⟨q.U9 x<|kG d,λk y I C=>?_⟩ ((c i x).1<|gb A)⟩;subst I;exact Q6.1 q.GZ k y.1 x.1 (by rw[B7,C];rfl) (by rw[B7,d];rfl)
 rw[j];have J:∀i x,s.2.2.2.2.1[i]?=aa x->O0 s x/\∀k y,k+1=i->s.2.2.2.2.1[k]?=aa y->dK y.1 x.1=true:=λi x d=>by
  grind
 refine⟨true,rfl,λ_=>⟨K.1 n,L.1 r,M.1 t,O.1 v,ai,t1,t2,λx d=>?_,Q6.2 λi a b u hb=>?_⟩,λ_=>rfl⟩
 .obtain⟨i,o⟩:=bp.1 d
  grind
 .grind
def RB{b:Type}{p}:∀{l:List b} {x},x∈l.takeWhile p->p x=true:=by intro l;induction l with|nil=>intro x h;cases h|cons a r c =>intro x h;rw[Pm] at h;split at h;{rename_i d;rcases eK.1 h with rfl|h;{exact d};exact c h};cases h
section
variable {α:Type} (key:α->Tx)
def lR(l:List α)(x:α):List α:=l.takeWhile (λy=>dK (key y) (key x))++[x]++l.dropWhile (λy=>dK (key y) (key x))
def cU(l:List α)(p:Tx):Nat:=(l.takeWhile λy=>dK (key y) p).length
def kA(l:List α):Prop:=(l.map key).Pairwise λx y=>dK x y=true
def jN l p:cU key l p<=l.length:=by unfold cU;have:=congrArg List.length (Al (p:=λy=>dK (key y) p) (l:=l));rw[gR] at this;omega
def CY(l:List α) x:l.take (cU key l<|key x)=l.takeWhile (λy=>dK (key y) (key x))/\l.drop (cU key l<|key x)=l.dropWhile (λy=>dK (key y) (key x)):=by
 have e:=Al (p:=λy=>dK (key y) (key x)) (l:=l);refine⟨?_,?_⟩
 .unfold cU;conv=>lhs;rw[<-e]
  rw[adV];rw[e]
 unfold cU;conv=>lhs;rw[<-e]
 rw[ahS];rw[e]
def uZ l x (a:l.length<=1000000):vX l ((cU key l (key x):Nat):Int) [x]=aa (lR key l x):=by have b:=jN key l (key x);unfold vX lR;rw[show inside 0 _ _=true from aV aI ai ep,aP dW,An,(CY key l x).1,(CY key l x).2];rfl
def mB{S R f} l (p:Tx) (v:l.length<=1000000) (mk:Int->S) (c:Nat->R) fin
  (o:∀(i:Nat) y,l[i]?=aa y->f (mk i)=aa (if dK (key y) p=true then .inl (mk ((i+1:Nat):Int)) else .inr (c i))) (q:f (mk (l.length:Int))=aa (.inr fin)) : Loop f (mk 0)=aa (if cU key l p<l.length then c (cU key l p) else fin):=by
 have d:∀k,k<=l.length->(∀j y,j<k->l[j]?=aa y->dK (key y) p=true)->(∀y,l[k]?=aa y->dK (key y) p=false)->cU key l p=k:=by
  intro k s g m;have e:l.takeWhile (λy=>dK (key y) p)=l.take k:=by clear o q;revert k;induction l with|nil=>simp|cons a r w =>intro k s g m;cases k with|zero=>rw[Pm,m a rfl];rfl|succ k =>rw[Pm,g 0 a ai rfl,aN rfl,adN,w (by simp at v;omega) k (by simp at s;omega) (λj y t b=>g (j+1) y ai b) λy b=>m y b]
  unfold cU;rw[e,cY];omega
 rcases eR l mk (λ_ y=>!dK _ p) _ fin ai (λi y b u B=>by rw[o i y b];cases dK _ p<;>rfl) q with ⟨i,x,hx,z,t,h⟩|⟨A,h⟩
 .have u:=aA hx;have:=d i ai (λj y n b=>by simpa using t j y n b) (λy b=>by rw[hx] at b;obtain rfl:=aU b;simpa using z)
  rw[h,this,aN u]
 .have:=d l.length (b8 _) (λj y _ b=>by simpa using A j y b) (λy b=>by rw[SK<|b8 _] at b;cases b);rw[h,aK ai]
def BR l x:(lR key l x).Perm (x::l):=by
 have h:(l.takeWhile (λy=>dK (key y) (key x))++[x]++l.dropWhile λy=>dK (key y) (key x)).Perm (x::(l.takeWhile (λy=>dK (key y) (key x))++l.dropWhile λy=>dK (key y) (key x))):=by rw[rO];exact List.perm_middle
 rw[(Al (p:=λy=>dK (key y) (key x)) (l:=l))] at h;exact h
def wu{l x y}:y∈lR key l x↔y=x\/y∈l:=by rw[(BR key l x).mem_iff,eK]
def E6 l x:(lR key l x).length=l.length+1:=by rw[(BR key l x).length_eq,iG]
def kA.inj{l}(h:kA key l){x y}(f:x∈l)(g:y∈l)(e:key x=key y):x=y:=by
 unfold kA at h;rw[Uu] at h;obtain⟨i,a⟩:=bp.1 f;obtain⟨j,b⟩:=bp.1 g;have c:=aA a;have d:=aA b;rw[gQ c] at a;rw[gQ d] at b;obtain rfl:=aU a;obtain rfl:=aU b;rcases Ma i j with q|q|q
 .have:=D3.1 h i j c d q;rw[e,fE] at this;cases this
 {subst q;rfl};have:=D3.1 h j i d c q;rw[e,fE] at this;cases this
def O1{l}(h:kA key l){x}(f:∀y∈l,key y≠key x):kA key (lR key l x):=by
 unfold kA at h⊢;rw[Uu] at h⊢;unfold lR;have e:=Al (p:=λy=>dK (key y) (key x)) (l:=l);have hA:∀y∈l.takeWhile (λy=>dK (key y) (key x)),dK _ _=true:=λy hy=>RB (p:=λy=>dK _ _) hy;have g:∀y∈l.dropWhile (λy=>dK (key y) (key x)),dK (key x) (key y)=true:=by clear e hA;induction l with|nil=>intro y hy;cases hy|cons a r i =>intro y hy;rw[X2] at hy;rw[ym] at h;split at hy;{exact i h.2 (λz j=>f z (wG _ j)) y hy};(rename_i k;have c:dK (key x) (key a)=true:=by rcases CE _ _ with q|q|q;{exact absurd q k};{exact absurd q (f a<|pg ..)};exact q);rcases eK.1 hy with rfl|hy;{exact c};exact Bz c (h.1 y hy)
 rw[<-e] at h;rw[Pk] at h;obtain⟨m,n,o⟩:=h;rw[rO,Pk];refine⟨m,?_,λa c b d=>?_⟩
 {rw[Us,ym];exact⟨g,n⟩};rw[Us] at d;rcases eK.1 d with rfl|d;{exact hA a c};exact o a c b d
def sR(l:List α)(p:Tx):List α:=l.filter λx=>decide (key x≠p)
def F4{l p x}:x∈sR key l p↔x∈l/\key x≠p:=by unfold sR;rw[B8,Pe]
def mC l p:(sR key l p).Sublist l:=List.filter_sublist
def Xj{l}(h:kA key l) p:kA key (sR key l p):=am4 ((mC key l p).map key) h
def E7{l p}(h:∀x∈l,key x≠p):sR key l p=l:=by unfold sR;rw[Hp];intro x a;exact cT (h x a)
def aeV{l}(h:kA key l){i x}(b:l[i]?=aa x):l.take i++l.drop (i+1)=sR key l (key x):=by
 unfold kA at h;rw[Uu] at h;have a:=aA b;have hd:l.drop i=x::l.drop (i+1):=by rw[zm a];rw[gQ a] at b;rw[aU b]
 have d:l=l.take i++(x::l.drop (i+1)):=by rw[<-hd,Ba]
 rw[d,Pk,ym] at h;obtain⟨_,⟨e,_⟩,f⟩:=h;unfold sR;conv=>rhs;rw[d]
 rw[Yc,adS,aK aW];congr 1
 {symm;rw[Hp];intro y c;exact cT (wR<|f y c x<|pg ..)};symm;rw[Hp];intro y c;exact cT λq=>wR (e y c) q.symm
end
end Go.Ge
