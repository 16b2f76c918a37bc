import Derived.Test.YtcebnmppipejfaaGreatDoorPlH
set_option linter.unusedSectionVars false
set_option linter.unusedVariables false
set_option linter.unusedSimpArgs false
set_option linter.defProp false
noncomputable section
open Option renaming some->aa,none->af
open Sum renaming inl->aG
namespace Go.Ge
variable [Lp]
def aml{s}(h:lN s) x d:J2 s x d=RF s x d:=by unfold J2 RF;rw[Xp h.lays.same]
structure apL (s:aL) (on:Tx) (given:List Tx) (df:Tx) (r:aL×lS×al):Prop where
 id:BG r.2.1.2.1
 new:∀y∈s.2.2.1,y.1≠r.2.1.2.1
 SJ:∀y∈s.2.2.1,∀n∈y.2.2.1,n∉given
 par:dR s on=[]\/∃y∈s.2.2.1,y.1=dR s on
 find:on≠[]->(aS (fH s) on).2.1=0
 app:df≠[]->(hY (zr s<|dR s on).1 df).2=0
 val:r=(RF s (NZ r.2.1.2.1 (dR s on) given df)<|AQ df,BS r.2.1.2.1,())
 okl:OkL (NZ r.2.1.2.1 (dR s on) given df)
def J4{s}(a:lN s){y}(b:y∈s.2.2.1):((y.1,y.2.2.1,()):Nm)∈fH s:=by obtain⟨e,i,c,d⟩:=C2 a.lays.same b;unfold fH;rw[Hs];refine⟨y,b,?_⟩;unfold ofL;simp[((a.lays.each i y e c d).1)]
def amm{s}(d:lN s):(fH s).length=s.2.2.1.length:=by
 have b:∀y∈s.2.2.1,y.2.2.2.2.2.2.1=true:=λy c=>by obtain⟨e,i,g,h⟩:=C2 d.lays.same c;exact(d.lays.each i y e g h).1
 have:∀l:List bD,(∀y∈l,y.2.2.2.2.2.2.1=true)->(l.flatMap ofL).length=l.length:=by intro l;induction l with|nil=>intro _;rfl|cons a r j =>intro f;rw[M9,gR,j λy c=>f y (by simp[c])];have:=f a aW;simp[ofL,this];omega
 exact this _ b
def VA{s}(M:uw s)(o:lN s) on given f d (N:ow given) (C:f.length<=8192) :
  let r:=crS s on given f d
  lN r.1/\uw r.1/\(r.2.1.1≠0->r=(s,gl r.2.1.1,()))/\(r.2.1.1=0->apL s on given f r):=by
 intro r;have b:r=crS s on given f d:=rfl;unfold crS at b;have bad:∀e,e≠0->r=(s,gl e,())->lN r.1/\uw r.1/\(r.2.1.1≠0->r=(s,gl r.2.1.1,()))/\(r.2.1.1=0->apL s on given f r):=by
  intro e j h;rw[h];exact⟨o,M,λ_=>rfl,λq=>absurd q j⟩
 by_cases c1:dA given≠0
 .rw[aN c1] at b;exact bad _ c1 b
 rw[aK c1] at b;by_cases D:f≠[]/\¬mA f
 .rw[aN D] at b;exact bad _ aI b
 rw[aK D] at b;by_cases c2:on≠[]/\(aS (fH s) on).2.1≠0
 .rw[aN c2] at b;exact bad _ c2.2 b
 rw[aK c2] at b;by_cases c3:ju (fH s) [] given≠0
 .rw[aN c3] at b;exact bad _ c3 b
 rw[aK c3] at b;by_cases c4:(cO (fH s) d).2.1≠0
 .rw[aN c4] at b;exact bad _ c4 b
 rw[aK c4] at b;by_cases c5:dR s on≠[]/\(bB s.2.2.1<|dR s on).2=0/\16<=(bB s.2.2.1<|dR s on).1.length
 .rw[aN c5] at b;exact bad _ aI b
 rw[aK c5] at b;by_cases c6:f≠[]/\(zr s<|dR s on).2≠0
 .rw[aN c6] at b;exact bad _ c6.2 b
 rw[aK c6] at b;by_cases c7:f≠[]/\(hY (zr s<|dR s on).1 f).2≠0
 .rw[aN c7] at b;exact bad _ c7.2 b
 rw[aK c7] at b;have v:=λh=>nF λq=>c7 ⟨h,q⟩;have p:=λh=>nF λq=>c2 ⟨h,q⟩;obtain⟨E,A,O⟩:=yU (nF c4);rw[amm o] at E;obtain⟨P,Q⟩:=Xm (nF c3) (λy i=>by
  obtain⟨x,F,rfl⟩:=C0 i;intro j;have:=(o.l.ll x F).id;rw[show x.1=[] from j] at this;exact sb this)
 have B:∀y∈s.2.2.1,∀n∈y.2.2.1,n∉given:=λy i n R=>Q _ (J4 o i) n R;have m:∀y∈s.2.2.1,y.1≠(cO _ d).1:=λy i=>O _ (J4 o i);have g:dR s on=[]\/∃y∈s.2.2.1,y.1=dR s on:=by
  unfold dR;by_cases c:on=[]
  .rw[aN c];exact .inl rfl
  .rw[aK c];right;obtain⟨y,i,j⟩:=nz (p c);obtain⟨x,F,rfl⟩:=C0 i;exact⟨x,F,j⟩
 rw[aml o] at b;have t:r.2.1.2.1=(cO (fH s) d).1:=by rw[b];rfl
 generalize (cO _ d).1=id at b A m t;have G:dR s on≠id:=by
  rcases g with q|⟨y,i,j⟩
  .rw[q];intro k;rw[<-k] at A;exact sb A
  .rw[<-j];exact m y i
 have w:dR s on=[]\/BG (dR s on):=by
  rcases g with q|⟨y,i,j⟩
  .exact .inl q
  .exact .inr (j▸(o.l.ll y i).id)
 have u:∀{a},BG a->a.length<=1048576:=λ{a} h=>by have:=h.2;omega
 have H:(AQ f).length<=8192:=by
  unfold AQ;by_cases k:f=[]
  .rw[aN k,uX];decide
  .rw[aK k];exact C
 have I:mA (AQ f):=by
  unfold AQ;by_cases k:f=[]
  .rw[aN k];exact agY
  .rw[aK k];exact(λh=>nF λq=>D ⟨h,q⟩) k
 have z:OkL (NZ id _ given f):=⟨A,w.elim .inl λq=>.inr ⟨q,G⟩,P,acL _,(show 0<=((AQ f).length:Int) by omega),(show((AQ f).length:Int)<=8192 by omega),(show 0<=0 by decide),(show 0<=32 by decide)⟩;have J:dR s on=[]\/((bB s.2.2.1<|dR s on).2=0/\(bB s.2.2.1<|dR s on).1.length<16):=by
  rcases g with q|⟨y,i,j⟩
  .exact .inl q
  .right;have K:=(o.aj2 i).1;rw[j] at K;refine⟨K,Ye λk=>c5 ⟨?_,K,k⟩⟩;intro e;have:=(o.l.ll y i).id;rw[j,e] at this;exact sb this
 have L:(hY (if dR s on=[] then [] else(dZ s.2.2.1 s.2.2.2.1<|dR s on).1)<|AQ f).2=0:=by
  have e:(if dR s on=[] then [] else(dZ s.2.2.1 s.2.2.2.1<|dR s on).1)=(zr s<|dR s on).1:=by
   unfold zr;by_cases k:dR s on=[]
   .rw[aN k,aN k]
   .rw[aK k,aK k]
  have hv:Valid (zr s<|dR s on).1:=by
   apply BX;unfold zr;by_cases k:dR s on=[]
   .rw[aN k]
   .rw[aK k];rcases g with q|⟨y,i,j⟩
    .exact absurd q k
    .rw[<-j];exact(o.aj2 i).2
  rw[e];unfold AQ;by_cases k:f=[]
  .rw[aN k,amc hv]
  .rw[aK k];exact v k
 refine⟨?_,?_,λq=>?_,λ_=>⟨by rw[t];exact A,by rw[t];exact m,B,g,p,v,by rw[t];exact b,by rw[t];exact z⟩⟩
 .rw[b];exact o.more z E m B J ⟨rfl,rfl,rfl,rfl,I⟩ L
 .rw[b];refine M.more ⟨u A,?_,N,by show(ql _).length<=_;rw[(MB _)];decide⟩ E H;rcases w with q|q
  .show(dR s on).length<=_;rw[q];simp
  .exact u q
 .rw[b] at q;exact absurd rfl q
def TR(s:aL)(id:Tx):aL:=match DY s.2.2.1 id with|none=>NY (s.1,s.2.1,s.2.2.1,x6 s.2.2.1.length s.2.2.2.1,s.2.2.2.2) id 0|some i=>NY (s.1,s.2.1,cutAt s.2.2.1 i,cutAt (x6 s.2.2.1.length s.2.2.2.1) i,s.2.2.2.2) id 0
def G1(s:aL)(id:Tx)(d:s.2.2.1.length<=100000)(a:s.2.2.2.2.1.length<=50000):jJ (s,id,())=aa (TR s id,()):=by unfold jJ TR;rw[ixL s.2.2.1 id ai<|λc i=>rfl,ab,LB s ai,ab];unfold CV;cases h:DY s.2.2.1 id with|none =>unfold iv fT;dsimp only;rw[aT ai,aj,ab,aj,ab];exact ob (Fc _ id 0 a) rfl|some i =>obtain⟨x,b,_⟩:=y8 h;have hi:=aA b;have e:=wy s.2.2.1.length s.2.2.2.1;unfold iv fT eI dx;dsimp only;rw[aF ai,ag,ag,ej ai,aj,aeY _ i ai ai,ab,ab,ej ai,aj,aeY _ i ai ai,ab,ab];exact ob (Fc _ id 0 a) rfl
def VB s id (h:∀x∈s.2.2.2.2.1,x.1≠id):NY s id 0=s:=by unfold NY;rw[aK aI,E7 _ h]
def qO(s:aL)(id:Tx):Int:=match(eP (s,id,())) with|some (n,_)=>n|none=>0
def J5(s:aL)(id:Tx)(b:s.2.2.2.2.1.length<=1000000):eP (s,id,())=aa (qO s id,())/\((∃x∈s.2.2.2.2.1,x.1=id/\x.2.1=qO s id)\/(qO s id=0/\∀x∈s.2.2.2.2.1,x.1≠id)):=by
 obtain⟨n,a,c⟩:=ado s id b;have e:qO s id=n:=by unfold qO;rw[a]
 rw[e];exact⟨a,c⟩
def dlS(s:aL)(a:Tx):aL×lS×al :=if(aS (fH s) a).2.1≠0 then(s,gl (aS (fH s) a).2.1,()) else if wx s (aS (fH s) a).1=true\/0<qO s (aS (fH s) a).1 then(s,gl 7,()) else (TR s (aS (fH s) a).1,BS (aS (fH s) a).1,())
def J6 s (ref:Tx) (h:zl s) (a:s.2.2.2.2.1.length<=50000):wO (s,ref,())=aa (dlS s ref):=by
 have b:=h.ll;have d:=h.il;have e:=h.bl;unfold dlS;refine ob (jO s ref h) ?_;by_cases c:(aS (fH s) ref).2.1=0
 rotate_left
 .rw[ax c,aN c];rfl
 rw[ay c,aK λq=>q c];refine ob (aaG s _ ai ai ai) ?_;obtain⟨f,_⟩:=J5 s (aS _ ref).1 ai;cases g:wx s (aS _ ref).1 with|true =>rfl|false =>refine ob (ob f rfl) ?_;by_cases q:0<qO s (aS (fH s) ref).1;{rw[aT q,aN (.inr q)];rfl};rw[aF ai,aK (by rintro(k|k);cases k;exact q k)];exact ob (G1 s _ ai a) rfl
def lN.Xt{s}(h:lN s){id}(b:s.2.2.2.2.1.length<=1000000):(0<=qO s id/\qO s id<=1000)/\(qO s id<=0->∀x∈s.2.2.2.2.1,x.1≠id):=by
 obtain⟨_,c⟩:=J5 s id b;rcases c with ⟨x,d,_,e⟩|⟨e,a⟩
 {have:=(h.U9 x d).2;rw[<-e];exact⟨⟨ai,this.2⟩,λq=>ai⟩};rw[e];exact⟨⟨aI,aI⟩,λ_=>a⟩
def ag2{s}(a:uw s)(c:lN s) ref :
  let r:=dlS s ref
  lN r.1/\uw r.1/\(r.2.1.1≠0->r.1=s):=by
 intro r;have b:r=dlS s ref:=rfl;unfold dlS at b;by_cases c1:(aS (fH s) ref).2.1≠0
 .rw[aN c1] at b;rw[b];exact⟨c,a,λ_=>rfl⟩
 rw[aK c1] at b;by_cases c2:wx s (aS (fH s) ref).1=true\/0<qO s (aS (fH s) ref).1
 .rw[aN c2] at b;rw[b];exact⟨c,a,λ_=>rfl⟩
 rw[aK c2] at b;obtain⟨y,g,d⟩:=nz (nF c1);obtain⟨x,k,rfl⟩:=C0 g;have d:x.1=(aS _ ref).1:=d;rw[<-d] at c2 b;have l:wx s x.1=false:=by
  cases q:wx s x.1 with
  | true=>exact absurd (.inl q) c2
  | false=>rfl
 obtain⟨m,n,o⟩:=aaC l;have p:=c.NV;have f:=(c.Xt (id:=x.1) ai).2 ai;obtain⟨i,h⟩:=bp.1 k;have j:TR s x.1=(s.1,s.2.1,cutAt s.2.2.1 i,cutAt s.2.2.2.1 i,s.2.2.2.2):=by
  unfold TR;rw[C1 c.Xn h,Xp c.lays.same];exact VB _ x.1 f
 rw[b];refine⟨?_,?_,λq=>absurd rfl q⟩
 .show lN _
  rw[j];exact c.less h m n o f
 .show uw _
  rw[j];have t:=Vw s.2.2.1 i;have u:=a.ll;exact⟨by show(cutAt s.2.2.1 i).length<=40;omega,a.il,a.bl,λy g=>a.xl y (F9 _ i y g),a.xi,a.xb,λe d=>a.dl e (F9 _ i e d),a.ml⟩
def aj8{e:Type}:∀{l m:List e},l.Nodup->(∀x∈l,x∈m)->l.length<=m.length:=by intro l;induction l with|nil=>intro m _ _;apply qh|cons a r f =>(intro m g c;obtain⟨p,q,rfl⟩:=List.append_of_mem (c a aW);have b:=ahR.1 g;have:=f (m:=p++q) b.2 (λx d=>by have:=c x (by simp[d]);simp at this⊢;rcases this with h|rfl|h;{exact .inl h};{exact absurd d b.1};exact .inr h));simp at this⊢;omega
structure W24 (s:aL):Prop where
 hd:zl s
 dl:s.2.2.2.1.length<=40
 ml:s.2.2.2.2.1.length<=40
 DZ:kA (·.1) s.1
 E9:kA (·.1) s.2.1
 Xn:kA (·.1) s.2.2.1
 bits:∀x∈s.1,zq x.2.2.2.2.2.1
 U9:∀x∈s.2.2.2.2.1,1<=x.2.1/\x.2.1<=1000
 idB:∀x∈s.1,x.1.length<=1000
 idI:∀x∈s.2.1,x.1.length<=1000
 idL:∀x∈s.2.2.1,x.1.length<=1000
def W24.row{s}(h:W24 s):aoe s:=⟨h.hd,by have:=h.dl;omega,by have:=h.ml;omega⟩
def W24.tree{s}(h:W24 s)(p:Tx):pX (s,p,())=aa ((dZ s.2.2.1 s.2.2.2.1 p).1,(dZ s.2.2.1 s.2.2.2.1 p).2,()) :=RM s p (by have:=h.hd.ll;omega) (λx a=>(h.hd.ln x a).small)
def W24.cnt{s}(h:W24 s)(id:Tx):eP (s,id,())=aa (qO s id,())/\(0<=qO s id/\qO s id<=1000)/\(qO s id<=0->∀x∈s.2.2.2.2.1,x.1≠id):=by
 obtain⟨b,c⟩:=J5 s id (by have:=h.ml;omega);refine⟨b,?_⟩;rcases c with ⟨x,d,_,e⟩|⟨e,a⟩
 {have:=h.U9 x d;rw[<-e];exact⟨⟨ai,this.2⟩,λq=>ai⟩};rw[e];exact⟨⟨aI,aI⟩,λ_=>a⟩
def ctS(s:aL)(a:Tx)(d:Int):aL×lS×al :=if(aS (fH s) a).2.1≠0 then(s,gl (aS (fH s) a).2.1,()) else if 0<d/\1000<=qO s (aS (fH s) a).1 then(s,gl 5,()) else if d<0/\qO s (aS (fH s) a).1<1 then(s,gl 11,()) else (NY s (aS (fH s) a).1<|qO s (aS (fH s) a).1+d,(0,(aS (fH s) a).1,qO s (aS (fH s) a).1+d,[],()),())
def MP{s}(h:W24 s)(a:Tx){d}(j:d=1\/d=-1):p5 (s,a,d,())=aa (ctS s a d):=by
 obtain⟨e,⟨k,l⟩,_⟩:=h.cnt (aS _ a).1;have f:=h.ml;unfold ctS;refine ob (jO s a h.hd) ?_;dsimp only;by_cases c:(aS (fH s) a).2.1=0
 rotate_left
 .rw[ax c,aN c];rfl
 rw[ay c,aK λq=>q c];refine ob e ?_;have g:ao (ba 0 d) (cm 1000<|qO s (aS (fH s) a).1) false=decide (0<d/\1000<=qO s (aS (fH s) a).1):=by rw[ kX];exact(Bool.decide_and _ _).symm
 have i:ao (ba d 0) (ba (qO s (aS (fH s) a).1) 1) false=decide (d<0/\qO s (aS (fH s) a).1<1):=by rw[ kX];exact(Bool.decide_and _ _).symm
 rw[g,i];by_cases q:0<d/\1000<=qO s (aS (fH s) a).1
 .rw[cT q,aN q];rfl
 rw[cj q,aK q];by_cases b:d<0/\qO s (aS (fH s) a).1<1
 .rw[cT b,aN b];rfl
 rw[cj b,aK b,eh ai ai];exact ob (Fc s _ _ ai) rfl
def dfA(s:aL)(a:Tx):lS :=if(aS (fH s) a).2.1≠0 then gl (aS (fH s) a).2.1 else(0,(aS (fH s) a).1,0,(sd s (aS (fH s) a).1).2.1,())
def N1{s}(h:W24 s)(a:Tx):AF (s,a,())=aa (dfA s a,()):=by
 unfold dfA;refine ob (jO s a h.hd) ?_;by_cases c:(aS (fH s) a).2.1=0
 rotate_left
 .rw[ax c,aN c];rfl
 rw[ay c,aK λq=>q c];exact ob (Fb s _ (by have:=h.hd.ll;omega) λx b=>(h.hd.ln x b).small) rfl
def aaK(s:aL)(id:Tx):Tx:=((s.1.find?<|λx=>decide (x.1=id)).map λx:r5=>x.2.2.2.1).getD []
def aaL{s}(c:kA (·.1) s.1){x}(b:x∈s.1):aaK s x.1=x.2.2.2.1:=by unfold aaK;cases a:s.1.find? _ with|none=>have:=Pf.1 a x b;simp at this|some y =>rw[c.inj _ (X0 a) b<|by simpa using Pn a];rfl
def dlW(s:aL)(a:Tx):aL×lS×al :=if(aS (DA s) a).2.1≠0 then(s,gl (aS (DA s) a).2.1,()) else if 0<qO s (aaK s (aS (DA s) a).1)\/wx (sR (·.1) s.1 (aS (DA s) a).1,s.2) (aaK s (aS (DA s) a).1)=true then(s,gl 7,()) else (TR (sR (·.1) s.1 (aS (DA s) a).1,s.2)<|aaK s (aS (DA s) a).1,BS (aS (DA s) a).1,())
def RO{s}(h:W24 s)(a:Tx):tO (s,a,())=aa (dlW s a):=by
 have m:=h.hd.bl;have n:=h.hd.il;have o:=h.hd.ll;have p:=h.ml;unfold tO dlW;dsimp only;rw[RN s a h.hd,ab];by_cases c1:(aS (DA s) a).2.1=0
 rotate_left
 .rw[aN c1,ax c1];rfl
 rw[aK<|λq=>q c1,ay c1,aM,ag];obtain⟨y,b,r⟩:=nz c1;obtain⟨x,c,rfl⟩:=Gd b;rw[<-r];obtain⟨g,d,e⟩:=AR s x.1 h.hd h.bits;rw[d,ab,e x c h.DZ rfl,ej ai,aj,aaL h.DZ c];rcases x5 (f:=n9 (s,_)) s.1 (λy=>decide (y.1=x.1)) (λq=>(q,x.1,())) ai (λi y b t=>by unfold n9;dsimp only;rw[aq t,aj,aO ai ep,aj,au b,ab,cI,di];by_cases q:y.1=x.1<;>simp[q]) (by unfold n9;rw[aw,ag]) with ⟨j,y,b,u,v⟩|⟨l,_⟩
 rotate_left
 .have:=l x c;simp at this
 rw[v,ab];dsimp only;rw[show cF 1 0=false from rfl,ag,bL ai,aj];unfold cE;rw[O3 _ s.1 x.1 h.DZ j y b (gb u) ai,ab,ab];obtain⟨w,_,_⟩:=h.cnt x.2.2.2.1;rw[w,ab];have A:=(mC (λz=>z.1) s.1 x.1).length_le;by_cases q:0<qO s x.2.2.2.1
 {rw[aT q,aN (.inl q)];rfl};rw[aF ai,aE,aj,aaG _ _ xv xv xv,ab,ab];cases B:wx _ x.2.2.2.1 with|true =>rw[aN<|.inr rfl];rfl|false =>rw[aK<|by rintro(k|k);exact q k;cases k];exact ob (G1 _ x.2.2.2.1 xv xv) rfl
abbrev Dl:=Int×bj×al
def Gf:List Nd->List Nd->List Dl
 | [],[]=>[]
 | x::a,[]=>(3,x.1,())::Gf a []
 | [],y::b=>(1,y.1,())::Gf [] b
 | x::a,y::b =>
   if cmpL (key x) (key y)<0 then(3,x.1,())::Gf a (y::b)
   else if 0<cmpL (key x) (key y) then(1,y.1,())::Gf (x::a) b
   else(if x=y then [] else [(2,x.1,())])++Gf a b
 termination_by a b=>a.length+b.length
def amo:∀n a b,a.length+b.length<=n->(Gf a b).length<=a.length+b.length:=by intro n;induction n with|zero =>(intro a b h;obtain rfl:=Am.1 (show a.length=0 by omega);obtain rfl:=Am.1 (show b.length=0 by omega);simp[Gf])|succ n c =>intro a b h;cases a with|nil =>(cases b with|nil=>simp[Gf]|cons y b =>rw[Gf];grind)|cons x a =>cases b with|nil =>rw[Gf];grind|cons y b =>rw[Gf];grind
def J7{α}(x:α) r:sub (x::r) 1 (minus (len (x::r)) 1)=r:=je _ 1 aW
def Fg(a b:List Nd):Int:=match a,b with|[],_=>1|_::_,[]=>-1|x::_,y::_=>cmpL (key x) (key y)
def aj9 a b (d:xk a) (e:xk b) :
  (ae (ao (aR (len a) 0) (aa ((1,()),()))<|ae (ao (aR (len b) 0) (aa (((-1:Int),()),()))<|ae (idx a 0) λc=>ae (idx b 0) λf=>ae (gW (c.1,f.1,())) λg=>aa ((g.1,()),())) λc=>aa ((c.1.1,()),())) λy=>aa y)=aa ((Fg a b,()),()):=by
 cases a with|nil=>rfl|cons x a =>cases b with|nil=>rfl|cons y b =>rw[ show idx _ 0=aa x from rfl,show idx _ 0=aa y from rfl,ab,ab,EM _ _ (by have:=(d.2 x aW).1;omega) (by have:=(e.2 y aW).1;omega)];rfl
def RP(a b:List Nd):List Dl:=match a,b with|x::_,y::_=>if x=y then [] else [(2,x.1,())]|_,_=>[]
def ag3 a b:(RP a b).length<=1:=by unfold RP;grind
def Xu a b (acc:List Dl) (k:xk a) (l:xk b) (g:a≠[]\/b≠[]) (i:∀c:Dl,fits (plus (len acc)<|len [c])=true) :
  mb ((a,b,()),(),(),acc,())=aa (.inl<| if Fg a b<0 then((a.drop 1,b,()),(),(),acc++(a.take 1).map (λx=>(3,x.1,())),()) else if 0<Fg a b then((a,b.drop 1,()),(),(),acc++(b.take 1).map (λy=>(1,y.1,())),()) else((a.drop 1,b.drop 1,()),(),(),acc++RP a b,())):=by
 have m:ao (nt<|ba 0<|len a) (ba 0<|len b) true=true:=by rw[JB,JB];cases a with|cons x a=>simp[ao,nt]|nil =>cases b with|cons y b=>simp[ao]|nil=>simp at g
 have j:=aj9 a b k l;have n:∀o:Option ((Int×al)×al),ae o (aa)=o:=λo=>by cases o<;>rfl
 rw[n] at j;unfold mb;rw[m,j,ab];dsimp only;have d:∀{x:Nd} {r},inside 1 (len (x::r)) _=true:=λ{x r}=>aV ai (by unfold len;simp;omega) (sK _);by_cases f:Fg a b<0
 .rw[aN f,aT f,bL ai,cN f];cases a with
  | nil=>simp[Fg] at f
  | cons x a =>
    rw[show idx _ 0=aa x from rfl,ab,i,d,J7];rfl
 .rw[aK f,aF ai,ag];by_cases h:0<Fg a b
  .rw[aN h,aT h,cN ai,bL ai];cases b with
   | nil=>cases a<;>simp[Fg] at h g
   | cons y b =>rw[show idx _ 0=aa y from rfl,ab,i,d,J7];rfl
  rw[aK h,aF ai,ag,bL ai,bL ai];cases a with
  | nil=>simp[Fg] at h
  | cons x a =>
    cases b with
    | nil=>simp[Fg] at f
    | cons y b =>
      have p:an (bA x.1 y.1) (an (aR x.2.1 y.2.1)<|an (aR x.2.2.1 y.2.2.1)<|an (bA x.2.2.2.1 y.2.2.2.1)<|an (bA x.2.2.2.2.1 y.2.2.2.2.1) true)=decide (x=y):=by
       unfold an bA aR
       grind
      rw[show idx _ 0=aa x from rfl,show idx _ 0=aa y from rfl,ab,ab,p,i,d,d,J7,J7];by_cases e:x=y
      .rw[cT e];unfold RP;dsimp only;rw[aN e,zo];rfl
      .rw[cj e];unfold RP;dsimp only;rw[aK e];rfl
def aka a b (c:a≠[]\/b≠[]):Gf a b =
  if Fg a b<0 then(a.take 1).map (λx=>((3,x.1,()):Dl))++Gf (a.drop 1) b else if 0<Fg a b then(b.take 1).map (λy=>((1,y.1,()):Dl))++Gf a (b.drop 1) else RP a b++Gf (a.drop 1) (b.drop 1):=by
 cases a with|nil =>(cases b with|nil=>simp at c|cons y b=>rw[Gf];rfl)|cons x a =>cases b with|nil=>rw[Gf];rfl|cons y b =>rw[Gf];show _=if cmpL _ _<0 then _ else if 0<cmpL _ _ then _ else _;split;{rfl};split;{rfl};rfl
def xk.drop{l}(h:xk l) k:xk (l.drop k):=⟨by rw[qo];have:=h.1;omega,λx a=>h.2 x (X1 a)⟩
def Xv:∀n a b (acc:List Dl),a.length+b.length<=n->xk a->xk b->acc.length+a.length+b.length<=100000 ->
  ∃s,Loop mb ((a,b,()),(),(),acc,())=aa (s,(),(),acc++Gf a b,()):=by
 intro n;induction n with|zero =>(intro a b acc h _ _ _;obtain rfl:=Am.1 (show a.length=0 by omega);obtain rfl:=Am.1 (show b.length=0 by omega);refine⟨([],[],()),?_⟩;rw[aZ,Gf,zo];rfl)|succ n m =>intro a b acc h k l o;by_cases f:a≠[]\/b≠[];{have t:=Xu a b acc k l f (λc=>aP dW);rw[aZ,aka a b f];have g:a≠[]->(a.drop 1).length=a.length-1/\0<a.length:=λh=>⟨aW,X9.2 h⟩;have i:b≠[]->(b.drop 1).length=b.length-1/\0<b.length:=λh=>⟨aW,X9.2 h⟩;by_cases p:Fg a b<0;{(have d:a≠[]:=λe=>by subst e;simp[Fg] at p);have:=g d;obtain⟨s,q⟩:=m _ b (acc++(a.take 1).map λx=>(3,x.1,())) ai (k.drop 1) l (by simp at this⊢;omega);grind};by_cases r:0<Fg a b;{(have j:b≠[]:=λe=>by subst e;cases a<;>simp[Fg] at r f);have:=i j;obtain⟨s,q⟩:=m a _ (acc++(b.take 1).map λy=>(1,y.1,())) ai k (l.drop 1) (by simp at this⊢;omega);grind};(have d:a≠[]:=λe=>by subst e;simp[Fg] at r);(have u:=g d;have v:=i (λe=>by subst e;cases a<;>simp[Fg] at p d);obtain⟨s,q⟩:=m _ _ (acc++RP a b) ai (k.drop 1) (l.drop 1) (by have:=ag3 a b;rw[gR];omega));grind};grind
open Classical in
def TS(a b:List Nd):List Dl×Int:=if Valid a/\Valid b then(Gf a b,0) else([],1)
def aaM a b (c:xk a) (d:xk b):ri (a,b,())=aa ((TS a b).1,(TS a b).2,()):=by
 obtain⟨e,l,i⟩:=my a c;obtain⟨f,m,j⟩:=my b d;unfold ri;rw[l,m];simp only[ab];by_cases hv:Valid a/\Valid b
 .obtain rfl:=i.2 hv.1;obtain rfl:=j.2 hv.2;have h:=c.1;have g:=d.1;obtain⟨s,n⟩:=Xv _ a b [] (b8 _) c d dW;rw[show ao _ _ _=aa false from rfl,ab,ag,n,ab];unfold TS;rw[aN hv,Gn]
 have o:(ao (nt<|nt<|aR e 0) (aa<|nt<|aR f 0) (aa true):Option Bool)=aa true:=by by_cases k:e=0;{by_cases g:f=0;{exact absurd ⟨i.1 k,j.1 g⟩ hv};rw[show aR f 0=false by simp[aR,g]];cases nt _<;>rfl};rw[show aR e 0=false by simp[aR,k]];rfl
 rw[o,ab,aj];unfold TS;rw[aK hv]
def GA(l:List Dl)(c:Dl):List Dl:=l.takeWhile (λx=>decide (cmpL (parts x.2.1) (parts c.2.1)<0))++c::l.dropWhile (λx=>decide (cmpL (parts x.2.1) (parts c.2.1)<0))
def SmC(l:List Dl):Prop:=l.length<=100000/\∀x∈l,x.2.1.length<=4096
def RQ l (c:Dl) (m:SmC l) (o:c.2.1.length<=4096):su (l,c,())=aa (GA l c,()):=by
 have A:=m.1;have key:∃k,k<=l.length/\Loop (oQ (l,c,())) ((0,()),())=aa (((k:Int),()),())/\GA l c=l.take k++[c]++l.drop k:=by
  rcases eR (f:=oQ (l,c,())) l (λi=>((i,()),())) (λ_ x=>!decide _) _ _ ai (λi x b p q=>by
   unfold oQ;dsimp only;rw[aq p,au b,ab,yT _ _ (m.2 x<|kG b) o,ab,q];unfold ba;cases decide (cmpL _ _<0)<;>rfl) (by
   unfold oQ;rw[aw];rfl) with ⟨i,x,b,r,s,h⟩|⟨t,h⟩
  .refine⟨i,by have:=aA b;omega,h,?_⟩;obtain⟨e,g⟩:=takeWhile_eq (l:=l) (k:=i) (P:=λx=>decide _) (by have:=aA b;omega) (λj y d a=>by
    have:=s j y d a;simpa using this) (λy a=>by
    rw[b] at a;obtain rfl:=aU a;simpa using r)
   unfold GA;rw[e,g];simp
  .refine⟨l.length,b8 _,h,?_⟩;obtain⟨e,g⟩:=takeWhile_eq (P:=λx=>decide _) (b8 _) (λj y d a=>by
    have:=t j y a;simpa using this) (λy a=>by
    have:=aA a;omega)
   unfold GA;rw[e,g];simp
 obtain⟨k,n,u,v⟩:=key;unfold su;rw[u,ab];have w:inside 0 k _=true:=jf (qh _) n;have z:inside k (len l) _=true:=aV ai ep (sK _);rw[w,fY,je l k n,z,(aP dW),(aP<|by rw[hJ];simp;omega),(aP<|by rw[hJ,hJ];simp;omega),v];rfl
def G2(k:Int):bj:=if 1<=k/\k<=3 then(if k=1 then [43] else if k=2 then [126] else [45]) else [63]
def wz(c:Dl):bj:=G2 c.1++[32]++uT c.2.1++[10]
def LD k:(G2 k).length=1:=by unfold G2;grind
def LF c:(wz c).length=2*c.2.1.length+3:=by unfold wz;simp only[gR,LD,iE,iG,qp];omega
def Gg{a b:Type}(g:a->List b) k:∀l:List a,(∀x∈l,(g x).length<=k)->(l.flatMap g).length<=l.length*k:=by intro l;induction l with|nil=>simp|cons x r c =>intro h;have e:=h x aW;have f:=c λy d=>h y (by simp[d]);simp only[M9,gR,iG,iO];omega
def aaN{k}(a:1<=k)(b:k<=3):idx ([[],[43],[126],[45]]:List bj) k=aa (G2 k):=by have:k=1\/k=2\/k=3:=ai;rcases this with rfl|rfl|rfl<;>rfl
def ag4(l:List Dl)(r:l.length<=4096)(j:∀c∈l,c.2.1.length<=4096):xF (l,())=aa (l.flatMap wz,()):=by
 unfold xF;have key:=hU (f:=mM (l,())) l (λh i=>((i,()),((),_),h,())) _ _ ai (λi x k n a=>by
  have b:((l.take i).flatMap λc=>aB (wz c)).length<=(l.take i).length*8200:=Gg _ _ _ λc o=>by have:=j c (Bb o);rw[Xc,LF];omega
  rw[cY] at b;have p:=j x (kG k);have q:=LF x;have fin:∀s,s=G2 x.1->(ao (fits<|plus _<|len ([32]:bj)) (ae (l9 (x.2.1,())) λd=>ao (fits<|plus (@len UInt8<|@app UInt8 s<|[32])<|@len UInt8 d.1)
   (ao (fits<|plus (@len UInt8<|@app UInt8 (@app UInt8 s ([(32:UInt8)]:bj)) d.1)<|@len UInt8<|[10])
   (ao (fits<|plus (@len Int<|(l.take i).flatMap λc=>aB (wz c))<|@len Int<|aB<|@app UInt8 (@app UInt8 (@app UInt8 s _) d.1) _)
   (aa (aG (((((i+1:Nat):Int)),()),((),(),()),@app Int ((l.take i).flatMap λc=>aB (wz c))<|aB<|@app UInt8 (@app UInt8 (@app UInt8 s _) d.1) _,()):_⊕((Nat×(Int×al)×(al×al×al)×(List<|Int)×al)))) af) af) af) af)=aa _:=λs e=>by
   subst e;have g:=LD x.1;rw[aP dW,WZ _ ai,ab,aP<|by rw[hJ,iE];simp;omega,aP (by rw[hJ,hJ,gR,iE];simp;omega),show app (app (app _ [32]) _) [10]=wz x from rfl,aP (by rw[Xc];omega)];rfl
  unfold mM;rw[aq n,aj,au k,ab,a];by_cases g:1<=x.1;{by_cases m:x.1<=3;{rw[bL g,bL m,aj,aj,aO ai ai,aj,aaN g m,ab,ab,fin _ rfl];rfl};rw[bL g,cN ai,aj,ag,ab,fin _<|by unfold G2;rw[aK ai]];rfl}
  .rw[cN ai,ag,ag,ab,fin _<|by unfold G2;rw[aK ai]];rfl) (by
  unfold mM;rw[aw];rfl)
 rw[show Loop (mM _) _=_ from key,ab];have:l.flatMap (λc=>aB (wz c))=aB (l.flatMap wz):=by unfold aB;rw[List.map_flatMap]
 rw[this,jM]
def akb:∀a b,∀c∈Gf a b,(∃x∈a,c.2.1=x.1)\/∃x∈b,c.2.1=x.1:=by intro a b;induction a,b using Gf.induct<;>grind [Gf]
def VC{a b}(f:Valid a)(g:Valid b):(Gf a b).length<=4096/\∀c∈Gf a b,c.2.1.length<=4096:=by
 have i:=f.few;have j:=g.few;refine⟨by have:=amo _ a b (b8 _);omega,λc h=>?_⟩;rcases akb a b c h with ⟨n,d,e⟩|⟨n,d,e⟩
 {rw[e];have:=((fG f).2 n d).1;omega};rw[e];have:=((fG g).2 n d).1;omega
def LG{s}(h:W24 s)(p:Tx):ja (s,p,())=aa ((zr s p).1,(zr s p).2,()):=by
 unfold ja zr;by_cases q:p=[]
 {rw[cc q,aj,aN q]};rw[bg q,aK q];exact ob (h.tree p) rfl
def chA(s:aL)(a:Tx):lS :=if(aS (fH s) a).2.1≠0 then gl (aS (fH s) a).2.1 else if(dZ s.2.2.1 s.2.2.2.1 (aS (fH s) a).1).2≠0 then gl (dZ s.2.2.1 s.2.2.2.1 (aS (fH s) a).1).2 else if(zr s (sd s (aS (fH s) a).1).1.2.1).2≠0 then gl (zr s (sd s (aS (fH s) a).1).1.2.1).2 else (0,(aS (fH s) a).1,0,(Gf (zr s (sd s (aS (fH s) a).1).1.2.1).1 (dZ s.2.2.1 s.2.2.2.1 (aS (fH s) a).1).1).flatMap wz,())
def Ic{s}(h:W24 s)(a:Tx):uP (s,a,())=aa (chA s a,()):=by
 unfold chA;refine ob (jO s a h.hd) ?_;by_cases c:(aS (fH s) a).2.1=0
 rotate_left
 .rw[ax c,aN c];rfl
 rw[ay c,aK λq=>q c];refine ob (Fb s _ (by have:=h.hd.ll;omega) λx g=>(h.hd.ln x g).small) ?_;refine ob (h.tree _) ?_;by_cases c2:(dZ s.2.2.1 s.2.2.2.1 (aS (fH s) a).1).2=0
 rotate_left
 .rw[ax c2,aN c2];rfl
 rw[ay c2,aK λq=>q c2];refine ob (LG h _) ?_;by_cases c3:(zr s (sd s (aS (fH s) a).1).1.2.1).2=0
 rotate_left
 .rw[ax c3,aN c3];rfl
 rw[ay c3,aK λq=>q c3];have b:=BX c3;have d:=Ia c2;have f:=VC b d;have e:=aaM _ _ (fG b) (fG d);unfold TS at e;rw[aN ⟨b,d⟩] at e;refine ob e ?_;exact ob (ag4 _ f.1 f.2) rfl
def Ie k:∀(l:List Tx),(∀x∈l,x.length<=k)->(Lib.join l [32]).length<=l.length*(k+1)|[],_=>qh _|[a],h=>by have:=h a aW;simp[Lib.join];omega|a::b::r,h=>by (have f:=h a aW;have c:=Ie k (b::r) λx d=>h x (by simp[d]);have e:Lib.join (a::b::r) [32]=a++[32]++Lib.join (b::r) [32]:=by simp[Lib.join]);rw[e];simp only[gR,iG,qp,iO] at c⊢;omega
def aog(l:List Tx)(a:l.length<=1000) k (b:k<=1000000) (h:∀x∈l,x.length<=k):lf (l,[32],())=aa (Lib.join l [32],()):=by have:=Ie k l h;have c:l.length*(k+1)<=1000*1000001:=ahV a ai;show(HM l [32]).map _=_;unfold HM;grind
def akc(l:List Nm):Tx:=br (l.flatMap λx=>aB (Lib.join (x.1::x.2.1) [32]++[10]))
def N2(l:List Nm)(q:l.length<=40)(k:∀x∈l,x.1.length<=1000/\ow x.2.1):AG (l,())=aa (akc l,()):=by
 have a:∀x∈l,(Lib.join (x.1::x.2.1) [32]).length<=9009:=λx b=>by
  have h:=k x b;have:=Ie 1000 (x.1::x.2.1) (λy hy=>by rcases eK.1 hy with rfl|hy;{grind};have:=h.2.2 y hy;omega)
  have n:=h.2.1;grind
 have key:=hU (f:=p7 (l,())) l (λg i=>((i,()),((),(),()),g,())) (λx=>aB (Lib.join (x.1::x.2.1) [32]++[10])) _ ai (λi x b j d=>by
  have e:((l.take i).flatMap λx=>aB (Lib.join (x.1::x.2.1) [32]++[10])).length<=(l.take i).length*9010:=Gg _ _ _ λc o=>by have:=a c (Bb o);rw[Xc,gR];simp only[VL];omega
  rw[cY] at e;have m:=k x (kG b);have p:=a x (kG b);have n:=m.2.1;unfold p7;rw[aq j,au b,ab,d,aP dW,show @app Tx [x.1] x.2.1=x.1::x.2.1 from rfl,show lf _=_ from aog _ dW 1000 ai (λy hy=>by rcases eK.1 hy with rfl|hy;{grind};have:=m.2.2 y hy;omega),ab]
  rw[aP dW,show app _ [10]=Lib.join _ [32]++[10] from rfl,aP (by rw[Xc,gR];simp only[VL];omega)];rfl) (by
  unfold p7;rw[aw];rfl)
 exact ob key rfl
def BZ{a:Type}(b:a->Tx)(l:List a)(d:a)(id:Tx):a:=(l.find? λx=>decide (b x=id)).getD d
def iy{α}{a:α->Tx}{l d}(e:kA a l){x}(c:x∈l):BZ a l d (a x)=x:=by unfold BZ;cases b:l.find? _ with|none=>have:=Pf.1 b x c;simp at this|some y =>rw[e.inj a (X0 b) c<|by simpa using Pn b];rfl
def zl.aoh{s}(h:zl s):FewB (0,s.2.2.1,s.2.1,s.1,()):=⟨h.ll,h.ln,h.il,h.sj,h.bl,h.bn⟩
def wA(s:aL)(k:Int):List Nm:=ofV k (0,s.2.2.1,s.2.1,s.1,())
def yl s k:(k=1/\wA s k=DA s)\/(k=2/\wA s k=wF s)\/(k=3/\wA s k=fH s)\/wA s k=[]:=by
 unfold wA ofV DA wF fH;by_cases a:k=1
 .exact .inl ⟨a,by rw[aN a]⟩
 by_cases b:k=2
 .exact .inr (.inl ⟨b,by rw[aK a,aN b]⟩)
 by_cases c:k=3
 {exact .inr (.inr<|.inl ⟨c,by rw[aK a,aK b,aN c]⟩)};exact .inr (.inr<|.inr<|by rw[aK a,aK b,aK c])
def Gi{s}(h:zl s) k:(wA s k).length<=40:=by
 rcases yl s k with ⟨_,e⟩|⟨_,e⟩|⟨_,e⟩|e<;>rw[e]
 .exact O6 h
 .exact gS (lX JG _) h.il
 {exact O2 h};apply qh
def Gj{s}(h:zl s) k:Small (wA s k):=FY k _ h.aoh
def MQ{s}(h:zl s) k:vF (s,k,())=aa (wA s k,()):=ob (xW k _ h.aoh) rfl
def RR l p d:(jy l p d).1.length<=l.length+1:=by
 unfold jy;have h:=aeF l p;split
 {split;{apply qh};unfold Gy;have e:=congrArg List.length (Al (p:=λy=>dK y.1 p) (l:=OS l p));simp only[gR,VL] at e⊢;omega};apply qh
def UB:r5:=([],[],[],[],[],[],())
def im0:eE:=([],[],[],[],[],())
def itF(l:List Item)(c:ff)(id:Tx):Option (List Item)×lS :=if c.1=10 then(if(H3 l c.2.2.2.2.2.2.1).2≠0 then(af,gl (H3 l c.2.2.2.2.2.2.1).2) else(af,0,id,0,(H3 l c.2.2.2.2.2.2.1).1,())) else(if(jy l c.2.2.2.2.2.2.1 c.2.2.2.2.2.1).2≠0 then(af,gl (jy l c.2.2.2.2.2.2.1 c.2.2.2.2.2.1).2) else(aa (jy l c.2.2.2.2.2.2.1 c.2.2.2.2.2.1).1,BS id))
def amp(a:List r5)(id:Tx):Option (List Item)->List r5|none=>a|some l=>lR (·.1) (sR (·.1) a id) (id,((BZ (·.1) a UB id).2.1,((BZ (·.1) a UB id).2.2.1,((BZ (·.1) a UB id).2.2.2.1,((BZ (·.1) a UB id).2.2.2.2.1,l,())))))
def Xw(a:List eE)(id:Tx):Option (List Item)->List eE|none=>a|some l=>lR (·.1) (sR (·.1) a id) (id,((BZ (·.1) a im0 id).2.1,((BZ (·.1) a im0 id).2.2.1,((BZ (·.1) a im0 id).2.2.2.1,l,()))))
def itS(s:aL)(c:ff):aL×lS×al :=if ¬c.2.1∈kB c then(s,gl 1,()) else if(aS (wA s c.2.1) c.2.2.1).2.1≠0 then(s,gl (aS (wA s c.2.1) c.2.2.1).2.1,()) else if c.2.1=1 then((amp s.1 (aS (wA s c.2.1) c.2.2.1).1 (itF (BZ (·.1) s.1 UB (aS (wA s c.2.1) c.2.2.1).1).2.2.2.2.2.1 c (aS (wA s c.2.1) c.2.2.1).1).1,s.2),((itF (BZ (·.1) s.1 UB (aS (wA s c.2.1) c.2.2.1).1).2.2.2.2.2.1 c (aS (wA s c.2.1) c.2.2.1).1).2,())) else((s.1,(Xw s.2.1 (aS (wA s c.2.1) c.2.2.1).1 (itF (BZ (·.1) s.2.1 im0 (aS (wA s c.2.1) c.2.2.1).1).2.2.2.2.1 c (aS (wA s c.2.1) c.2.2.1).1).1,s.2.2)),((itF (BZ (·.1) s.2.1 im0 (aS (wA s c.2.1) c.2.2.1).1).2.2.2.2.1 c (aS (wA s c.2.1) c.2.2.1).1).2,()))
def Ig{c}(a:c.1=9\/c.1=10)(h:c.2.1∈kB c):c.2.1=1\/c.2.1=2:=by
 unfold kB TP at h;rw[aK ai,aK ai,aK ai,aK ai,aN ai] at h;split at h
 {rename_i q;simpa using q};cases h
def akd{s}(h:W24 s)(c:ff)(o:c.1=9\/c.1=10)(n:c.2.2.2.2.2.1.length<=1048576):Cy (s,c,())=aa (itS s c):=by
 have p:=h.hd.bl;have r:=h.hd.il;unfold itS;refine ob (Vy c) (ob (C3 (kB c) c.2.1 (by have:=RL c;omega)) ?_);dsimp only;by_cases m:c.2.1∈kB c
 rotate_left
 .rw[cj m,aN m];rfl
 rw[cT m,aK λq=>q m];refine ob (MQ h.hd _) (ob (mX (wA s c.2.1) c.2.2.1 (Gj h.hd _) (by have:=Gi h.hd c.2.1;omega)) ?_);by_cases i:(aS (wA s c.2.1) c.2.2.1).2.1=0
 rotate_left
 .rw[ax i,aN i];rfl
 rw[ay i,aK λq=>q i];obtain⟨y,j,t⟩:=nz i;rw[<-t];rcases Ig o m with k|k
 {rw[show wA s c.2.1=DA s from by rw[k];rfl] at j;obtain⟨x,b,rfl⟩:=Gd j;rw[aN k,ay k,iy h.DZ b];obtain⟨g,d,f⟩:=AR s x.1 h.hd h.bits;have u:=(h.bits x b).1;refine ob d ?_;rw[f x b h.DZ rfl];unfold itF;by_cases a:c.1=10;{rw[aN a,ay a,aj];refine ob (MG _ _ xv) ?_;dsimp only;by_cases e:(H3 x.2.2.2.2.2.1 c.2.2.2.2.2.2.1).2=0;{rw[aK<|λq=>q e,ay e,aM,ag];rfl};rw[aN e,ax e,aE,aj];rfl};rw[aK a,ax a,ag];refine ob (MH _ _ _ xv n) ?_;dsimp only;by_cases e:(jy x.2.2.2.2.2.1 c.2.2.2.2.2.2.1 c.2.2.2.2.2.1).2=0;{rw[aK<|λq=>q e,ay e,aM,ag];have l:=RR x.2.2.2.2.2.1 c.2.2.2.2.2.2.1 c.2.2.2.2.2.1;refine ob (G0 s _ ai (by dsimp only;exact(h.hd.bn x b).small) xv h.DZ ⟨x,b,rfl⟩) ?_;unfold amp;rw[iy h.DZ b];rfl};rw[aN e,ax e,aE,aj];rfl};rw[show wA s c.2.1=wF s from by rw[k];rfl] at j;obtain⟨x,b,rfl⟩:=F8 j;rw[aK ai,ax ai,iy h.E9 b];obtain⟨g,d,f⟩:=za s x.1 h.hd;have u:=(h.hd.it x b).1;refine ob d ?_;rw[f x b h.E9 rfl];unfold itF;by_cases a:c.1=10;{rw[aN a,ay a];refine ob (MG _ _ xv) ?_;by_cases e:(H3 x.2.2.2.2.1 c.2.2.2.2.2.2.1).2=0;{rw[aK<|λq=>q e,ay e,aM,ag];rfl};rw[aN e,ax e,aE,aj];rfl};rw[aK a,ax a];refine ob (MH _ _ _ xv n) ?_;by_cases e:(jy x.2.2.2.2.1 c.2.2.2.2.2.2.1 c.2.2.2.2.2.1).2=0;{rw[aK<|λq=>q e,ay e];have l:=RR x.2.2.2.2.1 c.2.2.2.2.2.2.1 c.2.2.2.2.2.1;refine ob (Ff s _ ai ((h.hd.sj x b).small) xv h.E9 ⟨x,b,rfl⟩) ?_;unfold Xw;rw[iy h.E9 b];rfl};rw[aN e,ax e];rfl
def ly0:bD:=([],[],[],[],(0:Int),(0:Int),false,())
def rnB(a:List r5)(id:Tx)(g:List Tx):List r5:=lR (·.1) (sR (·.1) a id) (id,(g,(BZ (·.1) a UB id).2.2))
def rnI(a:List eE)(id:Tx)(g:List Tx):List eE:=lR (·.1) (sR (·.1) a id) (id,(g,(BZ (·.1) a im0 id).2.2))
def rnL(a:List bD)(id:Tx)(g:List Tx):List bD:=a.set ((DY a id).getD 0) (id,((BZ (·.1) a ly0 id).2.1,(g,(BZ (·.1) a ly0 id).2.2.2)))
def rnS(s:aL)(k:Int)(id:Tx)(g:List Tx):aL :=if k=1 then(rnB s.1 id g,s.2) else if k=2 then(s.1,rnI s.2.1 id g,s.2.2) else(s.1,s.2.1,rnL s.2.2.1 id g,s.2.2.2)
def rcE(s:aL)(c:ff):Int:=if(aS (wA s c.2.1) c.2.2.1).2.1=0/\c.1=13 then ju (wA s c.2.1) (aS (wA s c.2.1) c.2.2.1).1 c.2.2.2.2.1 else(aS (wA s c.2.1) c.2.2.1).2.1
def rcS(s:aL)(c:ff):aL×lS×al :=if ¬c.2.1∈kB c then(s,gl 1,()) else if c.1=15 then(s,(0,[],0,akc<|wA s c.2.1,()),()) else if c.1=13/\dA c.2.2.2.2.1≠0 then(s,gl 1,()) else if rcE s c≠0 then(s,gl<|rcE s c,()) else if c.1=13 then(rnS s c.2.1 (aS (wA s c.2.1) c.2.2.1).1 c.2.2.2.2.1,BS (aS (wA s c.2.1) c.2.2.1).1,()) else(s,BS (aS (wA s c.2.1) c.2.2.1).1,())
def aaO{s}(h:W24 s) k:∀x∈wA s k,x.1.length<=1000/\ow x.2.1:=λx b=>by
 rcases yl s k with ⟨_,e⟩|⟨_,e⟩|⟨_,e⟩|e<;>rw[e] at b
 .obtain⟨y,a,rfl⟩:=Gd b;exact⟨h.idB y a,h.hd.bn y a⟩
 .obtain⟨y,a,rfl⟩:=F8 b;exact⟨h.idI y a,h.hd.sj y a⟩
 {obtain⟨y,a,rfl⟩:=C0 b;exact⟨h.idL y a,h.hd.ln y a⟩};cases b
def B0{s k ref}(h:(aS (wA s k) ref).2.1=0):(k=1/\∃x∈s.1,x.1=(aS (wA s k) ref).1)\/(k=2/\∃x∈s.2.1,x.1=(aS (wA s k) ref).1)\/(k=3/\∃x∈s.2.2.1,x.1=(aS (wA s k) ref).1):=by
 obtain⟨y,a,d⟩:=nz h;rcases yl s k with ⟨b,e⟩|⟨b,e⟩|⟨b,e⟩|e<;>rw[e] at a
 .obtain⟨x,c,rfl⟩:=Gd a;exact .inl ⟨b,x,c,d⟩
 .obtain⟨x,c,rfl⟩:=F8 a;exact .inr (.inl ⟨b,x,c,d⟩)
 {obtain⟨x,c,rfl⟩:=C0 a;exact .inr (.inr ⟨b,x,c,d⟩)};cases a
def ag7{s}(h:W24 s)(c:ff)(n:c.1=13\/c.1=14\/c.1=15)(o:c.2.2.2.2.1.length<=1000)
  (f:∀id,(c.2.1=1/\∃x∈s.1,x.1=id)\/(c.2.1=2/\∃x∈s.2.1,x.1=id)\/(c.2.1=3/\∃x∈s.2.2.1,x.1=id)->ha (s,c.2.1,id,c.2.2.2.2.1,())=aa (rnS s c.2.1 id c.2.2.2.2.1,())) : yI (s,c,())=aa (rcS s c):=by
 unfold rcS;refine ob (MQ h.hd _) (ob (Vy c)<|ob (C3 (kB c) c.2.1 (by have:=RL c;omega)) ?_);dsimp only;by_cases m:c.2.1∈kB c
 rotate_left
 .rw[cj m,aN m];rfl
 rw[cT m,aK λq=>q m];by_cases a:c.1=15
 .rw[aN a,ay a];exact ob (N2 _ (Gi h.hd _)<|aaO h _) rfl
 rw[aK a,ax a];have e:=Gj h.hd c.2.1;have p:=Gi h.hd c.2.1;have g:(ao (aR c.1 13) (ae (gp (c.2.2.2.2.1,())) λi=>aa (nt<|aR i.1 0))<|some false)=aa (decide<|c.1=13/\dA c.2.2.2.2.1≠0):=by
  by_cases q:c.1=13
  .rw[ay q,wi _ ai,ab];by_cases b:dA c.2.2.2.2.1=0
   .rw[ay b,cj λz=>z.2 b];rfl
   .rw[ax b,cT ⟨q,b⟩];rfl
  .rw[ax q,ag,cj λz=>q z.1]
 refine ob g ?_;by_cases c1:c.1=13/\dA c.2.2.2.2.1≠0
 .rw[cT c1,aN c1];rfl
 rw[cj c1,aK c1];refine ob (mX _ c.2.2.1 e ai) ?_;have j:(ao (ao (aR (aS (wA s c.2.1) c.2.2.1).2.1 0) (aR c.1 13) false) (ae (ig (wA s c.2.1,(aS (wA s c.2.1) c.2.2.1).1,c.2.2.2.2.1,())) λk=>aa ((k.1,()),()))<|some (((aS (wA s c.2.1) c.2.2.1).2.1,()),()))=aa ((rcE s c,()),()):=by
  unfold rcE;by_cases q:(aS (wA s c.2.1) c.2.2.1).2.1=0
  .rw[ay q,aj];by_cases b:c.1=13
   .rw[ay b,aj,aN ⟨q,b⟩,ua _ _ _ e ai,ab]
   .rw[ax b,ag,aK λz=>b z.2]
  .rw[ax q,ag,ag,aK λz=>q z.1]
 refine ob j ?_;by_cases c2:rcE s c=0
 rotate_left
 .rw[aN c2,ax c2];rfl
 rw[aK λq=>q c2,ay c2];by_cases d:c.1=13
 .rw[aN d,ay d];have l:=nF λq=>by
   unfold rcE at c2;rw[aK λz=>q z.1] at c2;exact q c2
  rw[f _<|B0 l];rfl
 .rw[aK d,ax d];rfl
def VD{s}(h:W24 s) k (g:List Tx) (j:g.length<=1000) id (hx:(k=1/\∃x∈s.1,x.1=id)\/(k=2/\∃x∈s.2.1,x.1=id)):ha (s,k,id,g,())=aa (rnS s k id g,()):=by
 have e:=h.hd.bl;have f:=h.hd.il;unfold ha rnS;dsimp only;rcases hx with ⟨c,x,hx,rfl⟩|⟨d,x,hx,rfl⟩
 {rw[aN c,ay c];obtain⟨r,a,b⟩:=AR s x.1 h.hd h.bits;refine ob a ?_;rw[b x hx h.DZ rfl];have i:=(h.bits x hx).1;refine ob (G0 s _ ai xv xv h.DZ ⟨x,hx,rfl⟩) ?_;unfold rnB;rw[iy h.DZ hx]};rw[aK ai,ax ai,aN d,ay d];obtain⟨r,a,b⟩:=za s x.1 h.hd;refine ob a ?_;rw[b x hx h.E9 rfl];have i:=(h.hd.it x hx).1;refine ob (Ff s _ ai xv xv h.E9 ⟨x,hx,rfl⟩) ?_;unfold rnI;rw[iy h.E9 hx]
structure J24 (s:aL):Prop where
 Xn:kA (·.1) s.2.2.1
 len:s.2.2.2.1.length=s.2.2.1.length
 nm:∀y∈s.2.2.1,((y.1,y.2.2.1,()):Nm)∈fH s
def RS(s:aL)(c:ff):(aj6 s c).length=s.2.2.1.length:=aj5 adK
def lN.j{s:aL}(h:lN s):J24 s:=⟨h.Xn,h.lays.same,λ_=>J4 h⟩
def JR(s:aL)(c:ff)(u v:aL×lS×al):Prop:=u.2=v.2/\jnF s c u.1=v.1
def JR.ite{s:aL}{c:ff}{p q:Prop}[Decidable p][Decidable q](e:p↔q){u v a b:aL×lS×al}(d:q->JR s c u v)(f:¬q->JR s c a b):JR s c (if p then u else a) (if q then v else b):=by
 by_cases k:q
 {rw[aN<|e.2 k,aN k];exact d k};rw[aK<|λz=>k (e.1 z),aK k];exact f k
set_option maxRecDepth 100000
def MR(s:aL)(id:Tx)(b:s.2.2.1.length<=1000000):qI (s,id,())=aa (sd s id):=by unfold qI sd;refine ob (CW s id b) ?_;dsimp only;unfold CV;cases h:DY s.2.2.1 id with|none=>rfl|some i =>obtain⟨x,a,_⟩:=y8 h;dsimp only;rw[aF ai,ag,au a,ab,a];exact ob (CX s i) rfl
end Go.Ge
namespace Go.Ge
variable [Lp]
set_option maxRecDepth 100000
def alK.row{s:aL}(h:alK s):aoe s:=⟨h.hd,by have:=h.apA;omega,by have:=h.U9;omega⟩
def zd{c:Type}{b:Bool}{x y:List c}{a:c}(h:a∈BW b x y):a∈x\/a∈y:=by
 cases b
 {exact .inr h};exact .inl h
def qP{a:Type}{b:Bool}{x y:List a}{n:Nat}(c:x.length<=n)(d:y.length<=n):(BW b x y).length<=n:=by
 cases b
 {exact d};exact c
end Go.Ge
namespace Go.Ge
variable [Lp]
def akf{s}(h:W24 s) k (g:List Tx) (r:g.length<=1000) id (d:k=3) (hx:∃x∈s.2.2.1,x.1=id):ha (s,k,id,g,())=aa (rnS s k id g,()):=by
 have e:=h.hd.ll;subst d;unfold ha rnS;dsimp only;rw[ax aI,ag,ax aI,ag,ej ai];rcases x5 (f:=mu (s,_)) s.2.2.1 (λy=>decide (y.1=id)) (λq=>(q,id,())) ai (λi y a l=>by unfold mu;dsimp only;rw[aq l,aj,aO ai ep,aj,au a,ab,cI,di];by_cases q:y.1=id<;>simp[q]) (by unfold mu;rw[aw,ag]) with ⟨j,y,a,b,m⟩|⟨c,_⟩
 rotate_left
 .obtain⟨y,a,n⟩:=hx;have:=c y a;simp[n] at this
 have b:=gb b;have t:=aA a;have o:DY s.2.2.1 id=aa j:=by rw[<-b];exact C1 h.Xn a
 have p:BZ (λz=>z.1) s.2.2.1 ly0 id=y:=by rw[<-b];exact iy h.Xn (kG a)
 rw[m,ab,show cF 1 0=false from rfl,ag,ab];dsimp only;rw[sF _ ai,ab,aO ai ep,au a,ab,ab,ab];unfold rnL oo;rw[o,p,b];rfl
def TT(s:aL)(c:ff):aL×lS×al :=if c.1=1 then crS s c.2.2.2.1 c.2.2.2.2.1 c.2.2.2.2.2.1 c.2.2.2.2.2.2.2.1 else if c.1=2 then dlS s c.2.2.1 else if c.1=3 then(s,dfA s c.2.2.1,()) else if c.1=4 then(s,chA s c.2.2.1,()) else if c.1=5 then ctS s c.2.2.1 1 else if c.1=6 then ctS s c.2.2.1 (-1) else if c.1=7 then crI s c.2.2.2.1 c.2.2.2.2.1 c.2.2.2.2.2.1 c.2.2.2.2.2.2.2.1 else if c.1=8 then dlI s c.2.2.1 else if c.1=11 then crB s c.2.2.2.1 c.2.2.2.2.1 c.2.2.2.2.2.1 c.2.2.2.2.2.2.2.1 else if c.1=12 then dlW s c.2.2.1 else if c.1=9\/c.1=10 then itS s c else if c.1=13\/c.1=14\/c.1=15 then rcS s c else(s,gl 1,())
structure GB (c:ff):Prop where
 SJ:ow c.2.2.2.2.1
 data:c.2.2.2.2.2.1.length<=8704
 key:c.2.2.2.2.2.2.1.length<=100
def akg{s}(h:W24 s){c}(r:GB c):yJ (s,c,())=aa (TT s c):=by
 have y:=r.SJ.1;have hd:=r.data;have t:=h.ml;have u:=h.hd.il;unfold yJ TT;dsimp only;by_cases i:c.1=1
 .rw[ay i,aN i];exact ob (DC s c.2.2.2.1 c.2.2.2.2.1 c.2.2.2.2.2.1 c.2.2.2.2.2.2.2.1 h.hd ai ai h.tree) rfl
 rw[ax i,aK i];by_cases j:c.1=2
 .rw[ay j,aN j];exact ob (J6 s _ h.hd ai) rfl
 rw[ax j,aK j];by_cases k:c.1=3
 .rw[ay k,aN k];exact ob (N1 h _) rfl
 rw[ax k,aK k];by_cases l:c.1=4
 .rw[ay l,aN l];exact ob (Ic h _) rfl
 rw[ax l,aK l];by_cases m:c.1=5
 .rw[ay m,aN m];exact ob (ob (MP h c.2.2.1<|.inl rfl) rfl) rfl
 rw[ax m,aK m];by_cases n:c.1=6
 .rw[ay n,aN n];exact ob (ob (MP h c.2.2.1<|.inr rfl) rfl) rfl
 rw[ax n,aK n];by_cases o:c.1=7
 .rw[ay o,aN o];exact ob (JZ s _ _ _ _ h.hd ai ai) rfl
 rw[ax o,aK o];by_cases p:c.1=8
 .rw[ay p,aN p];exact ob (J0 s _ h.hd h.E9) rfl
 rw[ax p,aK p];by_cases e:c.1=11
 .rw[ay e,aN e];exact ob (LC s _ _ _ _ h.hd h.E9 ai) rfl
 rw[ax e,aK e];by_cases f:c.1=12
 .rw[ay f,aN f];exact ob (RO h _) rfl
 rw[ax f,aK f,show(((ao _ ((aR c.1 9,()),()) _).1).1)=decide (c.1=9\/c.1=10) from by by_cases a:c.1=9;{rw[ay a,aj,cT (.inl a)]};rw[ax a];exact fk.2 ⟨.inr,λq=>q.resolve_left a⟩]
 by_cases g:c.1=9\/c.1=10
 .rw[cT g,aN g];exact ob (akd h c g ai) rfl
 rw[cj g,aK g,show(((ao _ _ ((((ao _ ((aR c.1 14,()),()) _).1).1,()),())).1).1)=decide (c.1=13\/c.1=14\/c.1=15) from by by_cases a:c.1=13;{rw[ay a,aj,cT (.inl a)]};by_cases b:c.1=14;{rw[ax a,ag,ay b,aj,cT (.inr<|.inl b)]};rw[ax a,ax b];exact fk.2 ⟨λq=>.inr (.inr q),λq=>(q.resolve_left a).resolve_left b⟩]
 by_cases d:c.1=13\/c.1=14\/c.1=15
 .rw[cT d,aN d];refine ob (ag7 h c d ai λid v=>?_) rfl;rcases v with q|q|⟨w,x⟩;{exact VD h _ _ ai id (.inl q)};{exact VD h _ _ ai id (.inr q)};exact akf h _ _ ai id w x
 rw[cj d,aK d];rfl
def W24.part{s}(h:W24 s) c:W24 (aaJ s c):=by
 have a:∀{x},x∈(aaJ s c).1->x∈s.1:=λ{x} q=>(zd q).resolve_right aW;have hi:∀{x},x∈(aaJ s c).2.1->x∈s.2.1:=λ{x} q=>(zd q).resolve_right aW;have d:∀{x},x∈(aaJ s c).2.2.1->x∈s.2.2.1:=λ{x} q=>(zd q).resolve_right aW;have up:∀{α} {key:α->Tx} {l} b,kA key l->kA key (BW b l []):=λ{α key l} b q=>by cases b;{exact List.Pairwise.nil};exact q
 exact {
  hd:=⟨qP h.hd.ll aW,qP h.hd.il aW,qP h.hd.bl aW,λx q=>h.hd.ln x (d q),λx q=>h.hd.sj x (hi q),λx q=>h.hd.bn x (a q),λx q=>h.hd.it x (hi q)⟩
  dl:=qP (by rw[RS];exact h.hd.ll) aW
  ml:=qP h.ml aW
  DZ:=up _ h.DZ
  E9:=up _ h.E9
  Xn:=up _ h.Xn
  bits:=λx q=>h.bits x (a q)
  U9:=λx q=>h.U9 x ((λ{x} q=>(zd q).resolve_right aW) q)
  idB:=λx q=>h.idB x (a q)
  idI:=λx q=>h.idI x (hi q)
  idL:=λx q=>h.idL x (d q) }
def amr(a:List bD)(id:Tx)(g:List Tx):(rnL a id g).length=a.length:=by unfold rnL;rw[ahQ]
end Go.Ge
namespace Go.Ge.W24
variable [Lp]
set_option maxRecDepth 100000
abbrev arG:=Int×Tx×Int×Tx×al
def w1:Tx:=[48,48,48,48,48,49]
def w2:Tx:=[48,48,48,48,48,50]
def w3:Tx:=[48,48,48,48,48,51]
def w4:Tx:=[48,48,48,48,48,52]
def wb:Tx:=[98,97,115,101]
def ww:Tx:=[119,101,98]
def M1(D:Tx):bD:=(w1,[],[wb],D,1024,0,true,())
def M4(D:Tx):bD:=(w4,w1,[],D,1024,0,true,())
def im2(l:List Item):eE:=(w2,[ww],w1,[],l,())
def bx3:r5:=(w3,[],w2,w4,[],[],())
def t0:aL:=([],[],[],[],[],())
def t1(D N:Tx):aL:=([],[],[M1 D],[N],[],())
def t2(D N:Tx):aL:=([],[im2 []],[M1 D],[N],[],())
def t3l(D N:Tx):aL:=([],[im2 []],[M1 D,M4 D],[N,N],[],())
def t3(D N:Tx)(l:List Item):aL:=([bx3],[im2 l],[M1 D,M4 D],[N,N],[],())
def dV:Tx:=ql [118]
def itV:Item:=([107],dV,[118],())
def okW(id:Tx):arG:=(0,id,0,[],())
def c1:ff:=(1,0,[],[],[wb],[],[],1,())
def c2:ff:=(7,0,[],wb,[ww],[],[],2,())
def c3:ff:=(11,0,[],ww,[],[],[],67108867,())
def c4:ff:=(2,0,wb,[],[],[],[],0,())
def c5:ff:=(9,2,ww,[],[],[118],[107],0,())
def c6:ff:=(10,2,[48],[],[],[],[107],0,())
def c7:ff:=(15,3,[],[],[],[],[],0,())
def c8:ff:=(99,0,[],[],[],[],[],0,())
def a7:Tx:=[48,48,48,48,48,49,32,98,97,115,101,10,48,48,48,48,48,52,10]
def arJ:crG t0 [] [wb] 1=(t1 (ql<|uW 1024)<|uW 1024,BS w1,()):=by
 have a:dA [wb]=0:=by kernel_rfl
 rfl
def arK:crG (t2 (ql<|uW 1024)<|uW 1024) w1 [] 4=(t3l (ql<|uW 1024)<|uW 1024,BS w4,()):=by
 have b:dA []=0:=by kernel_rfl
 have a:∀D N,aS (fH<|t2 D N) w1=(w1,0,()):=λD N=>by kernel_rfl
 have c:dR (t2 (ql<|uW 1024)<|uW 1024) w1=w1:=by unfold dR;rw[aK aI,a]
 unfold crG;rfl
end Go.Ge.W24
namespace Go.Ge.W24
variable [Lp]
set_option maxRecDepth 100000
end Go.Ge.W24
namespace Go.Ge.W24
variable [Lp]
set_option maxRecDepth 100000
end Go.Ge.W24
namespace Go.Ge
variable [Lp]
def aaP(c:ff):∃b,nu (c,())=aa (b,())/\(b=true->GB c):=by
 obtain⟨b,e,f⟩:=WW c.2.2.2.2.1;unfold nu;rw[e,EF (c:=8704) rfl,EF (c:=100) (l:=c.2.2.2.2.2.2.1) rfl];generalize ao (cm _ 100) _ false=q;cases q
 .exact⟨false,rfl,λh=>by cases h⟩
 by_cases a:c.2.2.2.2.2.1.length<=8704
 {by_cases d:c.2.2.2.2.2.2.1.length<=100;{refine⟨b,?_,λh=>⟨f h,a,d⟩⟩;rw[cT a,cT d];rfl};refine⟨false,?_,λh=>by cases h⟩;rw[cT a,cj d];rfl};refine⟨false,?_,λh=>by cases h⟩;rw[cj a];rfl
structure K24 (n:Nat) (s:aL):Prop where
 bl:s.1.length<=n
 il:s.2.1.length<=n
 ll:s.2.2.1.length<=n
 dl:s.2.2.2.1.length<=n
 ml:s.2.2.2.2.1.length<=n
 xb:∀x∈s.1,ow x.2.1/\zq x.2.2.2.2.2.1
 xi:∀x∈s.2.1,ow x.2.1/\zq x.2.2.2.2.1
 xl:∀x∈s.2.2.1,ow x.2.2.1
def K24.row{s}(h:K24 40 s):aoe s:=⟨⟨h.ll,h.il,h.bl,h.xl,λx q=>(h.xi x q).1,λx q=>(h.xb x q).1,λx q=>(h.xi x q).2⟩,by have:=h.dl;omega,by have:=h.ml;omega⟩
def K24.up{s}(h:K24 39 s):K24 40 s:=⟨by have:=h.bl;omega,by have:=h.il;omega,by have:=h.ll;omega,by have:=h.dl;omega,by have:=h.ml;omega,h.xb,h.xi,h.xl⟩
def K24.ite{p}[Decidable p]{u v:aL×lS×al}(a:p->K24 40 u.1)(b:¬p->K24 40 v.1):K24 40 (if p then u else v).1:=by grind
def aaQ:zq ([]:List Item):=⟨aW,λx a=>by cases a⟩
def akh{l p x}(h:x∈OS l p):x∈l:=by unfold OS at h;grind
def RT{l}(h:zq l){p d}(e:p.length<=100)(a:(jy l p d).2=0):zq (jy l p d).1:=by
 unfold jy at a⊢;split at a
 rotate_left
 .cases a
 rename_i q;rw[aN q];split at a
 .cases a
 rename_i b;rw[aK b];have f:=h.1;refine⟨?_,λx hx=>?_⟩
 {dsimp only;rw[aay];unfold OS;cases c:sO l p with|none =>grind|some i =>have:=aeG c;grind};rcases aax.1 hx with rfl|hx;{grind};exact h.2 x (akh hx)
def aki{α}{a:α->Tx}{l d id}:BZ a l d id∈l\/BZ a l d id=d:=by unfold BZ;cases h:l.find? _ with|none=>exact .inr rfl|some y=>exact .inl (X0 h)
def aaR:ow []:=⟨aW,λx a=>by cases a⟩
def K24.part{s}(h:K24 39 s) c:K24 39 (aaJ s c) :=⟨qP h.bl aW,qP h.il aW,qP h.ll aW,qP (by rw[RS];exact h.ll) aW,qP h.ml aW,λx q=>h.xb x ((zd q).resolve_right aW),λx q=>h.xi x ((zd q).resolve_right aW),λx q=>h.xl x ((zd q).resolve_right aW)⟩
def LH{α S R}{f:S->Option (S⊕R)} key l id (j:l.length<=1000000) (mk:List α->Int->S) fin
  (b:∀r (i:Nat) y,l[i]?=aa y->r.length<=1000000->f (mk r i)=aa (.inl<|mk (if key y=id then r else r++[y])<|aC .i64 i 1)) (c:f (mk (sR key l id) (l.length:Int))=aa (.inr fin)):Loop f (mk [] 0)=aa fin:=by
 have e:∀m,m.flatMap (λy=>if key y=id then [] else [y])=sR key m id:=λm=>by unfold sR;induction m with|nil=>rfl|cons a r d =>rw[M9,d,adS];by_cases q:key a=id;{rw[aN q,aK (by simp[q])];rfl};rw[aK q,aN (by simp[q])];rfl
 refine hU l mk _ fin ai (λi x g k h=>?_) (by rw[e];exact c);rw[b _ i x g<|by rw[e];exact gS (mC key _ id).length_le (by rw[cY];omega),h];split<;>simp
def aol{α R}(l:List α) k x (a:k<=l.length) (b:l.length<=1000000) (F:List α->Option R) :
  ao (inside 0 k<|len l) (ao (fits<|plus (len ([]:List α))<|len<|sub l 0<|minus k 0) (ao (fits<|plus (len<|app ([]:List α)<|sub l 0<|minus (k:Int) 0)<|len [x]) (ao (inside k (len l)<|len l) (ao (fits<|plus (len<|app (app ([]:List α)<|sub l 0<|minus (k:Int) 0) [x])<|len<|sub l k<|minus (len l) k) (F<|app (app (app ([]:List α)<|sub l 0<|minus k 0) [x])<|sub l k<|minus (len l) k) af) af) af) af) af=F (sH l k x):=by
 rw[show inside 0 k _=true from aV ai ai ep,fY,je l k a,show inside k (len l) _=true from jf a (b8 _)];simp only[hJ];rw[aP dW,aP dW,aP dW];rfl
def J8(s:aL)(id:Tx)(g:s.1.length<=1000000)(j:s.2.1.length<=1000000)(k:s.2.2.1.length<=1000000):tQ (s,id,())=aa (wx s id,()):=by
 unfold tQ wx;rcases eR (f:=rJ (s,id,())) s.2.2.1 (λi=>((false,i,()),())) (λ_ y=>decide (y.2.1=id)) (λi _=>(1,(true,(i:Int),()),())) _ ai (λi y a b c=>by unfold rJ;rw[aq b,aj,au a,ab,cI,di,c];by_cases q:y.2.1=id<;>simp[q]) (by unfold rJ;rw[aw,ag]) with ⟨i,y,a,d,_,h⟩|⟨e,h⟩
 .rw[h,ab,Vu a d];rfl
 rw[h,ab,aaA λy a=>by obtain⟨i,b⟩:=bp.1 a;exact e i y b];dsimp only;rcases eR (f:=rK (s,id,())) s.2.1 (λi=>((false,i,()),())) (λ_ y=>decide (y.2.2.1=id)) (λi _=>(1,(true,(i:Int),()),())) _ ai (λi y a b c=>by unfold rK;rw[aq b,aj,au a,ab,cI,di,c];by_cases q:y.2.2.1=id<;>simp[q]) (by unfold rK;rw[aw,ag]) with ⟨i,y,a,d,_,h⟩|⟨e,h⟩
 .rw[h,ab,Vu a d];rfl
 rw[h,ab,aaA λy a=>by obtain⟨i,b⟩:=bp.1 a;exact e i y b];rcases eR (f:=rL (s,id,())) s.1 (λi=>((false,i,()),())) (λ_ y=>decide (y.2.2.2.1=id)) (λi _=>(1,(true,i,()),())) _ ai (λi y a b c=>by unfold rL;rw[aq b,aj,au a,ab,cI,di,c];by_cases q:y.2.2.2.1=id<;>simp[q]) (by unfold rL;rw[aw,ag]) with ⟨i,y,a,d,_,h⟩|⟨e,h⟩
 .rw[h,Vu a d];rfl
 rw[h,aaA λy a=>by obtain⟨i,b⟩:=bp.1 a;exact e i y b];rfl
def uf(s:aL)(id:Tx)(l:s.2.2.2.2.1.length<=1000000)(m:kA (·.1) s.2.2.2.2.1):jc (s,id,())=aa (qO s id,()):=by
 obtain⟨_,k⟩:=J5 s id l;unfold jc;rcases eR (f:=oa (s,id,())) s.2.2.2.2.1 (λi=>((0,i,()),())) (λ_ y=>decide (y.1=id)) (λi y=>(1,(y.2.1,i,()),())) _ ai (λi y e g n=>by unfold oa;rw[aq g,aj,au e,ab,cI,di,ab,n];by_cases q:y.1=id<;>simp[q]) (by unfold oa;rw[aw,ag]) with ⟨i,y,e,c,_,h⟩|⟨o,h⟩
 {rw[h,ab,show cF 1 0=false from rfl,ag];have a:=kG e;have c:=gb c;rcases k with ⟨x,j,b,d⟩|⟨_,d⟩;{obtain rfl:=m.inj _ j a (b.trans c.symm);rw[d]};exact absurd c (d y a)};rw[h,ab,cu,aj];rcases k with ⟨x,j,b,d⟩|⟨b,_⟩;{obtain⟨i,g⟩:=bp.1 j;have:=o i x g;simp[b] at this};rw[b]
def vJ(s:aL)(id:Tx) n (d:s.2.2.2.2.1.length<=50000):nw (s,id,n,())=aa (NY s id n,()):=by
 have b:=(mC (λy=>y.1) s.2.2.2.2.1 id).length_le;unfold nw NY;dsimp only;rw[LH _ s.2.2.2.2.1 id ai (λr i=>(((),i,()),r,())) _ (λr i y a b=>by unfold uS;rw[aq<|aA a,au a,ab,cI,ab,show fits _=true from aP dW];by_cases q:y.1=id;{rw[cT q,aN q];rfl};rw[cj q,aK q];rfl)<|by unfold uS;rw[aw];rfl,ab]
 generalize sR _ s.2.2.2.2.1 id=l at b;by_cases q:0<n
 rotate_left
 .rw[bL ai,aj,aK q]
 rw[cN ai,aN q];have c:=jN (λy=>y.1) l id;have h:=mB (f:=p8 (s,id,n,()) (((),s.2.2.2.2.1.length,()),l,())) _ l id ai (λi=>((i,()),())) _ _ (λi y a=>by have hi:=aA a;unfold p8;dsimp only;rw[aq hi,aO ai ep,au a,ab,aJ ai];cases dK y.1 id<;>rfl) (by unfold p8;rw[aw];rfl)
 have e:(if cU (λy=>y.1) l id<l.length then((((cU (λy=>y.1) l id:Nat):Int),()),()) else((l.length,()),()))=((((cU (λy=>y.1) l id:Nat):Int),()),()):=by split;{rfl};rw[show cU _ l id=l.length by omega]
 rw[h,e,O5];exact aol l _ _ c ai (λm=>aa ((s.1,s.2.1,s.2.2.1,s.2.2.2.1,m,s.2.2.2.2.2),()))
def akj{α}(a:α->Tx){l}(f:kA a l){k:Nat}{x}(c:l[k]?=aa x){i y}(b:l[i]?=aa y):a y=a x↔i=k:=by
 refine⟨λh=>?_,λh=>by subst h;rw[c] at b;rw[aU b]⟩;have:=D3.1 f;have d:=aA c;have e:=aA b;rcases Ma i k with q|q|q
 .have:=this i k (by simpa using e) (by simpa using d) q;rw[adT,adT,(ga.1 c).2,(ga.1 b).2,h,fE] at this;cases this
 {exact q};have:=this k i (by simpa using d) (by simpa using e) q;rw[adT,adT,(ga.1 c).2,(ga.1 b).2,h,fE] at this;cases this
def Pl{b:Type}(a:b->Tx)(l:List b)(id:Tx)(n:Int):Prop:=(∃(k:Nat) (x:b),l[k]?=aa x/\a x=id/\n=k)\/((∀x∈l,a x≠id)/\n=-1)
def Pl.is{α}{a:α->Tx}{l id n}(h:Pl a l id n)(c:kA a l){i:Nat}{y}(b:l[i]?=aa y):aR i n=decide (a y=id):=by
 apply fk.2;rcases h with ⟨k,x,d,rfl,rfl⟩|⟨e,rfl⟩
 {rw[akj a c d b];omega};exact⟨λq=>ai,λq=>absurd q (e y<|kG b)⟩
def Pl.BZ{α}{a:α->Tx}{l id n}(h:Pl a l id n)(f:kA a l) d:∃b,ao (ba n 0) (aa (d,false,())) (ae (idx l n) λy=>aa (y,true,()))=aa (Go.Ge.BZ a l d id,b,()):=by
 unfold Go.Ge.BZ;rcases h with ⟨k,x,c,rfl,rfl⟩|⟨g,rfl⟩
 {refine⟨true,?_⟩;rw[ au c];cases e:l.find? λy=>decide (a y=a x) with|none=>have:=Pf.1 e x (kG c);simp at this|some y =>rw[f.inj a (X0 e) (kG c)<|by simpa using Pn e];rfl};refine⟨false,?_⟩;rw[Pf.2 λx i=>by simpa using g x i];rfl
def ae0{α f}(a:α->Tx) l (id:Tx) (p:l.length<=1000000)
  (e:∀c i,f ((c,i,()),())=ao (ba i<|len l) (ae (idx l i) λy=>ao (bA (a y) id) (aa<|.inr (1,(i,i,()),())) (aa<|.inl ((c,aC .i64 i 1,()),()))) (aa<|.inr (0,(c,i,()),()))) : ∃n,ae (Loop f ((0,0,()),())) (λg=>ao (cF g.1 0) (aa ((-1:Int),())) (aa (g.2.1.1,())))=aa (n,())/\Pl a l id n:=by
 rcases eR (f:=f) l (λi=>((0,i,()),())) (λ_ y=>decide (a y=id)) (λi _=>(1,(i,i,()),())) _ ai (λi y b d j=>by rw[e,aq d,aj,au b,ab,cI,di,j];by_cases q:a y=id<;>simp[q]) (by rw[e,aw,ag]) with ⟨i,y,b,k,_,h⟩|⟨m,h⟩
 .refine⟨i,?_,.inl ⟨i,y,b,gb k,rfl⟩⟩;rw[h];rfl
 .refine⟨-1,?_,.inr ⟨λx o=>?_,rfl⟩⟩;{rw[h];rfl};obtain⟨i,d⟩:=bp.1 o;exact Yb (m i x d)
def RU(s:aL)(id:Tx)(a:s.2.1.length<=1000000):∃n,xQ (s,id,())=aa (n,())/\Pl (λx=>x.1) s.2.1 id n:=ae0 _ s.2.1 id a λc i=>rfl
def RV(s:aL)(id:Tx)(a:s.1.length<=1000000):∃n,xR (s,id,())=aa (n,())/\Pl (λx=>x.1) s.1 id n:=ae0 _ s.1 id a λc i=>rfl
def LI(s:aL)(id:Tx)(a:s.2.1.length<=1000000)(c:kA (·.1) s.2.1):∃b,oW (s,id,())=aa (BZ (·.1) s.2.1 im0 id,b,()):=by obtain⟨n,h,d⟩:=RU s id a;unfold oW;rw[h];exact d.BZ c im0
def LJ(s:aL)(id:Tx)(a:s.1.length<=1000000)(c:kA (·.1) s.1):∃b,sy (s,id,())=aa (BZ (·.1) s.1 UB id,b,()):=by obtain⟨n,h,d⟩:=RV s id a;unfold sy;rw[h];exact d.BZ c UB
def aaS(s:aL)(id:Tx)(b:s.2.1.length<=1000000)(c:kA (·.1) s.2.1):mU (s,id,())=aa ((s.1,(sR (·.1) s.2.1 id,s.2.2)),()):=by obtain⟨n,h,d⟩:=RU s id b;unfold mU;rw[h,ab,LH _ s.2.1 id b (λr i=>(((),i,()),r,())) _ (λr i y a e=>by unfold r0;rw[aq<|aA a,au a,ab,d.is c a,show fits _=true from aP dW];by_cases q:y.1=id;{rw[cT q,aN q];rfl};rw[cj q,aK q];rfl) (by unfold r0;rw[aw];rfl),ab]
def aaT(s:aL)(id:Tx)(b:s.1.length<=1000000)(c:kA (·.1) s.1):mV (s,id,())=aa ((sR (·.1) s.1 id,s.2),()):=by obtain⟨n,h,d⟩:=RV s id b;unfold mV;rw[h,ab,LH _ s.1 id b (λr i=>(((),i,()),r,())) _ (λr i y a e=>by unfold r4;rw[aq<|aA a,au a,ab,d.is c a,show fits _=true from aP dW];by_cases q:y.1=id;{rw[cT q,aN q];rfl};rw[cj q,aK q];rfl) (by unfold r4;rw[aw];rfl),ab]
def LK(s:aL)(x:eE)(g:s.2.1.length<=100000)(b:kA (·.1) s.2.1):sw (s,x,())=aa ((s.1,(lR (·.1) (sR (·.1) s.2.1 x.1) x,s.2.2)),()):=by
 have c:=(mC (λy=>y.1) s.2.1 x.1).length_le;unfold sw;rw[aaS s x.1 ai b,ab];generalize sR _ s.2.1 x.1=l at c;have d:=jN (λy=>y.1) l x.1;have h:=mB (f:=tR (s,x,()) ((s.1,l,s.2.2),())) _ l x.1 ai (λi=>((i,()),())) _ _ (λi y a=>by have hi:=aA a;unfold tR;rw[aq hi,au a,ab,aJ ai];cases dK y.1 x.1<;>rfl) (by unfold tR;rw[aw];rfl)
 have e:(if cU (λy=>y.1) l x.1<l.length then((((cU (λy=>y.1) l x.1:Nat):Int),()),()) else((l.length,()),()))=((((cU (λy=>y.1) l x.1:Nat):Int),()),()):=by split;{rfl};rw[show cU _ l x.1=l.length by omega]
 rw[h,e,O5];exact aol l _ x d ai (λm=>aa ((s.1,m,s.2.2),()))
def LL(s:aL)(x:r5)(g:s.1.length<=100000)(b:kA (·.1) s.1):sx (s,x,())=aa ((lR (·.1) (sR (·.1) s.1 x.1) x,s.2),()):=by
 have c:=(mC (λy=>y.1) s.1 x.1).length_le;unfold sx;rw[aaT s x.1 ai b,ab];generalize sR _ s.1 x.1=l at c;have d:=jN (λy=>y.1) l x.1;have h:=mB (f:=tV (s,x,()) ((l,s.2),())) _ l x.1 ai (λi=>((i,()),())) _ _ (λi y a=>by have hi:=aA a;unfold tV;rw[aq hi,au a,ab,aJ ai];cases dK y.1 x.1<;>rfl) (by unfold tV;rw[aw];rfl)
 have e:(if cU (λy=>y.1) l x.1<l.length then((((cU (λy=>y.1) l x.1:Nat):Int),()),()) else((l.length,()),()))=((((cU (λy=>y.1) l x.1:Nat):Int),()),()):=by split;{rfl};rw[show cU _ l x.1=l.length by omega]
 rw[h,e,O5];exact aol l _ x d ai (λm=>aa ((m,s.2),()))
def ltC(x y:Dl):Prop:=cmpL (parts x.2.1) (parts y.2.1)<0
instance arL (x y:Dl):Decidable (ltC x y):=inferInstanceAs (Decidable<|cmpL (parts x.2.1) (parts y.2.1)<0)
def Ih(l:List Dl):Prop:=l.Pairwise ltC
def Ii x:¬ltC x x:=by unfold ltC;rw[jL];omega
def VE{x y z}(h:ltC x y)(g:ltC y z):ltC x z:=mx h g
def akk:∀{l m},Ih l->Ih m->(∀c,c∈l↔c∈m)->l=m:=by intro l;induction l with|nil =>(intro m _ _ h;cases m with|nil=>rfl|cons d m=>exact absurd ((h d).2 aW) aW)|cons c l k =>intro m b f h;cases m with|nil=>exact absurd ((h c).1 aW) aW|cons d m =>(unfold Ih at b f;rw[ym] at b f;have i:c=d:=by (have a:c=d\/c∈m:=by simpa using(h c).1 aW);(have j:d=c\/d∈l:=by simpa using(h d).2 aW);rcases a with e|a;{exact e};rcases j with e|j;{exact e.symm};exact absurd (VE (b.1 d j)<|f.1 c a) (Ii c));subst i;rw[k b.2 f.2 λq=>?_];constructor;{(intro g;have:q=c\/q∈m:=by simpa using(h q).1 (by simp[g]));rcases this with e|a;{subst e;exact absurd (b.1 q g) (Ii q)};exact a};(intro g;have:q=c\/q∈l:=by simpa using(h q).2 (by simp[g]));rcases this with e|a;{subst e;exact absurd (f.1 q g) (Ii q)};exact a
def VF a r c:GA (a::r) c=if ltC a c then a::GA r c else c::a::r:=by
 unfold GA;by_cases h:cmpL (parts a.2.1) (parts c.2.1)<0
 {rw[aN<|show ltC a c from h];simp[h]};rw[aK<|show ¬ltC a c from h];simp[h]
def J9{r n x}:x∈GA r n↔x=n\/x∈r:=by induction r with|nil=>simp[GA]|cons a r b =>rw[VF];split;{rw[eK,b,eK];constructor;{rintro(h|h|h);{exact .inr (.inl h)};{exact .inl h};exact .inr (.inr h)};rintro(h|h|h);{exact .inr (.inl h)};{exact .inl h};exact .inr (.inr h)};rw[eK]
def RW{r n}(b:Ih r)(c:∀x∈r,x.2.1≠n.2.1):Ih (GA r n):=by unfold Ih at b⊢;induction r with|nil=>simp[GA]|cons a r f =>rw[ym] at b;rw[VF];split;{rename_i h;refine ym.2 ⟨λy hy=>?_,f b.2 λx g=>c x (by simp[g])⟩;rcases J9.1 hy with rfl|hy;{exact h};exact b.1 y hy};(rename_i h;have d:ltC n a:=by (have i:cmpL (parts a.2.1) _≠0:=λe=>by have:=Lh e;exact c a aW (by rw[<-dP a.2.1,this,dP]));have j:=QO (parts n.2.1) (parts a.2.1);unfold ltC at h⊢;omega);refine ym.2 ⟨λy hy=>?_,ym.2 b⟩;rcases eK.1 hy with rfl|hy;{exact d};exact VE d (b.1 y hy)
def RX r n:(GA r n).length=r.length+1:=by unfold GA;rw[gR,iG,<-Ht,<-gR,Al]
def IsC(a b:List Nd)(c:Dl):Prop :=(c.1=3/\∃x∈a,x.1=c.2.1/\∀y∈b,y.1≠x.1)\/(c.1=1/\∃y∈b,y.1=c.2.1/\∀x∈a,x.1≠y.1)\/(c.1=2/\∃x∈a,∃y∈b,x.1=y.1/\x≠y/\x.1=c.2.1)
def IsC.path{a b c}(h:IsC a b c):(∃x∈a,x.1=c.2.1)\/∃y∈b,y.1=c.2.1:=by
 rcases h with ⟨_,x,d,e,_⟩|⟨_,y,f,e,_⟩|⟨_,x,d,_,_,_,_,e⟩
 .exact .inl ⟨x,d,e⟩
 {exact .inr ⟨y,f,e⟩};exact .inl ⟨x,d,e⟩
def PO(l:List Nd):Prop:=l.Pairwise λx y=>cmpL (key x) (key y)<0
def C4{x y}(h:cmpL (key x) (key y)<0):x.1≠y.1:=λe=>by unfold key at h;rw[e,jL] at h;omega
def aom{x y}(a:¬cmpL (key x) (key y)<0)(b:¬0<cmpL (key x) (key y)):x.1=y.1:=by have:=Lh (show cmpL (key x) (key y)=0 by omega);unfold key at this;rw[<-dP x.1,this,dP]
def akl:∀n a b,a.length+b.length<=n->PO a->PO b->Ih (Gf a b)/\∀c,c∈Gf a b↔IsC a b c:=by
 have ahead:∀{a b k p r},Ih r->(∀c,c∈r↔IsC a b c)->(∀x∈a,cmpL (parts p) (key x)<0)->(∀y∈b,cmpL (parts p) (key y)<0)->Ih (((k,p,()):Dl)::r):=by intro a b k p r O P Q R;refine ym.2 ⟨λc A=>?_,O⟩;show cmpL _ _<0;rcases((P c).1 A).path with ⟨x,S,e⟩|⟨y,T,e⟩;{rw[<-e];exact Q x S};rw[<-e];exact R y T
 intro n;induction n with
 | zero =>intro a b h _ _;obtain rfl:=Am.1 (show a.length=0 by omega);obtain rfl:=Am.1 (show b.length=0 by omega);rw[Gf];exact⟨List.Pairwise.nil,λc=>by simp[IsC]⟩
 | succ n D =>
   intro a b h J I;cases a with
   | nil =>cases b with|nil=>rw[Gf];exact⟨List.Pairwise.nil,λc=>by simp[IsC]⟩|cons y b =>have o:=ym.1 I;obtain⟨B,t⟩:=D [] b (by simp at h⊢;omega) J o.2;rw[Gf];refine⟨ahead B t Ak o.1,λc=>?_⟩;rw[eK,t];obtain⟨U,V,u⟩:=c;simp only[IsC,eK,adU,false_and,exists_false,and_false,or_false,false_or,Prod.mk.injEq,forall_const,false_implies,implies_true,and_true,exists_eq_or_imp];constructor;{rintro(⟨rfl,rfl⟩|⟨rfl,i,d,rfl⟩);{exact⟨rfl,.inl rfl⟩};exact⟨rfl,.inr ⟨i,d,rfl⟩⟩};rintro⟨rfl,rfl|⟨i,d,rfl⟩⟩;{exact .inl ⟨rfl,rfl⟩};exact .inr ⟨rfl,i,d,rfl⟩
   | cons x a =>
     have q:=ym.1 J;cases b with
     | nil =>obtain⟨B,t⟩:=D a [] (by simp at h⊢;omega) q.2 I;rw[Gf];refine⟨ahead B t q.1 Ak,λc=>?_⟩;rw[eK,t];obtain⟨U,V,u⟩:=c;simp only[IsC,eK,adU,false_and,exists_false,and_false,or_false,Prod.mk.injEq,forall_const,false_implies,and_true,exists_eq_or_imp];constructor;{rintro(⟨rfl,rfl⟩|⟨rfl,i,d,rfl⟩);{exact⟨rfl,.inl rfl⟩};exact⟨rfl,.inr ⟨i,d,rfl⟩⟩};rintro⟨rfl,rfl|⟨i,d,rfl⟩⟩;{exact .inl ⟨rfl,rfl⟩};exact .inr ⟨rfl,i,d,rfl⟩
     | cons y b =>
       have o:=ym.1 I;rw[Gf];split;{(rename_i E;obtain⟨B,t⟩:=D a _ (by simp at h⊢;omega) q.2 I;have j:∀z∈y::b,cmpL _ _<0:=λz g=>by rcases eK.1 g with rfl|g;{exact E};exact mx E (o.1 z g));refine⟨ahead B t q.1 j,λc=>?_⟩;rw[eK,t];constructor;{rintro(rfl|A);{exact .inl ⟨rfl,x,aW,rfl,λz g=>(C4<|j z g).symm⟩};rcases A with ⟨k,l,f,e,m⟩|⟨k,i,d,e,m⟩|⟨k,l,f,i,d,s,v,w⟩;{exact .inl ⟨k,l,by simp[f],e,m⟩};{refine .inr (.inl ⟨k,i,d,e,λz g=>?_⟩);rcases eK.1 g with rfl|g;{exact C4 (j i d)};exact m z g};exact .inr (.inr ⟨k,l,by simp[f],i,d,s,v,w⟩)};rintro(⟨k,l,f,e,m⟩|⟨k,i,d,e,m⟩|⟨k,l,f,i,d,s,v,w⟩);{rcases eK.1 f with rfl|f;{exact .inl (by rw[e,<-k])};exact .inr (.inl ⟨k,l,f,e,m⟩)};{exact .inr (.inr<|.inl ⟨k,i,d,e,λz g=>m z (by simp[g])⟩)};rcases eK.1 f with rfl|f;{exact absurd s (C4<|j i d)};exact .inr (.inr<|.inr ⟨k,l,f,i,d,s,v,w⟩)}
       rename_i K;split;{(rename_i W;obtain⟨B,t⟩:=D _ b (by simp at h⊢;omega) J o.2;have F:cmpL (key y) (key x)<0:=by have:=QO (key y) (key x);omega);(have j:∀z∈x::a,cmpL _ _<0:=λz g=>by rcases eK.1 g with rfl|g;{exact F};exact mx F (q.1 z g));refine⟨ahead B t j o.1,λc=>?_⟩;rw[eK,t];constructor;{rintro(rfl|A);{exact .inr (.inl ⟨rfl,y,aW,rfl,λz g=>(C4<|j z g).symm⟩)};rcases A with ⟨k,l,f,e,m⟩|⟨k,i,d,e,m⟩|⟨k,l,f,i,d,s,v,w⟩;{refine .inl ⟨k,l,f,e,λz g=>?_⟩;rcases eK.1 g with rfl|g;{exact C4 (j l f)};exact m z g};{exact .inr (.inl ⟨k,i,by simp[d],e,m⟩)};exact .inr (.inr ⟨k,l,f,i,by simp[d],s,v,w⟩)};rintro(⟨k,l,f,e,m⟩|⟨k,i,d,e,m⟩|⟨k,l,f,i,d,s,v,w⟩);{exact .inr (.inl ⟨k,l,f,e,λz g=>m z (by simp[g])⟩)};{rcases eK.1 d with rfl|d;{exact .inl (by rw[e,<-k])};exact .inr (.inr<|.inl ⟨k,i,d,e,m⟩)};rcases eK.1 d with rfl|d;{exact absurd s.symm (C4<|j l f)};exact .inr (.inr<|.inr ⟨k,l,f,i,d,s,v,w⟩)}
       (rename_i L;obtain⟨B,t⟩:=D a b (by simp at h⊢;omega) q.2 o.2;have C:=aom K L;have M:key x=key y:=by unfold key;rw[C]);(have G:=λz g=>C4 (q.1 z g);have H:∀z∈b,x.1≠z.1:=λz g=>by rw[C];exact C4 (o.1 z g));constructor
       .split;{exact B}
        exact ahead B t q.1 (λz g=>by
        show cmpL (key x) _<0;rw[M];exact o.1 z g)
       intro c;rw[Gp,t];constructor
       .rintro(A|A);{split at A;{cases A};rename_i N;obtain rfl:=D5.1 A;exact .inr (.inr ⟨rfl,x,aW,y,aW,C,N,rfl⟩)}
        rcases A with ⟨k,l,f,e,m⟩|⟨k,i,d,e,m⟩|⟨k,l,f,i,d,s,v,w⟩;{refine .inl ⟨k,l,by simp[f],e,λz g=>?_⟩;rcases eK.1 g with rfl|g;{rw[<-C];exact G l f};exact m z g};{refine .inr (.inl ⟨k,i,by simp[d],e,λz g=>?_⟩);rcases eK.1 g with rfl|g;{exact H i d};exact m z g}
        .exact .inr (.inr ⟨k,l,by simp[f],i,by simp[d],s,v,w⟩)
       .rintro(⟨k,l,f,e,m⟩|⟨k,i,d,e,m⟩|⟨k,l,f,i,d,s,v,w⟩)
        .rcases eK.1 f with rfl|f
         .exact absurd C.symm (m y aW)
         .exact .inr (.inl ⟨k,l,f,e,λz g=>m z (by simp[g])⟩)
        .rcases eK.1 d with rfl|d
         .exact absurd C (m x aW)
         .exact .inr (.inr<|.inl ⟨k,i,d,e,λz g=>m z (by simp[g])⟩)
        .rcases eK.1 f with rfl|f
         .rcases eK.1 d with rfl|d
          .left;rw[aK v,D5,w,<-k]
          .exact absurd s (H i d)
         .rcases eK.1 d with rfl|d
          .exact absurd (C.trans s.symm) (G l f)
          .exact .inr (.inr<|.inr ⟨k,l,f,i,d,s,v,w⟩)
def apN(x y:Nd):an (bA x.1 y.1) (an (aR x.2.1 y.2.1)<|an (aR x.2.2.1 y.2.2.1)<|an (bA x.2.2.2.1 y.2.2.2.1)<|an (bA x.2.2.2.2.1 y.2.2.2.2.1) true)=decide (x=y):=by obtain⟨a,b,c,d,e,f⟩:=x;obtain⟨g,h,i,j,k,l⟩:=y;unfold an bA aR;simp
def TU(a b:List Nd)(c:Dl):Prop :=(c.1=3/\∃x∈a,x.1=c.2.1/\∀y∈b,y.1≠x.1)\/(c.1=2/\∃x∈a,∃y∈b,x.1=y.1/\x≠y/\x.1=c.2.1)
def TU.path{a b c}(h:TU a b c):∃x∈a,x.1=c.2.1:=by rcases h with ⟨_,x,d,e,_⟩|⟨_,x,d,_,_,_,_,e⟩<;>exact⟨x,d,e⟩
def ag8{a b c}:IsC a b c↔TU a b c\/(c.1=1/\∃y∈b,y.1=c.2.1/\∀x∈a,x.1≠y.1):=by
 constructor
 {rintro(h|h|h);{exact .inl (.inl h)};{exact .inr h};exact .inl (.inr h)};rintro((h|h)|h);{exact .inl h};{exact .inr (.inr h)};exact .inr (.inl h)
def step1(b:List Nd)(t:List Dl)(x:Nd):List Dl:=if(findF b x.1).2.1=false then GA t (3,x.1,()) else if(findF b x.1).1=x then t else GA t (2,x.1,())
def step2(a:List Nd)(t:List Dl)(y:Nd):List Dl:=if(findF a y.1).2.1=false then GA t (1,y.1,()) else t
def MS{l}(b:Ord l) p:((∀x∈l,x.1≠p)/\findF l p=(aeN,false,()))\/∃x∈l,x.1=p/\findF l p=(x,true,()):=by
 by_cases h:∃x∈l,x.1=p
 {obtain⟨x,a,e⟩:=h;exact .inr ⟨x,a,e,CP b a e⟩};exact .inl ⟨λx a e=>h ⟨x,a,e⟩,H7 λx a e=>h ⟨x,a,e⟩⟩
def dy{a:Type}{l:List a}{i x z}(b:l[i]?=aa x):z∈l.take (i+1)↔z∈l.take i\/z=x:=by rw[yn,b];simp
def fresh{l}(c:Ord l){i x}(d:l[i]?=aa x):∀z∈l.take i,z.1≠x.1:=λz e=>by
 obtain⟨j,a⟩:=bp.1 e;rw[kh] at a;split at a
 {rename_i b;exact C4 (c j i z x b a d)};cases a
def ag9{a b}(A:Ord a)(r:Ord b){i x}(g:a[i]?=aa x){t}(B:Ih t)(v:∀c,c∈t↔TU (a.take i) b c) :
  Ih (step1 b t x)/\(step1 b t x).length<=t.length+1/\∀c,c∈step1 b t x↔TU (a.take<|i+1) b c:=by
 have s:∀c∈t,c.2.1≠x.1:=λc q e=>by obtain⟨z,d,E⟩:=((v c).1 q).path;exact fresh A g z d (by rw[E,e])
 have f:∀c,TU _ b c->TU _ b c:=λc q=>by rcases q with ⟨k,z,d,e,h⟩|⟨k,z,d,y,j,l,o,p⟩;{exact .inl ⟨k,z,(dy g).2 (.inl d),e,h⟩};exact .inr ⟨k,z,(dy g).2 (.inl d),y,j,l,o,p⟩
 unfold step1;rcases MS r x.1 with ⟨u,C⟩|⟨y,j,w,C⟩
 .rw[C,aN rfl];refine⟨RW B s,by rw[RX];omega,λc=>?_⟩;rw[J9,v];constructor;{rintro(rfl|q);{exact .inl ⟨rfl,x,(dy g).2 (.inr rfl),rfl,u⟩};exact f c q}
  rintro(⟨k,z,d,e,h⟩|⟨k,z,d,y,j,l,o,p⟩);{rcases(dy g).1 d with d|rfl;{exact .inr (.inl ⟨k,z,d,e,h⟩)};exact .inl (by rw[e,<-k])}
  rcases(dy g).1 d with d|rfl;{exact .inr (.inr ⟨k,z,d,y,j,l,o,p⟩)}
  .exact absurd l.symm (u y j)
 .rw[C,aK aW];by_cases m:y=x;{rw[aN m];refine⟨B,ai,λc=>?_⟩;rw[v];refine⟨f c,?_⟩;rintro(⟨k,z,d,e,h⟩|⟨k,z,d,D,n,l,o,p⟩);{rcases(dy g).1 d with d|rfl;{exact .inl ⟨k,z,d,e,h⟩};exact absurd w (h y j)};rcases(dy g).1 d with d|rfl;{exact .inr ⟨k,z,d,D,n,l,o,p⟩};exact absurd ((r.uniq j n<|by rw[w,l]).symm.trans m).symm o};rw[aK m];refine⟨RW B s,by rw[RX];omega,λc=>?_⟩;rw[J9,v];constructor;{rintro(rfl|q);{exact .inr ⟨rfl,x,(dy g).2 (.inr rfl),y,j,w.symm,λe=>m e.symm,rfl⟩};exact f c q};rintro(⟨k,z,d,e,h⟩|⟨k,z,d,D,n,l,o,p⟩);{rcases(dy g).1 d with d|rfl;{exact .inr (.inl ⟨k,z,d,e,h⟩)};exact absurd w (h y j)};rcases(dy g).1 d with d|rfl;{exact .inr (.inr ⟨k,z,d,D,n,l,o,p⟩)};exact .inl (by rw[p,<-k])
def adr(a b m:List Nd)(c:Dl):Prop:=TU a b c\/(c.1=1/\∃y∈m,y.1=c.2.1/\∀x∈a,x.1≠y.1)
def aha{a b}(n:Ord a)(o:Ord b){i y}(j:b[i]?=aa y){t}(u:Ih t)(p:∀c,c∈t↔adr a b (b.take i) c) :
  Ih (step2 a t y)/\(step2 a t y).length<=t.length+1/\∀c,c∈step2 a t y↔adr a b (b.take<|i+1) c:=by
 have f:∀c,adr a b _ c->adr a b _ c:=λc l=>by rcases l with h|⟨k,z,d,e,g⟩;{exact .inl h};exact .inr ⟨k,z,(dy j).2 (.inl d),e,g⟩
 unfold step2;rcases MS n y.1 with ⟨m,q⟩|⟨x,v,w,q⟩
 .rw[q,aN rfl];have r:∀c∈t,c.2.1≠y.1:=λc l e=>by rcases(p c).1 l with h|⟨_,z,d,s,_⟩;{obtain⟨z,d,s⟩:=h.path;exact m z d (by rw[s,e])};exact fresh o j z d (by rw[s,e])
  refine⟨RW u r,by rw[RX];omega,λc=>?_⟩;rw[J9,p];constructor;{rintro(rfl|l);{exact .inr ⟨rfl,y,(dy j).2 (.inr rfl),rfl,m⟩};exact f c l};rintro(h|⟨k,z,d,e,g⟩);{exact .inr (.inl h)};rcases(dy j).1 d with d|rfl;{exact .inr (.inr ⟨k,z,d,e,g⟩)};exact .inl (by rw[e,<-k])
 .rw[q,aK aW];refine⟨u,ai,λc=>?_⟩;rw[p];refine⟨f c,?_⟩;rintro(h|⟨k,z,d,e,g⟩);{exact .inl h};rcases(dy j).1 d with d|rfl;{exact .inr ⟨k,z,d,e,g⟩};exact absurd w (g x v)
def RY a b (p:xk a) (q:xk b):mN (a,b,())=aa ((TS a b).1,(TS a b).2,()):=by
 obtain⟨e,K,G⟩:=pb a p;obtain⟨f,L,H⟩:=pb b q;unfold mN;rw[K,L];simp only[ab];rw[show ao _ _ _=aa (!(e&&f)) by cases e<;>cases f<;>rfl,ab];by_cases hv:Valid a/\Valid b
 .obtain rfl:=G.2 hv.1;obtain rfl:=H.2 hv.2;have g:=hv.1.ord;have j:=hv.2.ord;have M:=p.1;have N:=q.1;have small:∀{t m},t.length<=10000->(∀c,c∈t->adr a b m c)->(∀y∈m,y∈b)->SmC t:=λ{t m} hl w O=>⟨ai,λc r=>by rcases w c r with h|⟨_,z,l,e,_⟩;{obtain⟨z,l,e⟩:=h.path;rw[<-e];have:=(p.2 z l).1;omega};rw[<-e];have:=(q.2 z<|O z l).1;omega⟩
  obtain⟨t,P,Q,_⟩:=sz (f:=mc (a,b,())) a (λt i=>((t,i,()),())) _ _ (λt i=>Ih t/\t.length<=i/\∀c,c∈t↔TU _ b c) ai (λt i x B C d D=>by
   (obtain⟨s,I,n⟩:=D;obtain⟨E,R,F⟩:=ag9 g j B s n;refine⟨?_,E,ai,F⟩;have S:=(p.at B).1;have v:SmC t:=small (m:=[]) ai (λc r=>.inl (by rcases(n c).1 r with ⟨k,z,l,e,T⟩|⟨k,z,l,y,o,U,V,W⟩;{exact .inl ⟨k,z,Bb l,e,T⟩};exact .inr ⟨k,z,Bb l,y,o,U,V,W⟩)) Ak);unfold mc step1;rw[aq C,au B,ab,E3 b x.1 q hv.2,d];simp only[ab];rw[apN,RQ t _ v xv,RQ t _ v xv];cases h:(findF b x.1).2.1 with|false=>rfl|true =>by_cases A:(findF b x.1).1=x;{rw[cT A,aN A];rfl};rw[cj A,aK A];rfl) (λt _=>by
   unfold mc;rw[aw];rfl) [] ⟨List.Pairwise.nil,aW,λc=>by simp[TU]⟩
  obtain⟨s,I,n⟩:=P;obtain⟨u,X,Y,_⟩:=sz (f:=mf (a,b,())) b (λt i=>((t,i,()),())) _ _ (λt i=>Ih t/\t.length<=a.length+i/\∀c,c∈t↔adr a b _ c) ai (λt i y o C d D=>by
   obtain⟨s,I,n⟩:=D;obtain⟨E,R,F⟩:=aha g j o s n;refine⟨?_,E,ai,F⟩;have Z:=(q.at o).1;unfold mf step2;rw[aq C,au o,ab,E3 a y.1 p hv.1,d];simp only[ab];rw[RQ t _ (small ai (λc r=>(n c).1 r) λy o=>Bb o) xv];cases h:(findF a y.1).2.1<;>rfl) (λt _=>by
   unfold mf;rw[aw];rfl) t ⟨s,ai,λc=>by rw[n];simp[adr]⟩
  obtain⟨k1,k2,J⟩:=X;rw[Ao] at J;have w:=akl _ a b (b8 _) (BO.1 g) (BO.1 j);rw[show(!(true&&true))=false from rfl,ag,Q,ab,Y,ab];unfold TS;rw[aN hv,(akk k1 w.1 λc=>by rw[J,w.2,ag8];rfl)]
 .have:(e&&f)=false:=by
   cases e with
   | false=>rfl
   | true =>
     cases f with
     | false=>rfl
     | true=>exact absurd ⟨G.1 rfl,H.1 rfl⟩ hv
  rw[this];unfold TS;rw[aK hv];rfl
def Xx(l:List Dl)(t:l.length<=4096)(j:∀c∈l,c.2.1.length<=4096):tr (l,())=aa (l.flatMap wz,()):=by
 unfold tr;have key:=hU (f:=rj (l,())) l (λd i=>((d,i,()),())) wz _ ai (λi x k n a=>by
  have b:((l.take i).flatMap wz).length<=(l.take i).length*8200:=Gg _ _ _ λc o=>by have:=j c (Bb o);rw[LF];omega
  rw[cY] at b;have p:=j x (kG k);have u:=LD x.1;unfold rj;rw[aq n,au k];simp only[ab,a];have q:(ao (cm 1 x.1) (aa<|cm x.1 3) (aa false):Option Bool)=aa (decide<|1<=x.1/\x.1<=3):=by by_cases g:1<=x.1;{by_cases m:x.1<=3;{rw[bL g,bL m,cT ⟨g,m⟩];rfl};rw[bL g,cN ai,cj ai];rfl};rw[cN ai,cj ai];rfl
  rw[q,ab];have r:(ao (decide<|1<=x.1/\x.1<=3) (ae (idx ([[],[43],[126],[45]]) x.1) λs=>aa ((s,()),())) (aa (([63],()),())):Option _)=aa ((G2 x.1,()),()):=by by_cases h:1<=x.1/\x.1<=3;{rw[cT h,aj,aaN h.1 h.2,ab]};rw[cj h,ag];unfold G2;rw[aK h]
  rw[r,ab];dsimp only;rw[QT x.2.1 ai,ab];have e:app (app (app (app ((l.take i).flatMap wz)<|G2 x.1) [32])<|uT x.2.1) [10]=(l.take i).flatMap wz++wz x:=by unfold wz;simp only[hJ,rO]
  rw[e,aP ai,aP (by simp only[hJ,gR,iG,qp];omega),aP<|by simp only[hJ,gR,iG,qp,iE];omega,aj,aP (by simp only[hJ,gR,iG,qp,iE];omega)];rfl) (by
  unfold rj;rw[aw];rfl)
 rw[show Loop _ _=_ from key,ab]
def cTo{a:Type}(l:List a)(k i:Nat):List a:=if i<=k then l.take i else l.take k++(l.take i).drop (k+1)
def aaU{α}{l:List α}{k i y}(a:l[i]?=aa y)(h:i≠k):cTo l k i++[y]=cTo l k (i+1):=by
 have hi:=aA a;have e:l.take (i+1)=l.take i++[y]:=by rw[yn,a];rfl
 unfold cTo;by_cases q:i<k
 {rw[aN ai,aN ai,e]};rw[aK ai,aK ai,e,abn (by rw[cY];omega),rO]
def aaV{α}{l:List α}{k}:cTo l k k=cTo l k (k+1):=by unfold cTo;rw[aN<|b8 _,aK ai,Iu (by rw[cY];omega),zo]
def ae2{α}{l:List α}{k i}:(cTo l k i).length<=l.length:=by
 unfold cTo;split
 {rw[cY];omega};simp;omega
def O8{α}{l:List α}{k}:cTo l k l.length=if k<l.length then cutAt l k else l:=by
 unfold cTo cutAt;by_cases q:k<l.length
 {rw[aK ai,aN q,Ao]};rw[aN ai,aK q,Ao]
def MT(s:aL)(id:Tx) b k (g:s.2.2.1.length<=1000000) (c:∀i,i<s.2.2.1.length->aR i b.1=decide (i=k)) :
  Loop (jd (s,id,()) b) (((),(),0,()),([]:List Tx),([]:List bD),())=aa (((),(),(s.2.2.1.length:Int),()),cTo (x6 s.2.2.1.length s.2.2.2.1) k s.2.2.1.length,cTo s.2.2.1 k s.2.2.1.length,()):=by
 have key:=cp (f:=jd (s,id,()) b) s.2.2.1.length
  (λi=>(((),(),i,()),cTo (x6 s.2.2.1.length s.2.2.2.1) k i,cTo s.2.2.1 k i,())) (λi a=>by
   have hx:=gQ a;have h:=ae2 (l:=s.2.2.1) (k:=k) (i:=i);have e:=ae2 (l:=x6 s.2.2.1.length s.2.2.2.1) (k:=k) (i:=i);rw[wy] at e;unfold jd;dsimp only;rw[aq a,c i a,aJ ai];by_cases q:i=k;{rw[cT q];subst q;rw[<-aaV,<-aaV];rfl}
   .rw[cj q,au hx,ab,show fits _=true from aP dW,CX,ab,show ∀d,fits (plus _<|@len Tx [d])=true from λd=>aP dW,<-aaU hx q,<-aaU (Xq a) q]
    rfl) (by
   unfold jd;rw[aw];rfl)
 exact key
def DE(s:aL)(id:Tx)(d:s.2.2.1.length<=100000)(b:s.2.2.2.2.1.length<=50000):mT (s,id,())=aa (TR s id,()):=by unfold mT TR;rw[CW s id ai,ab];unfold CV;cases h:DY s.2.2.1 id with|none =>have e:=O8 (l:=x6 s.2.2.1.length s.2.2.2.1) (k:=s.2.2.1.length);rw[wy,aK ai] at e;dsimp only;rw[MT s id _ s.2.2.1.length ai<|λi a=>by rw[ax ai,cj ai],ab,e,O8,aK ai];exact ob (vJ _ id 0 b) rfl|some i =>obtain⟨x,c,_⟩:=y8 h;have a:=aA c;have e:=O8 (l:=x6 s.2.2.1.length s.2.2.2.1) (k:=i);rw[wy,aN a] at e;dsimp only;rw[MT s id _ i ai<|λj f=>by exact fk.2 ai,ab,e,O8,aN a];exact ob (vJ _ id 0 b) rfl
def N3 e:bV (e,())=aa (gl e,()):=rfl
def LM{s}(h:W24 s)(b:kA (·.1) s.2.2.2.2.1)(a:Tx):yK (s,a,())=aa (dlS s a):=by
 have d:=h.hd.ll;have e:=h.hd.il;have f:=h.hd.bl;have g:=h.ml;unfold dlS;refine ob (fI s a h.hd) ?_;by_cases c:(aS (fH s) a).2.1=0
 rotate_left
 .rw[ax c,aN c];rfl
 rw[ay c,aK λq=>q c];refine ob (J8 s _ ai ai ai) ?_;cases i:wx s (aS _ a).1 with|true =>rfl|false =>rw[aE,aj,uf s _ ai b,ab,ab];by_cases q:0<qO s (aS (fH s) a).1;{rw[aT q,aN (.inr q)];rfl};rw[aF ai,aK (by rintro(k|k);cases k;exact q k)];exact ob (DE s _ ai ai) rfl
def RZ{s}(h:W24 s)(a:Tx):Cz (s,a,())=aa (dfA s a,()):=by
 unfold dfA;refine ob (fI s a h.hd) ?_;by_cases c:(aS (fH s) a).2.1=0
 rotate_left
 .rw[ax c,aN c];rfl
 rw[ay c,aK λq=>q c];exact ob (MR s _ (by have:=h.hd.ll;omega)) rfl
def Ka{s}(h:W24 s)(a:Tx):wP (s,a,())=aa (chA s a,()):=by
 have l:=h.hd.ll;unfold chA;refine ob (fI s a h.hd) ?_;by_cases c:(aS (fH s) a).2.1=0
 rotate_left
 .rw[ax c,aN c];rfl
 rw[ay c,aK λq=>q c];refine ob (y9 s _ ai) ?_;by_cases c2:(dZ s.2.2.1 s.2.2.2.1 (aS (fH s) a).1).2=0
 rotate_left
 .rw[ax c2,aN c2];rfl
 rw[ay c2,aK λq=>q c2];refine ob (MR s _ ai) ?_;have fin:∀b,b=zr s (sd s (aS (fH s) a).1).1.2.1->b.2=0->(ae (mN (b.1,_)) λm=>ae (tr (m.1,())) λn=>aa (((0:Int),(aS (fH s) a).1,(0:Int),n.1,()),())) =
   aa _:=λb d e=>by
  subst d;have f:=BX e;have g:=Ia c2;have j:=VC f g;have i:=RY _ _ (fG f) (fG g);unfold TS at i;rw[aN ⟨f,g⟩] at i;refine ob i ?_;exact ob (Xx _ j.1 j.2) rfl
 generalize (sd s (aS _ a).1)=L at fin;by_cases q:L.1.2.1=[]
 .have d:zr s L.1.2.1=([],0):=by unfold zr;rw[aN q]
  rw[show bA L.1.2.1 []=true from cc q,aM,ag,ab, aK (by rw[d];exact λk=>k rfl)];exact fin _ d.symm rfl
 have d:zr s L.1.2.1=dZ s.2.2.1 s.2.2.2.1 L.1.2.1:=by unfold zr;rw[aK q]
 rw[show bA L.1.2.1 []=false from bg q,aE,aj,y9 s _ ai,ab];by_cases e:(dZ s.2.2.1 s.2.2.2.1 L.1.2.1).2=0;{rw[ay e,aM,ag,ab, aK (by rw[d];exact λk=>k e)];exact fin _ d.symm e};rw[ax e,aE,aj,N3,ab,ab,show cF 1 0=false from rfl,ag,aN (by rw[d];exact e),d]
def N4{s}(h:W24 s)(b:kA (·.1) s.2.2.2.2.1)(a:Tx):AH (s,a,())=aa (ctS s a 1):=by
 obtain⟨_,⟨e,f⟩,_⟩:=h.cnt (aS (fH s) a).1;have d:=h.ml;unfold ctS;refine ob (fI s a h.hd) ?_;by_cases c:(aS (fH s) a).2.1=0
 rotate_left
 .rw[ax c,aN c];rfl
 rw[ay c,aK λq=>q c];refine ob (uf s _ ai b) ?_;by_cases q:1000<=qO s (aS (fH s) a).1
 .rw[bL q,aN ⟨aI,q⟩];rfl
 rw[cN ai,aK (λk=>q k.2),eh ai ai];exact ob (vJ s _ _ ai) rfl
def Kb{s}(h:W24 s)(b:kA (·.1) s.2.2.2.2.1)(a:Tx):wQ (s,a,())=aa (ctS s a<|-1):=by
 obtain⟨_,⟨e,f⟩,_⟩:=h.cnt (aS (fH s) a).1;have d:=h.ml;unfold ctS;refine ob (fI s a h.hd) ?_;by_cases c:(aS (fH s) a).2.1=0
 rotate_left
 .rw[ax c,aN c];rfl
 rw[ay c,aK λq=>q c];refine ob (uf s _ ai b) ?_;rw[aK λk=>absurd k.1 aI];by_cases q:qO s (aS (fH s) a).1<1
 .rw[aT q,aN ⟨aI,q⟩];rfl
 rw[aF ai,aK (λk=>q k.2),dc ai ai];exact ob (vJ s _ _ ai) rfl
def zA:lS:=(0,[],0,[],())
def zS:aL:=([],[],[],[],[],())
def B1{s}(h:zl s)(e:Tx){given}(l:ow given)(a:Tx) d (o:a.length<=100000):oV (s,e,given,a,d,())=aa (crS s e given a d):=by
 have F:=h.ll;have G:=O2 h;unfold oV crS;rw[oX given l.small (λx r=>by have:=l.2 x r;omega),ab];dsimp only;by_cases c1:dA given=0
 rotate_left
 .rw[aN c1,ax c1];rfl
 rw[aK<|λq=>q c1,ay c1];have t:(ao (nt<|bA a []) (ae (ks (a,())) λH=>aa (nt<|aR H.1 0))<|some false)=aa (decide<|¬a=[]/\¬((Gz a).2=0/\hW (Gz a).1=true)):=by by_cases q:a=[];{rw[cc q,aM,ag,cj λk=>k.1 q]};rw[bg q,aE,aj,y7];by_cases k:(Gz a).2=0/\hW (Gz a).1=true;{rw[aN k,cj λz=>z.2 k];rfl};rw[aK k,cT ⟨q,k⟩];rfl
 rw[t,ab];by_cases m:a≠[]/\¬mA a
 .rw[aN m,cT (show ¬a=[]/\¬((Gz a).2=0/\hW (Gz a).1=true) from m)];rfl
 rw[aK m,cj (show ¬(¬a=[]/\¬((Gz a).2=0/\hW (Gz a).1=true)) from m)];by_cases c2:e≠[]/\(aS (fH s) e).2.1≠0
 .rw[aN c2,bg c2.1,fI s e h,ab,ax c2.2];rfl
 rw[aK c2];have u:(ao (nt<|bA e []) (ae (eW (s,e,())) λv=>ao (nt<|aR v.2.1 0) (ae (bV (v.2.1,())) λI=>aa (1,(([]),()),I.1,s,())) (aa (0,(v.1,()),zA,zS,())))
   (aa (0,(([]),()),zA,zS,())))=aa (0,(dR s e,()),zA,zS,()):=by
  unfold dR;by_cases q:e=[]
  .rw[cc q,aM,ag,aN q]
  .rw[bg q,fI s e h,ab,ay (nF λk=>c2 ⟨q,k⟩),aK q];rfl
 refine ob u ?_;rw[ NX s h,ab,xV _ [] given (F5 h) l.small (λx r=>by have:=l.2 x r;omega),ab];by_cases c3:ju (fH s) [] given=0
 rotate_left
 .rw[aN c3,ax c3];rfl
 rw[aK<|λq=>q c3,ay c3,ab];dsimp only;rw[CM _ _ ai,ab];by_cases c4:(cO (fH s) d).2.1=0
 rotate_left
 .rw[aN c4,ax c4];rfl
 rw[aK<|λq=>q c4,ay c4];generalize dR s e=p;generalize (cO _ d).1=id;have g:cm 16 (len (bB s.2.2.1 p).1)=decide (16<=(bB s.2.2.1 p).1.length):=by unfold len;apply fk.2;omega
 by_cases c5:p≠[]/\(bB s.2.2.1 p).2=0/\16<=(bB s.2.2.1 p).1.length
 .rw[aN c5,bg c5.1,BP _ _ ai,ab];dsimp only;rw[ay c5.2.1,g,cT c5.2.2];rfl
 rw[aK c5];by_cases c6:a≠[]/\(zr s p).2≠0
 .have q:=λq=>c6.2 (by unfold zr;rw[aN q]);have n:zr s p=dZ s.2.2.1 s.2.2.2.1 p:=by unfold zr;rw[aK q]
  have w:ao (ao (aR (bB s.2.2.1 p).2 0) (cm 16<|len (bB s.2.2.1 p).1) false)=λ(x y:Option (Nat×(List Nd×al)×lS×aL×al))=>y:=by
   by_cases i:(bB s.2.2.1 p).2=0
   .rw[ay i,g,cj λk=>c5 ⟨q,i,k⟩];rfl
   .rw[ax i];rfl
  rw[aN c6,bg q,BP _ _ ai,ab,show ao (ao _ _ false)=_ from w,bg c6.1,y9 s p ai,ab];rw[n] at c6⊢;rw[ax c6.2];rfl
 rw[aK c6];have A:∀(f:Nat×_×lS×aL×al->Option (aL×lS×al)),
   ae (ao (nt<|bA p []) (ae (ku (s.2.2.1,_)) λE=>ao (ao (aR E.2.1 0) (cm 16<|len E.1) false) (ae (bV (5,())) λc=>aa (1,(([]),()),c.1,s,()))
    (ae (ao (nt<|bA a []) (ae (jZ _) λc=>ao (nt<|aR c.2.1 0) (ae (bV (c.2.1,())) λj=>aa (1,(([]),()),j.1,s,())) (aa (0,(c.1,()),zA,_)))<|some (0,(([]),()),zA,zS,())) λc =>
     ao (cF c.1 0) (aa (0,(c.2.1.1,()),c.2.2.1,c.2.2.2.1,())) (aa (1,(c.2.1.1,()),c.2.2.1,c.2.2.2.1,()))))<|some (0,_)) f =
   f (0,((if a=[] then [] else(zr s p).1),()),zA,_):=λf=>by
  by_cases q:p=[]
  .rw[cc q,aM,ag,ab,show(if a=[] then [] else(zr s p).1)=[] by unfold zr;split<;>rfl]
  .have n:zr s p=dZ s.2.2.1 s.2.2.2.1 p:=by unfold zr;rw[aK q]
   have w:ao (ao (aR (bB s.2.2.1 p).2 0) (cm 16<|len (bB s.2.2.1 p).1) false)=λ(x y:Option (Nat×(List Nd×al)×lS×aL×al))=>y:=by
    by_cases i:(bB s.2.2.1 p).2=0
    .rw[ay i,g,cj λk=>c5 ⟨q,i,k⟩];rfl
    .rw[ax i];rfl
   rw[bg q,BP _ _ ai,ab,show ao _=_ from w];by_cases b:a=[]
   .rw[cc b,aN b];rfl
   .rw[bg b,y9 s p ai,aK b,n,ab,ay (nF λk=>c6 ⟨b,by rw[n];exact k⟩)];rfl
 refine(A _).trans ?_;rw[cu,aj];have fin:∀D,D.length<=100000->ae (oK _) (λj=>ae (tJ (s,(id,p,given,j.1,len D,0,true,()),_)) λB=>aa (B.1,((0:Int),id,(0:Int),([]:Tx),()),())) =
   aa (J2 s (id,p,given,_) D,_):=λD J=>by
  rw[F1 D ai,ab];exact ob (Xr s _ D ai) rfl
 by_cases b:a=[]
 .rw[aK<|show ¬(a≠[]/\(hY (zr s p).1 a).2≠0) from λk=>k.1 b,cc b,aj,RJ,ab,ab,cu,aj,show NZ id p given a=(id,p,given,_) by unfold NZ AQ;rw[aN b],show AQ a=uW 1024 by unfold AQ;rw[aN b]];exact fin _ (by rw[uX];decide)
 .have C:(zr s p).2=0:=nF λk=>c6 ⟨b,k⟩;rw[bg b,ag,aK b,RA (BX C) a,ab];by_cases c7:(hY (zr s p).1 a).2=0
  .rw[ay c7,aM,ag,ab,aK λk=>k.2 c7, show NZ id p given a=(id,p,given,_) by unfold NZ AQ;rw[aK b],show AQ a=a by unfold AQ;rw[aK b]];exact fin a o
  .rw[ax c7,aN ⟨b,c7⟩];rfl
def DF s (h:zl s):nx (s,())=aa (wF s,()):=by unfold nx;rw[yN 2 _ h.agR];rfl
def DG s (h:zl s):ny (s,())=aa (DA s,()):=by unfold ny;rw[yN 1 _ h.agS];rfl
def zf s (ref:Tx) (h:zl s):tT (s,ref,())=aa (aS (wF s) ref):=by refine ob (DF s h) ?_;exact ob (pc (wF s) ref (F6 h) (by have:=Xk h;omega)) rfl
def R0 s (ref:Tx) (h:zl s):CA (s,ref,())=aa (aS (DA s) ref):=by refine ob (DG s h) ?_;exact ob (pc (DA s) ref (Gb h) (by have:=O6 h;omega)) rfl
def LN{s}(h:zl s)(i:kA (·.1) s.2.1)(a:Tx){given}(c:ow given)(e:Tx) d:tS (s,a,given,e,d,())=aa (crI s a given e d):=by
 have j:=h.il;have l:=Xk h;unfold tS crI;rw[oX given c.small (λx b=>by have:=c.2 x b;omega),ab];dsimp only;rw[show ba 64 _=decide (64<e.length) by unfold len;apply fk.2;omega];by_cases c1:dA given≠0\/64<e.length
 .rw[aN c1];by_cases q:dA given=0;{rw[ay q,cT (c1.resolve_left λk=>k q)];rfl};rw[ax q];rfl
 rw[aK c1,ay (nF λk=>c1 (.inl k)),cj λk=>c1 (.inr k)];by_cases c2:a≠[]/\(aS (fH s) a).2.1≠0
 .rw[aN c2,bg c2.1,fI s a h,ab,ax c2.2];rfl
 rw[aK c2];have f:(ao (nt<|bA a []) (ae (eW (s,a,())) λg=>ao (nt<|aR g.2.1 0) (ae (iD (g.2.1,())) λm=>aa (1,(([]),()),m.1,s,())) (aa (0,(g.1,()),zA,zS,())))
   (aa (0,(([]),()),zA,zS,())))=aa (0,((if a=[] then [] else(aS (fH s) a).1),()),zA,zS,()):=by
  by_cases q:a=[]
  .rw[cc q,aM,ag,aN q]
  .rw[bg q,fI s a h,ab,ay (nF λk=>c2 ⟨q,k⟩),aK q];rfl
 refine ob f ?_;generalize (if a=[] then [] else(aS _ a).1)=p;rw[ DF s h,ab,xV _ [] given (F6 h) c.small (λx b=>by have:=c.2 x b;omega),ab];by_cases c3:ju (wF s) [] given=0
 rotate_left
 .rw[aN c3,ax c3];rfl
 rw[aK<|λq=>q c3,ay c3,ab];dsimp only;rw[CM _ _ ai,ab];by_cases c4:(cO (wF s) d).2.1=0
 rotate_left
 .rw[aN c4,ax c4];rfl
 obtain⟨_,_,n⟩:=yU c4;rw[aK<|λq=>q c4,ay c4,LK s _ ai i,E7 _ λx b=>n _ (F7 b)];rfl
def LO{s}(h:zl s)(j:kA (·.1) s.2.1)(a:Tx):tU (s,a,())=aa (dlI s a):=by
 have k:=h.il;have l:=h.bl;unfold tU dlI;rw[zf s a h,ab];by_cases c1:(aS (wF s) a).2.1=0
 rotate_left
 .rw[aN c1,ax c1];rfl
 rw[aK<|λq=>q c1,ay c1];generalize r:aS _ a=g;rcases eR (f:=oc (s,_) g) s.1 (λi=>((i,()),zA,zS,())) (λ_ y=>decide _) _ _ ai (λi y b c m=>by unfold oc;rw[aq c,aj,au b,ab,cI,di,m];by_cases q:y.2.2.1=g.1;{rw[cT q];rfl};rw[cj q,aK aI,aK aI]) (by unfold oc;rw[aw,ag]) with ⟨i,y,b,n,_,d⟩|⟨o,d⟩
 .refine ob d ?_;rw[aN ⟨y,kG b,gb n⟩];rfl
 refine ob d ?_;rw[aK (by rintro⟨x,p,e⟩;obtain⟨i,c⟩:=bp.1 p;exact Yb (o i x c) e)]
 rw[ aaS s _ ai j];rfl
end Go.Ge
