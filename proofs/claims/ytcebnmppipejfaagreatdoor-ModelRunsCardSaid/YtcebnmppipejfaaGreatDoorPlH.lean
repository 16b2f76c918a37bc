import Derived.Test.YtcebnmppipejfaaGreatDoorPlG
set_option linter.unusedSectionVars false
set_option linter.unusedVariables false
set_option linter.unusedSimpArgs false
set_option linter.defProp false
noncomputable section
open Option renaming some->aa,none->af
open Go.IntKind (i64)
namespace Go.Ge
variable [Lp]
abbrev lS:=Int×Tx×Int×Tx×al
def gl(e:Int):lS:=(e,[],0,[],())
def BS(id:Tx):lS:=(0,id,0,[],())
def wF(s:aL):List Nm:=s.2.1.flatMap ofI
def fH(s:aL):List Nm:=s.2.2.1.flatMap ofL
def DA(s:aL):List Nm:=s.1.flatMap ofB
structure zl (s:aL):Prop where
 ll:s.2.2.1.length<=40
 il:s.2.1.length<=40
 bl:s.1.length<=40
 ln:∀x∈s.2.2.1,ow x.2.2.1
 sj:∀x∈s.2.1,ow x.2.1
 bn:∀x∈s.1,ow x.2.1
 it:∀x∈s.2.1,zq x.2.2.2.2.1
def uw.hd{s}(h:uw s):zl s:=⟨h.ll,h.il,h.bl,λx a=>(h.xl x a).2.2.1,λx a=>(h.xi x a).2.1,λx a=>(h.xb x a).2.1,λx a=>(h.xi x a).2.2.2⟩
def zl.aas{s}(h:zl s):FewB (0,s.2.2.1,[],[],()):=⟨h.ll,h.ln,aW,λx a=>(by cases a),aW,λx a=>(by cases a)⟩
def zl.agR{s}(h:zl s):FewB (0,[],s.2.1,[],()):=⟨aW,λx a=>(by cases a),h.il,h.sj,aW,λx a=>(by cases a)⟩
def zl.agS{s}(h:zl s):FewB (0,[],[],s.1,()):=⟨aW,λx a=>(by cases a),aW,λx a=>(by cases a),h.bl,h.bn⟩
def F5{s}(h:zl s):Small (fH s):=FY 3 _ h.aas
def F6{s}(h:zl s):Small (wF s):=FY 2 _ h.agR
def O2{s}(h:zl s):(fH s).length<=40:=gS (lX OO _) h.ll
def Xk{s}(h:zl s):(wF s).length<=40:=gS (lX JG _) h.il
def BT s (h:zl s):lG (s,())=aa (fH s,()):=by unfold lG;rw[xW 3 _ h.aas];rfl
def BU s (h:zl s):gA (s,())=aa (wF s,()):=by unfold gA;rw[xW 2 _ h.agR];rfl
def jO s (ref:Tx) (h:zl s):eN (s,ref,())=aa (aS (fH s) ref):=by unfold eN;rw[BT s h,ab,mX _ _ (F5 h) (by have:=O2 h;omega),ab]
def DB s (ref:Tx) (h:zl s):ni (s,ref,())=aa (aS (wF s) ref):=by unfold ni;rw[BU s h,ab,mX _ _ (F6 h) (by have:=Xk h;omega),ab]
def sF(l:List Tx)(h:l.length<=4294967296):bd (l,())=aa (l,()):=yM l h
def sG(l:List Item)(h:l.length<=4294967296):bQ (l,())=aa (l,()):=by unfold bQ;rw[ej h];rfl
def RC(s:aL)(x:eE)(l:s.2.1.length<=1000000)(v:x.2.1.length<=4294967296)(e:x.2.2.2.2.1.length<=4294967296)(g:∀y∈s.2.1,y.1≠x.1) :
  ij (s,x,())=aa ((s.1,(lR (·.1) s.2.1 x,s.2.2)),()):=by
 obtain⟨w,b,c⟩:=s;obtain⟨a,m,n,o,p,u⟩:=x;dsimp only at l v e g;unfold ij;dsimp only;rw[sF _ v,ab,sG _ e,ab];unfold dO;rw[ab,ej ai,aj];have r:Loop (eV ((w,b,c),(a,m,n,o,p,u),())) ((0,0,()),(),a,())=aa (0,(0,len b,()),(),a,()):=by
  rcases eR (f:=eV ((w,b,c),_)) b (λi=>((0,i,()),(),a,())) (λ_ y=>decide (y.1=a)) (λi _=>(1,(i,i,()),(),a,())) _ ai (λi y j e A=>by unfold eV dO;rw[aq e,aj,au j,ab,ab,cI,di,A];by_cases q:y.1=a<;>simp[q]) (by unfold eV;rw[aw];rfl) with ⟨i,y,j,B,_,_⟩|⟨_,h⟩
  {grind};exact h
 rw[r,ab,cu,aj,show cm 0 (-1)=false from rfl,ag,ab];have k:=mB (f:=rr (((),()),b,())) _ b a l (λi=>((0,i,()),(),(a,m,n,o,p,u),())) _ _ (λi y j=>by have e:=aA j;unfold rr dO;dsimp only;rw[aq e,aO ai ep,au j,ab,ab,ab,aJ ai];cases dK y.1 a<;>rfl) (by unfold rr;rw[aw,ag])
 rw[k,ab];have d:=uZ (·.1) b ((a,m,n,o,p,u):eE) l;unfold bI;by_cases z:cU (λy=>y.1) b a<b.length
 .rw[aN z];dsimp only;rw[show cF 1 0=false from rfl,ag,aF ai,ag,show vX b _ [((a,_):eE)]=_ from d,ab]
 .rw[aK z];have t:cU (λy=>y.1) b a=b.length:=by have:=jN (λy=>y.1) b a;omega
  rw[cu,aj,aT aI,aj,bG,<-t,show vX b _ [((a,_):eE)]=_ from d,ab]
def za s (id:Tx) (h:zl s):∃r,pP (s,id,())=aa r/\(∀x∈s.2.1,kA (·.1) s.2.1->x.1=id->r=(x,true,())):=by
 unfold pP;rcases eR (f:=rz (s,id,())) s.2.1 (λi=>((false,i,()),(([]),_),())) (λ_ y=>decide _) _ _ (by have:=h.il;omega) (λi y a d k=>by have e:=kG a;unfold rz;rw[aq d,au a,ab,cI,k];by_cases q:y.1=id;{rw[cT q,sF _ (h.sj y e).small,sG _ (by have:=(h.it y e).1;omega)];rfl};rw[cj q];rfl) (by unfold rz;rw[aw];rfl) with ⟨i,y,a,l,_,b⟩|⟨m,b⟩
 {rw[b];refine⟨(y,_),rfl,λx c g j=>?_⟩;rw[g.inj _ c (kG a)<|j.trans (gb l).symm]};rw[b];refine⟨_,rfl,λx c g j=>?_⟩;obtain⟨i,d⟩:=bp.1 c;grind
def crI(s:aL)(b:Tx)(a:List Tx)(c:Tx)(d:Int):aL×lS×al :=if dA a≠0\/64<c.length then(s,gl 1,()) else if b≠[]/\(aS (fH s) b).2.1≠0 then(s,gl (aS (fH s) b).2.1,()) else if ju (wF s) [] a≠0 then(s,gl<|ju (wF s) [] a,()) else if(cO (wF s) d).2.1≠0 then(s,gl (cO (wF s) d).2.1,()) else ((s.1,(lR (·.1) s.2.1 ((cO (wF s) d).1,a,(if b=[] then [] else(aS (fH s) b).1),c,[],()),s.2.2)),BS (cO (wF s) d).1,())
def F7{s x}(a:x∈s.2.1):((x.1,x.2.1,()):Nm)∈wF s:=by unfold wF;rw[Hs];exact⟨x,a,by exact D5.2 rfl⟩
def JZ s (top:Tx) (given:List Tx) (iF:Tx) d (h:zl s) (e:given.length<=4294967296) (i:s.2.1.length<=1000000) :
  rv (s,top,given,iF,d,())=aa (crI s top given iF d):=by
 unfold rv crI;have f:ba 64 (@len UInt8 iF)=decide (64<iF.length):=by unfold len;apply fk.2;omega
 rw[wi given e,ab,f];by_cases c1:dA given=0
 rotate_left
 .rw[aN<|.inl c1,ax c1];rfl
 by_cases c2:64<iF.length
 .rw[aN<|.inr c2,ay c1,cT c2];rfl
 rw[aK<|by rintro(q|q);exact q c1;exact c2 q,ay c1,cj c2,aM,aE,aj,ag,cI];have rest:∀t,(ae (ao (aR 0 0) (ae (gA (s,())) λc=>ae (ig (c.1,([]),given,())) λa=>aa ((a.1,()),()))<|some ((0,()),())) λc=>ae (ao (aR c.1.1 0)
   (ae (gA (s,())) λa=>ae (iV (a.1,d,())) λb=>aa ((b.2.1,()),(b.1,((given,t,iF,([]),()):List Tx×Tx×Tx×List Item×al)),()))
   (aa ((c.1.1,()),(([]),given,t,iF,([]),()),()))) λa=>ao (nt<|aR a.1.1 0)
   (ae (iU (a.1.1,())) λb=>aa (s,b.1,()))
   (ae (ij (s,a.2.1,())) λb=>aa (b.1,(0,a.2.1.1,0,([]),()),()))) =
   aa (if ju (wF s) [] given≠0 then(s,gl<|ju (wF s) [] given,()) else
    if(cO (wF s) d).2.1≠0 then(s,gl (cO (wF s) d).2.1,()) else
    ((s.1,(lR (·.1) s.2.1 ((cO (wF s) d).1,given,t,iF,[],()),s.2.2)),BS (cO (wF s) d).1,())):=by
  intro t;rw[show aR 0 0=true from rfl,aj,BU s h,ab,(ua _ [] given (F6 h) e),ab,ab];by_cases c4:ju (wF s) [] given=0
  rotate_left
  .rw[aN c4,ax c4,ag,ab,ax c4];rfl
  rw[aK<|λq=>q c4,ay c4,aj,ab,(Lo _ d),ab,ab];by_cases c5:(cO (wF s) d).2.1=0
  rotate_left
  .rw[aN c5,ax c5];rfl
  rw[aK<|λq=>q c5,ay c5];obtain⟨_,_,g⟩:=yU c5;rw[RC s _ i e aW λy j=>g _ (F7 j)];rfl
 by_cases c3:top=[]
 .rw[cT c3,aM,ag,ab];simp_all
 .rw[cj c3,aE,aj,jO s top h,ab,ab];by_cases c6:(aS (fH s) top).2.1=0
  .simp_all
  .rw[aN ⟨c3,c6⟩,ax c6,ag,ab,ax c6,ag,ab,ax c6];rfl
def Xl(s p:Tx):yG (s,p,())=aa (decide<|s.take p.length=p,()):=H2 s p
def aat(f:List Tx):Tx:=(f.getLast?).getD []
def adj f a:aat (f++[a])=a:=by simp[aat]
def TM(c:Tx) f (d:¬c=[]) (e:¬6<=c.length) :
  ao (ba 1 (f.length:Int)) (aa (([]:Tx),9,())) (ao (aR (f.length:Int) 0) (aa (([]:Tx),3,()))<|some (aat f,0,()))=aa (qc c f):=by
 unfold qc;rw[aK<|by rintro(h|h);exact d h;exact e h]
 match f with|[]=>rfl|[a]=>rfl|a::b::r =>have:ba 1 ((a::b::r).length:Int)=true:=aT dW;rw[this];rfl
def pc l (ref:Tx) (s:Small l) (B:l.length<=1000000):j0 (l,ref,())=aa (aS l ref):=by
 unfold j0;have inner:∀(i:Nat) x,l[i]?=aa x ->
   (ref∈x.2.1/\∃k,Loop (jK (l,ref,()) ((([]:Tx),(0:Int),(i:Int),()),())) ((([]:Tx),(0:Int),(0:Int),()),())=aa (1,(x.1,0,k,()),())) \/ (¬ref∈x.2.1/\Loop (jK (l,ref,()) ((([]:Tx),(0:Int),(i:Int),()),())) ((([]),0,0,()),())=aa (0,([],0,(x.2.1.length:Int),()),())):=by
  intro i x b;have C:=s.2 x (kG b);rcases eR (f:=jK (l,ref,()) ((([]),0,i,()),())) x.2.1 (λk=>((([]),0,k,()),())) (λ_ n=>decide (n=ref)) (λk n=>(1,(x.1,0,k,()),())) _ ai (λk n c m o=>by unfold jK;rw[au b,ab,aq m,aj,ab,au c,ab,ab,di,o];by_cases h:n=ref<;>simp[bA,h]) (by unfold jK;rw[au b,ab,aw,ag]) with ⟨k,n,c,p,u,h⟩|⟨c,h⟩
  .exact .inl ⟨by rw[<-gb p];exact kG c,_,h⟩
  .refine .inr ⟨λD=>?_,h⟩;obtain⟨k,m⟩:=bp.1 D;have:=c k ref m;simp at this
 rcases eR (f:=rF (l,ref,())) l (λi=>((([]:Tx),(0:Int),i,()),())) (λ_ x=>decide (x.1=ref)) (λi x=>(1,(ref,0,i,()),())) _ s.1 (λi x b d o=>by unfold rF;rw[aq d,aj,au b,ab,di,o];by_cases h:x.1=ref<;>simp[bA,h]) (by unfold rF;rw[aw,ag]) with ⟨i,x,b,p,u,h⟩|⟨c,h⟩
 .rw[h,ab,show cF 1 0=false from rfl,ag];unfold aS;rw[aN ⟨x,kG b,gb p⟩]
 .rw[h,ab,show cF 0 0=true from rfl,aj];have v:¬∃x∈l,x.1=ref:=by
   rintro⟨x,b,E⟩;obtain⟨i,d⟩:=bp.1 b;have:=c i x d;simp[E] at this
  unfold aS;rw[aK v];rcases eR (f:=rG (l,_)) l (λi=>((([]),0,i,()),())) (λ_ x=>decide _) (λi x=>(1,(x.1,0,_),())) _ s.1 (λi x b d o=>by
   unfold rG;rw[aq d,o];rcases inner i x b with ⟨h,k,m⟩|⟨h,m⟩
   .rw[m,cT h];rfl
   .rw[m,cj h];rfl) (by unfold rG;rw[aw,ag]) with ⟨i,x,b,p,u,h⟩|⟨c,h⟩
  .rw[h,ab,show cF 1 0=false from rfl,ag];have:l.find? (λx=>decide (ref∈x.2.1))=aa x:=by
    rw[ahw];refine⟨p,i,aA b,?_,λj w=>?_⟩
    .have:=gQ (aA b);rw[b] at this;exact(aU this).symm
    .have F:=aA b;have:=u j l[j] w (gQ ai);simpa using this
   rw[this]
  .rw[h,ab];have:l.find? (λx=>decide (ref∈x.2.1))=none:=by
    rw[Pf];intro x b;obtain⟨i,d⟩:=bp.1 b;have:=c i x d;simpa using this
   rw[this];by_cases t:ref=[]\/6<=ref.length
   .have y:Loop (gZ (l,ref,())) (((0:Int),([]:Tx),(0:Int),()),())=aa ((0,([]),0,()),()):=by
     rw[aZ];unfold gZ;have e:ao (ao (ba 0<|len l) (cm 1<|len ref) false) (cm (len ref) 5) false=false:=by
      rcases t with h|h
      .subst h;cases ba 0 _<;>rfl
      .rw[cN (a:=len ref) ep];cases ao (ba 0 _) _ false<;>rfl
     rw[e];rfl
    rw[y];unfold qc;rw[aN t];rfl
   .have z:=λh=>t (.inl h);have A:1<=ref.length:=by
     cases ref with
     | nil=>exact absurd rfl z
     | cons a r=>simp
    have y:Loop (gZ (l,ref,())) ((0,([]),0,()),())=aa ((((Q1 l ref).length:Int),aat<|Q1 l ref,(l.length:Int),()),()):=by
     have key:=hU (f:=gZ (l,ref,())) l (λq i=>((q.length,aat q,i,()),())) (JO ref) _ s.1 (λi x b d o=>by
      have G:((l.take i).flatMap<|JO ref).length<=l.length:=by
       have:=fe (g:=JO ref) (λx=>by unfold JO;split<;>simp) l i;omega
      unfold gZ;dsimp only;rw[aq d,bL ep,bL ep,au b,ab,Xl,o,aJ ai];unfold JO;by_cases h:x.1.take ref.length=ref
      .rw[cT h,aN h,adj,gR];rfl
      .rw[cj h,aK h,zo];rfl) (by
      unfold gZ;rw[aw];rfl)
     exact key
    rw[y];exact TM ref _ z (λh=>t (.inr h))
def CZ(l:List Tx)(h:l.length<=4294967296):eG (l,l,())=aa (true,()):=by rw[NS l l h,cT rfl]
def RD l (h:zq l):gO (l,l,())=aa (true,()):=Q2 l (by have:=h.1;omega)
def zb(a:Tx):bA a a=true:=cT rfl
def BV{b:Type}{f:(Bool×Int×al)×al->Option (((Bool×Int×al)×al)⊕(Nat×(Bool×Int×al)×al))}(l:List b)(e:l.length<=1000000)  (c:∀i x,l[i]?=aa x->x∈l->i<l.length->f ((false,i,()),())=aa (.inl ((false,aC .i64 i 1,()),()))) (d:f ((false,(l.length:Int),()),())=aa (.inr (0,(false,(l.length:Int),()),()))) : Loop f ((false,0,()),())=aa (0,(false,(l.length:Int),()),()) :=cp l.length (λj=>((false,(j:Int),()),())) (λj a=>by rw[c j l[j] (gQ a) (ahO a) a,aJ ai]) d
def adk(l:List r5)(b:l.length<=1000000)(h:∀x∈l,ow x.2.1/\zq x.2.2.2.2.2.1):n7 (l,l,())=aa (true,()):=by
 unfold n7;rw[mG,BV l b (λi x c a d=>by unfold oU;rw[aq d,au c];simp only[zb,aj,ag,aM,aE,ab,CZ _ (h x a).1.small,RD _ (h x a).2]) (by unfold oU;rw[aw];rfl)]
 rfl
def aau(l:List eE)(b:l.length<=1000000)(h:∀x∈l,ow x.2.1/\zq x.2.2.2.2.1):mo (l,l,())=aa (true,()):=by
 unfold mo;rw[mG,BV l b (λi x c a d=>by unfold nK;rw[aq d,au c];simp only[zb,aj,ag,aM,aE,ab,CZ _ (h x a).1.small,RD _ (h x a).2]) (by unfold nK;rw[aw];rfl)]
 rfl
def aav(l:List bD)(a:l.length<=1000000)(h:∀x∈l,x.2.2.1.length<=4294967296):mq (l,l,())=aa (true,()):=by
 unfold mq;rw[mG,BV l a (λi x b c d=>by
  unfold nL;rw[aq d,au b];have eb:eqB x.2.2.2.2.2.2.1 x.2.2.2.2.2.2.1=true:=by unfold eqB;simp
  simp only[zb,mG,eb,aj,ag,aM,aE,ab,CZ _ (h x c)]) (by unfold nL;rw[aw];rfl)]
 rfl
def aaw(l:List uV)(a:l.length<=1000000):mr (l,l,())=aa (true,()):=by
 unfold mr;rw[mG,BV l a (λi x b d c=>by unfold nM;rw[aq c,au b,ab,ab];simp only[zb,mG];rfl) (by unfold nM;rw[aw];rfl)]
 rfl
def TN{ref f}(h:(qc ref f).2.1=0):(qc ref f).1∈f:=by
 unfold qc at h⊢;split at h
 .cases h
 rename_i b;rw[aK b]
 match f,h with|[a],_=>simp
def nz{l ref}(h:(aS l ref).2.1=0):∃x∈l,x.1=(aS l ref).1:=by
 unfold aS at h⊢;by_cases b:∃x∈l,x.1=ref
 {rw[aN b];exact b};rw[aK b] at h⊢;cases c:l.find? _ with|some x=>exact⟨x,X0 c,rfl⟩|none =>rw[c] at h;have:=TN h;unfold Q1 at this⊢;rw[Hs] at this;obtain⟨x,d,a⟩:=this;refine⟨x,d,?_⟩;unfold JO at a;split at a;{rw[D5] at a;exact a.symm};cases a
def Xm{l given}(h:ju l [] given=0)(a:∀x∈l,x.1≠[]):gP given=true/\∀x∈l,∀s∈x.2.1,s∉given:=by
 unfold ju at h;by_cases c:dA given=0
 rotate_left
 .rw[aN c] at h;exact absurd h c
 rw[aK λq=>q c] at h;refine⟨?_,λx b s d e=>?_⟩
 .unfold dA at c;by_cases q:gP given=true;{exact q};rw[aK q] at c;cases c
 have f:Li l given (BA l [])=true:=by rw[BB];obtain⟨i,g⟩:=bp.1 b;refine⟨i,x,g,?_⟩;unfold NR;have m:=HT λj y k=>cj (a y<|kG k);rw[ gC,Pe,SM];exact⟨ai,s,d,cT e⟩
 rw[aN f] at h;cases h
open Classical in
def dlI(s:aL)(a:Tx):aL×lS×al :=if(aS (wF s) a).2.1≠0 then(s,gl (aS (wF s) a).2.1,()) else if ∃x∈s.1,x.2.2.1=(aS (wF s) a).1 then(s,gl 7,()) else ((s.1,(sR (·.1) s.2.1 (aS (wF s) a).1,s.2.2)),BS (aS (wF s) a).1,())
def O3{α}(a:α->Tx) l p (b:kA a l) (i:Nat) x (hx:l[i]?=aa x) (c:a x=p) (e:l.length<=1000000):K0 l i (aC .i64 i 1)=aa (sR a l p):=by have d:=aA hx;unfold K0;rw[aJ ai,aV ai ai ep,B9,An,An,aeV a b hx,c]
def J0 s (ref:Tx) (h:zl s) (k:kA (·.1) s.2.1):ry (s,ref,())=aa (dlI s ref):=by
 have l:=h.il;have m:=h.bl;unfold ry dlI;dsimp only;rw[DB s ref h,ab];by_cases c1:(aS (wF s) ref).2.1=0
 rotate_left
 .rw[aN c1,ax c1];rfl
 rw[aK<|λq=>q c1,ay c1];generalize (aS _ ref).1=id;rcases eR (f:=mj (s,_)) s.1 (λi=>((0,i,()),id,())) (λ_ y=>decide (y.2.2.1=id)) (λi _=>(1,(i,i,()),id,())) _ ai (λi y a b d=>by unfold mj;rw[aq b,aj,au a,ab,cI,di,d];by_cases q:y.2.2.1=id<;>simp[q]) (by unfold mj;rw[aw];rfl) with ⟨i,y,a,e,_,c⟩|⟨g,c⟩
 .rw[c,aN ⟨y,kG a,gb e⟩];rfl
 rw[c,ab,aK (by rintro⟨y,a,j⟩;obtain⟨i,b⟩:=bp.1 a;have:=g i y b;simp[j] at this)]
 rw[ ej ai];rcases eR (f:=mm (s,_)) s.2.1 (λi=>((0,i,()),(),id,())) (λ_ y=>decide (y.1=id)) (λi _=>(1,(i,i,()),(),id,())) _ ai (λi y a b d=>by unfold mm dO;rw[aq b,aj,au a,ab,ab,cI,di,d];by_cases q:y.1=id<;>simp[q]) (by unfold mm;rw[aw];rfl) with ⟨i,y,a,e,_,c⟩|⟨g,c⟩
 {rw[c,ab];unfold bq;rw[O3 _ s.2.1 id k i y a (gb e) ai];rfl};(rw[c, E7 _ λx n j=>by obtain⟨i,b⟩:=bp.1 n;have:=g i x b;simp[j] at this]);rfl
def E8{c d:Type}{l m:List c}(h:l.Sublist m)(g:c->List d):(l.flatMap g).Sublist (m.flatMap g):=by induction h with|slnil=>apply adP|cons a _ b=>exact b.trans (List.sublist_append_right _ _)|cons_cons a _ b=>exact(adP _).append b
def lN.E9{s}(h:lN s):kA (·.1) s.2.1:=by have:=h.i.ids;unfold TA at this;simpa [kA] using this
def lN.Xn{s}(h:lN s):kA (·.1) s.2.2.1:=by have:=h.l.ids;unfold TA at this;simpa [kA] using this
def lN.DZ{s}(h:lN s):kA (·.1) s.1:=by have:=h.b.ids;unfold TA at this;simpa [kA] using this
def lN.al5{s}(h:lN s):(s.2.1.flatMap (·.2.1)).Nodup:=by have:=h.i.SJ;unfold TB at this;simpa using this
def lN.agR{s}(h:lN s):s.2.1.length<=32:=h.i.few
def F8{s y}(h:y∈wF s):∃x∈s.2.1,y=(x.1,x.2.1,()):=by unfold wF at h;rw[Hs] at h;obtain⟨x,b,a⟩:=h;unfold ofI at a;rw[D5] at a;exact⟨x,b,a⟩
def adl s:(wF s).length=s.2.1.length:=by unfold wF;induction s.2.1 with|nil=>rfl|cons a r b=>rw[M9,gR,b];simp[ofI];omega
def C0{s y}(h:y∈fH s):∃x∈s.2.2.1,y=(x.1,x.2.2.1,()):=by
 unfold fH at h;rw[Hs] at h;obtain⟨x,b,a⟩:=h;unfold ofL at a;split at a
 {rw[D5] at a;exact⟨x,b,a⟩};cases a
def sb:¬BG []:=λh=>by have:=h.2;cases this
def jh.NW{l}(b:l.length<=32)(c:∀x∈l,acV x)(d:kA (·.1) l)(e:(l.flatMap (·.2.1)).Nodup):jh 2 (0,[],l,[],()) :=⟨b,by show 0+l.length+0=l.length;omega,λx a=>(by cases a),c,λx a=>(by cases a),by unfold TA;simpa [kA] using d,by unfold TB;simpa using e⟩
def lN.NW{s}(h:lN s){l}(c:jh 2 (0,[],l,[],()))(d:∀x∈l,aar s x)(e:∀x∈s.1,x.2.2.1=[]\/∃y∈l,y.1=x.2.2.1):lN (s.1,l,s.2.2) :=⟨h.b,c,h.l,h.lays,h.NV,d,λx a=>⟨e x a,(h.refs x a).2⟩,h.U9,h.GZ⟩
def uw.NW{s}(h:uw s){l}(a:l.length<=40)(b:∀x∈l,BdI x):uw (s.1,l,s.2.2):=⟨h.ll,a,h.bl,h.xl,b,h.xb,h.dl,h.ml⟩
def agT{s}(e:uw s)(d:lN s) ref:lN (dlI s ref).1/\uw (dlI s ref).1/\((dlI s ref).2.1.1≠0->(dlI s ref).1=s):=by
 unfold dlI;by_cases c1:(aS (wF s) ref).2.1=0
 rotate_left
 .rw[aN c1];exact⟨d,e,λ_=>rfl⟩
 rw[aK λq=>q c1];by_cases c2:∃x∈s.1,x.2.2.1=(aS (wF s) ref).1
 .rw[aN c2];exact⟨d,e,λ_=>rfl⟩
 rw[aK c2];generalize (aS _ ref).1=id at c2;have a:=mC (λx=>x.1) s.2.1 id;have b:∀x∈sR _ s.2.1 id,x∈s.2.1:=λx c=>a.subset c;refine⟨d.NW (jh.NW ?_ (λx c=>d.i.il x (b x c)) (Xj _ d.E9 id)<|ahJ (E8 a _) d.al5) (λx c=>d.tops x (b x c))<|λx c=>?_,e.NW ?_ (λx c=>e.xi x (b x c)),λq=>absurd rfl q⟩
 .have:=a.length_le;have:=d.agR;omega
 {rcases(d.refs x c).1 with q|⟨y,g,f⟩;{exact .inl q};exact .inr ⟨y,(F4 _).2 ⟨g,λq=>c2 ⟨x,c,f.symm.trans q⟩⟩,f⟩};have:=a.length_le;have:=e.il;omega
def agU{s}(v:uw s)(k:lN s) top given iF d (E:ow given) :
  let r:=crI s top given iF d
  lN r.1/\uw r.1/\(r.2.1.1≠0->r.1=s)/\(r.2.1.1=0->∃x,r.1=(s.1,(lR (·.1) s.2.1 x,s.2.2))/\x.1=r.2.1.2.1/\x.2.1=given/\x.2.2.2.1=iF/\x.2.2.2.2.1=[]/\BG x.1/\(∀y∈s.2.1,y.1≠x.1)/\∀y∈s.2.1,∀n∈y.2.1,n∉given):=by
 intro r;have f:r=crI s top given iF d:=rfl;unfold crI at f;by_cases c1:dA given≠0\/64<iF.length
 .rw[aN c1] at f;rw[f];exact⟨k,v,λ_=>rfl,λq=>by cases q⟩
 rw[aK c1] at f;by_cases c2:top≠[]/\(aS (fH s) top).2.1≠0
 .rw[aN c2] at f;rw[f];exact⟨k,v,λ_=>rfl,λq=>absurd q c2.2⟩
 rw[aK c2] at f;by_cases c3:ju (wF s) [] given≠0
 .rw[aN c3] at f;rw[f];exact⟨k,v,λ_=>rfl,λq=>absurd q c3⟩
 rw[aK c3] at f;by_cases c4:(cO (wF s) d).2.1≠0
 .rw[aN c4] at f;rw[f];exact⟨k,v,λ_=>rfl,λq=>absurd q c4⟩
 rw[aK c4] at f;obtain⟨F,A,G⟩:=yU (nF c4);rw[adl] at F;obtain⟨B,H⟩:=Xm (nF c3) (λy g=>by
  obtain⟨x,j,rfl⟩:=F8 g;intro o;have:=(k.i.il x j).id;rw[show x.1=[] from o] at this;exact sb this)
 have w:∀y∈s.2.1,∀n∈y.2.1,n∉given:=λy g n C=>H _ (F7 g) n C;have p:∀y∈s.2.1,y.1≠(cO _ d).1:=λy g=>G _ (F7 g);generalize (cO _ d).1=id at f A p;have m:(if top=[] then [] else(aS (fH s) top).1)=[]\/∃y∈s.2.2.1,y.1=(if top=[] then [] else(aS (fH s) top).1):=by
  by_cases c:top=[]
  .rw[aN c];exact .inl rfl
  .rw[aK c];right;obtain⟨y,g,o⟩:=nz (nF λq=>c2 ⟨c,q⟩);obtain⟨x,j,rfl⟩:=C0 g;exact⟨x,j,o⟩
 generalize (if top=[] then [] else(aS _ top).1)=t at f m;have z:t=[]\/BG t:=by
  rcases m with q|⟨y,g,o⟩
  .exact .inl q
  .exact .inr (o▸(k.l.ll y g).id)
 have u:iF.length<=64:=by
  omega
 have hlen:∀{a},BG a->a.length<=1048576:=λ{a} h=>by have:=h.2;omega
 have j:∀x∈lR (λx=>x.1) s.2.1 ((id,given,t,iF,[],()):eE),x=_\/x∈s.2.1:=λx j=>(wu _).1 j;have K:=E6 (λx=>x.1) s.2.1 ((id,given,t,iF,[],()):eE);rw[f];refine⟨k.NW (jh.NW ai (λx e=>?_) (O1 _ k.E9 p) ?_) (λx e=>?_)<|λx e=>?_,v.NW ai (λx e=>?_),λq=>absurd rfl q,λ_=>⟨(id,_),rfl,rfl,rfl,rfl,rfl,A,p,w⟩⟩
 .rcases j x e with rfl|e
  .exact⟨A,B,z,u,⟨aW,List.Pairwise.nil,λx j=>(by cases j)⟩⟩
  .exact k.i.il x e
 .have I:=(BR (λx=>x.1) s.2.1 ((id,given,t,iF,[],()):eE)).flatMap_right (λx=>x.2.1);rw[I.nodup_iff,M9,Yd];refine⟨?_,k.al5,λa J b D=>?_⟩
  .unfold gP at B;simp at B;exact B.1.2
  .rw[Hs] at D;obtain⟨y,g,C⟩:=D;rintro rfl;exact w y g a C J
 .rcases j x e with rfl|e
  .exact m
  .exact k.tops x e
 .rcases(k.refs x e).1 with q|⟨y,g,o⟩
  .exact .inl q
  .exact .inr ⟨y,(wu _).2 (.inr g),o⟩
 .rcases j x e with rfl|e
  .refine⟨hlen A,E,?_,⟨aW,λx j=>(by cases j)⟩⟩;rcases z with q|q
   .show t.length<=_;rw[q];simp
   .exact hlen q
  .exact v.xi x e
def al6 l p:(OS l p).Sublist l:=by
 unfold OS;split
 .rename_i i _;have:(l.take i++l.drop (i+1)).Sublist _:=List.Sublist.append (adP _) (by rw[<-Ap];apply List.drop_sublist)
  rwa [Ba] at this
 apply adP
def al7{l}(h:BJ l){p x}:x∈OS l p↔x∈l/\x.1≠p:=by unfold OS;cases b:sO l p with|none =>unfold sO at b;rw[adG] at b;exact⟨λhx=>⟨hx,λe=>by have:=b x hx;simp[e] at this⟩,λhx=>hx.1⟩|some i =>(unfold sO at b;rw[XZ] at b;obtain⟨g,c,_⟩:=b;have c:l[i].1=p:=by simpa using c);(have a:l=l.take i++l[i]::l.drop (i+1):=by rw[<-zm g,Ba]);have d:=h;unfold BJ at d;rw[a,Pk,ym] at d;rw[Gp];constructor;{rintro(hx|hx);{refine⟨Bb hx,λe=>?_⟩;have:=d.2.2 x hx l[i] (pg ..);rw[e,c,fE] at this;cases this};refine⟨X1 hx,λe=>?_⟩;have:=d.2.1.1 x hx;rw[e,c,fE] at this;cases this};rintro⟨hx,f⟩;rw[a,Gp,eK] at hx;rcases hx with hx|rfl|hx;{exact .inl hx};{exact absurd c f};exact .inr hx
def aax{l it x}:x∈Gy l it↔x=it\/x∈l:=by
 unfold Gy;have e:=Al (p:=λy=>dK y.1 it.1) (l:=l);rw[Gp,Gp,D5];constructor
 {rintro((hx|hx)|hx);{exact .inr (by rw[<-e];exact Gm _ hx)};{exact .inl hx};exact .inr (by rw[<-e];exact M8 _ hx)};rintro(hx|hx);{exact .inl (.inr hx)};rw[<-e,Gp] at hx;rcases hx with hx|hx;{exact .inl (.inl hx)};exact .inr hx
def TO{c:Type}{p}:∀{l:List c} {x},x∈l.takeWhile p->p x=true:=by intro l;induction l with|nil=>intro x hx;cases hx|cons a r d =>intro x hx;rw[Pm] at hx;cases b:p a with|false=>rw[b] at hx;cases hx|true =>rw[b] at hx;rcases eK.1 hx with rfl|hx;{exact b};exact d hx
def Xo{l}(h:BJ l){p}(c:∀x∈l,x.1≠p):∀x∈l.dropWhile (λy=>dK y.1 p),dK p x.1=true:=by induction l with|nil=>intro x hx;cases hx|cons a r f =>unfold BJ at h;rw[ym] at h;intro x hx;rw[X2] at hx;cases e:dK a.1 p with|true =>rw[e] at hx;exact f h.2 (λy g=>c y (by simp[g])) x hx|false =>(rw[e] at hx;have d:dK p a.1=true:=by rcases CE a.1 p with b|b|b;{rw[e] at b;cases b};{exact absurd b (c a aW)};exact b);rcases eK.1 hx with rfl|hx;{exact d};exact Bz d (h.1 x hx)
def agV{l}(h:BJ l){it}(b:∀x∈l,x.1≠it.1):BJ (Gy l it):=by
 have a:=h;unfold BJ at a;rw[<-(Al (p:=λy=>dK y.1 it.1) (l:=l)),Pk] at a;unfold BJ Gy;rw[rO,Pk];refine⟨a.1,?_,λx c y hy=>?_⟩
 {rw[Us,ym];exact⟨λy hy=>(Xo h b) y hy,a.2.1⟩};rw[Us,eK] at hy;rcases hy with rfl|hy;{exact TO (p:=λz:It=>dK z.1 y.1) c};exact a.2.2 x c y hy
def aay l it:(Gy l it).length=l.length+1:=by unfold Gy;have:=congrArg List.length (Al (p:=λy=>dK y.1 it.1) (l:=l));rw[gR] at this;rw[gR,gR,VL];omega
structure BkS (s:aL):Prop where
 il:∀x∈s.2.1,x.1.length<=1048576/\x.2.2.1.length<=1048576
 bl:∀x∈s.1,x.1.length<=1048576/\x.2.2.1.length<=1048576/\x.2.2.2.1.length<=1048576
 dg:∀x∈s.2.2.1,x.2.2.2.1.length<=1048576
end Go.Ge
namespace Go.Ge
abbrev aj0:Ty:=.pair .str (.pair .str<|.pair .str .unit)
abbrev apH:Ty:=.pair .str (.pair (.slice .str)<|.pair .str<|.pair .str<|.pair .str<|.pair (.slice aj0) .unit)
abbrev al8:Ty:=.pair .str (.pair (.slice .str)<|.pair .str<|.pair .str<|.pair (.slice aj0) .unit)
abbrev al9:Ty:=.pair .str (.pair .str<|.pair (.slice .str)<|.pair .str<|.pair (.int .i64)<|.pair (.int .i64)<|.pair .bool .unit)
abbrev ama:Ty:=.pair .str (.pair (.int .i64) .unit)
abbrev aql:Ty:=.pair (.slice apH) (.pair (.slice al8)<|.pair (.slice al9)<|.pair (.slice .str)<|.pair (.slice ama) .unit)
variable [Lp]
def kA.idx{α}{a:α->Tx}{l}(h:kA a l){i j:Nat}{x y}(f:l[i]?=aa x)(g:l[j]?=aa y)(e:a x=a y):i=j:=by
 unfold kA at h;rw[Uu] at h;obtain⟨b,rfl⟩:=ga.1 f;obtain⟨c,rfl⟩:=ga.1 g;have d:=D3.1 h;rcases Ma i j with q|q|q
 .have:=d i j b c q;rw[e,fE] at this;cases this
 {exact q};have:=d j i c b q;rw[e,fE] at this;cases this
def C1{ls}(c:kA (·.1) ls){i x}(a:ls[i]?=aa x):DY ls x.1=aa i:=by obtain⟨j,b⟩:=OZ.2 ⟨x,kG a,rfl⟩;obtain⟨y,d,e⟩:=y8 b;rw[b,c.idx d a e]
def an9{ls id}(h:∀x∈ls,x.1≠id):DY ls id=none:=JY λi x a=>cj (h x<|kG a)
def Fa{ls id}(h:∀x∈ls,x.1≠id) n acc:AO ls n id acc=([],3):=by unfold AO;rw[an9 h]
def RE{ls}(a:kA (·.1) ls){x}(b:x∈ls) acc:AO ls 0 x.1 acc=([],5):=by obtain⟨i,c⟩:=bp.1 b;unfold AO;rw[C1 a c]
def wv{ls}(b:kA (·.1) ls){x}(c:x∈ls) n acc:AO ls (n+1) x.1 acc=if x.2.1=[] then(acc++[x],0) else AO ls n x.2.1 (acc++[x]):=by
 obtain⟨i,a⟩:=bp.1 c;conv=>lhs;unfold AO
 rw[C1 b a];dsimp only;rw[a]
def amb{f d:List bD}(j:kA (·.1) f)(g:kA (·.1) d){q}(h:∀x,x.1≠q->(x∈d↔x∈f))(k:∀x∈f,x.2.1=[]\/x.2.1≠q) :
  ∀n id c,id≠q->AO d n id c=AO f n id c:=by
 intro n;induction n with|zero =>intro id c b;by_cases hx:∃x∈f,x.1=id;{obtain⟨x,hx,rfl⟩:=hx;rw[RE j hx,RE g ((h x b).2 hx)]};rw[Fa<|λx a e=>hx ⟨x,a,e⟩,Fa λx a e=>hx ⟨x,(h x<|by rw[e];exact b).1 a,e⟩]|succ n l =>intro id c b;by_cases hx:∃x∈f,x.1=id;{obtain⟨x,hx,rfl⟩:=hx;rw[wv j hx,wv g ((h x b).2 hx)];by_cases i:x.2.1=[];{rw[aN i,aN i]};rw[aK i,aK i,l _ _ ((k x hx).resolve_left i)]};rw[Fa<|λx a e=>hx ⟨x,a,e⟩,Fa λx a e=>hx ⟨x,(h x<|by rw[e];exact b).1 a,e⟩]
def agW{ls}(f:kA (·.1) ls):∀n id b,(AO ls n id b).2=0 ->
  ∃c,(AO ls n id b).1=b++c/\∀m a,c.length<=m->AO ls m id a=(a++c,0):=by
 intro n;induction n with|zero =>intro id b h;by_cases hx:∃x∈ls,x.1=id;{obtain⟨x,hx,rfl⟩:=hx;rw[RE f hx] at h;cases h};rw[Fa λx d e=>hx ⟨x,d,e⟩] at h;cases h|succ n j =>intro id b h;by_cases hx:∃x∈ls,x.1=id;{obtain⟨x,hx,rfl⟩:=hx;rw[wv f hx] at h⊢;by_cases g:x.2.1=[];{rw[aN g] at h⊢;refine⟨[x],rfl,λm a i=>?_⟩;cases m with|zero=>cases i|succ m=>rw[wv f hx,aN g]};rw[aK g] at h⊢;obtain⟨c,k,l⟩:=j _ _ h;refine⟨x::c,by rw[k];simp,λm a i=>?_⟩;cases m with|zero=>cases i|succ m =>rw[wv f hx,aK g,l m _ (by simpa using i)];simp};rw[Fa λx d e=>hx ⟨x,d,e⟩] at h;cases h
def agX{ls}(b:kA (·.1) ls){x}(c:x∈ls)(h:(bB ls x.1).2=0):x.2.1=[]\/∃y∈ls,y.1=x.2.1:=by
 unfold bB at h;rw[wv b c] at h;by_cases a:x.2.1=[]
 {exact .inl a};rw[aK a] at h;right;apply nF;intro q;rw[Fa λy d e=>q ⟨y,d,e⟩] at h;cases h
def AtD(a:List bD)(b:List Tx)(x:bD)(d:Tx):Prop:=∃i:Nat,a[i]?=aa x/\b[i]?=aa d
def aeX{ls ds x d}:AtD ls ds x d↔(x,d)∈ls.zip ds:=by
 rw[bp];constructor
 {rintro⟨i,a,b⟩;exact⟨i,by rw[ahA];exact⟨a,b⟩⟩};rintro⟨i,h⟩;rw[ahA] at h;exact⟨i,h.1,h.2⟩
def O4{a c b r2 x y d e}(h:a.length=b.length):AtD (a++[x]++c) (b++[d]++r2) y e↔(y=x/\e=d)\/AtD (a++c) (b++r2) y e:=by
 rw[aeX,aeX,rO,rO,List.zip_append h,List.zip_append h];simp;constructor
 {rintro(q|q|q);{exact .inr (.inl q)};{exact .inl q};exact .inr (.inr q)};rintro(q|q|q);{exact .inr (.inl q)};{exact .inl q};exact .inr (.inr q)
def C2{ls ds}(c:ds.length=ls.length){x}(b:x∈ls):∃d,AtD ls ds x d:=by obtain⟨i,a⟩:=bp.1 b;have:=aA a;exact⟨ds[i],i,a,gQ ai⟩
def AtD.mem{ls ds x d}(h:AtD ls ds x d):x∈ls:=by obtain⟨i,a,_⟩:=h;exact kG a
def J1{ls ds}(a:kA (·.1) ls){x d}(h:AtD ls ds x d):x4 ls ds x.1=d:=by obtain⟨i,b,c⟩:=h;unfold x4;rw[C1 a b];dsimp only;rw[c];rfl
def Vs{ls a ds b}(m:kA (·.1) ls)(f:kA (·.1) a)(n:ds.length=ls.length)(i:b.length=a.length){q}
  (h:∀x d,x.1≠q->(AtD a b x d↔AtD ls ds x d)) (p:∀x∈ls,x.2.1=[]\/x.2.1≠q) (r:(∀x∈ls,x.1≠q)\/(∀x∈a,x.1≠q)) {id} (j:id≠q) : bB a id=bB ls id/\dZ a b id=dZ ls ds id:=by
 have s:∀x,x.1≠q->(x∈a↔x∈ls):=λx c=>by constructor;{intro k;obtain⟨d,e⟩:=C2 i k;exact((h x d c).1 e).mem};intro k;obtain⟨d,e⟩:=C2 n k;exact((h x d c).2 e).mem
 have l:bB a id=bB ls id:=amb m f s p 16 id [] j;refine⟨l,?_⟩;unfold dZ;rw[l];have:((bB ls id).1.reverse.map λx=>x4 a b x.1)=((bB ls id).1.reverse.map λx=>x4 ls ds x.1):=by apply Pd;intro x c;rw[adR] at c;have o:=(BQ).1 x c;obtain⟨d,e⟩:=C2 n o;rw[J1 m e,J1 f ((h x d<|r.elim (λg=>g x o) λg=>g x ((BQ).1 x<|by rw[l];exact c)).2 e)]
 rw[this]
def adm:∀(r:List Tx) t,Valid t->(wq r t).2=0->Valid (wq r t).1:=by intro r;induction r with|nil=>intro t h _;exact h|cons s r b =>intro t h a;unfold wq at a⊢;by_cases c:(hY t s).2=0;{rw[aN c] at a⊢;rcases LA h s with ⟨_,v,_⟩|⟨v,_⟩;{exact b _ v a};exact absurd c v};rw[aK c] at a⊢;exact absurd a c
def aaz{ls ds id}(h:(dZ ls ds id).2=0):(bB ls id).2=0/\dZ ls ds id=wq ((bB ls id).1.reverse.map λx=>x4 ls ds x.1) []:=by
 unfold dZ at h⊢;by_cases c:(bB ls id).2=0
 {rw[aN c];exact⟨c,rfl⟩};rw[aK c] at h;exact absurd h c
def Vt:Valid []:=CQ ac4.1
def AP.more{a b k r2}{x:bD}{d:Tx}(o:a.length=k.length)(J:kA (·.1) (a++b))(h:kA (·.1) (a++[x]++b))(p:AP (a++b) (k++r2))
  (f:∀y∈a++b,y.1≠x.1) (K:x.1≠[]) (L:x.2.1≠x.1) (r:x.2.1=[]\/((bB (a++b) x.2.1).2=0/\(bB (a++b) x.2.1).1.length<16)) (s:x.2.2.2.2.2.2.1=true/\x.2.2.2.2.2.1=0/\x.2.2.2.2.1=(d.length:Int)/\x.2.2.2.1=ql d/\mA d) (n:(hY (if x.2.1=[] then [] else(dZ (a++b) (k++r2) x.2.1).1) d).2=0):AP (a++[x]++b) (k++[d]++r2):=by
 have hlen:=p.same;have l:(k++[d]++r2).length=(a++[x]++b).length:=by simp at hlen⊢;omega
 have t:∀y e,y.1≠x.1->(AtD _ (k++[d]++r2) y e↔AtD (a++b) _ y e):=λy e g=>by rw[O4 o];refine⟨?_,.inr⟩;rintro(q|q);{exact absurd (congrArg _ q.1) g};exact q
 have M:∀y∈a++b,y.2.1≠x.1:=λy g e=>by rcases agX J g (p.chain y g) with q|⟨z,G,q⟩;{exact K (e.symm.trans q)};exact f z G (q.trans e)
 have u:x∈a++[x]++b:=aW;have v:∀y∈a++[x]++b,y=x\/y∈a++b:=λy g=>by simp only[Gp,D5] at g⊢;rcases g with (q|q)|q;{exact .inr (.inl q)};{exact .inl q};exact .inr (.inr q)
 have m:∀{id},id≠x.1->bB _ id=bB _ id/\dZ _ _ id=dZ _ _ id :=λ{id} N=>Vs J h hlen l t (λy g=>.inr (M y g)) (.inl f) N
 have w:x4 _ (k++[d]++r2) x.1=d:=J1 h ((O4 o).2<|.inl ⟨rfl,rfl⟩);have key:(bB (a++[x]++b) x.1).2=0/\(dZ (a++[x]++b) (k++[d]++r2) x.1).2=0:=by
  by_cases A:x.2.1=[];{(have O:bB (a++[x]++b) x.1=([x],0):=by unfold bB;rw[wv h u,aN A];rfl);rw[aN A] at n;unfold dZ;rw[O,aN rfl];refine⟨rfl,?_⟩;show(wq [x4 _ _ x.1] []).2=0;rw[w];unfold wq;rw[aN n];rfl}
  rcases r with q|⟨B,U⟩;{exact absurd q A};(rw[aK A] at n;obtain⟨R,k2⟩:=m L;obtain⟨y,g,P⟩:∃y∈a++b,y.1=x.2.1:=by apply nF;intro q;unfold bB at B;rw[Fa λy g e=>q ⟨y,g,e⟩] at B;cases B);(have S:(dZ (a++b) (k++r2) x.2.1).2=0:=by obtain⟨i,H⟩:=bp.1 g;have:=aA H;rw[<-P];exact(p.each i y _[i] H<|gQ ai).2.2.2.2.2);(obtain⟨t1,Q⟩:=aaz S;obtain⟨c,V,W⟩:=agW h 16 x.2.1 [] (by have:=R;unfold bB at this B;rw[this];exact B);have C:(bB (a++b) x.2.1).1=c:=by rw[<-R];exact V);(rw[C] at U Q;have O:bB (a++[x]++b) x.1=(x::c,0):=by unfold bB;rw[wv h u,aK A,W 15 _ ai];rfl);unfold dZ;rw[O,aN rfl];refine⟨rfl,?_⟩;rw[ List.reverse_cons,Po,List.map_singleton,w];have D:(c.reverse.map λz=>x4 (a++[x]++b) (k++[d]++r2) z.1)=(c.reverse.map λz=>x4 (a++b) (k++r2) z.1):=by apply Pd;intro z G;rw[adR] at G;have E:z∈a++b:=(BQ).1 z (by rw[C];exact G);obtain⟨e,I⟩:=C2 hlen E;rw[J1 J I,J1 h ((t z e<|f z E).2 I)]
  rw[D,agN _ d [] (dZ _ _ x.2.1).1 (Prod.ext (by rw[Q])<|by rw[<-Q];exact S),aN n]
 refine⟨l,λy g=>?_,λi y e H I=>?_⟩
 .rcases v y g with rfl|F
  .exact key.1
  .rw[(m<|f y F).1];exact p.chain y F
 .have X:AtD _ _ y e:=⟨i,H,I⟩;rcases(O4 o).1 X with ⟨rfl,rfl⟩|⟨j,T,Y⟩
  .exact⟨s.1,s.2.1,s.2.2.1,s.2.2.2.1,s.2.2.2.2,key.2⟩
  .obtain⟨Z,a2,a3,a4,a5,a6⟩:=p.each j y e T Y;exact⟨Z,a2,a3,a4,a5,by rw[(m<|f y<|kG T).2];exact a6⟩
def AP.less{f g m r2 x d}(t:f.length=m.length)(A:kA (·.1) (f++g))(n:kA (·.1) (f++[x]++g))(u:AP (f++[x]++g) (m++[d]++r2))
  (B:∀y∈f++[x]++g,y.2.1≠x.1):AP (f++g) (m++r2):=by
 have h:=u.same;have hlen:(m++r2).length=(f++g).length:=by simp at h⊢;omega
 have c:=λy k e=>by
  have v:(f++[x]++g).Perm (x::(f++g)):=by rw[rO];exact List.perm_middle
  have o:((f++[x]++g).map _).Nodup:=n.imp λ{a b} q=>wR q;rw[(v.map _).nodup_iff,Pp,ahR] at o;exact o.1 (Bc.2 ⟨y,k,e⟩)
 have p:∀y e,y.1≠x.1->(AtD (f++g) _ y e↔AtD _ (m++[d]++r2) y e):=λy e k=>by rw[O4 t];refine⟨.inr,?_⟩;rintro(q|q);{exact absurd (congrArg _ q.1) k};exact q
 have l:∀{id},id≠x.1->bB _ id=bB _ id/\dZ _ _ id=dZ _ _ id :=λ{id} w=>Vs n A h hlen p (λy k=>.inr (B y k)) (.inr c) w
 have r:∀y∈f++g,y∈f++[x]++g:=λy k=>by
  simp only[Gp] at k⊢;rcases k with q|q;{exact .inl (.inl q)};exact .inr q
 refine⟨hlen,λy k=>?_,λi y e z C=>?_⟩
 .rw[(l<|c y k).1];exact u.chain y (r y k)
 .have s:=kG z;obtain⟨j,D,E⟩:=(p y e<|c y s).1 ⟨i,z,C⟩;obtain⟨F,G,H,I,J,K⟩:=u.each j y e D E;exact⟨F,G,H,I,J,by rw[(l<|c y s).2];exact K⟩
def aj1:Gz (uW 1024)=([],0):=by unfold Gz;rw[ade]
def agY:mA (uW 1024):=by unfold mA;rw[aj1];exact⟨rfl,rfl⟩
def amc{t}(h:Valid t):hY t (uW 1024)=(t,0):=by unfold hY;rw[aj1];unfold ox;rw[aN h];rfl
def jh.boxes{l}(b:l.length<=32)(c:∀x∈l,OkB x)(d:kA (·.1) l)(e:(l.flatMap (·.2.1)).Nodup):jh 1 (0,[],[],l,()) :=⟨b,by show l.length+0+0=l.length;omega,λx a=>(by cases a),λx a=>(by cases a),c,by unfold TA;simpa [kA] using d,by unfold TB;simpa using e⟩
def jh.lays{l}(b:l.length<=32)(c:∀x∈l,OkL x)(d:kA (·.1) l)(e:(l.flatMap (·.2.2.1)).Nodup):jh 3 (0,l,[],[],()) :=⟨b,by show 0+0+l.length=l.length;omega,c,λx a=>(by cases a),λx a=>(by cases a),by unfold TA;simpa [kA] using d,by unfold TB;simpa using e⟩
def lN.amd{s}(h:lN s):(s.1.flatMap (·.2.1)).Nodup:=by have:=h.b.SJ;unfold TB at this;simpa using this
def lN.aoa{s}(h:lN s):(s.2.2.1.flatMap (·.2.2.1)).Nodup:=by have:=h.l.SJ;unfold TB at this;simpa using this
def lN.agS{s}(h:lN s):s.1.length<=32:=h.b.few
def lN.aas{s}(h:lN s):s.2.2.1.length<=32:=h.l.few
def sH{a:Type}(l:List a)(k:Nat)(x:a):List a:=l.take k++[x]++l.drop k
def ame{α}(l:List α) k x (a:k<=l.length) (b:l.length<=1000000):vX l k [x]=aa (sH l k x):=by unfold vX sH;rw[show inside 0 k _=true from aV aI ai ep,aP dW];rfl
def x5{b S:Type}{f}(l:List b)(p:b->Bool)(a:Int×Int×al->S)(k:l.length<=1000000)
  (c:∀i y,l[i]?=aa y->i<l.length->f (a (0,i,()))=aa (if p y=true then .inr (1,a (i,i,())) else .inl (a (0,aC .i64 i 1,())))) (d:f (a (0,(l.length:Int),()))=aa (.inr (0,a (0,(l.length:Int),())))) : (∃(i:Nat) (y:b),l[i]?=aa y/\p y=true/\Loop f (a (0,0,()))=aa (1,a (i,i,())))\/((∀y∈l,p y=false)/\Loop f (a (0,0,()))=aa (0,a (0,(l.length:Int),()))):=by
 rcases eR l (λi=>a (0,i,())) _ _ _ ai (λi y hy hi e=>by rw[c i y hy hi,e]) d with ⟨i,y,hy,g,_,h⟩|⟨j,h⟩
 .exact .inl ⟨i,y,hy,g,h⟩
 .refine .inr ⟨λy hy=>?_,h⟩;obtain⟨i,hi⟩:=bp.1 hy;exact j i y hi
def RF(s:aL)(x:bD)(d:Tx):aL:=(s.1,(s.2.1,(lR (·.1) s.2.2.1 x,sH s.2.2.2.1 (cU (λy:bD=>y.1) s.2.2.1 x.1) d,s.2.2.2.2)))
def wx(s:aL)(id:Tx):Bool:=s.2.2.1.any (λx=>decide (x.2.1=id))||s.2.1.any (λx=>decide (x.2.2.1=id))||s.1.any (λx=>decide (x.2.2.2.1=id))
def Vu{a:Type}{l:List a}{p}{i:Nat}{y}(b:l[i]?=aa y)(c:p y=true):l.any p=true:=SM.2 ⟨y,kG b,c⟩
def aaA{b:Type}{l:List b}{p}(h:∀y∈l,p y=false):l.any p=false:=by cases q:l.any p with|false=>rfl|true=>obtain⟨y,c,a⟩:=SM.1 q;rw[h y c] at a;cases a
def cutAt{a:Type}(l:List a)(i:Nat):List a:=l.take i++l.drop (i+1)
def aaB ls ds x d (hd:ds.length=ls.length):∃(a c:List bD) (b r2:List Tx),a.length=b.length/\ls=a++c/\ds=b++r2/\a.length=cU (λy=>y.1) ls x.1 /\
  lR (λy=>y.1) ls x=a++[x]++c/\sH ds (cU (λy=>y.1) ls x.1) d=b++[d]++r2:=by
 have e:=jN (λy=>y.1) ls x.1;refine⟨ls.takeWhile _,ls.dropWhile _,ds.take _,ds.drop _,?_,(Al).symm,(Ba _ _).symm,rfl,rfl,rfl⟩;rw[cY,yo ai];rfl
def lN.more{s}(h:lN s){x}{d:Tx}(r:OkL x)(E:s.2.2.1.length<32)(j:∀y∈s.2.2.1,y.1≠x.1)(w:∀y∈s.2.2.1,∀n∈y.2.2.1,n∉x.2.2.1)
  (m:x.2.1=[]\/((bB s.2.2.1 x.2.1).2=0/\(bB s.2.2.1 x.2.1).1.length<16)) (F:x.2.2.2.2.2.2.1=true/\x.2.2.2.2.2.1=0/\x.2.2.2.2.1=(d.length:Int)/\x.2.2.2.1=ql d/\mA d) (A:(hY (if x.2.1=[] then [] else(dZ s.2.2.1 s.2.2.2.1 x.2.1).1) d).2=0):lN (RF s x d):=by
 obtain⟨M,N,t,G,O,u⟩:=s;have B:=h.Xn;have v:=h.b;have e:=h.lays;have hrefs:=h.refs;unfold RF;have c:∀y,y∈lR (λy=>y.1) t x↔y=x\/y∈t:=λy=>wu _;have f:kA _ _:=O1 _ B j;refine⟨v,h.i,jh.lays ?_ ?_ f ?_,?_,h.NV,?_,?_,?_,h.GZ⟩
 .rw[E6];omega
 .intro y hy;rcases(c y).1 hy with rfl|hy
  .exact r
  .exact h.l.ll y hy
 .have H:=(BR (λy=>y.1) t x).flatMap_right (λy=>y.2.2.1);rw[H.nodup_iff,M9,Yd];refine⟨?_,h.aoa,λa I b v=>?_⟩
  .have:=r.SJ;unfold gP at this;simp at this;exact this.1.2
  .rw[Hs] at v;obtain⟨y,hy,J⟩:=v;rintro rfl;exact w y hy a J I
 .obtain⟨P,Q,R,S,K,o,C,_,D,L⟩:=aaB t G x d e.same;rw[D] at f;rw[D,L];have g:=r.id;refine AP.more K (by rw[<-o];exact B) f (by rw[<-o,<-C];exact e) (by rw[<-o];exact j) (λq=>?_) ?_ (by rw[<-o];exact m) F (by rw[<-o,<-C];exact A)
  .rw[q] at g;exact sb g
  .rcases r.par with q|q
   .rw[q];intro k;rw[<-k] at g;exact sb g
   .exact q.2
 .intro y hy;rcases h.tops y hy with q|⟨z,p,q⟩
  .exact .inl q
  .exact .inr ⟨z,(c z).2 (.inr p),q⟩
 .intro y hy;obtain⟨z,p,q⟩:=(hrefs y hy).2;exact⟨(hrefs y hy).1,z,(c z).2 (.inr p),q⟩
 .intro y hy;obtain⟨⟨z,p,q⟩,k⟩:=h.U9 y hy;exact⟨⟨z,(c z).2 (.inr p),q⟩,k⟩
def uw.more{s}(h:uw s){x d}(b:BdL x)(c:s.2.2.1.length<32)(f:d.length<=8192):uw (RF s x d):=by
 refine⟨?_,h.il,h.bl,λy hy=>?_,h.xi,h.xb,λe a=>?_,h.ml⟩
 .show(lR _ s.2.2.1 x).length<=40;rw[E6];omega
 {rcases(wu _).1 hy with rfl|hy;{exact b};exact h.xl y hy};have a:e∈sH s.2.2.2.1 _ d:=a;unfold sH at a;rw[Gp,Gp,D5] at a;rcases a with (a|rfl)|a;{exact h.dl e (Bb a)};{exact f};exact h.dl e (X1 a)
def lN.aj2{s}(h:lN s){y}(a:y∈s.2.2.1):(bB s.2.2.1 y.1).2=0/\(dZ s.2.2.1 s.2.2.2.1 y.1).2=0:=by refine⟨h.lays.chain y a,?_⟩;obtain⟨d,i,b,c⟩:=C2 h.lays.same a;exact(h.lays.each i y d b c).2.2.2.2.2
def Ia{ls ds id}(h:(dZ ls ds id).2=0):Valid (dZ ls ds id).1:=by obtain⟨_,t⟩:=aaz h;rw[t] at h⊢;exact adm _ _ Vt h
def Vv{a:Type}(l:List a) i x (h:l[i]?=aa x):l=l.take i++[x]++l.drop (i+1):=by obtain⟨b,rfl⟩:=ga.1 h;rw[rO,Us,<-zm b,Ba]
def lN.less{s}(h:lN s){i x}(n:s.2.2.1[i]?=aa x)(A:∀y∈s.2.2.1,y.2.1≠x.1)(B:∀y∈s.2.1,y.2.2.1≠x.1)(C:∀y∈s.1,y.2.2.2.1≠x.1)(o:∀y∈s.2.2.2.2.1,y.1≠x.1) :
  lN (s.1,s.2.1,cutAt s.2.2.1 i,cutAt s.2.2.2.1 i,s.2.2.2.2):=by
 obtain⟨F,G,g,D,H,u⟩:=s;have p:=h.Xn;have r:=h.b;have t:=h.i;have c:=h.lays;have hrefs:=h.refs;dsimp only at *;have E:=aA n;have d:cutAt g i=sR _ g x.1:=aeV _ p n;have e:(cutAt g i).Sublist g:=by rw[d];apply mC
 have f:∀y,y.1≠x.1->y∈g->y∈cutAt g i:=λy a o=>by rw[d];exact(F4 _).2 ⟨o,a⟩
 have j:kA (λy=>y.1) (cutAt g i):=by rw[d];exact Xj _ p _
 refine⟨r,t,jh.lays (gS e.length_le h.aas) (λy a=>h.l.ll y (e.subset a)) j (ahJ (E8 e _) h.aoa),?_,h.NV,?_,?_,?_,h.GZ⟩
 .have v:=c.same;have w:=Vv g i x n;refine AP.less (by rw[cY,cY];omega) j (by rw[<-w];exact p) (by rw[<-w,<-(Vv D i _<|gQ ai)];exact c) (by rw[<-w];exact A)
 .intro y a;rcases h.tops y a with q|⟨z,m,q⟩
  .exact .inl q
  .exact .inr ⟨z,f z (λk=>B y a (q.symm.trans k)) m,q⟩
 .intro y a;obtain⟨z,m,q⟩:=(hrefs y a).2;exact⟨(hrefs y a).1,z,f z (λk=>C y a (q.symm.trans k)) m,q⟩
 .intro y a;obtain⟨⟨z,m,q⟩,k⟩:=h.U9 y a;exact⟨⟨z,f z (λk=>o y a (q.symm.trans k)) m,q⟩,k⟩
def F9{α}(l:List α) i:∀x∈cutAt l i,x∈l:=λx a=>by unfold cutAt at a;rw[Gp] at a;exact a.elim Bb X1
def Vw{α}(l:List α) i:(cutAt l i).length<=l.length:=by unfold cutAt;rw[gR,cY,qo];omega
def aaC{s id}(h:wx s id=false):(∀y∈s.2.2.1,y.2.1≠id)/\(∀y∈s.2.1,y.2.2.1≠id)/\(∀y∈s.1,y.2.2.2.1≠id):=by
 unfold wx at h;simp only[Pc] at h;have key:∀{α} {l:List α} {g:α->Tx},l.any _=false->∀y∈l,g y≠id:=λ{α l g} q y hy e=>by have:=Vu (p:=λx=>decide (g x=id)) (bp.1 hy).choose_spec (cT e);rw[this] at q;cases q
 exact⟨key h.1.1,key h.1.2,key h.2⟩
def aeY{α}(l:List α) i (hi:i<l.length) (a:l.length<=1000000):K0 l i (aC .i64 i 1)=aa (cutAt l i):=by unfold K0 cutAt;rw[aJ ai,aV ai ai ep,B9,An,An]
def x6(n:Nat)(a:List Tx):List Tx:=a.take n++List.replicate (n-a.length) []
def wy n ds:(x6 n ds).length=n:=by unfold x6;grind
def Xp{n ds}(h:ds.length=n):x6 n ds=ds:=by unfold x6;rw[Is ai,show n-ds.length=0 from ai,List.replicate_zero,zo]
def Xq{n i ds}(h:i<n):(x6 n ds)[i]?=aa ((ds[i]?).getD []):=by unfold x6;grind
def LB(s:aL)(a:s.2.2.1.length<=1000000):np (s,())=aa (x6 s.2.2.1.length s.2.2.2.1,()):=by unfold np;dsimp only;rw[aV aI ep<|sK _,aj,ej ai,aj];unfold over oq len kD x6;grind
def J2(s:aL)(x:bD)(d:Tx):aL:=(s.1,(s.2.1,(lR (·.1) s.2.2.1 x,sH (x6 s.2.2.1.length s.2.2.2.1) (cU (λy:bD=>y.1) s.2.2.1 x.1) d,s.2.2.2.2)))
def aj3(s:aL)(x:bD)(d:Tx)(r:s.2.2.1.length<=100000):tI (s,x,d,())=aa (J2 s x d,()):=by
 obtain⟨n,o,a,j,p⟩:=s;dsimp only at r;have l:=jN (λy=>y.1) a x.1;unfold tI;have b:=mB (f:=rD ((n,o,a,j,p),x,d,())) _ a x.1 ai (λi=>((0,i,()),x,())) _ _ (λi y q=>by have hi:=aA q;unfold rD;rw[aq hi,au q,ab,aJ ai];cases dK y.1 x.1<;>rfl) (by unfold rD;rw[aw,ag])
 rw[b,ab];have c:=LB (n,o,a,j,p) xv;have e:∀k,k<=a.length->kW (x6 a.length j,k,d,())=aa _:=λk l=>by unfold kW;rw[ ej (by rw[wy];omega),aj];unfold eH;rw[ame _ k d (by rw[wy];omega)<|by rw[wy];omega,ab]
 have g:iu (a,((cU (λy=>y.1) a x.1:Nat):Int),x,())=aa (lR (λy=>y.1) a x,()):=by unfold iu;dsimp only;rw[ej ai,aj];unfold dw;rw[show vX a _ [x]=_ from uZ _ a x ai,ab]
 by_cases h:cU (λy=>y.1) a x.1<a.length
 {rw[aN h,show cF 1 0=false from rfl,ag,ab];dsimp only;rw[c,ab,aF ai,ag,e _ l,g];rfl};rw[aK h];have m:cU (λy=>y.1) a x.1=a.length:=ai;rw[cu,aj,ab];dsimp only;rw[c,ab,aT aI,aj,show @len _ a=((cU _ a x.1):Int) from by rw[m];rfl,e _ l,g];rfl
def aj4:AE ()=aa (uW 1024,()):=Z3 1024 aI
abbrev Ch1:=(List bD×Int×al×Tx×Int×al)×List bD×al
def RG(b:List bD)(e:Tx)(r:b.length<=1000000)(n:∀x∈b,x.2.2.1.length<=4294967296)(c:List bD) r2 (id:Tx) (acc:List bD) (s:acc.length<=16) :
  ∃i,Loop (lI (b,e,())) ((c,r2,(),id,0,()),acc,())=aa (match DY b id with|none=>(0,(c,r2,(),id,i,()),acc,())|some k=>match b[k]? with|none=>(0,(c,r2,(),id,i,()),acc,())|some x=>if acc.length=16 then(1,([],5,(),id,i,()),acc,()) else if x.2.1=[] then(2,(c,r2,(),id,i,()),acc++[x],()) else(3,(c,r2,(),x.2.1,i,()),acc++[x],())):=by
 rcases eR (f:=lI (b,e,())) b (λi=>((c,r2,(),id,i,()),acc,())) (λ_ x=>decide _)
  (λi x=>if acc.length=16 then _ else if x.2.1=[] then(2,(c,_),acc++[x],()) else(3,(c,_),acc++[x],()))
  _ ai (λi x g o j=>by
   unfold lI;rw[aq o,aj,au g,ab,cI,j];by_cases q:x.1=id
   .rw[cT q,aM,ag,aN rfl,sF _ (n x<|kG g),ab];have l:aR (@len bD acc) 16=decide (acc.length=16):=by unfold len;apply fk.2;omega
    rw[l];by_cases a:acc.length=16;{rw[cT a,aj,aN a]};rw[cj a,aK a,show fits (plus (@len bD acc) _)=true from aP (by show _+1<=_;omega),cI];by_cases d:x.2.1=[];{rw[cT d,aN d];rfl};rw[cj d,aK d];rfl
   rw[cj q];rfl) (by unfold lI;rw[aw,ag]) with ⟨i,x,g,d,p,h⟩|⟨m,h⟩
 .refine⟨i,?_⟩;rw[Ry g (gb d) p]
  grind
 .refine⟨b.length,?_⟩;rw[JY m];exact h
def aaD{ls id}(h:DY ls id=af) n acc:AO ls n id acc=([],3):=by unfold AO;rw[h]
def amf{ls id k}(h:DY ls id=aa k) acc:AO ls 0 id acc=([],5):=by unfold AO;rw[h]
def aob{ls id k x}(h:DY ls id=aa k)(a:ls[k]?=aa x) n acc :
  AO ls (n+1) id acc=if x.2.1=[] then(acc++[x],0) else AO ls n x.2.1 (acc++[x]):=by
 conv=>lhs;unfold AO
 grind
def MM(a:List bD)(b:Tx)(l:a.length<=1000000)(m:∀x∈a,x.2.2.1.length<=4294967296):∀n (id:Tx) (acc:List bD),n+acc.length=16 ->
  ∃f g h,Loop (pW (a,b,())) ((([]:List bD),0,(),id,()),acc,()) =aa (if(AO a n id acc).2=0 then(1,f,(AO a n id acc).1,()) else(0,((AO a n id acc).1,(AO a n id acc).2,g),h)):=by
 intro n;induction n with|zero =>(intro id acc o;rw[aZ];unfold pW;obtain⟨i,j⟩:=RG a b l m [] 0 id acc ai;rw[j,ab];cases c:DY a id with|none =>rw[aaD c];exact⟨(([]:List bD),(0:Int),(),id,()),_,_,rfl⟩|some k =>obtain⟨x,d,_⟩:=y8 c;rw[amf c];dsimp only;rw[d];dsimp only;rw[aN ai];exact⟨(([]),0,(),id,()),_,_,rfl⟩)|succ n p =>intro id acc o;rw[aZ];unfold pW;obtain⟨i,j⟩:=RG a b l m [] 0 id acc ai;rw[j];cases c:DY a id with|none =>rw[aaD c];exact⟨(([]),0,(),id,()),_,_,rfl⟩|some k =>obtain⟨x,d,_⟩:=y8 c;rw[aob c d];dsimp only;rw[d];dsimp only;rw[aK ai];by_cases e:x.2.1=[];{rw[aN e,aN e];exact⟨_,((),([]),()),(acc,()),rfl⟩};rw[aK e,aK e];obtain⟨f,g,h,q⟩:=p x.2.1 (acc++[x]) (by rw[gR];show n+(_+1)=16;omega);exact⟨f,g,h,q⟩
def adn(a:List bD)(id:Tx)(b:a.length<=1000000)(d:∀x∈a,x.2.2.1.length<=4294967296):vD (a,id,())=aa ((bB a id).1,(bB a id).2,()):=by
 unfold vD;obtain⟨e,f,g,h⟩:=MM a id b d 16 id [] rfl;rw[h];unfold bB;by_cases c:(AO a 16 id []).2=0
 {rw[ c];rfl};rw[aK c];rfl
def agZ{α}(b:α->Tx) l p:(∀j y,j<cU b l p->l[j]?=aa y->dK (b y) p=true)/\(∀y,l[cU b l p]?=aa y->dK (b y) p=false):=by induction l with|nil=>exact⟨λj y _ h=>by simp at h,λy h=>by simp at h⟩|cons a r d =>unfold cU at d⊢;rw[Pm];cases h:dK _ p with|true =>(rw[aN rfl,iG];refine⟨λj y e c=>?_,λy c=>d.2 y c⟩;cases j with|zero=>(obtain rfl:=aU c;exact h)|succ j=>exact d.1 j y ai c)|false =>refine⟨λj y e c=>absurd e aW,λy c=>?_⟩;simp at c;rw[<-c];exact h
def lY{a:Type}(l:List a)(k:Nat)(x:a)(i:Nat):List a:=if i<=k then l.take i else sH (l.take i) k x
def J3{α}{l:List α}{k x i y}(h:i<k)(a:l[i]?=aa y):lY l k x i++[y]=lY l k x (i+1):=by unfold lY;rw[aN ai,aN ai,yn,a];rfl
def aaE{α}{l:List α}{k x y}(a:l[k]?=aa y):lY l k x k++[x]++[y]=lY l k x (k+1):=by have b:=aA a;unfold lY sH;rw[aN<|b8 _,aK ai,GH,yo ai,yn,a,abn (by rw[cY];omega),Iu (by rw[cY];omega)];rfl
def MN{α}{l:List α}{k x i y}(h:k<i)(a:l[i]?=aa y):lY l k x i++[y]=lY l k x (i+1):=by have b:=aA a;unfold lY sH;rw[aK ai,aK ai,GH,GH,yo ai,yo ai,yn,a,abn (by rw[cY];omega)];simp
def Vx{α}{l:List α}{k x}(h:k<l.length):lY l k x l.length=sH l k x:=by unfold lY;rw[aK ai,Ao]
def RH{α}{l:List α}{x}:lY l l.length x l.length++[x]=sH l l.length x:=by unfold lY sH;rw[aN<|b8 _,Ix,zo]
def Ga{α}{l:List α}{k x i}:(lY l k x i).length<=l.length+1:=by
 unfold lY sH;split
 {rw[cY];omega};simp;omega
def RI{α}{l:List α}{k x}:lY l k x 0=[]:=by unfold lY;rw[aN ai,ahU]
def O5{α}(key:α->Tx) l x:lR key l x=sH l (cU key l<|key x) x:=by unfold lR sH;rw[(CY key l x).1,(CY key l x).2]
set_option maxRecDepth 20000 in
def Xr(s:aL)(x:bD)(d:Tx)(r:s.2.2.1.length<=100000):tJ (s,x,d,())=aa (J2 s x d,()):=by
 obtain⟨t,u,a,b,v⟩:=s;dsimp only at r;have w:=jN (λy=>y.1) a x.1;have c:=agZ (λy=>y.1) a x.1;unfold J2;rw[O5];generalize A:cU _ a x.1=k at w c;have o:=wy a.length b;have key:=cp (f:=rH ((t,u,a,b,v),x,d,())) a.length
  (λi=>(((),(),decide<|k<i,i,()),lY _ k d i,lY a k x i,())) (λi g=>by
   have hx:=gQ g;have e:=Xq (ds:=b) g;have p:∀j,(lY a k x j).length<=100001:=λj=>gS Ga ai;have q:∀j,(lY (x6 a.length b) k d j).length<=100001:=λj=>gS Ga ai;have m:∀y,fits (plus (@len bD<|lY a k x i)<|@len bD [y])=true:=λy=>aP (by have:=p i;simp;omega);have n:∀y,fits (plus (@len Tx<|lY (x6 a.length b) k d i)<|@len Tx [y])=true:=λy=>aP (by have:=q i;simp;omega);have B:∀y z,fits (plus (@len bD<|lY a k x i++[y])<|@len bD [z])=true:=λy z=>aP (by have:=p i;simp;omega);have C:∀y z,fits (plus (@len Tx<|lY (x6 a.length b) k d i++[y])<|@len Tx [z])=true:=λy z=>aP (by have:=q i;simp;omega);unfold rH;rw[aq g,aj,aJ ai,CX,au hx];rcases Ma i k with h|h|h;{rw[cj ai,cj ai,ab,c.1 i _ h hx,aM,ag,ab,ab,m,ab,n,<-J3 h hx,<-J3 h e];rfl};{subst h;rw[cj ai,cT ai,aE,aj,ab,c.2 _ hx,aE,aj,m,aj,n,aj,ab,ab,show fits (plus (@len bD<|app _ [x]) _)=true from B _ _,ab,show fits (plus (@len Tx<|app _ [d]) _)=true from C _ _,<-aaE hx,<-aaE e];rfl}
   .rw[cT h,cT ai,aM,ag,ab,m,ab,n,<-MN h hx,<-MN h e];rfl) (by
   unfold rH;rw[aw];rfl)
 unfold tJ;rw[show decide _=false from cj ai,RI,RI] at key;rw[show((((),(),false,0,()),_):_×List Tx×List bD×al)=(((),(),false,((0:Nat):Int),()),_) from rfl,key,ab];by_cases h:k<a.length
 .rw[cT h,aM,ag,ab,Vx h,show lY _ k d a.length=sH _ k d from by
   have:=Vx (l:=x6 a.length b) (k:=k) (x:=d) ai;rw[o] at this;exact this]
 .obtain rfl:k=a.length:=ai;rw[cj h,aE,aj,show fits _=true from aP (by have:=Ga (l:=a) (k:=a.length) (x:=x) (i:=a.length);simp;omega),aj,
   show fits _=true from aP (by have:=Ga (l:=x6 a.length b) (k:=a.length) (x:=d) (i:=a.length);simp;omega),aj,ab]
  rw[show app _ [x]=sH a a.length x from RH,show app _ [d]=sH _ a.length d from by
   have:=RH (l:=x6 a.length b) (x:=d);rw[o] at this;exact this]
def aoc(id a:Tx)(b:List Tx):bD:=(id,a,b,ql<|uW 1024,1024,0,true,())
def dR(s:aL)(a:Tx):Tx:=if a=[] then [] else(aS (fH s) a).1
def crG(s:aL)(b:Tx)(a:List Tx)(d:Int):aL×lS×al :=if dA a≠0 then(s,gl<|dA a,()) else if b≠[]/\(aS (fH s) b).2.1≠0 then(s,gl (aS (fH s) b).2.1,()) else if ju (fH s) [] a≠0 then(s,gl<|ju (fH s) [] a,()) else if(cO (fH s) d).2.1≠0 then(s,gl (cO (fH s) d).2.1,()) else if dR s b≠[]/\(bB s.2.2.1<|dR s b).2=0/\16<=(bB s.2.2.1<|dR s b).1.length then(s,gl 5,()) else (J2 s (aoc (cO (fH s) d).1 (dR s b) a)<|uW 1024,BS (cO (fH s) d).1,())
set_option maxRecDepth 100000
def NX s (h:zl s):kx (s,())=aa (fH s,()):=by unfold kx;rw[yN 3 _ h.aas];rfl
def RJ:xN ()=aa (uW 1024,()):=by unfold xN;kernel_rfl
def alK.hd{s}(h:alK s):zl s:=⟨h.base.ll,h.base.il,h.base.bl,h.base.ln,h.base.sj,h.base.bn,λx a=>(h.base.im x a).2⟩
structure apI (s:aL):Prop where
 bl:s.1.length<=1000000
 il:s.2.1.length<=1000000
 ll:s.2.2.1.length<=1000000
 dl:s.2.2.2.1.length<=1000000
 ml:s.2.2.2.2.1.length<=1000000
 xb:∀x∈s.1,ow x.2.1/\zq x.2.2.2.2.2.1
 xi:∀x∈s.2.1,ow x.2.1/\zq x.2.2.2.2.1
 xl:∀x∈s.2.2.1,ow x.2.2.1
def Ib{s}(h:apI s):pV (s,s,())=aa (true,()):=by unfold pV;dsimp only;rw[adk _ h.bl h.xb, aau _ h.il h.xi,aav _ h.ll (λx a=>(h.xl x a).small),CZ _ (by have:=h.dl;omega),aaw _ h.ml];rfl
def e0:aL:=([],[],[],[],[],())
def e5:Tx:=[48,48,48,48,48,53]
def e6:Tx:=[48,48,48,48,48,54]
def eb:Tx:=[98,97,115,101]
def L5(D:Tx):bD:=(e5,[],[eb],D,1024,0,true,())
def L6(D:Tx):bD:=(e6,e5,[],D,1024,0,true,())
def s1(D N:Tx):aL:=([],[],[L5 D],[N],[],())
def s2(D N:Tx):aL:=([],[],[L5 D,L6 D],[N,N],[],())
def s3(D N:Tx):aL:=([],[],[L5 D,L6 D],[N,N],[(e6,1,())],())
def aaF(a:lS):an (aR a.1 a.1) (an (bA a.2.1 a.2.1)<|an (aR a.2.2.1 a.2.2.1)<|an (bA a.2.2.2.1 a.2.2.2.1) true)=true:=by simp only[mG,zb];rfl
end Go.Ge
namespace Go.Ge
variable [Lp]
def ado(s:aL)(id:Tx)(c:s.2.2.2.2.1.length<=1000000):∃n,eP (s,id,())=aa (n,())/\((∃x∈s.2.2.2.2.1,x.1=id/\x.2.1=n)\/(n=0/\∀x∈s.2.2.2.2.1,x.1≠id)):=by
 unfold eP;rcases x5 (f:=n8 (s,_)) s.2.2.2.2.1 (λy=>decide (y.1=id)) (λq=>(q,(),id,())) c (λi y a d=>by unfold n8 wN;rw[aq d,aj,au a,ab,ab,cI,di];by_cases q:y.1=id<;>simp[q]) (by unfold n8;rw[aw,ag]) with ⟨i,y,a,e,b⟩|⟨g,b⟩
 {rw[b,ab];dsimp only;rw[show cF 1 0=false from rfl,ag,aF ai,ag,au a,ab];grind};rw[b,ab,cu,aj];grind
def adp{f:(Int×Int×al)×Tx×al->Option (((Int×Int×al)×Tx×al)⊕(Nat×(Int×Int×al)×Tx×al))}(l:List r5) id (g:l.length<=1000000)
  (d:∀c i,f ((c,i,()),id,())=ao (ba i<|len l) (ae (idx l i) λy=>ao (bA y.2.2.2.1 id) (aa<|.inr (1,(i,i,()),id,())) (aa<|.inl ((c,aC .i64 i 1,()),id,()))) (aa<|.inr (0,(c,i,()),id,()))) : ae (Loop f ((0,0,()),id,())) (λe=>ao (cF e.1 0) (aa (false,())) (aa (cm 0 e.2.1.1,())))=aa (l.any<|λx=>decide (x.2.2.2.1=id),()):=by
 rcases x5 (f:=f) l (λy=>decide (y.2.2.2.1=id)) (λq=>(q,_)) g (λi y a h=>by rw[d,aq h,aj,au a,ab,cI,di];by_cases q:y.2.2.2.1=id<;>simp[q]) (by rw[d,aw,ag]) with ⟨i,y,a,j,b⟩|⟨k,b⟩
 .rw[b,ab,Vu a j];dsimp only;rw[show cF 1 0=false from rfl,ag,bL ai]
 .rw[b,aaA k];rfl
def aaG(s:aL)(id:Tx)(m:s.1.length<=1000000)(n:s.2.1.length<=1000000)(o:s.2.2.1.length<=1000000):pY (s,id,())=aa (wx s id,()):=by
 unfold pY wx;have li:∀{f:_×Tx×al->Option _},
   (∀c i,f ((c,i,()),_)=ao (ba i _) (ae (idx s.2.1 i) λy=>ao (bA y.2.2.1 id) (aa<|.inr (1,(i,i,()),id,())) (aa<|.inl ((c,aC .i64 i 1,()),id,()))) (aa<|.inr (0,(c,i,()),id,()))) ->(∃(i:Nat),s.2.1.any (λx=>decide (x.2.2.1=id))=true/\Loop f ((0,0,()),id,())=aa (1,((i:Int),(i:Int),()),id,()))\/(s.2.1.any (λx=>decide (x.2.2.1=id))=false/\Loop f ((0,0,()),id,())=aa (0,(0,(s.2.1.length:Int),()),id,())):=λ{f} h=>by
  rcases x5 (f:=f) s.2.1 (λy=>decide (y.2.2.1=id)) (λq=>(q,id,())) n (λi y b g=>by rw[h,aq g,aj,au b,ab,cI,di];by_cases q:y.2.2.1=id<;>simp[q]) (by rw[h,aw,ag]) with ⟨i,y,b,j,d⟩|⟨l,d⟩
  .grind
  .grind
 rcases x5 (f:=rE (s,_)) s.2.2.1 (λy=>decide (y.2.1=id)) (λq=>(q,id,())) o (λi y b g=>by unfold rE;rw[aq g,aj,au b,ab,cI,di];by_cases q:y.2.1=id<;>simp[q]) (by unfold rE;rw[aw,ag]) with ⟨i,y,b,j,d⟩|⟨l,d⟩
 {rw[d,ab,Vu b j,show cF 1 0=false from rfl,ag,ab];rcases li (f:=wM (s,_)) (λc i=>rfl) with ⟨k,e,a⟩|⟨e,a⟩;{rw[a,ab];rfl};rw[a];rfl};rw[d,ab,aaA l,cu,aj,ab];rcases li (f:=wM (s,_)) (λc i=>rfl) with ⟨k,e,a⟩|⟨e,a⟩;{rw[a,e];rfl};rw[a,e];exact adp s.1 id m (λc i=>rfl)
def sd(s:aL)(id:Tx):bD×Tx×Bool×al:=match DY s.2.2.1 id with|none=>(([],[],[],[],(0:Int),(0:Int),false,()),[],false,())|some i=>match s.2.2.1[i]? with|none=>(([],[],[],[],(0:Int),(0:Int),false,()),[],false,())|some x=>(x,(s.2.2.2.1[i]?).getD [],true,())
def ixL{f:(Int×Int×al)×al×Tx×al->Option (((Int×Int×al)×al×Tx×al)⊕(Nat×(Int×Int×al)×al×Tx×al))} ls id (n:ls.length<=1000000)
  (d:∀c i,f ((c,i,()),(),id,())=ao (ba i<|len ls) (ae (idx ls i) λy=>ao (bA y.1 id) (aa<|.inr (1,(i,i,()),(),id,())) (aa<|.inl ((c,aC .i64 i 1,()),(),id,()))) (aa<|.inr (0,(c,i,()),(),id,()))) : ae (Loop f ((0,0,()),(),id,())) (λa=>ao (cF a.1 0) (aa (((-1:Int),()),(),a.2.2.2.1,())) (aa ((a.2.1.1,()),(),a.2.2.2.1,())))=aa ((CV ls id,()),(),id,()):=by
 rcases eR (f:=f) ls (λj=>((0,j,()),_)) (λ_ y=>decide (y.1=id)) (λi _=>(1,(i,i,()),(),id,())) _ ai (λi y b e g=>by rw[d,aq e,aj,au b,ab,cI,di,g];by_cases q:y.1=id<;>simp[q]) (by rw[d,aw,ag]) with ⟨i,y,b,k,l,h⟩|⟨m,h⟩
 .rw[h];unfold CV;rw[Ry b (gb k) l];rfl
 .rw[h];unfold CV;rw[JY m];rfl
def Fb(s:aL)(id:Tx)(d:s.2.2.1.length<=100000)(b:∀x∈s.2.2.1,x.2.2.1.length<=4294967296):kv (s,id,())=aa (sd s id):=by unfold kv sd;rw[ixL s.2.2.1 id ai<|λc i=>rfl,ab];unfold CV;cases h:DY s.2.2.1 id with|none=>rfl|some i =>obtain⟨x,a,_⟩:=y8 h;dsimp only;rw[aF ai,ag,au a,ab,a,yM x.2.2.1<|b x<|kG a,ab,LB s ai,ab,au<|Xq<|aA a,ab]
def NY(s:aL)(id:Tx)(n:Int):aL:=(s.1,(s.2.1,(s.2.2.1,(s.2.2.2.1,((if 0<n then lR (·.1) (sR (·.1) s.2.2.2.2.1 id) (id,n,()) else sR (·.1) s.2.2.2.2.1 id),s.2.2.2.2.2)))))
def arD(l:List uV) id n (o:l.length<=100000) (k:∀x∈l,x.1≠id) {f}
  (d:∀c i,f ((c,i,()),id,())=ao (ba i<|len l) (ae (idx l i) λy=>ao (nt<|oor (dK y.1 id)<|bA y.1 id) (aa<|.inr (1,(i,i,()),id,())) (aa<|.inl ((c,aC .i64 i 1,()),id,()))) (aa<|.inr (0,(c,i,()),id,()))) : ae (Loop f ((0,0,()),id,())) (λa=>ao (cF a.1 0) (ae (bO (l,(((@len uV l,()),()).1).1,(a.2.2.1,n,()),())) λb=>aa ((b.1,()),a.2.2.1,())) (ae (bO (l,((ao (ba a.2.1.1 0) ((@len uV l,()),()) ((a.2.1.1,()),())).1).1,(a.2.2.1,n,()),())) λb=>aa ((b.1,()),a.2.2.1,())))=aa ((lR (·.1) l (id,n,()),()),id,()):=by
 have g:∀x,x.1=id->bO (l,((cU (λy=>y.1) l id:Nat):Int),x,())=aa (lR (·.1) l x,()):=by intro x m;unfold bO;dsimp only;rw[ej ai];have:=uZ (λy=>y.1) l x ai;rw[m] at this;exact ob this rfl
 have h:=mB (f:=f) _ l id ai (λi=>((0,i,()),_)) _ _ (λi y j=>by have hi:=aA j;rw[d,aq hi,au j,ab,acy,aJ ai];rcases CE y.1 id with q|q|q;{rw[q,p9 q];rfl};{grind};rw[q,p9 q];rfl) (by rw[d,aw,ag])
 have p:=jN (λy=>y.1) l id;rw[h,ab];by_cases q:cU (λy=>y.1) l id<l.length
 .rw[aN q];refine ob (g _ rfl) rfl
 .rw[aK q];have e:(@len uV l)=((cU (λy=>y.1) l id:Nat):Int):=ep;rw[e];refine ob (g _ rfl) rfl
def Fc(s:aL)(id:Tx) n (g:s.2.2.2.2.1.length<=50000):qH (s,id,n,())=aa (NY s id n,()):=by
 obtain⟨D,E,F,G,a,u⟩:=s;dsimp only at g;have go:∀l:List uV,l.length<=100000->(∀x∈l,x.1≠id)->∀{f},
   (∀c i,f ((c,i,()),id,())=ao (ba i<|len l) (ae (idx l i) λy=>ao (nt<|oor (dK y.1 id)<|bA y.1 id) (aa<|.inr (1,(i,i,()),id,())) (aa<|.inl ((c,aC .i64 i 1,()),id,()))) (aa<|.inr (0,(c,i,()),id,()))) ->
   ao (ba 0 n) (ae (Loop f ((0,0,()),id,())) λd=>ao (cF d.1 0) (ae (bO (l,(((@len uV l,()),()).1).1,(d.2.2.1,n,()),())) λk=>aa ((k.1,()),d.2.2.1,()))
    (ae (bO (l,((ao (ba d.2.1.1 0) ((@len uV l,()),()) ((d.2.1.1,()),())).1).1,(d.2.2.1,n,()),())) λk=>aa ((k.1,()),d.2.2.1,()))) (aa ((l,()),id,())) =
    aa (((if 0<n then lR (·.1) l (id,n,()) else l),()),id,()):=by
  intro l g b f H;by_cases q:0<n
  .rw[aT q,aN q];exact arD l id n g b H
  .rw[aF ai,ag,aK q]
 unfold qH NY;dsimp only;rw[ej ai];rcases eR (f:=pZ ((D,E,F,G,a,u),_)) a (λj=>((0,j,()),id,())) (λ_ y=>decide (y.1=id)) (λi _=>(1,(i,i,()),id,())) _ ai (λi y m o p=>by
  unfold pZ;dsimp only;rw[aq o,aj,aO ai ep,aj,au m,ab,cI,di,p];by_cases q:y.1=id<;>simp[q]) (by unfold pZ;rw[aw,ag]) with ⟨i,y,m,M,A,h⟩|⟨N,h⟩
 rotate_left
 .have b:∀x∈a,x.1≠id:=λx e=>by
   obtain⟨i,o⟩:=bp.1 e
   grind
  rw[E7 _ b];refine ob h ?_;exact ob (go a ai b λc i=>rfl) rfl
 have o:=aA m;refine ob h ?_;have r:a.take i=(a.take<|i+1).filter (λx=>!decide (x.1=id)):=by
  rw[yn];have B:(a.take i).filter (λx=>!decide (x.1=id))=a.take i:=Hp.2 λz t=>by
   obtain⟨j,I⟩:=bp.1 t
   grind
  grind
 obtain⟨w,L,B,O,P,Q⟩:=JW (f:=p4) a _ (λw j L=>((w,j,_),id,L,())) (λw L=>((w,L.length,_),id,L,())) ai (λw j L x e v R A p J=>by
  unfold p4;dsimp only;obtain⟨z,t⟩:∃z,L[w]?=aa z:=⟨_,gQ ai⟩;rw[aq A,aO ai ep,aj,au v,ab,cI,J];cases decide (x.1=id) with
  | true=>rfl
  | false =>
    rw[ aO ai ep,au t,p];rfl) (λw L=>by
  unfold p4;rw[aw];rfl) a.length i _ a ai ai ai rfl r rfl
 rw[aJ ai];refine ob B ?_;dsimp only;have C:L.take w=sR (λx=>x.1) a id:=by
  unfold sR
  grind
 have K:(sR (λx=>x.1) a id).length<=a.length:=(mC _ a id).length_le;rw[aV ai ep<|sK _,JX L w ai,aV (sK _) ai ai,ET L w ai,C];exact ob (go (sR (λx=>x.1) a id) ai (λx e=>((F4 _).1 e).2)
  (λc i=>by
   unfold Bu;rw[ET L w ai,C])) rfl
abbrev ff:=Int×Int×Tx×Tx×List Tx×Tx×Tx×Int×al
def ag0 l v (j:l.length<=1000000):∃i,iw (l,v,())=aa (i,())/\cm 0 i=decide (v∈l):=by
 unfold iw;rcases eR (f:=fU (l,v,())) l (λi=>((0,i,()),())) (λ_ x=>decide (v=x)) (λi x=>(1,(i,i,()),())) _ ai (λi x a b c=>by unfold fU;rw[aq b,aj,au a,ab,di,c];by_cases h:v=x<;>simp[aR,h]) (by unfold fU;rw[aw,ag]) with ⟨i,x,a,d,k,h⟩|⟨e,h⟩
 {refine⟨i,by rw[h];rfl,?_⟩;rw[bL ai,cT];rw[gb d];exact kG a};refine⟨-1,by rw[h];rfl,?_⟩;rw[cN ai,cj];intro g;obtain⟨i,b⟩:=bp.1 g;have:=e i v b;simp at this
def C3 l v (a:l.length<=1000000):dB (l,v,())=aa (decide<|v∈l,()):=by obtain⟨i,b,c⟩:=ag0 l v a;unfold dB;rw[b,ab,c]
def TP(a:Int)(l:List Int):List Int:=if a∈l then [a] else []
def kB(c:ff):List Int :=if c.1=2\/c.1=11\/c.1=12 then [1,2,3] else if c.1=7 then [2,3] else if c.1=8 then [1,2] else if c.1=1\/c.1=3\/c.1=4\/c.1=5\/c.1=6 then [3] else if c.1=9\/c.1=10 then TP c.2.1 [1,2] else if c.1=13\/c.1=14\/c.1=15 then TP c.2.1 [1,2,3] else []
def amg a b:((ao a ((a,()),()) ((b,()),())).1).1=(a||b):=by cases a<;>rfl
def aaH(c:ff) l (a:l.length<=1000000):yH (c,l,())=aa (TP c.2.1 l,()):=by
 unfold yH TP;rw[C3 l _ a];by_cases h:c.2.1∈l
 {rw[aN h,cT h];rfl};rw[aK h,cj h];rfl
def Vy(c:ff):kz (c,())=aa (kB c,()):=by unfold kz kB;simp only[amg];rw[aaH c [1,2] aW,aaH c [1,2,3] aW];simp only[di,aR,Iw,zn];repeat' (first|rfl|split)
def RL c:(kB c).length<=3:=by unfold kB TP;repeat' (first|(simp;done)|split)
def aaI(c:ff):Bool:=decide (c.1=2\/c.1=5\/c.1=6\/c.1=12)
def fI(s:aL)(a:Tx)(h:zl s):eW (s,a,())=aa (aS (fH s) a):=by unfold eW kx;dsimp only;rw[yN 3 _ h.aas,ab,ab];exact ob (pc (fH s) a (F5 h) (by have:=O2 h;omega)) rfl
def apJ(c:ff):Option Tx :=if c.1=1 then(if c.2.2.2.1=[]\/c.2.2.2.2.2.1=[] then af else aa c.2.2.2.1) else if c.1=3\/c.1=4 then aa c.2.2.1 else af
def amh(s:aL)(k:Int)(a:Tx):List Tx :=if(aS (fH s) a).2.1=0 then(if k=3 then [(aS (fH s) a).1] else(bB s.2.2.1 (aS (fH s) a).1).1.map (·.1)) else []
def aod(s:aL)(c:ff):List Tx:=match apJ c with|some ref=>amh s c.1 ref|none=>[]
set_option maxRecDepth 100000
def ami(a:List bD)(b:List Tx)(g:Nat->bD->Option Tx):List Tx:=(a.zip b).mapIdx λi p=>(g i p.1).getD p.2
def aj5{ls a g}(h:a.length=ls.length):(ami ls a g).length=ls.length:=by unfold ami;rw[List.length_mapIdx,ahT];omega
def MO(c:ff)(k:Int):Bool:=decide (k∈kB c)
def BW{a:Type}(b:Bool)(x y:a):a:=bif b then x else y
def apK(s:aL)(a:List Tx)(i:Nat)(x:bD):Option Tx:=if i<s.2.2.2.1.length/\x.1∈a then s.2.2.2.1[i]? else af
def aj6(s:aL)(c:ff):List Tx:=ami s.2.2.1 (List.replicate s.2.2.1.length []) (apK s<|aod s c)
def aaJ(s:aL)(c:ff):aL:=(BW (MO c 1) s.1 [],BW (MO c 2) s.2.1 [],BW (MO c 3) s.2.2.1 [],BW (MO c 3) (aj6 s c) [],BW (aaI c) s.2.2.2.2.1 [],())
structure aoe (s:aL):Prop where
 hd:zl s
 dl:s.2.2.2.1.length<=1000000
 ml:s.2.2.2.2.1.length<=1000000
end Go.Ge
namespace Go.Ge
variable [Lp]
set_option maxRecDepth 100000
def jnG(s:aL)(i:Nat)(x:bD):Option Tx:=if(sd s x.1).2.2.1=true then aa (sd s x.1).2.1 else af
def arE(s p:aL):List Tx:=ami p.2.2.1 (x6 p.2.2.1.length p.2.2.2.1) (jnG s)
def jnF(s:aL)(c:ff)(p:aL):aL:=(BW (MO c 1) p.1 s.1,BW (MO c 2) p.2.1 s.2.1,BW (MO c 3) p.2.2.1 s.2.2.1,BW (MO c 3) (arE s p) s.2.2.2.1,BW (aaI c) p.2.2.2.2.1 s.2.2.2.2.1,())
end Go.Ge
namespace Go.Ge
variable [Lp]
instance (s:Tx):Decidable (mA s):=by unfold mA;infer_instance
def adq(s:Tx):gX (s,())=aa ((if mA s then 0 else 10),()):=by obtain⟨a,b⟩:=OY s;rw[agF a b];rfl
def zr(s:aL)(p:Tx):List Nd×Int:=if p=[] then([],0) else dZ s.2.2.1 s.2.2.2.1 p
def BX{s p}(h:(zr s p).2=0):Valid (zr s p).1:=by
 unfold zr at h⊢;by_cases q:p=[]
 {rw[aN q];exact Vt};rw[aK q] at h⊢;exact Ia h
def AQ(d:Tx):Tx:=if d=[] then uW 1024 else d
def NZ(id a:Tx)(b:List Tx)(d:Tx):bD:=(id,a,b,ql<|AQ d,((AQ d).length:Int),0,true,())
def crS(s:aL)(b:Tx)(a:List Tx)(c:Tx)(d:Int):aL×lS×al :=if dA a≠0 then(s,gl<|dA a,()) else if c≠[]/\¬mA c then(s,gl 10,()) else if b≠[]/\(aS (fH s) b).2.1≠0 then(s,gl (aS (fH s) b).2.1,()) else if ju (fH s) [] a≠0 then(s,gl<|ju (fH s) [] a,()) else if(cO (fH s) d).2.1≠0 then(s,gl (cO (fH s) d).2.1,()) else if dR s b≠[]/\(bB s.2.2.1<|dR s b).2=0/\16<=(bB s.2.2.1<|dR s b).1.length then(s,gl 5,()) else if c≠[]/\(zr s<|dR s b).2≠0 then(s,gl (zr s<|dR s b).2,()) else if c≠[]/\(hY (zr s<|dR s b).1 c).2≠0 then(s,gl (hY (zr s<|dR s b).1 c).2,()) else (J2 s (NZ (cO (fH s) d).1 (dR s b) a c)<|AQ c,BS (cO (fH s) d).1,())
def DC s (on:Tx) (given:List Tx) (a:Tx) d (h:zl s) (z:given.length<=4294967296) (o:a.length<=100000)
  (A:∀p,pX (s,p,())=aa ((dZ s.2.2.1 s.2.2.2.1 p).1,(dZ s.2.2.1 s.2.2.2.1 p).2,())) : jI (s,on,given,a,d,())=aa (crS s on given a d):=by
 have B:=h.ll;have r:aR 0 0=true:=rfl;have es:bA ([]) ([])=true:=rfl;unfold jI;rw[wi given z,ab];unfold crS;by_cases c1:dA given=0
 rotate_left
 .rw[aN c1];simp only[aE,aj,ab,ax c1];rfl
 rw[aK<|λq=>q c1,ay c1,cI a []];have t:(ao (decide<|a=[]) (aa (((0:Int),()),a,()))<|ae (gX (a,())) λu=>aa ((u.1,()),a,()))=aa (((if a≠[]/\¬mA a then 10 else 0),()),a,()):=by
  by_cases q:a=[]
  .rw[cT q,aj,aK λk=>k.1 q]
  .rw[cj q,ag,adq,ab]
   grind
 rw[show(ao _ (aa _)<|ae (gX _) λu=>aa ((u.1,()),_))=_ from t,ab];by_cases j:a≠[]/\¬mA a
 .rw[aN j,aN j];simp only[aE];rfl
 rw[aK j,aK j];simp only[aM,ag,r,cI on];have v:(ao (nt<|decide<|on=[]) (ae (eN (s,on,())) λe=>aa ((e.2.1,()),e.1,()))<|some (((0:Int),()),([]),())) =
   aa (((if on=[] then 0 else(aS (fH s) on).2.1),()),dR s on,()):=by
  unfold dR;by_cases q:on=[]
  .rw[cT q,aM,ag,aN q,aN q]
  .rw[cj q,aE,aj,jO s on h,ab,aK q,aK q]
 rw[show(ao (nt _) (ae (eN _) λe=>aa ((e.2.1,()),_))<|some ((0,()),_))=_ from v,ab];have c:(on≠[]/\(aS (fH s) on).2.1≠0)↔¬((if on=[] then 0 else(aS (fH s) on).2.1)=0):=by
  by_cases q:on=[]
  .simp
  .simp
 have i:(on≠[]/\(aS (fH s) on).2.1≠0)->(if on=[] then 0 else(aS (fH s) on).2.1)=(aS _ on).2.1:=λq=>aK q.1;by_cases c2:(if on=[] then 0 else(aS (fH s) on).2.1)=0
 rotate_left
 .rw[aN<|c.2 c2];simp only[aE,aj,ab,ax c2];rw[i<|c.2 c2];rfl
 rw[aK<|λq=>c.1 q c2,ay c2];simp only[aM,ag];rw[BT s h,ab,ua _ [] given (F5 h) z,ab];by_cases c3:ju (fH s) [] given=0
 rotate_left
 .rw[aN c3];simp only[aE,aj,ab,ax c3];rfl
 rw[aK<|show ¬_ from λq=>q c3,ay c3];simp only[aM,ag,ab];rw[Lo,ab];by_cases c4:(cO (fH s) d).2.1=0
 rotate_left
 .rw[aN c4];simp only[aE,aj,ab,ax c4];rfl
 rw[aK<|show ¬_ from λq=>q c4,ay c4,adn _ _ ai<|λx C=>(h.ln x C).small,ab,cI _ []];have E:(ao (ao (ao (nt<|decide<|dR s on=[]) (aR (bB s.2.2.1<|dR s on).2 0) false) (cm 16<|len (bB s.2.2.1<|dR s on).1) false) (aa (((5:Int),()),dR s on,s,()))<|some (((0:Int),()),dR s on,s,())) =
   aa (((if dR s on≠[]/\(bB s.2.2.1<|dR s on).2=0/\16<=(bB s.2.2.1<|dR s on).1.length then 5 else 0),()),dR s on,s,()):=by
  have w:cm 16 (len (bB s.2.2.1<|dR s on).1)=decide (16<=(bB s.2.2.1<|dR s on).1.length):=by unfold len;apply fk.2;omega
  rw[w,aeH];by_cases l:dR s on=[]
  .rw[cT l,aM,ag,ag,ag,aK λq=>q.1 l]
  .rw[cj l,aE,aj];by_cases m:(bB s.2.2.1<|dR s on).2=0
   .rw[cT m,aj];by_cases n:16<=(bB s.2.2.1<|dR s on).1.length
    .rw[cT n,aj,aN ⟨l,m,n⟩]
    .rw[cj n,ag,aK λq=>n q.2.2]
   .rw[cj m,ag,ag,aK λq=>m q.2.1]
 rw[show(ao (ao (ao (nt _) _ false) (cm 16 _) false) (aa (((5:Int),()),_))<|some ((0,()),_))=_ from E,ab];by_cases c5:dR s on≠[]/\(bB s.2.2.1<|dR s on).2=0/\16<=(bB s.2.2.1<|dR s on).1.length
 .rw[aN c5,aN c5];rfl
 rw[aK c5,aK c5];simp only[r,aM,ag];have y:ja (s,dR s on,())=aa ((zr s<|dR s on).1,(zr s<|dR s on).2,()):=by
  unfold ja zr;by_cases q:dR s on=[]
  .rw[cc q,aj,aN q]
  .rw[bg q,ag,aK q,A,ab]
 have fin:∀D,D.length<=100000->∀(f:_->Option (aL×lS×al)),
   ae (oI (D,())) (λe=>ae (tI (s,((cO (fH s) d).1,dR s on,@app Tx [] given,e.1,@len UInt8 D,0,true,()),D,())) f) =
    f (J2 s ((cO (fH s) d).1,dR s on,given,ql D,(D.length:Int),(0:Int),true,()) D,()):=by
  intro D F f;refine ob (ajr D ai) ?_;refine ob (aj3 s ((cO _ d).1,dR s on,given,ql D,D.length,_) D ai) rfl
 have b:fits (plus (@len Tx []) _)=true:=aP dW;by_cases g:a=[]
 .subst g;rw[es,aj];simp only[r,aM,ag,ab];rw[es,aj,aj4,ab,ab,b,fin _ (by rw[uX];decide)];rfl
 rw[bg g,ag,y,ab];by_cases c6:(zr s<|dR s on).2=0
 rotate_left
 .rw[aN ⟨g,c6⟩,ax c6,ag];simp only[ax c6,aE,aj,ab];rfl
 rw[aK<|λq=>q.2 c6,ay c6,aj,Vm (BX c6)];by_cases c7:(hY (zr s<|dR s on).1 a).2=0
 rotate_left
 .rw[aN ⟨g,c7⟩];simp only[ax c7,aE,aj,ab];rfl
 rw[aK λq=>q.2 c7];simp only[ay c7,aM,ag,ab];rw[bg g,ag,ab,b,fin a o];unfold NZ AQ;rw[aK g];rfl
def amj{a:Type}(A B:List a) x y:(A++x::B).set A.length y=A++y::B:=by simp
def aj7:∀k (A M B:List bD),M.length<=k->A.length+M.length+B.length<=1000000 ->
  ∃q,Loop fP (((A.length:Int),(A.length:Int)+(M.length:Int)-1,(),()),A++M++B,())=aa (q,A++M.reverse++B,()):=by
 intro k;induction k with
 | zero =>(intro A M B d e;obtain rfl:M=[]:=Am.1 ai;apply Exists.intro;rw[aZ,show fP _=aa _ from by unfold fP;dsimp only;rw[aF ai];rfl]);rfl
 | succ k f =>
   intro A M B d e;by_cases c:M.length<=1;{(have g:M.reverse=M:=by match M,c with|[],_=>rfl|[a],_=>rfl);(rw[g];apply Exists.intro;rw[aZ,show fP _=aa _ from by unfold fP;dsimp only;rw[aF ai];rfl]);rfl}
   (obtain⟨x,N,y,rfl⟩:∃x N y,M=x::(N++[y]):=by cases M with|nil=>simp at c|cons x t =>exact⟨x,t.dropLast,t.getLast (by rintro rfl;simp at c),by rw[amS]⟩);(have h:A.length+((x::(N++[y])).length:Int)-1=((A.length+N.length+1:Nat):Int):=dW;rw[h];obtain⟨q,i⟩:=f (A++[y]) N (x::B) ai dW;refine⟨q,?_⟩;have j:A++x::(N++[y])++B=A++x::(N++y::B):=aW;have l:(A++x::(N++y::B)).length=A.length+N.length+B.length+2:=dW;have m:(A++x::(N++y::B))[A.length]?=aa x:=aW;have n:(A++x::(N++y::B))[A.length+N.length+1]?=aa y:=by rw[ahz ai,show A.length+N.length+1-A.length=N.length+1 by omega,am1];simp);(have o:(A++y::(N++y::B))[A.length+N.length+1]?=aa y:=by rw[ahz ai,show A.length+N.length+1-A.length=N.length+1 by omega];simp);have s2:(A++y::(N++y::B)).set (A.length+N.length+1) x=(A++[y])++N++(x::B):=by rw[ show A.length+N.length+1=(A++y::N).length by simp;omega];simp
   have b:fP ((A.length,((A.length+N.length+1:Nat):Int),(),()),(A++x::(N++y::B),())) =
     aa (.inl ((((A++[y]).length:Int),((A++[y]).length:Int)+N.length-1,(),()),(A++[y])++N++(x::B),())):=by
    unfold fP;dsimp only;rw[aT ai,aO ai ep,aj,au n,ab,aO ai ep,au m,ab,Jz,(amj A _ x y),aO ai (by unfold len;simp;omega),au o,Jz,s2,aJ ai,dc ai ai]
    rw[show _-1=((A++[y]).length:Int)+N.length-1 by simp;omega,show((A.length+1:Nat):Int)=((A++[y]).length:Int) by simp];rfl
   rw[j,aZ,b];show Loop _ _=_;rw[i];simp
def RM(s:aL)(id:Tx)(e:s.2.2.1.length<=100000)(d:∀x∈s.2.2.1,x.2.2.1.length<=4294967296):pX (s,id,())=aa ((dZ s.2.2.1 s.2.2.2.1 id).1,(dZ s.2.2.1 s.2.2.2.1 id).2,()):=by
 unfold dZ;obtain⟨r,t,u,h⟩:=MM s.2.2.1 id ai d 16 id [] rfl;refine ob h ?_;unfold bB;by_cases c:(AO s.2.2.1 16 id []).2=0
 rotate_left
 .rw[aK c,aK c,show cF 0 0=true from rfl,aj,ax c,aE,aj]
 rw[aN c,aN c];have b:(AO s.2.2.1 16 id []).1.length<=16:=(BQ).2;generalize (AO s.2.2.1 16 id []).1=L at b⊢;rw[show cF 1 0=false from rfl,ag];obtain⟨q,g⟩:=aj7 L.length [] L [] (b8 _) dW;rw[show cR i64 _ 1=(([]:List bD).length:Int)+(L.length:Int)-1 from by rw[dc ep ep];unfold len;simp];refine ob (by simpa using g) ?_;have k:=hU (f:=rC (s,id,()) (q,L.reverse,())) L.reverse (λl i=>(((),i,()),l,())) (λx=>[x4 s.2.2.1 s.2.2.2.1 x.1]) _ (by rw[Ut];omega)
  (λi x m n a=>by (unfold rC;dsimp only;have o:((L.reverse.take i).flatMap λx=>[x4 s.2.2.1 s.2.2.2.1 x.1]).length<=16:=by rw[<-List.map_eq_flatMap,qg,cY,Ut];omega);(have hd:(sd s x.1).2.1=x4 s.2.2.1 s.2.2.2.1 x.1:=by unfold sd x4;cases h:DY s.2.2.1 x.1 with|none=>rfl|some j =>obtain⟨z,p,_⟩:=y8 h;dsimp only;rw[p]);rw[aq n,au m];refine(congrArg cf<|ob (Fb s x.1 e d) rfl).trans ?_;rw[hd,aP (by simp only[VL];omega),a];rfl)
  (by unfold rC;rw[aw];rfl)
 refine ob k ?_;rw[show _=L.reverse.map _ from(List.map_eq_flatMap).symm];refine ob (al1 _<|by rw[qg,Ut];omega) ?_;rfl
def Gb{s}(h:zl s):Small (DA s):=FY 1 _ h.agS
def O6{s}(h:zl s):(DA s).length<=40:=gS (lX OP _) h.bl
def DD s (h:zl s):nr (s,())=aa (DA s,()):=by unfold nr;rw[xW 1 _ h.agS];rfl
def RN s (ref:Tx) (h:zl s):xO (s,ref,())=aa (aS (DA s) ref):=by unfold xO;rw[DD s h,ab,mX _ _ (Gb h) (by have:=O6 h;omega),ab]
def TQ(s:aL)(x:r5)(k:s.1.length<=1000000)(v:x.2.1.length<=4294967296)(g:x.2.2.2.2.2.1.length<=4294967296)(c:∀y∈s.1,y.1≠x.1) :
  lW (s,x,())=aa ((lR (·.1) s.1 x,s.2),()):=by
 obtain⟨b,d⟩:=s;obtain⟨a,l,m,n,o,p,u⟩:=x;dsimp only at k v g c;unfold lW;dsimp only;rw[ej ai,aj];rcases x5 (f:=jb ((b,d),_)) b (λy=>decide (y.1=a)) (λq=>(q,a,())) k (λi y h g=>by unfold jb;dsimp only;rw[aq g,aj,aO ai ep,aj,au h,ab,cI,di];by_cases q:y.1=a<;>simp[q]) (by unfold jb;rw[aw,ag]) with ⟨i,y,h,z,_⟩|⟨_,r⟩
 .exact absurd (gb z) (c y<|kG h)
 rw[r,ab,cu,aj,sF _ v,ab,sG _ g,ab];have j:=mB (f:=tK ((b,d),(a,l,m,n,o,p,u),())) _ b a k (λi=>((0,i,()),(a,l,m,n,o,p,u),())) _
  _ (λi y h=>by have g:=aA h;unfold tK;dsimp only;rw[aq g,aO ai ep,au h,ab,aJ ai];cases dK y.1 a<;>rfl) (by unfold tK;rw[aw,ag])
 rw[j,ab];have e:=uZ (·.1) b ((a,l,m,n,o,p,u):r5) k;unfold bY;by_cases w:cU (λy=>y.1) b a<b.length
 .rw[aN w];dsimp only;rw[show cF 1 0=false from rfl,ag,aF ai,ag,show vX b _ [((a,_):r5)]=_ from e,ab]
 .rw[aK w];have t:cU (λy=>y.1) b a=b.length:=by have:=jN (λy=>y.1) b a;omega
  rw[cu,aj,bG,<-t,show vX b _ [((a,_):r5)]=_ from e,ab]
def AR s (id:Tx) (h:zl s) (b:∀x∈s.1,zq x.2.2.2.2.2.1):∃r,sv (s,id,())=aa r/\(∀x∈s.1,kA (·.1) s.1->x.1=id->r=(x,true,())):=by
 have e:=h.bl;unfold sv;rcases x5 (f:=tN (s,_)) s.1 (λy=>decide (y.1=id)) (λq=>(q,id,())) ai (λi y a g=>by unfold tN;rw[aq g,aj,au a,ab,cI,di];by_cases q:y.1=id<;>simp[q]) (by unfold tN;rw[aw,ag]) with ⟨i,y,a,j,c⟩|⟨n,c⟩
 {have d:=kG a;rw[c,ab, au a,ab,sF _ (h.bn y d).small,sG _ (by have:=(b y d).1;omega)];refine⟨(y,_),rfl,λx k l m=>?_⟩;rw[l.inj _ k d<|m.trans (gb j).symm]};rw[c,ab,cu,aj];grind
def zc(s:aL)(id:Tx):Tx:=((s.2.1.find?<|λx=>decide (x.1=id)).map λx:eE=>x.2.2.1).getD []
def ag1{s}(c:kA (·.1) s.2.1){x}(b:x∈s.2.1):zc s x.1=x.2.2.1:=by unfold zc;cases a:s.2.1.find? _ with|none=>have:=Pf.1 a x b;simp at this|some y =>rw[c.inj _ (X0 a) b<|by simpa using Pn a];rfl
def zt(s:aL)(a:Tx):Tx:=if a=[] then [] else(aS (wF s) a).1
def Xs(d:Int):Int:=gT i64 d 16777215
def Fe(d:Int):Int:=gT i64 (jv i64 d 24) 16777215
def crB(s:aL)(a:Tx)(b:List Tx)(c:Tx)(d:Int):aL×lS×al :=if dA b≠0\/64<c.length then(s,gl 1,()) else if a≠[]/\(aS (wF s) a).2.1≠0 then(s,gl (aS (wF s) a).2.1,()) else if ju (DA s) [] b≠0 then(s,gl<|ju (DA s) [] b,()) else if(cO (DA s)<|Xs d).2.1≠0 then(s,gl (cO (DA s)<|Xs d).2.1,()) else if(crG s (if a=[] then [] else zc s (zt s a)) []<|Fe d).2.1.1≠0 then(s,gl (crG s (if a=[] then [] else zc s (zt s a)) []<|Fe d).2.1.1,()) else ((lR (·.1) s.1 ((cO (DA s)<|Xs d).1,b,zt s a,(crG s (if a=[] then [] else zc s (zt s a)) []<|Fe d).2.1.2.1,c,[],()),(crG s (if a=[] then [] else zc s (zt s a)) []<|Fe d).1.2),(0,(cO (DA s)<|Xs d).1,0,(crG s (if a=[] then [] else zc s (zt s a)) []<|Fe d).2.1.2.1,()),())
def Vz s on given d:(crG s on given d).1.1=s.1:=by
 unfold crG;split
 .rfl
 split
 .rfl
 split
 .rfl
 split
 .rfl
 split
 .rfl
 rfl
def Gc{s x}(a:x∈s.1):((x.1,x.2.1,()):Nm)∈DA s:=by unfold DA;rw[Hs];exact⟨x,a,by exact D5.2 rfl⟩
def Gd{s y}(h:y∈DA s):∃x∈s.1,y=(x.1,x.2.1,()):=by unfold DA at h;rw[Hs] at h;obtain⟨x,b,a⟩:=h;unfold ofB at a;grind
def O7(s:aL)(b:Tx)(a:List Tx)(d:Int):crS s b a [] d=crG s b a d:=by
 have c:AQ []=uW 1024:=aN rfl;have e:∀id p,NZ id p a []=aoc id p a:=λid p=>by unfold NZ aoc;rw[c,uX];rfl
 unfold crS crG;rw[c,e,aK (λk=>k.1 rfl:¬(([]:Tx)≠[]/\¬mA [])),aK (λk=>k.1 rfl:¬(([]:Tx)≠[]/\(zr s<|dR s b).2≠0)),aK (λk=>k.1 rfl:¬(([]:Tx)≠[]/\(hY (zr s<|dR s b).1 []).2≠0))]
def N0(s:aL)(a:Tx)(d:Int)(h:zl s):jI (s,a,[],[],d,())=aa (crG s a [] d):=by rw[DC s a [] [] d h aW aW<|λp=>RM s p (by have:=h.ll;omega) λx b=>(h.ln x b).small,O7]
def LC s (image:Tx) (given:List Tx) (iF:Tx) d (h:zl s) (c:kA (·.1) s.2.1) (j:given.length<=4294967296) :
  tM (s,image,given,iF,d,())=aa (crB s image given iF d):=by
 have u:=h.bl;unfold tM crB;have k:ba 64 (@len UInt8 iF)=decide (64<iF.length):=by unfold len;apply fk.2;omega
 rw[wi given j,ab,k];by_cases c1:dA given=0
 rotate_left
 .rw[aN<|.inl c1,ax c1];rfl
 by_cases c2:64<iF.length
 .rw[aN<|.inr c2,ay c1,cT c2];rfl
 rw[aK<|by rintro(q|q);exact q c1;exact c2 q,ay c1,cj c2,aM,aE,cI];have l:(ao (nt<|decide<|image=[]) (ae (ni (s,image,())) λp=>aa ((p.2.1,()),(([]:Tx),given,p.1,([]:Tx),iF,([]:List Item),()),()))<|some ((0,()),(([]),given,([]),([]),iF,([]),()),())) =
   aa (((if image=[] then 0 else(aS (wF s) image).2.1),()),(([]),given,zt s image,([]),iF,([]),()),()):=by
  unfold zt;by_cases q:image=[]
  .rw[cT q,aM,ag,aN q,aN q]
  .rw[cj q,aE,aj,DB s image h,ab,aK q,aK q]
 rw[show _=_ from l,ab];have b:(image≠[]/\(aS (wF s) image).2.1≠0)↔¬((if image=[] then 0 else(aS (wF s) image).2.1)=0):=by
  by_cases q:image=[]
  .simp
  .simp
 by_cases c3:(if image=[] then 0 else(aS (wF s) image).2.1)=0
 rotate_left
 .rw[aN<|b.2 c3];simp only[ ag,ab,ax c3];rw[(λq=>aK q.1)<|b.2 c3];rfl
 rw[aK<|λq=>b.1 q c3,ay c3];simp only[aj];rw[DD s h,ab,ua _ [] given (Gb h) j,ab,ab];by_cases c4:ju (DA s) [] given=0
 rotate_left
 .rw[aN c4];simp only[ ag,ab,ax c4];rfl
 rw[aK<|λq=>q c4,ay c4];simp only[aj,ab];rw[show gT i64 d 16777215=Xs d from rfl,Lo,ab,ab];by_cases c5:(cO (DA s)<|Xs d).2.1=0
 rotate_left
 .rw[aN c5,ax c5];rfl
 rw[aK<|λq=>q c5,ay c5];simp only[aM,ag];obtain⟨g,m,n⟩:=za s _ h;rw[m,ab];have e:((((((ao (decide<|image=[]) (((),(([]),([]),([]),([]),([]),()),()):al×eE×al) ((),g.1,())).2).1).2).2).1)=(if image=[] then [] else zc s (zt s image)):=by
  by_cases q:image=[]
  .rw[cT q,aj,aN q]
  .rw[cj q,ag,aK q];rw[aK q] at c3;obtain⟨y,f,i⟩:=nz c3;obtain⟨x,t,rfl⟩:=F8 f;have i:x.1=zt s image:=by unfold zt;rw[aK q];exact i
   rw[n x t c i,<-i,ag1 c t]
 rw[show _=_ from e,show gT i64 _ 16777215=Fe d from rfl,N0 s _ _ h,ab];have a:=Vz s (if image=[] then [] else zc s (zt s image)) [] (Fe d);generalize crG s _ [] _=r at a;by_cases c6:r.2.1.1=0
 rotate_left
 .rw[aN c6,ax c6];rfl
 rw[aK<|λq=>q c6,ay c6,aM,ag];obtain⟨_,_,o⟩:=yU c5;rw[TQ r.1 _ (by rw[a];omega) j aW<|λy f=>by rw[a] at f;exact o _ (Gc f),ab,a]
def G0(s:aL)(x:r5)(m:s.1.length<=1000000)(n:x.2.1.length<=4294967296)(g:x.2.2.2.2.2.1.length<=4294967296)(o:kA (·.1) s.1)(c:∃y∈s.1,y.1=x.1) :
  lW (s,x,())=aa ((lR (·.1) (sR (·.1) s.1 x.1) x,s.2),()):=by
 obtain⟨b,h⟩:=s;obtain⟨a,p,r,t,v,w,u⟩:=x;dsimp only at m n g c o;unfold lW;dsimp only;rw[ej ai,aj];rcases x5 (f:=jb ((b,h),_)) b (λy=>decide (y.1=a)) (λq=>(q,a,())) m (λi y d g=>by unfold jb;dsimp only;rw[aq g,aj,aO ai ep,aj,au d,ab,cI,di];by_cases q:y.1=a<;>simp[q]) (by unfold jb;rw[aw,ag]) with ⟨i,y,d,B,C⟩|⟨k,_⟩
 rotate_left
 .obtain⟨y,d,D⟩:=c;have:=k y d;simp[D] at this
 rw[C,ab];dsimp only;rw[show cF 1 0=false from rfl,ag,bL ai,aj];unfold cE;rw[O3 _ b a o i y d (gb B) ai,ab,ab,sF _ n,ab,sG _ g,ab];have E:=(mC (λz=>z.1) b a).length_le;have j:=mB (f:=tL (((),()),sR _ b a,())) _ (sR (λz=>z.1) b a) a ai (λi=>((0,i,()),(a,p,r,t,v,w,u),())) _ _ (λi y d=>by have g:=aA d;unfold tL;dsimp only;rw[aq g,aO ai ep,au d,ab,aJ ai];cases dK y.1 a<;>rfl) (by unfold tL;rw[aw,ag])
 rw[j,ab];have e:=uZ (·.1) (sR (λz=>z.1) b a) ((a,p,r,t,v,w,u):r5) ai;unfold bY;by_cases A:cU (λy=>y.1) (sR (λz:r5=>z.1) b a) a<(sR (λz=>z.1) b a).length
 .rw[aN A];dsimp only;rw[show cF 1 0=false from rfl,ag,aF ai,ag,show vX _ _ [((a,_):r5)]=_ from e,ab]
 .rw[aK A];have l:cU (λy=>y.1) (sR (λz=>z.1) b a) a=(sR (λz=>z.1) b a).length:=by have:=jN (λy=>y.1) (sR (λz=>z.1) b a) a;omega
  rw[cu,aj,bG,<-l,show vX _ _ [((a,_):r5)]=_ from e,ab]
def Ff(s:aL)(x:eE)(D:s.2.1.length<=1000000)(w:x.2.1.length<=4294967296)(d:x.2.2.2.2.1.length<=4294967296)(A:kA (·.1) s.2.1)(e:∃y∈s.2.1,y.1=x.1) :
  ij (s,x,())=aa ((s.1,(lR (·.1) (sR (·.1) s.2.1 x.1) x,s.2.2)),()):=by
 obtain⟨B,b,g⟩:=s;obtain⟨a,m,n,o,p,u⟩:=x;dsimp only at D w d e A;unfold ij;dsimp only;rw[sF _ w,ab,sG _ d,ab];unfold dO;rw[ab,ej ai,aj];have k:∃(i:Nat) (y:eE),b[i]?=aa y/\y.1=a/\Loop (eV ((B,b,g),(a,m,n,o,p,u),())) ((0,0,()),(),a,())=aa (1,((i:Int),(i:Int),()),(),a,()):=by
  rcases eR (f:=eV ((B,b,g),_)) b (λi=>((0,i,()),(),a,())) (λ_ y=>decide (y.1=a)) (λi _=>(1,(i,i,()),(),a,())) _ ai (λi y c d E=>by unfold eV dO;rw[aq d,aj,au c,ab,ab,cI,di,E];by_cases q:y.1=a<;>simp[q]) (by unfold eV;rw[aw];rfl) with ⟨i,y,c,F,_,h⟩|⟨r,_⟩
  {exact⟨i,y,c,gb F,h⟩};obtain⟨y,c,t⟩:=e;obtain⟨i,d⟩:=bp.1 c;have:=r i y d;simp[t] at this
 obtain⟨i,y,c,t,G⟩:=k;rw[G,ab];dsimp only;rw[show cF 1 0=false from rfl,ag,bL ai,aj];unfold bq;rw[O3 _ b a A i y c t ai,ab,ab];have H:=(mC (λz=>z.1) b a).length_le;have l:=mB (f:=ru (((),()),sR _ b a,())) _ (sR (λz=>z.1) b a) a ai (λi=>((0,i,()),(),(a,m,n,o,p,u),())) _ _ (λi y c=>by have d:=aA c;unfold ru dO;dsimp only;rw[aq d,aO ai ep,au c,ab,ab,ab,aJ ai];cases dK y.1 a<;>rfl) (by unfold ru;rw[aw,ag])
 rw[l,ab];have j:=uZ (·.1) (sR (λz=>z.1) b a) ((a,m,n,o,p,u):eE) ai;unfold bI;by_cases C:cU (λy=>y.1) (sR (λz:eE=>z.1) b a) a<(sR (λz=>z.1) b a).length
 .rw[aN C];dsimp only;rw[show cF 1 0=false from rfl,ag,aF ai,ag,show vX _ _ [((a,_):eE)]=_ from j,ab]
 .rw[aK C];have v:cU (λy=>y.1) (sR (λz=>z.1) b a) a=(sR (λz=>z.1) b a).length:=by have:=jN (λy=>y.1) (sR (λz=>z.1) b a) a;omega
  rw[cu,aj,aT aI,aj,bG,<-v,show vX _ _ [((a,_):eE)]=_ from j,ab]
end Go.Ge
