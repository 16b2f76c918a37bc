import Derived.Test.YtcebnmppipejfaaGreatDoorPlH
set_option linter.unusedSectionVars false
set_option linter.unusedVariables false
set_option linter.unusedSimpArgs false
set_option linter.defProp false
noncomputable section
open Option renaming some->ab,none->ah
namespace Go.Ge
variable [Lp]
def Jx(k:Int):ay:=if 1<=k/\k<=3 then(if k=1 then [43] else if k=2 then [126] else [45]) else [63]
def xF(c:Dl):ay:=Jx c.1++[32]++uP c.2.1++[10]
def Rg(k:Int):(Jx k).length=1:=by
 unfold Jx
 grind
def Rh(c:Dl):(xF c).length=2*c.2.1.length+3:=by
 unfold xF;simp only[jB,Rg,lU,jC,nQ];omega
def aaG{a b:Type}(g:a->List b)(k:Nat):∀l:List a,(∀x∈l,(g x).length<=k)->(l.flatMap g).length<=l.length*k:=by
 intro l;induction l with
 | nil=>simp
 | cons x r c =>
   intro h;have e:=h x bb;have f:=c λy d=>h y (by simp[d]);simp only[Zv,jB,jC,iV];omega
def afM{k:Int}(a:1<=k)(b:k<=3):idx ([[],[43],[126],[45]]:List ay) k=ab (Jx k):=by
 have:k=1\/k=2\/k=3:=ai;rcases this with rfl|rfl|rfl<;>rfl
def acP(l:List Dl)(q:l.length<=4096)(j:∀c∈l,c.2.1.length<=4096):vY (l,())=ab (l.flatMap xF,()):=by
 unfold vY;have key:=rT (f:=mM (l,())) l (λ(out:List Int) i=>((i,()),((),(),()),out,())) (λc=>aC (xF c)) (((l.length:Int),()),((),(),()),l.flatMap<|λc=>aC (xF c),()) ai (λi x k n a=>by
  have b:((l.take i).flatMap λc=>aC (xF c)).length<=(l.take i).length*8200:=aaG _ _ _ λc o=>by
   have:=j c (JI o);rw[S0,Rh];omega
  rw[kC] at b;have p:=j x (eQ k);have h:=Rh x;have fin:∀s:ay,s=Jx x.1->(ao (fits<|plus (len s)<|len ([32]:ay)) (ag (l9 (x.2.1,())) λ(d:ay×al)=>ao (fits<|plus (@len UInt8<|@app UInt8 s ([(32:UInt8)]:ay))<|@len UInt8 d.1)
   (ao (fits<|plus (@len UInt8<|@app UInt8 (@app UInt8 s ([(32:UInt8)]:ay)) d.1)<|@len UInt8 ([(10:UInt8)]:ay))
   (ao (fits<|plus (@len Int<|(l.take i).flatMap λc=>aC (xF c))<|@len Int<|aC<|@app UInt8 (@app UInt8 (@app UInt8 s ([(32:UInt8)]:ay)) d.1) ([(10:UInt8)]:ay))
   (ab (Sum.inl (((((i+1:Nat):Int)),()),((),(),()),@app Int ((l.take i).flatMap λc=>aC (xF c))<|aC<|@app UInt8 (@app UInt8 (@app UInt8 s ([(32:UInt8)]:ay)) d.1) ([(10:UInt8)]:ay),()):(((Int×al)×(al×al×al)×(List<|Int)×al))⊕((Nat×(Int×al)×(al×al×al)×(List<|Int)×al))))
   ah) ah) ah) ah)=ab (Sum.inl ((((i+1:Nat):Int),()),((),(),()),(l.take i).flatMap (λc=>aC (xF c))++aC (xF x),())):=λs e=>by
   subst e;have g:=Rg x.1;rw[bo jA,ae,SA _ ai,aa];rw[bo<|by rw[vf,jB,lU];simp;omega,ae,bo (by rw[vf,vf,jB,jB,lU];simp;omega),ae];rw[show app (app (app (Jx x.1) [32])<|uP x.2.1) [10]=xF x from rfl,bo (by rw[S0,h];omega),ae];rfl
  unfold mM;rw[aq n,ae,au k,aa,a];by_cases g:1<=x.1
  .by_cases m:x.1<=3
   .rw[bO g,bO m,ae,ae,aM ai ai,ae,afM g m,aa,aa];rw[fin _ rfl];rfl
   .rw[bO g,ea ai,ae,af,aa];rw[fin _<|by unfold Jx;rw[aR ai]];rfl
  .rw[ea ai,af,af,aa];rw[fin _<|by unfold Jx;rw[aR ai]];rfl) (by
  unfold mM;rw[aw,af];rfl)
 rw[show Loop (mM (l,())) (((0:Int),()),((),(),()),([]:List Int),())=_ from key,aa];have:l.flatMap (λc=>aC (xF c))=aC (l.flatMap xF):=by
  unfold aC;rw[List.map_flatMap]
 rw[this,mI]
def afN:∀(a b:List Nd),∀c∈Hh a b,(∃x∈a,c.2.1=x.1)\/∃x∈b,c.2.1=x.1:=by
 intro a b;induction a,b using Hh.induct<;>grind [Hh]
def acQ{a b:List Nd}(f:Valid a)(g:Valid b):(Hh a b).length<=4096/\∀c∈Hh a b,c.2.1.length<=4096:=by
 have i:=f.few;have j:=g.few;refine⟨by have:=ahS _ a b (cp _);omega,λc h=>?_⟩;rcases afN a b c h with ⟨n,d,e⟩|⟨n,d,e⟩
 .rw[e];have:=((gJ f).2 n d).1;omega
 .rw[e];have:=((gJ g).2 n d).1;omega
def Iw{s:az}(h:W24 s)(p:Tx):jl (s,p,())=ab ((Fk s p).1,(Fk s p).2,()):=by
 unfold jl Fk;by_cases q:p=[]
 .rw[di q,ae,aX q]
 .rw[bw q,af,aR q];exact ob (h.tree p) rfl
def chA(s:az)(a:Tx):tp :=
 if(aW (eN s) a).2.1≠0 then iS (aW (eN s) a).2.1 else
 if(eg s.2.2.1 s.2.2.2.1 (aW (eN s) a).1).2≠0 then iS (eg s.2.2.1 s.2.2.2.1 (aW (eN s) a).1).2 else
 if(Fk s (lN s (aW (eN s) a).1).1.2.1).2≠0 then iS (Fk s (lN s (aW (eN s) a).1).1.2.1).2 else
 (0,(aW (eN s) a).1,0,(Hh (Fk s (lN s (aW (eN s) a).1).1.2.1).1 (eg s.2.2.1 s.2.2.2.1 (aW (eN s) a).1).1).flatMap xF,())
def Fa{s:az}(h:W24 s)(a:Tx):pD (s,a,())=ab (chA s a,()):=by
 unfold pD chA;refine ob (fW s a h.hd) ?_;by_cases c:(aW (eN s) a).2.1=0
 rotate_left
 .rw[ax c,aA,ae,aX c];rfl
 rw[aE c,aG,af,aR λq=>q c];refine ob (yo s _ (by have:=h.hd.ll;omega) λx g=>(h.hd.ln x g).small) ?_;refine ob (h.tree _) ?_;by_cases c2:(eg s.2.2.1 s.2.2.2.1 (aW (eN s) a).1).2=0
 rotate_left
 .rw[ax c2,aA,ae,aX c2];rfl
 rw[aE c2,aG,af,aR λq=>q c2];refine ob (Iw h _) ?_;by_cases c3:(Fk s (lN s (aW (eN s) a).1).1.2.1).2=0
 rotate_left
 .rw[ax c3,aA,ae,aX c3];rfl
 rw[aE c3,aG,af,aR λq=>q c3];have b:=Rf c3;have d:=NM c2;have f:=acQ b d;have e:=Wq _ _ (gJ b) (gJ d);unfold afL at e;rw[aX ⟨b,d⟩] at e;refine ob e ?_;exact ob (acP _ f.1 f.2) rfl
def Fb(k:Nat):∀(l:List Tx),(∀x∈l,x.length<=k)->(Lib.join l [32]).length<=l.length*(k+1)
 | [],_=>qK _
 | [a],h=>by have:=h a bb;simp[Lib.join];omega
 | a::b::r,h=>by
   have f:=h a bb;have c:=Fb k (b::r) λx d=>h x (by simp[d]);have e:Lib.join (a::b::r) [32]=a++[32]++Lib.join (b::r) [32]:=by simp[Lib.join]
   rw[e];simp only[jB,jC,nQ,iV] at c⊢;omega
def ajp(l:List Tx)(a:l.length<=1000)(k:Nat)(b:k<=1000000)(h:∀x∈l,x.length<=k):lf (l,[32],())=ab (Lib.join l [32],()):=by
 have:=Fb k l h;have c:l.length*(k+1)<=1000*1000001:=adz a ai;show(EK l [32]).map (λy=>(y,()))=_
 unfold EK
 grind
def akV(l:List Nm):Tx:=bu (l.flatMap λx=>aC (Lib.join (x.1::x.2.1) [32]++[10]))
def Km(l:List Nm)(p:l.length<=40)(j:∀x∈l,x.1.length<=1000/\sa x.2.1):yT (l,())=ab (akV l,()):=by
 have a:∀x∈l,(Lib.join (x.1::x.2.1) [32]).length<=9009:=λx b=>by
  have h:=j x b;have:=Fb 1000 (x.1::x.2.1) (λy hy=>by
   rcases lW.1 hy with rfl|hy
   .grind
   .have:=h.2.2 y hy;omega)
  have m:=h.2.1
  grind
 have key:=rT (f:=pE (l,())) l (λ(out:List Int) i=>((i,()),((),(),()),out,())) (λx=>aC (Lib.join (x.1::x.2.1) [32]++[10])) (((l.length:Int),()),((),(),()),l.flatMap<|λx=>aC (Lib.join (x.1::x.2.1) [32]++[10]),()) ai (λi x b g d=>by
  have e:((l.take i).flatMap λx=>aC (Lib.join (x.1::x.2.1) [32]++[10])).length<=(l.take i).length*9010:=aaG _ _ _ λc n=>by
   have:=a c (JI n);rw[S0,jB];simp only[Fo];omega
  rw[kC] at e;have k:=j x (eQ b);have o:=a x (eQ b);have m:=k.2.1;unfold pE;rw[aq g,ae,au b,aa,d,bo (by simp only[Fo];omega),ae,show @app Tx [x.1] x.2.1=x.1::x.2.1 from rfl,
   show lf (x.1::x.2.1,(([32]:ay),()))=_ from ajp _ jA 1000 ai (λy hy=>by
    rcases lW.1 hy with rfl|hy
    .grind
    .have:=k.2.2 y hy;omega),aa]
  rw[bo<|by simp only[Fo];omega,ae,show app (Lib.join (x.1::x.2.1) [32]) [10]=Lib.join (x.1::x.2.1) [32]++[10] from rfl,bo (by rw[S0,jB];simp only[Fo];omega),ae];rfl) (by
  unfold pE;rw[aw,af];rfl)
 exact ob key rfl
def TM{a:Type}(b:a->Tx)(l:List a)(d:a)(id:Tx):a:=(l.find? λx=>decide (b x=id)).getD d
def AG{b:Type}{a:b->Tx}{l:List b}{d:b}(f:vm a l){x:b}(e:x∈l):TM a l d (a x)=x:=by
 unfold TM;cases c:l.find? (λy=>decide (a y=a x)) with
 | none=>have:=TQ.1 c x e;simp at this
 | some y =>
   have g:=aaQ c;have h:a y=a x:=by simpa using P8 c
   rw[f.inj a g e h];rfl
def AB.akW{s:az}(h:AB s):FewB (0,s.2.2.1,s.2.1,s.1,()):=⟨h.ll,h.ln,h.il,h.pJ,h.bl,h.bn⟩
def u9(s:az)(k:Int):List Nm:=ofV k (0,s.2.2.1,s.2.1,s.1,())
def Ix(s:az)(k:Int):(k=1/\u9 s k=Bh s)\/(k=2/\u9 s k=xK s)\/(k=3/\u9 s k=eN s)\/u9 s k=[]:=by
 unfold u9 ofV Bh xK eN;by_cases a:k=1
 .exact .inl ⟨a,by rw[aX a]⟩
 by_cases b:k=2
 .exact .inr (.inl ⟨b,by rw[aR a,aX b]⟩)
 by_cases c:k=3
 .exact .inr (.inr<|.inl ⟨c,by rw[aR a,aR b,aX c]⟩)
 .exact .inr (.inr<|.inr<|by rw[aR a,aR b,aR c])
def Tj{s:az}(h:AB s)(k:Int):(u9 s k).length<=40:=by
 rcases Ix s k with ⟨_,e⟩|⟨_,e⟩|⟨_,e⟩|e<;>rw[e]
 .exact aaE h
 .exact iU (lT KO _) h.il
 .exact aau h
 .exact qK _
def Ri{s:az}(h:AB s)(k:Int):Small (u9 s k):=Db k _ h.akW
def Jy{s:az}(h:AB s)(k:Int):qb (s,k,())=ab (u9 s k,()):=by
 unfold qb;dsimp only;exact ob (vT k _ h.akW) rfl
def NV(l:List It)(p d:Tx):(yO l p d).1.length<=l.length+1:=by
 unfold yO;have h:=ahf l p;split
 .split
  .exact qK _
  .unfold abT;have e:=congrArg List.length (El (p:=λy:It=>ft y.1 p) (l:=rmI l p));simp only[jB,Fo] at e⊢;omega
 .exact qK _
def WV:eP:=([],[],[],[],[],[],())
def im0:bN:=([],[],[],[],[],())
def itF(l:List Item)(c:cf)(id:Tx):Option (List Item)×tp :=
 if c.1=10 then(if(MV l c.2.2.2.2.2.2.1).2≠0 then(ah,iS (MV l c.2.2.2.2.2.2.1).2) else(ah,0,id,0,(MV l c.2.2.2.2.2.2.1).1,()))
 else(if(yO l c.2.2.2.2.2.2.1 c.2.2.2.2.2.1).2≠0 then(ah,iS (yO l c.2.2.2.2.2.2.1 c.2.2.2.2.2.1).2) else(ab (yO l c.2.2.2.2.2.2.1 c.2.2.2.2.2.1).1,xA id))
def akX(a:List eP)(id:Tx):Option (List Item)->List eP
 | none=>a
 | some l=>nx (·.1) (u7 (·.1) a id) (id,((TM (·.1) a WV id).2.1,((TM (·.1) a WV id).2.2.1,((TM (·.1) a WV id).2.2.2.1,((TM (·.1) a WV id).2.2.2.2.1,l,())))))
def afO(a:List bN)(id:Tx):Option (List Item)->List bN
 | none=>a
 | some l=>nx (·.1) (u7 (·.1) a id) (id,((TM (·.1) a im0 id).2.1,((TM (·.1) a im0 id).2.2.1,((TM (·.1) a im0 id).2.2.2.1,l,()))))
def itS(s:az)(c:cf):az×tp×al :=
 if ¬c.2.1∈cG c then(s,iS 1,()) else
 if(aW (u9 s c.2.1) c.2.2.1).2.1≠0 then(s,iS (aW (u9 s c.2.1) c.2.2.1).2.1,()) else
 if c.2.1=1 then((akX s.1 (aW (u9 s c.2.1) c.2.2.1).1 (itF (TM (·.1) s.1 WV (aW (u9 s c.2.1) c.2.2.1).1).2.2.2.2.2.1 c (aW (u9 s c.2.1) c.2.2.1).1).1,s.2),((itF (TM (·.1) s.1 WV (aW (u9 s c.2.1) c.2.2.1).1).2.2.2.2.2.1 c (aW (u9 s c.2.1) c.2.2.1).1).2,()))
 else((s.1,(afO s.2.1 (aW (u9 s c.2.1) c.2.2.1).1 (itF (TM (·.1) s.2.1 im0 (aW (u9 s c.2.1) c.2.2.1).1).2.2.2.2.1 c (aW (u9 s c.2.1) c.2.2.1).1).1,s.2.2)),((itF (TM (·.1) s.2.1 im0 (aW (u9 s c.2.1) c.2.2.1).1).2.2.2.2.1 c (aW (u9 s c.2.1) c.2.2.1).1).2,()))
def NW{c:cf}(a:c.1=9\/c.1=10)(h:c.2.1∈cG c):c.2.1=1\/c.2.1=2:=by
 unfold cG Ps at h;rw[aR ai,aR ai,aR ai,aR ai,aX ai] at h;split at h
 .rename_i q;simpa using q
 .cases h
def afP{s:az}(h:W24 s)(c:cf)(p:c.1=9\/c.1=10)(o:c.2.2.2.2.2.1.length<=1048576):wo (s,c,())=ab (itS s c):=by
 have r:=h.hd.bl;have t:=h.hd.il;unfold wo itS;refine ob (Is c) (ob (wv (cG c) c.2.1 (by have:=NP c;omega)) ?_);dsimp only;by_cases m:c.2.1∈cG c
 rotate_left
 .rw[cL m,aA,ae,aX m];rfl
 rw[dD m,aG,af,aR λq=>q m];refine ob (Jy h.hd _) (ob (mJ (u9 s c.2.1) c.2.2.1 (Ri h.hd _) (by have:=Tj h.hd c.2.1;omega)) ?_);by_cases j:(aW (u9 s c.2.1) c.2.2.1).2.1=0
 rotate_left
 .rw[ax j,aA,ae,aX j];rfl
 rw[aE j,aG,af,aR λq=>q j];obtain⟨y,l,u⟩:=zF j;rw[<-u];rcases NW p m with k|k
 .rw[show u9 s c.2.1=Bh s from by rw[k];rfl] at l;obtain⟨x,b,rfl⟩:=K8 l;dsimp only;rw[aX k,aE k,ae,AG (d:=WV) h.Wc b];obtain⟨g,f,i⟩:=yU s x.1 h.hd h.bits;have v:=(h.bits x b).1;refine ob f ?_;rw[i x b h.Wc rfl];unfold itF;by_cases a:c.1=10
  .rw[aX a,aE a,ae];refine ob (Jo _ _ Bw) ?_;dsimp only;by_cases e:(MV x.2.2.2.2.2.1 c.2.2.2.2.2.2.1).2=0
   .rw[aR<|λq=>q e,aE e,aG,af];rfl
   .rw[aX e,ax e,aA,ae];rfl
  .rw[aR a,ax a,af];refine ob (Jp _ _ _ Bw o) ?_;dsimp only;by_cases e:(yO x.2.2.2.2.2.1 c.2.2.2.2.2.2.1 c.2.2.2.2.2.1).2=0
   .rw[aR<|λq=>q e,aE e,aG,af];have n:=NV x.2.2.2.2.2.1 c.2.2.2.2.2.2.1 c.2.2.2.2.2.1;refine ob (D4 s _ ai (by dsimp only;exact(h.hd.bn x b).small) Bw h.Wc ⟨x,b,rfl⟩) ?_;unfold akX;rw[AG (d:=WV) h.Wc b];rfl
   .rw[aX e,ax e,aA,ae];rfl
 .rw[show u9 s c.2.1=xK s from by rw[k];rfl] at l;obtain⟨x,b,rfl⟩:=K7 l;dsimp only;rw[aR ai,ax ai,af,AG (d:=im0) h.WW b];obtain⟨g,f,i⟩:=xB s x.1 h.hd;have v:=(h.hd.it x b).1;refine ob f ?_;rw[i x b h.WW rfl];unfold itF;by_cases a:c.1=10
  .rw[aX a,aE a,ae];refine ob (Jo _ _ Bw) ?_;dsimp only;by_cases e:(MV x.2.2.2.2.1 c.2.2.2.2.2.2.1).2=0
   .rw[aR<|λq=>q e,aE e,aG,af];rfl
   .rw[aX e,ax e,aA,ae];rfl
  .rw[aR a,ax a,af];refine ob (Jp _ _ _ Bw o) ?_;dsimp only;by_cases e:(yO x.2.2.2.2.1 c.2.2.2.2.2.2.1 c.2.2.2.2.2.1).2=0
   .rw[aR<|λq=>q e,aE e,aG,af];have n:=NV x.2.2.2.2.1 c.2.2.2.2.2.2.1 c.2.2.2.2.2.1;refine ob (CD s _ ai (by dsimp only;exact(h.hd.pJ x b).small) Bw h.WW ⟨x,b,rfl⟩) ?_;unfold afO;rw[AG (d:=im0) h.WW b];rfl
   .rw[aX e,ax e,aA,ae];rfl
def ly0:aD:=([],[],[],[],(0:Int),(0:Int),false,())
def rnB(a:List eP)(id:Tx)(g:List Tx):List eP:=nx (·.1) (u7 (·.1) a id) (id,(g,(TM (·.1) a WV id).2.2))
def rnI(a:List bN)(id:Tx)(g:List Tx):List bN:=nx (·.1) (u7 (·.1) a id) (id,(g,(TM (·.1) a im0 id).2.2))
def rnL(a:List aD)(id:Tx)(g:List Tx):List aD:=a.set ((E5 a id).getD 0) (id,((TM (·.1) a ly0 id).2.1,(g,(TM (·.1) a ly0 id).2.2.2)))
def rnS(s:az)(k:Int)(id:Tx)(g:List Tx):az :=
 if k=1 then(rnB s.1 id g,s.2) else if k=2 then(s.1,rnI s.2.1 id g,s.2.2) else(s.1,s.2.1,rnL s.2.2.1 id g,s.2.2.2)
def rcE(s:az)(c:cf):Int:=if(aW (u9 s c.2.1) c.2.2.1).2.1=0/\c.1=13 then mH (u9 s c.2.1) (aW (u9 s c.2.1) c.2.2.1).1 c.2.2.2.2.1 else(aW (u9 s c.2.1) c.2.2.1).2.1
def rcS(s:az)(c:cf):az×tp×al :=
 if ¬c.2.1∈cG c then(s,iS 1,()) else
 if c.1=15 then(s,(0,[],0,akV<|u9 s c.2.1,()),()) else
 if c.1=13/\jd c.2.2.2.2.1≠0 then(s,iS 1,()) else
 if rcE s c≠0 then(s,iS<|rcE s c,()) else
 if c.1=13 then(rnS s c.2.1 (aW (u9 s c.2.1) c.2.2.1).1 c.2.2.2.2.1,xA (aW (u9 s c.2.1) c.2.2.1).1,()) else(s,xA (aW (u9 s c.2.1) c.2.2.1).1,())
def acR{c:cf}(a:c.1=13\/c.1=14\/c.1=15)(h:c.2.1∈cG c):c.2.1=1\/c.2.1=2\/c.2.1=3:=by
 unfold cG Ps at h;rw[aR ai,aR ai,aR ai,aR ai,aR ai,aX ai] at h;split at h
 .rename_i q;simpa using q
 .cases h
def afR{s:az}(h:W24 s)(k:Int):∀x∈u9 s k,x.1.length<=1000/\sa x.2.1:=λx b=>by
 rcases Ix s k with ⟨_,e⟩|⟨_,e⟩|⟨_,e⟩|e<;>rw[e] at b
 .obtain⟨y,a,rfl⟩:=K8 b;exact⟨h.idB y a,h.hd.bn y a⟩
 .obtain⟨y,a,rfl⟩:=K7 b;exact⟨h.idI y a,h.hd.pJ y a⟩
 .obtain⟨y,a,rfl⟩:=Tc b;exact⟨h.idL y a,h.hd.ln y a⟩
 .cases b
def Rj{s:az}{k:Int}{a:Tx}(h:(aW (u9 s k) a).2.1=0):(k=1/\∃x∈s.1,x.1=(aW (u9 s k) a).1)\/(k=2/\∃x∈s.2.1,x.1=(aW (u9 s k) a).1)\/(k=3/\∃x∈s.2.2.1,x.1=(aW (u9 s k) a).1):=by
 obtain⟨y,b,f⟩:=zF h;rcases Ix s k with ⟨c,e⟩|⟨c,e⟩|⟨c,e⟩|e<;>rw[e] at b
 .obtain⟨x,d,rfl⟩:=K8 b;exact .inl ⟨c,x,d,f⟩
 .obtain⟨x,d,rfl⟩:=K7 b;exact .inr (.inl ⟨c,x,d,f⟩)
 .obtain⟨x,d,rfl⟩:=Tc b;exact .inr (.inr ⟨c,x,d,f⟩)
 .cases b
def acS{s:az}(h:W24 s)(c:cf)(n:c.1=13\/c.1=14\/c.1=15)(o:c.2.2.2.2.1.length<=1000)
  (f:∀id,(c.2.1=1/\∃x∈s.1,x.1=id)\/(c.2.1=2/\∃x∈s.2.1,x.1=id)\/(c.2.1=3/\∃x∈s.2.2.1,x.1=id)->hM (s,c.2.1,id,c.2.2.2.2.1,())=ab (rnS s c.2.1 id c.2.2.2.2.1,())) :
  sx (s,c,())=ab (rcS s c):=by
 unfold sx rcS;refine ob (Jy h.hd _) (ob (Is c)<|ob (wv (cG c) c.2.1 (by have:=NP c;omega)) ?_);dsimp only;by_cases m:c.2.1∈cG c
 rotate_left
 .rw[cL m,aA,ae,aX m];rfl
 rw[dD m,aG,af,aR λq=>q m];by_cases a:c.1=15
 .rw[aX a,aE a,ae];exact ob (Km (u9 s c.2.1) (Tj h.hd _)<|afR h _) rfl
 rw[aR a,ax a,af];have e:=Ri h.hd c.2.1;have p:=Tj h.hd c.2.1;have g:(ao (aS c.1 13) (ag (fD (c.2.2.2.2.1,())) λi=>ab (nt<|aS i.1 0))<|some false)=ab (decide<|c.1=13/\jd c.2.2.2.2.1≠0):=by
  by_cases q:c.1=13
  .rw[aE q,ae,rh _ ai,aa];by_cases b:jd c.2.2.2.2.1=0
   .rw[aE b,cL λz=>z.2 b];rfl
   .rw[ax b,dD ⟨q,b⟩];rfl
  .rw[ax q,af,cL λz=>q z.1]
 refine ob g ?_;by_cases c1:c.1=13/\jd c.2.2.2.2.1≠0
 .rw[dD c1,ae,aX c1];rfl
 rw[cL c1,af,aR c1];refine ob (mJ (u9 s c.2.1) c.2.2.1 e ai) ?_;have j:(ao (ao (aS (aW (u9 s c.2.1) c.2.2.1).2.1 0) (aS c.1 13) false) (ag (gu (u9 s c.2.1,(aW (u9 s c.2.1) c.2.2.1).1,c.2.2.2.2.1,())) λk=>ab ((k.1,()),()))<|some (((aW (u9 s c.2.1) c.2.2.1).2.1,()),()))=ab ((rcE s c,()),()):=by
  unfold rcE;by_cases q:(aW (u9 s c.2.1) c.2.2.1).2.1=0
  .rw[aE q,ae];by_cases b:c.1=13
   .rw[aE b,ae,aX ⟨q,b⟩,oh _ _ _ e ai,aa]
   .rw[ax b,af,aR λz=>b z.2]
  .rw[ax q,af,af,aR λz=>q z.1]
 refine ob j ?_;by_cases c2:rcE s c=0
 rotate_left
 .rw[aX c2];dsimp only;rw[ax c2,aA,ae];rfl
 rw[aR λq=>q c2];dsimp only;rw[aE c2,aG,af];by_cases d:c.1=13
 .rw[aX d,aE d,ae];have l:(aW (u9 s c.2.1) c.2.2.1).2.1=0:=K9 λq=>by
   unfold rcE at c2;rw[aR λz=>q z.1] at c2;exact q c2
  rw[f _<|Rj l];rfl
 .rw[aR d,ax d,af];rfl
def Rk{s:az}(h:W24 s)(k:Int)(g:List Tx)(m:g.length<=1000)(id:Tx)(a:(k=1/\∃x∈s.1,x.1=id)\/(k=2/\∃x∈s.2.1,x.1=id)):hM (s,k,id,g,())=ab (rnS s k id g,()):=by
 have i:=h.hd.bl;have j:=h.hd.il;unfold hM rnS;dsimp only;rcases a with ⟨e,x,a,rfl⟩|⟨f,x,a,rfl⟩
 .rw[aX e,aE e,ae];obtain⟨r,b,c⟩:=yU s x.1 h.hd h.bits;refine ob b ?_;rw[c x a h.Wc rfl];have l:=(h.bits x a).1;refine ob (D4 s _ ai Bw Bw h.Wc ⟨x,a,rfl⟩) ?_;unfold rnB;rw[AG (d:=WV) h.Wc a]
 .rw[aR ai,ax ai,af,aX f,aE f,ae];obtain⟨r,b,c⟩:=xB s x.1 h.hd;refine ob b ?_;rw[c x a h.WW rfl];have l:=(h.hd.it x a).1;refine ob (CD s _ ai Bw Bw h.WW ⟨x,a,rfl⟩) ?_;unfold rnI;rw[AG (d:=im0) h.WW a]
structure Fl (s:az):Prop where
 Tb:vm (·.1) s.2.2.1
 len:s.2.2.2.1.length=s.2.2.1.length
 nm:∀y∈s.2.2.1,((y.1,y.2.2.1,()):Nm)∈eN s
def zH{s:az}(h:Fl s){j:Nat}{y:aD}(a:s.2.2.1[j]?=ab y):lN s y.1=(y,(s.2.2.2.1[j]?).getD [],true,()):=by
 unfold lN;rw[Dn h.Tb a];dsimp only;rw[a]
def acT{s:az}{id:Tx}(h:∀y∈s.2.2.1,y.1≠id):(lN s id).2.2.1=false:=by
 unfold lN;rw[afA h]
def afS{s:az}(h:Fl s){j:Nat}{y x:aD}(a:s.2.2.1[j]?=ab y)(e:y.1=x.1)(i:Nat):Y2 s i x=s.2.2.2.1[j]?:=by
 have c:=aF a;have hd:s.2.2.2.1[j]?=ab (s.2.2.2.1[j]'(by rw[h.len];exact c)):=ik _;have b:=zH h a;unfold Y2;rw[<-e,aX (by rw[b]),b,hd];rfl
def afT{s:az}{x:aD}(h:∀y∈s.2.2.1,y.1≠x.1)(i:Nat):Y2 s i x=none:=by
 unfold Y2;rw[aR<|by rw[acT h];simp]
def NX{s p:az}(c:Fl s){D:List Tx}(k:D.length=p.2.2.1.length)(b:p.2.2.2.1.length=p.2.2.1.length)
  (h:∀(i:Nat) (x:aD),p.2.2.1[i]?=ab x->(∃(j:Nat) (y:aD),s.2.2.1[j]?=ab y/\y.1=x.1/\D[i]?=s.2.2.2.1[j]?)\/((∀y∈s.2.2.1,y.1≠x.1)/\D[i]?=p.2.2.2.1[i]?)):CB s p=D:=by
 unfold CB;rw[AE b];have l:=uY (g:=Y2 s) b;apply Ld;intro i;by_cases hi:i<p.2.2.1.length
 .have hx:p.2.2.1[i]?=ab p.2.2.1[i]:=ik hi;have hd:p.2.2.2.1[i]?=ab (p.2.2.2.1[i]'ai):=ik _;have a:D[i]?=ab (D[i]'ai):=ik _;rw[Tg hx hd];rcases h i _ hx with ⟨j,y,d,e,q⟩|⟨f,q⟩
  .rw[afS c d e,<-q,a];rfl
  .rw[afT f,q,hd];rfl
 .rw[Lb ai,Lb ai]
def Iy{s p:az}(a:Fl s)(c:p.2.2.1.length=s.2.2.1.length)(d:∀(i:Nat) (x y:aD),p.2.2.1[i]?=ab x->s.2.2.1[i]?=ab y->y.1=x.1)(e:p.2.2.2.1.length=p.2.2.1.length):CB s p=s.2.2.2.1 :=
 NX a (by rw[a.len,c]) e λi x b=>by
  have hi:=aF b;have hy:s.2.2.1[i]?=ab (s.2.2.1[i]'ai):=ik _;exact .inl ⟨i,_,hy,d i x _ b hy,rfl⟩
def NY{c:Type}{l:List c}{k:Nat}(x:c)(e:k<=l.length)(i:Nat):(uX l k x)[i]?=if i<k then l[i]? else if i=k then ab x else l[i-1]?:=by
 unfold uX;rw[uw];have d:(l.take k).length=k:=by rw[kC];omega
 by_cases a:i<k
 .rw[aX a,WZ ai,jP,aX a]
 rw[aR a,aaP ai,d];by_cases b:i=k
 .rw[aX b,b,Nat.sub_self];rfl
 .rw[aR b,aaP jA,Fo,sY]
  congr 1;omega
def Dp{a:Type}{l:List a}{k:Nat}{x:a}(b:k<=l.length):(uX l k x).length=l.length+1:=by
 unfold uX;simp only[jB,kC,pP,Fo];omega
def Wr{b:Type}{l:List b}{k:Nat}(d:k<l.length)(i:Nat):(cutAt l k)[i]?=if i<k then l[i]? else l[i+1]?:=by
 unfold cutAt;have c:(l.take k).length=k:=by rw[kC];omega
 by_cases a:i<k
 .rw[aX a,WZ ai,jP,aX a]
 .rw[aR a,aaP ai,c,sY]
  congr 1;omega
def AH{a:Type}{l:List a}{k:Nat}(b:k<l.length):(cutAt l k).length=l.length-1:=by
 unfold cutAt;simp only[jB,kC,pP];omega
def Ws{s p:az}(h:Fl s){x:aD}{d:Tx}{P:List Tx}(k:P.length=s.2.2.1.length)(e:∀y∈s.2.2.1,y.1≠x.1)
  (f:p.2.2.1=nx (λy:aD=>y.1) s.2.2.1 x) (j:p.2.2.2.1=uX P (cK (λy:aD=>y.1) s.2.2.1 x.1) d) :
  CB s p=uX s.2.2.2.1 (cK (λy:aD=>y.1) s.2.2.1 x.1) d:=by
 have g:=pC (λy:aD=>y.1) s.2.2.1 x.1;have hlen:=h.len;refine NX h (by rw[f,Tf,Dp ai,Dp g,hlen]) (by rw[f,j,Tf,Dp ai,Dp g,k]) λi y c=>?_;rw[f,Tf,NY x g] at c;rw[j,NY d ai,NY d ai];by_cases a:i<cK (λy:aD=>y.1) s.2.2.1 x.1
 .rw[aX a] at c;rw[aX a];exact .inl ⟨i,y,c,rfl,rfl⟩
 rw[aR a] at c;rw[aR a,aR a];by_cases b:i=cK (λy:aD=>y.1) s.2.2.1 x.1
 .rw[aX b] at c;rw[aX b,aX b];obtain rfl:=aQ c;exact .inr ⟨e,rfl⟩
 .rw[aR b] at c;rw[aR b];exact .inl ⟨i-1,y,c,rfl,rfl⟩
def afU{s p:az}(e:Fl s){k:Nat}(c:k<s.2.2.1.length){P:List Tx}(f:P.length=s.2.2.1.length)(d:p.2.2.1=cutAt s.2.2.1 k)(g:p.2.2.2.1=cutAt P k):CB s p=cutAt s.2.2.2.1 k:=by
 have hlen:=e.len;refine NX e (by rw[d,AH ai,AH c,hlen]) (by rw[d,g,AH ai,AH c,f]) λi y b=>?_;rw[d,Wr c] at b;rw[Wr ai];by_cases a:i<k
 .rw[aX a] at b⊢;exact .inl ⟨i,y,b,rfl,rfl⟩
 .rw[aR a] at b⊢;exact .inl ⟨i+1,y,b,rfl,rfl⟩
def gp(s:az)(c:cf):(gL s c).length=s.2.2.1.length:=uY P1
def Rl{s:az}(b:Fl s)(c:cf){i:Nat}{x:aD}(a:s.2.2.1[i]?=ab x)(d:x.1∈sy s c):(gL s c)[i]?=s.2.2.2.1[i]?:=by
 have hi:=aF a;have hlen:=b.len;have hd:s.2.2.2.1[i]?=ab (s.2.2.2.1[i]'ai):=ik _;unfold gL;rw[Tg a<|by rw[Zk,aX hi]];unfold vG;rw[aX ⟨ai,d⟩,hd];rfl
def acU{s:az}(a:Fl s)(c:cf){x:aD}(d:x∈s.2.2.1)(e:x.1∈sy s c):sK s.2.2.1 (gL s c) x.1=sK s.2.2.1 s.2.2.2.1 x.1:=by
 obtain⟨i,b⟩:=bz.1 d;unfold sK;rw[Dn a.Tb b];dsimp only;rw[Rl a c b e]
def CE{s:az}(b:Fl s)(c:cf)(id:Tx)(h:(bj s.2.2.1 id).2=0->∀x∈(bj s.2.2.1 id).1,x.1∈sy s c):eg s.2.2.1 (gL s c) id=eg s.2.2.1 s.2.2.2.1 id:=by
 unfold eg;by_cases q:(bj s.2.2.1 id).2=0
 .rw[aX q,aX q]
  congr 1
  apply W0;intro x a;rw[TY] at a;exact acU b c ((pB (ls:=s.2.2.1) (id:=id)).1 x a) (h q x a)
 .rw[aR q,aR q]
def Y7{ls:List aD}(a:vm (·.1) ls){x:aD}(b:x∈ls)(h:(bj ls x.1).2=0)(d:x.2.1≠[]):(bj ls x.2.1).2=0/\∀y∈(bj ls x.2.1).1,y∈(bj ls x.1).1:=by
 unfold bj at h⊢;rw[qc a b,aR d] at h⊢;obtain⟨c,e,g⟩:=Q9 a _ _ _ h;have i:c.length<=16:=by
  have:=(pB (ls:=ls) (id:=x.1)).2;unfold bj at this;rw[qc a b,aR d,e] at this;simp at this;omega
 rw[g 16 [] i,e];exact⟨rfl,λy f=>by simp at f⊢;exact .inr f⟩
def NC.j{s:az}(h:NC s):Fl s:=⟨h.Tb,h.lays.same,λ_=>ahR h⟩
def JR(s:az)(c:cf)(u v:az×tp×al):Prop:=u.2=v.2/\Iu s c u.1=v.1
def JR.ite{s:az}{c:cf}{p q:Prop}[Decidable p][Decidable q](e:p↔q){u v a b:az×tp×al}(d:q->JR s c u v)(f:¬q->JR s c a b):JR s c (if p then u else a) (if q then v else b):=by
 by_cases k:q
 .rw[aX<|e.2 k,aX k];exact d k
 .rw[aR<|λz=>k (e.1 z),aR k];exact f k
def uk{s:az}(d:Fl s)(c:cf):Iu s c (ch s c)=s:=by
 have e:gW (cS c 1) (ch s c).1 s.1=s.1:=by unfold ch;cases cS c 1<;>rfl
 have f:gW (cS c 2) (ch s c).2.1 s.2.1=s.2.1:=by unfold ch;cases cS c 2<;>rfl
 have g:gW (cS c 3) (ch s c).2.2.1 s.2.2.1=s.2.2.1:=by unfold ch;cases cS c 3<;>rfl
 have h:gW (dX c) (ch s c).2.2.2.2.1 s.2.2.2.2.1=s.2.2.2.2.1:=by unfold ch;cases dX c<;>rfl
 have j:gW (cS c 3) (CB s<|ch s c) s.2.2.2.1=s.2.2.2.1:=by
  cases a:cS c 3 with
  | false=>rfl
  | true =>
    have el:(ch s c).2.2.1=s.2.2.1:=by unfold ch;rw[a];rfl
    have k:(ch s c).2.2.2.1=gL s c:=by unfold ch;rw[a];rfl
    exact Iy d (by rw[el]) (λi x y b l=>by rw[el,l] at b;rw[aQ b]) (by rw[el,k,gp])
 unfold Iu;rw[e,f,g,j,h]
def ep{c:cf}{l:List Int}(n:cG c=l)(k:Int)(b:Bool)(h:decide (k∈l)=b):cS c k=b:=by unfold cS;rw[n,h]
def qI{s:az}{c:cf}{a b d m:Bool}(e:cS c 1=a)(f:cS c 2=b)(g:cS c 3=d)(h:dX c=m) :
  ch s c=(gW a s.1 [],gW b s.2.1 [],gW d s.2.2.1 [],gW d (gL s c) [],gW m s.2.2.2.2.1 [],()) /\
  ∀p:az,Iu s c p=(gW a p.1 s.1,gW b p.2.1 s.2.1,gW d p.2.2.1 s.2.2.1,gW d (CB s p) s.2.2.2.1,gW m p.2.2.2.2.1 s.2.2.2.2.1,()):=by
 unfold ch Iu;rw[e,f,g,h];exact⟨rfl,λp=>rfl⟩
def Y8{s:az}(d:Fl s)(c:cf)(b:List eP)(e:List bN)(m:List fX):CB s (b,e,s.2.2.1,gL s c,m,())=s.2.2.2.1 :=
 Iy d rfl (λi x y a f=>by dsimp only at a;rw[f] at a;rw[aQ a]) (gp s c)
def afV{s:az}(g:Fl s){c:cf}(h:c.1=7)(b:Tx)(a:List Tx)(f:Tx)(d:Int):JR s c (crI (ch s c) b a f d) (crI s b a f d):=by
 have n:cG c=[2,3]:=by unfold cG;rw[aR ai,aX h]
 obtain⟨e,j⟩:=qI (s:=s) (ep n 1 false rfl) (ep n 2 true rfl) (ep n 3 true rfl) (show dX c=false by unfold dX;rw[h];rfl);have same:=uk g c;rw[e] at same⊢;unfold crI;refine JR.ite gf (λ_=>⟨rfl,same⟩) λ_=>JR.ite gf (λ_=>⟨rfl,same⟩) λ_=>JR.ite gf (λ_=>⟨rfl,same⟩) λ_=>JR.ite gf (λ_=>⟨rfl,same⟩) λ_=>⟨rfl,?_⟩;rw[j];have:=Y8 g c [] (nx (·.1) s.2.1 ((cD (xK s) d).1,a,(if b=[] then [] else(aW (eN s) b).1),f,[],())) [];refine congrArg (λz=>(s.1,((nx (·.1) s.2.1 ((cD (xK s) d).1,a,(if b=[] then [] else(aW (eN s) b).1),f,[],())),s.2.2.1,z,s.2.2.2.2.1,()))) this
def afW{s:az}(d:Fl s){c:cf}(b:c.1=8)(a:Tx):JR s c (dlI (ch s c) a) (dlI s a):=by
 have n:cG c=[1,2]:=by unfold cG;rw[aR ai,aR ai,aX b]
 obtain⟨e,j⟩:=qI (s:=s) (ep n 1 true rfl) (ep n 2 true rfl) (ep n 3 false rfl) (show dX c=false by unfold dX;rw[b];rfl);have same:=uk d c;rw[e] at same⊢;unfold dlI;refine JR.ite gf (λ_=>⟨rfl,same⟩) λ_=>JR.ite gf (λ_=>⟨rfl,same⟩) λ_=>⟨rfl,?_⟩;rw[j];rfl
def Y9{s t:az}(h:s.2.2.2.2.1=t.2.2.2.2.1)(id:Tx):tw s id=tw t id:=by
 have:dB (s,id,())=dB (t,id,()):=by
  obtain⟨a,b,d,e,m,u⟩:=s;obtain⟨c,f,g,i,j,k⟩:=t;dsimp only at h;subst h;unfold dB ke;dsimp only
 unfold tw;rw[this]
def afX{s:az}(a:Fl s){c:cf}(j:∀p:az,Iu s c p=(p.1,p.2.1,p.2.2.1,CB s p,p.2.2.2.2.1,()))(b:List eP)(id:Tx) :
  Iu s c (Y4 (b,s.2.1,s.2.2.1,gL s c,s.2.2.2.2.1,()) id)=Y4 (b,s.2) id:=by
 have d:=a.len;rw[j];unfold Y4;dsimp only;rw[AE d,AE (gp s c)];cases h:E5 s.2.2.1 id with
 | none =>
   dsimp only;unfold Wj;dsimp only;rw[Y8 a]
 | some k =>
   obtain⟨x,e,_⟩:=yS h;dsimp only;unfold Wj;dsimp only;rw[afU a (aF e) (gp s c) rfl rfl]
def afY{s:az}(b:Fl s){c:cf}(d:c.1=2)(a:Tx):JR s c (dlS (ch s c) a) (dlS s a):=by
 have n:cG c=[1,2,3]:=by unfold cG;rw[aX ai]
 obtain⟨e,j⟩:=qI (s:=s) (ep n 1 true rfl) (ep n 2 true rfl) (ep n 3 true rfl) (show dX c=true by unfold dX;rw[d];rfl);have same:=uk b c;rw[e] at same⊢;unfold dlS;refine JR.ite gf (λ_=>⟨rfl,same⟩) λ_=>JR.ite (by rw[Y9 (t:=s) rfl];exact gf) (λ_=>⟨rfl,same⟩) λ_=>⟨rfl,afX b j s.1 _⟩
def afZ{s:az}(b:Fl s){c:cf}(d:c.1=12)(a:Tx):JR s c (dlW (ch s c) a) (dlW s a):=by
 have n:cG c=[1,2,3]:=by unfold cG;rw[aX ai]
 obtain⟨e,j⟩:=qI (s:=s) (ep n 1 true rfl) (ep n 2 true rfl) (ep n 3 true rfl) (show dX c=true by unfold dX;rw[d];rfl);have same:=uk b c;rw[e] at same⊢;unfold dlW;refine JR.ite gf (λ_=>⟨rfl,same⟩) λ_=>JR.ite (by rw[Y9 (t:=s) rfl];exact gf) (λ_=>⟨rfl,same⟩) λ_=>⟨rfl,afX b j (u7 (·.1) s.1 (aW (Bh s) a).1) (acN s (aW (Bh s) a).1)⟩
def Wt{s:az}(b:Fl s){c:cf}(g:c.1=5\/c.1=6)(a:Tx)(d:Int):JR s c (ctS (ch s c) a d) (ctS s a d):=by
 have n:cG c=[3]:=by unfold cG;rw[aR ai,aR ai,aR ai,aX ai]
 obtain⟨e,j⟩:=qI (s:=s) (ep n 1 false rfl) (ep n 2 false rfl) (ep n 3 true rfl) (show dX c=true from dD ai);have same:=uk b c;rw[e] at same⊢;have f:=λid=>Y9 (s:=(gW false s.1 [],gW false s.2.1 [],gW true s.2.2.1 [],gW true (gL s c) [],gW true s.2.2.2.2.1 [],())) (t:=s) rfl id;unfold ctS;simp only[f];refine JR.ite gf (λ_=>⟨rfl,same⟩) λ_=>JR.ite gf (λ_=>⟨rfl,same⟩) λ_=>JR.ite gf (λ_=>⟨rfl,same⟩) λ_=>⟨rfl,?_⟩;rw[j];exact congrArg (λz=>(s.1,s.2.1,s.2.2.1,z,(Wj s (aW (eN s) a).1<|tw s (aW (eN s) a).1+d).2.2.2.2.1,())) (Y8 b c [] [] _)
def ifE{f:Type}{p q:Prop}[Decidable p][Decidable q](e:p↔q){a b c d:f}(g:q->a=c)(h:¬q->b=d):(if p then a else b)=if q then c else d:=by
 grind
def Rm{s:az}{a:Tx}(h:(aW (eN s) a).2.1=0):∃(i:Nat) (x:aD),s.2.2.1[i]?=ab x/\x.1=(aW (eN s) a).1:=by
 obtain⟨y,b,d⟩:=zF h;obtain⟨x,c,rfl⟩:=Tc b;obtain⟨i,e⟩:=bz.1 c
 grind
def Za{s:az}{c:cf}(a:c.1=1\/c.1=3\/c.1=4) :
  ch s c=([],[],s.2.2.1,gL s c,[],())/\∀p:az,Iu s c p=(s.1,s.2.1,p.2.2.1,CB s p,s.2.2.2.2.1,()):=by
 have n:cG c=[3]:=by unfold cG;rw[aR ai,aR ai,aR ai,aX ai]
 exact qI (s:=s) (ep n 1 false rfl) (ep n 2 false rfl) (ep n 3 true rfl) (show dX c=false from cL ai)
def af0{s:az}(f:Fl s){c:cf}(l:c.1=1):JR s c (crS (ch s c) c.2.2.2.1 c.2.2.2.2.1 c.2.2.2.2.2.1 c.2.2.2.2.2.2.2.1) (crS s c.2.2.2.1 c.2.2.2.2.1 c.2.2.2.2.2.1 c.2.2.2.2.2.2.2.1):=by
 obtain⟨e,j⟩:=Za (s:=s) (c:=c) (.inl l);have same:=uk f c;rw[e] at same⊢;have b:¬(c.2.2.2.1≠[]/\(aW (eN s) c.2.2.2.1).2.1≠0)->c.2.2.2.2.2.1≠[]->Fk ([],[],s.2.2.1,gL s c,[],()) (dd s c.2.2.2.1)=Fk s (dd s c.2.2.2.1):=λm g=>by
  unfold Fk;by_cases q:dd s c.2.2.2.1=[]
  .grind
  .rw[aR q,aR q];refine CE f c _ λt x u=>?_;have n:c.2.2.2.1≠[]:=λh=>q (by unfold dd;rw[aX h]);have v:dd s c.2.2.2.1=(aW (eN s) c.2.2.2.1).1:=by unfold dd;rw[aR n]
   have w:Jv c=ab c.2.2.2.1:=by unfold Jv;rw[aX l,aR λh=>h.elim n g]
   unfold sy AF
   grind
 refine JR.ite gf (λ_=>⟨rfl,same⟩) λ_=>JR.ite gf (λ_=>⟨rfl,same⟩) λ_=>JR.ite gf (λ_=>⟨rfl,same⟩) λm=>JR.ite gf (λ_=>⟨rfl,same⟩) λ_=>JR.ite gf (λ_=>⟨rfl,same⟩) λo=>JR.ite gf (λ_=>⟨rfl,same⟩) λ_=>?_;have b:=b m;have a:c.2.2.2.2.2.1≠[]->Fk ([],[],s.2.2.1,gL s c,[],()) (dd ([],[],s.2.2.1,gL s c,[],()) c.2.2.2.1)=Fk s (dd s c.2.2.2.1):=b;refine JR.ite (and_congr_right λg=>by rw[a g]) (λk=>⟨by rw[a k.1],same⟩) λ_=>JR.ite (and_congr_right λg=>by rw[a g]) (λk=>⟨by rw[a k.1],same⟩) λ_=>⟨rfl,?_⟩;obtain⟨_,_,p⟩:=GC (K9 o);have i:∀y∈s.2.2.1,y.1≠(cD (eN s) c.2.2.2.2.2.2.2.1).1:=λy r=>p _ (f.nm y r);rw[j];unfold NN;rw[AE f.len];refine congrArg (λz=>(s.1,s.2.1,_,z,s.2.2.2.2.1,())) (Ws (P:=gL s c) (d:=acM c.2.2.2.2.2.1) f (gp s c) (x:=afG (cD (eN s) c.2.2.2.2.2.2.2.1).1 (dd s c.2.2.2.1) c.2.2.2.2.1 c.2.2.2.2.2.1) i rfl ?_);rw[AE<|gp s c];rfl
def af1{s:az}(b:Fl s){c:cf}(f:c.1=3):dfA (ch s c) c.2.2.1=dfA s c.2.2.1:=by
 obtain⟨e,j⟩:=Za (s:=s) (c:=c) (.inr<|.inl f);have a:Fl (ch s c):=by rw[e];exact⟨b.Tb,gp s c,b.nm⟩
 rw[e] at a⊢;unfold dfA;show(if(aW (eN s) c.2.2.1).2.1≠0 then _ else _)=_
 by_cases h:(aW (eN s) c.2.2.1).2.1=0
 rotate_left
 .rw[aX h,aX h];rfl
 rw[aR<|λq=>q h,aR λq=>q h];obtain⟨i,x,d,g⟩:=Rm h;have k:x.1∈sy s c:=by
  have l:Jv c=ab c.2.2.1:=by unfold Jv;rw[aR ai,aX (.inl f)]
  unfold sy AF
  grind
 show(0,(aW (eN s) c.2.2.1).1,0,(lN _ (aW (eN s) c.2.2.1).1).2.1,())=_
 rw[<-g,zH b d,zH (s:=([],[],s.2.2.1,gL s c,[],())) a d];rw[Rl b c d k]
def af2{s:az}(f:Fl s){c:cf}(r:c.1=4):chA (ch s c) c.2.2.1=chA s c.2.2.1:=by
 obtain⟨e,j⟩:=Za (s:=s) (c:=c) (.inr<|.inr r);have l:Fl (ch s c):=by rw[e];exact⟨f.Tb,gp s c,f.nm⟩
 rw[e] at l⊢;by_cases h:(aW (eN s) c.2.2.1).2.1=0
 rotate_left
 .unfold chA;rw[aX h];exact aX h
 obtain⟨i,x,n,t⟩:=Rm h;have hd:sy s c=(bj s.2.2.1 x.1).1.map (·.1):=by
  have A:Jv c=ab c.2.2.1:=by unfold Jv;rw[aR ai,aX (.inr r)]
  unfold sy AF
  grind
 have m:eg s.2.2.1 (gL s c) x.1=eg s.2.2.1 s.2.2.2.1 x.1:=CE f c _ λ_ y o=>by rw[hd];exact List.mem_map_of_mem o
 have u:=zH f n;have p:=zH l n;have v:(eg s.2.2.1 s.2.2.2.1 x.1).2=0->Fk ([],[],s.2.2.1,gL s c,[],()) x.2.1=Fk s x.2.1:=λd=>by
  unfold Fk;by_cases q:x.2.1=[]
  .grind
  .rw[aR q,aR q];refine CE f c _ λ_ y o=>?_;rw[hd];have w:(bj s.2.2.1 x.1).2=0:=K9 λk=>by unfold eg at d;rw[aR k] at d;exact k d
   exact List.mem_map_of_mem ((Y7 f.Tb (eQ n) w q).2 y o)
 have g:(eg s.2.2.1 s.2.2.2.1 x.1).2=0->Fk ([],[],s.2.2.1,gL s c,[],()) (lN ([],[],s.2.2.1,gL s c,[],()) x.1).1.2.1=Fk s (lN s x.1).1.2.1:=λd=>by rw[u,p];exact v d
 rw[t] at m g;refine ifE gf (λq=>absurd h q) λ_=>ifE (iff_of_eq<|congrArg (λz:List Nd×Int=>z.2≠0) m) (λ_=>congrArg (λz:List Nd×Int=>iS z.2) m) λd=>?_;have g:=g (K9 d);exact ifE (iff_of_eq<|congrArg (λz:List Nd×Int=>z.2≠0) g) (λ_=>congrArg (λz:List Nd×Int=>iS z.2) g) λ_=>by
  have k:=congr (congrArg (λa b:List Nd×Int=>((0:Int),(aW (eN s) c.2.2.1).1,(0:Int),(Hh a.1 b.1).flatMap xF,())) g) m;exact k
def af3{s:az}(h:Fl s){c:cf}(m:c.1=11)(a:Tx)(b:List Tx)(l:Tx)(d:Int):JR s c (crB (ch s c) a b l d) (crB s a b l d):=by
 have n:cG c=[1,2,3]:=by unfold cG;rw[aX ai]
 obtain⟨e,j⟩:ch s c=(s.1,s.2.1,s.2.2.1,gL s c,[],())/\∀p:az,Iu s c p=(p.1,p.2.1,p.2.2.1,CB s p,s.2.2.2.2.1,()) :=
  qI (s:=s) (ep n 1 true rfl) (ep n 2 true rfl) (ep n 3 true rfl) (show dX c=false by unfold dX;rw[m];rfl)
 have same:=uk h c;rw[e] at same⊢;have o:∀i g d,JR s c (WX (s.1,s.2.1,s.2.2.1,gL s c,[],()) i g d) (WX s i g d):=λi g d=>by
  refine JR.ite gf (λ_=>⟨rfl,same⟩) λ_=>JR.ite gf (λ_=>⟨rfl,same⟩) λ_=>JR.ite gf (λ_=>⟨rfl,same⟩) λ_=>JR.ite gf (λ_=>⟨rfl,same⟩) λq=>JR.ite gf (λ_=>⟨rfl,same⟩) λ_=>⟨rfl,?_⟩;obtain⟨_,_,r⟩:=GC (K9 q);have f:∀y∈s.2.2.1,y.1≠(cD (eN s) d).1:=λy t=>r _ (h.nm y t);rw[j];unfold NN;rw[AE h.len];refine congrArg (λz=>(s.1,s.2.1,_,z,s.2.2.2.2.1,())) (Ws (P:=gL s c) (d:=kF 1024) h (gp s c) (x:=ahO (cD (eN s) d).1 (dd s i) g) f rfl ?_);rw[AE<|gp s c];rfl
 obtain⟨k,u⟩:=o (if a=[] then [] else CC s (DB s a)) [] (D3 d);refine JR.ite gf (λ_=>⟨rfl,same⟩) λ_=>JR.ite gf (λ_=>⟨rfl,same⟩) λ_=>JR.ite gf (λ_=>⟨rfl,same⟩) λ_=>JR.ite gf (λ_=>⟨rfl,same⟩) λ_=>?_;have v:=congrArg Prod.snd u;exact JR.ite (iff_of_eq<|congrArg (λz:tp×al=>z.1.1≠0) k) (λ_=>⟨congrArg (λz:tp×al=>(iS z.1.1,())) k,same⟩) λ_ =>
  ⟨congrArg (λz:tp×al=>(((0:Int),(cD (Bh s)<|Pv d).1,(0:Int),z.1.2.1,()),())) k,
   Fw (by rw[j];exact congrArg (λz:tp×al=>nx (·.1) s.1 ((cD (Bh s)<|Pv d).1,b,DB s a,z.1.2.1,l,[],())) k) v⟩
def af4{s:az}(f:Fl s){c:cf}(a:c.1=9\/c.1=10):JR s c (itS (ch s c) c) (itS s c):=by
 have same:=uk f c;by_cases m:c.2.1∈cG c
 rotate_left
 .unfold itS;exact JR.ite gf (λ_=>⟨rfl,same⟩) λq=>absurd m q
 have b:dX c=false:=cL ai;have d:cG c=Ps c.2.1 [1,2]:=by unfold cG;rw[aR ai,aR ai,aR ai,aR ai,aX a]
 rcases NW a m with k|k
 .have n:cG c=[1]:=by rw[d,k];rfl
  obtain⟨e,j⟩:=qI (s:=s) (ep n 1 true rfl) (ep n 2 false rfl) (ep n 3 false rfl) b;rw[e] at same⊢;unfold itS;simp only[k];refine JR.ite gf (λ_=>⟨rfl,same⟩) λ_=>JR.ite gf (λ_=>⟨rfl,same⟩) λ_=>JR.ite gf (λ_=>⟨rfl,?_⟩) λq=>absurd trivial q;rw[j];rfl
 .have n:cG c=[2]:=by rw[d,k];rfl
  obtain⟨e,j⟩:=qI (s:=s) (ep n 1 false rfl) (ep n 2 true rfl) (ep n 3 false rfl) b;rw[e] at same⊢;unfold itS;simp only[k];refine JR.ite gf (λ_=>⟨rfl,same⟩) λ_=>JR.ite gf (λ_=>⟨rfl,same⟩) λ_=>JR.ite gf (λq=>absurd q aK) λ_=>⟨rfl,?_⟩;rw[j];rfl
set_option maxRecDepth 100000
end Go.Ge
namespace Go.Ge
variable [Lp]
set_option maxRecDepth 100000
def MZ.row{s:az}(h:MZ s):Y0 s:=⟨h.hd,by have:=h.aag;omega,by have:=h.Yv;omega⟩
def xG{c:Type}{b:Bool}{x y:List c}{a:c}(h:a∈gW b x y):a∈x\/a∈y:=by
 cases b
 .exact .inr h
 .exact .inl h
def qd{a:Type}{b:Bool}{x y:List a}{n:Nat}(c:x.length<=n)(d:y.length<=n):(gW b x y).length<=n:=by
 cases b
 .exact d
 .exact c
end Go.Ge
namespace Go.Ge
variable [Lp]
def af5{s:az}(h:W24 s)(k:Int)(g:List Tx)(t:g.length<=1000)(id:Tx)(d:k=3)(e:∃x∈s.2.2.1,x.1=id):hM (s,k,id,g,())=ab (rnS s k id g,()):=by
 have l:=h.hd.ll;subst d;unfold hM rnS;dsimp only;rw[ax aK,af,ax aK,af,aR aK,aR aK,cN ai,ae];rcases wu (f:=mx (s,(3:Int),id,g,())) s.2.2.1 (λy=>decide (y.1=id)) (λq=>(q,id,())) ai (λi y a m=>by
  unfold mx;dsimp only;rw[aq m,ae,aM ai fi,ae,au a,aa,cZ,ew];by_cases q:y.1=id<;>simp[q]) (by unfold mx;dsimp only;rw[aw,af]) with ⟨j,y,a,b,n⟩|⟨c,_⟩
 rotate_left
 .obtain⟨y,a,o⟩:=e;have:=c y a;simp[o] at this
 have b:y.1=id:=iq b;have u:=aF a;have p:E5 s.2.2.1 id=ab j:=by rw[<-b];exact Dn h.Tb a
 have r:TM (λz:aD=>z.1) s.2.2.1 ly0 id=y:=by rw[<-b];exact AG h.Tb (eQ a)
 rw[n,aa];dsimp only;rw[show de 1 0=false from rfl,af,aa];dsimp only;rw[rn _ ai,aa,aM ai fi,ae,au a,aa,aa,aa];unfold rnL lP;rw[p,r,qJ,b];rfl
def doF(s:az)(c:cf):az×tp×al :=
 if c.1=1 then crS s c.2.2.2.1 c.2.2.2.2.1 c.2.2.2.2.2.1 c.2.2.2.2.2.2.2.1 else
 if c.1=2 then dlS s c.2.2.1 else if c.1=3 then(s,dfA s c.2.2.1,()) else if c.1=4 then(s,chA s c.2.2.1,()) else
 if c.1=5 then ctS s c.2.2.1 1 else if c.1=6 then ctS s c.2.2.1 (-1) else
 if c.1=7 then crI s c.2.2.2.1 c.2.2.2.2.1 c.2.2.2.2.2.1 c.2.2.2.2.2.2.2.1 else if c.1=8 then dlI s c.2.2.1 else
 if c.1=11 then crB s c.2.2.2.1 c.2.2.2.2.1 c.2.2.2.2.2.1 c.2.2.2.2.2.2.2.1 else if c.1=12 then dlW s c.2.2.1 else
 if c.1=9\/c.1=10 then itS s c else if c.1=13\/c.1=14\/c.1=15 then rcS s c else(s,iS 1,())
structure akY (c:cf):Prop where
 nms:sa c.2.2.2.2.1
 data:c.2.2.2.2.2.1.length<=8704
 key:c.2.2.2.2.2.2.1.length<=100
def af6{s:az}(h:W24 s){c:cf}(r:akY c):dQ (s,c,())=ab (doF s c):=by
 have y:=r.nms.1;have hd:=r.data;have t:=h.ml;have u:=h.hd.il;unfold dQ doF;dsimp only;by_cases i:c.1=1
 .rw[aE i,ae,aX i];exact ob (Kk s c.2.2.2.1 c.2.2.2.2.1 c.2.2.2.2.2.1 c.2.2.2.2.2.2.2.1 h.hd ai ai h.tree) rfl
 rw[ax i,af,aR i];by_cases j:c.1=2
 .rw[aE j,ae,aX j];exact ob (GW s _ h.hd ai) rfl
 rw[ax j,af,aR j];by_cases k:c.1=3
 .rw[aE k,ae,aX k];exact ob (Kl h _) rfl
 rw[ax k,af,aR k];by_cases l:c.1=4
 .rw[aE l,ae,aX l];exact ob (Fa h _) rfl
 rw[ax l,af,aR l];by_cases m:c.1=5
 .rw[aE m,ae,aX m];unfold xn;exact ob (ob (Jw h c.2.2.1<|.inl rfl) rfl) rfl
 rw[ax m,af,aR m];by_cases n:c.1=6
 .rw[aE n,ae,aX n];unfold ti;exact ob (ob (Jw h c.2.2.1<|.inr rfl) rfl) rfl
 rw[ax n,af,aR n];by_cases o:c.1=7
 .rw[aE o,ae,aX o];exact ob (GP s _ _ _ _ h.hd ai ai) rfl
 rw[ax o,af,aR o];by_cases p:c.1=8
 .rw[aE p,ae,aX p];exact ob (GS s _ h.hd h.WW) rfl
 rw[ax p,af,aR p];by_cases e:c.1=11
 .rw[aE e,ae,aX e];exact ob (Iv s _ _ _ _ h.hd h.WW ai) rfl
 rw[ax e,af,aR e];by_cases f:c.1=12
 .rw[aE f,ae,aX f];exact ob (NT h _) rfl
 rw[ax f,af,aR f];rw[show(((ao (aS c.1 9) ((aS c.1 9,()),()) ((aS c.1 10,()),())).1).1)=decide (c.1=9\/c.1=10) from by
  by_cases a:c.1=9
  .rw[aE a,ae,dD (.inl a)]
  .rw[ax a,af,GI];exact gX.2 ⟨.inr,λq=>q.resolve_left a⟩]
 by_cases g:c.1=9\/c.1=10
 .rw[dD g,ae,aX g];exact ob (afP h c g ai) rfl
 rw[cL g,af,aR g];rw[show(((ao (aS c.1 13) ((aS c.1 13,()),()) ((((ao (aS c.1 14) ((aS c.1 14,()),()) ((aS c.1 15,()),())).1).1,()),())).1).1)=decide (c.1=13\/c.1=14\/c.1=15) from by
  by_cases a:c.1=13
  .rw[aE a,ae,dD (.inl a)]
  .by_cases b:c.1=14
   .rw[ax a,af,aE b,ae,dD (.inr<|.inl b)]
   .rw[ax a,af,ax b,af,GI];exact gX.2 ⟨λq=>.inr (.inr q),λq=>(q.resolve_left a).resolve_left b⟩]
 by_cases d:c.1=13\/c.1=14\/c.1=15
 .rw[dD d,ae,aX d];refine ob (acS h c d ai λid v=>?_) rfl;rcases v with q|q|⟨w,x⟩
  .exact Rk h _ _ ai id (.inl q)
  .exact Rk h _ _ ai id (.inr q)
  .exact af5 h _ _ ai id w x
 rw[cL d,af,aR d];rfl
def W24.part{s:az}(h:W24 s)(c:cf):W24 (ch s c):=by
 have a:∀{x:eP},x∈(ch s c).1->x∈s.1:=λ{x} q=>(xG q).resolve_right bb;have hi:∀{x:bN},x∈(ch s c).2.1->x∈s.2.1:=λ{x} q=>(xG q).resolve_right bb;have d:∀{x:aD},x∈(ch s c).2.2.1->x∈s.2.2.1:=λ{x} q=>(xG q).resolve_right bb;have e:∀{x:fX},x∈(ch s c).2.2.2.2.1->x∈s.2.2.2.2.1:=λ{x} q=>(xG q).resolve_right bb;have up:∀{α:Type} {key:α->Tx} {l:List α} (b:Bool),vm key l->vm key (gW b l []):=λ{α key l} b q=>by
  cases b
  .exact List.Pairwise.nil
  .exact q
 exact {
  hd:=⟨qd h.hd.ll bb,qd h.hd.il bb,qd h.hd.bl bb,λx q=>h.hd.ln x (d q),λx q=>h.hd.pJ x (hi q),λx q=>h.hd.bn x (a q),λx q=>h.hd.it x (hi q)⟩
  dl:=qd (by rw[gp];exact h.hd.ll) bb
  ml:=qd h.ml bb
  Wc:=up _ h.Wc
  WW:=up _ h.WW
  Tb:=up _ h.Tb
  bits:=λx q=>h.bits x (a q)
  Yv:=λx q=>h.Yv x (e q)
  idB:=λx q=>h.idB x (a q)
  idI:=λx q=>h.idI x (hi q)
  idL:=λx q=>h.idL x (d q) }
def aaH(a:List aD)(id:Tx)(g:List Tx):(rnL a id g).length=a.length:=by unfold rnL;rw[adv]
def ahV{b:List aD}{id:Tx}(g:List Tx)(f:∃x∈b,x.1=id){i:Nat}{x y:aD}(a:(rnL b id g)[i]?=ab x)(c:b[i]?=ab y):y.1=x.1:=by
 obtain⟨n,d⟩:=K1.2 f;obtain⟨z,e,h⟩:=yS d;unfold rnL at a;rw[d,List.getElem?_set] at a;dsimp only[Option.getD] at a;by_cases q:n=i
 .subst q;rw[aX rfl,aX (aF e)] at a;rw[<-aQ a];rw[e] at c;rw[<-aQ c];exact h
 .rw[aR q,c] at a;rw[aQ a]
def af7{s:az}(f:Fl s){c:cf}(g:c.1=13\/c.1=14\/c.1=15):JR s c (rcS (ch s c) c) (rcS s c):=by
 have same:=uk f c;by_cases m:c.2.1∈cG c
 rotate_left
 .unfold rcS;exact JR.ite gf (λ_=>⟨rfl,same⟩) λq=>absurd m q
 have b:dX c=false:=cL ai;have d:cG c=Ps c.2.1 [1,2,3]:=by unfold cG;rw[aR ai,aR ai,aR ai,aR ai,aR ai,aX g]
 have fin:u9 (ch s c) c.2.1=u9 s c.2.1->(rcE s c=0->c.1=13->Iu s c (rnS (ch s c) c.2.1 (aW (u9 s c.2.1) c.2.2.1).1 c.2.2.2.2.1)=rnS s c.2.1 (aW (u9 s c.2.1) c.2.2.1).1 c.2.2.2.2.1)->JR s c (rcS (ch s c) c) (rcS s c):=λe h=>by
  have l:rcE (ch s c) c=rcE s c:=by unfold rcE;rw[e]
  unfold rcS;simp only[e,l];refine JR.ite gf (λ_=>⟨rfl,same⟩) λ_=>JR.ite gf (λ_=>⟨rfl,same⟩) λ_=>JR.ite gf (λ_=>⟨rfl,same⟩) λ_=>JR.ite gf (λ_=>⟨rfl,same⟩) λa=>JR.ite gf (λk=>⟨rfl,h (K9 a) k⟩) λ_=>⟨rfl,same⟩
 rcases acR g m with k|k|k
 .have n:cG c=[1]:=by rw[d,k];rfl
  obtain⟨e,j⟩:=qI (s:=s) (ep n 1 true rfl) (ep n 2 false rfl) (ep n 3 false rfl) b;refine fin (by rw[e,k];rfl) λ_ _=>?_;rw[e,j,k];rfl
 .have n:cG c=[2]:=by rw[d,k];rfl
  obtain⟨e,j⟩:=qI (s:=s) (ep n 1 false rfl) (ep n 2 true rfl) (ep n 3 false rfl) b;refine fin (by rw[e,k];rfl) λ_ _=>?_;rw[e,j,k];rfl
 .have n:cG c=[3]:=by rw[d,k];rfl
  obtain⟨e,j⟩:=qI (s:=s) (ep n 1 false rfl) (ep n 2 false rfl) (ep n 3 true rfl) b;refine fin (by rw[e,k];rfl) λa o=>?_;have r:(aW (u9 s c.2.1) c.2.2.1).2.1=0:=K9 λq=>by
   unfold rcE at a;rw[aR λz=>q z.1] at a;exact q a
  have hx:∃x∈s.2.2.1,x.1=(aW (u9 s c.2.1) c.2.2.1).1:=by
   rcases Rj r with q|q|q
   .omega
   .omega
   .exact q.2
  generalize (aW (u9 s c.2.1) c.2.2.1).1=id at hx;rw[e,j,k];refine congrArg (λz=>(s.1,s.2.1,rnL s.2.2.1 id c.2.2.2.2.1,z,s.2.2.2.2.1,())) (Iy (p:=([],[],rnL s.2.2.1 id c.2.2.2.2.1,gL s c,[],())) f (aaH _ _ _) (λi x y t u=>ahV _ hx t u) ?_);dsimp only;rw[gp,aaH]
def aaI{s:az}(a:Fl s)(c:cf):JR s c (doF (ch s c) c) (doF s c):=by
 have same:=uk a c;unfold doF;exact JR.ite gf (λk=>af0 a k) λ_=>JR.ite gf (λk=>afY a k _) λ_=>JR.ite gf (λk=>⟨congrArg (·,())<|af1 a k,same⟩) λ_=>JR.ite gf (λk=>⟨congrArg (·,())<|af2 a k,same⟩) λ_ =>
  JR.ite gf (λk=>Wt a (.inl k) _ _) λ_=>JR.ite gf (λk=>Wt a (.inr k) _ _) λ_=>JR.ite gf (λk=>afV a k _ _ _ _) λ_=>JR.ite gf (λk=>afW a k _) λ_ =>
  JR.ite gf (λk=>af3 a k _ _ _ _) λ_=>JR.ite gf (λk=>afZ a k _) λ_=>JR.ite gf (λk=>af4 a k) λ_=>JR.ite gf (λk=>af7 a k) λ_=>⟨rfl,same⟩
end Go.Ge
namespace Go.Ge.W24
variable [Lp]
set_option maxRecDepth 100000
abbrev af8:=Int×Tx×Int×Tx×al
def w1:Tx:=[48,48,48,48,48,49]
def w2:Tx:=[48,48,48,48,48,50]
def w3:Tx:=[48,48,48,48,48,51]
def w4:Tx:=[48,48,48,48,48,52]
def wb:Tx:=[98,97,115,101]
def ww:Tx:=[119,101,98]
def M1(D:Tx):aD:=(w1,[],[wb],D,1024,0,true,())
def M4(D:Tx):aD:=(w4,w1,[],D,1024,0,true,())
def im2(l:List Item):bN:=(w2,[ww],w1,[],l,())
def bx3:eP:=(w3,[],w2,w4,[],[],())
def t0:az:=([],[],[],[],[],())
def t1(D N:Tx):az:=([],[],[M1 D],[N],[],())
def t2(D N:Tx):az:=([],[im2 []],[M1 D],[N],[],())
def t3l(D N:Tx):az:=([],[im2 []],[M1 D,M4 D],[N,N],[],())
def t3(D N:Tx)(l:List Item):az:=([bx3],[im2 l],[M1 D,M4 D],[N,N],[],())
def dV:Tx:=ku [118]
def Iz:Item:=([107],dV,[118],())
def okW(id:Tx):af8:=(0,id,0,[],())
def c1:cf:=(1,0,[],[],[wb],[],[],1,())
def c2:cf:=(7,0,[],wb,[ww],[],[],2,())
def c3:cf:=(11,0,[],ww,[],[],[],67108867,())
def c4:cf:=(2,0,wb,[],[],[],[],0,())
def c5:cf:=(9,2,ww,[],[],[118],[107],0,())
def c6:cf:=(10,2,[48],[],[],[],[107],0,())
def c7:cf:=(15,3,[],[],[],[],[],0,())
def c8:cf:=(99,0,[],[],[],[],[],0,())
def a7:Tx:=[48,48,48,48,48,49,32,98,97,115,101,10,48,48,48,48,48,52,10]
def amW:WX t0 [] [wb] 1=(t1 (ku<|kF 1024)<|kF 1024,xA w1,()):=by
 have a:jd [wb]=0:=by kernel_rfl
 have b:mH (eN t0) [] [wb]=0:=by kernel_rfl
 have c:cD (eN t0) 1=(w1,0,()):=by kernel_rfl
 unfold WX;rw[aR<|λq=>q a,aR (λq=>q.1 rfl),aR (λq=>q b),c,aR (λq=>q rfl),aR (λq=>q.1 (aX rfl)),show dd t0 []=[] from aX rfl];rfl
def amX:WX (t2 (ku<|kF 1024)<|kF 1024) w1 [] 4=(t3l (ku<|kF 1024)<|kF 1024,xA w4,()):=by
 have b:jd []=0:=by kernel_rfl
 have a:∀D N,aW (eN<|t2 D N) w1=(w1,0,()):=λD N=>by kernel_rfl
 have c:∀D N,mH (eN<|t2 D N) [] []=0:=λD N=>by kernel_rfl
 have d:∀D N,cD (eN<|t2 D N) 4=(w4,0,()):=λD N=>by kernel_rfl
 have e:∀D,bj [M1 D] w1=([M1 D],0):=λD=>by kernel_rfl
 have f:dd (t2 (ku<|kF 1024)<|kF 1024) w1=w1:=by
  unfold dd;rw[aR aK,a]
 unfold WX;rw[aR<|λq=>q b,a,aR (λq=>q.2 rfl),aR (λq=>q (c _ _)),d,aR (λq=>q rfl),f,show(t2 (ku<|kF 1024)<|kF 1024).2.2.1=[M1<|ku<|kF 1024] from rfl,e,aR λq=>absurd q.2.2 aK];rfl
def amY(D N:Tx):AB (t2 D N):=⟨by show 1<=40;decide,by show 1<=40;decide,by show 0<=40;decide,λx a=>by
 obtain rfl:=zO.1 a;exact⟨by show 1<=8;decide,λy b=>by obtain rfl:=zO.1 b;show 4<=100;decide⟩,λx a=>by
 obtain rfl:=zO.1 a;exact⟨by show 1<=8;decide,λy b=>by obtain rfl:=zO.1 b;show 3<=100;decide⟩,λx a=>(by cases a),λx a=>by
 obtain rfl:=zO.1 a;exact⟨by show 0<=8;decide,λy b=>(by cases b)⟩⟩
def amZ:AB t0:=⟨aK,aK,aK,λx a=>(by cases a),λx a=>(by cases a),λx a=>(by cases a),λx a=>(by cases a)⟩
def do1:dQ (t0,c1,())=ab (t1 (ku<|kF 1024)<|kF 1024,okW w1,()):=by
 have h:=vo t0 [] [wb] 1 amZ aK;rw[amW] at h;unfold dQ;dsimp only;rw[show aS c1.1 1=true from rfl,ae];exact ob h rfl
def do2(D N:Tx):dQ (t1 D N,c2,())=ab (t2 D N,okW w2,()):=by
 obtain rfl:‹Lp›=Lp.lZ:=Lp.one _ _;kernel_rfl
def do3:dQ (t2 (ku<|kF 1024)<|kF 1024,c3,())=ab (t3 (ku<|kF 1024) (kF 1024) [],(0,w3,0,w4,()),()):=by
 have h:=vo (t2 (ku<|kF 1024)<|kF 1024) w1 [] 4 (amY _ _) aK;rw[amX] at h;have b:fD ([],())=ab (0,()):=by
  obtain rfl:‹Lp›=Lp.lZ:=Lp.one _ _;kernel_rfl
 have c:∀D N,iH (t2 D N,ww,())=ab (w2,0,()):=λD N=>by
  obtain rfl:‹Lp›=Lp.lZ:=Lp.one _ _;kernel_rfl
 have a:∀D N,ky (t2 D N,())=ab ([],()):=λD N=>by
  obtain rfl:‹Lp›=Lp.lZ:=Lp.one _ _;kernel_rfl
 have d:gu ([],[],[],())=ab (0,()):=by
  obtain rfl:‹Lp›=Lp.lZ:=Lp.one _ _;kernel_rfl
 have e5:gH ([],jR IntKind.i64 67108867 16777215,())=ab (w3,0,()):=by
  obtain rfl:‹Lp›=Lp.lZ:=Lp.one _ _;kernel_rfl
 have e6:∀D N,mf (t2 D N,w2,())=ab (im2 [],true,()):=λD N=>by
  obtain rfl:‹Lp›=Lp.lZ:=Lp.one _ _;kernel_rfl
 have e:∀D N,kf (t3l D N,bx3,())=ab (t3 D N [],()):=λD N=>by
  obtain rfl:‹Lp›=Lp.lZ:=Lp.one _ _;kernel_rfl
 have key:lL (t2 (ku<|kF 1024)<|kF 1024,ww,[],[],67108867,())=ab (t3 (ku<|kF 1024) (kF 1024) [],(0,w3,0,w4,()),()):=by
  unfold lL;refine ob b ?_;rw[show ao (nt<|nt<|aS (0:Int) 0) (ba 64<|len ([]:Tx)) true=false from aK,af];refine ob (x:=(((0:Int),()),(([]:Tx),([]:List Tx),w2,([]:Tx),([]:Tx),([]:List Item),()),())) ?_ ?_
  .rw[show nt (bH ww ([]:Tx))=true from aK,ae];exact ob (c _ _) rfl
  refine ob (x:=(((0:Int),()),())) ?_ ?_
  .rw[show aS (0:Int) 0=true from rfl,ae];exact ob (a _ _) (ob d rfl)
  refine ob (x:=(((0:Int),()),(w3,([]:List Tx),w2,([]:Tx),([]:Tx),([]:List Item),()),())) ?_ ?_
  .rw[show aS (0:Int) 0=true from rfl,ae];exact ob (a _ _) (ob e5 rfl)
  rw[show nt (aS (0:Int) 0)=false from rfl,af];refine ob (e6 _ _) ?_;refine ob (x:=(t3l (ku<|kF 1024)<|kF 1024,xA w4,())) ?_ ?_
  .rw[show jR IntKind.i64 (mz IntKind.i64 67108867 24) 16777215=4 from by kernel_rfl,show bH ww ([]:Tx)=false from aK,af];exact h
  rw[show nt (aS (xA w4).1 0)=false from rfl,af];exact ob (e _ _) rfl
 unfold dQ;rw[show aS c3.1 1=false from rfl,show aS c3.1 2=false from rfl,show aS c3.1 3=false from rfl,show aS c3.1 4=false from rfl,show aS c3.1 5=false from rfl,show aS c3.1 6=false from rfl,show aS c3.1 7=false from rfl,show aS c3.1 8=false from rfl,show aS c3.1 11=true from rfl];simp only[af,ae];exact ob key rfl
def do4(D N:Tx):dQ (t3 D N [],c4,())=ab (t3 D N [],(7,[],0,[],()),()):=by
 obtain rfl:‹Lp›=Lp.lZ:=Lp.one _ _;kernel_rfl
def do5(D N:Tx):dQ (t3 D N [],c5,())=ab (t3 D N [Iz],okW w2,()):=by
 obtain rfl:‹Lp›=Lp.lZ:=Lp.one _ _;kernel_rfl
def do6(D N:Tx):dQ (t3 D N [Iz],c6,())=ab (t3 D N [Iz],(0,w2,0,[118],()),()):=by
 obtain rfl:‹Lp›=Lp.lZ:=Lp.one _ _;kernel_rfl
def do7(D N:Tx)(l:List Item):dQ (t3 D N l,c7,())=ab (t3 D N l,(0,[],0,a7,()),()):=by
 obtain rfl:‹Lp›=Lp.lZ:=Lp.one _ _;kernel_rfl
def do8(D N:Tx)(l:List Item):dQ (t3 D N l,c8,())=ab (t3 D N l,(1,[],0,[],()),()):=by
 obtain rfl:‹Lp›=Lp.lZ:=Lp.one _ _;kernel_rfl
end Go.Ge.W24
namespace Go.Ge.W24
variable [Lp]
set_option maxRecDepth 100000
def mk1:fE ((1:Int),((0:Int),[],[],[bx3],()),())=ab (0,()):=by
 obtain rfl:‹Lp›=Lp.lZ:=Lp.one _ _;kernel_rfl
def mk2:fE ((2:Int),((0:Int),[],[im2 [Iz]],[],()),())=ab (0,()):=by
 obtain rfl:‹Lp›=Lp.lZ:=Lp.one _ _;kernel_rfl
def mc(D:Tx):p9 ([M1 D,M4 D],())=ab (0,()):=by
 obtain rfl:‹Lp›=Lp.lZ:=Lp.one _ _;kernel_rfl
def lp0(D N:Tx):Loop (ow (t3 D N [Iz],())) ((false,(0:Int),()),())=ab (0,(false,(1:Int),()),()):=by
 obtain rfl:‹Lp›=Lp.lZ:=Lp.one _ _;kernel_rfl
def lp1(D N:Tx):Loop (oz (t3 D N [Iz],())) ((false,(0:Int),()),())=ab (0,(false,(1:Int),()),()):=by
 obtain rfl:‹Lp›=Lp.lZ:=Lp.one _ _;kernel_rfl
def lp3(D N:Tx):Loop (oA (t3 D N [Iz],())) ((false,(0:Int),()),())=ab (0,(false,(0:Int),()),()):=by
 obtain rfl:‹Lp›=Lp.lZ:=Lp.one _ _;kernel_rfl
def am0{D:Tx}(a:fA (D,())=ab (0,())):gx (M1 D,())=ab (true,()):=by
 unfold gx;refine ob (x:=(true,())) (by obtain rfl:‹Lp›=Lp.lZ:=Lp.one _ _;kernel_rfl) (ob (x:=true) (by obtain rfl:‹Lp›=Lp.lZ:=Lp.one _ _;kernel_rfl)<|ob (x:=true) (by obtain rfl:‹Lp›=Lp.lZ:=Lp.one _ _;kernel_rfl)<|ob (x:=true) ?_ (by obtain rfl:‹Lp›=Lp.lZ:=Lp.one _ _;kernel_rfl));show ag (fA (D,())) _=_
 rw[a];rfl
def am1{D:Tx}(a:fA (D,())=ab (0,())):gx (M4 D,())=ab (true,()):=by
 unfold gx;refine ob (x:=(true,())) (by obtain rfl:‹Lp›=Lp.lZ:=Lp.one _ _;kernel_rfl) (ob (x:=true) (by obtain rfl:‹Lp›=Lp.lZ:=Lp.one _ _;kernel_rfl)<|ob (x:=true) (by obtain rfl:‹Lp›=Lp.lZ:=Lp.one _ _;kernel_rfl)<|ob (x:=true) ?_ (by obtain rfl:‹Lp›=Lp.lZ:=Lp.one _ _;kernel_rfl));show ag (fA (D,())) _=_
 rw[a];rfl
def mk3{D:Tx}(a:fA (D,())=ab (0,())):fE ((3:Int),((0:Int),[M1 D,M4 D],[],[],()),())=ab (0,()):=by
 have b:=am0 a;have c:=am1 a;have d:Loop (eL ((3:Int),((0:Int),[M1 D,M4 D],[],[],()),())) (((0:Int),(0:Int),()),())=ab (0,((0:Int),(2:Int),()),()):=by
  have s0:eL ((3:Int),((0:Int),[M1 D,M4 D],[],[],()),()) (((0:Int),(0:Int),()),())=ab (.inl (((0:Int),(1:Int),()),())):=by
   unfold eL;refine(show ao true _ _=_ from ?_);rw[ae];exact ob (x:=M1 D) rfl (ob b rfl)
  have s1:eL ((3:Int),((0:Int),[M1 D,M4 D],[],[],()),()) (((0:Int),(1:Int),()),())=ab (.inl (((0:Int),(2:Int),()),())):=by
   unfold eL;refine(show ao true _ _=_ from ?_);rw[ae];exact ob (x:=M4 D) rfl (ob c rfl)
  rw[aT,s0];show Loop _ _=_
  rw[aT,s1];show Loop _ _=_
  rw[aT];rfl
 unfold fE;refine(show ao false _ (ao false _<|ao false _<|ao false _<|ao true _ _)=_ from ?_);rw[af,af,af,af,ae];refine ob (x:=(2:Int)) rfl ?_;refine(show ao false _ (ao true _ _)=_ from ?_);rw[af,ae];refine ob (x:=(0:Int)) rfl ?_;refine(show ao true _ _=_ from ?_);rw[ae];refine ob (x:=(0:Int)) rfl ?_;refine(show ao true _ _=_ from ?_);rw[ae];refine ob (x:=(2:Int)) rfl ?_;refine(show ao true _ _=_ from ?_);rw[ae];refine ob (x:=(2:Int)) rfl ?_;refine(show ao false _ _=_ from ?_);rw[af];refine ob d ?_;clear d b c a;obtain rfl:‹Lp›=Lp.lZ:=Lp.one _ _;kernel_rfl
def ak0{D N:Tx}(a:te (N,())=ab (D,()))(c:nj (N,())=ab (0,()))(d:N.length=1024)
  (e:mj (t3 D N [Iz],w1,())=ab ([],0,())) (f:mj (t3 D N [Iz],w4,())=ab ([],0,())) :
  jk (t3 D N [Iz],())=ab (true,()):=by
 have hlen:aS 1024 (len N)=true:=by rw[show len N=(1024:Int) by unfold len;rw[d];rfl];rfl
 have step:∀(i j:Int) (x:aD),ba i 2=true->idx [M1 D,M4 D] i=ab x->idx [N,N] i=ab N->x.2.2.2.2.2.2.1=true->x.2.2.2.2.2.1=0->x.2.2.2.2.1=1024->x.2.2.2.1=D ->
   mj (t3 D N [Iz],x.1,())=ab ([],0,())->aH IntKind.i64 i 1=j ->
   gV (t3 D N [Iz],()) ((false,i,()),())=ab (.inl ((false,j,()),())):=λi j x g h b k l m n o p=>by
  unfold gV;refine(show ao (ao (ba i 2) (ba i 2) false) _ _=_ from ?_);rw[g,ae,ae];refine ob (show idx (t3 D N [Iz]).2.2.1 i=ab x from h) ?_;rw[k,aG,af,l,aE rfl,aG,af];refine ob (show idx (t3 D N [Iz]).2.2.2.1 i=ab N from b) ?_;rw[m,hlen,aG,af];refine ob (show idx (t3 D N [Iz]).2.2.2.1 i=ab N from b) ?_;refine ob a ?_;rw[n,rR,aG,af];refine ob (show idx (t3 D N [Iz]).2.2.2.1 i=ab N from b) ?_;refine ob c ?_;rw[aE rfl,aG,af];refine ob o ?_;rw[aE rfl,aG,af,p]
 unfold jk;refine ob (x:=false) ?_ ?_
 .refine(show ao true _ _=_ from ?_);rw[ae];exact ob (mc D) rfl
 rw[af];refine ob (x:=(0,(false,(2:Int),()),())) ?_ rfl;rw[aT,step 0 1 (M1 D) rfl rfl rfl rfl rfl rfl rfl e rfl];show Loop _ _=_
 rw[aT,step 1 2 (M4 D) rfl rfl rfl rfl rfl rfl rfl f rfl];show Loop _ _=_
 rw[aT];rfl
def am2{D N:Tx}(a:fA (D,())=ab (0,()))(b:jk (t3 D N [Iz],())=ab (true,())):ka (t3 D N [Iz],())=ab (true,()):=by
 unfold ka;refine ob mk1 ?_;refine ob (x:=false) ?_ ?_
 .refine(show ao true _ _=_ from ?_);rw[ae];exact ob mk2 rfl
 refine ob (x:=false) ?_ ?_
 .refine(show ao true _ _=_ from ?_);rw[ae];exact ob (mk3 a) rfl
 refine ob (x:=false) ?_ ?_
 .refine(show ao true _ _=_ from ?_);rw[ae];exact ob b rfl
 refine(show ao false _ _=_ from ?_);rw[af];refine ob (lp0 D N) ?_;refine(show ao true _ _=_ from ?_);rw[ae];refine ob (lp1 D N) ?_;refine(show ao true _ _=_ from ?_);rw[ae];exact ob (lp3 D N) rfl
end Go.Ge.W24
namespace Go.Ge.W24
variable [Lp]
set_option maxRecDepth 100000
def yp{s0:az}{l:List cf}{i:Nat}{c:cf}{s b:az}{acc:List af8}{a:af8}{R:_}(f:l[i]?=ab c)(g:l.length<=1000)(j:acc.length<=1000)
  (d:dQ (s,c,())=ab (b,a,())) (h:Loop (gK (s0,l,())) (((),((i+1:Nat):Int),()),acc++[a],b,())=R) :
  Loop (gK (s0,l,())) (((),(i:Int),()),acc,s,())=R:=by
 have e:=aF f;have step:gK (s0,l,()) (((),(i:Int),()),acc,s,())=ab (.inl (((),((i+1:Nat):Int),()),acc++[a],b,())):=by
  unfold gK;dsimp only;rw[aq e,ae,au f,aa,d,aa];dsimp only;rw[bo<|by show _+1<=_;omega,ae,aL ai];rfl
 rw[aT,step];exact h
def ahW{s0:az}{l:List cf}{s:az}{acc:List af8} :
  Loop (gK (s0,l,())) (((),(l.length:Int),()),acc,s,())=ab (((),(l.length:Int),()),acc,s,()):=by
 have step:gK (s0,l,()) (((),(l.length:Int),()),acc,s,())=ab (.inr (((),(l.length:Int),()),acc,s,())):=by
  unfold gK;dsimp only;rw[aw,af];rfl
 rw[aT,step];rfl
def Tk:List cf:=[c1,c2,c3,c4,c5,c6,c7,c8]
def acV:List af8:=[okW w1,okW w2,(0,w3,0,w4,()),(7,[],0,[],()),okW w2,(0,w2,0,[118],()),(0,[],0,a7,()),(1,[],0,[],())]
def ahX{D N:Tx}(b:dQ (t0,c1,())=ab (t1 D N,okW w1,()))(c:dQ (t2 D N,c3,())=ab (t3 D N [],(0,w3,0,w4,()),())) :
  ym (t0,Tk,())=ab (t3 D N [Iz],acV,()):=by
 unfold ym;have d:=ahW (s0:=t0) (l:=Tk) (s:=t3 D N [Iz]) (acc:=acV);have a:Tk.length<=1000:=by show 8<=1000;decide
 have key:=yp (s0:=t0) (l:=Tk) (i:=0) (acc:=[]) rfl a (by show 0<=1000;decide) b
  (yp (i:=1) rfl a (by show 1<=1000;decide) (do2 D N)
  (yp (i:=2) rfl a (by show 2<=1000;decide) c
  (yp (i:=3) rfl a (by show 3<=1000;decide) (do4 D N)
  (yp (i:=4) rfl a (by show 4<=1000;decide) (do5 D N)
  (yp (i:=5) rfl a (by show 5<=1000;decide) (do6 D N)
  (yp (i:=6) rfl a (by show 6<=1000;decide) (do7 D N [Iz])
  (yp (i:=7) rfl a (by show 7<=1000;decide) (do8 D N [Iz]) d)))))))
 exact ob key rfl
def am3(D:Tx):bj [M1 D,M4 D] w1=([M1 D],0):=by rfl
def am4(D:Tx):bj [M1 D,M4 D] w4=([M4 D,M1 D],0):=by rfl
def aaJ{a:List aD}{N:List Tx}{id:Tx}{c:List aD}(b:bj a id=(c,0))(d:(c.reverse.map λx=>sK a N x.1)=List.replicate c.length (kF 1024)):eg a N id=([],0):=by
 unfold eg;rw[b,aX rfl];show sJ (c.reverse.map λx=>sK a N x.1) []=_
 rw[d];generalize c.length=n;induction n with
 | zero=>rfl
 | succ n e =>
   rw[adm];unfold sJ;rw[ahK Iq,aX rfl];exact e
def am5(D:Tx):eg [M1 D,M4 D] [kF 1024,kF 1024] w1=([],0):=aaJ (am3 D) (by rfl)
def am6(D:Tx):eg [M1 D,M4 D] [kF 1024,kF 1024] w4=([],0):=aaJ (am4 D) (by rfl)
def ajr:ka (t3 (ku<|kF 1024) (kF 1024) [Iz],())=ab (true,()):=by
 have a:(kF 1024).length=1024:=tj _;have hd:(ku<|kF 1024).length<=1048576:=by rw[Ji];decide
 refine am2 (by rw[Gq _ hd,Yl]) (ak0 (HO _<|by rw[a];decide) ?_ a ?_ ?_)
 .rw[xz];exact congrArg (λq=>ab (q,())) (aX acG)
 .rw[E6 _ _<|by show 2<=1000000;decide,show eg (t3 (ku<|kF 1024) (kF 1024) [Iz]).2.2.1 (t3 (ku<|kF 1024) (kF 1024) [Iz]).2.2.2.1 w1=([],0) from am5 _]
 .rw[E6 _ _<|by show 2<=1000000;decide,show eg (t3 (ku<|kF 1024) (kF 1024) [Iz]).2.2.1 (t3 (ku<|kF 1024) (kF 1024) [Iz]).2.2.2.1 w4=([],0) from am6 _]
def ahY:kz ()=ab (true,()):=by
 have a:=ahX do1 do3;have b:=ajr;have c:kY (acV,acV,())=ab (true,()):=by
  obtain rfl:‹Lp›=Lp.lZ:=Lp.one _ _;kernel_rfl
 have d:iJ ((7,0,[],[],[],[],[],0,()),())=ab ([2,3],()):=by
  obtain rfl:‹Lp›=Lp.lZ:=Lp.one _ _;kernel_rfl
 have e:tr ([2,3],[2,3],())=ab (true,()):=by
  obtain rfl:‹Lp›=Lp.lZ:=Lp.one _ _;kernel_rfl
 unfold kz;refine ob a (ob b ?_);refine ob (x:=true) ?_ ?_
 .show ag (kY (acV,acV,())) _=_
  exact ob c rfl
 refine ob (x:=true) ?_ rfl;rw[ae];exact ob d (ob e rfl)
end Go.Ge.W24
namespace Go.Ge
variable [Lp]
def Wu(c:cf):∃b,ui (c,())=ab (b,())/\(b=true->akY c):=by
 obtain⟨b,e,f⟩:=Sv c.2.2.2.2.1;unfold ui;rw[e,aa,gC (c:=8704) rfl,gC (c:=100) (l:=c.2.2.2.2.2.2.1) rfl];generalize ao (cu _ 100) _ false=q;cases q
 .exact⟨false,rfl,λh=>by cases h⟩
 by_cases a:c.2.2.2.2.2.1.length<=8704
 .by_cases d:c.2.2.2.2.2.2.1.length<=100
  .refine⟨b,?_,λh=>⟨f h,a,d⟩⟩;rw[dD a,dD d];rfl
  .refine⟨false,?_,λh=>by cases h⟩;rw[dD a,cL d];rfl
 .refine⟨false,?_,λh=>by cases h⟩;rw[cL a];rfl
def af9{s:az}(h:MZ s)(d:BdS s)(c:NC s):W24 s where
 hd:=d.hd
 dl:=by have:=h.aag;omega
 ml:=h.Yv
 Wc:=c.Wc
 WW:=c.WW
 Tb:=c.Tb
 bits:=λx a=>(d.xb x a).2.2.2.2
 Yv:=λx a=>(c.Yv x a).2
 idB:=λx a=>by have:=(c.b.bl x a).id.2;omega
 idI:=λx a=>by have:=(c.i.il x a).id.2;omega
 idL:=λx a=>by have:=(c.l.ll x a).id.2;omega
structure Zb (n:Nat) (s:az):Prop where
 bl:s.1.length<=n
 il:s.2.1.length<=n
 ll:s.2.2.1.length<=n
 dl:s.2.2.2.1.length<=n
 ml:s.2.2.2.2.1.length<=n
 xb:∀x∈s.1,sa x.2.1/\BB x.2.2.2.2.2.1
 xi:∀x∈s.2.1,sa x.2.1/\BB x.2.2.2.2.1
 xl:∀x∈s.2.2.1,sa x.2.2.1
def Zb.slf{s:az}(h:Zb 40 s):ajn s:=⟨by have:=h.bl;omega,by have:=h.il;omega,by have:=h.ll;omega,by have:=h.dl;omega,by have:=h.ml;omega,h.xb,h.xi,h.xl⟩
def Zb.row{s:az}(h:Zb 40 s):Y0 s:=⟨⟨h.ll,h.il,h.bl,h.xl,λx q=>(h.xi x q).1,λx q=>(h.xb x q).1,λx q=>(h.xi x q).2⟩,by have:=h.dl;omega,by have:=h.ml;omega⟩
def Zb.up{s:az}(h:Zb 39 s):Zb 40 s:=⟨by have:=h.bl;omega,by have:=h.il;omega,by have:=h.ll;omega,by have:=h.dl;omega,by have:=h.ml;omega,h.xb,h.xi,h.xl⟩
def Zb.ite{p:Prop}[Decidable p]{u v:az×tp×al}(a:p->Zb 40 u.1)(b:¬p->Zb 40 v.1):Zb 40 (if p then u else v).1:=by
 grind
def ajs{s:az}(h:MZ s)(b:NC s):Zb 39 s:=⟨by have:=b.ahF;omega,by have:=b.ahE;omega,by have:=h.lays;omega,by have:=h.aag;omega,by have:=b.aji;omega,λx a=>⟨h.base.bn x a,(h.base.bm x a).2⟩,λx a=>⟨h.base.pJ x a,(h.base.im x a).2⟩,h.base.ln⟩
def Zb.part{s:az}(h:Zb 39 s)(c:cf):Zb 39 (ch s c) :=
 ⟨qd h.bl bb,qd h.il bb,qd h.ll bb,qd (by rw[gp];exact h.ll) bb,qd h.ml bb,
  λx q=>h.xb x ((xG q).resolve_right bb),λx q=>h.xi x ((xG q).resolve_right bb),λx q=>h.xl x ((xG q).resolve_right bb)⟩
def ak1{s t:az}(b:Fl s)(a:Fl t)(c:cf):Fl (Iu t c<|ch s c):=by
 unfold Iu ch;cases cS c 3
 .exact⟨a.Tb,a.len,a.nm⟩
 .exact⟨b.Tb,uY (xE _ _),b.nm⟩
def ak2{s t:az}(a:W24 s)(b:W24 t)(c:cf):W24 (Iu t c<|ch s c):=by
 have d:(CB t<|ch s c).length<=40\/cS c 3=false:=by
  unfold ch;cases cS c 3
  .exact .inr rfl
  .exact .inl (by unfold CB;rw[uY<|xE _ _];exact a.hd.ll)
 revert d
 unfold Iu ch;generalize CB t _=D;cases cS c 3<;>intro d<;>cases cS c 1<;>cases cS c 2<;>cases dX c;all_goals
  refine⟨⟨?_,?_,?_,?_,?_,?_,?_⟩,?_,?_,?_,?_,?_,?_,?_,?_,?_,?_⟩
  .first|exact a.hd.ll|exact b.hd.ll
  .first|exact a.hd.il|exact b.hd.il
  .first|exact a.hd.bl|exact b.hd.bl
  .first|exact a.hd.ln|exact b.hd.ln
  .first|exact a.hd.pJ|exact b.hd.pJ
  .first|exact a.hd.bn|exact b.hd.bn
  .first|exact a.hd.it|exact b.hd.it
  .first|exact b.dl|exact d.resolve_right bb
  .first|exact a.ml|exact b.ml
  .first|exact a.Wc|exact b.Wc
  .first|exact a.WW|exact b.WW
  .first|exact a.Tb|exact b.Tb
  .first|exact a.bits|exact b.bits
  .first|exact a.Yv|exact b.Yv
  .first|exact a.idB|exact b.idB
  .first|exact a.idI|exact b.idI
  .first|exact a.idL|exact b.idL
def Tl{u v:az}(h:ajn v)(f:u.2.2.2.1.length<=1000000)(a:u.1=v.1)(b:u.2.1=v.2.1)(c:u.2.2.1=v.2.2.1)(d:u.2.2.2.2.1=v.2.2.2.2.1) :
  wi (u,v,())=ab (decide<|u.2.2.2.1=v.2.2.2.1,()):=by
 unfold wi;dsimp only;rw[a,b,c,d,YV _ h.bl h.xb,aa];dsimp only;rw[ae,V9 _ h.il h.xi,aa,aa,ae,Wa _ h.ll (λx e=>(h.xl x e).small),aa,aa,ae,Bc _ _ ai,aa,aa];cases decide (u.2.2.2.1=v.2.2.2.1)
 .rfl
 .rw[ae,Wb _ h.ml];rfl
def aga{s t:az}(c:cf):(ch (Iu t c<|ch s c) c).1=(ch s c).1/\(ch (Iu t c<|ch s c) c).2.1=(ch s c).2.1/\(ch (Iu t c<|ch s c) c).2.2.1=(ch s c).2.2.1/\(ch (Iu t c<|ch s c) c).2.2.2.2.1=(ch s c).2.2.2.2.1:=by
 refine⟨?_,?_,?_,?_⟩
 .unfold ch Iu;cases cS c 1<;>rfl
 .unfold ch Iu;cases cS c 2<;>rfl
 .unfold ch Iu;cases cS c 3<;>rfl
 .unfold ch Iu;cases dX c<;>rfl
def NZ(v:kz ()=ab (true,()))(s t:az)(c:cf)(w:BkS s)(e:BkS t):ig (s,t,c,())=ab (true,()):=by
 obtain⟨x,y,z⟩:=QK s;obtain⟨A,B,C⟩:=QK t;obtain⟨D,E,F⟩:=Wu c;unfold ig;rw[y,aa,B,E,v];cases x with
 | false=>rfl
 | true =>
 cases A with
 | false=>rfl
 | true =>
 cases D with
 | false=>rfl
 | true =>
 have h:=z rfl;have i:=h.bd w;have k:=C rfl;have a:=k.bd e;obtain⟨G,H,I⟩:=Q6 s i;obtain⟨J,K,L⟩:=Q6 t a;rw[H,K];cases G with
 | false=>rfl
 | true =>
 cases J with
 | false=>rfl
 | true =>
 have l:=F rfl;have b:=I.1 rfl;have m:=L.1 rfl;have d:=af9 h i b;have n:=af9 k a m;have f:=ak2 d n c;have g:=((ajs h b).part c).up;obtain⟨o,p,r,u⟩:=aga (s:=s) (t:=t) c;simp only[aG,aA,ae,af,aa];rw[Wo s c d.row,aa,afF t _ c n.row (d.part c).row,aa,Wo _ c f.row,aa,aa,Tl g.slf (by have:=(f.part c).dl;omega) o p r u,aa];by_cases q:(ch (Iu t c<|ch s c) c).2.2.2.1=(ch s c).2.2.2.1
 rotate_left
 .rw[cL q];rfl
 have j:(doF (Iu t c<|ch s c) c).2=(doF s c).2:=by
  rw[<-(aaI b.j c).1,<-(aaI (ak1 b.j m.j c) c).1,show ch (Iu t c<|ch s c) c=ch s c from Fw o (Fw p<|Fw r<|Fw q<|Fw u rfl)]
 rw[dD q,aG,af,af6 d l,aa,af6 f l,aa,j,afC];rfl
def Kn(s t:az)(c:cf)(b:BkS s)(a:BkS t):ig (s,t,c,())=ab (true,()):=NZ W24.ahY s t c b a
end Go.Ge
