import Derived.Test.YtcebnmppipejfaaGreatDoorPlH
set_option linter.unusedSectionVars false
set_option linter.unusedVariables false
set_option linter.unusedSimpArgs false
set_option linter.defProp false
noncomputable section
open Option renaming some->ab,none->ah
namespace Go.Ge
variable [Lp]
def JI(k:Int):aw:=if 1<=k/\k<=3 then(if k=1 then [43] else if k=2 then [126] else [45]) else [63]
def xL(c:Dl):aw:=JI c.1++[32]++sg c.2.1++[10]
def Rv(k:Int):(JI k).length=1:=by
 unfold JI
 grind
def Rw(c:Dl):(xL c).length=2*c.2.1.length+3:=by
 unfold xL;simp only[hY,Rv,lY,eU,gj];omega
def aaV{a b:Type}(g:a->List b)(k:Nat):∀l:List a,(∀x∈l,(g x).length<=k)->(l.flatMap g).length<=l.length*k:=by
 intro l;induction l with
 | nil=>simp
 | cons x r c =>
   intro h;have e:=h x aY;have f:=c λy d=>h y (by simp[d]);simp only[ZK,hY,eU,jc];omega
def af6{k:Int}(a:1<=k)(b:k<=3):idx ([[],[43],[126],[45]]:List aw) k=ab (JI k):=by
 have:k=1\/k=2\/k=3:=ai;rcases this with rfl|rfl|rfl<;>rfl
def ac6(l:List Dl)(q:l.length<=4096)(j:∀c∈l,c.2.1.length<=4096):we (l,())=ab (l.flatMap xL,()):=by
 unfold we;have key:=rY (f:=mQ (l,())) l (λ(out:List Int) i=>((i,()),((),(),()),out,())) (λc=>aC (xL c)) (((l.length:Int),()),((),(),()),l.flatMap<|λc=>aC (xL c),()) ai (λi x k n a=>by
  have b:((l.take i).flatMap λc=>aC (xL c)).length<=(l.take i).length*8200:=aaV _ _ _ λc o=>by
   have:=j c (Hq o);rw[Ti,Rw];omega
  rw[km] at b;have p:=j x (eT k);have h:=Rw x;have fin:∀s:aw,s=JI x.1->(ao (fits<|plus (len s)<|len ([32]:aw)) (ag (mg (x.2.1,())) λ(d:aw×al)=>ao (fits<|plus (@len UInt8<|@app UInt8 s ([(32:UInt8)]:aw))<|@len UInt8 d.1)
   (ao (fits<|plus (@len UInt8<|@app UInt8 (@app UInt8 s ([(32:UInt8)]:aw)) d.1)<|@len UInt8 ([(10:UInt8)]:aw))
   (ao (fits<|plus (@len Int<|(l.take i).flatMap λc=>aC (xL c))<|@len Int<|aC<|@app UInt8 (@app UInt8 (@app UInt8 s ([(32:UInt8)]:aw)) d.1) ([(10:UInt8)]:aw))
   (ab (Sum.inl (((((i+1:Nat):Int)),()),((),(),()),@app Int ((l.take i).flatMap λc=>aC (xL c))<|aC<|@app UInt8 (@app UInt8 (@app UInt8 s ([(32:UInt8)]:aw)) d.1) ([(10:UInt8)]:aw),()):(((Int×al)×(al×al×al)×(List<|Int)×al))⊕((Nat×(Int×al)×(al×al×al)×(List<|Int)×al))))
   ah) ah) ah) ah)=ab (Sum.inl ((((i+1:Nat):Int),()),((),(),()),(l.take i).flatMap (λc=>aC (xL c))++aC (xL x),())):=λs e=>by
   subst e;have g:=Rv x.1;rw[bo nU,ae,SR _ ai,aa];rw[bo<|by rw[vm,hY,lY];simp;omega,ae,bo (by rw[vm,vm,hY,hY,lY];simp;omega),ae];rw[show app (app (app (JI x.1) [32])<|sg x.2.1) [10]=xL x from rfl,bo (by rw[Ti,h];omega),ae];rfl
  unfold mQ;rw[aq n,ae,au k,aa,a];by_cases g:1<=x.1
  .by_cases m:x.1<=3
   .rw[bO g,bO m,ae,ae,aM ai ai,ae,af6 g m,aa,aa];rw[fin _ rfl];rfl
   .rw[bO g,ea ai,ae,af,aa];rw[fin _<|by unfold JI;rw[aQ ai]];rfl
  .rw[ea ai,af,af,aa];rw[fin _<|by unfold JI;rw[aQ ai]];rfl) (by
  unfold mQ;rw[ay,af];rfl)
 rw[show Loop (mQ (l,())) (((0:Int),()),((),(),()),([]:List Int),())=_ from key,aa];have:l.flatMap (λc=>aC (xL c))=aC (l.flatMap xL):=by
  unfold aC;rw[List.map_flatMap]
 rw[this,mM]
def af7:∀(a b:List Nd),∀c∈Ho a b,(∃x∈a,c.2.1=x.1)\/∃x∈b,c.2.1=x.1:=by
 intro a b;induction a,b using Ho.induct<;>grind [Ho]
def ac7{a b:List Nd}(f:Valid a)(g:Valid b):(Ho a b).length<=4096/\∀c∈Ho a b,c.2.1.length<=4096:=by
 have i:=f.few;have j:=g.few;refine⟨by have:=aih _ a b (cq _);omega,λc h=>?_⟩;rcases af7 a b c h with ⟨n,d,e⟩|⟨n,d,e⟩
 .rw[e];have:=((gN f).2 n d).1;omega
 .rw[e];have:=((gN g).2 n d).1;omega
def IE{s:aA}(h:W24 s)(p:Tx):js (s,p,())=ab ((Fw s p).1,(Fw s p).2,()):=by
 unfold js Fw;by_cases q:p=[]
 .rw[cN q,ae,aW q]
 .rw[bw q,af,aQ q];exact ob (h.tree p) rfl
def chA(s:aA)(a:Tx):tF :=
 if(aX (eS s) a).2.1≠0 then iZ (aX (eS s) a).2.1 else
 if(eg s.2.2.1 s.2.2.2.1 (aX (eS s) a).1).2≠0 then iZ (eg s.2.2.1 s.2.2.2.1 (aX (eS s) a).1).2 else
 if(Fw s (lQ s (aX (eS s) a).1).1.2.1).2≠0 then iZ (Fw s (lQ s (aX (eS s) a).1).1.2.1).2 else
 (0,(aX (eS s) a).1,0,(Ho (Fw s (lQ s (aX (eS s) a).1).1.2.1).1 (eg s.2.2.1 s.2.2.2.1 (aX (eS s) a).1).1).flatMap xL,())
def Fj{s:aA}(h:W24 s)(a:Tx):pH (s,a,())=ab (chA s a,()):=by
 unfold pH chA;refine ob (gb s a h.hd) ?_;by_cases c:(aX (eS s) a).2.1=0
 rotate_left
 .rw[ax c,az,ae,aW c];rfl
 rw[aE c,aF,af,aQ λq=>q c];refine ob (yx s _ (by have:=h.hd.ll;omega) λx g=>(h.hd.ln x g).small) ?_;refine ob (h.tree _) ?_;by_cases c2:(eg s.2.2.1 s.2.2.2.1 (aX (eS s) a).1).2=0
 rotate_left
 .rw[ax c2,az,ae,aW c2];rfl
 rw[aE c2,aF,af,aQ λq=>q c2];refine ob (IE h _) ?_;by_cases c3:(Fw s (lQ s (aX (eS s) a).1).1.2.1).2=0
 rotate_left
 .rw[ax c3,az,ae,aW c3];rfl
 rw[aE c3,aF,af,aQ λq=>q c3];have b:=Ru c3;have d:=N3 c2;have f:=ac7 b d;have e:=WG _ _ (gN b) (gN d);unfold af5 at e;rw[aW ⟨b,d⟩] at e;refine ob e ?_;exact ob (ac6 _ f.1 f.2) rfl
def Fk(k:Nat):∀(l:List Tx),(∀x∈l,x.length<=k)->(Lib.join l [32]).length<=l.length*(k+1)
 | [],_=>qO _
 | [a],h=>by have:=h a aY;simp[Lib.join];omega
 | a::b::r,h=>by
   have f:=h a aY;have c:=Fk k (b::r) λx d=>h x (by simp[d]);have e:Lib.join (a::b::r) [32]=a++[32]++Lib.join (b::r) [32]:=by simp[Lib.join]
   rw[e];simp only[hY,eU,gj,jc] at c⊢;omega
def ajR(l:List Tx)(a:l.length<=1000)(k:Nat)(b:k<=1000000)(h:∀x∈l,x.length<=k):lj (l,[32],())=ab (Lib.join l [32],()):=by
 have:=Fk k l h;have c:l.length*(k+1)<=1000*1000001:=adQ a ai;show(EW l [32]).map (λy=>(y,()))=_
 unfold EW
 grind
def alg(l:List Nm):Tx:=bu (l.flatMap λx=>aC (Lib.join (x.1::x.2.1) [32]++[10]))
def KA(l:List Nm)(p:l.length<=40)(j:∀x∈l,x.1.length<=1000/\nZ x.2.1):y3 (l,())=ab (alg l,()):=by
 have a:∀x∈l,(Lib.join (x.1::x.2.1) [32]).length<=9009:=λx b=>by
  have h:=j x b;have:=Fk 1000 (x.1::x.2.1) (λy hy=>by
   rcases ld.1 hy with rfl|hy
   .grind
   .have:=h.2.2 y hy;omega)
  have m:=h.2.1
  grind
 have key:=rY (f:=pI (l,())) l (λ(out:List Int) i=>((i,()),((),(),()),out,())) (λx=>aC (Lib.join (x.1::x.2.1) [32]++[10])) (((l.length:Int),()),((),(),()),l.flatMap<|λx=>aC (Lib.join (x.1::x.2.1) [32]++[10]),()) ai (λi x b g d=>by
  have e:((l.take i).flatMap λx=>aC (Lib.join (x.1::x.2.1) [32]++[10])).length<=(l.take i).length*9010:=aaV _ _ _ λc n=>by
   have:=a c (Hq n);rw[Ti,hY];simp only[DE];omega
  rw[km] at e;have k:=j x (eT b);have o:=a x (eT b);have m:=k.2.1;unfold pI;rw[aq g,ae,au b,aa,d,bo (by simp only[DE];omega),ae,show @app Tx [x.1] x.2.1=x.1::x.2.1 from rfl,
   show lj (x.1::x.2.1,(([32]:aw),()))=_ from ajR _ nU 1000 ai (λy hy=>by
    rcases ld.1 hy with rfl|hy
    .grind
    .have:=k.2.2 y hy;omega),aa]
  rw[bo<|by simp only[DE];omega,ae,show app (Lib.join (x.1::x.2.1) [32]) [10]=Lib.join (x.1::x.2.1) [32]++[10] from rfl,bo (by rw[Ti,hY];simp only[DE];omega),ae];rfl) (by
  unfold pI;rw[ay,af];rfl)
 exact ob key rfl
def IF{a:Type}(b:a->Tx)(l:List a)(d:a)(id:Tx):a:=(l.find? λx=>decide (b x=id)).getD d
def AU{b:Type}{a:b->Tx}{l:List b}{d:b}(f:vu a l){x:b}(e:x∈l):IF a l d (a x)=x:=by
 unfold IF;cases c:l.find? (λy=>decide (a y=a x)) with
 | none=>have:=T6.1 c x e;simp at this
 | some y =>
   have g:=Xf c;have h:a y=a x:=by simpa using Qo c
   rw[f.inj a g e h];rfl
def AN.alh{s:aA}(h:AN s):FewB (0,s.2.2.1,s.2.1,s.1,()):=⟨h.ll,h.ln,h.il,h.pV,h.bl,h.bn⟩
def vh(s:aA)(k:Int):List Nm:=ofV k (0,s.2.2.1,s.2.1,s.1,())
def IG(s:aA)(k:Int):(k=1/\vh s k=AM s)\/(k=2/\vh s k=xG s)\/(k=3/\vh s k=eS s)\/vh s k=[]:=by
 unfold vh ofV AM xG eS;by_cases a:k=1
 .exact .inl ⟨a,by rw[aW a]⟩
 by_cases b:k=2
 .exact .inr (.inl ⟨b,by rw[aQ a,aW b]⟩)
 by_cases c:k=3
 .exact .inr (.inr<|.inl ⟨c,by rw[aQ a,aQ b,aW c]⟩)
 .exact .inr (.inr<|.inr<|by rw[aQ a,aQ b,aQ c])
def TD{s:aA}(h:AN s)(k:Int):(vh s k).length<=40:=by
 rcases IG s k with ⟨_,e⟩|⟨_,e⟩|⟨_,e⟩|e<;>rw[e]
 .exact aaT h
 .exact jb (lW K2 _) h.il
 .exact aaI h
 .exact qO _
def Rx{s:aA}(h:AN s)(k:Int):Small (vh s k):=Dm k _ h.alh
def JJ{s:aA}(h:AN s)(k:Int):qg (s,k,())=ab (vh s k,()):=by
 unfold qg;dsimp only;exact ob (vZ k _ h.alh) rfl
def Ob(l:List It)(p d:Tx):(tu l p d).1.length<=l.length+1:=by
 unfold tu;have h:=ahD l p;split
 .split
  .exact qO _
  .unfold Px;have e:=congrArg List.length (BP (p:=λy:It=>fq y.1 p) (l:=rmI l p));simp only[hY,DE] at e⊢;omega
 .exact qO _
def R1:ep:=([],[],[],[],[],[],())
def im0:bI:=([],[],[],[],[],())
def itF(l:List Item)(c:cf)(id:Tx):Option (List Item)×tF :=
 if c.1=10 then(if(Nh l c.2.2.2.2.2.2.1).2≠0 then(ah,iZ (Nh l c.2.2.2.2.2.2.1).2) else(ah,0,id,0,(Nh l c.2.2.2.2.2.2.1).1,()))
 else(if(tu l c.2.2.2.2.2.2.1 c.2.2.2.2.2.1).2≠0 then(ah,iZ (tu l c.2.2.2.2.2.2.1 c.2.2.2.2.2.1).2) else(ab (tu l c.2.2.2.2.2.2.1 c.2.2.2.2.2.1).1,xF id))
def ali(a:List ep)(id:Tx):Option (List Item)->List ep
 | none=>a
 | some l=>kH (·.1) (vg (·.1) a id) (id,((IF (·.1) a R1 id).2.1,((IF (·.1) a R1 id).2.2.1,((IF (·.1) a R1 id).2.2.2.1,((IF (·.1) a R1 id).2.2.2.2.1,l,())))))
def af8(a:List bI)(id:Tx):Option (List Item)->List bI
 | none=>a
 | some l=>kH (·.1) (vg (·.1) a id) (id,((IF (·.1) a im0 id).2.1,((IF (·.1) a im0 id).2.2.1,((IF (·.1) a im0 id).2.2.2.1,l,()))))
def itS(s:aA)(c:cf):aA×tF×al :=
 if ¬c.2.1∈cG c then(s,iZ 1,()) else
 if(aX (vh s c.2.1) c.2.2.1).2.1≠0 then(s,iZ (aX (vh s c.2.1) c.2.2.1).2.1,()) else
 if c.2.1=1 then((ali s.1 (aX (vh s c.2.1) c.2.2.1).1 (itF (IF (·.1) s.1 R1 (aX (vh s c.2.1) c.2.2.1).1).2.2.2.2.2.1 c (aX (vh s c.2.1) c.2.2.1).1).1,s.2),((itF (IF (·.1) s.1 R1 (aX (vh s c.2.1) c.2.2.1).1).2.2.2.2.2.1 c (aX (vh s c.2.1) c.2.2.1).1).2,()))
 else((s.1,(af8 s.2.1 (aX (vh s c.2.1) c.2.2.1).1 (itF (IF (·.1) s.2.1 im0 (aX (vh s c.2.1) c.2.2.1).1).2.2.2.2.1 c (aX (vh s c.2.1) c.2.2.1).1).1,s.2.2)),((itF (IF (·.1) s.2.1 im0 (aX (vh s c.2.1) c.2.2.1).1).2.2.2.2.1 c (aX (vh s c.2.1) c.2.2.1).1).2,()))
def Oc{c:cf}(a:c.1=9\/c.1=10)(h:c.2.1∈cG c):c.2.1=1\/c.2.1=2:=by
 unfold cG PK at h;rw[aQ ai,aQ ai,aQ ai,aQ ai,aW ai] at h;split at h
 .rename_i q;simpa using q
 .cases h
def af9{s:aA}(h:W24 s)(c:cf)(p:c.1=9\/c.1=10)(o:c.2.2.2.2.2.1.length<=1048576):wz (s,c,())=ab (itS s c):=by
 have r:=h.hd.bl;have t:=h.hd.il;unfold wz itS;refine ob (IC c) (ob (wD (cG c) c.2.1 (by have:=N5 c;omega)) ?_);dsimp only;by_cases m:c.2.1∈cG c
 rotate_left
 .rw[cL m,az,ae,aW m];rfl
 rw[dE m,aF,af,aQ λq=>q m];refine ob (JJ h.hd _) (ob (mN (vh s c.2.1) c.2.2.1 (Rx h.hd _) (by have:=TD h.hd c.2.1;omega)) ?_);by_cases j:(aX (vh s c.2.1) c.2.2.1).2.1=0
 rotate_left
 .rw[ax j,az,ae,aW j];rfl
 rw[aE j,aF,af,aQ λq=>q j];obtain⟨y,l,u⟩:=zO j;rw[<-u];rcases Oc p m with k|k
 .rw[show vh s c.2.1=AM s from by rw[k];rfl] at l;obtain⟨x,b,rfl⟩:=Ll l;dsimp only;rw[aW k,aE k,ae,AU (d:=R1) h.Y9 b];obtain⟨g,f,i⟩:=y4 s x.1 h.hd h.bits;have v:=(h.bits x b).1;refine ob f ?_;rw[i x b h.Y9 rfl];unfold itF;by_cases a:c.1=10
  .rw[aW a,aE a,ae];refine ob (Jy _ _ BF) ?_;dsimp only;by_cases e:(Nh x.2.2.2.2.2.1 c.2.2.2.2.2.2.1).2=0
   .rw[aQ<|λq=>q e,aE e,aF,af];rfl
   .rw[aW e,ax e,az,ae];rfl
  .rw[aQ a,ax a,af];refine ob (Jz _ _ _ BF o) ?_;dsimp only;by_cases e:(tu x.2.2.2.2.2.1 c.2.2.2.2.2.2.1 c.2.2.2.2.2.1).2=0
   .rw[aQ<|λq=>q e,aE e,aF,af];have n:=Ob x.2.2.2.2.2.1 c.2.2.2.2.2.2.1 c.2.2.2.2.2.1;refine ob (Ei s _ ai (by dsimp only;exact(h.hd.bn x b).small) BF h.Y9 ⟨x,b,rfl⟩) ?_;unfold ali;rw[AU (d:=R1) h.Y9 b];rfl
   .rw[aW e,ax e,az,ae];rfl
 .rw[show vh s c.2.1=xG s from by rw[k];rfl] at l;obtain⟨x,b,rfl⟩:=Lk l;dsimp only;rw[aQ ai,ax ai,af,AU (d:=im0) h.upI b];obtain⟨g,f,i⟩:=xH s x.1 h.hd;have v:=(h.hd.it x b).1;refine ob f ?_;rw[i x b h.upI rfl];unfold itF;by_cases a:c.1=10
  .rw[aW a,aE a,ae];refine ob (Jy _ _ BF) ?_;dsimp only;by_cases e:(Nh x.2.2.2.2.1 c.2.2.2.2.2.2.1).2=0
   .rw[aQ<|λq=>q e,aE e,aF,af];rfl
   .rw[aW e,ax e,az,ae];rfl
  .rw[aQ a,ax a,af];refine ob (Jz _ _ _ BF o) ?_;dsimp only;by_cases e:(tu x.2.2.2.2.1 c.2.2.2.2.2.2.1 c.2.2.2.2.2.1).2=0
   .rw[aQ<|λq=>q e,aE e,aF,af];have n:=Ob x.2.2.2.2.1 c.2.2.2.2.2.2.1 c.2.2.2.2.2.1;refine ob (CL s _ ai (by dsimp only;exact(h.hd.pV x b).small) BF h.upI ⟨x,b,rfl⟩) ?_;unfold af8;rw[AU (d:=im0) h.upI b];rfl
   .rw[aW e,ax e,az,ae];rfl
def ly0:aD:=([],[],[],[],(0:Int),(0:Int),false,())
def rnB(a:List ep)(id:Tx)(g:List Tx):List ep:=kH (·.1) (vg (·.1) a id) (id,(g,(IF (·.1) a R1 id).2.2))
def rnI(a:List bI)(id:Tx)(g:List Tx):List bI:=kH (·.1) (vg (·.1) a id) (id,(g,(IF (·.1) a im0 id).2.2))
def rnL(a:List aD)(id:Tx)(g:List Tx):List aD:=a.set ((Ef a id).getD 0) (id,((IF (·.1) a ly0 id).2.1,(g,(IF (·.1) a ly0 id).2.2.2)))
def rnS(s:aA)(k:Int)(id:Tx)(g:List Tx):aA :=
 if k=1 then(rnB s.1 id g,s.2) else if k=2 then(s.1,rnI s.2.1 id g,s.2.2) else(s.1,s.2.1,rnL s.2.2.1 id g,s.2.2.2)
def rcE(s:aA)(c:cf):Int:=if(aX (vh s c.2.1) c.2.2.1).2.1=0/\c.1=13 then mL (vh s c.2.1) (aX (vh s c.2.1) c.2.2.1).1 c.2.2.2.2.1 else(aX (vh s c.2.1) c.2.2.1).2.1
def rcS(s:aA)(c:cf):aA×tF×al :=
 if ¬c.2.1∈cG c then(s,iZ 1,()) else
 if c.1=15 then(s,(0,[],0,alg<|vh s c.2.1,()),()) else
 if c.1=13/\jk c.2.2.2.2.1≠0 then(s,iZ 1,()) else
 if rcE s c≠0 then(s,iZ<|rcE s c,()) else
 if c.1=13 then(rnS s c.2.1 (aX (vh s c.2.1) c.2.2.1).1 c.2.2.2.2.1,xF (aX (vh s c.2.1) c.2.2.1).1,()) else(s,xF (aX (vh s c.2.1) c.2.2.1).1,())
def ac8{c:cf}(a:c.1=13\/c.1=14\/c.1=15)(h:c.2.1∈cG c):c.2.1=1\/c.2.1=2\/c.2.1=3:=by
 unfold cG PK at h;rw[aQ ai,aQ ai,aQ ai,aQ ai,aQ ai,aW ai] at h;split at h
 .rename_i q;simpa using q
 .cases h
def agc{s:aA}(h:W24 s)(k:Int):∀x∈vh s k,x.1.length<=1000/\nZ x.2.1:=λx b=>by
 rcases IG s k with ⟨_,e⟩|⟨_,e⟩|⟨_,e⟩|e<;>rw[e] at b
 .obtain⟨y,a,rfl⟩:=Ll b;exact⟨h.idB y a,h.hd.bn y a⟩
 .obtain⟨y,a,rfl⟩:=Lk b;exact⟨h.idI y a,h.hd.pV y a⟩
 .obtain⟨y,a,rfl⟩:=Tt b;exact⟨h.idL y a,h.hd.ln y a⟩
 .cases b
def Ry{s:aA}{k:Int}{a:Tx}(h:(aX (vh s k) a).2.1=0):(k=1/\∃x∈s.1,x.1=(aX (vh s k) a).1)\/(k=2/\∃x∈s.2.1,x.1=(aX (vh s k) a).1)\/(k=3/\∃x∈s.2.2.1,x.1=(aX (vh s k) a).1):=by
 obtain⟨y,b,f⟩:=zO h;rcases IG s k with ⟨c,e⟩|⟨c,e⟩|⟨c,e⟩|e<;>rw[e] at b
 .obtain⟨x,d,rfl⟩:=Ll b;exact .inl ⟨c,x,d,f⟩
 .obtain⟨x,d,rfl⟩:=Lk b;exact .inr (.inl ⟨c,x,d,f⟩)
 .obtain⟨x,d,rfl⟩:=Tt b;exact .inr (.inr ⟨c,x,d,f⟩)
 .cases b
def ac9{s:aA}(h:W24 s)(c:cf)(n:c.1=13\/c.1=14\/c.1=15)(o:c.2.2.2.2.1.length<=1000)
  (f:∀id,(c.2.1=1/\∃x∈s.1,x.1=id)\/(c.2.1=2/\∃x∈s.2.1,x.1=id)\/(c.2.1=3/\∃x∈s.2.2.1,x.1=id)->hW (s,c.2.1,id,c.2.2.2.2.1,())=ab (rnS s c.2.1 id c.2.2.2.2.1,())) :
  sE (s,c,())=ab (rcS s c):=by
 unfold sE rcS;refine ob (JJ h.hd _) (ob (IC c)<|ob (wD (cG c) c.2.1 (by have:=N5 c;omega)) ?_);dsimp only;by_cases m:c.2.1∈cG c
 rotate_left
 .rw[cL m,az,ae,aW m];rfl
 rw[dE m,aF,af,aQ λq=>q m];by_cases a:c.1=15
 .rw[aW a,aE a,ae];exact ob (KA (vh s c.2.1) (TD h.hd _)<|agc h _) rfl
 rw[aQ a,ax a,af];have e:=Rx h.hd c.2.1;have p:=TD h.hd c.2.1;have g:(ao (aS c.1 13) (ag (fH (c.2.2.2.2.1,())) λi=>ab (nt<|aS i.1 0))<|some false)=ab (decide<|c.1=13/\jk c.2.2.2.2.1≠0):=by
  by_cases q:c.1=13
  .rw[aE q,ae,rm _ ai,aa];by_cases b:jk c.2.2.2.2.1=0
   .rw[aE b,cL λz=>z.2 b];rfl
   .rw[ax b,dE ⟨q,b⟩];rfl
  .rw[ax q,af,cL λz=>q z.1]
 refine ob g ?_;by_cases c1:c.1=13/\jk c.2.2.2.2.1≠0
 .rw[dE c1,ae,aW c1];rfl
 rw[cL c1,af,aQ c1];refine ob (mN (vh s c.2.1) c.2.2.1 e ai) ?_;have j:(ao (ao (aS (aX (vh s c.2.1) c.2.2.1).2.1 0) (aS c.1 13) false) (ag (gz (vh s c.2.1,(aX (vh s c.2.1) c.2.2.1).1,c.2.2.2.2.1,())) λk=>ab ((k.1,()),()))<|some (((aX (vh s c.2.1) c.2.2.1).2.1,()),()))=ab ((rcE s c,()),()):=by
  unfold rcE;by_cases q:(aX (vh s c.2.1) c.2.2.1).2.1=0
  .rw[aE q,ae];by_cases b:c.1=13
   .rw[aE b,ae,aW ⟨q,b⟩,ot _ _ _ e ai,aa]
   .rw[ax b,af,aQ λz=>b z.2]
  .rw[ax q,af,af,aQ λz=>q z.1]
 refine ob j ?_;by_cases c2:rcE s c=0
 rotate_left
 .rw[aW c2];dsimp only;rw[ax c2,az,ae];rfl
 rw[aQ λq=>q c2];dsimp only;rw[aE c2,aF,af];by_cases d:c.1=13
 .rw[aW d,aE d,ae];have l:(aX (vh s c.2.1) c.2.2.1).2.1=0:=JS λq=>by
   unfold rcE at c2;rw[aQ λz=>q z.1] at c2;exact q c2
  rw[f _<|Ry l];rfl
 .rw[aQ d,ax d,af];rfl
def Rz{s:aA}(h:W24 s)(k:Int)(g:List Tx)(m:g.length<=1000)(id:Tx)(a:(k=1/\∃x∈s.1,x.1=id)\/(k=2/\∃x∈s.2.1,x.1=id)):hW (s,k,id,g,())=ab (rnS s k id g,()):=by
 have i:=h.hd.bl;have j:=h.hd.il;unfold hW rnS;dsimp only;rcases a with ⟨e,x,a,rfl⟩|⟨f,x,a,rfl⟩
 .rw[aW e,aE e,ae];obtain⟨r,b,c⟩:=y4 s x.1 h.hd h.bits;refine ob b ?_;rw[c x a h.Y9 rfl];have l:=(h.bits x a).1;refine ob (Ei s _ ai BF BF h.Y9 ⟨x,a,rfl⟩) ?_;unfold rnB;rw[AU (d:=R1) h.Y9 a]
 .rw[aQ ai,ax ai,af,aW f,aE f,ae];obtain⟨r,b,c⟩:=xH s x.1 h.hd;refine ob b ?_;rw[c x a h.upI rfl];have l:=(h.hd.it x a).1;refine ob (CL s _ ai BF BF h.upI ⟨x,a,rfl⟩) ?_;unfold rnI;rw[AU (d:=im0) h.upI a]
structure IH (s:aA):Prop where
 Y8:vu (·.1) s.2.2.1
 len:s.2.2.2.1.length=s.2.2.1.length
 nm:∀y∈s.2.2.1,((y.1,y.2.2.1,()):Nm)∈eS s
def zR{s:aA}(h:IH s){j:Nat}{y:aD}(a:s.2.2.1[j]?=ab y):lQ s y.1=(y,(s.2.2.2.1[j]?).getD [],true,()):=by
 unfold lQ;rw[Dz h.Y8 a];dsimp only;rw[a]
def ada{s:aA}{id:Tx}(h:∀y∈s.2.2.1,y.1≠id):(lQ s id).2.2.1=false:=by
 unfold lQ;rw[afT h]
def agd{s:aA}(h:IH s){j:Nat}{y x:aD}(a:s.2.2.1[j]?=ab y)(e:y.1=x.1)(i:Nat):Zh s i x=s.2.2.2.1[j]?:=by
 have c:=aG a;have hd:s.2.2.2.1[j]?=ab (s.2.2.2.1[j]'(by rw[h.len];exact c)):=ia _;have b:=zR h a;unfold Zh;rw[<-e,aW (by rw[b]),b,hd];rfl
def age{s:aA}{x:aD}(h:∀y∈s.2.2.1,y.1≠x.1)(i:Nat):Zh s i x=none:=by
 unfold Zh;rw[aQ<|by rw[ada h];simp]
def Od{s p:aA}(c:IH s){D:List Tx}(k:D.length=p.2.2.1.length)(b:p.2.2.2.1.length=p.2.2.1.length)
  (h:∀(i:Nat) (x:aD),p.2.2.1[i]?=ab x->(∃(j:Nat) (y:aD),s.2.2.1[j]?=ab y/\y.1=x.1/\D[i]?=s.2.2.2.1[j]?)\/((∀y∈s.2.2.1,y.1≠x.1)/\D[i]?=p.2.2.2.1[i]?)):G2 s p=D:=by
 unfold G2;rw[AQ b];have l:=zP (g:=Zh s) b;apply Ls;intro i;by_cases hi:i<p.2.2.1.length
 .have hx:p.2.2.1[i]?=ab p.2.2.1[i]:=ia hi;have hd:p.2.2.2.1[i]?=ab (p.2.2.2.1[i]'ai):=ia _;have a:D[i]?=ab (D[i]'ai):=ia _;rw[Tz hx hd];rcases h i _ hx with ⟨j,y,d,e,q⟩|⟨f,q⟩
  .rw[agd c d e,<-q,a];rfl
  .rw[age f,q,hd];rfl
 .rw[Lr ai,Lr ai]
def II{s p:aA}(a:IH s)(c:p.2.2.1.length=s.2.2.1.length)(d:∀(i:Nat) (x y:aD),p.2.2.1[i]?=ab x->s.2.2.1[i]?=ab y->y.1=x.1)(e:p.2.2.2.1.length=p.2.2.1.length):G2 s p=s.2.2.2.1 :=
 Od a (by rw[a.len,c]) e λi x b=>by
  have hi:=aG b;have hy:s.2.2.1[i]?=ab (s.2.2.1[i]'ai):=ia _;exact .inl ⟨i,_,hy,d i x _ b hy,rfl⟩
def Oe{c:Type}{l:List c}{k:Nat}(x:c)(e:k<=l.length)(i:Nat):(sF l k x)[i]?=if i<k then l[i]? else if i=k then ab x else l[i-1]?:=by
 unfold sF;rw[uH];have d:(l.take k).length=k:=by rw[km];omega
 by_cases a:i<k
 .rw[aW a,Xe ai,jU,aW a]
 rw[aQ a,aa4 ai,d];by_cases b:i=k
 .rw[aW b,b,Nat.sub_self];rfl
 .rw[aQ b,aa4 nU,DE,tf]
  congr 1;omega
def DA{a:Type}{l:List a}{k:Nat}{x:a}(b:k<=l.length):(sF l k x).length=l.length+1:=by
 unfold sF;simp only[hY,km,nV,DE];omega
def WH{b:Type}{l:List b}{k:Nat}(d:k<l.length)(i:Nat):(cutAt l k)[i]?=if i<k then l[i]? else l[i+1]?:=by
 unfold cutAt;have c:(l.take k).length=k:=by rw[km];omega
 by_cases a:i<k
 .rw[aW a,Xe ai,jU,aW a]
 .rw[aQ a,aa4 ai,c,tf]
  congr 1;omega
def AV{a:Type}{l:List a}{k:Nat}(b:k<l.length):(cutAt l k).length=l.length-1:=by
 unfold cutAt;simp only[hY,km,nV];omega
def WI{s p:aA}(h:IH s){x:aD}{d:Tx}{P:List Tx}(k:P.length=s.2.2.1.length)(e:∀y∈s.2.2.1,y.1≠x.1)
  (f:p.2.2.1=kH (λy:aD=>y.1) s.2.2.1 x) (j:p.2.2.2.1=sF P (cK (λy:aD=>y.1) s.2.2.1 x.1) d) :
  G2 s p=sF s.2.2.2.1 (cK (λy:aD=>y.1) s.2.2.1 x.1) d:=by
 have g:=pG (λy:aD=>y.1) s.2.2.1 x.1;have hlen:=h.len;refine Od h (by rw[f,Tw,DA ai,DA g,hlen]) (by rw[f,j,Tw,DA ai,DA g,k]) λi y c=>?_;rw[f,Tw,Oe x g] at c;rw[j,Oe d ai,Oe d ai];by_cases a:i<cK (λy:aD=>y.1) s.2.2.1 x.1
 .rw[aW a] at c;rw[aW a];exact .inl ⟨i,y,c,rfl,rfl⟩
 rw[aQ a] at c;rw[aQ a,aQ a];by_cases b:i=cK (λy:aD=>y.1) s.2.2.1 x.1
 .rw[aW b] at c;rw[aW b,aW b];obtain rfl:=aR c;exact .inr ⟨e,rfl⟩
 .rw[aQ b] at c;rw[aQ b];exact .inl ⟨i-1,y,c,rfl,rfl⟩
def agf{s p:aA}(e:IH s){k:Nat}(c:k<s.2.2.1.length){P:List Tx}(f:P.length=s.2.2.1.length)(d:p.2.2.1=cutAt s.2.2.1 k)(g:p.2.2.2.1=cutAt P k):G2 s p=cutAt s.2.2.2.1 k:=by
 have hlen:=e.len;refine Od e (by rw[d,AV ai,AV c,hlen]) (by rw[d,g,AV ai,AV c,f]) λi y b=>?_;rw[d,WH c] at b;rw[WH ai];by_cases a:i<k
 .rw[aW a] at b⊢;exact .inl ⟨i,y,b,rfl,rfl⟩
 .rw[aQ a] at b⊢;exact .inl ⟨i+1,y,b,rfl,rfl⟩
def gv(s:aA)(c:cf):(gP s c).length=s.2.2.1.length:=zP Qj
def RA{s:aA}(b:IH s)(c:cf){i:Nat}{x:aD}(a:s.2.2.1[i]?=ab x)(d:x.1∈sG s c):(gP s c)[i]?=s.2.2.2.1[i]?:=by
 have hi:=aG a;have hlen:=b.len;have hd:s.2.2.2.1[i]?=ab (s.2.2.2.1[i]'ai):=ia _;unfold gP;rw[Tz a<|by rw[Zz,aW hi]];unfold vM;rw[aW ⟨ai,d⟩,hd];rfl
def adb{s:aA}(a:IH s)(c:cf){x:aD}(d:x∈s.2.2.1)(e:x.1∈sG s c):sS s.2.2.1 (gP s c) x.1=sS s.2.2.1 s.2.2.2.1 x.1:=by
 obtain⟨i,b⟩:=bz.1 d;unfold sS;rw[Dz a.Y8 b];dsimp only;rw[RA a c b e]
def CM{s:aA}(b:IH s)(c:cf)(id:Tx)(h:(bj s.2.2.1 id).2=0->∀x∈(bj s.2.2.1 id).1,x.1∈sG s c):eg s.2.2.1 (gP s c) id=eg s.2.2.1 s.2.2.2.1 id:=by
 unfold eg;by_cases q:(bj s.2.2.1 id).2=0
 .rw[aW q,aW q]
  congr 1
  apply Lw;intro x a;rw[Uf] at a;exact adb b c ((pF (ls:=s.2.2.1) (id:=id)).1 x a) (h q x a)
 .rw[aQ q,aQ q]
def Zl{ls:List aD}(a:vu (·.1) ls){x:aD}(b:x∈ls)(h:(bj ls x.1).2=0)(d:x.2.1≠[]):(bj ls x.2.1).2=0/\∀y∈(bj ls x.2.1).1,y∈(bj ls x.1).1:=by
 unfold bj at h⊢;rw[qh a b,aQ d] at h⊢;obtain⟨c,e,g⟩:=Ro a _ _ _ h;have i:c.length<=16:=by
  have:=(pF (ls:=ls) (id:=x.1)).2;unfold bj at this;rw[qh a b,aQ d,e] at this;simp at this;omega
 rw[g 16 [] i,e];exact⟨rfl,λy f=>by simp at f⊢;exact .inr f⟩
def NU.j{s:aA}(h:NU s):IH s:=⟨h.Y8,h.lays.same,λ_=>aie h⟩
def JR(s:aA)(c:cf)(u v:aA×tF×al):Prop:=u.2=v.2/\jnF s c u.1=v.1
def JR.ite{s:aA}{c:cf}{p q:Prop}[Decidable p][Decidable q](e:p↔q){u v a b:aA×tF×al}(d:q->JR s c u v)(f:¬q->JR s c a b):JR s c (if p then u else a) (if q then v else b):=by
 by_cases k:q
 .rw[aW<|e.2 k,aW k];exact d k
 .rw[aQ<|λz=>k (e.1 z),aQ k];exact f k
def uC{s:aA}(d:IH s)(c:cf):jnF s c (fb s c)=s:=by
 have e:ha (dD c 1) (fb s c).1 s.1=s.1:=by unfold fb;cases dD c 1<;>rfl
 have f:ha (dD c 2) (fb s c).2.1 s.2.1=s.2.1:=by unfold fb;cases dD c 2<;>rfl
 have g:ha (dD c 3) (fb s c).2.2.1 s.2.2.1=s.2.2.1:=by unfold fb;cases dD c 3<;>rfl
 have h:ha (eC c) (fb s c).2.2.2.2.1 s.2.2.2.2.1=s.2.2.2.2.1:=by unfold fb;cases eC c<;>rfl
 have j:ha (dD c 3) (G2 s<|fb s c) s.2.2.2.1=s.2.2.2.1:=by
  cases a:dD c 3 with
  | false=>rfl
  | true =>
    have el:(fb s c).2.2.1=s.2.2.1:=by unfold fb;rw[a];rfl
    have k:(fb s c).2.2.2.1=gP s c:=by unfold fb;rw[a];rfl
    exact II d (by rw[el]) (λi x y b l=>by rw[el,l] at b;rw[aR b]) (by rw[el,k,gv])
 unfold jnF;rw[e,f,g,j,h]
def et{c:cf}{l:List Int}(n:cG c=l)(k:Int)(b:Bool)(h:decide (k∈l)=b):dD c k=b:=by unfold dD;rw[n,h]
def qN{s:aA}{c:cf}{a b d m:Bool}(e:dD c 1=a)(f:dD c 2=b)(g:dD c 3=d)(h:eC c=m) :
  fb s c=(ha a s.1 [],ha b s.2.1 [],ha d s.2.2.1 [],ha d (gP s c) [],ha m s.2.2.2.2.1 [],()) /\
  ∀p:aA,jnF s c p=(ha a p.1 s.1,ha b p.2.1 s.2.1,ha d p.2.2.1 s.2.2.1,ha d (G2 s p) s.2.2.2.1,ha m p.2.2.2.2.1 s.2.2.2.2.1,()):=by
 unfold fb jnF;rw[e,f,g,h];exact⟨rfl,λp=>rfl⟩
def Zm{s:aA}(d:IH s)(c:cf)(b:List ep)(e:List bI)(m:List fT):G2 s (b,e,s.2.2.1,gP s c,m,())=s.2.2.2.1 :=
 II d rfl (λi x y a f=>by dsimp only at a;rw[f] at a;rw[aR a]) (gv s c)
def agh{s:aA}(g:IH s){c:cf}(h:c.1=7)(b:Tx)(a:List Tx)(f:Tx)(d:Int):JR s c (crI (fb s c) b a f d) (crI s b a f d):=by
 have n:cG c=[2,3]:=by unfold cG;rw[aQ ai,aW h]
 obtain⟨e,j⟩:=qN (s:=s) (et n 1 false rfl) (et n 2 true rfl) (et n 3 true rfl) (show eC c=false by unfold eC;rw[h];rfl);have same:=uC g c;rw[e] at same⊢;unfold crI;refine JR.ite gk (λ_=>⟨rfl,same⟩) λ_=>JR.ite gk (λ_=>⟨rfl,same⟩) λ_=>JR.ite gk (λ_=>⟨rfl,same⟩) λ_=>JR.ite gk (λ_=>⟨rfl,same⟩) λ_=>⟨rfl,?_⟩;rw[j];have:=Zm g c [] (kH (·.1) s.2.1 ((cC (xG s) d).1,a,(if b=[] then [] else(aX (eS s) b).1),f,[],())) [];refine congrArg (λz=>(s.1,((kH (·.1) s.2.1 ((cC (xG s) d).1,a,(if b=[] then [] else(aX (eS s) b).1),f,[],())),s.2.2.1,z,s.2.2.2.2.1,()))) this
def agi{s:aA}(d:IH s){c:cf}(b:c.1=8)(a:Tx):JR s c (dlI (fb s c) a) (dlI s a):=by
 have n:cG c=[1,2]:=by unfold cG;rw[aQ ai,aQ ai,aW b]
 obtain⟨e,j⟩:=qN (s:=s) (et n 1 true rfl) (et n 2 true rfl) (et n 3 false rfl) (show eC c=false by unfold eC;rw[b];rfl);have same:=uC d c;rw[e] at same⊢;unfold dlI;refine JR.ite gk (λ_=>⟨rfl,same⟩) λ_=>JR.ite gk (λ_=>⟨rfl,same⟩) λ_=>⟨rfl,?_⟩;rw[j];rfl
def Zn{s t:aA}(h:s.2.2.2.2.1=t.2.2.2.2.1)(id:Tx):tK s id=tK t id:=by
 have:dB (s,id,())=dB (t,id,()):=by
  obtain⟨a,b,d,e,m,u⟩:=s;obtain⟨c,f,g,i,j,k⟩:=t;dsimp only at h;subst h;unfold dB kg;dsimp only
 unfold tK;rw[this]
def agj{s:aA}(a:IH s){c:cf}(j:∀p:aA,jnF s c p=(p.1,p.2.1,p.2.2.1,G2 s p,p.2.2.2.2.1,()))(b:List ep)(id:Tx) :
  jnF s c (TA (b,s.2.1,s.2.2.1,gP s c,s.2.2.2.2.1,()) id)=TA (b,s.2) id:=by
 have d:=a.len;rw[j];unfold TA;dsimp only;rw[AQ d,AQ (gv s c)];cases h:Ef s.2.2.1 id with
 | none =>
   dsimp only;unfold PJ;dsimp only;rw[Zm a]
 | some k =>
   obtain⟨x,e,_⟩:=yZ h;dsimp only;unfold PJ;dsimp only;rw[agf a (aG e) (gv s c) rfl rfl]
def agk{s:aA}(b:IH s){c:cf}(d:c.1=2)(a:Tx):JR s c (dlS (fb s c) a) (dlS s a):=by
 have n:cG c=[1,2,3]:=by unfold cG;rw[aW ai]
 obtain⟨e,j⟩:=qN (s:=s) (et n 1 true rfl) (et n 2 true rfl) (et n 3 true rfl) (show eC c=true by unfold eC;rw[d];rfl);have same:=uC b c;rw[e] at same⊢;unfold dlS;refine JR.ite gk (λ_=>⟨rfl,same⟩) λ_=>JR.ite (by rw[Zn (t:=s) rfl];exact gk) (λ_=>⟨rfl,same⟩) λ_=>⟨rfl,agj b j s.1 _⟩
def agl{s:aA}(b:IH s){c:cf}(d:c.1=12)(a:Tx):JR s c (dlW (fb s c) a) (dlW s a):=by
 have n:cG c=[1,2,3]:=by unfold cG;rw[aW ai]
 obtain⟨e,j⟩:=qN (s:=s) (et n 1 true rfl) (et n 2 true rfl) (et n 3 true rfl) (show eC c=true by unfold eC;rw[d];rfl);have same:=uC b c;rw[e] at same⊢;unfold dlW;refine JR.ite gk (λ_=>⟨rfl,same⟩) λ_=>JR.ite (by rw[Zn (t:=s) rfl];exact gk) (λ_=>⟨rfl,same⟩) λ_=>⟨rfl,agj b j (vg (·.1) s.1 (aX (AM s) a).1) (ac4 s (aX (AM s) a).1)⟩
def WJ{s:aA}(b:IH s){c:cf}(g:c.1=5\/c.1=6)(a:Tx)(d:Int):JR s c (ctS (fb s c) a d) (ctS s a d):=by
 have n:cG c=[3]:=by unfold cG;rw[aQ ai,aQ ai,aQ ai,aW ai]
 obtain⟨e,j⟩:=qN (s:=s) (et n 1 false rfl) (et n 2 false rfl) (et n 3 true rfl) (show eC c=true from dE ai);have same:=uC b c;rw[e] at same⊢;have f:=λid=>Zn (s:=(ha false s.1 [],ha false s.2.1 [],ha true s.2.2.1 [],ha true (gP s c) [],ha true s.2.2.2.2.1 [],())) (t:=s) rfl id;unfold ctS;simp only[f];refine JR.ite gk (λ_=>⟨rfl,same⟩) λ_=>JR.ite gk (λ_=>⟨rfl,same⟩) λ_=>JR.ite gk (λ_=>⟨rfl,same⟩) λ_=>⟨rfl,?_⟩;rw[j];exact congrArg (λz=>(s.1,s.2.1,s.2.2.1,z,(PJ s (aX (eS s) a).1<|tK s (aX (eS s) a).1+d).2.2.2.2.1,())) (Zm b c [] [] _)
def ifE{f:Type}{p q:Prop}[Decidable p][Decidable q](e:p↔q){a b c d:f}(g:q->a=c)(h:¬q->b=d):(if p then a else b)=if q then c else d:=by
 grind
def RB{s:aA}{a:Tx}(h:(aX (eS s) a).2.1=0):∃(i:Nat) (x:aD),s.2.2.1[i]?=ab x/\x.1=(aX (eS s) a).1:=by
 obtain⟨y,b,d⟩:=zO h;obtain⟨x,c,rfl⟩:=Tt b;obtain⟨i,e⟩:=bz.1 c
 grind
def Zo{s:aA}{c:cf}(a:c.1=1\/c.1=3\/c.1=4) :
  fb s c=([],[],s.2.2.1,gP s c,[],())/\∀p:aA,jnF s c p=(s.1,s.2.1,p.2.2.1,G2 s p,s.2.2.2.2.1,()):=by
 have n:cG c=[3]:=by unfold cG;rw[aQ ai,aQ ai,aQ ai,aW ai]
 exact qN (s:=s) (et n 1 false rfl) (et n 2 false rfl) (et n 3 true rfl) (show eC c=false from cL ai)
def agm{s:aA}(f:IH s){c:cf}(l:c.1=1):JR s c (crS (fb s c) c.2.2.2.1 c.2.2.2.2.1 c.2.2.2.2.2.1 c.2.2.2.2.2.2.2.1) (crS s c.2.2.2.1 c.2.2.2.2.1 c.2.2.2.2.2.1 c.2.2.2.2.2.2.2.1):=by
 obtain⟨e,j⟩:=Zo (s:=s) (c:=c) (.inl l);have same:=uC f c;rw[e] at same⊢;have b:¬(c.2.2.2.1≠[]/\(aX (eS s) c.2.2.2.1).2.1≠0)->c.2.2.2.2.2.1≠[]->Fw ([],[],s.2.2.1,gP s c,[],()) (de s c.2.2.2.1)=Fw s (de s c.2.2.2.1):=λm g=>by
  unfold Fw;by_cases q:de s c.2.2.2.1=[]
  .grind
  .rw[aQ q,aQ q];refine CM f c _ λt x u=>?_;have n:c.2.2.2.1≠[]:=λh=>q (by unfold de;rw[aW h]);have v:de s c.2.2.2.1=(aX (eS s) c.2.2.2.1).1:=by unfold de;rw[aQ n]
   have w:JG c=ab c.2.2.2.1:=by unfold JG;rw[aW l,aQ λh=>h.elim n g]
   unfold sG AR
   grind
 refine JR.ite gk (λ_=>⟨rfl,same⟩) λ_=>JR.ite gk (λ_=>⟨rfl,same⟩) λ_=>JR.ite gk (λ_=>⟨rfl,same⟩) λm=>JR.ite gk (λ_=>⟨rfl,same⟩) λ_=>JR.ite gk (λ_=>⟨rfl,same⟩) λo=>JR.ite gk (λ_=>⟨rfl,same⟩) λ_=>?_;have b:=b m;have a:c.2.2.2.2.2.1≠[]->Fw ([],[],s.2.2.1,gP s c,[],()) (de ([],[],s.2.2.1,gP s c,[],()) c.2.2.2.1)=Fw s (de s c.2.2.2.1):=b;refine JR.ite (and_congr_right λg=>by rw[a g]) (λk=>⟨by rw[a k.1],same⟩) λ_=>JR.ite (and_congr_right λg=>by rw[a g]) (λk=>⟨by rw[a k.1],same⟩) λ_=>⟨rfl,?_⟩;obtain⟨_,_,p⟩:=GJ (JS o);have i:∀y∈s.2.2.1,y.1≠(cC (eS s) c.2.2.2.2.2.2.2.1).1:=λy r=>p _ (f.nm y r);rw[j];unfold JE;rw[AQ f.len];refine congrArg (λz=>(s.1,s.2.1,_,z,s.2.2.2.2.1,())) (WI (P:=gP s c) (d:=ac3 c.2.2.2.2.2.1) f (gv s c) (x:=af0 (cC (eS s) c.2.2.2.2.2.2.2.1).1 (de s c.2.2.2.1) c.2.2.2.2.1 c.2.2.2.2.2.1) i rfl ?_);rw[AQ<|gv s c];rfl
def agn{s:aA}(b:IH s){c:cf}(f:c.1=3):dfA (fb s c) c.2.2.1=dfA s c.2.2.1:=by
 obtain⟨e,j⟩:=Zo (s:=s) (c:=c) (.inr<|.inl f);have a:IH (fb s c):=by rw[e];exact⟨b.Y8,gv s c,b.nm⟩
 rw[e] at a⊢;unfold dfA;show(if(aX (eS s) c.2.2.1).2.1≠0 then _ else _)=_
 by_cases h:(aX (eS s) c.2.2.1).2.1=0
 rotate_left
 .rw[aW h,aW h];rfl
 rw[aQ<|λq=>q h,aQ λq=>q h];obtain⟨i,x,d,g⟩:=RB h;have k:x.1∈sG s c:=by
  have l:JG c=ab c.2.2.1:=by unfold JG;rw[aQ ai,aW (.inl f)]
  unfold sG AR
  grind
 show(0,(aX (eS s) c.2.2.1).1,0,(lQ _ (aX (eS s) c.2.2.1).1).2.1,())=_
 rw[<-g,zR b d,zR (s:=([],[],s.2.2.1,gP s c,[],())) a d];rw[RA b c d k]
def ago{s:aA}(f:IH s){c:cf}(r:c.1=4):chA (fb s c) c.2.2.1=chA s c.2.2.1:=by
 obtain⟨e,j⟩:=Zo (s:=s) (c:=c) (.inr<|.inr r);have l:IH (fb s c):=by rw[e];exact⟨f.Y8,gv s c,f.nm⟩
 rw[e] at l⊢;by_cases h:(aX (eS s) c.2.2.1).2.1=0
 rotate_left
 .unfold chA;rw[aW h];exact aW h
 obtain⟨i,x,n,t⟩:=RB h;have hd:sG s c=(bj s.2.2.1 x.1).1.map (·.1):=by
  have A:JG c=ab c.2.2.1:=by unfold JG;rw[aQ ai,aW (.inr r)]
  unfold sG AR
  grind
 have m:eg s.2.2.1 (gP s c) x.1=eg s.2.2.1 s.2.2.2.1 x.1:=CM f c _ λ_ y o=>by rw[hd];exact List.mem_map_of_mem o
 have u:=zR f n;have p:=zR l n;have v:(eg s.2.2.1 s.2.2.2.1 x.1).2=0->Fw ([],[],s.2.2.1,gP s c,[],()) x.2.1=Fw s x.2.1:=λd=>by
  unfold Fw;by_cases q:x.2.1=[]
  .grind
  .rw[aQ q,aQ q];refine CM f c _ λ_ y o=>?_;rw[hd];have w:(bj s.2.2.1 x.1).2=0:=JS λk=>by unfold eg at d;rw[aQ k] at d;exact k d
   exact List.mem_map_of_mem ((Zl f.Y8 (eT n) w q).2 y o)
 have g:(eg s.2.2.1 s.2.2.2.1 x.1).2=0->Fw ([],[],s.2.2.1,gP s c,[],()) (lQ ([],[],s.2.2.1,gP s c,[],()) x.1).1.2.1=Fw s (lQ s x.1).1.2.1:=λd=>by rw[u,p];exact v d
 rw[t] at m g;refine ifE gk (λq=>absurd h q) λ_=>ifE (iff_of_eq<|congrArg (λz:List Nd×Int=>z.2≠0) m) (λ_=>congrArg (λz:List Nd×Int=>iZ z.2) m) λd=>?_;have g:=g (JS d);exact ifE (iff_of_eq<|congrArg (λz:List Nd×Int=>z.2≠0) g) (λ_=>congrArg (λz:List Nd×Int=>iZ z.2) g) λ_=>by
  have k:=congr (congrArg (λa b:List Nd×Int=>((0:Int),(aX (eS s) c.2.2.1).1,(0:Int),(Ho a.1 b.1).flatMap xL,())) g) m;exact k
def agp{s:aA}(h:IH s){c:cf}(m:c.1=11)(a:Tx)(b:List Tx)(l:Tx)(d:Int):JR s c (crB (fb s c) a b l d) (crB s a b l d):=by
 have n:cG c=[1,2,3]:=by unfold cG;rw[aW ai]
 obtain⟨e,j⟩:fb s c=(s.1,s.2.1,s.2.2.1,gP s c,[],())/\∀p:aA,jnF s c p=(p.1,p.2.1,p.2.2.1,G2 s p,s.2.2.2.2.1,()) :=
  qN (s:=s) (et n 1 true rfl) (et n 2 true rfl) (et n 3 true rfl) (show eC c=false by unfold eC;rw[m];rfl)
 have same:=uC h c;rw[e] at same⊢;have o:∀i g d,JR s c (Wy (s.1,s.2.1,s.2.2.1,gP s c,[],()) i g d) (Wy s i g d):=λi g d=>by
  refine JR.ite gk (λ_=>⟨rfl,same⟩) λ_=>JR.ite gk (λ_=>⟨rfl,same⟩) λ_=>JR.ite gk (λ_=>⟨rfl,same⟩) λ_=>JR.ite gk (λ_=>⟨rfl,same⟩) λq=>JR.ite gk (λ_=>⟨rfl,same⟩) λ_=>⟨rfl,?_⟩;obtain⟨_,_,r⟩:=GJ (JS q);have f:∀y∈s.2.2.1,y.1≠(cC (eS s) d).1:=λy t=>r _ (h.nm y t);rw[j];unfold JE;rw[AQ h.len];refine congrArg (λz=>(s.1,s.2.1,_,z,s.2.2.2.2.1,())) (WI (P:=gP s c) (d:=kG 1024) h (gv s c) (x:=aib (cC (eS s) d).1 (de s i) g) f rfl ?_);rw[AQ<|gv s c];rfl
 obtain⟨k,u⟩:=o (if a=[] then [] else CK s (DP s a)) [] (Eh d);refine JR.ite gk (λ_=>⟨rfl,same⟩) λ_=>JR.ite gk (λ_=>⟨rfl,same⟩) λ_=>JR.ite gk (λ_=>⟨rfl,same⟩) λ_=>JR.ite gk (λ_=>⟨rfl,same⟩) λ_=>?_;have v:=congrArg Prod.snd u;exact JR.ite (iff_of_eq<|congrArg (λz:tF×al=>z.1.1≠0) k) (λ_=>⟨congrArg (λz:tF×al=>(iZ z.1.1,())) k,same⟩) λ_ =>
  ⟨congrArg (λz:tF×al=>(((0:Int),(cC (AM s)<|PM d).1,(0:Int),z.1.2.1,()),())) k,
   Prod.ext (by rw[j];exact congrArg (λz:tF×al=>kH (·.1) s.1 ((cC (AM s)<|PM d).1,b,DP s a,z.1.2.1,l,[],())) k) v⟩
def agq{s:aA}(f:IH s){c:cf}(a:c.1=9\/c.1=10):JR s c (itS (fb s c) c) (itS s c):=by
 have same:=uC f c;by_cases m:c.2.1∈cG c
 rotate_left
 .unfold itS;exact JR.ite gk (λ_=>⟨rfl,same⟩) λq=>absurd m q
 have b:eC c=false:=cL ai;have d:cG c=PK c.2.1 [1,2]:=by unfold cG;rw[aQ ai,aQ ai,aQ ai,aQ ai,aW a]
 rcases Oc a m with k|k
 .have n:cG c=[1]:=by rw[d,k];rfl
  obtain⟨e,j⟩:=qN (s:=s) (et n 1 true rfl) (et n 2 false rfl) (et n 3 false rfl) b;rw[e] at same⊢;unfold itS;simp only[k];refine JR.ite gk (λ_=>⟨rfl,same⟩) λ_=>JR.ite gk (λ_=>⟨rfl,same⟩) λ_=>JR.ite gk (λ_=>⟨rfl,?_⟩) λq=>absurd trivial q;rw[j];rfl
 .have n:cG c=[2]:=by rw[d,k];rfl
  obtain⟨e,j⟩:=qN (s:=s) (et n 1 false rfl) (et n 2 true rfl) (et n 3 false rfl) b;rw[e] at same⊢;unfold itS;simp only[k];refine JR.ite gk (λ_=>⟨rfl,same⟩) λ_=>JR.ite gk (λ_=>⟨rfl,same⟩) λ_=>JR.ite gk (λq=>absurd q aK) λ_=>⟨rfl,?_⟩;rw[j];rfl
set_option maxRecDepth 100000
end Go.Ge
namespace Go.Ge
variable [Lp]
set_option maxRecDepth 100000
def Nl.row{s:aA}(h:Nl s):Zf s:=⟨h.hd,by have:=h.aau;omega,by have:=h.mts;omega⟩
def xM{c:Type}{b:Bool}{x y:List c}{a:c}(h:a∈ha b x y):a∈x\/a∈y:=by
 cases b
 .exact .inr h
 .exact .inl h
def qi{a:Type}{b:Bool}{x y:List a}{n:Nat}(c:x.length<=n)(d:y.length<=n):(ha b x y).length<=n:=by
 cases b
 .exact d
 .exact c
end Go.Ge
namespace Go.Ge
variable [Lp]
def agr{s:aA}(h:W24 s)(k:Int)(g:List Tx)(t:g.length<=1000)(id:Tx)(d:k=3)(e:∃x∈s.2.2.1,x.1=id):hW (s,k,id,g,())=ab (rnS s k id g,()):=by
 have l:=h.hd.ll;subst d;unfold hW rnS;dsimp only;rw[ax aK,af,ax aK,af,aQ aK,aQ aK,cO ai,ae];rcases wC (f:=mB (s,(3:Int),id,g,())) s.2.2.1 (λy=>decide (y.1=id)) (λq=>(q,id,())) ai (λi y a m=>by
  unfold mB;dsimp only;rw[aq m,ae,aM ai ft,ae,au a,aa,cZ,eA];by_cases q:y.1=id<;>simp[q]) (by unfold mB;dsimp only;rw[ay,af]) with ⟨j,y,a,b,n⟩|⟨c,_⟩
 rotate_left
 .obtain⟨y,a,o⟩:=e;have:=c y a;simp[o] at this
 have b:y.1=id:=iy b;have u:=aG a;have p:Ef s.2.2.1 id=ab j:=by rw[<-b];exact Dz h.Y8 a
 have r:IF (λz:aD=>z.1) s.2.2.1 ly0 id=y:=by rw[<-b];exact AU h.Y8 (eT a)
 rw[n,aa];dsimp only;rw[show da 1 0=false from rfl,af,aa];dsimp only;rw[rv _ ai,aa,aM ai ft,ae,au a,aa,aa,aa];unfold rnL lS;rw[p,r,pS,b];rfl
def doF(s:aA)(c:cf):aA×tF×al :=
 if c.1=1 then crS s c.2.2.2.1 c.2.2.2.2.1 c.2.2.2.2.2.1 c.2.2.2.2.2.2.2.1 else
 if c.1=2 then dlS s c.2.2.1 else if c.1=3 then(s,dfA s c.2.2.1,()) else if c.1=4 then(s,chA s c.2.2.1,()) else
 if c.1=5 then ctS s c.2.2.1 1 else if c.1=6 then ctS s c.2.2.1 (-1) else
 if c.1=7 then crI s c.2.2.2.1 c.2.2.2.2.1 c.2.2.2.2.2.1 c.2.2.2.2.2.2.2.1 else if c.1=8 then dlI s c.2.2.1 else
 if c.1=11 then crB s c.2.2.2.1 c.2.2.2.2.1 c.2.2.2.2.2.1 c.2.2.2.2.2.2.2.1 else if c.1=12 then dlW s c.2.2.1 else
 if c.1=9\/c.1=10 then itS s c else if c.1=13\/c.1=14\/c.1=15 then rcS s c else(s,iZ 1,())
structure ags (c:cf):Prop where
 YI:nZ c.2.2.2.2.1
 data:c.2.2.2.2.2.1.length<=8704
 key:c.2.2.2.2.2.2.1.length<=100
def agt{s:aA}(h:W24 s){c:cf}(r:ags c):dR (s,c,())=ab (doF s c):=by
 have y:=r.YI.1;have hd:=r.data;have t:=h.ml;have u:=h.hd.il;unfold dR doF;dsimp only;by_cases i:c.1=1
 .rw[aE i,ae,aW i];exact ob (Ky s c.2.2.2.1 c.2.2.2.2.1 c.2.2.2.2.2.1 c.2.2.2.2.2.2.2.1 h.hd ai ai h.tree) rfl
 rw[ax i,af,aQ i];by_cases j:c.1=2
 .rw[aE j,ae,aW j];exact ob (G3 s _ h.hd ai) rfl
 rw[ax j,af,aQ j];by_cases k:c.1=3
 .rw[aE k,ae,aW k];exact ob (Kz h _) rfl
 rw[ax k,af,aQ k];by_cases l:c.1=4
 .rw[aE l,ae,aW l];exact ob (Fj h _) rfl
 rw[ax l,af,aQ l];by_cases m:c.1=5
 .rw[aE m,ae,aW m];unfold xv;exact ob (ob (JH h c.2.2.1<|.inl rfl) rfl) rfl
 rw[ax m,af,aQ m];by_cases n:c.1=6
 .rw[aE n,ae,aW n];unfold tr;exact ob (ob (JH h c.2.2.1<|.inr rfl) rfl) rfl
 rw[ax n,af,aQ n];by_cases o:c.1=7
 .rw[aE o,ae,aW o];exact ob (GW s _ _ _ _ h.hd ai ai) rfl
 rw[ax o,af,aQ o];by_cases p:c.1=8
 .rw[aE p,ae,aW p];exact ob (GZ s _ h.hd h.upI) rfl
 rw[ax p,af,aQ p];by_cases e:c.1=11
 .rw[aE e,ae,aW e];exact ob (ID s _ _ _ _ h.hd h.upI ai) rfl
 rw[ax e,af,aQ e];by_cases f:c.1=12
 .rw[aE f,ae,aW f];exact ob (N9 h _) rfl
 rw[ax f,af,aQ f];rw[show(((ao (aS c.1 9) ((aS c.1 9,()),()) ((aS c.1 10,()),())).1).1)=decide (c.1=9\/c.1=10) from by
  by_cases a:c.1=9
  .rw[aE a,ae,dE (.inl a)]
  .rw[ax a,af,GO];exact hH.2 ⟨.inr,λq=>q.resolve_left a⟩]
 by_cases g:c.1=9\/c.1=10
 .rw[dE g,ae,aW g];exact ob (af9 h c g ai) rfl
 rw[cL g,af,aQ g];rw[show(((ao (aS c.1 13) ((aS c.1 13,()),()) ((((ao (aS c.1 14) ((aS c.1 14,()),()) ((aS c.1 15,()),())).1).1,()),())).1).1)=decide (c.1=13\/c.1=14\/c.1=15) from by
  by_cases a:c.1=13
  .rw[aE a,ae,dE (.inl a)]
  .by_cases b:c.1=14
   .rw[ax a,af,aE b,ae,dE (.inr<|.inl b)]
   .rw[ax a,af,ax b,af,GO];exact hH.2 ⟨λq=>.inr (.inr q),λq=>(q.resolve_left a).resolve_left b⟩]
 by_cases d:c.1=13\/c.1=14\/c.1=15
 .rw[dE d,ae,aW d];refine ob (ac9 h c d ai λid v=>?_) rfl;rcases v with q|q|⟨w,x⟩
  .exact Rz h _ _ ai id (.inl q)
  .exact Rz h _ _ ai id (.inr q)
  .exact agr h _ _ ai id w x
 rw[cL d,af,aQ d];rfl
def W24.part{s:aA}(h:W24 s)(c:cf):W24 (fb s c):=by
 have a:∀{x:ep},x∈(fb s c).1->x∈s.1:=λ{x} q=>(xM q).resolve_right aY;have hi:∀{x:bI},x∈(fb s c).2.1->x∈s.2.1:=λ{x} q=>(xM q).resolve_right aY;have d:∀{x:aD},x∈(fb s c).2.2.1->x∈s.2.2.1:=λ{x} q=>(xM q).resolve_right aY;have e:∀{x:fT},x∈(fb s c).2.2.2.2.1->x∈s.2.2.2.2.1:=λ{x} q=>(xM q).resolve_right aY;have up:∀{α:Type} {key:α->Tx} {l:List α} (b:Bool),vu key l->vu key (ha b l []):=λ{α key l} b q=>by
  cases b
  .exact List.Pairwise.nil
  .exact q
 exact {
  hd:=⟨qi h.hd.ll aY,qi h.hd.il aY,qi h.hd.bl aY,λx q=>h.hd.ln x (d q),λx q=>h.hd.pV x (hi q),λx q=>h.hd.bn x (a q),λx q=>h.hd.it x (hi q)⟩
  dl:=qi (by rw[gv];exact h.hd.ll) aY
  ml:=qi h.ml aY
  Y9:=up _ h.Y9
  upI:=up _ h.upI
  Y8:=up _ h.Y8
  bits:=λx q=>h.bits x (a q)
  mts:=λx q=>h.mts x (e q)
  idB:=λx q=>h.idB x (a q)
  idI:=λx q=>h.idI x (hi q)
  idL:=λx q=>h.idL x (d q) }
def TE(a:List aD)(id:Tx)(g:List Tx):(rnL a id g).length=a.length:=by unfold rnL;rw[adN]
def aik{b:List aD}{id:Tx}(g:List Tx)(f:∃x∈b,x.1=id){i:Nat}{x y:aD}(a:(rnL b id g)[i]?=ab x)(c:b[i]?=ab y):y.1=x.1:=by
 obtain⟨n,d⟩:=Lf.2 f;obtain⟨z,e,h⟩:=yZ d;unfold rnL at a;rw[d,ZI] at a;dsimp only[Option.getD] at a;by_cases q:n=i
 .subst q;rw[aW rfl,aW (aG e)] at a;rw[<-aR a];rw[e] at c;rw[<-aR c];exact h
 .rw[aQ q,c] at a;rw[aR a]
def agu{s:aA}(f:IH s){c:cf}(g:c.1=13\/c.1=14\/c.1=15):JR s c (rcS (fb s c) c) (rcS s c):=by
 have same:=uC f c;by_cases m:c.2.1∈cG c
 rotate_left
 .unfold rcS;exact JR.ite gk (λ_=>⟨rfl,same⟩) λq=>absurd m q
 have b:eC c=false:=cL ai;have d:cG c=PK c.2.1 [1,2,3]:=by unfold cG;rw[aQ ai,aQ ai,aQ ai,aQ ai,aQ ai,aW g]
 have fin:vh (fb s c) c.2.1=vh s c.2.1->(rcE s c=0->c.1=13->jnF s c (rnS (fb s c) c.2.1 (aX (vh s c.2.1) c.2.2.1).1 c.2.2.2.2.1)=rnS s c.2.1 (aX (vh s c.2.1) c.2.2.1).1 c.2.2.2.2.1)->JR s c (rcS (fb s c) c) (rcS s c):=λe h=>by
  have l:rcE (fb s c) c=rcE s c:=by unfold rcE;rw[e]
  unfold rcS;simp only[e,l];refine JR.ite gk (λ_=>⟨rfl,same⟩) λ_=>JR.ite gk (λ_=>⟨rfl,same⟩) λ_=>JR.ite gk (λ_=>⟨rfl,same⟩) λ_=>JR.ite gk (λ_=>⟨rfl,same⟩) λa=>JR.ite gk (λk=>⟨rfl,h (JS a) k⟩) λ_=>⟨rfl,same⟩
 rcases ac8 g m with k|k|k
 .have n:cG c=[1]:=by rw[d,k];rfl
  obtain⟨e,j⟩:=qN (s:=s) (et n 1 true rfl) (et n 2 false rfl) (et n 3 false rfl) b;refine fin (by rw[e,k];rfl) λ_ _=>?_;rw[e,j,k];rfl
 .have n:cG c=[2]:=by rw[d,k];rfl
  obtain⟨e,j⟩:=qN (s:=s) (et n 1 false rfl) (et n 2 true rfl) (et n 3 false rfl) b;refine fin (by rw[e,k];rfl) λ_ _=>?_;rw[e,j,k];rfl
 .have n:cG c=[3]:=by rw[d,k];rfl
  obtain⟨e,j⟩:=qN (s:=s) (et n 1 false rfl) (et n 2 false rfl) (et n 3 true rfl) b;refine fin (by rw[e,k];rfl) λa o=>?_;have r:(aX (vh s c.2.1) c.2.2.1).2.1=0:=JS λq=>by
   unfold rcE at a;rw[aQ λz=>q z.1] at a;exact q a
  have hx:∃x∈s.2.2.1,x.1=(aX (vh s c.2.1) c.2.2.1).1:=by
   rcases Ry r with q|q|q
   .omega
   .omega
   .exact q.2
  generalize (aX (vh s c.2.1) c.2.2.1).1=id at hx;rw[e,j,k];refine congrArg (λz=>(s.1,s.2.1,rnL s.2.2.1 id c.2.2.2.2.1,z,s.2.2.2.2.1,())) (II (p:=([],[],rnL s.2.2.1 id c.2.2.2.2.1,gP s c,[],())) f (TE _ _ _) (λi x y t u=>aik _ hx t u) ?_);dsimp only;rw[gv,TE]
def ail{s:aA}(a:IH s)(c:cf):JR s c (doF (fb s c) c) (doF s c):=by
 have same:=uC a c;unfold doF;exact JR.ite gk (λk=>agm a k) λ_=>JR.ite gk (λk=>agk a k _) λ_=>JR.ite gk (λk=>⟨congrArg (·,())<|agn a k,same⟩) λ_=>JR.ite gk (λk=>⟨congrArg (·,())<|ago a k,same⟩) λ_ =>
  JR.ite gk (λk=>WJ a (.inl k) _ _) λ_=>JR.ite gk (λk=>WJ a (.inr k) _ _) λ_=>JR.ite gk (λk=>agh a k _ _ _ _) λ_=>JR.ite gk (λk=>agi a k _) λ_ =>
  JR.ite gk (λk=>agp a k _ _ _ _) λ_=>JR.ite gk (λk=>agl a k _) λ_=>JR.ite gk (λk=>agq a k) λ_=>JR.ite gk (λk=>agu a k) λ_=>⟨rfl,same⟩
end Go.Ge
namespace Go.Ge.W24
variable [Lp]
set_option maxRecDepth 100000
abbrev agv:=Int×Tx×Int×Tx×al
def w1:Tx:=[48,48,48,48,48,49]
def w2:Tx:=[48,48,48,48,48,50]
def w3:Tx:=[48,48,48,48,48,51]
def w4:Tx:=[48,48,48,48,48,52]
def wb:Tx:=[98,97,115,101]
def ww:Tx:=[119,101,98]
def M1(D:Tx):aD:=(w1,[],[wb],D,1024,0,true,())
def M4(D:Tx):aD:=(w4,w1,[],D,1024,0,true,())
def im2(l:List Item):bI:=(w2,[ww],w1,[],l,())
def bx3:ep:=(w3,[],w2,w4,[],[],())
def t0:aA:=([],[],[],[],[],())
def t1(D N:Tx):aA:=([],[],[M1 D],[N],[],())
def t2(D N:Tx):aA:=([],[im2 []],[M1 D],[N],[],())
def t3l(D N:Tx):aA:=([],[im2 []],[M1 D,M4 D],[N,N],[],())
def t3(D N:Tx)(l:List Item):aA:=([bx3],[im2 l],[M1 D,M4 D],[N,N],[],())
def dV:Tx:=ky [118]
def IJ:Item:=([107],dV,[118],())
def okW(id:Tx):agv:=(0,id,0,[],())
def c1:cf:=(1,0,[],[],[wb],[],[],1,())
def c2:cf:=(7,0,[],wb,[ww],[],[],2,())
def c3:cf:=(11,0,[],ww,[],[],[],67108867,())
def c4:cf:=(2,0,wb,[],[],[],[],0,())
def c5:cf:=(9,2,ww,[],[],[118],[107],0,())
def c6:cf:=(10,2,[48],[],[],[],[107],0,())
def c7:cf:=(15,3,[],[],[],[],[],0,())
def c8:cf:=(99,0,[],[],[],[],[],0,())
def a7:Tx:=[48,48,48,48,48,49,32,98,97,115,101,10,48,48,48,48,48,52,10]
def ank:Wy t0 [] [wb] 1=(t1 (ky<|kG 1024)<|kG 1024,xF w1,()):=by
 have a:jk [wb]=0:=by kernel_rfl
 have b:mL (eS t0) [] [wb]=0:=by kernel_rfl
 have c:cC (eS t0) 1=(w1,0,()):=by kernel_rfl
 unfold Wy;rw[aQ<|λq=>q a,aQ (λq=>q.1 rfl),aQ (λq=>q b),c,aQ (λq=>q rfl),aQ (λq=>q.1 (aW rfl)),show de t0 []=[] from aW rfl];rfl
def anl:Wy (t2 (ky<|kG 1024)<|kG 1024) w1 [] 4=(t3l (ky<|kG 1024)<|kG 1024,xF w4,()):=by
 have b:jk []=0:=by kernel_rfl
 have a:∀D N,aX (eS<|t2 D N) w1=(w1,0,()):=λD N=>by kernel_rfl
 have c:∀D N,mL (eS<|t2 D N) [] []=0:=λD N=>by kernel_rfl
 have d:∀D N,cC (eS<|t2 D N) 4=(w4,0,()):=λD N=>by kernel_rfl
 have e:∀D,bj [M1 D] w1=([M1 D],0):=λD=>by kernel_rfl
 have f:de (t2 (ky<|kG 1024)<|kG 1024) w1=w1:=by
  unfold de;rw[aQ aK,a]
 unfold Wy;rw[aQ<|λq=>q b,a,aQ (λq=>q.2 rfl),aQ (λq=>q (c _ _)),d,aQ (λq=>q rfl),f,show(t2 (ky<|kG 1024)<|kG 1024).2.2.1=[M1<|ky<|kG 1024] from rfl,e,aQ λq=>absurd q.2.2 aK];rfl
def anm(D N:Tx):AN (t2 D N):=⟨by show 1<=40;decide,by show 1<=40;decide,by show 0<=40;decide,λx a=>by
 obtain rfl:=yE.1 a;exact⟨by show 1<=8;decide,λy b=>by obtain rfl:=yE.1 b;show 4<=100;decide⟩,λx a=>by
 obtain rfl:=yE.1 a;exact⟨by show 1<=8;decide,λy b=>by obtain rfl:=yE.1 b;show 3<=100;decide⟩,λx a=>(by cases a),λx a=>by
 obtain rfl:=yE.1 a;exact⟨by show 0<=8;decide,λy b=>(by cases b)⟩⟩
def ann:AN t0:=⟨aK,aK,aK,λx a=>(by cases a),λx a=>(by cases a),λx a=>(by cases a),λx a=>(by cases a)⟩
def do1:dR (t0,c1,())=ab (t1 (ky<|kG 1024)<|kG 1024,okW w1,()):=by
 have h:=vv t0 [] [wb] 1 ann aK;rw[ank] at h;unfold dR;dsimp only;rw[show aS c1.1 1=true from rfl,ae];exact ob h rfl
def do2(D N:Tx):dR (t1 D N,c2,())=ab (t2 D N,okW w2,()):=by
 obtain rfl:‹Lp›=Lp.l7:=Lp.one _ _;kernel_rfl
def do3:dR (t2 (ky<|kG 1024)<|kG 1024,c3,())=ab (t3 (ky<|kG 1024) (kG 1024) [],(0,w3,0,w4,()),()):=by
 have h:=vv (t2 (ky<|kG 1024)<|kG 1024) w1 [] 4 (anm _ _) aK;rw[anl] at h;have b:fH ([],())=ab (0,()):=by
  obtain rfl:‹Lp›=Lp.l7:=Lp.one _ _;kernel_rfl
 have c:∀D N,iN (t2 D N,ww,())=ab (w2,0,()):=λD N=>by
  obtain rfl:‹Lp›=Lp.l7:=Lp.one _ _;kernel_rfl
 have a:∀D N,kB (t2 D N,())=ab ([],()):=λD N=>by
  obtain rfl:‹Lp›=Lp.l7:=Lp.one _ _;kernel_rfl
 have d:gz ([],[],[],())=ab (0,()):=by
  obtain rfl:‹Lp›=Lp.l7:=Lp.one _ _;kernel_rfl
 have e5:gL ([],jV IntKind.i64 67108867 16777215,())=ab (w3,0,()):=by
  obtain rfl:‹Lp›=Lp.l7:=Lp.one _ _;kernel_rfl
 have e6:∀D N,mj (t2 D N,w2,())=ab (im2 [],true,()):=λD N=>by
  obtain rfl:‹Lp›=Lp.l7:=Lp.one _ _;kernel_rfl
 have e:∀D N,kh (t3l D N,bx3,())=ab (t3 D N [],()):=λD N=>by
  obtain rfl:‹Lp›=Lp.l7:=Lp.one _ _;kernel_rfl
 have key:lO (t2 (ky<|kG 1024)<|kG 1024,ww,[],[],67108867,())=ab (t3 (ky<|kG 1024) (kG 1024) [],(0,w3,0,w4,()),()):=by
  unfold lO;refine ob b ?_;rw[show ao (nt<|nt<|aS (0:Int) 0) (aZ 64<|len ([]:Tx)) true=false from aK,af];refine ob (x:=(((0:Int),()),(([]:Tx),([]:List Tx),w2,([]:Tx),([]:Tx),([]:List Item),()),())) ?_ ?_
  .rw[show nt (bG ww ([]:Tx))=true from aK,ae];exact ob (c _ _) rfl
  refine ob (x:=(((0:Int),()),())) ?_ ?_
  .rw[show aS (0:Int) 0=true from rfl,ae];exact ob (a _ _) (ob d rfl)
  refine ob (x:=(((0:Int),()),(w3,([]:List Tx),w2,([]:Tx),([]:Tx),([]:List Item),()),())) ?_ ?_
  .rw[show aS (0:Int) 0=true from rfl,ae];exact ob (a _ _) (ob e5 rfl)
  rw[show nt (aS (0:Int) 0)=false from rfl,af];refine ob (e6 _ _) ?_;refine ob (x:=(t3l (ky<|kG 1024)<|kG 1024,xF w4,())) ?_ ?_
  .rw[show jV IntKind.i64 (mE IntKind.i64 67108867 24) 16777215=4 from by kernel_rfl,show bG ww ([]:Tx)=false from aK,af];exact h
  rw[show nt (aS (xF w4).1 0)=false from rfl,af];exact ob (e _ _) rfl
 unfold dR;rw[show aS c3.1 1=false from rfl,show aS c3.1 2=false from rfl,show aS c3.1 3=false from rfl,show aS c3.1 4=false from rfl,show aS c3.1 5=false from rfl,show aS c3.1 6=false from rfl,show aS c3.1 7=false from rfl,show aS c3.1 8=false from rfl,show aS c3.1 11=true from rfl];simp only[af,ae];exact ob key rfl
def do4(D N:Tx):dR (t3 D N [],c4,())=ab (t3 D N [],(7,[],0,[],()),()):=by
 obtain rfl:‹Lp›=Lp.l7:=Lp.one _ _;kernel_rfl
def do5(D N:Tx):dR (t3 D N [],c5,())=ab (t3 D N [IJ],okW w2,()):=by
 obtain rfl:‹Lp›=Lp.l7:=Lp.one _ _;kernel_rfl
def do6(D N:Tx):dR (t3 D N [IJ],c6,())=ab (t3 D N [IJ],(0,w2,0,[118],()),()):=by
 obtain rfl:‹Lp›=Lp.l7:=Lp.one _ _;kernel_rfl
def do7(D N:Tx)(l:List Item):dR (t3 D N l,c7,())=ab (t3 D N l,(0,[],0,a7,()),()):=by
 obtain rfl:‹Lp›=Lp.l7:=Lp.one _ _;kernel_rfl
def do8(D N:Tx)(l:List Item):dR (t3 D N l,c8,())=ab (t3 D N l,(1,[],0,[],()),()):=by
 obtain rfl:‹Lp›=Lp.l7:=Lp.one _ _;kernel_rfl
end Go.Ge.W24
namespace Go.Ge.W24
variable [Lp]
set_option maxRecDepth 100000
def mk1:fI ((1:Int),((0:Int),[],[],[bx3],()),())=ab (0,()):=by
 obtain rfl:‹Lp›=Lp.l7:=Lp.one _ _;kernel_rfl
def mk2:fI ((2:Int),((0:Int),[],[im2 [IJ]],[],()),())=ab (0,()):=by
 obtain rfl:‹Lp›=Lp.l7:=Lp.one _ _;kernel_rfl
def mc(D:Tx):qd ([M1 D,M4 D],())=ab (0,()):=by
 obtain rfl:‹Lp›=Lp.l7:=Lp.one _ _;kernel_rfl
def lp0(D N:Tx):Loop (oC (t3 D N [IJ],())) ((false,(0:Int),()),())=ab (0,(false,(1:Int),()),()):=by
 obtain rfl:‹Lp›=Lp.l7:=Lp.one _ _;kernel_rfl
def lp1(D N:Tx):Loop (oE (t3 D N [IJ],())) ((false,(0:Int),()),())=ab (0,(false,(1:Int),()),()):=by
 obtain rfl:‹Lp›=Lp.l7:=Lp.one _ _;kernel_rfl
def lp3(D N:Tx):Loop (oF (t3 D N [IJ],())) ((false,(0:Int),()),())=ab (0,(false,(0:Int),()),()):=by
 obtain rfl:‹Lp›=Lp.l7:=Lp.one _ _;kernel_rfl
def ano{D:Tx}(a:fE (D,())=ab (0,())):gC (M1 D,())=ab (true,()):=by
 unfold gC;refine ob (x:=(true,())) (by obtain rfl:‹Lp›=Lp.l7:=Lp.one _ _;kernel_rfl) (ob (x:=true) (by obtain rfl:‹Lp›=Lp.l7:=Lp.one _ _;kernel_rfl)<|ob (x:=true) (by obtain rfl:‹Lp›=Lp.l7:=Lp.one _ _;kernel_rfl)<|ob (x:=true) ?_ (by obtain rfl:‹Lp›=Lp.l7:=Lp.one _ _;kernel_rfl));show ag (fE (D,())) _=_
 rw[a];rfl
def anp{D:Tx}(a:fE (D,())=ab (0,())):gC (M4 D,())=ab (true,()):=by
 unfold gC;refine ob (x:=(true,())) (by obtain rfl:‹Lp›=Lp.l7:=Lp.one _ _;kernel_rfl) (ob (x:=true) (by obtain rfl:‹Lp›=Lp.l7:=Lp.one _ _;kernel_rfl)<|ob (x:=true) (by obtain rfl:‹Lp›=Lp.l7:=Lp.one _ _;kernel_rfl)<|ob (x:=true) ?_ (by obtain rfl:‹Lp›=Lp.l7:=Lp.one _ _;kernel_rfl));show ag (fE (D,())) _=_
 rw[a];rfl
def mk3{D:Tx}(a:fE (D,())=ab (0,())):fI ((3:Int),((0:Int),[M1 D,M4 D],[],[],()),())=ab (0,()):=by
 have b:=ano a;have c:=anp a;have d:Loop (eQ ((3:Int),((0:Int),[M1 D,M4 D],[],[],()),())) (((0:Int),(0:Int),()),())=ab (0,((0:Int),(2:Int),()),()):=by
  have s0:eQ ((3:Int),((0:Int),[M1 D,M4 D],[],[],()),()) (((0:Int),(0:Int),()),())=ab (.inl (((0:Int),(1:Int),()),())):=by
   unfold eQ;refine(show ao true _ _=_ from ?_);rw[ae];exact ob (x:=M1 D) rfl (ob b rfl)
  have s1:eQ ((3:Int),((0:Int),[M1 D,M4 D],[],[],()),()) (((0:Int),(1:Int),()),())=ab (.inl (((0:Int),(2:Int),()),())):=by
   unfold eQ;refine(show ao true _ _=_ from ?_);rw[ae];exact ob (x:=M4 D) rfl (ob c rfl)
  rw[aT,s0];show Loop _ _=_
  rw[aT,s1];show Loop _ _=_
  rw[aT];rfl
 unfold fI;refine(show ao false _ (ao false _<|ao false _<|ao false _<|ao true _ _)=_ from ?_);rw[af,af,af,af,ae];refine ob (x:=(2:Int)) rfl ?_;refine(show ao false _ (ao true _ _)=_ from ?_);rw[af,ae];refine ob (x:=(0:Int)) rfl ?_;refine(show ao true _ _=_ from ?_);rw[ae];refine ob (x:=(0:Int)) rfl ?_;refine(show ao true _ _=_ from ?_);rw[ae];refine ob (x:=(2:Int)) rfl ?_;refine(show ao true _ _=_ from ?_);rw[ae];refine ob (x:=(2:Int)) rfl ?_;refine(show ao false _ _=_ from ?_);rw[af];refine ob d ?_;clear d b c a;obtain rfl:‹Lp›=Lp.l7:=Lp.one _ _;kernel_rfl
def alk{D N:Tx}(a:tn (N,())=ab (D,()))(c:nr (N,())=ab (0,()))(d:N.length=1024)
  (e:mq (t3 D N [IJ],w1,())=ab ([],0,())) (f:mq (t3 D N [IJ],w4,())=ab ([],0,())) :
  jr (t3 D N [IJ],())=ab (true,()):=by
 have hlen:aS 1024 (len N)=true:=by rw[show len N=(1024:Int) by unfold len;rw[d];rfl];rfl
 have step:∀(i j:Int) (x:aD),aZ i 2=true->idx [M1 D,M4 D] i=ab x->idx [N,N] i=ab N->x.2.2.2.2.2.2.1=true->x.2.2.2.2.2.1=0->x.2.2.2.2.1=1024->x.2.2.2.1=D ->
   mq (t3 D N [IJ],x.1,())=ab ([],0,())->aH IntKind.i64 i 1=j ->
   gZ (t3 D N [IJ],()) ((false,i,()),())=ab (.inl ((false,j,()),())):=λi j x g h b k l m n o p=>by
  unfold gZ;refine(show ao (ao (aZ i 2) (aZ i 2) false) _ _=_ from ?_);rw[g,ae,ae];refine ob (show idx (t3 D N [IJ]).2.2.1 i=ab x from h) ?_;rw[k,aF,af,l,aE rfl,aF,af];refine ob (show idx (t3 D N [IJ]).2.2.2.1 i=ab N from b) ?_;rw[m,hlen,aF,af];refine ob (show idx (t3 D N [IJ]).2.2.2.1 i=ab N from b) ?_;refine ob a ?_;rw[n,rW,aF,af];refine ob (show idx (t3 D N [IJ]).2.2.2.1 i=ab N from b) ?_;refine ob c ?_;rw[aE rfl,aF,af];refine ob o ?_;rw[aE rfl,aF,af,p]
 unfold jr;refine ob (x:=false) ?_ ?_
 .refine(show ao true _ _=_ from ?_);rw[ae];exact ob (mc D) rfl
 rw[af];refine ob (x:=(0,(false,(2:Int),()),())) ?_ rfl;rw[aT,step 0 1 (M1 D) rfl rfl rfl rfl rfl rfl rfl e rfl];show Loop _ _=_
 rw[aT,step 1 2 (M4 D) rfl rfl rfl rfl rfl rfl rfl f rfl];show Loop _ _=_
 rw[aT];rfl
def anq{D N:Tx}(a:fE (D,())=ab (0,()))(b:jr (t3 D N [IJ],())=ab (true,())):l4 (t3 D N [IJ],())=ab (true,()):=by
 unfold l4;refine ob mk1 ?_;refine ob (x:=false) ?_ ?_
 .refine(show ao true _ _=_ from ?_);rw[ae];exact ob mk2 rfl
 refine ob (x:=false) ?_ ?_
 .refine(show ao true _ _=_ from ?_);rw[ae];exact ob (mk3 a) rfl
 refine ob (x:=false) ?_ ?_
 .refine(show ao true _ _=_ from ?_);rw[ae];exact ob b rfl
 refine(show ao false _ _=_ from ?_);rw[af];refine ob (lp0 D N) ?_;refine(show ao true _ _=_ from ?_);rw[ae];refine ob (lp1 D N) ?_;refine(show ao true _ _=_ from ?_);rw[ae];exact ob (lp3 D N) rfl
end Go.Ge.W24
namespace Go.Ge.W24
variable [Lp]
set_option maxRecDepth 100000
def yy{s0:aA}{l:List cf}{i:Nat}{c:cf}{s b:aA}{acc:List agv}{a:agv}{R:_}(f:l[i]?=ab c)(g:l.length<=1000)(j:acc.length<=1000)
  (d:dR (s,c,())=ab (b,a,())) (h:Loop (gO (s0,l,())) (((),((i+1:Nat):Int),()),acc++[a],b,())=R) :
  Loop (gO (s0,l,())) (((),(i:Int),()),acc,s,())=R:=by
 have e:=aG f;have step:gO (s0,l,()) (((),(i:Int),()),acc,s,())=ab (.inl (((),((i+1:Nat):Int),()),acc++[a],b,())):=by
  unfold gO;dsimp only;rw[aq e,ae,au f,aa,d,aa];dsimp only;rw[bo<|by show _+1<=_;omega,ae,aL ai];rfl
 rw[aT,step];exact h
def aim{s0:aA}{l:List cf}{s:aA}{acc:List agv} :
  Loop (gO (s0,l,())) (((),(l.length:Int),()),acc,s,())=ab (((),(l.length:Int),()),acc,s,()):=by
 have step:gO (s0,l,()) (((),(l.length:Int),()),acc,s,())=ab (.inr (((),(l.length:Int),()),acc,s,())):=by
  unfold gO;dsimp only;rw[ay,af];rfl
 rw[aT,step];rfl
def TF:List cf:=[c1,c2,c3,c4,c5,c6,c7,c8]
def ade:List agv:=[okW w1,okW w2,(0,w3,0,w4,()),(7,[],0,[],()),okW w2,(0,w2,0,[118],()),(0,[],0,a7,()),(1,[],0,[],())]
def ain{D N:Tx}(b:dR (t0,c1,())=ab (t1 D N,okW w1,()))(c:dR (t2 D N,c3,())=ab (t3 D N [],(0,w3,0,w4,()),())) :
  yv (t0,TF,())=ab (t3 D N [IJ],ade,()):=by
 unfold yv;have d:=aim (s0:=t0) (l:=TF) (s:=t3 D N [IJ]) (acc:=ade);have a:TF.length<=1000:=by show 8<=1000;decide
 have key:=yy (s0:=t0) (l:=TF) (i:=0) (acc:=[]) rfl a (by show 0<=1000;decide) b
  (yy (i:=1) rfl a (by show 1<=1000;decide) (do2 D N)
  (yy (i:=2) rfl a (by show 2<=1000;decide) c
  (yy (i:=3) rfl a (by show 3<=1000;decide) (do4 D N)
  (yy (i:=4) rfl a (by show 4<=1000;decide) (do5 D N)
  (yy (i:=5) rfl a (by show 5<=1000;decide) (do6 D N)
  (yy (i:=6) rfl a (by show 6<=1000;decide) (do7 D N [IJ])
  (yy (i:=7) rfl a (by show 7<=1000;decide) (do8 D N [IJ]) d)))))))
 exact ob key rfl
def anr(D:Tx):bj [M1 D,M4 D] w1=([M1 D],0):=by rfl
def ant(D:Tx):bj [M1 D,M4 D] w4=([M4 D,M1 D],0):=by rfl
def aaW{a:List aD}{N:List Tx}{id:Tx}{c:List aD}(b:bj a id=(c,0))(d:(c.reverse.map λx=>sS a N x.1)=List.replicate c.length (kG 1024)):eg a N id=([],0):=by
 unfold eg;rw[b,aW rfl];show sR (c.reverse.map λx=>sS a N x.1) []=_
 rw[d];generalize c.length=n;induction n with
 | zero=>rfl
 | succ n e =>
   rw[adE];unfold sR;rw[ah7 IA,aW rfl];exact e
def anu(D:Tx):eg [M1 D,M4 D] [kG 1024,kG 1024] w1=([],0):=aaW (anr D) (by rfl)
def anv(D:Tx):eg [M1 D,M4 D] [kG 1024,kG 1024] w4=([],0):=aaW (ant D) (by rfl)
def ajS:l4 (t3 (ky<|kG 1024) (kG 1024) [IJ],())=ab (true,()):=by
 have a:(kG 1024).length=1024:=tz _;have hd:(ky<|kG 1024).length<=1048576:=by rw[Js];decide
 refine anq (by rw[Gw _ hd,Yy]) (alk (HW _<|by rw[a];decide) ?_ a ?_ ?_)
 .rw[xE];exact congrArg (λq=>ab (q,())) (aW acW)
 .rw[Fg _ _<|by show 2<=1000000;decide,show eg (t3 (ky<|kG 1024) (kG 1024) [IJ]).2.2.1 (t3 (ky<|kG 1024) (kG 1024) [IJ]).2.2.2.1 w1=([],0) from anu _]
 .rw[Fg _ _<|by show 2<=1000000;decide,show eg (t3 (ky<|kG 1024) (kG 1024) [IJ]).2.2.1 (t3 (ky<|kG 1024) (kG 1024) [IJ]).2.2.2.1 w4=([],0) from anv _]
def aio:nw ()=ab (true,()):=by
 have a:=ain do1 do3;have b:=ajS;have c:kZ (ade,ade,())=ab (true,()):=by
  obtain rfl:‹Lp›=Lp.l7:=Lp.one _ _;kernel_rfl
 have d:iP ((7,0,[],[],[],[],[],0,()),())=ab ([2,3],()):=by
  obtain rfl:‹Lp›=Lp.l7:=Lp.one _ _;kernel_rfl
 have e:tH ([2,3],[2,3],())=ab (true,()):=by
  obtain rfl:‹Lp›=Lp.l7:=Lp.one _ _;kernel_rfl
 unfold nw;refine ob a (ob b ?_);refine ob (x:=true) ?_ ?_
 .show ag (kZ (ade,ade,())) _=_
  exact ob c rfl
 refine ob (x:=true) ?_ rfl;rw[ae];exact ob d (ob e rfl)
end Go.Ge.W24
namespace Go.Ge
variable [Lp]
def WK(c:cf):∃b,uA (c,())=ab (b,())/\(b=true->ags c):=by
 obtain⟨b,e,f⟩:=SL c.2.2.2.2.1;unfold uA;rw[e,aa,gH (c:=8704) rfl,gH (c:=100) (l:=c.2.2.2.2.2.2.1) rfl];generalize ao (cj _ 100) _ false=q;cases q
 .exact⟨false,rfl,λh=>by cases h⟩
 by_cases a:c.2.2.2.2.2.1.length<=8704
 .by_cases d:c.2.2.2.2.2.2.1.length<=100
  .refine⟨b,?_,λh=>⟨f h,a,d⟩⟩;rw[dE a,dE d];rfl
  .refine⟨false,?_,λh=>by cases h⟩;rw[dE a,cL d];rfl
 .refine⟨false,?_,λh=>by cases h⟩;rw[cL a];rfl
def ajT{s:aA}(h:Nl s)(d:BdS s)(c:NU s):W24 s where
 hd:=d.hd
 dl:=by have:=h.aau;omega
 ml:=h.mts
 Y9:=c.Y9
 upI:=c.upI
 Y8:=c.Y8
 bits:=λx a=>(d.xb x a).2.2.2.2
 mts:=λx a=>(c.mts x a).2
 idB:=λx a=>by have:=(c.b.bl x a).id.2;omega
 idI:=λx a=>by have:=(c.i.il x a).id.2;omega
 idL:=λx a=>by have:=(c.l.ll x a).id.2;omega
structure mC (n:Nat) (s:aA):Prop where
 bl:s.1.length<=n
 il:s.2.1.length<=n
 ll:s.2.2.1.length<=n
 dl:s.2.2.2.1.length<=n
 ml:s.2.2.2.2.1.length<=n
 xb:∀x∈s.1,nZ x.2.1/\tw x.2.2.2.2.2.1
 xi:∀x∈s.2.1,nZ x.2.1/\tw x.2.2.2.2.1
 xl:∀x∈s.2.2.1,nZ x.2.2.1
def mC.slf{s:aA}(h:mC 40 s):ajO s:=⟨by have:=h.bl;omega,by have:=h.il;omega,by have:=h.ll;omega,by have:=h.dl;omega,by have:=h.ml;omega,h.xb,h.xi,h.xl⟩
def mC.row{s:aA}(h:mC 40 s):Zf s:=⟨⟨h.ll,h.il,h.bl,h.xl,λx q=>(h.xi x q).1,λx q=>(h.xb x q).1,λx q=>(h.xi x q).2⟩,by have:=h.dl;omega,by have:=h.ml;omega⟩
def mC.up{s:aA}(h:mC 39 s):mC 40 s:=⟨by have:=h.bl;omega,by have:=h.il;omega,by have:=h.ll;omega,by have:=h.dl;omega,by have:=h.ml;omega,h.xb,h.xi,h.xl⟩
def mC.ite{p:Prop}[Decidable p]{u v:aA×tF×al}(a:p->mC 40 u.1)(b:¬p->mC 40 v.1):mC 40 (if p then u else v).1:=by
 grind
def Lm{s:aA}(h:mC 40 s)(a:s.2.2.2.2.1.length<=39)(id:Tx)(n:Int):mC 40 (PJ s id n):=by
 refine⟨h.bl,h.il,h.ll,h.dl,?_,h.xb,h.xi,h.xl⟩;have:=(sz (λz:fT=>z.1) s.2.2.2.2.1 id).length_le;unfold PJ;dsimp only;split
 .rw[qf];omega
 .omega
def aaX{s:aA}(h:mC 40 s)(a:s.2.2.2.2.1.length<=39)(id:Tx):mC 40 (TA s id):=by
 have b:(tI s.2.2.1.length s.2.2.2.1).length<=40:=by rw[xK];exact h.ll
 unfold TA;cases Ef s.2.2.1 id with
 | none=>exact Lm (s:=(s.1,s.2.1,s.2.2.1,tI s.2.2.1.length s.2.2.2.1,s.2.2.2.2)) ⟨h.bl,h.il,h.ll,b,h.ml,h.xb,h.xi,h.xl⟩ a id 0
 | some i=>exact Lm (s:=(s.1,s.2.1,cutAt s.2.2.1 i,cutAt _ i,s.2.2.2.2)) ⟨h.bl,h.il,jb (Rq _ _) h.ll,jb (Rq _ _) b,h.ml,h.xb,h.xi,λx c=>h.xl x (acX _ _ x c)⟩ a id 0
def WL{s:aA}(h:mC 39 s){x:aD}(b:nZ x.2.2.1)(d:Tx):mC 40 (JE s x d):=by
 have c:=h.ll;have a:=h.up;refine⟨a.bl,a.il,?_,?_,a.ml,a.xb,a.xi,λy hy=>?_⟩
 .show(kH _ s.2.2.1 x).length<=40
  rw[qf];omega
 .show(sF _ _ _).length<=40
  unfold sF;simp only[hY,km,nV,xK,eU,gj];omega
 .rcases(sy _).1 hy with rfl|hy
  .exact b
  .exact a.xl y hy
def aip{s:aA}(h:mC 39 s)(c:Tx){a:List Tx}(e:nZ a)(d:Int):mC 40 (Wy s c a d).1:=by
 have b:=h.up;exact mC.ite (λ_=>b) λ_=>mC.ite (λ_=>b) λ_=>mC.ite (λ_=>b) λ_=>mC.ite (λ_=>b) λ_=>mC.ite (λ_=>b) λ_=>WL h e _
def Ln{s:aA}(h:mC 40 s){a:List ep}(b:a.length<=40)(c:∀x∈a,nZ x.2.1/\tw x.2.2.2.2.2.1):mC 40 (a,s.2):=⟨b,h.il,h.ll,h.dl,h.ml,c,h.xi,h.xl⟩
def Lo{s:aA}(h:mC 40 s){a:List bI}(b:a.length<=40)(c:∀x∈a,nZ x.2.1/\tw x.2.2.2.2.1):mC 40 (s.1,a,s.2.2):=⟨h.bl,b,h.ll,h.dl,h.ml,h.xb,c,h.xl⟩
def zS:tw ([]:List Item):=⟨aY,λx a=>by cases a⟩
def ajU{l:List It}{p:Tx}{x:It}(h:x∈rmI l p):x∈l:=by
 unfold rmI at h
 grind
def Zp{l:List Item}(h:tw l){p d:Tx}(e:p.length<=100)(a:(tu l p d).2=0):tw (tu l p d).1:=by
 unfold tu at a⊢;split at a
 rotate_left
 .cases a
 rename_i q;rw[aW q];split at a
 .cases a
 rename_i b;rw[aQ b];have f:=h.1;refine⟨?_,λx hx=>?_⟩
 .dsimp only;rw[afS];unfold rmI;cases c:Ik l p with
  | none =>
    grind
  | some i =>
    have:=ahF c
    grind
 .rcases afR.1 hx with rfl|hx
  .grind
  .exact h.2 x (ajU hx)
def WM{l m:List Item}{c:cf}{id:Tx}(h:(itF l c id).1=ab m)(a:tw l)(b:c.2.2.2.2.2.2.1.length<=100):tw m:=by
 unfold itF at h;split at h
 .grind
 .split at h
  .cases h
  .rename_i q;obtain rfl:=aR h;exact Zp a b (JS q)
def TG{b:Type}{a:b->Tx}{l:List b}{d:b}{id:Tx}:IF a l d id∈l\/IF a l d id=d:=by
 unfold IF;cases h:l.find? _ with
 | none=>exact .inr rfl
 | some y=>exact .inl (Xf h)
def Of:nZ []:=⟨aY,λx a=>by cases a⟩
def aiq{s:aA}(h:mC 40 s)(i:s.1.length<=39)(j:s.2.1.length<=39){c:cf}(b:ags c):mC 40 (itS s c).1:=by
 unfold itS;split
 .exact h
 split
 .exact h
 have d:∀id,nZ (IF _ s.1 R1 id).2.1/\tw (IF (λz:ep=>z.1) s.1 R1 id).2.2.2.2.2.1:=λid=>by
  rcases TG with q|q
  .exact h.xb _ q
  .rw[q];exact⟨Of,zS⟩
 have e:∀id,nZ (IF _ s.2.1 im0 id).2.1/\tw (IF (λz:bI=>z.1) s.2.1 im0 id).2.2.2.2.1:=λid=>by
  rcases TG (id:=id) with q|q
  .exact h.xi _ q
  .rw[q];exact⟨Of,zS⟩
 generalize (aX _ c.2.2.1).1=id;split
 .cases a:(itF (IF _ s.1 R1 id).2.2.2.2.2.1 c id).1 with
  | none=>exact h
  | some m =>
    have f:=WM a (d id).2 b.key;have g:=(sz (λz:ep=>z.1) s.1 id).length_le;refine Ln h (by show(kH _ _ _).length<=_;rw[qf];omega) λx hx=>?_;rcases(sy _).1 hx with rfl|hx
    .grind
    .exact h.xb x ((AL _).1 hx).1
 .cases a:(itF (IF _ s.2.1 im0 id).2.2.2.2.1 c id).1 with
  | none=>exact h
  | some m =>
    have f:=WM a (e id).2 b.key;have g:=(sz (λz:bI=>z.1) s.2.1 id).length_le;refine Lo h (by show(kH _ _ _).length<=_;rw[qf];omega) λx hx=>?_;rcases(sy _).1 hx with rfl|hx
    .grind
    .exact h.xi x ((AL _).1 hx).1
def air{s:aA}(h:mC 40 s)(d:s.1.length<=39)(e:s.2.1.length<=39){c:cf}(a:ags c):mC 40 (rcS s c).1:=by
 unfold rcS;split
 .exact h
 split
 .exact h
 split
 .exact h
 split
 .exact h
 split
 rotate_left
 .exact h
 generalize (aX _ c.2.2.1).1=id;unfold rnS;split
 .have b:=(sz (λz:ep=>z.1) s.1 id).length_le;refine Ln h (by show(kH _ _ _).length<=_;rw[qf];omega) λx hx=>?_;rcases(sy _).1 hx with rfl|hx
  .refine⟨a.YI,?_⟩;rcases TG with q|q
   .exact(h.xb _ q).2
   .dsimp only;rw[q];exact zS
  .exact h.xb x ((AL _).1 hx).1
 split
 .have b:=(sz (λz:bI=>z.1) s.2.1 id).length_le;refine Lo h (by show(kH _ _ _).length<=_;rw[qf];omega) λx hx=>?_;rcases(sy _).1 hx with rfl|hx
  .refine⟨a.YI,?_⟩;rcases TG (id:=id) with q|q
   .exact(h.xi _ q).2
   .dsimp only;rw[q];exact zS
  .exact h.xi x ((AL _).1 hx).1
 .refine⟨h.bl,h.il,by show(rnL _ _ _).length<=_;rw[TE];exact h.ll,h.dl,h.ml,h.xb,h.xi,λx hx=>?_⟩;rcases List.mem_or_eq_of_mem_set hx with hx|rfl
  .exact h.xl x hx
  .exact a.YI
def agw{s:aA}(h:mC 39 s){c:cf}(b:ags c):mC 40 (doF s c).1:=by
 have a:=h.up;have d:=h.ml;have e:=h.bl;have hi:=h.il;refine mC.ite (λ_=>?_) λ_=>mC.ite (λ_=>?_) λ_=>mC.ite (λ_=>a) λ_=>mC.ite (λ_=>a) λ_=>mC.ite (λ_=>?_) λ_=>mC.ite (λ_=>?_) λ_=>mC.ite (λ_=>?_) λ_=>mC.ite (λ_=>?_) λ_=>mC.ite (λ_=>?_) λ_=>mC.ite (λ_=>?_) λ_ =>
  mC.ite (λ_=>aiq a e hi b) λ_=>mC.ite (λ_=>air a e hi b) λ_=>a
 .unfold crS;exact mC.ite (λ_=>a) λ_=>mC.ite (λ_=>a) λ_=>mC.ite (λ_=>a) λ_=>mC.ite (λ_=>a) λ_=>mC.ite (λ_=>a) λ_=>mC.ite (λ_=>a) λ_=>mC.ite (λ_=>a) λ_=>mC.ite (λ_=>a) λ_=>WL h b.YI _
 .unfold dlS;exact mC.ite (λ_=>a) λ_=>mC.ite (λ_=>a) λ_=>aaX a d _
 .unfold ctS;exact mC.ite (λ_=>a) λ_=>mC.ite (λ_=>a) λ_=>mC.ite (λ_=>a) λ_=>Lm a d _ _
 .unfold ctS;exact mC.ite (λ_=>a) λ_=>mC.ite (λ_=>a) λ_=>mC.ite (λ_=>a) λ_=>Lm a d _ _
 .unfold crI;refine mC.ite (λ_=>a) λ_=>mC.ite (λ_=>a) λ_=>mC.ite (λ_=>a) λ_=>mC.ite (λ_=>a) λ_=>Lo a (by rw[qf];omega) λx hx=>?_;rcases(sy _).1 hx with rfl|hx
  .exact⟨b.YI,zS⟩
  .exact a.xi x hx
 .unfold dlI;have f:=(sz (λz:bI=>z.1) s.2.1 (aX (xG s) c.2.2.1).1).length_le;exact mC.ite (λ_=>a) λ_=>mC.ite (λ_=>a) λ_=>Lo a ai λx hx=>a.xi x ((AL _).1 hx).1
 .unfold crB;refine mC.ite (λ_=>a) λ_=>mC.ite (λ_=>a) λ_=>mC.ite (λ_=>a) λ_=>mC.ite (λ_=>a) λ_=>mC.ite (λ_=>a) λ_=>Ln (aip h _ Of _) (by rw[qf];omega) λx hx=>?_;rcases(sy _).1 hx with rfl|hx
  .exact⟨b.YI,zS⟩
  .exact a.xb x hx
 .unfold dlW;have f:=(sz (λz:ep=>z.1) s.1 (aX (AM s) c.2.2.1).1).length_le;exact mC.ite (λ_=>a) λ_=>mC.ite (λ_=>a) λ_=>aaX (Ln a ai λx hx=>a.xb x ((AL _).1 hx).1) d _
def ajV{s:aA}(h:Nl s)(b:NU s):mC 39 s:=⟨by have:=b.ah2;omega,by have:=b.ah1;omega,by have:=h.lays;omega,by have:=h.aau;omega,by have:=b.ajG;omega,λx a=>⟨h.base.bn x a,(h.base.bm x a).2⟩,λx a=>⟨h.base.pV x a,(h.base.im x a).2⟩,h.base.ln⟩
def mC.part{s:aA}(h:mC 39 s)(c:cf):mC 39 (fb s c) :=
 ⟨qi h.bl aY,qi h.il aY,qi h.ll aY,qi (by rw[gv];exact h.ll) aY,qi h.ml aY,
  λx q=>h.xb x ((xM q).resolve_right aY),λx q=>h.xi x ((xM q).resolve_right aY),λx q=>h.xl x ((xM q).resolve_right aY)⟩
def PN(g:nw ()=ab (true,()))(s:aA)(c:cf)(i:BkS s):jw (s,c,())=ab (true,()):=by
 obtain⟨k,l,m⟩:=acd s;obtain⟨n,o,p⟩:=WK c;unfold jw;rw[l,aa,o,aa,g];cases k with
 | false=>rfl
 | true =>
 have h:=m rfl;have f:=h.bd i;obtain⟨q,r,t⟩:=acS s f;rw[r,aa];cases n with
 | false=>rfl
 | true =>
 cases q with
 | false=>rfl
 | true =>
 have b:=p rfl;have e:=t.1 rfl;have d:=ajT h f e;obtain⟨u,v⟩:=ail e.j c;rw[aF,az,ae,aa,az,ae,aa,af,agt d b,aa,afX s c d.row,aa,agt (d.part c) b,aa,u,afV,ae];have a:=ajV h e;rw[afZ s _ c d.row (agw (a.part c) b).row,aa,v,Zb (agw a b).slf];rfl
def Og(s:aA)(c:cf)(a:BkS s):jw (s,c,())=ab (true,()):=PN W24.aio s c a
end Go.Ge
