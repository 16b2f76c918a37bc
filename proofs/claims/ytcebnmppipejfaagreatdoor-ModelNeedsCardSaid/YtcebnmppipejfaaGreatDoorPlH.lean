import Derived.Test.YtcebnmppipejfaaGreatDoorPlG
set_option linter.unusedSectionVars false
set_option linter.unusedVariables false
set_option linter.unusedSimpArgs false
namespace Go.Ge
variable [Lp]
set_option maxRecDepth 100000
theorem N9.row{s:bh}(h:N9 s):RY s:=⟨h.hd,by have:=h.afS;omega,by have:=h.mts;omega⟩
theorem Ol(l:List Int)(b:l.length<=1000000):gT (l,l,())=some (true,()):=by
 unfold gT;dsimp only;rw[aW rfl,aH,af];have key:=cq (f:=jN (l,l,())) (r:=(0,(false,(l.length:Int),()),())) l.length (λi:Nat=>((false,(i:Int),()),())) (λi a=>by
  have hx:l[i]?=some l[i]:=jE a;unfold jN;dsimp only;rw[au a,ae,ae,az hx,aa,aa,aW rfl,aH,af,aT (by omega)]) (by
  unfold jN;dsimp only;rw[aB,af,af])
 exact ob key rfl
theorem R1(c:eh):∃b,rG (c,())=some (b,()):=by
 obtain⟨b,a,_⟩:=Rn c.2.2.2.2.1;unfold rG;dsimp only;rw[a,aa];generalize aj (aj (aj (ca (len c.2.2.1) 100) (ca (len c.2.2.2.1) 100) false) (ca (len c.2.2.2.2.2.1) 8704) false) (ca (len c.2.2.2.2.2.2.1) 100) false=q;cases q
 .exact⟨false,rfl⟩
 .exact⟨b,rfl⟩
theorem xT{c:Type}{b:Bool}{x y:List c}{a:c}(h:a∈xS b x y):a∈x\/a∈y:=by
 cases b
 .exact .inr h
 .exact .inl h
theorem nY{a:Type}{b:Bool}{x y:List a}{n:Nat}(c:x.length<=n)(d:y.length<=n):(xS b x y).length<=n:=by
 cases b
 .exact d
 .exact c
theorem N9.aj8{s:bh}(h:N9 s)(c:eh):agL (UY s c) where
 bl:=nY (by have:=h.hd.bl;omega) (by simp)
 il:=nY (by have:=h.hd.il;omega) (by simp)
 ll:=nY (by have:=h.hd.ll;omega) (by simp)
 dl:=nY (by unfold RX;rw[so<|by simp];have:=h.hd.ll;omega) (by simp)
 ml:=nY (by have:=h.mts;omega) (by simp)
 xb:=λx a=>(xT a).elim (λq=>⟨h.hd.bn x q,(h.base.bm x q).2⟩) (λq=>by cases q)
 xi:=λx a=>(xT a).elim (λq=>⟨h.hd.pn x q,h.hd.it x q⟩) (λq=>by cases q)
 xl:=λx a=>(xT a).elim (λq=>h.hd.ln x q) (λq=>by cases q)
theorem N9.aj9{s p:bh}(h:N9 s)(a:N9 p)(c:eh):agL (jnF s c p) where
 bl:=nY (by have:=a.hd.bl;omega) (by have:=h.hd.bl;omega)
 il:=nY (by have:=a.hd.il;omega) (by have:=h.hd.il;omega)
 ll:=nY (by have:=a.hd.ll;omega) (by have:=h.hd.ll;omega)
 dl:=nY (by unfold Jt;rw[so<|xR _ _];have:=a.hd.ll;omega) (by have:=h.afS;omega)
 ml:=nY (by have:=a.mts;omega) (by have:=h.mts;omega)
 xb:=λx b=>(xT b).elim (λq=>⟨a.hd.bn x q,(a.base.bm x q).2⟩) (λq=>⟨h.hd.bn x q,(h.base.bm x q).2⟩)
 xi:=λx b=>(xT b).elim (λq=>⟨a.hd.pn x q,a.hd.it x q⟩) (λq=>⟨h.hd.pn x q,h.hd.it x q⟩)
 xl:=λx b=>(xT b).elim (λq=>a.hd.ln x q) (λq=>h.hd.ln x q)
theorem Om(d:lP ()=some (true,()))(s p:bh)(c:eh):ic (s,p,c,())=some (true,()):=by
 obtain⟨e,f,g⟩:=PT s;obtain⟨i,j,k⟩:=PT p;obtain⟨l,m⟩:=R1 c;unfold ic;dsimp only;rw[f,aa,j,aa,m,aa,d,aa];cases e with
 | false=>rfl
 | true =>
 cases i with
 | false=>rfl
 | true =>
 cases l with
 | false=>rfl
 | true =>
 have h:=g rfl;have a:=k rfl;have b:∀id,(bw s.2.2.1 id).1.length<=1000000:=λid=>by have:=(pf (ls:=s.2.2.1) (id:=id)).2;omega
 dsimp only;rw[aH,aA,ae,aa,aA,ae,aa,af];rw[Qb,aa,wH,aa,Ol (gh c) (by have:=DN c;omega),aa,ae];rw[wI,aa,sI,aa];dsimp only;rw[show eqB (km c) (km c)=true from by cases km c<;>rfl,ae];rw[Il s c h.hd b,aa,zx s c h.hd b,aa,uZ (wJ s c) (by have:=DO s c;omega),aa,ae];rw[adG s c h.row,aa,RZ s c h.row,aa,MF (h.aj8 c),aa,ae];rw[adI s p c h.row a.row,aa,R0 s p c h.row a.row,aa,MF (h.aj9 a c),aa,ae]
end Go.Ge
namespace Go.Ge.W24
variable [Lp]
set_option maxRecDepth 100000
abbrev adJ:=Int×Tx×Int×Tx×ai
def w1:Tx:=[48,48,48,48,48,49]
def w2:Tx:=[48,48,48,48,48,50]
def w3:Tx:=[48,48,48,48,48,51]
def w4:Tx:=[48,48,48,48,48,52]
def wb:Tx:=[98,97,115,101]
def ww:Tx:=[119,101,98]
def M1(D:Tx):ay:=(w1,[],[wb],D,1024,0,true,())
def M4(D:Tx):ay:=(w4,w1,[],D,1024,0,true,())
def im2(l:List Item):qH:=(w2,[ww],w1,[],l,())
def bx3:Dk:=(w3,[],w2,w4,[],[],())
def t0:bh:=([],[],[],[],[],())
def t1(D N:Tx):bh:=([],[],[M1 D],[N],[],())
def t2(D N:Tx):bh:=([],[im2 []],[M1 D],[N],[],())
def t3l(D N:Tx):bh:=([],[im2 []],[M1 D,M4 D],[N,N],[],())
def t3(D N:Tx)(l:List Item):bh:=([bx3],[im2 l],[M1 D,M4 D],[N,N],[],())
def dV:Tx:=nd [118]
def Ho:Item:=([107],dV,[118],())
def okW(id:Tx):adJ:=(0,id,0,[],())
def c1:eh:=(1,0,[],[],[wb],[],[],1,())
def c2:eh:=(7,0,[],wb,[ww],[],[],2,())
def c3:eh:=(11,0,[],ww,[],[],[],67108867,())
def c4:eh:=(2,0,wb,[],[],[],[],0,())
def c5:eh:=(9,2,ww,[],[],[118],[107],0,())
def c6:eh:=(10,2,[48],[],[],[],[107],0,())
def c7:eh:=(15,3,[],[],[],[],[],0,())
def c8:eh:=(99,0,[],[],[],[],[],0,())
def a7:Tx:=[48,48,48,48,48,49,32,98,97,115,101,10,48,48,48,48,48,52,10]
theorem akc:crG t0 [] [wb] 1=(t1 (nd<|kp 1024)<|kp 1024,UM w1,()):=by
 have a:sA [wb]=0:=by kernel_rfl
 have b:EW (wU t0) [] [wb]=0:=by kernel_rfl
 have c:qM (wU t0) 1=(w1,0,()):=by kernel_rfl
 unfold crG;rw[bb<|λq=>q a,bb (λq=>q.1 rfl),bb (λq=>q b),c,bb (λq=>q rfl),bb (λq=>q.1 (bd rfl)),show nF t0 []=[] from bd rfl];rfl
theorem akd:crG (t2 (nd<|kp 1024)<|kp 1024) w1 [] 4=(t3l (nd<|kp 1024)<|kp 1024,UM w4,()):=by
 have b:sA []=0:=by kernel_rfl
 have a:∀D N,lh (wU<|t2 D N) w1=(w1,0,()):=λD N=>by kernel_rfl
 have c:∀D N,EW (wU<|t2 D N) [] []=0:=λD N=>by kernel_rfl
 have d:∀D N,qM (wU<|t2 D N) 4=(w4,0,()):=λD N=>by kernel_rfl
 have e:∀D,bw [M1 D] w1=([M1 D],0):=λD=>by kernel_rfl
 have f:nF (t2 (nd<|kp 1024)<|kp 1024) w1=w1:=by
  unfold nF;rw[bb<|by decide,a]
 unfold crG;rw[bb<|λq=>q b,a,bb (λq=>q.2 rfl),bb (λq=>q (c _ _)),d,bb (λq=>q rfl),f,show(t2 (nd<|kp 1024)<|kp 1024).2.2.1=[M1<|nd<|kp 1024] from rfl,e,bb λq=>absurd q.2.2 (by decide)];rfl
theorem ake(D N:Tx):Vr (t2 D N):=⟨by show 1<=40;decide,by show 1<=40;decide,by show 0<=40;decide,λx a=>by
 obtain rfl:=zO.1 a;exact⟨by show 1<=8;decide,λy b=>by obtain rfl:=zO.1 b;show 4<=100;decide⟩,λx a=>by
 obtain rfl:=zO.1 a;exact⟨by show 1<=8;decide,λy b=>by obtain rfl:=zO.1 b;show 3<=100;decide⟩,λx a=>(by cases a),λx a=>by
 obtain rfl:=zO.1 a;exact⟨by show 0<=8;decide,λy b=>(by cases b)⟩⟩
theorem akf:Vr t0:=⟨by decide,by decide,by decide,λx a=>(by cases a),λx a=>(by cases a),λx a=>(by cases a),λx a=>(by cases a)⟩
theorem do1:eH (t0,c1,())=some (t1 (nd<|kp 1024)<|kp 1024,okW w1,()):=by
 have h:=zw t0 [] [wb] 1 akf (by decide);rw[akc] at h;unfold eH;dsimp only;rw[show aL c1.1 1=true from rfl,ae];exact ob h rfl
theorem do2(D N:Tx):eH (t1 D N,c2,())=some (t2 D N,okW w2,()):=by
 obtain rfl:‹Lp›=Lp.kD:=Lp.one _ _;kernel_rfl
theorem do3:eH (t2 (nd<|kp 1024)<|kp 1024,c3,())=some (t3 (nd<|kp 1024) (kp 1024) [],(0,w3,0,w4,()),()):=by
 have h:=zw (t2 (nd<|kp 1024)<|kp 1024) w1 [] 4 (ake _ _) (by decide);rw[akd] at h;have b:fy ([],())=some (0,()):=by
  obtain rfl:‹Lp›=Lp.kD:=Lp.one _ _;kernel_rfl
 have c:∀D N,rv (t2 D N,ww,())=some (w2,0,()):=λD N=>by
  obtain rfl:‹Lp›=Lp.kD:=Lp.one _ _;kernel_rfl
 have a:∀D N,nV (t2 D N,())=some ([],()):=λD N=>by
  obtain rfl:‹Lp›=Lp.kD:=Lp.one _ _;kernel_rfl
 have d:je ([],[],[],())=some (0,()):=by
  obtain rfl:‹Lp›=Lp.kD:=Lp.one _ _;kernel_rfl
 have e5:hW ([],jQ IntKind.i64 67108867 16777215,())=some (w3,0,()):=by
  obtain rfl:‹Lp›=Lp.kD:=Lp.one _ _;kernel_rfl
 have e6:∀D N,pQ (t2 D N,w2,())=some (im2 [],true,()):=λD N=>by
  obtain rfl:‹Lp›=Lp.kD:=Lp.one _ _;kernel_rfl
 have e:∀D N,sk (t3l D N,bx3,())=some (t3 D N [],()):=λD N=>by
  obtain rfl:‹Lp›=Lp.kD:=Lp.one _ _;kernel_rfl
 have key:p8 (t2 (nd<|kp 1024)<|kp 1024,ww,[],[],67108867,())=some (t3 (nd<|kp 1024) (kp 1024) [],(0,w3,0,w4,()),()):=by
  unfold p8;refine ob b ?_;rw[show aj (nt<|nt<|aL (0:Int) 0) (aO 64<|len ([]:Tx)) true=false from by decide,af];refine ob (x:=(((0:Int),()),(([]:Tx),([]:List Tx),w2,([]:Tx),([]:Tx),([]:List Item),()),())) ?_ ?_
  .rw[show nt (bz ww ([]:Tx))=true from by decide,ae];exact ob (c _ _) rfl
  refine ob (x:=(((0:Int),()),())) ?_ ?_
  .rw[show aL (0:Int) 0=true from rfl,ae];exact ob (a _ _) (ob d rfl)
  refine ob (x:=(((0:Int),()),(w3,([]:List Tx),w2,([]:Tx),([]:Tx),([]:List Item),()),())) ?_ ?_
  .rw[show aL (0:Int) 0=true from rfl,ae];exact ob (a _ _) (ob e5 rfl)
  rw[show nt (aL (0:Int) 0)=false from rfl,af];refine ob (e6 _ _) ?_;refine ob (x:=(t3l (nd<|kp 1024)<|kp 1024,UM w4,())) ?_ ?_
  .rw[show jQ IntKind.i64 (mQ IntKind.i64 67108867 24) 16777215=4 from by kernel_rfl,show bz ww ([]:Tx)=false from by decide,af];exact h
  rw[show nt (aL (UM w4).1 0)=false from rfl,af];exact ob (e _ _) rfl
 unfold eH;rw[show aL c3.1 1=false from rfl,show aL c3.1 2=false from rfl,show aL c3.1 3=false from rfl,show aL c3.1 4=false from rfl,show aL c3.1 5=false from rfl,show aL c3.1 6=false from rfl,show aL c3.1 7=false from rfl,show aL c3.1 8=false from rfl,show aL c3.1 11=true from rfl];simp only[af,ae];exact ob key rfl
theorem do4(D N:Tx):eH (t3 D N [],c4,())=some (t3 D N [],(7,[],0,[],()),()):=by
 obtain rfl:‹Lp›=Lp.kD:=Lp.one _ _;kernel_rfl
theorem do5(D N:Tx):eH (t3 D N [],c5,())=some (t3 D N [Ho],okW w2,()):=by
 obtain rfl:‹Lp›=Lp.kD:=Lp.one _ _;kernel_rfl
theorem do6(D N:Tx):eH (t3 D N [Ho],c6,())=some (t3 D N [Ho],(0,w2,0,[118],()),()):=by
 obtain rfl:‹Lp›=Lp.kD:=Lp.one _ _;kernel_rfl
theorem do7(D N:Tx)(l:List Item):eH (t3 D N l,c7,())=some (t3 D N l,(0,[],0,a7,()),()):=by
 obtain rfl:‹Lp›=Lp.kD:=Lp.one _ _;kernel_rfl
theorem do8(D N:Tx)(l:List Item):eH (t3 D N l,c8,())=some (t3 D N l,(1,[],0,[],()),()):=by
 obtain rfl:‹Lp›=Lp.kD:=Lp.one _ _;kernel_rfl
end Go.Ge.W24
namespace Go.Ge.W24
variable [Lp]
set_option maxRecDepth 100000
theorem mk1:gJ ((1:Int),((0:Int),[],[],[bx3],()),())=some (0,()):=by
 obtain rfl:‹Lp›=Lp.kD:=Lp.one _ _;kernel_rfl
theorem mk2:gJ ((2:Int),((0:Int),[],[im2 [Ho]],[],()),())=some (0,()):=by
 obtain rfl:‹Lp›=Lp.kD:=Lp.one _ _;kernel_rfl
theorem mc(D:Tx):wA ([M1 D,M4 D],())=some (0,()):=by
 obtain rfl:‹Lp›=Lp.kD:=Lp.one _ _;kernel_rfl
theorem lp0(D N:Tx):Loop (Ax (t3 D N [Ho],())) ((false,(0:Int),()),())=some (0,(false,(1:Int),()),()):=by
 obtain rfl:‹Lp›=Lp.kD:=Lp.one _ _;kernel_rfl
theorem lp1(D N:Tx):Loop (Ay (t3 D N [Ho],())) ((false,(0:Int),()),())=some (0,(false,(1:Int),()),()):=by
 obtain rfl:‹Lp›=Lp.kD:=Lp.one _ _;kernel_rfl
theorem lp3(D N:Tx):Loop (Az (t3 D N [Ho],())) ((false,(0:Int),()),())=some (0,(false,(0:Int),()),()):=by
 obtain rfl:‹Lp›=Lp.kD:=Lp.one _ _;kernel_rfl
theorem akg{D:Tx}(a:eV (D,())=some (0,())):lN (M1 D,())=some (true,()):=by
 unfold lN;refine ob (x:=(true,())) (by obtain rfl:‹Lp›=Lp.kD:=Lp.one _ _;kernel_rfl) (ob (x:=true) (by obtain rfl:‹Lp›=Lp.kD:=Lp.one _ _;kernel_rfl)<|ob (x:=true) (by obtain rfl:‹Lp›=Lp.kD:=Lp.one _ _;kernel_rfl)<|ob (x:=true) ?_ (by obtain rfl:‹Lp›=Lp.kD:=Lp.one _ _;kernel_rfl));show ab (eV (D,())) _=_
 rw[a];rfl
theorem akh{D:Tx}(a:eV (D,())=some (0,())):lN (M4 D,())=some (true,()):=by
 unfold lN;refine ob (x:=(true,())) (by obtain rfl:‹Lp›=Lp.kD:=Lp.one _ _;kernel_rfl) (ob (x:=true) (by obtain rfl:‹Lp›=Lp.kD:=Lp.one _ _;kernel_rfl)<|ob (x:=true) (by obtain rfl:‹Lp›=Lp.kD:=Lp.one _ _;kernel_rfl)<|ob (x:=true) ?_ (by obtain rfl:‹Lp›=Lp.kD:=Lp.one _ _;kernel_rfl));show ab (eV (D,())) _=_
 rw[a];rfl
theorem mk3{D:Tx}(a:eV (D,())=some (0,())):gJ ((3:Int),((0:Int),[M1 D,M4 D],[],[],()),())=some (0,()):=by
 have b:=akg a;have c:=akh a;have d:Loop (gS ((3:Int),((0:Int),[M1 D,M4 D],[],[],()),())) (((0:Int),(0:Int),()),())=some (0,((0:Int),(2:Int),()),()):=by
  have s0:gS ((3:Int),((0:Int),[M1 D,M4 D],[],[],()),()) (((0:Int),(0:Int),()),())=some (.inl (((0:Int),(1:Int),()),())):=by
   unfold gS;refine(show aj true _ _=_ from ?_);rw[ae];exact ob (x:=M1 D) rfl (ob b rfl)
  have s1:gS ((3:Int),((0:Int),[M1 D,M4 D],[],[],()),()) (((0:Int),(1:Int),()),())=some (.inl (((0:Int),(2:Int),()),())):=by
   unfold gS;refine(show aj true _ _=_ from ?_);rw[ae];exact ob (x:=M4 D) rfl (ob c rfl)
  rw[aR,s0];show Loop _ _=_
  rw[aR,s1];show Loop _ _=_
  rw[aR];rfl
 unfold gJ;refine(show aj false _ (aj false _<|aj false _<|aj false _<|aj true _ _)=_ from ?_);rw[af,af,af,af,ae];refine ob (x:=(2:Int)) rfl ?_;refine(show aj false _ (aj true _ _)=_ from ?_);rw[af,ae];refine ob (x:=(0:Int)) rfl ?_;refine(show aj true _ _=_ from ?_);rw[ae];refine ob (x:=(0:Int)) rfl ?_;refine(show aj true _ _=_ from ?_);rw[ae];refine ob (x:=(2:Int)) rfl ?_;refine(show aj true _ _=_ from ?_);rw[ae];refine ob (x:=(2:Int)) rfl ?_;refine(show aj false _ _=_ from ?_);rw[af];refine ob d ?_;clear d b c a;obtain rfl:‹Lp›=Lp.kD:=Lp.one _ _;kernel_rfl
theorem ah9{D N:Tx}(a:qG (N,())=some (D,()))(c:lM (N,())=some (0,()))(d:N.length=1024)
  (e:kM (t3 D N [Ho],w1,())=some ([],0,())) (f:kM (t3 D N [Ho],w4,())=some ([],0,())) :
  mK (t3 D N [Ho],())=some (true,()):=by
 have hlen:aL 1024 (len N)=true:=by rw[show len N=(1024:Int) by unfold len;rw[d];rfl];rfl
 have step:∀(i j:Int) (x:ay),aO i 2=true->idx [M1 D,M4 D] i=some x->idx [N,N] i=some N->x.2.2.2.2.2.2.1=true->x.2.2.2.2.2.1=0->x.2.2.2.2.1=1024->x.2.2.2.1=D ->
   kM (t3 D N [Ho],x.1,())=some ([],0,())->ax IntKind.i64 i 1=j ->
   pY (t3 D N [Ho],()) ((false,i,()),())=some (.inl ((false,j,()),())):=λi j x g h b k l m n o p=>by
  unfold pY;refine(show aj (aj (aO i 2) (aO i 2) false) _ _=_ from ?_);rw[g,ae,ae];refine ob (show idx (t3 D N [Ho]).2.2.1 i=some x from h) ?_;rw[k,aH,af,l,aW rfl,aH,af];refine ob (show idx (t3 D N [Ho]).2.2.2.1 i=some N from b) ?_;rw[m,hlen,aH,af];refine ob (show idx (t3 D N [Ho]).2.2.2.1 i=some N from b) ?_;refine ob a ?_;rw[n,rW,aH,af];refine ob (show idx (t3 D N [Ho]).2.2.2.1 i=some N from b) ?_;refine ob c ?_;rw[aW rfl,aH,af];refine ob o ?_;rw[aW rfl,aH,af,p]
 unfold mK;refine ob (x:=false) ?_ ?_
 .refine(show aj true _ _=_ from ?_);rw[ae];exact ob (mc D) rfl
 rw[af];refine ob (x:=(0,(false,(2:Int),()),())) ?_ rfl;rw[aR,step 0 1 (M1 D) rfl rfl rfl rfl rfl rfl rfl e rfl];show Loop _ _=_
 rw[aR,step 1 2 (M4 D) rfl rfl rfl rfl rfl rfl rfl f rfl];show Loop _ _=_
 rw[aR];rfl
theorem aki{D N:Tx}(a:eV (D,())=some (0,()))(b:mK (t3 D N [Ho],())=some (true,())):sg (t3 D N [Ho],())=some (true,()):=by
 unfold sg;refine ob mk1 ?_;refine ob (x:=false) ?_ ?_
 .refine(show aj true _ _=_ from ?_);rw[ae];exact ob mk2 rfl
 refine ob (x:=false) ?_ ?_
 .refine(show aj true _ _=_ from ?_);rw[ae];exact ob (mk3 a) rfl
 refine ob (x:=false) ?_ ?_
 .refine(show aj true _ _=_ from ?_);rw[ae];exact ob b rfl
 refine(show aj false _ _=_ from ?_);rw[af];refine ob (lp0 D N) ?_;refine(show aj true _ _=_ from ?_);rw[ae];refine ob (lp1 D N) ?_;refine(show aj true _ _=_ from ?_);rw[ae];exact ob (lp3 D N) rfl
end Go.Ge.W24
namespace Go.Ge.W24
variable [Lp]
set_option maxRecDepth 100000
theorem vS{s0:bh}{l:List eh}{i:Nat}{c:eh}{s b:bh}{acc:List adJ}{a:adJ}{R:_}(f:l[i]?=some c)(g:l.length<=1000)(j:acc.length<=1000)
  (d:eH (s,c,())=some (b,a,())) (h:Loop (fM (s0,l,())) (((),((i+1:Nat):Int),()),acc++[a],b,())=R) :
  Loop (fM (s0,l,())) (((),(i:Int),()),acc,s,())=R:=by
 have e:=aG f;have step:fM (s0,l,()) (((),(i:Int),()),acc,s,())=some (.inl (((),((i+1:Nat):Int),()),acc++[a],b,())):=by
  unfold fM;dsimp only;rw[au e,ae,az f,aa,d,aa];dsimp only;rw[b7<|by show _+1<=_;omega,ae,aT (by omega)];rfl
 rw[aR,step];exact h
theorem aff{s0:bh}{l:List eh}{s:bh}{acc:List adJ} :
  Loop (fM (s0,l,())) (((),(l.length:Int),()),acc,s,())=some (((),(l.length:Int),()),acc,s,()):=by
 have step:fM (s0,l,()) (((),(l.length:Int),()),acc,s,())=some (.inr (((),(l.length:Int),()),acc,s,())):=by
  unfold fM;dsimp only;rw[aB,af];rfl
 rw[aR,step];rfl
def R2:List eh:=[c1,c2,c3,c4,c5,c6,c7,c8]
def aaF:List adJ:=[okW w1,okW w2,(0,w3,0,w4,()),(7,[],0,[],()),okW w2,(0,w2,0,[118],()),(0,[],0,a7,()),(1,[],0,[],())]
theorem afg{D N:Tx}(b:eH (t0,c1,())=some (t1 D N,okW w1,()))(c:eH (t2 D N,c3,())=some (t3 D N [],(0,w3,0,w4,()),())) :
  vQ (t0,R2,())=some (t3 D N [Ho],aaF,()):=by
 unfold vQ;have d:=aff (s0:=t0) (l:=R2) (s:=t3 D N [Ho]) (acc:=aaF);have a:R2.length<=1000:=by show 8<=1000;decide
 have key:=vS (s0:=t0) (l:=R2) (i:=0) (acc:=[]) rfl a (by show 0<=1000;decide) b
  (vS (i:=1) rfl a (by show 1<=1000;decide) (do2 D N)
  (vS (i:=2) rfl a (by show 2<=1000;decide) c
  (vS (i:=3) rfl a (by show 3<=1000;decide) (do4 D N)
  (vS (i:=4) rfl a (by show 4<=1000;decide) (do5 D N)
  (vS (i:=5) rfl a (by show 5<=1000;decide) (do6 D N)
  (vS (i:=6) rfl a (by show 6<=1000;decide) (do7 D N [Ho])
  (vS (i:=7) rfl a (by show 7<=1000;decide) (do8 D N [Ho]) d)))))))
 exact ob key rfl
theorem akj(D:Tx):bw [M1 D,M4 D] w1=([M1 D],0):=by rfl
theorem akk(D:Tx):bw [M1 D,M4 D] w4=([M4 D,M1 D],0):=by rfl
theorem YT{a:List ay}{N:List Tx}{id:Tx}{c:List ay}(b:bw a id=(c,0))(d:(c.reverse.map λx=>zJ a N x.1)=List.replicate c.length (kp 1024)):lv a N id=([],0):=by
 unfold lv;rw[b,bd rfl];show AY (c.reverse.map λx=>zJ a N x.1) []=_
 rw[d];generalize c.length=n;induction n with
 | zero=>rfl
 | succ n e =>
   rw[aa9];unfold AY;rw[afc aaA,bd rfl];exact e
theorem akl(D:Tx):lv [M1 D,M4 D] [kp 1024,kp 1024] w1=([],0):=YT (akj D) (by rfl)
theorem akm(D:Tx):lv [M1 D,M4 D] [kp 1024,kp 1024] w4=([],0):=YT (akk D) (by rfl)
theorem agM:sg (t3 (nd<|kp 1024) (kp 1024) [Ho],())=some (true,()):=by
 have a:(kp 1024).length=1024:=uT _;have hd:(nd<|kp 1024).length<=1048576:=by rw[H8];decide
 refine aki (by rw[Ru _ hd,WQ]) (ah9 (Z3 _<|by rw[a];decide) ?_ a ?_ ?_)
 .rw[AZ];exact congrArg (λq=>some (q,())) (bd aaB)
 .rw[Mq _ _<|by show 2<=1000000;decide,show lv (t3 (nd<|kp 1024) (kp 1024) [Ho]).2.2.1 (t3 (nd<|kp 1024) (kp 1024) [Ho]).2.2.2.1 w1=([],0) from akl _]
 .rw[Mq _ _<|by show 2<=1000000;decide,show lv (t3 (nd<|kp 1024) (kp 1024) [Ho]).2.2.1 (t3 (nd<|kp 1024) (kp 1024) [Ho]).2.2.2.1 w4=([],0) from akm _]
theorem afh:lP ()=some (true,()):=by
 have a:=afg do1 do3;have b:=agM;have c:jM (aaF,aaF,())=some (true,()):=by
  obtain rfl:‹Lp›=Lp.kD:=Lp.one _ _;kernel_rfl
 have d:fB ((7,0,[],[],[],[],[],0,()),())=some ([2,3],()):=by
  obtain rfl:‹Lp›=Lp.kD:=Lp.one _ _;kernel_rfl
 have e:gT ([2,3],[2,3],())=some (true,()):=by
  obtain rfl:‹Lp›=Lp.kD:=Lp.one _ _;kernel_rfl
 unfold lP;refine ob a (ob b ?_);refine ob (x:=true) ?_ ?_
 .show ab (jM (aaF,aaF,())) _=_
  exact ob c rfl
 refine ob (x:=true) ?_ rfl;rw[ae];exact ob d (ob e rfl)
end Go.Ge.W24
namespace Go.Ge
variable [Lp]
theorem MK(s p:bh)(c:eh):ic (s,p,c,())=some (true,()):=Om W24.afh s p c
end Go.Ge
