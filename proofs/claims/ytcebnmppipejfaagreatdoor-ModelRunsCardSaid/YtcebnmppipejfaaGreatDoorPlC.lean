import Derived.Test.YtcebnmppipejfaaGreatDoorPlB
set_option linter.unusedVariables false
set_option linter.unusedSectionVars false
set_option linter.unusedSimpArgs false
set_option linter.defProp false
noncomputable section
open Option renaming some->aa,none->af
open Sum renaming inl->aG,inr->aH
open Go.IntKind (i64)
namespace Go.Ge
variable [Lp]
set_option maxRecDepth 100000
abbrev cV:=((List<|Sb×(List Sb)×Sb×Sb×Sb×(List<|Sb×Sb×Sb×al)×al)×(List<|Sb×(List Sb)×Sb×Sb×(List<|Sb×Sb×Sb×al)×al)×(List<|Sb×Sb×(List Sb)×Sb×Int×Int×Bool×al)×(List Sb)×(List<|Sb×Int×al)×al)
abbrev cC:=(Sb×Sb×(List Sb)×Sb×Int×Int×Bool×al)
abbrev rV:=(Sb×Int×al)
abbrev Cv:=(Int×Sb×Int×Sb×al)
abbrev acr:=(Sb×Int×Int×Sb×Sb×al)
abbrev Ey:=(Nat×(Int×Int×al)×Sb×al)
abbrev Ez:=((Int×Int×al)×Sb×al)
abbrev acs:=(Sb×(List Sb)×Sb×Sb×Sb×(List<|Sb×Sb×Sb×al)×al)
abbrev AD:=(Sb×Int×Int×al)
abbrev Cw:=(Sb×(List Sb)×al)
abbrev WL:=(Sb×(List Sb)×Sb×Sb×(List<|Sb×Sb×Sb×al)×al)
abbrev FV:=((List cC)×Int×al×Sb×Int×al)
abbrev ir:=(Int×Int×al)
abbrev zX:=((List cC)×Int×al×Sb×al)
abbrev FW:=(Int×Sb×Int×al)
abbrev WM:=(Nat×ir×al×Sb×al)
abbrev Jv:=(bj×(bj×((List bj)×(bj×(Int×(Int×(Bool×al)))))))
abbrev aep:=((al×al×Bool×Int×al)×(List Sb)×(List cC)×al)
abbrev WN:=(ir×al×Sb×al)
abbrev aeq:=((Int×Int×al×al)×Sb×(List rV)×al)
abbrev OI:=(Nat×AD×al)
def eH(l:List bj)(x:(Int×((List bj)×al))):Option (List bj):=vX l x.1 x.2.1
def dw(l:List Jv)(x:(Int×((List Jv)×al))):Option (List Jv):=vX l x.1 x.2.1
def eI(l:List bj)(x:(Int×(Int×al))):Option (List bj):=K0 l x.1 x.2.1
def dx(l:List Jv)(x:(Int×(Int×al))):Option (List Jv):=K0 l x.1 x.2.1
def eO(l:List (bj×(Int×al)))(x:(Int×((List<|bj×(Int×al))×al))):Option (List<|bj×(Int×al)):=vX l x.1 x.2.1
def AE(x:al):Option (Sb×al) :=ae (pv ([0],1024,())) (λa=>aa (a.1,()))
def lI(x:(List cC)×Sb×al)(a:FV×(List cC)×al):Option ((FV×(List cC)×al)⊕(Nat×FV×(List cC)×al)) :=
 ao (ba a.1.2.2.2.2.1<|len x.1) (ae (idx x.1 a.1.2.2.2.2.1) λb=>ao (nt<|bA b.1 a.1.2.2.2.1)
 (aa<|aG ((a.1.1,a.1.2.1,(),a.1.2.2.2.1,aC i64 a.1.2.2.2.2.1 1,()),a.2.1,())) (ao (aR (len a.2.1) 16)
 (aa<|aH (1,([],5,(),a.1.2.2.2.1,a.1.2.2.2.2.1,()),a.2.1,())) (ae (bd (b.2.2.1,())) λc=>ao (fits<|plus (len a.2.1)<|len ([(b.1,b.2.1,c.1,b.2.2.2)]:List cC))
 (ao (bA b.2.1 [])
 (aa<|aH (2,(a.1.1,a.1.2.1,(),a.1.2.2.2.1,a.1.2.2.2.2.1,()),app a.2.1 [(b.1,b.2.1,c.1,b.2.2.2)],())) (aa<|aH (3,(a.1.1,a.1.2.1,(),b.2.1,a.1.2.2.2.2.1,()),app a.2.1 [(b.1,b.2.1,c.1,b.2.2.2)],())))
 af)))
 (aa<|aH (0,(a.1.1,a.1.2.1,(),a.1.2.2.2.1,a.1.2.2.2.2.1,()),a.2.1,()))
def pW(x:(List cC)×Sb×al)(c:zX×(List cC)×al):Option ((zX×(List cC)×al)⊕(Nat×zX×(List cC)×al)) :=
 ae (Loop (lI x) ((c.1.1,c.1.2.1,(),c.1.2.2.2.1,0,()),c.2.1,())) (λa=>ao (cF a.1 0)
 (aa<|aH (0,([],3,(),a.2.1.2.2.2.1,()),a.2.2.1,())) (ao (cF (@Nat.rec (λ(b:Nat)=>Nat) 0 (λ(b:Nat)=>λ(d:Nat)=>b) a.1) 0)
 (aa<|aH (0,(a.2.1.1,a.2.1.2.1,(),a.2.1.2.2.2.1,()),a.2.2.1,())) (ao (cF (@Nat.rec (λ(b:Nat)=>Nat) 0 (λ(b:Nat)=>λ(d:Nat)=>b)<|@Nat.rec (λ(b:Nat)=>Nat) 0 (λ(b:Nat)=>λ(d:Nat)=>b) a.1) 0)
 (aa<|aH (1,(a.2.1.1,a.2.1.2.1,(),a.2.1.2.2.2.1,()),a.2.2.1,())) (aa<|aG ((a.2.1.1,a.2.1.2.1,(),a.2.1.2.2.2.1,()),a.2.2.1,())))))
def vD(x:(List cC)×Sb×al):Option ((List cC)×Int×al) :=
 ae (Loop (pW x) (([],0,(),x.2.1,()),[],())) (λa=>ao (cF a.1 0)
 (aa (a.2.1.1,a.2.1.2.1,())) (aa (a.2.2.1,0,())))
def np(x:cV×al):Option ((List Sb)×al) :=
 ao (inside 0 (len x.1.2.2.1)<|len x.1.2.2.1) (ao (fits<|len x.1.2.2.1)
 (aa (over (oq (len x.1.2.2.1) []) 0<|@kD Sb x.1.2.2.2.1<|len<|oq (len x.1.2.2.1) ([]:bj),())) af)
 af
def wL(x:cC×al):Option (Sb×al) :=aa (x.1.1,())
def Ld(x:cV×Sb×al)(a:ir×al×Sb×al):Option (WN⊕WM) :=
 ao (ba a.1.2.1<|len x.1.2.2.1) (ae (idx x.1.2.2.1 a.1.2.1) λb=>ae (wL (b,())) λc=>ao (bA c.1 a.2.2.1)
 (aa<|aH (1,(a.1.2.1,a.1.2.1,()),(),a.2.2.1,())) (aa<|aG ((a.1.1,aC i64 a.1.2.1 1,()),(),a.2.2.1,())))
 (aa<|aH (0,(a.1.1,a.1.2.1,()),(),a.2.2.1,()))
def kv(x:cV×Sb×al):Option (cC×Sb×Bool×al) :=
 ae (ae (Loop (Ld x) ((0,0,()),(),x.2.1,())) λa=>ao (cF a.1 0)
 (aa (((-1),()),(),a.2.2.2.1,())) (aa ((a.2.1.1,()),(),a.2.2.2.1,()))) (λa=>ao (ba a.1.1 0) (aa (([],[],[],[],0,0,false,()),[],false,())) (ae (idx x.1.2.2.1 a.1.1) λb=>ae (bd (b.2.2.1,())) λc=>ae (np (x.1,())) λd=>ae (idx d.1 a.1.1) λe=>aa ((b.1,b.2.1,c.1,b.2.2.2),e,true,())))
def NJ(x:cV×Sb×al)(a:FV×(List cC)×al):Option ((FV×(List cC)×al)⊕(Nat×FV×(List cC)×al)) :=
 ao (ba a.1.2.2.2.2.1<|len x.1.2.2.1) (ae (idx x.1.2.2.1 a.1.2.2.2.2.1) λb=>ao (nt<|bA b.1 a.1.2.2.2.1)
 (aa<|aG ((a.1.1,a.1.2.1,(),a.1.2.2.2.1,aC i64 a.1.2.2.2.2.1 1,()),a.2.1,())) (ao (aR (len a.2.1) 16)
 (aa<|aH (1,([],5,(),a.1.2.2.2.1,a.1.2.2.2.2.1,()),a.2.1,())) (ae (bd (b.2.2.1,())) λc=>ao (fits<|plus (len a.2.1)<|len ([(b.1,b.2.1,c.1,b.2.2.2)]:List cC))
 (ao (bA b.2.1 [])
 (aa<|aH (2,(a.1.1,a.1.2.1,(),a.1.2.2.2.1,a.1.2.2.2.2.1,()),app a.2.1 [(b.1,b.2.1,c.1,b.2.2.2)],())) (aa<|aH (3,(a.1.1,a.1.2.1,(),b.2.1,a.1.2.2.2.2.1,()),app a.2.1 [(b.1,b.2.1,c.1,b.2.2.2)],())))
 af)))
 (aa<|aH (0,(a.1.1,a.1.2.1,(),a.1.2.2.2.1,a.1.2.2.2.2.1,()),a.2.1,()))
def NK(x:cV×Sb×al)(c:zX×(List cC)×al):Option ((zX×(List cC)×al)⊕(Nat×zX×(List cC)×al)) :=
 ae (Loop (NJ x) ((c.1.1,c.1.2.1,(),c.1.2.2.2.1,0,()),c.2.1,())) (λa=>ao (cF a.1 0)
 (aa<|aH (0,([],3,(),a.2.1.2.2.2.1,()),a.2.2.1,())) (ao (cF (@Nat.rec (λ(b:Nat)=>Nat) 0 (λ(b:Nat)=>λ(d:Nat)=>b) a.1) 0)
 (aa<|aH (0,(a.2.1.1,a.2.1.2.1,(),a.2.1.2.2.2.1,()),a.2.2.1,())) (ao (cF (@Nat.rec (λ(b:Nat)=>Nat) 0 (λ(b:Nat)=>λ(d:Nat)=>b)<|@Nat.rec (λ(b:Nat)=>Nat) 0 (λ(b:Nat)=>λ(d:Nat)=>b) a.1) 0)
 (aa<|aH (1,(a.2.1.1,a.2.1.2.1,(),a.2.1.2.2.2.1,()),a.2.2.1,())) (aa<|aG ((a.2.1.1,a.2.1.2.1,(),a.2.1.2.2.2.1,()),a.2.2.1,())))))
def NL(b:Nat×zX×(List cC)×al)(a:ir×al):Option ((ir×al)⊕(ir×al)) :=
 cf (ao (ba a.1.1 a.1.2.1)
 (ae (idx b.2.1.1 a.1.2.1) λc=>ae (idx b.2.1.1 a.1.1) λd=>ae (idx b.2.1.1 a.1.1) λe=>af) (aa<|aH (0,(a.1.1,a.1.2.1,()),())))
def NM(x:cV×Sb×al)(b:Nat×zX×(List cC)×al)(a:(al×Int×al)×(List Sb)×al):Option (((al×Int×al)×(List Sb)×al)⊕((al×Int×al)×(List Sb)×al)) :=
 cf (ao (ba a.1.2.1<|len b.2.1.1)
 (ae (idx b.2.1.1 a.1.2.1) λd=>ae (kv (x.1,d.1,())) λc=>ao (fits<|plus (len a.2.1)<|len [c.2.1])
 (aa<|aG (((),aC i64 a.1.2.1 1,()),app a.2.1 [c.2.1],())) af)
 (aa<|aH (0,((),a.1.2.1,()),a.2.1,())))
def fP(a:(Int×Int×al×al)×(List cC)×al):Option (((Int×Int×al×al)×(List cC)×al)⊕((Int×Int×al×al)×(List cC)×al)) :=
 cf (ao (ba a.1.1 a.1.2.1)
 (ao (within a.1.2.1<|len a.2.1)
 (ae (idx a.2.1 a.1.2.1) λb=>ao (within a.1.1<|len a.2.1)
 (ae (idx a.2.1 a.1.1) λc=>ao (within a.1.1<|len a.2.1)
 (ae (idx a.2.1 a.1.1) λe=>ae (idx a.2.1 a.1.1) λf=>ae (idx a.2.1 a.1.1) λg=>ao (within a.1.2.1<|len<|oo a.2.1 a.1.1 b)
 (ae (idx (oo a.2.1 a.1.1 b) a.1.2.1) λh=>ae (idx (oo a.2.1 a.1.1 b) a.1.2.1) λi=>ae (idx (oo a.2.1 a.1.1 b) a.1.2.1) λd=>aa (aG ((aC i64 a.1.1 1,cR i64 a.1.2.1 1,(),()),oo (oo a.2.1 a.1.1 b) a.1.2.1 c,()))) af)
 af)
 af)
 af)
 (aa<|aH (0,(a.1.1,a.1.2.1,(),()),a.2.1,())))
def rC(x:cV×Sb×al)(b:(Int×Int×al×al)×(List cC)×al)(a:(al×Int×al)×(List Sb)×al):Option (((al×Int×al)×(List Sb)×al)⊕((al×Int×al)×(List Sb)×al)) :=
 cf (ao (ba a.1.2.1<|len b.2.1)
 (ae (idx b.2.1 a.1.2.1) λd=>ae (kv (x.1,d.1,())) λc=>ao (fits<|plus (len a.2.1)<|len [c.2.1])
 (aa<|aG (((),aC i64 a.1.2.1 1,()),app a.2.1 [c.2.1],())) af)
 (aa<|aH (0,((),a.1.2.1,()),a.2.1,())))
def pX(x:cV×Sb×al):Option ((List acr)×Int×al) :=
 ae (Loop (NK x) (([],0,(),x.2.1,()),[],())) (λa=>ao (cF a.1 0)
 (ao (nt<|aR a.2.1.2.1 0)
 (aa ([],a.2.1.2.1,())) (ae (Loop (NL a) ((0,cR i64 (len a.2.1.1) 1,()),())) λd=>ae (Loop (NM x a) (((),0,()),[],())) λc=>ae (qD (c.2.1,())) λb=>aa (b.1,b.2.1,())))
 (ae (Loop (fP) ((0,cR i64 (len a.2.2.1) 1,(),()),a.2.2.1,())) λd=>ae (Loop (rC x d) (((),0,()),[],())) λc=>ae (qD (c.2.1,())) λb=>aa (b.1,b.2.1,())))
def ja(x:cV×Sb×al):Option ((List acr)×Int×al) :=ao (bA x.2.1 []) (aa ([],0,())) (ae (pX (x.1,x.2.1,())) λa=>aa (a.1,a.2.1,()))
def eg(x:Int×al):Option (Cv×al) :=aa ((x.1,[],0,[],()),())
def kW(x:(List Sb)×Int×Sb×al):Option ((List Sb)×al) :=ao (fits<|len x.1) (ae (eH x.1 (x.2.1,[x.2.2.1],())) λa=>aa (a,())) af
def rW(x:(List cC)×al):Option ((List cC)×al) :=bif fits (len x.1) then aa (x.1,()) else af
def iu(x:(List cC)×Int×cC×al):Option ((List cC)×al) :=ao (fits<|len x.1) (ae (dw x.1 (x.2.1,([x.2.2.1]:List cC),())) λa=>aa (a,())) af
def rD(x:cV×cC×Sb×al)(a:ir×cC×al):Option ((ir×cC×al)⊕(Nat×ir×cC×al)) :=
 ao (ba a.1.2.1<|len x.1.2.2.1) (ae (idx x.1.2.2.1 a.1.2.1) λb=>ao (nt<|dK b.1 a.2.1.1)
 (aa<|aH (1,(a.1.2.1,a.1.2.1,()),a.2.1,())) (aa<|aG ((a.1.1,aC i64 a.1.2.1 1,()),a.2.1,())))
 (aa<|aH (0,(a.1.1,a.1.2.1,()),a.2.1,()))
def tI(x:cV×cC×Sb×al):Option (cV×al) :=
 ae (ae (Loop (rD x) ((0,0,()),x.2.1,())) λa=>ao (cF a.1 0)
 (aa (((-1),()),a.2.2.1,())) (aa ((a.2.1.1,()),a.2.2.1,()))) (λa=>ae (np (x.1,())) λb=>ae (kW (b.1,((ao (ba a.1.1 0)
 ((len x.1.2.2.1,()),()) ((a.1.1,()),())).1).1,x.2.2.1,())) λc=>ae (iu (x.1.2.2.1,((ao (ba a.1.1 0) ((len x.1.2.2.1,()),()) ((a.1.1,()),())).1).1,a.2.1,())) λd=>aa ((x.1.1,x.1.2.1,d.1,c.1,x.1.2.2.2.2),()))
def jI(x:cV×Sb×(List Sb)×Sb×Int×al):Option (cV×Cv×al) :=
 ae (ae (gp (x.2.2.1,())) λc=>ao (nt<|aR c.1 0)
 (aa ((c.1,()),((),(),(),(),(),(),(),()),x.2.2.1,x.2.2.2.1,x.2.1,x.1,[],x.2.2.2.2.1,[],[],())) (ae (ao (bA x.2.2.2.1 [])
 (aa ((0,()),x.2.2.2.1,())) (ae (gX (x.2.2.2.1,())) λa=>aa ((a.1,()),x.2.2.2.1,()))) λa=>ao (nt<|aR a.1.1 0)
 (aa ((a.1.1,()),((),(),(),(),(),(),(),()),x.2.2.1,a.2.1,x.2.1,x.1,[],x.2.2.2.2.1,[],[],())) (ae (ao (nt<|bA x.2.1 [])
 (ae (eN (x.1,x.2.1,())) λd=>aa ((d.2.1,()),d.1,())) (aa ((0,()),[],()))) λd=>ao (nt<|aR d.1.1 0)
 (aa ((d.1.1,()),((),(),(),(),(),(),(),()),x.2.2.1,a.2.1,x.2.1,x.1,d.2.1,x.2.2.2.2.1,[],[],())) (ae (lG (x.1,())) λh=>ae (ig (h.1,[],x.2.2.1,())) λi=>ao (nt<|aR i.1 0)
 (aa ((i.1,()),((),(),(),(),(),(),(),()),x.2.2.1,a.2.1,x.2.1,x.1,d.2.1,x.2.2.2.2.1,[],[],())) (ae (lG (x.1,())) λj=>ae (iV (j.1,x.2.2.2.2.1,())) λg=>ao (nt<|aR g.2.1 0)
 (aa ((g.2.1,()),((),(),(),(),(),(),(),()),x.2.2.1,a.2.1,x.2.1,x.1,d.2.1,x.2.2.2.2.1,g.1,[],())) (ae (ae (vD (x.1.2.2.1,d.2.1,())) λe=>ao (ao (ao (nt<|bA d.2.1 [])
 (aR e.2.1 0) false)
 (cm 16<|len e.1) false)
 (aa ((5,()),d.2.1,x.1,())) (aa ((0,()),d.2.1,x.1,()))) λe=>ao (nt<|aR e.1.1 0)
 (aa ((e.1.1,()),((),(),(),(),(),(),(),()),x.2.2.1,a.2.1,x.2.1,e.2.2.1,e.2.1,x.2.2.2.2.1,g.1,[],())) (ae (ao (bA a.2.1 [])
 (aa ((0,()),[],e.2.1,e.2.2.1,a.2.1,())) (ae (ja (e.2.2.1,e.2.1,())) λb=>ae (ao (aR b.2.1 0)
 (ae (jF (b.1,a.2.1,())) λf=>aa ((f.2.1,()),())) (aa ((b.2.1,()),()))) λf=>aa ((f.1.1,()),b.1,e.2.1,e.2.2.1,a.2.1,()))) λb=>ao (nt<|aR b.1.1 0)
 (aa ((b.1.1,()),((),(),(),(),(),(),(),()),x.2.2.1,b.2.2.2.2.1,x.2.1,b.2.2.2.1,b.2.2.1,x.2.2.2.2.1,g.1,b.2.1,())) (aa ((0,()),((),(),(),(),(),(),(),()),x.2.2.1,b.2.2.2.2.1,x.2.1,b.2.2.2.1,b.2.2.1,x.2.2.2.2.1,g.1,b.2.1,()))))))))) (λc=>ao (nt<|aR c.1.1 0)
 (ae (eg (c.1.1,())) λa=>aa (c.2.2.2.2.2.1,a.1,())) (ae (ao (bA c.2.2.2.1 [])
 (ae (AE ()) λa=>aa ((),a.1,())) (aa ((),c.2.2.2.1,()))) λa=>ao (fits<|plus (len ([]:List Sb))<|len c.2.2.1)
 (ae (oI (a.2.1,())) λd=>ae (tI (c.2.2.2.2.2.1,(c.2.2.2.2.2.2.2.2.1,c.2.2.2.2.2.2.1,app [] c.2.2.1,d.1,len a.2.1,0,true,()),a.2.1,())) λh=>aa (h.1,(0,c.2.2.2.2.2.2.2.2.1,0,[],()),())) af))
def rE(x:cV×Sb×al)(a:ir×Sb×al):Option (Ez⊕Ey) :=
 ao (ba a.1.2.1<|len x.1.2.2.1) (ae (idx x.1.2.2.1 a.1.2.1) λb=>ao (bA b.2.1 a.2.1)
 (aa<|aH (1,(a.1.2.1,a.1.2.1,()),a.2.1,())) (aa<|aG ((a.1.1,aC i64 a.1.2.1 1,()),a.2.1,())))
 (aa<|aH (0,(a.1.1,a.1.2.1,()),a.2.1,()))
def wM(x:cV×Sb×al)(a:ir×Sb×al):Option (Ez⊕Ey) :=
 ao (ba a.1.2.1<|len x.1.2.1) (ae (idx x.1.2.1 a.1.2.1) λb=>ao (bA b.2.2.1 a.2.1)
 (aa<|aH (1,(a.1.2.1,a.1.2.1,()),a.2.1,())) (aa<|aG ((a.1.1,aC i64 a.1.2.1 1,()),a.2.1,())))
 (aa<|aH (0,(a.1.1,a.1.2.1,()),a.2.1,()))
def NN(x:cV×Sb×al)(a:ir×Sb×al):Option (Ez⊕Ey) :=
 ao (ba a.1.2.1<|len x.1.1) (ae (idx x.1.1 a.1.2.1) λb=>ao (bA b.2.2.2.1 a.2.1)
 (aa<|aH (1,(a.1.2.1,a.1.2.1,()),a.2.1,())) (aa<|aG ((a.1.1,aC i64 a.1.2.1 1,()),a.2.1,())))
 (aa<|aH (0,(a.1.1,a.1.2.1,()),a.2.1,()))
def NO(x:cV×Sb×al)(a:ir×Sb×al):Option (Ez⊕Ey) :=
 ao (ba a.1.2.1<|len x.1.1) (ae (idx x.1.1 a.1.2.1) λb=>ao (bA b.2.2.2.1 a.2.1)
 (aa<|aH (1,(a.1.2.1,a.1.2.1,()),a.2.1,())) (aa<|aG ((a.1.1,aC i64 a.1.2.1 1,()),a.2.1,())))
 (aa<|aH (0,(a.1.1,a.1.2.1,()),a.2.1,()))
def pY(x:cV×Sb×al):Option (Bool×al) :=
 ae (ae (Loop (rE x) ((0,0,()),x.2.1,())) λa=>ao (cF a.1 0)
 (aa (((-1),()),a.2.2.1,())) (aa ((a.2.1.1,()),a.2.2.1,()))) (λa=>ae (Loop (wM x) ((0,0,()),a.2.1,())) λc=>ao (cF c.1 0) (ao (nt<|ao (nt<|cm 0 a.1.1)
 false true)
 (ae (Loop (NN x) ((0,0,()),c.2.2.1,())) λb=>ao (cF b.1 0)
 (aa (false,())) (aa (cm 0 b.2.1.1,())))
 (aa (true,())))
 (ao (nt<|ao (nt<|cm 0 a.1.1)
 (cm 0 c.2.1.1) true)
 (ae (Loop (NO x) ((0,0,()),c.2.2.1,())) λb=>ao (cF b.1 0)
 (aa (false,())) (aa (cm 0 b.2.1.1,())))
 (aa (true,()))))
def wN(x:rV×al):Option (Sb×al) :=aa (x.1.1,())
def n8(x:cV×Sb×al)(a:ir×al×Sb×al):Option (WN⊕WM) :=
 ao (ba a.1.2.1<|len x.1.2.2.2.2.1) (ae (idx x.1.2.2.2.2.1 a.1.2.1) λb=>ae (wN (b,())) λc=>ao (bA c.1 a.2.2.1)
 (aa<|aH (1,(a.1.2.1,a.1.2.1,()),(),a.2.2.1,())) (aa<|aG ((a.1.1,aC i64 a.1.2.1 1,()),(),a.2.2.1,())))
 (aa<|aH (0,(a.1.1,a.1.2.1,()),(),a.2.2.1,()))
def eP(x:cV×Sb×al):Option (Int×al) :=
 ae (Loop (n8 x) ((0,0,()),(),x.2.1,())) (λa=>ao (cF a.1 0)
 (aa (0,())) (ao (ba a.2.1.1 0)
 (aa (0,())) (ae (idx x.1.2.2.2.2.1 a.2.1.1) λb=>aa (b.2.1,()))))
def iv(x:(List Sb)×Int×al):Option ((List Sb)×al) :=
 ao (ba x.2.1 0) (aa (x.1,())) (ao (fits<|len x.1)
 (ae (eI x.1 (x.2.1,aC i64 x.2.1 1,())) λa=>aa (a,())) af)
def fT(x:(List cC)×Int×al):Option ((List cC)×al) :=
 ao (ba x.2.1 0) (aa (x.1,())) (ao (fits<|len x.1)
 (ae (dx x.1 (x.2.1,aC i64 x.2.1 1,())) λa=>aa (a,())) af)
def rX(x:(List rV)×al):Option ((List rV)×al) :=bif fits (len x.1) then aa (x.1,()) else af
def bO(x:(List rV)×Int×rV×al):Option ((List rV)×al) :=ao (fits<|len x.1) (ae (eO x.1 (x.2.1,([x.2.2.1]:List rV),())) λa=>aa (a,())) af
def pZ(x:cV×Sb×Int×al)(a:ir×Sb×al):Option (Ez⊕Ey) :=
 ao (ba a.1.2.1<|len x.1.2.2.2.2.1) (ao (within a.1.2.1<|len x.1.2.2.2.2.1)
 (ae (idx x.1.2.2.2.2.1 a.1.2.1) λb=>ao (bA b.1 a.2.1)
 (aa<|aH (1,(a.1.2.1,a.1.2.1,()),a.2.1,())) (aa<|aG ((a.1.1,aC i64 a.1.2.1 1,()),a.2.1,())))
 af)
 (aa<|aH (0,(a.1.1,a.1.2.1,()),a.2.1,()))
def Lf(x:cV×Sb×Int×al)(a:ir×Sb×al):Option (Ez⊕Ey) :=
 ao (ba a.1.2.1<|len x.1.2.2.2.2.1) (ae (idx x.1.2.2.2.2.1 a.1.2.1) λb=>ao (nt<|oor (dK b.1 a.2.1)<|bA b.1 a.2.1)
 (aa<|aH (1,(a.1.2.1,a.1.2.1,()),a.2.1,())) (aa<|aG ((a.1.1,aC i64 a.1.2.1 1,()),a.2.1,())))
 (aa<|aH (0,(a.1.1,a.1.2.1,()),a.2.1,()))
def Lg(x:cV×Sb×Int×al)(a:ir×Sb×al):Option (Ez⊕Ey) :=
 ao (ba a.1.2.1<|len x.1.2.2.2.2.1) (ae (idx x.1.2.2.2.2.1 a.1.2.1) λb=>ao (nt<|oor (dK b.1 a.2.1)<|bA b.1 a.2.1)
 (aa<|aH (1,(a.1.2.1,a.1.2.1,()),a.2.1,())) (aa<|aG ((a.1.1,aC i64 a.1.2.1 1,()),a.2.1,())))
 (aa<|aH (0,(a.1.1,a.1.2.1,()),a.2.1,()))
def p4(a:(Int×Int×al×al)×Sb×(List rV)×al):Option (aeq⊕aeq) :=
 cf (ao (ba a.1.2.1<|len a.2.2.1)
 (ao (within a.1.2.1<|len a.2.2.1)
 (ae (idx a.2.2.1 a.1.2.1) λc=>ae (ao (nt<|bA c.1 a.2.1)
 (ao (within a.1.1<|len a.2.2.1)
 (ae (idx a.2.2.1 a.1.1) λb=>ae (idx a.2.2.1 a.1.1) λd=>ae (idx a.2.2.1 a.1.1) λe=>aa ((aC i64 a.1.1 1,(),()),oo a.2.2.1 a.1.1 c,())) af)
 (aa ((a.1.1,(),()),a.2.2.1,()))) λb=>aa (aG ((b.1.1,aC i64 a.1.2.1 1,(),()),a.2.1,b.2.1,())))
 af)
 (aa<|aH (0,(a.1.1,a.1.2.1,(),()),a.2.1,a.2.2.1,())))
def Bu(b:(Int×Int×al×al)×Sb×(List rV)×al)(a:ir×Sb×al):Option (Ez⊕Ey) :=
 ao (ba a.1.2.1<|len<|sub (over b.2.2.1 b.1.1<|oq (minus (len b.2.2.1) b.1.1) ([],0,())) 0<|minus b.1.1 0) (ae (idx (sub (over b.2.2.1 b.1.1<|oq (minus (len b.2.2.1) b.1.1) ([],0,())) 0<|minus b.1.1 0) a.1.2.1) λc=>ao (nt<|oor (dK c.1 a.2.1)<|bA c.1 a.2.1)
 (aa<|aH (1,(a.1.2.1,a.1.2.1,()),a.2.1,())) (aa<|aG ((a.1.1,aC i64 a.1.2.1 1,()),a.2.1,())))
 (aa<|aH (0,(a.1.1,a.1.2.1,()),a.2.1,()))
def qH(x:cV×Sb×Int×al):Option (cV×al) :=
 ao (fits<|len x.1.2.2.2.2.1) (ae (Loop (pZ x) ((0,0,()),x.2.1,())) λc=>ao (cF c.1 0)
 (ae (ao (ba 0 x.2.2.1)
 (ae (Loop (Lf x) ((0,0,()),c.2.2.1,())) λa=>ao (cF a.1 0)
 (ae (bO (x.1.2.2.2.2.1,(((len x.1.2.2.2.2.1,()),()).1).1,(a.2.2.1,x.2.2.1,()),())) λb=>aa ((b.1,()),a.2.2.1,())) (ae (bO (x.1.2.2.2.2.1,((ao (ba a.2.1.1 0)
 ((len x.1.2.2.2.2.1,()),()) ((a.2.1.1,()),())).1).1,(a.2.2.1,x.2.2.1,()),())) λb=>aa ((b.1,()),a.2.2.1,())))
 (aa ((x.1.2.2.2.2.1,()),c.2.2.1,()))) λa=>aa ((x.1.1,x.1.2.1,x.1.2.2.1,x.1.2.2.2.1,a.1.1,x.1.2.2.2.2.2),()))
 (ao (aR c.2.1.1<|-1)
 (ae (ao (ba 0 x.2.2.1)
 (ae (Loop (Lg x) ((0,0,()),c.2.2.1,())) λa=>ao (cF a.1 0)
 (ae (bO (x.1.2.2.2.2.1,(((len x.1.2.2.2.2.1,()),()).1).1,(a.2.2.1,x.2.2.1,()),())) λb=>aa ((b.1,()),a.2.2.1,())) (ae (bO (x.1.2.2.2.2.1,((ao (ba a.2.1.1 0)
 ((len x.1.2.2.2.2.1,()),()) ((a.2.1.1,()),())).1).1,(a.2.2.1,x.2.2.1,()),())) λb=>aa ((b.1,()),a.2.2.1,())))
 (aa ((x.1.2.2.2.2.1,()),c.2.2.1,()))) λa=>aa ((x.1.1,x.1.2.1,x.1.2.2.1,x.1.2.2.2.1,a.1.1,x.1.2.2.2.2.2),()))
 (ae (Loop (p4) ((c.2.1.1,aC i64 c.2.1.1 1,(),()),c.2.2.1,x.1.2.2.2.2.1,())) λa=>ao (inside a.1.1 (len a.2.2.1)<|len a.2.2.1)
 (ao (inside 0 a.1.1<|len<|over a.2.2.1 a.1.1<|oq (minus (len a.2.2.1) a.1.1) ([],0,()))
 (ae (ao (ba 0 x.2.2.1)
 (ae (Loop (Bu a) ((0,0,()),a.2.1,())) λb=>ao (cF b.1 0)
 (ae (bO (sub (over a.2.2.1 a.1.1<|oq (minus (len a.2.2.1) a.1.1) ([],0,())) 0<|minus a.1.1 0,(((len<|sub (over a.2.2.1 a.1.1<|oq (minus (len a.2.2.1) a.1.1) ([],0,())) 0<|minus a.1.1 0,()),()).1).1,(b.2.2.1,x.2.2.1,()),())) λd=>aa ((d.1,()),b.2.2.1,())) (ae (bO (sub (over a.2.2.1 a.1.1<|oq (minus (len a.2.2.1) a.1.1) ([],0,())) 0<|minus a.1.1 0,((ao (ba b.2.1.1 0)
 ((len<|sub (over a.2.2.1 a.1.1<|oq (minus (len a.2.2.1) a.1.1) ([],0,())) 0<|minus a.1.1 0,()),()) ((b.2.1.1,()),())).1).1,(b.2.2.1,x.2.2.1,()),())) λd=>aa ((d.1,()),b.2.2.1,())))
 (aa ((sub (over a.2.2.1 a.1.1<|oq (minus (len a.2.2.1) a.1.1) ([],0,())) 0<|minus a.1.1 0,()),a.2.1,()))) λb=>aa ((x.1.1,x.1.2.1,x.1.2.2.1,x.1.2.2.2.1,b.1.1,x.1.2.2.2.2.2),()))
 af)
 af)))
 af
def HS(x:cV×Sb×al)(a:ir×al×Sb×al):Option (WN⊕WM) :=
 ao (ba a.1.2.1<|len x.1.2.2.1) (ae (idx x.1.2.2.1 a.1.2.1) λb=>ae (wL (b,())) λc=>ao (bA c.1 a.2.2.1)
 (aa<|aH (1,(a.1.2.1,a.1.2.1,()),(),a.2.2.1,())) (aa<|aG ((a.1.1,aC i64 a.1.2.1 1,()),(),a.2.2.1,())))
 (aa<|aH (0,(a.1.1,a.1.2.1,()),(),a.2.2.1,()))
def jJ(x:cV×Sb×al):Option (cV×al) :=
 ae (ae (Loop (HS x) ((0,0,()),(),x.2.1,())) λa=>ao (cF a.1 0)
 (aa (((-1),()),(),a.2.2.2.1,())) (aa ((a.2.1.1,()),(),a.2.2.2.1,()))) (λa=>ae (np (x.1,())) λb=>ae (iv (b.1,a.1.1,())) λc=>ae (fT (x.1.2.2.1,a.1.1,())) λd=>ae (qH ((x.1.1,x.1.2.1,d.1,c.1,x.1.2.2.2.2),x.2.1,0,())) λe=>aa (e.1,()))
def wO(x:cV×Sb×al):Option (cV×Cv×al) :=
 ae (eN (x.1,x.2.1,())) (λa=>ao (nt<|aR a.2.1 0)
 (ae (eg (a.2.1,())) λb=>aa (x.1,b.1,())) (ae (pY (x.1,a.1,())) λb=>ae (ao (nt b.1)
 (ae (eP (x.1,a.1,())) λc=>aa (ba 0 c.1)) (aa true)) λc=>ao c
 (ae (eg (7,())) λd=>aa (x.1,d.1,())) (ae (jJ (x.1,a.1,())) λd=>aa (d.1,(0,a.1,0,[],()),()))))
def p5(x:cV×Sb×Int×al):Option (cV×Cv×al) :=
 ae (eN (x.1,x.2.1,())) (λb=>ao (nt<|aR b.2.1 0)
 (ae (eg (b.2.1,())) λa=>aa (x.1,a.1,())) (ae (eP (x.1,b.1,())) λa=>ao (ao (ba 0 x.2.2.1)
 (cm 1000 a.1) false)
 (ae (eg (5,())) λc=>aa (x.1,c.1,())) (ao (ao (ba x.2.2.1 0)
 (ba a.1 1) false)
 (ae (eg (11,())) λc=>aa (x.1,c.1,())) (ae (qH (x.1,b.1,aC i64 a.1 x.2.2.1,())) λc=>aa (c.1,(0,b.1,aC i64 a.1 x.2.2.1,[],()),())))))
def EA(x:cV×Sb×al):Option (cV×Cv×al) :=ae (p5 (x.1,x.2.1,1,())) (λa=>aa (a.1,a.2.1,()))
def Bw(x:cV×Sb×al):Option (cV×Cv×al) :=ae (p5 (x.1,x.2.1,(-1),())) (λa=>aa (a.1,a.2.1,()))
def AF(x:cV×Sb×al):Option (Cv×al) :=
 ae (eN (x.1,x.2.1,())) (λa=>ao (nt<|aR a.2.1 0)
 (ae (eg (a.2.1,())) λb=>aa (b.1,())) (ae (kv (x.1,a.1,())) λb=>aa ((0,a.1,0,b.2.1,()),())))
def xN(x:al):Option (Sb×al) :=
 ao (inside 0 1024 1024) (ao (fits 1024)
 (aa (br<|oq 1024 0,())) af)
 af
def bV(x:Int×al):Option (Cv×al) :=aa ((x.1,[],0,[],()),())
def kx(x:cV×al):Option ((List Cw)×al) :=ae (rS (3,(0,x.1.2.2.1,([]:List WL),([]:List acs),()),())) (λa=>aa (a.1,()))
def yG(x:Sb×Sb×al):Option (Bool×al) :=
 ae (ao (cm (len x.2.1)<|len x.1)
 (ao (inside 0 (len x.2.1)<|len x.1)
 (aa<|bA (sub x.1 0<|minus (len x.2.1) 0) x.2.1) af)
 (aa false)) (λa=>aa (a,()))
def rF(x:(List Cw)×Sb×al)(a:AD×al):Option ((AD×al)⊕OI) :=
 ao (ba a.1.2.2.1<|len x.1) (ae (idx x.1 a.1.2.2.1) λb=>ao (bA b.1 x.2.1)
 (aa<|aH (1,(x.2.1,0,a.1.2.2.1,()),())) (aa<|aG ((a.1.1,a.1.2.1,aC i64 a.1.2.2.1 1,()),())))
 (aa<|aH (0,(a.1.1,a.1.2.1,a.1.2.2.1,()),()))
def jK(x:(List Cw)×Sb×al)(b:AD×al)(a:AD×al):Option ((AD×al)⊕OI) :=
 ae (idx x.1 b.1.2.2.1) (λc=>ao (ba a.1.2.2.1<|len c.2.1)
 (ae (idx x.1 b.1.2.2.1) λd=>ae (idx d.2.1 a.1.2.2.1) λe=>ao (bA e x.2.1)
 (ae (idx x.1 b.1.2.2.1) λf=>aa (aH (1,(f.1,0,a.1.2.2.1,()),()))) (aa<|aG ((a.1.1,a.1.2.1,aC i64 a.1.2.2.1 1,()),())))
 (aa<|aH (0,(a.1.1,a.1.2.1,a.1.2.2.1,()),())))
def rG(x:(List Cw)×Sb×al)(a:AD×al):Option ((AD×al)⊕OI) :=
 ao (ba a.1.2.2.1<|len x.1) (ae (Loop (jK x a) ((a.1.1,a.1.2.1,0,()),())) λb=>ao (cF b.1 0)
 (aa<|aG ((b.2.1.1,b.2.1.2.1,aC i64 a.1.2.2.1 1,()),())) (aa<|aH (1,(b.2.1.1,b.2.1.2.1,a.1.2.2.1,()),())))
 (aa<|aH (0,(a.1.1,a.1.2.1,a.1.2.2.1,()),()))
def gZ(x:(List Cw)×Sb×al)(a:FW×al):Option ((FW×al)⊕(FW×al)) :=
 cf (ao (ao (ao (ba a.1.2.2.1<|len x.1)
 (cm 1<|len x.2.1) false)
 (cm (len x.2.1) 5) false)
 (ae (idx x.1 a.1.2.2.1) λc=>ae (yG (c.1,x.2.1,())) λd=>ae (ao d.1
 (ae (idx x.1 a.1.2.2.1) λb=>aa ((aC i64 a.1.1 1,b.1,()),())) (aa ((a.1.1,a.1.2.1,()),()))) λb=>aa (aG ((b.1.1,b.1.2.1,aC i64 a.1.2.2.1 1,()),())))
 (aa<|aH (0,(a.1.1,a.1.2.1,a.1.2.2.1,()),())))
def j0(x:(List Cw)×Sb×al):Option rV :=
 ae (Loop (rF x) (([],0,0,()),())) (λa=>ao (cF a.1 0)
 (ae (Loop (rG x) ((a.2.1.1,a.2.1.2.1,0,()),())) λb=>ao (cF b.1 0)
 (ae (Loop (gZ x) ((0,[],0,()),())) λc=>ao (ba 1 c.1.1)
 (aa ([],9,())) (ao (aR c.1.1 0)
 (aa ([],3,())) (aa (c.1.2.1,0,()))))
 (aa (b.2.1.1,b.2.1.2.1,())))
 (aa (a.2.1.1,a.2.1.2.1,())))
def eW(x:cV×Sb×al):Option rV :=ae (kx (x.1,())) (λb=>ae (j0 (b.1,x.2.1,())) λa=>aa (a.1,a.2.1,()))
def vE(a:FW×al):Option ((FW×al)⊕(FW×al)) :=
 cf (ao (ba a.1.2.2.1 6)
 (ao (inside (fX a.1.1 16) (aC i64 (fX a.1.1 16) 1)<|len ([48,49,50,51,52,53,54,55,56,57,97,98,99,100,101,102]:bj))
 (ao (fits<|plus (len<|sub ([48,49,50,51,52,53,54,55,56,57,97,98,99,100,101,102]:bj) (fX a.1.1 16)<|minus (aC i64 (fX a.1.1 16) 1)<|fX a.1.1 16)<|len a.1.2.1)
 (aa<|aG ((KB i64 a.1.1 16,app (sub [48,49,50,51,52,53,54,55,56,57,97,98,99,100,101,102] (fX a.1.1 16)<|minus (aC i64 (fX a.1.1 16) 1)<|fX a.1.1 16) a.1.2.1,aC i64 a.1.2.2.1 1,()),())) af)
 af)
 (aa<|aH (0,(a.1.1,a.1.2.1,a.1.2.2.1,()),())))
def Cx(x:Int×al):Option (Sb×al) :=ae (Loop (vE) ((x.1,[],0,()),())) (λa=>aa (a.1.2.1,()))
def lJ(x:(List Cw)×Int×al)(c:Sb×al)(a:(Bool×Int×al)×al):Option (((Bool×Int×al)×al)⊕((Bool×Int×al)×al)) :=
 cf (ao (ba a.1.2.1<|len x.1)
 (ae (ao (nt a.1.1)
 (ae (idx x.1 a.1.2.1) λb=>aa (bA b.1 c.1)) (aa true)) λb=>aa (aG ((b,aC i64 a.1.2.1 1,()),())))
 (aa<|aH (0,(a.1.1,a.1.2.1,()),())))
def p6(x:(List Cw)×Int×al)(a:AD×al):Option ((AD×al)⊕OI) :=
 ao (cm a.1.2.2.1 32) (ae (Cx (fX (aC i64 (gT i64 x.2.1 16777215) a.1.2.2.1) 16777216,())) λb=>ae (Loop (lJ x b) ((false,0,()),())) λc=>ao (nt c.1.1)
 (aa<|aH (1,(b.1,0,a.1.2.2.1,()),())) (aa<|aG ((a.1.1,a.1.2.1,aC i64 a.1.2.2.1 1,()),())))
 (aa<|aH (0,(a.1.1,a.1.2.1,a.1.2.2.1,()),()))
def nq(x:(List Cw)×Int×al):Option rV :=
 ao (cm 32<|len x.1) (aa ([],5,())) (ae (Loop (p6 x) (([],0,0,()),())) λa=>ao (cF a.1 0)
 (aa ([],5,())) (aa (a.2.1.1,a.2.1.2.1,())))
def rH(x:cV×cC×Sb×al)(a:(al×al×Bool×Int×al)×(List Sb)×(List cC)×al):Option (aep⊕aep) :=
 cf (ao (ba a.1.2.2.2.1<|len x.1.2.2.1)
 (ao (nt a.1.2.2.1)
 (ae (idx x.1.2.2.1 a.1.2.2.2.1) λc=>ae (ao (nt<|dK c.1 x.2.1.1)
 (ao (fits<|plus (len a.2.2.1)<|len [x.2.1])
 (ao (fits<|plus (len a.2.1)<|len [x.2.2.1])
 (aa (((),(),true,()),app a.2.1 [x.2.2.1],app a.2.2.1 [x.2.1],())) af)
 af)
 (aa (((),(),a.1.2.2.1,()),a.2.1,a.2.2.1,()))) λb=>ae (idx x.1.2.2.1 a.1.2.2.2.1) λd=>ao (fits<|plus (len b.2.2.1)<|len ([d]:List cC))
 (ae (jY (x.1,a.1.2.2.2.1,())) λe=>ao (fits<|plus (len b.2.1)<|len [e.1])
 (aa<|aG (((),(),b.1.2.2.1,aC i64 a.1.2.2.2.1 1,()),app b.2.1 [e.1],app b.2.2.1 [d],())) af)
 af)
 (ae (idx x.1.2.2.1 a.1.2.2.2.1) λc=>ao (fits<|plus (len a.2.2.1)<|len ([c]:List cC))
 (ae (jY (x.1,a.1.2.2.2.1,())) λb=>ao (fits<|plus (len a.2.1)<|len [b.1])
 (aa<|aG (((),(),a.1.2.2.1,aC i64 a.1.2.2.2.1 1,()),app a.2.1 [b.1],app a.2.2.1 [c],())) af)
 af))
 (aa<|aH (0,((),(),a.1.2.2.1,a.1.2.2.2.1,()),a.2.1,a.2.2.1,())))
def tJ(x:cV×cC×Sb×al):Option (cV×al) :=
 ae (Loop (rH x) (((),(),false,0,()),[],[],())) (λa=>ae (ao (nt a.1.2.2.1)
 (ao (fits<|plus (len a.2.2.1)<|len [x.2.1])
 (ao (fits<|plus (len a.2.1)<|len [x.2.2.1])
 (aa (((),(),()),app a.2.1 [x.2.2.1],app a.2.2.1 [x.2.1],())) af)
 af)
 (aa (((),(),()),a.2.1,a.2.2.1,()))) λb=>aa ((x.1.1,x.1.2.1,b.2.2.1,b.2.1,x.1.2.2.2.2),()))
def oV(x:cV×Sb×(List Sb)×Sb×Int×al):Option (cV×Cv×al) :=
 ae (gq (x.2.2.1,())) (λj=>ao (nt<|aR j.1 0)
 (ae (bV (j.1,())) λe=>aa (x.1,e.1,())) (ae (ao (nt<|bA x.2.2.2.1 [])
 (ae (ks (x.2.2.2.1,())) λe=>aa (nt<|aR e.1 0)) (aa false)) λe=>ao e
 (ae (bV (10,())) λb=>aa (x.1,b.1,())) (ae (ao (nt<|bA x.2.1 [])
 (ae (eW (x.1,x.2.1,())) λb=>ao (nt<|aR b.2.1 0)
 (ae (bV (b.2.1,())) λg=>aa (1,([],()),g.1,x.1,())) (aa (0,(b.1,()),(0,[],0,[],()),(([]:List acs),([]:List WL),([]:List cC),[],([]:List rV),()),())))
 (aa (0,([],()),(0,[],0,[],()),(([]:List acs),([]:List WL),([]:List cC),[],([]:List rV),()),()))) λb=>ao (cF b.1 0)
 (ae (kx (x.1,())) λg=>ae (mi (g.1,[],x.2.2.1,())) λk=>ao (nt<|aR k.1 0)
 (ae (bV (k.1,())) λh=>aa (x.1,h.1,())) (ae (kx (x.1,())) λh=>ae (nq (h.1,x.2.2.2.2.1,())) λf=>ao (nt<|aR f.2.1 0)
 (ae (bV (f.2.1,())) λc=>aa (x.1,c.1,())) (ae (ao (nt<|bA b.2.1.1 [])
 (ae (ku (x.1.2.2.1,b.2.1.1,())) λc=>ao (ao (aR c.2.1 0)
 (cm 16<|len c.1) false)
 (ae (bV (5,())) λa=>aa (1,([],()),a.1,x.1,())) (ae (ao (nt<|bA x.2.2.2.1 [])
 (ae (jZ (x.1,b.2.1.1,())) λa=>ao (nt<|aR a.2.1 0)
 (ae (bV (a.2.1,())) λd=>aa (1,(([]:List acr),()),d.1,x.1,())) (aa (0,(a.1,()),b.2.2.1,b.2.2.2.1,())))
 (aa (0,([],()),b.2.2.1,b.2.2.2.1,()))) λa=>ao (cF a.1 0)
 (aa (0,(a.2.1.1,()),a.2.2.1,a.2.2.2.1,())) (aa (1,(a.2.1.1,()),a.2.2.1,a.2.2.2.1,()))))
 (aa (0,([],()),b.2.2.1,b.2.2.2.1,()))) λc=>ao (cF c.1 0)
 (ae (ao (bA x.2.2.2.1 [])
 (ae (xN ()) λa=>aa (0,(a.1,()),c.2.2.1,c.2.2.2.1,())) (ae (qC (c.2.1.1,x.2.2.2.1,())) λa=>ao (nt<|aR a.2.1 0)
 (ae (bV (a.2.1,())) λd=>aa (1,(x.2.2.2.1,()),d.1,x.1,())) (aa (0,(x.2.2.2.1,()),c.2.2.1,c.2.2.2.1,())))) λa=>ao (cF a.1 0)
 (ae (oK (a.2.1.1,())) λd=>ae (tJ (x.1,(f.1,b.2.1.1,x.2.2.1,d.1,len a.2.1.1,0,true,()),a.2.1.1,())) λi=>aa (i.1,(0,f.1,0,[],()),())) (aa (a.2.2.2.1,a.2.2.1,())))
 (aa (c.2.2.2.1,c.2.2.1,())))))
 (aa (b.2.2.2.1,b.2.2.1,())))))
def qI(x:cV×Sb×al):Option (cC×Sb×Bool×al) :=
 ae (iq (x.1,x.2.1,())) (λa=>ao (ba a.1 0)
 (aa (([],[],[],[],0,0,false,()),[],false,())) (ae (idx x.1.2.2.1 a.1) λb=>ae (jY (x.1,a.1,())) λc=>aa (b,c.1,true,())))
end Go.Ge
namespace Go.Ge
variable [Lp]
set_option maxRecDepth 100000
abbrev fC:=((List<|Sb×(List Sb)×Sb×Sb×Sb×(List<|Sb×Sb×Sb×al)×al)×(List<|Sb×(List Sb)×Sb×Sb×(List<|Sb×Sb×Sb×al)×al)×(List<|Sb×Sb×(List Sb)×Sb×Int×Int×Bool×al)×(List Sb)×(List<|Sb×Int×al)×al)
abbrev ai4:=((List<|Sb×(List Sb)×Sb×Sb×Sb×(List<|Sb×Sb×Sb×al)×al)×(List<|Sb×(List Sb)×Sb×Sb×(List<|Sb×Sb×Sb×al)×al)×(List<|Sb×Sb×(List Sb)×Sb×Int×Int×Bool×al)×al×(List<|Sb×Int×al)×al)
abbrev nN:=(Sb×(List Sb)×Sb×Sb×Sb×(List<|Sb×Sb×Sb×al)×al)
abbrev ai5:=(Sb×Sb×(List Sb)×Sb×Int×Int×Bool×al)
abbrev rY:=(Int×Sb×Int×Sb×al)
abbrev EB:=(Int×Int×Sb×Sb×(List Sb)×Sb×Sb×Int×al)
abbrev ai6:=(Sb×(List Sb)×Sb×Sb×(List<|Sb×Sb×Sb×al)×al)
abbrev aro:=((Int×al)×ai4×(List Sb)×al)
abbrev WO:=(Sb×Sb×Sb×al)
abbrev rZ:=(Int×Int×al)
abbrev Jw:=(bj×((List bj)×(bj×(bj×(bj×((List<|bj×(bj×(bj×al)))×al))))))
abbrev OJ:=(Sb×(List Sb)×al)
abbrev OK:=(Nat×rZ×Sb×al)
abbrev Jx:=(Bool×Int×al)
abbrev aqh:=((al×Int×al)×(List Sb)×al)
abbrev aqi:=((Nat×(Int×al)×ai4×(List Sb)×al))
abbrev OL:=(rZ×Sb×al)
abbrev aer:=(Nat×Jx×al)
abbrev aes:=((Int×al)×(al×al×al)×(List<|Int)×al)
abbrev aet:=((al×Int×al)×(List rY)×fC×al)
def bY(l:List Jw)(x:(Int×((List Jw)×al))):Option (List Jw):=vX l x.1 x.2.1
def cE(l:List Jw)(x:(Int×(Int×al))):Option (List Jw):=K0 l x.1 x.2.1
def uP(x:fC×Sb×al):Option (rY×al) :=
 ae (eN (x.1,x.2.1,())) (λa=>ao (nt<|aR a.2.1 0)
 (ae (eg (a.2.1,())) λc=>aa (c.1,())) (ae (kv (x.1,a.1,())) λc=>ae (pX (x.1,a.1,())) λd=>ao (nt<|aR d.2.1 0)
 (ae (eg (d.2.1,())) λb=>aa (b.1,())) (ae (ja (x.1,c.1.2.1,())) λb=>ao (nt<|aR b.2.1 0)
 (ae (eg (b.2.1,())) λe=>aa (e.1,())) (ae (ri (b.1,d.1,())) λe=>ae (xF (e.1,())) λf=>aa ((0,a.1,0,f.1,()),())))))
def ky(x:Int×al):Option (rY×al) :=aa ((x.1,[],0,[],()),())
def nr(x:fC×al):Option ((List OJ)×al) :=ae (rR (1,(0,([]:List ai5),([]:List ai6),x.1.1,()),())) (λa=>aa (a.1,()))
def uQ(x:(List nN)×al):Option ((List nN)×al) :=bif fits (len x.1) then aa (x.1,()) else af
def jb(x:fC×nN×al)(a:rZ×Sb×al):Option (OL⊕OK) :=
 ao (ba a.1.2.1<|len x.1.1) (ao (within a.1.2.1<|len x.1.1)
 (ae (idx x.1.1 a.1.2.1) λb=>ao (bA b.1 a.2.1)
 (aa<|aH (1,(a.1.2.1,a.1.2.1,()),a.2.1,())) (aa<|aG ((a.1.1,aC i64 a.1.2.1 1,()),a.2.1,())))
 af)
 (aa<|aH (0,(a.1.1,a.1.2.1,()),a.2.1,()))
def tK(x:fC×nN×al)(a:rZ×nN×al):Option ((rZ×nN×al)⊕(Nat×rZ×nN×al)) :=
 ao (ba a.1.2.1<|len x.1.1) (ao (within a.1.2.1<|len x.1.1)
 (ae (idx x.1.1 a.1.2.1) λb=>ao (nt<|dK b.1 a.2.1.1)
 (aa<|aH (1,(a.1.2.1,a.1.2.1,()),a.2.1,())) (aa<|aG ((a.1.1,aC i64 a.1.2.1 1,()),a.2.1,())))
 af)
 (aa<|aH (0,(a.1.1,a.1.2.1,()),a.2.1,()))
def tL(b:(al×al)×(List nN)×al)(a:rZ×nN×al):Option ((rZ×nN×al)⊕(Nat×rZ×nN×al)) :=
 ao (ba a.1.2.1<|len b.2.1) (ao (within a.1.2.1<|len b.2.1)
 (ae (idx b.2.1 a.1.2.1) λc=>ao (nt<|dK c.1 a.2.1.1)
 (aa<|aH (1,(a.1.2.1,a.1.2.1,()),a.2.1,())) (aa<|aG ((a.1.1,aC i64 a.1.2.1 1,()),a.2.1,())))
 af)
 (aa<|aH (0,(a.1.1,a.1.2.1,()),a.2.1,()))
def lW(x:fC×nN×al):Option (fC×al) :=
 ao (fits<|len x.1.1) (ae (Loop (jb x) ((0,0,()),x.2.1.1,())) λd=>ao (cF d.1 0)
 (ae (bd (x.2.1.2.1,())) λa=>ae (bQ (x.2.1.2.2.2.2.2.1,())) λe=>ae (Loop (tK x) ((0,0,()),(x.2.1.1,a.1,x.2.1.2.2.1,x.2.1.2.2.2.1,x.2.1.2.2.2.2.1,e.1,x.2.1.2.2.2.2.2.2),())) λc=>ao (cF c.1 0)
 (ae (bY x.1.1 ((((len x.1.1,()),()).1).1,([c.2.2.1]:List nN),())) λb=>aa ((b,x.1.2.1,x.1.2.2.1,x.1.2.2.2.1,x.1.2.2.2.2.1,x.1.2.2.2.2.2),())) (ae (bY x.1.1 (((ao (ba c.2.1.1 0)
 ((len x.1.1,()),()) ((c.2.1.1,()),())).1).1,([c.2.2.1]:List nN),())) λb=>aa ((b,x.1.2.1,x.1.2.2.1,x.1.2.2.2.1,x.1.2.2.2.2.1,x.1.2.2.2.2.2),())))
 (ae (ao (cm 0 d.2.1.1)
 (ae (cE x.1.1 (d.2.1.1,aC i64 d.2.1.1 1,())) λa=>aa (((),()),a,())) (aa (((),()),x.1.1,()))) λa=>ae (bd (x.2.1.2.1,())) λe=>ae (bQ (x.2.1.2.2.2.2.2.1,())) λc=>ae (Loop (tL a) ((0,0,()),(x.2.1.1,e.1,x.2.1.2.2.1,x.2.1.2.2.2.1,x.2.1.2.2.2.2.1,c.1,x.2.1.2.2.2.2.2.2),())) λb=>ao (cF b.1 0)
 (ae (bY a.2.1 ((((len a.2.1,()),()).1).1,([b.2.2.1]:List nN),())) λf=>aa ((f,x.1.2.1,x.1.2.2.1,x.1.2.2.2.1,x.1.2.2.2.2.1,x.1.2.2.2.2.2),())) (ae (bY a.2.1 (((ao (ba b.2.1.1 0)
 ((len a.2.1,()),()) ((b.2.1.1,()),())).1).1,([b.2.2.1]:List nN),())) λf=>aa ((f,x.1.2.1,x.1.2.2.1,x.1.2.2.2.1,x.1.2.2.2.2.1,x.1.2.2.2.2.2),()))))
 af
def tM(x:fC×Sb×(List Sb)×Sb×Int×al):Option (fC×rY×al) :=
 ae (gp (x.2.2.1,())) (λg=>ao (ao (nt<|nt<|aR g.1 0)
 (ba 64<|len x.2.2.2.1) true)
 (ae (ky (1,())) λb=>aa (x.1,b.1,())) (ae (ao (nt<|bA x.2.1 [])
 (ae (ni (x.1,x.2.1,())) λb=>aa ((b.2.1,()),([],x.2.2.1,b.1,[],x.2.2.2.1,[],()),())) (aa ((0,()),([],x.2.2.1,[],([]:bj),x.2.2.2.1,([]:List WO),()),()))) λb=>ae (ao (aR b.1.1 0) (ae (nr (x.1,())) λe=>ae (ig (e.1,[],x.2.2.1,())) λa=>aa ((a.1,()),())) (aa ((b.1.1,()),()))) λe=>ae (ao (aR e.1.1 0) (ae (nr (x.1,())) λa=>ae (iV (a.1,gT i64 x.2.2.2.2.1 16777215,())) λc=>aa ((c.2.1,()),(c.1,b.2.1.2),())) (aa ((e.1.1,()),b.2.1,()))) λa=>ao (nt<|aR a.1.1 0)
 (ae (ky (a.1.1,())) λc=>aa (x.1,c.1,())) (ae (pP (x.1,a.2.1.2.2.1,())) λc=>ae (jI (x.1,(((((ao (bA x.2.1 [])
 ((),([],[],[],[],([]:List WO),()),()) ((),c.1,())).2).1).2).2).1,[],[],gT i64 (jv i64 x.2.2.2.2.1 24) 16777215,())) λd=>ao (nt<|aR d.2.1.1 0)
 (ae (ky (d.2.1.1,())) λf=>aa (x.1,f.1,())) (ae (lW (d.1,(a.2.1.1,a.2.1.2.1,a.2.1.2.2.1,d.2.1.2.1,a.2.1.2.2.2.2),())) λf=>aa (f.1,(0,a.2.1.1,0,d.2.1.2.1,()),())))))
def xO(x:fC×Sb×al):Option (Sb×Int×al) :=ae (nr (x.1,())) (λb=>ae (iC (b.1,x.2.1,())) λa=>aa (a.1,a.2.1,()))
def tN(x:fC×Sb×al)(a:rZ×Sb×al):Option (OL⊕OK) :=
 ao (ba a.1.2.1<|len x.1.1) (ae (idx x.1.1 a.1.2.1) λb=>ao (bA b.1 a.2.1)
 (aa<|aH (1,(a.1.2.1,a.1.2.1,()),a.2.1,())) (aa<|aG ((a.1.1,aC i64 a.1.2.1 1,()),a.2.1,())))
 (aa<|aH (0,(a.1.1,a.1.2.1,()),a.2.1,()))
def sv(x:fC×Sb×al):Option (nN×Bool×al) :=
 ae (Loop (tN x) ((0,0,()),x.2.1,())) (λb=>ao (cF b.1 0)
 (aa (([],[],[],[],[],([]:List WO),()),false,())) (ao (ba b.2.1.1 0)
 (aa (([],[],[],[],[],([]:List WO),()),false,())) (ae (idx x.1.1 b.2.1.1) λa=>ae (bd (a.2.1,())) λc=>ae (bQ (a.2.2.2.2.2.1,())) λd=>aa ((a.1,c.1,a.2.2.1,a.2.2.2.1,a.2.2.2.2.1,d.1,a.2.2.2.2.2.2),true,()))))
def n9(x:fC×Sb×al)(a:rZ×Sb×al):Option (OL⊕OK) :=
 ao (ba a.1.2.1<|len x.1.1) (ao (within a.1.2.1<|len x.1.1)
 (ae (idx x.1.1 a.1.2.1) λb=>ao (bA b.1 a.2.1)
 (aa<|aH (1,(a.1.2.1,a.1.2.1,()),a.2.1,())) (aa<|aG ((a.1.1,aC i64 a.1.2.1 1,()),a.2.1,())))
 af)
 (aa<|aH (0,(a.1.1,a.1.2.1,()),a.2.1,()))
def tO(x:fC×Sb×al):Option (fC×rY×al) :=
 ae (xO (x.1,x.2.1,())) (λc=>ao (nt<|aR c.2.1 0)
 (ae (ky (c.2.1,())) λa=>aa (x.1,a.1,())) (ae (sv (x.1,c.1,())) λa=>ao (fits<|len x.1.1)
 (ae (Loop (n9 x) ((0,0,()),c.1,())) λf=>ao (cF f.1 0)
 (ae (eP (x.1,a.1.2.2.2.1,())) λd=>ae (ao (nt<|ba 0 d.1)
 (ae (pY ((x.1.1,x.1.2.1,x.1.2.2.1,x.1.2.2.2.1,x.1.2.2.2.2.1,x.1.2.2.2.2.2),a.1.2.2.2.1,())) λe=>aa e.1) (aa true)) λe=>ao e
 (ae (ky (7,())) λb=>aa (x.1,b.1,())) (ae (jJ ((x.1.1,x.1.2.1,x.1.2.2.1,x.1.2.2.2.1,x.1.2.2.2.2.1,x.1.2.2.2.2.2),a.1.2.2.2.1,())) λb=>aa (b.1,(0,c.1,0,[],()),())))
 (ae (ao (cm 0 f.2.1.1)
 (ae (cE x.1.1 (f.2.1.1,aC i64 f.2.1.1 1,())) λd=>aa (((),()),d,())) (aa (((),()),x.1.1,()))) λd=>ae (eP (x.1,a.1.2.2.2.1,())) λe=>ae (ao (nt<|ba 0 e.1) (ae (pY ((d.2.1,x.1.2.1,x.1.2.2.1,x.1.2.2.2.1,x.1.2.2.2.2.1,x.1.2.2.2.2.2),a.1.2.2.2.1,())) λb=>aa b.1) (aa true)) λb=>ao b
 (ae (ky (7,())) λg=>aa (x.1,g.1,())) (ae (jJ ((d.2.1,x.1.2.1,x.1.2.2.1,x.1.2.2.2.1,x.1.2.2.2.2.1,x.1.2.2.2.2.2),a.1.2.2.2.1,())) λg=>aa (g.1,(0,c.1,0,[],()),()))))
 af))
def fU(x:(List<|Int)×Int×al)(a:rZ×al):Option ((rZ×al)⊕(Nat×rZ×al)) :=
 ao (ba a.1.2.1<|len x.1) (ae (idx x.1 a.1.2.1) λb=>ao (aR x.2.1 b)
 (aa<|aH (1,(a.1.2.1,a.1.2.1,()),())) (aa<|aG ((a.1.1,aC i64 a.1.2.1 1,()),())))
 (aa<|aH (0,(a.1.1,a.1.2.1,()),()))
def iw(x:(List<|Int)×Int×al):Option (Int×al) :=
 ae (Loop (fU x) ((0,0,()),())) (λa=>ao (cF a.1 0)
 (aa ((-1),())) (aa (a.2.1.1,())))
def dB(x:(List<|Int)×Int×al):Option (Bool×al) :=ae (iw (x.1,x.2.1,())) (λa=>aa (cm 0 a.1,()))
def yH(x:EB×(List<|Int)×al):Option ((List<|Int)×al) :=
 ae (dB (x.2.1,x.1.2.1,())) (λa=>ao a.1
 (aa ([x.1.2.1],())) (aa ([],())))
def kz(x:EB×al):Option ((List<|Int)×al) :=
 ao (((ao (aR x.1.1 2)
 ((aR x.1.1 2,()),()) ((((ao (aR x.1.1 11)
 ((aR x.1.1 11,()),()) ((aR x.1.1 12,()),())).1).1,()),())).1).1)
 (aa ([(1:Int),2,3],())) (ao (aR x.1.1 7)
 (aa ([(2:Int),3],())) (ao (aR x.1.1 8)
 (aa ([(1:Int),2],())) (ao (((ao (aR x.1.1 1)
 ((aR x.1.1 1,()),()) ((((ao (aR x.1.1 3)
 ((aR x.1.1 3,()),()) ((((ao (aR x.1.1 4)
 ((aR x.1.1 4,()),()) ((((ao (aR x.1.1 5)
 ((aR x.1.1 5,()),()) ((aR x.1.1 6,()),())).1).1,()),())).1).1,()),())).1).1,()),())).1).1)
 (aa ([(3:Int)],())) (ao (((ao (aR x.1.1 9)
 ((aR x.1.1 9,()),()) ((aR x.1.1 10,()),())).1).1)
 (ae (yH (x.1,[(1:Int),2],())) λa=>aa (a.1,())) (ao (((ao (aR x.1.1 13)
 ((aR x.1.1 13,()),()) ((((ao (aR x.1.1 14)
 ((aR x.1.1 14,()),()) ((aR x.1.1 15,()),())).1).1,()),())).1).1)
 (ae (yH (x.1,[(1:Int),2,3],())) λa=>aa (a.1,())) (aa ([],())))))))
def eQ(x:Int×al):Option (rY×al) :=aa ((x.1,[],0,[],()),())
def vF(x:fC×Int×al):Option ((List OJ)×al) :=ae (rR (x.2.1,(0,x.1.2.2.1,x.1.2.1,x.1.1,()),())) (λa=>aa (a.1,()))
def Cy(x:fC×EB×al):Option (fC×rY×al) :=
 ae (kz (x.2.1,())) (λf=>ae (dB (f.1,x.2.1.2.1,())) λg=>ao (nt g.1)
 (ae (eQ (1,())) λe=>aa (x.1,e.1,())) (ae (vF (x.1,x.2.1.2.1,())) λe=>ae (iC (e.1,x.2.1.2.2.1,())) λd=>ao (nt<|aR d.2.1 0)
 (ae (eQ (d.2.1,())) λa=>aa (x.1,a.1,())) (ao (aR x.2.1.2.1 1)
 (ae (sv (x.1,d.1,())) λa=>ao (aR x.2.1.1 10)
 (ae (lF (a.1.2.2.2.2.2.1,x.2.1.2.2.2.2.2.2.1,())) λb=>ao (nt<|aR b.2.1 0)
 (ae (eQ (b.2.1,())) λc=>aa (x.1,c.1,())) (aa (x.1,(0,d.1,0,b.1,()),())))
 (ae (lE (a.1.2.2.2.2.2.1,x.2.1.2.2.2.2.2.2.1,x.2.1.2.2.2.2.2.1,())) λb=>ao (nt<|aR b.2.1 0)
 (ae (eQ (b.2.1,())) λc=>aa (x.1,c.1,())) (ae (lW (x.1,(a.1.1,a.1.2.1,a.1.2.2.1,a.1.2.2.2.1,a.1.2.2.2.2.1,b.1,a.1.2.2.2.2.2.2),())) λc=>aa (c.1,(0,d.1,0,[],()),()))))
 (ae (pP (x.1,d.1,())) λa=>ao (aR x.2.1.1 10)
 (ae (lF (a.1.2.2.2.2.1,x.2.1.2.2.2.2.2.2.1,())) λb=>ao (nt<|aR b.2.1 0)
 (ae (eQ (b.2.1,())) λc=>aa (x.1,c.1,())) (aa (x.1,(0,d.1,0,b.1,()),())))
 (ae (lE (a.1.2.2.2.2.1,x.2.1.2.2.2.2.2.2.1,x.2.1.2.2.2.2.2.1,())) λb=>ao (nt<|aR b.2.1 0)
 (ae (eQ (b.2.1,())) λc=>aa (x.1,c.1,())) (ae (ij (x.1,(a.1.1,a.1.2.1,a.1.2.2.1,a.1.2.2.2.1,b.1,a.1.2.2.2.2.2),())) λc=>aa (c.1,(0,d.1,0,[],()),())))))))
def p7(x:(List OJ)×al)(a:(Int×al)×(al×al×al)×(List<|Int)×al):Option (aes⊕aes) :=
 cf (ao (ba a.1.1<|len x.1)
 (ae (idx x.1 a.1.1) λb=>ao (fits<|plus (len [b.1])<|len b.2.1)
 (ae (lf (app [b.1] b.2.1,[32],())) λc=>ao (fits<|plus (len c.1)<|len ([10]:bj))
 (ao (fits<|plus (len a.2.2.1)<|len<|aB<|app c.1 [10])
 (aa<|aG ((aC i64 a.1.1 1,()),((),(),a.2.1.2.2),app a.2.2.1<|aB<|app c.1 [10],())) af)
 af)
 af)
 (aa<|aH (0,(a.1.1,()),((),(),a.2.1.2.2),a.2.2.1,())))
def AG(x:(List OJ)×al):Option (Sb×al) :=ae (Loop (p7 x) ((0,()),((),(),()),[],())) (λa=>aa (br a.2.2.1,()))
def mu(x:fC×Int×Sb×(List Sb)×al)(a:rZ×Sb×al):Option (OL⊕OK) :=
 ao (ba a.1.2.1<|len x.1.2.2.1) (ao (within a.1.2.1<|len x.1.2.2.1)
 (ae (idx x.1.2.2.1 a.1.2.1) λb=>ao (bA b.1 a.2.1)
 (aa<|aH (1,(a.1.2.1,a.1.2.1,()),a.2.1,())) (aa<|aG ((a.1.1,aC i64 a.1.2.1 1,()),a.2.1,())))
 af)
 (aa<|aH (0,(a.1.1,a.1.2.1,()),a.2.1,()))
def ha(x:fC×Int×Sb×(List Sb)×al):Option (fC×al) :=
 ao (aR x.2.1 1) (ae (sv (x.1,x.2.2.1,())) λa=>ae (lW (x.1,(a.1.1,x.2.2.2.1,a.1.2.2),())) λb=>aa (b.1,())) (ao (aR x.2.1 2)
 (ae (pP (x.1,x.2.2.1,())) λa=>ae (ij (x.1,(a.1.1,x.2.2.2.1,a.1.2.2),())) λb=>aa (b.1,())) (ao (fits<|len x.1.2.2.1)
 (ae (ae (Loop (mu x) ((0,0,()),x.2.2.1,())) λa=>ao (cF a.1 0)
 (aa (((-1),()),a.2.2.1,())) (aa ((a.2.1.1,()),a.2.2.1,()))) λa=>ae (bd (x.2.2.2.1,())) λb=>ao (within a.1.1<|len x.1.2.2.1)
 (ae (idx x.1.2.2.1 a.1.1) λd=>ae (idx x.1.2.2.1 a.1.1) λe=>ae (idx x.1.2.2.1 a.1.1) λc=>aa ((x.1.1,x.1.2.1,oo x.1.2.2.1 a.1.1 (c.1,c.2.1,b.1,c.2.2.2),x.1.2.2.2.1,x.1.2.2.2.2.1,x.1.2.2.2.2.2),())) af)
 af))
def yI(x:fC×EB×al):Option (fC×rY×al) :=
 ae (vF (x.1,x.2.1.2.1,())) (λe=>ae (kz (x.2.1,())) λf=>ae (dB (f.1,x.2.1.2.1,())) λg=>ao (nt g.1)
 (ae (eQ (1,())) λa=>aa (x.1,a.1,())) (ao (aR x.2.1.1 15)
 (ae (AG (e.1,())) λa=>aa (x.1,(0,[],0,a.1,()),())) (ae (ao (aR x.2.1.1 13)
 (ae (gp (x.2.1.2.2.2.2.1,())) λa=>aa (nt<|aR a.1 0)) (aa false)) λa=>ao a
 (ae (eQ (1,())) λb=>aa (x.1,b.1,())) (ae (iC (e.1,x.2.1.2.2.1,())) λb=>ae (ao (ao (aR b.2.1 0)
 (aR x.2.1.1 13) false)
 (ae (ig (e.1,b.1,x.2.1.2.2.2.2.1,())) λd=>aa ((d.1,()),())) (aa ((b.2.1,()),()))) λd=>ao (nt<|aR d.1.1 0)
 (ae (eQ (d.1.1,())) λc=>aa (x.1,c.1,())) (ae (ao (aR x.2.1.1 13)
 (ae (ha (x.1,x.2.1.2.1,b.1,x.2.1.2.2.2.2.1,())) λc=>aa ((),c.1,())) (aa ((),x.1,()))) λc=>aa (c.2.1,(0,b.1,0,[],()),()))))))
def yJ(x:fC×EB×al):Option (fC×rY×al) :=
 ao (aR x.2.1.1 1) (ae (jI (x.1,x.2.1.2.2.2.1,x.2.1.2.2.2.2.1,x.2.1.2.2.2.2.2.1,x.2.1.2.2.2.2.2.2.2.1,())) λa=>aa (a.1,a.2.1,())) (ao (aR x.2.1.1 2)
 (ae (wO (x.1,x.2.1.2.2.1,())) λa=>aa (a.1,a.2.1,())) (ao (aR x.2.1.1 3)
 (ae (AF (x.1,x.2.1.2.2.1,())) λa=>aa (x.1,a.1,())) (ao (aR x.2.1.1 4)
 (ae (uP (x.1,x.2.1.2.2.1,())) λa=>aa (x.1,a.1,())) (ao (aR x.2.1.1 5)
 (ae (EA (x.1,x.2.1.2.2.1,())) λa=>aa (a.1,a.2.1,())) (ao (aR x.2.1.1 6)
 (ae (Bw (x.1,x.2.1.2.2.1,())) λa=>aa (a.1,a.2.1,())) (ao (aR x.2.1.1 7)
 (ae (rv (x.1,x.2.1.2.2.2.1,x.2.1.2.2.2.2.1,x.2.1.2.2.2.2.2.1,x.2.1.2.2.2.2.2.2.2.1,())) λa=>aa (a.1,a.2.1,())) (ao (aR x.2.1.1 8)
 (ae (ry (x.1,x.2.1.2.2.1,())) λa=>aa (a.1,a.2.1,())) (ao (aR x.2.1.1 11)
 (ae (tM (x.1,x.2.1.2.2.2.1,x.2.1.2.2.2.2.1,x.2.1.2.2.2.2.2.1,x.2.1.2.2.2.2.2.2.2.1,())) λa=>aa (a.1,a.2.1,())) (ao (aR x.2.1.1 12)
 (ae (tO (x.1,x.2.1.2.2.1,())) λa=>aa (a.1,a.2.1,())) (ao (((ao (aR x.2.1.1 9)
 ((aR x.2.1.1 9,()),()) ((aR x.2.1.1 10,()),())).1).1)
 (ae (Cy (x.1,x.2.1,())) λa=>aa (a.1,a.2.1,())) (ao (((ao (aR x.2.1.1 13)
 ((aR x.2.1.1 13,()),()) ((((ao (aR x.2.1.1 14)
 ((aR x.2.1.1 14,()),()) ((aR x.2.1.1 15,()),())).1).1,()),())).1).1)
 (ae (yI (x.1,x.2.1,())) λa=>aa (a.1,a.2.1,())) (ae (eQ (1,())) λa=>aa (x.1,a.1,())))))))))))))
def QH(x:fC×(List EB)×al)(a:(al×Int×al)×(List rY)×fC×al):Option (aet⊕aet) :=
 cf (ao (ba a.1.2.1<|len x.2.1)
 (ae (idx x.2.1 a.1.2.1) λc=>ae (yJ (a.2.2.1,c,())) λb=>ao (fits<|plus (len a.2.1)<|len [b.2.1])
 (aa<|aG (((),aC i64 a.1.2.1 1,()),app a.2.1 [b.2.1],b.1,())) af)
 (aa<|aH (0,((),a.1.2.1,()),a.2.1,a.2.2.1,())))
def we(x:fC×(List EB)×al):Option (fC×(List rY)×al) :=ae (Loop (QH x) (((),0,()),[],x.1,())) (λa=>aa (a.2.2.1,a.2.1,()))
def mv(x:(List rY)×(List rY)×al)(a:Jx×al):Option ((Jx×al)⊕aer) :=
 ao (ao (ba a.1.2.1<|len x.1)
 (ba a.1.2.1<|len x.2.1) false)
 (ae (idx x.1 a.1.2.1) λb=>ae (idx x.2.1 a.1.2.1) λc=>ao (nt<|an (aR b.1 c.1)<|an (bA b.2.1 c.2.1)<|an (aR b.2.2.1 c.2.2.1)<|an (bA b.2.2.2.1 c.2.2.2.1) true)
 (aa<|aH (1,(false,a.1.2.1,()),())) (aa<|aG ((a.1.1,aC i64 a.1.2.1 1,()),())))
 (aa<|aH (0,(a.1.1,a.1.2.1,()),()))
def fL(x:(List rY)×(List rY)×al):Option (Bool×al) :=
 ao (nt<|aR (len x.1)<|len x.2.1) (aa (false,())) (ae (Loop (mv x) ((false,0,()),())) λa=>ao (cF a.1 0)
 (aa (true,())) (aa (a.2.1.1,())))
def Gx(x:(List<|Int)×(List<|Int)×al)(a:Jx×al):Option ((Jx×al)⊕aer) :=
 ao (ao (ba a.1.2.1<|len x.1)
 (ba a.1.2.1<|len x.2.1) false)
 (ae (idx x.1 a.1.2.1) λb=>ae (idx x.2.1 a.1.2.1) λc=>ao (nt<|aR b c)
 (aa<|aH (1,(false,a.1.2.1,()),())) (aa<|aG ((a.1.1,aC i64 a.1.2.1 1,()),())))
 (aa<|aH (0,(a.1.1,a.1.2.1,()),()))
def uR(x:(List<|Int)×(List<|Int)×al):Option (Bool×al) :=
 ao (nt<|aR (len x.1)<|len x.2.1) (aa (false,())) (ae (Loop (Gx x) ((false,0,()),())) λa=>ao (cF a.1 0)
 (aa (true,())) (aa (a.2.1.1,())))
def qJ(x:al):Option (Bool×al) :=
 ae (we ((([]:List nN),([]:List ai6),([]:List ai5),[],[],()),[((1:Int),(0:Int),([]:bj),([]:bj),([([98,97,115,101]:bj)]:List Sb),([]:bj),([]:bj),(1:Int),()),((7:Int),(0:Int),([]:bj),([98,97,115,101]:bj),([([119,101,98]:bj)]:List Sb),([]:bj),([]:bj),(2:Int),()),((11:Int),(0:Int),([]:bj),([119,101,98]:bj),([]:List Sb),([]:bj),([]:bj),(67108867:Int),()),((2:Int),(0:Int),([98,97,115,101]:bj),([]:bj),([]:List Sb),([]:bj),([]:bj),(0:Int),()),((9:Int),(2:Int),([119,101,98]:bj),([]:bj),([]:List Sb),([118]:bj),([107]:bj),(0:Int),()),((10:Int),(2:Int),([48]:bj),([]:bj),([]:List Sb),([]:bj),([107]:bj),(0:Int),()),((15:Int),(3:Int),([]:bj),([]:bj),([]:List Sb),([]:bj),([]:bj),(0:Int),()),((99:Int),(0:Int),([]:bj),([]:bj),([]:List Sb),([]:bj),([]:bj),(0:Int),())],())) (λc=>ae (wc (c.1,())) λd=>ae (ao d.1
 (ae (fL (c.2.1,[((0:Int),([48,48,48,48,48,49]:bj),(0:Int),([]:bj),()),((0:Int),([48,48,48,48,48,50]:bj),(0:Int),([]:bj),()),((0:Int),([48,48,48,48,48,51]:bj),(0:Int),([48,48,48,48,48,52]:bj),()),((7:Int),([]:bj),(0:Int),([]:bj),()),((0:Int),([48,48,48,48,48,50]:bj),(0:Int),([]:bj),()),((0:Int),([48,48,48,48,48,50]:bj),(0:Int),([118]:bj),()),((0:Int),([]:bj),(0:Int),([48,48,48,48,48,49,32,98,97,115,101,10,48,48,48,48,48,52,10]:bj),()),((1:Int),([]:bj),(0:Int),([]:bj),())],())) λa=>aa a.1) (aa false)) λa=>ae (ao a (ae (kz ((7,0,[],[],[],[],[],0,()),())) λb=>ae (uR (b.1,[(2:Int),3],())) λe=>aa e.1) (aa false)) λb=>aa (b,()))
def nu(x:EB×al):Option (Bool×al) :=
 ae (ao (ao (ao (ao (cm (len x.1.2.2.1) 100)
 (cm (len x.1.2.2.2.1) 100) false)
 (cm (len x.1.2.2.2.2.2.1) 8704) false)
 (cm (len x.1.2.2.2.2.2.2.1) 100) false)
 (ae (pJ (x.1.2.2.2.2.1,())) λa=>aa a.1) (aa false)) (λa=>aa (a,()))
end Go.Ge
namespace Go.Ge
variable [Lp]
set_option maxRecDepth 100000
abbrev bo:=((List<|Sb×(List Sb)×Sb×Sb×Sb×(List<|Sb×Sb×Sb×al)×al)×(List<|Sb×(List Sb)×Sb×Sb×(List<|Sb×Sb×Sb×al)×al)×(List<|Sb×Sb×(List Sb)×Sb×Int×Int×Bool×al)×(List Sb)×(List<|Sb×Int×al)×al)
abbrev gu:=(Sb×(List Sb)×Sb×Sb×Sb×(List<|Sb×Sb×Sb×al)×al)
abbrev gv:=(Sb×(List Sb)×Sb×Sb×(List<|Sb×Sb×Sb×al)×al)
abbrev j6:=(Sb×Sb×(List Sb)×Sb×Int×Int×Bool×al)
abbrev fV:=(Int×Sb×Int×Sb×al)
abbrev eJ:=(Sb×Int×al)
abbrev xP:=(Int×Int×Sb×Sb×(List Sb)×Sb×Sb×Int×al)
abbrev FX:=(Sb×(List Sb)×al)
abbrev OM:=(Sb×Sb×Sb×al)
abbrev rI:=(Bool×Int×al)
abbrev lK:=(al×Int×al)
abbrev Zt:=((al×al×Int×al)×(List Sb)×(List j6)×al)
abbrev QI:=(Nat×(Int×Int×al)×al)
abbrev ai7:=(Sb×Int×Int×Sb×Sb×al)
abbrev QJ:=((Int×Int×al)×al)
abbrev Jy:=(Nat×rI×al)
abbrev Bx:=((Int×al)×al)
def tP(x:(List xP)×Int×al)(a:rI×al):Option ((rI×al)⊕Jy) :=
 ao (ao (ba a.1.2.1<|len x.1)
 (ba a.1.2.1 x.2.1) false)
 (ae (idx x.1 a.1.2.1) λb=>ae (nu (b,())) λc=>ao (nt c.1)
 (aa<|aH (1,(false,a.1.2.1,()),())) (aa<|aG ((a.1.1,aC i64 a.1.2.1 1,()),())))
 (aa<|aH (0,(a.1.1,a.1.2.1,()),()))
def zY(x:(List xP)×Int×al):Option (Bool×al) :=
 ae (Loop (tP x) ((false,0,()),())) (λa=>ao (cF a.1 0)
 (aa (cm (len x.1) x.2.1,())) (aa (a.2.1.1,())))
def rJ(x:bo×Sb×al)(a:rI×al):Option ((rI×al)⊕Jy) :=
 ao (ba a.1.2.1<|len x.1.2.2.1) (ae (idx x.1.2.2.1 a.1.2.1) λb=>ao (bA b.2.1 x.2.1)
 (aa<|aH (1,(true,a.1.2.1,()),())) (aa<|aG ((a.1.1,aC i64 a.1.2.1 1,()),())))
 (aa<|aH (0,(a.1.1,a.1.2.1,()),()))
def rK(x:bo×Sb×al)(a:rI×al):Option ((rI×al)⊕Jy) :=
 ao (ba a.1.2.1<|len x.1.2.1) (ae (idx x.1.2.1 a.1.2.1) λb=>ao (bA b.2.2.1 x.2.1)
 (aa<|aH (1,(true,a.1.2.1,()),())) (aa<|aG ((a.1.1,aC i64 a.1.2.1 1,()),())))
 (aa<|aH (0,(a.1.1,a.1.2.1,()),()))
def rL(x:bo×Sb×al)(a:rI×al):Option ((rI×al)⊕Jy) :=
 ao (ba a.1.2.1<|len x.1.1) (ae (idx x.1.1 a.1.2.1) λb=>ao (bA b.2.2.2.1 x.2.1)
 (aa<|aH (1,(true,a.1.2.1,()),())) (aa<|aG ((a.1.1,aC i64 a.1.2.1 1,()),())))
 (aa<|aH (0,(a.1.1,a.1.2.1,()),()))
def tQ(x:bo×Sb×al):Option (Bool×al) :=
 ae (Loop (rJ x) ((false,0,()),())) (λa=>ao (cF a.1 0)
 (ae (Loop (rK x) ((a.2.1.1,0,()),())) λb=>ao (cF b.1 0)
 (ae (Loop (rL x) ((b.2.1.1,0,()),())) λc=>ao (cF c.1 0)
 (aa (false,())) (aa (c.2.1.1,())))
 (aa (b.2.1.1,())))
 (aa (a.2.1.1,())))
def oa(x:bo×Sb×al)(a:(Int×Int×al)×al):Option (QJ⊕QI) :=
 ao (ba a.1.2.1<|len x.1.2.2.2.2.1) (ae (idx x.1.2.2.2.2.1 a.1.2.1) λb=>ao (bA b.1 x.2.1)
 (ae (idx x.1.2.2.2.2.1 a.1.2.1) λc=>aa (aH (1,(c.2.1,a.1.2.1,()),()))) (aa<|aG ((a.1.1,aC i64 a.1.2.1 1,()),())))
 (aa<|aH (0,(a.1.1,a.1.2.1,()),()))
def jc(x:bo×Sb×al):Option (Int×al) :=
 ae (Loop (oa x) ((0,0,()),())) (λa=>ao (cF a.1 0)
 (aa (0,())) (aa (a.2.1.1,())))
def uS(x:bo×Sb×Int×al)(a:lK×(List eJ)×al):Option ((lK×(List eJ)×al)⊕(lK×(List eJ)×al)) :=
 cf (ao (ba a.1.2.1<|len x.1.2.2.2.2.1)
 (ae (idx x.1.2.2.2.2.1 a.1.2.1) λc=>ae (ao (nt<|bA c.1 x.2.1)
 (ae (idx x.1.2.2.2.2.1 a.1.2.1) λb=>ao (fits<|plus (len a.2.1)<|len ([b]:List eJ))
 (aa (((),()),app a.2.1 [b],())) af)
 (aa (((),()),a.2.1,()))) λb=>aa (aG (((),aC i64 a.1.2.1 1,()),b.2.1,())))
 (aa<|aH (0,((),a.1.2.1,()),a.2.1,())))
def p8(x:bo×Sb×Int×al)(b:lK×(List eJ)×al)(a:(Int×al)×al):Option (Bx⊕Bx) :=
 cf (ae (ao (ba a.1.1<|len b.2.1)
 (ao (within a.1.1<|len b.2.1)
 (ae (idx b.2.1 a.1.1) λc=>aa (dK c.1 x.2.1)) af)
 (aa false)) λc=>ao c
 (aa<|aG ((aC i64 a.1.1 1,()),())) (aa<|aH (0,(a.1.1,()),())))
def nw(x:bo×Sb×Int×al):Option (bo×al) :=
 ae (Loop (uS x) (((),0,()),[],())) (λa=>ao (cm x.2.2.1 0)
 (aa ((x.1.1,x.1.2.1,x.1.2.2.1,x.1.2.2.2.1,a.2.1,x.1.2.2.2.2.2),())) (ae (Loop (p8 x a) ((0,()),())) λb=>ao (inside 0 b.1.1<|len a.2.1)
 (ao (fits<|plus (len ([]:List eJ))<|len<|sub a.2.1 0<|minus b.1.1 0)
 (ao (fits<|plus (len<|app []<|sub a.2.1 0<|minus b.1.1 0)<|len ([(x.2.1,x.2.2.1,())]:List eJ))
 (ao (inside b.1.1 (len a.2.1)<|len a.2.1)
 (ao (fits<|plus (len<|app (app []<|sub a.2.1 0<|minus b.1.1 0) [(x.2.1,x.2.2.1,())])<|len<|sub a.2.1 b.1.1<|minus (len a.2.1) b.1.1)
 (aa ((x.1.1,x.1.2.1,x.1.2.2.1,x.1.2.2.2.1,app (app (app ([]:List eJ)<|sub a.2.1 0<|minus b.1.1 0) ([(x.2.1,x.2.2.1,())]:List eJ))<|sub a.2.1 b.1.1<|minus (len a.2.1) b.1.1,x.1.2.2.2.2.2),())) af)
 af)
 af)
 af)
 af))
def jd(x:bo×Sb×al)(d:Int×al)(a:(al×al×Int×al)×(List Sb)×(List j6)×al):Option (Zt⊕Zt) :=
 cf (ao (ba a.1.2.2.1<|len x.1.2.2.1)
 (ae (ao (nt<|aR a.1.2.2.1 d.1)
 (ae (idx x.1.2.2.1 a.1.2.2.1) λb=>ao (fits<|plus (len a.2.2.1)<|len ([b]:List j6))
 (ae (jY (x.1,a.1.2.2.1,())) λc=>ao (fits<|plus (len a.2.1)<|len [c.1])
 (aa (((),(),()),app a.2.1 [c.1],app a.2.2.1 [b],())) af)
 af)
 (aa (((),(),()),a.2.1,a.2.2.1,()))) λb=>aa (aG (((),(),aC i64 a.1.2.2.1 1,()),b.2.1,b.2.2.1,())))
 (aa<|aH (0,((),(),a.1.2.2.1,()),a.2.1,a.2.2.1,())))
def mT(x:bo×Sb×al):Option (bo×al) :=ae (iq (x.1,x.2.1,())) (λb=>ae (Loop (jd x b) (((),(),0,()),[],[],())) λa=>ae (nw ((x.1.1,x.1.2.1,a.2.2.1,a.2.1,x.1.2.2.2.2),x.2.1,0,())) λc=>aa (c.1,()))
def yK(x:bo×Sb×al):Option (bo×fV×al) :=
 ae (eW (x.1,x.2.1,())) (λa=>ao (nt<|aR a.2.1 0)
 (ae (bV (a.2.1,())) λb=>aa (x.1,b.1,())) (ae (tQ (x.1,a.1,())) λb=>ae (ao (nt b.1)
 (ae (jc (x.1,a.1,())) λc=>aa (ba 0 c.1)) (aa true)) λc=>ao c
 (ae (bV (7,())) λd=>aa (x.1,d.1,())) (ae (mT (x.1,a.1,())) λd=>aa (d.1,(0,a.1,0,[],()),()))))
def Cz(x:bo×Sb×al):Option (fV×al) :=
 ae (eW (x.1,x.2.1,())) (λa=>ao (nt<|aR a.2.1 0)
 (ae (bV (a.2.1,())) λb=>aa (b.1,())) (ae (qI (x.1,a.1,())) λb=>aa ((0,a.1,0,b.2.1,()),())))
def wP(x:bo×Sb×al):Option (fV×al) :=
 ae (eW (x.1,x.2.1,())) (λb=>ao (nt<|aR b.2.1 0)
 (ae (bV (b.2.1,())) λc=>aa (c.1,())) (ae (jZ (x.1,b.1,())) λc=>ao (nt<|aR c.2.1 0)
 (ae (bV (c.2.1,())) λd=>aa (d.1,())) (ae (qI (x.1,b.1,())) λd=>ae (ao (nt<|bA d.1.2.1 [])
 (ae (jZ (x.1,d.1.2.1,())) λa=>ao (nt<|aR a.2.1 0)
 (ae (bV (a.2.1,())) λe=>aa (1,(([]:List ai7),()),e.1,())) (aa (0,(a.1,()),(0,[],0,[],()),())))
 (aa (0,([],()),(0,[],0,[],()),()))) λa=>ao (cF a.1 0)
 (ae (mN (a.2.1.1,c.1,())) λe=>ae (tr (e.1,())) λf=>aa ((0,b.1,0,f.1,()),())) (aa (a.2.2.1,())))))
def AH(x:bo×Sb×al):Option (bo×fV×al) :=
 ae (eW (x.1,x.2.1,())) (λa=>ao (nt<|aR a.2.1 0)
 (ae (bV (a.2.1,())) λb=>aa (x.1,b.1,())) (ae (jc (x.1,a.1,())) λb=>ao (cm 1000 b.1)
 (ae (bV (5,())) λc=>aa (x.1,c.1,())) (ae (nw (x.1,a.1,aC i64 b.1 1,())) λc=>aa (c.1,(0,a.1,aC i64 b.1 1,[],()),()))))
def wQ(x:bo×Sb×al):Option (bo×fV×al) :=
 ae (eW (x.1,x.2.1,())) (λa=>ao (nt<|aR a.2.1 0)
 (ae (bV (a.2.1,())) λb=>aa (x.1,b.1,())) (ae (jc (x.1,a.1,())) λb=>ao (ba b.1 1)
 (ae (bV (11,())) λc=>aa (x.1,c.1,())) (ae (nw (x.1,a.1,cR i64 b.1 1,())) λc=>aa (c.1,(0,a.1,cR i64 b.1 1,[],()),()))))
def iD(x:Int×al):Option (fV×al) :=aa ((x.1,[],0,[],()),())
def nx(x:bo×al):Option ((List FX)×al) :=ae (rS (2,(0,([]:List j6),x.1.2.1,([]:List gu),()),())) (λa=>aa (a.1,()))
def NP(x:bo×Sb×al)(a:(Int×Int×al)×al):Option (QJ⊕QI) :=
 ao (ba a.1.2.1<|len x.1.2.1) (ae (idx x.1.2.1 a.1.2.1) λb=>ao (bA b.1 x.2.1)
 (aa<|aH (1,(a.1.2.1,a.1.2.1,()),())) (aa<|aG ((a.1.1,aC i64 a.1.2.1 1,()),())))
 (aa<|aH (0,(a.1.1,a.1.2.1,()),()))
def xQ(x:bo×Sb×al):Option (Int×al) :=
 ae (Loop (NP x) ((0,0,()),())) (λa=>ao (cF a.1 0)
 (aa ((-1),())) (aa (a.2.1.1,())))
def r0(x:bo×Sb×al)(c:Int×al)(a:lK×(List gv)×al):Option ((lK×(List gv)×al)⊕(lK×(List gv)×al)) :=
 cf (ao (ba a.1.2.1<|len x.1.2.1)
 (ae (ao (nt<|aR a.1.2.1 c.1)
 (ae (idx x.1.2.1 a.1.2.1) λb=>ao (fits<|plus (len a.2.1)<|len ([b]:List gv))
 (aa (((),()),app a.2.1 [b],())) af)
 (aa (((),()),a.2.1,()))) λb=>aa (aG (((),aC i64 a.1.2.1 1,()),b.2.1,())))
 (aa<|aH (0,((),a.1.2.1,()),a.2.1,())))
def mU(x:bo×Sb×al):Option (bo×al) :=ae (xQ (x.1,x.2.1,())) (λa=>ae (Loop (r0 x a) (((),0,()),[],())) λb=>aa ((x.1.1,b.2.1,x.1.2.2),()))
def tR(x:bo×gv×al)(b:bo×al)(a:(Int×al)×al):Option (Bx⊕Bx) :=
 cf (ao (ba a.1.1<|len b.1.2.1)
 (ae (idx b.1.2.1 a.1.1) λc=>ao (dK c.1 x.2.1.1)
 (aa<|aG ((aC i64 a.1.1 1,()),())) (aa<|aH (0,(a.1.1,()),())))
 (aa<|aH (0,(a.1.1,()),())))
def sw(x:bo×gv×al):Option (bo×al) :=
 ae (mU (x.1,x.2.1.1,())) (λa=>ae (Loop (tR x a) ((0,()),())) λb=>ao (inside 0 b.1.1<|len a.1.2.1)
 (ao (fits<|plus (len ([]:List gv))<|len<|sub a.1.2.1 0<|minus b.1.1 0)
 (ao (fits<|plus (len<|app ([]:List gv)<|sub a.1.2.1 0<|minus b.1.1 0)<|len [x.2.1])
 (ao (inside b.1.1 (len a.1.2.1)<|len a.1.2.1)
 (ao (fits<|plus (len<|app (app ([]:List gv)<|sub a.1.2.1 0<|minus b.1.1 0) [x.2.1])<|len<|sub a.1.2.1 b.1.1<|minus (len a.1.2.1) b.1.1)
 (aa ((a.1.1,app (app (app ([]:List gv)<|sub a.1.2.1 0<|minus b.1.1 0) ([x.2.1]:List gv))<|sub a.1.2.1 b.1.1<|minus (len a.1.2.1) b.1.1,a.1.2.2),())) af)
 af)
 af)
 af)
 af)
def tS(x:bo×Sb×(List Sb)×Sb×Int×al):Option (bo×fV×al) :=
 ae (gq (x.2.2.1,())) (λg=>ao (ao (nt<|nt<|aR g.1 0)
 (ba 64<|len x.2.2.2.1) true)
 (ae (iD (1,())) λa=>aa (x.1,a.1,())) (ae (ao (nt<|bA x.2.1 [])
 (ae (eW (x.1,x.2.1,())) λa=>ao (nt<|aR a.2.1 0)
 (ae (iD (a.2.1,())) λc=>aa (1,([],()),c.1,x.1,())) (aa (0,(a.1,()),(0,[],0,[],()),(([]:List gu),([]:List gv),([]:List j6),[],([]:List eJ),()),())))
 (aa (0,([],()),(0,[],0,[],()),(([]:List gu),([]:List gv),([]:List j6),[],([]:List eJ),()),()))) λa=>ao (cF a.1 0)
 (ae (nx (x.1,())) λc=>ae (mi (c.1,[],x.2.2.1,())) λf=>ao (nt<|aR f.1 0)
 (ae (iD (f.1,())) λd=>aa (x.1,d.1,())) (ae (nx (x.1,())) λd=>ae (nq (d.1,x.2.2.2.2.1,())) λb=>ao (nt<|aR b.2.1 0)
 (ae (iD (b.2.1,())) λe=>aa (x.1,e.1,())) (ae (sw (x.1,(b.1,x.2.2.1,a.2.1.1,x.2.2.2.1,([]:List OM),()),())) λe=>aa (e.1,(0,b.1,0,[],()),()))))
 (aa (a.2.2.2.1,a.2.2.1,()))))
def tT(x:bo×Sb×al):Option eJ :=ae (nx (x.1,())) (λb=>ae (j0 (b.1,x.2.1,())) λa=>aa (a.1,a.2.1,()))
def oc(x:bo×Sb×al)(b:Sb×Int×al)(a:(Int×al)×fV×bo×al):Option (((Int×al)×fV×bo×al)⊕(Nat×(Int×al)×fV×bo×al)) :=
 ao (ba a.1.1<|len x.1.1) (ae (idx x.1.1 a.1.1) λc=>ao (bA c.2.2.1 b.1)
 (ae (iD (7,())) λd=>aa (aH (1,(a.1.1,()),d.1,x.1,()))) (aa<|aG ((aC i64 a.1.1 1,()),a.2.1,a.2.2.1,())))
 (aa<|aH (0,(a.1.1,()),a.2.1,a.2.2.1,()))
def tU(x:bo×Sb×al):Option (bo×fV×al) :=
 ae (tT (x.1,x.2.1,())) (λa=>ao (nt<|aR a.2.1 0)
 (ae (iD (a.2.1,())) λb=>aa (x.1,b.1,())) (ae (Loop (oc x a) ((0,()),(0,[],0,[],()),(([]:List gu),([]:List gv),([]:List j6),[],([]:List eJ),()),())) λb=>ao (cF b.1 0)
 (ae (mU (x.1,a.1,())) λc=>aa (c.1,(0,a.1,0,[],()),())) (aa (b.2.2.2.1,b.2.2.1,()))))
def gw(x:Int×al):Option (fV×al) :=aa ((x.1,[],0,[],()),())
def oW(x:bo×Sb×al):Option (gv×Bool×al) :=
 ae (xQ (x.1,x.2.1,())) (λa=>ao (ba a.1 0)
 (aa (([],[],[],[],([]:List OM),()),false,())) (ae (idx x.1.2.1 a.1) λb=>aa (b,true,())))
def ny(x:bo×al):Option ((List FX)×al) :=ae (rS (1,(0,([]:List j6),([]:List gv),x.1.1,()),())) (λa=>aa (a.1,()))
def NQ(x:bo×Sb×al)(a:(Int×Int×al)×al):Option (QJ⊕QI) :=
 ao (ba a.1.2.1<|len x.1.1) (ae (idx x.1.1 a.1.2.1) λb=>ao (bA b.1 x.2.1)
 (aa<|aH (1,(a.1.2.1,a.1.2.1,()),())) (aa<|aG ((a.1.1,aC i64 a.1.2.1 1,()),())))
 (aa<|aH (0,(a.1.1,a.1.2.1,()),()))
def xR(x:bo×Sb×al):Option (Int×al) :=
 ae (Loop (NQ x) ((0,0,()),())) (λa=>ao (cF a.1 0)
 (aa ((-1),())) (aa (a.2.1.1,())))
def r4(x:bo×Sb×al)(c:Int×al)(a:lK×(List gu)×al):Option ((lK×(List gu)×al)⊕(lK×(List gu)×al)) :=
 cf (ao (ba a.1.2.1<|len x.1.1)
 (ae (ao (nt<|aR a.1.2.1 c.1)
 (ae (idx x.1.1 a.1.2.1) λb=>ao (fits<|plus (len a.2.1)<|len ([b]:List gu))
 (aa (((),()),app a.2.1 [b],())) af)
 (aa (((),()),a.2.1,()))) λb=>aa (aG (((),aC i64 a.1.2.1 1,()),b.2.1,())))
 (aa<|aH (0,((),a.1.2.1,()),a.2.1,())))
def mV(x:bo×Sb×al):Option (bo×al) :=ae (xR (x.1,x.2.1,())) (λa=>ae (Loop (r4 x a) (((),0,()),[],())) λb=>aa ((b.2.1,x.1.2),()))
def tV(x:bo×gu×al)(b:bo×al)(a:(Int×al)×al):Option (Bx⊕Bx) :=
 cf (ao (ba a.1.1<|len b.1.1)
 (ae (idx b.1.1 a.1.1) λc=>ao (dK c.1 x.2.1.1)
 (aa<|aG ((aC i64 a.1.1 1,()),())) (aa<|aH (0,(a.1.1,()),())))
 (aa<|aH (0,(a.1.1,()),())))
def sx(x:bo×gu×al):Option (bo×al) :=
 ae (mV (x.1,x.2.1.1,())) (λa=>ae (Loop (tV x a) ((0,()),())) λb=>ao (inside 0 b.1.1<|len a.1.1)
 (ao (fits<|plus (len ([]:List gu))<|len<|sub a.1.1 0<|minus b.1.1 0)
 (ao (fits<|plus (len<|app ([]:List gu)<|sub a.1.1 0<|minus b.1.1 0)<|len [x.2.1])
 (ao (inside b.1.1 (len a.1.1)<|len a.1.1)
 (ao (fits<|plus (len<|app (app ([]:List gu)<|sub a.1.1 0<|minus b.1.1 0) [x.2.1])<|len<|sub a.1.1 b.1.1<|minus (len a.1.1) b.1.1)
 (aa ((app (app (app ([]:List gu)<|sub a.1.1 0<|minus b.1.1 0) ([x.2.1]:List gu))<|sub a.1.1 b.1.1<|minus (len a.1.1) b.1.1,a.1.2),())) af)
 af)
 af)
 af)
 af)
def tW(x:bo×Sb×(List Sb)×Sb×Int×al):Option (bo×fV×al) :=
 ae (gq (x.2.2.1,())) (λh=>ao (ao (nt<|nt<|aR h.1 0)
 (ba 64<|len x.2.2.2.1) true)
 (ae (gw (1,())) λa=>aa (x.1,a.1,())) (ae (ao (nt<|bA x.2.1 [])
 (ae (tT (x.1,x.2.1,())) λa=>ao (nt<|aR a.2.1 0)
 (ae (gw (a.2.1,())) λc=>aa (1,([],[],()),c.1,x.1,())) (ae (oW (x.1,a.1,())) λc=>aa (0,(a.1,c.1.2.2.1,()),(0,[],0,[],()),(([]:List gu),([]:List gv),([]:List j6),[],([]:List eJ),()),())))
 (aa (0,([],[],()),(0,[],0,[],()),(([]:List gu),([]:List gv),([]:List j6),[],([]:List eJ),()),()))) λa=>ao (cF a.1 0)
 (ae (ny (x.1,())) λc=>ae (mi (c.1,[],x.2.2.1,())) λg=>ao (nt<|aR g.1 0)
 (ae (gw (g.1,())) λe=>aa (x.1,e.1,())) (ae (ny (x.1,())) λe=>ae (nq (e.1,gT i64 x.2.2.2.2.1 16777215,())) λd=>ao (nt<|aR d.2.1 0)
 (ae (gw (d.2.1,())) λb=>aa (x.1,b.1,())) (ae (oV (x.1,a.2.1.2.1,[],[],gT i64 (jv i64 x.2.2.2.2.1 24) 16777215,())) λb=>ao (nt<|aR b.2.1.1 0)
 (ae (gw (b.2.1.1,())) λf=>aa (x.1,f.1,())) (ae (sx (b.1,(d.1,x.2.2.1,a.2.1.1,b.2.1.2.1,x.2.2.2.1,([]:List OM),()),())) λf=>aa (f.1,(0,d.1,0,b.2.1.2.1,()),())))))
 (aa (a.2.2.2.1,a.2.2.1,()))))
def CA(x:bo×Sb×al):Option eJ :=ae (ny (x.1,())) (λb=>ae (j0 (b.1,x.2.1,())) λa=>aa (a.1,a.2.1,()))
def sy(x:bo×Sb×al):Option (gu×Bool×al) :=
 ae (xR (x.1,x.2.1,())) (λa=>ao (ba a.1 0)
 (aa (([],[],[],[],[],([]:List OM),()),false,())) (ae (idx x.1.1 a.1) λb=>aa (b,true,())))
def tX(x:bo×Sb×al):Option (bo×fV×al) :=
 ae (CA (x.1,x.2.1,())) (λa=>ao (nt<|aR a.2.1 0)
 (ae (gw (a.2.1,())) λb=>aa (x.1,b.1,())) (ae (sy (x.1,a.1,())) λb=>ae (mV (x.1,a.1,())) λe=>ae (jc (x.1,b.1.2.2.2.1,())) λf=>ae (ao (nt<|ba 0 f.1)
 (ae (tQ (e.1,b.1.2.2.2.1,())) λc=>aa c.1) (aa true)) λc=>ao c
 (ae (gw (7,())) λd=>aa (x.1,d.1,())) (ae (mT (e.1,b.1.2.2.2.1,())) λd=>aa (d.1,(0,a.1,0,[],()),()))))
def fq(x:Int×al):Option (fV×al) :=aa ((x.1,[],0,[],()),())
def vG(x:bo×Int×al):Option ((List FX)×al) :=ae (rS (x.2.1,(0,x.1.2.2.1,x.1.2.1,x.1.1,()),())) (λa=>aa (a.1,()))
def xS(x:bo×xP×al):Option (bo×fV×al) :=
 ao (ao (nt<|aR x.2.1.2.1 2)
 (nt<|aR x.2.1.2.1 1) false)
 (ae (fq (1,())) λf=>aa (x.1,f.1,())) (ae (vG (x.1,x.2.1.2.1,())) λf=>ae (j0 (f.1,x.2.1.2.2.1,())) λd=>ao (nt<|aR d.2.1 0)
 (ae (fq (d.2.1,())) λa=>aa (x.1,a.1,())) (ae (oW (x.1,d.1,())) λa=>ae (sy (x.1,d.1,())) λb=>ao (aR x.2.1.1 10)
 (ae (rB (((ao (aR x.2.1.2.1 1)
 ((b.1.2.2.2.2.2.1,()),()) ((a.1.2.2.2.2.1,()),())).1).1,x.2.1.2.2.2.2.2.2.1,())) λc=>ao (nt<|aR c.2.1 0)
 (ae (fq (c.2.1,())) λe=>aa (x.1,e.1,())) (aa (x.1,(0,d.1,0,c.1,()),())))
 (ae (rA (((ao (aR x.2.1.2.1 1)
 ((b.1.2.2.2.2.2.1,()),()) ((a.1.2.2.2.2.1,()),())).1).1,x.2.1.2.2.2.2.2.2.1,x.2.1.2.2.2.2.2.1,())) λc=>ao (nt<|aR c.2.1 0)
 (ae (fq (c.2.1,())) λe=>aa (x.1,e.1,())) (ao (aR x.2.1.2.1 1)
 (ae (sx (x.1,(b.1.1,b.1.2.1,b.1.2.2.1,b.1.2.2.2.1,b.1.2.2.2.2.1,c.1,b.1.2.2.2.2.2.2),())) λe=>aa (e.1,(0,d.1,0,[],()),())) (ae (sw (x.1,(a.1.1,a.1.2.1,a.1.2.2.1,a.1.2.2.2.1,c.1,a.1.2.2.2.2.2),())) λe=>aa (e.1,(0,d.1,0,[],()),()))))))
def rM(x:(List FX)×al)(b:eJ×al)(a:eJ×al):Option ((eJ×al)⊕(eJ×al)) :=
 cf (ae (idx x.1 b.1.2.1) λd=>ao (ba a.1.2.1<|len d.2.1)
 (ao (fits<|plus (len a.1.1)<|len ([32]:bj))
 (ae (idx x.1 b.1.2.1) λe=>ae (idx e.2.1 a.1.2.1) λc=>ao (fits<|plus (len<|app a.1.1 [32])<|len c)
 (aa<|aG ((app (app a.1.1 [32]) c,aC i64 a.1.2.1 1,()),())) af)
 af)
 (aa<|aH (0,(a.1.1,a.1.2.1,()),())))
def rN(x:(List FX)×al)(a:eJ×al):Option ((eJ×al)⊕(eJ×al)) :=
 cf (ao (ba a.1.2.1<|len x.1)
 (ae (idx x.1 a.1.2.1) λb=>ao (fits<|plus (len a.1.1)<|len b.1)
 (ae (Loop (rM x a) ((app a.1.1 b.1,0,()),())) λc=>ao (fits<|plus (len c.1.1)<|len ([10]:bj))
 (aa<|aG ((app c.1.1 [10],aC i64 a.1.2.1 1,()),())) af)
 af)
 (aa<|aH (0,(a.1.1,a.1.2.1,()),())))
def CB(x:(List FX)×al):Option (Sb×al) :=ae (Loop (rN x) (([],0,()),())) (λa=>aa (a.1.1,()))
def mw(x:bo×Int×Sb×(List Sb)×al)(b:(al×Bool×Int×al)×(List j6)×al):Option (((al×Bool×Int×al)×(List j6)×al)⊕((al×Bool×Int×al)×(List j6)×al)) :=
 cf (ao (ba b.1.2.2.1<|len x.1.2.2.1)
 (ae (idx x.1.2.2.1 b.1.2.2.1) λa=>ao (fits<|plus (len b.2.1)<|len ([((ao (ao (bA a.1 x.2.2.1)
 (nt b.1.2.1) false)
 ((true,()),(a.1,a.2.1,x.2.2.2.1,a.2.2.2),()) ((b.1.2.1,()),a,())).2).1]:List j6))
 (aa<|aG (((),((ao (ao (bA a.1 x.2.2.1)
 (nt b.1.2.1) false)
 ((true,()),(a.1,a.2.1,x.2.2.2.1,a.2.2.2),()) ((b.1.2.1,()),a,())).1).1,aC i64 b.1.2.2.1 1,()),app b.2.1 [((ao (ao (bA a.1 x.2.2.1)
 (nt b.1.2.1) false)
 ((true,()),(a.1,a.2.1,x.2.2.2.1,a.2.2.2),()) ((b.1.2.1,()),a,())).2).1],()))
 af)
 (aa<|aH (0,((),b.1.2.1,b.1.2.2.1,()),b.2.1,())))
def hH(x:bo×Int×Sb×(List Sb)×al):Option (bo×al) :=
 ao (aR x.2.1 1) (ae (sy (x.1,x.2.2.1,())) λa=>ae (sx (x.1,(a.1.1,x.2.2.2.1,a.1.2.2),())) λb=>aa (b.1,())) (ao (aR x.2.1 2)
 (ae (oW (x.1,x.2.2.1,())) λa=>ae (sw (x.1,(a.1.1,x.2.2.2.1,a.1.2.2),())) λb=>aa (b.1,())) (ae (Loop (mw x) (((),false,0,()),[],())) λa=>aa ((x.1.1,x.1.2.1,a.2.1,x.1.2.2.2),())))
def tY(x:bo×xP×al):Option (bo×fV×al) :=
 ao (ao (nt<|ba x.2.1.2.1 1)
 (ba 3 x.2.1.2.1) true)
 (ae (fq (1,())) λb=>aa (x.1,b.1,())) (ae (vG (x.1,x.2.1.2.1,())) λb=>ao (aR x.2.1.1 15)
 (ae (CB (b.1,())) λc=>aa (x.1,(0,[],0,c.1,()),())) (ae (ao (aR x.2.1.1 13)
 (ae (gq (x.2.1.2.2.2.2.1,())) λc=>aa (nt<|aR c.1 0)) (aa false)) λc=>ao c
 (ae (fq (1,())) λa=>aa (x.1,a.1,())) (ae (j0 (b.1,x.2.1.2.2.1,())) λa=>ao (nt<|aR a.2.1 0)
 (ae (fq (a.2.1,())) λd=>aa (x.1,d.1,())) (ao (aR x.2.1.1 14)
 (aa (x.1,(0,a.1,0,[],()),())) (ae (mi (b.1,a.1,x.2.1.2.2.2.2.1,())) λd=>ao (nt<|aR d.1 0)
 (ae (fq (d.1,())) λe=>aa (x.1,e.1,())) (ae (hH (x.1,x.2.1.2.1,a.1,x.2.1.2.2.2.2.1,())) λe=>aa (e.1,(0,a.1,0,[],()),())))))))
def CC(x:bo×xP×al):Option (bo×fV×al) :=
 ao (aR x.2.1.1 1) (ae (oV (x.1,x.2.1.2.2.2.1,x.2.1.2.2.2.2.1,x.2.1.2.2.2.2.2.1,x.2.1.2.2.2.2.2.2.2.1,())) λa=>aa (a.1,a.2.1,())) (ao (aR x.2.1.1 2)
 (ae (yK (x.1,x.2.1.2.2.1,())) λa=>aa (a.1,a.2.1,())) (ao (aR x.2.1.1 3)
 (ae (Cz (x.1,x.2.1.2.2.1,())) λa=>aa (x.1,a.1,())) (ao (aR x.2.1.1 4)
 (ae (wP (x.1,x.2.1.2.2.1,())) λa=>aa (x.1,a.1,())) (ao (aR x.2.1.1 5)
 (ae (AH (x.1,x.2.1.2.2.1,())) λa=>aa (a.1,a.2.1,())) (ao (aR x.2.1.1 6)
 (ae (wQ (x.1,x.2.1.2.2.1,())) λa=>aa (a.1,a.2.1,())) (ao (aR x.2.1.1 7)
 (ae (tS (x.1,x.2.1.2.2.2.1,x.2.1.2.2.2.2.1,x.2.1.2.2.2.2.2.1,x.2.1.2.2.2.2.2.2.2.1,())) λa=>aa (a.1,a.2.1,())) (ao (aR x.2.1.1 8)
 (ae (tU (x.1,x.2.1.2.2.1,())) λa=>aa (a.1,a.2.1,())) (ao (aR x.2.1.1 11)
 (ae (tW (x.1,x.2.1.2.2.2.1,x.2.1.2.2.2.2.1,x.2.1.2.2.2.2.2.1,x.2.1.2.2.2.2.2.2.2.1,())) λa=>aa (a.1,a.2.1,())) (ao (aR x.2.1.1 12)
 (ae (tX (x.1,x.2.1.2.2.1,())) λa=>aa (a.1,a.2.1,())) (ao (((ao (aR x.2.1.1 9)
 ((aR x.2.1.1 9,()),()) ((aR x.2.1.1 10,()),())).1).1)
 (ae (xS (x.1,x.2.1,())) λa=>aa (a.1,a.2.1,())) (ao (((ao (aR x.2.1.1 13)
 ((aR x.2.1.1 13,()),()) ((((ao (aR x.2.1.1 14)
 ((aR x.2.1.1 14,()),()) ((aR x.2.1.1 15,()),())).1).1,()),())).1).1)
 (ae (tY (x.1,x.2.1,())) λa=>aa (a.1,a.2.1,())) (ae (fq (1,())) λa=>aa (x.1,a.1,())))))))))))))
def QK(x:bo×(List xP)×al)(a:lK×(List fV)×bo×al):Option ((lK×(List fV)×bo×al)⊕(lK×(List fV)×bo×al)) :=
 cf (ao (ba a.1.2.1<|len x.2.1)
 (ae (idx x.2.1 a.1.2.1) λc=>ae (CC (a.2.2.1,c,())) λb=>ao (fits<|plus (len a.2.1)<|len [b.2.1])
 (aa<|aG (((),aC i64 a.1.2.1 1,()),app a.2.1 [b.2.1],b.1,())) af)
 (aa<|aH (0,((),a.1.2.1,()),a.2.1,a.2.2.1,())))
def EC(x:bo×(List xP)×al):Option (bo×(List fV)×al) :=ae (Loop (QK x) (((),0,()),[],x.1,())) (λa=>aa (a.2.2.1,a.2.1,()))
def j7(x:(List xP)×al)(a:rI×bo×al):Option ((rI×bo×al)⊕(Nat×rI×bo×al)) :=
 ao (ba a.1.2.1<|len x.1) (ae (idx x.1 a.1.2.1) λd=>ae (yJ (a.2.1,d,())) λc=>ae (wc (c.1,())) λe=>ae (ao (nt<|nt e.1)
 (ae (ao (nt<|aR c.2.1.1 0)
 (ae (pV (a.2.1,c.1,())) λb=>aa (ao (nt<|nt b.1)
 (nt<|an (aR c.2.1.1 c.2.1.1)<|an (bA c.2.1.2.1 [])<|an (aR c.2.1.2.2.1 0)<|an (bA c.2.1.2.2.2.1 []) true) true))
 (aa false)) λb=>aa b)
 (aa true)) λb=>ao b
 (aa<|aH (1,(false,a.1.2.1,()),a.2.1,())) (aa<|aG ((a.1.1,aC i64 a.1.2.1 1,()),c.1,())))
 (aa<|aH (0,(a.1.1,a.1.2.1,()),a.2.1,()))
def od(x:(List xP)×al):Option (Bool×al) :=
 ae (zY (x.1,20,())) (λf=>ao (nt f.1)
 (ae (qJ ()) λa=>aa (a.1,())) (ae (we ((([]:List gu),([]:List gv),([]:List j6),[],([]:List eJ),()),x.1,())) λa=>ae (EC ((([]:List gu),([]:List gv),([]:List j6),[],([]:List eJ),()),x.1,())) λe=>ae (pV (a.1,e.1,())) λg=>ae (ao (nt<|nt g.1)
 (ae (fL (a.2.1,e.2.1,())) λb=>aa (nt b.1)) (aa true)) λb=>ao b
 (aa (false,())) (ae (Loop (j7 x) ((false,0,()),(([]:List gu),([]:List gv),([]:List j6),[],([]:List eJ),()),())) λc=>ao (cF c.1 0)
 (ae (pV (c.2.2.1,a.1,())) λh=>ae (ao h.1
 (ae (qJ ()) λd=>aa d.1) (aa false)) λd=>aa (d,()))
 (aa (c.2.1.1,())))))
end Go.Ge
namespace Go.Ge
variable [Lp]
def eh{a b}(h:-9223372036854775808<=a+b)(c:a+b<=9223372036854775807):aC .i64 a b=a+b:=by unfold aC;simp[IntKind.wrap,IntKind.signed,IntKind.bits];omega
def dc{a b}(h:-9223372036854775808<=a-b)(c:a-b<=9223372036854775807):cR .i64 a b=a-b:=by unfold cR;simp[IntKind.wrap,IntKind.signed,IntKind.bits];omega
def ED{a b}(h:-9223372036854775808<=a*b)(c:a*b<=9223372036854775807):jt .i64 a b=a*b:=by unfold jt;simp[IntKind.wrap,IntKind.signed,IntKind.bits];omega
def xT{a}(h:-9223372036854775808<=a)(b:a<=9223372036854775807):kg .i64 a=a:=by unfold kg;simp[IntKind.wrap,IntKind.signed,IntKind.bits];omega
def alv{a}(h:0<=a)(b:a<=18446744073709551615):kg .u64 a=a:=by unfold kg;simp[IntKind.wrap,IntKind.signed,IntKind.bits];omega
def anQ(a:Int):kg .u8 a=a % 256:=by unfold kg;simp[IntKind.wrap,IntKind.min,IntKind.max,IntKind.signed,IntKind.bits]
def wrap_u32 a:IntKind.wrap .u32 a=a % 4294967296:=by simp[IntKind.wrap,IntKind.signed,IntKind.bits]
def Bv(x:Int):BitVec 32:=BitVec.ofInt 32 x
def Can(x:Int):Prop:=0<=x/\x<4294967296
def Zu a:Can (IntKind.wrap .u32 a):=by rw[wrap_u32];unfold Can;omega
def yL a:((Bv a).toNat:Int)=a % 4294967296:=by unfold Bv;rw[ahI];have:0<=a % ((2 ^ 32:Nat):Int):=Int.emod_nonneg _ aI;rw[ahH this];rfl
def alw{a b}(c:Can a)(d:Can b)(h:Bv a=Bv b):a=b:=by have e:=yL a;have f:=yL b;rw[h] at e;unfold Can at c d;omega
def ON a:Bv (IntKind.wrap .u32 a)=Bv a:=by apply ahE;have c:=yL a;have b:=yL (IntKind.wrap .u32 a);rw[wrap_u32] at b⊢;omega
def acu v:Bv (v.toNat:Int)=v:=by apply ahE;have a:=yL v.toNat;omega
def bv_and x y:Bv (gT .u32 x y)=Bv x &&& Bv y:=by unfold gT;rw[ON];apply acu
def aeu x y:Bv (B6 .u32 x y)=Bv x ||| Bv y:=by unfold B6;rw[ON];apply acu
def ai8 x y:Bv (gD .u32 x y)=Bv x ^^^ Bv y:=by unfold gD;rw[ON];apply acu
def QL x y:Can (B6 .u32 x y):=Zu _
def WQ x y:Can (gD .u32 x y):=Zu _
def acv x (n:Nat) (b:n<=32):Bv (om .u32 x n)=Bv x <<< n:=by
 unfold om;rw[ON];apply ahE;have a:=yL (x*2 ^ (min (n:Int).toNat IntKind.u32.bits));have e:min (n:Int).toNat IntKind.u32.bits=n:=by simp[IntKind.bits];omega
 rw[e] at a⊢;rw[BitVec.toNat_shiftLeft];have c:(((Bv x).toNat*2 ^ n % 2 ^ 32:Nat):Int)=(x*2 ^ n) % 4294967296:=by rw[Int.natCast_emod,Int.natCast_mul,(yL x)];show(x % 4294967296*2 ^ n) % 4294967296=_;rw[Int.mul_emod,Int.emod_emod_of_dvd _ (Int.dvd_refl _),<-Int.mul_emod]
 omega
def acw x y:B6 .u32 x y=B6 .u32 y x:=alw (QL _ _) (QL _ _) (by rw[aeu,aeu,BitVec.or_comm])
def Zv x y:aC .u32 x y=aC .u32 y x:=by unfold aC;rw[Int.add_comm]
def aps e f g:gD .u32 g (gT .u32 e<|gD .u32 f g)=gD .u32 (gT .u32 e f) (gT .u32 (gD .u32 4294967295 e) g):=by refine alw (WQ _ _) (WQ _ _) ?_;simp only[ai8,bv_and];have h:Bv 4294967295=BitVec.allOnes 32:=aI;rw[h];ext i hi;simp only[BitVec.getElem_xor,BitVec.getElem_and,BitVec.getElem_allOnes];cases (Bv e)[i]<;>cases (Bv f)[i]<;>cases (Bv g)[i]<;>rfl
def anR a b c:B6 .u32 (gT .u32 a b) (gT .u32 c<|B6 .u32 a b)=gD .u32 (gD .u32 (gT .u32 a b)<|gT .u32 a c) (gT .u32 b c):=by refine alw (QL _ _) (WQ _ _) ?_;simp only[ai8,bv_and,aeu];ext i hi;simp;cases (Bv a)[i]<;>cases (Bv b)[i]<;>cases (Bv c)[i]<;>rfl
def alx a b c d:B6 .u32 (om .u32 (B6 .u32 (om .u32 (B6 .u32 (om .u32 (B6 .u32 (om .u32 0 8) a) 8) b) 8) c) 8) d=B6 .u32 (B6 .u32 (B6 .u32 (om .u32 a 24)<|om .u32 b 16)<|om .u32 c 8) d:=by refine alw (QL _ _) (QL _ _) ?_;have g:∀x,Bv (om .u32 x 8)=Bv x <<< 8:=λx=>acv x 8 aI;have e:∀x,Bv (om .u32 x 16)=Bv x <<< 16:=λx=>acv x 16 aI;have f:∀x,Bv (om .u32 x 24)=Bv x <<< 24:=λx=>acv x 24 aI;simp only[aeu,g,e,f];simp[BitVec.shiftLeft_or_distrib]
def aT{a b}(h:a<b):ba a b=true:=by simp[ba,h]
def aF{a b}(h:b<=a):ba a b=false:=by simp[ba];omega
def bL{a b}(h:a<=b):cm a b=true:=by simp[cm,h]
def cN{a b}(h:b<a):cm a b=false:=by simp[cm];omega
def ay{a b}(h:a=b):aR a b=true:=by simp[aR,h]
def ax{a b}(h:a≠b):aR a b=false:=by simp[aR,h]
def aO{i n}(a:0<=i)(b:i<n):within i n=true:=by simp[within,a,b]
def aV{i j n}(a:0<=i)(b:i<=j)(c:j<=n):inside i j n=true:=by simp[inside,a,b,c]
def dN{n}(h:n<=4294967296):fits n=true:=by simp[fits,h]
def j8{S} s:cf (aa (.inl s:S⊕(Nat×S)))=aa (.inl s):=rfl
def mW{S} n s:cf (aa (.inr (n,s):S⊕(Nat×S)))=aa (.inr s):=rfl
def fD{α}(l:List α) d {i} (h:i<l.length):idx l i=aa (l.getD i d):=by rw[xC,amV,gQ h];rfl
def nO{α}(l:List α) d {i:Int} {k:Nat} (e:i=k) (h:k<l.length):idx l i=aa (l.getD k d):=by subst e;exact fD l d h
def Jz{α}(l:List α)(i:Nat) x:oo l i x=l.set i x:=by simp[oo]
def wg{d c R:Type}(a:Nat->c->d->Option (c⊕R))(b:Nat->c->R):List d->Nat->c->Option R|[],i,s=>aa (b i s)|x::r,i,s=>match a i s x with|none=>af|some (.inl e)=>wg a b r (i+1) e|some (.inr y)=>aa y
def qK{α σ S R}{f:S->Option (S⊕R)}(l:List α)(j:σ->Nat->S) step fin (Inv:Nat->σ->Prop)
  (c:∀s i x,l[i]?=aa x->i<l.length->Inv i s->f (j s i)=(step i s x).map λq=>match q with|.inl d=>.inl (j d<|i+1)|.inr y=>.inr y) (hinv:∀s i x d,l[i]?=aa x->Inv i s->step i s x=aa (.inl d)->Inv (i+1) d) (k:∀s,Inv l.length s->f (j s l.length)=aa (.inr<|fin l.length s)) (e:∀s i x,l[i]?=aa x->Inv i s->step i s x≠af) : ∀s,Inv 0 s->Loop f (j s 0)=wg step fin l 0 s:=by
 have key:∀b a s,l=a++b->Inv a.length s->Loop f (j s a.length)=wg step fin b a.length s:=by intro b;induction b with|nil =>intro a s h g;rw[zo] at h;subst h;rw[aZ,k s g];rfl|cons x r n =>(intro a s h g;have hx:l[a.length]?=aa x:=by rw[h];simp);rw[aZ,c s a.length x hx (by rw[h];simp) g];unfold wg;cases m:step a.length s x with|none=>exact absurd m (e s _ x hx g)|some q =>cases q with|inr y=>rfl|inl d =>have:=n (a++[x]) d (by rw[h];simp) (by rw[gR];exact hinv s _ x d hx g m);rw[gR] at this;exact this
 intro s g;exact key l [] s rfl g
def JA{α}(i:Nat)(l:List α):ba i (len l)=decide (i<l.length):=by simp[ba,len]
def JB{α}(l:List α):ba 0 (len l)=decide (0<l.length):=JA 0 l
def CD{α}(i:Nat)(l:List α):cm (len l) i=decide (l.length<=i):=by simp[cm,len]
def JC{α β}(l:List α)(m:List β):ba (len l) (len m)=decide (l.length<m.length):=by simp[ba,len]
def QM{α β}(l:List α)(m:List β):cm (len l) (len m)=decide (l.length<=m.length):=by simp[cm,len]
def Zw{α β}(l:List α)(m:List β):aR (len l) (len m)=decide (l.length=m.length):=by unfold len;apply fk.2;omega
def aP{α β}{l:List α}{m:List β}(h:l.length+m.length<=4294967296):fits (plus (len l)<|len m)=true:=by apply dN;simp only[plus,len];omega
def di{α} c (x y:α):ao c x y=if c=true then x else y:=by cases c<;>rfl
def QN{α} p [Decidable p] (x y:α):ao (decide p) x y=if p then x else y:=by by_cases h:p<;>simp[ ao]
def tZ{a b}:bA a b=decide (a=b):=rfl
def bg{a b}(h:a≠b):bA a b=false:=by simp[bA,h]
def cc{a b}(h:a=b):bA a b=true:=by simp[bA,h]
def GU{c n}:aR (u8 c) (n.toNat:Int)=decide (c=n):=by
 unfold aR u8;by_cases h:c=n
 {simp[h]};have:c.toNat≠n.toNat:=λe=>h (Yh.1 e);simp[h];omega
def fY{α}(l:List α)(n:Nat):sub l 0 (minus n 0)=l.take n:=by unfold sub minus;simp
def UW{α β}(l:List α)(m:List β):sub l 0 (minus (len m) 0)=l.take m.length:=fY l m.length
def je{α}(l:List α) n (h:n<=l.length):sub l n (minus (len l) n)=l.drop n:=by unfold minus len;apply Is;rw[qo];omega
def cu:cF 0 0=true:=rfl
def js:cF 1 0=false:=rfl
def aA{α:Type}{l:List α}{i x}(h:l[i]?=aa x):i<l.length:=(ga.1 h).1
def sub_one{α}{l:List α}{i:Nat}{x}(h:l[i]?=aa x):sub l i (minus ((i+1:Nat):Int) i)=[x]:=by unfold sub minus;rw[show((i+1:Nat):Int)-i=1 by omega,An];obtain⟨a,rfl⟩:=ga.1 h;rw[zm a];rfl
def acx{a b n:Nat}(h:a<=b)(k:b<=n):inside a b n=true:=aV ai ai ai
def jf{α a b}{l:List α}(h:a<=b)(k:b<=l.length):inside a b (len l)=true:=acx h k
def au{α}{l:List α}{i:Nat}{x}(h:l[i]?=aa x):idx l i=aa x:=by rw[xC,h]
def aq{α}{l:List α}{i}(h:i<l.length):ba i (len l)=true:=by rw[JA,cT h]
def aw{α}{l:List α}:ba (l.length:Int) (len l)=false:=by rw[JA,cj ai]
def hJ{α}(l m:List α):app l m=l++m:=rfl
def ai9 b:nt b=!b:=rfl
def bG{α}(l:List α):len l=(l.length:Int):=rfl
def aly y:dK [] y=decide (y≠[]):=by cases y<;>simp[dK,Op.bytesLess]
def aja x:dK x []=false:=by cases x<;>simp[dK,Op.bytesLess]
def JD a b x y:dK (a::x) (b::y)=(decide (a<b)||(a==b&&dK x y)):=by simp[dK,Op.bytesLess]
def anS(a b:UInt8):a<b\/a=b\/b<a:=by
 rcases Ma a.toNat b.toNat with h|h|h
 .exact .inl h
 {exact .inr (.inl<|Yh.1 h)};exact .inr (.inr h)
def fE:∀x,dK x x=false:=by intro x;induction x with|nil=>rfl|cons a x b=>rw[JD,b];simp
def Bz:∀{x y z},dK x y=true->dK y z=true->dK x z=true:=by intro x;induction x with|nil =>(intro y z h k;cases z with|nil=>rw[aja] at k;cases k|cons c z=>rfl)|cons a x d =>intro y z h k;cases y with|nil=>cases h|cons b y =>cases z with|nil=>cases k|cons c z =>rw[JD] at h k⊢;simp at h k⊢;rcases h with h|⟨rfl,h⟩;{rcases k with k|⟨rfl,k⟩;{exact .inl (UInt8.lt_trans h k)};exact .inl h};rcases k with k|⟨rfl,k⟩;{exact .inl k};exact .inr ⟨rfl,d h k⟩
def CE:∀x y,dK x y=true\/x=y\/dK y x=true:=by intro x;induction x with|nil=>intro y;cases y<;>simp[aly]|cons a x c =>intro y;cases y with|nil=>exact .inr (.inr rfl)|cons b y =>rw[JD,JD];simp only[Iw,zn,gC,beq_iff_eq];rcases anS a b with h|rfl|h;{exact .inl (.inl h)};{rcases c y with h|rfl|h;{exact .inl (.inr ⟨rfl,h⟩)};{exact .inr (.inl rfl)};exact .inr (.inr<|.inr ⟨rfl,h⟩)};exact .inr (.inr<|.inl h)
def p9{x y}(h:dK x y=true):dK y x=false:=by cases k:dK y x with|false=>rfl|true=>have:=Bz h k;rw[fE] at this;cases this
def wR{x y}(h:dK x y=true):x≠y:=λe=>by rw[e,fE] at h;cases h
def acy x y:nt (oor (dK x y)<|bA x y)=dK y x:=by
 rcases CE x y with h|rfl|h
 .rw[h,p9 h];rfl
 {rw[yC,fE];rfl};rw[h,p9 h,bg λe=>wR h e.symm];rfl
def acz(x y:bj):Int:=if dK x y=true then -1 else if x=y then 0 else 1
def cmpL:List bj->List bj->Int|[],[]=>0|[],_::_=>-1|_::_,[]=>1|a::x,b::y=>if a=b then cmpL x y else if dK a b=true then -1 else 1
def jL:∀x,cmpL x x=0:=by intro x;induction x with|nil=>rfl|cons a x b=>rw[cmpL,aN rfl];exact b
def Lh:∀{x y},cmpL x y=0->x=y:=by intro x;induction x with|nil=>(intro y h;cases y with|nil=>rfl|cons b y=>cases h)|cons a x c =>intro y h;cases y with|nil=>cases h|cons b y =>rw[cmpL] at h;split at h;{rename_i e;rw[e,c h]};split at h<;>cases h
def QO:∀x y,cmpL x y=- cmpL y x:=by intro x;induction x with|nil=>intro y;cases y<;>rfl|cons a x c =>intro y;cases y with|nil=>rfl|cons b y =>rw[cmpL,cmpL];by_cases e:a=b;{rw[aN e,aN e.symm,c y]};have d:¬b=a:=λq=>e q.symm;rw[aK e,aK d];rcases CE a b with h|h|h;{rw[aN h,aK (by rw[p9 h];simp)]};{exact absurd h e};rw[aK<|by rw[p9 h];simp,aN h];rfl
def mx:∀{x y z},cmpL x y<0->cmpL y z<0->cmpL x z<0:=by intro x;induction x with|nil =>(intro y z h k;cases z with|nil=>(cases y with|nil=>exact absurd k (by simp[cmpL])|cons b y=>exact absurd k (by simp[cmpL]))|cons c z=>exact(by decide:(-1)<0))|cons a x j =>intro y z h k;cases y with|nil=>exact absurd h (by simp[cmpL])|cons b y =>cases z with|nil=>exact absurd k (by simp[cmpL])|cons c z =>rw[cmpL] at h k⊢;by_cases e:a=b;{subst e;rw[aN rfl] at h;by_cases d:a=c;{subst d;rw[aN rfl] at k⊢;exact j h k};rw[aK d] at k⊢;exact k};(rw[aK e] at h;have g:dK a b=true:=by cases q:dK a b with|true=>rfl|false=>rw[q] at h;exact absurd h aI);by_cases d:b=c;{subst d;rw[aK e];exact h};(rw[aK d] at k;have i:dK b c=true:=by cases q:dK b c with|true=>rfl|false=>rw[q] at k;exact absurd k aI);have f:=Bz g i;rw[aK<|wR f,aN f];decide
def Zx x r (h:r≠[]):cmpL x (x++r)=-1:=by induction x with|nil=>(cases r with|nil=>exact absurd rfl h|cons a r=>rfl)|cons a x b=>rw[Na,cmpL,aN rfl];exact b
def ajb{a b:Type}{x:List a}{y:List b}{i:Nat}{p}(h:(x.zip y)[i]?=aa p):x[i]?=aa p.1/\y[i]?=aa p.2:=by rw[ahA] at h;exact h
def Zy{c:Type}[DecidableEq c]:∀(x y:List c),(x.zip y).all (λp=>decide (p.1=p.2))=decide (x.take (min x.length y.length)=y.take (min x.length y.length)):=by intro x;induction x with|nil=>simp|cons a x d =>intro y;cases y with|nil=>simp|cons b y =>rw[List.zip_cons_cons,List.all_cons,d y];by_cases e:a=b;{simp};simp
def WR{a:Type}[DecidableEq a]{x y:List a}(h:x.length=y.length):(x.zip y).all (λp=>decide (p.1=p.2))=decide (x=y):=by rw[Zy,h,ah2,Ao,<-h,Ao]
def ob{α β o x}{f:α->Option β}{r}(h:o=aa x)(k:f x=r):ae o f=r:=by rw[h];exact k
def ajc{f:Type}(l:List f)(p:Nat->f->Bool) :
  (∃i x,l[i]?=aa x/\p i x=true/\∀j y,j<i->l[j]?=aa y->p j y=false)\/∀i x,l[i]?=aa x->p i x=false:=by
 by_cases h:∃i x,l[i]?=aa x/\p i x=true
 .left;have key:∀n i x,i<=n->l[i]?=aa x->p i x=true->∃i x,l[i]?=aa x/\p i x=true/\∀j y,j<i->l[j]?=aa y->p j y=false:=by intro n;induction n with|zero =>(intro i x g a b;obtain rfl:i=0:=ai;exact⟨0,x,a,b,λj y d=>ai⟩)|succ n m =>intro i x g a b;by_cases k:∃j y,j<i/\l[j]?=aa y/\p j y=true;{obtain⟨j,y,d,e,c⟩:=k;exact m j y ai e c};refine⟨i,x,a,b,λj y d e=>?_⟩;cases c:p j y with|false=>rfl|true=>exact absurd ⟨j,y,d,e,c⟩ k
  obtain⟨i,x,a,b⟩:=h;exact key i i x (b8 _) a b
 .right;intro i x a;cases c:p i x with|false=>rfl|true=>exact absurd ⟨i,x,a,c⟩ h
def eR{o S R:Type}{f}(l:List o)(b:Int->S)(p:Nat->o->Bool)(c:Nat->o->R) d (s:l.length<=4294967296)
  (a:∀i x,l[i]?=aa x->i<l.length->aC .i64 i 1=((i+1:Nat):Int)->f (b i)=aa (if p i x=true then .inr (c i x) else .inl (b ((i+1:Nat):Int)))) (g:f (b (l.length:Int))=aa (.inr d)) : (∃i x,l[i]?=aa x/\p i x=true/\(∀j y,j<i->l[j]?=aa y->p j y=false)/\Loop f (b 0)=aa (c i x))\/((∀i x,l[i]?=aa x->p i x=false)/\Loop f (b 0)=aa d):=by
 have h:∀i x,l[i]?=aa x->p i x=false->f _=aa (.inl<|b _):=λi x e n=>by have hi:=aA e;rw[a i x e hi<|aJ ai,n];rfl
 rcases ajc l p with ⟨i,x,e,n,k⟩|r
 .left;refine⟨i,x,e,n,k,?_⟩;have hi:=aA e;refine cp i (λj=>b j) (λj q=>?_) ?_;{have m:j<l.length:=ai;exact h j l[j] (gQ m) (k j _ q<|gQ m)}
  .rw[a i x e hi<|aJ ai,n];rfl
 .right;refine⟨r,cp l.length (λj=>b j) (λj k=>?_) g⟩;exact h j l[j] (gQ k) (r j _<|gQ k)
def WS{o S R:Type}{f}(l:List o) n (mk:Int->S) (p:Nat->o->Bool) (a:Nat->o->R) (b:Nat->R) (t:min n l.length<=4294967296)
  (c:∀i x,l[i]?=aa x->i<l.length->i<n->aC .i64 i 1=((i+1:Nat):Int)->f (mk i)=aa (if p i x=true then .inr (a i x) else .inl (mk ((i+1:Nat):Int)))) (d:f (mk ((min n l.length:Nat):Int))=aa (.inr<|b<|min n l.length)) : (∃i x,i<n/\l[i]?=aa x/\p i x=true/\(∀j y,j<i->l[j]?=aa y->p j y=false)/\Loop f (mk 0)=aa (a i x))\/((∀i x,i<n->l[i]?=aa x->p i x=false)/\Loop f (mk 0)=aa (b<|min n l.length)):=by
 have k:∀i x,(l.take n)[i]?=aa x↔(i<n/\l[i]?=aa x):=λi x=>by rw[kh];by_cases h:i<n;{simp};simp
 have hlen:(l.take n).length=min n l.length:=cY;rcases eR _ mk p a _ (by rw[hlen];exact t) (λi x e s g=>by obtain⟨q,m⟩:=(k i x).1 e;exact c i x m (aA m) q g) (by rw[hlen];exact d) with ⟨i,x,e,u,v,h⟩|⟨w,h⟩
 .obtain⟨q,m⟩:=(k i x).1 e;exact .inl ⟨i,x,q,m,u,λj y r z=>v j y r ((k j y).2 ⟨ai,z⟩),h⟩
 .exact .inr ⟨λi x s e=>w i x ((k i x).2 ⟨s,e⟩),h⟩
def sz{u k S R:Type}{f}(l:List u)(m:k->Int->S)(d:k->Nat->u->k)(h:k->R)(c:k->Nat->Prop)(D:l.length<=4294967296)
  (j:∀s i x,l[i]?=aa x->i<l.length->aC .i64 i 1=((i+1:Nat):Int)->c s i->f (m s i)=aa (.inl<|m (d s i x) ((i+1:Nat):Int))/\c (d s i x) (i+1)) (n:∀s,c s l.length->f (m s (l.length:Int))=aa (.inr<|h s)) s (y:c s 0):∃t,c t l.length/\Loop f (m s 0)=aa (h t)/\t=(l.zipIdx).foldl (λa p=>d a p.2 p.1) s:=by
 have key:∀e b s,l=b++e->c s b.length->∃t,c t l.length/\Loop f (m s b.length)=aa (h t)/\t=(e.zipIdx b.length).foldl (λa p=>d a p.2 p.1) s:=by intro e;induction e with|nil =>intro b s g o;rw[zo] at g;subst g;exact⟨s,o,by rw[aZ,n s o];rfl,rfl⟩|cons x r z =>(intro b s g o;have hx:l[b.length]?=aa x:=by rw[g];simp);have q:=aA hx;obtain⟨A,B⟩:=j s b.length x hx q (aJ ai) o;obtain⟨t,C,v,w⟩:=z (b++[x]) _ (by rw[g];simp) (by rw[gR];exact B);rw[gR] at v w;exact⟨t,C,by rw[aZ,A];exact v,w⟩
 exact key l [] s rfl y
def hU{e h S R:Type}{f:S->Option (S⊕R)}(l:List e)(b:List h->Int->S) g fin (k:l.length<=4294967296)
  (a:∀i x,l[i]?=aa x->i<l.length->aC .i64 i 1=((i+1:Nat):Int)->f (b ((l.take i).flatMap g) i)=aa (.inl<|b ((l.take i).flatMap g++g x) ((i+1:Nat):Int))) (c:f (b (l.flatMap g) (l.length:Int))=aa (.inr fin)):Loop f (b [] 0)=aa fin:=by
 refine cp l.length (λj=>b ((l.take j).flatMap g) j) (λj d=>?_) (by simp;exact c);have hx:=gQ d;have:=a j l[j] hx d (aJ ai);rw[this,yn,hx,List.flatMap_append];simp
def ej{α}{l:List α}(h:l.length<=4294967296):fits (len l)=true:=afG h
def bp{a:Type}{l:List a}{x}:x∈l↔∃i:Nat,l[i]?=aa x:=by rw[Ur]
abbrev Tx:=bj
abbrev Nm:=Tx×List Tx×al
def Tk(l:List Tx)(s:Tx)(c:l.length<=4294967296):zQ (l,s,())=aa (decide<|s∈l,()):=by
 unfold zQ;rcases eR (f:=tB (l,s,())) l (λi=>((false,i,()),())) (λ_ x=>decide (x=s)) (λi x=>(1,(true,(i:Int),()),())) (0,(false,len l,()),()) c (λi x a b d=>by unfold tB;dsimp only;rw[aq b,aj,au a,ab,di,d];by_cases h:x=s<;>simp[bA,h]) (by unfold tB;dsimp only;rw[aw,ag];rfl) with ⟨i,x,a,e,k,h⟩|⟨g,h⟩
 .rw[h,ab];have:s∈l:=by rw[<-gb e];exact bp.2 ⟨i,a⟩
  rw[cT this];rfl
 rw[h,ab];have:s∉l:=λj=>by obtain⟨i,b⟩:=bp.1 j;have:=g i s b;simp at this
 simp[this,cF,ao]
def BA(l:List Nm)(id:Tx):Int:=match l.findIdx? (λx=>decide (x.1=id)) with|some i=>(i:Int)|none=>-1
def Zz{l id}{i:Nat}{x}(b:l[i]?=aa x)(c:x.1=id)(d:∀j y,j<i->l[j]?=aa y->decide (y.1=id)=false):BA l id=i:=by
 unfold BA;have:l.findIdx? (λx=>decide (x.1=id))=aa i:=by rw[XZ];obtain⟨e,rfl⟩:=ga.1 b;exact⟨e,by simp[c],λj a=>by have:=d j l[j] a (gQ ai);simpa using this⟩
 rw[this]
def HT{l id}(a:∀(i:Nat) x,l[i]?=aa x->decide (x.1=id)=false):BA l id=-1:=by
 unfold BA;have:l.findIdx? (λx=>decide (x.1=id))=none:=by rw[adG];intro x b;obtain⟨i,c⟩:=bp.1 b;exact a i x c
 rw[this]
def QP(l:List Nm)(id:Tx)(b:l.length<=4294967296):xL (l,id,())=aa (BA l id,()):=by
 unfold xL;rcases eR (f:=rp (l,id,())) l (λi=>(((0:Int),i,()),())) (λ_ x=>decide (x.1=id)) (λi x=>(1,((i:Int),(i:Int),()),())) (0,((0:Int),len l,()),()) b (λi x a c d=>by unfold rp;dsimp only;rw[aq c,aj,au a,ab,di,d];by_cases h:x.1=id<;>simp[bA,h]) (by unfold rp;dsimp only;rw[aw,ag];rfl) with ⟨i,x,a,e,g,h⟩|⟨j,h⟩
 {rw[h,ab,Zz a (gb e) g];rfl};rw[h,ab,HT j];rfl
def QQ(l:List Nm)(id:Tx)(b:l.length<=4294967296):xK (l,id,())=aa (BA l id,()):=by
 unfold xK;rcases eR (f:=rm (l,_)) l (λi=>((0,i,()),id,())) (λ_ x=>decide (x.1=id)) (λi x=>(1,(i,i,()),id,())) _ b (λi x a c d=>by unfold rm;rw[aq c,aj,au a,ab,di,d];by_cases h:x.1=id<;>simp[bA,h]) (by unfold rm;rw[aw];rfl) with ⟨i,x,a,e,g,h⟩|⟨j,h⟩
 {rw[h,Zz a (gb e) g];rfl};rw[h,HT j];rfl
def EE(l:List Tx)(s:Tx)(c:l.length<=4294967296):bJ (l,s,())=aa (decide<|s∈l,()):=by
 unfold bJ eT;rcases eR (f:=bX (l,s,())) l (λi=>((0,i,()),())) (λ_ x=>decide (x=s)) (λi x=>(1,(i,i,()),())) _ c (λi x a b d=>by unfold bX;rw[aq b,aj,au a,ab,di,d];by_cases h:x=s;{simp[bA,h]};have g:¬s=x:=λe=>h e.symm;simp[bA,h,g]) (by unfold bX;rw[aw];rfl) with ⟨i,x,a,j,n,h⟩|⟨k,h⟩
 .rw[h];have:s∈l:=by rw[<-gb j];exact bp.2 ⟨i,a⟩
  rw[cT this];show aa (cm 0 i,())=_;rw[bL ai]
 rw[h];have:s∉l:=λm=>by obtain⟨i,b⟩:=bp.1 m;have:=k i s b;simp at this
 simp[this,cF,ao,ae,cm]
def Small(l:List Nm):Prop:=l.length<=4294967296/\∀x∈l,x.2.1.length<=4294967296
end Go.Ge
