import Derived.Test.YtcebnmppipejfaaGreatDoorPlA
set_option linter.unusedSectionVars false
set_option linter.unusedVariables false
set_option linter.unusedSimpArgs false
set_option linter.defProp false
noncomputable section
open Option renaming some->aa,none->af
open Sum renaming inl->aG,inr->aH
open Go.IntKind (i64)
namespace Go.Ge
variable [Lp]
set_option maxRecDepth 100000
abbrev dG:=(Sb×Int×Int×Sb×Sb×al)
abbrev nJ:=((Sb×Int×Int×Int×Int×Int×Int×Sb×al)×Sb×al)
abbrev Ex:=((Sb×al)⊕((Sb×al)⊕(al⊕((dG×al)⊕al))))
abbrev K3:=((List dG)×(List dG)×Int×Sb×Int×al)
abbrev QE:=(Bool×Int×al)
abbrev anP:=(Sb×Int×Int×Int×Int×Int×Int×Sb×al)
abbrev K4:=((List dG)×Int×(List dG)×Int×al)
abbrev K5:=(Sb×Bool×Int×al)
abbrev acp:=((List dG)×(List dG)×Int×Int×al)
abbrev qj:=((List dG)×Int×al)
abbrev WD:=(Sb×(List nJ)×Bool×al×al)
abbrev WE:=(Nat×QE×al)
abbrev ap9:=(Bool×(List dG)×Int×al)
abbrev aqa:=((Sb×al)⊕(al⊕((dG×al)⊕al)))
abbrev FR:=(bj×(Int×(Int×(bj×(bj×al)))))
abbrev WG:=((List Ex)×Bool×al×Int×al)
abbrev WH:=(Bool×Sb×Int×al)
abbrev WI:=(QE×al)
abbrev OD:=(Sb×al)
abbrev WJ:=(al×Sb×Int×al)
def hS(c:(List Sb)×al)(a:WJ×(List dG)×al):Option ((WJ×(List dG)×al)⊕(WJ×(List dG)×al)) :=
 cf (ao (ba a.1.2.2.1<|len c.1)
 (ae (idx c.1 a.1.2.2.1) λd=>ae (pB (a.1.2.1,d,())) λb=>ao (fits<|plus (len a.2.1)<|len ([(b.1,(2:Int),(0:Int),([]:bj),([]:bj),())]:List dG))
 (aa<|aG (((),b.1,aC i64 a.1.2.2.1 1,()),app a.2.1 [(b.1,(2:Int),(0:Int),([]:bj),([]:bj),())],())) af)
 (aa<|aH (0,((),a.1.2.1,a.1.2.2.1,()),a.2.1,())))
def ez(x:dG×al):Option (Bool×al) :=
 ae (gn (x.1.1,())) (λb=>ae (fo (b.1,())) λc=>ae (Loop (hS c) (((),[],0,()),[],())) λa=>ao (nt<|bA x.1.1 [])
 (ao (fits<|plus (len a.2.1)<|len [x.1])
 (ae (ew (app a.2.1 ([x.1]:List dG),())) λd=>aa (aR d.1 0,())) af)
 (aa (false,())))
def mO(x:Sb×al):Option (Bool×al) :=
 ae (ao (nt<|bA x.1 [])
 (ae (ez ((x.1,2,0,[],[],()),())) λa=>aa a.1) (aa true)) (λa=>aa (a,()))
def jr(x:OD×(List dG)×al):Option ((List dG)×al) :=ae (vq (x.2.1,x.1.1,())) (λa=>aa (a.1,()))
def xg(x:OD×(List dG)×al):Option qj :=aa (x.2.1,0,())
def gL(x:OD×(List dG)×al):Option ((List dG)×al) :=ae (xE (x.2.1,x.1.1,())) (λa=>aa (a.1,()))
def uB(x:OD×(List dG)×al):Option qj :=aa (x.2.1,0,())
def uC(x:al×(List dG)×al):Option ((List dG)×al) :=aa (x.2.1,())
def xh(x:al×(List dG)×al):Option qj :=aa (x.2.1,0,())
def uD(x:(dG×al)×(List dG)×al):Option ((List dG)×al) :=aa (x.2.1,())
def fA(d:(List Sb)×al)(a:K3×al):Option ((K3×al)⊕(Nat×K3×al)) :=
 ao (ba a.1.2.2.2.2.1<|len d.1) (ae (idx d.1 a.1.2.2.2.2.1) λf=>ae (pB (a.1.2.2.2.1,f,())) λb=>ae (zO (a.1.1,b.1,())) λe=>ao (ao e.2.1
 (aR e.1.2.1 2) false)
 (aa<|aG ((a.1.1,a.1.2.1,a.1.2.2.1,b.1,aC i64 a.1.2.2.2.2.1 1,()),())) (ae (uO (a.1.1,(b.1,2,493,[],[],()),())) λc=>ao (nt<|aR c.2.1 0)
 (aa<|aH (1,(a.1.1,[],c.2.1,b.1,a.1.2.2.2.2.1,()),())) (aa<|aG ((c.1,a.1.2.1,a.1.2.2.1,b.1,aC i64 a.1.2.2.2.2.1 1,()),()))))
 (aa<|aH (0,(a.1.1,a.1.2.1,a.1.2.2.1,a.1.2.2.2.1,a.1.2.2.2.2.1,()),()))
def kM(x:(dG×al)×(List dG)×al):Option qj :=
 ae (gn (x.1.1.1,())) (λc=>ae (fo (c.1,())) λd=>ae (Loop (fA d) ((x.2.1,[],0,[],0,()),())) λa=>ao (cF a.1 0)
 (ae (uO (a.2.1.1,x.1.1,())) λb=>aa (b.1,b.2.1,())) (aa (a.2.1.2.1,a.2.1.2.2.1,())))
def tu(x:nJ×al):Option (Ex×Bool×al) :=
 ae (qy (x.1.1.1,())) (λb=>ao (nt<|aR b.2.1 0)
 (aa ((aH<|aH<|aH<|aH ()),false,())) (ae (gn (b.1,())) λc=>ae (tl (c.2.1,())) λd=>ao (aR d.1 1)
 (ae (pB (c.1,d.2.1,())) λa=>ae (ao (ao (aR x.1.1.2.1 1)
 (bA x.1.2.1 []) false)
 (ae (mO (a.1,())) λe=>aa e.1) (aa false)) λe=>aa ((aG (a.1,())),e,()))
 (ao (aR d.1 2)
 (ae (ao (ao (aR x.1.1.2.1 1)
 (bA x.1.2.1 []) false)
 (ae (mO (c.1,())) λa=>aa a.1) (aa false)) λa=>aa ((aH<|aG (c.1,())),a,()))
 (ao (aR d.1 3)
 (aa ((aH<|aH<|aH<|aH ()),false,())) (ao (ao (bA b.1 [])
 (aR x.1.1.2.1 2) false)
 (aa ((aH<|aH<|aG ()),true,())) (ae (ez ((b.1,x.1.1.2.1,x.1.1.2.2.1,x.1.2.1,x.1.1.2.2.2.2.2.2.2.1,()),())) λa=>aa ((aH<|aH<|aH<|aG ((b.1,x.1.1.2.1,x.1.1.2.2.1,x.1.2.1,x.1.1.2.2.2.2.2.2.2.1,()),())),a.1,())))))))
def mg(x:(List nJ)×al)(a:WG×(List Ex)×al):Option ((WG×(List Ex)×al)⊕(Nat×WG×(List Ex)×al)) :=
 ao (ba a.1.2.2.2.1<|len x.1) (ae (idx x.1 a.1.2.2.2.1) λc=>ae (tu (c,())) λb=>ao (nt b.2.1)
 (aa<|aH (1,([],false,(),a.1.2.2.2.1,()),a.2.1,())) (ao (fits<|plus (len a.2.1)<|len [b.1])
 (aa<|aG ((a.1.1,a.1.2.1,(),aC i64 a.1.2.2.2.1 1,()),app a.2.1 [b.1],())) af))
 (aa<|aH (0,(a.1.1,a.1.2.1,(),a.1.2.2.2.1,()),a.2.1,()))
def mP(x:(List nJ)×al):Option ((List Ex)×Bool×al) :=
 ae (Loop (mg x) (([],false,(),0,()),[],())) (λa=>ao (cF a.1 0)
 (aa (a.2.2.1,true,())) (aa (a.2.1.1,a.2.1.2.1,())))
def xG(x:(((bj×al)⊕((bj×al)⊕(al⊕((FR×al)⊕al))))×((List FR)×al))):Option ((List FR)×al) :=(λz=>pick (λy=>jr (y,x.2)) (λz=>pick (λy=>gL (y,x.2)) (λz=>pick (λy=>uC (y,x.2)) (λz=>pick (λy=>uD (y,x.2)) (λ_=>af) z) z) z) z) x.1
def Cq(x:(((bj×al)⊕((bj×al)⊕(al⊕((FR×al)⊕al))))×((List FR)×al))):Option ((List FR)×(Int×al)) :=(λz=>pick (λy=>xg (y,x.2)) (λz=>pick (λy=>uB (y,x.2)) (λz=>pick (λy=>xh (y,x.2)) (λz=>pick (λy=>kM (y,x.2)) (λ_=>af) z) z) z) z) x.1
def lA(b:(List Ex)×Bool×al)(a:qj×al):Option ((qj×al)⊕(qj×al)) :=
 cf (ao (ba a.1.2.1<|len b.1)
 (ae (idx b.1 a.1.2.1) λc=>ae (xG (c,a.1.1,())) λd=>aa (aG ((d.1,aC i64 a.1.2.1 1,()),()))) (aa<|aH (0,(a.1.1,a.1.2.1,()),())))
def lB(c:(List Ex)×Bool×al)(a:K4×al):Option ((K4×al)⊕(Nat×K4×al)) :=
 ao (ba a.1.2.2.2.1<|len c.1) (ae (idx c.1 a.1.2.2.2.1) λd=>ae (Cq (d,a.1.2.2.1,())) λb=>ao (nt<|aR b.2.1 0)
 (aa<|aH (1,([],b.2.1,a.1.2.2.1,a.1.2.2.2.1,()),())) (aa<|aG ((a.1.1,a.1.2.1,b.1,aC i64 a.1.2.2.2.1 1,()),())))
 (aa<|aH (0,(a.1.1,a.1.2.1,a.1.2.2.1,a.1.2.2.2.1,()),()))
def vt(x:(List dG)×(List nJ)×al):Option qj :=
 ae (ew (x.1,())) (λc=>ao (nt<|aR c.1 0)
 (aa ([],1,())) (ae (mP (x.2.1,())) λb=>ao (nt b.2.1)
 (aa ([],10,())) (ao (fits<|plus (len ([]:List dG))<|len x.1)
 (ae (Loop (lA b) ((app [] x.1,0,()),())) λd=>ae (Loop (lB b) (([],0,d.1.1,0,()),())) λa=>ao (cF a.1 0)
 (aa (a.2.1.2.2.1,0,())) (aa (a.2.1.1,a.2.1.2.1,())))
 af)))
def gX(x:Sb×al):Option (Int×al) :=
 ae (eY (x.1,())) (λa=>ae (mP (a.1,())) λb=>ao (ao (nt<|nt<|aR a.2.1 0)
 (nt b.2.1) true)
 (aa (10,())) (aa (0,())))
def tw(x:nJ×Sb×al):Option (dG×al) :=aa ((x.2.1,x.1.1.2.1,x.1.1.2.2.1,x.1.2.1,x.1.1.2.2.2.2.2.2.2.1,()),())
def gM(c:(List Sb)×al)(a:WH×al):Option ((WH×al)⊕(Nat×WH×al)) :=
 ao (ba a.1.2.2.1<|len c.1) (ae (idx c.1 a.1.2.2.1) λd=>ae (pC (a.1.2.1,d,())) λb=>ae (lV ((b.1,2,0,[],[],()),())) λe=>ao (nt e.1)
 (aa<|aH (1,(false,b.1,a.1.2.2.1,()),())) (aa<|aG ((a.1.1,b.1,aC i64 a.1.2.2.1 1,()),())))
 (aa<|aH (0,(a.1.1,a.1.2.1,a.1.2.2.1,()),()))
def lC(x:Sb×al):Option (Bool×al) :=
 ae (eo (x.1,())) (λb=>ae (Loop (gM b) ((false,[],0,()),())) λa=>ao (cF a.1 0)
 (aa (nt<|bA x.1 [],())) (aa (a.2.1.1,())))
def pF(x:nJ×al):Option (Int×Sb×Bool×al) :=
 ae (vm (x.1.1.1,())) (λc=>ao (nt<|aR c.2.1 0)
 (aa (0,[],false,())) (ae (kr (c.1,())) λd=>ae (tn (d.2.1,())) λb=>ao (aR b.1 1)
 (ae (pC (d.1,b.2.1,())) λa=>ae (ao (ao (aR x.1.1.2.1 1)
 (bA x.1.2.1 []) false)
 (ae (lC (a.1,())) λe=>aa e.1) (aa false)) λe=>aa (b.1,a.1,e,()))
 (ao (aR b.1 2)
 (ae (ao (ao (aR x.1.1.2.1 1)
 (bA x.1.2.1 []) false)
 (ae (ao (nt<|bA d.1 [])
 (ae (lC (d.1,())) λa=>aa a.1) (aa true)) λa=>aa a)
 (aa false)) λa=>aa (b.1,d.1,a,()))
 (ao (aR b.1 0)
 (ae (ao (nt<|ao (bA c.1 [])
 (aR x.1.1.2.1 2) false)
 (ae (tw (x.1,c.1,())) λa=>ae (lV (a.1,())) λe=>ae (ao e.1
 (ae (lC (c.1,())) λf=>aa f.1) (aa false)) λf=>aa f)
 (aa true)) λa=>aa (b.1,c.1,a,()))
 (aa (0,[],false,()))))))
def pG(x:(List nJ)×al)(a:QE×al):Option (WI⊕WE) :=
 ao (ba a.1.2.1<|len x.1) (ae (idx x.1 a.1.2.1) λb=>ae (pF (b,())) λc=>ao (nt c.2.2.1)
 (aa<|aH (1,(false,a.1.2.1,()),())) (aa<|aG ((a.1.1,aC i64 a.1.2.1 1,()),())))
 (aa<|aH (0,(a.1.1,a.1.2.1,()),()))
def qB(x:(List nJ)×al):Option (Bool×al) :=
 ae (Loop (pG x) ((false,0,()),())) (λa=>ao (cF a.1 0)
 (aa (true,())) (aa (a.2.1.1,())))
def mQ(d:(List Sb)×al)(a:K3×al):Option ((K3×al)⊕(Nat×K3×al)) :=
 ao (ba (aC i64 a.1.2.2.2.2.1 1)<|len d.1) (ae (idx d.1 a.1.2.2.2.2.1) λf=>ae (pC (a.1.2.2.2.1,f,())) λb=>ae (pE (a.1.1,b.1,())) λe=>ao (ao e.2.1
 (aR e.1.2.1 2) false)
 (aa<|aG ((a.1.1,a.1.2.1,a.1.2.2.1,b.1,aC i64 a.1.2.2.2.2.1 1,()),())) (ae (oP (a.1.1,(b.1,2,493,[],[],()),())) λc=>ao (nt<|aR c.2.1 0)
 (aa<|aH (1,(a.1.1,[],c.2.1,b.1,a.1.2.2.2.2.1,()),())) (aa<|aG ((c.1,a.1.2.1,a.1.2.2.1,b.1,aC i64 a.1.2.2.2.2.1 1,()),()))))
 (aa<|aH (0,(a.1.1,a.1.2.1,a.1.2.2.1,a.1.2.2.2.1,a.1.2.2.2.2.1,()),()))
def xH(x:(List dG)×Sb×al):Option qj :=
 ae (eo (x.2.1,())) (λb=>ae (Loop (mQ b) ((x.1,[],0,[],0,()),())) λa=>ao (cF a.1 0)
 (aa (a.2.1.1,0,())) (aa (a.2.1.2.1,a.2.1.2.2.1,())))
def oR(x:(List dG)×(List nJ)×al)(a:qj×al):Option ((qj×al)⊕(qj×al)) :=
 cf (ao (ba a.1.2.1<|len x.2.1)
 (ae (idx x.2.1 a.1.2.1) λd=>ae (pF (d,())) λc=>ae (ao (aR c.1 1)
 (ae (tq (a.1.1,c.2.1,())) λb=>aa ((b.1,()),())) (ae (ao (aR c.1 2)
 (ae (vr (a.1.1,c.2.1,())) λb=>aa ((b.1,()),())) (aa ((a.1.1,()),()))) λb=>aa ((b.1.1,()),()))) λb=>aa (aG ((b.1.1,aC i64 a.1.2.1 1,()),())))
 (aa<|aH (0,(a.1.1,a.1.2.1,()),())))
def oS(x:(List dG)×(List nJ)×al)(a:acp×al):Option ((acp×al)⊕(Nat×acp×al)) :=
 ao (ba a.1.2.2.2.1<|len x.2.1) (ae (idx x.2.1 a.1.2.2.2.1) λe=>ae (pF (e,())) λc=>ao (ao (nt<|nt<|aR c.1 0)
 (bA c.2.1 []) true)
 (aa<|aG ((a.1.1,a.1.2.1,a.1.2.2.1,aC i64 a.1.2.2.2.1 1,()),())) (ae (xH (a.1.1,c.2.1,())) λd=>ao (nt<|aR d.2.1 0)
 (aa<|aH (1,(a.1.1,[],d.2.1,a.1.2.2.2.1,()),())) (ae (idx x.2.1 a.1.2.2.2.1) λf=>ae (tw (f,c.2.1,())) λg=>ae (oP (d.1,g.1,())) λb=>ao (nt<|aR b.2.1 0)
 (aa<|aH (1,(a.1.1,[],b.2.1,a.1.2.2.2.1,()),())) (aa<|aG ((b.1,a.1.2.1,a.1.2.2.1,aC i64 a.1.2.2.2.1 1,()),())))))
 (aa<|aH (0,(a.1.1,a.1.2.1,a.1.2.2.1,a.1.2.2.2.1,()),()))
def zP(x:(List dG)×(List nJ)×al):Option qj :=
 ae (iS (x.1,())) (λb=>ao (nt b.1)
 (aa ([],1,())) (ae (qB (x.2.1,())) λc=>ao (nt c.1)
 (aa ([],10,())) (ae (Loop (oR x) ((x.1,0,()),())) λd=>ae (Loop (oS x) ((d.1.1,[],0,0,()),())) λa=>ao (cF a.1 0)
 (aa (a.2.1.1,0,())) (aa (a.2.1.2.1,a.2.1.2.2.1,())))))
def jF(x:(List dG)×Sb×al):Option qj :=
 ae (eY (x.2.1,())) (λb=>ae (ao (nt<|aR b.2.1 0)
 (ae (ew (x.1,())) λa=>aa (aR a.1 0)) (aa false)) λa=>ao a
 (aa ([],10,())) (ae (vt (x.1,b.1,())) λc=>aa (c.1,c.2.1,())))
def rk(x:Sb×al)(a:QE×al):Option (WI⊕WE) :=
 ao (ba a.1.2.1<|len x.1) (ae (idx x.1 a.1.2.1) λb=>ao (nt<|aR (u8 b) 0)
 (aa<|aH (1,(false,a.1.2.1,()),())) (aa<|aG ((a.1.1,aC i64 a.1.2.1 1,()),())))
 (aa<|aH (0,(a.1.1,a.1.2.1,()),()))
def xI(x:Sb×al):Option (Bool×al) :=
 ae (Loop (rk x) ((false,0,()),())) (λa=>ao (cF a.1 0)
 (aa (aR (len x.1) 512,())) (aa (a.2.1.1,())))
def rl(x:Sb×al)(a:QE×al):Option (WI⊕WE) :=
 ao (ba a.1.2.1<|len x.1) (ae (idx x.1 a.1.2.1) λb=>ao (nt<|aR (u8 b) 0)
 (aa<|aH (1,(false,a.1.2.1,()),())) (aa<|aG ((a.1.1,aC i64 a.1.2.1 1,()),())))
 (aa<|aH (0,(a.1.1,a.1.2.1,()),()))
def xJ(x:Sb×al):Option (Bool×al) :=
 ae (ao (nt<|ba (len x.1) 1024)
 (ao (aR 512 0)
 af (aa<|nt<|aR (fX (len x.1) 512) 0))
 (aa true)) (λb=>ao b (aa (false,())) (ae (Loop (rl x) ((false,0,()),())) λa=>ao (cF a.1 0)
 (aa (true,())) (aa (a.2.1.1,()))))
def nW(x:Sb×al)(a:(Int×al)×al):Option (((Int×al)×al)⊕((Int×al)×al)) :=
 cf (ae (ao (ba a.1.1<|len x.1)
 (ae (idx x.1 a.1.1) λb=>aa (cm 48<|u8 b)) (aa false)) λb=>ae (ao b (ae (idx x.1 a.1.1) λc=>aa (cm (u8 c) 55)) (aa false)) λc=>ao c
 (aa<|aG ((aC i64 a.1.1 1,()),())) (aa<|aH (0,(a.1.1,()),())))
def nX(x:Sb×al)(a:(Int×Int×al)×al):Option (((Int×Int×al)×al)⊕(Nat×(Int×Int×al)×al)) :=
 ao (ba a.1.2.1<|len x.1) (ae (idx x.1 a.1.2.1) λc=>ae (ao (nt<|aR (u8 c) 0)
 (ae (idx x.1 a.1.2.1) λb=>aa (nt<|aR (u8 b) 32)) (aa false)) λb=>ao b
 (aa<|aH (1,((-1),a.1.2.1,()),())) (aa<|aG ((a.1.1,aC i64 a.1.2.1 1,()),())))
 (aa<|aH (0,(a.1.1,a.1.2.1,()),()))
def fB(x:Sb×al):Option (Int×al) :=
 ae (Loop (nW x) ((0,()),())) (λa=>ao (aR a.1.1<|len x.1)
 (aa ((-1),())) (ae (Loop (nX x) ((0,a.1.1,()),())) λb=>ao (cF b.1 0)
 (ao (inside 0 a.1.1<|len x.1)
 (ae (nU (sub x.1 0<|minus a.1.1 0,())) λc=>ao (nt c.2.1)
 (aa ((-1),())) (aa (c.1,())))
 af)
 (aa (b.2.1.1,()))))
def gY(x:Sb×al)(a:K5×al):Option ((K5×al)⊕(Nat×K5×al)) :=
 ao (ba a.1.2.2.1<|len x.1) (ae (idx x.1 a.1.2.2.1) λb=>ao (nt<|aR (u8 b) 0)
 (aa<|aH (1,([],false,a.1.2.2.1,()),())) (aa<|aG ((a.1.1,a.1.2.1,aC i64 a.1.2.2.1 1,()),())))
 (aa<|aH (0,(a.1.1,a.1.2.1,a.1.2.2.1,()),()))
def dI(x:Sb×al)(a:K5×al):Option ((K5×al)⊕(Nat×K5×al)) :=
 ao (ba a.1.2.2.1<|len x.1) (ae (idx x.1 a.1.2.2.1) λc=>ao (aR (u8 c) 0)
 (ae (Loop (gY x) ((a.1.1,a.1.2.1,a.1.2.2.1,()),())) λb=>ao (cF b.1 0)
 (ao (inside 0 a.1.2.2.1<|len x.1)
 (aa<|aH (1,(sub x.1 0<|minus a.1.2.2.1 0,true,a.1.2.2.1,()),())) af)
 (aa<|aH (1,(b.2.1.1,b.2.1.2.1,a.1.2.2.1,()),())))
 (aa<|aG ((a.1.1,a.1.2.1,aC i64 a.1.2.2.1 1,()),())))
 (aa<|aH (0,(a.1.1,a.1.2.1,a.1.2.2.1,()),()))
def pH(x:Sb×al):Option (Sb×Bool×al) :=
 ae (Loop (dI x) (([],false,0,()),())) (λa=>ao (cF a.1 0)
 (aa (x.1,true,())) (aa (a.2.1.1,a.2.1.2.1,())))
def pI(x:Sb×al):Option (anP×Int×al) :=
 ae (ao (nt<|nt<|aR (len x.1) 512)
 (ao (inside 257 265<|len x.1)
 (aa<|nt<|bA (sub x.1 257<|minus 265 257) [117,115,116,97,114,0,48,48]) af)
 (aa true)) (λm=>ae (ao (nt m)
 (ao (inside 148 156<|len x.1)
 (ae (fB (sub x.1 148<|minus 156 148,())) λg=>ae (zN (x.1,())) λd=>aa (nt<|aR g.1 d.1)) af)
 (aa true)) λg=>ao g
 (aa (([],0,0,0,0,0,0,[],()),2,())) (ao (inside 0 100<|len x.1)
 (ae (pH (sub x.1 0<|minus 100 0,())) λd=>ao (inside 157 257<|len x.1)
 (ae (pH (sub x.1 157<|minus 257 157,())) λh=>ao (inside 345 500<|len x.1)
 (ae (pH (sub x.1 345<|minus 500 345,())) λe=>ao (inside 100 108<|len x.1)
 (ae (fB (sub x.1 100<|minus 108 100,())) λi=>ao (inside 108 116<|len x.1)
 (ae (fB (sub x.1 108<|minus 116 108,())) λj=>ao (inside 116 124<|len x.1)
 (ae (fB (sub x.1 116<|minus 124 116,())) λk=>ao (inside 124 136<|len x.1)
 (ae (fB (sub x.1 124<|minus 136 124,())) λl=>ao (inside 136 148<|len x.1)
 (ae (fB (sub x.1 136<|minus 148 136,())) λf=>ae (ao (nt<|bA e.1 [])
 (ao (fits<|plus (len e.1)<|len ([47]:bj))
 (ao (fits<|plus (len<|app e.1 [47])<|len d.1)
 (aa ((),(app (app e.1 [47]) d.1,0,i.1,j.1,k.1,l.1,f.1,[],()),())) af)
 af)
 (aa ((),(d.1,0,i.1,j.1,k.1,l.1,f.1,[],()),()))) λa=>ae (idx x.1 156) λb=>ae (ao (nt<|ao (nt<|ao (nt<|nt d.2.1)
 (nt h.2.1) true)
 (nt e.2.1) true)
 (ae (v7 (((ao (((ao (aR (u8 b) 48)
 ((aR (u8 b) 48,()),()) ((aR (u8 b) 0,()),())).1).1)
 ((),(a.2.1.1,1,a.2.1.2.2),()) ((),((ao (aR (u8 b) 53)
 ((),(a.2.1.1,2,a.2.1.2.2),()) ((),((ao (aR (u8 b) 50)
 ((),(a.2.1.1,3,a.2.1.2.2.1,a.2.1.2.2.2.1,a.2.1.2.2.2.2.1,a.2.1.2.2.2.2.2.1,a.2.1.2.2.2.2.2.2.1,h.1,a.2.1.2.2.2.2.2.2.2.2),()) ((),a.2.1,())).2).1,())).2).1,())).2).1,256,())) λc=>aa (nt c.1))
 (aa true)) λc=>ao c
 (aa (([],0,0,0,0,0,0,[],()),2,())) (aa (((ao (((ao (aR (u8 b) 48)
 ((aR (u8 b) 48,()),()) ((aR (u8 b) 0,()),())).1).1)
 ((),(a.2.1.1,1,a.2.1.2.2),()) ((),((ao (aR (u8 b) 53)
 ((),(a.2.1.1,2,a.2.1.2.2),()) ((),((ao (aR (u8 b) 50)
 ((),(a.2.1.1,3,a.2.1.2.2.1,a.2.1.2.2.2.1,a.2.1.2.2.2.2.1,a.2.1.2.2.2.2.2.1,a.2.1.2.2.2.2.2.2.1,h.1,a.2.1.2.2.2.2.2.2.2.2),()) ((),a.2.1,())).2).1,())).2).1,())).2).1,0,())))
 af)
 af)
 af)
 af)
 af)
 af)
 af)
 af))
def eA(a:WD×(List nJ)×al):Option ((WD×(List nJ)×al)⊕(Nat×WD×(List nJ)×al)) :=
 ao (cm 512<|len a.1.1) (ao (inside 0 512<|len a.1.1)
 (ae (xI (sub a.1.1 0<|minus 512 0,())) λe=>ao e.1
 (ae (xJ (a.1.1,())) λb=>aa (aH (1,(a.1.1,a.2.1,b.1,(),()),a.2.1,()))) (ao (inside 0 512<|len a.1.1)
 (ae (pI (sub a.1.1 0<|minus 512 0,())) λb=>ae (ao (nt<|ao (nt<|nt<|aR b.2.1 0)
 (ba 8192 b.1.2.2.2.2.2.1) true)
 (ae (nh (b.1.2.2.2.2.2.1,())) λc=>aa (ba (len a.1.1)<|aC i64 512 c.1)) (aa true)) λc=>ao (ao (nt c) (cm 64<|len a.2.1) true)
 (aa<|aH (1,(a.1.1,a.2.1,false,(),()),a.2.1,())) (ao (inside 512 (aC i64 512 b.1.2.2.2.2.2.1)<|len a.1.1)
 (ao (fits<|plus (len a.2.1)<|len ([(b.1,sub a.1.1 (512:Int)<|minus (aC i64 512 b.1.2.2.2.2.2.1) 512,())]:List nJ))
 (ae (nh (b.1.2.2.2.2.2.1,())) λd=>ao (inside (aC i64 512 d.1) (len a.1.1)<|len a.1.1)
 (aa<|aG ((sub a.1.1 (aC i64 512 d.1)<|minus (len a.1.1)<|aC i64 512 d.1,a.1.2.1,a.1.2.2.1,(),()),app a.2.1 [(b.1,sub a.1.1 (512:Int)<|minus (aC i64 512 b.1.2.2.2.2.2.1) 512,())],())) af)
 af)
 af))
 af))
 af)
 (aa<|aH (0,(a.1.1,a.1.2.1,a.1.2.2.1,(),()),a.2.1,()))
def vu(x:Sb×al):Option ((List nJ)×Bool×al) :=
 ao (ba 8192<|len x.1) (aa ([],false,())) (ae (Loop (eA) ((x.1,[],false,(),()),[],())) λa=>ao (cF a.1 0)
 (aa (a.2.2.1,false,())) (aa (a.2.1.2.1,a.2.1.2.2.1,())))
def mh(x:Sb×al):Option ((List nJ)×Int×al) :=
 ae (vu (x.1,())) (λa=>ao (nt a.2.1)
 (aa ([],10,())) (aa (a.1,0,())))
def ks(x:Sb×al):Option (Int×al) :=
 ae (mh (x.1,())) (λb=>ae (ao (nt<|nt<|aR b.2.1 0)
 (ae (qB (b.1,())) λa=>aa (nt a.1)) (aa true)) λa=>ao a
 (aa (10,())) (aa (0,())))
def qC(x:(List dG)×Sb×al):Option qj :=
 ae (iS (x.1,())) (λc=>ao (nt c.1)
 (aa ([],1,())) (ae (ks (x.2.1,())) λa=>ao (nt<|aR a.1 0)
 (aa ([],a.1,())) (ae (mh (x.2.1,())) λd=>ae (zP (x.1,d.1,())) λb=>aa (b.1,b.2.1,()))))
def gi(x:(List Sb)×al)(a:K4×al):Option ((K4×al)⊕(Nat×K4×al)) :=
 ao (ba a.1.2.2.2.1<|len x.1) (ae (idx x.1 a.1.2.2.2.1) λc=>ae (jF (a.1.2.2.1,c,())) λb=>ao (nt<|aR b.2.1 0)
 (aa<|aH (1,([],b.2.1,a.1.2.2.1,a.1.2.2.2.1,()),())) (aa<|aG ((a.1.1,a.1.2.1,b.1,aC i64 a.1.2.2.2.1 1,()),())))
 (aa<|aH (0,(a.1.1,a.1.2.1,a.1.2.2.1,a.1.2.2.2.1,()),()))
def qD(x:(List Sb)×al):Option qj :=
 ae (Loop (gi x) (([],0,[],0,()),())) (λa=>ao (cF a.1 0)
 (aa (a.2.1.2.2.1,0,())) (aa (a.2.1.1,a.2.1.2.1,())))
end Go.Ge
namespace Go.Ge
variable [Lp]
set_option maxRecDepth 100000
abbrev MA:=(Int×(List<|Sb×Sb×(List Sb)×Sb×Int×Int×Bool×al)×(List<|Sb×(List Sb)×Sb×Sb×(List<|Sb×Sb×Sb×al)×al)×(List<|Sb×(List Sb)×Sb×Sb×Sb×(List<|Sb×Sb×Sb×al)×al)×al)
abbrev tz:=(List<|Sb×(List Sb)×al)
abbrev Zs:=(((Bool×Int×al)×al)⊕(Nat×(Bool×Int×al)×al))
abbrev xj:=(Int×Int×al)
abbrev UT:=((Int×al)×al×tz×al)
abbrev UU:=((al×Int×al)×tz×al)
abbrev ael:=((xj×al)⊕(Nat×xj×al))
def dY(l:List bj)(x:al):Option (List bj):=bif fits (len l) then aa (xf l) else af
def gj(l:List bj)(x:al):Option (List bj):=aa (Lib.compact (α:=bj) l)
def kN(x:(List Sb)×al)(a:(Bool×Int×al)×al):Option Zs :=
 ao (ao (ba a.1.2.1<|len x.1)
 (ba a.1.2.1 8) false)
 (ae (idx x.1 a.1.2.1) λb=>ao (ba 100<|len b)
 (aa<|aH (1,(false,a.1.2.1,()),())) (aa<|aG ((a.1.1,aC i64 a.1.2.1 1,()),())))
 (aa<|aH (0,(a.1.1,a.1.2.1,()),()))
def pJ(x:(List Sb)×al):Option (Bool×al) :=
 ae (Loop (kN x) ((false,0,()),())) (λa=>ao (cF a.1 0)
 (aa (cm (len x.1) 8,())) (aa (a.2.1.1,())))
def bd(x:(List Sb)×al):Option ((List Sb)×al) :=bif fits (len x.1) then aa (x.1,()) else af
def mR(x:Sb×al):Option (Bool×al) :=
 ae (ao (ao (cm 1<|len x.1)
 (cm (len x.1) 32) false)
 (ae (iQ (x.1,[97,98,99,100,101,102,103,104,105,106,107,108,109,110,111,112,113,114,115,116,117,118,119,120,121,122,48,49,50,51,52,53,54,55,56,57,46,95,45],())) λa=>aa (bA a.1 [])) (aa false)) (λa=>aa (a,()))
def pK(x:(List Sb)×al)(a:xj×al):Option ael :=
 ao (ba a.1.2.1<|len x.1) (ae (idx x.1 a.1.2.1) λb=>ae (mR (b,())) λc=>ao (nt c.1)
 (aa<|aH (1,(a.1.2.1,a.1.2.1,()),())) (aa<|aG ((a.1.1,aC i64 a.1.2.1 1,()),())))
 (aa<|aH (0,(a.1.1,a.1.2.1,()),()))
def gp(x:(List Sb)×al):Option (Int×al) :=
 ao (fits<|len x.1) (ae (dY x.1 ()) λc=>ae (gj c ()) λa=>ae (Loop (pK x) ((0,0,()),())) λb=>ao (cF b.1 0)
 (ao (ao (nt<|ao (nt<|ba 4<|len x.1)
 (ba (len a)<|len x.1) true)
 (cm 0<|-1) true)
 (aa (1,())) (aa (0,())))
 (ao (ao (nt<|ao (nt<|ba 4<|len x.1)
 (ba (len a)<|len x.1) true)
 (cm 0 b.2.1.1) true)
 (aa (1,())) (aa (0,()))))
 af
def rm(x:tz×Sb×al)(a:xj×Sb×al):Option ((xj×Sb×al)⊕(Nat×xj×Sb×al)) :=
 ao (ba a.1.2.1<|len x.1) (ae (idx x.1 a.1.2.1) λb=>ao (bA b.1 a.2.1)
 (aa<|aH (1,(a.1.2.1,a.1.2.1,()),a.2.1,())) (aa<|aG ((a.1.1,aC i64 a.1.2.1 1,()),a.2.1,())))
 (aa<|aH (0,(a.1.1,a.1.2.1,()),a.2.1,()))
def xK(x:tz×Sb×al):Option (Int×al) :=
 ae (Loop (rm x) ((0,0,()),x.2.1,())) (λa=>ao (cF a.1 0)
 (aa ((-1),())) (aa (a.2.1.1,())))
def jG(b:Sb×(List Sb)×al)(a:xj×(List Sb)×al):Option ((xj×(List Sb)×al)⊕(Nat×xj×(List Sb)×al)) :=
 ao (ba a.1.2.1<|len b.2.1) (ae (idx b.2.1 a.1.2.1) λc=>ae (bJ (a.2.1,c,())) λd=>ao d.1
 (aa<|aH (1,(a.1.2.1,a.1.2.1,()),a.2.1,())) (aa<|aG ((a.1.1,aC i64 a.1.2.1 1,()),a.2.1,())))
 (aa<|aH (0,(a.1.1,a.1.2.1,()),a.2.1,()))
def rn(x:tz×Sb×(List Sb)×al)(c:Int×al)(a:xj×(List Sb)×al):Option ((xj×(List Sb)×al)⊕(Nat×xj×(List Sb)×al)) :=
 ao (ba a.1.2.1<|len x.1) (ae (idx x.1 a.1.2.1) λd=>ao (nt<|aR a.1.2.1 c.1)
 (ae (Loop (jG d) ((0,0,()),a.2.1,())) λb=>ao (cF b.1 0)
 (ao (cm 0<|-1)
 (aa<|aH (1,(8,a.1.2.1,()),b.2.2.1,())) (aa<|aG ((a.1.1,aC i64 a.1.2.1 1,()),b.2.2.1,())))
 (ao (cm 0 b.2.1.1)
 (aa<|aH (1,(8,a.1.2.1,()),b.2.2.1,())) (aa<|aG ((a.1.1,aC i64 a.1.2.1 1,()),b.2.2.1,()))))
 (aa<|aG ((a.1.1,aC i64 a.1.2.1 1,()),a.2.1,())))
 (aa<|aH (0,(a.1.1,a.1.2.1,()),a.2.1,()))
def ig(x:tz×Sb×(List Sb)×al):Option (Int×al) :=
 ae (gp (x.2.2.1,())) (λa=>ao (nt<|aR a.1 0)
 (aa (a.1,())) (ae (xK (x.1,x.2.1,())) λc=>ae (Loop (rn x c) ((0,0,()),x.2.2.1,())) λb=>ao (cF b.1 0)
 (aa (0,())) (aa (b.2.1.1,()))))
def vv(x:Int×MA×al)(a:(Int×al)×al×tz×al):Option (UT⊕UT) :=
 cf (ao (ba a.1.1<|len x.2.1.2.2.2.1)
 (ae (idx x.2.1.2.2.2.1 a.1.1) λb=>ae (bd (b.2.1,())) λc=>ao (fits<|plus (len a.2.2.1)<|len [(b.1,c.1,())])
 (aa<|aG ((aC i64 a.1.1 1,()),(),app a.2.2.1 [(b.1,c.1,())],())) af)
 (aa<|aH (0,(a.1.1,()),(),a.2.2.1,())))
def vw(x:Int×MA×al)(a:(Int×al)×al×tz×al):Option (UT⊕UT) :=
 cf (ao (ba a.1.1<|len x.2.1.2.2.1)
 (ae (idx x.2.1.2.2.1 a.1.1) λb=>ae (bd (b.2.1,())) λc=>ao (fits<|plus (len a.2.2.1)<|len [(b.1,c.1,())])
 (aa<|aG ((aC i64 a.1.1 1,()),(),app a.2.2.1 [(b.1,c.1,())],())) af)
 (aa<|aH (0,(a.1.1,()),(),a.2.2.1,())))
def vx(x:Int×MA×al)(a:(Int×al)×al×tz×al):Option (UT⊕UT) :=
 cf (ao (ba a.1.1<|len x.2.1.2.1)
 (ae (idx x.2.1.2.1 a.1.1) λb=>ae (ao b.2.2.2.2.2.2.1
 (ae (bd (b.2.2.1,())) λc=>ao (fits<|plus (len a.2.2.1)<|len [(b.1,c.1,())])
 (aa ((),b,(),app a.2.2.1 [(b.1,c.1,())],())) af)
 (aa ((),b,(),a.2.2.1,()))) λc=>aa (aG ((aC i64 a.1.1 1,()),(),c.2.2.2.1,())))
 (aa<|aH (0,(a.1.1,()),(),a.2.2.1,())))
def rR(x:Int×MA×al):Option (tz×al) :=
 ae (ao (aR x.1 1)
 (ae (Loop (vv x) ((0,()),(),[],())) λa=>aa ((),(),a.2.2.1,())) (ae (ao (aR x.1 2)
 (ae (Loop (vw x) ((0,()),(),[],())) λa=>aa ((),(),a.2.2.1,())) (ae (ao (aR x.1 3)
 (ae (Loop (vx x) ((0,()),(),[],())) λa=>aa ((),(),a.2.2.1,())) (aa ((),(),[],()))) λa=>aa ((),(),a.2.2.1,()))) λa=>aa ((),(),a.2.2.1,()))) (λa=>aa (a.2.2.1,()))
def nY(x:Sb×al)(a:(Bool×Int×al)×al):Option Zs :=
 ao (ba a.1.2.1<|len x.1) (ae (idx x.1 a.1.2.1) λb=>ao (ao (ao (ao (ao (ao (nt<|ba (u8 b) 97)
 (ba 122<|u8 b) true)
 (ao (nt<|ba (u8 b) 48)
 (ba 57<|u8 b) true)
 false)
 (nt<|aR (u8 b) 46) false)
 (nt<|aR (u8 b) 95) false)
 (nt<|aR (u8 b) 45) false)
 (aa<|aH (1,(false,a.1.2.1,()),())) (aa<|aG ((a.1.1,aC i64 a.1.2.1 1,()),())))
 (aa<|aH (0,(a.1.1,a.1.2.1,()),()))
def lD(x:Sb×al):Option (Bool×al) :=
 ae (Loop (nY x) ((false,0,()),())) (λa=>ao (cF a.1 0)
 (aa (ao (cm 1<|len x.1)
 (cm (len x.1) 32) false,()))
 (aa (a.2.1.1,())))
def iJ(x:(List Sb)×al)(b:(Bool×Int×al)×al)(a:(Bool×Int×al)×al):Option Zs :=
 ao (ba a.1.2.1 b.1.2.1) (ae (idx x.1 a.1.2.1) λc=>ae (idx x.1 b.1.2.1) λd=>ao (bA c d)
 (aa<|aH (1,(false,a.1.2.1,()),())) (aa<|aG ((a.1.1,aC i64 a.1.2.1 1,()),())))
 (aa<|aH (0,(a.1.1,a.1.2.1,()),()))
def pL(x:(List Sb)×al)(a:(Bool×Int×al)×al):Option Zs :=
 ao (ba a.1.2.1<|len x.1) (ae (idx x.1 a.1.2.1) λc=>ae (lD (c,())) λd=>ao (nt d.1)
 (aa<|aH (1,(false,a.1.2.1,()),())) (ae (Loop (iJ x a) ((a.1.1,0,()),())) λb=>ao (cF b.1 0)
 (aa<|aG ((b.2.1.1,aC i64 a.1.2.1 1,()),())) (aa<|aH (1,(b.2.1.1,a.1.2.1,()),()))))
 (aa<|aH (0,(a.1.1,a.1.2.1,()),()))
def kt(x:(List Sb)×al):Option (Bool×al) :=
 ae (Loop (pL x) ((false,0,()),())) (λa=>ao (cF a.1 0)
 (aa (cm (len x.1) 4,())) (aa (a.2.1.1,())))
def gq(x:(List Sb)×al):Option (Int×al) :=
 ae (kt (x.1,())) (λa=>ao (nt a.1)
 (aa (1,())) (aa (0,())))
def rp(x:tz×Sb×al)(a:xj×al):Option ael :=
 ao (ba a.1.2.1<|len x.1) (ae (idx x.1 a.1.2.1) λb=>ao (bA b.1 x.2.1)
 (aa<|aH (1,(a.1.2.1,a.1.2.1,()),())) (aa<|aG ((a.1.1,aC i64 a.1.2.1 1,()),())))
 (aa<|aH (0,(a.1.1,a.1.2.1,()),()))
def xL(x:tz×Sb×al):Option (Int×al) :=
 ae (Loop (rp x) ((0,0,()),())) (λa=>ao (cF a.1 0)
 (aa ((-1),())) (aa (a.2.1.1,())))
def tB(x:(List Sb)×Sb×al)(a:(Bool×Int×al)×al):Option Zs :=
 ao (ba a.1.2.1<|len x.1) (ae (idx x.1 a.1.2.1) λb=>ao (bA b x.2.1)
 (aa<|aH (1,(true,a.1.2.1,()),())) (aa<|aG ((a.1.1,aC i64 a.1.2.1 1,()),())))
 (aa<|aH (0,(a.1.1,a.1.2.1,()),()))
def zQ(x:(List Sb)×Sb×al):Option (Bool×al) :=
 ae (Loop (tB x) ((false,0,()),())) (λa=>ao (cF a.1 0)
 (aa (false,())) (aa (a.2.1.1,())))
def jH(x:tz×Sb×(List Sb)×al)(c:Int×al)(b:xj×al)(a:xj×al):Option ael :=
 ao (ba a.1.2.1<|len x.2.2.1) (ao (nt<|aR b.1.2.1 c.1)
 (ae (idx x.1 b.1.2.1) λd=>ae (idx x.2.2.1 a.1.2.1) λe=>ae (zQ (d.2.1,e,())) λf=>ao f.1
 (aa<|aH (1,(8,a.1.2.1,()),())) (aa<|aG ((a.1.1,aC i64 a.1.2.1 1,()),())))
 (aa<|aG ((a.1.1,aC i64 a.1.2.1 1,()),())))
 (aa<|aH (0,(a.1.1,a.1.2.1,()),()))
def rq(x:tz×Sb×(List Sb)×al)(c:Int×al)(a:xj×al):Option ael :=
 ao (ba a.1.2.1<|len x.1) (ae (Loop (jH x c a) ((a.1.1,0,()),())) λb=>ao (cF b.1 0)
 (aa<|aG ((b.2.1.1,aC i64 a.1.2.1 1,()),())) (aa<|aH (1,(b.2.1.1,a.1.2.1,()),())))
 (aa<|aH (0,(a.1.1,a.1.2.1,()),()))
def mi(x:tz×Sb×(List Sb)×al):Option (Int×al) :=
 ae (gq (x.2.2.1,())) (λa=>ao (nt<|aR a.1 0)
 (aa (a.1,())) (ae (xL (x.1,x.2.1,())) λc=>ae (Loop (rq x c) ((0,0,()),())) λb=>ao (cF b.1 0)
 (aa (0,())) (aa (b.2.1.1,()))))
def vy(x:Int×MA×al)(a:(al×Int×al)×tz×al):Option (UU⊕UU) :=
 cf (ao (ba a.1.2.1<|len x.2.1.2.2.2.1)
 (ae (idx x.2.1.2.2.2.1 a.1.2.1) λb=>ae (idx x.2.1.2.2.2.1 a.1.2.1) λc=>ao (fits<|plus (len a.2.1)<|len [(b.1,c.2.1,())])
 (aa<|aG (((),aC i64 a.1.2.1 1,()),app a.2.1 [(b.1,c.2.1,())],())) af)
 (aa<|aH (0,((),a.1.2.1,()),a.2.1,())))
def vz(x:Int×MA×al)(a:(al×Int×al)×tz×al):Option (UU⊕UU) :=
 cf (ao (ba a.1.2.1<|len x.2.1.2.2.1)
 (ae (idx x.2.1.2.2.1 a.1.2.1) λb=>ae (idx x.2.1.2.2.1 a.1.2.1) λc=>ao (fits<|plus (len a.2.1)<|len [(b.1,c.2.1,())])
 (aa<|aG (((),aC i64 a.1.2.1 1,()),app a.2.1 [(b.1,c.2.1,())],())) af)
 (aa<|aH (0,((),a.1.2.1,()),a.2.1,())))
def vA(x:Int×MA×al)(a:(al×Int×al)×tz×al):Option (UU⊕UU) :=
 cf (ao (ba a.1.2.1<|len x.2.1.2.1)
 (ae (idx x.2.1.2.1 a.1.2.1) λd=>ae (ao d.2.2.2.2.2.2.1
 (ae (idx x.2.1.2.1 a.1.2.1) λb=>ae (idx x.2.1.2.1 a.1.2.1) λc=>ao (fits<|plus (len a.2.1)<|len [(b.1,c.2.2.1,())])
 (aa (((),()),app a.2.1 [(b.1,c.2.2.1,())],())) af)
 (aa (((),()),a.2.1,()))) λb=>aa (aG (((),aC i64 a.1.2.1 1,()),b.2.1,())))
 (aa<|aH (0,((),a.1.2.1,()),a.2.1,())))
def rS(x:Int×MA×al):Option (tz×al) :=
 ae (ao (aR x.1 1)
 (ae (Loop (vy x) (((),0,()),[],())) λa=>aa (((),()),a.2.1,())) (ae (ao (aR x.1 2)
 (ae (Loop (vz x) (((),0,()),[],())) λa=>aa (((),()),a.2.1,())) (ae (ao (aR x.1 3)
 (ae (Loop (vA x) (((),0,()),[],())) λa=>aa (((),()),a.2.1,())) (aa (((),()),[],()))) λa=>aa (((),()),a.2.1,()))) λa=>aa (((),()),a.2.1,()))) (λa=>aa (a.2.1,()))
end Go.Ge
namespace Go.Ge
variable [Lp]
set_option maxRecDepth 100000
abbrev cB:=(Sb×Sb×Sb×al)
abbrev iT:=(Sb×(List Sb)×Sb×Sb×(List cB)×al)
abbrev qk:=((List<|Sb×(List Sb)×Sb×Sb×Sb×(List cB)×al)×(List iT)×(List<|Sb×Sb×(List Sb)×Sb×Int×Int×Bool×al)×(List Sb)×(List<|Sb×Int×al)×al)
abbrev rT:=(Sb×(List Sb)×al)
abbrev dQ:=(Int×Int×al)
abbrev acq:=(Sb×(List Sb)×Sb×Sb×Sb×(List cB)×al)
abbrev ai3:=(Sb×Sb×(List Sb)×Sb×Int×Int×Bool×al)
abbrev HO:=(Bool×Int×al)
abbrev HP:=(Nat×dQ×al×Sb×al)
abbrev HQ:=(dQ×al×Sb×al)
abbrev zR:=((al×Int×al)×(List Sb)×al)
abbrev Jq:=(Nat×dQ×Sb×al)
abbrev FT:=(Sb×Int×Int×al)
abbrev Jr:=(bj×((List bj)×(bj×(bj×((List<|bj×(bj×(bj×al)))×al)))))
abbrev Js:=(dQ×Sb×al)
abbrev aem:=(Nat×HO×al)
abbrev aqb:=((Int×al)×al×(List rT)×al)
abbrev WK:=(Int×Sb×Int×Sb×al)
abbrev OE:=(Nat×dQ×al×cB×al)
abbrev aqc:=(Nat×dQ×(List Sb)×al)
abbrev aqd:=(Int×(List ai3)×(List iT)×(List acq)×al)
abbrev aqe:=((Nat×(al×Int×al)×(List Sb)×al))
abbrev OG:=(dQ×al×cB×al)
abbrev aqf:=(dQ×(List Sb)×al)
abbrev aen:=(HO×al)
abbrev aqg:=((Nat×(Int×al)×al×(List rT)×al))
abbrev aeo:=(Nat×dQ×al×iT×al)
abbrev Jt:=(bj×(bj×(bj×al)))
abbrev zT:=(al×Int×al)
def aQ(l:List Jt)(x:(Int×((List Jt)×al))):Option (List Jt):=vX l x.1 x.2.1
def bq(l:List Jr)(x:(Int×(Int×al))):Option (List Jr):=K0 l x.1 x.2.1
def bE(l:List Jt)(x:(Int×(Int×al))):Option (List Jt):=K0 l x.1 x.2.1
def bI(l:List Jr)(x:(Int×((List Jr)×al))):Option (List Jr):=vX l x.1 x.2.1
def b7(x:cB×al):Option (Sb×al) :=aa (x.1.1,())
def bQ(x:(List cB)×al):Option ((List cB)×al) :=bif fits (len x.1) then aa (x.1,()) else af
def kO(x:(List cB)×Sb×Sb×al)(a:dQ×al×Sb×al):Option (HQ⊕HP) :=
 ao (ba a.1.2.1<|len x.1) (ae (idx x.1 a.1.2.1) λb=>ae (b7 (b,())) λc=>ao (bA c.1 a.2.2.1)
 (aa<|aH (1,(a.1.2.1,a.1.2.1,()),(),a.2.2.1,())) (aa<|aG ((a.1.1,aC i64 a.1.2.1 1,()),(),a.2.2.1,())))
 (aa<|aH (0,(a.1.1,a.1.2.1,()),(),a.2.2.1,()))
def kP(x:(List cB)×Sb×Sb×al)(a:dQ×al×Sb×al):Option (HQ⊕HP) :=
 ao (ba a.1.2.1<|len x.1) (ae (idx x.1 a.1.2.1) λb=>ae (b7 (b,())) λc=>ao (bA c.1 a.2.2.1)
 (aa<|aH (1,(a.1.2.1,a.1.2.1,()),(),a.2.2.1,())) (aa<|aG ((a.1.1,aC i64 a.1.2.1 1,()),(),a.2.2.1,())))
 (aa<|aH (0,(a.1.1,a.1.2.1,()),(),a.2.2.1,()))
def kQ(b:(al×al)×(List cB)×al)(a:dQ×al×cB×al):Option (OG⊕OE) :=
 ao (ba a.1.2.1<|len b.2.1) (ao (within a.1.2.1<|len b.2.1)
 (ae (idx b.2.1 a.1.2.1) λd=>ae (b7 (d,())) λe=>ae (b7 (a.2.2.1,())) λc=>ao (nt<|dK e.1 c.1)
 (aa<|aH (1,(a.1.2.1,a.1.2.1,()),(),a.2.2.1,())) (aa<|aG ((a.1.1,aC i64 a.1.2.1 1,()),(),a.2.2.1,())))
 af)
 (aa<|aH (0,(a.1.1,a.1.2.1,()),(),a.2.2.1,()))
def kR(b:(al×al)×(List cB)×al)(a:dQ×al×cB×al):Option (OG⊕OE) :=
 ao (ba a.1.2.1<|len b.2.1) (ao (within a.1.2.1<|len b.2.1)
 (ae (idx b.2.1 a.1.2.1) λd=>ae (b7 (d,())) λe=>ae (b7 (a.2.2.1,())) λc=>ao (nt<|dK e.1 c.1)
 (aa<|aH (1,(a.1.2.1,a.1.2.1,()),(),a.2.2.1,())) (aa<|aG ((a.1.1,aC i64 a.1.2.1 1,()),(),a.2.2.1,())))
 af)
 (aa<|aH (0,(a.1.1,a.1.2.1,()),(),a.2.2.1,()))
def kS(x:(List cB)×Sb×Sb×al)(a:dQ×al×Sb×al):Option (HQ⊕HP) :=
 ao (ba a.1.2.1<|len x.1) (ae (idx x.1 a.1.2.1) λb=>ae (b7 (b,())) λc=>ao (bA c.1 a.2.2.1)
 (aa<|aH (1,(a.1.2.1,a.1.2.1,()),(),a.2.2.1,())) (aa<|aG ((a.1.1,aC i64 a.1.2.1 1,()),(),a.2.2.1,())))
 (aa<|aH (0,(a.1.1,a.1.2.1,()),(),a.2.2.1,()))
def kT(b:(al×al)×(List cB)×al)(a:dQ×al×cB×al):Option (OG⊕OE) :=
 ao (ba a.1.2.1<|len b.2.1) (ao (within a.1.2.1<|len b.2.1)
 (ae (idx b.2.1 a.1.2.1) λd=>ae (b7 (d,())) λe=>ae (b7 (a.2.2.1,())) λc=>ao (nt<|dK e.1 c.1)
 (aa<|aH (1,(a.1.2.1,a.1.2.1,()),(),a.2.2.1,())) (aa<|aG ((a.1.1,aC i64 a.1.2.1 1,()),(),a.2.2.1,())))
 af)
 (aa<|aH (0,(a.1.1,a.1.2.1,()),(),a.2.2.1,()))
def kU(b:(al×al)×(List cB)×al)(a:dQ×al×cB×al):Option (OG⊕OE) :=
 ao (ba a.1.2.1<|len b.2.1) (ao (within a.1.2.1<|len b.2.1)
 (ae (idx b.2.1 a.1.2.1) λd=>ae (b7 (d,())) λe=>ae (b7 (a.2.2.1,())) λc=>ao (nt<|dK e.1 c.1)
 (aa<|aH (1,(a.1.2.1,a.1.2.1,()),(),a.2.2.1,())) (aa<|aG ((a.1.1,aC i64 a.1.2.1 1,()),(),a.2.2.1,())))
 af)
 (aa<|aH (0,(a.1.1,a.1.2.1,()),(),a.2.2.1,()))
def lE(x:(List cB)×Sb×Sb×al):Option ((List cB)×Int×al) :=
 ae (mR (x.2.1,())) (λh=>ao (ao (nt<|nt h.1)
 (ba 64<|len x.2.2.1) true)
 (aa ([],1,())) (ae (Loop (kO x) ((0,0,()),(),x.2.1,())) λg=>ao (cF g.1 0)
 (ao (ao (ba (-1) 0)
 (cm 4<|len x.1) false)
 (aa ([],5,())) (ae (oI (x.2.2.1,())) λe=>ae (b7 ((x.2.1,e.1,x.2.2.1,()),())) λf=>ao (fits<|len x.1)
 (ae (Loop (kP x) ((0,0,()),(),f.1,())) λd=>ao (cF d.1 0)
 (ae (ao (cm 0<|-1)
 (ae (bE x.1 ((-1),aC i64 (-1) 1,())) λa=>aa (((),()),a,())) (aa (((),()),x.1,()))) λa=>ae (Loop (kQ a) ((0,0,()),(),(x.2.1,e.1,x.2.2.1,()),())) λb=>ao (cF b.1 0)
 (ae (aQ a.2.1 (((ao (ba (-1) 0)
 ((len a.2.1,()),()) (((-1),()),())).1).1,([b.2.2.2.1]:List cB),())) λc=>aa (c,0,()))
 (ae (aQ a.2.1 (((ao (ba b.2.1.1 0)
 ((len a.2.1,()),()) ((b.2.1.1,()),())).1).1,([b.2.2.2.1]:List cB),())) λc=>aa (c,0,())))
 (ae (ao (cm 0 d.2.1.1)
 (ae (bE x.1 (d.2.1.1,aC i64 d.2.1.1 1,())) λa=>aa (((),()),a,())) (aa (((),()),x.1,()))) λa=>ae (Loop (kR a) ((0,0,()),(),(x.2.1,e.1,x.2.2.1,()),())) λb=>ao (cF b.1 0)
 (ae (aQ a.2.1 (((ao (ba (-1) 0)
 ((len a.2.1,()),()) (((-1),()),())).1).1,([b.2.2.2.1]:List cB),())) λc=>aa (c,0,()))
 (ae (aQ a.2.1 (((ao (ba b.2.1.1 0)
 ((len a.2.1,()),()) ((b.2.1.1,()),())).1).1,([b.2.2.2.1]:List cB),())) λc=>aa (c,0,()))))
 af))
 (ao (ao (ba g.2.1.1 0)
 (cm 4<|len x.1) false)
 (aa ([],5,())) (ae (oI (x.2.2.1,())) λe=>ae (b7 ((x.2.1,e.1,x.2.2.1,()),())) λf=>ao (fits<|len x.1)
 (ae (Loop (kS x) ((0,0,()),(),f.1,())) λd=>ao (cF d.1 0)
 (ae (ao (cm 0<|-1)
 (ae (bE x.1 ((-1),aC i64 (-1) 1,())) λa=>aa (((),()),a,())) (aa (((),()),x.1,()))) λa=>ae (Loop (kT a) ((0,0,()),(),(x.2.1,e.1,x.2.2.1,()),())) λb=>ao (cF b.1 0)
 (ae (aQ a.2.1 (((ao (ba (-1) 0)
 ((len a.2.1,()),()) (((-1),()),())).1).1,([b.2.2.2.1]:List cB),())) λc=>aa (c,0,()))
 (ae (aQ a.2.1 (((ao (ba b.2.1.1 0)
 ((len a.2.1,()),()) ((b.2.1.1,()),())).1).1,([b.2.2.2.1]:List cB),())) λc=>aa (c,0,())))
 (ae (ao (cm 0 d.2.1.1)
 (ae (bE x.1 (d.2.1.1,aC i64 d.2.1.1 1,())) λa=>aa (((),()),a,())) (aa (((),()),x.1,()))) λa=>ae (Loop (kU a) ((0,0,()),(),(x.2.1,e.1,x.2.2.1,()),())) λb=>ao (cF b.1 0)
 (ae (aQ a.2.1 (((ao (ba (-1) 0)
 ((len a.2.1,()),()) (((-1),()),())).1).1,([b.2.2.2.1]:List cB),())) λc=>aa (c,0,()))
 (ae (aQ a.2.1 (((ao (ba b.2.1.1 0)
 ((len a.2.1,()),()) ((b.2.1.1,()),())).1).1,([b.2.2.2.1]:List cB),())) λc=>aa (c,0,()))))
 af))))
def kV(x:(List cB)×Sb×al)(a:dQ×al×Sb×al):Option (HQ⊕HP) :=
 ao (ba a.1.2.1<|len x.1) (ae (idx x.1 a.1.2.1) λb=>ae (b7 (b,())) λc=>ao (bA c.1 a.2.2.1)
 (aa<|aH (1,(a.1.2.1,a.1.2.1,()),(),a.2.2.1,())) (aa<|aG ((a.1.1,aC i64 a.1.2.1 1,()),(),a.2.2.1,())))
 (aa<|aH (0,(a.1.1,a.1.2.1,()),(),a.2.2.1,()))
def lF(x:(List cB)×Sb×al):Option (Sb×Int×al) :=
 ae (Loop (kV x) ((0,0,()),(),x.2.1,())) (λa=>ao (cF a.1 0)
 (ao (ba (-1) 0)
 (aa ([],3,())) (ae (idx x.1<|-1) λb=>aa (b.2.2.1,0,())))
 (ao (ba a.2.1.1 0)
 (aa ([],3,())) (ae (idx x.1 a.2.1.1) λb=>aa (b.2.2.1,0,()))))
def iU(x:Int×al):Option (WK×al) :=aa ((x.1,[],0,[],()),())
def pM(x:(List rT)×Sb×al)(a:dQ×Sb×al):Option (Js⊕Jq) :=
 ao (ba a.1.2.1<|len x.1) (ae (idx x.1 a.1.2.1) λb=>ao (bA b.1 a.2.1)
 (aa<|aH (1,(a.1.2.1,a.1.2.1,()),a.2.1,())) (aa<|aG ((a.1.1,aC i64 a.1.2.1 1,()),a.2.1,())))
 (aa<|aH (0,(a.1.1,a.1.2.1,()),a.2.1,()))
def pN(x:(List rT)×Sb×al)(a:dQ×Sb×al):Option (Js⊕Jq) :=
 ao (ba a.1.2.1<|len x.1) (ae (idx x.1 a.1.2.1) λb=>ae (bJ (b.2.1,a.2.1,())) λc=>ao c.1
 (aa<|aH (1,(a.1.2.1,a.1.2.1,()),a.2.1,())) (aa<|aG ((a.1.1,aC i64 a.1.2.1 1,()),a.2.1,())))
 (aa<|aH (0,(a.1.1,a.1.2.1,()),a.2.1,()))
def pO(x:(List rT)×Sb×al)(c:Nat×dQ×Sb×al)(a:zT×(List Sb)×al):Option (zR⊕zR) :=
 cf (ao (ba a.1.2.1<|len x.1)
 (ae (idx x.1 a.1.2.1) λb=>ae (cA (b.1,c.2.2.1,())) λd=>ae (ao d.1
 (ao (fits<|plus (len a.2.1)<|len [b.1])
 (aa (((),()),app a.2.1 [b.1],())) af)
 (aa (((),()),a.2.1,()))) λe=>aa (aG (((),aC i64 a.1.2.1 1,()),e.2.1,())))
 (aa<|aH (0,((),a.1.2.1,()),a.2.1,())))
def K6(x:(List rT)×Sb×al)(c:Nat×dQ×Sb×al)(a:zT×(List Sb)×al):Option (zR⊕zR) :=
 cf (ao (ba a.1.2.1<|len x.1)
 (ae (idx x.1 a.1.2.1) λb=>ae (cA (b.1,c.2.2.1,())) λd=>ae (ao d.1
 (ao (fits<|plus (len a.2.1)<|len [b.1])
 (aa (((),()),app a.2.1 [b.1],())) af)
 (aa (((),()),a.2.1,()))) λe=>aa (aG (((),aC i64 a.1.2.1 1,()),e.2.1,())))
 (aa<|aH (0,((),a.1.2.1,()),a.2.1,())))
def K7(x:(List rT)×Sb×al)(a:dQ×Sb×al):Option (Js⊕Jq) :=
 ao (ba a.1.2.1<|len x.1) (ae (idx x.1 a.1.2.1) λb=>ae (bJ (b.2.1,a.2.1,())) λc=>ao c.1
 (aa<|aH (1,(a.1.2.1,a.1.2.1,()),a.2.1,())) (aa<|aG ((a.1.1,aC i64 a.1.2.1 1,()),a.2.1,())))
 (aa<|aH (0,(a.1.1,a.1.2.1,()),a.2.1,()))
def K8(x:(List rT)×Sb×al)(c:Nat×dQ×Sb×al)(a:zT×(List Sb)×al):Option (zR⊕zR) :=
 cf (ao (ba a.1.2.1<|len x.1)
 (ae (idx x.1 a.1.2.1) λb=>ae (cA (b.1,c.2.2.1,())) λd=>ae (ao d.1
 (ao (fits<|plus (len a.2.1)<|len [b.1])
 (aa (((),()),app a.2.1 [b.1],())) af)
 (aa (((),()),a.2.1,()))) λe=>aa (aG (((),aC i64 a.1.2.1 1,()),e.2.1,())))
 (aa<|aH (0,((),a.1.2.1,()),a.2.1,())))
def K9(x:(List rT)×Sb×al)(c:Nat×dQ×Sb×al)(a:zT×(List Sb)×al):Option (zR⊕zR) :=
 cf (ao (ba a.1.2.1<|len x.1)
 (ae (idx x.1 a.1.2.1) λb=>ae (cA (b.1,c.2.2.1,())) λd=>ae (ao d.1
 (ao (fits<|plus (len a.2.1)<|len [b.1])
 (aa (((),()),app a.2.1 [b.1],())) af)
 (aa (((),()),a.2.1,()))) λe=>aa (aG (((),aC i64 a.1.2.1 1,()),e.2.1,())))
 (aa<|aH (0,((),a.1.2.1,()),a.2.1,())))
def iC(x:(List rT)×Sb×al):Option (Sb×Int×al) :=
 ae (Loop (pM x) ((0,0,()),x.2.1,())) (λd=>ao (cF d.1 0)
 (ao (cm 0<|-1)
 (aa (x.2.1,0,())) (ae (Loop (pN x) ((0,0,()),x.2.1,())) λb=>ao (cF b.1 0)
 (ao (cm 0<|-1)
 (ae (idx x.1<|-1) λa=>aa (a.1,0,())) (ae (Loop (pO x b) (((),0,()),[],())) λa=>ao (ao (nt<|ao (nt<|bA b.2.2.1 [])
 (cm 6<|len b.2.2.1) true)
 (aR (len a.2.1) 0) true)
 (aa ([],3,())) (ao (ba 1<|len a.2.1)
 (aa ([],9,())) (ao (within 0<|len a.2.1)
 (ae (idx a.2.1 0) λc=>aa (c,0,())) af))))
 (ao (cm 0 b.2.1.1)
 (ae (idx x.1 b.2.1.1) λa=>aa (a.1,0,())) (ae (Loop (K6 x b) (((),0,()),[],())) λa=>ao (ao (nt<|ao (nt<|bA b.2.2.1 [])
 (cm 6<|len b.2.2.1) true)
 (aR (len a.2.1) 0) true)
 (aa ([],3,())) (ao (ba 1<|len a.2.1)
 (aa ([],9,())) (ao (within 0<|len a.2.1)
 (ae (idx a.2.1 0) λc=>aa (c,0,())) af))))))
 (ao (cm 0 d.2.1.1)
 (aa (x.2.1,0,())) (ae (Loop (K7 x) ((0,0,()),x.2.1,())) λb=>ao (cF b.1 0)
 (ao (cm 0<|-1)
 (ae (idx x.1<|-1) λa=>aa (a.1,0,())) (ae (Loop (K8 x b) (((),0,()),[],())) λa=>ao (ao (nt<|ao (nt<|bA b.2.2.1 [])
 (cm 6<|len b.2.2.1) true)
 (aR (len a.2.1) 0) true)
 (aa ([],3,())) (ao (ba 1<|len a.2.1)
 (aa ([],9,())) (ao (within 0<|len a.2.1)
 (ae (idx a.2.1 0) λc=>aa (c,0,())) af))))
 (ao (cm 0 b.2.1.1)
 (ae (idx x.1 b.2.1.1) λa=>aa (a.1,0,())) (ae (Loop (K9 x b) (((),0,()),[],())) λa=>ao (ao (nt<|ao (nt<|bA b.2.2.1 [])
 (cm 6<|len b.2.2.1) true)
 (aR (len a.2.1) 0) true)
 (aa ([],3,())) (ao (ba 1<|len a.2.1)
 (aa ([],9,())) (ao (within 0<|len a.2.1)
 (ae (idx a.2.1 0) λc=>aa (c,0,())) af)))))))
def lG(x:qk×al):Option ((List rT)×al) :=ae (rR (3,(0,x.1.2.2.1,([]:List iT),([]:List acq),()),())) (λa=>aa (a.1,()))
def eN(x:qk×Sb×al):Option (Sb×Int×al) :=ae (lG (x.1,())) (λb=>ae (iC (b.1,x.2.1,())) λa=>aa (a.1,a.2.1,()))
def gA(x:qk×al):Option ((List rT)×al) :=ae (rR (2,(0,([]:List ai3),x.1.2.1,([]:List acq),()),())) (λa=>aa (a.1,()))
def zU(x:Int×al):Option (Sb×al) :=
 ao (ba 16 0) af (ao (ba 8 0)
 af (ae (l9 (br [kg IntKind.u8<|jv i64 x.1 16,kg IntKind.u8 (jv i64 x.1 8),kg IntKind.u8 x.1],())) λa=>aa (a.1,())))
def gN(x:(List rT)×Int×al)(a:dQ×Sb×al):Option (Js⊕Jq) :=
 ao (ba a.1.2.1<|len x.1) (ae (idx x.1 a.1.2.1) λb=>ao (bA b.1 a.2.1)
 (aa<|aH (1,(a.1.2.1,a.1.2.1,()),a.2.1,())) (aa<|aG ((a.1.1,aC i64 a.1.2.1 1,()),a.2.1,())))
 (aa<|aH (0,(a.1.1,a.1.2.1,()),a.2.1,()))
def nZ(x:(List rT)×Int×al)(a:FT×al):Option ((FT×al)⊕(Nat×FT×al)) :=
 ao (ba a.1.2.2.1<|aC i64 (len x.1) 1) (ao (aR 16777216 0)
 af (ae (zU (fX (aC i64 (gT i64 x.2.1 16777215) a.1.2.2.1) 16777216,())) λb=>ae (Loop (gN x) ((0,0,()),b.1,())) λc=>ao (cF c.1 0)
 (ao (nt<|cm 0<|-1)
 (aa<|aH (1,(b.1,0,a.1.2.2.1,()),())) (aa<|aG ((a.1.1,a.1.2.1,aC i64 a.1.2.2.1 1,()),())))
 (ao (nt<|cm 0 c.2.1.1)
 (aa<|aH (1,(b.1,0,a.1.2.2.1,()),())) (aa<|aG ((a.1.1,a.1.2.1,aC i64 a.1.2.2.1 1,()),())))))
 (aa<|aH (0,(a.1.1,a.1.2.1,a.1.2.2.1,()),()))
def iV(x:(List rT)×Int×al):Option (Sb×Int×al) :=
 ao (cm 32<|len x.1) (aa ([],5,())) (ae (Loop (nZ x) (([],0,0,()),())) λa=>ao (cF a.1 0)
 (aa ([],5,())) (aa (a.2.1.1,a.2.1.2.1,())))
def dO(x:iT×al):Option (Sb×al) :=aa (x.1.1,())
def rU(x:(List iT)×al):Option ((List iT)×al) :=bif fits (len x.1) then aa (x.1,()) else af
def eV(x:qk×iT×al)(a:dQ×al×Sb×al):Option (HQ⊕HP) :=
 ao (ba a.1.2.1<|len x.1.2.1) (ae (idx x.1.2.1 a.1.2.1) λb=>ae (dO (b,())) λc=>ao (bA c.1 a.2.2.1)
 (aa<|aH (1,(a.1.2.1,a.1.2.1,()),(),a.2.2.1,())) (aa<|aG ((a.1.1,aC i64 a.1.2.1 1,()),(),a.2.2.1,())))
 (aa<|aH (0,(a.1.1,a.1.2.1,()),(),a.2.2.1,()))
def rr(b:(al×al)×(List iT)×al)(a:dQ×al×iT×al):Option ((dQ×al×iT×al)⊕aeo) :=
 ao (ba a.1.2.1<|len b.2.1) (ao (within a.1.2.1<|len b.2.1)
 (ae (idx b.2.1 a.1.2.1) λc=>ae (dO (c,())) λd=>ae (dO (a.2.2.1,())) λe=>ao (nt<|dK d.1 e.1)
 (aa<|aH (1,(a.1.2.1,a.1.2.1,()),(),a.2.2.1,())) (aa<|aG ((a.1.1,aC i64 a.1.2.1 1,()),(),a.2.2.1,())))
 af)
 (aa<|aH (0,(a.1.1,a.1.2.1,()),(),a.2.2.1,()))
def ru(b:(al×al)×(List iT)×al)(a:dQ×al×iT×al):Option ((dQ×al×iT×al)⊕aeo) :=
 ao (ba a.1.2.1<|len b.2.1) (ao (within a.1.2.1<|len b.2.1)
 (ae (idx b.2.1 a.1.2.1) λc=>ae (dO (c,())) λd=>ae (dO (a.2.2.1,())) λe=>ao (nt<|dK d.1 e.1)
 (aa<|aH (1,(a.1.2.1,a.1.2.1,()),(),a.2.2.1,())) (aa<|aG ((a.1.1,aC i64 a.1.2.1 1,()),(),a.2.2.1,())))
 af)
 (aa<|aH (0,(a.1.1,a.1.2.1,()),(),a.2.2.1,()))
def ij(x:qk×iT×al):Option (qk×al) :=
 ae (bd (x.2.1.2.1,())) (λe=>ae (bQ (x.2.1.2.2.2.2.1,())) λf=>ae (dO ((x.2.1.1,e.1,x.2.1.2.2.1,x.2.1.2.2.2.1,f.1,x.2.1.2.2.2.2.2),())) λg=>ao (fits<|len x.1.2.1)
 (ae (Loop (eV x) ((0,0,()),(),g.1,())) λd=>ao (cF d.1 0)
 (ae (ao (cm 0<|-1)
 (ae (bq x.1.2.1 ((-1),aC i64 (-1) 1,())) λa=>aa (((),()),a,())) (aa (((),()),x.1.2.1,()))) λa=>ae (Loop (rr a) ((0,0,()),(),(x.2.1.1,e.1,x.2.1.2.2.1,x.2.1.2.2.2.1,f.1,x.2.1.2.2.2.2.2),())) λb=>ao (cF b.1 0)
 (ae (bI a.2.1 (((ao (ba (-1) 0)
 ((len a.2.1,()),()) (((-1),()),())).1).1,([b.2.2.2.1]:List iT),())) λc=>aa ((x.1.1,c,x.1.2.2),()))
 (ae (bI a.2.1 (((ao (ba b.2.1.1 0)
 ((len a.2.1,()),()) ((b.2.1.1,()),())).1).1,([b.2.2.2.1]:List iT),())) λc=>aa ((x.1.1,c,x.1.2.2),())))
 (ae (ao (cm 0 d.2.1.1)
 (ae (bq x.1.2.1 (d.2.1.1,aC i64 d.2.1.1 1,())) λa=>aa (((),()),a,())) (aa (((),()),x.1.2.1,()))) λa=>ae (Loop (ru a) ((0,0,()),(),(x.2.1.1,e.1,x.2.1.2.2.1,x.2.1.2.2.2.1,f.1,x.2.1.2.2.2.2.2),())) λb=>ao (cF b.1 0)
 (ae (bI a.2.1 (((ao (ba (-1) 0)
 ((len a.2.1,()),()) (((-1),()),())).1).1,([b.2.2.2.1]:List iT),())) λc=>aa ((x.1.1,c,x.1.2.2),()))
 (ae (bI a.2.1 (((ao (ba b.2.1.1 0)
 ((len a.2.1,()),()) ((b.2.1.1,()),())).1).1,([b.2.2.2.1]:List iT),())) λc=>aa ((x.1.1,c,x.1.2.2),()))))
 af)
def rv(x:qk×Sb×(List Sb)×Sb×Int×al):Option (qk×WK×al) :=
 ae (gp (x.2.2.1,())) (λe=>ao (ao (nt<|nt<|aR e.1 0)
 (ba 64<|len x.2.2.2.1) true)
 (ae (iU (1,())) λa=>aa (x.1,a.1,())) (ae (ao (nt<|bA x.2.1 [])
 (ae (eN (x.1,x.2.1,())) λa=>aa ((a.2.1,()),([],x.2.2.1,a.1,x.2.2.2.1,[],()),())) (aa ((0,()),([],x.2.2.1,[],x.2.2.2.1,[],()),()))) λa=>ae (ao (aR a.1.1 0) (ae (gA (x.1,())) λd=>ae (ig (d.1,[],x.2.2.1,())) λb=>aa ((b.1,()),())) (aa ((a.1.1,()),()))) λd=>ae (ao (aR d.1.1 0) (ae (gA (x.1,())) λb=>ae (iV (b.1,x.2.2.2.2.1,())) λc=>aa ((c.2.1,()),(c.1,a.2.1.2),())) (aa ((d.1.1,()),a.2.1,()))) λb=>ao (nt<|aR b.1.1 0)
 (ae (iU (b.1.1,())) λc=>aa (x.1,c.1,())) (ae (ij (x.1,b.2.1,())) λc=>aa (c.1,(0,b.2.1.1,0,[],()),()))))
def ni(x:qk×Sb×al):Option (Sb×Int×al) :=ae (gA (x.1,())) (λb=>ae (iC (b.1,x.2.1,())) λa=>aa (a.1,a.2.1,()))
def mj(x:qk×Sb×al)(a:dQ×Sb×al):Option (Js⊕Jq) :=
 ao (ba a.1.2.1<|len x.1.1) (ae (idx x.1.1 a.1.2.1) λb=>ao (bA b.2.2.1 a.2.1)
 (aa<|aH (1,(a.1.2.1,a.1.2.1,()),a.2.1,())) (aa<|aG ((a.1.1,aC i64 a.1.2.1 1,()),a.2.1,())))
 (aa<|aH (0,(a.1.1,a.1.2.1,()),a.2.1,()))
def mm(x:qk×Sb×al)(a:dQ×al×Sb×al):Option (HQ⊕HP) :=
 ao (ba a.1.2.1<|len x.1.2.1) (ae (idx x.1.2.1 a.1.2.1) λb=>ae (dO (b,())) λc=>ao (bA c.1 a.2.2.1)
 (aa<|aH (1,(a.1.2.1,a.1.2.1,()),(),a.2.2.1,())) (aa<|aG ((a.1.1,aC i64 a.1.2.1 1,()),(),a.2.2.1,())))
 (aa<|aH (0,(a.1.1,a.1.2.1,()),(),a.2.2.1,()))
def HR(x:qk×Sb×al)(a:dQ×al×Sb×al):Option (HQ⊕HP) :=
 ao (ba a.1.2.1<|len x.1.2.1) (ae (idx x.1.2.1 a.1.2.1) λb=>ae (dO (b,())) λc=>ao (bA c.1 a.2.2.1)
 (aa<|aH (1,(a.1.2.1,a.1.2.1,()),(),a.2.2.1,())) (aa<|aG ((a.1.1,aC i64 a.1.2.1 1,()),(),a.2.2.1,())))
 (aa<|aH (0,(a.1.1,a.1.2.1,()),(),a.2.2.1,()))
def ry(x:qk×Sb×al):Option (qk×WK×al) :=
 ae (ni (x.1,x.2.1,())) (λd=>ao (nt<|aR d.2.1 0)
 (ae (iU (d.2.1,())) λc=>aa (x.1,c.1,())) (ae (Loop (mj x) ((0,0,()),d.1,())) λc=>ao (cF c.1 0)
 (ao (cm 0<|-1)
 (ae (iU (7,())) λb=>aa (x.1,b.1,())) (ao (fits<|len x.1.2.1)
 (ae (Loop (mm x) ((0,0,()),(),c.2.2.1,())) λb=>ao (cF b.1 0)
 (ae (ao (cm 0<|-1)
 (ae (bq x.1.2.1 ((-1),aC i64 (-1) 1,())) λa=>aa (((),()),a,())) (aa (((),()),x.1.2.1,()))) λa=>aa ((x.1.1,a.2.1,x.1.2.2),(0,c.2.2.1,0,[],()),()))
 (ae (ao (cm 0 b.2.1.1)
 (ae (bq x.1.2.1 (b.2.1.1,aC i64 b.2.1.1 1,())) λa=>aa (((),()),a,())) (aa (((),()),x.1.2.1,()))) λa=>aa ((x.1.1,a.2.1,x.1.2.2),(0,c.2.2.1,0,[],()),())))
 af))
 (ao (cm 0 c.2.1.1)
 (ae (iU (7,())) λb=>aa (x.1,b.1,())) (ao (fits<|len x.1.2.1)
 (ae (Loop (HR x) ((0,0,()),(),c.2.2.1,())) λb=>ao (cF b.1 0)
 (ae (ao (cm 0<|-1)
 (ae (bq x.1.2.1 ((-1),aC i64 (-1) 1,())) λa=>aa (((),()),a,())) (aa (((),()),x.1.2.1,()))) λa=>aa ((x.1.1,a.2.1,x.1.2.2),(0,c.2.2.1,0,[],()),()))
 (ae (ao (cm 0 b.2.1.1)
 (ae (bq x.1.2.1 (b.2.1.1,aC i64 b.2.1.1 1,())) λa=>aa (((),()),a,())) (aa (((),()),x.1.2.1,()))) λa=>aa ((x.1.1,a.2.1,x.1.2.2),(0,c.2.2.1,0,[],()),())))
 af))))
def rz(x:qk×Sb×al)(a:HO×iT×al):Option ((HO×iT×al)⊕(Nat×HO×iT×al)) :=
 ao (ba a.1.2.1<|len x.1.2.1) (ae (idx x.1.2.1 a.1.2.1) λb=>ao (bA b.1 x.2.1)
 (ae (bd (b.2.1,())) λc=>ae (bQ (b.2.2.2.2.1,())) λd=>aa (aH (1,(true,a.1.2.1,()),(b.1,c.1,b.2.2.1,b.2.2.2.1,d.1,b.2.2.2.2.2),()))) (aa<|aG ((a.1.1,aC i64 a.1.2.1 1,()),a.2.1,())))
 (aa<|aH (0,(a.1.1,a.1.2.1,()),a.2.1,()))
def pP(x:qk×Sb×al):Option (iT×Bool×al) :=
 ae (Loop (rz x) ((false,0,()),([],[],[],[],[],()),())) (λa=>ao (cF a.1 0)
 (aa (([],[],[],[],[],()),false,())) (aa (a.2.2.1,a.2.1.1,())))
def iW(x:(List cB)×Sb×Sb×al)(a:dQ×al):Option ((dQ×al)⊕(dQ×al)) :=
 cf (ao (cm 0 a.1.2.1)
 (ae (idx x.1 a.1.2.1) λb=>aa (aG ((((ao (bA b.1 x.2.1)
 ((a.1.2.1,()),()) ((a.1.1,()),())).1).1,cR i64 a.1.2.1 1,()),())))
 (aa<|aH (0,(a.1.1,a.1.2.1,()),())))
def iX(x:(List cB)×Sb×Sb×al)(c:dQ×al)(a:zT×(List cB)×al):Option ((zT×(List cB)×al)⊕(zT×(List cB)×al)) :=
 cf (ao (ba a.1.2.1<|len x.1)
 (ae (ao (nt<|aR a.1.2.1 c.1.1)
 (ae (idx x.1 a.1.2.1) λb=>ao (fits<|plus (len a.2.1)<|len [b])
 (aa (((),()),app a.2.1 [b],())) af)
 (aa (((),()),a.2.1,()))) λb=>aa (aG (((),aC i64 a.1.2.1 1,()),b.2.1,())))
 (aa<|aH (0,((),a.1.2.1,()),a.2.1,())))
def iY(x:(List cB)×Sb×Sb×al)(b:zT×(List cB)×al)(a:(Int×al)×al):Option (((Int×al)×al)⊕((Int×al)×al)) :=
 cf (ae (ao (ba a.1.1<|len b.2.1)
 (ao (within a.1.1<|len b.2.1)
 (ae (idx b.2.1 a.1.1) λc=>aa (dK c.1 x.2.1)) af)
 (aa false)) λc=>ao c
 (aa<|aG ((aC i64 a.1.1 1,()),())) (aa<|aH (0,(a.1.1,()),())))
def rA(x:(List cB)×Sb×Sb×al):Option ((List cB)×Int×al) :=
 ae (lD (x.2.1,())) (λe=>ao (ao (nt<|nt e.1)
 (ba 64<|len x.2.2.1) true)
 (aa ([],1,())) (ae (Loop (iW x) (((-1),cR i64 (len x.1) 1,()),())) λd=>ao (ao (ba d.1.1 0)
 (cm 4<|len x.1) false)
 (aa ([],5,())) (ae (Loop (iX x d) (((),0,()),[],())) λa=>ae (Loop (iY x a) ((0,()),())) λb=>ao (inside 0 b.1.1<|len a.2.1)
 (ao (fits<|plus (len ([]:List cB))<|len<|sub a.2.1 0<|minus b.1.1 0)
 (ae (oK (x.2.2.1,())) λc=>ao (fits<|plus (len<|app []<|sub a.2.1 0<|minus b.1.1 0)<|len ([(x.2.1,c.1,x.2.2.1,())]:List cB))
 (ao (inside b.1.1 (len a.2.1)<|len a.2.1)
 (ao (fits<|plus (len<|app (app []<|sub a.2.1 0<|minus b.1.1 0) [(x.2.1,c.1,x.2.2.1,())])<|len<|sub a.2.1 b.1.1<|minus (len a.2.1) b.1.1)
 (aa (app (app (app []<|sub a.2.1 0<|minus b.1.1 0) [(x.2.1,c.1,x.2.2.1,())])<|sub a.2.1 b.1.1<|minus (len a.2.1) b.1.1,0,())) af)
 af)
 af)
 af)
 af)))
def mn(x:(List cB)×Sb×al)(a:FT×al):Option ((FT×al)⊕(Nat×FT×al)) :=
 ao (ba a.1.2.2.1<|len x.1) (ae (idx x.1 a.1.2.2.1) λb=>ao (bA b.1 x.2.1)
 (ae (idx x.1 a.1.2.2.1) λc=>aa (aH (1,(c.2.2.1,0,a.1.2.2.1,()),()))) (aa<|aG ((a.1.1,a.1.2.1,aC i64 a.1.2.2.1 1,()),())))
 (aa<|aH (0,(a.1.1,a.1.2.1,a.1.2.2.1,()),()))
def rB(x:(List cB)×Sb×al):Option (Sb×Int×al) :=
 ae (Loop (mn x) (([],0,0,()),())) (λa=>ao (cF a.1 0)
 (aa ([],3,())) (aa (a.2.1.1,a.2.1.2.1,())))
def jX(x:(List cB)×(List cB)×al)(a:HO×al):Option (aen⊕aem) :=
 ao (ao (ba a.1.2.1<|len x.1)
 (ba a.1.2.1<|len x.2.1) false)
 (ae (idx x.1 a.1.2.1) λb=>ae (idx x.2.1 a.1.2.1) λc=>ao (nt<|an (bA b.1 c.1)<|an (bA b.2.1 c.2.1)<|an (bA b.2.2.1 c.2.2.1) true)
 (aa<|aH (1,(false,a.1.2.1,()),())) (aa<|aG ((a.1.1,aC i64 a.1.2.1 1,()),())))
 (aa<|aH (0,(a.1.1,a.1.2.1,()),()))
def gO(x:(List cB)×(List cB)×al):Option (Bool×al) :=
 ao (nt<|aR (len x.1)<|len x.2.1) (aa (false,())) (ae (Loop (jX x) ((false,0,()),())) λa=>ao (cF a.1 0)
 (aa (true,())) (aa (a.2.1.1,())))
def pQ(x:(List cB)×al)(a:HO×al):Option (aen⊕aem) :=
 ao (ba a.1.2.1<|len x.1) (ae (idx x.1 a.1.2.1) λb=>ae (lD (b.1,())) λc=>ao (nt c.1)
 (aa<|aH (1,(false,a.1.2.1,()),())) (ae (idx x.1 a.1.2.1) λd=>ao (ba 64<|len d.2.2.1)
 (aa<|aH (1,(false,a.1.2.1,()),())) (ae (idx x.1 a.1.2.1) λe=>ae (idx x.1 a.1.2.1) λf=>ae (oK (f.2.2.1,())) λg=>ao (nt<|bA e.2.1 g.1)
 (aa<|aH (1,(false,a.1.2.1,()),())) (ao (ba 0 a.1.2.1)
 (ae (idx x.1<|cR i64 a.1.2.1 1) λh=>ae (idx x.1 a.1.2.1) λi=>ao (nt<|dK h.1 i.1)
 (aa<|aH (1,(false,a.1.2.1,()),())) (aa<|aG ((a.1.1,aC i64 a.1.2.1 1,()),())))
 (aa<|aG ((a.1.1,aC i64 a.1.2.1 1,()),()))))))
 (aa<|aH (0,(a.1.1,a.1.2.1,()),()))
def nj(x:(List cB)×al):Option (Bool×al) :=
 ae (Loop (pQ x) ((false,0,()),())) (λa=>ao (cF a.1 0)
 (aa (cm (len x.1) 4,())) (aa (a.2.1.1,())))
end Go.Ge
namespace Go.Ge
variable [Lp]
set_option maxRecDepth 100000
abbrev ik:=(Sb×Sb×(List Sb)×Sb×Int×Int×Bool×al)
abbrev Cr:=(Sb×(List Sb)×Sb×Sb×Sb×(List<|Sb×Sb×Sb×al)×al)
abbrev Ct:=(Sb×(List Sb)×Sb×Sb×(List<|Sb×Sb×Sb×al)×al)
abbrev n0:=((List Cr)×(List Ct)×(List ik)×(List Sb)×(List<|Sb×Int×al)×al)
abbrev OH:=(Sb×Int×Int×Sb×Sb×al)
abbrev tC:=(Bool×Int×al)
abbrev FU:=((al×al×Int×al)×(List Sb)×(List Sb)×al)
abbrev xM:=(Nat×(Int×Int×al)×al)
abbrev alu:=(List<|Sb×Sb×Sb×al)
abbrev zV:=(Nat×tC×al)
abbrev QF:=(Sb×(List ik)×Int×al×Int×al)
abbrev tD:=((Int×Int×al)×al)
abbrev apr:=((Nat×(al×al×Int×al)×(List Sb)×(List Sb)×al))
abbrev QG:=((List OH)×Int×(List OH)×Int×al)
abbrev qE:=(tC×al)
abbrev v8:=(Int×(List ik)×(List Ct)×(List Cr)×al)
abbrev Ju:=(Sb×Int×al)
def gr(x:Sb×al):Option (Bool×al) :=
 ae (qx (x.1,())) (λa=>aa (ao a.2.1
 (aR (len x.1) 6) false,()))
def qF(x:ik×al):Option (Bool×al) :=
 ae (gr (x.1.1,())) (λd=>ae (ao d.1
 (ae (ao (nt<|bA x.1.2.1 [])
 (ae (gr (x.1.2.1,())) λa=>aa (ao a.1
 (nt<|bA x.1.2.1 x.1.1) false))
 (aa true)) λa=>aa a)
 (aa false)) λa=>ae (ao a (ae (kt (x.1.2.2.1,())) λb=>aa b.1) (aa false)) λb=>ae (ao b (ae (vj (x.1.2.2.2.1,())) λc=>aa (aR c.1 0)) (aa false)) λc=>aa (ao (ao (ao (ao c
 (cm 0 x.1.2.2.2.2.1) false)
 (cm x.1.2.2.2.2.1 8192) false)
 (cm 0 x.1.2.2.2.2.2.1) false)
 (cm x.1.2.2.2.2.2.1 32) false,()))
def qG(x:Ct×al):Option (Bool×al) :=
 ae (gr (x.1.1,())) (λd=>ae (ao d.1
 (ae (kt (x.1.2.1,())) λb=>aa b.1) (aa false)) λb=>ae (ao b (ae (ao (nt<|bA x.1.2.2.1 [])
 (ae (gr (x.1.2.2.1,())) λa=>aa a.1) (aa true)) λa=>aa a)
 (aa false)) λa=>ae (ao (ao a
 (cm (len x.1.2.2.2.1) 64) false)
 (ae (nj (x.1.2.2.2.2.1,())) λc=>aa c.1) (aa false)) λc=>aa (c,()))
def wa(x:Cr×al):Option (Bool×al) :=
 ae (gr (x.1.1,())) (λe=>ae (ao e.1
 (ae (kt (x.1.2.1,())) λb=>aa b.1) (aa false)) λb=>ae (ao b (ae (ao (nt<|bA x.1.2.2.1 [])
 (ae (gr (x.1.2.2.1,())) λa=>aa a.1) (aa true)) λa=>aa a)
 (aa false)) λa=>ae (ao a (ae (gr (x.1.2.2.2.1,())) λc=>aa c.1) (aa false)) λc=>ae (ao (ao c
 (cm (len x.1.2.2.2.2.1) 64) false)
 (ae (nj (x.1.2.2.2.2.2.1,())) λd=>aa d.1) (aa false)) λd=>aa (d,()))
def La(x:v8×al)(a:(al×al×Int×al)×(List Sb)×(List Sb)×al):Option (FU⊕FU) :=
 cf (ao (ba a.1.2.2.1<|len x.1.2.1)
 (ae (idx x.1.2.1 a.1.2.2.1) λb=>ao (fits<|plus (len a.2.2.1)<|len [b.1])
 (ae (idx x.1.2.1 a.1.2.2.1) λc=>ao (fits<|plus (len a.2.1)<|len c.2.2.1)
 (aa<|aG (((),(),aC i64 a.1.2.2.1 1,()),app a.2.1 c.2.2.1,app a.2.2.1 [b.1],())) af)
 af)
 (aa<|aH (0,((),(),a.1.2.2.1,()),a.2.1,a.2.2.1,())))
def Lb(x:v8×al)(a:(al×al×Int×al)×(List Sb)×(List Sb)×al):Option (FU⊕FU) :=
 cf (ao (ba a.1.2.2.1<|len x.1.2.2.1)
 (ae (idx x.1.2.2.1 a.1.2.2.1) λb=>ao (fits<|plus (len a.2.2.1)<|len [b.1])
 (ae (idx x.1.2.2.1 a.1.2.2.1) λc=>ao (fits<|plus (len a.2.1)<|len c.2.1)
 (aa<|aG (((),(),aC i64 a.1.2.2.1 1,()),app a.2.1 c.2.1,app a.2.2.1 [b.1],())) af)
 af)
 (aa<|aH (0,((),(),a.1.2.2.1,()),a.2.1,a.2.2.1,())))
def Lc(x:v8×al)(a:(al×al×Int×al)×(List Sb)×(List Sb)×al):Option (FU⊕FU) :=
 cf (ao (ba a.1.2.2.1<|len x.1.2.2.2.1)
 (ae (idx x.1.2.2.2.1 a.1.2.2.1) λb=>ao (fits<|plus (len a.2.2.1)<|len [b.1])
 (ae (idx x.1.2.2.2.1 a.1.2.2.1) λc=>ao (fits<|plus (len a.2.1)<|len c.2.1)
 (aa<|aG (((),(),aC i64 a.1.2.2.1 1,()),app a.2.1 c.2.1,app a.2.2.1 [b.1],())) af)
 af)
 (aa<|aH (0,((),(),a.1.2.2.1,()),a.2.1,a.2.2.1,())))
def vB(x:v8×al):Option ((List Sb)×(List Sb)×al) :=ae (Loop (La x) (((),(),0,()),[],[],())) (λa=>ae (Loop (Lb x) (((),(),0,()),a.2.1,a.2.2.1,())) λb=>ae (Loop (Lc x) (((),(),0,()),b.2.1,b.2.2.1,())) λc=>aa (c.2.2.1,c.2.1,()))
def pR(x:Int×v8×al)(a:(Int×Int×al)×al):Option (tD⊕xM) :=
 ao (ba a.1.2.1<|len x.2.1.2.1) (ae (idx x.2.1.2.1 a.1.2.1) λb=>ae (qF (b,())) λc=>ao (nt c.1)
 (aa<|aH (1,(1,a.1.2.1,()),())) (aa<|aG ((a.1.1,aC i64 a.1.2.1 1,()),())))
 (aa<|aH (0,(a.1.1,a.1.2.1,()),()))
def pS(x:Int×v8×al)(a:(Int×Int×al)×al):Option (tD⊕xM) :=
 ao (ba a.1.2.1<|len x.2.1.2.2.1) (ae (idx x.2.1.2.2.1 a.1.2.1) λb=>ae (qG (b,())) λc=>ao (nt c.1)
 (aa<|aH (1,(1,a.1.2.1,()),())) (aa<|aG ((a.1.1,aC i64 a.1.2.1 1,()),())))
 (aa<|aH (0,(a.1.1,a.1.2.1,()),()))
def pT(x:Int×v8×al)(a:(Int×Int×al)×al):Option (tD⊕xM) :=
 ao (ba a.1.2.1<|len x.2.1.2.2.2.1) (ae (idx x.2.1.2.2.2.1 a.1.2.1) λc=>ae (wa (c,())) λb=>ao (nt b.1)
 (aa<|aH (1,(1,a.1.2.1,()),())) (aa<|aG ((a.1.1,aC i64 a.1.2.1 1,()),())))
 (aa<|aH (0,(a.1.1,a.1.2.1,()),()))
def iK(b:(List Sb)×(List Sb)×al)(a:(Int×Int×al)×al):Option (tD⊕xM) :=
 ao (ba a.1.2.1<|len b.1) (ae (idx b.1<|cR i64 a.1.2.1 1) λc=>ae (idx b.1 a.1.2.1) λd=>ao (nt<|dK c d)
 (aa<|aH (1,(1,a.1.2.1,()),())) (aa<|aG ((a.1.1,aC i64 a.1.2.1 1,()),())))
 (aa<|aH (0,(a.1.1,a.1.2.1,()),()))
def iL(e:(List Sb)×(List Sb)×al)(b:(Int×Int×al)×al)(a:(Int×Int×al)×al):Option (tD⊕xM) :=
 ao (ba a.1.2.1 b.1.2.1) (ae (idx e.2.1 a.1.2.1) λc=>ae (idx e.2.1 b.1.2.1) λd=>ao (bA c d)
 (aa<|aH (1,(1,a.1.2.1,()),())) (aa<|aG ((a.1.1,aC i64 a.1.2.1 1,()),())))
 (aa<|aH (0,(a.1.1,a.1.2.1,()),()))
def iM(c:(List Sb)×(List Sb)×al)(a:(Int×Int×al)×al):Option (tD⊕xM) :=
 ao (ba a.1.2.1<|len c.2.1) (ae (Loop (iL c a) ((a.1.1,0,()),())) λb=>ao (cF b.1 0)
 (aa<|aG ((b.2.1.1,aC i64 a.1.2.1 1,()),())) (aa<|aH (1,(b.2.1.1,a.1.2.1,()),())))
 (aa<|aH (0,(a.1.1,a.1.2.1,()),()))
def nk(x:Int×v8×al):Option (Int×al) :=
 ao (ba x.1 1) (aa (1,())) (ao (ba 3 x.1)
 (aa (1,())) (ao (ba x.2.1.1 0)
 (aa (1,())) (ao (ba 9007199254740992 x.2.1.1)
 (aa (1,())) (ao (within x.1 4)
 (ae (idx [(0:Int),len x.2.1.2.2.2.1,len x.2.1.2.2.1,len x.2.1.2.1] x.1) λg=>ao (ba 32 g)
 (aa (1,())) (ao (within 1 4)
 (ae (idx [(0:Int),len x.2.1.2.2.2.1,len x.2.1.2.2.1,len x.2.1.2.1] 1) λh=>ao (within 2 4)
 (ae (idx [(0:Int),len x.2.1.2.2.2.1,len x.2.1.2.2.1,len x.2.1.2.1] 2) λi=>ao (within 3 4)
 (ae (idx [(0:Int),len x.2.1.2.2.2.1,len x.2.1.2.2.1,len x.2.1.2.1] 3) λj=>ao (within x.1 4)
 (ae (idx [(0:Int),len x.2.1.2.2.2.1,len x.2.1.2.2.1,len x.2.1.2.1] x.1) λk=>ao (nt<|aR (aC i64 (aC i64 h i) j) k)
 (aa (1,())) (ae (Loop (pR x) ((0,0,()),())) λc=>ao (cF c.1 0)
 (ae (Loop (pS x) ((c.2.1.1,0,()),())) λd=>ao (cF d.1 0)
 (ae (Loop (pT x) ((d.2.1.1,0,()),())) λe=>ao (cF e.1 0)
 (ae (vB (x.2.1,())) λf=>ae (Loop (iK f) ((e.2.1.1,1,()),())) λa=>ao (cF a.1 0)
 (ae (Loop (iM f) ((a.2.1.1,0,()),())) λb=>ao (cF b.1 0)
 (aa (0,())) (aa (b.2.1.1,())))
 (aa (a.2.1.1,())))
 (aa (e.2.1.1,())))
 (aa (d.2.1.1,())))
 (aa (c.2.1.1,()))))
 af)
 af)
 af)
 af))
 af))))
def NH(x:(List ik)×Sb×al)(a:(Int×Int×al)×al):Option (tD⊕xM) :=
 ao (ba a.1.2.1<|len x.1) (ae (idx x.1 a.1.2.1) λb=>ao (bA b.1 x.2.1)
 (aa<|aH (1,(a.1.2.1,a.1.2.1,()),())) (aa<|aG ((a.1.1,aC i64 a.1.2.1 1,()),())))
 (aa<|aH (0,(a.1.1,a.1.2.1,()),()))
def Cu(x:(List ik)×Sb×al):Option (Int×al) :=
 ae (Loop (NH x) ((0,0,()),())) (λa=>ao (cF a.1 0)
 (aa ((-1),())) (aa (a.2.1.1,())))
def lH(x:(List ik)×Sb×al)(a:QF×(List ik)×al):Option ((QF×(List ik)×al)⊕(Nat×QF×(List ik)×al)) :=
 ao (cm a.1.2.2.2.2.1 16) (ae (Cu (x.1,a.1.1,())) λb=>ao (ba b.1 0)
 (aa<|aH (1,(a.1.1,[],3,(),a.1.2.2.2.2.1,()),a.2.1,())) (ao (aR a.1.2.2.2.2.1 16)
 (aa<|aH (1,(a.1.1,[],5,(),a.1.2.2.2.2.1,()),a.2.1,())) (ae (idx x.1 b.1) λc=>ao (fits<|plus (len a.2.1)<|len [c])
 (ae (idx x.1 b.1) λd=>ao (bA d.2.1 [])
 (aa<|aH (1,(a.1.1,app a.2.1 [c],0,(),a.1.2.2.2.2.1,()),app a.2.1 [c],())) (ae (idx x.1 b.1) λe=>aa (aG ((e.2.1,a.1.2.1,a.1.2.2.1,(),aC i64 a.1.2.2.2.2.1 1,()),app a.2.1 [c],()))))
 af)))
 (aa<|aH (0,(a.1.1,a.1.2.1,a.1.2.2.1,(),a.1.2.2.2.2.1,()),a.2.1,()))
def ku(x:(List ik)×Sb×al):Option ((List ik)×Int×al) :=
 ae (Loop (lH x) ((x.2.1,[],0,(),0,()),[],())) (λa=>ao (cF a.1 0)
 (aa ([],5,())) (aa (a.2.1.2.1,a.2.1.2.2.1,())))
def pU(x:(List ik)×al)(a:(Int×Int×al)×al):Option (tD⊕xM) :=
 ao (ba a.1.2.1<|len x.1) (ae (idx x.1 a.1.2.1) λb=>ae (ku (x.1,b.1,())) λc=>ao (nt<|aR c.2.1 0)
 (aa<|aH (1,(2,a.1.2.1,()),())) (aa<|aG ((a.1.1,aC i64 a.1.2.1 1,()),())))
 (aa<|aH (0,(a.1.1,a.1.2.1,()),()))
def vC(x:(List ik)×al):Option (Int×al) :=
 ae (Loop (pU x) ((0,0,()),())) (λa=>ao (cF a.1 0)
 (aa (0,())) (aa (a.2.1.1,())))
def NI(x:n0×Sb×al)(a:(Int×Int×al)×al):Option (tD⊕xM) :=
 ao (ba a.1.2.1<|len x.1.2.2.1) (ae (idx x.1.2.2.1 a.1.2.1) λb=>ao (bA b.1 x.2.1)
 (aa<|aH (1,(a.1.2.1,a.1.2.1,()),())) (aa<|aG ((a.1.1,aC i64 a.1.2.1 1,()),())))
 (aa<|aH (0,(a.1.1,a.1.2.1,()),()))
def iq(x:n0×Sb×al):Option (Int×al) :=
 ae (Loop (NI x) ((0,0,()),())) (λa=>ao (cF a.1 0)
 (aa ((-1),())) (aa (a.2.1.1,())))
def jY(x:n0×Int×al):Option (Sb×al) :=ao (ba x.2.1<|len x.1.2.2.2.1) (ae (idx x.1.2.2.2.1 x.2.1) λa=>aa (a,())) (aa ([],()))
def iZ(x:(List Sb)×al)(a:QG×al):Option ((QG×al)⊕(Nat×QG×al)) :=
 ao (ba a.1.2.2.2.1<|len x.1) (ae (idx x.1 a.1.2.2.2.1) λc=>ae (qC (a.1.2.2.1,c,())) λb=>ao (nt<|aR b.2.1 0)
 (aa<|aH (1,([],b.2.1,a.1.2.2.1,a.1.2.2.2.1,()),())) (aa<|aG ((a.1.1,a.1.2.1,b.1,aC i64 a.1.2.2.2.1 1,()),())))
 (aa<|aH (0,(a.1.1,a.1.2.1,a.1.2.2.1,a.1.2.2.2.1,()),()))
def zW(x:(List Sb)×al):Option ((List OH)×Int×al) :=
 ae (Loop (iZ x) (([],0,[],0,()),())) (λa=>ao (cF a.1 0)
 (aa (a.2.1.2.2.1,0,())) (aa (a.2.1.1,a.2.1.2.1,())))
def mS(x:n0×Sb×al)(c:(List ik)×Int×al)(a:(al×Int×al)×(List Sb)×al):Option (((al×Int×al)×(List Sb)×al)⊕((al×Int×al)×(List Sb)×al)) :=
 cf (ao (cm 0 a.1.2.1)
 (ae (idx c.1 a.1.2.1) λd=>ae (iq (x.1,d.1,())) λe=>ae (jY (x.1,e.1,())) λb=>ao (fits<|plus (len a.2.1)<|len [b.1])
 (aa<|aG (((),cR i64 a.1.2.1 1,()),app a.2.1 [b.1],())) af)
 (aa<|aH (0,((),a.1.2.1,()),a.2.1,())))
def jZ(x:n0×Sb×al):Option ((List OH)×Int×al) :=
 ae (ku (x.1.2.2.1,x.2.1,())) (λa=>ao (nt<|aR a.2.1 0)
 (aa ([],a.2.1,())) (ae (Loop (mS x a) (((),cR i64 (len a.1) 1,()),[],())) λc=>ae (zW (c.2.1,())) λb=>aa (b.1,b.2.1,())))
def n6(x:n0×al)(a:tC×al):Option (qE⊕zV) :=
 ao (ao (ba a.1.2.1<|len x.1.2.2.1)
 (ba a.1.2.1<|len x.1.2.2.2.1) false)
 (ae (idx x.1.2.2.1 a.1.2.1) λb=>ao (nt b.2.2.2.2.2.2.1)
 (aa<|aH (1,(false,a.1.2.1,()),())) (ao (nt<|aR b.2.2.2.2.2.1 0)
 (aa<|aH (1,(false,a.1.2.1,()),())) (ae (idx x.1.2.2.2.1 a.1.2.1) λc=>ao (nt<|aR b.2.2.2.2.1<|len c)
 (aa<|aH (1,(false,a.1.2.1,()),())) (ae (idx x.1.2.2.2.1 a.1.2.1) λd=>ae (oK (d,())) λe=>ao (nt<|bA b.2.2.2.1 e.1)
 (aa<|aH (1,(false,a.1.2.1,()),())) (ae (idx x.1.2.2.2.1 a.1.2.1) λf=>ae (ks (f,())) λg=>ao (nt<|aR g.1 0)
 (aa<|aH (1,(false,a.1.2.1,()),())) (ae (jZ (x.1,b.1,())) λh=>ao (nt<|aR h.2.1 0)
 (aa<|aH (1,(false,a.1.2.1,()),())) (aa<|aG ((a.1.1,aC i64 a.1.2.1 1,()),()))))))))
 (aa<|aH (0,(a.1.1,a.1.2.1,()),()))
def tE(x:n0×al):Option (Bool×al) :=
 ae (ao (nt<|nt<|aR (len x.1.2.2.2.1)<|len x.1.2.2.1)
 (ae (vC (x.1.2.2.1,())) λa=>aa (nt<|aR a.1 0)) (aa true)) (λa=>ao a (aa (false,())) (ae (Loop (n6 x) ((false,0,()),())) λb=>ao (cF b.1 0)
 (aa (true,())) (aa (b.2.1.1,()))))
def tF(x:n0×al)(a:tC×al):Option (qE⊕zV) :=
 ao (ba a.1.2.1<|len x.1.2.1) (ae (idx x.1.2.1 a.1.2.1) λb=>ao (nt<|bA b.2.2.1 [])
 (ae (idx x.1.2.1 a.1.2.1) λc=>ae (iq (x.1,c.2.2.1,())) λd=>ao (ba d.1 0)
 (aa<|aH (1,(false,a.1.2.1,()),())) (aa<|aG ((a.1.1,aC i64 a.1.2.1 1,()),())))
 (aa<|aG ((a.1.1,aC i64 a.1.2.1 1,()),())))
 (aa<|aH (0,(a.1.1,a.1.2.1,()),()))
def oT(x:n0×al)(b:Sb×(List Sb)×Sb×Sb×Sb×alu×al)(a:tC×al):Option (qE⊕qE) :=
 cf (ao (ba a.1.2.1<|len x.1.2.1)
 (ao a.1.1
 (aa<|aG ((true,aC i64 a.1.2.1 1,()),())) (ae (idx x.1.2.1 a.1.2.1) λc=>aa (aG ((bA c.1 b.2.2.1,aC i64 a.1.2.1 1,()),()))))
 (aa<|aH (0,(a.1.1,a.1.2.1,()),())))
def tG(x:n0×al)(a:tC×al):Option (qE⊕zV) :=
 ao (ba a.1.2.1<|len x.1.1) (ae (idx x.1.1 a.1.2.1) λb=>ae (Loop (oT x b) ((bA b.2.2.1 [],0,()),())) λd=>ae (ao (nt<|nt d.1.1)
 (ae (iq (x.1,b.2.2.2.1,())) λc=>aa (ba c.1 0)) (aa true)) λc=>ao c
 (aa<|aH (1,(false,a.1.2.1,()),())) (aa<|aG ((a.1.1,aC i64 a.1.2.1 1,()),())))
 (aa<|aH (0,(a.1.1,a.1.2.1,()),()))
def tH(x:n0×al)(a:tC×al):Option (qE⊕zV) :=
 ao (ba a.1.2.1<|len x.1.2.2.2.2.1) (ae (idx x.1.2.2.2.2.1 a.1.2.1) λb=>ae (iq (x.1,b.1,())) λd=>ao (ba d.1 0)
 (aa<|aH (1,(false,a.1.2.1,()),())) (ao (ba b.2.1 1)
 (aa<|aH (1,(false,a.1.2.1,()),())) (ao (ba 1000 b.2.1)
 (aa<|aH (1,(false,a.1.2.1,()),())) (ao (ba 0 a.1.2.1)
 (ae (idx x.1.2.2.2.2.1<|cR i64 a.1.2.1 1) λc=>ao (nt<|dK c.1 b.1)
 (aa<|aH (1,(false,a.1.2.1,()),())) (aa<|aG ((a.1.1,aC i64 a.1.2.1 1,()),())))
 (aa<|aG ((a.1.1,aC i64 a.1.2.1 1,()),()))))))
 (aa<|aH (0,(a.1.1,a.1.2.1,()),()))
def wc(x:n0×al):Option (Bool×al) :=
 ae (nk (1,(0,[],[],x.1.1,()),())) (λg=>ae (ao (nt<|nt<|aR g.1 0)
 (ae (nk (2,(0,[],x.1.2.1,[],()),())) λa=>aa (nt<|aR a.1 0)) (aa true)) λa=>ae (ao (nt a) (ae (nk (3,(0,x.1.2.2.1,[],[],()),())) λb=>aa (nt<|aR b.1 0)) (aa true)) λb=>ae (ao (nt b) (ae (tE (x.1,())) λc=>aa (nt c.1)) (aa true)) λc=>ao (ao (nt c) (ba 32<|len x.1.2.2.2.2.1) true)
 (aa (false,())) (ae (Loop (tF x) ((false,0,()),())) λd=>ao (cF d.1 0)
 (ae (Loop (tG x) ((d.2.1.1,0,()),())) λe=>ao (cF e.1 0)
 (ae (Loop (tH x) ((e.2.1.1,0,()),())) λf=>ao (cF f.1 0)
 (aa (true,())) (aa (f.2.1.1,())))
 (aa (e.2.1.1,())))
 (aa (d.2.1.1,()))))
def oU(x:(List Cr)×(List Cr)×al)(a:tC×al):Option (qE⊕zV) :=
 ao (ao (ba a.1.2.1<|len x.1)
 (ba a.1.2.1<|len x.2.1) false)
 (ae (idx x.1 a.1.2.1) λb=>ae (idx x.2.1 a.1.2.1) λc=>ae (ao (nt<|nt<|bA b.1 c.1)
 (ae (eG (b.2.1,c.2.1,())) λd=>aa (nt d.1)) (aa true)) λd=>ae (ao (nt<|ao (nt<|ao (nt<|ao (nt d)
 (nt<|bA b.2.2.1 c.2.2.1) true)
 (nt<|bA b.2.2.2.1 c.2.2.2.1) true)
 (nt<|bA b.2.2.2.2.1 c.2.2.2.2.1) true)
 (ae (gO (b.2.2.2.2.2.1,c.2.2.2.2.2.1,())) λe=>aa (nt e.1)) (aa true)) λe=>ao e
 (aa<|aH (1,(false,a.1.2.1,()),())) (aa<|aG ((a.1.1,aC i64 a.1.2.1 1,()),())))
 (aa<|aH (0,(a.1.1,a.1.2.1,()),()))
def n7(x:(List Cr)×(List Cr)×al):Option (Bool×al) :=
 ao (nt<|aR (len x.1)<|len x.2.1) (aa (false,())) (ae (Loop (oU x) ((false,0,()),())) λa=>ao (cF a.1 0)
 (aa (true,())) (aa (a.2.1.1,())))
def nK(x:(List Ct)×(List Ct)×al)(a:tC×al):Option (qE⊕zV) :=
 ao (ao (ba a.1.2.1<|len x.1)
 (ba a.1.2.1<|len x.2.1) false)
 (ae (idx x.1 a.1.2.1) λb=>ae (idx x.2.1 a.1.2.1) λc=>ae (ao (nt<|nt<|bA b.1 c.1)
 (ae (eG (b.2.1,c.2.1,())) λd=>aa (nt d.1)) (aa true)) λd=>ae (ao (nt<|ao (nt<|ao (nt d)
 (nt<|bA b.2.2.1 c.2.2.1) true)
 (nt<|bA b.2.2.2.1 c.2.2.2.1) true)
 (ae (gO (b.2.2.2.2.1,c.2.2.2.2.1,())) λe=>aa (nt e.1)) (aa true)) λe=>ao e
 (aa<|aH (1,(false,a.1.2.1,()),())) (aa<|aG ((a.1.1,aC i64 a.1.2.1 1,()),())))
 (aa<|aH (0,(a.1.1,a.1.2.1,()),()))
def mo(x:(List Ct)×(List Ct)×al):Option (Bool×al) :=
 ao (nt<|aR (len x.1)<|len x.2.1) (aa (false,())) (ae (Loop (nK x) ((false,0,()),())) λa=>ao (cF a.1 0)
 (aa (true,())) (aa (a.2.1.1,())))
def nL(x:(List ik)×(List ik)×al)(a:tC×al):Option (qE⊕zV) :=
 ao (ao (ba a.1.2.1<|len x.1)
 (ba a.1.2.1<|len x.2.1) false)
 (ae (idx x.1 a.1.2.1) λb=>ae (idx x.2.1 a.1.2.1) λc=>ae (ao (nt<|ao (nt<|nt<|bA b.1 c.1)
 (nt<|bA b.2.1 c.2.1) true)
 (ae (eG (b.2.2.1,c.2.2.1,())) λd=>aa (nt d.1)) (aa true)) λd=>ao (ao (nt<|ao (nt<|ao (nt<|ao (nt d)
 (nt<|bA b.2.2.2.1 c.2.2.2.1) true)
 (nt<|aR b.2.2.2.2.1 c.2.2.2.2.1) true)
 (nt<|aR b.2.2.2.2.2.1 c.2.2.2.2.2.1) true)
 (nt<|eqB b.2.2.2.2.2.2.1 c.2.2.2.2.2.2.1) true)
 (aa<|aH (1,(false,a.1.2.1,()),())) (aa<|aG ((a.1.1,aC i64 a.1.2.1 1,()),())))
 (aa<|aH (0,(a.1.1,a.1.2.1,()),()))
def mq(x:(List ik)×(List ik)×al):Option (Bool×al) :=
 ao (nt<|aR (len x.1)<|len x.2.1) (aa (false,())) (ae (Loop (nL x) ((false,0,()),())) λa=>ao (cF a.1 0)
 (aa (true,())) (aa (a.2.1.1,())))
def nM(x:(List Ju)×(List Ju)×al)(a:tC×al):Option (qE⊕zV) :=
 ao (ao (ba a.1.2.1<|len x.1)
 (ba a.1.2.1<|len x.2.1) false)
 (ae (idx x.1 a.1.2.1) λb=>ae (idx x.2.1 a.1.2.1) λc=>ao (nt<|an (bA b.1 c.1)<|an (aR b.2.1 c.2.1) true)
 (aa<|aH (1,(false,a.1.2.1,()),())) (aa<|aG ((a.1.1,aC i64 a.1.2.1 1,()),())))
 (aa<|aH (0,(a.1.1,a.1.2.1,()),()))
def mr(x:(List Ju)×(List Ju)×al):Option (Bool×al) :=
 ao (nt<|aR (len x.1)<|len x.2.1) (aa (false,())) (ae (Loop (nM x) ((false,0,()),())) λa=>ao (cF a.1 0)
 (aa (true,())) (aa (a.2.1.1,())))
def pV(x:n0×n0×al):Option (Bool×al) :=
 ae (n7 (x.1.1,x.2.1.1,())) (λe=>ae (ao e.1
 (ae (mo (x.1.2.1,x.2.1.2.1,())) λa=>aa a.1) (aa false)) λa=>ae (ao a (ae (mq (x.1.2.2.1,x.2.1.2.2.1,())) λb=>aa b.1) (aa false)) λb=>ae (ao b (ae (eG (x.1.2.2.2.1,x.2.1.2.2.2.1,())) λc=>aa c.1) (aa false)) λc=>ae (ao c (ae (mr (x.1.2.2.2.2.1,x.2.1.2.2.2.2.1,())) λd=>aa d.1) (aa false)) λd=>aa (d,()))
end Go.Ge
