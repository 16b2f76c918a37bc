import Derived.Test.YtcebnmppipejfaaGreatDoorPlC
set_option linter.unusedSectionVars false
set_option linter.unusedVariables false
set_option linter.unusedSimpArgs false
noncomputable section
open Go.IntKind (i64)
namespace Go.Ge
variable [Lp]
set_option maxRecDepth 100000
abbrev bN:=(Sb×Int×Int×Sb×Sb×ai)
abbrev ia:=((Sb×Int×Int×Int×Int×Int×Int×Sb×ai)×Sb×ai)
abbrev qK:=((Sb×ai)⊕((Sb×ai)⊕(ai⊕((bN×ai)⊕ai))))
abbrev GL:=((List bN)×(List bN)×Int×Sb×Int×ai)
abbrev LW:=(Bool×Int×ai)
abbrev agz:=(Sb×Int×Int×Int×Int×Int×Int×Sb×ai)
abbrev GM:=((List bN)×Int×(List bN)×Int×ai)
abbrev GN:=(Sb×Bool×Int×ai)
abbrev WY:=((List bN)×(List bN)×Int×Int×ai)
abbrev nE:=((List bN)×Int×ai)
abbrev RD:=(Sb×(List ia)×Bool×ai×ai)
abbrev RE:=(Nat×LW×ai)
abbrev aiA:=(Bool×(List bN)×Int×ai)
abbrev aiB:=((Sb×ai)⊕(ai⊕((bN×ai)⊕ai)))
abbrev BC:=(aq×(Int×(Int×(aq×(aq×ai)))))
abbrev RF:=((List qK)×Bool×ai×Int×ai)
abbrev RG:=(Bool×Sb×Int×ai)
abbrev RH:=(LW×ai)
abbrev J6:=(Sb×ai)
abbrev RI:=(ai×Sb×Int×ai)
def BX(c:(List Sb)×ai)(a:RI×(List bN)×ai):Option ((RI×(List bN)×ai)⊕(RI×(List bN)×ai)) :=
 cA (aj (aO a.1.2.2.1<|len c.1)
 (ab (idx c.1 a.1.2.2.1) λd=>ab (tm (a.1.2.1,d,())) λb=>aj (fits<|plus (len a.2.1)<|len ([(b.1,(2:Int),(0:Int),([]:aq),([]:aq),())]:List bN))
 (some<|Sum.inl (((),b.1,ax i64 a.1.2.2.1 1,()),app a.2.1 ([(b.1,(2:Int),(0:Int),([]:aq),([]:aq),())]:List bN),()))
 none)
 (some<|Sum.inr (0,((),a.1.2.1,a.1.2.2.1,()),a.2.1,())))
def qL(x:bN×ai):Option (Bool×ai) :=
 ab (jx (x.1.1,())) (λb=>ab (gH (b.1,())) λc=>ab (Loop (BX c) (((),([]:aq),(0:Int),()),([]:List bN),())) λa=>aj (nt<|bz x.1.1 ([]:aq))
 (aj (fits<|plus (len a.2.1)<|len ([x.1]:List bN))
 (ab (e9 (app a.2.1 ([x.1]:List bN),())) λd=>some (aL d.1 0,()))
 none)
 (some (false,())))
def sD(x:Sb×ai):Option (Bool×ai) :=
 ab (aj (nt<|bz x.1 ([]:aq))
 (ab (qL ((x.1,(2:Int),(0:Int),([]:aq),([]:aq),()),())) λa=>some a.1)
 (some true)) (λa=>some (a,()))
def qn(x:J6×(List bN)×ai):Option ((List bN)×ai) :=
 ab (Cp (x.2.1,x.1.1,())) (λa=>some (a.1,()))
def s6(x:J6×(List bN)×ai):Option nE :=
 some (x.2.1,(0:Int),())
def pc(x:J6×(List bN)×ai):Option ((List bN)×ai) :=
 ab (E7 (x.2.1,x.1.1,())) (λa=>some (a.1,()))
def qo(x:J6×(List bN)×ai):Option nE :=
 some (x.2.1,(0:Int),())
def qp(x:ai×(List bN)×ai):Option ((List bN)×ai) :=
 some (x.2.1,())
def s7(x:ai×(List bN)×ai):Option nE :=
 some (x.2.1,(0:Int),())
def qq(x:(bN×ai)×(List bN)×ai):Option ((List bN)×ai) :=
 some (x.2.1,())
def yz(d:(List Sb)×ai)(a:GL×ai):Option ((GL×ai)⊕(Nat×GL×ai)) :=
 aj (aO a.1.2.2.2.2.1<|len d.1)
 (ab (idx d.1 a.1.2.2.2.2.1) λf=>ab (tm (a.1.2.2.2.1,f,())) λb=>ab (Ib (a.1.1,b.1,())) λe=>aj (aj e.2.1
 (aL e.1.2.1 2)
 false)
 (some<|Sum.inl ((a.1.1,a.1.2.1,a.1.2.2.1,b.1,ax i64 a.1.2.2.2.2.1 1,()),()))
 (ab (DA (a.1.1,(b.1,(2:Int),(493:Int),([]:aq),([]:aq),()),())) λc=>aj (nt<|aL c.2.1 0)
 (some<|Sum.inr (1,(a.1.1,([]:List bN),c.2.1,b.1,a.1.2.2.2.2.1,()),()))
 (some<|Sum.inl ((c.1,a.1.2.1,a.1.2.2.1,b.1,ax i64 a.1.2.2.2.2.1 1,()),()))))
 (some<|Sum.inr (0,(a.1.1,a.1.2.1,a.1.2.2.1,a.1.2.2.2.1,a.1.2.2.2.2.1,()),()))
def s9(x:(bN×ai)×(List bN)×ai):Option nE :=
 ab (jx (x.1.1.1,())) (λc=>ab (gH (c.1,())) λd=>ab (Loop (yz d) ((x.2.1,([]:List bN),(0:Int),([]:aq),(0:Int),()),())) λa=>aj (cR a.1 0)
 (ab (DA (a.2.1.1,x.1.1,())) λb=>some (b.1,b.2.1,()))
 (some (a.2.1.2.1,a.2.1.2.2.1,())))
def Aw(x:ia×ai):Option (qK×Bool×ai) :=
 ab (wu (x.1.1.1,())) (λb=>aj (nt<|aL b.2.1 0)
 (some ((Sum.inr<|Sum.inr<|Sum.inr<|Sum.inr ()),false,()))
 (ab (jx (b.1,())) λc=>ab (yq (c.2.1,())) λd=>aj (aL d.1 1)
 (ab (tm (c.1,d.2.1,())) λa=>ab (aj (aj (aL x.1.1.2.1 1)
 (bz x.1.2.1 ([]:aq))
 false)
 (ab (sD (a.1,())) λe=>some e.1)
 (some false)) λe=>some ((Sum.inl (a.1,())),e,()))
 (aj (aL d.1 2)
 (ab (aj (aj (aL x.1.1.2.1 1)
 (bz x.1.2.1 ([]:aq))
 false)
 (ab (sD (c.1,())) λa=>some a.1)
 (some false)) λa=>some ((Sum.inr<|Sum.inl (c.1,())),a,()))
 (aj (aL d.1 3)
 (some ((Sum.inr<|Sum.inr<|Sum.inr<|Sum.inr ()),false,()))
 (aj (aj (bz b.1 ([]:aq))
 (aL x.1.1.2.1 2)
 false)
 (some ((Sum.inr<|Sum.inr<|Sum.inl ()),true,()))
 (ab (qL ((b.1,x.1.1.2.1,x.1.1.2.2.1,x.1.2.1,x.1.1.2.2.2.2.2.2.2.1,()),())) λa=>some ((Sum.inr<|Sum.inr<|Sum.inr<|Sum.inl ((b.1,x.1.1.2.1,x.1.1.2.2.1,x.1.2.1,x.1.1.2.2.2.2.2.2.2.1,()),())),a.1,())))))))
def DC(x:(List ia)×ai)(a:RF×(List qK)×ai):Option ((RF×(List qK)×ai)⊕(Nat×RF×(List qK)×ai)) :=
 aj (aO a.1.2.2.2.1<|len x.1)
 (ab (idx x.1 a.1.2.2.2.1) λc=>ab (Aw (c,())) λb=>aj (nt b.2.1)
 (some<|Sum.inr (1,(([]:List qK),false,(),a.1.2.2.2.1,()),a.2.1,()))
 (aj (fits<|plus (len a.2.1)<|len ([b.1]:List qK))
 (some<|Sum.inl ((a.1.1,a.1.2.1,(),ax i64 a.1.2.2.2.1 1,()),app a.2.1 ([b.1]:List qK),()))
 none))
 (some<|Sum.inr (0,(a.1.1,a.1.2.1,(),a.1.2.2.2.1,()),a.2.1,()))
def sE(x:(List ia)×ai):Option ((List qK)×Bool×ai) :=
 ab (Loop (DC x) ((([]:List qK),false,(),(0:Int),()),([]:List qK),())) (λa=>aj (cR a.1 0)
 (some (a.2.2.1,true,()))
 (some (a.2.1.1,a.2.1.2.1,())))
def E9(x:(((aq×ai)⊕((aq×ai)⊕(ai⊕((BC×ai)⊕ai))))×((List BC)×ai))):Option ((List BC)×ai) :=
 (λz=>pick (λy=>qn (y,x.2)) (λz=>pick (λy=>pc (y,x.2)) (λz=>pick (λy=>qp (y,x.2)) (λz=>pick (λy=>qq (y,x.2)) (λ_=>none) z) z) z) z) x.1
def LX(x:(((aq×ai)⊕((aq×ai)⊕(ai⊕((BC×ai)⊕ai))))×((List BC)×ai))):Option ((List BC)×(Int×ai)) :=
 (λz=>pick (λy=>s6 (y,x.2)) (λz=>pick (λy=>qo (y,x.2)) (λz=>pick (λy=>s7 (y,x.2)) (λz=>pick (λy=>s9 (y,x.2)) (λ_=>none) z) z) z) z) x.1
def GO(b:(List qK)×Bool×ai)(a:nE×ai):Option ((nE×ai)⊕(nE×ai)) :=
 cA (aj (aO a.1.2.1<|len b.1)
 (ab (idx b.1 a.1.2.1) λc=>ab (E9 (c,a.1.1,())) λd=>some (Sum.inl ((d.1,ax i64 a.1.2.1 1,()),())))
 (some<|Sum.inr (0,(a.1.1,a.1.2.1,()),())))
def GP(c:(List qK)×Bool×ai)(a:GM×ai):Option ((GM×ai)⊕(Nat×GM×ai)) :=
 aj (aO a.1.2.2.2.1<|len c.1)
 (ab (idx c.1 a.1.2.2.2.1) λd=>ab (LX (d,a.1.2.2.1,())) λb=>aj (nt<|aL b.2.1 0)
 (some<|Sum.inr (1,(([]:List bN),b.2.1,a.1.2.2.1,a.1.2.2.2.1,()),()))
 (some<|Sum.inl ((a.1.1,a.1.2.1,b.1,ax i64 a.1.2.2.2.1 1,()),())))
 (some<|Sum.inr (0,(a.1.1,a.1.2.1,a.1.2.2.1,a.1.2.2.2.1,()),()))
def Cq(x:(List bN)×(List ia)×ai):Option nE :=
 ab (e9 (x.1,())) (λc=>aj (nt<|aL c.1 0)
 (some (([]:List bN),(1:Int),()))
 (ab (sE (x.2.1,())) λb=>aj (nt b.2.1)
 (some (([]:List bN),(10:Int),()))
 (aj (fits<|plus (len ([]:List bN))<|len x.1)
 (ab (Loop (GO b) ((app ([]:List bN) x.1,(0:Int),()),())) λd=>ab (Loop (GP b) ((([]:List bN),(0:Int),d.1.1,(0:Int),()),())) λa=>aj (cR a.1 0)
 (some (a.2.1.2.2.1,(0:Int),()))
 (some (a.2.1.1,a.2.1.2.1,())))
 none)))
def zq(x:Sb×ai):Option (Int×ai) :=
 ab (fv (x.1,())) (λa=>ab (sE (a.1,())) λb=>aj (aj (nt<|nt<|aL a.2.1 0)
 (nt b.2.1)
 true)
 (some ((10:Int),()))
 (some ((0:Int),())))
def pT(x:ia×Sb×ai):Option (bN×ai) :=
 some ((x.2.1,x.1.1.2.1,x.1.1.2.2.1,x.1.2.1,x.1.1.2.2.2.2.2.2.2.1,()),())
def fV(c:(List Sb)×ai)(a:RG×ai):Option ((RG×ai)⊕(Nat×RG×ai)) :=
 aj (aO a.1.2.2.1<|len c.1)
 (ab (idx c.1 a.1.2.2.1) λd=>ab (mZ (a.1.2.1,d,())) λb=>ab (ku ((b.1,(2:Int),(0:Int),([]:aq),([]:aq),()),())) λe=>aj (nt e.1)
 (some<|Sum.inr (1,(false,b.1,a.1.2.2.1,()),()))
 (some<|Sum.inl ((a.1.1,b.1,ax i64 a.1.2.2.1 1,()),())))
 (some<|Sum.inr (0,(a.1.1,a.1.2.1,a.1.2.2.1,()),()))
def kb(x:Sb×ai):Option (Bool×ai) :=
 ab (dT (x.1,())) (λb=>ab (Loop (fV b) ((false,([]:aq),(0:Int),()),())) λa=>aj (cR a.1 0)
 (some (nt<|bz x.1 ([]:aq),()))
 (some (a.2.1.1,())))
def ni(x:ia×ai):Option (Int×Sb×Bool×ai) :=
 ab (rh (x.1.1.1,())) (λc=>aj (nt<|aL c.2.1 0)
 (some ((0:Int),([]:aq),false,()))
 (ab (jy (c.1,())) λd=>ab (pM (d.2.1,())) λb=>aj (aL b.1 1)
 (ab (mZ (d.1,b.2.1,())) λa=>ab (aj (aj (aL x.1.1.2.1 1)
 (bz x.1.2.1 ([]:aq))
 false)
 (ab (kb (a.1,())) λe=>some e.1)
 (some false)) λe=>some (b.1,a.1,e,()))
 (aj (aL b.1 2)
 (ab (aj (aj (aL x.1.1.2.1 1)
 (bz x.1.2.1 ([]:aq))
 false)
 (ab (aj (nt<|bz d.1 ([]:aq))
 (ab (kb (d.1,())) λa=>some a.1)
 (some true)) λa=>some a)
 (some false)) λa=>some (b.1,d.1,a,()))
 (aj (aL b.1 0)
 (ab (aj (nt<|aj (bz c.1 ([]:aq))
 (aL x.1.1.2.1 2)
 false)
 (ab (pT (x.1,c.1,())) λa=>ab (ku (a.1,())) λe=>ab (aj e.1
 (ab (kb (c.1,())) λf=>some f.1)
 (some false)) λf=>some f)
 (some true)) λa=>some (b.1,c.1,a,()))
 (some ((0:Int),([]:aq),false,()))))))
def nj(x:(List ia)×ai)(a:LW×ai):Option (RH⊕RE) :=
 aj (aO a.1.2.1<|len x.1)
 (ab (idx x.1 a.1.2.1) λb=>ab (ni (b,())) λc=>aj (nt c.2.2.1)
 (some<|Sum.inr (1,(false,a.1.2.1,()),()))
 (some<|Sum.inl ((a.1.1,ax i64 a.1.2.1 1,()),())))
 (some<|Sum.inr (0,(a.1.1,a.1.2.1,()),()))
def nU(x:(List ia)×ai):Option (Bool×ai) :=
 ab (Loop (nj x) ((false,(0:Int),()),())) (λa=>aj (cR a.1 0)
 (some (true,()))
 (some (a.2.1.1,())))
def lj(d:(List Sb)×ai)(a:GL×ai):Option ((GL×ai)⊕(Nat×GL×ai)) :=
 aj (aO (ax i64 a.1.2.2.2.2.1 1)<|len d.1)
 (ab (idx d.1 a.1.2.2.2.2.1) λf=>ab (mZ (a.1.2.2.2.1,f,())) λb=>ab (tw (a.1.1,b.1,())) λe=>aj (aj e.2.1
 (aL e.1.2.1 2)
 false)
 (some<|Sum.inl ((a.1.1,a.1.2.1,a.1.2.2.1,b.1,ax i64 a.1.2.2.2.2.1 1,()),()))
 (ab (mH (a.1.1,(b.1,(2:Int),(493:Int),([]:aq),([]:aq),()),())) λc=>aj (nt<|aL c.2.1 0)
 (some<|Sum.inr (1,(a.1.1,([]:List bN),c.2.1,b.1,a.1.2.2.2.2.1,()),()))
 (some<|Sum.inl ((c.1,a.1.2.1,a.1.2.2.1,b.1,ax i64 a.1.2.2.2.2.1 1,()),()))))
 (some<|Sum.inr (0,(a.1.1,a.1.2.1,a.1.2.2.1,a.1.2.2.2.1,a.1.2.2.2.2.1,()),()))
def tz(x:(List bN)×Sb×ai):Option nE :=
 ab (dT (x.2.1,())) (λb=>ab (Loop (lj b) ((x.1,([]:List bN),(0:Int),([]:aq),(0:Int),()),())) λa=>aj (cR a.1 0)
 (some (a.2.1.1,(0:Int),()))
 (some (a.2.1.2.1,a.2.1.2.2.1,())))
def mI(x:(List bN)×(List ia)×ai)(a:nE×ai):Option ((nE×ai)⊕(nE×ai)) :=
 cA (aj (aO a.1.2.1<|len x.2.1)
 (ab (idx x.2.1 a.1.2.1) λd=>ab (ni (d,())) λc=>ab (aj (aL c.1 1)
 (ab (pS (a.1.1,c.2.1,())) λb=>some ((b.1,()),()))
 (ab (aj (aL c.1 2)
 (ab (rz (a.1.1,c.2.1,())) λb=>some ((b.1,()),()))
 (some ((a.1.1,()),()))) λb=>some ((b.1.1,()),()))) λb=>some (Sum.inl ((b.1.1,ax i64 a.1.2.1 1,()),())))
 (some<|Sum.inr (0,(a.1.1,a.1.2.1,()),())))
def mJ(x:(List bN)×(List ia)×ai)(a:WY×ai):Option ((WY×ai)⊕(Nat×WY×ai)) :=
 aj (aO a.1.2.2.2.1<|len x.2.1)
 (ab (idx x.2.1 a.1.2.2.2.1) λe=>ab (ni (e,())) λc=>aj (aj (nt<|nt<|aL c.1 0)
 (bz c.2.1 ([]:aq))
 true)
 (some<|Sum.inl ((a.1.1,a.1.2.1,a.1.2.2.1,ax i64 a.1.2.2.2.1 1,()),()))
 (ab (tz (a.1.1,c.2.1,())) λd=>aj (nt<|aL d.2.1 0)
 (some<|Sum.inr (1,(a.1.1,([]:List bN),d.2.1,a.1.2.2.2.1,()),()))
 (ab (idx x.2.1 a.1.2.2.2.1) λf=>ab (pT (f,c.2.1,())) λg=>ab (mH (d.1,g.1,())) λb=>aj (nt<|aL b.2.1 0)
 (some<|Sum.inr (1,(a.1.1,([]:List bN),b.2.1,a.1.2.2.2.1,()),()))
 (some<|Sum.inl ((b.1,a.1.2.1,a.1.2.2.1,ax i64 a.1.2.2.2.1 1,()),())))))
 (some<|Sum.inr (0,(a.1.1,a.1.2.1,a.1.2.2.1,a.1.2.2.2.1,()),()))
def vH(x:(List bN)×(List ia)×ai):Option nE :=
 ab (kJ (x.1,())) (λb=>aj (nt b.1)
 (some (([]:List bN),(1:Int),()))
 (ab (nU (x.2.1,())) λc=>aj (nt c.1)
 (some (([]:List bN),(10:Int),()))
 (ab (Loop (mI x) ((x.1,(0:Int),()),())) λd=>ab (Loop (mJ x) ((d.1.1,([]:List bN),(0:Int),(0:Int),()),())) λa=>aj (cR a.1 0)
 (some (a.2.1.1,(0:Int),()))
 (some (a.2.1.2.1,a.2.1.2.2.1,())))))
def sF(x:(List bN)×Sb×ai):Option nE :=
 ab (fv (x.2.1,())) (λb=>ab (aj (nt<|aL b.2.1 0)
 (ab (e9 (x.1,())) λa=>some (aL a.1 0))
 (some false)) λa=>aj a
 (some (([]:List bN),(10:Int),()))
 (ab (Cq (x.1,b.1,())) λc=>some (c.1,c.2.1,())))
def iK(x:Sb×ai)(a:LW×ai):Option (RH⊕RE) :=
 aj (aO a.1.2.1<|len x.1)
 (ab (idx x.1 a.1.2.1) λb=>aj (nt<|aL (u8 b) 0)
 (some<|Sum.inr (1,(false,a.1.2.1,()),()))
 (some<|Sum.inl ((a.1.1,ax i64 a.1.2.1 1,()),())))
 (some<|Sum.inr (0,(a.1.1,a.1.2.1,()),()))
def tB(x:Sb×ai):Option (Bool×ai) :=
 ab (Loop (iK x) ((false,(0:Int),()),())) (λa=>aj (cR a.1 0)
 (some (aL (len x.1) 512,()))
 (some (a.2.1.1,())))
def iL(x:Sb×ai)(a:LW×ai):Option (RH⊕RE) :=
 aj (aO a.1.2.1<|len x.1)
 (ab (idx x.1 a.1.2.1) λb=>aj (nt<|aL (u8 b) 0)
 (some<|Sum.inr (1,(false,a.1.2.1,()),()))
 (some<|Sum.inl ((a.1.1,ax i64 a.1.2.1 1,()),())))
 (some<|Sum.inr (0,(a.1.1,a.1.2.1,()),()))
def tC(x:Sb×ai):Option (Bool×ai) :=
 ab (aj (nt<|aO (len x.1) 1024)
 (aj (aL 512 0)
 none
 (some<|nt<|aL (iA (len x.1) 512) 0))
 (some true)) (λb=>aj b
 (some (false,()))
 (ab (Loop (iL x) ((false,(0:Int),()),())) λa=>aj (cR a.1 0)
 (some (true,()))
 (some (a.2.1.1,()))))
def fW(x:Sb×ai)(a:(Int×ai)×ai):Option (((Int×ai)×ai)⊕((Int×ai)×ai)) :=
 cA (ab (aj (aO a.1.1<|len x.1)
 (ab (idx x.1 a.1.1) λb=>some (ca 48<|u8 b))
 (some false)) λb=>ab (aj b
 (ab (idx x.1 a.1.1) λc=>some (ca (u8 c) 55))
 (some false)) λc=>aj c
 (some<|Sum.inl ((ax i64 a.1.1 1,()),()))
 (some<|Sum.inr (0,(a.1.1,()),())))
def fX(x:Sb×ai)(a:(Int×Int×ai)×ai):Option (((Int×Int×ai)×ai)⊕(Nat×(Int×Int×ai)×ai)) :=
 aj (aO a.1.2.1<|len x.1)
 (ab (idx x.1 a.1.2.1) λc=>ab (aj (nt<|aL (u8 c) 0)
 (ab (idx x.1 a.1.2.1) λb=>some (nt<|aL (u8 b) 32))
 (some false)) λb=>aj b
 (some<|Sum.inr (1,((-1:Int),a.1.2.1,()),()))
 (some<|Sum.inl ((a.1.1,ax i64 a.1.2.1 1,()),())))
 (some<|Sum.inr (0,(a.1.1,a.1.2.1,()),()))
def fa(x:Sb×ai):Option (Int×ai) :=
 ab (Loop (fW x) (((0:Int),()),())) (λa=>aj (aL a.1.1<|len x.1)
 (some ((-1:Int),()))
 (ab (Loop (fX x) (((0:Int),a.1.1,()),())) λb=>aj (cR b.1 0)
 (aj (inside 0 a.1.1<|len x.1)
 (ab (l4 (sub x.1 (0:Int)<|minus a.1.1 0,())) λc=>aj (nt c.2.1)
 (some ((-1:Int),()))
 (some (c.1,())))
 none)
 (some (b.2.1.1,()))))
def eD(x:Sb×ai)(a:GN×ai):Option ((GN×ai)⊕(Nat×GN×ai)) :=
 aj (aO a.1.2.2.1<|len x.1)
 (ab (idx x.1 a.1.2.2.1) λb=>aj (nt<|aL (u8 b) 0)
 (some<|Sum.inr (1,(([]:aq),false,a.1.2.2.1,()),()))
 (some<|Sum.inl ((a.1.1,a.1.2.1,ax i64 a.1.2.2.1 1,()),())))
 (some<|Sum.inr (0,(a.1.1,a.1.2.1,a.1.2.2.1,()),()))
def dw(x:Sb×ai)(a:GN×ai):Option ((GN×ai)⊕(Nat×GN×ai)) :=
 aj (aO a.1.2.2.1<|len x.1)
 (ab (idx x.1 a.1.2.2.1) λc=>aj (aL (u8 c) 0)
 (ab (Loop (eD x) ((a.1.1,a.1.2.1,a.1.2.2.1,()),())) λb=>aj (cR b.1 0)
 (aj (inside 0 a.1.2.2.1<|len x.1)
 (some<|Sum.inr (1,(sub x.1 (0:Int)<|minus a.1.2.2.1 0,true,a.1.2.2.1,()),()))
 none)
 (some<|Sum.inr (1,(b.2.1.1,b.2.1.2.1,a.1.2.2.1,()),())))
 (some<|Sum.inl ((a.1.1,a.1.2.1,ax i64 a.1.2.2.1 1,()),())))
 (some<|Sum.inr (0,(a.1.1,a.1.2.1,a.1.2.2.1,()),()))
def nk(x:Sb×ai):Option (Sb×Bool×ai) :=
 ab (Loop (dw x) ((([]:aq),false,(0:Int),()),())) (λa=>aj (cR a.1 0)
 (some (x.1,true,()))
 (some (a.2.1.1,a.2.1.2.1,())))
def np(x:Sb×ai):Option (agz×Int×ai) :=
 ab (aj (nt<|nt<|aL (len x.1) 512)
 (aj (inside 257 265<|len x.1)
 (some<|nt<|bz (sub x.1 (257:Int)<|minus 265 257) ([117,115,116,97,114,0,48,48]:aq))
 none)
 (some true)) (λm=>ab (aj (nt m)
 (aj (inside 148 156<|len x.1)
 (ab (fa (sub x.1 (148:Int)<|minus 156 148,())) λg=>ab (vA (x.1,())) λd=>some (nt<|aL g.1 d.1))
 none)
 (some true)) λg=>aj g
 (some ((([]:aq),(0:Int),(0:Int),(0:Int),(0:Int),(0:Int),(0:Int),([]:aq),()),(2:Int),()))
 (aj (inside 0 100<|len x.1)
 (ab (nk (sub x.1 (0:Int)<|minus 100 0,())) λd=>aj (inside 157 257<|len x.1)
 (ab (nk (sub x.1 (157:Int)<|minus 257 157,())) λh=>aj (inside 345 500<|len x.1)
 (ab (nk (sub x.1 (345:Int)<|minus 500 345,())) λe=>aj (inside 100 108<|len x.1)
 (ab (fa (sub x.1 (100:Int)<|minus 108 100,())) λi=>aj (inside 108 116<|len x.1)
 (ab (fa (sub x.1 (108:Int)<|minus 116 108,())) λj=>aj (inside 116 124<|len x.1)
 (ab (fa (sub x.1 (116:Int)<|minus 124 116,())) λk=>aj (inside 124 136<|len x.1)
 (ab (fa (sub x.1 (124:Int)<|minus 136 124,())) λl=>aj (inside 136 148<|len x.1)
 (ab (fa (sub x.1 (136:Int)<|minus 148 136,())) λf=>ab (aj (nt<|bz e.1 ([]:aq))
 (aj (fits<|plus (len e.1)<|len ([47]:aq))
 (aj (fits<|plus (len<|app e.1 ([47]:aq))<|len d.1)
 (some ((),(app (app e.1 ([47]:aq)) d.1,(0:Int),i.1,j.1,k.1,l.1,f.1,([]:aq),()),()))
 none)
 none)
 (some ((),(d.1,(0:Int),i.1,j.1,k.1,l.1,f.1,([]:aq),()),()))) λa=>ab (idx x.1 (156:Int)) λb=>ab (aj (nt<|aj (nt<|aj (nt<|nt d.2.1)
 (nt h.2.1)
 true)
 (nt e.2.1)
 true)
 (ab (rZ (((aj (((aj (aL (u8 b) 48)
 ((aL (u8 b) 48,()),())
 ((aL (u8 b) 0,()),())).1).1)
 ((),(a.2.1.1,(1:Int),a.2.1.2.2),())
 ((),((aj (aL (u8 b) 53)
 ((),(a.2.1.1,(2:Int),a.2.1.2.2),())
 ((),((aj (aL (u8 b) 50)
 ((),(a.2.1.1,(3:Int),a.2.1.2.2.1,a.2.1.2.2.2.1,a.2.1.2.2.2.2.1,a.2.1.2.2.2.2.2.1,a.2.1.2.2.2.2.2.2.1,h.1,a.2.1.2.2.2.2.2.2.2.2),())
 ((),a.2.1,())).2).1,())).2).1,())).2).1,(256:Int),())) λc=>some (nt c.1))
 (some true)) λc=>aj c
 (some ((([]:aq),(0:Int),(0:Int),(0:Int),(0:Int),(0:Int),(0:Int),([]:aq),()),(2:Int),()))
 (some (((aj (((aj (aL (u8 b) 48)
 ((aL (u8 b) 48,()),())
 ((aL (u8 b) 0,()),())).1).1)
 ((),(a.2.1.1,(1:Int),a.2.1.2.2),())
 ((),((aj (aL (u8 b) 53)
 ((),(a.2.1.1,(2:Int),a.2.1.2.2),())
 ((),((aj (aL (u8 b) 50)
 ((),(a.2.1.1,(3:Int),a.2.1.2.2.1,a.2.1.2.2.2.1,a.2.1.2.2.2.2.1,a.2.1.2.2.2.2.2.1,a.2.1.2.2.2.2.2.2.1,h.1,a.2.1.2.2.2.2.2.2.2.2),())
 ((),a.2.1,())).2).1,())).2).1,())).2).1,(0:Int),())))
 none)
 none)
 none)
 none)
 none)
 none)
 none)
 none))
def ef(a:RD×(List ia)×ai):Option ((RD×(List ia)×ai)⊕(Nat×RD×(List ia)×ai)) :=
 aj (ca 512<|len a.1.1)
 (aj (inside 0 512<|len a.1.1)
 (ab (tB (sub a.1.1 (0:Int)<|minus 512 0,())) λe=>aj e.1
 (ab (tC (a.1.1,())) λb=>some (Sum.inr (1,(a.1.1,a.2.1,b.1,(),()),a.2.1,())))
 (aj (inside 0 512<|len a.1.1)
 (ab (np (sub a.1.1 (0:Int)<|minus 512 0,())) λb=>ab (aj (nt<|aj (nt<|nt<|aL b.2.1 0)
 (aO 8192 b.1.2.2.2.2.2.1)
 true)
 (ab (lL (b.1.2.2.2.2.2.1,())) λc=>some (aO (len a.1.1)<|ax i64 512 c.1))
 (some true)) λc=>aj (aj (nt c)
 (ca 64<|len a.2.1)
 true)
 (some<|Sum.inr (1,(a.1.1,a.2.1,false,(),()),a.2.1,()))
 (aj (inside 512 (ax i64 512 b.1.2.2.2.2.2.1)<|len a.1.1)
 (aj (fits<|plus (len a.2.1)<|len ([(b.1,sub a.1.1 (512:Int)<|minus (ax i64 512 b.1.2.2.2.2.2.1) 512,())]:List ia))
 (ab (lL (b.1.2.2.2.2.2.1,())) λd=>aj (inside (ax i64 512 d.1) (len a.1.1)<|len a.1.1)
 (some<|Sum.inl ((sub a.1.1 (ax i64 512 d.1)<|minus (len a.1.1)<|ax i64 512 d.1,a.1.2.1,a.1.2.2.1,(),()),app a.2.1 ([(b.1,sub a.1.1 (512:Int)<|minus (ax i64 512 b.1.2.2.2.2.2.1) 512,())]:List ia),()))
 none)
 none)
 none))
 none))
 none)
 (some<|Sum.inr (0,(a.1.1,a.1.2.1,a.1.2.2.1,(),()),a.2.1,()))
def rA(x:Sb×ai):Option ((List ia)×Bool×ai) :=
 aj (aO 8192<|len x.1)
 (some (([]:List ia),false,()))
 (ab (Loop (ef) ((x.1,([]:List ia),false,(),()),([]:List ia),())) λa=>aj (cR a.1 0)
 (some (a.2.2.1,false,()))
 (some (a.2.1.2.1,a.2.1.2.2.1,())))
def kK(x:Sb×ai):Option ((List ia)×Int×ai) :=
 ab (rA (x.1,())) (λa=>aj (nt a.2.1)
 (some (([]:List ia),(10:Int),()))
 (some (a.1,(0:Int),())))
def lM(x:Sb×ai):Option (Int×ai) :=
 ab (kK (x.1,())) (λb=>ab (aj (nt<|nt<|aL b.2.1 0)
 (ab (nU (b.1,())) λa=>some (nt a.1))
 (some true)) λa=>aj a
 (some ((10:Int),()))
 (some ((0:Int),())))
def rB(x:(List bN)×Sb×ai):Option nE :=
 ab (kJ (x.1,())) (λc=>aj (nt c.1)
 (some (([]:List bN),(1:Int),()))
 (ab (lM (x.2.1,())) λa=>aj (nt<|aL a.1 0)
 (some (([]:List bN),a.1,()))
 (ab (kK (x.2.1,())) λd=>ab (vH (x.1,d.1,())) λb=>some (b.1,b.2.1,()))))
def GQ(x:(List Sb)×ai)(a:GM×ai):Option ((GM×ai)⊕(Nat×GM×ai)) :=
 aj (aO a.1.2.2.2.1<|len x.1)
 (ab (idx x.1 a.1.2.2.2.1) λc=>ab (sF (a.1.2.2.1,c,())) λb=>aj (nt<|aL b.2.1 0)
 (some<|Sum.inr (1,(([]:List bN),b.2.1,a.1.2.2.1,a.1.2.2.2.1,()),()))
 (some<|Sum.inl ((a.1.1,a.1.2.1,b.1,ax i64 a.1.2.2.2.1 1,()),())))
 (some<|Sum.inr (0,(a.1.1,a.1.2.1,a.1.2.2.1,a.1.2.2.2.1,()),()))
def wz(x:(List Sb)×ai):Option nE :=
 ab (Loop (GQ x) ((([]:List bN),(0:Int),([]:List bN),(0:Int),()),())) (λa=>aj (cR a.1 0)
 (some (a.2.1.2.2.1,(0:Int),()))
 (some (a.2.1.1,a.2.1.2.1,())))
end Go.Ge
namespace Go.Ge
variable [Lp]
set_option maxRecDepth 100000
abbrev db:=(Sb×Sb×(List Sb)×Sb×Int×Int×Bool×ai)
abbrev tD:=(Sb×(List Sb)×Sb×Sb×Sb×(List<|Sb×Sb×Sb×ai)×ai)
abbrev tE:=(Sb×(List Sb)×Sb×Sb×(List<|Sb×Sb×Sb×ai)×ai)
abbrev jK:=((List tD)×(List tE)×(List db)×(List Sb)×(List<|Sb×Int×ai)×ai)
abbrev vI:=(Sb×Int×Int×Sb×Sb×ai)
abbrev nq:=(Bool×Int×ai)
abbrev BD:=((ai×ai×Int×ai)×(List Sb)×(List Sb)×ai)
abbrev tF:=(Nat×(Int×Int×ai)×ai)
abbrev aeN:=(List<|Sb×Sb×Sb×ai)
abbrev rC:=(Nat×nq×ai)
abbrev LY:=(Sb×(List db)×Int×ai×Int×ai)
abbrev pU:=((Int×Int×ai)×ai)
abbrev ahW:=((Nat×(ai×ai×Int×ai)×(List Sb)×(List Sb)×ai))
abbrev LZ:=((List vI)×Int×(List vI)×Int×ai)
abbrev lp:=(nq×ai)
abbrev se:=(Int×(List db)×(List tE)×(List tD)×ai)
abbrev Fa:=(Sb×Int×ai)
def pV(x:(List db)×ai)(a:nq×ai):Option (lp⊕rC) :=
 aj (aj (aO a.1.2.1<|len x.1)
 (aO a.1.2.1 40)
 false)
 (ab (idx x.1 a.1.2.1) λc=>ab (aj (nt<|aO 100<|len c.1)
 (ab (idx x.1 a.1.2.1) λb=>some (aO 100<|len b.2.1))
 (some true)) λb=>aj b
 (some<|Sum.inr (1,(false,a.1.2.1,()),()))
 (some<|Sum.inl ((a.1.1,ax i64 a.1.2.1 1,()),())))
 (some<|Sum.inr (0,(a.1.1,a.1.2.1,()),()))
def vJ(x:(List db)×ai):Option (Bool×ai) :=
 ab (Loop (pV x) ((false,(0:Int),()),())) (λa=>aj (cR a.1 0)
 (some (ca (len x.1) 40,()))
 (some (a.2.1.1,())))
def pW(x:jK×ai)(a:nq×ai):Option (lp⊕rC) :=
 aj (aj (aO a.1.2.1<|len x.1.2.2.2.1)
 (aO a.1.2.1 12)
 false)
 (ab (idx x.1.2.2.2.1 a.1.2.1) λb=>aj (aO 8192<|len b)
 (some<|Sum.inr (1,(false,a.1.2.1,()),()))
 (some<|Sum.inl ((a.1.1,ax i64 a.1.2.1 1,()),())))
 (some<|Sum.inr (0,(a.1.1,a.1.2.1,()),()))
def sf(x:jK×ai):Option (Bool×ai) :=
 ab (Loop (pW x) ((false,(0:Int),()),())) (λb=>aj (cR b.1 0)
 (ab (pa (((0:Int),x.1.2.2.1,x.1.2.1,x.1.1,()),())) λc=>ab (aj c.1
 (ab (vJ (x.1.2.2.1,())) λa=>some a.1)
 (some false)) λa=>some (aj (aj (aj a
 (ca (len x.1.2.2.1) 12)
 false)
 (ca (len x.1.2.2.2.1) 12)
 false)
 (ca (len x.1.2.2.2.2.1) 40)
 false,()))
 (some (b.2.1.1,())))
def jj(x:Sb×ai):Option (Bool×ai) :=
 ab (nR (x.1,())) (λa=>some (aj a.2.1
 (aL (len x.1) 6)
 false,()))
def lN(x:db×ai):Option (Bool×ai) :=
 ab (jj (x.1.1,())) (λd=>ab (aj d.1
 (ab (aj (nt<|bz x.1.2.1 ([]:aq))
 (ab (jj (x.1.2.1,())) λa=>some (aj a.1
 (nt<|bz x.1.2.1 x.1.1)
 false))
 (some true)) λa=>some a)
 (some false)) λa=>ab (aj a
 (ab (rm (x.1.2.2.1,())) λb=>some b.1)
 (some false)) λb=>ab (aj b
 (ab (eV (x.1.2.2.2.1,())) λc=>some (aL c.1 0))
 (some false)) λc=>some (aj (aj (aj (aj c
 (ca 0 x.1.2.2.2.2.1)
 false)
 (ca x.1.2.2.2.2.1 8192)
 false)
 (ca 0 x.1.2.2.2.2.2.1)
 false)
 (ca x.1.2.2.2.2.2.1 32)
 false,()))
def Cr(x:tE×ai):Option (Bool×ai) :=
 ab (jj (x.1.1,())) (λd=>ab (aj d.1
 (ab (rm (x.1.2.1,())) λb=>some b.1)
 (some false)) λb=>ab (aj b
 (ab (aj (nt<|bz x.1.2.2.1 ([]:aq))
 (ab (jj (x.1.2.2.1,())) λa=>some a.1)
 (some true)) λa=>some a)
 (some false)) λa=>ab (aj (aj a
 (ca (len x.1.2.2.2.1) 64)
 false)
 (ab (wy (x.1.2.2.2.2.1,())) λc=>some c.1)
 (some false)) λc=>some (c,()))
def Ig(x:tD×ai):Option (Bool×ai) :=
 ab (jj (x.1.1,())) (λe=>ab (aj e.1
 (ab (rm (x.1.2.1,())) λb=>some b.1)
 (some false)) λb=>ab (aj b
 (ab (aj (nt<|bz x.1.2.2.1 ([]:aq))
 (ab (jj (x.1.2.2.1,())) λa=>some a.1)
 (some true)) λa=>some a)
 (some false)) λa=>ab (aj a
 (ab (jj (x.1.2.2.2.1,())) λc=>some c.1)
 (some false)) λc=>ab (aj (aj c
 (ca (len x.1.2.2.2.2.1) 64)
 false)
 (ab (wy (x.1.2.2.2.2.2.1,())) λd=>some d.1)
 (some false)) λd=>some (d,()))
def GR(x:se×ai)(a:(ai×ai×Int×ai)×(List Sb)×(List Sb)×ai):Option (BD⊕BD) :=
 cA (aj (aO a.1.2.2.1<|len x.1.2.1)
 (ab (idx x.1.2.1 a.1.2.2.1) λb=>aj (fits<|plus (len a.2.2.1)<|len ([b.1]:List Sb))
 (ab (idx x.1.2.1 a.1.2.2.1) λc=>aj (fits<|plus (len a.2.1)<|len c.2.2.1)
 (some<|Sum.inl (((),(),ax i64 a.1.2.2.1 1,()),app a.2.1 c.2.2.1,app a.2.2.1 ([b.1]:List Sb),()))
 none)
 none)
 (some<|Sum.inr (0,((),(),a.1.2.2.1,()),a.2.1,a.2.2.1,())))
def GS(x:se×ai)(a:(ai×ai×Int×ai)×(List Sb)×(List Sb)×ai):Option (BD⊕BD) :=
 cA (aj (aO a.1.2.2.1<|len x.1.2.2.1)
 (ab (idx x.1.2.2.1 a.1.2.2.1) λb=>aj (fits<|plus (len a.2.2.1)<|len ([b.1]:List Sb))
 (ab (idx x.1.2.2.1 a.1.2.2.1) λc=>aj (fits<|plus (len a.2.1)<|len c.2.1)
 (some<|Sum.inl (((),(),ax i64 a.1.2.2.1 1,()),app a.2.1 c.2.1,app a.2.2.1 ([b.1]:List Sb),()))
 none)
 none)
 (some<|Sum.inr (0,((),(),a.1.2.2.1,()),a.2.1,a.2.2.1,())))
def GU(x:se×ai)(a:(ai×ai×Int×ai)×(List Sb)×(List Sb)×ai):Option (BD⊕BD) :=
 cA (aj (aO a.1.2.2.1<|len x.1.2.2.2.1)
 (ab (idx x.1.2.2.2.1 a.1.2.2.1) λb=>aj (fits<|plus (len a.2.2.1)<|len ([b.1]:List Sb))
 (ab (idx x.1.2.2.2.1 a.1.2.2.1) λc=>aj (fits<|plus (len a.2.1)<|len c.2.1)
 (some<|Sum.inl (((),(),ax i64 a.1.2.2.1 1,()),app a.2.1 c.2.1,app a.2.2.1 ([b.1]:List Sb),()))
 none)
 none)
 (some<|Sum.inr (0,((),(),a.1.2.2.1,()),a.2.1,a.2.2.1,())))
def Ct(x:se×ai):Option ((List Sb)×(List Sb)×ai) :=
 ab (Loop (GR x) (((),(),(0:Int),()),([]:List Sb),([]:List Sb),())) (λa=>ab (Loop (GS x) (((),(),(0:Int),()),a.2.1,a.2.2.1,())) λb=>ab (Loop (GU x) (((),(),(0:Int),()),b.2.1,b.2.2.1,())) λc=>some (c.2.2.1,c.2.1,()))
def gS(x:Int×se×ai)(a:(Int×Int×ai)×ai):Option (pU⊕tF) :=
 aj (aO a.1.2.1<|len x.2.1.2.1)
 (ab (idx x.2.1.2.1 a.1.2.1) λb=>ab (lN (b,())) λc=>aj (nt c.1)
 (some<|Sum.inr (1,((1:Int),a.1.2.1,()),()))
 (some<|Sum.inl ((a.1.1,ax i64 a.1.2.1 1,()),())))
 (some<|Sum.inr (0,(a.1.1,a.1.2.1,()),()))
def GV(x:Int×se×ai)(a:(Int×Int×ai)×ai):Option (pU⊕tF) :=
 aj (aO a.1.2.1<|len x.2.1.2.2.1)
 (ab (idx x.2.1.2.2.1 a.1.2.1) λb=>ab (Cr (b,())) λc=>aj (nt c.1)
 (some<|Sum.inr (1,((1:Int),a.1.2.1,()),()))
 (some<|Sum.inl ((a.1.1,ax i64 a.1.2.1 1,()),())))
 (some<|Sum.inr (0,(a.1.1,a.1.2.1,()),()))
def GW(x:Int×se×ai)(a:(Int×Int×ai)×ai):Option (pU⊕tF) :=
 aj (aO a.1.2.1<|len x.2.1.2.2.2.1)
 (ab (idx x.2.1.2.2.2.1 a.1.2.1) λc=>ab (Ig (c,())) λb=>aj (nt b.1)
 (some<|Sum.inr (1,((1:Int),a.1.2.1,()),()))
 (some<|Sum.inl ((a.1.1,ax i64 a.1.2.1 1,()),())))
 (some<|Sum.inr (0,(a.1.1,a.1.2.1,()),()))
def GX(b:(List Sb)×(List Sb)×ai)(a:(Int×Int×ai)×ai):Option (pU⊕tF) :=
 aj (aO a.1.2.1<|len b.1)
 (ab (idx b.1<|cE i64 a.1.2.1 1) λc=>ab (idx b.1 a.1.2.1) λd=>aj (nt<|jH c d)
 (some<|Sum.inr (1,((1:Int),a.1.2.1,()),()))
 (some<|Sum.inl ((a.1.1,ax i64 a.1.2.1 1,()),())))
 (some<|Sum.inr (0,(a.1.1,a.1.2.1,()),()))
def GY(e:(List Sb)×(List Sb)×ai)(b:(Int×Int×ai)×ai)(a:(Int×Int×ai)×ai):Option (pU⊕tF) :=
 aj (aO a.1.2.1 b.1.2.1)
 (ab (idx e.2.1 a.1.2.1) λc=>ab (idx e.2.1 b.1.2.1) λd=>aj (bz c d)
 (some<|Sum.inr (1,((1:Int),a.1.2.1,()),()))
 (some<|Sum.inl ((a.1.1,ax i64 a.1.2.1 1,()),())))
 (some<|Sum.inr (0,(a.1.1,a.1.2.1,()),()))
def GZ(c:(List Sb)×(List Sb)×ai)(a:(Int×Int×ai)×ai):Option (pU⊕tF) :=
 aj (aO a.1.2.1<|len c.2.1)
 (ab (Loop (GY c a) ((a.1.1,(0:Int),()),())) λb=>aj (cR b.1 0)
 (some<|Sum.inl ((b.2.1.1,ax i64 a.1.2.1 1,()),()))
 (some<|Sum.inr (1,(b.2.1.1,a.1.2.1,()),())))
 (some<|Sum.inr (0,(a.1.1,a.1.2.1,()),()))
def gJ(x:Int×se×ai):Option (Int×ai) :=
 aj (aO x.1 1)
 (some ((1:Int),()))
 (aj (aO 3 x.1)
 (some ((1:Int),()))
 (aj (aO x.2.1.1 0)
 (some ((1:Int),()))
 (aj (aO 9007199254740992 x.2.1.1)
 (some ((1:Int),()))
 (aj (within x.1 4)
 (ab (idx ([(0:Int),len x.2.1.2.2.2.1,len x.2.1.2.2.1,len x.2.1.2.1]:List (Int)) x.1) λg=>aj (aO 32 g)
 (some ((1:Int),()))
 (aj (within 1 4)
 (ab (idx ([(0:Int),len x.2.1.2.2.2.1,len x.2.1.2.2.1,len x.2.1.2.1]:List (Int)) (1:Int)) λh=>aj (within 2 4)
 (ab (idx ([(0:Int),len x.2.1.2.2.2.1,len x.2.1.2.2.1,len x.2.1.2.1]:List (Int)) (2:Int)) λi=>aj (within 3 4)
 (ab (idx ([(0:Int),len x.2.1.2.2.2.1,len x.2.1.2.2.1,len x.2.1.2.1]:List (Int)) (3:Int)) λj=>aj (within x.1 4)
 (ab (idx ([(0:Int),len x.2.1.2.2.2.1,len x.2.1.2.2.1,len x.2.1.2.1]:List (Int)) x.1) λk=>aj (nt<|aL (ax i64 (ax i64 h i) j) k)
 (some ((1:Int),()))
 (ab (Loop (gS x) (((0:Int),(0:Int),()),())) λc=>aj (cR c.1 0)
 (ab (Loop (GV x) ((c.2.1.1,(0:Int),()),())) λd=>aj (cR d.1 0)
 (ab (Loop (GW x) ((d.2.1.1,(0:Int),()),())) λe=>aj (cR e.1 0)
 (ab (Ct (x.2.1,())) λf=>ab (Loop (GX f) ((e.2.1.1,(1:Int),()),())) λa=>aj (cR a.1 0)
 (ab (Loop (GZ f) ((a.2.1.1,(0:Int),()),())) λb=>aj (cR b.1 0)
 (some ((0:Int),()))
 (some (b.2.1.1,())))
 (some (a.2.1.1,())))
 (some (e.2.1.1,())))
 (some (d.2.1.1,())))
 (some (c.2.1.1,()))))
 none)
 none)
 none)
 none))
 none))))
def Jg(x:(List db)×Sb×ai)(a:(Int×Int×ai)×ai):Option (pU⊕tF) :=
 aj (aO a.1.2.1<|len x.1)
 (ab (idx x.1 a.1.2.1) λb=>aj (bz b.1 x.2.1)
 (some<|Sum.inr (1,(a.1.2.1,a.1.2.1,()),()))
 (some<|Sum.inl ((a.1.1,ax i64 a.1.2.1 1,()),())))
 (some<|Sum.inr (0,(a.1.1,a.1.2.1,()),()))
def yA(x:(List db)×Sb×ai):Option (Int×ai) :=
 ab (Loop (Jg x) (((0:Int),(0:Int),()),())) (λa=>aj (cR a.1 0)
 (some ((-1:Int),()))
 (some (a.2.1.1,())))
def ke(x:(List db)×Sb×ai)(a:LY×(List db)×ai):Option ((LY×(List db)×ai)⊕(Nat×LY×(List db)×ai)) :=
 aj (ca a.1.2.2.2.2.1 16)
 (ab (yA (x.1,a.1.1,())) λb=>aj (aO b.1 0)
 (some<|Sum.inr (1,(a.1.1,([]:List db),(3:Int),(),a.1.2.2.2.2.1,()),a.2.1,()))
 (aj (aL a.1.2.2.2.2.1 16)
 (some<|Sum.inr (1,(a.1.1,([]:List db),(5:Int),(),a.1.2.2.2.2.1,()),a.2.1,()))
 (ab (idx x.1 b.1) λc=>aj (fits<|plus (len a.2.1)<|len ([c]:List db))
 (ab (idx x.1 b.1) λd=>aj (bz d.2.1 ([]:aq))
 (some<|Sum.inr (1,(a.1.1,app a.2.1 ([c]:List db),(0:Int),(),a.1.2.2.2.2.1,()),app a.2.1 ([c]:List db),()))
 (ab (idx x.1 b.1) λe=>some (Sum.inl ((e.2.1,a.1.2.1,a.1.2.2.1,(),ax i64 a.1.2.2.2.2.1 1,()),app a.2.1 ([c]:List db),()))))
 none)))
 (some<|Sum.inr (0,(a.1.1,a.1.2.1,a.1.2.2.1,(),a.1.2.2.2.2.1,()),a.2.1,()))
def gK(x:(List db)×Sb×ai):Option ((List db)×Int×ai) :=
 ab (Loop (ke x) ((x.2.1,([]:List db),(0:Int),(),(0:Int),()),([]:List db),())) (λa=>aj (cR a.1 0)
 (some (([]:List db),(5:Int),()))
 (some (a.2.1.2.1,a.2.1.2.2.1,())))
def G0(x:(List db)×ai)(a:(Int×Int×ai)×ai):Option (pU⊕tF) :=
 aj (aO a.1.2.1<|len x.1)
 (ab (idx x.1 a.1.2.1) λb=>ab (gK (x.1,b.1,())) λc=>aj (nt<|aL c.2.1 0)
 (some<|Sum.inr (1,((2:Int),a.1.2.1,()),()))
 (some<|Sum.inl ((a.1.1,ax i64 a.1.2.1 1,()),())))
 (some<|Sum.inr (0,(a.1.1,a.1.2.1,()),()))
def wA(x:(List db)×ai):Option (Int×ai) :=
 ab (Loop (G0 x) (((0:Int),(0:Int),()),())) (λa=>aj (cR a.1 0)
 (some ((0:Int),()))
 (some (a.2.1.1,())))
def Jh(x:jK×Sb×ai)(a:(Int×Int×ai)×ai):Option (pU⊕tF) :=
 aj (aO a.1.2.1<|len x.1.2.2.1)
 (ab (idx x.1.2.2.1 a.1.2.1) λb=>aj (bz b.1 x.2.1)
 (some<|Sum.inr (1,(a.1.2.1,a.1.2.1,()),()))
 (some<|Sum.inl ((a.1.1,ax i64 a.1.2.1 1,()),())))
 (some<|Sum.inr (0,(a.1.1,a.1.2.1,()),()))
def kL(x:jK×Sb×ai):Option (Int×ai) :=
 ab (Loop (Jh x) (((0:Int),(0:Int),()),())) (λa=>aj (cR a.1 0)
 (some ((-1:Int),()))
 (some (a.2.1.1,())))
def pX(x:jK×Int×ai):Option (Sb×ai) :=
 aj (aO x.2.1<|len x.1.2.2.2.1)
 (ab (idx x.1.2.2.2.1 x.2.1) λa=>some (a,()))
 (some (([]:aq),()))
def fK(x:(List Sb)×ai)(a:LZ×ai):Option ((LZ×ai)⊕(Nat×LZ×ai)) :=
 aj (aO a.1.2.2.2.1<|len x.1)
 (ab (idx x.1 a.1.2.2.2.1) λc=>ab (rB (a.1.2.2.1,c,())) λb=>aj (nt<|aL b.2.1 0)
 (some<|Sum.inr (1,(([]:List vI),b.2.1,a.1.2.2.1,a.1.2.2.2.1,()),()))
 (some<|Sum.inl ((a.1.1,a.1.2.1,b.1,ax i64 a.1.2.2.2.1 1,()),())))
 (some<|Sum.inr (0,(a.1.1,a.1.2.1,a.1.2.2.1,a.1.2.2.2.1,()),()))
def vK(x:(List Sb)×ai):Option ((List vI)×Int×ai) :=
 ab (Loop (fK x) ((([]:List vI),(0:Int),([]:List vI),(0:Int),()),())) (λa=>aj (cR a.1 0)
 (some (a.2.1.2.2.1,(0:Int),()))
 (some (a.2.1.1,a.2.1.2.1,())))
def lq(x:jK×Sb×ai)(c:(List db)×Int×ai)(a:(ai×Int×ai)×(List Sb)×ai):Option (((ai×Int×ai)×(List Sb)×ai)⊕((ai×Int×ai)×(List Sb)×ai)) :=
 cA (aj (ca 0 a.1.2.1)
 (ab (idx c.1 a.1.2.1) λd=>ab (kL (x.1,d.1,())) λe=>ab (pX (x.1,e.1,())) λb=>aj (fits<|plus (len a.2.1)<|len ([b.1]:List Sb))
 (some<|Sum.inl (((),cE i64 a.1.2.1 1,()),app a.2.1 ([b.1]:List Sb),()))
 none)
 (some<|Sum.inr (0,((),a.1.2.1,()),a.2.1,())))
def kM(x:jK×Sb×ai):Option ((List vI)×Int×ai) :=
 ab (gK (x.1.2.2.1,x.2.1,())) (λa=>aj (nt<|aL a.2.1 0)
 (some (([]:List vI),a.2.1,()))
 (ab (Loop (lq x a) (((),cE i64 (len a.1) 1,()),([]:List Sb),())) λc=>ab (vK (c.2.1,())) λb=>some (b.1,b.2.1,())))
def pY(x:jK×ai)(a:nq×ai):Option (lp⊕rC) :=
 aj (aj (aO a.1.2.1<|len x.1.2.2.1)
 (aO a.1.2.1<|len x.1.2.2.2.1)
 false)
 (ab (idx x.1.2.2.1 a.1.2.1) λb=>aj (nt b.2.2.2.2.2.2.1)
 (some<|Sum.inr (1,(false,a.1.2.1,()),()))
 (aj (nt<|aL b.2.2.2.2.2.1 0)
 (some<|Sum.inr (1,(false,a.1.2.1,()),()))
 (ab (idx x.1.2.2.2.1 a.1.2.1) λc=>aj (nt<|aL b.2.2.2.2.1<|len c)
 (some<|Sum.inr (1,(false,a.1.2.1,()),()))
 (ab (idx x.1.2.2.2.1 a.1.2.1) λd=>ab (qG (d,())) λe=>aj (nt<|bz b.2.2.2.1 e.1)
 (some<|Sum.inr (1,(false,a.1.2.1,()),()))
 (ab (idx x.1.2.2.2.1 a.1.2.1) λf=>ab (lM (f,())) λg=>aj (nt<|aL g.1 0)
 (some<|Sum.inr (1,(false,a.1.2.1,()),()))
 (ab (kM (x.1,b.1,())) λh=>aj (nt<|aL h.2.1 0)
 (some<|Sum.inr (1,(false,a.1.2.1,()),()))
 (some<|Sum.inl ((a.1.1,ax i64 a.1.2.1 1,()),()))))))))
 (some<|Sum.inr (0,(a.1.1,a.1.2.1,()),()))
def mK(x:jK×ai):Option (Bool×ai) :=
 ab (aj (nt<|nt<|aL (len x.1.2.2.2.1)<|len x.1.2.2.1)
 (ab (wA (x.1.2.2.1,())) λa=>some (nt<|aL a.1 0))
 (some true)) (λa=>aj a
 (some (false,()))
 (ab (Loop (pY x) ((false,(0:Int),()),())) λb=>aj (cR b.1 0)
 (some (true,()))
 (some (b.2.1.1,()))))
def Ax(x:jK×ai)(a:nq×ai):Option (lp⊕rC) :=
 aj (aO a.1.2.1<|len x.1.2.1)
 (ab (idx x.1.2.1 a.1.2.1) λb=>aj (nt<|bz b.2.2.1 ([]:aq))
 (ab (idx x.1.2.1 a.1.2.1) λc=>ab (kL (x.1,c.2.2.1,())) λd=>aj (aO d.1 0)
 (some<|Sum.inr (1,(false,a.1.2.1,()),()))
 (some<|Sum.inl ((a.1.1,ax i64 a.1.2.1 1,()),())))
 (some<|Sum.inl ((a.1.1,ax i64 a.1.2.1 1,()),())))
 (some<|Sum.inr (0,(a.1.1,a.1.2.1,()),()))
def L1(x:jK×ai)(b:Sb×(List Sb)×Sb×Sb×Sb×aeN×ai)(a:nq×ai):Option (lp⊕lp) :=
 cA (aj (aO a.1.2.1<|len x.1.2.1)
 (aj a.1.1
 (some<|Sum.inl ((true,ax i64 a.1.2.1 1,()),()))
 (ab (idx x.1.2.1 a.1.2.1) λc=>some (Sum.inl ((bz c.1 b.2.2.1,ax i64 a.1.2.1 1,()),()))))
 (some<|Sum.inr (0,(a.1.1,a.1.2.1,()),())))
def Ay(x:jK×ai)(a:nq×ai):Option (lp⊕rC) :=
 aj (aO a.1.2.1<|len x.1.1)
 (ab (idx x.1.1 a.1.2.1) λb=>ab (Loop (L1 x b) ((bz b.2.2.1 ([]:aq),(0:Int),()),())) λd=>ab (aj (nt<|nt d.1.1)
 (ab (kL (x.1,b.2.2.2.1,())) λc=>some (aO c.1 0))
 (some true)) λc=>aj c
 (some<|Sum.inr (1,(false,a.1.2.1,()),()))
 (some<|Sum.inl ((a.1.1,ax i64 a.1.2.1 1,()),())))
 (some<|Sum.inr (0,(a.1.1,a.1.2.1,()),()))
def Az(x:jK×ai)(a:nq×ai):Option (lp⊕rC) :=
 aj (aO a.1.2.1<|len x.1.2.2.2.2.1)
 (ab (idx x.1.2.2.2.2.1 a.1.2.1) λb=>ab (kL (x.1,b.1,())) λd=>aj (aO d.1 0)
 (some<|Sum.inr (1,(false,a.1.2.1,()),()))
 (aj (aO b.2.1 1)
 (some<|Sum.inr (1,(false,a.1.2.1,()),()))
 (aj (aO 1000 b.2.1)
 (some<|Sum.inr (1,(false,a.1.2.1,()),()))
 (aj (aO 0 a.1.2.1)
 (ab (idx x.1.2.2.2.2.1<|cE i64 a.1.2.1 1) λc=>aj (nt<|jH c.1 b.1)
 (some<|Sum.inr (1,(false,a.1.2.1,()),()))
 (some<|Sum.inl ((a.1.1,ax i64 a.1.2.1 1,()),())))
 (some<|Sum.inl ((a.1.1,ax i64 a.1.2.1 1,()),()))))))
 (some<|Sum.inr (0,(a.1.1,a.1.2.1,()),()))
def sg(x:jK×ai):Option (Bool×ai) :=
 ab (gJ ((1:Int),((0:Int),([]:List db),([]:List tE),x.1.1,()),())) (λg=>ab (aj (nt<|nt<|aL g.1 0)
 (ab (gJ ((2:Int),((0:Int),([]:List db),x.1.2.1,([]:List tD),()),())) λa=>some (nt<|aL a.1 0))
 (some true)) λa=>ab (aj (nt a)
 (ab (gJ ((3:Int),((0:Int),x.1.2.2.1,([]:List tE),([]:List tD),()),())) λb=>some (nt<|aL b.1 0))
 (some true)) λb=>ab (aj (nt b)
 (ab (mK (x.1,())) λc=>some (nt c.1))
 (some true)) λc=>aj (aj (nt c)
 (aO 32<|len x.1.2.2.2.2.1)
 true)
 (some (false,()))
 (ab (Loop (Ax x) ((false,(0:Int),()),())) λd=>aj (cR d.1 0)
 (ab (Loop (Ay x) ((d.2.1.1,(0:Int),()),())) λe=>aj (cR e.1 0)
 (ab (Loop (Az x) ((e.2.1.1,(0:Int),()),())) λf=>aj (cR f.1 0)
 (some (true,()))
 (some (f.2.1.1,())))
 (some (e.2.1.1,())))
 (some (d.2.1.1,()))))
def jk(x:(List tD)×(List tD)×ai)(a:nq×ai):Option (lp⊕rC) :=
 aj (aj (aO a.1.2.1<|len x.1)
 (aO a.1.2.1<|len x.2.1)
 false)
 (ab (idx x.1 a.1.2.1) λb=>ab (idx x.2.1 a.1.2.1) λc=>ab (aj (nt<|nt<|bz b.1 c.1)
 (ab (dH (b.2.1,c.2.1,())) λd=>some (nt d.1))
 (some true)) λd=>ab (aj (nt<|aj (nt<|aj (nt<|aj (nt d)
 (nt<|bz b.2.2.1 c.2.2.1)
 true)
 (nt<|bz b.2.2.2.1 c.2.2.2.1)
 true)
 (nt<|bz b.2.2.2.2.1 c.2.2.2.2.1)
 true)
 (ab (fU (b.2.2.2.2.2.1,c.2.2.2.2.2.1,())) λe=>some (nt e.1))
 (some true)) λe=>aj e
 (some<|Sum.inr (1,(false,a.1.2.1,()),()))
 (some<|Sum.inl ((a.1.1,ax i64 a.1.2.1 1,()),())))
 (some<|Sum.inr (0,(a.1.1,a.1.2.1,()),()))
def l6(x:(List tD)×(List tD)×ai):Option (Bool×ai) :=
 aj (nt<|aL (len x.1)<|len x.2.1)
 (some (false,()))
 (ab (Loop (jk x) ((false,(0:Int),()),())) λa=>aj (cR a.1 0)
 (some (true,()))
 (some (a.2.1.1,())))
def iu(x:(List tE)×(List tE)×ai)(a:nq×ai):Option (lp⊕rC) :=
 aj (aj (aO a.1.2.1<|len x.1)
 (aO a.1.2.1<|len x.2.1)
 false)
 (ab (idx x.1 a.1.2.1) λb=>ab (idx x.2.1 a.1.2.1) λc=>ab (aj (nt<|nt<|bz b.1 c.1)
 (ab (dH (b.2.1,c.2.1,())) λd=>some (nt d.1))
 (some true)) λd=>ab (aj (nt<|aj (nt<|aj (nt d)
 (nt<|bz b.2.2.1 c.2.2.1)
 true)
 (nt<|bz b.2.2.2.1 c.2.2.2.1)
 true)
 (ab (fU (b.2.2.2.2.1,c.2.2.2.2.1,())) λe=>some (nt e.1))
 (some true)) λe=>aj e
 (some<|Sum.inr (1,(false,a.1.2.1,()),()))
 (some<|Sum.inl ((a.1.1,ax i64 a.1.2.1 1,()),())))
 (some<|Sum.inr (0,(a.1.1,a.1.2.1,()),()))
def kN(x:(List tE)×(List tE)×ai):Option (Bool×ai) :=
 aj (nt<|aL (len x.1)<|len x.2.1)
 (some (false,()))
 (ab (Loop (iu x) ((false,(0:Int),()),())) λa=>aj (cR a.1 0)
 (some (true,()))
 (some (a.2.1.1,())))
def iv(x:(List db)×(List db)×ai)(a:nq×ai):Option (lp⊕rC) :=
 aj (aj (aO a.1.2.1<|len x.1)
 (aO a.1.2.1<|len x.2.1)
 false)
 (ab (idx x.1 a.1.2.1) λb=>ab (idx x.2.1 a.1.2.1) λc=>ab (aj (nt<|aj (nt<|nt<|bz b.1 c.1)
 (nt<|bz b.2.1 c.2.1)
 true)
 (ab (dH (b.2.2.1,c.2.2.1,())) λd=>some (nt d.1))
 (some true)) λd=>aj (aj (nt<|aj (nt<|aj (nt<|aj (nt d)
 (nt<|bz b.2.2.2.1 c.2.2.2.1)
 true)
 (nt<|aL b.2.2.2.2.1 c.2.2.2.2.1)
 true)
 (nt<|aL b.2.2.2.2.2.1 c.2.2.2.2.2.1)
 true)
 (nt<|eqB b.2.2.2.2.2.2.1 c.2.2.2.2.2.2.1)
 true)
 (some<|Sum.inr (1,(false,a.1.2.1,()),()))
 (some<|Sum.inl ((a.1.1,ax i64 a.1.2.1 1,()),())))
 (some<|Sum.inr (0,(a.1.1,a.1.2.1,()),()))
def kO(x:(List db)×(List db)×ai):Option (Bool×ai) :=
 aj (nt<|aL (len x.1)<|len x.2.1)
 (some (false,()))
 (ab (Loop (iv x) ((false,(0:Int),()),())) λa=>aj (cR a.1 0)
 (some (true,()))
 (some (a.2.1.1,())))
def iw(x:(List Fa)×(List Fa)×ai)(a:nq×ai):Option (lp⊕rC) :=
 aj (aj (aO a.1.2.1<|len x.1)
 (aO a.1.2.1<|len x.2.1)
 false)
 (ab (idx x.1 a.1.2.1) λb=>ab (idx x.2.1 a.1.2.1) λc=>aj (nt<|an (bz b.1 c.1)<|an (aL b.2.1 c.2.1) true)
 (some<|Sum.inr (1,(false,a.1.2.1,()),()))
 (some<|Sum.inl ((a.1.1,ax i64 a.1.2.1 1,()),())))
 (some<|Sum.inr (0,(a.1.1,a.1.2.1,()),()))
def kP(x:(List Fa)×(List Fa)×ai):Option (Bool×ai) :=
 aj (nt<|aL (len x.1)<|len x.2.1)
 (some (false,()))
 (ab (Loop (iw x) ((false,(0:Int),()),())) λa=>aj (cR a.1 0)
 (some (true,()))
 (some (a.2.1.1,())))
def pZ(x:jK×jK×ai):Option (Bool×ai) :=
 ab (l6 (x.1.1,x.2.1.1,())) (λe=>ab (aj e.1
 (ab (kN (x.1.2.1,x.2.1.2.1,())) λa=>some a.1)
 (some false)) λa=>ab (aj a
 (ab (kO (x.1.2.2.1,x.2.1.2.2.1,())) λb=>some b.1)
 (some false)) λb=>ab (aj b
 (ab (dH (x.1.2.2.2.1,x.2.1.2.2.2.1,())) λc=>some c.1)
 (some false)) λc=>ab (aj c
 (ab (kP (x.1.2.2.2.2.1,x.2.1.2.2.2.2.1,())) λd=>some d.1)
 (some false)) λd=>some (d,()))
end Go.Ge
namespace Go.Ge
variable [Lp]
def idN(n:Int):Tx:=sB (aX [kq .u8<|mQ .i64 n 16,kq .u8 (mQ .i64 n 8),kq .u8 n])
def idK(d:Int)(k:Nat):Tx:=idN (iA (ax .i64 (jQ .i64 d 16777215) (k:Int)) 16777216)
def Um(s:Tx):Prop:=(oK s).isSome=true/\s.length=6
theorem N8(n:Int):vF (n,())=some (idN n,()):=by
 unfold vF;rw[show aO (16:Int) 0=false from rfl,af,show aO (8:Int) 0=false from rfl,af,Yt _ (by show 3<=1048576;omega),aa];rfl
def L2(l:List Nm)(d:Int)(k:Nat):Bool:=decide (∀x∈l,x.1≠idK d k)
def qM(l:List Nm)(d:Int):Tx×Int×ai:=if 32<=l.length then([],5,()) else
 match(List.range<|l.length+1).find? (L2 l d) with|some k=>(idK d k,0,())|none=>([],5,())
theorem Z7(l:List Nm)(d:Int)(s:Tx)(k:l.length<=1000000) :
  (∃i:Nat,Loop (fT (l,d,())) (((0:Int),(0:Int),()),s,())=some (1,((i:Int),(i:Int),()),s,())/\∃x∈l,x.1=s) \/
  (Loop (fT (l,d,())) (((0:Int),(0:Int),()),s,())=some (0,((0:Int),len l,()),s,())/\∀x∈l,x.1≠s):=by
 rcases qF (f:=fT (l,d,())) l (λi=>(((0:Int),i,()),s,())) (λ_ x=>decide (x.1=s)) (λi x=>(1,((i:Int),(i:Int),()),s,())) (0,((0:Int),len l,()),s,()) (by omega) (λi x a b c=>by
  unfold fT;dsimp only;rw[au b,ae,az a,aa,gX,c];by_cases h:x.1=s<;>simp[bz,h]) (by unfold fT;dsimp only;rw[aB,af];rfl) with ⟨i,x,a,e,m,h⟩|⟨g,h⟩
 .exact .inl ⟨i,h,x,iy a,kx e⟩
 .refine .inr ⟨h,λx a j=>?_⟩;obtain⟨i,b⟩:=bR.1 a;have:=g i x b;simp[j] at this
theorem Z8(l:List Nm)(d:Int):hW (l,d,())=some (qM l d):=by
 unfold hW qM;dsimp only;have g:ca (32:Int) (len l)=decide (32<=l.length):=by unfold ca len;apply ky.2;omega
 rw[g];by_cases a:32<=l.length
 .rw[cd a,bd a];rfl
 rw[dL a,bb a,af];have b:ax .i64 (len l) 1=((l.length+1:Nat):Int):=by rw[fE (by unfold len;omega)<|by unfold len;omega];unfold len;omega
 have hlen:(List.range<|l.length+1).length=l.length+1:=XI;have key:∀k:Nat,k<l.length+1->jg (l,d,()) ((([]:Tx),(0:Int),(k:Int),()),())=some (if L2 l d k=true then .inr (1,(idK d k,(0:Int),(k:Int),()),()) else .inl ((([]:Tx),(0:Int),((k+1:Nat):Int),()),())):=λk c=>by
  have m:ax .i64 (k:Int) 1=((k+1:Nat):Int):=aT (by omega);unfold jg;dsimp only;rw[b,aU (by omega),ae,show aL (16777216:Int) 0=false from rfl,af,N8,aa,m];dsimp only;show ab (Loop _ (((0:Int),(0:Int),()),idK d k,())) _=_
  rcases Z7 l d (idK d k) (by omega) with ⟨i,h,x,e,r⟩|⟨h,n⟩
  .rw[h,aa];dsimp only;rw[show cR 1 0=false from rfl,af,cr (by omega),aH,af,bb (by unfold L2;rw[XG];exact λs=>s x e r)]
  .rw[h,aa];dsimp only;rw[show cR 0 0=true from rfl,ae,show nt (ca (0:Int)<|-1)=true from rfl,ae,bd (by unfold L2;rw[XG];exact n)];rfl
 rcases qF (f:=jg (l,d,())) (List.range<|l.length+1) (λk=>((([]:Tx),(0:Int),k,()),())) (λk _=>L2 l d k) (λk _=>(1,(idK d k,(0:Int),(k:Int),()),())) (0,(([]:Tx),(0:Int),((l.length+1:Nat):Int),()),()) (by rw[hlen];omega)
  (λk x e q v=>key k (by rw[hlen] at q;exact q)) (by
   unfold jg;dsimp only;rw[b,hlen,aD (by omega),af]) with ⟨k,x,e,t,u,h⟩|⟨n,h⟩
 .have c:=aG e;rw[hlen] at c;rw[h,aa];have o:(List.range<|l.length+1).find? (L2 l d)=some k:=by
   rw[aaV];refine⟨t,k,by rw[hlen];exact c,by simp,λj p=>?_⟩;have:=u j j p (by rw[O3<|by omega]);simpa using this
  rw[o];rfl
 .rw[h,aa];have o:(List.range<|l.length+1).find? (L2 l d)=none:=by
   rw[SG];intro k c;have c:=B5.1 c;have:=n k k (by rw[O3 c]);simpa using this
  rw[o];rfl
set_option maxRecDepth 100000
abbrev cY:=((List<|Sb×(List Sb)×Sb×Sb×Sb×(List<|Sb×Sb×Sb×ai)×ai)×(List<|Sb×(List Sb)×Sb×Sb×(List<|Sb×Sb×Sb×ai)×ai)×(List<|Sb×Sb×(List Sb)×Sb×Int×Int×Bool×ai)×(List Sb)×(List<|Sb×Int×ai)×ai)
abbrev bV:=(Sb×Sb×(List Sb)×Sb×Int×Int×Bool×ai)
abbrev sG:=(Sb×Int×ai)
abbrev DD:=(Int×Sb×Int×Sb×ai)
abbrev uQ:=(Sb×Int×Int×Sb×Sb×ai)
abbrev AA:=(Nat×(Int×Int×ai)×Sb×ai)
abbrev AB:=((Int×Int×ai)×Sb×ai)
abbrev agA:=(Sb×(List Sb)×Sb×Sb×Sb×(List<|Sb×Sb×Sb×ai)×ai)
abbrev AD:=(Sb×Int×Int×ai)
abbrev G1:=(Sb×(List Sb)×ai)
abbrev aeO:=(Sb×(List Sb)×Sb×Sb×(List<|Sb×Sb×Sb×ai)×ai)
abbrev BE:=((List bV)×Int×ai×Sb×Int×ai)
abbrev gy:=(Int×Int×ai)
abbrev vL:=((List bV)×Int×ai×Sb×ai)
abbrev RJ:=(Int×Sb×Int×ai)
abbrev RL:=(Nat×gy×ai×Sb×ai)
abbrev Fb:=(aq×(aq×((List aq)×(aq×(Int×(Int×(Bool×ai)))))))
abbrev aiC:=((ai×ai×Bool×Int×ai)×(List Sb)×(List bV)×ai)
abbrev RM:=(gy×ai×Sb×ai)
abbrev Yz:=((Int×Int×ai×ai)×Sb×(List sG)×ai)
abbrev RN:=(Nat×AD×ai)
def er(l:List aq)(x:(Int×((List aq)×ai))):Option (List aq):=Dg l x.1 x.2.1
def dc(l:List Fb)(x:(Int×((List Fb)×ai))):Option (List Fb):=Dg l x.1 x.2.1
def fL(l:List aq)(x:(Int×(Int×ai))):Option (List aq):=TZ l x.1 x.2.1
def ez(l:List Fb)(x:(Int×(Int×ai))):Option (List Fb):=TZ l x.1 x.2.1
def eA(l:List (aq×(Int×ai)))(x:(Int×((List<|aq×(Int×ai))×ai))):Option (List<|aq×(Int×ai)):=Dg l x.1 x.2.1
def rD(x:ai):Option (Sb×ai) :=
 ab (mV (([0]:aq),(1024:Int),())) (λa=>some (a.1,()))
def kf(x:(List bV)×Sb×ai)(a:BE×(List bV)×ai):Option ((BE×(List bV)×ai)⊕(Nat×BE×(List bV)×ai)) :=
 aj (aO a.1.2.2.2.2.1<|len x.1)
 (ab (idx x.1 a.1.2.2.2.2.1) λb=>aj (nt<|bz b.1 a.1.2.2.2.1)
 (some<|Sum.inl ((a.1.1,a.1.2.1,(),a.1.2.2.2.1,ax i64 a.1.2.2.2.2.1 1,()),a.2.1,()))
 (aj (aL (len a.2.1) 16)
 (some<|Sum.inr (1,(([]:List bV),(5:Int),(),a.1.2.2.2.1,a.1.2.2.2.2.1,()),a.2.1,()))
 (ab (aP (b.2.2.1,())) λc=>aj (fits<|plus (len a.2.1)<|len ([(b.1,b.2.1,c.1,b.2.2.2)]:List bV))
 (aj (bz b.2.1 ([]:aq))
 (some<|Sum.inr (2,(a.1.1,a.1.2.1,(),a.1.2.2.2.1,a.1.2.2.2.2.1,()),app a.2.1 ([(b.1,b.2.1,c.1,b.2.2.2)]:List bV),()))
 (some<|Sum.inr (3,(a.1.1,a.1.2.1,(),b.2.1,a.1.2.2.2.2.1,()),app a.2.1 ([(b.1,b.2.1,c.1,b.2.2.2)]:List bV),())))
 none)))
 (some<|Sum.inr (0,(a.1.1,a.1.2.1,(),a.1.2.2.2.1,a.1.2.2.2.2.1,()),a.2.1,()))
def nu(x:(List bV)×Sb×ai)(c:vL×(List bV)×ai):Option ((vL×(List bV)×ai)⊕(Nat×vL×(List bV)×ai)) :=
 ab (Loop (kf x) ((c.1.1,c.1.2.1,(),c.1.2.2.2.1,(0:Int),()),c.2.1,())) (λa=>aj (cR a.1 0)
 (some<|Sum.inr (0,(([]:List bV),(3:Int),(),a.2.1.2.2.2.1,()),a.2.2.1,()))
 (aj (cR (@Nat.rec (λ(b:Nat)=>Nat) 0 (λ(b:Nat)=>λ(d:Nat)=>b) a.1) 0)
 (some<|Sum.inr (0,(a.2.1.1,a.2.1.2.1,(),a.2.1.2.2.2.1,()),a.2.2.1,()))
 (aj (cR (@Nat.rec (λ(b:Nat)=>Nat) 0 (λ(b:Nat)=>λ(d:Nat)=>b)<|@Nat.rec (λ(b:Nat)=>Nat) 0 (λ(b:Nat)=>λ(d:Nat)=>b) a.1) 0)
 (some<|Sum.inr (1,(a.2.1.1,a.2.1.2.1,(),a.2.1.2.2.2.1,()),a.2.2.1,()))
 (some<|Sum.inl ((a.2.1.1,a.2.1.2.1,(),a.2.1.2.2.2.1,()),a.2.2.1,())))))
def jz(x:(List bV)×Sb×ai):Option ((List bV)×Int×ai) :=
 ab (Loop (nu x) ((([]:List bV),(0:Int),(),x.2.1,()),([]:List bV),())) (λa=>aj (cR a.1 0)
 (some (a.2.1.1,a.2.1.2.1,()))
 (some (a.2.2.1,(0:Int),())))
def lO(x:cY×ai):Option ((List Sb)×ai) :=
 aj (inside 0 (len x.1.2.2.1)<|len x.1.2.2.1)
 (aj (fits<|len x.1.2.2.1)
 (some (over (iB (len x.1.2.2.1) ([]:aq)) (0:Int)<|@gC Sb x.1.2.2.2.1<|len<|iB (len x.1.2.2.1) ([]:aq),()))
 none)
 none
def sH(x:bV×ai):Option (Sb×ai) :=
 some (x.1.1,())
def xJ(x:cY×Sb×ai)(a:gy×ai×Sb×ai):Option (RM⊕RL) :=
 aj (aO a.1.2.1<|len x.1.2.2.1)
 (ab (idx x.1.2.2.1 a.1.2.1) λb=>ab (sH (b,())) λc=>aj (bz c.1 a.2.2.1)
 (some<|Sum.inr (1,(a.1.2.1,a.1.2.1,()),(),a.2.2.1,()))
 (some<|Sum.inl ((a.1.1,ax i64 a.1.2.1 1,()),(),a.2.2.1,())))
 (some<|Sum.inr (0,(a.1.1,a.1.2.1,()),(),a.2.2.1,()))
def gL(x:cY×Sb×ai):Option (bV×Sb×Bool×ai) :=
 ab (ab (Loop (xJ x) (((0:Int),(0:Int),()),(),x.2.1,())) λa=>aj (cR a.1 0)
 (some (((-1:Int),()),(),a.2.2.2.1,()))
 (some ((a.2.1.1,()),(),a.2.2.2.1,()))) (λa=>aj (aO a.1.1 0)
 (some ((([]:aq),([]:aq),([]:List Sb),([]:aq),(0:Int),(0:Int),false,()),([]:aq),false,()))
 (ab (idx x.1.2.2.1 a.1.1) λb=>ab (aP (b.2.2.1,())) λc=>ab (lO (x.1,())) λd=>ab (idx d.1 a.1.1) λe=>some ((b.1,b.2.1,c.1,b.2.2.2),e,true,())))
def Ji(x:cY×Sb×ai)(a:BE×(List bV)×ai):Option ((BE×(List bV)×ai)⊕(Nat×BE×(List bV)×ai)) :=
 aj (aO a.1.2.2.2.2.1<|len x.1.2.2.1)
 (ab (idx x.1.2.2.1 a.1.2.2.2.2.1) λb=>aj (nt<|bz b.1 a.1.2.2.2.1)
 (some<|Sum.inl ((a.1.1,a.1.2.1,(),a.1.2.2.2.1,ax i64 a.1.2.2.2.2.1 1,()),a.2.1,()))
 (aj (aL (len a.2.1) 16)
 (some<|Sum.inr (1,(([]:List bV),(5:Int),(),a.1.2.2.2.1,a.1.2.2.2.2.1,()),a.2.1,()))
 (ab (aP (b.2.2.1,())) λc=>aj (fits<|plus (len a.2.1)<|len ([(b.1,b.2.1,c.1,b.2.2.2)]:List bV))
 (aj (bz b.2.1 ([]:aq))
 (some<|Sum.inr (2,(a.1.1,a.1.2.1,(),a.1.2.2.2.1,a.1.2.2.2.2.1,()),app a.2.1 ([(b.1,b.2.1,c.1,b.2.2.2)]:List bV),()))
 (some<|Sum.inr (3,(a.1.1,a.1.2.1,(),b.2.1,a.1.2.2.2.2.1,()),app a.2.1 ([(b.1,b.2.1,c.1,b.2.2.2)]:List bV),())))
 none)))
 (some<|Sum.inr (0,(a.1.1,a.1.2.1,(),a.1.2.2.2.1,a.1.2.2.2.2.1,()),a.2.1,()))
def Jj(x:cY×Sb×ai)(c:vL×(List bV)×ai):Option ((vL×(List bV)×ai)⊕(Nat×vL×(List bV)×ai)) :=
 ab (Loop (Ji x) ((c.1.1,c.1.2.1,(),c.1.2.2.2.1,(0:Int),()),c.2.1,())) (λa=>aj (cR a.1 0)
 (some<|Sum.inr (0,(([]:List bV),(3:Int),(),a.2.1.2.2.2.1,()),a.2.2.1,()))
 (aj (cR (@Nat.rec (λ(b:Nat)=>Nat) 0 (λ(b:Nat)=>λ(d:Nat)=>b) a.1) 0)
 (some<|Sum.inr (0,(a.2.1.1,a.2.1.2.1,(),a.2.1.2.2.2.1,()),a.2.2.1,()))
 (aj (cR (@Nat.rec (λ(b:Nat)=>Nat) 0 (λ(b:Nat)=>λ(d:Nat)=>b)<|@Nat.rec (λ(b:Nat)=>Nat) 0 (λ(b:Nat)=>λ(d:Nat)=>b) a.1) 0)
 (some<|Sum.inr (1,(a.2.1.1,a.2.1.2.1,(),a.2.1.2.2.2.1,()),a.2.2.1,()))
 (some<|Sum.inl ((a.2.1.1,a.2.1.2.1,(),a.2.1.2.2.2.1,()),a.2.2.1,())))))
def Jk(b:Nat×vL×(List bV)×ai)(a:gy×ai):Option ((gy×ai)⊕(gy×ai)) :=
 cA (aj (aO a.1.1 a.1.2.1)
 (ab (idx b.2.1.1 a.1.2.1) λc=>ab (idx b.2.1.1 a.1.1) λd=>ab (idx b.2.1.1 a.1.1) λe=>none)
 (some<|Sum.inr (0,(a.1.1,a.1.2.1,()),())))
def Jl(x:cY×Sb×ai)(b:Nat×vL×(List bV)×ai)(a:(ai×Int×ai)×(List Sb)×ai):Option (((ai×Int×ai)×(List Sb)×ai)⊕((ai×Int×ai)×(List Sb)×ai)) :=
 cA (aj (aO a.1.2.1<|len b.2.1.1)
 (ab (idx b.2.1.1 a.1.2.1) λd=>ab (gL (x.1,d.1,())) λc=>aj (fits<|plus (len a.2.1)<|len ([c.2.1]:List Sb))
 (some<|Sum.inl (((),ax i64 a.1.2.1 1,()),app a.2.1 ([c.2.1]:List Sb),()))
 none)
 (some<|Sum.inr (0,((),a.1.2.1,()),a.2.1,())))
def Jm(a:(Int×Int×ai×ai)×(List bV)×ai):Option (((Int×Int×ai×ai)×(List bV)×ai)⊕((Int×Int×ai×ai)×(List bV)×ai)) :=
 cA (aj (aO a.1.1 a.1.2.1)
 (aj (within a.1.2.1<|len a.2.1)
 (ab (idx a.2.1 a.1.2.1) λb=>aj (within a.1.1<|len a.2.1)
 (ab (idx a.2.1 a.1.1) λc=>aj (within a.1.1<|len a.2.1)
 (ab (idx a.2.1 a.1.1) λe=>ab (idx a.2.1 a.1.1) λf=>ab (idx a.2.1 a.1.1) λg=>aj (within a.1.2.1<|len<|jF a.2.1 a.1.1 b)
 (ab (idx (jF a.2.1 a.1.1 b) a.1.2.1) λh=>ab (idx (jF a.2.1 a.1.1 b) a.1.2.1) λi=>ab (idx (jF a.2.1 a.1.1 b) a.1.2.1) λd=>some (Sum.inl ((ax i64 a.1.1 1,cE i64 a.1.2.1 1,(),()),jF (jF a.2.1 a.1.1 b) a.1.2.1 c,())))
 none)
 none)
 none)
 none)
 (some<|Sum.inr (0,(a.1.1,a.1.2.1,(),()),a.2.1,())))
def Jn(x:cY×Sb×ai)(b:(Int×Int×ai×ai)×(List bV)×ai)(a:(ai×Int×ai)×(List Sb)×ai):Option (((ai×Int×ai)×(List Sb)×ai)⊕((ai×Int×ai)×(List Sb)×ai)) :=
 cA (aj (aO a.1.2.1<|len b.2.1)
 (ab (idx b.2.1 a.1.2.1) λd=>ab (gL (x.1,d.1,())) λc=>aj (fits<|plus (len a.2.1)<|len ([c.2.1]:List Sb))
 (some<|Sum.inl (((),ax i64 a.1.2.1 1,()),app a.2.1 ([c.2.1]:List Sb),()))
 none)
 (some<|Sum.inr (0,((),a.1.2.1,()),a.2.1,())))
def yB(x:cY×Sb×ai):Option ((List uQ)×Int×ai) :=
 ab (Loop (Jj x) ((([]:List bV),(0:Int),(),x.2.1,()),([]:List bV),())) (λa=>aj (cR a.1 0)
 (aj (nt<|aL a.2.1.2.1 0)
 (some (([]:List uQ),a.2.1.2.1,()))
 (ab (Loop (Jk a) (((0:Int),cE i64 (len a.2.1.1) 1,()),())) λd=>ab (Loop (Jl x a) (((),(0:Int),()),([]:List Sb),())) λc=>ab (wz (c.2.1,())) λb=>some (b.1,b.2.1,())))
 (ab (Loop (Jm) (((0:Int),cE i64 (len a.2.2.1) 1,(),()),a.2.2.1,())) λd=>ab (Loop (Jn x d) (((),(0:Int),()),([]:List Sb),())) λc=>ab (wz (c.2.1,())) λb=>some (b.1,b.2.1,())))
def uR(x:cY×Sb×ai):Option ((List uQ)×Int×ai) :=
 aj (bz x.2.1 ([]:aq))
 (some (([]:List uQ),(0:Int),()))
 (ab (yB (x.1,x.2.1,())) λa=>some (a.1,a.2.1,()))
def dR(x:Int×ai):Option (DD×ai) :=
 some ((x.1,([]:aq),(0:Int),([]:aq),()),())
def jL(x:(List Sb)×Int×Sb×ai):Option ((List Sb)×ai) :=
 aj (fits<|len x.1)
 (ab (er x.1 (x.2.1,([x.2.2.1]:List Sb),())) λa=>some (a,()))
 none
def bt(x:(List bV)×ai):Option ((List bV)×ai) :=
 bif fits (len x.1) then some (x.1,()) else none
def gz(x:(List bV)×Int×bV×ai):Option ((List bV)×ai) :=
 aj (fits<|len x.1)
 (ab (dc x.1 (x.2.1,([x.2.2.1]:List bV),())) λa=>some (a,()))
 none
def ou(x:cY×bV×Sb×ai)(a:gy×bV×ai):Option ((gy×bV×ai)⊕(Nat×gy×bV×ai)) :=
 aj (aO a.1.2.1<|len x.1.2.2.1)
 (ab (idx x.1.2.2.1 a.1.2.1) λb=>aj (nt<|jH b.1 a.2.1.1)
 (some<|Sum.inr (1,(a.1.2.1,a.1.2.1,()),a.2.1,()))
 (some<|Sum.inl ((a.1.1,ax i64 a.1.2.1 1,()),a.2.1,())))
 (some<|Sum.inr (0,(a.1.1,a.1.2.1,()),a.2.1,()))
def p4(x:cY×bV×Sb×ai):Option (cY×ai) :=
 ab (ab (Loop (ou x) (((0:Int),(0:Int),()),x.2.1,())) λa=>aj (cR a.1 0)
 (some (((-1:Int),()),a.2.2.1,()))
 (some ((a.2.1.1,()),a.2.2.1,()))) (λa=>ab (lO (x.1,())) λb=>ab (jL (b.1,((aj (aO a.1.1 0)
 ((len x.1.2.2.1,()),())
 ((a.1.1,()),())).1).1,x.2.2.1,())) λc=>ab (gz (x.1.2.2.1,((aj (aO a.1.1 0)
 ((len x.1.2.2.1,()),())
 ((a.1.1,()),())).1).1,a.2.1,())) λd=>some ((x.1.1,x.1.2.1,d.1,c.1,x.1.2.2.2.2),()))
def lr(x:cY×Sb×(List Sb)×Sb×Int×ai):Option (cY×DD×ai) :=
 ab (ab (fy (x.2.2.1,())) λc=>aj (nt<|aL c.1 0)
 (some ((c.1,()),((),(),(),(),(),(),(),()),x.2.2.1,x.2.2.2.1,x.2.1,x.1,([]:aq),x.2.2.2.2.1,([]:aq),([]:List uQ),()))
 (ab (aj (bz x.2.2.2.1 ([]:aq))
 (some (((0:Int),()),x.2.2.2.1,()))
 (ab (zq (x.2.2.2.1,())) λa=>some ((a.1,()),x.2.2.2.1,()))) λa=>aj (nt<|aL a.1.1 0)
 (some ((a.1.1,()),((),(),(),(),(),(),(),()),x.2.2.1,a.2.1,x.2.1,x.1,([]:aq),x.2.2.2.2.1,([]:aq),([]:List uQ),()))
 (ab (aj (nt<|bz x.2.1 ([]:aq))
 (ab (dU (x.1,x.2.1,())) λd=>some ((d.2.1,()),d.1,()))
 (some (((0:Int),()),([]:aq),()))) λd=>aj (nt<|aL d.1.1 0)
 (some ((d.1.1,()),((),(),(),(),(),(),(),()),x.2.2.1,a.2.1,x.2.1,x.1,d.2.1,x.2.2.2.2.1,([]:aq),([]:List uQ),()))
 (ab (j9 (x.1,())) λh=>ab (je (h.1,([]:aq),x.2.2.1,())) λi=>aj (nt<|aL i.1 0)
 (some ((i.1,()),((),(),(),(),(),(),(),()),x.2.2.1,a.2.1,x.2.1,x.1,d.2.1,x.2.2.2.2.1,([]:aq),([]:List uQ),()))
 (ab (j9 (x.1,())) λj=>ab (hW (j.1,x.2.2.2.2.1,())) λg=>aj (nt<|aL g.2.1 0)
 (some ((g.2.1,()),((),(),(),(),(),(),(),()),x.2.2.1,a.2.1,x.2.1,x.1,d.2.1,x.2.2.2.2.1,g.1,([]:List uQ),()))
 (ab (ab (jz (x.1.2.2.1,d.2.1,())) λe=>aj (aj (aj (nt<|bz d.2.1 ([]:aq))
 (aL e.2.1 0)
 false)
 (ca 16<|len e.1)
 false)
 (some (((5:Int),()),d.2.1,x.1,()))
 (some (((0:Int),()),d.2.1,x.1,()))) λe=>aj (nt<|aL e.1.1 0)
 (some ((e.1.1,()),((),(),(),(),(),(),(),()),x.2.2.1,a.2.1,x.2.1,e.2.2.1,e.2.1,x.2.2.2.2.1,g.1,([]:List uQ),()))
 (ab (aj (bz a.2.1 ([]:aq))
 (some (((0:Int),()),([]:List uQ),e.2.1,e.2.2.1,a.2.1,()))
 (ab (uR (e.2.2.1,e.2.1,())) λb=>ab (aj (aL b.2.1 0)
 (ab (sF (b.1,a.2.1,())) λf=>some ((f.2.1,()),()))
 (some ((b.2.1,()),()))) λf=>some ((f.1.1,()),b.1,e.2.1,e.2.2.1,a.2.1,()))) λb=>aj (nt<|aL b.1.1 0)
 (some ((b.1.1,()),((),(),(),(),(),(),(),()),x.2.2.1,b.2.2.2.2.1,x.2.1,b.2.2.2.1,b.2.2.1,x.2.2.2.2.1,g.1,b.2.1,()))
 (some (((0:Int),()),((),(),(),(),(),(),(),()),x.2.2.1,b.2.2.2.2.1,x.2.1,b.2.2.2.1,b.2.2.1,x.2.2.2.2.1,g.1,b.2.1,()))))))))) (λc=>aj (nt<|aL c.1.1 0)
 (ab (dR (c.1.1,())) λa=>some (c.2.2.2.2.2.1,a.1,()))
 (ab (aj (bz c.2.2.2.1 ([]:aq))
 (ab (rD ()) λa=>some ((),a.1,()))
 (some ((),c.2.2.2.1,()))) λa=>aj (fits<|plus (len ([]:List Sb))<|len c.2.2.1)
 (ab (oY (a.2.1,())) λd=>ab (p4 (c.2.2.2.2.2.1,(c.2.2.2.2.2.2.2.2.1,c.2.2.2.2.2.2.1,app ([]:List Sb) c.2.2.1,d.1,len a.2.1,(0:Int),true,()),a.2.1,())) λh=>some (h.1,((0:Int),c.2.2.2.2.2.2.2.2.1,(0:Int),([]:aq),()),()))
 none))
def Jo(x:cY×Sb×ai)(a:gy×Sb×ai):Option (AB⊕AA) :=
 aj (aO a.1.2.1<|len x.1.2.2.1)
 (ab (idx x.1.2.2.1 a.1.2.1) λb=>aj (bz b.2.1 a.2.1)
 (some<|Sum.inr (1,(a.1.2.1,a.1.2.1,()),a.2.1,()))
 (some<|Sum.inl ((a.1.1,ax i64 a.1.2.1 1,()),a.2.1,())))
 (some<|Sum.inr (0,(a.1.1,a.1.2.1,()),a.2.1,()))
def Jp(x:cY×Sb×ai)(a:gy×Sb×ai):Option (AB⊕AA) :=
 aj (aO a.1.2.1<|len x.1.2.1)
 (ab (idx x.1.2.1 a.1.2.1) λb=>aj (bz b.2.2.1 a.2.1)
 (some<|Sum.inr (1,(a.1.2.1,a.1.2.1,()),a.2.1,()))
 (some<|Sum.inl ((a.1.1,ax i64 a.1.2.1 1,()),a.2.1,())))
 (some<|Sum.inr (0,(a.1.1,a.1.2.1,()),a.2.1,()))
def Jq(x:cY×Sb×ai)(a:gy×Sb×ai):Option (AB⊕AA) :=
 aj (aO a.1.2.1<|len x.1.1)
 (ab (idx x.1.1 a.1.2.1) λb=>aj (bz b.2.2.2.1 a.2.1)
 (some<|Sum.inr (1,(a.1.2.1,a.1.2.1,()),a.2.1,()))
 (some<|Sum.inl ((a.1.1,ax i64 a.1.2.1 1,()),a.2.1,())))
 (some<|Sum.inr (0,(a.1.1,a.1.2.1,()),a.2.1,()))
def Jr(x:cY×Sb×ai)(a:gy×Sb×ai):Option (AB⊕AA) :=
 aj (aO a.1.2.1<|len x.1.1)
 (ab (idx x.1.1 a.1.2.1) λb=>aj (bz b.2.2.2.1 a.2.1)
 (some<|Sum.inr (1,(a.1.2.1,a.1.2.1,()),a.2.1,()))
 (some<|Sum.inl ((a.1.1,ax i64 a.1.2.1 1,()),a.2.1,())))
 (some<|Sum.inr (0,(a.1.1,a.1.2.1,()),a.2.1,()))
def tG(x:cY×Sb×ai):Option (Bool×ai) :=
 ab (ab (Loop (Jo x) (((0:Int),(0:Int),()),x.2.1,())) λa=>aj (cR a.1 0)
 (some (((-1:Int),()),a.2.2.1,()))
 (some ((a.2.1.1,()),a.2.2.1,()))) (λa=>ab (Loop (Jp x) (((0:Int),(0:Int),()),a.2.1,())) λc=>aj (cR c.1 0)
 (aj (nt<|aj (nt<|ca 0 a.1.1)
 false
 true)
 (ab (Loop (Jq x) (((0:Int),(0:Int),()),c.2.2.1,())) λb=>aj (cR b.1 0)
 (some (false,()))
 (some (ca 0 b.2.1.1,())))
 (some (true,())))
 (aj (nt<|aj (nt<|ca 0 a.1.1)
 (ca 0 c.2.1.1)
 true)
 (ab (Loop (Jr x) (((0:Int),(0:Int),()),c.2.2.1,())) λb=>aj (cR b.1 0)
 (some (false,()))
 (some (ca 0 b.2.1.1,())))
 (some (true,()))))
def zr(x:sG×ai):Option (Sb×ai) :=
 some (x.1.1,())
def Fc(x:cY×Sb×ai)(a:gy×ai×Sb×ai):Option (RM⊕RL) :=
 aj (aO a.1.2.1<|len x.1.2.2.2.2.1)
 (ab (idx x.1.2.2.2.2.1 a.1.2.1) λb=>ab (zr (b,())) λc=>aj (bz c.1 a.2.2.1)
 (some<|Sum.inr (1,(a.1.2.1,a.1.2.1,()),(),a.2.2.1,()))
 (some<|Sum.inl ((a.1.1,ax i64 a.1.2.1 1,()),(),a.2.2.1,())))
 (some<|Sum.inr (0,(a.1.1,a.1.2.1,()),(),a.2.2.1,()))
def mL(x:cY×Sb×ai):Option (Int×ai) :=
 ab (Loop (Fc x) (((0:Int),(0:Int),()),(),x.2.1,())) (λa=>aj (cR a.1 0)
 (some ((0:Int),()))
 (aj (aO a.2.1.1 0)
 (some ((0:Int),()))
 (ab (idx x.1.2.2.2.2.1 a.2.1.1) λb=>some (b.2.1,()))))
def p5(x:(List Sb)×Int×ai):Option ((List Sb)×ai) :=
 aj (aO x.2.1 0)
 (some (x.1,()))
 (aj (fits<|len x.1)
 (ab (fL x.1 (x.2.1,ax i64 x.2.1 1,())) λa=>some (a,()))
 none)
def nz(x:(List bV)×Int×ai):Option ((List bV)×ai) :=
 aj (aO x.2.1 0)
 (some (x.1,()))
 (aj (fits<|len x.1)
 (ab (ez x.1 (x.2.1,ax i64 x.2.1 1,())) λa=>some (a,()))
 none)
def bK(x:(List sG)×ai):Option ((List sG)×ai) :=
 bif fits (len x.1) then some (x.1,()) else none
def dn(x:(List sG)×Int×sG×ai):Option ((List sG)×ai) :=
 aj (fits<|len x.1)
 (ab (eA x.1 (x.2.1,([x.2.2.1]:List sG),())) λa=>some (a,()))
 none
def G2(x:cY×Sb×Int×ai)(a:gy×Sb×ai):Option (AB⊕AA) :=
 aj (aO a.1.2.1<|len x.1.2.2.2.2.1)
 (aj (within a.1.2.1<|len x.1.2.2.2.2.1)
 (ab (idx x.1.2.2.2.2.1 a.1.2.1) λb=>aj (bz b.1 a.2.1)
 (some<|Sum.inr (1,(a.1.2.1,a.1.2.1,()),a.2.1,()))
 (some<|Sum.inl ((a.1.1,ax i64 a.1.2.1 1,()),a.2.1,())))
 none)
 (some<|Sum.inr (0,(a.1.1,a.1.2.1,()),a.2.1,()))
def G3(x:cY×Sb×Int×ai)(a:gy×Sb×ai):Option (AB⊕AA) :=
 aj (aO a.1.2.1<|len x.1.2.2.2.2.1)
 (ab (idx x.1.2.2.2.2.1 a.1.2.1) λb=>aj (nt<|oor (jH b.1 a.2.1)<|bz b.1 a.2.1)
 (some<|Sum.inr (1,(a.1.2.1,a.1.2.1,()),a.2.1,()))
 (some<|Sum.inl ((a.1.1,ax i64 a.1.2.1 1,()),a.2.1,())))
 (some<|Sum.inr (0,(a.1.1,a.1.2.1,()),a.2.1,()))
def G4(x:cY×Sb×Int×ai)(a:gy×Sb×ai):Option (AB⊕AA) :=
 aj (aO a.1.2.1<|len x.1.2.2.2.2.1)
 (ab (idx x.1.2.2.2.2.1 a.1.2.1) λb=>aj (nt<|oor (jH b.1 a.2.1)<|bz b.1 a.2.1)
 (some<|Sum.inr (1,(a.1.2.1,a.1.2.1,()),a.2.1,()))
 (some<|Sum.inl ((a.1.1,ax i64 a.1.2.1 1,()),a.2.1,())))
 (some<|Sum.inr (0,(a.1.1,a.1.2.1,()),a.2.1,()))
def G5(a:(Int×Int×ai×ai)×Sb×(List sG)×ai):Option (Yz⊕Yz) :=
 cA (aj (aO a.1.2.1<|len a.2.2.1)
 (aj (within a.1.2.1<|len a.2.2.1)
 (ab (idx a.2.2.1 a.1.2.1) λc=>ab (aj (nt<|bz c.1 a.2.1)
 (aj (within a.1.1<|len a.2.2.1)
 (ab (idx a.2.2.1 a.1.1) λb=>ab (idx a.2.2.1 a.1.1) λd=>ab (idx a.2.2.1 a.1.1) λe=>some ((ax i64 a.1.1 1,(),()),jF a.2.2.1 a.1.1 c,()))
 none)
 (some ((a.1.1,(),()),a.2.2.1,()))) λb=>some (Sum.inl ((b.1.1,ax i64 a.1.2.1 1,(),()),a.2.1,b.2.1,())))
 none)
 (some<|Sum.inr (0,(a.1.1,a.1.2.1,(),()),a.2.1,a.2.2.1,())))
def G6(b:(Int×Int×ai×ai)×Sb×(List sG)×ai)(a:gy×Sb×ai):Option (AB⊕AA) :=
 aj (aO a.1.2.1<|len<|sub (over b.2.2.1 b.1.1<|iB (minus (len b.2.2.1) b.1.1) (([]:aq),(0:Int),())) (0:Int)<|minus b.1.1 0)
 (ab (idx (sub (over b.2.2.1 b.1.1<|iB (minus (len b.2.2.1) b.1.1) (([]:aq),(0:Int),())) (0:Int)<|minus b.1.1 0) a.1.2.1) λc=>aj (nt<|oor (jH c.1 a.2.1)<|bz c.1 a.2.1)
 (some<|Sum.inr (1,(a.1.2.1,a.1.2.1,()),a.2.1,()))
 (some<|Sum.inl ((a.1.1,ax i64 a.1.2.1 1,()),a.2.1,())))
 (some<|Sum.inr (0,(a.1.1,a.1.2.1,()),a.2.1,()))
def wB(x:cY×Sb×Int×ai):Option (cY×ai) :=
 aj (fits<|len x.1.2.2.2.2.1)
 (ab (Loop (G2 x) (((0:Int),(0:Int),()),x.2.1,())) λc=>aj (cR c.1 0)
 (ab (aj (aO 0 x.2.2.1)
 (ab (Loop (G3 x) (((0:Int),(0:Int),()),c.2.2.1,())) λa=>aj (cR a.1 0)
 (ab (dn (x.1.2.2.2.2.1,(((len x.1.2.2.2.2.1,()),()).1).1,(a.2.2.1,x.2.2.1,()),())) λb=>some ((b.1,()),a.2.2.1,()))
 (ab (dn (x.1.2.2.2.2.1,((aj (aO a.2.1.1 0)
 ((len x.1.2.2.2.2.1,()),())
 ((a.2.1.1,()),())).1).1,(a.2.2.1,x.2.2.1,()),())) λb=>some ((b.1,()),a.2.2.1,())))
 (some ((x.1.2.2.2.2.1,()),c.2.2.1,()))) λa=>some ((x.1.1,x.1.2.1,x.1.2.2.1,x.1.2.2.2.1,a.1.1,x.1.2.2.2.2.2),()))
 (aj (aL c.2.1.1<|-1)
 (ab (aj (aO 0 x.2.2.1)
 (ab (Loop (G4 x) (((0:Int),(0:Int),()),c.2.2.1,())) λa=>aj (cR a.1 0)
 (ab (dn (x.1.2.2.2.2.1,(((len x.1.2.2.2.2.1,()),()).1).1,(a.2.2.1,x.2.2.1,()),())) λb=>some ((b.1,()),a.2.2.1,()))
 (ab (dn (x.1.2.2.2.2.1,((aj (aO a.2.1.1 0)
 ((len x.1.2.2.2.2.1,()),())
 ((a.2.1.1,()),())).1).1,(a.2.2.1,x.2.2.1,()),())) λb=>some ((b.1,()),a.2.2.1,())))
 (some ((x.1.2.2.2.2.1,()),c.2.2.1,()))) λa=>some ((x.1.1,x.1.2.1,x.1.2.2.1,x.1.2.2.2.1,a.1.1,x.1.2.2.2.2.2),()))
 (ab (Loop (G5) ((c.2.1.1,ax i64 c.2.1.1 1,(),()),c.2.2.1,x.1.2.2.2.2.1,())) λa=>aj (inside a.1.1 (len a.2.2.1)<|len a.2.2.1)
 (aj (inside 0 a.1.1<|len<|over a.2.2.1 a.1.1<|iB (minus (len a.2.2.1) a.1.1) (([]:aq),(0:Int),()))
 (ab (aj (aO 0 x.2.2.1)
 (ab (Loop (G6 a) (((0:Int),(0:Int),()),a.2.1,())) λb=>aj (cR b.1 0)
 (ab (dn (sub (over a.2.2.1 a.1.1<|iB (minus (len a.2.2.1) a.1.1) (([]:aq),(0:Int),())) (0:Int)<|minus a.1.1 0,(((len<|sub (over a.2.2.1 a.1.1<|iB (minus (len a.2.2.1) a.1.1) (([]:aq),(0:Int),())) (0:Int)<|minus a.1.1 0,()),()).1).1,(b.2.2.1,x.2.2.1,()),())) λd=>some ((d.1,()),b.2.2.1,()))
 (ab (dn (sub (over a.2.2.1 a.1.1<|iB (minus (len a.2.2.1) a.1.1) (([]:aq),(0:Int),())) (0:Int)<|minus a.1.1 0,((aj (aO b.2.1.1 0)
 ((len<|sub (over a.2.2.1 a.1.1<|iB (minus (len a.2.2.1) a.1.1) (([]:aq),(0:Int),())) (0:Int)<|minus a.1.1 0,()),())
 ((b.2.1.1,()),())).1).1,(b.2.2.1,x.2.2.1,()),())) λd=>some ((d.1,()),b.2.2.1,())))
 (some ((sub (over a.2.2.1 a.1.1<|iB (minus (len a.2.2.1) a.1.1) (([]:aq),(0:Int),())) (0:Int)<|minus a.1.1 0,()),a.2.1,()))) λb=>some ((x.1.1,x.1.2.1,x.1.2.2.1,x.1.2.2.2.1,b.1.1,x.1.2.2.2.2.2),()))
 none)
 none)))
 none
def DE(x:cY×Sb×ai)(a:gy×ai×Sb×ai):Option (RM⊕RL) :=
 aj (aO a.1.2.1<|len x.1.2.2.1)
 (ab (idx x.1.2.2.1 a.1.2.1) λb=>ab (sH (b,())) λc=>aj (bz c.1 a.2.2.1)
 (some<|Sum.inr (1,(a.1.2.1,a.1.2.1,()),(),a.2.2.1,()))
 (some<|Sum.inl ((a.1.1,ax i64 a.1.2.1 1,()),(),a.2.2.1,())))
 (some<|Sum.inr (0,(a.1.1,a.1.2.1,()),(),a.2.2.1,()))
def ow(x:cY×Sb×ai):Option (cY×ai) :=
 ab (ab (Loop (DE x) (((0:Int),(0:Int),()),(),x.2.1,())) λa=>aj (cR a.1 0)
 (some (((-1:Int),()),(),a.2.2.2.1,()))
 (some ((a.2.1.1,()),(),a.2.2.2.1,()))) (λa=>ab (lO (x.1,())) λb=>ab (p5 (b.1,a.1.1,())) λc=>ab (nz (x.1.2.2.1,a.1.1,())) λd=>ab (wB ((x.1.1,x.1.2.1,d.1,c.1,x.1.2.2.2.2),x.2.1,(0:Int),())) λe=>some (e.1,()))
def zt(x:cY×Sb×ai):Option (cY×DD×ai) :=
 ab (dU (x.1,x.2.1,())) (λa=>aj (nt<|aL a.2.1 0)
 (ab (dR (a.2.1,())) λb=>some (x.1,b.1,()))
 (ab (tG (x.1,a.1,())) λb=>ab (aj (nt b.1)
 (ab (mL (x.1,a.1,())) λc=>some (aO 0 c.1))
 (some true)) λc=>aj c
 (ab (dR ((7:Int),())) λd=>some (x.1,d.1,()))
 (ab (ow (x.1,a.1,())) λd=>some (d.1,((0:Int),a.1,(0:Int),([]:aq),()),()))))
def qN(x:cY×Sb×Int×ai):Option (cY×DD×ai) :=
 ab (dU (x.1,x.2.1,())) (λb=>aj (nt<|aL b.2.1 0)
 (ab (dR (b.2.1,())) λa=>some (x.1,a.1,()))
 (ab (mL (x.1,b.1,())) λa=>aj (aj (aO 0 x.2.2.1)
 (ca 1000 a.1)
 false)
 (ab (dR ((5:Int),())) λc=>some (x.1,c.1,()))
 (aj (aj (aO x.2.2.1 0)
 (aO a.1 1)
 false)
 (ab (dR ((11:Int),())) λc=>some (x.1,c.1,()))
 (ab (wB (x.1,b.1,ax i64 a.1 x.2.2.1,())) λc=>some (c.1,((0:Int),b.1,ax i64 a.1 x.2.2.1,([]:aq),()),())))))
def AE(x:cY×Sb×ai):Option (cY×DD×ai) :=
 ab (qN (x.1,x.2.1,(1:Int),())) (λa=>some (a.1,a.2.1,()))
def xK(x:cY×Sb×ai):Option (cY×DD×ai) :=
 ab (qN (x.1,x.2.1,(-1:Int),())) (λa=>some (a.1,a.2.1,()))
def Cu(x:cY×Sb×ai):Option (DD×ai) :=
 ab (dU (x.1,x.2.1,())) (λa=>aj (nt<|aL a.2.1 0)
 (ab (dR (a.2.1,())) λb=>some (b.1,()))
 (ab (gL (x.1,a.1,())) λb=>some (((0:Int),a.1,(0:Int),b.2.1,()),())))
def wC(x:cY×ai):Option ((List G1)×ai) :=
 ab (yr ((3:Int),((0:Int),x.1.2.2.1,([]:List aeO),([]:List agA),()),())) (λa=>some (a.1,()))
def uS(x:Sb×Sb×ai):Option (Bool×ai) :=
 ab (aj (ca (len x.2.1)<|len x.1)
 (aj (inside 0 (len x.2.1)<|len x.1)
 (some<|bz (sub x.1 (0:Int)<|minus (len x.2.1) 0) x.2.1)
 none)
 (some false)) (λa=>some (a,()))
def ox(x:(List G1)×Sb×ai)(a:AD×ai):Option ((AD×ai)⊕RN) :=
 aj (aO a.1.2.2.1<|len x.1)
 (ab (idx x.1 a.1.2.2.1) λb=>aj (bz b.1 x.2.1)
 (some<|Sum.inr (1,(x.2.1,(0:Int),a.1.2.2.1,()),()))
 (some<|Sum.inl ((a.1.1,a.1.2.1,ax i64 a.1.2.2.1 1,()),())))
 (some<|Sum.inr (0,(a.1.1,a.1.2.1,a.1.2.2.1,()),()))
def iM(x:(List G1)×Sb×ai)(b:AD×ai)(a:AD×ai):Option ((AD×ai)⊕RN) :=
 ab (idx x.1 b.1.2.2.1) (λc=>aj (aO a.1.2.2.1<|len c.2.1)
 (ab (idx x.1 b.1.2.2.1) λd=>ab (idx d.2.1 a.1.2.2.1) λe=>aj (bz e x.2.1)
 (ab (idx x.1 b.1.2.2.1) λf=>some (Sum.inr (1,(f.1,(0:Int),a.1.2.2.1,()),())))
 (some<|Sum.inl ((a.1.1,a.1.2.1,ax i64 a.1.2.2.1 1,()),())))
 (some<|Sum.inr (0,(a.1.1,a.1.2.1,a.1.2.2.1,()),())))
def oy(x:(List G1)×Sb×ai)(a:AD×ai):Option ((AD×ai)⊕RN) :=
 aj (aO a.1.2.2.1<|len x.1)
 (ab (Loop (iM x a) ((a.1.1,a.1.2.1,(0:Int),()),())) λb=>aj (cR b.1 0)
 (some<|Sum.inl ((b.2.1.1,b.2.1.2.1,ax i64 a.1.2.2.1 1,()),()))
 (some<|Sum.inr (1,(b.2.1.1,b.2.1.2.1,a.1.2.2.1,()),())))
 (some<|Sum.inr (0,(a.1.1,a.1.2.1,a.1.2.2.1,()),()))
def gf(x:(List G1)×Sb×ai)(a:RJ×ai):Option ((RJ×ai)⊕(RJ×ai)) :=
 cA (aj (aj (aj (aO a.1.2.2.1<|len x.1)
 (ca 1<|len x.2.1)
 false)
 (ca (len x.2.1) 5)
 false)
 (ab (idx x.1 a.1.2.2.1) λc=>ab (uS (c.1,x.2.1,())) λd=>ab (aj d.1
 (ab (idx x.1 a.1.2.2.1) λb=>some ((ax i64 a.1.1 1,b.1,()),()))
 (some ((a.1.1,a.1.2.1,()),()))) λb=>some (Sum.inl ((b.1.1,b.1.2.1,ax i64 a.1.2.2.1 1,()),())))
 (some<|Sum.inr (0,(a.1.1,a.1.2.1,a.1.2.2.1,()),())))
def tH(x:(List G1)×Sb×ai):Option sG :=
 ab (Loop (ox x) ((([]:aq),(0:Int),(0:Int),()),())) (λa=>aj (cR a.1 0)
 (ab (Loop (oy x) ((a.2.1.1,a.2.1.2.1,(0:Int),()),())) λb=>aj (cR b.1 0)
 (ab (Loop (gf x) (((0:Int),([]:aq),(0:Int),()),())) λc=>aj (aO 1 c.1.1)
 (some (([]:aq),(9:Int),()))
 (aj (aL c.1.1 0)
 (some (([]:aq),(3:Int),()))
 (some (c.1.2.1,(0:Int),()))))
 (some (b.2.1.1,b.2.1.2.1,())))
 (some (a.2.1.1,a.2.1.2.1,())))
def tI(x:cY×Sb×ai):Option sG :=
 ab (wC (x.1,())) (λb=>ab (tH (b.1,x.2.1,())) λa=>some (a.1,a.2.1,()))
def rE(x:cY×Sb×ai):Option (bV×Sb×Bool×ai) :=
 ab (kL (x.1,x.2.1,())) (λa=>aj (aO a.1 0)
 (some ((([]:aq),([]:aq),([]:List Sb),([]:aq),(0:Int),(0:Int),false,()),([]:aq),false,()))
 (ab (idx x.1.2.2.1 a.1) λb=>ab (pX (x.1,a.1,())) λc=>some (b,c.1,true,())))
end Go.Ge
namespace Go.Ge
variable [Lp]
abbrev It:=Tx×Tx×Tx×ai
theorem L3(l:List It)(e:l.length<=100000):fU (l,l,())=some (true,()):=by
 unfold fU;dsimp only;rw[aW rfl,aH,af];rcases qF (f:=ji (l,l,())) l (λi=>((false,i,()),())) (λ_ _=>false) (λi _=>(1,(false,(i:Int),()),())) (0,(false,(l.length:Int),()),()) (by omega) (λi x a b c=>by
  unfold ji;dsimp only;rw[au b,ae,ae,az a,aa,aa,fF rfl,fF rfl,fF rfl,c];rfl) (by unfold ji;dsimp only;rw[aB,af,af]) with ⟨i,x,_,d,_⟩|⟨g,h⟩
 .cases d
 .rw[h];rfl
abbrev KS:=(Int×Int×ai)×ai×Tx×ai
abbrev PS':=(Int×Int×ai)×ai×It×ai
end Go.Ge
namespace Go.Ge
set_option maxRecDepth 100000
end Go.Ge
namespace Go.Ge
variable [Lp]
theorem Fe(l:List It):∃b,ed (l,())=some (b,())/\(b=true->l.length<=8/\∀x∈l,x.1.length<=100/\x.2.2.1.length<=200):=by
 unfold ed;rcases sz (f:=en (l,())) l 8 (λi=>((false,i,()),())) (λ_ x=>decide (100<x.1.length)||decide (200<x.2.2.1.length)) (λi x=>(1,(false,(i:Int),()),())) (λm=>(0,(false,(m:Int),()),())) (by omega) (λi x c a g j=>by
  unfold en;dsimp only;have k:∀{m:aq},aO 100 (len m)=decide (100<m.length):=λ{m}=>by unfold aO len;apply ky.2;omega
  have n:∀{m:aq},aO 200 (len m)=decide (200<m.length):=λ{m}=>by unfold aO len;apply ky.2;omega
  rw[au a,ae,aU (show(i:Int)<8 by omega),ae,az c,aa,aa,k,n,j];cases decide (100<x.1.length)<;>cases decide (200<x.2.2.1.length)<;>rfl) (by
  unfold en;dsimp only;have:aj (aO ((min 8 l.length:Nat):Int)<|len l) (aO ((min 8 l.length:Nat):Int) 8) false=false:=by
   by_cases h:l.length<=8
   .rw[abo h,aB,af]
   .rw[sw<|by omega,show aO ((8:Nat):Int) 8=false from rfl];cases aO ((8:Nat):Int) (len l)<;>rfl
  rw[this,af]) with ⟨i,x,a,c,p,_,h⟩|⟨d,h⟩
 .rw[h];exact⟨false,rfl,λh=>(by cases h)⟩
 .rw[h];refine⟨_,rfl,λe=>?_⟩;dsimp only at e;have o:l.length<=8:=by
   unfold ca len at e;simp at e;omega
  refine⟨o,λx c=>?_⟩;obtain⟨i,a⟩:=bR.1 c;have:=d i x (by have:=aG a;omega) a;simp at this;omega
def ahX(l:List It):Prop:=l.Pairwise λx y=>jH x.1 y.1=true
def ajV(x:It):Prop:=vB x.1=true/\x.2.2.1.length<=64/\x.2.1=nd x.2.2.1
def OkI(l:List It):Prop:=l.length<=4/\ahX l/\∀x∈l,ajV x
abbrev DF:=Tx×Int×ai
abbrev bh:=List Dk×List qH×List ay×List Tx×List DF×ai
def G7(l:List Item):Prop:=l.length<=8/\∀x∈l,x.1.length<=100/\x.2.2.1.length<=200
structure ahY (b:xD):Prop extends WB b where
 im:∀x∈b.2.2.1,x.2.2.2.1.length<=200/\G7 x.2.2.2.2.1
 bm:∀x∈b.2.2.2.1,x.2.2.2.2.1.length<=200/\G7 x.2.2.2.2.2.1
theorem Z9(b:xD):∃c,pa (b,())=some (c,())/\(c=true->ahY b):=by
 obtain⟨d,o⟩:∃d:List Tx->Bool,∀l,ks (l,())=some (d l,())/\(d l=true->uK l):=⟨λl=>Classical.choose (Bx l),λl=>Nh (Bx l)⟩;obtain⟨j,e⟩:∃d:List Item->Bool,∀l,ed (l,())=some (d l,())/\(d l=true->G7 l):=⟨λl=>Classical.choose (Fe l),λl=>Nh (Fe l)⟩;obtain⟨F,a,z⟩:=acN b;refine⟨F,a,λC=>?_⟩;have D:=z C
 suffices q:(∀x∈b.2.2.1,x.2.2.2.1.length<=200/\G7 x.2.2.2.2.1)/\(∀x∈b.2.2.2.1,x.2.2.2.2.1.length<=200/\G7 x.2.2.2.2.2.1) from⟨D,q.1,q.2⟩
 subst C;obtain⟨n,v,w,y,u⟩:=b;obtain⟨G,_,r,_,H,_⟩:=D;dsimp only at G r H;unfold pa at a;have p:∀{q:Nat×(Bool×Int×ai)×ai} {g:Option (Bool×ai)},q.1=1->q.2.1.1=false->aj (cR q.1 0) g (some (q.2.1.1,()))≠some (true,()):=λ{q g} I J h=>by
  rw[I,J] at h;have h:some (false,())=some (true,()):=h;cases h
 rcases sz (f:=hJ ((n,v,w,y,u),())) v 40 (λi=>((false,i,()),())) (λ_ x=>!d x.2.2.1) (λi x=>(1,(false,(i:Int),()),())) (λn=>(0,(false,(n:Int),()),())) (by omega) (λi x k m s t=>by
  unfold hJ;dsimp only;rw[au m,ae,aU (show(i:Int)<40 by omega),ae,az k,aa,(o _).1,aa,Yl,t];cases d x.2.2.1<;>rfl) (by unfold hJ;dsimp only;rw[pO (c:=40) rfl,af]) with ⟨i,x,m,k,E,_,h⟩|⟨K,h⟩
 .rw[h,aa] at a;exact absurd a (p rfl rfl)
 rw[h,aa] at a;dsimp only at a;rw[eJ,ae] at a;rcases sz (f:=hM ((n,v,w,y,u),())) w 40 (λi=>((false,i,()),())) (λ_ x=>!d x.2.1||decide (200<x.2.2.2.1.length)||!j x.2.2.2.2.1) (λi x=>(1,(false,(i:Int),()),())) (λn=>(0,(false,(n:Int),()),())) (by omega) (λi x k m s t=>by
  unfold hM;dsimp only;rw[au m,ae,aU (show(i:Int)<40 by omega),ae,az k,aa,(o _).1,aa,aa,aa,fI (n:=200) (c:=200) rfl,(e _).1,aa,t];dsimp only;cases d x.2.1 with
  | false=>rfl
  | true =>
    by_cases r:200<x.2.2.2.1.length
    .simp[r,aj,nt,ab]
    .cases L:j x.2.2.2.2.1<;>simp[r,aj,nt,ab]) (by unfold hM;dsimp only;rw[pO (c:=40) rfl,af]) with ⟨i,x,m,k,E,_,h⟩|⟨A,h⟩
 .rw[h,aa] at a;exact absurd a (p rfl rfl)
 rw[h,aa] at a;dsimp only at a;rw[eJ,ae] at a;rcases sz (f:=hR ((n,v,w,y,u),())) y 40 (λi=>((false,i,()),())) (λ_ x=>!d x.2.1||decide (200<x.2.2.2.2.1.length)||!j x.2.2.2.2.2.1) (λi x=>(1,(false,(i:Int),()),())) (λn=>(0,(false,(n:Int),()),())) (by omega) (λi x k m s t=>by
  unfold hR;dsimp only;rw[au m,ae,aU (show(i:Int)<40 by omega),ae,az k,aa,(o _).1,aa,aa,aa,fI (n:=200) (c:=200) rfl,(e _).1,aa,t];dsimp only;cases d x.2.1 with
  | false=>rfl
  | true =>
    by_cases r:200<x.2.2.2.2.1.length
    .simp[r,aj,nt,ab]
    .cases L:j x.2.2.2.2.2.1<;>simp[r,aj,nt,ab]) (by unfold hR;dsimp only;rw[pO (c:=40) rfl,af]) with ⟨i,x,m,k,E,_,h⟩|⟨B,h⟩
 .rw[h,aa] at a;exact absurd a (p rfl rfl)
 refine⟨λx k=>?_,λx k=>?_⟩
 .dsimp only at k;obtain⟨i,m⟩:=bR.1 k;have:=A i x (by have:=aG m;omega) m;simp only[BK,O4,Vu] at this;exact⟨by omega,(e _).2 this.2⟩
 .dsimp only at k;obtain⟨i,m⟩:=bR.1 k;have:=B i x (by have:=aG m;omega) m;simp only[BK,O4,Vu] at this;exact⟨by omega,(e _).2 this.2⟩
theorem aaa(l:List ay):∃b,vJ (l,())=some (b,())/\(b=true->l.length<=40/\∀x∈l,x.1.length<=100/\x.2.1.length<=100):=by
 unfold vJ;rcases sz (f:=pV (l,())) l 40 (λi=>((false,i,()),())) (λ_ x=>decide (100<x.1.length)||decide (100<x.2.1.length)) (λi x=>(1,(false,(i:Int),()),())) (λn=>(0,(false,(n:Int),()),())) (by omega) (λi x d a j k=>by
  unfold pV;dsimp only;rw[au a,ae,aU (show(i:Int)<40 by omega),ae,az d,aa,fI (n:=100) (c:=100) rfl,aa,fI (n:=100) (c:=100) rfl,k];by_cases h:100<x.1.length
  .simp[h,aj,nt,ab]
  .by_cases m:100<x.2.1.length<;>simp[h,m,aj,nt,ab]) (by unfold pV;dsimp only;rw[pO (c:=40) rfl,af]) with ⟨i,x,a,d,p,_,h⟩|⟨o,h⟩
 .rw[h];exact⟨false,rfl,λh=>(by cases h)⟩
 .rw[h];refine⟨_,rfl,λe=>?_⟩;dsimp only at e;rw[jf (n:=40) (c:=40) rfl] at e;have g:=kx e;refine⟨g,λx d=>?_⟩;obtain⟨i,a⟩:=bR.1 d;have:=o i x (by have:=aG a;omega) a;simp at this;omega
structure N9 (s:bh):Prop where
 base:ahY (0,s.2.2.1,s.2.1,s.1,())
 ids:∀x∈s.2.2.1,x.1.length<=100/\x.2.1.length<=100
 lays:s.2.2.1.length<=12
 afS:s.2.2.2.1.length<=12
 am1:∀d∈s.2.2.2.1,d.length<=8192
 mts:s.2.2.2.2.1.length<=40
theorem PT(s:bh):∃b,sf (s,())=some (b,())/\(b=true->N9 s):=by
 obtain⟨m,o,g,j,p,u⟩:=s;obtain⟨t,v,w⟩:=Z9 (0,g,o,m,());obtain⟨y,z,A⟩:=aaa g;unfold sf;rcases sz (f:=pW ((m,o,g,j,p,u),())) j 12 (λi=>((false,i,()),())) (λ_ x=>decide (8192<x.length)) (λi x=>(1,(false,(i:Int),()),())) (λn=>(0,(false,(n:Int),()),())) (by omega) (λi x q a B C=>by
  unfold pW;dsimp only;rw[au a,ae,aU (show(i:Int)<12 by omega),ae,az q,aa,fI (n:=8192) (c:=8192) rfl,gX,C];by_cases h:8192<x.length<;>simp[h]) (by unfold pW;dsimp only;rw[pO (c:=12) rfl,af]) with ⟨i,x,a,q,F,_,h⟩|⟨D,h⟩
 .rw[h];exact⟨false,rfl,λh=>(by cases h)⟩
 .rw[h,aa];dsimp only;rw[eJ,ae,v,aa,z];dsimp only;rw[jf (n:=12) (c:=12) rfl,jf (n:=12) (c:=12) rfl,jf (n:=40) (c:=40) rfl];cases t with
  | false=>exact⟨false,rfl,λh=>(by cases h)⟩
  | true =>
    rw[ae,aa,aa];cases y with
    | false=>exact⟨false,rfl,λh=>(by cases h)⟩
    | true =>
      refine⟨_,rfl,λe=>?_⟩;by_cases k:g.length<=12
      .by_cases l:j.length<=12
       .by_cases r:p.length<=40
        .refine⟨w rfl,(A rfl).2,k,l,λd E=>?_,r⟩;obtain⟨i,a⟩:=bR.1 E;have a:j[i]?=some d:=a;have:=D i d (by have:=aG a;omega) a;simpa using this
        .rw[cd k,cd l,dL r] at e;cases e
       .rw[cd k,dL l] at e;cases e
      .rw[dL k] at e;cases e
theorem p6(a b:aq):bz a b=decide (a=b):=rfl
theorem aeP(a b:Int):aL a b=decide (a=b):=rfl
def BdL(x:ay):Prop:=x.1.length<=1048576/\x.2.1.length<=1048576/\uK x.2.2.1/\x.2.2.2.1.length<=1048576
def BdI(x:qH):Prop:=x.1.length<=1048576/\uK x.2.1/\x.2.2.1.length<=1048576/\G7 x.2.2.2.2.1
def BdB(x:Dk):Prop:=x.1.length<=1048576/\uK x.2.1/\x.2.2.1.length<=1048576/\x.2.2.2.1.length<=1048576/\G7 x.2.2.2.2.2.1
structure OkL (x:ay):Prop where
 id:Um x.1
 par:x.2.1=[]\/(Um x.2.1/\x.2.1≠x.1)
 nms:yv x.2.2.1=true
 dig:aeM x.2.2.2.1=0
 s0:0<=x.2.2.2.2.1
 s1:x.2.2.2.2.1<=8192
 b0:0<=x.2.2.2.2.2.1
 b1:x.2.2.2.2.2.1<=32
structure ajY (x:qH):Prop where
 id:Um x.1
 nms:yv x.2.1=true
 top:x.2.2.1=[]\/Um x.2.2.1
 ah0:x.2.2.2.1.length<=64
 items:OkI x.2.2.2.2.1
structure OkB (x:Dk):Prop where
 id:Um x.1
 nms:yv x.2.1=true
 img:x.2.2.1=[]\/Um x.2.2.1
 lay:Um x.2.2.2.1
 ah0:x.2.2.2.2.1.length<=64
 items:OkI x.2.2.2.2.2.1
def aeQ(b:xD):List Tx:=b.2.1.map (·.1)++b.2.2.1.map (·.1)++b.2.2.2.1.map (·.1)
def aeR(b:xD):List Tx:=b.2.1.flatMap (·.2.2.1)++b.2.2.1.flatMap (·.2.1)++b.2.2.2.1.flatMap (·.2.1)
abbrev Cs:=(Int×Int×ai)×ai
structure BdX (b:xD):Prop extends WB b where
 xl:∀x∈b.2.1,BdL x
 xi:∀x∈b.2.2.1,BdI x
 xb:∀x∈b.2.2.2.1,BdB x
def ah1(a:Int)(b:xD):Nat:=if a=1 then b.2.2.2.1.length else if a=2 then b.2.2.1.length else b.2.1.length
structure AF (kind:Int) (b:xD):Prop where
 few:ah1 kind b<=32
 only:b.2.2.2.1.length+b.2.2.1.length+b.2.1.length=ah1 kind b
 ll:∀x∈b.2.1,OkL x
 il:∀x∈b.2.2.1,ajY x
 bl:∀x∈b.2.2.2.1,OkB x
 ids:(aeQ b).Pairwise (λx y=>jH x y=true)
 nms:(aeR b).Nodup
theorem Oa(s:aq)(p:s.length<=1048576)(m:Int):∀(n i:Nat),s.length-i<=n->i<=s.length->∃q,Loop (fu (s,m,())) ((false,(i:Int),()),())=some q/\(if xI (s.drop i) then q.1=0 else q.1=1/\q.2.1.1=false):=by
 intro n;induction n with
 | zero =>
   intro i h j;have:i=s.length:=by omega
   subst this;rw[aR];refine⟨(0,(false,(s.length:Int),()),()),?_,?_⟩
   .unfold fu;dsimp only;rw[aD<|by simp only[len];omega,af];rfl
   .rw[SJ,bd (by intro x a;cases a)]
 | succ n l =>
   intro i h j;rw[aR];by_cases f:i<s.length
   .have hd:s.drop i=s[i]::s.drop (i+1):=BJ f;have e0:fu (s,m,()) ((false,(i:Int),()),())=if s[i]=0 then some (.inr (1,(false,(i:Int),()),())) else some (.inl ((false,((i+1:Nat):Int),()),())):=by
     unfold fu;dsimp only;rw[aU<|by simp only[len];omega,ae,BA s f,aa];by_cases c:s[i]=0
     .rw[c,show aL (u8 0) 0=true from rfl,ae,bd rfl]
     .rw[show aL (u8 s[i]) 0=false from aF (λe=>c (WM (b:=0) e)),af,bb c,aT (by omega)]
    rw[e0];by_cases c:s[i]=0
    .rw[bd c];refine⟨_,rfl,?_⟩;rw[bb λd=>d s[i] (by rw[hd];exact oB ..) c];exact⟨rfl,rfl⟩
    .rw[bb c];obtain⟨q,o,g⟩:=l (i+1) (by omega) (by omega);refine⟨q,o,?_⟩;have e:xI (s.drop i)↔xI (s.drop<|i+1):=by
      rw[hd];constructor
      .intro h x a;exact h x (oA _ a)
      .intro h x a;rcases fY.1 a with rfl|a
       .exact c
       .exact h x a
     by_cases d:xI (s.drop<|i+1)
     .rw[bd d] at g;rw[bd<|e.2 d];exact g
     .rw[bb d] at g;rw[bb λk=>d (e.1 k)];exact g
   .have:i=s.length:=by omega
    subst this;refine⟨(0,(false,(s.length:Int),()),()),?_,?_⟩
    .unfold fu;dsimp only;rw[aD<|by simp only[len];omega,af];rfl
    .rw[SJ,bd (by intro x a;cases a)]
theorem Ff(s:aq)(c:s.length<=1048576)(m:Int):lK (s,m,())=some (decide<|Vq s m,()):=by
 unfold lK;dsimp only;obtain⟨q,d,a⟩:=Oa s c m s.length 0 (by omega) (by omega);rw[show Loop (fu (s,m,())) ((false,0,()),())=some q from d,aa];rw[CT] at a;by_cases b:xI s
 .rw[bd b] at a;rw[a,show cR 0 0=true from rfl,ae];by_cases h:s=[]
  .subst h;rw[eu<|by decide,af,dL λe=>e.1 rfl]
  .have:=SD.2 h;rw[cr<|by simp only[len];omega,ae];unfold ca;rw[show decide (len s<=m)=decide (Vq s m) from ky.2 ⟨λe=>⟨h,e,b⟩,λe=>e.2.1⟩]
 .rw[bb b] at a;rw[a.1,show cR 1 0=false from rfl,af,a.2,dL λe=>b e.2.2]
theorem xL(n b:Int):oG (n,b,())=some (decide<|JV n b,()):=Dp n b
theorem aeS(h:Hd)(m:Int)(t:h.1.length<=1048576)(u:h.2.2.2.2.2.2.2.1.length<=1048576):rZ (h,m,())=some (decide<|I4 h m,()):=by
 unfold rZ;dsimp only;have a:(aj (aL h.2.1 3) (ab (lK (h.2.2.2.2.2.2.2.1,100,())) λv=>some ((v.1,()),()))<|some ((bz h.2.2.2.2.2.2.2.1 [],()),())) =
   some ((decide<|(h.2.1=3/\Vq h.2.2.2.2.2.2.2.1 100)\/(h.2.1≠3/\h.2.2.2.2.2.2.2.1=[]),()),()):=by
  by_cases o:h.2.1=3
  .rw[o,nO,ae,Ff _ u,aa];rw[show decide (Vq h.2.2.2.2.2.2.2.1 100)=decide (((3:Int)=3/\Vq h.2.2.2.2.2.2.2.1 100)\/((3:Int)≠3/\h.2.2.2.2.2.2.2.1=[])) from ky.2 (by simp)]
  .rw[aF o,af];unfold bz;rw[show decide (h.2.2.2.2.2.2.2.1=[])=decide ((h.2.1=3/\Vq h.2.2.2.2.2.2.2.1 100)\/(h.2.1≠3/\h.2.2.2.2.2.2.2.1=[])) from ky.2 (by simp[o])]
 rw[a,aa,Ff _ t,aa];dsimp only;have w:∀{p:Prop} [Decidable p],¬p->decide p=false:=λ{p} _ h=>dL h;by_cases c:Vq h.1 m
 case neg=>rw[dL c,af,af,af,aa,af,aa,af,aa,af,aa,af,aa,af,af,dL λe=>c e.2.2.2.2.2.1]
 rw[cd c,ae];have b:I4 h m->1<=h.2.1/\h.2.1<=3:=λe=>by
  rcases e.2.2.2.2.2.2 with k|k|k<;>omega
 by_cases r:1<=h.2.1
 case neg=>rw[eu<|by omega,af,af,aa,af,aa,af,aa,af,aa,af,aa,af,af,dL λe=>r (b e).1]
 rw[cr r,ae];by_cases s:h.2.1<=3
 case neg=>rw[eu<|by omega,af,aa,af,aa,af,aa,af,aa,af,aa,af,af,dL λe=>s (b e).2]
 rw[cr s,ae,xL,aa,aa];by_cases d:JV h.2.2.1 2097152
 case neg=>rw[dL d,af,aa,af,aa,af,aa,af,aa,af,af,dL λe=>d e.1]
 rw[cd d,ae,xL,aa,aa];by_cases f:JV h.2.2.2.1 2097152
 case neg=>rw[dL f,af,aa,af,aa,af,aa,af,af,dL λe=>f e.2.1]
 rw[cd f,ae,xL,aa,aa];by_cases g:JV h.2.2.2.2.1 2097152
 case neg=>rw[dL g,af,aa,af,aa,af,af,dL λe=>g e.2.2.1]
 rw[cd g,ae,xL,aa,aa];by_cases i:JV h.2.2.2.2.2.1 8589934592
 case neg=>rw[dL i,af,aa,af,af,dL λe=>i e.2.2.2.1]
 rw[cd i,ae,xL,aa,aa];by_cases j:JV h.2.2.2.2.2.2.1 8589934592
 case neg=>rw[dL j,af,af,dL λe=>j e.2.2.2.2.1]
 rw[cd j,ae];have x:decide (I4 h m)=decide (kindOk h):=ky.2 ⟨λe=>e.2.2.2.2.2.2,λe=>⟨d,f,g,i,j,c,e⟩⟩;rw[x];have q:h.2.1=1\/h.2.1=2\/h.2.1=3:=by omega
 by_cases l:h.2.2.2.2.2.1=0
 .rw[aW l,aH,af,ae];rw[show decide ((h.2.1=3/\Vq h.2.2.2.2.2.2.2.1 100)\/(h.2.1≠3/\h.2.2.2.2.2.2.2.1=[]))=decide (kindOk h) from ky.2 (by
   unfold kindOk;rcases q with k|k|k<;>simp[k,l])]
 .rw[aF l,aA,ae];by_cases n:h.2.1=1
  .rw[aW n,ae];rw[show decide ((h.2.1=3/\Vq h.2.2.2.2.2.2.2.1 100)\/(h.2.1≠3/\h.2.2.2.2.2.2.2.1=[]))=decide (kindOk h) from ky.2 (by unfold kindOk;simp[n])]
  .rw[aF n,af];rw[show decide (kindOk h)=false from dL (by unfold kindOk;simp[n,l])]
def Fg(b:aq)(k:Nat):Nat:=if 148<=k/\k<156 then 32 else(b.getD k 0).toNat
def pd(b:aq):Nat->Nat
 | 0=>0
 | k+1=>pd b k+Fg b k
theorem L4(b:aq)(k:Nat):Fg b k<=255:=by
 unfold Fg;have:=(b.getD k 0).toNat_lt;split<;>omega
theorem Un(b:aq)(k:Nat):pd b k<=255*k:=by
 induction k with
 | zero=>exact cD _
 | succ k a=>have:=L4 b k;simp only[pd];omega
theorem WZ:idx ([(0,100,()),(100,8,()),(108,8,()),(116,8,()),(124,12,()),(136,12,()),(148,8,()),(156,1,()),(157,100,()),(257,8,()),(345,155,())]:List (Int×Int×ai)) 6=some (148,8,()):=rfl
theorem G8(b:aq)(i:b.length<=1048576):tl (b,())=some ((pd b b.length:Int),()):=by
 unfold tl kX;rw[aa];dsimp only;rw[WZ,aa,dA (by simp only[len];omega),ae];have key:Loop (kY (b,()) (148,8,())) ((0,0,()),())=some (((pd b b.length:Int),(b.length:Int),()),()) :=
  cq (f:=kY (b,()) (148,8,())) (r:=(((pd b b.length:Int),(b.length:Int),()),())) b.length (λk=>(((pd b k:Int),(k:Int),()),())) (λk c=>by
   unfold kY;dsimp only;have j:=Un b k;have l:=L4 b k;have a:b.getD k 0=b[k]:=by simp[Qg,c]
   rw[j7,aU (by omega),ae,br (by omega) (by omega),ae,xG b c,aa,cX,aT (by omega),show ax .i64 148 8=156 from by decide];have g:(aj (aj (ca 148 (k:Int)) (aO (k:Int) 156) false) (((32:Int),()),()) ((u8 b[k],()),())).1.1=(Fg b k:Int):=by
    unfold Fg;by_cases h:148<=k
    .by_cases d:k<156
     .rw[cr<|by omega,ae,aU (by omega),ae,bd ⟨h,d⟩];rfl
     .rw[cr<|by omega,ae,aD (by omega),af,bb (λe=>d e.2),a];rfl
    .rw[eu<|by omega,af,af,bb (λe=>h e.1),a];rfl
   rw[g,Bu (by omega) (by omega),show ax .i64 (pd b k:Int) (Fg b k:Int)=((pd b k+Fg b k:Nat):Int) from uN (by omega)];rfl) (by
   unfold kY;dsimp only;rw[j7,aD (by omega),af,dG])
 rw[key,aa]
theorem Fh(b:aq)(i:b.length<=1048576):vA (b,())=some ((pd b b.length:Int),()):=by
 unfold vA;have key:Loop (mC (b,())) ((0,0,()),())=some (((pd b b.length:Int),(b.length:Int),()),()) :=
  cq (f:=mC (b,())) (r:=(((pd b b.length:Int),(b.length:Int),()),())) b.length (λk=>(((pd b k:Int),(k:Int),()),())) (λk c=>by
   unfold mC;dsimp only;have j:=Un b k;have l:=L4 b k;have a:b.getD k 0=b[k]:=by simp[Qg,c]
   have m:=b[k].toNat_lt;have e:∀v:Nat,v=Fg b k->ax .i64 (pd b k:Int) (v:Int)=((pd b (k+1):Nat):Int):=λv g=>by
    rw[g,uN (by omega)];rfl
   rw[aU<|by simp only[len];omega,ae];unfold Fg at e;by_cases h:148<=k
   .by_cases d:k<156
    .rw[cr<|by omega,ae,aU (by omega),ae,aa,cX,aT (by omega)];dsimp only;rw[show ax .i64 (pd b k:Int) 32=_ from e 32 (by rw[bd ⟨h,d⟩])]
    .rw[cr<|by omega,ae,aD (by omega),af,BA b c,aa,aa,cX,aT (by omega)];dsimp only;rw[show kq .i64 (u8 b[k])=(b[k].toNat:Int) from Bu (by unfold u8;omega) (by unfold u8;omega),e b[k].toNat (by rw[bb<|λe=>d e.2,a])]
   .rw[eu<|by omega,af,af,BA b c,aa,aa,cX,aT (by omega)];dsimp only;rw[show kq .i64 (u8 b[k])=(b[k].toNat:Int) from Bu (by unfold u8;omega) (by unfold u8;omega),e b[k].toNat (by rw[bb<|λe=>h e.1,a])]) (by
   unfold mC;dsimp only;rw[aD<|by simp only[len];omega,af,dG])
 rw[key,aa]
def kp(n:Nat):aq:=List.replicate n 0
theorem uT(n:Nat):(kp n).length=n:=Sy
def l7:aq:=[117,115,116,97,114,0,48,48]
theorem W0(a:List aq)(k:Nat)(b:k<a.length):a.flatten=(a.take k).flatten++(a[k]++(a.drop<|k+1).flatten):=by
 conv=>lhs;rw[<-x6 k a,BJ b]
 rw[List.flatten_append,abg]
theorem ac4(a:List aq)(k:Nat)(b:k<a.length)(x:aq):(a.set k x).flatten=(a.take k).flatten++(x++(a.drop<|k+1).flatten):=by
 rw[List.set_eq_take_append_cons_drop,bd b,List.flatten_append,abg]
theorem ac5(A z R s:aq)(a:Nat)(b:A.length=a)(c:s.length<=z.length):over (av<|A++(z++R)) (a:Int) (av s)=av (A++((s++z.drop s.length)++R)):=by
 unfold over;rw[rK,fA];have d:(av<|A++(z++R)).take a=av A:=by rw[Ap,HD b]
 have e:(av<|A++(z++R)).drop (a+s.length)=av (z.drop s.length++R):=by
  have:(A++(z++R)).drop (a+s.length)=z.drop s.length++R:=by
   rw[<-b,<-vZ,BL,YZ c]
  rw[<-this];simp[av,abx]
 rw[d,e,<-ru,<-ru,oC,oC]
theorem ov(b:List aq)(k:Nat)(c:k<b.length)(s:aq)(n l a:Nat)(d:b[k]=kp n)(f:s.length=l)(g:l<=n)(h:(b.take k).flatten.length=a)(i:a+l<=512) :
  over (av b.flatten) (a:Int) (gC (av s)<|minus 512 (a:Int))=av (b.set k<|s++kp (n-l)).flatten:=by
 have e:gC (av s) (minus 512 (a:Int))=av s:=by
  unfold gC minus;rw[zN];rw[fA];omega
 rw[e,W0 b k c,ac5 _ _ _ _ a h (by rw[d,uT];omega),ac4 b k c,d,f];simp[kp]
def ac6(h:Hd)(m u g z t:Nat)(a:UInt8)(b:aq):List aq:=[h.1++kp (100-h.1.length),WR m 7++kp 1,WR u 7++kp 1,WR g 7++kp 1,WR z 11++kp 1,WR t 11++kp 1,b,[a]++kp 0,h.2.2.2.2.2.2.2.1++kp (100-h.2.2.2.2.2.2.2.1.length),l7++kp 0,kp 80,kp 155,kp 12]
def YA:List (Int×Int×ai):=[(0,100,()),(100,8,()),(108,8,()),(116,8,()),(124,12,()),(136,12,()),(148,8,()),(156,1,()),(157,100,()),(257,8,()),(345,155,())]
theorem W1:kX ()=some (YA,()):=rfl
structure Fits (h:Hd) (m u g z t:Nat) (kd:UInt8):Prop where
 path:h.1.length<=100
 link:h.2.2.2.2.2.2.2.1.length<=100
 m:h.2.2.1=(m:Int)/\m<2097152
 u:h.2.2.2.1=(u:Int)/\u<2097152
 g:h.2.2.2.2.1=(g:Int)/\g<2097152
 z:h.2.2.2.2.2.1=(z:Int)/\z<8589934592
 t:h.2.2.2.2.2.2.1=(t:Int)/\t<8589934592
 kind:(h.2.1=1/\kd=48)\/(h.2.1=2/\kd=53)\/(h.2.1=3/\kd=50)
def ajZ(h:Hd)(m u g z t:Nat)(a:UInt8):aq:=(ac6 h m u g z t a<|WR (pd (ac6 h m u g z t a<|kp 8).flatten 512) 6++[0,32]).flatten
end Go.Ge
