/- Plain laws of what the functions compute: part 4. -/
import Derived.Test.YtdpbdiikloedbaaGreatDoorPlC
set_option linter.unusedSectionVars false
noncomputable section
open Go.IntKind (i64)
namespace Go.Ge
variable [Lp]
set_option maxRecDepth 100000
abbrev bS:=(Sb×Int×Int×Sb×Sb×ai)
abbrev ib:=((Sb×Int×Int×Int×Int×Int×Int×Sb×ai)×Sb×ai)
abbrev rv:=((Sb×ai)⊕((Sb×ai)⊕(ai⊕((bS×ai)⊕ai))))
abbrev Fk:=((List bS)×(List bS)×Int×Sb×Int×ai)
abbrev J5:=(Bool×Int×ai)
abbrev aeQ:=(Sb×Int×Int×Int×Int×Int×Int×Sb×ai)
abbrev Fl:=((List bS)×Int×(List bS)×Int×ai)
abbrev Fm:=(Sb×Bool×Int×ai)
abbrev Vh:=((List bS)×(List bS)×Int×Int×ai)
abbrev n6:=((List bS)×Int×ai)
abbrev PM:=(Sb×(List ib)×Bool×ai×ai)
abbrev PN:=(Nat×J5×ai)
abbrev ag2:=(Bool×(List bS)×Int×ai)
abbrev ag3:=((Sb×ai)⊕(ai⊕((bS×ai)⊕ai)))
abbrev AZ:=(aq×(Int×(Int×(aq×(aq×ai)))))
abbrev PO:=((List rv)×Bool×ai×Int×ai)
abbrev PQ:=(Bool×Sb×Int×ai)
abbrev PR:=(J5×ai)
abbrev H6:=(Sb×ai)
abbrev PT:=(ai×Sb×Int×ai)
def gu(d:(List Sb)×ai)(a:PT×(List bS)×ai):Option ((PT×(List bS)×ai)⊕(PT×(List bS)×ai)) :=
 dh (aj (aY a.1.2.2.1<|len d.1)
 (af (idx d.1 a.1.2.2.1) λe=>af (np (a.1.2.1,e,())) λc=>aj (fits<|plus (len a.2.1)<|len ([(c.1,(2:Int),(0:Int),([]:aq),([]:aq),())]:List bS))
 (some<|Sum.inl (((),c.1,aF i64 a.1.2.2.1 1,()),app a.2.1 ([(c.1,(2:Int),(0:Int),([]:aq),([]:aq),())]:List bS),()))
 none)
 (some<|Sum.inr (0,((),a.1.2.1,a.1.2.2.1,()),a.2.1,())))
def dW(x:bS×ai):Option (Bool×ai) :=
 af (fD (x.1.1,())) (λc=>af (eS (c.1,())) λd=>af (Loop (gu d) (((),([]:aq),(0:Int),()),([]:List bS),())) λa=>aj (nt<|bt x.1.1 ([]:aq))
 (aj (fits<|plus (len a.2.1)<|len ([x.1]:List bS))
 (af (e7 (app a.2.1 ([x.1]:List bS),())) λe=>some (aX e.1 0,()))
 none)
 (some (false,())))
def lf(x:Sb×ai):Option (Bool×ai) :=
 af (aj (nt<|bt x.1 ([]:aq))
 (af (dW ((x.1,(2:Int),(0:Int),([]:aq),([]:aq),()),())) λa=>some a.1)
 (some true)) (λa=>some (a,()))
def iA(x:H6×(List bS)×ai):Option ((List bS)×ai) :=
 af (sa (x.2.1,x.1.1,())) (λa=>some (a.1,()))
def tB(x:H6×(List bS)×ai):Option n6 :=
 some (x.2.1,(0:Int),())
def fY(x:H6×(List bS)×ai):Option ((List bS)×ai) :=
 af (tS (x.2.1,x.1.1,())) (λa=>some (a.1,()))
def qQ(x:H6×(List bS)×ai):Option n6 :=
 some (x.2.1,(0:Int),())
def qR(x:ai×(List bS)×ai):Option ((List bS)×ai) :=
 some (x.2.1,())
def tC(x:ai×(List bS)×ai):Option n6 :=
 some (x.2.1,(0:Int),())
def qS(x:(bS×ai)×(List bS)×ai):Option ((List bS)×ai) :=
 some (x.2.1,())
def e8(e:(List Sb)×ai)(a:Fk×ai):Option ((Fk×ai)⊕(Nat×Fk×ai)) :=
 aj (aY a.1.2.2.2.2.1<|len e.1)
 (af (idx e.1 a.1.2.2.2.2.1) λi=>af (np (a.1.2.2.2.1,i,())) λc=>af (vM (a.1.1,c.1,())) λf=>aj (aj f.2.1
 (aX f.1.2.1 2)
 false)
 (some<|Sum.inl ((a.1.1,a.1.2.1,a.1.2.2.1,c.1,aF i64 a.1.2.2.2.2.1 1,()),()))
 (af (ru (a.1.1,(c.1,(2:Int),(493:Int),([]:aq),([]:aq),()),())) λd=>aj (nt<|aX d.2.1 0)
 (some<|Sum.inr (1,(a.1.1,([]:List bS),d.2.1,c.1,a.1.2.2.2.2.1,()),()))
 (some<|Sum.inl ((d.1,a.1.2.1,a.1.2.2.1,c.1,aF i64 a.1.2.2.2.2.1 1,()),()))))
 (some<|Sum.inr (0,(a.1.1,a.1.2.1,a.1.2.2.1,a.1.2.2.2.1,a.1.2.2.2.2.1,()),()))
def jG(x:(bS×ai)×(List bS)×ai):Option n6 :=
 af (fD (x.1.1.1,())) (λd=>af (eS (d.1,())) λe=>af (Loop (e8 e) ((x.2.1,([]:List bS),(0:Int),([]:aq),(0:Int),()),())) λa=>aj (dJ a.1 0)
 (af (ru (a.2.1.1,x.1.1,())) λc=>some (c.1,c.2.1,()))
 (some (a.2.1.2.1,a.2.1.2.2.1,())))
def qm(x:ib×ai):Option (rv×Bool×ai) :=
 af (om (x.1.1.1,())) (λc=>aj (nt<|aX c.2.1 0)
 (some ((Sum.inr<|Sum.inr<|Sum.inr<|Sum.inr ()),false,()))
 (af (fD (c.1,())) λd=>af (qc (d.2.1,())) λe=>aj (aX e.1 1)
 (af (np (d.1,e.2.1,())) λa=>af (aj (aj (aX x.1.1.2.1 1)
 (bt x.1.2.1 ([]:aq))
 false)
 (af (lf (a.1,())) λf=>some f.1)
 (some false)) λf=>some ((Sum.inl (a.1,())),f,()))
 (aj (aX e.1 2)
 (af (aj (aj (aX x.1.1.2.1 1)
 (bt x.1.2.1 ([]:aq))
 false)
 (af (lf (d.1,())) λa=>some a.1)
 (some false)) λa=>some ((Sum.inr<|Sum.inl (d.1,())),a,()))
 (aj (aX e.1 3)
 (some ((Sum.inr<|Sum.inr<|Sum.inr<|Sum.inr ()),false,()))
 (aj (aj (bt c.1 ([]:aq))
 (aX x.1.1.2.1 2)
 false)
 (some ((Sum.inr<|Sum.inr<|Sum.inl ()),true,()))
 (af (dW ((c.1,x.1.1.2.1,x.1.1.2.2.1,x.1.2.1,x.1.1.2.2.2.2.2.2.2.1,()),())) λa=>some ((Sum.inr<|Sum.inr<|Sum.inr<|Sum.inl ((c.1,x.1.1.2.1,x.1.1.2.2.1,x.1.2.1,x.1.1.2.2.2.2.2.2.2.1,()),())),a.1,())))))))
def fw(x:(List ib)×ai)(a:PO×(List rv)×ai):Option ((PO×(List rv)×ai)⊕(Nat×PO×(List rv)×ai)) :=
 aj (aY a.1.2.2.2.1<|len x.1)
 (af (idx x.1 a.1.2.2.2.1) λd=>af (qm (d,())) λc=>aj (nt c.2.1)
 (some<|Sum.inr (1,(([]:List rv),false,(),a.1.2.2.2.1,()),a.2.1,()))
 (aj (fits<|plus (len a.2.1)<|len ([c.1]:List rv))
 (some<|Sum.inl ((a.1.1,a.1.2.1,(),aF i64 a.1.2.2.2.1 1,()),app a.2.1 ([c.1]:List rv),()))
 none))
 (some<|Sum.inr (0,(a.1.1,a.1.2.1,(),a.1.2.2.2.1,()),a.2.1,()))
def lg(x:(List ib)×ai):Option ((List rv)×Bool×ai) :=
 af (Loop (fw x) ((([]:List rv),false,(),(0:Int),()),([]:List rv),())) (λa=>aj (dJ a.1 0)
 (some (a.2.2.1,true,()))
 (some (a.2.1.1,a.2.1.2.1,())))
def qn(x:(((aq×ai)⊕((aq×ai)⊕(ai⊕((AZ×ai)⊕ai))))×((List AZ)×ai))):Option ((List AZ)×ai) :=
 (λz=>pick (λy=>iA (y,x.2)) (λz=>pick (λy=>fY (y,x.2)) (λz=>pick (λy=>qR (y,x.2)) (λz=>pick (λy=>qS (y,x.2)) (λ_=>none) z) z) z) z) x.1
def uZ(x:(((aq×ai)⊕((aq×ai)⊕(ai⊕((AZ×ai)⊕ai))))×((List AZ)×ai))):Option ((List AZ)×(Int×ai)) :=
 (λz=>pick (λy=>tB (y,x.2)) (λz=>pick (λy=>qQ (y,x.2)) (λz=>pick (λy=>tC (y,x.2)) (λz=>pick (λy=>jG (y,x.2)) (λ_=>none) z) z) z) z) x.1
def ka(c:(List rv)×Bool×ai)(a:n6×ai):Option ((n6×ai)⊕(n6×ai)) :=
 dh (aj (aY a.1.2.1<|len c.1)
 (af (idx c.1 a.1.2.1) λd=>af (qn (d,a.1.1,())) λe=>some (Sum.inl ((e.1,aF i64 a.1.2.1 1,()),())))
 (some<|Sum.inr (0,(a.1.1,a.1.2.1,()),())))
def kb(d:(List rv)×Bool×ai)(a:Fl×ai):Option ((Fl×ai)⊕(Nat×Fl×ai)) :=
 aj (aY a.1.2.2.2.1<|len d.1)
 (af (idx d.1 a.1.2.2.2.1) λe=>af (uZ (e,a.1.2.2.1,())) λc=>aj (nt<|aX c.2.1 0)
 (some<|Sum.inr (1,(([]:List bS),c.2.1,a.1.2.2.1,a.1.2.2.2.1,()),()))
 (some<|Sum.inl ((a.1.1,a.1.2.1,c.1,aF i64 a.1.2.2.2.1 1,()),())))
 (some<|Sum.inr (0,(a.1.1,a.1.2.1,a.1.2.2.1,a.1.2.2.2.1,()),()))
def sd(x:(List bS)×(List ib)×ai):Option n6 :=
 af (e7 (x.1,())) (λd=>aj (nt<|aX d.1 0)
 (some (([]:List bS),(1:Int),()))
 (af (lg (x.2.1,())) λc=>aj (nt c.2.1)
 (some (([]:List bS),(10:Int),()))
 (aj (fits<|plus (len ([]:List bS))<|len x.1)
 (af (Loop (ka c) ((app ([]:List bS) x.1,(0:Int),()),())) λe=>af (Loop (kb c) ((([]:List bS),(0:Int),e.1.1,(0:Int),()),())) λa=>aj (dJ a.1 0)
 (some (a.2.1.2.2.1,(0:Int),()))
 (some (a.2.1.1,a.2.1.2.1,())))
 none)))
def gh(x:Sb×ai):Option (Int×ai) :=
 af (eD (x.1,())) (λa=>af (lg (a.1,())) λc=>aj (aj (nt<|nt<|aX a.2.1 0)
 (nt c.2.1)
 true)
 (some ((10:Int),()))
 (some ((0:Int),())))
def qo(x:ib×Sb×ai):Option (bS×ai) :=
 some ((x.2.1,x.1.1.2.1,x.1.1.2.2.1,x.1.2.1,x.1.1.2.2.2.2.2.2.2.1,()),())
def fZ(d:(List Sb)×ai)(a:PQ×ai):Option ((PQ×ai)⊕(Nat×PQ×ai)) :=
 aj (aY a.1.2.2.1<|len d.1)
 (af (idx d.1 a.1.2.2.1) λe=>af (nq (a.1.2.1,e,())) λc=>af (ku ((c.1,(2:Int),(0:Int),([]:aq),([]:aq),()),())) λf=>aj (nt f.1)
 (some<|Sum.inr (1,(false,c.1,a.1.2.2.1,()),()))
 (some<|Sum.inl ((a.1.1,c.1,aF i64 a.1.2.2.1 1,()),())))
 (some<|Sum.inr (0,(a.1.1,a.1.2.1,a.1.2.2.1,()),()))
def ke(x:Sb×ai):Option (Bool×ai) :=
 af (dP (x.1,())) (λc=>af (Loop (fZ c) ((false,([]:aq),(0:Int),()),())) λa=>aj (dJ a.1 0)
 (some (nt<|bt x.1 ([]:aq),()))
 (some (a.2.1.1,())))
def nG(x:ib×ai):Option (Int×Sb×Bool×ai) :=
 af (rU (x.1.1.1,())) (λd=>aj (nt<|aX d.2.1 0)
 (some ((0:Int),([]:aq),false,()))
 (af (jy (d.1,())) λe=>af (qe (e.2.1,())) λc=>aj (aX c.1 1)
 (af (nq (e.1,c.2.1,())) λa=>af (aj (aj (aX x.1.1.2.1 1)
 (bt x.1.2.1 ([]:aq))
 false)
 (af (ke (a.1,())) λf=>some f.1)
 (some false)) λf=>some (c.1,a.1,f,()))
 (aj (aX c.1 2)
 (af (aj (aj (aX x.1.1.2.1 1)
 (bt x.1.2.1 ([]:aq))
 false)
 (af (aj (nt<|bt e.1 ([]:aq))
 (af (ke (e.1,())) λa=>some a.1)
 (some true)) λa=>some a)
 (some false)) λa=>some (c.1,e.1,a,()))
 (aj (aX c.1 0)
 (af (aj (nt<|aj (bt d.1 ([]:aq))
 (aX x.1.1.2.1 2)
 false)
 (af (qo (x.1,d.1,())) λa=>af (ku (a.1,())) λf=>af (aj f.1
 (af (ke (d.1,())) λi=>some i.1)
 (some false)) λi=>some i)
 (some true)) λa=>some (c.1,d.1,a,()))
 (some ((0:Int),([]:aq),false,()))))))
def nH(x:(List ib)×ai)(a:J5×ai):Option (PR⊕PN) :=
 aj (aY a.1.2.1<|len x.1)
 (af (idx x.1 a.1.2.1) λc=>af (nG (c,())) λd=>aj (nt d.2.2.1)
 (some<|Sum.inr (1,(false,a.1.2.1,()),()))
 (some<|Sum.inl ((a.1.1,aF i64 a.1.2.1 1,()),())))
 (some<|Sum.inr (0,(a.1.1,a.1.2.1,()),()))
def oy(x:(List ib)×ai):Option (Bool×ai) :=
 af (Loop (nH x) ((false,(0:Int),()),())) (λa=>aj (dJ a.1 0)
 (some (true,()))
 (some (a.2.1.1,())))
def lh(e:(List Sb)×ai)(a:Fk×ai):Option ((Fk×ai)⊕(Nat×Fk×ai)) :=
 aj (aY (aF i64 a.1.2.2.2.2.1 1)<|len e.1)
 (af (idx e.1 a.1.2.2.2.2.1) λi=>af (nq (a.1.2.2.2.1,i,())) λc=>af (tR (a.1.1,c.1,())) λf=>aj (aj f.2.1
 (aX f.1.2.1 2)
 false)
 (some<|Sum.inl ((a.1.1,a.1.2.1,a.1.2.2.1,c.1,aF i64 a.1.2.2.2.2.1 1,()),()))
 (af (mQ (a.1.1,(c.1,(2:Int),(493:Int),([]:aq),([]:aq),()),())) λd=>aj (nt<|aX d.2.1 0)
 (some<|Sum.inr (1,(a.1.1,([]:List bS),d.2.1,c.1,a.1.2.2.2.2.1,()),()))
 (some<|Sum.inl ((d.1,a.1.2.1,a.1.2.2.1,c.1,aF i64 a.1.2.2.2.2.1 1,()),()))))
 (some<|Sum.inr (0,(a.1.1,a.1.2.1,a.1.2.2.1,a.1.2.2.2.1,a.1.2.2.2.2.1,()),()))
def tT(x:(List bS)×Sb×ai):Option n6 :=
 af (dP (x.2.1,())) (λc=>af (Loop (lh c) ((x.1,([]:List bS),(0:Int),([]:aq),(0:Int),()),())) λa=>aj (dJ a.1 0)
 (some (a.2.1.1,(0:Int),()))
 (some (a.2.1.2.1,a.2.1.2.2.1,())))
def mR(x:(List bS)×(List ib)×ai)(a:n6×ai):Option ((n6×ai)⊕(n6×ai)) :=
 dh (aj (aY a.1.2.1<|len x.2.1)
 (af (idx x.2.1 a.1.2.1) λe=>af (nG (e,())) λd=>af (aj (aX d.1 1)
 (af (ql (a.1.1,d.2.1,())) λc=>some ((c.1,()),()))
 (af (aj (aX d.1 2)
 (af (sb (a.1.1,d.2.1,())) λc=>some ((c.1,()),()))
 (some ((a.1.1,()),()))) λc=>some ((c.1.1,()),()))) λc=>some (Sum.inl ((c.1.1,aF i64 a.1.2.1 1,()),())))
 (some<|Sum.inr (0,(a.1.1,a.1.2.1,()),())))
def mS(x:(List bS)×(List ib)×ai)(a:Vh×ai):Option ((Vh×ai)⊕(Nat×Vh×ai)) :=
 aj (aY a.1.2.2.2.1<|len x.2.1)
 (af (idx x.2.1 a.1.2.2.2.1) λf=>af (nG (f,())) λd=>aj (aj (nt<|nt<|aX d.1 0)
 (bt d.2.1 ([]:aq))
 true)
 (some<|Sum.inl ((a.1.1,a.1.2.1,a.1.2.2.1,aF i64 a.1.2.2.2.1 1,()),()))
 (af (tT (a.1.1,d.2.1,())) λe=>aj (nt<|aX e.2.1 0)
 (some<|Sum.inr (1,(a.1.1,([]:List bS),e.2.1,a.1.2.2.2.1,()),()))
 (af (idx x.2.1 a.1.2.2.2.1) λi=>af (qo (i,d.2.1,())) λj=>af (mQ (e.1,j.1,())) λc=>aj (nt<|aX c.2.1 0)
 (some<|Sum.inr (1,(a.1.1,([]:List bS),c.2.1,a.1.2.2.2.1,()),()))
 (some<|Sum.inl ((c.1,a.1.2.1,a.1.2.2.1,aF i64 a.1.2.2.2.1 1,()),())))))
 (some<|Sum.inr (0,(a.1.1,a.1.2.1,a.1.2.2.1,a.1.2.2.2.1,()),()))
def vN(x:(List bS)×(List ib)×ai):Option n6 :=
 af (kI (x.1,())) (λc=>aj (nt c.1)
 (some (([]:List bS),(1:Int),()))
 (af (oy (x.2.1,())) λd=>aj (nt d.1)
 (some (([]:List bS),(10:Int),()))
 (af (Loop (mR x) ((x.1,(0:Int),()),())) λe=>af (Loop (mS x) ((e.1.1,([]:List bS),(0:Int),(0:Int),()),())) λa=>aj (dJ a.1 0)
 (some (a.2.1.1,(0:Int),()))
 (some (a.2.1.2.1,a.2.1.2.2.1,())))))
def iP(x:(List bS)×Sb×ai):Option n6 :=
 af (eD (x.2.1,())) (λc=>af (aj (nt<|aX c.2.1 0)
 (af (e7 (x.1,())) λa=>some (aX a.1 0))
 (some false)) λa=>aj a
 (some (([]:List bS),(10:Int),()))
 (af (sd (x.1,c.1,())) λd=>some (d.1,d.2.1,())))
def iQ(x:Sb×ai)(a:J5×ai):Option (PR⊕PN) :=
 aj (aY a.1.2.1<|len x.1)
 (af (idx x.1 a.1.2.1) λc=>aj (nt<|aX (u8 c) 0)
 (some<|Sum.inr (1,(false,a.1.2.1,()),()))
 (some<|Sum.inl ((a.1.1,aF i64 a.1.2.1 1,()),())))
 (some<|Sum.inr (0,(a.1.1,a.1.2.1,()),()))
def tU(x:Sb×ai):Option (Bool×ai) :=
 af (Loop (iQ x) ((false,(0:Int),()),())) (λa=>aj (dJ a.1 0)
 (some (aX (len x.1) 512,()))
 (some (a.2.1.1,())))
def iR(x:Sb×ai)(a:J5×ai):Option (PR⊕PN) :=
 aj (aY a.1.2.1<|len x.1)
 (af (idx x.1 a.1.2.1) λc=>aj (nt<|aX (u8 c) 0)
 (some<|Sum.inr (1,(false,a.1.2.1,()),()))
 (some<|Sum.inl ((a.1.1,aF i64 a.1.2.1 1,()),())))
 (some<|Sum.inr (0,(a.1.1,a.1.2.1,()),()))
def tV(x:Sb×ai):Option (Bool×ai) :=
 af (aj (nt<|aY (len x.1) 1024)
 (aj (aX 512 0)
 none
 (some<|nt<|aX (iE (len x.1) 512) 0))
 (some true)) (λc=>aj c
 (some (false,()))
 (af (Loop (iR x) ((false,(0:Int),()),())) λa=>aj (dJ a.1 0)
 (some (true,()))
 (some (a.2.1.1,()))))
def ga(x:Sb×ai)(a:(Int×ai)×ai):Option (((Int×ai)×ai)⊕((Int×ai)×ai)) :=
 dh (af (aj (aY a.1.1<|len x.1)
 (af (idx x.1 a.1.1) λc=>some (cu 48<|u8 c))
 (some false)) λc=>af (aj c
 (af (idx x.1 a.1.1) λd=>some (cu (u8 d) 55))
 (some false)) λd=>aj d
 (some<|Sum.inl ((aF i64 a.1.1 1,()),()))
 (some<|Sum.inr (0,(a.1.1,()),())))
def gb(x:Sb×ai)(a:(Int×Int×ai)×ai):Option (((Int×Int×ai)×ai)⊕(Nat×(Int×Int×ai)×ai)) :=
 aj (aY a.1.2.1<|len x.1)
 (af (idx x.1 a.1.2.1) λd=>af (aj (nt<|aX (u8 d) 0)
 (af (idx x.1 a.1.2.1) λc=>some (nt<|aX (u8 c) 32))
 (some false)) λc=>aj c
 (some<|Sum.inr (1,((-1:Int),a.1.2.1,()),()))
 (some<|Sum.inl ((a.1.1,aF i64 a.1.2.1 1,()),())))
 (some<|Sum.inr (0,(a.1.1,a.1.2.1,()),()))
def e9(x:Sb×ai):Option (Int×ai) :=
 af (Loop (ga x) (((0:Int),()),())) (λa=>aj (aX a.1.1<|len x.1)
 (some ((-1:Int),()))
 (af (Loop (gb x) (((0:Int),a.1.1,()),())) λc=>aj (dJ c.1 0)
 (aj (inside 0 a.1.1<|len x.1)
 (af (l7 (sub x.1 (0:Int)<|minus a.1.1 0,())) λd=>aj (nt d.2.1)
 (some ((-1:Int),()))
 (some (d.1,())))
 none)
 (some (c.2.1.1,()))))
def ev(x:Sb×ai)(a:Fm×ai):Option ((Fm×ai)⊕(Nat×Fm×ai)) :=
 aj (aY a.1.2.2.1<|len x.1)
 (af (idx x.1 a.1.2.2.1) λc=>aj (nt<|aX (u8 c) 0)
 (some<|Sum.inr (1,(([]:aq),false,a.1.2.2.1,()),()))
 (some<|Sum.inl ((a.1.1,a.1.2.1,aF i64 a.1.2.2.1 1,()),())))
 (some<|Sum.inr (0,(a.1.1,a.1.2.1,a.1.2.2.1,()),()))
def dw(x:Sb×ai)(a:Fm×ai):Option ((Fm×ai)⊕(Nat×Fm×ai)) :=
 aj (aY a.1.2.2.1<|len x.1)
 (af (idx x.1 a.1.2.2.1) λd=>aj (aX (u8 d) 0)
 (af (Loop (ev x) ((a.1.1,a.1.2.1,a.1.2.2.1,()),())) λc=>aj (dJ c.1 0)
 (aj (inside 0 a.1.2.2.1<|len x.1)
 (some<|Sum.inr (1,(sub x.1 (0:Int)<|minus a.1.2.2.1 0,true,a.1.2.2.1,()),()))
 none)
 (some<|Sum.inr (1,(c.2.1.1,c.2.1.2.1,a.1.2.2.1,()),())))
 (some<|Sum.inl ((a.1.1,a.1.2.1,aF i64 a.1.2.2.1 1,()),())))
 (some<|Sum.inr (0,(a.1.1,a.1.2.1,a.1.2.2.1,()),()))
def nI(x:Sb×ai):Option (Sb×Bool×ai) :=
 af (Loop (dw x) ((([]:aq),false,(0:Int),()),())) (λa=>aj (dJ a.1 0)
 (some (x.1,true,()))
 (some (a.2.1.1,a.2.1.2.1,())))
def nJ(x:Sb×ai):Option (aeQ×Int×ai) :=
 af (aj (nt<|nt<|aX (len x.1) 512)
 (aj (inside 257 265<|len x.1)
 (some<|nt<|bt (sub x.1 (257:Int)<|minus 265 257) ([117,115,116,97,114,0,48,48]:aq))
 none)
 (some true)) (λq=>af (aj (nt q)
 (aj (inside 148 156<|len x.1)
 (af (e9 (sub x.1 (148:Int)<|minus 156 148,())) λj=>af (vF (x.1,())) λe=>some (nt<|aX j.1 e.1))
 none)
 (some true)) λj=>aj j
 (some ((([]:aq),(0:Int),(0:Int),(0:Int),(0:Int),(0:Int),(0:Int),([]:aq),()),(2:Int),()))
 (aj (inside 0 100<|len x.1)
 (af (nI (sub x.1 (0:Int)<|minus 100 0,())) λe=>aj (inside 157 257<|len x.1)
 (af (nI (sub x.1 (157:Int)<|minus 257 157,())) λk=>aj (inside 345 500<|len x.1)
 (af (nI (sub x.1 (345:Int)<|minus 500 345,())) λf=>aj (inside 100 108<|len x.1)
 (af (e9 (sub x.1 (100:Int)<|minus 108 100,())) λl=>aj (inside 108 116<|len x.1)
 (af (e9 (sub x.1 (108:Int)<|minus 116 108,())) λn=>aj (inside 116 124<|len x.1)
 (af (e9 (sub x.1 (116:Int)<|minus 124 116,())) λo=>aj (inside 124 136<|len x.1)
 (af (e9 (sub x.1 (124:Int)<|minus 136 124,())) λp=>aj (inside 136 148<|len x.1)
 (af (e9 (sub x.1 (136:Int)<|minus 148 136,())) λi=>af (aj (nt<|bt f.1 ([]:aq))
 (aj (fits<|plus (len f.1)<|len ([47]:aq))
 (aj (fits<|plus (len<|app f.1 ([47]:aq))<|len e.1)
 (some ((),(app (app f.1 ([47]:aq)) e.1,(0:Int),l.1,n.1,o.1,p.1,i.1,([]:aq),()),()))
 none)
 none)
 (some ((),(e.1,(0:Int),l.1,n.1,o.1,p.1,i.1,([]:aq),()),()))) λa=>af (idx x.1 (156:Int)) λc=>af (aj (nt<|aj (nt<|aj (nt<|nt e.2.1)
 (nt k.2.1)
 true)
 (nt f.2.1)
 true)
 (af (sG (((aj (((aj (aX (u8 c) 48)
 ((aX (u8 c) 48,()),())
 ((aX (u8 c) 0,()),())).1).1)
 ((),(a.2.1.1,(1:Int),a.2.1.2.2),())
 ((),((aj (aX (u8 c) 53)
 ((),(a.2.1.1,(2:Int),a.2.1.2.2),())
 ((),((aj (aX (u8 c) 50)
 ((),(a.2.1.1,(3:Int),a.2.1.2.2.1,a.2.1.2.2.2.1,a.2.1.2.2.2.2.1,a.2.1.2.2.2.2.2.1,a.2.1.2.2.2.2.2.2.1,k.1,a.2.1.2.2.2.2.2.2.2.2),())
 ((),a.2.1,())).2).1,())).2).1,())).2).1,(256:Int),())) λd=>some (nt d.1))
 (some true)) λd=>aj d
 (some ((([]:aq),(0:Int),(0:Int),(0:Int),(0:Int),(0:Int),(0:Int),([]:aq),()),(2:Int),()))
 (some (((aj (((aj (aX (u8 c) 48)
 ((aX (u8 c) 48,()),())
 ((aX (u8 c) 0,()),())).1).1)
 ((),(a.2.1.1,(1:Int),a.2.1.2.2),())
 ((),((aj (aX (u8 c) 53)
 ((),(a.2.1.1,(2:Int),a.2.1.2.2),())
 ((),((aj (aX (u8 c) 50)
 ((),(a.2.1.1,(3:Int),a.2.1.2.2.1,a.2.1.2.2.2.1,a.2.1.2.2.2.2.1,a.2.1.2.2.2.2.2.1,a.2.1.2.2.2.2.2.2.1,k.1,a.2.1.2.2.2.2.2.2.2.2),())
 ((),a.2.1,())).2).1,())).2).1,())).2).1,(0:Int),())))
 none)
 none)
 none)
 none)
 none)
 none)
 none)
 none))
def dX(a:PM×(List ib)×ai):Option ((PM×(List ib)×ai)⊕(Nat×PM×(List ib)×ai)) :=
 aj (cu 512<|len a.1.1)
 (aj (inside 0 512<|len a.1.1)
 (af (tU (sub a.1.1 (0:Int)<|minus 512 0,())) λf=>aj f.1
 (af (tV (a.1.1,())) λc=>some (Sum.inr (1,(a.1.1,a.2.1,c.1,(),()),a.2.1,())))
 (aj (inside 0 512<|len a.1.1)
 (af (nJ (sub a.1.1 (0:Int)<|minus 512 0,())) λc=>af (aj (nt<|aj (nt<|nt<|aX c.2.1 0)
 (aY 8192 c.1.2.2.2.2.2.1)
 true)
 (af (lF (c.1.2.2.2.2.2.1,())) λd=>some (aY (len a.1.1)<|aF i64 512 d.1))
 (some true)) λd=>aj (aj (nt d)
 (cu 64<|len a.2.1)
 true)
 (some<|Sum.inr (1,(a.1.1,a.2.1,false,(),()),a.2.1,()))
 (aj (inside 512 (aF i64 512 c.1.2.2.2.2.2.1)<|len a.1.1)
 (aj (fits<|plus (len a.2.1)<|len ([(c.1,sub a.1.1 (512:Int)<|minus (aF i64 512 c.1.2.2.2.2.2.1) 512,())]:List ib))
 (af (lF (c.1.2.2.2.2.2.1,())) λe=>aj (inside (aF i64 512 e.1) (len a.1.1)<|len a.1.1)
 (some<|Sum.inl ((sub a.1.1 (aF i64 512 e.1)<|minus (len a.1.1)<|aF i64 512 e.1,a.1.2.1,a.1.2.2.1,(),()),app a.2.1 ([(c.1,sub a.1.1 (512:Int)<|minus (aF i64 512 c.1.2.2.2.2.2.1) 512,())]:List ib),()))
 none)
 none)
 none))
 none))
 none)
 (some<|Sum.inr (0,(a.1.1,a.1.2.1,a.1.2.2.1,(),()),a.2.1,()))
def se(x:Sb×ai):Option ((List ib)×Bool×ai) :=
 aj (aY 8192<|len x.1)
 (some (([]:List ib),false,()))
 (af (Loop (dX) ((x.1,([]:List ib),false,(),()),([]:List ib),())) λa=>aj (dJ a.1 0)
 (some (a.2.2.1,false,()))
 (some (a.2.1.2.1,a.2.1.2.2.1,())))
def kJ(x:Sb×ai):Option ((List ib)×Int×ai) :=
 af (se (x.1,())) (λa=>aj (nt a.2.1)
 (some (([]:List ib),(10:Int),()))
 (some (a.1,(0:Int),())))
def oz(x:Sb×ai):Option (Int×ai) :=
 af (kJ (x.1,())) (λc=>af (aj (nt<|nt<|aX c.2.1 0)
 (af (oy (c.1,())) λa=>some (nt a.1))
 (some true)) λa=>aj a
 (some ((10:Int),()))
 (some ((0:Int),())))
def lJ(x:(List bS)×Sb×ai):Option n6 :=
 af (kI (x.1,())) (λd=>aj (nt d.1)
 (some (([]:List bS),(1:Int),()))
 (af (oz (x.2.1,())) λa=>aj (nt<|aX a.1 0)
 (some (([]:List bS),a.1,()))
 (af (kJ (x.2.1,())) λe=>af (vN (x.1,e.1,())) λc=>some (c.1,c.2.1,()))))
def fx(x:(List Sb)×ai)(a:Fl×ai):Option ((Fl×ai)⊕(Nat×Fl×ai)) :=
 aj (aY a.1.2.2.2.1<|len x.1)
 (af (idx x.1 a.1.2.2.2.1) λd=>af (iP (a.1.2.2.1,d,())) λc=>aj (nt<|aX c.2.1 0)
 (some<|Sum.inr (1,(([]:List bS),c.2.1,a.1.2.2.1,a.1.2.2.2.1,()),()))
 (some<|Sum.inl ((a.1.1,a.1.2.1,c.1,aF i64 a.1.2.2.2.1 1,()),())))
 (some<|Sum.inr (0,(a.1.1,a.1.2.1,a.1.2.2.1,a.1.2.2.2.1,()),()))
def oA(x:(List Sb)×ai):Option n6 :=
 af (Loop (fx x) ((([]:List bS),(0:Int),([]:List bS),(0:Int),()),())) (λa=>aj (dJ a.1 0)
 (some (a.2.1.2.2.1,(0:Int),()))
 (some (a.2.1.1,a.2.1.2.1,())))
end Go.Ge
namespace Go.Ge
variable [Lp]
set_option maxRecDepth 100000
abbrev cZ:=(Sb×Sb×(List Sb)×Sb×Int×Int×Bool×ai)
abbrev tW:=(Sb×(List Sb)×Sb×Sb×Sb×(List<|Sb×Sb×Sb×ai)×ai)
abbrev tX:=(Sb×(List Sb)×Sb×Sb×(List<|Sb×Sb×Sb×ai)×ai)
abbrev jH:=((List tW)×(List tX)×(List cZ)×(List Sb)×(List<|Sb×Int×ai)×ai)
abbrev vO:=(Sb×Int×Int×Sb×Sb×ai)
abbrev nK:=(Bool×Int×ai)
abbrev A0:=((ai×ai×Int×ai)×(List Sb)×(List Sb)×ai)
abbrev tY:=(Nat×(Int×Int×ai)×ai)
abbrev ac9:=(List<|Sb×Sb×Sb×ai)
abbrev sf:=(Nat×nK×ai)
abbrev J6:=(Sb×(List cZ)×Int×ai×Int×ai)
abbrev qp:=((Int×Int×ai)×ai)
abbrev agb:=((Nat×(ai×ai×Int×ai)×(List Sb)×(List Sb)×ai))
abbrev J7:=((List vO)×Int×(List vO)×Int×ai)
abbrev lj:=(nK×ai)
abbrev sM:=(Int×(List cZ)×(List tX)×(List tW)×ai)
abbrev DP:=(Sb×Int×ai)
def qq(x:(List cZ)×ai)(a:nK×ai):Option (lj⊕sf) :=
 aj (aj (aY a.1.2.1<|len x.1)
 (aY a.1.2.1 40)
 false)
 (af (idx x.1 a.1.2.1) λd=>af (aj (nt<|aY 100<|len d.1)
 (af (idx x.1 a.1.2.1) λc=>some (aY 100<|len c.2.1))
 (some true)) λc=>aj c
 (some<|Sum.inr (1,(false,a.1.2.1,()),()))
 (some<|Sum.inl ((a.1.1,aF i64 a.1.2.1 1,()),())))
 (some<|Sum.inr (0,(a.1.1,a.1.2.1,()),()))
def vP(x:(List cZ)×ai):Option (Bool×ai) :=
 af (Loop (qq x) ((false,(0:Int),()),())) (λa=>aj (dJ a.1 0)
 (some (cu (len x.1) 40,()))
 (some (a.2.1.1,())))
def qs(x:jH×ai)(a:nK×ai):Option (lj⊕sf) :=
 aj (aj (aY a.1.2.1<|len x.1.2.2.2.1)
 (aY a.1.2.1 12)
 false)
 (af (idx x.1.2.2.2.1 a.1.2.1) λc=>aj (aY 8192<|len c)
 (some<|Sum.inr (1,(false,a.1.2.1,()),()))
 (some<|Sum.inl ((a.1.1,aF i64 a.1.2.1 1,()),())))
 (some<|Sum.inr (0,(a.1.1,a.1.2.1,()),()))
def vQ(x:jH×ai):Option (Bool×ai) :=
 af (Loop (qs x) ((false,(0:Int),()),())) (λc=>aj (dJ c.1 0)
 (af (pF (((0:Int),x.1.2.2.1,x.1.2.1,x.1.1,()),())) λd=>af (aj d.1
 (af (vP (x.1.2.2.1,())) λa=>some a.1)
 (some false)) λa=>some (aj (aj (aj a
 (cu (len x.1.2.2.1) 12)
 false)
 (cu (len x.1.2.2.2.1) 12)
 false)
 (cu (len x.1.2.2.2.2.1) 40)
 false,()))
 (some (c.2.1.1,())))
def fF(x:Sb×ai):Option (Bool×ai) :=
 af (oj (x.1,())) (λa=>some (aj a.2.1
 (aX (len x.1) 6)
 false,()))
def oB(x:cZ×ai):Option (Bool×ai) :=
 af (fF (x.1.1,())) (λe=>af (aj e.1
 (af (aj (nt<|bt x.1.2.1 ([]:aq))
 (af (fF (x.1.2.1,())) λa=>some (aj a.1
 (nt<|bt x.1.2.1 x.1.1)
 false))
 (some true)) λa=>some a)
 (some false)) λa=>af (aj a
 (af (lG (x.1.2.2.1,())) λc=>some c.1)
 (some false)) λc=>af (aj c
 (af (rS (x.1.2.2.2.1,())) λd=>some (aX d.1 0))
 (some false)) λd=>some (aj (aj (aj (aj d
 (cu 0 x.1.2.2.2.2.1)
 false)
 (cu x.1.2.2.2.2.1 8192)
 false)
 (cu 0 x.1.2.2.2.2.2.1)
 false)
 (cu x.1.2.2.2.2.2.1 32)
 false,()))
def oC(x:tX×ai):Option (Bool×ai) :=
 af (fF (x.1.1,())) (λe=>af (aj e.1
 (af (lG (x.1.2.1,())) λc=>some c.1)
 (some false)) λc=>af (aj c
 (af (aj (nt<|bt x.1.2.2.1 ([]:aq))
 (af (fF (x.1.2.2.1,())) λa=>some a.1)
 (some true)) λa=>some a)
 (some false)) λa=>af (aj (aj a
 (cu (len x.1.2.2.2.1) 64)
 false)
 (af (lH (x.1.2.2.2.2.1,())) λd=>some d.1)
 (some false)) λd=>some (d,()))
def sN(x:tW×ai):Option (Bool×ai) :=
 af (fF (x.1.1,())) (λf=>af (aj f.1
 (af (lG (x.1.2.1,())) λc=>some c.1)
 (some false)) λc=>af (aj c
 (af (aj (nt<|bt x.1.2.2.1 ([]:aq))
 (af (fF (x.1.2.2.1,())) λa=>some a.1)
 (some true)) λa=>some a)
 (some false)) λa=>af (aj a
 (af (fF (x.1.2.2.2.1,())) λd=>some d.1)
 (some false)) λd=>af (aj (aj d
 (cu (len x.1.2.2.2.2.1) 64)
 false)
 (af (lH (x.1.2.2.2.2.2.1,())) λe=>some e.1)
 (some false)) λe=>some (e,()))
def Fo(x:sM×ai)(a:(ai×ai×Int×ai)×(List Sb)×(List Sb)×ai):Option (A0⊕A0) :=
 dh (aj (aY a.1.2.2.1<|len x.1.2.1)
 (af (idx x.1.2.1 a.1.2.2.1) λc=>aj (fits<|plus (len a.2.2.1)<|len ([c.1]:List Sb))
 (af (idx x.1.2.1 a.1.2.2.1) λd=>aj (fits<|plus (len a.2.1)<|len d.2.2.1)
 (some<|Sum.inl (((),(),aF i64 a.1.2.2.1 1,()),app a.2.1 d.2.2.1,app a.2.2.1 ([c.1]:List Sb),()))
 none)
 none)
 (some<|Sum.inr (0,((),(),a.1.2.2.1,()),a.2.1,a.2.2.1,())))
def Fq(x:sM×ai)(a:(ai×ai×Int×ai)×(List Sb)×(List Sb)×ai):Option (A0⊕A0) :=
 dh (aj (aY a.1.2.2.1<|len x.1.2.2.1)
 (af (idx x.1.2.2.1 a.1.2.2.1) λc=>aj (fits<|plus (len a.2.2.1)<|len ([c.1]:List Sb))
 (af (idx x.1.2.2.1 a.1.2.2.1) λd=>aj (fits<|plus (len a.2.1)<|len d.2.1)
 (some<|Sum.inl (((),(),aF i64 a.1.2.2.1 1,()),app a.2.1 d.2.1,app a.2.2.1 ([c.1]:List Sb),()))
 none)
 none)
 (some<|Sum.inr (0,((),(),a.1.2.2.1,()),a.2.1,a.2.2.1,())))
def Fs(x:sM×ai)(a:(ai×ai×Int×ai)×(List Sb)×(List Sb)×ai):Option (A0⊕A0) :=
 dh (aj (aY a.1.2.2.1<|len x.1.2.2.2.1)
 (af (idx x.1.2.2.2.1 a.1.2.2.1) λc=>aj (fits<|plus (len a.2.2.1)<|len ([c.1]:List Sb))
 (af (idx x.1.2.2.2.1 a.1.2.2.1) λd=>aj (fits<|plus (len a.2.1)<|len d.2.1)
 (some<|Sum.inl (((),(),aF i64 a.1.2.2.1 1,()),app a.2.1 d.2.1,app a.2.2.1 ([c.1]:List Sb),()))
 none)
 none)
 (some<|Sum.inr (0,((),(),a.1.2.2.1,()),a.2.1,a.2.2.1,())))
def sg(x:sM×ai):Option ((List Sb)×(List Sb)×ai) :=
 af (Loop (Fo x) (((),(),(0:Int),()),([]:List Sb),([]:List Sb),())) (λa=>af (Loop (Fq x) (((),(),(0:Int),()),a.2.1,a.2.2.1,())) λc=>af (Loop (Fs x) (((),(),(0:Int),()),c.2.1,c.2.2.1,())) λd=>some (d.2.2.1,d.2.1,()))
def nL(x:Int×sM×ai)(a:(Int×Int×ai)×ai):Option (qp⊕tY) :=
 aj (aY a.1.2.1<|len x.2.1.2.1)
 (af (idx x.2.1.2.1 a.1.2.1) λc=>af (oB (c,())) λd=>aj (nt d.1)
 (some<|Sum.inr (1,((1:Int),a.1.2.1,()),()))
 (some<|Sum.inl ((a.1.1,aF i64 a.1.2.1 1,()),())))
 (some<|Sum.inr (0,(a.1.1,a.1.2.1,()),()))
def nM(x:Int×sM×ai)(a:(Int×Int×ai)×ai):Option (qp⊕tY) :=
 aj (aY a.1.2.1<|len x.2.1.2.2.1)
 (af (idx x.2.1.2.2.1 a.1.2.1) λc=>af (oC (c,())) λd=>aj (nt d.1)
 (some<|Sum.inr (1,((1:Int),a.1.2.1,()),()))
 (some<|Sum.inl ((a.1.1,aF i64 a.1.2.1 1,()),())))
 (some<|Sum.inr (0,(a.1.1,a.1.2.1,()),()))
def nN(x:Int×sM×ai)(a:(Int×Int×ai)×ai):Option (qp⊕tY) :=
 aj (aY a.1.2.1<|len x.2.1.2.2.2.1)
 (af (idx x.2.1.2.2.2.1 a.1.2.1) λd=>af (sN (d,())) λc=>aj (nt c.1)
 (some<|Sum.inr (1,((1:Int),a.1.2.1,()),()))
 (some<|Sum.inl ((a.1.1,aF i64 a.1.2.1 1,()),())))
 (some<|Sum.inr (0,(a.1.1,a.1.2.1,()),()))
def gU(c:(List Sb)×(List Sb)×ai)(a:(Int×Int×ai)×ai):Option (qp⊕tY) :=
 aj (aY a.1.2.1<|len c.1)
 (af (idx c.1<|cC i64 a.1.2.1 1) λd=>af (idx c.1 a.1.2.1) λe=>aj (nt<|iu d e)
 (some<|Sum.inr (1,((1:Int),a.1.2.1,()),()))
 (some<|Sum.inl ((a.1.1,aF i64 a.1.2.1 1,()),())))
 (some<|Sum.inr (0,(a.1.1,a.1.2.1,()),()))
def gV(f:(List Sb)×(List Sb)×ai)(c:(Int×Int×ai)×ai)(a:(Int×Int×ai)×ai):Option (qp⊕tY) :=
 aj (aY a.1.2.1 c.1.2.1)
 (af (idx f.2.1 a.1.2.1) λd=>af (idx f.2.1 c.1.2.1) λe=>aj (bt d e)
 (some<|Sum.inr (1,((1:Int),a.1.2.1,()),()))
 (some<|Sum.inl ((a.1.1,aF i64 a.1.2.1 1,()),())))
 (some<|Sum.inr (0,(a.1.1,a.1.2.1,()),()))
def gW(d:(List Sb)×(List Sb)×ai)(a:(Int×Int×ai)×ai):Option (qp⊕tY) :=
 aj (aY a.1.2.1<|len d.2.1)
 (af (Loop (gV d a) ((a.1.1,(0:Int),()),())) λc=>aj (dJ c.1 0)
 (some<|Sum.inl ((c.2.1.1,aF i64 a.1.2.1 1,()),()))
 (some<|Sum.inr (1,(c.2.1.1,a.1.2.1,()),())))
 (some<|Sum.inr (0,(a.1.1,a.1.2.1,()),()))
def lK(x:Int×sM×ai):Option (Int×ai) :=
 aj (aY x.1 1)
 (some ((1:Int),()))
 (aj (aY 3 x.1)
 (some ((1:Int),()))
 (aj (aY x.2.1.1 0)
 (some ((1:Int),()))
 (aj (aY 9007199254740992 x.2.1.1)
 (some ((1:Int),()))
 (aj (within x.1 4)
 (af (idx ([(0:Int),len x.2.1.2.2.2.1,len x.2.1.2.2.1,len x.2.1.2.1]:List (Int)) x.1) λj=>aj (aY 32 j)
 (some ((1:Int),()))
 (aj (within 1 4)
 (af (idx ([(0:Int),len x.2.1.2.2.2.1,len x.2.1.2.2.1,len x.2.1.2.1]:List (Int)) (1:Int)) λk=>aj (within 2 4)
 (af (idx ([(0:Int),len x.2.1.2.2.2.1,len x.2.1.2.2.1,len x.2.1.2.1]:List (Int)) (2:Int)) λl=>aj (within 3 4)
 (af (idx ([(0:Int),len x.2.1.2.2.2.1,len x.2.1.2.2.1,len x.2.1.2.1]:List (Int)) (3:Int)) λn=>aj (within x.1 4)
 (af (idx ([(0:Int),len x.2.1.2.2.2.1,len x.2.1.2.2.1,len x.2.1.2.1]:List (Int)) x.1) λo=>aj (nt<|aX (aF i64 (aF i64 k l) n) o)
 (some ((1:Int),()))
 (af (Loop (nL x) (((0:Int),(0:Int),()),())) λd=>aj (dJ d.1 0)
 (af (Loop (nM x) ((d.2.1.1,(0:Int),()),())) λe=>aj (dJ e.1 0)
 (af (Loop (nN x) ((e.2.1.1,(0:Int),()),())) λf=>aj (dJ f.1 0)
 (af (sg (x.2.1,())) λi=>af (Loop (gU i) ((f.2.1.1,(1:Int),()),())) λa=>aj (dJ a.1 0)
 (af (Loop (gW i) ((a.2.1.1,(0:Int),()),())) λc=>aj (dJ c.1 0)
 (some ((0:Int),()))
 (some (c.2.1.1,())))
 (some (a.2.1.1,())))
 (some (f.2.1.1,())))
 (some (e.2.1.1,())))
 (some (d.2.1.1,()))))
 none)
 none)
 none)
 none))
 none))))
def Hq(x:(List cZ)×Sb×ai)(a:(Int×Int×ai)×ai):Option (qp⊕tY) :=
 aj (aY a.1.2.1<|len x.1)
 (af (idx x.1 a.1.2.1) λc=>aj (bt c.1 x.2.1)
 (some<|Sum.inr (1,(a.1.2.1,a.1.2.1,()),()))
 (some<|Sum.inl ((a.1.1,aF i64 a.1.2.1 1,()),())))
 (some<|Sum.inr (0,(a.1.1,a.1.2.1,()),()))
def ym(x:(List cZ)×Sb×ai):Option (Int×ai) :=
 af (Loop (Hq x) (((0:Int),(0:Int),()),())) (λa=>aj (dJ a.1 0)
 (some ((-1:Int),()))
 (some (a.2.1.1,())))
def kf(x:(List cZ)×Sb×ai)(a:J6×(List cZ)×ai):Option ((J6×(List cZ)×ai)⊕(Nat×J6×(List cZ)×ai)) :=
 aj (cu a.1.2.2.2.2.1 16)
 (af (ym (x.1,a.1.1,())) λc=>aj (aY c.1 0)
 (some<|Sum.inr (1,(a.1.1,([]:List cZ),(3:Int),(),a.1.2.2.2.2.1,()),a.2.1,()))
 (aj (aX a.1.2.2.2.2.1 16)
 (some<|Sum.inr (1,(a.1.1,([]:List cZ),(5:Int),(),a.1.2.2.2.2.1,()),a.2.1,()))
 (af (idx x.1 c.1) λd=>aj (fits<|plus (len a.2.1)<|len ([d]:List cZ))
 (af (idx x.1 c.1) λe=>aj (bt e.2.1 ([]:aq))
 (some<|Sum.inr (1,(a.1.1,app a.2.1 ([d]:List cZ),(0:Int),(),a.1.2.2.2.2.1,()),app a.2.1 ([d]:List cZ),()))
 (af (idx x.1 c.1) λf=>some (Sum.inl ((f.2.1,a.1.2.1,a.1.2.2.1,(),aF i64 a.1.2.2.2.2.1 1,()),app a.2.1 ([d]:List cZ),()))))
 none)))
 (some<|Sum.inr (0,(a.1.1,a.1.2.1,a.1.2.2.1,(),a.1.2.2.2.2.1,()),a.2.1,()))
def oD(x:(List cZ)×Sb×ai):Option ((List cZ)×Int×ai) :=
 af (Loop (kf x) ((x.2.1,([]:List cZ),(0:Int),(),(0:Int),()),([]:List cZ),())) (λa=>aj (dJ a.1 0)
 (some (([]:List cZ),(5:Int),()))
 (some (a.2.1.2.1,a.2.1.2.2.1,())))
def nO(x:(List cZ)×ai)(a:(Int×Int×ai)×ai):Option (qp⊕tY) :=
 aj (aY a.1.2.1<|len x.1)
 (af (idx x.1 a.1.2.1) λc=>af (oD (x.1,c.1,())) λd=>aj (nt<|aX d.2.1 0)
 (some<|Sum.inr (1,((2:Int),a.1.2.1,()),()))
 (some<|Sum.inl ((a.1.1,aF i64 a.1.2.1 1,()),())))
 (some<|Sum.inr (0,(a.1.1,a.1.2.1,()),()))
def si(x:(List cZ)×ai):Option (Int×ai) :=
 af (Loop (nO x) (((0:Int),(0:Int),()),())) (λa=>aj (dJ a.1 0)
 (some ((0:Int),()))
 (some (a.2.1.1,())))
def Hr(x:jH×Sb×ai)(a:(Int×Int×ai)×ai):Option (qp⊕tY) :=
 aj (aY a.1.2.1<|len x.1.2.2.1)
 (af (idx x.1.2.2.1 a.1.2.1) λc=>aj (bt c.1 x.2.1)
 (some<|Sum.inr (1,(a.1.2.1,a.1.2.1,()),()))
 (some<|Sum.inl ((a.1.1,aF i64 a.1.2.1 1,()),())))
 (some<|Sum.inr (0,(a.1.1,a.1.2.1,()),()))
def jn(x:jH×Sb×ai):Option (Int×ai) :=
 af (Loop (Hr x) (((0:Int),(0:Int),()),())) (λa=>aj (dJ a.1 0)
 (some ((-1:Int),()))
 (some (a.2.1.1,())))
def qt(x:jH×Int×ai):Option (Sb×ai) :=
 aj (aY x.2.1<|len x.1.2.2.2.1)
 (af (idx x.1.2.2.2.1 x.2.1) λa=>some (a,()))
 (some (([]:aq),()))
def fL(x:(List Sb)×ai)(a:J7×ai):Option ((J7×ai)⊕(Nat×J7×ai)) :=
 aj (aY a.1.2.2.2.1<|len x.1)
 (af (idx x.1 a.1.2.2.2.1) λd=>af (lJ (a.1.2.2.1,d,())) λc=>aj (nt<|aX c.2.1 0)
 (some<|Sum.inr (1,(([]:List vO),c.2.1,a.1.2.2.1,a.1.2.2.2.1,()),()))
 (some<|Sum.inl ((a.1.1,a.1.2.1,c.1,aF i64 a.1.2.2.2.1 1,()),())))
 (some<|Sum.inr (0,(a.1.1,a.1.2.1,a.1.2.2.1,a.1.2.2.2.1,()),()))
def vR(x:(List Sb)×ai):Option ((List vO)×Int×ai) :=
 af (Loop (fL x) ((([]:List vO),(0:Int),([]:List vO),(0:Int),()),())) (λa=>aj (dJ a.1 0)
 (some (a.2.1.2.2.1,(0:Int),()))
 (some (a.2.1.1,a.2.1.2.1,())))
def lp(x:jH×Sb×ai)(d:(List cZ)×Int×ai)(a:(ai×Int×ai)×(List Sb)×ai):Option (((ai×Int×ai)×(List Sb)×ai)⊕((ai×Int×ai)×(List Sb)×ai)) :=
 dh (aj (cu 0 a.1.2.1)
 (af (idx d.1 a.1.2.1) λe=>af (jn (x.1,e.1,())) λf=>af (qt (x.1,f.1,())) λc=>aj (fits<|plus (len a.2.1)<|len ([c.1]:List Sb))
 (some<|Sum.inl (((),cC i64 a.1.2.1 1,()),app a.2.1 ([c.1]:List Sb),()))
 none)
 (some<|Sum.inr (0,((),a.1.2.1,()),a.2.1,())))
def kK(x:jH×Sb×ai):Option ((List vO)×Int×ai) :=
 af (oD (x.1.2.2.1,x.2.1,())) (λa=>aj (nt<|aX a.2.1 0)
 (some (([]:List vO),a.2.1,()))
 (af (Loop (lp x a) (((),cC i64 (len a.1) 1,()),([]:List Sb),())) λd=>af (vR (d.2.1,())) λc=>some (c.1,c.2.1,())))
def mb(x:jH×ai)(a:nK×ai):Option (lj⊕sf) :=
 aj (aj (aY a.1.2.1<|len x.1.2.2.1)
 (aY a.1.2.1<|len x.1.2.2.2.1)
 false)
 (af (idx x.1.2.2.1 a.1.2.1) λc=>aj (nt c.2.2.2.2.2.2.1)
 (some<|Sum.inr (1,(false,a.1.2.1,()),()))
 (aj (nt<|aX c.2.2.2.2.2.1 0)
 (some<|Sum.inr (1,(false,a.1.2.1,()),()))
 (af (idx x.1.2.2.2.1 a.1.2.1) λd=>aj (nt<|aX c.2.2.2.2.1<|len d)
 (some<|Sum.inr (1,(false,a.1.2.1,()),()))
 (af (idx x.1.2.2.2.1 a.1.2.1) λe=>af (uO (e,())) λf=>aj (nt<|bt c.2.2.2.1 f.1)
 (some<|Sum.inr (1,(false,a.1.2.1,()),()))
 (af (idx x.1.2.2.2.1 a.1.2.1) λi=>af (oz (i,())) λj=>aj (nt<|aX j.1 0)
 (some<|Sum.inr (1,(false,a.1.2.1,()),()))
 (af (kK (x.1,c.1,())) λk=>aj (nt<|aX k.2.1 0)
 (some<|Sum.inr (1,(false,a.1.2.1,()),()))
 (some<|Sum.inl ((a.1.1,aF i64 a.1.2.1 1,()),()))))))))
 (some<|Sum.inr (0,(a.1.1,a.1.2.1,()),()))
def qu(x:jH×ai):Option (Bool×ai) :=
 af (aj (nt<|nt<|aX (len x.1.2.2.2.1)<|len x.1.2.2.1)
 (af (si (x.1.2.2.1,())) λa=>some (nt<|aX a.1 0))
 (some true)) (λa=>aj a
 (some (false,()))
 (af (Loop (mb x) ((false,(0:Int),()),())) λc=>aj (dJ c.1 0)
 (some (true,()))
 (some (c.2.1.1,()))))
def qv(x:jH×ai)(a:nK×ai):Option (lj⊕sf) :=
 aj (aY a.1.2.1<|len x.1.2.1)
 (af (idx x.1.2.1 a.1.2.1) λc=>aj (nt<|bt c.2.2.1 ([]:aq))
 (af (idx x.1.2.1 a.1.2.1) λd=>af (jn (x.1,d.2.2.1,())) λe=>aj (aY e.1 0)
 (some<|Sum.inr (1,(false,a.1.2.1,()),()))
 (some<|Sum.inl ((a.1.1,aF i64 a.1.2.1 1,()),())))
 (some<|Sum.inl ((a.1.1,aF i64 a.1.2.1 1,()),())))
 (some<|Sum.inr (0,(a.1.1,a.1.2.1,()),()))
def mT(x:jH×ai)(c:Sb×(List Sb)×Sb×Sb×Sb×ac9×ai)(a:nK×ai):Option (lj⊕lj) :=
 dh (aj (aY a.1.2.1<|len x.1.2.1)
 (aj a.1.1
 (some<|Sum.inl ((true,aF i64 a.1.2.1 1,()),()))
 (af (idx x.1.2.1 a.1.2.1) λd=>some (Sum.inl ((bt d.1 c.2.2.1,aF i64 a.1.2.1 1,()),()))))
 (some<|Sum.inr (0,(a.1.1,a.1.2.1,()),())))
def qw(x:jH×ai)(a:nK×ai):Option (lj⊕sf) :=
 aj (aY a.1.2.1<|len x.1.1)
 (af (idx x.1.1 a.1.2.1) λc=>af (Loop (mT x c) ((bt c.2.2.1 ([]:aq),(0:Int),()),())) λe=>af (aj (nt<|nt e.1.1)
 (af (jn (x.1,c.2.2.2.1,())) λd=>some (aY d.1 0))
 (some true)) λd=>aj d
 (some<|Sum.inr (1,(false,a.1.2.1,()),()))
 (some<|Sum.inl ((a.1.1,aF i64 a.1.2.1 1,()),())))
 (some<|Sum.inr (0,(a.1.1,a.1.2.1,()),()))
def qx(x:jH×ai)(a:nK×ai):Option (lj⊕sf) :=
 aj (aY a.1.2.1<|len x.1.2.2.2.2.1)
 (af (idx x.1.2.2.2.2.1 a.1.2.1) λc=>af (jn (x.1,c.1,())) λe=>aj (aY e.1 0)
 (some<|Sum.inr (1,(false,a.1.2.1,()),()))
 (aj (aY c.2.1 1)
 (some<|Sum.inr (1,(false,a.1.2.1,()),()))
 (aj (aY 1000 c.2.1)
 (some<|Sum.inr (1,(false,a.1.2.1,()),()))
 (aj (aY 0 a.1.2.1)
 (af (idx x.1.2.2.2.2.1<|cC i64 a.1.2.1 1) λd=>aj (nt<|iu d.1 c.1)
 (some<|Sum.inr (1,(false,a.1.2.1,()),()))
 (some<|Sum.inl ((a.1.1,aF i64 a.1.2.1 1,()),())))
 (some<|Sum.inl ((a.1.1,aF i64 a.1.2.1 1,()),()))))))
 (some<|Sum.inr (0,(a.1.1,a.1.2.1,()),()))
def kv(x:jH×ai):Option (Bool×ai) :=
 af (lK ((1:Int),((0:Int),([]:List cZ),([]:List tX),x.1.1,()),())) (λj=>af (aj (nt<|nt<|aX j.1 0)
 (af (lK ((2:Int),((0:Int),([]:List cZ),x.1.2.1,([]:List tW),()),())) λa=>some (nt<|aX a.1 0))
 (some true)) λa=>af (aj (nt a)
 (af (lK ((3:Int),((0:Int),x.1.2.2.1,([]:List tX),([]:List tW),()),())) λc=>some (nt<|aX c.1 0))
 (some true)) λc=>af (aj (nt c)
 (af (qu (x.1,())) λd=>some (nt d.1))
 (some true)) λd=>aj (aj (nt d)
 (aY 32<|len x.1.2.2.2.2.1)
 true)
 (some (false,()))
 (af (Loop (qv x) ((false,(0:Int),()),())) λe=>aj (dJ e.1 0)
 (af (Loop (qw x) ((e.2.1.1,(0:Int),()),())) λf=>aj (dJ f.1 0)
 (af (Loop (qx x) ((f.2.1.1,(0:Int),()),())) λi=>aj (dJ i.1 0)
 (some (true,()))
 (some (i.2.1.1,())))
 (some (f.2.1.1,())))
 (some (e.2.1.1,()))))
def jo(x:(List tW)×(List tW)×ai)(a:nK×ai):Option (lj⊕sf) :=
 aj (aj (aY a.1.2.1<|len x.1)
 (aY a.1.2.1<|len x.2.1)
 false)
 (af (idx x.1 a.1.2.1) λc=>af (idx x.2.1 a.1.2.1) λd=>af (aj (nt<|nt<|bt c.1 d.1)
 (af (eg (c.2.1,d.2.1,())) λe=>some (nt e.1))
 (some true)) λe=>af (aj (nt<|aj (nt<|aj (nt<|aj (nt e)
 (nt<|bt c.2.2.1 d.2.2.1)
 true)
 (nt<|bt c.2.2.2.1 d.2.2.2.1)
 true)
 (nt<|bt c.2.2.2.2.1 d.2.2.2.2.1)
 true)
 (af (fX (c.2.2.2.2.2.1,d.2.2.2.2.2.1,())) λf=>some (nt f.1))
 (some true)) λf=>aj f
 (some<|Sum.inr (1,(false,a.1.2.1,()),()))
 (some<|Sum.inl ((a.1.1,aF i64 a.1.2.1 1,()),())))
 (some<|Sum.inr (0,(a.1.1,a.1.2.1,()),()))
def mc(x:(List tW)×(List tW)×ai):Option (Bool×ai) :=
 aj (nt<|aX (len x.1)<|len x.2.1)
 (some (false,()))
 (af (Loop (jo x) ((false,(0:Int),()),())) λa=>aj (dJ a.1 0)
 (some (true,()))
 (some (a.2.1.1,())))
def iB(x:(List tX)×(List tX)×ai)(a:nK×ai):Option (lj⊕sf) :=
 aj (aj (aY a.1.2.1<|len x.1)
 (aY a.1.2.1<|len x.2.1)
 false)
 (af (idx x.1 a.1.2.1) λc=>af (idx x.2.1 a.1.2.1) λd=>af (aj (nt<|nt<|bt c.1 d.1)
 (af (eg (c.2.1,d.2.1,())) λe=>some (nt e.1))
 (some true)) λe=>af (aj (nt<|aj (nt<|aj (nt e)
 (nt<|bt c.2.2.1 d.2.2.1)
 true)
 (nt<|bt c.2.2.2.1 d.2.2.2.1)
 true)
 (af (fX (c.2.2.2.2.1,d.2.2.2.2.1,())) λf=>some (nt f.1))
 (some true)) λf=>aj f
 (some<|Sum.inr (1,(false,a.1.2.1,()),()))
 (some<|Sum.inl ((a.1.1,aF i64 a.1.2.1 1,()),())))
 (some<|Sum.inr (0,(a.1.1,a.1.2.1,()),()))
def kL(x:(List tX)×(List tX)×ai):Option (Bool×ai) :=
 aj (nt<|aX (len x.1)<|len x.2.1)
 (some (false,()))
 (af (Loop (iB x) ((false,(0:Int),()),())) λa=>aj (dJ a.1 0)
 (some (true,()))
 (some (a.2.1.1,())))
def iC(x:(List cZ)×(List cZ)×ai)(a:nK×ai):Option (lj⊕sf) :=
 aj (aj (aY a.1.2.1<|len x.1)
 (aY a.1.2.1<|len x.2.1)
 false)
 (af (idx x.1 a.1.2.1) λc=>af (idx x.2.1 a.1.2.1) λd=>af (aj (nt<|aj (nt<|nt<|bt c.1 d.1)
 (nt<|bt c.2.1 d.2.1)
 true)
 (af (eg (c.2.2.1,d.2.2.1,())) λe=>some (nt e.1))
 (some true)) λe=>aj (aj (nt<|aj (nt<|aj (nt<|aj (nt e)
 (nt<|bt c.2.2.2.1 d.2.2.2.1)
 true)
 (nt<|aX c.2.2.2.2.1 d.2.2.2.2.1)
 true)
 (nt<|aX c.2.2.2.2.2.1 d.2.2.2.2.2.1)
 true)
 (nt<|eqB c.2.2.2.2.2.2.1 d.2.2.2.2.2.2.1)
 true)
 (some<|Sum.inr (1,(false,a.1.2.1,()),()))
 (some<|Sum.inl ((a.1.1,aF i64 a.1.2.1 1,()),())))
 (some<|Sum.inr (0,(a.1.1,a.1.2.1,()),()))
def kM(x:(List cZ)×(List cZ)×ai):Option (Bool×ai) :=
 aj (nt<|aX (len x.1)<|len x.2.1)
 (some (false,()))
 (af (Loop (iC x) ((false,(0:Int),()),())) λa=>aj (dJ a.1 0)
 (some (true,()))
 (some (a.2.1.1,())))
def iD(x:(List DP)×(List DP)×ai)(a:nK×ai):Option (lj⊕sf) :=
 aj (aj (aY a.1.2.1<|len x.1)
 (aY a.1.2.1<|len x.2.1)
 false)
 (af (idx x.1 a.1.2.1) λc=>af (idx x.2.1 a.1.2.1) λd=>aj (nt<|an (bt c.1 d.1)<|an (aX c.2.1 d.2.1) true)
 (some<|Sum.inr (1,(false,a.1.2.1,()),()))
 (some<|Sum.inl ((a.1.1,aF i64 a.1.2.1 1,()),())))
 (some<|Sum.inr (0,(a.1.1,a.1.2.1,()),()))
def kN(x:(List DP)×(List DP)×ai):Option (Bool×ai) :=
 aj (nt<|aX (len x.1)<|len x.2.1)
 (some (false,()))
 (af (Loop (iD x) ((false,(0:Int),()),())) λa=>aj (dJ a.1 0)
 (some (true,()))
 (some (a.2.1.1,())))
def ew(x:jH×jH×ai):Option (Bool×ai) :=
 af (mc (x.1.1,x.2.1.1,())) (λf=>af (aj f.1
 (af (kL (x.1.2.1,x.2.1.2.1,())) λa=>some a.1)
 (some false)) λa=>af (aj a
 (af (kM (x.1.2.2.1,x.2.1.2.2.1,())) λc=>some c.1)
 (some false)) λc=>af (aj c
 (af (eg (x.1.2.2.2.1,x.2.1.2.2.2.1,())) λd=>some d.1)
 (some false)) λd=>af (aj d
 (af (kN (x.1.2.2.2.2.1,x.2.1.2.2.2.2.1,())) λe=>some e.1)
 (some false)) λe=>some (e,()))
end Go.Ge
namespace Go.Ge
variable [Lp]
def idN(n:Int):Tx:=rr (bh [jC .u8<|mu .i64 n 16,jC .u8 (mu .i64 n 8),jC .u8 n])
def idK(d:Int)(k:Nat):Tx:=idN (iE (aF .i64 (lP .i64 d 16777215) (k:Int)) 16777216)
def CA(s:Tx):Prop:=(mM s).isSome=true/\s.length=6
theorem mU(s:Tx)(a:s.length<=1048576):∃b,fF (s,())=some (b,())/\(b=true↔CA s):=by
 unfold fF;dsimp only;rw[DJ s a,aa];have e6:aX (@len UInt8 s) (6:Int)=decide (s.length=6):=by unfold aX len;apply gi.2;omega
 refine⟨_,rfl,?_⟩;rw[e6];unfold CA ans;cases mM s with
 | none=>simp[aj]
 | some x=>simp[aj]
theorem Ma(n:Int):vL (n,())=some (idN n,()):=by
 unfold vL;rw[show aY (16:Int) 0=false from rfl,ae,show aY (8:Int) 0=false from rfl,ae,WK _ (by show 3<=1048576;omega),aa];rfl
theorem aeR(n:Int):CA (idN n):=by
 have h:∀a b c:UInt8,(mM<|rr [a,b,c]).isSome=true/\(rr [a,b,c]).length=6:=λa b c=>⟨by rw[NF];rfl,rfl⟩;exact h _ _ _
def DQ(l:List Nm)(d:Int)(k:Nat):Bool:=decide (∀x∈l,x.1≠idK d k)
def eo(l:List Nm)(d:Int):Tx×Int×ai:=if 32<=l.length then([],5,()) else
 match(List.range<|l.length+1).find? (DQ l d) with|some k=>(idK d k,0,())|none=>([],5,())
theorem Yo(l:List Nm)(d:Int)(s:Tx)(o:l.length<=1000000) :
  (∃i:Nat,Loop (fW (l,d,())) (((0:Int),(0:Int),()),s,())=some (1,((i:Int),(i:Int),()),s,())/\∃x∈l,x.1=s) \/
  (Loop (fW (l,d,())) (((0:Int),(0:Int),()),s,())=some (0,((0:Int),len l,()),s,())/\∀x∈l,x.1≠s):=by
 rcases ko (f:=fW (l,d,())) l (λi=>(((0:Int),i,()),s,())) (λ_ x=>decide (x.1=s)) (λi x=>(1,((i:Int),(i:Int),()),s,())) (0,((0:Int),len l,()),s,()) (by omega) (λi x a c e=>by
  unfold fW;dsimp only;rw[ak c,ab,ao a,aa,hJ,e];by_cases h:x.1=s<;>simp[bt,h]) (by unfold fW;dsimp only;rw[ay,ae];rfl) with ⟨i,x,a,j,p,h⟩|⟨k,h⟩
 .exact .inl ⟨i,h,x,dY a,gM j⟩
 .refine .inr ⟨h,λx a n=>?_⟩;obtain⟨i,c⟩:=bp.1 a;have:=k i x c;simp[n] at this
theorem NO(l:List Nm)(d:Int):qj (l,d,())=some (eo l d):=by
 unfold qj eo;dsimp only;have o:cu (32:Int) (len l)=decide (32<=l.length):=by unfold cu len;apply gi.2;omega
 rw[o];by_cases a:32<=l.length
 .rw[dI a,aQ a];rfl
 rw[cJ a,aM a,ae];have c:aF .i64 (len l) 1=((l.length+1:Nat):Int):=by rw[en (by unfold len;omega)<|by unfold len;omega];unfold len;omega
 have hlen:(List.range<|l.length+1).length=l.length+1:=QI;have key:∀k:Nat,k<l.length+1->jl (l,d,()) ((([]:Tx),(0:Int),(k:Int),()),())=some (if DQ l d k=true then .inr (1,(idK d k,(0:Int),(k:Int),()),()) else .inl ((([]:Tx),(0:Int),((k+1:Nat):Int),()),())):=λk e=>by
  have p:aF .i64 (k:Int) 1=((k+1:Nat):Int):=aL (by omega);unfold jl;dsimp only;rw[c,aK (by omega),ab,show aX (16777216:Int) 0=false from rfl,ae,Ma,aa,p];dsimp only;show af (Loop _ (((0:Int),(0:Int),()),idK d k,())) _=_
  rcases Yo l d (idK d k) (by omega) with ⟨i,h,x,n,w⟩|⟨h,q⟩
  .rw[h,aa];dsimp only;rw[show dJ 1 0=false from rfl,ae,b6 (by omega),aA,ae,aM (by unfold DQ;rw[Io];exact λy=>y x n w)]
  .rw[h,aa];dsimp only;rw[show dJ 0 0=true from rfl,ab,show nt (cu (0:Int)<|-1)=true from rfl,ab,aQ (by unfold DQ;rw[Io];exact q)];rfl
 rcases ko (f:=jl (l,d,())) (List.range<|l.length+1) (λk=>((([]:Tx),(0:Int),k,()),())) (λk _=>DQ l d k) (λk _=>(1,(idK d k,(0:Int),(k:Int),()),())) (0,(([]:Tx),(0:Int),((l.length+1:Nat):Int),()),()) (by rw[hlen];omega)
  (λk x n v C=>key k (by rw[hlen] at v;exact v)) (by
   unfold jl;dsimp only;rw[c,hlen,aB (by omega),ae]) with ⟨k,x,n,A,B,h⟩|⟨q,h⟩
 .have e:=aD n;rw[hlen] at e;rw[h,aa];have r:(List.range<|l.length+1).find? (DQ l d)=some k:=by
   rw[adO];refine⟨A,k,by rw[hlen];exact e,by simp,λj s=>?_⟩;have:=B j j s (by rw[Iq<|by omega]);simpa using this
  rw[r];rfl
 .rw[h,aa];have r:(List.range<|l.length+1).find? (DQ l d)=none:=by
   rw[QH];intro k e;have e:=B8.1 e;have:=q k k (by rw[Iq e]);simpa using this
  rw[r];rfl
theorem abu{l:List Nm}{d:Int}(h:(eo l d).2.1=0):l.length<32/\CA (eo l d).1/\∀x∈l,x.1≠(eo l d).1:=by
 unfold eo at h⊢;by_cases a:32<=l.length
 .rw[aQ a] at h;cases h
 .rw[aM a] at h⊢;cases c:(List.range<|l.length+1).find? (DQ l d) with
  | none=>rw[c] at h;cases h
  | some k =>
    have:=QS c;unfold DQ at this;exact⟨by omega,aeR _,gM this⟩
abbrev It:=Tx×Tx×Tx×ai
theorem J8(l:List It)(j:l.length<=100000):fX (l,l,())=some (true,()):=by
 unfold fX;dsimp only;rw[aJ rfl,aA,ae];rcases ko (f:=jm (l,l,())) l (λi=>((false,i,()),())) (λ_ _=>false) (λi _=>(1,(false,(i:Int),()),())) (0,(false,(l.length:Int),()),()) (by omega) (λi x a c d=>by
  unfold jm;dsimp only;rw[ak c,ab,ab,ao a,aa,aa,ch rfl,ch rfl,ch rfl,d];rfl) (by unfold jm;dsimp only;rw[ay,ae,ae]) with ⟨i,x,_,e,_⟩|⟨k,h⟩
 .cases e
 .rw[h];rfl
abbrev KS:=(Int×Int×ai)×ai×Tx×ai
abbrev PS':=(Int×Int×ai)×ai×It×ai
end Go.Ge
namespace Go.Ge
set_option maxRecDepth 100000
end Go.Ge
namespace Go.Ge
variable [Lp]
theorem DR(l:List It):∃b,dU (l,())=some (b,())/\(b=true->l.length<=8/\∀x∈l,x.1.length<=100/\x.2.2.1.length<=200):=by
 unfold dU;rcases rq (f:=ec (l,())) l 8 (λi=>((false,i,()),())) (λ_ x=>decide (100<x.1.length)||decide (200<x.2.2.1.length)) (λi x=>(1,(false,(i:Int),()),())) (λm=>(0,(false,(m:Int),()),())) (by omega) (λi x c a j k=>by
  unfold ec;dsimp only;have n:∀{m:aq},aY 100 (len m)=decide (100<m.length):=λ{m}=>by unfold aY len;apply gi.2;omega
  have o:∀{m:aq},aY 200 (len m)=decide (200<m.length):=λ{m}=>by unfold aY len;apply gi.2;omega
  rw[ak a,ab,aK (show(i:Int)<8 by omega),ab,ao c,aa,aa,n,o,k];cases decide (100<x.1.length)<;>cases decide (200<x.2.2.1.length)<;>rfl) (by
  unfold ec;dsimp only;have:aj (aY ((min 8 l.length:Nat):Int)<|len l) (aY ((min 8 l.length:Nat):Int) 8) false=false:=by
   by_cases h:l.length<=8
   .rw[ZN h,ay,ae]
   .rw[pb<|by omega,show aY ((8:Nat):Int) 8=false from rfl];cases aY ((8:Nat):Int) (len l)<;>rfl
  rw[this,ae]) with ⟨i,x,a,c,q,_,h⟩|⟨d,h⟩
 .rw[h];exact⟨false,rfl,λh=>(by cases h)⟩
 .rw[h];refine⟨_,rfl,λe=>?_⟩;dsimp only at e;have p:l.length<=8:=by
   unfold cu len at e;simp at e;omega
  refine⟨p,λx c=>?_⟩;obtain⟨i,a⟩:=bp.1 c;have:=d i x (by have:=aD a;omega) a;simp at this;omega
def SH(l:List It):Prop:=l.Pairwise λx y=>iu x.1 y.1=true
def aiv(x:It):Prop:=jE x.1=true/\x.2.2.1.length<=64/\x.2.1=j0 x.2.2.1
def OkI(l:List It):Prop:=l.length<=4/\SH l/\∀x∈l,aiv x
theorem J9{l:List It}:SH l↔∀(i:Nat) (x y:It),l[i]?=some x->l[i+1]?=some y->iu x.1 y.1=true:=by
 constructor
 .intro h i x y c a;unfold SH at h;rw[Bb] at h;obtain⟨e,n⟩:=fq.1 c;obtain⟨f,o⟩:=fq.1 a;have:=h i (i+1) e f (by omega);rw[n,o] at this;exact this
 .intro h;have key:∀(d i:Nat) (x y:It),l[i]?=some x->l[i+d+1]?=some y->iu x.1 y.1=true:=by
   intro d;induction d with
   | zero=>intro i x y c a;exact h i x y c a
   | succ d p =>
     intro i x y c a;have q:=aD a;have k:l[i+d+1]?=some l[i+d+1]:=fN (by omega);exact AQ (p i x _ c k) (h (i+d+1) _ y k<|by rw[show i+d+1+1=i+(d+1)+1 by omega];exact a)
  unfold SH;rw[Bb];intro i j e f r;obtain⟨d,rfl⟩:∃d,j=i+d+1:=⟨j-i-1,by omega⟩;exact key d i _ _ (fN e) (fN f)
def DT(l:List It)(i:Nat)(x:It):Bool:=match i with|0=>false|k+1=>match l[k]? with|some y=>!iu y.1 x.1|none=>false
theorem yn{l:List It}{k:Nat}{x y:It}(a:l[k]?=some y):DT l (k+1) x=!iu y.1 x.1:=by
 unfold DT;simp only[a]
def Ft(l:List It)(i:Nat)(x:It):Bool:=!jE x.1||(decide (64<x.2.2.1.length)||(!decide (x.2.1=j0 x.2.2.1)||DT l i x))
theorem Yp(l:List It)(D:l.length<=100000)(o:∀x∈l,x.1.length<=1000000/\x.2.2.1.length<=1000000):∃b,lH (l,())=some (b,())/\(b=true↔OkI l):=by
 unfold lH;rcases ko (f:=nF (l,())) l (λi=>((false,i,()),())) (λi x=>Ft l i x) (λi x=>(1,(false,(i:Int),()),())) (0,(false,(l.length:Int),()),()) (by omega) (λi x c e p=>by
  have q:=o x (dY c);have r:aY 64 (len x.2.2.1)=decide (64<x.2.2.1.length):=by unfold aY len;apply gi.2;omega
  unfold nF;dsimp only;rw[ak e,ab,ao c,aa,yZ x.1 (by omega),aa,p];cases d:jE x.1 with
  | false=>rw[show Ft l i x=true by unfold Ft;rw[d];rfl];rfl
  | true =>
    rw[aA,ae,aa,r];by_cases a:64<x.2.2.1.length
    .rw[show Ft l i x=true by unfold Ft;rw[d,dI a];rfl,dI a];rfl
    .rw[cJ a,ae,aa,aa,NH x.2.2.1 (by omega),aa];dsimp only;rw[AO];by_cases hd:x.2.1=j0 x.2.2.1
     .have n:Ft l i x=DT l i x:=by unfold Ft;rw[d,cJ a,dI hd];rfl
      rw[n,dI hd,aA,ae];cases i with
      | zero=>rfl
      | succ k =>
        have hy:l[k]?=some l[k]:=fN (by omega);rw[yn hy,aK (by omega),ab,de (by omega) (by omega),show((k+1:Nat):Int)-1=(k:Int) by omega,ao hy,aa,aa];cases iu l[k].1 x.1<;>rfl
     .rw[show Ft l i x=true by unfold Ft;rw[d,cJ a,cJ hd];rfl,cJ hd];rfl) (by
  unfold nF;dsimp only;rw[ay,ae]) with ⟨i,x,c,j,_,h⟩|⟨d,h⟩
 .rw[h];refine⟨false,rfl,⟨λh=>(by cases h),λ⟨_,s,v⟩=>?_⟩⟩;obtain⟨w,E,A⟩:=v x (dY c);have n:Ft l i x=DT l i x:=by unfold Ft;rw[w,cJ (show ¬64<x.2.2.1.length by omega),dI A];rfl
  rw[n] at j;cases i with
  | zero=>cases j
  | succ k =>
    have e:=aD c;have hy:l[k]?=some l[k]:=fN (by omega);rw[yn hy,J9.1 s k _ _ hy c] at j;cases j
 .rw[h];refine⟨_,rfl,?_⟩;dsimp only;have B:cu (len l) 4=decide (l.length<=4):=by unfold cu len;apply gi.2;omega
  rw[B,Io];refine⟨λC=>⟨C,J9.2 λi x y c hy=>?_,λx c=>?_⟩,λh=>h.1⟩
  .have:=d (i+1) y hy;unfold Ft at this;simp only[yn c,vl] at this;simpa using this.2.2.2
  .obtain⟨i,e⟩:=bp.1 c;have:=d i x e;unfold Ft at this;simp only[vl] at this;exact⟨by simpa using this.1,by have:=this.2.1;simp at this;omega,by simpa using this.2.2.1⟩
abbrev du:=Tx×Int×ai
abbrev aZ:=List yj×List lY×List ax×List Tx×List du×ai
def DU(l:List Item):Prop:=l.length<=8/\∀x∈l,x.1.length<=100/\x.2.2.1.length<=200
structure agc (b:vH):Prop extends FewB b where
 im:∀x∈b.2.2.1,x.2.2.2.1.length<=200/\DU x.2.2.2.2.1
 bm:∀x∈b.2.2.2.1,x.2.2.2.2.1.length<=200/\DU x.2.2.2.2.2.1
theorem Yq(b:vH):∃c,pF (b,())=some (c,())/\(c=true->agc b):=by
 obtain⟨d,p⟩:∃d:List Tx->Bool,∀l,kr (l,())=some (d l,())/\(d l=true->pg l):=⟨λl=>Classical.choose (AV l),λl=>Ll (AV l)⟩;obtain⟨j,e⟩:∃d:List Item->Bool,∀l,dU (l,())=some (d l,())/\(d l=true->DU l):=⟨λl=>Classical.choose (DR l),λl=>Ll (DR l)⟩;obtain⟨I,a,C⟩:=aa6 b;refine⟨I,a,λF=>?_⟩;have G:=C F
 suffices q:(∀x∈b.2.2.1,x.2.2.2.1.length<=200/\DU x.2.2.2.2.1)/\(∀x∈b.2.2.2.1,x.2.2.2.2.1.length<=200/\DU x.2.2.2.2.2.1) from⟨G,q.1,q.2⟩
 subst F;obtain⟨n,y,A,B,u⟩:=b;obtain⟨J,_,s,_,K,_⟩:=G;dsimp only at J s K;unfold pF at a;have r:∀{q:Nat×(Bool×Int×ai)×ai} {g:Option (Bool×ai)},q.1=1->q.2.1.1=false->aj (dJ q.1 0) g (some (q.2.1.1,()))≠some (true,()):=λ{q g} L M h=>by
  rw[L,M] at h;have h:some (false,())=some (true,()):=h;cases h
 rcases rq (f:=hU ((n,y,A,B,u),())) y 40 (λi=>((false,i,()),())) (λ_ x=>!d x.2.2.1) (λi x=>(1,(false,(i:Int),()),())) (λn=>(0,(false,(n:Int),()),())) (by omega) (λi x k o v w=>by
  unfold hU;dsimp only;rw[ak o,ab,aK (show(i:Int)<40 by omega),ab,ao k,aa,(p _).1,aa,Se,w];cases d x.2.2.1<;>rfl) (by unfold hU;dsimp only;rw[rZ (c:=40) rfl,ae]) with ⟨i,x,o,k,H,_,h⟩|⟨N,h⟩
 .rw[h,aa] at a;exact absurd a (r rfl rfl)
 rw[h,aa] at a;dsimp only at a;rw[bO,ab] at a;rcases rq (f:=hW ((n,y,A,B,u),())) A 40 (λi=>((false,i,()),())) (λ_ x=>!d x.2.1||decide (200<x.2.2.2.1.length)||!j x.2.2.2.2.1) (λi x=>(1,(false,(i:Int),()),())) (λn=>(0,(false,(n:Int),()),())) (by omega) (λi x k o v w=>by
  unfold hW;dsimp only;rw[ak o,ab,aK (show(i:Int)<40 by omega),ab,ao k,aa,(p _).1,aa,aa,aa,gL (n:=200) (c:=200) rfl,(e _).1,aa,w];dsimp only;cases d x.2.1 with
  | false=>rfl
  | true =>
    by_cases s:200<x.2.2.2.1.length
    .simp[s,aj,nt,af]
    .cases O:j x.2.2.2.2.1<;>simp[s,aj,nt,af]) (by unfold hW;dsimp only;rw[rZ (c:=40) rfl,ae]) with ⟨i,x,o,k,H,_,h⟩|⟨D,h⟩
 .rw[h,aa] at a;exact absurd a (r rfl rfl)
 rw[h,aa] at a;dsimp only at a;rw[bO,ab] at a;rcases rq (f:=hY ((n,y,A,B,u),())) B 40 (λi=>((false,i,()),())) (λ_ x=>!d x.2.1||decide (200<x.2.2.2.2.1.length)||!j x.2.2.2.2.2.1) (λi x=>(1,(false,(i:Int),()),())) (λn=>(0,(false,(n:Int),()),())) (by omega) (λi x k o v w=>by
  unfold hY;dsimp only;rw[ak o,ab,aK (show(i:Int)<40 by omega),ab,ao k,aa,(p _).1,aa,aa,aa,gL (n:=200) (c:=200) rfl,(e _).1,aa,w];dsimp only;cases d x.2.1 with
  | false=>rfl
  | true =>
    by_cases s:200<x.2.2.2.2.1.length
    .simp[s,aj,nt,af]
    .cases O:j x.2.2.2.2.2.1<;>simp[s,aj,nt,af]) (by unfold hY;dsimp only;rw[rZ (c:=40) rfl,ae]) with ⟨i,x,o,k,H,_,h⟩|⟨E,h⟩
 .rw[h,aa] at a;exact absurd a (r rfl rfl)
 refine⟨λx k=>?_,λx k=>?_⟩
 .dsimp only at k;obtain⟨i,o⟩:=bp.1 k;have:=D i x (by have:=aD o;omega) o;simp only[vl,FV,GS] at this;exact⟨by omega,(e _).2 this.2⟩
 .dsimp only at k;obtain⟨i,o⟩:=bp.1 k;have:=E i x (by have:=aD o;omega) o;simp only[vl,FV,GS] at this;exact⟨by omega,(e _).2 this.2⟩
theorem Yr(l:List ax):∃b,vP (l,())=some (b,())/\(b=true->l.length<=40/\∀x∈l,x.1.length<=100/\x.2.1.length<=100):=by
 unfold vP;rcases rq (f:=qq (l,())) l 40 (λi=>((false,i,()),())) (λ_ x=>decide (100<x.1.length)||decide (100<x.2.1.length)) (λi x=>(1,(false,(i:Int),()),())) (λn=>(0,(false,(n:Int),()),())) (by omega) (λi x d a k o=>by
  unfold qq;dsimp only;rw[ak a,ab,aK (show(i:Int)<40 by omega),ab,ao d,aa,gL (n:=100) (c:=100) rfl,aa,gL (n:=100) (c:=100) rfl,o];by_cases h:100<x.1.length
  .simp[h,aj,nt,af]
  .by_cases p:100<x.2.1.length<;>simp[h,p,aj,nt,af]) (by unfold qq;dsimp only;rw[rZ (c:=40) rfl,ae]) with ⟨i,x,a,d,r,_,h⟩|⟨q,h⟩
 .rw[h];exact⟨false,rfl,λh=>(by cases h)⟩
 .rw[h];refine⟨_,rfl,λe=>?_⟩;dsimp only at e;rw[ks (n:=40) (c:=40) rfl] at e;have j:=gM e;refine⟨j,λx d=>?_⟩;obtain⟨i,a⟩:=bp.1 d;have:=q i x (by have:=aD a;omega) a;simp at this;omega
structure abv (s:aZ):Prop where
 base:agc (0,s.2.2.1,s.2.1,s.1,())
 ids:∀x∈s.2.2.1,x.1.length<=100/\x.2.1.length<=100
 lays:s.2.2.1.length<=12
 agd:s.2.2.2.1.length<=12
 aiw:∀d∈s.2.2.2.1,d.length<=8192
 mts:s.2.2.2.2.1.length<=40
theorem Ys(s:aZ):∃b,vQ (s,())=some (b,())/\(b=true->abv s):=by
 obtain⟨p,q,j,k,r,u⟩:=s;obtain⟨y,A,B⟩:=Yq (0,j,q,p,());obtain⟨C,D,E⟩:=Yr j;unfold vQ;rcases rq (f:=qs ((p,q,j,k,r,u),())) k 12 (λi=>((false,i,()),())) (λ_ x=>decide (8192<x.length)) (λi x=>(1,(false,(i:Int),()),())) (λn=>(0,(false,(n:Int),()),())) (by omega) (λi x v a F G=>by
  unfold qs;dsimp only;rw[ak a,ab,aK (show(i:Int)<12 by omega),ab,ao v,aa,gL (n:=8192) (c:=8192) rfl,hJ,G];by_cases h:8192<x.length<;>simp[h]) (by unfold qs;dsimp only;rw[rZ (c:=12) rfl,ae]) with ⟨i,x,a,v,J,_,h⟩|⟨H,h⟩
 .rw[h];exact⟨false,rfl,λh=>(by cases h)⟩
 .rw[h,aa];dsimp only;rw[bO,ab,A,aa,D];dsimp only;rw[ks (n:=12) (c:=12) rfl,ks (n:=12) (c:=12) rfl,ks (n:=40) (c:=40) rfl];cases y with
  | false=>exact⟨false,rfl,λh=>(by cases h)⟩
  | true =>
    rw[ab,aa,aa];cases C with
    | false=>exact⟨false,rfl,λh=>(by cases h)⟩
    | true =>
      refine⟨_,rfl,λe=>?_⟩;by_cases l:j.length<=12
      .by_cases o:k.length<=12
       .by_cases w:r.length<=40
        .refine⟨B rfl,(E rfl).2,l,o,λd I=>?_,w⟩;obtain⟨i,a⟩:=bp.1 I;have a:k[i]?=some d:=a;have:=H i d (by have:=aD a;omega) a;simpa using this
        .rw[dI l,dI o,cJ w] at e;cases e
       .rw[dI l,cJ o] at e;cases e
      .rw[cJ l] at e;cases e
theorem wA{a:Type}{c b:Bool}{o:Option Bool}{k:Bool->Option a}(h:o=some b):af (aj c o<|some false) k=k (c&&b):=by subst h;cases c<;>rfl
theorem pn{a:Type}{c b:Bool}{o:Option Bool}{k:Bool->Option a}(h:o=some b):af (aj c o<|some true) k=k (!c||b):=by subst h;cases c<;>rfl
theorem fG(a b:aq):bt a b=decide (a=b):=rfl
theorem Vi(b:Bool):nt b=!b:=rfl
theorem Yt(a b:Int):cu a b=decide (a<=b):=rfl
theorem PU(a b:Int):aX a b=decide (a=b):=rfl
def BdL(x:ax):Prop:=x.1.length<=1048576/\x.2.1.length<=1048576/\pg x.2.2.1/\x.2.2.2.1.length<=1048576
def BdI(x:lY):Prop:=x.1.length<=1048576/\pg x.2.1/\x.2.2.1.length<=1048576/\DU x.2.2.2.2.1
def BdB(x:yj):Prop:=x.1.length<=1048576/\pg x.2.1/\x.2.2.1.length<=1048576/\x.2.2.2.1.length<=1048576/\DU x.2.2.2.2.2.1
structure OkL (x:ax):Prop where
 id:CA x.1
 par:x.2.1=[]\/(CA x.2.1/\x.2.1≠x.1)
 nms:nx x.2.2.1=true
 dig:ac8 x.2.2.2.1=0
 s0:0<=x.2.2.2.2.1
 s1:x.2.2.2.2.1<=8192
 b0:0<=x.2.2.2.2.2.1
 b1:x.2.2.2.2.2.1<=32
structure abw (x:lY):Prop where
 id:CA x.1
 nms:nx x.2.1=true
 top:x.2.2.1=[]\/CA x.2.2.1
 agh:x.2.2.2.1.length<=64
 items:OkI x.2.2.2.2.1
structure OkB (x:yj):Prop where
 id:CA x.1
 nms:nx x.2.1=true
 img:x.2.2.1=[]\/CA x.2.2.1
 lay:CA x.2.2.2.1
 agh:x.2.2.2.2.1.length<=64
 items:OkI x.2.2.2.2.2.1
theorem Yu(x:ax)(h:BdL x):∃b,oB (x,())=some (b,())/\(b=true↔OkL x):=by
 obtain⟨k,l,j,n⟩:=h;obtain⟨v,o,p⟩:=mU x.1 k;obtain⟨q,r,s⟩:=mU x.2.1 l;unfold oB;dsimp only;rw[o,aa,wA (b:=(!(nt<|bt x.2.1 [])||(q&&nt (bt x.2.1 x.1)))) (by rw[pn<|by rw[r,aa,jF]]),
  wA (by rw[yi x.2.2.1 (j.small) j.each,aa]),wA (by rw[Pz x.2.2.2.1 n,aa])]
 refine⟨_,rfl,?_⟩;simp only[jF,Vi,fG,Yt,PU,dv,wc,ZZ,jL,kQ,GS,p,s];constructor
 .rintro⟨⟨⟨⟨⟨⟨⟨a,b⟩,c⟩,d⟩,e⟩,f⟩,g⟩,i⟩;exact⟨a,b,c,d,e,f,g,i⟩
 .rintro⟨a,b,c,d,e,f,g,i⟩;exact⟨⟨⟨⟨⟨⟨⟨a,b⟩,c⟩,d⟩,e⟩,f⟩,g⟩,i⟩
theorem NP{l:List Item}(h:DU l):∃b,lH (l,())=some (b,())/\(b=true↔OkI l) :=
 Yp l (by have:=h.1;omega) λx a=>by have:=h.2 x a;omega
theorem agi(m:aq):cu (@len UInt8 m) (64:Int)=decide (m.length<=64):=by unfold cu len;apply gi.2;omega
theorem Yv(x:lY)(h:BdI x):∃b,oC (x,())=some (b,())/\(b=true↔abw x):=by
 obtain⟨i,f,j,k⟩:=h;obtain⟨v,l,n⟩:=mU x.1 i;obtain⟨o,p,q⟩:=mU x.2.2.1 j;obtain⟨w,r,s⟩:=NP k;unfold oC;dsimp only;rw[l,aa,wA (by rw[yi x.2.1 (f.small) f.each,aa]),wA (b:=(!(nt<|bt x.2.2.1 [])||o)) (by rw[pn<|by rw[p,aa]]),
  wA (by rw[r,aa])]
 refine⟨_,rfl,?_⟩;simp only[jF,Vi,fG,agi,dv,wc,ZZ,jL,kQ,GS,n,q,s];constructor
 .rintro⟨⟨⟨⟨a,b⟩,c⟩,d⟩,e⟩;exact⟨a,b,c,d,e⟩
 .rintro⟨a,b,c,d,e⟩;exact⟨⟨⟨⟨a,b⟩,c⟩,d⟩,e⟩
theorem adb(x:yj)(h:BdB x):∃b,sN (x,())=some (b,())/\(b=true↔OkB x):=by
 obtain⟨j,i,k,l,n⟩:=h;obtain⟨B,o,p⟩:=mU x.1 j;obtain⟨q,r,s⟩:=mU x.2.2.1 k;obtain⟨C,v,w⟩:=mU x.2.2.2.1 l;obtain⟨D,y,A⟩:=NP n;unfold sN;dsimp only;rw[o,aa,wA (by rw[yi x.2.1 (i.small) i.each,aa]),wA (b:=(!(nt<|bt x.2.2.1 [])||q)) (by rw[pn<|by rw[r,aa]]),
  wA (by rw[v,aa]),wA (by rw[y,aa])]
 refine⟨_,rfl,?_⟩;simp only[jF,Vi,fG,agi,dv,wc,ZZ,jL,kQ,GS,p,s,w,A];constructor
 .rintro⟨⟨⟨⟨⟨a,b⟩,c⟩,d⟩,e⟩,f⟩;exact⟨a,b,c,d,e,f⟩
 .rintro⟨a,b,c,d,e,f⟩;exact⟨⟨⟨⟨⟨a,b⟩,c⟩,d⟩,e⟩,f⟩
def SI(b:vH):List Tx:=b.2.1.map (·.1)++b.2.2.1.map (·.1)++b.2.2.2.1.map (·.1)
def SJ(b:vH):List Tx:=b.2.1.flatMap (·.2.2.1)++b.2.2.1.flatMap (·.2.1)++b.2.2.2.1.flatMap (·.2.1)
theorem xB{a:Type}{g:a->List Tx}:∀{l:List a},(∀x∈l,(g x).length<=8)->(l.flatMap g).length<=8*l.length:=by
 intro l;induction l with
 | nil=>intro _;simp
 | cons x r c =>
   intro h;rw[FX,fQ,dd];have:=h x (mo ..);have:=c λy d=>h y (nX _ d);omega
theorem CB{k:Type}{f:(ai×ai×Int×ai)×List Tx×List Tx×ai->Option (((ai×ai×Int×ai)×List Tx×List Tx×ai)⊕((ai×ai×Int×ai)×List Tx×List Tx×ai))}
  (l:List k) (id:k->Tx) (d:k->List Tx) (s:l.length<=40) (o:∀x∈l,(d x).length<=8) (e i:List Tx) (v:e.length<=10000) (w:i.length<=10000)
  (p:∀c a b,f (((),(),c,()),a,b,())=dh (aj (aY c<|len l) (af (idx l c) λx=>aj (fits<|plus (@len Tx b)<|@len Tx [id x]) (af (idx l c) λy=>aj (fits<|plus (@len Tx a)<|@len Tx<|d y) (some<|.inl (((),(),aF .i64 c 1,()),app a<|d y,app b [id x],())) none) none)
   (some<|.inr (0,((),(),c,()),a,b,()))) ) :
  Loop f (((),(),(0:Int),()),e,i,())=some (((),(),(l.length:Int),()),e++l.flatMap d,i++l.map id,()):=by
 have:=cR (f:=f) l.length (λj:Nat=>(((),(),(j:Int),()),e++(l.take j).flatMap d,i++(l.take j).map id,()))
  (r:=(((),(),(l.length:Int),()),e++l.flatMap d,i++l.map id,())) (λj n=>by
   have hx:l[j]?=some l[j]:=fN n;have A:((l.take j).flatMap d).length<=8*40:=by
    have:=xB (g:=d) (l:=l.take j) λx hx=>o x (CO hx);rw[fB] at this;omega
   have q:=o _ (ZP n);rw[p,ak n,ab,ao hx,aa,
    show fits (plus (@len Tx<|i++(l.take j).map id)<|@len Tx [id l[j]])=true from bD (by rw[fQ,qI,fB];show _+1<=_;omega),ab,aa,
    show fits (plus (@len Tx<|e++(l.take j).flatMap d)<|@len Tx<|d l[j])=true from bD (by rw[fQ];omega),ab,aL (by omega)]
   rw[Be,hx,List.flatMap_append,xO];simp[app,dh]) (by
   rw[wQ,p,ay,ae];rfl)
 simpa using this
theorem Yw(b:vH)(h:FewB b):sg (b,())=some (SI b,SJ b,()):=by
 obtain⟨i,e,j,f,k,n⟩:=h;unfold sg;rw[CB b.2.1 (·.1) (·.2.2.1) i (λx d=>(e x d).1) [] [] (by simp) (by simp)<|λc a b=>rfl,aa];dsimp only;have o:(b.2.1.flatMap (·.2.2.1)).length<=320:=by have:=xB (g:=λx:ax=>x.2.2.1) (l:=b.2.1) λx d=>(e x d).1;omega
 have p:(b.2.2.1.flatMap (·.2.1)).length<=320:=by have:=xB (g:=λx:lY=>x.2.1) (l:=b.2.2.1) λx d=>(f x d).1;omega
 rw[CB b.2.2.1 (·.1) (·.2.1) j (λx d=>(f x d).1) _ _ (by rw[sW];omega) (by rw[sW,qI];omega)<|λc a b=>rfl,aa];dsimp only;rw[CB b.2.2.2.1 (·.1) (·.2.1) k (λx d=>(n x d).1) _ _ (by rw[fQ,sW];omega) (by rw[fQ,sW,qI,qI];omega)<|λc a b=>rfl,aa];rfl
theorem Vj{b:Bool}{p:Prop}[Decidable p](h:b=true↔p):b=decide p:=by
 cases b with
 | true=>exact(dI<|h.1 rfl).symm
 | false=>exact(cJ λq=>by cases h.2 q).symm
open Classical in
theorem Yx{x:ax}(h:BdL x):oB (x,())=some (decide<|OkL x,()):=by
 obtain⟨b,a,c⟩:=Yu x h;rw[a,Vj c]
open Classical in
theorem Yy{x:lY}(h:BdI x):oC (x,())=some (decide<|abw x,()):=by
 obtain⟨b,a,c⟩:=Yv x h;rw[a,Vj c]
open Classical in
theorem ade{x:yj}(h:BdB x):sN (x,())=some (decide<|OkB x,()):=by
 obtain⟨b,a,c⟩:=adb x h;rw[a,Vj c]
abbrev Cs:=(Int×Int×ai)×ai
theorem Ka{e:Type}{f:Cs->Option (Cs⊕(Nat×Cs))}(l:List e)(s:l.length<=1000000)(p:e->Prop)[DecidablePred p](a:Int)
  (k:∀(i:Nat) (x:e),l[i]?=some x->f ((a,(i:Int),()),())=some (if p x then .inl ((a,aF .i64 (i:Int) 1,()),()) else .inr (1,((1:Int),(i:Int),()),())))
  (c:f ((a,(l.length:Int),()),())=some (.inr (0,(a,(l.length:Int),()),()))) :
  ((∀x∈l,p x)/\Loop f ((a,(0:Int),()),())=some (0,(a,(l.length:Int),()),())) \/
  (¬(∀x∈l,p x)/\∃q,Loop f ((a,(0:Int),()),())=some (1,((1:Int),q),())):=by
 rcases ko (f:=f) l (λi=>((a,i,()),())) (λ_ x=>decide (¬p x)) (λi x=>(1,((1:Int),(i:Int),()),())) (0,(a,(l.length:Int),()),()) (by omega) (λi x d j n=>by
  rw[k i x d,n];by_cases h:p x<;>simp[h]) c with ⟨i,x,d,o,_,h⟩|⟨r,h⟩
 .exact .inr ⟨λq=>by simp[q x<|dY d] at o,_,h⟩
 .refine .inl ⟨λx d=>?_,h⟩;obtain⟨i,j⟩:=bp.1 d;have:=r i x j;simpa using this
theorem Kb{l:List Tx}:l.Pairwise (λx y=>iu x y=true)↔∀(i:Nat) (x y:Tx),l[i]?=some x->l[i+1]?=some y->iu x y=true:=by
 have h:=J9 (l:=l.map λs=>((s,[],[],()):It));unfold SH at h;rw[QK] at h;refine h.trans ⟨λk i x y c d=>?_,λk i x y c d=>?_⟩
 .exact k i (x,[],[],()) (y,[],[],()) (by rw[wP,c];rfl) (by rw[wP,d];rfl)
 .rw[wP] at c d;obtain⟨a,e,rfl⟩:=qY.1 c;obtain⟨b,f,rfl⟩:=qY.1 d;exact k i a b e f
theorem adf(a e:List Tx)(r:a.length<=100000) :
  (a.Pairwise (λx y=>iu x y=true)/\∃q,Loop (gU (a,e,())) (((0:Int),(1:Int),()),())=some (0,((0:Int),q),())) \/
  (¬a.Pairwise (λx y=>iu x y=true)/\∃q,Loop (gU (a,e,())) (((0:Int),(1:Int),()),())=some (1,((1:Int),q),())):=by
 rw[Kb];rcases ko (f:=gU (a,e,())) a.tail (λi=>(((0:Int),i+1,()),())) (λi y=>match a[i]? with|some x=>!iu x y|none=>false) (λi x=>(1,((1:Int),(i:Int)+1,()),())) (0,((0:Int),(a.tail.length:Int)+1,()),()) (by rw[ZQ];omega) (λi y c l s=>by
  rw[ZQ] at l;rw[ZI] at c;obtain⟨x,d⟩:∃x,a[i]?=some x:=⟨_,fN (show i<a.length by omega)⟩;unfold gU;dsimp only;rw[show((i:Int)+1)=((i+1:Nat):Int) by omega,ak (by omega),ab,de (by omega) (by omega),show((i+1:Nat):Int)-1=(i:Int) by omega,ao d,aa,ao c,aa,aL (by omega),d];dsimp only;rw[show((i+1:Nat):Int)+1=((i+1+1:Nat):Int) by omega];by_cases n:iu x y=true<;>simp[n,nt,aj]) (by
  unfold gU;dsimp only;rw[ZQ,aB (by unfold len;omega),ae]) with ⟨i,y,c,j,_,h⟩|⟨o,h⟩
 .refine .inr ⟨λk=>?_,_,h⟩;rw[ZI] at c;have p:=aD c;have d:a[i]?=some a[i]:=fN (by omega);rw[d] at j;simp[k i _ _ d c] at j
 .refine .inl ⟨λi x y d c=>?_,_,h⟩;have:=o i y (by rw[ZI];exact c);rw[d] at this;simpa using this
theorem Vk(o a:List Tx)(K:a.length<=100000) :
  (a.Nodup/\∃q,Loop (gW (o,a,())) (((0:Int),(0:Int),()),())=some (0,((0:Int),q),())) \/
  (¬a.Nodup/\∃q,Loop (gW (o,a,())) (((0:Int),(0:Int),()),())=some (1,((1:Int),q),())):=by
 have inner:∀(i:Nat) (x:Tx),a[i]?=some x->(∃j y,j<i/\a[j]?=some y/\y=x/\∃q,Loop (gV (o,a,()) (((0:Int),(i:Int),()),())) (((0:Int),(0:Int),()),())=some (1,((1:Int),q),())) \/
   ((∀(j:Nat) (y:Tx),j<i->a[j]?=some y->y≠x)/\∃q,Loop (gV (o,a,()) (((0:Int),(i:Int),()),())) (((0:Int),(0:Int),()),())=some (0,((0:Int),q),())):=by
  intro i x e;have hi:=aD e;have r:min i a.length=i:=by omega
  rcases rq (f:=gV (o,a,()) (((0:Int),(i:Int),()),())) a i (λj=>(((0:Int),j,()),())) (λ_ y=>decide (y=x)) (λj y=>(1,((1:Int),(j:Int),()),())) (λn=>(0,((0:Int),(n:Int),()),())) (by omega) (λj y k l c C=>by
   unfold gV;dsimp only;rw[aK<|show(j:Int)<(i:Int) by omega,ab,ao k,aa,ao e,aa,hJ,C];by_cases h:y=x<;>simp[bt,h]) (by
   unfold gV;dsimp only;rw[r,aB (re _),ae]) with ⟨j,y,c,k,D,_,h⟩|⟨s,h⟩
  .exact .inl ⟨j,y,c,k,gM D,_,h⟩
  .exact .inr ⟨λj y c k=>Ln (s j y c k),_,h⟩
 have d:∀i x,a[i]?=some x->(x∈a.take i↔∃j y,j<i/\a[j]?=some y/\y=x):=by
  intro i x e;rw[bp];constructor
  .rintro⟨j,l⟩;rw[fi] at l;split at l
   .exact⟨j,x,by assumption,l,rfl⟩
   .cases l
  .rintro⟨j,y,c,k,rfl⟩;exact⟨j,by rw[fi,aQ c];exact k⟩
 rcases ko (f:=gW (o,a,())) a (λi=>(((0:Int),i,()),())) (λi x=>decide (x∈a.take i)) (λi x=>(1,((1:Int),(i:Int),()),())) (0,((0:Int),(a.length:Int),()),()) (by omega) (λi x p hi C=>by
  unfold gW;dsimp only;rw[ak hi,ab];rcases inner i x p with ⟨j,y,v,w,A,q,h⟩|⟨s,q,h⟩
  .rw[h,aa,dI ((d i x p).2 ⟨j,y,v,w,A⟩)];rfl
  .rw[h,aa,cJ (λE=>by obtain⟨j,y,v,w,A⟩:=(d i x p).1 E;exact s j y v w A),C];rfl) (by unfold gW;dsimp only;rw[ay,ae]) with ⟨i,x,p,D,_,h⟩|⟨s,h⟩
 .refine .inr ⟨λF=>?_,_,h⟩;obtain⟨j,y,v,w,A⟩:=(d i x p).1 (gM D);obtain⟨G,B⟩:=fq.1 p;obtain⟨H,I⟩:=fq.1 w;exact Bb.1 F j i H G v (by rw[I,B,A])
 .refine .inl ⟨Bb.2 λj i l hi c J=>?_,_,h⟩;have:=s i a[i] (fN hi);have E:=(d i a[i]<|fN hi).2 ⟨j,a[j],c,fN l,J⟩;simp[E] at this
structure BdX (b:vH):Prop extends FewB b where
 xl:∀x∈b.2.1,BdL x
 xi:∀x∈b.2.2.1,BdI x
 xb:∀x∈b.2.2.2.1,BdB x
def Yz(a:Int)(b:vH):Nat:=if a=1 then b.2.2.2.1.length else if a=2 then b.2.2.1.length else b.2.1.length
structure wB (kind:Int) (b:vH):Prop where
 few:Yz kind b<=32
 only:b.2.2.2.1.length+b.2.2.1.length+b.2.1.length=Yz kind b
 ll:∀x∈b.2.1,OkL x
 il:∀x∈b.2.2.1,abw x
 bl:∀x∈b.2.2.2.1,OkB x
 ids:(SI b).Pairwise (λx y=>iu x y=true)
 nms:(SJ b).Nodup
open Classical in
theorem zW(c:Int)(b:vH)(L:c=1\/c=2\/c=3)(M:b.1=0)(h:BdX b):∃e,lK (c,b,())=some (e,())/\(e=0↔wB c b):=by
 obtain⟨n,k,d,j,u⟩:=b;dsimp only at M;subst M;have Q:=Yw (0,k,d,j,u) h.toFewB;obtain⟨N,r,O,s,v,w⟩:=h.toFewB;obtain⟨R,S,T⟩:=(⟨h.xl,h.xi,h.xb⟩:(∀x∈k,BdL x)/\(∀x∈d,BdI x)/\(∀x∈j,BdB x));dsimp only at N r O s v w;have y:idx ([(0:Int),@len yj j,@len lY d,@len ax k]:List Int) c=some ((Yz c (0,k,d,j,u):Nat):Int):=by
  rcases L with rfl|rfl|rfl<;>rfl
 have P:Yz c (0,k,d,j,u)<=40:=by
  rcases L with rfl|rfl|rfl
  .exact v
  .exact O
  .exact N
 unfold lK;dsimp only;rw[aB<|by omega,ae,aB (by omega),ae,show aY (0:Int) 0=false from rfl,ae,show aY (9007199254740992:Int) 0=false from rfl,ae,aW (by omega) (by omega),ab,y,aa];by_cases A:Yz c (0,k,d,j,u)<=32
 rotate_left
 .rw[aK<|by omega,ab];exact⟨1,rfl,λq=>(by cases q),λq=>absurd q.few A⟩
 rw[aB<|by omega,ae,show within (1:Int) 4=true from rfl,ab,show idx ([(0:Int),@len yj j,@len lY d,@len ax k]:List Int) 1=some (len j) from rfl,aa,show within (2:Int) 4=true from rfl,ab,
  show idx ([(0:Int),@len yj j,@len lY d,@len ax k]:List Int) 2=some (len d) from rfl,aa,show within (3:Int) 4=true from rfl,ab,show idx ([(0:Int),@len yj j,@len lY d,@len ax k]:List Int) 3=some (len k) from rfl,aa,ab,aa,
  en (a:=len j) (b:=len d) (by unfold len;omega) (by unfold len;omega),en (by unfold len;omega) (by unfold len;omega)]
 by_cases p:j.length+d.length+k.length=Yz c (0,k,d,j,u)
 rotate_left
 .rw[aE<|by unfold len;omega,aw,ab];exact⟨1,rfl,λq=>(by cases q),λq=>absurd q.only p⟩
 rw[aJ<|by unfold len;omega,aA,ae];rcases Ka (f:=nL (c,(0,k,d,j,u),())) k (by omega) OkL 0 (λi x o=>by
  unfold nL;dsimp only;rw[ak<|aD o,ab,ao o,aa,Yx (R x<|dY o),aa];by_cases q:OkL x<;>simp[q,nt,aj]) (by unfold nL;dsimp only;rw[ay,ae]) with ⟨B,C⟩|⟨B,q,C⟩
 rotate_left
 .rw[C,aa];exact⟨1,rfl,λq=>(by cases q),λq=>absurd q.ll B⟩
 rw[C,aa];dsimp only;rw[bO,ab];rcases Ka (f:=nM (c,(0,k,d,j,u),())) d (by omega) abw 0 (λi x o=>by
  unfold nM;dsimp only;rw[ak<|aD o,ab,ao o,aa,Yy (S x<|dY o),aa];by_cases q:abw x<;>simp[q,nt,aj]) (by unfold nM;dsimp only;rw[ay,ae]) with ⟨D,E⟩|⟨D,q,E⟩
 rotate_left
 .rw[E,aa];exact⟨1,rfl,λq=>(by cases q),λq=>absurd q.il D⟩
 rw[E,aa];dsimp only;rw[bO,ab];rcases Ka (f:=nN (c,(0,k,d,j,u),())) j (by omega) OkB 0 (λi x o=>by
  unfold nN;dsimp only;rw[ak<|aD o,ab,ao o,aa,ade (T x<|dY o),aa];by_cases q:OkB x<;>simp[q,nt,aj]) (by unfold nN;dsimp only;rw[ay,ae]) with ⟨F,G⟩|⟨F,q,G⟩
 rotate_left
 .rw[G,aa];exact⟨1,rfl,λq=>(by cases q),λq=>absurd q.bl F⟩
 rw[G,aa];dsimp only;rw[bO,ab,Q,aa];have W:(k.flatMap (·.2.2.1)).length<=320:=by have:=xB (g:=λx:ax=>x.2.2.1) (l:=k) λx o=>(r x o).1;omega
 have X:(d.flatMap (·.2.1)).length<=320:=by have:=xB (g:=λx:lY=>x.2.1) (l:=d) λx o=>(s x o).1;omega
 have Y:(j.flatMap (·.2.1)).length<=320:=by have:=xB (g:=λx:yj=>x.2.1) (l:=j) λx o=>(w x o).1;omega
 rcases adf (SI (0,k,d,j,u)) (SJ (0,k,d,j,u)) (by unfold SI;simp only[fQ,qI];omega) with ⟨H,U,I⟩|⟨H,U,I⟩
 rotate_left
 .rw[I,aa];exact⟨1,rfl,λq=>(by cases q),λq=>absurd q.ids H⟩
 rw[I,aa];dsimp only;rw[bO,ab];rcases Vk (SI (0,k,d,j,u)) (SJ (0,k,d,j,u)) (by unfold SJ;simp only[fQ];omega) with ⟨J,V,K⟩|⟨J,V,K⟩
 rotate_left
 .rw[K,aa];exact⟨1,rfl,λq=>(by cases q),λq=>absurd q.nms J⟩
 rw[K,aa];exact⟨0,rfl,λ_=>⟨A,p,B,D,F,H,J⟩,λ_=>rfl⟩
theorem Mb(s:aq)(r:s.length<=1048576)(m:Int):∀(n i:Nat),s.length-i<=n->i<=s.length->∃q,Loop (fv (s,m,())) ((false,(i:Int),()),())=some q/\(if vJ (s.drop i) then q.1=0 else q.1=1/\q.2.1.1=false):=by
 intro n;induction n with
 | zero =>
   intro i h l;have:i=s.length:=by omega
   subst this;rw[aN];refine⟨(0,(false,(s.length:Int),()),()),?_,?_⟩
   .unfold fv;dsimp only;rw[aB<|by simp only[len];omega,ae];rfl
   .rw[Ix,aQ (by intro x a;cases a)]
 | succ n o =>
   intro i h l;rw[aN];by_cases f:i<s.length
   .have hd:s.drop i=s[i]::s.drop (i+1):=wM f;have e0:fv (s,m,()) ((false,(i:Int),()),())=if s[i]=0 then some (.inr (1,(false,(i:Int),()),())) else some (.inl ((false,((i+1:Nat):Int),()),())):=by
     unfold fv;dsimp only;rw[aK<|by simp only[len];omega,ab,AX s f,aa];by_cases c:s[i]=0
     .rw[c,show aX (u8 0) 0=true from rfl,ab,aQ rfl]
     .rw[show aX (u8 s[i]) 0=false from aE (λe=>c (U7 (b:=0) e)),ae,aM c,aL (by omega)]
    rw[e0];by_cases c:s[i]=0
    .rw[aQ c];refine⟨_,rfl,?_⟩;rw[aM λd=>d s[i] (by rw[hd];exact mo ..) c];exact⟨rfl,rfl⟩
    .rw[aM c];obtain⟨q,p,j⟩:=o (i+1) (by omega) (by omega);refine⟨q,p,?_⟩;have e:vJ (s.drop i)↔vJ (s.drop<|i+1):=by
      rw[hd];constructor
      .intro h x a;exact h x (nX _ a)
      .intro h x a;rcases fP.1 a with rfl|a
       .exact c
       .exact h x a
     by_cases d:vJ (s.drop<|i+1)
     .rw[aQ d] at j;rw[aQ<|e.2 d];exact j
     .rw[aM d] at j;rw[aM λk=>d (e.1 k)];exact j
   .have:i=s.length:=by omega
    subst this;refine⟨(0,(false,(s.length:Int),()),()),?_,?_⟩
    .unfold fv;dsimp only;rw[aB<|by simp only[len];omega,ae];rfl
    .rw[Ix,aQ (by intro x a;cases a)]
theorem DV(s:aq)(d:s.length<=1048576)(m:Int):lE (s,m,())=some (decide<|TM s m,()):=by
 unfold lE;dsimp only;obtain⟨q,f,a⟩:=Mb s d m s.length 0 (by omega) (by omega);rw[show Loop (fv (s,m,())) ((false,0,()),())=some q from f,aa];rw[wR] at a;by_cases c:vJ s
 .rw[aQ c] at a;rw[a,show dJ 0 0=true from rfl,ab];by_cases h:s=[]
  .subst h;rw[eF<|by decide,ae,cJ λe=>e.1 rfl]
  .have:=Ir.2 h;rw[b6<|by simp only[len];omega,ab];unfold cu;rw[show decide (len s<=m)=decide (TM s m) from gi.2 ⟨λe=>⟨h,e,c⟩,λe=>e.2.1⟩]
 .rw[aM c] at a;rw[a.1,show dJ 1 0=false from rfl,ae,a.2,cJ λe=>c e.2.2]
theorem xC(n b:Int):pf (n,b,())=some (decide<|HX n b,()):=Cy n b
theorem adh(h:Hd)(m:Int)(x:h.1.length<=1048576)(y:h.2.2.2.2.2.2.2.1.length<=1048576):sG (h,m,())=some (decide<|Hn h m,()):=by
 unfold sG;dsimp only;have a:(aj (aX h.2.1 3) (af (lE (h.2.2.2.2.2.2.2.1,100,())) λA=>some ((A.1,()),()))<|some ((bt h.2.2.2.2.2.2.2.1 [],()),())) =
   some ((decide<|(h.2.1=3/\TM h.2.2.2.2.2.2.2.1 100)\/(h.2.1≠3/\h.2.2.2.2.2.2.2.1=[]),()),()):=by
  by_cases r:h.2.1=3
  .rw[r,iZ,ab,DV _ y,aa];rw[show decide (TM h.2.2.2.2.2.2.2.1 100)=decide (((3:Int)=3/\TM h.2.2.2.2.2.2.2.1 100)\/((3:Int)≠3/\h.2.2.2.2.2.2.2.1=[])) from gi.2 (by simp)]
  .rw[aE r,ae];unfold bt;rw[show decide (h.2.2.2.2.2.2.2.1=[])=decide ((h.2.1=3/\TM h.2.2.2.2.2.2.2.1 100)\/(h.2.1≠3/\h.2.2.2.2.2.2.2.1=[])) from gi.2 (by simp[r])]
 rw[a,aa,DV _ x,aa];dsimp only;have B:∀{p:Prop} [Decidable p],¬p->decide p=false:=λ{p} _ h=>cJ h;by_cases d:TM h.1 m
 case neg=>rw[cJ d,ae,ae,ae,aa,ae,aa,ae,aa,ae,aa,ae,aa,ae,ae,cJ λe=>d e.2.2.2.2.2.1]
 rw[dI d,ab];have c:Hn h m->1<=h.2.1/\h.2.1<=3:=λe=>by
  rcases e.2.2.2.2.2.2 with k|k|k<;>omega
 by_cases v:1<=h.2.1
 case neg=>rw[eF<|by omega,ae,ae,aa,ae,aa,ae,aa,ae,aa,ae,aa,ae,ae,cJ λe=>v (c e).1]
 rw[b6 v,ab];by_cases w:h.2.1<=3
 case neg=>rw[eF<|by omega,ae,aa,ae,aa,ae,aa,ae,aa,ae,aa,ae,ae,cJ λe=>w (c e).2]
 rw[b6 w,ab,xC,aa,aa];by_cases f:HX h.2.2.1 2097152
 case neg=>rw[cJ f,ae,aa,ae,aa,ae,aa,ae,aa,ae,ae,cJ λe=>f e.1]
 rw[dI f,ab,xC,aa,aa];by_cases i:HX h.2.2.2.1 2097152
 case neg=>rw[cJ i,ae,aa,ae,aa,ae,aa,ae,ae,cJ λe=>i e.2.1]
 rw[dI i,ab,xC,aa,aa];by_cases j:HX h.2.2.2.2.1 2097152
 case neg=>rw[cJ j,ae,aa,ae,aa,ae,ae,cJ λe=>j e.2.2.1]
 rw[dI j,ab,xC,aa,aa];by_cases l:HX h.2.2.2.2.2.1 8589934592
 case neg=>rw[cJ l,ae,aa,ae,ae,cJ λe=>l e.2.2.2.1]
 rw[dI l,ab,xC,aa,aa];by_cases n:HX h.2.2.2.2.2.2.1 8589934592
 case neg=>rw[cJ n,ae,ae,cJ λe=>n e.2.2.2.2.1]
 rw[dI n,ab];have C:decide (Hn h m)=decide (kindOk h):=gi.2 ⟨λe=>e.2.2.2.2.2.2,λe=>⟨f,i,j,l,n,d,e⟩⟩;rw[C];have s:h.2.1=1\/h.2.1=2\/h.2.1=3:=by omega
 by_cases o:h.2.2.2.2.2.1=0
 .rw[aJ o,aA,ae,ab];rw[show decide ((h.2.1=3/\TM h.2.2.2.2.2.2.2.1 100)\/(h.2.1≠3/\h.2.2.2.2.2.2.2.1=[]))=decide (kindOk h) from gi.2 (by
   unfold kindOk;rcases s with k|k|k<;>simp[k,o])]
 .rw[aE o,aw,ab];by_cases q:h.2.1=1
  .rw[aJ q,ab];rw[show decide ((h.2.1=3/\TM h.2.2.2.2.2.2.2.1 100)\/(h.2.1≠3/\h.2.2.2.2.2.2.2.1=[]))=decide (kindOk h) from gi.2 (by unfold kindOk;simp[q])]
  .rw[aE q,ae];rw[show decide (kindOk h)=false from cJ (by unfold kindOk;simp[q,o])]
def DW(b:aq)(k:Nat):Nat:=if 148<=k/\k<156 then 32 else(b.getD k 0).toNat
def pJ(b:aq):Nat->Nat
 | 0=>0
 | k+1=>pJ b k+DW b k
theorem Kc(b:aq)(k:Nat):DW b k<=255:=by
 unfold DW;have:=(b.getD k 0).toNat_lt;split<;>omega
theorem SK(b:aq)(k:Nat):pJ b k<=255*k:=by
 induction k with
 | zero=>exact cg _
 | succ k a=>have:=Kc b k;simp only[pJ];omega
theorem Vl:idx ([(0,100,()),(100,8,()),(108,8,()),(116,8,()),(124,12,()),(136,12,()),(148,8,()),(156,1,()),(157,100,()),(257,8,()),(345,155,())]:List (Int×Int×ai)) 6=some (148,8,()):=rfl
theorem Fu(b:aq)(j:b.length<=1048576):tL (b,())=some ((pJ b b.length:Int),()):=by
 unfold tL kV;rw[aa];dsimp only;rw[Vl,aa,dz (by simp only[len];omega),ab];have key:Loop (kW (b,()) (148,8,())) ((0,0,()),())=some (((pJ b b.length:Int),(b.length:Int),()),()) :=
  cR (f:=kW (b,()) (148,8,())) (r:=(((pJ b b.length:Int),(b.length:Int),()),())) b.length (λk=>(((pJ b k:Int),(k:Int),()),())) (λk c=>by
   unfold kW;dsimp only;have l:=SK b k;have n:=Kc b k;have a:b.getD k 0=b[k]:=by simp[Oj,c]
   rw[jZ,aK (by omega),ab,aW (by omega) (by omega),ab,xw b c,aa,cS,aL (by omega),show aF .i64 148 8=156 from by decide];have i:(aj (aj (cu 148 (k:Int)) (aY (k:Int) 156) false) (((32:Int),()),()) ((u8 b[k],()),())).1.1=(DW b k:Int):=by
    unfold DW;by_cases h:148<=k
    .by_cases d:k<156
     .rw[b6<|by omega,ab,aK (by omega),ab,aQ ⟨h,d⟩];rfl
     .rw[b6<|by omega,ab,aB (by omega),ae,aM (λe=>d e.2),a];rfl
    .rw[eF<|by omega,ae,ae,aM (λe=>h e.1),a];rfl
   rw[i,yc (by omega) (by omega),show aF .i64 (pJ b k:Int) (DW b k:Int)=((pJ b k+DW b k:Nat):Int) from uU (by omega)];rfl) (by
   unfold kW;dsimp only;rw[jZ,aB (by omega),ae,dG])
 rw[key,aa]
theorem DX(b:aq)(j:b.length<=1048576):vF (b,())=some ((pJ b b.length:Int),()):=by
 unfold vF;have key:Loop (mJ (b,())) ((0,0,()),())=some (((pJ b b.length:Int),(b.length:Int),()),()) :=
  cR (f:=mJ (b,())) (r:=(((pJ b b.length:Int),(b.length:Int),()),())) b.length (λk=>(((pJ b k:Int),(k:Int),()),())) (λk c=>by
   unfold mJ;dsimp only;have l:=SK b k;have n:=Kc b k;have a:b.getD k 0=b[k]:=by simp[Oj,c]
   have o:=b[k].toNat_lt;have e:∀v:Nat,v=DW b k->aF .i64 (pJ b k:Int) (v:Int)=((pJ b (k+1):Nat):Int):=λv i=>by
    rw[i,uU (by omega)];rfl
   rw[aK<|by simp only[len];omega,ab];unfold DW at e;by_cases h:148<=k
   .by_cases d:k<156
    .rw[b6<|by omega,ab,aK (by omega),ab,aa,cS,aL (by omega)];dsimp only;rw[show aF .i64 (pJ b k:Int) 32=_ from e 32 (by rw[aQ ⟨h,d⟩])]
    .rw[b6<|by omega,ab,aB (by omega),ae,AX b c,aa,aa,cS,aL (by omega)];dsimp only;rw[show jC .i64 (u8 b[k])=(b[k].toNat:Int) from yc (by unfold u8;omega) (by unfold u8;omega),e b[k].toNat (by rw[aM<|λe=>d e.2,a])]
   .rw[eF<|by omega,ae,ae,AX b c,aa,aa,cS,aL (by omega)];dsimp only;rw[show jC .i64 (u8 b[k])=(b[k].toNat:Int) from yc (by unfold u8;omega) (by unfold u8;omega),e b[k].toNat (by rw[aM<|λe=>h e.1,a])]) (by
   unfold mJ;dsimp only;rw[aB<|by simp only[len];omega,ae,dG])
 rw[key,aa]
def lL(n:Nat):aq:=List.replicate n 0
theorem ry(n:Nat):(lL n).length=n:=QB
def mf:aq:=[117,115,116,97,114,0,48,48]
theorem Vm(a:List aq)(k:Nat)(c:k<a.length):a.flatten=(a.take k).flatten++(a[k]++(a.drop<|k+1).flatten):=by
 conv=>lhs;rw[<-uu k a,wM c]
 rw[List.flatten_append,ZK]
theorem abx(a:List aq)(k:Nat)(c:k<a.length)(x:aq):(a.set k x).flatten=(a.take k).flatten++(x++(a.drop<|k+1).flatten):=by
 rw[adM,aQ c,List.flatten_append,ZK]
theorem aby(A z R s:aq)(a:Nat)(c:A.length=a)(d:s.length<=z.length):over (av<|A++(z++R)) (a:Int) (av s)=av (A++((s++z.drop s.length)++R)):=by
 unfold over;rw[qZ,fE];have e:(av<|A++(z++R)).take a=av A:=by rw[zQ,F1 c]
 have f:(av<|A++(z++R)).drop (a+s.length)=av (z.drop s.length++R):=by
  have:(A++(z++R)).drop (a+s.length)=z.drop s.length++R:=by
   rw[<-c,<-vm,Bf,MQ d]
  rw[<-this];simp[av,ZU]
 rw[e,f,<-r4,<-r4,kR,kR]
theorem ov(c:List aq)(k:Nat)(d:k<c.length)(s:aq)(n l a:Nat)(f:c[k]=lL n)(i:s.length=l)(j:l<=n)(o:(c.take k).flatten.length=a)(p:a+l<=512) :
  over (av c.flatten) (a:Int) (iU (av s)<|minus 512 (a:Int))=av (c.set k<|s++lL (n-l)).flatten:=by
 have e:iU (av s) (minus 512 (a:Int))=av s:=by
  unfold iU minus;rw[Bd];rw[fE];omega
 rw[e,Vm c k d,aby _ _ _ _ a o (by rw[f,ry];omega),abx c k d,f,i];simp[lL]
def abz(h:Hd)(m u g z t:Nat)(a:UInt8)(c:aq):List aq:=[h.1++lL (100-h.1.length),Vb m 7++lL 1,Vb u 7++lL 1,Vb g 7++lL 1,Vb z 11++lL 1,Vb t 11++lL 1,c,[a]++lL 0,h.2.2.2.2.2.2.2.1++lL (100-h.2.2.2.2.2.2.2.1.length),mf++lL 0,lL 80,lL 155,lL 12]
def WQ:List (Int×Int×ai):=[(0,100,()),(100,8,()),(108,8,()),(116,8,()),(124,12,()),(136,12,()),(148,8,()),(156,1,()),(157,100,()),(257,8,()),(345,155,())]
theorem Vn:kV ()=some (WQ,()):=rfl
structure Fits (h:Hd) (m u g z t:Nat) (kd:UInt8):Prop where
 path:h.1.length<=100
 link:h.2.2.2.2.2.2.2.1.length<=100
 m:h.2.2.1=(m:Int)/\m<2097152
 u:h.2.2.2.1=(u:Int)/\u<2097152
 g:h.2.2.2.2.1=(g:Int)/\g<2097152
 z:h.2.2.2.2.2.1=(z:Int)/\z<8589934592
 t:h.2.2.2.2.2.2.1=(t:Int)/\t<8589934592
 kind:(h.2.1=1/\kd=48)\/(h.2.1=2/\kd=53)\/(h.2.1=3/\kd=50)
def aix(h:Hd)(m u g z t:Nat)(a:UInt8):aq:=(abz h m u g z t a<|Vb (pJ (abz h m u g z t a<|lL 8).flatten 512) 6++[0,32]).flatten
theorem Hs(s:aq)(j:s.length<=1048576):∃n c,dn (s,())=some (n,c,()):=by
 unfold dn;dsimp only;cases l:(aj (nt<|aY (len s) 1) (aY 21<|len s) true) with
 | true=>exact⟨0,false,rfl⟩
 | false =>
   rw[ae,dz (by simp only[len];omega),ab];have key:∀(k i:Nat) (v:Int),s.length-i<=k->i<=s.length->∃q,Loop (bL (s,())) ((0,false,v,(i:Int),()),())=some q:=by
    intro k;induction k with
    | zero =>
      intro i v h d;rw[aN];unfold bL;dsimp only;rw[jZ,aB (by omega),ae];exact⟨_,rfl⟩
    | succ k e =>
      intro i v h d;by_cases a:i<s.length
      .cases hd:(aj (nt<|aY (u8 s[i]) 48) (aY 55<|u8 s[i]) true) with
       | true =>
         have e0:bL (s,()) ((0,false,v,(i:Int),()),())=some (.inr (1,(0,false,v,(i:Int),()),())):=by
          unfold bL;dsimp only;rw[jZ,aK (by omega),ab,aW (by omega) (by omega),ab,xw s a,aa,hd,ab]
         rw[aN,e0];exact⟨_,rfl⟩
       | false =>
         have e0:bL (s,()) ((0,false,v,(i:Int),()),())=some (.inl ((0,false,wV .i64 (lQ .i64 v 3)<|jC .i64<|cC .u8 (u8 s[i]) 48,((i+1:Nat):Int),()),())):=by
          unfold bL;dsimp only;rw[jZ,aK (by omega),ab,aW (by omega) (by omega),ab,xw s a,aa,hd,ae,aB (by decide),ae,aL (by omega)]
         rw[aN,e0];exact e (i+1) _ (by omega) (by omega)
      .rw[aN];unfold bL;dsimp only;rw[jZ,aB (by omega),ae];exact⟨_,rfl⟩
   obtain⟨q,f⟩:=key s.length 0 0 (by omega) (by omega);rw[show Loop (bL (s,())) ((0,false,0,0,()),())=some q from f,aa];cases dJ q.1 0 with
   | true=>exact⟨_,_,rfl⟩
   | false=>exact⟨_,_,rfl⟩
theorem nP(p:UInt8->Bool)(s:aq):(cm p s).length<=s.length:=by
 unfold cm;rw[MU];have:=Ii (p:=p) (l:=s.reverse);have:=congrArg List.length this;rw[fQ,MU] at this;omega
theorem ez(s:aq)(a:s.length<=1048576):∃n,cO (s,())=some (n,()):=by
 unfold cO;dsimp only;have d:=nP vp s;rw[DK s a,aa];obtain⟨n,c,h⟩:=Hs (cm vp s) (by omega);dsimp only;rw[h,aa];cases (aj (nt<|nt c) (aX (len<|cm vp s)<|len s) true) with
 | true=>exact⟨_,rfl⟩
 | false=>exact⟨_,rfl⟩
def fJ(b:aq)(a n:Nat):aq:=(b.drop a).take n
theorem b9(b:aq)(a n:Nat):(fJ b a n).length<=n:=by simp[fJ];omega
theorem mV(b:aq)(d:b.length=512)(k:Int)(a n:Nat)(c:idx WQ k=some ((a:Int),(n:Int),()))(h:a+n<=512):bW (b,k,())=some (fJ b a n,()):=by
 unfold bW;rw[Vn,aa];dsimp only;rw[c,aa];dsimp only;rw[show aF .i64 (a:Int) (n:Int)=((a+n:Nat):Int) from uU (by omega),aR (by omega) (by omega) (by simp only[len];omega),ab];unfold sub minus fJ;rw[qZ,show(((a+n:Nat):Int)-(a:Int)).toNat=n by omega]
section
variable (b:aq)
theorem o0(a:b.length=512):bW (b,0,())=some (fJ b 0 100,()):=mV b a 0 0 100 rfl (by omega)
theorem o1(a:b.length=512):bW (b,1,())=some (fJ b 100 8,()):=mV b a 1 100 8 rfl (by omega)
theorem o2(a:b.length=512):bW (b,2,())=some (fJ b 108 8,()):=mV b a 2 108 8 rfl (by omega)
theorem o3(a:b.length=512):bW (b,3,())=some (fJ b 116 8,()):=mV b a 3 116 8 rfl (by omega)
theorem o4(a:b.length=512):bW (b,4,())=some (fJ b 124 12,()):=mV b a 4 124 12 rfl (by omega)
theorem o5(a:b.length=512):bW (b,5,())=some (fJ b 136 12,()):=mV b a 5 136 12 rfl (by omega)
theorem o6(a:b.length=512):bW (b,6,())=some (fJ b 148 8,()):=mV b a 6 148 8 rfl (by omega)
theorem o7(a:b.length=512):bW (b,7,())=some (fJ b 156 1,()):=mV b a 7 156 1 rfl (by omega)
theorem o8(a:b.length=512):bW (b,8,())=some (fJ b 157 100,()):=mV b a 8 157 100 rfl (by omega)
theorem o9(a:b.length=512):bW (b,9,())=some (fJ b 257 8,()):=mV b a 9 257 8 rfl (by omega)
theorem o10(a:b.length=512):bW (b,10,())=some (fJ b 345 155,()):=mV b a 10 345 155 rfl (by omega)
end
def YA:Hd:=([],0,0,0,0,0,0,[],())
theorem CC(b:aq)(a:b.length=512)(c:fJ b 257 8≠mf):eR (b,())=some (YA,2,()):=by
 unfold eR;dsimp only;rw[aJ<|by simp only[len];omega,aA,aw,ab,o9 b a,aa,aa,show([117,115,116,97,114,0,48,48]:aq)=mf from rfl];dsimp only;rw[show bt (fJ b 257 8) mf=false from cJ c,aw,aA,ae,aa,ab];rfl
theorem SL(b:aq)(a:b.length=512){n:Int}(e:cO (fJ b 148 8,())=some (n,()))(c:n≠(pJ b 512:Int)):eR (b,())=some (YA,2,()):=by
 by_cases d:fJ b 257 8=mf
 .unfold eR;dsimp only;rw[aJ<|by simp only[len];omega,aA,aw,ab,o9 b a,aa,aa,show([117,115,116,97,114,0,48,48]:aq)=mf from rfl];dsimp only;rw[d,show bt mf mf=true from kT _,aA,aw,ab,o6 b a,aa];dsimp only;rw[e,aa,Fu b (by omega),aa];dsimp only;rw[a,aE c,aw,aa,ab];rfl
 .exact CC b a d
section
variable {h:Hd} {m u g z t:Nat} {kd:UInt8}
theorem adi(n:Nat):∀x∈lL n,x=0:=λx a=>List.eq_of_mem_replicate a
end
def hA:Hd:=([100,47],2,493,0,0,0,1,[],())
def hC:Hd:=([100],2,0,0,0,1,0,[],())
abbrev Pt:=Hd×aq×ai
def ad9(h:Hd):Int:=h.2.2.2.2.2.1
def aiy(h:Hd):UInt8:=if h.2.1=1 then 48 else if h.2.1=2 then 53 else 50
def aiz(h:Hd):aq:=aix h h.2.2.1.toNat h.2.2.2.1.toNat h.2.2.2.2.1.toNat h.2.2.2.2.2.1.toNat h.2.2.2.2.2.2.1.toNat (aiy h)
def aiA(p:Pt):Prop:=Hn p.1 100/\ad9 p.1=(p.2.1.length:Int)
instance (p:Pt):Decidable (aiA p):=inferInstanceAs (Decidable<|_/\_)
def mg(n:Nat):Nat:=(512-n % 512) % 512
def body(p:Pt):aq:=aiz p.1++p.2.1++lL (mg p.2.1.length)
theorem SM(n:Nat):mg n<512:=wT _ (by decide)
theorem SN(n:Nat)(c:n<=1048576):uP ((n:Int),())=some ((mg n:Int),()):=by
 unfold uP;dsimp only;rw[show aX 512 0=false from rfl,ae,ae];have a:iE (n:Int) 512=((n % 512:Nat):Int):=rfl;rw[a,de (by omega) (by omega),show(512:Int)-((n % 512:Nat):Int)=((512-n % 512:Nat):Int) by omega];rfl
theorem SO(n:Nat):Lib.repeatL [0] n=lL n:=by
 induction n with
 | zero=>rfl
 | succ n a =>
   show [0]++Lib.repeatL [0] n=lL (n+1)
   rw[a];rfl
theorem SP(n:Nat)(a:n<=1048576):wx ((n:Int),())=some (lL n,()):=by
 unfold wx;dsimp only;have:ni ([0],(n:Int),())=some (lL n,()):=by
  show(ft [0] (n:Int)).map (λy=>(y,()))=_
  unfold ft;rw[aM<|by rw[qZ];simp only[dd,eB];omega,qZ,SO];rfl
 rw[this,aa]
theorem SQ(n:Nat)(d:n<=1048576):lF ((n:Int),())=some (((n+mg n:Nat):Int),()):=by
 unfold lF;dsimp only;have key:=cR (f:=jU) (r:=((((n+mg n:Nat):Int),()),())) (mg n) (λi=>((((n+i:Nat):Int),()),())) (λi a=>by
  have c:=a;unfold mg at c;unfold jU;dsimp only;rw[show aX 512 0=false from rfl,ae,show iE ((n+i:Nat):Int) 512=(((n+i) % 512:Nat):Int) from rfl,aE (by omega),aw,ab,aL (by omega)];rfl) (by
  unfold jU;dsimp only;rw[show aX 512 0=false from rfl,ae,show iE ((n+mg n:Nat):Int) 512=(((n+mg n) % 512:Nat):Int) from rfl,aJ (by unfold mg;omega),aA,ae];rfl)
 rw[show Loop jU (((n:Int),()),())=_ from key,aa]
structure alc (l:List Pt) (n:Nat):Prop where
 many:l.length<=n
 path:∀p∈l,p.1.1.length<=300
 link:∀p∈l,p.1.2.2.2.2.2.2.2.1.length<=300
 data:∀p∈l,p.2.1.length<=8192
end Go.Ge
