/- Plain laws of what the functions compute: part 7. -/
import Derived.Test.YtefacgohfjccgaaGreatDoorPlF
import Derived.Test.YtefacgohfjccgaaGreatDoorGeI
set_option linter.unusedVariables false
set_option linter.unusedSectionVars false
set_option linter.unusedSimpArgs false
noncomputable section
namespace Go.Ge
variable [Lp]
set_option maxRecDepth 100000
abbrev cz:=((List (Sb×(List Sb)×Sb×Sb×Sb×(List (Sb×Sb×Sb×Unit))×Unit))×(List (Sb×(List Sb)×Sb×Sb×(List (Sb×Sb×Sb×Unit))×Unit))×(List (Sb×Sb×(List Sb)×Sb×Int×Int×Bool×Unit))×(List Sb)×(List (Sb×Int×Unit))×Unit)
abbrev bH:=(Sb×(List Sb)×Sb×Sb×Sb×(List (Sb×Sb×Sb×Unit))×Unit)
abbrev aZ:=(Sb×Sb×(List Sb)×Sb×Int×Int×Bool×Unit)
abbrev bh:=(Sb×Int×Unit)
abbrev eV:=(Nat×(Int×Int×Unit)×Sb×Unit)
abbrev eW:=((Int×Int×Unit)×Sb×Unit)
abbrev nF:=(Sb×Sb×Sb×Unit)
abbrev lJ:=(Int×Sb×Int×Sb×Unit)
abbrev sW:=((List aZ)×Int×Unit×Sb×Int×Unit)
abbrev cu:=(Int×Int×Unit)
abbrev H9:=((List UInt8)×((List (List UInt8))×((List UInt8)×((List UInt8)×((List UInt8)×((List ((List UInt8)×((List UInt8)×((List UInt8)×Unit))))×Unit))))))
abbrev wQ:=(Sb×Int×Int×Sb×Sb×Unit)
abbrev qP:=((List aZ)×Int×Unit×Sb×Unit)
abbrev EF:=(Sb×(List Sb)×Sb×Sb×(List nF)×Unit)
abbrev Ia:=((List UInt8)×((List UInt8)×((List (List UInt8))×((List UInt8)×(Int×(Int×(Bool×Unit)))))))
abbrev BM:=(List (Sb×(List Sb)×Unit))
abbrev zf:=(Nat×cu×Unit×Sb×Unit)
abbrev Ib:=((Int×Int×Unit×Unit)×Sb×(List bh)×Unit)
abbrev zg:=(cu×Unit×Sb×Unit)
def b9(l:List H9)(x:(Int×((List H9)×Unit))):Option (List H9):=Hz l x.1 x.2.1
def cV(l:List H9)(x:(Int×(Int×Unit))):Option (List H9):=PF l x.1 x.2.1
def eN(l:List (List UInt8))(x:(Int×(Int×Unit))):Option (List (List UInt8)):=PF l x.1 x.2.1
def dw(l:List Ia)(x:(Int×(Int×Unit))):Option (List Ia):=PF l x.1 x.2.1
def eO(l:List (List UInt8))(x:(Int×((List (List UInt8))×Unit))):Option (List (List UInt8)):=Hz l x.1 x.2.1
def dz(l:List Ia)(x:(Int×((List Ia)×Unit))):Option (List Ia):=Hz l x.1 x.2.1
def eX(l:List ((List UInt8)×(Int×Unit)))(x:(Int×((List ((List UInt8)×(Int×Unit)))×Unit))):Option (List ((List UInt8)×(Int×Unit))):=Hz l x.1 x.2.1
def kG(x:Int×Unit):Option (lJ×Unit) :=
 some ((x.1,(([]:List (UInt8)),((0:Int),(([]:List (UInt8)),())))),())
def nk(x:cz×Unit):Option (BM×Unit) :=
 ah (tY ((1:Int),(((0:Int),(([]:List aZ),(([]:List EF),(x.1.1,())))),()))) (fun(y1:BM×Unit)=>some (y1.1,()))
def lK(x:(List aZ)×Sb×Unit)(y2:sW×(List aZ)×Unit):Option ((sW×(List aZ)×Unit)⊕(Nat×sW×(List aZ)×Unit)) :=
 aj (bB y2.1.2.2.2.2.1 (@len aZ x.1))
 (ah (@idx aZ x.1 y2.1.2.2.2.2.1) (fun(y3:Sb×Sb×(List Sb)×Sb×Int×Int×Bool×Unit)=>aj (nt (cc y3.1 y2.1.2.2.2.1))
 (some (Sum.inl ((y2.1.1,(y2.1.2.1,((),(y2.1.2.2.2.1,(aL IntKind.i64 y2.1.2.2.2.2.1 (1:Int),()))))),(y2.2.1,())):((sW×(List aZ)×Unit))⊕((Nat×sW×(List aZ)×Unit))))
 (aj (bI (@len aZ y2.2.1) (16:Int))
 (some (Sum.inr ((1:Nat),((([]:List aZ),((5:Int),((),(y2.1.2.2.2.1,(y2.1.2.2.2.2.1,()))))),(y2.2.1,()))):((sW×(List aZ)×Unit))⊕((Nat×sW×(List aZ)×Unit))))
 (ah (bz (y3.2.2.1,())) (fun(y4:(List Sb)×Unit)=>aj (fits (plus (@len aZ y2.2.1) (@len aZ ([(y3.1,(y3.2.1,(y4.1,y3.2.2.2)))]:List aZ))))
 (aj (cc y3.2.1 ([]:List (UInt8)))
 (some (Sum.inr ((2:Nat),((y2.1.1,(y2.1.2.1,((),(y2.1.2.2.2.1,(y2.1.2.2.2.2.1,()))))),(@app aZ y2.2.1 ([(y3.1,(y3.2.1,(y4.1,y3.2.2.2)))]:List aZ),()))):((sW×(List aZ)×Unit))⊕((Nat×sW×(List aZ)×Unit))))
 (some (Sum.inr ((3:Nat),((y2.1.1,(y2.1.2.1,((),(y3.2.1,(y2.1.2.2.2.2.1,()))))),(@app aZ y2.2.1 ([(y3.1,(y3.2.1,(y4.1,y3.2.2.2)))]:List aZ),()))):((sW×(List aZ)×Unit))⊕((Nat×sW×(List aZ)×Unit)))))
 none)))))
 (some (Sum.inr ((0:Nat),((y2.1.1,(y2.1.2.1,((),(y2.1.2.2.2.1,(y2.1.2.2.2.2.1,()))))),(y2.2.1,()))):((sW×(List aZ)×Unit))⊕((Nat×sW×(List aZ)×Unit))))
def iY(x:(List aZ)×Sb×Unit)(y1:qP×(List aZ)×Unit):Option ((qP×(List aZ)×Unit)⊕(Nat×qP×(List aZ)×Unit)) :=
 ah (Loop (lK x) ((y1.1.1,(y1.1.2.1,((),(y1.1.2.2.2.1,((0:Int),()))))),(y1.2.1,()))) (fun(y2:Nat×sW×(List aZ)×Unit)=>aj (fT y2.1 (0:Nat))
 (some (Sum.inr ((0:Nat),((([]:List aZ),((3:Int),((),(y2.2.1.2.2.2.1,())))),(y2.2.2.1,()))):((qP×(List aZ)×Unit))⊕((Nat×qP×(List aZ)×Unit))))
 (aj (fT (@Nat.rec (fun(y3:Nat)=>Nat) (0:Nat) (fun(y3:Nat)=>fun(y4:Nat)=>y3) y2.1) (0:Nat))
 (some (Sum.inr ((0:Nat),((y2.2.1.1,(y2.2.1.2.1,((),(y2.2.1.2.2.2.1,())))),(y2.2.2.1,()))):((qP×(List aZ)×Unit))⊕((Nat×qP×(List aZ)×Unit))))
 (aj (fT (@Nat.rec (fun(y3:Nat)=>Nat) (0:Nat) (fun(y3:Nat)=>fun(y4:Nat)=>y3) (@Nat.rec (fun(y3:Nat)=>Nat) (0:Nat) (fun(y3:Nat)=>fun(y4:Nat)=>y3) y2.1)) (0:Nat))
 (some (Sum.inr ((1:Nat),((y2.2.1.1,(y2.2.1.2.1,((),(y2.2.1.2.2.2.1,())))),(y2.2.2.1,()))):((qP×(List aZ)×Unit))⊕((Nat×qP×(List aZ)×Unit))))
 (some (Sum.inl ((y2.2.1.1,(y2.2.1.2.1,((),(y2.2.1.2.2.2.1,())))),(y2.2.2.1,())):((qP×(List aZ)×Unit))⊕((Nat×qP×(List aZ)×Unit)))))))
def uU(x:(List aZ)×Sb×Unit):Option ((List aZ)×Int×Unit) :=
 ah (Loop (iY x) ((([]:List aZ),((0:Int),((),(x.2.1,())))),(([]:List aZ),()))) (fun(y1:Nat×qP×(List aZ)×Unit)=>aj (fT y1.1 (0:Nat))
 (some (y1.2.1.1,(y1.2.1.2.1,())))
 (some (y1.2.2.1,((0:Int),()))))
def DJ(x:Int×Unit):Option (lJ×Unit) :=
 some ((x.1,(([]:List (UInt8)),((0:Int),(([]:List (UInt8)),())))),())
def uV(x:Unit):Option (Sb×Unit) :=
 ah (pn (([(0:UInt8)]:List (UInt8)),((1024:Int),()))) (fun(y1:Sb×Unit)=>some (y1.1,()))
def qu(x:cz×Unit):Option ((List Sb)×Unit) :=
 aj (inside (0:Int) (@len aZ x.1.2.2.1) (@len aZ x.1.2.2.1))
 (aj (fits (@len aZ x.1.2.2.1))
 (some (@over Sb (@CI Sb (@len aZ x.1.2.2.1) ([]:List (UInt8))) (0:Int) (@iH Sb x.1.2.2.2.1 (@len Sb (@CI Sb (@len aZ x.1.2.2.1) ([]:List (UInt8))))),()))
 none)
 none
def kS(x:(List Sb)×Int×Sb×Unit):Option ((List Sb)×Unit) :=
 aj (fits (@len Sb x.1))
 (ah (eO x.1 (x.2.1,(([x.2.2.1]:List Sb),()))) (fun(y1:List Sb)=>some (y1,())))
 none
def ru(x:(List aZ)×Unit):Option ((List aZ)×Unit) :=
 bif fits (len x.1) then some (x.1,()) else none
def iF(x:(List aZ)×Int×aZ×Unit):Option ((List aZ)×Unit) :=
 aj (fits (@len aZ x.1))
 (ah (dz x.1 (x.2.1,(([x.2.2.1]:List aZ),()))) (fun(y1:List aZ)=>some (y1,())))
 none
def qQ(x:cz×aZ×Sb×Unit)(y1:cu×aZ×Unit):Option ((cu×aZ×Unit)⊕(Nat×cu×aZ×Unit)) :=
 aj (bB y1.1.2.1 (@len aZ x.1.2.2.1))
 (ah (@idx aZ x.1.2.2.1 y1.1.2.1) (fun(y2:Sb×Sb×(List Sb)×Sb×Int×Int×Bool×Unit)=>aj (nt (jy y2.1 y1.2.1.1))
 (some (Sum.inr ((1:Nat),((y1.1.2.1,(y1.1.2.1,())),(y1.2.1,()))):((cu×aZ×Unit))⊕((Nat×cu×aZ×Unit))))
 (some (Sum.inl ((y1.1.1,(aL IntKind.i64 y1.1.2.1 (1:Int),())),(y1.2.1,())):((cu×aZ×Unit))⊕((Nat×cu×aZ×Unit))))))
 (some (Sum.inr ((0:Nat),((y1.1.1,(y1.1.2.1,())),(y1.2.1,()))):((cu×aZ×Unit))⊕((Nat×cu×aZ×Unit))))
def sX(x:cz×aZ×Sb×Unit):Option (cz×Unit) :=
 ah (ah (Loop (qQ x) (((0:Int),((0:Int),())),(x.2.1,()))) (fun(y1:Nat×cu×aZ×Unit)=>aj (fT y1.1 (0:Nat))
 (some (((-1:Int),()),(y1.2.2.1,())))
 (some ((y1.2.1.1,()),(y1.2.2.1,()))))) (fun(y1:(Int×Unit)×aZ×Unit)=>ah (qu (x.1,())) (fun(y2:(List Sb)×Unit)=>ah (kS (y2.1,(((aj (bB y1.1.1 (0:Int))
 ((@len aZ x.1.2.2.1,()),())
 ((y1.1.1,()),())).1).1,(x.2.2.1,())))) (fun(y3:(List Sb)×Unit)=>ah (iF (x.1.2.2.1,(((aj (bB y1.1.1 (0:Int))
 ((@len aZ x.1.2.2.1,()),())
 ((y1.1.1,()),())).1).1,(y1.2.1,())))) (fun(y4:(List aZ)×Unit)=>some ((x.1.1,(x.1.2.1,(y4.1,(y3.1,x.1.2.2.2.2)))),())))))
def qR(x:cz×Sb×(List Sb)×Sb×Int×Unit):Option (cz×lJ×Unit) :=
 ah (ah (mY (x.2.2.1,())) (fun(y1:Int×Unit)=>aj (nt (bI y1.1 (0:Int)))
 (some ((y1.1,()),(((),((),((),((),((),((),((),()))))))),(x.2.2.1,(x.2.2.2.1,(x.2.1,(x.1,(([]:List (UInt8)),(x.2.2.2.2.1,(([]:List (UInt8)),(([]:List wQ),())))))))))))
 (ah (aj (cc x.2.2.2.1 ([]:List (UInt8)))
 (some (((0:Int),()),(x.2.2.2.1,())))
 none) (fun(y2:(Int×Unit)×Sb×Unit)=>aj (nt (bI y2.1.1 (0:Int)))
 (some ((y2.1.1,()),(((),((),((),((),((),((),((),()))))))),(x.2.2.1,(y2.2.1,(x.2.1,(x.1,(([]:List (UInt8)),(x.2.2.2.2.1,(([]:List (UInt8)),(([]:List wQ),())))))))))))
 (ah (aj (nt (cc x.2.1 ([]:List (UInt8))))
 (ah (ng (x.1,(x.2.1,()))) (fun(y3:Sb×Int×Unit)=>some ((y3.2.1,()),(y3.1,()))))
 (some (((0:Int),()),(([]:List (UInt8)),())))) (fun(y3:(Int×Unit)×Sb×Unit)=>aj (nt (bI y3.1.1 (0:Int)))
 (some ((y3.1.1,()),(((),((),((),((),((),((),((),()))))))),(x.2.2.1,(y2.2.1,(x.2.1,(x.1,(y3.2.1,(x.2.2.2.2.1,(([]:List (UInt8)),(([]:List wQ),())))))))))))
 (ah (lC (x.1,())) (fun(y4:BM×Unit)=>ah (sE (y4.1,(([]:List (UInt8)),(x.2.2.1,())))) (fun(y5:Int×Unit)=>aj (nt (bI y5.1 (0:Int)))
 (some ((y5.1,()),(((),((),((),((),((),((),((),()))))))),(x.2.2.1,(y2.2.1,(x.2.1,(x.1,(y3.2.1,(x.2.2.2.2.1,(([]:List (UInt8)),(([]:List wQ),())))))))))))
 (ah (lC (x.1,())) (fun(y6:BM×Unit)=>ah (oK (y6.1,(x.2.2.2.2.1,()))) (fun(y7:Sb×Int×Unit)=>aj (nt (bI y7.2.1 (0:Int)))
 (some ((y7.2.1,()),(((),((),((),((),((),((),((),()))))))),(x.2.2.1,(y2.2.1,(x.2.1,(x.1,(y3.2.1,(x.2.2.2.2.1,(y7.1,(([]:List wQ),())))))))))))
 (ah (ah (uU (x.1.2.2.1,(y3.2.1,()))) (fun(y8:(List aZ)×Int×Unit)=>aj (aj (aj (nt (cc y3.2.1 ([]:List (UInt8))))
 (bI y8.2.1 (0:Int))
 false)
 (cX (16:Int) (@len aZ y8.1))
 false)
 (some (((5:Int),()),(y3.2.1,(x.1,()))))
 (some (((0:Int),()),(y3.2.1,(x.1,())))))) (fun(y8:(Int×Unit)×Sb×cz×Unit)=>aj (nt (bI y8.1.1 (0:Int)))
 (some ((y8.1.1,()),(((),((),((),((),((),((),((),()))))))),(x.2.2.1,(y2.2.1,(x.2.1,(y8.2.2.1,(y8.2.1,(x.2.2.2.2.1,(y7.1,(([]:List wQ),())))))))))))
 (ah (aj (cc y2.2.1 ([]:List (UInt8)))
 (some (((0:Int),()),(([]:List wQ),(y8.2.1,(y8.2.2.1,(y2.2.1,()))))))
 none) (fun(y9:(Int×Unit)×(List wQ)×Sb×cz×Sb×Unit)=>aj (nt (bI y9.1.1 (0:Int)))
 (some ((y9.1.1,()),(((),((),((),((),((),((),((),()))))))),(x.2.2.1,(y9.2.2.2.2.1,(x.2.1,(y9.2.2.2.1,(y9.2.2.1,(x.2.2.2.2.1,(y7.1,(y9.2.1,())))))))))))
 (some (((0:Int),()),(((),((),((),((),((),((),((),()))))))),(x.2.2.1,(y9.2.2.2.2.1,(x.2.1,(y9.2.2.2.1,(y9.2.2.1,(x.2.2.2.2.1,(y7.1,(y9.2.1,()))))))))))))))))))))))))))) (fun(y1:(Int×Unit)×(Unit×Unit×Unit×Unit×Unit×Unit×Unit×Unit)×(List Sb)×Sb×Sb×cz×Sb×Int×Sb×(List wQ)×Unit)=>aj (nt (bI y1.1.1 (0:Int)))
 (ah (DJ (y1.1.1,())) (fun(y2:lJ×Unit)=>some (y1.2.2.2.2.2.1,(y2.1,()))))
 (ah (aj (cc y1.2.2.2.1 ([]:List (UInt8)))
 (ah (uV ()) (fun(y2:Sb×Unit)=>some ((),(y2.1,()))))
 (some ((),(y1.2.2.2.1,())))) (fun(y2:Unit×Sb×Unit)=>aj (fits (plus (@len Sb ([]:List Sb)) (@len Sb y1.2.2.1)))
 (ah (yN (y2.2.1,())) (fun(y3:Sb×Unit)=>ah (sX (y1.2.2.2.2.2.1,((y1.2.2.2.2.2.2.2.2.1,(y1.2.2.2.2.2.2.1,(@app Sb ([]:List Sb) y1.2.2.1,(y3.1,(@len UInt8 y2.2.1,((0:Int),(true,()))))))),(y2.2.1,())))) (fun(y4:cz×Unit)=>some (y4.1,(((0:Int),(y1.2.2.2.2.2.2.2.2.1,((0:Int),(([]:List (UInt8)),())))),())))))
 none)))
def ue(x:(List bH)×Unit):Option ((List bH)×Unit) :=
 bif fits (len x.1) then some (x.1,()) else none
def sY(x:cz×bH×Unit)(y1:cu×Sb×Unit):Option (eW⊕eV) :=
 aj (bB y1.1.2.1 (@len bH x.1.1))
 (aj (within y1.1.2.1 (@len bH x.1.1))
 (ah (@idx bH x.1.1 y1.1.2.1) (fun(y2:Sb×(List Sb)×Sb×Sb×Sb×(List nF)×Unit)=>aj (cc y2.1 y1.2.1)
 (some (Sum.inr ((1:Nat),((y1.1.2.1,(y1.1.2.1,())),(y1.2.1,()))):(eW)⊕(eV)))
 (some (Sum.inl ((y1.1.1,(aL IntKind.i64 y1.1.2.1 (1:Int),())),(y1.2.1,())):(eW)⊕(eV)))))
 none)
 (some (Sum.inr ((0:Nat),((y1.1.1,(y1.1.2.1,())),(y1.2.1,()))):(eW)⊕(eV)))
def sZ(x:cz×bH×Unit)(y4:cu×bH×Unit):Option ((cu×bH×Unit)⊕(Nat×cu×bH×Unit)) :=
 aj (bB y4.1.2.1 (@len bH x.1.1))
 (aj (within y4.1.2.1 (@len bH x.1.1))
 (ah (@idx bH x.1.1 y4.1.2.1) (fun(y5:Sb×(List Sb)×Sb×Sb×Sb×(List nF)×Unit)=>aj (nt (jy y5.1 y4.2.1.1))
 (some (Sum.inr ((1:Nat),((y4.1.2.1,(y4.1.2.1,())),(y4.2.1,()))):((cu×bH×Unit))⊕((Nat×cu×bH×Unit))))
 (some (Sum.inl ((y4.1.1,(aL IntKind.i64 y4.1.2.1 (1:Int),())),(y4.2.1,())):((cu×bH×Unit))⊕((Nat×cu×bH×Unit))))))
 none)
 (some (Sum.inr ((0:Nat),((y4.1.1,(y4.1.2.1,())),(y4.2.1,()))):((cu×bH×Unit))⊕((Nat×cu×bH×Unit))))
def Oz(y2:(Unit×Unit)×(List bH)×Unit)(y5:cu×bH×Unit):Option ((cu×bH×Unit)⊕(Nat×cu×bH×Unit)) :=
 aj (bB y5.1.2.1 (@len bH y2.2.1))
 (aj (within y5.1.2.1 (@len bH y2.2.1))
 (ah (@idx bH y2.2.1 y5.1.2.1) (fun(y6:Sb×(List Sb)×Sb×Sb×Sb×(List nF)×Unit)=>aj (nt (jy y6.1 y5.2.1.1))
 (some (Sum.inr ((1:Nat),((y5.1.2.1,(y5.1.2.1,())),(y5.2.1,()))):((cu×bH×Unit))⊕((Nat×cu×bH×Unit))))
 (some (Sum.inl ((y5.1.1,(aL IntKind.i64 y5.1.2.1 (1:Int),())),(y5.2.1,())):((cu×bH×Unit))⊕((Nat×cu×bH×Unit))))))
 none)
 (some (Sum.inr ((0:Nat),((y5.1.1,(y5.1.2.1,())),(y5.2.1,()))):((cu×bH×Unit))⊕((Nat×cu×bH×Unit))))
def zh(x:cz×bH×Unit):Option (cz×Unit) :=
 aj (fits (@len bH x.1.1))
 (ah (Loop (sY x) (((0:Int),((0:Int),())),(x.2.1.1,()))) (fun(y1:Nat×cu×Sb×Unit)=>aj (fT y1.1 (0:Nat))
 (ah (bz (x.2.1.2.1,())) (fun(y2:(List Sb)×Unit)=>ah (b7 (x.2.1.2.2.2.2.2.1,())) (fun(y3:(List nF)×Unit)=>ah (Loop (sZ x) (((0:Int),((0:Int),())),((x.2.1.1,(y2.1,(x.2.1.2.2.1,(x.2.1.2.2.2.1,(x.2.1.2.2.2.2.1,(y3.1,x.2.1.2.2.2.2.2.2)))))),()))) (fun(y4:Nat×cu×bH×Unit)=>aj (fT y4.1 (0:Nat))
 (ah (b9 x.1.1 ((((@len bH x.1.1,()),()).1).1,(([y4.2.2.1]:List bH),()))) (fun(y5:List bH)=>some ((y5,(x.1.2.1,(x.1.2.2.1,(x.1.2.2.2.1,(x.1.2.2.2.2.1,x.1.2.2.2.2.2))))),())))
 (ah (b9 x.1.1 (((aj (bB y4.2.1.1 (0:Int))
 ((@len bH x.1.1,()),())
 ((y4.2.1.1,()),())).1).1,(([y4.2.2.1]:List bH),()))) (fun(y5:List bH)=>some ((y5,(x.1.2.1,(x.1.2.2.1,(x.1.2.2.2.1,(x.1.2.2.2.2.1,x.1.2.2.2.2.2))))),())))))))
 (ah (aj (cX (0:Int) y1.2.1.1)
 (ah (cV x.1.1 (y1.2.1.1,(aL IntKind.i64 y1.2.1.1 (1:Int),()))) (fun(y2:List bH)=>some (((),()),(y2,()))))
 (some (((),()),(x.1.1,())))) (fun(y2:(Unit×Unit)×(List bH)×Unit)=>ah (bz (x.2.1.2.1,())) (fun(y3:(List Sb)×Unit)=>ah (b7 (x.2.1.2.2.2.2.2.1,())) (fun(y4:(List nF)×Unit)=>ah (Loop (Oz y2) (((0:Int),((0:Int),())),((x.2.1.1,(y3.1,(x.2.1.2.2.1,(x.2.1.2.2.2.1,(x.2.1.2.2.2.2.1,(y4.1,x.2.1.2.2.2.2.2.2)))))),()))) (fun(y5:Nat×cu×bH×Unit)=>aj (fT y5.1 (0:Nat))
 (ah (b9 y2.2.1 ((((@len bH y2.2.1,()),()).1).1,(([y5.2.2.1]:List bH),()))) (fun(y6:List bH)=>some ((y6,(x.1.2.1,(x.1.2.2.1,(x.1.2.2.2.1,(x.1.2.2.2.2.1,x.1.2.2.2.2.2))))),())))
 (ah (b9 y2.2.1 (((aj (bB y5.2.1.1 (0:Int))
 ((@len bH y2.2.1,()),())
 ((y5.2.1.1,()),())).1).1,(([y5.2.2.1]:List bH),()))) (fun(y6:List bH)=>some ((y6,(x.1.2.1,(x.1.2.2.1,(x.1.2.2.2.1,(x.1.2.2.2.2.1,x.1.2.2.2.2.2))))),()))))))))))
 none
def gL(x:cz×Sb×(List Sb)×Sb×Int×Unit):Option (cz×lJ×Unit) :=
 ah (mY (x.2.2.1,())) (fun(y1:Int×Unit)=>aj (aj (nt (nt (bI y1.1 (0:Int))))
 (bB (64:Int) (@len UInt8 x.2.2.2.1))
 true)
 (ah (kG ((1:Int),())) (fun(y2:lJ×Unit)=>some (x.1,(y2.1,()))))
 (ah (aj (nt (cc x.2.1 ([]:List (UInt8))))
 (ah (nh (x.1,(x.2.1,()))) (fun(y2:Sb×Int×Unit)=>some ((y2.2.1,()),((([]:List (UInt8)),(x.2.2.1,(y2.1,(([]:List (UInt8)),(x.2.2.2.1,(([]:List nF),())))))),()))))
 (some (((0:Int),()),((([]:List (UInt8)),(x.2.2.1,(([]:List (UInt8)),(([]:List (UInt8)),(x.2.2.2.1,(([]:List nF),())))))),())))) (fun(y2:(Int×Unit)×bH×Unit)=>ah (aj (bI y2.1.1 (0:Int))
 (ah (nk (x.1,())) (fun(y3:BM×Unit)=>ah (sE (y3.1,(([]:List (UInt8)),(x.2.2.1,())))) (fun(y4:Int×Unit)=>some ((y4.1,()),()))))
 (some ((y2.1.1,()),()))) (fun(y3:(Int×Unit)×Unit)=>ah (aj (bI y3.1.1 (0:Int))
 (ah (nk (x.1,())) (fun(y4:BM×Unit)=>ah (oK (y4.1,(jA IntKind.i64 x.2.2.2.2.1 (16777215:Int),()))) (fun(y5:Sb×Int×Unit)=>some ((y5.2.1,()),((y5.1,y2.2.1.2),())))))
 (some ((y3.1.1,()),(y2.2.1,())))) (fun(y4:(Int×Unit)×bH×Unit)=>aj (nt (bI y4.1.1 (0:Int)))
 (ah (kG (y4.1.1,())) (fun(y5:lJ×Unit)=>some (x.1,(y5.1,()))))
 (ah (wI (x.1,(y4.2.1.2.2.1,()))) (fun(y5:EF×Bool×Unit)=>ah (qR (x.1,((((((aj (cc x.2.1 ([]:List (UInt8)))
 ((),((([]:List (UInt8)),(([]:List Sb),(([]:List (UInt8)),(([]:List (UInt8)),(([]:List nF),()))))),()))
 ((),(y5.1,()))).2).1).2).2).1,(([]:List Sb),(([]:List (UInt8)),(jA IntKind.i64 (rU IntKind.i64 x.2.2.2.2.1 (24:Int)) (16777215:Int),())))))) (fun(y6:cz×lJ×Unit)=>aj (nt (bI y6.2.1.1 (0:Int)))
 (ah (kG (y6.2.1.1,())) (fun(y7:lJ×Unit)=>some (x.1,(y7.1,()))))
 (ah (zh (y6.1,((y4.2.1.1,(y4.2.1.2.1,(y4.2.1.2.2.1,(y6.2.1.2.1,y4.2.1.2.2.2.2)))),()))) (fun(y7:cz×Unit)=>some (y7.1,(((0:Int),(y4.2.1.1,((0:Int),(y6.2.1.2.1,())))),()))))))))))))
def s7(x:cz×Sb×Unit):Option bh :=
 ah (nk (x.1,())) (fun(y1:BM×Unit)=>ah (nc (y1.1,(x.2.1,()))) (fun(y2:Sb×Int×Unit)=>some (y2.1,(y2.2.1,()))))
def tc(x:cz×Sb×Unit)(y1:cu×Sb×Unit):Option (eW⊕eV) :=
 aj (bB y1.1.2.1 (@len bH x.1.1))
 (ah (@idx bH x.1.1 y1.1.2.1) (fun(y2:Sb×(List Sb)×Sb×Sb×Sb×(List nF)×Unit)=>aj (cc y2.1 y1.2.1)
 (some (Sum.inr ((1:Nat),((y1.1.2.1,(y1.1.2.1,())),(y1.2.1,()))):(eW)⊕(eV)))
 (some (Sum.inl ((y1.1.1,(aL IntKind.i64 y1.1.2.1 (1:Int),())),(y1.2.1,())):(eW)⊕(eV)))))
 (some (Sum.inr ((0:Nat),((y1.1.1,(y1.1.2.1,())),(y1.2.1,()))):(eW)⊕(eV)))
def oS(x:cz×Sb×Unit):Option (bH×Bool×Unit) :=
 ah (Loop (tc x) (((0:Int),((0:Int),())),(x.2.1,()))) (fun(y1:Nat×cu×Sb×Unit)=>aj (fT y1.1 (0:Nat))
 (some ((([]:List (UInt8)),(([]:List Sb),(([]:List (UInt8)),(([]:List (UInt8)),(([]:List (UInt8)),(([]:List nF),())))))),(false,())))
 (aj (bB y1.2.1.1 (0:Int))
 (some ((([]:List (UInt8)),(([]:List Sb),(([]:List (UInt8)),(([]:List (UInt8)),(([]:List (UInt8)),(([]:List nF),())))))),(false,())))
 (ah (@idx bH x.1.1 y1.2.1.1) (fun(y2:Sb×(List Sb)×Sb×Sb×Sb×(List nF)×Unit)=>ah (bz (y2.2.1,())) (fun(y3:(List Sb)×Unit)=>ah (b7 (y2.2.2.2.2.2.1,())) (fun(y4:(List nF)×Unit)=>some ((y2.1,(y3.1,(y2.2.2.1,(y2.2.2.2.1,(y2.2.2.2.2.1,(y4.1,y2.2.2.2.2.2.2)))))),(true,()))))))))
def vS(x:bh×Unit):Option (Sb×Unit) :=
 some (x.1.1,())
def nQ(x:cz×Sb×Unit)(y1:cu×Unit×Sb×Unit):Option (zg⊕zf) :=
 aj (bB y1.1.2.1 (@len bh x.1.2.2.2.2.1))
 (ah (@idx bh x.1.2.2.2.2.1 y1.1.2.1) (fun(y2:Sb×Int×Unit)=>ah (vS (y2,())) (fun(y3:Sb×Unit)=>aj (cc y3.1 y1.2.2.1)
 (some (Sum.inr ((1:Nat),((y1.1.2.1,(y1.1.2.1,())),((),(y1.2.2.1,())))):(zg)⊕(zf)))
 (some (Sum.inl ((y1.1.1,(aL IntKind.i64 y1.1.2.1 (1:Int),())),((),(y1.2.2.1,()))):(zg)⊕(zf))))))
 (some (Sum.inr ((0:Nat),((y1.1.1,(y1.1.2.1,())),((),(y1.2.2.1,())))):(zg)⊕(zf)))
def oT(x:cz×Sb×Unit):Option (Int×Unit) :=
 ah (Loop (nQ x) (((0:Int),((0:Int),())),((),(x.2.1,())))) (fun(y1:Nat×cu×Unit×Sb×Unit)=>aj (fT y1.1 (0:Nat))
 (some ((0:Int),()))
 (aj (bB y1.2.1.1 (0:Int))
 (some ((0:Int),()))
 (ah (@idx bh x.1.2.2.2.2.1 y1.2.1.1) (fun(y2:Sb×Int×Unit)=>some (y2.2.1,())))))
def qS(x:cz×Sb×Unit)(y1:cu×Sb×Unit):Option (eW⊕eV) :=
 aj (bB y1.1.2.1 (@len aZ x.1.2.2.1))
 (ah (@idx aZ x.1.2.2.1 y1.1.2.1) (fun(y2:Sb×Sb×(List Sb)×Sb×Int×Int×Bool×Unit)=>aj (cc y2.2.1 y1.2.1)
 (some (Sum.inr ((1:Nat),((y1.1.2.1,(y1.1.2.1,())),(y1.2.1,()))):(eW)⊕(eV)))
 (some (Sum.inl ((y1.1.1,(aL IntKind.i64 y1.1.2.1 (1:Int),())),(y1.2.1,())):(eW)⊕(eV)))))
 (some (Sum.inr ((0:Nat),((y1.1.1,(y1.1.2.1,())),(y1.2.1,()))):(eW)⊕(eV)))
def vT(x:cz×Sb×Unit)(y2:cu×Sb×Unit):Option (eW⊕eV) :=
 aj (bB y2.1.2.1 (@len EF x.1.2.1))
 (ah (@idx EF x.1.2.1 y2.1.2.1) (fun(y3:Sb×(List Sb)×Sb×Sb×(List nF)×Unit)=>aj (cc y3.2.2.1 y2.2.1)
 (some (Sum.inr ((1:Nat),((y2.1.2.1,(y2.1.2.1,())),(y2.2.1,()))):(eW)⊕(eV)))
 (some (Sum.inl ((y2.1.1,(aL IntKind.i64 y2.1.2.1 (1:Int),())),(y2.2.1,())):(eW)⊕(eV)))))
 (some (Sum.inr ((0:Nat),((y2.1.1,(y2.1.2.1,())),(y2.2.1,()))):(eW)⊕(eV)))
def Cl(x:cz×Sb×Unit)(y3:cu×Sb×Unit):Option (eW⊕eV) :=
 aj (bB y3.1.2.1 (@len bH x.1.1))
 (ah (@idx bH x.1.1 y3.1.2.1) (fun(y4:Sb×(List Sb)×Sb×Sb×Sb×(List nF)×Unit)=>aj (cc y4.2.2.2.1 y3.2.1)
 (some (Sum.inr ((1:Nat),((y3.1.2.1,(y3.1.2.1,())),(y3.2.1,()))):(eW)⊕(eV)))
 (some (Sum.inl ((y3.1.1,(aL IntKind.i64 y3.1.2.1 (1:Int),())),(y3.2.1,())):(eW)⊕(eV)))))
 (some (Sum.inr ((0:Nat),((y3.1.1,(y3.1.2.1,())),(y3.2.1,()))):(eW)⊕(eV)))
def LH(x:cz×Sb×Unit)(y3:cu×Sb×Unit):Option (eW⊕eV) :=
 aj (bB y3.1.2.1 (@len bH x.1.1))
 (ah (@idx bH x.1.1 y3.1.2.1) (fun(y4:Sb×(List Sb)×Sb×Sb×Sb×(List nF)×Unit)=>aj (cc y4.2.2.2.1 y3.2.1)
 (some (Sum.inr ((1:Nat),((y3.1.2.1,(y3.1.2.1,())),(y3.2.1,()))):(eW)⊕(eV)))
 (some (Sum.inl ((y3.1.1,(aL IntKind.i64 y3.1.2.1 (1:Int),())),(y3.2.1,())):(eW)⊕(eV)))))
 (some (Sum.inr ((0:Nat),((y3.1.1,(y3.1.2.1,())),(y3.2.1,()))):(eW)⊕(eV)))
def td(x:cz×Sb×Unit):Option (Bool×Unit) :=
 ah (ah (Loop (qS x) (((0:Int),((0:Int),())),(x.2.1,()))) (fun(y1:Nat×cu×Sb×Unit)=>aj (fT y1.1 (0:Nat))
 (some (((-1:Int),()),(y1.2.2.1,())))
 (some ((y1.2.1.1,()),(y1.2.2.1,()))))) (fun(y1:(Int×Unit)×Sb×Unit)=>ah (Loop (vT x) (((0:Int),((0:Int),())),(y1.2.1,()))) (fun(y2:Nat×cu×Sb×Unit)=>aj (fT y2.1 (0:Nat))
 (aj (nt (aj (nt (cX (0:Int) y1.1.1))
 false
 true))
 (ah (Loop (Cl x) (((0:Int),((0:Int),())),(y2.2.2.1,()))) (fun(y3:Nat×cu×Sb×Unit)=>aj (fT y3.1 (0:Nat))
 (some (false,()))
 (some (cX (0:Int) y3.2.1.1,()))))
 (some (true,())))
 (aj (nt (aj (nt (cX (0:Int) y1.1.1))
 (cX (0:Int) y2.2.1.1)
 true))
 (ah (Loop (LH x) (((0:Int),((0:Int),())),(y2.2.2.1,()))) (fun(y3:Nat×cu×Sb×Unit)=>aj (fT y3.1 (0:Nat))
 (some (false,()))
 (some (cX (0:Int) y3.2.1.1,()))))
 (some (true,())))))
def vU(x:aZ×Unit):Option (Sb×Unit) :=
 some (x.1.1,())
def mw(x:(List Sb)×Int×Unit):Option ((List Sb)×Unit) :=
 aj (bB x.2.1 (0:Int))
 (some (x.1,()))
 (aj (fits (@len Sb x.1))
 (ah (eN x.1 (x.2.1,(aL IntKind.i64 x.2.1 (1:Int),()))) (fun(y1:List Sb)=>some (y1,())))
 none)
def jF(x:(List aZ)×Int×Unit):Option ((List aZ)×Unit) :=
 aj (bB x.2.1 (0:Int))
 (some (x.1,()))
 (aj (fits (@len aZ x.1))
 (ah (dw x.1 (x.2.1,(aL IntKind.i64 x.2.1 (1:Int),()))) (fun(y1:List aZ)=>some (y1,())))
 none)
def ry(x:(List bh)×Unit):Option ((List bh)×Unit) :=
 bif fits (len x.1) then some (x.1,()) else none
def BN(x:(List bh)×Int×bh×Unit):Option ((List bh)×Unit) :=
 aj (fits (@len bh x.1))
 (ah (eX x.1 (x.2.1,(([x.2.2.1]:List bh),()))) (fun(y1:List bh)=>some (y1,())))
 none
def mz(x:cz×Sb×Unit)(y1:cu×Unit×Sb×Unit):Option (zg⊕zf) :=
 aj (bB y1.1.2.1 (@len aZ x.1.2.2.1))
 (ah (@idx aZ x.1.2.2.1 y1.1.2.1) (fun(y2:Sb×Sb×(List Sb)×Sb×Int×Int×Bool×Unit)=>ah (vU (y2,())) (fun(y3:Sb×Unit)=>aj (cc y3.1 y1.2.2.1)
 (some (Sum.inr ((1:Nat),((y1.1.2.1,(y1.1.2.1,())),((),(y1.2.2.1,())))):(zg)⊕(zf)))
 (some (Sum.inl ((y1.1.1,(aL IntKind.i64 y1.1.2.1 (1:Int),())),((),(y1.2.2.1,()))):(zg)⊕(zf))))))
 (some (Sum.inr ((0:Nat),((y1.1.1,(y1.1.2.1,())),((),(y1.2.2.1,())))):(zg)⊕(zf)))
def mA(x:cz×Sb×Unit)(y5:cu×Sb×Unit):Option (eW⊕eV) :=
 aj (bB y5.1.2.1 (@len bh x.1.2.2.2.2.1))
 (aj (within y5.1.2.1 (@len bh x.1.2.2.2.2.1))
 (ah (@idx bh x.1.2.2.2.2.1 y5.1.2.1) (fun(y6:Sb×Int×Unit)=>aj (cc y6.1 y5.2.1)
 (some (Sum.inr ((1:Nat),((y5.1.2.1,(y5.1.2.1,())),(y5.2.1,()))):(eW)⊕(eV)))
 (some (Sum.inl ((y5.1.1,(aL IntKind.i64 y5.1.2.1 (1:Int),())),(y5.2.1,())):(eW)⊕(eV)))))
 none)
 (some (Sum.inr ((0:Nat),((y5.1.1,(y5.1.2.1,())),(y5.2.1,()))):(eW)⊕(eV)))
def Gu(y6:(Int×Int×Unit×Unit)×Sb×(List bh)×Unit):Option (Ib⊕Ib) :=
 @eP Ib (aj (bB y6.1.2.1 (@len bh y6.2.2.1))
 (aj (within y6.1.2.1 (@len bh y6.2.2.1))
 (ah (@idx bh y6.2.2.1 y6.1.2.1) (fun(y7:Sb×Int×Unit)=>ah (aj (nt (cc y7.1 y6.2.1))
 (aj (within y6.1.1 (@len bh y6.2.2.1))
 (ah (@idx bh y6.2.2.1 y6.1.1) (fun(y8:Sb×Int×Unit)=>ah (@idx bh y6.2.2.1 y6.1.1) (fun(y9:Sb×Int×Unit)=>ah (@idx bh y6.2.2.1 y6.1.1) (fun(Ai:Sb×Int×Unit)=>some ((aL IntKind.i64 y6.1.1 (1:Int),((),())),(@vL bh y6.2.2.1 y6.1.1 y7,()))))))
 none)
 (some ((y6.1.1,((),())),(y6.2.2.1,())))) (fun(y8:(Int×Unit×Unit)×(List bh)×Unit)=>some (Sum.inl ((y8.1.1,(aL IntKind.i64 y6.1.2.1 (1:Int),((),()))),(y6.2.1,(y8.2.1,()))):(Ib)⊕((Nat×(Int×Int×Unit×Unit)×Sb×(List bh)×Unit))))))
 none)
 (some (Sum.inr ((0:Nat),((y6.1.1,(y6.1.2.1,((),()))),(y6.2.1,(y6.2.2.1,())))):(Ib)⊕((Nat×(Int×Int×Unit×Unit)×Sb×(List bh)×Unit)))))
def jL(x:cz×Sb×Unit):Option (cz×Unit) :=
 ah (ah (Loop (mz x) (((0:Int),((0:Int),())),((),(x.2.1,())))) (fun(y1:Nat×cu×Unit×Sb×Unit)=>aj (fT y1.1 (0:Nat))
 (some (((-1:Int),()),((),(y1.2.2.2.1,()))))
 (some ((y1.2.1.1,()),((),(y1.2.2.2.1,())))))) (fun(y1:(Int×Unit)×Unit×Sb×Unit)=>ah (qu (x.1,())) (fun(y2:(List Sb)×Unit)=>ah (mw (y2.1,(y1.1.1,()))) (fun(y3:(List Sb)×Unit)=>ah (jF (x.1.2.2.1,(y1.1.1,()))) (fun(y4:(List aZ)×Unit)=>aj (fits (@len bh x.1.2.2.2.2.1))
 (ah (Loop (mA x) (((0:Int),((0:Int),())),(x.2.1,()))) (fun(y5:Nat×cu×Sb×Unit)=>aj (fT y5.1 (0:Nat))
 (some ((x.1.1,(x.1.2.1,(y4.1,(y3.1,(x.1.2.2.2.2.1,x.1.2.2.2.2.2))))),()))
 (aj (bI y5.2.1.1 (-1:Int))
 (some ((x.1.1,(x.1.2.1,(y4.1,(y3.1,(x.1.2.2.2.2.1,x.1.2.2.2.2.2))))),()))
 (ah (Loop (Gu) ((y5.2.1.1,(aL IntKind.i64 y5.2.1.1 (1:Int),((),()))),(y5.2.2.1,(x.1.2.2.2.2.1,())))) (fun(y6:(Int×Int×Unit×Unit)×Sb×(List bh)×Unit)=>aj (inside y6.1.1 (@len bh y6.2.2.1) (@len bh y6.2.2.1))
 (aj (inside (0:Int) y6.1.1 (@len bh (@over bh y6.2.2.1 y6.1.1 (@CI bh (minus (@len bh y6.2.2.1) y6.1.1) (([]:List (UInt8)),((0:Int),()))))))
 none
 none)
 none)))))
 none))))
def nR(x:cz×Sb×Unit)(y3:cu×Sb×Unit):Option (eW⊕eV) :=
 aj (bB y3.1.2.1 (@len bH x.1.1))
 (aj (within y3.1.2.1 (@len bH x.1.1))
 (ah (@idx bH x.1.1 y3.1.2.1) (fun(y4:Sb×(List Sb)×Sb×Sb×Sb×(List nF)×Unit)=>aj (cc y4.1 y3.2.1)
 (some (Sum.inr ((1:Nat),((y3.1.2.1,(y3.1.2.1,())),(y3.2.1,()))):(eW)⊕(eV)))
 (some (Sum.inl ((y3.1.1,(aL IntKind.i64 y3.1.2.1 (1:Int),())),(y3.2.1,())):(eW)⊕(eV)))))
 none)
 (some (Sum.inr ((0:Nat),((y3.1.1,(y3.1.2.1,())),(y3.2.1,()))):(eW)⊕(eV)))
def fR(x:cz×Sb×Unit):Option (cz×lJ×Unit) :=
 ah (s7 (x.1,(x.2.1,()))) (fun(y1:Sb×Int×Unit)=>aj (nt (bI y1.2.1 (0:Int)))
 (ah (kG (y1.2.1,())) (fun(y2:lJ×Unit)=>some (x.1,(y2.1,()))))
 (ah (oS (x.1,(y1.1,()))) (fun(y2:bH×Bool×Unit)=>aj (fits (@len bH x.1.1))
 (ah (Loop (nR x) (((0:Int),((0:Int),())),(y1.1,()))) (fun(y3:Nat×cu×Sb×Unit)=>aj (fT y3.1 (0:Nat))
 (ah (oT (x.1,(y2.1.2.2.2.1,()))) (fun(y4:Int×Unit)=>ah (aj (nt (bB (0:Int) y4.1))
 (ah (td ((x.1.1,(x.1.2.1,(x.1.2.2.1,(x.1.2.2.2.1,(x.1.2.2.2.2.1,x.1.2.2.2.2.2))))),(y2.1.2.2.2.1,()))) (fun(y5:Bool×Unit)=>some y5.1))
 (some true)) (fun(y5:Bool)=>aj y5
 (ah (kG ((7:Int),())) (fun(y6:lJ×Unit)=>some (x.1,(y6.1,()))))
 (ah (jL ((x.1.1,(x.1.2.1,(x.1.2.2.1,(x.1.2.2.2.1,(x.1.2.2.2.2.1,x.1.2.2.2.2.2))))),(y2.1.2.2.2.1,()))) (fun(y6:cz×Unit)=>some (y6.1,(((0:Int),(y1.1,((0:Int),(([]:List (UInt8)),())))),())))))))
 (ah (aj (cX (0:Int) y3.2.1.1)
 (ah (cV x.1.1 (y3.2.1.1,(aL IntKind.i64 y3.2.1.1 (1:Int),()))) (fun(y4:List bH)=>some (((),()),(y4,()))))
 (some (((),()),(x.1.1,())))) (fun(y4:(Unit×Unit)×(List bH)×Unit)=>ah (oT (x.1,(y2.1.2.2.2.1,()))) (fun(y5:Int×Unit)=>ah (aj (nt (bB (0:Int) y5.1))
 (ah (td ((y4.2.1,(x.1.2.1,(x.1.2.2.1,(x.1.2.2.2.1,(x.1.2.2.2.2.1,x.1.2.2.2.2.2))))),(y2.1.2.2.2.1,()))) (fun(y6:Bool×Unit)=>some y6.1))
 (some true)) (fun(y6:Bool)=>aj y6
 (ah (kG ((7:Int),())) (fun(y7:lJ×Unit)=>some (x.1,(y7.1,()))))
 (ah (jL ((y4.2.1,(x.1.2.1,(x.1.2.2.1,(x.1.2.2.2.1,(x.1.2.2.2.2.1,x.1.2.2.2.2.2))))),(y2.1.2.2.2.1,()))) (fun(y7:cz×Unit)=>some (y7.1,(((0:Int),(y1.1,((0:Int),(([]:List (UInt8)),())))),()))))))))))
 none)))
def JP(x:cz×Sb×Int×Unit)(y1:(Unit×Int×Unit)×(List bh)×Unit):Option (((Unit×Int×Unit)×(List bh)×Unit)⊕((Unit×Int×Unit)×(List bh)×Unit)) :=
 @eP ((Unit×Int×Unit)×(List bh)×Unit) (aj (bB y1.1.2.1 (@len bh x.1.2.2.2.2.1))
 (ah (@idx bh x.1.2.2.2.2.1 y1.1.2.1) (fun(y2:Sb×Int×Unit)=>ah (aj (nt (cc y2.1 x.2.1))
 (ah (@idx bh x.1.2.2.2.2.1 y1.1.2.1) (fun(y3:Sb×Int×Unit)=>aj (fits (plus (@len bh y1.2.1) (@len bh ([y3]:List bh))))
 (some (((),()),(@app bh y1.2.1 ([y3]:List bh),())))
 none))
 (some (((),()),(y1.2.1,())))) (fun(y3:(Unit×Unit)×(List bh)×Unit)=>some (Sum.inl (((),(aL IntKind.i64 y1.1.2.1 (1:Int),())),(y3.2.1,())):(((Unit×Int×Unit)×(List bh)×Unit))⊕((Nat×(Unit×Int×Unit)×(List bh)×Unit))))))
 (some (Sum.inr ((0:Nat),(((),(y1.1.2.1,())),(y1.2.1,()))):(((Unit×Int×Unit)×(List bh)×Unit))⊕((Nat×(Unit×Int×Unit)×(List bh)×Unit)))))
def JQ(x:cz×Sb×Int×Unit)(y1:(Unit×Int×Unit)×(List bh)×Unit)(y2:(Int×Unit)×Unit):Option (((Int×Unit)×Unit)⊕((Int×Unit)×Unit)) :=
 @eP ((Int×Unit)×Unit) (ah (aj (bB y2.1.1 (@len bh y1.2.1))
 (aj (within y2.1.1 (@len bh y1.2.1))
 (ah (@idx bh y1.2.1 y2.1.1) (fun(y3:Sb×Int×Unit)=>some (jy y3.1 x.2.1)))
 none)
 (some false)) (fun(y3:Bool)=>aj y3
 (some (Sum.inl ((aL IntKind.i64 y2.1.1 (1:Int),()),()):(((Int×Unit)×Unit))⊕((Nat×(Int×Unit)×Unit))))
 (some (Sum.inr ((0:Nat),((y2.1.1,()),())):(((Int×Unit)×Unit))⊕((Nat×(Int×Unit)×Unit))))))
def uW(x:cz×Sb×Int×Unit):Option (cz×Unit) :=
 ah (Loop (JP x) (((),((0:Int),())),(([]:List bh),()))) (fun(y1:(Unit×Int×Unit)×(List bh)×Unit)=>aj (cX x.2.2.1 (0:Int))
 (some ((x.1.1,(x.1.2.1,(x.1.2.2.1,(x.1.2.2.2.1,(y1.2.1,x.1.2.2.2.2.2))))),()))
 (ah (Loop (JQ x y1) (((0:Int),()),())) (fun(y2:(Int×Unit)×Unit)=>aj (inside (0:Int) y2.1.1 (@len bh y1.2.1))
 (aj (fits (plus (@len bh ([]:List bh)) (@len bh (@sub bh y1.2.1 (0:Int) (minus y2.1.1 (0:Int))))))
 (aj (fits (plus (@len bh (@app bh ([]:List bh) (@sub bh y1.2.1 (0:Int) (minus y2.1.1 (0:Int))))) (@len bh ([(x.2.1,(x.2.2.1,()))]:List bh))))
 (aj (inside y2.1.1 (@len bh y1.2.1) (@len bh y1.2.1))
 (aj (fits (plus (@len bh (@app bh (@app bh ([]:List bh) (@sub bh y1.2.1 (0:Int) (minus y2.1.1 (0:Int)))) ([(x.2.1,(x.2.2.1,()))]:List bh))) (@len bh (@sub bh y1.2.1 y2.1.1 (minus (@len bh y1.2.1) y2.1.1)))))
 (some ((x.1.1,(x.1.2.1,(x.1.2.2.1,(x.1.2.2.2.1,(@app bh (@app bh (@app bh ([]:List bh) (@sub bh y1.2.1 (0:Int) (minus y2.1.1 (0:Int)))) ([(x.2.1,(x.2.2.1,()))]:List bh)) (@sub bh y1.2.1 y2.1.1 (minus (@len bh y1.2.1) y2.1.1)),x.1.2.2.2.2.2))))),()))
 none)
 none)
 none)
 none)
 none)))
def kH(x:Unit):Option (Bool×Unit) :=
 ah (gL ((([]:List bH),(([]:List EF),(([]:List aZ),(([]:List Sb),(([]:List bh),()))))),(([]:List (UInt8)),(([([(99:UInt8)]:List (UInt8))]:List Sb),(([(109:UInt8)]:List (UInt8)),((150994949:Int),())))))) (fun(y1:cz×lJ×Unit)=>ah (gL (y1.1,(([(120:UInt8)]:List (UInt8)),(([]:List Sb),(([]:List (UInt8)),((5:Int),())))))) (fun(y2:cz×lJ×Unit)=>ah (uW (y1.1,(([(48:UInt8),(48:UInt8),(48:UInt8),(48:UInt8),(48:UInt8),(57:UInt8)]:List (UInt8)),((1:Int),())))) (fun(y3:cz×Unit)=>ah (fR (y3.1,(([(99:UInt8)]:List (UInt8)),()))) (fun(y4:cz×lJ×Unit)=>ah (fR (y1.1,(([(99:UInt8)]:List (UInt8)),()))) (fun(y5:cz×lJ×Unit)=>ah (oS (y1.1,(([(48:UInt8),(48:UInt8),(48:UInt8),(48:UInt8),(48:UInt8),(53:UInt8)]:List (UInt8)),()))) (fun(y6:bH×Bool×Unit)=>ah (aj (aj (aj (aj (aj (an (bI y1.2.1.1 (0:Int)) (an (cc y1.2.1.2.1 ([(48:UInt8),(48:UInt8),(48:UInt8),(48:UInt8),(48:UInt8),(53:UInt8)]:List (UInt8))) (an (bI y1.2.1.2.2.1 (0:Int)) (an (cc y1.2.1.2.2.2.1 ([(48:UInt8),(48:UInt8),(48:UInt8),(48:UInt8),(48:UInt8),(57:UInt8)]:List (UInt8))) true))))
 (bI y2.2.1.1 (3:Int))
 false)
 (bI y4.2.1.1 (7:Int))
 false)
 (bI (@len bH y4.1.1) (1:Int))
 false)
 (cc y5.2.1.2.1 ([(48:UInt8),(48:UInt8),(48:UInt8),(48:UInt8),(48:UInt8),(53:UInt8)]:List (UInt8)))
 false)
 (ah (fP (y5.1,((([]:List bH),(([]:List EF),(([]:List aZ),(([]:List Sb),(([]:List bh),()))))),()))) (fun(y7:Bool×Unit)=>some y7.1))
 (some false)) (fun(y7:Bool)=>ah (aj (aj (aj y7
 y6.2.1
 false)
 (cc y6.1.2.2.2.1 ([(48:UInt8),(48:UInt8),(48:UInt8),(48:UInt8),(48:UInt8),(57:UInt8)]:List (UInt8)))
 false)
 (ah (j7 (y1.1,())) (fun(y8:Bool×Unit)=>some y8.1))
 (some false)) (fun(y8:Bool)=>some (y8,())))))))))
def mB(x:cz×(List Sb)×Int×Unit):Option (Bool×Unit) :=
 ah (yY (x.1,())) (fun(y1:Bool×Unit)=>ah (aj (nt (nt y1.1))
 (aj (within (0:Int) (2:Int))
 (ah (@idx Sb x.2.1 (0:Int)) (fun(y2:List (UInt8))=>some (bB (100:Int) (@len UInt8 y2))))
 none)
 (some true)) (fun(y2:Bool)=>ah (aj (nt y2)
 (aj (within (1:Int) (2:Int))
 (ah (@idx Sb x.2.1 (1:Int)) (fun(y3:List (UInt8))=>some (bB (100:Int) (@len UInt8 y3))))
 none)
 (some true)) (fun(y3:Bool)=>ah (aj (nt y3)
 (ah (j7 (x.1,())) (fun(y4:Bool×Unit)=>some (nt y4.1)))
 (some true)) (fun(y4:Bool)=>aj y4
 (ah (kH ()) (fun(y5:Bool×Unit)=>some (y5.1,())))
 (aj (within (0:Int) (2:Int))
 (ah (@idx Sb x.2.1 (0:Int)) (fun(y5:List (UInt8))=>aj (within (1:Int) (2:Int))
 (ah (@idx Sb x.2.1 (1:Int)) (fun(y6:List (UInt8))=>ah (gL (x.1,(y5,(([([(102:UInt8),(114:UInt8),(101:UInt8),(115:UInt8),(104:UInt8),(45:UInt8),(110:UInt8),(97:UInt8),(109:UInt8),(101:UInt8)]:List (UInt8))]:List Sb),(y6,(x.2.2.1,())))))) (fun(y7:cz×lJ×Unit)=>aj (within (0:Int) (2:Int))
 (ah (@idx Sb x.2.1 (0:Int)) (fun(y8:List (UInt8))=>ah (fR (x.1,(y8,()))) (fun(y9:cz×lJ×Unit)=>ah (j7 (y7.1,())) (fun(Ai:Bool×Unit)=>ah (aj (nt (nt Ai.1))
 (ah (j7 (y9.1,())) (fun(qB:Bool×Unit)=>some (nt qB.1)))
 (some true)) (fun(qB:Bool)=>ah (aj (nt qB)
 (ah (aj (nt (bI y7.2.1.1 (0:Int)))
 (ah (fP (y7.1,(x.1,()))) (fun(iK:Bool×Unit)=>some (nt iK.1)))
 (some false)) (fun(iK:Bool)=>some iK))
 (some true)) (fun(iK:Bool)=>ah (aj (nt iK)
 (ah (aj (nt (bI y9.2.1.1 (0:Int)))
 (ah (fP (y9.1,(x.1,()))) (fun(gq:Bool×Unit)=>some (nt gq.1)))
 (some false)) (fun(gq:Bool)=>some gq))
 (some true)) (fun(gq:Bool)=>aj gq
 (some (false,()))
 (aj (nt (bI y7.2.1.1 (0:Int)))
 (ah (kH ()) (fun(Aj:Bool×Unit)=>some (Aj.1,())))
 (ah (s7 (y7.1,(([(102:UInt8),(114:UInt8),(101:UInt8),(115:UInt8),(104:UInt8),(45:UInt8),(110:UInt8),(97:UInt8),(109:UInt8),(101:UInt8)]:List (UInt8)),()))) (fun(Aj:Sb×Int×Unit)=>ah (oS (y7.1,(y7.2.1.2.1,()))) (fun(NK:bH×Bool×Unit)=>ah (fR (y7.1,(([(102:UInt8),(114:UInt8),(101:UInt8),(115:UInt8),(104:UInt8),(45:UInt8),(110:UInt8),(97:UInt8),(109:UInt8),(101:UInt8)]:List (UInt8)),()))) (fun(TK:cz×lJ×Unit)=>ah (aj (aj (aj (aj (aj (cc Aj.1 y7.2.1.2.1)
 (bI Aj.2.1 (0:Int))
 false)
 NK.2.1
 false)
 (cc NK.1.2.2.2.1 y7.2.1.2.2.2.1)
 false)
 (an (bI TK.2.1.1 (0:Int)) (an (cc TK.2.1.2.1 y7.2.1.2.1) (an (bI TK.2.1.2.2.1 (0:Int)) (an (cc TK.2.1.2.2.2.1 ([]:List (UInt8))) true))))
 false)
 (ah (fP (TK.1,(x.1,()))) (fun(OW:Bool×Unit)=>some OW.1))
 (some false)) (fun(OW:Bool)=>ah (aj OW
 (ah (kH ()) (fun(ZE:Bool×Unit)=>some ZE.1))
 (some false)) (fun(ZE:Bool)=>some (ZE,())))))))))))))))
 none)))
 none))
 none)))))
end Go.Ge
namespace Go.Ge
variable [Lp]
theorem wR{α S:Type}{f:S→Option (S⊕(Nat×S))}(l:List α)(p:α→Bool)(mk:Int×Int×Unit→S)(hl:l.length≤1000000)
  (hs:∀(i:Nat) (y:α),l[i]?=some y→i<l.length→f (mk (0,((i:Int),())))=some (if p y=true then .inr (1,mk ((i:Int),((i:Int),()))) else .inl (mk (0,(aL .i64 (i:Int) 1,())))))
  (he:f (mk (0,((l.length:Int),())))=some (.inr (0,mk (0,((l.length:Int),()))))) :
  (∃(i:Nat) (y:α),l[i]?=some y∧p y=true∧Loop f (mk (0,(0,())))=some (1,mk ((i:Int),((i:Int),()))))∨((∀y∈l,p y=false)∧Loop f (mk (0,(0,())))=some (0,mk (0,((l.length:Int),())))):=by
 rcases p8 (f:=f) l (fun i=>mk (0,(i,()))) (fun _ y=>p y) (fun i _=>(1,mk ((i:Int),((i:Int),())))) (0,mk (0,((l.length:Int),()))) (by omega) (fun i y hy hi ha=>by rw[hs i y hy hi,ha]) he with ⟨i,y,hy,hp,_,h⟩|⟨hn,h⟩
 ·exact .inl ⟨i,y,hy,hp,h⟩
 ·refine .inr ⟨fun y hy=>?_,h⟩;obtain⟨i,hi⟩:=bJ.1 hy;exact hn i y hi
theorem RJ(s:aV)(h:s.2.2.2.1.length=s.2.2.1.length)(hl:s.2.2.1.length≤1000000):qu (s,())=some (s.2.2.2.1,()):=by
 unfold qu;dsimp only;rw[bq (by decide) (by unfold len;omega) (EH _),ag,mG (by omega),ag];have e1:len (CI (len s.2.2.1) ([]:Tx))=(s.2.2.2.1.length:Int):=by unfold len CI;rw[u6,TS,h]
 rw[show @len (List UInt8)=@len Tx from rfl,show @CI (List UInt8)=@CI Tx from rfl,e1];have e2:iH s.2.2.2.1 ((s.2.2.2.1.length:Nat):Int)=s.2.2.2.1:=by unfold iH;rw[u6,GJ]
 rw[show @iH (List UInt8)=@iH Tx from rfl,e2]
 congr 1
 unfold over CI len;rw[show((0:Int).toNat)=0 from rfl,QE,zu,ym,u6,Mj (by rw[TS];omega),Am]
def Ic{α:Type}(l:List α)(k:Nat)(x:α):List α:=l.take k++[x]++l.drop k
theorem ahc{α:Type}(l:List α)(k:Nat)(x:α)(hk:k≤l.length)(hl:l.length≤1000000):Hz l (k:Int) [x]=some (Ic l k x):=by
 unfold Hz Ic;rw[show inside 0 (k:Int) (len l)=true from bq (by decide) (by omega) (by unfold len;omega),cG (by simp only[ep,ig];omega),u6];rfl
def Fe(s:aV)(x:aG)(d:Tx):aV:=(s.1,(s.2.1,(ud (·.1) s.2.2.1 x,(Ic s.2.2.2.1 (fQ (fun y:aG=>y.1) s.2.2.1 x.1) d,s.2.2.2.2))))
theorem afe(s:aV)(x:aG)(d:Tx)(h:s.2.2.2.1.length=s.2.2.1.length)(hl:s.2.2.1.length≤100000):sX (s,(x,(d,())))=some (Fe s x d,()):=by
 obtain⟨bo,im,la,di,mo⟩:=s;dsimp only at h hl;have hk:=Ex (fun y:aG=>y.1) la x.1;unfold sX;dsimp only;have hpos:=Ou (f:=qQ ((bo,(im,(la,(di,mo)))),(x,(d,())))) (fun y:aG=>y.1) la x.1 (by omega) (fun i=>(((0:Int),(i,())),(x,()))) (fun i=>(1,(((i:Int),((i:Int),())),(x,()))))
  (0,(((0:Int),((la.length:Int),())),(x,()))) (fun i y hy=>by
   have hi:=aI hy;unfold qQ;dsimp only;rw[au hi,ag,aB hy,aa,aY (by omega)];cases jy y.1 x.1<;>rfl) (by unfold qQ;dsimp only;rw[aE,af])
 rw[hpos,aa];have hdv:=RJ (bo,(im,(la,(di,mo)))) h (by dsimp only;omega);have hws:∀k:Nat,k≤la.length→kS (di,((k:Int),(d,())))=some (Ic di k d,()):=fun k hk=>by
  unfold kS;dsimp only;rw[show @len (List UInt8)=@len Tx from rfl,mG (by omega),ag];unfold eO;dsimp only;rw[ahc di k d (by omega) (by omega),aa]
 have hwl:iF (la,(((fQ (fun y:aG=>y.1) la x.1:Nat):Int),(x,())))=some (ud (fun y:aG=>y.1) la x,()):=by
  unfold iF;dsimp only;rw[mG (by omega),ag];unfold dz;dsimp only;rw[show Hz la ((fQ (fun y:aG=>y.1) la x.1:Nat):Int) [x]=_ from Ot (fun y:aG=>y.1) la x (by omega),aa]
 by_cases hkl:fQ (fun y:aG=>y.1) la x.1<la.length
 ·rw[bu hkl];dsimp only;rw[show fT 1 0=false from rfl,af,aa];dsimp only;rw[hdv,aa,aH (by omega),af];dsimp only;rw[hws _ hk,aa,hwl,aa];rfl
 ·rw[br hkl];dsimp only;have hk2:fQ (fun y:aG=>y.1) la x.1=la.length:=by omega
  rw[cv,ag,aa];dsimp only;rw[hdv,aa,aT (by decide),ag];dsimp only;rw[show @len (Tx×Tx×List Tx×Tx×Int×Int×Bool×Unit) la=((fQ (fun y:aG=>y.1) la x.1:Nat):Int) from by rw[hk2];rfl,hws _ hk,aa,hwl,aa];rfl
theorem aff:uV ()=some (vI 1024,()):=by
 rw[show uV ()=zL ((1024:Int),()) from rfl];exact VR 1024 (by decide)
abbrev Ch1:=(List aG×Int×Unit×Tx×Int×Unit)×List aG×Unit
theorem Gv(ls:List aG)(id0:Tx)(hu:uT (·.1) ls)(hl:ls.length≤1000000)(hn:∀x∈ls,vO x.2.2.1)(r1:List aG)(r2:Int)(id:Tx)(acc:List aG)(ha:acc.length≤16) :
  ∃i:Int,Loop (lK (ls,(id0,()))) ((r1,(r2,((),(id,((0:Int),()))))),(acc,()))=some (match OX ls id with
   | none=>(0,((r1,(r2,((),(id,(i,()))))),(acc,())))
   | some k=>match ls[k]? with
     | none=>(0,((r1,(r2,((),(id,(i,()))))),(acc,())))
     | some x=>if acc.length=16 then(1,(([],(5,((),(id,(i,()))))),(acc,()))) else if x.2.1=[] then(2,((r1,(r2,((),(id,(i,()))))),(acc++[x],()))) else(3,((r1,(r2,((),(x.2.1,(i,()))))),(acc++[x],())))):=by
 rcases p8 (f:=lK (ls,(id0,()))) ls (fun i=>((r1,(r2,((),(id,(i,()))))),(acc,()))) (fun _ x=>decide (x.1=id))
  (fun i x=>if acc.length=16 then(1,(([],(5,((),(id,((i:Int),()))))),(acc,()))) else if x.2.1=[] then(2,((r1,(r2,((),(id,((i:Int),()))))),(acc++[x],()))) else(3,((r1,(r2,((),(x.2.1,((i:Int),()))))),(acc++[x],()))))
  (0,((r1,(r2,((),(id,((ls.length:Int),()))))),(acc,()))) (by omega) (fun i x hx hi ha'=>by
   unfold lK;dsimp only;rw[au hi,ag,aB hx,aa,gj,ha'];by_cases q:x.1=id
   ·rw[fo q,aJ,af,bu rfl,EA _ (hn x (gm hx)).small,aa];have e16:bI (@len aG acc) (16:Int)=decide (acc.length=16):=by unfold bI len;apply decide_eq_decide.2;omega
    rw[e16];by_cases h16:acc.length=16
    ·rw[fo h16,ag,bu h16]
    ·rw[dJ h16,af,br h16];dsimp only;rw[show fits (plus (@len aG acc) (@len aG ([(x.1,(x.2.1,(x.2.2.1,x.2.2.2)))]:List aG)))=true from cG (by show _+1≤_;omega),ag,gj,iB];by_cases hp:x.2.1=[]
     ·rw[fo hp,bu rfl,bu hp];rfl
     ·rw[dJ hp,br hp];rfl
   ·rw[dJ q,aF,ag];rfl) (by unfold lK;dsimp only;rw[aE,af]) with ⟨i,x,hx,hp,_,h⟩|⟨hno,h⟩
 ·refine⟨(i:Int),?_⟩;have he:x.1=id:=ic hp;rw[show OX ls id=some i from by rw[←he];exact wP hu hx];dsimp only;rw[hx];exact h
 ·refine⟨(ls.length:Int),?_⟩;rw[Oj hno];exact h
theorem We(ls:List aG)(id0:Tx)(hu:uT (·.1) ls)(hl:ls.length≤1000000)(hn:∀x∈ls,vO x.2.2.1):∀(n:Nat) (id:Tx) (acc:List aG),n+acc.length=16 →
  ∃q1 q2 q3,Loop (iY (ls,(id0,()))) ((([]:List aG),((0:Int),((),(id,())))),(acc,())) =
   some (if(Gt ls n id acc).2=0 then(1,(q1,((Gt ls n id acc).1,()))) else(0,(((Gt ls n id acc).1,((Gt ls n id acc).2,q2)),q3))):=by
 have hnone:∀(id:Tx) (acc:List aG) (n:Nat),acc.length≤16→(¬∃x∈ls,x.1=id)→∃q1 q2 q3,Loop (iY (ls,(id0,()))) ((([]:List aG),((0:Int),((),(id,())))),(acc,())) =
   some (if(Gt ls n id acc).2=0 then(1,(q1,((Gt ls n id acc).1,()))) else(0,(((Gt ls n id acc).1,((Gt ls n id acc).2,q2)),q3))):=fun id acc n ha hx=>by
  rw[BL (fun x hx' e=>hx ⟨x,hx',e⟩),aX];unfold iY;dsimp only;obtain⟨i,h1⟩:=Gv ls id0 hu hl hn [] 0 id acc ha;rw[h1,aa,afc (fun x hx' e=>hx ⟨x,hx',e⟩)];exact⟨(([]:List aG),((0:Int),((),(id,())))),_,_,rfl⟩
 intro n;induction n with
 | zero =>
   intro id acc ha;by_cases hx:∃x∈ls,x.1=id
   rotate_left
   ·exact hnone id acc 0 (by omega) hx
   obtain⟨x,hx,rfl⟩:=hx;obtain⟨k,hk⟩:=bJ.1 hx;rw[H7 hu hx,aX];unfold iY;dsimp only;obtain⟨i,h1⟩:=Gv ls id0 hu hl hn [] 0 x.1 acc (by omega);rw[h1,aa,wP hu hk];dsimp only;rw[hk];dsimp only;rw[bu (by omega)];exact⟨(([]:List aG),((0:Int),((),(x.1,())))),_,_,rfl⟩
 | succ n ih =>
   intro id acc ha;by_cases hx:∃x∈ls,x.1=id
   rotate_left
   ·exact hnone id acc (n+1) (by omega) hx
   obtain⟨x,hx,rfl⟩:=hx;obtain⟨k,hk⟩:=bJ.1 hx;rw[sV hu hx,aX];unfold iY;dsimp only;obtain⟨i,h1⟩:=Gv ls id0 hu hl hn [] 0 x.1 acc (by omega);rw[h1,aa,wP hu hk];dsimp only;rw[hk];dsimp only;rw[br (by omega)];by_cases hp:x.2.1=[]
   ·rw[bu hp,bu hp];exact⟨_,((),(([]:Tx),())),(acc,()),rfl⟩
   ·rw[br hp,br hp];obtain⟨q1,q2,q3,h2⟩:=ih x.2.1 (acc++[x]) (by rw[iO];show n+(_+1)=16;omega);exact⟨q1,q2,q3,h2⟩
theorem YP(ls:List aG)(id:Tx)(hu:uT (·.1) ls)(hl:ls.length≤1000000)(hn:∀x∈ls,vO x.2.2.1):uU (ls,(id,()))=some ((bV ls id).1,((bV ls id).2,())):=by
 unfold uU;dsimp only;obtain⟨q1,q2,q3,h⟩:=We ls id hu hl hn 16 id [] rfl;rw[h,aa];unfold bV;by_cases c:(Gt ls 16 id []).2=0
 ·rw[bu c,c];rfl
 ·rw[br c];rfl
end Go.Ge
namespace Go.Ge
variable [Lp]
def newL(id parent:Tx)(given:List Tx):aG:=(id,(parent,(given,(zN (vI 1024),(1024,(0,(true,())))))))
def mN(s:aV)(on:Tx):Tx:=if on=[] then [] else(dI (yz s) on).1
def WD(s:aV)(on:Tx)(given:List Tx)(d:Int):aV×afb×Unit :=
 if lY given≠0 then(s,(H6 (lY given),())) else
 if on≠[]∧(dI (yz s) on).2.1≠0 then(s,(H6 (dI (yz s) on).2.1,())) else
 if rL (yz s) [] given≠0 then(s,(H6 (rL (yz s) [] given),())) else
 if(eU (yz s) d).2.1≠0 then(s,(H6 (eU (yz s) d).2.1,())) else
 if mN s on≠[]∧(bV s.2.2.1 (mN s on)).2=0∧16≤(bV s.2.2.1 (mN s on)).1.length then(s,(H6 5,())) else
 (Fe s (newL (eU (yz s) d).1 (mN s on) given) (vI 1024),(RD (eU (yz s) d).1,()))
theorem Ie(s:aV)(on:Tx)(given:List Tx)(d:Int)(h:Ov s)(hu:uT (·.1) s.2.2.1)(hd:s.2.2.2.1.length=s.2.2.1.length)(hg:given.length≤4294967296) :
  qR (s,(on,(given,([],(d,())))))=some (WD s on given d):=by
 have hll:=h.ll;have n0:bI (0:Int) 0=true:=rfl;have es:cc ([]:List UInt8) ([]:List UInt8)=true:=rfl;unfold qR;dsimp only;simp only[n0,es,ag,af,aJ];rw[De given hg,aa];unfold WD;dsimp only;by_cases c1:lY given=0
 rotate_left
 ·rw[bu c1,aM c1];simp only[aF,ag,aa,aM c1];rfl
 rw[br (fun q=>q c1),aP c1];simp only[aJ,af,aa,n0,gj];have hon:(aj (nt (decide (on=[]))) (ah (ng (s,(on,()))) fun y3=>some ((y3.2.1,()),(y3.1,()))) (some (((0:Int),()),(([]:Tx),())))) =
   some (((if on=[] then 0 else(dI (yz s) on).2.1),()),(mN s on,())):=by
  unfold mN;by_cases q:on=[]
  ·rw[fo q,aJ,af,bu q,bu q]
  ·rw[dJ q,aF,ag,LF s on h,aa,br q,br q]
 rw[show(aj (nt (decide (on=[]))) (ah (ng (s,(on,()))) fun y3=>some ((y3.2.1,()),(y3.1,()))) (some (((0:Int),()),(([]:List UInt8),()))))=_ from hon,aa];dsimp only;have hif:(on≠[]∧(dI (yz s) on).2.1≠0)↔¬((if on=[] then 0 else(dI (yz s) on).2.1)=0):=by
  by_cases q:on=[]
  ·simp[q]
  ·simp[q]
 have hval:(on≠[]∧(dI (yz s) on).2.1≠0)→(if on=[] then 0 else(dI (yz s) on).2.1)=(dI (yz s) on).2.1:=fun q=>br q.1;by_cases c2:(if on=[] then 0 else(dI (yz s) on).2.1)=0
 rotate_left
 ·rw[bu (hif.2 c2),aM c2];simp only[aF,ag,aa,aM c2];rw[hval (hif.2 c2)];rfl
 rw[br (fun q=>hif.1 q c2),aP c2];simp only[aJ,af];rw[AW s h,aa,Df (yz s) [] given (RE h) hg,aa];dsimp only;by_cases c3:rL (yz s) [] given=0
 rotate_left
 ·rw[bu (show rL (yz s) [] given≠0 from c3),aM c3];simp only[aF,ag,aa,aM c3];rfl
 rw[br (show ¬(rL (yz s) [] given≠0) from fun q=>q c3),aP c3];simp only[aJ,af,aa];rw[Rl,aa];by_cases c4:(eU (yz s) d).2.1=0
 rotate_left
 ·rw[bu (show(eU (yz s) d).2.1≠0 from c4),aM c4];simp only[aF,ag,aa,aM c4];rfl
 rw[br (show ¬((eU (yz s) d).2.1≠0) from fun q=>q c4),aP c4];simp only[aJ,af];rw[YP _ _ hu (by omega) h.ln,aa];dsimp only;have hc:(aj (aj (aj (nt (decide (mN s on=[]))) (bI (bV s.2.2.1 (mN s on)).2 0) false) (cX 16 (len (bV s.2.2.1 (mN s on)).1)) false) (some (((5:Int),()),(mN s on,(s,())))) (some (((0:Int),()),(mN s on,(s,()))))) =
   some (((if mN s on≠[]∧(bV s.2.2.1 (mN s on)).2=0∧16≤(bV s.2.2.1 (mN s on)).1.length then 5 else 0),()),(mN s on,(s,()))):=by
  have e16:cX (16:Int) (len (bV s.2.2.1 (mN s on)).1)=decide (16≤(bV s.2.2.1 (mN s on)).1.length):=by unfold cX len;apply decide_eq_decide.2;omega
  rw[e16,ZP];by_cases q1:mN s on=[]
  ·rw[fo q1,aJ,af,af,af,br (fun q=>q.1 q1)]
  ·rw[dJ q1,aF,ag];by_cases q2:(bV s.2.2.1 (mN s on)).2=0
   ·rw[fo q2,ag];by_cases q3:16≤(bV s.2.2.1 (mN s on)).1.length
    ·rw[fo q3,ag,bu ⟨q1,q2,q3⟩]
    ·rw[dJ q3,af,br (fun q=>q3 q.2.2)]
   ·rw[dJ q2,af,af,br (fun q=>q2 q.2.1)]
 rw[show(aj (aj (aj (nt (decide (mN s on=[]))) (bI (bV s.2.2.1 (mN s on)).2 0) false) (cX 16 (len (bV s.2.2.1 (mN s on)).1)) false) (some (((5:Int),()),(mN s on,(s,())))) (some (((0:Int),()),(mN s on,(s,())))))=_ from hc,aa];dsimp only;by_cases c5:mN s on≠[]∧(bV s.2.2.1 (mN s on)).2=0∧16≤(bV s.2.2.1 (mN s on)).1.length
 ·rw[bu c5,bu c5];rfl
 rw[br c5,br c5];simp only[n0,aJ,af,aa,JZ,ag];rw[aff,aa,aa];dsimp only;rw[show fits (plus (@len (List UInt8) []) (@len (List UInt8) given))=true from cG (by simp only[ig];omega),ag,aiH _ (by rw[xT];decide),aa];dsimp only;rw[show @app (List UInt8) [] given=given from rfl,show @len UInt8 (vI 1024)=1024 from by unfold len;rw[xT];rfl];rw[show sX (s,(((eU (yz s) d).1,(mN s on,(given,(zN (vI 1024),((1024:Int),((0:Int),(true,()))))))),(vI 1024,())))=some (Fe s (newL (eU (yz s) d).1 (mN s on) given) (vI 1024),()) from afe s (newL _ _ given) (vI 1024) hd (by omega),aa];rfl
end Go.Ge
namespace Go.Ge
variable [Lp]
theorem RL{s:aV}(h:Ov s):Small (yb s):=Jr 1 _ h.ag4
theorem ahd{s:aV}(h:Ov s):(yb s).length≤40:=gY (oF S2 _) h.bl
theorem Cm(s:aV)(h:Ov s):nk (s,())=some (yb s,()):=by
 unfold nk;dsimp only;rw[Bx 1 _ h.ag4,aa];rfl
theorem DK(s:aV)(ref:Tx)(h:Ov s):s7 (s,(ref,()))=some (dI (yb s) ref):=by
 unfold s7;dsimp only;rw[Cm s h,aa,vP _ _ (RL h) (by have:=ahd h;omega),aa]
theorem Qc(s:aV)(x:fC)(hl:s.1.length≤1000000)(hn:x.2.1.length≤4294967296)(hi:x.2.2.2.2.2.1.length≤4294967296)(hnew:∀y∈s.1,y.1≠x.1) :
  zh (s,(x,()))=some ((ud (·.1) s.1 x,s.2),()):=by
 obtain⟨bo,rest⟩:=s;obtain⟨x1,x2,x3,x4,x5,x6,u⟩:=x;dsimp only at hl hn hi hnew;unfold zh;dsimp only;rw[mG (by omega),ag];rcases wR (f:=sY ((bo,rest),((x1,(x2,(x3,(x4,(x5,(x6,u)))))),()))) bo (fun y=>decide (y.1=x1)) (fun q=>(q,(x1,()))) hl (fun i y hy hi=>by
  unfold sY;dsimp only;rw[au hi,ag,bE (by omega) (by unfold len;omega),ag,aB hy,aa,gj,iB];by_cases q:y.1=x1<;>simp[q]) (by unfold sY;dsimp only;rw[aE,af]) with ⟨i,y,hy,hp,_⟩|⟨_,hno⟩
 ·exact absurd (ic hp) (hnew y (gm hy))
 rw[hno,aa];dsimp only;rw[cv,ag,EA _ hn,aa,DI _ hi,aa];dsimp only;have hpos:=Ou (f:=sZ ((bo,rest),((x1,(x2,(x3,(x4,(x5,(x6,u)))))),()))) (·.1) bo x1 hl (fun i=>(((0:Int),(i,())),((x1,(x2,(x3,(x4,(x5,(x6,u)))))),()))) (fun i=>(1,(((i:Int),((i:Int),())),((x1,(x2,(x3,(x4,(x5,(x6,u)))))),()))))
  (0,(((0:Int),((bo.length:Int),())),((x1,(x2,(x3,(x4,(x5,(x6,u)))))),()))) (fun i y hy=>by
   have hi:=aI hy;unfold sZ;dsimp only;rw[au hi,ag,bE (by omega) (by unfold len;omega),ag,aB hy,aa,aY (by omega)];cases jy y.1 x1<;>rfl) (by unfold sZ;dsimp only;rw[aE,af])
 rw[hpos,aa];have hins:=Ot (·.1) bo ((x1,(x2,(x3,(x4,(x5,(x6,u)))))):fC) hl;unfold b9;by_cases hk:fQ (fun y:fC=>y.1) bo x1<bo.length
 ·rw[bu hk];dsimp only;rw[show fT 1 0=false from rfl,af,aH (by omega),af];dsimp only;rw[show Hz bo ((fQ (fun y:fC=>y.1) bo x1:Nat):Int) [((x1,(x2,(x3,(x4,(x5,(x6,u)))))):fC)]=_ from hins,aa]
 ·rw[br hk];dsimp only;have hk2:fQ (fun y:fC=>y.1) bo x1=bo.length:=by have:=Ex (fun y:fC=>y.1) bo x1;omega
  rw[cv,ag];rw[bX,←hk2,show Hz bo ((fQ (fun y:fC=>y.1) bo x1:Nat):Int) [((x1,(x2,(x3,(x4,(x5,(x6,u)))))):fC)]=_ from hins,aa]
theorem zU(s:aV)(id:Tx)(h:Ov s)(hit:∀x∈s.1,LC x.2.2.2.2.2.1):∃r,oS (s,(id,()))=some r∧(∀x∈s.1,uT (·.1) s.1→x.1=id→r=(x,(true,()))):=by
 have hbl:=h.bl;unfold oS;dsimp only;rcases wR (f:=tc (s,(id,()))) s.1 (fun y=>decide (y.1=id)) (fun q=>(q,(id,()))) (by omega) (fun i y hy hi=>by
  unfold tc;dsimp only;rw[au hi,ag,aB hy,aa,gj,iB];by_cases q:y.1=id<;>simp[q]) (by unfold tc;dsimp only;rw[aE,af]) with ⟨i,y,hy,hp,hr⟩|⟨hn,hr⟩
 ·have hm:=gm hy;rw[hr,aa];dsimp only;rw[show fT 1 0=false from rfl,af,aH (by omega),af,aB hy,aa,EA _ (h.bn y hm).small,aa,DI _ (by have:=(hit y hm).1;omega),aa];refine⟨(y,(true,())),rfl,fun x hx hu he=>?_⟩;rw[hu.inj (fun z:fC=>z.1) hx hm (he.trans (ic hp).symm)]
 ·rw[hr,aa];dsimp only;rw[cv,ag];refine⟨_,rfl,fun x hx hu he=>?_⟩;have:=hn x hx;simp[he] at this
def Cn(s:aV)(id:Tx):Tx:=((s.2.1.find? (fun x=>decide (x.1=id))).map (fun x:fN=>x.2.2.1)).getD []
theorem abX{s:aV}(hu:uT (·.1) s.2.1){x:fN}(hx:x∈s.2.1):Cn s x.1=x.2.2.1:=by
 unfold Cn;cases hf:s.2.1.find? (fun y=>decide (y.1=x.1)) with
 | none=>have:=List.find?_eq_none.1 hf x hx;simp at this
 | some y =>
   have h1:=WE hf;have h2:y.1=x.1:=by simpa using Mq hf
   rw[hu.inj (fun z:fN=>z.1) h1 hx h2];rfl
def AY(s:aV)(image:Tx):Tx:=if image=[] then [] else(dI (Tn s) image).1
def JR(d:Int):Int:=jA IntKind.i64 d 16777215
def AZ(d:Int):Int:=jA IntKind.i64 (rU IntKind.i64 d 24) 16777215
def crB(s:aV)(image:Tx)(given:List Tx)(meta':Tx)(d:Int):aV×afb×Unit :=
 if lY given≠0∨64<meta'.length then(s,(H6 1,())) else
 if image≠[]∧(dI (Tn s) image).2.1≠0 then(s,(H6 (dI (Tn s) image).2.1,())) else
 if rL (yb s) [] given≠0 then(s,(H6 (rL (yb s) [] given),())) else
 if(eU (yb s) (JR d)).2.1≠0 then(s,(H6 (eU (yb s) (JR d)).2.1,())) else
 if(WD s (if image=[] then [] else Cn s (AY s image)) [] (AZ d)).2.1.1≠0 then(s,(H6 (WD s (if image=[] then [] else Cn s (AY s image)) [] (AZ d)).2.1.1,())) else
 ((ud (·.1) s.1 ((eU (yb s) (JR d)).1,(given,(AY s image,((WD s (if image=[] then [] else Cn s (AY s image)) [] (AZ d)).2.1.2.1,(meta',([],())))))),(WD s (if image=[] then [] else Cn s (AY s image)) [] (AZ d)).1.2),
  ((0,((eU (yb s) (JR d)).1,(0,((WD s (if image=[] then [] else Cn s (AY s image)) [] (AZ d)).2.1.2.1,())))),()))
theorem abY(s:aV)(on:Tx)(given:List Tx)(d:Int):(WD s on given d).1.1=s.1:=by
 unfold WD;split
 ·rfl
 split
 ·rfl
 split
 ·rfl
 split
 ·rfl
 split
 ·rfl
 rfl
theorem Mf{s:aV}{x:fC}(hx:x∈s.1):((x.1,(x.2.1,())):Nm)∈yb s:=by
 unfold yb;rw[Mn];exact⟨x,hx,by unfold ofB;exact List.mem_singleton.2 rfl⟩
theorem Ig{s:aV}{y:Nm}(h:y∈yb s):∃x∈s.1,y=(x.1,(x.2.1,())):=by
 unfold yb at h;rw[Mn] at h;obtain⟨x,hx,hm⟩:=h;unfold ofB at hm;rw[Cw] at hm;exact⟨x,hx,hm⟩
end Go.Ge
namespace Go.Ge
variable [Lp]
theorem uf(s:aV)(image:Tx)(given:List Tx)(meta':Tx)(d:Int)(h:Ov s)(huI:uT (·.1) s.2.1)(huL:uT (·.1) s.2.2.1)(hd:s.2.2.2.1.length=s.2.2.1.length)(hg:given.length≤4294967296) :
  gL (s,(image,(given,(meta',(d,())))))=some (crB s image given meta' d):=by
 have hbl:=h.bl;unfold gL crB;dsimp only;have e64:bB (64:Int) (@len UInt8 meta')=decide (64<meta'.length):=by unfold bB len;apply decide_eq_decide.2;omega
 rw[De given hg,aa,e64];dsimp only;by_cases c1:lY given=0
 rotate_left
 ·rw[bu (.inl c1),aM c1];rfl
 by_cases c2:64<meta'.length
 ·rw[bu (.inr c2),aP c1,fo c2];rfl
 rw[br (by rintro(q|q);exact q c1;exact c2 q),aP c1,dJ c2,aJ,aF,ag,af,gj];have hon:(aj (nt (decide (image=[]))) (ah (nh (s,(image,()))) fun y2=>some ((y2.2.1,()),((([]:Tx),(given,(y2.1,(([]:Tx),(meta',(([]:List Item),())))))),()))) (some (((0:Int),()),((([]:Tx),(given,(([]:Tx),(([]:Tx),(meta',(([]:List Item),())))))),())))) =
   some (((if image=[] then 0 else(dI (Tn s) image).2.1),()),((([]:Tx),(given,(AY s image,(([]:Tx),(meta',(([]:List Item),())))))),())):=by
  unfold AY;by_cases q:image=[]
  ·rw[fo q,aJ,af,bu q,bu q]
  ·rw[dJ q,aF,ag,LG s image h,aa,br q,br q]
 rw[show(aj (nt (decide (image=[]))) (ah (nh (s,(image,()))) fun y2=>some ((y2.2.1,()),((([]:List UInt8),(given,(y2.1,(([]:List UInt8),(meta',(([]:List (List UInt8×List UInt8×List UInt8×Unit)),())))))),()))) (some (((0:Int),()),((([]:List UInt8),(given,(([]:List UInt8),(([]:List UInt8),(meta',(([]:List (List UInt8×List UInt8×List UInt8×Unit)),())))))),()))))=_ from hon,aa];dsimp only;have hif:(image≠[]∧(dI (Tn s) image).2.1≠0)↔¬((if image=[] then 0 else(dI (Tn s) image).2.1)=0):=by
  by_cases q:image=[]
  ·simp[q]
  ·simp[q]
 have hval:(image≠[]∧(dI (Tn s) image).2.1≠0)→(if image=[] then 0 else(dI (Tn s) image).2.1)=(dI (Tn s) image).2.1:=fun q=>br q.1;by_cases c3:(if image=[] then 0 else(dI (Tn s) image).2.1)=0
 rotate_left
 ·rw[bu (hif.2 c3),aM c3];simp only[aF,ag,af,aa,aM c3];rw[hval (hif.2 c3)];rfl
 rw[br (fun q=>hif.1 q c3),aP c3];simp only[ag];rw[Cm s h,aa,Df (yb s) [] given (RL h) hg,aa,aa];dsimp only;by_cases c4:rL (yb s) [] given=0
 rotate_left
 ·rw[bu (show rL (yb s) [] given≠0 from c4),aM c4];simp only[aF,ag,af,aa,aM c4];rfl
 rw[br (show ¬(rL (yb s) [] given≠0) from fun q=>q c4),aP c4];simp only[ag,aa];rw[show jA IntKind.i64 d 16777215=JR d from rfl,Rl,aa,aa];dsimp only;by_cases c5:(eU (yb s) (JR d)).2.1=0
 rotate_left
 ·rw[bu (show(eU (yb s) (JR d)).2.1≠0 from c5),aM c5];simp only[aF,ag,af,aa,aM c5];rfl
 rw[br (show ¬((eU (yb s) (JR d)).2.1≠0) from fun q=>q c5),aP c5];simp only[aJ,af];obtain⟨g,OU,hg2⟩:=Ow s (AY s image) h;rw[OU,aa];have am0:((((((aj (decide (image=[])) (((),((([]:Tx),(([]:List Tx),(([]:Tx),(([]:Tx),(([]:List Item),()))))),())):Unit×fN×Unit) ((),(g.1,()))).2).1).2).2).1)=(if image=[] then [] else Cn s (AY s image)):=by
  by_cases q:image=[]
  ·rw[fo q,ag,bu q]
  ·rw[dJ q,af,br q];rw[br q] at c3;obtain⟨y,hy,he⟩:=AX c3;obtain⟨x,hx,rfl⟩:=Z3 hy;have he:x.1=AY s image:=by unfold AY;rw[br q];exact he
   rw[hg2 x hx huI he,←he,abX huI hx]
 rw[show((((((aj (decide (image=[])) (((),((([]:List UInt8),(([]:List (List UInt8)),(([]:List UInt8),(([]:List UInt8),(([]:List (List UInt8×List UInt8×List UInt8×Unit)),()))))),())):Unit×fN×Unit) ((),(g.1,()))).2).1).2).2).1)=_ from am0];rw[show jA IntKind.i64 (rU IntKind.i64 d 24) 16777215=AZ d from rfl,Ie s _ [] (AZ d) h huL hd (by simp),aa];have hb1:=abY s (if image=[] then [] else Cn s (AY s image)) [] (AZ d);generalize WD s (if image=[] then [] else Cn s (AY s image)) [] (AZ d)=r at hb1;by_cases c6:r.2.1.1=0
 rotate_left
 ·rw[bu c6,aM c6,aF,ag];rfl
 rw[br (fun q=>q c6),aP c6,aJ,af];obtain⟨_,_,hne⟩:=NX c5;rw[Qc r.1 _ (by rw[hb1];omega) hg (by simp) (fun y hy=>by rw[hb1] at hy;exact hne _ (Mf hy)),aa,hb1]
end Go.Ge
namespace Go.Ge
variable [Lp]
theorem YQ(s:aV)(id:Tx)(hl:s.2.2.2.2.1.length≤1000000):∃n,oT (s,(id,()))=some (n,())∧((∃x∈s.2.2.2.2.1,x.1=id∧x.2.1=n)∨(n=0∧∀x∈s.2.2.2.2.1,x.1≠id)):=by
 unfold oT;dsimp only;rcases wR (f:=nQ (s,(id,()))) s.2.2.2.2.1 (fun y=>decide (y.1=id)) (fun q=>(q,((),(id,())))) hl (fun i y hy hi=>by
  unfold nQ vS;dsimp only;rw[au hi,ag,aB hy,aa,aa,gj,iB];by_cases q:y.1=id<;>simp[q]) (by unfold nQ;dsimp only;rw[aE,af]) with ⟨i,y,hy,hp,hr⟩|⟨hn,hr⟩
 ·rw[hr,aa];dsimp only;rw[show fT 1 0=false from rfl,af,aH (by omega),af,aB hy,aa];exact⟨_,rfl,.inl ⟨y,gm hy,ic hp,rfl⟩⟩
 ·rw[hr,aa];dsimp only;rw[cv,ag];exact⟨_,rfl,.inr ⟨rfl,fun x hx=>TP (hn x hx)⟩⟩
def Co(s:aV)(id:Tx):Bool:=s.2.2.1.any (fun x=>decide (x.2.1=id))||s.2.1.any (fun x=>decide (x.2.2.1=id))||s.1.any (fun x=>decide (x.2.2.2.1=id))
theorem Z7{α:Type}{l:List α}{p:α→Bool}{i:Nat}{y:α}(hy:l[i]?=some y)(hp:p y=true):l.any p=true:=List.any_eq_true.2 ⟨y,gm hy,hp⟩
theorem RM{α:Type}{l:List α}{p:α→Bool}(h:∀y∈l,p y=false):l.any p=false:=by
 cases q:l.any p with
 | false=>rfl
 | true=>obtain⟨y,hy,hp⟩:=List.any_eq_true.1 q;rw[h y hy] at hp;cases hp
theorem YR{f:(Int×Int×Unit)×Tx×Unit→Option (((Int×Int×Unit)×Tx×Unit)⊕(Nat×(Int×Int×Unit)×Tx×Unit))}(l:List fC)(id:Tx)(hl:l.length≤1000000)
  (hf:∀c i:Int,f ((c,(i,())),(id,()))=aj (bB i (len l)) (ah (idx l i) fun y=>aj (cc y.2.2.2.1 id) (some (.inr (1,((i,(i,())),(id,()))))) (some (.inl ((c,(aL .i64 i 1,())),(id,()))))) (some (.inr (0,((c,(i,())),(id,())))))) :
  ah (Loop f (((0:Int),((0:Int),())),(id,()))) (fun y3=>aj (fT y3.1 0) (some (false,())) (some (cX (0:Int) y3.2.1.1,())))=some (l.any (fun x=>decide (x.2.2.2.1=id)),()):=by
 rcases wR (f:=f) l (fun y=>decide (y.2.2.2.1=id)) (fun q=>(q,(id,()))) hl (fun i y hy hi=>by
  rw[hf,au hi,ag,aB hy,aa,gj,iB];by_cases q:y.2.2.2.1=id<;>simp[q]) (by rw[hf,aE,af]) with ⟨i,y,hy,hp,hr⟩|⟨hn,hr⟩
 ·rw[hr,aa,Z7 hy hp];dsimp only;rw[show fT 1 0=false from rfl,af,cE (by omega)]
 ·rw[hr,aa,RM hn];rfl
theorem afg(s:aV)(id:Tx)(h1:s.1.length≤1000000)(h2:s.2.1.length≤1000000)(h3:s.2.2.1.length≤1000000):td (s,(id,()))=some (Co s id,()):=by
 unfold td Co;dsimp only;have li:∀{f:(Int×Int×Unit)×Tx×Unit→Option (((Int×Int×Unit)×Tx×Unit)⊕(Nat×(Int×Int×Unit)×Tx×Unit))},
   (∀c i:Int,f ((c,(i,())),(id,()))=aj (bB i (len s.2.1)) (ah (idx s.2.1 i) fun y=>aj (cc y.2.2.1 id) (some (.inr (1,((i,(i,())),(id,()))))) (some (.inl ((c,(aL .i64 i 1,())),(id,()))))) (some (.inr (0,((c,(i,())),(id,())))))) →
   (∃(i:Nat),s.2.1.any (fun x=>decide (x.2.2.1=id))=true∧Loop f (((0:Int),((0:Int),())),(id,()))=some (1,(((i:Int),((i:Int),())),(id,()))))∨(s.2.1.any (fun x=>decide (x.2.2.1=id))=false∧Loop f (((0:Int),((0:Int),())),(id,()))=some (0,(((0:Int),((s.2.1.length:Int),())),(id,())))):=fun {f} hf=>by
  rcases wR (f:=f) s.2.1 (fun y=>decide (y.2.2.1=id)) (fun q=>(q,(id,()))) h2 (fun i y hy hi=>by
   rw[hf,au hi,ag,aB hy,aa,gj,iB];by_cases q:y.2.2.1=id<;>simp[q]) (by rw[hf,aE,af]) with ⟨i,y,hy,hp,hr⟩|⟨hn,hr⟩
  ·exact .inl ⟨i,Z7 hy hp,hr⟩
  ·exact .inr ⟨RM hn,hr⟩
 have g0:cX (0:Int) (-1)=false:=rfl;rcases wR (f:=qS (s,(id,()))) s.2.2.1 (fun y=>decide (y.2.1=id)) (fun q=>(q,(id,()))) h3 (fun i y hy hi=>by
  unfold qS;dsimp only;rw[au hi,ag,aB hy,aa,gj,iB];by_cases q:y.2.1=id<;>simp[q]) (by unfold qS;dsimp only;rw[aE,af]) with ⟨i,y,hy,hp,hr⟩|⟨hn,hr⟩
 ·rw[hr,aa,Z7 hy hp];dsimp only;rw[show fT 1 0=false from rfl,af,aa];dsimp only;have gi:cX (0:Int) (i:Int)=true:=cE (by omega);rcases li (f:=vT (s,(id,()))) (fun c i=>rfl) with ⟨k,hk,hl⟩|⟨hk,hl⟩
  ·rw[hl,aa];dsimp only;rw[show fT 1 0=false from rfl,af,gi,aJ,af,aJ,af];rfl
  ·rw[hl,aa];dsimp only;rw[cv,ag,gi,aJ,af,aJ,af];rfl
 ·rw[hr,aa,RM hn];dsimp only;rw[cv,ag,aa];dsimp only;rcases li (f:=vT (s,(id,()))) (fun c i=>rfl) with ⟨k,hk,hl⟩|⟨hk,hl⟩
  ·rw[hl,aa,hk];dsimp only;have gk:cX (0:Int) (k:Int)=true:=cE (by omega);rw[show fT 1 0=false from rfl,af,g0,aF,ag,gk,aJ,af];rfl
  ·rw[hl,aa,hk];dsimp only;rw[cv,ag,g0,aF,ag,aF,ag];exact YR (f:=Cl (s,(id,()))) s.1 id h1 (fun c i=>rfl)
def cutAt{α:Type}(l:List α)(i:Nat):List α:=l.take i++l.drop (i+1)
theorem Z8{α:Type}(l:List α)(i:Nat)(hi:i<l.length)(hl:l.length≤1000000):PF l (i:Int) (aL .i64 (i:Int) 1)=some (cutAt l i):=by
 unfold PF cutAt;rw[aY (by omega),bq (by omega) (by omega) (by unfold len;omega),gp,u6,u6]
theorem Qd(s:aV)(hu:uT (·.1) s.2.2.1)(i:Nat)(x:aG)(hx:s.2.2.1[i]?=some x)(hd:s.2.2.2.1.length=s.2.2.1.length)(hl:s.2.2.1.length≤100000)(hm:s.2.2.2.2.1.length≤1000000)(hn:∀m∈s.2.2.2.2.1,m.1≠x.1) :
  jL (s,(x.1,()))=some ((s.1,(s.2.1,(cutAt s.2.2.1 i,(cutAt s.2.2.2.1 i,s.2.2.2.2)))),()):=by
 have hlt:=aI hx;unfold jL;dsimp only;rcases wR (f:=mz (s,(x.1,()))) s.2.2.1 (fun y=>decide (y.1=x.1)) (fun q=>(q,((),(x.1,())))) (by omega) (fun i y hy hi=>by
  unfold mz vU;dsimp only;rw[au hi,ag,aB hy,aa,aa,gj,iB];by_cases q:y.1=x.1<;>simp[q]) (by unfold mz;dsimp only;rw[aE,af]) with ⟨j,y,hy,hp,hr⟩|⟨hno,hr⟩
 ·obtain rfl:j=i:=hu.idx hy hx (ic hp);rw[hr,aa];dsimp only;rw[show fT 1 0=false from rfl,af,aa];dsimp only;rw[RJ s hd (by omega),aa];dsimp only;unfold mw jF eN dw;dsimp only;rw[aH (by omega),af,af,show @len (List UInt8)=@len Tx from rfl,mG (by omega),ag,Z8 _ j (by omega) (by omega),aa,aa,mG (by omega),ag,Z8 _ j (by omega) (by omega),aa,aa];dsimp only;rw[mG (by omega),ag];rcases wR (f:=mA (s,(x.1,()))) s.2.2.2.2.1 (fun y=>decide (y.1=x.1)) (fun q=>(q,(x.1,()))) hm (fun i y hy hi=>by
   unfold mA;dsimp only;rw[au hi,ag,bE (by omega) (by unfold len;omega),ag,aB hy,aa,gj,iB];by_cases q:y.1=x.1<;>simp[q]) (by unfold mA;dsimp only;rw[aE,af]) with ⟨i,y,hy,hp,hr⟩|⟨_,hr⟩
  ·exact absurd (ic hp) (hn y (gm hy))
  ·rw[hr,aa];dsimp only;rw[cv,ag]
 ·have:=hno x (gm hx);simp at this
end Go.Ge
namespace Go.Ge
variable [Lp]
def YS(s:aV)(id:Tx):Tx:=((s.1.find? (fun x=>decide (x.1=id))).map (fun x:fC=>x.2.2.2.1)).getD []
theorem OA{s:aV}(hu:uT (·.1) s.1){x:fC}(hx:x∈s.1):YS s x.1=x.2.2.2.1:=by
 unfold YS;cases hf:s.1.find? (fun y=>decide (y.1=x.1)) with
 | none=>have:=List.find?_eq_none.1 hf x hx;simp at this
 | some y =>
   have h1:=WE hf;have h2:y.1=x.1:=by simpa using Mq hf
   rw[hu.inj (fun z:fC=>z.1) h1 hx h2];rfl
def Wf(s:aV)(id:Tx):Nat:=(OX s.2.2.1 id).getD 0
open Classical in
def dlB(s:aV)(ref:Tx):aV×afb×Unit :=
 if(dI (yb s) ref).2.1≠0 then(s,(H6 (dI (yb s) ref).2.1,())) else
 if(∃m∈s.2.2.2.2.1,m.1=YS s (dI (yb s) ref).1)∨Co (OY (·.1) s.1 (dI (yb s) ref).1,s.2) (YS s (dI (yb s) ref).1)=true then(s,(H6 7,())) else
 ((OY (·.1) s.1 (dI (yb s) ref).1,(s.2.1,(cutAt s.2.2.1 (Wf s (YS s (dI (yb s) ref).1)),(cutAt s.2.2.2.1 (Wf s (YS s (dI (yb s) ref).1)),s.2.2.2.2)))),(RD (dI (yb s) ref).1,()))
theorem ER.bits{s:aV}(h:ER s):∀x∈s.1,LC x.2.2.2.2.2.1:=fun x hx=>(h.xb x hx).2.2.2.2
theorem pW(s:aV)(ref:Tx)(hB:ER s)(hS:ya s):fR (s,(ref,()))=some (dlB s ref):=by
 have hbl:=hB.bl;have hil:=hB.il;have hll:=hB.ll;have hml:=hS.YK;unfold fR dlB;dsimp only;rw[DK s ref hB.hd,aa];by_cases c1:(dI (yb s) ref).2.1=0
 rotate_left
 ·rw[bu c1,aM c1];rfl
 rw[br (fun q=>q c1),aP c1,aJ,af];obtain⟨y,hy,he⟩:=AX c1;obtain⟨x,hx,rfl⟩:=Ig hy;have he:x.1=(dI (yb s) ref).1:=he;rw[←he];obtain⟨g,OU,hg2⟩:=zU s x.1 hB.hd hB.bits;rw[OU,aa,hg2 x hx hS.upB rfl,mG (by omega),ag,OA hS.upB hx];dsimp only;rcases wR (f:=nR (s,(ref,()))) s.1 (fun y=>decide (y.1=x.1)) (fun q=>(q,(x.1,()))) (by omega) (fun i y hy hi=>by
  unfold nR;dsimp only;rw[au hi,ag,bE (by omega) (by unfold len;omega),ag,aB hy,aa,gj,iB];by_cases q:y.1=x.1<;>simp[q]) (by unfold nR;dsimp only;rw[aE,af]) with ⟨j,y,hy,hp,hr⟩|⟨hno,_⟩
 rotate_left
 ·have:=hno x hx;simp at this
 rw[hr,aa];dsimp only;rw[show fT 1 0=false from rfl,af,cE (by omega),ag];unfold cV;dsimp only;rw[ag7 (fun z:fC=>z.1) s.1 x.1 hS.upB j y hy (ic hp) (by omega),aa,aa];dsimp only;obtain⟨n,Lr,hn2⟩:=YQ s x.2.2.2.1 (by omega);rw[Lr,aa];dsimp only;have hrl:=(Ez (fun z:fC=>z.1) s.1 x.1).length_le;rcases hn2 with ⟨m,hm,hm1,hm2⟩|⟨rfl,hm⟩
 ·have:=(hS.mts m hm).2.1;rw[aT (by omega),aJ,af,aa,ag,bu (.inl ⟨m,hm,hm1⟩)];rfl
 ·rw[aH (by omega),aF,ag,afg _ _ (by dsimp only;omega) (by dsimp only;omega) (by dsimp only;omega),aa,aa];dsimp only;cases hq:Co (OY (fun z:fC=>z.1) s.1 x.1,s.2) x.2.2.2.1 with
  | true =>
    rw[bu (.inr rfl),ag];rfl
  | false =>
    rw[br (by
     rintro(⟨m,h1,h2⟩|q)
     ·exact hm m h1 h2
     ·cases q),af]
    obtain⟨z,hz,hze⟩:=(hS.refs x hx).2;obtain⟨i,hi⟩:=bJ.1 hz;have hw:=Qd (OY (fun z:fC=>z.1) s.1 x.1,s.2) hS.upL i z hi hS.lays.same (by dsimp only;omega) (by dsimp only;omega) (fun m h1 h2=>hm m h1 (h2.trans hze));have afi:Wf s x.2.2.2.1=i:=by unfold Wf;rw[←hze,wP hS.upL hi];rfl
    rw[hze] at hw;rw[show jL ((OY (fun z:fC=>z.1) s.1 x.1,(s.2.1,(s.2.2.1,(s.2.2.2.1,(s.2.2.2.2.1,s.2.2.2.2.2))))),(x.2.2.2.1,()))=_ from hw,aa,afi];rfl
theorem nC.boxes{l:List fC}(h1:l.length≤32)(h2:∀x∈l,OkB x)(h3:uT (·.1) l)(h4:(l.flatMap (·.2.1)).Nodup):nC 1 (0,([],([],(l,())))) :=
 ⟨h1,by show l.length+0+0=l.length;omega,fun x hx=>(by cases hx),fun x hx=>(by cases hx),h2,by unfold N0;simpa [uT] using h3,by unfold P3;simpa using h4⟩
theorem nC.lays{l:List aG}(h1:l.length≤32)(h2:∀x∈l,OkL x)(h3:uT (·.1) l)(h4:(l.flatMap (·.2.2.1)).Nodup):nC 3 (0,(l,([],([],())))) :=
 ⟨h1,by show 0+0+l.length=l.length;omega,h2,fun x hx=>(by cases hx),fun x hx=>(by cases hx),by unfold N0;simpa [uT] using h3,by unfold P3;simpa using h4⟩
theorem ya.akF{s:aV}(h:ya s):(s.1.flatMap (·.2.1)).Nodup:=by
 have:=h.b.nms;unfold P3 at this;simpa using this
theorem ya.akG{s:aV}(h:ya s):(s.2.2.1.flatMap (·.2.2.1)).Nodup:=by
 have:=h.l.nms;unfold P3 at this;simpa using this
theorem ya.ag4{s:aV}(h:ya s):s.1.length≤32:=h.b.Ep
theorem ya.ag3{s:aV}(h:ya s):s.2.2.1.length≤32:=h.l.Ep
theorem YT(s:aV):(yb s).length=s.1.length:=by
 unfold yb;induction s.1 with
 | nil=>rfl
 | cons a r ih=>rw[O3,iO,ih];simp[ofB];omega
end Go.Ge
namespace Go.Ge
variable [Lp]
theorem Ky(ls:List aG)(ds:List Tx)(x:aG)(d:Tx)(hd:ds.length=ls.length):∃(p1 r1:List aG) (p2 r2:List Tx),p1.length=p2.length∧ls=p1++r1∧ds=p2++r2∧p1.length=fQ (fun y:aG=>y.1) ls x.1 ∧
  ud (fun y:aG=>y.1) ls x=p1++[x]++r1∧Ic ds (fQ (fun y:aG=>y.1) ls x.1) d=p2++[d]++r2:=by
 have hk:=Ex (fun y:aG=>y.1) ls x.1;refine⟨ls.takeWhile (fun y=>jy y.1 x.1),ls.dropWhile (fun y=>jy y.1 x.1),ds.take (fQ (fun y:aG=>y.1) ls x.1),ds.drop (fQ (fun y:aG=>y.1) ls x.1),?_,(KT).symm,(CE _ _).symm,rfl,rfl,rfl⟩;rw[cW,vK (by omega)];rfl
theorem ya.more{s:aV}(h:ya s){x:aG}{d:Tx}(hx:OkL x)(ZO:s.2.2.1.length<32)(hnew:∀y∈s.2.2.1,y.1≠x.1)(hnm:∀y∈s.2.2.1,∀n∈y.2.2.1,n∉x.2.2.1)
  (hpar:x.2.1=[]∨((bV s.2.2.1 x.2.1).2=0∧(bV s.2.2.1 x.2.1).1.length<16)) (hd:x.2.2.2.2.2.2.1=true∧x.2.2.2.2.2.1=0∧x.2.2.2.2.1=(d.length:Int)∧x.2.2.2.1=zN d∧DH d)
  (hap:(qb (if x.2.1=[] then [] else(j9 s.2.2.1 s.2.2.2.1 x.2.1).1) d).2=0):ya (Fe s x d):=by
 obtain⟨bo,im,la,di,mo,u⟩:=s;have hu:=h.upL;have hb:=h.b;have hi:=h.i;have hl:=h.l;have Wg:=h.lays;have hmf:=h.YK;have afj:=h.tops;have hrefs:=h.refs;have ai3:=h.mts;have hms:=h.RC;have ai4:=h.akG;unfold Fe;dsimp only at *;have hmem:∀y:aG,y∈ud (fun y:aG=>y.1) la x↔y=x∨y∈la:=fun y=>sU _;have ai5:uT (fun y:aG=>y.1) (ud (fun y:aG=>y.1) la x):=Z0 _ hu hnew;refine⟨hb,hi,nC.lays ?_ ?_ ai5 ?_,?_,hmf,?_,?_,?_,hms⟩
 ·rw[HZ];omega
 ·intro y hy;rcases(hmem y).1 hy with rfl|hy
  ·exact hx
  ·exact hl.ll y hy
 ·have hp:=(Ey (fun y:aG=>y.1) la x).flatMap_right (fun y:aG=>y.2.2.1);rw[hp.nodup_iff,O3,List.nodup_append];refine⟨?_,ai4,fun a ha b hb=>?_⟩
  ·have:=hx.nms;unfold nJ at this;simp only[dW,nY] at this;exact this.1.2
  ·rw[Mn] at hb;obtain⟨y,hy,hn⟩:=hb;rintro rfl;exact hnm y hy a hn ha
 ·obtain⟨p1,r1,p2,r2,e1,e2,e3,_,e4,e5⟩:=Ky la di x d Wg.same;show xY (ud (fun y:aG=>y.1) la x) (Ic di (fQ (fun y:aG=>y.1) la x.1) d)
  rw[e4] at ai5;rw[e4,e5];have hid:=hx.id;refine xY.more e1 (by rw[←e2];exact hu) ai5 (by rw[←e2,←e3];exact Wg) (by rw[←e2];exact hnew) (fun q=>?_) ?_ (by rw[←e2];exact hpar) hd (by rw[←e2,←e3];exact hap)
  ·rw[q] at hid;exact rq hid
  ·rcases hx.par with q|q
   ·rw[q];intro k;rw[←k] at hid;exact rq hid
   ·exact q.2
 ·intro y hy;rcases afj y hy with q|⟨z,hz,q⟩
  ·exact .inl q
  ·exact .inr ⟨z,(hmem z).2 (.inr hz),q⟩
 ·intro y hy;obtain⟨z,hz,q⟩:=(hrefs y hy).2;exact⟨(hrefs y hy).1,z,(hmem z).2 (.inr hz),q⟩
 ·intro y hy;obtain⟨⟨z,hz,q⟩,k⟩:=ai3 y hy;exact⟨⟨z,(hmem z).2 (.inr hz),q⟩,k⟩
theorem ER.more{s:aV}(h:ER s){x:aG}{d:Tx}(hx:BdL x)(ZO:s.2.2.1.length<32)(hd:d.length≤8192):ER (Fe s x d):=by
 refine⟨?_,h.il,h.bl,fun y hy=>?_,h.xi,h.xb,fun e he=>?_,h.ml⟩
 ·show(ud (fun y:aG=>y.1) s.2.2.1 x).length≤40
  rw[HZ];omega
 ·rcases(sU _).1 hy with rfl|hy
  ·exact hx
  ·exact h.xl y hy
 ·have he:e∈Ic s.2.2.2.1 (fQ (fun y:aG=>y.1) s.2.2.1 x.1) d:=he;unfold Ic at he;rw[QD,QD,Cw] at he;rcases he with (he|rfl)|he
  ·exact h.dl e (O1 he)
  ·exact hd
  ·exact h.dl e (aal he)
theorem ya.afk{s:aV}(h:ya s){y:aG}(hy:y∈s.2.2.1):(bV s.2.2.1 y.1).2=0∧(j9 s.2.2.1 s.2.2.2.1 y.1).2=0:=by
 refine⟨h.lays.chain y hy,?_⟩;obtain⟨d,i,h1,h2⟩:=EE h.lays.same hy;exact(h.lays.each i y d h1 h2).2.2.2.2.2
theorem YU{ls:List aG}{ds:List Tx}{id:Tx}(h:(j9 ls ds id).2=0):Valid (j9 ls ds id).1:=by
 obtain⟨_,t⟩:=Wd h;rw[t] at h⊢;exact YO _ _ RI h
theorem abZ{s:aV}(hB:ER s)(hS:ya s)(on:Tx)(given:List Tx)(d:Int)(hg:vO given) :
  let r:=WD s on given d
  ya r.1∧ER r.1∧(r.2.1.1≠0→r.1=s)∧(r.2.1.1=0→∃x:aG,r.1=Fe s x (vI 1024)∧x.1=r.2.1.2.1∧BC x.1∧x.2.1≠x.1∧(∀y∈s.2.2.1,y.1≠x.1)):=by
 intro r;have hr:r=WD s on given d:=rfl;unfold WD at hr;by_cases c1:lY given≠0
 ·rw[bu c1] at hr;rw[hr];exact⟨hS,hB,fun _=>rfl,fun q=>absurd q c1⟩
 rw[br c1] at hr;by_cases c2:on≠[]∧(dI (yz s) on).2.1≠0
 ·rw[bu c2] at hr;rw[hr];exact⟨hS,hB,fun _=>rfl,fun q=>absurd q c2.2⟩
 rw[br c2] at hr;by_cases c3:rL (yz s) [] given≠0
 ·rw[bu c3] at hr;rw[hr];exact⟨hS,hB,fun _=>rfl,fun q=>absurd q c3⟩
 rw[br c3] at hr;by_cases c4:(eU (yz s) d).2.1≠0
 ·rw[bu c4] at hr;rw[hr];exact⟨hS,hB,fun _=>rfl,fun q=>absurd q c4⟩
 rw[br c4] at hr;by_cases c5:mN s on≠[]∧(bV s.2.2.1 (mN s on)).2=0∧16≤(bV s.2.2.1 (mN s on)).1.length
 ·rw[bu c5] at hr;rw[hr];exact⟨hS,hB,fun _=>rfl,fun q=>by cases q⟩
 rw[br c5] at hr;have c3:rL (yz s) [] given=0:=KU c3;have c4:(eU (yz s) d).2.1=0:=KU c4;obtain⟨q1,q2,q3⟩:=NX c4;have ahQ:∀y∈s.2.2.1,y.2.2.2.2.2.2.1=true:=fun y hy=>by
  obtain⟨e,i,h1,h2⟩:=EE hS.lays.same hy;exact(hS.lays.each i y e h1 h2).1
 have ahR:∀y∈s.2.2.1,((y.1,(y.2.2.1,())):Nm)∈yz s:=fun y hy=>by
  unfold yz;rw[Mn];refine⟨y,hy,?_⟩;unfold ofL;simp[ahQ y hy]
 have hlen:(yz s).length=s.2.2.1.length:=by
  unfold yz;have:∀l:List aG,(∀y∈l,y.2.2.2.2.2.2.1=true)→(l.flatMap ofL).length=l.length:=by
   intro l;induction l with
   | nil=>intro _;rfl
   | cons a r ih =>
     intro hl;rw[O3,iO,ih (fun y hy=>hl y (by simp[hy]))];have:=hl a (by simp);simp[ofL,this];omega
  exact this _ ahQ
 rw[hlen] at q1;obtain⟨f1,f2⟩:=Z2 c3 (fun y hy=>by
  obtain⟨x,hx,rfl⟩:=Z4 hy;intro he;have:=(hS.l.ll x hx).id;rw[show x.1=[] from he] at this;exact rq this)
 have hnm:∀y∈s.2.2.1,∀n∈y.2.2.1,n∉given:=fun y hy n hn=>f2 _ (ahR y hy) n hn;have hnew:∀y∈s.2.2.1,y.1≠(eU (yz s) d).1:=fun y hy=>q3 _ (ahR y hy);have hpar:mN s on=[]∨∃y∈s.2.2.1,y.1=mN s on:=by
  unfold mN;by_cases c:on=[]
  ·rw[bu c];exact .inl rfl
  ·rw[br c];right;have c6:(dI (yz s) on).2.1=0:=KU fun q=>c2 ⟨c,q⟩;obtain⟨y,hy,he⟩:=AX c6;obtain⟨x,hx,rfl⟩:=Z4 hy;exact⟨x,hx,he⟩
 generalize (eU (yz s) d).1=id at hr q2 hnew;generalize mN s on=p at hr hpar c5;have hne:p≠id:=by
  rcases hpar with q|⟨y,hy,he⟩
  ·rw[q];intro k;rw[←k] at q2;exact rq q2
  ·rw[←he];exact hnew y hy
 have akH:p=[]∨BC p:=by
  rcases hpar with q|⟨y,hy,he⟩
  ·exact .inl q
  ·exact .inr (he▸(hS.l.ll y hy).id)
 have ahS:∀{a:Tx},BC a→a.length≤1048576:=fun {a} h=>by have:=h.2;omega
 have hdl:(zN (vI 1024)).length=71:=Kp _;have hnl:(vI 1024).length=1024:=xT _;have am2:OkL (newL id p given):=⟨q2,akH.elim .inl fun q=>.inr ⟨q,hne⟩,f1,Yg _,(show(0:Int)≤1024 by decide),(show(1024:Int)≤8192 by decide),(show(0:Int)≤0 by decide),(show(0:Int)≤32 by decide)⟩;have hch:p=[]∨((bV s.2.2.1 p).2=0∧(bV s.2.2.1 p).1.length<16):=by
  rcases hpar with q|⟨y,hy,he⟩
  ·exact .inl q
  ·right;have hc:=(hS.afk hy).1;rw[he] at hc;refine⟨hc,T4 fun k=>c5 ⟨?_,hc,k⟩⟩;rintro rfl;have:=(hS.l.ll y hy).id;rw[he] at this;exact rq this
 have hap:(qb (if p=[] then [] else(j9 s.2.2.1 s.2.2.2.1 p).1) (vI 1024)).2=0:=by
  have hv:Valid (if p=[] then [] else(j9 s.2.2.1 s.2.2.2.1 p).1):=by
   by_cases k:p=[]
   ·rw[bu k];exact RI
   ·rw[br k];rcases hpar with q|⟨y,hy,he⟩
    ·exact absurd q k
    ·rw[←he];exact YU (hS.afk hy).2
  rw[ahb hv]
 rw[hr];refine⟨hS.more am2 q1 hnew hnm hch ⟨rfl,rfl,by rw[hnl];rfl,rfl,abW⟩ hap,hB.more ⟨ahS q2,?_,hg,by show(zN (vI 1024)).length≤_;rw[hdl];decide⟩ q1 (by rw[hnl];decide),fun q=>absurd rfl q,fun _=>⟨newL id p given,rfl,rfl,q2,hne,hnew⟩⟩;rcases akH with q|q
 ·show p.length≤_;rw[q];simp
 ·exact ahS q
end Go.Ge
namespace Go.Ge
variable [Lp]
theorem ya.box{s:aV}(h:ya s){b:fC}(hb:OkB b)(ZO:s.1.length<32)(hnew:∀y∈s.1,y.1≠b.1)(hnm:∀y∈s.1,∀n∈y.2.1,n∉b.2.1)(am3:xZ s b):ya (ud (·.1) s.1 b,s.2):=by
 have hmem:∀y:fC,y∈ud (fun y:fC=>y.1) s.1 b↔y=b∨y∈s.1:=fun y=>sU _;refine⟨nC.boxes ?_ ?_ (Z0 _ h.upB hnew) ?_,h.i,h.l,h.lays,h.YK,h.tops,?_,h.mts,h.RC⟩
 ·rw[HZ];omega
 ·intro y hy;rcases(hmem y).1 hy with rfl|hy
  ·exact hb
  ·exact h.b.bl y hy
 ·have hp:=(Ey (fun y:fC=>y.1) s.1 b).flatMap_right (fun y:fC=>y.2.1);rw[hp.nodup_iff,O3,List.nodup_append];refine⟨?_,h.akF,fun a ha c hc=>?_⟩
  ·have:=hb.nms;unfold nJ at this;simp only[dW,nY] at this;exact this.1.2
  ·rw[Mn] at hc;obtain⟨y,hy,hn⟩:=hc;rintro rfl;exact hnm y hy a hn ha
 ·intro y hy;rcases(hmem y).1 hy with rfl|hy
  ·exact am3
  ·exact h.refs y hy
theorem ER.box{s:aV}(h:ER s){b:fC}(hb:BdB b)(ZO:s.1.length<32):ER (ud (·.1) s.1 b,s.2):=by
 refine⟨h.ll,h.il,?_,h.xl,h.xi,fun y hy=>?_,h.dl,h.ml⟩
 ·show(ud (fun y:fC=>y.1) s.1 b).length≤40
  rw[HZ];omega
 ·rcases(sU _).1 hy with rfl|hy
  ·exact hb
  ·exact h.xb y hy
theorem RN{α:Type}(l:List α)(i:Nat)(x:α)(h:l[i]?=some x):l=l.take i++[x]++l.drop (i+1):=by
 obtain⟨hi,rfl⟩:=List.getElem?_eq_some_iff.1 h;rw[pZ,TU,←CD hi,CE]
theorem ya.less{s:aV}(h:ya s){i:Nat}{x:aG}(hx:s.2.2.1[i]?=some x)(hp:∀y∈s.2.2.1,y.2.1≠x.1)(ht:∀y∈s.2.1,y.2.2.1≠x.1)(hb:∀y∈s.1,y.2.2.2.1≠x.1)(hm:∀y∈s.2.2.2.2.1,y.1≠x.1) :
  ya (s.1,(s.2.1,(cutAt s.2.2.1 i,(cutAt s.2.2.2.1 i,s.2.2.2.2)))):=by
 obtain⟨bo,im,la,di,mo,u⟩:=s;have hu:=h.upL;have hb':=h.b;have hi':=h.i;have hl:=h.l;have Wg:=h.lays;have hmf:=h.YK;have afj:=h.tops;have hrefs:=h.refs;have ai3:=h.mts;have hms:=h.RC;have ai4:=h.akG;have hfl:=h.ag3;dsimp only at *;have hlt:=aI hx;have hcut:cutAt la i=OY (fun y:aG=>y.1) la x.1:=Z1 _ hu hx;have hsub:(cutAt la i).Sublist la:=by rw[hcut];exact Ez _ _ _
 have hmem:∀y:aG,y.1≠x.1→y∈la→y∈cutAt la i:=fun y hy hm=>by rw[hcut];exact(ag2 _).2 ⟨hm,hy⟩
 have hu2:uT (fun y:aG=>y.1) (cutAt la i):=by rw[hcut];exact afa _ hu _
 refine⟨hb',hi',nC.lays (gY hsub.length_le hfl) (fun y hy=>hl.ll y (hsub.subset hy)) hu2 (List.Nodup.sublist (Kx hsub _) ai4),?_,hmf,?_,?_,?_,hms⟩
 ·have hsame:=Wg.same;have hd:di[i]?=some (di[i]'(by omega)):=kL (by omega);have e1:=RN la i x hx;have e2:=RN di i _ hd;refine xY.less (x:=x) (d:=di[i]'(by omega)) (by rw[cW,cW];omega) hu2 (by rw[←e1];exact hu) (by rw[←e1,←e2];exact Wg) (by rw[←e1];exact hp)
 ·intro y hy;rcases afj y hy with q|⟨z,hz,q⟩
  ·exact .inl q
  ·exact .inr ⟨z,hmem z (fun k=>ht y hy (q.symm.trans k)) hz,q⟩
 ·intro y hy;obtain⟨z,hz,q⟩:=(hrefs y hy).2;exact⟨(hrefs y hy).1,z,hmem z (fun k=>hb y hy (q.symm.trans k)) hz,q⟩
 ·intro y hy;obtain⟨⟨z,hz,q⟩,k⟩:=ai3 y hy;exact⟨⟨z,hmem z (fun k=>hm y hy (q.symm.trans k)) hz,q⟩,k⟩
theorem ya.ahf{s:aV}(h:ya s)(id:Tx):ya (OY (·.1) s.1 id,s.2):=by
 have hsub:=Ez (fun y:fC=>y.1) s.1 id;exact⟨nC.boxes (gY hsub.length_le h.ag4) (fun y hy=>h.b.bl y (hsub.subset hy)) (afa _ h.upB id) (List.Nodup.sublist (Kx hsub _) h.akF),h.i,h.l,h.lays,h.YK,h.tops,fun y hy=>h.refs y (hsub.subset hy),h.mts,h.RC⟩
theorem RO{α:Type}(l:List α)(i:Nat):∀x∈cutAt l i,x∈l:=fun x hx=>by
 unfold cutAt at hx;rw[QD] at hx;exact hx.elim O1 aal
theorem ab0{α:Type}(l:List α)(i:Nat):(cutAt l i).length≤l.length:=by
 unfold cutAt;rw[iO,cW,qV];omega
theorem afl{s:aV}{id:Tx}(h:Co s id=false):(∀y∈s.2.2.1,y.2.1≠id)∧(∀y∈s.2.1,y.2.2.1≠id)∧(∀y∈s.1,y.2.2.2.1≠id):=by
 unfold Co at h;simp only[Al] at h;have key:∀{α:Type} {l:List α} {g:α→Tx},l.any (fun x=>decide (g x=id))=false→∀y∈l,g y≠id:=fun {α l g} q y hy e=>by
  have:=Z7 (p:=fun x=>decide (g x=id)) (l:=l) (bJ.1 hy).choose_spec (fo e);rw[this] at q;cases q
 exact⟨key h.1.1,key h.1.2,key h.2⟩
theorem afm{s:aV}{id:Tx}(h1:∀y∈s.2.2.1,y.2.1≠id)(h2:∀y∈s.2.1,y.2.2.1≠id)(h3:∀y∈s.1,y.2.2.2.1≠id):Co s id=false:=by
 unfold Co;rw[RM (fun y hy=>dJ (h1 y hy)),RM (fun y hy=>dJ (h2 y hy)),RM (fun y hy=>dJ (h3 y hy))];rfl
theorem ab1{s:aV}(hB:ER s)(hS:ya s)(ref:Tx):ya (dlB s ref).1∧ER (dlB s ref).1∧((dlB s ref).2.1.1≠0→(dlB s ref).1=s):=by
 unfold dlB;by_cases c1:(dI (yb s) ref).2.1=0
 rotate_left
 ·rw[bu c1];exact⟨hS,hB,fun _=>rfl⟩
 rw[br (fun q=>q c1)];obtain⟨y,hy,he⟩:=AX c1;obtain⟨b,hb,rfl⟩:=Ig hy;have he:b.1=(dI (yb s) ref).1:=he;rw[←he,OA hS.upB hb];by_cases c2:(∃m∈s.2.2.2.2.1,m.1=b.2.2.2.1)∨Co (OY (·.1) s.1 b.1,s.2) b.2.2.2.1=true
 ·rw[bu c2];exact⟨hS,hB,fun _=>rfl⟩
 rw[br c2];have hq:Co (OY (fun z:fC=>z.1) s.1 b.1,s.2) b.2.2.2.1=false:=by
  cases q:Co (OY (fun z:fC=>z.1) s.1 b.1,s.2) b.2.2.2.1 with
  | false=>rfl
  | true=>exact absurd (.inr q) c2
 obtain⟨u1,u2,u3⟩:=afl hq;obtain⟨z,hz,hze⟩:=(hS.refs b hb).2;obtain⟨i,hi⟩:=bJ.1 hz;have afi:Wf s b.2.2.2.1=i:=by unfold Wf;rw[←hze,wP hS.upL hi];rfl
 rw[afi];rw[←hze] at u1 u2 u3;refine⟨(hS.ahf b.1).less (s:=(OY (fun z:fC=>z.1) s.1 b.1,s.2)) hi u1 u2 u3 (fun m hm e=>c2 (.inl ⟨m,hm,e.trans hze⟩)),?_,fun q=>absurd rfl q⟩;exact⟨gY (ab0 _ _) hB.ll,hB.il,gY (Ez _ _ _).length_le hB.bl,fun y hy=>hB.xl y (RO _ _ y hy),hB.xi,fun y hy=>hB.xb y ((Ez _ _ _).subset hy),fun y hy=>hB.dl y (RO _ _ y hy),hB.ml⟩
end Go.Ge
namespace Go.Ge
variable [Lp]
theorem RP{s:aV}(hB:ER s)(hS:ya s)(image:Tx)(given:List Tx)(meta':Tx)(d:Int)(hg:vO given) :
  let r:=crB s image given meta' d
  ya r.1∧ER r.1∧(r.2.1.1≠0→r.1=s)∧(r.2.1.1=0→∃(b:fC) (x:aG),r.1=(ud (·.1) s.1 b,(Fe s x (vI 1024)).2)∧b.1=r.2.1.2.1∧b.2.1=given∧b.2.2.2.1=x.1∧r.2.1.2.2.2.1=x.1∧r.2.1.2.2.1=0 ∧
   (∀y∈s.1,y.1≠b.1)∧(∀y∈s.1,∀n∈y.2.1,n∉given)∧BC x.1∧x.2.1≠x.1∧(∀y∈s.2.2.1,y.1≠x.1)):=by
 intro r;have hr:r=crB s image given meta' d:=rfl;unfold crB at hr;by_cases c1:lY given≠0∨64<meta'.length
 ·rw[bu c1] at hr;rw[hr];exact⟨hS,hB,fun _=>rfl,fun q=>by cases q⟩
 rw[br c1] at hr;by_cases c2:image≠[]∧(dI (Tn s) image).2.1≠0
 ·rw[bu c2] at hr;rw[hr];exact⟨hS,hB,fun _=>rfl,fun q=>absurd q c2.2⟩
 rw[br c2] at hr;by_cases c3:rL (yb s) [] given≠0
 ·rw[bu c3] at hr;rw[hr];exact⟨hS,hB,fun _=>rfl,fun q=>absurd q c3⟩
 rw[br c3] at hr;by_cases c4:(eU (yb s) (JR d)).2.1≠0
 ·rw[bu c4] at hr;rw[hr];exact⟨hS,hB,fun _=>rfl,fun q=>absurd q c4⟩
 rw[br c4] at hr;have hs0:=abZ hB hS (if image=[] then [] else Cn s (AY s image)) [] (AZ d) ⟨by simp,fun x hx=>(by cases hx)⟩;generalize WD s (if image=[] then [] else Cn s (AY s image)) [] (AZ d)=q at hr hs0;obtain⟨a1,a2,a3,a4⟩:=hs0;by_cases c5:q.2.1.1≠0
 ·rw[bu c5] at hr;rw[hr];exact⟨hS,hB,fun _=>rfl,fun k=>absurd k c5⟩
 rw[br c5] at hr;have c5:q.2.1.1=0:=KU c5;have c3:rL (yb s) [] given=0:=KU c3;have c4:(eU (yb s) (JR d)).2.1=0:=KU c4;obtain⟨x,x1,x2,x3,x4,x5⟩:=a4 c5;obtain⟨q1,q2,q3⟩:=NX c4;rw[YT] at q1;obtain⟨f1,f2⟩:=Z2 c3 (fun y hy=>by
  obtain⟨x,hx,rfl⟩:=Ig hy;intro he;have:=(hS.b.bl x hx).id;rw[show x.1=[] from he] at this;exact rq this)
 have f2':∀y∈s.1,∀n∈y.2.1,n∉given:=fun y hy n hn=>f2 _ (Mf hy) n hn;have q3':∀y∈s.1,y.1≠(eU (yb s) (JR d)).1:=fun y hy=>q3 _ (Mf hy);have ai6:AY s image=[]∨∃y∈s.2.1,y.1=AY s image:=by
  unfold AY;by_cases c:image=[]
  ·rw[bu c];exact .inl rfl
  ·rw[br c];right;have c6:(dI (Tn s) image).2.1=0:=KU fun k=>c2 ⟨c,k⟩;obtain⟨y,hy,he⟩:=AX c6;obtain⟨z,hz,rfl⟩:=Z3 hy;exact⟨z,hz,he⟩
 generalize (eU (yb s) (JR d)).1=id at hr q2 q3';generalize AY s image=im at hr ai6;have ahT:im=[]∨BC im:=by
  rcases ai6 with k|⟨y,hy,he⟩
  ·exact .inl k
  ·exact .inr (he▸(hS.i.il y hy).id)
 have akI:meta'.length≤64:=by
  have:¬64<meta'.length:=fun k=>c1 (.inr k);omega
 have hlen:∀{a:Tx},BC a→a.length≤1048576:=fun {a} h=>by have:=h.2;omega
 have hok:OkB ((id,(given,(im,(q.2.1.2.1,(meta',([],())))))):fC):=⟨q2,f1,ahT,by rw[show((id,(given,(im,(q.2.1.2.1,(meta',([],())))))):fC).2.2.2.1=q.2.1.2.1 from rfl,←x2];exact x3,akI,⟨by simp,List.Pairwise.nil,fun x hx=>(by cases hx)⟩⟩;have e1:q.1.1=s.1:=by rw[x1];rfl
 rw[hr];have hxm:x∈q.1.2.2.1:=by rw[x1];exact(sU _).2 (.inl rfl)
 have akJ:=a1.box hok (by rw[e1];exact q1) (by rw[e1];exact q3') (by rw[e1];exact f2') ⟨by rw[x1];exact ai6,x,hxm,x2⟩
 have hbd:=a2.box (b:=((id,(given,(im,(q.2.1.2.1,(meta',([],())))))):fC)) ⟨hlen q2,hg,by rcases ahT with k|k;· rw[show((id,(given,(im,(q.2.1.2.1,(meta',([],())))))):fC).2.2.1=im from rfl,k];simp
                                                                                         ·exact hlen k,by rw[show((id,(given,(im,(q.2.1.2.1,(meta',([],())))))):fC).2.2.2.1=q.2.1.2.1 from rfl,←x2];exact hlen x3,⟨by simp,fun x hx=>(by cases hx)⟩⟩ (by rw[e1];exact q1)
 rw[e1] at akJ hbd;exact⟨akJ,hbd,fun k=>absurd rfl k,fun _=>⟨_,x,by rw[x1],rfl,rfl,x2.symm,x2.symm,rfl,q3',f2',x3,x4,x5⟩⟩
theorem afn{α:Type}(key:α→Tx)(l:List α)(x:α)(h:∀y∈l,key y≠key x):OY key (ud key l x) (key x)=l:=by
 have e:=KT (p:=fun y:α=>jy (key y) (key x)) (l:=l);have hf:∀m:List α,(∀y∈m,y∈l)→m.filter (fun y=>decide (key y≠key x))=m:=fun m hm=>by
  rw[acK];intro y hy;exact fo (h y (hm y hy))
 have e1:=hf (l.takeWhile (fun y=>jy (key y) (key x))) (fun y hy=>by rw[←e];exact GH _ hy);have e2:=hf (l.dropWhile (fun y=>jy (key y) (key x))) (fun y hy=>by rw[←e];exact KW _ hy);have e3:[x].filter (fun y=>decide (key y≠key x))=[]:=by simp
 unfold ud OY;rw[Y5,Y5,e1,e2,e3,Am,e]
theorem RQ{α:Type}(p r:List α)(x:α)(k:Nat)(hk:p.length=k):cutAt (p++[x]++r) k=p++r:=by
 subst hk;unfold cutAt;rw[pZ,JW,List.drop_append];simp
theorem Wh{nm:Tx}(h6:nm.length≠6){s:aV}(hB:ER s)(hS:ya s){b:fC}{x:aG}{t:aV}(ht:t=(ud (·.1) s.1 b,(Fe s x (vI 1024)).2))(hT:ya t)(hnm:nm∈b.2.1)(am5:b.2.2.2.1=x.1)(hbn:∀y∈s.1,y.1≠b.1)
  (hfree:∀y∈s.1,∀n∈y.2.1,n∉b.2.1) (akK:BC x.1) (hxp:x.2.1≠x.1) (hxn:∀y∈s.2.2.1,y.1≠x.1):dI (yb t) nm=(b.1,(0,()))∧dlB t nm=(s,(RD b.1,())):=by
 have hbm:b∈t.1:=by rw[ht];exact(sU _).2 (.inl rfl)
 have hmem:∀z∈t.1,z=b∨z∈s.1:=fun z hz=>by rw[ht] at hz;exact(sU _).1 hz
 have ahU:dI (yb t) nm=(b.1,(0,())):=by
  refine YM (x:=(b.1,(b.2.1,()))) (Mf hbm) hnm (fun y hy he=>?_) (fun y hy hn=>?_)
  ·obtain⟨z,hz,rfl⟩:=Ig hy;have:=(hT.b.bl z hz).id.2;rw[show z.1=nm from he] at this;exact h6 this
  ·obtain⟨z,hz,rfl⟩:=Ig hy;rcases hmem z hz with rfl|hz
   ·rfl
   ·exact absurd hnm (hfree z hz nm hn)
 refine⟨ahU,?_⟩;have hlb:YS t b.1=x.1:=by rw[OA hT.upB hbm,am5]
 have hrm:OY (fun z:fC=>z.1) t.1 b.1=s.1:=by rw[ht];exact afn _ _ _ hbn
 have akL:x.1≠[]:=fun q=>by rw[q] at akK;exact rq akK
 have hmt:¬∃m∈t.2.2.2.2.1,m.1=x.1:=by
  rintro⟨m,hm,he⟩;rw[ht] at hm;obtain⟨⟨z,hz,k⟩,_⟩:=hS.mts m hm;exact hxn z hz (k.trans he)
 have hus:Co (OY (fun z:fC=>z.1) t.1 b.1,t.2) x.1=false:=by
  rw[hrm];refine afm (fun y hy=>?_) (fun y hy=>?_) (fun y hy=>?_)
  ·rw[ht] at hy;rcases(sU _).1 hy with rfl|hy
   ·exact hxp
   ·intro e;rcases RG hS.upL hy (hS.lays.chain y hy) with k|⟨z,hz,k⟩
    ·exact akL (e.symm.trans k)
    ·exact hxn z hz (k.trans e)
  ·rw[ht] at hy;intro e;rcases hS.tops y hy with k|⟨z,hz,k⟩
   ·exact akL (e.symm.trans k)
   ·exact hxn z hz (k.trans e)
  ·intro e;obtain⟨z,hz,k⟩:=(hS.refs y hy).2;exact hxn z hz (k.trans e)
 unfold dlB;rw[ahU];dsimp only;rw[br (fun q=>q rfl),hlb,br (by
  rintro(q|q)
  ·exact hmt q
  ·rw[hus] at q;cases q),hrm]
 obtain⟨p1,r1,p2,r2,e1,e2,e3,e4,e5,e6⟩:=Ky s.2.2.1 s.2.2.2.1 x (vI 1024) hS.lays.same;have afi:Wf t x.1=p1.length:=by
  unfold Wf;have hi:t.2.2.1[p1.length]?=some x:=by
   rw[ht];show(ud (fun y:aG=>y.1) s.2.2.1 x)[p1.length]?=some x
   rw[e5];simp
  rw[wP hT.upL hi];rfl
 rw[afi];have g1:cutAt t.2.2.1 p1.length=s.2.2.1:=by
  rw[ht];show cutAt (ud (fun y:aG=>y.1) s.2.2.1 x) p1.length=s.2.2.1
  rw[e5,RQ _ _ _ _ rfl,←e2]
 have g2:cutAt t.2.2.2.1 p1.length=s.2.2.2.1:=by
  rw[ht];show cutAt (Ic s.2.2.2.1 (fQ (fun y:aG=>y.1) s.2.2.1 x.1) (vI 1024)) p1.length=s.2.2.2.1
  rw[e6,RQ _ _ _ _ e1.symm,←e3]
 rw[g1,g2,ht];rfl
end Go.Ge
namespace Go.Ge
variable [Lp]
set_option maxRecDepth 100000
def ES:aV:=([],([],([],([],([],())))))
def ab2:Tx:=[48,48,48,48,48,53]
def JS:Tx:=[48,48,48,48,48,57]
def ai7:fC:=(ab2,([[99]],([],(JS,([109],([],()))))))
def LI:aV:=([ai7],([],([newL JS [] []],([vI 1024],([],())))))
def YV:aV:=([ai7],([],([newL JS [] []],([vI 1024],([(JS,(1,()))],())))))
theorem Mg:ER ES:=⟨by decide,by decide,by decide,fun x hx=>(by cases hx),fun x hx=>(by cases hx),fun x hx=>(by cases hx),fun x hx=>(by cases hx),by decide⟩
theorem Mh:ya ES:=⟨nC.boxes (by decide) (fun x hx=>(by cases hx)) List.Pairwise.nil Zd,nC.ai1 (by decide) (fun x hx=>(by cases hx)) List.Pairwise.nil Zd,nC.lays (by decide) (fun x hx=>(by cases hx)) List.Pairwise.nil Zd,
 ⟨rfl,fun x hx=>(by cases hx),fun i x d hx=>(by cases i<;>cases hx)⟩,by decide,fun x hx=>(by cases hx),fun x hx=>(by cases hx),fun x hx=>(by cases hx),List.Pairwise.nil⟩
theorem cr9:WD ES [] [] (AZ 150994949)=(Fe ES (newL JS [] []) (vI 1024),(RD JS,())):=by
 have h1:lY []=0:=by kernel_rfl
 have h2:rL (yz ES) [] []=0:=by kernel_rfl
 have h3:eU (yz ES) (AZ 150994949)=(JS,(0,())):=by kernel_rfl
 unfold WD;rw[br (fun q=>q h1),br (fun q=>q.1 rfl),br (fun q=>q h2),h3,br (fun q=>q rfl),br (fun q=>q.1 (bu rfl)),show mN ES []=[] from bu rfl]
theorem cr5:crB ES [] [[99]] [109] 150994949=(LI,((0,(ab2,(0,(JS,())))),())):=by
 have h1:lY [[99]]=0:=by kernel_rfl
 have h2:rL (yb ES) [] [[99]]=0:=by kernel_rfl
 have h3:eU (yb ES) (JR 150994949)=(ab2,(0,())):=by kernel_rfl
 unfold crB;rw[br (by rintro(q|q);exact q h1;exact absurd q (by decide)),br (fun q=>q.1 rfl),br (fun q=>q h2),h3,br (fun q=>q rfl),bu rfl,cr9,br (fun q=>q rfl)];rfl
theorem ab3(bo:List fC)(im:List fN)(la:List aG)(di:List Tx):uW ((bo,(im,(la,(di,([],()))))),(JS,((1:Int),())))=some ((bo,(im,(la,(di,([(JS,(1,()))],()))))),()):=by
 rename_i i;obtain rfl:i=Lp.ajy:=Lp.one _ _;kernel_rfl
theorem Tp:kH ()=some (true,()):=by
 have hg9:vO [[99]]:=⟨by simp,fun x hx=>by rw[Cw] at hx;subst hx;simp⟩;obtain⟨a1,a2,_,a4⟩:=RP Mg Mh [] [[99]] [109] 150994949 hg9;have hcv:=uf ES [] [[99]] [109] 150994949 Mg.hd Mh.upI Mh.upL rfl (by simp);rw[cr5] at a1 a2 a4 hcv;obtain⟨b,x,x1,x2,x3,x4,x5,x6,x7,x8,x9,x10,x11⟩:=a4 rfl;obtain⟨_,k2⟩:=Wh (nm:=[99]) (by decide) Mg Mh x1 a1 (by rw[x3];exact List.mem_singleton.2 rfl) x4 x7 (by rw[x3];exact x8) x9 x10 x11;have hT7:ya YV:=⟨a1.b,a1.i,a1.l,a1.lays,by show 1≤32;decide,a1.tops,a1.refs,fun m hm=>by
  obtain rfl:m=(JS,(1,())):=List.mem_singleton.1 hm;exact⟨⟨newL JS [] [],List.mem_singleton.2 rfl,rfl⟩,(show(1:Int)≤1 by decide),(show(1:Int)≤1000 by decide)⟩,List.pairwise_singleton _ _⟩
 have hB7:ER YV:=⟨a2.ll,a2.il,a2.bl,a2.xl,a2.xi,a2.xb,a2.dl,by show 1≤1000000;decide⟩;obtain⟨g,OU,hg2⟩:=zU LI ab2 a2.hd a2.bits;have hgx:=hg2 ai7 (List.mem_singleton.2 rfl) a1.upB rfl;have h2:gL (LI,([120],([],([],((5:Int),())))))=some (LI,(H6 3,())):=by
  rw[uf LI [120] [] [] 5 a2.hd a1.upI a1.upL a1.lays.same (by simp)];have h1:lY []=0:=by kernel_rfl
  have h3:(dI (Tn LI) [120]).2.1=3:=by kernel_rfl
  unfold crB;rw[br (by rintro(q|q);exact q h1;exact absurd q (by decide)),bu ⟨by decide,by rw[h3];decide⟩,h3]
 have h4:fR (YV,([99],()))=some (YV,(H6 7,())):=by
  rw[pW YV [99] hB7 hT7];have h5:dI (yb YV) [99]=(ab2,(0,())):=by kernel_rfl
  unfold dlB;rw[h5,br (fun q=>q rfl),bu (.inl ⟨(JS,(1,())),List.mem_singleton.2 rfl,by kernel_rfl⟩)]
 have h5:fR (LI,([99],()))=some (ES,(RD b.1,())):=by rw[pW LI [99] a2 a1,k2]
 have hmay:j7 (LI,())=some (true,()):=by
  obtain⟨c,g1,g2⟩:=JN LI a2;rw[g1,g2.2 a1]
 have hsame:fP (ES,(ES,()))=some (true,()):=Kw ES Mg (by decide);have x2:b.1=ab2:=x2;unfold kH;rw[show gL ((([]:List fC),(([]:List fN),(([]:List aG),(([]:List (List (UInt8))),(([]:List zP),()))))),(([]:List (UInt8)),(([([(99:UInt8)]:List (UInt8))]:List (List (UInt8))),(([(109:UInt8)]:List (UInt8)),((150994949:Int),())))))=_ from hcv,aa];dsimp only;rw[h2,aa,show uW (LI,(([(48:UInt8),(48:UInt8),(48:UInt8),(48:UInt8),(48:UInt8),(57:UInt8)]:List (UInt8)),((1:Int),())))=some (YV,()) from ab3 _ _ _ _,aa];dsimp only;rw[h4,aa,h5,aa,show oS (LI,(([(48:UInt8),(48:UInt8),(48:UInt8),(48:UInt8),(48:UInt8),(53:UInt8)]:List (UInt8)),()))=some g from OU,aa,hgx,x2];dsimp only;rw[hmay,show fP (ES,((([]:List fC),(([]:List fN),(([]:List aG),(([]:List (List (UInt8))),(([]:List zP),()))))),()))=some (true,()) from hsame];rfl
end Go.Ge
namespace Go.Ge
variable [Lp]
theorem RR{c:Bool}{x:Option (Bool×Unit)}(h:c=false→x=some (true,())):aj c (ah (kH ()) fun y=>some (y.1,())) x=some (true,()):=by
 cases c with
 | true=>rw[ag,Tp];rfl
 | false=>rw[af];exact h rfl
theorem OB(s:aV)(xs:List Tx)(n:Int)(hx:xs.length=2)(hk:BkS s):mB (s,(xs,(n,())))=some (true,()):=by
 obtain⟨image,meta',rfl⟩:∃a b,xs=[a,b]:=by
  match xs,hx with
  | [a,b],_=>exact⟨a,b,rfl⟩
 obtain⟨bf,e1,f1⟩:=abp s;unfold mB;dsimp only;have w0:within (0:Int) 2=true:=rfl;have w1:within (1:Int) 2=true:=rfl;have i0:idx [image,meta'] (0:Int)=some image:=rfl;have i1:idx [image,meta'] (1:Int)=some meta':=rfl;simp only[w0,w1,ag,i0,i1,aa];rw[e1,aa];dsimp only;rw[ua rfl,ua rfl];cases bf with
 | false =>
   rw[show(!(nt (!(nt (nt false))||bB (100:Int) (@len UInt8 image)))||bB (100:Int) (@len UInt8 meta'))=true from rfl,aJ,af,aa];exact RR fun q=>by cases q
 | true =>
 have hF:=f1 rfl;have hB:=hF.bd hk;obtain⟨bm,e2,f2⟩:=JN s hB;rw[ua (by rw[e2,aa])];refine RR fun hc=>?_;have hS:ya s:=f2.1 (by
  cases bm with
  | true=>rfl
  | false =>
    exfalso
    revert hc
    cases bB (100:Int) (len image)<;>cases bB (100:Int) (len meta')<;>simp[nt])
 have ai8:vO [zT]:=⟨by simp,fun x hx=>by rw[Cw] at hx;subst hx;simp[zT]⟩;rw[show([([(102:UInt8),(114:UInt8),(101:UInt8),(115:UInt8),(104:UInt8),(45:UInt8),(110:UInt8),(97:UInt8),(109:UInt8),(101:UInt8)]:List (UInt8))]:List (List (UInt8)))=[zT] from rfl,
  show([(102:UInt8),(114:UInt8),(101:UInt8),(115:UInt8),(104:UInt8),(45:UInt8),(110:UInt8),(97:UInt8),(109:UInt8),(101:UInt8)]:List (UInt8))=zT from rfl]
 rw[uf s image [zT] meta' n hB.hd hS.upI hS.upL hS.lays.same (by simp),aa,pW s image hB hS,aa];obtain⟨a1,a2,a3,a4⟩:=RP hB hS image [zT] meta' n ai8;obtain⟨b1,b2,b3⟩:=ab1 hB hS image;generalize crB s image [zT] meta' n=ra at a1 a2 a3 a4;generalize dlB s image=rb at b1 b2 b3;have akM:∀t:aV,ya t→ER t→j7 (t,())=some (true,()):=fun t h1 h2=>by
  obtain⟨b,g1,g2⟩:=JN t h2;rw[g1,g2.2 h1]
 have rF:=Kw s hB (by have:=hF.akv;omega);rw[akM _ a1 a2,aa,ua (by rw[akM _ b1 b2,aa])];have n1:(ah (aj (nt (bI ra.2.1.1 (0:Int))) (ah (fP (ra.1,(s,()))) (fun(iK:Bool×Unit)=>some (nt iK.1))) (some false)) (fun(iK:Bool)=>some iK))=some false:=by
  by_cases q:ra.2.1.1=0
  ·rw[aP q];rfl
  ·rw[aM q,aF,ag,a3 q,rF];rfl
 have n2:(ah (aj (nt (bI rb.2.1.1 (0:Int))) (ah (fP (rb.1,(s,()))) (fun(gq:Bool×Unit)=>some (nt gq.1))) (some false)) (fun(gq:Bool)=>some gq))=some false:=by
  by_cases q:rb.2.1.1=0
  ·rw[aP q];rfl
  ·rw[aM q,aF,ag,b3 q,rF];rfl
 rw[ua n1,ua n2,show(!(nt (!(nt (!(nt (nt true))||nt true))||false))||false)=false from rfl,af];by_cases q:ra.2.1.1=0
 rotate_left
 ·rw[aM q,aF,ag,Tp];rfl
 rw[aP q,aJ,af,DK ra.1 zT a2.hd,aa];obtain⟨b,x,x1,x2,x3,x4,x5,x6,x7,x8,x9,x10,x11⟩:=a4 q;obtain⟨g,OU,hg2⟩:=zU ra.1 ra.2.1.2.1 a2.hd a2.bits;have hbm:b∈ra.1.1:=by rw[x1];exact(sU _).2 (.inl rfl)
 have hgx:=hg2 b hbm a1.upB x2;obtain⟨k1,k2⟩:=Wh (nm:=zT) (by decide) hB hS x1 a1 (by rw[x3];exact List.mem_singleton.2 rfl) x4 x7 (by rw[x3];exact x8) x9 x10 x11;rw[OU,aa,pW ra.1 zT a2 a1,aa,k1,k2,hgx,rF];dsimp only;rw[x2,x4,x5,rj,rj,Tp];simp only[RD];rw[rj];rfl
end Go.Ge
