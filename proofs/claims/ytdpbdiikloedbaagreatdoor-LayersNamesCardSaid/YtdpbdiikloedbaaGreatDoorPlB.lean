/- Plain laws of what the functions compute: part 2. -/
import Derived.Test.YtdpbdiikloedbaaGreatDoorPlA
set_option linter.unusedSectionVars false
set_option linter.unusedVariables false
set_option linter.unusedSimpArgs false
noncomputable section
namespace Go.Ge
variable [Lp]
set_option maxRecDepth 100000
abbrev Av:=(Int×(List (Sb×Sb×(List Sb)×Sb×Int×Int×Bool×Unit))×(List (Sb×(List Sb)×Sb×Sb×(List (Sb×Sb×Sb×Unit))×Unit))×(List (Sb×(List Sb)×Sb×Sb×Sb×(List (Sb×Sb×Sb×Unit))×Unit))×Unit)
abbrev bJ:=(Sb×(List Sb)×Unit)
abbrev lX:=(Bool×Int×Unit)
abbrev jJ:=(Int×Int×Unit)
abbrev tT:=(List (Sb×Sb×Sb×Unit))
abbrev en:=(Nat×lX×Unit)
abbrev vz:=((Int×Unit)×Unit×(List bJ)×Unit)
abbrev vA:=((Unit×Int×Unit)×(List bJ)×Unit)
abbrev Dd:=(Sb×Sb×(List Sb)×Sb×Int×Int×Bool×Unit)
abbrev De:=(Sb×(List Sb)×Sb×Sb×Sb×tT×Unit)
abbrev xG:=(Sb×(List Sb)×Sb×Sb×tT×Unit)
abbrev cA:=(lX×Unit)
abbrev vB:=(Nat×jJ×(List Sb)×Unit)
abbrev HH:=((Nat×(Int×Unit)×Unit×(List bJ)×Unit))
abbrev HJ:=((Nat×(Unit×Int×Unit)×(List bJ)×Unit))
abbrev lY:=(Nat×jJ×Unit)
abbrev vC:=(jJ×(List Sb)×Unit)
abbrev lZ:=(jJ×Unit)
def cX(l:List (List UInt8))(x:Unit):Option (List (List UInt8)):=bif fits (len l) then some (lR l) else none
def dF(l:List (List UInt8))(x:Unit):Option (List (List UInt8)):=some (Lib.compact (α:=List UInt8) l)
def jr(x:(List Sb)×Unit)(y1:lX×Unit):Option (cA⊕en) :=
 aq (aq (aX y1.1.2.1 (@len Sb x.1))
 (aX y1.1.2.1 (8:Int))
 false)
 (aa (@idx Sb x.1 y1.1.2.1) (fun(y2:List (UInt8))=>aq (aX (100:Int) (@len UInt8 y2))
 (some (Sum.inr ((1:Nat),((false,(y1.1.2.1,())),())):(cA)⊕(en)))
 (some (Sum.inl ((y1.1.1,(aD IntKind.i64 y1.1.2.1 (1:Int),())),()):(cA)⊕(en)))))
 (some (Sum.inr ((0:Nat),((y1.1.1,(y1.1.2.1,())),())):(cA)⊕(en)))
def mG(x:(List Sb)×Unit):Option (Bool×Unit) :=
 aa (Loop (jr x) ((false,((0:Int),())),())) (fun(y1:Nat×lX×Unit)=>aq (eY y1.1 (0:Nat))
 (some (cK (@len Sb x.1) (8:Int),()))
 (some (y1.2.1.1,())))
def bD(x:(List Sb)×Unit):Option ((List Sb)×Unit) :=
 bif fits (len x.1) then some (x.1,()) else none
def nT(x:Sb×Unit):Option (Bool×Unit) :=
 aa (aq (aq (cK (1:Int) (@len UInt8 x.1))
 (cK (@len UInt8 x.1) (32:Int))
 false)
 (aa (lW (x.1,(([(97:UInt8),(98:UInt8),(99:UInt8),(100:UInt8),(101:UInt8),(102:UInt8),(103:UInt8),(104:UInt8),(105:UInt8),(106:UInt8),(107:UInt8),(108:UInt8),(109:UInt8),(110:UInt8),(111:UInt8),(112:UInt8),(113:UInt8),(114:UInt8),(115:UInt8),(116:UInt8),(117:UInt8),(118:UInt8),(119:UInt8),(120:UInt8),(121:UInt8),(122:UInt8),(48:UInt8),(49:UInt8),(50:UInt8),(51:UInt8),(52:UInt8),(53:UInt8),(54:UInt8),(55:UInt8),(56:UInt8),(57:UInt8),(46:UInt8),(95:UInt8),(45:UInt8)]:List (UInt8)),()))) (fun(y1:Sb×Unit)=>some (bX y1.1 ([]:List (UInt8)))))
 (some false)) (fun(y1:Bool)=>some (y1,()))
def mH(x:(List Sb)×Unit)(y3:jJ×Unit):Option (lZ⊕lY) :=
 aq (aX y3.1.2.1 (@len Sb x.1))
 (aa (@idx Sb x.1 y3.1.2.1) (fun(y4:List (UInt8))=>aa (nT (y4,())) (fun(y5:Bool×Unit)=>aq (nt y5.1)
 (some (Sum.inr ((1:Nat),((y3.1.2.1,(y3.1.2.1,())),())):(lZ)⊕(lY)))
 (some (Sum.inl ((y3.1.1,(aD IntKind.i64 y3.1.2.1 (1:Int),())),()):(lZ)⊕(lY))))))
 (some (Sum.inr ((0:Nat),((y3.1.1,(y3.1.2.1,())),())):(lZ)⊕(lY)))
def nC(x:(List Sb)×Unit):Option (Int×Unit) :=
 aq (fits (@len Sb x.1))
 (aa (cX x.1 ()) (fun(y1:List Sb)=>aa (dF y1 ()) (fun(y2:List Sb)=>aa (Loop (mH x) (((0:Int),((0:Int),())),())) (fun(y3:Nat×jJ×Unit)=>aq (eY y3.1 (0:Nat))
 (aq (aq (nt (aq (nt (aX (4:Int) (@len Sb x.1)))
 (aX (@len Sb y2) (@len Sb x.1))
 true))
 (cK (0:Int) (-1:Int))
 true)
 (some ((1:Int),()))
 (some ((0:Int),())))
 (aq (aq (nt (aq (nt (aX (4:Int) (@len Sb x.1)))
 (aX (@len Sb y2) (@len Sb x.1))
 true))
 (cK (0:Int) y3.2.1.1)
 true)
 (some ((1:Int),()))
 (some ((0:Int),())))))))
 none
def nU(x:(List bJ)×Sb×Unit)(y1:jJ×Sb×Unit):Option ((jJ×Sb×Unit)⊕(Nat×jJ×Sb×Unit)) :=
 aq (aX y1.1.2.1 (@len bJ x.1))
 (aa (@idx bJ x.1 y1.1.2.1) (fun(y2:Sb×(List Sb)×Unit)=>aq (bX y2.1 y1.2.1)
 (some (Sum.inr ((1:Nat),((y1.1.2.1,(y1.1.2.1,())),(y1.2.1,()))):((jJ×Sb×Unit))⊕((Nat×jJ×Sb×Unit))))
 (some (Sum.inl ((y1.1.1,(aD IntKind.i64 y1.1.2.1 (1:Int),())),(y1.2.1,())):((jJ×Sb×Unit))⊕((Nat×jJ×Sb×Unit))))))
 (some (Sum.inr ((0:Nat),((y1.1.1,(y1.1.2.1,())),(y1.2.1,()))):((jJ×Sb×Unit))⊕((Nat×jJ×Sb×Unit))))
def uC(x:(List bJ)×Sb×Unit):Option (Int×Unit) :=
 aa (Loop (nU x) (((0:Int),((0:Int),())),(x.2.1,()))) (fun(y1:Nat×jJ×Sb×Unit)=>aq (eY y1.1 (0:Nat))
 (some ((-1:Int),()))
 (some (y1.2.1.1,())))
def iy(y4:Sb×(List Sb)×Unit)(y5:jJ×(List Sb)×Unit):Option (vC⊕vB) :=
 aq (aX y5.1.2.1 (@len Sb y4.2.1))
 (aa (@idx Sb y4.2.1 y5.1.2.1) (fun(y6:List (UInt8))=>aa (bP (y5.2.1,(y6,()))) (fun(y7:Bool×Unit)=>aq y7.1
 (some (Sum.inr ((1:Nat),((y5.1.2.1,(y5.1.2.1,())),(y5.2.1,()))):(vC)⊕(vB)))
 (some (Sum.inl ((y5.1.1,(aD IntKind.i64 y5.1.2.1 (1:Int),())),(y5.2.1,())):(vC)⊕(vB))))))
 (some (Sum.inr ((0:Nat),((y5.1.1,(y5.1.2.1,())),(y5.2.1,()))):(vC)⊕(vB)))
def nV(x:(List bJ)×Sb×(List Sb)×Unit)(y2:Int×Unit)(y3:jJ×(List Sb)×Unit):Option (vC⊕vB) :=
 aq (aX y3.1.2.1 (@len bJ x.1))
 (aa (@idx bJ x.1 y3.1.2.1) (fun(y4:Sb×(List Sb)×Unit)=>aq (nt (bI y3.1.2.1 y2.1))
 (aa (Loop (iy y4) (((0:Int),((0:Int),())),(y3.2.1,()))) (fun(y5:Nat×jJ×(List Sb)×Unit)=>aq (eY y5.1 (0:Nat))
 (aq (cK (0:Int) (-1:Int))
 (some (Sum.inr ((1:Nat),(((8:Int),(y3.1.2.1,())),(y5.2.2.1,()))):(vC)⊕(vB)))
 (some (Sum.inl ((y3.1.1,(aD IntKind.i64 y3.1.2.1 (1:Int),())),(y5.2.2.1,())):(vC)⊕(vB))))
 (aq (cK (0:Int) y5.2.1.1)
 (some (Sum.inr ((1:Nat),(((8:Int),(y3.1.2.1,())),(y5.2.2.1,()))):(vC)⊕(vB)))
 (some (Sum.inl ((y3.1.1,(aD IntKind.i64 y3.1.2.1 (1:Int),())),(y5.2.2.1,())):(vC)⊕(vB))))))
 (some (Sum.inl ((y3.1.1,(aD IntKind.i64 y3.1.2.1 (1:Int),())),(y3.2.1,())):(vC)⊕(vB)))))
 (some (Sum.inr ((0:Nat),((y3.1.1,(y3.1.2.1,())),(y3.2.1,()))):(vC)⊕(vB)))
def uD(x:(List bJ)×Sb×(List Sb)×Unit):Option (Int×Unit) :=
 aa (nC (x.2.2.1,())) (fun(y1:Int×Unit)=>aq (nt (bI y1.1 (0:Int)))
 (some (y1.1,()))
 (aa (uC (x.1,(x.2.1,()))) (fun(y2:Int×Unit)=>aa (Loop (nV x y2) (((0:Int),((0:Int),())),(x.2.2.1,()))) (fun(y3:Nat×jJ×(List Sb)×Unit)=>aq (eY y3.1 (0:Nat))
 (some ((0:Int),()))
 (some (y3.2.1.1,()))))))
def rJ(x:Int×Av×Unit)(y1:(Int×Unit)×Unit×(List bJ)×Unit):Option (vz⊕vz) :=
 @cM vz (aq (aX y1.1.1 (@len De x.2.1.2.2.2.1))
 (aa (@idx De x.2.1.2.2.2.1 y1.1.1) (fun(y2:Sb×(List Sb)×Sb×Sb×Sb×tT×Unit)=>aa (bD (y2.2.1,())) (fun(y3:(List Sb)×Unit)=>aq (fits (plus (@len bJ y1.2.2.1) (@len bJ ([(y2.1,(y3.1,()))]:List bJ))))
 (some (Sum.inl ((aD IntKind.i64 y1.1.1 (1:Int),()),((),(@app bJ y1.2.2.1 ([(y2.1,(y3.1,()))]:List bJ),()))):(vz)⊕HH))
 none)))
 (some (Sum.inr ((0:Nat),((y1.1.1,()),((),(y1.2.2.1,())))):(vz)⊕HH)))
def rK(x:Int×Av×Unit)(y1:(Int×Unit)×Unit×(List bJ)×Unit):Option (vz⊕vz) :=
 @cM vz (aq (aX y1.1.1 (@len xG x.2.1.2.2.1))
 (aa (@idx xG x.2.1.2.2.1 y1.1.1) (fun(y2:Sb×(List Sb)×Sb×Sb×tT×Unit)=>aa (bD (y2.2.1,())) (fun(y3:(List Sb)×Unit)=>aq (fits (plus (@len bJ y1.2.2.1) (@len bJ ([(y2.1,(y3.1,()))]:List bJ))))
 (some (Sum.inl ((aD IntKind.i64 y1.1.1 (1:Int),()),((),(@app bJ y1.2.2.1 ([(y2.1,(y3.1,()))]:List bJ),()))):(vz)⊕HH))
 none)))
 (some (Sum.inr ((0:Nat),((y1.1.1,()),((),(y1.2.2.1,())))):(vz)⊕HH)))
def rL(x:Int×Av×Unit)(y1:(Int×Unit)×Unit×(List bJ)×Unit):Option (vz⊕vz) :=
 @cM vz (aq (aX y1.1.1 (@len Dd x.2.1.2.1))
 (aa (@idx Dd x.2.1.2.1 y1.1.1) (fun(y2:Sb×Sb×(List Sb)×Sb×Int×Int×Bool×Unit)=>aa (aq y2.2.2.2.2.2.2.1
 (aa (bD (y2.2.2.1,())) (fun(y3:(List Sb)×Unit)=>aq (fits (plus (@len bJ y1.2.2.1) (@len bJ ([(y2.1,(y3.1,()))]:List bJ))))
 (some ((),(y2,((),(@app bJ y1.2.2.1 ([(y2.1,(y3.1,()))]:List bJ),())))))
 none))
 (some ((),(y2,((),(y1.2.2.1,())))))) (fun(y3:Unit×Dd×Unit×(List bJ)×Unit)=>some (Sum.inl ((aD IntKind.i64 y1.1.1 (1:Int),()),((),(y3.2.2.2.1,()))):(vz)⊕HH))))
 (some (Sum.inr ((0:Nat),((y1.1.1,()),((),(y1.2.2.1,())))):(vz)⊕HH)))
def zH(x:Int×Av×Unit):Option ((List bJ)×Unit) :=
 aa (aq (bI x.1 (1:Int))
 (aa (Loop (rJ x) (((0:Int),()),((),(([]:List bJ),())))) (fun(y1:(Int×Unit)×Unit×(List bJ)×Unit)=>some ((),((),(y1.2.2.1,())))))
 (aa (aq (bI x.1 (2:Int))
 (aa (Loop (rK x) (((0:Int),()),((),(([]:List bJ),())))) (fun(y1:(Int×Unit)×Unit×(List bJ)×Unit)=>some ((),((),(y1.2.2.1,())))))
 (aa (aq (bI x.1 (3:Int))
 (aa (Loop (rL x) (((0:Int),()),((),(([]:List bJ),())))) (fun(y1:(Int×Unit)×Unit×(List bJ)×Unit)=>some ((),((),(y1.2.2.1,())))))
 (some ((),((),(([]:List bJ),()))))) (fun(y1:Unit×Unit×(List bJ)×Unit)=>some ((),((),(y1.2.2.1,())))))) (fun(y1:Unit×Unit×(List bJ)×Unit)=>some ((),((),(y1.2.2.1,())))))) (fun(y1:Unit×Unit×(List bJ)×Unit)=>some (y1.2.2.1,()))
def lf(x:Sb×Unit)(y1:lX×Unit):Option (cA⊕en) :=
 aq (aX y1.1.2.1 (@len UInt8 x.1))
 (aa (@idx UInt8 x.1 y1.1.2.1) (fun(y2:UInt8)=>aq (aq (aq (aq (aq (aq (nt (aX (u8 y2) (97:Int)))
 (aX (122:Int) (u8 y2))
 true)
 (aq (nt (aX (u8 y2) (48:Int)))
 (aX (57:Int) (u8 y2))
 true)
 false)
 (nt (bI (u8 y2) (46:Int)))
 false)
 (nt (bI (u8 y2) (95:Int)))
 false)
 (nt (bI (u8 y2) (45:Int)))
 false)
 (some (Sum.inr ((1:Nat),((false,(y1.1.2.1,())),())):(cA)⊕(en)))
 (some (Sum.inl ((y1.1.1,(aD IntKind.i64 y1.1.2.1 (1:Int),())),()):(cA)⊕(en)))))
 (some (Sum.inr ((0:Nat),((y1.1.1,(y1.1.2.1,())),())):(cA)⊕(en)))
def pO(x:Sb×Unit):Option (Bool×Unit) :=
 aa (Loop (lf x) ((false,((0:Int),())),())) (fun(y1:Nat×lX×Unit)=>aq (eY y1.1 (0:Nat))
 (some (aq (cK (1:Int) (@len UInt8 x.1))
 (cK (@len UInt8 x.1) (32:Int))
 false,()))
 (some (y1.2.1.1,())))
def gH(x:(List Sb)×Unit)(y1:lX×Unit)(y4:lX×Unit):Option (cA⊕en) :=
 aq (aX y4.1.2.1 y1.1.2.1)
 (aa (@idx Sb x.1 y4.1.2.1) (fun(y5:List (UInt8))=>aa (@idx Sb x.1 y1.1.2.1) (fun(y6:List (UInt8))=>aq (bX y5 y6)
 (some (Sum.inr ((1:Nat),((false,(y4.1.2.1,())),())):(cA)⊕(en)))
 (some (Sum.inl ((y4.1.1,(aD IntKind.i64 y4.1.2.1 (1:Int),())),()):(cA)⊕(en))))))
 (some (Sum.inr ((0:Nat),((y4.1.1,(y4.1.2.1,())),())):(cA)⊕(en)))
def mI(x:(List Sb)×Unit)(y1:lX×Unit):Option (cA⊕en) :=
 aq (aX y1.1.2.1 (@len Sb x.1))
 (aa (@idx Sb x.1 y1.1.2.1) (fun(y2:List (UInt8))=>aa (pO (y2,())) (fun(y3:Bool×Unit)=>aq (nt y3.1)
 (some (Sum.inr ((1:Nat),((false,(y1.1.2.1,())),())):(cA)⊕(en)))
 (aa (Loop (gH x y1) ((y1.1.1,((0:Int),())),())) (fun(y4:Nat×lX×Unit)=>aq (eY y4.1 (0:Nat))
 (some (Sum.inl ((y4.2.1.1,(aD IntKind.i64 y1.1.2.1 (1:Int),())),()):(cA)⊕(en)))
 (some (Sum.inr ((1:Nat),((y4.2.1.1,(y1.1.2.1,())),())):(cA)⊕(en))))))))
 (some (Sum.inr ((0:Nat),((y1.1.1,(y1.1.2.1,())),())):(cA)⊕(en)))
def rM(x:(List Sb)×Unit):Option (Bool×Unit) :=
 aa (Loop (mI x) ((false,((0:Int),())),())) (fun(y1:Nat×lX×Unit)=>aq (eY y1.1 (0:Nat))
 (some (cK (@len Sb x.1) (4:Int),()))
 (some (y1.2.1.1,())))
def nD(x:(List Sb)×Unit):Option (Int×Unit) :=
 aa (rM (x.1,())) (fun(y1:Bool×Unit)=>aq (nt y1.1)
 (some ((1:Int),()))
 (some ((0:Int),())))
def nW(x:(List bJ)×Sb×Unit)(y1:jJ×Unit):Option (lZ⊕lY) :=
 aq (aX y1.1.2.1 (@len bJ x.1))
 (aa (@idx bJ x.1 y1.1.2.1) (fun(y2:Sb×(List Sb)×Unit)=>aq (bX y2.1 x.2.1)
 (some (Sum.inr ((1:Nat),((y1.1.2.1,(y1.1.2.1,())),())):(lZ)⊕(lY)))
 (some (Sum.inl ((y1.1.1,(aD IntKind.i64 y1.1.2.1 (1:Int),())),()):(lZ)⊕(lY)))))
 (some (Sum.inr ((0:Nat),((y1.1.1,(y1.1.2.1,())),())):(lZ)⊕(lY)))
def uE(x:(List bJ)×Sb×Unit):Option (Int×Unit) :=
 aa (Loop (nW x) (((0:Int),((0:Int),())),())) (fun(y1:Nat×jJ×Unit)=>aq (eY y1.1 (0:Nat))
 (some ((-1:Int),()))
 (some (y1.2.1.1,())))
def pP(x:(List Sb)×Sb×Unit)(y1:lX×Unit):Option (cA⊕en) :=
 aq (aX y1.1.2.1 (@len Sb x.1))
 (aa (@idx Sb x.1 y1.1.2.1) (fun(y2:List (UInt8))=>aq (bX y2 x.2.1)
 (some (Sum.inr ((1:Nat),((true,(y1.1.2.1,())),())):(cA)⊕(en)))
 (some (Sum.inl ((y1.1.1,(aD IntKind.i64 y1.1.2.1 (1:Int),())),()):(cA)⊕(en)))))
 (some (Sum.inr ((0:Nat),((y1.1.1,(y1.1.2.1,())),())):(cA)⊕(en)))
def wE(x:(List Sb)×Sb×Unit):Option (Bool×Unit) :=
 aa (Loop (pP x) ((false,((0:Int),())),())) (fun(y1:Nat×lX×Unit)=>aq (eY y1.1 (0:Nat))
 (some (false,()))
 (some (y1.2.1.1,())))
def iz(x:(List bJ)×Sb×(List Sb)×Unit)(y2:Int×Unit)(y3:jJ×Unit)(y4:jJ×Unit):Option (lZ⊕lY) :=
 aq (aX y4.1.2.1 (@len Sb x.2.2.1))
 (aq (nt (bI y3.1.2.1 y2.1))
 (aa (@idx bJ x.1 y3.1.2.1) (fun(y5:Sb×(List Sb)×Unit)=>aa (@idx Sb x.2.2.1 y4.1.2.1) (fun(y6:List (UInt8))=>aa (wE (y5.2.1,(y6,()))) (fun(y7:Bool×Unit)=>aq y7.1
 (some (Sum.inr ((1:Nat),(((8:Int),(y4.1.2.1,())),())):(lZ)⊕(lY)))
 (some (Sum.inl ((y4.1.1,(aD IntKind.i64 y4.1.2.1 (1:Int),())),()):(lZ)⊕(lY)))))))
 (some (Sum.inl ((y4.1.1,(aD IntKind.i64 y4.1.2.1 (1:Int),())),()):(lZ)⊕(lY))))
 (some (Sum.inr ((0:Nat),((y4.1.1,(y4.1.2.1,())),())):(lZ)⊕(lY)))
def nX(x:(List bJ)×Sb×(List Sb)×Unit)(y2:Int×Unit)(y3:jJ×Unit):Option (lZ⊕lY) :=
 aq (aX y3.1.2.1 (@len bJ x.1))
 (aa (Loop (iz x y2 y3) ((y3.1.1,((0:Int),())),())) (fun(y4:Nat×jJ×Unit)=>aq (eY y4.1 (0:Nat))
 (some (Sum.inl ((y4.2.1.1,(aD IntKind.i64 y3.1.2.1 (1:Int),())),()):(lZ)⊕(lY)))
 (some (Sum.inr ((1:Nat),((y4.2.1.1,(y3.1.2.1,())),())):(lZ)⊕(lY)))))
 (some (Sum.inr ((0:Nat),((y3.1.1,(y3.1.2.1,())),())):(lZ)⊕(lY)))
def uF(x:(List bJ)×Sb×(List Sb)×Unit):Option (Int×Unit) :=
 aa (nD (x.2.2.1,())) (fun(y1:Int×Unit)=>aq (nt (bI y1.1 (0:Int)))
 (some (y1.1,()))
 (aa (uE (x.1,(x.2.1,()))) (fun(y2:Int×Unit)=>aa (Loop (nX x y2) (((0:Int),((0:Int),())),())) (fun(y3:Nat×jJ×Unit)=>aq (eY y3.1 (0:Nat))
 (some ((0:Int),()))
 (some (y3.2.1.1,()))))))
def pQ(x:(List Sb)×Unit)(y1:lX×Unit):Option (cA⊕en) :=
 aq (aq (aX y1.1.2.1 (@len Sb x.1))
 (aX y1.1.2.1 (8:Int))
 false)
 (aa (@idx Sb x.1 y1.1.2.1) (fun(y2:List (UInt8))=>aq (aX (100:Int) (@len UInt8 y2))
 (some (Sum.inr ((1:Nat),((false,(y1.1.2.1,())),())):(cA)⊕(en)))
 (some (Sum.inl ((y1.1.1,(aD IntKind.i64 y1.1.2.1 (1:Int),())),()):(cA)⊕(en)))))
 (some (Sum.inr ((0:Nat),((y1.1.1,(y1.1.2.1,())),())):(cA)⊕(en)))
def jT(x:(List Sb)×Unit):Option (Bool×Unit) :=
 aa (Loop (pQ x) ((false,((0:Int),())),())) (fun(y1:Nat×lX×Unit)=>aq (eY y1.1 (0:Nat))
 (some (cK (@len Sb x.1) (8:Int),()))
 (some (y1.2.1.1,())))
def dK(x:tT×Unit)(y1:lX×Unit):Option (cA⊕en) :=
 aq (aq (aX y1.1.2.1 (@len (Sb×Sb×Sb×Unit) x.1))
 (aX y1.1.2.1 (8:Int))
 false)
 (aa (@idx (Sb×Sb×Sb×Unit) x.1 y1.1.2.1) (fun(y2:Sb×Sb×Sb×Unit)=>aa (aq (nt (aX (100:Int) (@len UInt8 y2.1)))
 (aa (@idx (Sb×Sb×Sb×Unit) x.1 y1.1.2.1) (fun(y3:Sb×Sb×Sb×Unit)=>some (aX (200:Int) (@len UInt8 y3.2.2.1))))
 (some true)) (fun(y3:Bool)=>aq y3
 (some (Sum.inr ((1:Nat),((false,(y1.1.2.1,())),())):(cA)⊕(en)))
 (some (Sum.inl ((y1.1.1,(aD IntKind.i64 y1.1.2.1 (1:Int),())),()):(cA)⊕(en))))))
 (some (Sum.inr ((0:Nat),((y1.1.1,(y1.1.2.1,())),())):(cA)⊕(en)))
def dG(x:tT×Unit):Option (Bool×Unit) :=
 aa (Loop (dK x) ((false,((0:Int),())),())) (fun(y1:Nat×lX×Unit)=>aq (eY y1.1 (0:Nat))
 (some (cK (@len (Sb×Sb×Sb×Unit) x.1) (8:Int),()))
 (some (y1.2.1.1,())))
def gM(x:Av×Unit)(y1:lX×Unit):Option (cA⊕en) :=
 aq (aq (aX y1.1.2.1 (@len Dd x.1.2.1))
 (aX y1.1.2.1 (40:Int))
 false)
 (aa (@idx Dd x.1.2.1 y1.1.2.1) (fun(y2:Sb×Sb×(List Sb)×Sb×Int×Int×Bool×Unit)=>aa (jT (y2.2.2.1,())) (fun(y3:Bool×Unit)=>aq (nt y3.1)
 (some (Sum.inr ((1:Nat),((false,(y1.1.2.1,())),())):(cA)⊕(en)))
 (some (Sum.inl ((y1.1.1,(aD IntKind.i64 y1.1.2.1 (1:Int),())),()):(cA)⊕(en))))))
 (some (Sum.inr ((0:Nat),((y1.1.1,(y1.1.2.1,())),())):(cA)⊕(en)))
def gN(x:Av×Unit)(y2:lX×Unit):Option (cA⊕en) :=
 aq (aq (aX y2.1.2.1 (@len xG x.1.2.2.1))
 (aX y2.1.2.1 (40:Int))
 false)
 (aa (@idx xG x.1.2.2.1 y2.1.2.1) (fun(y3:Sb×(List Sb)×Sb×Sb×tT×Unit)=>aa (jT (y3.2.1,())) (fun(y4:Bool×Unit)=>aa (aq (nt (nt y4.1))
 (aa (@idx xG x.1.2.2.1 y2.1.2.1) (fun(y5:Sb×(List Sb)×Sb×Sb×tT×Unit)=>some (aX (200:Int) (@len UInt8 y5.2.2.2.1))))
 (some true)) (fun(y5:Bool)=>aa (aq (nt y5)
 (aa (@idx xG x.1.2.2.1 y2.1.2.1) (fun(y6:Sb×(List Sb)×Sb×Sb×tT×Unit)=>aa (dG (y6.2.2.2.2.1,())) (fun(y7:Bool×Unit)=>some (nt y7.1))))
 (some true)) (fun(y6:Bool)=>aq y6
 (some (Sum.inr ((1:Nat),((false,(y2.1.2.1,())),())):(cA)⊕(en)))
 (some (Sum.inl ((y2.1.1,(aD IntKind.i64 y2.1.2.1 (1:Int),())),()):(cA)⊕(en))))))))
 (some (Sum.inr ((0:Nat),((y2.1.1,(y2.1.2.1,())),())):(cA)⊕(en)))
def gO(x:Av×Unit)(y3:lX×Unit):Option (cA⊕en) :=
 aq (aq (aX y3.1.2.1 (@len De x.1.2.2.2.1))
 (aX y3.1.2.1 (40:Int))
 false)
 (aa (@idx De x.1.2.2.2.1 y3.1.2.1) (fun(y4:Sb×(List Sb)×Sb×Sb×Sb×tT×Unit)=>aa (jT (y4.2.1,())) (fun(y5:Bool×Unit)=>aa (aq (nt (nt y5.1))
 (aa (@idx De x.1.2.2.2.1 y3.1.2.1) (fun(y6:Sb×(List Sb)×Sb×Sb×Sb×tT×Unit)=>some (aX (200:Int) (@len UInt8 y6.2.2.2.2.1))))
 (some true)) (fun(y6:Bool)=>aa (aq (nt y6)
 (aa (@idx De x.1.2.2.2.1 y3.1.2.1) (fun(y7:Sb×(List Sb)×Sb×Sb×Sb×tT×Unit)=>aa (dG (y7.2.2.2.2.2.1,())) (fun(y8:Bool×Unit)=>some (nt y8.1))))
 (some true)) (fun(y7:Bool)=>aq y7
 (some (Sum.inr ((1:Nat),((false,(y3.1.2.1,())),())):(cA)⊕(en)))
 (some (Sum.inl ((y3.1.1,(aD IntKind.i64 y3.1.2.1 (1:Int),())),()):(cA)⊕(en))))))))
 (some (Sum.inr ((0:Nat),((y3.1.1,(y3.1.2.1,())),())):(cA)⊕(en)))
def oP(x:Av×Unit):Option (Bool×Unit) :=
 aa (Loop (gM x) ((false,((0:Int),())),())) (fun(y1:Nat×lX×Unit)=>aq (eY y1.1 (0:Nat))
 (aa (Loop (gN x) ((y1.2.1.1,((0:Int),())),())) (fun(y2:Nat×lX×Unit)=>aq (eY y2.1 (0:Nat))
 (aa (Loop (gO x) ((y2.2.1.1,((0:Int),())),())) (fun(y3:Nat×lX×Unit)=>aq (eY y3.1 (0:Nat))
 (some (aq (aq (cK (@len Dd x.1.2.1) (40:Int))
 (cK (@len xG x.1.2.2.1) (40:Int))
 false)
 (cK (@len De x.1.2.2.2.1) (40:Int))
 false,()))
 (some (y3.2.1.1,()))))
 (some (y2.2.1.1,()))))
 (some (y1.2.1.1,())))
def rN(x:Int×Av×Unit)(y1:(Unit×Int×Unit)×(List bJ)×Unit):Option (vA⊕vA) :=
 @cM vA (aq (aX y1.1.2.1 (@len De x.2.1.2.2.2.1))
 (aa (@idx De x.2.1.2.2.2.1 y1.1.2.1) (fun(y2:Sb×(List Sb)×Sb×Sb×Sb×tT×Unit)=>aa (@idx De x.2.1.2.2.2.1 y1.1.2.1) (fun(y3:Sb×(List Sb)×Sb×Sb×Sb×tT×Unit)=>aq (fits (plus (@len bJ y1.2.1) (@len bJ ([(y2.1,(y3.2.1,()))]:List bJ))))
 (some (Sum.inl (((),(aD IntKind.i64 y1.1.2.1 (1:Int),())),(@app bJ y1.2.1 ([(y2.1,(y3.2.1,()))]:List bJ),())):(vA)⊕HJ))
 none)))
 (some (Sum.inr ((0:Nat),(((),(y1.1.2.1,())),(y1.2.1,()))):(vA)⊕HJ)))
def rO(x:Int×Av×Unit)(y1:(Unit×Int×Unit)×(List bJ)×Unit):Option (vA⊕vA) :=
 @cM vA (aq (aX y1.1.2.1 (@len xG x.2.1.2.2.1))
 (aa (@idx xG x.2.1.2.2.1 y1.1.2.1) (fun(y2:Sb×(List Sb)×Sb×Sb×tT×Unit)=>aa (@idx xG x.2.1.2.2.1 y1.1.2.1) (fun(y3:Sb×(List Sb)×Sb×Sb×tT×Unit)=>aq (fits (plus (@len bJ y1.2.1) (@len bJ ([(y2.1,(y3.2.1,()))]:List bJ))))
 (some (Sum.inl (((),(aD IntKind.i64 y1.1.2.1 (1:Int),())),(@app bJ y1.2.1 ([(y2.1,(y3.2.1,()))]:List bJ),())):(vA)⊕HJ))
 none)))
 (some (Sum.inr ((0:Nat),(((),(y1.1.2.1,())),(y1.2.1,()))):(vA)⊕HJ)))
def rP(x:Int×Av×Unit)(y1:(Unit×Int×Unit)×(List bJ)×Unit):Option (vA⊕vA) :=
 @cM vA (aq (aX y1.1.2.1 (@len Dd x.2.1.2.1))
 (aa (@idx Dd x.2.1.2.1 y1.1.2.1) (fun(y2:Sb×Sb×(List Sb)×Sb×Int×Int×Bool×Unit)=>aa (aq y2.2.2.2.2.2.2.1
 (aa (@idx Dd x.2.1.2.1 y1.1.2.1) (fun(y3:Sb×Sb×(List Sb)×Sb×Int×Int×Bool×Unit)=>aa (@idx Dd x.2.1.2.1 y1.1.2.1) (fun(y4:Sb×Sb×(List Sb)×Sb×Int×Int×Bool×Unit)=>aq (fits (plus (@len bJ y1.2.1) (@len bJ ([(y3.1,(y4.2.2.1,()))]:List bJ))))
 (some (((),()),(@app bJ y1.2.1 ([(y3.1,(y4.2.2.1,()))]:List bJ),())))
 none)))
 (some (((),()),(y1.2.1,())))) (fun(y3:(Unit×Unit)×(List bJ)×Unit)=>some (Sum.inl (((),(aD IntKind.i64 y1.1.2.1 (1:Int),())),(y3.2.1,())):(vA)⊕HJ))))
 (some (Sum.inr ((0:Nat),(((),(y1.1.2.1,())),(y1.2.1,()))):(vA)⊕HJ)))
def zI(x:Int×Av×Unit):Option ((List bJ)×Unit) :=
 aa (aq (bI x.1 (1:Int))
 (aa (Loop (rN x) (((),((0:Int),())),(([]:List bJ),()))) (fun(y1:(Unit×Int×Unit)×(List bJ)×Unit)=>some (((),()),(y1.2.1,()))))
 (aa (aq (bI x.1 (2:Int))
 (aa (Loop (rO x) (((),((0:Int),())),(([]:List bJ),()))) (fun(y1:(Unit×Int×Unit)×(List bJ)×Unit)=>some (((),()),(y1.2.1,()))))
 (aa (aq (bI x.1 (3:Int))
 (aa (Loop (rP x) (((),((0:Int),())),(([]:List bJ),()))) (fun(y1:(Unit×Int×Unit)×(List bJ)×Unit)=>some (((),()),(y1.2.1,()))))
 (some (((),()),(([]:List bJ),())))) (fun(y1:(Unit×Unit)×(List bJ)×Unit)=>some (((),()),(y1.2.1,()))))) (fun(y1:(Unit×Unit)×(List bJ)×Unit)=>some (((),()),(y1.2.1,()))))) (fun(y1:(Unit×Unit)×(List bJ)×Unit)=>some (y1.2.1,()))
end Go.Ge
namespace Go.Ge
variable [Lp]
abbrev Tx:=List UInt8
abbrev Nm:=Tx×List Tx×Unit
theorem Oe(l:List Tx)(s:Tx)(hl:l.length≤4294967296):wE (l,(s,()))=some (decide (s∈l),()):=by
 unfold wE;rcases xA (f:=pP (l,(s,()))) l (fun i=>((false,(i,())),())) (fun _ x=>decide (x=s)) (fun i x=>(1,((true,((i:Int),())),()))) (0,((false,(len l,())),())) hl (fun i x hx hi ha=>by
  unfold pP;dsimp only;rw[aK hi,ai,aS hx,af,mW,ha];by_cases h:x=s<;>simp[bX,h]) (by unfold pP;dsimp only;rw[aZ,ak];rfl) with ⟨i,x,hx,hp,hj,h⟩|⟨hn,h⟩
 ·rw[h,af];have:s∈l:=by rw[←yd hp];exact cm.2 ⟨i,hx⟩
  rw[kj this];rfl
 ·rw[h,af];have:s∉l:=fun hs=>by
   obtain⟨i,hi⟩:=cm.1 hs;have:=hn i s hi;simp at this
  simp[this,eY,aq]
def FI(l:List Nm)(id:Tx):Int:=match l.findIdx? (fun x=>decide (x.1=id)) with|some i=>(i:Int)|none=>-1
theorem Tk{l:List Nm}{id:Tx}{i:Nat}{x:Nm}(hx:l[i]?=some x)(hp:x.1=id)(hj:∀j y,j<i→l[j]?=some y→decide (y.1=id)=false):FI l id=i:=by
 unfold FI;have:l.findIdx? (fun x=>decide (x.1=id))=some i:=by
  rw[adY];obtain⟨hi,rfl⟩:=List.getElem?_eq_some_iff.1 hx;exact⟨hi,by simp[hp],fun j hji=>by have:=hj j l[j] hji (ru (by omega));simpa using this⟩
 rw[this]
theorem My{l:List Nm}{id:Tx}(hn:∀(i:Nat) (x:Nm),l[i]?=some x→decide (x.1=id)=false):FI l id=-1:=by
 unfold FI;have:l.findIdx? (fun x=>decide (x.1=id))=none:=by
  rw[Y2];intro x hx;obtain⟨i,hi⟩:=cm.1 hx;exact hn i x hi
 rw[this]
theorem Mz(l:List Nm)(id:Tx)(hl:l.length≤4294967296):uE (l,(id,()))=some (FI l id,()):=by
 unfold uE;rcases xA (f:=nW (l,(id,()))) l (fun i=>(((0:Int),(i,())),())) (fun _ x=>decide (x.1=id)) (fun i x=>(1,(((i:Int),((i:Int),())),()))) (0,(((0:Int),(len l,())),())) hl (fun i x hx hi ha=>by
  unfold nW;dsimp only;rw[aK hi,ai,aS hx,af,mW,ha];by_cases h:x.1=id<;>simp[bX,h]) (by unfold nW;dsimp only;rw[aZ,ak];rfl) with ⟨i,x,hx,hp,hj,h⟩|⟨hn,h⟩
 ·rw[h,af,Tk hx (yd hp) hj];rfl
 ·rw[h,af,My hn];rfl
theorem MA(l:List Nm)(id:Tx)(hl:l.length≤4294967296):uC (l,(id,()))=some (FI l id,()):=by
 unfold uC;rcases xA (f:=nU (l,(id,()))) l (fun i=>(((0:Int),(i,())),(id,()))) (fun _ x=>decide (x.1=id)) (fun i x=>(1,(((i:Int),((i:Int),())),(id,())))) (0,(((0:Int),(len l,())),(id,()))) hl (fun i x hx hi ha=>by
  unfold nU;dsimp only;rw[aK hi,ai,aS hx,af,mW,ha];by_cases h:x.1=id<;>simp[bX,h]) (by unfold nU;dsimp only;rw[aZ,ak];rfl) with ⟨i,x,hx,hp,hj,h⟩|⟨hn,h⟩
 ·rw[h,af,Tk hx (yd hp) hj];rfl
 ·rw[h,af,My hn];rfl
theorem BB(l:List Tx)(s:Tx)(hl:l.length≤4294967296):bP (l,(s,()))=some (decide (s∈l),()):=by
 unfold bP fW;dsimp only;rcases xA (f:=dm (l,(s,()))) l (fun i=>(((0:Int),(i,())),())) (fun _ x=>decide (x=s)) (fun i x=>(1,(((i:Int),((i:Int),())),()))) (0,(((0:Int),(len l,())),())) hl (fun i x hx hi ha=>by
  unfold dm;dsimp only;rw[aK hi,ai,aS hx,af,mW,ha];by_cases h:x=s
  ·simp[bX,h]
  ·have h':¬s=x:=fun e=>h e.symm;simp[bX,h,h']) (by unfold dm;dsimp only;rw[aZ,ak];rfl) with ⟨i,x,hx,hp,hj,h⟩|⟨hn,h⟩
 ·rw[h,af];have:s∈l:=by rw[←yd hp];exact cm.2 ⟨i,hx⟩
  rw[kj this];show some (cK 0 (i:Int),())=_
  rw[pJ (by omega)]
 ·rw[h,af];have:s∉l:=fun hs=>by
   obtain⟨i,hi⟩:=cm.1 hs;have:=hn i s hi;simp at this
  simp[this,eY,aq,aa,cK]
def Small(l:List Nm):Prop:=l.length≤4294967296∧∀x∈l,x.2.1.length≤4294967296
end Go.Ge
namespace Go.Ge
variable [Lp]
set_option maxRecDepth 100000
def allowed:Tx:=[97,98,99,100,101,102,103,104,105,106,107,108,109,110,111,112,113,114,115,116,117,118,119,120,121,122,48,49,50,51,52,53,54,55,56,57,46,95,45]
def Of(c:UInt8):Bool:=allowed.contains c
def lg(s:Tx):Bool:=decide (1≤s.length)&&decide (s.length≤32)&&s.all Of
def Tl(a:Tx)(t0:List Bool):List Bool:=(a.zipIdx).foldl (fun t p=>nq t (u8 p.1) true) t0
def zJ:List Bool:=List.replicate 256 false
theorem afW(c:UInt8):u8 c<256:=by unfold u8;have:=c.toNat_lt;omega
theorem afX(c:UInt8):0≤u8 c:=by unfold u8;omega
theorem Pr(c:UInt8):within (u8 c) 256=true:=bQ (afX c) (afW c)
theorem aaN{t:List Bool}(h:t.length=256)(c:UInt8):idx t (u8 c)=some (t.getD c.toNat false):=kY t false (k:=c.toNat) rfl (by have:=c.toNat_lt;omega)
theorem Og(a:Tx)(ha:a.length≤4294967296)(h7:∀c∈a,c<128):eH (a,())=some (Tl a zJ,(true,())):=by
 unfold eH;obtain⟨t,h1,h2,h3⟩:=X1 (f:=dH (a,())) a (fun(t:List Bool) i=>((false,(i,())),(t,()))) (fun t i x=>nq t (u8 x) true) (fun t=>(0,((false,(len a,())),(t,())))) (fun t _=>t.length=256) ha
  (fun t i x hx hi Ti ht=>by
   refine⟨?_,by simp[nq,ht]⟩;unfold dH;dsimp only;have hx7:x<128:=h7 x (cm.2 ⟨i,hx⟩);have ahO:u8 x<128:=by unfold u8;have:x.toNat<128:=hx7;omega
   rw[aK hi,ai,aS hx,af,CA ahO,ak,Pr,ai,aaN ht,af,af,af,Ti])
  (fun t ht=>by unfold dH;dsimp only;rw[aZ,ak];rfl) zJ (by simp[zJ])
 have h2':Loop (dH (a,())) ((false,((0:Int),())),(zJ,()))=_:=h2;rw[show(List.replicate 256 false:List Bool)=zJ from rfl,h2',af];show some (t,(true,()))=_
 rw[h3];rfl
theorem aey(c:UInt8):(Tl allowed zJ).getD c.toNat false=Of c:=by
 have key:∀n:Fin 256,(Tl allowed zJ).getD n.val false=Of (UInt8.ofNat n.val):=by decide +kernel
 have:=key ⟨c.toNat,c.toNat_lt⟩;rw[this]
 congr 1
 simp
theorem WS:(Tl allowed zJ).length=256:=by decide +kernel
theorem MB{t:List Bool}(ht:t.length=256)(c:UInt8):cV ((u8 c,()),(t,()))=some ((t.getD c.toNat false,()),(t,())):=by
 unfold cV;dsimp only;rw[Pr,ai,aaN ht,af]
theorem QB{t:List Bool}(ht:t.length=256):∀(s:Tx),fM ((s,()),(t,()))=some ((s.dropWhile (fun c=>t.getD c.toNat false),()),(t,())):=by
 have key:∀s:Tx,Loop dx ((s,()),(t,()))=some ((s.dropWhile (fun c=>t.getD c.toNat false),()),(t,())):=by
  intro s;induction s with
  | nil =>
    rw[jo];unfold dx;dsimp only;rw[FB,show decide (0<([]:Tx).length)=false from rfl,ak];rfl
  | cons c r ih =>
    rw[jo];unfold dx;dsimp only;have hi:idx (c::r) (0:Int)=some c:=rfl;rw[FB,show decide (0<(c::r).length)=true from by simp,ai,hi,af,MB ht,af,Y8];dsimp only;cases hc:t.getD c.toNat false with
    | false=>rfl
    | true =>
      rw[cg,ak,cR (by decide) (by simp[len];omega) (RT _),ai];have hs:sub (c::r) (1:Int) (minus (len (c::r)) 1)=r:=by
       have:=aaC (c::r) 1 (by simp);simpa using this
      rw[hs];show Loop dx ((r,()),(t,()))=_
      rw[ih];rfl
 intro s;unfold fM;dsimp only;rw[key,af]
theorem aaO{α:Type}{l:List α}(h:l.length≤4294967296):cL .i64 (len l) 1=(l.length:Int)-1:=kz (by simp only[len];omega) (by simp only[len];omega)
theorem Oh{t:List Bool}(ht:t.length=256):∀(n:Nat) (s:Tx),s.length=n→n≤4294967296→dP ((s,()),(t,()))=some (((s.reverse.dropWhile (fun c=>t.getD c.toNat false)).reverse,()),(t,())):=by
 have key:∀(n:Nat) (s:Tx),s.length=n→n≤4294967296→Loop cW ((s,()),(t,()))=some (((s.reverse.dropWhile (fun c=>t.getD c.toNat false)).reverse,()),(t,())):=by
  intro n;induction n with
  | zero =>
    intro s hs _;obtain rfl:=List.length_eq_zero_iff.1 hs;rw[jo];unfold cW;dsimp only;rw[FB,show decide (0<([]:Tx).length)=false from rfl,ak];rfl
  | succ n ih =>
    intro s hs hn;obtain⟨r,c,rfl⟩:∃r c,s=r++[c]:=⟨s.dropLast,s.getLast (by intro e;rw[e] at hs;simp at hs),(List.dropLast_concat_getLast _).symm⟩;have hr:r.length=n:=by simpa using hs
    rw[jo];unfold cW;dsimp only;have hlen:cL .i64 (len (r++[c])) 1=(r.length:Int):=by rw[aaO (by omega)];simp
    have hi:idx (r++[c]) (r.length:Int)=some c:=by rw[Cz];simp
    rw[FB,show decide (0<(r++[c]).length)=true from by simp,ai,hlen,hi,af,MB ht,af,List.reverse_append,List.reverse_singleton,adx,Y8];dsimp only;cases hc:t.getD c.toNat false with
    | false=>simp[nt,aq,cM]
    | true =>
      have h0:inside 0 (r.length:Int) (len (r++[c]))=true:=cR (by decide) (by omega) (by simp only[len,uV,YV];omega);rw[cg,ak,h0,ai];have hs2:sub (r++[c]) (0:Int) (minus (r.length:Int) 0)=r:=by rw[Tg];simp
      rw[hs2];show Loop cW ((r,()),(t,()))=_
      rw[ih r hr (by omega)];rfl
 intro n s hs hn;unfold dP;dsimp only;rw[key n s hs hn,af]
theorem dropWhile_nil{α:Type}{p:α→Bool}{l:List α}:l.dropWhile p=[]↔l.all p=true:=by
 induction l with
 | nil=>simp
 | cons a r ih =>
   rw[Y8,List.all_cons];cases h:p a with
   | true=>simpa using ih
   | false=>simp
theorem aaP{p:UInt8→Bool}(s:Tx):((s.reverse.dropWhile p).reverse.dropWhile p=[])↔s.all p=true:=by
 constructor
 ·intro h;rw[dropWhile_nil,Zj] at h;have h2:s.reverse.all p=true:=by
   have e:s.reverse.takeWhile p++s.reverse.dropWhile p=s.reverse:=abQ;rw[←e,List.all_append,h];have:(s.reverse.takeWhile p).all p=true:=List.all_takeWhile;simp[this]
  rwa [Zj] at h2
 ·intro h;have:s.reverse.dropWhile p=[]:=by rw[dropWhile_nil,Zj];exact h
  rw[this];rfl
theorem QC(s:Tx):nT (s,())=some (lg s,()):=by
 unfold nT lg;dsimp only;have e1:cK 1 (len s)=decide (1≤s.length):=by unfold cK len;apply decide_eq_decide.2;omega
 have e2:cK (len s) 32=decide (s.length≤32):=by unfold cK len;apply decide_eq_decide.2;omega
 rw[e1,e2];by_cases h1:1≤s.length
 ·rw[kj h1,ai];by_cases h2:s.length≤32
  ·rw[kj h2,ai,show([97,98,99,100,101,102,103,104,105,106,107,108,109,110,111,112,113,114,115,116,117,118,119,120,121,122,48,49,50,51,52,53,54,55,56,57,46,95,45]:Tx)=allowed from rfl];unfold lW;dsimp only;have hs:s≠[]:=by intro e;rw[e] at h1;simp at h1
   rw[HA hs,cN,ai,HA (show allowed≠[] by decide),ak,show bI (len allowed) 1=false from rfl,ak,af,ak,Og allowed (by decide) (by decide),af];dsimp only;rw[ai,Oh WS s.length s rfl (by omega),af];dsimp only;rw[QB WS,af,af,af];have hp:(fun c:UInt8=>(Tl allowed zJ).getD c.toNat false)=Of:=funext aey;rw[hp];show some (bX _ [],())=_
   have:=aaP (p:=Of) s;by_cases ha:s.all Of=true
   ·rw[FC (this.2 ha),ha];rfl
   ·rw[HA fun e=>ha (this.1 e)];simp at ha;simp[ha]
  ·rw[mu h2,ak,af];simp
 ·rw[mu h1,ak,ak,af];simp
def Tm(c:UInt8):Bool:=aq (aq (aq (aq (aq (nt (aX (u8 c) 97)) (aX 122 (u8 c)) true) (aq (nt (aX (u8 c) 48)) (aX 57 (u8 c)) true) false) (nt (bI (u8 c) 46)) false) (nt (bI (u8 c) 95)) false) (nt (bI (u8 c) 45)) false
theorem Tn(c:UInt8):Tm c=!Of c:=by
 have key:∀n:Fin 256,Tm (UInt8.ofNat n.val)=!Of (UInt8.ofNat n.val):=by decide +kernel
 have:=key ⟨c.toNat,c.toNat_lt⟩;simpa using this
theorem J4(s:Tx)(hl:s.length≤4294967296):pO (s,())=some (lg s,()):=by
 unfold pO lg;rcases xA (f:=lf (s,())) s (fun i=>((false,(i,())),())) (fun _ x=>Tm x) (fun i x=>(1,((false,((i:Int),())),()))) (0,((false,(len s,())),())) hl (fun i x hx hi ha=>by
  unfold lf;dsimp only;rw[aK hi,ai,aS hx,af,ha];show aq (Tm x) _ _=_
  cases Tm x<;>rfl) (by unfold lf;dsimp only;rw[aZ,ak];rfl) with ⟨i,x,hx,hp,hj,h⟩|⟨hn,h⟩
 ·rw[h,af];have:s.all Of=false:=by
   rw[Ze];refine⟨x,cm.2 ⟨i,hx⟩,?_⟩;rw[Tn] at hp;simpa using hp
  rw[this,Bool.and_false];rfl
 ·rw[h,af];have:s.all Of=true:=by
   rw[DY];intro x hx;obtain⟨i,hi⟩:=cm.1 hx;have:=hn i x hi;rw[Tn] at this;simpa using this
  rw[this,Bool.and_true];have e1:cK 1 (len s)=decide (1≤s.length):=by unfold cK len;apply decide_eq_decide.2;omega
  have e2:cK (len s) 32=decide (s.length≤32):=by unfold cK len;apply decide_eq_decide.2;omega
  show some (aq (cK 1 (len s)) (cK (len s) 32) false,())=_
  rw[e1,e2];cases decide (1≤s.length)<;>rfl
end Go.Ge
namespace Go.Ge
variable [Lp]
open Go.Lib
theorem VK(l:List Tx):(lR l).Pairwise (fun a b=>a≤b):=by
 have:=List.pairwise_mergeSort (le:=fun x y:Tx=>decide (x≤y)) (fun a b c h k=>by simp only[zf] at h k⊢;exact List.le_trans h k) (fun a b=>by simp only[EK,zf];exact List.le_total a b) l;unfold lR;exact this.imp fun h=>yd h
theorem To(l:List Tx):(lR l).Nodup↔l.Nodup:=(List.mergeSort_perm l _).nodup_iff
theorem Tp{m:List Tx}{j:Nat}(hj:j<m.length):keeps m.toArray j=decide (j=0∨m[j]≠m[j-1]'(by omega)):=by
 unfold keeps;have h1:m.toArray[j]! = m[j]:=by simp[hj]
 have h2:m.toArray[j-1]! = m[j-1]'(by omega):=by simp[show j-1<m.length by omega]
 rw[h1,h2]
theorem QD(m:List Tx)(hs:m.Pairwise (fun a b=>a≤b)):(compact m).length<m.length↔¬m.Nodup:=by
 unfold compact compactUpTo;rw[La];have hlen:(List.range m.length).length=m.length:=PD;have:((List.range m.length).filter (keeps m.toArray)).length<m.length↔∃x,x∈List.range m.length∧¬keeps m.toArray x=true:=by
  have:=List.length_filter_lt_length_iff_exists (p:=keeps m.toArray) (l:=List.range m.length)
  rwa [hlen] at this
 rw[this];constructor
 ·rintro⟨j,hj,hk⟩ hn;have hj':=List.mem_range.1 hj;rw[Tp hj'] at hk;simp only[zf,not_or,Decidable.not_not] at hk;have hp:=List.pairwise_iff_getElem.1 hn (j-1) j (by omega) hj' (by omega);exact hp hk.2.symm
 ·intro hn;by_cases h:∃i j,∃(hij:i<j) (hj:j<m.length),m[i]'(by omega)=m[j]
  ·obtain⟨i,j,hij,hj,he⟩:=h;refine⟨j,List.mem_range.2 hj,?_⟩;rw[Tp hj];simp only[zf,not_or,Decidable.not_not];refine⟨by omega,?_⟩;have le:=fun a b (h1:a<b) (h2:b<m.length)=>List.pairwise_iff_getElem.1 hs a b (by omega) h2 h1;have h1:m[j-1]'(by omega)≤m[j]:=le (j-1) j (by omega) hj;have h2:m[j]≤m[j-1]'(by omega):=by
    rw[←he];rcases yg i (j-1) with q|q
    ·exact le i (j-1) q (by omega)
    ·have:i=j-1:=by omega
     subst this;exact List.le_refl _
   exact(List.le_antisymm h1 h2).symm
  ·exfalso;apply hn;refine List.pairwise_iff_getElem.2 fun i j hi hj hij he=>h ⟨i,j,hij,hj,he⟩
def pR(l:List Tx):Bool:=l.all lg&&decide l.Nodup&&decide (l.length≤4)
def mY(l:List Tx):Int:=if pR l=true then 0 else 1
theorem BC(l:List Tx)(hl:l.length≤4294967296):nC (l,())=some (mY l,()):=by
 unfold nC;dsimp only;have e4:nt (aX 4 (len l))=decide (l.length≤4):=by
  unfold nt aX len;rw[←decide_not];apply decide_eq_decide.2;omega
 have hc:aX (len (compact (lR l))) (len l)=!decide l.Nodup:=by
  have h:=QD (lR l) (VK l);rw[Pm,To] at h;unfold aX len;rw[←decide_not];apply decide_eq_decide.2;rw[←h];omega
 have hs:cX l ()=some (lR l):=by
  unfold cX;rw[yG hl];rfl
 rw[yG hl,ai,hs,af];unfold dF;rw[af];rcases xA (f:=mH (l,())) l (fun i=>(((0:Int),(i,())),())) (fun _ x=>!lg x) (fun i x=>(1,(((i:Int),((i:Int),())),()))) (0,(((0:Int),(len l,())),())) hl (fun i x hx hi ha=>by
  unfold mH;dsimp only;rw[aK hi,ai,aS hx,af,QC,af,WR,mW,ha];by_cases h:lg x=true<;>simp[h]) (by unfold mH;dsimp only;rw[aZ,ak];rfl) with ⟨i,x,hx,hp,hj,h⟩|⟨hn,h⟩
 ·rw[h,af];have:l.all lg=false:=by
   rw[Ze];exact⟨x,cm.2 ⟨i,hx⟩,by simpa using hp⟩
  have hI:mY l=1:=by unfold mY pR;rw[this];rfl
  rw[hI];show aq (aq (nt (aq (nt (aX 4 (len l))) (aX (len (compact (lR l))) (len l)) true)) (cK 0 (i:Int)) true) _ _=_
  rw[pJ (show(0:Int)≤(i:Int) by omega)];cases nt (aq (nt (aX 4 (len l))) (aX (len (compact (lR l))) (len l)) true)<;>rfl
 ·rw[h,af];have:l.all lg=true:=by
   rw[DY];intro x hx;obtain⟨i,hi⟩:=cm.1 hx;simpa using hn i x hi
  show aq (aq (nt (aq (nt (aX 4 (len l))) (aX (len (compact (lR l))) (len l)) true)) (cK 0 (-1)) true) _ _=_
  rw[e4,hc,show cK 0 (-1)=false from rfl];unfold mY pR;rw[this];cases decide l.Nodup<;>cases decide (l.length≤4)<;>rfl
theorem QE(l:List Tx)(hl:l.length≤4294967296)(hx:∀x∈l,x.length≤4294967296):rM (l,())=some (pR l,()):=by
 unfold rM;have inner:∀(r:Bool) (i:Nat) (x:Tx),l[i]?=some x→(∃j y,j<i∧l[j]?=some y∧y=x∧∃q,Loop (gH (l,()) ((r,((i:Int),())),())) ((r,((0:Int),())),())=some (1,((false,q),())))∨((∀j y,j<i→l[j]?=some y→y≠x)∧∃q,Loop (gH (l,()) ((r,((i:Int),())),())) ((r,((0:Int),())),())=some (0,((r,q),()))):=by
  intro r i x Uj;have hi:=bw Uj;have hmin:min i l.length=i:=by omega
  rcases qS (f:=gH (l,()) ((r,((i:Int),())),())) l i (fun j=>((r,(j,())),())) (fun _ y=>decide (y=x)) (fun j y=>(1,((false,((j:Int),())),()))) (fun n=>(0,((r,((n:Int),())),()))) (by omega) (fun j y hy hj hji ha=>by
   unfold gH;dsimp only;rw[b7 (show(j:Int)<(i:Int) by omega),ai,aS hy,af,aS Uj,af,mW,ha];by_cases h:y=x<;>simp[bX,h]) (by
   unfold gH;dsimp only;rw[hmin,bM (RT _),ak]) with ⟨j,y,hji,hy,hp,_,h⟩|⟨hn,h⟩
  ·exact .inl ⟨j,y,hji,hy,yd hp,_,h⟩
  ·exact .inr ⟨fun j y hji hy=>of_decide_eq_false (hn j y hji hy),_,h⟩
 let bad:Nat→Tx→Bool:=fun i x=>!lg x||(l.take i).contains x
 have acJ:∀i x,l[i]?=some x→((l.take i).contains x=true↔∃j y,j<i∧l[j]?=some y∧y=x):=by
  intro i x Uj;simp only[List.contains_eq_mem,zf];rw[cm];constructor
  ·rintro⟨j,hj⟩;rw[uo] at hj;split at hj
   ·exact⟨j,x,by assumption,hj,rfl⟩
   ·cases hj
  ·rintro⟨j,y,hji,hy,rfl⟩;exact⟨j,by rw[uo,bG hji];exact hy⟩
 rcases xA (f:=mI (l,())) l (fun i=>((false,(i,())),())) bad (fun i x=>(1,((false,((i:Int),())),()))) (0,((false,(len l,())),())) hl (fun i x Uj hi ha=>by
  unfold mI;dsimp only;rw[aK hi,ai,aS Uj,af,J4 x (hx x (cm.2 ⟨i,Uj⟩)),af];dsimp only;cases hb:lg x with
  | false=>simp[bad,hb,nt,aq]
  | true =>
    rw[cg,ak];rcases inner false i x Uj with ⟨j,y,h1,h2,h3,q,h⟩|⟨hn,q,h⟩
    ·have dB:=(acJ i x Uj).2 ⟨j,y,h1,h2,h3⟩;rw[h,af];show some _=_
     simp only[bad,hb,dB];rfl
    ·have dB:(l.take i).contains x=false:=by
      rw[←Zk];intro hc;obtain⟨j,y,h1,h2,h3⟩:=(acJ i x Uj).1 hc;exact hn j y h1 h2 h3
     rw[h,af,ha];simp only[bad,hb,dB];rfl) (by unfold mI;dsimp only;rw[aZ,ak];rfl) with ⟨i,x,Uj,hp,hj,h⟩|⟨hn,h⟩
 ·rw[h,af];have:pR l=false:=by
   unfold pR;simp only[bad,EK,nj] at hp;rcases hp with hp|hp
   ·have:l.all lg=false:=by rw[Ze];exact⟨x,cm.2 ⟨i,Uj⟩,by simpa using hp⟩
    rw[this];rfl
   ·have:¬l.Nodup:=fun hnd=>by
     obtain⟨j,y,h1,h2,h3⟩:=(acJ i x Uj).1 hp;obtain⟨hi',ahP⟩:=List.getElem?_eq_some_iff.1 Uj;obtain⟨hj',hyj⟩:=List.getElem?_eq_some_iff.1 h2;exact List.pairwise_iff_getElem.1 hnd j i hj' hi' h1 (by rw[hyj,ahP,h3])
    rw[mu this,Bool.and_false];rfl
  rw[this];rfl
 ·rw[h,af];have h1:l.all lg=true:=by
   rw[DY];intro x hx2;obtain⟨i,hi⟩:=cm.1 hx2;have:=hn i x hi;simp only[bad,CK,Xg] at this;exact this.1
  have h2:l.Nodup:=by
   refine List.pairwise_iff_getElem.2 fun j i hj hi hji he=>?_;have:=hn i l[i] (ru hi);simp only[bad,CK] at this;have hc:=(acJ i l[i] (ru hi)).2 ⟨j,l[j],hji,ru hj,he⟩;rw[hc] at this;cases this.2
  show some (cK (len l) 4,())=_
  unfold pR;rw[h1,kj h2];have:cK (len l) 4=decide (l.length≤4):=by unfold cK len;apply decide_eq_decide.2;omega
  rw[this];rfl
theorem BD(l:List Tx)(hl:l.length≤4294967296)(hx:∀x∈l,x.length≤4294967296):nD (l,())=some (mY l,()):=by
 unfold nD;dsimp only;rw[QE l hl hx,af];unfold mY;cases pR l<;>rfl
end Go.Ge
namespace Go.Ge
variable [Lp]
def Oi(given:List Tx)(own:Int)(i:Nat)(x:Nm):Bool:=decide ((i:Int)≠own)&&x.2.1.any (fun s=>decide (s∈given))
def QF(l:List Nm)(given:List Tx)(own:Int):Bool:=l.zipIdx.any fun p=>Oi given own p.2 p.1
def wF(l:List Nm)(id:Tx)(given:List Tx):Int:=if mY given≠0 then mY given else if QF l given (FI l id)=true then 8 else 0
theorem HK{l:List Nm}{given:List Tx}{own:Int}:QF l given own=true↔∃i x,l[i]?=some x∧Oi given own i x=true:=by
 unfold QF;rw[Zl];constructor
 ·rintro⟨p,hp,h⟩;obtain⟨x,i⟩:=p;exact⟨i,x,List.mk_mem_zipIdx_iff_getElem?.1 hp,h⟩
 ·rintro⟨i,x,hx,h⟩;exact⟨(x,i),List.mk_mem_zipIdx_iff_getElem?.2 hx,h⟩
theorem MC{l:List Nm}{given:List Tx}{own:Int}(h:∀i x,l[i]?=some x→Oi given own i x=false):QF l given own=false:=by
 rw[←Zk,HK];rintro⟨i,x,hx,k⟩;rw[h i x hx] at k;cases k
theorem MD(l:List Nm)(id:Tx)(given:List Tx)(hl:Small l)(hg:given.length≤4294967296):uD (l,(id,(given,())))=some (wF l id given,()):=by
 unfold uD wF;dsimp only;rw[BC given hg,af];dsimp only;by_cases hc:mY given=0
 ·rw[hc,dO rfl,cg,ak,MA l id hl.1,af,bH (by simp)];generalize FI l id=own;have inner:∀(y:Nm),y.2.1.length≤4294967296→(y.2.1.any (fun s=>decide (s∈given))=true∧∃(k:Nat) (q:Int×Unit),Loop (iy y) (((0:Int),((0:Int),())),(given,()))=some (1,(((k:Int),q),(given,())))) ∨
    (y.2.1.any (fun s=>decide (s∈given))=false∧∃q,Loop (iy y) (((0:Int),((0:Int),())),(given,()))=some (0,(q,(given,())))):=by
   intro y hy;rcases xA (f:=iy y) y.2.1 (fun i=>(((0:Int),(i,())),(given,()))) (fun _ s=>decide (s∈given)) (fun i s=>(1,(((i:Int),((i:Int),())),(given,())))) (0,(((0:Int),(len y.2.1,())),(given,()))) hy (fun i s hs hi ha=>by
    unfold iy;dsimp only;rw[aK hi,ai,aS hs,af,BB given s hg,af,mW,ha];by_cases h:s∈given<;>simp[h]) (by unfold iy;dsimp only;rw[aZ,ak];rfl) with ⟨i,s,hs,hp,hj,h⟩|⟨hn,h⟩
   ·exact .inl ⟨List.any_eq_true.2 ⟨s,cm.2 ⟨i,hs⟩,hp⟩,i,_,h⟩
   ·refine .inr ⟨?_,_,h⟩;rw[List.any_eq_false];intro s hs;obtain⟨i,hi⟩:=cm.1 hs;rw[hn i s hi];simp
  rcases xA (f:=nV (l,(id,(given,()))) (own,())) l (fun i=>(((0:Int),(i,())),(given,()))) (Oi given own) (fun i x=>(1,(((8:Int),((i:Int),())),(given,())))) (0,(((0:Int),(len l,())),(given,()))) hl.1 (fun i x hx hi ha=>by
   unfold nV;dsimp only;rw[aK hi,ai,aS hx,af];unfold Oi;by_cases ho:(i:Int)=own
   ·rw[dO ho,cg,ak,ha];simp[ho]
   ·rw[bN ho,cN,ai];rcases inner x (hl.2 x (cm.2 ⟨i,hx⟩)) with ⟨h1,k,q,h⟩|⟨h1,q,h⟩
    ·rw[h,af,h1];dsimp only;rw[acH,ak,pJ (by omega),ai];simp[ho]
    ·rw[h,af,h1];dsimp only;rw[vo,ai,show cK 0 (-1)=false from rfl,ak,ha];simp[ho]) (by unfold nV;dsimp only;rw[aZ,ak];rfl) with ⟨i,x,hx,hp,hj,h⟩|⟨hn,h⟩
  ·rw[h,af,bG (HK.2 ⟨i,x,hx,hp⟩)];rfl
  ·rw[h,af,MC hn];rfl
 ·rw[bN hc,cN,ai,bG hc]
theorem QG(l:List Nm)(id:Tx)(given:List Tx)(hl:Small l)(hg:given.length≤4294967296)(hgx:∀x∈given,x.length≤4294967296):uF (l,(id,(given,())))=some (wF l id given,()):=by
 unfold uF wF;dsimp only;rw[BD given hg hgx,af];dsimp only;by_cases hc:mY given=0
 ·rw[hc,dO rfl,cg,ak,Mz l id hl.1,af,bH (by simp)];generalize FI l id=own;have inner:∀(i:Nat) (x:Nm),l[i]?=some x→(Oi given own i x=true∧∃q,Loop (iz (l,(id,(given,()))) (own,()) (((0:Int),((i:Int),())),())) (((0:Int),((0:Int),())),())=some (1,(((8:Int),q),()))) ∨
    (Oi given own i x=false∧∃q,Loop (iz (l,(id,(given,()))) (own,()) (((0:Int),((i:Int),())),())) (((0:Int),((0:Int),())),())=some (0,(((0:Int),q),()))):=by
   intro i x hx;rcases xA (f:=iz (l,(id,(given,()))) (own,()) (((0:Int),((i:Int),())),())) given (fun n=>(((0:Int),(n,())),())) (fun _ s=>decide ((i:Int)≠own)&&decide (s∈x.2.1)) (fun n s=>(1,(((8:Int),((n:Int),())),()))) (0,(((0:Int),(len given,())),())) hg (fun n s hs hn ha=>by
    unfold iz;dsimp only;rw[aK hn,ai];by_cases ho:(i:Int)=own
    ·rw[dO ho,cg,ak,ha];simp[ho]
    ·rw[bN ho,cN,ai,aS hx,af,aS hs,af,Oe _ _ (hl.2 x (cm.2 ⟨i,hx⟩)),af,mW,ha];by_cases h:s∈x.2.1<;>simp[h,ho]) (by unfold iz;dsimp only;rw[aZ,ak];rfl) with ⟨n,s,hs,hp,hj,h⟩|⟨hn,h⟩
   ·refine .inl ⟨?_,_,h⟩;simp only[dW,zf] at hp;unfold Oi;simp only[dW,zf,Zl];exact⟨hp.1,s,hp.2,cm.2 ⟨n,hs⟩⟩
   ·refine .inr ⟨?_,_,h⟩;rw[←Zk];unfold Oi;simp only[dW,zf,Zl];rintro⟨h1,s,h2,h3⟩;obtain⟨n,hs⟩:=cm.1 h3;have:=hn n s hs;rw[kj h1,kj h2] at this;cases this
  rcases xA (f:=nX (l,(id,(given,()))) (own,())) l (fun i=>(((0:Int),(i,())),())) (Oi given own) (fun i x=>(1,(((8:Int),((i:Int),())),()))) (0,(((0:Int),(len l,())),())) hl.1 (fun i x hx hi ha=>by
   unfold nX;dsimp only;rw[aK hi,ai];rcases inner i x hx with ⟨h1,q,h⟩|⟨h1,q,h⟩
   ·rw[h,af,h1];rfl
   ·rw[h,af,h1,ha];rfl) (by unfold nX;dsimp only;rw[aZ,ak];rfl) with ⟨i,x,hx,hp,hj,h⟩|⟨hn,h⟩
  ·rw[h,af,bG (HK.2 ⟨i,x,hx,hp⟩)];rfl
  ·rw[h,af,MC hn];rfl
 ·rw[bN hc,cN,ai,bG hc]
theorem zK(l:List Tx)(h:l.length≤4294967296):bD (l,())=some (l,()):=by
 unfold bD;dsimp only;rw[yG h];rfl
theorem J5(x y:List Tx)(hx:x.length≤4294967296):dL (x,(y,()))=some (decide (x=y),()):=by
 unfold dL;dsimp only;rw[aaB];by_cases hl:x.length=y.length
 ·rw[kj hl,cg,ak];rcases xA (f:=iN (x,(y,()))) x (fun i=>((false,(i,())),())) (fun i a=>decide (y[i]?≠some a)) (fun i a=>(1,((false,((i:Int),())),()))) (0,((false,(len x,())),())) hx (fun i a ha hi Ti=>by
   unfold iN;dsimp only;have hi2:i<y.length:=by omega
   rw[aK hi,ai,aK hi2,ai,aS ha,af,aS (ru hi2),af,WR,mW,Ti,ru hi2];by_cases h:a=y[i]
   ·simp[bX,h]
   ·have h':¬y[i]=a:=fun e=>h e.symm;simp[bX,h,h']) (by unfold iN;dsimp only;rw[aZ,ak,ak];rfl) with ⟨i,a,ha,hp,hj,h⟩|⟨hn,h⟩
  ·rw[h,af];have:x≠y:=fun e=>by subst e;rw[ha] at hp;simp at hp
   rw[mu this];rfl
  ·rw[h,af];have:x=y:=by
    apply NA;intro i;cases hx2:x[i]? with
    | none =>
      have:x.length≤i:=List.getElem?_eq_none_iff.1 hx2;exact(List.getElem?_eq_none_iff.2 (by omega)).symm
    | some a =>
      have:=hn i a hx2;simp at this;exact this.symm
   rw[kj this];rfl
 ·rw[mu hl,cN,ai];have:x≠y:=fun e=>hl (by rw[e]);rw[mu this]
end Go.Ge
namespace Go.Ge
variable [Lp]
theorem pS{α:Type}{n:Nat}{l:List α}{c:Int}(hc:c=n):aq (aX ((min n l.length:Nat):Int) (len l)) (aX ((min n l.length:Nat):Int) c) false=false:=by
 subst hc;by_cases h:l.length≤n
 ·rw[Zh h,aZ,ak]
 ·rw[sV (by omega),bM (RT _)];cases aX (n:Int) (len l)<;>rfl
theorem iO{α:Type}{l:List α}{n:Nat}{c:Int}(hc:c=n):cK (len l) c=decide (l.length≤n):=by subst hc;exact acG n l
theorem fF{α:Type}{l:List α}{n:Nat}{c:Int}(hc:c=n):aX c (len l)=decide (n<l.length):=by subst hc;exact K1 n l
def oA(l:List Tx):Prop:=l.length≤8∧∀x∈l,x.length≤100
theorem QH(l:List Tx):∃b,mG (l,())=some (b,())∧(b=true→oA l):=by
 unfold mG;rcases qS (f:=jr (l,())) l 8 (fun i=>((false,(i,())),())) (fun _ x=>decide (100<x.length)) (fun i x=>(1,((false,((i:Int),())),()))) (fun n=>(0,((false,((n:Int),())),()))) (by omega) (fun i x hx hi hi8 ha=>by
  unfold jr;dsimp only;rw[aK hi,ai,b7 (show(i:Int)<8 by omega),ai,aS hx,af,fF (n:=100) (c:=100) rfl,mW,ha];by_cases h:100<x.length<;>simp[h]) (by unfold jr;dsimp only;rw[pS (c:=8) rfl,ak]) with ⟨i,x,hi,hx,hp,_,h⟩|⟨hn,h⟩
 ·rw[h];exact⟨false,rfl,fun h=>by cases h⟩
 ·rw[h];refine⟨_,rfl,fun hb=>?_⟩;dsimp only at hb;rw[iO (n:=8) (c:=8) rfl] at hb;have h8:=yd hb;refine⟨h8,fun x hx=>?_⟩;obtain⟨i,hi⟩:=cm.1 hx;have:=hn i x (by have:=bw hi;omega) hi;simpa using this
def afY(l:List Nm):Prop:=l.length≤40∧∀x∈l,x.1.length≤100∧oA x.2.1
theorem oA.small{l:List Tx}(h:oA l):l.length≤4294967296:=by have:=h.1;omega
theorem oA.each{l:List Tx}(h:oA l):∀x∈l,x.length≤4294967296:=fun x hx=>by have:=h.2 x hx;omega
theorem afY.small{l:List Nm}(h:afY l):Small l:=⟨by have:=h.1;omega,fun x hx=>by have:=(h.2 x hx).2.1;omega⟩
def id1:Tx:=[48,48,48,48,48,49]
end Go.Ge
namespace Go.Ge
variable [Lp]
end Go.Ge
namespace Go.Ge
variable [Lp]
abbrev Item:=Tx×Tx×Tx×Unit
abbrev aI:=Tx×Tx×List Tx×Tx×Int×Int×Bool×Unit
abbrev zL:=Tx×List Tx×Tx×Tx×List Item×Unit
abbrev QI:=Tx×List Tx×Tx×Tx×Tx×List Item×Unit
abbrev yL:=Int×List aI×List zL×List QI×Unit
theorem CC(l:List Tx):∃b,jT (l,())=some (b,())∧(b=true→oA l):=by
 unfold jT;rcases qS (f:=pQ (l,())) l 8 (fun i=>((false,(i,())),())) (fun _ x=>decide (100<x.length)) (fun i x=>(1,((false,((i:Int),())),()))) (fun n=>(0,((false,((n:Int),())),()))) (by omega) (fun i x hx hi hi8 ha=>by
  unfold pQ;dsimp only;rw[aK hi,ai,b7 (show(i:Int)<8 by omega),ai,aS hx,af,fF (n:=100) (c:=100) rfl,mW,ha];by_cases h:100<x.length<;>simp[h]) (by unfold pQ;dsimp only;rw[pS (c:=8) rfl,ak]) with ⟨i,x,hi,hx,hp,_,h⟩|⟨hn,h⟩
 ·rw[h];exact⟨false,rfl,fun h=>by cases h⟩
 ·rw[h];refine⟨_,rfl,fun hb=>?_⟩;dsimp only at hb;rw[iO (n:=8) (c:=8) rfl] at hb;have h8:=yd hb;refine⟨h8,fun x hx=>?_⟩;obtain⟨i,hi⟩:=cm.1 hx;have:=hn i x (by have:=bw hi;omega) hi;simpa using this
theorem Pu(l:List Item):∃b,dG (l,())=some (b,()):=by
 unfold dG;rcases qS (f:=dK (l,())) l 8 (fun i=>((false,(i,())),())) (fun _ x=>decide (100<x.1.length)||decide (200<x.2.2.1.length)) (fun i x=>(1,((false,((i:Int),())),()))) (fun n=>(0,((false,((n:Int),())),()))) (by omega) (fun i x hx hi hi8 ha=>by
  unfold dK;dsimp only;rw[aK hi,ai,b7 (show(i:Int)<8 by omega),ai,aS hx,af,fF (n:=100) (c:=100) rfl,af,fF (n:=200) (c:=200) rfl,ha];by_cases h:100<x.1.length
  ·simp[h,aq,nt,aa]
  ·by_cases h2:200<x.2.2.1.length<;>simp[h,h2,aq,nt,aa]) (by unfold dK;dsimp only;rw[pS (c:=8) rfl,ak]) with ⟨i,x,hi,hx,hp,_,h⟩|⟨hn,h⟩
 ·rw[h];exact⟨false,rfl⟩
 ·rw[h];exact⟨_,rfl⟩
structure VL (b:yL):Prop where
 ll:b.2.1.length≤40
 ln:∀x∈b.2.1,oA x.2.2.1
 il:b.2.2.1.length≤40
 qO:∀x∈b.2.2.1,oA x.2.1
 bl:b.2.2.2.1.length≤40
 bn:∀x∈b.2.2.2.1,oA x.2.1
theorem aaQ(b:yL):∃c,oP (b,())=some (c,())∧(c=true→VL b):=by
 obtain⟨I7,Oj⟩:∃I7:List Tx→Bool,∀l,jT (l,())=some (I7 l,())∧(I7 l=true→oA l):=⟨fun l=>Classical.choose (CC l),fun l=>Nz (CC l)⟩;obtain⟨QJ,ME⟩:∃I7:List Item→Bool,∀l,dG (l,())=some (I7 l,()):=⟨fun l=>Classical.choose (Pu l),fun l=>Nz (Pu l)⟩;obtain⟨n,la,im,bo,u⟩:=b;unfold oP;rcases qS (f:=gM ((n,(la,(im,(bo,u)))),())) la 40 (fun i=>((false,(i,())),())) (fun _ x=>!I7 x.2.2.1) (fun i x=>(1,((false,((i:Int),())),()))) (fun n=>(0,((false,((n:Int),())),()))) (by omega) (fun i x hx hi hi8 ha=>by
  unfold gM;dsimp only;rw[aK hi,ai,b7 (show(i:Int)<40 by omega),ai,aS hx,af,(Oj _).1,af,WR,ha];cases I7 x.2.2.1<;>rfl) (by unfold gM;dsimp only;rw[pS (c:=40) rfl,ak]) with ⟨i,x,hi,hx,hp,_,h⟩|⟨hn0,h⟩
 ·rw[h];exact⟨false,rfl,fun h=>by cases h⟩
 rw[h,af];dsimp only;rw[vo,ai];rcases qS (f:=gN ((n,(la,(im,(bo,u)))),())) im 40 (fun i=>((false,(i,())),())) (fun _ x=>!I7 x.2.1||decide (200<x.2.2.2.1.length)||!QJ x.2.2.2.2.1) (fun i x=>(1,((false,((i:Int),())),()))) (fun n=>(0,((false,((n:Int),())),()))) (by omega) (fun i x hx hi hi8 ha=>by
  unfold gN;dsimp only;rw[aK hi,ai,b7 (show(i:Int)<40 by omega),ai,aS hx,af,(Oj _).1,af,af,af,fF (n:=200) (c:=200) rfl,ME,af,ha];dsimp only;cases I7 x.2.1 with
  | false=>rfl
  | true =>
    by_cases h2:200<x.2.2.2.1.length
    ·simp[h2,aq,nt,aa]
    ·cases hq:QJ x.2.2.2.2.1<;>simp[h2,aq,nt,aa]) (by unfold gN;dsimp only;rw[pS (c:=40) rfl,ak]) with ⟨i,x,hi,hx,hp,_,h⟩|⟨hn1,h⟩
 ·rw[h];exact⟨false,rfl,fun h=>by cases h⟩
 rw[h,af];dsimp only;rw[vo,ai];rcases qS (f:=gO ((n,(la,(im,(bo,u)))),())) bo 40 (fun i=>((false,(i,())),())) (fun _ x=>!I7 x.2.1||decide (200<x.2.2.2.2.1.length)||!QJ x.2.2.2.2.2.1) (fun i x=>(1,((false,((i:Int),())),()))) (fun n=>(0,((false,((n:Int),())),()))) (by omega) (fun i x hx hi hi8 ha=>by
  unfold gO;dsimp only;rw[aK hi,ai,b7 (show(i:Int)<40 by omega),ai,aS hx,af,(Oj _).1,af,af,af,fF (n:=200) (c:=200) rfl,ME,af,ha];dsimp only;cases I7 x.2.1 with
  | false=>rfl
  | true =>
    by_cases h2:200<x.2.2.2.2.1.length
    ·simp[h2,aq,nt,aa]
    ·cases hq:QJ x.2.2.2.2.2.1<;>simp[h2,aq,nt,aa]) (by unfold gO;dsimp only;rw[pS (c:=40) rfl,ak]) with ⟨i,x,hi,hx,hp,_,h⟩|⟨hn2,h⟩
 ·rw[h];exact⟨false,rfl,fun h=>by cases h⟩
 rw[h,af];refine⟨_,rfl,fun hb=>?_⟩;rw[iO (n:=40) (c:=40) rfl,iO (n:=40) (c:=40) rfl,iO (n:=40) (c:=40) rfl] at hb;have h1:la.length≤40:=by
  by_cases q:la.length≤40
  ·exact q
  ·rw[mu q] at hb;cases hb
 have h2:im.length≤40:=by
  by_cases q:im.length≤40
  ·exact q
  ·rw[kj h1,mu q] at hb;cases hb
 have h3:bo.length≤40:=by
  by_cases q:bo.length≤40
  ·exact q
  ·rw[kj h1,kj h2,mu q] at hb;cases hb
 refine⟨h1,fun x hx=>?_,h2,fun x hx=>?_,h3,fun x hx=>?_⟩
 ·dsimp only at hx;obtain⟨i,hi⟩:=cm.1 hx;have:=hn0 i x (by have:=bw hi;omega) hi;exact(Oj _).2 (by simpa using this)
 ·dsimp only at hx;obtain⟨i,hi⟩:=cm.1 hx;have:=hn1 i x (by have:=bw hi;omega) hi;simp only[CK,Xg] at this;exact(Oj _).2 this.1.1
 ·dsimp only at hx;obtain⟨i,hi⟩:=cm.1 hx;have:=hn2 i x (by have:=bw hi;omega) hi;simp only[CK,Xg] at this;exact(Oj _).2 this.1.1
def ofL(x:aI):List Nm:=if x.2.2.2.2.2.2.1=true then [(x.1,(x.2.2.1,()))] else []
def ofI(x:zL):List Nm:=[(x.1,(x.2.1,()))]
def ofB(x:QI):List Nm:=[(x.1,(x.2.1,()))]
def ofV(kind:Int)(b:yL):List Nm:=if kind=1 then b.2.2.2.1.flatMap ofB else if kind=2 then b.2.2.1.flatMap ofI else if kind=3 then b.2.1.flatMap ofL else []
theorem sC{α β:Type}{g:α→List β}(hg:∀x,(g x).length≤1)(l:List α):(l.flatMap g).length≤l.length:=by
 induction l with
 | nil=>simp
 | cons a r ih=>rw[List.flatMap_cons,uV,o7];have:=hg a;omega
theorem ff{α β:Type}{g:α→List β}(hg:∀x,(g x).length≤1)(l:List α)(i:Nat):((l.take i).flatMap g).length≤l.length:=by
 have:=sC hg (l.take i);rw[o6] at this;omega
theorem K2(x:aI):(ofL x).length≤1:=by unfold ofL;split<;>simp
theorem QK(x:zL):(ofI x).length≤1:=by simp[ofI]
theorem QL(x:QI):(ofB x).length≤1:=by simp[ofB]
theorem uU{α:Type}{s:List α}{x:α}(h:s.length≤1000):fits (plus (len s) (len [x]))=true:=gD (by simp;omega)
theorem QM(kind:Int)(b:yL)(hb:VL b):zH (kind,(b,()))=some (ofV kind b,()):=by
 unfold zH ofV;dsimp only;by_cases h1:kind=1
 ·rw[bG h1,dO h1,ai];have:=vq (f:=rJ (kind,(b,()))) b.2.2.2.1 (fun s i=>((i,()),((),(s,())))) ofB ((len b.2.2.2.1,()),((),(b.2.2.2.1.flatMap ofB,()))) (by have:=hb.bl;omega) (fun i x hx hi ha=>by
   unfold rJ;dsimp only;have hf:=ff QL b.2.2.2.1 i;rw[aK hi,ai,aS hx,af,zK _ (hb.bn x (cm.2 ⟨i,hx⟩)).small,af,uU (by have:=hb.bl;omega),ai,ha];rfl) (by unfold rJ;dsimp only;rw[aZ,ak];rfl)
  rw[this,af,af]
 ·rw[bH h1,bN h1,ak];by_cases h2:kind=2
  ·rw[bG h2,dO h2,ai];have:=vq (f:=rK (kind,(b,()))) b.2.2.1 (fun s i=>((i,()),((),(s,())))) ofI ((len b.2.2.1,()),((),(b.2.2.1.flatMap ofI,()))) (by have:=hb.il;omega) (fun i x hx hi ha=>by
    unfold rK;dsimp only;have hf:=ff QK b.2.2.1 i;rw[aK hi,ai,aS hx,af,zK _ (hb.qO x (cm.2 ⟨i,hx⟩)).small,af,uU (by have:=hb.il;omega),ai,ha];rfl) (by unfold rK;dsimp only;rw[aZ,ak];rfl)
   rw[this,af,af,af]
  ·rw[bH h2,bN h2,ak];by_cases h3:kind=3
   ·rw[bG h3,dO h3,ai];have:=vq (f:=rL (kind,(b,()))) b.2.1 (fun s i=>((i,()),((),(s,())))) ofL ((len b.2.1,()),((),(b.2.1.flatMap ofL,()))) (by have:=hb.ll;omega) (fun i x hx hi ha=>by
     unfold rL;dsimp only;have hf:=ff K2 b.2.1 i;rw[aK hi,ai,aS hx,af,zK _ (hb.ln x (cm.2 ⟨i,hx⟩)).small,af,uU (by have:=hb.ll;omega),ai,ha];unfold ofL;cases x.2.2.2.2.2.2.1 with
     | false=>simp[aq,aa,cM]
     | true=>rfl) (by unfold rL;dsimp only;rw[aZ,ak];rfl)
    rw[this,af,af,af,af]
   ·rw[bH h3,bN h3,ak];rfl
theorem VM(kind:Int)(b:yL)(hb:VL b):zI (kind,(b,()))=some (ofV kind b,()):=by
 unfold zI ofV;dsimp only;by_cases h1:kind=1
 ·rw[bG h1,dO h1,ai];have:=vq (f:=rN (kind,(b,()))) b.2.2.2.1 (fun s i=>(((),(i,())),(s,()))) ofB (((),(len b.2.2.2.1,())),(b.2.2.2.1.flatMap ofB,())) (by have:=hb.bl;omega) (fun i x hx hi ha=>by
   unfold rN;dsimp only;have hf:=ff QL b.2.2.2.1 i;rw[aK hi,ai,aS hx,af,af,uU (by have:=hb.bl;omega),ai,ha];rfl) (by unfold rN;dsimp only;rw[aZ,ak];rfl)
  rw[this,af,af]
 ·rw[bH h1,bN h1,ak];by_cases h2:kind=2
  ·rw[bG h2,dO h2,ai];have:=vq (f:=rO (kind,(b,()))) b.2.2.1 (fun s i=>(((),(i,())),(s,()))) ofI (((),(len b.2.2.1,())),(b.2.2.1.flatMap ofI,())) (by have:=hb.il;omega) (fun i x hx hi ha=>by
    unfold rO;dsimp only;have hf:=ff QK b.2.2.1 i;rw[aK hi,ai,aS hx,af,af,uU (by have:=hb.il;omega),ai,ha];rfl) (by unfold rO;dsimp only;rw[aZ,ak];rfl)
   rw[this,af,af,af]
  ·rw[bH h2,bN h2,ak];by_cases h3:kind=3
   ·rw[bG h3,dO h3,ai];have:=vq (f:=rP (kind,(b,()))) b.2.1 (fun s i=>(((),(i,())),(s,()))) ofL (((),(len b.2.1,())),(b.2.1.flatMap ofL,())) (by have:=hb.ll;omega) (fun i x hx hi ha=>by
     unfold rP;dsimp only;have hf:=ff K2 b.2.1 i;rw[aK hi,ai,aS hx,af,af,af,uU (by have:=hb.ll;omega),ai,ha];unfold ofL;cases x.2.2.2.2.2.2.1 with
     | false=>simp[aq,aa,cM]
     | true=>rfl) (by unfold rP;dsimp only;rw[aZ,ak];rfl)
    rw[this,af,af,af,af]
   ·rw[bH h3,bN h3,ak];rfl
theorem X3(kind:Int)(b:yL)(hb:VL b):Small (ofV kind b):=by
 unfold ofV;split
 ·refine⟨by have:=sC QL b.2.2.2.1;have:=hb.bl;omega,fun x hx=>?_⟩;rw[Zm] at hx;obtain⟨y,hy,hx⟩:=hx;simp only[ofB,Xh] at hx;subst hx;exact(hb.bn y hy).small
 ·split
  ·refine⟨by have:=sC QK b.2.2.1;have:=hb.il;omega,fun x hx=>?_⟩;rw[Zm] at hx;obtain⟨y,hy,hx⟩:=hx;simp only[ofI,Xh] at hx;subst hx;exact(hb.qO y hy).small
  ·split
   ·refine⟨by have:=sC K2 b.2.1;have:=hb.ll;omega,fun x hx=>?_⟩;rw[Zm] at hx;obtain⟨y,hy,hx⟩:=hx;unfold ofL at hx;split at hx
    ·simp only[Xh] at hx;subst hx;exact(hb.ln y hy).small
    ·cases hx
   ·exact⟨by simp,fun x hx=>by cases hx⟩
end Go.Ge
namespace Go.Ge
variable [Lp]
def CD(n x:Int):Int:=zb .u32 (jS .u32 x n) (mU .u32 x (32-n))
theorem nE{n m:Int}(h:ia .u64 (kT .u64 (cL .i64 0 n)) 31=m)(h1:aX m 0=false)(h2:cL .u64 32 m=n)(h3:aX n 0=false)(h4:32-n=m)(x:Int):bz (x,(n,()))=some (CD n x,()):=by
 unfold bz je CD;dsimp only;rw[h,h1,ak,h2,h3,ak,af,h4,VF]
theorem rQ{n:Int}(h1:aX n 0=false)(h2:cL .i64 32 n=32-n)(h3:aX (32-n) 0=false)(x:Int):bL (x,(n,()))=some (CD n x,()):=by
 unfold bL CD;dsimp only;rw[h1,ak,h2,h3,ak]
theorem r7(x:Int):bz (x,(7,()))=some (CD 7 x,()):=nE (m:=25) (by decide) (by decide) (by decide) (by decide) (by decide) x
theorem r18(x:Int):bz (x,(18,()))=some (CD 18 x,()):=nE (m:=14) (by decide) (by decide) (by decide) (by decide) (by decide) x
theorem r17(x:Int):bz (x,(17,()))=some (CD 17 x,()):=nE (m:=15) (by decide) (by decide) (by decide) (by decide) (by decide) x
theorem r19(x:Int):bz (x,(19,()))=some (CD 19 x,()):=nE (m:=13) (by decide) (by decide) (by decide) (by decide) (by decide) x
theorem r6(x:Int):bz (x,(6,()))=some (CD 6 x,()):=nE (m:=26) (by decide) (by decide) (by decide) (by decide) (by decide) x
theorem r11(x:Int):bz (x,(11,()))=some (CD 11 x,()):=nE (m:=21) (by decide) (by decide) (by decide) (by decide) (by decide) x
theorem r25(x:Int):bz (x,(25,()))=some (CD 25 x,()):=nE (m:=7) (by decide) (by decide) (by decide) (by decide) (by decide) x
theorem r2(x:Int):bz (x,(2,()))=some (CD 2 x,()):=nE (m:=30) (by decide) (by decide) (by decide) (by decide) (by decide) x
theorem r13(x:Int):bz (x,(13,()))=some (CD 13 x,()):=nE (m:=19) (by decide) (by decide) (by decide) (by decide) (by decide) x
theorem r22(x:Int):bz (x,(22,()))=some (CD 22 x,()):=nE (m:=10) (by decide) (by decide) (by decide) (by decide) (by decide) x
theorem t7(x:Int):bL (x,(7,()))=some (CD 7 x,()):=rQ (by decide) (by decide) (by decide) x
theorem t18(x:Int):bL (x,(18,()))=some (CD 18 x,()):=rQ (by decide) (by decide) (by decide) x
theorem t17(x:Int):bL (x,(17,()))=some (CD 17 x,()):=rQ (by decide) (by decide) (by decide) x
theorem t19(x:Int):bL (x,(19,()))=some (CD 19 x,()):=rQ (by decide) (by decide) (by decide) x
theorem t6(x:Int):bL (x,(6,()))=some (CD 6 x,()):=rQ (by decide) (by decide) (by decide) x
theorem t11(x:Int):bL (x,(11,()))=some (CD 11 x,()):=rQ (by decide) (by decide) (by decide) x
theorem t25(x:Int):bL (x,(25,()))=some (CD 25 x,()):=rQ (by decide) (by decide) (by decide) x
theorem t2(x:Int):bL (x,(2,()))=some (CD 2 x,()):=rQ (by decide) (by decide) (by decide) x
theorem t13(x:Int):bL (x,(13,()))=some (CD 13 x,()):=rQ (by decide) (by decide) (by decide) x
theorem t22(x:Int):bL (x,(22,()))=some (CD 22 x,()):=rQ (by decide) (by decide) (by decide) x
def word(b:List Int)(t:Nat):Int :=
 zb .u32 (zb .u32 (zb .u32 (mU .u32 (kT .u32 (b.getD (4*t) 0)) 24) (mU .u32 (kT .u32 (b.getD (4*t+1) 0)) 16)) (mU .u32 (kT .u32 (b.getD (4*t+2) 0)) 8)) (kT .u32 (b.getD (4*t+3) 0))
def fq(n:Nat):List Int:=List.replicate n 0
def yM(b:List Int):Nat→List Int
 | 0=>fq 64
 | t+1=>(yM b t).set t (word b t)
theorem sD(b:List Int)(t:Nat):(yM b t).length=64:=by
 induction t with
 | zero=>rfl
 | succ t ih=>simp[yM,ih]
theorem X4(b:List Int):∀(t j:Nat),t≤j→j<64→(yM b t).getD j 0=0:=by
 intro t;induction t with
 | zero =>
   intro j _ hj;show(List.replicate 64 (0:Int)).getD j 0=0
   rw[RF,abS,bG hj];rfl
 | succ t ih =>
   intro j h1 h2;have:=ih j (by omega) h2;simp only[yM,RF,Wj] at this⊢;rw[bH (by omega)];exact this
def afZ(p:List Int)(t:Nat):Int :=
 aD .u32 (aD .u32 (aD .u32 (dX .u32 (dX .u32 (CD 17 (p.getD (t-2) 0)) (CD 19 (p.getD (t-2) 0))) (jS .u32 (p.getD (t-2) 0) 10)) (p.getD (t-7) 0))
  (dX .u32 (dX .u32 (CD 7 (p.getD (t-15) 0)) (CD 18 (p.getD (t-15) 0))) (jS .u32 (p.getD (t-15) 0) 3))) (p.getD (t-16) 0)
def J6(l:List Int):Nat→List Int
 | 0=>l
 | k+1=>(J6 l k).set (16+k) (afZ (J6 l k) (16+k))
theorem Ep(l:List Int)(k:Nat):(J6 l k).length=l.length:=by
 induction k with
 | zero=>rfl
 | succ k ih=>simp[J6,ih]
def vD(b:List Int):List Int:=J6 (yM b 16) 48
theorem FJ(b:List Int):(vD b).length=64:=by unfold vD;rw[Ep,sD]
theorem four{t:Nat}(ht:t<64):iZ .i64 4 (t:Int)=((4*t:Nat):Int):=by rw[FA (by omega) (by omega)];omega
theorem Tq(b:List Int)(hb:b.length=64)(t:Nat)(ht:t<16)(w:List Int)(hw:w.length=64)(h0:w.getD t 0=0)(u v:Unit)(y:List Int×Unit) :
  Loop (iH (b,u) (((t:Int),v),y)) ((0,()),(w,()))=some (((4:Int),()),(w.set t (word b t),())):=by
 let a:Nat→Int:=fun j=>match j with
  | 0=>0
  | 1=>zb .u32 (mU .u32 0 8) (kT .u32 (b.getD (4*t) 0))
  | 2=>zb .u32 (mU .u32 (zb .u32 (mU .u32 0 8) (kT .u32 (b.getD (4*t) 0))) 8) (kT .u32 (b.getD (4*t+1) 0))
  | 3=>zb .u32 (mU .u32 (zb .u32 (mU .u32 (zb .u32 (mU .u32 0 8) (kT .u32 (b.getD (4*t) 0))) 8) (kT .u32 (b.getD (4*t+1) 0))) 8) (kT .u32 (b.getD (4*t+2) 0))
  | _=>word b t
 have hstep:∀j,j<4→a (j+1)=zb .u32 (mU .u32 (a j) 8) (kT .u32 (b.getD (4*t+j) 0)):=by
  intro j hj;rcases(by omega:j=0∨j=1∨j=2∨j=3) with rfl|rfl|rfl|rfl
  ·rfl
  ·rfl
  ·rfl
  ·exact(acF _ _ _ _).symm
 have hw0:w=w.set t 0:=by
  apply NA;intro j;rw[Wj];split
  ·rename_i e;subst e;rw[bG (by omega)];rw[RF,ru (by omega)] at h0;rw[ru (by omega)];simpa using h0
  ·rfl
 have:=dw (f:=iH (b,u) (((t:Int),v),y)) (r:=(((4:Int),()),(w.set t (word b t),()))) 4 (fun j=>(((j:Int),()),(w.set t (a j),()))) (fun j hj=>by
  unfold iH;dsimp only;rw[four (by omega),jE (by omega) (by omega)];have e4:minus (((4*t:Nat):Int)+4) ((4*t:Nat):Int)=4:=by unfold minus;omega
  rw[e4,b7 (by omega),ai,bQ (by omega) (by omega),ai,bQ (by omega) (by omega)];have hl:(w.set t (a j)).length=64:=by simp[hw]
  have hg:(w.set t (a j)).getD t 0=a j:=by simp[RF,hw,ht,(by omega:t<64)]
  rw[kY b 0 (i:=plus ((4*t:Nat):Int) j) (k:=4*t+j) (by unfold plus;omega) (by omega),af,ai,eX _ 0 (by rw[hl];omega),hg,af,bM (by decide),ak,ai,af,af,af,eg,cG (by omega),pK,List.set_set,hstep j hj])
  (by
   unfold iH;dsimp only;rw[four (by omega),jE (by omega) (by omega)];have e4:minus (((4*t:Nat):Int)+4) ((4*t:Nat):Int)=4:=by unfold minus;omega
   rw[e4,bM (by omega),ak,eG];rfl)
 have h00:w.set t (a 0)=w:=hw0.symm;rw[h00] at this;exact this
theorem WT:([0,0,0,0,0,0,0,0,0,0,0,0,0,0,0,0,0,0,0,0,0,0,0,0,0,0,0,0,0,0,0,0,0,0,0,0,0,0,0,0,0,0,0,0,0,0,0,0,0,0,0,0,0,0,0,0,0,0,0,0,0,0,0,0]:List Int)=fq 64:=rfl
theorem Tr(b:List Int)(hb:b.length=64)(u:Unit):Loop (iI (b,u)) ((0,()),(fq 64,()))=some (((16:Int),()),(yM b 16,())):=by
 refine dw (f:=iI (b,u)) 16 (fun t=>(((t:Int),()),(yM b t,()))) (fun t ht=>?_) ?_
 ·unfold iI;dsimp only;rw[b7 (by omega),ai,four (by omega),jE (by omega) (by omega),cR (by omega) (by omega) (by omega),ai,Tq b hb t ht _ (sD b t) (X4 b t t (mq _) (by omega)),af,eg,cG (by omega)];rfl
 ·unfold iI;dsimp only;rw[bM (by omega),ak,eG];rfl
theorem X5(l:List Int)(hl:l.length=64):Loop iJ ((16,()),(l,()))=some (((64:Int),()),(J6 l 48,())):=by
 refine dw (f:=iJ) 48 (fun k=>((((16+k:Nat):Int),()),(J6 l k,()))) (fun k hk=>?_) ?_
 ·have hlen:(J6 l k).length=64:=by rw[Ep,hl]
  unfold iJ;dsimp only;rw[b7 (by omega),ai,kz (by omega) (by omega),kz (by omega) (by omega),kz (by omega) (by omega),kz (by omega) (by omega),
   bQ (by omega) (by omega),ai,kY _ 0 (k:=16+k-2) (by omega) (by omega),af,bQ (by omega) (by omega),ai,kY _ 0 (k:=16+k-15) (by omega) (by omega),af,
   r7,af,r18,af,bM (by decide),ak,r17,af,r19,af,bM (by decide),ak,bQ (by omega) (by omega),ai,kY _ 0 (k:=16+k-7) (by omega) (by omega),af,
   bQ (by omega) (by omega),ai,kY _ 0 (k:=16+k-16) (by omega) (by omega),af,bQ (by omega) (by omega),ai,eX _ 0 (by omega),af,af,af,eg,cG (by omega),pK]
  rfl
 ·unfold iJ;dsimp only;rw[bM (by omega),ak,eG];rfl
theorem QN(b:List Int)(hb:b.length=64)(u:Unit):lS (b,u)=some (vD b,()):=by
 unfold lS;rw[WT,Tr b hb,af];dsimp only;rw[X5 _ (sD b 16),af];dsimp only[vD]
theorem aaS(s:List UInt8){i:Nat}(h:i<s.length)(x:UInt8)(hx:s[i]?=some x):u8 x=(az s).getD i 0:=by
 simp[az,RF,hx,u8]
theorem X6(h:List Int)(s:List UInt8)(hs:s.length=64)(u:Unit):Loop (gE (h,(s,u))) ((0,()),(fq 64,()))=some (((16:Int),()),(yM (az s) 16,())):=by
 have key:∀b:List Int,b=az s→Loop (gE (h,(s,u))) ((0,()),(fq 64,()))=some (((16:Int),()),(yM b 16,())):=by
  intro b hb;refine dw (f:=gE (h,(s,u))) 16 (fun t=>(((t:Int),()),(yM b t,()))) (fun t ht=>?_) ?_
  ·have at_:∀(i:Int) (j:Nat),i=j→j<64→∃x,idx s i=some x∧u8 x=b.getD j 0:=by
    intro i j e hj;subst e;refine⟨s[j],?_,by rw[hb];exact aaS s (by omega) _ (ru (by omega))⟩;rw[Cz,ru]
   unfold gE;dsimp only;rw[b7 (by omega),ai,four (by omega),jE (by omega) (by omega),jE (by omega) (by omega),jE (by omega) (by omega)];obtain⟨x0,i0,e0⟩:=at_ ((4*t:Nat):Int) (4*t) rfl (by omega);obtain⟨x1,i1,e1⟩:=at_ (((4*t:Nat):Int)+1) (4*t+1) (by omega) (by omega);obtain⟨x2,i2,e2⟩:=at_ (((4*t:Nat):Int)+2) (4*t+2) (by omega) (by omega);obtain⟨x3,i3,e3⟩:=at_ (((4*t:Nat):Int)+3) (4*t+3) (by omega) (by omega);rw[i0,af,bM (by decide),ak,i1,af,bM (by decide),ak,i2,af,bM (by decide),ak,i3,af,bQ (by omega) (by omega),ai,
    eX _ 0 (by rw[sD];omega),af,af,af,eg,cG (by omega),pK,e0,e1,e2,e3]
   rfl
  ·unfold gE;dsimp only;rw[bM (by omega),ak,eG];rfl
 exact key _ rfl
theorem acK(l:List Int)(hl:l.length=64):Loop jG ((16,()),(l,()))=some (((64:Int),()),(J6 l 48,())):=by
 refine dw (f:=jG) 48 (fun k=>((((16+k:Nat):Int),()),(J6 l k,()))) (fun k hk=>?_) ?_
 ·have hlen:(J6 l k).length=64:=by rw[Ep,hl]
  unfold jG;dsimp only;rw[b7 (by omega),ai,kz (by omega) (by omega),kz (by omega) (by omega),kz (by omega) (by omega),kz (by omega) (by omega),
   bQ (by omega) (by omega),ai,kY _ 0 (k:=16+k-2) (by omega) (by omega),af,bQ (by omega) (by omega),ai,kY _ 0 (k:=16+k-15) (by omega) (by omega),af,
   t17,af,t19,af,bM (by decide),ak,bQ (by omega) (by omega),ai,kY _ 0 (k:=16+k-7) (by omega) (by omega),af,t7,af,t18,af,bM (by decide),ak,
   bQ (by omega) (by omega),ai,kY _ 0 (k:=16+k-16) (by omega) (by omega),af,bQ (by omega) (by omega),ai,eX _ 0 (by omega),af,af,af,eg,cG (by omega),pK]
  rfl
 ·unfold jG;dsimp only;rw[bM (by omega),ak,eG];rfl
abbrev W8:=Int×Int×Int×Int×Int×Int×Int×Int
def rnd(k w:Int):W8→W8
 | (a,b,c,d,e,f,g,h) =>
   let one:=aD .u32 (aD .u32 (aD .u32 (aD .u32 h (dX .u32 (dX .u32 (CD 6 e) (CD 11 e)) (CD 25 e))) (dX .u32 g (ia .u32 e (dX .u32 f g)))) k) w
   let two:=aD .u32 (dX .u32 (dX .u32 (CD 2 a) (CD 13 a)) (CD 22 a)) (zb .u32 (ia .u32 a b) (ia .u32 c (zb .u32 a b)))
   (aD .u32 one two,a,b,c,aD .u32 d one,e,f,g)
def FK(K w:List Int)(s:W8):Nat→W8
 | 0=>s
 | t+1=>rnd (K.getD t 0) (w.getD t 0) (FK K w s t)
def sE:List Int:=[1116352408,1899447441,3049323471,3921009573,961987163,1508970993,2453635748,2870763221,3624381080,310598401,607225278,1426881987,1925078388,2162078206,2614888103,3248222580,3835390401,4022224774,264347078,604807628,770255983,1249150122,1555081692,1996064986,2554220882,2821834349,2952996808,3210313671,3336571891,3584528711,113926993,338241895,666307205,773529912,1294757372,1396182291,1695183700,1986661051,2177026350,2456956037,2730485921,2820302411,3259730800,3345764771,3516065817,3600352804,4094571909,275423344,430227734,506948616,659060556,883997877,958139571,1322822218,1537002063,1747873779,1955562222,2024104815,2227730452,2361852424,2428436474,2756734187,3204031479,3329325298]
theorem X7:wz ()=some (sE,()):=rfl
theorem VN:vr ()=some (sE,()):=rfl
def qw(s:W8)(t:Int):Int×Int×Int×Int×Int×Int×Int×Int×Int×Unit:=(s.1,s.2.1,s.2.2.1,s.2.2.2.1,s.2.2.2.2.1,s.2.2.2.2.2.1,s.2.2.2.2.2.2.1,s.2.2.2.2.2.2.2,t,())
def jk(s:W8):List Int:=[s.1,s.2.1,s.2.2.1,s.2.2.2.1,s.2.2.2.2.1,s.2.2.2.2.2.1,s.2.2.2.2.2.2.1,s.2.2.2.2.2.2.2]
theorem VO(w:List Int)(hw:w.length=64)(s:W8)(u v:Unit):Loop (eN (sE,u) (w,v)) (qw s 0,())=some (qw (FK sE w s 64) 64,()):=by
 refine dw (f:=eN (sE,u) (w,v)) 64 (fun t=>(qw (FK sE w s t) t,())) (fun t ht=>?_) ?_
 ·show eN (sE,u) (w,v) (qw (FK sE w s t) t,())=some (.inl (qw (rnd (sE.getD t 0) (w.getD t 0) (FK sE w s t)) ((t+1:Nat):Int),()))
  generalize FK sE w s t=q;obtain⟨a,b,c,d,e,f,g,h⟩:=q;unfold eN qw;dsimp only;rw[b7 (by omega),ai,r6,af,r11,af,r25,af,bQ (by omega) (by omega),ai,eX sE 0 (by show t<64;omega),af,ai,eX w 0 (by omega),af,
   r2,af,r13,af,r22,af,eg,cG (by omega)]
  rfl
 ·unfold eN qw;dsimp only;rw[bM (by omega),ak,eG];rfl
theorem VP(w:List Int)(hw:w.length=64)(s:W8)(q:Int×Unit)(u v:Unit):Loop (gG (q,(w,u)) (sE,v)) ((0,()),(jk s,()))=some (((64:Int),()),(jk (FK sE w s 64),())):=by
 refine dw (f:=gG (q,(w,u)) (sE,v)) 64 (fun t=>(((t:Int),()),(jk (FK sE w s t),()))) (fun t ht=>?_) ?_
 ·show gG (q,(w,u)) (sE,v) (((t:Int),()),(jk (FK sE w s t),()))=some (.inl ((((t+1:Nat):Int),()),(jk (rnd (sE.getD t 0) (w.getD t 0) (FK sE w s t)),())))
  generalize FK sE w s t=q;obtain⟨a,b,c,d,e,f,g,h⟩:=q;have i0:idx (jk (a,b,c,d,e,f,g,h)) 0=some a:=rfl;have i1:idx (jk (a,b,c,d,e,f,g,h)) 1=some b:=rfl;have i2:idx (jk (a,b,c,d,e,f,g,h)) 2=some c:=rfl;have i3:idx (jk (a,b,c,d,e,f,g,h)) 3=some d:=rfl;have i4:idx (jk (a,b,c,d,e,f,g,h)) 4=some e:=rfl;have i5:idx (jk (a,b,c,d,e,f,g,h)) 5=some f:=rfl;have i6:idx (jk (a,b,c,d,e,f,g,h)) 6=some g:=rfl;have i7:idx (jk (a,b,c,d,e,f,g,h)) 7=some h:=rfl;have w0:within 0 8=true:=by decide
  have w1:within 1 8=true:=by decide
  have w2:within 2 8=true:=by decide
  have w3:within 3 8=true:=by decide
  have w4:within 4 8=true:=by decide
  have w5:within 5 8=true:=by decide
  have w6:within 6 8=true:=by decide
  have w7:within 7 8=true:=by decide
  have wt:within (t:Int) 64=true:=bQ (by omega) (by omega);unfold gG;dsimp only;simp only[b7 (show(t:Int)<64 by omega),ai,w0,w1,w2,w3,w4,w5,w6,w7,wt,i0,i1,i2,i3,i4,i5,i6,i7,af,t6,t11,t25,t2,t13,t22,eX sE 0 (show t<sE.length from ht),eX w 0 (show t<w.length by omega),eg,cG (show t<4611686018427387904 by omega),
   ←afV,←aeu]
  rfl
 ·unfold gG;dsimp only;rw[bM (by omega),ak,eG];rfl
def of8(l:List Int):W8:=(l.getD 0 0,l.getD 1 0,l.getD 2 0,l.getD 3 0,l.getD 4 0,l.getD 5 0,l.getD 6 0,l.getD 7 0)
theorem X8(l:List Int)(hl:l.length=8):jk (of8 l)=l:=by
 match l,hl with
 | [a,b,c,d,e,f,g,h],_=>rfl
def yN(l m:List Int):Nat→List Int
 | 0=>l
 | i+1=>(yN l m i).set i (aD .u32 (l.getD i 0) (m.getD i 0))
theorem BE(l m:List Int)(i:Nat):(yN l m i).length=l.length:=by
 induction i with
 | zero=>rfl
 | succ i ih=>simp[yN,ih]
theorem WU(l m:List Int):∀(i j:Nat),i≤j→(yN l m i).getD j 0=l.getD j 0:=by
 intro i;induction i with
 | zero=>intro j _;rfl
 | succ i ih =>
   intro j h;have:=ih j (by omega);simp only[yN,RF,Wj] at this⊢;rw[bH (by omega)];exact this
def comp(h b:List Int):List Int:=yN h (jk (FK sE (vD b) (of8 h) 64)) 8
theorem Ts(h b:List Int):(comp h b).length=h.length:=BE _ _ _
theorem X9(l m:List Int)(hl:l.length=8)(hm:m.length=8):yN l m 8=yN m l 8:=by
 match l,hl,m,hm with
 | [a,b,c,d,e,f,g,h],_,[a',b',c',d',e',f',g',h'],_ =>
   simp only[yN,List.set,List.getD_cons_zero,List.getD_cons_succ];simp only[Tf]
theorem Ya(h:List Int)(hh:h.length=8)(s:List UInt8)(hs:s.length=64)(u:Unit):rH (h,(s,u))=some (comp h (az s),()):=by
 have hb:(yM (az s) 16).length=64:=sD _ _;unfold rH;rw[WT,X6 h s hs,af];dsimp only;rw[acK _ hb,af,VN,af];have e8:h=jk (of8 h):=(X8 h hh).symm;have hsc:(vD (az s)).length=64:=FJ _;have hr:=VP (vD (az s)) hsc (of8 h) ((64:Int),()) () ();rw[←e8] at hr;rw[show J6 (yM (az s) 16) 48=vD (az s) from rfl,hr,af];dsimp only;generalize hm:jk (FK sE (vD (az s)) (of8 h) 64)=m;have hm8:m.length=8:=by rw[←hm];rfl
 have:Loop (jH (h,(s,u))) ((0,()),(m,()))=some (((8:Int),()),(yN m h 8,())):=by
  refine dw (f:=jH (h,(s,u))) 8 (fun i=>(((i:Int),()),(yN m h i,()))) (fun i hi=>?_) ?_
  ·have hl:(yN m h i).length=8:=by rw[BE,hm8]
   unfold jH;dsimp only;simp only[b7 (show(i:Int)<8 by omega),ai,bQ (show(0:Int)≤i by omega) (show(i:Int)<8 by omega),eX (yN m h i) 0 (show i<(yN m h i).length by omega),eX h 0 (show i<h.length by omega),af,eg,cG (show i<4611686018427387904 by omega),pK];rw[WU m h i i (mq _)];rfl
  ·unfold jH;dsimp only;rw[bM (by omega),ak,eG];rfl
 rw[this,af];dsimp only;rw[X9 m h hm8 hh];unfold comp;rw[hm]
end Go.Ge
namespace Go.Ge
variable [Lp]
def H0:List Int:=[1779033703,3144134277,1013904242,2773480762,1359893119,2600822924,528734635,1541459225]
theorem Yb:oN ()=some (H0,()):=rfl
theorem Ol:xB ()=some (H0,()):=rfl
def zd(all:List UInt8):Nat→List Int
 | 0=>H0
 | k+1=>comp (zd all k) (az ((all.drop (64*k)).take 64))
theorem zM(all:List UInt8)(k:Nat):(zd all k).length=8:=by
 induction k with
 | zero=>rfl
 | succ k ih=>simp only[zd];rw[Ts,ih]
theorem WV(all more:List UInt8):∀k,64*k≤all.length→zd (all++more) k=zd all k:=by
 intro k;induction k with
 | zero=>intro _;rfl
 | succ k ih =>
   intro h;simp only[zd];rw[ih (by omega),RE (by omega),ad0 (by rw[w8];omega)]
abbrev Er:=(Bool×List Int×Unit)×List Int×Int×Unit
def Inv(st:Er)(all:List UInt8):Prop :=
 ∃wait,st=((decide (64≤all.length),(if 64≤all.length then zd all (all.length / 64) else fq 8),()),wait,(all.length:Int),())∧wait.length=64∧wait.take (all.length % 64)=az (all.drop (64*(all.length / 64)))
def aaT:Er:=((false,fq 8,()),fq 64,0,())
theorem ahR:Inv aaT []:=⟨fq 64,rfl,rfl,rfl⟩
theorem rR(a b:List UInt8):az (a++b)=az a++az b:=by simp[az]
theorem BF(a:List UInt8)(n:Nat):(az a).take n=az (a.take n):=by simp[az,List.map_take]
theorem fB(a:List UInt8):(az a).length=a.length:=by simp[az]
theorem sF(a b:Nat):fR (a:Int) (b:Int)=((a % b:Nat):Int):=by
 unfold fR;rw[Int.tmod_eq_emod_of_nonneg (by omega)];exact(Int.natCast_emod a b).symm
theorem aaU(q:W8)(st:Er)(h8:st.1.2.1.length=8):Loop (fZ (qw q 64,())) ((0,()),(st,()))=some (((8:Int),()),(((st.1.1,yN st.1.2.1 (jk q) 8,st.1.2.2),st.2),())):=by
 obtain⟨⟨bg,h,u⟩,wn⟩:=st;dsimp only at h8⊢;refine dw (f:=fZ (qw q 64,())) 8 (fun i=>(((i:Int),()),(((bg,yN h (jk q) i,u),wn),()))) (fun i hi=>?_) ?_
 ·have hl:(yN h (jk q) i).length=8:=by rw[BE,h8]
  have e8:([(qw q 64).1,(qw q 64).2.1,(qw q 64).2.2.1,(qw q 64).2.2.2.1,(qw q 64).2.2.2.2.1,(qw q 64).2.2.2.2.2.1,(qw q 64).2.2.2.2.2.2.1,(qw q 64).2.2.2.2.2.2.2.1]:List Int)=jk q:=rfl;unfold fZ;dsimp only;rw[e8];have hq8:(jk q).length=8:=rfl;simp only[b7 (show(i:Int)<8 by omega),ai,bQ (show(0:Int)≤i by omega) (show(i:Int)<8 by omega),eX (yN h (jk q) i) 0 (show i<(yN h (jk q) i).length by omega),eX (jk q) 0 (show i<(jk q).length by omega),af,eg,cG (show i<4611686018427387904 by omega),pK];rw[WU h (jk q) i i (mq _)];rfl
 ·unfold fZ;dsimp only;rw[bM (by omega),ak,eG];rfl
theorem aaV(part all:List UInt8)(st:Er)(hp:part≠[])(hI:Inv st all)(hb:all.length+part.length<1152921504606846976) :
  ∃st',eO ((part,()),(st,()))=some (.inl ((part.drop (64-all.length % 64),()),(st',())))∧Inv st' (all++part.take (64-all.length % 64)):=by
 obtain⟨wait,rfl,hw,ht⟩:=hI;generalize hN:all.length=N at *;have ig:N % 64<64:=A4 _ (by decide);have eat:fR (N:Int) 64=((N % 64:Nat):Int):=sF N 64;have em:iB (az part) (minus (64:Int) ((N % 64:Nat):Int))=az (part.take (64-N % 64)):=by
  unfold iB minus;rw[show((64:Int)-((N % 64:Nat):Int)).toNat=64-N % 64 by omega,BF]
 generalize hk:(part.take (64-N % 64)).length=k;have hk':k=min (64-N % 64) part.length:=by rw[←hk,o6]
 have hkp:0<k:=by
  have:0<part.length:=by cases part with|nil=>exact absurd rfl hp|cons=>simp
  omega
 have ahS:len (az (part.take (64-N % 64)))=(k:Int):=by unfold len;rw[fB,hk]
 have ahT:aD .i64 ((N % 64:Nat):Int) (k:Int)=((N % 64+k:Nat):Int):=by rw[jE (by omega) (by omega)];omega
 have af0:aD .i64 (N:Int) (k:Int)=((N+k:Nat):Int):=by rw[jE (by omega) (by omega)];omega
 have ahU:inside ((N % 64:Nat):Int) 64 64=true:=cR (by omega) (by omega) (by omega);have ahV:inside (k:Int) (len part) (len part)=true:=cR (by omega) (by unfold len;omega) (by omega);have ahW:sub part (k:Int) (minus (len part) (k:Int))=part.drop k:=by
  unfold sub minus len;rw[zg,Ny (by rw[w8];omega)]
 have hdk:part.drop k=part.drop (64-N % 64):=by
  rcases Nat.le_total (64-N % 64) part.length with h|h
  ·rw[show k=64-N % 64 by omega]
  ·rw[Xf (by omega),Xf h]
 have af1:over wait ((N % 64:Nat):Int) (az (part.take (64-N % 64)))=az (all.drop (64*(N / 64))++part.take (64-N % 64))++wait.drop (N % 64+k):=by
  unfold over;rw[zg,ht,fB,hk,rR]
 have hne:nt (bX part [])=true:=by
  unfold bX nt;cases part with
  | nil=>exact absurd rfl hp
  | cons x r=>rfl
 have hall:(all++part.take (64-N % 64)).length=N+k:=by rw[uV,hN,hk]
 have hdm:64*(N / 64)+N % 64=N:=RP N 64;have WW:(all.drop (64*(N / 64))).length=N % 64:=by rw[w8];omega
 have hwl:(az (all.drop (64*(N / 64))++part.take (64-N % 64))++wait.drop (N % 64+k)).length=64:=by
  rw[uV,fB,uV,WW,hk,w8];omega
 unfold eO;dsimp only;simp only[hne,ai,bN (show(64:Int)≠0 by decide),ak,eat,ahU,em,ahS,ahV,ahT,af0,ahW,af1];by_cases hfull:N % 64+k=64
 ·
  have hw0:wait.drop (N % 64+k)=[]:=by rw[Xf (by omega)]
  simp only[dO (show((N % 64+k:Nat):Int)=64 by omega),ai,hw0,G0] at hwl⊢;generalize hblk:az (all.drop (64*(N / 64))++part.take (64-N % 64))=blk at *;have hq:(N+k) / 64=N / 64+1:=by omega
  have hm0:(N+k) % 64=0:=by omega
  have af2:((all++part.take (64-N % 64)).drop (64*(N / 64))).take 64=all.drop (64*(N / 64))++part.take (64-N % 64):=by
   rw[RE (by omega),Ny (by rw[uV,WW,hk];omega)]
  have hh:∃bg':Bool,bg'=true∧(aa (aq (nt (decide (64≤N))) (aa (oN ()) fun y2:List Int×Unit=>some ((),(((true,y2.1,()),(blk,((N+k:Nat):Int),())),()))) (some ((),(((decide (64≤N),(if 64≤N then zd all (N / 64) else fq 8),()),(blk,((N+k:Nat):Int),())),())))) fun y:Unit×Er×Unit=>some y)=some ((),(((true,zd all (N / 64),()),(blk,((N+k:Nat):Int),())),())):=by
   refine⟨true,rfl,?_⟩;by_cases ZM:64≤N
   ·simp only[ZM,RN,nk];rfl
   ·have:N / 64=0:=by omega
    simp only[ZM,Wq,G1,this,Yb];rfl
  obtain⟨_,_,hh⟩:=hh;have hh':(aq (nt (decide (64≤N))) (aa (oN ()) fun y2:List Int×Unit=>some ((),(((true,y2.1,()),(blk,((N+k:Nat):Int),())),()))) (some ((),(((decide (64≤N),(if 64≤N then zd all (N / 64) else fq 8),()),(blk,((N+k:Nat):Int),())),()))):Option (Unit×Er×Unit))=some ((),(((true,zd all (N / 64),()),(blk,((N+k:Nat):Int),())),())):=by
   have:∀o:Option (Unit×Er×Unit),(aa o fun y=>some y)=o:=by intro o;cases o<;>rfl
   exact(this _).symm.trans hh
  rw[hh',af,X7,af,QN blk hwl,af];dsimp only;have hl8:=zM all (N / 64);have i0:=kY (zd all (N / 64)) 0 (i:=0) (k:=0) rfl (by omega);have i1:=kY (zd all (N / 64)) 0 (i:=1) (k:=1) rfl (by omega);have i2:=kY (zd all (N / 64)) 0 (i:=2) (k:=2) rfl (by omega);have i3:=kY (zd all (N / 64)) 0 (i:=3) (k:=3) rfl (by omega);have i4:=kY (zd all (N / 64)) 0 (i:=4) (k:=4) rfl (by omega);have i5:=kY (zd all (N / 64)) 0 (i:=5) (k:=5) rfl (by omega);have i6:=kY (zd all (N / 64)) 0 (i:=6) (k:=6) rfl (by omega);have i7:=kY (zd all (N / 64)) 0 (i:=7) (k:=7) rfl (by omega);have w0:within 0 8=true:=by decide
  have w1:within 1 8=true:=by decide
  have w2:within 2 8=true:=by decide
  have w3:within 3 8=true:=by decide
  have w4:within 4 8=true:=by decide
  have w5:within 5 8=true:=by decide
  have w6:within 6 8=true:=by decide
  have w7:within 7 8=true:=by decide
  simp only[w0,w1,w2,w3,w4,w5,w6,w7,ai,i0,i1,i2,i3,i4,i5,i6,i7,af];have hr:=VO (vD blk) (FJ blk) (of8 (zd all (N / 64))) () ();rw[show((zd all (N / 64)).getD 0 0,(zd all (N / 64)).getD 1 0,(zd all (N / 64)).getD 2 0,(zd all (N / 64)).getD 3 0,(zd all (N / 64)).getD 4 0,(zd all (N / 64)).getD 5 0,(zd all (N / 64)).getD 6 0,(zd all (N / 64)).getD 7 0,(0:Int),())=qw (of8 (zd all (N / 64))) 0 from rfl,hr,af];rw[aaU _ ((true,zd all (N / 64),()),(blk,((N+k:Nat):Int),())) hl8,af,af,eg];dsimp only;refine⟨_,by rw[hdk],?_⟩;refine⟨blk,?_,hwl,?_⟩
  ·rw[hall];have ZM:64≤N+k:=by omega
   simp only[ZM,RN,nk];have hsN:zd (all++part.take (64-N % 64)) ((N+k) / 64)=yN (zd all (N / 64)) (jk (FK sE (vD blk) (of8 (zd all (N / 64))) 64)) 8:=by
    rw[hq];simp only[zd];rw[WV all _ _ (by omega),af2,hblk];rfl
   rw[hsN]
  ·rw[hall,hm0,hq,Uq,Xf (by omega)];rfl
 ·have hnf:N % 64+k<64:=by omega
  simp only[bN (show((N % 64+k:Nat):Int)≠64 by omega),ak,af,eg];refine⟨_,by rw[hdk],?_⟩;have hq:(N+k) / 64=N / 64:=by omega
  have hm0:(N+k) % 64=N % 64+k:=by omega
  refine⟨_,?_,hwl,?_⟩
  ·rw[hall,hq];by_cases ZM:64≤N
   ·have ace:64≤N+k:=by omega
    simp only[ZM,ace,RN,nk];rw[WV all _ _ (by omega)]
   ·have ace:¬64≤N+k:=by omega
    simp only[ZM,ace,Wq,G1]
  ·rw[hall,hm0,hq,ad0 (by rw[fB,uV,WW,hk];omega),Ny (by rw[fB,uV,WW,hk];omega),RE (by omega)]
end Go.Ge
namespace Go.Ge
variable [Lp]
theorem aaW:∀(n:Nat) (part all:List UInt8) (st:Er),part.length≤n→Inv st all→all.length+part.length<1152921504606846976 →
  ∃st',Loop eO ((part,()),(st,()))=some (([],()),(st',()))∧Inv st' (all++part):=by
 intro n;induction n with
 | zero =>
   intro part all st hn hI hb;obtain rfl:part=[]:=YQ (by omega);refine⟨st,?_,by rw[G0];exact hI⟩;rw[jo];have:eO (([],()),(st,()))=some (.inr (([],()),(st,()))):=by
    unfold eO;dsimp only;rw[show nt (bX [] [])=false from rfl,ak,eG]
   rw[this];rfl
 | succ n ih =>
   intro part all st hn hI hb;by_cases hp:part=[]
   ·subst hp;exact ih [] all st (by simp) hI hb
   ·obtain⟨st1,h1,h2⟩:=aaV part all st hp hI hb;have hlt:all.length % 64<64:=A4 _ (by decide);have hpl:0<part.length:=by cases part with|nil=>exact absurd rfl hp|cons=>simp
    obtain⟨st',h3,h4⟩:=ih (part.drop (64-all.length % 64)) _ st1 (by rw[w8];omega) h2 (by rw[uV,o6,w8];omega);refine⟨st',?_,by rw[qm,RG] at h4;exact h4⟩;rw[jo,h1];exact h3
theorem K3(part all:List UInt8)(st:Er)(hI:Inv st all)(hb:all.length+part.length<1152921504606846976):∃st',fe ((part,()),(st,()))=some ((),(st',()))∧Inv st' (all++part):=by
 obtain⟨st',h1,h2⟩:=aaW part.length part all st (mq _) hI hb;refine⟨st',?_,h2⟩;unfold fe;dsimp only;rw[h1,af]
def zs(n:Nat):Nat:=(119-n % 64) % 64
def cS(n k:Nat):Int:=kT .u8 (jS .u64 (iZ .u64 (kT .u64 (n:Int)) 8) ((8*k:Nat):Int))
def HL(n:Nat):List Int:=[cS n 7,cS n 6,cS n 5,cS n 4,cS n 3,cS n 2,cS n 1,cS n 0]
def pad(s:List UInt8):List UInt8:=s++[128]++List.replicate (zs s.length) 0++aT (HL s.length)
theorem Es(s:List UInt8):(pad s).length=s.length+1+zs s.length+8:=by simp[pad,aT,HL];omega
theorem WX(s:List UInt8):(pad s).length % 64=0:=by rw[Es];unfold zs;omega
theorem s5(s:List UInt8):aT (az s)=s:=by
 unfold aT az;rw[List.map_map]
 conv=>rhs;rw[←List.map_id s]
 apply YX;intro x _;simp
theorem xH(a b:List Int):aT (a++b)=aT a++aT b:=by simp[aT]
theorem Tt(s:List UInt8)(hn:s.length≤1048576):Loop jF (((),()),(az s++[128],()))=some (((),()),(az s++[128]++fq (zs s.length),())):=by
 have hz:zs s.length<64:=A4 _ (by decide);have:=dw (f:=jF) (r:=(((),()),(az s++[128]++fq (zs s.length),()))) (zs s.length) (fun j=>(((),()),(az s++[128]++fq j,()))) (fun j hj=>by
  unfold jF;dsimp only;have el:len (az s++[128]++fq j)=((s.length+1+j:Nat):Int):=by unfold len;simp[az,fq];omega
  rw[bN (by decide),ak,el,show((64:Int))=((64:Nat):Int) from rfl,sF,bN (by unfold zs at hj;omega),show nt false=true from rfl,ai,kN (by simp only[plus,len,YV];omega),ai,eg]
  congr 4
  show az s++[128]++fq j++[0]=_
  rw[qm,show fq j++[0]=fq (j+1) from by simp[fq,List.replicate_succ']])
  (by
   unfold jF;dsimp only;have el:len (az s++[128]++fq (zs s.length))=((s.length+1+zs s.length:Nat):Int):=by unfold len;simp[az,fq];omega
   rw[bN (by decide),ak,el,show((64:Int))=((64:Nat):Int) from rfl,sF,dO (by unfold zs;omega),show nt true=false from rfl,ak,eG])
 have h0:az s++[128]++fq 0=az s++[128]:=by simp[fq]
 simp only[h0] at this;exact this
theorem Yc(s:List UInt8)(b:List Int)(hn:s.length≤1048576)(hb:b.length≤2097152)(u:Unit):Loop (dD (s,u)) (((),(7,())),(b,()))=some (((),(-1,())),(b++HL s.length,())):=by
 have step:∀(k:Nat) (c:List Int),k≤7→c.length≤2097160→dD (s,u) (((),((k:Int),())),(c,()))=some (.inl (((),((k:Int)-1,())),(c++[cS s.length k],()))):=by
  intro k c hk hc;unfold dD;dsimp only;have e8:iZ .i64 8 (k:Int)=((8*k:Nat):Int):=by rw[FA (by omega) (by omega)];omega
  rw[pJ (by omega),ai,e8,bM (by omega),ak,kN (by simp only[plus,len,YV];omega),ai,kz (by omega) (by omega),eg];rfl
 have hend:∀c:List Int,dD (s,u) (((),((-1:Int),())),(c,()))=some (.inr (((),(-1,())),(c,()))):=by
  intro c;unfold dD;dsimp only;rw[CA (by decide),ak,eG]
 have L:∀(k:Nat) (c:List Int),k≤7→c.length≤2097160→Loop (dD (s,u)) (((),((k:Int),())),(c,()))=Loop (dD (s,u)) (((),((k:Int)-1,())),(c++[cS s.length k],())):=by
  intro k c hk hc;rw[jo,step k c hk hc];rfl
 have l7:=L 7 b (by omega) (by omega);have l6:=L 6 (b++[cS s.length 7]) (by omega) (by simp;omega);have l5:=L 5 (b++[cS s.length 7]++[cS s.length 6]) (by omega) (by simp;omega);have l4:=L 4 (b++[cS s.length 7]++[cS s.length 6]++[cS s.length 5]) (by omega) (by simp;omega);have l3:=L 3 (b++[cS s.length 7]++[cS s.length 6]++[cS s.length 5]++[cS s.length 4]) (by omega) (by simp;omega);have l2:=L 2 (b++[cS s.length 7]++[cS s.length 6]++[cS s.length 5]++[cS s.length 4]++[cS s.length 3]) (by omega) (by simp;omega);have l1:=L 1 (b++[cS s.length 7]++[cS s.length 6]++[cS s.length 5]++[cS s.length 4]++[cS s.length 3]++[cS s.length 2]) (by omega) (by simp;omega);have l0:=L 0 (b++[cS s.length 7]++[cS s.length 6]++[cS s.length 5]++[cS s.length 4]++[cS s.length 3]++[cS s.length 2]++[cS s.length 1]) (by omega) (by simp;omega);refine l7.trans (l6.trans (l5.trans (l4.trans (l3.trans (l2.trans (l1.trans (l0.trans ?_)))))));have:b++[cS s.length 7]++[cS s.length 6]++[cS s.length 5]++[cS s.length 4]++[cS s.length 3]++[cS s.length 2]++[cS s.length 1]++[cS s.length 0]=b++HL s.length:=by simp[HL]
 rw[this];show Loop (dD (s,u)) (((),(-1,())),(b++HL s.length,()))=_
 rw[jo,hend];rfl
theorem Yd(s:List UInt8)(hn:s.length≤1048576):rG (s,())=some (pad s,()):=by
 have hz:zs s.length<64:=A4 _ (by decide);unfold rG;dsimp only;rw[kN (by unfold len;omega),ai,kN (by simp only[plus,len,YV,fB];omega),ai,show app (az s) ([128]:List Int)=az s++[128] from rfl,Tt s hn,af];dsimp only;rw[Yc s _ hn (by simp[fB,fq];omega),af];dsimp only;rw[xH,xH,xH,s5];unfold pad;have:aT (fq (zs s.length))=List.replicate (zs s.length) 0:=by unfold aT fq;rw[List.map_replicate];rfl
 rw[this];rfl
theorem VQ(t:List UInt8)(hm:t.length % 64=0)(hn:t.length≤2097152)(u:Unit):Loop (lT (t,u)) ((0,()),(H0,()))=some (((t.length:Int),()),(zd t (t.length / 64),())):=by
 have:=dw (f:=lT (t,u)) (r:=(((t.length:Int),()),(zd t (t.length / 64),()))) (t.length / 64) (fun j=>((((64*j:Nat):Int),()),(zd t j,()))) (fun j hj=>by
  unfold lT;dsimp only;have hjl:64*j+64≤t.length:=by omega
  rw[jE (by omega) (by omega),pJ (by unfold len;omega),ai,cR (by omega) (by omega) (by unfold len;omega),ai];have hs:sub t ((64*j:Nat):Int) (minus (((64*j:Nat):Int)+64) ((64*j:Nat):Int))=(t.drop (64*j)).take 64:=by
   unfold sub minus;rw[zg,show(((64*j:Nat):Int)+64-((64*j:Nat):Int)).toNat=64 by omega]
  rw[hs,Ya _ (zM t j) _ (by rw[o6,w8];omega),af,eg];rw[show(((64*j:Nat):Int)+64)=((64*(j+1):Nat):Int) by omega];rfl)
  (by
   unfold lT;dsimp only;have hjl:64*(t.length / 64)=t.length:=by omega
   rw[hjl,jE (by omega) (by omega),CA (by unfold len;omega),ak,eG])
 exact this
def ahX(h:List Int)(i:Nat):Int:=kT .u8 (jS .u32 (h.getD (i / 4) 0) ((24-8*(i % 4):Nat):Int))
def Tu(h:List Int):Nat→List Int
 | 0=>fq 32
 | i+1=>(Tu h i).set i (ahX h i)
theorem BG(h:List Int)(i:Nat):(Tu h i).length=32:=by
 induction i with
 | zero=>rfl
 | succ i ih=>simp[Tu,ih]
theorem WY:([0,0,0,0,0,0,0,0,0,0,0,0,0,0,0,0,0,0,0,0,0,0,0,0,0,0,0,0,0,0,0,0]:List Int)=fq 32:=rfl
theorem aaX{a:Nat}(h:a<4611686018427387904):DZ .i64 (a:Int) 4=((a / 4:Nat):Int):=by
 have e:((a:Int).tdiv 4)=((a / 4:Nat):Int):=by rw[adp (by omega)];exact(Int.natCast_ediv a 4).symm
 unfold DZ;rw[e];have:=Qz (a:=((a / 4:Nat):Int)) (by omega) (by omega);unfold kT at this;exact this
theorem Tv{h o:List Int}(hh:h.length=8)(ho:o.length=32)(i:Nat)(hi:i<32):DZ .i64 (i:Int) 4=((i / 4:Nat):Int)∧cL .i64 24 (iZ .i64 8 (fR (i:Int) 4))=((24-8*(i % 4):Nat):Int):=by
 refine⟨aaX (by omega),?_⟩;rw[show(4:Int)=((4:Nat):Int) from rfl,sF,FA (by omega) (by omega),kz (by omega) (by omega)];omega
theorem acL(h:List Int)(hh:h.length=8)(q:Int×Unit)(u:Unit):Loop (lU (q,(h,u))) ((0,()),(fq 32,()))=some (((32:Int),()),(Tu h 32,())):=by
 refine dw (f:=lU (q,(h,u))) 32 (fun i=>(((i:Int),()),(Tu h i,()))) (fun i hi=>?_) ?_
 ·have hl:=BG h i;obtain⟨e1,e2⟩:=Tv hh hl i hi;unfold lU;dsimp only;rw[b7 (by omega),ai,bN (by decide),ak,e1,bQ (by omega) (by omega),ai,eX h 0 (by omega),af,ak,e2,bM (by omega),ak,bQ (by omega) (by omega),ai,
   eX _ 0 (by omega),af,af,af,eg,cG (by omega),pK]
  rfl
 ·unfold lU;dsimp only;rw[bM (by omega),ak,eG];rfl
theorem acM(h w:List Int)(hh:h.length=8)(bg:Bool)(n:Int)(a b c d e:Unit)(r:Unit):Loop (ga (r,(((bg,h,a),w,n,b),c))) ((0,()),(fq 32,()))=some (((32:Int),()),(Tu h 32,())):=by
 refine dw (f:=ga (r,(((bg,h,a),w,n,b),c))) 32 (fun i=>(((i:Int),()),(Tu h i,()))) (fun i hi=>?_) ?_
 ·have hl:=BG h i;obtain⟨e1,e2⟩:=Tv hh hl i hi;unfold ga;dsimp only;rw[b7 (by omega),ai,bN (by decide),ak,e1,bQ (by omega) (by omega),ai,eX h 0 (by omega),af,ak,e2,bM (by omega),ak,bQ (by omega) (by omega),ai,
   eX _ 0 (by omega),af,af,af,eg,cG (by omega),pK]
  rfl
 ·unfold ga;dsimp only;rw[bM (by omega),ak,eG];rfl
def sha(s:List UInt8):List Int:=Tu (zd (pad s) ((pad s).length / 64)) 32
theorem qU(s:List UInt8):(sha s).length=32:=BG _ _
theorem VR(s:List UInt8)(hn:s.length≤1048576):wA (s,())=some (sha s,()):=by
 have hz:zs s.length<64:=A4 _ (by decide);unfold wA;rw[Ol,af];dsimp only;rw[Yd s hn,af,VQ _ (WX s) (by rw[Es];omega),af,WY,acL _ (zM _ _),af];dsimp only[sha]
theorem Ye(s:List UInt8)(hn:s.length≤1152921504606840000)(st:Er)(hI:Inv st (s++[128])):∃st',Loop dJ ((),(st,()))=some ((),(st',()))∧Inv st' (s++[128]++List.replicate (zs s.length) 0):=by
 have hz:zs s.length<64:=A4 _ (by decide);have key:∀(m j:Nat) (st:Er),j+m=zs s.length→Inv st (s++[128]++List.replicate j 0)→∃st',Loop dJ ((),(st,()))=some ((),(st',()))∧Inv st' (s++[128]++List.replicate (zs s.length) 0):=by
  intro m;induction m with
  | zero =>
    intro j st hj hI;obtain rfl:j=zs s.length:=by omega
    refine⟨st,?_,hI⟩;obtain⟨wait,rfl,h1,h2⟩:=hI;rw[jo];have:dJ ((),(((decide (64≤(s++[128]++List.replicate (zs s.length) 0).length),(if 64≤(s++[128]++List.replicate (zs s.length) 0).length then zd (s++[128]++List.replicate (zs s.length) 0) ((s++[128]++List.replicate (zs s.length) 0).length / 64) else fq 8),()),wait,((s++[128]++List.replicate (zs s.length) 0).length:Int),()),()))=some (.inr ((),(((decide (64≤(s++[128]++List.replicate (zs s.length) 0).length),(if 64≤(s++[128]++List.replicate (zs s.length) 0).length then zd (s++[128]++List.replicate (zs s.length) 0) ((s++[128]++List.replicate (zs s.length) 0).length / 64) else fq 8),()),wait,((s++[128]++List.replicate (zs s.length) 0).length:Int),()),()))):=by
     have hl:(s++[128]++List.replicate (zs s.length) (0:UInt8)).length=s.length+1+zs s.length:=by simp;omega
     unfold dJ;dsimp only;rw[bN (by decide),ak,hl,show((64:Int))=((64:Nat):Int) from rfl,sF,dO (by unfold zs;omega),show nt true=false from rfl,ak,eG]
    rw[this];rfl
  | succ m ih =>
    intro j st hj hI;obtain⟨st1,g1,g2⟩:=K3 [0] _ st hI (by simp;omega);obtain⟨st',k1,k2⟩:=ih (j+1) st1 (by omega) (by
     rw[qm,show List.replicate j (0:UInt8)++[0]=List.replicate (j+1) 0 from by rw[List.replicate_succ']] at g2;exact g2)
    refine⟨st',?_,k2⟩;rw[jo];have hn':st.2.2.1=((s.length+1+j:Nat):Int):=by
     obtain⟨wait,rfl,h1,h2⟩:=hI;simp;omega
    have:dJ ((),(st,()))=some (.inl ((),(st1,()))):=by
     unfold dJ;dsimp only;rw[bN (by decide),ak,hn',show((64:Int))=((64:Nat):Int) from rfl,sF,bN (by unfold zs at hj;omega),show nt false=true from rfl,ai,g1,af,eg]
    rw[this];exact k1
 exact key (zs s.length) 0 st (by omega) (by simpa using hI)
theorem aaZ(n:Nat)(hn:n≤1152921504606840000)(st:Er)(hst:st.2.2.1=(n:Int))(u v:Unit):Loop (eP (u,(st,v))) ((0,()),(fq 8,()))=some (((8:Int),()),(HL n,())):=by
 obtain⟨hw,wt,m,q⟩:=st;dsimp only at hst;subst hst;have step:∀(k:Nat) (c:List Int),k<8→c.length=8→eP (u,((hw,wt,(n:Int),q),v)) (((k:Int),()),(c,()))=some (.inl ((((k+1:Nat):Int),()),(c.set (7-k) (cS n k),()))):=by
  intro k c hk hc;unfold eP;dsimp only;have e8:iZ .i64 8 (k:Int)=((8*k:Nat):Int):=by rw[FA (by omega) (by omega)];omega
  have e7:cL .i64 7 (k:Int)=((7-k:Nat):Int):=by rw[kz (by omega) (by omega)];omega
  rw[b7 (by omega),ai,e8,bM (by omega),ak,e7,bQ (by omega) (by omega),ai,eX c 0 (by omega),af,af,af,eg,cG (by omega),pK];rfl
 have:=dw (f:=eP (u,((hw,wt,(n:Int),q),v))) (r:=(((8:Int),()),(HL n,()))) 8 (fun k=>(((k:Int),()),((match k with
  | 0=>fq 8
  | 1=>[0,0,0,0,0,0,0,cS n 0]
  | 2=>[0,0,0,0,0,0,cS n 1,cS n 0]
  | 3=>[0,0,0,0,0,cS n 2,cS n 1,cS n 0]
  | 4=>[0,0,0,0,cS n 3,cS n 2,cS n 1,cS n 0]
  | 5=>[0,0,0,cS n 4,cS n 3,cS n 2,cS n 1,cS n 0]
  | 6=>[0,0,cS n 5,cS n 4,cS n 3,cS n 2,cS n 1,cS n 0]
  | 7=>[0,cS n 6,cS n 5,cS n 4,cS n 3,cS n 2,cS n 1,cS n 0]
  | _=>HL n:List Int),()))) (fun k hk=>by
    rcases(by omega:k=0∨k=1∨k=2∨k=3∨k=4∨k=5∨k=6∨k=7) with rfl|rfl|rfl|rfl|rfl|rfl|rfl|rfl<;>exact(step _ _ (by omega) rfl).trans rfl)
  (by
   unfold eP;dsimp only;rw[bM (by omega),ak,eG];rfl)
 exact this
theorem acN(s:List UInt8)(hn:s.length≤1048576)(st:Er)(hI:Inv st s)(u v:Unit):mF (u,(st,v))=some ((sha s,()),(st,())):=by
 have hz:zs s.length<64:=A4 _ (by decide);have hst:st.2.2.1=(s.length:Int):=by obtain⟨wait,rfl,_⟩:=hI;rfl
 obtain⟨st1,a1,a2⟩:=K3 [128] s st hI (by simp;omega);obtain⟨st2,b1,b2⟩:=Ye s (by omega) st1 a2;obtain⟨st3,c1,c2⟩:=K3 (aT (HL s.length)) _ st2 b2 (by simp[aT,HL];omega);unfold mF;dsimp only;rw[WY,show aT ([128]:List Int)=[128] from rfl,a1,af];dsimp only;rw[b1,af];dsimp only;rw[show([0,0,0,0,0,0,0,0]:List Int)=fq 8 from rfl,aaZ s.length (by omega) st hst,af,cR (by decide) (by decide) (by decide),ai];dsimp only;rw[show sub (HL s.length) 0 (minus 8 0)=HL s.length from rfl,c1,af];have c2':Inv st3 (pad s):=c2;obtain⟨wait,rfl,h1,h2⟩:=c2';have ZM:64≤(pad s).length:=by have:=WX s;rw[Es] at this⊢;omega
 simp only[ZM,RN,nk];rw[acM _ _ (zM _ _) _ _ () () () () () (),af];dsimp only[sha]
theorem VS(s:List UInt8)(hn:s.length≤1048576):CB (s,())=some (sha s,()):=by
 obtain⟨st1,a1,a2⟩:=K3 s [] aaT ahR (by simp;omega);unfold CB;dsimp only;rw[show((false,([0,0,0,0,0,0,0,0]:List Int),()),([0,0,0,0,0,0,0,0,0,0,0,0,0,0,0,0,0,0,0,0,0,0,0,0,0,0,0,0,0,0,0,0,0,0,0,0,0,0,0,0,0,0,0,0,0,0,0,0,0,0,0,0,0,0,0,0,0,0,0,0,0,0,0,0]:List Int),(0:Int),())=aaT from rfl,a1,af];dsimp only;rw[acN s hn st1 (by simpa using a2),af]
end Go.Ge
namespace Go.Ge
variable [Lp]
abbrev aiR:=(Bool×List UInt8×Int×Unit)×Er×Er×Unit
end Go.Ge
