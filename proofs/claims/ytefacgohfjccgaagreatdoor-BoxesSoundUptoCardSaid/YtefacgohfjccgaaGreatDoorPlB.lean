/- Plain laws of what the functions compute: part 2. -/
import Derived.Test.YtefacgohfjccgaaGreatDoorPlA
set_option linter.unusedSectionVars false
set_option linter.unusedVariables false
set_option linter.unusedSimpArgs false
noncomputable section
namespace Go.Ge
variable [Lp]
set_option maxRecDepth 100000
abbrev Ko:=(Int×(List (Sb×Sb×(List Sb)×Sb×Int×Int×Bool×Unit))×(List (Sb×(List Sb)×Sb×Sb×(List (Sb×Sb×Sb×Unit))×Unit))×(List (Sb×(List Sb)×Sb×Sb×Sb×(List (Sb×Sb×Sb×Unit))×Unit))×Unit)
abbrev sD:=(Bool×Int×Unit)
abbrev fE:=(Sb×(List Sb)×Unit)
abbrev xM:=((Int×Unit)×Unit×(List fE)×Unit)
abbrev lN:=(Int×Int×Unit)
abbrev Ci:=(List (Sb×Sb×Sb×Unit))
abbrev iu:=(Nat×sD×Unit)
abbrev Dc:=(Nat×lN×(List Sb)×Unit)
abbrev NL:=(Sb×(List Sb)×Sb×Sb×Sb×Ci×Unit)
abbrev Q9:=(Sb×Sb×(List Sb)×Sb×Int×Int×Bool×Unit)
abbrev eH:=(sD×Unit)
abbrev Jo:=((Nat×(Int×Unit)×Unit×(List fE)×Unit))
abbrev Gb:=(Sb×(List Sb)×Sb×Sb×Ci×Unit)
abbrev xN:=(lN×(List Sb)×Unit)
def dU(l:List (List UInt8))(x:Unit):Option (List (List UInt8)):=bif fits (len l) then some (om l) else none
def eA(l:List (List UInt8))(x:Unit):Option (List (List UInt8)):=some (Lib.compact (α:=List UInt8) l)
def bz(x:(List Sb)×Unit):Option ((List Sb)×Unit) :=
 bif fits (len x.1) then some (x.1,()) else none
def qD(x:Sb×Unit):Option (Bool×Unit) :=
 ah (aj (aj (cX (1:Int) (@len UInt8 x.1))
 (cX (@len UInt8 x.1) (32:Int))
 false)
 (ah (jd (x.1,(([(97:UInt8),(98:UInt8),(99:UInt8),(100:UInt8),(101:UInt8),(102:UInt8),(103:UInt8),(104:UInt8),(105:UInt8),(106:UInt8),(107:UInt8),(108:UInt8),(109:UInt8),(110:UInt8),(111:UInt8),(112:UInt8),(113:UInt8),(114:UInt8),(115:UInt8),(116:UInt8),(117:UInt8),(118:UInt8),(119:UInt8),(120:UInt8),(121:UInt8),(122:UInt8),(48:UInt8),(49:UInt8),(50:UInt8),(51:UInt8),(52:UInt8),(53:UInt8),(54:UInt8),(55:UInt8),(56:UInt8),(57:UInt8),(46:UInt8),(95:UInt8),(45:UInt8)]:List (UInt8)),()))) (fun(y1:Sb×Unit)=>some (cc y1.1 ([]:List (UInt8)))))
 (some false)) (fun(y1:Bool)=>some (y1,()))
def pF(x:(List Sb)×Unit)(y3:lN×Unit):Option ((lN×Unit)⊕(Nat×lN×Unit)) :=
 aj (bB y3.1.2.1 (@len Sb x.1))
 (ah (@idx Sb x.1 y3.1.2.1) (fun(y4:List (UInt8))=>ah (qD (y4,())) (fun(y5:Bool×Unit)=>aj (nt y5.1)
 (some (Sum.inr ((1:Nat),((y3.1.2.1,(y3.1.2.1,())),())):((lN×Unit))⊕((Nat×lN×Unit))))
 (some (Sum.inl ((y3.1.1,(aL IntKind.i64 y3.1.2.1 (1:Int),())),()):((lN×Unit))⊕((Nat×lN×Unit)))))))
 (some (Sum.inr ((0:Nat),((y3.1.1,(y3.1.2.1,())),())):((lN×Unit))⊕((Nat×lN×Unit))))
def mY(x:(List Sb)×Unit):Option (Int×Unit) :=
 aj (fits (@len Sb x.1))
 (ah (dU x.1 ()) (fun(y1:List Sb)=>ah (eA y1 ()) (fun(y2:List Sb)=>ah (Loop (pF x) (((0:Int),((0:Int),())),())) (fun(y3:Nat×lN×Unit)=>aj (fT y3.1 (0:Nat))
 (aj (aj (nt (aj (nt (bB (4:Int) (@len Sb x.1)))
 (bB (@len Sb y2) (@len Sb x.1))
 true))
 (cX (0:Int) (-1:Int))
 true)
 (some ((1:Int),()))
 (some ((0:Int),())))
 (aj (aj (nt (aj (nt (bB (4:Int) (@len Sb x.1)))
 (bB (@len Sb y2) (@len Sb x.1))
 true))
 (cX (0:Int) y3.2.1.1)
 true)
 (some ((1:Int),()))
 (some ((0:Int),())))))))
 none
def qE(x:(List fE)×Sb×Unit)(y1:lN×Sb×Unit):Option ((lN×Sb×Unit)⊕(Nat×lN×Sb×Unit)) :=
 aj (bB y1.1.2.1 (@len fE x.1))
 (ah (@idx fE x.1 y1.1.2.1) (fun(y2:Sb×(List Sb)×Unit)=>aj (cc y2.1 y1.2.1)
 (some (Sum.inr ((1:Nat),((y1.1.2.1,(y1.1.2.1,())),(y1.2.1,()))):((lN×Sb×Unit))⊕((Nat×lN×Sb×Unit))))
 (some (Sum.inl ((y1.1.1,(aL IntKind.i64 y1.1.2.1 (1:Int),())),(y1.2.1,())):((lN×Sb×Unit))⊕((Nat×lN×Sb×Unit))))))
 (some (Sum.inr ((0:Nat),((y1.1.1,(y1.1.2.1,())),(y1.2.1,()))):((lN×Sb×Unit))⊕((Nat×lN×Sb×Unit))))
def wE(x:(List fE)×Sb×Unit):Option (Int×Unit) :=
 ah (Loop (qE x) (((0:Int),((0:Int),())),(x.2.1,()))) (fun(y1:Nat×lN×Sb×Unit)=>aj (fT y1.1 (0:Nat))
 (some ((-1:Int),()))
 (some (y1.2.1.1,())))
def jH(y4:Sb×(List Sb)×Unit)(y5:lN×(List Sb)×Unit):Option (xN⊕Dc) :=
 aj (bB y5.1.2.1 (@len Sb y4.2.1))
 (ah (@idx Sb y4.2.1 y5.1.2.1) (fun(y6:List (UInt8))=>ah (cC (y5.2.1,(y6,()))) (fun(y7:Bool×Unit)=>aj y7.1
 (some (Sum.inr ((1:Nat),((y5.1.2.1,(y5.1.2.1,())),(y5.2.1,()))):(xN)⊕(Dc)))
 (some (Sum.inl ((y5.1.1,(aL IntKind.i64 y5.1.2.1 (1:Int),())),(y5.2.1,())):(xN)⊕(Dc))))))
 (some (Sum.inr ((0:Nat),((y5.1.1,(y5.1.2.1,())),(y5.2.1,()))):(xN)⊕(Dc)))
def qF(x:(List fE)×Sb×(List Sb)×Unit)(y2:Int×Unit)(y3:lN×(List Sb)×Unit):Option (xN⊕Dc) :=
 aj (bB y3.1.2.1 (@len fE x.1))
 (ah (@idx fE x.1 y3.1.2.1) (fun(y4:Sb×(List Sb)×Unit)=>aj (nt (bI y3.1.2.1 y2.1))
 (ah (Loop (jH y4) (((0:Int),((0:Int),())),(y3.2.1,()))) (fun(y5:Nat×lN×(List Sb)×Unit)=>aj (fT y5.1 (0:Nat))
 (aj (cX (0:Int) (-1:Int))
 (some (Sum.inr ((1:Nat),(((8:Int),(y3.1.2.1,())),(y5.2.2.1,()))):(xN)⊕(Dc)))
 (some (Sum.inl ((y3.1.1,(aL IntKind.i64 y3.1.2.1 (1:Int),())),(y5.2.2.1,())):(xN)⊕(Dc))))
 (aj (cX (0:Int) y5.2.1.1)
 (some (Sum.inr ((1:Nat),(((8:Int),(y3.1.2.1,())),(y5.2.2.1,()))):(xN)⊕(Dc)))
 (some (Sum.inl ((y3.1.1,(aL IntKind.i64 y3.1.2.1 (1:Int),())),(y5.2.2.1,())):(xN)⊕(Dc))))))
 (some (Sum.inl ((y3.1.1,(aL IntKind.i64 y3.1.2.1 (1:Int),())),(y3.2.1,())):(xN)⊕(Dc)))))
 (some (Sum.inr ((0:Nat),((y3.1.1,(y3.1.2.1,())),(y3.2.1,()))):(xN)⊕(Dc)))
def sE(x:(List fE)×Sb×(List Sb)×Unit):Option (Int×Unit) :=
 ah (mY (x.2.2.1,())) (fun(y1:Int×Unit)=>aj (nt (bI y1.1 (0:Int)))
 (some (y1.1,()))
 (ah (wE (x.1,(x.2.1,()))) (fun(y2:Int×Unit)=>ah (Loop (qF x y2) (((0:Int),((0:Int),())),(x.2.2.1,()))) (fun(y3:Nat×lN×(List Sb)×Unit)=>aj (fT y3.1 (0:Nat))
 (some ((0:Int),()))
 (some (y3.2.1.1,()))))))
def uF(x:Int×Ko×Unit)(y1:(Int×Unit)×Unit×(List fE)×Unit):Option (xM⊕xM) :=
 @eP xM (aj (bB y1.1.1 (@len NL x.2.1.2.2.2.1))
 (ah (@idx NL x.2.1.2.2.2.1 y1.1.1) (fun(y2:Sb×(List Sb)×Sb×Sb×Sb×Ci×Unit)=>ah (bz (y2.2.1,())) (fun(y3:(List Sb)×Unit)=>aj (fits (plus (@len fE y1.2.2.1) (@len fE ([(y2.1,(y3.1,()))]:List fE))))
 (some (Sum.inl ((aL IntKind.i64 y1.1.1 (1:Int),()),((),(@app fE y1.2.2.1 ([(y2.1,(y3.1,()))]:List fE),()))):(xM)⊕Jo))
 none)))
 (some (Sum.inr ((0:Nat),((y1.1.1,()),((),(y1.2.2.1,())))):(xM)⊕Jo)))
def uG(x:Int×Ko×Unit)(y1:(Int×Unit)×Unit×(List fE)×Unit):Option (xM⊕xM) :=
 @eP xM (aj (bB y1.1.1 (@len Gb x.2.1.2.2.1))
 (ah (@idx Gb x.2.1.2.2.1 y1.1.1) (fun(y2:Sb×(List Sb)×Sb×Sb×Ci×Unit)=>ah (bz (y2.2.1,())) (fun(y3:(List Sb)×Unit)=>aj (fits (plus (@len fE y1.2.2.1) (@len fE ([(y2.1,(y3.1,()))]:List fE))))
 (some (Sum.inl ((aL IntKind.i64 y1.1.1 (1:Int),()),((),(@app fE y1.2.2.1 ([(y2.1,(y3.1,()))]:List fE),()))):(xM)⊕Jo))
 none)))
 (some (Sum.inr ((0:Nat),((y1.1.1,()),((),(y1.2.2.1,())))):(xM)⊕Jo)))
def uH(x:Int×Ko×Unit)(y1:(Int×Unit)×Unit×(List fE)×Unit):Option (xM⊕xM) :=
 @eP xM (aj (bB y1.1.1 (@len Q9 x.2.1.2.1))
 (ah (@idx Q9 x.2.1.2.1 y1.1.1) (fun(y2:Sb×Sb×(List Sb)×Sb×Int×Int×Bool×Unit)=>ah (aj y2.2.2.2.2.2.2.1
 (ah (bz (y2.2.2.1,())) (fun(y3:(List Sb)×Unit)=>aj (fits (plus (@len fE y1.2.2.1) (@len fE ([(y2.1,(y3.1,()))]:List fE))))
 (some ((),(y2,((),(@app fE y1.2.2.1 ([(y2.1,(y3.1,()))]:List fE),())))))
 none))
 (some ((),(y2,((),(y1.2.2.1,())))))) (fun(y3:Unit×Q9×Unit×(List fE)×Unit)=>some (Sum.inl ((aL IntKind.i64 y1.1.1 (1:Int),()),((),(y3.2.2.2.1,()))):(xM)⊕Jo))))
 (some (Sum.inr ((0:Nat),((y1.1.1,()),((),(y1.2.2.1,())))):(xM)⊕Jo)))
def tY(x:Int×Ko×Unit):Option ((List fE)×Unit) :=
 ah (aj (bI x.1 (1:Int))
 (ah (Loop (uF x) (((0:Int),()),((),(([]:List fE),())))) (fun(y1:(Int×Unit)×Unit×(List fE)×Unit)=>some ((),((),(y1.2.2.1,())))))
 (ah (aj (bI x.1 (2:Int))
 (ah (Loop (uG x) (((0:Int),()),((),(([]:List fE),())))) (fun(y1:(Int×Unit)×Unit×(List fE)×Unit)=>some ((),((),(y1.2.2.1,())))))
 (ah (aj (bI x.1 (3:Int))
 (ah (Loop (uH x) (((0:Int),()),((),(([]:List fE),())))) (fun(y1:(Int×Unit)×Unit×(List fE)×Unit)=>some ((),((),(y1.2.2.1,())))))
 (some ((),((),(([]:List fE),()))))) (fun(y1:Unit×Unit×(List fE)×Unit)=>some ((),((),(y1.2.2.1,())))))) (fun(y1:Unit×Unit×(List fE)×Unit)=>some ((),((),(y1.2.2.1,())))))) (fun(y1:Unit×Unit×(List fE)×Unit)=>some (y1.2.2.1,()))
def nI(x:Sb×Unit)(y1:sD×Unit):Option (eH⊕iu) :=
 aj (bB y1.1.2.1 (@len UInt8 x.1))
 (ah (@idx UInt8 x.1 y1.1.2.1) (fun(y2:UInt8)=>aj (aj (aj (aj (aj (aj (nt (bB (u8 y2) (97:Int)))
 (bB (122:Int) (u8 y2))
 true)
 (aj (nt (bB (u8 y2) (48:Int)))
 (bB (57:Int) (u8 y2))
 true)
 false)
 (nt (bI (u8 y2) (46:Int)))
 false)
 (nt (bI (u8 y2) (95:Int)))
 false)
 (nt (bI (u8 y2) (45:Int)))
 false)
 (some (Sum.inr ((1:Nat),((false,(y1.1.2.1,())),())):(eH)⊕(iu)))
 (some (Sum.inl ((y1.1.1,(aL IntKind.i64 y1.1.2.1 (1:Int),())),()):(eH)⊕(iu)))))
 (some (Sum.inr ((0:Nat),((y1.1.1,(y1.1.2.1,())),())):(eH)⊕(iu)))
def oE(x:Sb×Unit):Option (Bool×Unit) :=
 ah (Loop (nI x) ((false,((0:Int),())),())) (fun(y1:Nat×sD×Unit)=>aj (fT y1.1 (0:Nat))
 (some (aj (cX (1:Int) (@len UInt8 x.1))
 (cX (@len UInt8 x.1) (32:Int))
 false,()))
 (some (y1.2.1.1,())))
def iT(x:(List Sb)×Unit)(y1:sD×Unit)(y4:sD×Unit):Option (eH⊕iu) :=
 aj (bB y4.1.2.1 y1.1.2.1)
 (ah (@idx Sb x.1 y4.1.2.1) (fun(y5:List (UInt8))=>ah (@idx Sb x.1 y1.1.2.1) (fun(y6:List (UInt8))=>aj (cc y5 y6)
 (some (Sum.inr ((1:Nat),((false,(y4.1.2.1,())),())):(eH)⊕(iu)))
 (some (Sum.inl ((y4.1.1,(aL IntKind.i64 y4.1.2.1 (1:Int),())),()):(eH)⊕(iu))))))
 (some (Sum.inr ((0:Nat),((y4.1.1,(y4.1.2.1,())),())):(eH)⊕(iu)))
def pG(x:(List Sb)×Unit)(y1:sD×Unit):Option (eH⊕iu) :=
 aj (bB y1.1.2.1 (@len Sb x.1))
 (ah (@idx Sb x.1 y1.1.2.1) (fun(y2:List (UInt8))=>ah (oE (y2,())) (fun(y3:Bool×Unit)=>aj (nt y3.1)
 (some (Sum.inr ((1:Nat),((false,(y1.1.2.1,())),())):(eH)⊕(iu)))
 (ah (Loop (iT x y1) ((y1.1.1,((0:Int),())),())) (fun(y4:Nat×sD×Unit)=>aj (fT y4.1 (0:Nat))
 (some (Sum.inl ((y4.2.1.1,(aL IntKind.i64 y1.1.2.1 (1:Int),())),()):(eH)⊕(iu)))
 (some (Sum.inr ((1:Nat),((y4.2.1.1,(y1.1.2.1,())),())):(eH)⊕(iu))))))))
 (some (Sum.inr ((0:Nat),((y1.1.1,(y1.1.2.1,())),())):(eH)⊕(iu)))
def mZ(x:(List Sb)×Unit):Option (Bool×Unit) :=
 ah (Loop (pG x) ((false,((0:Int),())),())) (fun(y1:Nat×sD×Unit)=>aj (fT y1.1 (0:Nat))
 (some (cX (@len Sb x.1) (4:Int),()))
 (some (y1.2.1.1,())))
def sF(x:(List Sb)×Unit)(y1:sD×Unit):Option (eH⊕iu) :=
 aj (aj (bB y1.1.2.1 (@len Sb x.1))
 (bB y1.1.2.1 (8:Int))
 false)
 (ah (@idx Sb x.1 y1.1.2.1) (fun(y2:List (UInt8))=>aj (bB (100:Int) (@len UInt8 y2))
 (some (Sum.inr ((1:Nat),((false,(y1.1.2.1,())),())):(eH)⊕(iu)))
 (some (Sum.inl ((y1.1.1,(aL IntKind.i64 y1.1.2.1 (1:Int),())),()):(eH)⊕(iu)))))
 (some (Sum.inr ((0:Nat),((y1.1.1,(y1.1.2.1,())),())):(eH)⊕(iu)))
def lP(x:(List Sb)×Unit):Option (Bool×Unit) :=
 ah (Loop (sF x) ((false,((0:Int),())),())) (fun(y1:Nat×sD×Unit)=>aj (fT y1.1 (0:Nat))
 (some (cX (@len Sb x.1) (8:Int),()))
 (some (y1.2.1.1,())))
def eL(x:Ci×Unit)(y1:sD×Unit):Option (eH⊕iu) :=
 aj (aj (bB y1.1.2.1 (@len (Sb×Sb×Sb×Unit) x.1))
 (bB y1.1.2.1 (8:Int))
 false)
 (ah (@idx (Sb×Sb×Sb×Unit) x.1 y1.1.2.1) (fun(y2:Sb×Sb×Sb×Unit)=>ah (aj (nt (bB (100:Int) (@len UInt8 y2.1)))
 (ah (@idx (Sb×Sb×Sb×Unit) x.1 y1.1.2.1) (fun(y3:Sb×Sb×Sb×Unit)=>some (bB (200:Int) (@len UInt8 y3.2.2.1))))
 (some true)) (fun(y3:Bool)=>aj y3
 (some (Sum.inr ((1:Nat),((false,(y1.1.2.1,())),())):(eH)⊕(iu)))
 (some (Sum.inl ((y1.1.1,(aL IntKind.i64 y1.1.2.1 (1:Int),())),()):(eH)⊕(iu))))))
 (some (Sum.inr ((0:Nat),((y1.1.1,(y1.1.2.1,())),())):(eH)⊕(iu)))
def eB(x:Ci×Unit):Option (Bool×Unit) :=
 ah (Loop (eL x) ((false,((0:Int),())),())) (fun(y1:Nat×sD×Unit)=>aj (fT y1.1 (0:Nat))
 (some (cX (@len (Sb×Sb×Sb×Unit) x.1) (8:Int),()))
 (some (y1.2.1.1,())))
def je(x:Ko×Unit)(y1:sD×Unit):Option (eH⊕iu) :=
 aj (aj (bB y1.1.2.1 (@len Q9 x.1.2.1))
 (bB y1.1.2.1 (40:Int))
 false)
 (ah (@idx Q9 x.1.2.1 y1.1.2.1) (fun(y2:Sb×Sb×(List Sb)×Sb×Int×Int×Bool×Unit)=>ah (lP (y2.2.2.1,())) (fun(y3:Bool×Unit)=>aj (nt y3.1)
 (some (Sum.inr ((1:Nat),((false,(y1.1.2.1,())),())):(eH)⊕(iu)))
 (some (Sum.inl ((y1.1.1,(aL IntKind.i64 y1.1.2.1 (1:Int),())),()):(eH)⊕(iu))))))
 (some (Sum.inr ((0:Nat),((y1.1.1,(y1.1.2.1,())),())):(eH)⊕(iu)))
def jf(x:Ko×Unit)(y2:sD×Unit):Option (eH⊕iu) :=
 aj (aj (bB y2.1.2.1 (@len Gb x.1.2.2.1))
 (bB y2.1.2.1 (40:Int))
 false)
 (ah (@idx Gb x.1.2.2.1 y2.1.2.1) (fun(y3:Sb×(List Sb)×Sb×Sb×Ci×Unit)=>ah (lP (y3.2.1,())) (fun(y4:Bool×Unit)=>ah (aj (nt (nt y4.1))
 (ah (@idx Gb x.1.2.2.1 y2.1.2.1) (fun(y5:Sb×(List Sb)×Sb×Sb×Ci×Unit)=>some (bB (200:Int) (@len UInt8 y5.2.2.2.1))))
 (some true)) (fun(y5:Bool)=>ah (aj (nt y5)
 (ah (@idx Gb x.1.2.2.1 y2.1.2.1) (fun(y6:Sb×(List Sb)×Sb×Sb×Ci×Unit)=>ah (eB (y6.2.2.2.2.1,())) (fun(y7:Bool×Unit)=>some (nt y7.1))))
 (some true)) (fun(y6:Bool)=>aj y6
 (some (Sum.inr ((1:Nat),((false,(y2.1.2.1,())),())):(eH)⊕(iu)))
 (some (Sum.inl ((y2.1.1,(aL IntKind.i64 y2.1.2.1 (1:Int),())),()):(eH)⊕(iu))))))))
 (some (Sum.inr ((0:Nat),((y2.1.1,(y2.1.2.1,())),())):(eH)⊕(iu)))
def jg(x:Ko×Unit)(y3:sD×Unit):Option (eH⊕iu) :=
 aj (aj (bB y3.1.2.1 (@len NL x.1.2.2.2.1))
 (bB y3.1.2.1 (40:Int))
 false)
 (ah (@idx NL x.1.2.2.2.1 y3.1.2.1) (fun(y4:Sb×(List Sb)×Sb×Sb×Sb×Ci×Unit)=>ah (lP (y4.2.1,())) (fun(y5:Bool×Unit)=>ah (aj (nt (nt y5.1))
 (ah (@idx NL x.1.2.2.2.1 y3.1.2.1) (fun(y6:Sb×(List Sb)×Sb×Sb×Sb×Ci×Unit)=>some (bB (200:Int) (@len UInt8 y6.2.2.2.2.1))))
 (some true)) (fun(y6:Bool)=>ah (aj (nt y6)
 (ah (@idx NL x.1.2.2.2.1 y3.1.2.1) (fun(y7:Sb×(List Sb)×Sb×Sb×Sb×Ci×Unit)=>ah (eB (y7.2.2.2.2.2.1,())) (fun(y8:Bool×Unit)=>some (nt y8.1))))
 (some true)) (fun(y7:Bool)=>aj y7
 (some (Sum.inr ((1:Nat),((false,(y3.1.2.1,())),())):(eH)⊕(iu)))
 (some (Sum.inl ((y3.1.1,(aL IntKind.i64 y3.1.2.1 (1:Int),())),()):(eH)⊕(iu))))))))
 (some (Sum.inr ((0:Nat),((y3.1.1,(y3.1.2.1,())),())):(eH)⊕(iu)))
def rK(x:Ko×Unit):Option (Bool×Unit) :=
 ah (Loop (je x) ((false,((0:Int),())),())) (fun(y1:Nat×sD×Unit)=>aj (fT y1.1 (0:Nat))
 (ah (Loop (jf x) ((y1.2.1.1,((0:Int),())),())) (fun(y2:Nat×sD×Unit)=>aj (fT y2.1 (0:Nat))
 (ah (Loop (jg x) ((y2.2.1.1,((0:Int),())),())) (fun(y3:Nat×sD×Unit)=>aj (fT y3.1 (0:Nat))
 (some (aj (aj (cX (@len Q9 x.1.2.1) (40:Int))
 (cX (@len Gb x.1.2.2.1) (40:Int))
 false)
 (cX (@len NL x.1.2.2.2.1) (40:Int))
 false,()))
 (some (y3.2.1.1,()))))
 (some (y2.2.1.1,()))))
 (some (y1.2.1.1,())))
end Go.Ge
namespace Go.Ge
variable [Lp]
abbrev Tx:=List UInt8
abbrev Nm:=Tx×List Tx×Unit
def HH(l:List Nm)(id:Tx):Int:=match l.findIdx? (fun x=>decide (x.1=id)) with|some i=>(i:Int)|none=>-1
theorem aeq{l:List Nm}{id:Tx}{i:Nat}{x:Nm}(hx:l[i]?=some x)(hp:x.1=id)(hj:∀j y,j<i→l[j]?=some y→decide (y.1=id)=false):HH l id=i:=by
 unfold HH;have:l.findIdx? (fun x=>decide (x.1=id))=some i:=by
  rw[acr];obtain⟨hi,rfl⟩:=List.getElem?_eq_some_iff.1 hx;exact⟨hi,by simp[hp],fun j hji=>by have:=hj j l[j] hji (kL (by omega));simpa using this⟩
 rw[this]
theorem NM{l:List Nm}{id:Tx}(hn:∀(i:Nat) (x:Nm),l[i]?=some x→decide (x.1=id)=false):HH l id=-1:=by
 unfold HH;have:l.findIdx? (fun x=>decide (x.1=id))=none:=by
  rw[acv];intro x hx;obtain⟨i,hi⟩:=bJ.1 hx;exact hn i x hi
 rw[this]
theorem NN(l:List Nm)(id:Tx)(hl:l.length≤4294967296):wE (l,(id,()))=some (HH l id,()):=by
 unfold wE;rcases p8 (f:=qE (l,(id,()))) l (fun i=>(((0:Int),(i,())),(id,()))) (fun _ x=>decide (x.1=id)) (fun i x=>(1,(((i:Int),((i:Int),())),(id,())))) (0,(((0:Int),(len l,())),(id,()))) hl (fun i x hx hi ha=>by
  unfold qE;dsimp only;rw[au hi,ag,aB hx,aa,iB,ha];by_cases h:x.1=id<;>simp[cc,h]) (by unfold qE;dsimp only;rw[aE,af];rfl) with ⟨i,x,hx,hp,hj,h⟩|⟨hn,h⟩
 ·rw[h,aa,aeq hx (ic hp) hj];rfl
 ·rw[h,aa,NM hn];rfl
theorem Dd(l:List Tx)(s:Tx)(hl:l.length≤4294967296):cC (l,(s,()))=some (decide (s∈l),()):=by
 unfold cC ia;dsimp only;rcases p8 (f:=ec (l,(s,()))) l (fun i=>(((0:Int),(i,())),())) (fun _ x=>decide (x=s)) (fun i x=>(1,(((i:Int),((i:Int),())),()))) (0,(((0:Int),(len l,())),())) hl (fun i x hx hi ha=>by
  unfold ec;dsimp only;rw[au hi,ag,aB hx,aa,iB,ha];by_cases h:x=s
  ·simp[cc,h]
  ·have h':¬s=x:=fun e=>h e.symm;simp[cc,h,h']) (by unfold ec;dsimp only;rw[aE,af];rfl) with ⟨i,x,hx,hp,hj,h⟩|⟨hn,h⟩
 ·rw[h,aa];have:s∈l:=by rw[←ic hp];exact bJ.2 ⟨i,hx⟩
  rw[fo this];show some (cX 0 (i:Int),())=_
  rw[cE (by omega)]
 ·rw[h,aa];have:s∉l:=fun hs=>by
   obtain⟨i,hi⟩:=bJ.1 hs;have:=hn i s hi;simp at this
  simp[this,fT,aj,ah,cX]
def Small(l:List Nm):Prop:=l.length≤4294967296∧∀x∈l,x.2.1.length≤4294967296
end Go.Ge
namespace Go.Ge
variable [Lp]
set_option maxRecDepth 100000
def allowed:Tx:=[97,98,99,100,101,102,103,104,105,106,107,108,109,110,111,112,113,114,115,116,117,118,119,120,121,122,48,49,50,51,52,53,54,55,56,57,46,95,45]
def PN(c:UInt8):Bool:=allowed.contains c
def kO(s:Tx):Bool:=decide (1≤s.length)&&decide (s.length≤32)&&s.all PN
def Vq(a:Tx)(t0:List Bool):List Bool:=(a.zipIdx).foldl (fun t p=>vL t (u8 p.1) true) t0
def Bt:List Bool:=List.replicate 256 false
theorem akk(c:UInt8):u8 c<256:=by unfold u8;have:=c.toNat_lt;omega
theorem akl(c:UInt8):0≤u8 c:=by unfold u8;omega
theorem Ra(c:UInt8):within (u8 c) 256=true:=bE (akl c) (akk c)
theorem aer{t:List Bool}(h:t.length=256)(c:UInt8):idx t (u8 c)=some (t.getD c.toNat false):=nB t false (k:=c.toNat) rfl (by have:=c.toNat_lt;omega)
theorem PO(a:Tx)(ha:a.length≤4294967296)(h7:∀c∈a,c<128):dG (a,())=some (Vq a Bt,(true,())):=by
 unfold dG;obtain⟨t,h1,h2,h3⟩:=Jn (f:=bZ (a,())) a (fun(t:List Bool) i=>((false,(i,())),(t,()))) (fun t i x=>vL t (u8 x) true) (fun t=>(0,((false,(len a,())),(t,())))) (fun t _=>t.length=256) ha
  (fun t i x hx hi Lt ht=>by
   refine⟨?_,by simp[vL,ht]⟩;unfold bZ;dsimp only;have hx7:x<128:=h7 x (bJ.2 ⟨i,hx⟩);have amj:u8 x<128:=by unfold u8;have:x.toNat<128:=hx7;omega
   rw[au hi,ag,aB hx,aa,fU amj,af,Ra,ag,aer ht,aa,aa,aa,Lt])
  (fun t ht=>by unfold bZ;dsimp only;rw[aE,af];rfl) Bt (by simp[Bt])
 have h2':Loop (bZ (a,())) ((false,((0:Int),())),(Bt,()))=_:=h2;rw[show(List.replicate 256 false:List Bool)=Bt from rfl,h2',aa];show some (t,(true,()))=_
 rw[h3];rfl
theorem aiA(c:UInt8):(Vq allowed Bt).getD c.toNat false=PN c:=by
 have key:∀n:Fin 256,(Vq allowed Bt).getD n.val false=PN (UInt8.ofNat n.val):=by decide +kernel
 have:=key ⟨c.toNat,c.toNat_lt⟩;rw[this]
 congr 1
 simp
theorem ZF:(Vq allowed Bt).length=256:=by decide +kernel
theorem NO{t:List Bool}(ht:t.length=256)(c:UInt8):cD ((u8 c,()),(t,()))=some ((t.getD c.toNat false,()),(t,())):=by
 unfold cD;dsimp only;rw[Ra,ag,aer ht,aa]
theorem SW{t:List Bool}(ht:t.length=256):∀(s:Tx),gQ ((s,()),(t,()))=some ((s.dropWhile (fun c=>t.getD c.toNat false),()),(t,())):=by
 have key:∀s:Tx,Loop ek ((s,()),(t,()))=some ((s.dropWhile (fun c=>t.getD c.toNat false),()),(t,())):=by
  intro s;induction s with
  | nil =>
    rw[aX];unfold ek;dsimp only;rw[HB,show decide (0<([]:Tx).length)=false from rfl,af];rfl
  | cons c r ih =>
    rw[aX];unfold ek;dsimp only;have hi:idx (c::r) (0:Int)=some c:=rfl;rw[HB,show decide (0<(c::r).length)=true from by simp,ag,hi,aa,NO ht,aa,Mk];dsimp only;cases hc:t.getD c.toNat false with
    | false=>rfl
    | true =>
      rw[aJ,af,bq (by decide) (by simp[len];omega) (EH _),ag];have hs:sub (c::r) (1:Int) (minus (len (c::r)) 1)=r:=by
       have:=sw (c::r) 1 (by simp);simpa using this
      rw[hs];show Loop ek ((r,()),(t,()))=_
      rw[ih];rfl
 intro s;unfold gQ;dsimp only;rw[key,aa]
theorem aes{α:Type}{l:List α}(h:l.length≤4294967296):ef .i64 (len l) 1=(l.length:Int)-1:=eT (by simp only[len];omega) (by simp only[len];omega)
theorem PR{t:List Bool}(ht:t.length=256):∀(n:Nat) (s:Tx),s.length=n→n≤4294967296→dP ((s,()),(t,()))=some (((s.reverse.dropWhile (fun c=>t.getD c.toNat false)).reverse,()),(t,())):=by
 have key:∀(n:Nat) (s:Tx),s.length=n→n≤4294967296→Loop cj ((s,()),(t,()))=some (((s.reverse.dropWhile (fun c=>t.getD c.toNat false)).reverse,()),(t,())):=by
  intro n;induction n with
  | zero =>
    intro s hs _;obtain rfl:=List.length_eq_zero_iff.1 hs;rw[aX];unfold cj;dsimp only;rw[HB,show decide (0<([]:Tx).length)=false from rfl,af];rfl
  | succ n ih =>
    intro s hs hn;obtain⟨r,c,rfl⟩:∃r c,s=r++[c]:=⟨s.dropLast,s.getLast (by intro e;rw[e] at hs;simp at hs),(List.dropLast_concat_getLast _).symm⟩;have hr:r.length=n:=by simpa using hs
    rw[aX];unfold cj;dsimp only;have hlen:ef .i64 (len (r++[c])) 1=(r.length:Int):=by rw[aes (by omega)];simp
    have hi:idx (r++[c]) (r.length:Int)=some c:=by rw[yK];simp
    rw[HB,show decide (0<(r++[c]).length)=true from by simp,ag,hlen,hi,aa,NO ht,aa,List.reverse_append,List.reverse_singleton,TU,Mk];dsimp only;cases hc:t.getD c.toNat false with
    | false=>simp[nt,aj,eP]
    | true =>
      have h0:inside 0 (r.length:Int) (len (r++[c]))=true:=bq (by decide) (by omega) (by simp only[len,iO,WG];omega);rw[aJ,af,h0,ag];have hs2:sub (r++[c]) (0:Int) (minus (r.length:Int) 0)=r:=by rw[kY];simp
      rw[hs2];show Loop cj ((r,()),(t,()))=_
      rw[ih r hr (by omega)];rfl
 intro n s hs hn;unfold dP;dsimp only;rw[key n s hs hn,aa]
theorem dropWhile_nil{α:Type}{p:α→Bool}{l:List α}:l.dropWhile p=[]↔l.all p=true:=by
 induction l with
 | nil=>simp
 | cons a r ih =>
   rw[Mk,QF];cases h:p a with
   | true=>simpa using ih
   | false=>simp
theorem aet{p:UInt8→Bool}(s:Tx):((s.reverse.dropWhile p).reverse.dropWhile p=[])↔s.all p=true:=by
 constructor
 ·intro h;rw[dropWhile_nil,acU] at h;have h2:s.reverse.all p=true:=by
   have e:s.reverse.takeWhile p++s.reverse.dropWhile p=s.reverse:=KT;rw[←e,List.all_append,h];have:(s.reverse.takeWhile p).all p=true:=List.all_takeWhile;simp[this]
  rwa [acU] at h2
 ·intro h;have:s.reverse.dropWhile p=[]:=by rw[dropWhile_nil,acU];exact h
  rw[this];rfl
theorem SX(s:Tx):qD (s,())=some (kO s,()):=by
 unfold qD kO;dsimp only;have e1:cX 1 (len s)=decide (1≤s.length):=by unfold cX len;apply decide_eq_decide.2;omega
 have e2:cX (len s) 32=decide (s.length≤32):=by unfold cX len;apply decide_eq_decide.2;omega
 rw[e1,e2];by_cases h1:1≤s.length
 ·rw[fo h1,ag];by_cases h2:s.length≤32
  ·rw[fo h2,ag,show([97,98,99,100,101,102,103,104,105,106,107,108,109,110,111,112,113,114,115,116,117,118,119,120,121,122,48,49,50,51,52,53,54,55,56,57,46,95,45]:Tx)=allowed from rfl];unfold jd;dsimp only;have hs:s≠[]:=by intro e;rw[e] at h1;simp at h1
   rw[cJ hs,aF,ag,cJ (show allowed≠[] by decide),af,show bI (len allowed) 1=false from rfl,af,aa,af,PO allowed (by decide) (by decide),aa];dsimp only;rw[ag,PR ZF s.length s rfl (by omega),aa];dsimp only;rw[SW ZF,aa,aa,aa];have hp:(fun c:UInt8=>(Vq allowed Bt).getD c.toNat false)=PN:=funext aiA;rw[hp];show some (cc _ [],())=_
   have:=aet (p:=PN) s;by_cases ha:s.all PN=true
   ·rw[gH (this.2 ha),ha];rfl
   ·rw[cJ fun e=>ha (this.1 e)];simp at ha;simp[ha]
  ·rw[dJ h2,af,aa];simp
 ·rw[dJ h1,af,af,aa];simp
def Vr(c:UInt8):Bool:=aj (aj (aj (aj (aj (nt (bB (u8 c) 97)) (bB 122 (u8 c)) true) (aj (nt (bB (u8 c) 48)) (bB 57 (u8 c)) true) false) (nt (bI (u8 c) 46)) false) (nt (bI (u8 c) 95)) false) (nt (bI (u8 c) 45)) false
theorem Vs(c:UInt8):Vr c=!PN c:=by
 have key:∀n:Fin 256,Vr (UInt8.ofNat n.val)=!PN (UInt8.ofNat n.val):=by decide +kernel
 have:=key ⟨c.toNat,c.toNat_lt⟩;simpa using this
theorem Cj(s:Tx)(hl:s.length≤4294967296):oE (s,())=some (kO s,()):=by
 unfold oE kO;rcases p8 (f:=nI (s,())) s (fun i=>((false,(i,())),())) (fun _ x=>Vr x) (fun i x=>(1,((false,((i:Int),())),()))) (0,((false,(len s,())),())) hl (fun i x hx hi ha=>by
  unfold nI;dsimp only;rw[au hi,ag,aB hx,aa,ha];show aj (Vr x) _ _=_
  cases Vr x<;>rfl) (by unfold nI;dsimp only;rw[aE,af];rfl) with ⟨i,x,hx,hp,hj,h⟩|⟨hn,h⟩
 ·rw[h,aa];have:s.all PN=false:=by
   rw[T0];refine⟨x,bJ.2 ⟨i,hx⟩,?_⟩;rw[Vs] at hp;simpa using hp
  rw[this,acZ];rfl
 ·rw[h,aa];have:s.all PN=true:=by
   rw[Cx];intro x hx;obtain⟨i,hi⟩:=bJ.1 hx;have:=hn i x hi;rw[Vs] at this;simpa using this
  rw[this,Bool.and_true];have e1:cX 1 (len s)=decide (1≤s.length):=by unfold cX len;apply decide_eq_decide.2;omega
  have e2:cX (len s) 32=decide (s.length≤32):=by unfold cX len;apply decide_eq_decide.2;omega
  show some (aj (cX 1 (len s)) (cX (len s) 32) false,())=_
  rw[e1,e2];cases decide (1≤s.length)<;>rfl
end Go.Ge
namespace Go.Ge
variable [Lp]
open Go.Lib
theorem X3(l:List Tx):(om l).Pairwise (fun a b=>a≤b):=by
 have:=List.pairwise_mergeSort (le:=fun x y:Tx=>decide (x≤y)) (fun a b c h k=>by simp only[nY] at h k⊢;exact List.le_trans h k) (fun a b=>by simp only[zv,nY];exact List.le_total a b) l;unfold om;exact this.imp fun h=>ic h
theorem Vt(l:List Tx):(om l).Nodup↔l.Nodup:=(List.mergeSort_perm l _).nodup_iff
theorem Vu{m:List Tx}{j:Nat}(hj:j<m.length):keeps m.toArray j=decide (j=0∨m[j]≠m[j-1]'(by omega)):=by
 unfold keeps;have h1:m.toArray[j]! = m[j]:=by simp[hj]
 have h2:m.toArray[j-1]! = m[j-1]'(by omega):=by simp[show j-1<m.length by omega]
 rw[h1,h2]
theorem SY(m:List Tx)(hs:m.Pairwise (fun a b=>a≤b)):(compact m).length<m.length↔¬m.Nodup:=by
 unfold compact compactUpTo;rw[Mp];have hlen:(List.range m.length).length=m.length:=Y7;have:((List.range m.length).filter (keeps m.toArray)).length<m.length↔∃x,x∈List.range m.length∧¬keeps m.toArray x=true:=by
  have:=List.length_filter_lt_length_iff_exists (p:=keeps m.toArray) (l:=List.range m.length)
  rwa [hlen] at this
 rw[this];constructor
 ·rintro⟨j,hj,hk⟩ hn;have hj':=List.mem_range.1 hj;rw[Vu hj'] at hk;simp only[nY,Mu,acR] at hk;have hp:=List.pairwise_iff_getElem.1 hn (j-1) j (by omega) hj' (by omega);exact hp hk.2.symm
 ·intro hn;by_cases h:∃i j,∃(hij:i<j) (hj:j<m.length),m[i]'(by omega)=m[j]
  ·obtain⟨i,j,hij,hj,he⟩:=h;refine⟨j,List.mem_range.2 hj,?_⟩;rw[Vu hj];simp only[nY,Mu,acR];refine⟨by omega,?_⟩;have le:=fun a b (h1:a<b) (h2:b<m.length)=>List.pairwise_iff_getElem.1 hs a b (by omega) h2 h1;have h1:m[j-1]'(by omega)≤m[j]:=le (j-1) j (by omega) hj;have h2:m[j]≤m[j-1]'(by omega):=by
    rw[←he];rcases xe i (j-1) with q|q
    ·exact le i (j-1) q (by omega)
    ·have:i=j-1:=by omega
     subst this;exact List.le_refl _
   exact(List.le_antisymm h1 h2).symm
  ·exfalso;apply hn;refine List.pairwise_iff_getElem.2 fun i j hi hj hij he=>h ⟨i,j,hij,hj,he⟩
def nJ(l:List Tx):Bool:=l.all kO&&decide l.Nodup&&decide (l.length≤4)
def lY(l:List Tx):Int:=if nJ l=true then 0 else 1
theorem De(l:List Tx)(hl:l.length≤4294967296):mY (l,())=some (lY l,()):=by
 unfold mY;dsimp only;have e4:nt (bB 4 (len l))=decide (l.length≤4):=by
  unfold nt bB len;rw[←decide_not];apply decide_eq_decide.2;omega
 have hc:bB (len (compact (om l))) (len l)=!decide l.Nodup:=by
  have h:=SY (om l) (X3 l);rw[Q5,Vt] at h;unfold bB len;rw[←decide_not];apply decide_eq_decide.2;rw[←h];omega
 have hs:dU l ()=some (om l):=by
  unfold dU;rw[mG hl];rfl
 rw[mG hl,ag,hs,aa];unfold eA;rw[aa];rcases p8 (f:=pF (l,())) l (fun i=>(((0:Int),(i,())),())) (fun _ x=>!kO x) (fun i x=>(1,(((i:Int),((i:Int),())),()))) (0,(((0:Int),(len l,())),())) hl (fun i x hx hi ha=>by
  unfold pF;dsimp only;rw[au hi,ag,aB hx,aa,SX,aa,ZD,iB,ha];by_cases h:kO x=true<;>simp[h]) (by unfold pF;dsimp only;rw[aE,af];rfl) with ⟨i,x,hx,hp,hj,h⟩|⟨hn,h⟩
 ·rw[h,aa];have:l.all kO=false:=by
   rw[T0];exact⟨x,bJ.2 ⟨i,hx⟩,by simpa using hp⟩
  have hI:lY l=1:=by unfold lY nJ;rw[this];rfl
  rw[hI];show aj (aj (nt (aj (nt (bB 4 (len l))) (bB (len (compact (om l))) (len l)) true)) (cX 0 (i:Int)) true) _ _=_
  rw[cE (show(0:Int)≤(i:Int) by omega)];cases nt (aj (nt (bB 4 (len l))) (bB (len (compact (om l))) (len l)) true)<;>rfl
 ·rw[h,aa];have:l.all kO=true:=by
   rw[Cx];intro x hx;obtain⟨i,hi⟩:=bJ.1 hx;simpa using hn i x hi
  show aj (aj (nt (aj (nt (bB 4 (len l))) (bB (len (compact (om l))) (len l)) true)) (cX 0 (-1)) true) _ _=_
  rw[e4,hc,show cX 0 (-1)=false from rfl];unfold lY nJ;rw[this];cases decide l.Nodup<;>cases decide (l.length≤4)<;>rfl
theorem Bu(l:List Tx)(hl:l.length≤4294967296)(hx:∀x∈l,x.length≤4294967296):mZ (l,())=some (nJ l,()):=by
 unfold mZ;have inner:∀(r:Bool) (i:Nat) (x:Tx),l[i]?=some x→(∃j y,j<i∧l[j]?=some y∧y=x∧∃q,Loop (iT (l,()) ((r,((i:Int),())),())) ((r,((0:Int),())),())=some (1,((false,q),())))∨((∀j y,j<i→l[j]?=some y→y≠x)∧∃q,Loop (iT (l,()) ((r,((i:Int),())),())) ((r,((0:Int),())),())=some (0,((r,q),()))):=by
  intro r i x QK;have hi:=aI QK;have hmin:min i l.length=i:=by omega
  rcases tX (f:=iT (l,()) ((r,((i:Int),())),())) l i (fun j=>((r,(j,())),())) (fun _ y=>decide (y=x)) (fun j y=>(1,((false,((j:Int),())),()))) (fun n=>(0,((r,((n:Int),())),()))) (by omega) (fun j y hy hj hji ha=>by
   unfold iT;dsimp only;rw[aT (show(j:Int)<(i:Int) by omega),ag,aB hy,aa,aB QK,aa,iB,ha];by_cases h:y=x<;>simp[cc,h]) (by
   unfold iT;dsimp only;rw[hmin,aH (EH _),af]) with ⟨j,y,hji,hy,hp,_,h⟩|⟨hn,h⟩
  ·exact .inl ⟨j,y,hji,hy,ic hp,_,h⟩
  ·exact .inr ⟨fun j y hji hy=>TP (hn j y hji hy),_,h⟩
 let bad:Nat→Tx→Bool:=fun i x=>!kO x||(l.take i).contains x
 have yw:∀i x,l[i]?=some x→((l.take i).contains x=true↔∃j y,j<i∧l[j]?=some y∧y=x):=by
  intro i x QK;simp only[List.contains_eq_mem,nY];rw[bJ];constructor
  ·rintro⟨j,hj⟩;rw[gN] at hj;split at hj
   ·exact⟨j,x,by assumption,hj,rfl⟩
   ·cases hj
  ·rintro⟨j,y,hji,hy,rfl⟩;exact⟨j,by rw[gN,bu hji];exact hy⟩
 rcases p8 (f:=pG (l,())) l (fun i=>((false,(i,())),())) bad (fun i x=>(1,((false,((i:Int),())),()))) (0,((false,(len l,())),())) hl (fun i x QK hi ha=>by
  unfold pG;dsimp only;rw[au hi,ag,aB QK,aa,Cj x (hx x (bJ.2 ⟨i,QK⟩)),aa];dsimp only;cases hb:kO x with
  | false=>simp[bad,hb,nt,aj]
  | true =>
    rw[aJ,af];rcases inner false i x QK with ⟨j,y,h1,h2,h3,q,h⟩|⟨hn,q,h⟩
    ·have eS:=(yw i x QK).2 ⟨j,y,h1,h2,h3⟩;rw[h,aa];show some _=_
     simp only[bad,hb,eS];rfl
    ·have eS:(l.take i).contains x=false:=by
      rw[←Bool.not_eq_true];intro hc;obtain⟨j,y,h1,h2,h3⟩:=(yw i x QK).1 hc;exact hn j y h1 h2 h3
     rw[h,aa,ha];simp only[bad,hb,eS];rfl) (by unfold pG;dsimp only;rw[aE,af];rfl) with ⟨i,x,QK,hp,hj,h⟩|⟨hn,h⟩
 ·rw[h,aa];have:nJ l=false:=by
   unfold nJ;simp only[bad,zv,nq] at hp;rcases hp with hp|hp
   ·have:l.all kO=false:=by rw[T0];exact⟨x,bJ.2 ⟨i,QK⟩,by simpa using hp⟩
    rw[this];rfl
   ·have:¬l.Nodup:=fun hnd=>by
     obtain⟨j,y,h1,h2,h3⟩:=(yw i x QK).1 hp;obtain⟨hi',aiB⟩:=List.getElem?_eq_some_iff.1 QK;obtain⟨hj',hyj⟩:=List.getElem?_eq_some_iff.1 h2;exact List.pairwise_iff_getElem.1 hnd j i hj' hi' h1 (by rw[hyj,aiB,h3])
    rw[dJ this,acZ];rfl
  rw[this];rfl
 ·rw[h,aa];have h1:l.all kO=true:=by
   rw[Cx];intro x hx2;obtain⟨i,hi⟩:=bJ.1 hx2;have:=hn i x hi;simp only[bad,Al,WK] at this;exact this.1
  have h2:l.Nodup:=by
   refine List.pairwise_iff_getElem.2 fun j i hj hi hji he=>?_;have:=hn i l[i] (kL hi);simp only[bad,Al] at this;have hc:=(yw i l[i] (kL hi)).2 ⟨j,l[j],hji,kL hj,he⟩;rw[hc] at this;cases this.2
  show some (cX (len l) 4,())=_
  unfold nJ;rw[h1,fo h2];have:cX (len l) 4=decide (l.length≤4):=by unfold cX len;apply decide_eq_decide.2;omega
  rw[this];rfl
end Go.Ge
namespace Go.Ge
variable [Lp]
def aa4(given:List Tx)(own:Int)(i:Nat)(x:Nm):Bool:=decide ((i:Int)≠own)&&x.2.1.any (fun s=>decide (s∈given))
def NP(l:List Nm)(given:List Tx)(own:Int):Bool:=l.zipIdx.any fun p=>aa4 given own p.2 p.1
def rL(l:List Nm)(id:Tx)(given:List Tx):Int:=if lY given≠0 then lY given else if NP l given (HH l id)=true then 8 else 0
theorem Jp{l:List Nm}{given:List Tx}{own:Int}:NP l given own=true↔∃i x,l[i]?=some x∧aa4 given own i x=true:=by
 unfold NP;rw[Y8];constructor
 ·rintro⟨p,hp,h⟩;obtain⟨x,i⟩:=p;exact⟨i,x,List.mk_mem_zipIdx_iff_getElem?.1 hp,h⟩
 ·rintro⟨i,x,hx,h⟩;exact⟨(x,i),List.mk_mem_zipIdx_iff_getElem?.2 hx,h⟩
theorem X4{l:List Nm}{given:List Tx}{own:Int}(h:∀i x,l[i]?=some x→aa4 given own i x=false):NP l given own=false:=by
 rw[←Bool.not_eq_true,Jp];rintro⟨i,x,hx,k⟩;rw[h i x hx] at k;cases k
theorem Df(l:List Nm)(id:Tx)(given:List Tx)(hl:Small l)(hg:given.length≤4294967296):sE (l,(id,(given,())))=some (rL l id given,()):=by
 unfold sE rL;dsimp only;rw[De given hg,aa];dsimp only;by_cases hc:lY given=0
 ·rw[hc,aP rfl,aJ,af,NN l id hl.1,aa,br (by simp)];generalize HH l id=own;have inner:∀(y:Nm),y.2.1.length≤4294967296→(y.2.1.any (fun s=>decide (s∈given))=true∧∃(k:Nat) (q:Int×Unit),Loop (jH y) (((0:Int),((0:Int),())),(given,()))=some (1,(((k:Int),q),(given,())))) ∨
    (y.2.1.any (fun s=>decide (s∈given))=false∧∃q,Loop (jH y) (((0:Int),((0:Int),())),(given,()))=some (0,(q,(given,())))):=by
   intro y hy;rcases p8 (f:=jH y) y.2.1 (fun i=>(((0:Int),(i,())),(given,()))) (fun _ s=>decide (s∈given)) (fun i s=>(1,(((i:Int),((i:Int),())),(given,())))) (0,(((0:Int),(len y.2.1,())),(given,()))) hy (fun i s hs hi ha=>by
    unfold jH;dsimp only;rw[au hi,ag,aB hs,aa,Dd given s hg,aa,iB,ha];by_cases h:s∈given<;>simp[h]) (by unfold jH;dsimp only;rw[aE,af];rfl) with ⟨i,s,hs,hp,hj,h⟩|⟨hn,h⟩
   ·exact .inl ⟨List.any_eq_true.2 ⟨s,bJ.2 ⟨i,hs⟩,hp⟩,i,_,h⟩
   ·refine .inr ⟨?_,_,h⟩;rw[List.any_eq_false];intro s hs;obtain⟨i,hi⟩:=bJ.1 hs;rw[hn i s hi];simp
  rcases p8 (f:=qF (l,(id,(given,()))) (own,())) l (fun i=>(((0:Int),(i,())),(given,()))) (aa4 given own) (fun i x=>(1,(((8:Int),((i:Int),())),(given,())))) (0,(((0:Int),(len l,())),(given,()))) hl.1 (fun i x hx hi ha=>by
   unfold qF;dsimp only;rw[au hi,ag,aB hx,aa];unfold aa4;by_cases ho:(i:Int)=own
   ·rw[aP ho,aJ,af,ha];simp[ho]
   ·rw[aM ho,aF,ag];rcases inner x (hl.2 x (bJ.2 ⟨i,hx⟩)) with ⟨h1,k,q,h⟩|⟨h1,q,h⟩
    ·rw[h,aa,h1];dsimp only;rw[kN,af,cE (by omega),ag];simp[ho]
    ·rw[h,aa,h1];dsimp only;rw[cv,ag,show cX 0 (-1)=false from rfl,af,ha];simp[ho]) (by unfold qF;dsimp only;rw[aE,af];rfl) with ⟨i,x,hx,hp,hj,h⟩|⟨hn,h⟩
  ·rw[h,aa,bu (Jp.2 ⟨i,x,hx,hp⟩)];rfl
  ·rw[h,aa,X4 hn];rfl
 ·rw[aM hc,aF,ag,bu hc]
theorem Bw(l:List Tx)(h:l.length≤4294967296):bz (l,())=some (l,()):=by
 unfold bz;dsimp only;rw[mG h];rfl
theorem Lv(x y:List Tx)(hx:x.length≤4294967296):eM (x,(y,()))=some (decide (x=y),()):=by
 unfold eM;dsimp only;rw[aed];by_cases hl:x.length=y.length
 ·rw[fo hl,aJ,af];rcases p8 (f:=jW (x,(y,()))) x (fun i=>((false,(i,())),())) (fun i a=>decide (y[i]?≠some a)) (fun i a=>(1,((false,((i:Int),())),()))) (0,((false,(len x,())),())) hx (fun i a ha hi Lt=>by
   unfold jW;dsimp only;have hi2:i<y.length:=by omega
   rw[au hi,ag,au hi2,ag,aB ha,aa,aB (kL hi2),aa,ZD,iB,Lt,kL hi2];by_cases h:a=y[i]
   ·simp[cc,h]
   ·have h':¬y[i]=a:=fun e=>h e.symm;simp[cc,h,h']) (by unfold jW;dsimp only;rw[aE,af,af];rfl) with ⟨i,a,ha,hp,hj,h⟩|⟨hn,h⟩
  ·rw[h,aa];have:x≠y:=fun e=>by subst e;rw[ha] at hp;simp at hp
   rw[dJ this];rfl
  ·rw[h,aa];have:x=y:=by
    apply O2;intro i;cases hx2:x[i]? with
    | none =>
      have:x.length≤i:=List.getElem?_eq_none_iff.1 hx2;exact(List.getElem?_eq_none_iff.2 (by omega)).symm
    | some a =>
      have:=hn i a hx2;simp at this;exact this.symm
   rw[fo this];rfl
 ·rw[dJ hl,aF,ag];have:x≠y:=fun e=>hl (by rw[e]);rw[dJ this]
end Go.Ge
namespace Go.Ge
variable [Lp]
theorem uI{α:Type}{n:Nat}{l:List α}{c:Int}(hc:c=n):aj (bB ((min n l.length:Nat):Int) (len l)) (bB ((min n l.length:Nat):Int) c) false=false:=by
 subst hc;by_cases h:l.length≤n
 ·rw[acT h,aE,af]
 ·rw[vK (by omega),aH (EH _)];cases bB (n:Int) (len l)<;>rfl
theorem lQ{α:Type}{l:List α}{n:Nat}{c:Int}(hc:c=n):cX (len l) c=decide (l.length≤n):=by subst hc;exact L9 n l
theorem iM{α:Type}{l:List α}{n:Nat}{c:Int}(hc:c=n):bB c (len l)=decide (n<l.length):=by subst hc;exact HA n l
def vO(l:List Tx):Prop:=l.length≤8∧∀x∈l,x.length≤100
def akm(l:List Nm):Prop:=l.length≤40∧∀x∈l,x.1.length≤100∧vO x.2.1
theorem vO.small{l:List Tx}(h:vO l):l.length≤4294967296:=by have:=h.1;omega
theorem vO.each{l:List Tx}(h:vO l):∀x∈l,x.length≤4294967296:=fun x hx=>by have:=h.2 x hx;omega
theorem akm.small{l:List Nm}(h:akm l):Small l:=⟨by have:=h.1;omega,fun x hx=>by have:=(h.2 x hx).2.1;omega⟩
def id1:Tx:=[48,48,48,48,48,49]
end Go.Ge
namespace Go.Ge
variable [Lp]
end Go.Ge
namespace Go.Ge
variable [Lp]
abbrev Item:=Tx×Tx×Tx×Unit
abbrev aG:=Tx×Tx×List Tx×Tx×Int×Int×Bool×Unit
abbrev fN:=Tx×List Tx×Tx×Tx×List Item×Unit
abbrev fC:=Tx×List Tx×Tx×Tx×Tx×List Item×Unit
abbrev yQ:=Int×List aG×List fN×List fC×Unit
theorem Eo(l:List Tx):∃b,lP (l,())=some (b,())∧(b=true→vO l):=by
 unfold lP;rcases tX (f:=sF (l,())) l 8 (fun i=>((false,(i,())),())) (fun _ x=>decide (100<x.length)) (fun i x=>(1,((false,((i:Int),())),()))) (fun n=>(0,((false,((n:Int),())),()))) (by omega) (fun i x hx hi hi8 ha=>by
  unfold sF;dsimp only;rw[au hi,ag,aT (show(i:Int)<8 by omega),ag,aB hx,aa,iM (n:=100) (c:=100) rfl,iB,ha];by_cases h:100<x.length<;>simp[h]) (by unfold sF;dsimp only;rw[uI (c:=8) rfl,af]) with ⟨i,x,hi,hx,hp,_,h⟩|⟨hn,h⟩
 ·rw[h];exact⟨false,rfl,fun h=>by cases h⟩
 ·rw[h];refine⟨_,rfl,fun hb=>?_⟩;dsimp only at hb;rw[lQ (n:=8) (c:=8) rfl] at hb;have h8:=ic hb;refine⟨h8,fun x hx=>?_⟩;obtain⟨i,hi⟩:=bJ.1 hx;have:=hn i x (by have:=aI hi;omega) hi;simpa using this
theorem Rb(l:List Item):∃b,eB (l,())=some (b,()):=by
 unfold eB;rcases tX (f:=eL (l,())) l 8 (fun i=>((false,(i,())),())) (fun _ x=>decide (100<x.1.length)||decide (200<x.2.2.1.length)) (fun i x=>(1,((false,((i:Int),())),()))) (fun n=>(0,((false,((n:Int),())),()))) (by omega) (fun i x hx hi hi8 ha=>by
  unfold eL;dsimp only;rw[au hi,ag,aT (show(i:Int)<8 by omega),ag,aB hx,aa,iM (n:=100) (c:=100) rfl,aa,iM (n:=200) (c:=200) rfl,ha];by_cases h:100<x.1.length
  ·simp[h,aj,nt,ah]
  ·by_cases h2:200<x.2.2.1.length<;>simp[h,h2,aj,nt,ah]) (by unfold eL;dsimp only;rw[uI (c:=8) rfl,af]) with ⟨i,x,hi,hx,hp,_,h⟩|⟨hn,h⟩
 ·rw[h];exact⟨false,rfl⟩
 ·rw[h];exact⟨_,rfl⟩
structure FewB (b:yQ):Prop where
 ll:b.2.1.length≤40
 ln:∀x∈b.2.1,vO x.2.2.1
 il:b.2.2.1.length≤40
 tI:∀x∈b.2.2.1,vO x.2.1
 bl:b.2.2.2.1.length≤40
 bn:∀x∈b.2.2.2.1,vO x.2.1
theorem aeu(b:yQ):∃c,rK (b,())=some (c,())∧(c=true→FewB b):=by
 obtain⟨Ep,PT⟩:∃Ep:List Tx→Bool,∀l,lP (l,())=some (Ep l,())∧(Ep l=true→vO l):=⟨fun l=>Classical.choose (Eo l),fun l=>O0 (Eo l)⟩;obtain⟨SZ,NQ⟩:∃Ep:List Item→Bool,∀l,eB (l,())=some (Ep l,()):=⟨fun l=>Classical.choose (Rb l),fun l=>O0 (Rb l)⟩;obtain⟨n,la,im,bo,u⟩:=b;unfold rK;rcases tX (f:=je ((n,(la,(im,(bo,u)))),())) la 40 (fun i=>((false,(i,())),())) (fun _ x=>!Ep x.2.2.1) (fun i x=>(1,((false,((i:Int),())),()))) (fun n=>(0,((false,((n:Int),())),()))) (by omega) (fun i x hx hi hi8 ha=>by
  unfold je;dsimp only;rw[au hi,ag,aT (show(i:Int)<40 by omega),ag,aB hx,aa,(PT _).1,aa,ZD,ha];cases Ep x.2.2.1<;>rfl) (by unfold je;dsimp only;rw[uI (c:=40) rfl,af]) with ⟨i,x,hi,hx,hp,_,h⟩|⟨hn0,h⟩
 ·rw[h];exact⟨false,rfl,fun h=>by cases h⟩
 rw[h,aa];dsimp only;rw[cv,ag];rcases tX (f:=jf ((n,(la,(im,(bo,u)))),())) im 40 (fun i=>((false,(i,())),())) (fun _ x=>!Ep x.2.1||decide (200<x.2.2.2.1.length)||!SZ x.2.2.2.2.1) (fun i x=>(1,((false,((i:Int),())),()))) (fun n=>(0,((false,((n:Int),())),()))) (by omega) (fun i x hx hi hi8 ha=>by
  unfold jf;dsimp only;rw[au hi,ag,aT (show(i:Int)<40 by omega),ag,aB hx,aa,(PT _).1,aa,aa,aa,iM (n:=200) (c:=200) rfl,NQ,aa,ha];dsimp only;cases Ep x.2.1 with
  | false=>rfl
  | true =>
    by_cases h2:200<x.2.2.2.1.length
    ·simp[h2,aj,nt,ah]
    ·cases hq:SZ x.2.2.2.2.1<;>simp[h2,aj,nt,ah]) (by unfold jf;dsimp only;rw[uI (c:=40) rfl,af]) with ⟨i,x,hi,hx,hp,_,h⟩|⟨Lr,h⟩
 ·rw[h];exact⟨false,rfl,fun h=>by cases h⟩
 rw[h,aa];dsimp only;rw[cv,ag];rcases tX (f:=jg ((n,(la,(im,(bo,u)))),())) bo 40 (fun i=>((false,(i,())),())) (fun _ x=>!Ep x.2.1||decide (200<x.2.2.2.2.1.length)||!SZ x.2.2.2.2.2.1) (fun i x=>(1,((false,((i:Int),())),()))) (fun n=>(0,((false,((n:Int),())),()))) (by omega) (fun i x hx hi hi8 ha=>by
  unfold jg;dsimp only;rw[au hi,ag,aT (show(i:Int)<40 by omega),ag,aB hx,aa,(PT _).1,aa,aa,aa,iM (n:=200) (c:=200) rfl,NQ,aa,ha];dsimp only;cases Ep x.2.1 with
  | false=>rfl
  | true =>
    by_cases h2:200<x.2.2.2.2.1.length
    ·simp[h2,aj,nt,ah]
    ·cases hq:SZ x.2.2.2.2.2.1<;>simp[h2,aj,nt,ah]) (by unfold jg;dsimp only;rw[uI (c:=40) rfl,af]) with ⟨i,x,hi,hx,hp,_,h⟩|⟨hn2,h⟩
 ·rw[h];exact⟨false,rfl,fun h=>by cases h⟩
 rw[h,aa];refine⟨_,rfl,fun hb=>?_⟩;rw[lQ (n:=40) (c:=40) rfl,lQ (n:=40) (c:=40) rfl,lQ (n:=40) (c:=40) rfl] at hb;have h1:la.length≤40:=by
  by_cases q:la.length≤40
  ·exact q
  ·rw[dJ q] at hb;cases hb
 have h2:im.length≤40:=by
  by_cases q:im.length≤40
  ·exact q
  ·rw[fo h1,dJ q] at hb;cases hb
 have h3:bo.length≤40:=by
  by_cases q:bo.length≤40
  ·exact q
  ·rw[fo h1,fo h2,dJ q] at hb;cases hb
 refine⟨h1,fun x hx=>?_,h2,fun x hx=>?_,h3,fun x hx=>?_⟩
 ·dsimp only at hx;obtain⟨i,hi⟩:=bJ.1 hx;have:=hn0 i x (by have:=aI hi;omega) hi;exact(PT _).2 (by simpa using this)
 ·dsimp only at hx;obtain⟨i,hi⟩:=bJ.1 hx;have:=Lr i x (by have:=aI hi;omega) hi;simp only[Al,WK] at this;exact(PT _).2 this.1.1
 ·dsimp only at hx;obtain⟨i,hi⟩:=bJ.1 hx;have:=hn2 i x (by have:=aI hi;omega) hi;simp only[Al,WK] at this;exact(PT _).2 this.1.1
def ofL(x:aG):List Nm:=if x.2.2.2.2.2.2.1=true then [(x.1,(x.2.2.1,()))] else []
def ofI(x:fN):List Nm:=[(x.1,(x.2.1,()))]
def ofB(x:fC):List Nm:=[(x.1,(x.2.1,()))]
def ofV(kind:Int)(b:yQ):List Nm:=if kind=1 then b.2.2.2.1.flatMap ofB else if kind=2 then b.2.2.1.flatMap ofI else if kind=3 then b.2.1.flatMap ofL else []
theorem oF{α β:Type}{g:α→List β}(hg:∀x,(g x).length≤1)(l:List α):(l.flatMap g).length≤l.length:=by
 induction l with
 | nil=>simp
 | cons a r ih=>rw[O3,iO,ep];have:=hg a;omega
theorem pH{α β:Type}{g:α→List β}(hg:∀x,(g x).length≤1)(l:List α)(i:Nat):((l.take i).flatMap g).length≤l.length:=by
 have:=oF hg (l.take i);rw[cW] at this;omega
theorem S0(x:aG):(ofL x).length≤1:=by unfold ofL;split<;>simp
theorem S1(x:fN):(ofI x).length≤1:=by simp[ofI]
theorem S2(x:fC):(ofB x).length≤1:=by simp[ofB]
theorem Jq{α:Type}{s:List α}{x:α}(h:s.length≤1000):fits (plus (len s) (len [x]))=true:=cG (by simp;omega)
theorem Bx(kind:Int)(b:yQ)(hb:FewB b):tY (kind,(b,()))=some (ofV kind b,()):=by
 unfold tY ofV;dsimp only;by_cases h1:kind=1
 ·rw[bu h1,aP h1,ag];have:=C7 (f:=uF (kind,(b,()))) b.2.2.2.1 (fun s i=>((i,()),((),(s,())))) ofB ((len b.2.2.2.1,()),((),(b.2.2.2.1.flatMap ofB,()))) (by have:=hb.bl;omega) (fun i x hx hi ha=>by
   unfold uF;dsimp only;have hf:=pH S2 b.2.2.2.1 i;rw[au hi,ag,aB hx,aa,Bw _ (hb.bn x (bJ.2 ⟨i,hx⟩)).small,aa,Jq (by have:=hb.bl;omega),ag,ha];rfl) (by unfold uF;dsimp only;rw[aE,af];rfl)
  rw[this,aa,aa]
 ·rw[br h1,aM h1,af];by_cases h2:kind=2
  ·rw[bu h2,aP h2,ag];have:=C7 (f:=uG (kind,(b,()))) b.2.2.1 (fun s i=>((i,()),((),(s,())))) ofI ((len b.2.2.1,()),((),(b.2.2.1.flatMap ofI,()))) (by have:=hb.il;omega) (fun i x hx hi ha=>by
    unfold uG;dsimp only;have hf:=pH S1 b.2.2.1 i;rw[au hi,ag,aB hx,aa,Bw _ (hb.tI x (bJ.2 ⟨i,hx⟩)).small,aa,Jq (by have:=hb.il;omega),ag,ha];rfl) (by unfold uG;dsimp only;rw[aE,af];rfl)
   rw[this,aa,aa,aa]
  ·rw[br h2,aM h2,af];by_cases h3:kind=3
   ·rw[bu h3,aP h3,ag];have:=C7 (f:=uH (kind,(b,()))) b.2.1 (fun s i=>((i,()),((),(s,())))) ofL ((len b.2.1,()),((),(b.2.1.flatMap ofL,()))) (by have:=hb.ll;omega) (fun i x hx hi ha=>by
     unfold uH;dsimp only;have hf:=pH S0 b.2.1 i;rw[au hi,ag,aB hx,aa,Bw _ (hb.ln x (bJ.2 ⟨i,hx⟩)).small,aa,Jq (by have:=hb.ll;omega),ag,ha];unfold ofL;cases x.2.2.2.2.2.2.1 with
     | false=>simp[aj,ah,eP]
     | true=>rfl) (by unfold uH;dsimp only;rw[aE,af];rfl)
    rw[this,aa,aa,aa,aa]
   ·rw[br h3,aM h3,af];rfl
theorem Jr(kind:Int)(b:yQ)(hb:FewB b):Small (ofV kind b):=by
 unfold ofV;split
 ·refine⟨by have:=oF S2 b.2.2.2.1;have:=hb.bl;omega,fun x hx=>?_⟩;rw[Mn] at hx;obtain⟨y,hy,hx⟩:=hx;simp only[ofB,Cw] at hx;subst hx;exact(hb.bn y hy).small
 ·split
  ·refine⟨by have:=oF S1 b.2.2.1;have:=hb.il;omega,fun x hx=>?_⟩;rw[Mn] at hx;obtain⟨y,hy,hx⟩:=hx;simp only[ofI,Cw] at hx;subst hx;exact(hb.tI y hy).small
  ·split
   ·refine⟨by have:=oF S0 b.2.1;have:=hb.ll;omega,fun x hx=>?_⟩;rw[Mn] at hx;obtain⟨y,hy,hx⟩:=hx;unfold ofL at hx;split at hx
    ·simp only[Cw] at hx;subst hx;exact(hb.ln y hy).small
    ·cases hx
   ·exact⟨by simp,fun x hx=>by cases hx⟩
end Go.Ge
namespace Go.Ge
variable [Lp]
def Er(n x:Int):Int:=zx .u32 (rU .u32 x n) (nu .u32 x (32-n))
theorem qm{n m:Int}(h:jA .u64 (qW .u64 (ef .i64 0 n)) 31=m)(h1:bB m 0=false)(h2:ef .u64 32 m=n)(h3:bB n 0=false)(h4:32-n=m)(x:Int):bP (x,(n,()))=some (Er n x,()):=by
 unfold bP kz Er;dsimp only;rw[h,h1,af,h2,h3,af,aa,h4,X0]
theorem uJ{n:Int}(h1:bB n 0=false)(h2:ef .i64 32 n=32-n)(h3:bB (32-n) 0=false)(x:Int):b6 (x,(n,()))=some (Er n x,()):=by
 unfold b6 Er;dsimp only;rw[h1,af,h2,h3,af]
theorem r7(x:Int):bP (x,(7,()))=some (Er 7 x,()):=qm (m:=25) (by decide) (by decide) (by decide) (by decide) (by decide) x
theorem r18(x:Int):bP (x,(18,()))=some (Er 18 x,()):=qm (m:=14) (by decide) (by decide) (by decide) (by decide) (by decide) x
theorem r17(x:Int):bP (x,(17,()))=some (Er 17 x,()):=qm (m:=15) (by decide) (by decide) (by decide) (by decide) (by decide) x
theorem r19(x:Int):bP (x,(19,()))=some (Er 19 x,()):=qm (m:=13) (by decide) (by decide) (by decide) (by decide) (by decide) x
theorem r6(x:Int):bP (x,(6,()))=some (Er 6 x,()):=qm (m:=26) (by decide) (by decide) (by decide) (by decide) (by decide) x
theorem r11(x:Int):bP (x,(11,()))=some (Er 11 x,()):=qm (m:=21) (by decide) (by decide) (by decide) (by decide) (by decide) x
theorem r25(x:Int):bP (x,(25,()))=some (Er 25 x,()):=qm (m:=7) (by decide) (by decide) (by decide) (by decide) (by decide) x
theorem r2(x:Int):bP (x,(2,()))=some (Er 2 x,()):=qm (m:=30) (by decide) (by decide) (by decide) (by decide) (by decide) x
theorem r13(x:Int):bP (x,(13,()))=some (Er 13 x,()):=qm (m:=19) (by decide) (by decide) (by decide) (by decide) (by decide) x
theorem r22(x:Int):bP (x,(22,()))=some (Er 22 x,()):=qm (m:=10) (by decide) (by decide) (by decide) (by decide) (by decide) x
theorem t7(x:Int):b6 (x,(7,()))=some (Er 7 x,()):=uJ (by decide) (by decide) (by decide) x
theorem t18(x:Int):b6 (x,(18,()))=some (Er 18 x,()):=uJ (by decide) (by decide) (by decide) x
theorem t17(x:Int):b6 (x,(17,()))=some (Er 17 x,()):=uJ (by decide) (by decide) (by decide) x
theorem t19(x:Int):b6 (x,(19,()))=some (Er 19 x,()):=uJ (by decide) (by decide) (by decide) x
theorem t6(x:Int):b6 (x,(6,()))=some (Er 6 x,()):=uJ (by decide) (by decide) (by decide) x
theorem t11(x:Int):b6 (x,(11,()))=some (Er 11 x,()):=uJ (by decide) (by decide) (by decide) x
theorem t25(x:Int):b6 (x,(25,()))=some (Er 25 x,()):=uJ (by decide) (by decide) (by decide) x
theorem t2(x:Int):b6 (x,(2,()))=some (Er 2 x,()):=uJ (by decide) (by decide) (by decide) x
theorem t13(x:Int):b6 (x,(13,()))=some (Er 13 x,()):=uJ (by decide) (by decide) (by decide) x
theorem t22(x:Int):b6 (x,(22,()))=some (Er 22 x,()):=uJ (by decide) (by decide) (by decide) x
def word(b:List Int)(t:Nat):Int :=
 zx .u32 (zx .u32 (zx .u32 (nu .u32 (qW .u32 (b.getD (4*t) 0)) 24) (nu .u32 (qW .u32 (b.getD (4*t+1) 0)) 16)) (nu .u32 (qW .u32 (b.getD (4*t+2) 0)) 8)) (qW .u32 (b.getD (4*t+3) 0))
def gy(n:Nat):List Int:=List.replicate n 0
def AM(b:List Int):Nat→List Int
 | 0=>gy 64
 | t+1=>(AM b t).set t (word b t)
theorem vp(b:List Int)(t:Nat):(AM b t).length=64:=by
 induction t with
 | zero=>rfl
 | succ t ih=>simp[AM,ih]
theorem aa5(b:List Int):∀(t j:Nat),t≤j→j<64→(AM b t).getD j 0=0:=by
 intro t;induction t with
 | zero =>
   intro j _ hj;show(List.replicate 64 (0:Int)).getD j 0=0
   rw[RT,acy,bu hj];rfl
 | succ t ih =>
   intro j h1 h2;have:=ih j (by omega) h2;simp only[AM,RT,Y6] at this⊢;rw[br (by omega)];exact this
def akn(p:List Int)(t:Nat):Int :=
 aL .u32 (aL .u32 (aL .u32 (fc .u32 (fc .u32 (Er 17 (p.getD (t-2) 0)) (Er 19 (p.getD (t-2) 0))) (rU .u32 (p.getD (t-2) 0) 10)) (p.getD (t-7) 0))
  (fc .u32 (fc .u32 (Er 7 (p.getD (t-15) 0)) (Er 18 (p.getD (t-15) 0))) (rU .u32 (p.getD (t-15) 0) 3))) (p.getD (t-16) 0)
def Lw(l:List Int):Nat→List Int
 | 0=>l
 | k+1=>(Lw l k).set (16+k) (akn (Lw l k) (16+k))
theorem Gc(l:List Int)(k:Nat):(Lw l k).length=l.length:=by
 induction k with
 | zero=>rfl
 | succ k ih=>simp[Lw,ih]
def xO(b:List Int):List Int:=Lw (AM b 16) 48
theorem HJ(b:List Int):(xO b).length=64:=by unfold xO;rw[Gc,vp]
theorem four{t:Nat}(ht:t<64):nr .i64 4 (t:Int)=((4*t:Nat):Int):=by rw[C6 (by omega) (by omega)];omega
theorem Vv(b:List Int)(hb:b.length=64)(t:Nat)(ht:t<16)(w:List Int)(hw:w.length=64)(h0:w.getD t 0=0)(u v:Unit)(y:List Int×Unit) :
  Loop (jS (b,u) (((t:Int),v),y)) ((0,()),(w,()))=some (((4:Int),()),(w.set t (word b t),())):=by
 let a:Nat→Int:=fun j=>match j with
  | 0=>0
  | 1=>zx .u32 (nu .u32 0 8) (qW .u32 (b.getD (4*t) 0))
  | 2=>zx .u32 (nu .u32 (zx .u32 (nu .u32 0 8) (qW .u32 (b.getD (4*t) 0))) 8) (qW .u32 (b.getD (4*t+1) 0))
  | 3=>zx .u32 (nu .u32 (zx .u32 (nu .u32 (zx .u32 (nu .u32 0 8) (qW .u32 (b.getD (4*t) 0))) 8) (qW .u32 (b.getD (4*t+1) 0))) 8) (qW .u32 (b.getD (4*t+2) 0))
  | _=>word b t
 have hstep:∀j,j<4→a (j+1)=zx .u32 (nu .u32 (a j) 8) (qW .u32 (b.getD (4*t+j) 0)):=by
  intro j hj;rcases(by omega:j=0∨j=1∨j=2∨j=3) with rfl|rfl|rfl|rfl
  ·rfl
  ·rfl
  ·rfl
  ·exact(agB _ _ _ _).symm
 have hw0:w=w.set t 0:=by
  apply O2;intro j;rw[Y6];split
  ·rename_i e;subst e;rw[bu (by omega)];rw[RT,kL (by omega)] at h0;rw[kL (by omega)];simpa using h0
  ·rfl
 have:=de (f:=jS (b,u) (((t:Int),v),y)) (r:=(((4:Int),()),(w.set t (word b t),()))) 4 (fun j=>(((j:Int),()),(w.set t (a j),()))) (fun j hj=>by
  unfold jS;dsimp only;rw[four (by omega),fJ (by omega) (by omega)];have e4:minus (((4*t:Nat):Int)+4) ((4*t:Nat):Int)=4:=by unfold minus;omega
  rw[e4,aT (by omega),ag,bE (by omega) (by omega),ag,bE (by omega) (by omega)];have hl:(w.set t (a j)).length=64:=by simp[hw]
  have hg:(w.set t (a j)).getD t 0=a j:=by simp[RT,hw,ht,(by omega:t<64)]
  rw[nB b 0 (i:=plus ((4*t:Nat):Int) j) (k:=4*t+j) (by unfold plus;omega) (by omega),aa,ag,fK _ 0 (by rw[hl];omega),hg,aa,aH (by decide),af,ag,aa,aa,aa,dh,aY (by omega),su,List.set_set,hstep j hj])
  (by
   unfold jS;dsimp only;rw[four (by omega),fJ (by omega) (by omega)];have e4:minus (((4*t:Nat):Int)+4) ((4*t:Nat):Int)=4:=by unfold minus;omega
   rw[e4,aH (by omega),af,dR];rfl)
 have h00:w.set t (a 0)=w:=hw0.symm;rw[h00] at this;exact this
theorem ZG:([0,0,0,0,0,0,0,0,0,0,0,0,0,0,0,0,0,0,0,0,0,0,0,0,0,0,0,0,0,0,0,0,0,0,0,0,0,0,0,0,0,0,0,0,0,0,0,0,0,0,0,0,0,0,0,0,0,0,0,0,0,0,0,0]:List Int)=gy 64:=rfl
theorem Vw(b:List Int)(hb:b.length=64)(u:Unit):Loop (jT (b,u)) ((0,()),(gy 64,()))=some (((16:Int),()),(AM b 16,())):=by
 refine de (f:=jT (b,u)) 16 (fun t=>(((t:Int),()),(AM b t,()))) (fun t ht=>?_) ?_
 ·unfold jT;dsimp only;rw[aT (by omega),ag,four (by omega),fJ (by omega) (by omega),bq (by omega) (by omega) (by omega),ag,Vv b hb t ht _ (vp b t) (aa5 b t t (cU _) (by omega)),aa,dh,aY (by omega)];rfl
 ·unfold jT;dsimp only;rw[aH (by omega),af,dR];rfl
theorem aa6(l:List Int)(hl:l.length=64):Loop jU ((16,()),(l,()))=some (((64:Int),()),(Lw l 48,())):=by
 refine de (f:=jU) 48 (fun k=>((((16+k:Nat):Int),()),(Lw l k,()))) (fun k hk=>?_) ?_
 ·have hlen:(Lw l k).length=64:=by rw[Gc,hl]
  unfold jU;dsimp only;rw[aT (by omega),ag,eT (by omega) (by omega),eT (by omega) (by omega),eT (by omega) (by omega),eT (by omega) (by omega),
   bE (by omega) (by omega),ag,nB _ 0 (k:=16+k-2) (by omega) (by omega),aa,bE (by omega) (by omega),ag,nB _ 0 (k:=16+k-15) (by omega) (by omega),aa,
   r7,aa,r18,aa,aH (by decide),af,r17,aa,r19,aa,aH (by decide),af,bE (by omega) (by omega),ag,nB _ 0 (k:=16+k-7) (by omega) (by omega),aa,
   bE (by omega) (by omega),ag,nB _ 0 (k:=16+k-16) (by omega) (by omega),aa,bE (by omega) (by omega),ag,fK _ 0 (by omega),aa,aa,aa,dh,aY (by omega),su]
  rfl
 ·unfold jU;dsimp only;rw[aH (by omega),af,dR];rfl
theorem S3(b:List Int)(hb:b.length=64)(u:Unit):ou (b,u)=some (xO b,()):=by
 unfold ou;rw[ZG,Vw b hb,aa];dsimp only;rw[aa6 _ (vp b 16),aa];dsimp only[xO]
theorem aev(s:List UInt8){i:Nat}(h:i<s.length)(x:UInt8)(hx:s[i]?=some x):u8 x=(ay s).getD i 0:=by
 simp[ay,RT,hx,u8]
theorem aa7(h:List Int)(s:List UInt8)(hs:s.length=64)(u:Unit):Loop (iQ (h,(s,u))) ((0,()),(gy 64,()))=some (((16:Int),()),(AM (ay s) 16,())):=by
 have key:∀b:List Int,b=ay s→Loop (iQ (h,(s,u))) ((0,()),(gy 64,()))=some (((16:Int),()),(AM b 16,())):=by
  intro b hb;refine de (f:=iQ (h,(s,u))) 16 (fun t=>(((t:Int),()),(AM b t,()))) (fun t ht=>?_) ?_
  ·have at_:∀(i:Int) (j:Nat),i=j→j<64→∃x,idx s i=some x∧u8 x=b.getD j 0:=by
    intro i j e hj;subst e;refine⟨s[j],?_,by rw[hb];exact aev s (by omega) _ (kL (by omega))⟩;rw[yK,kL]
   unfold iQ;dsimp only;rw[aT (by omega),ag,four (by omega),fJ (by omega) (by omega),fJ (by omega) (by omega),fJ (by omega) (by omega)];obtain⟨x0,i0,e0⟩:=at_ ((4*t:Nat):Int) (4*t) rfl (by omega);obtain⟨x1,i1,e1⟩:=at_ (((4*t:Nat):Int)+1) (4*t+1) (by omega) (by omega);obtain⟨x2,i2,e2⟩:=at_ (((4*t:Nat):Int)+2) (4*t+2) (by omega) (by omega);obtain⟨x3,i3,e3⟩:=at_ (((4*t:Nat):Int)+3) (4*t+3) (by omega) (by omega);rw[i0,aa,aH (by decide),af,i1,aa,aH (by decide),af,i2,aa,aH (by decide),af,i3,aa,bE (by omega) (by omega),ag,
    fK _ 0 (by rw[vp];omega),aa,aa,aa,dh,aY (by omega),su,e0,e1,e2,e3]
   rfl
  ·unfold iQ;dsimp only;rw[aH (by omega),af,dR];rfl
 exact key _ rfl
theorem agF(l:List Int)(hl:l.length=64):Loop ld ((16,()),(l,()))=some (((64:Int),()),(Lw l 48,())):=by
 refine de (f:=ld) 48 (fun k=>((((16+k:Nat):Int),()),(Lw l k,()))) (fun k hk=>?_) ?_
 ·have hlen:(Lw l k).length=64:=by rw[Gc,hl]
  unfold ld;dsimp only;rw[aT (by omega),ag,eT (by omega) (by omega),eT (by omega) (by omega),eT (by omega) (by omega),eT (by omega) (by omega),
   bE (by omega) (by omega),ag,nB _ 0 (k:=16+k-2) (by omega) (by omega),aa,bE (by omega) (by omega),ag,nB _ 0 (k:=16+k-15) (by omega) (by omega),aa,
   t17,aa,t19,aa,aH (by decide),af,bE (by omega) (by omega),ag,nB _ 0 (k:=16+k-7) (by omega) (by omega),aa,t7,aa,t18,aa,aH (by decide),af,
   bE (by omega) (by omega),ag,nB _ 0 (k:=16+k-16) (by omega) (by omega),aa,bE (by omega) (by omega),ag,fK _ 0 (by omega),aa,aa,aa,dh,aY (by omega),su]
  rfl
 ·unfold ld;dsimp only;rw[aH (by omega),af,dR];rfl
abbrev W8:=Int×Int×Int×Int×Int×Int×Int×Int
def rnd(k w:Int):W8→W8
 | (a,b,c,d,e,f,g,h) =>
   let one:=aL .u32 (aL .u32 (aL .u32 (aL .u32 h (fc .u32 (fc .u32 (Er 6 e) (Er 11 e)) (Er 25 e))) (fc .u32 g (jA .u32 e (fc .u32 f g)))) k) w
   let two:=aL .u32 (fc .u32 (fc .u32 (Er 2 a) (Er 13 a)) (Er 22 a)) (zx .u32 (jA .u32 a b) (jA .u32 c (zx .u32 a b)))
   (aL .u32 one two,a,b,c,aL .u32 d one,e,f,g)
def HK(K w:List Int)(s:W8):Nat→W8
 | 0=>s
 | t+1=>rnd (K.getD t 0) (w.getD t 0) (HK K w s t)
def vq:List Int:=[1116352408,1899447441,3049323471,3921009573,961987163,1508970993,2453635748,2870763221,3624381080,310598401,607225278,1426881987,1925078388,2162078206,2614888103,3248222580,3835390401,4022224774,264347078,604807628,770255983,1249150122,1555081692,1996064986,2554220882,2821834349,2952996808,3210313671,3336571891,3584528711,113926993,338241895,666307205,773529912,1294757372,1396182291,1695183700,1986661051,2177026350,2456956037,2730485921,2820302411,3259730800,3345764771,3516065817,3600352804,4094571909,275423344,430227734,506948616,659060556,883997877,958139571,1322822218,1537002063,1747873779,1955562222,2024104815,2227730452,2361852424,2428436474,2756734187,3204031479,3329325298]
theorem aa8:yL ()=some (vq,()):=rfl
theorem X5:xJ ()=some (vq,()):=rfl
def tN(s:W8)(t:Int):Int×Int×Int×Int×Int×Int×Int×Int×Int×Unit:=(s.1,s.2.1,s.2.2.1,s.2.2.2.1,s.2.2.2.2.1,s.2.2.2.2.2.1,s.2.2.2.2.2.2.1,s.2.2.2.2.2.2.2,t,())
def kJ(s:W8):List Int:=[s.1,s.2.1,s.2.2.1,s.2.2.2.1,s.2.2.2.2.1,s.2.2.2.2.2.1,s.2.2.2.2.2.2.1,s.2.2.2.2.2.2.2]
theorem X6(w:List Int)(hw:w.length=64)(s:W8)(u v:Unit):Loop (fV (vq,u) (w,v)) (tN s 0,())=some (tN (HK vq w s 64) 64,()):=by
 refine de (f:=fV (vq,u) (w,v)) 64 (fun t=>(tN (HK vq w s t) t,())) (fun t ht=>?_) ?_
 ·show fV (vq,u) (w,v) (tN (HK vq w s t) t,())=some (.inl (tN (rnd (vq.getD t 0) (w.getD t 0) (HK vq w s t)) ((t+1:Nat):Int),()))
  generalize HK vq w s t=q;obtain⟨a,b,c,d,e,f,g,h⟩:=q;unfold fV tN;dsimp only;rw[aT (by omega),ag,r6,aa,r11,aa,r25,aa,bE (by omega) (by omega),ag,fK vq 0 (by show t<64;omega),aa,ag,fK w 0 (by omega),aa,
   r2,aa,r13,aa,r22,aa,dh,aY (by omega)]
  rfl
 ·unfold fV tN;dsimp only;rw[aH (by omega),af,dR];rfl
theorem X7(w:List Int)(hw:w.length=64)(s:W8)(q:Int×Unit)(u v:Unit):Loop (iR (q,(w,u)) (vq,v)) ((0,()),(kJ s,()))=some (((64:Int),()),(kJ (HK vq w s 64),())):=by
 refine de (f:=iR (q,(w,u)) (vq,v)) 64 (fun t=>(((t:Int),()),(kJ (HK vq w s t),()))) (fun t ht=>?_) ?_
 ·show iR (q,(w,u)) (vq,v) (((t:Int),()),(kJ (HK vq w s t),()))=some (.inl ((((t+1:Nat):Int),()),(kJ (rnd (vq.getD t 0) (w.getD t 0) (HK vq w s t)),())))
  generalize HK vq w s t=q;obtain⟨a,b,c,d,e,f,g,h⟩:=q;have i0:idx (kJ (a,b,c,d,e,f,g,h)) 0=some a:=rfl;have i1:idx (kJ (a,b,c,d,e,f,g,h)) 1=some b:=rfl;have i2:idx (kJ (a,b,c,d,e,f,g,h)) 2=some c:=rfl;have i3:idx (kJ (a,b,c,d,e,f,g,h)) 3=some d:=rfl;have i4:idx (kJ (a,b,c,d,e,f,g,h)) 4=some e:=rfl;have i5:idx (kJ (a,b,c,d,e,f,g,h)) 5=some f:=rfl;have i6:idx (kJ (a,b,c,d,e,f,g,h)) 6=some g:=rfl;have i7:idx (kJ (a,b,c,d,e,f,g,h)) 7=some h:=rfl;have w0:within 0 8=true:=by decide
  have w1:within 1 8=true:=by decide
  have w2:within 2 8=true:=by decide
  have w3:within 3 8=true:=by decide
  have w4:within 4 8=true:=by decide
  have w5:within 5 8=true:=by decide
  have w6:within 6 8=true:=by decide
  have w7:within 7 8=true:=by decide
  have wt:within (t:Int) 64=true:=bE (by omega) (by omega);unfold iR;dsimp only;simp only[aT (show(t:Int)<64 by omega),ag,w0,w1,w2,w3,w4,w5,w6,w7,wt,i0,i1,i2,i3,i4,i5,i6,i7,aa,t6,t11,t25,t2,t13,t22,fK vq 0 (show t<vq.length from ht),fK w 0 (show t<w.length by omega),dh,aY (show t<4611686018427387904 by omega),
   ←akj,←aiv]
  rfl
 ·unfold iR;dsimp only;rw[aH (by omega),af,dR];rfl
def of8(l:List Int):W8:=(l.getD 0 0,l.getD 1 0,l.getD 2 0,l.getD 3 0,l.getD 4 0,l.getD 5 0,l.getD 6 0,l.getD 7 0)
theorem aa9(l:List Int)(hl:l.length=8):kJ (of8 l)=l:=by
 match l,hl with
 | [a,b,c,d,e,f,g,h],_=>rfl
def AN(l m:List Int):Nat→List Int
 | 0=>l
 | i+1=>(AN l m i).set i (aL .u32 (l.getD i 0) (m.getD i 0))
theorem Dg(l m:List Int)(i:Nat):(AN l m i).length=l.length:=by
 induction i with
 | zero=>rfl
 | succ i ih=>simp[AN,ih]
theorem ZH(l m:List Int):∀(i j:Nat),i≤j→(AN l m i).getD j 0=l.getD j 0:=by
 intro i;induction i with
 | zero=>intro j _;rfl
 | succ i ih =>
   intro j h;have:=ih j (by omega);simp only[AN,RT,Y6] at this⊢;rw[br (by omega)];exact this
def comp(h b:List Int):List Int:=AN h (kJ (HK vq (xO b) (of8 h) 64)) 8
theorem Vx(h b:List Int):(comp h b).length=h.length:=Dg _ _ _
theorem aba(l m:List Int)(hl:l.length=8)(hm:m.length=8):AN l m 8=AN m l 8:=by
 match l,hl,m,hm with
 | [a,b,c,d,e,f,g,h],_,[a',b',c',d',e',f',g',h'],_ =>
   simp only[AN,List.set,List.getD_cons_zero,List.getD_cons_succ];simp only[Vn]
theorem abb(h:List Int)(hh:h.length=8)(s:List UInt8)(hs:s.length=64)(u:Unit):uB (h,(s,u))=some (comp h (ay s),()):=by
 have hb:(AM (ay s) 16).length=64:=vp _ _;unfold uB;rw[ZG,aa7 h s hs,aa];dsimp only;rw[agF _ hb,aa,X5,aa];have e8:h=kJ (of8 h):=(aa9 h hh).symm;have hsc:(xO (ay s)).length=64:=HJ _;have hr:=X7 (xO (ay s)) hsc (of8 h) ((64:Int),()) () ();rw[←e8] at hr;rw[show Lw (AM (ay s) 16) 48=xO (ay s) from rfl,hr,aa];dsimp only;generalize hm:kJ (HK vq (xO (ay s)) (of8 h) 64)=m;have hm8:m.length=8:=by rw[←hm];rfl
 have:Loop (lf (h,(s,u))) ((0,()),(m,()))=some (((8:Int),()),(AN m h 8,())):=by
  refine de (f:=lf (h,(s,u))) 8 (fun i=>(((i:Int),()),(AN m h i,()))) (fun i hi=>?_) ?_
  ·have hl:(AN m h i).length=8:=by rw[Dg,hm8]
   unfold lf;dsimp only;simp only[aT (show(i:Int)<8 by omega),ag,bE (show(0:Int)≤i by omega) (show(i:Int)<8 by omega),fK (AN m h i) 0 (show i<(AN m h i).length by omega),fK h 0 (show i<h.length by omega),aa,dh,aY (show i<4611686018427387904 by omega),su];rw[ZH m h i i (cU _)];rfl
  ·unfold lf;dsimp only;rw[aH (by omega),af,dR];rfl
 rw[this,aa];dsimp only;rw[aba m h hm8 hh];unfold comp;rw[hm]
end Go.Ge
namespace Go.Ge
variable [Lp]
def H0:List Int:=[1779033703,3144134277,1013904242,2773480762,1359893119,2600822924,528734635,1541459225]
theorem abc:rJ ()=some (H0,()):=rfl
theorem PU:zJ ()=some (H0,()):=rfl
def A8(all:List UInt8):Nat→List Int
 | 0=>H0
 | k+1=>comp (A8 all k) (ay ((all.drop (64*k)).take 64))
theorem Bz(all:List UInt8)(k:Nat):(A8 all k).length=8:=by
 induction k with
 | zero=>rfl
 | succ k ih=>simp only[A8];rw[Vx,ih]
theorem ZI(all more:List UInt8):∀k,64*k≤all.length→A8 (all++more) k=A8 all k:=by
 intro k;induction k with
 | zero=>intro _;rfl
 | succ k ih =>
   intro h;simp only[A8];rw[ih (by omega),aah (by omega),aai (by rw[qV];omega)]
abbrev Gd:=(Bool×List Int×Unit)×List Int×Int×Unit
def Inv(st:Gd)(all:List UInt8):Prop :=
 ∃wait,st=((decide (64≤all.length),(if 64≤all.length then A8 all (all.length / 64) else gy 8),()),wait,(all.length:Int),())∧wait.length=64∧wait.take (all.length % 64)=ay (all.drop (64*(all.length / 64)))
def aew:Gd:=((false,gy 8,()),gy 64,0,())
theorem amm:Inv aew []:=⟨gy 64,rfl,rfl,rfl⟩
theorem uK(a b:List UInt8):ay (a++b)=ay a++ay b:=by simp[ay]
theorem Dh(a:List UInt8)(n:Nat):(ay a).take n=ay (a.take n):=by simp[ay,List.map_take]
theorem gD(a:List UInt8):(ay a).length=a.length:=by simp[ay]
theorem xP(a b:Nat):jz (a:Int) (b:Int)=((a % b:Nat):Int):=by
 unfold jz;rw[Int.tmod_eq_emod_of_nonneg (by omega)];exact(Int.natCast_emod a b).symm
theorem aex(q:W8)(st:Gd)(h8:st.1.2.1.length=8):Loop (iq (tN q 64,())) ((0,()),(st,()))=some (((8:Int),()),(((st.1.1,AN st.1.2.1 (kJ q) 8,st.1.2.2),st.2),())):=by
 obtain⟨⟨bg,h,u⟩,wn⟩:=st;dsimp only at h8⊢;refine de (f:=iq (tN q 64,())) 8 (fun i=>(((i:Int),()),(((bg,AN h (kJ q) i,u),wn),()))) (fun i hi=>?_) ?_
 ·have hl:(AN h (kJ q) i).length=8:=by rw[Dg,h8]
  have e8:([(tN q 64).1,(tN q 64).2.1,(tN q 64).2.2.1,(tN q 64).2.2.2.1,(tN q 64).2.2.2.2.1,(tN q 64).2.2.2.2.2.1,(tN q 64).2.2.2.2.2.2.1,(tN q 64).2.2.2.2.2.2.2.1]:List Int)=kJ q:=rfl;unfold iq;dsimp only;rw[e8];have hq8:(kJ q).length=8:=rfl;simp only[aT (show(i:Int)<8 by omega),ag,bE (show(0:Int)≤i by omega) (show(i:Int)<8 by omega),fK (AN h (kJ q) i) 0 (show i<(AN h (kJ q) i).length by omega),fK (kJ q) 0 (show i<(kJ q).length by omega),aa,dh,aY (show i<4611686018427387904 by omega),su];rw[ZH h (kJ q) i i (cU _)];rfl
 ·unfold iq;dsimp only;rw[aH (by omega),af,dR];rfl
theorem aey(part all:List UInt8)(st:Gd)(hp:part≠[])(hI:Inv st all)(hb:all.length+part.length<1152921504606846976) :
  ∃st',fW ((part,()),(st,()))=some (.inl ((part.drop (64-all.length % 64),()),(st',())))∧Inv st' (all++part.take (64-all.length % 64)):=by
 obtain⟨wait,rfl,hw,ht⟩:=hI;generalize hN:all.length=N at *;have jt:N % 64<64:=IU _ (by decide);have eat:jz (N:Int) 64=((N % 64:Nat):Int):=xP N 64;have em:iH (ay part) (minus (64:Int) ((N % 64:Nat):Int))=ay (part.take (64-N % 64)):=by
  unfold iH minus;rw[show((64:Int)-((N % 64:Nat):Int)).toNat=64-N % 64 by omega,Dh]
 generalize hk:(part.take (64-N % 64)).length=k;have hk':k=min (64-N % 64) part.length:=by rw[←hk,cW]
 have hkp:0<k:=by
  have:0<part.length:=by cases part with|nil=>exact absurd rfl hp|cons=>simp
  omega
 have amn:len (ay (part.take (64-N % 64)))=(k:Int):=by unfold len;rw[gD,hk]
 have amo:aL .i64 ((N % 64:Nat):Int) (k:Int)=((N % 64+k:Nat):Int):=by rw[fJ (by omega) (by omega)];omega
 have ako:aL .i64 (N:Int) (k:Int)=((N+k:Nat):Int):=by rw[fJ (by omega) (by omega)];omega
 have amq:inside ((N % 64:Nat):Int) 64 64=true:=bq (by omega) (by omega) (by omega);have amr:inside (k:Int) (len part) (len part)=true:=bq (by omega) (by unfold len;omega) (by omega);have ams:sub part (k:Int) (minus (len part) (k:Int))=part.drop k:=by
  unfold sub minus len;rw[u6,GG (by rw[qV];omega)]
 have hdk:part.drop k=part.drop (64-N % 64):=by
  rcases Nat.le_total (64-N % 64) part.length with h|h
  ·rw[show k=64-N % 64 by omega]
  ·rw[Mj (by omega),Mj h]
 have akp:over wait ((N % 64:Nat):Int) (ay (part.take (64-N % 64)))=ay (all.drop (64*(N / 64))++part.take (64-N % 64))++wait.drop (N % 64+k):=by
  unfold over;rw[u6,ht,gD,hk,uK]
 have hne:nt (cc part [])=true:=by
  unfold cc nt;cases part with
  | nil=>exact absurd rfl hp
  | cons x r=>rfl
 have hall:(all++part.take (64-N % 64)).length=N+k:=by rw[iO,hN,hk]
 have hdm:64*(N / 64)+N % 64=N:=T9 N 64;have ZJ:(all.drop (64*(N / 64))).length=N % 64:=by rw[qV];omega
 have hwl:(ay (all.drop (64*(N / 64))++part.take (64-N % 64))++wait.drop (N % 64+k)).length=64:=by
  rw[iO,gD,iO,ZJ,hk,qV];omega
 unfold fW;dsimp only;simp only[hne,ag,aM (show(64:Int)≠0 by decide),af,eat,amq,em,amn,amr,amo,ako,ams,akp];by_cases hfull:N % 64+k=64
 ·
  have hw0:wait.drop (N % 64+k)=[]:=by rw[Mj (by omega)]
  simp only[aP (show((N % 64+k:Nat):Int)=64 by omega),ag,hw0,Am] at hwl⊢;generalize hblk:ay (all.drop (64*(N / 64))++part.take (64-N % 64))=blk at *;have hq:(N+k) / 64=N / 64+1:=by omega
  have hm0:(N+k) % 64=0:=by omega
  have akq:((all++part.take (64-N % 64)).drop (64*(N / 64))).take 64=all.drop (64*(N / 64))++part.take (64-N % 64):=by
   rw[aah (by omega),GG (by rw[iO,ZJ,hk];omega)]
  have hh:∃bg':Bool,bg'=true∧(ah (aj (nt (decide (64≤N))) (ah (rJ ()) fun y2:List Int×Unit=>some ((),(((true,y2.1,()),(blk,((N+k:Nat):Int),())),()))) (some ((),(((decide (64≤N),(if 64≤N then A8 all (N / 64) else gy 8),()),(blk,((N+k:Nat):Int),())),())))) fun y:Unit×Gd×Unit=>some y)=some ((),(((true,A8 all (N / 64),()),(blk,((N+k:Nat):Int),())),())):=by
   refine⟨true,rfl,?_⟩;by_cases CC:64≤N
   ·simp only[CC,JZ,nZ];rfl
   ·have:N / 64=0:=by omega
    simp only[CC,Zi,EI,this,abc];rfl
  obtain⟨_,_,hh⟩:=hh;have hh':(aj (nt (decide (64≤N))) (ah (rJ ()) fun y2:List Int×Unit=>some ((),(((true,y2.1,()),(blk,((N+k:Nat):Int),())),()))) (some ((),(((decide (64≤N),(if 64≤N then A8 all (N / 64) else gy 8),()),(blk,((N+k:Nat):Int),())),()))):Option (Unit×Gd×Unit))=some ((),(((true,A8 all (N / 64),()),(blk,((N+k:Nat):Int),())),())):=by
   have:∀o:Option (Unit×Gd×Unit),(ah o fun y=>some y)=o:=by intro o;cases o<;>rfl
   exact(this _).symm.trans hh
  rw[hh',aa,aa8,aa,S3 blk hwl,aa];dsimp only;have hl8:=Bz all (N / 64);have i0:=nB (A8 all (N / 64)) 0 (i:=0) (k:=0) rfl (by omega);have i1:=nB (A8 all (N / 64)) 0 (i:=1) (k:=1) rfl (by omega);have i2:=nB (A8 all (N / 64)) 0 (i:=2) (k:=2) rfl (by omega);have i3:=nB (A8 all (N / 64)) 0 (i:=3) (k:=3) rfl (by omega);have i4:=nB (A8 all (N / 64)) 0 (i:=4) (k:=4) rfl (by omega);have i5:=nB (A8 all (N / 64)) 0 (i:=5) (k:=5) rfl (by omega);have i6:=nB (A8 all (N / 64)) 0 (i:=6) (k:=6) rfl (by omega);have i7:=nB (A8 all (N / 64)) 0 (i:=7) (k:=7) rfl (by omega);have w0:within 0 8=true:=by decide
  have w1:within 1 8=true:=by decide
  have w2:within 2 8=true:=by decide
  have w3:within 3 8=true:=by decide
  have w4:within 4 8=true:=by decide
  have w5:within 5 8=true:=by decide
  have w6:within 6 8=true:=by decide
  have w7:within 7 8=true:=by decide
  simp only[w0,w1,w2,w3,w4,w5,w6,w7,ag,i0,i1,i2,i3,i4,i5,i6,i7,aa];have hr:=X6 (xO blk) (HJ blk) (of8 (A8 all (N / 64))) () ();rw[show((A8 all (N / 64)).getD 0 0,(A8 all (N / 64)).getD 1 0,(A8 all (N / 64)).getD 2 0,(A8 all (N / 64)).getD 3 0,(A8 all (N / 64)).getD 4 0,(A8 all (N / 64)).getD 5 0,(A8 all (N / 64)).getD 6 0,(A8 all (N / 64)).getD 7 0,(0:Int),())=tN (of8 (A8 all (N / 64))) 0 from rfl,hr,aa];rw[aex _ ((true,A8 all (N / 64),()),(blk,((N+k:Nat):Int),())) hl8,aa,aa,dh];dsimp only;refine⟨_,by rw[hdk],?_⟩;refine⟨blk,?_,hwl,?_⟩
  ·rw[hall];have CC:64≤N+k:=by omega
   simp only[CC,JZ,nZ];have hsN:A8 (all++part.take (64-N % 64)) ((N+k) / 64)=AN (A8 all (N / 64)) (kJ (HK vq (xO blk) (of8 (A8 all (N / 64))) 64)) 8:=by
    rw[hq];simp only[A8];rw[ZI all _ _ (by omega),akq,hblk];rfl
   rw[hsN]
  ·rw[hall,hm0,hq,QE,Mj (by omega)];rfl
 ·have hnf:N % 64+k<64:=by omega
  simp only[aM (show((N % 64+k:Nat):Int)≠64 by omega),af,aa,dh];refine⟨_,by rw[hdk],?_⟩;have hq:(N+k) / 64=N / 64:=by omega
  have hm0:(N+k) % 64=N % 64+k:=by omega
  refine⟨_,?_,hwl,?_⟩
  ·rw[hall,hq];by_cases CC:64≤N
   ·have af8:64≤N+k:=by omega
    simp only[CC,af8,JZ,nZ];rw[ZI all _ _ (by omega)]
   ·have af8:¬64≤N+k:=by omega
    simp only[CC,af8,Zi,EI]
  ·rw[hall,hm0,hq,aai (by rw[gD,iO,ZJ,hk];omega),GG (by rw[gD,iO,ZJ,hk];omega),aah (by omega)]
end Go.Ge
namespace Go.Ge
variable [Lp]
theorem aez:∀(n:Nat) (part all:List UInt8) (st:Gd),part.length≤n→Inv st all→all.length+part.length<1152921504606846976 →
  ∃st',Loop fW ((part,()),(st,()))=some (([],()),(st',()))∧Inv st' (all++part):=by
 intro n;induction n with
 | zero =>
   intro part all st hn hI hb;obtain rfl:part=[]:=aco (by omega);refine⟨st,?_,by rw[Am];exact hI⟩;rw[aX];have:fW (([],()),(st,()))=some (.inr (([],()),(st,()))):=by
    unfold fW;dsimp only;rw[show nt (cc [] [])=false from rfl,af,dR]
   rw[this];rfl
 | succ n ih =>
   intro part all st hn hI hb;by_cases hp:part=[]
   ·subst hp;exact ih [] all st (by simp) hI hb
   ·obtain⟨st1,h1,h2⟩:=aey part all st hp hI hb;have hlt:all.length % 64<64:=IU _ (by decide);have hpl:0<part.length:=by cases part with|nil=>exact absurd rfl hp|cons=>simp
    obtain⟨st',h3,h4⟩:=ih (part.drop (64-all.length % 64)) _ st1 (by rw[qV];omega) h2 (by rw[iO,cW,qV];omega);refine⟨st',?_,by rw[pZ,CE] at h4;exact h4⟩;rw[aX,h1];exact h3
theorem Mb(part all:List UInt8)(st:Gd)(hI:Inv st all)(hb:all.length+part.length<1152921504606846976):∃st',gv ((part,()),(st,()))=some ((),(st',()))∧Inv st' (all++part):=by
 obtain⟨st',h1,h2⟩:=aez part.length part all st (cU _) hI hb;refine⟨st',?_,h2⟩;unfold gv;dsimp only;rw[h1,aa]
def zs(n:Nat):Nat:=(119-n % 64) % 64
def dQ(n k:Nat):Int:=qW .u8 (rU .u64 (nr .u64 (qW .u64 (n:Int)) 8) ((8*k:Nat):Int))
def Js(n:Nat):List Int:=[dQ n 7,dQ n 6,dQ n 5,dQ n 4,dQ n 3,dQ n 2,dQ n 1,dQ n 0]
def pad(s:List UInt8):List UInt8:=s++[128]++List.replicate (zs s.length) 0++bt (Js s.length)
theorem Gf(s:List UInt8):(pad s).length=s.length+1+zs s.length+8:=by simp[pad,bt,Js];omega
theorem ZK(s:List UInt8):(pad s).length % 64=0:=by rw[Gf];unfold zs;omega
theorem qG(s:List UInt8):bt (ay s)=s:=by
 unfold bt ay;rw[List.map_map]
 conv=>rhs;rw[←List.map_id s]
 apply TW;intro x _;simp
theorem zM(a b:List Int):bt (a++b)=bt a++bt b:=by simp[bt]
theorem Vy(s:List UInt8)(hn:s.length≤1048576):Loop kZ (((),()),(ay s++[128],()))=some (((),()),(ay s++[128]++gy (zs s.length),())):=by
 have hz:zs s.length<64:=IU _ (by decide);have:=de (f:=kZ) (r:=(((),()),(ay s++[128]++gy (zs s.length),()))) (zs s.length) (fun j=>(((),()),(ay s++[128]++gy j,()))) (fun j hj=>by
  unfold kZ;dsimp only;have el:len (ay s++[128]++gy j)=((s.length+1+j:Nat):Int):=by unfold len;simp[ay,gy];omega
  rw[aM (by decide),af,el,show((64:Int))=((64:Nat):Int) from rfl,xP,aM (by unfold zs at hj;omega),show nt false=true from rfl,ag,dO (by simp only[plus,len,WG];omega),ag,dh]
  congr 4
  show ay s++[128]++gy j++[0]=_
  rw[pZ,show gy j++[0]=gy (j+1) from by simp[gy,List.replicate_succ']])
  (by
   unfold kZ;dsimp only;have el:len (ay s++[128]++gy (zs s.length))=((s.length+1+zs s.length:Nat):Int):=by unfold len;simp[ay,gy];omega
   rw[aM (by decide),af,el,show((64:Int))=((64:Nat):Int) from rfl,xP,aP (by unfold zs;omega),show nt true=false from rfl,af,dR])
 have h0:ay s++[128]++gy 0=ay s++[128]:=by simp[gy]
 simp only[h0] at this;exact this
theorem abe(s:List UInt8)(b:List Int)(hn:s.length≤1048576)(hb:b.length≤2097152)(u:Unit):Loop (ew (s,u)) (((),(7,())),(b,()))=some (((),(-1,())),(b++Js s.length,())):=by
 have step:∀(k:Nat) (c:List Int),k≤7→c.length≤2097160→ew (s,u) (((),((k:Int),())),(c,()))=some (.inl (((),((k:Int)-1,())),(c++[dQ s.length k],()))):=by
  intro k c hk hc;unfold ew;dsimp only;have e8:nr .i64 8 (k:Int)=((8*k:Nat):Int):=by rw[C6 (by omega) (by omega)];omega
  rw[cE (by omega),ag,e8,aH (by omega),af,dO (by simp only[plus,len,WG];omega),ag,eT (by omega) (by omega),dh];rfl
 have hend:∀c:List Int,ew (s,u) (((),((-1:Int),())),(c,()))=some (.inr (((),(-1,())),(c,()))):=by
  intro c;unfold ew;dsimp only;rw[fU (by decide),af,dR]
 have L:∀(k:Nat) (c:List Int),k≤7→c.length≤2097160→Loop (ew (s,u)) (((),((k:Int),())),(c,()))=Loop (ew (s,u)) (((),((k:Int)-1,())),(c++[dQ s.length k],())):=by
  intro k c hk hc;rw[aX,step k c hk hc];rfl
 have l7:=L 7 b (by omega) (by omega);have l6:=L 6 (b++[dQ s.length 7]) (by omega) (by simp;omega);have l5:=L 5 (b++[dQ s.length 7]++[dQ s.length 6]) (by omega) (by simp;omega);have l4:=L 4 (b++[dQ s.length 7]++[dQ s.length 6]++[dQ s.length 5]) (by omega) (by simp;omega);have l3:=L 3 (b++[dQ s.length 7]++[dQ s.length 6]++[dQ s.length 5]++[dQ s.length 4]) (by omega) (by simp;omega);have l2:=L 2 (b++[dQ s.length 7]++[dQ s.length 6]++[dQ s.length 5]++[dQ s.length 4]++[dQ s.length 3]) (by omega) (by simp;omega);have l1:=L 1 (b++[dQ s.length 7]++[dQ s.length 6]++[dQ s.length 5]++[dQ s.length 4]++[dQ s.length 3]++[dQ s.length 2]) (by omega) (by simp;omega);have l0:=L 0 (b++[dQ s.length 7]++[dQ s.length 6]++[dQ s.length 5]++[dQ s.length 4]++[dQ s.length 3]++[dQ s.length 2]++[dQ s.length 1]) (by omega) (by simp;omega);refine l7.trans (l6.trans (l5.trans (l4.trans (l3.trans (l2.trans (l1.trans (l0.trans ?_)))))));have:b++[dQ s.length 7]++[dQ s.length 6]++[dQ s.length 5]++[dQ s.length 4]++[dQ s.length 3]++[dQ s.length 2]++[dQ s.length 1]++[dQ s.length 0]=b++Js s.length:=by simp[Js]
 rw[this];show Loop (ew (s,u)) (((),(-1,())),(b++Js s.length,()))=_
 rw[aX,hend];rfl
theorem abf(s:List UInt8)(hn:s.length≤1048576):uA (s,())=some (pad s,()):=by
 have hz:zs s.length<64:=IU _ (by decide);unfold uA;dsimp only;rw[dO (by unfold len;omega),ag,dO (by simp only[plus,len,WG,gD];omega),ag,show app (ay s) ([128]:List Int)=ay s++[128] from rfl,Vy s hn,aa];dsimp only;rw[abe s _ hn (by simp[gD,gy];omega),aa];dsimp only;rw[zM,zM,zM,qG];unfold pad;have:bt (gy (zs s.length))=List.replicate (zs s.length) 0:=by unfold bt gy;rw[List.map_replicate];rfl
 rw[this];rfl
theorem X8(t:List UInt8)(hm:t.length % 64=0)(hn:t.length≤2097152)(u:Unit):Loop (ow (t,u)) ((0,()),(H0,()))=some (((t.length:Int),()),(A8 t (t.length / 64),())):=by
 have:=de (f:=ow (t,u)) (r:=(((t.length:Int),()),(A8 t (t.length / 64),()))) (t.length / 64) (fun j=>((((64*j:Nat):Int),()),(A8 t j,()))) (fun j hj=>by
  unfold ow;dsimp only;have hjl:64*j+64≤t.length:=by omega
  rw[fJ (by omega) (by omega),cE (by unfold len;omega),ag,bq (by omega) (by omega) (by unfold len;omega),ag];have hs:sub t ((64*j:Nat):Int) (minus (((64*j:Nat):Int)+64) ((64*j:Nat):Int))=(t.drop (64*j)).take 64:=by
   unfold sub minus;rw[u6,show(((64*j:Nat):Int)+64-((64*j:Nat):Int)).toNat=64 by omega]
  rw[hs,abb _ (Bz t j) _ (by rw[cW,qV];omega),aa,dh];rw[show(((64*j:Nat):Int)+64)=((64*(j+1):Nat):Int) by omega];rfl)
  (by
   unfold ow;dsimp only;have hjl:64*(t.length / 64)=t.length:=by omega
   rw[hjl,fJ (by omega) (by omega),fU (by unfold len;omega),af,dR])
 exact this
def amt(h:List Int)(i:Nat):Int:=qW .u8 (rU .u32 (h.getD (i / 4) 0) ((24-8*(i % 4):Nat):Int))
def Vz(h:List Int):Nat→List Int
 | 0=>gy 32
 | i+1=>(Vz h i).set i (amt h i)
theorem Di(h:List Int)(i:Nat):(Vz h i).length=32:=by
 induction i with
 | zero=>rfl
 | succ i ih=>simp[Vz,ih]
theorem ZL:([0,0,0,0,0,0,0,0,0,0,0,0,0,0,0,0,0,0,0,0,0,0,0,0,0,0,0,0,0,0,0,0]:List Int)=gy 32:=rfl
theorem aeA{a:Nat}(h:a<4611686018427387904):KZ .i64 (a:Int) 4=((a / 4:Nat):Int):=by
 have e:((a:Int).tdiv 4)=((a / 4:Nat):Int):=by rw[Int.tdiv_eq_ediv_of_nonneg (by omega)];exact(Int.natCast_ediv a 4).symm
 unfold KZ;rw[e];have:=El (a:=((a / 4:Nat):Int)) (by omega) (by omega);unfold qW at this;exact this
theorem VA{h o:List Int}(hh:h.length=8)(ho:o.length=32)(i:Nat)(hi:i<32):KZ .i64 (i:Int) 4=((i / 4:Nat):Int)∧ef .i64 24 (nr .i64 8 (jz (i:Int) 4))=((24-8*(i % 4):Nat):Int):=by
 refine⟨aeA (by omega),?_⟩;rw[show(4:Int)=((4:Nat):Int) from rfl,xP,C6 (by omega) (by omega),eT (by omega) (by omega)];omega
theorem agG(h:List Int)(hh:h.length=8)(q:Int×Unit)(u:Unit):Loop (oz (q,(h,u))) ((0,()),(gy 32,()))=some (((32:Int),()),(Vz h 32,())):=by
 refine de (f:=oz (q,(h,u))) 32 (fun i=>(((i:Int),()),(Vz h i,()))) (fun i hi=>?_) ?_
 ·have hl:=Di h i;obtain⟨e1,e2⟩:=VA hh hl i hi;unfold oz;dsimp only;rw[aT (by omega),ag,aM (by decide),af,e1,bE (by omega) (by omega),ag,fK h 0 (by omega),aa,af,e2,aH (by omega),af,bE (by omega) (by omega),ag,
   fK _ 0 (by omega),aa,aa,aa,dh,aY (by omega),su]
  rfl
 ·unfold oz;dsimp only;rw[aH (by omega),af,dR];rfl
theorem agH(h w:List Int)(hh:h.length=8)(bg:Bool)(n:Int)(a b c d e:Unit)(r:Unit):Loop (ir (r,(((bg,h,a),w,n,b),c))) ((0,()),(gy 32,()))=some (((32:Int),()),(Vz h 32,())):=by
 refine de (f:=ir (r,(((bg,h,a),w,n,b),c))) 32 (fun i=>(((i:Int),()),(Vz h i,()))) (fun i hi=>?_) ?_
 ·have hl:=Di h i;obtain⟨e1,e2⟩:=VA hh hl i hi;unfold ir;dsimp only;rw[aT (by omega),ag,aM (by decide),af,e1,bE (by omega) (by omega),ag,fK h 0 (by omega),aa,af,e2,aH (by omega),af,bE (by omega) (by omega),ag,
   fK _ 0 (by omega),aa,aa,aa,dh,aY (by omega),su]
  rfl
 ·unfold ir;dsimp only;rw[aH (by omega),af,dR];rfl
def sha(s:List UInt8):List Int:=Vz (A8 (pad s) ((pad s).length / 64)) 32
theorem ri(s:List UInt8):(sha s).length=32:=Di _ _
theorem X9(s:List UInt8)(hn:s.length≤1048576):yM (s,())=some (sha s,()):=by
 have hz:zs s.length<64:=IU _ (by decide);unfold yM;rw[PU,aa];dsimp only;rw[abf s hn,aa,X8 _ (ZK s) (by rw[Gf];omega),aa,ZL,agG _ (Bz _ _),aa];dsimp only[sha]
theorem abg(s:List UInt8)(hn:s.length≤1152921504606840000)(st:Gd)(hI:Inv st (s++[128])):∃st',Loop eF ((),(st,()))=some ((),(st',()))∧Inv st' (s++[128]++List.replicate (zs s.length) 0):=by
 have hz:zs s.length<64:=IU _ (by decide);have key:∀(m j:Nat) (st:Gd),j+m=zs s.length→Inv st (s++[128]++List.replicate j 0)→∃st',Loop eF ((),(st,()))=some ((),(st',()))∧Inv st' (s++[128]++List.replicate (zs s.length) 0):=by
  intro m;induction m with
  | zero =>
    intro j st hj hI;obtain rfl:j=zs s.length:=by omega
    refine⟨st,?_,hI⟩;obtain⟨wait,rfl,h1,h2⟩:=hI;rw[aX];have:eF ((),(((decide (64≤(s++[128]++List.replicate (zs s.length) 0).length),(if 64≤(s++[128]++List.replicate (zs s.length) 0).length then A8 (s++[128]++List.replicate (zs s.length) 0) ((s++[128]++List.replicate (zs s.length) 0).length / 64) else gy 8),()),wait,((s++[128]++List.replicate (zs s.length) 0).length:Int),()),()))=some (.inr ((),(((decide (64≤(s++[128]++List.replicate (zs s.length) 0).length),(if 64≤(s++[128]++List.replicate (zs s.length) 0).length then A8 (s++[128]++List.replicate (zs s.length) 0) ((s++[128]++List.replicate (zs s.length) 0).length / 64) else gy 8),()),wait,((s++[128]++List.replicate (zs s.length) 0).length:Int),()),()))):=by
     have hl:(s++[128]++List.replicate (zs s.length) (0:UInt8)).length=s.length+1+zs s.length:=by simp;omega
     unfold eF;dsimp only;rw[aM (by decide),af,hl,show((64:Int))=((64:Nat):Int) from rfl,xP,aP (by unfold zs;omega),show nt true=false from rfl,af,dR]
    rw[this];rfl
  | succ m ih =>
    intro j st hj hI;obtain⟨st1,g1,g2⟩:=Mb [0] _ st hI (by simp;omega);obtain⟨st',k1,k2⟩:=ih (j+1) st1 (by omega) (by
     rw[pZ,show List.replicate j (0:UInt8)++[0]=List.replicate (j+1) 0 from by rw[List.replicate_succ']] at g2;exact g2)
    refine⟨st',?_,k2⟩;rw[aX];have hn':st.2.2.1=((s.length+1+j:Nat):Int):=by
     obtain⟨wait,rfl,h1,h2⟩:=hI;simp;omega
    have:eF ((),(st,()))=some (.inl ((),(st1,()))):=by
     unfold eF;dsimp only;rw[aM (by decide),af,hn',show((64:Int))=((64:Nat):Int) from rfl,xP,aM (by unfold zs at hj;omega),show nt false=true from rfl,ag,g1,aa,dh]
    rw[this];exact k1
 exact key (zs s.length) 0 st (by omega) (by simpa using hI)
theorem aeB(n:Nat)(hn:n≤1152921504606840000)(st:Gd)(hst:st.2.2.1=(n:Int))(u v:Unit):Loop (fX (u,(st,v))) ((0,()),(gy 8,()))=some (((8:Int),()),(Js n,())):=by
 obtain⟨hw,wt,m,q⟩:=st;dsimp only at hst;subst hst;have step:∀(k:Nat) (c:List Int),k<8→c.length=8→fX (u,((hw,wt,(n:Int),q),v)) (((k:Int),()),(c,()))=some (.inl ((((k+1:Nat):Int),()),(c.set (7-k) (dQ n k),()))):=by
  intro k c hk hc;unfold fX;dsimp only;have e8:nr .i64 8 (k:Int)=((8*k:Nat):Int):=by rw[C6 (by omega) (by omega)];omega
  have e7:ef .i64 7 (k:Int)=((7-k:Nat):Int):=by rw[eT (by omega) (by omega)];omega
  rw[aT (by omega),ag,e8,aH (by omega),af,e7,bE (by omega) (by omega),ag,fK c 0 (by omega),aa,aa,aa,dh,aY (by omega),su];rfl
 have:=de (f:=fX (u,((hw,wt,(n:Int),q),v))) (r:=(((8:Int),()),(Js n,()))) 8 (fun k=>(((k:Int),()),((match k with
  | 0=>gy 8
  | 1=>[0,0,0,0,0,0,0,dQ n 0]
  | 2=>[0,0,0,0,0,0,dQ n 1,dQ n 0]
  | 3=>[0,0,0,0,0,dQ n 2,dQ n 1,dQ n 0]
  | 4=>[0,0,0,0,dQ n 3,dQ n 2,dQ n 1,dQ n 0]
  | 5=>[0,0,0,dQ n 4,dQ n 3,dQ n 2,dQ n 1,dQ n 0]
  | 6=>[0,0,dQ n 5,dQ n 4,dQ n 3,dQ n 2,dQ n 1,dQ n 0]
  | 7=>[0,dQ n 6,dQ n 5,dQ n 4,dQ n 3,dQ n 2,dQ n 1,dQ n 0]
  | _=>Js n:List Int),()))) (fun k hk=>by
    rcases(by omega:k=0∨k=1∨k=2∨k=3∨k=4∨k=5∨k=6∨k=7) with rfl|rfl|rfl|rfl|rfl|rfl|rfl|rfl<;>exact(step _ _ (by omega) rfl).trans rfl)
  (by
   unfold fX;dsimp only;rw[aH (by omega),af,dR];rfl)
 exact this
theorem agI(s:List UInt8)(hn:s.length≤1048576)(st:Gd)(hI:Inv st s)(u v:Unit):pq (u,(st,v))=some ((sha s,()),(st,())):=by
 have hz:zs s.length<64:=IU _ (by decide);have hst:st.2.2.1=(s.length:Int):=by obtain⟨wait,rfl,_⟩:=hI;rfl
 obtain⟨st1,a1,a2⟩:=Mb [128] s st hI (by simp;omega);obtain⟨st2,b1,b2⟩:=abg s (by omega) st1 a2;obtain⟨st3,c1,c2⟩:=Mb (bt (Js s.length)) _ st2 b2 (by simp[bt,Js];omega);unfold pq;dsimp only;rw[ZL,show bt ([128]:List Int)=[128] from rfl,a1,aa];dsimp only;rw[b1,aa];dsimp only;rw[show([0,0,0,0,0,0,0,0]:List Int)=gy 8 from rfl,aeB s.length (by omega) st hst,aa,bq (by decide) (by decide) (by decide),ag];dsimp only;rw[show sub (Js s.length) 0 (minus 8 0)=Js s.length from rfl,c1,aa];have c2':Inv st3 (pad s):=c2;obtain⟨wait,rfl,h1,h2⟩:=c2';have CC:64≤(pad s).length:=by have:=ZK s;rw[Gf] at this⊢;omega
 simp only[CC,JZ,nZ];rw[agH _ _ (Bz _ _) _ _ () () () () () (),aa];dsimp only[sha]
theorem Ya(s:List UInt8)(hn:s.length≤1048576):En (s,())=some (sha s,()):=by
 obtain⟨st1,a1,a2⟩:=Mb s [] aew amm (by simp;omega);unfold En;dsimp only;rw[show((false,([0,0,0,0,0,0,0,0]:List Int),()),([0,0,0,0,0,0,0,0,0,0,0,0,0,0,0,0,0,0,0,0,0,0,0,0,0,0,0,0,0,0,0,0,0,0,0,0,0,0,0,0,0,0,0,0,0,0,0,0,0,0,0,0,0,0,0,0,0,0,0,0,0,0,0,0]:List Int),(0:Int),())=aew from rfl,a1,aa];dsimp only;rw[agI s hn st1 (by simpa using a2),aa]
end Go.Ge
namespace Go.Ge
variable [Lp]
abbrev anE:=(Bool×List UInt8×Int×Unit)×Gd×Gd×Unit
end Go.Ge
namespace Go.Ge
variable [Lp]
def Yb:List UInt8:=[48,49,50,51,52,53,54,55,56,57,97,98,99,100,101,102]
def hx(n:Nat):UInt8:=Yb.getD n 0
def tZ:List UInt8→List UInt8
 | []=>[]
 | b::r=>hx (b.toNat / 16)::hx (b.toNat % 16)::tZ r
theorem vr(l:List UInt8):(tZ l).length=2*l.length:=by
 induction l with
 | nil=>rfl
 | cons b r ih=>simp only[tZ,ep,ih];omega
theorem aeC(a b:List UInt8):tZ (a++b)=tZ a++tZ b:=by
 induction a with
 | nil=>rfl
 | cons x r ih=>simp only[Mm,tZ,ih]
theorem agJ:∀n:Fin 256,idx Yb (rU .u8 (n.val:Int) 4)=some (hx (n.val / 16)):=by decide +kernel
theorem agK:∀n:Fin 256,idx Yb (jA .u8 (n.val:Int) 15)=some (hx (n.val % 16)):=by decide +kernel
theorem aiD(b:UInt8):idx Yb (rU .u8 (u8 b) 4)=some (hx (b.toNat / 16)):=agJ ⟨b.toNat,b.toNat_lt⟩
theorem aiE(b:UInt8):idx Yb (jA .u8 (u8 b) 15)=some (hx (b.toNat % 16)):=agK ⟨b.toNat,b.toNat_lt⟩
theorem AO(s:List UInt8){k:Nat}(h:k<s.length):idx (ay s) (k:Int)=some (u8 s[k]):=by
 rw[yK];simp[ay,u8,h]
theorem Es(s:List UInt8){k:Nat}(h:k<s.length):idx s (k:Int)=some s[k]:=by
 rw[yK];simp[h]
theorem lB(s:List UInt8):len (ay s)=(s.length:Int):=by simp[len,ay]
theorem S4(s:List UInt8){k:Nat}(h:k<s.length):s.take (k+1)=s.take k++[s[k]]:=by
 rw[TQ,kL h];rfl
theorem ZM(s:List UInt8){k:Nat}(h:k<s.length):ay (tZ (s.take (k+1)))=(ay (tZ (s.take k))++[u8 (hx (s[k].toNat / 16))])++[u8 (hx (s[k].toNat % 16))]:=by
 rw[S4 s h,aeC,uK,pZ];rfl
theorem aeD(s:List UInt8)(hs:s.length≤1048576){k:Nat}(h:k<s.length)(x y:Int) :
  fits (plus (len (ay (tZ (s.take k)))) (len [x]))=true∧fits (plus (len (ay (tZ (s.take k))++[x])) (len [y]))=true:=by
 constructor
 ·apply dO;rw[lB,vr];simp only[cW,plus,len,ep,ig];omega
 ·apply dO;have:(ay (tZ (s.take k))++[x]).length=2*min k s.length+1:=by
   rw[iO,gD,vr,cW];rfl
  simp only[plus,len,this,ep,ig];omega
theorem ZN(s:List UInt8)(hs:s.length≤1048576):sy (s,())=some (tZ s,()):=by
 unfold sy;dsimp only;rw[dO (by simp only[len];omega),ag];have key:Loop (mH (s,())) ((0,()),(((),((),())),([],())))=some (((s.length:Int),()),(((),((),())),(ay (tZ s),()))):=by
  have:=de (f:=mH (s,())) (r:=(((s.length:Int),()),(((),((),())),(ay (tZ s),())))) s.length (fun k=>(((k:Int),()),(((),((),())),(ay (tZ (s.take k)),())))) (fun k hk=>by
   unfold mH;dsimp only;obtain⟨f1,f2⟩:=aeD s hs hk (u8 (hx (s[k].toNat / 16))) (u8 (hx (s[k].toNat % 16)));rw[lB,aT (by omega),ag,bE (by omega) (by omega),ag,AO s hk,aa,aH (by decide),af];rw[show([48,49,50,51,52,53,54,55,56,57,97,98,99,100,101,102]:List UInt8)=Yb from rfl,aiD,aa,f1,ag,aiE,aa];unfold app;rw[f2,ag,dh,aY (by omega),ZM s hk]) (by
   unfold mH;dsimp only;rw[lB,aH (by omega),af,dR,GJ])
  exact this
 rw[key,aa];dsimp only;rw[qG]
theorem amu:∀n:Fin 16,mU ((n.val:Int),())=some (u8 (hx n.val),()):=by decide +kernel
theorem Mc{n:Nat}(h:n<16):mU ((n:Int),())=some (u8 (hx n),()):=amu ⟨n,h⟩
theorem aeE:∀n:Fin 256,KZ .i64 (qW .i64 (n.val:Int)) 16=((n.val / 16:Nat):Int):=by decide +kernel
theorem aeF:∀n:Fin 256,jz (qW .i64 (n.val:Int)) 16=((n.val % 16:Nat):Int):=by decide +kernel
theorem aiF(b:UInt8):KZ .i64 (qW .i64 (u8 b)) 16=((b.toNat / 16:Nat):Int):=aeE ⟨b.toNat,b.toNat_lt⟩
theorem aiG(b:UInt8):jz (qW .i64 (u8 b)) 16=((b.toNat % 16:Nat):Int):=aeF ⟨b.toNat,b.toNat_lt⟩
theorem Yc(s:List UInt8)(hs:s.length≤1048576):yO (s,())=some (tZ s,()):=by
 unfold yO;have key:Loop (oA (s,())) (((),(0,())),([],()))=some (((),((s.length:Int),())),(ay (tZ s),())):=by
  have:=de (f:=oA (s,())) (r:=(((),((s.length:Int),())),(ay (tZ s),()))) s.length (fun k=>(((),((k:Int),())),(ay (tZ (s.take k)),()))) (fun k hk=>by
   unfold oA;dsimp only;obtain⟨f1,f2⟩:=aeD s hs hk (u8 (hx (s[k].toNat / 16))) (u8 (hx (s[k].toNat % 16)));have hb:=s[k].toNat_lt;rw[show len s=(s.length:Int) from rfl,aT (by omega),ag,Es s hk,aa,aM (by decide),af,aiF,Mc (by omega),aa];dsimp only;rw[f1,ag,aa,af,aiG,Mc (by omega),aa];dsimp only;unfold app;rw[f2,ag,dh,aY (by omega),ZM s hk]) (by
   unfold oA;dsimp only;rw[show len s=(s.length:Int) from rfl,aH (by omega),af,dR,GJ])
  exact this
 rw[key,aa];dsimp only;rw[qG]
end Go.Ge
namespace Go.Ge
variable [Lp]
def hv(c:UInt8):Int:=Lib.indexByte Yb c
theorem hvT:∀n:Fin 256,(hv (UInt8.ofNat n.val)=-1∧∀j:Fin 16,hx j.val≠UInt8.ofNat n.val)∨∃j:Fin 16,hv (UInt8.ofNat n.val)=(j.val:Int)∧hx j.val=UInt8.ofNat n.val∧∀i:Fin 16,i.val<j.val→hx i.val≠UInt8.ofNat n.val:=by decide +kernel
theorem NR(c:UInt8):(hv c=-1∧∀j:Nat,j<16→hx j≠c)∨∃j:Nat,j<16∧hv c=(j:Int)∧hx j=c∧∀i:Nat,i<j→hx i≠c:=by
 have h:=hvT ⟨c.toNat,c.toNat_lt⟩;have e:UInt8.ofNat c.toNat=c:=by simp
 simp only[e] at h;rcases h with ⟨h1,h2⟩|⟨j,h1,h2,h3⟩
 ·exact .inl ⟨h1,fun j hj=>h2 ⟨j,hj⟩⟩
 ·exact .inr ⟨j.val,j.isLt,h1,h2,fun i hi=>h3 ⟨i,Nat.lt_trans hi j.isLt⟩ hi⟩
theorem ahK:∀n:Fin 16,hv (hx n.val)=(n.val:Int):=by decide +kernel
theorem Yd{a b:UInt8}(h:u8 a=u8 b):a=b:=by
 have:a.toNat=b.toNat:=by unfold u8 at h;omega
 exact UInt8.toNat_inj.1 this
theorem Rc(c:UInt8):qj (u8 c,())=some (hv c,()):=by
 unfold qj;have step:∀(r k:Nat),k<16→hx k≠c→ez (u8 c,()) (((r:Int),((k:Int),())),())=some (.inl (((r:Int),(((k+1:Nat):Int),())),())):=fun r k hk hne=>by
  unfold ez;dsimp only;rw[aT (by omega),ag,Mc hk,aa,aM (fun e=>hne (Yd e)),af,aY (by omega)]
 rcases NR c with ⟨h1,h2⟩|⟨j,hj,h1,h2,h3⟩
 ·have:=de (f:=ez (u8 c,())) (r:=(0,(((0:Nat):Int),(((16:Nat):Int),())),())) 16 (fun k=>((((0:Nat):Int),((k:Int),())),())) (fun k hk=>step 0 k hk (h2 k hk)) (by
   unfold ez;dsimp only;rw[aH (by decide),af])
  rw[show Loop (ez (u8 c,())) ((0,(0,())),())=_ from this,aa];dsimp only;rw[show fT 0 0=true from rfl,ag,h1]
 ·have:=de (f:=ez (u8 c,())) (r:=(1,((j:Int),((j:Int),())),())) j (fun k=>((((0:Nat):Int),((k:Int),())),())) (fun k hk=>step 0 k (by omega) (h3 k hk)) (by
   unfold ez;dsimp only;rw[aT (by omega),ag,Mc hj,aa,aP (by rw[h2]),ag])
  rw[show Loop (ez (u8 c,())) ((0,(0,())),())=_ from this,aa];dsimp only;rw[show fT 1 0=false from rfl,af,h1]
def oG:List UInt8→Option (List UInt8)
 | []=>some []
 | [_]=>none
 | a::b::r=>if hv a<0∨hv b<0 then none else(oG r).map (UInt8.ofNat (16*(hv a).toNat+(hv b).toNat)::·)
theorem akr:∀(i j:Fin 16),qW .u8 (aL .i64 (nr .i64 16 (i.val:Int)) (j.val:Int))=u8 (UInt8.ofNat (16*i.val+j.val)):=by decide +kernel
theorem VB(l:List UInt8)(k:Nat)(h:k≤l.length):sub l (k:Int) (minus (len l) (k:Int))=l.drop k:=by
 unfold sub minus len;rw[u6,GG (by rw[qV];omega)]
def ans:Option (List UInt8)→List UInt8×Bool×Unit
 | some l=>(l,(true,()))
 | none=>([],(false,()))
theorem Ye:∀(n:Nat) (s:List UInt8),s.length≤n→s.length % 2=1→oG s=none:=by
 intro n;induction n using Nat.strongRecOn with
 | _ n ih =>
   intro s hn h
   match s,hn,h with
   | [],_,h=>simp at h
   | [_],_,_=>rfl
   | a::b::r,hn,h =>
     simp only[ep] at hn h;simp only[oG];split
     ·rfl
     ·rw[ih r.length (by omega) r (cU _) (by omega)];rfl
end Go.Ge
namespace Go.Ge
variable [Lp]
theorem xQ{a b:Nat}(h:a+b<4611686018427387904):aL .i64 (a:Int) (b:Int)=((a+b:Nat):Int):=by
 rw[fJ (by omega) (by omega)];omega
theorem PV(s:List UInt8)(hs:s.length≤1048576):∀(n i:Nat) (acc:List Int),s.length-i≤n→i≤s.length→(s.length-i) % 2=0→acc.length≤i →
  ∃q,Loop (iS (s,())) ((([]:List UInt8),(false,((),((i:Int),())))),(acc,()))=some q∧(match oG (s.drop i) with
   | some l=>q.1=0∧q.2.2.1=acc++ay l
   | none=>q.1=1∧q.2.1.1=[]∧q.2.1.2.1=false):=by
 intro n;induction n using Nat.strongRecOn with
 | _ n ih =>
   intro i acc hn hi h2 hb;rw[aX];by_cases hlt:i<s.length
   ·have h1:i+1<s.length:=by omega
    have hd:s.drop i=s[i]::s[i+1]::s.drop (i+2):=by
     rw[CD hlt,CD h1]
    rw[hd];generalize ha:s[i]=a;generalize hb':s[i+1]=b;have e0:iS (s,()) ((([]:List UInt8),(false,((),((i:Int),())))),(acc,()))=(if hv a<0∨hv b<0 then some (.inr (1,(([],(false,((),((i:Int),())))),(acc,()))))
      else some (.inl ((([]:List UInt8),(false,((),(((i+2:Nat):Int),())))),(acc++[u8 (UInt8.ofNat (16*(hv a).toNat+(hv b).toNat))],())))):=by
     unfold iS;dsimp only;rw[aY (by omega),aT (by simp only[len];omega),ag,Es s hlt,aa,ha,Rc,aa,Es s h1,aa,hb',Rc,aa];dsimp only;by_cases hva:hv a<0
     ·rw[aT hva,aJ,af,ag,bu (.inl hva)]
     ·rw[aH (by omega),aF,ag];by_cases hvb:hv b<0
      ·rw[aT hvb,ag,bu (.inr hvb)]
      ·rw[aH (by omega),af,br (by omega)];have hp:qW .u8 (aL .i64 (nr .i64 16 (hv a)) (hv b))=u8 (UInt8.ofNat (16*(hv a).toNat+(hv b).toNat)):=by
        rcases NR a with ⟨h,_⟩|⟨j,hj,h,_⟩
        ·omega
        rcases NR b with ⟨h',_⟩|⟨k,hk,h',_⟩
        ·omega
        rw[h,h'];exact akr ⟨j,hj⟩ ⟨k,hk⟩
       rw[hp,dO (by simp only[plus,len,ep,ig];omega),ag,show aL .i64 (i:Int) 2=((i+2:Nat):Int) from xQ (b:=2) (by omega)];rfl
    rw[e0];by_cases hab:hv a<0∨hv b<0
    ·rw[bu hab];refine⟨_,rfl,?_⟩;simp only[oG,bu hab];exact⟨trivial,trivial,trivial⟩
    ·rw[br hab];obtain⟨q,q1,q2⟩:=ih (s.length-(i+2)) (by omega) (i+2) (acc++[u8 (UInt8.ofNat (16*(hv a).toNat+(hv b).toNat))]) (cU _) (by omega) (by omega) (by simp only[iO,ep,ig];omega);refine⟨q,q1,?_⟩;simp only[oG,br hab];cases hu:oG (s.drop (i+2)) with
     | none=>rw[hu] at q2;exact q2
     | some l =>
       rw[hu] at q2;refine⟨q2.1,?_⟩;rw[q2.2,pZ];rfl
   ·have:i=s.length:=by omega
    subst this;rw[T8];refine⟨(0,(([],(false,((),((s.length:Int),())))),(acc,()))),?_,rfl,by simp[ay]⟩;unfold iS;dsimp only;rw[aY (by omega),aH (by simp only[len];omega),af];rfl
theorem HL(s:List UInt8)(hs:s.length≤1048576):qk (s,())=some (ans (oG s)):=by
 unfold qk;dsimp only;rw[aM (by decide),af,show jz (len s) 2=((s.length % 2:Nat):Int) from xP s.length 2];rcases Nat.mod_two_eq_zero_or_one s.length with h|h
 ·rw[h,show bI ((0:Nat):Int) 1=false from rfl,af];obtain⟨q,q1,q2⟩:=PV s hs s.length 0 [] (by omega) (by omega) (by simpa using h) (by simp);rw[show Loop (iS (s,())) (([],(false,((),(0,())))),([],()))=some q from q1,aa];rw[FO] at q2;cases hu:oG s with
  | none =>
    rw[hu] at q2;rw[q2.1,show fT 1 0=false from rfl,af,q2.2.1,q2.2.2];rfl
  | some l =>
    rw[hu] at q2;rw[q2.1,show fT 0 0=true from rfl,ag,q2.2,zu,qG];rfl
 ·rw[h,show bI ((1:Nat):Int) 1=true from rfl,ag,Ye s.length s (cU _) h];rfl
theorem Re:∀l:List UInt8,oG (tZ l)=some l:=by
 intro l;induction l with
 | nil=>rfl
 | cons b r ih =>
   have hb:=b.toNat_lt;have h1:=ahK ⟨b.toNat / 16,by omega⟩;have h2:=ahK ⟨b.toNat % 16,by omega⟩;simp only at h1 h2;simp only[tZ,oG,h1,h2,ih,Mo];rw[br (by omega)]
   congr 2
   rw[u6,u6,show 16*(b.toNat / 16)+b.toNat % 16=b.toNat by omega];simp
end Go.Ge
