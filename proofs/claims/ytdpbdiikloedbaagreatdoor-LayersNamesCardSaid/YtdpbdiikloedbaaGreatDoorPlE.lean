/- Plain laws of what the functions compute: part 5. -/
import Derived.Test.YtdpbdiikloedbaaGreatDoorPlD
import Derived.Test.YtdpbdiikloedbaaGreatDoorGeI
set_option linter.unusedVariables false
set_option linter.unusedSectionVars false
set_option linter.unusedSimpArgs false
noncomputable section
namespace Go.Ge
variable [Lp]
set_option maxRecDepth 100000
abbrev br:=((List (Sb×(List Sb)×Sb×Sb×Sb×(List (Sb×Sb×Sb×Unit))×Unit))×(List (Sb×(List Sb)×Sb×Sb×(List (Sb×Sb×Sb×Unit))×Unit))×(List (Sb×Sb×(List Sb)×Sb×Int×Int×Bool×Unit))×(List Sb)×(List (Sb×Int×Unit))×Unit)
abbrev aE:=(Sb×Sb×(List Sb)×Sb×Int×Int×Bool×Unit)
abbrev aQ:=(Sb×Int×Unit)
abbrev cB:=(Int×Sb×Int×Sb×Unit)
abbrev fX:=(Sb×Int×Int×Sb×Sb×Unit)
abbrev dQ:=(Nat×(Int×Int×Unit)×Sb×Unit)
abbrev dR:=((Int×Int×Unit)×Sb×Unit)
abbrev BR:=(Sb×(List Sb)×Sb×Sb×Sb×(List (Sb×Sb×Sb×Unit))×Unit)
abbrev fG:=(Sb×Int×Int×Unit)
abbrev fh:=(Sb×(List Sb)×Unit)
abbrev CG:=(Sb×(List Sb)×Sb×Sb×(List (Sb×Sb×Sb×Unit))×Unit)
abbrev lz:=((List aE)×Int×Unit×Sb×Int×Unit)
abbrev bU:=(Int×Int×Unit)
abbrev oa:=((List aE)×Int×Unit×Sb×Unit)
abbrev hY:=(Int×Sb×Int×Unit)
abbrev ob:=(Nat×bU×Unit×Sb×Unit)
abbrev F3:=((List UInt8)×((List UInt8)×((List (List UInt8))×((List UInt8)×(Int×(Int×(Bool×Unit)))))))
abbrev CI:=((Unit×Unit×Bool×Int×Unit)×(List Sb)×(List aE)×Unit)
abbrev oc:=(bU×Unit×Sb×Unit)
abbrev F4:=((Int×Int×Unit×Unit)×Sb×(List aQ)×Unit)
abbrev ju:=(Nat×fG×Unit)
def dM(l:List (List UInt8))(x:(Int×((List (List UInt8))×Unit))):Option (List (List UInt8)):=JZ l x.1 x.2.1
def cE(l:List F3)(x:(Int×((List F3)×Unit))):Option (List F3):=JZ l x.1 x.2.1
def fH(l:List (List UInt8))(x:(Int×(Int×Unit))):Option (List (List UInt8)):=aay l x.1 x.2.1
def dS(l:List F3)(x:(Int×(Int×Unit))):Option (List F3):=aay l x.1 x.2.1
def dU(l:List ((List UInt8)×(Int×Unit)))(x:(Int×((List ((List UInt8)×(Int×Unit)))×Unit))):Option (List ((List UInt8)×(Int×Unit))):=JZ l x.1 x.2.1
def nG(x:Unit):Option (Sb×Unit) :=
 aa (mE (([(0:UInt8)]:List (UInt8)),((1024:Int),()))) (fun(y1:Sb×Unit)=>some (y1.1,()))
def jN(x:(List aE)×Sb×Unit)(y2:lz×(List aE)×Unit):Option ((lz×(List aE)×Unit)⊕(Nat×lz×(List aE)×Unit)) :=
 aq (aX y2.1.2.2.2.2.1 (@len aE x.1))
 (aa (@idx aE x.1 y2.1.2.2.2.2.1) (fun(y3:Sb×Sb×(List Sb)×Sb×Int×Int×Bool×Unit)=>aq (nt (bX y3.1 y2.1.2.2.2.1))
 (some (Sum.inl ((y2.1.1,(y2.1.2.1,((),(y2.1.2.2.2.1,(aD IntKind.i64 y2.1.2.2.2.2.1 (1:Int),()))))),(y2.2.1,())):((lz×(List aE)×Unit))⊕((Nat×lz×(List aE)×Unit))))
 (aq (bI (@len aE y2.2.1) (16:Int))
 (some (Sum.inr ((1:Nat),((([]:List aE),((5:Int),((),(y2.1.2.2.2.1,(y2.1.2.2.2.2.1,()))))),(y2.2.1,()))):((lz×(List aE)×Unit))⊕((Nat×lz×(List aE)×Unit))))
 (aa (bD (y3.2.2.1,())) (fun(y4:(List Sb)×Unit)=>aq (fits (plus (@len aE y2.2.1) (@len aE ([(y3.1,(y3.2.1,(y4.1,y3.2.2.2)))]:List aE))))
 (aq (bX y3.2.1 ([]:List (UInt8)))
 (some (Sum.inr ((2:Nat),((y2.1.1,(y2.1.2.1,((),(y2.1.2.2.2.1,(y2.1.2.2.2.2.1,()))))),(@app aE y2.2.1 ([(y3.1,(y3.2.1,(y4.1,y3.2.2.2)))]:List aE),()))):((lz×(List aE)×Unit))⊕((Nat×lz×(List aE)×Unit))))
 (some (Sum.inr ((3:Nat),((y2.1.1,(y2.1.2.1,((),(y3.2.1,(y2.1.2.2.2.2.1,()))))),(@app aE y2.2.1 ([(y3.1,(y3.2.1,(y4.1,y3.2.2.2)))]:List aE),()))):((lz×(List aE)×Unit))⊕((Nat×lz×(List aE)×Unit)))))
 none)))))
 (some (Sum.inr ((0:Nat),((y2.1.1,(y2.1.2.1,((),(y2.1.2.2.2.1,(y2.1.2.2.2.2.1,()))))),(y2.2.1,()))):((lz×(List aE)×Unit))⊕((Nat×lz×(List aE)×Unit))))
def mN(x:(List aE)×Sb×Unit)(y1:oa×(List aE)×Unit):Option ((oa×(List aE)×Unit)⊕(Nat×oa×(List aE)×Unit)) :=
 aa (Loop (jN x) ((y1.1.1,(y1.1.2.1,((),(y1.1.2.2.2.1,((0:Int),()))))),(y1.2.1,()))) (fun(y2:Nat×lz×(List aE)×Unit)=>aq (eY y2.1 (0:Nat))
 (some (Sum.inr ((0:Nat),((([]:List aE),((3:Int),((),(y2.2.1.2.2.2.1,())))),(y2.2.2.1,()))):((oa×(List aE)×Unit))⊕((Nat×oa×(List aE)×Unit))))
 (aq (eY (@Nat.rec (fun(y3:Nat)=>Nat) (0:Nat) (fun(y3:Nat)=>fun(y4:Nat)=>y3) y2.1) (0:Nat))
 (some (Sum.inr ((0:Nat),((y2.2.1.1,(y2.2.1.2.1,((),(y2.2.1.2.2.2.1,())))),(y2.2.2.1,()))):((oa×(List aE)×Unit))⊕((Nat×oa×(List aE)×Unit))))
 (aq (eY (@Nat.rec (fun(y3:Nat)=>Nat) (0:Nat) (fun(y3:Nat)=>fun(y4:Nat)=>y3) (@Nat.rec (fun(y3:Nat)=>Nat) (0:Nat) (fun(y3:Nat)=>fun(y4:Nat)=>y3) y2.1)) (0:Nat))
 (some (Sum.inr ((1:Nat),((y2.2.1.1,(y2.2.1.2.1,((),(y2.2.1.2.2.2.1,())))),(y2.2.2.1,()))):((oa×(List aE)×Unit))⊕((Nat×oa×(List aE)×Unit))))
 (some (Sum.inl ((y2.2.1.1,(y2.2.1.2.1,((),(y2.2.1.2.2.2.1,())))),(y2.2.2.1,())):((oa×(List aE)×Unit))⊕((Nat×oa×(List aE)×Unit)))))))
def nH(x:(List aE)×Sb×Unit):Option ((List aE)×Int×Unit) :=
 aa (Loop (mN x) ((([]:List aE),((0:Int),((),(x.2.1,())))),(([]:List aE),()))) (fun(y1:Nat×oa×(List aE)×Unit)=>aq (eY y1.1 (0:Nat))
 (some (y1.2.1.1,(y1.2.1.2.1,())))
 (some (y1.2.2.1,((0:Int),()))))
def kO(x:br×Unit):Option ((List Sb)×Unit) :=
 aq (inside (0:Int) (@len aE x.1.2.2.1) (@len aE x.1.2.2.1))
 (aq (fits (@len aE x.1.2.2.1))
 (some (@over Sb (@jV Sb (@len aE x.1.2.2.1) ([]:List (UInt8))) (0:Int) (@iB Sb x.1.2.2.2.1 (@len Sb (@jV Sb (@len aE x.1.2.2.1) ([]:List (UInt8))))),()))
 none)
 none
def tg(x:aE×Unit):Option (Sb×Unit) :=
 some (x.1.1,())
def Ie(x:br×Sb×Unit)(y1:bU×Unit×Sb×Unit):Option (oc⊕ob) :=
 aq (aX y1.1.2.1 (@len aE x.1.2.2.1))
 (aa (@idx aE x.1.2.2.1 y1.1.2.1) (fun(y2:Sb×Sb×(List Sb)×Sb×Int×Int×Bool×Unit)=>aa (tg (y2,())) (fun(y3:Sb×Unit)=>aq (bX y3.1 y1.2.2.1)
 (some (Sum.inr ((1:Nat),((y1.1.2.1,(y1.1.2.1,())),((),(y1.2.2.1,())))):(oc)⊕(ob)))
 (some (Sum.inl ((y1.1.1,(aD IntKind.i64 y1.1.2.1 (1:Int),())),((),(y1.2.2.1,()))):(oc)⊕(ob))))))
 (some (Sum.inr ((0:Nat),((y1.1.1,(y1.1.2.1,())),((),(y1.2.2.1,())))):(oc)⊕(ob)))
def xM(x:br×Sb×Unit):Option (aE×Sb×Bool×Unit) :=
 aa (aa (Loop (Ie x) (((0:Int),((0:Int),())),((),(x.2.1,())))) (fun(y1:Nat×bU×Unit×Sb×Unit)=>aq (eY y1.1 (0:Nat))
 (some (((-1:Int),()),((),(y1.2.2.2.1,()))))
 (some ((y1.2.1.1,()),((),(y1.2.2.2.1,())))))) (fun(y1:(Int×Unit)×Unit×Sb×Unit)=>aq (aX y1.1.1 (0:Int))
 (some ((([]:List (UInt8)),(([]:List (UInt8)),(([]:List Sb),(([]:List (UInt8)),((0:Int),((0:Int),(false,()))))))),(([]:List (UInt8)),(false,()))))
 (aa (@idx aE x.1.2.2.1 y1.1.1) (fun(y2:Sb×Sb×(List Sb)×Sb×Int×Int×Bool×Unit)=>aa (bD (y2.2.2.1,())) (fun(y3:(List Sb)×Unit)=>aa (kO (x.1,())) (fun(y4:(List Sb)×Unit)=>aa (@idx Sb y4.1 y1.1.1) (fun(y5:List (UInt8))=>some ((y2.1,(y2.2.1,(y3.1,y2.2.2.2))),(y5,(true,())))))))))
def Kn(y1:(List aE)×Int×Unit)(y2:bU×Unit):Option ((bU×Unit)⊕(bU×Unit)) :=
 @cM (bU×Unit) (aq (aX y2.1.1 y2.1.2.1)
 (aa (@idx aE y1.1 y2.1.2.1) (fun(y3:Sb×Sb×(List Sb)×Sb×Int×Int×Bool×Unit)=>aa (@idx aE y1.1 y2.1.1) (fun(y4:Sb×Sb×(List Sb)×Sb×Int×Int×Bool×Unit)=>aa (@idx aE y1.1 y2.1.1) (fun(y5:Sb×Sb×(List Sb)×Sb×Int×Int×Bool×Unit)=>none))))
 (some (Sum.inr ((0:Nat),((y2.1.1,(y2.1.2.1,())),())):((bU×Unit))⊕((Nat×bU×Unit)))))
def Ko(x:br×Sb×Unit)(y1:(List aE)×Int×Unit)(y3:(Unit×Int×Unit)×(List Sb)×Unit):Option (((Unit×Int×Unit)×(List Sb)×Unit)⊕((Unit×Int×Unit)×(List Sb)×Unit)) :=
 @cM ((Unit×Int×Unit)×(List Sb)×Unit) (aq (aX y3.1.2.1 (@len aE y1.1))
 (aa (@idx aE y1.1 y3.1.2.1) (fun(y4:Sb×Sb×(List Sb)×Sb×Int×Int×Bool×Unit)=>aa (xM (x.1,(y4.1,()))) (fun(y5:aE×Sb×Bool×Unit)=>aq (fits (plus (@len Sb y3.2.1) (@len Sb ([y5.2.1]:List Sb))))
 (some (Sum.inl (((),(aD IntKind.i64 y3.1.2.1 (1:Int),())),(@app Sb y3.2.1 ([y5.2.1]:List Sb),())):(((Unit×Int×Unit)×(List Sb)×Unit))⊕((Nat×(Unit×Int×Unit)×(List Sb)×Unit))))
 none)))
 (some (Sum.inr ((0:Nat),(((),(y3.1.2.1,())),(y3.2.1,()))):(((Unit×Int×Unit)×(List Sb)×Unit))⊕((Nat×(Unit×Int×Unit)×(List Sb)×Unit)))))
def F5(x:br×Sb×Unit):Option ((List fX)×Int×Unit) :=
 aa (nH (x.1.2.2.1,(x.2.1,()))) (fun(y1:(List aE)×Int×Unit)=>aq (nt (bI y1.2.1 (0:Int)))
 (some (([]:List fX),(y1.2.1,())))
 (aa (Loop (Kn y1) (((0:Int),(cL IntKind.i64 (@len aE y1.1) (1:Int),())),())) (fun(y2:bU×Unit)=>aa (Loop (Ko x y1) (((),((0:Int),())),(([]:List Sb),()))) (fun(y3:(Unit×Int×Unit)×(List Sb)×Unit)=>aa (Dl (y3.2.1,())) (fun(y4:(List fX)×Int×Unit)=>some (y4.1,(y4.2.1,())))))))
def BS(x:br×Sb×Unit):Option ((List fX)×Int×Unit) :=
 aq (bX x.2.1 ([]:List (UInt8)))
 (some (([]:List fX),((0:Int),())))
 (aa (F5 (x.1,(x.2.1,()))) (fun(y1:(List fX)×Int×Unit)=>some (y1.1,(y1.2.1,()))))
def fI(x:Int×Unit):Option (cB×Unit) :=
 some ((x.1,(([]:List (UInt8)),((0:Int),(([]:List (UInt8)),())))),())
def jv(x:(List Sb)×Int×Sb×Unit):Option ((List Sb)×Unit) :=
 aq (fits (@len Sb x.1))
 (aa (dM x.1 (x.2.1,(([x.2.2.1]:List Sb),()))) (fun(y1:List Sb)=>some (y1,())))
 none
def oD(x:(List aE)×Unit):Option ((List aE)×Unit) :=
 bif fits (len x.1) then some (x.1,()) else none
def gw(x:(List aE)×Int×aE×Unit):Option ((List aE)×Unit) :=
 aq (fits (@len aE x.1))
 (aa (cE x.1 (x.2.1,(([x.2.2.1]:List aE),()))) (fun(y1:List aE)=>some (y1,())))
 none
def oe(x:br×aE×Sb×Unit)(y1:bU×aE×Unit):Option ((bU×aE×Unit)⊕(Nat×bU×aE×Unit)) :=
 aq (aX y1.1.2.1 (@len aE x.1.2.2.1))
 (aa (@idx aE x.1.2.2.1 y1.1.2.1) (fun(y2:Sb×Sb×(List Sb)×Sb×Int×Int×Bool×Unit)=>aq (nt (ql y2.1 y1.2.1.1))
 (some (Sum.inr ((1:Nat),((y1.1.2.1,(y1.1.2.1,())),(y1.2.1,()))):((bU×aE×Unit))⊕((Nat×bU×aE×Unit))))
 (some (Sum.inl ((y1.1.1,(aD IntKind.i64 y1.1.2.1 (1:Int),())),(y1.2.1,())):((bU×aE×Unit))⊕((Nat×bU×aE×Unit))))))
 (some (Sum.inr ((0:Nat),((y1.1.1,(y1.1.2.1,())),(y1.2.1,()))):((bU×aE×Unit))⊕((Nat×bU×aE×Unit))))
def pZ(x:br×aE×Sb×Unit):Option (br×Unit) :=
 aa (aa (Loop (oe x) (((0:Int),((0:Int),())),(x.2.1,()))) (fun(y1:Nat×bU×aE×Unit)=>aq (eY y1.1 (0:Nat))
 (some (((-1:Int),()),(y1.2.2.1,())))
 (some ((y1.2.1.1,()),(y1.2.2.1,()))))) (fun(y1:(Int×Unit)×aE×Unit)=>aa (kO (x.1,())) (fun(y2:(List Sb)×Unit)=>aa (jv (y2.1,(((aq (aX y1.1.1 (0:Int))
 ((@len aE x.1.2.2.1,()),())
 ((y1.1.1,()),())).1).1,(x.2.2.1,())))) (fun(y3:(List Sb)×Unit)=>aa (gw (x.1.2.2.1,(((aq (aX y1.1.1 (0:Int))
 ((@len aE x.1.2.2.1,()),())
 ((y1.1.1,()),())).1).1,(y1.2.1,())))) (fun(y4:(List aE)×Unit)=>some ((x.1.1,(x.1.2.1,(y4.1,(y3.1,x.1.2.2.2.2)))),())))))
def cz(x:br×Sb×(List Sb)×Sb×Int×Unit):Option (br×cB×Unit) :=
 aa (aa (nC (x.2.2.1,())) (fun(y1:Int×Unit)=>aq (nt (bI y1.1 (0:Int)))
 (some ((y1.1,()),(((),((),((),((),((),((),((),()))))))),(x.2.2.1,(x.2.2.2.1,(x.2.1,(x.1,(([]:List (UInt8)),(x.2.2.2.2.1,(([]:List (UInt8)),(([]:List fX),())))))))))))
 (aa (aq (bX x.2.2.2.1 ([]:List (UInt8)))
 (some (((0:Int),()),(x.2.2.2.1,())))
 (aa (Aw (x.2.2.2.1,())) (fun(y2:Int×Unit)=>some ((y2.1,()),(x.2.2.2.1,()))))) (fun(y2:(Int×Unit)×Sb×Unit)=>aq (nt (bI y2.1.1 (0:Int)))
 (some ((y2.1.1,()),(((),((),((),((),((),((),((),()))))))),(x.2.2.1,(y2.2.1,(x.2.1,(x.1,(([]:List (UInt8)),(x.2.2.2.2.1,(([]:List (UInt8)),(([]:List fX),())))))))))))
 (aa (aq (nt (bX x.2.1 ([]:List (UInt8))))
 (aa (fC (x.1,(x.2.1,()))) (fun(y3:Sb×Int×Unit)=>some ((y3.2.1,()),(y3.1,()))))
 (some (((0:Int),()),(([]:List (UInt8)),())))) (fun(y3:(Int×Unit)×Sb×Unit)=>aq (nt (bI y3.1.1 (0:Int)))
 (some ((y3.1.1,()),(((),((),((),((),((),((),((),()))))))),(x.2.2.1,(y2.2.1,(x.2.1,(x.1,(y3.2.1,(x.2.2.2.2.1,(([]:List (UInt8)),(([]:List fX),())))))))))))
 (aa (jK (x.1,())) (fun(y4:(List fh)×Unit)=>aa (uD (y4.1,(([]:List (UInt8)),(x.2.2.1,())))) (fun(y5:Int×Unit)=>aq (nt (bI y5.1 (0:Int)))
 (some ((y5.1,()),(((),((),((),((),((),((),((),()))))))),(x.2.2.1,(y2.2.1,(x.2.1,(x.1,(y3.2.1,(x.2.2.2.2.1,(([]:List (UInt8)),(([]:List fX),())))))))))))
 (aa (jK (x.1,())) (fun(y6:(List fh)×Unit)=>aa (pT (y6.1,(x.2.2.2.2.1,()))) (fun(y7:Sb×Int×Unit)=>aq (nt (bI y7.2.1 (0:Int)))
 (some ((y7.2.1,()),(((),((),((),((),((),((),((),()))))))),(x.2.2.1,(y2.2.1,(x.2.1,(x.1,(y3.2.1,(x.2.2.2.2.1,(y7.1,(([]:List fX),())))))))))))
 (aa (aa (nH (x.1.2.2.1,(y3.2.1,()))) (fun(y8:(List aE)×Int×Unit)=>aq (aq (aq (nt (bX y3.2.1 ([]:List (UInt8))))
 (bI y8.2.1 (0:Int))
 false)
 (cK (16:Int) (@len aE y8.1))
 false)
 (some (((5:Int),()),(y3.2.1,(x.1,()))))
 (some (((0:Int),()),(y3.2.1,(x.1,())))))) (fun(y8:(Int×Unit)×Sb×br×Unit)=>aq (nt (bI y8.1.1 (0:Int)))
 (some ((y8.1.1,()),(((),((),((),((),((),((),((),()))))))),(x.2.2.1,(y2.2.1,(x.2.1,(y8.2.2.1,(y8.2.1,(x.2.2.2.2.1,(y7.1,(([]:List fX),())))))))))))
 (aa (aq (bX y2.2.1 ([]:List (UInt8)))
 (some (((0:Int),()),(([]:List fX),(y8.2.1,(y8.2.2.1,(y2.2.1,()))))))
 (aa (BS (y8.2.2.1,(y8.2.1,()))) (fun(y9:(List fX)×Int×Unit)=>aa (aq (bI y9.2.1 (0:Int))
 (aa (tf (y9.1,(y2.2.1,()))) (fun(qv:(List fX)×Int×Unit)=>some ((qv.2.1,()),())))
 (some ((y9.2.1,()),()))) (fun(qv:(Int×Unit)×Unit)=>some ((qv.1.1,()),(y9.1,(y8.2.1,(y8.2.2.1,(y2.2.1,()))))))))) (fun(y9:(Int×Unit)×(List fX)×Sb×br×Sb×Unit)=>aq (nt (bI y9.1.1 (0:Int)))
 (some ((y9.1.1,()),(((),((),((),((),((),((),((),()))))))),(x.2.2.1,(y9.2.2.2.2.1,(x.2.1,(y9.2.2.2.1,(y9.2.2.1,(x.2.2.2.2.1,(y7.1,(y9.2.1,())))))))))))
 (some (((0:Int),()),(((),((),((),((),((),((),((),()))))))),(x.2.2.1,(y9.2.2.2.2.1,(x.2.1,(y9.2.2.2.1,(y9.2.2.1,(x.2.2.2.2.1,(y7.1,(y9.2.1,()))))))))))))))))))))))))))) (fun(y1:(Int×Unit)×(Unit×Unit×Unit×Unit×Unit×Unit×Unit×Unit)×(List Sb)×Sb×Sb×br×Sb×Int×Sb×(List fX)×Unit)=>aq (nt (bI y1.1.1 (0:Int)))
 (aa (fI (y1.1.1,())) (fun(y2:cB×Unit)=>some (y1.2.2.2.2.2.1,(y2.1,()))))
 (aa (aq (bX y1.2.2.2.1 ([]:List (UInt8)))
 (aa (nG ()) (fun(y2:Sb×Unit)=>some ((),(y2.1,()))))
 (some ((),(y1.2.2.2.1,())))) (fun(y2:Unit×Sb×Unit)=>aq (fits (plus (@len Sb ([]:List Sb)) (@len Sb y1.2.2.1)))
 (aa (wB (y2.2.1,())) (fun(y3:Sb×Unit)=>aa (pZ (y1.2.2.2.2.2.1,((y1.2.2.2.2.2.2.2.2.1,(y1.2.2.2.2.2.2.1,(@app Sb ([]:List Sb) y1.2.2.1,(y3.1,(@len UInt8 y2.2.1,((0:Int),(true,()))))))),(y2.2.1,())))) (fun(y4:br×Unit)=>some (y4.1,(((0:Int),(y1.2.2.2.2.2.2.2.2.1,((0:Int),(([]:List (UInt8)),())))),())))))
 none)))
def Kp(x:br×Sb×Unit)(y1:bU×Sb×Unit):Option (dR⊕dQ) :=
 aq (aX y1.1.2.1 (@len aE x.1.2.2.1))
 (aa (@idx aE x.1.2.2.1 y1.1.2.1) (fun(y2:Sb×Sb×(List Sb)×Sb×Int×Int×Bool×Unit)=>aq (bX y2.2.1 y1.2.1)
 (some (Sum.inr ((1:Nat),((y1.1.2.1,(y1.1.2.1,())),(y1.2.1,()))):(dR)⊕(dQ)))
 (some (Sum.inl ((y1.1.1,(aD IntKind.i64 y1.1.2.1 (1:Int),())),(y1.2.1,())):(dR)⊕(dQ)))))
 (some (Sum.inr ((0:Nat),((y1.1.1,(y1.1.2.1,())),(y1.2.1,()))):(dR)⊕(dQ)))
def Kq(x:br×Sb×Unit)(y2:bU×Sb×Unit):Option (dR⊕dQ) :=
 aq (aX y2.1.2.1 (@len CG x.1.2.1))
 (aa (@idx CG x.1.2.1 y2.1.2.1) (fun(y3:Sb×(List Sb)×Sb×Sb×(List (Sb×Sb×Sb×Unit))×Unit)=>aq (bX y3.2.2.1 y2.2.1)
 (some (Sum.inr ((1:Nat),((y2.1.2.1,(y2.1.2.1,())),(y2.2.1,()))):(dR)⊕(dQ)))
 (some (Sum.inl ((y2.1.1,(aD IntKind.i64 y2.1.2.1 (1:Int),())),(y2.2.1,())):(dR)⊕(dQ)))))
 (some (Sum.inr ((0:Nat),((y2.1.1,(y2.1.2.1,())),(y2.2.1,()))):(dR)⊕(dQ)))
def Kr(x:br×Sb×Unit)(y3:bU×Sb×Unit):Option (dR⊕dQ) :=
 aq (aX y3.1.2.1 (@len BR x.1.1))
 (aa (@idx BR x.1.1 y3.1.2.1) (fun(y4:Sb×(List Sb)×Sb×Sb×Sb×(List (Sb×Sb×Sb×Unit))×Unit)=>aq (bX y4.2.2.2.1 y3.2.1)
 (some (Sum.inr ((1:Nat),((y3.1.2.1,(y3.1.2.1,())),(y3.2.1,()))):(dR)⊕(dQ)))
 (some (Sum.inl ((y3.1.1,(aD IntKind.i64 y3.1.2.1 (1:Int),())),(y3.2.1,())):(dR)⊕(dQ)))))
 (some (Sum.inr ((0:Nat),((y3.1.1,(y3.1.2.1,())),(y3.2.1,()))):(dR)⊕(dQ)))
def Ks(x:br×Sb×Unit)(y3:bU×Sb×Unit):Option (dR⊕dQ) :=
 aq (aX y3.1.2.1 (@len BR x.1.1))
 (aa (@idx BR x.1.1 y3.1.2.1) (fun(y4:Sb×(List Sb)×Sb×Sb×Sb×(List (Sb×Sb×Sb×Unit))×Unit)=>aq (bX y4.2.2.2.1 y3.2.1)
 (some (Sum.inr ((1:Nat),((y3.1.2.1,(y3.1.2.1,())),(y3.2.1,()))):(dR)⊕(dQ)))
 (some (Sum.inl ((y3.1.1,(aD IntKind.i64 y3.1.2.1 (1:Int),())),(y3.2.1,())):(dR)⊕(dQ)))))
 (some (Sum.inr ((0:Nat),((y3.1.1,(y3.1.2.1,())),(y3.2.1,()))):(dR)⊕(dQ)))
def F6(x:br×Sb×Unit):Option (Bool×Unit) :=
 aa (aa (Loop (Kp x) (((0:Int),((0:Int),())),(x.2.1,()))) (fun(y1:Nat×bU×Sb×Unit)=>aq (eY y1.1 (0:Nat))
 (some (((-1:Int),()),(y1.2.2.1,())))
 (some ((y1.2.1.1,()),(y1.2.2.1,()))))) (fun(y1:(Int×Unit)×Sb×Unit)=>aa (Loop (Kq x) (((0:Int),((0:Int),())),(y1.2.1,()))) (fun(y2:Nat×bU×Sb×Unit)=>aq (eY y2.1 (0:Nat))
 (aq (nt (aq (nt (cK (0:Int) y1.1.1))
 false
 true))
 (aa (Loop (Kr x) (((0:Int),((0:Int),())),(y2.2.2.1,()))) (fun(y3:Nat×bU×Sb×Unit)=>aq (eY y3.1 (0:Nat))
 (some (false,()))
 (some (cK (0:Int) y3.2.1.1,()))))
 (some (true,())))
 (aq (nt (aq (nt (cK (0:Int) y1.1.1))
 (cK (0:Int) y2.2.1.1)
 true))
 (aa (Loop (Ks x) (((0:Int),((0:Int),())),(y2.2.2.1,()))) (fun(y3:Nat×bU×Sb×Unit)=>aq (eY y3.1 (0:Nat))
 (some (false,()))
 (some (cK (0:Int) y3.2.1.1,()))))
 (some (true,())))))
def Ax(x:aQ×Unit):Option (Sb×Unit) :=
 some (x.1.1,())
def F7(x:br×Sb×Unit)(y1:bU×Unit×Sb×Unit):Option (oc⊕ob) :=
 aq (aX y1.1.2.1 (@len aQ x.1.2.2.2.2.1))
 (aa (@idx aQ x.1.2.2.2.2.1 y1.1.2.1) (fun(y2:Sb×Int×Unit)=>aa (Ax (y2,())) (fun(y3:Sb×Unit)=>aq (bX y3.1 y1.2.2.1)
 (some (Sum.inr ((1:Nat),((y1.1.2.1,(y1.1.2.1,())),((),(y1.2.2.1,())))):(oc)⊕(ob)))
 (some (Sum.inl ((y1.1.1,(aD IntKind.i64 y1.1.2.1 (1:Int),())),((),(y1.2.2.1,()))):(oc)⊕(ob))))))
 (some (Sum.inr ((0:Nat),((y1.1.1,(y1.1.2.1,())),((),(y1.2.2.1,())))):(oc)⊕(ob)))
def vI(x:br×Sb×Unit):Option (Int×Unit) :=
 aa (Loop (F7 x) (((0:Int),((0:Int),())),((),(x.2.1,())))) (fun(y1:Nat×bU×Unit×Sb×Unit)=>aq (eY y1.1 (0:Nat))
 (some ((0:Int),()))
 (aq (aX y1.2.1.1 (0:Int))
 (some ((0:Int),()))
 (aa (@idx aQ x.1.2.2.2.2.1 y1.2.1.1) (fun(y2:Sb×Int×Unit)=>some (y2.2.1,())))))
def p4(x:(List Sb)×Int×Unit):Option ((List Sb)×Unit) :=
 aq (aX x.2.1 (0:Int))
 (some (x.1,()))
 (aq (fits (@len Sb x.1))
 (aa (fH x.1 (x.2.1,(aD IntKind.i64 x.2.1 (1:Int),()))) (fun(y1:List Sb)=>some (y1,())))
 none)
def mS(x:(List aE)×Int×Unit):Option ((List aE)×Unit) :=
 aq (aX x.2.1 (0:Int))
 (some (x.1,()))
 (aq (fits (@len aE x.1))
 (aa (dS x.1 (x.2.1,(aD IntKind.i64 x.2.1 (1:Int),()))) (fun(y1:List aE)=>some (y1,())))
 none)
def oE(x:(List aQ)×Unit):Option ((List aQ)×Unit) :=
 bif fits (len x.1) then some (x.1,()) else none
def cJ(x:(List aQ)×Int×aQ×Unit):Option ((List aQ)×Unit) :=
 aq (fits (@len aQ x.1))
 (aa (dU x.1 (x.2.1,(([x.2.2.1]:List aQ),()))) (fun(y1:List aQ)=>some (y1,())))
 none
def Ig(x:br×Sb×Int×Unit)(y1:bU×Sb×Unit):Option (dR⊕dQ) :=
 aq (aX y1.1.2.1 (@len aQ x.1.2.2.2.2.1))
 (aq (within y1.1.2.1 (@len aQ x.1.2.2.2.2.1))
 (aa (@idx aQ x.1.2.2.2.2.1 y1.1.2.1) (fun(y2:Sb×Int×Unit)=>aq (bX y2.1 y1.2.1)
 (some (Sum.inr ((1:Nat),((y1.1.2.1,(y1.1.2.1,())),(y1.2.1,()))):(dR)⊕(dQ)))
 (some (Sum.inl ((y1.1.1,(aD IntKind.i64 y1.1.2.1 (1:Int),())),(y1.2.1,())):(dR)⊕(dQ)))))
 none)
 (some (Sum.inr ((0:Nat),((y1.1.1,(y1.1.2.1,())),(y1.2.1,()))):(dR)⊕(dQ)))
def Ih(x:br×Sb×Int×Unit)(y2:bU×Sb×Unit):Option (dR⊕dQ) :=
 aq (aX y2.1.2.1 (@len aQ x.1.2.2.2.2.1))
 (aa (@idx aQ x.1.2.2.2.2.1 y2.1.2.1) (fun(y3:Sb×Int×Unit)=>aq (nt (oor (ql y3.1 y2.2.1) (bX y3.1 y2.2.1)))
 (some (Sum.inr ((1:Nat),((y2.1.2.1,(y2.1.2.1,())),(y2.2.1,()))):(dR)⊕(dQ)))
 (some (Sum.inl ((y2.1.1,(aD IntKind.i64 y2.1.2.1 (1:Int),())),(y2.2.1,())):(dR)⊕(dQ)))))
 (some (Sum.inr ((0:Nat),((y2.1.1,(y2.1.2.1,())),(y2.2.1,()))):(dR)⊕(dQ)))
def Ii(x:br×Sb×Int×Unit)(y2:bU×Sb×Unit):Option (dR⊕dQ) :=
 aq (aX y2.1.2.1 (@len aQ x.1.2.2.2.2.1))
 (aa (@idx aQ x.1.2.2.2.2.1 y2.1.2.1) (fun(y3:Sb×Int×Unit)=>aq (nt (oor (ql y3.1 y2.2.1) (bX y3.1 y2.2.1)))
 (some (Sum.inr ((1:Nat),((y2.1.2.1,(y2.1.2.1,())),(y2.2.1,()))):(dR)⊕(dQ)))
 (some (Sum.inl ((y2.1.1,(aD IntKind.i64 y2.1.2.1 (1:Int),())),(y2.2.1,())):(dR)⊕(dQ)))))
 (some (Sum.inr ((0:Nat),((y2.1.1,(y2.1.2.1,())),(y2.2.1,()))):(dR)⊕(dQ)))
def Ij(y2:(Int×Int×Unit×Unit)×Sb×(List aQ)×Unit):Option (F4⊕F4) :=
 @cM F4 (aq (aX y2.1.2.1 (@len aQ y2.2.2.1))
 (aq (within y2.1.2.1 (@len aQ y2.2.2.1))
 (aa (@idx aQ y2.2.2.1 y2.1.2.1) (fun(y3:Sb×Int×Unit)=>aa (aq (nt (bX y3.1 y2.2.1))
 (aq (within y2.1.1 (@len aQ y2.2.2.1))
 (aa (@idx aQ y2.2.2.1 y2.1.1) (fun(y4:Sb×Int×Unit)=>aa (@idx aQ y2.2.2.1 y2.1.1) (fun(y5:Sb×Int×Unit)=>aa (@idx aQ y2.2.2.1 y2.1.1) (fun(y6:Sb×Int×Unit)=>some ((aD IntKind.i64 y2.1.1 (1:Int),((),())),(@nq aQ y2.2.2.1 y2.1.1 y3,()))))))
 none)
 (some ((y2.1.1,((),())),(y2.2.2.1,())))) (fun(y4:(Int×Unit×Unit)×(List aQ)×Unit)=>some (Sum.inl ((y4.1.1,(aD IntKind.i64 y2.1.2.1 (1:Int),((),()))),(y2.2.1,(y4.2.1,()))):(F4)⊕((Nat×(Int×Int×Unit×Unit)×Sb×(List aQ)×Unit))))))
 none)
 (some (Sum.inr ((0:Nat),((y2.1.1,(y2.1.2.1,((),()))),(y2.2.1,(y2.2.2.1,())))):(F4)⊕((Nat×(Int×Int×Unit×Unit)×Sb×(List aQ)×Unit)))))
def Ik(y2:(Int×Int×Unit×Unit)×Sb×(List aQ)×Unit)(y3:bU×Sb×Unit):Option (dR⊕dQ) :=
 aq (aX y3.1.2.1 (@len aQ (@sub aQ (@over aQ y2.2.2.1 y2.1.1 (@jV aQ (minus (@len aQ y2.2.2.1) y2.1.1) (([]:List (UInt8)),((0:Int),())))) (0:Int) (minus y2.1.1 (0:Int)))))
 (aa (@idx aQ (@sub aQ (@over aQ y2.2.2.1 y2.1.1 (@jV aQ (minus (@len aQ y2.2.2.1) y2.1.1) (([]:List (UInt8)),((0:Int),())))) (0:Int) (minus y2.1.1 (0:Int))) y3.1.2.1) (fun(y4:Sb×Int×Unit)=>aq (nt (oor (ql y4.1 y3.2.1) (bX y4.1 y3.2.1)))
 (some (Sum.inr ((1:Nat),((y3.1.2.1,(y3.1.2.1,())),(y3.2.1,()))):(dR)⊕(dQ)))
 (some (Sum.inl ((y3.1.1,(aD IntKind.i64 y3.1.2.1 (1:Int),())),(y3.2.1,())):(dR)⊕(dQ)))))
 (some (Sum.inr ((0:Nat),((y3.1.1,(y3.1.2.1,())),(y3.2.1,()))):(dR)⊕(dQ)))
def xN(x:br×Sb×Int×Unit):Option (br×Unit) :=
 aq (fits (@len aQ x.1.2.2.2.2.1))
 (aa (Loop (Ig x) (((0:Int),((0:Int),())),(x.2.1,()))) (fun(y1:Nat×bU×Sb×Unit)=>aq (eY y1.1 (0:Nat))
 (aa (aq (aX (0:Int) x.2.2.1)
 (aa (Loop (Ih x) (((0:Int),((0:Int),())),(y1.2.2.1,()))) (fun(y2:Nat×bU×Sb×Unit)=>aq (eY y2.1 (0:Nat))
 (aa (cJ (x.1.2.2.2.2.1,((((@len aQ x.1.2.2.2.2.1,()),()).1).1,((y2.2.2.1,(x.2.2.1,())),())))) (fun(y3:(List aQ)×Unit)=>some ((y3.1,()),(y2.2.2.1,()))))
 (aa (cJ (x.1.2.2.2.2.1,(((aq (aX y2.2.1.1 (0:Int))
 ((@len aQ x.1.2.2.2.2.1,()),())
 ((y2.2.1.1,()),())).1).1,((y2.2.2.1,(x.2.2.1,())),())))) (fun(y3:(List aQ)×Unit)=>some ((y3.1,()),(y2.2.2.1,()))))))
 (some ((x.1.2.2.2.2.1,()),(y1.2.2.1,())))) (fun(y2:((List aQ)×Unit)×Sb×Unit)=>some ((x.1.1,(x.1.2.1,(x.1.2.2.1,(x.1.2.2.2.1,(y2.1.1,x.1.2.2.2.2.2))))),())))
 (aq (bI y1.2.1.1 (-1:Int))
 (aa (aq (aX (0:Int) x.2.2.1)
 (aa (Loop (Ii x) (((0:Int),((0:Int),())),(y1.2.2.1,()))) (fun(y2:Nat×bU×Sb×Unit)=>aq (eY y2.1 (0:Nat))
 (aa (cJ (x.1.2.2.2.2.1,((((@len aQ x.1.2.2.2.2.1,()),()).1).1,((y2.2.2.1,(x.2.2.1,())),())))) (fun(y3:(List aQ)×Unit)=>some ((y3.1,()),(y2.2.2.1,()))))
 (aa (cJ (x.1.2.2.2.2.1,(((aq (aX y2.2.1.1 (0:Int))
 ((@len aQ x.1.2.2.2.2.1,()),())
 ((y2.2.1.1,()),())).1).1,((y2.2.2.1,(x.2.2.1,())),())))) (fun(y3:(List aQ)×Unit)=>some ((y3.1,()),(y2.2.2.1,()))))))
 (some ((x.1.2.2.2.2.1,()),(y1.2.2.1,())))) (fun(y2:((List aQ)×Unit)×Sb×Unit)=>some ((x.1.1,(x.1.2.1,(x.1.2.2.1,(x.1.2.2.2.1,(y2.1.1,x.1.2.2.2.2.2))))),())))
 (aa (Loop (Ij) ((y1.2.1.1,(aD IntKind.i64 y1.2.1.1 (1:Int),((),()))),(y1.2.2.1,(x.1.2.2.2.2.1,())))) (fun(y2:(Int×Int×Unit×Unit)×Sb×(List aQ)×Unit)=>aq (inside y2.1.1 (@len aQ y2.2.2.1) (@len aQ y2.2.2.1))
 (aq (inside (0:Int) y2.1.1 (@len aQ (@over aQ y2.2.2.1 y2.1.1 (@jV aQ (minus (@len aQ y2.2.2.1) y2.1.1) (([]:List (UInt8)),((0:Int),()))))))
 (aa (aq (aX (0:Int) x.2.2.1)
 (aa (Loop (Ik y2) (((0:Int),((0:Int),())),(y2.2.1,()))) (fun(y3:Nat×bU×Sb×Unit)=>aq (eY y3.1 (0:Nat))
 (aa (cJ (@sub aQ (@over aQ y2.2.2.1 y2.1.1 (@jV aQ (minus (@len aQ y2.2.2.1) y2.1.1) (([]:List (UInt8)),((0:Int),())))) (0:Int) (minus y2.1.1 (0:Int)),((((@len aQ (@sub aQ (@over aQ y2.2.2.1 y2.1.1 (@jV aQ (minus (@len aQ y2.2.2.1) y2.1.1) (([]:List (UInt8)),((0:Int),())))) (0:Int) (minus y2.1.1 (0:Int))),()),()).1).1,((y3.2.2.1,(x.2.2.1,())),())))) (fun(y4:(List aQ)×Unit)=>some ((y4.1,()),(y3.2.2.1,()))))
 (aa (cJ (@sub aQ (@over aQ y2.2.2.1 y2.1.1 (@jV aQ (minus (@len aQ y2.2.2.1) y2.1.1) (([]:List (UInt8)),((0:Int),())))) (0:Int) (minus y2.1.1 (0:Int)),(((aq (aX y3.2.1.1 (0:Int))
 ((@len aQ (@sub aQ (@over aQ y2.2.2.1 y2.1.1 (@jV aQ (minus (@len aQ y2.2.2.1) y2.1.1) (([]:List (UInt8)),((0:Int),())))) (0:Int) (minus y2.1.1 (0:Int))),()),())
 ((y3.2.1.1,()),())).1).1,((y3.2.2.1,(x.2.2.1,())),())))) (fun(y4:(List aQ)×Unit)=>some ((y4.1,()),(y3.2.2.1,()))))))
 (some ((@sub aQ (@over aQ y2.2.2.1 y2.1.1 (@jV aQ (minus (@len aQ y2.2.2.1) y2.1.1) (([]:List (UInt8)),((0:Int),())))) (0:Int) (minus y2.1.1 (0:Int)),()),(y2.2.1,())))) (fun(y3:((List aQ)×Unit)×Sb×Unit)=>some ((x.1.1,(x.1.2.1,(x.1.2.2.1,(x.1.2.2.2.1,(y3.1.1,x.1.2.2.2.2.2))))),())))
 none)
 none)))))
 none
def Ex(x:br×Sb×Unit)(y1:bU×Unit×Sb×Unit):Option (oc⊕ob) :=
 aq (aX y1.1.2.1 (@len aE x.1.2.2.1))
 (aa (@idx aE x.1.2.2.1 y1.1.2.1) (fun(y2:Sb×Sb×(List Sb)×Sb×Int×Int×Bool×Unit)=>aa (tg (y2,())) (fun(y3:Sb×Unit)=>aq (bX y3.1 y1.2.2.1)
 (some (Sum.inr ((1:Nat),((y1.1.2.1,(y1.1.2.1,())),((),(y1.2.2.1,())))):(oc)⊕(ob)))
 (some (Sum.inl ((y1.1.1,(aD IntKind.i64 y1.1.2.1 (1:Int),())),((),(y1.2.2.1,()))):(oc)⊕(ob))))))
 (some (Sum.inr ((0:Nat),((y1.1.1,(y1.1.2.1,())),((),(y1.2.2.1,())))):(oc)⊕(ob)))
def Ay(x:br×Sb×Unit):Option (br×Unit) :=
 aa (aa (Loop (Ex x) (((0:Int),((0:Int),())),((),(x.2.1,())))) (fun(y1:Nat×bU×Unit×Sb×Unit)=>aq (eY y1.1 (0:Nat))
 (some (((-1:Int),()),((),(y1.2.2.2.1,()))))
 (some ((y1.2.1.1,()),((),(y1.2.2.2.1,())))))) (fun(y1:(Int×Unit)×Unit×Sb×Unit)=>aa (kO (x.1,())) (fun(y2:(List Sb)×Unit)=>aa (p4 (y2.1,(y1.1.1,()))) (fun(y3:(List Sb)×Unit)=>aa (mS (x.1.2.2.1,(y1.1.1,()))) (fun(y4:(List aE)×Unit)=>aa (xN ((x.1.1,(x.1.2.1,(y4.1,(y3.1,x.1.2.2.2.2)))),(x.2.1,((0:Int),())))) (fun(y5:br×Unit)=>some (y5.1,()))))))
def dz(x:br×Sb×Unit):Option (br×cB×Unit) :=
 aa (fC (x.1,(x.2.1,()))) (fun(y1:Sb×Int×Unit)=>aq (nt (bI y1.2.1 (0:Int)))
 (aa (fI (y1.2.1,())) (fun(y2:cB×Unit)=>some (x.1,(y2.1,()))))
 (aa (F6 (x.1,(y1.1,()))) (fun(y2:Bool×Unit)=>aa (aq (nt y2.1)
 (aa (vI (x.1,(y1.1,()))) (fun(y3:Int×Unit)=>some (aX (0:Int) y3.1)))
 (some true)) (fun(y3:Bool)=>aq y3
 (aa (fI ((7:Int),())) (fun(y4:cB×Unit)=>some (x.1,(y4.1,()))))
 (aa (Ay (x.1,(y1.1,()))) (fun(y4:br×Unit)=>some (y4.1,(((0:Int),(y1.1,((0:Int),(([]:List (UInt8)),())))),()))))))))
def qX(x:br×Sb×Int×Unit):Option (br×cB×Unit) :=
 aa (fC (x.1,(x.2.1,()))) (fun(y1:Sb×Int×Unit)=>aq (nt (bI y1.2.1 (0:Int)))
 (aa (fI (y1.2.1,())) (fun(y2:cB×Unit)=>some (x.1,(y2.1,()))))
 (aa (vI (x.1,(y1.1,()))) (fun(y2:Int×Unit)=>aq (aq (aX (0:Int) x.2.2.1)
 (cK (1000:Int) y2.1)
 false)
 (aa (fI ((5:Int),())) (fun(y3:cB×Unit)=>some (x.1,(y3.1,()))))
 (aq (aq (aX x.2.2.1 (0:Int))
 (aX y2.1 (1:Int))
 false)
 (aa (fI ((11:Int),())) (fun(y3:cB×Unit)=>some (x.1,(y3.1,()))))
 (aa (xN (x.1,(y1.1,(aD IntKind.i64 y2.1 x.2.2.1,())))) (fun(y3:br×Unit)=>some (y3.1,(((0:Int),(y1.1,(aD IntKind.i64 y2.1 x.2.2.1,(([]:List (UInt8)),())))),()))))))))
def p5(x:br×Sb×Unit):Option (br×cB×Unit) :=
 aa (qX (x.1,(x.2.1,((1:Int),())))) (fun(y1:br×cB×Unit)=>some (y1.1,(y1.2.1,())))
def mO(x:br×Sb×Unit):Option (br×cB×Unit) :=
 aa (qX (x.1,(x.2.1,((-1:Int),())))) (fun(y1:br×cB×Unit)=>some (y1.1,(y1.2.1,())))
def rW(x:br×Sb×Unit):Option (cB×Unit) :=
 aa (fC (x.1,(x.2.1,()))) (fun(y1:Sb×Int×Unit)=>aq (nt (bI y1.2.1 (0:Int)))
 (aa (fI (y1.2.1,())) (fun(y2:cB×Unit)=>some (y2.1,())))
 (aa (xM (x.1,(y1.1,()))) (fun(y2:aE×Sb×Bool×Unit)=>some (((0:Int),(y1.1,((0:Int),(y2.2.1,())))),()))))
def mP(x:Unit):Option (Sb×Unit) :=
 aq (inside (0:Int) (1024:Int) (1024:Int))
 (aq (fits (1024:Int))
 (some (aT (@jV Int (1024:Int) (0:Int)),()))
 none)
 none
def nI(x:Unit):Option (Bool×Unit) :=
 aa (cz ((([]:List BR),(([]:List CG),(([]:List aE),(([]:List Sb),(([]:List aQ),()))))),(([]:List (UInt8)),(([([(98:UInt8),(97:UInt8),(115:UInt8),(101:UInt8)]:List (UInt8))]:List Sb),(([]:List (UInt8)),((5:Int),())))))) (fun(y1:br×cB×Unit)=>aa (cz (y1.1,(([(98:UInt8),(97:UInt8),(115:UInt8),(101:UInt8)]:List (UInt8)),(([]:List Sb),(([]:List (UInt8)),((5:Int),())))))) (fun(y2:br×cB×Unit)=>aa (dz (y2.1,(([(98:UInt8),(97:UInt8),(115:UInt8),(101:UInt8)]:List (UInt8)),()))) (fun(y3:br×cB×Unit)=>aa (p5 (y2.1,(([(48:UInt8),(48:UInt8),(48:UInt8),(48:UInt8),(48:UInt8),(54:UInt8)]:List (UInt8)),()))) (fun(y4:br×cB×Unit)=>aa (dz (y4.1,(([(48:UInt8),(48:UInt8),(48:UInt8),(48:UInt8),(48:UInt8),(54:UInt8)]:List (UInt8)),()))) (fun(y5:br×cB×Unit)=>aa (mO (y4.1,(([(48:UInt8),(48:UInt8),(48:UInt8),(48:UInt8),(48:UInt8),(54:UInt8)]:List (UInt8)),()))) (fun(y6:br×cB×Unit)=>aa (dz (y6.1,(([(48:UInt8),(48:UInt8),(48:UInt8),(48:UInt8),(48:UInt8),(54:UInt8)]:List (UInt8)),()))) (fun(y7:br×cB×Unit)=>aa (cz (y1.1,(([]:List (UInt8)),(([]:List Sb),(([(120:UInt8)]:List (UInt8)),((1:Int),())))))) (fun(y8:br×cB×Unit)=>aa (aq (aq (aq (aq (aq (aq (aq (an (bI y1.2.1.1 (0:Int)) (an (bX y1.2.1.2.1 ([(48:UInt8),(48:UInt8),(48:UInt8),(48:UInt8),(48:UInt8),(53:UInt8)]:List (UInt8))) (an (bI y1.2.1.2.2.1 (0:Int)) (an (bX y1.2.1.2.2.2.1 ([]:List (UInt8))) true))))
 (an (bI y2.2.1.1 (0:Int)) (an (bX y2.2.1.2.1 ([(48:UInt8),(48:UInt8),(48:UInt8),(48:UInt8),(48:UInt8),(54:UInt8)]:List (UInt8))) (an (bI y2.2.1.2.2.1 (0:Int)) (an (bX y2.2.1.2.2.2.1 ([]:List (UInt8))) true))))
 false)
 (bI y3.2.1.1 (7:Int))
 false)
 (an (bI y4.2.1.1 (0:Int)) (an (bX y4.2.1.2.1 ([(48:UInt8),(48:UInt8),(48:UInt8),(48:UInt8),(48:UInt8),(54:UInt8)]:List (UInt8))) (an (bI y4.2.1.2.2.1 (1:Int)) (an (bX y4.2.1.2.2.2.1 ([]:List (UInt8))) true))))
 false)
 (bI y5.2.1.1 (7:Int))
 false)
 (bI y6.2.1.1 (0:Int))
 false)
 (bX y7.2.1.2.1 ([(48:UInt8),(48:UInt8),(48:UInt8),(48:UInt8),(48:UInt8),(54:UInt8)]:List (UInt8)))
 false)
 (aa (ke (y7.1,(y1.1,()))) (fun(y9:Bool×Unit)=>some y9.1))
 (some false)) (fun(y9:Bool)=>aa (aq (aq y9
 (bI y8.2.1.1 (10:Int))
 false)
 (aa (rW (y1.1,(([(48:UInt8)]:List (UInt8)),()))) (fun(qv:cB×Unit)=>aa (mP ()) (fun(nR:Sb×Unit)=>some (bX qv.1.2.2.2.1 nR.1))))
 (some false)) (fun(qv:Bool)=>aa (aq qv
 (aa (nG ()) (fun(nR:Sb×Unit)=>aa (mP ()) (fun(jq:Sb×Unit)=>some (bX nR.1 jq.1))))
 (some false)) (fun(nR:Bool)=>some (nR,()))))))))))))
def fD(x:Int×Unit):Option (cB×Unit) :=
 some ((x.1,(([]:List (UInt8)),((0:Int),(([]:List (UInt8)),())))),())
def kP(x:br×Unit):Option ((List fh)×Unit) :=
 aa (zI ((3:Int),(((0:Int),(x.1.2.2.1,(([]:List CG),(([]:List BR),())))),()))) (fun(y1:(List fh)×Unit)=>some (y1.1,()))
def BT(x:Sb×Sb×Unit):Option (Bool×Unit) :=
 aa (aq (cK (@len UInt8 x.2.1) (@len UInt8 x.1))
 (aq (inside (0:Int) (@len UInt8 x.2.1) (@len UInt8 x.1))
 (some (bX (@sub UInt8 x.1 (0:Int) (minus (@len UInt8 x.2.1) (0:Int))) x.2.1))
 none)
 (some false)) (fun(y1:Bool)=>some (y1,()))
def Kt(x:(List fh)×Sb×Unit)(y1:fG×Unit):Option ((fG×Unit)⊕ju) :=
 aq (aX y1.1.2.2.1 (@len fh x.1))
 (aa (@idx fh x.1 y1.1.2.2.1) (fun(y2:Sb×(List Sb)×Unit)=>aq (bX y2.1 x.2.1)
 (some (Sum.inr ((1:Nat),((x.2.1,((0:Int),(y1.1.2.2.1,()))),())):((fG×Unit))⊕(ju)))
 (some (Sum.inl ((y1.1.1,(y1.1.2.1,(aD IntKind.i64 y1.1.2.2.1 (1:Int),()))),()):((fG×Unit))⊕(ju)))))
 (some (Sum.inr ((0:Nat),((y1.1.1,(y1.1.2.1,(y1.1.2.2.1,()))),())):((fG×Unit))⊕(ju)))
def Ku(x:(List fh)×Sb×Unit)(y2:fG×Unit)(y3:fG×Unit):Option ((fG×Unit)⊕ju) :=
 aa (@idx fh x.1 y2.1.2.2.1) (fun(y4:Sb×(List Sb)×Unit)=>aq (aX y3.1.2.2.1 (@len Sb y4.2.1))
 (aa (@idx fh x.1 y2.1.2.2.1) (fun(y5:Sb×(List Sb)×Unit)=>aa (@idx Sb y5.2.1 y3.1.2.2.1) (fun(y6:List (UInt8))=>aq (bX y6 x.2.1)
 (aa (@idx fh x.1 y2.1.2.2.1) (fun(y7:Sb×(List Sb)×Unit)=>some (Sum.inr ((1:Nat),((y7.1,((0:Int),(y3.1.2.2.1,()))),())):((fG×Unit))⊕(ju))))
 (some (Sum.inl ((y3.1.1,(y3.1.2.1,(aD IntKind.i64 y3.1.2.2.1 (1:Int),()))),()):((fG×Unit))⊕(ju))))))
 (some (Sum.inr ((0:Nat),((y3.1.1,(y3.1.2.1,(y3.1.2.2.1,()))),())):((fG×Unit))⊕(ju))))
def Kv(x:(List fh)×Sb×Unit)(y2:fG×Unit):Option ((fG×Unit)⊕ju) :=
 aq (aX y2.1.2.2.1 (@len fh x.1))
 (aa (Loop (Ku x y2) ((y2.1.1,(y2.1.2.1,((0:Int),()))),())) (fun(y3:Nat×fG×Unit)=>aq (eY y3.1 (0:Nat))
 (some (Sum.inl ((y3.2.1.1,(y3.2.1.2.1,(aD IntKind.i64 y2.1.2.2.1 (1:Int),()))),()):((fG×Unit))⊕(ju)))
 (some (Sum.inr ((1:Nat),((y3.2.1.1,(y3.2.1.2.1,(y2.1.2.2.1,()))),())):((fG×Unit))⊕(ju)))))
 (some (Sum.inr ((0:Nat),((y2.1.1,(y2.1.2.1,(y2.1.2.2.1,()))),())):((fG×Unit))⊕(ju)))
def Kw(x:(List fh)×Sb×Unit)(y3:hY×Unit):Option ((hY×Unit)⊕(hY×Unit)) :=
 @cM (hY×Unit) (aq (aq (aq (aX y3.1.2.2.1 (@len fh x.1))
 (cK (1:Int) (@len UInt8 x.2.1))
 false)
 (cK (@len UInt8 x.2.1) (5:Int))
 false)
 (aa (@idx fh x.1 y3.1.2.2.1) (fun(y4:Sb×(List Sb)×Unit)=>aa (BT (y4.1,(x.2.1,()))) (fun(y5:Bool×Unit)=>aa (aq y5.1
 (aa (@idx fh x.1 y3.1.2.2.1) (fun(y6:Sb×(List Sb)×Unit)=>some ((aD IntKind.i64 y3.1.1 (1:Int),(y6.1,())),())))
 (some ((y3.1.1,(y3.1.2.1,())),()))) (fun(y6:(Int×Sb×Unit)×Unit)=>some (Sum.inl ((y6.1.1,(y6.1.2.1,(aD IntKind.i64 y3.1.2.2.1 (1:Int),()))),()):((hY×Unit))⊕((Nat×hY×Unit)))))))
 (some (Sum.inr ((0:Nat),((y3.1.1,(y3.1.2.1,(y3.1.2.2.1,()))),())):((hY×Unit))⊕((Nat×hY×Unit)))))
def F8(x:(List fh)×Sb×Unit):Option aQ :=
 aa (Loop (Kt x) ((([]:List (UInt8)),((0:Int),((0:Int),()))),())) (fun(y1:Nat×fG×Unit)=>aq (eY y1.1 (0:Nat))
 (aa (Loop (Kv x) ((y1.2.1.1,(y1.2.1.2.1,((0:Int),()))),())) (fun(y2:Nat×fG×Unit)=>aq (eY y2.1 (0:Nat))
 (aa (Loop (Kw x) (((0:Int),(([]:List (UInt8)),((0:Int),()))),())) (fun(y3:hY×Unit)=>aq (aX (1:Int) y3.1.1)
 (some (([]:List (UInt8)),((9:Int),())))
 (aq (bI y3.1.1 (0:Int))
 (some (([]:List (UInt8)),((3:Int),())))
 (some (y3.1.2.1,((0:Int),()))))))
 (some (y2.2.1.1,(y2.2.1.2.1,())))))
 (some (y1.2.1.1,(y1.2.1.2.1,()))))
def F9(x:br×Sb×Unit):Option aQ :=
 aa (kP (x.1,())) (fun(y1:(List fh)×Unit)=>aa (F8 (y1.1,(x.2.1,()))) (fun(y2:Sb×Int×Unit)=>some (y2.1,(y2.2.1,()))))
def rX(y1:hY×Unit):Option ((hY×Unit)⊕(hY×Unit)) :=
 @cM (hY×Unit) (aq (aX y1.1.2.2.1 (6:Int))
 (aq (inside (fR y1.1.1 (16:Int)) (aD IntKind.i64 (fR y1.1.1 (16:Int)) (1:Int)) (@len UInt8 ([(48:UInt8),(49:UInt8),(50:UInt8),(51:UInt8),(52:UInt8),(53:UInt8),(54:UInt8),(55:UInt8),(56:UInt8),(57:UInt8),(97:UInt8),(98:UInt8),(99:UInt8),(100:UInt8),(101:UInt8),(102:UInt8)]:List (UInt8))))
 (aq (fits (plus (@len UInt8 (@sub UInt8 ([(48:UInt8),(49:UInt8),(50:UInt8),(51:UInt8),(52:UInt8),(53:UInt8),(54:UInt8),(55:UInt8),(56:UInt8),(57:UInt8),(97:UInt8),(98:UInt8),(99:UInt8),(100:UInt8),(101:UInt8),(102:UInt8)]:List (UInt8)) (fR y1.1.1 (16:Int)) (minus (aD IntKind.i64 (fR y1.1.1 (16:Int)) (1:Int)) (fR y1.1.1 (16:Int))))) (@len UInt8 y1.1.2.1)))
 (some (Sum.inl ((DZ IntKind.i64 y1.1.1 (16:Int),(@app UInt8 (@sub UInt8 ([(48:UInt8),(49:UInt8),(50:UInt8),(51:UInt8),(52:UInt8),(53:UInt8),(54:UInt8),(55:UInt8),(56:UInt8),(57:UInt8),(97:UInt8),(98:UInt8),(99:UInt8),(100:UInt8),(101:UInt8),(102:UInt8)]:List (UInt8)) (fR y1.1.1 (16:Int)) (minus (aD IntKind.i64 (fR y1.1.1 (16:Int)) (1:Int)) (fR y1.1.1 (16:Int)))) y1.1.2.1,(aD IntKind.i64 y1.1.2.2.1 (1:Int),()))),()):((hY×Unit))⊕((Nat×hY×Unit))))
 none)
 none)
 (some (Sum.inr ((0:Nat),((y1.1.1,(y1.1.2.1,(y1.1.2.2.1,()))),())):((hY×Unit))⊕((Nat×hY×Unit)))))
def zU(x:Int×Unit):Option (Sb×Unit) :=
 aa (Loop (rX) ((x.1,(([]:List (UInt8)),((0:Int),()))),())) (fun(y1:hY×Unit)=>some (y1.1.2.1,()))
def jO(x:(List fh)×Int×Unit)(y2:Sb×Unit)(y3:(Bool×Int×Unit)×Unit):Option (((Bool×Int×Unit)×Unit)⊕((Bool×Int×Unit)×Unit)) :=
 @cM ((Bool×Int×Unit)×Unit) (aq (aX y3.1.2.1 (@len fh x.1))
 (aa (aq (nt y3.1.1)
 (aa (@idx fh x.1 y3.1.2.1) (fun(y4:Sb×(List Sb)×Unit)=>some (bX y4.1 y2.1)))
 (some true)) (fun(y4:Bool)=>some (Sum.inl ((y4,(aD IntKind.i64 y3.1.2.1 (1:Int),())),()):(((Bool×Int×Unit)×Unit))⊕((Nat×(Bool×Int×Unit)×Unit)))))
 (some (Sum.inr ((0:Nat),((y3.1.1,(y3.1.2.1,())),())):(((Bool×Int×Unit)×Unit))⊕((Nat×(Bool×Int×Unit)×Unit)))))
def jP(x:(List fh)×Int×Unit)(y1:fG×Unit):Option ((fG×Unit)⊕ju) :=
 aq (cK y1.1.2.2.1 (32:Int))
 (aa (zU (fR (aD IntKind.i64 (ia IntKind.i64 x.2.1 (16777215:Int)) y1.1.2.2.1) (16777216:Int),())) (fun(y2:Sb×Unit)=>aa (Loop (jO x y2) ((false,((0:Int),())),())) (fun(y3:(Bool×Int×Unit)×Unit)=>aq (nt y3.1.1)
 (some (Sum.inr ((1:Nat),((y2.1,((0:Int),(y1.1.2.2.1,()))),())):((fG×Unit))⊕(ju)))
 (some (Sum.inl ((y1.1.1,(y1.1.2.1,(aD IntKind.i64 y1.1.2.2.1 (1:Int),()))),()):((fG×Unit))⊕(ju))))))
 (some (Sum.inr ((0:Nat),((y1.1.1,(y1.1.2.1,(y1.1.2.2.1,()))),())):((fG×Unit))⊕(ju)))
def rY(x:(List fh)×Int×Unit):Option aQ :=
 aq (cK (32:Int) (@len fh x.1))
 (some (([]:List (UInt8)),((5:Int),())))
 (aa (Loop (jP x) ((([]:List (UInt8)),((0:Int),((0:Int),()))),())) (fun(y1:Nat×fG×Unit)=>aq (eY y1.1 (0:Nat))
 (some (([]:List (UInt8)),((5:Int),())))
 (some (y1.2.1.1,(y1.2.1.2.1,())))))
def oh(x:br×aE×Sb×Unit)(y1:(Unit×Unit×Bool×Int×Unit)×(List Sb)×(List aE)×Unit):Option (CI⊕CI) :=
 @cM CI (aq (aX y1.1.2.2.2.1 (@len aE x.1.2.2.1))
 (aq (nt y1.1.2.2.1)
 (aa (@idx aE x.1.2.2.1 y1.1.2.2.2.1) (fun(y2:Sb×Sb×(List Sb)×Sb×Int×Int×Bool×Unit)=>aa (aq (nt (ql y2.1 x.2.1.1))
 (aq (fits (plus (@len aE y1.2.2.1) (@len aE ([x.2.1]:List aE))))
 (aq (fits (plus (@len Sb y1.2.1) (@len Sb ([x.2.2.1]:List Sb))))
 (some (((),((),(true,()))),(@app Sb y1.2.1 ([x.2.2.1]:List Sb),(@app aE y1.2.2.1 ([x.2.1]:List aE),()))))
 none)
 none)
 (some (((),((),(y1.1.2.2.1,()))),(y1.2.1,(y1.2.2.1,()))))) (fun(y3:(Unit×Unit×Bool×Unit)×(List Sb)×(List aE)×Unit)=>aa (@idx aE x.1.2.2.1 y1.1.2.2.2.1) (fun(y4:Sb×Sb×(List Sb)×Sb×Int×Int×Bool×Unit)=>aq (fits (plus (@len aE y3.2.2.1) (@len aE ([y4]:List aE))))
 (aa (mL (x.1,(y1.1.2.2.2.1,()))) (fun(y5:Sb×Unit)=>aq (fits (plus (@len Sb y3.2.1) (@len Sb ([y5.1]:List Sb))))
 (some (Sum.inl (((),((),(y3.1.2.2.1,(aD IntKind.i64 y1.1.2.2.2.1 (1:Int),())))),(@app Sb y3.2.1 ([y5.1]:List Sb),(@app aE y3.2.2.1 ([y4]:List aE),()))):(CI)⊕((Nat×(Unit×Unit×Bool×Int×Unit)×(List Sb)×(List aE)×Unit))))
 none))
 none))))
 (aa (@idx aE x.1.2.2.1 y1.1.2.2.2.1) (fun(y2:Sb×Sb×(List Sb)×Sb×Int×Int×Bool×Unit)=>aq (fits (plus (@len aE y1.2.2.1) (@len aE ([y2]:List aE))))
 (aa (mL (x.1,(y1.1.2.2.2.1,()))) (fun(y3:Sb×Unit)=>aq (fits (plus (@len Sb y1.2.1) (@len Sb ([y3.1]:List Sb))))
 (some (Sum.inl (((),((),(y1.1.2.2.1,(aD IntKind.i64 y1.1.2.2.2.1 (1:Int),())))),(@app Sb y1.2.1 ([y3.1]:List Sb),(@app aE y1.2.2.1 ([y2]:List aE),()))):(CI)⊕((Nat×(Unit×Unit×Bool×Int×Unit)×(List Sb)×(List aE)×Unit))))
 none))
 none)))
 (some (Sum.inr ((0:Nat),(((),((),(y1.1.2.2.1,(y1.1.2.2.2.1,())))),(y1.2.1,(y1.2.2.1,())))):(CI)⊕((Nat×(Unit×Unit×Bool×Int×Unit)×(List Sb)×(List aE)×Unit)))))
def p6(x:br×aE×Sb×Unit):Option (br×Unit) :=
 aa (Loop (oh x) (((),((),(false,((0:Int),())))),(([]:List Sb),(([]:List aE),())))) (fun(y1:(Unit×Unit×Bool×Int×Unit)×(List Sb)×(List aE)×Unit)=>aa (aq (nt y1.1.2.2.1)
 (aq (fits (plus (@len aE y1.2.2.1) (@len aE ([x.2.1]:List aE))))
 (aq (fits (plus (@len Sb y1.2.1) (@len Sb ([x.2.2.1]:List Sb))))
 (some (((),((),())),(@app Sb y1.2.1 ([x.2.2.1]:List Sb),(@app aE y1.2.2.1 ([x.2.1]:List aE),()))))
 none)
 none)
 (some (((),((),())),(y1.2.1,(y1.2.2.1,()))))) (fun(y2:(Unit×Unit×Unit)×(List Sb)×(List aE)×Unit)=>some ((x.1.1,(x.1.2.1,(y2.2.2.1,(y2.2.1,x.1.2.2.2.2)))),())))
def p7(x:br×Sb×(List Sb)×Sb×Int×Unit):Option (br×cB×Unit) :=
 aa (nD (x.2.2.1,())) (fun(y1:Int×Unit)=>aq (nt (bI y1.1 (0:Int)))
 (aa (fD (y1.1,())) (fun(y2:cB×Unit)=>some (x.1,(y2.1,()))))
 (aa (aq (nt (bX x.2.2.2.1 ([]:List (UInt8))))
 (aa (xJ (x.2.2.2.1,())) (fun(y2:Int×Unit)=>some (nt (bI y2.1 (0:Int)))))
 (some false)) (fun(y2:Bool)=>aq y2
 (aa (fD ((10:Int),())) (fun(y3:cB×Unit)=>some (x.1,(y3.1,()))))
 (aa (aq (nt (bX x.2.1 ([]:List (UInt8))))
 (aa (F9 (x.1,(x.2.1,()))) (fun(y3:Sb×Int×Unit)=>aq (nt (bI y3.2.1 (0:Int)))
 (aa (fD (y3.2.1,())) (fun(y4:cB×Unit)=>some ((1:Nat),((([]:List (UInt8)),()),(y4.1,(x.1,()))))))
 (some ((0:Nat),((y3.1,()),(((0:Int),(([]:List (UInt8)),((0:Int),(([]:List (UInt8)),())))),((([]:List BR),(([]:List CG),(([]:List aE),(([]:List Sb),(([]:List aQ),()))))),())))))))
 (some ((0:Nat),((([]:List (UInt8)),()),(((0:Int),(([]:List (UInt8)),((0:Int),(([]:List (UInt8)),())))),((([]:List BR),(([]:List CG),(([]:List aE),(([]:List Sb),(([]:List aQ),()))))),())))))) (fun(y3:Nat×(Sb×Unit)×cB×br×Unit)=>aq (eY y3.1 (0:Nat))
 (aa (kP (x.1,())) (fun(y4:(List fh)×Unit)=>aa (uF (y4.1,(([]:List (UInt8)),(x.2.2.1,())))) (fun(y5:Int×Unit)=>aq (nt (bI y5.1 (0:Int)))
 (aa (fD (y5.1,())) (fun(y6:cB×Unit)=>some (x.1,(y6.1,()))))
 (aa (kP (x.1,())) (fun(y6:(List fh)×Unit)=>aa (rY (y6.1,(x.2.2.2.2.1,()))) (fun(y7:Sb×Int×Unit)=>aq (nt (bI y7.2.1 (0:Int)))
 (aa (fD (y7.2.1,())) (fun(y8:cB×Unit)=>some (x.1,(y8.1,()))))
 (aa (aq (nt (bX y3.2.1.1 ([]:List (UInt8))))
 (aa (xL (x.1.2.2.1,(y3.2.1.1,()))) (fun(y8:(List aE)×Int×Unit)=>aq (aq (bI y8.2.1 (0:Int))
 (cK (16:Int) (@len aE y8.1))
 false)
 (aa (fD ((5:Int),())) (fun(y9:cB×Unit)=>some ((1:Nat),((([]:List fX),()),(y9.1,(x.1,()))))))
 (aa (aq (nt (bX x.2.2.2.1 ([]:List (UInt8))))
 (aa (FY (x.1,(y3.2.1.1,()))) (fun(y9:(List fX)×Int×Unit)=>aq (nt (bI y9.2.1 (0:Int)))
 (aa (fD (y9.2.1,())) (fun(qv:cB×Unit)=>some ((1:Nat),((([]:List fX),()),(qv.1,(x.1,()))))))
 (some ((0:Nat),((y9.1,()),(y3.2.2.1,(y3.2.2.2.1,())))))))
 (some ((0:Nat),((([]:List fX),()),(y3.2.2.1,(y3.2.2.2.1,())))))) (fun(y9:Nat×((List fX)×Unit)×cB×br×Unit)=>aq (eY y9.1 (0:Nat))
 (some ((0:Nat),((y9.2.1.1,()),(y9.2.2.1,(y9.2.2.2.1,())))))
 (some ((1:Nat),((y9.2.1.1,()),(y9.2.2.1,(y9.2.2.2.1,())))))))))
 (some ((0:Nat),((([]:List fX),()),(y3.2.2.1,(y3.2.2.2.1,())))))) (fun(y8:Nat×((List fX)×Unit)×cB×br×Unit)=>aq (eY y8.1 (0:Nat))
 (aa (aq (bX x.2.2.2.1 ([]:List (UInt8)))
 (aa (mP ()) (fun(y9:Sb×Unit)=>some ((0:Nat),((y9.1,()),(y8.2.2.1,(y8.2.2.2.1,()))))))
 (aa (xK (y8.2.1.1,(x.2.2.2.1,()))) (fun(y9:(List fX)×Int×Unit)=>aq (nt (bI y9.2.1 (0:Int)))
 (aa (fD (y9.2.1,())) (fun(qv:cB×Unit)=>some ((1:Nat),((x.2.2.2.1,()),(qv.1,(x.1,()))))))
 (some ((0:Nat),((x.2.2.2.1,()),(y8.2.2.1,(y8.2.2.2.1,())))))))) (fun(y9:Nat×(Sb×Unit)×cB×br×Unit)=>aq (eY y9.1 (0:Nat))
 (aa (zA (y9.2.1.1,())) (fun(qv:Sb×Unit)=>aa (p6 (x.1,((y7.1,(y3.2.1.1,(x.2.2.1,(qv.1,(@len UInt8 y9.2.1.1,((0:Int),(true,()))))))),(y9.2.1.1,())))) (fun(nR:br×Unit)=>some (nR.1,(((0:Int),(y7.1,((0:Int),(([]:List (UInt8)),())))),())))))
 (some (y9.2.2.2.1,(y9.2.2.1,())))))
 (some (y8.2.2.2.1,(y8.2.2.1,())))))))))))
 (some (y3.2.2.2.1,(y3.2.2.1,()))))))))
def jw(x:br×(List Sb)×Int×Unit):Option (Bool×Unit) :=
 aa (wP (x.1,())) (fun(y1:Bool×Unit)=>aa (aq (nt (nt y1.1))
 (aa (mG (x.2.1,())) (fun(y2:Bool×Unit)=>some (nt y2.1)))
 (some true)) (fun(y2:Bool)=>aq y2
 (aa (nI ()) (fun(y3:Bool×Unit)=>some (y3.1,())))
 (aa (cz (x.1,(([]:List (UInt8)),(x.2.1,(([]:List (UInt8)),(x.2.2.1,())))))) (fun(y3:br×cB×Unit)=>aa (p7 (x.1,(([]:List (UInt8)),(x.2.1,(([]:List (UInt8)),(x.2.2.1,())))))) (fun(y4:br×cB×Unit)=>aa (ke (y3.1,(y4.1,()))) (fun(y5:Bool×Unit)=>aa (aq (aq y5.1
 (an (bI y3.2.1.1 y4.2.1.1) (an (bX y3.2.1.2.1 y4.2.1.2.1) (an (bI y3.2.1.2.2.1 y4.2.1.2.2.1) (an (bX y3.2.1.2.2.2.1 y4.2.1.2.2.2.1) true))))
 false)
 (aa (nI ()) (fun(y6:Bool×Unit)=>some y6.1))
 (some false)) (fun(y6:Bool)=>some (y6,()))))))))
end Go.Ge
namespace Go.Ge
variable [Lp]
def uK(n:Nat)(ds:List Tx):List Tx:=ds.take n++List.replicate (n-ds.length) []
theorem BU(n:Nat)(ds:List Tx):(uK n ds).length=n:=by
 unfold uK;rw[uV,o6,Wi];omega
theorem Yw(s:cI)(hl:s.2.2.1.length≤1000000):kO (s,())=some (uK s.2.2.1.length s.2.2.2.1,()):=by
 unfold kO;dsimp only;rw[cR (by decide) (by unfold len;omega) (RT _),ai,yG (by omega),ai];have e1:len (jV (len s.2.2.1) ([]:Tx))=(s.2.2.1.length:Int):=by unfold len jV;rw[zg,Wi]
 rw[show @len (List UInt8)=@len Tx from rfl,show @jV (List UInt8)=@jV Tx from rfl,e1]
 congr 1
 unfold over jV len iB uK;rw[show((0:Int).toNat)=0 from rfl,Uq,Up,uW,zg,List.drop_replicate,o6]
 congr 2
 congr 1
 omega
def qC{α:Type}(l:List α)(k:Nat)(x:α):List α:=l.take k++[x]++l.drop k
theorem ac5{α:Type}(l:List α)(k:Nat)(x:α)(hk:k≤l.length)(hl:l.length≤1000000):JZ l (k:Int) [x]=some (qC l k x):=by
 unfold JZ qC;rw[show inside 0 (k:Int) (len l)=true from cR (by decide) (by omega) (by unfold len;omega),gD (by simp only[o7,vS];omega),zg];rfl
def MP(s:cI)(x:aI)(d:Tx):cI:=(s.1,(s.2.1,(MM (·.1) s.2.2.1 x,(qC (uK s.2.2.1.length s.2.2.2.1) (gQ (fun y:aI=>y.1) s.2.2.1 x.1) d,s.2.2.2.2))))
theorem abr(s:cI)(x:aI)(d:Tx)(hl:s.2.2.1.length≤100000):pZ (s,(x,(d,())))=some (MP s x d,()):=by
 obtain⟨bo,im,la,di,mo⟩:=s;dsimp only at hl;have hk:=Ib (fun y:aI=>y.1) la x.1;unfold pZ;dsimp only;have hpos:=V6 (f:=oe ((bo,(im,(la,(di,mo)))),(x,(d,())))) (fun y:aI=>y.1) la x.1 (by omega) (fun i=>(((0:Int),(i,())),(x,()))) (fun i=>(1,(((i:Int),((i:Int),())),(x,()))))
  (0,(((0:Int),((la.length:Int),())),(x,()))) (fun i y hy=>by
   have hi:=bw hy;unfold oe;dsimp only;rw[aK hi,ai,aS hy,af,cG (by omega)];cases ql y.1 x.1<;>rfl) (by unfold oe;dsimp only;rw[aZ,ak])
 rw[hpos,af];have hdv:=Yw (bo,(im,(la,(di,mo)))) (by dsimp only;omega);have hws:∀k:Nat,k≤la.length→jv (uK la.length di,((k:Int),(d,())))=some (qC (uK la.length di) k d,()):=fun k hk=>by
  unfold jv;dsimp only;rw[show @len (List UInt8)=@len Tx from rfl,yG (by rw[BU];omega),ai];unfold dM;dsimp only;rw[ac5 (uK la.length di) k d (by rw[BU];omega) (by rw[BU];omega),af]
 have hwl:gw (la,(((gQ (fun y:aI=>y.1) la x.1:Nat):Int),(x,())))=some (MM (fun y:aI=>y.1) la x,()):=by
  unfold gw;dsimp only;rw[yG (by omega),ai];unfold cE;dsimp only;rw[show JZ la ((gQ (fun y:aI=>y.1) la x.1:Nat):Int) [x]=_ from V5 (fun y:aI=>y.1) la x (by omega),af]
 by_cases hkl:gQ (fun y:aI=>y.1) la x.1<la.length
 ·rw[bG hkl];dsimp only;rw[show eY 1 0=false from rfl,ak,af];dsimp only;rw[hdv,af,bM (by omega),ak];dsimp only;rw[hws _ hk,af,hwl,af];rfl
 ·rw[bH hkl];dsimp only;have hk2:gQ (fun y:aI=>y.1) la x.1=la.length:=by omega
  rw[vo,ai,af];dsimp only;rw[hdv,af,b7 (by decide),ai];dsimp only;rw[show @len (Tx×Tx×List Tx×Tx×Int×Int×Bool×Unit) la=((gQ (fun y:aI=>y.1) la x.1:Nat):Int) from by rw[hk2];rfl,hws _ hk,af,hwl,af];rfl
theorem TN:nG ()=some (mM 1024,()):=by
 rw[show nG ()=xD ((1024:Int),()) from rfl];exact TD 1024 (by decide)
abbrev Ch1:=(List aI×Int×Unit×Tx×Int×Unit)×List aI×Unit
theorem MQ(ls:List aI)(id0:Tx)(hl:ls.length≤1000000)(hn:∀x∈ls,oA x.2.2.1)(r1:List aI)(r2:Int)(id:Tx)(acc:List aI)(ha:acc.length≤16) :
  ∃i:Int,Loop (jN (ls,(id0,()))) ((r1,(r2,((),(id,((0:Int),()))))),(acc,()))=some (match Ov ls id with
   | none=>(0,((r1,(r2,((),(id,(i,()))))),(acc,())))
   | some k=>match ls[k]? with
     | none=>(0,((r1,(r2,((),(id,(i,()))))),(acc,())))
     | some x=>if acc.length=16 then(1,(([],(5,((),(id,(i,()))))),(acc,()))) else if x.2.1=[] then(2,((r1,(r2,((),(id,(i,()))))),(acc++[x],()))) else(3,((r1,(r2,((),(x.2.1,(i,()))))),(acc++[x],())))):=by
 rcases xA (f:=jN (ls,(id0,()))) ls (fun i=>((r1,(r2,((),(id,(i,()))))),(acc,()))) (fun _ x=>decide (x.1=id))
  (fun i x=>if acc.length=16 then(1,(([],(5,((),(id,((i:Int),()))))),(acc,()))) else if x.2.1=[] then(2,((r1,(r2,((),(id,((i:Int),()))))),(acc++[x],()))) else(3,((r1,(r2,((),(x.2.1,((i:Int),()))))),(acc++[x],()))))
  (0,((r1,(r2,((),(id,((ls.length:Int),()))))),(acc,()))) (by omega) (fun i x hx hi ha'=>by
   unfold jN;dsimp only;rw[aK hi,ai,aS hx,af,QW,ha'];by_cases q:x.1=id
   ·rw[kj q,cg,ak,bG rfl,Yr _ (hn x (yc hx)).small,af];have e16:bI (@len aI acc) (16:Int)=decide (acc.length=16):=by unfold bI len;apply decide_eq_decide.2;omega
    rw[e16];by_cases h16:acc.length=16
    ·rw[kj h16,ai,bG h16]
    ·rw[mu h16,ak,bH h16];dsimp only;rw[show fits (plus (@len aI acc) (@len aI ([(x.1,(x.2.1,(x.2.2.1,x.2.2.2)))]:List aI)))=true from gD (by show _+1≤_;omega),ai,QW,mW];by_cases hp:x.2.1=[]
     ·rw[kj hp,bG rfl,bG hp];rfl
     ·rw[mu hp,bH hp];rfl
   ·rw[mu q,cN,ai];rfl) (by unfold jN;dsimp only;rw[aZ,ak]) with ⟨i,x,hx,hp,hj,h⟩|⟨hno,h⟩
 ·refine⟨(i:Int),?_⟩;have he:x.1=id:=yd hp;rw[abk hx he hj];dsimp only;rw[hx];exact h
 ·refine⟨(ls.length:Int),?_⟩;rw[TH hno];exact h
theorem TO{ls:List aI}{id:Tx}(h:Ov ls id=none)(n:Nat)(acc:List aI):EJ ls n id acc=([],3):=by
 unfold EJ;rw[h]
theorem ac6{ls:List aI}{id:Tx}{k:Nat}(h:Ov ls id=some k)(acc:List aI):EJ ls 0 id acc=([],5):=by
 unfold EJ;rw[h]
theorem aeL{ls:List aI}{id:Tx}{k:Nat}{x:aI}(h:Ov ls id=some k)(hx:ls[k]?=some x)(n:Nat)(acc:List aI) :
  EJ ls (n+1) id acc=if x.2.1=[] then(acc++[x],0) else EJ ls n x.2.1 (acc++[x]):=by
 conv=>lhs;unfold EJ
 rw[h];dsimp only;rw[hx]
theorem TP(ls:List aI)(id0:Tx)(hl:ls.length≤1000000)(hn:∀x∈ls,oA x.2.2.1):∀(n:Nat) (id:Tx) (acc:List aI),n+acc.length=16 →
  ∃q1 q2 q3,Loop (mN (ls,(id0,()))) ((([]:List aI),((0:Int),((),(id,())))),(acc,())) =
   some (if(EJ ls n id acc).2=0 then(1,(q1,((EJ ls n id acc).1,()))) else(0,(((EJ ls n id acc).1,((EJ ls n id acc).2,q2)),q3))):=by
 intro n;induction n with
 | zero =>
   intro id acc ha;rw[jo];unfold mN;dsimp only;obtain⟨i,h1⟩:=MQ ls id0 hl hn [] 0 id acc (by omega);rw[h1,af];cases hk:Ov ls id with
   | none =>
     rw[TO hk];exact⟨(([]:List aI),((0:Int),((),(id,())))),_,_,rfl⟩
   | some k =>
     obtain⟨x,hx,_⟩:=QZ hk;rw[ac6 hk];dsimp only;rw[hx];dsimp only;rw[bG (by omega)];exact⟨(([]:List aI),((0:Int),((),(id,())))),_,_,rfl⟩
 | succ n ih =>
   intro id acc ha;rw[jo];unfold mN;dsimp only;obtain⟨i,h1⟩:=MQ ls id0 hl hn [] 0 id acc (by omega);rw[h1,af];cases hk:Ov ls id with
   | none =>
     rw[TO hk];exact⟨(([]:List aI),((0:Int),((),(id,())))),_,_,rfl⟩
   | some k =>
     obtain⟨x,hx,_⟩:=QZ hk;rw[aeL hk hx];dsimp only;rw[hx];dsimp only;rw[bH (by omega)];by_cases hp:x.2.1=[]
     ·rw[bG hp,bG hp];exact⟨_,((),(([]:Tx),())),(acc,()),rfl⟩
     ·rw[bH hp,bH hp];obtain⟨q1,q2,q3,h2⟩:=ih x.2.1 (acc++[x]) (by rw[uV];show n+(_+1)=16;omega);exact⟨q1,q2,q3,h2⟩
theorem V8(ls:List aI)(id:Tx)(hl:ls.length≤1000000)(hn:∀x∈ls,oA x.2.2.1):nH (ls,(id,()))=some ((bZ ls id).1,((bZ ls id).2,())):=by
 unfold nH;dsimp only;obtain⟨q1,q2,q3,h⟩:=TP ls id hl hn 16 id [] rfl;rw[h,af];unfold bZ;by_cases c:(EJ ls 16 id []).2=0
 ·rw[bG c,c];rfl
 ·rw[bH c];rfl
end Go.Ge
namespace Go.Ge
variable [Lp]
theorem aeM(d:Int):∃m:Nat,m<16777216∧ia .i64 d 16777215=(m:Int):=by
 refine⟨(BitVec.ofInt IntKind.i64.bits d &&& BitVec.ofInt IntKind.i64.bits 16777215).toNat,?_,?_⟩
 ·rw[BitVec.toNat_and];have h2:(BitVec.ofInt IntKind.i64.bits (16777215:Int)).toNat=16777215:=rfl;rw[h2];exact Nat.lt_succ_of_le Nat.and_le_right
 ·unfold ia;have h:(BitVec.ofInt IntKind.i64.bits d &&& BitVec.ofInt IntKind.i64.bits 16777215).toNat<16777216:=by
   rw[BitVec.toNat_and];have h2:(BitVec.ofInt IntKind.i64.bits (16777215:Int)).toNat=16777215:=rfl;rw[h2];exact Nat.lt_succ_of_le Nat.and_le_right
  exact Qz (by omega) (by omega)
theorem adX(d:Int):∃m:Nat,∀k:Nat,k≤64→fR (aD .i64 (ia .i64 d 16777215) (k:Int)) 16777216=(((m+k) % 16777216:Nat):Int):=by
 obtain⟨m,hm,e⟩:=aeM d;refine⟨m,fun k hk=>?_⟩;rw[e,jE (by omega) (by omega),show((m:Int)+(k:Int))=((m+k:Nat):Int) by omega];exact sF (m+k) 16777216
def Q3(n:Nat):Nat→Tx
 | 0=>[]
 | k+1=>hx (n / 16 ^ k % 16)::Q3 n k
theorem abt(n k:Nat):(Q3 n k).length=k:=by
 induction k with
 | zero=>rfl
 | succ k ih=>simp only[Q3,o7,ih]
theorem abu{i:Nat}(h:i<16):sub Om (i:Int) (minus ((i+1:Nat):Int) (i:Int))=[hx i]:=by
 have hl:Om.length=16:=rfl;refine sub_one ?_;unfold hx;rw[RF,ru (by omega)];rfl
theorem Yx(n:Nat)(hn:n<16777216):zU ((n:Int),())=some (Q3 n 6,()):=by
 unfold zU;have key:=dw (f:=rX) (r:=((((n / 16 ^ 6:Nat):Int),(Q3 n 6,(((6:Nat):Int),()))),())) 6 (fun k:Nat=>((((n / 16 ^ k:Nat):Int),(Q3 n k,(((k:Nat):Int),()))),())) (fun k hk=>by
  unfold rX;dsimp only;have h16:fR ((n / 16 ^ k:Nat):Int) 16=((n / 16 ^ k % 16:Nat):Int):=sF _ 16;have hb:n / 16 ^ k % 16<16:=A4 _ (by decide);have hle:n / 16 ^ k≤n:=Nat.div_le_self _ _;have hq:DZ .i64 ((n / 16 ^ k:Nat):Int) 16=((n / 16 ^ (k+1):Nat):Int):=by
   rw[Nat.pow_succ,←Nat.div_div_eq_div_mul];generalize n / 16 ^ k=q at hle;have e:(q:Int).tdiv 16=((q / 16:Nat):Int):=by
    rw[adp (by omega)];omega
   unfold DZ;rw[e];exact Qz (by omega) (by omega)
  rw[h16,hq,cG (i:=n / 16 ^ k % 16) (by omega),cG (i:=k) (by omega),b7 (show(k:Int)<6 by omega),ai];have ht:([(48:UInt8),(49:UInt8),(50:UInt8),(51:UInt8),(52:UInt8),(53:UInt8),(54:UInt8),(55:UInt8),(56:UInt8),(57:UInt8),(97:UInt8),(98:UInt8),(99:UInt8),(100:UInt8),(101:UInt8),(102:UInt8)]:List UInt8)=Om:=rfl;rw[ht,abu hb,cR (by omega) (by omega) (by show _≤((16:Nat):Int);omega),ai,gD (by rw[abt];simp only[o7,vS];omega),ai];rfl) (by
  unfold rX;dsimp only;rw[bM (by omega),ak];rfl)
 rw[show(((n:Nat):Int),((([]:Tx)),((0:Int),())))=((((n / 16 ^ 0:Nat):Int),(Q3 n 0,(((0:Nat):Int),()))):Int×Tx×Int×Unit) from by rw[Nat.pow_zero,Nat.div_one];rfl,key,af]
theorem yQ(n k:Nat)(hk:k≤60):jS .i64 (n:Int) (k:Int)=((n / 2 ^ k:Nat):Int):=by
 unfold jS;rw[show min (Int.toNat (k:Int)) IntKind.i64.bits=k from by rw[zg];show min k 64=k;omega,adn _ (by exact Int.le_of_lt (Int.pow_pos (by decide)))]
 norm_cast
theorem Q4(m:Nat):(UInt8.ofNat (kT .u8 (m:Int)).toNat).toNat=m % 256:=by
 rw[aet,show((m:Int) % 256).toNat=m % 256 by omega];simp
theorem ac7(n:Nat)(hn:n<16777216):idN (n:Int)=Q3 n 6:=by
 unfold idN;rw[show jS .i64 (n:Int) 16=((n / 2 ^ 16:Nat):Int) from yQ n 16 (by decide),show jS .i64 (n:Int) 8=((n / 2 ^ 8:Nat):Int) from yQ n 8 (by decide)];simp only[aT,PF,List.map_nil,s6,Q4,Q3];rw[show n / 2 ^ 16 % 256 / 16=n / 16 ^ 5 % 16 by omega,show n / 2 ^ 16 % 256 % 16=n / 16 ^ 4 % 16 by omega,show n / 2 ^ 8 % 256 / 16=n / 16 ^ 3 % 16 by omega,show n / 2 ^ 8 % 256 % 16=n / 16 ^ 2 % 16 by omega,
  show n % 256 / 16=n / 16 ^ 1 % 16 by omega,show n % 256 % 16=n / 16 ^ 0 % 16 by omega]
theorem ac8{n m:Nat}(hn:n<16777216)(hm:m<16777216)(h:idN (n:Int)=idN (m:Int)):n=m:=by
 unfold idN at h;have h2:=congrArg HN h;rw[Pv,Pv] at h2;have h3:=aG h2;rw[show jS .i64 (n:Int) 16=((n / 2 ^ 16:Nat):Int) from yQ n 16 (by decide),show jS .i64 (n:Int) 8=((n / 2 ^ 8:Nat):Int) from yQ n 8 (by decide),
  show jS .i64 (m:Int) 16=((m / 2 ^ 16:Nat):Int) from yQ m 16 (by decide),show jS .i64 (m:Int) 8=((m / 2 ^ 8:Nat):Int) from yQ m 8 (by decide)] at h3
 simp only[aT,PF,List.map_nil,List.cons.injEq,and_true] at h3;obtain⟨a,b,c⟩:=h3;have a:=congrArg UInt8.toNat a;have b:=congrArg UInt8.toNat b;have c:=congrArg UInt8.toNat c;rw[Q4,Q4] at a b c;omega
def Ga(l:List Nm)(s:Tx):Bool:=l.any fun y=>decide (y.1=s)
theorem abv(l:List Nm)(d:Int)(s:Tx)(hl:l.length≤1000000) :
  Loop (jO (l,(d,())) (s,())) ((false,((0:Int),())),())=some ((Ga l s,(((l.length:Nat):Int),())),()):=by
 have key:=dw (f:=jO (l,(d,())) (s,())) (r:=((Ga l s,(((l.length:Nat):Int),())),())) l.length (fun k:Nat=>((Ga (l.take k) s,((k:Int),())),())) (fun k hk=>by
  have hx:l[k]?=some l[k]:=ru hk;unfold jO;dsimp only;rw[aK hk,ai,aS hx,af,cG (by omega)];have e:Ga (l.take (k+1)) s=(Ga (l.take k) s||decide (l[k].1=s)):=by
   unfold Ga;rw[Xi,hx,List.any_append];simp
  rw[e];cases Ga (l.take k) s with
  | true=>rfl
  | false=>rfl) (by
  unfold jO;dsimp only;rw[aZ,ak,RJ];rfl)
 exact key
theorem V9(l:List Nm)(d:Int)(h:l.length<32):∃k,k<l.length+1∧tY l d k=true:=by
 apply YS;intro hno;obtain⟨m,hm⟩:=adX d;have hid:∀k,k≤64→Yh d k=idN (((m+k) % 16777216:Nat):Int):=fun k hk=>by unfold Yh;rw[hm k hk]
 have hsub:(List.range (l.length+1)).map (Yh d) ⊆ l.map (·.1):=by
  intro x hx;obtain⟨k,hk,rfl⟩:=List.mem_map.1 hx;have hk:=List.mem_range.1 hk;have hf:¬tY l d k=true:=fun q=>hno ⟨k,hk,q⟩;unfold tY at hf;rw[Zb] at hf;apply YS;intro hn;exact hf fun y hy he=>hn (List.mem_map.2 ⟨y,hy,he⟩)
 have hnd:((List.range (l.length+1)).map (Yh d)).Nodup:=by
  unfold List.Nodup;rw[Zf];refine List.Pairwise.imp_of_mem (fun {a b} ha hb hab he=>?_) (List.pairwise_lt_range (n:=l.length+1));have ha:=List.mem_range.1 ha;have hb:=List.mem_range.1 hb;rw[hid a (by omega),hid b (by omega)] at he;have:=ac8 (A4 _ (by decide)) (A4 _ (by decide)) he;omega
 have hlen:=hnd.length_le_of_subset hsub;rw[La,PD,La] at hlen;omega
theorem Q5(l:List Nm)(d:Int)(hl:l.length≤1000000):rY (l,(d,()))=some (jM l d):=by
 unfold rY jM;dsimp only;have e32:cK (32:Int) (len l)=decide (32≤l.length):=by unfold cK len;apply decide_eq_decide.2;omega
 rw[e32];by_cases h32:32≤l.length
 ·rw[kj h32,bG h32];rfl
 rw[mu h32,bH h32,ak];obtain⟨m,hm⟩:=adX d;have key:∀k:Nat,k≤32→jP (l,(d,())) ((([]:Tx),((0:Int),((k:Int),()))),())=some (if tY l d k=true then .inr (1,((Yh d k,((0:Int),((k:Int),()))),())) else .inl ((([]:Tx),((0:Int),(((k+1:Nat):Int),()))),())):=fun k hk=>by
  unfold jP;dsimp only;rw[pJ (by omega),ai,hm k (by omega),Yx _ (A4 _ (by decide)),af,←ac7 _ (A4 _ (by decide)),←hm k (by omega),abv l d _ hl,af,cG (by omega)];dsimp only;have e:nt (Ga l (idN (fR (aD .i64 (ia .i64 d 16777215) (k:Int)) 16777216)))=tY l d k:=by
   unfold tY Yh nt Ga;rw[Zn];simp
  rw[e];cases tY l d k<;>rfl
 obtain⟨k0,hk0,hf0⟩:=V9 l d (by omega);rcases xA (f:=jP (l,(d,()))) (List.range 33) (fun k=>((([]:Tx),((0:Int),(k,()))),())) (fun k _=>tY l d k) (fun k _=>(1,((Yh d k,((0:Int),((k:Int),()))),()))) (0,((([]:Tx),((0:Int),(((33:Nat):Int),()))),())) (by decide)
  (fun k x hx hi ha=>key k (by rw[PD] at hi;omega)) (by
   unfold jP;dsimp only;rw[PD,CA (by omega),ak]) with ⟨k,x,hx,hp,hj,h⟩|⟨hn,h⟩
 ·have hk:=bw hx;rw[PD] at hk;rw[h,af];have hkk:k≤k0:=by
   apply YS;intro hq;have:=hj k0 k0 (by omega) (by rw[PC (by omega)]);rw[hf0] at this;cases this
  have hf:(List.range (l.length+1)).find? (tY l d)=some k:=by
   rw[adZ];refine⟨hp,k,by rw[PD];omega,by simp,fun j hjk=>?_⟩;have:=hj j j hjk (by rw[PC (by omega)]);simpa using this
  rw[hf];rfl
 ·have:=hn k0 k0 (by rw[PC (by omega)]);rw[hf0] at this;cases this
end Go.Ge
namespace Go.Ge
variable [Lp]
theorem Yy{α:Type}(key:α→Tx)(l:List α)(p:Tx):(∀(j:Nat) (y:α),j<gQ key l p→l[j]?=some y→ql (key y) p=true)∧(∀y,l[gQ key l p]?=some y→ql (key y) p=false):=by
 induction l with
 | nil=>exact⟨fun j y _ h=>by simp at h,fun y h=>by simp at h⟩
 | cons a r ih =>
   unfold gQ at ih⊢;rw[Za];cases h:ql (key a) p with
   | true =>
     rw[bG rfl,o7];refine⟨fun j y hj hy=>?_,fun y hy=>ih.2 y (by rw[YT] at hy;exact hy)⟩;cases j with
     | zero=>rw[abT] at hy;obtain rfl:=aG hy;exact h
     | succ j=>exact ih.1 j y (by omega) (by rw[YT] at hy;exact hy)
   | false =>
     rw[bH (by decide)];refine⟨fun j y hj hy=>absurd hj (by simp),fun y hy=>?_⟩;simp at hy;rw[←hy];exact h
def fQ{α:Type}(l:List α)(k:Nat)(x:α)(i:Nat):List α:=if i≤k then l.take i else qC (l.take i) k x
theorem Gb{α:Type}{l:List α}{k:Nat}{x:α}{i:Nat}{y:α}(h:i<k)(hy:l[i]?=some y):fQ l k x i++[y]=fQ l k x (i+1):=by
 unfold fQ;rw[bG (by omega),bG (by omega),Xi,hy];rfl
theorem TQ{α:Type}{l:List α}{k:Nat}{x:α}{y:α}(hy:l[k]?=some y):fQ l k x k++[x]++[y]=fQ l k x (k+1):=by
 have hk:=bw hy;unfold fQ qC;rw[bG (mq _),bH (by omega),RM,sV (by omega),Xi,hy,RE (by rw[o6];omega),Xf (by rw[o6];omega)];rfl
theorem Jf{α:Type}{l:List α}{k:Nat}{x:α}{i:Nat}{y:α}(h:k<i)(hy:l[i]?=some y):fQ l k x i++[y]=fQ l k x (i+1):=by
 have hk:=bw hy;unfold fQ qC;rw[bH (by omega),bH (by omega),RM,RM,sV (by omega),sV (by omega),Xi,hy,RE (by rw[o6];omega)];simp
theorem Py{α:Type}{l:List α}{k:Nat}{x:α}(h:k<l.length):fQ l k x l.length=qC l k x:=by
 unfold fQ;rw[bH (by omega),RJ]
theorem MR{α:Type}{l:List α}{x:α}:fQ l l.length x l.length++[x]=qC l l.length x:=by
 unfold fQ qC;rw[bG (mq _),RJ,List.drop_length,G0]
theorem CJ{α:Type}{l:List α}{k:Nat}{x:α}{i:Nat}:(fQ l k x i).length≤l.length+1:=by
 unfold fQ qC;split
 ·rw[o6];omega
 ·simp only[uV,o6,w8,o7,vS];omega
theorem MS{α:Type}{l:List α}{k:Nat}{x:α}:fQ l k x 0=[]:=by unfold fQ;rw[bG (by omega),Uq]
theorem ac9{n i:Nat}{ds:List Tx}(h:i<n):(uK n ds)[i]?=some ((ds[i]?).getD []):=by
 unfold uK;by_cases hi:i<ds.length
 ·rw[Um (by rw[o6];omega),uo,bG h,ru hi];rfl
 ·rw[Y0 (by rw[o6];omega),o6,abS,bG (by omega),PB (by omega)];rfl
theorem ada{α:Type}(key:α→Tx)(l:List α)(x:α):MM key l x=qC l (gQ key l (key x)) x:=by
 unfold MM qC;rw[(zS key l x).1,(zS key l x).2]
set_option maxRecDepth 20000 in
theorem Q6(s:cI)(x:aI)(d:Tx)(hl:s.2.2.1.length≤100000):p6 (s,(x,(d,())))=some (MP s x d,()):=by
 obtain⟨bo,im,la,di,mo⟩:=s;dsimp only at hl;have hk:=Ib (fun y:aI=>y.1) la x.1;have hpl:=Yy (fun y:aI=>y.1) la x.1;unfold MP;dsimp only;rw[ada];generalize hkk:gQ (fun y:aI=>y.1) la x.1=k at hk hpl;have hp:=BU la.length di;have key:=dw (f:=oh ((bo,(im,(la,(di,mo)))),(x,(d,())))) (r:=(((),((),(decide (k<la.length),(((la.length:Nat):Int),())))),(fQ (uK la.length di) k d la.length,(fQ la k x la.length,())))) la.length
  (fun i:Nat=>(((),((),(decide (k<i),((i:Int),())))),(fQ (uK la.length di) k d i,(fQ la k x i,())))) (fun i hi=>by
   have hx:la[i]?=some la[i]:=ru hi;have ZX:=ac9 (ds:=di) hi;have h1:∀j,(fQ la k x j).length≤100001:=fun j=>jl CJ (by omega);have h2:∀j,(fQ (uK la.length di) k d j).length≤100001:=fun j=>jl CJ (by omega);have f1:∀y:aI,fits (plus (@len aI (fQ la k x i)) (@len aI [y]))=true:=fun y=>gD (by have:=h1 i;simp only[o7,vS];omega);have f2:∀y:Tx,fits (plus (@len Tx (fQ (uK la.length di) k d i)) (@len Tx [y]))=true:=fun y=>gD (by have:=h2 i;simp only[o7,vS];omega);have f3:∀y z:aI,fits (plus (@len aI (fQ la k x i++[y])) (@len aI [z]))=true:=fun y z=>gD (by have:=h1 i;simp only[uV,o7,vS];omega);have f4:∀y z:Tx,fits (plus (@len Tx (fQ (uK la.length di) k d i++[y])) (@len Tx [z]))=true:=fun y z=>gD (by have:=h2 i;simp only[uV,o7,vS];omega);unfold oh;dsimp only;rw[aK hi,ai,cG (by omega),V4,aS hx];rcases Zg i k with h|h|h
   ·rw[mu (by omega),mu (by omega),cN,ai,af,hpl.1 i _ h hx,cg,ak,af,af];dsimp only;rw[f1,ai,af,f2,ai,←Gb h hx,←Gb h ZX];rfl
   ·subst h;rw[mu (by omega),kj (show i<i+1 by omega),cN,ai,af,hpl.2 _ hx,cN,ai,f1,ai,f2,ai,af,af];dsimp only;rw[show fits (plus (@len aI (app (fQ la i x i) [x])) (@len aI [la[i]]))=true from f3 _ _,ai,af,show fits (plus (@len Tx (app (fQ (uK la.length di) i d i) [d])) (@len Tx [(di[i]?).getD []]))=true from f4 _ _,ai,←TQ hx,←TQ ZX];rfl
   ·rw[kj h,kj (by omega),cg,ak,af,f1,ai,af,f2,ai,←Jf h hx,←Jf h ZX];rfl) (by
   unfold oh;dsimp only;rw[aZ,ak];rfl)
 unfold p6;dsimp only;rw[show decide (k<0)=false from mu (by omega),MS,MS] at key;rw[show((((),((),(false,((0:Int),())))),(([]:List (List UInt8)),(([]:List (Tx×Tx×List Tx×Tx×Int×Int×Bool×Unit)),()))):(Unit×Unit×Bool×Int×Unit)×List Tx×List aI×Unit)=(((),((),(false,(((0:Nat):Int),())))),(([]:List Tx),(([]:List aI),()))) from rfl,key,af];dsimp only;by_cases h:k<la.length
 ·rw[kj h,cg,ak,af,Py h];dsimp only;rw[show fQ (uK la.length di) k d la.length=qC (uK la.length di) k d from by
   have:=Py (l:=uK la.length di) (k:=k) (x:=d) (by omega);rw[hp] at this;exact this]
 ·obtain rfl:k=la.length:=by omega
  rw[mu h,cN,ai,show fits (plus (@len aI (fQ la la.length x la.length)) (@len aI [x]))=true from gD (by have:=CJ (l:=la) (k:=la.length) (x:=x) (i:=la.length);simp only[o7,vS];omega),ai,
   show fits (plus (@len Tx (fQ (uK la.length di) la.length d la.length)) (@len Tx [d]))=true from gD (by have:=CJ (l:=uK la.length di) (k:=la.length) (x:=d) (i:=la.length);simp only[o7,vS];omega),ai,af]
  dsimp only;rw[show app (fQ la la.length x la.length) [x]=qC la la.length x from MR,show app (fQ (uK la.length di) la.length d la.length) [d]=qC (uK la.length di) la.length d from by
   have:=MR (l:=uK la.length di) (x:=d);rw[hp] at this;exact this]
end Go.Ge
namespace Go.Ge
variable [Lp]
def newL(id parent:Tx)(given:List Tx):aI:=(id,(parent,(given,(s7 (mM 1024),(1024,(0,(true,())))))))
def mQ(s:cI)(on:Tx):Tx:=if on=[] then [] else(vE (vH s) on).1
def crG(s:cI)(on:Tx)(given:List Tx)(d:Int):cI×ac0×Unit :=
 if mY given≠0 then(s,(TI (mY given),())) else
 if on≠[]∧(vE (vH s) on).2.1≠0 then(s,(TI (vE (vH s) on).2.1,())) else
 if wF (vH s) [] given≠0 then(s,(TI (wF (vH s) [] given),())) else
 if(jM (vH s) d).2.1≠0 then(s,(TI (jM (vH s) d).2.1,())) else
 if mQ s on≠[]∧(bZ s.2.2.1 (mQ s on)).2=0∧16≤(bZ s.2.2.1 (mQ s on)).1.length then(s,(TI 5,())) else
 (MP s (newL (jM (vH s) d).1 (mQ s on) given) (mM 1024),(TJ (jM (vH s) d).1,()))
theorem tj(s:cI)(on:Tx)(given:List Tx)(d:Int)(h:Yq s)(hg:given.length≤4294967296) :
  cz (s,(on,(given,([],(d,())))))=some (crG s on given d):=by
 have hll:=h.ll;have n0:bI (0:Int) 0=true:=rfl;have es:bX ([]:List UInt8) ([]:List UInt8)=true:=rfl;unfold cz;dsimp only;simp only[n0,es,ai,ak,cg];rw[BC given hg,af];unfold crG;dsimp only;by_cases c1:mY given=0
 rotate_left
 ·rw[bG c1,bN c1];simp only[cN,ai,af,bN c1];rfl
 rw[bH (fun q=>q c1),dO c1];simp only[cg,ak,af,n0,QW];have hon:(aq (nt (decide (on=[]))) (aa (fC (s,(on,()))) fun y3=>some ((y3.2.1,()),(y3.1,()))) (some (((0:Int),()),(([]:Tx),())))) =
   some (((if on=[] then 0 else(vE (vH s) on).2.1),()),(mQ s on,())):=by
  unfold mQ;by_cases q:on=[]
  ·rw[kj q,cg,ak,bG q,bG q]
  ·rw[mu q,cN,ai,Km s on h,af,bH q,bH q]
 rw[show(aq (nt (decide (on=[]))) (aa (fC (s,(on,()))) fun y3=>some ((y3.2.1,()),(y3.1,()))) (some (((0:Int),()),(([]:List UInt8),()))))=_ from hon,af];dsimp only;have hif:(on≠[]∧(vE (vH s) on).2.1≠0)↔¬((if on=[] then 0 else(vE (vH s) on).2.1)=0):=by
  by_cases q:on=[]
  ·simp[q]
  ·simp[q]
 have hval:(on≠[]∧(vE (vH s) on).2.1≠0)→(if on=[] then 0 else(vE (vH s) on).2.1)=(vE (vH s) on).2.1:=fun q=>bH q.1;by_cases c2:(if on=[] then 0 else(vE (vH s) on).2.1)=0
 rotate_left
 ·rw[bG (hif.2 c2),bN c2];simp only[cN,ai,af,bN c2];rw[hval (hif.2 c2)];rfl
 rw[bH (fun q=>hif.1 q c2),dO c2];simp only[cg,ak];rw[yP s h,af,MD (vH s) [] given (Ic h) hg,af];dsimp only;by_cases c3:wF (vH s) [] given=0
 rotate_left
 ·rw[bG (show wF (vH s) [] given≠0 from c3),bN c3];simp only[cN,ai,af,bN c3];rfl
 rw[bH (show ¬(wF (vH s) [] given≠0) from fun q=>q c3),dO c3];simp only[cg,ak,af];rw[Yj,af];by_cases c4:(jM (vH s) d).2.1=0
 rotate_left
 ·rw[bG (show(jM (vH s) d).2.1≠0 from c4),bN c4];simp only[cN,ai,af,bN c4];rfl
 rw[bH (show ¬((jM (vH s) d).2.1≠0) from fun q=>q c4),dO c4];simp only[cg,ak];rw[V8 _ _ (by omega) h.ln,af];dsimp only;have hc:(aq (aq (aq (nt (decide (mQ s on=[]))) (bI (bZ s.2.2.1 (mQ s on)).2 0) false) (cK 16 (len (bZ s.2.2.1 (mQ s on)).1)) false) (some (((5:Int),()),(mQ s on,(s,())))) (some (((0:Int),()),(mQ s on,(s,()))))) =
   some (((if mQ s on≠[]∧(bZ s.2.2.1 (mQ s on)).2=0∧16≤(bZ s.2.2.1 (mQ s on)).1.length then 5 else 0),()),(mQ s on,(s,()))):=by
  have e16:cK (16:Int) (len (bZ s.2.2.1 (mQ s on)).1)=decide (16≤(bZ s.2.2.1 (mQ s on)).1.length):=by unfold cK len;apply decide_eq_decide.2;omega
  rw[e16,acU];by_cases q1:mQ s on=[]
  ·rw[kj q1,cg,ak,ak,ak,bH (fun q=>q.1 q1)]
  ·rw[mu q1,cN,ai];by_cases q2:(bZ s.2.2.1 (mQ s on)).2=0
   ·rw[kj q2,ai];by_cases q3:16≤(bZ s.2.2.1 (mQ s on)).1.length
    ·rw[kj q3,ai,bG ⟨q1,q2,q3⟩]
    ·rw[mu q3,ak,bH (fun q=>q3 q.2.2)]
   ·rw[mu q2,ak,ak,bH (fun q=>q2 q.2.1)]
 rw[show(aq (aq (aq (nt (decide (mQ s on=[]))) (bI (bZ s.2.2.1 (mQ s on)).2 0) false) (cK 16 (len (bZ s.2.2.1 (mQ s on)).1)) false) (some (((5:Int),()),(mQ s on,(s,())))) (some (((0:Int),()),(mQ s on,(s,())))))=_ from hc,af];dsimp only;by_cases c5:mQ s on≠[]∧(bZ s.2.2.1 (mQ s on)).2=0∧16≤(bZ s.2.2.1 (mQ s on)).1.length
 ·rw[bG c5,bG c5];rfl
 rw[bH c5,bH c5];simp only[n0,cg,ak,af,RN,ai];rw[TN,af,af];dsimp only;rw[show fits (plus (@len (List UInt8) []) (@len (List UInt8) given))=true from gD (by simp only[vS];omega),ai,aeE _ (by rw[vF];decide),af];dsimp only;rw[show @app (List UInt8) [] given=given from rfl,show @len UInt8 (mM 1024)=1024 from by unfold len;rw[vF];rfl];rw[show pZ (s,(((jM (vH s) d).1,(mQ s on,(given,(s7 (mM 1024),((1024:Int),((0:Int),(true,()))))))),(mM 1024,())))=some (MP s (newL (jM (vH s) d).1 (mQ s on) given) (mM 1024),()) from abr s (newL _ _ given) (mM 1024) (by omega),af];rfl
end Go.Ge
namespace Go.Ge
variable [Lp]
set_option maxRecDepth 100000
theorem Kx(s:cI)(h:Yq s):kP (s,())=some (vH s,()):=by
 unfold kP;dsimp only;rw[VM 3 _ h.aeI,af];rfl
theorem BV:mP ()=some (mM 1024,()):=by
 unfold mP;rw[cR (by decide) (by decide) (by decide),ai,show fits (1024:Int)=true from by unfold fits;exact kj (by decide),ai];kernel_rfl
theorem Il(s:cI)(given:List Tx)(d:Int)(h:Yq s)(hg:oA given) :
  p7 (s,([],(given,([],(d,())))))=some (crG s [] given d):=by
 have hll:=h.ll;have n0:bI (0:Int) 0=true:=rfl;have es:bX ([]:List UInt8) ([]:List UInt8)=true:=rfl;unfold p7;dsimp only;rw[BD given hg.small hg.each,af];unfold crG;dsimp only;by_cases c1:mY given=0
 rotate_left
 ·rw[bG c1,bN c1,cN,ai];rfl
 rw[bH (fun q=>q c1),dO c1,cg,ak,es,cg,ak,af,ak,ak,af];dsimp only;rw[show eY 0 0=true from rfl,ai,Kx s h,af,QG (vH s) [] given (Ic h) hg.small hg.each,af,bH (fun q=>q.1 rfl)];dsimp only;by_cases c3:wF (vH s) [] given=0
 rotate_left
 ·rw[bG (show wF (vH s) [] given≠0 from c3),bN c3,cN,ai];rfl
 rw[bH (show ¬(wF (vH s) [] given≠0) from fun q=>q c3),dO c3,cg,ak,af,show(vH s,()).1=vH s from rfl,Q5 (vH s) d (by have:=W7 h;omega),af];by_cases c4:(jM (vH s) d).2.1=0
 rotate_left
 ·rw[bG (show(jM (vH s) d).2.1≠0 from c4),bN c4,cN,ai];rfl
 rw[bH (show ¬((jM (vH s) d).2.1≠0) from fun q=>q c4),dO c4,cg,ak,es,cg,ak,af];have hp:mQ s []=[]:=bG rfl;rw[hp,bH (fun q=>q.1 rfl)];dsimp only;rw[show eY 0 0=true from rfl,ai,ai,BV,af,af];dsimp only;rw[show eY 0 0=true from rfl,ai,Yg _ (by rw[vF];decide),af];dsimp only;rw[show @len UInt8 (mM 1024)=1024 from by unfold len;rw[vF];rfl];rw[show p6 (s,(((jM (vH s) d).1,(([]:Tx),(given,(s7 (mM 1024),((1024:Int),((0:Int),(true,()))))))),(mM 1024,())))=some (MP s (newL (jM (vH s) d).1 [] given) (mM 1024),()) from Q6 s (newL _ _ given) (mM 1024) (by omega),af];rfl
theorem V0.hd{s:cI}(h:V0 s):Yq s:=⟨h.base.ll,h.base.il,h.base.bl,h.base.ln,h.base.qO,h.base.bn,fun x hx=>(h.base.im x hx).2⟩
structure abx (s:cI):Prop where
 bl:s.1.length≤1000000
 il:s.2.1.length≤1000000
 ll:s.2.2.1.length≤1000000
 dl:s.2.2.2.1.length≤1000000
 ml:s.2.2.2.2.1.length≤1000000
 xb:∀x∈s.1,oA x.2.1∧H9 x.2.2.2.2.2.1
 xi:∀x∈s.2.1,oA x.2.1∧H9 x.2.2.2.2.1
 xl:∀x∈s.2.2.1,oA x.2.2.1
theorem MT{s:cI}(h:abx s):ke (s,(s,()))=some (true,()):=by
 unfold ke;dsimp only;rw[V7 _ h.bl h.xb,af];dsimp only;rw[ai,TK _ h.il h.xi,af,af,ai,TL _ h.ll h.xl,af,af,ai,zT _ (by have:=h.dl;omega),af,af,ai,TM _ h.ml,af];rfl
theorem V0.slf{s:cI}(h:V0 s):abx s:=⟨by have:=h.base.bl;dsimp only at this;omega,by have:=h.base.il;dsimp only at this;omega,by have:=h.lays;omega,by have:=h.agb;omega,by have:=h.mts;omega,
 fun x hx=>⟨h.base.bn x hx,(h.base.bm x hx).2⟩,fun x hx=>⟨h.base.qO x hx,(h.base.im x hx).2⟩,h.base.ln⟩
theorem Yz{s:cI}(h:V0 s){x:aI}(hx:oA x.2.2.1)(d:Tx):abx (MP s x d):=by
 have h0:=h.slf;have h1:=h.lays;refine⟨h0.bl,h0.il,?_,?_,h0.ml,h0.xb,h0.xi,fun y hy=>?_⟩
 ·show(MM (fun y:aI=>y.1) s.2.2.1 x).length≤1000000
  rw[abo];omega
 ·show(qC _ _ _).length≤1000000
  unfold qC;simp only[uV,o6,w8,BU,o7,vS];omega
 ·rcases(abn (fun y:aI=>y.1)).1 hy with rfl|hy
  ·exact hx
  ·exact h0.xl y hy
theorem adb{s:cI}(h:V0 s)(given:List Tx)(hg:oA given)(d:Int):abx (crG s [] given d).1:=by
 unfold crG;split
 ·exact h.slf
 split
 ·exact h.slf
 split
 ·exact h.slf
 split
 ·exact h.slf
 split
 ·exact h.slf
 ·exact Yz h hg _
def e0:cI:=([],([],([],([],([],())))))
def e5:Tx:=[48,48,48,48,48,53]
def e6:Tx:=[48,48,48,48,48,54]
def eb:Tx:=[98,97,115,101]
def L5(D:Tx):aI:=(e5,([],([eb],(D,(1024,(0,(true,())))))))
def L6(D:Tx):aI:=(e6,(e5,([],(D,(1024,(0,(true,())))))))
def s1(D N:Tx):cI:=([],([],([L5 D],([N],([],())))))
def s2(D N:Tx):cI:=([],([],([L5 D,L6 D],([N,N],([],())))))
def s3(D N:Tx):cI:=([],([],([L5 D,L6 D],([N,N],([(e6,(1,()))],())))))
theorem ago:crG e0 [] [eb] 5=(s1 (s7 (mM 1024)) (mM 1024),(TJ e5,())):=by
 have h1:mY [eb]=0:=by kernel_rfl
 have h2:wF (vH e0) [] [eb]=0:=by kernel_rfl
 have h3:jM (vH e0) 5=(e5,(0,())):=by kernel_rfl
 unfold crG;rw[bH (fun q=>q h1),bH (fun q=>q.1 rfl),bH (fun q=>q h2),h3,bH (fun q=>q rfl),bH (fun q=>q.1 (bG rfl)),show mQ e0 []=[] from bG rfl];rfl
theorem agp:crG (s1 (s7 (mM 1024)) (mM 1024)) eb [] 5=(s2 (s7 (mM 1024)) (mM 1024),(TJ e6,())):=by
 have h1:mY []=0:=by kernel_rfl
 have h0:∀D N,vE (vH (s1 D N)) eb=(e5,(0,())):=fun D N=>by kernel_rfl
 have h2:∀D N,wF (vH (s1 D N)) [] []=0:=fun D N=>by kernel_rfl
 have h3:∀D N,jM (vH (s1 D N)) 5=(e6,(0,())):=fun D N=>by kernel_rfl
 have h4:∀D,bZ [L5 D] e5=([L5 D],0):=fun D=>by kernel_rfl
 have hp:mQ (s1 (s7 (mM 1024)) (mM 1024)) eb=e5:=by
  unfold mQ;rw[bH (by decide),h0]
 unfold crG;rw[bH (fun q=>q h1),h0,bH (fun q=>q.2 rfl),bH (fun q=>q (h2 _ _)),h3,bH (fun q=>q rfl),hp,show(s1 (s7 (mM 1024)) (mM 1024)).2.2.1=[L5 (s7 (mM 1024))] from rfl,h4,bH (fun q=>absurd q.2.2 (by decide))];rfl
theorem ade:nI ()=some (true,()):=by
 rename_i i;have g0:Yq e0:=⟨by decide,by decide,by decide,fun x hx=>(by cases hx),fun x hx=>(by cases hx),fun x hx=>(by cases hx),fun x hx=>(by cases hx)⟩;have hL5:∀D N,∀x∈(s1 D N).2.2.1,oA x.2.2.1:=fun D N x hx=>by
  obtain rfl:=List.mem_singleton.1 hx;exact⟨by show 1≤8;decide,fun y hy=>by obtain rfl:=List.mem_singleton.1 hy;show 4≤100;decide⟩
 have g1:∀D N,Yq (s1 D N):=fun D N=>⟨by show 1≤40;decide,by show 0≤40;decide,by show 0≤40;decide,hL5 D N,fun x hx=>(by cases hx),fun x hx=>(by cases hx),fun x hx=>(by cases hx)⟩;have q1:∀D N,abx (s1 D N):=fun D N=>⟨by show 0≤1000000;decide,by show 0≤1000000;decide,by show 1≤1000000;decide,by show 1≤1000000;decide,by show 0≤1000000;decide,fun x hx=>(by cases hx),fun x hx=>(by cases hx),hL5 D N⟩;have c1:=tj e0 [] [eb] 5 g0 (by decide);have c2:=tj (s1 (s7 (mM 1024)) (mM 1024)) eb [] 5 (g1 _ _) (by decide);rw[ago] at c1;rw[agp] at c2;have d1:∀D N,dz (s2 D N,(eb,()))=some (s2 D N,(TI 7,())):=fun D N=>by
  obtain rfl:i=Lp.R4:=Lp.one _ _;kernel_rfl
 have d2:∀D N,p5 (s2 D N,(e6,()))=some (s3 D N,((0,(e6,(1,([],())))),())):=fun D N=>by
  obtain rfl:i=Lp.R4:=Lp.one _ _;kernel_rfl
 have d3:∀D N,dz (s3 D N,(e6,()))=some (s3 D N,(TI 7,())):=fun D N=>by
  obtain rfl:i=Lp.R4:=Lp.one _ _;kernel_rfl
 have d4:∀D N,mO (s3 D N,(e6,()))=some (s2 D N,(TJ e6,())):=fun D N=>by
  obtain rfl:i=Lp.R4:=Lp.one _ _;kernel_rfl
 have d5:∀D N,dz (s2 D N,(e6,()))=some (s1 D N,(TJ e6,())):=fun D N=>by
  obtain rfl:i=Lp.R4:=Lp.one _ _;kernel_rfl
 have d6:∀D N,cz (s1 D N,([],([],([120],(1,())))))=some (s1 D N,(TI 10,())):=fun D N=>by
  unfold cz;dsimp only;rw[BC [] (by decide),af];obtain rfl:i=Lp.R4:=Lp.one _ _;kernel_rfl
 have d7:∀D N,rW (s1 D N,([48],()))=some ((0,(e5,(0,(N,())))),()):=fun D N=>by
  obtain rfl:i=Lp.R4:=Lp.one _ _;kernel_rfl
 have d8:∀D N,ke (s1 D N,(s1 D N,()))=some (true,()):=fun D N=>MT (q1 D N);unfold nI;rw[show cz ((([]:List QI),(([]:List zL),(([]:List aI),(([]:List Tx),(([]:List QV),()))))),(([]:Tx),(([([98,97,115,101]:Tx)]:List Tx),(([]:Tx),((5:Int),())))))=_ from c1,af];dsimp only;rw[show cz (s1 (s7 (mM 1024)) (mM 1024),(([98,97,115,101]:Tx),(([]:List Tx),(([]:Tx),((5:Int),())))))=_ from c2,af];dsimp only;rw[show dz (s2 (s7 (mM 1024)) (mM 1024),(([98,97,115,101]:Tx),()))=_ from d1 _ _,af];dsimp only;rw[show p5 (s2 (s7 (mM 1024)) (mM 1024),(([48,48,48,48,48,54]:Tx),()))=_ from d2 _ _,af];dsimp only;rw[show dz (s3 (s7 (mM 1024)) (mM 1024),(([48,48,48,48,48,54]:Tx),()))=_ from d3 _ _,af];dsimp only;rw[show mO (s3 (s7 (mM 1024)) (mM 1024),(([48,48,48,48,48,54]:Tx),()))=_ from d4 _ _,af];dsimp only;rw[show dz (s2 (s7 (mM 1024)) (mM 1024),(([48,48,48,48,48,54]:Tx),()))=_ from d5 _ _,af];dsimp only;rw[show cz (s1 (s7 (mM 1024)) (mM 1024),(([]:Tx),(([]:List Tx),(([120]:Tx),((1:Int),())))))=_ from d6 _ _,af];dsimp only;rw[show ke (s1 (s7 (mM 1024)) (mM 1024),(s1 (s7 (mM 1024)) (mM 1024),()))=_ from d8 _ _,af,show rW (s1 (s7 (mM 1024)) (mM 1024),(([48]:Tx),()))=_ from d7 _ _,af,BV,TN];simp only[af,qW];rfl
theorem aby(a:ac0):an (bI a.1 a.1) (an (bX a.2.1 a.2.1) (an (bI a.2.2.1 a.2.2.1) (an (bX a.2.2.2.1 a.2.2.2.1) true)))=true:=by
 simp only[vm,qW];rfl
theorem Ky(s:cI)(given:List Tx)(d:Int):jw (s,(given,(d,())))=some (true,()):=by
 obtain⟨b1,e1,f1⟩:=Ym s;obtain⟨b2,e2,f2⟩:=QH given;unfold jw;dsimp only;rw[e1,af,e2];dsimp only;rw[ade];cases b1 with
 | false=>rfl
 | true =>
   cases b2 with
   | false=>rfl
   | true =>
     have hs:=f1 rfl;have hg:=f2 rfl;simp only[cg,cN,ai,ak,af];rw[tj s [] given d hs.hd hg.small,af,Il s given d hs.hd hg,af];rw[MT (adb hs given hg d),af];dsimp only;rw[aby (crG s [] given d).2.1];rfl
end Go.Ge
