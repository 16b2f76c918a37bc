/- Plain laws of what the functions compute: part 2. -/
import Derived.Test.YtjkmocnbjhpilaaGreatDoorPlA
import Derived.Test.YtjkmocnbjhpilaaGreatDoorGeI
namespace Go.Ge
set_option linter.unusedVariables false
set_option maxRecDepth 100000
abbrev aP:=(Sb×Int×Int×Sb×Sb×Unit)
abbrev gm:=((Sb×Int×Int×Int×Int×Int×Int×Sb×Unit)×Sb×Unit)
abbrev ep:=((Sb×Unit)⊕((Sb×Unit)⊕(Unit⊕((aP×Unit)⊕Unit))))
abbrev fD:=((List aP)×(List aP)×Int×Sb×Int×Unit)
abbrev Jj:=(Bool×Int×Unit)
abbrev E5:=(Sb×Int×Int×Int×Int×Int×Int×Sb×Unit)
abbrev tu:=((List aP)×Int×(List aP)×Int×Unit)
abbrev Yg:=(Sb×Bool×Int×Unit)
abbrev nJ:=((List aP)×(List aP)×Int×Int×Unit)
abbrev eP:=((List aP)×Int×Unit)
abbrev Xs:=(Sb×(List gm)×Bool×Unit×Unit)
abbrev DV:=(Nat×Jj×Unit)
abbrev Xt:=(Bool×(List aP)×Int×Unit)
abbrev sO:=((Sb×Unit)⊕(Unit⊕((aP×Unit)⊕Unit)))
abbrev xU:=((List UInt8)×(Int×(Int×((List UInt8)×((List UInt8)×Unit)))))
abbrev pH:=((List ep)×Bool×Unit×Int×Unit)
abbrev pI:=(Bool×Sb×Int×Unit)
abbrev DW:=(Jj×Unit)
abbrev gJ:=(Sb×Unit)
abbrev qS:=(Unit×Sb×Int×Unit)
noncomputable def ff(y2:(List Sb)×Unit)(y3:qS×(List aP)×Unit):Option ((qS×(List aP)×Unit)⊕(qS×(List aP)×Unit)) :=
 @jj (qS×(List aP)×Unit) (au (cm y3.1.2.2.1 (@len Sb y2.1))
 (ah (@idx Sb y2.1 y3.1.2.2.1) (fun(y4:List (UInt8))=>ah (je (y3.1.2.1,(y4,()))) (fun(y5:Sb×Unit)=>au (fits (plus (@len aP y3.2.1) (@len aP ([(y5.1,((2:Int),((0:Int),(([]:List (UInt8)),(([]:List (UInt8)),())))))]:List aP))))
 (some (Sum.inl (((),(y5.1,(bn IntKind.i64 y3.1.2.2.1 (1:Int),()))),(@app aP y3.2.1 ([(y5.1,((2:Int),((0:Int),(([]:List (UInt8)),(([]:List (UInt8)),())))))]:List aP),())):((qS×(List aP)×Unit))⊕((Nat×qS×(List aP)×Unit))))
 none)))
 (some (Sum.inr ((0:Nat),(((),(y3.1.2.1,(y3.1.2.2.1,()))),(y3.2.1,()))):((qS×(List aP)×Unit))⊕((Nat×qS×(List aP)×Unit)))))
noncomputable def dn(x:aP×Unit):Option (Bool×Unit) :=
 ah (dX (x.1.1,())) (fun(y1:Sb×Sb×Unit)=>ah (dW (y1.1,())) (fun(y2:(List Sb)×Unit)=>ah (Loop (ff y2) (((),(([]:List (UInt8)),((0:Int),()))),(([]:List aP),()))) (fun(y3:qS×(List aP)×Unit)=>au (nt (bZ x.1.1 ([]:List (UInt8))))
 (au (fits (plus (@len aP y3.2.1) (@len aP ([x.1]:List aP))))
 (ah (dm (@app aP y3.2.1 ([x.1]:List aP),())) (fun(y4:Int×Unit)=>some (bp y4.1 (0:Int),())))
 none)
 (some (false,())))))
noncomputable def jv(x:Sb×Unit):Option (Bool×Unit) :=
 ah (au (nt (bZ x.1 ([]:List (UInt8))))
 (ah (dn ((x.1,((2:Int),((0:Int),(([]:List (UInt8)),(([]:List (UInt8)),()))))),())) (fun(y1:Bool×Unit)=>some y1.1))
 (some true)) (fun(y1:Bool)=>some (y1,()))
noncomputable def gd(x:gJ×(List aP)×Unit):Option ((List aP)×Unit) :=
 ah (pF (x.2.1,(x.1.1,()))) (fun(y1:(List aP)×Unit)=>some (y1.1,()))
noncomputable def qw(x:gJ×(List aP)×Unit):Option eP :=
 some (x.2.1,((0:Int),()))
noncomputable def eV(x:gJ×(List aP)×Unit):Option ((List aP)×Unit) :=
 ah (qP (x.2.1,(x.1.1,()))) (fun(y1:(List aP)×Unit)=>some (y1.1,()))
noncomputable def n7(x:gJ×(List aP)×Unit):Option eP :=
 some (x.2.1,((0:Int),()))
noncomputable def n8(x:Unit×(List aP)×Unit):Option ((List aP)×Unit) :=
 some (x.2.1,())
noncomputable def qx(x:Unit×(List aP)×Unit):Option eP :=
 some (x.2.1,((0:Int),()))
noncomputable def n9(x:(aP×Unit)×(List aP)×Unit):Option ((List aP)×Unit) :=
 some (x.2.1,())
noncomputable def er(y2:(List Sb)×Unit)(y3:fD×Unit):Option ((fD×Unit)⊕(Nat×fD×Unit)) :=
 au (cm y3.1.2.2.2.2.1 (@len Sb y2.1))
 (ah (@idx Sb y2.1 y3.1.2.2.2.2.1) (fun(y4:List (UInt8))=>ah (je (y3.1.2.2.2.1,(y4,()))) (fun(y5:Sb×Unit)=>ah (mJ (y3.1.1,(y5.1,()))) (fun(y6:aP×Bool×Unit)=>au (au y6.2.1
 (bp y6.1.2.1 (2:Int))
 false)
 (some (Sum.inl ((y3.1.1,(y3.1.2.1,(y3.1.2.2.1,(y5.1,(bn IntKind.i64 y3.1.2.2.2.2.1 (1:Int),()))))),()):((fD×Unit))⊕((Nat×fD×Unit))))
 (ah (oH (y3.1.1,((y5.1,((2:Int),((493:Int),(([]:List (UInt8)),(([]:List (UInt8)),()))))),()))) (fun(y7:(List aP)×Int×Unit)=>au (nt (bp y7.2.1 (0:Int)))
 (some (Sum.inr ((1:Nat),((y3.1.1,(([]:List aP),(y7.2.1,(y5.1,(y3.1.2.2.2.2.1,()))))),())):((fD×Unit))⊕((Nat×fD×Unit))))
 (some (Sum.inl ((y7.1,(y3.1.2.1,(y3.1.2.2.1,(y5.1,(bn IntKind.i64 y3.1.2.2.2.2.1 (1:Int),()))))),()):((fD×Unit))⊕((Nat×fD×Unit))))))))))
 (some (Sum.inr ((0:Nat),((y3.1.1,(y3.1.2.1,(y3.1.2.2.1,(y3.1.2.2.2.1,(y3.1.2.2.2.2.1,()))))),())):((fD×Unit))⊕((Nat×fD×Unit))))
noncomputable def ir(x:(aP×Unit)×(List aP)×Unit):Option eP :=
 ah (dX (x.1.1.1,())) (fun(y1:Sb×Sb×Unit)=>ah (dW (y1.1,())) (fun(y2:(List Sb)×Unit)=>ah (Loop (er y2) ((x.2.1,(([]:List aP),((0:Int),(([]:List (UInt8)),((0:Int),()))))),())) (fun(y3:Nat×fD×Unit)=>au (tM y3.1 (0:Nat))
 (ah (oH (y3.2.1.1,(x.1.1,()))) (fun(y4:(List aP)×Int×Unit)=>some (y4.1,(y4.2.1,()))))
 (some (y3.2.1.2.1,(y3.2.1.2.2.1,()))))))
noncomputable def nK(x:gm×Unit):Option (ep×Bool×Unit) :=
 ah (lH (x.1.1.1,())) (fun(y1:Sb×Int×Unit)=>au (nt (bp y1.2.1 (0:Int)))
 (some ((Sum.inr (Sum.inr (Sum.inr (Sum.inr ():((aP×Unit))⊕(Unit)):(Unit)⊕(((aP×Unit)⊕Unit))):(gJ)⊕((Unit⊕((aP×Unit)⊕Unit)))):(gJ)⊕(sO)),(false,())))
 (ah (dX (y1.1,())) (fun(y2:Sb×Sb×Unit)=>ah (nB (y2.2.1,())) (fun(y3:Int×Sb×Unit)=>au (bp y3.1 (1:Int))
 (ah (je (y2.1,(y3.2.1,()))) (fun(y4:Sb×Unit)=>ah (au (au (bp x.1.1.2.1 (1:Int))
 (bZ x.1.2.1 ([]:List (UInt8)))
 false)
 (ah (jv (y4.1,())) (fun(y5:Bool×Unit)=>some y5.1))
 (some false)) (fun(y5:Bool)=>some ((Sum.inl (y4.1,()):(gJ)⊕(sO)),(y5,())))))
 (au (bp y3.1 (2:Int))
 (ah (au (au (bp x.1.1.2.1 (1:Int))
 (bZ x.1.2.1 ([]:List (UInt8)))
 false)
 (ah (jv (y2.1,())) (fun(y4:Bool×Unit)=>some y4.1))
 (some false)) (fun(y4:Bool)=>some ((Sum.inr (Sum.inl (y2.1,()):(gJ)⊕((Unit⊕((aP×Unit)⊕Unit)))):(gJ)⊕(sO)),(y4,()))))
 (au (bp y3.1 (3:Int))
 (some ((Sum.inr (Sum.inr (Sum.inr (Sum.inr ():((aP×Unit))⊕(Unit)):(Unit)⊕(((aP×Unit)⊕Unit))):(gJ)⊕((Unit⊕((aP×Unit)⊕Unit)))):(gJ)⊕(sO)),(false,())))
 (au (au (bZ y1.1 ([]:List (UInt8)))
 (bp x.1.1.2.1 (2:Int))
 false)
 (some ((Sum.inr (Sum.inr (Sum.inl ():(Unit)⊕(((aP×Unit)⊕Unit))):(gJ)⊕((Unit⊕((aP×Unit)⊕Unit)))):(gJ)⊕(sO)),(true,())))
 (ah (dn ((y1.1,(x.1.1.2.1,(x.1.1.2.2.1,(x.1.2.1,(x.1.1.2.2.2.2.2.2.2.1,()))))),())) (fun(y4:Bool×Unit)=>some ((Sum.inr (Sum.inr (Sum.inr (Sum.inl ((y1.1,(x.1.1.2.1,(x.1.1.2.2.1,(x.1.2.1,(x.1.1.2.2.2.2.2.2.2.1,()))))),()):((aP×Unit))⊕(Unit)):(Unit)⊕(((aP×Unit)⊕Unit))):(gJ)⊕((Unit⊕((aP×Unit)⊕Unit)))):(gJ)⊕(sO)),(y4.1,())))))))))))
noncomputable def eI(x:(List gm)×Unit)(y1:pH×(List ep)×Unit):Option ((pH×(List ep)×Unit)⊕(Nat×pH×(List ep)×Unit)) :=
 au (cm y1.1.2.2.2.1 (@len gm x.1))
 (ah (@idx gm x.1 y1.1.2.2.2.1) (fun(y2:E5×Sb×Unit)=>ah (nK (y2,())) (fun(y3:ep×Bool×Unit)=>au (nt y3.2.1)
 (some (Sum.inr ((1:Nat),((([]:List ep),(false,((),(y1.1.2.2.2.1,())))),(y1.2.1,()))):((pH×(List ep)×Unit))⊕((Nat×pH×(List ep)×Unit))))
 (au (fits (plus (@len ep y1.2.1) (@len ep ([y3.1]:List ep))))
 (some (Sum.inl ((y1.1.1,(y1.1.2.1,((),(bn IntKind.i64 y1.1.2.2.2.1 (1:Int),())))),(@app ep y1.2.1 ([y3.1]:List ep),())):((pH×(List ep)×Unit))⊕((Nat×pH×(List ep)×Unit))))
 none))))
 (some (Sum.inr ((0:Nat),((y1.1.1,(y1.1.2.1,((),(y1.1.2.2.2.1,())))),(y1.2.1,()))):((pH×(List ep)×Unit))⊕((Nat×pH×(List ep)×Unit))))
noncomputable def lU(x:(List gm)×Unit):Option ((List ep)×Bool×Unit) :=
 ah (Loop (eI x) ((([]:List ep),(false,((),((0:Int),())))),(([]:List ep),()))) (fun(y1:Nat×pH×(List ep)×Unit)=>au (tM y1.1 (0:Nat))
 (some (y1.2.2.1,(true,())))
 (some (y1.2.1.1,(y1.2.1.2.1,()))))
noncomputable def kQ(x:((((List UInt8)×Unit)⊕(((List UInt8)×Unit)⊕(Unit⊕((xU×Unit)⊕Unit))))×((List xU)×Unit))):Option ((List xU)×Unit) :=
 (fun z=>pick (fun y=>gd (y,x.2)) (fun z=>pick (fun y=>eV (y,x.2)) (fun z=>pick (fun y=>n8 (y,x.2)) (fun z=>pick (fun y=>n9 (y,x.2)) (fun _=>none) z) z) z) z) x.1
noncomputable def oI(x:((((List UInt8)×Unit)⊕(((List UInt8)×Unit)⊕(Unit⊕((xU×Unit)⊕Unit))))×((List xU)×Unit))):Option ((List xU)×(Int×Unit)) :=
 (fun z=>pick (fun y=>qw (y,x.2)) (fun z=>pick (fun y=>n7 (y,x.2)) (fun z=>pick (fun y=>qx (y,x.2)) (fun z=>pick (fun y=>ir (y,x.2)) (fun _=>none) z) z) z) z) x.1
noncomputable def iH(y2:(List ep)×Bool×Unit)(y3:eP×Unit):Option ((eP×Unit)⊕(eP×Unit)) :=
 @jj (eP×Unit) (au (cm y3.1.2.1 (@len ep y2.1))
 (ah (@idx ep y2.1 y3.1.2.1) (fun(y4:gJ⊕sO)=>ah (kQ (y4,(y3.1.1,()))) (fun(y5:(List aP)×Unit)=>some (Sum.inl ((y5.1,(bn IntKind.i64 y3.1.2.1 (1:Int),())),()):((eP×Unit))⊕((Nat×eP×Unit))))))
 (some (Sum.inr ((0:Nat),((y3.1.1,(y3.1.2.1,())),())):((eP×Unit))⊕((Nat×eP×Unit)))))
noncomputable def iI(y2:(List ep)×Bool×Unit)(y4:tu×Unit):Option ((tu×Unit)⊕(Nat×tu×Unit)) :=
 au (cm y4.1.2.2.2.1 (@len ep y2.1))
 (ah (@idx ep y2.1 y4.1.2.2.2.1) (fun(y5:gJ⊕sO)=>ah (oI (y5,(y4.1.2.2.1,()))) (fun(y6:(List aP)×Int×Unit)=>au (nt (bp y6.2.1 (0:Int)))
 (some (Sum.inr ((1:Nat),((([]:List aP),(y6.2.1,(y4.1.2.2.1,(y4.1.2.2.2.1,())))),())):((tu×Unit))⊕((Nat×tu×Unit))))
 (some (Sum.inl ((y4.1.1,(y4.1.2.1,(y6.1,(bn IntKind.i64 y4.1.2.2.2.1 (1:Int),())))),()):((tu×Unit))⊕((Nat×tu×Unit)))))))
 (some (Sum.inr ((0:Nat),((y4.1.1,(y4.1.2.1,(y4.1.2.2.1,(y4.1.2.2.2.1,())))),())):((tu×Unit))⊕((Nat×tu×Unit))))
noncomputable def lK(x:(List aP)×(List gm)×Unit):Option eP :=
 ah (dm (x.1,())) (fun(y1:Int×Unit)=>au (nt (bp y1.1 (0:Int)))
 (some (([]:List aP),((1:Int),())))
 (ah (lU (x.2.1,())) (fun(y2:(List ep)×Bool×Unit)=>au (nt y2.2.1)
 (some (([]:List aP),((10:Int),())))
 (au (fits (plus (@len aP ([]:List aP)) (@len aP x.1)))
 (ah (Loop (iH y2) ((@app aP ([]:List aP) x.1,((0:Int),())),())) (fun(y3:eP×Unit)=>ah (Loop (iI y2) ((([]:List aP),((0:Int),(y3.1.1,((0:Int),())))),())) (fun(y4:Nat×tu×Unit)=>au (tM y4.1 (0:Nat))
 (some (y4.2.1.2.2.1,((0:Int),())))
 (some (y4.2.1.1,(y4.2.1.2.1,()))))))
 none))))
noncomputable def nL(x:gm×Sb×Unit):Option (aP×Unit) :=
 some ((x.2.1,(x.1.1.2.1,(x.1.1.2.2.1,(x.1.2.1,(x.1.1.2.2.2.2.2.2.2.1,()))))),())
noncomputable def eW(y1:(List Sb)×Unit)(y2:pI×Unit):Option ((pI×Unit)⊕(Nat×pI×Unit)) :=
 au (cm y2.1.2.2.1 (@len Sb y1.1))
 (ah (@idx Sb y1.1 y2.1.2.2.1) (fun(y3:List (UInt8))=>ah (kP (y2.1.2.1,(y3,()))) (fun(y4:Sb×Unit)=>ah (iV ((y4.1,((2:Int),((0:Int),(([]:List (UInt8)),(([]:List (UInt8)),()))))),())) (fun(y5:Bool×Unit)=>au (nt y5.1)
 (some (Sum.inr ((1:Nat),((false,(y4.1,(y2.1.2.2.1,()))),())):((pI×Unit))⊕((Nat×pI×Unit))))
 (some (Sum.inl ((y2.1.1,(y4.1,(bn IntKind.i64 y2.1.2.2.1 (1:Int),()))),()):((pI×Unit))⊕((Nat×pI×Unit))))))))
 (some (Sum.inr ((0:Nat),((y2.1.1,(y2.1.2.1,(y2.1.2.2.1,()))),())):((pI×Unit))⊕((Nat×pI×Unit))))
noncomputable def iJ(x:Sb×Unit):Option (Bool×Unit) :=
 ah (cY (x.1,())) (fun(y1:(List Sb)×Unit)=>ah (Loop (eW y1) ((false,(([]:List (UInt8)),((0:Int),()))),())) (fun(y2:Nat×pI×Unit)=>au (tM y2.1 (0:Nat))
 (some (nt (bZ x.1 ([]:List (UInt8))),()))
 (some (y2.2.1.1,()))))
noncomputable def kR(x:gm×Unit):Option (Int×Sb×Bool×Unit) :=
 ah (pn (x.1.1.1,())) (fun(y1:Sb×Int×Unit)=>au (nt (bp y1.2.1 (0:Int)))
 (some ((0:Int),(([]:List (UInt8)),(false,()))))
 (ah (gW (y1.1,())) (fun(y2:Sb×Sb×Unit)=>ah (nD (y2.2.1,())) (fun(y3:Int×Sb×Unit)=>au (bp y3.1 (1:Int))
 (ah (kP (y2.1,(y3.2.1,()))) (fun(y4:Sb×Unit)=>ah (au (au (bp x.1.1.2.1 (1:Int))
 (bZ x.1.2.1 ([]:List (UInt8)))
 false)
 (ah (iJ (y4.1,())) (fun(y5:Bool×Unit)=>some y5.1))
 (some false)) (fun(y5:Bool)=>some (y3.1,(y4.1,(y5,()))))))
 (au (bp y3.1 (2:Int))
 (ah (au (au (bp x.1.1.2.1 (1:Int))
 (bZ x.1.2.1 ([]:List (UInt8)))
 false)
 (ah (au (nt (bZ y2.1 ([]:List (UInt8))))
 (ah (iJ (y2.1,())) (fun(y4:Bool×Unit)=>some y4.1))
 (some true)) (fun(y4:Bool)=>some y4))
 (some false)) (fun(y4:Bool)=>some (y3.1,(y2.1,(y4,())))))
 (au (bp y3.1 (0:Int))
 (ah (au (nt (au (bZ y1.1 ([]:List (UInt8)))
 (bp x.1.1.2.1 (2:Int))
 false))
 (ah (nL (x.1,(y1.1,()))) (fun(y4:aP×Unit)=>ah (iV (y4.1,())) (fun(y5:Bool×Unit)=>ah (au y5.1
 (ah (iJ (y1.1,())) (fun(y6:Bool×Unit)=>some y6.1))
 (some false)) (fun(y6:Bool)=>some y6))))
 (some true)) (fun(y4:Bool)=>some (y3.1,(y1.1,(y4,())))))
 (some ((0:Int),(([]:List (UInt8)),(false,()))))))))))
noncomputable def kS(x:(List gm)×Unit)(y1:Jj×Unit):Option (DW⊕DV) :=
 au (cm y1.1.2.1 (@len gm x.1))
 (ah (@idx gm x.1 y1.1.2.1) (fun(y2:E5×Sb×Unit)=>ah (kR (y2,())) (fun(y3:Int×Sb×Bool×Unit)=>au (nt y3.2.2.1)
 (some (Sum.inr ((1:Nat),((false,(y1.1.2.1,())),())):(DW)⊕(DV)))
 (some (Sum.inl ((y1.1.1,(bn IntKind.i64 y1.1.2.1 (1:Int),())),()):(DW)⊕(DV))))))
 (some (Sum.inr ((0:Nat),((y1.1.1,(y1.1.2.1,())),())):(DW)⊕(DV)))
noncomputable def pJ(x:(List gm)×Unit):Option (Bool×Unit) :=
 ah (Loop (kS x) ((false,((0:Int),())),())) (fun(y1:Nat×Jj×Unit)=>au (tM y1.1 (0:Nat))
 (some (true,()))
 (some (y1.2.1.1,())))
noncomputable def jw(y1:(List Sb)×Unit)(y2:fD×Unit):Option ((fD×Unit)⊕(Nat×fD×Unit)) :=
 au (cm (bn IntKind.i64 y2.1.2.2.2.2.1 (1:Int)) (@len Sb y1.1))
 (ah (@idx Sb y1.1 y2.1.2.2.2.2.1) (fun(y3:List (UInt8))=>ah (kP (y2.1.2.2.2.1,(y3,()))) (fun(y4:Sb×Unit)=>ah (qO (y2.1.1,(y4.1,()))) (fun(y5:aP×Bool×Unit)=>au (au y5.2.1
 (bp y5.1.2.1 (2:Int))
 false)
 (some (Sum.inl ((y2.1.1,(y2.1.2.1,(y2.1.2.2.1,(y4.1,(bn IntKind.i64 y2.1.2.2.2.2.1 (1:Int),()))))),()):((fD×Unit))⊕((Nat×fD×Unit))))
 (ah (kr (y2.1.1,((y4.1,((2:Int),((493:Int),(([]:List (UInt8)),(([]:List (UInt8)),()))))),()))) (fun(y6:(List aP)×Int×Unit)=>au (nt (bp y6.2.1 (0:Int)))
 (some (Sum.inr ((1:Nat),((y2.1.1,(([]:List aP),(y6.2.1,(y4.1,(y2.1.2.2.2.2.1,()))))),())):((fD×Unit))⊕((Nat×fD×Unit))))
 (some (Sum.inl ((y6.1,(y2.1.2.1,(y2.1.2.2.1,(y4.1,(bn IntKind.i64 y2.1.2.2.2.2.1 (1:Int),()))))),()):((fD×Unit))⊕((Nat×fD×Unit))))))))))
 (some (Sum.inr ((0:Nat),((y2.1.1,(y2.1.2.1,(y2.1.2.2.1,(y2.1.2.2.2.1,(y2.1.2.2.2.2.1,()))))),())):((fD×Unit))⊕((Nat×fD×Unit))))
noncomputable def qT(x:(List aP)×Sb×Unit):Option eP :=
 ah (cY (x.2.1,())) (fun(y1:(List Sb)×Unit)=>ah (Loop (jw y1) ((x.1,(([]:List aP),((0:Int),(([]:List (UInt8)),((0:Int),()))))),())) (fun(y2:Nat×fD×Unit)=>au (tM y2.1 (0:Nat))
 (some (y2.2.1.1,((0:Int),())))
 (some (y2.2.1.2.1,(y2.2.1.2.2.1,())))))
noncomputable def ku(x:(List aP)×(List gm)×Unit)(y3:eP×Unit):Option ((eP×Unit)⊕(eP×Unit)) :=
 @jj (eP×Unit) (au (cm y3.1.2.1 (@len gm x.2.1))
 (ah (@idx gm x.2.1 y3.1.2.1) (fun(y4:E5×Sb×Unit)=>ah (kR (y4,())) (fun(y5:Int×Sb×Bool×Unit)=>ah (au (bp y5.1 (1:Int))
 (ah (nG (y3.1.1,(y5.2.1,()))) (fun(y6:(List aP)×Unit)=>some ((y6.1,()),())))
 (ah (au (bp y5.1 (2:Int))
 (ah (pG (y3.1.1,(y5.2.1,()))) (fun(y6:(List aP)×Unit)=>some ((y6.1,()),())))
 (some ((y3.1.1,()),()))) (fun(y6:((List aP)×Unit)×Unit)=>some ((y6.1.1,()),())))) (fun(y6:((List aP)×Unit)×Unit)=>some (Sum.inl ((y6.1.1,(bn IntKind.i64 y3.1.2.1 (1:Int),())),()):((eP×Unit))⊕((Nat×eP×Unit)))))))
 (some (Sum.inr ((0:Nat),((y3.1.1,(y3.1.2.1,())),())):((eP×Unit))⊕((Nat×eP×Unit)))))
noncomputable def kz(x:(List aP)×(List gm)×Unit)(y4:nJ×Unit):Option ((nJ×Unit)⊕(Nat×nJ×Unit)) :=
 au (cm y4.1.2.2.2.1 (@len gm x.2.1))
 (ah (@idx gm x.2.1 y4.1.2.2.2.1) (fun(y5:E5×Sb×Unit)=>ah (kR (y5,())) (fun(y6:Int×Sb×Bool×Unit)=>au (au (nt (nt (bp y6.1 (0:Int))))
 (bZ y6.2.1 ([]:List (UInt8)))
 true)
 (some (Sum.inl ((y4.1.1,(y4.1.2.1,(y4.1.2.2.1,(bn IntKind.i64 y4.1.2.2.2.1 (1:Int),())))),()):((nJ×Unit))⊕((Nat×nJ×Unit))))
 (ah (qT (y4.1.1,(y6.2.1,()))) (fun(y7:(List aP)×Int×Unit)=>au (nt (bp y7.2.1 (0:Int)))
 (some (Sum.inr ((1:Nat),((y4.1.1,(([]:List aP),(y7.2.1,(y4.1.2.2.2.1,())))),())):((nJ×Unit))⊕((Nat×nJ×Unit))))
 (ah (@idx gm x.2.1 y4.1.2.2.2.1) (fun(y8:E5×Sb×Unit)=>ah (nL (y8,(y6.2.1,()))) (fun(y9:aP×Unit)=>ah (kr (y7.1,(y9.1,()))) (fun(vF:(List aP)×Int×Unit)=>au (nt (bp vF.2.1 (0:Int)))
 (some (Sum.inr ((1:Nat),((y4.1.1,(([]:List aP),(vF.2.1,(y4.1.2.2.2.1,())))),())):((nJ×Unit))⊕((Nat×nJ×Unit))))
 (some (Sum.inl ((vF.1,(y4.1.2.1,(y4.1.2.2.1,(bn IntKind.i64 y4.1.2.2.2.1 (1:Int),())))),()):((nJ×Unit))⊕((Nat×nJ×Unit)))))))))))))
 (some (Sum.inr ((0:Nat),((y4.1.1,(y4.1.2.1,(y4.1.2.2.1,(y4.1.2.2.2.1,())))),())):((nJ×Unit))⊕((Nat×nJ×Unit))))
noncomputable def sP(x:(List aP)×(List gm)×Unit):Option eP :=
 ah (gX (x.1,())) (fun(y1:Bool×Unit)=>au (nt y1.1)
 (some (([]:List aP),((1:Int),())))
 (ah (pJ (x.2.1,())) (fun(y2:Bool×Unit)=>au (nt y2.1)
 (some (([]:List aP),((10:Int),())))
 (ah (Loop (ku x) ((x.1,((0:Int),())),())) (fun(y3:eP×Unit)=>ah (Loop (kz x) ((y3.1.1,(([]:List aP),((0:Int),((0:Int),())))),())) (fun(y4:Nat×nJ×Unit)=>au (tM y4.1 (0:Nat))
 (some (y4.2.1.1,((0:Int),())))
 (some (y4.2.1.2.1,(y4.2.1.2.2.1,())))))))))
noncomputable def lV(x:(List aP)×Sb×Unit):Option eP :=
 ah (rW (x.2.1,())) (fun(y1:(List gm)×Int×Unit)=>ah (au (nt (bp y1.2.1 (0:Int)))
 (ah (dm (x.1,())) (fun(y2:Int×Unit)=>some (bp y2.1 (0:Int))))
 (some false)) (fun(y2:Bool)=>au y2
 (some (([]:List aP),((10:Int),())))
 (ah (lK (x.1,(y1.1,()))) (fun(y3:(List aP)×Int×Unit)=>some (y3.1,(y3.2.1,()))))))
end Go.Ge
namespace Go.Ge
set_option linter.unusedVariables false
set_option maxRecDepth 100000
end Go.Ge
namespace Go.Ge
set_option linter.unusedVariables false
set_option linter.unusedSimpArgs false
theorem AG{a b:Int}(h:-9223372036854775808≤a+b)(h2:a+b≤9223372036854775807):bn .i64 a b=a+b:=by
 unfold bn;simp[IntKind.wrap,IntKind.min,IntKind.max,IntKind.signed,IntKind.bits];omega
theorem nM{a b:Int}(h:-9223372036854775808≤a-b)(h2:a-b≤9223372036854775807):cM .i64 a b=a-b:=by
 unfold cM;simp[IntKind.wrap,IntKind.min,IntKind.max,IntKind.signed,IntKind.bits];omega
theorem AH{a:Int}(h:-9223372036854775808≤a)(h2:a≤9223372036854775807):vv .i64 a=a:=by
 unfold vv;simp[IntKind.wrap,IntKind.min,IntKind.max,IntKind.signed,IntKind.bits];omega
theorem TA{a:Int}(h:0≤a)(h2:a≤18446744073709551615):vv .u64 a=a:=by
 unfold vv;simp[IntKind.wrap,IntKind.min,IntKind.max,IntKind.signed,IntKind.bits];omega
theorem wrap_u32(a:Int):IntKind.wrap .u32 a=a % 4294967296:=by
 simp[IntKind.wrap,IntKind.min,IntKind.max,IntKind.signed,IntKind.bits]
def Bv(x:Int):BitVec 32:=BitVec.ofInt 32 x
def Can(x:Int):Prop:=0≤x∧x<4294967296
theorem RH(a:Int):Can (IntKind.wrap .u32 a):=by rw[wrap_u32];unfold Can;omega
theorem wQ(a:Int):((Bv a).toNat:Int)=a % 4294967296:=by
 unfold Bv
 rw[BitVec.toNat_ofInt]
 have:0≤a % ((2 ^ 32:Nat):Int):=Int.emod_nonneg _ (by decide)
 rw[Int.toNat_of_nonneg this];rfl
theorem Yh{a b:Int}(ha:Can a)(hb:Can b)(h:Bv a=Bv b):a=b:=by
 have h1:=wQ a
 have h2:=wQ b
 rw[h] at h1
 unfold Can at ha hb
 omega
theorem TB(a:Int):Bv (IntKind.wrap .u32 a)=Bv a:=by
 apply BitVec.eq_of_toNat_eq
 have h1:=wQ a
 have h2:=wQ (IntKind.wrap .u32 a)
 rw[wrap_u32] at h2⊢
 omega
theorem Va(v:BitVec 32):Bv (v.toNat:Int)=v:=by
 apply BitVec.eq_of_toNat_eq
 have h1:=wQ (v.toNat:Int)
 have:=v.isLt
 omega
theorem Uo(x y:Int):Bv (JQ .u32 x y)=Bv x ||| Bv y:=by unfold JQ;rw[TB];exact Va _
theorem RI(x y:Int):Can (JQ .u32 x y):=RH _
theorem Nq(x y:Int):JQ .u32 x y=JQ .u32 y x:=Yh (RI _ _) (RI _ _) (by rw[Uo,Uo,BitVec.or_comm])
theorem cH{a b:Int}(h:a<b):cm a b=true:=by simp[cm,h]
theorem bq{a b:Int}(h:b≤a):cm a b=false:=by simp[cm];omega
theorem eF{a b:Int}(h:a≤b):gj a b=true:=by simp[gj,h]
theorem kT{a b:Int}(h:b<a):gj a b=false:=by simp[gj];omega
theorem ck{a b:Int}(h:a=b):bp a b=true:=by simp[bp,h]
theorem b7{a b:Int}(h:a≠b):bp a b=false:=by simp[bp,h]
theorem cL{i n:Int}(h0:0≤i)(h1:i<n):within i n=true:=by simp[within,h0,h1]
theorem bA{i j n:Int}(h0:0≤i)(h1:i≤j)(h2:j≤n):inside i j n=true:=by simp[inside,h0,h1,h2]
theorem rz{n:Int}(h:n≤4294967296):fits n=true:=by simp[fits,h]
theorem rZ{S:Type}(s:S):jj (some (.inl s:S⊕(Nat×S)))=some (.inl s):=rfl
theorem uw{S:Type}(n:Nat)(s:S):jj (some (.inr (n,s):S⊕(Nat×S)))=some (.inr s):=rfl
theorem E6{α:Type}(l:List α)(d:α){i:Nat}(h:i<l.length):idx l (i:Int)=some (l.getD i d):=by
 rw[uV,List.getElem?_eq_getElem h,List.getD_eq_getElem?_getD,List.getElem?_eq_getElem h];rfl
theorem ux{α:Type}(l:List α)(i:Nat)(x:α):rF l (i:Int) x=l.set i x:=by simp[rF]
end Go.Ge
namespace Go.Ge
set_option linter.unusedVariables false
set_option linter.unusedSimpArgs false
def uy{α σ R:Type}(step:Nat→σ→α→Option (σ⊕R))(fin:Nat→σ→R):List α→Nat→σ→Option R
 | [],i,s=>some (fin i s)
 | x::r,i,s=>match step i s x with
   | none=>none
   | some (.inl s')=>uy step fin r (i+1) s'
   | some (.inr y)=>some y
theorem pY{α σ S R:Type}{f:S→Option (S⊕R)}(l:List α)(mk:σ→Nat→S)(step:Nat→σ→α→Option (σ⊕R))(fin:Nat→σ→R)(Inv:Nat→σ→Prop)
  (hstep:∀s i x,l[i]?=some x→i<l.length→Inv i s→f (mk s i)=(step i s x).map (fun q=>match q with|.inl s'=>.inl (mk s' (i+1))|.inr y=>.inr y))
  (hinv:∀s i x s',l[i]?=some x→Inv i s→step i s x=some (.inl s')→Inv (i+1) s')
  (E7:∀s,Inv l.length s→f (mk s l.length)=some (.inr (fin l.length s))) (hsome:∀s i x,l[i]?=some x→Inv i s→step i s x≠none) :
  ∀s,Inv 0 s→Loop f (mk s 0)=uy step fin l 0 s:=by
 have key:∀(rest pre:List α) (s:σ),l=pre++rest→Inv pre.length s→Loop f (mk s pre.length)=uy step fin rest pre.length s:=by
  intro rest
  induction rest with
  | nil =>
    intro pre s hl hI
    rw[List.append_nil] at hl
    subst hl
    rw[bH,E7 s hI]
    rfl
  | cons x r ih =>
    intro pre s hl hI
    have hx:l[pre.length]?=some x:=by rw[hl];simp
    have hlt:pre.length<l.length:=by rw[hl];simp
    rw[bH,hstep s pre.length x hx hlt hI]
    unfold uy
    cases hs:step pre.length s x with
    | none=>exact absurd hs (hsome s _ x hx hI)
    | some q =>
      cases q with
      | inr y=>rfl
      | inl s' =>
        have:=ih (pre++[x]) s' (by rw[hl];simp) (by rw[List.length_append];exact hinv s _ x s' hx hI hs)
        rw[List.length_append] at this
        exact this
 intro s hI
 exact key l [] s rfl hI
theorem DX{α:Type}(i:Nat)(l:List α):cm (i:Int) (len l)=decide (i<l.length):=by simp[cm,len]
theorem K2{α:Type}(l:List α):cm (0:Int) (len l)=decide (0<l.length):=DX 0 l
theorem u5{α:Type}(i:Nat)(l:List α):gj (len l) (i:Int)=decide (l.length≤i):=by simp[gj,len]
theorem AJ{α β:Type}(l:List α)(m:List β):cm (len l) (len m)=decide (l.length<m.length):=by simp[cm,len]
theorem E8{α β:Type}(l:List α)(m:List β):gj (len l) (len m)=decide (l.length≤m.length):=by simp[gj,len]
theorem K3{α β:Type}(l:List α)(m:List β):bp (len l) (len m)=decide (l.length=m.length):=by unfold bp len;apply decide_eq_decide.2;omega
theorem bw{α β:Type}{l:List α}{m:List β}(h:l.length+m.length≤4294967296):fits (plus (len l) (len m))=true:=by
 apply rz;simp only[plus,len];omega
theorem Nr{α:Type}(c:Bool)(x y:α):au c x y=if c=true then x else y:=by cases c<;>rfl
theorem E9{α:Type}(p:Prop)[Decidable p](x y:α):au (decide p) x y=if p then x else y:=by by_cases h:p<;>simp[h,au]
theorem AK{a b:List UInt8}:bZ a b=decide (a=b):=rfl
theorem br{a b:List UInt8}(h:a≠b):bZ a b=false:=by simp[bZ,h]
theorem cI{a b:List UInt8}(h:a=b):bZ a b=true:=by simp[bZ,h]
theorem Up{c:UInt8}{n:UInt8}:bp (u8 c) (n.toNat:Int)=decide (c=n):=by
 unfold bp u8
 by_cases h:c=n
 ·simp[h]
 ·have:c.toNat≠n.toNat:=fun e=>h (UInt8.toNat_inj.1 e)
  simp[h];omega
theorem lM{α:Type}(l:List α)(n:Nat):sub l 0 (minus (n:Int) 0)=l.take n:=by
 unfold sub minus
 simp
theorem xV{α β:Type}(l:List α)(m:List β):sub l 0 (minus (len m) 0)=l.take m.length:=lM l m.length
theorem pZ{α:Type}(l:List α)(n:Nat)(h:n≤l.length):sub l (n:Int) (minus (len l) (n:Int))=l.drop n:=by
 unfold sub minus len
 rw[Int.toNat_natCast]
 apply List.take_of_length_le
 rw[List.length_drop]
 omega
theorem dN:tM 0 0=true:=rfl
theorem gK:tM 1 0=false:=rfl
theorem bB{α:Type}{l:List α}{i:Nat}{x:α}(h:l[i]?=some x):i<l.length:=(List.getElem?_eq_some_iff.1 h).1
theorem sub_one{α:Type}{l:List α}{i:Nat}{x:α}(h:l[i]?=some x):sub l (i:Int) (minus ((i+1:Nat):Int) (i:Int))=[x]:=by
 unfold sub minus
 rw[show((i+1:Nat):Int)-(i:Int)=1 by omega,Int.toNat_natCast]
 obtain⟨hi,rfl⟩:=List.getElem?_eq_some_iff.1 h
 rw[List.drop_eq_getElem_cons hi]
 rfl
theorem Nt{a b n:Nat}(h:a≤b)(k:b≤n):inside (a:Int) (b:Int) (n:Int)=true:=bA (by omega) (by omega) (by omega)
theorem r5{α:Type}{a b:Nat}{l:List α}(h:a≤b)(k:b≤l.length):inside (a:Int) (b:Int) (len l)=true:=Nt h k
theorem aK{α:Type}{l:List α}{i:Nat}{x:α}(h:l[i]?=some x):idx l (i:Int)=some x:=by rw[uV,h]
theorem aF{α:Type}{l:List α}{i:Nat}(h:i<l.length):cm (i:Int) (len l)=true:=by rw[DX,decide_eq_true h]
theorem aS{α:Type}{l:List α}:cm (l.length:Int) (len l)=false:=by rw[DX,decide_eq_false (by omega)]
theorem lf{α:Type}(l m:List α):app l m=l++m:=rfl
theorem WI(b:Bool):nt b=!b:=rfl
theorem cN{α:Type}(l:List α):len l=(l.length:Int):=rfl
end Go.Ge
namespace Go.Ge
set_option linter.unusedVariables false
set_option linter.unusedSimpArgs false
theorem TC(y:List UInt8):vu [] y=decide (y≠[]):=by cases y<;>simp[vu,Op.bytesLess]
theorem Fa(x:List UInt8):vu x []=false:=by cases x<;>simp[vu,Op.bytesLess]
theorem AL(a b:UInt8)(x y:List UInt8):vu (a::x) (b::y)=(decide (a<b)||(a==b&&vu x y)):=by simp[vu,Op.bytesLess]
theorem Po(a:UInt8):¬a<a:=UInt8.lt_irrefl a
theorem Vb(a b:UInt8):a<b∨a=b∨b<a:=by
 rcases Nat.lt_trichotomy a.toNat b.toNat with h|h|h
 ·exact .inl h
 ·exact .inr (.inl (UInt8.toNat_inj.1 h))
 ·exact .inr (.inr h)
theorem oJ:∀x:List UInt8,vu x x=false:=by
 intro x
 induction x with
 | nil=>rfl
 | cons a x ih=>rw[AL,ih];simp[Po]
theorem HQ:∀{x y z:List UInt8},vu x y=true→vu y z=true→vu x z=true:=by
 intro x
 induction x with
 | nil =>
   intro y z h k
   cases z with
   | nil=>rw[Fa] at k;cases k
   | cons c z=>rfl
 | cons a x ih =>
   intro y z h k
   cases y with
   | nil=>rw[Fa] at h;cases h
   | cons b y =>
     cases z with
     | nil=>rw[Fa] at k;cases k
     | cons c z =>
       rw[AL] at h k⊢
       simp only[Bool.or_eq_true,decide_eq_true_eq,Bool.and_eq_true,beq_iff_eq] at h k⊢
       rcases h with h|⟨rfl,h⟩
       ·rcases k with k|⟨rfl,k⟩
        ·exact .inl (UInt8.lt_trans h k)
        ·exact .inl h
       ·rcases k with k|⟨rfl,k⟩
        ·exact .inl k
        ·exact .inr ⟨rfl,ih h k⟩
theorem DY:∀(x y:List UInt8),vu x y=true∨x=y∨vu y x=true:=by
 intro x
 induction x with
 | nil=>intro y;cases y<;>simp[TC]
 | cons a x ih =>
   intro y
   cases y with
   | nil=>exact .inr (.inr rfl)
   | cons b y =>
     rw[AL,AL]
     simp only[Bool.or_eq_true,decide_eq_true_eq,Bool.and_eq_true,beq_iff_eq]
     rcases Vb a b with h|rfl|h
     ·exact .inl (.inl h)
     ·rcases ih y with h|rfl|h
      ·exact .inl (.inr ⟨rfl,h⟩)
      ·exact .inr (.inl rfl)
      ·exact .inr (.inr (.inr ⟨rfl,h⟩))
     ·exact .inr (.inr (.inl h))
theorem rA{x y:List UInt8}(h:vu x y=true):vu y x=false:=by
 cases k:vu y x with
 | false=>rfl
 | true=>have:=HQ h k;rw[oJ] at this;cases this
theorem Fb{x y:List UInt8}(h:vu x y=true):x≠y:=fun e=>by rw[e,oJ] at h;cases h
theorem RJ(x y:List UInt8):nt (Uw (vu x y) (bZ x y))=vu y x:=by
 rcases DY x y with h|rfl|h
 ·rw[h,rA h];rfl
 ·rw[rS,oJ];rfl
 ·rw[h,rA h,br (fun e=>Fb h e.symm)];rfl
def Jk(x y:List UInt8):Int:=if vu x y=true then -1 else if x=y then 0 else 1
def cmpL:List (List UInt8)→List (List UInt8)→Int
 | [],[]=>0
 | [],_::_=>-1
 | _::_,[]=>1
 | a::x,b::y=>if a=b then cmpL x y else if vu a b=true then -1 else 1
theorem iK:∀x,cmpL x x=0:=by
 intro x
 induction x with
 | nil=>rfl
 | cons a x ih=>rw[cmpL,if_pos rfl];exact ih
theorem HR:∀{x y},cmpL x y=0→x=y:=by
 intro x
 induction x with
 | nil=>intro y h;cases y with|nil=>rfl|cons b y=>cases h
 | cons a x ih =>
   intro y h
   cases y with
   | nil=>cases h
   | cons b y =>
     rw[cmpL] at h
     split at h
     ·rename_i e;rw[e,ih h]
     ·split at h<;>cases h
theorem K4:∀x y,cmpL x y=- cmpL y x:=by
 intro x
 induction x with
 | nil=>intro y;cases y<;>rfl
 | cons a x ih =>
   intro y
   cases y with
   | nil=>rfl
   | cons b y =>
     rw[cmpL,cmpL]
     by_cases e:a=b
     ·rw[if_pos e,if_pos e.symm,ih y]
     ·have e':¬b=a:=fun q=>e q.symm
      rw[if_neg e,if_neg e']
      rcases DY a b with h|h|h
      ·rw[if_pos h,if_neg (by rw[rA h];simp)]
      ·exact absurd h e
      ·rw[if_neg (by rw[rA h];simp),if_pos h];rfl
theorem kC:∀{x y z},cmpL x y<0→cmpL y z<0→cmpL x z<0:=by
 intro x
 induction x with
 | nil =>
   intro y z h k
   cases z with
   | nil=>cases y with|nil=>exact absurd k (by simp[cmpL])|cons b y=>exact absurd k (by simp[cmpL])
   | cons c z=>exact(by decide:(-1:Int)<0)
 | cons a x ih =>
   intro y z h k
   cases y with
   | nil=>exact absurd h (by simp[cmpL])
   | cons b y =>
     cases z with
     | nil=>exact absurd k (by simp[cmpL])
     | cons c z =>
       rw[cmpL] at h k⊢
       by_cases e:a=b
       ·subst e
        rw[if_pos rfl] at h
        by_cases e2:a=c
        ·subst e2
         rw[if_pos rfl] at k⊢
         exact ih h k
        ·rw[if_neg e2] at k⊢
         exact k
       ·rw[if_neg e] at h
        have hab:vu a b=true:=by
         cases q:vu a b with
         | true=>rfl
         | false=>rw[q,if_neg (by simp)] at h;exact absurd h (by decide)
        by_cases e2:b=c
        ·subst e2
         rw[if_neg e]
         exact h
        ·rw[if_neg e2] at k
         have hbc:vu b c=true:=by
          cases q:vu b c with
          | true=>rfl
          | false=>rw[q,if_neg (by simp)] at k;exact absurd k (by decide)
         have hac:=HQ hab hbc
         rw[if_neg (Fb hac),if_pos hac]
         decide
theorem K5(x r:List (List UInt8))(h:r≠[]):cmpL x (x++r)=-1:=by
 induction x with
 | nil=>cases r with|nil=>exact absurd rfl h|cons a r=>rfl
 | cons a x ih=>rw[List.cons_append,cmpL,if_pos rfl];exact ih
theorem RL{α β:Type}{x:List α}{y:List β}{i:Nat}{p:α×β}(h:(x.zip y)[i]?=some p):x[i]?=some p.1∧y[i]?=some p.2:=by
 rw[List.getElem?_zip_eq_some] at h
 exact h
theorem K6{α:Type}[DecidableEq α]:∀(x y:List α),(x.zip y).all (fun p=>decide (p.1=p.2))=decide (x.take (min x.length y.length)=y.take (min x.length y.length)):=by
 intro x
 induction x with
 | nil=>intro y;simp
 | cons a x ih =>
   intro y
   cases y with
   | nil=>simp
   | cons b y =>
     rw[List.zip_cons_cons,List.all_cons,ih y]
     simp only[List.length_cons,Nat.add_min_add_right,List.take_succ_cons]
     by_cases e:a=b
     ·subst e;simp
     ·simp[e]
theorem Jl{α:Type}[DecidableEq α]{x y:List α}(h:x.length=y.length):(x.zip y).all (fun p=>decide (p.1=p.2))=decide (x=y):=by
 rw[K6,h,Nat.min_self,List.take_length,←h,List.take_length]
end Go.Ge
namespace Go.Ge
set_option linter.unusedVariables false
set_option linter.unusedSimpArgs false
theorem RM{α:Type}(l:List α)(p:Nat→α→Bool) :
  (∃i x,l[i]?=some x∧p i x=true∧∀j y,j<i→l[j]?=some y→p j y=false)∨∀i x,l[i]?=some x→p i x=false:=by
 by_cases h:∃i x,l[i]?=some x∧p i x=true
 ·left
  have key:∀n i x,i≤n→l[i]?=some x→p i x=true→∃i x,l[i]?=some x∧p i x=true∧∀j y,j<i→l[j]?=some y→p j y=false:=by
   intro n
   induction n with
   | zero =>
     intro i x hi hx hp
     obtain rfl:i=0:=by omega
     exact⟨0,x,hx,hp,fun j y hj=>by omega⟩
   | succ n ih =>
     intro i x hi hx hp
     by_cases k:∃j y,j<i∧l[j]?=some y∧p j y=true
     ·obtain⟨j,y,hj,hy,hq⟩:=k
      exact ih j y (by omega) hy hq
     ·refine⟨i,x,hx,hp,fun j y hj hy=>?_⟩
      cases hq:p j y with
      | false=>rfl
      | true=>exact absurd ⟨j,y,hj,hy,hq⟩ k
  obtain⟨i,x,hx,hp⟩:=h
  exact key i i x (Nat.le_refl _) hx hp
 ·right
  intro i x hx
  cases hq:p i x with
  | false=>rfl
  | true=>exact absurd ⟨i,x,hx,hq⟩ h
theorem AM{α S R:Type}{f:S→Option (S⊕R)}(l:List α)(mk:Int→S)(p:Nat→α→Bool)(Pp:Nat→α→R)(Pq:R)(hl:l.length≤4294967296)
  (hstep:∀i x,l[i]?=some x→i<l.length→bn .i64 (i:Int) 1=((i+1:Nat):Int)→f (mk (i:Int))=some (if p i x=true then .inr (Pp i x) else .inl (mk ((i+1:Nat):Int))))
  (E7:f (mk (l.length:Int))=some (.inr Pq)) :
  (∃i x,l[i]?=some x∧p i x=true∧(∀j y,j<i→l[j]?=some y→p j y=false)∧Loop f (mk 0)=some (Pp i x))∨((∀i x,l[i]?=some x→p i x=false)∧Loop f (mk 0)=some Pq):=by
 have Y7:∀i x,l[i]?=some x→p i x=false→f (mk (i:Int))=some (.inl (mk ((i+1:Nat):Int))):=fun i x hx hp=>by
  have hi:=bB hx
  rw[hstep i x hx hi (bI (by omega)),hp];rfl
 rcases RM l p with ⟨i,x,hx,hp,hj⟩|hn
 ·left
  refine⟨i,x,hx,hp,hj,?_⟩
  have hi:=bB hx
  refine pX i (fun j:Nat=>mk (j:Int)) (fun j hji=>?_) ?_
  ·have hjl:j<l.length:=by omega
   exact Y7 j l[j] (List.getElem?_eq_getElem hjl) (hj j _ hji (List.getElem?_eq_getElem hjl))
  ·rw[hstep i x hx hi (bI (by omega)),hp];rfl
 ·right
  refine⟨hn,pX l.length (fun j:Nat=>mk (j:Int)) (fun j hj=>?_) E7⟩
  exact Y7 j l[j] (List.getElem?_eq_getElem hj) (hn j _ (List.getElem?_eq_getElem hj))
theorem Vc{α S R:Type}{f:S→Option (S⊕R)}(l:List α)(n:Nat)(mk:Int→S)(p:Nat→α→Bool)(Pp:Nat→α→R)(Pq:Nat→R)(hl:min n l.length≤4294967296)
  (hstep:∀i x,l[i]?=some x→i<l.length→i<n→bn .i64 (i:Int) 1=((i+1:Nat):Int)→f (mk (i:Int))=some (if p i x=true then .inr (Pp i x) else .inl (mk ((i+1:Nat):Int))))
  (E7:f (mk ((min n l.length:Nat):Int))=some (.inr (Pq (min n l.length)))) :
  (∃i x,i<n∧l[i]?=some x∧p i x=true∧(∀j y,j<i→l[j]?=some y→p j y=false)∧Loop f (mk 0)=some (Pp i x))∨((∀i x,i<n→l[i]?=some x→p i x=false)∧Loop f (mk 0)=some (Pq (min n l.length))):=by
 have ht:∀i x,(l.take n)[i]?=some x↔(i<n∧l[i]?=some x):=fun i x=>by
  rw[List.getElem?_take]
  by_cases h:i<n
  ·simp[h]
  ·simp[h]
 have hlen:(l.take n).length=min n l.length:=List.length_take
 rcases AM (f:=f) (l.take n) mk p Pp (Pq (min n l.length)) (by rw[hlen];exact hl) (fun i x hx hi zv=>by
  obtain⟨h1,h2⟩:=(ht i x).1 hx
  exact hstep i x h2 (bB h2) h1 zv) (by rw[hlen];exact E7) with ⟨i,x,hx,hp,hj,h⟩|⟨hn,h⟩
 ·obtain⟨h1,h2⟩:=(ht i x).1 hx
  exact .inl ⟨i,x,h1,h2,hp,fun j y hji hy=>hj j y hji ((ht j y).2 ⟨by omega,hy⟩),h⟩
 ·exact .inr ⟨fun i x hi hx=>hn i x ((ht i x).2 ⟨hi,hx⟩),h⟩
theorem BU{α σ S R:Type}{f:S→Option (S⊕R)}(l:List α)(mk:σ→Int→S)(step:σ→Nat→α→σ)(fin:σ→R)(Inv:σ→Nat→Prop)(hl:l.length≤4294967296)
  (hstep:∀s i x,l[i]?=some x→i<l.length→bn .i64 (i:Int) 1=((i+1:Nat):Int)→Inv s i→f (mk s (i:Int))=some (.inl (mk (step s i x) ((i+1:Nat):Int)))∧Inv (step s i x) (i+1))
  (E7:∀s,Inv s l.length→f (mk s (l.length:Int))=some (.inr (fin s))) (s:σ) (h0:Inv s 0):∃t,Inv t l.length∧Loop f (mk s 0)=some (fin t)∧t=(l.zipIdx).foldl (fun a p=>step a p.2 p.1) s:=by
 have key:∀(rest pre:List α) (s:σ),l=pre++rest→Inv s pre.length→∃t,Inv t l.length∧Loop f (mk s (pre.length:Int))=some (fin t)∧t=(rest.zipIdx pre.length).foldl (fun a p=>step a p.2 p.1) s:=by
  intro rest
  induction rest with
  | nil =>
    intro pre s Gg hI
    rw[List.append_nil] at Gg
    subst Gg
    exact⟨s,hI,by rw[bH,E7 s hI];rfl,rfl⟩
  | cons x r ih =>
    intro pre s Gg hI
    have hx:l[pre.length]?=some x:=by rw[Gg];simp
    have hlt:=bB hx
    obtain⟨h1,h2⟩:=hstep s pre.length x hx hlt (bI (by omega)) hI
    obtain⟨t,t1,t2,t3⟩:=ih (pre++[x]) (step s pre.length x) (by rw[Gg];simp) (by rw[List.length_append];exact h2)
    rw[List.length_append] at t2 t3
    exact⟨t,t1,by rw[bH,h1];exact t2,t3⟩
 exact key l [] s rfl h0
theorem Fc{α β S R:Type}{f:S→Option (S⊕R)}(l:List α)(mk:List β→Int→S)(g:α→List β)(fin:R)(hl:l.length≤4294967296)
  (hstep:∀i x,l[i]?=some x→i<l.length→bn .i64 (i:Int) 1=((i+1:Nat):Int)→f (mk ((l.take i).flatMap g) (i:Int))=some (.inl (mk ((l.take i).flatMap g++g x) ((i+1:Nat):Int))))
  (E7:f (mk (l.flatMap g) (l.length:Int))=some (.inr fin)):Loop f (mk [] 0)=some fin:=by
 refine pX l.length (fun j:Nat=>mk ((l.take j).flatMap g) (j:Int)) (fun j hj=>?_) (by simp only[List.take_length];exact E7)
 have hx:l[j]?=some l[j]:=List.getElem?_eq_getElem hj
 have:=hstep j l[j] hx hj (bI (by omega))
 rw[this,List.take_add_one,hx,List.flatMap_append]
 simp
theorem AN{α:Type}{l:List α}(h:l.length≤4294967296):fits (len l)=true:=Pg h
theorem fE{α:Type}{l:List α}{x:α}:x∈l↔∃i:Nat,l[i]?=some x:=by rw[List.mem_iff_getElem?]
end Go.Ge
namespace Go.Ge
set_option linter.unusedVariables false
set_option linter.unusedSimpArgs false
def L7(n x:Int):Int:=JQ .u32 (rE .u32 x n) (Bo .u32 x (32-n))
theorem RN{n m:Int}(h:vX .u64 (vv .u64 (cM .i64 0 n)) 31=m)(h1:cm m 0=false)(h2:cM .u64 32 m=n)(h3:cm n 0=false)(h4:32-n=m)(x:Int):wN (x,(n,()))=some (L7 n x,()):=by
 unfold wN lD L7
 dsimp only
 rw[h,h1,ag,h2,h3,ag,aa,h4,Nq]
theorem TD{n:Int}(h1:cm n 0=false)(h2:cM .i64 32 n=32-n)(h3:cm (32-n) 0=false)(x:Int):uX (x,(n,()))=some (L7 n x,()):=by
 unfold uX L7
 dsimp only
 rw[h1,ag,h2,h3,ag]
theorem r2(x:Int):wN (x,(2,()))=some (L7 2 x,()):=RN (m:=30) (by decide) (by decide) (by decide) (by decide) (by decide) x
theorem t2(x:Int):uX (x,(2,()))=some (L7 2 x,()):=TD (by decide) (by decide) (by decide) x
def word(b:List Int)(t:Nat):Int :=
 JQ .u32 (JQ .u32 (JQ .u32 (Bo .u32 (vv .u32 (b.getD (4*t) 0)) 24) (Bo .u32 (vv .u32 (b.getD (4*t+1) 0)) 16)) (Bo .u32 (vv .u32 (b.getD (4*t+2) 0)) 8)) (vv .u32 (b.getD (4*t+3) 0))
def Uq(n:Nat):List Int:=List.replicate n 0
def Ur(b:List Int):Nat→List Int
 | 0=>Uq 64
 | t+1=>(Ur b t).set t (word b t)
def WJ(p:List Int)(t:Nat):Int :=
 bn .u32 (bn .u32 (bn .u32 (zN .u32 (zN .u32 (L7 17 (p.getD (t-2) 0)) (L7 19 (p.getD (t-2) 0))) (rE .u32 (p.getD (t-2) 0) 10)) (p.getD (t-7) 0))
  (zN .u32 (zN .u32 (L7 7 (p.getD (t-15) 0)) (L7 18 (p.getD (t-15) 0))) (rE .u32 (p.getD (t-15) 0) 3))) (p.getD (t-16) 0)
def Vd(l:List Int):Nat→List Int
 | 0=>l
 | k+1=>(Vd l k).set (16+k) (WJ (Vd l k) (16+k))
def Ve(b:List Int):List Int:=Vd (Ur b 16) 48
abbrev W8:=Int×Int×Int×Int×Int×Int×Int×Int
def rnd(k w:Int):W8→W8
 | (a,b,c,d,e,f,g,h) =>
   let one:=bn .u32 (bn .u32 (bn .u32 (bn .u32 h (zN .u32 (zN .u32 (L7 6 e) (L7 11 e)) (L7 25 e))) (zN .u32 g (vX .u32 e (zN .u32 f g)))) k) w
   let two:=bn .u32 (zN .u32 (zN .u32 (L7 2 a) (L7 13 a)) (L7 22 a)) (JQ .u32 (vX .u32 a b) (vX .u32 c (JQ .u32 a b)))
   (bn .u32 one two,a,b,c,bn .u32 d one,e,f,g)
def WK(K w:List Int)(s:W8):Nat→W8
 | 0=>s
 | t+1=>rnd (K.getD t 0) (w.getD t 0) (WK K w s t)
def Yi:List Int:=[1116352408,1899447441,3049323471,3921009573,961987163,1508970993,2453635748,2870763221,3624381080,310598401,607225278,1426881987,1925078388,2162078206,2614888103,3248222580,3835390401,4022224774,264347078,604807628,770255983,1249150122,1555081692,1996064986,2554220882,2821834349,2952996808,3210313671,3336571891,3584528711,113926993,338241895,666307205,773529912,1294757372,1396182291,1695183700,1986661051,2177026350,2456956037,2730485921,2820302411,3259730800,3345764771,3516065817,3600352804,4094571909,275423344,430227734,506948616,659060556,883997877,958139571,1322822218,1537002063,1747873779,1955562222,2024104815,2227730452,2361852424,2428436474,2756734187,3204031479,3329325298]
def WL(s:W8):List Int:=[s.1,s.2.1,s.2.2.1,s.2.2.2.1,s.2.2.2.2.1,s.2.2.2.2.2.1,s.2.2.2.2.2.2.1,s.2.2.2.2.2.2.2]
def of8(l:List Int):W8:=(l.getD 0 0,l.getD 1 0,l.getD 2 0,l.getD 3 0,l.getD 4 0,l.getD 5 0,l.getD 6 0,l.getD 7 0)
def WM(l m:List Int):Nat→List Int
 | 0=>l
 | i+1=>(WM l m i).set i (bn .u32 (l.getD i 0) (m.getD i 0))
def comp(h b:List Int):List Int:=WM h (WL (WK Yi (Ve b) (of8 h) 64)) 8
end Go.Ge
namespace Go.Ge
set_option linter.unusedVariables false
set_option linter.unusedSimpArgs false
def H0:List Int:=[1779033703,3144134277,1013904242,2773480762,1359893119,2600822924,528734635,1541459225]
def Y8(all:List UInt8):Nat→List Int
 | 0=>H0
 | k+1=>comp (Y8 all k) (ai ((all.drop (64*k)).take 64))
abbrev Vf:=(Bool×List Int×Unit)×List Int×Int×Unit
def Inv(st:Vf)(all:List UInt8):Prop :=
 ∃wait,st=((decide (64≤all.length),(if 64≤all.length then Y8 all (all.length / 64) else Uq 8),()),wait,(all.length:Int),())∧wait.length=64∧wait.take (all.length % 64)=ai (all.drop (64*(all.length / 64)))
theorem eN(a b:List UInt8):ai (a++b)=ai a++ai b:=by simp[ai]
theorem Fe(a:List UInt8)(n:Nat):(ai a).take n=ai (a.take n):=by simp[ai,List.map_take]
theorem dI(a:List UInt8):(ai a).length=a.length:=by simp[ai]
end Go.Ge
namespace Go.Ge
set_option linter.unusedVariables false
set_option linter.unusedSimpArgs false
def zs(n:Nat):Nat:=(119-n % 64) % 64
theorem gy(s:List UInt8):bV (ai s)=s:=by
 unfold bV ai
 rw[List.map_map]
 conv=>rhs;rw[←List.map_id s]
 apply List.map_congr_left
 intro x _
 simp
end Go.Ge
namespace Go.Ge
set_option linter.unusedVariables false
set_option linter.unusedSimpArgs false
abbrev Y9:=(Bool×List UInt8×Int×Unit)×Vf×Vf×Unit
end Go.Ge
namespace Go.Ge
set_option linter.unusedVariables false
set_option linter.unusedSimpArgs false
def Jm:List UInt8:=[48,49,50,51,52,53,54,55,56,57,97,98,99,100,101,102]
def hx(n:Nat):UInt8:=Jm.getD n 0
def vT:List UInt8→List UInt8
 | []=>[]
 | b::r=>hx (b.toNat / 16)::hx (b.toNat % 16)::vT r
theorem p5(l:List UInt8):(vT l).length=2*l.length:=by
 induction l with
 | nil=>rfl
 | cons b r ih=>simp only[vT,List.length_cons,ih];omega
theorem RO(a b:List UInt8):vT (a++b)=vT a++vT b:=by
 induction a with
 | nil=>rfl
 | cons x r ih=>simp only[List.cons_append,vT,ih]
theorem TE:∀n:Fin 256,idx Jm (rE .u8 (n.val:Int) 4)=some (hx (n.val / 16)):=by decide +kernel
theorem TF:∀n:Fin 256,idx Jm (vX .u8 (n.val:Int) 15)=some (hx (n.val % 16)):=by decide +kernel
theorem Vg(b:UInt8):idx Jm (rE .u8 (u8 b) 4)=some (hx (b.toNat / 16)):=TE ⟨b.toNat,b.toNat_lt⟩
theorem Vh(b:UInt8):idx Jm (vX .u8 (u8 b) 15)=some (hx (b.toNat % 16)):=TF ⟨b.toNat,b.toNat_lt⟩
theorem HS(s:List UInt8){k:Nat}(h:k<s.length):idx (ai s) (k:Int)=some (u8 s[k]):=by
 rw[uV];simp[ai,u8,h]
theorem oK(s:List UInt8):len (ai s)=(s.length:Int):=by simp[len,ai]
theorem Jn(s:List UInt8){k:Nat}(h:k<s.length):s.take (k+1)=s.take k++[s[k]]:=by
 rw[List.take_add_one,List.getElem?_eq_getElem h];rfl
theorem TG(s:List UInt8){k:Nat}(h:k<s.length):ai (vT (s.take (k+1)))=(ai (vT (s.take k))++[u8 (hx (s[k].toNat / 16))])++[u8 (hx (s[k].toNat % 16))]:=by
 rw[Jn s h,RO,eN,List.append_assoc]
 rfl
theorem Vi(s:List UInt8)(hs:s.length≤1048576){k:Nat}(h:k<s.length)(x y:Int) :
  fits (plus (len (ai (vT (s.take k)))) (len [x]))=true∧fits (plus (len (ai (vT (s.take k))++[x])) (len [y]))=true:=by
 constructor
 ·apply rz
  rw[oK,p5]
  simp only[List.length_take,plus,len,List.length_cons,List.length_nil]
  omega
 ·apply rz
  have:(ai (vT (s.take k))++[x]).length=2*min k s.length+1:=by
   rw[List.length_append,dI,p5,List.length_take];rfl
  simp only[plus,len,this,List.length_cons,List.length_nil]
  omega
theorem TH(s:List UInt8)(hs:s.length≤1048576):nx (s,())=some (vT s,()):=by
 unfold nx
 dsimp only
 rw[rz (by simp only[len];omega),af]
 have key:Loop (jm (s,())) ((0,()),(((),((),())),([],())))=some (((s.length:Int),()),(((),((),())),(ai (vT s),()))):=by
  have:=pX (f:=jm (s,())) (r:=(((s.length:Int),()),(((),((),())),(ai (vT s),())))) s.length (fun k=>(((k:Int),()),(((),((),())),(ai (vT (s.take k)),())))) (fun k hk=>by
   unfold jm
   dsimp only
   obtain⟨f1,f2⟩:=Vi s hs hk (u8 (hx (s[k].toNat / 16))) (u8 (hx (s[k].toNat % 16)))
   rw[oK,cH (by omega),af,cL (by omega) (by omega),af,HS s hk,aa,bq (by decide),ag]
   rw[show([48,49,50,51,52,53,54,55,56,57,97,98,99,100,101,102]:List UInt8)=Jm from rfl,Vg,aa,f1,af,Vh,aa]
   unfold app
   rw[f2,af,rZ,bI (by omega),TG s hk]) (by
   unfold jm
   dsimp only
   rw[oK,bq (by omega),ag,uw,List.take_length])
  exact this
 rw[key,aa]
 dsimp only
 rw[gy]
end Go.Ge
namespace Go.Ge
set_option linter.unusedVariables false
set_option linter.unusedSimpArgs false
def hv(c:UInt8):Int:=Lib.indexByte Jm c
theorem Vj{a b:UInt8}(h:u8 a=u8 b):a=b:=by
 have:a.toNat=b.toNat:=by unfold u8 at h;omega
 exact UInt8.toNat_inj.1 this
theorem RP(l:List UInt8)(k:Nat)(h:k≤l.length):sub l (k:Int) (minus (len l) (k:Int))=l.drop k:=by
 unfold sub minus len
 rw[Int.toNat_natCast,List.take_of_length_le (by rw[List.length_drop];omega)]
end Go.Ge
namespace Go.Ge
set_option linter.unusedVariables false
set_option linter.unusedSimpArgs false
theorem K7{a b:Nat}(h:a+b<4611686018427387904):bn .i64 (a:Int) (b:Int)=((a+b:Nat):Int):=by
 rw[AG (by omega) (by omega)];omega
end Go.Ge
namespace Go.Ge
set_option linter.unusedVariables false
set_option linter.unusedSimpArgs false
theorem Pr{α:Type}(l:List α)(n:Nat)(h:l.length=n):sub l 0 (minus n 0)=l:=by
 unfold sub minus
 rw[show((0:Int).toNat)=0 from rfl,List.drop_zero,List.take_of_length_le (by omega)]
theorem K8(l:List UInt8)(k:Nat):sub l 0 (minus (k:Int) 0)=l.take k:=by
 unfold sub minus
 rw[show((0:Int).toNat)=0 from rfl,List.drop_zero,Int.sub_zero,Int.toNat_natCast]
end Go.Ge
namespace Go.Ge
set_option linter.unusedVariables false
set_option linter.unusedSimpArgs false
def Nu(n k:Nat):UInt8:=UInt8.ofNat (48+n / 8 ^ k % 8)
def aV(n:Nat):Nat→List UInt8
 | 0=>[]
 | k+1=>Nu n k::aV n k
theorem aG(n k:Nat):(aV n k).length=k:=by
 induction k with
 | zero=>rfl
 | succ k ih=>simp[aV,ih]
theorem WN{n:Nat}(h:n<9223372036854775808):vX .i64 (n:Int) 7=((n % 8:Nat):Int):=by
 unfold vX
 have e:(BitVec.ofInt IntKind.i64.bits (n:Int) &&& BitVec.ofInt IntKind.i64.bits 7).toNat=n % 8:=by
  rw[BitVec.toNat_and]
  have h1:(BitVec.ofInt IntKind.i64.bits (n:Int)).toNat=n:=by
   rw[BitVec.toNat_ofInt,show(IntKind.i64.bits)=64 from rfl]
   omega
  have h2:(BitVec.ofInt IntKind.i64.bits (7:Int)).toNat=2 ^ 3-1:=rfl
  rw[h1,h2,Nat.and_two_pow_sub_one_eq_mod]
 rw[e]
 exact AH (by omega) (by omega)
theorem WO(n:Nat):rE .i64 (n:Int) 3=((n / 8:Nat):Int):=by
 unfold rE
 rw[show min (Int.toNat 3) IntKind.i64.bits=3 from rfl,Int.fdiv_eq_ediv_of_nonneg _ (by decide)]
 omega
theorem Yj(k:Nat):8 ^ (k+1)=8 ^ k*8:=Nat.pow_succ ..
theorem WQ(n k:Nat):n / 8 ^ k / 8=n / 8 ^ (k+1):=by rw[Nat.div_div_eq_div_mul,Yj]
def u6(n:Nat):List Int:=List.replicate n 0
theorem Pu(k:Nat)(x:Int)(r:List Int):rF (u6 (k+1)++r) (k:Int) x=u6 k++(x::r):=by
 rw[ux]
 have:u6 (k+1)=u6 k++[0]:=by simp[u6,List.replicate_succ']
 rw[this,List.append_assoc]
 have hl:(u6 k).length=k:=by simp[u6]
 rw[List.set_append_right _ _ (by omega),hl,Nat.sub_self]
 rfl
theorem Yk:∀d:Fin 8,idx Jm (d.val:Int)=some (UInt8.ofNat (48+d.val)):=by decide +kernel
theorem BV(n d:Nat)(hn:n<9223372036854775808)(h1:1≤d)(h2:d≤21) :
  bY ((n:Int),((d:Int),()))=some (if n / 8 ^ d=0 then(aV n d,(true,())) else([],(false,()))):=by
 unfold bY
 dsimp only
 rw[bq (by omega),aO,af,bq (by omega),aO,af,bq (by omega),ag]
 have key:Loop (gC ((n:Int),((d:Int),()))) (((n:Int),(0,())),(u6 21,()))=some ((((n / 8 ^ d:Nat):Int),((d:Int),())),(u6 (21-d)++ai (aV n d),())):=by
  have:=pX (f:=gC ((n:Int),((d:Int),()))) (r:=((((n / 8 ^ d:Nat):Int),((d:Int),())),(u6 (21-d)++ai (aV n d),()))) d
   (fun k=>((((n / 8 ^ k:Nat):Int),((k:Int),())),(u6 (21-k)++ai (aV n k),()))) (fun k hk=>by
    unfold gC
    dsimp only
    have hle:n / 8 ^ k≤n:=Nat.div_le_self _ _
    have hlen:(u6 (21-k)++ai (aV n k)).length=21:=by rw[List.length_append,dI,aG];simp[u6];omega
    have e20:cM .i64 20 (k:Int)=((20-k:Nat):Int):=by rw[nM (by omega) (by omega)];omega
    have hidx:=E6 (u6 (21-k)++ai (aV n k)) 0 (i:=20-k) (by omega)
    rw[cH (by omega),af,show([48,49,50,51,52,53,54,55,56,57,97,98,99,100,101,102]:List UInt8)=Jm from rfl,WN (by omega),
     Yk ⟨n / 8 ^ k % 8,by omega⟩,aa,e20,cL (by omega) (by omega),af,hidx,aa,aa,aa,bq (by decide),ag,rZ,WO,WQ,bI (by omega)]
    have Yl:21-k=(20-k)+1:=by omega
    rw[Yl,Pu,show 21-(k+1)=20-k by omega]
    rfl) (by
    unfold gC
    dsimp only
    rw[bq (by omega),ag,uw])
  have e0:(((n / 8 ^ 0:Nat):Int),(((0:Nat):Int),()))=((n:Int),((0:Int),())):=by simp
  have e1:u6 (21-0)++ai (aV n 0)=u6 21:=rfl
  simp only[e0,e1] at this
  exact this
 rw[show([0,0,0,0,0,0,0,0,0,0,0,0,0,0,0,0,0,0,0,0,0]:List Int)=u6 21 from rfl,key,aa]
 dsimp only
 by_cases h0:n / 8 ^ d=0
 ·rw[h0,bq (by decide),ag,if_pos rfl]
  have Yl:cM .i64 21 (d:Int)=((21-d:Nat):Int):=by rw[nM (by omega) (by omega)];omega
  rw[Yl,bA (by omega) (by omega) (by omega),af]
  have:sub (u6 (21-d)++ai (aV n d)) ((21-d:Nat):Int) (minus 21 ((21-d:Nat):Int))=ai (aV n d):=by
   unfold sub minus
   rw[Int.toNat_natCast,List.drop_left' (by simp[u6]),List.take_of_length_le (by rw[dI,aG];omega)]
  rw[this,gy]
 ·rw[cH (Int.natCast_pos.2 (Nat.pos_of_ne_zero h0)),af,if_neg h0]
end Go.Ge
namespace Go.Ge
set_option linter.unusedVariables false
set_option linter.unusedSimpArgs false
set_option maxRecDepth 100000
def iL(p:UInt8→Bool)(s:List UInt8):List UInt8:=(s.reverse.dropWhile p).reverse
theorem r6{p:UInt8→Bool}(s:List UInt8){x:UInt8}(h:p x=true):iL p (s++[x])=iL p s:=by
 simp[iL,List.dropWhile_cons,h]
theorem tw{p:UInt8→Bool}(s:List UInt8){x:UInt8}(h:p x=false):iL p (s++[x])=s++[x]:=by
 simp[iL,List.dropWhile_cons,h]
theorem BW{p:UInt8→Bool}:∀(z s:List UInt8),(∀x∈z,p x=true)→iL p (s++z)=iL p s:=by
 intro z
 induction z with
 | nil=>intro s _;rw[List.append_nil]
 | cons x r ih =>
   intro s h
   rw[show s++x::r=(s++[x])++r by simp,ih (s++[x]) (fun y hy=>h y (List.mem_cons_of_mem _ hy)),r6 s (h x (List.mem_cons_self ..))]
theorem K9{p:UInt8→Bool}{s:List UInt8}(h:∀x,s.getLast?=some x→p x=false):iL p s=s:=by
 rcases List.eq_nil_or_concat s with rfl|⟨r,x,rfl⟩
 ·rfl
 ·have:=h x (by simp)
  rw[List.concat_eq_append]
  exact tw r this
theorem La(r:List UInt8)(x:UInt8)(hr:r.length≤1048576):cM .i64 (len (r++[x])) 1=(r.length:Int)∧idx (r++[x]) (r.length:Int)=some x:=by
 constructor
 ·have:len (r++[x])=((r.length+1:Nat):Int):=by simp[len]
  rw[this,nM (by omega) (by omega)]
  omega
 ·rw[uV];simp
theorem GX(c:Int):∀(n:Nat) (s:List UInt8),s.length≤n→s.length≤1048576→∀q:List UInt8,Loop (eg (q,(c,()))) ((s,()),())=some ((iL (fun x=>bp (u8 x) c) s,()),()):=by
 intro n
 induction n with
 | zero =>
   intro s h _ q
   obtain rfl:s=[]:=List.length_eq_zero_iff.1 (by omega)
   rw[bH]
   rfl
 | succ n ih =>
   intro s h hb q
   rcases List.eq_nil_or_concat s with rfl|⟨r,x,rfl⟩
   ·rw[bH];rfl
   ·rw[List.concat_eq_append] at h hb⊢
    rw[List.length_append] at h hb
    simp only[List.length_cons,List.length_nil] at h hb
    obtain⟨e1,e2⟩:=La r x (by omega)
    rw[bH]
    have e0:eg (q,(c,())) ((r++[x],()),())=if bp (u8 x) c=true then some (.inl ((r,()),())) else some (.inr ((r++[x],()),())):=by
     unfold eg
     dsimp only
     rw[cH (by simp only[len,List.length_append,List.length_cons,List.length_nil];omega),af,e1,e2,aa,aa]
     cases hx:bp (u8 x) c with
     | true =>
       rw[af,bA (by omega) (by omega) (by simp only[len,List.length_append];omega),af,rZ,show sub (r++[x]) 0 (minus (r.length:Int) 0)=r from by rw[K8];simp,if_pos rfl]
     | false=>rw[ag,uw,if_neg (by simp)]
    rw[e0]
    cases hx:bp (u8 x) c with
    | true =>
      rw[if_pos rfl,r6 r (p:=fun x=>bp (u8 x) c) hx]
      exact ih r (by omega) (by omega) q
    | false =>
      rw[if_neg (by simp),tw r (p:=fun x=>bp (u8 x) c) hx]
      rfl
theorem sQ(s:List UInt8)(c:Int)(hs:s.length≤1048576):dL (s,(c,()))=some (iL (fun x=>bp (u8 x) c) s,()):=by
 unfold dL
 rw[GX c s.length s (Nat.le_refl _) hs s,aa]
def iM(x:UInt8):Bool:=bp (u8 x) 0
theorem xW(x:UInt8):iM x=true↔x=0:=by
 unfold iM bp
 rw[decide_eq_true_iff]
 constructor
 ·intro h
  exact Vj (a:=x) (b:=0) h
 ·rintro rfl;rfl
theorem GY(s:List UInt8)(hs:s.length≤1048576):dz (s,([0],()))=some (iL iM s,()):=by
 unfold dz
 dsimp only
 by_cases h:s=[]
 ·subst h
  rfl
 ·rw[show bZ s []=false from decide_eq_false h,aO,af,show bZ [0] []=false from rfl,ag,show bp (len ([0]:List UInt8)) 1=true from rfl,af,show idx ([0]:List UInt8) 0=some 0 from rfl,aa,aa,show cm (u8 0) 128=true from rfl,af,aa,
   sQ s _ hs,aa]
  rfl
def p6:List Bool:=((List.replicate 256 false).set 0 true).set 32 true
def GZ(x:UInt8):Bool:=p6.getD x.toNat false
theorem Jo:p6.length=256:=by simp only[p6,List.length_set,List.length_replicate]
theorem Vk:∀n:Fin 256,p6.getD n.val false=(decide (n.val=0)||decide (n.val=32)):=by decide +kernel
theorem Lb(x:UInt8):GZ x=true↔x=0∨x=32:=by
 unfold GZ
 rw[Vk ⟨x.toNat,x.toNat_lt⟩]
 simp only[Bool.or_eq_true,decide_eq_true_iff]
 constructor
 ·rintro(h|h)
  ·exact .inl (UInt8.toNat_inj.1 h)
  ·exact .inr (UInt8.toNat_inj.1 h)
 ·rintro(rfl|rfl)
  ·exact .inl rfl
  ·exact .inr rfl
theorem Jp(x:UInt8):cR ((u8 x,()),(p6,()))=some ((GZ x,()),(p6,())):=by
 unfold cR
 have hx:=x.toNat_lt
 have e:u8 x=(x.toNat:Int):=rfl
 dsimp only
 rw[e,cL (by omega) (by omega),af,E6 p6 false (i:=x.toNat) (by show _<p6.length;rw[Jo];omega),aa]
 rfl
theorem Lc:en ([0,32],())=some (p6,(true,())):=by
 unfold en
 have key:Loop (cC ([0,32],())) ((false,(0,())),(List.replicate 256 false,()))=some (0,((false,(2,())),(p6,()))):=by
  rw[bH,show cC ([0,32],()) ((false,(0,())),(List.replicate 256 false,()))=some (.inl ((false,(1,())),((List.replicate 256 false).set 0 true,()))) from rfl]
  show Loop (cC ([0,32],())) ((false,(1,())),((List.replicate 256 false).set 0 true,()))=_
  rw[bH,show cC ([0,32],()) ((false,(1,())),((List.replicate 256 false).set 0 true,()))=some (.inl ((false,(2,())),(p6,()))) from rfl]
  show Loop (cC ([0,32],())) ((false,(2,())),(p6,()))=_
  rw[bH]
  rfl
 exact(congrArg (ah · _) key).trans rfl
theorem Ld:∀(n:Nat) (s:List UInt8),s.length≤n→s.length≤1048576→Loop dQ ((s,()),(p6,()))=some ((iL GZ s,()),(p6,())):=by
 intro n
 induction n with
 | zero =>
   intro s h _
   obtain rfl:s=[]:=List.length_eq_zero_iff.1 (by omega)
   rw[bH]
   rfl
 | succ n ih =>
   intro s h hb
   rcases List.eq_nil_or_concat s with rfl|⟨r,x,rfl⟩
   ·rw[bH];rfl
   ·rw[List.concat_eq_append] at h hb⊢
    rw[List.length_append] at h hb
    simp only[List.length_cons,List.length_nil] at h hb
    obtain⟨e1,e2⟩:=La r x (by omega)
    rw[bH]
    have e0:dQ ((r++[x],()),(p6,()))=if GZ x=true then some (.inl ((r,()),(p6,()))) else some (.inr ((r++[x],()),(p6,()))):=by
     unfold dQ
     dsimp only
     rw[cH (by simp only[len,List.length_append,List.length_cons,List.length_nil];omega),af,e1,e2,aa,Jp,aa]
     dsimp only
     cases hx:GZ x with
     | true =>
       rw[aT,ag,bA (by omega) (by omega) (by simp only[len,List.length_append];omega),af,rZ,show sub (r++[x]) 0 (minus (r.length:Int) 0)=r from by rw[K8];simp,if_pos rfl]
     | false=>rw[aO,af,uw,if_neg (by simp)]
    rw[e0]
    cases hx:GZ x with
    | true =>
      rw[if_pos rfl,r6 r hx]
      exact ih r (by omega) (by omega)
    | false =>
      rw[if_neg (by simp),tw r hx]
      rfl
theorem Jq(s:List UInt8)(hs:s.length≤1048576):dz (s,([0,32],()))=some (iL GZ s,()):=by
 unfold dz
 dsimp only
 by_cases h:s=[]
 ·subst h
  rfl
 ·rw[show bZ s []=false from decide_eq_false h,aO,af,show bZ [0,32] []=false from rfl,ag,show bp (len ([0,32]:List UInt8)) 1=false from rfl,ag,aa,ag,Lc,aa]
  dsimp only
  rw[af]
  unfold eM
  dsimp only
  rw[Ld s.length s (Nat.le_refl _) hs]
  rfl
theorem G0(c:Int):∀(n:Nat) (s:List UInt8),s.length≤n→∀q:List UInt8,Loop (eD (q,(c,()))) ((s,()),())=some ((s.dropWhile (fun x=>bp (u8 x) c),()),()):=by
 intro n
 induction n with
 | zero =>
   intro s h q
   obtain rfl:s=[]:=List.length_eq_zero_iff.1 (by omega)
   rw[bH]
   rfl
 | succ n ih =>
   intro s h q
   cases s with
   | nil=>rw[bH];rfl
   | cons x r =>
     simp only[List.length_cons] at h
     rw[bH]
     have e0:eD (q,(c,())) ((x::r,()),())=if bp (u8 x) c=true then some (.inl ((r,()),())) else some (.inr ((x::r,()),())):=by
      unfold eD
      dsimp only
      rw[cH (by simp only[len,List.length_cons];omega),af,show idx (x::r) 0=some x from rfl,aa,aa]
      cases hx:bp (u8 x) c with
      | true =>
        rw[af,bA (by decide) (by simp only[len,List.length_cons];omega) (Int.le_refl _),af,rZ,show sub (x::r) 1 (minus (len (x::r)) 1)=r from RP (x::r) 1 (by simp),if_pos rfl]
      | false=>rw[ag,uw,if_neg (by simp)]
     rw[e0,List.dropWhile_cons]
     cases hx:bp (u8 x) c with
     | true =>
       rw[if_pos rfl,if_pos rfl]
       exact ih r (by omega) q
     | false =>
       rw[if_neg (by simp),if_neg (by simp)]
       rfl
theorem BX(s:List UInt8)(c:Int):fB (s,(c,()))=some (s.dropWhile (fun x=>bp (u8 x) c),()):=by
 unfold fB
 rw[G0 c s.length s (Nat.le_refl _) s,aa]
theorem HT{p:UInt8→Bool}{l:List UInt8}{x:UInt8}(h:x∈l.takeWhile p):p x=true:=List.all_eq_true.1 List.all_takeWhile x h
theorem Lf(s:List UInt8)(hs:s.length≤1048576):kf (s,([0],()))=some ((iL iM s).dropWhile iM,()):=by
 unfold kf
 dsimp only
 by_cases h:s=[]
 ·subst h
  rfl
 ·rw[show bZ s []=false from decide_eq_false h,aO,af,show bZ [0] []=false from rfl,ag,show bp (len ([0]:List UInt8)) 1=true from rfl,af,show idx ([0]:List UInt8) 0=some 0 from rfl,aa,aa,show cm (u8 0) 128=true from rfl,af,aa,
   sQ s _ hs,aa,aa,BX,aa]
  rfl
theorem r7(s:List UInt8):(iL iM s).dropWhile iM=[]↔∀x∈s,x=0:=by
 constructor
 ·intro h
  have h1:∀x∈iL iM s,iM x=true:=by
   intro x hx
   have:=List.takeWhile_append_dropWhile (p:=iM) (l:=iL iM s)
   rw[h,List.append_nil] at this
   rw[←this] at hx
   exact HT hx
  have h2:iL iM s=[]:=by
   rcases List.eq_nil_or_concat (iL iM s) with h2|⟨r,x,h2⟩
   ·exact h2
   ·exfalso
    have hx:=h1 x (by rw[h2];simp)
    unfold iL at h2
    have h3:(s.reverse.dropWhile iM)=x::r.reverse:=by
     have:=congrArg List.reverse h2
     simpa using this
    have:=List.head?_dropWhile_not iM s.reverse
    rw[h3] at this
    simp[hx] at this
  intro x hx
  have h3:s.reverse.dropWhile iM=[]:=by
   have:=congrArg List.reverse h2
   simpa [iL] using this
  have:=List.takeWhile_append_dropWhile (p:=iM) (l:=s.reverse)
  rw[h3,List.append_nil] at this
  have hm:x∈s.reverse:=List.mem_reverse.2 hx
  rw[←this] at hm
  exact(xW x).1 (HT hm)
 ·intro h
  have:iL iM s=[]:=by
   have:=BW (p:=iM) s [] (fun x hx=>(xW x).2 (h x hx))
   rw[List.nil_append] at this
   exact this
  rw[this]
  rfl
theorem Lg(b:List UInt8)(hb:b.length≤1048576):jE (b,())=some (decide (b.length=512∧∀x∈b,x=0),()):=by
 unfold jE
 dsimp only
 by_cases h:b.length=512
 ·rw[ck (by simp only[len];omega),af,Lf b hb,aa,aa]
  congr 2
  unfold bZ
  dsimp only
  by_cases h2:∀x∈b,x=0
  ·rw[decide_eq_true ((r7 b).2 h2),decide_eq_true ⟨h,h2⟩]
  ·rw[decide_eq_false (fun e=>h2 ((r7 b).1 e)),decide_eq_false (fun e=>h2 e.2)]
 ·rw[b7 (by simp only[len];omega),ag,aa,decide_eq_false (fun e=>h e.1)]
end Go.Ge
namespace Go.Ge
set_option linter.unusedVariables false
set_option linter.unusedSimpArgs false
theorem Oo(n:Nat):∀(d i:Nat),i<d→(aV n d)[i]?=some (Nu n (d-1-i)):=by
 intro d
 induction d with
 | zero=>intro i h;omega
 | succ d ih =>
   intro i h
   cases i with
   | zero=>simp[aV]
   | succ i =>
     simp only[aV,List.getElem?_cons_succ]
     rw[ih i (by omega)]
     congr 2
     omega
theorem Oq(n k:Nat):u8 (Nu n k)=((48+n / 8 ^ k % 8:Nat):Int):=by
 unfold u8 Nu
 have h:48+n / 8 ^ k % 8<256:=by omega
 rw[UInt8.toNat_ofNat',Nat.mod_eq_of_lt (by simpa using h)]
theorem WR:∀d:Fin 8,vv .i64 (cM .u8 ((48+d.val:Nat):Int) 48)=(d.val:Int):=by decide +kernel
theorem Ym{v d:Nat}(hd:d<8)(hv:8*v+d<9223372036854775808):JQ .i64 (Bo .i64 (v:Int) 3) (vv .i64 (cM .u8 ((48+d:Nat):Int) 48))=((8*v+d:Nat):Int):=by
 rw[WR ⟨d,hd⟩]
 have e1:Bo .i64 (v:Int) 3=((8*v:Nat):Int):=by
  unfold Bo
  rw[show min (Int.toNat 3) IntKind.i64.bits=3 from rfl,show(v:Int)*2 ^ 3=((8*v:Nat):Int) by omega]
  exact AH (by omega) (by omega)
 rw[e1]
 unfold JQ
 have e:(BitVec.ofInt IntKind.i64.bits ((8*v:Nat):Int) ||| BitVec.ofInt IntKind.i64.bits (d:Int)).toNat=8*v+d:=by
  rw[BitVec.toNat_or]
  have h1:(BitVec.ofInt IntKind.i64.bits ((8*v:Nat):Int)).toNat=2 ^ 3*v:=by
   rw[BitVec.toNat_ofInt,show(IntKind.i64.bits)=64 from rfl]
   omega
  have h2:(BitVec.ofInt IntKind.i64.bits (d:Int)).toNat=d:=by
   rw[BitVec.toNat_ofInt,show(IntKind.i64.bits)=64 from rfl]
   omega
  rw[h1,h2,←Nat.two_pow_add_eq_or_of_lt hd]
 rw[e]
 exact AH (by omega) (by omega)
theorem G1(n d:Nat)(hn:n<9223372036854775808)(h1:1≤d)(h2:d≤21)(h0:n / 8 ^ d=0):jd (aV n d,())=some ((n:Int),(true,())):=by
 unfold jd
 dsimp only
 have hl:len (aV n d)=(d:Int):=by simp[len,aG]
 rw[hl,bq (by omega),aO,af,bq (by omega),ag,rz (by omega),af]
 have key:Loop (eE (aV n d,())) ((0,(false,(0,(0,())))),())=some (0,((0,(false,((n:Int),((d:Int),())))),())):=by
  have:=pX (f:=eE (aV n d,())) (r:=(0,((0,(false,((n:Int),((d:Int),())))),()))) d
   (fun i=>((0,(false,(((n / 8 ^ (d-i):Nat):Int),((i:Int),())))),())) (fun i hi=>by
    unfold eE
    dsimp only
    have hb:idx (ai (aV n d)) (i:Int)=some (((48+n / 8 ^ (d-1-i) % 8:Nat)):Int):=by
     rw[uV]
     simp only[ai,List.getElem?_map,Oo n d i hi,Option.map_some]
     exact congrArg some (Oq n _)
    have e1:d-i=(d-1-i)+1:=by omega
    have e2:n / 8 ^ (d-i)=n / 8 ^ (d-1-i) / 8:=by rw[e1,WQ]
    have hle:n / 8 ^ (d-1-i)≤n:=Nat.div_le_self _ _
    have e3:8*(n / 8 ^ (d-i))+n / 8 ^ (d-1-i) % 8=n / 8 ^ (d-(i+1)):=by rw[e2,show d-(i+1)=d-1-i by omega];omega
    rw[oK,aG,cH (by omega),af,cL (by omega) (by omega),af,hb,aa,bq (by omega),aO,af,bq (by omega),ag,bq (by decide),ag,
     Ym (by omega) (by omega),bI (by omega),e3]) (by
    unfold eE
    dsimp only
    rw[oK,aG,bq (by omega),ag,Nat.sub_self,Nat.pow_zero,Nat.div_one])
  have e0:((0:Int),(false,(((n / 8 ^ (d-0):Nat):Int),(((0:Nat):Int),()))))=(0,(false,(0,(0,())))):=by rw[Nat.sub_zero,h0];rfl
  simp only[e0] at this
  exact this
 rw[key,aa]
 rfl
theorem RQ(n k:Nat):GZ (Nu n k)=false:=by
 cases h:GZ (Nu n k) with
 | false=>rfl
 | true =>
   exfalso
   have hu:=Oq n k
   rcases(Lb _).1 h with e|e
   ·rw[e] at hu;unfold u8 at hu;have:(0:UInt8).toNat=0:=rfl;omega
   ·rw[e] at hu;unfold u8 at hu;have:(32:UInt8).toNat=32:=rfl;omega
theorem Pv(n d:Nat)(h1:1≤d):(aV n d).getLast?=some (Nu n 0):=by
 rw[List.getLast?_eq_getElem?,aG,Oo n d (d-1) (by omega),Nat.sub_self]
theorem oL(n d:Nat)(hn:n<9223372036854775808)(h1:1≤d)(h2:d≤21)(h0:n / 8 ^ d=0)(z:List UInt8)(hz:∀x∈z,x=0∨x=32)(hne:z≠[])(hl:z.length≤1000) :
  bU (aV n d++z,())=some ((n:Int),()):=by
 unfold bU
 dsimp only
 rw[Jq _ (by rw[List.length_append,aG];omega),aa,BW z _ (fun x hx=>(Lb x).2 (hz x hx)),K9 (fun x hx=>by rw[Pv n d h1] at hx;obtain rfl:=Option.some.inj hx;exact RQ n 0)]
 dsimp only
 have hzl:0<z.length:=List.length_pos_iff.2 hne
 rw[G1 n d hn h1 h2 h0,aa]
 dsimp only
 rw[aT,aO,af,b7 (by simp only[len,List.length_append,aG];omega),ag]
def AO(s:List UInt8):Prop:=∀x∈s,x≠0
instance (s:List UInt8):Decidable (AO s):=inferInstanceAs (Decidable (∀x∈s,x≠0))
theorem BZ:∀s:List UInt8,decide (Lib.indexByte s 0<0)=decide (AO s):=by
 intro s
 induction s with
 | nil=>rfl
 | cons b r ih =>
   unfold Lib.indexByte
   by_cases hb:b=0
   ·subst hb
    rw[if_pos (by rfl),decide_eq_false (by decide),decide_eq_false (fun h=>h 0 (List.mem_cons_self ..) rfl)]
   ·rw[if_neg (by simpa using hb)]
    by_cases hr:AO r
    ·rw[decide_eq_true hr] at ih
     have h1:Lib.indexByte r 0<0:=of_decide_eq_true ih
     have h2:=(vE 0 r).1
     have h3:Lib.indexByte r 0=-1:=by omega
     rw[h3,if_pos (by rfl),decide_eq_true (by decide),decide_eq_true]
     intro x hx
     rcases List.mem_cons.1 hx with rfl|hx
     ·exact hb
     ·exact hr x hx
    ·rw[decide_eq_false hr] at ih
     have h1:¬Lib.indexByte r 0<0:=of_decide_eq_false ih
     rw[if_neg (by simp only[beq_iff_eq];omega),decide_eq_false (by omega),decide_eq_false]
     intro h
     exact hr fun x hx=>h x (List.mem_cons_of_mem _ hx)
theorem AP(s:List UInt8):cv (s,(0,()))=some (Lib.indexByte s 0,()):=rfl
theorem RR(s:List UInt8)(hs:s.length≤1048576):fK (s,())=some (iL iM s,(decide (AO (iL iM s)),())):=by
 unfold fK
 dsimp only
 rw[GY s hs,aa]
 dsimp only
 rw[AP,aa]
 unfold cm
 dsimp only
 rw[BZ]
theorem Ff(s z:List UInt8)(h:AO s)(hz:∀x∈z,x=0)(hl:(s++z).length≤1048576):fK (s++z,())=some (s,(true,())):=by
 have e:iL iM (s++z)=s:=by
  rw[BW z s (fun x hx=>(xW x).2 (hz x hx)),K9]
  intro x hx
  cases hn:iM x with
  | false=>rfl
  | true=>exact absurd ((xW x).1 hn) (h x (List.mem_of_getLast? hx))
 rw[RR _ hl,e,decide_eq_true h]
abbrev Hd:=List UInt8×Int×Int×Int×Int×Int×Int×List UInt8×Unit
def TI(s:List UInt8)(most:Int):Prop:=s≠[]∧(s.length:Int)≤most∧AO s
instance (s:List UInt8) (most:Int):Decidable (TI s most):=inferInstanceAs (Decidable (_∧_∧_))
def Nv(n b:Int):Prop:=0≤n∧n<b
instance (n b:Int):Decidable (Nv n b):=inferInstanceAs (Decidable (_∧_))
def kindOk(h:Hd):Prop:=(h.2.1=1∧h.2.2.2.2.2.2.2.1=[])∨(h.2.1=2∧h.2.2.2.2.2.2.2.1=[]∧h.2.2.2.2.2.1=0)∨(h.2.1=3∧TI h.2.2.2.2.2.2.2.1 100∧h.2.2.2.2.2.1=0)
instance (h:Hd):Decidable (kindOk h):=inferInstanceAs (Decidable (_∨_∨_))
def zw(h:Hd)(most:Int):Prop:=Nv h.2.2.1 2097152∧Nv h.2.2.2.1 2097152∧Nv h.2.2.2.2.1 2097152∧Nv h.2.2.2.2.2.1 8589934592∧Nv h.2.2.2.2.2.2.1 8589934592∧TI h.1 most∧kindOk h
instance (h:Hd) (most:Int):Decidable (zw h most):=inferInstanceAs (Decidable (_∧_∧_∧_∧_∧_∧_))
theorem B1(n b:Int):iU (n,(b,()))=some (decide (Nv n b),()):=by
 unfold iU
 dsimp only
 by_cases h:0≤n
 ·rw[eF h,af]
  unfold cm Nv
  congr 2
  simp[h]
 ·rw[kT (by omega),ag,decide_eq_false (fun e=>h e.1)]
theorem HU(s:List UInt8)(m:Int):ke (s,(m,()))=some (decide (TI s m),()):=by
 unfold ke
 dsimp only
 by_cases h:s=[]
 ·subst h
  rw[show bZ [] []=true from rfl,aT,ag,ag,aa,decide_eq_false (fun e=>e.1 rfl)]
 ·rw[show bZ s []=false from decide_eq_false h,aO,af]
  by_cases h2:(s.length:Int)≤m
  ·rw[eF (by simp only[len];exact h2),af,AP,aa,aa]
   unfold cm
   dsimp only
   rw[BZ]
   congr 2
   unfold TI
   simp[h,h2]
  ·rw[kT (by simp only[len];omega),ag,aa,decide_eq_false (fun e=>h2 e.2.1)]
theorem Fg(h:Hd)(m:Int):mG (h,(m,()))=some (decide (zw h m),()):=by
 unfold mG
 dsimp only
 by_cases h1:Nv h.2.2.1 2097152
 case neg=>rw[B1,aa,decide_eq_false h1,ag,aa,ag,aa,ag,aa,ag,aa,aO,aT,ag,aa,af,decide_eq_false (fun e=>h1 e.1)]
 rw[B1,aa,decide_eq_true h1,af,B1,aa,aa]
 by_cases h2:Nv h.2.2.2.1 2097152
 case neg=>rw[decide_eq_false h2,ag,aa,ag,aa,ag,aa,aO,aT,ag,aa,af,decide_eq_false (fun e=>h2 e.2.1)]
 rw[decide_eq_true h2,af,B1,aa,aa]
 by_cases h3:Nv h.2.2.2.2.1 2097152
 case neg=>rw[decide_eq_false h3,ag,aa,ag,aa,aO,aT,ag,aa,af,decide_eq_false (fun e=>h3 e.2.2.1)]
 rw[decide_eq_true h3,af,B1,aa,aa]
 by_cases h4:Nv h.2.2.2.2.2.1 8589934592
 case neg=>rw[decide_eq_false h4,ag,aa,aO,aT,ag,aa,af,decide_eq_false (fun e=>h4 e.2.2.2.1)]
 rw[decide_eq_true h4,af,B1,aa,aa]
 by_cases h5:Nv h.2.2.2.2.2.2.1 8589934592
 case neg=>rw[decide_eq_false h5,aO,aT,ag,aa,af,decide_eq_false (fun e=>h5 e.2.2.2.2.1)]
 rw[decide_eq_true h5,aT,aO,af,HU,aa,aa]
 by_cases h6:TI h.1 m
 case neg=>rw[decide_eq_false h6,aO,af,decide_eq_false (fun e=>h6 e.2.2.2.2.2.1)]
 rw[decide_eq_true h6,aT,ag]
 have hk:decide (zw h m)=decide (kindOk h):=decide_eq_decide.2 ⟨fun e=>e.2.2.2.2.2.2,fun e=>⟨h1,h2,h3,h4,h5,h6,e⟩⟩
 rw[hk]
 by_cases k1:h.2.1=1
 ·rw[k1,j9,af]
  unfold bZ
  rw[show decide (h.2.2.2.2.2.2.2.1=[])=decide (kindOk h) from decide_eq_decide.2 (by unfold kindOk;simp[k1])]
 ·rw[b7 k1,ag]
  by_cases k2:h.2.1=2
  ·rw[k2,j9,af]
   unfold bZ bp
   by_cases kl:h.2.2.2.2.2.2.2.1=[]
   ·rw[decide_eq_true kl,af,show decide (h.2.2.2.2.2.1=0)=decide (kindOk h) from decide_eq_decide.2 (by unfold kindOk;simp[k2,kl])]
   ·rw[decide_eq_false kl,ag,show decide (kindOk h)=false from decide_eq_false (by unfold kindOk;simp[k2,kl])]
  ·rw[b7 k2,ag]
   by_cases k3:h.2.1=3
   ·rw[k3,j9,af,HU,aa]
    dsimp only
    unfold bp
    by_cases kl:TI h.2.2.2.2.2.2.2.1 100
    ·rw[decide_eq_true kl,af,show decide (h.2.2.2.2.2.1=0)=decide (kindOk h) from decide_eq_decide.2 (by unfold kindOk;simp[k3,kl])]
    ·rw[decide_eq_false kl,ag,show decide (kindOk h)=false from decide_eq_false (by unfold kindOk;simp[k3,kl])]
   ·rw[b7 k3,ag,show decide (kindOk h)=false from decide_eq_false (by unfold kindOk;simp[k1,k2,k3])]
end Go.Ge
namespace Go.Ge
set_option linter.unusedVariables false
set_option linter.unusedSimpArgs false
def bS:List UInt8→List (List UInt8)
 | []=>[[]]
 | b::r=>if b=47 then []::bS r else match bS r with
   | h::t=>(b::h)::t
   | []=>[[b]]
theorem kU(s:List UInt8):bS s≠[]:=by
 cases s with
 | nil=>simp[bS]
 | cons b r =>
   unfold bS
   split
   ·simp
   ·split<;>simp
theorem gL{b:UInt8}(h:b≠47){r x:List UInt8}{t:List (List UInt8)}(e:bS r=x::t):bS (b::r)=(b::x)::t:=by
 rw[bS,if_neg h,e]
def parts(p:List UInt8):List (List UInt8):=if p=[] then [] else bS p
theorem Lh{b:UInt8}(h:b≠47):∀(k:Nat) (r x:List UInt8) (t:List (List UInt8)),Lib.splitK [47] 0 k r=x::t→Lib.splitK [47] 0 k (b::r)=(b::x)::t:=by
 intro k r x t e
 cases k with
 | zero=>simp[Lib.splitK] at e⊢;exact⟨by rw[e.1],e.2⟩
 | succ k =>
   have Ql:Lib.index (b::r) [47]=if Lib.index r [47]==-1 then -1 else Lib.index r [47]+1:=by
    rw[Lib.index]
    have:([47]:List UInt8).isPrefixOf (b::r)=false:=by simp[List.isPrefixOf,Ne.symm h]
    rw[this];simp
   have hge:=Lib.index_ge r [47]
   unfold Lib.splitK at e⊢
   rw[Ql]
   by_cases hm:(Lib.index r [47]==-1)=true
   ·rw[if_pos hm] at e⊢
    simp at e⊢
    exact⟨e.1,e.2⟩
   ·rw[if_neg hm] at e⊢
    have hm':Lib.index r [47]≠-1:=fun q=>hm (by rw[q];rfl)
    have hn:¬((Lib.index r [47]+1==-1)=true):=fun q=>by have:=beq_iff_eq.1 q;omega
    rw[if_neg hn]
    obtain⟨j,hj⟩:∃j:Nat,Lib.index r [47]=j:=⟨(Lib.index r [47]).toNat,by omega⟩
    have e1:(Lib.index r [47]+1).toNat=j+1:=by omega
    have e2:(Lib.index r [47]).toNat=j:=by omega
    rw[e1]
    rw[e2] at e
    have:=List.cons.inj e
    rw[show j+1+([47]:List UInt8).length=(j+([47]:List UInt8).length)+1 by omega,List.drop_succ_cons,this.2]
    have e3:=this.1
    simp at e3⊢
    exact e3
theorem Jr(k:Nat)(r:List UInt8):Lib.splitK [47] 0 (k+1) (47::r)=[]::Lib.splitK [47] 0 k r:=by
 have Ql:Lib.index (47::r) [47]=0:=by rw[Lib.index];simp[List.isPrefixOf]
 rw[Lib.splitK,Ql]
 simp
theorem Pw:∀(s:List UInt8) (k:Nat),s.count 47≤k→Lib.splitK [47] 0 k s=bS s:=by
 intro s
 induction s with
 | nil =>
   intro k _
   cases k with
   | zero=>rfl
   | succ k=>simp[Lib.splitK,bS,Lib.index]
 | cons b r ih =>
   intro k hk
   by_cases h:b=47
   ·subst h
    obtain⟨k',rfl⟩:∃k',k=k'+1:=⟨k-1,by rw[List.count_cons_self] at hk;omega⟩
    rw[Jr,ih k' (by rw[List.count_cons_self] at hk;omega),bS,if_pos rfl]
   ·have:=ih k (by rwa [List.count_cons_of_ne h] at hk)
    cases hs:bS r with
    | nil=>exact absurd hs (kU r)
    | cons x t =>
      rw[hs] at this
      rw[Lh h k r x t this,gL h hs]
theorem RS(s:List UInt8):Lib.split s [47]=bS s:=by
 unfold Lib.split
 exact Pw s _ (by rw[Lib.count_one];exact Nat.le_refl _)
theorem Ot(c:UInt8):bp (u8 c) 47=decide (c=47):=Up (n:=47)
theorem WS(c:UInt8):bp (u8 c) 0=decide (c=0):=Up (n:=0)
theorem mK(p:List UInt8)(hp:p.length≤1048576):dW (p,())=some (parts p,()):=by
 unfold dW parts
 dsimp only
 by_cases h:p=[]
 ·rw[cI h,af,if_pos h]
 ·rw[br h,ag,if_neg h]
  have:qf (p,([47],()))=some (bS p,()):=by
   show(xT p [47]).map (fun y=>(y,()))=_
   unfold xT
   simp only
   rw[if_pos (by omega),RS]
   rfl
  rw[this,aa]
theorem fF(p:List UInt8)(hp:p.length≤1048576):cY (p,())=some (parts p,()):=by
 unfold cY parts
 dsimp only
 by_cases h:p=[]
 ·rw[cI h,af,if_pos h]
 ·rw[br h,ag,if_neg h]
  have key:=pY (f:=iB (p,())) p (fun(s:List UInt8×List (List UInt8)) i=>(((),(s.1,((i:Int),()))),(s.2,())))
   (fun i s x=>some (.inl (if x=47 then([],s.2++[s.1]) else(s.1++[x],s.2)))) (fun i s=>(((),(s.1,((i:Int),()))),(s.2,()))) (fun i s=>s.1.length≤i∧s.2.length≤i)
   (fun s i x hx hi hI=>by
    unfold iB
    dsimp only
    rw[aF hi,af,aK hx,aa,Ot]
    by_cases hq:x=47
    ·rw[decide_eq_true hq,af,bw (by simp only[List.length_cons,List.length_nil];omega),af,aa,bI (by omega)]
     simp only[if_pos hq]
     rfl
    ·rw[decide_eq_false hq,ag,bI (by omega),r5 (by omega) (by omega),af,sub_one hx,bw (by simp only[List.length_cons,List.length_nil];omega),af,aa]
     simp only[if_neg hq]
     rfl)
   (fun s i x s' hx hI hs=>by
    obtain rfl:=Sum.inl.inj (Option.some.inj hs)
    by_cases hq:x=47
    ·simp only[if_pos hq,List.length_append,List.length_cons,List.length_nil];omega
    ·simp only[if_neg hq,List.length_append,List.length_cons,List.length_nil];omega)
   (fun s hI=>by
    unfold iB
    dsimp only
    rw[aS,ag]
    rfl)
   (fun s i x _ _ h=>by cases h) ([],[]) ⟨Nat.le_refl _,Nat.le_refl _⟩
  have run:∀(r:List UInt8) (i:Nat) (a:List UInt8) (o:List (List UInt8)),∃a' o' j,uy (fun i (s:List UInt8×List (List UInt8)) x=>some (.inl (if x=47 then([],s.2++[s.1]) else(s.1++[x],s.2)))) (fun i (s:List UInt8×List (List UInt8))=>(((),(s.1,((i:Int),()))),(s.2,()))) r i (a,o)=some (((),(a',(j,()))),(o',())) ∧
    o'++[a']=o++(match bS r with|h::t=>(a++h)::t|[]=>[a])∧o'.length≤o.length+r.length:=by
   intro r
   induction r with
   | nil=>intro i a o;exact⟨a,o,_,rfl,by simp[bS],by simp⟩
   | cons x r ih =>
     intro i a o
     by_cases hq:x=47
     ·obtain⟨a',o',j,h1,h2,h3⟩:=ih (i+1) [] (o++[a])
      refine⟨a',o',j,?_,?_,?_⟩
      ·unfold uy
       simp only[if_pos hq]
       exact h1
      ·rw[h2,bS,if_pos hq]
       cases hs:bS r with
       | nil=>exact absurd hs (kU r)
       | cons h t=>simp
      ·simp only[List.length_append,List.length_cons,List.length_nil] at h3⊢;omega
     ·obtain⟨a',o',j,h1,h2,h3⟩:=ih (i+1) (a++[x]) o
      refine⟨a',o',j,?_,?_,?_⟩
      ·unfold uy
       simp only[if_neg hq]
       exact h1
      ·rw[h2]
       cases hs:bS r with
       | nil=>exact absurd hs (kU r)
       | cons h t=>rw[gL hq hs];simp
      ·simp only[List.length_cons] at h3⊢;omega
  obtain⟨a',o',j,h1,h2,h3⟩:=run p 0 [] []
  have key':Loop (iB (p,())) (((),(([]:List UInt8),((0:Int),()))),(([]:List (List UInt8)),()))=some (((),(a',(j,()))),(o',())):=key.trans h1
  rw[key',aa]
  dsimp only
  simp only[List.length_nil] at h3
  rw[bw (by simp only[List.length_cons,List.length_nil];omega),af,lf,h2]
  cases hs:bS p with
  | nil=>exact absurd hs (kU p)
  | cons h t=>simp
def az:List (List UInt8)→List UInt8
 | []=>[]
 | [x]=>x
 | x::y::r=>x++47::az (y::r)
theorem RT(l:List (List UInt8)):Lib.join l [47]=az l:=by
 induction l with
 | nil=>rfl
 | cons x r ih =>
   cases r with
   | nil=>simp[Lib.join_one,az]
   | cons y r =>
     rw[az,←ih,Lib.join_cons,Lib.join_cons]
     simp[Lib.joinTail]
theorem qU(s:List UInt8):az (bS s)=s:=by
 induction s with
 | nil=>rfl
 | cons b r ih =>
   by_cases h:b=47
   ·subst h
    rw[bS,if_pos rfl]
    cases hs:bS r with
    | nil=>exact absurd hs (kU r)
    | cons x t=>rw[az,←hs,ih];rfl
   ·cases hs:bS r with
    | nil=>exact absurd hs (kU r)
    | cons x t =>
      rw[gL h hs]
      rw[hs] at ih
      cases t with
      | nil=>rw[az] at ih⊢;rw[ih]
      | cons y t=>rw[az] at ih⊢;rw[List.cons_append,ih]
theorem bC(p:List UInt8):az (parts p)=p:=by
 unfold parts
 by_cases h:p=[]
 ·rw[if_pos h,h];rfl
 ·rw[if_neg h,qU]
theorem zx(x:List UInt8)(hx:47∉x)(r:List UInt8):bS (x++47::r)=x::bS r:=by
 induction x with
 | nil=>rw[List.nil_append,bS,if_pos rfl]
 | cons b x ih =>
   simp only[List.mem_cons,not_or] at hx
   exact gL (fun e=>hx.1 e.symm) (ih hx.2)
theorem kV(x:List UInt8)(hx:47∉x):bS x=[x]:=by
 induction x with
 | nil=>rfl
 | cons b x ih =>
   simp only[List.mem_cons,not_or] at hx
   exact gL (fun e=>hx.1 e.symm) (ih hx.2)
theorem AQ(l:List (List UInt8))(hne:l≠[])(h:∀x∈l,47∉x):bS (az l)=l:=by
 induction l with
 | nil=>exact absurd rfl hne
 | cons x r ih =>
   cases r with
   | nil=>rw[az];exact kV x (h x (List.mem_cons_self ..))
   | cons y r =>
     rw[az,zx x (h x (List.mem_cons_self ..)),ih (by simp) (fun z hz=>h z (List.mem_cons_of_mem _ hz))]
theorem Nw(s:List UInt8):∀x∈bS s,47∉x∧x.length≤s.length:=by
 induction s with
 | nil=>intro x hx;simp[bS] at hx;subst hx;simp
 | cons b r ih =>
   intro x hx
   by_cases h:b=47
   ·rw[bS,if_pos h] at hx
    rcases List.mem_cons.1 hx with rfl|hx
    ·simp
    ·obtain⟨h1,h2⟩:=ih x hx
     exact⟨h1,by simp only[List.length_cons];omega⟩
   ·cases hs:bS r with
    | nil=>exact absurd hs (kU r)
    | cons y t =>
      rw[gL h hs] at hx
      rw[hs] at ih
      rcases List.mem_cons.1 hx with rfl|hx
      ·obtain⟨h1,h2⟩:=ih y (List.mem_cons_self ..)
       exact⟨by simp only[List.mem_cons,not_or];exact⟨fun e=>h e.symm,h1⟩,by simp only[List.length_cons];omega⟩
      ·obtain⟨h1,h2⟩:=ih x (List.mem_cons_of_mem _ hx)
       exact⟨h1,by simp only[List.length_cons];omega⟩
theorem yC(s:List UInt8):(bS s).length≤s.length+1:=by
 induction s with
 | nil=>simp[bS]
 | cons b r ih =>
   by_cases h:b=47
   ·rw[bS,if_pos h];simp only[List.length_cons];omega
   ·cases hs:bS r with
    | nil=>exact absurd hs (kU r)
    | cons y t=>rw[gL h hs];rw[hs] at ih;simp only[List.length_cons] at ih⊢;omega
theorem uz(p:List UInt8):∀x∈parts p,47∉x∧x.length≤p.length:=by
 unfold parts
 by_cases h:p=[]
 ·rw[if_pos h];intro x hx;cases hx
 ·rw[if_neg h];exact Nw p
theorem dJ(p:List UInt8):(parts p).length≤p.length+1:=by
 unfold parts
 by_cases h:p=[]
 ·rw[if_pos h];simp
 ·rw[if_neg h];exact yC p
theorem eR(l:List (List UInt8))(h:∀x∈l,47∉x∧x≠[]):parts (az l)=l:=by
 unfold parts
 cases l with
 | nil=>rfl
 | cons x r =>
   have hne:az (x::r)≠[]:=by
    have:=(h x (List.mem_cons_self ..)).2
    cases r with
    | nil=>rw[az];exact this
    | cons y r=>rw[az];simp
   rw[if_neg hne,AQ _ (by simp) (fun z hz=>(h z hz).1)]
end Go.Ge
namespace Go.Ge
set_option linter.unusedVariables false
set_option linter.unusedSimpArgs false
theorem wR(l:List (List UInt8))(hl:l.length≤1048576)(hx:(az l).length≤1048576):kO (l,())=some (az l,()):=by
 unfold kO
 have pre:∀(a b:List (List UInt8)),a≠[]→b≠[]→az (a++b)=az a++47::az b:=by
  intro a
  induction a with
  | nil=>intro b h;exact absurd rfl h
  | cons x r ih =>
    intro b _ hb
    cases r with
    | nil =>
      cases b with
      | nil=>exact absurd rfl hb
      | cons y b=>rfl
    | cons y r =>
      have:=ih b (by simp) hb
      rw[List.cons_append,List.cons_append,az,az,←List.cons_append,this]
      simp
 have mono:∀i,(az (l.take i)).length≤(az l).length:=by
  intro i
  by_cases ha:l.take i=[]
  ·rw[ha];simp[az]
  ·by_cases hb:l.drop i=[]
   ·rw[show l.take i=l from by have:=List.take_append_drop i l;rw[hb,List.append_nil] at this;exact this];exact Nat.le_refl _
   ·have:=pre _ _ ha hb
    rw[List.take_append_drop] at this
    rw[this,List.length_append];omega
 have step:∀i x,l[i]?=some x→az (l.take (i+1))=(if 0<i then az (l.take i)++[47] else az (l.take i))++x:=by
  intro i x hx
  have e:l.take (i+1)=l.take i++[x]:=by rw[List.take_add_one,hx];rfl
  rw[e]
  cases i with
  | zero=>rfl
  | succ i =>
    rw[if_pos (by omega),pre _ _ (by have:=bB hx;intro q;have:=congrArg List.length q;rw[List.length_take] at this;simp only[List.length_nil] at this;omega) (by simp)]
    simp[az]
 have key:=pX (f:=jo (l,())) (r:=((az l,((l.length:Int),())),())) l.length (fun i=>((az (l.take i),((i:Int),())),())) (fun i hi=>by
  obtain⟨x,Yn⟩:∃x,l[i]?=some x:=⟨_,List.getElem?_eq_getElem hi⟩
  have hs:=step i x Yn
  have hb:=mono (i+1)
  rw[hs] at hb
  unfold jo
  dsimp only
  rw[aF hi,af]
  by_cases h0:0<i
  ·rw[if_pos h0] at hs hb
   rw[List.length_append,List.length_append] at hb
   simp only[List.length_cons,List.length_nil] at hb
   rw[cH (by omega),af,bw (by simp only[List.length_cons,List.length_nil];omega),af,aa,aK Yn,aa]
   dsimp only
   rw[bw (by simp only[lf,List.length_append,List.length_cons,List.length_nil];omega),af,bI (by omega),hs]
   rfl
  ·rw[if_neg h0] at hs hb
   rw[List.length_append] at hb
   rw[bq (by omega),ag,aa,aK Yn,aa]
   dsimp only
   rw[bw (by omega),af,bI (by omega),hs]
   rfl) (by
  unfold jo
  dsimp only
  rw[aS,ag,List.take_length]
  rfl)
 have key':Loop (jo (l,())) ((([]:List UInt8),((0:Int),())),())=some ((az l,((l.length:Int),())),()):=key
 rw[key',aa]
def gp(s:List UInt8):Bool:=decide (s≠[46]∧s≠[46,46]∧1≤s.length∧s.length≤32∧0∉s)
theorem yD(s:List UInt8):decide (Lib.indexByte s 0<0)=decide (0∉s):=by
 rw[BZ]
 by_cases h:AO s
 ·rw[decide_eq_true h,decide_eq_true]
  intro hm;exact h 0 hm rfl
 ·rw[decide_eq_false h,decide_eq_false]
  intro hm;exact h fun x hx e=>hm (e▸hx)
theorem Nx(s:List UInt8):nA (s,())=some (gp s,()):=by
 unfold nA
 have one:∀i:Nat,i<2→jN (s,()) ((false,((i:Int),())),())=if bZ s (if i=0 then [46] else [46,46])=true then some (.inr (1,((false,((i:Int),())),()))) else some (.inl ((false,(((i+1:Nat):Int),())),())):=by
  intro i hi
  unfold jN
  dsimp only
  rw[cH (by omega),af,uV]
  rcases(by omega:i=0∨i=1) with rfl|rfl
  ·rw[show([[46],[46,46]]:List (List UInt8))[0]?=some [46] from rfl,aa,Nr];rfl
  ·rw[show([[46],[46,46]]:List (List UInt8))[1]?=some [46,46] from rfl,aa,Nr];rfl
 by_cases h1:s=[46]
 ·rw[bH,show((false,((0:Int),())),())=((false,(((0:Nat):Int),())),()) from rfl,one 0 (by omega),if_pos (by rw[if_pos rfl];exact cI h1)]
  subst h1;rfl
 ·rw[bH,show((false,((0:Int),())),())=((false,(((0:Nat):Int),())),()) from rfl,one 0 (by omega),if_neg (by rw[if_pos rfl,br h1];simp)]
  by_cases h2:s=[46,46]
  ·simp only[Option.bind]
   rw[bH,one 1 (by omega),if_pos (by rw[if_neg (by omega)];exact cI h2)]
   subst h2;rfl
  ·simp only[Option.bind]
   rw[bH,one 1 (by omega),if_neg (by rw[if_neg (by omega),br h2];simp)]
   simp only[Option.bind]
   rw[bH]
   have e:jN (s,()) ((false,(((1+1:Nat):Int),())),())=some (.inr (0,((false,((2:Int),())),()))):=rfl
   rw[e]
   simp only[Option.bind]
   rw[aa]
   dsimp only
   rw[dN,af]
   have el:gj 1 (len s)=decide (1≤s.length):=by unfold gj len;apply decide_eq_decide.2;omega
   have eh:gj (len s) 32=decide (s.length≤32):=u5 32 s
   rw[el,eh]
   have ei:cv (s,(0,()))=some (Lib.indexByte s 0,()):=rfl
   rw[ei,aa]
   dsimp only
   rw[show cm (Lib.indexByte s 0) 0=decide (0∉s) from yD s]
   unfold gp
   by_cases a:1≤s.length
   ·by_cases b:s.length≤32
    ·simp[a,b,au,ah,h1,h2]
    ·simp[a,b,au,ah]
   ·simp[a,au,ah]
theorem G2(s:List UInt8)(hs:s.length≤1048576):nC (s,())=some (gp s&&decide (47∉s),()):=by
 unfold nC
 have key:=pY (f:=gH (s,())) s (fun(_:Unit) i=>((false,((i:Int),())),()))
  (fun i _ x=>some (if x=0∨x=47 then .inr (1,((false,((i:Int),())),())) else .inl ())) (fun i _=>(0,((false,((i:Int),())),()))) (fun _ _=>True)
  (fun u i x hx hi _=>by
   unfold gH
   dsimp only
   rw[aF hi,af,aK hx,aa,WS]
   by_cases h0:x=0
   ·rw[decide_eq_true h0,aT,ag,aa,af,if_pos (.inl h0)];rfl
   ·rw[decide_eq_false h0,aO,af,aa,Ot,aa]
    by_cases h1:x=47
    ·rw[decide_eq_true h1,af,if_pos (.inr h1)];rfl
    ·rw[decide_eq_false h1,ag,if_neg (by simp[h0,h1]),bI (by omega)];rfl)
  (fun _ _ _ _ _ _ _=>trivial)
  (fun u _=>by
   unfold gH
   dsimp only
   rw[aS,ag])
  (fun _ _ _ _ _ h=>by cases h) () trivial
 have run:∀(r:List UInt8) (i:Nat),∃q,uy (fun i (_:Unit) x=>some (if x=0∨x=47 then Sum.inr (1,((false,((i:Int),())),())) else Sum.inl ())) (fun i _=>((0:Nat),((false,((i:Int),())),()))) r i ()=some q ∧
   q.1=(if 0∉r∧47∉r then 0 else 1)∧q.2.1.1=false:=by
  intro r
  induction r with
  | nil=>intro i;exact⟨_,rfl,by simp,rfl⟩
  | cons x r ih =>
    intro i
    unfold uy
    by_cases h:x=0∨x=47
    ·simp only[if_pos h]
     refine⟨_,rfl,?_,rfl⟩
     rw[if_neg]
     rcases h with h|h<;>simp[h]
    ·simp only[if_neg h]
     obtain⟨q,h1,h2,h3⟩:=ih (i+1)
     refine⟨q,h1,?_,h3⟩
     rw[h2]
     simp only[not_or] at h
     simp only[List.mem_cons,not_or]
     have h1':¬(0=x):=fun e=>h.1 e.symm
     have W9:¬(47=x):=fun e=>h.2 e.symm
     simp[h1',W9]
 obtain⟨q,h1,h2,h3⟩:=run s 0
 have key':Loop (gH (s,())) ((false,((0:Int),())),())=some q:=key.trans h1
 rw[key',aa]
 have el:gj 1 (len s)=decide (1≤s.length):=by unfold gj len;apply decide_eq_decide.2;omega
 have eh:gj (len s) 32=decide (s.length≤32):=u5 32 s
 rw[el,eh,h2,h3]
 unfold gp
 by_cases a:0∉s∧47∉s
 ·rw[if_pos a,dN,af]
  by_cases c:1≤s.length
  ·by_cases d:s.length≤32
   ·by_cases e:s=[46]
    ·simp[e,au,bZ,nt]
    ·by_cases f:s=[46,46]
     ·simp[f,au,bZ,nt]
     ·simp[a,c,d,e,f,au,bZ,nt]
   ·simp[d,c,au]
  ·simp[c,au]
 ·rw[if_neg a,gK,ag]
  congr 2
  by_cases b:0∈s
  ·simp[b]
  ·have:47∈s:=by
    have:=a
    simp only[not_and,Decidable.not_not] at this
    exact this b
   simp[this]
theorem HV(p:List UInt8)(hp:p.length≤1048576):rX (p,())=some ((parts p).all gp&&decide ((parts p).length≤8)&&decide (p.length≤96),()):=by
 unfold rX
 dsimp only
 rw[fF p hp,aa]
 have hm:=uz p
 have hn:=dJ p
 generalize parts p=l at hm hn
 have key:=pY (f:=lI (l,())) l (fun(_:Unit) i=>((false,((i:Int),())),()))
  (fun i _ x=>some (if gp x=false then .inr (1,((false,((i:Int),())),())) else .inl ())) (fun i _=>(0,((false,((i:Int),())),()))) (fun _ _=>True)
  (fun u i x hx hi _=>by
   unfold lI
   dsimp only
   have hx':=hm x (List.mem_of_getElem? hx)
   rw[aF hi,af,aK hx,aa,G2 x (by omega),aa]
   dsimp only
   rw[decide_eq_true hx'.1,Bool.and_true]
   cases h:gp x with
   | true=>rw[aT,ag,if_neg (by simp),bI (by omega)];rfl
   | false=>rw[aO,af,if_pos rfl];rfl)
  (fun _ _ _ _ _ _ _=>trivial)
  (fun u _=>by
   unfold lI
   dsimp only
   rw[aS,ag])
  (fun _ _ _ _ _ h=>by cases h) () trivial
 have run:∀(r:List (List UInt8)) (i:Nat),∃q,uy (fun i (_:Unit) x=>some (if gp x=false then Sum.inr (1,((false,((i:Int),())),())) else Sum.inl ())) (fun i _=>((0:Nat),((false,((i:Int),())),()))) r i ()=some q ∧
   q.1=(if r.all gp=true then 0 else 1)∧q.2.1.1=false:=by
  intro r
  induction r with
  | nil=>intro i;exact⟨_,rfl,rfl,rfl⟩
  | cons x r ih =>
    intro i
    unfold uy
    cases h:gp x with
    | false=>exact⟨_,rfl,by simp[h],rfl⟩
    | true =>
      obtain⟨q,h1,h2,h3⟩:=ih (i+1)
      exact⟨q,h1,by rw[h2];simp[h],h3⟩
 obtain⟨q,h1,h2,h3⟩:=run l 0
 have key':Loop (lI (l,())) ((false,((0:Int),())),())=some q:=key.trans h1
 rw[key',aa,h2,h3]
 have e8:gj (len l) 8=decide (l.length≤8):=u5 8 l
 have Yo:gj (len p) 96=decide (p.length≤96):=u5 96 p
 rw[e8,Yo]
 cases h:l.all gp with
 | true =>
   rw[if_pos rfl,dN,af]
   by_cases a:l.length≤8<;>simp[a,au]
 | false=>rw[if_neg (by simp),gK,ag];simp
def ic(x:List UInt8):Bool:=decide (x≠[]∧x≠[46])
def names(s:List UInt8):List (List UInt8):=(parts s).filter ic
def fG(s:List UInt8):Bool:=(names s).all gp&&decide (s.head?≠some 47)&&decide ((names s).length≤8)&&decide ((az (names s)).length≤96)
def iN(s:List UInt8):List UInt8×Int:=if fG s then(az (names s),0) else([],2)
theorem rB(s:List UInt8):∀x∈names s,47∉x∧x≠[]∧x.length≤s.length:=by
 intro x hx
 obtain⟨h1,h2⟩:=List.mem_filter.1 hx
 obtain⟨h3,h4⟩:=uz s x h1
 simp only[ic,decide_eq_true_eq] at h2
 exact⟨h3,h2.1,h4⟩
theorem AR(s:List UInt8):(names s).length≤s.length+1:=Nat.le_trans (List.length_filter_le _ _) (dJ s)
theorem CJ(s:List UInt8):parts (az (names s))=names s:=eR _ fun x hx=>⟨(rB s x hx).1,(rB s x hx).2.1⟩
theorem r8(s:List UInt8):(az (names s)).length≤s.length:=by
 have gen:∀(l:List (List UInt8)),(az (l.filter ic)).length≤(az l).length:=by
  intro l
  induction l with
  | nil=>simp[az]
  | cons x r ih =>
    by_cases hk:ic x=true
    ·rw[List.filter_cons_of_pos hk]
     cases hr:r.filter ic with
     | nil =>
       cases r with
       | nil=>exact Nat.le_refl _
       | cons y r=>simp only[az,List.length_append,List.length_cons];omega
     | cons y q =>
       rw[hr] at ih
       cases r with
       | nil=>simp at hr
       | cons z r=>simp only[az,List.length_append,List.length_cons] at ih⊢;omega
    ·rw[List.filter_cons_of_neg hk]
     cases r with
     | nil=>simp[az]
     | cons z r=>rw[az];simp only[List.length_append,List.length_cons];omega
 have:=gen (parts s)
 rw[bC] at this
 exact this
theorem Li(s:List UInt8):dA (s,([47],()))=some (decide (s.head?=some 47),()):=by
 unfold dA bT
 dsimp only
 cases s with
 | nil=>rfl
 | cons b r =>
   have e:gj (len [(47:UInt8)]) (len (b::r))=true:=eF (by simp only[len,List.length_cons,List.length_nil];omega)
   have e2:inside 0 (len [(47:UInt8)]) (len (b::r))=true:=bA (by decide) (by decide) (by simp only[len,List.length_cons,List.length_nil];omega)
   rw[e,af,e2,af,xV,aa,aa]
   simp[bZ]
theorem HW(s:List UInt8)(hs:s.length≤4096):lH (s,())=some ((iN s).1,((iN s).2,())):=by
 unfold lH
 dsimp only
 rw[mK s (by omega),aa]
 have hm:=uz s
 have hn:=dJ s
 have key:=pY (f:=iA (parts s,())) (parts s) (fun(o:List (List UInt8)) i=>((([]:List UInt8),((0:Int),((),((i:Int),())))),(o,())))
  (fun i o x=>some (if ic x=false then .inl o else if gp x=false then .inr (1,((([]:List UInt8),((2:Int),((),((i:Int),())))),(o,()))) else .inl (o++[x]))) (fun i o=>(0,((([]:List UInt8),((0:Int),((),((i:Int),())))),(o,())))) (fun i o=>o.length≤i)
  (fun o i x hx hi hI=>by
   unfold iA
   dsimp only
   rw[aF hi,af,aK hx,aa]
   have hk:ic x=(nt (bZ x [])&&nt (bZ x [46])):=by simp[ic,bZ,nt]
   by_cases a:x=[]
   ·rw[cI a,aT,ag,af,aa]
    dsimp only
    rw[dN,af,bI (by omega),if_pos (by rw[hk,cI a];rfl)];rfl
   ·by_cases b:x=[46]
    ·rw[br a,aO,af,cI b,af,aa]
     dsimp only
     rw[dN,af,bI (by omega),if_pos (by rw[hk,cI b];simp[nt])];rfl
    ·rw[br a,aO,af,br b,ag,Nx,aa]
     dsimp only
     have hk1:ic x=true:=by rw[hk,br a,br b];rfl
     cases h:gp x with
     | false =>
       rw[aO,af,aa]
       dsimp only
       rw[gK,ag,if_neg (by rw[hk1];simp),if_pos rfl];rfl
     | true =>
       rw[aT,ag,bw (by simp only[List.length_cons,List.length_nil];omega),af,aa]
       dsimp only
       rw[dN,af,bI (by omega),if_neg (by rw[hk1];simp),if_neg (by simp)];rfl)
  (fun o i x o' hx hI hq=>by
   have hq:=Option.some.inj hq
   by_cases a:ic x=false
   ·rw[if_pos a] at hq;obtain rfl:=Sum.inl.inj hq;omega
   ·rw[if_neg a] at hq
    by_cases b:gp x=false
    ·rw[if_pos b] at hq;cases hq
    ·rw[if_neg b] at hq;obtain rfl:=Sum.inl.inj hq;simp only[List.length_append,List.length_cons,List.length_nil];omega)
  (fun o _=>by
   unfold iA
   dsimp only
   rw[aS,ag])
  (fun _ _ _ _ _ h=>by cases h) [] (Nat.le_refl _)
 have run:∀(r:List (List UInt8)) (i:Nat) (o:List (List UInt8)),∃q,uy (fun i (o:List (List UInt8)) x=>some (if ic x=false then Sum.inl o else if gp x=false then Sum.inr (1,((([]:List UInt8),((2:Int),((),((i:Int),())))),(o,()))) else Sum.inl (o++[x]))) (fun i o=>((0:Nat),((([]:List UInt8),((0:Int),((),((i:Int),())))),(o,())))) r i o=some q ∧
   (if(r.filter ic).all gp=true then q.1=0∧q.2.2.1=o++r.filter ic else q.1=1∧q.2.1.1=[]∧q.2.1.2.1=2):=by
  intro r
  induction r with
  | nil=>intro i o;exact⟨_,rfl,by simp⟩
  | cons x r ih =>
    intro i o
    unfold uy
    cases hk:ic x with
    | false =>
      obtain⟨q,h1,h2⟩:=ih (i+1) o
      refine⟨q,h1,?_⟩
      rw[List.filter_cons_of_neg (by simp[hk])]
      exact h2
    | true =>
      rw[List.filter_cons_of_pos hk]
      cases hx:gp x with
      | false=>exact⟨_,rfl,by simp[hx]⟩
      | true =>
        obtain⟨q,h1,h2⟩:=ih (i+1) (o++[x])
        refine⟨q,h1,?_⟩
        simp only[List.all_cons,hx,Bool.true_and]
        rw[List.append_assoc] at h2
        exact h2
 obtain⟨q,h1,h2⟩:=run (parts s) 0 []
 have key':Loop (iA (parts s,())) ((([]:List UInt8),((0:Int),((),((0:Int),())))),(([]:List (List UInt8)),()))=some q:=key.trans h1
 rw[key',aa]
 rw[show(parts s).filter ic=names s from rfl,List.nil_append] at h2
 have hj:=r8 s
 have L8:=AR s
 unfold iN fG
 cases ha:(names s).all gp with
 | false =>
   rw[ha,if_neg (by simp)] at h2
   rw[h2.1,gK,ag,h2.2.1,h2.2.2]
   rfl
 | true =>
   rw[ha,if_pos rfl] at h2
   rw[h2.1,dN,af,h2.2]
   have ej:rU (names s,([47],()))=some (az (names s),()):=by
    show(BR (names s) [47]).map (fun y=>(y,()))=_
    unfold BR
    rw[RT,if_pos ⟨by omega,by omega⟩]
    rfl
   rw[ej,aa,Li,aa]
   dsimp only
   have e8:cm 8 (len (names s))=!decide ((names s).length≤8):=by
    by_cases h:(names s).length≤8
    ·rw[bq (by simp only[len];omega)];simp[h]
    ·rw[cH (by simp only[len];omega)];simp[h]
   have Yo:cm 96 (len (az (names s)))=!decide ((az (names s)).length≤96):=by
    by_cases h:(az (names s)).length≤96
    ·rw[bq (by simp only[len];omega)];simp[h]
    ·rw[cH (by simp only[len];omega)];simp[h]
   rw[e8,Yo]
   by_cases a:s.head?=some 47
   ·simp[a,au,nt]
   ·by_cases b:(names s).length≤8
    ·by_cases c:(az (names s)).length≤96<;>simp[a,b,c,au,nt]
    ·simp[a,b,au,nt]
theorem Js(s:List UInt8)(hs:s.length≤4096):pn (s,())=some ((iN s).1,((iN s).2,())):=by
 unfold pn
 dsimp only
 rw[fF s (by omega),aa]
 have hm:=uz s
 have hn:=dJ s
 have key:=pY (f:=iC (parts s,())) (parts s) (fun(o:List (List UInt8)) i=>(((),((i:Int),())),(o,())))
  (fun i o x=>some (.inl (if ic x=true then o++[x] else o))) (fun i o=>(((),((i:Int),())),(o,()))) (fun i o=>o.length≤i)
  (fun o i x hx hi hI=>by
   unfold iC
   dsimp only
   rw[aF hi,af,aK hx,aa,aa]
   have hk:ic x=(nt (bZ x [])&&nt (bZ x [46])):=by simp[ic,bZ,nt]
   by_cases a:x=[]
   ·rw[cI a,aT,ag,aa,ag,aa,bI (by omega),if_neg (by rw[hk,cI a];simp[nt])];rfl
   ·by_cases b:x=[46]
    ·rw[br a,aO,af,cI b,aT,aa,ag,aa,bI (by omega),if_neg (by rw[hk,cI b];simp[nt])];rfl
    ·rw[br a,aO,af,br b,aO,aa,af,aa,bw (by simp only[List.length_cons,List.length_nil];omega),af,aa,bI (by omega),if_pos (by rw[hk,br a,br b];rfl)];rfl)
  (fun o i x o' hx hI hq=>by
   obtain rfl:=Sum.inl.inj (Option.some.inj hq)
   by_cases a:ic x=true
   ·rw[if_pos a];simp only[List.length_append,List.length_cons,List.length_nil];omega
   ·rw[if_neg a];omega)
  (fun o _=>by
   unfold iC
   dsimp only
   rw[aS,ag];rfl)
  (fun _ _ _ _ _ h=>by cases h) [] (Nat.le_refl _)
 have run:∀(r:List (List UInt8)) (i:Nat) (o:List (List UInt8)),∃j,uy (fun i (o:List (List UInt8)) x=>some (Sum.inl (if ic x=true then o++[x] else o))) (fun i o=>(((),((i:Int),())),(o,()))) r i o=some (((),(j,())),(o++r.filter ic,())):=by
  intro r
  induction r with
  | nil=>intro i o;exact⟨(i:Int),by simp[uy]⟩
  | cons x r ih =>
    intro i o
    unfold uy
    by_cases hk:ic x=true
    ·simp only[if_pos hk]
     obtain⟨j,h⟩:=ih (i+1) (o++[x])
     exact⟨j,by rw[h,List.filter_cons_of_pos hk];simp⟩
    ·simp only[if_neg hk]
     obtain⟨j,h⟩:=ih (i+1) o
     exact⟨j,by rw[h,List.filter_cons_of_neg hk]⟩
 obtain⟨j,h1⟩:=run (parts s) 0 []
 have key':Loop (iC (parts s,())) (((),((0:Int),())),(([]:List (List UInt8)),()))=some (((),(j,())),(names s,())):=by
  have:=key.trans h1
  rw[List.nil_append] at this
  exact this
 have hj:=r8 s
 have L8:=AR s
 rw[key',aa]
 dsimp only
 rw[wR _ (by omega) (by omega),aa]
 have e0:ah (au (nt (bZ s [])) (ah (idx s 0) fun y4=>some (bp (u8 y4) 47)) (some false))=fun(f:Bool→Option (List UInt8×Int×Unit))=>f (decide (s.head?=some 47)):=by
  funext f
  cases s with
  | nil=>rfl
  | cons b r =>
    rw[br (by simp),aO,af,show idx (b::r) 0=some b from rfl,aa,Ot,aa]
    congr 1
    simp
 rw[e0]
 dsimp only
 rw[HV _ (by omega),aa,CJ]
 unfold iN fG
 dsimp only
 by_cases a:s.head?=some 47
 ·simp[a,au,nt,ah]
 ·cases ha:(names s).all gp with
  | false=>simp[a,au,nt,ah]
  | true =>
    by_cases b:(names s).length≤8
    ·by_cases c:(az (names s)).length≤96<;>simp[a,b,c,au,nt,ah]
    ·simp[a,b,au,nt,ah]
end Go.Ge
