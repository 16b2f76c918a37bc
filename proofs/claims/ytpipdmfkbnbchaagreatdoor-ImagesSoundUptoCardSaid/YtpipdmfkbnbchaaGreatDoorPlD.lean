/- Plain laws of what the functions compute: part 4. -/
import Derived.Test.YtpipdmfkbnbchaaGreatDoorPlC
import Derived.Test.YtpipdmfkbnbchaaGreatDoorGeI
namespace Go.Ge
set_option linter.unusedVariables false
set_option linter.unusedSectionVars false
variable [Lp]
set_option maxRecDepth 100000
abbrev aQ:=(Sb×Sb×(List Sb)×Sb×Int×Int×Bool×Unit)
abbrev dW:=(Sb×(List Sb)×Sb×Sb×Sb×(List (Sb×Sb×Sb×Unit))×Unit)
abbrev cV:=(Sb×(List Sb)×Sb×Sb×(List (Sb×Sb×Sb×Unit))×Unit)
abbrev gm:=((List dW)×(List cV)×(List aQ)×(List Sb)×(List (Sb×Int×Unit))×Unit)
abbrev qh:=(Sb×Int×Int×Sb×Sb×Unit)
abbrev eD:=(Bool×Int×Unit)
abbrev jZ:=((Unit×Unit×Int×Unit)×(List Sb)×(List Sb)×Unit)
abbrev cB:=(Nat×(Int×Int×Unit)×Unit)
abbrev j7:=(List (Sb×Sb×Sb×Unit))
abbrev bF:=(Nat×eD×Unit)
abbrev iM:=(Sb×(List aQ)×Int×Unit×Int×Unit)
abbrev bZ:=((Int×Int×Unit)×Unit)
abbrev wX:=((Nat×(Unit×Unit×Int×Unit)×(List Sb)×(List Sb)×Unit))
abbrev nW:=((List qh)×Int×(List qh)×Int×Unit)
abbrev aW:=(eD×Unit)
abbrev sn:=(Int×(List aQ)×(List cV)×(List dW)×Unit)
abbrev gS:=(Sb×Int×Unit)
noncomputable def qi(x:(List aQ)×Unit)(y1:eD×Unit):Option (aW⊕bF) :=
 aj (aj (aY y1.1.2.1 (@len aQ x.1))
 (aY y1.1.2.1 (40:Int))
 false)
 (ah (@idx aQ x.1 y1.1.2.1) (fun(y2:Sb×Sb×(List Sb)×Sb×Int×Int×Bool×Unit)=>ah (aj (nt (aY (100:Int) (@len UInt8 y2.1)))
 (ah (@idx aQ x.1 y1.1.2.1) (fun(y3:Sb×Sb×(List Sb)×Sb×Int×Int×Bool×Unit)=>some (aY (100:Int) (@len UInt8 y3.2.1))))
 (some true)) (fun(y3:Bool)=>aj y3
 (some (Sum.inr ((1:Nat),((false,(y1.1.2.1,())),())):(aW)⊕(bF)))
 (some (Sum.inl ((y1.1.1,(aI IntKind.i64 y1.1.2.1 (1:Int),())),()):(aW)⊕(bF))))))
 (some (Sum.inr ((0:Nat),((y1.1.1,(y1.1.2.1,())),())):(aW)⊕(bF)))
noncomputable def vk(x:(List aQ)×Unit):Option (Bool×Unit) :=
 ah (Loop (qi x) ((false,((0:Int),())),())) (fun(y1:Nat×eD×Unit)=>aj (fB y1.1 (0:Nat))
 (some (cO (@len aQ x.1) (40:Int),()))
 (some (y1.2.1.1,())))
noncomputable def qj(x:gm×Unit)(y1:eD×Unit):Option (aW⊕bF) :=
 aj (aj (aY y1.1.2.1 (@len Sb x.1.2.2.2.1))
 (aY y1.1.2.1 (12:Int))
 false)
 (ah (@idx Sb x.1.2.2.2.1 y1.1.2.1) (fun(y2:List (UInt8))=>aj (aY (8192:Int) (@len UInt8 y2))
 (some (Sum.inr ((1:Nat),((false,(y1.1.2.1,())),())):(aW)⊕(bF)))
 (some (Sum.inl ((y1.1.1,(aI IntKind.i64 y1.1.2.1 (1:Int),())),()):(aW)⊕(bF)))))
 (some (Sum.inr ((0:Nat),((y1.1.1,(y1.1.2.1,())),())):(aW)⊕(bF)))
noncomputable def vl(x:gm×Unit):Option (Bool×Unit) :=
 ah (Loop (qj x) ((false,((0:Int),())),())) (fun(y1:Nat×eD×Unit)=>aj (fB y1.1 (0:Nat))
 (ah (oX (((0:Int),(x.1.2.2.1,(x.1.2.1,(x.1.1,())))),())) (fun(y2:Bool×Unit)=>ah (aj y2.1
 (ah (vk (x.1.2.2.1,())) (fun(y3:Bool×Unit)=>some y3.1))
 (some false)) (fun(y3:Bool)=>some (aj (aj (aj y3
 (cO (@len aQ x.1.2.2.1) (12:Int))
 false)
 (cO (@len Sb x.1.2.2.2.1) (12:Int))
 false)
 (cO (@len gS x.1.2.2.2.2.1) (40:Int))
 false,()))))
 (some (y1.2.1.1,())))
noncomputable def fA(x:Sb×Unit):Option (Bool×Unit) :=
 ah (nO (x.1,())) (fun(y1:Sb×Bool×Unit)=>some (aj y1.2.1
 (bC (@len UInt8 x.1) (6:Int))
 false,()))
noncomputable def nX(x:aQ×Unit):Option (Bool×Unit) :=
 ah (fA (x.1.1,())) (fun(y1:Bool×Unit)=>ah (aj y1.1
 (ah (aj (nt (cc x.1.2.1 ([]:List (UInt8))))
 (ah (fA (x.1.2.1,())) (fun(y2:Bool×Unit)=>some (aj y2.1
 (nt (cc x.1.2.1 x.1.1))
 false)))
 (some true)) (fun(y2:Bool)=>some y2))
 (some false)) (fun(y2:Bool)=>ah (aj y2
 (ah (kX (x.1.2.2.1,())) (fun(y3:Bool×Unit)=>some y3.1))
 (some false)) (fun(y3:Bool)=>ah (aj y3
 (ah (ri (x.1.2.2.2.1,())) (fun(y4:Int×Unit)=>some (bC y4.1 (0:Int))))
 (some false)) (fun(y4:Bool)=>some (aj (aj (aj (aj y4
 (cO (0:Int) x.1.2.2.2.2.1)
 false)
 (cO x.1.2.2.2.2.1 (8192:Int))
 false)
 (cO (0:Int) x.1.2.2.2.2.2.1)
 false)
 (cO x.1.2.2.2.2.2.1 (32:Int))
 false,())))))
noncomputable def nY(x:cV×Unit):Option (Bool×Unit) :=
 ah (fA (x.1.1,())) (fun(y1:Bool×Unit)=>ah (aj y1.1
 (ah (kX (x.1.2.1,())) (fun(y2:Bool×Unit)=>some y2.1))
 (some false)) (fun(y2:Bool)=>ah (aj y2
 (ah (aj (nt (cc x.1.2.2.1 ([]:List (UInt8))))
 (ah (fA (x.1.2.2.1,())) (fun(y3:Bool×Unit)=>some y3.1))
 (some true)) (fun(y3:Bool)=>some y3))
 (some false)) (fun(y3:Bool)=>ah (aj (aj y3
 (cO (@len UInt8 x.1.2.2.2.1) (64:Int))
 false)
 (ah (kY (x.1.2.2.2.2.1,())) (fun(y4:Bool×Unit)=>some y4.1))
 (some false)) (fun(y4:Bool)=>some (y4,())))))
noncomputable def sr(x:dW×Unit):Option (Bool×Unit) :=
 ah (fA (x.1.1,())) (fun(y1:Bool×Unit)=>ah (aj y1.1
 (ah (kX (x.1.2.1,())) (fun(y2:Bool×Unit)=>some y2.1))
 (some false)) (fun(y2:Bool)=>ah (aj y2
 (ah (aj (nt (cc x.1.2.2.1 ([]:List (UInt8))))
 (ah (fA (x.1.2.2.1,())) (fun(y3:Bool×Unit)=>some y3.1))
 (some true)) (fun(y3:Bool)=>some y3))
 (some false)) (fun(y3:Bool)=>ah (aj y3
 (ah (fA (x.1.2.2.2.1,())) (fun(y4:Bool×Unit)=>some y4.1))
 (some false)) (fun(y4:Bool)=>ah (aj (aj y4
 (cO (@len UInt8 x.1.2.2.2.2.1) (64:Int))
 false)
 (ah (kY (x.1.2.2.2.2.2.1,())) (fun(y5:Bool×Unit)=>some y5.1))
 (some false)) (fun(y5:Bool)=>some (y5,()))))))
noncomputable def Fq(x:sn×Unit)(y1:(Unit×Unit×Int×Unit)×(List Sb)×(List Sb)×Unit):Option (jZ⊕jZ) :=
 @ep jZ (aj (aY y1.1.2.2.1 (@len aQ x.1.2.1))
 (ah (@idx aQ x.1.2.1 y1.1.2.2.1) (fun(y2:Sb×Sb×(List Sb)×Sb×Int×Int×Bool×Unit)=>aj (fits (plus (@len Sb y1.2.2.1) (@len Sb ([y2.1]:List Sb))))
 (ah (@idx aQ x.1.2.1 y1.1.2.2.1) (fun(y3:Sb×Sb×(List Sb)×Sb×Int×Int×Bool×Unit)=>aj (fits (plus (@len Sb y1.2.1) (@len Sb y3.2.2.1)))
 (some (Sum.inl (((),((),(aI IntKind.i64 y1.1.2.2.1 (1:Int),()))),(@app Sb y1.2.1 y3.2.2.1,(@app Sb y1.2.2.1 ([y2.1]:List Sb),()))):(jZ)⊕wX))
 none))
 none))
 (some (Sum.inr ((0:Nat),(((),((),(y1.1.2.2.1,()))),(y1.2.1,(y1.2.2.1,())))):(jZ)⊕wX)))
noncomputable def Fs(x:sn×Unit)(y2:(Unit×Unit×Int×Unit)×(List Sb)×(List Sb)×Unit):Option (jZ⊕jZ) :=
 @ep jZ (aj (aY y2.1.2.2.1 (@len cV x.1.2.2.1))
 (ah (@idx cV x.1.2.2.1 y2.1.2.2.1) (fun(y3:Sb×(List Sb)×Sb×Sb×j7×Unit)=>aj (fits (plus (@len Sb y2.2.2.1) (@len Sb ([y3.1]:List Sb))))
 (ah (@idx cV x.1.2.2.1 y2.1.2.2.1) (fun(y4:Sb×(List Sb)×Sb×Sb×j7×Unit)=>aj (fits (plus (@len Sb y2.2.1) (@len Sb y4.2.1)))
 (some (Sum.inl (((),((),(aI IntKind.i64 y2.1.2.2.1 (1:Int),()))),(@app Sb y2.2.1 y4.2.1,(@app Sb y2.2.2.1 ([y3.1]:List Sb),()))):(jZ)⊕wX))
 none))
 none))
 (some (Sum.inr ((0:Nat),(((),((),(y2.1.2.2.1,()))),(y2.2.1,(y2.2.2.1,())))):(jZ)⊕wX)))
noncomputable def Ft(x:sn×Unit)(y3:(Unit×Unit×Int×Unit)×(List Sb)×(List Sb)×Unit):Option (jZ⊕jZ) :=
 @ep jZ (aj (aY y3.1.2.2.1 (@len dW x.1.2.2.2.1))
 (ah (@idx dW x.1.2.2.2.1 y3.1.2.2.1) (fun(y4:Sb×(List Sb)×Sb×Sb×Sb×j7×Unit)=>aj (fits (plus (@len Sb y3.2.2.1) (@len Sb ([y4.1]:List Sb))))
 (ah (@idx dW x.1.2.2.2.1 y3.1.2.2.1) (fun(y5:Sb×(List Sb)×Sb×Sb×Sb×j7×Unit)=>aj (fits (plus (@len Sb y3.2.1) (@len Sb y5.2.1)))
 (some (Sum.inl (((),((),(aI IntKind.i64 y3.1.2.2.1 (1:Int),()))),(@app Sb y3.2.1 y5.2.1,(@app Sb y3.2.2.1 ([y4.1]:List Sb),()))):(jZ)⊕wX))
 none))
 none))
 (some (Sum.inr ((0:Nat),(((),((),(y3.1.2.2.1,()))),(y3.2.1,(y3.2.2.1,())))):(jZ)⊕wX)))
noncomputable def rI(x:sn×Unit):Option ((List Sb)×(List Sb)×Unit) :=
 ah (Loop (Fq x) (((),((),((0:Int),()))),(([]:List Sb),(([]:List Sb),())))) (fun(y1:(Unit×Unit×Int×Unit)×(List Sb)×(List Sb)×Unit)=>ah (Loop (Fs x) (((),((),((0:Int),()))),(y1.2.1,(y1.2.2.1,())))) (fun(y2:(Unit×Unit×Int×Unit)×(List Sb)×(List Sb)×Unit)=>ah (Loop (Ft x) (((),((),((0:Int),()))),(y2.2.1,(y2.2.2.1,())))) (fun(y3:(Unit×Unit×Int×Unit)×(List Sb)×(List Sb)×Unit)=>some (y3.2.2.1,(y3.2.1,())))))
noncomputable def ng(x:Int×sn×Unit)(y6:(Int×Int×Unit)×Unit):Option (bZ⊕cB) :=
 aj (aY y6.1.2.1 (@len aQ x.2.1.2.1))
 (ah (@idx aQ x.2.1.2.1 y6.1.2.1) (fun(y7:Sb×Sb×(List Sb)×Sb×Int×Int×Bool×Unit)=>ah (nX (y7,())) (fun(y8:Bool×Unit)=>aj (nt y8.1)
 (some (Sum.inr ((1:Nat),(((1:Int),(y6.1.2.1,())),())):(bZ)⊕(cB)))
 (some (Sum.inl ((y6.1.1,(aI IntKind.i64 y6.1.2.1 (1:Int),())),()):(bZ)⊕(cB))))))
 (some (Sum.inr ((0:Nat),((y6.1.1,(y6.1.2.1,())),())):(bZ)⊕(cB)))
noncomputable def nh(x:Int×sn×Unit)(y7:(Int×Int×Unit)×Unit):Option (bZ⊕cB) :=
 aj (aY y7.1.2.1 (@len cV x.2.1.2.2.1))
 (ah (@idx cV x.2.1.2.2.1 y7.1.2.1) (fun(y8:Sb×(List Sb)×Sb×Sb×j7×Unit)=>ah (nY (y8,())) (fun(y9:Bool×Unit)=>aj (nt y9.1)
 (some (Sum.inr ((1:Nat),(((1:Int),(y7.1.2.1,())),())):(bZ)⊕(cB)))
 (some (Sum.inl ((y7.1.1,(aI IntKind.i64 y7.1.2.1 (1:Int),())),()):(bZ)⊕(cB))))))
 (some (Sum.inr ((0:Nat),((y7.1.1,(y7.1.2.1,())),())):(bZ)⊕(cB)))
noncomputable def ni(x:Int×sn×Unit)(y8:(Int×Int×Unit)×Unit):Option (bZ⊕cB) :=
 aj (aY y8.1.2.1 (@len dW x.2.1.2.2.2.1))
 (ah (@idx dW x.2.1.2.2.2.1 y8.1.2.1) (fun(y9:Sb×(List Sb)×Sb×Sb×Sb×j7×Unit)=>ah (sr (y9,())) (fun(tf:Bool×Unit)=>aj (nt tf.1)
 (some (Sum.inr ((1:Nat),(((1:Int),(y8.1.2.1,())),())):(bZ)⊕(cB)))
 (some (Sum.inl ((y8.1.1,(aI IntKind.i64 y8.1.2.1 (1:Int),())),()):(bZ)⊕(cB))))))
 (some (Sum.inr ((0:Nat),((y8.1.1,(y8.1.2.1,())),())):(bZ)⊕(cB)))
noncomputable def gG(y9:(List Sb)×(List Sb)×Unit)(tf:(Int×Int×Unit)×Unit):Option (bZ⊕cB) :=
 aj (aY tf.1.2.1 (@len Sb y9.1))
 (ah (@idx Sb y9.1 (dO IntKind.i64 tf.1.2.1 (1:Int))) (fun(oc:List (UInt8))=>ah (@idx Sb y9.1 tf.1.2.1) (fun(gv:List (UInt8))=>aj (nt (iD oc gv))
 (some (Sum.inr ((1:Nat),(((1:Int),(tf.1.2.1,())),())):(bZ)⊕(cB)))
 (some (Sum.inl ((tf.1.1,(aI IntKind.i64 tf.1.2.1 (1:Int),())),()):(bZ)⊕(cB))))))
 (some (Sum.inr ((0:Nat),((tf.1.1,(tf.1.2.1,())),())):(bZ)⊕(cB)))
noncomputable def gH(y9:(List Sb)×(List Sb)×Unit)(oc:(Int×Int×Unit)×Unit)(gv:(Int×Int×Unit)×Unit):Option (bZ⊕cB) :=
 aj (aY gv.1.2.1 oc.1.2.1)
 (ah (@idx Sb y9.2.1 gv.1.2.1) (fun(fh:List (UInt8))=>ah (@idx Sb y9.2.1 oc.1.2.1) (fun(xw:List (UInt8))=>aj (cc fh xw)
 (some (Sum.inr ((1:Nat),(((1:Int),(gv.1.2.1,())),())):(bZ)⊕(cB)))
 (some (Sum.inl ((gv.1.1,(aI IntKind.i64 gv.1.2.1 (1:Int),())),()):(bZ)⊕(cB))))))
 (some (Sum.inr ((0:Nat),((gv.1.1,(gv.1.2.1,())),())):(bZ)⊕(cB)))
noncomputable def gI(y9:(List Sb)×(List Sb)×Unit)(oc:(Int×Int×Unit)×Unit):Option (bZ⊕cB) :=
 aj (aY oc.1.2.1 (@len Sb y9.2.1))
 (ah (Loop (gH y9 oc) ((oc.1.1,((0:Int),())),())) (fun(gv:Nat×(Int×Int×Unit)×Unit)=>aj (fB gv.1 (0:Nat))
 (some (Sum.inl ((gv.2.1.1,(aI IntKind.i64 oc.1.2.1 (1:Int),())),()):(bZ)⊕(cB)))
 (some (Sum.inr ((1:Nat),((gv.2.1.1,(oc.1.2.1,())),())):(bZ)⊕(cB)))))
 (some (Sum.inr ((0:Nat),((oc.1.1,(oc.1.2.1,())),())):(bZ)⊕(cB)))
noncomputable def kZ(x:Int×sn×Unit):Option (Int×Unit) :=
 aj (aY x.1 (1:Int))
 (some ((1:Int),()))
 (aj (aY (3:Int) x.1)
 (some ((1:Int),()))
 (aj (aY x.2.1.1 (0:Int))
 (some ((1:Int),()))
 (aj (aY (9007199254740992:Int) x.2.1.1)
 (some ((1:Int),()))
 (aj (within x.1 (4:Int))
 (ah (@idx Int ([(0:Int),@len dW x.2.1.2.2.2.1,@len cV x.2.1.2.2.1,@len aQ x.2.1.2.1]:List (Int)) x.1) (fun(y1:Int)=>aj (aY (32:Int) y1)
 (some ((1:Int),()))
 (aj (within (1:Int) (4:Int))
 (ah (@idx Int ([(0:Int),@len dW x.2.1.2.2.2.1,@len cV x.2.1.2.2.1,@len aQ x.2.1.2.1]:List (Int)) (1:Int)) (fun(y2:Int)=>aj (within (2:Int) (4:Int))
 (ah (@idx Int ([(0:Int),@len dW x.2.1.2.2.2.1,@len cV x.2.1.2.2.1,@len aQ x.2.1.2.1]:List (Int)) (2:Int)) (fun(y3:Int)=>aj (within (3:Int) (4:Int))
 (ah (@idx Int ([(0:Int),@len dW x.2.1.2.2.2.1,@len cV x.2.1.2.2.1,@len aQ x.2.1.2.1]:List (Int)) (3:Int)) (fun(y4:Int)=>aj (within x.1 (4:Int))
 (ah (@idx Int ([(0:Int),@len dW x.2.1.2.2.2.1,@len cV x.2.1.2.2.1,@len aQ x.2.1.2.1]:List (Int)) x.1) (fun(y5:Int)=>aj (nt (bC (aI IntKind.i64 (aI IntKind.i64 y2 y3) y4) y5))
 (some ((1:Int),()))
 (ah (Loop (ng x) (((0:Int),((0:Int),())),())) (fun(y6:Nat×(Int×Int×Unit)×Unit)=>aj (fB y6.1 (0:Nat))
 (ah (Loop (nh x) ((y6.2.1.1,((0:Int),())),())) (fun(y7:Nat×(Int×Int×Unit)×Unit)=>aj (fB y7.1 (0:Nat))
 (ah (Loop (ni x) ((y7.2.1.1,((0:Int),())),())) (fun(y8:Nat×(Int×Int×Unit)×Unit)=>aj (fB y8.1 (0:Nat))
 (ah (rI (x.2.1,())) (fun(y9:(List Sb)×(List Sb)×Unit)=>ah (Loop (gG y9) ((y8.2.1.1,((1:Int),())),())) (fun(tf:Nat×(Int×Int×Unit)×Unit)=>aj (fB tf.1 (0:Nat))
 (ah (Loop (gI y9) ((tf.2.1.1,((0:Int),())),())) (fun(oc:Nat×(Int×Int×Unit)×Unit)=>aj (fB oc.1 (0:Nat))
 (some ((0:Int),()))
 (some (oc.2.1.1,()))))
 (some (tf.2.1.1,())))))
 (some (y8.2.1.1,()))))
 (some (y7.2.1.1,()))))
 (some (y6.2.1.1,()))))))
 none))
 none))
 none))
 none)))
 none))))
noncomputable def Hg(x:(List aQ)×Sb×Unit)(y1:(Int×Int×Unit)×Unit):Option (bZ⊕cB) :=
 aj (aY y1.1.2.1 (@len aQ x.1))
 (ah (@idx aQ x.1 y1.1.2.1) (fun(y2:Sb×Sb×(List Sb)×Sb×Int×Int×Bool×Unit)=>aj (cc y2.1 x.2.1)
 (some (Sum.inr ((1:Nat),((y1.1.2.1,(y1.1.2.1,())),())):(bZ)⊕(cB)))
 (some (Sum.inl ((y1.1.1,(aI IntKind.i64 y1.1.2.1 (1:Int),())),()):(bZ)⊕(cB)))))
 (some (Sum.inr ((0:Nat),((y1.1.1,(y1.1.2.1,())),())):(bZ)⊕(cB)))
noncomputable def xV(x:(List aQ)×Sb×Unit):Option (Int×Unit) :=
 ah (Loop (Hg x) (((0:Int),((0:Int),())),())) (fun(y1:Nat×(Int×Int×Unit)×Unit)=>aj (fB y1.1 (0:Nat))
 (some ((-1:Int),()))
 (some (y1.2.1.1,())))
noncomputable def jA(x:(List aQ)×Sb×Unit)(y1:iM×(List aQ)×Unit):Option ((iM×(List aQ)×Unit)⊕(Nat×iM×(List aQ)×Unit)) :=
 aj (cO y1.1.2.2.2.2.1 (16:Int))
 (ah (xV (x.1,(y1.1.1,()))) (fun(y2:Int×Unit)=>aj (aY y2.1 (0:Int))
 (some (Sum.inr ((1:Nat),((y1.1.1,(([]:List aQ),((3:Int),((),(y1.1.2.2.2.2.1,()))))),(y1.2.1,()))):((iM×(List aQ)×Unit))⊕((Nat×iM×(List aQ)×Unit))))
 (aj (bC y1.1.2.2.2.2.1 (16:Int))
 (some (Sum.inr ((1:Nat),((y1.1.1,(([]:List aQ),((5:Int),((),(y1.1.2.2.2.2.1,()))))),(y1.2.1,()))):((iM×(List aQ)×Unit))⊕((Nat×iM×(List aQ)×Unit))))
 (ah (@idx aQ x.1 y2.1) (fun(y3:Sb×Sb×(List Sb)×Sb×Int×Int×Bool×Unit)=>aj (fits (plus (@len aQ y1.2.1) (@len aQ ([y3]:List aQ))))
 (ah (@idx aQ x.1 y2.1) (fun(y4:Sb×Sb×(List Sb)×Sb×Int×Int×Bool×Unit)=>aj (cc y4.2.1 ([]:List (UInt8)))
 (some (Sum.inr ((1:Nat),((y1.1.1,(@app aQ y1.2.1 ([y3]:List aQ),((0:Int),((),(y1.1.2.2.2.2.1,()))))),(@app aQ y1.2.1 ([y3]:List aQ),()))):((iM×(List aQ)×Unit))⊕((Nat×iM×(List aQ)×Unit))))
 (ah (@idx aQ x.1 y2.1) (fun(y5:Sb×Sb×(List Sb)×Sb×Int×Int×Bool×Unit)=>some (Sum.inl ((y5.2.1,(y1.1.2.1,(y1.1.2.2.1,((),(aI IntKind.i64 y1.1.2.2.2.2.1 (1:Int),()))))),(@app aQ y1.2.1 ([y3]:List aQ),())):((iM×(List aQ)×Unit))⊕((Nat×iM×(List aQ)×Unit)))))))
 none)))))
 (some (Sum.inr ((0:Nat),((y1.1.1,(y1.1.2.1,(y1.1.2.2.1,((),(y1.1.2.2.2.2.1,()))))),(y1.2.1,()))):((iM×(List aQ)×Unit))⊕((Nat×iM×(List aQ)×Unit))))
noncomputable def nZ(x:(List aQ)×Sb×Unit):Option ((List aQ)×Int×Unit) :=
 ah (Loop (jA x) ((x.2.1,(([]:List aQ),((0:Int),((),((0:Int),()))))),(([]:List aQ),()))) (fun(y1:Nat×iM×(List aQ)×Unit)=>aj (fB y1.1 (0:Nat))
 (some (([]:List aQ),((5:Int),())))
 (some (y1.2.1.2.1,(y1.2.1.2.2.1,()))))
noncomputable def nj(x:(List aQ)×Unit)(y1:(Int×Int×Unit)×Unit):Option (bZ⊕cB) :=
 aj (aY y1.1.2.1 (@len aQ x.1))
 (ah (@idx aQ x.1 y1.1.2.1) (fun(y2:Sb×Sb×(List Sb)×Sb×Int×Int×Bool×Unit)=>ah (nZ (x.1,(y2.1,()))) (fun(y3:(List aQ)×Int×Unit)=>aj (nt (bC y3.2.1 (0:Int)))
 (some (Sum.inr ((1:Nat),(((2:Int),(y1.1.2.1,())),())):(bZ)⊕(cB)))
 (some (Sum.inl ((y1.1.1,(aI IntKind.i64 y1.1.2.1 (1:Int),())),()):(bZ)⊕(cB))))))
 (some (Sum.inr ((0:Nat),((y1.1.1,(y1.1.2.1,())),())):(bZ)⊕(cB)))
noncomputable def rJ(x:(List aQ)×Unit):Option (Int×Unit) :=
 ah (Loop (nj x) (((0:Int),((0:Int),())),())) (fun(y1:Nat×(Int×Int×Unit)×Unit)=>aj (fB y1.1 (0:Nat))
 (some ((0:Int),()))
 (some (y1.2.1.1,())))
noncomputable def Hh(x:gm×Sb×Unit)(y1:(Int×Int×Unit)×Unit):Option (bZ⊕cB) :=
 aj (aY y1.1.2.1 (@len aQ x.1.2.2.1))
 (ah (@idx aQ x.1.2.2.1 y1.1.2.1) (fun(y2:Sb×Sb×(List Sb)×Sb×Int×Int×Bool×Unit)=>aj (cc y2.1 x.2.1)
 (some (Sum.inr ((1:Nat),((y1.1.2.1,(y1.1.2.1,())),())):(bZ)⊕(cB)))
 (some (Sum.inl ((y1.1.1,(aI IntKind.i64 y1.1.2.1 (1:Int),())),()):(bZ)⊕(cB)))))
 (some (Sum.inr ((0:Nat),((y1.1.1,(y1.1.2.1,())),())):(bZ)⊕(cB)))
noncomputable def j8(x:gm×Sb×Unit):Option (Int×Unit) :=
 ah (Loop (Hh x) (((0:Int),((0:Int),())),())) (fun(y1:Nat×(Int×Int×Unit)×Unit)=>aj (fB y1.1 (0:Nat))
 (some ((-1:Int),()))
 (some (y1.2.1.1,())))
noncomputable def tF(x:gm×Int×Unit):Option (Sb×Unit) :=
 aj (aY x.2.1 (@len Sb x.1.2.2.2.1))
 (ah (@idx Sb x.1.2.2.2.1 x.2.1) (fun(y1:List (UInt8))=>some (y1,())))
 (some (([]:List (UInt8)),()))
noncomputable def fI(x:(List Sb)×Unit)(y1:nW×Unit):Option ((nW×Unit)⊕(Nat×nW×Unit)) :=
 aj (aY y1.1.2.2.2.1 (@len Sb x.1))
 (ah (@idx Sb x.1 y1.1.2.2.2.1) (fun(y2:List (UInt8))=>ah (rH (y1.1.2.2.1,(y2,()))) (fun(y3:(List qh)×Int×Unit)=>aj (nt (bC y3.2.1 (0:Int)))
 (some (Sum.inr ((1:Nat),((([]:List qh),(y3.2.1,(y1.1.2.2.1,(y1.1.2.2.2.1,())))),())):((nW×Unit))⊕((Nat×nW×Unit))))
 (some (Sum.inl ((y1.1.1,(y1.1.2.1,(y3.1,(aI IntKind.i64 y1.1.2.2.2.1 (1:Int),())))),()):((nW×Unit))⊕((Nat×nW×Unit)))))))
 (some (Sum.inr ((0:Nat),((y1.1.1,(y1.1.2.1,(y1.1.2.2.1,(y1.1.2.2.2.1,())))),())):((nW×Unit))⊕((Nat×nW×Unit))))
noncomputable def vm(x:(List Sb)×Unit):Option ((List qh)×Int×Unit) :=
 ah (Loop (fI x) ((([]:List qh),((0:Int),(([]:List qh),((0:Int),())))),())) (fun(y1:Nat×nW×Unit)=>aj (fB y1.1 (0:Nat))
 (some (y1.2.1.2.2.1,((0:Int),())))
 (some (y1.2.1.1,(y1.2.1.2.1,()))))
noncomputable def kM(x:gm×Sb×Unit)(y1:(List aQ)×Int×Unit)(y2:(Unit×Int×Unit)×(List Sb)×Unit):Option (((Unit×Int×Unit)×(List Sb)×Unit)⊕((Unit×Int×Unit)×(List Sb)×Unit)) :=
 @ep ((Unit×Int×Unit)×(List Sb)×Unit) (aj (cO (0:Int) y2.1.2.1)
 (ah (@idx aQ y1.1 y2.1.2.1) (fun(y3:Sb×Sb×(List Sb)×Sb×Int×Int×Bool×Unit)=>ah (j8 (x.1,(y3.1,()))) (fun(y4:Int×Unit)=>ah (tF (x.1,(y4.1,()))) (fun(y5:Sb×Unit)=>aj (fits (plus (@len Sb y2.2.1) (@len Sb ([y5.1]:List Sb))))
 (some (Sum.inl (((),(dO IntKind.i64 y2.1.2.1 (1:Int),())),(@app Sb y2.2.1 ([y5.1]:List Sb),())):(((Unit×Int×Unit)×(List Sb)×Unit))⊕((Nat×(Unit×Int×Unit)×(List Sb)×Unit))))
 none))))
 (some (Sum.inr ((0:Nat),(((),(y2.1.2.1,())),(y2.2.1,()))):(((Unit×Int×Unit)×(List Sb)×Unit))⊕((Nat×(Unit×Int×Unit)×(List Sb)×Unit)))))
noncomputable def tG(x:gm×Sb×Unit):Option ((List qh)×Int×Unit) :=
 ah (nZ (x.1.2.2.1,(x.2.1,()))) (fun(y1:(List aQ)×Int×Unit)=>aj (nt (bC y1.2.1 (0:Int)))
 (some (([]:List qh),(y1.2.1,())))
 (ah (Loop (kM x y1) (((),(dO IntKind.i64 (@len aQ y1.1) (1:Int),())),(([]:List Sb),()))) (fun(y2:(Unit×Int×Unit)×(List Sb)×Unit)=>ah (vm (y2.2.1,())) (fun(y3:(List qh)×Int×Unit)=>some (y3.1,(y3.2.1,()))))))
noncomputable def lD(x:gm×Unit)(y2:eD×Unit):Option (aW⊕bF) :=
 aj (aj (aY y2.1.2.1 (@len aQ x.1.2.2.1))
 (aY y2.1.2.1 (@len Sb x.1.2.2.2.1))
 false)
 (ah (@idx aQ x.1.2.2.1 y2.1.2.1) (fun(y3:Sb×Sb×(List Sb)×Sb×Int×Int×Bool×Unit)=>aj (nt y3.2.2.2.2.2.2.1)
 (some (Sum.inr ((1:Nat),((false,(y2.1.2.1,())),())):(aW)⊕(bF)))
 (aj (nt (bC y3.2.2.2.2.2.1 (0:Int)))
 (some (Sum.inr ((1:Nat),((false,(y2.1.2.1,())),())):(aW)⊕(bF)))
 (ah (@idx Sb x.1.2.2.2.1 y2.1.2.1) (fun(y4:List (UInt8))=>aj (nt (bC y3.2.2.2.2.1 (@len UInt8 y4)))
 (some (Sum.inr ((1:Nat),((false,(y2.1.2.1,())),())):(aW)⊕(bF)))
 (ah (@idx Sb x.1.2.2.2.1 y2.1.2.1) (fun(y5:List (UInt8))=>ah (uq (y5,())) (fun(y6:Sb×Unit)=>aj (nt (cc y3.2.2.2.1 y6.1))
 (some (Sum.inr ((1:Nat),((false,(y2.1.2.1,())),())):(aW)⊕(bF)))
 (ah (@idx Sb x.1.2.2.2.1 y2.1.2.1) (fun(y7:List (UInt8))=>ah (nV (y7,())) (fun(y8:Int×Unit)=>aj (nt (bC y8.1 (0:Int)))
 (some (Sum.inr ((1:Nat),((false,(y2.1.2.1,())),())):(aW)⊕(bF)))
 (ah (tG (x.1,(y3.1,()))) (fun(y9:(List qh)×Int×Unit)=>aj (nt (bC y9.2.1 (0:Int)))
 (some (Sum.inr ((1:Nat),((false,(y2.1.2.1,())),())):(aW)⊕(bF)))
 (some (Sum.inl ((y2.1.1,(aI IntKind.i64 y2.1.2.1 (1:Int),())),()):(aW)⊕(bF))))))))))))))))
 (some (Sum.inr ((0:Nat),((y2.1.1,(y2.1.2.1,())),())):(aW)⊕(bF)))
noncomputable def qk(x:gm×Unit):Option (Bool×Unit) :=
 ah (aj (nt (nt (bC (@len Sb x.1.2.2.2.1) (@len aQ x.1.2.2.1))))
 (ah (rJ (x.1.2.2.1,())) (fun(y1:Int×Unit)=>some (nt (bC y1.1 (0:Int)))))
 (some true)) (fun(y1:Bool)=>aj y1
 (some (false,()))
 (ah (Loop (lD x) ((false,((0:Int),())),())) (fun(y2:Nat×eD×Unit)=>aj (fB y2.1 (0:Nat))
 (some (true,()))
 (some (y2.2.1.1,())))))
noncomputable def ql(x:gm×Unit)(y5:eD×Unit):Option (aW⊕bF) :=
 aj (aY y5.1.2.1 (@len cV x.1.2.1))
 (ah (@idx cV x.1.2.1 y5.1.2.1) (fun(y6:Sb×(List Sb)×Sb×Sb×j7×Unit)=>aj (nt (cc y6.2.2.1 ([]:List (UInt8))))
 (ah (@idx cV x.1.2.1 y5.1.2.1) (fun(y7:Sb×(List Sb)×Sb×Sb×j7×Unit)=>ah (j8 (x.1,(y7.2.2.1,()))) (fun(y8:Int×Unit)=>aj (aY y8.1 (0:Int))
 (some (Sum.inr ((1:Nat),((false,(y5.1.2.1,())),())):(aW)⊕(bF)))
 (some (Sum.inl ((y5.1.1,(aI IntKind.i64 y5.1.2.1 (1:Int),())),()):(aW)⊕(bF))))))
 (some (Sum.inl ((y5.1.1,(aI IntKind.i64 y5.1.2.1 (1:Int),())),()):(aW)⊕(bF)))))
 (some (Sum.inr ((0:Nat),((y5.1.1,(y5.1.2.1,())),())):(aW)⊕(bF)))
noncomputable def mC(x:gm×Unit)(y7:Sb×(List Sb)×Sb×Sb×Sb×j7×Unit)(y8:eD×Unit):Option (aW⊕aW) :=
 @ep aW (aj (aY y8.1.2.1 (@len cV x.1.2.1))
 (aj y8.1.1
 (some (Sum.inl ((true,(aI IntKind.i64 y8.1.2.1 (1:Int),())),()):(aW)⊕(bF)))
 (ah (@idx cV x.1.2.1 y8.1.2.1) (fun(y9:Sb×(List Sb)×Sb×Sb×j7×Unit)=>some (Sum.inl ((cc y9.1 y7.2.2.1,(aI IntKind.i64 y8.1.2.1 (1:Int),())),()):(aW)⊕(bF)))))
 (some (Sum.inr ((0:Nat),((y8.1.1,(y8.1.2.1,())),())):(aW)⊕(bF))))
noncomputable def qm(x:gm×Unit)(y6:eD×Unit):Option (aW⊕bF) :=
 aj (aY y6.1.2.1 (@len dW x.1.1))
 (ah (@idx dW x.1.1 y6.1.2.1) (fun(y7:Sb×(List Sb)×Sb×Sb×Sb×j7×Unit)=>ah (Loop (mC x y7) ((cc y7.2.2.1 ([]:List (UInt8)),((0:Int),())),())) (fun(y8:eD×Unit)=>ah (aj (nt (nt y8.1.1))
 (ah (j8 (x.1,(y7.2.2.2.1,()))) (fun(y9:Int×Unit)=>some (aY y9.1 (0:Int))))
 (some true)) (fun(y9:Bool)=>aj y9
 (some (Sum.inr ((1:Nat),((false,(y6.1.2.1,())),())):(aW)⊕(bF)))
 (some (Sum.inl ((y6.1.1,(aI IntKind.i64 y6.1.2.1 (1:Int),())),()):(aW)⊕(bF)))))))
 (some (Sum.inr ((0:Nat),((y6.1.1,(y6.1.2.1,())),())):(aW)⊕(bF)))
noncomputable def qn(x:gm×Unit)(y7:eD×Unit):Option (aW⊕bF) :=
 aj (aY y7.1.2.1 (@len gS x.1.2.2.2.2.1))
 (ah (@idx gS x.1.2.2.2.2.1 y7.1.2.1) (fun(y8:Sb×Int×Unit)=>ah (j8 (x.1,(y8.1,()))) (fun(y9:Int×Unit)=>aj (aY y9.1 (0:Int))
 (some (Sum.inr ((1:Nat),((false,(y7.1.2.1,())),())):(aW)⊕(bF)))
 (aj (aY y8.2.1 (1:Int))
 (some (Sum.inr ((1:Nat),((false,(y7.1.2.1,())),())):(aW)⊕(bF)))
 (aj (aY (1000:Int) y8.2.1)
 (some (Sum.inr ((1:Nat),((false,(y7.1.2.1,())),())):(aW)⊕(bF)))
 (aj (aY (0:Int) y7.1.2.1)
 (ah (@idx gS x.1.2.2.2.2.1 (dO IntKind.i64 y7.1.2.1 (1:Int))) (fun(tf:Sb×Int×Unit)=>aj (nt (iD tf.1 y8.1))
 (some (Sum.inr ((1:Nat),((false,(y7.1.2.1,())),())):(aW)⊕(bF)))
 (some (Sum.inl ((y7.1.1,(aI IntKind.i64 y7.1.2.1 (1:Int),())),()):(aW)⊕(bF)))))
 (some (Sum.inl ((y7.1.1,(aI IntKind.i64 y7.1.2.1 (1:Int),())),()):(aW)⊕(bF)))))))))
 (some (Sum.inr ((0:Nat),((y7.1.1,(y7.1.2.1,())),())):(aW)⊕(bF)))
noncomputable def mD(x:gm×Unit):Option (Bool×Unit) :=
 ah (kZ ((1:Int),(((0:Int),(([]:List aQ),(([]:List cV),(x.1.1,())))),()))) (fun(y1:Int×Unit)=>ah (aj (nt (nt (bC y1.1 (0:Int))))
 (ah (kZ ((2:Int),(((0:Int),(([]:List aQ),(x.1.2.1,(([]:List dW),())))),()))) (fun(y2:Int×Unit)=>some (nt (bC y2.1 (0:Int)))))
 (some true)) (fun(y2:Bool)=>ah (aj (nt y2)
 (ah (kZ ((3:Int),(((0:Int),(x.1.2.2.1,(([]:List cV),(([]:List dW),())))),()))) (fun(y3:Int×Unit)=>some (nt (bC y3.1 (0:Int)))))
 (some true)) (fun(y3:Bool)=>ah (aj (nt y3)
 (ah (qk (x.1,())) (fun(y4:Bool×Unit)=>some (nt y4.1)))
 (some true)) (fun(y4:Bool)=>aj (aj (nt y4)
 (aY (32:Int) (@len gS x.1.2.2.2.2.1))
 true)
 (some (false,()))
 (ah (Loop (ql x) ((false,((0:Int),())),())) (fun(y5:Nat×eD×Unit)=>aj (fB y5.1 (0:Nat))
 (ah (Loop (qm x) ((y5.2.1.1,((0:Int),())),())) (fun(y6:Nat×eD×Unit)=>aj (fB y6.1 (0:Nat))
 (ah (Loop (qn x) ((y6.2.1.1,((0:Int),())),())) (fun(y7:Nat×eD×Unit)=>aj (fB y7.1 (0:Nat))
 (some (true,()))
 (some (y7.2.1.1,()))))
 (some (y6.2.1.1,()))))
 (some (y5.2.1.1,()))))))))
noncomputable def iN(x:(List dW)×(List dW)×Unit)(y1:eD×Unit):Option (aW⊕bF) :=
 aj (aj (aY y1.1.2.1 (@len dW x.1))
 (aY y1.1.2.1 (@len dW x.2.1))
 false)
 (ah (@idx dW x.1 y1.1.2.1) (fun(y2:Sb×(List Sb)×Sb×Sb×Sb×j7×Unit)=>ah (@idx dW x.2.1 y1.1.2.1) (fun(y3:Sb×(List Sb)×Sb×Sb×Sb×j7×Unit)=>ah (aj (nt (nt (cc y2.1 y3.1)))
 (ah (ef (y2.2.1,(y3.2.1,()))) (fun(y4:Bool×Unit)=>some (nt y4.1)))
 (some true)) (fun(y4:Bool)=>ah (aj (nt (aj (nt (aj (nt (aj (nt y4)
 (nt (cc y2.2.2.1 y3.2.2.1))
 true))
 (nt (cc y2.2.2.2.1 y3.2.2.2.1))
 true))
 (nt (cc y2.2.2.2.2.1 y3.2.2.2.2.1))
 true))
 (ah (fR (y2.2.2.2.2.2.1,(y3.2.2.2.2.2.1,()))) (fun(y5:Bool×Unit)=>some (nt y5.1)))
 (some true)) (fun(y5:Bool)=>aj y5
 (some (Sum.inr ((1:Nat),((false,(y1.1.2.1,())),())):(aW)⊕(bF)))
 (some (Sum.inl ((y1.1.1,(aI IntKind.i64 y1.1.2.1 (1:Int),())),()):(aW)⊕(bF))))))))
 (some (Sum.inr ((0:Nat),((y1.1.1,(y1.1.2.1,())),())):(aW)⊕(bF)))
noncomputable def lE(x:(List dW)×(List dW)×Unit):Option (Bool×Unit) :=
 aj (nt (bC (@len dW x.1) (@len dW x.2.1)))
 (some (false,()))
 (ah (Loop (iN x) ((false,((0:Int),())),())) (fun(y1:Nat×eD×Unit)=>aj (fB y1.1 (0:Nat))
 (some (true,()))
 (some (y1.2.1.1,()))))
noncomputable def hU(x:(List cV)×(List cV)×Unit)(y1:eD×Unit):Option (aW⊕bF) :=
 aj (aj (aY y1.1.2.1 (@len cV x.1))
 (aY y1.1.2.1 (@len cV x.2.1))
 false)
 (ah (@idx cV x.1 y1.1.2.1) (fun(y2:Sb×(List Sb)×Sb×Sb×j7×Unit)=>ah (@idx cV x.2.1 y1.1.2.1) (fun(y3:Sb×(List Sb)×Sb×Sb×j7×Unit)=>ah (aj (nt (nt (cc y2.1 y3.1)))
 (ah (ef (y2.2.1,(y3.2.1,()))) (fun(y4:Bool×Unit)=>some (nt y4.1)))
 (some true)) (fun(y4:Bool)=>ah (aj (nt (aj (nt (aj (nt y4)
 (nt (cc y2.2.2.1 y3.2.2.1))
 true))
 (nt (cc y2.2.2.2.1 y3.2.2.2.1))
 true))
 (ah (fR (y2.2.2.2.2.1,(y3.2.2.2.2.1,()))) (fun(y5:Bool×Unit)=>some (nt y5.1)))
 (some true)) (fun(y5:Bool)=>aj y5
 (some (Sum.inr ((1:Nat),((false,(y1.1.2.1,())),())):(aW)⊕(bF)))
 (some (Sum.inl ((y1.1.1,(aI IntKind.i64 y1.1.2.1 (1:Int),())),()):(aW)⊕(bF))))))))
 (some (Sum.inr ((0:Nat),((y1.1.1,(y1.1.2.1,())),())):(aW)⊕(bF)))
noncomputable def j9(x:(List cV)×(List cV)×Unit):Option (Bool×Unit) :=
 aj (nt (bC (@len cV x.1) (@len cV x.2.1)))
 (some (false,()))
 (ah (Loop (hU x) ((false,((0:Int),())),())) (fun(y1:Nat×eD×Unit)=>aj (fB y1.1 (0:Nat))
 (some (true,()))
 (some (y1.2.1.1,()))))
noncomputable def hY(x:(List aQ)×(List aQ)×Unit)(y1:eD×Unit):Option (aW⊕bF) :=
 aj (aj (aY y1.1.2.1 (@len aQ x.1))
 (aY y1.1.2.1 (@len aQ x.2.1))
 false)
 (ah (@idx aQ x.1 y1.1.2.1) (fun(y2:Sb×Sb×(List Sb)×Sb×Int×Int×Bool×Unit)=>ah (@idx aQ x.2.1 y1.1.2.1) (fun(y3:Sb×Sb×(List Sb)×Sb×Int×Int×Bool×Unit)=>ah (aj (nt (aj (nt (nt (cc y2.1 y3.1)))
 (nt (cc y2.2.1 y3.2.1))
 true))
 (ah (ef (y2.2.2.1,(y3.2.2.1,()))) (fun(y4:Bool×Unit)=>some (nt y4.1)))
 (some true)) (fun(y4:Bool)=>aj (aj (nt (aj (nt (aj (nt (aj (nt y4)
 (nt (cc y2.2.2.2.1 y3.2.2.2.1))
 true))
 (nt (bC y2.2.2.2.2.1 y3.2.2.2.2.1))
 true))
 (nt (bC y2.2.2.2.2.2.1 y3.2.2.2.2.2.1))
 true))
 (nt (X1 y2.2.2.2.2.2.2.1 y3.2.2.2.2.2.2.1))
 true)
 (some (Sum.inr ((1:Nat),((false,(y1.1.2.1,())),())):(aW)⊕(bF)))
 (some (Sum.inl ((y1.1.1,(aI IntKind.i64 y1.1.2.1 (1:Int),())),()):(aW)⊕(bF)))))))
 (some (Sum.inr ((0:Nat),((y1.1.1,(y1.1.2.1,())),())):(aW)⊕(bF)))
noncomputable def ke(x:(List aQ)×(List aQ)×Unit):Option (Bool×Unit) :=
 aj (nt (bC (@len aQ x.1) (@len aQ x.2.1)))
 (some (false,()))
 (ah (Loop (hY x) ((false,((0:Int),())),())) (fun(y1:Nat×eD×Unit)=>aj (fB y1.1 (0:Nat))
 (some (true,()))
 (some (y1.2.1.1,()))))
noncomputable def ia(x:(List gS)×(List gS)×Unit)(y1:eD×Unit):Option (aW⊕bF) :=
 aj (aj (aY y1.1.2.1 (@len gS x.1))
 (aY y1.1.2.1 (@len gS x.2.1))
 false)
 (ah (@idx gS x.1 y1.1.2.1) (fun(y2:Sb×Int×Unit)=>ah (@idx gS x.2.1 y1.1.2.1) (fun(y3:Sb×Int×Unit)=>aj (nt (an (cc y2.1 y3.1) (an (bC y2.2.1 y3.2.1) true)))
 (some (Sum.inr ((1:Nat),((false,(y1.1.2.1,())),())):(aW)⊕(bF)))
 (some (Sum.inl ((y1.1.1,(aI IntKind.i64 y1.1.2.1 (1:Int),())),()):(aW)⊕(bF))))))
 (some (Sum.inr ((0:Nat),((y1.1.1,(y1.1.2.1,())),())):(aW)⊕(bF)))
noncomputable def kf(x:(List gS)×(List gS)×Unit):Option (Bool×Unit) :=
 aj (nt (bC (@len gS x.1) (@len gS x.2.1)))
 (some (false,()))
 (ah (Loop (ia x) ((false,((0:Int),())),())) (fun(y1:Nat×eD×Unit)=>aj (fB y1.1 (0:Nat))
 (some (true,()))
 (some (y1.2.1.1,()))))
noncomputable def kg(x:gm×gm×Unit):Option (Bool×Unit) :=
 ah (lE (x.1.1,(x.2.1.1,()))) (fun(y1:Bool×Unit)=>ah (aj y1.1
 (ah (j9 (x.1.2.1,(x.2.1.2.1,()))) (fun(y2:Bool×Unit)=>some y2.1))
 (some false)) (fun(y2:Bool)=>ah (aj y2
 (ah (ke (x.1.2.2.1,(x.2.1.2.2.1,()))) (fun(y3:Bool×Unit)=>some y3.1))
 (some false)) (fun(y3:Bool)=>ah (aj y3
 (ah (ef (x.1.2.2.2.1,(x.2.1.2.2.2.1,()))) (fun(y4:Bool×Unit)=>some y4.1))
 (some false)) (fun(y4:Bool)=>ah (aj y4
 (ah (kf (x.1.2.2.2.2.1,(x.2.1.2.2.2.2.1,()))) (fun(y5:Bool×Unit)=>some y5.1))
 (some false)) (fun(y5:Bool)=>some (y5,()))))))
noncomputable def jg(x:gm×(List Sb)×Int×Unit):Option (Bool×Unit) :=
 ah (vl (x.1,())) (fun(y1:Bool×Unit)=>ah (aj (nt (nt y1.1))
 (aj (within (0:Int) (2:Int))
 (ah (@idx Sb x.2.1 (0:Int)) (fun(y2:List (UInt8))=>some (aY (100:Int) (@len UInt8 y2))))
 none)
 (some true)) (fun(y2:Bool)=>ah (aj (nt y2)
 (aj (within (1:Int) (2:Int))
 (ah (@idx Sb x.2.1 (1:Int)) (fun(y3:List (UInt8))=>some (aY (100:Int) (@len UInt8 y3))))
 none)
 (some true)) (fun(y3:Bool)=>ah (aj (nt y3)
 (ah (mD (x.1,())) (fun(y4:Bool×Unit)=>some (nt y4.1)))
 (some true)) (fun(y4:Bool)=>aj y4
 (ah (nT ()) (fun(y5:Bool×Unit)=>some (y5.1,())))
 (aj (within (0:Int) (2:Int))
 (ah (@idx Sb x.2.1 (0:Int)) (fun(y5:List (UInt8))=>aj (within (1:Int) (2:Int))
 (ah (@idx Sb x.2.1 (1:Int)) (fun(y6:List (UInt8))=>ah (iy (x.1,(y5,(([([(102:UInt8),(114:UInt8),(101:UInt8),(115:UInt8),(104:UInt8),(45:UInt8),(110:UInt8),(97:UInt8),(109:UInt8),(101:UInt8)]:List (UInt8))]:List Sb),(y6,(x.2.2.1,())))))) (fun(y7:gm×(Int×Sb×Int×Sb×Unit)×Unit)=>aj (within (0:Int) (2:Int))
 (ah (@idx Sb x.2.1 (0:Int)) (fun(y8:List (UInt8))=>ah (iz (x.1,(y8,()))) (fun(y9:gm×(Int×Sb×Int×Sb×Unit)×Unit)=>ah (mD (y7.1,())) (fun(tf:Bool×Unit)=>ah (aj (nt (nt tf.1))
 (ah (mD (y9.1,())) (fun(oc:Bool×Unit)=>some (nt oc.1)))
 (some true)) (fun(oc:Bool)=>ah (aj (nt oc)
 (ah (aj (nt (bC y7.2.1.1 (0:Int)))
 (ah (kg (y7.1,(x.1,()))) (fun(gv:Bool×Unit)=>some (nt gv.1)))
 (some false)) (fun(gv:Bool)=>some gv))
 (some true)) (fun(gv:Bool)=>ah (aj (nt gv)
 (ah (aj (nt (bC y9.2.1.1 (0:Int)))
 (ah (kg (y9.1,(x.1,()))) (fun(fh:Bool×Unit)=>some (nt fh.1)))
 (some false)) (fun(fh:Bool)=>some fh))
 (some true)) (fun(fh:Bool)=>aj fh
 (some (false,()))
 (ah (nS (y7.1,(([(102:UInt8),(114:UInt8),(101:UInt8),(115:UInt8),(104:UInt8),(45:UInt8),(110:UInt8),(97:UInt8),(109:UInt8),(101:UInt8)]:List (UInt8)),()))) (fun(xw:Sb×Int×Unit)=>ah (qc (y7.1,(y7.2.1.2.1,()))) (fun(HH:cV×Bool×Unit)=>ah (aj (nt (nt (bC y7.2.1.1 (0:Int))))
 (ah (aj (aj (aj (cc xw.1 y7.2.1.2.1)
 (bC xw.2.1 (0:Int))
 false)
 HH.2.1
 false)
 (aj (within (1:Int) (2:Int))
 (ah (@idx Sb x.2.1 (1:Int)) (fun(Oe:List (UInt8))=>some (cc HH.1.2.2.2.1 Oe)))
 none)
 (some false)) (fun(Oe:Bool)=>some (aj Oe
 (bC (@len (Sb×Sb×Sb×Unit) HH.1.2.2.2.2.1) (0:Int))
 false)))
 (some true)) (fun(Oe:Bool)=>ah (aj Oe
 (ah (nT ()) (fun(J9:Bool×Unit)=>some J9.1))
 (some false)) (fun(J9:Bool)=>some (J9,())))))))))))))
 none)))
 none))
 none)))))
end Go.Ge
namespace Go.Ge
set_option linter.unusedSectionVars false
variable [Lp]
set_option linter.unusedVariables false
set_option linter.unusedSimpArgs false
def idN(n:Int):Tx:=r9 (bz [qy .u8 (rN .i64 n 16),qy .u8 (rN .i64 n 8),qy .u8 n])
def idK(d:Int)(k:Nat):Tx:=idN (ij (aI .i64 (jF .i64 d 16777215) (k:Int)) 16777216)
def CG(s:Tx):Prop:=(nB s).isSome=true∧s.length=6
theorem mE(s:Tx)(hs:s.length≤1048576):∃b,fA (s,())=some (b,())∧(b=true↔CG s):=by
 unfold fA
 dsimp only
 rw[D0 s hs,aa]
 have e6:bC (@len UInt8 s) (6:Int)=decide (s.length=6):=by unfold bC len;apply decide_eq_decide.2;omega
 refine⟨_,rfl,?_⟩
 rw[e6]
 unfold CG ans
 cases nB s with
 | none=>simp[aj]
 | some x=>simp[aj]
theorem KR(n:Int):vi (n,())=some (idN n,()):=by
 unfold vi
 rw[show aY (16:Int) 0=false from rfl,af,show aY (8:Int) 0=false from rfl,af,Y6 _ (by show 3≤1048576;omega),aa]
 rfl
theorem aaK(n:Int):CG (idN n):=by
 have h:∀a b c:UInt8,(nB (r9 [a,b,c])).isSome=true∧(r9 [a,b,c]).length=6:=fun a b c=>⟨by rw[UO];rfl,rfl⟩
 exact h _ _ _
def D7(l:List Nm)(d:Int)(k:Nat):Bool:=decide (∀x∈l,x.1≠idK d k)
def kj(l:List Nm)(d:Int):Tx×Int×Unit:=if 32≤l.length then([],(5,())) else
 match(List.range (l.length+1)).find? (D7 l d) with|some k=>(idK d k,(0,()))|none=>([],(5,()))
theorem UR(l:List Nm)(d:Int)(s:Tx)(hl:l.length≤1000000) :
  (∃i:Nat,Loop (fQ (l,(d,()))) (((0:Int),((0:Int),())),(s,()))=some (1,(((i:Int),((i:Int),())),(s,())))∧∃x∈l,x.1=s) ∨
  (Loop (fQ (l,(d,()))) (((0:Int),((0:Int),())),(s,()))=some (0,(((0:Int),(len l,())),(s,())))∧∀x∈l,x.1≠s):=by
 rcases mM (f:=fQ (l,(d,()))) l (fun i=>(((0:Int),(i,())),(s,()))) (fun _ x=>decide (x.1=s)) (fun i x=>(1,(((i:Int),((i:Int),())),(s,())))) (0,(((0:Int),(len l,())),(s,()))) (by omega) (fun i x hx hi ha=>by
  unfold fQ
  dsimp only
  rw[au hi,ag,az hx,aa,lX,ha]
  by_cases h:x.1=s<;>simp[cc,h]) (by unfold fQ;dsimp only;rw[aE,af];rfl) with ⟨i,x,hx,hp,hj,h⟩|⟨hn,h⟩
 ·exact .inl ⟨i,h,x,List.mem_of_getElem? hx,of_decide_eq_true hp⟩
 ·refine .inr ⟨h,fun x hx he=>?_⟩
  obtain⟨i,hi⟩:=bQ.1 hx
  have:=hn i x hi
  simp[he] at this
theorem US(l:List Nm)(d:Int):mu (l,(d,()))=some (kj l d):=by
 unfold mu kj
 dsimp only
 have e32:cO (32:Int) (len l)=decide (32≤l.length):=by unfold cO len;apply decide_eq_decide.2;omega
 rw[e32]
 by_cases Yf:32≤l.length
 ·rw[decide_eq_true Yf,if_pos Yf];rfl
 rw[decide_eq_false Yf,if_neg Yf,af]
 have G7:aI .i64 (len l) 1=((l.length+1:Nat):Int):=by rw[iH (by unfold len;omega) (by unfold len;omega)];unfold len;omega
 have hlen:(List.range (l.length+1)).length=l.length+1:=List.length_range
 have key:∀k:Nat,k<l.length+1→iK (l,(d,())) ((([]:Tx),((0:Int),((k:Int),()))),())=some (if D7 l d k=true then .inr (1,((idK d k,((0:Int),((k:Int),()))),())) else .inl ((([]:Tx),((0:Int),(((k+1:Nat):Int),()))),())):=fun k hk=>by
  have hk1:aI .i64 (k:Int) 1=((k+1:Nat):Int):=aZ (by omega)
  unfold iK
  dsimp only
  rw[G7,aT (by omega),ag,show bC (16777216:Int) 0=false from rfl,af,KR,aa,hk1]
  dsimp only
  show ah (Loop _ (((0:Int),((0:Int),())),(idK d k,()))) _=_
  rcases UR l d (idK d k) (by omega) with ⟨i,h,x,hx,he⟩|⟨h,hn⟩
  ·rw[h,aa]
   dsimp only
   rw[show fB 1 0=false from rfl,af,cz (by omega),aK,af,if_neg (by unfold D7;rw[decide_eq_true_iff];exact fun hq=>hq x hx he)]
  ·rw[h,aa]
   dsimp only
   rw[show fB 0 0=true from rfl,ag,show nt (cO (0:Int) (-1))=true from rfl,ag,if_pos (by unfold D7;rw[decide_eq_true_iff];exact hn)]
   rfl
 rcases mM (f:=iK (l,(d,()))) (List.range (l.length+1)) (fun k=>((([]:Tx),((0:Int),(k,()))),())) (fun k _=>D7 l d k) (fun k _=>(1,((idK d k,((0:Int),((k:Int),()))),()))) (0,((([]:Tx),((0:Int),(((l.length+1:Nat):Int),()))),())) (by rw[hlen];omega)
  (fun k x hx hi ha=>key k (by rw[hlen] at hi;exact hi)) (by
   unfold iK
   dsimp only
   rw[G7,hlen,aJ (by omega),af]) with ⟨k,x,hx,hp,hj,h⟩|⟨hn,h⟩
 ·have hk:=aH hx
  rw[hlen] at hk
  rw[h,aa]
  have hf:(List.range (l.length+1)).find? (D7 l d)=some k:=by
   rw[List.find?_eq_some_iff_getElem]
   refine⟨hp,k,by rw[hlen];exact hk,by simp,fun j hjk=>?_⟩
   have:=hj j j hjk (by rw[List.getElem?_range (by omega)])
   simpa using this
  rw[hf]
  rfl
 ·rw[h,aa]
  have hf:(List.range (l.length+1)).find? (D7 l d)=none:=by
   rw[List.find?_eq_none]
   intro k hk
   have hk:=List.mem_range.1 hk
   have:=hn k k (by rw[List.getElem?_range hk])
   simpa using this
  rw[hf]
  rfl
theorem PU{l:List Nm}{d:Int}(h:(kj l d).2.1=0):l.length<32∧CG (kj l d).1∧∀x∈l,x.1≠(kj l d).1:=by
 unfold kj at h⊢
 by_cases Yf:32≤l.length
 ·rw[if_pos Yf] at h;cases h
 ·rw[if_neg Yf] at h⊢
  cases hf:(List.range (l.length+1)).find? (D7 l d) with
  | none=>rw[hf] at h;cases h
  | some k =>
    have:=List.find?_some hf
    unfold D7 at this
    exact⟨by omega,aaK _,of_decide_eq_true this⟩
end Go.Ge
namespace Go.Ge
set_option linter.unusedSectionVars false
variable [Lp]
set_option linter.unusedVariables false
set_option linter.unusedSimpArgs false
abbrev It:=Tx×Tx×Tx×Unit
theorem Jo(l:List It)(hl:l.length≤100000):fR (l,(l,()))=some (true,()):=by
 unfold fR
 dsimp only
 rw[aR rfl,aK,af]
 rcases mM (f:=iL (l,(l,()))) l (fun i=>((false,(i,())),())) (fun _ _=>false) (fun i _=>(1,((false,((i:Int),())),()))) (0,((false,((l.length:Int),())),())) (by omega) (fun i x hx hi ha=>by
  unfold iL
  dsimp only
  rw[au hi,ag,ag,az hx,aa,aa,fE rfl,fE rfl,fE rfl,ha]
  rfl) (by unfold iL;dsimp only;rw[aE,af,af]) with ⟨i,x,_,hp,_⟩|⟨hn,h⟩
 ·cases hp
 ·rw[h];rfl
end Go.Ge
namespace Go.Ge
set_option linter.unusedSectionVars false
variable [Lp]
set_option linter.unusedVariables false
set_option linter.unusedSimpArgs false
abbrev KS:=(Int×Int×Unit)×Unit×Tx×Unit
abbrev PS':=(Int×Int×Unit)×Unit×It×Unit
end Go.Ge
namespace Go.Ge
set_option linter.unusedSectionVars false
variable [Lp]
set_option linter.unusedVariables false
set_option linter.unusedSimpArgs false
end Go.Ge
namespace Go.Ge
set_option linter.unusedSectionVars false
set_option maxRecDepth 100000
theorem NK[i:Lp]:nT ()=some (true,()):=by
 obtain rfl:i=Lp.abx:=Lp.one _ _
 kernel_rfl
end Go.Ge
namespace Go.Ge
set_option linter.unusedSectionVars false
variable [Lp]
set_option linter.unusedVariables false
set_option linter.unusedSimpArgs false
theorem D8(l:List It):∃b,dU (l,())=some (b,())∧(b=true→l.length≤8∧∀x∈l,x.1.length≤100∧x.2.2.1.length≤200):=by
 unfold dU
 rcases qJ (f:=ec (l,())) l 8 (fun i=>((false,(i,())),())) (fun _ x=>decide (100<x.1.length)||decide (200<x.2.2.1.length)) (fun i x=>(1,((false,((i:Int),())),()))) (fun m=>(0,((false,((m:Int),())),()))) (by omega) (fun i x hx hi hin ha=>by
  unfold ec
  dsimp only
  have l1:∀{m:List UInt8},aY 100 (len m)=decide (100<m.length):=fun {m}=>by unfold aY len;apply decide_eq_decide.2;omega
  have l2:∀{m:List UInt8},aY 200 (len m)=decide (200<m.length):=fun {m}=>by unfold aY len;apply decide_eq_decide.2;omega
  rw[au hi,ag,aT (show(i:Int)<8 by omega),ag,az hx,aa,aa,l1,l2,ha]
  cases decide (100<x.1.length)<;>cases decide (200<x.2.2.1.length)<;>rfl) (by
  unfold ec
  dsimp only
  have:aj (aY ((min 8 l.length:Nat):Int) (len l)) (aY ((min 8 l.length:Nat):Int) 8) false=false:=by
   by_cases h:l.length≤8
   ·rw[Nat.min_eq_right h,aE,af]
   ·rw[Nat.min_eq_left (by omega),show aY ((8:Nat):Int) 8=false from rfl]
    cases aY ((8:Nat):Int) (len l)<;>rfl
  rw[this,af]) with ⟨i,x,hi,hx,hp,_,h⟩|⟨hn2,h⟩
 ·rw[h];exact⟨false,rfl,fun h=>(by cases h)⟩
 ·rw[h]
  refine⟨_,rfl,fun hb=>?_⟩
  dsimp only at hb
  have h8:l.length≤8:=by
   unfold cO len at hb
   simp at hb
   omega
  refine⟨h8,fun x hx=>?_⟩
  obtain⟨i,hi⟩:=bQ.1 hx
  have:=hn2 i x (by have:=aH hi;omega) hi
  simp at this
  omega
def PV(l:List It):Prop:=l.Pairwise fun x y=>iD x.1 y.1=true
def aeq(x:It):Prop:=jd x.1=true∧x.2.2.1.length≤64∧x.2.1=PG x.2.2.1
def OkI(l:List It):Prop:=l.length≤4∧PV l∧∀x∈l,aeq x
theorem Jp{l:List It}:PV l↔∀(i:Nat) (x y:It),l[i]?=some x→l[i+1]?=some y→iD x.1 y.1=true:=by
 constructor
 ·intro h i x y hx hy
  unfold PV at h
  rw[List.pairwise_iff_getElem] at h
  obtain⟨hi,ex⟩:=List.getElem?_eq_some_iff.1 hx
  obtain⟨hj,ey⟩:=List.getElem?_eq_some_iff.1 hy
  have:=h i (i+1) hi hj (by omega)
  rw[ex,ey] at this
  exact this
 ·intro h
  have key:∀(d i:Nat) (x y:It),l[i]?=some x→l[i+d+1]?=some y→iD x.1 y.1=true:=by
   intro d
   induction d with
   | zero=>intro i x y hx hy;exact h i x y hx hy
   | succ d ih =>
     intro i x y hx hy
     have hlt:=aH hy
     have hz:l[i+d+1]?=some l[i+d+1]:=List.getElem?_eq_getElem (by omega)
     exact AK (ih i x _ hx hz) (h (i+d+1) _ y hz (by rw[show i+d+1+1=i+(d+1)+1 by omega];exact hy))
  unfold PV
  rw[List.pairwise_iff_getElem]
  intro i j hi hj hij
  obtain⟨d,rfl⟩:∃d,j=i+d+1:=⟨j-i-1,by omega⟩
  exact key d i _ _ (List.getElem?_eq_getElem hi) (List.getElem?_eq_getElem hj)
def D9(l:List It)(i:Nat)(x:It):Bool:=match i with|0=>false|k+1=>match l[k]? with|some y=>!iD y.1 x.1|none=>false
theorem xW{l:List It}{k:Nat}{x y:It}(hy:l[k]?=some y):D9 l (k+1) x=!iD y.1 x.1:=by
 unfold D9
 simp only[hy]
def Fu(l:List It)(i:Nat)(x:It):Bool:=!jd x.1||(decide (64<x.2.2.1.length)||(!decide (x.2.1=PG x.2.2.1)||D9 l i x))
theorem UT(l:List It)(hl:l.length≤100000)(hs:∀x∈l,x.1.length≤1000000∧x.2.2.1.length≤1000000):∃b,kY (l,())=some (b,())∧(b=true↔OkI l):=by
 unfold kY
 rcases mM (f:=mW (l,())) l (fun i=>((false,(i,())),())) (fun i x=>Fu l i x) (fun i x=>(1,((false,((i:Int),())),()))) (0,((false,((l.length:Int),())),())) (by omega) (fun i x hx hi ha=>by
  have hx1:=hs x (List.mem_of_getElem? hx)
  have l1:aY 64 (len x.2.2.1)=decide (64<x.2.2.1.length):=by unfold aY len;apply decide_eq_decide.2;omega
  unfold mW
  dsimp only
  rw[au hi,ag,az hx,aa,yI x.1 (by omega),aa,ha]
  cases hn:jd x.1 with
  | false=>rw[show Fu l i x=true by unfold Fu;rw[hn];rfl];rfl
  | true =>
    rw[aK,af,aa,l1]
    by_cases FX:64<x.2.2.1.length
    ·rw[show Fu l i x=true by unfold Fu;rw[hn,decide_eq_true FX];rfl,decide_eq_true FX];rfl
    ·rw[decide_eq_false FX,af,aa,aa,LZ x.2.2.1 (by omega),aa]
     dsimp only
     rw[Nl]
     by_cases hd:x.2.1=PG x.2.2.1
     ·have hb:Fu l i x=D9 l i x:=by unfold Fu;rw[hn,decide_eq_false FX,decide_eq_true hd];rfl
      rw[hb,decide_eq_true hd,aK,af]
      cases i with
      | zero=>rfl
      | succ k =>
        have hy:l[k]?=some l[k]:=List.getElem?_eq_getElem (by omega)
        rw[xW hy,aT (by omega),ag,fZ (by omega) (by omega),show((k+1:Nat):Int)-1=(k:Int) by omega,az hy,aa,aa]
        cases iD l[k].1 x.1<;>rfl
     ·rw[show Fu l i x=true by unfold Fu;rw[hn,decide_eq_false FX,decide_eq_false hd];rfl,decide_eq_false hd];rfl) (by
  unfold mW
  dsimp only
  rw[aE,af]) with ⟨i,x,hx,hp,_,h⟩|⟨hn,h⟩
 ·rw[h]
  refine⟨false,rfl,⟨fun h=>(by cases h),fun⟨_,h2,h3⟩=>?_⟩⟩
  obtain⟨o1,o2,o3⟩:=h3 x (List.mem_of_getElem? hx)
  have hb:Fu l i x=D9 l i x:=by unfold Fu;rw[o1,decide_eq_false (show ¬64<x.2.2.1.length by omega),decide_eq_true o3];rfl
  rw[hb] at hp
  cases i with
  | zero=>cases hp
  | succ k =>
    have hi:=aH hx
    have hy:l[k]?=some l[k]:=List.getElem?_eq_getElem (by omega)
    rw[xW hy,Jp.1 h2 k _ _ hy hx] at hp
    cases hp
 ·rw[h]
  refine⟨_,rfl,?_⟩
  dsimp only
  have e4:cO (len l) 4=decide (l.length≤4):=by unfold cO len;apply decide_eq_decide.2;omega
  rw[e4,decide_eq_true_iff]
  refine⟨fun h4=>⟨h4,Jp.2 fun i x y hx hy=>?_,fun x hx=>?_⟩,fun h=>h.1⟩
  ·have:=hn (i+1) y hy
   unfold Fu at this
   simp only[xW hx,Bool.or_eq_false_iff] at this
   simpa using this.2.2.2
  ·obtain⟨i,hi⟩:=bQ.1 hx
   have:=hn i x hi
   unfold Fu at this
   simp only[Bool.or_eq_false_iff] at this
   exact⟨by simpa using this.1,by have:=this.2.1;simp at this;omega,by simpa using this.2.2.1⟩
end Go.Ge
namespace Go.Ge
set_option linter.unusedSectionVars false
variable [Lp]
set_option linter.unusedVariables false
set_option linter.unusedSimpArgs false
abbrev zO:=Tx×Int×Unit
abbrev bW:=List Bb×List cH×List b7×List Tx×List zO×Unit
def KT(l:List Item):Prop:=l.length≤8∧∀x∈l,x.1.length≤100∧x.2.2.1.length≤200
structure acs (b:u9):Prop extends FewB b where
 im:∀x∈b.2.2.1,x.2.2.2.1.length≤200∧KT x.2.2.2.2.1
 bm:∀x∈b.2.2.2.1,x.2.2.2.2.1.length≤200∧KT x.2.2.2.2.2.1
theorem UU(b:u9):∃c,oX (b,())=some (c,())∧(c=true→acs b):=by
 obtain⟨BB,KK⟩:∃BB:List Tx→Bool,∀l,jK (l,())=some (BB l,())∧(BB l=true→wR l):=⟨fun l=>Classical.choose (AL l),fun l=>Classical.choose_spec (AL l)⟩
 obtain⟨Nt,Jd⟩:∃BB:List Item→Bool,∀l,dU (l,())=some (BB l,())∧(BB l=true→KT l):=⟨fun l=>Classical.choose (D8 l),fun l=>Classical.choose_spec (D8 l)⟩
 obtain⟨c0,hc0,hfb⟩:=WZ b
 refine⟨c0,hc0,fun hc=>?_⟩
 have hB:=hfb hc
 suffices q:(∀x∈b.2.2.1,x.2.2.2.1.length≤200∧KT x.2.2.2.2.1)∧(∀x∈b.2.2.2.1,x.2.2.2.2.1.length≤200∧KT x.2.2.2.2.2.1) from⟨hB,q.1,q.2⟩
 subst hc
 obtain⟨n,la,im,bo,u⟩:=b
 obtain⟨h1,_,h2,_,h3,_⟩:=hB
 dsimp only at h1 h2 h3
 unfold oX at hc0
 have aaL:∀{q:Nat×(Bool×Int×Unit)×Unit} {g:Option (Bool×Unit)},q.1=1→q.2.1.1=false→aj (fB q.1 0) g (some (q.2.1.1,()))≠some (true,()):=fun {q g} e1 e2 h=>by
  rw[e1,e2] at h
  have h:some (false,())=some (true,()):=h
  cases h
 rcases qJ (f:=gN ((n,(la,(im,(bo,u)))),())) la 40 (fun i=>((false,(i,())),())) (fun _ x=>!BB x.2.2.1) (fun i x=>(1,((false,((i:Int),())),()))) (fun n=>(0,((false,((n:Int),())),()))) (by omega) (fun i x hx hi YW ha=>by
  unfold gN
  dsimp only
  rw[au hi,ag,aT (show(i:Int)<40 by omega),ag,az hx,aa,(KK _).1,aa,TC,ha]
  cases BB x.2.2.1<;>rfl) (by unfold gN;dsimp only;rw[rA (c:=40) rfl,af]) with ⟨i,x,hi,hx,hp,_,h⟩|⟨hn0,h⟩
 ·rw[h,aa] at hc0;exact absurd hc0 (aaL rfl rfl)
 rw[h,aa] at hc0
 dsimp only at hc0
 rw[cG,ag] at hc0
 rcases qJ (f:=gO ((n,(la,(im,(bo,u)))),())) im 40 (fun i=>((false,(i,())),())) (fun _ x=>!BB x.2.1||decide (200<x.2.2.2.1.length)||!Nt x.2.2.2.2.1) (fun i x=>(1,((false,((i:Int),())),()))) (fun n=>(0,((false,((n:Int),())),()))) (by omega) (fun i x hx hi YW ha=>by
  unfold gO
  dsimp only
  rw[au hi,ag,aT (show(i:Int)<40 by omega),ag,az hx,aa,(KK _).1,aa,aa,aa,gx (n:=200) (c:=200) rfl,(Jd _).1,aa,ha]
  dsimp only
  cases BB x.2.1 with
  | false=>rfl
  | true =>
    by_cases h2:200<x.2.2.2.1.length
    ·simp[h2,aj,nt,ah]
    ·cases hq:Nt x.2.2.2.2.1<;>simp[h2,aj,nt,ah]) (by unfold gO;dsimp only;rw[rA (c:=40) rfl,af]) with ⟨i,x,hi,hx,hp,_,h⟩|⟨I0,h⟩
 ·rw[h,aa] at hc0;exact absurd hc0 (aaL rfl rfl)
 rw[h,aa] at hc0
 dsimp only at hc0
 rw[cG,ag] at hc0
 rcases qJ (f:=gP ((n,(la,(im,(bo,u)))),())) bo 40 (fun i=>((false,(i,())),())) (fun _ x=>!BB x.2.1||decide (200<x.2.2.2.2.1.length)||!Nt x.2.2.2.2.2.1) (fun i x=>(1,((false,((i:Int),())),()))) (fun n=>(0,((false,((n:Int),())),()))) (by omega) (fun i x hx hi YW ha=>by
  unfold gP
  dsimp only
  rw[au hi,ag,aT (show(i:Int)<40 by omega),ag,az hx,aa,(KK _).1,aa,aa,aa,gx (n:=200) (c:=200) rfl,(Jd _).1,aa,ha]
  dsimp only
  cases BB x.2.1 with
  | false=>rfl
  | true =>
    by_cases h2:200<x.2.2.2.2.1.length
    ·simp[h2,aj,nt,ah]
    ·cases hq:Nt x.2.2.2.2.2.1<;>simp[h2,aj,nt,ah]) (by unfold gP;dsimp only;rw[rA (c:=40) rfl,af]) with ⟨i,x,hi,hx,hp,_,h⟩|⟨hn2,h⟩
 ·rw[h,aa] at hc0;exact absurd hc0 (aaL rfl rfl)
 refine⟨fun x hx=>?_,fun x hx=>?_⟩
 ·dsimp only at hx
  obtain⟨i,hi⟩:=bQ.1 hx
  have:=I0 i x (by have:=aH hi;omega) hi
  simp only[Bool.or_eq_false_iff,Bool.not_eq_false',decide_eq_false_iff_not] at this
  exact⟨by omega,(Jd _).2 this.2⟩
 ·dsimp only at hx
  obtain⟨i,hi⟩:=bQ.1 hx
  have:=hn2 i x (by have:=aH hi;omega) hi
  simp only[Bool.or_eq_false_iff,Bool.not_eq_false',decide_eq_false_iff_not] at this
  exact⟨by omega,(Jd _).2 this.2⟩
theorem UW(l:List b7):∃b,vk (l,())=some (b,())∧(b=true→l.length≤40∧∀x∈l,x.1.length≤100∧x.2.1.length≤100):=by
 unfold vk
 rcases qJ (f:=qi (l,())) l 40 (fun i=>((false,(i,())),())) (fun _ x=>decide (100<x.1.length)||decide (100<x.2.1.length)) (fun i x=>(1,((false,((i:Int),())),()))) (fun n=>(0,((false,((n:Int),())),()))) (by omega) (fun i x hx hi YW ha=>by
  unfold qi
  dsimp only
  rw[au hi,ag,aT (show(i:Int)<40 by omega),ag,az hx,aa,gx (n:=100) (c:=100) rfl,aa,gx (n:=100) (c:=100) rfl,ha]
  by_cases h:100<x.1.length
  ·simp[h,aj,nt,ah]
  ·by_cases h2:100<x.2.1.length<;>simp[h,h2,aj,nt,ah]) (by unfold qi;dsimp only;rw[rA (c:=40) rfl,af]) with ⟨i,x,hi,hx,hp,_,h⟩|⟨hn,h⟩
 ·rw[h];exact⟨false,rfl,fun h=>(by cases h)⟩
 ·rw[h]
  refine⟨_,rfl,fun hb=>?_⟩
  dsimp only at hb
  rw[jL (n:=40) (c:=40) rfl] at hb
  have h40:=of_decide_eq_true hb
  refine⟨h40,fun x hx=>?_⟩
  obtain⟨i,hi⟩:=bQ.1 hx
  have:=hn i x (by have:=aH hi;omega) hi
  simp at this
  omega
structure aaM (s:bW):Prop where
 base:acs (0,(s.2.2.1,(s.2.1,(s.1,()))))
 ids:∀x∈s.2.2.1,x.1.length≤100∧x.2.1.length≤100
 lays:s.2.2.1.length≤12
 acu:s.2.2.2.1.length≤12
 aer:∀d∈s.2.2.2.1,d.length≤8192
 mts:s.2.2.2.2.1.length≤40
theorem UX(s:bW):∃b,vl (s,())=some (b,())∧(b=true→aaM s):=by
 obtain⟨bo,im,la,di,mo,u⟩:=s
 obtain⟨b1,e1,f1⟩:=UU (0,(la,(im,(bo,()))))
 obtain⟨b2,e2,f2⟩:=UW la
 unfold vl
 rcases qJ (f:=qj ((bo,(im,(la,(di,(mo,u))))),())) di 12 (fun i=>((false,(i,())),())) (fun _ x=>decide (8192<x.length)) (fun i x=>(1,((false,((i:Int),())),()))) (fun n=>(0,((false,((n:Int),())),()))) (by omega) (fun i x hx hi YW ha=>by
  unfold qj
  dsimp only
  rw[au hi,ag,aT (show(i:Int)<12 by omega),ag,az hx,aa,gx (n:=8192) (c:=8192) rfl,lX,ha]
  by_cases h:8192<x.length<;>simp[h]) (by unfold qj;dsimp only;rw[rA (c:=12) rfl,af]) with ⟨i,x,hi,hx,hp,_,h⟩|⟨hn,h⟩
 ·rw[h];exact⟨false,rfl,fun h=>(by cases h)⟩
 ·rw[h,aa]
  dsimp only
  rw[cG,ag,e1,aa,e2]
  dsimp only
  rw[jL (n:=12) (c:=12) rfl,jL (n:=12) (c:=12) rfl,jL (n:=40) (c:=40) rfl]
  cases b1 with
  | false=>exact⟨false,rfl,fun h=>(by cases h)⟩
  | true =>
    rw[ag,aa,aa]
    cases b2 with
    | false=>exact⟨false,rfl,fun h=>(by cases h)⟩
    | true =>
      refine⟨_,rfl,fun hb=>?_⟩
      by_cases q1:la.length≤12
      ·by_cases q2:di.length≤12
       ·by_cases q3:mo.length≤40
        ·refine⟨f1 rfl,(f2 rfl).2,q1,q2,fun d hd=>?_,q3⟩
         obtain⟨i,hi⟩:=bQ.1 hd
         have hi:di[i]?=some d:=hi
         have:=hn i d (by have:=aH hi;omega) hi
         simpa using this
        ·rw[decide_eq_true q1,decide_eq_true q2,decide_eq_false q3] at hb;cases hb
       ·rw[decide_eq_true q1,decide_eq_false q2] at hb;cases hb
      ·rw[decide_eq_false q1] at hb;cases hb
end Go.Ge
namespace Go.Ge
set_option linter.unusedSectionVars false
variable [Lp]
set_option linter.unusedVariables false
set_option linter.unusedSimpArgs false
theorem vN{β:Type}{c b:Bool}{o:Option Bool}{k:Bool→Option β}(h:o=some b):ah (aj c o (some false)) k=k (c&&b):=by subst h;cases c<;>rfl
theorem qK{β:Type}{c b:Bool}{o:Option Bool}{k:Bool→Option β}(h:o=some b):ah (aj c o (some true)) k=k (!c||b):=by subst h;cases c<;>rfl
theorem nk(a b:List UInt8):cc a b=decide (a=b):=rfl
theorem SE(b:Bool):nt b=!b:=rfl
theorem UY(a b:Int):cO a b=decide (a≤b):=rfl
theorem Y7(a b:Int):bC a b=decide (a=b):=rfl
def BdL(x:b7):Prop:=x.1.length≤1048576∧x.2.1.length≤1048576∧wR x.2.2.1∧x.2.2.2.1.length≤1048576
def BdI(x:cH):Prop:=x.1.length≤1048576∧wR x.2.1∧x.2.2.1.length≤1048576∧KT x.2.2.2.2.1
def BdB(x:Bb):Prop:=x.1.length≤1048576∧wR x.2.1∧x.2.2.1.length≤1048576∧x.2.2.2.1.length≤1048576∧KT x.2.2.2.2.2.1
structure OkL (x:b7):Prop where
 id:CG x.1
 par:x.2.1=[]∨(CG x.2.1∧x.2.1≠x.1)
 nms:mR x.2.2.1=true
 dig:aaG x.2.2.2.1=0
 s0:0≤x.2.2.2.2.1
 s1:x.2.2.2.2.1≤8192
 b0:0≤x.2.2.2.2.2.1
 b1:x.2.2.2.2.2.1≤32
structure UZ (x:cH):Prop where
 id:CG x.1
 nms:mR x.2.1=true
 top:x.2.2.1=[]∨CG x.2.2.1
 meta':x.2.2.2.1.length≤64
 items:OkI x.2.2.2.2.1
structure OkB (x:Bb):Prop where
 id:CG x.1
 nms:mR x.2.1=true
 img:x.2.2.1=[]∨CG x.2.2.1
 lay:CG x.2.2.2.1
 meta':x.2.2.2.2.1.length≤64
 items:OkI x.2.2.2.2.2.1
theorem U0(x:b7)(h:BdL x):∃b,nX (x,())=some (b,())∧(b=true↔OkL x):=by
 obtain⟨h1,h2,h3,h4⟩:=h
 obtain⟨i1,e1,f1⟩:=mE x.1 h1
 obtain⟨i2,e2,f2⟩:=mE x.2.1 h2
 unfold nX
 dsimp only
 rw[e1,aa,vN (b:=(!(nt (cc x.2.1 []))||(i2&&nt (cc x.2.1 x.1)))) (by rw[qK (by rw[e2,aa,AO])]),
  vN (by rw[xS x.2.2.1 (h3.small) h3.each,aa]),vN (by rw[Nz x.2.2.2.1 h4,aa])]
 refine⟨_,rfl,?_⟩
 simp only[AO,SE,nk,UY,Y7,Bool.and_eq_true,Bool.or_eq_true,Bool.not_not,Bool.not_eq_true',decide_eq_true_eq,decide_eq_false_iff_not,f1,f2]
 constructor
 ·rintro⟨⟨⟨⟨⟨⟨⟨a,b⟩,c⟩,d⟩,e⟩,f⟩,g⟩,i⟩
  exact⟨a,b,c,d,e,f,g,i⟩
 ·rintro⟨a,b,c,d,e,f,g,i⟩
  exact⟨⟨⟨⟨⟨⟨⟨a,b⟩,c⟩,d⟩,e⟩,f⟩,g⟩,i⟩
theorem L5{l:List Item}(h:KT l):∃b,kY (l,())=some (b,())∧(b=true↔OkI l) :=
 UT l (by have:=h.1;omega) fun x hx=>by have:=h.2 x hx;omega
theorem acA(m:List UInt8):cO (@len UInt8 m) (64:Int)=decide (m.length≤64):=by unfold cO len;apply decide_eq_decide.2;omega
theorem U1(x:cH)(h:BdI x):∃b,nY (x,())=some (b,())∧(b=true↔UZ x):=by
 obtain⟨h1,h2,h3,h4⟩:=h
 obtain⟨i1,e1,f1⟩:=mE x.1 h1
 obtain⟨i2,e2,f2⟩:=mE x.2.2.1 h3
 obtain⟨i3,e3,f3⟩:=L5 h4
 unfold nY
 dsimp only
 rw[e1,aa,vN (by rw[xS x.2.1 (h2.small) h2.each,aa]),vN (b:=(!(nt (cc x.2.2.1 []))||i2)) (by rw[qK (by rw[e2,aa])]),
  vN (by rw[e3,aa])]
 refine⟨_,rfl,?_⟩
 simp only[AO,SE,nk,acA,Bool.and_eq_true,Bool.or_eq_true,Bool.not_not,Bool.not_eq_true',decide_eq_true_eq,decide_eq_false_iff_not,f1,f2,f3]
 constructor
 ·rintro⟨⟨⟨⟨a,b⟩,c⟩,d⟩,e⟩
  exact⟨a,b,c,d,e⟩
 ·rintro⟨a,b,c,d,e⟩
  exact⟨⟨⟨⟨a,b⟩,c⟩,d⟩,e⟩
theorem Y8(x:Bb)(h:BdB x):∃b,sr (x,())=some (b,())∧(b=true↔OkB x):=by
 obtain⟨h1,h2,h3,h4,h5⟩:=h
 obtain⟨i1,e1,f1⟩:=mE x.1 h1
 obtain⟨i2,e2,f2⟩:=mE x.2.2.1 h3
 obtain⟨i3,e3,f3⟩:=mE x.2.2.2.1 h4
 obtain⟨i4,e4,f4⟩:=L5 h5
 unfold sr
 dsimp only
 rw[e1,aa,vN (by rw[xS x.2.1 (h2.small) h2.each,aa]),vN (b:=(!(nt (cc x.2.2.1 []))||i2)) (by rw[qK (by rw[e2,aa])]),
  vN (by rw[e3,aa]),vN (by rw[e4,aa])]
 refine⟨_,rfl,?_⟩
 simp only[AO,SE,nk,acA,Bool.and_eq_true,Bool.or_eq_true,Bool.not_not,Bool.not_eq_true',decide_eq_true_eq,decide_eq_false_iff_not,f1,f2,f3,f4]
 constructor
 ·rintro⟨⟨⟨⟨⟨a,b⟩,c⟩,d⟩,e⟩,f⟩
  exact⟨a,b,c,d,e,f⟩
 ·rintro⟨a,b,c,d,e,f⟩
  exact⟨⟨⟨⟨⟨a,b⟩,c⟩,d⟩,e⟩,f⟩
def SF(b:u9):List Tx:=b.2.1.map (·.1)++b.2.2.1.map (·.1)++b.2.2.2.1.map (·.1)
def SG(b:u9):List Tx:=b.2.1.flatMap (·.2.2.1)++b.2.2.1.flatMap (·.2.1)++b.2.2.2.1.flatMap (·.2.1)
theorem wY{α:Type}{g:α→List Tx}:∀{l:List α},(∀x∈l,(g x).length≤8)→(l.flatMap g).length≤8*l.length:=by
 intro l
 induction l with
 | nil=>intro _;simp
 | cons x r ih =>
   intro h
   rw[List.flatMap_cons,List.length_append,List.length_cons]
   have:=h x (List.mem_cons_self ..)
   have:=ih fun y hy=>h y (List.mem_cons_of_mem _ hy)
   omega
theorem CI{α:Type}{f:(Unit×Unit×Int×Unit)×List Tx×List Tx×Unit→Option (((Unit×Unit×Int×Unit)×List Tx×List Tx×Unit)⊕((Unit×Unit×Int×Unit)×List Tx×List Tx×Unit))}
  (l:List α) (id:α→Tx) (nm:α→List Tx) (hl:l.length≤40) (hn:∀x∈l,(nm x).length≤8) (ns is:List Tx) (h1:ns.length≤10000) (h2:is.length≤10000)
  (hf:∀c a b,f (((),((),(c,()))),(a,(b,())))=ep (aj (aY c (len l)) (ah (idx l c) fun x=>aj (fits (plus (@len Tx b) (@len Tx [id x]))) (ah (idx l c) fun y=>aj (fits (plus (@len Tx a) (@len Tx (nm y)))) (some (.inl (((),((),(aI .i64 c 1,()))),(app a (nm y),(app b [id x],()))))) none) none)
   (some (.inr (0,(((),((),(c,()))),(a,(b,()))))))) ) :
  Loop f (((),((),((0:Int),()))),(ns,(is,())))=some (((),((),((l.length:Int),()))),(ns++l.flatMap nm,(is++l.map id,()))):=by
 have:=ez (f:=f) l.length (fun j:Nat=>(((),((),((j:Int),()))),(ns++(l.take j).flatMap nm,(is++(l.take j).map id,()))))
  (r:=(((),((),((l.length:Int),()))),(ns++l.flatMap nm,(is++l.map id,())))) (fun j hj=>by
   have hx:l[j]?=some l[j]:=List.getElem?_eq_getElem hj
   have hb:((l.take j).flatMap nm).length≤8*40:=by
    have:=wY (g:=nm) (l:=l.take j) fun x hx=>hn x (List.mem_of_mem_take hx)
    rw[List.length_take] at this
    omega
   have hn':=hn _ (List.getElem_mem hj)
   rw[hf,au hj,ag,az hx,aa,
    show fits (plus (@len Tx (is++(l.take j).map id)) (@len Tx [id l[j]]))=true from cM (by rw[List.length_append,List.length_map,List.length_take];show _+1≤_;omega),ag,aa,
    show fits (plus (@len Tx (ns++(l.take j).flatMap nm)) (@len Tx (nm l[j])))=true from cM (by rw[List.length_append];omega),ag,aZ (by omega)]
   rw[List.take_add_one,hx,List.flatMap_append,List.map_append]
   simp[app,ep]) (by
   rw[List.take_length,hf,aE,af]
   rfl)
 simpa using this
theorem U2(b:u9)(h:FewB b):rI (b,())=some (SF b,(SG b,())):=by
 obtain⟨h1,h2,h3,h4,h5,h6⟩:=h
 unfold rI
 rw[CI b.2.1 (·.1) (·.2.2.1) h1 (fun x hx=>(h2 x hx).1) [] [] (by simp) (by simp) (fun c a b=>rfl),aa]
 dsimp only
 have c1:(b.2.1.flatMap (·.2.2.1)).length≤320:=by have:=wY (g:=fun x:b7=>x.2.2.1) (l:=b.2.1) fun x hx=>(h2 x hx).1;omega
 have c2:(b.2.2.1.flatMap (·.2.1)).length≤320:=by have:=wY (g:=fun x:cH=>x.2.1) (l:=b.2.2.1) fun x hx=>(h4 x hx).1;omega
 rw[CI b.2.2.1 (·.1) (·.2.1) h3 (fun x hx=>(h4 x hx).1) _ _ (by rw[List.nil_append];omega) (by rw[List.nil_append,List.length_map];omega) (fun c a b=>rfl),aa]
 dsimp only
 rw[CI b.2.2.2.1 (·.1) (·.2.1) h5 (fun x hx=>(h6 x hx).1) _ _ (by rw[List.length_append,List.nil_append];omega) (by rw[List.length_append,List.nil_append,List.length_map,List.length_map];omega) (fun c a b=>rfl),aa]
 rfl
end Go.Ge
namespace Go.Ge
set_option linter.unusedSectionVars false
variable [Lp]
set_option linter.unusedVariables false
set_option linter.unusedSimpArgs false
theorem SH{b:Bool}{p:Prop}[Decidable p](h:b=true↔p):b=decide p:=by
 cases b with
 | true=>exact(decide_eq_true (h.1 rfl)).symm
 | false=>exact(decide_eq_false fun q=>by cases h.2 q).symm
open Classical in
theorem U3{x:b7}(h:BdL x):nX (x,())=some (decide (OkL x),()):=by
 obtain⟨b,h1,h2⟩:=U0 x h
 rw[h1,SH h2]
open Classical in
theorem U4{x:cH}(h:BdI x):nY (x,())=some (decide (UZ x),()):=by
 obtain⟨b,h1,h2⟩:=U1 x h
 rw[h1,SH h2]
open Classical in
theorem Y9{x:Bb}(h:BdB x):sr (x,())=some (decide (OkB x),()):=by
 obtain⟨b,h1,h2⟩:=Y8 x h
 rw[h1,SH h2]
abbrev Cs:=(Int×Int×Unit)×Unit
theorem Jq{α:Type}{f:Cs→Option (Cs⊕(Nat×Cs))}(l:List α)(hl:l.length≤1000000)(p:α→Prop)[DecidablePred p](c0:Int)
  (hf:∀(i:Nat) (x:α),l[i]?=some x→f ((c0,((i:Int),())),())=some (if p x then .inl ((c0,(aI .i64 (i:Int) 1,())),()) else .inr (1,(((1:Int),((i:Int),())),()))))
  (hend:f ((c0,((l.length:Int),())),())=some (.inr (0,((c0,((l.length:Int),())),())))) :
  ((∀x∈l,p x)∧Loop f ((c0,((0:Int),())),())=some (0,((c0,((l.length:Int),())),()))) ∨
  (¬(∀x∈l,p x)∧∃q,Loop f ((c0,((0:Int),())),())=some (1,(((1:Int),q),()))):=by
 rcases mM (f:=f) l (fun i=>((c0,(i,())),())) (fun _ x=>decide (¬p x)) (fun i x=>(1,(((1:Int),((i:Int),())),()))) (0,((c0,((l.length:Int),())),())) (by omega) (fun i x hx hi ha=>by
  rw[hf i x hx,ha]
  by_cases h:p x<;>simp[h]) hend with ⟨i,x,hx,hp,_,h⟩|⟨hn,h⟩
 ·exact .inr ⟨fun q=>by simp[q x (List.mem_of_getElem? hx)] at hp,_,h⟩
 ·refine .inl ⟨fun x hx=>?_,h⟩
  obtain⟨i,hi⟩:=bQ.1 hx
  have:=hn i x hi
  simpa using this
theorem Jr{l:List Tx}:l.Pairwise (fun x y=>iD x y=true)↔∀(i:Nat) (x y:Tx),l[i]?=some x→l[i+1]?=some y→iD x y=true:=by
 have h:=Jp (l:=l.map fun s=>((s,([],([],()))):It))
 unfold PV at h
 rw[List.pairwise_map] at h
 refine h.trans ⟨fun k i x y hx hy=>?_,fun k i x y hx hy=>?_⟩
 ·exact k i (x,([],([],()))) (y,([],([],()))) (by rw[List.getElem?_map,hx];rfl) (by rw[List.getElem?_map,hy];rfl)
 ·rw[List.getElem?_map] at hx hy
  obtain⟨a,ha,rfl⟩:=Option.map_eq_some_iff.1 hx
  obtain⟨b,hb,rfl⟩:=Option.map_eq_some_iff.1 hy
  exact k i a b ha hb
theorem Za(is ns:List Tx)(hl:is.length≤100000) :
  (is.Pairwise (fun x y=>iD x y=true)∧∃q,Loop (gG (is,(ns,()))) (((0:Int),((1:Int),())),())=some (0,(((0:Int),q),()))) ∨
  (¬is.Pairwise (fun x y=>iD x y=true)∧∃q,Loop (gG (is,(ns,()))) (((0:Int),((1:Int),())),())=some (1,(((1:Int),q),()))):=by
 rw[Jr]
 rcases mM (f:=gG (is,(ns,()))) is.tail (fun i=>(((0:Int),(i+1,())),())) (fun i y=>match is[i]? with|some x=>!iD x y|none=>false) (fun i x=>(1,(((1:Int),((i:Int)+1,())),()))) (0,(((0:Int),((is.tail.length:Int)+1,())),())) (by rw[List.length_tail];omega) (fun i y hy hi ha=>by
  rw[List.length_tail] at hi
  rw[List.getElem?_tail] at hy
  obtain⟨x,hx⟩:∃x,is[i]?=some x:=⟨_,List.getElem?_eq_getElem (show i<is.length by omega)⟩
  unfold gG
  dsimp only
  rw[show((i:Int)+1)=((i+1:Nat):Int) by omega,au (by omega),ag,fZ (by omega) (by omega),show((i+1:Nat):Int)-1=(i:Int) by omega,az hx,aa,az hy,aa,aZ (by omega),hx]
  dsimp only
  rw[show((i+1:Nat):Int)+1=((i+1+1:Nat):Int) by omega]
  by_cases hq:iD x y=true<;>simp[hq,nt,aj]) (by
  unfold gG
  dsimp only
  rw[List.length_tail,aJ (by unfold len;omega),af]) with ⟨i,y,hy,hp,_,h⟩|⟨hn,h⟩
 ·refine .inr ⟨fun k=>?_,_,h⟩
  rw[List.getElem?_tail] at hy
  have hlt:=aH hy
  have hx:is[i]?=some is[i]:=List.getElem?_eq_getElem (by omega)
  rw[hx] at hp
  simp[k i _ _ hx hy] at hp
 ·refine .inl ⟨fun i x y hx hy=>?_,_,h⟩
  have:=hn i y (by rw[List.getElem?_tail];exact hy)
  rw[hx] at this
  simpa using this
theorem SI(is ns:List Tx)(hl:ns.length≤100000) :
  (ns.Nodup∧∃q,Loop (gI (is,(ns,()))) (((0:Int),((0:Int),())),())=some (0,(((0:Int),q),()))) ∨
  (¬ns.Nodup∧∃q,Loop (gI (is,(ns,()))) (((0:Int),((0:Int),())),())=some (1,(((1:Int),q),()))):=by
 have inner:∀(i:Nat) (x:Tx),ns[i]?=some x→(∃j y,j<i∧ns[j]?=some y∧y=x∧∃q,Loop (gH (is,(ns,())) (((0:Int),((i:Int),())),())) (((0:Int),((0:Int),())),())=some (1,(((1:Int),q),()))) ∨
   ((∀(j:Nat) (y:Tx),j<i→ns[j]?=some y→y≠x)∧∃q,Loop (gH (is,(ns,())) (((0:Int),((i:Int),())),())) (((0:Int),((0:Int),())),())=some (0,(((0:Int),q),()))):=by
  intro i x Ls
  have hi:=aH Ls
  have hmin:min i ns.length=i:=by omega
  rcases qJ (f:=gH (is,(ns,())) (((0:Int),((i:Int),())),())) ns i (fun j=>(((0:Int),(j,())),())) (fun _ y=>decide (y=x)) (fun j y=>(1,(((1:Int),((j:Int),())),()))) (fun n=>(0,(((0:Int),((n:Int),())),()))) (by omega) (fun j y hy hj hji ha=>by
   unfold gH
   dsimp only
   rw[aT (show(j:Int)<(i:Int) by omega),ag,az hy,aa,az Ls,aa,lX,ha]
   by_cases h:y=x<;>simp[cc,h]) (by
   unfold gH
   dsimp only
   rw[hmin,aJ (Int.le_refl _),af]) with ⟨j,y,hji,hy,hp,_,h⟩|⟨hn,h⟩
  ·exact .inl ⟨j,y,hji,hy,of_decide_eq_true hp,_,h⟩
  ·exact .inr ⟨fun j y hji hy=>of_decide_eq_false (hn j y hji hy),_,h⟩
 have uP:∀i x,ns[i]?=some x→(x∈ns.take i↔∃j y,j<i∧ns[j]?=some y∧y=x):=by
  intro i x Ls
  rw[bQ]
  constructor
  ·rintro⟨j,hj⟩
   rw[List.getElem?_take] at hj
   split at hj
   ·exact⟨j,x,by assumption,hj,rfl⟩
   ·cases hj
  ·rintro⟨j,y,hji,hy,rfl⟩
   exact⟨j,by rw[List.getElem?_take,if_pos hji];exact hy⟩
 rcases mM (f:=gI (is,(ns,()))) ns (fun i=>(((0:Int),(i,())),())) (fun i x=>decide (x∈ns.take i)) (fun i x=>(1,(((1:Int),((i:Int),())),()))) (0,(((0:Int),((ns.length:Int),())),())) (by omega) (fun i x hx hi ha=>by
  unfold gI
  dsimp only
  rw[au hi,ag]
  rcases inner i x hx with ⟨j,y,h1,h2,h3,q,h⟩|⟨hn,q,h⟩
  ·rw[h,aa,decide_eq_true ((uP i x hx).2 ⟨j,y,h1,h2,h3⟩)]
   rfl
  ·rw[h,aa,decide_eq_false (fun hc=>by obtain⟨j,y,h1,h2,h3⟩:=(uP i x hx).1 hc;exact hn j y h1 h2 h3),ha]
   rfl) (by unfold gI;dsimp only;rw[aE,af]) with ⟨i,x,hx,hp,_,h⟩|⟨hn,h⟩
 ·refine .inr ⟨fun hnd=>?_,_,h⟩
  obtain⟨j,y,h1,h2,h3⟩:=(uP i x hx).1 (of_decide_eq_true hp)
  obtain⟨hi',aaA⟩:=List.getElem?_eq_some_iff.1 hx
  obtain⟨hj',hyj⟩:=List.getElem?_eq_some_iff.1 h2
  exact List.pairwise_iff_getElem.1 hnd j i hj' hi' h1 (by rw[hyj,aaA,h3])
 ·refine .inl ⟨List.pairwise_iff_getElem.2 fun j i hj hi hji he=>?_,_,h⟩
  have:=hn i ns[i] (List.getElem?_eq_getElem hi)
  have hc:=(uP i ns[i] (List.getElem?_eq_getElem hi)).2 ⟨j,ns[j],hji,List.getElem?_eq_getElem hj,he⟩
  simp[hc] at this
structure BdX (b:u9):Prop extends FewB b where
 xl:∀x∈b.2.1,BdL x
 xi:∀x∈b.2.2.1,BdI x
 xb:∀x∈b.2.2.2.1,BdB x
def U5(kind:Int)(b:u9):Nat:=if kind=1 then b.2.2.2.1.length else if kind=2 then b.2.2.1.length else b.2.1.length
structure xX (kind:Int) (b:u9):Prop where
 BB:U5 kind b≤32
 only:b.2.2.2.1.length+b.2.2.1.length+b.2.1.length=U5 kind b
 ll:∀x∈b.2.1,OkL x
 il:∀x∈b.2.2.1,UZ x
 bl:∀x∈b.2.2.2.1,OkB x
 ids:(SF b).Pairwise (fun x y=>iD x y=true)
 nms:(SG b).Nodup
open Classical in
theorem zP(kind:Int)(b:u9)(hk:kind=1∨kind=2∨kind=3)(h0:b.1=0)(h:BdX b):∃e,kZ (kind,(b,()))=some (e,())∧(e=0↔xX kind b):=by
 obtain⟨n,la,im,bo,u⟩:=b
 dsimp only at h0
 subst h0
 have hh:=U2 (0,(la,(im,(bo,u)))) h.toFewB
 obtain⟨hl,QM,hi,hin,X9,hbn⟩:=h.toFewB
 obtain⟨xl,xi,xb⟩:=(⟨h.xl,h.xi,h.xb⟩:(∀x∈la,BdL x)∧(∀x∈im,BdI x)∧(∀x∈bo,BdB x))
 dsimp only at hl QM hi hin X9 hbn
 have hidx:idx ([(0:Int),@len Bb bo,@len cH im,@len b7 la]:List Int) kind=some ((U5 kind (0,(la,(im,(bo,u)))):Nat):Int):=by
  rcases hk with rfl|rfl|rfl<;>rfl
 have agq:U5 kind (0,(la,(im,(bo,u))))≤40:=by
  rcases hk with rfl|rfl|rfl
  ·exact X9
  ·exact hi
  ·exact hl
 unfold kZ
 dsimp only
 rw[aJ (by omega),af,aJ (by omega),af,show aY (0:Int) 0=false from rfl,af,show aY (9007199254740992:Int) 0=false from rfl,af,cF (by omega) (by omega),ag,hidx,aa]
 by_cases Yf:U5 kind (0,(la,(im,(bo,u))))≤32
 rotate_left
 ·rw[aT (by omega),ag]
  exact⟨1,rfl,fun q=>(by cases q),fun q=>absurd q.BB Yf⟩
 rw[aJ (by omega),af,show within (1:Int) 4=true from rfl,ag,show idx ([(0:Int),@len Bb bo,@len cH im,@len b7 la]:List Int) 1=some (len bo) from rfl,aa,show within (2:Int) 4=true from rfl,ag,
  show idx ([(0:Int),@len Bb bo,@len cH im,@len b7 la]:List Int) 2=some (len im) from rfl,aa,show within (3:Int) 4=true from rfl,ag,show idx ([(0:Int),@len Bb bo,@len cH im,@len b7 la]:List Int) 3=some (len la) from rfl,aa,ag,aa,
  iH (a:=len bo) (b:=len im) (by unfold len;omega) (by unfold len;omega),iH (by unfold len;omega) (by unfold len;omega)]
 by_cases hsum:bo.length+im.length+la.length=U5 kind (0,(la,(im,(bo,u))))
 rotate_left
 ·rw[aN (by unfold len;omega),aF,ag]
  exact⟨1,rfl,fun q=>(by cases q),fun q=>absurd q.only hsum⟩
 rw[aR (by unfold len;omega),aK,af]
 rcases Jq (f:=ng (kind,((0,(la,(im,(bo,u)))),()))) la (by omega) OkL 0 (fun i x hx=>by
  unfold ng
  dsimp only
  rw[au (aH hx),ag,az hx,aa,U3 (xl x (List.mem_of_getElem? hx)),aa]
  by_cases q:OkL x<;>simp[q,nt,aj]) (by unfold ng;dsimp only;rw[aE,af]) with ⟨a1,l1⟩|⟨a1,q,l1⟩
 rotate_left
 ·rw[l1,aa];exact⟨1,rfl,fun q=>(by cases q),fun q=>absurd q.ll a1⟩
 rw[l1,aa]
 dsimp only
 rw[cG,ag]
 rcases Jq (f:=nh (kind,((0,(la,(im,(bo,u)))),()))) im (by omega) UZ 0 (fun i x hx=>by
  unfold nh
  dsimp only
  rw[au (aH hx),ag,az hx,aa,U4 (xi x (List.mem_of_getElem? hx)),aa]
  by_cases q:UZ x<;>simp[q,nt,aj]) (by unfold nh;dsimp only;rw[aE,af]) with ⟨a2,l2⟩|⟨a2,q,l2⟩
 rotate_left
 ·rw[l2,aa];exact⟨1,rfl,fun q=>(by cases q),fun q=>absurd q.il a2⟩
 rw[l2,aa]
 dsimp only
 rw[cG,ag]
 rcases Jq (f:=ni (kind,((0,(la,(im,(bo,u)))),()))) bo (by omega) OkB 0 (fun i x hx=>by
  unfold ni
  dsimp only
  rw[au (aH hx),ag,az hx,aa,Y9 (xb x (List.mem_of_getElem? hx)),aa]
  by_cases q:OkB x<;>simp[q,nt,aj]) (by unfold ni;dsimp only;rw[aE,af]) with ⟨a3,l3⟩|⟨a3,q,l3⟩
 rotate_left
 ·rw[l3,aa];exact⟨1,rfl,fun q=>(by cases q),fun q=>absurd q.bl a3⟩
 rw[l3,aa]
 dsimp only
 rw[cG,ag,hh,aa]
 have c0:(la.flatMap (·.2.2.1)).length≤320:=by have:=wY (g:=fun x:b7=>x.2.2.1) (l:=la) fun x hx=>(QM x hx).1;omega
 have c1:(im.flatMap (·.2.1)).length≤320:=by have:=wY (g:=fun x:cH=>x.2.1) (l:=im) fun x hx=>(hin x hx).1;omega
 have c2:(bo.flatMap (·.2.1)).length≤320:=by have:=wY (g:=fun x:Bb=>x.2.1) (l:=bo) fun x hx=>(hbn x hx).1;omega
 rcases Za (SF (0,(la,(im,(bo,u))))) (SG (0,(la,(im,(bo,u))))) (by unfold SF;simp only[List.length_append,List.length_map];omega) with ⟨a4,q4,l4⟩|⟨a4,q4,l4⟩
 rotate_left
 ·rw[l4,aa];exact⟨1,rfl,fun q=>(by cases q),fun q=>absurd q.ids a4⟩
 rw[l4,aa]
 dsimp only
 rw[cG,ag]
 rcases SI (SF (0,(la,(im,(bo,u))))) (SG (0,(la,(im,(bo,u))))) (by unfold SG;simp only[List.length_append];omega) with ⟨a5,q5,l5⟩|⟨a5,q5,l5⟩
 rotate_left
 ·rw[l5,aa];exact⟨1,rfl,fun q=>(by cases q),fun q=>absurd q.nms a5⟩
 rw[l5,aa]
 exact⟨0,rfl,fun _=>⟨Yf,hsum,a1,a2,a3,a4,a5⟩,fun _=>rfl⟩
end Go.Ge
namespace Go.Ge
set_option linter.unusedSectionVars false
variable [Lp]
set_option linter.unusedVariables false
set_option linter.unusedSimpArgs false
theorem KU(s:List UInt8)(hs:s.length≤1048576)(m:Int):∀(n i:Nat),s.length-i≤n→i≤s.length→∃q,Loop (fq (s,(m,()))) ((false,((i:Int),())),())=some q∧(if wU (s.drop i) then q.1=0 else q.1=1∧q.2.1.1=false):=by
 intro n
 induction n with
 | zero =>
   intro i h hi
   have:i=s.length:=by omega
   subst this
   rw[aV]
   refine⟨(0,((false,((s.length:Int),())),())),?_,?_⟩
   ·unfold fq
    dsimp only
    rw[aJ (by simp only[len];omega),af]
    rfl
   ·rw[List.drop_length,if_pos (by intro x hx;cases hx)]
 | succ n ih =>
   intro i h hi
   rw[aV]
   by_cases hlt:i<s.length
   ·have hd:s.drop i=s[i]::s.drop (i+1):=List.drop_eq_getElem_cons hlt
    have e0:fq (s,(m,())) ((false,((i:Int),())),())=if s[i]=0 then some (.inr (1,((false,((i:Int),())),()))) else some (.inl ((false,(((i+1:Nat):Int),())),())):=by
     unfold fq
     dsimp only
     rw[aT (by simp only[len];omega),ag,AM s hlt,aa]
     by_cases hz:s[i]=0
     ·rw[hz,show bC (u8 0) 0=true from rfl,ag,if_pos rfl]
     ·rw[show bC (u8 s[i]) 0=false from aN (fun e=>hz (Sv (b:=0) e)),af,if_neg hz,aZ (by omega)]
    rw[e0]
    by_cases hz:s[i]=0
    ·rw[if_pos hz]
     refine⟨_,rfl,?_⟩
     rw[if_neg (fun hn=>hn s[i] (by rw[hd];exact List.mem_cons_self ..) hz)]
     exact⟨rfl,rfl⟩
    ·rw[if_neg hz]
     obtain⟨q,q1,q2⟩:=ih (i+1) (by omega) (by omega)
     refine⟨q,q1,?_⟩
     have e:wU (s.drop i)↔wU (s.drop (i+1)):=by
      rw[hd]
      constructor
      ·intro h x hx;exact h x (List.mem_cons_of_mem _ hx)
      ·intro h x hx
       rcases List.mem_cons.1 hx with rfl|hx
       ·exact hz
       ·exact h x hx
     by_cases hn:wU (s.drop (i+1))
     ·rw[if_pos hn] at q2;rw[if_pos (e.2 hn)];exact q2
     ·rw[if_neg hn] at q2;rw[if_neg (fun k=>hn (e.1 k))];exact q2
   ·have:i=s.length:=by omega
    subst this
    refine⟨(0,((false,((s.length:Int),())),())),?_,?_⟩
    ·unfold fq
     dsimp only
     rw[aJ (by simp only[len];omega),af]
     rfl
    ·rw[List.drop_length,if_pos (by intro x hx;cases hx)]
theorem Ea(s:List UInt8)(hs:s.length≤1048576)(m:Int):kV (s,(m,()))=some (decide (QU s m),()):=by
 unfold kV
 dsimp only
 obtain⟨q,q1,q2⟩:=KU s hs m s.length 0 (by omega) (by omega)
 rw[show Loop (fq (s,(m,()))) ((false,(0,())),())=some q from q1,aa]
 rw[List.drop_zero] at q2
 by_cases hn:wU s
 ·rw[if_pos hn] at q2
  rw[q2,show fB 0 0=true from rfl,ag]
  by_cases h:s=[]
  ·subst h
   rw[eU (by decide),af,decide_eq_false (fun e=>e.1 rfl)]
  ·have:=List.length_pos_iff.2 h
   rw[cz (by simp only[len];omega),ag]
   unfold cO
   rw[show decide (len s≤m)=decide (QU s m) from decide_eq_decide.2 ⟨fun e=>⟨h,e,hn⟩,fun e=>e.2.1⟩]
 ·rw[if_neg hn] at q2
  rw[q2.1,show fB 1 0=false from rfl,af,q2.2,decide_eq_false (fun e=>hn e.2.2)]
theorem wZ(n b:Int):oM (n,(b,()))=some (decide (NC n b),()):=Cz n b
theorem Zb(h:Hd)(m:Int)(h1:h.1.length≤1048576)(h2:h.2.2.2.2.2.2.2.1.length≤1048576):r7 (h,(m,()))=some (decide (He h m),()):=by
 unfold r7
 dsimp only
 have acB:(aj (bC h.2.1 3) (ah (kV (h.2.2.2.2.2.2.2.1,(100,()))) fun y1=>some ((y1.1,()),())) (some ((cc h.2.2.2.2.2.2.2.1 [],()),()))) =
   some ((decide ((h.2.1=3∧QU h.2.2.2.2.2.2.2.1 100)∨(h.2.1≠3∧h.2.2.2.2.2.2.2.1=[])),()),()):=by
  by_cases k3:h.2.1=3
  ·rw[k3,nL,ag,Ea _ h2,aa]
   rw[show decide (QU h.2.2.2.2.2.2.2.1 100)=decide (((3:Int)=3∧QU h.2.2.2.2.2.2.2.1 100)∨((3:Int)≠3∧h.2.2.2.2.2.2.2.1=[])) from decide_eq_decide.2 (by simp)]
  ·rw[aN k3,af]
   unfold cc
   rw[show decide (h.2.2.2.2.2.2.2.1=[])=decide ((h.2.1=3∧QU h.2.2.2.2.2.2.2.1 100)∨(h.2.1≠3∧h.2.2.2.2.2.2.2.1=[])) from decide_eq_decide.2 (by simp[k3])]
 rw[acB,aa,Ea _ h1,aa]
 dsimp only
 have hno:∀{p:Prop} [Decidable p],¬p→decide p=false:=fun {p} _ h=>decide_eq_false h
 by_cases h6:QU h.1 m
 case neg=>rw[decide_eq_false h6,af,af,af,aa,af,aa,af,aa,af,aa,af,aa,af,af,decide_eq_false (fun e=>h6 e.2.2.2.2.2.1)]
 rw[decide_eq_true h6,ag]
 have hkk:He h m→1≤h.2.1∧h.2.1≤3:=fun e=>by
  rcases e.2.2.2.2.2.2 with k|k|k<;>omega
 by_cases k1:1≤h.2.1
 case neg=>rw[eU (by omega),af,af,aa,af,aa,af,aa,af,aa,af,aa,af,af,decide_eq_false (fun e=>k1 (hkk e).1)]
 rw[cz k1,ag]
 by_cases k2:h.2.1≤3
 case neg=>rw[eU (by omega),af,aa,af,aa,af,aa,af,aa,af,aa,af,af,decide_eq_false (fun e=>k2 (hkk e).2)]
 rw[cz k2,ag,wZ,aa,aa]
 by_cases n1:NC h.2.2.1 2097152
 case neg=>rw[decide_eq_false n1,af,aa,af,aa,af,aa,af,aa,af,af,decide_eq_false (fun e=>n1 e.1)]
 rw[decide_eq_true n1,ag,wZ,aa,aa]
 by_cases n2:NC h.2.2.2.1 2097152
 case neg=>rw[decide_eq_false n2,af,aa,af,aa,af,aa,af,af,decide_eq_false (fun e=>n2 e.2.1)]
 rw[decide_eq_true n2,ag,wZ,aa,aa]
 by_cases n3:NC h.2.2.2.2.1 2097152
 case neg=>rw[decide_eq_false n3,af,aa,af,aa,af,af,decide_eq_false (fun e=>n3 e.2.2.1)]
 rw[decide_eq_true n3,ag,wZ,aa,aa]
 by_cases n4:NC h.2.2.2.2.2.1 8589934592
 case neg=>rw[decide_eq_false n4,af,aa,af,af,decide_eq_false (fun e=>n4 e.2.2.2.1)]
 rw[decide_eq_true n4,ag,wZ,aa,aa]
 by_cases n5:NC h.2.2.2.2.2.2.1 8589934592
 case neg=>rw[decide_eq_false n5,af,af,decide_eq_false (fun e=>n5 e.2.2.2.2.1)]
 rw[decide_eq_true n5,ag]
 have hk:decide (He h m)=decide (kindOk h):=decide_eq_decide.2 ⟨fun e=>e.2.2.2.2.2.2,fun e=>⟨n1,n2,n3,n4,n5,h6,e⟩⟩
 rw[hk]
 have hk3:h.2.1=1∨h.2.1=2∨h.2.1=3:=by omega
 by_cases hz:h.2.2.2.2.2.1=0
 ·rw[aR hz,aK,af,ag]
  rw[show decide ((h.2.1=3∧QU h.2.2.2.2.2.2.2.1 100)∨(h.2.1≠3∧h.2.2.2.2.2.2.2.1=[]))=decide (kindOk h) from decide_eq_decide.2 (by
   unfold kindOk
   rcases hk3 with k|k|k<;>simp[k,hz])]
 ·rw[aN hz,aF,ag]
  by_cases ko:h.2.1=1
  ·rw[aR ko,ag]
   rw[show decide ((h.2.1=3∧QU h.2.2.2.2.2.2.2.1 100)∨(h.2.1≠3∧h.2.2.2.2.2.2.2.1=[]))=decide (kindOk h) from decide_eq_decide.2 (by unfold kindOk;simp[ko])]
  ·rw[aN ko,af]
   rw[show decide (kindOk h)=false from decide_eq_false (by unfold kindOk;simp[ko,hz])]
def Eb(b:List UInt8)(k:Nat):Nat:=if 148≤k∧k<156 then 32 else(b.getD k 0).toNat
def pe(b:List UInt8):Nat→Nat
 | 0=>0
 | k+1=>pe b k+Eb b k
theorem Js(b:List UInt8)(k:Nat):Eb b k≤255:=by
 unfold Eb
 have:=(b.getD k 0).toNat_lt
 split<;>omega
theorem PW(b:List UInt8)(k:Nat):pe b k≤255*k:=by
 induction k with
 | zero=>exact Nat.le_refl _
 | succ k ih=>have:=Js b k;simp only[pe];omega
theorem SJ:idx ([(0,(100,())),(100,(8,())),(108,(8,())),(116,(8,())),(124,(12,())),(136,(12,())),(148,(8,())),(156,(1,())),(157,(100,())),(257,(8,())),(345,(155,()))]:List (Int×Int×Unit)) 6=some (148,(8,())):=rfl
theorem Fv(b:List UInt8)(hb:b.length≤1048576):xO (b,())=some ((pe b b.length:Int),()):=by
 unfold xO oe
 rw[aa]
 dsimp only
 rw[SJ,aa,dD (by simp only[len];omega),ag]
 have key:Loop (kG (b,()) (148,(8,()))) ((0,(0,())),())=some (((pe b b.length:Int),((b.length:Int),())),()) :=
  ez (f:=kG (b,()) (148,(8,()))) (r:=(((pe b b.length:Int),((b.length:Int),())),())) b.length (fun k=>(((pe b k:Int),((k:Int),())),())) (fun k hk=>by
   unfold kG
   dsimp only
   have h1:=PW b k
   have h2:=Js b k
   have hgd:b.getD k 0=b[k]:=by simp[List.getD_eq_getElem?_getD,hk]
   rw[jx,aT (by omega),ag,cF (by omega) (by omega),ag,wS b hk,aa,fD,aZ (by omega),show aI .i64 148 8=156 from by decide]
   have hs:(aj (aj (cO 148 (k:Int)) (aY (k:Int) 156) false) (((32:Int),()),()) ((u8 b[k],()),())).1.1=(Eb b k:Int):=by
    unfold Eb
    by_cases h:148≤k
    ·by_cases h':k<156
     ·rw[cz (by omega),ag,aT (by omega),ag,if_pos ⟨h,h'⟩];rfl
     ·rw[cz (by omega),ag,aJ (by omega),af,if_neg (fun e=>h' e.2),hgd];rfl
    ·rw[eU (by omega),af,af,if_neg (fun e=>h e.1),hgd];rfl
   rw[hs,AJ (by omega) (by omega),show aI .i64 (pe b k:Int) (Eb b k:Int)=((pe b k+Eb b k:Nat):Int) from ux (by omega)]
   rfl) (by
   unfold kG
   dsimp only
   rw[jx,aJ (by omega),af,gL])
 rw[key,aa]
theorem Ec(b:List UInt8)(hb:b.length≤1048576):u7 (b,())=some ((pe b b.length:Int),()):=by
 unfold u7
 have key:Loop (mb (b,())) ((0,(0,())),())=some (((pe b b.length:Int),((b.length:Int),())),()) :=
  ez (f:=mb (b,())) (r:=(((pe b b.length:Int),((b.length:Int),())),())) b.length (fun k=>(((pe b k:Int),((k:Int),())),())) (fun k hk=>by
   unfold mb
   dsimp only
   have h1:=PW b k
   have h2:=Js b k
   have hgd:b.getD k 0=b[k]:=by simp[List.getD_eq_getElem?_getD,hk]
   have hu:=b[k].toNat_lt
   have e:∀v:Nat,v=Eb b k→aI .i64 (pe b k:Int) (v:Int)=((pe b (k+1):Nat):Int):=fun v hv=>by
    rw[hv,ux (by omega)]
    rfl
   rw[aT (by simp only[len];omega),ag]
   unfold Eb at e
   by_cases h:148≤k
   ·by_cases h':k<156
    ·rw[cz (by omega),ag,aT (by omega),ag,aa,fD,aZ (by omega)]
     dsimp only
     rw[show aI .i64 (pe b k:Int) 32=_ from e 32 (by rw[if_pos ⟨h,h'⟩])]
    ·rw[cz (by omega),ag,aJ (by omega),af,AM b hk,aa,aa,fD,aZ (by omega)]
     dsimp only
     rw[show qy .i64 (u8 b[k])=(b[k].toNat:Int) from AJ (by unfold u8;omega) (by unfold u8;omega),e b[k].toNat (by rw[if_neg (fun e=>h' e.2),hgd])]
   ·rw[eU (by omega),af,af,AM b hk,aa,aa,fD,aZ (by omega)]
    dsimp only
    rw[show qy .i64 (u8 b[k])=(b[k].toNat:Int) from AJ (by unfold u8;omega) (by unfold u8;omega),e b[k].toNat (by rw[if_neg (fun e=>h e.1),hgd])]) (by
   unfold mb
   dsimp only
   rw[aJ (by simp only[len];omega),af,gL])
 rw[key,aa]
end Go.Ge
namespace Go.Ge
set_option linter.unusedSectionVars false
variable [Lp]
set_option linter.unusedVariables false
set_option linter.unusedSimpArgs false
def Of(n:Nat):List UInt8:=List.replicate n 0
theorem SK(n:Nat):(Of n).length=n:=List.length_replicate
def lF:List UInt8:=[117,115,116,97,114,0,48,48]
theorem SL(fs:List (List UInt8))(k:Nat)(hk:k<fs.length):fs.flatten=(fs.take k).flatten++(fs[k]++(fs.drop (k+1)).flatten):=by
 conv=>lhs;rw[←List.take_append_drop k fs,List.drop_eq_getElem_cons hk]
 rw[List.flatten_append,List.flatten_cons]
theorem Xd(fs:List (List UInt8))(k:Nat)(hk:k<fs.length)(x:List UInt8):(fs.set k x).flatten=(fs.take k).flatten++(x++(fs.drop (k+1)).flatten):=by
 rw[List.set_eq_take_append_cons_drop,if_pos hk,List.flatten_append,List.flatten_cons]
theorem Xe(A z R s:List UInt8)(off:Nat)(hA:A.length=off)(hs:s.length≤z.length):over (ax (A++(z++R))) (off:Int) (ax s)=ax (A++((s++z.drop s.length)++R)):=by
 unfold over
 rw[Int.toNat_natCast,p9]
 have h1:(ax (A++(z++R))).take off=ax A:=by rw[Jg,List.take_left' hA]
 have h2:(ax (A++(z++R))).drop (off+s.length)=ax (z.drop s.length++R):=by
  have:(A++(z++R)).drop (off+s.length)=z.drop s.length++R:=by
   rw[←hA,←List.drop_drop,List.drop_left,List.drop_append_of_le_length hs]
  rw[←this]
  simp[ax,List.map_drop]
 rw[h1,h2,←vK,←vK,List.append_assoc,List.append_assoc]
theorem ov(fs:List (List UInt8))(k:Nat)(hk:k<fs.length)(s:List UInt8)(n l off:Nat)(hz:fs[k]=Of n)(hl:s.length=l)(QM:l≤n)(ho:(fs.take k).flatten.length=off)(h5:off+l≤512) :
  over (ax fs.flatten) (off:Int) (kz (ax s) (minus 512 (off:Int)))=ax (fs.set k (s++Of (n-l))).flatten:=by
 have e:kz (ax s) (minus 512 (off:Int))=ax s:=by
  unfold kz minus
  rw[List.take_of_length_le]
  rw[p9];omega
 rw[e,SL fs k hk,Xe _ _ _ _ off ho (by rw[hz,SK];omega),Xd fs k hk,hz,hl]
 simp[Of]
def Xf(h:Hd)(m u g z t:Nat)(kd:UInt8)(sm:List UInt8):List (List UInt8):=[h.1++Of (100-h.1.length),Sx m 7++Of 1,Sx u 7++Of 1,Sx g 7++Of 1,Sx z 11++Of 1,Sx t 11++Of 1,sm,[kd]++Of 0,h.2.2.2.2.2.2.2.1++Of (100-h.2.2.2.2.2.2.2.1.length),lF++Of 0,Of 80,Of 155,Of 12]
end Go.Ge
namespace Go.Ge
set_option linter.unusedSectionVars false
variable [Lp]
set_option linter.unusedVariables false
set_option linter.unusedSimpArgs false
def TG:List (Int×Int×Unit):=[(0,(100,())),(100,(8,())),(108,(8,())),(116,(8,())),(124,(12,())),(136,(12,())),(148,(8,())),(156,(1,())),(157,(100,())),(257,(8,())),(345,(155,()))]
theorem SM:oe ()=some (TG,()):=rfl
structure Fits (h:Hd) (m u g z t:Nat) (kd:UInt8):Prop where
 path:h.1.length≤100
 link:h.2.2.2.2.2.2.2.1.length≤100
 m:h.2.2.1=(m:Int)∧m<2097152
 u:h.2.2.2.1=(u:Int)∧u<2097152
 g:h.2.2.2.2.1=(g:Int)∧g<2097152
 z:h.2.2.2.2.2.1=(z:Int)∧z<8589934592
 t:h.2.2.2.2.2.2.1=(t:Int)∧t<8589934592
 kind:(h.2.1=1∧kd=48)∨(h.2.1=2∧kd=53)∨(h.2.1=3∧kd=50)
def aes(h:Hd)(m u g z t:Nat)(kd:UInt8):List UInt8:=(Xf h m u g z t kd (Sx (pe (Xf h m u g z t kd (Of 8)).flatten 512) 6++[0,32])).flatten
end Go.Ge
namespace Go.Ge
set_option linter.unusedSectionVars false
variable [Lp]
set_option linter.unusedVariables false
set_option linter.unusedSimpArgs false
theorem Hi(s:List UInt8)(hs:s.length≤1048576):∃n ok,dK (s,())=some (n,(ok,())):=by
 unfold dK
 dsimp only
 cases hc:(aj (nt (aY (len s) 1)) (aY 21 (len s)) true) with
 | true=>exact⟨0,false,rfl⟩
 | false =>
   rw[af,dD (by simp only[len];omega),ag]
   have key:∀(k i:Nat) (v:Int),s.length-i≤k→i≤s.length→∃q,Loop (bH (s,())) ((0,(false,(v,((i:Int),())))),())=some q:=by
    intro k
    induction k with
    | zero =>
      intro i v h hi
      rw[aV]
      unfold bH
      dsimp only
      rw[jx,aJ (by omega),af]
      exact⟨_,rfl⟩
    | succ k ih =>
      intro i v h hi
      by_cases hlt:i<s.length
      ·cases hd:(aj (nt (aY (u8 s[i]) 48)) (aY 55 (u8 s[i])) true) with
       | true =>
         have e0:bH (s,()) ((0,(false,(v,((i:Int),())))),())=some (.inr (1,((0,(false,(v,((i:Int),())))),()))):=by
          unfold bH
          dsimp only
          rw[jx,aT (by omega),ag,cF (by omega) (by omega),ag,wS s hlt,aa,hd,ag]
         rw[aV,e0]
         exact⟨_,rfl⟩
       | false =>
         have e0:bH (s,()) ((0,(false,(v,((i:Int),())))),())=some (.inl ((0,(false,(CW .i64 (yQ .i64 v 3) (qy .i64 (dO .u8 (u8 s[i]) 48)),(((i+1:Nat):Int),())))),())):=by
          unfold bH
          dsimp only
          rw[jx,aT (by omega),ag,cF (by omega) (by omega),ag,wS s hlt,aa,hd,af,aJ (by decide),af,aZ (by omega)]
         rw[aV,e0]
         exact ih (i+1) _ (by omega) (by omega)
      ·rw[aV]
       unfold bH
       dsimp only
       rw[jx,aJ (by omega),af]
       exact⟨_,rfl⟩
   obtain⟨q,hq⟩:=key s.length 0 0 (by omega) (by omega)
   rw[show Loop (bH (s,())) ((0,(false,(0,(0,())))),())=some q from hq,aa]
   cases fB q.1 0 with
   | true=>exact⟨_,_,rfl⟩
   | false=>exact⟨_,_,rfl⟩
theorem nq(p:UInt8→Bool)(s:List UInt8):(cj p s).length≤s.length:=by
 unfold cj
 rw[List.length_reverse]
 have:=List.takeWhile_append_dropWhile (p:=p) (l:=s.reverse)
 have:=congrArg List.length this
 rw[List.length_append,List.length_reverse] at this
 omega
theorem en(s:List UInt8)(hs:s.length≤1048576):∃n,cY (s,())=some (n,()):=by
 unfold cY
 dsimp only
 have hl:=nq uQ s
 rw[D1 s hs,aa]
 obtain⟨n,ok,h⟩:=Hi (cj uQ s) (by omega)
 dsimp only
 rw[h,aa]
 cases (aj (nt (nt ok)) (bC (len (cj uQ s)) (len s)) true) with
 | true=>exact⟨_,rfl⟩
 | false=>exact⟨_,rfl⟩
def fJ(b:List UInt8)(a n:Nat):List UInt8:=(b.drop a).take n
theorem b8(b:List UInt8)(a n:Nat):(fJ b a n).length≤n:=by simp[fJ];omega
theorem mF(b:List UInt8)(hb:b.length=512)(k:Int)(a n:Nat)(hk:idx TG k=some ((a:Int),((n:Int),())))(h:a+n≤512):bX (b,(k,()))=some (fJ b a n,()):=by
 unfold bX
 rw[SM,aa]
 dsimp only
 rw[hk,aa]
 dsimp only
 rw[show aI .i64 (a:Int) (n:Int)=((a+n:Nat):Int) from ux (by omega),bB (by omega) (by omega) (by simp only[len];omega),ag]
 unfold sub minus fJ
 rw[Int.toNat_natCast,show(((a+n:Nat):Int)-(a:Int)).toNat=n by omega]
section
variable (b:List UInt8)
theorem o0(hb:b.length=512):bX (b,(0,()))=some (fJ b 0 100,()):=mF b hb 0 0 100 rfl (by omega)
theorem o1(hb:b.length=512):bX (b,(1,()))=some (fJ b 100 8,()):=mF b hb 1 100 8 rfl (by omega)
theorem o2(hb:b.length=512):bX (b,(2,()))=some (fJ b 108 8,()):=mF b hb 2 108 8 rfl (by omega)
theorem o3(hb:b.length=512):bX (b,(3,()))=some (fJ b 116 8,()):=mF b hb 3 116 8 rfl (by omega)
theorem o4(hb:b.length=512):bX (b,(4,()))=some (fJ b 124 12,()):=mF b hb 4 124 12 rfl (by omega)
theorem o5(hb:b.length=512):bX (b,(5,()))=some (fJ b 136 12,()):=mF b hb 5 136 12 rfl (by omega)
theorem o6(hb:b.length=512):bX (b,(6,()))=some (fJ b 148 8,()):=mF b hb 6 148 8 rfl (by omega)
theorem o7(hb:b.length=512):bX (b,(7,()))=some (fJ b 156 1,()):=mF b hb 7 156 1 rfl (by omega)
theorem o8(hb:b.length=512):bX (b,(8,()))=some (fJ b 157 100,()):=mF b hb 8 157 100 rfl (by omega)
theorem o9(hb:b.length=512):bX (b,(9,()))=some (fJ b 257 8,()):=mF b hb 9 257 8 rfl (by omega)
theorem o10(hb:b.length=512):bX (b,(10,()))=some (fJ b 345 155,()):=mF b hb 10 345 155 rfl (by omega)
end
def U6:Hd:=([],(0,(0,(0,(0,(0,(0,([],()))))))))
theorem CJ(b:List UInt8)(hb:b.length=512)(hm:fJ b 257 8≠lF):fy (b,())=some (U6,(2,())):=by
 unfold fy
 dsimp only
 rw[aR (by simp only[len];omega),aK,aF,ag,o9 b hb,aa,aa,show([117,115,116,97,114,0,48,48]:List UInt8)=lF from rfl]
 dsimp only
 rw[show cc (fJ b 257 8) lF=false from decide_eq_false hm,aF,aK,af,aa,ag]
 rfl
theorem PX(b:List UInt8)(hb:b.length=512){n:Int}(hn:cY (fJ b 148 8,())=some (n,()))(hne:n≠(pe b 512:Int)):fy (b,())=some (U6,(2,())):=by
 by_cases hm:fJ b 257 8=lF
 ·unfold fy
  dsimp only
  rw[aR (by simp only[len];omega),aK,aF,ag,o9 b hb,aa,aa,show([117,115,116,97,114,0,48,48]:List UInt8)=lF from rfl]
  dsimp only
  rw[hm,show cc lF lF=true from ug _,aK,aF,ag,o6 b hb,aa]
  dsimp only
  rw[hn,aa,Fv b (by omega),aa]
  dsimp only
  rw[hb,aN hne,aF,aa,ag]
  rfl
 ·exact CJ b hb hm
end Go.Ge
namespace Go.Ge
set_option linter.unusedSectionVars false
variable [Lp]
set_option linter.unusedVariables false
set_option linter.unusedSimpArgs false
section
variable {h:Hd} {m u g z t:Nat} {kd:UInt8}
end
end Go.Ge
namespace Go.Ge
set_option linter.unusedSectionVars false
variable [Lp]
set_option linter.unusedVariables false
set_option linter.unusedSimpArgs false
def hA:Hd:=([100,47],(2,(493,(0,(0,(0,(1,([],()))))))))
def hC:Hd:=([100],(2,(0,(0,(0,(1,(0,([],()))))))))
end Go.Ge
namespace Go.Ge
set_option linter.unusedSectionVars false
variable [Lp]
set_option linter.unusedVariables false
set_option linter.unusedSimpArgs false
abbrev Pt:=Hd×List UInt8×Unit
def hsize(h:Hd):Int:=h.2.2.2.2.2.1
def aet(h:Hd):UInt8:=if h.2.1=1 then 48 else if h.2.1=2 then 53 else 50
def aeu(h:Hd):List UInt8:=aes h h.2.2.1.toNat h.2.2.2.1.toNat h.2.2.2.2.1.toNat h.2.2.2.2.2.1.toNat h.2.2.2.2.2.2.1.toNat (aet h)
def aev(p:Pt):Prop:=He p.1 100∧hsize p.1=(p.2.1.length:Int)
instance (p:Pt):Decidable (aev p):=inferInstanceAs (Decidable (_∧_))
def lG(n:Nat):Nat:=(512-n % 512) % 512
def body(p:Pt):List UInt8:=aeu p.1++p.2.1++Of (lG p.2.1.length)
theorem PY(n:Nat):lG n<512:=Nat.mod_lt _ (by decide)
theorem PZ(n:Nat)(hn:n≤1048576):xQ ((n:Int),())=some ((lG n:Int),()):=by
 unfold xQ
 dsimp only
 rw[show bC 512 0=false from rfl,af,af]
 have e1:ij (n:Int) 512=((n % 512:Nat):Int):=rfl
 rw[e1,fZ (by omega) (by omega),show(512:Int)-((n % 512:Nat):Int)=((512-n % 512:Nat):Int) by omega]
 rfl
theorem P0(n:Nat)(hn:n≤1048576):kW ((n:Int),())=some (((n+lG n:Nat):Int),()):=by
 unfold kW
 dsimp only
 have key:=ez (f:=jt) (r:=((((n+lG n:Nat):Int),()),())) (lG n) (fun i=>((((n+i:Nat):Int),()),())) (fun i hi=>by
  have hm:=hi
  unfold lG at hm
  unfold jt
  dsimp only
  rw[show bC 512 0=false from rfl,af,show ij ((n+i:Nat):Int) 512=(((n+i) % 512:Nat):Int) from rfl,aN (by omega),aF,ag,aZ (by omega)]
  rfl) (by
  unfold jt
  dsimp only
  rw[show bC 512 0=false from rfl,af,show ij ((n+lG n:Nat):Int) 512=(((n+lG n) % 512:Nat):Int) from rfl,aR (by unfold lG;omega),aK,af]
  rfl)
 rw[show Loop jt (((n:Int),()),())=_ from key,aa]
structure ags (l:List Pt) (n:Nat):Prop where
 many:l.length≤n
 path:∀p∈l,p.1.1.length≤300
 link:∀p∈l,p.1.2.2.2.2.2.2.2.1.length≤300
 data:∀p∈l,p.2.1.length≤8192
end Go.Ge
namespace Go.Ge
set_option linter.unusedSectionVars false
variable [Lp]
set_option linter.unusedVariables false
set_option linter.unusedSimpArgs false
abbrev Rd:=Bool×List UInt8×Int×Bool×Bool×Unit
def NL:Pt:=(U6,([],()))
def rd(r:List UInt8)(n:Int):Rd:=(true,(r,(n,(false,(false,())))))
def zQ(n:Int)(b:Bool):Rd:=(true,([],(n,(true,(b,())))))
theorem U7(r:List UInt8)(n:Int)(b:Bool):bT ((),((true,(r,(n,(true,(b,()))))),()))=some ((NL,(false,())),((true,(r,(n,(true,(b,()))))),())):=by
 unfold bT
 dsimp only
 rfl
theorem Ed(r:List UInt8)(n:Int)(b:Bool):eR ((b,()),(rd r n,()))=some ((NL,(false,())),(zQ n b,())):=rfl
theorem Jt(r:List UInt8)(n:Int)(h:r.length<512):bT ((),(rd r n,()))=some ((NL,(false,())),(zQ n true,())):=by
 have e:=Ed r n true
 unfold bT
 dsimp only[rd] at e⊢
 rw[aK,aF,ag,af,aT (by rw[bN];omega),ag,e,aa]
theorem L6(r:List UInt8)(n:Int)(h:512≤r.length)(hl:r.length≤1048576)(hz:∀x∈r.take 512,x=0) :
  bT ((),(rd r n,()))=some ((NL,(false,())),(zQ n (!decide (1024≤r.length∧r.length % 512=0∧∀x∈r,x=0)),())):=by
 have e:=fun b=>Ed r n b
 unfold bT
 dsimp only[rd] at e⊢
 have ht:(r.take 512).length=512:=by rw[List.length_take];omega
 rw[aK,aF,ag,af,aJ (by rw[bN];omega),af,bB (by decide) (by decide) (by rw[bN];omega),ag,show sub r 0 (minus 512 0)=r.take 512 from jl r 512,Jk _ (by omega),decide_eq_true ⟨ht,hz⟩,aa,ag]
 rw[show bC 512 0=false from rfl,af,show ij (len r) 512=((r.length % 512:Nat):Int) from rfl,show cO 1024 (len r)=decide (1024≤r.length) from by unfold cO len;apply decide_eq_decide.2;omega,show bC ((r.length % 512:Nat):Int) 0=decide (r.length % 512=0) from by unfold bC;apply decide_eq_decide.2;omega,PM r hl]
 have hb:decide ((cj b9 r).dropWhile b9=[])=decide (∀x∈r,x=0):=decide_eq_decide.2 (uz r)
 by_cases a:1024≤r.length
 ·by_cases b:r.length % 512=0
  ·by_cases c:∀x∈r,x=0
   ·have c':=(uz r).2 c
    rw[decide_eq_true a,ag,decide_eq_true b,aa,aK,aF,ag,aa,aa]
    dsimp only
    rw[fE c',aK,e,aa,decide_eq_true ⟨a,b,c⟩]
    rfl
   ·have c':¬(cj b9 r).dropWhile b9=[]:=fun q=>c ((uz r).1 q)
    rw[decide_eq_true a,ag,decide_eq_true b,aa,aK,aF,ag,aa,aa]
    dsimp only
    rw[cu c',aF,e,aa,decide_eq_false (fun q=>c q.2.2)]
    rfl
  ·rw[decide_eq_true a,ag,decide_eq_false b,aa,aF,aK,af,aa,e,aa,decide_eq_false (fun q=>b q.2.1)]
   rfl
 ·rw[decide_eq_false a,af,aa,aF,aK,af,aa,e,aa,decide_eq_false (fun q=>a q.1)]
  rfl
theorem L7(p:Pt)(out:List Pt)(st:Rd)(ho:out.length≤1000){p1:Pt}{ok1:Bool}{st1:Rd}(h:bT ((),(st,()))=some ((p1,(ok1,())),(st1,()))) :
  gw (((),((),(true,()))),(p,(out,(st,()))))=some (.inl (((),((),(ok1,()))),(p1,(out++[p],(st1,()))))):=by
 unfold gw
 dsimp only
 rw[ag,cM (by simp only[List.length_cons,List.length_nil];omega),ag,h,aa]
 rfl
theorem w8(p:Pt)(out:List Pt)(st:Rd):gw (((),((),(false,()))),(p,(out,(st,()))))=some (.inr (((),((),(false,()))),(p,(out,(st,()))))):=rfl
theorem L8(s:List UInt8)(h:8192<s.length):mc (s,())=some ([],(10,())):=by
 unfold mc
 dsimp only
 rw[aT (by rw[bN];omega),U7,aa]
 dsimp only
 rw[aV,w8]
 rfl
end Go.Ge
namespace Go.Ge
set_option linter.unusedSectionVars false
variable [Lp]
set_option linter.unusedVariables false
set_option linter.unusedSimpArgs false
theorem aaO(c:Bool)(h:Hd):∃x e,ah (aj c (ah (rZ (h,((256:Int),()))) (fun(UD:Bool×Unit)=>some (nt UD.1))) (some true)) (fun y=>aj y (some (U6,((2:Int),()))) (some (h,((0:Int),()))))=some (x,(e,()))∧(e=0→He x 256):=by
 rw[PN,aa]
 cases c with
 | false=>exact⟨_,_,rfl,fun q=>absurd q (by decide)⟩
 | true =>
   by_cases hk:He h 256
   ·rw[decide_eq_true hk]
    exact⟨h,0,rfl,fun _=>hk⟩
   ·rw[decide_eq_false hk]
    exact⟨_,_,rfl,fun q=>absurd q (by decide)⟩
theorem TH(b:List UInt8)(hb:b.length=512):∃x e,fy (b,())=some (x,(e,()))∧(e=0→He x 256):=by
 by_cases hm:fJ b 257 8=lF
 case neg=>exact⟨_,_,CJ b hb hm,fun e=>absurd e (by decide)⟩
 obtain⟨n6,h6⟩:=en (fJ b 148 8) (by have:=b8 b 148 8;omega)
 by_cases hs:n6=(pe b 512:Int)
 case neg=>exact⟨_,_,PX b hb h6 hs,fun e=>absurd e (by decide)⟩
 obtain⟨n1,h1⟩:=en (fJ b 100 8) (by have:=b8 b 100 8;omega)
 obtain⟨n2,h2⟩:=en (fJ b 108 8) (by have:=b8 b 108 8;omega)
 obtain⟨n3,h3⟩:=en (fJ b 116 8) (by have:=b8 b 116 8;omega)
 obtain⟨n4,h4⟩:=en (fJ b 124 12) (by have:=b8 b 124 12;omega)
 obtain⟨n5,h5⟩:=en (fJ b 136 12) (by have:=b8 b 136 12;omega)
 have t0:=D3 (fJ b 0 100) (by have:=b8 b 0 100;omega)
 have t8:=D3 (fJ b 157 100) (by have:=b8 b 157 100;omega)
 have t10:=D3 (fJ b 345 155) (by have:=b8 b 345 155;omega)
 have l0:=nq b9 (fJ b 0 100)
 have l10:=nq b9 (fJ b 345 155)
 have m0:=b8 b 0 100
 have m10:=b8 b 345 155
 unfold fy
 dsimp only
 rw[aR (by simp only[len];omega),aK,aF,ag,o9 b hb,aa,aa,show([117,115,116,97,114,0,48,48]:List UInt8)=lF from rfl]
 dsimp only
 rw[hm,show cc lF lF=true from ug _,aK,aF,ag,o6 b hb,aa]
 dsimp only
 rw[h6,aa,Fv b (by omega),aa]
 dsimp only
 rw[hb,aR hs,aK,aa,af,o0 b hb,aa]
 dsimp only
 rw[t0,aa,o8 b hb,aa]
 dsimp only
 rw[t8,aa,o10 b hb,aa]
 dsimp only
 rw[t10,aa]
 dsimp only
 have hpre:∃p:List UInt8,(aj (nt (cc (cj b9 (fJ b 345 155)) [])) (aj (fits (plus (len (cj b9 (fJ b 345 155))) (len ([47]:List UInt8)))) (aj (fits (plus (len (app (cj b9 (fJ b 345 155)) [47])) (len (cj b9 (fJ b 0 100)))))
   (some ((app (app (cj b9 (fJ b 345 155)) [47]) (cj b9 (fJ b 0 100)),()),())) none) none) (some ((cj b9 (fJ b 0 100),()),())))=some ((p,()),()):=by
  cases (nt (cc (cj b9 (fJ b 345 155)) [])) with
  | true =>
    rw[ag,dD (by simp only[plus,len,List.length_cons,List.length_nil];omega),ag,dD (by simp only[plus,len,app,List.length_append,List.length_cons,List.length_nil];omega),ag]
    exact⟨_,rfl⟩
  | false=>exact⟨_,rfl⟩
 obtain⟨p,hp⟩:=hpre
 rw[hp,aa,o1 b hb,aa]
 dsimp only
 rw[h1,aa,o2 b hb,aa]
 dsimp only
 rw[h2,aa,o3 b hb,aa]
 dsimp only
 rw[h3,aa,o4 b hb,aa]
 dsimp only
 rw[h4,aa,o5 b hb,aa]
 dsimp only
 rw[h5,aa,o7 b hb,aa]
 exact aaO _ _
theorem P3(r:List UInt8)(n:Nat)(hl:r.length≤10000):∃p ok st,bT ((),(rd r (n:Int),()))=some ((p,(ok,())),(st,())) ∧
  ((ok=false∧∃b,st=zQ (n:Int) b)∨(ok=true∧He p.1 256∧p.2.1.length≤r.length∧n<64∧∃r',st=rd r' ((n+1:Nat):Int)∧r'.length+512≤r.length)):=by
 by_cases aaP:r.length<512
 ·exact⟨_,_,_,Jt r n aaP,.inl ⟨rfl,_,rfl⟩⟩
 by_cases hz:∀x∈r.take 512,x=0
 ·exact⟨_,_,_,L6 r n (by omega) (by omega) hz,.inl ⟨rfl,_,rfl⟩⟩
 have e:=fun b=>Ed r (n:Int) b
 have ht:(r.take 512).length=512:=by rw[List.length_take];omega
 obtain⟨x,er,t1,t2⟩:=TH (r.take 512) ht
 have hdl:(r.drop 512).length=r.length-512:=List.length_drop
 unfold bT
 dsimp only[rd] at e⊢
 rw[aK,aF,ag,af,aJ (by rw[bN];omega),af,bB (by decide) (by decide) (by rw[bN];omega),ag,show sub r 0 (minus 512 0)=r.take 512 from jl r 512]
 rw[Jk (r.take 512) (by omega),aa]
 dsimp only
 rw[decide_eq_false (fun q=>hz q.2),af,ag,t1,aa,bB (by decide) (by rw[bN];omega) (Int.le_refl _),ag,show sub r 512 (minus (len r) 512)=r.drop 512 from pV r 512 (by omega)]
 dsimp only
 by_cases he:er=0
 case neg =>
  rw[aN he,aF,ag,e,aa]
  exact⟨_,_,_,rfl,.inl ⟨rfl,_,rfl⟩⟩
 rw[aR he,aK,af]
 have hok:=t2 he
 obtain⟨s0,s1⟩:=hok.2.2.2.1
 obtain⟨k,hk⟩:=Int.eq_ofNat_of_zero_le s0
 rw[hk]
 by_cases h1:(r.drop 512).length<k
 ·rw[aT (by rw[bN];omega),ag,e,aa]
  exact⟨_,_,_,rfl,.inl ⟨rfl,_,rfl⟩⟩
 ·have hf:=PY k
  rw[aJ (by rw[bN];omega),af,PZ k (by omega),aa,iH (by omega) (by omega)]
  dsimp only
  by_cases h2:(r.drop 512).length<k+lG k
  ·rw[aT (by rw[bN];omega),ag,e,aa]
   exact⟨_,_,_,rfl,.inl ⟨rfl,_,rfl⟩⟩
  ·rw[aJ (by rw[bN];omega),af]
   by_cases h3:64≤n
   ·rw[cz (by omega),ag,e,aa]
    exact⟨_,_,_,rfl,.inl ⟨rfl,_,rfl⟩⟩
   ·rw[eU (by omega),af,aa,iH (by omega) (by omega),bB (by omega) (by rw[bN];omega) (Int.le_refl _),ag,bB (by omega) (by omega) (by rw[bN];omega),ag]
    rw[show sub (r.drop 512) 0 (minus (k:Int) 0)=(r.drop 512).take k from jl _ k,show(k:Int)+(lG k:Int)=((k+lG k:Nat):Int) by omega,pV _ (k+lG k) (by omega),aZ (by omega)]
    refine⟨_,_,_,rfl,.inr ⟨rfl,hok,?_,by omega,_,rfl,?_⟩⟩
    ·dsimp only;rw[List.length_take];omega
    ·rw[List.length_drop];omega
theorem Ju{h:Hd}(k:He h 256):h.1.length≤300∧h.2.2.2.2.2.2.2.1.length≤300:=by
 obtain⟨_,_,_,_,_,⟨_,c1,_⟩,c2⟩:=k
 refine⟨by omega,?_⟩
 rcases c2 with ⟨_,e⟩|⟨_,e,_⟩|⟨_,⟨_,e,_⟩,_⟩
 ·rw[e];simp
 ·rw[e];simp
 ·omega
def RdP(p:Pt):Prop:=p.1.1.length≤300∧p.1.2.2.2.2.2.2.2.1.length≤300∧p.2.1.length≤8192
theorem U8:∀(m n:Nat) (r:List UInt8) (out:List Pt) (p:Pt),r.length≤m→r.length≤8192→out.length+1=n→n≤64→(∀q∈out++[p],RdP q) →
  ∃(out':List Pt) (p':Pt) (b:Int×Bool),Loop gw (((),((),(true,()))),(p,(out,(rd r (n:Int),()))))=some (((),((),(false,()))),(p',(out',(zQ b.1 b.2,()))))∧out'.length≤64∧∀q∈out',RdP q:=by
 intro m
 induction m using Nat.strongRecOn with
 | _ m ih =>
   intro n r out p hm hr hn FX hq
   obtain⟨p1,ok1,st1,h1,h2⟩:=P3 r n (by omega)
   have hstep:=L7 p out (rd r (n:Int)) (by omega) h1
   rcases h2 with ⟨rfl,b,rfl⟩|⟨rfl,k1,k2,k3,r',rfl,k4⟩
   ·refine⟨out++[p],p1,((n:Int),b),?_,by rw[List.length_append];simp;omega,hq⟩
    rw[aV,hstep]
    show Loop _ _=_
    rw[aV,w8];rfl
   ·have hs:=Ju k1
    obtain⟨o,p',b,z1,z2,z3⟩:=ih r'.length (by omega) (n+1) r' (out++[p]) p1 (Nat.le_refl _) (by omega) (by rw[List.length_append];simp;omega) (by omega) (fun q hqq=>by
     rcases List.mem_append.1 hqq with hqq|hqq
     ·exact hq q hqq
     ·rw[List.mem_singleton] at hqq
      subst hqq
      exact⟨hs.1,hs.2,by omega⟩)
    exact⟨o,p',b,by rw[aV,hstep];exact z1,z2,z3⟩
theorem Xg(s:List UInt8):∃l e,mc (s,())=some (l,(e,()))∧l.length≤64∧(∀q∈l,RdP q)∧(e=0∨(e=10∧l=[])):=by
 by_cases h8:8192<s.length
 ·exact⟨_,_,L8 s h8,by simp,fun q hq=>(by cases hq),.inr ⟨rfl,rfl⟩⟩
 obtain⟨p,ok,st,h1,h2⟩:=P3 s 0 (by omega)
 have fin:∀(b:Int×Bool) (o:List Pt),(ah (js ((),(zQ b.1 b.2,()))) fun y3=>aj y3.1.1 (some (([]:List Pt),((10:Int),()))) (some (o,((0:Int),()))))=some (if b.2=true then(([]:List Pt),((10:Int),())) else(o,((0:Int),()))):=fun b o=>by
  obtain⟨b1,b2⟩:=b
  cases b2<;>rfl
 unfold mc
 dsimp only
 rw[aJ (by rw[bN];omega),show bT ((),((true,(s,((0:Int),(false,(false,()))))),()))=_ from h1,aa]
 dsimp only
 rcases h2 with ⟨rfl,b,rfl⟩|⟨rfl,k1,k2,k3,r',rfl,k4⟩
 ·rw[aV,w8]
  show ∃l e,(ah (js ((),(zQ _ _,()))) fun y3=>aj y3.1.1 (some (([]:List Pt),((10:Int),()))) (some (([]:List Pt),((0:Int),()))))=_∧_
  rw[fin (_,_)]
  cases b with
  | true=>exact⟨_,_,rfl,by simp,fun q hq=>(by cases hq),.inr ⟨rfl,rfl⟩⟩
  | false=>exact⟨_,_,rfl,by simp,fun q hq=>(by cases hq),.inl rfl⟩
 ·have hs:=Ju k1
  obtain⟨o,p',b,z1,z2,z3⟩:=U8 r'.length 1 r' [] p (Nat.le_refl _) (by omega) rfl (by omega) (fun q hq=>by
   rw[List.nil_append,List.mem_singleton] at hq
   subst hq
   exact⟨hs.1,hs.2,by omega⟩)
  rw[show Loop gw (((),((),(true,()))),(p,(([]:List Pt),(rd r' ((0+1:Nat):Int),()))))=_ from z1,aa]
  dsimp only
  rw[fin b o]
  cases hb:b.2 with
  | true=>exact⟨_,_,rfl,by simp,fun q hq=>(by cases hq),.inr ⟨rfl,rfl⟩⟩
  | false=>exact⟨_,_,rfl,z2,z3,.inl rfl⟩
end Go.Ge
namespace Go.Ge
set_option linter.unusedSectionVars false
variable [Lp]
set_option linter.unusedVariables false
set_option maxRecDepth 100000
end Go.Ge
