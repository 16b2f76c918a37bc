/- Plain laws of what the functions compute: part 4. -/
import Derived.Test.YtefacgohfjccgaaGreatDoorPlC
import Derived.Test.YtefacgohfjccgaaGreatDoorGeI
set_option linter.unusedVariables false
set_option linter.unusedSectionVars false
set_option linter.unusedSimpArgs false
noncomputable section
namespace Go.Ge
variable [Lp]
set_option maxRecDepth 100000
abbrev aU:=(Sb×Sb×(List Sb)×Sb×Int×Int×Bool×Unit)
abbrev eD:=(Sb×(List Sb)×Sb×Sb×Sb×(List (Sb×Sb×Sb×Unit))×Unit)
abbrev dN:=(Sb×(List Sb)×Sb×Sb×(List (Sb×Sb×Sb×Unit))×Unit)
abbrev kR:=((List eD)×(List dN)×(List aU)×(List Sb)×(List (Sb×Int×Unit))×Unit)
abbrev sL:=(Sb×Int×Int×Sb×Sb×Unit)
abbrev fy:=(Bool×Int×Unit)
abbrev mb:=((Unit×Unit×Int×Unit)×(List Sb)×(List Sb)×Unit)
abbrev cN:=(Nat×(Int×Int×Unit)×Unit)
abbrev mc:=(List (Sb×Sb×Sb×Unit))
abbrev bQ:=(Nat×fy×Unit)
abbrev jZ:=(Sb×(List aU)×Int×Unit×Int×Unit)
abbrev ck:=((Int×Int×Unit)×Unit)
abbrev AR:=((Nat×(Unit×Unit×Int×Unit)×(List Sb)×(List Sb)×Unit))
abbrev qp:=((List sL)×Int×(List sL)×Int×Unit)
abbrev bw:=(fy×Unit)
abbrev vw:=(Int×(List aU)×(List dN)×(List eD)×Unit)
abbrev ji:=(Sb×Int×Unit)
def sM(x:(List aU)×Unit)(y1:fy×Unit):Option (bw⊕bQ) :=
 aj (aj (bB y1.1.2.1 (@len aU x.1))
 (bB y1.1.2.1 (40:Int))
 false)
 (ah (@idx aU x.1 y1.1.2.1) (fun(y2:Sb×Sb×(List Sb)×Sb×Int×Int×Bool×Unit)=>ah (aj (nt (bB (100:Int) (@len UInt8 y2.1)))
 (ah (@idx aU x.1 y1.1.2.1) (fun(y3:Sb×Sb×(List Sb)×Sb×Int×Int×Bool×Unit)=>some (bB (100:Int) (@len UInt8 y3.2.1))))
 (some true)) (fun(y3:Bool)=>aj y3
 (some (Sum.inr ((1:Nat),((false,(y1.1.2.1,())),())):(bw)⊕(bQ)))
 (some (Sum.inl ((y1.1.1,(aL IntKind.i64 y1.1.2.1 (1:Int),())),()):(bw)⊕(bQ))))))
 (some (Sum.inr ((0:Nat),((y1.1.1,(y1.1.2.1,())),())):(bw)⊕(bQ)))
def yX(x:(List aU)×Unit):Option (Bool×Unit) :=
 ah (Loop (sM x) ((false,((0:Int),())),())) (fun(y1:Nat×fy×Unit)=>aj (fT y1.1 (0:Nat))
 (some (cX (@len aU x.1) (40:Int),()))
 (some (y1.2.1.1,())))
def sN(x:kR×Unit)(y1:fy×Unit):Option (bw⊕bQ) :=
 aj (aj (bB y1.1.2.1 (@len Sb x.1.2.2.2.1))
 (bB y1.1.2.1 (12:Int))
 false)
 (ah (@idx Sb x.1.2.2.2.1 y1.1.2.1) (fun(y2:List (UInt8))=>aj (bB (8192:Int) (@len UInt8 y2))
 (some (Sum.inr ((1:Nat),((false,(y1.1.2.1,())),())):(bw)⊕(bQ)))
 (some (Sum.inl ((y1.1.1,(aL IntKind.i64 y1.1.2.1 (1:Int),())),()):(bw)⊕(bQ)))))
 (some (Sum.inr ((0:Nat),((y1.1.1,(y1.1.2.1,())),())):(bw)⊕(bQ)))
def yY(x:kR×Unit):Option (Bool×Unit) :=
 ah (Loop (sN x) ((false,((0:Int),())),())) (fun(y1:Nat×fy×Unit)=>aj (fT y1.1 (0:Nat))
 (ah (rK (((0:Int),(x.1.2.2.1,(x.1.2.1,(x.1.1,())))),())) (fun(y2:Bool×Unit)=>ah (aj y2.1
 (ah (yX (x.1.2.2.1,())) (fun(y3:Bool×Unit)=>some y3.1))
 (some false)) (fun(y3:Bool)=>some (aj (aj (aj y3
 (cX (@len aU x.1.2.2.1) (12:Int))
 false)
 (cX (@len Sb x.1.2.2.2.1) (12:Int))
 false)
 (cX (@len ji x.1.2.2.2.2.1) (40:Int))
 false,()))))
 (some (y1.2.1.1,())))
def gE(x:Sb×Unit):Option (Bool×Unit) :=
 ah (qk (x.1,())) (fun(y1:Sb×Bool×Unit)=>some (aj y1.2.1
 (bI (@len UInt8 x.1) (6:Int))
 false,()))
def qq(x:aU×Unit):Option (Bool×Unit) :=
 ah (gE (x.1.1,())) (fun(y1:Bool×Unit)=>ah (aj y1.1
 (ah (aj (nt (cc x.1.2.1 ([]:List (UInt8))))
 (ah (gE (x.1.2.1,())) (fun(y2:Bool×Unit)=>some (aj y2.1
 (nt (cc x.1.2.1 x.1.1))
 false)))
 (some true)) (fun(y2:Bool)=>some y2))
 (some false)) (fun(y2:Bool)=>ah (aj y2
 (ah (mZ (x.1.2.2.1,())) (fun(y3:Bool×Unit)=>some y3.1))
 (some false)) (fun(y3:Bool)=>ah (aj y3
 (ah (uC (x.1.2.2.2.1,())) (fun(y4:Int×Unit)=>some (bI y4.1 (0:Int))))
 (some false)) (fun(y4:Bool)=>some (aj (aj (aj (aj y4
 (cX (0:Int) x.1.2.2.2.2.1)
 false)
 (cX x.1.2.2.2.2.1 (8192:Int))
 false)
 (cX (0:Int) x.1.2.2.2.2.2.1)
 false)
 (cX x.1.2.2.2.2.2.1 (32:Int))
 false,())))))
def qs(x:dN×Unit):Option (Bool×Unit) :=
 ah (gE (x.1.1,())) (fun(y1:Bool×Unit)=>ah (aj y1.1
 (ah (mZ (x.1.2.1,())) (fun(y2:Bool×Unit)=>some y2.1))
 (some false)) (fun(y2:Bool)=>ah (aj y2
 (ah (aj (nt (cc x.1.2.2.1 ([]:List (UInt8))))
 (ah (gE (x.1.2.2.1,())) (fun(y3:Bool×Unit)=>some y3.1))
 (some true)) (fun(y3:Bool)=>some y3))
 (some false)) (fun(y3:Bool)=>ah (aj (aj y3
 (cX (@len UInt8 x.1.2.2.2.1) (64:Int))
 false)
 (ah (ni (x.1.2.2.2.2.1,())) (fun(y4:Bool×Unit)=>some y4.1))
 (some false)) (fun(y4:Bool)=>some (y4,())))))
def vz(x:eD×Unit):Option (Bool×Unit) :=
 ah (gE (x.1.1,())) (fun(y1:Bool×Unit)=>ah (aj y1.1
 (ah (mZ (x.1.2.1,())) (fun(y2:Bool×Unit)=>some y2.1))
 (some false)) (fun(y2:Bool)=>ah (aj y2
 (ah (aj (nt (cc x.1.2.2.1 ([]:List (UInt8))))
 (ah (gE (x.1.2.2.1,())) (fun(y3:Bool×Unit)=>some y3.1))
 (some true)) (fun(y3:Bool)=>some y3))
 (some false)) (fun(y3:Bool)=>ah (aj y3
 (ah (gE (x.1.2.2.2.1,())) (fun(y4:Bool×Unit)=>some y4.1))
 (some false)) (fun(y4:Bool)=>ah (aj (aj y4
 (cX (@len UInt8 x.1.2.2.2.2.1) (64:Int))
 false)
 (ah (ni (x.1.2.2.2.2.2.1,())) (fun(y5:Bool×Unit)=>some y5.1))
 (some false)) (fun(y5:Bool)=>some (y5,()))))))
def JB(x:vw×Unit)(y1:(Unit×Unit×Int×Unit)×(List Sb)×(List Sb)×Unit):Option (mb⊕mb) :=
 @eP mb (aj (bB y1.1.2.2.1 (@len aU x.1.2.1))
 (ah (@idx aU x.1.2.1 y1.1.2.2.1) (fun(y2:Sb×Sb×(List Sb)×Sb×Int×Int×Bool×Unit)=>aj (fits (plus (@len Sb y1.2.2.1) (@len Sb ([y2.1]:List Sb))))
 (ah (@idx aU x.1.2.1 y1.1.2.2.1) (fun(y3:Sb×Sb×(List Sb)×Sb×Int×Int×Bool×Unit)=>aj (fits (plus (@len Sb y1.2.1) (@len Sb y3.2.2.1)))
 (some (Sum.inl (((),((),(aL IntKind.i64 y1.1.2.2.1 (1:Int),()))),(@app Sb y1.2.1 y3.2.2.1,(@app Sb y1.2.2.1 ([y2.1]:List Sb),()))):(mb)⊕AR))
 none))
 none))
 (some (Sum.inr ((0:Nat),(((),((),(y1.1.2.2.1,()))),(y1.2.1,(y1.2.2.1,())))):(mb)⊕AR)))
def JC(x:vw×Unit)(y2:(Unit×Unit×Int×Unit)×(List Sb)×(List Sb)×Unit):Option (mb⊕mb) :=
 @eP mb (aj (bB y2.1.2.2.1 (@len dN x.1.2.2.1))
 (ah (@idx dN x.1.2.2.1 y2.1.2.2.1) (fun(y3:Sb×(List Sb)×Sb×Sb×mc×Unit)=>aj (fits (plus (@len Sb y2.2.2.1) (@len Sb ([y3.1]:List Sb))))
 (ah (@idx dN x.1.2.2.1 y2.1.2.2.1) (fun(y4:Sb×(List Sb)×Sb×Sb×mc×Unit)=>aj (fits (plus (@len Sb y2.2.1) (@len Sb y4.2.1)))
 (some (Sum.inl (((),((),(aL IntKind.i64 y2.1.2.2.1 (1:Int),()))),(@app Sb y2.2.1 y4.2.1,(@app Sb y2.2.2.1 ([y3.1]:List Sb),()))):(mb)⊕AR))
 none))
 none))
 (some (Sum.inr ((0:Nat),(((),((),(y2.1.2.2.1,()))),(y2.2.1,(y2.2.2.1,())))):(mb)⊕AR)))
def JD(x:vw×Unit)(y3:(Unit×Unit×Int×Unit)×(List Sb)×(List Sb)×Unit):Option (mb⊕mb) :=
 @eP mb (aj (bB y3.1.2.2.1 (@len eD x.1.2.2.2.1))
 (ah (@idx eD x.1.2.2.2.1 y3.1.2.2.1) (fun(y4:Sb×(List Sb)×Sb×Sb×Sb×mc×Unit)=>aj (fits (plus (@len Sb y3.2.2.1) (@len Sb ([y4.1]:List Sb))))
 (ah (@idx eD x.1.2.2.2.1 y3.1.2.2.1) (fun(y5:Sb×(List Sb)×Sb×Sb×Sb×mc×Unit)=>aj (fits (plus (@len Sb y3.2.1) (@len Sb y5.2.1)))
 (some (Sum.inl (((),((),(aL IntKind.i64 y3.1.2.2.1 (1:Int),()))),(@app Sb y3.2.1 y5.2.1,(@app Sb y3.2.2.1 ([y4.1]:List Sb),()))):(mb)⊕AR))
 none))
 none))
 (some (Sum.inr ((0:Nat),(((),((),(y3.1.2.2.1,()))),(y3.2.1,(y3.2.2.1,())))):(mb)⊕AR)))
def uQ(x:vw×Unit):Option ((List Sb)×(List Sb)×Unit) :=
 ah (Loop (JB x) (((),((),((0:Int),()))),(([]:List Sb),(([]:List Sb),())))) (fun(y1:(Unit×Unit×Int×Unit)×(List Sb)×(List Sb)×Unit)=>ah (Loop (JC x) (((),((),((0:Int),()))),(y1.2.1,(y1.2.2.1,())))) (fun(y2:(Unit×Unit×Int×Unit)×(List Sb)×(List Sb)×Unit)=>ah (Loop (JD x) (((),((),((0:Int),()))),(y2.2.1,(y2.2.2.1,())))) (fun(y3:(Unit×Unit×Int×Unit)×(List Sb)×(List Sb)×Unit)=>some (y3.2.2.1,(y3.2.1,())))))
def pQ(x:Int×vw×Unit)(y6:(Int×Int×Unit)×Unit):Option (ck⊕cN) :=
 aj (bB y6.1.2.1 (@len aU x.2.1.2.1))
 (ah (@idx aU x.2.1.2.1 y6.1.2.1) (fun(y7:Sb×Sb×(List Sb)×Sb×Int×Int×Bool×Unit)=>ah (qq (y7,())) (fun(y8:Bool×Unit)=>aj (nt y8.1)
 (some (Sum.inr ((1:Nat),(((1:Int),(y6.1.2.1,())),())):(ck)⊕(cN)))
 (some (Sum.inl ((y6.1.1,(aL IntKind.i64 y6.1.2.1 (1:Int),())),()):(ck)⊕(cN))))))
 (some (Sum.inr ((0:Nat),((y6.1.1,(y6.1.2.1,())),())):(ck)⊕(cN)))
def pR(x:Int×vw×Unit)(y7:(Int×Int×Unit)×Unit):Option (ck⊕cN) :=
 aj (bB y7.1.2.1 (@len dN x.2.1.2.2.1))
 (ah (@idx dN x.2.1.2.2.1 y7.1.2.1) (fun(y8:Sb×(List Sb)×Sb×Sb×mc×Unit)=>ah (qs (y8,())) (fun(y9:Bool×Unit)=>aj (nt y9.1)
 (some (Sum.inr ((1:Nat),(((1:Int),(y7.1.2.1,())),())):(ck)⊕(cN)))
 (some (Sum.inl ((y7.1.1,(aL IntKind.i64 y7.1.2.1 (1:Int),())),()):(ck)⊕(cN))))))
 (some (Sum.inr ((0:Nat),((y7.1.1,(y7.1.2.1,())),())):(ck)⊕(cN)))
def pS(x:Int×vw×Unit)(y8:(Int×Int×Unit)×Unit):Option (ck⊕cN) :=
 aj (bB y8.1.2.1 (@len eD x.2.1.2.2.2.1))
 (ah (@idx eD x.2.1.2.2.2.1 y8.1.2.1) (fun(y9:Sb×(List Sb)×Sb×Sb×Sb×mc×Unit)=>ah (vz (y9,())) (fun(Ai:Bool×Unit)=>aj (nt Ai.1)
 (some (Sum.inr ((1:Nat),(((1:Int),(y8.1.2.1,())),())):(ck)⊕(cN)))
 (some (Sum.inl ((y8.1.1,(aL IntKind.i64 y8.1.2.1 (1:Int),())),()):(ck)⊕(cN))))))
 (some (Sum.inr ((0:Nat),((y8.1.1,(y8.1.2.1,())),())):(ck)⊕(cN)))
def iV(y9:(List Sb)×(List Sb)×Unit)(Ai:(Int×Int×Unit)×Unit):Option (ck⊕cN) :=
 aj (bB Ai.1.2.1 (@len Sb y9.1))
 (ah (@idx Sb y9.1 (ef IntKind.i64 Ai.1.2.1 (1:Int))) (fun(qB:List (UInt8))=>ah (@idx Sb y9.1 Ai.1.2.1) (fun(iK:List (UInt8))=>aj (nt (jy qB iK))
 (some (Sum.inr ((1:Nat),(((1:Int),(Ai.1.2.1,())),())):(ck)⊕(cN)))
 (some (Sum.inl ((Ai.1.1,(aL IntKind.i64 Ai.1.2.1 (1:Int),())),()):(ck)⊕(cN))))))
 (some (Sum.inr ((0:Nat),((Ai.1.1,(Ai.1.2.1,())),())):(ck)⊕(cN)))
def iW(y9:(List Sb)×(List Sb)×Unit)(qB:(Int×Int×Unit)×Unit)(iK:(Int×Int×Unit)×Unit):Option (ck⊕cN) :=
 aj (bB iK.1.2.1 qB.1.2.1)
 (ah (@idx Sb y9.2.1 iK.1.2.1) (fun(gq:List (UInt8))=>ah (@idx Sb y9.2.1 qB.1.2.1) (fun(Aj:List (UInt8))=>aj (cc gq Aj)
 (some (Sum.inr ((1:Nat),(((1:Int),(iK.1.2.1,())),())):(ck)⊕(cN)))
 (some (Sum.inl ((iK.1.1,(aL IntKind.i64 iK.1.2.1 (1:Int),())),()):(ck)⊕(cN))))))
 (some (Sum.inr ((0:Nat),((iK.1.1,(iK.1.2.1,())),())):(ck)⊕(cN)))
def iX(y9:(List Sb)×(List Sb)×Unit)(qB:(Int×Int×Unit)×Unit):Option (ck⊕cN) :=
 aj (bB qB.1.2.1 (@len Sb y9.2.1))
 (ah (Loop (iW y9 qB) ((qB.1.1,((0:Int),())),())) (fun(iK:Nat×(Int×Int×Unit)×Unit)=>aj (fT iK.1 (0:Nat))
 (some (Sum.inl ((iK.2.1.1,(aL IntKind.i64 qB.1.2.1 (1:Int),())),()):(ck)⊕(cN)))
 (some (Sum.inr ((1:Nat),((iK.2.1.1,(qB.1.2.1,())),())):(ck)⊕(cN)))))
 (some (Sum.inr ((0:Nat),((qB.1.1,(qB.1.2.1,())),())):(ck)⊕(cN)))
def nj(x:Int×vw×Unit):Option (Int×Unit) :=
 aj (bB x.1 (1:Int))
 (some ((1:Int),()))
 (aj (bB (3:Int) x.1)
 (some ((1:Int),()))
 (aj (bB x.2.1.1 (0:Int))
 (some ((1:Int),()))
 (aj (bB (9007199254740992:Int) x.2.1.1)
 (some ((1:Int),()))
 (aj (within x.1 (4:Int))
 (ah (@idx Int ([(0:Int),@len eD x.2.1.2.2.2.1,@len dN x.2.1.2.2.1,@len aU x.2.1.2.1]:List (Int)) x.1) (fun(y1:Int)=>aj (bB (32:Int) y1)
 (some ((1:Int),()))
 (aj (within (1:Int) (4:Int))
 (ah (@idx Int ([(0:Int),@len eD x.2.1.2.2.2.1,@len dN x.2.1.2.2.1,@len aU x.2.1.2.1]:List (Int)) (1:Int)) (fun(y2:Int)=>aj (within (2:Int) (4:Int))
 (ah (@idx Int ([(0:Int),@len eD x.2.1.2.2.2.1,@len dN x.2.1.2.2.1,@len aU x.2.1.2.1]:List (Int)) (2:Int)) (fun(y3:Int)=>aj (within (3:Int) (4:Int))
 (ah (@idx Int ([(0:Int),@len eD x.2.1.2.2.2.1,@len dN x.2.1.2.2.1,@len aU x.2.1.2.1]:List (Int)) (3:Int)) (fun(y4:Int)=>aj (within x.1 (4:Int))
 (ah (@idx Int ([(0:Int),@len eD x.2.1.2.2.2.1,@len dN x.2.1.2.2.1,@len aU x.2.1.2.1]:List (Int)) x.1) (fun(y5:Int)=>aj (nt (bI (aL IntKind.i64 (aL IntKind.i64 y2 y3) y4) y5))
 (some ((1:Int),()))
 (ah (Loop (pQ x) (((0:Int),((0:Int),())),())) (fun(y6:Nat×(Int×Int×Unit)×Unit)=>aj (fT y6.1 (0:Nat))
 (ah (Loop (pR x) ((y6.2.1.1,((0:Int),())),())) (fun(y7:Nat×(Int×Int×Unit)×Unit)=>aj (fT y7.1 (0:Nat))
 (ah (Loop (pS x) ((y7.2.1.1,((0:Int),())),())) (fun(y8:Nat×(Int×Int×Unit)×Unit)=>aj (fT y8.1 (0:Nat))
 (ah (uQ (x.2.1,())) (fun(y9:(List Sb)×(List Sb)×Unit)=>ah (Loop (iV y9) ((y8.2.1.1,((1:Int),())),())) (fun(Ai:Nat×(Int×Int×Unit)×Unit)=>aj (fT Ai.1 (0:Nat))
 (ah (Loop (iX y9) ((Ai.2.1.1,((0:Int),())),())) (fun(qB:Nat×(Int×Int×Unit)×Unit)=>aj (fT qB.1 (0:Nat))
 (some ((0:Int),()))
 (some (qB.2.1.1,()))))
 (some (Ai.2.1.1,())))))
 (some (y8.2.1.1,()))))
 (some (y7.2.1.1,()))))
 (some (y6.2.1.1,()))))))
 none))
 none))
 none))
 none)))
 none))))
def LA(x:(List aU)×Sb×Unit)(y1:(Int×Int×Unit)×Unit):Option (ck⊕cN) :=
 aj (bB y1.1.2.1 (@len aU x.1))
 (ah (@idx aU x.1 y1.1.2.1) (fun(y2:Sb×Sb×(List Sb)×Sb×Int×Int×Bool×Unit)=>aj (cc y2.1 x.2.1)
 (some (Sum.inr ((1:Nat),((y1.1.2.1,(y1.1.2.1,())),())):(ck)⊕(cN)))
 (some (Sum.inl ((y1.1.1,(aL IntKind.i64 y1.1.2.1 (1:Int),())),()):(ck)⊕(cN)))))
 (some (Sum.inr ((0:Nat),((y1.1.1,(y1.1.2.1,())),())):(ck)⊕(cN)))
def BB(x:(List aU)×Sb×Unit):Option (Int×Unit) :=
 ah (Loop (LA x) (((0:Int),((0:Int),())),())) (fun(y1:Nat×(Int×Int×Unit)×Unit)=>aj (fT y1.1 (0:Nat))
 (some ((-1:Int),()))
 (some (y1.2.1.1,())))
def lF(x:(List aU)×Sb×Unit)(y1:jZ×(List aU)×Unit):Option ((jZ×(List aU)×Unit)⊕(Nat×jZ×(List aU)×Unit)) :=
 aj (cX y1.1.2.2.2.2.1 (16:Int))
 (ah (BB (x.1,(y1.1.1,()))) (fun(y2:Int×Unit)=>aj (bB y2.1 (0:Int))
 (some (Sum.inr ((1:Nat),((y1.1.1,(([]:List aU),((3:Int),((),(y1.1.2.2.2.2.1,()))))),(y1.2.1,()))):((jZ×(List aU)×Unit))⊕((Nat×jZ×(List aU)×Unit))))
 (aj (bI y1.1.2.2.2.2.1 (16:Int))
 (some (Sum.inr ((1:Nat),((y1.1.1,(([]:List aU),((5:Int),((),(y1.1.2.2.2.2.1,()))))),(y1.2.1,()))):((jZ×(List aU)×Unit))⊕((Nat×jZ×(List aU)×Unit))))
 (ah (@idx aU x.1 y2.1) (fun(y3:Sb×Sb×(List Sb)×Sb×Int×Int×Bool×Unit)=>aj (fits (plus (@len aU y1.2.1) (@len aU ([y3]:List aU))))
 (ah (@idx aU x.1 y2.1) (fun(y4:Sb×Sb×(List Sb)×Sb×Int×Int×Bool×Unit)=>aj (cc y4.2.1 ([]:List (UInt8)))
 (some (Sum.inr ((1:Nat),((y1.1.1,(@app aU y1.2.1 ([y3]:List aU),((0:Int),((),(y1.1.2.2.2.2.1,()))))),(@app aU y1.2.1 ([y3]:List aU),()))):((jZ×(List aU)×Unit))⊕((Nat×jZ×(List aU)×Unit))))
 (ah (@idx aU x.1 y2.1) (fun(y5:Sb×Sb×(List Sb)×Sb×Int×Int×Bool×Unit)=>some (Sum.inl ((y5.2.1,(y1.1.2.1,(y1.1.2.2.1,((),(aL IntKind.i64 y1.1.2.2.2.2.1 (1:Int),()))))),(@app aU y1.2.1 ([y3]:List aU),())):((jZ×(List aU)×Unit))⊕((Nat×jZ×(List aU)×Unit)))))))
 none)))))
 (some (Sum.inr ((0:Nat),((y1.1.1,(y1.1.2.1,(y1.1.2.2.1,((),(y1.1.2.2.2.2.1,()))))),(y1.2.1,()))):((jZ×(List aU)×Unit))⊕((Nat×jZ×(List aU)×Unit))))
def qt(x:(List aU)×Sb×Unit):Option ((List aU)×Int×Unit) :=
 ah (Loop (lF x) ((x.2.1,(([]:List aU),((0:Int),((),((0:Int),()))))),(([]:List aU),()))) (fun(y1:Nat×jZ×(List aU)×Unit)=>aj (fT y1.1 (0:Nat))
 (some (([]:List aU),((5:Int),())))
 (some (y1.2.1.2.1,(y1.2.1.2.2.1,()))))
def pT(x:(List aU)×Unit)(y1:(Int×Int×Unit)×Unit):Option (ck⊕cN) :=
 aj (bB y1.1.2.1 (@len aU x.1))
 (ah (@idx aU x.1 y1.1.2.1) (fun(y2:Sb×Sb×(List Sb)×Sb×Int×Int×Bool×Unit)=>ah (qt (x.1,(y2.1,()))) (fun(y3:(List aU)×Int×Unit)=>aj (nt (bI y3.2.1 (0:Int)))
 (some (Sum.inr ((1:Nat),(((2:Int),(y1.1.2.1,())),())):(ck)⊕(cN)))
 (some (Sum.inl ((y1.1.1,(aL IntKind.i64 y1.1.2.1 (1:Int),())),()):(ck)⊕(cN))))))
 (some (Sum.inr ((0:Nat),((y1.1.1,(y1.1.2.1,())),())):(ck)⊕(cN)))
def uR(x:(List aU)×Unit):Option (Int×Unit) :=
 ah (Loop (pT x) (((0:Int),((0:Int),())),())) (fun(y1:Nat×(Int×Int×Unit)×Unit)=>aj (fT y1.1 (0:Nat))
 (some ((0:Int),()))
 (some (y1.2.1.1,())))
def LB(x:kR×Sb×Unit)(y1:(Int×Int×Unit)×Unit):Option (ck⊕cN) :=
 aj (bB y1.1.2.1 (@len aU x.1.2.2.1))
 (ah (@idx aU x.1.2.2.1 y1.1.2.1) (fun(y2:Sb×Sb×(List Sb)×Sb×Int×Int×Bool×Unit)=>aj (cc y2.1 x.2.1)
 (some (Sum.inr ((1:Nat),((y1.1.2.1,(y1.1.2.1,())),())):(ck)⊕(cN)))
 (some (Sum.inl ((y1.1.1,(aL IntKind.i64 y1.1.2.1 (1:Int),())),()):(ck)⊕(cN)))))
 (some (Sum.inr ((0:Nat),((y1.1.1,(y1.1.2.1,())),())):(ck)⊕(cN)))
def mg(x:kR×Sb×Unit):Option (Int×Unit) :=
 ah (Loop (LB x) (((0:Int),((0:Int),())),())) (fun(y1:Nat×(Int×Int×Unit)×Unit)=>aj (fT y1.1 (0:Nat))
 (some ((-1:Int),()))
 (some (y1.2.1.1,())))
def wN(x:kR×Int×Unit):Option (Sb×Unit) :=
 aj (bB x.2.1 (@len Sb x.1.2.2.2.1))
 (ah (@idx Sb x.1.2.2.2.1 x.2.1) (fun(y1:List (UInt8))=>some (y1,())))
 (some (([]:List (UInt8)),()))
def gK(x:(List Sb)×Unit)(y1:qp×Unit):Option ((qp×Unit)⊕(Nat×qp×Unit)) :=
 aj (bB y1.1.2.2.2.1 (@len Sb x.1))
 (ah (@idx Sb x.1 y1.1.2.2.2.1) (fun(y2:List (UInt8))=>ah (uP (y1.1.2.2.1,(y2,()))) (fun(y3:(List sL)×Int×Unit)=>aj (nt (bI y3.2.1 (0:Int)))
 (some (Sum.inr ((1:Nat),((([]:List sL),(y3.2.1,(y1.1.2.2.1,(y1.1.2.2.2.1,())))),())):((qp×Unit))⊕((Nat×qp×Unit))))
 (some (Sum.inl ((y1.1.1,(y1.1.2.1,(y3.1,(aL IntKind.i64 y1.1.2.2.2.1 (1:Int),())))),()):((qp×Unit))⊕((Nat×qp×Unit)))))))
 (some (Sum.inr ((0:Nat),((y1.1.1,(y1.1.2.1,(y1.1.2.2.1,(y1.1.2.2.2.1,())))),())):((qp×Unit))⊕((Nat×qp×Unit))))
def yZ(x:(List Sb)×Unit):Option ((List sL)×Int×Unit) :=
 ah (Loop (gK x) ((([]:List sL),((0:Int),(([]:List sL),((0:Int),())))),())) (fun(y1:Nat×qp×Unit)=>aj (fT y1.1 (0:Nat))
 (some (y1.2.1.2.2.1,((0:Int),())))
 (some (y1.2.1.1,(y1.2.1.2.1,()))))
def mM(x:kR×Sb×Unit)(y1:(List aU)×Int×Unit)(y2:(Unit×Int×Unit)×(List Sb)×Unit):Option (((Unit×Int×Unit)×(List Sb)×Unit)⊕((Unit×Int×Unit)×(List Sb)×Unit)) :=
 @eP ((Unit×Int×Unit)×(List Sb)×Unit) (aj (cX (0:Int) y2.1.2.1)
 (ah (@idx aU y1.1 y2.1.2.1) (fun(y3:Sb×Sb×(List Sb)×Sb×Int×Int×Bool×Unit)=>ah (mg (x.1,(y3.1,()))) (fun(y4:Int×Unit)=>ah (wN (x.1,(y4.1,()))) (fun(y5:Sb×Unit)=>aj (fits (plus (@len Sb y2.2.1) (@len Sb ([y5.1]:List Sb))))
 (some (Sum.inl (((),(ef IntKind.i64 y2.1.2.1 (1:Int),())),(@app Sb y2.2.1 ([y5.1]:List Sb),())):(((Unit×Int×Unit)×(List Sb)×Unit))⊕((Nat×(Unit×Int×Unit)×(List Sb)×Unit))))
 none))))
 (some (Sum.inr ((0:Nat),(((),(y2.1.2.1,())),(y2.2.1,()))):(((Unit×Int×Unit)×(List Sb)×Unit))⊕((Nat×(Unit×Int×Unit)×(List Sb)×Unit)))))
def wO(x:kR×Sb×Unit):Option ((List sL)×Int×Unit) :=
 ah (qt (x.1.2.2.1,(x.2.1,()))) (fun(y1:(List aU)×Int×Unit)=>aj (nt (bI y1.2.1 (0:Int)))
 (some (([]:List sL),(y1.2.1,())))
 (ah (Loop (mM x y1) (((),(ef IntKind.i64 (@len aU y1.1) (1:Int),())),(([]:List Sb),()))) (fun(y2:(Unit×Int×Unit)×(List Sb)×Unit)=>ah (yZ (y2.2.1,())) (fun(y3:(List sL)×Int×Unit)=>some (y3.1,(y3.2.1,()))))))
def nM(x:kR×Unit)(y2:fy×Unit):Option (bw⊕bQ) :=
 aj (aj (bB y2.1.2.1 (@len aU x.1.2.2.1))
 (bB y2.1.2.1 (@len Sb x.1.2.2.2.1))
 false)
 (ah (@idx aU x.1.2.2.1 y2.1.2.1) (fun(y3:Sb×Sb×(List Sb)×Sb×Int×Int×Bool×Unit)=>aj (nt y3.2.2.2.2.2.2.1)
 (some (Sum.inr ((1:Nat),((false,(y2.1.2.1,())),())):(bw)⊕(bQ)))
 (aj (nt (bI y3.2.2.2.2.2.1 (0:Int)))
 (some (Sum.inr ((1:Nat),((false,(y2.1.2.1,())),())):(bw)⊕(bQ)))
 (ah (@idx Sb x.1.2.2.2.1 y2.1.2.1) (fun(y4:List (UInt8))=>aj (nt (bI y3.2.2.2.2.1 (@len UInt8 y4)))
 (some (Sum.inr ((1:Nat),((false,(y2.1.2.1,())),())):(bw)⊕(bQ)))
 (ah (@idx Sb x.1.2.2.2.1 y2.1.2.1) (fun(y5:List (UInt8))=>ah (xK (y5,())) (fun(y6:Sb×Unit)=>aj (nt (cc y3.2.2.2.1 y6.1))
 (some (Sum.inr ((1:Nat),((false,(y2.1.2.1,())),())):(bw)⊕(bQ)))
 (ah (@idx Sb x.1.2.2.2.1 y2.1.2.1) (fun(y7:List (UInt8))=>ah (qo (y7,())) (fun(y8:Int×Unit)=>aj (nt (bI y8.1 (0:Int)))
 (some (Sum.inr ((1:Nat),((false,(y2.1.2.1,())),())):(bw)⊕(bQ)))
 (ah (wO (x.1,(y3.1,()))) (fun(y9:(List sL)×Int×Unit)=>aj (nt (bI y9.2.1 (0:Int)))
 (some (Sum.inr ((1:Nat),((false,(y2.1.2.1,())),())):(bw)⊕(bQ)))
 (some (Sum.inl ((y2.1.1,(aL IntKind.i64 y2.1.2.1 (1:Int),())),()):(bw)⊕(bQ))))))))))))))))
 (some (Sum.inr ((0:Nat),((y2.1.1,(y2.1.2.1,())),())):(bw)⊕(bQ)))
def sO(x:kR×Unit):Option (Bool×Unit) :=
 ah (aj (nt (nt (bI (@len Sb x.1.2.2.2.1) (@len aU x.1.2.2.1))))
 (ah (uR (x.1.2.2.1,())) (fun(y1:Int×Unit)=>some (nt (bI y1.1 (0:Int)))))
 (some true)) (fun(y1:Bool)=>aj y1
 (some (false,()))
 (ah (Loop (nM x) ((false,((0:Int),())),())) (fun(y2:Nat×fy×Unit)=>aj (fT y2.1 (0:Nat))
 (some (true,()))
 (some (y2.2.1.1,())))))
def sP(x:kR×Unit)(y5:fy×Unit):Option (bw⊕bQ) :=
 aj (bB y5.1.2.1 (@len dN x.1.2.1))
 (ah (@idx dN x.1.2.1 y5.1.2.1) (fun(y6:Sb×(List Sb)×Sb×Sb×mc×Unit)=>aj (nt (cc y6.2.2.1 ([]:List (UInt8))))
 (ah (@idx dN x.1.2.1 y5.1.2.1) (fun(y7:Sb×(List Sb)×Sb×Sb×mc×Unit)=>ah (mg (x.1,(y7.2.2.1,()))) (fun(y8:Int×Unit)=>aj (bB y8.1 (0:Int))
 (some (Sum.inr ((1:Nat),((false,(y5.1.2.1,())),())):(bw)⊕(bQ)))
 (some (Sum.inl ((y5.1.1,(aL IntKind.i64 y5.1.2.1 (1:Int),())),()):(bw)⊕(bQ))))))
 (some (Sum.inl ((y5.1.1,(aL IntKind.i64 y5.1.2.1 (1:Int),())),()):(bw)⊕(bQ)))))
 (some (Sum.inr ((0:Nat),((y5.1.1,(y5.1.2.1,())),())):(bw)⊕(bQ)))
def oP(x:kR×Unit)(y7:Sb×(List Sb)×Sb×Sb×Sb×mc×Unit)(y8:fy×Unit):Option (bw⊕bw) :=
 @eP bw (aj (bB y8.1.2.1 (@len dN x.1.2.1))
 (aj y8.1.1
 (some (Sum.inl ((true,(aL IntKind.i64 y8.1.2.1 (1:Int),())),()):(bw)⊕(bQ)))
 (ah (@idx dN x.1.2.1 y8.1.2.1) (fun(y9:Sb×(List Sb)×Sb×Sb×mc×Unit)=>some (Sum.inl ((cc y9.1 y7.2.2.1,(aL IntKind.i64 y8.1.2.1 (1:Int),())),()):(bw)⊕(bQ)))))
 (some (Sum.inr ((0:Nat),((y8.1.1,(y8.1.2.1,())),())):(bw)⊕(bQ))))
def sQ(x:kR×Unit)(y6:fy×Unit):Option (bw⊕bQ) :=
 aj (bB y6.1.2.1 (@len eD x.1.1))
 (ah (@idx eD x.1.1 y6.1.2.1) (fun(y7:Sb×(List Sb)×Sb×Sb×Sb×mc×Unit)=>ah (Loop (oP x y7) ((cc y7.2.2.1 ([]:List (UInt8)),((0:Int),())),())) (fun(y8:fy×Unit)=>ah (aj (nt (nt y8.1.1))
 (ah (mg (x.1,(y7.2.2.2.1,()))) (fun(y9:Int×Unit)=>some (bB y9.1 (0:Int))))
 (some true)) (fun(y9:Bool)=>aj y9
 (some (Sum.inr ((1:Nat),((false,(y6.1.2.1,())),())):(bw)⊕(bQ)))
 (some (Sum.inl ((y6.1.1,(aL IntKind.i64 y6.1.2.1 (1:Int),())),()):(bw)⊕(bQ)))))))
 (some (Sum.inr ((0:Nat),((y6.1.1,(y6.1.2.1,())),())):(bw)⊕(bQ)))
def sR(x:kR×Unit)(y7:fy×Unit):Option (bw⊕bQ) :=
 aj (bB y7.1.2.1 (@len ji x.1.2.2.2.2.1))
 (ah (@idx ji x.1.2.2.2.2.1 y7.1.2.1) (fun(y8:Sb×Int×Unit)=>ah (mg (x.1,(y8.1,()))) (fun(y9:Int×Unit)=>aj (bB y9.1 (0:Int))
 (some (Sum.inr ((1:Nat),((false,(y7.1.2.1,())),())):(bw)⊕(bQ)))
 (aj (bB y8.2.1 (1:Int))
 (some (Sum.inr ((1:Nat),((false,(y7.1.2.1,())),())):(bw)⊕(bQ)))
 (aj (bB (1000:Int) y8.2.1)
 (some (Sum.inr ((1:Nat),((false,(y7.1.2.1,())),())):(bw)⊕(bQ)))
 (aj (bB (0:Int) y7.1.2.1)
 (ah (@idx ji x.1.2.2.2.2.1 (ef IntKind.i64 y7.1.2.1 (1:Int))) (fun(Ai:Sb×Int×Unit)=>aj (nt (jy Ai.1 y8.1))
 (some (Sum.inr ((1:Nat),((false,(y7.1.2.1,())),())):(bw)⊕(bQ)))
 (some (Sum.inl ((y7.1.1,(aL IntKind.i64 y7.1.2.1 (1:Int),())),()):(bw)⊕(bQ)))))
 (some (Sum.inl ((y7.1.1,(aL IntKind.i64 y7.1.2.1 (1:Int),())),()):(bw)⊕(bQ)))))))))
 (some (Sum.inr ((0:Nat),((y7.1.1,(y7.1.2.1,())),())):(bw)⊕(bQ)))
def j7(x:kR×Unit):Option (Bool×Unit) :=
 ah (nj ((1:Int),(((0:Int),(([]:List aU),(([]:List dN),(x.1.1,())))),()))) (fun(y1:Int×Unit)=>ah (aj (nt (nt (bI y1.1 (0:Int))))
 (ah (nj ((2:Int),(((0:Int),(([]:List aU),(x.1.2.1,(([]:List eD),())))),()))) (fun(y2:Int×Unit)=>some (nt (bI y2.1 (0:Int)))))
 (some true)) (fun(y2:Bool)=>ah (aj (nt y2)
 (ah (nj ((3:Int),(((0:Int),(x.1.2.2.1,(([]:List dN),(([]:List eD),())))),()))) (fun(y3:Int×Unit)=>some (nt (bI y3.1 (0:Int)))))
 (some true)) (fun(y3:Bool)=>ah (aj (nt y3)
 (ah (sO (x.1,())) (fun(y4:Bool×Unit)=>some (nt y4.1)))
 (some true)) (fun(y4:Bool)=>aj (aj (nt y4)
 (bB (32:Int) (@len ji x.1.2.2.2.2.1))
 true)
 (some (false,()))
 (ah (Loop (sP x) ((false,((0:Int),())),())) (fun(y5:Nat×fy×Unit)=>aj (fT y5.1 (0:Nat))
 (ah (Loop (sQ x) ((y5.2.1.1,((0:Int),())),())) (fun(y6:Nat×fy×Unit)=>aj (fT y6.1 (0:Nat))
 (ah (Loop (sR x) ((y6.2.1.1,((0:Int),())),())) (fun(y7:Nat×fy×Unit)=>aj (fT y7.1 (0:Nat))
 (some (true,()))
 (some (y7.2.1.1,()))))
 (some (y6.2.1.1,()))))
 (some (y5.2.1.1,()))))))))
def j8(x:(List eD)×(List eD)×Unit)(y1:fy×Unit):Option (bw⊕bQ) :=
 aj (aj (bB y1.1.2.1 (@len eD x.1))
 (bB y1.1.2.1 (@len eD x.2.1))
 false)
 (ah (@idx eD x.1 y1.1.2.1) (fun(y2:Sb×(List Sb)×Sb×Sb×Sb×mc×Unit)=>ah (@idx eD x.2.1 y1.1.2.1) (fun(y3:Sb×(List Sb)×Sb×Sb×Sb×mc×Unit)=>ah (aj (nt (nt (cc y2.1 y3.1)))
 (ah (eM (y2.2.1,(y3.2.1,()))) (fun(y4:Bool×Unit)=>some (nt y4.1)))
 (some true)) (fun(y4:Bool)=>ah (aj (nt (aj (nt (aj (nt (aj (nt y4)
 (nt (cc y2.2.2.1 y3.2.2.1))
 true))
 (nt (cc y2.2.2.2.1 y3.2.2.2.1))
 true))
 (nt (cc y2.2.2.2.2.1 y3.2.2.2.2.1))
 true))
 (ah (gT (y2.2.2.2.2.2.1,(y3.2.2.2.2.2.1,()))) (fun(y5:Bool×Unit)=>some (nt y5.1)))
 (some true)) (fun(y5:Bool)=>aj y5
 (some (Sum.inr ((1:Nat),((false,(y1.1.2.1,())),())):(bw)⊕(bQ)))
 (some (Sum.inl ((y1.1.1,(aL IntKind.i64 y1.1.2.1 (1:Int),())),()):(bw)⊕(bQ))))))))
 (some (Sum.inr ((0:Nat),((y1.1.1,(y1.1.2.1,())),())):(bw)⊕(bQ)))
def nN(x:(List eD)×(List eD)×Unit):Option (Bool×Unit) :=
 aj (nt (bI (@len eD x.1) (@len eD x.2.1)))
 (some (false,()))
 (ah (Loop (j8 x) ((false,((0:Int),())),())) (fun(y1:Nat×fy×Unit)=>aj (fT y1.1 (0:Nat))
 (some (true,()))
 (some (y1.2.1.1,()))))
def jv(x:(List dN)×(List dN)×Unit)(y1:fy×Unit):Option (bw⊕bQ) :=
 aj (aj (bB y1.1.2.1 (@len dN x.1))
 (bB y1.1.2.1 (@len dN x.2.1))
 false)
 (ah (@idx dN x.1 y1.1.2.1) (fun(y2:Sb×(List Sb)×Sb×Sb×mc×Unit)=>ah (@idx dN x.2.1 y1.1.2.1) (fun(y3:Sb×(List Sb)×Sb×Sb×mc×Unit)=>ah (aj (nt (nt (cc y2.1 y3.1)))
 (ah (eM (y2.2.1,(y3.2.1,()))) (fun(y4:Bool×Unit)=>some (nt y4.1)))
 (some true)) (fun(y4:Bool)=>ah (aj (nt (aj (nt (aj (nt y4)
 (nt (cc y2.2.2.1 y3.2.2.1))
 true))
 (nt (cc y2.2.2.2.1 y3.2.2.2.1))
 true))
 (ah (gT (y2.2.2.2.2.1,(y3.2.2.2.2.1,()))) (fun(y5:Bool×Unit)=>some (nt y5.1)))
 (some true)) (fun(y5:Bool)=>aj y5
 (some (Sum.inr ((1:Nat),((false,(y1.1.2.1,())),())):(bw)⊕(bQ)))
 (some (Sum.inl ((y1.1.1,(aL IntKind.i64 y1.1.2.1 (1:Int),())),()):(bw)⊕(bQ))))))))
 (some (Sum.inr ((0:Nat),((y1.1.1,(y1.1.2.1,())),())):(bw)⊕(bQ)))
def mh(x:(List dN)×(List dN)×Unit):Option (Bool×Unit) :=
 aj (nt (bI (@len dN x.1) (@len dN x.2.1)))
 (some (false,()))
 (ah (Loop (jv x) ((false,((0:Int),())),())) (fun(y1:Nat×fy×Unit)=>aj (fT y1.1 (0:Nat))
 (some (true,()))
 (some (y1.2.1.1,()))))
def jw(x:(List aU)×(List aU)×Unit)(y1:fy×Unit):Option (bw⊕bQ) :=
 aj (aj (bB y1.1.2.1 (@len aU x.1))
 (bB y1.1.2.1 (@len aU x.2.1))
 false)
 (ah (@idx aU x.1 y1.1.2.1) (fun(y2:Sb×Sb×(List Sb)×Sb×Int×Int×Bool×Unit)=>ah (@idx aU x.2.1 y1.1.2.1) (fun(y3:Sb×Sb×(List Sb)×Sb×Int×Int×Bool×Unit)=>ah (aj (nt (aj (nt (nt (cc y2.1 y3.1)))
 (nt (cc y2.2.1 y3.2.1))
 true))
 (ah (eM (y2.2.2.1,(y3.2.2.1,()))) (fun(y4:Bool×Unit)=>some (nt y4.1)))
 (some true)) (fun(y4:Bool)=>aj (aj (nt (aj (nt (aj (nt (aj (nt y4)
 (nt (cc y2.2.2.2.1 y3.2.2.2.1))
 true))
 (nt (bI y2.2.2.2.2.1 y3.2.2.2.2.1))
 true))
 (nt (bI y2.2.2.2.2.2.1 y3.2.2.2.2.2.1))
 true))
 (nt (eqB y2.2.2.2.2.2.2.1 y3.2.2.2.2.2.2.1))
 true)
 (some (Sum.inr ((1:Nat),((false,(y1.1.2.1,())),())):(bw)⊕(bQ)))
 (some (Sum.inl ((y1.1.1,(aL IntKind.i64 y1.1.2.1 (1:Int),())),()):(bw)⊕(bQ)))))))
 (some (Sum.inr ((0:Nat),((y1.1.1,(y1.1.2.1,())),())):(bw)⊕(bQ)))
def mj(x:(List aU)×(List aU)×Unit):Option (Bool×Unit) :=
 aj (nt (bI (@len aU x.1) (@len aU x.2.1)))
 (some (false,()))
 (ah (Loop (jw x) ((false,((0:Int),())),())) (fun(y1:Nat×fy×Unit)=>aj (fT y1.1 (0:Nat))
 (some (true,()))
 (some (y1.2.1.1,()))))
def jx(x:(List ji)×(List ji)×Unit)(y1:fy×Unit):Option (bw⊕bQ) :=
 aj (aj (bB y1.1.2.1 (@len ji x.1))
 (bB y1.1.2.1 (@len ji x.2.1))
 false)
 (ah (@idx ji x.1 y1.1.2.1) (fun(y2:Sb×Int×Unit)=>ah (@idx ji x.2.1 y1.1.2.1) (fun(y3:Sb×Int×Unit)=>aj (nt (an (cc y2.1 y3.1) (an (bI y2.2.1 y3.2.1) true)))
 (some (Sum.inr ((1:Nat),((false,(y1.1.2.1,())),())):(bw)⊕(bQ)))
 (some (Sum.inl ((y1.1.1,(aL IntKind.i64 y1.1.2.1 (1:Int),())),()):(bw)⊕(bQ))))))
 (some (Sum.inr ((0:Nat),((y1.1.1,(y1.1.2.1,())),())):(bw)⊕(bQ)))
def mq(x:(List ji)×(List ji)×Unit):Option (Bool×Unit) :=
 aj (nt (bI (@len ji x.1) (@len ji x.2.1)))
 (some (false,()))
 (ah (Loop (jx x) ((false,((0:Int),())),())) (fun(y1:Nat×fy×Unit)=>aj (fT y1.1 (0:Nat))
 (some (true,()))
 (some (y1.2.1.1,()))))
def fP(x:kR×kR×Unit):Option (Bool×Unit) :=
 ah (nN (x.1.1,(x.2.1.1,()))) (fun(y1:Bool×Unit)=>ah (aj y1.1
 (ah (mh (x.1.2.1,(x.2.1.2.1,()))) (fun(y2:Bool×Unit)=>some y2.1))
 (some false)) (fun(y2:Bool)=>ah (aj y2
 (ah (mj (x.1.2.2.1,(x.2.1.2.2.1,()))) (fun(y3:Bool×Unit)=>some y3.1))
 (some false)) (fun(y3:Bool)=>ah (aj y3
 (ah (eM (x.1.2.2.2.1,(x.2.1.2.2.2.1,()))) (fun(y4:Bool×Unit)=>some y4.1))
 (some false)) (fun(y4:Bool)=>ah (aj y4
 (ah (mq (x.1.2.2.2.2.1,(x.2.1.2.2.2.2.1,()))) (fun(y5:Bool×Unit)=>some y5.1))
 (some false)) (fun(y5:Bool)=>some (y5,()))))))
end Go.Ge
namespace Go.Ge
variable [Lp]
def idN(n:Int):Tx:=tZ (bt [qW .u8 (rU .i64 n 16),qW .u8 (rU .i64 n 8),qW .u8 n])
def idK(d:Int)(k:Nat):Tx:=idN (jz (aL .i64 (jA .i64 d 16777215) (k:Int)) 16777216)
def BC(s:Tx):Prop:=(oG s).isSome=true∧s.length=6
theorem oQ(s:Tx)(hs:s.length≤1048576):∃b,gE (s,())=some (b,())∧(b=true↔BC s):=by
 unfold gE;dsimp only;rw[HL s hs,aa];have e6:bI (@len UInt8 s) (6:Int)=decide (s.length=6):=by unfold bI len;apply decide_eq_decide.2;omega
 refine⟨_,rfl,?_⟩;rw[e6];unfold BC ans;cases oG s with
 | none=>simp[aj]
 | some x=>simp[aj]
theorem P0(n:Int):yV (n,())=some (idN n,()):=by
 unfold yV;rw[show bB (16:Int) 0=false from rfl,af,show bB (8:Int) 0=false from rfl,af,ZN _ (by show 3≤1048576;omega),aa];rfl
theorem aiM(n:Int):BC (idN n):=by
 have h:∀a b c:UInt8,(oG (tZ [a,b,c])).isSome=true∧(tZ [a,b,c]).length=6:=fun a b c=>⟨by rw[Re];rfl,rfl⟩;exact h _ _ _
def HQ(l:List Nm)(d:Int)(k:Nat):Bool:=decide (∀x∈l,x.1≠idK d k)
def eU(l:List Nm)(d:Int):Tx×Int×Unit:=if 32≤l.length then([],(5,())) else
 match(List.range (l.length+1)).find? (HQ l d) with|some k=>(idK d k,(0,()))|none=>([],(5,()))
theorem abl(l:List Nm)(d:Int)(s:Tx)(hl:l.length≤1000000) :
  (∃i:Nat,Loop (gS (l,(d,()))) (((0:Int),((0:Int),())),(s,()))=some (1,(((i:Int),((i:Int),())),(s,())))∧∃x∈l,x.1=s) ∨
  (Loop (gS (l,(d,()))) (((0:Int),((0:Int),())),(s,()))=some (0,(((0:Int),(len l,())),(s,())))∧∀x∈l,x.1≠s):=by
 rcases p8 (f:=gS (l,(d,()))) l (fun i=>(((0:Int),(i,())),(s,()))) (fun _ x=>decide (x.1=s)) (fun i x=>(1,(((i:Int),((i:Int),())),(s,())))) (0,(((0:Int),(len l,())),(s,()))) (by omega) (fun i x hx hi ha=>by
  unfold gS;dsimp only;rw[au hi,ag,aB hx,aa,iB,ha];by_cases h:x.1=s<;>simp[cc,h]) (by unfold gS;dsimp only;rw[aE,af];rfl) with ⟨i,x,hx,hp,hj,h⟩|⟨hn,h⟩
 ·exact .inl ⟨i,h,x,gm hx,ic hp⟩
 ·refine .inr ⟨h,fun x hx he=>?_⟩;obtain⟨i,hi⟩:=bJ.1 hx;have:=hn i x hi;simp[he] at this
theorem Rl(l:List Nm)(d:Int):oK (l,(d,()))=some (eU l d):=by
 unfold oK eU;dsimp only;have e32:cX (32:Int) (len l)=decide (32≤l.length):=by unfold cX len;apply decide_eq_decide.2;omega
 rw[e32];by_cases ZO:32≤l.length
 ·rw[fo ZO,bu ZO];rfl
 rw[dJ ZO,br ZO,af];have Lt:aL .i64 (len l) 1=((l.length+1:Nat):Int):=by rw[fJ (by unfold len;omega) (by unfold len;omega)];unfold len;omega
 have hlen:(List.range (l.length+1)).length=l.length+1:=Y7;have key:∀k:Nat,k<l.length+1→jX (l,(d,())) ((([]:Tx),((0:Int),((k:Int),()))),())=some (if HQ l d k=true then .inr (1,((idK d k,((0:Int),((k:Int),()))),())) else .inl ((([]:Tx),((0:Int),(((k+1:Nat):Int),()))),())):=fun k hk=>by
  have hk1:aL .i64 (k:Int) 1=((k+1:Nat):Int):=aY (by omega);unfold jX;dsimp only;rw[Lt,aT (by omega),ag,show bI (16777216:Int) 0=false from rfl,af,P0,aa,hk1];dsimp only;show ah (Loop _ (((0:Int),((0:Int),())),(idK d k,()))) _=_
  rcases abl l d (idK d k) (by omega) with ⟨i,h,x,hx,he⟩|⟨h,hn⟩
  ·rw[h,aa];dsimp only;rw[show fT 1 0=false from rfl,af,cE (by omega),aJ,af,br (by unfold HQ;rw[Ml];exact fun hq=>hq x hx he)]
  ·rw[h,aa];dsimp only;rw[show fT 0 0=true from rfl,ag,show nt (cX (0:Int) (-1))=true from rfl,ag,bu (by unfold HQ;rw[Ml];exact hn)];rfl
 rcases p8 (f:=jX (l,(d,()))) (List.range (l.length+1)) (fun k=>((([]:Tx),((0:Int),(k,()))),())) (fun k _=>HQ l d k) (fun k _=>(1,((idK d k,((0:Int),((k:Int),()))),()))) (0,((([]:Tx),((0:Int),(((l.length+1:Nat):Int),()))),())) (by rw[hlen];omega)
  (fun k x hx hi ha=>key k (by rw[hlen] at hi;exact hi)) (by
   unfold jX;dsimp only;rw[Lt,hlen,aH (by omega),af]) with ⟨k,x,hx,hp,hj,h⟩|⟨hn,h⟩
 ·have hk:=aI hx;rw[hlen] at hk;rw[h,aa];have hf:(List.range (l.length+1)).find? (HQ l d)=some k:=by
   rw[ahk];refine⟨hp,k,by rw[hlen];exact hk,by simp,fun j hjk=>?_⟩;have:=hj j j hjk (by rw[QC (by omega)]);simpa using this
  rw[hf];rfl
 ·rw[h,aa];have hf:(List.range (l.length+1)).find? (HQ l d)=none:=by
   rw[acM];intro k hk;have hk:=List.mem_range.1 hk;have:=hn k k (by rw[QC hk]);simpa using this
  rw[hf];rfl
theorem NX{l:List Nm}{d:Int}(h:(eU l d).2.1=0):l.length<32∧BC (eU l d).1∧∀x∈l,x.1≠(eU l d).1:=by
 unfold eU at h⊢;by_cases ZO:32≤l.length
 ·rw[bu ZO] at h;cases h
 ·rw[br ZO] at h⊢;cases hf:(List.range (l.length+1)).find? (HQ l d) with
  | none=>rw[hf] at h;cases h
  | some k =>
    have:=Mq hf;unfold HQ at this;exact⟨by omega,aiM _,ic this⟩
end Go.Ge
namespace Go.Ge
variable [Lp]
abbrev It:=Tx×Tx×Tx×Unit
theorem NY(l:List It)(hl:l.length≤100000):gT (l,(l,()))=some (true,()):=by
 unfold gT;dsimp only;rw[aP rfl,aJ,af];rcases p8 (f:=jY (l,(l,()))) l (fun i=>((false,(i,())),())) (fun _ _=>false) (fun i _=>(1,((false,((i:Int),())),()))) (0,((false,((l.length:Int),())),())) (by omega) (fun i x hx hi ha=>by
  unfold jY;dsimp only;rw[au hi,ag,ag,aB hx,aa,aa,gH rfl,gH rfl,gH rfl,ha];rfl) (by unfold jY;dsimp only;rw[aE,af,af]) with ⟨i,x,_,hp,_⟩|⟨hn,h⟩
 ·cases hp
 ·rw[h];rfl
end Go.Ge
namespace Go.Ge
variable [Lp]
abbrev KS:=(Int×Int×Unit)×Unit×Tx×Unit
abbrev PS':=(Int×Int×Unit)×Unit×It×Unit
end Go.Ge
namespace Go.Ge
variable [Lp]
end Go.Ge
namespace Go.Ge
set_option maxRecDepth 100000
end Go.Ge
namespace Go.Ge
variable [Lp]
theorem HR(l:List It):∃b,eB (l,())=some (b,())∧(b=true→l.length≤8∧∀x∈l,x.1.length≤100∧x.2.2.1.length≤200):=by
 unfold eB;rcases tX (f:=eL (l,())) l 8 (fun i=>((false,(i,())),())) (fun _ x=>decide (100<x.1.length)||decide (200<x.2.2.1.length)) (fun i x=>(1,((false,((i:Int),())),()))) (fun m=>(0,((false,((m:Int),())),()))) (by omega) (fun i x hx hi hin ha=>by
  unfold eL;dsimp only;have l1:∀{m:List UInt8},bB 100 (len m)=decide (100<m.length):=fun {m}=>by unfold bB len;apply decide_eq_decide.2;omega
  have l2:∀{m:List UInt8},bB 200 (len m)=decide (200<m.length):=fun {m}=>by unfold bB len;apply decide_eq_decide.2;omega
  rw[au hi,ag,aT (show(i:Int)<8 by omega),ag,aB hx,aa,aa,l1,l2,ha];cases decide (100<x.1.length)<;>cases decide (200<x.2.2.1.length)<;>rfl) (by
  unfold eL;dsimp only;have:aj (bB ((min 8 l.length:Nat):Int) (len l)) (bB ((min 8 l.length:Nat):Int) 8) false=false:=by
   by_cases h:l.length≤8
   ·rw[acT h,aE,af]
   ·rw[vK (by omega),show bB ((8:Nat):Int) 8=false from rfl];cases bB ((8:Nat):Int) (len l)<;>rfl
  rw[this,af]) with ⟨i,x,hi,hx,hp,_,h⟩|⟨hn2,h⟩
 ·rw[h];exact⟨false,rfl,fun h=>(by cases h)⟩
 ·rw[h];refine⟨_,rfl,fun hb=>?_⟩;dsimp only at hb;have h8:l.length≤8:=by
   unfold cX len at hb;simp at hb;omega
  refine⟨h8,fun x hx=>?_⟩;obtain⟨i,hi⟩:=bJ.1 hx;have:=hn2 i x (by have:=aI hi;omega) hi;simp at this;omega
def VL(l:List It):Prop:=l.Pairwise fun x y=>jy x.1 y.1=true
def amD(x:It):Prop:=kO x.1=true∧x.2.2.1.length≤64∧x.2.1=zN x.2.2.1
def OkI(l:List It):Prop:=l.length≤4∧VL l∧∀x∈l,amD x
theorem NZ{l:List It}:VL l↔∀(i:Nat) (x y:It),l[i]?=some x→l[i+1]?=some y→jy x.1 y.1=true:=by
 constructor
 ·intro h i x y hx hy;unfold VL at h;rw[aaj] at h;obtain⟨hi,ex⟩:=List.getElem?_eq_some_iff.1 hx;obtain⟨hj,ey⟩:=List.getElem?_eq_some_iff.1 hy;have:=h i (i+1) hi hj (by omega);rw[ex,ey] at this;exact this
 ·intro h;have key:∀(d i:Nat) (x y:It),l[i]?=some x→l[i+d+1]?=some y→jy x.1 y.1=true:=by
   intro d;induction d with
   | zero=>intro i x y hx hy;exact h i x y hx hy
   | succ d ih =>
     intro i x y hx hy;have hlt:=aI hy;have hz:l[i+d+1]?=some l[i+d+1]:=kL (by omega);exact Em (ih i x _ hx hz) (h (i+d+1) _ y hz (by rw[show i+d+1+1=i+(d+1)+1 by omega];exact hy))
  unfold VL;rw[aaj];intro i j hi hj hij;obtain⟨d,rfl⟩:∃d,j=i+d+1:=⟨j-i-1,by omega⟩;exact key d i _ _ (kL hi) (kL hj)
def HS(l:List It)(i:Nat)(x:It):Bool:=match i with|0=>false|k+1=>match l[k]? with|some y=>!jy y.1 x.1|none=>false
theorem BD{l:List It}{k:Nat}{x y:It}(hy:l[k]?=some y):HS l (k+1) x=!jy y.1 x.1:=by
 unfold HS;simp only[hy]
def JE(l:List It)(i:Nat)(x:It):Bool:=!kO x.1||(decide (64<x.2.2.1.length)||(!decide (x.2.1=zN x.2.2.1)||HS l i x))
theorem abm(l:List It)(hl:l.length≤100000)(hs:∀x∈l,x.1.length≤1000000∧x.2.2.1.length≤1000000):∃b,ni (l,())=some (b,())∧(b=true↔OkI l):=by
 unfold ni;rcases p8 (f:=pL (l,())) l (fun i=>((false,(i,())),())) (fun i x=>JE l i x) (fun i x=>(1,((false,((i:Int),())),()))) (0,((false,((l.length:Int),())),())) (by omega) (fun i x hx hi ha=>by
  have hx1:=hs x (gm hx);have l1:bB 64 (len x.2.2.1)=decide (64<x.2.2.1.length):=by unfold bB len;apply decide_eq_decide.2;omega
  unfold pL;dsimp only;rw[au hi,ag,aB hx,aa,Cj x.1 (by omega),aa,ha];cases hn:kO x.1 with
  | false=>rw[show JE l i x=true by unfold JE;rw[hn];rfl];rfl
  | true =>
    rw[aJ,af,aa,l1];by_cases CC:64<x.2.2.1.length
    ·rw[show JE l i x=true by unfold JE;rw[hn,fo CC];rfl,fo CC];rfl
    ·rw[dJ CC,af,aa,aa,Rg x.2.2.1 (by omega),aa];dsimp only;rw[SU];by_cases hd:x.2.1=zN x.2.2.1
     ·have hb:JE l i x=HS l i x:=by unfold JE;rw[hn,dJ CC,fo hd];rfl
      rw[hb,fo hd,aJ,af];cases i with
      | zero=>rfl
      | succ k =>
        have hy:l[k]?=some l[k]:=kL (by omega);rw[BD hy,aT (by omega),ag,eT (by omega) (by omega),show((k+1:Nat):Int)-1=(k:Int) by omega,aB hy,aa,aa];cases jy l[k].1 x.1<;>rfl
     ·rw[show JE l i x=true by unfold JE;rw[hn,dJ CC,dJ hd];rfl,dJ hd];rfl) (by
  unfold pL;dsimp only;rw[aE,af]) with ⟨i,x,hx,hp,_,h⟩|⟨hn,h⟩
 ·rw[h];refine⟨false,rfl,⟨fun h=>(by cases h),fun⟨_,h2,h3⟩=>?_⟩⟩;obtain⟨o1,o2,o3⟩:=h3 x (gm hx);have hb:JE l i x=HS l i x:=by unfold JE;rw[o1,dJ (show ¬64<x.2.2.1.length by omega),fo o3];rfl
  rw[hb] at hp;cases i with
  | zero=>cases hp
  | succ k =>
    have hi:=aI hx;have hy:l[k]?=some l[k]:=kL (by omega);rw[BD hy,NZ.1 h2 k _ _ hy hx] at hp;cases hp
 ·rw[h];refine⟨_,rfl,?_⟩;dsimp only;have e4:cX (len l) 4=decide (l.length≤4):=by unfold cX len;apply decide_eq_decide.2;omega
  rw[e4,Ml];refine⟨fun h4=>⟨h4,NZ.2 fun i x y hx hy=>?_,fun x hx=>?_⟩,fun h=>h.1⟩
  ·have:=hn (i+1) y hy;unfold JE at this;simp only[BD hx,Al] at this;simpa using this.2.2.2
  ·obtain⟨i,hi⟩:=bJ.1 hx;have:=hn i x hi;unfold JE at this;simp only[Al] at this;exact⟨by simpa using this.1,by have:=this.2.1;simp at this;omega,by simpa using this.2.2.1⟩
end Go.Ge
namespace Go.Ge
variable [Lp]
abbrev zP:=Tx×Int×Unit
abbrev aV:=List fC×List fN×List aG×List Tx×List zP×Unit
def LC(l:List Item):Prop:=l.length≤8∧∀x∈l,x.1.length≤100∧x.2.2.1.length≤200
structure aku (b:yQ):Prop extends FewB b where
 im:∀x∈b.2.2.1,x.2.2.2.1.length≤200∧LC x.2.2.2.2.1
 bm:∀x∈b.2.2.2.1,x.2.2.2.2.1.length≤200∧LC x.2.2.2.2.2.1
theorem abn(b:yQ):∃c,rK (b,())=some (c,())∧(c=true→aku b):=by
 obtain⟨Ep,PT⟩:∃Ep:List Tx→Bool,∀l,lP (l,())=some (Ep l,())∧(Ep l=true→vO l):=⟨fun l=>Classical.choose (Eo l),fun l=>O0 (Eo l)⟩;obtain⟨SZ,NQ⟩:∃Ep:List Item→Bool,∀l,eB (l,())=some (Ep l,())∧(Ep l=true→LC l):=⟨fun l=>Classical.choose (HR l),fun l=>O0 (HR l)⟩;obtain⟨c0,hc0,hfb⟩:=aeu b;refine⟨c0,hc0,fun hc=>?_⟩;have hB:=hfb hc
 suffices q:(∀x∈b.2.2.1,x.2.2.2.1.length≤200∧LC x.2.2.2.2.1)∧(∀x∈b.2.2.2.1,x.2.2.2.2.1.length≤200∧LC x.2.2.2.2.2.1) from⟨hB,q.1,q.2⟩
 subst hc;obtain⟨n,la,im,bo,u⟩:=b;obtain⟨h1,_,h2,_,h3,_⟩:=hB;dsimp only at h1 h2 h3;unfold rK at hc0;have aiN:∀{q:Nat×(Bool×Int×Unit)×Unit} {g:Option (Bool×Unit)},q.1=1→q.2.1.1=false→aj (fT q.1 0) g (some (q.2.1.1,()))≠some (true,()):=fun {q g} e1 e2 h=>by
  rw[e1,e2] at h;have h:some (false,())=some (true,()):=h;cases h
 rcases tX (f:=je ((n,(la,(im,(bo,u)))),())) la 40 (fun i=>((false,(i,())),())) (fun _ x=>!Ep x.2.2.1) (fun i x=>(1,((false,((i:Int),())),()))) (fun n=>(0,((false,((n:Int),())),()))) (by omega) (fun i x hx hi hi8 ha=>by
  unfold je;dsimp only;rw[au hi,ag,aT (show(i:Int)<40 by omega),ag,aB hx,aa,(PT _).1,aa,ZD,ha];cases Ep x.2.2.1<;>rfl) (by unfold je;dsimp only;rw[uI (c:=40) rfl,af]) with ⟨i,x,hi,hx,hp,_,h⟩|⟨hn0,h⟩
 ·rw[h,aa] at hc0;exact absurd hc0 (aiN rfl rfl)
 rw[h,aa] at hc0;dsimp only at hc0;rw[cv,ag] at hc0;rcases tX (f:=jf ((n,(la,(im,(bo,u)))),())) im 40 (fun i=>((false,(i,())),())) (fun _ x=>!Ep x.2.1||decide (200<x.2.2.2.1.length)||!SZ x.2.2.2.2.1) (fun i x=>(1,((false,((i:Int),())),()))) (fun n=>(0,((false,((n:Int),())),()))) (by omega) (fun i x hx hi hi8 ha=>by
  unfold jf;dsimp only;rw[au hi,ag,aT (show(i:Int)<40 by omega),ag,aB hx,aa,(PT _).1,aa,aa,aa,iM (n:=200) (c:=200) rfl,(NQ _).1,aa,ha];dsimp only;cases Ep x.2.1 with
  | false=>rfl
  | true =>
    by_cases h2:200<x.2.2.2.1.length
    ·simp[h2,aj,nt,ah]
    ·cases hq:SZ x.2.2.2.2.1<;>simp[h2,aj,nt,ah]) (by unfold jf;dsimp only;rw[uI (c:=40) rfl,af]) with ⟨i,x,hi,hx,hp,_,h⟩|⟨Lr,h⟩
 ·rw[h,aa] at hc0;exact absurd hc0 (aiN rfl rfl)
 rw[h,aa] at hc0;dsimp only at hc0;rw[cv,ag] at hc0;rcases tX (f:=jg ((n,(la,(im,(bo,u)))),())) bo 40 (fun i=>((false,(i,())),())) (fun _ x=>!Ep x.2.1||decide (200<x.2.2.2.2.1.length)||!SZ x.2.2.2.2.2.1) (fun i x=>(1,((false,((i:Int),())),()))) (fun n=>(0,((false,((n:Int),())),()))) (by omega) (fun i x hx hi hi8 ha=>by
  unfold jg;dsimp only;rw[au hi,ag,aT (show(i:Int)<40 by omega),ag,aB hx,aa,(PT _).1,aa,aa,aa,iM (n:=200) (c:=200) rfl,(NQ _).1,aa,ha];dsimp only;cases Ep x.2.1 with
  | false=>rfl
  | true =>
    by_cases h2:200<x.2.2.2.2.1.length
    ·simp[h2,aj,nt,ah]
    ·cases hq:SZ x.2.2.2.2.2.1<;>simp[h2,aj,nt,ah]) (by unfold jg;dsimp only;rw[uI (c:=40) rfl,af]) with ⟨i,x,hi,hx,hp,_,h⟩|⟨hn2,h⟩
 ·rw[h,aa] at hc0;exact absurd hc0 (aiN rfl rfl)
 refine⟨fun x hx=>?_,fun x hx=>?_⟩
 ·dsimp only at hx;obtain⟨i,hi⟩:=bJ.1 hx;have:=Lr i x (by have:=aI hi;omega) hi;simp only[Al,WK,OZ] at this;exact⟨by omega,(NQ _).2 this.2⟩
 ·dsimp only at hx;obtain⟨i,hi⟩:=bJ.1 hx;have:=hn2 i x (by have:=aI hi;omega) hi;simp only[Al,WK,OZ] at this;exact⟨by omega,(NQ _).2 this.2⟩
theorem abo(l:List aG):∃b,yX (l,())=some (b,())∧(b=true→l.length≤40∧∀x∈l,x.1.length≤100∧x.2.1.length≤100):=by
 unfold yX;rcases tX (f:=sM (l,())) l 40 (fun i=>((false,(i,())),())) (fun _ x=>decide (100<x.1.length)||decide (100<x.2.1.length)) (fun i x=>(1,((false,((i:Int),())),()))) (fun n=>(0,((false,((n:Int),())),()))) (by omega) (fun i x hx hi hi8 ha=>by
  unfold sM;dsimp only;rw[au hi,ag,aT (show(i:Int)<40 by omega),ag,aB hx,aa,iM (n:=100) (c:=100) rfl,aa,iM (n:=100) (c:=100) rfl,ha];by_cases h:100<x.1.length
  ·simp[h,aj,nt,ah]
  ·by_cases h2:100<x.2.1.length<;>simp[h,h2,aj,nt,ah]) (by unfold sM;dsimp only;rw[uI (c:=40) rfl,af]) with ⟨i,x,hi,hx,hp,_,h⟩|⟨hn,h⟩
 ·rw[h];exact⟨false,rfl,fun h=>(by cases h)⟩
 ·rw[h];refine⟨_,rfl,fun hb=>?_⟩;dsimp only at hb;rw[lQ (n:=40) (c:=40) rfl] at hb;have h40:=ic hb;refine⟨h40,fun x hx=>?_⟩;obtain⟨i,hi⟩:=bJ.1 hx;have:=hn i x (by have:=aI hi;omega) hi;simp at this;omega
structure aiO (s:aV):Prop where
 base:aku (0,(s.2.2.1,(s.2.1,(s.1,()))))
 ids:∀x∈s.2.2.1,x.1.length≤100∧x.2.1.length≤100
 lays:s.2.2.1.length≤12
 akv:s.2.2.2.1.length≤12
 amE:∀d∈s.2.2.2.1,d.length≤8192
 mts:s.2.2.2.2.1.length≤40
theorem abp(s:aV):∃b,yY (s,())=some (b,())∧(b=true→aiO s):=by
 obtain⟨bo,im,la,di,mo,u⟩:=s;obtain⟨b1,e1,f1⟩:=abn (0,(la,(im,(bo,()))));obtain⟨b2,e2,f2⟩:=abo la;unfold yY;rcases tX (f:=sN ((bo,(im,(la,(di,(mo,u))))),())) di 12 (fun i=>((false,(i,())),())) (fun _ x=>decide (8192<x.length)) (fun i x=>(1,((false,((i:Int),())),()))) (fun n=>(0,((false,((n:Int),())),()))) (by omega) (fun i x hx hi hi8 ha=>by
  unfold sN;dsimp only;rw[au hi,ag,aT (show(i:Int)<12 by omega),ag,aB hx,aa,iM (n:=8192) (c:=8192) rfl,iB,ha];by_cases h:8192<x.length<;>simp[h]) (by unfold sN;dsimp only;rw[uI (c:=12) rfl,af]) with ⟨i,x,hi,hx,hp,_,h⟩|⟨hn,h⟩
 ·rw[h];exact⟨false,rfl,fun h=>(by cases h)⟩
 ·rw[h,aa];dsimp only;rw[cv,ag,e1,aa,e2];dsimp only;rw[lQ (n:=12) (c:=12) rfl,lQ (n:=12) (c:=12) rfl,lQ (n:=40) (c:=40) rfl];cases b1 with
  | false=>exact⟨false,rfl,fun h=>(by cases h)⟩
  | true =>
    rw[ag,aa,aa];cases b2 with
    | false=>exact⟨false,rfl,fun h=>(by cases h)⟩
    | true =>
      refine⟨_,rfl,fun hb=>?_⟩;by_cases q1:la.length≤12
      ·by_cases q2:di.length≤12
       ·by_cases q3:mo.length≤40
        ·refine⟨f1 rfl,(f2 rfl).2,q1,q2,fun d hd=>?_,q3⟩;obtain⟨i,hi⟩:=bJ.1 hd;have hi:di[i]?=some d:=hi;have:=hn i d (by have:=aI hi;omega) hi;simpa using this
        ·rw[fo q1,fo q2,dJ q3] at hb;cases hb
       ·rw[fo q1,dJ q2] at hb;cases hb
      ·rw[dJ q1] at hb;cases hb
end Go.Ge
namespace Go.Ge
variable [Lp]
theorem zQ{β:Type}{c b:Bool}{o:Option Bool}{k:Bool→Option β}(h:o=some b):ah (aj c o (some false)) k=k (c&&b):=by subst h;cases c<;>rfl
theorem ua{β:Type}{c b:Bool}{o:Option Bool}{k:Bool→Option β}(h:o=some b):ah (aj c o (some true)) k=k (!c||b):=by subst h;cases c<;>rfl
theorem gj(a b:List UInt8):cc a b=decide (a=b):=rfl
theorem Yo(b:Bool):nt b=!b:=rfl
theorem abq(a b:Int):cX a b=decide (a≤b):=rfl
theorem ZP(a b:Int):bI a b=decide (a=b):=rfl
def BdL(x:aG):Prop:=x.1.length≤1048576∧x.2.1.length≤1048576∧vO x.2.2.1∧x.2.2.2.1.length≤1048576
def BdI(x:fN):Prop:=x.1.length≤1048576∧vO x.2.1∧x.2.2.1.length≤1048576∧LC x.2.2.2.2.1
def BdB(x:fC):Prop:=x.1.length≤1048576∧vO x.2.1∧x.2.2.1.length≤1048576∧x.2.2.2.1.length≤1048576∧LC x.2.2.2.2.2.1
structure OkL (x:aG):Prop where
 id:BC x.1
 par:x.2.1=[]∨(BC x.2.1∧x.2.1≠x.1)
 nms:nJ x.2.2.1=true
 dig:agL x.2.2.2.1=0
 s0:0≤x.2.2.2.2.1
 s1:x.2.2.2.2.1≤8192
 b0:0≤x.2.2.2.2.2.1
 b1:x.2.2.2.2.2.1≤32
structure abr (x:fN):Prop where
 id:BC x.1
 nms:nJ x.2.1=true
 top:x.2.2.1=[]∨BC x.2.2.1
 meta':x.2.2.2.1.length≤64
 items:OkI x.2.2.2.2.1
structure OkB (x:fC):Prop where
 id:BC x.1
 nms:nJ x.2.1=true
 img:x.2.2.1=[]∨BC x.2.2.1
 lay:BC x.2.2.2.1
 meta':x.2.2.2.2.1.length≤64
 items:OkI x.2.2.2.2.2.1
theorem abt(x:aG)(h:BdL x):∃b,qq (x,())=some (b,())∧(b=true↔OkL x):=by
 obtain⟨h1,h2,h3,h4⟩:=h;obtain⟨i1,e1,f1⟩:=oQ x.1 h1;obtain⟨i2,e2,f2⟩:=oQ x.2.1 h2;unfold qq;dsimp only;rw[e1,aa,zQ (b:=(!(nt (cc x.2.1 []))||(i2&&nt (cc x.2.1 x.1)))) (by rw[ua (by rw[e2,aa,Eu])]),
  zQ (by rw[Bu x.2.2.1 (h3.small) h3.each,aa]),zQ (by rw[S5 x.2.2.2.1 h4,aa])]
 refine⟨_,rfl,?_⟩;simp only[Eu,Yo,gj,abq,ZP,dW,zv,ac5,nq,nY,OZ,f1,f2];constructor
 ·rintro⟨⟨⟨⟨⟨⟨⟨a,b⟩,c⟩,d⟩,e⟩,f⟩,g⟩,i⟩;exact⟨a,b,c,d,e,f,g,i⟩
 ·rintro⟨a,b,c,d,e,f,g,i⟩;exact⟨⟨⟨⟨⟨⟨⟨a,b⟩,c⟩,d⟩,e⟩,f⟩,g⟩,i⟩
theorem Rm{l:List Item}(h:LC l):∃b,ni (l,())=some (b,())∧(b=true↔OkI l) :=
 abm l (by have:=h.1;omega) fun x hx=>by have:=h.2 x hx;omega
theorem akw(m:List UInt8):cX (@len UInt8 m) (64:Int)=decide (m.length≤64):=by unfold cX len;apply decide_eq_decide.2;omega
theorem abu(x:fN)(h:BdI x):∃b,qs (x,())=some (b,())∧(b=true↔abr x):=by
 obtain⟨h1,h2,h3,h4⟩:=h;obtain⟨i1,e1,f1⟩:=oQ x.1 h1;obtain⟨i2,e2,f2⟩:=oQ x.2.2.1 h3;obtain⟨i3,e3,f3⟩:=Rm h4;unfold qs;dsimp only;rw[e1,aa,zQ (by rw[Bu x.2.1 (h2.small) h2.each,aa]),zQ (b:=(!(nt (cc x.2.2.1 []))||i2)) (by rw[ua (by rw[e2,aa])]),
  zQ (by rw[e3,aa])]
 refine⟨_,rfl,?_⟩;simp only[Eu,Yo,gj,akw,dW,zv,ac5,nq,nY,OZ,f1,f2,f3];constructor
 ·rintro⟨⟨⟨⟨a,b⟩,c⟩,d⟩,e⟩;exact⟨a,b,c,d,e⟩
 ·rintro⟨a,b,c,d,e⟩;exact⟨⟨⟨⟨a,b⟩,c⟩,d⟩,e⟩
theorem agM(x:fC)(h:BdB x):∃b,vz (x,())=some (b,())∧(b=true↔OkB x):=by
 obtain⟨h1,h2,h3,h4,h5⟩:=h;obtain⟨i1,e1,f1⟩:=oQ x.1 h1;obtain⟨i2,e2,f2⟩:=oQ x.2.2.1 h3;obtain⟨i3,e3,f3⟩:=oQ x.2.2.2.1 h4;obtain⟨i4,e4,f4⟩:=Rm h5;unfold vz;dsimp only;rw[e1,aa,zQ (by rw[Bu x.2.1 (h2.small) h2.each,aa]),zQ (b:=(!(nt (cc x.2.2.1 []))||i2)) (by rw[ua (by rw[e2,aa])]),
  zQ (by rw[e3,aa]),zQ (by rw[e4,aa])]
 refine⟨_,rfl,?_⟩;simp only[Eu,Yo,gj,akw,dW,zv,ac5,nq,nY,OZ,f1,f2,f3,f4];constructor
 ·rintro⟨⟨⟨⟨⟨a,b⟩,c⟩,d⟩,e⟩,f⟩;exact⟨a,b,c,d,e,f⟩
 ·rintro⟨a,b,c,d,e,f⟩;exact⟨⟨⟨⟨⟨a,b⟩,c⟩,d⟩,e⟩,f⟩
def N0(b:yQ):List Tx:=b.2.1.map (·.1)++b.2.2.1.map (·.1)++b.2.2.2.1.map (·.1)
def P3(b:yQ):List Tx:=b.2.1.flatMap (·.2.2.1)++b.2.2.1.flatMap (·.2.1)++b.2.2.2.1.flatMap (·.2.1)
theorem AU{α:Type}{g:α→List Tx}:∀{l:List α},(∀x∈l,(g x).length≤8)→(l.flatMap g).length≤8*l.length:=by
 intro l;induction l with
 | nil=>intro _;simp
 | cons x r ih =>
   intro h;rw[O3,iO,ep];have:=h x (nX ..);have:=ih fun y hy=>h y (qU _ hy);omega
theorem Gm{α:Type}{f:(Unit×Unit×Int×Unit)×List Tx×List Tx×Unit→Option (((Unit×Unit×Int×Unit)×List Tx×List Tx×Unit)⊕((Unit×Unit×Int×Unit)×List Tx×List Tx×Unit))}
  (l:List α) (id:α→Tx) (nm:α→List Tx) (hl:l.length≤40) (hn:∀x∈l,(nm x).length≤8) (ns is:List Tx) (h1:ns.length≤10000) (h2:is.length≤10000)
  (hf:∀c a b,f (((),((),(c,()))),(a,(b,())))=eP (aj (bB c (len l)) (ah (idx l c) fun x=>aj (fits (plus (@len Tx b) (@len Tx [id x]))) (ah (idx l c) fun y=>aj (fits (plus (@len Tx a) (@len Tx (nm y)))) (some (.inl (((),((),(aL .i64 c 1,()))),(app a (nm y),(app b [id x],()))))) none) none)
   (some (.inr (0,(((),((),(c,()))),(a,(b,()))))))) ) :
  Loop f (((),((),((0:Int),()))),(ns,(is,())))=some (((),((),((l.length:Int),()))),(ns++l.flatMap nm,(is++l.map id,()))):=by
 have:=de (f:=f) l.length (fun j:Nat=>(((),((),((j:Int),()))),(ns++(l.take j).flatMap nm,(is++(l.take j).map id,()))))
  (r:=(((),((),((l.length:Int),()))),(ns++l.flatMap nm,(is++l.map id,())))) (fun j hj=>by
   have hx:l[j]?=some l[j]:=kL hj;have hb:((l.take j).flatMap nm).length≤8*40:=by
    have:=AU (g:=nm) (l:=l.take j) fun x hx=>hn x (O1 hx);rw[cW] at this;omega
   have hn':=hn _ (acV hj);rw[hf,au hj,ag,aB hx,aa,
    show fits (plus (@len Tx (is++(l.take j).map id)) (@len Tx [id l[j]]))=true from cG (by rw[iO,Mp,cW];show _+1≤_;omega),ag,aa,
    show fits (plus (@len Tx (ns++(l.take j).flatMap nm)) (@len Tx (nm l[j])))=true from cG (by rw[iO];omega),ag,aY (by omega)]
   rw[TQ,hx,List.flatMap_append,List.map_append];simp[app,eP]) (by
   rw[GJ,hf,aE,af];rfl)
 simpa using this
theorem abv(b:yQ)(h:FewB b):uQ (b,())=some (N0 b,(P3 b,())):=by
 obtain⟨h1,h2,h3,h4,h5,h6⟩:=h;unfold uQ;rw[Gm b.2.1 (·.1) (·.2.2.1) h1 (fun x hx=>(h2 x hx).1) [] [] (by simp) (by simp) (fun c a b=>rfl),aa];dsimp only;have c1:(b.2.1.flatMap (·.2.2.1)).length≤320:=by have:=AU (g:=fun x:aG=>x.2.2.1) (l:=b.2.1) fun x hx=>(h2 x hx).1;omega
 have c2:(b.2.2.1.flatMap (·.2.1)).length≤320:=by have:=AU (g:=fun x:fN=>x.2.1) (l:=b.2.2.1) fun x hx=>(h4 x hx).1;omega
 rw[Gm b.2.2.1 (·.1) (·.2.1) h3 (fun x hx=>(h4 x hx).1) _ _ (by rw[zu];omega) (by rw[zu,Mp];omega) (fun c a b=>rfl),aa];dsimp only;rw[Gm b.2.2.2.1 (·.1) (·.2.1) h5 (fun x hx=>(h6 x hx).1) _ _ (by rw[iO,zu];omega) (by rw[iO,zu,Mp,Mp];omega) (fun c a b=>rfl),aa];rfl
end Go.Ge
namespace Go.Ge
variable [Lp]
theorem Yp{b:Bool}{p:Prop}[Decidable p](h:b=true↔p):b=decide p:=by
 cases b with
 | true=>exact(fo (h.1 rfl)).symm
 | false=>exact(dJ fun q=>by cases h.2 q).symm
open Classical in
theorem abw{x:aG}(h:BdL x):qq (x,())=some (decide (OkL x),()):=by
 obtain⟨b,h1,h2⟩:=abt x h;rw[h1,Yp h2]
open Classical in
theorem abx{x:fN}(h:BdI x):qs (x,())=some (decide (abr x),()):=by
 obtain⟨b,h1,h2⟩:=abu x h;rw[h1,Yp h2]
open Classical in
theorem agN{x:fC}(h:BdB x):vz (x,())=some (decide (OkB x),()):=by
 obtain⟨b,h1,h2⟩:=agM x h;rw[h1,Yp h2]
abbrev Cs:=(Int×Int×Unit)×Unit
theorem N1{α:Type}{f:Cs→Option (Cs⊕(Nat×Cs))}(l:List α)(hl:l.length≤1000000)(p:α→Prop)[DecidablePred p](c0:Int)
  (hf:∀(i:Nat) (x:α),l[i]?=some x→f ((c0,((i:Int),())),())=some (if p x then .inl ((c0,(aL .i64 (i:Int) 1,())),()) else .inr (1,(((1:Int),((i:Int),())),()))))
  (hend:f ((c0,((l.length:Int),())),())=some (.inr (0,((c0,((l.length:Int),())),())))) :
  ((∀x∈l,p x)∧Loop f ((c0,((0:Int),())),())=some (0,((c0,((l.length:Int),())),()))) ∨
  (¬(∀x∈l,p x)∧∃q,Loop f ((c0,((0:Int),())),())=some (1,(((1:Int),q),()))):=by
 rcases p8 (f:=f) l (fun i=>((c0,(i,())),())) (fun _ x=>decide (¬p x)) (fun i x=>(1,(((1:Int),((i:Int),())),()))) (0,((c0,((l.length:Int),())),())) (by omega) (fun i x hx hi ha=>by
  rw[hf i x hx,ha];by_cases h:p x<;>simp[h]) hend with ⟨i,x,hx,hp,_,h⟩|⟨hn,h⟩
 ·exact .inr ⟨fun q=>by simp[q x (gm hx)] at hp,_,h⟩
 ·refine .inl ⟨fun x hx=>?_,h⟩;obtain⟨i,hi⟩:=bJ.1 hx;have:=hn i x hi;simpa using this
theorem N2{l:List Tx}:l.Pairwise (fun x y=>jy x y=true)↔∀(i:Nat) (x y:Tx),l[i]?=some x→l[i+1]?=some y→jy x y=true:=by
 have h:=NZ (l:=l.map fun s=>((s,([],([],()))):It));unfold VL at h;rw[T3] at h;refine h.trans ⟨fun k i x y hx hy=>?_,fun k i x y hx hy=>?_⟩
 ·exact k i (x,([],([],()))) (y,([],([],()))) (by rw[KY,hx];rfl) (by rw[KY,hy];rfl)
 ·rw[KY] at hx hy;obtain⟨a,ha,rfl⟩:=Option.map_eq_some_iff.1 hx;obtain⟨b,hb,rfl⟩:=Option.map_eq_some_iff.1 hy;exact k i a b ha hb
theorem agO(is ns:List Tx)(hl:is.length≤100000) :
  (is.Pairwise (fun x y=>jy x y=true)∧∃q,Loop (iV (is,(ns,()))) (((0:Int),((1:Int),())),())=some (0,(((0:Int),q),()))) ∨
  (¬is.Pairwise (fun x y=>jy x y=true)∧∃q,Loop (iV (is,(ns,()))) (((0:Int),((1:Int),())),())=some (1,(((1:Int),q),()))):=by
 rw[N2];rcases p8 (f:=iV (is,(ns,()))) is.tail (fun i=>(((0:Int),(i+1,())),())) (fun i y=>match is[i]? with|some x=>!jy x y|none=>false) (fun i x=>(1,(((1:Int),((i:Int)+1,())),()))) (0,(((0:Int),((is.tail.length:Int)+1,())),())) (by rw[acW];omega) (fun i y hy hi ha=>by
  rw[acW] at hi;rw[acN] at hy;obtain⟨x,hx⟩:∃x,is[i]?=some x:=⟨_,kL (show i<is.length by omega)⟩;unfold iV;dsimp only;rw[show((i:Int)+1)=((i+1:Nat):Int) by omega,au (by omega),ag,eT (by omega) (by omega),show((i+1:Nat):Int)-1=(i:Int) by omega,aB hx,aa,aB hy,aa,aY (by omega),hx];dsimp only;rw[show((i+1:Nat):Int)+1=((i+1+1:Nat):Int) by omega];by_cases hq:jy x y=true<;>simp[hq,nt,aj]) (by
  unfold iV;dsimp only;rw[acW,aH (by unfold len;omega),af]) with ⟨i,y,hy,hp,_,h⟩|⟨hn,h⟩
 ·refine .inr ⟨fun k=>?_,_,h⟩;rw[acN] at hy;have hlt:=aI hy;have hx:is[i]?=some is[i]:=kL (by omega);rw[hx] at hp;simp[k i _ _ hx hy] at hp
 ·refine .inl ⟨fun i x y hx hy=>?_,_,h⟩;have:=hn i y (by rw[acN];exact hy);rw[hx] at this;simpa using this
theorem Yq(is ns:List Tx)(hl:ns.length≤100000) :
  (ns.Nodup∧∃q,Loop (iX (is,(ns,()))) (((0:Int),((0:Int),())),())=some (0,(((0:Int),q),()))) ∨
  (¬ns.Nodup∧∃q,Loop (iX (is,(ns,()))) (((0:Int),((0:Int),())),())=some (1,(((1:Int),q),()))):=by
 have inner:∀(i:Nat) (x:Tx),ns[i]?=some x→(∃j y,j<i∧ns[j]?=some y∧y=x∧∃q,Loop (iW (is,(ns,())) (((0:Int),((i:Int),())),())) (((0:Int),((0:Int),())),())=some (1,(((1:Int),q),()))) ∨
   ((∀(j:Nat) (y:Tx),j<i→ns[j]?=some y→y≠x)∧∃q,Loop (iW (is,(ns,())) (((0:Int),((i:Int),())),())) (((0:Int),((0:Int),())),())=some (0,(((0:Int),q),()))):=by
  intro i x QK;have hi:=aI QK;have hmin:min i ns.length=i:=by omega
  rcases tX (f:=iW (is,(ns,())) (((0:Int),((i:Int),())),())) ns i (fun j=>(((0:Int),(j,())),())) (fun _ y=>decide (y=x)) (fun j y=>(1,(((1:Int),((j:Int),())),()))) (fun n=>(0,(((0:Int),((n:Int),())),()))) (by omega) (fun j y hy hj hji ha=>by
   unfold iW;dsimp only;rw[aT (show(j:Int)<(i:Int) by omega),ag,aB hy,aa,aB QK,aa,iB,ha];by_cases h:y=x<;>simp[cc,h]) (by
   unfold iW;dsimp only;rw[hmin,aH (EH _),af]) with ⟨j,y,hji,hy,hp,_,h⟩|⟨hn,h⟩
  ·exact .inl ⟨j,y,hji,hy,ic hp,_,h⟩
  ·exact .inr ⟨fun j y hji hy=>TP (hn j y hji hy),_,h⟩
 have yw:∀i x,ns[i]?=some x→(x∈ns.take i↔∃j y,j<i∧ns[j]?=some y∧y=x):=by
  intro i x QK;rw[bJ];constructor
  ·rintro⟨j,hj⟩;rw[gN] at hj;split at hj
   ·exact⟨j,x,by assumption,hj,rfl⟩
   ·cases hj
  ·rintro⟨j,y,hji,hy,rfl⟩;exact⟨j,by rw[gN,bu hji];exact hy⟩
 rcases p8 (f:=iX (is,(ns,()))) ns (fun i=>(((0:Int),(i,())),())) (fun i x=>decide (x∈ns.take i)) (fun i x=>(1,(((1:Int),((i:Int),())),()))) (0,(((0:Int),((ns.length:Int),())),())) (by omega) (fun i x hx hi ha=>by
  unfold iX;dsimp only;rw[au hi,ag];rcases inner i x hx with ⟨j,y,h1,h2,h3,q,h⟩|⟨hn,q,h⟩
  ·rw[h,aa,fo ((yw i x hx).2 ⟨j,y,h1,h2,h3⟩)];rfl
  ·rw[h,aa,dJ (fun hc=>by obtain⟨j,y,h1,h2,h3⟩:=(yw i x hx).1 hc;exact hn j y h1 h2 h3),ha];rfl) (by unfold iX;dsimp only;rw[aE,af]) with ⟨i,x,hx,hp,_,h⟩|⟨hn,h⟩
 ·refine .inr ⟨fun hnd=>?_,_,h⟩;obtain⟨j,y,h1,h2,h3⟩:=(yw i x hx).1 (ic hp);obtain⟨hi',aiB⟩:=List.getElem?_eq_some_iff.1 hx;obtain⟨hj',hyj⟩:=List.getElem?_eq_some_iff.1 h2;exact List.pairwise_iff_getElem.1 hnd j i hj' hi' h1 (by rw[hyj,aiB,h3])
 ·refine .inl ⟨List.pairwise_iff_getElem.2 fun j i hj hi hji he=>?_,_,h⟩;have:=hn i ns[i] (kL hi);have hc:=(yw i ns[i] (kL hi)).2 ⟨j,ns[j],hji,kL hj,he⟩;simp[hc] at this
structure BdX (b:yQ):Prop extends FewB b where
 xl:∀x∈b.2.1,BdL x
 xi:∀x∈b.2.2.1,BdI x
 xb:∀x∈b.2.2.2.1,BdB x
def aby(kind:Int)(b:yQ):Nat:=if kind=1 then b.2.2.2.1.length else if kind=2 then b.2.2.1.length else b.2.1.length
structure nC (kind:Int) (b:yQ):Prop where
 Ep:aby kind b≤32
 only:b.2.2.2.1.length+b.2.2.1.length+b.2.1.length=aby kind b
 ll:∀x∈b.2.1,OkL x
 il:∀x∈b.2.2.1,abr x
 bl:∀x∈b.2.2.2.1,OkB x
 ids:(N0 b).Pairwise (fun x y=>jy x y=true)
 nms:(P3 b).Nodup
open Classical in
theorem Dq(kind:Int)(b:yQ)(hk:kind=1∨kind=2∨kind=3)(h0:b.1=0)(h:BdX b):∃e,nj (kind,(b,()))=some (e,())∧(e=0↔nC kind b):=by
 obtain⟨n,la,im,bo,u⟩:=b;dsimp only at h0;subst h0;have hh:=abv (0,(la,(im,(bo,u)))) h.toFewB;obtain⟨hl,Wz,hi,hin,hbl,hbn⟩:=h.toFewB;obtain⟨xl,xi,xb⟩:=(⟨h.xl,h.xi,h.xb⟩:(∀x∈la,BdL x)∧(∀x∈im,BdI x)∧(∀x∈bo,BdB x));dsimp only at hl Wz hi hin hbl hbn;have hidx:idx ([(0:Int),@len fC bo,@len fN im,@len aG la]:List Int) kind=some ((aby kind (0,(la,(im,(bo,u)))):Nat):Int):=by
  rcases hk with rfl|rfl|rfl<;>rfl
 have ao4:aby kind (0,(la,(im,(bo,u))))≤40:=by
  rcases hk with rfl|rfl|rfl
  ·exact hbl
  ·exact hi
  ·exact hl
 unfold nj;dsimp only;rw[aH (by omega),af,aH (by omega),af,show bB (0:Int) 0=false from rfl,af,show bB (9007199254740992:Int) 0=false from rfl,af,bE (by omega) (by omega),ag,hidx,aa];by_cases ZO:aby kind (0,(la,(im,(bo,u))))≤32
 rotate_left
 ·rw[aT (by omega),ag];exact⟨1,rfl,fun q=>(by cases q),fun q=>absurd q.Ep ZO⟩
 rw[aH (by omega),af,show within (1:Int) 4=true from rfl,ag,show idx ([(0:Int),@len fC bo,@len fN im,@len aG la]:List Int) 1=some (len bo) from rfl,aa,show within (2:Int) 4=true from rfl,ag,
  show idx ([(0:Int),@len fC bo,@len fN im,@len aG la]:List Int) 2=some (len im) from rfl,aa,show within (3:Int) 4=true from rfl,ag,show idx ([(0:Int),@len fC bo,@len fN im,@len aG la]:List Int) 3=some (len la) from rfl,aa,ag,aa,
  fJ (a:=len bo) (b:=len im) (by unfold len;omega) (by unfold len;omega),fJ (by unfold len;omega) (by unfold len;omega)]
 by_cases hsum:bo.length+im.length+la.length=aby kind (0,(la,(im,(bo,u))))
 rotate_left
 ·rw[aM (by unfold len;omega),aF,ag];exact⟨1,rfl,fun q=>(by cases q),fun q=>absurd q.only hsum⟩
 rw[aP (by unfold len;omega),aJ,af];rcases N1 (f:=pQ (kind,((0,(la,(im,(bo,u)))),()))) la (by omega) OkL 0 (fun i x hx=>by
  unfold pQ;dsimp only;rw[au (aI hx),ag,aB hx,aa,abw (xl x (gm hx)),aa];by_cases q:OkL x<;>simp[q,nt,aj]) (by unfold pQ;dsimp only;rw[aE,af]) with ⟨a1,l1⟩|⟨a1,q,l1⟩
 rotate_left
 ·rw[l1,aa];exact⟨1,rfl,fun q=>(by cases q),fun q=>absurd q.ll a1⟩
 rw[l1,aa];dsimp only;rw[cv,ag];rcases N1 (f:=pR (kind,((0,(la,(im,(bo,u)))),()))) im (by omega) abr 0 (fun i x hx=>by
  unfold pR;dsimp only;rw[au (aI hx),ag,aB hx,aa,abx (xi x (gm hx)),aa];by_cases q:abr x<;>simp[q,nt,aj]) (by unfold pR;dsimp only;rw[aE,af]) with ⟨a2,l2⟩|⟨a2,q,l2⟩
 rotate_left
 ·rw[l2,aa];exact⟨1,rfl,fun q=>(by cases q),fun q=>absurd q.il a2⟩
 rw[l2,aa];dsimp only;rw[cv,ag];rcases N1 (f:=pS (kind,((0,(la,(im,(bo,u)))),()))) bo (by omega) OkB 0 (fun i x hx=>by
  unfold pS;dsimp only;rw[au (aI hx),ag,aB hx,aa,agN (xb x (gm hx)),aa];by_cases q:OkB x<;>simp[q,nt,aj]) (by unfold pS;dsimp only;rw[aE,af]) with ⟨a3,l3⟩|⟨a3,q,l3⟩
 rotate_left
 ·rw[l3,aa];exact⟨1,rfl,fun q=>(by cases q),fun q=>absurd q.bl a3⟩
 rw[l3,aa];dsimp only;rw[cv,ag,hh,aa];have c0:(la.flatMap (·.2.2.1)).length≤320:=by have:=AU (g:=fun x:aG=>x.2.2.1) (l:=la) fun x hx=>(Wz x hx).1;omega
 have c1:(im.flatMap (·.2.1)).length≤320:=by have:=AU (g:=fun x:fN=>x.2.1) (l:=im) fun x hx=>(hin x hx).1;omega
 have c2:(bo.flatMap (·.2.1)).length≤320:=by have:=AU (g:=fun x:fC=>x.2.1) (l:=bo) fun x hx=>(hbn x hx).1;omega
 rcases agO (N0 (0,(la,(im,(bo,u))))) (P3 (0,(la,(im,(bo,u))))) (by unfold N0;simp only[iO,Mp];omega) with ⟨a4,q4,l4⟩|⟨a4,q4,l4⟩
 rotate_left
 ·rw[l4,aa];exact⟨1,rfl,fun q=>(by cases q),fun q=>absurd q.ids a4⟩
 rw[l4,aa];dsimp only;rw[cv,ag];rcases Yq (N0 (0,(la,(im,(bo,u))))) (P3 (0,(la,(im,(bo,u))))) (by unfold P3;simp only[iO];omega) with ⟨a5,q5,l5⟩|⟨a5,q5,l5⟩
 rotate_left
 ·rw[l5,aa];exact⟨1,rfl,fun q=>(by cases q),fun q=>absurd q.nms a5⟩
 rw[l5,aa];exact⟨0,rfl,fun _=>⟨ZO,hsum,a1,a2,a3,a4,a5⟩,fun _=>rfl⟩
end Go.Ge
namespace Go.Ge
variable [Lp]
theorem P4(s:List UInt8)(hs:s.length≤1048576)(m:Int):∀(n i:Nat),s.length-i≤n→i≤s.length→∃q,Loop (gw (s,(m,()))) ((false,((i:Int),())),())=some q∧(if AQ (s.drop i) then q.1=0 else q.1=1∧q.2.1.1=false):=by
 intro n;induction n with
 | zero =>
   intro i h hi;have:i=s.length:=by omega
   subst this;rw[aX];refine⟨(0,((false,((s.length:Int),())),())),?_,?_⟩
   ·unfold gw;dsimp only;rw[aH (by simp only[len];omega),af];rfl
   ·rw[T8,bu (by intro x hx;cases hx)]
 | succ n ih =>
   intro i h hi;rw[aX];by_cases hlt:i<s.length
   ·have hd:s.drop i=s[i]::s.drop (i+1):=CD hlt;have e0:gw (s,(m,())) ((false,((i:Int),())),())=if s[i]=0 then some (.inr (1,((false,((i:Int),())),()))) else some (.inl ((false,(((i+1:Nat):Int),())),())):=by
     unfold gw;dsimp only;rw[aT (by simp only[len];omega),ag,Es s hlt,aa];by_cases hz:s[i]=0
     ·rw[hz,show bI (u8 0) 0=true from rfl,ag,bu rfl]
     ·rw[show bI (u8 s[i]) 0=false from aM (fun e=>hz (Yd (b:=0) e)),af,br hz,aY (by omega)]
    rw[e0];by_cases hz:s[i]=0
    ·rw[bu hz];refine⟨_,rfl,?_⟩;rw[br (fun hn=>hn s[i] (by rw[hd];exact nX ..) hz)];exact⟨rfl,rfl⟩
    ·rw[br hz];obtain⟨q,q1,q2⟩:=ih (i+1) (by omega) (by omega);refine⟨q,q1,?_⟩;have e:AQ (s.drop i)↔AQ (s.drop (i+1)):=by
      rw[hd];constructor
      ·intro h x hx;exact h x (qU _ hx)
      ·intro h x hx;rcases List.mem_cons.1 hx with rfl|hx
       ·exact hz
       ·exact h x hx
     by_cases hn:AQ (s.drop (i+1))
     ·rw[bu hn] at q2;rw[bu (e.2 hn)];exact q2
     ·rw[br hn] at q2;rw[br (fun k=>hn (e.1 k))];exact q2
   ·have:i=s.length:=by omega
    subst this;refine⟨(0,((false,((s.length:Int),())),())),?_,?_⟩
    ·unfold gw;dsimp only;rw[aH (by simp only[len];omega),af];rfl
    ·rw[T8,bu (by intro x hx;cases hx)]
theorem HT(s:List UInt8)(hs:s.length≤1048576)(m:Int):mW (s,(m,()))=some (decide (WC s m),()):=by
 unfold mW;dsimp only;obtain⟨q,q1,q2⟩:=P4 s hs m s.length 0 (by omega) (by omega);rw[show Loop (gw (s,(m,()))) ((false,(0,())),())=some q from q1,aa];rw[FO] at q2;by_cases hn:AQ s
 ·rw[bu hn] at q2;rw[q2,show fT 0 0=true from rfl,ag];by_cases h:s=[]
  ·subst h;rw[fU (by decide),af,dJ (fun e=>e.1 rfl)]
  ·have:=List.length_pos_iff.2 h;rw[cE (by simp only[len];omega),ag];unfold cX;rw[show decide (len s≤m)=decide (WC s m) from decide_eq_decide.2 ⟨fun e=>⟨h,e,hn⟩,fun e=>e.2.1⟩]
 ·rw[br hn] at q2;rw[q2.1,show fT 1 0=false from rfl,af,q2.2,dJ (fun e=>hn e.2.2)]
theorem AV(n b:Int):qZ (n,(b,()))=some (decide (S8 n b),()):=Gg n b
theorem agP(h:Hd)(m:Int)(h1:h.1.length≤1048576)(h2:h.2.2.2.2.2.2.2.1.length≤1048576):vo (h,(m,()))=some (decide (Lx h m),()):=by
 unfold vo;dsimp only;have akx:(aj (bI h.2.1 3) (ah (mW (h.2.2.2.2.2.2.2.1,(100,()))) fun y1=>some ((y1.1,()),())) (some ((cc h.2.2.2.2.2.2.2.1 [],()),()))) =
   some ((decide ((h.2.1=3∧WC h.2.2.2.2.2.2.2.1 100)∨(h.2.1≠3∧h.2.2.2.2.2.2.2.1=[])),()),()):=by
  by_cases k3:h.2.1=3
  ·rw[k3,qi,ag,HT _ h2,aa];rw[show decide (WC h.2.2.2.2.2.2.2.1 100)=decide (((3:Int)=3∧WC h.2.2.2.2.2.2.2.1 100)∨((3:Int)≠3∧h.2.2.2.2.2.2.2.1=[])) from decide_eq_decide.2 (by simp)]
  ·rw[aM k3,af];unfold cc;rw[show decide (h.2.2.2.2.2.2.2.1=[])=decide ((h.2.1=3∧WC h.2.2.2.2.2.2.2.1 100)∨(h.2.1≠3∧h.2.2.2.2.2.2.2.1=[])) from decide_eq_decide.2 (by simp[k3])]
 rw[akx,aa,HT _ h1,aa];dsimp only;have hno:∀{p:Prop} [Decidable p],¬p→decide p=false:=fun {p} _ h=>dJ h;by_cases h6:WC h.1 m
 case neg=>rw[dJ h6,af,af,af,aa,af,aa,af,aa,af,aa,af,aa,af,af,dJ (fun e=>h6 e.2.2.2.2.2.1)]
 rw[fo h6,ag];have hkk:Lx h m→1≤h.2.1∧h.2.1≤3:=fun e=>by
  rcases e.2.2.2.2.2.2 with k|k|k<;>omega
 by_cases k1:1≤h.2.1
 case neg=>rw[fU (by omega),af,af,aa,af,aa,af,aa,af,aa,af,aa,af,af,dJ (fun e=>k1 (hkk e).1)]
 rw[cE k1,ag];by_cases k2:h.2.1≤3
 case neg=>rw[fU (by omega),af,aa,af,aa,af,aa,af,aa,af,aa,af,af,dJ (fun e=>k2 (hkk e).2)]
 rw[cE k2,ag,AV,aa,aa];by_cases n1:S8 h.2.2.1 2097152
 case neg=>rw[dJ n1,af,aa,af,aa,af,aa,af,aa,af,af,dJ (fun e=>n1 e.1)]
 rw[fo n1,ag,AV,aa,aa];by_cases n2:S8 h.2.2.2.1 2097152
 case neg=>rw[dJ n2,af,aa,af,aa,af,aa,af,af,dJ (fun e=>n2 e.2.1)]
 rw[fo n2,ag,AV,aa,aa];by_cases n3:S8 h.2.2.2.2.1 2097152
 case neg=>rw[dJ n3,af,aa,af,aa,af,af,dJ (fun e=>n3 e.2.2.1)]
 rw[fo n3,ag,AV,aa,aa];by_cases n4:S8 h.2.2.2.2.2.1 8589934592
 case neg=>rw[dJ n4,af,aa,af,af,dJ (fun e=>n4 e.2.2.2.1)]
 rw[fo n4,ag,AV,aa,aa];by_cases n5:S8 h.2.2.2.2.2.2.1 8589934592
 case neg=>rw[dJ n5,af,af,dJ (fun e=>n5 e.2.2.2.2.1)]
 rw[fo n5,ag];have hk:decide (Lx h m)=decide (kindOk h):=decide_eq_decide.2 ⟨fun e=>e.2.2.2.2.2.2,fun e=>⟨n1,n2,n3,n4,n5,h6,e⟩⟩;rw[hk];have hk3:h.2.1=1∨h.2.1=2∨h.2.1=3:=by omega
 by_cases hz:h.2.2.2.2.2.1=0
 ·rw[aP hz,aJ,af,ag];rw[show decide ((h.2.1=3∧WC h.2.2.2.2.2.2.2.1 100)∨(h.2.1≠3∧h.2.2.2.2.2.2.2.1=[]))=decide (kindOk h) from decide_eq_decide.2 (by
   unfold kindOk;rcases hk3 with k|k|k<;>simp[k,hz])]
 ·rw[aM hz,aF,ag];by_cases ko:h.2.1=1
  ·rw[aP ko,ag];rw[show decide ((h.2.1=3∧WC h.2.2.2.2.2.2.2.1 100)∨(h.2.1≠3∧h.2.2.2.2.2.2.2.1=[]))=decide (kindOk h) from decide_eq_decide.2 (by unfold kindOk;simp[ko])]
  ·rw[aM ko,af];rw[show decide (kindOk h)=false from dJ (by unfold kindOk;simp[ko,hz])]
def HU(b:List UInt8)(k:Nat):Nat:=if 148≤k∧k<156 then 32 else(b.getD k 0).toNat
def rN(b:List UInt8):Nat→Nat
 | 0=>0
 | k+1=>rN b k+HU b k
theorem N3(b:List UInt8)(k:Nat):HU b k≤255:=by
 unfold HU;have:=(b.getD k 0).toNat_lt;split<;>omega
theorem VM(b:List UInt8)(k:Nat):rN b k≤255*k:=by
 induction k with
 | zero=>exact cU _
 | succ k ih=>have:=N3 b k;simp only[rN];omega
theorem Yr:idx ([(0,(100,())),(100,(8,())),(108,(8,())),(116,(8,())),(124,(12,())),(136,(12,())),(148,(8,())),(156,(1,())),(157,(100,())),(257,(8,())),(345,(155,()))]:List (Int×Int×Unit)) 6=some (148,(8,())):=rfl
theorem JF(b:List UInt8)(hb:b.length≤1048576):Bq (b,())=some ((rN b b.length:Int),()):=by
 unfold Bq qC;rw[aa];dsimp only;rw[Yr,aa,dO (by simp only[len];omega),ag];have key:Loop (mI (b,()) (148,(8,()))) ((0,(0,())),())=some (((rN b b.length:Int),((b.length:Int),())),()) :=
  de (f:=mI (b,()) (148,(8,()))) (r:=(((rN b b.length:Int),((b.length:Int),())),())) b.length (fun k=>(((rN b k:Int),((k:Int),())),())) (fun k hk=>by
   unfold mI;dsimp only;have h1:=VM b k;have h2:=N3 b k;have hgd:b.getD k 0=b[k]:=by simp[RT,hk]
   rw[lB,aT (by omega),ag,bE (by omega) (by omega),ag,AO b hk,aa,dh,aY (by omega),show aL .i64 148 8=156 from by decide];have hs:(aj (aj (cX 148 (k:Int)) (bB (k:Int) 156) false) (((32:Int),()),()) ((u8 b[k],()),())).1.1=(HU b k:Int):=by
    unfold HU;by_cases h:148≤k
    ·by_cases h':k<156
     ·rw[cE (by omega),ag,aT (by omega),ag,bu ⟨h,h'⟩];rfl
     ·rw[cE (by omega),ag,aH (by omega),af,br (fun e=>h' e.2),hgd];rfl
    ·rw[fU (by omega),af,af,br (fun e=>h e.1),hgd];rfl
   rw[hs,El (by omega) (by omega),show aL .i64 (rN b k:Int) (HU b k:Int)=((rN b k+HU b k:Nat):Int) from xQ (by omega)];rfl) (by
   unfold mI;dsimp only;rw[lB,aH (by omega),af,dR])
 rw[key,aa]
theorem HV(b:List UInt8)(hb:b.length≤1048576):yP (b,())=some ((rN b b.length:Int),()):=by
 unfold yP;have key:Loop (oC (b,())) ((0,(0,())),())=some (((rN b b.length:Int),((b.length:Int),())),()) :=
  de (f:=oC (b,())) (r:=(((rN b b.length:Int),((b.length:Int),())),())) b.length (fun k=>(((rN b k:Int),((k:Int),())),())) (fun k hk=>by
   unfold oC;dsimp only;have h1:=VM b k;have h2:=N3 b k;have hgd:b.getD k 0=b[k]:=by simp[RT,hk]
   have hu:=b[k].toNat_lt;have e:∀v:Nat,v=HU b k→aL .i64 (rN b k:Int) (v:Int)=((rN b (k+1):Nat):Int):=fun v hv=>by
    rw[hv,xQ (by omega)];rfl
   rw[aT (by simp only[len];omega),ag];unfold HU at e;by_cases h:148≤k
   ·by_cases h':k<156
    ·rw[cE (by omega),ag,aT (by omega),ag,aa,dh,aY (by omega)];dsimp only;rw[show aL .i64 (rN b k:Int) 32=_ from e 32 (by rw[bu ⟨h,h'⟩])]
    ·rw[cE (by omega),ag,aH (by omega),af,Es b hk,aa,aa,dh,aY (by omega)];dsimp only;rw[show qW .i64 (u8 b[k])=(b[k].toNat:Int) from El (by unfold u8;omega) (by unfold u8;omega),e b[k].toNat (by rw[br (fun e=>h' e.2),hgd])]
   ·rw[fU (by omega),af,af,Es b hk,aa,aa,dh,aY (by omega)];dsimp only;rw[show qW .i64 (u8 b[k])=(b[k].toNat:Int) from El (by unfold u8;omega) (by unfold u8;omega),e b[k].toNat (by rw[br (fun e=>h e.1),hgd])]) (by
   unfold oC;dsimp only;rw[aH (by simp only[len];omega),af,dR])
 rw[key,aa]
end Go.Ge
namespace Go.Ge
variable [Lp]
def vI(n:Nat):List UInt8:=List.replicate n 0
theorem xT(n:Nat):(vI n).length=n:=TS
def nO:List UInt8:=[117,115,116,97,114,0,48,48]
theorem Ys(fs:List (List UInt8))(k:Nat)(hk:k<fs.length):fs.flatten=(fs.take k).flatten++(fs[k]++(fs.drop (k+1)).flatten):=by
 conv=>lhs;rw[←CE k fs,CD hk]
 rw[List.flatten_append,acP]
theorem aeJ(fs:List (List UInt8))(k:Nat)(hk:k<fs.length)(x:List UInt8):(fs.set k x).flatten=(fs.take k).flatten++(x++(fs.drop (k+1)).flatten):=by
 rw[List.set_eq_take_append_cons_drop,bu hk,List.flatten_append,acP]
theorem aeK(A z R s:List UInt8)(off:Nat)(hA:A.length=off)(hs:s.length≤z.length):over (ay (A++(z++R))) (off:Int) (ay s)=ay (A++((s++z.drop s.length)++R)):=by
 unfold over;rw[u6,gD];have h1:(ay (A++(z++R))).take off=ay A:=by rw[Dh,Za hA]
 have h2:(ay (A++(z++R))).drop (off+s.length)=ay (z.drop s.length++R):=by
  have:(A++(z++R)).drop (off+s.length)=z.drop s.length++R:=by
   rw[←hA,←zw,EG,aah hs]
  rw[←this];simp[ay,List.map_drop]
 rw[h1,h2,←uK,←uK,pZ,pZ]
theorem ov(fs:List (List UInt8))(k:Nat)(hk:k<fs.length)(s:List UInt8)(n l off:Nat)(hz:fs[k]=vI n)(hl:s.length=l)(Wz:l≤n)(ho:(fs.take k).flatten.length=off)(h5:off+l≤512) :
  over (ay fs.flatten) (off:Int) (iH (ay s) (minus 512 (off:Int)))=ay (fs.set k (s++vI (n-l))).flatten:=by
 have e:iH (ay s) (minus 512 (off:Int))=ay s:=by
  unfold iH minus;rw[GG];rw[gD];omega
 rw[e,Ys fs k hk,aeK _ _ _ _ off ho (by rw[hz,xT];omega),aeJ fs k hk,hz,hl];simp[vI]
def aeL(h:Hd)(m u g z t:Nat)(kd:UInt8)(sm:List UInt8):List (List UInt8):=[h.1++vI (100-h.1.length),Yh m 7++vI 1,Yh u 7++vI 1,Yh g 7++vI 1,Yh z 11++vI 1,Yh t 11++vI 1,sm,[kd]++vI 0,h.2.2.2.2.2.2.2.1++vI (100-h.2.2.2.2.2.2.2.1.length),nO++vI 0,vI 80,vI 155,vI 12]
end Go.Ge
namespace Go.Ge
variable [Lp]
def ZQ:List (Int×Int×Unit):=[(0,(100,())),(100,(8,())),(108,(8,())),(116,(8,())),(124,(12,())),(136,(12,())),(148,(8,())),(156,(1,())),(157,(100,())),(257,(8,())),(345,(155,()))]
theorem Yt:qC ()=some (ZQ,()):=rfl
structure Fits (h:Hd) (m u g z t:Nat) (kd:UInt8):Prop where
 path:h.1.length≤100
 link:h.2.2.2.2.2.2.2.1.length≤100
 m:h.2.2.1=(m:Int)∧m<2097152
 u:h.2.2.2.1=(u:Int)∧u<2097152
 g:h.2.2.2.2.1=(g:Int)∧g<2097152
 z:h.2.2.2.2.2.1=(z:Int)∧z<8589934592
 t:h.2.2.2.2.2.2.1=(t:Int)∧t<8589934592
 kind:(h.2.1=1∧kd=48)∨(h.2.1=2∧kd=53)∨(h.2.1=3∧kd=50)
def amF(h:Hd)(m u g z t:Nat)(kd:UInt8):List UInt8:=(aeL h m u g z t kd (Yh (rN (aeL h m u g z t kd (vI 8)).flatten 512) 6++[0,32])).flatten
end Go.Ge
namespace Go.Ge
variable [Lp]
theorem LD(s:List UInt8)(hs:s.length≤1048576):∃n ok,eg (s,())=some (n,(ok,())):=by
 unfold eg;dsimp only;cases hc:(aj (nt (bB (len s) 1)) (bB 21 (len s)) true) with
 | true=>exact⟨0,false,rfl⟩
 | false =>
   rw[af,dO (by simp only[len];omega),ag];have key:∀(k i:Nat) (v:Int),s.length-i≤k→i≤s.length→∃q,Loop (bR (s,())) ((0,(false,(v,((i:Int),())))),())=some q:=by
    intro k;induction k with
    | zero =>
      intro i v h hi;rw[aX];unfold bR;dsimp only;rw[lB,aH (by omega),af];exact⟨_,rfl⟩
    | succ k ih =>
      intro i v h hi;by_cases hlt:i<s.length
      ·cases hd:(aj (nt (bB (u8 s[i]) 48)) (bB 55 (u8 s[i])) true) with
       | true =>
         have e0:bR (s,()) ((0,(false,(v,((i:Int),())))),())=some (.inr (1,((0,(false,(v,((i:Int),())))),()))):=by
          unfold bR;dsimp only;rw[lB,aT (by omega),ag,bE (by omega) (by omega),ag,AO s hlt,aa,hd,ag]
         rw[aX,e0];exact⟨_,rfl⟩
       | false =>
         have e0:bR (s,()) ((0,(false,(v,((i:Int),())))),())=some (.inl ((0,(false,(zx .i64 (nu .i64 v 3) (qW .i64 (ef .u8 (u8 s[i]) 48)),(((i+1:Nat):Int),())))),())):=by
          unfold bR;dsimp only;rw[lB,aT (by omega),ag,bE (by omega) (by omega),ag,AO s hlt,aa,hd,af,aH (by decide),af,aY (by omega)]
         rw[aX,e0];exact ih (i+1) _ (by omega) (by omega)
      ·rw[aX];unfold bR;dsimp only;rw[lB,aH (by omega),af];exact⟨_,rfl⟩
   obtain⟨q,hq⟩:=key s.length 0 0 (by omega) (by omega);rw[show Loop (bR (s,())) ((0,(false,(0,(0,())))),())=some q from hq,aa];cases fT q.1 0 with
   | true=>exact⟨_,_,rfl⟩
   | false=>exact⟨_,_,rfl⟩
theorem pU(p:UInt8→Bool)(s:List UInt8):(cA p s).length≤s.length:=by
 unfold cA;rw[acJ];have:=KT (p:=p) (l:=s.reverse);have:=congrArg List.length this;rw[iO,acJ] at this;omega
theorem eZ(s:List UInt8)(hs:s.length≤1048576):∃n,dK (s,())=some (n,()):=by
 unfold dK;dsimp only;have hl:=pU yx s;rw[HM s hs,aa];obtain⟨n,ok,h⟩:=LD (cA yx s) (by omega);dsimp only;rw[h,aa];cases (aj (nt (nt ok)) (bI (len (cA yx s)) (len s)) true) with
 | true=>exact⟨_,rfl⟩
 | false=>exact⟨_,rfl⟩
def gG(b:List UInt8)(a n:Nat):List UInt8:=(b.drop a).take n
theorem cq(b:List UInt8)(a n:Nat):(gG b a n).length≤n:=by simp[gG];omega
theorem oR(b:List UInt8)(hb:b.length=512)(k:Int)(a n:Nat)(hk:idx ZQ k=some ((a:Int),((n:Int),())))(h:a+n≤512):cg (b,(k,()))=some (gG b a n,()):=by
 unfold cg;rw[Yt,aa];dsimp only;rw[hk,aa];dsimp only;rw[show aL .i64 (a:Int) (n:Int)=((a+n:Nat):Int) from xQ (by omega),bq (by omega) (by omega) (by simp only[len];omega),ag];unfold sub minus gG;rw[u6,show(((a+n:Nat):Int)-(a:Int)).toNat=n by omega]
section
variable (b:List UInt8)
theorem o0(hb:b.length=512):cg (b,(0,()))=some (gG b 0 100,()):=oR b hb 0 0 100 rfl (by omega)
theorem o1(hb:b.length=512):cg (b,(1,()))=some (gG b 100 8,()):=oR b hb 1 100 8 rfl (by omega)
theorem o2(hb:b.length=512):cg (b,(2,()))=some (gG b 108 8,()):=oR b hb 2 108 8 rfl (by omega)
theorem o3(hb:b.length=512):cg (b,(3,()))=some (gG b 116 8,()):=oR b hb 3 116 8 rfl (by omega)
theorem o4(hb:b.length=512):cg (b,(4,()))=some (gG b 124 12,()):=oR b hb 4 124 12 rfl (by omega)
theorem o5(hb:b.length=512):cg (b,(5,()))=some (gG b 136 12,()):=oR b hb 5 136 12 rfl (by omega)
theorem o6(hb:b.length=512):cg (b,(6,()))=some (gG b 148 8,()):=oR b hb 6 148 8 rfl (by omega)
theorem o7(hb:b.length=512):cg (b,(7,()))=some (gG b 156 1,()):=oR b hb 7 156 1 rfl (by omega)
theorem o8(hb:b.length=512):cg (b,(8,()))=some (gG b 157 100,()):=oR b hb 8 157 100 rfl (by omega)
theorem o9(hb:b.length=512):cg (b,(9,()))=some (gG b 257 8,()):=oR b hb 9 257 8 rfl (by omega)
theorem o10(hb:b.length=512):cg (b,(10,()))=some (gG b 345 155,()):=oR b hb 10 345 155 rfl (by omega)
end
def abz:Hd:=([],(0,(0,(0,(0,(0,(0,([],()))))))))
theorem Gn(b:List UInt8)(hb:b.length=512)(hm:gG b 257 8≠nO):gC (b,())=some (abz,(2,())):=by
 unfold gC;dsimp only;rw[aP (by simp only[len];omega),aJ,aF,ag,o9 b hb,aa,aa,show([117,115,116,97,114,0,48,48]:List UInt8)=nO from rfl];dsimp only;rw[show cc (gG b 257 8) nO=false from dJ hm,aF,aJ,af,aa,ag];rfl
theorem VN(b:List UInt8)(hb:b.length=512){n:Int}(hn:dK (gG b 148 8,())=some (n,()))(hne:n≠(rN b 512:Int)):gC (b,())=some (abz,(2,())):=by
 by_cases hm:gG b 257 8=nO
 ·unfold gC;dsimp only;rw[aP (by simp only[len];omega),aJ,aF,ag,o9 b hb,aa,aa,show([117,115,116,97,114,0,48,48]:List UInt8)=nO from rfl];dsimp only;rw[hm,show cc nO nO=true from xF _,aJ,aF,ag,o6 b hb,aa];dsimp only;rw[hn,aa,JF b (by omega),aa];dsimp only;rw[hb,aM hne,aF,aa,ag];rfl
 ·exact Gn b hb hm
end Go.Ge
namespace Go.Ge
variable [Lp]
section
variable {h:Hd} {m u g z t:Nat} {kd:UInt8}
theorem agQ(n:Nat):∀x∈vI n,x=0:=fun x hx=>List.eq_of_mem_replicate hx
end
end Go.Ge
namespace Go.Ge
variable [Lp]
def hA:Hd:=([100,47],(2,(493,(0,(0,(0,(1,([],()))))))))
def hC:Hd:=([100],(2,(0,(0,(0,(1,(0,([],()))))))))
end Go.Ge
namespace Go.Ge
variable [Lp]
abbrev Pt:=Hd×List UInt8×Unit
def hsize(h:Hd):Int:=h.2.2.2.2.2.1
def amG(h:Hd):UInt8:=if h.2.1=1 then 48 else if h.2.1=2 then 53 else 50
def amH(h:Hd):List UInt8:=amF h h.2.2.1.toNat h.2.2.2.1.toNat h.2.2.2.2.1.toNat h.2.2.2.2.2.1.toNat h.2.2.2.2.2.2.1.toNat (amG h)
def amI(p:Pt):Prop:=Lx p.1 100∧hsize p.1=(p.2.1.length:Int)
instance (p:Pt):Decidable (amI p):=inferInstanceAs (Decidable (_∧_))
def nP(n:Nat):Nat:=(512-n % 512) % 512
def body(p:Pt):List UInt8:=amH p.1++p.2.1++vI (nP p.2.1.length)
theorem VO(n:Nat):nP n<512:=IU _ (by decide)
theorem VP(n:Nat)(hn:n≤1048576):Bs ((n:Int),())=some ((nP n:Int),()):=by
 unfold Bs;dsimp only;rw[show bI 512 0=false from rfl,af,af];have e1:jz (n:Int) 512=((n % 512:Nat):Int):=rfl;rw[e1,eT (by omega) (by omega),show(512:Int)-((n % 512:Nat):Int)=((512-n % 512:Nat):Int) by omega];rfl
theorem VQ(n:Nat):Lib.repeatL [0] n=vI n:=by
 induction n with
 | zero=>rfl
 | succ n ih =>
   show [0]++Lib.repeatL [0] n=vI (n+1)
   rw[ih];rfl
theorem VR(n:Nat)(hn:n≤1048576):zL ((n:Int),())=some (vI n,()):=by
 unfold zL;dsimp only;have:pn ([0],((n:Int),()))=some (vI n,()):=by
  show(gr [0] (n:Int)).map (fun y=>(y,()))=_
  unfold gr;rw[br (by rw[u6];simp only[ep,ig];omega),u6,VQ];rfl
 rw[this,aa]
theorem VS(n:Nat)(hn:n≤1048576):mX ((n:Int),())=some (((n+nP n:Nat):Int),()):=by
 unfold mX;dsimp only;have key:=de (f:=lp) (r:=((((n+nP n:Nat):Int),()),())) (nP n) (fun i=>((((n+i:Nat):Int),()),())) (fun i hi=>by
  have hm:=hi;unfold nP at hm;unfold lp;dsimp only;rw[show bI 512 0=false from rfl,af,show jz ((n+i:Nat):Int) 512=(((n+i) % 512:Nat):Int) from rfl,aM (by omega),aF,ag,aY (by omega)];rfl) (by
  unfold lp;dsimp only;rw[show bI 512 0=false from rfl,af,show jz ((n+nP n:Nat):Int) 512=(((n+nP n) % 512:Nat):Int) from rfl,aP (by unfold nP;omega),aJ,af];rfl)
 rw[show Loop lp (((n:Int),()),())=_ from key,aa]
structure ao6 (l:List Pt) (n:Nat):Prop where
 many:l.length≤n
 path:∀p∈l,p.1.1.length≤300
 link:∀p∈l,p.1.2.2.2.2.2.2.2.1.length≤300
 data:∀p∈l,p.2.1.length≤8192
end Go.Ge
namespace Go.Ge
variable [Lp]
abbrev Rd:=Bool×List UInt8×Int×Bool×Bool×Unit
def Tf:Pt:=(abz,([],()))
def rd(r:List UInt8)(n:Int):Rd:=(true,(r,(n,(false,(false,())))))
def Dr(n:Int)(b:Bool):Rd:=(true,([],(n,(true,(b,())))))
theorem abA(r:List UInt8)(n:Int)(b:Bool):bY ((),((true,(r,(n,(true,(b,()))))),()))=some ((Tf,(false,())),((true,(r,(n,(true,(b,()))))),())):=by
 unfold bY;dsimp only;rfl
theorem HW(r:List UInt8)(n:Int)(b:Bool):fM ((b,()),(rd r n,()))=some ((Tf,(false,())),(Dr n b,())):=rfl
theorem N4(r:List UInt8)(n:Int)(h:r.length<512):bY ((),(rd r n,()))=some ((Tf,(false,())),(Dr n true,())):=by
 have e:=HW r n true;unfold bY;dsimp only[rd] at e⊢;rw[aJ,aF,ag,af,aT (by rw[bX];omega),ag,e,aa]
theorem JG(r:List UInt8)(n:Int)(h:512≤r.length)(hl:r.length≤1048576)(hz:∀x∈r.take 512,x=0) :
  bY ((),(rd r n,()))=some ((Tf,(false,())),(Dr n (!decide (1024≤r.length∧r.length % 512=0∧∀x∈r,x=0)),())):=by
 have e:=fun b=>HW r n b;unfold bY;dsimp only[rd] at e⊢;have ht:(r.take 512).length=512:=by rw[cW];omega
 rw[aJ,aF,ag,af,aH (by rw[bX];omega),af,bq (by decide) (by decide) (by rw[bX];omega),ag,show sub r 0 (minus 512 0)=r.take 512 from kY r 512,NT _ (by omega),fo ⟨ht,hz⟩,aa,ag];rw[show bI 512 0=false from rfl,af,show jz (len r) 512=((r.length % 512:Nat):Int) from rfl,show cX 1024 (len r)=decide (1024≤r.length) from by unfold cX len;apply decide_eq_decide.2;omega,show bI ((r.length % 512:Nat):Int) 0=decide (r.length % 512=0) from by unfold bI;apply decide_eq_decide.2;omega,VG r hl];have hb:decide ((cA cr r).dropWhile cr=[])=decide (∀x∈r,x=0):=decide_eq_decide.2 (xS r);by_cases a:1024≤r.length
 ·by_cases b:r.length % 512=0
  ·by_cases c:∀x∈r,x=0
   ·have c':=(xS r).2 c;rw[fo a,ag,fo b,aa,aJ,aF,ag,aa,aa];dsimp only;rw[gH c',aJ,e,aa,fo ⟨a,b,c⟩];rfl
   ·have c':¬(cA cr r).dropWhile cr=[]:=fun q=>c ((xS r).1 q);rw[fo a,ag,fo b,aa,aJ,aF,ag,aa,aa];dsimp only;rw[cJ c',aF,e,aa,dJ (fun q=>c q.2.2)];rfl
  ·rw[fo a,ag,dJ b,aa,aF,aJ,af,aa,e,aa,dJ (fun q=>b q.2.1)];rfl
 ·rw[dJ a,af,aa,aF,aJ,af,aa,e,aa,dJ (fun q=>a q.1)];rfl
theorem Rn(p:Pt)(out:List Pt)(st:Rd)(ho:out.length≤1000){p1:Pt}{ok1:Bool}{st1:Rd}(h:bY ((),(st,()))=some ((p1,(ok1,())),(st1,()))) :
  iL (((),((),(true,()))),(p,(out,(st,()))))=some (.inl (((),((),(ok1,()))),(p1,(out++[p],(st1,()))))):=by
 unfold iL;dsimp only;rw[ag,cG (by simp only[ep,ig];omega),ag,h,aa];rfl
theorem w9(p:Pt)(out:List Pt)(st:Rd):iL (((),((),(false,()))),(p,(out,(st,()))))=some (.inr (((),((),(false,()))),(p,(out,(st,()))))):=rfl
theorem Ro(s:List UInt8)(h:8192<s.length):kC (s,())=some ([],(10,())):=by
 unfold kC;dsimp only;rw[aT (by rw[bX];omega),abA,aa];dsimp only;rw[aX,w9];rfl
end Go.Ge
namespace Go.Ge
variable [Lp]
theorem aiR(c:Bool)(h:Hd):∃x e,ah (aj c (ah (vn (h,((256:Int),()))) (fun(y21:Bool×Unit)=>some (nt y21.1))) (some true)) (fun y=>aj y (some (abz,((2:Int),()))) (some (h,((0:Int),()))))=some (x,(e,()))∧(e=0→Lx x 256):=by
 rw[VH,aa];cases c with
 | false=>exact⟨_,_,rfl,fun q=>absurd q (by decide)⟩
 | true =>
   by_cases hk:Lx h 256
   ·rw[fo hk];exact⟨h,0,rfl,fun _=>hk⟩
   ·rw[dJ hk];exact⟨_,_,rfl,fun q=>absurd q (by decide)⟩
theorem ZR(b:List UInt8)(hb:b.length=512):∃x e,gC (b,())=some (x,(e,()))∧(e=0→Lx x 256):=by
 by_cases hm:gG b 257 8=nO
 case neg=>exact⟨_,_,Gn b hb hm,fun e=>absurd e (by decide)⟩
 obtain⟨n6,h6⟩:=eZ (gG b 148 8) (by have:=cq b 148 8;omega);by_cases hs:n6=(rN b 512:Int)
 case neg=>exact⟨_,_,VN b hb h6 hs,fun e=>absurd e (by decide)⟩
 obtain⟨n1,h1⟩:=eZ (gG b 100 8) (by have:=cq b 100 8;omega);obtain⟨n2,h2⟩:=eZ (gG b 108 8) (by have:=cq b 108 8;omega);obtain⟨n3,h3⟩:=eZ (gG b 116 8) (by have:=cq b 116 8;omega);obtain⟨n4,h4⟩:=eZ (gG b 124 12) (by have:=cq b 124 12;omega);obtain⟨n5,h5⟩:=eZ (gG b 136 12) (by have:=cq b 136 12;omega);have t0:=HO (gG b 0 100) (by have:=cq b 0 100;omega);have t8:=HO (gG b 157 100) (by have:=cq b 157 100;omega);have t10:=HO (gG b 345 155) (by have:=cq b 345 155;omega);have l0:=pU cr (gG b 0 100);have l10:=pU cr (gG b 345 155);have m0:=cq b 0 100;have m10:=cq b 345 155;unfold gC;dsimp only;rw[aP (by simp only[len];omega),aJ,aF,ag,o9 b hb,aa,aa,show([117,115,116,97,114,0,48,48]:List UInt8)=nO from rfl];dsimp only;rw[hm,show cc nO nO=true from xF _,aJ,aF,ag,o6 b hb,aa];dsimp only;rw[h6,aa,JF b (by omega),aa];dsimp only;rw[hb,aP hs,aJ,aa,af,o0 b hb,aa];dsimp only;rw[t0,aa,o8 b hb,aa];dsimp only;rw[t8,aa,o10 b hb,aa];dsimp only;rw[t10,aa];dsimp only;have hpre:∃p:List UInt8,(aj (nt (cc (cA cr (gG b 345 155)) [])) (aj (fits (plus (len (cA cr (gG b 345 155))) (len ([47]:List UInt8)))) (aj (fits (plus (len (app (cA cr (gG b 345 155)) [47])) (len (cA cr (gG b 0 100)))))
   (some ((app (app (cA cr (gG b 345 155)) [47]) (cA cr (gG b 0 100)),()),())) none) none) (some ((cA cr (gG b 0 100),()),())))=some ((p,()),()):=by
  cases (nt (cc (cA cr (gG b 345 155)) [])) with
  | true =>
    rw[ag,dO (by simp only[plus,len,ep,ig];omega),ag,dO (by simp only[plus,len,app,iO,ep,ig];omega),ag];exact⟨_,rfl⟩
  | false=>exact⟨_,rfl⟩
 obtain⟨p,hp⟩:=hpre;rw[hp,aa,o1 b hb,aa];dsimp only;rw[h1,aa,o2 b hb,aa];dsimp only;rw[h2,aa,o3 b hb,aa];dsimp only;rw[h3,aa,o4 b hb,aa];dsimp only;rw[h4,aa,o5 b hb,aa];dsimp only;rw[h5,aa,o7 b hb,aa];exact aiR _ _
theorem VT(r:List UInt8)(n:Nat)(hl:r.length≤10000):∃p ok st,bY ((),(rd r (n:Int),()))=some ((p,(ok,())),(st,())) ∧
  ((ok=false∧∃b,st=Dr (n:Int) b)∨(ok=true∧Lx p.1 256∧p.2.1.length≤r.length∧n<64∧∃r',st=rd r' ((n+1:Nat):Int)∧r'.length+512≤r.length)):=by
 by_cases aiS:r.length<512
 ·exact⟨_,_,_,N4 r n aiS,.inl ⟨rfl,_,rfl⟩⟩
 by_cases hz:∀x∈r.take 512,x=0
 ·exact⟨_,_,_,JG r n (by omega) (by omega) hz,.inl ⟨rfl,_,rfl⟩⟩
 have e:=fun b=>HW r (n:Int) b;have ht:(r.take 512).length=512:=by rw[cW];omega
 obtain⟨x,er,t1,t2⟩:=ZR (r.take 512) ht;have hdl:(r.drop 512).length=r.length-512:=qV;unfold bY;dsimp only[rd] at e⊢;rw[aJ,aF,ag,af,aH (by rw[bX];omega),af,bq (by decide) (by decide) (by rw[bX];omega),ag,show sub r 0 (minus 512 0)=r.take 512 from kY r 512];rw[NT (r.take 512) (by omega),aa];dsimp only;rw[dJ (fun q=>hz q.2),af,ag,t1,aa,bq (by decide) (by rw[bX];omega) (EH _),ag,show sub r 512 (minus (len r) 512)=r.drop 512 from sw r 512 (by omega)];dsimp only;by_cases he:er=0
 case neg =>
  rw[aM he,aF,ag,e,aa];exact⟨_,_,_,rfl,.inl ⟨rfl,_,rfl⟩⟩
 rw[aP he,aJ,af];have hok:=t2 he;obtain⟨s0,s1⟩:=hok.2.2.2.1;obtain⟨k,hk⟩:=acB s0;rw[hk];by_cases h1:(r.drop 512).length<k
 ·rw[aT (by rw[bX];omega),ag,e,aa];exact⟨_,_,_,rfl,.inl ⟨rfl,_,rfl⟩⟩
 ·have hf:=VO k;rw[aH (by rw[bX];omega),af,VP k (by omega),aa,fJ (by omega) (by omega)];dsimp only;by_cases h2:(r.drop 512).length<k+nP k
  ·rw[aT (by rw[bX];omega),ag,e,aa];exact⟨_,_,_,rfl,.inl ⟨rfl,_,rfl⟩⟩
  ·rw[aH (by rw[bX];omega),af];by_cases h3:64≤n
   ·rw[cE (by omega),ag,e,aa];exact⟨_,_,_,rfl,.inl ⟨rfl,_,rfl⟩⟩
   ·rw[fU (by omega),af,aa,fJ (by omega) (by omega),bq (by omega) (by rw[bX];omega) (EH _),ag,bq (by omega) (by omega) (by rw[bX];omega),ag];rw[show sub (r.drop 512) 0 (minus (k:Int) 0)=(r.drop 512).take k from kY _ k,show(k:Int)+(nP k:Int)=((k+nP k:Nat):Int) by omega,sw _ (k+nP k) (by omega),aY (by omega)];refine⟨_,_,_,rfl,.inr ⟨rfl,hok,?_,by omega,_,rfl,?_⟩⟩
    ·dsimp only;rw[cW];omega
    ·rw[qV];omega
theorem N5{h:Hd}(k:Lx h 256):h.1.length≤300∧h.2.2.2.2.2.2.2.1.length≤300:=by
 obtain⟨_,_,_,_,_,⟨_,c1,_⟩,c2⟩:=k;refine⟨by omega,?_⟩;rcases c2 with ⟨_,e⟩|⟨_,e,_⟩|⟨_,⟨_,e,_⟩,_⟩
 ·rw[e];simp
 ·rw[e];simp
 ·omega
def RdP(p:Pt):Prop:=p.1.1.length≤300∧p.1.2.2.2.2.2.2.2.1.length≤300∧p.2.1.length≤8192
theorem abB:∀(m n:Nat) (r:List UInt8) (out:List Pt) (p:Pt),r.length≤m→r.length≤8192→out.length+1=n→n≤64→(∀q∈out++[p],RdP q) →
  ∃(out':List Pt) (p':Pt) (b:Int×Bool),Loop iL (((),((),(true,()))),(p,(out,(rd r (n:Int),()))))=some (((),((),(false,()))),(p',(out',(Dr b.1 b.2,()))))∧out'.length≤64∧∀q∈out',RdP q:=by
 intro m;induction m using Nat.strongRecOn with
 | _ m ih =>
   intro n r out p hm hr hn CC hq;obtain⟨p1,ok1,st1,h1,h2⟩:=VT r n (by omega);have hstep:=Rn p out (rd r (n:Int)) (by omega) h1;rcases h2 with ⟨rfl,b,rfl⟩|⟨rfl,k1,k2,k3,r',rfl,k4⟩
   ·refine⟨out++[p],p1,((n:Int),b),?_,by rw[iO];simp;omega,hq⟩;rw[aX,hstep];show Loop _ _=_
    rw[aX,w9];rfl
   ·have hs:=N5 k1;obtain⟨o,p',b,z1,z2,z3⟩:=ih r'.length (by omega) (n+1) r' (out++[p]) p1 (cU _) (by omega) (by rw[iO];simp;omega) (by omega) (fun q hqq=>by
     rcases List.mem_append.1 hqq with hqq|hqq
     ·exact hq q hqq
     ·rw[Cw] at hqq;subst hqq;exact⟨hs.1,hs.2,by omega⟩)
    exact⟨o,p',b,by rw[aX,hstep];exact z1,z2,z3⟩
theorem aeM(s:List UInt8):∃l e,kC (s,())=some (l,(e,()))∧l.length≤64∧(∀q∈l,RdP q)∧(e=0∨(e=10∧l=[])):=by
 by_cases h8:8192<s.length
 ·exact⟨_,_,Ro s h8,by simp,fun q hq=>(by cases hq),.inr ⟨rfl,rfl⟩⟩
 obtain⟨p,ok,st,h1,h2⟩:=VT s 0 (by omega);have fin:∀(b:Int×Bool) (o:List Pt),(ah (lg ((),(Dr b.1 b.2,()))) fun y3=>aj y3.1.1 (some (([]:List Pt),((10:Int),()))) (some (o,((0:Int),()))))=some (if b.2=true then(([]:List Pt),((10:Int),())) else(o,((0:Int),()))):=fun b o=>by
  obtain⟨b1,b2⟩:=b;cases b2<;>rfl
 unfold kC;dsimp only;rw[aH (by rw[bX];omega),show bY ((),((true,(s,((0:Int),(false,(false,()))))),()))=_ from h1,aa];dsimp only;rcases h2 with ⟨rfl,b,rfl⟩|⟨rfl,k1,k2,k3,r',rfl,k4⟩
 ·rw[aX,w9];show ∃l e,(ah (lg ((),(Dr _ _,()))) fun y3=>aj y3.1.1 (some (([]:List Pt),((10:Int),()))) (some (([]:List Pt),((0:Int),()))))=_∧_
  rw[fin (_,_)];cases b with
  | true=>exact⟨_,_,rfl,by simp,fun q hq=>(by cases hq),.inr ⟨rfl,rfl⟩⟩
  | false=>exact⟨_,_,rfl,by simp,fun q hq=>(by cases hq),.inl rfl⟩
 ·have hs:=N5 k1;obtain⟨o,p',b,z1,z2,z3⟩:=abB r'.length 1 r' [] p (cU _) (by omega) rfl (by omega) (fun q hq=>by
   rw[zu,Cw] at hq;subst hq;exact⟨hs.1,hs.2,by omega⟩)
  rw[show Loop iL (((),((),(true,()))),(p,(([]:List Pt),(rd r' ((0+1:Nat):Int),()))))=_ from z1,aa];dsimp only;rw[fin b o];cases hb:b.2 with
  | true=>exact⟨_,_,rfl,by simp,fun q hq=>(by cases hq),.inr ⟨rfl,rfl⟩⟩
  | false=>exact⟨_,_,rfl,z2,z3,.inl rfl⟩
end Go.Ge
namespace Go.Ge
variable [Lp]
set_option maxRecDepth 100000
end Go.Ge
namespace Go.Ge
variable [Lp]
abbrev Nd:=List UInt8×Int×Int×List UInt8×List UInt8×Unit
theorem Tg{a b:Int}:(cX a b=true)↔a≤b:=by
 constructor
 ·intro h;rcases Int.lt_or_le b a with g|g
  ·rw[fU g] at h;cases h
  ·exact g
 ·exact cE
theorem Th{a b:Int}:cX a b=decide (a≤b):=by
 rw[RU,Tg,nY]
def Ds(p:List UInt8):Bool:=decide (p≠[])&&(parts p).all Cz&&decide ((parts p).length≤8)&&decide (p.length≤92)&&decide ((bM p).2.length≤28)&&decide ((oI (bM p).2).1=0)
def ZS(n:Nd):Bool:=if n.2.1=1 then decide (n.2.2.2.2.1=[]∧n.2.2.2.1.length≤8192) else if n.2.1=2 then decide (n.2.2.2.2.1=[]∧n.2.2.2.1=[]) else if n.2.1=3 then decide (n.2.2.2.1=[]∧n.2.2.2.2.1≠[]∧n.2.2.2.2.1.length≤100∧0∉n.2.2.2.2.1) else false
def lG(n:Nd):Bool:=Ds n.1&&decide (0≤n.2.2.1)&&decide (n.2.2.1≤4095)&&ZS n
theorem Yu(s:List UInt8)(hs:s.length≤1048576):sH (s,())=some (decide (s≠[]∧s.length≤100∧0∉s),()):=by
 unfold sH;rcases p8 (f:=nL (s,())) s (fun i=>((false,(i,())),())) (fun _ x=>decide (x=0)) (fun i x=>(1,((false,((i:Int),())),()))) ((0:Nat),((false,((s.length:Int),())),())) (by omega) (fun i x hx hi ha=>by
  unfold nL;dsimp only;rw[au hi,ag,aB hx,aa,aks,iB,ha];by_cases h0:x=0<;>simp[h0]) (by unfold nL;dsimp only;rw[aE,af]) with ⟨i,x,hx,hp,_,h⟩|⟨hn,h⟩
 ·rw[h,aa,kN,af];have:x=0:=ic hp;subst this;have hm:(0:UInt8)∈s:=bJ.2 ⟨i,hx⟩;rw[dJ (by rintro⟨_,_,h⟩;exact h hm)]
 ·rw[h,aa,cv,ag,Eu];have hm:(0:UInt8)∉s:=fun hm=>by
   obtain⟨i,hi⟩:=bJ.1 hm;have:=hn i 0 hi;exact absurd this (by decide)
  congr 2
  rw[RU];simp only[dW,Tg,len,nY];constructor
  ·rintro⟨h1,h2⟩;exact⟨fun e=>by rw[e] at h1;simp at h1,by omega,hm⟩
  ·rintro⟨h1,h2,_⟩;exact⟨by have:=List.length_pos_iff.2 h1;omega,by omega⟩
theorem za(n:Nd)(hp:n.1.length≤4096)(hl:n.2.2.2.2.1.length≤4096):lS (n,())=some (lG n,()):=by
 obtain⟨p,k,m,d,l,u⟩:=n;unfold lS lG ZS;dsimp only at hp hl⊢;rw[wH p hp,aa];dsimp only;rw[Kq,aa,Rk p (by omega),Yu l (by omega)];simp only[aa,Eu];have e0:(aj (nt (cc p [])) (some ((parts p).all Cz&&decide ((parts p).length≤8)&&decide (p.length≤96))) (some false):Option Bool)=some (decide (p≠[])&&(parts p).all Cz&&decide ((parts p).length≤8)&&decide (p.length≤96)):=by
  by_cases h:p=[]
  ·subst h;rfl
  ·simp[cc,h,aj,nt]
 rw[e0,aa];have e1:((((((decide (p≠[])&&(parts p).all Cz&&decide ((parts p).length≤8)&&decide (p.length≤96))&&cX (len p) 92)&&cX (len (bM p).2) 28)&&bI (oI (bM p).2).1 0)&&cX 0 m)&&cX m 4095)=(Ds p&&decide (0≤m)&&decide (m≤4095)):=by
  rw[RU];unfold Ds;simp only[dW,Tg,len,bI,nY];constructor
  ·rintro⟨⟨⟨⟨⟨⟨⟨⟨a1,a2⟩,a3⟩,a4⟩,a5⟩,a6⟩,a7⟩,a8⟩,a9⟩;exact⟨⟨⟨⟨⟨⟨⟨a1,a2⟩,a3⟩,by omega⟩,by omega⟩,a7⟩,a8⟩,a9⟩
  ·rintro⟨⟨⟨⟨⟨⟨⟨a1,a2⟩,a3⟩,a5⟩,a6⟩,a7⟩,a8⟩,a9⟩;exact⟨⟨⟨⟨⟨⟨⟨⟨a1,a2⟩,a3⟩,by omega⟩,by omega⟩,by omega⟩,a7⟩,a8⟩,a9⟩
 simp only[e1];generalize (Ds p&&decide (0≤m)&&decide (m≤4095))=c;by_cases k1:k=1
 ·subst k1;rw[show bI 1 1=true by rfl,ag,bu rfl]
  congr 2
  rw[Bool.and_assoc]
  congr 1
  rw[RU];simp[cc,Th,len];intro _;omega
 ·rw[show bI k 1=false by simp[bI,k1],af,br k1];by_cases k2:k=2
  ·subst k2;rw[show bI 2 2=true by rfl,ag,bu rfl]
   congr 2
   rw[Bool.and_assoc]
   congr 1
   rw[RU];simp[cc]
  ·rw[show bI k 2=false by simp[bI,k2],af,br k2];by_cases k3:k=3
   ·subst k3;rw[show bI 3 3=true by rfl,ag,bu rfl];cases c with
    | false=>rfl
    | true =>
      by_cases hd:d=[]
      ·simp[cc,hd,aj,ah]
      ·simp[cc,hd,aj,ah]
   ·rw[show bI k 3=false by simp[bI,k3],af,br k3,acZ]
end Go.Ge
