/- Plain laws of what the functions compute: part 2. -/
import Derived.Test.YtpipdmfkbnbchaaGreatDoorPlA
namespace Go.Ge
set_option linter.unusedSectionVars false
variable [Lp]
set_option linter.unusedVariables false
set_option maxRecDepth 100000
abbrev Gb:=(Int×(List (Sb×Sb×(List Sb)×Sb×Int×Int×Bool×Unit))×(List (Sb×(List Sb)×Sb×Sb×(List (Sb×Sb×Sb×Unit))×Unit))×(List (Sb×(List Sb)×Sb×Sb×Sb×(List (Sb×Sb×Sb×Unit))×Unit))×Unit)
abbrev p6:=(Bool×Int×Unit)
abbrev eH:=(Sb×(List Sb)×Unit)
abbrev uu:=((Int×Unit)×Unit×(List eH)×Unit)
abbrev jJ:=(Int×Int×Unit)
abbrev yH:=(List (Sb×Sb×Sb×Unit))
abbrev ga:=(Nat×p6×Unit)
abbrev zD:=(Nat×jJ×(List Sb)×Unit)
abbrev I7:=(Sb×(List Sb)×Sb×Sb×Sb×yH×Unit)
abbrev LU:=(Sb×Sb×(List Sb)×Sb×Int×Int×Bool×Unit)
abbrev dZ:=(p6×Unit)
abbrev Fe:=((Nat×(Int×Unit)×Unit×(List eH)×Unit))
abbrev Cw:=(Sb×(List Sb)×Sb×Sb×yH×Unit)
abbrev uv:=(jJ×(List Sb)×Unit)
noncomputable def dz(l:List (List UInt8))(x:Unit):Option (List (List UInt8)):=bif fits (len l) then some (lW l) else none
noncomputable def dS(l:List (List UInt8))(x:Unit):Option (List (List UInt8)):=some (Lib.compact (α:=List UInt8) l)
noncomputable def bL(x:(List Sb)×Unit):Option ((List Sb)×Unit) :=
 bif fits (len x.1) then some (x.1,()) else none
noncomputable def kJ(x:Sb×Unit):Option (Bool×Unit) :=
 ah (aj (aj (cO (1:Int) (@len UInt8 x.1))
 (cO (@len UInt8 x.1) (32:Int))
 false)
 (ah (gM (x.1,(([(97:UInt8),(98:UInt8),(99:UInt8),(100:UInt8),(101:UInt8),(102:UInt8),(103:UInt8),(104:UInt8),(105:UInt8),(106:UInt8),(107:UInt8),(108:UInt8),(109:UInt8),(110:UInt8),(111:UInt8),(112:UInt8),(113:UInt8),(114:UInt8),(115:UInt8),(116:UInt8),(117:UInt8),(118:UInt8),(119:UInt8),(120:UInt8),(121:UInt8),(122:UInt8),(48:UInt8),(49:UInt8),(50:UInt8),(51:UInt8),(52:UInt8),(53:UInt8),(54:UInt8),(55:UInt8),(56:UInt8),(57:UInt8),(46:UInt8),(95:UInt8),(45:UInt8)]:List (UInt8)),()))) (fun(y1:Sb×Unit)=>some (cc y1.1 ([]:List (UInt8)))))
 (some false)) (fun(y1:Bool)=>some (y1,()))
noncomputable def mP(x:(List Sb)×Unit)(y3:jJ×Unit):Option ((jJ×Unit)⊕(Nat×jJ×Unit)) :=
 aj (aY y3.1.2.1 (@len Sb x.1))
 (ah (@idx Sb x.1 y3.1.2.1) (fun(y4:List (UInt8))=>ah (kJ (y4,())) (fun(y5:Bool×Unit)=>aj (nt y5.1)
 (some (Sum.inr ((1:Nat),((y3.1.2.1,(y3.1.2.1,())),())):((jJ×Unit))⊕((Nat×jJ×Unit))))
 (some (Sum.inl ((y3.1.1,(aI IntKind.i64 y3.1.2.1 (1:Int),())),()):((jJ×Unit))⊕((Nat×jJ×Unit)))))))
 (some (Sum.inr ((0:Nat),((y3.1.1,(y3.1.2.1,())),())):((jJ×Unit))⊕((Nat×jJ×Unit))))
noncomputable def nQ(x:(List Sb)×Unit):Option (Int×Unit) :=
 aj (fits (@len Sb x.1))
 (ah (dz x.1 ()) (fun(y1:List Sb)=>ah (dS y1 ()) (fun(y2:List Sb)=>ah (Loop (mP x) (((0:Int),((0:Int),())),())) (fun(y3:Nat×jJ×Unit)=>aj (fB y3.1 (0:Nat))
 (aj (aj (nt (aj (nt (aY (4:Int) (@len Sb x.1)))
 (aY (@len Sb y2) (@len Sb x.1))
 true))
 (cO (0:Int) (-1:Int))
 true)
 (some ((1:Int),()))
 (some ((0:Int),())))
 (aj (aj (nt (aj (nt (aY (4:Int) (@len Sb x.1)))
 (aY (@len Sb y2) (@len Sb x.1))
 true))
 (cO (0:Int) y3.2.1.1)
 true)
 (some ((1:Int),()))
 (some ((0:Int),())))))))
 none
noncomputable def oh(x:(List eH)×Sb×Unit)(y1:jJ×Sb×Unit):Option ((jJ×Sb×Unit)⊕(Nat×jJ×Sb×Unit)) :=
 aj (aY y1.1.2.1 (@len eH x.1))
 (ah (@idx eH x.1 y1.1.2.1) (fun(y2:Sb×(List Sb)×Unit)=>aj (cc y2.1 y1.2.1)
 (some (Sum.inr ((1:Nat),((y1.1.2.1,(y1.1.2.1,())),(y1.2.1,()))):((jJ×Sb×Unit))⊕((Nat×jJ×Sb×Unit))))
 (some (Sum.inl ((y1.1.1,(aI IntKind.i64 y1.1.2.1 (1:Int),())),(y1.2.1,())):((jJ×Sb×Unit))⊕((Nat×jJ×Sb×Unit))))))
 (some (Sum.inr ((0:Nat),((y1.1.1,(y1.1.2.1,())),(y1.2.1,()))):((jJ×Sb×Unit))⊕((Nat×jJ×Sb×Unit))))
noncomputable def tj(x:(List eH)×Sb×Unit):Option (Int×Unit) :=
 ah (Loop (oh x) (((0:Int),((0:Int),())),(x.2.1,()))) (fun(y1:Nat×jJ×Sb×Unit)=>aj (fB y1.1 (0:Nat))
 (some ((-1:Int),()))
 (some (y1.2.1.1,())))
noncomputable def iw(y4:Sb×(List Sb)×Unit)(y5:jJ×(List Sb)×Unit):Option (uv⊕zD) :=
 aj (aY y5.1.2.1 (@len Sb y4.2.1))
 (ah (@idx Sb y4.2.1 y5.1.2.1) (fun(y6:List (UInt8))=>ah (cl (y5.2.1,(y6,()))) (fun(y7:Bool×Unit)=>aj y7.1
 (some (Sum.inr ((1:Nat),((y5.1.2.1,(y5.1.2.1,())),(y5.2.1,()))):(uv)⊕(zD)))
 (some (Sum.inl ((y5.1.1,(aI IntKind.i64 y5.1.2.1 (1:Int),())),(y5.2.1,())):(uv)⊕(zD))))))
 (some (Sum.inr ((0:Nat),((y5.1.1,(y5.1.2.1,())),(y5.2.1,()))):(uv)⊕(zD)))
noncomputable def om(x:(List eH)×Sb×(List Sb)×Unit)(y2:Int×Unit)(y3:jJ×(List Sb)×Unit):Option (uv⊕zD) :=
 aj (aY y3.1.2.1 (@len eH x.1))
 (ah (@idx eH x.1 y3.1.2.1) (fun(y4:Sb×(List Sb)×Unit)=>aj (nt (bC y3.1.2.1 y2.1))
 (ah (Loop (iw y4) (((0:Int),((0:Int),())),(y3.2.1,()))) (fun(y5:Nat×jJ×(List Sb)×Unit)=>aj (fB y5.1 (0:Nat))
 (aj (cO (0:Int) (-1:Int))
 (some (Sum.inr ((1:Nat),(((8:Int),(y3.1.2.1,())),(y5.2.2.1,()))):(uv)⊕(zD)))
 (some (Sum.inl ((y3.1.1,(aI IntKind.i64 y3.1.2.1 (1:Int),())),(y5.2.2.1,())):(uv)⊕(zD))))
 (aj (cO (0:Int) y5.2.1.1)
 (some (Sum.inr ((1:Nat),(((8:Int),(y3.1.2.1,())),(y5.2.2.1,()))):(uv)⊕(zD)))
 (some (Sum.inl ((y3.1.1,(aI IntKind.i64 y3.1.2.1 (1:Int),())),(y5.2.2.1,())):(uv)⊕(zD))))))
 (some (Sum.inl ((y3.1.1,(aI IntKind.i64 y3.1.2.1 (1:Int),())),(y3.2.1,())):(uv)⊕(zD)))))
 (some (Sum.inr ((0:Nat),((y3.1.1,(y3.1.2.1,())),(y3.2.1,()))):(uv)⊕(zD)))
noncomputable def p7(x:(List eH)×Sb×(List Sb)×Unit):Option (Int×Unit) :=
 ah (nQ (x.2.2.1,())) (fun(y1:Int×Unit)=>aj (nt (bC y1.1 (0:Int)))
 (some (y1.1,()))
 (ah (tj (x.1,(x.2.1,()))) (fun(y2:Int×Unit)=>ah (Loop (om x y2) (((0:Int),((0:Int),())),(x.2.2.1,()))) (fun(y3:Nat×jJ×(List Sb)×Unit)=>aj (fB y3.1 (0:Nat))
 (some ((0:Int),()))
 (some (y3.2.1.1,()))))))
noncomputable def ru(x:Int×Gb×Unit)(y1:(Int×Unit)×Unit×(List eH)×Unit):Option (uu⊕uu) :=
 @ep uu (aj (aY y1.1.1 (@len I7 x.2.1.2.2.2.1))
 (ah (@idx I7 x.2.1.2.2.2.1 y1.1.1) (fun(y2:Sb×(List Sb)×Sb×Sb×Sb×yH×Unit)=>ah (bL (y2.2.1,())) (fun(y3:(List Sb)×Unit)=>aj (fits (plus (@len eH y1.2.2.1) (@len eH ([(y2.1,(y3.1,()))]:List eH))))
 (some (Sum.inl ((aI IntKind.i64 y1.1.1 (1:Int),()),((),(@app eH y1.2.2.1 ([(y2.1,(y3.1,()))]:List eH),()))):(uu)⊕Fe))
 none)))
 (some (Sum.inr ((0:Nat),((y1.1.1,()),((),(y1.2.2.1,())))):(uu)⊕Fe)))
noncomputable def ry(x:Int×Gb×Unit)(y1:(Int×Unit)×Unit×(List eH)×Unit):Option (uu⊕uu) :=
 @ep uu (aj (aY y1.1.1 (@len Cw x.2.1.2.2.1))
 (ah (@idx Cw x.2.1.2.2.1 y1.1.1) (fun(y2:Sb×(List Sb)×Sb×Sb×yH×Unit)=>ah (bL (y2.2.1,())) (fun(y3:(List Sb)×Unit)=>aj (fits (plus (@len eH y1.2.2.1) (@len eH ([(y2.1,(y3.1,()))]:List eH))))
 (some (Sum.inl ((aI IntKind.i64 y1.1.1 (1:Int),()),((),(@app eH y1.2.2.1 ([(y2.1,(y3.1,()))]:List eH),()))):(uu)⊕Fe))
 none)))
 (some (Sum.inr ((0:Nat),((y1.1.1,()),((),(y1.2.2.1,())))):(uu)⊕Fe)))
noncomputable def rz(x:Int×Gb×Unit)(y1:(Int×Unit)×Unit×(List eH)×Unit):Option (uu⊕uu) :=
 @ep uu (aj (aY y1.1.1 (@len LU x.2.1.2.1))
 (ah (@idx LU x.2.1.2.1 y1.1.1) (fun(y2:Sb×Sb×(List Sb)×Sb×Int×Int×Bool×Unit)=>ah (aj y2.2.2.2.2.2.2.1
 (ah (bL (y2.2.2.1,())) (fun(y3:(List Sb)×Unit)=>aj (fits (plus (@len eH y1.2.2.1) (@len eH ([(y2.1,(y3.1,()))]:List eH))))
 (some ((),(y2,((),(@app eH y1.2.2.1 ([(y2.1,(y3.1,()))]:List eH),())))))
 none))
 (some ((),(y2,((),(y1.2.2.1,())))))) (fun(y3:Unit×LU×Unit×(List eH)×Unit)=>some (Sum.inl ((aI IntKind.i64 y1.1.1 (1:Int),()),((),(y3.2.2.2.1,()))):(uu)⊕Fe))))
 (some (Sum.inr ((0:Nat),((y1.1.1,()),((),(y1.2.2.1,())))):(uu)⊕Fe)))
noncomputable def uw(x:Int×Gb×Unit):Option ((List eH)×Unit) :=
 ah (aj (bC x.1 (1:Int))
 (ah (Loop (ru x) (((0:Int),()),((),(([]:List eH),())))) (fun(y1:(Int×Unit)×Unit×(List eH)×Unit)=>some ((),((),(y1.2.2.1,())))))
 (ah (aj (bC x.1 (2:Int))
 (ah (Loop (ry x) (((0:Int),()),((),(([]:List eH),())))) (fun(y1:(Int×Unit)×Unit×(List eH)×Unit)=>some ((),((),(y1.2.2.1,())))))
 (ah (aj (bC x.1 (3:Int))
 (ah (Loop (rz x) (((0:Int),()),((),(([]:List eH),())))) (fun(y1:(Int×Unit)×Unit×(List eH)×Unit)=>some ((),((),(y1.2.2.1,())))))
 (some ((),((),(([]:List eH),()))))) (fun(y1:Unit×Unit×(List eH)×Unit)=>some ((),((),(y1.2.2.1,())))))) (fun(y1:Unit×Unit×(List eH)×Unit)=>some ((),((),(y1.2.2.1,())))))) (fun(y1:Unit×Unit×(List eH)×Unit)=>some (y1.2.2.1,()))
noncomputable def lu(x:Sb×Unit)(y1:p6×Unit):Option (dZ⊕ga) :=
 aj (aY y1.1.2.1 (@len UInt8 x.1))
 (ah (@idx UInt8 x.1 y1.1.2.1) (fun(y2:UInt8)=>aj (aj (aj (aj (aj (aj (nt (aY (u8 y2) (97:Int)))
 (aY (122:Int) (u8 y2))
 true)
 (aj (nt (aY (u8 y2) (48:Int)))
 (aY (57:Int) (u8 y2))
 true)
 false)
 (nt (bC (u8 y2) (46:Int)))
 false)
 (nt (bC (u8 y2) (95:Int)))
 false)
 (nt (bC (u8 y2) (45:Int)))
 false)
 (some (Sum.inr ((1:Nat),((false,(y1.1.2.1,())),())):(dZ)⊕(ga)))
 (some (Sum.inl ((y1.1.1,(aI IntKind.i64 y1.1.2.1 (1:Int),())),()):(dZ)⊕(ga)))))
 (some (Sum.inr ((0:Nat),((y1.1.1,(y1.1.2.1,())),())):(dZ)⊕(ga)))
noncomputable def mh(x:Sb×Unit):Option (Bool×Unit) :=
 ah (Loop (lu x) ((false,((0:Int),())),())) (fun(y1:Nat×p6×Unit)=>aj (fB y1.1 (0:Nat))
 (some (aj (cO (1:Int) (@len UInt8 x.1))
 (cO (@len UInt8 x.1) (32:Int))
 false,()))
 (some (y1.2.1.1,())))
noncomputable def gD(x:(List Sb)×Unit)(y1:p6×Unit)(y4:p6×Unit):Option (dZ⊕ga) :=
 aj (aY y4.1.2.1 y1.1.2.1)
 (ah (@idx Sb x.1 y4.1.2.1) (fun(y5:List (UInt8))=>ah (@idx Sb x.1 y1.1.2.1) (fun(y6:List (UInt8))=>aj (cc y5 y6)
 (some (Sum.inr ((1:Nat),((false,(y4.1.2.1,())),())):(dZ)⊕(ga)))
 (some (Sum.inl ((y4.1.1,(aI IntKind.i64 y4.1.2.1 (1:Int),())),()):(dZ)⊕(ga))))))
 (some (Sum.inr ((0:Nat),((y4.1.1,(y4.1.2.1,())),())):(dZ)⊕(ga)))
noncomputable def mQ(x:(List Sb)×Unit)(y1:p6×Unit):Option (dZ⊕ga) :=
 aj (aY y1.1.2.1 (@len Sb x.1))
 (ah (@idx Sb x.1 y1.1.2.1) (fun(y2:List (UInt8))=>ah (mh (y2,())) (fun(y3:Bool×Unit)=>aj (nt y3.1)
 (some (Sum.inr ((1:Nat),((false,(y1.1.2.1,())),())):(dZ)⊕(ga)))
 (ah (Loop (gD x y1) ((y1.1.1,((0:Int),())),())) (fun(y4:Nat×p6×Unit)=>aj (fB y4.1 (0:Nat))
 (some (Sum.inl ((y4.2.1.1,(aI IntKind.i64 y1.1.2.1 (1:Int),())),()):(dZ)⊕(ga)))
 (some (Sum.inr ((1:Nat),((y4.2.1.1,(y1.1.2.1,())),())):(dZ)⊕(ga))))))))
 (some (Sum.inr ((0:Nat),((y1.1.1,(y1.1.2.1,())),())):(dZ)⊕(ga)))
noncomputable def kX(x:(List Sb)×Unit):Option (Bool×Unit) :=
 ah (Loop (mQ x) ((false,((0:Int),())),())) (fun(y1:Nat×p6×Unit)=>aj (fB y1.1 (0:Nat))
 (some (cO (@len Sb x.1) (4:Int),()))
 (some (y1.2.1.1,())))
noncomputable def p8(x:(List Sb)×Unit)(y1:p6×Unit):Option (dZ⊕ga) :=
 aj (aj (aY y1.1.2.1 (@len Sb x.1))
 (aY y1.1.2.1 (8:Int))
 false)
 (ah (@idx Sb x.1 y1.1.2.1) (fun(y2:List (UInt8))=>aj (aY (100:Int) (@len UInt8 y2))
 (some (Sum.inr ((1:Nat),((false,(y1.1.2.1,())),())):(dZ)⊕(ga)))
 (some (Sum.inl ((y1.1.1,(aI IntKind.i64 y1.1.2.1 (1:Int),())),()):(dZ)⊕(ga)))))
 (some (Sum.inr ((0:Nat),((y1.1.1,(y1.1.2.1,())),())):(dZ)⊕(ga)))
noncomputable def jK(x:(List Sb)×Unit):Option (Bool×Unit) :=
 ah (Loop (p8 x) ((false,((0:Int),())),())) (fun(y1:Nat×p6×Unit)=>aj (fB y1.1 (0:Nat))
 (some (cO (@len Sb x.1) (8:Int),()))
 (some (y1.2.1.1,())))
noncomputable def ec(x:yH×Unit)(y1:p6×Unit):Option (dZ⊕ga) :=
 aj (aj (aY y1.1.2.1 (@len (Sb×Sb×Sb×Unit) x.1))
 (aY y1.1.2.1 (8:Int))
 false)
 (ah (@idx (Sb×Sb×Sb×Unit) x.1 y1.1.2.1) (fun(y2:Sb×Sb×Sb×Unit)=>ah (aj (nt (aY (100:Int) (@len UInt8 y2.1)))
 (ah (@idx (Sb×Sb×Sb×Unit) x.1 y1.1.2.1) (fun(y3:Sb×Sb×Sb×Unit)=>some (aY (200:Int) (@len UInt8 y3.2.2.1))))
 (some true)) (fun(y3:Bool)=>aj y3
 (some (Sum.inr ((1:Nat),((false,(y1.1.2.1,())),())):(dZ)⊕(ga)))
 (some (Sum.inl ((y1.1.1,(aI IntKind.i64 y1.1.2.1 (1:Int),())),()):(dZ)⊕(ga))))))
 (some (Sum.inr ((0:Nat),((y1.1.1,(y1.1.2.1,())),())):(dZ)⊕(ga)))
noncomputable def dU(x:yH×Unit):Option (Bool×Unit) :=
 ah (Loop (ec x) ((false,((0:Int),())),())) (fun(y1:Nat×p6×Unit)=>aj (fB y1.1 (0:Nat))
 (some (cO (@len (Sb×Sb×Sb×Unit) x.1) (8:Int),()))
 (some (y1.2.1.1,())))
noncomputable def gN(x:Gb×Unit)(y1:p6×Unit):Option (dZ⊕ga) :=
 aj (aj (aY y1.1.2.1 (@len LU x.1.2.1))
 (aY y1.1.2.1 (40:Int))
 false)
 (ah (@idx LU x.1.2.1 y1.1.2.1) (fun(y2:Sb×Sb×(List Sb)×Sb×Int×Int×Bool×Unit)=>ah (jK (y2.2.2.1,())) (fun(y3:Bool×Unit)=>aj (nt y3.1)
 (some (Sum.inr ((1:Nat),((false,(y1.1.2.1,())),())):(dZ)⊕(ga)))
 (some (Sum.inl ((y1.1.1,(aI IntKind.i64 y1.1.2.1 (1:Int),())),()):(dZ)⊕(ga))))))
 (some (Sum.inr ((0:Nat),((y1.1.1,(y1.1.2.1,())),())):(dZ)⊕(ga)))
noncomputable def gO(x:Gb×Unit)(y2:p6×Unit):Option (dZ⊕ga) :=
 aj (aj (aY y2.1.2.1 (@len Cw x.1.2.2.1))
 (aY y2.1.2.1 (40:Int))
 false)
 (ah (@idx Cw x.1.2.2.1 y2.1.2.1) (fun(y3:Sb×(List Sb)×Sb×Sb×yH×Unit)=>ah (jK (y3.2.1,())) (fun(y4:Bool×Unit)=>ah (aj (nt (nt y4.1))
 (ah (@idx Cw x.1.2.2.1 y2.1.2.1) (fun(y5:Sb×(List Sb)×Sb×Sb×yH×Unit)=>some (aY (200:Int) (@len UInt8 y5.2.2.2.1))))
 (some true)) (fun(y5:Bool)=>ah (aj (nt y5)
 (ah (@idx Cw x.1.2.2.1 y2.1.2.1) (fun(y6:Sb×(List Sb)×Sb×Sb×yH×Unit)=>ah (dU (y6.2.2.2.2.1,())) (fun(y7:Bool×Unit)=>some (nt y7.1))))
 (some true)) (fun(y6:Bool)=>aj y6
 (some (Sum.inr ((1:Nat),((false,(y2.1.2.1,())),())):(dZ)⊕(ga)))
 (some (Sum.inl ((y2.1.1,(aI IntKind.i64 y2.1.2.1 (1:Int),())),()):(dZ)⊕(ga))))))))
 (some (Sum.inr ((0:Nat),((y2.1.1,(y2.1.2.1,())),())):(dZ)⊕(ga)))
noncomputable def gP(x:Gb×Unit)(y3:p6×Unit):Option (dZ⊕ga) :=
 aj (aj (aY y3.1.2.1 (@len I7 x.1.2.2.2.1))
 (aY y3.1.2.1 (40:Int))
 false)
 (ah (@idx I7 x.1.2.2.2.1 y3.1.2.1) (fun(y4:Sb×(List Sb)×Sb×Sb×Sb×yH×Unit)=>ah (jK (y4.2.1,())) (fun(y5:Bool×Unit)=>ah (aj (nt (nt y5.1))
 (ah (@idx I7 x.1.2.2.2.1 y3.1.2.1) (fun(y6:Sb×(List Sb)×Sb×Sb×Sb×yH×Unit)=>some (aY (200:Int) (@len UInt8 y6.2.2.2.2.1))))
 (some true)) (fun(y6:Bool)=>ah (aj (nt y6)
 (ah (@idx I7 x.1.2.2.2.1 y3.1.2.1) (fun(y7:Sb×(List Sb)×Sb×Sb×Sb×yH×Unit)=>ah (dU (y7.2.2.2.2.2.1,())) (fun(y8:Bool×Unit)=>some (nt y8.1))))
 (some true)) (fun(y7:Bool)=>aj y7
 (some (Sum.inr ((1:Nat),((false,(y3.1.2.1,())),())):(dZ)⊕(ga)))
 (some (Sum.inl ((y3.1.1,(aI IntKind.i64 y3.1.2.1 (1:Int),())),()):(dZ)⊕(ga))))))))
 (some (Sum.inr ((0:Nat),((y3.1.1,(y3.1.2.1,())),())):(dZ)⊕(ga)))
noncomputable def oX(x:Gb×Unit):Option (Bool×Unit) :=
 ah (Loop (gN x) ((false,((0:Int),())),())) (fun(y1:Nat×p6×Unit)=>aj (fB y1.1 (0:Nat))
 (ah (Loop (gO x) ((y1.2.1.1,((0:Int),())),())) (fun(y2:Nat×p6×Unit)=>aj (fB y2.1 (0:Nat))
 (ah (Loop (gP x) ((y2.2.1.1,((0:Int),())),())) (fun(y3:Nat×p6×Unit)=>aj (fB y3.1 (0:Nat))
 (some (aj (aj (cO (@len LU x.1.2.1) (40:Int))
 (cO (@len Cw x.1.2.2.1) (40:Int))
 false)
 (cO (@len I7 x.1.2.2.2.1) (40:Int))
 false,()))
 (some (y3.2.1.1,()))))
 (some (y2.2.1.1,()))))
 (some (y1.2.1.1,())))
end Go.Ge
namespace Go.Ge
set_option linter.unusedSectionVars false
variable [Lp]
set_option linter.unusedVariables false
set_option linter.unusedSimpArgs false
abbrev Tx:=List UInt8
abbrev Nm:=Tx×List Tx×Unit
def DU(l:List Nm)(id:Tx):Int:=match l.findIdx? (fun x=>decide (x.1=id)) with|some i=>(i:Int)|none=>-1
theorem WV{l:List Nm}{id:Tx}{i:Nat}{x:Nm}(hx:l[i]?=some x)(hp:x.1=id)(hj:∀j y,j<i→l[j]?=some y→decide (y.1=id)=false):DU l id=i:=by
 unfold DU
 have:l.findIdx? (fun x=>decide (x.1=id))=some i:=by
  rw[List.findIdx?_eq_some_iff_getElem]
  obtain⟨hi,rfl⟩:=List.getElem?_eq_some_iff.1 hx
  exact⟨hi,by simp[hp],fun j hji=>by have:=hj j l[j] hji (List.getElem?_eq_getElem (by omega));simpa using this⟩
 rw[this]
theorem I8{l:List Nm}{id:Tx}(hn:∀(i:Nat) (x:Nm),l[i]?=some x→decide (x.1=id)=false):DU l id=-1:=by
 unfold DU
 have:l.findIdx? (fun x=>decide (x.1=id))=none:=by
  rw[List.findIdx?_eq_none_iff]
  intro x hx
  obtain⟨i,hi⟩:=bQ.1 hx
  exact hn i x hi
 rw[this]
theorem I9(l:List Nm)(id:Tx)(hl:l.length≤4294967296):tj (l,(id,()))=some (DU l id,()):=by
 unfold tj
 rcases mM (f:=oh (l,(id,()))) l (fun i=>(((0:Int),(i,())),(id,()))) (fun _ x=>decide (x.1=id)) (fun i x=>(1,(((i:Int),((i:Int),())),(id,())))) (0,(((0:Int),(len l,())),(id,()))) hl (fun i x hx hi ha=>by
  unfold oh
  dsimp only
  rw[au hi,ag,az hx,aa,lX,ha]
  by_cases h:x.1=id<;>simp[cc,h]) (by unfold oh;dsimp only;rw[aE,af];rfl) with ⟨i,x,hx,hp,hj,h⟩|⟨hn,h⟩
 ·rw[h,aa,WV hx (of_decide_eq_true hp) hj];rfl
 ·rw[h,aa,I8 hn];rfl
theorem zE(l:List Tx)(s:Tx)(hl:l.length≤4294967296):cl (l,(s,()))=some (decide (s∈l),()):=by
 unfold cl fY
 dsimp only
 rcases mM (f:=dI (l,(s,()))) l (fun i=>(((0:Int),(i,())),())) (fun _ x=>decide (x=s)) (fun i x=>(1,(((i:Int),((i:Int),())),()))) (0,(((0:Int),(len l,())),())) hl (fun i x hx hi ha=>by
  unfold dI
  dsimp only
  rw[au hi,ag,az hx,aa,lX,ha]
  by_cases h:x=s
  ·simp[cc,h]
  ·have h':¬s=x:=fun e=>h e.symm
   simp[cc,h,h']) (by unfold dI;dsimp only;rw[aE,af];rfl) with ⟨i,x,hx,hp,hj,h⟩|⟨hn,h⟩
 ·rw[h,aa]
  have:s∈l:=by rw[←of_decide_eq_true hp];exact bQ.2 ⟨i,hx⟩
  rw[decide_eq_true this]
  show some (cO 0 (i:Int),())=_
  rw[cz (by omega)]
 ·rw[h,aa]
  have:s∉l:=fun hs=>by
   obtain⟨i,hi⟩:=bQ.1 hs
   have:=hn i s hi
   simp at this
  simp[this,fB,aj,ah,cO]
def Small(l:List Nm):Prop:=l.length≤4294967296∧∀x∈l,x.2.1.length≤4294967296
end Go.Ge
namespace Go.Ge
set_option linter.unusedSectionVars false
variable [Lp]
set_option linter.unusedVariables false
set_option linter.unusedSimpArgs false
set_option maxRecDepth 100000
def allowed:Tx:=[97,98,99,100,101,102,103,104,105,106,107,108,109,110,111,112,113,114,115,116,117,118,119,120,121,122,48,49,50,51,52,53,54,55,56,57,46,95,45]
def KH(c:UInt8):Bool:=allowed.contains c
def jd(s:Tx):Bool:=decide (1≤s.length)&&decide (s.length≤32)&&s.all KH
def Pw(a:Tx)(t0:List Bool):List Bool:=(a.zipIdx).foldl (fun t p=>sX t (u8 p.1) true) t0
def xR:List Bool:=List.replicate 256 false
theorem acj(c:UInt8):u8 c<256:=by unfold u8;have:=c.toNat_lt;omega
theorem ack(c:UInt8):0≤u8 c:=by unfold u8;omega
theorem LV(c:UInt8):within (u8 c) 256=true:=cF (ack c) (acj c)
theorem WW{t:List Bool}(h:t.length=256)(c:UInt8):idx t (u8 c)=some (t.getD c.toNat false):=I3 t false (k:=c.toNat) rfl (by have:=c.toNat_lt;omega)
theorem KI(a:Tx)(ha:a.length≤4294967296)(h7:∀c∈a,c<128):cS (a,())=some (Pw a xR,(true,())):=by
 unfold cS
 obtain⟨t,h1,h2,h3⟩:=Fc (f:=bP (a,())) a (fun(t:List Bool) i=>((false,(i,())),(t,()))) (fun t i x=>sX t (u8 x) true) (fun t=>(0,((false,(len a,())),(t,())))) (fun t _=>t.length=256) ha
  (fun t i x hx hi G7 ht=>by
   refine⟨?_,by simp[sX,ht]⟩
   unfold bP
   dsimp only
   have hx7:x<128:=h7 x (bQ.2 ⟨i,hx⟩)
   have aeg:u8 x<128:=by unfold u8;have:x.toNat<128:=hx7;omega
   rw[au hi,ag,az hx,aa,eU aeg,af,LV,ag,WW ht,aa,aa,aa,G7])
  (fun t ht=>by unfold bP;dsimp only;rw[aE,af];rfl) xR (by simp[xR])
 have h2':Loop (bP (a,())) ((false,((0:Int),())),(xR,()))=_:=h2
 rw[show(List.replicate 256 false:List Bool)=xR from rfl,h2',aa]
 show some (t,(true,()))=_
 rw[h3];rfl
theorem aaz(c:UInt8):(Pw allowed xR).getD c.toNat false=KH c:=by
 have key:∀n:Fin 256,(Pw allowed xR).getD n.val false=KH (UInt8.ofNat n.val):=by decide +kernel
 have:=key ⟨c.toNat,c.toNat_lt⟩
 rw[this]
 congr 1
 simp
theorem TD:(Pw allowed xR).length=256:=by decide +kernel
theorem Ja{t:List Bool}(ht:t.length=256)(c:UInt8):cm ((u8 c,()),(t,()))=some ((t.getD c.toNat false,()),(t,())):=by
 unfold cm
 dsimp only
 rw[LV,ag,WW ht,aa]
theorem Np{t:List Bool}(ht:t.length=256):∀(s:Tx),fM ((s,()),(t,()))=some ((s.dropWhile (fun c=>t.getD c.toNat false),()),(t,())):=by
 have key:∀s:Tx,Loop dL ((s,()),(t,()))=some ((s.dropWhile (fun c=>t.getD c.toNat false),()),(t,())):=by
  intro s
  induction s with
  | nil =>
    rw[aV]
    unfold dL
    dsimp only
    rw[DK,show decide (0<([]:Tx).length)=false from rfl,af]
    rfl
  | cons c r ih =>
    rw[aV]
    unfold dL
    dsimp only
    have hi:idx (c::r) (0:Int)=some c:=rfl
    rw[DK,show decide (0<(c::r).length)=true from by simp,ag,hi,aa,Ja ht,aa,List.dropWhile_cons]
    dsimp only
    cases hc:t.getD c.toNat false with
    | false=>rfl
    | true =>
      rw[aK,af,bB (by decide) (by simp[len];omega) (Int.le_refl _),ag]
      have hs:sub (c::r) (1:Int) (minus (len (c::r)) 1)=r:=by
       have:=pV (c::r) 1 (by simp)
       simpa using this
      rw[hs]
      show Loop dL ((r,()),(t,()))=_
      rw[ih];rfl
 intro s
 unfold fM
 dsimp only
 rw[key,aa]
theorem WX{α:Type}{l:List α}(h:l.length≤4294967296):dO .i64 (len l) 1=(l.length:Int)-1:=fZ (by simp only[len];omega) (by simp only[len];omega)
theorem KJ{t:List Bool}(ht:t.length=256):∀(n:Nat) (s:Tx),s.length=n→n≤4294967296→dm ((s,()),(t,()))=some (((s.reverse.dropWhile (fun c=>t.getD c.toNat false)).reverse,()),(t,())):=by
 have key:∀(n:Nat) (s:Tx),s.length=n→n≤4294967296→Loop bY ((s,()),(t,()))=some (((s.reverse.dropWhile (fun c=>t.getD c.toNat false)).reverse,()),(t,())):=by
  intro n
  induction n with
  | zero =>
    intro s hs _
    obtain rfl:=List.length_eq_zero_iff.1 hs
    rw[aV]
    unfold bY
    dsimp only
    rw[DK,show decide (0<([]:Tx).length)=false from rfl,af]
    rfl
  | succ n ih =>
    intro s hs hn
    obtain⟨r,c,rfl⟩:∃r c,s=r++[c]:=⟨s.dropLast,s.getLast (by intro e;rw[e] at hs;simp at hs),(List.dropLast_concat_getLast _).symm⟩
    have hr:r.length=n:=by simpa using hs
    rw[aV]
    unfold bY
    dsimp only
    have hlen:dO .i64 (len (r++[c])) 1=(r.length:Int):=by rw[WX (by omega)];simp
    have hi:idx (r++[c]) (r.length:Int)=some c:=by rw[uZ];simp
    rw[DK,show decide (0<(r++[c]).length)=true from by simp,ag,hlen,hi,aa,Ja ht,aa,List.reverse_append,List.reverse_singleton,List.singleton_append,List.dropWhile_cons]
    dsimp only
    cases hc:t.getD c.toNat false with
    | false=>simp[nt,aj,ep]
    | true =>
      have h0:inside 0 (r.length:Int) (len (r++[c]))=true:=bB (by decide) (by omega) (by simp only[len,List.length_append,List.length_singleton];omega)
      rw[aK,af,h0,ag]
      have hs2:sub (r++[c]) (0:Int) (minus (r.length:Int) 0)=r:=by rw[jl];simp
      rw[hs2]
      show Loop bY ((r,()),(t,()))=_
      rw[ih r hr (by omega)];rfl
 intro n s hs hn
 unfold dm
 dsimp only
 rw[key n s hs hn,aa]
theorem dropWhile_nil{α:Type}{p:α→Bool}{l:List α}:l.dropWhile p=[]↔l.all p=true:=by
 induction l with
 | nil=>simp
 | cons a r ih =>
   rw[List.dropWhile_cons,List.all_cons]
   cases h:p a with
   | true=>simpa using ih
   | false=>simp
theorem WY{p:UInt8→Bool}(s:Tx):((s.reverse.dropWhile p).reverse.dropWhile p=[])↔s.all p=true:=by
 constructor
 ·intro h
  rw[dropWhile_nil,List.all_reverse] at h
  have h2:s.reverse.all p=true:=by
   have e:s.reverse.takeWhile p++s.reverse.dropWhile p=s.reverse:=List.takeWhile_append_dropWhile
   rw[←e,List.all_append,h]
   have:(s.reverse.takeWhile p).all p=true:=List.all_takeWhile
   simp[this]
  rwa [List.all_reverse] at h2
 ·intro h
  have:s.reverse.dropWhile p=[]:=by rw[dropWhile_nil,List.all_reverse];exact h
  rw[this];rfl
theorem Nq(s:Tx):kJ (s,())=some (jd s,()):=by
 unfold kJ jd
 dsimp only
 have e1:cO 1 (len s)=decide (1≤s.length):=by unfold cO len;apply decide_eq_decide.2;omega
 have e2:cO (len s) 32=decide (s.length≤32):=by unfold cO len;apply decide_eq_decide.2;omega
 rw[e1,e2]
 by_cases h1:1≤s.length
 ·rw[decide_eq_true h1,ag]
  by_cases h2:s.length≤32
  ·rw[decide_eq_true h2,ag,show([97,98,99,100,101,102,103,104,105,106,107,108,109,110,111,112,113,114,115,116,117,118,119,120,121,122,48,49,50,51,52,53,54,55,56,57,46,95,45]:Tx)=allowed from rfl]
   unfold gM
   dsimp only
   have hs:s≠[]:=by intro e;rw[e] at h1;simp at h1
   rw[cu hs,aF,ag,cu (show allowed≠[] by decide),af,show bC (len allowed) 1=false from rfl,af,aa,af,KI allowed (by decide) (by decide),aa]
   dsimp only
   rw[ag,KJ TD s.length s rfl (by omega),aa]
   dsimp only
   rw[Np TD,aa,aa,aa]
   have hp:(fun c:UInt8=>(Pw allowed xR).getD c.toNat false)=KH:=funext aaz
   rw[hp]
   show some (cc _ [],())=_
   have:=WY (p:=KH) s
   by_cases ha:s.all KH=true
   ·rw[fE (this.2 ha),ha];rfl
   ·rw[cu fun e=>ha (this.1 e)]
    simp at ha
    simp[ha]
  ·rw[decide_eq_false h2,af,aa];simp
 ·rw[decide_eq_false h1,af,af,aa];simp
def Px(c:UInt8):Bool:=aj (aj (aj (aj (aj (nt (aY (u8 c) 97)) (aY 122 (u8 c)) true) (aj (nt (aY (u8 c) 48)) (aY 57 (u8 c)) true) false) (nt (bC (u8 c) 46)) false) (nt (bC (u8 c) 95)) false) (nt (bC (u8 c) 45)) false
theorem Py(c:UInt8):Px c=!KH c:=by
 have key:∀n:Fin 256,Px (UInt8.ofNat n.val)=!KH (UInt8.ofNat n.val):=by decide +kernel
 have:=key ⟨c.toNat,c.toNat_lt⟩
 simpa using this
theorem yI(s:Tx)(hl:s.length≤4294967296):mh (s,())=some (jd s,()):=by
 unfold mh jd
 rcases mM (f:=lu (s,())) s (fun i=>((false,(i,())),())) (fun _ x=>Px x) (fun i x=>(1,((false,((i:Int),())),()))) (0,((false,(len s,())),())) hl (fun i x hx hi ha=>by
  unfold lu
  dsimp only
  rw[au hi,ag,az hx,aa,ha]
  show aj (Px x) _ _=_
  cases Px x<;>rfl) (by unfold lu;dsimp only;rw[aE,af];rfl) with ⟨i,x,hx,hp,hj,h⟩|⟨hn,h⟩
 ·rw[h,aa]
  have:s.all KH=false:=by
   rw[List.all_eq_false]
   refine⟨x,bQ.2 ⟨i,hx⟩,?_⟩
   rw[Py] at hp
   simpa using hp
  rw[this,Bool.and_false];rfl
 ·rw[h,aa]
  have:s.all KH=true:=by
   rw[List.all_eq_true]
   intro x hx
   obtain⟨i,hi⟩:=bQ.1 hx
   have:=hn i x hi
   rw[Py] at this
   simpa using this
  rw[this,Bool.and_true]
  have e1:cO 1 (len s)=decide (1≤s.length):=by unfold cO len;apply decide_eq_decide.2;omega
  have e2:cO (len s) 32=decide (s.length≤32):=by unfold cO len;apply decide_eq_decide.2;omega
  show some (aj (cO 1 (len s)) (cO (len s) 32) false,())=_
  rw[e1,e2]
  cases decide (1≤s.length)<;>rfl
end Go.Ge
namespace Go.Ge
set_option linter.unusedSectionVars false
variable [Lp]
set_option linter.unusedVariables false
set_option linter.unusedSimpArgs false
open Go.Lib
theorem Sk(l:List Tx):(lW l).Pairwise (fun a b=>a≤b):=by
 have:=List.pairwise_mergeSort (le:=fun x y:Tx=>decide (x≤y)) (fun a b c h k=>by simp only[decide_eq_true_eq] at h k⊢;exact List.le_trans h k) (fun a b=>by simp only[Bool.or_eq_true,decide_eq_true_eq];exact List.le_total a b) l
 unfold lW
 exact this.imp fun h=>of_decide_eq_true h
theorem Pz(l:List Tx):(lW l).Nodup↔l.Nodup:=(List.mergeSort_perm l _).nodup_iff
theorem PA{m:List Tx}{j:Nat}(hj:j<m.length):keeps m.toArray j=decide (j=0∨m[j]≠m[j-1]'(by omega)):=by
 unfold keeps
 have h1:m.toArray[j]! = m[j]:=by simp[hj]
 have h2:m.toArray[j-1]! = m[j-1]'(by omega):=by simp[show j-1<m.length by omega]
 rw[h1,h2]
theorem Nr(m:List Tx)(hs:m.Pairwise (fun a b=>a≤b)):(compact m).length<m.length↔¬m.Nodup:=by
 unfold compact compactUpTo
 rw[List.length_map]
 have hlen:(List.range m.length).length=m.length:=List.length_range
 have:((List.range m.length).filter (keeps m.toArray)).length<m.length↔∃x,x∈List.range m.length∧¬keeps m.toArray x=true:=by
  have:=List.length_filter_lt_length_iff_exists (p:=keeps m.toArray) (l:=List.range m.length)
  rwa [hlen] at this
 rw[this]
 constructor
 ·rintro⟨j,hj,hk⟩ hn
  have hj':=List.mem_range.1 hj
  rw[PA hj'] at hk
  simp only[decide_eq_true_eq,not_or,Decidable.not_not] at hk
  have hp:=List.pairwise_iff_getElem.1 hn (j-1) j (by omega) hj' (by omega)
  exact hp hk.2.symm
 ·intro hn
  by_cases h:∃i j,∃(hij:i<j) (hj:j<m.length),m[i]'(by omega)=m[j]
  ·obtain⟨i,j,hij,hj,he⟩:=h
   refine⟨j,List.mem_range.2 hj,?_⟩
   rw[PA hj]
   simp only[decide_eq_true_eq,not_or,Decidable.not_not]
   refine⟨by omega,?_⟩
   have le:=fun a b (h1:a<b) (h2:b<m.length)=>List.pairwise_iff_getElem.1 hs a b (by omega) h2 h1
   have h1:m[j-1]'(by omega)≤m[j]:=le (j-1) j (by omega) hj
   have h2:m[j]≤m[j-1]'(by omega):=by
    rw[←he]
    rcases Nat.lt_or_ge i (j-1) with q|q
    ·exact le i (j-1) q (by omega)
    ·have:i=j-1:=by omega
     subst this
     exact List.le_refl _
   exact(List.le_antisymm h1 h2).symm
  ·exfalso
   apply hn
   refine List.pairwise_iff_getElem.2 fun i j hi hj hij he=>h ⟨i,j,hij,hj,he⟩
def mR(l:List Tx):Bool:=l.all jd&&decide l.Nodup&&decide (l.length≤4)
def sH(l:List Tx):Int:=if mR l=true then 0 else 1
theorem Gc(l:List Tx)(hl:l.length≤4294967296):nQ (l,())=some (sH l,()):=by
 unfold nQ
 dsimp only
 have e4:nt (aY 4 (len l))=decide (l.length≤4):=by
  unfold nt aY len
  rw[←decide_not]
  apply decide_eq_decide.2;omega
 have hc:aY (len (compact (lW l))) (len l)=!decide l.Nodup:=by
  have h:=Nr (lW l) (Sk l)
  rw[LN,Pz] at h
  unfold aY len
  rw[←decide_not]
  apply decide_eq_decide.2
  rw[←h];omega
 have hs:dz l ()=some (lW l):=by
  unfold dz
  rw[wN hl];rfl
 rw[wN hl,ag,hs,aa]
 unfold dS
 rw[aa]
 rcases mM (f:=mP (l,())) l (fun i=>(((0:Int),(i,())),())) (fun _ x=>!jd x) (fun i x=>(1,(((i:Int),((i:Int),())),()))) (0,(((0:Int),(len l,())),())) hl (fun i x hx hi ha=>by
  unfold mP
  dsimp only
  rw[au hi,ag,az hx,aa,Nq,aa,TC,lX,ha]
  by_cases h:jd x=true<;>simp[h]) (by unfold mP;dsimp only;rw[aE,af];rfl) with ⟨i,x,hx,hp,hj,h⟩|⟨hn,h⟩
 ·rw[h,aa]
  have:l.all jd=false:=by
   rw[List.all_eq_false]
   exact⟨x,bQ.2 ⟨i,hx⟩,by simpa using hp⟩
  have hI:sH l=1:=by unfold sH mR;rw[this];rfl
  rw[hI]
  show aj (aj (nt (aj (nt (aY 4 (len l))) (aY (len (compact (lW l))) (len l)) true)) (cO 0 (i:Int)) true) _ _=_
  rw[cz (show(0:Int)≤(i:Int) by omega)]
  cases nt (aj (nt (aY 4 (len l))) (aY (len (compact (lW l))) (len l)) true)<;>rfl
 ·rw[h,aa]
  have:l.all jd=true:=by
   rw[List.all_eq_true]
   intro x hx
   obtain⟨i,hi⟩:=bQ.1 hx
   simpa using hn i x hi
  show aj (aj (nt (aj (nt (aY 4 (len l))) (aY (len (compact (lW l))) (len l)) true)) (cO 0 (-1)) true) _ _=_
  rw[e4,hc,show cO 0 (-1)=false from rfl]
  unfold sH mR
  rw[this]
  cases decide l.Nodup<;>cases decide (l.length≤4)<;>rfl
theorem xS(l:List Tx)(hl:l.length≤4294967296)(hx:∀x∈l,x.length≤4294967296):kX (l,())=some (mR l,()):=by
 unfold kX
 have inner:∀(r:Bool) (i:Nat) (x:Tx),l[i]?=some x→(∃j y,j<i∧l[j]?=some y∧y=x∧∃q,Loop (gD (l,()) ((r,((i:Int),())),())) ((r,((0:Int),())),())=some (1,((false,q),())))∨((∀j y,j<i→l[j]?=some y→y≠x)∧∃q,Loop (gD (l,()) ((r,((i:Int),())),())) ((r,((0:Int),())),())=some (0,((r,q),()))):=by
  intro r i x Ls
  have hi:=aH Ls
  have hmin:min i l.length=i:=by omega
  rcases qJ (f:=gD (l,()) ((r,((i:Int),())),())) l i (fun j=>((r,(j,())),())) (fun _ y=>decide (y=x)) (fun j y=>(1,((false,((j:Int),())),()))) (fun n=>(0,((r,((n:Int),())),()))) (by omega) (fun j y hy hj hji ha=>by
   unfold gD
   dsimp only
   rw[aT (show(j:Int)<(i:Int) by omega),ag,az hy,aa,az Ls,aa,lX,ha]
   by_cases h:y=x<;>simp[cc,h]) (by
   unfold gD
   dsimp only
   rw[hmin,aJ (Int.le_refl _),af]) with ⟨j,y,hji,hy,hp,_,h⟩|⟨hn,h⟩
  ·exact .inl ⟨j,y,hji,hy,of_decide_eq_true hp,_,h⟩
  ·exact .inr ⟨fun j y hji hy=>of_decide_eq_false (hn j y hji hy),_,h⟩
 let bad:Nat→Tx→Bool:=fun i x=>!jd x||(l.take i).contains x
 have uP:∀i x,l[i]?=some x→((l.take i).contains x=true↔∃j y,j<i∧l[j]?=some y∧y=x):=by
  intro i x Ls
  simp only[List.contains_eq_mem,decide_eq_true_eq]
  rw[bQ]
  constructor
  ·rintro⟨j,hj⟩
   rw[List.getElem?_take] at hj
   split at hj
   ·exact⟨j,x,by assumption,hj,rfl⟩
   ·cases hj
  ·rintro⟨j,y,hji,hy,rfl⟩
   exact⟨j,by rw[List.getElem?_take,if_pos hji];exact hy⟩
 rcases mM (f:=mQ (l,())) l (fun i=>((false,(i,())),())) bad (fun i x=>(1,((false,((i:Int),())),()))) (0,((false,(len l,())),())) hl (fun i x Ls hi ha=>by
  unfold mQ
  dsimp only
  rw[au hi,ag,az Ls,aa,yI x (hx x (bQ.2 ⟨i,Ls⟩)),aa]
  dsimp only
  cases hb:jd x with
  | false=>simp[bad,hb,nt,aj]
  | true =>
    rw[aK,af]
    rcases inner false i x Ls with ⟨j,y,h1,h2,h3,q,h⟩|⟨hn,q,h⟩
    ·have eg:=(uP i x Ls).2 ⟨j,y,h1,h2,h3⟩
     rw[h,aa]
     show some _=_
     simp only[bad,hb,eg]
     rfl
    ·have eg:(l.take i).contains x=false:=by
      rw[←Bool.not_eq_true]
      intro hc
      obtain⟨j,y,h1,h2,h3⟩:=(uP i x Ls).1 hc
      exact hn j y h1 h2 h3
     rw[h,aa,ha]
     simp only[bad,hb,eg]
     rfl) (by unfold mQ;dsimp only;rw[aE,af];rfl) with ⟨i,x,Ls,hp,hj,h⟩|⟨hn,h⟩
 ·rw[h,aa]
  have:mR l=false:=by
   unfold mR
   simp only[bad,Bool.or_eq_true,Bool.not_eq_true'] at hp
   rcases hp with hp|hp
   ·have:l.all jd=false:=by rw[List.all_eq_false];exact⟨x,bQ.2 ⟨i,Ls⟩,by simpa using hp⟩
    rw[this];rfl
   ·have:¬l.Nodup:=fun hnd=>by
     obtain⟨j,y,h1,h2,h3⟩:=(uP i x Ls).1 hp
     obtain⟨hi',aaA⟩:=List.getElem?_eq_some_iff.1 Ls
     obtain⟨hj',hyj⟩:=List.getElem?_eq_some_iff.1 h2
     exact List.pairwise_iff_getElem.1 hnd j i hj' hi' h1 (by rw[hyj,aaA,h3])
    rw[decide_eq_false this,Bool.and_false];rfl
  rw[this];rfl
 ·rw[h,aa]
  have h1:l.all jd=true:=by
   rw[List.all_eq_true]
   intro x hx2
   obtain⟨i,hi⟩:=bQ.1 hx2
   have:=hn i x hi
   simp only[bad,Bool.or_eq_false_iff,Bool.not_eq_false'] at this
   exact this.1
  have h2:l.Nodup:=by
   refine List.pairwise_iff_getElem.2 fun j i hj hi hji he=>?_
   have:=hn i l[i] (List.getElem?_eq_getElem hi)
   simp only[bad,Bool.or_eq_false_iff] at this
   have hc:=(uP i l[i] (List.getElem?_eq_getElem hi)).2 ⟨j,l[j],hji,List.getElem?_eq_getElem hj,he⟩
   rw[hc] at this
   cases this.2
  show some (cO (len l) 4,())=_
  unfold mR
  rw[h1,decide_eq_true h2]
  have:cO (len l) 4=decide (l.length≤4):=by unfold cO len;apply decide_eq_decide.2;omega
  rw[this];rfl
end Go.Ge
namespace Go.Ge
set_option linter.unusedSectionVars false
variable [Lp]
set_option linter.unusedVariables false
set_option linter.unusedSimpArgs false
def UF(given:List Tx)(own:Int)(i:Nat)(x:Nm):Bool:=decide ((i:Int)≠own)&&x.2.1.any (fun s=>decide (s∈given))
def Jb(l:List Nm)(given:List Tx)(own:Int):Bool:=l.zipIdx.any fun p=>UF given own p.2 p.1
def zF(l:List Nm)(id:Tx)(given:List Tx):Int:=if sH given≠0 then sH given else if Jb l given (DU l id)=true then 8 else 0
theorem Ff{l:List Nm}{given:List Tx}{own:Int}:Jb l given own=true↔∃i x,l[i]?=some x∧UF given own i x=true:=by
 unfold Jb
 rw[List.any_eq_true]
 constructor
 ·rintro⟨p,hp,h⟩
  obtain⟨x,i⟩:=p
  exact⟨i,x,List.mk_mem_zipIdx_iff_getElem?.1 hp,h⟩
 ·rintro⟨i,x,hx,h⟩
  exact⟨(x,i),List.mk_mem_zipIdx_iff_getElem?.2 hx,h⟩
theorem Sl{l:List Nm}{given:List Tx}{own:Int}(h:∀i x,l[i]?=some x→UF given own i x=false):Jb l given own=false:=by
 rw[←Bool.not_eq_true,Ff]
 rintro⟨i,x,hx,k⟩
 rw[h i x hx] at k;cases k
theorem Jc(l:List Nm)(id:Tx)(given:List Tx)(hl:Small l)(hg:given.length≤4294967296):p7 (l,(id,(given,())))=some (zF l id given,()):=by
 unfold p7 zF
 dsimp only
 rw[Gc given hg,aa]
 dsimp only
 by_cases hc:sH given=0
 ·rw[hc,aR rfl,aK,af,I9 l id hl.1,aa,if_neg (by simp)]
  generalize DU l id=own
  have inner:∀(y:Nm),y.2.1.length≤4294967296→(y.2.1.any (fun s=>decide (s∈given))=true∧∃(k:Nat) (q:Int×Unit),Loop (iw y) (((0:Int),((0:Int),())),(given,()))=some (1,(((k:Int),q),(given,())))) ∨
    (y.2.1.any (fun s=>decide (s∈given))=false∧∃q,Loop (iw y) (((0:Int),((0:Int),())),(given,()))=some (0,(q,(given,())))):=by
   intro y hy
   rcases mM (f:=iw y) y.2.1 (fun i=>(((0:Int),(i,())),(given,()))) (fun _ s=>decide (s∈given)) (fun i s=>(1,(((i:Int),((i:Int),())),(given,())))) (0,(((0:Int),(len y.2.1,())),(given,()))) hy (fun i s hs hi ha=>by
    unfold iw
    dsimp only
    rw[au hi,ag,az hs,aa,zE given s hg,aa,lX,ha]
    by_cases h:s∈given<;>simp[h]) (by unfold iw;dsimp only;rw[aE,af];rfl) with ⟨i,s,hs,hp,hj,h⟩|⟨hn,h⟩
   ·exact .inl ⟨List.any_eq_true.2 ⟨s,bQ.2 ⟨i,hs⟩,hp⟩,i,_,h⟩
   ·refine .inr ⟨?_,_,h⟩
    rw[List.any_eq_false]
    intro s hs
    obtain⟨i,hi⟩:=bQ.1 hs
    rw[hn i s hi];simp
  rcases mM (f:=om (l,(id,(given,()))) (own,())) l (fun i=>(((0:Int),(i,())),(given,()))) (UF given own) (fun i x=>(1,(((8:Int),((i:Int),())),(given,())))) (0,(((0:Int),(len l,())),(given,()))) hl.1 (fun i x hx hi ha=>by
   unfold om
   dsimp only
   rw[au hi,ag,az hx,aa]
   unfold UF
   by_cases ho:(i:Int)=own
   ·rw[aR ho,aK,af,ha]
    simp[ho]
   ·rw[aN ho,aF,ag]
    rcases inner x (hl.2 x (bQ.2 ⟨i,hx⟩)) with ⟨h1,k,q,h⟩|⟨h1,q,h⟩
    ·rw[h,aa,h1]
     dsimp only
     rw[jc,af,cz (by omega),ag]
     simp[ho]
    ·rw[h,aa,h1]
     dsimp only
     rw[cG,ag,show cO 0 (-1)=false from rfl,af,ha]
     simp[ho]) (by unfold om;dsimp only;rw[aE,af];rfl) with ⟨i,x,hx,hp,hj,h⟩|⟨hn,h⟩
  ·rw[h,aa,if_pos (Ff.2 ⟨i,x,hx,hp⟩)];rfl
  ·rw[h,aa,Sl hn];rfl
 ·rw[aN hc,aF,ag,if_pos hc]
theorem xT(l:List Tx)(h:l.length≤4294967296):bL (l,())=some (l,()):=by
 unfold bL
 dsimp only
 rw[wN h];rfl
theorem G9(x y:List Tx)(hx:x.length≤4294967296):ef (x,(y,()))=some (decide (x=y),()):=by
 unfold ef
 dsimp only
 rw[WH]
 by_cases hl:x.length=y.length
 ·rw[decide_eq_true hl,aK,af]
  rcases mM (f:=iJ (x,(y,()))) x (fun i=>((false,(i,())),())) (fun i a=>decide (y[i]?≠some a)) (fun i a=>(1,((false,((i:Int),())),()))) (0,((false,(len x,())),())) hx (fun i a ha hi G7=>by
   unfold iJ
   dsimp only
   have hi2:i<y.length:=by omega
   rw[au hi,ag,au hi2,ag,az ha,aa,az (List.getElem?_eq_getElem hi2),aa,TC,lX,G7,List.getElem?_eq_getElem hi2]
   by_cases h:a=y[i]
   ·simp[cc,h]
   ·have h':¬y[i]=a:=fun e=>h e.symm
    simp[cc,h,h']) (by unfold iJ;dsimp only;rw[aE,af,af];rfl) with ⟨i,a,ha,hp,hj,h⟩|⟨hn,h⟩
  ·rw[h,aa]
   have:x≠y:=fun e=>by subst e;rw[ha] at hp;simp at hp
   rw[decide_eq_false this];rfl
  ·rw[h,aa]
   have:x=y:=by
    apply List.ext_getElem?
    intro i
    cases hx2:x[i]? with
    | none =>
      have:x.length≤i:=List.getElem?_eq_none_iff.1 hx2
      exact(List.getElem?_eq_none_iff.2 (by omega)).symm
    | some a =>
      have:=hn i a hx2
      simp at this
      exact this.symm
   rw[decide_eq_true this];rfl
 ·rw[decide_eq_false hl,aF,ag]
  have:x≠y:=fun e=>hl (by rw[e])
  rw[decide_eq_false this]
end Go.Ge
namespace Go.Ge
set_option linter.unusedSectionVars false
variable [Lp]
set_option linter.unusedVariables false
set_option linter.unusedSimpArgs false
theorem rA{α:Type}{n:Nat}{l:List α}{c:Int}(hc:c=n):aj (aY ((min n l.length:Nat):Int) (len l)) (aY ((min n l.length:Nat):Int) c) false=false:=by
 subst hc
 by_cases h:l.length≤n
 ·rw[Nat.min_eq_right h,aE,af]
 ·rw[Nat.min_eq_left (by omega),aJ (Int.le_refl _)]
  cases aY (n:Int) (len l)<;>rfl
theorem jL{α:Type}{l:List α}{n:Nat}{c:Int}(hc:c=n):cO (len l) c=decide (l.length≤n):=by subst hc;exact HF n l
theorem gx{α:Type}{l:List α}{n:Nat}{c:Int}(hc:c=n):aY c (len l)=decide (n<l.length):=by subst hc;exact DJ n l
def wR(l:List Tx):Prop:=l.length≤8∧∀x∈l,x.length≤100
def acm(l:List Nm):Prop:=l.length≤40∧∀x∈l,x.1.length≤100∧wR x.2.1
theorem wR.small{l:List Tx}(h:wR l):l.length≤4294967296:=by have:=h.1;omega
theorem wR.each{l:List Tx}(h:wR l):∀x∈l,x.length≤4294967296:=fun x hx=>by have:=h.2 x hx;omega
theorem acm.small{l:List Nm}(h:acm l):Small l:=⟨by have:=h.1;omega,fun x hx=>by have:=(h.2 x hx).2.1;omega⟩
def id1:Tx:=[48,48,48,48,48,49]
end Go.Ge
namespace Go.Ge
set_option linter.unusedSectionVars false
variable [Lp]
set_option linter.unusedVariables false
set_option linter.unusedSimpArgs false
end Go.Ge
namespace Go.Ge
set_option linter.unusedSectionVars false
variable [Lp]
set_option linter.unusedVariables false
set_option linter.unusedSimpArgs false
abbrev Item:=Tx×Tx×Tx×Unit
abbrev b7:=Tx×Tx×List Tx×Tx×Int×Int×Bool×Unit
abbrev cH:=Tx×List Tx×Tx×Tx×List Item×Unit
abbrev Bb:=Tx×List Tx×Tx×Tx×Tx×List Item×Unit
abbrev u9:=Int×List b7×List cH×List Bb×Unit
theorem AL(l:List Tx):∃b,jK (l,())=some (b,())∧(b=true→wR l):=by
 unfold jK
 rcases qJ (f:=p8 (l,())) l 8 (fun i=>((false,(i,())),())) (fun _ x=>decide (100<x.length)) (fun i x=>(1,((false,((i:Int),())),()))) (fun n=>(0,((false,((n:Int),())),()))) (by omega) (fun i x hx hi YW ha=>by
  unfold p8
  dsimp only
  rw[au hi,ag,aT (show(i:Int)<8 by omega),ag,az hx,aa,gx (n:=100) (c:=100) rfl,lX,ha]
  by_cases h:100<x.length<;>simp[h]) (by unfold p8;dsimp only;rw[rA (c:=8) rfl,af]) with ⟨i,x,hi,hx,hp,_,h⟩|⟨hn,h⟩
 ·rw[h];exact⟨false,rfl,fun h=>by cases h⟩
 ·rw[h]
  refine⟨_,rfl,fun hb=>?_⟩
  dsimp only at hb
  rw[jL (n:=8) (c:=8) rfl] at hb
  have h8:=of_decide_eq_true hb
  refine⟨h8,fun x hx=>?_⟩
  obtain⟨i,hi⟩:=bQ.1 hx
  have:=hn i x (by have:=aH hi;omega) hi
  simpa using this
theorem LW(l:List Item):∃b,dU (l,())=some (b,()):=by
 unfold dU
 rcases qJ (f:=ec (l,())) l 8 (fun i=>((false,(i,())),())) (fun _ x=>decide (100<x.1.length)||decide (200<x.2.2.1.length)) (fun i x=>(1,((false,((i:Int),())),()))) (fun n=>(0,((false,((n:Int),())),()))) (by omega) (fun i x hx hi YW ha=>by
  unfold ec
  dsimp only
  rw[au hi,ag,aT (show(i:Int)<8 by omega),ag,az hx,aa,gx (n:=100) (c:=100) rfl,aa,gx (n:=200) (c:=200) rfl,ha]
  by_cases h:100<x.1.length
  ·simp[h,aj,nt,ah]
  ·by_cases h2:200<x.2.2.1.length<;>simp[h,h2,aj,nt,ah]) (by unfold ec;dsimp only;rw[rA (c:=8) rfl,af]) with ⟨i,x,hi,hx,hp,_,h⟩|⟨hn,h⟩
 ·rw[h];exact⟨false,rfl⟩
 ·rw[h];exact⟨_,rfl⟩
structure FewB (b:u9):Prop where
 ll:b.2.1.length≤40
 ln:∀x∈b.2.1,wR x.2.2.1
 il:b.2.2.1.length≤40
 sC:∀x∈b.2.2.1,wR x.2.1
 bl:b.2.2.2.1.length≤40
 bn:∀x∈b.2.2.2.1,wR x.2.1
theorem WZ(b:u9):∃c,oX (b,())=some (c,())∧(c=true→FewB b):=by
 obtain⟨BB,KK⟩:∃BB:List Tx→Bool,∀l,jK (l,())=some (BB l,())∧(BB l=true→wR l):=⟨fun l=>Classical.choose (AL l),fun l=>Classical.choose_spec (AL l)⟩
 obtain⟨Nt,Jd⟩:∃BB:List Item→Bool,∀l,dU (l,())=some (BB l,()):=⟨fun l=>Classical.choose (LW l),fun l=>Classical.choose_spec (LW l)⟩
 obtain⟨n,la,im,bo,u⟩:=b
 unfold oX
 rcases qJ (f:=gN ((n,(la,(im,(bo,u)))),())) la 40 (fun i=>((false,(i,())),())) (fun _ x=>!BB x.2.2.1) (fun i x=>(1,((false,((i:Int),())),()))) (fun n=>(0,((false,((n:Int),())),()))) (by omega) (fun i x hx hi YW ha=>by
  unfold gN
  dsimp only
  rw[au hi,ag,aT (show(i:Int)<40 by omega),ag,az hx,aa,(KK _).1,aa,TC,ha]
  cases BB x.2.2.1<;>rfl) (by unfold gN;dsimp only;rw[rA (c:=40) rfl,af]) with ⟨i,x,hi,hx,hp,_,h⟩|⟨hn0,h⟩
 ·rw[h];exact⟨false,rfl,fun h=>by cases h⟩
 rw[h,aa]
 dsimp only
 rw[cG,ag]
 rcases qJ (f:=gO ((n,(la,(im,(bo,u)))),())) im 40 (fun i=>((false,(i,())),())) (fun _ x=>!BB x.2.1||decide (200<x.2.2.2.1.length)||!Nt x.2.2.2.2.1) (fun i x=>(1,((false,((i:Int),())),()))) (fun n=>(0,((false,((n:Int),())),()))) (by omega) (fun i x hx hi YW ha=>by
  unfold gO
  dsimp only
  rw[au hi,ag,aT (show(i:Int)<40 by omega),ag,az hx,aa,(KK _).1,aa,aa,aa,gx (n:=200) (c:=200) rfl,Jd,aa,ha]
  dsimp only
  cases BB x.2.1 with
  | false=>rfl
  | true =>
    by_cases h2:200<x.2.2.2.1.length
    ·simp[h2,aj,nt,ah]
    ·cases hq:Nt x.2.2.2.2.1<;>simp[h2,aj,nt,ah]) (by unfold gO;dsimp only;rw[rA (c:=40) rfl,af]) with ⟨i,x,hi,hx,hp,_,h⟩|⟨I0,h⟩
 ·rw[h];exact⟨false,rfl,fun h=>by cases h⟩
 rw[h,aa]
 dsimp only
 rw[cG,ag]
 rcases qJ (f:=gP ((n,(la,(im,(bo,u)))),())) bo 40 (fun i=>((false,(i,())),())) (fun _ x=>!BB x.2.1||decide (200<x.2.2.2.2.1.length)||!Nt x.2.2.2.2.2.1) (fun i x=>(1,((false,((i:Int),())),()))) (fun n=>(0,((false,((n:Int),())),()))) (by omega) (fun i x hx hi YW ha=>by
  unfold gP
  dsimp only
  rw[au hi,ag,aT (show(i:Int)<40 by omega),ag,az hx,aa,(KK _).1,aa,aa,aa,gx (n:=200) (c:=200) rfl,Jd,aa,ha]
  dsimp only
  cases BB x.2.1 with
  | false=>rfl
  | true =>
    by_cases h2:200<x.2.2.2.2.1.length
    ·simp[h2,aj,nt,ah]
    ·cases hq:Nt x.2.2.2.2.2.1<;>simp[h2,aj,nt,ah]) (by unfold gP;dsimp only;rw[rA (c:=40) rfl,af]) with ⟨i,x,hi,hx,hp,_,h⟩|⟨hn2,h⟩
 ·rw[h];exact⟨false,rfl,fun h=>by cases h⟩
 rw[h,aa]
 refine⟨_,rfl,fun hb=>?_⟩
 rw[jL (n:=40) (c:=40) rfl,jL (n:=40) (c:=40) rfl,jL (n:=40) (c:=40) rfl] at hb
 have h1:la.length≤40:=by
  by_cases q:la.length≤40
  ·exact q
  ·rw[decide_eq_false q] at hb;cases hb
 have h2:im.length≤40:=by
  by_cases q:im.length≤40
  ·exact q
  ·rw[decide_eq_true h1,decide_eq_false q] at hb;cases hb
 have h3:bo.length≤40:=by
  by_cases q:bo.length≤40
  ·exact q
  ·rw[decide_eq_true h1,decide_eq_true h2,decide_eq_false q] at hb;cases hb
 refine⟨h1,fun x hx=>?_,h2,fun x hx=>?_,h3,fun x hx=>?_⟩
 ·dsimp only at hx
  obtain⟨i,hi⟩:=bQ.1 hx
  have:=hn0 i x (by have:=aH hi;omega) hi
  exact(KK _).2 (by simpa using this)
 ·dsimp only at hx
  obtain⟨i,hi⟩:=bQ.1 hx
  have:=I0 i x (by have:=aH hi;omega) hi
  simp only[Bool.or_eq_false_iff,Bool.not_eq_false'] at this
  exact(KK _).2 this.1.1
 ·dsimp only at hx
  obtain⟨i,hi⟩:=bQ.1 hx
  have:=hn2 i x (by have:=aH hi;omega) hi
  simp only[Bool.or_eq_false_iff,Bool.not_eq_false'] at this
  exact(KK _).2 this.1.1
def YX(x:b7):List Nm:=if x.2.2.2.2.2.2.1=true then [(x.1,(x.2.2.1,()))] else []
def Ye(x:cH):List Nm:=[(x.1,(x.2.1,()))]
def ofB(x:Bb):List Nm:=[(x.1,(x.2.1,()))]
def ofV(kind:Int)(b:u9):List Nm:=if kind=1 then b.2.2.2.1.flatMap ofB else if kind=2 then b.2.2.1.flatMap Ye else if kind=3 then b.2.1.flatMap YX else []
theorem oY{α β:Type}{g:α→List β}(hg:∀x,(g x).length≤1)(l:List α):(l.flatMap g).length≤l.length:=by
 induction l with
 | nil=>simp
 | cons a r ih=>rw[List.flatMap_cons,List.length_append,List.length_cons];have:=hg a;omega
theorem mS{α β:Type}{g:α→List β}(hg:∀x,(g x).length≤1)(l:List α)(i:Nat):((l.take i).flatMap g).length≤l.length:=by
 have:=oY hg (l.take i)
 rw[List.length_take] at this
 omega
theorem Nu(x:b7):(YX x).length≤1:=by unfold YX;split<;>simp
theorem Nv(x:cH):(Ye x).length≤1:=by simp[Ye]
theorem TE(x:Bb):(ofB x).length≤1:=by simp[ofB]
theorem Fg{α:Type}{s:List α}{x:α}(h:s.length≤1000):fits (plus (len s) (len [x]))=true:=cM (by simp;omega)
theorem DV(kind:Int)(b:u9)(hb:FewB b):uw (kind,(b,()))=some (ofV kind b,()):=by
 unfold uw ofV
 dsimp only
 by_cases h1:kind=1
 ·rw[if_pos h1,aR h1,ag]
  have:=zw (f:=ru (kind,(b,()))) b.2.2.2.1 (fun s i=>((i,()),((),(s,())))) ofB ((len b.2.2.2.1,()),((),(b.2.2.2.1.flatMap ofB,()))) (by have:=hb.bl;omega) (fun i x hx hi ha=>by
   unfold ru
   dsimp only
   have hf:=mS TE b.2.2.2.1 i
   rw[au hi,ag,az hx,aa,xT _ (hb.bn x (bQ.2 ⟨i,hx⟩)).small,aa,Fg (by have:=hb.bl;omega),ag,ha]
   rfl) (by unfold ru;dsimp only;rw[aE,af];rfl)
  rw[this,aa,aa]
 ·rw[if_neg h1,aN h1,af]
  by_cases h2:kind=2
  ·rw[if_pos h2,aR h2,ag]
   have:=zw (f:=ry (kind,(b,()))) b.2.2.1 (fun s i=>((i,()),((),(s,())))) Ye ((len b.2.2.1,()),((),(b.2.2.1.flatMap Ye,()))) (by have:=hb.il;omega) (fun i x hx hi ha=>by
    unfold ry
    dsimp only
    have hf:=mS Nv b.2.2.1 i
    rw[au hi,ag,az hx,aa,xT _ (hb.sC x (bQ.2 ⟨i,hx⟩)).small,aa,Fg (by have:=hb.il;omega),ag,ha]
    rfl) (by unfold ry;dsimp only;rw[aE,af];rfl)
   rw[this,aa,aa,aa]
  ·rw[if_neg h2,aN h2,af]
   by_cases h3:kind=3
   ·rw[if_pos h3,aR h3,ag]
    have:=zw (f:=rz (kind,(b,()))) b.2.1 (fun s i=>((i,()),((),(s,())))) YX ((len b.2.1,()),((),(b.2.1.flatMap YX,()))) (by have:=hb.ll;omega) (fun i x hx hi ha=>by
     unfold rz
     dsimp only
     have hf:=mS Nu b.2.1 i
     rw[au hi,ag,az hx,aa,xT _ (hb.ln x (bQ.2 ⟨i,hx⟩)).small,aa,Fg (by have:=hb.ll;omega),ag,ha]
     unfold YX
     cases x.2.2.2.2.2.2.1 with
     | false=>simp[aj,ah,ep]
     | true=>rfl) (by unfold rz;dsimp only;rw[aE,af];rfl)
    rw[this,aa,aa,aa,aa]
   ·rw[if_neg h3,aN h3,af];rfl
theorem LX(kind:Int)(b:u9)(hb:FewB b):Small (ofV kind b):=by
 unfold ofV
 split
 ·refine⟨by have:=oY TE b.2.2.2.1;have:=hb.bl;omega,fun x hx=>?_⟩
  rw[List.mem_flatMap] at hx
  obtain⟨y,hy,hx⟩:=hx
  simp only[ofB,List.mem_singleton] at hx
  subst hx
  exact(hb.bn y hy).small
 ·split
  ·refine⟨by have:=oY Nv b.2.2.1;have:=hb.il;omega,fun x hx=>?_⟩
   rw[List.mem_flatMap] at hx
   obtain⟨y,hy,hx⟩:=hx
   simp only[Ye,List.mem_singleton] at hx
   subst hx
   exact(hb.sC y hy).small
  ·split
   ·refine⟨by have:=oY Nu b.2.1;have:=hb.ll;omega,fun x hx=>?_⟩
    rw[List.mem_flatMap] at hx
    obtain⟨y,hy,hx⟩:=hx
    unfold YX at hx
    split at hx
    ·simp only[List.mem_singleton] at hx
     subst hx
     exact(hb.ln y hy).small
    ·cases hx
   ·exact⟨by simp,fun x hx=>by cases hx⟩
end Go.Ge
namespace Go.Ge
set_option linter.unusedSectionVars false
variable [Lp]
set_option linter.unusedVariables false
set_option linter.unusedSimpArgs false
def Gd(n x:Int):Int:=CW .u32 (rN .u32 x n) (yQ .u32 x (32-n))
theorem PB{n m:Int}(h:jF .u64 (qy .u64 (dO .i64 0 n)) 31=m)(h1:aY m 0=false)(h2:dO .u64 32 m=n)(h3:aY n 0=false)(h4:32-n=m)(x:Int):cq (x,(n,()))=some (Gd n x,()):=by
 unfold cq iU Gd
 dsimp only
 rw[h,h1,af,h2,h3,af,aa,h4,Sg]
theorem rB{n:Int}(h1:aY n 0=false)(h2:dO .i64 32 n=32-n)(h3:aY (32-n) 0=false)(x:Int):bS (x,(n,()))=some (Gd n x,()):=by
 unfold bS Gd
 dsimp only
 rw[h1,af,h2,h3,af]
theorem r6(x:Int):cq (x,(6,()))=some (Gd 6 x,()):=PB (m:=26) (by decide) (by decide) (by decide) (by decide) (by decide) x
theorem r2(x:Int):cq (x,(2,()))=some (Gd 2 x,()):=PB (m:=30) (by decide) (by decide) (by decide) (by decide) (by decide) x
theorem t7(x:Int):bS (x,(7,()))=some (Gd 7 x,()):=rB (by decide) (by decide) (by decide) x
theorem t18(x:Int):bS (x,(18,()))=some (Gd 18 x,()):=rB (by decide) (by decide) (by decide) x
theorem t17(x:Int):bS (x,(17,()))=some (Gd 17 x,()):=rB (by decide) (by decide) (by decide) x
theorem t19(x:Int):bS (x,(19,()))=some (Gd 19 x,()):=rB (by decide) (by decide) (by decide) x
theorem t6(x:Int):bS (x,(6,()))=some (Gd 6 x,()):=rB (by decide) (by decide) (by decide) x
theorem t11(x:Int):bS (x,(11,()))=some (Gd 11 x,()):=rB (by decide) (by decide) (by decide) x
theorem t25(x:Int):bS (x,(25,()))=some (Gd 25 x,()):=rB (by decide) (by decide) (by decide) x
theorem t2(x:Int):bS (x,(2,()))=some (Gd 2 x,()):=rB (by decide) (by decide) (by decide) x
theorem t13(x:Int):bS (x,(13,()))=some (Gd 13 x,()):=rB (by decide) (by decide) (by decide) x
theorem t22(x:Int):bS (x,(22,()))=some (Gd 22 x,()):=rB (by decide) (by decide) (by decide) x
def word(b:List Int)(t:Nat):Int :=
 CW .u32 (CW .u32 (CW .u32 (yQ .u32 (qy .u32 (b.getD (4*t) 0)) 24) (yQ .u32 (qy .u32 (b.getD (4*t+1) 0)) 16)) (yQ .u32 (qy .u32 (b.getD (4*t+2) 0)) 8)) (qy .u32 (b.getD (4*t+3) 0))
def lz(n:Nat):List Int:=List.replicate n 0
def DW(b:List Int):Nat→List Int
 | 0=>lz 64
 | t+1=>(DW b t).set t (word b t)
theorem zG(b:List Int)(t:Nat):(DW b t).length=64:=by
 induction t with
 | zero=>rfl
 | succ t ih=>simp[DW,ih]
def acn(p:List Int)(t:Nat):Int :=
 aI .u32 (aI .u32 (aI .u32 (eu .u32 (eu .u32 (Gd 17 (p.getD (t-2) 0)) (Gd 19 (p.getD (t-2) 0))) (rN .u32 (p.getD (t-2) 0) 10)) (p.getD (t-7) 0))
  (eu .u32 (eu .u32 (Gd 7 (p.getD (t-15) 0)) (Gd 18 (p.getD (t-15) 0))) (rN .u32 (p.getD (t-15) 0) 3))) (p.getD (t-16) 0)
def Nw(l:List Int):Nat→List Int
 | 0=>l
 | k+1=>(Nw l k).set (16+k) (acn (Nw l k) (16+k))
theorem Je(l:List Int)(k:Nat):(Nw l k).length=l.length:=by
 induction k with
 | zero=>rfl
 | succ k ih=>simp[Nw,ih]
def Cx(b:List Int):List Int:=Nw (DW b 16) 48
theorem Nx(b:List Int):(Cx b).length=64:=by unfold Cx;rw[Je,zG]
theorem four{t:Nat}(ht:t<64):lJ .i64 4 (t:Int)=((4*t:Nat):Int):=by rw[DH (by omega) (by omega)];omega
theorem YY:([0,0,0,0,0,0,0,0,0,0,0,0,0,0,0,0,0,0,0,0,0,0,0,0,0,0,0,0,0,0,0,0,0,0,0,0,0,0,0,0,0,0,0,0,0,0,0,0,0,0,0,0,0,0,0,0,0,0,0,0,0,0,0,0]:List Int)=lz 64:=rfl
theorem W0(s:List UInt8){i:Nat}(h:i<s.length)(x:UInt8)(hx:s[i]?=some x):u8 x=(ax s).getD i 0:=by
 simp[ax,List.getD_eq_getElem?_getD,hx,u8]
theorem UG(h:List Int)(s:List UInt8)(hs:s.length=64)(u:Unit):Loop (gA (h,(s,u))) ((0,()),(lz 64,()))=some (((16:Int),()),(DW (ax s) 16,())):=by
 have key:∀b:List Int,b=ax s→Loop (gA (h,(s,u))) ((0,()),(lz 64,()))=some (((16:Int),()),(DW b 16,())):=by
  intro b hb
  refine ez (f:=gA (h,(s,u))) 16 (fun t=>(((t:Int),()),(DW b t,()))) (fun t ht=>?_) ?_
  ·have at_:∀(i:Int) (j:Nat),i=j→j<64→∃x,idx s i=some x∧u8 x=b.getD j 0:=by
    intro i j e hj
    subst e
    refine⟨s[j],?_,by rw[hb];exact W0 s (by omega) _ (List.getElem?_eq_getElem (by omega))⟩
    rw[uZ,List.getElem?_eq_getElem]
   unfold gA
   dsimp only
   rw[aT (by omega),ag,four (by omega),iH (by omega) (by omega),iH (by omega) (by omega),iH (by omega) (by omega)]
   obtain⟨x0,i0,e0⟩:=at_ ((4*t:Nat):Int) (4*t) rfl (by omega)
   obtain⟨x1,i1,e1⟩:=at_ (((4*t:Nat):Int)+1) (4*t+1) (by omega) (by omega)
   obtain⟨x2,i2,e2⟩:=at_ (((4*t:Nat):Int)+2) (4*t+2) (by omega) (by omega)
   obtain⟨x3,i3,e3⟩:=at_ (((4*t:Nat):Int)+3) (4*t+3) (by omega) (by omega)
   rw[i0,aa,aJ (by decide),af,i1,aa,aJ (by decide),af,i2,aa,aJ (by decide),af,i3,aa,cF (by omega) (by omega),ag,
    nM _ 0 (by rw[zG];omega),aa,aa,aa,fD,aZ (by omega),DI,e0,e1,e2,e3]
   rfl
  ·unfold gA
   dsimp only
   rw[aJ (by omega),af,gL]
   rfl
 exact key _ rfl
theorem YZ(l:List Int)(hl:l.length=64):Loop jq ((16,()),(l,()))=some (((64:Int),()),(Nw l 48,())):=by
 refine ez (f:=jq) 48 (fun k=>((((16+k:Nat):Int),()),(Nw l k,()))) (fun k hk=>?_) ?_
 ·have hlen:(Nw l k).length=64:=by rw[Je,hl]
  unfold jq
  dsimp only
  rw[aT (by omega),ag,fZ (by omega) (by omega),fZ (by omega) (by omega),fZ (by omega) (by omega),fZ (by omega) (by omega),
   cF (by omega) (by omega),ag,I3 _ 0 (k:=16+k-2) (by omega) (by omega),aa,cF (by omega) (by omega),ag,I3 _ 0 (k:=16+k-15) (by omega) (by omega),aa,
   t17,aa,t19,aa,aJ (by decide),af,cF (by omega) (by omega),ag,I3 _ 0 (k:=16+k-7) (by omega) (by omega),aa,t7,aa,t18,aa,aJ (by decide),af,
   cF (by omega) (by omega),ag,I3 _ 0 (k:=16+k-16) (by omega) (by omega),aa,cF (by omega) (by omega),ag,nM _ 0 (by omega),aa,aa,aa,fD,aZ (by omega),DI]
  rfl
 ·unfold jq
  dsimp only
  rw[aJ (by omega),af,gL]
  rfl
abbrev W8:=Int×Int×Int×Int×Int×Int×Int×Int
def rnd(k w:Int):W8→W8
 | (a,b,c,d,e,f,g,h) =>
   let one:=aI .u32 (aI .u32 (aI .u32 (aI .u32 h (eu .u32 (eu .u32 (Gd 6 e) (Gd 11 e)) (Gd 25 e))) (eu .u32 g (jF .u32 e (eu .u32 f g)))) k) w
   let two:=aI .u32 (eu .u32 (eu .u32 (Gd 2 a) (Gd 13 a)) (Gd 22 a)) (CW .u32 (jF .u32 a b) (jF .u32 c (CW .u32 a b)))
   (aI .u32 one two,a,b,c,aI .u32 d one,e,f,g)
def PC(K w:List Int)(s:W8):Nat→W8
 | 0=>s
 | t+1=>rnd (K.getD t 0) (w.getD t 0) (PC K w s t)
def DX:List Int:=[1116352408,1899447441,3049323471,3921009573,961987163,1508970993,2453635748,2870763221,3624381080,310598401,607225278,1426881987,1925078388,2162078206,2614888103,3248222580,3835390401,4022224774,264347078,604807628,770255983,1249150122,1555081692,1996064986,2554220882,2821834349,2952996808,3210313671,3336571891,3584528711,113926993,338241895,666307205,773529912,1294757372,1396182291,1695183700,1986661051,2177026350,2456956037,2730485921,2820302411,3259730800,3345764771,3516065817,3600352804,4094571909,275423344,430227734,506948616,659060556,883997877,958139571,1322822218,1537002063,1747873779,1955562222,2024104815,2227730452,2361852424,2428436474,2756734187,3204031479,3329325298]
theorem Sn:uo ()=some (DX,()):=rfl
def r8(s:W8):List Int:=[s.1,s.2.1,s.2.2.1,s.2.2.2.1,s.2.2.2.2.1,s.2.2.2.2.2.1,s.2.2.2.2.2.2.1,s.2.2.2.2.2.2.2]
theorem Sp(w:List Int)(hw:w.length=64)(s:W8)(q:Int×Unit)(u v:Unit):Loop (gB (q,(w,u)) (DX,v)) ((0,()),(r8 s,()))=some (((64:Int),()),(r8 (PC DX w s 64),())):=by
 refine ez (f:=gB (q,(w,u)) (DX,v)) 64 (fun t=>(((t:Int),()),(r8 (PC DX w s t),()))) (fun t ht=>?_) ?_
 ·show gB (q,(w,u)) (DX,v) (((t:Int),()),(r8 (PC DX w s t),()))=some (.inl ((((t+1:Nat):Int),()),(r8 (rnd (DX.getD t 0) (w.getD t 0) (PC DX w s t)),())))
  generalize PC DX w s t=q
  obtain⟨a,b,c,d,e,f,g,h⟩:=q
  have i0:idx (r8 (a,b,c,d,e,f,g,h)) 0=some a:=rfl
  have i1:idx (r8 (a,b,c,d,e,f,g,h)) 1=some b:=rfl
  have i2:idx (r8 (a,b,c,d,e,f,g,h)) 2=some c:=rfl
  have i3:idx (r8 (a,b,c,d,e,f,g,h)) 3=some d:=rfl
  have i4:idx (r8 (a,b,c,d,e,f,g,h)) 4=some e:=rfl
  have i5:idx (r8 (a,b,c,d,e,f,g,h)) 5=some f:=rfl
  have i6:idx (r8 (a,b,c,d,e,f,g,h)) 6=some g:=rfl
  have i7:idx (r8 (a,b,c,d,e,f,g,h)) 7=some h:=rfl
  have w0:within 0 8=true:=by decide
  have w1:within 1 8=true:=by decide
  have w2:within 2 8=true:=by decide
  have w3:within 3 8=true:=by decide
  have w4:within 4 8=true:=by decide
  have w5:within 5 8=true:=by decide
  have w6:within 6 8=true:=by decide
  have w7:within 7 8=true:=by decide
  have wt:within (t:Int) 64=true:=cF (by omega) (by omega)
  unfold gB
  dsimp only
  simp only[aT (show(t:Int)<64 by omega),ag,w0,w1,w2,w3,w4,w5,w6,w7,wt,i0,i1,i2,i3,i4,i5,i6,i7,aa,t6,t11,t25,t2,t13,t22,nM DX 0 (show t<DX.length from ht),nM w 0 (show t<w.length by omega),fD,aZ (show t<4611686018427387904 by omega),
   ←aci,←aau]
  rfl
 ·unfold gB
  dsimp only
  rw[aJ (by omega),af,gL]
  rfl
def of8(l:List Int):W8:=(l.getD 0 0,l.getD 1 0,l.getD 2 0,l.getD 3 0,l.getD 4 0,l.getD 5 0,l.getD 6 0,l.getD 7 0)
theorem UH(l:List Int)(hl:l.length=8):r8 (of8 l)=l:=by
 match l,hl with
 | [a,b,c,d,e,f,g,h],_=>rfl
def DY(l m:List Int):Nat→List Int
 | 0=>l
 | i+1=>(DY l m i).set i (aI .u32 (l.getD i 0) (m.getD i 0))
theorem Gf(l m:List Int)(i:Nat):(DY l m i).length=l.length:=by
 induction i with
 | zero=>rfl
 | succ i ih=>simp[DY,ih]
theorem Y0(l m:List Int):∀(i j:Nat),i≤j→(DY l m i).getD j 0=l.getD j 0:=by
 intro i
 induction i with
 | zero=>intro j _;rfl
 | succ i ih =>
   intro j h
   have:=ih j (by omega)
   simp only[DY,List.getD_eq_getElem?_getD,List.getElem?_set] at this⊢
   rw[if_neg (by omega)];exact this
def comp(h b:List Int):List Int:=DY h (r8 (PC DX (Cx b) (of8 h) 64)) 8
theorem PD(h b:List Int):(comp h b).length=h.length:=Gf _ _ _
theorem UI(l m:List Int)(hl:l.length=8)(hm:m.length=8):DY l m 8=DY m l 8:=by
 match l,hl,m,hm with
 | [a,b,c,d,e,f,g,h],_,[a',b',c',d',e',f',g',h'],_ =>
   simp only[DY,List.set,List.getD_cons_zero,List.getD_cons_succ]
   simp only[Pr]
theorem UJ(h:List Int)(hh:h.length=8)(s:List UInt8)(hs:s.length=64)(u:Unit):qZ (h,(s,u))=some (comp h (ax s),()):=by
 have hb:(DW (ax s) 16).length=64:=zG _ _
 unfold qZ
 rw[YY,UG h s hs,aa]
 dsimp only
 rw[YZ _ hb,aa,Sn,aa]
 have e8:h=r8 (of8 h):=(UH h hh).symm
 have hsc:(Cx (ax s)).length=64:=Nx _
 have hr:=Sp (Cx (ax s)) hsc (of8 h) ((64:Int),()) () ()
 rw[←e8] at hr
 rw[show Nw (DW (ax s) 16) 48=Cx (ax s) from rfl,hr,aa]
 dsimp only
 generalize hm:r8 (PC DX (Cx (ax s)) (of8 h) 64)=m
 have hm8:m.length=8:=by rw[←hm];rfl
 have:Loop (jr (h,(s,u))) ((0,()),(m,()))=some (((8:Int),()),(DY m h 8,())):=by
  refine ez (f:=jr (h,(s,u))) 8 (fun i=>(((i:Int),()),(DY m h i,()))) (fun i hi=>?_) ?_
  ·have hl:(DY m h i).length=8:=by rw[Gf,hm8]
   unfold jr
   dsimp only
   simp only[aT (show(i:Int)<8 by omega),ag,cF (show(0:Int)≤i by omega) (show(i:Int)<8 by omega),nM (DY m h i) 0 (show i<(DY m h i).length by omega),nM h 0 (show i<h.length by omega),aa,fD,aZ (show i<4611686018427387904 by omega),DI]
   rw[Y0 m h i i (Nat.le_refl _)]
   rfl
  ·unfold jr
   dsimp only
   rw[aJ (by omega),af,gL]
   rfl
 rw[this,aa]
 dsimp only
 rw[UI m h hm8 hh]
 unfold comp
 rw[hm]
end Go.Ge
namespace Go.Ge
set_option linter.unusedSectionVars false
variable [Lp]
set_option linter.unusedVariables false
set_option linter.unusedSimpArgs false
def H0:List Int:=[1779033703,3144134277,1013904242,2773480762,1359893119,2600822924,528734635,1541459225]
theorem KL:vI ()=some (H0,()):=rfl
def ZO(all:List UInt8):Nat→List Int
 | 0=>H0
 | k+1=>comp (ZO all k) (ax ((all.drop (64*k)).take 64))
theorem Jf(all:List UInt8)(k:Nat):(ZO all k).length=8:=by
 induction k with
 | zero=>rfl
 | succ k ih=>simp only[ZO];rw[PD,ih]
abbrev aaB:=(Bool×List Int×Unit)×List Int×Int×Unit
def Inv(st:aaB)(all:List UInt8):Prop :=
 ∃wait,st=((decide (64≤all.length),(if 64≤all.length then ZO all (all.length / 64) else lz 8),()),wait,(all.length:Int),())∧wait.length=64∧wait.take (all.length % 64)=ax (all.drop (64*(all.length / 64)))
theorem vK(a b:List UInt8):ax (a++b)=ax a++ax b:=by simp[ax]
theorem Jg(a:List UInt8)(n:Nat):(ax a).take n=ax (a.take n):=by simp[ax,List.map_take]
theorem p9(a:List UInt8):(ax a).length=a.length:=by simp[ax]
theorem DZ(a b:Nat):ij (a:Int) (b:Int)=((a % b:Nat):Int):=by
 unfold ij;rw[Int.tmod_eq_emod_of_nonneg (by omega)];exact(Int.natCast_emod a b).symm
end Go.Ge
namespace Go.Ge
set_option linter.unusedSectionVars false
variable [Lp]
set_option linter.unusedVariables false
set_option linter.unusedSimpArgs false
def zs(n:Nat):Nat:=(119-n % 64) % 64
def ic(n k:Nat):Int:=qy .u8 (rN .u64 (lJ .u64 (qy .u64 (n:Int)) 8) ((8*k:Nat):Int))
def UK(n:Nat):List Int:=[ic n 7,ic n 6,ic n 5,ic n 4,ic n 3,ic n 2,ic n 1,ic n 0]
def pad(s:List UInt8):List UInt8:=s++[128]++List.replicate (zs s.length) 0++bz (UK s.length)
theorem Jh(s:List UInt8):(pad s).length=s.length+1+zs s.length+8:=by simp[pad,bz,UK];omega
theorem Y1(s:List UInt8):(pad s).length % 64=0:=by rw[Jh];unfold zs;omega
theorem oq(s:List UInt8):bz (ax s)=s:=by
 unfold bz ax
 rw[List.map_map]
 conv=>rhs;rw[←List.map_id s]
 apply List.map_congr_left
 intro x _
 simp
theorem vL(a b:List Int):bz (a++b)=bz a++bz b:=by simp[bz]
theorem PE(s:List UInt8)(hn:s.length≤1048576):Loop jo (((),()),(ax s++[128],()))=some (((),()),(ax s++[128]++lz (zs s.length),())):=by
 have hz:zs s.length<64:=Nat.mod_lt _ (by decide)
 have:=ez (f:=jo) (r:=(((),()),(ax s++[128]++lz (zs s.length),()))) (zs s.length) (fun j=>(((),()),(ax s++[128]++lz j,()))) (fun j hj=>by
  unfold jo
  dsimp only
  have el:len (ax s++[128]++lz j)=((s.length+1+j:Nat):Int):=by unfold len;simp[ax,lz];omega
  rw[aN (by decide),af,el,show((64:Int))=((64:Nat):Int) from rfl,DZ,aN (by unfold zs at hj;omega),show nt false=true from rfl,ag,dD (by simp only[plus,len,List.length_singleton];omega),ag,fD]
  congr 4
  show ax s++[128]++lz j++[0]=_
  rw[List.append_assoc,show lz j++[0]=lz (j+1) from by simp[lz,List.replicate_succ']])
  (by
   unfold jo
   dsimp only
   have el:len (ax s++[128]++lz (zs s.length))=((s.length+1+zs s.length:Nat):Int):=by unfold len;simp[ax,lz];omega
   rw[aN (by decide),af,el,show((64:Int))=((64:Nat):Int) from rfl,DZ,aR (by unfold zs;omega),show nt true=false from rfl,af,gL])
 have h0:ax s++[128]++lz 0=ax s++[128]:=by simp[lz]
 simp only[h0] at this
 exact this
theorem UL(s:List UInt8)(b:List Int)(hn:s.length≤1048576)(hb:b.length≤2097152)(u:Unit):Loop (dQ (s,u)) (((),(7,())),(b,()))=some (((),(-1,())),(b++UK s.length,())):=by
 have step:∀(k:Nat) (c:List Int),k≤7→c.length≤2097160→dQ (s,u) (((),((k:Int),())),(c,()))=some (.inl (((),((k:Int)-1,())),(c++[ic s.length k],()))):=by
  intro k c hk hc
  unfold dQ
  dsimp only
  have e8:lJ .i64 8 (k:Int)=((8*k:Nat):Int):=by rw[DH (by omega) (by omega)];omega
  rw[cz (by omega),ag,e8,aJ (by omega),af,dD (by simp only[plus,len,List.length_singleton];omega),ag,fZ (by omega) (by omega),fD]
  rfl
 have hend:∀c:List Int,dQ (s,u) (((),((-1:Int),())),(c,()))=some (.inr (((),(-1,())),(c,()))):=by
  intro c
  unfold dQ
  dsimp only
  rw[eU (by decide),af,gL]
 have L:∀(k:Nat) (c:List Int),k≤7→c.length≤2097160→Loop (dQ (s,u)) (((),((k:Int),())),(c,()))=Loop (dQ (s,u)) (((),((k:Int)-1,())),(c++[ic s.length k],())):=by
  intro k c hk hc
  rw[aV,step k c hk hc];rfl
 have l7:=L 7 b (by omega) (by omega)
 have l6:=L 6 (b++[ic s.length 7]) (by omega) (by simp;omega)
 have l5:=L 5 (b++[ic s.length 7]++[ic s.length 6]) (by omega) (by simp;omega)
 have l4:=L 4 (b++[ic s.length 7]++[ic s.length 6]++[ic s.length 5]) (by omega) (by simp;omega)
 have l3:=L 3 (b++[ic s.length 7]++[ic s.length 6]++[ic s.length 5]++[ic s.length 4]) (by omega) (by simp;omega)
 have l2:=L 2 (b++[ic s.length 7]++[ic s.length 6]++[ic s.length 5]++[ic s.length 4]++[ic s.length 3]) (by omega) (by simp;omega)
 have l1:=L 1 (b++[ic s.length 7]++[ic s.length 6]++[ic s.length 5]++[ic s.length 4]++[ic s.length 3]++[ic s.length 2]) (by omega) (by simp;omega)
 have l0:=L 0 (b++[ic s.length 7]++[ic s.length 6]++[ic s.length 5]++[ic s.length 4]++[ic s.length 3]++[ic s.length 2]++[ic s.length 1]) (by omega) (by simp;omega)
 refine l7.trans (l6.trans (l5.trans (l4.trans (l3.trans (l2.trans (l1.trans (l0.trans ?_)))))))
 have:b++[ic s.length 7]++[ic s.length 6]++[ic s.length 5]++[ic s.length 4]++[ic s.length 3]++[ic s.length 2]++[ic s.length 1]++[ic s.length 0]=b++UK s.length:=by simp[UK]
 rw[this]
 show Loop (dQ (s,u)) (((),(-1,())),(b++UK s.length,()))=_
 rw[aV,hend];rfl
theorem UM(s:List UInt8)(hn:s.length≤1048576):qY (s,())=some (pad s,()):=by
 have hz:zs s.length<64:=Nat.mod_lt _ (by decide)
 unfold qY
 dsimp only
 rw[dD (by unfold len;omega),ag,dD (by simp only[plus,len,List.length_singleton,p9];omega),ag,show app (ax s) ([128]:List Int)=ax s++[128] from rfl,PE s hn,aa]
 dsimp only
 rw[UL s _ hn (by simp[p9,lz];omega),aa]
 dsimp only
 rw[vL,vL,vL,oq]
 unfold pad
 have:bz (lz (zs s.length))=List.replicate (zs s.length) 0:=by unfold bz lz;rw[List.map_replicate];rfl
 rw[this]
 rfl
theorem Sq(t:List UInt8)(hm:t.length % 64=0)(hn:t.length≤2097152)(u:Unit):Loop (lY (t,u)) ((0,()),(H0,()))=some (((t.length:Int),()),(ZO t (t.length / 64),())):=by
 have:=ez (f:=lY (t,u)) (r:=(((t.length:Int),()),(ZO t (t.length / 64),()))) (t.length / 64) (fun j=>((((64*j:Nat):Int),()),(ZO t j,()))) (fun j hj=>by
  unfold lY
  dsimp only
  have hjl:64*j+64≤t.length:=by omega
  rw[iH (by omega) (by omega),cz (by unfold len;omega),ag,bB (by omega) (by omega) (by unfold len;omega),ag]
  have hs:sub t ((64*j:Nat):Int) (minus (((64*j:Nat):Int)+64) ((64*j:Nat):Int))=(t.drop (64*j)).take 64:=by
   unfold sub minus
   rw[Int.toNat_natCast,show(((64*j:Nat):Int)+64-((64*j:Nat):Int)).toNat=64 by omega]
  rw[hs,UJ _ (Jf t j) _ (by rw[List.length_take,List.length_drop];omega),aa,fD]
  rw[show(((64*j:Nat):Int)+64)=((64*(j+1):Nat):Int) by omega]
  rfl)
  (by
   unfold lY
   dsimp only
   have hjl:64*(t.length / 64)=t.length:=by omega
   rw[hjl,iH (by omega) (by omega),eU (by unfold len;omega),af,gL])
 exact this
def aei(h:List Int)(i:Nat):Int:=qy .u8 (rN .u32 (h.getD (i / 4) 0) ((24-8*(i % 4):Nat):Int))
def UN(h:List Int):Nat→List Int
 | 0=>lz 32
 | i+1=>(UN h i).set i (aei h i)
theorem Gg(h:List Int)(i:Nat):(UN h i).length=32:=by
 induction i with
 | zero=>rfl
 | succ i ih=>simp[UN,ih]
theorem Y2:([0,0,0,0,0,0,0,0,0,0,0,0,0,0,0,0,0,0,0,0,0,0,0,0,0,0,0,0,0,0,0,0]:List Int)=lz 32:=rfl
theorem W3{a:Nat}(h:a<4611686018427387904):GI .i64 (a:Int) 4=((a / 4:Nat):Int):=by
 have e:((a:Int).tdiv 4)=((a / 4:Nat):Int):=by rw[Int.tdiv_eq_ediv_of_nonneg (by omega)];exact(Int.natCast_ediv a 4).symm
 unfold GI
 rw[e]
 have:=AJ (a:=((a / 4:Nat):Int)) (by omega) (by omega)
 unfold qy at this
 exact this
theorem W4{h o:List Int}(hh:h.length=8)(ho:o.length=32)(i:Nat)(hi:i<32):GI .i64 (i:Int) 4=((i / 4:Nat):Int)∧dO .i64 24 (lJ .i64 8 (ij (i:Int) 4))=((24-8*(i % 4):Nat):Int):=by
 refine⟨W3 (by omega),?_⟩
 rw[show(4:Int)=((4:Nat):Int) from rfl,DZ,DH (by omega) (by omega),fZ (by omega) (by omega)]
 omega
theorem Y3(h:List Int)(hh:h.length=8)(q:Int×Unit)(u:Unit):Loop (lZ (q,(h,u))) ((0,()),(lz 32,()))=some (((32:Int),()),(UN h 32,())):=by
 refine ez (f:=lZ (q,(h,u))) 32 (fun i=>(((i:Int),()),(UN h i,()))) (fun i hi=>?_) ?_
 ·have hl:=Gg h i
  obtain⟨e1,e2⟩:=W4 hh hl i hi
  unfold lZ
  dsimp only
  rw[aT (by omega),ag,aN (by decide),af,e1,cF (by omega) (by omega),ag,nM h 0 (by omega),aa,af,e2,aJ (by omega),af,cF (by omega) (by omega),ag,
   nM _ 0 (by omega),aa,aa,aa,fD,aZ (by omega),DI]
  rfl
 ·unfold lZ
  dsimp only
  rw[aJ (by omega),af,gL]
  rfl
def sha(s:List UInt8):List Int:=UN (ZO (pad s) ((pad s).length / 64)) 32
theorem Cy(s:List UInt8):(sha s).length=32:=Gg _ _
theorem Sr(s:List UInt8)(hn:s.length≤1048576):u5 (s,())=some (sha s,()):=by
 have hz:zs s.length<64:=Nat.mod_lt _ (by decide)
 unfold u5
 rw[KL,aa]
 dsimp only
 rw[UM s hn,aa,Sq _ (Y1 s) (by rw[Jh];omega),aa,Y2,Y3 _ (Jf _ _),aa]
 dsimp only[sha]
end Go.Ge
namespace Go.Ge
set_option linter.unusedSectionVars false
variable [Lp]
set_option linter.unusedVariables false
set_option linter.unusedSimpArgs false
abbrev afg:=(Bool×List UInt8×Int×Unit)×aaB×aaB×Unit
end Go.Ge
namespace Go.Ge
set_option linter.unusedSectionVars false
variable [Lp]
set_option linter.unusedVariables false
set_option linter.unusedSimpArgs false
def Ss:List UInt8:=[48,49,50,51,52,53,54,55,56,57,97,98,99,100,101,102]
def hx(n:Nat):UInt8:=Ss.getD n 0
def r9:List UInt8→List UInt8
 | []=>[]
 | b::r=>hx (b.toNat / 16)::hx (b.toNat % 16)::r9 r
theorem zH(l:List UInt8):(r9 l).length=2*l.length:=by
 induction l with
 | nil=>rfl
 | cons b r ih=>simp only[r9,List.length_cons,ih];omega
theorem W5(a b:List UInt8):r9 (a++b)=r9 a++r9 b:=by
 induction a with
 | nil=>rfl
 | cons x r ih=>simp only[List.cons_append,r9,ih]
theorem Y4:∀n:Fin 256,idx Ss (rN .u8 (n.val:Int) 4)=some (hx (n.val / 16)):=by decide +kernel
theorem Y5:∀n:Fin 256,idx Ss (jF .u8 (n.val:Int) 15)=some (hx (n.val % 16)):=by decide +kernel
theorem aaC(b:UInt8):idx Ss (rN .u8 (u8 b) 4)=some (hx (b.toNat / 16)):=Y4 ⟨b.toNat,b.toNat_lt⟩
theorem aaD(b:UInt8):idx Ss (jF .u8 (u8 b) 15)=some (hx (b.toNat % 16)):=Y5 ⟨b.toNat,b.toNat_lt⟩
theorem wS(s:List UInt8){k:Nat}(h:k<s.length):idx (ax s) (k:Int)=some (u8 s[k]):=by
 rw[uZ];simp[ax,u8,h]
theorem AM(s:List UInt8){k:Nat}(h:k<s.length):idx s (k:Int)=some s[k]:=by
 rw[uZ];simp[h]
theorem jx(s:List UInt8):len (ax s)=(s.length:Int):=by simp[len,ax]
theorem Ny(s:List UInt8){k:Nat}(h:k<s.length):s.take (k+1)=s.take k++[s[k]]:=by
 rw[List.take_add_one,List.getElem?_eq_getElem h];rfl
theorem TF(s:List UInt8){k:Nat}(h:k<s.length):ax (r9 (s.take (k+1)))=(ax (r9 (s.take k))++[u8 (hx (s[k].toNat / 16))])++[u8 (hx (s[k].toNat % 16))]:=by
 rw[Ny s h,W5,vK,List.append_assoc]
 rfl
theorem W6(s:List UInt8)(hs:s.length≤1048576){k:Nat}(h:k<s.length)(x y:Int) :
  fits (plus (len (ax (r9 (s.take k)))) (len [x]))=true∧fits (plus (len (ax (r9 (s.take k))++[x])) (len [y]))=true:=by
 constructor
 ·apply dD
  rw[jx,zH]
  simp only[List.length_take,plus,len,List.length_cons,List.length_nil]
  omega
 ·apply dD
  have:(ax (r9 (s.take k))++[x]).length=2*min k s.length+1:=by
   rw[List.length_append,p9,zH,List.length_take];rfl
  simp only[plus,len,this,List.length_cons,List.length_nil]
  omega
theorem Y6(s:List UInt8)(hs:s.length≤1048576):pX (s,())=some (r9 s,()):=by
 unfold pX
 dsimp only
 rw[dD (by simp only[len];omega),ag]
 have key:Loop (kE (s,())) ((0,()),(((),((),())),([],())))=some (((s.length:Int),()),(((),((),())),(ax (r9 s),()))):=by
  have:=ez (f:=kE (s,())) (r:=(((s.length:Int),()),(((),((),())),(ax (r9 s),())))) s.length (fun k=>(((k:Int),()),(((),((),())),(ax (r9 (s.take k)),())))) (fun k hk=>by
   unfold kE
   dsimp only
   obtain⟨f1,f2⟩:=W6 s hs hk (u8 (hx (s[k].toNat / 16))) (u8 (hx (s[k].toNat % 16)))
   rw[jx,aT (by omega),ag,cF (by omega) (by omega),ag,wS s hk,aa,aJ (by decide),af]
   rw[show([48,49,50,51,52,53,54,55,56,57,97,98,99,100,101,102]:List UInt8)=Ss from rfl,aaC,aa,f1,ag,aaD,aa]
   unfold app
   rw[f2,ag,fD,aZ (by omega),TF s hk]) (by
   unfold kE
   dsimp only
   rw[jx,aJ (by omega),af,gL,List.take_length])
  exact this
 rw[key,aa]
 dsimp only
 rw[oq]
theorem aej:∀n:Fin 16,kT ((n.val:Int),())=some (u8 (hx n.val),()):=by decide +kernel
theorem HJ{n:Nat}(h:n<16):kT ((n:Int),())=some (u8 (hx n),()):=aej ⟨n,h⟩
theorem W7:∀n:Fin 256,GI .i64 (qy .i64 (n.val:Int)) 16=((n.val / 16:Nat):Int):=by decide +kernel
theorem W9:∀n:Fin 256,ij (qy .i64 (n.val:Int)) 16=((n.val % 16:Nat):Int):=by decide +kernel
theorem aaE(b:UInt8):GI .i64 (qy .i64 (u8 b)) 16=((b.toNat / 16:Nat):Int):=W7 ⟨b.toNat,b.toNat_lt⟩
theorem aaF(b:UInt8):ij (qy .i64 (u8 b)) 16=((b.toNat % 16:Nat):Int):=W9 ⟨b.toNat,b.toNat_lt⟩
theorem Su(s:List UInt8)(hs:s.length≤1048576):u6 (s,())=some (r9 s,()):=by
 unfold u6
 have key:Loop (l8 (s,())) (((),(0,())),([],()))=some (((),((s.length:Int),())),(ax (r9 s),())):=by
  have:=ez (f:=l8 (s,())) (r:=(((),((s.length:Int),())),(ax (r9 s),()))) s.length (fun k=>(((),((k:Int),())),(ax (r9 (s.take k)),()))) (fun k hk=>by
   unfold l8
   dsimp only
   obtain⟨f1,f2⟩:=W6 s hs hk (u8 (hx (s[k].toNat / 16))) (u8 (hx (s[k].toNat % 16)))
   have hb:=s[k].toNat_lt
   rw[show len s=(s.length:Int) from rfl,aT (by omega),ag,AM s hk,aa,aN (by decide),af,aaE,HJ (by omega),aa]
   dsimp only
   rw[f1,ag,aa,af,aaF,HJ (by omega),aa]
   dsimp only
   unfold app
   rw[f2,ag,fD,aZ (by omega),TF s hk]) (by
   unfold l8
   dsimp only
   rw[show len s=(s.length:Int) from rfl,aJ (by omega),af,gL,List.take_length])
  exact this
 rw[key,aa]
 dsimp only
 rw[oq]
end Go.Ge
namespace Go.Ge
set_option linter.unusedSectionVars false
variable [Lp]
set_option linter.unusedVariables false
set_option linter.unusedSimpArgs false
def hv(c:UInt8):Int:=Lib.indexByte Ss c
theorem hvT:∀n:Fin 256,(hv (UInt8.ofNat n.val)=-1∧∀j:Fin 16,hx j.val≠UInt8.ofNat n.val)∨∃j:Fin 16,hv (UInt8.ofNat n.val)=(j.val:Int)∧hx j.val=UInt8.ofNat n.val∧∀i:Fin 16,i.val<j.val→hx i.val≠UInt8.ofNat n.val:=by decide +kernel
theorem Ji(c:UInt8):(hv c=-1∧∀j:Nat,j<16→hx j≠c)∨∃j:Nat,j<16∧hv c=(j:Int)∧hx j=c∧∀i:Nat,i<j→hx i≠c:=by
 have h:=hvT ⟨c.toNat,c.toNat_lt⟩
 have e:UInt8.ofNat c.toNat=c:=by simp
 simp only[e] at h
 rcases h with ⟨h1,h2⟩|⟨j,h1,h2,h3⟩
 ·exact .inl ⟨h1,fun j hj=>h2 ⟨j,hj⟩⟩
 ·exact .inr ⟨j.val,j.isLt,h1,h2,fun i hi=>h3 ⟨i,Nat.lt_trans hi j.isLt⟩ hi⟩
theorem ZP:∀n:Fin 16,hv (hx n.val)=(n.val:Int):=by decide +kernel
theorem Sv{a b:UInt8}(h:u8 a=u8 b):a=b:=by
 have:a.toNat=b.toNat:=by unfold u8 at h;omega
 exact UInt8.toNat_inj.1 this
theorem LY(c:UInt8):nN (u8 c,())=some (hv c,()):=by
 unfold nN
 have step:∀(r k:Nat),k<16→hx k≠c→dR (u8 c,()) (((r:Int),((k:Int),())),())=some (.inl (((r:Int),(((k+1:Nat):Int),())),())):=fun r k hk hne=>by
  unfold dR
  dsimp only
  rw[aT (by omega),ag,HJ hk,aa,aN (fun e=>hne (Sv e)),af,aZ (by omega)]
 rcases Ji c with ⟨h1,h2⟩|⟨j,hj,h1,h2,h3⟩
 ·have:=ez (f:=dR (u8 c,())) (r:=(0,(((0:Nat):Int),(((16:Nat):Int),())),())) 16 (fun k=>((((0:Nat):Int),((k:Int),())),())) (fun k hk=>step 0 k hk (h2 k hk)) (by
   unfold dR
   dsimp only
   rw[aJ (by decide),af])
  rw[show Loop (dR (u8 c,())) ((0,(0,())),())=_ from this,aa]
  dsimp only
  rw[show fB 0 0=true from rfl,ag,h1]
 ·have:=ez (f:=dR (u8 c,())) (r:=(1,((j:Int),((j:Int),())),())) j (fun k=>((((0:Nat):Int),((k:Int),())),())) (fun k hk=>step 0 k (by omega) (h3 k hk)) (by
   unfold dR
   dsimp only
   rw[aT (by omega),ag,HJ hj,aa,aR (by rw[h2]),ag])
  rw[show Loop (dR (u8 c,())) ((0,(0,())),())=_ from this,aa]
  dsimp only
  rw[show fB 1 0=false from rfl,af,h1]
def nB:List UInt8→Option (List UInt8)
 | []=>some []
 | [_]=>none
 | a::b::r=>if hv a<0∨hv b<0 then none else(nB r).map (UInt8.ofNat (16*(hv a).toNat+(hv b).toNat)::·)
theorem acp:∀(i j:Fin 16),qy .u8 (aI .i64 (lJ .i64 16 (i.val:Int)) (j.val:Int))=u8 (UInt8.ofNat (16*i.val+j.val)):=by decide +kernel
theorem PF(l:List UInt8)(k:Nat)(h:k≤l.length):sub l (k:Int) (minus (len l) (k:Int))=l.drop k:=by
 unfold sub minus len
 rw[Int.toNat_natCast,List.take_of_length_le (by rw[List.length_drop];omega)]
def ans:Option (List UInt8)→List UInt8×Bool×Unit
 | some l=>(l,(true,()))
 | none=>([],(false,()))
theorem Sw:∀(n:Nat) (s:List UInt8),s.length≤n→s.length % 2=1→nB s=none:=by
 intro n
 induction n using Nat.strongRecOn with
 | _ n ih =>
   intro s hn h
   match s,hn,h with
   | [],_,h=>simp at h
   | [_],_,_=>rfl
   | a::b::r,hn,h =>
     simp only[List.length_cons] at hn h
     simp only[nB]
     split
     ·rfl
     ·rw[ih r.length (by omega) r (Nat.le_refl _) (by omega)];rfl
end Go.Ge
namespace Go.Ge
set_option linter.unusedSectionVars false
variable [Lp]
set_option linter.unusedVariables false
set_option linter.unusedSimpArgs false
theorem ux{a b:Nat}(h:a+b<4611686018427387904):aI .i64 (a:Int) (b:Int)=((a+b:Nat):Int):=by
 rw[iH (by omega) (by omega)];omega
theorem KM(s:List UInt8)(hs:s.length≤1048576):∀(n i:Nat) (acc:List Int),s.length-i≤n→i≤s.length→(s.length-i) % 2=0→acc.length≤i →
  ∃q,Loop (gC (s,())) ((([]:List UInt8),(false,((),((i:Int),())))),(acc,()))=some q∧(match nB (s.drop i) with
   | some l=>q.1=0∧q.2.2.1=acc++ax l
   | none=>q.1=1∧q.2.1.1=[]∧q.2.1.2.1=false):=by
 intro n
 induction n using Nat.strongRecOn with
 | _ n ih =>
   intro i acc hn hi h2 hb
   rw[aV]
   by_cases hlt:i<s.length
   ·have h1:i+1<s.length:=by omega
    have hd:s.drop i=s[i]::s[i+1]::s.drop (i+2):=by
     rw[List.drop_eq_getElem_cons hlt,List.drop_eq_getElem_cons h1]
    rw[hd]
    generalize ha:s[i]=a
    generalize hb':s[i+1]=b
    have e0:gC (s,()) ((([]:List UInt8),(false,((),((i:Int),())))),(acc,()))=(if hv a<0∨hv b<0 then some (.inr (1,(([],(false,((),((i:Int),())))),(acc,()))))
      else some (.inl ((([]:List UInt8),(false,((),(((i+2:Nat):Int),())))),(acc++[u8 (UInt8.ofNat (16*(hv a).toNat+(hv b).toNat))],())))):=by
     unfold gC
     dsimp only
     rw[aZ (by omega),aT (by simp only[len];omega),ag,AM s hlt,aa,ha,LY,aa,AM s h1,aa,hb',LY,aa]
     dsimp only
     by_cases hva:hv a<0
     ·rw[aT hva,aK,af,ag,if_pos (.inl hva)]
     ·rw[aJ (by omega),aF,ag]
      by_cases hvb:hv b<0
      ·rw[aT hvb,ag,if_pos (.inr hvb)]
      ·rw[aJ (by omega),af,if_neg (by omega)]
       have hp:qy .u8 (aI .i64 (lJ .i64 16 (hv a)) (hv b))=u8 (UInt8.ofNat (16*(hv a).toNat+(hv b).toNat)):=by
        rcases Ji a with ⟨h,_⟩|⟨j,hj,h,_⟩
        ·omega
        rcases Ji b with ⟨h',_⟩|⟨k,hk,h',_⟩
        ·omega
        rw[h,h']
        exact acp ⟨j,hj⟩ ⟨k,hk⟩
       rw[hp,dD (by simp only[plus,len,List.length_cons,List.length_nil];omega),ag,show aI .i64 (i:Int) 2=((i+2:Nat):Int) from ux (b:=2) (by omega)]
       rfl
    rw[e0]
    by_cases hab:hv a<0∨hv b<0
    ·rw[if_pos hab]
     refine⟨_,rfl,?_⟩
     simp only[nB,if_pos hab]
     exact⟨trivial,trivial,trivial⟩
    ·rw[if_neg hab]
     obtain⟨q,q1,q2⟩:=ih (s.length-(i+2)) (by omega) (i+2) (acc++[u8 (UInt8.ofNat (16*(hv a).toNat+(hv b).toNat))]) (Nat.le_refl _) (by omega) (by omega) (by simp only[List.length_append,List.length_cons,List.length_nil];omega)
     refine⟨q,q1,?_⟩
     simp only[nB,if_neg hab]
     cases hu:nB (s.drop (i+2)) with
     | none=>rw[hu] at q2;exact q2
     | some l =>
       rw[hu] at q2
       refine⟨q2.1,?_⟩
       rw[q2.2,List.append_assoc]
       rfl
   ·have:i=s.length:=by omega
    subst this
    rw[List.drop_length]
    refine⟨(0,(([],(false,((),((s.length:Int),())))),(acc,()))),?_,rfl,by simp[ax]⟩
    unfold gC
    dsimp only
    rw[aZ (by omega),aJ (by simp only[len];omega),af]
    rfl
theorem D0(s:List UInt8)(hs:s.length≤1048576):nO (s,())=some (ans (nB s)):=by
 unfold nO
 dsimp only
 rw[aN (by decide),af,show ij (len s) 2=((s.length % 2:Nat):Int) from DZ s.length 2]
 rcases Nat.mod_two_eq_zero_or_one s.length with h|h
 ·rw[h,show bC ((0:Nat):Int) 1=false from rfl,af]
  obtain⟨q,q1,q2⟩:=KM s hs s.length 0 [] (by omega) (by omega) (by simpa using h) (by simp)
  rw[show Loop (gC (s,())) (([],(false,((),(0,())))),([],()))=some q from q1,aa]
  rw[List.drop_zero] at q2
  cases hu:nB s with
  | none =>
    rw[hu] at q2
    rw[q2.1,show fB 1 0=false from rfl,af,q2.2.1,q2.2.2]
    rfl
  | some l =>
    rw[hu] at q2
    rw[q2.1,show fB 0 0=true from rfl,ag,q2.2,List.nil_append,oq]
    rfl
 ·rw[h,show bC ((1:Nat):Int) 1=true from rfl,ag,Sw s.length s (Nat.le_refl _) h]
  rfl
theorem UO:∀l:List UInt8,nB (r9 l)=some l:=by
 intro l
 induction l with
 | nil=>rfl
 | cons b r ih =>
   have hb:=b.toNat_lt
   have h1:=ZP ⟨b.toNat / 16,by omega⟩
   have h2:=ZP ⟨b.toNat % 16,by omega⟩
   simp only at h1 h2
   simp only[r9,nB,h1,h2,ih,Option.map_some]
   rw[if_neg (by omega)]
   congr 2
   rw[Int.toNat_natCast,Int.toNat_natCast,show 16*(b.toNat / 16)+b.toNat % 16=b.toNat by omega]
   simp
end Go.Ge
namespace Go.Ge
set_option linter.unusedSectionVars false
variable [Lp]
set_option linter.unusedVariables false
set_option linter.unusedSimpArgs false
def Xa:List UInt8:=[115,104,97,50,53,54,58]
def PG(s:List UInt8):List UInt8:=Xa++r9 (bz (sha s))
theorem UP{α:Type}(l:List α)(n:Nat)(h:l.length=n):sub l 0 (minus n 0)=l:=by
 unfold sub minus
 rw[show((0:Int).toNat)=0 from rfl,List.drop_zero,List.take_of_length_le (by omega)]
theorem LZ(s:List UInt8)(hs:s.length≤1048576):uq (s,())=some (PG s,()):=by
 unfold uq
 dsimp only
 rw[Sr s hs,aa,bB (by decide) (by decide) (by decide),ag]
 dsimp only
 rw[show sub (sha s) 0 (minus 32 0)=sha s from UP _ 32 (Cy s),Su _ (by simp[bz,Cy]),aa]
 dsimp only
 rw[dD (by simp only[plus,len,zH,bz,List.length_map,Cy,List.length_cons,List.length_nil];omega),ag]
 rfl
def aaG(t:List UInt8):Int:=if t.length=71∧t.take 7=Xa∧(nB (t.drop 7)).isSome=true then 0 else 2
theorem Jj(l:List UInt8)(k:Nat):sub l 0 (minus (k:Int) 0)=l.take k:=by
 unfold sub minus
 rw[show((0:Int).toNat)=0 from rfl,List.drop_zero,Int.sub_zero,Int.toNat_natCast]
theorem Nz(t:List UInt8)(ht:t.length≤1048576):ri (t,())=some (aaG t,()):=by
 unfold ri aaG
 dsimp only
 by_cases h71:t.length=71
 ·rw[aR (by simp only[len];omega),aK,aF,ag,bB (by decide) (by decide) (by simp only[len];omega),ag,aa,
   show sub t 0 (minus 7 0)=t.take 7 from Jj t 7,show([115,104,97,50,53,54,58]:List UInt8)=Xa from rfl]
  by_cases h:t.take 7=Xa
  ·rw[h,ug,aK,af,bB (by decide) (by simp only[len];omega) (Int.le_refl _),ag,
    show sub t 7 (minus (len t) 7)=t.drop 7 from PF t 7 (by omega),D0 _ (by rw[List.length_drop];omega),aa]
   cases hu:nB (t.drop 7) with
   | none =>
     rw[if_neg (by simp)]
     show aj (nt false) (some (2,())) _=_
     rw[aF,ag]
   | some l =>
     show aj (nt true) _ _=_
     rw[aK,af,if_pos ⟨h71,rfl,rfl⟩]
  ·rw[show cc (t.take 7) Xa=false from decide_eq_false h,aF,ag,if_neg (fun e=>h e.2.1)]
 ·rw[aN (by simp only[len];omega),aF,aK,af,aa,ag,if_neg (fun e=>h71 e.1)]
end Go.Ge
namespace Go.Ge
set_option linter.unusedSectionVars false
variable [Lp]
set_option linter.unusedVariables false
set_option linter.unusedSimpArgs false
def aek(n k:Nat):UInt8:=UInt8.ofNat (48+n / 8 ^ k % 8)
def Sx(n:Nat):Nat→List UInt8
 | 0=>[]
 | k+1=>aek n k::Sx n k
end Go.Ge
namespace Go.Ge
set_option linter.unusedSectionVars false
variable [Lp]
set_option linter.unusedVariables false
set_option linter.unusedSimpArgs false
set_option maxRecDepth 100000
def cj(p:UInt8→Bool)(s:List UInt8):List UInt8:=(s.reverse.dropWhile p).reverse
theorem uy{p:UInt8→Bool}(s:List UInt8){x:UInt8}(h:p x=true):cj p (s++[x])=cj p s:=by
 simp[cj,List.dropWhile_cons,h]
theorem vM{p:UInt8→Bool}(s:List UInt8){x:UInt8}(h:p x=false):cj p (s++[x])=s++[x]:=by
 simp[cj,List.dropWhile_cons,h]
theorem L1{p:UInt8→Bool}:∀(z s:List UInt8),(∀x∈z,p x=true)→cj p (s++z)=cj p s:=by
 intro z
 induction z with
 | nil=>intro s _;rw[List.append_nil]
 | cons x r ih =>
   intro s h
   rw[show s++x::r=(s++[x])++r by simp,ih (s++[x]) (fun y hy=>h y (List.mem_cons_of_mem _ hy)),uy s (h x (List.mem_cons_self ..))]
theorem Xb{p:UInt8→Bool}{s:List UInt8}(h:∀x,s.getLast?=some x→p x=false):cj p s=s:=by
 rcases List.eq_nil_or_concat s with rfl|⟨r,x,rfl⟩
 ·rfl
 ·have:=h x (by simp)
  rw[List.concat_eq_append]
  exact vM r this
theorem PI(r:List UInt8)(x:UInt8)(hr:r.length≤1048576):dO .i64 (len (r++[x])) 1=(r.length:Int)∧idx (r++[x]) (r.length:Int)=some x:=by
 constructor
 ·have:len (r++[x])=((r.length+1:Nat):Int):=by simp[len]
  rw[this,fZ (by omega) (by omega)]
  omega
 ·rw[uZ];simp
theorem KN(c:Int):∀(n:Nat) (s:List UInt8),s.length≤n→s.length≤1048576→∀q:List UInt8,Loop (eP (q,(c,()))) ((s,()),())=some ((cj (fun x=>bC (u8 x) c) s,()),()):=by
 intro n
 induction n with
 | zero =>
   intro s h _ q
   obtain rfl:s=[]:=List.length_eq_zero_iff.1 (by omega)
   rw[aV]
   rfl
 | succ n ih =>
   intro s h hb q
   rcases List.eq_nil_or_concat s with rfl|⟨r,x,rfl⟩
   ·rw[aV];rfl
   ·rw[List.concat_eq_append] at h hb⊢
    rw[List.length_append] at h hb
    simp only[List.length_cons,List.length_nil] at h hb
    obtain⟨e1,e2⟩:=PI r x (by omega)
    rw[aV]
    have e0:eP (q,(c,())) ((r++[x],()),())=if bC (u8 x) c=true then some (.inl ((r,()),())) else some (.inr ((r++[x],()),())):=by
     unfold eP
     dsimp only
     rw[aT (by simp only[len,List.length_append,List.length_cons,List.length_nil];omega),ag,e1,e2,aa,aa]
     cases hx:bC (u8 x) c with
     | true =>
       rw[ag,bB (by omega) (by omega) (by simp only[len,List.length_append];omega),ag,fD,show sub (r++[x]) 0 (minus (r.length:Int) 0)=r from by rw[Jj];simp,if_pos rfl]
     | false=>rw[af,gL,if_neg (by simp)]
    rw[e0]
    cases hx:bC (u8 x) c with
    | true =>
      rw[if_pos rfl,uy r (p:=fun x=>bC (u8 x) c) hx]
      exact ih r (by omega) (by omega) q
    | false =>
      rw[if_neg (by simp),vM r (p:=fun x=>bC (u8 x) c) hx]
      rfl
theorem va(s:List UInt8)(c:Int)(hs:s.length≤1048576):eA (s,(c,()))=some (cj (fun x=>bC (u8 x) c) s,()):=by
 unfold eA
 rw[KN c s.length s (Nat.le_refl _) hs s,aa]
def b9(x:UInt8):Bool:=bC (u8 x) 0
theorem wT(x:UInt8):b9 x=true↔x=0:=by
 unfold b9 bC
 rw[decide_eq_true_iff]
 constructor
 ·intro h
  exact Sv (a:=x) (b:=0) h
 ·rintro rfl;rfl
theorem KO(s:List UInt8)(hs:s.length≤1048576):eV (s,([0],()))=some (cj b9 s,()):=by
 unfold eV
 dsimp only
 by_cases h:s=[]
 ·subst h
  rfl
 ·rw[show cc s []=false from decide_eq_false h,aF,ag,show cc [0] []=false from rfl,af,show bC (len ([0]:List UInt8)) 1=true from rfl,ag,show idx ([0]:List UInt8) 0=some 0 from rfl,aa,aa,show aY (u8 0) 128=true from rfl,ag,aa,
   va s _ hs,aa]
  rfl
def sg:List Bool:=((List.replicate 256 false).set 0 true).set 32 true
def uQ(x:UInt8):Bool:=sg.getD x.toNat false
theorem NA:sg.length=256:=by simp only[sg,List.length_set,List.length_replicate]
theorem aaH:∀n:Fin 256,sg.getD n.val false=(decide (n.val=0)||decide (n.val=32)):=by decide +kernel
theorem PJ(x:UInt8):uQ x=true↔x=0∨x=32:=by
 unfold uQ
 rw[aaH ⟨x.toNat,x.toNat_lt⟩]
 simp only[Bool.or_eq_true,decide_eq_true_iff]
 constructor
 ·rintro(h|h)
  ·exact .inl (UInt8.toNat_inj.1 h)
  ·exact .inr (UInt8.toNat_inj.1 h)
 ·rintro(rfl|rfl)
  ·exact .inl rfl
  ·exact .inr rfl
theorem NB(x:UInt8):cm ((u8 x,()),(sg,()))=some ((uQ x,()),(sg,())):=by
 unfold cm
 have hx:=x.toNat_lt
 have e:u8 x=(x.toNat:Int):=rfl
 dsimp only
 rw[e,cF (by omega) (by omega),ag,nM sg false (i:=x.toNat) (by show _<sg.length;rw[NA];omega),aa]
 rfl
theorem PK:cS ([0,32],())=some (sg,(true,())):=by
 unfold cS
 have key:Loop (bP ([0,32],())) ((false,(0,())),(List.replicate 256 false,()))=some (0,((false,(2,())),(sg,()))):=by
  rw[aV,show bP ([0,32],()) ((false,(0,())),(List.replicate 256 false,()))=some (.inl ((false,(1,())),((List.replicate 256 false).set 0 true,()))) from rfl]
  show Loop (bP ([0,32],())) ((false,(1,())),((List.replicate 256 false).set 0 true,()))=_
  rw[aV,show bP ([0,32],()) ((false,(1,())),((List.replicate 256 false).set 0 true,()))=some (.inl ((false,(2,())),(sg,()))) from rfl]
  show Loop (bP ([0,32],())) ((false,(2,())),(sg,()))=_
  rw[aV]
  rfl
 exact(congrArg (ah · _) key).trans rfl
theorem PL:∀(n:Nat) (s:List UInt8),s.length≤n→s.length≤1048576→Loop bY ((s,()),(sg,()))=some ((cj uQ s,()),(sg,())):=by
 intro n
 induction n with
 | zero =>
   intro s h _
   obtain rfl:s=[]:=List.length_eq_zero_iff.1 (by omega)
   rw[aV]
   rfl
 | succ n ih =>
   intro s h hb
   rcases List.eq_nil_or_concat s with rfl|⟨r,x,rfl⟩
   ·rw[aV];rfl
   ·rw[List.concat_eq_append] at h hb⊢
    rw[List.length_append] at h hb
    simp only[List.length_cons,List.length_nil] at h hb
    obtain⟨e1,e2⟩:=PI r x (by omega)
    rw[aV]
    have e0:bY ((r++[x],()),(sg,()))=if uQ x=true then some (.inl ((r,()),(sg,()))) else some (.inr ((r++[x],()),(sg,()))):=by
     unfold bY
     dsimp only
     rw[aT (by simp only[len,List.length_append,List.length_cons,List.length_nil];omega),ag,e1,e2,aa,NB,aa]
     dsimp only
     cases hx:uQ x with
     | true =>
       rw[aK,af,bB (by omega) (by omega) (by simp only[len,List.length_append];omega),ag,fD,show sub (r++[x]) 0 (minus (r.length:Int) 0)=r from by rw[Jj];simp,if_pos rfl]
     | false=>rw[aF,ag,gL,if_neg (by simp)]
    rw[e0]
    cases hx:uQ x with
    | true =>
      rw[if_pos rfl,uy r hx]
      exact ih r (by omega) (by omega)
    | false =>
      rw[if_neg (by simp),vM r hx]
      rfl
theorem D1(s:List UInt8)(hs:s.length≤1048576):eV (s,([0,32],()))=some (cj uQ s,()):=by
 unfold eV
 dsimp only
 by_cases h:s=[]
 ·subst h
  rfl
 ·rw[show cc s []=false from decide_eq_false h,aF,ag,show cc [0,32] []=false from rfl,af,show bC (len ([0,32]:List UInt8)) 1=false from rfl,af,aa,af,PK,aa]
  dsimp only
  rw[ag]
  unfold dm
  dsimp only
  rw[PL s.length s (Nat.le_refl _) hs]
  rfl
theorem KP(c:Int):∀(n:Nat) (s:List UInt8),s.length≤n→∀q:List UInt8,Loop (fe (q,(c,()))) ((s,()),())=some ((s.dropWhile (fun x=>bC (u8 x) c),()),()):=by
 intro n
 induction n with
 | zero =>
   intro s h q
   obtain rfl:s=[]:=List.length_eq_zero_iff.1 (by omega)
   rw[aV]
   rfl
 | succ n ih =>
   intro s h q
   cases s with
   | nil=>rw[aV];rfl
   | cons x r =>
     simp only[List.length_cons] at h
     rw[aV]
     have e0:fe (q,(c,())) ((x::r,()),())=if bC (u8 x) c=true then some (.inl ((r,()),())) else some (.inr ((x::r,()),())):=by
      unfold fe
      dsimp only
      rw[aT (by simp only[len,List.length_cons];omega),ag,show idx (x::r) 0=some x from rfl,aa,aa]
      cases hx:bC (u8 x) c with
      | true =>
        rw[ag,bB (by decide) (by simp only[len,List.length_cons];omega) (Int.le_refl _),ag,fD,show sub (x::r) 1 (minus (len (x::r)) 1)=r from PF (x::r) 1 (by simp),if_pos rfl]
      | false=>rw[af,gL,if_neg (by simp)]
     rw[e0,List.dropWhile_cons]
     cases hx:bC (u8 x) c with
     | true =>
       rw[if_pos rfl,if_pos rfl]
       exact ih r (by omega) q
     | false =>
       rw[if_neg (by simp),if_neg (by simp)]
       rfl
theorem Fh(s:List UInt8)(c:Int):gh (s,(c,()))=some (s.dropWhile (fun x=>bC (u8 x) c),()):=by
 unfold gh
 rw[KP c s.length s (Nat.le_refl _) s,aa]
theorem Fi{p:UInt8→Bool}{l:List UInt8}{x:UInt8}(h:x∈l.takeWhile p):p x=true:=List.all_eq_true.1 List.all_takeWhile x h
theorem PM(s:List UInt8)(hs:s.length≤1048576):gM (s,([0],()))=some ((cj b9 s).dropWhile b9,()):=by
 unfold gM
 dsimp only
 by_cases h:s=[]
 ·subst h
  rfl
 ·rw[show cc s []=false from decide_eq_false h,aF,ag,show cc [0] []=false from rfl,af,show bC (len ([0]:List UInt8)) 1=true from rfl,ag,show idx ([0]:List UInt8) 0=some 0 from rfl,aa,aa,show aY (u8 0) 128=true from rfl,ag,aa,
   va s _ hs,aa,aa,Fh,aa]
  rfl
theorem uz(s:List UInt8):(cj b9 s).dropWhile b9=[]↔∀x∈s,x=0:=by
 constructor
 ·intro h
  have h1:∀x∈cj b9 s,b9 x=true:=by
   intro x hx
   have:=List.takeWhile_append_dropWhile (p:=b9) (l:=cj b9 s)
   rw[h,List.append_nil] at this
   rw[←this] at hx
   exact Fi hx
  have h2:cj b9 s=[]:=by
   rcases List.eq_nil_or_concat (cj b9 s) with h2|⟨r,x,h2⟩
   ·exact h2
   ·exfalso
    have hx:=h1 x (by rw[h2];simp)
    unfold cj at h2
    have h3:(s.reverse.dropWhile b9)=x::r.reverse:=by
     have:=congrArg List.reverse h2
     simpa using this
    have:=List.head?_dropWhile_not b9 s.reverse
    rw[h3] at this
    simp[hx] at this
  intro x hx
  have h3:s.reverse.dropWhile b9=[]:=by
   have:=congrArg List.reverse h2
   simpa [cj] using this
  have:=List.takeWhile_append_dropWhile (p:=b9) (l:=s.reverse)
  rw[h3,List.append_nil] at this
  have hm:x∈s.reverse:=List.mem_reverse.2 hx
  rw[←this] at hm
  exact(wT x).1 (Fi hm)
 ·intro h
  have:cj b9 s=[]:=by
   have:=L1 (p:=b9) s [] (fun x hx=>(wT x).2 (h x hx))
   rw[List.nil_append] at this
   exact this
  rw[this]
  rfl
theorem Jk(b:List UInt8)(hb:b.length≤1048576):vJ (b,())=some (decide (b.length=512∧∀x∈b,x=0),()):=by
 unfold vJ
 dsimp only
 by_cases h:b.length=512
 ·rw[aR (by simp only[len];omega),ag,PM b hb,aa,aa]
  congr 2
  unfold cc
  dsimp only
  by_cases h2:∀x∈b,x=0
  ·rw[decide_eq_true ((uz b).2 h2),decide_eq_true ⟨h,h2⟩]
  ·rw[decide_eq_false (fun e=>h2 ((uz b).1 e)),decide_eq_false (fun e=>h2 e.2)]
 ·rw[aN (by simp only[len];omega),af,aa,decide_eq_false (fun e=>h e.1)]
end Go.Ge
namespace Go.Ge
set_option linter.unusedSectionVars false
variable [Lp]
set_option linter.unusedVariables false
set_option linter.unusedSimpArgs false
theorem ZQ:∀d:Fin 8,qy .i64 (dO .u8 ((48+d.val:Nat):Int) 48)=(d.val:Int):=by decide +kernel
theorem ael{v d:Nat}(hd:d<8)(hv:8*v+d<9223372036854775808):CW .i64 (yQ .i64 (v:Int) 3) (qy .i64 (dO .u8 ((48+d:Nat):Int) 48))=((8*v+d:Nat):Int):=by
 rw[ZQ ⟨d,hd⟩]
 have e1:yQ .i64 (v:Int) 3=((8*v:Nat):Int):=by
  unfold yQ
  rw[show min (Int.toNat 3) IntKind.i64.bits=3 from rfl,show(v:Int)*2 ^ 3=((8*v:Nat):Int) by omega]
  exact AJ (by omega) (by omega)
 rw[e1]
 unfold CW
 have e:(BitVec.ofInt IntKind.i64.bits ((8*v:Nat):Int) ||| BitVec.ofInt IntKind.i64.bits (d:Int)).toNat=8*v+d:=by
  rw[BitVec.toNat_or]
  have h1:(BitVec.ofInt IntKind.i64.bits ((8*v:Nat):Int)).toNat=2 ^ 3*v:=by
   rw[BitVec.toNat_ofInt,show(IntKind.i64.bits)=64 from rfl]
   omega
  have h2:(BitVec.ofInt IntKind.i64.bits (d:Int)).toNat=d:=by
   rw[BitVec.toNat_ofInt,show(IntKind.i64.bits)=64 from rfl]
   omega
  rw[h1,h2,←Nat.two_pow_add_eq_or_of_lt hd]
 rw[e]
 exact AJ (by omega) (by omega)
def wU(s:List UInt8):Prop:=∀x∈s,x≠0
instance (s:List UInt8):Decidable (wU s):=inferInstanceAs (Decidable (∀x∈s,x≠0))
theorem L2:∀s:List UInt8,decide (Lib.indexByte s 0<0)=decide (wU s):=by
 intro s
 induction s with
 | nil=>rfl
 | cons b r ih =>
   unfold Lib.indexByte
   by_cases hb:b=0
   ·subst hb
    rw[if_pos (by rfl),decide_eq_false (by decide),decide_eq_false (fun h=>h 0 (List.mem_cons_self ..) rfl)]
   ·rw[if_neg (by simpa using hb)]
    by_cases hr:wU r
    ·rw[decide_eq_true hr] at ih
     have h1:Lib.indexByte r 0<0:=of_decide_eq_true ih
     have h2:=(G3 0 r).1
     have h3:Lib.indexByte r 0=-1:=by omega
     rw[h3,if_pos (by rfl),decide_eq_true (by decide),decide_eq_true]
     intro x hx
     rcases List.mem_cons.1 hx with rfl|hx
     ·exact hb
     ·exact hr x hx
    ·rw[decide_eq_false hr] at ih
     have h1:¬Lib.indexByte r 0<0:=of_decide_eq_false ih
     rw[if_neg (by simp only[beq_iff_eq];omega),decide_eq_false (by omega),decide_eq_false]
     intro h
     exact hr fun x hx=>h x (List.mem_cons_of_mem _ hx)
theorem D2(s:List UInt8):ny (s,(0,()))=some (Lib.indexByte s 0,()):=rfl
theorem D3(s:List UInt8)(hs:s.length≤1048576):kU (s,())=some (cj b9 s,(decide (wU (cj b9 s)),())):=by
 unfold kU
 dsimp only
 rw[KO s hs,aa]
 dsimp only
 rw[D2,aa]
 unfold aY
 dsimp only
 rw[L2]
abbrev Hd:=List UInt8×Int×Int×Int×Int×Int×Int×List UInt8×Unit
def QU(s:List UInt8)(most:Int):Prop:=s≠[]∧(s.length:Int)≤most∧wU s
instance (s:List UInt8) (most:Int):Decidable (QU s most):=inferInstanceAs (Decidable (_∧_∧_))
def NC(n b:Int):Prop:=0≤n∧n<b
instance (n b:Int):Decidable (NC n b):=inferInstanceAs (Decidable (_∧_))
def kindOk(h:Hd):Prop:=(h.2.1=1∧h.2.2.2.2.2.2.2.1=[])∨(h.2.1=2∧h.2.2.2.2.2.2.2.1=[]∧h.2.2.2.2.2.1=0)∨(h.2.1=3∧QU h.2.2.2.2.2.2.2.1 100∧h.2.2.2.2.2.1=0)
instance (h:Hd):Decidable (kindOk h):=inferInstanceAs (Decidable (_∨_∨_))
def He(h:Hd)(most:Int):Prop:=NC h.2.2.1 2097152∧NC h.2.2.2.1 2097152∧NC h.2.2.2.2.1 2097152∧NC h.2.2.2.2.2.1 8589934592∧NC h.2.2.2.2.2.2.1 8589934592∧QU h.1 most∧kindOk h
instance (h:Hd) (most:Int):Decidable (He h most):=inferInstanceAs (Decidable (_∧_∧_∧_∧_∧_∧_))
theorem Cz(n b:Int):l9 (n,(b,()))=some (decide (NC n b),()):=by
 unfold l9
 dsimp only
 by_cases h:0≤n
 ·rw[cz h,ag]
  unfold aY NC
  congr 2
  simp[h]
 ·rw[eU (by omega),af,decide_eq_false (fun e=>h e.1)]
theorem L3(s:List UInt8)(m:Int):pY (s,(m,()))=some (decide (QU s m),()):=by
 unfold pY
 dsimp only
 by_cases h:s=[]
 ·subst h
  rw[show cc [] []=true from rfl,aK,af,af,aa,decide_eq_false (fun e=>e.1 rfl)]
 ·rw[show cc s []=false from decide_eq_false h,aF,ag]
  by_cases h2:(s.length:Int)≤m
  ·rw[cz (by simp only[len];exact h2),ag,D2,aa,aa]
   unfold aY
   dsimp only
   rw[L2]
   congr 2
   unfold QU
   simp[h,h2]
  ·rw[eU (by simp only[len];omega),af,aa,decide_eq_false (fun e=>h2 e.2.1)]
theorem PN(h:Hd)(m:Int):rZ (h,(m,()))=some (decide (He h m),()):=by
 unfold rZ
 dsimp only
 by_cases h1:NC h.2.2.1 2097152
 case neg=>rw[Cz,aa,decide_eq_false h1,af,aa,af,aa,af,aa,af,aa,aF,aK,af,aa,ag,decide_eq_false (fun e=>h1 e.1)]
 rw[Cz,aa,decide_eq_true h1,ag,Cz,aa,aa]
 by_cases h2:NC h.2.2.2.1 2097152
 case neg=>rw[decide_eq_false h2,af,aa,af,aa,af,aa,aF,aK,af,aa,ag,decide_eq_false (fun e=>h2 e.2.1)]
 rw[decide_eq_true h2,ag,Cz,aa,aa]
 by_cases h3:NC h.2.2.2.2.1 2097152
 case neg=>rw[decide_eq_false h3,af,aa,af,aa,aF,aK,af,aa,ag,decide_eq_false (fun e=>h3 e.2.2.1)]
 rw[decide_eq_true h3,ag,Cz,aa,aa]
 by_cases h4:NC h.2.2.2.2.2.1 8589934592
 case neg=>rw[decide_eq_false h4,af,aa,aF,aK,af,aa,ag,decide_eq_false (fun e=>h4 e.2.2.2.1)]
 rw[decide_eq_true h4,ag,Cz,aa,aa]
 by_cases h5:NC h.2.2.2.2.2.2.1 8589934592
 case neg=>rw[decide_eq_false h5,aF,aK,af,aa,ag,decide_eq_false (fun e=>h5 e.2.2.2.2.1)]
 rw[decide_eq_true h5,aK,aF,ag,L3,aa,aa]
 by_cases h6:QU h.1 m
 case neg=>rw[decide_eq_false h6,aF,ag,decide_eq_false (fun e=>h6 e.2.2.2.2.2.1)]
 rw[decide_eq_true h6,aK,af]
 have hk:decide (He h m)=decide (kindOk h):=decide_eq_decide.2 ⟨fun e=>e.2.2.2.2.2.2,fun e=>⟨h1,h2,h3,h4,h5,h6,e⟩⟩
 rw[hk]
 by_cases k1:h.2.1=1
 ·rw[k1,nL,ag]
  unfold cc
  rw[show decide (h.2.2.2.2.2.2.2.1=[])=decide (kindOk h) from decide_eq_decide.2 (by unfold kindOk;simp[k1])]
 ·rw[aN k1,af]
  by_cases k2:h.2.1=2
  ·rw[k2,nL,ag]
   unfold cc bC
   by_cases kl:h.2.2.2.2.2.2.2.1=[]
   ·rw[decide_eq_true kl,ag,show decide (h.2.2.2.2.2.1=0)=decide (kindOk h) from decide_eq_decide.2 (by unfold kindOk;simp[k2,kl])]
   ·rw[decide_eq_false kl,af,show decide (kindOk h)=false from decide_eq_false (by unfold kindOk;simp[k2,kl])]
  ·rw[aN k2,af]
   by_cases k3:h.2.1=3
   ·rw[k3,nL,ag,L3,aa]
    dsimp only
    unfold bC
    by_cases kl:QU h.2.2.2.2.2.2.2.1 100
    ·rw[decide_eq_true kl,ag,show decide (h.2.2.2.2.2.1=0)=decide (kindOk h) from decide_eq_decide.2 (by unfold kindOk;simp[k3,kl])]
    ·rw[decide_eq_false kl,af,show decide (kindOk h)=false from decide_eq_false (by unfold kindOk;simp[k3,kl])]
   ·rw[aN k3,af,show decide (kindOk h)=false from decide_eq_false (by unfold kindOk;simp[k1,k2,k3])]
end Go.Ge
