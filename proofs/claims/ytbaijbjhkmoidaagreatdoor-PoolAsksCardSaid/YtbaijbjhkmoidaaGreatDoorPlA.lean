/- Plain laws of what the functions compute: part 1. -/
import Derived.Test.YtbaijbjhkmoidaaGreatDoorGeK
import Derived.Lib.Repeat
set_option linter.unusedSectionVars false
set_option linter.unusedVariables false
set_option linter.unusedSimpArgs false
noncomputable section
namespace Go.Ge
abbrev Sb:=List UInt8
variable [Lp]
def cl:(Ty.pair .str (.pair (.int .u8) .unit)).den→Option (Ty.pair (.int .i64) .unit).den:=fun x=>some (Lib.indexByte x.1 (show Int from x.2.1).toNat.toUInt8,())
def sj:Int×Unit→Option ((List UInt8)×Unit):=fun x=>some (Lib.itoa x.1,())
def gr:Int×Unit→Option ((List UInt8)×Unit):=fun x=>if -9223372036854775808≤x.1∧x.1≤0 then some (Lib.decDigits x.1.natAbs,()) else none
def dy(k:Nat):Int×Unit→Option ((List UInt8)×Unit):=fun x=>if -9223372036854775808≤x.1∧x.1≤0∧0<k∧x.1.natAbs<10 ^ k then some (Lib.decDigits x.1.natAbs,()) else none
end Go.Ge
namespace Go.Ge
variable [Lp]
set_option maxRecDepth 100000
abbrev iD:=((Bool×(List (Int))×Unit)×(List (Int))×Int×Unit)
abbrev dW:=((Int×Unit)×(List (Int))×Unit)
abbrev oA:=((Nat×(Int×Unit)×(List (Int))×Unit))
abbrev BI:=(Int×Int×Int×Int×Int×Int×Int×Int×Int×Unit)
abbrev L3:=((Unit×Int×Unit)×(List (Int))×Unit)
abbrev BJ:=((List (Int))×Unit)
abbrev L4:=((Unit×Unit)×(List (Int))×Unit)
abbrev L5:=((Int×Unit)×iD×Unit)
def mg(x:Unit):Option BJ :=
 some (([(1779033703:Int),(3144134277:Int),(1013904242:Int),(2773480762:Int),(1359893119:Int),(2600822924:Int),(528734635:Int),(1541459225:Int)]:List (Int)),())
def sn(x:Unit):Option BJ :=
 some (([(1116352408:Int),(1899447441:Int),(3049323471:Int),(3921009573:Int),(961987163:Int),(1508970993:Int),(2453635748:Int),(2870763221:Int),(3624381080:Int),(310598401:Int),(607225278:Int),(1426881987:Int),(1925078388:Int),(2162078206:Int),(2614888103:Int),(3248222580:Int),(3835390401:Int),(4022224774:Int),(264347078:Int),(604807628:Int),(770255983:Int),(1249150122:Int),(1555081692:Int),(1996064986:Int),(2554220882:Int),(2821834349:Int),(2952996808:Int),(3210313671:Int),(3336571891:Int),(3584528711:Int),(113926993:Int),(338241895:Int),(666307205:Int),(773529912:Int),(1294757372:Int),(1396182291:Int),(1695183700:Int),(1986661051:Int),(2177026350:Int),(2456956037:Int),(2730485921:Int),(2820302411:Int),(3259730800:Int),(3345764771:Int),(3516065817:Int),(3600352804:Int),(4094571909:Int),(275423344:Int),(430227734:Int),(506948616:Int),(659060556:Int),(883997877:Int),(958139571:Int),(1322822218:Int),(1537002063:Int),(1747873779:Int),(1955562222:Int),(2024104815:Int),(2227730452:Int),(2361852424:Int),(2428436474:Int),(2756734187:Int),(3204031479:Int),(3329325298:Int)]:List (Int)),())
def gu(x:Int×Int×Unit):Option (Int×Unit) :=
 aO (fE (ja IntKind.u64 (kP IntKind.u64 x.2.1) (31:Int)) (0:Int))
 none
 (aO (fE (dn IntKind.u64 (32:Int) (ja IntKind.u64 (kP IntKind.u64 x.2.1) (31:Int))) (0:Int))
 none
 (some (pO IntKind.u32 (iC IntKind.u32 x.1 (ja IntKind.u64 (kP IntKind.u64 x.2.1) (31:Int))) (ow IntKind.u32 x.1 (dn IntKind.u64 (32:Int) (ja IntKind.u64 (kP IntKind.u64 x.2.1) (31:Int)))),())))
def bF(x:Int×Int×Unit):Option (Int×Unit) :=
 ah (gu (x.1,(dn IntKind.i64 (0:Int) x.2.1,()))) (fun(y1:Int×Unit)=>some (y1.1,()))
def fS(x:(List (Int))×Unit)(y1:(Int×Unit)×(List (Int))×Unit)(y2:(Int×Unit)×(List (Int))×Unit):Option (dW⊕dW) :=
 @kQ dW (aO (fE y2.1.1 (minus (bA IntKind.i64 (iB IntKind.i64 (4:Int) y1.1.1) (4:Int)) (iB IntKind.i64 (4:Int) y1.1.1)))
 (aO (within y2.1.1 (minus (bA IntKind.i64 (iB IntKind.i64 (4:Int) y1.1.1) (4:Int)) (iB IntKind.i64 (4:Int) y1.1.1)))
 (ah (@idx Int x.1 (plus (iB IntKind.i64 (4:Int) y1.1.1) y2.1.1)) (fun(y3:Int)=>aO (within y1.1.1 (64:Int))
 (ah (@idx Int y2.2.1 y1.1.1) (fun(y4:Int)=>aO (fE (8:Int) (0:Int))
 none
 (aO (within y1.1.1 (64:Int))
 (ah (@idx Int y2.2.1 y1.1.1) (fun(y5:Int)=>ah (@idx Int y2.2.1 y1.1.1) (fun(y6:Int)=>ah (@idx Int y2.2.1 y1.1.1) (fun(y7:Int)=>some (Sum.inl ((bA IntKind.i64 y2.1.1 (1:Int),()),(@qo Int y2.2.1 y1.1.1 (pO IntKind.u32 (iC IntKind.u32 y4 (8:Int)) (kP IntKind.u32 y3)),())):(dW)⊕oA)))))
 none)))
 none))
 none)
 (some (Sum.inr ((0:Nat),((y2.1.1,()),(y2.2.1,()))):(dW)⊕oA)))
def fT(x:(List (Int))×Unit)(y1:(Int×Unit)×(List (Int))×Unit):Option (dW⊕dW) :=
 @kQ dW (aO (fE y1.1.1 (16:Int))
 (aO (inside (iB IntKind.i64 (4:Int) y1.1.1) (bA IntKind.i64 (iB IntKind.i64 (4:Int) y1.1.1) (4:Int)) (64:Int))
 (ah (Loop (fS x y1) (((0:Int),()),(y1.2.1,()))) (fun(y2:(Int×Unit)×(List (Int))×Unit)=>some (Sum.inl ((bA IntKind.i64 y1.1.1 (1:Int),()),(y2.2.1,())):(dW)⊕oA)))
 none)
 (some (Sum.inr ((0:Nat),((y1.1.1,()),(y1.2.1,()))):(dW)⊕oA)))
def fU(y2:(Int×Unit)×(List (Int))×Unit):Option (dW⊕dW) :=
 @kQ dW (aO (fE y2.1.1 (64:Int))
 (aO (within (dn IntKind.i64 y2.1.1 (2:Int)) (64:Int))
 (ah (@idx Int y2.2.1 (dn IntKind.i64 y2.1.1 (2:Int))) (fun(y3:Int)=>aO (within (dn IntKind.i64 y2.1.1 (15:Int)) (64:Int))
 (ah (@idx Int y2.2.1 (dn IntKind.i64 y2.1.1 (15:Int))) (fun(y4:Int)=>ah (bF (y4,((7:Int),()))) (fun(y5:Int×Unit)=>ah (bF (y4,((18:Int),()))) (fun(y6:Int×Unit)=>aO (fE (3:Int) (0:Int))
 none
 (ah (bF (y3,((17:Int),()))) (fun(y7:Int×Unit)=>ah (bF (y3,((19:Int),()))) (fun(y8:Int×Unit)=>aO (fE (10:Int) (0:Int))
 none
 (aO (within (dn IntKind.i64 y2.1.1 (7:Int)) (64:Int))
 (ah (@idx Int y2.2.1 (dn IntKind.i64 y2.1.1 (7:Int))) (fun(y9:Int)=>aO (within (dn IntKind.i64 y2.1.1 (16:Int)) (64:Int))
 (ah (@idx Int y2.2.1 (dn IntKind.i64 y2.1.1 (16:Int))) (fun(gx:Int)=>aO (within y2.1.1 (64:Int))
 (ah (@idx Int y2.2.1 y2.1.1) (fun(yX:Int)=>ah (@idx Int y2.2.1 y2.1.1) (fun(wo:Int)=>ah (@idx Int y2.2.1 y2.1.1) (fun(gS:Int)=>some (Sum.inl ((bA IntKind.i64 y2.1.1 (1:Int),()),(@qo Int y2.2.1 y2.1.1 (bA IntKind.u32 (bA IntKind.u32 (bA IntKind.u32 (ew IntKind.u32 (ew IntKind.u32 y7.1 y8.1) (ow IntKind.u32 y3 (10:Int))) y9) (ew IntKind.u32 (ew IntKind.u32 y5.1 y6.1) (ow IntKind.u32 y4 (3:Int)))) gx),())):(dW)⊕oA)))))
 none))
 none))
 none))))))))
 none))
 none)
 (some (Sum.inr ((0:Nat),((y2.1.1,()),(y2.2.1,()))):(dW)⊕oA)))
def ku(x:(List (Int))×Unit):Option BJ :=
 ah (Loop (fT x) (((0:Int),()),(([(0:Int),(0:Int),(0:Int),(0:Int),(0:Int),(0:Int),(0:Int),(0:Int),(0:Int),(0:Int),(0:Int),(0:Int),(0:Int),(0:Int),(0:Int),(0:Int),(0:Int),(0:Int),(0:Int),(0:Int),(0:Int),(0:Int),(0:Int),(0:Int),(0:Int),(0:Int),(0:Int),(0:Int),(0:Int),(0:Int),(0:Int),(0:Int),(0:Int),(0:Int),(0:Int),(0:Int),(0:Int),(0:Int),(0:Int),(0:Int),(0:Int),(0:Int),(0:Int),(0:Int),(0:Int),(0:Int),(0:Int),(0:Int),(0:Int),(0:Int),(0:Int),(0:Int),(0:Int),(0:Int),(0:Int),(0:Int),(0:Int),(0:Int),(0:Int),(0:Int),(0:Int),(0:Int),(0:Int),(0:Int)]:List (Int)),()))) (fun(y1:(Int×Unit)×(List (Int))×Unit)=>ah (Loop (fU) (((16:Int),()),(y1.2.1,()))) (fun(y2:(Int×Unit)×(List (Int))×Unit)=>some (y2.2.1,())))
def dL(y3:(List (Int))×Unit)(y4:(List (Int))×Unit)(gS:BI×Unit):Option ((BI×Unit)⊕(BI×Unit)) :=
 @kQ (BI×Unit) (aO (fE gS.1.2.2.2.2.2.2.2.2.1 (64:Int))
 (ah (bF (gS.1.2.2.2.2.1,((6:Int),()))) (fun(cS:Int×Unit)=>ah (bF (gS.1.2.2.2.2.1,((11:Int),()))) (fun(dS:Int×Unit)=>ah (bF (gS.1.2.2.2.2.1,((25:Int),()))) (fun(M3:Int×Unit)=>aO (within gS.1.2.2.2.2.2.2.2.2.1 (64:Int))
 (ah (@idx Int y3.1 gS.1.2.2.2.2.2.2.2.2.1) (fun(DI:Int)=>aO (within gS.1.2.2.2.2.2.2.2.2.1 (64:Int))
 (ah (@idx Int y4.1 gS.1.2.2.2.2.2.2.2.2.1) (fun(Rb:Int)=>ah (bF (gS.1.1,((2:Int),()))) (fun(RN:Int×Unit)=>ah (bF (gS.1.1,((13:Int),()))) (fun(SE:Int×Unit)=>ah (bF (gS.1.1,((22:Int),()))) (fun(SF:Int×Unit)=>some (Sum.inl ((bA IntKind.u32 (bA IntKind.u32 (bA IntKind.u32 (bA IntKind.u32 (bA IntKind.u32 gS.1.2.2.2.2.2.2.2.1 (ew IntKind.u32 (ew IntKind.u32 cS.1 dS.1) M3.1)) (ew IntKind.u32 gS.1.2.2.2.2.2.2.1 (ja IntKind.u32 gS.1.2.2.2.2.1 (ew IntKind.u32 gS.1.2.2.2.2.2.1 gS.1.2.2.2.2.2.2.1)))) DI) Rb) (bA IntKind.u32 (ew IntKind.u32 (ew IntKind.u32 RN.1 SE.1) SF.1) (pO IntKind.u32 (ja IntKind.u32 gS.1.1 gS.1.2.1) (ja IntKind.u32 gS.1.2.2.1 (pO IntKind.u32 gS.1.1 gS.1.2.1)))),(gS.1.1,(gS.1.2.1,(gS.1.2.2.1,(bA IntKind.u32 gS.1.2.2.2.1 (bA IntKind.u32 (bA IntKind.u32 (bA IntKind.u32 (bA IntKind.u32 gS.1.2.2.2.2.2.2.2.1 (ew IntKind.u32 (ew IntKind.u32 cS.1 dS.1) M3.1)) (ew IntKind.u32 gS.1.2.2.2.2.2.2.1 (ja IntKind.u32 gS.1.2.2.2.2.1 (ew IntKind.u32 gS.1.2.2.2.2.2.1 gS.1.2.2.2.2.2.2.1)))) DI) Rb),(gS.1.2.2.2.2.1,(gS.1.2.2.2.2.2.1,(gS.1.2.2.2.2.2.2.1,(bA IntKind.i64 gS.1.2.2.2.2.2.2.2.2.1 (1:Int),()))))))))),()):((BI×Unit))⊕((Nat×BI×Unit))))))))
 none))
 none))))
 (some (Sum.inr ((0:Nat),((gS.1.1,(gS.1.2.1,(gS.1.2.2.1,(gS.1.2.2.2.1,(gS.1.2.2.2.2.1,(gS.1.2.2.2.2.2.1,(gS.1.2.2.2.2.2.2.1,(gS.1.2.2.2.2.2.2.2.1,(gS.1.2.2.2.2.2.2.2.2.1,()))))))))),())):((BI×Unit))⊕((Nat×BI×Unit)))))
def eP(gS:BI×Unit)(cS:(Int×Unit)×iD×Unit):Option (L5⊕L5) :=
 @kQ L5 (aO (fE cS.1.1 (8:Int))
 (ah (@idx Int ([gS.1.1,gS.1.2.1,gS.1.2.2.1,gS.1.2.2.2.1,gS.1.2.2.2.2.1,gS.1.2.2.2.2.2.1,gS.1.2.2.2.2.2.2.1,gS.1.2.2.2.2.2.2.2.1]:List (Int)) cS.1.1) (fun(dS:Int)=>aO (within cS.1.1 (8:Int))
 (ah (@idx Int cS.2.1.1.2.1 cS.1.1) (fun(M3:Int)=>aO (within cS.1.1 (8:Int))
 (ah (@idx Int cS.2.1.1.2.1 cS.1.1) (fun(DI:Int)=>ah (@idx Int cS.2.1.1.2.1 cS.1.1) (fun(Rb:Int)=>ah (@idx Int cS.2.1.1.2.1 cS.1.1) (fun(RN:Int)=>some (Sum.inl ((bA IntKind.i64 cS.1.1 (1:Int),()),(((cS.2.1.1.1,(@qo Int cS.2.1.1.2.1 cS.1.1 (bA IntKind.u32 M3 dS),cS.2.1.1.2.2)),cS.2.1.2),())):(L5)⊕((Nat×(Int×Unit)×iD×Unit)))))))
 none))
 none))
 (some (Sum.inr ((0:Nat),((cS.1.1,()),(cS.2.1,()))):(L5)⊕((Nat×(Int×Unit)×iD×Unit)))))
def dM(y1:(Sb×Unit)×iD×Unit):Option (((Sb×Unit)×iD×Unit)⊕((Sb×Unit)×iD×Unit)) :=
 @kQ ((Sb×Unit)×iD×Unit) (aO (nt (ig y1.1.1 ([]:List (UInt8))))
 (aO (b9 (64:Int) (0:Int))
 none
 (aO (inside (gJ y1.2.1.2.2.1 (64:Int)) (64:Int) (64:Int))
 (aO (inside (@len Int (@iw Int (ak y1.1.1) (minus (64:Int) (gJ y1.2.1.2.2.1 (64:Int))))) (@len UInt8 y1.1.1) (@len UInt8 y1.1.1))
 (ah (aO (b9 (bA IntKind.i64 (gJ y1.2.1.2.2.1 (64:Int)) (@len Int (@iw Int (ak y1.1.1) (minus (64:Int) (gJ y1.2.1.2.2.1 (64:Int)))))) (64:Int))
 (ah (aO (nt y1.2.1.1.1)
 (ah (mg ()) (fun(y2:(List (Int))×Unit)=>some ((),(((true,(y2.1,y1.2.1.1.2.2)),(@over Int y1.2.1.2.1 (gJ y1.2.1.2.2.1 (64:Int)) (@iw Int (ak y1.1.1) (minus (64:Int) (gJ y1.2.1.2.2.1 (64:Int)))),(bA IntKind.i64 y1.2.1.2.2.1 (@len Int (@iw Int (ak y1.1.1) (minus (64:Int) (gJ y1.2.1.2.2.1 (64:Int))))),y1.2.1.2.2.2))),()))))
 (some ((),((y1.2.1.1,(@over Int y1.2.1.2.1 (gJ y1.2.1.2.2.1 (64:Int)) (@iw Int (ak y1.1.1) (minus (64:Int) (gJ y1.2.1.2.2.1 (64:Int)))),(bA IntKind.i64 y1.2.1.2.2.1 (@len Int (@iw Int (ak y1.1.1) (minus (64:Int) (gJ y1.2.1.2.2.1 (64:Int))))),y1.2.1.2.2.2))),())))) (fun(y2:Unit×iD×Unit)=>ah (sn ()) (fun(y3:(List (Int))×Unit)=>ah (ku (@over Int y1.2.1.2.1 (gJ y1.2.1.2.2.1 (64:Int)) (@iw Int (ak y1.1.1) (minus (64:Int) (gJ y1.2.1.2.2.1 (64:Int)))),())) (fun(y4:(List (Int))×Unit)=>aO (within (0:Int) (8:Int))
 (ah (@idx Int y2.2.1.1.2.1 (0:Int)) (fun(y5:Int)=>aO (within (1:Int) (8:Int))
 (ah (@idx Int y2.2.1.1.2.1 (1:Int)) (fun(y6:Int)=>aO (within (2:Int) (8:Int))
 (ah (@idx Int y2.2.1.1.2.1 (2:Int)) (fun(y7:Int)=>aO (within (3:Int) (8:Int))
 (ah (@idx Int y2.2.1.1.2.1 (3:Int)) (fun(y8:Int)=>aO (within (4:Int) (8:Int))
 (ah (@idx Int y2.2.1.1.2.1 (4:Int)) (fun(y9:Int)=>aO (within (5:Int) (8:Int))
 (ah (@idx Int y2.2.1.1.2.1 (5:Int)) (fun(gx:Int)=>aO (within (6:Int) (8:Int))
 (ah (@idx Int y2.2.1.1.2.1 (6:Int)) (fun(yX:Int)=>aO (within (7:Int) (8:Int))
 (ah (@idx Int y2.2.1.1.2.1 (7:Int)) (fun(wo:Int)=>ah (Loop (dL y3 y4) ((y5,(y6,(y7,(y8,(y9,(gx,(yX,(wo,((0:Int),()))))))))),())) (fun(gS:BI×Unit)=>ah (Loop (eP gS) (((0:Int),()),(y2.2.1,()))) (fun(cS:(Int×Unit)×iD×Unit)=>some ((),(cS.2.1,()))))))
 none))
 none))
 none))
 none))
 none))
 none))
 none))
 none))))
 (some ((),((y1.2.1.1,(@over Int y1.2.1.2.1 (gJ y1.2.1.2.2.1 (64:Int)) (@iw Int (ak y1.1.1) (minus (64:Int) (gJ y1.2.1.2.2.1 (64:Int)))),(bA IntKind.i64 y1.2.1.2.2.1 (@len Int (@iw Int (ak y1.1.1) (minus (64:Int) (gJ y1.2.1.2.2.1 (64:Int))))),y1.2.1.2.2.2))),())))) (fun(y2:Unit×iD×Unit)=>some (Sum.inl ((@sub UInt8 y1.1.1 (@len Int (@iw Int (ak y1.1.1) (minus (64:Int) (gJ y1.2.1.2.2.1 (64:Int))))) (minus (@len UInt8 y1.1.1) (@len Int (@iw Int (ak y1.1.1) (minus (64:Int) (gJ y1.2.1.2.2.1 (64:Int)))))),()),(y2.2.1,())):(((Sb×Unit)×iD×Unit))⊕((Nat×(Sb×Unit)×iD×Unit)))))
 none)
 none))
 (some (Sum.inr ((0:Nat),((y1.1.1,()),(y1.2.1,()))):(((Sb×Unit)×iD×Unit))⊕((Nat×(Sb×Unit)×iD×Unit)))))
def dX(x:(Sb×Unit)×iD×Unit):Option (Unit×iD×Unit) :=
 ah (Loop (dM) ((x.1.1,()),(x.2.1,()))) (fun(y1:(Sb×Unit)×iD×Unit)=>some ((),(y1.2.1,())))
def cI(y2:Unit×iD×Unit):Option ((Unit×iD×Unit)⊕(Unit×iD×Unit)) :=
 @kQ (Unit×iD×Unit) (aO (b9 (64:Int) (0:Int))
 none
 (aO (nt (b9 (gJ y2.2.1.2.2.1 (64:Int)) (56:Int)))
 (ah (dX ((([(0:UInt8)]:List (UInt8)),()),(y2.2.1,()))) (fun(y3:Unit×iD×Unit)=>some (Sum.inl ((),(y3.2.1,())):((Unit×iD×Unit))⊕((Nat×Unit×iD×Unit)))))
 (some (Sum.inr ((0:Nat),((),(y2.2.1,()))):((Unit×iD×Unit))⊕((Nat×Unit×iD×Unit))))))
def dN(x:Unit×iD×Unit)(y3:(Int×Unit)×(List (Int))×Unit):Option (dW⊕dW) :=
 @kQ dW (aO (fE y3.1.1 (8:Int))
 (aO (fE (iB IntKind.i64 (8:Int) y3.1.1) (0:Int))
 none
 (aO (within (dn IntKind.i64 (7:Int) y3.1.1) (8:Int))
 (ah (@idx Int y3.2.1 (dn IntKind.i64 (7:Int) y3.1.1)) (fun(y4:Int)=>ah (@idx Int y3.2.1 (dn IntKind.i64 (7:Int) y3.1.1)) (fun(y5:Int)=>ah (@idx Int y3.2.1 (dn IntKind.i64 (7:Int) y3.1.1)) (fun(y6:Int)=>some (Sum.inl ((bA IntKind.i64 y3.1.1 (1:Int),()),(@qo Int y3.2.1 (dn IntKind.i64 (7:Int) y3.1.1) (kP IntKind.u8 (ow IntKind.u64 (iB IntKind.u64 (kP IntKind.u64 (((((((),(x.2.1,())).2).1).2).2).1)) (8:Int)) (iB IntKind.i64 (8:Int) y3.1.1))),())):(dW)⊕oA)))))
 none))
 (some (Sum.inr ((0:Nat),((y3.1.1,()),(y3.2.1,()))):(dW)⊕oA)))
def eR(y4:Unit×iD×Unit)(y5:(Int×Unit)×(List (Int))×Unit):Option (dW⊕dW) :=
 @kQ dW (aO (fE y5.1.1 (32:Int))
 (aO (b9 (4:Int) (0:Int))
 none
 (aO (within (ug IntKind.i64 y5.1.1 (4:Int)) (8:Int))
 (ah (@idx Int y4.2.1.1.2.1 (ug IntKind.i64 y5.1.1 (4:Int))) (fun(y6:Int)=>aO (b9 (4:Int) (0:Int))
 none
 (aO (fE (dn IntKind.i64 (24:Int) (iB IntKind.i64 (8:Int) (gJ y5.1.1 (4:Int)))) (0:Int))
 none
 (aO (within y5.1.1 (32:Int))
 (ah (@idx Int y5.2.1 y5.1.1) (fun(y7:Int)=>ah (@idx Int y5.2.1 y5.1.1) (fun(y8:Int)=>ah (@idx Int y5.2.1 y5.1.1) (fun(y9:Int)=>some (Sum.inl ((bA IntKind.i64 y5.1.1 (1:Int),()),(@qo Int y5.2.1 y5.1.1 (kP IntKind.u8 (ow IntKind.u32 y6 (dn IntKind.i64 (24:Int) (iB IntKind.i64 (8:Int) (gJ y5.1.1 (4:Int)))))),())):(dW)⊕oA)))))
 none))))
 none))
 (some (Sum.inr ((0:Nat),((y5.1.1,()),(y5.2.1,()))):(dW)⊕oA)))
def jf(x:Unit×iD×Unit):Option (BJ×iD×Unit) :=
 ah (dX ((aG ([(128:Int)]:List (Int)),()),((((),(x.2.1,())).2).1,()))) (fun(y1:Unit×iD×Unit)=>ah (Loop (cI) ((),(y1.2.1,()))) (fun(y2:Unit×iD×Unit)=>ah (Loop (dN x) (((0:Int),()),(([(0:Int),(0:Int),(0:Int),(0:Int),(0:Int),(0:Int),(0:Int),(0:Int)]:List (Int)),()))) (fun(y3:(Int×Unit)×(List (Int))×Unit)=>aO (inside (0:Int) (8:Int) (8:Int))
 (ah (dX ((aG (@sub Int y3.2.1 (0:Int) (minus (8:Int) (0:Int))),()),(y2.2.1,()))) (fun(y4:Unit×iD×Unit)=>ah (Loop (eR y4) (((0:Int),()),(([(0:Int),(0:Int),(0:Int),(0:Int),(0:Int),(0:Int),(0:Int),(0:Int),(0:Int),(0:Int),(0:Int),(0:Int),(0:Int),(0:Int),(0:Int),(0:Int),(0:Int),(0:Int),(0:Int),(0:Int),(0:Int),(0:Int),(0:Int),(0:Int),(0:Int),(0:Int),(0:Int),(0:Int),(0:Int),(0:Int),(0:Int),(0:Int)]:List (Int)),()))) (fun(y5:(Int×Unit)×(List (Int))×Unit)=>some ((y5.2.1,()),(x.2.1,())))))
 none)))
def sZ(x:Sb×Unit):Option BJ :=
 ah (dX ((x.1,()),(((false,(([(0:Int),(0:Int),(0:Int),(0:Int),(0:Int),(0:Int),(0:Int),(0:Int)]:List (Int)),())),(([(0:Int),(0:Int),(0:Int),(0:Int),(0:Int),(0:Int),(0:Int),(0:Int),(0:Int),(0:Int),(0:Int),(0:Int),(0:Int),(0:Int),(0:Int),(0:Int),(0:Int),(0:Int),(0:Int),(0:Int),(0:Int),(0:Int),(0:Int),(0:Int),(0:Int),(0:Int),(0:Int),(0:Int),(0:Int),(0:Int),(0:Int),(0:Int),(0:Int),(0:Int),(0:Int),(0:Int),(0:Int),(0:Int),(0:Int),(0:Int),(0:Int),(0:Int),(0:Int),(0:Int),(0:Int),(0:Int),(0:Int),(0:Int),(0:Int),(0:Int),(0:Int),(0:Int),(0:Int),(0:Int),(0:Int),(0:Int),(0:Int),(0:Int),(0:Int),(0:Int),(0:Int),(0:Int),(0:Int),(0:Int)]:List (Int)),((0:Int),()))),()))) (fun(y1:Unit×iD×Unit)=>ah (jf ((),(y1.2.1,()))) (fun(y2:BJ×iD×Unit)=>some (y2.1.1,())))
def pz(x:Unit):Option BJ :=
 some (([(1779033703:Int),(3144134277:Int),(1013904242:Int),(2773480762:Int),(1359893119:Int),(2600822924:Int),(528734635:Int),(1541459225:Int)]:List (Int)),())
def gG(y1:(Unit×Unit)×(List (Int))×Unit):Option (L4⊕L4) :=
 @kQ L4 (aO (b9 (64:Int) (0:Int))
 none
 (aO (nt (b9 (gJ (@len Int y1.2.1) (64:Int)) (56:Int)))
 (aO (fits (plus (@len Int y1.2.1) (@len Int ([(0:Int)]:List (Int)))))
 (some (Sum.inl (((),()),(@app Int y1.2.1 ([(0:Int)]:List (Int)),())):(L4)⊕((Nat×(Unit×Unit)×(List (Int))×Unit))))
 none)
 (some (Sum.inr ((0:Nat),(((),()),(y1.2.1,()))):(L4)⊕((Nat×(Unit×Unit)×(List (Int))×Unit))))))
def cD(x:Sb×Unit)(y2:(Unit×Int×Unit)×(List (Int))×Unit):Option (L3⊕L3) :=
 @kQ L3 (aO (yI (0:Int) y2.1.2.1)
 (aO (fE (iB IntKind.i64 (8:Int) y2.1.2.1) (0:Int))
 none
 (aO (fits (plus (@len Int y2.2.1) (@len Int ([kP IntKind.u8 (ow IntKind.u64 (iB IntKind.u64 (kP IntKind.u64 (@len UInt8 x.1)) (8:Int)) (iB IntKind.i64 (8:Int) y2.1.2.1))]:List (Int)))))
 (some (Sum.inl (((),(dn IntKind.i64 y2.1.2.1 (1:Int),())),(@app Int y2.2.1 ([kP IntKind.u8 (ow IntKind.u64 (iB IntKind.u64 (kP IntKind.u64 (@len UInt8 x.1)) (8:Int)) (iB IntKind.i64 (8:Int) y2.1.2.1))]:List (Int)),())):(L3)⊕((Nat×(Unit×Int×Unit)×(List (Int))×Unit))))
 none))
 (some (Sum.inr ((0:Nat),(((),(y2.1.2.1,())),(y2.2.1,()))):(L3)⊕((Nat×(Unit×Int×Unit)×(List (Int))×Unit)))))
def lK(x:Sb×Unit):Option (Sb×Unit) :=
 aO (fits (@len UInt8 x.1))
 (aO (fits (plus (@len Int (ak x.1)) (@len Int ([(128:Int)]:List (Int)))))
 (ah (Loop (gG) (((),()),(@app Int (ak x.1) ([(128:Int)]:List (Int)),()))) (fun(y1:(Unit×Unit)×(List (Int))×Unit)=>ah (Loop (cD x) (((),((7:Int),())),(y1.2.1,()))) (fun(y2:(Unit×Int×Unit)×(List (Int))×Unit)=>some (aG y2.2.1,()))))
 none)
 none
def bz(x:Int×Int×Unit):Option (Int×Unit) :=
 aO (fE x.2.1 (0:Int))
 none
 (aO (fE (dn IntKind.i64 (32:Int) x.2.1) (0:Int))
 none
 (some (pO IntKind.u32 (ow IntKind.u32 x.1 x.2.1) (iC IntKind.u32 x.1 (dn IntKind.i64 (32:Int) x.2.1)),())))
def n6(x:Unit):Option BJ :=
 some (([(1116352408:Int),(1899447441:Int),(3049323471:Int),(3921009573:Int),(961987163:Int),(1508970993:Int),(2453635748:Int),(2870763221:Int),(3624381080:Int),(310598401:Int),(607225278:Int),(1426881987:Int),(1925078388:Int),(2162078206:Int),(2614888103:Int),(3248222580:Int),(3835390401:Int),(4022224774:Int),(264347078:Int),(604807628:Int),(770255983:Int),(1249150122:Int),(1555081692:Int),(1996064986:Int),(2554220882:Int),(2821834349:Int),(2952996808:Int),(3210313671:Int),(3336571891:Int),(3584528711:Int),(113926993:Int),(338241895:Int),(666307205:Int),(773529912:Int),(1294757372:Int),(1396182291:Int),(1695183700:Int),(1986661051:Int),(2177026350:Int),(2456956037:Int),(2730485921:Int),(2820302411:Int),(3259730800:Int),(3345764771:Int),(3516065817:Int),(3600352804:Int),(4094571909:Int),(275423344:Int),(430227734:Int),(506948616:Int),(659060556:Int),(883997877:Int),(958139571:Int),(1322822218:Int),(1537002063:Int),(1747873779:Int),(1955562222:Int),(2024104815:Int),(2227730452:Int),(2361852424:Int),(2428436474:Int),(2756734187:Int),(3204031479:Int),(3329325298:Int)]:List (Int)),())
def eZ(x:(List (Int))×Sb×Unit)(y1:(Int×Unit)×(List (Int))×Unit):Option (dW⊕dW) :=
 @kQ dW (aO (fE y1.1.1 (16:Int))
 (ah (@idx UInt8 x.2.1 (iB IntKind.i64 (4:Int) y1.1.1)) (fun(y2:UInt8)=>aO (fE (24:Int) (0:Int))
 none
 (ah (@idx UInt8 x.2.1 (bA IntKind.i64 (iB IntKind.i64 (4:Int) y1.1.1) (1:Int))) (fun(y3:UInt8)=>aO (fE (16:Int) (0:Int))
 none
 (ah (@idx UInt8 x.2.1 (bA IntKind.i64 (iB IntKind.i64 (4:Int) y1.1.1) (2:Int))) (fun(y4:UInt8)=>aO (fE (8:Int) (0:Int))
 none
 (ah (@idx UInt8 x.2.1 (bA IntKind.i64 (iB IntKind.i64 (4:Int) y1.1.1) (3:Int))) (fun(y5:UInt8)=>aO (within y1.1.1 (64:Int))
 (ah (@idx Int y1.2.1 y1.1.1) (fun(y6:Int)=>ah (@idx Int y1.2.1 y1.1.1) (fun(y7:Int)=>ah (@idx Int y1.2.1 y1.1.1) (fun(y8:Int)=>some (Sum.inl ((bA IntKind.i64 y1.1.1 (1:Int),()),(@qo Int y1.2.1 y1.1.1 (pO IntKind.u32 (pO IntKind.u32 (pO IntKind.u32 (iC IntKind.u32 (kP IntKind.u32 (u8 y2)) (24:Int)) (iC IntKind.u32 (kP IntKind.u32 (u8 y3)) (16:Int))) (iC IntKind.u32 (kP IntKind.u32 (u8 y4)) (8:Int))) (kP IntKind.u32 (u8 y5))),())):(dW)⊕oA)))))
 none))))))))
 (some (Sum.inr ((0:Nat),((y1.1.1,()),(y1.2.1,()))):(dW)⊕oA)))
def gH(y2:(Int×Unit)×(List (Int))×Unit):Option (dW⊕dW) :=
 @kQ dW (aO (fE y2.1.1 (64:Int))
 (aO (within (dn IntKind.i64 y2.1.1 (2:Int)) (64:Int))
 (ah (@idx Int y2.2.1 (dn IntKind.i64 y2.1.1 (2:Int))) (fun(y3:Int)=>aO (within (dn IntKind.i64 y2.1.1 (15:Int)) (64:Int))
 (ah (@idx Int y2.2.1 (dn IntKind.i64 y2.1.1 (15:Int))) (fun(y4:Int)=>ah (bz (y3,((17:Int),()))) (fun(y5:Int×Unit)=>ah (bz (y3,((19:Int),()))) (fun(y6:Int×Unit)=>aO (fE (10:Int) (0:Int))
 none
 (aO (within (dn IntKind.i64 y2.1.1 (7:Int)) (64:Int))
 (ah (@idx Int y2.2.1 (dn IntKind.i64 y2.1.1 (7:Int))) (fun(y7:Int)=>ah (bz (y4,((7:Int),()))) (fun(y8:Int×Unit)=>ah (bz (y4,((18:Int),()))) (fun(y9:Int×Unit)=>aO (fE (3:Int) (0:Int))
 none
 (aO (within (dn IntKind.i64 y2.1.1 (16:Int)) (64:Int))
 (ah (@idx Int y2.2.1 (dn IntKind.i64 y2.1.1 (16:Int))) (fun(gx:Int)=>aO (within y2.1.1 (64:Int))
 (ah (@idx Int y2.2.1 y2.1.1) (fun(yX:Int)=>ah (@idx Int y2.2.1 y2.1.1) (fun(wo:Int)=>ah (@idx Int y2.2.1 y2.1.1) (fun(gS:Int)=>some (Sum.inl ((bA IntKind.i64 y2.1.1 (1:Int),()),(@qo Int y2.2.1 y2.1.1 (bA IntKind.u32 (bA IntKind.u32 (bA IntKind.u32 (ew IntKind.u32 (ew IntKind.u32 y5.1 y6.1) (ow IntKind.u32 y3 (10:Int))) y7) (ew IntKind.u32 (ew IntKind.u32 y8.1 y9.1) (ow IntKind.u32 y4 (3:Int)))) gx),())):(dW)⊕oA)))))
 none))
 none)))))
 none)))))
 none))
 none)
 (some (Sum.inr ((0:Nat),((y2.1.1,()),(y2.2.1,()))):(dW)⊕oA)))
def fc(y2:(Int×Unit)×(List (Int))×Unit)(y3:(List (Int))×Unit)(y4:(Int×Unit)×(List (Int))×Unit):Option (dW⊕dW) :=
 @kQ dW (aO (fE y4.1.1 (64:Int))
 (aO (within (4:Int) (8:Int))
 (ah (@idx Int y4.2.1 (4:Int)) (fun(y5:Int)=>aO (within (0:Int) (8:Int))
 (ah (@idx Int y4.2.1 (0:Int)) (fun(y6:Int)=>aO (within (7:Int) (8:Int))
 (ah (@idx Int y4.2.1 (7:Int)) (fun(y7:Int)=>ah (bz (y5,((6:Int),()))) (fun(y8:Int×Unit)=>ah (bz (y5,((11:Int),()))) (fun(y9:Int×Unit)=>ah (bz (y5,((25:Int),()))) (fun(gx:Int×Unit)=>aO (within (5:Int) (8:Int))
 (ah (@idx Int y4.2.1 (5:Int)) (fun(yX:Int)=>aO (within (6:Int) (8:Int))
 (ah (@idx Int y4.2.1 (6:Int)) (fun(wo:Int)=>aO (within y4.1.1 (64:Int))
 (ah (@idx Int y3.1 y4.1.1) (fun(gS:Int)=>aO (within y4.1.1 (64:Int))
 (ah (@idx Int y2.2.1 y4.1.1) (fun(cS:Int)=>ah (bz (y6,((2:Int),()))) (fun(dS:Int×Unit)=>ah (bz (y6,((13:Int),()))) (fun(M3:Int×Unit)=>ah (bz (y6,((22:Int),()))) (fun(DI:Int×Unit)=>aO (within (1:Int) (8:Int))
 (ah (@idx Int y4.2.1 (1:Int)) (fun(Rb:Int)=>aO (within (2:Int) (8:Int))
 (ah (@idx Int y4.2.1 (2:Int)) (fun(RN:Int)=>aO (within (1:Int) (8:Int))
 (ah (@idx Int y4.2.1 (1:Int)) (fun(SE:Int)=>aO (within (2:Int) (8:Int))
 (ah (@idx Int y4.2.1 (2:Int)) (fun(SF:Int)=>aO (within (0:Int) (8:Int))
 (ah (@idx Int y4.2.1 (0:Int)) (fun(UU:Int)=>aO (within (1:Int) (8:Int))
 (ah (@idx Int y4.2.1 (1:Int)) (fun(UW:Int)=>aO (within (2:Int) (8:Int))
 (ah (@idx Int y4.2.1 (2:Int)) (fun(UX:Int)=>aO (within (3:Int) (8:Int))
 (ah (@idx Int y4.2.1 (3:Int)) (fun(UY:Int)=>aO (within (4:Int) (8:Int))
 (ah (@idx Int y4.2.1 (4:Int)) (fun(UZ:Int)=>aO (within (5:Int) (8:Int))
 (ah (@idx Int y4.2.1 (5:Int)) (fun(U0:Int)=>aO (within (6:Int) (8:Int))
 (ah (@idx Int y4.2.1 (6:Int)) (fun(U1:Int)=>some (Sum.inl ((bA IntKind.i64 y4.1.1 (1:Int),()),(([bA IntKind.u32 (bA IntKind.u32 (bA IntKind.u32 (bA IntKind.u32 (bA IntKind.u32 y7 (ew IntKind.u32 (ew IntKind.u32 y8.1 y9.1) gx.1)) (ew IntKind.u32 (ja IntKind.u32 y5 yX) (ja IntKind.u32 (ew IntKind.u32 (4294967295:Int) y5) wo))) gS) cS) (bA IntKind.u32 (ew IntKind.u32 (ew IntKind.u32 dS.1 M3.1) DI.1) (ew IntKind.u32 (ew IntKind.u32 (ja IntKind.u32 y6 Rb) (ja IntKind.u32 y6 RN)) (ja IntKind.u32 SE SF))),UU,UW,UX,bA IntKind.u32 UY (bA IntKind.u32 (bA IntKind.u32 (bA IntKind.u32 (bA IntKind.u32 y7 (ew IntKind.u32 (ew IntKind.u32 y8.1 y9.1) gx.1)) (ew IntKind.u32 (ja IntKind.u32 y5 yX) (ja IntKind.u32 (ew IntKind.u32 (4294967295:Int) y5) wo))) gS) cS),UZ,U0,U1]:List (Int)),())):(dW)⊕oA)))
 none))
 none))
 none))
 none))
 none))
 none))
 none))
 none))
 none))
 none))
 none)))))
 none))
 none))
 none))
 none)))))
 none))
 none))
 none)
 (some (Sum.inr ((0:Nat),((y4.1.1,()),(y4.2.1,()))):(dW)⊕oA)))
def gI(x:(List (Int))×Sb×Unit)(y5:(Int×Unit)×(List (Int))×Unit):Option (dW⊕dW) :=
 @kQ dW (aO (fE y5.1.1 (8:Int))
 (aO (within y5.1.1 (8:Int))
 (ah (@idx Int y5.2.1 y5.1.1) (fun(y6:Int)=>aO (within y5.1.1 (8:Int))
 (ah (@idx Int x.1 y5.1.1) (fun(y7:Int)=>aO (within y5.1.1 (8:Int))
 (ah (@idx Int y5.2.1 y5.1.1) (fun(y8:Int)=>ah (@idx Int y5.2.1 y5.1.1) (fun(y9:Int)=>ah (@idx Int y5.2.1 y5.1.1) (fun(gx:Int)=>some (Sum.inl ((bA IntKind.i64 y5.1.1 (1:Int),()),(@qo Int y5.2.1 y5.1.1 (bA IntKind.u32 y6 y7),())):(dW)⊕oA)))))
 none))
 none))
 none)
 (some (Sum.inr ((0:Nat),((y5.1.1,()),(y5.2.1,()))):(dW)⊕oA)))
def lM(x:(List (Int))×Sb×Unit):Option BJ :=
 ah (Loop (eZ x) (((0:Int),()),(([(0:Int),(0:Int),(0:Int),(0:Int),(0:Int),(0:Int),(0:Int),(0:Int),(0:Int),(0:Int),(0:Int),(0:Int),(0:Int),(0:Int),(0:Int),(0:Int),(0:Int),(0:Int),(0:Int),(0:Int),(0:Int),(0:Int),(0:Int),(0:Int),(0:Int),(0:Int),(0:Int),(0:Int),(0:Int),(0:Int),(0:Int),(0:Int),(0:Int),(0:Int),(0:Int),(0:Int),(0:Int),(0:Int),(0:Int),(0:Int),(0:Int),(0:Int),(0:Int),(0:Int),(0:Int),(0:Int),(0:Int),(0:Int),(0:Int),(0:Int),(0:Int),(0:Int),(0:Int),(0:Int),(0:Int),(0:Int),(0:Int),(0:Int),(0:Int),(0:Int),(0:Int),(0:Int),(0:Int),(0:Int)]:List (Int)),()))) (fun(y1:(Int×Unit)×(List (Int))×Unit)=>ah (Loop (gH) (((16:Int),()),(y1.2.1,()))) (fun(y2:(Int×Unit)×(List (Int))×Unit)=>ah (n6 ()) (fun(y3:(List (Int))×Unit)=>ah (Loop (fc y2 y3) (((0:Int),()),(x.1,()))) (fun(y4:(Int×Unit)×(List (Int))×Unit)=>ah (Loop (gI x) (((0:Int),()),(y4.2.1,()))) (fun(y5:(Int×Unit)×(List (Int))×Unit)=>some (y5.2.1,()))))))
def iN(y2:Sb×Unit)(y3:(Int×Unit)×(List (Int))×Unit):Option (dW⊕dW) :=
 @kQ dW (aO (yI (bA IntKind.i64 y3.1.1 (64:Int)) (@len UInt8 y2.1))
 (aO (inside y3.1.1 (bA IntKind.i64 y3.1.1 (64:Int)) (@len UInt8 y2.1))
 (ah (lM (y3.2.1,(@sub UInt8 y2.1 y3.1.1 (minus (bA IntKind.i64 y3.1.1 (64:Int)) y3.1.1),()))) (fun(y4:(List (Int))×Unit)=>some (Sum.inl ((bA IntKind.i64 y3.1.1 (64:Int),()),(y4.1,())):(dW)⊕oA)))
 none)
 (some (Sum.inr ((0:Nat),((y3.1.1,()),(y3.2.1,()))):(dW)⊕oA)))
def iO(y3:(Int×Unit)×(List (Int))×Unit)(y4:(Int×Unit)×(List (Int))×Unit):Option (dW⊕dW) :=
 @kQ dW (aO (fE y4.1.1 (32:Int))
 (aO (b9 (4:Int) (0:Int))
 none
 (aO (within (ug IntKind.i64 y4.1.1 (4:Int)) (8:Int))
 (ah (@idx Int y3.2.1 (ug IntKind.i64 y4.1.1 (4:Int))) (fun(y5:Int)=>aO (b9 (4:Int) (0:Int))
 none
 (aO (fE (dn IntKind.i64 (24:Int) (iB IntKind.i64 (8:Int) (gJ y4.1.1 (4:Int)))) (0:Int))
 none
 (aO (within y4.1.1 (32:Int))
 (ah (@idx Int y4.2.1 y4.1.1) (fun(y6:Int)=>ah (@idx Int y4.2.1 y4.1.1) (fun(y7:Int)=>ah (@idx Int y4.2.1 y4.1.1) (fun(y8:Int)=>some (Sum.inl ((bA IntKind.i64 y4.1.1 (1:Int),()),(@qo Int y4.2.1 y4.1.1 (kP IntKind.u8 (ow IntKind.u32 y5 (dn IntKind.i64 (24:Int) (iB IntKind.i64 (8:Int) (gJ y4.1.1 (4:Int)))))),())):(dW)⊕oA)))))
 none))))
 none))
 (some (Sum.inr ((0:Nat),((y4.1.1,()),(y4.2.1,()))):(dW)⊕oA)))
def oI(x:Sb×Unit):Option BJ :=
 ah (pz ()) (fun(y1:(List (Int))×Unit)=>ah (lK (x.1,())) (fun(y2:Sb×Unit)=>ah (Loop (iN y2) (((0:Int),()),(y1.1,()))) (fun(y3:(Int×Unit)×(List (Int))×Unit)=>ah (Loop (iO y3) (((0:Int),()),(([(0:Int),(0:Int),(0:Int),(0:Int),(0:Int),(0:Int),(0:Int),(0:Int),(0:Int),(0:Int),(0:Int),(0:Int),(0:Int),(0:Int),(0:Int),(0:Int),(0:Int),(0:Int),(0:Int),(0:Int),(0:Int),(0:Int),(0:Int),(0:Int),(0:Int),(0:Int),(0:Int),(0:Int),(0:Int),(0:Int),(0:Int),(0:Int)]:List (Int)),()))) (fun(y4:(Int×Unit)×(List (Int))×Unit)=>some (y4.2.1,())))))
end Go.Ge
namespace Go.Ge
variable [Lp]
set_option maxRecDepth 100000
abbrev BK:=(Sb×Bool×Unit×Int×Unit)
abbrev BL:=(Sb×Sb×Bool×Unit×Unit)
abbrev L6:=((Int×Unit)×(Unit×Unit×Unit)×(List (Int))×Unit)
abbrev L7:=((Unit×Int×Unit)×(List (Int))×Unit)
abbrev BM:=(Int×Int×Unit)
def gT(x:Sb×Unit)(y1:(Int×Unit)×(Unit×Unit×Unit)×(List (Int))×Unit):Option (L6⊕L6) :=
 @kQ L6 (aO (fE y1.1.1 (@len Int (ak x.1)))
 (aO (within y1.1.1 (@len Int (ak x.1)))
 (ah (@idx Int (ak x.1) y1.1.1) (fun(y2:Int)=>aO (fE (4:Int) (0:Int))
 none
 (ah (@idx UInt8 ([(48:UInt8),(49:UInt8),(50:UInt8),(51:UInt8),(52:UInt8),(53:UInt8),(54:UInt8),(55:UInt8),(56:UInt8),(57:UInt8),(97:UInt8),(98:UInt8),(99:UInt8),(100:UInt8),(101:UInt8),(102:UInt8)]:List (UInt8)) (ow IntKind.u8 y2 (4:Int))) (fun(y3:UInt8)=>aO (fits (plus (@len Int y1.2.2.1) (@len Int ([u8 y3]:List (Int)))))
 (ah (@idx UInt8 ([(48:UInt8),(49:UInt8),(50:UInt8),(51:UInt8),(52:UInt8),(53:UInt8),(54:UInt8),(55:UInt8),(56:UInt8),(57:UInt8),(97:UInt8),(98:UInt8),(99:UInt8),(100:UInt8),(101:UInt8),(102:UInt8)]:List (UInt8)) (ja IntKind.u8 y2 (15:Int))) (fun(y4:UInt8)=>aO (fits (plus (@len Int (@app Int y1.2.2.1 ([u8 y3]:List (Int)))) (@len Int ([u8 y4]:List (Int)))))
 (some (Sum.inl ((bA IntKind.i64 y1.1.1 (1:Int),()),(((),((),y1.2.1.2.2)),(@app Int (@app Int y1.2.2.1 ([u8 y3]:List (Int))) ([u8 y4]:List (Int)),()))):(L6)⊕((Nat×(Int×Unit)×(Unit×Unit×Unit)×(List (Int))×Unit))))
 none))
 none))))
 none)
 (some (Sum.inr ((0:Nat),((y1.1.1,()),(((),((),y1.2.1.2.2)),(y1.2.2.1,())))):(L6)⊕((Nat×(Int×Unit)×(Unit×Unit×Unit)×(List (Int))×Unit)))))
def nc(x:Sb×Unit):Option (Sb×Unit) :=
 aO (fits (@len UInt8 x.1))
 (ah (Loop (gT x) (((0:Int),()),(((),((),())),(([]:List (Int)),())))) (fun(y1:(Int×Unit)×(Unit×Unit×Unit)×(List (Int))×Unit)=>some (aG y1.2.2.1,())))
 none
def iP(x:Sb×Unit):Option (Sb×Unit) :=
 ah (sZ (x.1,())) (fun(y1:(List (Int))×Unit)=>aO (inside (0:Int) (32:Int) (32:Int))
 (ah (nc (aG (@sub Int y1.1 (0:Int) (minus (32:Int) (0:Int))),())) (fun(y2:Sb×Unit)=>aO (fits (plus (@len UInt8 ([(115:UInt8),(104:UInt8),(97:UInt8),(50:UInt8),(53:UInt8),(54:UInt8),(58:UInt8)]:List (UInt8))) (@len UInt8 y2.1)))
 (some (@app UInt8 ([(115:UInt8),(104:UInt8),(97:UInt8),(50:UInt8),(53:UInt8),(54:UInt8),(58:UInt8)]:List (UInt8)) y2.1,()))
 none))
 none)
def cm(x:Sb×Sb×Unit):Option (Bool×Unit) :=
 ah (aO (yI (@len UInt8 x.2.1) (@len UInt8 x.1))
 (aO (inside (0:Int) (@len UInt8 x.2.1) (@len UInt8 x.1))
 (some (ig (@sub UInt8 x.1 (0:Int) (minus (@len UInt8 x.2.1) (0:Int))) x.2.1))
 none)
 (some false)) (fun(y1:Bool)=>some (y1,()))
def dB(x:Sb×Sb×Unit):Option (Sb×Bool×Unit) :=
 ah (cm (x.1,(x.2.1,()))) (fun(y1:Bool×Unit)=>aO (nt y1.1)
 (some (x.1,(false,())))
 (aO (inside (@len UInt8 x.2.1) (@len UInt8 x.1) (@len UInt8 x.1))
 (some (@sub UInt8 x.1 (@len UInt8 x.2.1) (minus (@len UInt8 x.1) (@len UInt8 x.2.1)),(true,())))
 none))
def gz(x:Sb×Sb×Unit):Option (Sb×Bool×Unit) :=
 ah (dB (x.1,(x.2.1,()))) (fun(y1:Sb×Bool×Unit)=>some (y1.1,(y1.2.1,())))
def eS(x:Sb×Int×Unit):Option (Int×Unit) :=
 ah (cl (x.1,(x.2.1,()))) (fun(y1:Int×Unit)=>some (y1.1,()))
def fV(y1:BL×(List (Int))×Unit):Option ((BL×(List (Int))×Unit)⊕(Nat×BL×(List (Int))×Unit)) :=
 aO (nt (ig y1.1.1 ([]:List (UInt8))))
 (ah (@idx UInt8 y1.1.1 (0:Int)) (fun(y2:UInt8)=>ah (eS (([(48:UInt8),(49:UInt8),(50:UInt8),(51:UInt8),(52:UInt8),(53:UInt8),(54:UInt8),(55:UInt8),(56:UInt8),(57:UInt8),(97:UInt8),(98:UInt8),(99:UInt8),(100:UInt8),(101:UInt8),(102:UInt8)]:List (UInt8)),(u8 y2,()))) (fun(y3:Int×Unit)=>ah (@idx UInt8 y1.1.1 (1:Int)) (fun(y4:UInt8)=>ah (eS (([(48:UInt8),(49:UInt8),(50:UInt8),(51:UInt8),(52:UInt8),(53:UInt8),(54:UInt8),(55:UInt8),(56:UInt8),(57:UInt8),(97:UInt8),(98:UInt8),(99:UInt8),(100:UInt8),(101:UInt8),(102:UInt8)]:List (UInt8)),(u8 y4,()))) (fun(y5:Int×Unit)=>aO (aO (nt (fE y3.1 (0:Int)))
 (fE y5.1 (0:Int))
 true)
 (some (Sum.inr ((1:Nat),((y1.1.1,(([]:List (UInt8)),(false,((),())))),(y1.2.1,()))):((BL×(List (Int))×Unit))⊕((Nat×BL×(List (Int))×Unit))))
 (aO (fE (4:Int) (0:Int))
 none
 (aO (fits (plus (@len Int y1.2.1) (@len Int ([kP IntKind.u8 (pO IntKind.i64 (iC IntKind.i64 y3.1 (4:Int)) y5.1)]:List (Int)))))
 (aO (inside (2:Int) (@len UInt8 y1.1.1) (@len UInt8 y1.1.1))
 (some (Sum.inl ((@sub UInt8 y1.1.1 (2:Int) (minus (@len UInt8 y1.1.1) (2:Int)),(y1.1.2.1,(y1.1.2.2.1,((),())))),(@app Int y1.2.1 ([kP IntKind.u8 (pO IntKind.i64 (iC IntKind.i64 y3.1 (4:Int)) y5.1)]:List (Int)),())):((BL×(List (Int))×Unit))⊕((Nat×BL×(List (Int))×Unit))))
 none)
 none)))))))
 (some (Sum.inr ((0:Nat),((y1.1.1,(y1.1.2.1,(y1.1.2.2.1,((),())))),(y1.2.1,()))):((BL×(List (Int))×Unit))⊕((Nat×BL×(List (Int))×Unit))))
def kz(x:Sb×Unit):Option (Sb×Bool×Unit) :=
 aO (b9 (2:Int) (0:Int))
 none
 (aO (nt (b9 (gJ (@len UInt8 x.1) (2:Int)) (0:Int)))
 (some (([]:List (UInt8)),(false,())))
 (ah (Loop (fV) ((x.1,(([]:List (UInt8)),(false,((),())))),(([]:List (Int)),()))) (fun(y1:Nat×BL×(List (Int))×Unit)=>aO (uQ y1.1 (0:Nat))
 (some (aG y1.2.2.1,(true,())))
 (some (y1.2.1.2.1,(y1.2.1.2.2.1,()))))))
def kC(x:Sb×Unit):Option (Int×Unit) :=
 ah (gz (x.1,(([(115:UInt8),(104:UInt8),(97:UInt8),(50:UInt8),(53:UInt8),(54:UInt8),(58:UInt8)]:List (UInt8)),()))) (fun(y1:Sb×Bool×Unit)=>ah (kz (y1.1,())) (fun(y2:Sb×Bool×Unit)=>aO (aO (nt (aO (nt (nt y1.2.1))
 (nt y2.2.1)
 true))
 (nt (b9 (@len UInt8 y1.1) (64:Int)))
 true)
 (some ((2:Int),()))
 (some ((0:Int),()))))
def jT(x:Sb×Sb×Unit):Option (Bool×Unit) :=
 ah (iP (x.2.1,())) (fun(y1:Sb×Unit)=>some (ig x.1 y1.1,()))
def ia(x:Int×Unit):Option (Int×Unit) :=
 aO (fE x.1 (10:Int))
 (some (kP IntKind.u8 (bA IntKind.i64 (48:Int) x.1),()))
 (some (kP IntKind.u8 (dn IntKind.i64 (bA IntKind.i64 (97:Int) x.1) (10:Int)),()))
def iQ(x:Sb×Unit)(y1:(Unit×Int×Unit)×(List (Int))×Unit):Option (L7⊕L7) :=
 @kQ L7 (aO (fE y1.1.2.1 (@len UInt8 x.1))
 (ah (@idx UInt8 x.1 y1.1.2.1) (fun(y2:UInt8)=>aO (b9 (16:Int) (0:Int))
 none
 (ah (ia (ug IntKind.i64 (kP IntKind.i64 (u8 y2)) (16:Int),())) (fun(y3:Int×Unit)=>aO (fits (plus (@len Int y1.2.1) (@len Int ([y3.1]:List (Int)))))
 (ah (@idx UInt8 x.1 y1.1.2.1) (fun(y4:UInt8)=>aO (b9 (16:Int) (0:Int))
 none
 (ah (ia (gJ (kP IntKind.i64 (u8 y4)) (16:Int),())) (fun(y5:Int×Unit)=>aO (fits (plus (@len Int (@app Int y1.2.1 ([y3.1]:List (Int)))) (@len Int ([y5.1]:List (Int)))))
 (some (Sum.inl (((),(bA IntKind.i64 y1.1.2.1 (1:Int),())),(@app Int (@app Int y1.2.1 ([y3.1]:List (Int))) ([y5.1]:List (Int)),())):(L7)⊕((Nat×(Unit×Int×Unit)×(List (Int))×Unit))))
 none))))
 none))))
 (some (Sum.inr ((0:Nat),(((),(y1.1.2.1,())),(y1.2.1,()))):(L7)⊕((Nat×(Unit×Int×Unit)×(List (Int))×Unit)))))
def oJ(x:Sb×Unit):Option (Sb×Unit) :=
 ah (Loop (iQ x) (((),((0:Int),())),(([]:List (Int)),()))) (fun(y1:(Unit×Int×Unit)×(List (Int))×Unit)=>some (aG y1.2.1,()))
def lq(x:Sb×Unit):Option (Sb×Unit) :=
 ah (oI (x.1,())) (fun(y1:(List (Int))×Unit)=>aO (inside (0:Int) (32:Int) (32:Int))
 (ah (oJ (aG (@sub Int y1.1 (0:Int) (minus (32:Int) (0:Int))),())) (fun(y2:Sb×Unit)=>aO (fits (plus (@len UInt8 ([(115:UInt8),(104:UInt8),(97:UInt8),(50:UInt8),(53:UInt8),(54:UInt8),(58:UInt8)]:List (UInt8))) (@len UInt8 y2.1)))
 (some (@app UInt8 ([(115:UInt8),(104:UInt8),(97:UInt8),(50:UInt8),(53:UInt8),(54:UInt8),(58:UInt8)]:List (UInt8)) y2.1,()))
 none))
 none)
def cE(x:Int×Unit)(y1:BM×Unit):Option ((BM×Unit)⊕(Nat×BM×Unit)) :=
 aO (fE y1.1.2.1 (16:Int))
 (ah (ia (y1.1.2.1,())) (fun(y2:Int×Unit)=>aO (b9 y2.1 x.1)
 (some (Sum.inr ((1:Nat),((y1.1.2.1,(y1.1.2.1,())),())):((BM×Unit))⊕((Nat×BM×Unit))))
 (some (Sum.inl ((y1.1.1,(bA IntKind.i64 y1.1.2.1 (1:Int),())),()):((BM×Unit))⊕((Nat×BM×Unit))))))
 (some (Sum.inr ((0:Nat),((y1.1.1,(y1.1.2.1,())),())):((BM×Unit))⊕((Nat×BM×Unit))))
def jy(x:Int×Unit):Option (Int×Unit) :=
 ah (Loop (cE x) (((0:Int),((0:Int),())),())) (fun(y1:Nat×BM×Unit)=>aO (uQ y1.1 (0:Nat))
 (some ((-1:Int),()))
 (some (y1.2.1.1,())))
def fe(x:Sb×Unit)(y1:BK×(List (Int))×Unit):Option ((BK×(List (Int))×Unit)⊕(Nat×BK×(List (Int))×Unit)) :=
 aO (fE (bA IntKind.i64 y1.1.2.2.2.1 (1:Int)) (@len UInt8 x.1))
 (ah (@idx UInt8 x.1 y1.1.2.2.2.1) (fun(y2:UInt8)=>ah (jy (u8 y2,())) (fun(y3:Int×Unit)=>ah (@idx UInt8 x.1 (bA IntKind.i64 y1.1.2.2.2.1 (1:Int))) (fun(y4:UInt8)=>ah (jy (u8 y4,())) (fun(y5:Int×Unit)=>aO (aO (nt (fE y3.1 (0:Int)))
 (fE y5.1 (0:Int))
 true)
 (some (Sum.inr ((1:Nat),((([]:List (UInt8)),(false,((),(y1.1.2.2.2.1,())))),(y1.2.1,()))):((BK×(List (Int))×Unit))⊕((Nat×BK×(List (Int))×Unit))))
 (aO (fits (plus (@len Int y1.2.1) (@len Int ([kP IntKind.u8 (bA IntKind.i64 (iB IntKind.i64 (16:Int) y3.1) y5.1)]:List (Int)))))
 (some (Sum.inl ((y1.1.1,(y1.1.2.1,((),(bA IntKind.i64 y1.1.2.2.2.1 (2:Int),())))),(@app Int y1.2.1 ([kP IntKind.u8 (bA IntKind.i64 (iB IntKind.i64 (16:Int) y3.1) y5.1)]:List (Int)),())):((BK×(List (Int))×Unit))⊕((Nat×BK×(List (Int))×Unit))))
 none))))))
 (some (Sum.inr ((0:Nat),((y1.1.1,(y1.1.2.1,((),(y1.1.2.2.2.1,())))),(y1.2.1,()))):((BK×(List (Int))×Unit))⊕((Nat×BK×(List (Int))×Unit))))
def lN(x:Sb×Unit):Option (Sb×Bool×Unit) :=
 aO (b9 (2:Int) (0:Int))
 none
 (aO (b9 (gJ (@len UInt8 x.1) (2:Int)) (1:Int))
 (some (([]:List (UInt8)),(false,())))
 (ah (Loop (fe x) ((([]:List (UInt8)),(false,((),((0:Int),())))),(([]:List (Int)),()))) (fun(y1:Nat×BK×(List (Int))×Unit)=>aO (uQ y1.1 (0:Nat))
 (some (aG y1.2.2.1,(true,())))
 (some (y1.2.1.1,(y1.2.1.2.1,()))))))
def lO(x:Sb×Unit):Option (Int×Unit) :=
 ah (aO (nt (nt (b9 (@len UInt8 x.1) (71:Int))))
 (aO (inside (0:Int) (7:Int) (@len UInt8 x.1))
 (some (nt (ig (@sub UInt8 x.1 (0:Int) (minus (7:Int) (0:Int))) ([(115:UInt8),(104:UInt8),(97:UInt8),(50:UInt8),(53:UInt8),(54:UInt8),(58:UInt8)]:List (UInt8)))))
 none)
 (some true)) (fun(y1:Bool)=>aO y1
 (some ((2:Int),()))
 (aO (inside (7:Int) (@len UInt8 x.1) (@len UInt8 x.1))
 (ah (lN (@sub UInt8 x.1 (7:Int) (minus (@len UInt8 x.1) (7:Int)),())) (fun(y2:Sb×Bool×Unit)=>aO (nt y2.2.1)
 (some ((2:Int),()))
 (some ((0:Int),()))))
 none))
end Go.Ge
namespace Go.Ge
variable [Lp]
set_option maxRecDepth 100000
end Go.Ge
namespace Go.Ge
variable [Lp]
set_option maxRecDepth 100000
end Go.Ge
namespace Go.Ge
variable [Lp]
set_option maxRecDepth 100000
abbrev BN:=(Bool×Int×Unit)
def so(x:(List Sb)×(List Sb)×Unit)(y1:BN×Unit):Option ((BN×Unit)⊕(Nat×BN×Unit)) :=
 aO (aO (fE y1.1.2.1 (@len Sb x.1))
 (fE y1.1.2.1 (@len Sb x.2.1))
 false)
 (ah (@idx Sb x.1 y1.1.2.1) (fun(y2:List (UInt8))=>ah (@idx Sb x.2.1 y1.1.2.1) (fun(y3:List (UInt8))=>aO (nt (ig y2 y3))
 (some (Sum.inr ((1:Nat),((false,(y1.1.2.1,())),())):((BN×Unit))⊕((Nat×BN×Unit))))
 (some (Sum.inl ((y1.1.1,(bA IntKind.i64 y1.1.2.1 (1:Int),())),()):((BN×Unit))⊕((Nat×BN×Unit)))))))
 (some (Sum.inr ((0:Nat),((y1.1.1,(y1.1.2.1,())),())):((BN×Unit))⊕((Nat×BN×Unit))))
def vR(x:(List Sb)×(List Sb)×Unit):Option (Bool×Unit) :=
 aO (nt (b9 (@len Sb x.1) (@len Sb x.2.1)))
 (some (false,()))
 (ah (Loop (so x) ((false,((0:Int),())),())) (fun(y1:Nat×BN×Unit)=>aO (uQ y1.1 (0:Nat))
 (some (true,()))
 (some (y1.2.1.1,()))))
end Go.Ge
namespace Go.Ge
variable [Lp]
set_option maxRecDepth 100000
def qH(x:Int×Unit):Option (Sb×Unit) :=
 ah (sj (x.1,())) (fun(y1:Sb×Unit)=>some (y1.1,()))
def pE(SG:(Int×Unit)→Option (Sb×Unit))(x:Int×Unit):Option (Sb×Unit) :=
 aO (fE (-10:Int) x.1)
 (some (aG ([kP IntKind.u8 (dn IntKind.i64 (48:Int) x.1)]:List (Int)),()))
 (aO (b9 (10:Int) (0:Int))
 none
 (ah (SG (ug IntKind.i64 x.1 (10:Int),())) (fun(y1:Sb×Unit)=>aO (b9 (10:Int) (0:Int))
 none
 (aO (fits (plus (@len UInt8 y1.1) (@len UInt8 (aG ([kP IntKind.u8 (dn IntKind.i64 (48:Int) (gJ x.1 (10:Int)))]:List (Int))))))
 (some (@app UInt8 y1.1 (aG ([kP IntKind.u8 (dn IntKind.i64 (48:Int) (gJ x.1 (10:Int)))]:List (Int))),()))
 none))))
def oK(x:Int×Unit):Option (Sb×Unit) :=
 aO (fE x.1 (0:Int))
 (ah (gr (x.1,())) (fun(y1:Sb×Unit)=>aO (fits (plus (@len UInt8 ([(45:UInt8)]:List (UInt8))) (@len UInt8 y1.1)))
 (some (@app UInt8 ([(45:UInt8)]:List (UInt8)) y1.1,()))
 none))
 (ah (gr (dn IntKind.i64 (0:Int) x.1,())) (fun(y1:Sb×Unit)=>some (y1.1,())))
end Go.Ge
namespace Go.Ge
variable [Lp]
set_option maxRecDepth 100000
def cU(x:(List Sb)×Unit):Option ((List Sb)×Unit) :=
 bif fits (len x.1) then some (x.1,()) else none
end Go.Ge
namespace Go.Ge
variable [Lp]
set_option maxRecDepth 100000
abbrev cX:=(Int×Sb×Sb×Int×Int×Int×Sb×Int×Int×Unit)
abbrev bM:=(Int×Int×Sb×(List Sb)×Unit)
abbrev eN:=(Bool×(List (cX×bM×Unit))×Int×Bool×Bool×cX×Unit)
abbrev n7:=((List cX)×(List bM)×Int×cX×Bool×Bool×Unit)
abbrev SH:=(Nat×(Bool×Int×Unit)×(Unit×Unit×Int×cX×Bool×Bool×Unit)×(List cX)×(List bM)×(Bool×Unit×Int×Bool×Bool×cX×Unit)×(List (cX×bM×Unit))×Unit)
abbrev SI:=((Bool×Int×Unit)×(Unit×Unit×Int×cX×Bool×Bool×Unit)×(List cX)×(List bM)×(Bool×Unit×Int×Bool×Bool×cX×Unit)×(List (cX×bM×Unit))×Unit)
abbrev SJ:=(Bool×Unit×Int×Bool×Bool×cX×Unit)
abbrev SK:=(Unit×Unit×Int×cX×Bool×Bool×Unit)
abbrev pF:=(cX×bM×Unit)
abbrev pG:=(Int×Int×Unit)
abbrev dD:=(Bool×Int×Unit)
def cJ(x:Unit×eN×Unit):Option ((Bool×Unit)×eN×Unit) :=
 some ((x.2.1.1,()),((x.2.1.1,(x.2.1.2.1,(x.2.1.2.2.1,(x.2.1.2.2.2.1,(x.2.1.2.2.2.2.1,(x.2.1.2.2.2.2.2.1,())))))),()))
def dF(x:Unit×eN×Unit):Option (Unit×eN×Unit) :=
 ah (cJ ((),((x.2.1.1,(x.2.1.2.1,(x.2.1.2.2.1,(x.2.1.2.2.2.1,(x.2.1.2.2.2.2.1,(x.2.1.2.2.2.2.2.1,())))))),()))) (fun(y1:(Bool×Unit)×eN×Unit)=>some ((),(((((aO y1.1.1
 ((),((y1.2.1.1,((),((0:Int),(false,(false,(y1.2.1.2.2.2.2.2.1,())))))),(y1.2.1.2.1,())))
 ((),((y1.2.1.1,((),(y1.2.1.2.2.1,(y1.2.1.2.2.2.1,(y1.2.1.2.2.2.2.1,(y1.2.1.2.2.2.2.2.1,())))))),(y1.2.1.2.1,())))).2).1).1,((((aO y1.1.1
 ((),((y1.2.1.1,((),((0:Int),(false,(false,(y1.2.1.2.2.2.2.2.1,())))))),(y1.2.1.2.1,())))
 ((),((y1.2.1.1,((),(y1.2.1.2.2.1,(y1.2.1.2.2.2.1,(y1.2.1.2.2.2.2.1,(y1.2.1.2.2.2.2.2.1,())))))),(y1.2.1.2.1,())))).2).2).1,((((((aO y1.1.1
 ((),((y1.2.1.1,((),((0:Int),(false,(false,(y1.2.1.2.2.2.2.2.1,())))))),(y1.2.1.2.1,())))
 ((),((y1.2.1.1,((),(y1.2.1.2.2.1,(y1.2.1.2.2.2.1,(y1.2.1.2.2.2.2.1,(y1.2.1.2.2.2.2.2.1,())))))),(y1.2.1.2.1,())))).2).1).2).2).1,(((((((aO y1.1.1
 ((),((y1.2.1.1,((),((0:Int),(false,(false,(y1.2.1.2.2.2.2.2.1,())))))),(y1.2.1.2.1,())))
 ((),((y1.2.1.1,((),(y1.2.1.2.2.1,(y1.2.1.2.2.2.1,(y1.2.1.2.2.2.2.1,(y1.2.1.2.2.2.2.2.1,())))))),(y1.2.1.2.1,())))).2).1).2).2).2).1,((((((((aO y1.1.1
 ((),((y1.2.1.1,((),((0:Int),(false,(false,(y1.2.1.2.2.2.2.2.1,())))))),(y1.2.1.2.1,())))
 ((),((y1.2.1.1,((),(y1.2.1.2.2.1,(y1.2.1.2.2.2.1,(y1.2.1.2.2.2.2.1,(y1.2.1.2.2.2.2.2.1,())))))),(y1.2.1.2.1,())))).2).1).2).2).2).2).1,(((((((((aO y1.1.1
 ((),((y1.2.1.1,((),((0:Int),(false,(false,(y1.2.1.2.2.2.2.2.1,())))))),(y1.2.1.2.1,())))
 ((),((y1.2.1.1,((),(y1.2.1.2.2.1,(y1.2.1.2.2.2.1,(y1.2.1.2.2.2.2.1,(y1.2.1.2.2.2.2.2.1,())))))),(y1.2.1.2.1,())))).2).1).2).2).2).2).2).1,())))))),())))
def iR(x:bM×Unit):Option (bM×Unit) :=
 ah (cU (x.1.2.2.2.1,())) (fun(y1:(List Sb)×Unit)=>some ((x.1.1,(x.1.2.1,(x.1.2.2.1,(y1.1,x.1.2.2.2.2)))),()))
def pH(x:Unit):Option (bM×Unit) :=
 some (((14:Int),((0:Int),(([]:List (UInt8)),(([]:List Sb),())))),())
def iS(x:(cX×Unit)×eN×Unit):Option ((bM×Unit)×eN×Unit) :=
 ah (cJ ((),((x.2.1.1,(x.2.1.2.1,(x.2.1.2.2.1,(x.2.1.2.2.2.1,(x.2.1.2.2.2.2.1,(x.2.1.2.2.2.2.2.1,())))))),()))) (fun(y1:(Bool×Unit)×eN×Unit)=>aO (nt y1.1.1)
 (some ((((1:Int),((0:Int),(([]:List (UInt8)),(([]:List Sb),())))),()),((y1.2.1.1,(y1.2.1.2.1,(y1.2.1.2.2.1,(y1.2.1.2.2.2.1,(y1.2.1.2.2.2.2.1,(y1.2.1.2.2.2.2.2.1,())))))),())))
 (aO y1.2.1.2.2.2.1
 (ah (pH ()) (fun(y2:bM×Unit)=>some ((y2.1,()),((y1.2.1.1,(y1.2.1.2.1,(y1.2.1.2.2.1,(y1.2.1.2.2.2.1,(y1.2.1.2.2.2.2.1,(y1.2.1.2.2.2.2.2.1,())))))),()))))
 (aO (b9 y1.2.1.2.2.1 (@len pF y1.2.1.2.1))
 (ah (pH ()) (fun(y2:bM×Unit)=>some ((y2.1,()),((y1.2.1.1,(y1.2.1.2.1,(y1.2.1.2.2.1,(true,(true,(x.1.1,())))))),()))))
 (aO (within y1.2.1.2.2.1 (@len pF y1.2.1.2.1))
 (ah (@idx pF y1.2.1.2.1 y1.2.1.2.2.1) (fun(y2:cX×bM×Unit)=>aO (nt (an (b9 y2.1.1 x.1.1.1) (an (ig y2.1.2.1 x.1.1.2.1) (an (ig y2.1.2.2.1 x.1.1.2.2.1) (an (b9 y2.1.2.2.2.1 x.1.1.2.2.2.1) (an (b9 y2.1.2.2.2.2.1 x.1.1.2.2.2.2.1) (an (b9 y2.1.2.2.2.2.2.1 x.1.1.2.2.2.2.2.1) (an (ig y2.1.2.2.2.2.2.2.1 x.1.1.2.2.2.2.2.2.1) (an (b9 y2.1.2.2.2.2.2.2.2.1 x.1.1.2.2.2.2.2.2.2.1) (an (b9 y2.1.2.2.2.2.2.2.2.2.1 x.1.1.2.2.2.2.2.2.2.2.1) true))))))))))
 (some ((((1:Int),((0:Int),(([]:List (UInt8)),(([]:List Sb),())))),()),((y1.2.1.1,(y1.2.1.2.1,(y1.2.1.2.2.1,(y1.2.1.2.2.2.1,(y1.2.1.2.2.2.2.1,(y1.2.1.2.2.2.2.2.1,())))))),())))
 (aO (within (dn IntKind.i64 (bA IntKind.i64 y1.2.1.2.2.1 (1:Int)) (1:Int)) (@len pF y1.2.1.2.1))
 (ah (@idx pF y1.2.1.2.1 (dn IntKind.i64 (bA IntKind.i64 y1.2.1.2.2.1 (1:Int)) (1:Int))) (fun(y3:cX×bM×Unit)=>ah (iR (y3.2.1,())) (fun(y4:bM×Unit)=>some ((y4.1,()),((y1.2.1.1,(y1.2.1.2.1,(bA IntKind.i64 y1.2.1.2.2.1 (1:Int),(y1.2.1.2.2.2.1,(y1.2.1.2.2.2.2.1,(y1.2.1.2.2.2.2.2.1,())))))),())))))
 none)))
 none))))
def aQ(x:(List (Int))×Int×Unit)(y1:pG×Unit):Option ((pG×Unit)⊕(Nat×pG×Unit)) :=
 aO (fE y1.1.2.1 (@len Int x.1))
 (ah (@idx Int x.1 y1.1.2.1) (fun(y2:Int)=>aO (b9 x.2.1 y2)
 (some (Sum.inr ((1:Nat),((y1.1.2.1,(y1.1.2.1,())),())):((pG×Unit))⊕((Nat×pG×Unit))))
 (some (Sum.inl ((y1.1.1,(bA IntKind.i64 y1.1.2.1 (1:Int),())),()):((pG×Unit))⊕((Nat×pG×Unit))))))
 (some (Sum.inr ((0:Nat),((y1.1.1,(y1.1.2.1,())),())):((pG×Unit))⊕((Nat×pG×Unit))))
def b8(x:(List (Int))×Int×Unit):Option (Int×Unit) :=
 ah (Loop (aQ x) (((0:Int),((0:Int),())),())) (fun(y1:Nat×pG×Unit)=>aO (uQ y1.1 (0:Nat))
 (some ((-1:Int),()))
 (some (y1.2.1.1,())))
def aR(x:(List (Int))×Int×Unit):Option (Bool×Unit) :=
 ah (b8 (x.1,(x.2.1,()))) (fun(y1:Int×Unit)=>some (yI (0:Int) y1.1,()))
def iT(x:(cX×(List (Int))×Unit)×eN×Unit):Option ((bM×Int×Unit)×eN×Unit) :=
 ah (iS ((x.1.1,()),((x.2.1.1,(x.2.1.2.1,(x.2.1.2.2.1,(x.2.1.2.2.2.1,(x.2.1.2.2.2.2.1,(x.2.1.2.2.2.2.2.1,())))))),()))) (fun(y1:(bM×Unit)×eN×Unit)=>ah (aR (x.1.2.1,(y1.1.1.1,()))) (fun(y2:Bool×Unit)=>aO y2.1
 (some ((y1.1.1,((0:Int),())),((y1.2.1.1,(y1.2.1.2.1,(y1.2.1.2.2.1,(y1.2.1.2.2.2.1,(y1.2.1.2.2.2.2.1,(y1.2.1.2.2.2.2.2.1,())))))),())))
 (some ((y1.1.1,(y1.1.1.1,())),((y1.2.1.1,(y1.2.1.2.1,(y1.2.1.2.2.1,(y1.2.1.2.2.2.1,(y1.2.1.2.2.2.2.1,(y1.2.1.2.2.2.2.2.1,())))))),())))))
def ng(x:(cX×Unit)×eN×Unit):Option ((Bool×Unit)×eN×Unit) :=
 ah (iT ((x.1.1,(([]:List (Int)),())),((x.2.1.1,(x.2.1.2.1,(x.2.1.2.2.1,(x.2.1.2.2.2.1,(x.2.1.2.2.2.2.1,(x.2.1.2.2.2.2.2.1,())))))),()))) (fun(y1:(bM×Int×Unit)×eN×Unit)=>some ((b9 y1.1.2.1 (14:Int),()),((y1.2.1.1,(y1.2.1.2.1,(y1.2.1.2.2.1,(y1.2.1.2.2.2.1,(y1.2.1.2.2.2.2.1,(y1.2.1.2.2.2.2.2.1,())))))),())))
def dY(x:Unit×eN×Unit):Option ((cX×Bool×Unit)×eN×Unit) :=
 ah (cJ ((),((x.2.1.1,(x.2.1.2.1,(x.2.1.2.2.1,(x.2.1.2.2.2.1,(x.2.1.2.2.2.2.1,(x.2.1.2.2.2.2.2.1,())))))),()))) (fun(y1:(Bool×Unit)×eN×Unit)=>aO (aO (nt (nt y1.1.1))
 (nt y1.2.1.2.2.2.2.1)
 true)
 (some ((((0:Int),(([]:List (UInt8)),(([]:List (UInt8)),((0:Int),((0:Int),((0:Int),(([]:List (UInt8)),((0:Int),((0:Int),()))))))))),(false,())),((y1.2.1.1,(y1.2.1.2.1,(y1.2.1.2.2.1,(y1.2.1.2.2.2.1,(y1.2.1.2.2.2.2.1,(y1.2.1.2.2.2.2.2.1,())))))),())))
 (some ((y1.2.1.2.2.2.2.2.1,(true,())),((y1.2.1.1,(y1.2.1.2.1,(y1.2.1.2.2.1,(y1.2.1.2.2.2.1,(y1.2.1.2.2.2.2.1,(y1.2.1.2.2.2.2.2.1,())))))),()))))
def bW(x:(bM×Unit)×eN×Unit):Option ((Int×Unit)×eN×Unit) :=
 ah (dY ((),((x.2.1.1,(x.2.1.2.1,(x.2.1.2.2.1,(x.2.1.2.2.2.1,(x.2.1.2.2.2.2.1,(x.2.1.2.2.2.2.2.1,())))))),()))) (fun(y1:(cX×Bool×Unit)×eN×Unit)=>aO (nt y1.1.2.1)
 (some (((1:Int),()),((y1.2.1.1,(y1.2.1.2.1,(y1.2.1.2.2.1,(y1.2.1.2.2.2.1,(y1.2.1.2.2.2.2.1,(y1.2.1.2.2.2.2.2.1,())))))),())))
 (ah (iR (x.1.1,())) (fun(y2:bM×Unit)=>aO (fits (plus (@len pF y1.2.1.2.1) (@len pF ([(y1.2.1.2.2.2.2.2.1,(y2.1,()))]:List pF))))
 (some (((0:Int),()),((y1.2.1.1,(@app pF y1.2.1.2.1 ([(y1.2.1.2.2.2.2.2.1,(y2.1,()))]:List pF),(y1.2.1.2.2.1,(y1.2.1.2.2.2.1,(false,(y1.2.1.2.2.2.2.2.1,())))))),())))
 none)))
def dZ(x:(List bM)×Int×Unit)(y1:dD×Unit)(y5:dD×Unit):Option ((dD×Unit)⊕(Nat×dD×Unit)) :=
 ah (@idx bM x.1 y1.1.2.1) (fun(y6:Int×Int×Sb×(List Sb)×Unit)=>aO (fE y5.1.2.1 (@len Sb y6.2.2.2.1))
 (ah (@idx bM x.1 y1.1.2.1) (fun(y7:Int×Int×Sb×(List Sb)×Unit)=>ah (@idx Sb y7.2.2.2.1 y5.1.2.1) (fun(y8:List (UInt8))=>aO (fE (100:Int) (@len UInt8 y8))
 (some (Sum.inr ((1:Nat),((false,(y5.1.2.1,())),())):((dD×Unit))⊕((Nat×dD×Unit))))
 (some (Sum.inl ((y5.1.1,(bA IntKind.i64 y5.1.2.1 (1:Int),())),()):((dD×Unit))⊕((Nat×dD×Unit)))))))
 (some (Sum.inr ((0:Nat),((y5.1.1,(y5.1.2.1,())),())):((dD×Unit))⊕((Nat×dD×Unit)))))
def cY(x:(List bM)×Int×Unit)(y1:dD×Unit):Option ((dD×Unit)⊕(Nat×dD×Unit)) :=
 aO (aO (fE y1.1.2.1 (@len bM x.1))
 (fE y1.1.2.1 x.2.1)
 false)
 (ah (@idx bM x.1 y1.1.2.1) (fun(y2:Int×Int×Sb×(List Sb)×Unit)=>ah (aO (nt (fE (4096:Int) (@len UInt8 y2.2.2.1)))
 (ah (@idx bM x.1 y1.1.2.1) (fun(y3:Int×Int×Sb×(List Sb)×Unit)=>some (fE (12:Int) (@len Sb y3.2.2.2.1))))
 (some true)) (fun(y3:Bool)=>ah (aO (nt y3)
 (ah (@idx bM x.1 y1.1.2.1) (fun(y4:Int×Int×Sb×(List Sb)×Unit)=>some (b9 y4.1 (14:Int))))
 (some true)) (fun(y4:Bool)=>aO y4
 (some (Sum.inr ((1:Nat),((false,(y1.1.2.1,())),())):((dD×Unit))⊕((Nat×dD×Unit))))
 (ah (Loop (dZ x y1) ((y1.1.1,((0:Int),())),())) (fun(y5:Nat×dD×Unit)=>aO (uQ y5.1 (0:Nat))
 (some (Sum.inl ((y5.2.1.1,(bA IntKind.i64 y1.1.2.1 (1:Int),())),()):((dD×Unit))⊕((Nat×dD×Unit))))
 (some (Sum.inr ((1:Nat),((y5.2.1.1,(y1.1.2.1,())),())):((dD×Unit))⊕((Nat×dD×Unit))))))))))
 (some (Sum.inr ((0:Nat),((y1.1.1,(y1.1.2.1,())),())):((dD×Unit))⊕((Nat×dD×Unit))))
def gU(x:(List bM)×Int×Unit):Option (Bool×Unit) :=
 ah (Loop (cY x) ((false,((0:Int),())),())) (fun(y1:Nat×dD×Unit)=>aO (uQ y1.1 (0:Nat))
 (some (yI (@len bM x.1) x.2.1,()))
 (some (y1.2.1.1,())))
def eJ(x:Unit×n7×Unit):Option (Unit×n7×Unit) :=
 some ((),((x.2.1.1,(x.2.1.2.1,((0:Int),(x.2.1.2.2.2.1,(false,(false,())))))),()))
def fW(x:(Sb×Unit)×eN×Unit):Option ((Sb×Int×Unit)×eN×Unit) :=
 ah (iT ((((4:Int),(x.1.1,(([]:List (UInt8)),((0:Int),((0:Int),((0:Int),(([]:List (UInt8)),((0:Int),((0:Int),()))))))))),(([]:List (Int)),())),((x.2.1.1,(x.2.1.2.1,(x.2.1.2.2.1,(x.2.1.2.2.2.1,(x.2.1.2.2.2.2.1,(x.2.1.2.2.2.2.2.1,())))))),()))) (fun(y1:(bM×Int×Unit)×eN×Unit)=>aO (nt (b9 y1.1.2.1 (0:Int)))
 (some ((([]:List (UInt8)),(y1.1.2.1,())),((y1.2.1.1,(y1.2.1.2.1,(y1.2.1.2.2.1,(y1.2.1.2.2.2.1,(y1.2.1.2.2.2.2.1,(y1.2.1.2.2.2.2.2.1,())))))),())))
 (ah (iT ((((6:Int),(([]:List (UInt8)),(([]:List (UInt8)),(y1.1.1.2.1,((0:Int),((1048576:Int),(([]:List (UInt8)),((0:Int),((0:Int),()))))))))),(([]:List (Int)),())),((y1.2.1.1,(y1.2.1.2.1,(y1.2.1.2.2.1,(y1.2.1.2.2.2.1,(y1.2.1.2.2.2.2.1,(y1.2.1.2.2.2.2.2.1,())))))),()))) (fun(y2:(bM×Int×Unit)×eN×Unit)=>aO (nt (b9 y2.1.2.1 (14:Int)))
 (ah (ng ((((5:Int),(([]:List (UInt8)),(([]:List (UInt8)),(y1.1.1.2.1,((0:Int),((0:Int),(([]:List (UInt8)),((0:Int),((0:Int),()))))))))),()),((y2.2.1.1,(y2.2.1.2.1,(y2.2.1.2.2.1,(y2.2.1.2.2.2.1,(y2.2.1.2.2.2.2.1,(y2.2.1.2.2.2.2.2.1,())))))),()))) (fun(y3:(Bool×Unit)×eN×Unit)=>aO y3.1.1
 (some ((([]:List (UInt8)),((14:Int),())),((y3.2.1.1,(y3.2.1.2.1,(y3.2.1.2.2.1,(y3.2.1.2.2.2.1,(y3.2.1.2.2.2.2.1,(y3.2.1.2.2.2.2.2.1,())))))),())))
 (aO (nt (b9 y2.1.2.1 (0:Int)))
 (some ((([]:List (UInt8)),(y2.1.2.1,())),((y3.2.1.1,(y3.2.1.2.1,(y3.2.1.2.2.1,(y3.2.1.2.2.2.1,(y3.2.1.2.2.2.2.1,(y3.2.1.2.2.2.2.2.1,())))))),())))
 (some ((y2.1.1.2.2.1,((0:Int),())),((y3.2.1.1,(y3.2.1.2.1,(y3.2.1.2.2.1,(y3.2.1.2.2.2.1,(y3.2.1.2.2.2.2.1,(y3.2.1.2.2.2.2.2.1,())))))),()))))))
 (some ((([]:List (UInt8)),((14:Int),())),((y2.2.1.1,(y2.2.1.2.1,(y2.2.1.2.2.1,(y2.2.1.2.2.2.1,(y2.2.1.2.2.2.2.1,(y2.2.1.2.2.2.2.2.1,())))))),()))))))
def dG(x:(cX×Unit)×n7×Unit):Option ((bM×Unit)×n7×Unit) :=
 aO x.2.1.2.2.2.2.2.1
 (some ((((14:Int),((0:Int),(([]:List (UInt8)),(([]:List Sb),())))),()),((x.2.1.1,(x.2.1.2.1,(x.2.1.2.2.1,(x.2.1.2.2.2.1,(x.2.1.2.2.2.2.1,(x.2.1.2.2.2.2.2.1,())))))),())))
 (aO (fE x.2.1.2.2.1 (@len cX x.2.1.1))
 (aO (within x.2.1.2.2.1 (@len cX x.2.1.1))
 (ah (@idx cX x.2.1.1 x.2.1.2.2.1) (fun(y1:Int×Sb×Sb×Int×Int×Int×Sb×Int×Int×Unit)=>aO (nt (an (b9 y1.1 x.1.1.1) (an (ig y1.2.1 x.1.1.2.1) (an (ig y1.2.2.1 x.1.1.2.2.1) (an (b9 y1.2.2.2.1 x.1.1.2.2.2.1) (an (b9 y1.2.2.2.2.1 x.1.1.2.2.2.2.1) (an (b9 y1.2.2.2.2.2.1 x.1.1.2.2.2.2.2.1) (an (ig y1.2.2.2.2.2.2.1 x.1.1.2.2.2.2.2.2.1) (an (b9 y1.2.2.2.2.2.2.2.1 x.1.1.2.2.2.2.2.2.2.1) (an (b9 y1.2.2.2.2.2.2.2.2.1 x.1.1.2.2.2.2.2.2.2.2.1) true))))))))))
 (some ((((1:Int),((0:Int),(([]:List (UInt8)),(([]:List Sb),())))),()),((x.2.1.1,(x.2.1.2.1,(x.2.1.2.2.1,(x.2.1.2.2.2.1,(x.2.1.2.2.2.2.1,(x.2.1.2.2.2.2.2.1,())))))),())))
 (aO (within (dn IntKind.i64 (bA IntKind.i64 x.2.1.2.2.1 (1:Int)) (1:Int)) (@len bM x.2.1.2.1))
 (ah (@idx bM x.2.1.2.1 (dn IntKind.i64 (bA IntKind.i64 x.2.1.2.2.1 (1:Int)) (1:Int))) (fun(y2:Int×Int×Sb×(List Sb)×Unit)=>some ((y2,()),((x.2.1.1,(x.2.1.2.1,(bA IntKind.i64 x.2.1.2.2.1 (1:Int),(x.2.1.2.2.2.1,(x.2.1.2.2.2.2.1,(x.2.1.2.2.2.2.2.1,())))))),()))))
 none)))
 none)
 (some ((((14:Int),((0:Int),(([]:List (UInt8)),(([]:List Sb),())))),()),((x.2.1.1,(x.2.1.2.1,(x.2.1.2.2.1,(x.1.1,(true,(true,())))))),()))))
def lP(x:bM×Unit):Option (Bool×Unit) :=
 some (b9 x.1.1 (14:Int),())
def fX(x:(Sb×Unit)×n7×Unit):Option ((Sb×Int×Unit)×n7×Unit) :=
 ah (dG ((((4:Int),(x.1.1,(([]:List (UInt8)),((0:Int),((0:Int),((0:Int),(([]:List (UInt8)),((0:Int),((0:Int),()))))))))),()),((x.2.1.1,(x.2.1.2.1,(x.2.1.2.2.1,(x.2.1.2.2.2.1,(x.2.1.2.2.2.2.1,(x.2.1.2.2.2.2.2.1,())))))),()))) (fun(y1:(bM×Unit)×n7×Unit)=>aO (nt (b9 y1.1.1.1 (0:Int)))
 (some ((([]:List (UInt8)),(y1.1.1.1,())),((y1.2.1.1,(y1.2.1.2.1,(y1.2.1.2.2.1,(y1.2.1.2.2.2.1,(y1.2.1.2.2.2.2.1,(y1.2.1.2.2.2.2.2.1,())))))),())))
 (ah (dG ((((6:Int),(([]:List (UInt8)),(([]:List (UInt8)),(y1.1.1.2.1,((0:Int),((1048576:Int),(([]:List (UInt8)),((0:Int),((0:Int),()))))))))),()),((y1.2.1.1,(y1.2.1.2.1,(y1.2.1.2.2.1,(y1.2.1.2.2.2.1,(y1.2.1.2.2.2.2.1,(y1.2.1.2.2.2.2.2.1,())))))),()))) (fun(y2:(bM×Unit)×n7×Unit)=>ah (lP (y2.1.1,())) (fun(y3:Bool×Unit)=>aO y3.1
 (some ((([]:List (UInt8)),(y2.1.1.1,())),((y2.2.1.1,(y2.2.1.2.1,(y2.2.1.2.2.1,(y2.2.1.2.2.2.1,(y2.2.1.2.2.2.2.1,(y2.2.1.2.2.2.2.2.1,())))))),())))
 (ah (dG ((((5:Int),(([]:List (UInt8)),(([]:List (UInt8)),(y1.1.1.2.1,((0:Int),((0:Int),(([]:List (UInt8)),((0:Int),((0:Int),()))))))))),()),((y2.2.1.1,(y2.2.1.2.1,(y2.2.1.2.2.1,(y2.2.1.2.2.2.1,(y2.2.1.2.2.2.2.1,(y2.2.1.2.2.2.2.2.1,())))))),()))) (fun(y4:(bM×Unit)×n7×Unit)=>ah (lP (y4.1.1,())) (fun(y5:Bool×Unit)=>aO y5.1
 (some ((([]:List (UInt8)),(y4.1.1.1,())),((y4.2.1.1,(y4.2.1.2.1,(y4.2.1.2.2.1,(y4.2.1.2.2.2.1,(y4.2.1.2.2.2.2.1,(y4.2.1.2.2.2.2.2.1,())))))),())))
 (aO (nt (b9 y2.1.1.1 (0:Int)))
 (some ((([]:List (UInt8)),(y2.1.1.1,())),((y4.2.1.1,(y4.2.1.2.1,(y4.2.1.2.2.1,(y4.2.1.2.2.2.1,(y4.2.1.2.2.2.2.1,(y4.2.1.2.2.2.2.2.1,())))))),())))
 (some ((y2.1.1.2.2.1,((0:Int),())),((y4.2.1.1,(y4.2.1.2.1,(y4.2.1.2.2.1,(y4.2.1.2.2.2.1,(y4.2.1.2.2.2.2.1,(y4.2.1.2.2.2.2.2.1,())))))),())))))))))))
def bX(x:(bM×Unit)×n7×Unit):Option ((Int×Unit)×n7×Unit) :=
 aO (nt x.2.1.2.2.2.2.1)
 (some (((1:Int),()),((x.2.1.1,(x.2.1.2.1,(x.2.1.2.2.1,(x.2.1.2.2.2.1,(x.2.1.2.2.2.2.1,(x.2.1.2.2.2.2.2.1,())))))),())))
 (aO (fits (plus (@len cX x.2.1.1) (@len cX ([x.2.1.2.2.2.1]:List cX))))
 (aO (fits (plus (@len bM x.2.1.2.1) (@len bM ([x.1.1]:List bM))))
 (some (((0:Int),()),((@app cX x.2.1.1 ([x.2.1.2.2.2.1]:List cX),(@app bM x.2.1.2.1 ([x.1.1]:List bM),(x.2.1.2.2.1,(x.2.1.2.2.2.1,(false,(x.2.1.2.2.2.2.2.1,())))))),())))
 none)
 none)
end Go.Ge
namespace Go.Ge
variable [Lp]
set_option maxRecDepth 100000
abbrev bP:=(Int×Sb×Sb×Int×Int×Int×Sb×Int×Int×Unit)
abbrev bT:=(Int×Int×Sb×(List Sb)×Unit)
abbrev n8:=(Nat×(Bool×Int×Unit)×(Unit×Unit×Int×bP×Bool×Bool×Unit)×(List bP)×(List bT)×(Bool×Unit×Int×Bool×Bool×bP×Unit)×(List (bP×bT×Unit))×(Unit×Unit×Int×bP×Bool×Bool×Unit)×(List bP)×(List bT)×(Bool×Unit×Int×Bool×Bool×bP×Unit)×(List (bP×bT×Unit))×Unit)
abbrev n9:=((Bool×Int×Unit)×(Unit×Unit×Int×bP×Bool×Bool×Unit)×(List bP)×(List bT)×(Bool×Unit×Int×Bool×Bool×bP×Unit)×(List (bP×bT×Unit))×(Unit×Unit×Int×bP×Bool×Bool×Unit)×(List bP)×(List bT)×(Bool×Unit×Int×Bool×Bool×bP×Unit)×(List (bP×bT×Unit))×Unit)
abbrev cK:=(Sb×Sb×(List Sb)×Sb×Int×Int×Bool×Unit)
abbrev xg:=(Sb×(Unit×(Unit×Int×Unit)×(Unit×(Int×Int×Unit)×Unit)×Unit)×Sb×(Unit×Unit×Int×Unit)×Unit)
abbrev gv:=(Bool×(List (bP×bT×Unit))×Int×Bool×Bool×bP×Unit)
abbrev kD:=(Bool×Unit×Int×Bool×Bool×bP×Unit)
abbrev jI:=(Unit×Unit×Int×bP×Bool×Bool×Unit)
abbrev ir:=((List bP)×(List bT)×Int×bP×Bool×Bool×Unit)
abbrev nh:=(Int×Bool×Int×Int×Unit)
abbrev iz:=(List (bP×bT×Unit))
abbrev ni:=(Nat×nh×xg×kD×iz×Unit)
abbrev qI:=(Nat×nh×jI×(List bP)×(List bT)×Unit)
abbrev qJ:=(nh×jI×(List bP)×(List bT)×Unit)
abbrev nj:=(nh×xg×kD×iz×Unit)
abbrev cV:=(Int×Int×Unit)
abbrev lQ:=(Sb×Int×Unit)
def kE(x:(List cK)×Unit)(y1:(Bool×Int×Unit)×Unit):Option (((Bool×Int×Unit)×Unit)⊕(Nat×(Bool×Int×Unit)×Unit)) :=
 aO (aO (fE y1.1.2.1 (@len cK x.1))
 (fE y1.1.2.1 (40:Int))
 false)
 (ah (@idx cK x.1 y1.1.2.1) (fun(y2:Sb×Sb×(List Sb)×Sb×Int×Int×Bool×Unit)=>aO (fE (100:Int) (@len UInt8 y2.2.2.2.1))
 (some (Sum.inr ((1:Nat),((false,(y1.1.2.1,())),())):(((Bool×Int×Unit)×Unit))⊕((Nat×(Bool×Int×Unit)×Unit))))
 (some (Sum.inl ((y1.1.1,(bA IntKind.i64 y1.1.2.1 (1:Int),())),()):(((Bool×Int×Unit)×Unit))⊕((Nat×(Bool×Int×Unit)×Unit))))))
 (some (Sum.inr ((0:Nat),((y1.1.1,(y1.1.2.1,())),())):(((Bool×Int×Unit)×Unit))⊕((Nat×(Bool×Int×Unit)×Unit))))
def mh(x:(List cK)×Unit):Option (Bool×Unit) :=
 ah (Loop (kE x) ((false,((0:Int),())),())) (fun(y1:Nat×(Bool×Int×Unit)×Unit)=>aO (uQ y1.1 (0:Nat))
 (some (yI (@len cK x.1) (40:Int),()))
 (some (y1.2.1.1,())))
def iU(x:Sb×Int×Unit):Option (Sb×Unit) :=
 ah (kC (x.1,())) (fun(y1:Int×Unit)=>aO (nt (b9 y1.1 (0:Int)))
 (some (([]:List (UInt8)),()))
 (aO (inside (7:Int) (31:Int) (@len UInt8 x.1))
 (aO (fits (plus (@len UInt8 (@sub UInt8 x.1 (7:Int) (minus (31:Int) (7:Int)))) (@len UInt8 ([(46:UInt8)]:List (UInt8)))))
 (ah (qH (x.2.1,())) (fun(y2:Sb×Unit)=>aO (fits (plus (@len UInt8 (@app UInt8 (@sub UInt8 x.1 (7:Int) (minus (31:Int) (7:Int))) ([(46:UInt8)]:List (UInt8)))) (@len UInt8 y2.1)))
 (some (@app UInt8 (@app UInt8 (@sub UInt8 x.1 (7:Int) (minus (31:Int) (7:Int))) ([(46:UInt8)]:List (UInt8))) y2.1,()))
 none))
 none)
 none))
def mj(x:Sb×Int×Unit):Option (Sb×Unit) :=
 ah (iU (x.1,(x.2.1,()))) (fun(y1:Sb×Unit)=>ah (aO (nt (ig y1.1 ([]:List (UInt8))))
 (aO (fits (plus (@len UInt8 ([(98:UInt8),(108:UInt8),(111:UInt8),(98:UInt8),(47:UInt8)]:List (UInt8))) (@len UInt8 y1.1)))
 (some ((@app UInt8 ([(98:UInt8),(108:UInt8),(111:UInt8),(98:UInt8),(47:UInt8)]:List (UInt8)) y1.1,()),()))
 none)
 (some ((y1.1,()),()))) (fun(y2:(Sb×Unit)×Unit)=>some (y2.1.1,())))
def dH(x:(cK×Unit)×gv×Unit):Option (lQ×gv×Unit) :=
 ah (mj (x.1.1.2.2.2.1,(x.1.1.2.2.2.2.2.1,()))) (fun(y1:Sb×Unit)=>ah (fW ((y1.1,()),((x.2.1.1,(x.2.1.2.1,(x.2.1.2.2.1,(x.2.1.2.2.2.1,(x.2.1.2.2.2.2.1,(x.2.1.2.2.2.2.2.1,())))))),()))) (fun(y2:lQ×gv×Unit)=>ah (aO (nt (b9 y2.1.2.1 (3:Int)))
 (ah (aO (b9 y2.1.2.1 (0:Int))
 (ah (aO (nt (nt (b9 (@len UInt8 y2.1.1) x.1.1.2.2.2.2.1)))
 (ah (jT (x.1.1.2.2.2.1,(y2.1.1,()))) (fun(y3:Bool×Unit)=>some (nt y3.1)))
 (some true)) (fun(y3:Bool)=>some y3))
 (some false)) (fun(y3:Bool)=>some y3))
 (some true)) (fun(y3:Bool)=>aO y3
 (some ((([]:List (UInt8)),((15:Int),())),((y2.2.1.1,(y2.2.1.2.1,(y2.2.1.2.2.1,(y2.2.1.2.2.2.1,(y2.2.1.2.2.2.2.1,(y2.2.1.2.2.2.2.2.1,())))))),())))
 (aO (nt (b9 y2.1.2.1 (0:Int)))
 (some ((([]:List (UInt8)),(y2.1.2.1,())),((y2.2.1.1,(y2.2.1.2.1,(y2.2.1.2.2.1,(y2.2.1.2.2.2.1,(y2.2.1.2.2.2.2.1,(y2.2.1.2.2.2.2.2.1,())))))),())))
 (some ((y2.1.1,((0:Int),())),((y2.2.1.1,(y2.2.1.2.1,(y2.2.1.2.2.1,(y2.2.1.2.2.2.1,(y2.2.1.2.2.2.2.1,(y2.2.1.2.2.2.2.2.1,())))))),())))))))
def cz(x:Unit×(((List UInt8)×((Unit×((Unit×(Int×Unit))×((Unit×((Int×(Int×Unit))×Unit))×Unit)))×((List UInt8)×((Unit×(Unit×(Int×Unit)))×Unit))))×Unit)):Option (((List UInt8)×Unit)×(((List UInt8)×((Unit×((Unit×(Int×Unit))×((Unit×((Int×(Int×Unit))×Unit))×Unit)))×((List UInt8)×((Unit×(Unit×(Int×Unit)))×Unit))))×Unit)) :=
 aO (b9 x.2.1.2.1.2.1.2.1 (0:Int))
 (aO (b9 x.2.1.2.1.2.2.1.2.1.1 (0:Int)) (aO (b9 x.2.1.2.2.2.1.2.2.1 (0:Int))
 (ah (iP (x.2.1.1,())) fun y=>some ((y.1,()),((x.2.1.1,(((),(((),((1:Int),())),(((),(((0:Int),(x.2.1.2.1.2.2.1.2.1.2.1,())),())),()))),(y.1,(((),((),((1:Int),()))),())))),())))
 none) none)
 (some ((x.2.1.2.2.1,()),x.2))
def cW(x:((List cK)×Sb×Unit)×gv×Unit)(y4:cV×Sb×Unit):Option ((cV×Sb×Unit)⊕(Nat×cV×Sb×Unit)) :=
 aO (fE y4.1.2.1 (@len cK x.1.1))
 (ah (@idx cK x.1.1 y4.1.2.1) (fun(y5:Sb×Sb×(List Sb)×Sb×Int×Int×Bool×Unit)=>aO y5.2.2.2.2.2.2.1
 (aO (nt (ig y4.2.1 ([]:List (UInt8))))
 (ah (iU (y5.2.2.2.1,(y5.2.2.2.2.2.1,()))) (fun(y6:Sb×Unit)=>aO (ig y6.1 y4.2.1)
 (some (Sum.inr ((1:Nat),((y4.1.2.1,(y4.1.2.1,())),(y4.2.1,()))):((cV×Sb×Unit))⊕((Nat×cV×Sb×Unit))))
 (some (Sum.inl ((y4.1.1,(bA IntKind.i64 y4.1.2.1 (1:Int),())),(y4.2.1,())):((cV×Sb×Unit))⊕((Nat×cV×Sb×Unit))))))
 (some (Sum.inl ((y4.1.1,(bA IntKind.i64 y4.1.2.1 (1:Int),())),(y4.2.1,())):((cV×Sb×Unit))⊕((Nat×cV×Sb×Unit)))))
 (some (Sum.inl ((y4.1.1,(bA IntKind.i64 y4.1.2.1 (1:Int),())),(y4.2.1,())):((cV×Sb×Unit))⊕((Nat×cV×Sb×Unit))))))
 (some (Sum.inr ((0:Nat),((y4.1.1,(y4.1.2.1,())),(y4.2.1,()))):((cV×Sb×Unit))⊕((Nat×cV×Sb×Unit))))
def bV(x:((List cK)×Sb×Unit)×gv×Unit)(y1:nh×xg×kD×iz×Unit):Option (nj⊕ni) :=
 aO (fE y1.1.2.2.2.1 (33:Int))
 (ah (cz ((),((y1.2.1.1,(y1.2.1.2.1,(y1.2.1.2.2.1,(y1.2.1.2.2.2.1,())))),()))) (fun(y2:(Sb×Unit)×xg×Unit)=>ah (iU (y2.1.1,(y1.1.2.2.2.1,()))) (fun(y3:Sb×Unit)=>ah (Loop (cW x) (((0:Int),((0:Int),())),(y3.1,()))) (fun(y4:Nat×cV×Sb×Unit)=>aO (uQ y4.1 (0:Nat))
 (some (Sum.inr ((1:Nat),((y1.1.2.2.2.1,(false,((0:Int),(y1.1.2.2.2.1,())))),((y2.2.1.1,(y2.2.1.2.1,(y2.2.1.2.2.1,(y2.2.1.2.2.2.1,())))),((y1.2.2.1.1,((),(y1.2.2.1.2.2.1,(y1.2.2.1.2.2.2.1,(y1.2.2.1.2.2.2.2.1,(y1.2.2.1.2.2.2.2.2.1,y1.2.2.1.2.2.2.2.2.2)))))),(y1.2.2.2.1,()))))):(nj)⊕(ni)))
 (aO (fE y4.2.1.1 (0:Int))
 (some (Sum.inr ((1:Nat),((y1.1.2.2.2.1,(false,((0:Int),(y1.1.2.2.2.1,())))),((y2.2.1.1,(y2.2.1.2.1,(y2.2.1.2.2.1,(y2.2.1.2.2.2.1,())))),((y1.2.2.1.1,((),(y1.2.2.1.2.2.1,(y1.2.2.1.2.2.2.1,(y1.2.2.1.2.2.2.2.1,(y1.2.2.1.2.2.2.2.2.1,y1.2.2.1.2.2.2.2.2.2)))))),(y1.2.2.2.1,()))))):(nj)⊕(ni)))
 (ah (@idx cK x.1.1 y4.2.1.1) (fun(y5:Sb×Sb×(List Sb)×Sb×Int×Int×Bool×Unit)=>ah (cz ((),((y2.2.1.1,(y2.2.1.2.1,(y2.2.1.2.2.1,(y2.2.1.2.2.2.1,())))),()))) (fun(y6:(Sb×Unit)×xg×Unit)=>aO (nt (ig y5.2.2.2.1 y6.1.1))
 (some (Sum.inl ((y1.1.1,(y1.1.2.1,(y1.1.2.2.1,(bA IntKind.i64 y1.1.2.2.2.1 (1:Int),())))),((y6.2.1.1,(y6.2.1.2.1,(y6.2.1.2.2.1,(y6.2.1.2.2.2.1,())))),((y1.2.2.1.1,((),(y1.2.2.1.2.2.1,(y1.2.2.1.2.2.2.1,(y1.2.2.1.2.2.2.2.1,(y1.2.2.1.2.2.2.2.2.1,y1.2.2.1.2.2.2.2.2.2)))))),(y1.2.2.2.1,())))):(nj)⊕(ni)))
 (ah (@idx cK x.1.1 y4.2.1.1) (fun(y7:Sb×Sb×(List Sb)×Sb×Int×Int×Bool×Unit)=>aO (nt (b9 y7.2.2.2.2.1 (@len UInt8 x.1.2.1)))
 (some (Sum.inl ((y1.1.1,(y1.1.2.1,(y1.1.2.2.1,(bA IntKind.i64 y1.1.2.2.2.1 (1:Int),())))),((y6.2.1.1,(y6.2.1.2.1,(y6.2.1.2.2.1,(y6.2.1.2.2.2.1,())))),((y1.2.2.1.1,((),(y1.2.2.1.2.2.1,(y1.2.2.1.2.2.2.1,(y1.2.2.1.2.2.2.2.1,(y1.2.2.1.2.2.2.2.2.1,y1.2.2.1.2.2.2.2.2.2)))))),(y1.2.2.2.1,())))):(nj)⊕(ni)))
 (ah (@idx cK x.1.1 y4.2.1.1) (fun(y8:Sb×Sb×(List Sb)×Sb×Int×Int×Bool×Unit)=>ah (dH ((y8,()),((y1.2.2.1.1,(y1.2.2.2.1,(y1.2.2.1.2.2.1,(y1.2.2.1.2.2.2.1,(y1.2.2.1.2.2.2.2.1,(y1.2.2.1.2.2.2.2.2.1,())))))),()))) (fun(y9:lQ×gv×Unit)=>aO (nt (b9 y9.1.2.1 (0:Int)))
 (some (Sum.inr ((1:Nat),(((0:Int),(false,(y9.1.2.1,(y1.1.2.2.2.1,())))),((y6.2.1.1,(y6.2.1.2.1,(y6.2.1.2.2.1,(y6.2.1.2.2.2.1,())))),((y9.2.1.1,((),(y9.2.1.2.2.1,(y9.2.1.2.2.2.1,(y9.2.1.2.2.2.2.1,(y9.2.1.2.2.2.2.2.1,())))))),(y9.2.1.2.1,()))))):(nj)⊕(ni)))
 (aO (ig y9.1.1 x.1.2.1)
 (some (Sum.inr ((1:Nat),((y1.1.2.2.2.1,(true,((0:Int),(y1.1.2.2.2.1,())))),((y6.2.1.1,(y6.2.1.2.1,(y6.2.1.2.2.1,(y6.2.1.2.2.2.1,())))),((y9.2.1.1,((),(y9.2.1.2.2.1,(y9.2.1.2.2.2.1,(y9.2.1.2.2.2.2.1,(y9.2.1.2.2.2.2.2.1,())))))),(y9.2.1.2.1,()))))):(nj)⊕(ni)))
 (some (Sum.inl ((y1.1.1,(y1.1.2.1,(y1.1.2.2.1,(bA IntKind.i64 y1.1.2.2.2.1 (1:Int),())))),((y6.2.1.1,(y6.2.1.2.1,(y6.2.1.2.2.1,(y6.2.1.2.2.2.1,())))),((y9.2.1.1,((),(y9.2.1.2.2.1,(y9.2.1.2.2.2.1,(y9.2.1.2.2.2.2.1,(y9.2.1.2.2.2.2.2.1,())))))),(y9.2.1.2.1,())))):(nj)⊕(ni)))))))))))))))))
 (some (Sum.inr ((0:Nat),((y1.1.1,(y1.1.2.1,(y1.1.2.2.1,(y1.1.2.2.2.1,())))),((y1.2.1.1,(y1.2.1.2.1,(y1.2.1.2.2.1,(y1.2.1.2.2.2.1,y1.2.1.2.2.2.2)))),((y1.2.2.1.1,((),(y1.2.2.1.2.2.1,(y1.2.2.1.2.2.2.1,(y1.2.2.1.2.2.2.2.1,(y1.2.2.1.2.2.2.2.2.1,y1.2.2.1.2.2.2.2.2.2)))))),(y1.2.2.2.1,()))))):(nj)⊕(ni)))
def fY(x:((List cK)×Sb×Unit)×gv×Unit):Option ((Int×Bool×Int×Unit)×gv×Unit) :=
 ah (Loop (bV x) (((0:Int),(false,((0:Int),((0:Int),())))),((x.1.2.1,(((),(((),((0:Int),())),(((),(((0:Int),((0:Int),())),())),()))),(([]:List (UInt8)),(((),((),((0:Int),()))),())))),((x.2.1.1,((),(x.2.1.2.2.1,(x.2.1.2.2.2.1,(x.2.1.2.2.2.2.1,(x.2.1.2.2.2.2.2.1,())))))),(x.2.1.2.1,()))))) (fun(y1:Nat×nh×xg×kD×iz×Unit)=>aO (uQ y1.1 (0:Nat))
 (some (((0:Int),(false,((15:Int),()))),((y1.2.2.2.1.1,(y1.2.2.2.2.1,(y1.2.2.2.1.2.2.1,(y1.2.2.2.1.2.2.2.1,(y1.2.2.2.1.2.2.2.2.1,(y1.2.2.2.1.2.2.2.2.2.1,())))))),())))
 (some ((y1.2.1.1,(y1.2.1.2.1,(y1.2.1.2.2.1,()))),((y1.2.2.2.1.1,(y1.2.2.2.2.1,(y1.2.2.2.1.2.2.1,(y1.2.2.2.1.2.2.2.1,(y1.2.2.2.1.2.2.2.2.1,(y1.2.2.2.1.2.2.2.2.2.1,())))))),()))))
def jz(x:Unit):Option (Bool×Unit) :=
 some (true,())
def fZ(x:Sb×Int×Unit):Option (Sb×Unit) :=
 ah (lO (x.1,())) (fun(y1:Int×Unit)=>aO (nt (b9 y1.1 (0:Int)))
 (some (([]:List (UInt8)),()))
 (aO (inside (7:Int) (31:Int) (@len UInt8 x.1))
 (aO (fits (plus (@len UInt8 (@sub UInt8 x.1 (7:Int) (minus (31:Int) (7:Int)))) (@len UInt8 ([(46:UInt8)]:List (UInt8)))))
 (ah (oK (x.2.1,())) (fun(y2:Sb×Unit)=>aO (fits (plus (@len UInt8 (@app UInt8 (@sub UInt8 x.1 (7:Int) (minus (31:Int) (7:Int))) ([(46:UInt8)]:List (UInt8)))) (@len UInt8 y2.1)))
 (some (@app UInt8 (@app UInt8 (@sub UInt8 x.1 (7:Int) (minus (31:Int) (7:Int))) ([(46:UInt8)]:List (UInt8))) y2.1,()))
 none))
 none)
 none))
def nk(x:Sb×Int×Unit):Option (Sb×Unit) :=
 ah (fZ (x.1,(x.2.1,()))) (fun(y1:Sb×Unit)=>aO (ig y1.1 ([]:List (UInt8)))
 (some (([]:List (UInt8)),()))
 (aO (fits (plus (@len UInt8 ([(98:UInt8),(108:UInt8),(111:UInt8),(98:UInt8),(47:UInt8)]:List (UInt8))) (@len UInt8 y1.1)))
 (some (@app UInt8 ([(98:UInt8),(108:UInt8),(111:UInt8),(98:UInt8),(47:UInt8)]:List (UInt8)) y1.1,()))
 none))
def eA(x:(cK×Unit)×ir×Unit):Option (lQ×ir×Unit) :=
 ah (nk (x.1.1.2.2.2.1,(x.1.1.2.2.2.2.2.1,()))) (fun(y1:Sb×Unit)=>ah (fX ((y1.1,()),((x.2.1.1,(x.2.1.2.1,(x.2.1.2.2.1,(x.2.1.2.2.2.1,(x.2.1.2.2.2.2.1,(x.2.1.2.2.2.2.2.1,())))))),()))) (fun(y2:lQ×ir×Unit)=>aO (b9 y2.1.2.1 (3:Int))
 (some ((([]:List (UInt8)),((15:Int),())),((y2.2.1.1,(y2.2.1.2.1,(y2.2.1.2.2.1,(y2.2.1.2.2.2.1,(y2.2.1.2.2.2.2.1,(y2.2.1.2.2.2.2.2.1,())))))),())))
 (aO (nt (b9 y2.1.2.1 (0:Int)))
 (some ((([]:List (UInt8)),(y2.1.2.1,())),((y2.2.1.1,(y2.2.1.2.1,(y2.2.1.2.2.1,(y2.2.1.2.2.2.1,(y2.2.1.2.2.2.2.1,(y2.2.1.2.2.2.2.2.1,())))))),())))
 (aO (nt (b9 (@len UInt8 y2.1.1) x.1.1.2.2.2.2.1))
 (some ((([]:List (UInt8)),((15:Int),())),((y2.2.1.1,(y2.2.1.2.1,(y2.2.1.2.2.1,(y2.2.1.2.2.2.1,(y2.2.1.2.2.2.2.1,(y2.2.1.2.2.2.2.2.1,())))))),())))
 (ah (lq (y2.1.1,())) (fun(y3:Sb×Unit)=>aO (nt (ig y3.1 x.1.1.2.2.2.1))
 (some ((([]:List (UInt8)),((15:Int),())),((y2.2.1.1,(y2.2.1.2.1,(y2.2.1.2.2.1,(y2.2.1.2.2.2.1,(y2.2.1.2.2.2.2.1,(y2.2.1.2.2.2.2.2.1,())))))),())))
 (some ((y2.1.1,((0:Int),())),((y2.2.1.1,(y2.2.1.2.1,(y2.2.1.2.2.1,(y2.2.1.2.2.2.1,(y2.2.1.2.2.2.2.1,(y2.2.1.2.2.2.2.2.1,())))))),())))))))))
def ec(x:((List cK)×Sb×Unit)×ir×Unit)(y1:Sb×Unit)(y2:nh×jI×(List bP)×(List bT)×Unit)(y3:cV×Unit):Option ((cV×Unit)⊕(cV×Unit)) :=
 @kQ (cV×Unit) (aO (yI (0:Int) y3.1.2.1)
 (ah (@idx cK x.1.1 y3.1.2.1) (fun(y4:Sb×Sb×(List Sb)×Sb×Int×Int×Bool×Unit)=>aO y4.2.2.2.2.2.2.1
 (ah (@idx cK x.1.1 y3.1.2.1) (fun(y5:Sb×Sb×(List Sb)×Sb×Int×Int×Bool×Unit)=>ah (@idx cK x.1.1 y3.1.2.1) (fun(y6:Sb×Sb×(List Sb)×Sb×Int×Int×Bool×Unit)=>ah (fZ (y5.2.2.2.1,(y6.2.2.2.2.2.1,()))) (fun(y7:Sb×Unit)=>ah (fZ (y1.1,(y2.1.2.2.2.1,()))) (fun(y8:Sb×Unit)=>some (Sum.inl ((((aO (ig y7.1 y8.1)
 ((y3.1.2.1,()),())
 ((y3.1.1,()),())).1).1,(dn IntKind.i64 y3.1.2.1 (1:Int),())),()):((cV×Unit))⊕((Nat×cV×Unit))))))))
 (some (Sum.inl (((((y3.1.1,()),()).1).1,(dn IntKind.i64 y3.1.2.1 (1:Int),())),()):((cV×Unit))⊕((Nat×cV×Unit))))))
 (some (Sum.inr ((0:Nat),((y3.1.1,(y3.1.2.1,())),())):((cV×Unit))⊕((Nat×cV×Unit)))))
def cF(x:((List cK)×Sb×Unit)×ir×Unit)(y1:Sb×Unit)(y2:nh×jI×(List bP)×(List bT)×Unit):Option (qJ⊕qI) :=
 aO (yI y2.1.2.2.2.1 (32:Int))
 (ah (Loop (ec x y1 y2) (((-1:Int),(dn IntKind.i64 (@len cK x.1.1) (1:Int),())),())) (fun(y3:cV×Unit)=>aO (fE y3.1.1 (0:Int))
 (some (Sum.inr ((1:Nat),((y2.1.2.2.2.1,(false,((0:Int),(y2.1.2.2.2.1,())))),(((),((),(y2.2.1.2.2.1,(y2.2.1.2.2.2.1,(y2.2.1.2.2.2.2.1,(y2.2.1.2.2.2.2.2.1,y2.2.1.2.2.2.2.2.2)))))),(y2.2.2.1,(y2.2.2.2.1,()))))):(qJ)⊕(qI)))
 (ah (@idx cK x.1.1 y3.1.1) (fun(y4:Sb×Sb×(List Sb)×Sb×Int×Int×Bool×Unit)=>ah (aO (nt (nt (ig y4.2.2.2.1 y1.1)))
 (ah (@idx cK x.1.1 y3.1.1) (fun(y5:Sb×Sb×(List Sb)×Sb×Int×Int×Bool×Unit)=>some (nt (b9 y5.2.2.2.2.1 (@len UInt8 x.1.2.1)))))
 (some true)) (fun(y5:Bool)=>aO y5
 (some (Sum.inl ((y2.1.1,(y2.1.2.1,(y2.1.2.2.1,(bA IntKind.i64 y2.1.2.2.2.1 (1:Int),())))),(((),((),(y2.2.1.2.2.1,(y2.2.1.2.2.2.1,(y2.2.1.2.2.2.2.1,(y2.2.1.2.2.2.2.2.1,y2.2.1.2.2.2.2.2.2)))))),(y2.2.2.1,(y2.2.2.2.1,())))):(qJ)⊕(qI)))
 (ah (@idx cK x.1.1 y3.1.1) (fun(y6:Sb×Sb×(List Sb)×Sb×Int×Int×Bool×Unit)=>ah (eA ((y6,()),((y2.2.2.1,(y2.2.2.2.1,(y2.2.1.2.2.1,(y2.2.1.2.2.2.1,(y2.2.1.2.2.2.2.1,(y2.2.1.2.2.2.2.2.1,())))))),()))) (fun(y7:lQ×ir×Unit)=>aO (nt (b9 y7.1.2.1 (0:Int)))
 (some (Sum.inr ((1:Nat),(((0:Int),(false,(y7.1.2.1,(y2.1.2.2.2.1,())))),(((),((),(y7.2.1.2.2.1,(y7.2.1.2.2.2.1,(y7.2.1.2.2.2.2.1,(y7.2.1.2.2.2.2.2.1,())))))),(y7.2.1.1,(y7.2.1.2.1,()))))):(qJ)⊕(qI)))
 (aO (ig y7.1.1 x.1.2.1)
 (some (Sum.inr ((1:Nat),((y2.1.2.2.2.1,(true,((0:Int),(y2.1.2.2.2.1,())))),(((),((),(y7.2.1.2.2.1,(y7.2.1.2.2.2.1,(y7.2.1.2.2.2.2.1,(y7.2.1.2.2.2.2.2.1,())))))),(y7.2.1.1,(y7.2.1.2.1,()))))):(qJ)⊕(qI)))
 (some (Sum.inl ((y2.1.1,(y2.1.2.1,(y2.1.2.2.1,(bA IntKind.i64 y2.1.2.2.2.1 (1:Int),())))),(((),((),(y7.2.1.2.2.1,(y7.2.1.2.2.2.1,(y7.2.1.2.2.2.2.1,(y7.2.1.2.2.2.2.2.1,())))))),(y7.2.1.1,(y7.2.1.2.1,())))):(qJ)⊕(qI))))))))))))
 (some (Sum.inr ((0:Nat),((y2.1.1,(y2.1.2.1,(y2.1.2.2.1,(y2.1.2.2.2.1,())))),(((),((),(y2.2.1.2.2.1,(y2.2.1.2.2.2.1,(y2.2.1.2.2.2.2.1,(y2.2.1.2.2.2.2.2.1,y2.2.1.2.2.2.2.2.2)))))),(y2.2.2.1,(y2.2.2.2.1,()))))):(qJ)⊕(qI)))
def jA(x:((List cK)×Sb×Unit)×ir×Unit):Option ((Int×Bool×Int×Unit)×ir×Unit) :=
 ah (lq (x.1.2.1,())) (fun(y1:Sb×Unit)=>ah (Loop (cF x y1) (((0:Int),(false,((0:Int),((0:Int),())))),(((),((),(x.2.1.2.2.1,(x.2.1.2.2.2.1,(x.2.1.2.2.2.2.1,(x.2.1.2.2.2.2.2.1,())))))),(x.2.1.1,(x.2.1.2.1,()))))) (fun(y2:Nat×nh×jI×(List bP)×(List bT)×Unit)=>aO (uQ y2.1 (0:Nat))
 (some (((0:Int),(false,((15:Int),()))),((y2.2.2.2.1,(y2.2.2.2.2.1,(y2.2.2.1.2.2.1,(y2.2.2.1.2.2.2.1,(y2.2.2.1.2.2.2.2.1,(y2.2.2.1.2.2.2.2.2.1,())))))),())))
 (some ((y2.2.1.1,(y2.2.1.2.1,(y2.2.1.2.2.1,()))),((y2.2.2.2.1,(y2.2.2.2.2.1,(y2.2.2.1.2.2.1,(y2.2.2.1.2.2.2.1,(y2.2.2.1.2.2.2.2.1,(y2.2.2.1.2.2.2.2.2.1,())))))),())))))
def dO(x:(List cK)×Sb×(List bT)×Unit)(y3:(Bool×Int×Unit)×jI×(List bP)×(List bT)×kD×iz×jI×(List bP)×(List bT)×kD×iz×Unit):Option (n9⊕n8) :=
 aO (yI y3.1.2.1 (@len bT x.2.2.1))
 (ah (dF ((),((y3.2.2.2.2.2.2.2.2.2.1.1,(y3.2.2.2.2.2.2.2.2.2.2.1,(y3.2.2.2.2.2.2.2.2.2.1.2.2.1,(y3.2.2.2.2.2.2.2.2.2.1.2.2.2.1,(y3.2.2.2.2.2.2.2.2.2.1.2.2.2.2.1,(y3.2.2.2.2.2.2.2.2.2.1.2.2.2.2.2.1,())))))),()))) (fun(y4:Unit×gv×Unit)=>ah (eJ ((),((y3.2.2.2.2.2.2.2.1,(y3.2.2.2.2.2.2.2.2.1,(y3.2.2.2.2.2.2.1.2.2.1,(y3.2.2.2.2.2.2.1.2.2.2.1,(y3.2.2.2.2.2.2.1.2.2.2.2.1,(y3.2.2.2.2.2.2.1.2.2.2.2.2.1,())))))),()))) (fun(y5:Unit×ir×Unit)=>ah (fY ((x.1,(x.2.1,())),((y4.2.1.1,(y4.2.1.2.1,(y4.2.1.2.2.1,(y4.2.1.2.2.2.1,(y4.2.1.2.2.2.2.1,(y4.2.1.2.2.2.2.2.1,())))))),()))) (fun(y6:(Int×Bool×Int×Unit)×gv×Unit)=>ah (jA ((x.1,(x.2.1,())),((y5.2.1.1,(y5.2.1.2.1,(y5.2.1.2.2.1,(y5.2.1.2.2.2.1,(y5.2.1.2.2.2.2.1,(y5.2.1.2.2.2.2.2.1,())))))),()))) (fun(y7:(Int×Bool×Int×Unit)×ir×Unit)=>ah (dY ((),((y6.2.1.1,(y6.2.1.2.1,(y6.2.1.2.2.1,(y6.2.1.2.2.2.1,(y6.2.1.2.2.2.2.1,(y6.2.1.2.2.2.2.2.1,())))))),()))) (fun(y8:(bP×Bool×Unit)×gv×Unit)=>aO (nt (b9 y6.1.1 y7.1.1))
 (some (Sum.inr ((1:Nat),((false,(y3.1.2.1,())),(((),((),(y3.2.1.2.2.1,(y3.2.1.2.2.2.1,(y3.2.1.2.2.2.2.1,(y3.2.1.2.2.2.2.2.1,y3.2.1.2.2.2.2.2.2)))))),(y3.2.2.1,(y3.2.2.2.1,((y3.2.2.2.2.1.1,((),(y3.2.2.2.2.1.2.2.1,(y3.2.2.2.2.1.2.2.2.1,(y3.2.2.2.2.1.2.2.2.2.1,(y3.2.2.2.2.1.2.2.2.2.2.1,y3.2.2.2.2.1.2.2.2.2.2.2)))))),(y3.2.2.2.2.2.1,(((),((),(y7.2.1.2.2.1,(y7.2.1.2.2.2.1,(y7.2.1.2.2.2.2.1,(y7.2.1.2.2.2.2.2.1,())))))),(y7.2.1.1,(y7.2.1.2.1,((y8.2.1.1,((),(y8.2.1.2.2.1,(y8.2.1.2.2.2.1,(y8.2.1.2.2.2.2.1,(y8.2.1.2.2.2.2.2.1,())))))),(y8.2.1.2.1,())))))))))))):(n9)⊕(n8)))
 (aO (nt (F2 y6.1.2.1 y7.1.2.1))
 (some (Sum.inr ((1:Nat),((false,(y3.1.2.1,())),(((),((),(y3.2.1.2.2.1,(y3.2.1.2.2.2.1,(y3.2.1.2.2.2.2.1,(y3.2.1.2.2.2.2.2.1,y3.2.1.2.2.2.2.2.2)))))),(y3.2.2.1,(y3.2.2.2.1,((y3.2.2.2.2.1.1,((),(y3.2.2.2.2.1.2.2.1,(y3.2.2.2.2.1.2.2.2.1,(y3.2.2.2.2.1.2.2.2.2.1,(y3.2.2.2.2.1.2.2.2.2.2.1,y3.2.2.2.2.1.2.2.2.2.2.2)))))),(y3.2.2.2.2.2.1,(((),((),(y7.2.1.2.2.1,(y7.2.1.2.2.2.1,(y7.2.1.2.2.2.2.1,(y7.2.1.2.2.2.2.2.1,())))))),(y7.2.1.1,(y7.2.1.2.1,((y8.2.1.1,((),(y8.2.1.2.2.1,(y8.2.1.2.2.2.1,(y8.2.1.2.2.2.2.1,(y8.2.1.2.2.2.2.2.1,())))))),(y8.2.1.2.1,())))))))))))):(n9)⊕(n8)))
 (aO (nt (b9 y6.1.2.2.1 y7.1.2.2.1))
 (some (Sum.inr ((1:Nat),((false,(y3.1.2.1,())),(((),((),(y3.2.1.2.2.1,(y3.2.1.2.2.2.1,(y3.2.1.2.2.2.2.1,(y3.2.1.2.2.2.2.2.1,y3.2.1.2.2.2.2.2.2)))))),(y3.2.2.1,(y3.2.2.2.1,((y3.2.2.2.2.1.1,((),(y3.2.2.2.2.1.2.2.1,(y3.2.2.2.2.1.2.2.2.1,(y3.2.2.2.2.1.2.2.2.2.1,(y3.2.2.2.2.1.2.2.2.2.2.1,y3.2.2.2.2.1.2.2.2.2.2.2)))))),(y3.2.2.2.2.2.1,(((),((),(y7.2.1.2.2.1,(y7.2.1.2.2.2.1,(y7.2.1.2.2.2.2.1,(y7.2.1.2.2.2.2.2.1,())))))),(y7.2.1.1,(y7.2.1.2.1,((y8.2.1.1,((),(y8.2.1.2.2.1,(y8.2.1.2.2.2.1,(y8.2.1.2.2.2.2.1,(y8.2.1.2.2.2.2.2.1,())))))),(y8.2.1.2.1,())))))))))))):(n9)⊕(n8)))
 (aO (nt (F2 y8.1.2.1 y7.2.1.2.2.2.2.1))
 (some (Sum.inr ((1:Nat),((false,(y3.1.2.1,())),(((),((),(y3.2.1.2.2.1,(y3.2.1.2.2.2.1,(y3.2.1.2.2.2.2.1,(y3.2.1.2.2.2.2.2.1,y3.2.1.2.2.2.2.2.2)))))),(y3.2.2.1,(y3.2.2.2.1,((y3.2.2.2.2.1.1,((),(y3.2.2.2.2.1.2.2.1,(y3.2.2.2.2.1.2.2.2.1,(y3.2.2.2.2.1.2.2.2.2.1,(y3.2.2.2.2.1.2.2.2.2.2.1,y3.2.2.2.2.1.2.2.2.2.2.2)))))),(y3.2.2.2.2.2.1,(((),((),(y7.2.1.2.2.1,(y7.2.1.2.2.2.1,(y7.2.1.2.2.2.2.1,(y7.2.1.2.2.2.2.2.1,())))))),(y7.2.1.1,(y7.2.1.2.1,((y8.2.1.1,((),(y8.2.1.2.2.1,(y8.2.1.2.2.2.1,(y8.2.1.2.2.2.2.1,(y8.2.1.2.2.2.2.2.1,())))))),(y8.2.1.2.1,())))))))))))):(n9)⊕(n8)))
 (aO y8.1.2.1
 (aO (nt (an (b9 y8.1.1.1 y7.2.1.2.2.2.1.1) (an (ig y8.1.1.2.1 y7.2.1.2.2.2.1.2.1) (an (ig y8.1.1.2.2.1 y7.2.1.2.2.2.1.2.2.1) (an (b9 y8.1.1.2.2.2.1 y7.2.1.2.2.2.1.2.2.2.1) (an (b9 y8.1.1.2.2.2.2.1 y7.2.1.2.2.2.1.2.2.2.2.1) (an (b9 y8.1.1.2.2.2.2.2.1 y7.2.1.2.2.2.1.2.2.2.2.2.1) (an (ig y8.1.1.2.2.2.2.2.2.1 y7.2.1.2.2.2.1.2.2.2.2.2.2.1) (an (b9 y8.1.1.2.2.2.2.2.2.2.1 y7.2.1.2.2.2.1.2.2.2.2.2.2.2.1) (an (b9 y8.1.1.2.2.2.2.2.2.2.2.1 y7.2.1.2.2.2.1.2.2.2.2.2.2.2.2.1) true))))))))))
 (some (Sum.inr ((1:Nat),((false,(y3.1.2.1,())),(((),((),(y3.2.1.2.2.1,(y3.2.1.2.2.2.1,(y3.2.1.2.2.2.2.1,(y3.2.1.2.2.2.2.2.1,y3.2.1.2.2.2.2.2.2)))))),(y3.2.2.1,(y3.2.2.2.1,((y3.2.2.2.2.1.1,((),(y3.2.2.2.2.1.2.2.1,(y3.2.2.2.2.1.2.2.2.1,(y3.2.2.2.2.1.2.2.2.2.1,(y3.2.2.2.2.1.2.2.2.2.2.1,y3.2.2.2.2.1.2.2.2.2.2.2)))))),(y3.2.2.2.2.2.1,(((),((),(y7.2.1.2.2.1,(y7.2.1.2.2.2.1,(y7.2.1.2.2.2.2.1,(y7.2.1.2.2.2.2.2.1,())))))),(y7.2.1.1,(y7.2.1.2.1,((y8.2.1.1,((),(y8.2.1.2.2.1,(y8.2.1.2.2.2.1,(y8.2.1.2.2.2.2.1,(y8.2.1.2.2.2.2.2.1,())))))),(y8.2.1.2.1,())))))))))))):(n9)⊕(n8)))
 (ah (aO (fE (0:Int) (@len cK x.1))
 (ah (dF ((),((y3.2.2.2.2.1.1,(y3.2.2.2.2.2.1,(y3.2.2.2.2.1.2.2.1,(y3.2.2.2.2.1.2.2.2.1,(y3.2.2.2.2.1.2.2.2.2.1,(y3.2.2.2.2.1.2.2.2.2.2.1,())))))),()))) (fun(y9:Unit×gv×Unit)=>ah (eJ ((),((y3.2.2.1,(y3.2.2.2.1,(y3.2.1.2.2.1,(y3.2.1.2.2.2.1,(y3.2.1.2.2.2.2.1,(y3.2.1.2.2.2.2.2.1,())))))),()))) (fun(gx:Unit×ir×Unit)=>ah (@idx cK x.1 (0:Int)) (fun(yX:Sb×Sb×(List Sb)×Sb×Int×Int×Bool×Unit)=>ah (dH ((yX,()),((y9.2.1.1,(y9.2.1.2.1,(y9.2.1.2.2.1,(y9.2.1.2.2.2.1,(y9.2.1.2.2.2.2.1,(y9.2.1.2.2.2.2.2.1,())))))),()))) (fun(wo:lQ×gv×Unit)=>ah (@idx cK x.1 (0:Int)) (fun(gS:Sb×Sb×(List Sb)×Sb×Int×Int×Bool×Unit)=>ah (eA ((gS,()),((gx.2.1.1,(gx.2.1.2.1,(gx.2.1.2.2.1,(gx.2.1.2.2.2.1,(gx.2.1.2.2.2.2.1,(gx.2.1.2.2.2.2.2.1,())))))),()))) (fun(cS:lQ×ir×Unit)=>ah (dY ((),((wo.2.1.1,(wo.2.1.2.1,(wo.2.1.2.2.1,(wo.2.1.2.2.2.1,(wo.2.1.2.2.2.2.1,(wo.2.1.2.2.2.2.2.1,())))))),()))) (fun(dS:(bP×Bool×Unit)×gv×Unit)=>aO (nt (ig wo.1.1 cS.1.1))
 (some ((1:Nat),((false,()),(((),((),(cS.2.1.2.2.1,(cS.2.1.2.2.2.1,(cS.2.1.2.2.2.2.1,(cS.2.1.2.2.2.2.2.1,())))))),(cS.2.1.1,(cS.2.1.2.1,((dS.2.1.1,((),(dS.2.1.2.2.1,(dS.2.1.2.2.2.1,(dS.2.1.2.2.2.2.1,(dS.2.1.2.2.2.2.2.1,())))))),(dS.2.1.2.1,()))))))))
 (aO (nt (b9 wo.1.2.1 cS.1.2.1))
 (some ((1:Nat),((false,()),(((),((),(cS.2.1.2.2.1,(cS.2.1.2.2.2.1,(cS.2.1.2.2.2.2.1,(cS.2.1.2.2.2.2.2.1,())))))),(cS.2.1.1,(cS.2.1.2.1,((dS.2.1.1,((),(dS.2.1.2.2.1,(dS.2.1.2.2.2.1,(dS.2.1.2.2.2.2.1,(dS.2.1.2.2.2.2.2.1,())))))),(dS.2.1.2.1,()))))))))
 (aO (nt (F2 dS.1.2.1 cS.2.1.2.2.2.2.1))
 (some ((1:Nat),((false,()),(((),((),(cS.2.1.2.2.1,(cS.2.1.2.2.2.1,(cS.2.1.2.2.2.2.1,(cS.2.1.2.2.2.2.2.1,())))))),(cS.2.1.1,(cS.2.1.2.1,((dS.2.1.1,((),(dS.2.1.2.2.1,(dS.2.1.2.2.2.1,(dS.2.1.2.2.2.2.1,(dS.2.1.2.2.2.2.2.1,())))))),(dS.2.1.2.1,()))))))))
 (aO dS.1.2.1
 (aO (nt (an (b9 dS.1.1.1 cS.2.1.2.2.2.1.1) (an (ig dS.1.1.2.1 cS.2.1.2.2.2.1.2.1) (an (ig dS.1.1.2.2.1 cS.2.1.2.2.2.1.2.2.1) (an (b9 dS.1.1.2.2.2.1 cS.2.1.2.2.2.1.2.2.2.1) (an (b9 dS.1.1.2.2.2.2.1 cS.2.1.2.2.2.1.2.2.2.2.1) (an (b9 dS.1.1.2.2.2.2.2.1 cS.2.1.2.2.2.1.2.2.2.2.2.1) (an (ig dS.1.1.2.2.2.2.2.2.1 cS.2.1.2.2.2.1.2.2.2.2.2.2.1) (an (b9 dS.1.1.2.2.2.2.2.2.2.1 cS.2.1.2.2.2.1.2.2.2.2.2.2.2.1) (an (b9 dS.1.1.2.2.2.2.2.2.2.2.1 cS.2.1.2.2.2.1.2.2.2.2.2.2.2.2.1) true))))))))))
 (some ((1:Nat),((false,()),(((),((),(cS.2.1.2.2.1,(cS.2.1.2.2.2.1,(cS.2.1.2.2.2.2.1,(cS.2.1.2.2.2.2.2.1,())))))),(cS.2.1.1,(cS.2.1.2.1,((dS.2.1.1,((),(dS.2.1.2.2.1,(dS.2.1.2.2.2.1,(dS.2.1.2.2.2.2.1,(dS.2.1.2.2.2.2.2.1,())))))),(dS.2.1.2.1,()))))))))
 (some ((0:Nat),((y3.1.1,()),(((),((),(cS.2.1.2.2.1,(cS.2.1.2.2.2.1,(cS.2.1.2.2.2.2.1,(cS.2.1.2.2.2.2.2.1,())))))),(cS.2.1.1,(cS.2.1.2.1,((dS.2.1.1,((),(dS.2.1.2.2.1,(dS.2.1.2.2.2.1,(dS.2.1.2.2.2.2.1,(dS.2.1.2.2.2.2.2.1,())))))),(dS.2.1.2.1,())))))))))
 (some ((0:Nat),((y3.1.1,()),(((),((),(cS.2.1.2.2.1,(cS.2.1.2.2.2.1,(cS.2.1.2.2.2.2.1,(cS.2.1.2.2.2.2.2.1,())))))),(cS.2.1.1,(cS.2.1.2.1,((dS.2.1.1,((),(dS.2.1.2.2.1,(dS.2.1.2.2.2.1,(dS.2.1.2.2.2.2.1,(dS.2.1.2.2.2.2.2.1,())))))),(dS.2.1.2.1,())))))))))))))))))))
 (some ((0:Nat),((y3.1.1,()),(((),((),(y3.2.1.2.2.1,(y3.2.1.2.2.2.1,(y3.2.1.2.2.2.2.1,(y3.2.1.2.2.2.2.2.1,y3.2.1.2.2.2.2.2.2)))))),(y3.2.2.1,(y3.2.2.2.1,((y3.2.2.2.2.1.1,((),(y3.2.2.2.2.1.2.2.1,(y3.2.2.2.2.1.2.2.2.1,(y3.2.2.2.2.1.2.2.2.2.1,(y3.2.2.2.2.1.2.2.2.2.2.1,y3.2.2.2.2.1.2.2.2.2.2.2)))))),(y3.2.2.2.2.2.1,()))))))))) (fun(y9:Nat×(Bool×Unit)×jI×(List bP)×(List bT)×kD×iz×Unit)=>aO (uQ y9.1 (0:Nat))
 (ah (aO (fE y3.1.2.1 (@len bT x.2.2.1))
 (ah (@idx bT x.2.2.1 y3.1.2.1) (fun(gx:Int×Int×Sb×(List Sb)×Unit)=>ah (bW ((gx,()),((y8.2.1.1,(y8.2.1.2.1,(y8.2.1.2.2.1,(y8.2.1.2.2.2.1,(y8.2.1.2.2.2.2.1,(y8.2.1.2.2.2.2.2.1,())))))),()))) (fun(yX:(Int×Unit)×gv×Unit)=>ah (@idx bT x.2.2.1 y3.1.2.1) (fun(wo:Int×Int×Sb×(List Sb)×Unit)=>ah (bX ((wo,()),((y7.2.1.1,(y7.2.1.2.1,(y7.2.1.2.2.1,(y7.2.1.2.2.2.1,(y7.2.1.2.2.2.2.1,(y7.2.1.2.2.2.2.2.1,())))))),()))) (fun(gS:(Int×Unit)×ir×Unit)=>ah (@idx bT x.2.2.1 y3.1.2.1) (fun(cS:Int×Int×Sb×(List Sb)×Unit)=>ah (bW ((cS,()),((y9.2.2.2.2.2.1.1,(y9.2.2.2.2.2.2.1,(y9.2.2.2.2.2.1.2.2.1,(y9.2.2.2.2.2.1.2.2.2.1,(y9.2.2.2.2.2.1.2.2.2.2.1,(y9.2.2.2.2.2.1.2.2.2.2.2.1,())))))),()))) (fun(dS:(Int×Unit)×gv×Unit)=>ah (@idx bT x.2.2.1 y3.1.2.1) (fun(M3:Int×Int×Sb×(List Sb)×Unit)=>ah (bX ((M3,()),((y9.2.2.2.1,(y9.2.2.2.2.1,(y9.2.2.1.2.2.1,(y9.2.2.1.2.2.2.1,(y9.2.2.1.2.2.2.2.1,(y9.2.2.1.2.2.2.2.2.1,())))))),()))) (fun(DI:(Int×Unit)×ir×Unit)=>some ((),(((),((),(DI.2.1.2.2.1,(DI.2.1.2.2.2.1,(DI.2.1.2.2.2.2.1,(DI.2.1.2.2.2.2.2.1,())))))),(DI.2.1.1,(DI.2.1.2.1,((dS.2.1.1,((),(dS.2.1.2.2.1,(dS.2.1.2.2.2.1,(dS.2.1.2.2.2.2.1,(dS.2.1.2.2.2.2.2.1,())))))),(dS.2.1.2.1,(((),((),(gS.2.1.2.2.1,(gS.2.1.2.2.2.1,(gS.2.1.2.2.2.2.1,(gS.2.1.2.2.2.2.2.1,())))))),(gS.2.1.1,(gS.2.1.2.1,((yX.2.1.1,((),(yX.2.1.2.2.1,(yX.2.1.2.2.2.1,(yX.2.1.2.2.2.2.1,(yX.2.1.2.2.2.2.2.1,())))))),(yX.2.1.2.1,()))))))))))))))))))))
 (some ((),(((),((),(y9.2.2.1.2.2.1,(y9.2.2.1.2.2.2.1,(y9.2.2.1.2.2.2.2.1,(y9.2.2.1.2.2.2.2.2.1,y9.2.2.1.2.2.2.2.2.2)))))),(y9.2.2.2.1,(y9.2.2.2.2.1,((y9.2.2.2.2.2.1.1,((),(y9.2.2.2.2.2.1.2.2.1,(y9.2.2.2.2.2.1.2.2.2.1,(y9.2.2.2.2.2.1.2.2.2.2.1,(y9.2.2.2.2.2.1.2.2.2.2.2.1,y9.2.2.2.2.2.1.2.2.2.2.2.2)))))),(y9.2.2.2.2.2.2.1,(((),((),(y7.2.1.2.2.1,(y7.2.1.2.2.2.1,(y7.2.1.2.2.2.2.1,(y7.2.1.2.2.2.2.2.1,())))))),(y7.2.1.1,(y7.2.1.2.1,((y8.2.1.1,((),(y8.2.1.2.2.1,(y8.2.1.2.2.2.1,(y8.2.1.2.2.2.2.1,(y8.2.1.2.2.2.2.2.1,())))))),(y8.2.1.2.1,()))))))))))))) (fun(gx:Unit×jI×(List bP)×(List bT)×kD×iz×jI×(List bP)×(List bT)×kD×iz×Unit)=>some (Sum.inl ((y9.2.1.1,(bA IntKind.i64 y3.1.2.1 (1:Int),())),(((),((),(gx.2.1.2.2.1,(gx.2.1.2.2.2.1,(gx.2.1.2.2.2.2.1,(gx.2.1.2.2.2.2.2.1,gx.2.1.2.2.2.2.2.2)))))),(gx.2.2.1,(gx.2.2.2.1,((gx.2.2.2.2.1.1,((),(gx.2.2.2.2.1.2.2.1,(gx.2.2.2.2.1.2.2.2.1,(gx.2.2.2.2.1.2.2.2.2.1,(gx.2.2.2.2.1.2.2.2.2.2.1,gx.2.2.2.2.1.2.2.2.2.2.2)))))),(gx.2.2.2.2.2.1,(((),((),(gx.2.2.2.2.2.2.1.2.2.1,(gx.2.2.2.2.2.2.1.2.2.2.1,(gx.2.2.2.2.2.2.1.2.2.2.2.1,(gx.2.2.2.2.2.2.1.2.2.2.2.2.1,gx.2.2.2.2.2.2.1.2.2.2.2.2.2)))))),(gx.2.2.2.2.2.2.2.1,(gx.2.2.2.2.2.2.2.2.1,((gx.2.2.2.2.2.2.2.2.2.1.1,((),(gx.2.2.2.2.2.2.2.2.2.1.2.2.1,(gx.2.2.2.2.2.2.2.2.2.1.2.2.2.1,(gx.2.2.2.2.2.2.2.2.2.1.2.2.2.2.1,(gx.2.2.2.2.2.2.2.2.2.1.2.2.2.2.2.1,gx.2.2.2.2.2.2.2.2.2.1.2.2.2.2.2.2)))))),(gx.2.2.2.2.2.2.2.2.2.2.1,()))))))))))):(n9)⊕(n8))))
 (some (Sum.inr ((1:Nat),((y9.2.1.1,(y3.1.2.1,())),(((),((),(y9.2.2.1.2.2.1,(y9.2.2.1.2.2.2.1,(y9.2.2.1.2.2.2.2.1,(y9.2.2.1.2.2.2.2.2.1,y9.2.2.1.2.2.2.2.2.2)))))),(y9.2.2.2.1,(y9.2.2.2.2.1,((y9.2.2.2.2.2.1.1,((),(y9.2.2.2.2.2.1.2.2.1,(y9.2.2.2.2.2.1.2.2.2.1,(y9.2.2.2.2.2.1.2.2.2.2.1,(y9.2.2.2.2.2.1.2.2.2.2.2.1,y9.2.2.2.2.2.1.2.2.2.2.2.2)))))),(y9.2.2.2.2.2.2.1,(((),((),(y7.2.1.2.2.1,(y7.2.1.2.2.2.1,(y7.2.1.2.2.2.2.1,(y7.2.1.2.2.2.2.2.1,())))))),(y7.2.1.1,(y7.2.1.2.1,((y8.2.1.1,((),(y8.2.1.2.2.1,(y8.2.1.2.2.2.1,(y8.2.1.2.2.2.2.1,(y8.2.1.2.2.2.2.2.1,())))))),(y8.2.1.2.1,())))))))))))):(n9)⊕(n8))))))
 (ah (aO (fE (0:Int) (@len cK x.1))
 (ah (dF ((),((y3.2.2.2.2.1.1,(y3.2.2.2.2.2.1,(y3.2.2.2.2.1.2.2.1,(y3.2.2.2.2.1.2.2.2.1,(y3.2.2.2.2.1.2.2.2.2.1,(y3.2.2.2.2.1.2.2.2.2.2.1,())))))),()))) (fun(y9:Unit×gv×Unit)=>ah (eJ ((),((y3.2.2.1,(y3.2.2.2.1,(y3.2.1.2.2.1,(y3.2.1.2.2.2.1,(y3.2.1.2.2.2.2.1,(y3.2.1.2.2.2.2.2.1,())))))),()))) (fun(gx:Unit×ir×Unit)=>ah (@idx cK x.1 (0:Int)) (fun(yX:Sb×Sb×(List Sb)×Sb×Int×Int×Bool×Unit)=>ah (dH ((yX,()),((y9.2.1.1,(y9.2.1.2.1,(y9.2.1.2.2.1,(y9.2.1.2.2.2.1,(y9.2.1.2.2.2.2.1,(y9.2.1.2.2.2.2.2.1,())))))),()))) (fun(wo:lQ×gv×Unit)=>ah (@idx cK x.1 (0:Int)) (fun(gS:Sb×Sb×(List Sb)×Sb×Int×Int×Bool×Unit)=>ah (eA ((gS,()),((gx.2.1.1,(gx.2.1.2.1,(gx.2.1.2.2.1,(gx.2.1.2.2.2.1,(gx.2.1.2.2.2.2.1,(gx.2.1.2.2.2.2.2.1,())))))),()))) (fun(cS:lQ×ir×Unit)=>ah (dY ((),((wo.2.1.1,(wo.2.1.2.1,(wo.2.1.2.2.1,(wo.2.1.2.2.2.1,(wo.2.1.2.2.2.2.1,(wo.2.1.2.2.2.2.2.1,())))))),()))) (fun(dS:(bP×Bool×Unit)×gv×Unit)=>aO (nt (ig wo.1.1 cS.1.1))
 (some ((1:Nat),((false,()),(((),((),(cS.2.1.2.2.1,(cS.2.1.2.2.2.1,(cS.2.1.2.2.2.2.1,(cS.2.1.2.2.2.2.2.1,())))))),(cS.2.1.1,(cS.2.1.2.1,((dS.2.1.1,((),(dS.2.1.2.2.1,(dS.2.1.2.2.2.1,(dS.2.1.2.2.2.2.1,(dS.2.1.2.2.2.2.2.1,())))))),(dS.2.1.2.1,()))))))))
 (aO (nt (b9 wo.1.2.1 cS.1.2.1))
 (some ((1:Nat),((false,()),(((),((),(cS.2.1.2.2.1,(cS.2.1.2.2.2.1,(cS.2.1.2.2.2.2.1,(cS.2.1.2.2.2.2.2.1,())))))),(cS.2.1.1,(cS.2.1.2.1,((dS.2.1.1,((),(dS.2.1.2.2.1,(dS.2.1.2.2.2.1,(dS.2.1.2.2.2.2.1,(dS.2.1.2.2.2.2.2.1,())))))),(dS.2.1.2.1,()))))))))
 (aO (nt (F2 dS.1.2.1 cS.2.1.2.2.2.2.1))
 (some ((1:Nat),((false,()),(((),((),(cS.2.1.2.2.1,(cS.2.1.2.2.2.1,(cS.2.1.2.2.2.2.1,(cS.2.1.2.2.2.2.2.1,())))))),(cS.2.1.1,(cS.2.1.2.1,((dS.2.1.1,((),(dS.2.1.2.2.1,(dS.2.1.2.2.2.1,(dS.2.1.2.2.2.2.1,(dS.2.1.2.2.2.2.2.1,())))))),(dS.2.1.2.1,()))))))))
 (aO dS.1.2.1
 (aO (nt (an (b9 dS.1.1.1 cS.2.1.2.2.2.1.1) (an (ig dS.1.1.2.1 cS.2.1.2.2.2.1.2.1) (an (ig dS.1.1.2.2.1 cS.2.1.2.2.2.1.2.2.1) (an (b9 dS.1.1.2.2.2.1 cS.2.1.2.2.2.1.2.2.2.1) (an (b9 dS.1.1.2.2.2.2.1 cS.2.1.2.2.2.1.2.2.2.2.1) (an (b9 dS.1.1.2.2.2.2.2.1 cS.2.1.2.2.2.1.2.2.2.2.2.1) (an (ig dS.1.1.2.2.2.2.2.2.1 cS.2.1.2.2.2.1.2.2.2.2.2.2.1) (an (b9 dS.1.1.2.2.2.2.2.2.2.1 cS.2.1.2.2.2.1.2.2.2.2.2.2.2.1) (an (b9 dS.1.1.2.2.2.2.2.2.2.2.1 cS.2.1.2.2.2.1.2.2.2.2.2.2.2.2.1) true))))))))))
 (some ((1:Nat),((false,()),(((),((),(cS.2.1.2.2.1,(cS.2.1.2.2.2.1,(cS.2.1.2.2.2.2.1,(cS.2.1.2.2.2.2.2.1,())))))),(cS.2.1.1,(cS.2.1.2.1,((dS.2.1.1,((),(dS.2.1.2.2.1,(dS.2.1.2.2.2.1,(dS.2.1.2.2.2.2.1,(dS.2.1.2.2.2.2.2.1,())))))),(dS.2.1.2.1,()))))))))
 (some ((0:Nat),((y3.1.1,()),(((),((),(cS.2.1.2.2.1,(cS.2.1.2.2.2.1,(cS.2.1.2.2.2.2.1,(cS.2.1.2.2.2.2.2.1,())))))),(cS.2.1.1,(cS.2.1.2.1,((dS.2.1.1,((),(dS.2.1.2.2.1,(dS.2.1.2.2.2.1,(dS.2.1.2.2.2.2.1,(dS.2.1.2.2.2.2.2.1,())))))),(dS.2.1.2.1,())))))))))
 (some ((0:Nat),((y3.1.1,()),(((),((),(cS.2.1.2.2.1,(cS.2.1.2.2.2.1,(cS.2.1.2.2.2.2.1,(cS.2.1.2.2.2.2.2.1,())))))),(cS.2.1.1,(cS.2.1.2.1,((dS.2.1.1,((),(dS.2.1.2.2.1,(dS.2.1.2.2.2.1,(dS.2.1.2.2.2.2.1,(dS.2.1.2.2.2.2.2.1,())))))),(dS.2.1.2.1,())))))))))))))))))))
 (some ((0:Nat),((y3.1.1,()),(((),((),(y3.2.1.2.2.1,(y3.2.1.2.2.2.1,(y3.2.1.2.2.2.2.1,(y3.2.1.2.2.2.2.2.1,y3.2.1.2.2.2.2.2.2)))))),(y3.2.2.1,(y3.2.2.2.1,((y3.2.2.2.2.1.1,((),(y3.2.2.2.2.1.2.2.1,(y3.2.2.2.2.1.2.2.2.1,(y3.2.2.2.2.1.2.2.2.2.1,(y3.2.2.2.2.1.2.2.2.2.2.1,y3.2.2.2.2.1.2.2.2.2.2.2)))))),(y3.2.2.2.2.2.1,()))))))))) (fun(y9:Nat×(Bool×Unit)×jI×(List bP)×(List bT)×kD×iz×Unit)=>aO (uQ y9.1 (0:Nat))
 (ah (aO (fE y3.1.2.1 (@len bT x.2.2.1))
 (ah (@idx bT x.2.2.1 y3.1.2.1) (fun(gx:Int×Int×Sb×(List Sb)×Unit)=>ah (bW ((gx,()),((y8.2.1.1,(y8.2.1.2.1,(y8.2.1.2.2.1,(y8.2.1.2.2.2.1,(y8.2.1.2.2.2.2.1,(y8.2.1.2.2.2.2.2.1,())))))),()))) (fun(yX:(Int×Unit)×gv×Unit)=>ah (@idx bT x.2.2.1 y3.1.2.1) (fun(wo:Int×Int×Sb×(List Sb)×Unit)=>ah (bX ((wo,()),((y7.2.1.1,(y7.2.1.2.1,(y7.2.1.2.2.1,(y7.2.1.2.2.2.1,(y7.2.1.2.2.2.2.1,(y7.2.1.2.2.2.2.2.1,())))))),()))) (fun(gS:(Int×Unit)×ir×Unit)=>ah (@idx bT x.2.2.1 y3.1.2.1) (fun(cS:Int×Int×Sb×(List Sb)×Unit)=>ah (bW ((cS,()),((y9.2.2.2.2.2.1.1,(y9.2.2.2.2.2.2.1,(y9.2.2.2.2.2.1.2.2.1,(y9.2.2.2.2.2.1.2.2.2.1,(y9.2.2.2.2.2.1.2.2.2.2.1,(y9.2.2.2.2.2.1.2.2.2.2.2.1,())))))),()))) (fun(dS:(Int×Unit)×gv×Unit)=>ah (@idx bT x.2.2.1 y3.1.2.1) (fun(M3:Int×Int×Sb×(List Sb)×Unit)=>ah (bX ((M3,()),((y9.2.2.2.1,(y9.2.2.2.2.1,(y9.2.2.1.2.2.1,(y9.2.2.1.2.2.2.1,(y9.2.2.1.2.2.2.2.1,(y9.2.2.1.2.2.2.2.2.1,())))))),()))) (fun(DI:(Int×Unit)×ir×Unit)=>some ((),(((),((),(DI.2.1.2.2.1,(DI.2.1.2.2.2.1,(DI.2.1.2.2.2.2.1,(DI.2.1.2.2.2.2.2.1,())))))),(DI.2.1.1,(DI.2.1.2.1,((dS.2.1.1,((),(dS.2.1.2.2.1,(dS.2.1.2.2.2.1,(dS.2.1.2.2.2.2.1,(dS.2.1.2.2.2.2.2.1,())))))),(dS.2.1.2.1,(((),((),(gS.2.1.2.2.1,(gS.2.1.2.2.2.1,(gS.2.1.2.2.2.2.1,(gS.2.1.2.2.2.2.2.1,())))))),(gS.2.1.1,(gS.2.1.2.1,((yX.2.1.1,((),(yX.2.1.2.2.1,(yX.2.1.2.2.2.1,(yX.2.1.2.2.2.2.1,(yX.2.1.2.2.2.2.2.1,())))))),(yX.2.1.2.1,()))))))))))))))))))))
 (some ((),(((),((),(y9.2.2.1.2.2.1,(y9.2.2.1.2.2.2.1,(y9.2.2.1.2.2.2.2.1,(y9.2.2.1.2.2.2.2.2.1,y9.2.2.1.2.2.2.2.2.2)))))),(y9.2.2.2.1,(y9.2.2.2.2.1,((y9.2.2.2.2.2.1.1,((),(y9.2.2.2.2.2.1.2.2.1,(y9.2.2.2.2.2.1.2.2.2.1,(y9.2.2.2.2.2.1.2.2.2.2.1,(y9.2.2.2.2.2.1.2.2.2.2.2.1,y9.2.2.2.2.2.1.2.2.2.2.2.2)))))),(y9.2.2.2.2.2.2.1,(((),((),(y7.2.1.2.2.1,(y7.2.1.2.2.2.1,(y7.2.1.2.2.2.2.1,(y7.2.1.2.2.2.2.2.1,())))))),(y7.2.1.1,(y7.2.1.2.1,((y8.2.1.1,((),(y8.2.1.2.2.1,(y8.2.1.2.2.2.1,(y8.2.1.2.2.2.2.1,(y8.2.1.2.2.2.2.2.1,())))))),(y8.2.1.2.1,()))))))))))))) (fun(gx:Unit×jI×(List bP)×(List bT)×kD×iz×jI×(List bP)×(List bT)×kD×iz×Unit)=>some (Sum.inl ((y9.2.1.1,(bA IntKind.i64 y3.1.2.1 (1:Int),())),(((),((),(gx.2.1.2.2.1,(gx.2.1.2.2.2.1,(gx.2.1.2.2.2.2.1,(gx.2.1.2.2.2.2.2.1,gx.2.1.2.2.2.2.2.2)))))),(gx.2.2.1,(gx.2.2.2.1,((gx.2.2.2.2.1.1,((),(gx.2.2.2.2.1.2.2.1,(gx.2.2.2.2.1.2.2.2.1,(gx.2.2.2.2.1.2.2.2.2.1,(gx.2.2.2.2.1.2.2.2.2.2.1,gx.2.2.2.2.1.2.2.2.2.2.2)))))),(gx.2.2.2.2.2.1,(((),((),(gx.2.2.2.2.2.2.1.2.2.1,(gx.2.2.2.2.2.2.1.2.2.2.1,(gx.2.2.2.2.2.2.1.2.2.2.2.1,(gx.2.2.2.2.2.2.1.2.2.2.2.2.1,gx.2.2.2.2.2.2.1.2.2.2.2.2.2)))))),(gx.2.2.2.2.2.2.2.1,(gx.2.2.2.2.2.2.2.2.1,((gx.2.2.2.2.2.2.2.2.2.1.1,((),(gx.2.2.2.2.2.2.2.2.2.1.2.2.1,(gx.2.2.2.2.2.2.2.2.2.1.2.2.2.1,(gx.2.2.2.2.2.2.2.2.2.1.2.2.2.2.1,(gx.2.2.2.2.2.2.2.2.2.1.2.2.2.2.2.1,gx.2.2.2.2.2.2.2.2.2.1.2.2.2.2.2.2)))))),(gx.2.2.2.2.2.2.2.2.2.2.1,()))))))))))):(n9)⊕(n8))))
 (some (Sum.inr ((1:Nat),((y9.2.1.1,(y3.1.2.1,())),(((),((),(y9.2.2.1.2.2.1,(y9.2.2.1.2.2.2.1,(y9.2.2.1.2.2.2.2.1,(y9.2.2.1.2.2.2.2.2.1,y9.2.2.1.2.2.2.2.2.2)))))),(y9.2.2.2.1,(y9.2.2.2.2.1,((y9.2.2.2.2.2.1.1,((),(y9.2.2.2.2.2.1.2.2.1,(y9.2.2.2.2.2.1.2.2.2.1,(y9.2.2.2.2.2.1.2.2.2.2.1,(y9.2.2.2.2.2.1.2.2.2.2.2.1,y9.2.2.2.2.2.1.2.2.2.2.2.2)))))),(y9.2.2.2.2.2.2.1,(((),((),(y7.2.1.2.2.1,(y7.2.1.2.2.2.1,(y7.2.1.2.2.2.2.1,(y7.2.1.2.2.2.2.2.1,())))))),(y7.2.1.1,(y7.2.1.2.1,((y8.2.1.1,((),(y8.2.1.2.2.1,(y8.2.1.2.2.2.1,(y8.2.1.2.2.2.2.1,(y8.2.1.2.2.2.2.2.1,())))))),(y8.2.1.2.1,())))))))))))):(n9)⊕(n8)))))))))))))))
 (some (Sum.inr ((0:Nat),((y3.1.1,(y3.1.2.1,())),(((),((),(y3.2.1.2.2.1,(y3.2.1.2.2.2.1,(y3.2.1.2.2.2.2.1,(y3.2.1.2.2.2.2.2.1,y3.2.1.2.2.2.2.2.2)))))),(y3.2.2.1,(y3.2.2.2.1,((y3.2.2.2.2.1.1,((),(y3.2.2.2.2.1.2.2.1,(y3.2.2.2.2.1.2.2.2.1,(y3.2.2.2.2.1.2.2.2.2.1,(y3.2.2.2.2.1.2.2.2.2.2.1,y3.2.2.2.2.1.2.2.2.2.2.2)))))),(y3.2.2.2.2.2.1,(((),((),(y3.2.2.2.2.2.2.1.2.2.1,(y3.2.2.2.2.2.2.1.2.2.2.1,(y3.2.2.2.2.2.2.1.2.2.2.2.1,(y3.2.2.2.2.2.2.1.2.2.2.2.2.1,y3.2.2.2.2.2.2.1.2.2.2.2.2.2)))))),(y3.2.2.2.2.2.2.2.1,(y3.2.2.2.2.2.2.2.2.1,((y3.2.2.2.2.2.2.2.2.2.1.1,((),(y3.2.2.2.2.2.2.2.2.2.1.2.2.1,(y3.2.2.2.2.2.2.2.2.2.1.2.2.2.1,(y3.2.2.2.2.2.2.2.2.2.1.2.2.2.2.1,(y3.2.2.2.2.2.2.2.2.2.1.2.2.2.2.2.1,y3.2.2.2.2.2.2.2.2.2.1.2.2.2.2.2.2)))))),(y3.2.2.2.2.2.2.2.2.2.2.1,())))))))))))):(n9)⊕(n8)))
def jg(x:(List cK)×Sb×(List bT)×Unit):Option (Bool×Unit) :=
 ah (mh (x.1,())) (fun(y1:Bool×Unit)=>ah (aO (nt (aO (nt (nt y1.1))
 (fE (100:Int) (@len UInt8 x.2.1))
 true))
 (ah (gU (x.2.2.1,((30:Int),()))) (fun(y2:Bool×Unit)=>some (nt y2.1)))
 (some true)) (fun(y2:Bool)=>aO y2
 (ah (jz ()) (fun(y3:Bool×Unit)=>some (y3.1,())))
 (ah (Loop (dO x) ((false,((0:Int),())),(((),((),((0:Int),(((0:Int),(([]:List (UInt8)),(([]:List (UInt8)),((0:Int),((0:Int),((0:Int),(([]:List (UInt8)),((0:Int),((0:Int),()))))))))),(false,(false,())))))),(([]:List bP),(([]:List bT),((true,((),((0:Int),(false,(false,(((0:Int),(([]:List (UInt8)),(([]:List (UInt8)),((0:Int),((0:Int),((0:Int),(([]:List (UInt8)),((0:Int),((0:Int),()))))))))),())))))),(([]:List (bP×bT×Unit)),(((),((),((0:Int),(((0:Int),(([]:List (UInt8)),(([]:List (UInt8)),((0:Int),((0:Int),((0:Int),(([]:List (UInt8)),((0:Int),((0:Int),()))))))))),(false,(false,())))))),(([]:List bP),(([]:List bT),((true,((),((0:Int),(false,(false,(((0:Int),(([]:List (UInt8)),(([]:List (UInt8)),((0:Int),((0:Int),((0:Int),(([]:List (UInt8)),((0:Int),((0:Int),()))))))))),())))))),(([]:List (bP×bT×Unit)),())))))))))))) (fun(y3:Nat×(Bool×Int×Unit)×jI×(List bP)×(List bT)×kD×iz×jI×(List bP)×(List bT)×kD×iz×Unit)=>aO (uQ y3.1 (0:Nat))
 (ah (jz ()) (fun(y4:Bool×Unit)=>some (y4.1,())))
 (some (y3.2.1.1,()))))))
end Go.Ge
namespace Go.Ge
variable [Lp]
theorem iV{a b:Int}(h:-9223372036854775808≤a+b)(h2:a+b≤9223372036854775807):bA .i64 a b=a+b:=by
 unfold bA;simp[IntKind.wrap,IntKind.min,IntKind.max,IntKind.signed,IntKind.bits];omega
theorem dI{a b:Int}(h:-9223372036854775808≤a-b)(h2:a-b≤9223372036854775807):dn .i64 a b=a-b:=by
 unfold dn;simp[IntKind.wrap,IntKind.min,IntKind.max,IntKind.signed,IntKind.bits];omega
theorem vS{a b:Int}(h:-9223372036854775808≤a*b)(h2:a*b≤9223372036854775807):iB .i64 a b=a*b:=by
 unfold iB;simp[IntKind.wrap,IntKind.min,IntKind.max,IntKind.signed,IntKind.bits];omega
theorem Ik{a:Int}(h:-9223372036854775808≤a)(h2:a≤9223372036854775807):kP .i64 a=a:=by
 unfold kP;simp[IntKind.wrap,IntKind.min,IntKind.max,IntKind.signed,IntKind.bits];omega
theorem wrap_u32(a:Int):IntKind.wrap .u32 a=a % 4294967296:=by
 simp[IntKind.wrap,IntKind.min,IntKind.max,IntKind.signed,IntKind.bits]
def Bv(x:Int):BitVec 32:=BitVec.ofInt 32 x
def Can(x:Int):Prop:=0≤x∧x<4294967296
theorem Fu(a:Int):Can (IntKind.wrap .u32 a):=by rw[wrap_u32];unfold Can;omega
theorem oa(a:Int):((Bv a).toNat:Int)=a % 4294967296:=by
 unfold Bv;rw[BitVec.toNat_ofInt];have:0≤a % ((2 ^ 32:Nat):Int):=Int.emod_nonneg _ (by decide);rw[KH this];rfl
theorem N6{a b:Int}(ha:Can a)(hb:Can b)(h:Bv a=Bv b):a=b:=by
 have h1:=oa a;have h2:=oa b;rw[h] at h1;unfold Can at ha hb;omega
theorem yY(a:Int):Bv (IntKind.wrap .u32 a)=Bv a:=by
 apply KF;have h1:=oa a;have h2:=oa (IntKind.wrap .u32 a);rw[wrap_u32] at h2⊢;omega
theorem Hh(v:BitVec 32):Bv (v.toNat:Int)=v:=by
 apply KF;have h1:=oa (v.toNat:Int);have:=v.isLt;omega
theorem bv_and(x y:Int):Bv (ja .u32 x y)=Bv x &&& Bv y:=by unfold ja;rw[yY];exact Hh _
theorem Il(x y:Int):Bv (pO .u32 x y)=Bv x ||| Bv y:=by unfold pO;rw[yY];exact Hh _
theorem L8(x y:Int):Bv (ew .u32 x y)=Bv x ^^^ Bv y:=by unfold ew;rw[yY];exact Hh _
theorem AG(x y:Int):Can (pO .u32 x y):=Fu _
theorem DJ(x y:Int):Can (ew .u32 x y):=Fu _
theorem Hi(x:Int)(n:Nat)(hn:n≤32):Bv (iC .u32 x n)=Bv x <<< n:=by
 unfold iC;rw[yY];apply KF;have h1:=oa (x*2 ^ (min (n:Int).toNat IntKind.u32.bits));have h2:=oa x;have e:min (n:Int).toNat IntKind.u32.bits=n:=by simp[IntKind.bits];omega
 rw[e] at h1⊢;rw[BitVec.toNat_shiftLeft,Nat.shiftLeft_eq];have h3:(((Bv x).toNat*2 ^ n % 2 ^ 32:Nat):Int)=(x*2 ^ n) % 4294967296:=by
  rw[Int.natCast_emod,Int.natCast_mul,h2,Int.natCast_pow];show(x % 4294967296*2 ^ n) % 4294967296=_
  rw[Int.mul_emod,Int.emod_emod_of_dvd _ (Int.dvd_refl _),←Int.mul_emod]
 omega
theorem Hj(x y:Int):pO .u32 x y=pO .u32 y x:=N6 (AG _ _) (AG _ _) (by rw[Il,Il,BitVec.or_comm])
theorem Fv(x y:Int):bA .u32 x y=bA .u32 y x:=by unfold bA;rw[Int.add_comm]
theorem Rc(e f g:Int):ew .u32 g (ja .u32 e (ew .u32 f g))=ew .u32 (ja .u32 e f) (ja .u32 (ew .u32 4294967295 e) g):=by
 refine N6 (DJ _ _) (DJ _ _) ?_;simp only[L8,bv_and];have h:Bv 4294967295=BitVec.allOnes 32:=by decide
 rw[h]
 ext i hi
 simp only[BitVec.getElem_xor,BitVec.getElem_and,BitVec.getElem_allOnes];cases (Bv e)[i]<;>cases (Bv f)[i]<;>cases (Bv g)[i]<;>rfl
theorem PJ(a b c:Int):pO .u32 (ja .u32 a b) (ja .u32 c (pO .u32 a b))=ew .u32 (ew .u32 (ja .u32 a b) (ja .u32 a c)) (ja .u32 b c):=by
 refine N6 (AG _ _) (DJ _ _) ?_;simp only[L8,bv_and,Il]
 ext i hi
 simp only[BitVec.getElem_xor,BitVec.getElem_and,BitVec.getElem_or];cases (Bv a)[i]<;>cases (Bv b)[i]<;>cases (Bv c)[i]<;>rfl
theorem N7(a b c d:Int):pO .u32 (iC .u32 (pO .u32 (iC .u32 (pO .u32 (iC .u32 (pO .u32 (iC .u32 0 8) a) 8) b) 8) c) 8) d=pO .u32 (pO .u32 (pO .u32 (iC .u32 a 24) (iC .u32 b 16)) (iC .u32 c 8)) d:=by
 refine N6 (AG _ _) (AG _ _) ?_;have s8:∀x,Bv (iC .u32 x 8)=Bv x <<< 8:=fun x=>Hi x 8 (by decide);have U2:∀x,Bv (iC .u32 x 16)=Bv x <<< 16:=fun x=>Hi x 16 (by decide);have U3:∀x,Bv (iC .u32 x 24)=Bv x <<< 24:=fun x=>Hi x 24 (by decide);simp only[Il,s8,U2,U3];have z:Bv 0=0#32:=by decide
 rw[z];simp[BitVec.shiftLeft_or_distrib,←BitVec.shiftLeft_add]
theorem bB{a b:Int}(h:a<b):fE a b=true:=by simp[fE,h]
theorem aH{a b:Int}(h:b≤a):fE a b=false:=by simp[fE];omega
theorem kG{a b:Int}(h:a≤b):yI a b=true:=by simp[yI,h]
theorem p8{a b:Int}(h:b<a):yI a b=false:=by simp[yI];omega
theorem br{a b:Int}(h:a=b):b9 a b=true:=by simp[b9,h]
theorem aF{a b:Int}(h:a≠b):b9 a b=false:=by simp[b9,h]
theorem bC{i n:Int}(h0:0≤i)(h1:i<n):within i n=true:=by simp[within,h0,h1]
theorem cM{i j n:Int}(h0:0≤i)(h1:i≤j)(h2:j≤n):inside i j n=true:=by simp[inside,h0,h1,h2]
theorem dP{n:Int}(h:n≤4294967296):fits n=true:=by simp[fits,h]
theorem dh{S:Type}(s:S):kQ (some (.inl s:S⊕(Nat×S)))=some (.inl s):=rfl
theorem dJ{S:Type}(n:Nat)(s:S):kQ (some (.inr (n,s):S⊕(Nat×S)))=some (.inr s):=rfl
theorem dV{α:Type}(l:List α)(d:α){i:Nat}(h:i<l.length):idx l (i:Int)=some (l.getD i d):=by
 rw[vN,qV h,FU,qV h];rfl
theorem iW{α:Type}(l:List α)(d:α){i:Int}{k:Nat}(e:i=k)(h:k<l.length):idx l i=some (l.getD k d):=by subst e;exact dV l d h
theorem kH{α:Type}(l:List α)(i:Nat)(x:α):qo l (i:Int) x=l.set i x:=by simp[qo]
end Go.Ge
namespace Go.Ge
variable [Lp]
theorem Im{α:Type}(i:Nat)(l:List α):fE (i:Int) (len l)=decide (i<l.length):=by simp[fE,len]
theorem lu{α β:Type}{l:List α}{m:List β}(h:l.length+m.length≤4294967296):fits (plus (len l) (len m))=true:=by
 apply dP;simp only[plus,len];omega
theorem ic{a b:List UInt8}(h:a≠b):ig a b=false:=by simp[ig,h]
theorem jB{a b:List UInt8}(h:a=b):ig a b=true:=by simp[ig,h]
theorem mo{α:Type}{l:List α}{i:Nat}{x:α}(h:l[i]?=some x):i<l.length:=(List.getElem?_eq_some_iff.1 h).1
theorem bu{α:Type}{l:List α}{i:Nat}{x:α}(h:l[i]?=some x):idx l (i:Int)=some x:=by rw[vN,h]
theorem ga{α:Type}{l:List α}{i:Nat}(h:i<l.length):fE (i:Int) (len l)=true:=by rw[Im,Ba h]
theorem mq{α:Type}{l:List α}:fE (l.length:Int) (len l)=false:=by rw[Im,yc (by omega)]
theorem L9{α:Type}(l m:List α):app l m=l++m:=rfl
end Go.Ge
namespace Go.Ge
variable [Lp]
end Go.Ge
namespace Go.Ge
variable [Lp]
theorem Ma{α:Type}(l:List α)(p:Nat→α→Bool) :
  (∃i x,l[i]?=some x∧p i x=true∧∀j y,j<i→l[j]?=some y→p j y=false)∨∀i x,l[i]?=some x→p i x=false:=by
 by_cases h:∃i x,l[i]?=some x∧p i x=true
 ·left;have key:∀n i x,i≤n→l[i]?=some x→p i x=true→∃i x,l[i]?=some x∧p i x=true∧∀j y,j<i→l[j]?=some y→p j y=false:=by
   intro n;induction n with
   | zero =>
     intro i x hi hx hp;obtain rfl:i=0:=by omega
     exact⟨0,x,hx,hp,fun j y hj=>by omega⟩
   | succ n ih =>
     intro i x hi hx hp;by_cases k:∃j y,j<i∧l[j]?=some y∧p j y=true
     ·obtain⟨j,y,hj,hy,hq⟩:=k;exact ih j y (by omega) hy hq
     ·refine⟨i,x,hx,hp,fun j y hj hy=>?_⟩;cases hq:p j y with
      | false=>rfl
      | true=>exact absurd ⟨j,y,hj,hy,hq⟩ k
  obtain⟨i,x,hx,hp⟩:=h;exact key i i x (kS _) hx hp
 ·right;intro i x hx;cases hq:p i x with
  | false=>rfl
  | true=>exact absurd ⟨i,x,hx,hq⟩ h
theorem PK{α S R:Type}{f:S→Option (S⊕R)}(l:List α)(mk:Int→S)(p:Nat→α→Bool)(JD:Nat→α→R)(JE:R)(hl:l.length≤4294967296)
  (hstep:∀i x,l[i]?=some x→i<l.length→bA .i64 (i:Int) 1=((i+1:Nat):Int)→f (mk (i:Int))=some (if p i x=true then .inr (JD i x) else .inl (mk ((i+1:Nat):Int))))
  (PL:f (mk (l.length:Int))=some (.inr JE)) :
  (∃i x,l[i]?=some x∧p i x=true∧(∀j y,j<i→l[j]?=some y→p j y=false)∧Loop f (mk 0)=some (JD i x))∨((∀i x,l[i]?=some x→p i x=false)∧Loop f (mk 0)=some JE):=by
 have TP:∀i x,l[i]?=some x→p i x=false→f (mk (i:Int))=some (.inl (mk ((i+1:Nat):Int))):=fun i x hx hp=>by
  have hi:=mo hx;rw[hstep i x hx hi (ck (by omega)),hp];rfl
 rcases Ma l p with ⟨i,x,hx,hp,hj⟩|hn
 ·left;refine⟨i,x,hx,hp,hj,?_⟩;have hi:=mo hx;refine de i (fun j:Nat=>mk (j:Int)) (fun j hji=>?_) ?_
  ·have hjl:j<l.length:=by omega
   exact TP j l[j] (qV hjl) (hj j _ hji (qV hjl))
  ·rw[hstep i x hx hi (ck (by omega)),hp];rfl
 ·right;refine⟨hn,de l.length (fun j:Nat=>mk (j:Int)) (fun j hj=>?_) PL⟩;exact TP j l[j] (qV hj) (hn j _ (qV hj))
theorem Mb{α S R:Type}{f:S→Option (S⊕R)}(l:List α)(n:Nat)(mk:Int→S)(p:Nat→α→Bool)(JD:Nat→α→R)(JE:Nat→R)(hl:min n l.length≤4294967296)
  (hstep:∀i x,l[i]?=some x→i<l.length→i<n→bA .i64 (i:Int) 1=((i+1:Nat):Int)→f (mk (i:Int))=some (if p i x=true then .inr (JD i x) else .inl (mk ((i+1:Nat):Int))))
  (PL:f (mk ((min n l.length:Nat):Int))=some (.inr (JE (min n l.length)))) :
  (∃i x,i<n∧l[i]?=some x∧p i x=true∧(∀j y,j<i→l[j]?=some y→p j y=false)∧Loop f (mk 0)=some (JD i x))∨((∀i x,i<n→l[i]?=some x→p i x=false)∧Loop f (mk 0)=some (JE (min n l.length))):=by
 have ht:∀i x,(l.take n)[i]?=some x↔(i<n∧l[i]?=some x):=fun i x=>by
  rw[lU];by_cases h:i<n
  ·simp[h]
  ·simp[h]
 have hlen:(l.take n).length=min n l.length:=iA;rcases PK (f:=f) (l.take n) mk p JD (JE (min n l.length)) (by rw[hlen];exact hl) (fun i x hx hi p9=>by
  obtain⟨h1,h2⟩:=(ht i x).1 hx;exact hstep i x h2 (mo h2) h1 p9) (by rw[hlen];exact PL) with ⟨i,x,hx,hp,hj,h⟩|⟨hn,h⟩
 ·obtain⟨h1,h2⟩:=(ht i x).1 hx;exact .inl ⟨i,x,h1,h2,hp,fun j y hji hy=>hj j y hji ((ht j y).2 ⟨by omega,hy⟩),h⟩
 ·exact .inr ⟨fun i x hi hx=>hn i x ((ht i x).2 ⟨hi,hx⟩),h⟩
theorem Mc{α:Type}{l:List α}(h:l.length≤4294967296):fits (len l)=true:=JB h
end Go.Ge
namespace Go.Ge
variable [Lp]
abbrev Tx:=List UInt8
abbrev Nm:=Tx×List Tx×Unit
end Go.Ge
namespace Go.Ge
variable [Lp]
set_option maxRecDepth 100000
end Go.Ge
namespace Go.Ge
variable [Lp]
open Go.Lib
end Go.Ge
namespace Go.Ge
variable [Lp]
theorem Hl(l:List Tx)(h:l.length≤4294967296):cU (l,())=some (l,()):=by
 unfold cU;dsimp only;rw[Mc h];rfl
end Go.Ge
namespace Go.Ge
variable [Lp]
def PM(l:List Tx):Prop:=l.length≤8∧∀x∈l,x.length≤100
def RM:Tx:=[48,48,48,48,48,49]
end Go.Ge
namespace Go.Ge
variable [Lp]
end Go.Ge
namespace Go.Ge
variable [Lp]
abbrev Item:=Tx×Tx×Tx×Unit
abbrev PN:=Tx×Tx×List Tx×Tx×Int×Int×Bool×Unit
abbrev PO:=Tx×List Tx×Tx×Tx×List Item×Unit
abbrev SL:=Tx×List Tx×Tx×Tx×Tx×List Item×Unit
abbrev Rd:=Int×List PN×List PO×List SL×Unit
structure U4 (b:Rd):Prop where
 ll:b.2.1.length≤40
 ln:∀x∈b.2.1,PM x.2.2.1
 il:b.2.2.1.length≤40
 lF:∀x∈b.2.2.1,PM x.2.1
 bl:b.2.2.2.1.length≤40
 bn:∀x∈b.2.2.2.1,PM x.2.1
end Go.Ge
