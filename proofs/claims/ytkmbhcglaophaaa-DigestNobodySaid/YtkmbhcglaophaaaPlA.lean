/- Plain laws of what the functions compute: part 1. -/
import Derived.Test.YtkmbhcglaophaaaGeK
import Derived.Lib.Repeat
set_option linter.unusedSectionVars false
set_option linter.unusedVariables false
set_option linter.unusedSimpArgs false
noncomputable section
namespace Go.Ge
abbrev Sb:=List UInt8
variable [Lp]
def bK:(Ty.pair .str (.pair (.int .u8) .unit)).den→Option (Ty.pair (.int .i64) .unit).den:=fun x=>some (Lib.indexByte x.1 (show Int from x.2.1).toNat.toUInt8,())
end Go.Ge
namespace Go.Ge
variable [Lp]
set_option maxRecDepth 100000
abbrev fJ:=((Bool×(List (Int))×Unit)×(List (Int))×Int×Unit)
abbrev cE:=((Int×Unit)×(List (Int))×Unit)
abbrev kR:=((Nat×(Int×Unit)×(List (Int))×Unit))
abbrev xA:=(Int×Int×Int×Int×Int×Int×Int×Int×Int×Unit)
abbrev GW:=((Unit×Int×Unit)×(List (Int))×Unit)
abbrev xB:=((List (Int))×Unit)
abbrev GX:=((Unit×Unit)×(List (Int))×Unit)
abbrev GY:=((Int×Unit)×fJ×Unit)
def jm(x:Unit):Option xB :=
 some (([(1779033703:Int),(3144134277:Int),(1013904242:Int),(2773480762:Int),(1359893119:Int),(2600822924:Int),(528734635:Int),(1541459225:Int)]:List (Int)),())
def nV(x:Unit):Option xB :=
 some (([(1116352408:Int),(1899447441:Int),(3049323471:Int),(3921009573:Int),(961987163:Int),(1508970993:Int),(2453635748:Int),(2870763221:Int),(3624381080:Int),(310598401:Int),(607225278:Int),(1426881987:Int),(1925078388:Int),(2162078206:Int),(2614888103:Int),(3248222580:Int),(3835390401:Int),(4022224774:Int),(264347078:Int),(604807628:Int),(770255983:Int),(1249150122:Int),(1555081692:Int),(1996064986:Int),(2554220882:Int),(2821834349:Int),(2952996808:Int),(3210313671:Int),(3336571891:Int),(3584528711:Int),(113926993:Int),(338241895:Int),(666307205:Int),(773529912:Int),(1294757372:Int),(1396182291:Int),(1695183700:Int),(1986661051:Int),(2177026350:Int),(2456956037:Int),(2730485921:Int),(2820302411:Int),(3259730800:Int),(3345764771:Int),(3516065817:Int),(3600352804:Int),(4094571909:Int),(275423344:Int),(430227734:Int),(506948616:Int),(659060556:Int),(883997877:Int),(958139571:Int),(1322822218:Int),(1537002063:Int),(1747873779:Int),(1955562222:Int),(2024104815:Int),(2227730452:Int),(2361852424:Int),(2428436474:Int),(2756734187:Int),(3204031479:Int),(3329325298:Int)]:List (Int)),())
def eE(x:Int×Int×Unit):Option (Int×Unit) :=
 br (iH (ff IntKind.u64 (jv IntKind.u64 x.2.1) (31:Int)) (0:Int))
 none
 (br (iH (eG IntKind.u64 (32:Int) (ff IntKind.u64 (jv IntKind.u64 x.2.1) (31:Int))) (0:Int))
 none
 (some (lQ IntKind.u32 (fI IntKind.u32 x.1 (ff IntKind.u64 (jv IntKind.u64 x.2.1) (31:Int))) (kM IntKind.u32 x.1 (eG IntKind.u64 (32:Int) (ff IntKind.u64 (jv IntKind.u64 x.2.1) (31:Int)))),())))
def aT(x:Int×Int×Unit):Option (Int×Unit) :=
 aj (eE (x.1,(eG IntKind.i64 (0:Int) x.2.1,()))) (fun(y1:Int×Unit)=>some (y1.1,()))
def dZ(x:(List (Int))×Unit)(y1:(Int×Unit)×(List (Int))×Unit)(y2:(Int×Unit)×(List (Int))×Unit):Option (cE⊕cE) :=
 @iK cE (br (iH y2.1.1 (minus (bw IntKind.i64 (gz IntKind.i64 (4:Int) y1.1.1) (4:Int)) (gz IntKind.i64 (4:Int) y1.1.1)))
 (br (within y2.1.1 (minus (bw IntKind.i64 (gz IntKind.i64 (4:Int) y1.1.1) (4:Int)) (gz IntKind.i64 (4:Int) y1.1.1)))
 (aj (@idx Int x.1 (plus (gz IntKind.i64 (4:Int) y1.1.1) y2.1.1)) (fun(y3:Int)=>br (within y1.1.1 (64:Int))
 (aj (@idx Int y2.2.1 y1.1.1) (fun(y4:Int)=>br (iH (8:Int) (0:Int))
 none
 (br (within y1.1.1 (64:Int))
 (aj (@idx Int y2.2.1 y1.1.1) (fun(y5:Int)=>aj (@idx Int y2.2.1 y1.1.1) (fun(y6:Int)=>aj (@idx Int y2.2.1 y1.1.1) (fun(y7:Int)=>some (Sum.inl ((bw IntKind.i64 y2.1.1 (1:Int),()),(@mF Int y2.2.1 y1.1.1 (lQ IntKind.u32 (fI IntKind.u32 y4 (8:Int)) (jv IntKind.u32 y3)),())):(cE)⊕kR)))))
 none)))
 none))
 none)
 (some (Sum.inr ((0:Nat),((y2.1.1,()),(y2.2.1,()))):(cE)⊕kR)))
def ec(x:(List (Int))×Unit)(y1:(Int×Unit)×(List (Int))×Unit):Option (cE⊕cE) :=
 @iK cE (br (iH y1.1.1 (16:Int))
 (br (inside (gz IntKind.i64 (4:Int) y1.1.1) (bw IntKind.i64 (gz IntKind.i64 (4:Int) y1.1.1) (4:Int)) (64:Int))
 (aj (Loop (dZ x y1) (((0:Int),()),(y1.2.1,()))) (fun(y2:(Int×Unit)×(List (Int))×Unit)=>some (Sum.inl ((bw IntKind.i64 y1.1.1 (1:Int),()),(y2.2.1,())):(cE)⊕kR)))
 none)
 (some (Sum.inr ((0:Nat),((y1.1.1,()),(y1.2.1,()))):(cE)⊕kR)))
def ef(y2:(Int×Unit)×(List (Int))×Unit):Option (cE⊕cE) :=
 @iK cE (br (iH y2.1.1 (64:Int))
 (br (within (eG IntKind.i64 y2.1.1 (2:Int)) (64:Int))
 (aj (@idx Int y2.2.1 (eG IntKind.i64 y2.1.1 (2:Int))) (fun(y3:Int)=>br (within (eG IntKind.i64 y2.1.1 (15:Int)) (64:Int))
 (aj (@idx Int y2.2.1 (eG IntKind.i64 y2.1.1 (15:Int))) (fun(y4:Int)=>aj (aT (y4,((7:Int),()))) (fun(y5:Int×Unit)=>aj (aT (y4,((18:Int),()))) (fun(y6:Int×Unit)=>br (iH (3:Int) (0:Int))
 none
 (aj (aT (y3,((17:Int),()))) (fun(y7:Int×Unit)=>aj (aT (y3,((19:Int),()))) (fun(y8:Int×Unit)=>br (iH (10:Int) (0:Int))
 none
 (br (within (eG IntKind.i64 y2.1.1 (7:Int)) (64:Int))
 (aj (@idx Int y2.2.1 (eG IntKind.i64 y2.1.1 (7:Int))) (fun(y9:Int)=>br (within (eG IntKind.i64 y2.1.1 (16:Int)) (64:Int))
 (aj (@idx Int y2.2.1 (eG IntKind.i64 y2.1.1 (16:Int))) (fun(IM:Int)=>br (within y2.1.1 (64:Int))
 (aj (@idx Int y2.2.1 y2.1.1) (fun(KQ:Int)=>aj (@idx Int y2.2.1 y2.1.1) (fun(KR:Int)=>aj (@idx Int y2.2.1 y2.1.1) (fun(ir:Int)=>some (Sum.inl ((bw IntKind.i64 y2.1.1 (1:Int),()),(@mF Int y2.2.1 y2.1.1 (bw IntKind.u32 (bw IntKind.u32 (bw IntKind.u32 (cL IntKind.u32 (cL IntKind.u32 y7.1 y8.1) (kM IntKind.u32 y3 (10:Int))) y9) (cL IntKind.u32 (cL IntKind.u32 y5.1 y6.1) (kM IntKind.u32 y4 (3:Int)))) IM),())):(cE)⊕kR)))))
 none))
 none))
 none))))))))
 none))
 none)
 (some (Sum.inr ((0:Nat),((y2.1.1,()),(y2.2.1,()))):(cE)⊕kR)))
def iu(x:(List (Int))×Unit):Option xB :=
 aj (Loop (ec x) (((0:Int),()),(([(0:Int),(0:Int),(0:Int),(0:Int),(0:Int),(0:Int),(0:Int),(0:Int),(0:Int),(0:Int),(0:Int),(0:Int),(0:Int),(0:Int),(0:Int),(0:Int),(0:Int),(0:Int),(0:Int),(0:Int),(0:Int),(0:Int),(0:Int),(0:Int),(0:Int),(0:Int),(0:Int),(0:Int),(0:Int),(0:Int),(0:Int),(0:Int),(0:Int),(0:Int),(0:Int),(0:Int),(0:Int),(0:Int),(0:Int),(0:Int),(0:Int),(0:Int),(0:Int),(0:Int),(0:Int),(0:Int),(0:Int),(0:Int),(0:Int),(0:Int),(0:Int),(0:Int),(0:Int),(0:Int),(0:Int),(0:Int),(0:Int),(0:Int),(0:Int),(0:Int),(0:Int),(0:Int),(0:Int),(0:Int)]:List (Int)),()))) (fun(y1:(Int×Unit)×(List (Int))×Unit)=>aj (Loop (ef) (((16:Int),()),(y1.2.1,()))) (fun(y2:(Int×Unit)×(List (Int))×Unit)=>some (y2.2.1,())))
def cm(y3:(List (Int))×Unit)(y4:(List (Int))×Unit)(ir:xA×Unit):Option ((xA×Unit)⊕(xA×Unit)) :=
 @iK (xA×Unit) (br (iH ir.1.2.2.2.2.2.2.2.2.1 (64:Int))
 (aj (aT (ir.1.2.2.2.2.1,((6:Int),()))) (fun(rC:Int×Unit)=>aj (aT (ir.1.2.2.2.2.1,((11:Int),()))) (fun(KS:Int×Unit)=>aj (aT (ir.1.2.2.2.2.1,((25:Int),()))) (fun(KT:Int×Unit)=>br (within ir.1.2.2.2.2.2.2.2.2.1 (64:Int))
 (aj (@idx Int y3.1 ir.1.2.2.2.2.2.2.2.2.1) (fun(LF:Int)=>br (within ir.1.2.2.2.2.2.2.2.2.1 (64:Int))
 (aj (@idx Int y4.1 ir.1.2.2.2.2.2.2.2.2.1) (fun(LG:Int)=>aj (aT (ir.1.1,((2:Int),()))) (fun(Mc:Int×Unit)=>aj (aT (ir.1.1,((13:Int),()))) (fun(MR:Int×Unit)=>aj (aT (ir.1.1,((22:Int),()))) (fun(MS:Int×Unit)=>some (Sum.inl ((bw IntKind.u32 (bw IntKind.u32 (bw IntKind.u32 (bw IntKind.u32 (bw IntKind.u32 ir.1.2.2.2.2.2.2.2.1 (cL IntKind.u32 (cL IntKind.u32 rC.1 KS.1) KT.1)) (cL IntKind.u32 ir.1.2.2.2.2.2.2.1 (ff IntKind.u32 ir.1.2.2.2.2.1 (cL IntKind.u32 ir.1.2.2.2.2.2.1 ir.1.2.2.2.2.2.2.1)))) LF) LG) (bw IntKind.u32 (cL IntKind.u32 (cL IntKind.u32 Mc.1 MR.1) MS.1) (lQ IntKind.u32 (ff IntKind.u32 ir.1.1 ir.1.2.1) (ff IntKind.u32 ir.1.2.2.1 (lQ IntKind.u32 ir.1.1 ir.1.2.1)))),(ir.1.1,(ir.1.2.1,(ir.1.2.2.1,(bw IntKind.u32 ir.1.2.2.2.1 (bw IntKind.u32 (bw IntKind.u32 (bw IntKind.u32 (bw IntKind.u32 ir.1.2.2.2.2.2.2.2.1 (cL IntKind.u32 (cL IntKind.u32 rC.1 KS.1) KT.1)) (cL IntKind.u32 ir.1.2.2.2.2.2.2.1 (ff IntKind.u32 ir.1.2.2.2.2.1 (cL IntKind.u32 ir.1.2.2.2.2.2.1 ir.1.2.2.2.2.2.2.1)))) LF) LG),(ir.1.2.2.2.2.1,(ir.1.2.2.2.2.2.1,(ir.1.2.2.2.2.2.2.1,(bw IntKind.i64 ir.1.2.2.2.2.2.2.2.2.1 (1:Int),()))))))))),()):((xA×Unit))⊕((Nat×xA×Unit))))))))
 none))
 none))))
 (some (Sum.inr ((0:Nat),((ir.1.1,(ir.1.2.1,(ir.1.2.2.1,(ir.1.2.2.2.1,(ir.1.2.2.2.2.1,(ir.1.2.2.2.2.2.1,(ir.1.2.2.2.2.2.2.1,(ir.1.2.2.2.2.2.2.2.1,(ir.1.2.2.2.2.2.2.2.2.1,()))))))))),())):((xA×Unit))⊕((Nat×xA×Unit)))))
def cZ(ir:xA×Unit)(rC:(Int×Unit)×fJ×Unit):Option (GY⊕GY) :=
 @iK GY (br (iH rC.1.1 (8:Int))
 (aj (@idx Int ([ir.1.1,ir.1.2.1,ir.1.2.2.1,ir.1.2.2.2.1,ir.1.2.2.2.2.1,ir.1.2.2.2.2.2.1,ir.1.2.2.2.2.2.2.1,ir.1.2.2.2.2.2.2.2.1]:List (Int)) rC.1.1) (fun(KS:Int)=>br (within rC.1.1 (8:Int))
 (aj (@idx Int rC.2.1.1.2.1 rC.1.1) (fun(KT:Int)=>br (within rC.1.1 (8:Int))
 (aj (@idx Int rC.2.1.1.2.1 rC.1.1) (fun(LF:Int)=>aj (@idx Int rC.2.1.1.2.1 rC.1.1) (fun(LG:Int)=>aj (@idx Int rC.2.1.1.2.1 rC.1.1) (fun(Mc:Int)=>some (Sum.inl ((bw IntKind.i64 rC.1.1 (1:Int),()),(((rC.2.1.1.1,(@mF Int rC.2.1.1.2.1 rC.1.1 (bw IntKind.u32 KT KS),rC.2.1.1.2.2)),rC.2.1.2),())):(GY)⊕((Nat×(Int×Unit)×fJ×Unit)))))))
 none))
 none))
 (some (Sum.inr ((0:Nat),((rC.1.1,()),(rC.2.1,()))):(GY)⊕((Nat×(Int×Unit)×fJ×Unit)))))
def cq(y1:(Sb×Unit)×fJ×Unit):Option (((Sb×Unit)×fJ×Unit)⊕((Sb×Unit)×fJ×Unit)) :=
 @iK ((Sb×Unit)×fJ×Unit) (br (nt (qd y1.1.1 ([]:List (UInt8))))
 (br (iG (64:Int) (0:Int))
 none
 (br (inside (gf y1.2.1.2.2.1 (64:Int)) (64:Int) (64:Int))
 (br (inside (@len Int (@fG Int (ah y1.1.1) (minus (64:Int) (gf y1.2.1.2.2.1 (64:Int))))) (@len UInt8 y1.1.1) (@len UInt8 y1.1.1))
 (aj (br (iG (bw IntKind.i64 (gf y1.2.1.2.2.1 (64:Int)) (@len Int (@fG Int (ah y1.1.1) (minus (64:Int) (gf y1.2.1.2.2.1 (64:Int)))))) (64:Int))
 (aj (br (nt y1.2.1.1.1)
 (aj (jm ()) (fun(y2:(List (Int))×Unit)=>some ((),(((true,(y2.1,y1.2.1.1.2.2)),(@over Int y1.2.1.2.1 (gf y1.2.1.2.2.1 (64:Int)) (@fG Int (ah y1.1.1) (minus (64:Int) (gf y1.2.1.2.2.1 (64:Int)))),(bw IntKind.i64 y1.2.1.2.2.1 (@len Int (@fG Int (ah y1.1.1) (minus (64:Int) (gf y1.2.1.2.2.1 (64:Int))))),y1.2.1.2.2.2))),()))))
 (some ((),((y1.2.1.1,(@over Int y1.2.1.2.1 (gf y1.2.1.2.2.1 (64:Int)) (@fG Int (ah y1.1.1) (minus (64:Int) (gf y1.2.1.2.2.1 (64:Int)))),(bw IntKind.i64 y1.2.1.2.2.1 (@len Int (@fG Int (ah y1.1.1) (minus (64:Int) (gf y1.2.1.2.2.1 (64:Int))))),y1.2.1.2.2.2))),())))) (fun(y2:Unit×fJ×Unit)=>aj (nV ()) (fun(y3:(List (Int))×Unit)=>aj (iu (@over Int y1.2.1.2.1 (gf y1.2.1.2.2.1 (64:Int)) (@fG Int (ah y1.1.1) (minus (64:Int) (gf y1.2.1.2.2.1 (64:Int)))),())) (fun(y4:(List (Int))×Unit)=>br (within (0:Int) (8:Int))
 (aj (@idx Int y2.2.1.1.2.1 (0:Int)) (fun(y5:Int)=>br (within (1:Int) (8:Int))
 (aj (@idx Int y2.2.1.1.2.1 (1:Int)) (fun(y6:Int)=>br (within (2:Int) (8:Int))
 (aj (@idx Int y2.2.1.1.2.1 (2:Int)) (fun(y7:Int)=>br (within (3:Int) (8:Int))
 (aj (@idx Int y2.2.1.1.2.1 (3:Int)) (fun(y8:Int)=>br (within (4:Int) (8:Int))
 (aj (@idx Int y2.2.1.1.2.1 (4:Int)) (fun(y9:Int)=>br (within (5:Int) (8:Int))
 (aj (@idx Int y2.2.1.1.2.1 (5:Int)) (fun(IM:Int)=>br (within (6:Int) (8:Int))
 (aj (@idx Int y2.2.1.1.2.1 (6:Int)) (fun(KQ:Int)=>br (within (7:Int) (8:Int))
 (aj (@idx Int y2.2.1.1.2.1 (7:Int)) (fun(KR:Int)=>aj (Loop (cm y3 y4) ((y5,(y6,(y7,(y8,(y9,(IM,(KQ,(KR,((0:Int),()))))))))),())) (fun(ir:xA×Unit)=>aj (Loop (cZ ir) (((0:Int),()),(y2.2.1,()))) (fun(rC:(Int×Unit)×fJ×Unit)=>some ((),(rC.2.1,()))))))
 none))
 none))
 none))
 none))
 none))
 none))
 none))
 none))))
 (some ((),((y1.2.1.1,(@over Int y1.2.1.2.1 (gf y1.2.1.2.2.1 (64:Int)) (@fG Int (ah y1.1.1) (minus (64:Int) (gf y1.2.1.2.2.1 (64:Int)))),(bw IntKind.i64 y1.2.1.2.2.1 (@len Int (@fG Int (ah y1.1.1) (minus (64:Int) (gf y1.2.1.2.2.1 (64:Int))))),y1.2.1.2.2.2))),())))) (fun(y2:Unit×fJ×Unit)=>some (Sum.inl ((@sub UInt8 y1.1.1 (@len Int (@fG Int (ah y1.1.1) (minus (64:Int) (gf y1.2.1.2.2.1 (64:Int))))) (minus (@len UInt8 y1.1.1) (@len Int (@fG Int (ah y1.1.1) (minus (64:Int) (gf y1.2.1.2.2.1 (64:Int)))))),()),(y2.2.1,())):(((Sb×Unit)×fJ×Unit))⊕((Nat×(Sb×Unit)×fJ×Unit)))))
 none)
 none))
 (some (Sum.inr ((0:Nat),((y1.1.1,()),(y1.2.1,()))):(((Sb×Unit)×fJ×Unit))⊕((Nat×(Sb×Unit)×fJ×Unit)))))
def cF(x:(Sb×Unit)×fJ×Unit):Option (Unit×fJ×Unit) :=
 aj (Loop (cq) ((x.1.1,()),(x.2.1,()))) (fun(y1:(Sb×Unit)×fJ×Unit)=>some ((),(y1.2.1,())))
def bU(y2:Unit×fJ×Unit):Option ((Unit×fJ×Unit)⊕(Unit×fJ×Unit)) :=
 @iK (Unit×fJ×Unit) (br (iG (64:Int) (0:Int))
 none
 (br (nt (iG (gf y2.2.1.2.2.1 (64:Int)) (56:Int)))
 (aj (cF ((([(0:UInt8)]:List (UInt8)),()),(y2.2.1,()))) (fun(y3:Unit×fJ×Unit)=>some (Sum.inl ((),(y3.2.1,())):((Unit×fJ×Unit))⊕((Nat×Unit×fJ×Unit)))))
 (some (Sum.inr ((0:Nat),((),(y2.2.1,()))):((Unit×fJ×Unit))⊕((Nat×Unit×fJ×Unit))))))
def cr(x:Unit×fJ×Unit)(y3:(Int×Unit)×(List (Int))×Unit):Option (cE⊕cE) :=
 @iK cE (br (iH y3.1.1 (8:Int))
 (br (iH (gz IntKind.i64 (8:Int) y3.1.1) (0:Int))
 none
 (br (within (eG IntKind.i64 (7:Int) y3.1.1) (8:Int))
 (aj (@idx Int y3.2.1 (eG IntKind.i64 (7:Int) y3.1.1)) (fun(y4:Int)=>aj (@idx Int y3.2.1 (eG IntKind.i64 (7:Int) y3.1.1)) (fun(y5:Int)=>aj (@idx Int y3.2.1 (eG IntKind.i64 (7:Int) y3.1.1)) (fun(y6:Int)=>some (Sum.inl ((bw IntKind.i64 y3.1.1 (1:Int),()),(@mF Int y3.2.1 (eG IntKind.i64 (7:Int) y3.1.1) (jv IntKind.u8 (kM IntKind.u64 (gz IntKind.u64 (jv IntKind.u64 (((((((),(x.2.1,())).2).1).2).2).1)) (8:Int)) (gz IntKind.i64 (8:Int) y3.1.1))),())):(cE)⊕kR)))))
 none))
 (some (Sum.inr ((0:Nat),((y3.1.1,()),(y3.2.1,()))):(cE)⊕kR)))
def dc(y4:Unit×fJ×Unit)(y5:(Int×Unit)×(List (Int))×Unit):Option (cE⊕cE) :=
 @iK cE (br (iH y5.1.1 (32:Int))
 (br (iG (4:Int) (0:Int))
 none
 (br (within (tu IntKind.i64 y5.1.1 (4:Int)) (8:Int))
 (aj (@idx Int y4.2.1.1.2.1 (tu IntKind.i64 y5.1.1 (4:Int))) (fun(y6:Int)=>br (iG (4:Int) (0:Int))
 none
 (br (iH (eG IntKind.i64 (24:Int) (gz IntKind.i64 (8:Int) (gf y5.1.1 (4:Int)))) (0:Int))
 none
 (br (within y5.1.1 (32:Int))
 (aj (@idx Int y5.2.1 y5.1.1) (fun(y7:Int)=>aj (@idx Int y5.2.1 y5.1.1) (fun(y8:Int)=>aj (@idx Int y5.2.1 y5.1.1) (fun(y9:Int)=>some (Sum.inl ((bw IntKind.i64 y5.1.1 (1:Int),()),(@mF Int y5.2.1 y5.1.1 (jv IntKind.u8 (kM IntKind.u32 y6 (eG IntKind.i64 (24:Int) (gz IntKind.i64 (8:Int) (gf y5.1.1 (4:Int)))))),())):(cE)⊕kR)))))
 none))))
 none))
 (some (Sum.inr ((0:Nat),((y5.1.1,()),(y5.2.1,()))):(cE)⊕kR)))
def gp(x:Unit×fJ×Unit):Option (xB×fJ×Unit) :=
 aj (cF ((aB ([(128:Int)]:List (Int)),()),((((),(x.2.1,())).2).1,()))) (fun(y1:Unit×fJ×Unit)=>aj (Loop (bU) ((),(y1.2.1,()))) (fun(y2:Unit×fJ×Unit)=>aj (Loop (cr x) (((0:Int),()),(([(0:Int),(0:Int),(0:Int),(0:Int),(0:Int),(0:Int),(0:Int),(0:Int)]:List (Int)),()))) (fun(y3:(Int×Unit)×(List (Int))×Unit)=>br (inside (0:Int) (8:Int) (8:Int))
 (aj (cF ((aB (@sub Int y3.2.1 (0:Int) (minus (8:Int) (0:Int))),()),(y2.2.1,()))) (fun(y4:Unit×fJ×Unit)=>aj (Loop (dc y4) (((0:Int),()),(([(0:Int),(0:Int),(0:Int),(0:Int),(0:Int),(0:Int),(0:Int),(0:Int),(0:Int),(0:Int),(0:Int),(0:Int),(0:Int),(0:Int),(0:Int),(0:Int),(0:Int),(0:Int),(0:Int),(0:Int),(0:Int),(0:Int),(0:Int),(0:Int),(0:Int),(0:Int),(0:Int),(0:Int),(0:Int),(0:Int),(0:Int),(0:Int)]:List (Int)),()))) (fun(y5:(Int×Unit)×(List (Int))×Unit)=>some ((y5.2.1,()),(x.2.1,())))))
 none)))
def oI(x:Sb×Unit):Option xB :=
 aj (cF ((x.1,()),(((false,(([(0:Int),(0:Int),(0:Int),(0:Int),(0:Int),(0:Int),(0:Int),(0:Int)]:List (Int)),())),(([(0:Int),(0:Int),(0:Int),(0:Int),(0:Int),(0:Int),(0:Int),(0:Int),(0:Int),(0:Int),(0:Int),(0:Int),(0:Int),(0:Int),(0:Int),(0:Int),(0:Int),(0:Int),(0:Int),(0:Int),(0:Int),(0:Int),(0:Int),(0:Int),(0:Int),(0:Int),(0:Int),(0:Int),(0:Int),(0:Int),(0:Int),(0:Int),(0:Int),(0:Int),(0:Int),(0:Int),(0:Int),(0:Int),(0:Int),(0:Int),(0:Int),(0:Int),(0:Int),(0:Int),(0:Int),(0:Int),(0:Int),(0:Int),(0:Int),(0:Int),(0:Int),(0:Int),(0:Int),(0:Int),(0:Int),(0:Int),(0:Int),(0:Int),(0:Int),(0:Int),(0:Int),(0:Int),(0:Int),(0:Int)]:List (Int)),((0:Int),()))),()))) (fun(y1:Unit×fJ×Unit)=>aj (gp ((),(y1.2.1,()))) (fun(y2:xB×fJ×Unit)=>some (y2.1.1,())))
def lI(x:Unit):Option xB :=
 some (([(1779033703:Int),(3144134277:Int),(1013904242:Int),(2773480762:Int),(1359893119:Int),(2600822924:Int),(528734635:Int),(1541459225:Int)]:List (Int)),())
def eS(y1:(Unit×Unit)×(List (Int))×Unit):Option (GX⊕GX) :=
 @iK GX (br (iG (64:Int) (0:Int))
 none
 (br (nt (iG (gf (@len Int y1.2.1) (64:Int)) (56:Int)))
 (br (fits (plus (@len Int y1.2.1) (@len Int ([(0:Int)]:List (Int)))))
 (some (Sum.inl (((),()),(@app Int y1.2.1 ([(0:Int)]:List (Int)),())):(GX)⊕((Nat×(Unit×Unit)×(List (Int))×Unit))))
 none)
 (some (Sum.inr ((0:Nat),(((),()),(y1.2.1,()))):(GX)⊕((Nat×(Unit×Unit)×(List (Int))×Unit))))))
def bR(x:Sb×Unit)(y2:(Unit×Int×Unit)×(List (Int))×Unit):Option (GW⊕GW) :=
 @iK GW (br (DX (0:Int) y2.1.2.1)
 (br (iH (gz IntKind.i64 (8:Int) y2.1.2.1) (0:Int))
 none
 (br (fits (plus (@len Int y2.2.1) (@len Int ([jv IntKind.u8 (kM IntKind.u64 (gz IntKind.u64 (jv IntKind.u64 (@len UInt8 x.1)) (8:Int)) (gz IntKind.i64 (8:Int) y2.1.2.1))]:List (Int)))))
 (some (Sum.inl (((),(eG IntKind.i64 y2.1.2.1 (1:Int),())),(@app Int y2.2.1 ([jv IntKind.u8 (kM IntKind.u64 (gz IntKind.u64 (jv IntKind.u64 (@len UInt8 x.1)) (8:Int)) (gz IntKind.i64 (8:Int) y2.1.2.1))]:List (Int)),())):(GW)⊕((Nat×(Unit×Int×Unit)×(List (Int))×Unit))))
 none))
 (some (Sum.inr ((0:Nat),(((),(y2.1.2.1,())),(y2.2.1,()))):(GW)⊕((Nat×(Unit×Int×Unit)×(List (Int))×Unit)))))
def jc(x:Sb×Unit):Option (Sb×Unit) :=
 br (fits (@len UInt8 x.1))
 (br (fits (plus (@len Int (ah x.1)) (@len Int ([(128:Int)]:List (Int)))))
 (aj (Loop (eS) (((),()),(@app Int (ah x.1) ([(128:Int)]:List (Int)),()))) (fun(y1:(Unit×Unit)×(List (Int))×Unit)=>aj (Loop (bR x) (((),((7:Int),())),(y1.2.1,()))) (fun(y2:(Unit×Int×Unit)×(List (Int))×Unit)=>some (aB y2.2.1,()))))
 none)
 none
def aP(x:Int×Int×Unit):Option (Int×Unit) :=
 br (iH x.2.1 (0:Int))
 none
 (br (iH (eG IntKind.i64 (32:Int) x.2.1) (0:Int))
 none
 (some (lQ IntKind.u32 (kM IntKind.u32 x.1 x.2.1) (fI IntKind.u32 x.1 (eG IntKind.i64 (32:Int) x.2.1)),())))
def kz(x:Unit):Option xB :=
 some (([(1116352408:Int),(1899447441:Int),(3049323471:Int),(3921009573:Int),(961987163:Int),(1508970993:Int),(2453635748:Int),(2870763221:Int),(3624381080:Int),(310598401:Int),(607225278:Int),(1426881987:Int),(1925078388:Int),(2162078206:Int),(2614888103:Int),(3248222580:Int),(3835390401:Int),(4022224774:Int),(264347078:Int),(604807628:Int),(770255983:Int),(1249150122:Int),(1555081692:Int),(1996064986:Int),(2554220882:Int),(2821834349:Int),(2952996808:Int),(3210313671:Int),(3336571891:Int),(3584528711:Int),(113926993:Int),(338241895:Int),(666307205:Int),(773529912:Int),(1294757372:Int),(1396182291:Int),(1695183700:Int),(1986661051:Int),(2177026350:Int),(2456956037:Int),(2730485921:Int),(2820302411:Int),(3259730800:Int),(3345764771:Int),(3516065817:Int),(3600352804:Int),(4094571909:Int),(275423344:Int),(430227734:Int),(506948616:Int),(659060556:Int),(883997877:Int),(958139571:Int),(1322822218:Int),(1537002063:Int),(1747873779:Int),(1955562222:Int),(2024104815:Int),(2227730452:Int),(2361852424:Int),(2428436474:Int),(2756734187:Int),(3204031479:Int),(3329325298:Int)]:List (Int)),())
def dD(x:(List (Int))×Sb×Unit)(y1:(Int×Unit)×(List (Int))×Unit):Option (cE⊕cE) :=
 @iK cE (br (iH y1.1.1 (16:Int))
 (aj (@idx UInt8 x.2.1 (gz IntKind.i64 (4:Int) y1.1.1)) (fun(y2:UInt8)=>br (iH (24:Int) (0:Int))
 none
 (aj (@idx UInt8 x.2.1 (bw IntKind.i64 (gz IntKind.i64 (4:Int) y1.1.1) (1:Int))) (fun(y3:UInt8)=>br (iH (16:Int) (0:Int))
 none
 (aj (@idx UInt8 x.2.1 (bw IntKind.i64 (gz IntKind.i64 (4:Int) y1.1.1) (2:Int))) (fun(y4:UInt8)=>br (iH (8:Int) (0:Int))
 none
 (aj (@idx UInt8 x.2.1 (bw IntKind.i64 (gz IntKind.i64 (4:Int) y1.1.1) (3:Int))) (fun(y5:UInt8)=>br (within y1.1.1 (64:Int))
 (aj (@idx Int y1.2.1 y1.1.1) (fun(y6:Int)=>aj (@idx Int y1.2.1 y1.1.1) (fun(y7:Int)=>aj (@idx Int y1.2.1 y1.1.1) (fun(y8:Int)=>some (Sum.inl ((bw IntKind.i64 y1.1.1 (1:Int),()),(@mF Int y1.2.1 y1.1.1 (lQ IntKind.u32 (lQ IntKind.u32 (lQ IntKind.u32 (fI IntKind.u32 (jv IntKind.u32 (u8 y2)) (24:Int)) (fI IntKind.u32 (jv IntKind.u32 (u8 y3)) (16:Int))) (fI IntKind.u32 (jv IntKind.u32 (u8 y4)) (8:Int))) (jv IntKind.u32 (u8 y5))),())):(cE)⊕kR)))))
 none))))))))
 (some (Sum.inr ((0:Nat),((y1.1.1,()),(y1.2.1,()))):(cE)⊕kR)))
def eT(y2:(Int×Unit)×(List (Int))×Unit):Option (cE⊕cE) :=
 @iK cE (br (iH y2.1.1 (64:Int))
 (br (within (eG IntKind.i64 y2.1.1 (2:Int)) (64:Int))
 (aj (@idx Int y2.2.1 (eG IntKind.i64 y2.1.1 (2:Int))) (fun(y3:Int)=>br (within (eG IntKind.i64 y2.1.1 (15:Int)) (64:Int))
 (aj (@idx Int y2.2.1 (eG IntKind.i64 y2.1.1 (15:Int))) (fun(y4:Int)=>aj (aP (y3,((17:Int),()))) (fun(y5:Int×Unit)=>aj (aP (y3,((19:Int),()))) (fun(y6:Int×Unit)=>br (iH (10:Int) (0:Int))
 none
 (br (within (eG IntKind.i64 y2.1.1 (7:Int)) (64:Int))
 (aj (@idx Int y2.2.1 (eG IntKind.i64 y2.1.1 (7:Int))) (fun(y7:Int)=>aj (aP (y4,((7:Int),()))) (fun(y8:Int×Unit)=>aj (aP (y4,((18:Int),()))) (fun(y9:Int×Unit)=>br (iH (3:Int) (0:Int))
 none
 (br (within (eG IntKind.i64 y2.1.1 (16:Int)) (64:Int))
 (aj (@idx Int y2.2.1 (eG IntKind.i64 y2.1.1 (16:Int))) (fun(IM:Int)=>br (within y2.1.1 (64:Int))
 (aj (@idx Int y2.2.1 y2.1.1) (fun(KQ:Int)=>aj (@idx Int y2.2.1 y2.1.1) (fun(KR:Int)=>aj (@idx Int y2.2.1 y2.1.1) (fun(ir:Int)=>some (Sum.inl ((bw IntKind.i64 y2.1.1 (1:Int),()),(@mF Int y2.2.1 y2.1.1 (bw IntKind.u32 (bw IntKind.u32 (bw IntKind.u32 (cL IntKind.u32 (cL IntKind.u32 y5.1 y6.1) (kM IntKind.u32 y3 (10:Int))) y7) (cL IntKind.u32 (cL IntKind.u32 y8.1 y9.1) (kM IntKind.u32 y4 (3:Int)))) IM),())):(cE)⊕kR)))))
 none))
 none)))))
 none)))))
 none))
 none)
 (some (Sum.inr ((0:Nat),((y2.1.1,()),(y2.2.1,()))):(cE)⊕kR)))
def dF(y2:(Int×Unit)×(List (Int))×Unit)(y3:(List (Int))×Unit)(y4:(Int×Unit)×(List (Int))×Unit):Option (cE⊕cE) :=
 @iK cE (br (iH y4.1.1 (64:Int))
 (br (within (4:Int) (8:Int))
 (aj (@idx Int y4.2.1 (4:Int)) (fun(y5:Int)=>br (within (0:Int) (8:Int))
 (aj (@idx Int y4.2.1 (0:Int)) (fun(y6:Int)=>br (within (7:Int) (8:Int))
 (aj (@idx Int y4.2.1 (7:Int)) (fun(y7:Int)=>aj (aP (y5,((6:Int),()))) (fun(y8:Int×Unit)=>aj (aP (y5,((11:Int),()))) (fun(y9:Int×Unit)=>aj (aP (y5,((25:Int),()))) (fun(IM:Int×Unit)=>br (within (5:Int) (8:Int))
 (aj (@idx Int y4.2.1 (5:Int)) (fun(KQ:Int)=>br (within (6:Int) (8:Int))
 (aj (@idx Int y4.2.1 (6:Int)) (fun(KR:Int)=>br (within y4.1.1 (64:Int))
 (aj (@idx Int y3.1 y4.1.1) (fun(ir:Int)=>br (within y4.1.1 (64:Int))
 (aj (@idx Int y2.2.1 y4.1.1) (fun(rC:Int)=>aj (aP (y6,((2:Int),()))) (fun(KS:Int×Unit)=>aj (aP (y6,((13:Int),()))) (fun(KT:Int×Unit)=>aj (aP (y6,((22:Int),()))) (fun(LF:Int×Unit)=>br (within (1:Int) (8:Int))
 (aj (@idx Int y4.2.1 (1:Int)) (fun(LG:Int)=>br (within (2:Int) (8:Int))
 (aj (@idx Int y4.2.1 (2:Int)) (fun(Mc:Int)=>br (within (1:Int) (8:Int))
 (aj (@idx Int y4.2.1 (1:Int)) (fun(MR:Int)=>br (within (2:Int) (8:Int))
 (aj (@idx Int y4.2.1 (2:Int)) (fun(MS:Int)=>br (within (0:Int) (8:Int))
 (aj (@idx Int y4.2.1 (0:Int)) (fun(OX:Int)=>br (within (1:Int) (8:Int))
 (aj (@idx Int y4.2.1 (1:Int)) (fun(OY:Int)=>br (within (2:Int) (8:Int))
 (aj (@idx Int y4.2.1 (2:Int)) (fun(OZ:Int)=>br (within (3:Int) (8:Int))
 (aj (@idx Int y4.2.1 (3:Int)) (fun(O0:Int)=>br (within (4:Int) (8:Int))
 (aj (@idx Int y4.2.1 (4:Int)) (fun(O1:Int)=>br (within (5:Int) (8:Int))
 (aj (@idx Int y4.2.1 (5:Int)) (fun(O2:Int)=>br (within (6:Int) (8:Int))
 (aj (@idx Int y4.2.1 (6:Int)) (fun(O3:Int)=>some (Sum.inl ((bw IntKind.i64 y4.1.1 (1:Int),()),(([bw IntKind.u32 (bw IntKind.u32 (bw IntKind.u32 (bw IntKind.u32 (bw IntKind.u32 y7 (cL IntKind.u32 (cL IntKind.u32 y8.1 y9.1) IM.1)) (cL IntKind.u32 (ff IntKind.u32 y5 KQ) (ff IntKind.u32 (cL IntKind.u32 (4294967295:Int) y5) KR))) ir) rC) (bw IntKind.u32 (cL IntKind.u32 (cL IntKind.u32 KS.1 KT.1) LF.1) (cL IntKind.u32 (cL IntKind.u32 (ff IntKind.u32 y6 LG) (ff IntKind.u32 y6 Mc)) (ff IntKind.u32 MR MS))),OX,OY,OZ,bw IntKind.u32 O0 (bw IntKind.u32 (bw IntKind.u32 (bw IntKind.u32 (bw IntKind.u32 y7 (cL IntKind.u32 (cL IntKind.u32 y8.1 y9.1) IM.1)) (cL IntKind.u32 (ff IntKind.u32 y5 KQ) (ff IntKind.u32 (cL IntKind.u32 (4294967295:Int) y5) KR))) ir) rC),O1,O2,O3]:List (Int)),())):(cE)⊕kR)))
 none))
 none))
 none))
 none))
 none))
 none))
 none))
 none))
 none))
 none))
 none)))))
 none))
 none))
 none))
 none)))))
 none))
 none))
 none)
 (some (Sum.inr ((0:Nat),((y4.1.1,()),(y4.2.1,()))):(cE)⊕kR)))
def eU(x:(List (Int))×Sb×Unit)(y5:(Int×Unit)×(List (Int))×Unit):Option (cE⊕cE) :=
 @iK cE (br (iH y5.1.1 (8:Int))
 (br (within y5.1.1 (8:Int))
 (aj (@idx Int y5.2.1 y5.1.1) (fun(y6:Int)=>br (within y5.1.1 (8:Int))
 (aj (@idx Int x.1 y5.1.1) (fun(y7:Int)=>br (within y5.1.1 (8:Int))
 (aj (@idx Int y5.2.1 y5.1.1) (fun(y8:Int)=>aj (@idx Int y5.2.1 y5.1.1) (fun(y9:Int)=>aj (@idx Int y5.2.1 y5.1.1) (fun(IM:Int)=>some (Sum.inl ((bw IntKind.i64 y5.1.1 (1:Int),()),(@mF Int y5.2.1 y5.1.1 (bw IntKind.u32 y6 y7),())):(cE)⊕kR)))))
 none))
 none))
 none)
 (some (Sum.inr ((0:Nat),((y5.1.1,()),(y5.2.1,()))):(cE)⊕kR)))
def jd(x:(List (Int))×Sb×Unit):Option xB :=
 aj (Loop (dD x) (((0:Int),()),(([(0:Int),(0:Int),(0:Int),(0:Int),(0:Int),(0:Int),(0:Int),(0:Int),(0:Int),(0:Int),(0:Int),(0:Int),(0:Int),(0:Int),(0:Int),(0:Int),(0:Int),(0:Int),(0:Int),(0:Int),(0:Int),(0:Int),(0:Int),(0:Int),(0:Int),(0:Int),(0:Int),(0:Int),(0:Int),(0:Int),(0:Int),(0:Int),(0:Int),(0:Int),(0:Int),(0:Int),(0:Int),(0:Int),(0:Int),(0:Int),(0:Int),(0:Int),(0:Int),(0:Int),(0:Int),(0:Int),(0:Int),(0:Int),(0:Int),(0:Int),(0:Int),(0:Int),(0:Int),(0:Int),(0:Int),(0:Int),(0:Int),(0:Int),(0:Int),(0:Int),(0:Int),(0:Int),(0:Int),(0:Int)]:List (Int)),()))) (fun(y1:(Int×Unit)×(List (Int))×Unit)=>aj (Loop (eT) (((16:Int),()),(y1.2.1,()))) (fun(y2:(Int×Unit)×(List (Int))×Unit)=>aj (kz ()) (fun(y3:(List (Int))×Unit)=>aj (Loop (dF y2 y3) (((0:Int),()),(x.1,()))) (fun(y4:(Int×Unit)×(List (Int))×Unit)=>aj (Loop (eU x) (((0:Int),()),(y4.2.1,()))) (fun(y5:(Int×Unit)×(List (Int))×Unit)=>some (y5.2.1,()))))))
def fT(y2:Sb×Unit)(y3:(Int×Unit)×(List (Int))×Unit):Option (cE⊕cE) :=
 @iK cE (br (DX (bw IntKind.i64 y3.1.1 (64:Int)) (@len UInt8 y2.1))
 (br (inside y3.1.1 (bw IntKind.i64 y3.1.1 (64:Int)) (@len UInt8 y2.1))
 (aj (jd (y3.2.1,(@sub UInt8 y2.1 y3.1.1 (minus (bw IntKind.i64 y3.1.1 (64:Int)) y3.1.1),()))) (fun(y4:(List (Int))×Unit)=>some (Sum.inl ((bw IntKind.i64 y3.1.1 (64:Int),()),(y4.1,())):(cE)⊕kR)))
 none)
 (some (Sum.inr ((0:Nat),((y3.1.1,()),(y3.2.1,()))):(cE)⊕kR)))
def fU(y3:(Int×Unit)×(List (Int))×Unit)(y4:(Int×Unit)×(List (Int))×Unit):Option (cE⊕cE) :=
 @iK cE (br (iH y4.1.1 (32:Int))
 (br (iG (4:Int) (0:Int))
 none
 (br (within (tu IntKind.i64 y4.1.1 (4:Int)) (8:Int))
 (aj (@idx Int y3.2.1 (tu IntKind.i64 y4.1.1 (4:Int))) (fun(y5:Int)=>br (iG (4:Int) (0:Int))
 none
 (br (iH (eG IntKind.i64 (24:Int) (gz IntKind.i64 (8:Int) (gf y4.1.1 (4:Int)))) (0:Int))
 none
 (br (within y4.1.1 (32:Int))
 (aj (@idx Int y4.2.1 y4.1.1) (fun(y6:Int)=>aj (@idx Int y4.2.1 y4.1.1) (fun(y7:Int)=>aj (@idx Int y4.2.1 y4.1.1) (fun(y8:Int)=>some (Sum.inl ((bw IntKind.i64 y4.1.1 (1:Int),()),(@mF Int y4.2.1 y4.1.1 (jv IntKind.u8 (kM IntKind.u32 y5 (eG IntKind.i64 (24:Int) (gz IntKind.i64 (8:Int) (gf y4.1.1 (4:Int)))))),())):(cE)⊕kR)))))
 none))))
 none))
 (some (Sum.inr ((0:Nat),((y4.1.1,()),(y4.2.1,()))):(cE)⊕kR)))
def ld(x:Sb×Unit):Option xB :=
 aj (lI ()) (fun(y1:(List (Int))×Unit)=>aj (jc (x.1,())) (fun(y2:Sb×Unit)=>aj (Loop (fT y2) (((0:Int),()),(y1.1,()))) (fun(y3:(Int×Unit)×(List (Int))×Unit)=>aj (Loop (fU y3) (((0:Int),()),(([(0:Int),(0:Int),(0:Int),(0:Int),(0:Int),(0:Int),(0:Int),(0:Int),(0:Int),(0:Int),(0:Int),(0:Int),(0:Int),(0:Int),(0:Int),(0:Int),(0:Int),(0:Int),(0:Int),(0:Int),(0:Int),(0:Int),(0:Int),(0:Int),(0:Int),(0:Int),(0:Int),(0:Int),(0:Int),(0:Int),(0:Int),(0:Int)]:List (Int)),()))) (fun(y4:(Int×Unit)×(List (Int))×Unit)=>some (y4.2.1,())))))
end Go.Ge
namespace Go.Ge
variable [Lp]
set_option maxRecDepth 100000
abbrev xC:=(Sb×Sb×Bool×Unit×Unit)
abbrev GZ:=((Int×Unit)×(Unit×Unit×Unit)×(List (Int))×Unit)
abbrev G0:=((Unit×Int×Unit)×(List (Int))×Unit)
def fo(x:Sb×Unit)(y1:(Int×Unit)×(Unit×Unit×Unit)×(List (Int))×Unit):Option (GZ⊕GZ) :=
 @iK GZ (br (iH y1.1.1 (@len Int (ah x.1)))
 (br (within y1.1.1 (@len Int (ah x.1)))
 (aj (@idx Int (ah x.1) y1.1.1) (fun(y2:Int)=>br (iH (4:Int) (0:Int))
 none
 (aj (@idx UInt8 ([(48:UInt8),(49:UInt8),(50:UInt8),(51:UInt8),(52:UInt8),(53:UInt8),(54:UInt8),(55:UInt8),(56:UInt8),(57:UInt8),(97:UInt8),(98:UInt8),(99:UInt8),(100:UInt8),(101:UInt8),(102:UInt8)]:List (UInt8)) (kM IntKind.u8 y2 (4:Int))) (fun(y3:UInt8)=>br (fits (plus (@len Int y1.2.2.1) (@len Int ([u8 y3]:List (Int)))))
 (aj (@idx UInt8 ([(48:UInt8),(49:UInt8),(50:UInt8),(51:UInt8),(52:UInt8),(53:UInt8),(54:UInt8),(55:UInt8),(56:UInt8),(57:UInt8),(97:UInt8),(98:UInt8),(99:UInt8),(100:UInt8),(101:UInt8),(102:UInt8)]:List (UInt8)) (ff IntKind.u8 y2 (15:Int))) (fun(y4:UInt8)=>br (fits (plus (@len Int (@app Int y1.2.2.1 ([u8 y3]:List (Int)))) (@len Int ([u8 y4]:List (Int)))))
 (some (Sum.inl ((bw IntKind.i64 y1.1.1 (1:Int),()),(((),((),y1.2.1.2.2)),(@app Int (@app Int y1.2.2.1 ([u8 y3]:List (Int))) ([u8 y4]:List (Int)),()))):(GZ)⊕((Nat×(Int×Unit)×(Unit×Unit×Unit)×(List (Int))×Unit))))
 none))
 none))))
 none)
 (some (Sum.inr ((0:Nat),((y1.1.1,()),(((),((),y1.2.1.2.2)),(y1.2.2.1,())))):(GZ)⊕((Nat×(Int×Unit)×(Unit×Unit×Unit)×(List (Int))×Unit)))))
def jM(x:Sb×Unit):Option (Sb×Unit) :=
 br (fits (@len UInt8 x.1))
 (aj (Loop (fo x) (((0:Int),()),(((),((),())),(([]:List (Int)),())))) (fun(y1:(Int×Unit)×(Unit×Unit×Unit)×(List (Int))×Unit)=>some (aB y1.2.2.1,())))
 none
def eg(x:Sb×Unit):Option (Sb×Unit) :=
 aj (oI (x.1,())) (fun(y1:(List (Int))×Unit)=>br (inside (0:Int) (32:Int) (32:Int))
 (aj (jM (aB (@sub Int y1.1 (0:Int) (minus (32:Int) (0:Int))),())) (fun(y2:Sb×Unit)=>br (fits (plus (@len UInt8 ([(115:UInt8),(104:UInt8),(97:UInt8),(50:UInt8),(53:UInt8),(54:UInt8),(58:UInt8)]:List (UInt8))) (@len UInt8 y2.1)))
 (some (@app UInt8 ([(115:UInt8),(104:UInt8),(97:UInt8),(50:UInt8),(53:UInt8),(54:UInt8),(58:UInt8)]:List (UInt8)) y2.1,()))
 none))
 none)
def bL(x:Sb×Sb×Unit):Option (Bool×Unit) :=
 aj (br (DX (@len UInt8 x.2.1) (@len UInt8 x.1))
 (br (inside (0:Int) (@len UInt8 x.2.1) (@len UInt8 x.1))
 (some (qd (@sub UInt8 x.1 (0:Int) (minus (@len UInt8 x.2.1) (0:Int))) x.2.1))
 none)
 (some false)) (fun(y1:Bool)=>some (y1,()))
def cj(x:Sb×Sb×Unit):Option (Sb×Bool×Unit) :=
 aj (bL (x.1,(x.2.1,()))) (fun(y1:Bool×Unit)=>br (nt y1.1)
 (some (x.1,(false,())))
 (br (inside (@len UInt8 x.2.1) (@len UInt8 x.1) (@len UInt8 x.1))
 (some (@sub UInt8 x.1 (@len UInt8 x.2.1) (minus (@len UInt8 x.1) (@len UInt8 x.2.1)),(true,())))
 none))
def eJ(x:Sb×Sb×Unit):Option (Sb×Bool×Unit) :=
 aj (cj (x.1,(x.2.1,()))) (fun(y1:Sb×Bool×Unit)=>some (y1.1,(y1.2.1,())))
def de(x:Sb×Int×Unit):Option (Int×Unit) :=
 aj (bK (x.1,(x.2.1,()))) (fun(y1:Int×Unit)=>some (y1.1,()))
def ek(y1:xC×(List (Int))×Unit):Option ((xC×(List (Int))×Unit)⊕(Nat×xC×(List (Int))×Unit)) :=
 br (nt (qd y1.1.1 ([]:List (UInt8))))
 (aj (@idx UInt8 y1.1.1 (0:Int)) (fun(y2:UInt8)=>aj (de (([(48:UInt8),(49:UInt8),(50:UInt8),(51:UInt8),(52:UInt8),(53:UInt8),(54:UInt8),(55:UInt8),(56:UInt8),(57:UInt8),(97:UInt8),(98:UInt8),(99:UInt8),(100:UInt8),(101:UInt8),(102:UInt8)]:List (UInt8)),(u8 y2,()))) (fun(y3:Int×Unit)=>aj (@idx UInt8 y1.1.1 (1:Int)) (fun(y4:UInt8)=>aj (de (([(48:UInt8),(49:UInt8),(50:UInt8),(51:UInt8),(52:UInt8),(53:UInt8),(54:UInt8),(55:UInt8),(56:UInt8),(57:UInt8),(97:UInt8),(98:UInt8),(99:UInt8),(100:UInt8),(101:UInt8),(102:UInt8)]:List (UInt8)),(u8 y4,()))) (fun(y5:Int×Unit)=>br (br (nt (iH y3.1 (0:Int)))
 (iH y5.1 (0:Int))
 true)
 (some (Sum.inr ((1:Nat),((y1.1.1,(([]:List (UInt8)),(false,((),())))),(y1.2.1,()))):((xC×(List (Int))×Unit))⊕((Nat×xC×(List (Int))×Unit))))
 (br (iH (4:Int) (0:Int))
 none
 (br (fits (plus (@len Int y1.2.1) (@len Int ([jv IntKind.u8 (lQ IntKind.i64 (fI IntKind.i64 y3.1 (4:Int)) y5.1)]:List (Int)))))
 (br (inside (2:Int) (@len UInt8 y1.1.1) (@len UInt8 y1.1.1))
 (some (Sum.inl ((@sub UInt8 y1.1.1 (2:Int) (minus (@len UInt8 y1.1.1) (2:Int)),(y1.1.2.1,(y1.1.2.2.1,((),())))),(@app Int y1.2.1 ([jv IntKind.u8 (lQ IntKind.i64 (fI IntKind.i64 y3.1 (4:Int)) y5.1)]:List (Int)),())):((xC×(List (Int))×Unit))⊕((Nat×xC×(List (Int))×Unit))))
 none)
 none)))))))
 (some (Sum.inr ((0:Nat),((y1.1.1,(y1.1.2.1,(y1.1.2.2.1,((),())))),(y1.2.1,()))):((xC×(List (Int))×Unit))⊕((Nat×xC×(List (Int))×Unit))))
def iw(x:Sb×Unit):Option (Sb×Bool×Unit) :=
 br (iG (2:Int) (0:Int))
 none
 (br (nt (iG (gf (@len UInt8 x.1) (2:Int)) (0:Int)))
 (some (([]:List (UInt8)),(false,())))
 (aj (Loop (ek) ((x.1,(([]:List (UInt8)),(false,((),())))),(([]:List (Int)),()))) (fun(y1:Nat×xC×(List (Int))×Unit)=>br (Ju y1.1 (0:Nat))
 (some (aB y1.2.2.1,(true,())))
 (some (y1.2.1.2.1,(y1.2.1.2.2.1,()))))))
def fV(x:Sb×Unit):Option (Int×Unit) :=
 aj (eJ (x.1,(([(115:UInt8),(104:UInt8),(97:UInt8),(50:UInt8),(53:UInt8),(54:UInt8),(58:UInt8)]:List (UInt8)),()))) (fun(y1:Sb×Bool×Unit)=>aj (iw (y1.1,())) (fun(y2:Sb×Bool×Unit)=>br (br (nt (br (nt (nt y1.2.1))
 (nt y2.2.1)
 true))
 (nt (iG (@len UInt8 y1.1) (64:Int)))
 true)
 (some ((2:Int),()))
 (some ((0:Int),()))))
def jn(x:Sb×Sb×Unit):Option (Bool×Unit) :=
 aj (eg (x.2.1,())) (fun(y1:Sb×Unit)=>some (qd x.1 y1.1,()))
def fC(x:Unit):Option (Bool×Unit) :=
 aj (eg (([(97:UInt8),(98:UInt8),(99:UInt8)]:List (UInt8)),())) (fun(y1:Sb×Unit)=>aj (br (iG (@len UInt8 y1.1) (71:Int))
 (br (inside (0:Int) (15:Int) (@len UInt8 y1.1))
 (some (qd (@sub UInt8 y1.1 (0:Int) (minus (15:Int) (0:Int))) ([(115:UInt8),(104:UInt8),(97:UInt8),(50:UInt8),(53:UInt8),(54:UInt8),(58:UInt8),(98:UInt8),(97:UInt8),(55:UInt8),(56:UInt8),(49:UInt8),(54:UInt8),(98:UInt8),(102:UInt8)]:List (UInt8))))
 none)
 (some false)) (fun(y2:Bool)=>aj (br y2
 (aj (fV (y1.1,())) (fun(y3:Int×Unit)=>some (iG y3.1 (0:Int))))
 (some false)) (fun(y3:Bool)=>aj (br y3
 (br (inside (1:Int) (@len UInt8 y1.1) (@len UInt8 y1.1))
 (aj (fV (@sub UInt8 y1.1 (1:Int) (minus (@len UInt8 y1.1) (1:Int)),())) (fun(y4:Int×Unit)=>some (iG y4.1 (2:Int))))
 none)
 (some false)) (fun(y4:Bool)=>aj (br y4
 (aj (jn (y1.1,(([(97:UInt8),(98:UInt8),(99:UInt8)]:List (UInt8)),()))) (fun(y5:Bool×Unit)=>some y5.1))
 (some false)) (fun(y5:Bool)=>aj (br y5
 (aj (jn (y1.1,(([(97:UInt8),(98:UInt8),(100:UInt8)]:List (UInt8)),()))) (fun(y6:Bool×Unit)=>some (nt y6.1)))
 (some false)) (fun(y6:Bool)=>some (y6,())))))))
def gG(x:Int×Unit):Option (Int×Unit) :=
 br (iH x.1 (10:Int))
 (some (jv IntKind.u8 (bw IntKind.i64 (48:Int) x.1),()))
 (some (jv IntKind.u8 (eG IntKind.i64 (bw IntKind.i64 (97:Int) x.1) (10:Int)),()))
def fW(x:Sb×Unit)(y1:(Unit×Int×Unit)×(List (Int))×Unit):Option (G0⊕G0) :=
 @iK G0 (br (iH y1.1.2.1 (@len UInt8 x.1))
 (aj (@idx UInt8 x.1 y1.1.2.1) (fun(y2:UInt8)=>br (iG (16:Int) (0:Int))
 none
 (aj (gG (tu IntKind.i64 (jv IntKind.i64 (u8 y2)) (16:Int),())) (fun(y3:Int×Unit)=>br (fits (plus (@len Int y1.2.1) (@len Int ([y3.1]:List (Int)))))
 (aj (@idx UInt8 x.1 y1.1.2.1) (fun(y4:UInt8)=>br (iG (16:Int) (0:Int))
 none
 (aj (gG (gf (jv IntKind.i64 (u8 y4)) (16:Int),())) (fun(y5:Int×Unit)=>br (fits (plus (@len Int (@app Int y1.2.1 ([y3.1]:List (Int)))) (@len Int ([y5.1]:List (Int)))))
 (some (Sum.inl (((),(bw IntKind.i64 y1.1.2.1 (1:Int),())),(@app Int (@app Int y1.2.1 ([y3.1]:List (Int))) ([y5.1]:List (Int)),())):(G0)⊕((Nat×(Unit×Int×Unit)×(List (Int))×Unit))))
 none))))
 none))))
 (some (Sum.inr ((0:Nat),(((),(y1.1.2.1,())),(y1.2.1,()))):(G0)⊕((Nat×(Unit×Int×Unit)×(List (Int))×Unit)))))
def lf(x:Sb×Unit):Option (Sb×Unit) :=
 aj (Loop (fW x) (((),((0:Int),())),(([]:List (Int)),()))) (fun(y1:(Unit×Int×Unit)×(List (Int))×Unit)=>some (aB y1.2.1,()))
def iT(x:Sb×Unit):Option (Sb×Unit) :=
 aj (ld (x.1,())) (fun(y1:(List (Int))×Unit)=>br (inside (0:Int) (32:Int) (32:Int))
 (aj (lf (aB (@sub Int y1.1 (0:Int) (minus (32:Int) (0:Int))),())) (fun(y2:Sb×Unit)=>br (fits (plus (@len UInt8 ([(115:UInt8),(104:UInt8),(97:UInt8),(50:UInt8),(53:UInt8),(54:UInt8),(58:UInt8)]:List (UInt8))) (@len UInt8 y2.1)))
 (some (@app UInt8 ([(115:UInt8),(104:UInt8),(97:UInt8),(50:UInt8),(53:UInt8),(54:UInt8),(58:UInt8)]:List (UInt8)) y2.1,()))
 none))
 none)
end Go.Ge
namespace Go.Ge
variable [Lp]
set_option maxRecDepth 100000
abbrev oS:=(Sb×(Unit×(Unit×Int×Unit)×(Unit×(Int×Int×Unit)×Unit)×Unit)×Sb×(Unit×Unit×Int×Unit)×Unit)
abbrev IP:=(((List UInt8)×((Unit×((Unit×(Int×Unit))×((Unit×((Int×(Int×Unit))×Unit))×Unit)))×((List UInt8)×((Unit×(Unit×(Int×Unit)))×Unit))))×Unit)
abbrev rj:=(Nat×(Bool×Int×Unit)×oS×Unit)
abbrev rm:=((Bool×Int×Unit)×oS×Unit)
def bP(x:Unit×IP):Option (((List UInt8)×Unit)×IP) :=
 br (iG x.2.1.2.1.2.1.2.1 (0:Int))
 (br (iG x.2.1.2.1.2.2.1.2.1.1 (0:Int)) (br (iG x.2.1.2.2.2.1.2.2.1 (0:Int))
 (aj (eg (x.2.1.1,())) fun y=>some ((y.1,()),((x.2.1.1,(((),(((),((1:Int),())),(((),(((0:Int),(x.2.1.2.1.2.2.1.2.1.2.1,())),())),()))),(y.1,(((),((),((1:Int),()))),())))),())))
 none) none)
 (some ((x.2.1.2.2.1,()),x.2))
def dh(x:Unit×oS×Unit):Option ((Sb×Unit)×oS×Unit) :=
 some ((x.2.1.1,()),((x.2.1.1,(x.2.1.2.1,(x.2.1.2.2.1,(x.2.1.2.2.2.1,())))),()))
def dI(x:Unit×IP):Option ((Int×Unit)×IP) :=
 some ((x.2.1.2.2.2.1.2.2.1,()),x.2)
def b6(x:Int×Unit)(y1:(Bool×Int×Unit)×oS×Unit):Option (rm⊕rj) :=
 br (iH y1.1.2.1 (bw IntKind.i64 (1:Int) (jv IntKind.i64 (ff IntKind.u8 x.1 (3:Int)))))
 (aj (eg (([]:List (UInt8)),())) (fun(y2:Sb×Unit)=>aj (iT (([]:List (UInt8)),())) (fun(y3:Sb×Unit)=>br (nt (nt (qd y2.1 y3.1)))
 (br (nt (nt (qd ([]:List (UInt8)) ([]:List (UInt8)))))
 (aj (bP ((),((y1.2.1.1,(y1.2.1.2.1,(y1.2.1.2.2.1,(y1.2.1.2.2.2.1,())))),()))) (fun(y4:(Sb×Unit)×oS×Unit)=>aj (iT (([]:List (UInt8)),())) (fun(y5:Sb×Unit)=>br (nt (nt (qd y4.1.1 y5.1)))
 (aj (dh ((),((y4.2.1.1,(y4.2.1.2.1,(y4.2.1.2.2.1,(y4.2.1.2.2.2.1,())))),()))) (fun(y6:(Sb×Unit)×oS×Unit)=>br (nt (nt (qd y6.1.1 ([]:List (UInt8)))))
 (aj (dI ((),((y6.2.1.1,(y6.2.1.2.1,(y6.2.1.2.2.1,(y6.2.1.2.2.2.1,())))),()))) (fun(y7:(Int×Unit)×oS×Unit)=>br (nt (iG y7.1.1 (1:Int)))
 (some (Sum.inr ((1:Nat),((false,(y1.1.2.1,())),((y7.2.1.1,(y7.2.1.2.1,(y7.2.1.2.2.1,(y7.2.1.2.2.2.1,())))),()))):(rm)⊕(rj)))
 (some (Sum.inl ((y1.1.1,(bw IntKind.i64 y1.1.2.1 (1:Int),())),((y7.2.1.1,(y7.2.1.2.1,(y7.2.1.2.2.1,(y7.2.1.2.2.2.1,())))),())):(rm)⊕(rj)))))
 (some (Sum.inr ((1:Nat),((false,(y1.1.2.1,())),((y6.2.1.1,(y6.2.1.2.1,(y6.2.1.2.2.1,(y6.2.1.2.2.2.1,())))),()))):(rm)⊕(rj)))))
 (some (Sum.inr ((1:Nat),((false,(y1.1.2.1,())),((y4.2.1.1,(y4.2.1.2.1,(y4.2.1.2.2.1,(y4.2.1.2.2.2.1,())))),()))):(rm)⊕(rj))))))
 (some (Sum.inr ((1:Nat),((false,(y1.1.2.1,())),((y1.2.1.1,(y1.2.1.2.1,(y1.2.1.2.2.1,(y1.2.1.2.2.2.1,y1.2.1.2.2.2.2)))),()))):(rm)⊕(rj))))
 (some (Sum.inr ((1:Nat),((false,(y1.1.2.1,())),((y1.2.1.1,(y1.2.1.2.1,(y1.2.1.2.2.1,(y1.2.1.2.2.2.1,y1.2.1.2.2.2.2)))),()))):(rm)⊕(rj))))))
 (some (Sum.inr ((0:Nat),((y1.1.1,(y1.1.2.1,())),((y1.2.1.1,(y1.2.1.2.1,(y1.2.1.2.2.1,(y1.2.1.2.2.2.1,y1.2.1.2.2.2.2)))),()))):(rm)⊕(rj)))
def en(x:Int×Unit):Option (Bool×Unit) :=
 aj (Loop (b6 x) ((false,((0:Int),())),((([]:List (UInt8)),(((),(((),((0:Int),())),(((),(((0:Int),((0:Int),())),())),()))),(([]:List (UInt8)),(((),((),((0:Int),()))),())))),()))) (fun(y1:Nat×(Bool×Int×Unit)×oS×Unit)=>br (Ju y1.1 (0:Nat))
 (aj (fC ()) (fun(y2:Bool×Unit)=>some (y2.1,())))
 (some (y1.2.1.1,())))
def nu(x:Sb×Int×Unit)(y3:(Bool×Int×Unit)×oS×Unit):Option (rm⊕rj) :=
 br (iH y3.1.2.1 (jv IntKind.i64 (ff IntKind.u8 x.2.1 (7:Int))))
 (aj (bP ((),((y3.2.1.1,(y3.2.1.2.1,(y3.2.1.2.2.1,(y3.2.1.2.2.2.1,())))),()))) (fun(y4:(Sb×Unit)×oS×Unit)=>aj (iT (x.1,())) (fun(y5:Sb×Unit)=>br (nt (nt (qd y4.1.1 y5.1)))
 (aj (dI ((),((y4.2.1.1,(y4.2.1.2.1,(y4.2.1.2.2.1,(y4.2.1.2.2.2.1,())))),()))) (fun(y6:(Int×Unit)×oS×Unit)=>br (nt (nt (iG y6.1.1 (1:Int))))
 (aj (dh ((),((y6.2.1.1,(y6.2.1.2.1,(y6.2.1.2.2.1,(y6.2.1.2.2.2.1,())))),()))) (fun(y7:(Sb×Unit)×oS×Unit)=>br (nt (qd y7.1.1 x.1))
 (some (Sum.inr ((1:Nat),((false,(y3.1.2.1,())),((y7.2.1.1,(y7.2.1.2.1,(y7.2.1.2.2.1,(y7.2.1.2.2.2.1,())))),()))):(rm)⊕(rj)))
 (some (Sum.inl ((y3.1.1,(bw IntKind.i64 y3.1.2.1 (1:Int),())),((y7.2.1.1,(y7.2.1.2.1,(y7.2.1.2.2.1,(y7.2.1.2.2.2.1,())))),())):(rm)⊕(rj)))))
 (some (Sum.inr ((1:Nat),((false,(y3.1.2.1,())),((y6.2.1.1,(y6.2.1.2.1,(y6.2.1.2.2.1,(y6.2.1.2.2.2.1,())))),()))):(rm)⊕(rj)))))
 (some (Sum.inr ((1:Nat),((false,(y3.1.2.1,())),((y4.2.1.1,(y4.2.1.2.1,(y4.2.1.2.2.1,(y4.2.1.2.2.2.1,())))),()))):(rm)⊕(rj))))))
 (some (Sum.inr ((0:Nat),((y3.1.1,(y3.1.2.1,())),((y3.2.1.1,(y3.2.1.2.1,(y3.2.1.2.2.1,(y3.2.1.2.2.2.1,y3.2.1.2.2.2.2)))),()))):(rm)⊕(rj)))
def p6(x:Sb×Int×Unit):Option (Bool×Unit) :=
 br (iH (1024:Int) (@len UInt8 x.1))
 (aj (fC ()) (fun(y1:Bool×Unit)=>some (y1.1,())))
 (aj (dI ((),((x.1,(((),(((),((0:Int),())),(((),(((0:Int),((0:Int),())),())),()))),(([]:List (UInt8)),(((),((),((0:Int),()))),())))),()))) (fun(y1:(Int×Unit)×oS×Unit)=>br (nt (nt (iG y1.1.1 (0:Int))))
 (aj (dh ((),((y1.2.1.1,(y1.2.1.2.1,(y1.2.1.2.2.1,(y1.2.1.2.2.2.1,())))),()))) (fun(y2:(Sb×Unit)×oS×Unit)=>br (nt (qd y2.1.1 x.1))
 (some (false,()))
 (aj (Loop (nu x) ((false,((0:Int),())),((y2.2.1.1,(y2.2.1.2.1,(y2.2.1.2.2.1,(y2.2.1.2.2.2.1,())))),()))) (fun(y3:Nat×(Bool×Int×Unit)×oS×Unit)=>br (Ju y3.1 (0:Nat))
 (aj (fC ()) (fun(y4:Bool×Unit)=>some (y4.1,())))
 (some (y3.2.1.1,()))))))
 (some (false,()))))
end Go.Ge
namespace Go.Ge
variable [Lp]
theorem eV{a b:Int}(h:-9223372036854775808≤a+b)(h2:a+b≤9223372036854775807):bw .i64 a b=a+b:=by
 unfold bw;simp[IntKind.wrap,IntKind.min,IntKind.max,IntKind.signed,IntKind.bits];omega
theorem fX{a b:Int}(h:-9223372036854775808≤a-b)(h2:a-b≤9223372036854775807):eG .i64 a b=a-b:=by
 unfold eG;simp[IntKind.wrap,IntKind.min,IntKind.max,IntKind.signed,IntKind.bits];omega
theorem rq{a b:Int}(h:-9223372036854775808≤a*b)(h2:a*b≤9223372036854775807):gz .i64 a b=a*b:=by
 unfold gz;simp[IntKind.wrap,IntKind.min,IntKind.max,IntKind.signed,IntKind.bits];omega
theorem zB{a:Int}(h:-9223372036854775808≤a)(h2:a≤9223372036854775807):jv .i64 a=a:=by
 unfold jv;simp[IntKind.wrap,IntKind.min,IntKind.max,IntKind.signed,IntKind.bits];omega
theorem Kr(a:Int):jv .u8 a=a % 256:=by
 unfold jv;simp[IntKind.wrap,IntKind.min,IntKind.max,IntKind.signed,IntKind.bits]
theorem wrap_u32(a:Int):IntKind.wrap .u32 a=a % 4294967296:=by
 simp[IntKind.wrap,IntKind.min,IntKind.max,IntKind.signed,IntKind.bits]
def Bv(x:Int):BitVec 32:=BitVec.ofInt 32 x
def Can(x:Int):Prop:=0≤x∧x<4294967296
theorem Bh(a:Int):Can (IntKind.wrap .u32 a):=by rw[wrap_u32];unfold Can;omega
theorem kC(a:Int):((Bv a).toNat:Int)=a % 4294967296:=by
 unfold Bv;rw[BitVec.toNat_ofInt];have:0≤a % ((2 ^ 32:Nat):Int):=Int.emod_nonneg _ (by decide);rw[Fx this];rfl
theorem IQ{a b:Int}(ha:Can a)(hb:Can b)(h:Bv a=Bv b):a=b:=by
 have h1:=kC a;have h2:=kC b;rw[h] at h1;unfold Can at ha hb;omega
theorem ux(a:Int):Bv (IntKind.wrap .u32 a)=Bv a:=by
 apply Fu;have h1:=kC a;have h2:=kC (IntKind.wrap .u32 a);rw[wrap_u32] at h2⊢;omega
theorem CP(v:BitVec 32):Bv (v.toNat:Int)=v:=by
 apply Fu;have h1:=kC (v.toNat:Int);have:=v.isLt;omega
theorem bv_and(x y:Int):Bv (ff .u32 x y)=Bv x &&& Bv y:=by unfold ff;rw[ux];exact CP _
theorem DD(x y:Int):Bv (lQ .u32 x y)=Bv x ||| Bv y:=by unfold lQ;rw[ux];exact CP _
theorem G1(x y:Int):Bv (cL .u32 x y)=Bv x ^^^ Bv y:=by unfold cL;rw[ux];exact CP _
theorem v7(x y:Int):Can (lQ .u32 x y):=Bh _
theorem zC(x y:Int):Can (cL .u32 x y):=Bh _
theorem CQ(x:Int)(n:Nat)(hn:n≤32):Bv (fI .u32 x n)=Bv x <<< n:=by
 unfold fI;rw[ux];apply Fu;have h1:=kC (x*2 ^ (min (n:Int).toNat IntKind.u32.bits));have h2:=kC x;have e:min (n:Int).toNat IntKind.u32.bits=n:=by simp[IntKind.bits];omega
 rw[e] at h1⊢;rw[BitVec.toNat_shiftLeft,Nat.shiftLeft_eq];have h3:(((Bv x).toNat*2 ^ n % 2 ^ 32:Nat):Int)=(x*2 ^ n) % 4294967296:=by
  rw[Int.natCast_emod,Int.natCast_mul,h2,Int.natCast_pow];show(x % 4294967296*2 ^ n) % 4294967296=_
  rw[Int.mul_emod,Int.emod_emod_of_dvd _ (Int.dvd_refl _),←Int.mul_emod]
 omega
theorem CR(x y:Int):lQ .u32 x y=lQ .u32 y x:=IQ (v7 _ _) (v7 _ _) (by rw[DD,DD,BitVec.or_comm])
theorem Bi(x y:Int):bw .u32 x y=bw .u32 y x:=by unfold bw;rw[Int.add_comm]
theorem LH(e f g:Int):cL .u32 g (ff .u32 e (cL .u32 f g))=cL .u32 (ff .u32 e f) (ff .u32 (cL .u32 4294967295 e) g):=by
 refine IQ (zC _ _) (zC _ _) ?_;simp only[G1,bv_and];have h:Bv 4294967295=BitVec.allOnes 32:=by decide
 rw[h]
 ext i hi
 simp only[BitVec.getElem_xor,BitVec.getElem_and,BitVec.getElem_allOnes];cases (Bv e)[i]<;>cases (Bv f)[i]<;>cases (Bv g)[i]<;>rfl
theorem Ks(a b c:Int):lQ .u32 (ff .u32 a b) (ff .u32 c (lQ .u32 a b))=cL .u32 (cL .u32 (ff .u32 a b) (ff .u32 a c)) (ff .u32 b c):=by
 refine IQ (v7 _ _) (zC _ _) ?_;simp only[G1,bv_and,DD]
 ext i hi
 simp only[BitVec.getElem_xor,BitVec.getElem_and,BitVec.getElem_or];cases (Bv a)[i]<;>cases (Bv b)[i]<;>cases (Bv c)[i]<;>rfl
theorem IU(a b c d:Int):lQ .u32 (fI .u32 (lQ .u32 (fI .u32 (lQ .u32 (fI .u32 (lQ .u32 (fI .u32 0 8) a) 8) b) 8) c) 8) d=lQ .u32 (lQ .u32 (lQ .u32 (fI .u32 a 24) (fI .u32 b 16)) (fI .u32 c 8)) d:=by
 refine IQ (v7 _ _) (v7 _ _) ?_;have s8:∀x,Bv (fI .u32 x 8)=Bv x <<< 8:=fun x=>CQ x 8 (by decide);have O4:∀x,Bv (fI .u32 x 16)=Bv x <<< 16:=fun x=>CQ x 16 (by decide);have O5:∀x,Bv (fI .u32 x 24)=Bv x <<< 24:=fun x=>CQ x 24 (by decide);simp only[DD,s8,O4,O5];have z:Bv 0=0#32:=by decide
 rw[z];simp[BitVec.shiftLeft_or_distrib,←BitVec.shiftLeft_add]
theorem cN{a b:Int}(h:a<b):iH a b=true:=by simp[iH,h]
theorem aQ{a b:Int}(h:b≤a):iH a b=false:=by simp[iH];omega
theorem v8{a b:Int}(h:a≤b):DX a b=true:=by simp[DX,h]
theorem so{a b:Int}(h:b<a):DX a b=false:=by simp[DX];omega
theorem nW{a b:Int}(h:a=b):iG a b=true:=by simp[iG,h]
theorem cU{a b:Int}(h:a≠b):iG a b=false:=by simp[iG,h]
theorem aU{i n:Int}(h0:0≤i)(h1:i<n):within i n=true:=by simp[within,h0,h1]
theorem cz{i j n:Int}(h0:0≤i)(h1:i≤j)(h2:j≤n):inside i j n=true:=by simp[inside,h0,h1,h2]
theorem fD{n:Int}(h:n≤4294967296):fits n=true:=by simp[fits,h]
theorem b7{S:Type}(s:S):iK (some (.inl s:S⊕(Nat×S)))=some (.inl s):=rfl
theorem ck{S:Type}(n:Nat)(s:S):iK (some (.inr (n,s):S⊕(Nat×S)))=some (.inr s):=rfl
theorem cD{α:Type}(l:List α)(d:α){i:Nat}(h:i<l.length):idx l (i:Int)=some (l.getD i d):=by
 rw[uw,sC h,Bz,sC h];rfl
theorem fY{α:Type}(l:List α)(d:α){i:Int}{k:Nat}(e:i=k)(h:k<l.length):idx l i=some (l.getD k d):=by subst e;exact cD l d h
theorem iy{α:Type}(l:List α)(i:Nat)(x:α):mF l (i:Int) x=l.set i x:=by simp[mF]
end Go.Ge
namespace Go.Ge
variable [Lp]
def oJ(n x:Int):Int:=lQ .u32 (kM .u32 x n) (fI .u32 x (32-n))
theorem gH{n m:Int}(h:ff .u64 (jv .u64 (eG .i64 0 n)) 31=m)(h1:iH m 0=false)(h2:eG .u64 32 m=n)(h3:iH n 0=false)(h4:32-n=m)(x:Int):aT (x,(n,()))=some (oJ n x,()):=by
 unfold aT eE oJ;dsimp only;rw[h,h1,ax,h2,h3,ax,aa,h4,CR]
theorem je{n:Int}(h1:iH n 0=false)(h2:eG .i64 32 n=32-n)(h3:iH (32-n) 0=false)(x:Int):aP (x,(n,()))=some (oJ n x,()):=by
 unfold aP oJ;dsimp only;rw[h1,ax,h2,h3,ax]
theorem r7(x:Int):aT (x,(7,()))=some (oJ 7 x,()):=gH (m:=25) (by decide) (by decide) (by decide) (by decide) (by decide) x
theorem O6(x:Int):aT (x,(18,()))=some (oJ 18 x,()):=gH (m:=14) (by decide) (by decide) (by decide) (by decide) (by decide) x
theorem O7(x:Int):aT (x,(17,()))=some (oJ 17 x,()):=gH (m:=15) (by decide) (by decide) (by decide) (by decide) (by decide) x
theorem O8(x:Int):aT (x,(19,()))=some (oJ 19 x,()):=gH (m:=13) (by decide) (by decide) (by decide) (by decide) (by decide) x
theorem r6(x:Int):aT (x,(6,()))=some (oJ 6 x,()):=gH (m:=26) (by decide) (by decide) (by decide) (by decide) (by decide) x
theorem O9(x:Int):aT (x,(11,()))=some (oJ 11 x,()):=gH (m:=21) (by decide) (by decide) (by decide) (by decide) (by decide) x
theorem Pb(x:Int):aT (x,(25,()))=some (oJ 25 x,()):=gH (m:=7) (by decide) (by decide) (by decide) (by decide) (by decide) x
theorem r2(x:Int):aT (x,(2,()))=some (oJ 2 x,()):=gH (m:=30) (by decide) (by decide) (by decide) (by decide) (by decide) x
theorem Pc(x:Int):aT (x,(13,()))=some (oJ 13 x,()):=gH (m:=19) (by decide) (by decide) (by decide) (by decide) (by decide) x
theorem Pd(x:Int):aT (x,(22,()))=some (oJ 22 x,()):=gH (m:=10) (by decide) (by decide) (by decide) (by decide) (by decide) x
theorem t7(x:Int):aP (x,(7,()))=some (oJ 7 x,()):=je (by decide) (by decide) (by decide) x
theorem t18(x:Int):aP (x,(18,()))=some (oJ 18 x,()):=je (by decide) (by decide) (by decide) x
theorem t17(x:Int):aP (x,(17,()))=some (oJ 17 x,()):=je (by decide) (by decide) (by decide) x
theorem t19(x:Int):aP (x,(19,()))=some (oJ 19 x,()):=je (by decide) (by decide) (by decide) x
theorem t6(x:Int):aP (x,(6,()))=some (oJ 6 x,()):=je (by decide) (by decide) (by decide) x
theorem t11(x:Int):aP (x,(11,()))=some (oJ 11 x,()):=je (by decide) (by decide) (by decide) x
theorem t25(x:Int):aP (x,(25,()))=some (oJ 25 x,()):=je (by decide) (by decide) (by decide) x
theorem t2(x:Int):aP (x,(2,()))=some (oJ 2 x,()):=je (by decide) (by decide) (by decide) x
theorem t13(x:Int):aP (x,(13,()))=some (oJ 13 x,()):=je (by decide) (by decide) (by decide) x
theorem t22(x:Int):aP (x,(22,()))=some (oJ 22 x,()):=je (by decide) (by decide) (by decide) x
def word(b:List Int)(t:Nat):Int :=
 lQ .u32 (lQ .u32 (lQ .u32 (fI .u32 (jv .u32 (b.getD (4*t) 0)) 24) (fI .u32 (jv .u32 (b.getD (4*t+1) 0)) 16)) (fI .u32 (jv .u32 (b.getD (4*t+2) 0)) 8)) (jv .u32 (b.getD (4*t+3) 0))
def cH(n:Nat):List Int:=List.replicate n 0
def mo(b:List Int):Nat→List Int
 | 0=>cH 64
 | t+1=>(mo b t).set t (word b t)
theorem jo(b:List Int)(t:Nat):(mo b t).length=64:=by
 induction t with
 | zero=>rfl
 | succ t ih=>simp[mo,ih]
theorem EF(b:List Int):∀(t j:Nat),t≤j→j<64→(mo b t).getD j 0=0:=by
 intro t;induction t with
 | zero =>
   intro j _ hj;show(List.replicate 64 (0:Int)).getD j 0=0
   rw[Bz,JW,gd hj];rfl
 | succ t ih =>
   intro j h1 h2;have:=ih j (by omega) h2;simp only[mo,Bz,Db] at this⊢;rw[cY (by omega)];exact this
def LI(p:List Int)(t:Nat):Int :=
 bw .u32 (bw .u32 (bw .u32 (cL .u32 (cL .u32 (oJ 17 (p.getD (t-2) 0)) (oJ 19 (p.getD (t-2) 0))) (kM .u32 (p.getD (t-2) 0) 10)) (p.getD (t-7) 0))
  (cL .u32 (cL .u32 (oJ 7 (p.getD (t-15) 0)) (oJ 18 (p.getD (t-15) 0))) (kM .u32 (p.getD (t-15) 0) 3))) (p.getD (t-16) 0)
def tX(l:List Int):Nat→List Int
 | 0=>l
 | k+1=>(tX l k).set (16+k) (LI (tX l k) (16+k))
theorem p7(l:List Int)(k:Nat):(tX l k).length=l.length:=by
 induction k with
 | zero=>rfl
 | succ k ih=>simp[tX,ih]
def kD(b:List Int):List Int:=tX (mo b 16) 48
theorem ru(b:List Int):(kD b).length=64:=by unfold kD;rw[p7,jo]
theorem four{t:Nat}(ht:t<64):gz .i64 4 (t:Int)=((4*t:Nat):Int):=by rw[rq (by omega) (by omega)];omega
theorem Bj(b:List Int)(hb:b.length=64)(t:Nat)(ht:t<16)(w:List Int)(hw:w.length=64)(h0:w.getD t 0=0)(u v:Unit)(y:List Int×Unit) :
  Loop (dZ (b,u) (((t:Int),v),y)) ((0,()),(w,()))=some (((4:Int),()),(w.set t (word b t),())):=by
 let a:Nat→Int:=fun j=>match j with
  | 0=>0
  | 1=>lQ .u32 (fI .u32 0 8) (jv .u32 (b.getD (4*t) 0))
  | 2=>lQ .u32 (fI .u32 (lQ .u32 (fI .u32 0 8) (jv .u32 (b.getD (4*t) 0))) 8) (jv .u32 (b.getD (4*t+1) 0))
  | 3=>lQ .u32 (fI .u32 (lQ .u32 (fI .u32 (lQ .u32 (fI .u32 0 8) (jv .u32 (b.getD (4*t) 0))) 8) (jv .u32 (b.getD (4*t+1) 0))) 8) (jv .u32 (b.getD (4*t+2) 0))
  | _=>word b t
 have hstep:∀j,j<4→a (j+1)=lQ .u32 (fI .u32 (a j) 8) (jv .u32 (b.getD (4*t+j) 0)):=by
  intro j hj;rcases(by omega:j=0∨j=1∨j=2∨j=3) with rfl|rfl|rfl|rfl
  ·rfl
  ·rfl
  ·rfl
  ·exact(IU _ _ _ _).symm
 have hw0:w=w.set t 0:=by
  apply zO;intro j;rw[Db];split
  ·rename_i e;subst e;rw[gd (by omega)];rw[Bz,sC (by omega)] at h0;rw[sC (by omega)];simpa using h0
  ·rfl
 have:=cM (f:=dZ (b,u) (((t:Int),v),y)) (r:=(((4:Int),()),(w.set t (word b t),()))) 4 (fun j=>(((j:Int),()),(w.set t (a j),()))) (fun j hj=>by
  unfold dZ;dsimp only;rw[four (by omega),eV (by omega) (by omega)];have e4:minus (((4*t:Nat):Int)+4) ((4*t:Nat):Int)=4:=by unfold minus;omega
  rw[e4,cN (by omega),aq,aU (by omega) (by omega),aq,aU (by omega) (by omega)];have hl:(w.set t (a j)).length=64:=by simp[hw]
  have hg:(w.set t (a j)).getD t 0=a j:=by simp[Bz,hw,ht,(by omega:t<64)]
  rw[fY b 0 (i:=plus ((4*t:Nat):Int) j) (k:=4*t+j) (by unfold plus;omega) (by omega),aa,aq,cD _ 0 (by rw[hl];omega),hg,aa,aQ (by decide),ax,aq,aa,aa,aa,b7,dY (by omega),iy,List.set_set,hstep j hj])
  (by
   unfold dZ;dsimp only;rw[four (by omega),eV (by omega) (by omega)];have e4:minus (((4*t:Nat):Int)+4) ((4*t:Nat):Int)=4:=by unfold minus;omega
   rw[e4,aQ (by omega),ax,ck];rfl)
 have Pe:w.set t (a 0)=w:=hw0.symm;rw[Pe] at this;exact this
theorem DE:([0,0,0,0,0,0,0,0,0,0,0,0,0,0,0,0,0,0,0,0,0,0,0,0,0,0,0,0,0,0,0,0,0,0,0,0,0,0,0,0,0,0,0,0,0,0,0,0,0,0,0,0,0,0,0,0,0,0,0,0,0,0,0,0]:List Int)=cH 64:=rfl
theorem Bk(b:List Int)(hb:b.length=64)(u:Unit):Loop (ec (b,u)) ((0,()),(cH 64,()))=some (((16:Int),()),(mo b 16,())):=by
 refine cM (f:=ec (b,u)) 16 (fun t=>(((t:Int),()),(mo b t,()))) (fun t ht=>?_) ?_
 ·unfold ec;dsimp only;rw[cN (by omega),aq,four (by omega),eV (by omega) (by omega),cz (by omega) (by omega) (by omega),aq,Bj b hb t ht _ (jo b t) (EF b t t (dB _) (by omega)),aa,b7,dY (by omega)];rfl
 ·unfold ec;dsimp only;rw[aQ (by omega),ax,ck];rfl
theorem EG(l:List Int)(hl:l.length=64):Loop ef ((16,()),(l,()))=some (((64:Int),()),(tX l 48,())):=by
 refine cM (f:=ef) 48 (fun k=>((((16+k:Nat):Int),()),(tX l k,()))) (fun k hk=>?_) ?_
 ·have hlen:(tX l k).length=64:=by rw[p7,hl]
  unfold ef;dsimp only;rw[cN (by omega),aq,fX (by omega) (by omega),fX (by omega) (by omega),fX (by omega) (by omega),fX (by omega) (by omega),
   aU (by omega) (by omega),aq,fY _ 0 (k:=16+k-2) (by omega) (by omega),aa,aU (by omega) (by omega),aq,fY _ 0 (k:=16+k-15) (by omega) (by omega),aa,
   r7,aa,O6,aa,aQ (by decide),ax,O7,aa,O8,aa,aQ (by decide),ax,aU (by omega) (by omega),aq,fY _ 0 (k:=16+k-7) (by omega) (by omega),aa,
   aU (by omega) (by omega),aq,fY _ 0 (k:=16+k-16) (by omega) (by omega),aa,aU (by omega) (by omega),aq,cD _ 0 (by omega),aa,aa,aa,b7,dY (by omega),iy]
  rfl
 ·unfold ef;dsimp only;rw[aQ (by omega),ax,ck];rfl
theorem zD(b:List Int)(hb:b.length=64)(u:Unit):iu (b,u)=some (kD b,()):=by
 unfold iu;rw[DE,Bk b hb,aa];dsimp only;rw[EG _ (jo b 16),aa];dsimp only[kD]
theorem G2(s:List UInt8){i:Nat}(h:i<s.length)(x:UInt8)(hx:s[i]?=some x):u8 x=(ah s).getD i 0:=by
 simp[ah,Bz,hx,u8]
theorem EH(h:List Int)(s:List UInt8)(hs:s.length=64)(u:Unit):Loop (dD (h,(s,u))) ((0,()),(cH 64,()))=some (((16:Int),()),(mo (ah s) 16,())):=by
 have key:∀b:List Int,b=ah s→Loop (dD (h,(s,u))) ((0,()),(cH 64,()))=some (((16:Int),()),(mo b 16,())):=by
  intro b hb;refine cM (f:=dD (h,(s,u))) 16 (fun t=>(((t:Int),()),(mo b t,()))) (fun t ht=>?_) ?_
  ·have at_:∀(i:Int) (j:Nat),i=j→j<64→∃x,idx s i=some x∧u8 x=b.getD j 0:=by
    intro i j e hj;subst e;refine⟨s[j],?_,by rw[hb];exact G2 s (by omega) _ (sC (by omega))⟩;rw[uw,sC]
   unfold dD;dsimp only;rw[cN (by omega),aq,four (by omega),eV (by omega) (by omega),eV (by omega) (by omega),eV (by omega) (by omega)];obtain⟨x0,i0,e0⟩:=at_ ((4*t:Nat):Int) (4*t) rfl (by omega);obtain⟨x1,i1,e1⟩:=at_ (((4*t:Nat):Int)+1) (4*t+1) (by omega) (by omega);obtain⟨x2,i2,e2⟩:=at_ (((4*t:Nat):Int)+2) (4*t+2) (by omega) (by omega);obtain⟨x3,i3,e3⟩:=at_ (((4*t:Nat):Int)+3) (4*t+3) (by omega) (by omega);rw[i0,aa,aQ (by decide),ax,i1,aa,aQ (by decide),ax,i2,aa,aQ (by decide),ax,i3,aa,aU (by omega) (by omega),aq,
    cD _ 0 (by rw[jo];omega),aa,aa,aa,b7,dY (by omega),iy,e0,e1,e2,e3]
   rfl
  ·unfold dD;dsimp only;rw[aQ (by omega),ax,ck];rfl
 exact key _ rfl
theorem IV(l:List Int)(hl:l.length=64):Loop eT ((16,()),(l,()))=some (((64:Int),()),(tX l 48,())):=by
 refine cM (f:=eT) 48 (fun k=>((((16+k:Nat):Int),()),(tX l k,()))) (fun k hk=>?_) ?_
 ·have hlen:(tX l k).length=64:=by rw[p7,hl]
  unfold eT;dsimp only;rw[cN (by omega),aq,fX (by omega) (by omega),fX (by omega) (by omega),fX (by omega) (by omega),fX (by omega) (by omega),
   aU (by omega) (by omega),aq,fY _ 0 (k:=16+k-2) (by omega) (by omega),aa,aU (by omega) (by omega),aq,fY _ 0 (k:=16+k-15) (by omega) (by omega),aa,
   t17,aa,t19,aa,aQ (by decide),ax,aU (by omega) (by omega),aq,fY _ 0 (k:=16+k-7) (by omega) (by omega),aa,t7,aa,t18,aa,aQ (by decide),ax,
   aU (by omega) (by omega),aq,fY _ 0 (k:=16+k-16) (by omega) (by omega),aa,aU (by omega) (by omega),aq,cD _ 0 (by omega),aa,aa,aa,b7,dY (by omega),iy]
  rfl
 ·unfold eT;dsimp only;rw[aQ (by omega),ax,ck];rfl
abbrev W8:=Int×Int×Int×Int×Int×Int×Int×Int
def MT(k w:Int):W8→W8
 | (a,b,c,d,e,f,g,h) =>
   let one:=bw .u32 (bw .u32 (bw .u32 (bw .u32 h (cL .u32 (cL .u32 (oJ 6 e) (oJ 11 e)) (oJ 25 e))) (cL .u32 g (ff .u32 e (cL .u32 f g)))) k) w
   let two:=bw .u32 (cL .u32 (cL .u32 (oJ 2 a) (oJ 13 a)) (oJ 22 a)) (lQ .u32 (ff .u32 a b) (ff .u32 c (lQ .u32 a b)))
   (bw .u32 one two,a,b,c,bw .u32 d one,e,f,g)
def ry(K w:List Int)(s:W8):Nat→W8
 | 0=>s
 | t+1=>MT (K.getD t 0) (w.getD t 0) (ry K w s t)
def jq:List Int:=[1116352408,1899447441,3049323471,3921009573,961987163,1508970993,2453635748,2870763221,3624381080,310598401,607225278,1426881987,1925078388,2162078206,2614888103,3248222580,3835390401,4022224774,264347078,604807628,770255983,1249150122,1555081692,1996064986,2554220882,2821834349,2952996808,3210313671,3336571891,3584528711,113926993,338241895,666307205,773529912,1294757372,1396182291,1695183700,1986661051,2177026350,2456956037,2730485921,2820302411,3259730800,3345764771,3516065817,3600352804,4094571909,275423344,430227734,506948616,659060556,883997877,958139571,1322822218,1537002063,1747873779,1955562222,2024104815,2227730452,2361852424,2428436474,2756734187,3204031479,3329325298]
theorem EI:nV ()=some (jq,()):=rfl
theorem CS:kz ()=some (jq,()):=rfl
def iJ(s:W8)(t:Int):Int×Int×Int×Int×Int×Int×Int×Int×Int×Unit:=(s.1,s.2.1,s.2.2.1,s.2.2.2.1,s.2.2.2.2.1,s.2.2.2.2.2.1,s.2.2.2.2.2.2.1,s.2.2.2.2.2.2.2,t,())
def eF(s:W8):List Int:=[s.1,s.2.1,s.2.2.1,s.2.2.2.1,s.2.2.2.2.1,s.2.2.2.2.2.1,s.2.2.2.2.2.2.1,s.2.2.2.2.2.2.2]
theorem CT(w:List Int)(hw:w.length=64)(s:W8)(u v:Unit):Loop (cm (jq,u) (w,v)) (iJ s 0,())=some (iJ (ry jq w s 64) 64,()):=by
 refine cM (f:=cm (jq,u) (w,v)) 64 (fun t=>(iJ (ry jq w s t) t,())) (fun t ht=>?_) ?_
 ·show cm (jq,u) (w,v) (iJ (ry jq w s t) t,())=some (.inl (iJ (MT (jq.getD t 0) (w.getD t 0) (ry jq w s t)) ((t+1:Nat):Int),()))
  generalize ry jq w s t=q;obtain⟨a,b,c,d,e,f,g,h⟩:=q;unfold cm iJ;dsimp only;rw[cN (by omega),aq,r6,aa,O9,aa,Pb,aa,aU (by omega) (by omega),aq,cD jq 0 (by show t<64;omega),aa,aq,cD w 0 (by omega),aa,
   r2,aa,Pc,aa,Pd,aa,b7,dY (by omega)]
  rfl
 ·unfold cm iJ;dsimp only;rw[aQ (by omega),ax,ck];rfl
theorem CU(w:List Int)(hw:w.length=64)(s:W8)(q:Int×Unit)(u v:Unit):Loop (dF (q,(w,u)) (jq,v)) ((0,()),(eF s,()))=some (((64:Int),()),(eF (ry jq w s 64),())):=by
 refine cM (f:=dF (q,(w,u)) (jq,v)) 64 (fun t=>(((t:Int),()),(eF (ry jq w s t),()))) (fun t ht=>?_) ?_
 ·show dF (q,(w,u)) (jq,v) (((t:Int),()),(eF (ry jq w s t),()))=some (.inl ((((t+1:Nat):Int),()),(eF (MT (jq.getD t 0) (w.getD t 0) (ry jq w s t)),())))
  generalize ry jq w s t=q;obtain⟨a,b,c,d,e,f,g,h⟩:=q;have i0:idx (eF (a,b,c,d,e,f,g,h)) 0=some a:=rfl;have i1:idx (eF (a,b,c,d,e,f,g,h)) 1=some b:=rfl;have i2:idx (eF (a,b,c,d,e,f,g,h)) 2=some c:=rfl;have i3:idx (eF (a,b,c,d,e,f,g,h)) 3=some d:=rfl;have i4:idx (eF (a,b,c,d,e,f,g,h)) 4=some e:=rfl;have i5:idx (eF (a,b,c,d,e,f,g,h)) 5=some f:=rfl;have i6:idx (eF (a,b,c,d,e,f,g,h)) 6=some g:=rfl;have i7:idx (eF (a,b,c,d,e,f,g,h)) 7=some h:=rfl;have w0:within 0 8=true:=by decide
  have w1:within 1 8=true:=by decide
  have w2:within 2 8=true:=by decide
  have w3:within 3 8=true:=by decide
  have w4:within 4 8=true:=by decide
  have w5:within 5 8=true:=by decide
  have w6:within 6 8=true:=by decide
  have w7:within 7 8=true:=by decide
  have wt:within (t:Int) 64=true:=aU (by omega) (by omega);unfold dF;dsimp only;simp only[cN (show(t:Int)<64 by omega),aq,w0,w1,w2,w3,w4,w5,w6,w7,wt,i0,i1,i2,i3,i4,i5,i6,i7,aa,t6,t11,t25,t2,t13,t22,cD jq 0 (show t<jq.length from ht),cD w 0 (show t<w.length by omega),b7,dY (show t<4611686018427387904 by omega),
   ←LH,←Ks]
  rfl
 ·unfold dF;dsimp only;rw[aQ (by omega),ax,ck];rfl
def JP(l:List Int):W8:=(l.getD 0 0,l.getD 1 0,l.getD 2 0,l.getD 3 0,l.getD 4 0,l.getD 5 0,l.getD 6 0,l.getD 7 0)
theorem EJ(l:List Int)(hl:l.length=8):eF (JP l)=l:=by
 match l,hl with
 | [a,b,c,d,e,f,g,h],_=>rfl
def mq(l m:List Int):Nat→List Int
 | 0=>l
 | i+1=>(mq l m i).set i (bw .u32 (l.getD i 0) (m.getD i 0))
theorem nX(l m:List Int)(i:Nat):(mq l m i).length=l.length:=by
 induction i with
 | zero=>rfl
 | succ i ih=>simp[mq,ih]
theorem DF(l m:List Int):∀(i j:Nat),i≤j→(mq l m i).getD j 0=l.getD j 0:=by
 intro i;induction i with
 | zero=>intro j _;rfl
 | succ i ih =>
   intro j h;have:=ih j (by omega);simp only[mq,Bz,Db] at this⊢;rw[cY (by omega)];exact this
def comp(h b:List Int):List Int:=mq h (eF (ry jq (kD b) (JP h) 64)) 8
theorem Bl(h b:List Int):(comp h b).length=h.length:=nX _ _ _
theorem EK(l m:List Int)(hl:l.length=8)(hm:m.length=8):mq l m 8=mq m l 8:=by
 match l,hl,m,hm with
 | [a,b,c,d,e,f,g,h],_,[a',b',c',d',e',f',g',h'],_ =>
   simp only[mq,List.set,List.getD_cons_zero,List.getD_cons_succ];simp only[Bi]
theorem EL(h:List Int)(hh:h.length=8)(s:List UInt8)(hs:s.length=64)(u:Unit):jd (h,(s,u))=some (comp h (ah s),()):=by
 have hb:(mo (ah s) 16).length=64:=jo _ _;unfold jd;rw[DE,EH h s hs,aa];dsimp only;rw[IV _ hb,aa,CS,aa];have e8:h=eF (JP h):=(EJ h hh).symm;have hsc:(kD (ah s)).length=64:=ru _;have hr:=CU (kD (ah s)) hsc (JP h) ((64:Int),()) () ();rw[←e8] at hr;rw[show tX (mo (ah s) 16) 48=kD (ah s) from rfl,hr,aa];dsimp only;generalize hm:eF (ry jq (kD (ah s)) (JP h) 64)=m;have NS:m.length=8:=by rw[←hm];rfl
 have:Loop (eU (h,(s,u))) ((0,()),(m,()))=some (((8:Int),()),(mq m h 8,())):=by
  refine cM (f:=eU (h,(s,u))) 8 (fun i=>(((i:Int),()),(mq m h i,()))) (fun i hi=>?_) ?_
  ·have hl:(mq m h i).length=8:=by rw[nX,NS]
   unfold eU;dsimp only;simp only[cN (show(i:Int)<8 by omega),aq,aU (show(0:Int)≤i by omega) (show(i:Int)<8 by omega),cD (mq m h i) 0 (show i<(mq m h i).length by omega),cD h 0 (show i<h.length by omega),aa,b7,dY (show i<4611686018427387904 by omega),iy];rw[DF m h i i (dB _)];rfl
  ·unfold eU;dsimp only;rw[aQ (by omega),ax,ck];rfl
 rw[this,aa];dsimp only;rw[EK m h NS hh];unfold comp;rw[hm]
end Go.Ge
namespace Go.Ge
variable [Lp]
def H0:List Int:=[1779033703,3144134277,1013904242,2773480762,1359893119,2600822924,528734635,1541459225]
theorem EM:jm ()=some (H0,()):=rfl
theorem xD:lI ()=some (H0,()):=rfl
def mC(all:List UInt8):Nat→List Int
 | 0=>H0
 | k+1=>comp (mC all k) (ah ((all.drop (64*k)).take 64))
theorem mU(all:List UInt8)(k:Nat):(mC all k).length=8:=by
 induction k with
 | zero=>rfl
 | succ k ih=>simp only[mC];rw[Bl,ih]
theorem DG(all more:List UInt8):∀k,64*k≤all.length→mC (all++more) k=mC all k:=by
 intro k;induction k with
 | zero=>intro _;rfl
 | succ k ih =>
   intro h;simp only[mC];rw[ih (by omega),Fb (by omega),JU (by rw[kL];omega)]
abbrev p8:=(Bool×List Int×Unit)×List Int×Int×Unit
def Inv(st:p8)(all:List UInt8):Prop :=
 ∃wait,st=((decide (64≤all.length),(if 64≤all.length then mC all (all.length / 64) else cH 8),()),wait,(all.length:Int),())∧wait.length=64∧wait.take (all.length % 64)=ah (all.drop (64*(all.length / 64)))
def G3:p8:=((false,cH 8,()),cH 64,0,())
theorem MU:Inv G3 []:=⟨cH 64,rfl,rfl,rfl⟩
theorem pg(a b:List UInt8):ah (a++b)=ah a++ah b:=by simp[ah]
theorem we(a:List UInt8)(n:Nat):(ah a).take n=ah (a.take n):=by simp[ah,FE]
theorem eo(a:List UInt8):(ah a).length=a.length:=by simp[ah]
theorem kE(a b:Nat):gf (a:Int) (b:Int)=((a % b:Nat):Int):=by
 unfold gf;rw[Int.tmod_eq_emod_of_nonneg (by omega)];exact(Int.natCast_emod a b).symm
theorem G4(q:W8)(st:p8)(h8:st.1.2.1.length=8):Loop (cZ (iJ q 64,())) ((0,()),(st,()))=some (((8:Int),()),(((st.1.1,mq st.1.2.1 (eF q) 8,st.1.2.2),st.2),())):=by
 obtain⟨⟨bg,h,u⟩,wn⟩:=st;dsimp only at h8⊢;refine cM (f:=cZ (iJ q 64,())) 8 (fun i=>(((i:Int),()),(((bg,mq h (eF q) i,u),wn),()))) (fun i hi=>?_) ?_
 ·have hl:(mq h (eF q) i).length=8:=by rw[nX,h8]
  have e8:([(iJ q 64).1,(iJ q 64).2.1,(iJ q 64).2.2.1,(iJ q 64).2.2.2.1,(iJ q 64).2.2.2.2.1,(iJ q 64).2.2.2.2.2.1,(iJ q 64).2.2.2.2.2.2.1,(iJ q 64).2.2.2.2.2.2.2.1]:List Int)=eF q:=rfl;unfold cZ;dsimp only;rw[e8];have PJ:(eF q).length=8:=rfl;simp only[cN (show(i:Int)<8 by omega),aq,aU (show(0:Int)≤i by omega) (show(i:Int)<8 by omega),cD (mq h (eF q) i) 0 (show i<(mq h (eF q) i).length by omega),cD (eF q) 0 (show i<(eF q).length by omega),aa,b7,dY (show i<4611686018427387904 by omega),iy];rw[DF h (eF q) i i (dB _)];rfl
 ·unfold cZ;dsimp only;rw[aQ (by omega),ax,ck];rfl
theorem G5(part all:List UInt8)(st:p8)(hp:part≠[])(hI:Inv st all)(hb:all.length+part.length<1152921504606846976) :
  ∃st',cq ((part,()),(st,()))=some (.inl ((part.drop (64-all.length % 64),()),(st',())))∧Inv st' (all++part.take (64-all.length % 64)):=by
 obtain⟨wait,rfl,hw,ht⟩:=hI;generalize hN:all.length=N at *;have ew:N % 64<64:=wK _ (by decide);have Pf:gf (N:Int) 64=((N % 64:Nat):Int):=kE N 64;have em:fG (ah part) (minus (64:Int) ((N % 64:Nat):Int))=ah (part.take (64-N % 64)):=by
  unfold fG minus;rw[show((64:Int)-((N % 64:Nat):Int)).toNat=64-N % 64 by omega,we]
 generalize hk:(part.take (64-N % 64)).length=k;have hk':k=min (64-N % 64) part.length:=by rw[←hk,gb]
 have hkp:0<k:=by
  have:0<part.length:=by cases part with|nil=>exact absurd rfl hp|cons=>simp
  omega
 have MV:len (ah (part.take (64-N % 64)))=(k:Int):=by unfold len;rw[eo,hk]
 have MW:bw .i64 ((N % 64:Nat):Int) (k:Int)=((N % 64+k:Nat):Int):=by rw[eV (by omega) (by omega)];omega
 have LJ:bw .i64 (N:Int) (k:Int)=((N+k:Nat):Int):=by rw[eV (by omega) (by omega)];omega
 have MX:inside ((N % 64:Nat):Int) 64 64=true:=cz (by omega) (by omega) (by omega);have MY:inside (k:Int) (len part) (len part)=true:=cz (by omega) (by unfold len;omega) (by omega);have MZ:sub part (k:Int) (minus (len part) (k:Int))=part.drop k:=by
  unfold sub minus len;rw[BE,yj (by rw[kL];omega)]
 have NT:part.drop k=part.drop (64-N % 64):=by
  rcases Nat.le_total (64-N % 64) part.length with h|h
  ·rw[show k=64-N % 64 by omega]
  ·rw[Fe (by omega),Fe h]
 have LK:over wait ((N % 64:Nat):Int) (ah (part.take (64-N % 64)))=ah (all.drop (64*(N / 64))++part.take (64-N % 64))++wait.drop (N % 64+k):=by
  unfold over;rw[BE,ht,eo,hk,pg]
 have hne:nt (qd part [])=true:=by
  unfold qd nt;cases part with
  | nil=>exact absurd rfl hp
  | cons x r=>rfl
 have hall:(all++part.take (64-N % 64)).length=N+k:=by rw[oL,hN,hk]
 have Mw:64*(N / 64)+N % 64=N:=FB N 64;have DH:(all.drop (64*(N / 64))).length=N % 64:=by rw[kL];omega
 have Md:(ah (all.drop (64*(N / 64))++part.take (64-N % 64))++wait.drop (N % 64+k)).length=64:=by
  rw[oL,eo,oL,DH,hk,kL];omega
 unfold cq;dsimp only;simp only[hne,aq,cU (show(64:Int)≠0 by decide),ax,Pf,MX,em,MV,MY,MW,LJ,MZ,LK];by_cases hfull:N % 64+k=64
 ·
  have hw0:wait.drop (N % 64+k)=[]:=by rw[Fe (by omega)]
  simp only[nW (show((N % 64+k:Nat):Int)=64 by omega),aq,hw0,wI] at Md⊢;generalize D6:ah (all.drop (64*(N / 64))++part.take (64-N % 64))=blk at *;have hq:(N+k) / 64=N / 64+1:=by omega
  have hm0:(N+k) % 64=0:=by omega
  have LL:((all++part.take (64-N % 64)).drop (64*(N / 64))).take 64=all.drop (64*(N / 64))++part.take (64-N % 64):=by
   rw[Fb (by omega),yj (by rw[oL,DH,hk];omega)]
  have hh:∃Pg:Bool,Pg=true∧(aj (br (nt (decide (64≤N))) (aj (jm ()) fun y2:List Int×Unit=>some ((),(((true,y2.1,()),(blk,((N+k:Nat):Int),())),()))) (some ((),(((decide (64≤N),(if 64≤N then mC all (N / 64) else cH 8),()),(blk,((N+k:Nat):Int),())),())))) fun y:Unit×p8×Unit=>some y)=some ((),(((true,mC all (N / 64),()),(blk,((N+k:Nat):Int),())),())):=by
   refine⟨true,rfl,?_⟩;by_cases F8:64≤N
   ·simp only[F8,BG,iE];rfl
   ·have:N / 64=0:=by omega
    simp only[F8,Dj,rG,this,EM];rfl
  obtain⟨_,_,hh⟩:=hh;have Ph:(br (nt (decide (64≤N))) (aj (jm ()) fun y2:List Int×Unit=>some ((),(((true,y2.1,()),(blk,((N+k:Nat):Int),())),()))) (some ((),(((decide (64≤N),(if 64≤N then mC all (N / 64) else cH 8),()),(blk,((N+k:Nat):Int),())),()))):Option (Unit×p8×Unit))=some ((),(((true,mC all (N / 64),()),(blk,((N+k:Nat):Int),())),())):=by
   have:∀o:Option (Unit×p8×Unit),(aj o fun y=>some y)=o:=by intro o;cases o<;>rfl
   exact(this _).symm.trans hh
  rw[Ph,aa,EI,aa,zD blk Md,aa];dsimp only;have Pj:=mU all (N / 64);have i0:=fY (mC all (N / 64)) 0 (i:=0) (k:=0) rfl (by omega);have i1:=fY (mC all (N / 64)) 0 (i:=1) (k:=1) rfl (by omega);have i2:=fY (mC all (N / 64)) 0 (i:=2) (k:=2) rfl (by omega);have i3:=fY (mC all (N / 64)) 0 (i:=3) (k:=3) rfl (by omega);have i4:=fY (mC all (N / 64)) 0 (i:=4) (k:=4) rfl (by omega);have i5:=fY (mC all (N / 64)) 0 (i:=5) (k:=5) rfl (by omega);have i6:=fY (mC all (N / 64)) 0 (i:=6) (k:=6) rfl (by omega);have i7:=fY (mC all (N / 64)) 0 (i:=7) (k:=7) rfl (by omega);have w0:within 0 8=true:=by decide
  have w1:within 1 8=true:=by decide
  have w2:within 2 8=true:=by decide
  have w3:within 3 8=true:=by decide
  have w4:within 4 8=true:=by decide
  have w5:within 5 8=true:=by decide
  have w6:within 6 8=true:=by decide
  have w7:within 7 8=true:=by decide
  simp only[w0,w1,w2,w3,w4,w5,w6,w7,aq,i0,i1,i2,i3,i4,i5,i6,i7,aa];have hr:=CT (kD blk) (ru blk) (JP (mC all (N / 64))) () ();rw[show((mC all (N / 64)).getD 0 0,(mC all (N / 64)).getD 1 0,(mC all (N / 64)).getD 2 0,(mC all (N / 64)).getD 3 0,(mC all (N / 64)).getD 4 0,(mC all (N / 64)).getD 5 0,(mC all (N / 64)).getD 6 0,(mC all (N / 64)).getD 7 0,(0:Int),())=iJ (JP (mC all (N / 64))) 0 from rfl,hr,aa];rw[G4 _ ((true,mC all (N / 64),()),(blk,((N+k:Nat):Int),())) Pj,aa,aa,b7];dsimp only;refine⟨_,by rw[NT],?_⟩;refine⟨blk,?_,Md,?_⟩
  ·rw[hall];have F8:64≤N+k:=by omega
   simp only[F8,BG,iE];have Pk:mC (all++part.take (64-N % 64)) ((N+k) / 64)=mq (mC all (N / 64)) (eF (ry jq (kD blk) (JP (mC all (N / 64))) 64)) 8:=by
    rw[hq];simp only[mC];rw[DG all _ _ (by omega),LL,D6];rfl
   rw[Pk]
  ·rw[hall,hm0,hq,Fl,Fe (by omega)];rfl
 ·have hnf:N % 64+k<64:=by omega
  simp only[cU (show((N % 64+k:Nat):Int)≠64 by omega),ax,aa,b7];refine⟨_,by rw[NT],?_⟩;have hq:(N+k) / 64=N / 64:=by omega
  have hm0:(N+k) % 64=N % 64+k:=by omega
  refine⟨_,?_,Md,?_⟩
  ·rw[hall,hq];by_cases F8:64≤N
   ·have Ig:64≤N+k:=by omega
    simp only[F8,Ig,BG,iE];rw[DG all _ _ (by omega)]
   ·have Ig:¬64≤N+k:=by omega
    simp only[F8,Ig,Dj,rG]
  ·rw[hall,hm0,hq,JU (by rw[eo,oL,DH,hk];omega),yj (by rw[eo,oL,DH,hk];omega),Fb (by omega)]
end Go.Ge
namespace Go.Ge
variable [Lp]
theorem G6:∀(n:Nat) (part all:List UInt8) (st:p8),part.length≤n→Inv st all→all.length+part.length<1152921504606846976 →
  ∃st',Loop cq ((part,()),(st,()))=some (([],()),(st',()))∧Inv st' (all++part):=by
 intro n;induction n with
 | zero =>
   intro part all st hn hI hb;obtain rfl:part=[]:=Fc (by omega);refine⟨st,?_,by rw[wI];exact hI⟩;rw[jJ];have:cq (([],()),(st,()))=some (.inr (([],()),(st,()))):=by
    unfold cq;dsimp only;rw[show nt (qd [] [])=false from rfl,ax,ck]
   rw[this];rfl
 | succ n ih =>
   intro part all st hn hI hb;by_cases hp:part=[]
   ·subst hp;exact ih [] all st (by simp) hI hb
   ·obtain⟨HK,h1,h2⟩:=G5 part all st hp hI hb;have hlt:all.length % 64<64:=wK _ (by decide);have hpl:0<part.length:=by cases part with|nil=>exact absurd rfl hp|cons=>simp
    obtain⟨st',h3,h4⟩:=ih (part.drop (64-all.length % 64)) _ HK (by rw[kL];omega) h2 (by rw[oL,gb,kL];omega);refine⟨st',?_,by rw[kK,wE] at h4;exact h4⟩;rw[jJ,h1];exact h3
theorem uy(part all:List UInt8)(st:p8)(hI:Inv st all)(hb:all.length+part.length<1152921504606846976):∃st',cF ((part,()),(st,()))=some ((),(st',()))∧Inv st' (all++part):=by
 obtain⟨st',h1,h2⟩:=G6 part.length part all st (dB _) hI hb;refine⟨st',?_,h2⟩;unfold cF;dsimp only;rw[h1,aa]
def zs(n:Nat):Nat:=(119-n % 64) % 64
def bI(n k:Nat):Int:=jv .u8 (kM .u64 (gz .u64 (jv .u64 (n:Int)) 8) ((8*k:Nat):Int))
def sr(n:Nat):List Int:=[bI n 7,bI n 6,bI n 5,bI n 4,bI n 3,bI n 2,bI n 1,bI n 0]
def pad(s:List UInt8):List UInt8:=s++[128]++List.replicate (zs s.length) 0++aB (sr s.length)
theorem p9(s:List UInt8):(pad s).length=s.length+1+zs s.length+8:=by simp[pad,aB,sr];omega
theorem DI(s:List UInt8):(pad s).length % 64=0:=by rw[p9];unfold zs;omega
theorem gJ(s:List UInt8):aB (ah s)=s:=by
 unfold aB ah;rw[zW]
 conv=>rhs;rw[←List.map_id s]
 apply BB;intro x _;simp
theorem lJ(a b:List Int):aB (a++b)=aB a++aB b:=by simp[aB]
theorem Bm(s:List UInt8)(hn:s.length≤1048576):Loop eS (((),()),(ah s++[128],()))=some (((),()),(ah s++[128]++cH (zs s.length),())):=by
 have hz:zs s.length<64:=wK _ (by decide);have:=cM (f:=eS) (r:=(((),()),(ah s++[128]++cH (zs s.length),()))) (zs s.length) (fun j=>(((),()),(ah s++[128]++cH j,()))) (fun j hj=>by
  unfold eS;dsimp only;have el:len (ah s++[128]++cH j)=((s.length+1+j:Nat):Int):=by unfold len;simp[ah,cH];omega
  rw[cU (by decide),ax,el,show((64:Int))=((64:Nat):Int) from rfl,kE,cU (by unfold zs at hj;omega),show nt false=true from rfl,aq,fD (by simp only[plus,len,Fv];omega),aq,b7]
  congr 4
  show ah s++[128]++cH j++[0]=_
  rw[kK,show cH j++[0]=cH (j+1) from by simp[cH,List.replicate_succ']])
  (by
   unfold eS;dsimp only;have el:len (ah s++[128]++cH (zs s.length))=((s.length+1+zs s.length:Nat):Int):=by unfold len;simp[ah,cH];omega
   rw[cU (by decide),ax,el,show((64:Int))=((64:Nat):Int) from rfl,kE,nW (by unfold zs;omega),show nt true=false from rfl,ax,ck])
 have h0:ah s++[128]++cH 0=ah s++[128]:=by simp[cH]
 simp only[h0] at this;exact this
theorem EN(s:List UInt8)(b:List Int)(hn:s.length≤1048576)(hb:b.length≤2097152)(u:Unit):Loop (bR (s,u)) (((),(7,())),(b,()))=some (((),(-1,())),(b++sr s.length,())):=by
 have step:∀(k:Nat) (c:List Int),k≤7→c.length≤2097160→bR (s,u) (((),((k:Int),())),(c,()))=some (.inl (((),((k:Int)-1,())),(c++[bI s.length k],()))):=by
  intro k c hk hc;unfold bR;dsimp only;have e8:gz .i64 8 (k:Int)=((8*k:Nat):Int):=by rw[rq (by omega) (by omega)];omega
  rw[v8 (by omega),aq,e8,aQ (by omega),ax,fD (by simp only[plus,len,Fv];omega),aq,fX (by omega) (by omega),b7];rfl
 have hend:∀c:List Int,bR (s,u) (((),((-1:Int),())),(c,()))=some (.inr (((),(-1,())),(c,()))):=by
  intro c;unfold bR;dsimp only;rw[so (by decide),ax,ck]
 have L:∀(k:Nat) (c:List Int),k≤7→c.length≤2097160→Loop (bR (s,u)) (((),((k:Int),())),(c,()))=Loop (bR (s,u)) (((),((k:Int)-1,())),(c++[bI s.length k],())):=by
  intro k c hk hc;rw[jJ,step k c hk hc];rfl
 have l7:=L 7 b (by omega) (by omega);have l6:=L 6 (b++[bI s.length 7]) (by omega) (by simp;omega);have l5:=L 5 (b++[bI s.length 7]++[bI s.length 6]) (by omega) (by simp;omega);have l4:=L 4 (b++[bI s.length 7]++[bI s.length 6]++[bI s.length 5]) (by omega) (by simp;omega);have l3:=L 3 (b++[bI s.length 7]++[bI s.length 6]++[bI s.length 5]++[bI s.length 4]) (by omega) (by simp;omega);have l2:=L 2 (b++[bI s.length 7]++[bI s.length 6]++[bI s.length 5]++[bI s.length 4]++[bI s.length 3]) (by omega) (by simp;omega);have l1:=L 1 (b++[bI s.length 7]++[bI s.length 6]++[bI s.length 5]++[bI s.length 4]++[bI s.length 3]++[bI s.length 2]) (by omega) (by simp;omega);have l0:=L 0 (b++[bI s.length 7]++[bI s.length 6]++[bI s.length 5]++[bI s.length 4]++[bI s.length 3]++[bI s.length 2]++[bI s.length 1]) (by omega) (by simp;omega);refine l7.trans (l6.trans (l5.trans (l4.trans (l3.trans (l2.trans (l1.trans (l0.trans ?_)))))));have:b++[bI s.length 7]++[bI s.length 6]++[bI s.length 5]++[bI s.length 4]++[bI s.length 3]++[bI s.length 2]++[bI s.length 1]++[bI s.length 0]=b++sr s.length:=by simp[sr]
 rw[this];show Loop (bR (s,u)) (((),(-1,())),(b++sr s.length,()))=_
 rw[jJ,hend];rfl
theorem EO(s:List UInt8)(hn:s.length≤1048576):jc (s,())=some (pad s,()):=by
 have hz:zs s.length<64:=wK _ (by decide);unfold jc;dsimp only;rw[fD (by unfold len;omega),aq,fD (by simp only[plus,len,Fv,eo];omega),aq,show app (ah s) ([128]:List Int)=ah s++[128] from rfl,Bm s hn,aa];dsimp only;rw[EN s _ hn (by simp[eo,cH];omega),aa];dsimp only;rw[lJ,lJ,lJ,gJ];unfold pad;have:aB (cH (zs s.length))=List.replicate (zs s.length) 0:=by unfold aB cH;rw[List.map_replicate];rfl
 rw[this];rfl
theorem CV(t:List UInt8)(hm:t.length % 64=0)(hn:t.length≤2097152)(u:Unit):Loop (fT (t,u)) ((0,()),(H0,()))=some (((t.length:Int),()),(mC t (t.length / 64),())):=by
 have:=cM (f:=fT (t,u)) (r:=(((t.length:Int),()),(mC t (t.length / 64),()))) (t.length / 64) (fun j=>((((64*j:Nat):Int),()),(mC t j,()))) (fun j hj=>by
  unfold fT;dsimp only;have hjl:64*j+64≤t.length:=by omega
  rw[eV (by omega) (by omega),v8 (by unfold len;omega),aq,cz (by omega) (by omega) (by unfold len;omega),aq];have hs:sub t ((64*j:Nat):Int) (minus (((64*j:Nat):Int)+64) ((64*j:Nat):Int))=(t.drop (64*j)).take 64:=by
   unfold sub minus;rw[BE,show(((64*j:Nat):Int)+64-((64*j:Nat):Int)).toNat=64 by omega]
  rw[hs,EL _ (mU t j) _ (by rw[gb,kL];omega),aa,b7];rw[show(((64*j:Nat):Int)+64)=((64*(j+1):Nat):Int) by omega];rfl)
  (by
   unfold fT;dsimp only;have hjl:64*(t.length / 64)=t.length:=by omega
   rw[hjl,eV (by omega) (by omega),so (by unfold len;omega),ax,ck])
 exact this
def M0(h:List Int)(i:Nat):Int:=jv .u8 (kM .u32 (h.getD (i / 4) 0) ((24-8*(i % 4):Nat):Int))
def Bn(h:List Int):Nat→List Int
 | 0=>cH 32
 | i+1=>(Bn h i).set i (M0 h i)
theorem nY(h:List Int)(i:Nat):(Bn h i).length=32:=by
 induction i with
 | zero=>rfl
 | succ i ih=>simp[Bn,ih]
theorem DJ:([0,0,0,0,0,0,0,0,0,0,0,0,0,0,0,0,0,0,0,0,0,0,0,0,0,0,0,0,0,0,0,0]:List Int)=cH 32:=rfl
theorem G7{a:Nat}(h:a<4611686018427387904):tu .i64 (a:Int) 4=((a / 4:Nat):Int):=by
 have e:((a:Int).tdiv 4)=((a / 4:Nat):Int):=by rw[Int.tdiv_eq_ediv_of_nonneg (by omega)];exact(Int.natCast_ediv a 4).symm
 unfold tu;rw[e];have:=zB (a:=((a / 4:Nat):Int)) (by omega) (by omega);unfold jv at this;exact this
theorem Bo{h o:List Int}(hh:h.length=8)(ho:o.length=32)(i:Nat)(hi:i<32):tu .i64 (i:Int) 4=((i / 4:Nat):Int)∧eG .i64 24 (gz .i64 8 (gf (i:Int) 4))=((24-8*(i % 4):Nat):Int):=by
 refine⟨G7 (by omega),?_⟩;rw[show(4:Int)=((4:Nat):Int) from rfl,kE,rq (by omega) (by omega),fX (by omega) (by omega)];omega
theorem IW(h:List Int)(hh:h.length=8)(q:Int×Unit)(u:Unit):Loop (fU (q,(h,u))) ((0,()),(cH 32,()))=some (((32:Int),()),(Bn h 32,())):=by
 refine cM (f:=fU (q,(h,u))) 32 (fun i=>(((i:Int),()),(Bn h i,()))) (fun i hi=>?_) ?_
 ·have hl:=nY h i;obtain⟨e1,e2⟩:=Bo hh hl i hi;unfold fU;dsimp only;rw[cN (by omega),aq,cU (by decide),ax,e1,aU (by omega) (by omega),aq,cD h 0 (by omega),aa,ax,e2,aQ (by omega),ax,aU (by omega) (by omega),aq,
   cD _ 0 (by omega),aa,aa,aa,b7,dY (by omega),iy]
  rfl
 ·unfold fU;dsimp only;rw[aQ (by omega),ax,ck];rfl
theorem IX(h w:List Int)(hh:h.length=8)(bg:Bool)(n:Int)(a b c d e:Unit)(r:Unit):Loop (dc (r,(((bg,h,a),w,n,b),c))) ((0,()),(cH 32,()))=some (((32:Int),()),(Bn h 32,())):=by
 refine cM (f:=dc (r,(((bg,h,a),w,n,b),c))) 32 (fun i=>(((i:Int),()),(Bn h i,()))) (fun i hi=>?_) ?_
 ·have hl:=nY h i;obtain⟨e1,e2⟩:=Bo hh hl i hi;unfold dc;dsimp only;rw[cN (by omega),aq,cU (by decide),ax,e1,aU (by omega) (by omega),aq,cD h 0 (by omega),aa,ax,e2,aQ (by omega),ax,aU (by omega) (by omega),aq,
   cD _ 0 (by omega),aa,aa,aa,b7,dY (by omega),iy]
  rfl
 ·unfold dc;dsimp only;rw[aQ (by omega),ax,ck];rfl
def xE(s:List UInt8):List Int:=Bn (mC (pad s) ((pad s).length / 64)) 32
theorem gO(s:List UInt8):(xE s).length=32:=nY _ _
theorem CW(s:List UInt8)(hn:s.length≤1048576):ld (s,())=some (xE s,()):=by
 have hz:zs s.length<64:=wK _ (by decide);unfold ld;rw[xD,aa];dsimp only;rw[EO s hn,aa,CV _ (DI s) (by rw[p9];omega),aa,DJ,IW _ (mU _ _),aa];dsimp only[xE]
theorem EP(s:List UInt8)(hn:s.length≤1152921504606840000)(st:p8)(hI:Inv st (s++[128])):∃st',Loop bU ((),(st,()))=some ((),(st',()))∧Inv st' (s++[128]++List.replicate (zs s.length) 0):=by
 have hz:zs s.length<64:=wK _ (by decide);have key:∀(m j:Nat) (st:p8),j+m=zs s.length→Inv st (s++[128]++List.replicate j 0)→∃st',Loop bU ((),(st,()))=some ((),(st',()))∧Inv st' (s++[128]++List.replicate (zs s.length) 0):=by
  intro m;induction m with
  | zero =>
    intro j st hj hI;obtain rfl:j=zs s.length:=by omega
    refine⟨st,?_,hI⟩;obtain⟨wait,rfl,h1,h2⟩:=hI;rw[jJ];have:bU ((),(((decide (64≤(s++[128]++List.replicate (zs s.length) 0).length),(if 64≤(s++[128]++List.replicate (zs s.length) 0).length then mC (s++[128]++List.replicate (zs s.length) 0) ((s++[128]++List.replicate (zs s.length) 0).length / 64) else cH 8),()),wait,((s++[128]++List.replicate (zs s.length) 0).length:Int),()),()))=some (.inr ((),(((decide (64≤(s++[128]++List.replicate (zs s.length) 0).length),(if 64≤(s++[128]++List.replicate (zs s.length) 0).length then mC (s++[128]++List.replicate (zs s.length) 0) ((s++[128]++List.replicate (zs s.length) 0).length / 64) else cH 8),()),wait,((s++[128]++List.replicate (zs s.length) 0).length:Int),()),()))):=by
     have hl:(s++[128]++List.replicate (zs s.length) (0:UInt8)).length=s.length+1+zs s.length:=by simp;omega
     unfold bU;dsimp only;rw[cU (by decide),ax,hl,show((64:Int))=((64:Nat):Int) from rfl,kE,nW (by unfold zs;omega),show nt true=false from rfl,ax,ck]
    rw[this];rfl
  | succ m ih =>
    intro j st hj hI;obtain⟨HK,g1,g2⟩:=uy [0] _ st hI (by simp;omega);obtain⟨st',k1,k2⟩:=ih (j+1) HK (by omega) (by
     rw[kK,show List.replicate j (0:UInt8)++[0]=List.replicate (j+1) 0 from by rw[List.replicate_succ']] at g2;exact g2)
    refine⟨st',?_,k2⟩;rw[jJ];have hn':st.2.2.1=((s.length+1+j:Nat):Int):=by
     obtain⟨wait,rfl,h1,h2⟩:=hI;simp;omega
    have:bU ((),(st,()))=some (.inl ((),(HK,()))):=by
     unfold bU;dsimp only;rw[cU (by decide),ax,hn',show((64:Int))=((64:Nat):Int) from rfl,kE,cU (by unfold zs at hj;omega),show nt false=true from rfl,aq,g1,aa,b7]
    rw[this];exact k1
 exact key (zs s.length) 0 st (by omega) (by simpa using hI)
theorem G8(n:Nat)(hn:n≤1152921504606840000)(st:p8)(hst:st.2.2.1=(n:Int))(u v:Unit):Loop (cr (u,(st,v))) ((0,()),(cH 8,()))=some (((8:Int),()),(sr n,())):=by
 obtain⟨hw,wt,m,q⟩:=st;dsimp only at hst;subst hst;have step:∀(k:Nat) (c:List Int),k<8→c.length=8→cr (u,((hw,wt,(n:Int),q),v)) (((k:Int),()),(c,()))=some (.inl ((((k+1:Nat):Int),()),(c.set (7-k) (bI n k),()))):=by
  intro k c hk hc;unfold cr;dsimp only;have e8:gz .i64 8 (k:Int)=((8*k:Nat):Int):=by rw[rq (by omega) (by omega)];omega
  have e7:eG .i64 7 (k:Int)=((7-k:Nat):Int):=by rw[fX (by omega) (by omega)];omega
  rw[cN (by omega),aq,e8,aQ (by omega),ax,e7,aU (by omega) (by omega),aq,cD c 0 (by omega),aa,aa,aa,b7,dY (by omega),iy];rfl
 have:=cM (f:=cr (u,((hw,wt,(n:Int),q),v))) (r:=(((8:Int),()),(sr n,()))) 8 (fun k=>(((k:Int),()),((match k with
  | 0=>cH 8
  | 1=>[0,0,0,0,0,0,0,bI n 0]
  | 2=>[0,0,0,0,0,0,bI n 1,bI n 0]
  | 3=>[0,0,0,0,0,bI n 2,bI n 1,bI n 0]
  | 4=>[0,0,0,0,bI n 3,bI n 2,bI n 1,bI n 0]
  | 5=>[0,0,0,bI n 4,bI n 3,bI n 2,bI n 1,bI n 0]
  | 6=>[0,0,bI n 5,bI n 4,bI n 3,bI n 2,bI n 1,bI n 0]
  | 7=>[0,bI n 6,bI n 5,bI n 4,bI n 3,bI n 2,bI n 1,bI n 0]
  | _=>sr n:List Int),()))) (fun k hk=>by
    rcases(by omega:k=0∨k=1∨k=2∨k=3∨k=4∨k=5∨k=6∨k=7) with rfl|rfl|rfl|rfl|rfl|rfl|rfl|rfl<;>exact(step _ _ (by omega) rfl).trans rfl)
  (by
   unfold cr;dsimp only;rw[aQ (by omega),ax,ck];rfl)
 exact this
theorem IY(s:List UInt8)(hn:s.length≤1048576)(st:p8)(hI:Inv st s)(u v:Unit):gp (u,(st,v))=some ((xE s,()),(st,())):=by
 have hz:zs s.length<64:=wK _ (by decide);have hst:st.2.2.1=(s.length:Int):=by obtain⟨wait,rfl,_⟩:=hI;rfl
 obtain⟨HK,a1,a2⟩:=uy [128] s st hI (by simp;omega);obtain⟨M3,b1,b2⟩:=EP s (by omega) HK a2;obtain⟨Pm,c1,c2⟩:=uy (aB (sr s.length)) _ M3 b2 (by simp[aB,sr];omega);unfold gp;dsimp only;rw[DJ,show aB ([128]:List Int)=[128] from rfl,a1,aa];dsimp only;rw[b1,aa];dsimp only;rw[show([0,0,0,0,0,0,0,0]:List Int)=cH 8 from rfl,G8 s.length (by omega) st hst,aa,cz (by decide) (by decide) (by decide),aq];dsimp only;rw[show sub (sr s.length) 0 (minus 8 0)=sr s.length from rfl,c1,aa];have L4:Inv Pm (pad s):=c2;obtain⟨wait,rfl,h1,h2⟩:=L4;have F8:64≤(pad s).length:=by have:=DI s;rw[p9] at this⊢;omega
 simp only[F8,BG,iE];rw[IX _ _ (mU _ _) _ _ () () () () () (),aa];dsimp only[xE]
theorem CX(s:List UInt8)(hn:s.length≤1048576):oI (s,())=some (xE s,()):=by
 obtain⟨HK,a1,a2⟩:=uy s [] G3 MU (by simp;omega);unfold oI;dsimp only;rw[show((false,([0,0,0,0,0,0,0,0]:List Int),()),([0,0,0,0,0,0,0,0,0,0,0,0,0,0,0,0,0,0,0,0,0,0,0,0,0,0,0,0,0,0,0,0,0,0,0,0,0,0,0,0,0,0,0,0,0,0,0,0,0,0,0,0,0,0,0,0,0,0,0,0,0,0,0,0]:List Int),(0:Int),())=G3 from rfl,a1,aa];dsimp only;rw[IY s hn HK (by simpa using a2),aa]
end Go.Ge
namespace Go.Ge
variable [Lp]
set_option maxRecDepth 100000 in
theorem IZ:idx (xE [97,98,99]) 0=some 186∧idx (xE [97,98,99]) 1=some 120∧idx (xE [97,98,99]) 31=some 173:=⟨by kernel_rfl,by kernel_rfl,by kernel_rfl⟩
abbrev NU:=(Bool×List UInt8×Int×Unit)×p8×p8×Unit
end Go.Ge
namespace Go.Ge
variable [Lp]
def xF:List UInt8:=[48,49,50,51,52,53,54,55,56,57,97,98,99,100,101,102]
def hx(n:Nat):UInt8:=xF.getD n 0
def jN:List UInt8→List UInt8
 | []=>[]
 | b::r=>hx (b.toNat / 16)::hx (b.toNat % 16)::jN r
theorem jr(l:List UInt8):(jN l).length=2*l.length:=by
 induction l with
 | nil=>rfl
 | cons b r ih=>simp only[jN,oM,ih];omega
theorem G9(a b:List UInt8):jN (a++b)=jN a++jN b:=by
 induction a with
 | nil=>rfl
 | cons x r ih=>simp only[zP,jN,ih]
theorem I0:∀n:Fin 256,idx xF (kM .u8 (n.val:Int) 4)=some (hx (n.val / 16)):=by decide +kernel
theorem I3:∀n:Fin 256,idx xF (ff .u8 (n.val:Int) 15)=some (hx (n.val % 16)):=by decide +kernel
theorem Kt(b:UInt8):idx xF (kM .u8 (u8 b) 4)=some (hx (b.toNat / 16)):=I0 ⟨b.toNat,b.toNat_lt⟩
theorem Ku(b:UInt8):idx xF (ff .u8 (u8 b) 15)=some (hx (b.toNat % 16)):=I3 ⟨b.toNat,b.toNat_lt⟩
theorem ER(s:List UInt8){k:Nat}(h:k<s.length):idx (ah s) (k:Int)=some (u8 s[k]):=by
 rw[uw];simp[ah,u8,h]
theorem I4(s:List UInt8){k:Nat}(h:k<s.length):idx s (k:Int)=some s[k]:=by
 rw[uw];simp[h]
theorem su(s:List UInt8):len (ah s)=(s.length:Int):=by simp[len,ah]
theorem zE(s:List UInt8){k:Nat}(h:k<s.length):s.take (k+1)=s.take k++[s[k]]:=by
 rw[List.take_add_one,sC h];rfl
theorem DK(s:List UInt8){k:Nat}(h:k<s.length):ah (jN (s.take (k+1)))=(ah (jN (s.take k))++[u8 (hx (s[k].toNat / 16))])++[u8 (hx (s[k].toNat % 16))]:=by
 rw[zE s h,G9,pg,kK];rfl
theorem He(s:List UInt8)(hs:s.length≤1048576){k:Nat}(h:k<s.length)(x y:Int) :
  fits (plus (len (ah (jN (s.take k)))) (len [x]))=true∧fits (plus (len (ah (jN (s.take k))++[x])) (len [y]))=true:=by
 constructor
 ·apply fD;rw[su,jr];simp only[gb,plus,len,oM,wJ];omega
 ·apply fD;have:(ah (jN (s.take k))++[x]).length=2*min k s.length+1:=by
   rw[oL,eo,jr,gb];rfl
  simp only[plus,len,this,oM,wJ];omega
theorem I5(s:List UInt8)(hs:s.length≤1048576):jM (s,())=some (jN s,()):=by
 unfold jM;dsimp only;rw[fD (by simp only[len];omega),aq];have key:Loop (fo (s,())) ((0,()),(((),((),())),([],())))=some (((s.length:Int),()),(((),((),())),(ah (jN s),()))):=by
  have:=cM (f:=fo (s,())) (r:=(((s.length:Int),()),(((),((),())),(ah (jN s),())))) s.length (fun k=>(((k:Int),()),(((),((),())),(ah (jN (s.take k)),())))) (fun k hk=>by
   unfold fo;dsimp only;obtain⟨f1,f2⟩:=He s hs hk (u8 (hx (s[k].toNat / 16))) (u8 (hx (s[k].toNat % 16)));rw[su,cN (by omega),aq,aU (by omega) (by omega),aq,ER s hk,aa,aQ (by decide),ax];rw[show([48,49,50,51,52,53,54,55,56,57,97,98,99,100,101,102]:List UInt8)=xF from rfl,Kt,aa,f1,aq,Ku,aa];unfold app;rw[f2,aq,b7,dY (by omega),DK s hk]) (by
   unfold fo;dsimp only;rw[su,aQ (by omega),ax,ck,Dd])
  exact this
 rw[key,aa];dsimp only;rw[gJ]
theorem M4:∀n:Fin 16,gG ((n.val:Int),())=some (u8 (hx n.val),()):=by decide +kernel
theorem DL{n:Nat}(h:n<16):gG ((n:Int),())=some (u8 (hx n),()):=M4 ⟨n,h⟩
theorem Hf:∀n:Fin 256,tu .i64 (jv .i64 (n.val:Int)) 16=((n.val / 16:Nat):Int):=by decide +kernel
theorem Hg:∀n:Fin 256,gf (jv .i64 (n.val:Int)) 16=((n.val % 16:Nat):Int):=by decide +kernel
theorem Kv(b:UInt8):tu .i64 (jv .i64 (u8 b)) 16=((b.toNat / 16:Nat):Int):=Hf ⟨b.toNat,b.toNat_lt⟩
theorem Kw(b:UInt8):gf (jv .i64 (u8 b)) 16=((b.toNat % 16:Nat):Int):=Hg ⟨b.toNat,b.toNat_lt⟩
theorem CY(s:List UInt8)(hs:s.length≤1048576):lf (s,())=some (jN s,()):=by
 unfold lf;have key:Loop (fW (s,())) (((),(0,())),([],()))=some (((),((s.length:Int),())),(ah (jN s),())):=by
  have:=cM (f:=fW (s,())) (r:=(((),((s.length:Int),())),(ah (jN s),()))) s.length (fun k=>(((),((k:Int),())),(ah (jN (s.take k)),()))) (fun k hk=>by
   unfold fW;dsimp only;obtain⟨f1,f2⟩:=He s hs hk (u8 (hx (s[k].toNat / 16))) (u8 (hx (s[k].toNat % 16)));have hb:=s[k].toNat_lt;rw[show len s=(s.length:Int) from rfl,cN (by omega),aq,I4 s hk,aa,cU (by decide),ax,Kv,DL (by omega),aa];dsimp only;rw[f1,aq,aa,ax,Kw,DL (by omega),aa];dsimp only;unfold app;rw[f2,aq,b7,dY (by omega),DK s hk]) (by
   unfold fW;dsimp only;rw[show len s=(s.length:Int) from rfl,aQ (by omega),ax,ck,Dd])
  exact this
 rw[key,aa];dsimp only;rw[gJ]
end Go.Ge
namespace Go.Ge
variable [Lp]
def hv(c:UInt8):Int:=Lib.indexByte xF c
theorem Pn:∀n:Fin 256,(hv (UInt8.ofNat n.val)=-1∧∀j:Fin 16,hx j.val≠UInt8.ofNat n.val)∨∃j:Fin 16,hv (UInt8.ofNat n.val)=(j.val:Int)∧hx j.val=UInt8.ofNat n.val∧∀i:Fin 16,i.val<j.val→hx i.val≠UInt8.ofNat n.val:=by decide +kernel
theorem Bp(c:UInt8):(hv c=-1∧∀j:Nat,j<16→hx j≠c)∨∃j:Nat,j<16∧hv c=(j:Int)∧hx j=c∧∀i:Nat,i<j→hx i≠c:=by
 have h:=Pn ⟨c.toNat,c.toNat_lt⟩;have e:UInt8.ofNat c.toNat=c:=by simp
 simp only[e] at h;rcases h with ⟨h1,h2⟩|⟨j,h1,h2,h3⟩
 ·exact .inl ⟨h1,fun j hj=>h2 ⟨j,hj⟩⟩
 ·exact .inr ⟨j.val,j.isLt,h1,h2,fun i hi=>h3 ⟨i,Nat.lt_trans hi j.isLt⟩ hi⟩
theorem JQ:∀n:Fin 16,hv (hx n.val)=(n.val:Int):=by decide +kernel
theorem Kx(c:UInt8):(show Int from u8 c).toNat.toUInt8=c:=by simp[u8]
theorem yc(c:UInt8):de (xF,(u8 c,()))=some (hv c,()):=by
 have e:bK (xF,(u8 c,()))=some (hv c,()):=by
  unfold bK hv;rw[Kx];rfl
 unfold de;dsimp only;rw[e];rfl
def iz:List UInt8→Option (List UInt8)
 | []=>some []
 | [_]=>none
 | a::b::r=>if hv a<0∨hv b<0 then none else(iz r).map (UInt8.ofNat (16*(hv a).toNat+(hv b).toNat)::·)
theorem LM:∀(i j:Fin 16),jv .u8 (lQ .i64 (fI .i64 (i.val:Int) 4) (j.val:Int))=u8 (UInt8.ofNat (16*i.val+j.val)):=by decide +kernel
theorem wg(l:List UInt8)(k:Nat)(h:k≤l.length):sub l (k:Int) (minus (len l) (k:Int))=l.drop k:=by
 unfold sub minus len;rw[BE,yj (by rw[kL];omega)]
def Po:Option (List UInt8)→List UInt8×Bool×Unit
 | some l=>(l,(true,()))
 | none=>([],(false,()))
theorem CZ:∀(n:Nat) (s:List UInt8) (acc:List Int),s.length≤n→s.length % 2=0→acc.length+s.length≤2097152 →
  ∃q,Loop ek ((s,([],(false,((),())))),(acc,()))=some q∧(match iz s with
   | some l=>q.1=0∧q.2.2.1=acc++ah l
   | none=>q.1=1∧q.2.1.2.1=[]∧q.2.1.2.2.1=false):=by
 intro n;induction n using Nat.strongRecOn with
 | _ n ih =>
   intro s acc hn h2 hb;rw[jJ]
   match s,hn,h2,hb with
   | [],_,_,_ =>
     refine⟨(0,(([],([],(false,((),())))),(acc,()))),?_,rfl,?_⟩
     ·unfold ek;rfl
     ·simp[ah]
   | [_],_,h2,_=>simp at h2
   | a::b::r,hn,h2,hb =>
     simp only[oM] at hn h2 hb;have e0:ek ((a::b::r,([],(false,((),())))),(acc,()))=(if hv a<0∨hv b<0 then some (.inr (1,((a::b::r,([],(false,((),())))),(acc,()))))
       else some (.inl ((r,([],(false,((),())))),(acc++[u8 (UInt8.ofNat (16*(hv a).toNat+(hv b).toNat))],())))):=by
      unfold ek;dsimp only;rw[show nt (qd (a::b::r) [])=true from by simp[nt,qd],aq,show idx (a::b::r) 0=some a from rfl,aa,
       show([48,49,50,51,52,53,54,55,56,57,97,98,99,100,101,102]:List UInt8)=xF from rfl,yc,aa,show idx (a::b::r) 1=some b from rfl,aa,yc,aa]
      dsimp only;by_cases ha:hv a<0
      ·rw[cN ha,fH,ax,aq,gd (.inl ha)]
      ·rw[aQ (by omega),eR,aq];by_cases hb':hv b<0
       ·rw[cN hb',aq,gd (.inr hb')]
       ·rw[aQ (by omega),ax,cY (by omega),aQ (by decide),ax];have hp:jv .u8 (lQ .i64 (fI .i64 (hv a) 4) (hv b))=u8 (UInt8.ofNat (16*(hv a).toNat+(hv b).toNat)):=by
         rcases Bp a with ⟨h,_⟩|⟨i,hi,h,_⟩
         ·omega
         rcases Bp b with ⟨h',_⟩|⟨j,hj,h',_⟩
         ·omega
         rw[h,h'];exact LM ⟨i,hi⟩ ⟨j,hj⟩
        rw[hp,fD (by simp only[plus,len,oM,wJ];omega),aq,cz (by decide) (by simp only[len,oM];omega) (Dk _),aq];have:=wg (a::b::r) 2 (by simp);rw[show sub (a::b::r) 2 (minus (len (a::b::r)) 2)=r from this];rfl
     rw[e0];by_cases hab:hv a<0∨hv b<0
     ·rw[gd hab];refine⟨_,rfl,?_⟩;simp only[iz,gd hab];exact⟨trivial,trivial,trivial⟩
     ·rw[cY hab];obtain⟨q,q1,q2⟩:=ih r.length (by omega) r (acc++[u8 (UInt8.ofNat (16*(hv a).toNat+(hv b).toNat))]) (dB _) (by omega) (by simp only[oL,oM,wJ];omega);refine⟨q,q1,?_⟩;simp only[iz,cY hab];cases hu:iz r with
      | none=>rw[hu] at q2;exact q2
      | some l =>
        rw[hu] at q2;refine⟨q2.1,?_⟩;rw[q2.2,kK];rfl
theorem C0:∀(n:Nat) (s:List UInt8),s.length≤n→s.length % 2=1→iz s=none:=by
 intro n;induction n using Nat.strongRecOn with
 | _ n ih =>
   intro s hn h
   match s,hn,h with
   | [],_,h=>simp at h
   | [_],_,_=>rfl
   | a::b::r,hn,h =>
     simp only[oM] at hn h;simp only[iz];split
     ·rfl
     ·rw[ih r.length (by omega) r (dB _) (by omega)];rfl
theorem yd(s:List UInt8)(hs:s.length≤1048576):iw (s,())=some (Po (iz s)):=by
 unfold iw;dsimp only;rw[cU (by decide),ax,show gf (len s) 2=((s.length % 2:Nat):Int) from kE s.length 2];rcases Nat.mod_two_eq_zero_or_one s.length with h|h
 ·rw[h,show iG ((0:Nat):Int) 0=true from rfl,fH,ax];obtain⟨q,q1,q2⟩:=CZ s.length s [] (dB _) h (by simp;omega);rw[q1,aa];cases hu:iz s with
  | none =>
    rw[hu] at q2;rw[q2.1,show Ju 1 0=false from rfl,ax,q2.2.1,q2.2.2];rfl
  | some l =>
    rw[hu] at q2;rw[q2.1,show Ju 0 0=true from rfl,aq,q2.2,zR,gJ];rfl
 ·rw[h,show iG ((1:Nat):Int) 0=false from rfl,eR,aq,C0 s.length s (dB _) h];rfl
end Go.Ge
namespace Go.Ge
variable [Lp]
theorem sw:∀l:List UInt8,iz (jN l)=some l:=by
 intro l;induction l with
 | nil=>rfl
 | cons b r ih =>
   have hb:=b.toNat_lt;have h1:=JQ ⟨b.toNat / 16,by omega⟩;have h2:=JQ ⟨b.toNat % 16,by omega⟩;simp only at h1 h2;simp only[jN,iz,h1,h2,ih,qf];rw[cY (by omega)]
   congr 2
   rw[BE,BE,show 16*(b.toNat / 16)+b.toNat % 16=b.toNat by omega];simp
end Go.Ge
namespace Go.Ge
variable [Lp]
def mu:List UInt8:=[115,104,97,50,53,54,58]
def nw(s:List UInt8):List UInt8:=mu++jN (aB (xE s))
theorem tc(s:List UInt8):(nw s).length=71:=by
 unfold nw;rw[oL,jr];simp[aB,gO,mu]
theorem ye{α:Type}(l:List α)(n:Nat)(h:l.length=n):sub l 0 (minus n 0)=l:=by
 unfold sub minus;rw[show((0:Int).toNat)=0 from rfl,DU,yj (by omega)]
theorem zF(s:List UInt8)(hs:s.length≤1048576):eg (s,())=some (nw s,()):=by
 unfold eg;dsimp only;rw[CX s hs,aa,cz (by decide) (by decide) (by decide),aq];dsimp only;rw[show sub (xE s) 0 (minus 32 0)=xE s from ye _ 32 (gO s),I5 _ (by simp[aB,gO]),aa];dsimp only;rw[fD (by simp only[plus,len,jr,aB,DT,gO,oM,wJ];omega),aq];rfl
theorem ES(s:List UInt8)(hs:s.length≤1048576):iT (s,())=some (nw s,()):=by
 unfold iT;dsimp only;rw[CW s hs,aa,cz (by decide) (by decide) (by decide),aq];dsimp only;rw[show sub (xE s) 0 (minus 32 0)=xE s from ye _ 32 (gO s),CY _ (by simp[aB,gO]),aa];dsimp only;rw[fD (by simp only[plus,len,jr,aB,DT,gO,oM,wJ];omega),aq];rfl
def I6(t:List UInt8):Int:=if t.length=71∧t.take 7=mu∧(iz (t.drop 7)).isSome=true then 0 else 2
theorem Bq(l:List UInt8)(k:Nat):sub l 0 (minus (k:Int) 0)=l.take k:=by
 unfold sub minus;rw[show((0:Int).toNat)=0 from rfl,DU,Int.sub_zero,BE]
theorem xG(t:List UInt8):bL (t,(mu,()))=some (decide (t.take 7=mu),()):=by
 unfold bL;dsimp only;by_cases h:7≤t.length
 ·rw[v8 (by simp only[len];show(7:Int)≤_;omega),aq,show inside 0 (len mu) (len t)=true from cz (by decide) (by decide) (by simp only[len];show(7:Int)≤_;omega),aq,
   show sub t 0 (minus (len mu) 0)=t.take 7 from Bq t 7,aa]
  rfl
 ·rw[so (by simp only[len];show _<(7:Int);omega),ax,aa];have:¬t.take 7=mu:=fun e=>by
   have:=congrArg List.length e;rw[gb] at this;have h7:mu.length=7:=rfl;omega
  rw[Df this]
theorem I7(t:List UInt8):eJ (t,(mu,()))=some (if t.take 7=mu then(t.drop 7,(true,())) else(t,(false,()))):=by
 unfold eJ cj;dsimp only;rw[xG,aa];dsimp only;by_cases h:t.take 7=mu
 ·have h7:7≤t.length:=by
   have:=congrArg List.length h;rw[gb] at this;have:mu.length=7:=rfl;omega
  rw[FC h,fH,ax,show inside (len mu) (len t) (len t)=true from cz (by decide) (by simp only[len];show(7:Int)≤_;omega) (Dk _),aq,aa,gd h,
   show sub t (len mu) (minus (len t) (len mu))=t.drop 7 from wg t 7 h7]
 ·rw[Df h,eR,aq,aa,cY h]
theorem yf(t:List UInt8)(ht:t.length≤1048576):fV (t,())=some (I6 t,()):=by
 unfold fV;dsimp only;rw[show([115,104,97,50,53,54,58]:List UInt8)=mu from rfl,I7,aa];unfold I6;by_cases h:t.take 7=mu
 ·have h7:7≤t.length:=by
   have:=congrArg List.length h;rw[gb] at this;have:mu.length=7:=rfl;omega
  rw[gd h];dsimp only;rw[yd _ (by rw[kL];omega),aa,fH,eR,aq];cases hu:iz (t.drop 7) with
  | none =>
    rw[cY (by simp)];show br (br (nt (nt false)) _ true) (some (2,())) _=_
    rw[eR,fH,ax,aq]
  | some l =>
    show br (br (nt (nt true)) _ true) _ _=_
    rw[fH,eR,aq];by_cases NV:t.length=71
    ·rw[nW (by simp only[len,kL];omega),fH,ax,gd ⟨NV,h,rfl⟩]
    ·rw[cU (by simp only[len,kL];omega),eR,aq,cY (fun e=>NV e.1)]
 ·rw[cY h];dsimp only;rw[yd _ ht,aa,eR,fH,ax,fH,ax,aq,cY (fun e=>h e.2.1)]
theorem ET(s:List UInt8):(nw s).take 7=mu:=Fk rfl
theorem sx(s:List UInt8):(nw s).drop 7=jN (aB (xE s)):=DR rfl
theorem C1(s:List UInt8):I6 (nw s)=0:=by
 have h3:(iz ((nw s).drop 7)).isSome=true:=by
  rw[sx,sw];rfl
 exact gd ⟨tc s,ET s,h3⟩
theorem Hh(d s:List UInt8)(hs:s.length≤1048576):jn (d,(s,()))=some (decide (d=nw s),()):=by
 unfold jn;dsimp only;rw[zF s hs,aa];rfl
set_option maxRecDepth 100000 in
theorem Hi:(nw [97,98,99]).take 15=[115,104,97,50,53,54,58,98,97,55,56,49,54,98,102]:=by kernel_rfl
set_option maxRecDepth 100000 in
theorem I8:idx (xE [97,98,100]) 0=some 165:=by kernel_rfl
theorem I9:nw [97,98,99]≠nw [97,98,100]:=fun e=>by
 have h:aB (xE [97,98,99])=aB (xE [97,98,100]):=by
  have h1:=sw (aB (xE [97,98,99]));rw[←sx,e,sx,sw] at h1;exact(au h1).symm
 have h1:(xE [97,98,99])[0]?=some 186:=IZ.1;have h2:(xE [97,98,100])[0]?=some 165:=I8;have h3:=congrArg (·[0]?) h;simp only[aB,wH,h1,h2,qf] at h3;exact absurd h3 (by decide)
theorem Ja:fC ()=some (true,()):=by
 unfold fC;rw[zF _ (by decide),aa];dsimp only;have hl:=tc [97,98,99];generalize hd:nw [97,98,99]=d at hl;rw[nW (by simp only[len];omega),aq,cz (by decide) (by decide) (by simp only[len];omega),aq,show sub d 0 (minus 15 0)=d.take 15 from Bq d 15,←hd,Hi,nU,aa,aq,hd,
  yf d (by omega),aa]
 dsimp only;rw[←hd,C1,hd,aa,ri,aq,cz (by decide) (by simp only[len];omega) (Dk _),aq,show sub d 1 (minus (len d) 1)=d.drop 1 from wg d 1 (by omega),
  yf _ (by rw[kL];omega),aa]
 dsimp only;rw[show I6 (d.drop 1)=2 from cY (fun e=>by rw[kL] at e;omega),aa,ri,aq,Hh _ _ (by decide),aa];dsimp only;rw[FC hd.symm,aa,aq,Hh _ _ (by decide),aa];dsimp only;rw[Df (fun e=>I9 (hd.trans e)),eR,aa]
end Go.Ge
