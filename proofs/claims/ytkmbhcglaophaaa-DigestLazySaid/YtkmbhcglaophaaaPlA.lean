/- Plain laws of what the functions compute: part 1. -/
import Derived.Test.YtkmbhcglaophaaaGeK
import Derived.Lib.Repeat
set_option linter.unusedSectionVars false
set_option linter.unusedVariables false
set_option linter.unusedSimpArgs false
noncomputable section
namespace Go.Ge
abbrev Sb:=List UInt8
variable [Lp]
def bK:(Ty.pair .str (.pair (.int .u8) .unit)).den→Option (Ty.pair (.int .i64) .unit).den:=fun x=>some (Lib.indexByte x.1 (show Int from x.2.1).toNat.toUInt8,())
end Go.Ge
namespace Go.Ge
variable [Lp]
set_option maxRecDepth 100000
abbrev fI:=((Bool×(List (Int))×Unit)×(List (Int))×Int×Unit)
abbrev cF:=((Int×Unit)×(List (Int))×Unit)
abbrev kR:=((Nat×(Int×Unit)×(List (Int))×Unit))
abbrev xz:=(Int×Int×Int×Int×Int×Int×Int×Int×Int×Unit)
abbrev GU:=((Unit×Int×Unit)×(List (Int))×Unit)
abbrev xA:=((List (Int))×Unit)
abbrev GV:=((Unit×Unit)×(List (Int))×Unit)
abbrev GW:=((Int×Unit)×fI×Unit)
def jm(x:Unit):Option xA :=
 some (([(1779033703:Int),(3144134277:Int),(1013904242:Int),(2773480762:Int),(1359893119:Int),(2600822924:Int),(528734635:Int),(1541459225:Int)]:List (Int)),())
def nW(x:Unit):Option xA :=
 some (([(1116352408:Int),(1899447441:Int),(3049323471:Int),(3921009573:Int),(961987163:Int),(1508970993:Int),(2453635748:Int),(2870763221:Int),(3624381080:Int),(310598401:Int),(607225278:Int),(1426881987:Int),(1925078388:Int),(2162078206:Int),(2614888103:Int),(3248222580:Int),(3835390401:Int),(4022224774:Int),(264347078:Int),(604807628:Int),(770255983:Int),(1249150122:Int),(1555081692:Int),(1996064986:Int),(2554220882:Int),(2821834349:Int),(2952996808:Int),(3210313671:Int),(3336571891:Int),(3584528711:Int),(113926993:Int),(338241895:Int),(666307205:Int),(773529912:Int),(1294757372:Int),(1396182291:Int),(1695183700:Int),(1986661051:Int),(2177026350:Int),(2456956037:Int),(2730485921:Int),(2820302411:Int),(3259730800:Int),(3345764771:Int),(3516065817:Int),(3600352804:Int),(4094571909:Int),(275423344:Int),(430227734:Int),(506948616:Int),(659060556:Int),(883997877:Int),(958139571:Int),(1322822218:Int),(1537002063:Int),(1747873779:Int),(1955562222:Int),(2024104815:Int),(2227730452:Int),(2361852424:Int),(2428436474:Int),(2756734187:Int),(3204031479:Int),(3329325298:Int)]:List (Int)),())
def eD(x:Int×Int×Unit):Option (Int×Unit) :=
 br (iH (fc IntKind.u64 (jv IntKind.u64 x.2.1) (31:Int)) (0:Int))
 none
 (br (iH (eF IntKind.u64 (32:Int) (fc IntKind.u64 (jv IntKind.u64 x.2.1) (31:Int))) (0:Int))
 none
 (some (lQ IntKind.u32 (fH IntKind.u32 x.1 (fc IntKind.u64 (jv IntKind.u64 x.2.1) (31:Int))) (kM IntKind.u32 x.1 (eF IntKind.u64 (32:Int) (fc IntKind.u64 (jv IntKind.u64 x.2.1) (31:Int)))),())))
def aT(x:Int×Int×Unit):Option (Int×Unit) :=
 aj (eD (x.1,(eF IntKind.i64 (0:Int) x.2.1,()))) (fun(y1:Int×Unit)=>some (y1.1,()))
def dZ(x:(List (Int))×Unit)(y1:(Int×Unit)×(List (Int))×Unit)(y2:(Int×Unit)×(List (Int))×Unit):Option (cF⊕cF) :=
 @iK cF (br (iH y2.1.1 (minus (bw IntKind.i64 (gz IntKind.i64 (4:Int) y1.1.1) (4:Int)) (gz IntKind.i64 (4:Int) y1.1.1)))
 (br (within y2.1.1 (minus (bw IntKind.i64 (gz IntKind.i64 (4:Int) y1.1.1) (4:Int)) (gz IntKind.i64 (4:Int) y1.1.1)))
 (aj (@idx Int x.1 (plus (gz IntKind.i64 (4:Int) y1.1.1) y2.1.1)) (fun(y3:Int)=>br (within y1.1.1 (64:Int))
 (aj (@idx Int y2.2.1 y1.1.1) (fun(y4:Int)=>br (iH (8:Int) (0:Int))
 none
 (br (within y1.1.1 (64:Int))
 (aj (@idx Int y2.2.1 y1.1.1) (fun(y5:Int)=>aj (@idx Int y2.2.1 y1.1.1) (fun(y6:Int)=>aj (@idx Int y2.2.1 y1.1.1) (fun(y7:Int)=>some (Sum.inl ((bw IntKind.i64 y2.1.1 (1:Int),()),(@mG Int y2.2.1 y1.1.1 (lQ IntKind.u32 (fH IntKind.u32 y4 (8:Int)) (jv IntKind.u32 y3)),())):(cF)⊕kR)))))
 none)))
 none))
 none)
 (some (Sum.inr ((0:Nat),((y2.1.1,()),(y2.2.1,()))):(cF)⊕kR)))
def ec(x:(List (Int))×Unit)(y1:(Int×Unit)×(List (Int))×Unit):Option (cF⊕cF) :=
 @iK cF (br (iH y1.1.1 (16:Int))
 (br (inside (gz IntKind.i64 (4:Int) y1.1.1) (bw IntKind.i64 (gz IntKind.i64 (4:Int) y1.1.1) (4:Int)) (64:Int))
 (aj (Loop (dZ x y1) (((0:Int),()),(y1.2.1,()))) (fun(y2:(Int×Unit)×(List (Int))×Unit)=>some (Sum.inl ((bw IntKind.i64 y1.1.1 (1:Int),()),(y2.2.1,())):(cF)⊕kR)))
 none)
 (some (Sum.inr ((0:Nat),((y1.1.1,()),(y1.2.1,()))):(cF)⊕kR)))
def ef(y2:(Int×Unit)×(List (Int))×Unit):Option (cF⊕cF) :=
 @iK cF (br (iH y2.1.1 (64:Int))
 (br (within (eF IntKind.i64 y2.1.1 (2:Int)) (64:Int))
 (aj (@idx Int y2.2.1 (eF IntKind.i64 y2.1.1 (2:Int))) (fun(y3:Int)=>br (within (eF IntKind.i64 y2.1.1 (15:Int)) (64:Int))
 (aj (@idx Int y2.2.1 (eF IntKind.i64 y2.1.1 (15:Int))) (fun(y4:Int)=>aj (aT (y4,((7:Int),()))) (fun(y5:Int×Unit)=>aj (aT (y4,((18:Int),()))) (fun(y6:Int×Unit)=>br (iH (3:Int) (0:Int))
 none
 (aj (aT (y3,((17:Int),()))) (fun(y7:Int×Unit)=>aj (aT (y3,((19:Int),()))) (fun(y8:Int×Unit)=>br (iH (10:Int) (0:Int))
 none
 (br (within (eF IntKind.i64 y2.1.1 (7:Int)) (64:Int))
 (aj (@idx Int y2.2.1 (eF IntKind.i64 y2.1.1 (7:Int))) (fun(y9:Int)=>br (within (eF IntKind.i64 y2.1.1 (16:Int)) (64:Int))
 (aj (@idx Int y2.2.1 (eF IntKind.i64 y2.1.1 (16:Int))) (fun(IK:Int)=>br (within y2.1.1 (64:Int))
 (aj (@idx Int y2.2.1 y2.1.1) (fun(KP:Int)=>aj (@idx Int y2.2.1 y2.1.1) (fun(KQ:Int)=>aj (@idx Int y2.2.1 y2.1.1) (fun(ir:Int)=>some (Sum.inl ((bw IntKind.i64 y2.1.1 (1:Int),()),(@mG Int y2.2.1 y2.1.1 (bw IntKind.u32 (bw IntKind.u32 (bw IntKind.u32 (cN IntKind.u32 (cN IntKind.u32 y7.1 y8.1) (kM IntKind.u32 y3 (10:Int))) y9) (cN IntKind.u32 (cN IntKind.u32 y5.1 y6.1) (kM IntKind.u32 y4 (3:Int)))) IK),())):(cF)⊕kR)))))
 none))
 none))
 none))))))))
 none))
 none)
 (some (Sum.inr ((0:Nat),((y2.1.1,()),(y2.2.1,()))):(cF)⊕kR)))
def iu(x:(List (Int))×Unit):Option xA :=
 aj (Loop (ec x) (((0:Int),()),(([(0:Int),(0:Int),(0:Int),(0:Int),(0:Int),(0:Int),(0:Int),(0:Int),(0:Int),(0:Int),(0:Int),(0:Int),(0:Int),(0:Int),(0:Int),(0:Int),(0:Int),(0:Int),(0:Int),(0:Int),(0:Int),(0:Int),(0:Int),(0:Int),(0:Int),(0:Int),(0:Int),(0:Int),(0:Int),(0:Int),(0:Int),(0:Int),(0:Int),(0:Int),(0:Int),(0:Int),(0:Int),(0:Int),(0:Int),(0:Int),(0:Int),(0:Int),(0:Int),(0:Int),(0:Int),(0:Int),(0:Int),(0:Int),(0:Int),(0:Int),(0:Int),(0:Int),(0:Int),(0:Int),(0:Int),(0:Int),(0:Int),(0:Int),(0:Int),(0:Int),(0:Int),(0:Int),(0:Int),(0:Int)]:List (Int)),()))) (fun(y1:(Int×Unit)×(List (Int))×Unit)=>aj (Loop (ef) (((16:Int),()),(y1.2.1,()))) (fun(y2:(Int×Unit)×(List (Int))×Unit)=>some (y2.2.1,())))
def cl(y3:(List (Int))×Unit)(y4:(List (Int))×Unit)(ir:xz×Unit):Option ((xz×Unit)⊕(xz×Unit)) :=
 @iK (xz×Unit) (br (iH ir.1.2.2.2.2.2.2.2.2.1 (64:Int))
 (aj (aT (ir.1.2.2.2.2.1,((6:Int),()))) (fun(rC:Int×Unit)=>aj (aT (ir.1.2.2.2.2.1,((11:Int),()))) (fun(KR:Int×Unit)=>aj (aT (ir.1.2.2.2.2.1,((25:Int),()))) (fun(KS:Int×Unit)=>br (within ir.1.2.2.2.2.2.2.2.2.1 (64:Int))
 (aj (@idx Int y3.1 ir.1.2.2.2.2.2.2.2.2.1) (fun(LD:Int)=>br (within ir.1.2.2.2.2.2.2.2.2.1 (64:Int))
 (aj (@idx Int y4.1 ir.1.2.2.2.2.2.2.2.2.1) (fun(LF:Int)=>aj (aT (ir.1.1,((2:Int),()))) (fun(Mb:Int×Unit)=>aj (aT (ir.1.1,((13:Int),()))) (fun(MQ:Int×Unit)=>aj (aT (ir.1.1,((22:Int),()))) (fun(MR:Int×Unit)=>some (Sum.inl ((bw IntKind.u32 (bw IntKind.u32 (bw IntKind.u32 (bw IntKind.u32 (bw IntKind.u32 ir.1.2.2.2.2.2.2.2.1 (cN IntKind.u32 (cN IntKind.u32 rC.1 KR.1) KS.1)) (cN IntKind.u32 ir.1.2.2.2.2.2.2.1 (fc IntKind.u32 ir.1.2.2.2.2.1 (cN IntKind.u32 ir.1.2.2.2.2.2.1 ir.1.2.2.2.2.2.2.1)))) LD) LF) (bw IntKind.u32 (cN IntKind.u32 (cN IntKind.u32 Mb.1 MQ.1) MR.1) (lQ IntKind.u32 (fc IntKind.u32 ir.1.1 ir.1.2.1) (fc IntKind.u32 ir.1.2.2.1 (lQ IntKind.u32 ir.1.1 ir.1.2.1)))),(ir.1.1,(ir.1.2.1,(ir.1.2.2.1,(bw IntKind.u32 ir.1.2.2.2.1 (bw IntKind.u32 (bw IntKind.u32 (bw IntKind.u32 (bw IntKind.u32 ir.1.2.2.2.2.2.2.2.1 (cN IntKind.u32 (cN IntKind.u32 rC.1 KR.1) KS.1)) (cN IntKind.u32 ir.1.2.2.2.2.2.2.1 (fc IntKind.u32 ir.1.2.2.2.2.1 (cN IntKind.u32 ir.1.2.2.2.2.2.1 ir.1.2.2.2.2.2.2.1)))) LD) LF),(ir.1.2.2.2.2.1,(ir.1.2.2.2.2.2.1,(ir.1.2.2.2.2.2.2.1,(bw IntKind.i64 ir.1.2.2.2.2.2.2.2.2.1 (1:Int),()))))))))),()):((xz×Unit))⊕((Nat×xz×Unit))))))))
 none))
 none))))
 (some (Sum.inr ((0:Nat),((ir.1.1,(ir.1.2.1,(ir.1.2.2.1,(ir.1.2.2.2.1,(ir.1.2.2.2.2.1,(ir.1.2.2.2.2.2.1,(ir.1.2.2.2.2.2.2.1,(ir.1.2.2.2.2.2.2.2.1,(ir.1.2.2.2.2.2.2.2.2.1,()))))))))),())):((xz×Unit))⊕((Nat×xz×Unit)))))
def dc(ir:xz×Unit)(rC:(Int×Unit)×fI×Unit):Option (GW⊕GW) :=
 @iK GW (br (iH rC.1.1 (8:Int))
 (aj (@idx Int ([ir.1.1,ir.1.2.1,ir.1.2.2.1,ir.1.2.2.2.1,ir.1.2.2.2.2.1,ir.1.2.2.2.2.2.1,ir.1.2.2.2.2.2.2.1,ir.1.2.2.2.2.2.2.2.1]:List (Int)) rC.1.1) (fun(KR:Int)=>br (within rC.1.1 (8:Int))
 (aj (@idx Int rC.2.1.1.2.1 rC.1.1) (fun(KS:Int)=>br (within rC.1.1 (8:Int))
 (aj (@idx Int rC.2.1.1.2.1 rC.1.1) (fun(LD:Int)=>aj (@idx Int rC.2.1.1.2.1 rC.1.1) (fun(LF:Int)=>aj (@idx Int rC.2.1.1.2.1 rC.1.1) (fun(Mb:Int)=>some (Sum.inl ((bw IntKind.i64 rC.1.1 (1:Int),()),(((rC.2.1.1.1,(@mG Int rC.2.1.1.2.1 rC.1.1 (bw IntKind.u32 KS KR),rC.2.1.1.2.2)),rC.2.1.2),())):(GW)⊕((Nat×(Int×Unit)×fI×Unit)))))))
 none))
 none))
 (some (Sum.inr ((0:Nat),((rC.1.1,()),(rC.2.1,()))):(GW)⊕((Nat×(Int×Unit)×fI×Unit)))))
def cm(y1:(Sb×Unit)×fI×Unit):Option (((Sb×Unit)×fI×Unit)⊕((Sb×Unit)×fI×Unit)) :=
 @iK ((Sb×Unit)×fI×Unit) (br (nt (qd y1.1.1 ([]:List (UInt8))))
 (br (iG (64:Int) (0:Int))
 none
 (br (inside (gf y1.2.1.2.2.1 (64:Int)) (64:Int) (64:Int))
 (br (inside (@len Int (@fF Int (ah y1.1.1) (minus (64:Int) (gf y1.2.1.2.2.1 (64:Int))))) (@len UInt8 y1.1.1) (@len UInt8 y1.1.1))
 (aj (br (iG (bw IntKind.i64 (gf y1.2.1.2.2.1 (64:Int)) (@len Int (@fF Int (ah y1.1.1) (minus (64:Int) (gf y1.2.1.2.2.1 (64:Int)))))) (64:Int))
 (aj (br (nt y1.2.1.1.1)
 (aj (jm ()) (fun(y2:(List (Int))×Unit)=>some ((),(((true,(y2.1,y1.2.1.1.2.2)),(@over Int y1.2.1.2.1 (gf y1.2.1.2.2.1 (64:Int)) (@fF Int (ah y1.1.1) (minus (64:Int) (gf y1.2.1.2.2.1 (64:Int)))),(bw IntKind.i64 y1.2.1.2.2.1 (@len Int (@fF Int (ah y1.1.1) (minus (64:Int) (gf y1.2.1.2.2.1 (64:Int))))),y1.2.1.2.2.2))),()))))
 (some ((),((y1.2.1.1,(@over Int y1.2.1.2.1 (gf y1.2.1.2.2.1 (64:Int)) (@fF Int (ah y1.1.1) (minus (64:Int) (gf y1.2.1.2.2.1 (64:Int)))),(bw IntKind.i64 y1.2.1.2.2.1 (@len Int (@fF Int (ah y1.1.1) (minus (64:Int) (gf y1.2.1.2.2.1 (64:Int))))),y1.2.1.2.2.2))),())))) (fun(y2:Unit×fI×Unit)=>aj (nW ()) (fun(y3:(List (Int))×Unit)=>aj (iu (@over Int y1.2.1.2.1 (gf y1.2.1.2.2.1 (64:Int)) (@fF Int (ah y1.1.1) (minus (64:Int) (gf y1.2.1.2.2.1 (64:Int)))),())) (fun(y4:(List (Int))×Unit)=>br (within (0:Int) (8:Int))
 (aj (@idx Int y2.2.1.1.2.1 (0:Int)) (fun(y5:Int)=>br (within (1:Int) (8:Int))
 (aj (@idx Int y2.2.1.1.2.1 (1:Int)) (fun(y6:Int)=>br (within (2:Int) (8:Int))
 (aj (@idx Int y2.2.1.1.2.1 (2:Int)) (fun(y7:Int)=>br (within (3:Int) (8:Int))
 (aj (@idx Int y2.2.1.1.2.1 (3:Int)) (fun(y8:Int)=>br (within (4:Int) (8:Int))
 (aj (@idx Int y2.2.1.1.2.1 (4:Int)) (fun(y9:Int)=>br (within (5:Int) (8:Int))
 (aj (@idx Int y2.2.1.1.2.1 (5:Int)) (fun(IK:Int)=>br (within (6:Int) (8:Int))
 (aj (@idx Int y2.2.1.1.2.1 (6:Int)) (fun(KP:Int)=>br (within (7:Int) (8:Int))
 (aj (@idx Int y2.2.1.1.2.1 (7:Int)) (fun(KQ:Int)=>aj (Loop (cl y3 y4) ((y5,(y6,(y7,(y8,(y9,(IK,(KP,(KQ,((0:Int),()))))))))),())) (fun(ir:xz×Unit)=>aj (Loop (dc ir) (((0:Int),()),(y2.2.1,()))) (fun(rC:(Int×Unit)×fI×Unit)=>some ((),(rC.2.1,()))))))
 none))
 none))
 none))
 none))
 none))
 none))
 none))
 none))))
 (some ((),((y1.2.1.1,(@over Int y1.2.1.2.1 (gf y1.2.1.2.2.1 (64:Int)) (@fF Int (ah y1.1.1) (minus (64:Int) (gf y1.2.1.2.2.1 (64:Int)))),(bw IntKind.i64 y1.2.1.2.2.1 (@len Int (@fF Int (ah y1.1.1) (minus (64:Int) (gf y1.2.1.2.2.1 (64:Int))))),y1.2.1.2.2.2))),())))) (fun(y2:Unit×fI×Unit)=>some (Sum.inl ((@sub UInt8 y1.1.1 (@len Int (@fF Int (ah y1.1.1) (minus (64:Int) (gf y1.2.1.2.2.1 (64:Int))))) (minus (@len UInt8 y1.1.1) (@len Int (@fF Int (ah y1.1.1) (minus (64:Int) (gf y1.2.1.2.2.1 (64:Int)))))),()),(y2.2.1,())):(((Sb×Unit)×fI×Unit))⊕((Nat×(Sb×Unit)×fI×Unit)))))
 none)
 none))
 (some (Sum.inr ((0:Nat),((y1.1.1,()),(y1.2.1,()))):(((Sb×Unit)×fI×Unit))⊕((Nat×(Sb×Unit)×fI×Unit)))))
def cG(x:(Sb×Unit)×fI×Unit):Option (Unit×fI×Unit) :=
 aj (Loop (cm) ((x.1.1,()),(x.2.1,()))) (fun(y1:(Sb×Unit)×fI×Unit)=>some ((),(y1.2.1,())))
def bT(y2:Unit×fI×Unit):Option ((Unit×fI×Unit)⊕(Unit×fI×Unit)) :=
 @iK (Unit×fI×Unit) (br (iG (64:Int) (0:Int))
 none
 (br (nt (iG (gf y2.2.1.2.2.1 (64:Int)) (56:Int)))
 (aj (cG ((([(0:UInt8)]:List (UInt8)),()),(y2.2.1,()))) (fun(y3:Unit×fI×Unit)=>some (Sum.inl ((),(y3.2.1,())):((Unit×fI×Unit))⊕((Nat×Unit×fI×Unit)))))
 (some (Sum.inr ((0:Nat),((),(y2.2.1,()))):((Unit×fI×Unit))⊕((Nat×Unit×fI×Unit))))))
def cq(x:Unit×fI×Unit)(y3:(Int×Unit)×(List (Int))×Unit):Option (cF⊕cF) :=
 @iK cF (br (iH y3.1.1 (8:Int))
 (br (iH (gz IntKind.i64 (8:Int) y3.1.1) (0:Int))
 none
 (br (within (eF IntKind.i64 (7:Int) y3.1.1) (8:Int))
 (aj (@idx Int y3.2.1 (eF IntKind.i64 (7:Int) y3.1.1)) (fun(y4:Int)=>aj (@idx Int y3.2.1 (eF IntKind.i64 (7:Int) y3.1.1)) (fun(y5:Int)=>aj (@idx Int y3.2.1 (eF IntKind.i64 (7:Int) y3.1.1)) (fun(y6:Int)=>some (Sum.inl ((bw IntKind.i64 y3.1.1 (1:Int),()),(@mG Int y3.2.1 (eF IntKind.i64 (7:Int) y3.1.1) (jv IntKind.u8 (kM IntKind.u64 (gz IntKind.u64 (jv IntKind.u64 (((((((),(x.2.1,())).2).1).2).2).1)) (8:Int)) (gz IntKind.i64 (8:Int) y3.1.1))),())):(cF)⊕kR)))))
 none))
 (some (Sum.inr ((0:Nat),((y3.1.1,()),(y3.2.1,()))):(cF)⊕kR)))
def de(y4:Unit×fI×Unit)(y5:(Int×Unit)×(List (Int))×Unit):Option (cF⊕cF) :=
 @iK cF (br (iH y5.1.1 (32:Int))
 (br (iG (4:Int) (0:Int))
 none
 (br (within (tq IntKind.i64 y5.1.1 (4:Int)) (8:Int))
 (aj (@idx Int y4.2.1.1.2.1 (tq IntKind.i64 y5.1.1 (4:Int))) (fun(y6:Int)=>br (iG (4:Int) (0:Int))
 none
 (br (iH (eF IntKind.i64 (24:Int) (gz IntKind.i64 (8:Int) (gf y5.1.1 (4:Int)))) (0:Int))
 none
 (br (within y5.1.1 (32:Int))
 (aj (@idx Int y5.2.1 y5.1.1) (fun(y7:Int)=>aj (@idx Int y5.2.1 y5.1.1) (fun(y8:Int)=>aj (@idx Int y5.2.1 y5.1.1) (fun(y9:Int)=>some (Sum.inl ((bw IntKind.i64 y5.1.1 (1:Int),()),(@mG Int y5.2.1 y5.1.1 (jv IntKind.u8 (kM IntKind.u32 y6 (eF IntKind.i64 (24:Int) (gz IntKind.i64 (8:Int) (gf y5.1.1 (4:Int)))))),())):(cF)⊕kR)))))
 none))))
 none))
 (some (Sum.inr ((0:Nat),((y5.1.1,()),(y5.2.1,()))):(cF)⊕kR)))
def gp(x:Unit×fI×Unit):Option (xA×fI×Unit) :=
 aj (cG ((aB ([(128:Int)]:List (Int)),()),((((),(x.2.1,())).2).1,()))) (fun(y1:Unit×fI×Unit)=>aj (Loop (bT) ((),(y1.2.1,()))) (fun(y2:Unit×fI×Unit)=>aj (Loop (cq x) (((0:Int),()),(([(0:Int),(0:Int),(0:Int),(0:Int),(0:Int),(0:Int),(0:Int),(0:Int)]:List (Int)),()))) (fun(y3:(Int×Unit)×(List (Int))×Unit)=>br (inside (0:Int) (8:Int) (8:Int))
 (aj (cG ((aB (@sub Int y3.2.1 (0:Int) (minus (8:Int) (0:Int))),()),(y2.2.1,()))) (fun(y4:Unit×fI×Unit)=>aj (Loop (de y4) (((0:Int),()),(([(0:Int),(0:Int),(0:Int),(0:Int),(0:Int),(0:Int),(0:Int),(0:Int),(0:Int),(0:Int),(0:Int),(0:Int),(0:Int),(0:Int),(0:Int),(0:Int),(0:Int),(0:Int),(0:Int),(0:Int),(0:Int),(0:Int),(0:Int),(0:Int),(0:Int),(0:Int),(0:Int),(0:Int),(0:Int),(0:Int),(0:Int),(0:Int)]:List (Int)),()))) (fun(y5:(Int×Unit)×(List (Int))×Unit)=>some ((y5.2.1,()),(x.2.1,())))))
 none)))
def oJ(x:Sb×Unit):Option xA :=
 aj (cG ((x.1,()),(((false,(([(0:Int),(0:Int),(0:Int),(0:Int),(0:Int),(0:Int),(0:Int),(0:Int)]:List (Int)),())),(([(0:Int),(0:Int),(0:Int),(0:Int),(0:Int),(0:Int),(0:Int),(0:Int),(0:Int),(0:Int),(0:Int),(0:Int),(0:Int),(0:Int),(0:Int),(0:Int),(0:Int),(0:Int),(0:Int),(0:Int),(0:Int),(0:Int),(0:Int),(0:Int),(0:Int),(0:Int),(0:Int),(0:Int),(0:Int),(0:Int),(0:Int),(0:Int),(0:Int),(0:Int),(0:Int),(0:Int),(0:Int),(0:Int),(0:Int),(0:Int),(0:Int),(0:Int),(0:Int),(0:Int),(0:Int),(0:Int),(0:Int),(0:Int),(0:Int),(0:Int),(0:Int),(0:Int),(0:Int),(0:Int),(0:Int),(0:Int),(0:Int),(0:Int),(0:Int),(0:Int),(0:Int),(0:Int),(0:Int),(0:Int)]:List (Int)),((0:Int),()))),()))) (fun(y1:Unit×fI×Unit)=>aj (gp ((),(y1.2.1,()))) (fun(y2:xA×fI×Unit)=>some (y2.1.1,())))
def lI(x:Unit):Option xA :=
 some (([(1779033703:Int),(3144134277:Int),(1013904242:Int),(2773480762:Int),(1359893119:Int),(2600822924:Int),(528734635:Int),(1541459225:Int)]:List (Int)),())
def eP(y1:(Unit×Unit)×(List (Int))×Unit):Option (GV⊕GV) :=
 @iK GV (br (iG (64:Int) (0:Int))
 none
 (br (nt (iG (gf (@len Int y1.2.1) (64:Int)) (56:Int)))
 (br (fits (plus (@len Int y1.2.1) (@len Int ([(0:Int)]:List (Int)))))
 (some (Sum.inl (((),()),(@app Int y1.2.1 ([(0:Int)]:List (Int)),())):(GV)⊕((Nat×(Unit×Unit)×(List (Int))×Unit))))
 none)
 (some (Sum.inr ((0:Nat),(((),()),(y1.2.1,()))):(GV)⊕((Nat×(Unit×Unit)×(List (Int))×Unit))))))
def bR(x:Sb×Unit)(y2:(Unit×Int×Unit)×(List (Int))×Unit):Option (GU⊕GU) :=
 @iK GU (br (DX (0:Int) y2.1.2.1)
 (br (iH (gz IntKind.i64 (8:Int) y2.1.2.1) (0:Int))
 none
 (br (fits (plus (@len Int y2.2.1) (@len Int ([jv IntKind.u8 (kM IntKind.u64 (gz IntKind.u64 (jv IntKind.u64 (@len UInt8 x.1)) (8:Int)) (gz IntKind.i64 (8:Int) y2.1.2.1))]:List (Int)))))
 (some (Sum.inl (((),(eF IntKind.i64 y2.1.2.1 (1:Int),())),(@app Int y2.2.1 ([jv IntKind.u8 (kM IntKind.u64 (gz IntKind.u64 (jv IntKind.u64 (@len UInt8 x.1)) (8:Int)) (gz IntKind.i64 (8:Int) y2.1.2.1))]:List (Int)),())):(GU)⊕((Nat×(Unit×Int×Unit)×(List (Int))×Unit))))
 none))
 (some (Sum.inr ((0:Nat),(((),(y2.1.2.1,())),(y2.2.1,()))):(GU)⊕((Nat×(Unit×Int×Unit)×(List (Int))×Unit)))))
def jc(x:Sb×Unit):Option (Sb×Unit) :=
 br (fits (@len UInt8 x.1))
 (br (fits (plus (@len Int (ah x.1)) (@len Int ([(128:Int)]:List (Int)))))
 (aj (Loop (eP) (((),()),(@app Int (ah x.1) ([(128:Int)]:List (Int)),()))) (fun(y1:(Unit×Unit)×(List (Int))×Unit)=>aj (Loop (bR x) (((),((7:Int),())),(y1.2.1,()))) (fun(y2:(Unit×Int×Unit)×(List (Int))×Unit)=>some (aB y2.2.1,()))))
 none)
 none
def aP(x:Int×Int×Unit):Option (Int×Unit) :=
 br (iH x.2.1 (0:Int))
 none
 (br (iH (eF IntKind.i64 (32:Int) x.2.1) (0:Int))
 none
 (some (lQ IntKind.u32 (kM IntKind.u32 x.1 x.2.1) (fH IntKind.u32 x.1 (eF IntKind.i64 (32:Int) x.2.1)),())))
def kz(x:Unit):Option xA :=
 some (([(1116352408:Int),(1899447441:Int),(3049323471:Int),(3921009573:Int),(961987163:Int),(1508970993:Int),(2453635748:Int),(2870763221:Int),(3624381080:Int),(310598401:Int),(607225278:Int),(1426881987:Int),(1925078388:Int),(2162078206:Int),(2614888103:Int),(3248222580:Int),(3835390401:Int),(4022224774:Int),(264347078:Int),(604807628:Int),(770255983:Int),(1249150122:Int),(1555081692:Int),(1996064986:Int),(2554220882:Int),(2821834349:Int),(2952996808:Int),(3210313671:Int),(3336571891:Int),(3584528711:Int),(113926993:Int),(338241895:Int),(666307205:Int),(773529912:Int),(1294757372:Int),(1396182291:Int),(1695183700:Int),(1986661051:Int),(2177026350:Int),(2456956037:Int),(2730485921:Int),(2820302411:Int),(3259730800:Int),(3345764771:Int),(3516065817:Int),(3600352804:Int),(4094571909:Int),(275423344:Int),(430227734:Int),(506948616:Int),(659060556:Int),(883997877:Int),(958139571:Int),(1322822218:Int),(1537002063:Int),(1747873779:Int),(1955562222:Int),(2024104815:Int),(2227730452:Int),(2361852424:Int),(2428436474:Int),(2756734187:Int),(3204031479:Int),(3329325298:Int)]:List (Int)),())
def dF(x:(List (Int))×Sb×Unit)(y1:(Int×Unit)×(List (Int))×Unit):Option (cF⊕cF) :=
 @iK cF (br (iH y1.1.1 (16:Int))
 (aj (@idx UInt8 x.2.1 (gz IntKind.i64 (4:Int) y1.1.1)) (fun(y2:UInt8)=>br (iH (24:Int) (0:Int))
 none
 (aj (@idx UInt8 x.2.1 (bw IntKind.i64 (gz IntKind.i64 (4:Int) y1.1.1) (1:Int))) (fun(y3:UInt8)=>br (iH (16:Int) (0:Int))
 none
 (aj (@idx UInt8 x.2.1 (bw IntKind.i64 (gz IntKind.i64 (4:Int) y1.1.1) (2:Int))) (fun(y4:UInt8)=>br (iH (8:Int) (0:Int))
 none
 (aj (@idx UInt8 x.2.1 (bw IntKind.i64 (gz IntKind.i64 (4:Int) y1.1.1) (3:Int))) (fun(y5:UInt8)=>br (within y1.1.1 (64:Int))
 (aj (@idx Int y1.2.1 y1.1.1) (fun(y6:Int)=>aj (@idx Int y1.2.1 y1.1.1) (fun(y7:Int)=>aj (@idx Int y1.2.1 y1.1.1) (fun(y8:Int)=>some (Sum.inl ((bw IntKind.i64 y1.1.1 (1:Int),()),(@mG Int y1.2.1 y1.1.1 (lQ IntKind.u32 (lQ IntKind.u32 (lQ IntKind.u32 (fH IntKind.u32 (jv IntKind.u32 (u8 y2)) (24:Int)) (fH IntKind.u32 (jv IntKind.u32 (u8 y3)) (16:Int))) (fH IntKind.u32 (jv IntKind.u32 (u8 y4)) (8:Int))) (jv IntKind.u32 (u8 y5))),())):(cF)⊕kR)))))
 none))))))))
 (some (Sum.inr ((0:Nat),((y1.1.1,()),(y1.2.1,()))):(cF)⊕kR)))
def eR(y2:(Int×Unit)×(List (Int))×Unit):Option (cF⊕cF) :=
 @iK cF (br (iH y2.1.1 (64:Int))
 (br (within (eF IntKind.i64 y2.1.1 (2:Int)) (64:Int))
 (aj (@idx Int y2.2.1 (eF IntKind.i64 y2.1.1 (2:Int))) (fun(y3:Int)=>br (within (eF IntKind.i64 y2.1.1 (15:Int)) (64:Int))
 (aj (@idx Int y2.2.1 (eF IntKind.i64 y2.1.1 (15:Int))) (fun(y4:Int)=>aj (aP (y3,((17:Int),()))) (fun(y5:Int×Unit)=>aj (aP (y3,((19:Int),()))) (fun(y6:Int×Unit)=>br (iH (10:Int) (0:Int))
 none
 (br (within (eF IntKind.i64 y2.1.1 (7:Int)) (64:Int))
 (aj (@idx Int y2.2.1 (eF IntKind.i64 y2.1.1 (7:Int))) (fun(y7:Int)=>aj (aP (y4,((7:Int),()))) (fun(y8:Int×Unit)=>aj (aP (y4,((18:Int),()))) (fun(y9:Int×Unit)=>br (iH (3:Int) (0:Int))
 none
 (br (within (eF IntKind.i64 y2.1.1 (16:Int)) (64:Int))
 (aj (@idx Int y2.2.1 (eF IntKind.i64 y2.1.1 (16:Int))) (fun(IK:Int)=>br (within y2.1.1 (64:Int))
 (aj (@idx Int y2.2.1 y2.1.1) (fun(KP:Int)=>aj (@idx Int y2.2.1 y2.1.1) (fun(KQ:Int)=>aj (@idx Int y2.2.1 y2.1.1) (fun(ir:Int)=>some (Sum.inl ((bw IntKind.i64 y2.1.1 (1:Int),()),(@mG Int y2.2.1 y2.1.1 (bw IntKind.u32 (bw IntKind.u32 (bw IntKind.u32 (cN IntKind.u32 (cN IntKind.u32 y5.1 y6.1) (kM IntKind.u32 y3 (10:Int))) y7) (cN IntKind.u32 (cN IntKind.u32 y8.1 y9.1) (kM IntKind.u32 y4 (3:Int)))) IK),())):(cF)⊕kR)))))
 none))
 none)))))
 none)))))
 none))
 none)
 (some (Sum.inr ((0:Nat),((y2.1.1,()),(y2.2.1,()))):(cF)⊕kR)))
def dG(y2:(Int×Unit)×(List (Int))×Unit)(y3:(List (Int))×Unit)(y4:(Int×Unit)×(List (Int))×Unit):Option (cF⊕cF) :=
 @iK cF (br (iH y4.1.1 (64:Int))
 (br (within (4:Int) (8:Int))
 (aj (@idx Int y4.2.1 (4:Int)) (fun(y5:Int)=>br (within (0:Int) (8:Int))
 (aj (@idx Int y4.2.1 (0:Int)) (fun(y6:Int)=>br (within (7:Int) (8:Int))
 (aj (@idx Int y4.2.1 (7:Int)) (fun(y7:Int)=>aj (aP (y5,((6:Int),()))) (fun(y8:Int×Unit)=>aj (aP (y5,((11:Int),()))) (fun(y9:Int×Unit)=>aj (aP (y5,((25:Int),()))) (fun(IK:Int×Unit)=>br (within (5:Int) (8:Int))
 (aj (@idx Int y4.2.1 (5:Int)) (fun(KP:Int)=>br (within (6:Int) (8:Int))
 (aj (@idx Int y4.2.1 (6:Int)) (fun(KQ:Int)=>br (within y4.1.1 (64:Int))
 (aj (@idx Int y3.1 y4.1.1) (fun(ir:Int)=>br (within y4.1.1 (64:Int))
 (aj (@idx Int y2.2.1 y4.1.1) (fun(rC:Int)=>aj (aP (y6,((2:Int),()))) (fun(KR:Int×Unit)=>aj (aP (y6,((13:Int),()))) (fun(KS:Int×Unit)=>aj (aP (y6,((22:Int),()))) (fun(LD:Int×Unit)=>br (within (1:Int) (8:Int))
 (aj (@idx Int y4.2.1 (1:Int)) (fun(LF:Int)=>br (within (2:Int) (8:Int))
 (aj (@idx Int y4.2.1 (2:Int)) (fun(Mb:Int)=>br (within (1:Int) (8:Int))
 (aj (@idx Int y4.2.1 (1:Int)) (fun(MQ:Int)=>br (within (2:Int) (8:Int))
 (aj (@idx Int y4.2.1 (2:Int)) (fun(MR:Int)=>br (within (0:Int) (8:Int))
 (aj (@idx Int y4.2.1 (0:Int)) (fun(OW:Int)=>br (within (1:Int) (8:Int))
 (aj (@idx Int y4.2.1 (1:Int)) (fun(OX:Int)=>br (within (2:Int) (8:Int))
 (aj (@idx Int y4.2.1 (2:Int)) (fun(OY:Int)=>br (within (3:Int) (8:Int))
 (aj (@idx Int y4.2.1 (3:Int)) (fun(OZ:Int)=>br (within (4:Int) (8:Int))
 (aj (@idx Int y4.2.1 (4:Int)) (fun(O0:Int)=>br (within (5:Int) (8:Int))
 (aj (@idx Int y4.2.1 (5:Int)) (fun(O1:Int)=>br (within (6:Int) (8:Int))
 (aj (@idx Int y4.2.1 (6:Int)) (fun(O2:Int)=>some (Sum.inl ((bw IntKind.i64 y4.1.1 (1:Int),()),(([bw IntKind.u32 (bw IntKind.u32 (bw IntKind.u32 (bw IntKind.u32 (bw IntKind.u32 y7 (cN IntKind.u32 (cN IntKind.u32 y8.1 y9.1) IK.1)) (cN IntKind.u32 (fc IntKind.u32 y5 KP) (fc IntKind.u32 (cN IntKind.u32 (4294967295:Int) y5) KQ))) ir) rC) (bw IntKind.u32 (cN IntKind.u32 (cN IntKind.u32 KR.1 KS.1) LD.1) (cN IntKind.u32 (cN IntKind.u32 (fc IntKind.u32 y6 LF) (fc IntKind.u32 y6 Mb)) (fc IntKind.u32 MQ MR))),OW,OX,OY,bw IntKind.u32 OZ (bw IntKind.u32 (bw IntKind.u32 (bw IntKind.u32 (bw IntKind.u32 y7 (cN IntKind.u32 (cN IntKind.u32 y8.1 y9.1) IK.1)) (cN IntKind.u32 (fc IntKind.u32 y5 KP) (fc IntKind.u32 (cN IntKind.u32 (4294967295:Int) y5) KQ))) ir) rC),O0,O1,O2]:List (Int)),())):(cF)⊕kR)))
 none))
 none))
 none))
 none))
 none))
 none))
 none))
 none))
 none))
 none))
 none)))))
 none))
 none))
 none))
 none)))))
 none))
 none))
 none)
 (some (Sum.inr ((0:Nat),((y4.1.1,()),(y4.2.1,()))):(cF)⊕kR)))
def eS(x:(List (Int))×Sb×Unit)(y5:(Int×Unit)×(List (Int))×Unit):Option (cF⊕cF) :=
 @iK cF (br (iH y5.1.1 (8:Int))
 (br (within y5.1.1 (8:Int))
 (aj (@idx Int y5.2.1 y5.1.1) (fun(y6:Int)=>br (within y5.1.1 (8:Int))
 (aj (@idx Int x.1 y5.1.1) (fun(y7:Int)=>br (within y5.1.1 (8:Int))
 (aj (@idx Int y5.2.1 y5.1.1) (fun(y8:Int)=>aj (@idx Int y5.2.1 y5.1.1) (fun(y9:Int)=>aj (@idx Int y5.2.1 y5.1.1) (fun(IK:Int)=>some (Sum.inl ((bw IntKind.i64 y5.1.1 (1:Int),()),(@mG Int y5.2.1 y5.1.1 (bw IntKind.u32 y6 y7),())):(cF)⊕kR)))))
 none))
 none))
 none)
 (some (Sum.inr ((0:Nat),((y5.1.1,()),(y5.2.1,()))):(cF)⊕kR)))
def jd(x:(List (Int))×Sb×Unit):Option xA :=
 aj (Loop (dF x) (((0:Int),()),(([(0:Int),(0:Int),(0:Int),(0:Int),(0:Int),(0:Int),(0:Int),(0:Int),(0:Int),(0:Int),(0:Int),(0:Int),(0:Int),(0:Int),(0:Int),(0:Int),(0:Int),(0:Int),(0:Int),(0:Int),(0:Int),(0:Int),(0:Int),(0:Int),(0:Int),(0:Int),(0:Int),(0:Int),(0:Int),(0:Int),(0:Int),(0:Int),(0:Int),(0:Int),(0:Int),(0:Int),(0:Int),(0:Int),(0:Int),(0:Int),(0:Int),(0:Int),(0:Int),(0:Int),(0:Int),(0:Int),(0:Int),(0:Int),(0:Int),(0:Int),(0:Int),(0:Int),(0:Int),(0:Int),(0:Int),(0:Int),(0:Int),(0:Int),(0:Int),(0:Int),(0:Int),(0:Int),(0:Int),(0:Int)]:List (Int)),()))) (fun(y1:(Int×Unit)×(List (Int))×Unit)=>aj (Loop (eR) (((16:Int),()),(y1.2.1,()))) (fun(y2:(Int×Unit)×(List (Int))×Unit)=>aj (kz ()) (fun(y3:(List (Int))×Unit)=>aj (Loop (dG y2 y3) (((0:Int),()),(x.1,()))) (fun(y4:(Int×Unit)×(List (Int))×Unit)=>aj (Loop (eS x) (((0:Int),()),(y4.2.1,()))) (fun(y5:(Int×Unit)×(List (Int))×Unit)=>some (y5.2.1,()))))))
def fS(y2:Sb×Unit)(y3:(Int×Unit)×(List (Int))×Unit):Option (cF⊕cF) :=
 @iK cF (br (DX (bw IntKind.i64 y3.1.1 (64:Int)) (@len UInt8 y2.1))
 (br (inside y3.1.1 (bw IntKind.i64 y3.1.1 (64:Int)) (@len UInt8 y2.1))
 (aj (jd (y3.2.1,(@sub UInt8 y2.1 y3.1.1 (minus (bw IntKind.i64 y3.1.1 (64:Int)) y3.1.1),()))) (fun(y4:(List (Int))×Unit)=>some (Sum.inl ((bw IntKind.i64 y3.1.1 (64:Int),()),(y4.1,())):(cF)⊕kR)))
 none)
 (some (Sum.inr ((0:Nat),((y3.1.1,()),(y3.2.1,()))):(cF)⊕kR)))
def fT(y3:(Int×Unit)×(List (Int))×Unit)(y4:(Int×Unit)×(List (Int))×Unit):Option (cF⊕cF) :=
 @iK cF (br (iH y4.1.1 (32:Int))
 (br (iG (4:Int) (0:Int))
 none
 (br (within (tq IntKind.i64 y4.1.1 (4:Int)) (8:Int))
 (aj (@idx Int y3.2.1 (tq IntKind.i64 y4.1.1 (4:Int))) (fun(y5:Int)=>br (iG (4:Int) (0:Int))
 none
 (br (iH (eF IntKind.i64 (24:Int) (gz IntKind.i64 (8:Int) (gf y4.1.1 (4:Int)))) (0:Int))
 none
 (br (within y4.1.1 (32:Int))
 (aj (@idx Int y4.2.1 y4.1.1) (fun(y6:Int)=>aj (@idx Int y4.2.1 y4.1.1) (fun(y7:Int)=>aj (@idx Int y4.2.1 y4.1.1) (fun(y8:Int)=>some (Sum.inl ((bw IntKind.i64 y4.1.1 (1:Int),()),(@mG Int y4.2.1 y4.1.1 (jv IntKind.u8 (kM IntKind.u32 y5 (eF IntKind.i64 (24:Int) (gz IntKind.i64 (8:Int) (gf y4.1.1 (4:Int)))))),())):(cF)⊕kR)))))
 none))))
 none))
 (some (Sum.inr ((0:Nat),((y4.1.1,()),(y4.2.1,()))):(cF)⊕kR)))
def ld(x:Sb×Unit):Option xA :=
 aj (lI ()) (fun(y1:(List (Int))×Unit)=>aj (jc (x.1,())) (fun(y2:Sb×Unit)=>aj (Loop (fS y2) (((0:Int),()),(y1.1,()))) (fun(y3:(Int×Unit)×(List (Int))×Unit)=>aj (Loop (fT y3) (((0:Int),()),(([(0:Int),(0:Int),(0:Int),(0:Int),(0:Int),(0:Int),(0:Int),(0:Int),(0:Int),(0:Int),(0:Int),(0:Int),(0:Int),(0:Int),(0:Int),(0:Int),(0:Int),(0:Int),(0:Int),(0:Int),(0:Int),(0:Int),(0:Int),(0:Int),(0:Int),(0:Int),(0:Int),(0:Int),(0:Int),(0:Int),(0:Int),(0:Int)]:List (Int)),()))) (fun(y4:(Int×Unit)×(List (Int))×Unit)=>some (y4.2.1,())))))
end Go.Ge
namespace Go.Ge
variable [Lp]
set_option maxRecDepth 100000
abbrev xB:=(Sb×Sb×Bool×Unit×Unit)
abbrev GX:=((Int×Unit)×(Unit×Unit×Unit)×(List (Int))×Unit)
abbrev GY:=((Unit×Int×Unit)×(List (Int))×Unit)
def fh(x:Sb×Unit)(y1:(Int×Unit)×(Unit×Unit×Unit)×(List (Int))×Unit):Option (GX⊕GX) :=
 @iK GX (br (iH y1.1.1 (@len Int (ah x.1)))
 (br (within y1.1.1 (@len Int (ah x.1)))
 (aj (@idx Int (ah x.1) y1.1.1) (fun(y2:Int)=>br (iH (4:Int) (0:Int))
 none
 (aj (@idx UInt8 ([(48:UInt8),(49:UInt8),(50:UInt8),(51:UInt8),(52:UInt8),(53:UInt8),(54:UInt8),(55:UInt8),(56:UInt8),(57:UInt8),(97:UInt8),(98:UInt8),(99:UInt8),(100:UInt8),(101:UInt8),(102:UInt8)]:List (UInt8)) (kM IntKind.u8 y2 (4:Int))) (fun(y3:UInt8)=>br (fits (plus (@len Int y1.2.2.1) (@len Int ([u8 y3]:List (Int)))))
 (aj (@idx UInt8 ([(48:UInt8),(49:UInt8),(50:UInt8),(51:UInt8),(52:UInt8),(53:UInt8),(54:UInt8),(55:UInt8),(56:UInt8),(57:UInt8),(97:UInt8),(98:UInt8),(99:UInt8),(100:UInt8),(101:UInt8),(102:UInt8)]:List (UInt8)) (fc IntKind.u8 y2 (15:Int))) (fun(y4:UInt8)=>br (fits (plus (@len Int (@app Int y1.2.2.1 ([u8 y3]:List (Int)))) (@len Int ([u8 y4]:List (Int)))))
 (some (Sum.inl ((bw IntKind.i64 y1.1.1 (1:Int),()),(((),((),y1.2.1.2.2)),(@app Int (@app Int y1.2.2.1 ([u8 y3]:List (Int))) ([u8 y4]:List (Int)),()))):(GX)⊕((Nat×(Int×Unit)×(Unit×Unit×Unit)×(List (Int))×Unit))))
 none))
 none))))
 none)
 (some (Sum.inr ((0:Nat),((y1.1.1,()),(((),((),y1.2.1.2.2)),(y1.2.2.1,())))):(GX)⊕((Nat×(Int×Unit)×(Unit×Unit×Unit)×(List (Int))×Unit)))))
def jM(x:Sb×Unit):Option (Sb×Unit) :=
 br (fits (@len UInt8 x.1))
 (aj (Loop (fh x) (((0:Int),()),(((),((),())),(([]:List (Int)),())))) (fun(y1:(Int×Unit)×(Unit×Unit×Unit)×(List (Int))×Unit)=>some (aB y1.2.2.1,())))
 none
def eg(x:Sb×Unit):Option (Sb×Unit) :=
 aj (oJ (x.1,())) (fun(y1:(List (Int))×Unit)=>br (inside (0:Int) (32:Int) (32:Int))
 (aj (jM (aB (@sub Int y1.1 (0:Int) (minus (32:Int) (0:Int))),())) (fun(y2:Sb×Unit)=>br (fits (plus (@len UInt8 ([(115:UInt8),(104:UInt8),(97:UInt8),(50:UInt8),(53:UInt8),(54:UInt8),(58:UInt8)]:List (UInt8))) (@len UInt8 y2.1)))
 (some (@app UInt8 ([(115:UInt8),(104:UInt8),(97:UInt8),(50:UInt8),(53:UInt8),(54:UInt8),(58:UInt8)]:List (UInt8)) y2.1,()))
 none))
 none)
def bL(x:Sb×Sb×Unit):Option (Bool×Unit) :=
 aj (br (DX (@len UInt8 x.2.1) (@len UInt8 x.1))
 (br (inside (0:Int) (@len UInt8 x.2.1) (@len UInt8 x.1))
 (some (qd (@sub UInt8 x.1 (0:Int) (minus (@len UInt8 x.2.1) (0:Int))) x.2.1))
 none)
 (some false)) (fun(y1:Bool)=>some (y1,()))
def cg(x:Sb×Sb×Unit):Option (Sb×Bool×Unit) :=
 aj (bL (x.1,(x.2.1,()))) (fun(y1:Bool×Unit)=>br (nt y1.1)
 (some (x.1,(false,())))
 (br (inside (@len UInt8 x.2.1) (@len UInt8 x.1) (@len UInt8 x.1))
 (some (@sub UInt8 x.1 (@len UInt8 x.2.1) (minus (@len UInt8 x.1) (@len UInt8 x.2.1)),(true,())))
 none))
def eI(x:Sb×Sb×Unit):Option (Sb×Bool×Unit) :=
 aj (cg (x.1,(x.2.1,()))) (fun(y1:Sb×Bool×Unit)=>some (y1.1,(y1.2.1,())))
def dh(x:Sb×Int×Unit):Option (Int×Unit) :=
 aj (bK (x.1,(x.2.1,()))) (fun(y1:Int×Unit)=>some (y1.1,()))
def ek(y1:xB×(List (Int))×Unit):Option ((xB×(List (Int))×Unit)⊕(Nat×xB×(List (Int))×Unit)) :=
 br (nt (qd y1.1.1 ([]:List (UInt8))))
 (aj (@idx UInt8 y1.1.1 (0:Int)) (fun(y2:UInt8)=>aj (dh (([(48:UInt8),(49:UInt8),(50:UInt8),(51:UInt8),(52:UInt8),(53:UInt8),(54:UInt8),(55:UInt8),(56:UInt8),(57:UInt8),(97:UInt8),(98:UInt8),(99:UInt8),(100:UInt8),(101:UInt8),(102:UInt8)]:List (UInt8)),(u8 y2,()))) (fun(y3:Int×Unit)=>aj (@idx UInt8 y1.1.1 (1:Int)) (fun(y4:UInt8)=>aj (dh (([(48:UInt8),(49:UInt8),(50:UInt8),(51:UInt8),(52:UInt8),(53:UInt8),(54:UInt8),(55:UInt8),(56:UInt8),(57:UInt8),(97:UInt8),(98:UInt8),(99:UInt8),(100:UInt8),(101:UInt8),(102:UInt8)]:List (UInt8)),(u8 y4,()))) (fun(y5:Int×Unit)=>br (br (nt (iH y3.1 (0:Int)))
 (iH y5.1 (0:Int))
 true)
 (some (Sum.inr ((1:Nat),((y1.1.1,(([]:List (UInt8)),(false,((),())))),(y1.2.1,()))):((xB×(List (Int))×Unit))⊕((Nat×xB×(List (Int))×Unit))))
 (br (iH (4:Int) (0:Int))
 none
 (br (fits (plus (@len Int y1.2.1) (@len Int ([jv IntKind.u8 (lQ IntKind.i64 (fH IntKind.i64 y3.1 (4:Int)) y5.1)]:List (Int)))))
 (br (inside (2:Int) (@len UInt8 y1.1.1) (@len UInt8 y1.1.1))
 (some (Sum.inl ((@sub UInt8 y1.1.1 (2:Int) (minus (@len UInt8 y1.1.1) (2:Int)),(y1.1.2.1,(y1.1.2.2.1,((),())))),(@app Int y1.2.1 ([jv IntKind.u8 (lQ IntKind.i64 (fH IntKind.i64 y3.1 (4:Int)) y5.1)]:List (Int)),())):((xB×(List (Int))×Unit))⊕((Nat×xB×(List (Int))×Unit))))
 none)
 none)))))))
 (some (Sum.inr ((0:Nat),((y1.1.1,(y1.1.2.1,(y1.1.2.2.1,((),())))),(y1.2.1,()))):((xB×(List (Int))×Unit))⊕((Nat×xB×(List (Int))×Unit))))
def iw(x:Sb×Unit):Option (Sb×Bool×Unit) :=
 br (iG (2:Int) (0:Int))
 none
 (br (nt (iG (gf (@len UInt8 x.1) (2:Int)) (0:Int)))
 (some (([]:List (UInt8)),(false,())))
 (aj (Loop (ek) ((x.1,(([]:List (UInt8)),(false,((),())))),(([]:List (Int)),()))) (fun(y1:Nat×xB×(List (Int))×Unit)=>br (Jr y1.1 (0:Nat))
 (some (aB y1.2.2.1,(true,())))
 (some (y1.2.1.2.1,(y1.2.1.2.2.1,()))))))
def fU(x:Sb×Unit):Option (Int×Unit) :=
 aj (eI (x.1,(([(115:UInt8),(104:UInt8),(97:UInt8),(50:UInt8),(53:UInt8),(54:UInt8),(58:UInt8)]:List (UInt8)),()))) (fun(y1:Sb×Bool×Unit)=>aj (iw (y1.1,())) (fun(y2:Sb×Bool×Unit)=>br (br (nt (br (nt (nt y1.2.1))
 (nt y2.2.1)
 true))
 (nt (iG (@len UInt8 y1.1) (64:Int)))
 true)
 (some ((2:Int),()))
 (some ((0:Int),()))))
def jn(x:Sb×Sb×Unit):Option (Bool×Unit) :=
 aj (eg (x.2.1,())) (fun(y1:Sb×Unit)=>some (qd x.1 y1.1,()))
def fB(x:Unit):Option (Bool×Unit) :=
 aj (eg (([(97:UInt8),(98:UInt8),(99:UInt8)]:List (UInt8)),())) (fun(y1:Sb×Unit)=>aj (br (iG (@len UInt8 y1.1) (71:Int))
 (br (inside (0:Int) (15:Int) (@len UInt8 y1.1))
 (some (qd (@sub UInt8 y1.1 (0:Int) (minus (15:Int) (0:Int))) ([(115:UInt8),(104:UInt8),(97:UInt8),(50:UInt8),(53:UInt8),(54:UInt8),(58:UInt8),(98:UInt8),(97:UInt8),(55:UInt8),(56:UInt8),(49:UInt8),(54:UInt8),(98:UInt8),(102:UInt8)]:List (UInt8))))
 none)
 (some false)) (fun(y2:Bool)=>aj (br y2
 (aj (fU (y1.1,())) (fun(y3:Int×Unit)=>some (iG y3.1 (0:Int))))
 (some false)) (fun(y3:Bool)=>aj (br y3
 (br (inside (1:Int) (@len UInt8 y1.1) (@len UInt8 y1.1))
 (aj (fU (@sub UInt8 y1.1 (1:Int) (minus (@len UInt8 y1.1) (1:Int)),())) (fun(y4:Int×Unit)=>some (iG y4.1 (2:Int))))
 none)
 (some false)) (fun(y4:Bool)=>aj (br y4
 (aj (jn (y1.1,(([(97:UInt8),(98:UInt8),(99:UInt8)]:List (UInt8)),()))) (fun(y5:Bool×Unit)=>some y5.1))
 (some false)) (fun(y5:Bool)=>aj (br y5
 (aj (jn (y1.1,(([(97:UInt8),(98:UInt8),(100:UInt8)]:List (UInt8)),()))) (fun(y6:Bool×Unit)=>some (nt y6.1)))
 (some false)) (fun(y6:Bool)=>some (y6,())))))))
def gG(x:Int×Unit):Option (Int×Unit) :=
 br (iH x.1 (10:Int))
 (some (jv IntKind.u8 (bw IntKind.i64 (48:Int) x.1),()))
 (some (jv IntKind.u8 (eF IntKind.i64 (bw IntKind.i64 (97:Int) x.1) (10:Int)),()))
def fV(x:Sb×Unit)(y1:(Unit×Int×Unit)×(List (Int))×Unit):Option (GY⊕GY) :=
 @iK GY (br (iH y1.1.2.1 (@len UInt8 x.1))
 (aj (@idx UInt8 x.1 y1.1.2.1) (fun(y2:UInt8)=>br (iG (16:Int) (0:Int))
 none
 (aj (gG (tq IntKind.i64 (jv IntKind.i64 (u8 y2)) (16:Int),())) (fun(y3:Int×Unit)=>br (fits (plus (@len Int y1.2.1) (@len Int ([y3.1]:List (Int)))))
 (aj (@idx UInt8 x.1 y1.1.2.1) (fun(y4:UInt8)=>br (iG (16:Int) (0:Int))
 none
 (aj (gG (gf (jv IntKind.i64 (u8 y4)) (16:Int),())) (fun(y5:Int×Unit)=>br (fits (plus (@len Int (@app Int y1.2.1 ([y3.1]:List (Int)))) (@len Int ([y5.1]:List (Int)))))
 (some (Sum.inl (((),(bw IntKind.i64 y1.1.2.1 (1:Int),())),(@app Int (@app Int y1.2.1 ([y3.1]:List (Int))) ([y5.1]:List (Int)),())):(GY)⊕((Nat×(Unit×Int×Unit)×(List (Int))×Unit))))
 none))))
 none))))
 (some (Sum.inr ((0:Nat),(((),(y1.1.2.1,())),(y1.2.1,()))):(GY)⊕((Nat×(Unit×Int×Unit)×(List (Int))×Unit)))))
def lf(x:Sb×Unit):Option (Sb×Unit) :=
 aj (Loop (fV x) (((),((0:Int),())),(([]:List (Int)),()))) (fun(y1:(Unit×Int×Unit)×(List (Int))×Unit)=>some (aB y1.2.1,()))
def iT(x:Sb×Unit):Option (Sb×Unit) :=
 aj (ld (x.1,())) (fun(y1:(List (Int))×Unit)=>br (inside (0:Int) (32:Int) (32:Int))
 (aj (lf (aB (@sub Int y1.1 (0:Int) (minus (32:Int) (0:Int))),())) (fun(y2:Sb×Unit)=>br (fits (plus (@len UInt8 ([(115:UInt8),(104:UInt8),(97:UInt8),(50:UInt8),(53:UInt8),(54:UInt8),(58:UInt8)]:List (UInt8))) (@len UInt8 y2.1)))
 (some (@app UInt8 ([(115:UInt8),(104:UInt8),(97:UInt8),(50:UInt8),(53:UInt8),(54:UInt8),(58:UInt8)]:List (UInt8)) y2.1,()))
 none))
 none)
end Go.Ge
namespace Go.Ge
variable [Lp]
set_option maxRecDepth 100000
abbrev oT:=(Sb×(Unit×(Unit×Int×Unit)×(Unit×(Int×Int×Unit)×Unit)×Unit)×Sb×(Unit×Unit×Int×Unit)×Unit)
abbrev IL:=(((List UInt8)×((Unit×((Unit×(Int×Unit))×((Unit×((Int×(Int×Unit))×Unit))×Unit)))×((List UInt8)×((Unit×(Unit×(Int×Unit)))×Unit))))×Unit)
abbrev rj:=(Nat×(Bool×Int×Unit)×oT×Unit)
abbrev rm:=((Bool×Int×Unit)×oT×Unit)
def bP(x:Unit×IL):Option (((List UInt8)×Unit)×IL) :=
 br (iG x.2.1.2.1.2.1.2.1 (0:Int))
 (br (iG x.2.1.2.1.2.2.1.2.1.1 (0:Int)) (br (iG x.2.1.2.2.2.1.2.2.1 (0:Int))
 (aj (eg (x.2.1.1,())) fun y=>some ((y.1,()),((x.2.1.1,(((),(((),((1:Int),())),(((),(((0:Int),(x.2.1.2.1.2.2.1.2.1.2.1,())),())),()))),(y.1,(((),((),((1:Int),()))),())))),())))
 none) none)
 (some ((x.2.1.2.2.1,()),x.2))
def dm(x:Unit×oT×Unit):Option ((Sb×Unit)×oT×Unit) :=
 some ((x.2.1.1,()),((x.2.1.1,(x.2.1.2.1,(x.2.1.2.2.1,(x.2.1.2.2.2.1,())))),()))
def cH(x:Unit×IL):Option ((Int×Unit)×IL) :=
 some ((x.2.1.2.2.2.1.2.2.1,()),x.2)
def mo(x:Int×Unit)(y1:(Bool×Int×Unit)×oT×Unit):Option (rm⊕rj) :=
 br (iH y1.1.2.1 (bw IntKind.i64 (1:Int) (jv IntKind.i64 (fc IntKind.u8 x.1 (3:Int)))))
 (aj (eg (([]:List (UInt8)),())) (fun(y2:Sb×Unit)=>aj (iT (([]:List (UInt8)),())) (fun(y3:Sb×Unit)=>br (nt (nt (qd y2.1 y3.1)))
 (br (nt (nt (qd ([]:List (UInt8)) ([]:List (UInt8)))))
 (aj (bP ((),((y1.2.1.1,(y1.2.1.2.1,(y1.2.1.2.2.1,(y1.2.1.2.2.2.1,())))),()))) (fun(y4:(Sb×Unit)×oT×Unit)=>aj (iT (([]:List (UInt8)),())) (fun(y5:Sb×Unit)=>br (nt (nt (qd y4.1.1 y5.1)))
 (aj (dm ((),((y4.2.1.1,(y4.2.1.2.1,(y4.2.1.2.2.1,(y4.2.1.2.2.2.1,())))),()))) (fun(y6:(Sb×Unit)×oT×Unit)=>br (nt (nt (qd y6.1.1 ([]:List (UInt8)))))
 (aj (cH ((),((y6.2.1.1,(y6.2.1.2.1,(y6.2.1.2.2.1,(y6.2.1.2.2.2.1,())))),()))) (fun(y7:(Int×Unit)×oT×Unit)=>br (nt (iG y7.1.1 (1:Int)))
 (some (Sum.inr ((1:Nat),((false,(y1.1.2.1,())),((y7.2.1.1,(y7.2.1.2.1,(y7.2.1.2.2.1,(y7.2.1.2.2.2.1,())))),()))):(rm)⊕(rj)))
 (some (Sum.inl ((y1.1.1,(bw IntKind.i64 y1.1.2.1 (1:Int),())),((y7.2.1.1,(y7.2.1.2.1,(y7.2.1.2.2.1,(y7.2.1.2.2.2.1,())))),())):(rm)⊕(rj)))))
 (some (Sum.inr ((1:Nat),((false,(y1.1.2.1,())),((y6.2.1.1,(y6.2.1.2.1,(y6.2.1.2.2.1,(y6.2.1.2.2.2.1,())))),()))):(rm)⊕(rj)))))
 (some (Sum.inr ((1:Nat),((false,(y1.1.2.1,())),((y4.2.1.1,(y4.2.1.2.1,(y4.2.1.2.2.1,(y4.2.1.2.2.2.1,())))),()))):(rm)⊕(rj))))))
 (some (Sum.inr ((1:Nat),((false,(y1.1.2.1,())),((y1.2.1.1,(y1.2.1.2.1,(y1.2.1.2.2.1,(y1.2.1.2.2.2.1,y1.2.1.2.2.2.2)))),()))):(rm)⊕(rj))))
 (some (Sum.inr ((1:Nat),((false,(y1.1.2.1,())),((y1.2.1.1,(y1.2.1.2.1,(y1.2.1.2.2.1,(y1.2.1.2.2.2.1,y1.2.1.2.2.2.2)))),()))):(rm)⊕(rj))))))
 (some (Sum.inr ((0:Nat),((y1.1.1,(y1.1.2.1,())),((y1.2.1.1,(y1.2.1.2.1,(y1.2.1.2.2.1,(y1.2.1.2.2.2.1,y1.2.1.2.2.2.2)))),()))):(rm)⊕(rj)))
def nX(x:Int×Unit):Option (Bool×Unit) :=
 aj (Loop (mo x) ((false,((0:Int),())),((([]:List (UInt8)),(((),(((),((0:Int),())),(((),(((0:Int),((0:Int),())),())),()))),(([]:List (UInt8)),(((),((),((0:Int),()))),())))),()))) (fun(y1:Nat×(Bool×Int×Unit)×oT×Unit)=>br (Jr y1.1 (0:Nat))
 (aj (fB ()) (fun(y2:Bool×Unit)=>some (y2.1,())))
 (some (y1.2.1.1,())))
def cC(x:Sb×Int×Unit)(y3:(Bool×Int×Unit)×oT×Unit):Option (rm⊕rj) :=
 br (iH y3.1.2.1 (jv IntKind.i64 (fc IntKind.u8 x.2.1 (7:Int))))
 (aj (bP ((),((y3.2.1.1,(y3.2.1.2.1,(y3.2.1.2.2.1,(y3.2.1.2.2.2.1,())))),()))) (fun(y4:(Sb×Unit)×oT×Unit)=>aj (iT (x.1,())) (fun(y5:Sb×Unit)=>br (nt (nt (qd y4.1.1 y5.1)))
 (aj (cH ((),((y4.2.1.1,(y4.2.1.2.1,(y4.2.1.2.2.1,(y4.2.1.2.2.2.1,())))),()))) (fun(y6:(Int×Unit)×oT×Unit)=>br (nt (nt (iG y6.1.1 (1:Int))))
 (aj (dm ((),((y6.2.1.1,(y6.2.1.2.1,(y6.2.1.2.2.1,(y6.2.1.2.2.2.1,())))),()))) (fun(y7:(Sb×Unit)×oT×Unit)=>br (nt (qd y7.1.1 x.1))
 (some (Sum.inr ((1:Nat),((false,(y3.1.2.1,())),((y7.2.1.1,(y7.2.1.2.1,(y7.2.1.2.2.1,(y7.2.1.2.2.2.1,())))),()))):(rm)⊕(rj)))
 (some (Sum.inl ((y3.1.1,(bw IntKind.i64 y3.1.2.1 (1:Int),())),((y7.2.1.1,(y7.2.1.2.1,(y7.2.1.2.2.1,(y7.2.1.2.2.2.1,())))),())):(rm)⊕(rj)))))
 (some (Sum.inr ((1:Nat),((false,(y3.1.2.1,())),((y6.2.1.1,(y6.2.1.2.1,(y6.2.1.2.2.1,(y6.2.1.2.2.2.1,())))),()))):(rm)⊕(rj)))))
 (some (Sum.inr ((1:Nat),((false,(y3.1.2.1,())),((y4.2.1.1,(y4.2.1.2.1,(y4.2.1.2.2.1,(y4.2.1.2.2.2.1,())))),()))):(rm)⊕(rj))))))
 (some (Sum.inr ((0:Nat),((y3.1.1,(y3.1.2.1,())),((y3.2.1.1,(y3.2.1.2.1,(y3.2.1.2.2.1,(y3.2.1.2.2.2.1,y3.2.1.2.2.2.2)))),()))):(rm)⊕(rj)))
def eZ(x:Sb×Int×Unit):Option (Bool×Unit) :=
 br (iH (1024:Int) (@len UInt8 x.1))
 (aj (fB ()) (fun(y1:Bool×Unit)=>some (y1.1,())))
 (aj (cH ((),((x.1,(((),(((),((0:Int),())),(((),(((0:Int),((0:Int),())),())),()))),(([]:List (UInt8)),(((),((),((0:Int),()))),())))),()))) (fun(y1:(Int×Unit)×oT×Unit)=>br (nt (nt (iG y1.1.1 (0:Int))))
 (aj (dm ((),((y1.2.1.1,(y1.2.1.2.1,(y1.2.1.2.2.1,(y1.2.1.2.2.2.1,())))),()))) (fun(y2:(Sb×Unit)×oT×Unit)=>br (nt (qd y2.1.1 x.1))
 (some (false,()))
 (aj (Loop (cC x) ((false,((0:Int),())),((y2.2.1.1,(y2.2.1.2.1,(y2.2.1.2.2.1,(y2.2.1.2.2.2.1,())))),()))) (fun(y3:Nat×(Bool×Int×Unit)×oT×Unit)=>br (Jr y3.1 (0:Nat))
 (aj (fB ()) (fun(y4:Bool×Unit)=>some (y4.1,())))
 (some (y3.2.1.1,()))))))
 (some (false,()))))
end Go.Ge
namespace Go.Ge
variable [Lp]
theorem fW{a b:Int}(h:-9223372036854775808≤a+b)(h2:a+b≤9223372036854775807):bw .i64 a b=a+b:=by
 unfold bw;simp[IntKind.wrap,IntKind.min,IntKind.max,IntKind.signed,IntKind.bits];omega
theorem fX{a b:Int}(h:-9223372036854775808≤a-b)(h2:a-b≤9223372036854775807):eF .i64 a b=a-b:=by
 unfold eF;simp[IntKind.wrap,IntKind.min,IntKind.max,IntKind.signed,IntKind.bits];omega
theorem rq{a b:Int}(h:-9223372036854775808≤a*b)(h2:a*b≤9223372036854775807):gz .i64 a b=a*b:=by
 unfold gz;simp[IntKind.wrap,IntKind.min,IntKind.max,IntKind.signed,IntKind.bits];omega
theorem zz{a:Int}(h:-9223372036854775808≤a)(h2:a≤9223372036854775807):jv .i64 a=a:=by
 unfold jv;simp[IntKind.wrap,IntKind.min,IntKind.max,IntKind.signed,IntKind.bits];omega
theorem Kp(a:Int):jv .u8 a=a % 256:=by
 unfold jv;simp[IntKind.wrap,IntKind.min,IntKind.max,IntKind.signed,IntKind.bits]
theorem wrap_u32(a:Int):IntKind.wrap .u32 a=a % 4294967296:=by
 simp[IntKind.wrap,IntKind.min,IntKind.max,IntKind.signed,IntKind.bits]
def Bv(x:Int):BitVec 32:=BitVec.ofInt 32 x
def Can(x:Int):Prop:=0≤x∧x<4294967296
theorem Bg(a:Int):Can (IntKind.wrap .u32 a):=by rw[wrap_u32];unfold Can;omega
theorem kC(a:Int):((Bv a).toNat:Int)=a % 4294967296:=by
 unfold Bv;rw[BitVec.toNat_ofInt];have:0≤a % ((2 ^ 32:Nat):Int):=Int.emod_nonneg _ (by decide);rw[Fw this];rfl
theorem IM{a b:Int}(ha:Can a)(hb:Can b)(h:Bv a=Bv b):a=b:=by
 have h1:=kC a;have h2:=kC b;rw[h] at h1;unfold Can at ha hb;omega
theorem uv(a:Int):Bv (IntKind.wrap .u32 a)=Bv a:=by
 apply Ft;have h1:=kC a;have h2:=kC (IntKind.wrap .u32 a);rw[wrap_u32] at h2⊢;omega
theorem CO(v:BitVec 32):Bv (v.toNat:Int)=v:=by
 apply Ft;have h1:=kC (v.toNat:Int);have:=v.isLt;omega
theorem bv_and(x y:Int):Bv (fc .u32 x y)=Bv x &&& Bv y:=by unfold fc;rw[uv];exact CO _
theorem DC(x y:Int):Bv (lQ .u32 x y)=Bv x ||| Bv y:=by unfold lQ;rw[uv];exact CO _
theorem GZ(x y:Int):Bv (cN .u32 x y)=Bv x ^^^ Bv y:=by unfold cN;rw[uv];exact CO _
theorem vY(x y:Int):Can (lQ .u32 x y):=Bg _
theorem zB(x y:Int):Can (cN .u32 x y):=Bg _
theorem CP(x:Int)(n:Nat)(hn:n≤32):Bv (fH .u32 x n)=Bv x <<< n:=by
 unfold fH;rw[uv];apply Ft;have h1:=kC (x*2 ^ (min (n:Int).toNat IntKind.u32.bits));have h2:=kC x;have e:min (n:Int).toNat IntKind.u32.bits=n:=by simp[IntKind.bits];omega
 rw[e] at h1⊢;rw[BitVec.toNat_shiftLeft,Nat.shiftLeft_eq];have h3:(((Bv x).toNat*2 ^ n % 2 ^ 32:Nat):Int)=(x*2 ^ n) % 4294967296:=by
  rw[Int.natCast_emod,Int.natCast_mul,h2,Int.natCast_pow];show(x % 4294967296*2 ^ n) % 4294967296=_
  rw[Int.mul_emod,Int.emod_emod_of_dvd _ (Int.dvd_refl _),←Int.mul_emod]
 omega
theorem CQ(x y:Int):lQ .u32 x y=lQ .u32 y x:=IM (vY _ _) (vY _ _) (by rw[DC,DC,BitVec.or_comm])
theorem Bh(x y:Int):bw .u32 x y=bw .u32 y x:=by unfold bw;rw[Int.add_comm]
theorem LG(e f g:Int):cN .u32 g (fc .u32 e (cN .u32 f g))=cN .u32 (fc .u32 e f) (fc .u32 (cN .u32 4294967295 e) g):=by
 refine IM (zB _ _) (zB _ _) ?_;simp only[GZ,bv_and];have h:Bv 4294967295=BitVec.allOnes 32:=by decide
 rw[h]
 ext i hi
 simp only[BitVec.getElem_xor,BitVec.getElem_and,BitVec.getElem_allOnes];cases (Bv e)[i]<;>cases (Bv f)[i]<;>cases (Bv g)[i]<;>rfl
theorem Kq(a b c:Int):lQ .u32 (fc .u32 a b) (fc .u32 c (lQ .u32 a b))=cN .u32 (cN .u32 (fc .u32 a b) (fc .u32 a c)) (fc .u32 b c):=by
 refine IM (vY _ _) (zB _ _) ?_;simp only[GZ,bv_and,DC]
 ext i hi
 simp only[BitVec.getElem_xor,BitVec.getElem_and,BitVec.getElem_or];cases (Bv a)[i]<;>cases (Bv b)[i]<;>cases (Bv c)[i]<;>rfl
theorem IP(a b c d:Int):lQ .u32 (fH .u32 (lQ .u32 (fH .u32 (lQ .u32 (fH .u32 (lQ .u32 (fH .u32 0 8) a) 8) b) 8) c) 8) d=lQ .u32 (lQ .u32 (lQ .u32 (fH .u32 a 24) (fH .u32 b 16)) (fH .u32 c 8)) d:=by
 refine IM (vY _ _) (vY _ _) ?_;have s8:∀x,Bv (fH .u32 x 8)=Bv x <<< 8:=fun x=>CP x 8 (by decide);have O3:∀x,Bv (fH .u32 x 16)=Bv x <<< 16:=fun x=>CP x 16 (by decide);have O4:∀x,Bv (fH .u32 x 24)=Bv x <<< 24:=fun x=>CP x 24 (by decide);simp only[DC,s8,O3,O4];have z:Bv 0=0#32:=by decide
 rw[z];simp[BitVec.shiftLeft_or_distrib,←BitVec.shiftLeft_add]
theorem cD{a b:Int}(h:a<b):iH a b=true:=by simp[iH,h]
theorem aQ{a b:Int}(h:b≤a):iH a b=false:=by simp[iH];omega
theorem vZ{a b:Int}(h:a≤b):DX a b=true:=by simp[DX,h]
theorem so{a b:Int}(h:b<a):DX a b=false:=by simp[DX];omega
theorem nY{a b:Int}(h:a=b):iG a b=true:=by simp[iG,h]
theorem cV{a b:Int}(h:a≠b):iG a b=false:=by simp[iG,h]
theorem aU{i n:Int}(h0:0≤i)(h1:i<n):within i n=true:=by simp[within,h0,h1]
theorem cv{i j n:Int}(h0:0≤i)(h1:i≤j)(h2:j≤n):inside i j n=true:=by simp[inside,h0,h1,h2]
theorem fC{n:Int}(h:n≤4294967296):fits n=true:=by simp[fits,h]
theorem b5{S:Type}(s:S):iK (some (.inl s:S⊕(Nat×S)))=some (.inl s):=rfl
theorem cj{S:Type}(n:Nat)(s:S):iK (some (.inr (n,s):S⊕(Nat×S)))=some (.inr s):=rfl
theorem cE{α:Type}(l:List α)(d:α){i:Nat}(h:i<l.length):idx l (i:Int)=some (l.getD i d):=by
 rw[uu,sB h,Bz,sB h];rfl
theorem fY{α:Type}(l:List α)(d:α){i:Int}{k:Nat}(e:i=k)(h:k<l.length):idx l i=some (l.getD k d):=by subst e;exact cE l d h
theorem iy{α:Type}(l:List α)(i:Nat)(x:α):mG l (i:Int) x=l.set i x:=by simp[mG]
end Go.Ge
namespace Go.Ge
variable [Lp]
def oK(n x:Int):Int:=lQ .u32 (kM .u32 x n) (fH .u32 x (32-n))
theorem gH{n m:Int}(h:fc .u64 (jv .u64 (eF .i64 0 n)) 31=m)(h1:iH m 0=false)(h2:eF .u64 32 m=n)(h3:iH n 0=false)(h4:32-n=m)(x:Int):aT (x,(n,()))=some (oK n x,()):=by
 unfold aT eD oK;dsimp only;rw[h,h1,ax,h2,h3,ax,aa,h4,CQ]
theorem je{n:Int}(h1:iH n 0=false)(h2:eF .i64 32 n=32-n)(h3:iH (32-n) 0=false)(x:Int):aP (x,(n,()))=some (oK n x,()):=by
 unfold aP oK;dsimp only;rw[h1,ax,h2,h3,ax]
theorem r7(x:Int):aT (x,(7,()))=some (oK 7 x,()):=gH (m:=25) (by decide) (by decide) (by decide) (by decide) (by decide) x
theorem O5(x:Int):aT (x,(18,()))=some (oK 18 x,()):=gH (m:=14) (by decide) (by decide) (by decide) (by decide) (by decide) x
theorem O6(x:Int):aT (x,(17,()))=some (oK 17 x,()):=gH (m:=15) (by decide) (by decide) (by decide) (by decide) (by decide) x
theorem O7(x:Int):aT (x,(19,()))=some (oK 19 x,()):=gH (m:=13) (by decide) (by decide) (by decide) (by decide) (by decide) x
theorem r6(x:Int):aT (x,(6,()))=some (oK 6 x,()):=gH (m:=26) (by decide) (by decide) (by decide) (by decide) (by decide) x
theorem O8(x:Int):aT (x,(11,()))=some (oK 11 x,()):=gH (m:=21) (by decide) (by decide) (by decide) (by decide) (by decide) x
theorem O9(x:Int):aT (x,(25,()))=some (oK 25 x,()):=gH (m:=7) (by decide) (by decide) (by decide) (by decide) (by decide) x
theorem r2(x:Int):aT (x,(2,()))=some (oK 2 x,()):=gH (m:=30) (by decide) (by decide) (by decide) (by decide) (by decide) x
theorem Pb(x:Int):aT (x,(13,()))=some (oK 13 x,()):=gH (m:=19) (by decide) (by decide) (by decide) (by decide) (by decide) x
theorem Pc(x:Int):aT (x,(22,()))=some (oK 22 x,()):=gH (m:=10) (by decide) (by decide) (by decide) (by decide) (by decide) x
theorem t7(x:Int):aP (x,(7,()))=some (oK 7 x,()):=je (by decide) (by decide) (by decide) x
theorem t18(x:Int):aP (x,(18,()))=some (oK 18 x,()):=je (by decide) (by decide) (by decide) x
theorem t17(x:Int):aP (x,(17,()))=some (oK 17 x,()):=je (by decide) (by decide) (by decide) x
theorem t19(x:Int):aP (x,(19,()))=some (oK 19 x,()):=je (by decide) (by decide) (by decide) x
theorem t6(x:Int):aP (x,(6,()))=some (oK 6 x,()):=je (by decide) (by decide) (by decide) x
theorem t11(x:Int):aP (x,(11,()))=some (oK 11 x,()):=je (by decide) (by decide) (by decide) x
theorem t25(x:Int):aP (x,(25,()))=some (oK 25 x,()):=je (by decide) (by decide) (by decide) x
theorem t2(x:Int):aP (x,(2,()))=some (oK 2 x,()):=je (by decide) (by decide) (by decide) x
theorem t13(x:Int):aP (x,(13,()))=some (oK 13 x,()):=je (by decide) (by decide) (by decide) x
theorem t22(x:Int):aP (x,(22,()))=some (oK 22 x,()):=je (by decide) (by decide) (by decide) x
def word(b:List Int)(t:Nat):Int :=
 lQ .u32 (lQ .u32 (lQ .u32 (fH .u32 (jv .u32 (b.getD (4*t) 0)) 24) (fH .u32 (jv .u32 (b.getD (4*t+1) 0)) 16)) (fH .u32 (jv .u32 (b.getD (4*t+2) 0)) 8)) (jv .u32 (b.getD (4*t+3) 0))
def cJ(n:Nat):List Int:=List.replicate n 0
def mq(b:List Int):Nat→List Int
 | 0=>cJ 64
 | t+1=>(mq b t).set t (word b t)
theorem jo(b:List Int)(t:Nat):(mq b t).length=64:=by
 induction t with
 | zero=>rfl
 | succ t ih=>simp[mq,ih]
theorem EF(b:List Int):∀(t j:Nat),t≤j→j<64→(mq b t).getD j 0=0:=by
 intro t;induction t with
 | zero =>
   intro j _ hj;show(List.replicate 64 (0:Int)).getD j 0=0
   rw[Bz,JT,gd hj];rfl
 | succ t ih =>
   intro j h1 h2;have:=ih j (by omega) h2;simp only[mq,Bz,Da] at this⊢;rw[cZ (by omega)];exact this
def LH(p:List Int)(t:Nat):Int :=
 bw .u32 (bw .u32 (bw .u32 (cN .u32 (cN .u32 (oK 17 (p.getD (t-2) 0)) (oK 19 (p.getD (t-2) 0))) (kM .u32 (p.getD (t-2) 0) 10)) (p.getD (t-7) 0))
  (cN .u32 (cN .u32 (oK 7 (p.getD (t-15) 0)) (oK 18 (p.getD (t-15) 0))) (kM .u32 (p.getD (t-15) 0) 3))) (p.getD (t-16) 0)
def tV(l:List Int):Nat→List Int
 | 0=>l
 | k+1=>(tV l k).set (16+k) (LH (tV l k) (16+k))
theorem p6(l:List Int)(k:Nat):(tV l k).length=l.length:=by
 induction k with
 | zero=>rfl
 | succ k ih=>simp[tV,ih]
def kD(b:List Int):List Int:=tV (mq b 16) 48
theorem ru(b:List Int):(kD b).length=64:=by unfold kD;rw[p6,jo]
theorem four{t:Nat}(ht:t<64):gz .i64 4 (t:Int)=((4*t:Nat):Int):=by rw[rq (by omega) (by omega)];omega
theorem Bi(b:List Int)(hb:b.length=64)(t:Nat)(ht:t<16)(w:List Int)(hw:w.length=64)(h0:w.getD t 0=0)(u v:Unit)(y:List Int×Unit) :
  Loop (dZ (b,u) (((t:Int),v),y)) ((0,()),(w,()))=some (((4:Int),()),(w.set t (word b t),())):=by
 let a:Nat→Int:=fun j=>match j with
  | 0=>0
  | 1=>lQ .u32 (fH .u32 0 8) (jv .u32 (b.getD (4*t) 0))
  | 2=>lQ .u32 (fH .u32 (lQ .u32 (fH .u32 0 8) (jv .u32 (b.getD (4*t) 0))) 8) (jv .u32 (b.getD (4*t+1) 0))
  | 3=>lQ .u32 (fH .u32 (lQ .u32 (fH .u32 (lQ .u32 (fH .u32 0 8) (jv .u32 (b.getD (4*t) 0))) 8) (jv .u32 (b.getD (4*t+1) 0))) 8) (jv .u32 (b.getD (4*t+2) 0))
  | _=>word b t
 have hstep:∀j,j<4→a (j+1)=lQ .u32 (fH .u32 (a j) 8) (jv .u32 (b.getD (4*t+j) 0)):=by
  intro j hj;rcases(by omega:j=0∨j=1∨j=2∨j=3) with rfl|rfl|rfl|rfl
  ·rfl
  ·rfl
  ·rfl
  ·exact(IP _ _ _ _).symm
 have hw0:w=w.set t 0:=by
  apply zM;intro j;rw[Da];split
  ·rename_i e;subst e;rw[gd (by omega)];rw[Bz,sB (by omega)] at h0;rw[sB (by omega)];simpa using h0
  ·rfl
 have:=cO (f:=dZ (b,u) (((t:Int),v),y)) (r:=(((4:Int),()),(w.set t (word b t),()))) 4 (fun j=>(((j:Int),()),(w.set t (a j),()))) (fun j hj=>by
  unfold dZ;dsimp only;rw[four (by omega),fW (by omega) (by omega)];have e4:minus (((4*t:Nat):Int)+4) ((4*t:Nat):Int)=4:=by unfold minus;omega
  rw[e4,cD (by omega),aq,aU (by omega) (by omega),aq,aU (by omega) (by omega)];have hl:(w.set t (a j)).length=64:=by simp[hw]
  have hg:(w.set t (a j)).getD t 0=a j:=by simp[Bz,hw,ht,(by omega:t<64)]
  rw[fY b 0 (i:=plus ((4*t:Nat):Int) j) (k:=4*t+j) (by unfold plus;omega) (by omega),aa,aq,cE _ 0 (by rw[hl];omega),hg,aa,aQ (by decide),ax,aq,aa,aa,aa,b5,dY (by omega),iy,List.set_set,hstep j hj])
  (by
   unfold dZ;dsimp only;rw[four (by omega),fW (by omega) (by omega)];have e4:minus (((4*t:Nat):Int)+4) ((4*t:Nat):Int)=4:=by unfold minus;omega
   rw[e4,aQ (by omega),ax,cj];rfl)
 have Pd:w.set t (a 0)=w:=hw0.symm;rw[Pd] at this;exact this
theorem DD:([0,0,0,0,0,0,0,0,0,0,0,0,0,0,0,0,0,0,0,0,0,0,0,0,0,0,0,0,0,0,0,0,0,0,0,0,0,0,0,0,0,0,0,0,0,0,0,0,0,0,0,0,0,0,0,0,0,0,0,0,0,0,0,0]:List Int)=cJ 64:=rfl
theorem Bj(b:List Int)(hb:b.length=64)(u:Unit):Loop (ec (b,u)) ((0,()),(cJ 64,()))=some (((16:Int),()),(mq b 16,())):=by
 refine cO (f:=ec (b,u)) 16 (fun t=>(((t:Int),()),(mq b t,()))) (fun t ht=>?_) ?_
 ·unfold ec;dsimp only;rw[cD (by omega),aq,four (by omega),fW (by omega) (by omega),cv (by omega) (by omega) (by omega),aq,Bi b hb t ht _ (jo b t) (EF b t t (dD _) (by omega)),aa,b5,dY (by omega)];rfl
 ·unfold ec;dsimp only;rw[aQ (by omega),ax,cj];rfl
theorem EG(l:List Int)(hl:l.length=64):Loop ef ((16,()),(l,()))=some (((64:Int),()),(tV l 48,())):=by
 refine cO (f:=ef) 48 (fun k=>((((16+k:Nat):Int),()),(tV l k,()))) (fun k hk=>?_) ?_
 ·have hlen:(tV l k).length=64:=by rw[p6,hl]
  unfold ef;dsimp only;rw[cD (by omega),aq,fX (by omega) (by omega),fX (by omega) (by omega),fX (by omega) (by omega),fX (by omega) (by omega),
   aU (by omega) (by omega),aq,fY _ 0 (k:=16+k-2) (by omega) (by omega),aa,aU (by omega) (by omega),aq,fY _ 0 (k:=16+k-15) (by omega) (by omega),aa,
   r7,aa,O5,aa,aQ (by decide),ax,O6,aa,O7,aa,aQ (by decide),ax,aU (by omega) (by omega),aq,fY _ 0 (k:=16+k-7) (by omega) (by omega),aa,
   aU (by omega) (by omega),aq,fY _ 0 (k:=16+k-16) (by omega) (by omega),aa,aU (by omega) (by omega),aq,cE _ 0 (by omega),aa,aa,aa,b5,dY (by omega),iy]
  rfl
 ·unfold ef;dsimp only;rw[aQ (by omega),ax,cj];rfl
theorem zC(b:List Int)(hb:b.length=64)(u:Unit):iu (b,u)=some (kD b,()):=by
 unfold iu;rw[DD,Bj b hb,aa];dsimp only;rw[EG _ (jo b 16),aa];dsimp only[kD]
theorem G0(s:List UInt8){i:Nat}(h:i<s.length)(x:UInt8)(hx:s[i]?=some x):u8 x=(ah s).getD i 0:=by
 simp[ah,Bz,hx,u8]
theorem EH(h:List Int)(s:List UInt8)(hs:s.length=64)(u:Unit):Loop (dF (h,(s,u))) ((0,()),(cJ 64,()))=some (((16:Int),()),(mq (ah s) 16,())):=by
 have key:∀b:List Int,b=ah s→Loop (dF (h,(s,u))) ((0,()),(cJ 64,()))=some (((16:Int),()),(mq b 16,())):=by
  intro b hb;refine cO (f:=dF (h,(s,u))) 16 (fun t=>(((t:Int),()),(mq b t,()))) (fun t ht=>?_) ?_
  ·have at_:∀(i:Int) (j:Nat),i=j→j<64→∃x,idx s i=some x∧u8 x=b.getD j 0:=by
    intro i j e hj;subst e;refine⟨s[j],?_,by rw[hb];exact G0 s (by omega) _ (sB (by omega))⟩;rw[uu,sB]
   unfold dF;dsimp only;rw[cD (by omega),aq,four (by omega),fW (by omega) (by omega),fW (by omega) (by omega),fW (by omega) (by omega)];obtain⟨x0,i0,e0⟩:=at_ ((4*t:Nat):Int) (4*t) rfl (by omega);obtain⟨x1,i1,e1⟩:=at_ (((4*t:Nat):Int)+1) (4*t+1) (by omega) (by omega);obtain⟨x2,i2,e2⟩:=at_ (((4*t:Nat):Int)+2) (4*t+2) (by omega) (by omega);obtain⟨x3,i3,e3⟩:=at_ (((4*t:Nat):Int)+3) (4*t+3) (by omega) (by omega);rw[i0,aa,aQ (by decide),ax,i1,aa,aQ (by decide),ax,i2,aa,aQ (by decide),ax,i3,aa,aU (by omega) (by omega),aq,
    cE _ 0 (by rw[jo];omega),aa,aa,aa,b5,dY (by omega),iy,e0,e1,e2,e3]
   rfl
  ·unfold dF;dsimp only;rw[aQ (by omega),ax,cj];rfl
 exact key _ rfl
theorem IQ(l:List Int)(hl:l.length=64):Loop eR ((16,()),(l,()))=some (((64:Int),()),(tV l 48,())):=by
 refine cO (f:=eR) 48 (fun k=>((((16+k:Nat):Int),()),(tV l k,()))) (fun k hk=>?_) ?_
 ·have hlen:(tV l k).length=64:=by rw[p6,hl]
  unfold eR;dsimp only;rw[cD (by omega),aq,fX (by omega) (by omega),fX (by omega) (by omega),fX (by omega) (by omega),fX (by omega) (by omega),
   aU (by omega) (by omega),aq,fY _ 0 (k:=16+k-2) (by omega) (by omega),aa,aU (by omega) (by omega),aq,fY _ 0 (k:=16+k-15) (by omega) (by omega),aa,
   t17,aa,t19,aa,aQ (by decide),ax,aU (by omega) (by omega),aq,fY _ 0 (k:=16+k-7) (by omega) (by omega),aa,t7,aa,t18,aa,aQ (by decide),ax,
   aU (by omega) (by omega),aq,fY _ 0 (k:=16+k-16) (by omega) (by omega),aa,aU (by omega) (by omega),aq,cE _ 0 (by omega),aa,aa,aa,b5,dY (by omega),iy]
  rfl
 ·unfold eR;dsimp only;rw[aQ (by omega),ax,cj];rfl
abbrev W8:=Int×Int×Int×Int×Int×Int×Int×Int
def MS(k w:Int):W8→W8
 | (a,b,c,d,e,f,g,h) =>
   let one:=bw .u32 (bw .u32 (bw .u32 (bw .u32 h (cN .u32 (cN .u32 (oK 6 e) (oK 11 e)) (oK 25 e))) (cN .u32 g (fc .u32 e (cN .u32 f g)))) k) w
   let two:=bw .u32 (cN .u32 (cN .u32 (oK 2 a) (oK 13 a)) (oK 22 a)) (lQ .u32 (fc .u32 a b) (fc .u32 c (lQ .u32 a b)))
   (bw .u32 one two,a,b,c,bw .u32 d one,e,f,g)
def ry(K w:List Int)(s:W8):Nat→W8
 | 0=>s
 | t+1=>MS (K.getD t 0) (w.getD t 0) (ry K w s t)
def jq:List Int:=[1116352408,1899447441,3049323471,3921009573,961987163,1508970993,2453635748,2870763221,3624381080,310598401,607225278,1426881987,1925078388,2162078206,2614888103,3248222580,3835390401,4022224774,264347078,604807628,770255983,1249150122,1555081692,1996064986,2554220882,2821834349,2952996808,3210313671,3336571891,3584528711,113926993,338241895,666307205,773529912,1294757372,1396182291,1695183700,1986661051,2177026350,2456956037,2730485921,2820302411,3259730800,3345764771,3516065817,3600352804,4094571909,275423344,430227734,506948616,659060556,883997877,958139571,1322822218,1537002063,1747873779,1955562222,2024104815,2227730452,2361852424,2428436474,2756734187,3204031479,3329325298]
theorem EI:nW ()=some (jq,()):=rfl
theorem CR:kz ()=some (jq,()):=rfl
def iJ(s:W8)(t:Int):Int×Int×Int×Int×Int×Int×Int×Int×Int×Unit:=(s.1,s.2.1,s.2.2.1,s.2.2.2.1,s.2.2.2.2.1,s.2.2.2.2.2.1,s.2.2.2.2.2.2.1,s.2.2.2.2.2.2.2,t,())
def eE(s:W8):List Int:=[s.1,s.2.1,s.2.2.1,s.2.2.2.1,s.2.2.2.2.1,s.2.2.2.2.2.1,s.2.2.2.2.2.2.1,s.2.2.2.2.2.2.2]
theorem CS(w:List Int)(hw:w.length=64)(s:W8)(u v:Unit):Loop (cl (jq,u) (w,v)) (iJ s 0,())=some (iJ (ry jq w s 64) 64,()):=by
 refine cO (f:=cl (jq,u) (w,v)) 64 (fun t=>(iJ (ry jq w s t) t,())) (fun t ht=>?_) ?_
 ·show cl (jq,u) (w,v) (iJ (ry jq w s t) t,())=some (.inl (iJ (MS (jq.getD t 0) (w.getD t 0) (ry jq w s t)) ((t+1:Nat):Int),()))
  generalize ry jq w s t=q;obtain⟨a,b,c,d,e,f,g,h⟩:=q;unfold cl iJ;dsimp only;rw[cD (by omega),aq,r6,aa,O8,aa,O9,aa,aU (by omega) (by omega),aq,cE jq 0 (by show t<64;omega),aa,aq,cE w 0 (by omega),aa,
   r2,aa,Pb,aa,Pc,aa,b5,dY (by omega)]
  rfl
 ·unfold cl iJ;dsimp only;rw[aQ (by omega),ax,cj];rfl
theorem CT(w:List Int)(hw:w.length=64)(s:W8)(q:Int×Unit)(u v:Unit):Loop (dG (q,(w,u)) (jq,v)) ((0,()),(eE s,()))=some (((64:Int),()),(eE (ry jq w s 64),())):=by
 refine cO (f:=dG (q,(w,u)) (jq,v)) 64 (fun t=>(((t:Int),()),(eE (ry jq w s t),()))) (fun t ht=>?_) ?_
 ·show dG (q,(w,u)) (jq,v) (((t:Int),()),(eE (ry jq w s t),()))=some (.inl ((((t+1:Nat):Int),()),(eE (MS (jq.getD t 0) (w.getD t 0) (ry jq w s t)),())))
  generalize ry jq w s t=q;obtain⟨a,b,c,d,e,f,g,h⟩:=q;have i0:idx (eE (a,b,c,d,e,f,g,h)) 0=some a:=rfl;have i1:idx (eE (a,b,c,d,e,f,g,h)) 1=some b:=rfl;have i2:idx (eE (a,b,c,d,e,f,g,h)) 2=some c:=rfl;have i3:idx (eE (a,b,c,d,e,f,g,h)) 3=some d:=rfl;have i4:idx (eE (a,b,c,d,e,f,g,h)) 4=some e:=rfl;have i5:idx (eE (a,b,c,d,e,f,g,h)) 5=some f:=rfl;have i6:idx (eE (a,b,c,d,e,f,g,h)) 6=some g:=rfl;have i7:idx (eE (a,b,c,d,e,f,g,h)) 7=some h:=rfl;have w0:within 0 8=true:=by decide
  have w1:within 1 8=true:=by decide
  have w2:within 2 8=true:=by decide
  have w3:within 3 8=true:=by decide
  have w4:within 4 8=true:=by decide
  have w5:within 5 8=true:=by decide
  have w6:within 6 8=true:=by decide
  have w7:within 7 8=true:=by decide
  have wt:within (t:Int) 64=true:=aU (by omega) (by omega);unfold dG;dsimp only;simp only[cD (show(t:Int)<64 by omega),aq,w0,w1,w2,w3,w4,w5,w6,w7,wt,i0,i1,i2,i3,i4,i5,i6,i7,aa,t6,t11,t25,t2,t13,t22,cE jq 0 (show t<jq.length from ht),cE w 0 (show t<w.length by omega),b5,dY (show t<4611686018427387904 by omega),
   ←LG,←Kq]
  rfl
 ·unfold dG;dsimp only;rw[aQ (by omega),ax,cj];rfl
def JM(l:List Int):W8:=(l.getD 0 0,l.getD 1 0,l.getD 2 0,l.getD 3 0,l.getD 4 0,l.getD 5 0,l.getD 6 0,l.getD 7 0)
theorem EJ(l:List Int)(hl:l.length=8):eE (JM l)=l:=by
 match l,hl with
 | [a,b,c,d,e,f,g,h],_=>rfl
def mu(l m:List Int):Nat→List Int
 | 0=>l
 | i+1=>(mu l m i).set i (bw .u32 (l.getD i 0) (m.getD i 0))
theorem nZ(l m:List Int)(i:Nat):(mu l m i).length=l.length:=by
 induction i with
 | zero=>rfl
 | succ i ih=>simp[mu,ih]
theorem DE(l m:List Int):∀(i j:Nat),i≤j→(mu l m i).getD j 0=l.getD j 0:=by
 intro i;induction i with
 | zero=>intro j _;rfl
 | succ i ih =>
   intro j h;have:=ih j (by omega);simp only[mu,Bz,Da] at this⊢;rw[cZ (by omega)];exact this
def comp(h b:List Int):List Int:=mu h (eE (ry jq (kD b) (JM h) 64)) 8
theorem Bk(h b:List Int):(comp h b).length=h.length:=nZ _ _ _
theorem EK(l m:List Int)(hl:l.length=8)(hm:m.length=8):mu l m 8=mu m l 8:=by
 match l,hl,m,hm with
 | [a,b,c,d,e,f,g,h],_,[a',b',c',d',e',f',g',h'],_ =>
   simp only[mu,List.set,List.getD_cons_zero,List.getD_cons_succ];simp only[Bh]
theorem EL(h:List Int)(hh:h.length=8)(s:List UInt8)(hs:s.length=64)(u:Unit):jd (h,(s,u))=some (comp h (ah s),()):=by
 have hb:(mq (ah s) 16).length=64:=jo _ _;unfold jd;rw[DD,EH h s hs,aa];dsimp only;rw[IQ _ hb,aa,CR,aa];have e8:h=eE (JM h):=(EJ h hh).symm;have hsc:(kD (ah s)).length=64:=ru _;have hr:=CT (kD (ah s)) hsc (JM h) ((64:Int),()) () ();rw[←e8] at hr;rw[show tV (mq (ah s) 16) 48=kD (ah s) from rfl,hr,aa];dsimp only;generalize hm:eE (ry jq (kD (ah s)) (JM h) 64)=m;have NR:m.length=8:=by rw[←hm];rfl
 have:Loop (eS (h,(s,u))) ((0,()),(m,()))=some (((8:Int),()),(mu m h 8,())):=by
  refine cO (f:=eS (h,(s,u))) 8 (fun i=>(((i:Int),()),(mu m h i,()))) (fun i hi=>?_) ?_
  ·have hl:(mu m h i).length=8:=by rw[nZ,NR]
   unfold eS;dsimp only;simp only[cD (show(i:Int)<8 by omega),aq,aU (show(0:Int)≤i by omega) (show(i:Int)<8 by omega),cE (mu m h i) 0 (show i<(mu m h i).length by omega),cE h 0 (show i<h.length by omega),aa,b5,dY (show i<4611686018427387904 by omega),iy];rw[DE m h i i (dD _)];rfl
  ·unfold eS;dsimp only;rw[aQ (by omega),ax,cj];rfl
 rw[this,aa];dsimp only;rw[EK m h NR hh];unfold comp;rw[hm]
end Go.Ge
namespace Go.Ge
variable [Lp]
def H0:List Int:=[1779033703,3144134277,1013904242,2773480762,1359893119,2600822924,528734635,1541459225]
theorem EM:jm ()=some (H0,()):=rfl
theorem xC:lI ()=some (H0,()):=rfl
def mD(all:List UInt8):Nat→List Int
 | 0=>H0
 | k+1=>comp (mD all k) (ah ((all.drop (64*k)).take 64))
theorem mV(all:List UInt8)(k:Nat):(mD all k).length=8:=by
 induction k with
 | zero=>rfl
 | succ k ih=>simp only[mD];rw[Bk,ih]
theorem DF(all more:List UInt8):∀k,64*k≤all.length→mD (all++more) k=mD all k:=by
 intro k;induction k with
 | zero=>intro _;rfl
 | succ k ih =>
   intro h;simp only[mD];rw[ih (by omega),Fa (by omega),JR (by rw[kL];omega)]
abbrev p7:=(Bool×List Int×Unit)×List Int×Int×Unit
def Inv(st:p7)(all:List UInt8):Prop :=
 ∃wait,st=((decide (64≤all.length),(if 64≤all.length then mD all (all.length / 64) else cJ 8),()),wait,(all.length:Int),())∧wait.length=64∧wait.take (all.length % 64)=ah (all.drop (64*(all.length / 64)))
def G1:p7:=((false,cJ 8,()),cJ 64,0,())
theorem MT:Inv G1 []:=⟨cJ 64,rfl,rfl,rfl⟩
theorem pn(a b:List UInt8):ah (a++b)=ah a++ah b:=by simp[ah]
theorem v7(a:List UInt8)(n:Nat):(ah a).take n=ah (a.take n):=by simp[ah,FD]
theorem en(a:List UInt8):(ah a).length=a.length:=by simp[ah]
theorem kE(a b:Nat):gf (a:Int) (b:Int)=((a % b:Nat):Int):=by
 unfold gf;rw[Int.tmod_eq_emod_of_nonneg (by omega)];exact(Int.natCast_emod a b).symm
theorem G2(q:W8)(st:p7)(h8:st.1.2.1.length=8):Loop (dc (iJ q 64,())) ((0,()),(st,()))=some (((8:Int),()),(((st.1.1,mu st.1.2.1 (eE q) 8,st.1.2.2),st.2),())):=by
 obtain⟨⟨bg,h,u⟩,wn⟩:=st;dsimp only at h8⊢;refine cO (f:=dc (iJ q 64,())) 8 (fun i=>(((i:Int),()),(((bg,mu h (eE q) i,u),wn),()))) (fun i hi=>?_) ?_
 ·have hl:(mu h (eE q) i).length=8:=by rw[nZ,h8]
  have e8:([(iJ q 64).1,(iJ q 64).2.1,(iJ q 64).2.2.1,(iJ q 64).2.2.2.1,(iJ q 64).2.2.2.2.1,(iJ q 64).2.2.2.2.2.1,(iJ q 64).2.2.2.2.2.2.1,(iJ q 64).2.2.2.2.2.2.2.1]:List Int)=eE q:=rfl;unfold dc;dsimp only;rw[e8];have PI:(eE q).length=8:=rfl;simp only[cD (show(i:Int)<8 by omega),aq,aU (show(0:Int)≤i by omega) (show(i:Int)<8 by omega),cE (mu h (eE q) i) 0 (show i<(mu h (eE q) i).length by omega),cE (eE q) 0 (show i<(eE q).length by omega),aa,b5,dY (show i<4611686018427387904 by omega),iy];rw[DE h (eE q) i i (dD _)];rfl
 ·unfold dc;dsimp only;rw[aQ (by omega),ax,cj];rfl
theorem G3(part all:List UInt8)(st:p7)(hp:part≠[])(hI:Inv st all)(hb:all.length+part.length<1152921504606846976) :
  ∃st',cm ((part,()),(st,()))=some (.inl ((part.drop (64-all.length % 64),()),(st',())))∧Inv st' (all++part.take (64-all.length % 64)):=by
 obtain⟨wait,rfl,hw,ht⟩:=hI;generalize hN:all.length=N at *;have eu:N % 64<64:=wJ _ (by decide);have Pe:gf (N:Int) 64=((N % 64:Nat):Int):=kE N 64;have em:fF (ah part) (minus (64:Int) ((N % 64:Nat):Int))=ah (part.take (64-N % 64)):=by
  unfold fF minus;rw[show((64:Int)-((N % 64:Nat):Int)).toNat=64-N % 64 by omega,v7]
 generalize hk:(part.take (64-N % 64)).length=k;have hk':k=min (64-N % 64) part.length:=by rw[←hk,gb]
 have hkp:0<k:=by
  have:0<part.length:=by cases part with|nil=>exact absurd rfl hp|cons=>simp
  omega
 have MU:len (ah (part.take (64-N % 64)))=(k:Int):=by unfold len;rw[en,hk]
 have MV:bw .i64 ((N % 64:Nat):Int) (k:Int)=((N % 64+k:Nat):Int):=by rw[fW (by omega) (by omega)];omega
 have LI:bw .i64 (N:Int) (k:Int)=((N+k:Nat):Int):=by rw[fW (by omega) (by omega)];omega
 have MW:inside ((N % 64:Nat):Int) 64 64=true:=cv (by omega) (by omega) (by omega);have MX:inside (k:Int) (len part) (len part)=true:=cv (by omega) (by unfold len;omega) (by omega);have MY:sub part (k:Int) (minus (len part) (k:Int))=part.drop k:=by
  unfold sub minus len;rw[BD,yj (by rw[kL];omega)]
 have NS:part.drop k=part.drop (64-N % 64):=by
  rcases Nat.le_total (64-N % 64) part.length with h|h
  ·rw[show k=64-N % 64 by omega]
  ·rw[Fc (by omega),Fc h]
 have LJ:over wait ((N % 64:Nat):Int) (ah (part.take (64-N % 64)))=ah (all.drop (64*(N / 64))++part.take (64-N % 64))++wait.drop (N % 64+k):=by
  unfold over;rw[BD,ht,en,hk,pn]
 have hne:nt (qd part [])=true:=by
  unfold qd nt;cases part with
  | nil=>exact absurd rfl hp
  | cons x r=>rfl
 have hall:(all++part.take (64-N % 64)).length=N+k:=by rw[oM,hN,hk]
 have Mv:64*(N / 64)+N % 64=N:=FA N 64;have DG:(all.drop (64*(N / 64))).length=N % 64:=by rw[kL];omega
 have Mc:(ah (all.drop (64*(N / 64))++part.take (64-N % 64))++wait.drop (N % 64+k)).length=64:=by
  rw[oM,en,oM,DG,hk,kL];omega
 unfold cm;dsimp only;simp only[hne,aq,cV (show(64:Int)≠0 by decide),ax,Pe,MW,em,MU,MX,MV,LI,MY,LJ];by_cases hfull:N % 64+k=64
 ·
  have hw0:wait.drop (N % 64+k)=[]:=by rw[Fc (by omega)]
  simp only[nY (show((N % 64+k:Nat):Int)=64 by omega),aq,hw0,wH] at Mc⊢;generalize D6:ah (all.drop (64*(N / 64))++part.take (64-N % 64))=blk at *;have hq:(N+k) / 64=N / 64+1:=by omega
  have hm0:(N+k) % 64=0:=by omega
  have LK:((all++part.take (64-N % 64)).drop (64*(N / 64))).take 64=all.drop (64*(N / 64))++part.take (64-N % 64):=by
   rw[Fa (by omega),yj (by rw[oM,DG,hk];omega)]
  have hh:∃Pf:Bool,Pf=true∧(aj (br (nt (decide (64≤N))) (aj (jm ()) fun y2:List Int×Unit=>some ((),(((true,y2.1,()),(blk,((N+k:Nat):Int),())),()))) (some ((),(((decide (64≤N),(if 64≤N then mD all (N / 64) else cJ 8),()),(blk,((N+k:Nat):Int),())),())))) fun y:Unit×p7×Unit=>some y)=some ((),(((true,mD all (N / 64),()),(blk,((N+k:Nat):Int),())),())):=by
   refine⟨true,rfl,?_⟩;by_cases F6:64≤N
   ·simp only[F6,BF,iE];rfl
   ·have:N / 64=0:=by omega
    simp only[F6,Di,rG,this,EM];rfl
  obtain⟨_,_,hh⟩:=hh;have Pg:(br (nt (decide (64≤N))) (aj (jm ()) fun y2:List Int×Unit=>some ((),(((true,y2.1,()),(blk,((N+k:Nat):Int),())),()))) (some ((),(((decide (64≤N),(if 64≤N then mD all (N / 64) else cJ 8),()),(blk,((N+k:Nat):Int),())),()))):Option (Unit×p7×Unit))=some ((),(((true,mD all (N / 64),()),(blk,((N+k:Nat):Int),())),())):=by
   have:∀o:Option (Unit×p7×Unit),(aj o fun y=>some y)=o:=by intro o;cases o<;>rfl
   exact(this _).symm.trans hh
  rw[Pg,aa,EI,aa,zC blk Mc,aa];dsimp only;have Ph:=mV all (N / 64);have i0:=fY (mD all (N / 64)) 0 (i:=0) (k:=0) rfl (by omega);have i1:=fY (mD all (N / 64)) 0 (i:=1) (k:=1) rfl (by omega);have i2:=fY (mD all (N / 64)) 0 (i:=2) (k:=2) rfl (by omega);have i3:=fY (mD all (N / 64)) 0 (i:=3) (k:=3) rfl (by omega);have i4:=fY (mD all (N / 64)) 0 (i:=4) (k:=4) rfl (by omega);have i5:=fY (mD all (N / 64)) 0 (i:=5) (k:=5) rfl (by omega);have i6:=fY (mD all (N / 64)) 0 (i:=6) (k:=6) rfl (by omega);have i7:=fY (mD all (N / 64)) 0 (i:=7) (k:=7) rfl (by omega);have w0:within 0 8=true:=by decide
  have w1:within 1 8=true:=by decide
  have w2:within 2 8=true:=by decide
  have w3:within 3 8=true:=by decide
  have w4:within 4 8=true:=by decide
  have w5:within 5 8=true:=by decide
  have w6:within 6 8=true:=by decide
  have w7:within 7 8=true:=by decide
  simp only[w0,w1,w2,w3,w4,w5,w6,w7,aq,i0,i1,i2,i3,i4,i5,i6,i7,aa];have hr:=CS (kD blk) (ru blk) (JM (mD all (N / 64))) () ();rw[show((mD all (N / 64)).getD 0 0,(mD all (N / 64)).getD 1 0,(mD all (N / 64)).getD 2 0,(mD all (N / 64)).getD 3 0,(mD all (N / 64)).getD 4 0,(mD all (N / 64)).getD 5 0,(mD all (N / 64)).getD 6 0,(mD all (N / 64)).getD 7 0,(0:Int),())=iJ (JM (mD all (N / 64))) 0 from rfl,hr,aa];rw[G2 _ ((true,mD all (N / 64),()),(blk,((N+k:Nat):Int),())) Ph,aa,aa,b5];dsimp only;refine⟨_,by rw[NS],?_⟩;refine⟨blk,?_,Mc,?_⟩
  ·rw[hall];have F6:64≤N+k:=by omega
   simp only[F6,BF,iE];have Pj:mD (all++part.take (64-N % 64)) ((N+k) / 64)=mu (mD all (N / 64)) (eE (ry jq (kD blk) (JM (mD all (N / 64))) 64)) 8:=by
    rw[hq];simp only[mD];rw[DF all _ _ (by omega),LK,D6];rfl
   rw[Pj]
  ·rw[hall,hm0,hq,Fk,Fc (by omega)];rfl
 ·have hnf:N % 64+k<64:=by omega
  simp only[cV (show((N % 64+k:Nat):Int)≠64 by omega),ax,aa,b5];refine⟨_,by rw[NS],?_⟩;have hq:(N+k) / 64=N / 64:=by omega
  have hm0:(N+k) % 64=N % 64+k:=by omega
  refine⟨_,?_,Mc,?_⟩
  ·rw[hall,hq];by_cases F6:64≤N
   ·have Ic:64≤N+k:=by omega
    simp only[F6,Ic,BF,iE];rw[DF all _ _ (by omega)]
   ·have Ic:¬64≤N+k:=by omega
    simp only[F6,Ic,Di,rG]
  ·rw[hall,hm0,hq,JR (by rw[en,oM,DG,hk];omega),yj (by rw[en,oM,DG,hk];omega),Fa (by omega)]
end Go.Ge
namespace Go.Ge
variable [Lp]
theorem G4:∀(n:Nat) (part all:List UInt8) (st:p7),part.length≤n→Inv st all→all.length+part.length<1152921504606846976 →
  ∃st',Loop cm ((part,()),(st,()))=some (([],()),(st',()))∧Inv st' (all++part):=by
 intro n;induction n with
 | zero =>
   intro part all st hn hI hb;obtain rfl:part=[]:=Fb (by omega);refine⟨st,?_,by rw[wH];exact hI⟩;rw[jJ];have:cm (([],()),(st,()))=some (.inr (([],()),(st,()))):=by
    unfold cm;dsimp only;rw[show nt (qd [] [])=false from rfl,ax,cj]
   rw[this];rfl
 | succ n ih =>
   intro part all st hn hI hb;by_cases hp:part=[]
   ·subst hp;exact ih [] all st (by simp) hI hb
   ·obtain⟨HI,h1,h2⟩:=G3 part all st hp hI hb;have hlt:all.length % 64<64:=wJ _ (by decide);have hpl:0<part.length:=by cases part with|nil=>exact absurd rfl hp|cons=>simp
    obtain⟨st',h3,h4⟩:=ih (part.drop (64-all.length % 64)) _ HI (by rw[kL];omega) h2 (by rw[oM,gb,kL];omega);refine⟨st',?_,by rw[kK,wD] at h4;exact h4⟩;rw[jJ,h1];exact h3
theorem uw(part all:List UInt8)(st:p7)(hI:Inv st all)(hb:all.length+part.length<1152921504606846976):∃st',cG ((part,()),(st,()))=some ((),(st',()))∧Inv st' (all++part):=by
 obtain⟨st',h1,h2⟩:=G4 part.length part all st (dD _) hI hb;refine⟨st',?_,h2⟩;unfold cG;dsimp only;rw[h1,aa]
def zs(n:Nat):Nat:=(119-n % 64) % 64
def bI(n k:Nat):Int:=jv .u8 (kM .u64 (gz .u64 (jv .u64 (n:Int)) 8) ((8*k:Nat):Int))
def sr(n:Nat):List Int:=[bI n 7,bI n 6,bI n 5,bI n 4,bI n 3,bI n 2,bI n 1,bI n 0]
def pad(s:List UInt8):List UInt8:=s++[128]++List.replicate (zs s.length) 0++aB (sr s.length)
theorem p8(s:List UInt8):(pad s).length=s.length+1+zs s.length+8:=by simp[pad,aB,sr];omega
theorem DH(s:List UInt8):(pad s).length % 64=0:=by rw[p8];unfold zs;omega
theorem gJ(s:List UInt8):aB (ah s)=s:=by
 unfold aB ah;rw[zV]
 conv=>rhs;rw[←List.map_id s]
 apply BB;intro x _;simp
theorem lJ(a b:List Int):aB (a++b)=aB a++aB b:=by simp[aB]
theorem Bl(s:List UInt8)(hn:s.length≤1048576):Loop eP (((),()),(ah s++[128],()))=some (((),()),(ah s++[128]++cJ (zs s.length),())):=by
 have hz:zs s.length<64:=wJ _ (by decide);have:=cO (f:=eP) (r:=(((),()),(ah s++[128]++cJ (zs s.length),()))) (zs s.length) (fun j=>(((),()),(ah s++[128]++cJ j,()))) (fun j hj=>by
  unfold eP;dsimp only;have el:len (ah s++[128]++cJ j)=((s.length+1+j:Nat):Int):=by unfold len;simp[ah,cJ];omega
  rw[cV (by decide),ax,el,show((64:Int))=((64:Nat):Int) from rfl,kE,cV (by unfold zs at hj;omega),show nt false=true from rfl,aq,fC (by simp only[plus,len,Fu];omega),aq,b5]
  congr 4
  show ah s++[128]++cJ j++[0]=_
  rw[kK,show cJ j++[0]=cJ (j+1) from by simp[cJ,List.replicate_succ']])
  (by
   unfold eP;dsimp only;have el:len (ah s++[128]++cJ (zs s.length))=((s.length+1+zs s.length:Nat):Int):=by unfold len;simp[ah,cJ];omega
   rw[cV (by decide),ax,el,show((64:Int))=((64:Nat):Int) from rfl,kE,nY (by unfold zs;omega),show nt true=false from rfl,ax,cj])
 have h0:ah s++[128]++cJ 0=ah s++[128]:=by simp[cJ]
 simp only[h0] at this;exact this
theorem EN(s:List UInt8)(b:List Int)(hn:s.length≤1048576)(hb:b.length≤2097152)(u:Unit):Loop (bR (s,u)) (((),(7,())),(b,()))=some (((),(-1,())),(b++sr s.length,())):=by
 have step:∀(k:Nat) (c:List Int),k≤7→c.length≤2097160→bR (s,u) (((),((k:Int),())),(c,()))=some (.inl (((),((k:Int)-1,())),(c++[bI s.length k],()))):=by
  intro k c hk hc;unfold bR;dsimp only;have e8:gz .i64 8 (k:Int)=((8*k:Nat):Int):=by rw[rq (by omega) (by omega)];omega
  rw[vZ (by omega),aq,e8,aQ (by omega),ax,fC (by simp only[plus,len,Fu];omega),aq,fX (by omega) (by omega),b5];rfl
 have hend:∀c:List Int,bR (s,u) (((),((-1:Int),())),(c,()))=some (.inr (((),(-1,())),(c,()))):=by
  intro c;unfold bR;dsimp only;rw[so (by decide),ax,cj]
 have L:∀(k:Nat) (c:List Int),k≤7→c.length≤2097160→Loop (bR (s,u)) (((),((k:Int),())),(c,()))=Loop (bR (s,u)) (((),((k:Int)-1,())),(c++[bI s.length k],())):=by
  intro k c hk hc;rw[jJ,step k c hk hc];rfl
 have l7:=L 7 b (by omega) (by omega);have l6:=L 6 (b++[bI s.length 7]) (by omega) (by simp;omega);have l5:=L 5 (b++[bI s.length 7]++[bI s.length 6]) (by omega) (by simp;omega);have l4:=L 4 (b++[bI s.length 7]++[bI s.length 6]++[bI s.length 5]) (by omega) (by simp;omega);have l3:=L 3 (b++[bI s.length 7]++[bI s.length 6]++[bI s.length 5]++[bI s.length 4]) (by omega) (by simp;omega);have l2:=L 2 (b++[bI s.length 7]++[bI s.length 6]++[bI s.length 5]++[bI s.length 4]++[bI s.length 3]) (by omega) (by simp;omega);have l1:=L 1 (b++[bI s.length 7]++[bI s.length 6]++[bI s.length 5]++[bI s.length 4]++[bI s.length 3]++[bI s.length 2]) (by omega) (by simp;omega);have l0:=L 0 (b++[bI s.length 7]++[bI s.length 6]++[bI s.length 5]++[bI s.length 4]++[bI s.length 3]++[bI s.length 2]++[bI s.length 1]) (by omega) (by simp;omega);refine l7.trans (l6.trans (l5.trans (l4.trans (l3.trans (l2.trans (l1.trans (l0.trans ?_)))))));have:b++[bI s.length 7]++[bI s.length 6]++[bI s.length 5]++[bI s.length 4]++[bI s.length 3]++[bI s.length 2]++[bI s.length 1]++[bI s.length 0]=b++sr s.length:=by simp[sr]
 rw[this];show Loop (bR (s,u)) (((),(-1,())),(b++sr s.length,()))=_
 rw[jJ,hend];rfl
theorem EO(s:List UInt8)(hn:s.length≤1048576):jc (s,())=some (pad s,()):=by
 have hz:zs s.length<64:=wJ _ (by decide);unfold jc;dsimp only;rw[fC (by unfold len;omega),aq,fC (by simp only[plus,len,Fu,en];omega),aq,show app (ah s) ([128]:List Int)=ah s++[128] from rfl,Bl s hn,aa];dsimp only;rw[EN s _ hn (by simp[en,cJ];omega),aa];dsimp only;rw[lJ,lJ,lJ,gJ];unfold pad;have:aB (cJ (zs s.length))=List.replicate (zs s.length) 0:=by unfold aB cJ;rw[List.map_replicate];rfl
 rw[this];rfl
theorem CU(t:List UInt8)(hm:t.length % 64=0)(hn:t.length≤2097152)(u:Unit):Loop (fS (t,u)) ((0,()),(H0,()))=some (((t.length:Int),()),(mD t (t.length / 64),())):=by
 have:=cO (f:=fS (t,u)) (r:=(((t.length:Int),()),(mD t (t.length / 64),()))) (t.length / 64) (fun j=>((((64*j:Nat):Int),()),(mD t j,()))) (fun j hj=>by
  unfold fS;dsimp only;have hjl:64*j+64≤t.length:=by omega
  rw[fW (by omega) (by omega),vZ (by unfold len;omega),aq,cv (by omega) (by omega) (by unfold len;omega),aq];have hs:sub t ((64*j:Nat):Int) (minus (((64*j:Nat):Int)+64) ((64*j:Nat):Int))=(t.drop (64*j)).take 64:=by
   unfold sub minus;rw[BD,show(((64*j:Nat):Int)+64-((64*j:Nat):Int)).toNat=64 by omega]
  rw[hs,EL _ (mV t j) _ (by rw[gb,kL];omega),aa,b5];rw[show(((64*j:Nat):Int)+64)=((64*(j+1):Nat):Int) by omega];rfl)
  (by
   unfold fS;dsimp only;have hjl:64*(t.length / 64)=t.length:=by omega
   rw[hjl,fW (by omega) (by omega),so (by unfold len;omega),ax,cj])
 exact this
def MZ(h:List Int)(i:Nat):Int:=jv .u8 (kM .u32 (h.getD (i / 4) 0) ((24-8*(i % 4):Nat):Int))
def Bm(h:List Int):Nat→List Int
 | 0=>cJ 32
 | i+1=>(Bm h i).set i (MZ h i)
theorem n6(h:List Int)(i:Nat):(Bm h i).length=32:=by
 induction i with
 | zero=>rfl
 | succ i ih=>simp[Bm,ih]
theorem DI:([0,0,0,0,0,0,0,0,0,0,0,0,0,0,0,0,0,0,0,0,0,0,0,0,0,0,0,0,0,0,0,0]:List Int)=cJ 32:=rfl
theorem G5{a:Nat}(h:a<4611686018427387904):tq .i64 (a:Int) 4=((a / 4:Nat):Int):=by
 have e:((a:Int).tdiv 4)=((a / 4:Nat):Int):=by rw[Int.tdiv_eq_ediv_of_nonneg (by omega)];exact(Int.natCast_ediv a 4).symm
 unfold tq;rw[e];have:=zz (a:=((a / 4:Nat):Int)) (by omega) (by omega);unfold jv at this;exact this
theorem Bn{h o:List Int}(hh:h.length=8)(ho:o.length=32)(i:Nat)(hi:i<32):tq .i64 (i:Int) 4=((i / 4:Nat):Int)∧eF .i64 24 (gz .i64 8 (gf (i:Int) 4))=((24-8*(i % 4):Nat):Int):=by
 refine⟨G5 (by omega),?_⟩;rw[show(4:Int)=((4:Nat):Int) from rfl,kE,rq (by omega) (by omega),fX (by omega) (by omega)];omega
theorem IU(h:List Int)(hh:h.length=8)(q:Int×Unit)(u:Unit):Loop (fT (q,(h,u))) ((0,()),(cJ 32,()))=some (((32:Int),()),(Bm h 32,())):=by
 refine cO (f:=fT (q,(h,u))) 32 (fun i=>(((i:Int),()),(Bm h i,()))) (fun i hi=>?_) ?_
 ·have hl:=n6 h i;obtain⟨e1,e2⟩:=Bn hh hl i hi;unfold fT;dsimp only;rw[cD (by omega),aq,cV (by decide),ax,e1,aU (by omega) (by omega),aq,cE h 0 (by omega),aa,ax,e2,aQ (by omega),ax,aU (by omega) (by omega),aq,
   cE _ 0 (by omega),aa,aa,aa,b5,dY (by omega),iy]
  rfl
 ·unfold fT;dsimp only;rw[aQ (by omega),ax,cj];rfl
theorem IV(h w:List Int)(hh:h.length=8)(bg:Bool)(n:Int)(a b c d e:Unit)(r:Unit):Loop (de (r,(((bg,h,a),w,n,b),c))) ((0,()),(cJ 32,()))=some (((32:Int),()),(Bm h 32,())):=by
 refine cO (f:=de (r,(((bg,h,a),w,n,b),c))) 32 (fun i=>(((i:Int),()),(Bm h i,()))) (fun i hi=>?_) ?_
 ·have hl:=n6 h i;obtain⟨e1,e2⟩:=Bn hh hl i hi;unfold de;dsimp only;rw[cD (by omega),aq,cV (by decide),ax,e1,aU (by omega) (by omega),aq,cE h 0 (by omega),aa,ax,e2,aQ (by omega),ax,aU (by omega) (by omega),aq,
   cE _ 0 (by omega),aa,aa,aa,b5,dY (by omega),iy]
  rfl
 ·unfold de;dsimp only;rw[aQ (by omega),ax,cj];rfl
def xD(s:List UInt8):List Int:=Bm (mD (pad s) ((pad s).length / 64)) 32
theorem gO(s:List UInt8):(xD s).length=32:=n6 _ _
theorem CV(s:List UInt8)(hn:s.length≤1048576):ld (s,())=some (xD s,()):=by
 have hz:zs s.length<64:=wJ _ (by decide);unfold ld;rw[xC,aa];dsimp only;rw[EO s hn,aa,CU _ (DH s) (by rw[p8];omega),aa,DI,IU _ (mV _ _),aa];dsimp only[xD]
theorem EP(s:List UInt8)(hn:s.length≤1152921504606840000)(st:p7)(hI:Inv st (s++[128])):∃st',Loop bT ((),(st,()))=some ((),(st',()))∧Inv st' (s++[128]++List.replicate (zs s.length) 0):=by
 have hz:zs s.length<64:=wJ _ (by decide);have key:∀(m j:Nat) (st:p7),j+m=zs s.length→Inv st (s++[128]++List.replicate j 0)→∃st',Loop bT ((),(st,()))=some ((),(st',()))∧Inv st' (s++[128]++List.replicate (zs s.length) 0):=by
  intro m;induction m with
  | zero =>
    intro j st hj hI;obtain rfl:j=zs s.length:=by omega
    refine⟨st,?_,hI⟩;obtain⟨wait,rfl,h1,h2⟩:=hI;rw[jJ];have:bT ((),(((decide (64≤(s++[128]++List.replicate (zs s.length) 0).length),(if 64≤(s++[128]++List.replicate (zs s.length) 0).length then mD (s++[128]++List.replicate (zs s.length) 0) ((s++[128]++List.replicate (zs s.length) 0).length / 64) else cJ 8),()),wait,((s++[128]++List.replicate (zs s.length) 0).length:Int),()),()))=some (.inr ((),(((decide (64≤(s++[128]++List.replicate (zs s.length) 0).length),(if 64≤(s++[128]++List.replicate (zs s.length) 0).length then mD (s++[128]++List.replicate (zs s.length) 0) ((s++[128]++List.replicate (zs s.length) 0).length / 64) else cJ 8),()),wait,((s++[128]++List.replicate (zs s.length) 0).length:Int),()),()))):=by
     have hl:(s++[128]++List.replicate (zs s.length) (0:UInt8)).length=s.length+1+zs s.length:=by simp;omega
     unfold bT;dsimp only;rw[cV (by decide),ax,hl,show((64:Int))=((64:Nat):Int) from rfl,kE,nY (by unfold zs;omega),show nt true=false from rfl,ax,cj]
    rw[this];rfl
  | succ m ih =>
    intro j st hj hI;obtain⟨HI,g1,g2⟩:=uw [0] _ st hI (by simp;omega);obtain⟨st',k1,k2⟩:=ih (j+1) HI (by omega) (by
     rw[kK,show List.replicate j (0:UInt8)++[0]=List.replicate (j+1) 0 from by rw[List.replicate_succ']] at g2;exact g2)
    refine⟨st',?_,k2⟩;rw[jJ];have hn':st.2.2.1=((s.length+1+j:Nat):Int):=by
     obtain⟨wait,rfl,h1,h2⟩:=hI;simp;omega
    have:bT ((),(st,()))=some (.inl ((),(HI,()))):=by
     unfold bT;dsimp only;rw[cV (by decide),ax,hn',show((64:Int))=((64:Nat):Int) from rfl,kE,cV (by unfold zs at hj;omega),show nt false=true from rfl,aq,g1,aa,b5]
    rw[this];exact k1
 exact key (zs s.length) 0 st (by omega) (by simpa using hI)
theorem G6(n:Nat)(hn:n≤1152921504606840000)(st:p7)(hst:st.2.2.1=(n:Int))(u v:Unit):Loop (cq (u,(st,v))) ((0,()),(cJ 8,()))=some (((8:Int),()),(sr n,())):=by
 obtain⟨hw,wt,m,q⟩:=st;dsimp only at hst;subst hst;have step:∀(k:Nat) (c:List Int),k<8→c.length=8→cq (u,((hw,wt,(n:Int),q),v)) (((k:Int),()),(c,()))=some (.inl ((((k+1:Nat):Int),()),(c.set (7-k) (bI n k),()))):=by
  intro k c hk hc;unfold cq;dsimp only;have e8:gz .i64 8 (k:Int)=((8*k:Nat):Int):=by rw[rq (by omega) (by omega)];omega
  have e7:eF .i64 7 (k:Int)=((7-k:Nat):Int):=by rw[fX (by omega) (by omega)];omega
  rw[cD (by omega),aq,e8,aQ (by omega),ax,e7,aU (by omega) (by omega),aq,cE c 0 (by omega),aa,aa,aa,b5,dY (by omega),iy];rfl
 have:=cO (f:=cq (u,((hw,wt,(n:Int),q),v))) (r:=(((8:Int),()),(sr n,()))) 8 (fun k=>(((k:Int),()),((match k with
  | 0=>cJ 8
  | 1=>[0,0,0,0,0,0,0,bI n 0]
  | 2=>[0,0,0,0,0,0,bI n 1,bI n 0]
  | 3=>[0,0,0,0,0,bI n 2,bI n 1,bI n 0]
  | 4=>[0,0,0,0,bI n 3,bI n 2,bI n 1,bI n 0]
  | 5=>[0,0,0,bI n 4,bI n 3,bI n 2,bI n 1,bI n 0]
  | 6=>[0,0,bI n 5,bI n 4,bI n 3,bI n 2,bI n 1,bI n 0]
  | 7=>[0,bI n 6,bI n 5,bI n 4,bI n 3,bI n 2,bI n 1,bI n 0]
  | _=>sr n:List Int),()))) (fun k hk=>by
    rcases(by omega:k=0∨k=1∨k=2∨k=3∨k=4∨k=5∨k=6∨k=7) with rfl|rfl|rfl|rfl|rfl|rfl|rfl|rfl<;>exact(step _ _ (by omega) rfl).trans rfl)
  (by
   unfold cq;dsimp only;rw[aQ (by omega),ax,cj];rfl)
 exact this
theorem IW(s:List UInt8)(hn:s.length≤1048576)(st:p7)(hI:Inv st s)(u v:Unit):gp (u,(st,v))=some ((xD s,()),(st,())):=by
 have hz:zs s.length<64:=wJ _ (by decide);have hst:st.2.2.1=(s.length:Int):=by obtain⟨wait,rfl,_⟩:=hI;rfl
 obtain⟨HI,a1,a2⟩:=uw [128] s st hI (by simp;omega);obtain⟨M0,b1,b2⟩:=EP s (by omega) HI a2;obtain⟨Pk,c1,c2⟩:=uw (aB (sr s.length)) _ M0 b2 (by simp[aB,sr];omega);unfold gp;dsimp only;rw[DI,show aB ([128]:List Int)=[128] from rfl,a1,aa];dsimp only;rw[b1,aa];dsimp only;rw[show([0,0,0,0,0,0,0,0]:List Int)=cJ 8 from rfl,G6 s.length (by omega) st hst,aa,cv (by decide) (by decide) (by decide),aq];dsimp only;rw[show sub (sr s.length) 0 (minus 8 0)=sr s.length from rfl,c1,aa];have L3:Inv Pk (pad s):=c2;obtain⟨wait,rfl,h1,h2⟩:=L3;have F6:64≤(pad s).length:=by have:=DH s;rw[p8] at this⊢;omega
 simp only[F6,BF,iE];rw[IV _ _ (mV _ _) _ _ () () () () () (),aa];dsimp only[xD]
theorem CW(s:List UInt8)(hn:s.length≤1048576):oJ (s,())=some (xD s,()):=by
 obtain⟨HI,a1,a2⟩:=uw s [] G1 MT (by simp;omega);unfold oJ;dsimp only;rw[show((false,([0,0,0,0,0,0,0,0]:List Int),()),([0,0,0,0,0,0,0,0,0,0,0,0,0,0,0,0,0,0,0,0,0,0,0,0,0,0,0,0,0,0,0,0,0,0,0,0,0,0,0,0,0,0,0,0,0,0,0,0,0,0,0,0,0,0,0,0,0,0,0,0,0,0,0,0]:List Int),(0:Int),())=G1 from rfl,a1,aa];dsimp only;rw[IW s hn HI (by simpa using a2),aa]
end Go.Ge
namespace Go.Ge
variable [Lp]
set_option maxRecDepth 100000 in
theorem IX:idx (xD [97,98,99]) 0=some 186∧idx (xD [97,98,99]) 1=some 120∧idx (xD [97,98,99]) 31=some 173:=⟨by kernel_rfl,by kernel_rfl,by kernel_rfl⟩
abbrev NT:=(Bool×List UInt8×Int×Unit)×p7×p7×Unit
end Go.Ge
namespace Go.Ge
variable [Lp]
def xE:List UInt8:=[48,49,50,51,52,53,54,55,56,57,97,98,99,100,101,102]
def hx(n:Nat):UInt8:=xE.getD n 0
def jN:List UInt8→List UInt8
 | []=>[]
 | b::r=>hx (b.toNat / 16)::hx (b.toNat % 16)::jN r
theorem jr(l:List UInt8):(jN l).length=2*l.length:=by
 induction l with
 | nil=>rfl
 | cons b r ih=>simp only[jN,oN,ih];omega
theorem G7(a b:List UInt8):jN (a++b)=jN a++jN b:=by
 induction a with
 | nil=>rfl
 | cons x r ih=>simp only[zO,jN,ih]
theorem IY:∀n:Fin 256,idx xE (kM .u8 (n.val:Int) 4)=some (hx (n.val / 16)):=by decide +kernel
theorem IZ:∀n:Fin 256,idx xE (fc .u8 (n.val:Int) 15)=some (hx (n.val % 16)):=by decide +kernel
theorem Kr(b:UInt8):idx xE (kM .u8 (u8 b) 4)=some (hx (b.toNat / 16)):=IY ⟨b.toNat,b.toNat_lt⟩
theorem Ks(b:UInt8):idx xE (fc .u8 (u8 b) 15)=some (hx (b.toNat % 16)):=IZ ⟨b.toNat,b.toNat_lt⟩
theorem ER(s:List UInt8){k:Nat}(h:k<s.length):idx (ah s) (k:Int)=some (u8 s[k]):=by
 rw[uu];simp[ah,u8,h]
theorem I0(s:List UInt8){k:Nat}(h:k<s.length):idx s (k:Int)=some s[k]:=by
 rw[uu];simp[h]
theorem su(s:List UInt8):len (ah s)=(s.length:Int):=by simp[len,ah]
theorem zD(s:List UInt8){k:Nat}(h:k<s.length):s.take (k+1)=s.take k++[s[k]]:=by
 rw[List.take_add_one,sB h];rfl
theorem DJ(s:List UInt8){k:Nat}(h:k<s.length):ah (jN (s.take (k+1)))=(ah (jN (s.take k))++[u8 (hx (s[k].toNat / 16))])++[u8 (hx (s[k].toNat % 16))]:=by
 rw[zD s h,G7,pn,kK];rfl
theorem G8(s:List UInt8)(hs:s.length≤1048576){k:Nat}(h:k<s.length)(x y:Int) :
  fits (plus (len (ah (jN (s.take k)))) (len [x]))=true∧fits (plus (len (ah (jN (s.take k))++[x])) (len [y]))=true:=by
 constructor
 ·apply fC;rw[su,jr];simp only[gb,plus,len,oN,wI];omega
 ·apply fC;have:(ah (jN (s.take k))++[x]).length=2*min k s.length+1:=by
   rw[oM,en,jr,gb];rfl
  simp only[plus,len,this,oN,wI];omega
theorem I3(s:List UInt8)(hs:s.length≤1048576):jM (s,())=some (jN s,()):=by
 unfold jM;dsimp only;rw[fC (by simp only[len];omega),aq];have key:Loop (fh (s,())) ((0,()),(((),((),())),([],())))=some (((s.length:Int),()),(((),((),())),(ah (jN s),()))):=by
  have:=cO (f:=fh (s,())) (r:=(((s.length:Int),()),(((),((),())),(ah (jN s),())))) s.length (fun k=>(((k:Int),()),(((),((),())),(ah (jN (s.take k)),())))) (fun k hk=>by
   unfold fh;dsimp only;obtain⟨f1,f2⟩:=G8 s hs hk (u8 (hx (s[k].toNat / 16))) (u8 (hx (s[k].toNat % 16)));rw[su,cD (by omega),aq,aU (by omega) (by omega),aq,ER s hk,aa,aQ (by decide),ax];rw[show([48,49,50,51,52,53,54,55,56,57,97,98,99,100,101,102]:List UInt8)=xE from rfl,Kr,aa,f1,aq,Ks,aa];unfold app;rw[f2,aq,b5,dY (by omega),DJ s hk]) (by
   unfold fh;dsimp only;rw[su,aQ (by omega),ax,cj,Dc])
  exact this
 rw[key,aa];dsimp only;rw[gJ]
theorem M3:∀n:Fin 16,gG ((n.val:Int),())=some (u8 (hx n.val),()):=by decide +kernel
theorem DK{n:Nat}(h:n<16):gG ((n:Int),())=some (u8 (hx n),()):=M3 ⟨n,h⟩
theorem G9:∀n:Fin 256,tq .i64 (jv .i64 (n.val:Int)) 16=((n.val / 16:Nat):Int):=by decide +kernel
theorem He:∀n:Fin 256,gf (jv .i64 (n.val:Int)) 16=((n.val % 16:Nat):Int):=by decide +kernel
theorem Kt(b:UInt8):tq .i64 (jv .i64 (u8 b)) 16=((b.toNat / 16:Nat):Int):=G9 ⟨b.toNat,b.toNat_lt⟩
theorem Ku(b:UInt8):gf (jv .i64 (u8 b)) 16=((b.toNat % 16:Nat):Int):=He ⟨b.toNat,b.toNat_lt⟩
theorem CX(s:List UInt8)(hs:s.length≤1048576):lf (s,())=some (jN s,()):=by
 unfold lf;have key:Loop (fV (s,())) (((),(0,())),([],()))=some (((),((s.length:Int),())),(ah (jN s),())):=by
  have:=cO (f:=fV (s,())) (r:=(((),((s.length:Int),())),(ah (jN s),()))) s.length (fun k=>(((),((k:Int),())),(ah (jN (s.take k)),()))) (fun k hk=>by
   unfold fV;dsimp only;obtain⟨f1,f2⟩:=G8 s hs hk (u8 (hx (s[k].toNat / 16))) (u8 (hx (s[k].toNat % 16)));have hb:=s[k].toNat_lt;rw[show len s=(s.length:Int) from rfl,cD (by omega),aq,I0 s hk,aa,cV (by decide),ax,Kt,DK (by omega),aa];dsimp only;rw[f1,aq,aa,ax,Ku,DK (by omega),aa];dsimp only;unfold app;rw[f2,aq,b5,dY (by omega),DJ s hk]) (by
   unfold fV;dsimp only;rw[show len s=(s.length:Int) from rfl,aQ (by omega),ax,cj,Dc])
  exact this
 rw[key,aa];dsimp only;rw[gJ]
end Go.Ge
namespace Go.Ge
variable [Lp]
def hv(c:UInt8):Int:=Lib.indexByte xE c
theorem Pm:∀n:Fin 256,(hv (UInt8.ofNat n.val)=-1∧∀j:Fin 16,hx j.val≠UInt8.ofNat n.val)∨∃j:Fin 16,hv (UInt8.ofNat n.val)=(j.val:Int)∧hx j.val=UInt8.ofNat n.val∧∀i:Fin 16,i.val<j.val→hx i.val≠UInt8.ofNat n.val:=by decide +kernel
theorem Bo(c:UInt8):(hv c=-1∧∀j:Nat,j<16→hx j≠c)∨∃j:Nat,j<16∧hv c=(j:Int)∧hx j=c∧∀i:Nat,i<j→hx i≠c:=by
 have h:=Pm ⟨c.toNat,c.toNat_lt⟩;have e:UInt8.ofNat c.toNat=c:=by simp
 simp only[e] at h;rcases h with ⟨h1,h2⟩|⟨j,h1,h2,h3⟩
 ·exact .inl ⟨h1,fun j hj=>h2 ⟨j,hj⟩⟩
 ·exact .inr ⟨j.val,j.isLt,h1,h2,fun i hi=>h3 ⟨i,Nat.lt_trans hi j.isLt⟩ hi⟩
theorem JN:∀n:Fin 16,hv (hx n.val)=(n.val:Int):=by decide +kernel
theorem Kv(c:UInt8):(show Int from u8 c).toNat.toUInt8=c:=by simp[u8]
theorem yb(c:UInt8):dh (xE,(u8 c,()))=some (hv c,()):=by
 have e:bK (xE,(u8 c,()))=some (hv c,()):=by
  unfold bK hv;rw[Kv];rfl
 unfold dh;dsimp only;rw[e];rfl
def iz:List UInt8→Option (List UInt8)
 | []=>some []
 | [_]=>none
 | a::b::r=>if hv a<0∨hv b<0 then none else(iz r).map (UInt8.ofNat (16*(hv a).toNat+(hv b).toNat)::·)
theorem LL:∀(i j:Fin 16),jv .u8 (lQ .i64 (fH .i64 (i.val:Int) 4) (j.val:Int))=u8 (UInt8.ofNat (16*i.val+j.val)):=by decide +kernel
theorem v8(l:List UInt8)(k:Nat)(h:k≤l.length):sub l (k:Int) (minus (len l) (k:Int))=l.drop k:=by
 unfold sub minus len;rw[BD,yj (by rw[kL];omega)]
def Pn:Option (List UInt8)→List UInt8×Bool×Unit
 | some l=>(l,(true,()))
 | none=>([],(false,()))
theorem CY:∀(n:Nat) (s:List UInt8) (acc:List Int),s.length≤n→s.length % 2=0→acc.length+s.length≤2097152 →
  ∃q,Loop ek ((s,([],(false,((),())))),(acc,()))=some q∧(match iz s with
   | some l=>q.1=0∧q.2.2.1=acc++ah l
   | none=>q.1=1∧q.2.1.2.1=[]∧q.2.1.2.2.1=false):=by
 intro n;induction n using Nat.strongRecOn with
 | _ n ih =>
   intro s acc hn h2 hb;rw[jJ]
   match s,hn,h2,hb with
   | [],_,_,_ =>
     refine⟨(0,(([],([],(false,((),())))),(acc,()))),?_,rfl,?_⟩
     ·unfold ek;rfl
     ·simp[ah]
   | [_],_,h2,_=>simp at h2
   | a::b::r,hn,h2,hb =>
     simp only[oN] at hn h2 hb;have e0:ek ((a::b::r,([],(false,((),())))),(acc,()))=(if hv a<0∨hv b<0 then some (.inr (1,((a::b::r,([],(false,((),())))),(acc,()))))
       else some (.inl ((r,([],(false,((),())))),(acc++[u8 (UInt8.ofNat (16*(hv a).toNat+(hv b).toNat))],())))):=by
      unfold ek;dsimp only;rw[show nt (qd (a::b::r) [])=true from by simp[nt,qd],aq,show idx (a::b::r) 0=some a from rfl,aa,
       show([48,49,50,51,52,53,54,55,56,57,97,98,99,100,101,102]:List UInt8)=xE from rfl,yb,aa,show idx (a::b::r) 1=some b from rfl,aa,yb,aa]
      dsimp only;by_cases ha:hv a<0
      ·rw[cD ha,fG,ax,aq,gd (.inl ha)]
      ·rw[aQ (by omega),ff,aq];by_cases hb':hv b<0
       ·rw[cD hb',aq,gd (.inr hb')]
       ·rw[aQ (by omega),ax,cZ (by omega),aQ (by decide),ax];have hp:jv .u8 (lQ .i64 (fH .i64 (hv a) 4) (hv b))=u8 (UInt8.ofNat (16*(hv a).toNat+(hv b).toNat)):=by
         rcases Bo a with ⟨h,_⟩|⟨i,hi,h,_⟩
         ·omega
         rcases Bo b with ⟨h',_⟩|⟨j,hj,h',_⟩
         ·omega
         rw[h,h'];exact LL ⟨i,hi⟩ ⟨j,hj⟩
        rw[hp,fC (by simp only[plus,len,oN,wI];omega),aq,cv (by decide) (by simp only[len,oN];omega) (Dj _),aq];have:=v8 (a::b::r) 2 (by simp);rw[show sub (a::b::r) 2 (minus (len (a::b::r)) 2)=r from this];rfl
     rw[e0];by_cases hab:hv a<0∨hv b<0
     ·rw[gd hab];refine⟨_,rfl,?_⟩;simp only[iz,gd hab];exact⟨trivial,trivial,trivial⟩
     ·rw[cZ hab];obtain⟨q,q1,q2⟩:=ih r.length (by omega) r (acc++[u8 (UInt8.ofNat (16*(hv a).toNat+(hv b).toNat))]) (dD _) (by omega) (by simp only[oM,oN,wI];omega);refine⟨q,q1,?_⟩;simp only[iz,cZ hab];cases hu:iz r with
      | none=>rw[hu] at q2;exact q2
      | some l =>
        rw[hu] at q2;refine⟨q2.1,?_⟩;rw[q2.2,kK];rfl
theorem CZ:∀(n:Nat) (s:List UInt8),s.length≤n→s.length % 2=1→iz s=none:=by
 intro n;induction n using Nat.strongRecOn with
 | _ n ih =>
   intro s hn h
   match s,hn,h with
   | [],_,h=>simp at h
   | [_],_,_=>rfl
   | a::b::r,hn,h =>
     simp only[oN] at hn h;simp only[iz];split
     ·rfl
     ·rw[ih r.length (by omega) r (dD _) (by omega)];rfl
theorem yc(s:List UInt8)(hs:s.length≤1048576):iw (s,())=some (Pn (iz s)):=by
 unfold iw;dsimp only;rw[cV (by decide),ax,show gf (len s) 2=((s.length % 2:Nat):Int) from kE s.length 2];rcases Nat.mod_two_eq_zero_or_one s.length with h|h
 ·rw[h,show iG ((0:Nat):Int) 0=true from rfl,fG,ax];obtain⟨q,q1,q2⟩:=CY s.length s [] (dD _) h (by simp;omega);rw[q1,aa];cases hu:iz s with
  | none =>
    rw[hu] at q2;rw[q2.1,show Jr 1 0=false from rfl,ax,q2.2.1,q2.2.2];rfl
  | some l =>
    rw[hu] at q2;rw[q2.1,show Jr 0 0=true from rfl,aq,q2.2,zQ,gJ];rfl
 ·rw[h,show iG ((1:Nat):Int) 0=false from rfl,ff,aq,CZ s.length s (dD _) h];rfl
end Go.Ge
namespace Go.Ge
variable [Lp]
theorem sw:∀l:List UInt8,iz (jN l)=some l:=by
 intro l;induction l with
 | nil=>rfl
 | cons b r ih =>
   have hb:=b.toNat_lt;have h1:=JN ⟨b.toNat / 16,by omega⟩;have h2:=JN ⟨b.toNat % 16,by omega⟩;simp only at h1 h2;simp only[jN,iz,h1,h2,ih,qf];rw[cZ (by omega)]
   congr 2
   rw[BD,BD,show 16*(b.toNat / 16)+b.toNat % 16=b.toNat by omega];simp
end Go.Ge
namespace Go.Ge
variable [Lp]
def mw:List UInt8:=[115,104,97,50,53,54,58]
def nx(s:List UInt8):List UInt8:=mw++jN (aB (xD s))
theorem s9(s:List UInt8):(nx s).length=71:=by
 unfold nx;rw[oM,jr];simp[aB,gO,mw]
theorem yd{α:Type}(l:List α)(n:Nat)(h:l.length=n):sub l 0 (minus n 0)=l:=by
 unfold sub minus;rw[show((0:Int).toNat)=0 from rfl,DU,yj (by omega)]
theorem C0(s:List UInt8)(hs:s.length≤1048576):eg (s,())=some (nx s,()):=by
 unfold eg;dsimp only;rw[CW s hs,aa,cv (by decide) (by decide) (by decide),aq];dsimp only;rw[show sub (xD s) 0 (minus 32 0)=xD s from yd _ 32 (gO s),I3 _ (by simp[aB,gO]),aa];dsimp only;rw[fC (by simp only[plus,len,jr,aB,DT,gO,oN,wI];omega),aq];rfl
theorem ES(s:List UInt8)(hs:s.length≤1048576):iT (s,())=some (nx s,()):=by
 unfold iT;dsimp only;rw[CV s hs,aa,cv (by decide) (by decide) (by decide),aq];dsimp only;rw[show sub (xD s) 0 (minus 32 0)=xD s from yd _ 32 (gO s),CX _ (by simp[aB,gO]),aa];dsimp only;rw[fC (by simp only[plus,len,jr,aB,DT,gO,oN,wI];omega),aq];rfl
def I4(t:List UInt8):Int:=if t.length=71∧t.take 7=mw∧(iz (t.drop 7)).isSome=true then 0 else 2
theorem Bp(l:List UInt8)(k:Nat):sub l 0 (minus (k:Int) 0)=l.take k:=by
 unfold sub minus;rw[show((0:Int).toNat)=0 from rfl,DU,Int.sub_zero,BD]
theorem xF(t:List UInt8):bL (t,(mw,()))=some (decide (t.take 7=mw),()):=by
 unfold bL;dsimp only;by_cases h:7≤t.length
 ·rw[vZ (by simp only[len];show(7:Int)≤_;omega),aq,show inside 0 (len mw) (len t)=true from cv (by decide) (by decide) (by simp only[len];show(7:Int)≤_;omega),aq,
   show sub t 0 (minus (len mw) 0)=t.take 7 from Bp t 7,aa]
  rfl
 ·rw[so (by simp only[len];show _<(7:Int);omega),ax,aa];have:¬t.take 7=mw:=fun e=>by
   have:=congrArg List.length e;rw[gb] at this;have h7:mw.length=7:=rfl;omega
  rw[De this]
theorem I5(t:List UInt8):eI (t,(mw,()))=some (if t.take 7=mw then(t.drop 7,(true,())) else(t,(false,()))):=by
 unfold eI cg;dsimp only;rw[xF,aa];dsimp only;by_cases h:t.take 7=mw
 ·have h7:7≤t.length:=by
   have:=congrArg List.length h;rw[gb] at this;have:mw.length=7:=rfl;omega
  rw[FB h,fG,ax,show inside (len mw) (len t) (len t)=true from cv (by decide) (by simp only[len];show(7:Int)≤_;omega) (Dj _),aq,aa,gd h,
   show sub t (len mw) (minus (len t) (len mw))=t.drop 7 from v8 t 7 h7]
 ·rw[De h,ff,aq,aa,cZ h]
theorem ye(t:List UInt8)(ht:t.length≤1048576):fU (t,())=some (I4 t,()):=by
 unfold fU;dsimp only;rw[show([115,104,97,50,53,54,58]:List UInt8)=mw from rfl,I5,aa];unfold I4;by_cases h:t.take 7=mw
 ·have h7:7≤t.length:=by
   have:=congrArg List.length h;rw[gb] at this;have:mw.length=7:=rfl;omega
  rw[gd h];dsimp only;rw[yc _ (by rw[kL];omega),aa,fG,ff,aq];cases hu:iz (t.drop 7) with
  | none =>
    rw[cZ (by simp)];show br (br (nt (nt false)) _ true) (some (2,())) _=_
    rw[ff,fG,ax,aq]
  | some l =>
    show br (br (nt (nt true)) _ true) _ _=_
    rw[fG,ff,aq];by_cases NU:t.length=71
    ·rw[nY (by simp only[len,kL];omega),fG,ax,gd ⟨NU,h,rfl⟩]
    ·rw[cV (by simp only[len,kL];omega),ff,aq,cZ (fun e=>NU e.1)]
 ·rw[cZ h];dsimp only;rw[yc _ ht,aa,ff,fG,ax,fG,ax,aq,cZ (fun e=>h e.2.1)]
theorem ET(s:List UInt8):(nx s).take 7=mw:=Fj rfl
theorem sx(s:List UInt8):(nx s).drop 7=jN (aB (xD s)):=DR rfl
theorem C1(s:List UInt8):I4 (nx s)=0:=by
 have h3:(iz ((nx s).drop 7)).isSome=true:=by
  rw[sx,sw];rfl
 exact gd ⟨s9 s,ET s,h3⟩
theorem Hf(d s:List UInt8)(hs:s.length≤1048576):jn (d,(s,()))=some (decide (d=nx s),()):=by
 unfold jn;dsimp only;rw[C0 s hs,aa];rfl
set_option maxRecDepth 100000 in
theorem Hg:(nx [97,98,99]).take 15=[115,104,97,50,53,54,58,98,97,55,56,49,54,98,102]:=by kernel_rfl
set_option maxRecDepth 100000 in
theorem I6:idx (xD [97,98,100]) 0=some 165:=by kernel_rfl
theorem I7:nx [97,98,99]≠nx [97,98,100]:=fun e=>by
 have h:aB (xD [97,98,99])=aB (xD [97,98,100]):=by
  have h1:=sw (aB (xD [97,98,99]));rw[←sx,e,sx,sw] at h1;exact(au h1).symm
 have h1:(xD [97,98,99])[0]?=some 186:=IX.1;have h2:(xD [97,98,100])[0]?=some 165:=I6;have h3:=congrArg (·[0]?) h;simp only[aB,wG,h1,h2,qf] at h3;exact absurd h3 (by decide)
theorem DL:fB ()=some (true,()):=by
 unfold fB;rw[C0 _ (by decide),aa];dsimp only;have hl:=s9 [97,98,99];generalize hd:nx [97,98,99]=d at hl;rw[nY (by simp only[len];omega),aq,cv (by decide) (by decide) (by simp only[len];omega),aq,show sub d 0 (minus 15 0)=d.take 15 from Bp d 15,←hd,Hg,ri,aa,aq,hd,
  ye d (by omega),aa]
 dsimp only;rw[←hd,C1,hd,aa,nV,aq,cv (by decide) (by simp only[len];omega) (Dj _),aq,show sub d 1 (minus (len d) 1)=d.drop 1 from v8 d 1 (by omega),
  ye _ (by rw[kL];omega),aa]
 dsimp only;rw[show I4 (d.drop 1)=2 from cZ (fun e=>by rw[kL] at e;omega),aa,nV,aq,Hf _ _ (by decide),aa];dsimp only;rw[FB hd.symm,aa,aq,Hf _ _ (by decide),aa];dsimp only;rw[De (fun e=>I7 (hd.trans e)),ff,aa]
end Go.Ge
