/- Plain laws of what the functions compute: part 1. -/
import Derived.Test.YtbaijbjhkmoidaaGreatDoorGeK
import Derived.Lib.Repeat
set_option linter.unusedSectionVars false
set_option linter.unusedVariables false
set_option linter.unusedSimpArgs false
noncomputable section
open Go.IntKind (i64 u32)
namespace Go.Ge
abbrev Sb:=aE
variable [Lp]
def cv:(Ty.pair .str<|.pair (.int .u8) .unit).den->Option (Ty.pair (.int .i64) .unit).den:=λx=>some (Lib.indexByte x.1 (show Int from x.2.1).toNat.toUInt8,())
def qz:Int×ah->Option (aE×ah):=λx=>some (Lib.itoa x.1,())
set_option maxRecDepth 100000
abbrev zC:=(Bool×(List<|(Int×Sb×Sb×Int×Int×Int×Sb×Int×Int×ah)×(Int×Int×Sb×(List Sb)×ah)×ah)×Int×Bool×Bool×(Int×Sb×Sb×Int×Int×Int×Sb×Int×Int×ah)×ah)
abbrev FA:=(Int×Int×Sb×(List Sb)×ah)
abbrev Mp:=(Int×Sb×Sb×Int×Int×Int×Sb×Int×Int×ah)
def gb(x:ah×zC×ah):Option ((Bool×ah)×zC×ah) :=
 some ((x.2.1.1,()),(x.2.1.1,x.2.1.2.1,x.2.1.2.2.1,x.2.1.2.2.2.1,x.2.1.2.2.2.2.1,x.2.1.2.2.2.2.2.1,()),())
def fy(x:ah×zC×ah):Option (ah×zC×ah) :=
 ab (gb ((),(x.2.1.1,x.2.1.2.1,x.2.1.2.2.1,x.2.1.2.2.2.1,x.2.1.2.2.2.2.1,x.2.1.2.2.2.2.2.1,()),())) (λa=>some ((),((((av a.1.1
 ((),(a.2.1.1,(),(0:Int),false,false,a.2.1.2.2.2.2.2.1,()),a.2.1.2.1,())
 ((),(a.2.1.1,(),a.2.1.2.2.1,a.2.1.2.2.2.1,a.2.1.2.2.2.2.1,a.2.1.2.2.2.2.2.1,()),a.2.1.2.1,())).2).1).1,(((av a.1.1
 ((),(a.2.1.1,(),(0:Int),false,false,a.2.1.2.2.2.2.2.1,()),a.2.1.2.1,())
 ((),(a.2.1.1,(),a.2.1.2.2.1,a.2.1.2.2.2.1,a.2.1.2.2.2.2.1,a.2.1.2.2.2.2.2.1,()),a.2.1.2.1,())).2).2).1,(((((av a.1.1
 ((),(a.2.1.1,(),(0:Int),false,false,a.2.1.2.2.2.2.2.1,()),a.2.1.2.1,())
 ((),(a.2.1.1,(),a.2.1.2.2.1,a.2.1.2.2.2.1,a.2.1.2.2.2.2.1,a.2.1.2.2.2.2.2.1,()),a.2.1.2.1,())).2).1).2).2).1,((((((av a.1.1
 ((),(a.2.1.1,(),(0:Int),false,false,a.2.1.2.2.2.2.2.1,()),a.2.1.2.1,())
 ((),(a.2.1.1,(),a.2.1.2.2.1,a.2.1.2.2.2.1,a.2.1.2.2.2.2.1,a.2.1.2.2.2.2.2.1,()),a.2.1.2.1,())).2).1).2).2).2).1,(((((((av a.1.1
 ((),(a.2.1.1,(),(0:Int),false,false,a.2.1.2.2.2.2.2.1,()),a.2.1.2.1,())
 ((),(a.2.1.1,(),a.2.1.2.2.1,a.2.1.2.2.2.1,a.2.1.2.2.2.2.1,a.2.1.2.2.2.2.2.1,()),a.2.1.2.1,())).2).1).2).2).2).2).1,((((((((av a.1.1
 ((),(a.2.1.1,(),(0:Int),false,false,a.2.1.2.2.2.2.2.1,()),a.2.1.2.1,())
 ((),(a.2.1.1,(),a.2.1.2.2.1,a.2.1.2.2.2.1,a.2.1.2.2.2.2.1,a.2.1.2.2.2.2.2.1,()),a.2.1.2.1,())).2).1).2).2).2).2).2).1,()),()))
def db(x:ah×zC×ah):Option ((Mp×Bool×ah)×zC×ah) :=
 ab (gb ((),(x.2.1.1,x.2.1.2.1,x.2.1.2.2.1,x.2.1.2.2.2.1,x.2.1.2.2.2.2.1,x.2.1.2.2.2.2.2.1,()),())) (λa=>av (av (nt<|nt a.1.1)
 (nt a.2.1.2.2.2.2.1)
 true)
 (some ((((0:Int),([]:aE),([]:aE),(0:Int),(0:Int),(0:Int),([]:aE),(0:Int),(0:Int),()),false,()),(a.2.1.1,a.2.1.2.1,a.2.1.2.2.1,a.2.1.2.2.2.1,a.2.1.2.2.2.2.1,a.2.1.2.2.2.2.2.1,()),()))
 (some ((a.2.1.2.2.2.2.2.1,true,()),(a.2.1.1,a.2.1.2.1,a.2.1.2.2.1,a.2.1.2.2.2.1,a.2.1.2.2.2.2.1,a.2.1.2.2.2.2.2.1,()),())))
def ep(x:(List Sb)×ah):Option ((List Sb)×ah) :=
 bif fits (len x.1) then some (x.1,()) else none
def iJ(x:FA×ah):Option (FA×ah) :=
 ab (ep (x.1.2.2.2.1,())) (λa=>some ((x.1.1,x.1.2.1,x.1.2.2.1,a.1,x.1.2.2.2.2),()))
def dJ(x:(FA×ah)×zC×ah):Option ((Int×ah)×zC×ah) :=
 ab (db ((),(x.2.1.1,x.2.1.2.1,x.2.1.2.2.1,x.2.1.2.2.2.1,x.2.1.2.2.2.2.1,x.2.1.2.2.2.2.2.1,()),())) (λa=>av (nt a.1.2.1)
 (some (((1:Int),()),(a.2.1.1,a.2.1.2.1,a.2.1.2.2.1,a.2.1.2.2.2.1,a.2.1.2.2.2.2.1,a.2.1.2.2.2.2.2.1,()),()))
 (ab (iJ (x.1.1,())) λb=>av (fits<|plus (len a.2.1.2.1)<|len ([(a.2.1.2.2.2.2.2.1,b.1,())]:List (Mp×FA×ah)))
 (some (((0:Int),()),(a.2.1.1,app a.2.1.2.1 ([(a.2.1.2.2.2.2.2.1,b.1,())]:List (Mp×FA×ah)),a.2.1.2.2.1,a.2.1.2.2.2.1,false,a.2.1.2.2.2.2.2.1,()),()))
 none))
def nY(x:ah):Option (FA×ah) :=
 some (((14:Int),(0:Int),([]:aE),([]:List Sb),()),())
def gl(x:(Mp×ah)×zC×ah):Option ((FA×ah)×zC×ah) :=
 ab (gb ((),(x.2.1.1,x.2.1.2.1,x.2.1.2.2.1,x.2.1.2.2.2.1,x.2.1.2.2.2.2.1,x.2.1.2.2.2.2.2.1,()),())) (λa=>av (nt a.1.1)
 (some ((((1:Int),(0:Int),([]:aE),([]:List Sb),()),()),(a.2.1.1,a.2.1.2.1,a.2.1.2.2.1,a.2.1.2.2.2.1,a.2.1.2.2.2.2.1,a.2.1.2.2.2.2.2.1,()),()))
 (av a.2.1.2.2.2.1
 (ab (nY ()) λb=>some ((b.1,()),(a.2.1.1,a.2.1.2.1,a.2.1.2.2.1,a.2.1.2.2.2.1,a.2.1.2.2.2.2.1,a.2.1.2.2.2.2.2.1,()),()))
 (av (aQ a.2.1.2.2.1<|len a.2.1.2.1)
 (ab (nY ()) λb=>some ((b.1,()),(a.2.1.1,a.2.1.2.1,a.2.1.2.2.1,true,true,x.1.1,()),()))
 (av (within a.2.1.2.2.1<|len a.2.1.2.1)
 (ab (idx a.2.1.2.1 a.2.1.2.2.1) λb=>av (nt<|an (aQ b.1.1 x.1.1.1)<|an (ie b.1.2.1 x.1.1.2.1)<|an (ie b.1.2.2.1 x.1.1.2.2.1)<|an (aQ b.1.2.2.2.1 x.1.1.2.2.2.1)<|an (aQ b.1.2.2.2.2.1 x.1.1.2.2.2.2.1)<|an (aQ b.1.2.2.2.2.2.1 x.1.1.2.2.2.2.2.1)<|an (ie b.1.2.2.2.2.2.2.1 x.1.1.2.2.2.2.2.2.1)<|an (aQ b.1.2.2.2.2.2.2.2.1 x.1.1.2.2.2.2.2.2.2.1)<|an (aQ b.1.2.2.2.2.2.2.2.2.1 x.1.1.2.2.2.2.2.2.2.2.1) true)
 (some ((((1:Int),(0:Int),([]:aE),([]:List Sb),()),()),(a.2.1.1,a.2.1.2.1,a.2.1.2.2.1,a.2.1.2.2.2.1,a.2.1.2.2.2.2.1,a.2.1.2.2.2.2.2.1,()),()))
 (av (within (dC i64 (aK i64 a.2.1.2.2.1 1) 1)<|len a.2.1.2.1)
 (ab (idx a.2.1.2.1<|dC i64 (aK i64 a.2.1.2.2.1 1) 1) λc=>ab (iJ (c.2.1,())) λd=>some ((d.1,()),(a.2.1.1,a.2.1.2.1,aK i64 a.2.1.2.2.1 1,a.2.1.2.2.2.1,a.2.1.2.2.2.2.1,a.2.1.2.2.2.2.2.1,()),()))
 none))
 none))))
end Go.Ge
namespace Go.Ge
variable [Lp]
set_option maxRecDepth 100000
abbrev ss:=((Bool×(List<|Int)×ah)×(List<|Int)×Int×ah)
abbrev yf:=(((Int×ah)×(List<|Int)×ah)⊕((Int×ah)×(List<|Int)×ah))
abbrev Mq:=(Int×Int×Int×Int×Int×Int×Int×Int×Int×ah)
abbrev BU:=((List<|Int)×ah)
def lJ(x:ah):Option BU :=
 some (([(1779033703:Int),3144134277,1013904242,2773480762,1359893119,2600822924,528734635,1541459225]:List (Int)),())
def qA(x:ah):Option BU :=
 some (([(1116352408:Int),1899447441,3049323471,3921009573,961987163,1508970993,2453635748,2870763221,3624381080,310598401,607225278,1426881987,1925078388,2162078206,2614888103,3248222580,3835390401,4022224774,264347078,604807628,770255983,1249150122,1555081692,1996064986,2554220882,2821834349,2952996808,3210313671,3336571891,3584528711,113926993,338241895,666307205,773529912,1294757372,1396182291,1695183700,1986661051,2177026350,2456956037,2730485921,2820302411,3259730800,3345764771,3516065817,3600352804,4094571909,275423344,430227734,506948616,659060556,883997877,958139571,1322822218,1537002063,1747873779,1955562222,2024104815,2227730452,2361852424,2428436474,2756734187,3204031479,3329325298]:List (Int)),())
def fU(x:Int×Int×ah):Option (Int×ah) :=
 av (cW (iY IntKind.u64 (mB IntKind.u64 x.2.1) 31) 0)
 none
 (av (cW (dC IntKind.u64 32<|iY IntKind.u64 (mB IntKind.u64 x.2.1) 31) 0)
 none
 (some (oi u32 (ix u32 x.1<|iY IntKind.u64 (mB IntKind.u64 x.2.1) 31)<|nj u32 x.1<|dC IntKind.u64 32<|iY IntKind.u64 (mB IntKind.u64 x.2.1) 31,())))
def bz(x:Int×Int×ah):Option (Int×ah) :=
 ab (fU (x.1,dC i64 0 x.2.1,())) (λa=>some (a.1,()))
def fA(x:(List<|Int)×ah)(a:(Int×ah)×(List<|Int)×ah)(b:(Int×ah)×(List<|Int)×ah):Option yf :=
 fh (av (cW b.1.1<|minus (aK i64 (js i64 4 a.1.1) 4)<|js i64 4 a.1.1)
 (av (within b.1.1<|minus (aK i64 (js i64 4 a.1.1) 4)<|js i64 4 a.1.1)
 (ab (idx x.1<|plus (js i64 4 a.1.1) b.1.1) λc=>av (within a.1.1 64)
 (ab (idx b.2.1 a.1.1) λd=>av (cW 8 0)
 none
 (av (within a.1.1 64)
 (ab (idx b.2.1 a.1.1) λe=>ab (idx b.2.1 a.1.1) λf=>ab (idx b.2.1 a.1.1) λg=>some (Sum.inl ((aK i64 b.1.1 1,()),o5 b.2.1 a.1.1<|oi u32 (ix u32 d 8)<|mB u32 c,())))
 none))
 none)
 none)
 (some<|Sum.inr (0,(b.1.1,()),b.2.1,())))
def fB(x:(List<|Int)×ah)(a:(Int×ah)×(List<|Int)×ah):Option yf :=
 fh (av (cW a.1.1 16)
 (av (inside (js i64 4 a.1.1) (aK i64 (js i64 4 a.1.1) 4) 64)
 (ab (Loop (fA x a) (((0:Int),()),a.2.1,())) λb=>some (Sum.inl ((aK i64 a.1.1 1,()),b.2.1,())))
 none)
 (some<|Sum.inr (0,(a.1.1,()),a.2.1,())))
def fC(a:(Int×ah)×(List<|Int)×ah):Option yf :=
 fh (av (cW a.1.1 64)
 (av (within (dC i64 a.1.1 2) 64)
 (ab (idx a.2.1<|dC i64 a.1.1 2) λb=>av (within (dC i64 a.1.1 15) 64)
 (ab (idx a.2.1<|dC i64 a.1.1 15) λc=>ab (bz (c,(7:Int),())) λe=>ab (bz (c,(18:Int),())) λf=>av (cW 3 0)
 none
 (ab (bz (b,(17:Int),())) λg=>ab (bz (b,(19:Int),())) λh=>av (cW 10 0)
 none
 (av (within (dC i64 a.1.1 7) 64)
 (ab (idx a.2.1<|dC i64 a.1.1 7) λi=>av (within (dC i64 a.1.1 16) 64)
 (ab (idx a.2.1<|dC i64 a.1.1 16) λd=>av (within a.1.1 64)
 (ab (idx a.2.1 a.1.1) λj=>ab (idx a.2.1 a.1.1) λk=>ab (idx a.2.1 a.1.1) λl=>some (Sum.inl ((aK i64 a.1.1 1,()),o5 a.2.1 a.1.1<|aK u32 (aK u32 (aK u32 (dY u32 (dY u32 g.1 h.1)<|nj u32 b 10) i)<|dY u32 (dY u32 e.1 f.1)<|nj u32 c 3) d,())))
 none)
 none)
 none)))
 none)
 none)
 (some<|Sum.inr (0,(a.1.1,()),a.2.1,())))
def kr(x:(List<|Int)×ah):Option BU :=
 ab (Loop (fB x) (((0:Int),()),([(0:Int),0,0,0,0,0,0,0,0,0,0,0,0,0,0,0,0,0,0,0,0,0,0,0,0,0,0,0,0,0,0,0,0,0,0,0,0,0,0,0,0,0,0,0,0,0,0,0,0,0,0,0,0,0,0,0,0,0,0,0,0,0,0,0]:List (Int)),())) (λa=>ab (Loop (fC) (((16:Int),()),a.2.1,())) λb=>some (b.2.1,()))
def dv(j:(List<|Int)×ah)(k:(List<|Int)×ah)(a:Mq×ah):Option ((Mq×ah)⊕(Mq×ah)) :=
 fh (av (cW a.1.2.2.2.2.2.2.2.2.1 64)
 (ab (bz (a.1.2.2.2.2.1,(6:Int),())) λb=>ab (bz (a.1.2.2.2.2.1,(11:Int),())) λc=>ab (bz (a.1.2.2.2.2.1,(25:Int),())) λd=>av (within a.1.2.2.2.2.2.2.2.2.1 64)
 (ab (idx j.1 a.1.2.2.2.2.2.2.2.2.1) λe=>av (within a.1.2.2.2.2.2.2.2.2.1 64)
 (ab (idx k.1 a.1.2.2.2.2.2.2.2.2.1) λf=>ab (bz (a.1.1,(2:Int),())) λg=>ab (bz (a.1.1,(13:Int),())) λh=>ab (bz (a.1.1,(22:Int),())) λi=>some (Sum.inl ((aK u32 (aK u32 (aK u32 (aK u32 (aK u32 a.1.2.2.2.2.2.2.2.1<|dY u32 (dY u32 b.1 c.1) d.1)<|dY u32 a.1.2.2.2.2.2.2.1<|iY u32 a.1.2.2.2.2.1<|dY u32 a.1.2.2.2.2.2.1 a.1.2.2.2.2.2.2.1) e) f)<|aK u32 (dY u32 (dY u32 g.1 h.1) i.1)<|oi u32 (iY u32 a.1.1 a.1.2.1)<|iY u32 a.1.2.2.1<|oi u32 a.1.1 a.1.2.1,a.1.1,a.1.2.1,a.1.2.2.1,aK u32 a.1.2.2.2.1<|aK u32 (aK u32 (aK u32 (aK u32 a.1.2.2.2.2.2.2.2.1<|dY u32 (dY u32 b.1 c.1) d.1)<|dY u32 a.1.2.2.2.2.2.2.1<|iY u32 a.1.2.2.2.2.1<|dY u32 a.1.2.2.2.2.2.1 a.1.2.2.2.2.2.2.1) e) f,a.1.2.2.2.2.1,a.1.2.2.2.2.2.1,a.1.2.2.2.2.2.2.1,aK i64 a.1.2.2.2.2.2.2.2.2.1 1,()),())))
 none)
 none)
 (some<|Sum.inr (0,(a.1.1,a.1.2.1,a.1.2.2.1,a.1.2.2.2.1,a.1.2.2.2.2.1,a.1.2.2.2.2.2.1,a.1.2.2.2.2.2.2.1,a.1.2.2.2.2.2.2.2.1,a.1.2.2.2.2.2.2.2.2.1,()),())))
def et(b:Mq×ah)(a:(Int×ah)×ss×ah):Option (((Int×ah)×ss×ah)⊕((Int×ah)×ss×ah)) :=
 fh (av (cW a.1.1 8)
 (ab (idx ([b.1.1,b.1.2.1,b.1.2.2.1,b.1.2.2.2.1,b.1.2.2.2.2.1,b.1.2.2.2.2.2.1,b.1.2.2.2.2.2.2.1,b.1.2.2.2.2.2.2.2.1]:List (Int)) a.1.1) λc=>av (within a.1.1 8)
 (ab (idx a.2.1.1.2.1 a.1.1) λd=>av (within a.1.1 8)
 (ab (idx a.2.1.1.2.1 a.1.1) λe=>ab (idx a.2.1.1.2.1 a.1.1) λf=>ab (idx a.2.1.1.2.1 a.1.1) λg=>some (Sum.inl ((aK i64 a.1.1 1,()),((a.2.1.1.1,o5 a.2.1.1.2.1 a.1.1<|aK u32 d c,a.2.1.1.2.2),a.2.1.2),())))
 none)
 none)
 (some<|Sum.inr (0,(a.1.1,()),a.2.1,())))
def dw(a:(Sb×ah)×ss×ah):Option (((Sb×ah)×ss×ah)⊕((Sb×ah)×ss×ah)) :=
 fh (av (nt<|ie a.1.1 ([]:aE))
 (av (aQ 64 0)
 none
 (av (inside (iX a.2.1.2.2.1 64) 64 64)
 (av (inside (len<|@iq Int (al a.1.1)<|minus 64<|iX a.2.1.2.2.1 64) (len a.1.1)<|len a.1.1)
 (ab (av (aQ (aK i64 (iX a.2.1.2.2.1 64)<|len<|@iq Int (al a.1.1)<|minus 64<|iX a.2.1.2.2.1 64) 64)
 (ab (av (nt a.2.1.1.1)
 (ab (lJ ()) λb=>some ((),((true,b.1,a.2.1.1.2.2),over a.2.1.2.1 (iX a.2.1.2.2.1 64)<|@iq Int (al a.1.1)<|minus 64<|iX a.2.1.2.2.1 64,aK i64 a.2.1.2.2.1<|len<|@iq Int (al a.1.1)<|minus 64<|iX a.2.1.2.2.1 64,a.2.1.2.2.2),()))
 (some ((),(a.2.1.1,over a.2.1.2.1 (iX a.2.1.2.2.1 64)<|@iq Int (al a.1.1)<|minus 64<|iX a.2.1.2.2.1 64,aK i64 a.2.1.2.2.1<|len<|@iq Int (al a.1.1)<|minus 64<|iX a.2.1.2.2.1 64,a.2.1.2.2.2),()))) λb=>ab (qA ()) λh=>ab (kr (over a.2.1.2.1 (iX a.2.1.2.2.1 64)<|@iq Int (al a.1.1)<|minus 64<|iX a.2.1.2.2.1 64,())) λi=>av (within 0 8)
 (ab (idx b.2.1.1.2.1 (0:Int)) λj=>av (within 1 8)
 (ab (idx b.2.1.1.2.1 (1:Int)) λk=>av (within 2 8)
 (ab (idx b.2.1.1.2.1 (2:Int)) λl=>av (within 3 8)
 (ab (idx b.2.1.1.2.1 (3:Int)) λm=>av (within 4 8)
 (ab (idx b.2.1.1.2.1 (4:Int)) λn=>av (within 5 8)
 (ab (idx b.2.1.1.2.1 (5:Int)) λc=>av (within 6 8)
 (ab (idx b.2.1.1.2.1 (6:Int)) λd=>av (within 7 8)
 (ab (idx b.2.1.1.2.1 (7:Int)) λe=>ab (Loop (dv h i) ((j,k,l,m,n,c,d,e,(0:Int),()),())) λf=>ab (Loop (et f) (((0:Int),()),b.2.1,())) λg=>some ((),g.2.1,()))
 none)
 none)
 none)
 none)
 none)
 none)
 none)
 none)
 (some ((),(a.2.1.1,over a.2.1.2.1 (iX a.2.1.2.2.1 64)<|@iq Int (al a.1.1)<|minus 64<|iX a.2.1.2.2.1 64,aK i64 a.2.1.2.2.1<|len<|@iq Int (al a.1.1)<|minus 64<|iX a.2.1.2.2.1 64,a.2.1.2.2.2),()))) λb=>some (Sum.inl ((sub a.1.1 (len<|@iq Int (al a.1.1)<|minus 64<|iX a.2.1.2.2.1 64)<|minus (len a.1.1)<|len<|@iq Int (al a.1.1)<|minus 64<|iX a.2.1.2.2.1 64,()),b.2.1,())))
 none)
 none))
 (some<|Sum.inr (0,(a.1.1,()),a.2.1,())))
def dK(x:(Sb×ah)×ss×ah):Option (ah×ss×ah) :=
 ab (Loop (dw) ((x.1.1,()),x.2.1,())) (λa=>some ((),a.2.1,()))
def cN(a:ah×ss×ah):Option ((ah×ss×ah)⊕(ah×ss×ah)) :=
 fh (av (aQ 64 0)
 none
 (av (nt<|aQ (iX a.2.1.2.2.1 64) 56)
 (ab (dK ((([0]:aE),()),a.2.1,())) λb=>some (Sum.inl ((),b.2.1,())))
 (some<|Sum.inr (0,(),a.2.1,()))))
def dx(x:ah×ss×ah)(a:(Int×ah)×(List<|Int)×ah):Option yf :=
 fh (av (cW a.1.1 8)
 (av (cW (js i64 8 a.1.1) 0)
 none
 (av (within (dC i64 7 a.1.1) 8)
 (ab (idx a.2.1<|dC i64 7 a.1.1) λb=>ab (idx a.2.1<|dC i64 7 a.1.1) λc=>ab (idx a.2.1<|dC i64 7 a.1.1) λd=>some (Sum.inl ((aK i64 a.1.1 1,()),o5 a.2.1 (dC i64 7 a.1.1)<|mB IntKind.u8<|nj IntKind.u64 (js IntKind.u64 (mB IntKind.u64<|((((((),x.2.1,()).2).1).2).2).1) 8)<|js i64 8 a.1.1,())))
 none))
 (some<|Sum.inr (0,(a.1.1,()),a.2.1,())))
def eu(b:ah×ss×ah)(a:(Int×ah)×(List<|Int)×ah):Option yf :=
 fh (av (cW a.1.1 32)
 (av (aQ 4 0)
 none
 (av (within (vu i64 a.1.1 4) 8)
 (ab (idx b.2.1.1.2.1<|vu i64 a.1.1 4) λc=>av (aQ 4 0)
 none
 (av (cW (dC i64 24<|js i64 8<|iX a.1.1 4) 0)
 none
 (av (within a.1.1 32)
 (ab (idx a.2.1 a.1.1) λd=>ab (idx a.2.1 a.1.1) λe=>ab (idx a.2.1 a.1.1) λf=>some (Sum.inl ((aK i64 a.1.1 1,()),o5 a.2.1 a.1.1<|mB IntKind.u8<|nj u32 c<|dC i64 24<|js i64 8<|iX a.1.1 4,())))
 none)))
 none))
 (some<|Sum.inr (0,(a.1.1,()),a.2.1,())))
def jb(x:ah×ss×ah):Option (BU×ss×ah) :=
 ab (dK ((aH ([(128:Int)]:List (Int)),()),(((),x.2.1,()).2).1,())) (λa=>ab (Loop (cN) ((),a.2.1,())) λb=>ab (Loop (dx x) (((0:Int),()),([(0:Int),0,0,0,0,0,0,0]:List (Int)),())) λc=>av (inside 0 8 8)
 (ab (dK ((aH<|sub c.2.1 (0:Int)<|minus 8 0,()),b.2.1,())) λd=>ab (Loop (eu d) (((0:Int),()),([(0:Int),0,0,0,0,0,0,0,0,0,0,0,0,0,0,0,0,0,0,0,0,0,0,0,0,0,0,0,0,0,0,0]:List (Int)),())) λe=>some ((e.2.1,()),x.2.1,()))
 none)
def rj(x:Sb×ah):Option BU :=
 ab (dK ((x.1,()),((false,([(0:Int),0,0,0,0,0,0,0]:List (Int)),()),([(0:Int),0,0,0,0,0,0,0,0,0,0,0,0,0,0,0,0,0,0,0,0,0,0,0,0,0,0,0,0,0,0,0,0,0,0,0,0,0,0,0,0,0,0,0,0,0,0,0,0,0,0,0,0,0,0,0,0,0,0,0,0,0,0,0]:List (Int)),(0:Int),()),())) (λa=>ab (jb ((),a.2.1,())) λb=>some (b.1.1,()))
def nZ(x:ah):Option BU :=
 some (([(1779033703:Int),3144134277,1013904242,2773480762,1359893119,2600822924,528734635,1541459225]:List (Int)),())
def gm(a:(ah×ah)×(List<|Int)×ah):Option (((ah×ah)×(List<|Int)×ah)⊕((ah×ah)×(List<|Int)×ah)) :=
 fh (av (aQ 64 0)
 none
 (av (nt<|aQ (iX (len a.2.1) 64) 56)
 (av (fits<|plus (len a.2.1)<|len ([(0:Int)]:List (Int)))
 (some<|Sum.inl (((),()),app a.2.1 ([(0:Int)]:List (Int)),()))
 none)
 (some<|Sum.inr (0,((),()),a.2.1,()))))
def cI(x:Sb×ah)(a:(ah×Int×ah)×(List<|Int)×ah):Option (((ah×Int×ah)×(List<|Int)×ah)⊕((ah×Int×ah)×(List<|Int)×ah)) :=
 fh (av (oW 0 a.1.2.1)
 (av (cW (js i64 8 a.1.2.1) 0)
 none
 (av (fits<|plus (len a.2.1)<|len ([mB IntKind.u8<|nj IntKind.u64 (js IntKind.u64 (mB IntKind.u64<|len x.1) 8)<|js i64 8 a.1.2.1]:List (Int)))
 (some<|Sum.inl (((),dC i64 a.1.2.1 1,()),app a.2.1 ([mB IntKind.u8<|nj IntKind.u64 (js IntKind.u64 (mB IntKind.u64<|len x.1) 8)<|js i64 8 a.1.2.1]:List (Int)),()))
 none))
 (some<|Sum.inr (0,((),a.1.2.1,()),a.2.1,())))
def lp(x:Sb×ah):Option (Sb×ah) :=
 av (fits<|len x.1)
 (av (fits<|plus (len<|al x.1)<|len ([(128:Int)]:List (Int)))
 (ab (Loop (gm) (((),()),app (al x.1) ([(128:Int)]:List (Int)),())) λa=>ab (Loop (cI x) (((),(7:Int),()),a.2.1,())) λb=>some (aH b.2.1,()))
 none)
 none
def bn(x:Int×Int×ah):Option (Int×ah) :=
 av (cW x.2.1 0)
 none
 (av (cW (dC i64 32 x.2.1) 0)
 none
 (some (oi u32 (nj u32 x.1 x.2.1)<|ix u32 x.1<|dC i64 32 x.2.1,())))
def mX(x:ah):Option BU :=
 some (([(1116352408:Int),1899447441,3049323471,3921009573,961987163,1508970993,2453635748,2870763221,3624381080,310598401,607225278,1426881987,1925078388,2162078206,2614888103,3248222580,3835390401,4022224774,264347078,604807628,770255983,1249150122,1555081692,1996064986,2554220882,2821834349,2952996808,3210313671,3336571891,3584528711,113926993,338241895,666307205,773529912,1294757372,1396182291,1695183700,1986661051,2177026350,2456956037,2730485921,2820302411,3259730800,3345764771,3516065817,3600352804,4094571909,275423344,430227734,506948616,659060556,883997877,958139571,1322822218,1537002063,1747873779,1955562222,2024104815,2227730452,2361852424,2428436474,2756734187,3204031479,3329325298]:List (Int)),())
def eN(x:(List<|Int)×Sb×ah)(a:(Int×ah)×(List<|Int)×ah):Option yf :=
 fh (av (cW a.1.1 16)
 (ab (idx x.2.1<|js i64 4 a.1.1) λb=>av (cW 24 0)
 none
 (ab (idx x.2.1<|aK i64 (js i64 4 a.1.1) 1) λc=>av (cW 16 0)
 none
 (ab (idx x.2.1<|aK i64 (js i64 4 a.1.1) 2) λd=>av (cW 8 0)
 none
 (ab (idx x.2.1<|aK i64 (js i64 4 a.1.1) 3) λe=>av (within a.1.1 64)
 (ab (idx a.2.1 a.1.1) λf=>ab (idx a.2.1 a.1.1) λg=>ab (idx a.2.1 a.1.1) λh=>some (Sum.inl ((aK i64 a.1.1 1,()),o5 a.2.1 a.1.1<|oi u32 (oi u32 (oi u32 (ix u32 (mB u32<|u8 b) 24)<|ix u32 (mB u32<|u8 c) 16)<|ix u32 (mB u32<|u8 d) 8)<|mB u32<|u8 e,())))
 none))))
 (some<|Sum.inr (0,(a.1.1,()),a.2.1,())))
def gn(a:(Int×ah)×(List<|Int)×ah):Option yf :=
 fh (av (cW a.1.1 64)
 (av (within (dC i64 a.1.1 2) 64)
 (ab (idx a.2.1<|dC i64 a.1.1 2) λb=>av (within (dC i64 a.1.1 15) 64)
 (ab (idx a.2.1<|dC i64 a.1.1 15) λc=>ab (bn (b,(17:Int),())) λe=>ab (bn (b,(19:Int),())) λf=>av (cW 10 0)
 none
 (av (within (dC i64 a.1.1 7) 64)
 (ab (idx a.2.1<|dC i64 a.1.1 7) λg=>ab (bn (c,(7:Int),())) λh=>ab (bn (c,(18:Int),())) λi=>av (cW 3 0)
 none
 (av (within (dC i64 a.1.1 16) 64)
 (ab (idx a.2.1<|dC i64 a.1.1 16) λd=>av (within a.1.1 64)
 (ab (idx a.2.1 a.1.1) λj=>ab (idx a.2.1 a.1.1) λk=>ab (idx a.2.1 a.1.1) λl=>some (Sum.inl ((aK i64 a.1.1 1,()),o5 a.2.1 a.1.1<|aK u32 (aK u32 (aK u32 (dY u32 (dY u32 e.1 f.1)<|nj u32 b 10) g)<|dY u32 (dY u32 h.1 i.1)<|nj u32 c 3) d,())))
 none)
 none))
 none))
 none)
 none)
 (some<|Sum.inr (0,(a.1.1,()),a.2.1,())))
def eO(z:(Int×ah)×(List<|Int)×ah)(A:(List<|Int)×ah)(a:(Int×ah)×(List<|Int)×ah):Option yf :=
 fh (av (cW a.1.1 64)
 (av (within 4 8)
 (ab (idx a.2.1 (4:Int)) λb=>av (within 0 8)
 (ab (idx a.2.1 (0:Int)) λc=>av (within 7 8)
 (ab (idx a.2.1 (7:Int)) λw=>ab (bn (b,(6:Int),())) λx=>ab (bn (b,(11:Int),())) λy=>ab (bn (b,(25:Int),())) λd=>av (within 5 8)
 (ab (idx a.2.1 (5:Int)) λe=>av (within 6 8)
 (ab (idx a.2.1 (6:Int)) λf=>av (within a.1.1 64)
 (ab (idx A.1 a.1.1) λg=>av (within a.1.1 64)
 (ab (idx z.2.1 a.1.1) λh=>ab (bn (c,(2:Int),())) λi=>ab (bn (c,(13:Int),())) λj=>ab (bn (c,(22:Int),())) λk=>av (within 1 8)
 (ab (idx a.2.1 (1:Int)) λl=>av (within 2 8)
 (ab (idx a.2.1 (2:Int)) λm=>av (within 1 8)
 (ab (idx a.2.1 (1:Int)) λn=>av (within 2 8)
 (ab (idx a.2.1 (2:Int)) λo=>av (within 0 8)
 (ab (idx a.2.1 (0:Int)) λp=>av (within 1 8)
 (ab (idx a.2.1 (1:Int)) λq=>av (within 2 8)
 (ab (idx a.2.1 (2:Int)) λr=>av (within 3 8)
 (ab (idx a.2.1 (3:Int)) λs=>av (within 4 8)
 (ab (idx a.2.1 (4:Int)) λt=>av (within 5 8)
 (ab (idx a.2.1 (5:Int)) λu=>av (within 6 8)
 (ab (idx a.2.1 (6:Int)) λv=>some (Sum.inl ((aK i64 a.1.1 1,()),([aK u32 (aK u32 (aK u32 (aK u32 (aK u32 w<|dY u32 (dY u32 x.1 y.1) d.1)<|dY u32 (iY u32 b e)<|iY u32 (dY u32 4294967295 b) f) g) h)<|aK u32 (dY u32 (dY u32 i.1 j.1) k.1)<|dY u32 (dY u32 (iY u32 c l)<|iY u32 c m)<|iY u32 n o,p,q,r,aK u32 s (aK u32 (aK u32 (aK u32 (aK u32 w<|dY u32 (dY u32 x.1 y.1) d.1)<|dY u32 (iY u32 b e)<|iY u32 (dY u32 4294967295 b) f) g) h),t,u,v]:List (Int)),())))
 none)
 none)
 none)
 none)
 none)
 none)
 none)
 none)
 none)
 none)
 none)
 none)
 none)
 none)
 none)
 none)
 none)
 none)
 (some<|Sum.inr (0,(a.1.1,()),a.2.1,())))
def gp(x:(List<|Int)×Sb×ah)(a:(Int×ah)×(List<|Int)×ah):Option yf :=
 fh (av (cW a.1.1 8)
 (av (within a.1.1 8)
 (ab (idx a.2.1 a.1.1) λb=>av (within a.1.1 8)
 (ab (idx x.1 a.1.1) λc=>av (within a.1.1 8)
 (ab (idx a.2.1 a.1.1) λe=>ab (idx a.2.1 a.1.1) λf=>ab (idx a.2.1 a.1.1) λd=>some (Sum.inl ((aK i64 a.1.1 1,()),o5 a.2.1 a.1.1<|aK u32 b c,())))
 none)
 none)
 none)
 (some<|Sum.inr (0,(a.1.1,()),a.2.1,())))
def lq(x:(List<|Int)×Sb×ah):Option BU :=
 ab (Loop (eN x) (((0:Int),()),([(0:Int),0,0,0,0,0,0,0,0,0,0,0,0,0,0,0,0,0,0,0,0,0,0,0,0,0,0,0,0,0,0,0,0,0,0,0,0,0,0,0,0,0,0,0,0,0,0,0,0,0,0,0,0,0,0,0,0,0,0,0,0,0,0,0]:List (Int)),())) (λa=>ab (Loop (gn) (((16:Int),()),a.2.1,())) λb=>ab (mX ()) λc=>ab (Loop (eO b c) (((0:Int),()),x.1,())) λd=>ab (Loop (gp x) (((0:Int),()),d.2.1,())) λe=>some (e.2.1,()))
def iK(b:Sb×ah)(a:(Int×ah)×(List<|Int)×ah):Option yf :=
 fh (av (oW (aK i64 a.1.1 64)<|len b.1)
 (av (inside a.1.1 (aK i64 a.1.1 64)<|len b.1)
 (ab (lq (a.2.1,sub b.1 a.1.1<|minus (aK i64 a.1.1 64) a.1.1,())) λc=>some (Sum.inl ((aK i64 a.1.1 64,()),c.1,())))
 none)
 (some<|Sum.inr (0,(a.1.1,()),a.2.1,())))
def iL(b:(Int×ah)×(List<|Int)×ah)(a:(Int×ah)×(List<|Int)×ah):Option yf :=
 fh (av (cW a.1.1 32)
 (av (aQ 4 0)
 none
 (av (within (vu i64 a.1.1 4) 8)
 (ab (idx b.2.1<|vu i64 a.1.1 4) λc=>av (aQ 4 0)
 none
 (av (cW (dC i64 24<|js i64 8<|iX a.1.1 4) 0)
 none
 (av (within a.1.1 32)
 (ab (idx a.2.1 a.1.1) λd=>ab (idx a.2.1 a.1.1) λe=>ab (idx a.2.1 a.1.1) λf=>some (Sum.inl ((aK i64 a.1.1 1,()),o5 a.2.1 a.1.1<|mB IntKind.u8<|nj u32 c<|dC i64 24<|js i64 8<|iX a.1.1 4,())))
 none)))
 none))
 (some<|Sum.inr (0,(a.1.1,()),a.2.1,())))
def nI(x:Sb×ah):Option BU :=
 ab (nZ ()) (λa=>ab (lp (x.1,())) λb=>ab (Loop (iK b) (((0:Int),()),a.1,())) λc=>ab (Loop (iL c) (((0:Int),()),([(0:Int),0,0,0,0,0,0,0,0,0,0,0,0,0,0,0,0,0,0,0,0,0,0,0,0,0,0,0,0,0,0,0]:List (Int)),())) λd=>some (d.2.1,()))
end Go.Ge
namespace Go.Ge
variable [Lp]
set_option maxRecDepth 100000
def gQ(x:Sb×ah)(a:(Int×ah)×(ah×ah×ah)×(List<|Int)×ah):Option (((Int×ah)×(ah×ah×ah)×(List<|Int)×ah)⊕((Int×ah)×(ah×ah×ah)×(List<|Int)×ah)) :=
 fh (av (cW a.1.1<|len<|al x.1)
 (av (within a.1.1<|len<|al x.1)
 (ab (idx (al x.1) a.1.1) λc=>av (cW 4 0)
 none
 (ab (idx ([48,49,50,51,52,53,54,55,56,57,97,98,99,100,101,102]:aE)<|nj IntKind.u8 c 4) λb=>av (fits<|plus (len a.2.2.1)<|len ([u8 b]:List (Int)))
 (ab (idx ([48,49,50,51,52,53,54,55,56,57,97,98,99,100,101,102]:aE)<|iY IntKind.u8 c 15) λd=>av (fits<|plus (len<|app a.2.2.1 ([u8 b]:List (Int)))<|len ([u8 d]:List (Int)))
 (some<|Sum.inl ((aK i64 a.1.1 1,()),((),(),a.2.1.2.2),app (app a.2.2.1 ([u8 b]:List (Int))) ([u8 d]:List (Int)),()))
 none)
 none))
 none)
 (some<|Sum.inr (0,(a.1.1,()),((),(),a.2.1.2.2),a.2.2.1,())))
def mr(x:Sb×ah):Option (Sb×ah) :=
 av (fits<|len x.1)
 (ab (Loop (gQ x) (((0:Int),()),((),(),()),([]:List (Int)),())) λa=>some (aH a.2.2.1,()))
 none
def iM(x:Sb×ah):Option (Sb×ah) :=
 ab (rj (x.1,())) (λb=>av (inside 0 32 32)
 (ab (mr (aH<|sub b.1 (0:Int)<|minus 32 0,())) λa=>av (fits<|plus (len ([115,104,97,50,53,54,58]:aE))<|len a.1)
 (some (app ([115,104,97,50,53,54,58]:aE) a.1,()))
 none)
 none)
def cw(x:Sb×Sb×ah):Option (Bool×ah) :=
 ab (av (oW (len x.2.1)<|len x.1)
 (av (inside 0 (len x.2.1)<|len x.1)
 (some<|ie (sub x.1 (0:Int)<|minus (len x.2.1) 0) x.2.1)
 none)
 (some false)) (λa=>some (a,()))
def dq(x:Sb×Sb×ah):Option (Sb×Bool×ah) :=
 ab (cw (x.1,x.2.1,())) (λa=>av (nt a.1)
 (some (x.1,false,()))
 (av (inside (len x.2.1) (len x.1)<|len x.1)
 (some (sub x.1 (len x.2.1)<|minus (len x.1)<|len x.2.1,true,()))
 none))
def gd(x:Sb×Sb×ah):Option (Sb×Bool×ah) :=
 ab (dq (x.1,x.2.1,())) (λa=>some (a.1,a.2.1,()))
def ev(x:Sb×Int×ah):Option (Int×ah) :=
 ab (cv (x.1,x.2.1,())) (λa=>some (a.1,()))
def fD(a:(Sb×Sb×Bool×ah×ah)×(List<|Int)×ah):Option (((Sb×Sb×Bool×ah×ah)×(List<|Int)×ah)⊕(Nat×(Sb×Sb×Bool×ah×ah)×(List<|Int)×ah)) :=
 av (nt<|ie a.1.1 ([]:aE))
 (ab (idx a.1.1 (0:Int)) λd=>ab (ev (([48,49,50,51,52,53,54,55,56,57,97,98,99,100,101,102]:aE),u8 d,())) λb=>ab (idx a.1.1 (1:Int)) λe=>ab (ev (([48,49,50,51,52,53,54,55,56,57,97,98,99,100,101,102]:aE),u8 e,())) λc=>av (av (nt<|cW b.1 0)
 (cW c.1 0)
 true)
 (some<|Sum.inr (1,(a.1.1,([]:aE),false,(),()),a.2.1,()))
 (av (cW 4 0)
 none
 (av (fits<|plus (len a.2.1)<|len ([mB IntKind.u8<|oi i64 (ix i64 b.1 4) c.1]:List (Int)))
 (av (inside 2 (len a.1.1)<|len a.1.1)
 (some<|Sum.inl ((sub a.1.1 (2:Int)<|minus (len a.1.1) 2,a.1.2.1,a.1.2.2.1,(),()),app a.2.1 ([mB IntKind.u8<|oi i64 (ix i64 b.1 4) c.1]:List (Int)),()))
 none)
 none)))
 (some<|Sum.inr (0,(a.1.1,a.1.2.1,a.1.2.2.1,(),()),a.2.1,()))
def ks(x:Sb×ah):Option (Sb×Bool×ah) :=
 av (aQ 2 0)
 none
 (av (nt<|aQ (iX (len x.1) 2) 0)
 (some (([]:aE),false,()))
 (ab (Loop (fD) ((x.1,([]:aE),false,(),()),([]:List (Int)),())) λa=>av (n9 a.1 0)
 (some (aH a.2.2.1,true,()))
 (some (a.2.1.2.1,a.2.1.2.2.1,()))))
def kt(x:Sb×ah):Option (Int×ah) :=
 ab (gd (x.1,([115,104,97,50,53,54,58]:aE),())) (λa=>ab (ks (a.1,())) λb=>av (av (nt<|av (nt<|nt a.2.1)
 (nt b.2.1)
 true)
 (nt<|aQ (len a.1) 64)
 true)
 (some ((2:Int),()))
 (some ((0:Int),())))
def lK(x:Sb×Sb×ah):Option (Bool×ah) :=
 ab (iM (x.2.1,())) (λa=>some (ie x.1 a.1,()))
def jA(x:Int×ah):Option (Int×ah) :=
 av (cW x.1 10)
 (some (mB IntKind.u8<|aK i64 48 x.1,()))
 (some (mB IntKind.u8<|dC i64 (aK i64 97 x.1) 10,()))
def iN(x:Sb×ah)(a:(ah×Int×ah)×(List<|Int)×ah):Option (((ah×Int×ah)×(List<|Int)×ah)⊕((ah×Int×ah)×(List<|Int)×ah)) :=
 fh (av (cW a.1.2.1<|len x.1)
 (ab (idx x.1 a.1.2.1) λd=>av (aQ 16 0)
 none
 (ab (jA (vu i64 (mB i64<|u8 d) 16,())) λb=>av (fits<|plus (len a.2.1)<|len ([b.1]:List (Int)))
 (ab (idx x.1 a.1.2.1) λe=>av (aQ 16 0)
 none
 (ab (jA (iX (mB i64<|u8 e) 16,())) λc=>av (fits<|plus (len<|app a.2.1 ([b.1]:List (Int)))<|len ([c.1]:List (Int)))
 (some<|Sum.inl (((),aK i64 a.1.2.1 1,()),app (app a.2.1 ([b.1]:List (Int))) ([c.1]:List (Int)),()))
 none))
 none))
 (some<|Sum.inr (0,((),a.1.2.1,()),a.2.1,())))
def nJ(x:Sb×ah):Option (Sb×ah) :=
 ab (Loop (iN x) (((),(0:Int),()),([]:List (Int)),())) (λa=>some (aH a.2.1,()))
def mY(x:Sb×ah):Option (Sb×ah) :=
 ab (nI (x.1,())) (λb=>av (inside 0 32 32)
 (ab (nJ (aH<|sub b.1 (0:Int)<|minus 32 0,())) λa=>av (fits<|plus (len ([115,104,97,50,53,54,58]:aE))<|len a.1)
 (some (app ([115,104,97,50,53,54,58]:aE) a.1,()))
 none)
 none)
end Go.Ge
namespace Go.Ge
variable [Lp]
set_option maxRecDepth 100000
end Go.Ge
namespace Go.Ge
variable [Lp]
set_option maxRecDepth 100000
end Go.Ge
namespace Go.Ge
variable [Lp]
set_option maxRecDepth 100000
abbrev N4:=(((Bool×Int×ah)×ah)⊕(Nat×(Bool×Int×ah)×ah))
def gq(x:Sb×ah)(a:(ah×Sb×Int×ah)×(List Sb)×ah):Option (((ah×Sb×Int×ah)×(List Sb)×ah)⊕((ah×Sb×Int×ah)×(List Sb)×ah)) :=
 fh (av (cW a.1.2.2.1<|len x.1)
 (ab (idx x.1 a.1.2.2.1) λc=>ab (av (aQ (u8 c) 47)
 (av (fits<|plus (len a.2.1)<|len ([a.1.2.1]:List Sb))
 (some (((),([]:aE),()),app a.2.1 ([a.1.2.1]:List Sb),()))
 none)
 (av (inside a.1.2.2.1 (aK i64 a.1.2.2.1 1)<|len x.1)
 (av (fits<|plus (len a.1.2.1)<|len<|sub x.1 a.1.2.2.1<|minus (aK i64 a.1.2.2.1 1) a.1.2.2.1)
 (some (((),app a.1.2.1<|sub x.1 a.1.2.2.1<|minus (aK i64 a.1.2.2.1 1) a.1.2.2.1,()),a.2.1,()))
 none)
 none)) λb=>some (Sum.inl (((),b.1.2.1,aK i64 a.1.2.2.1 1,()),b.2.1,())))
 (some<|Sum.inr (0,((),a.1.2.1,a.1.2.2.1,()),a.2.1,())))
def ib(x:Sb×ah):Option ((List Sb)×ah) :=
 av (ie x.1 ([]:aE))
 (some (([]:List Sb),()))
 (ab (Loop (gq x) (((),([]:aE),(0:Int),()),([]:List Sb),())) λa=>av (fits<|plus (len a.2.1)<|len ([a.1.2.1]:List Sb))
 (some (app a.2.1 ([a.1.2.1]:List Sb),()))
 none)
def fE(x:Sb×ah)(a:(Bool×Int×ah)×ah):Option N4 :=
 av (cW a.1.2.1<|len x.1)
 (ab (idx x.1 a.1.2.1) λc=>ab (av (nt<|aQ (u8 c) 0)
 (ab (idx x.1 a.1.2.1) λb=>some (aQ (u8 b) 47))
 (some true)) λb=>av b
 (some<|Sum.inr (1,(false,a.1.2.1,()),()))
 (some<|Sum.inl ((a.1.1,aK i64 a.1.2.1 1,()),())))
 (some<|Sum.inr (0,(a.1.1,a.1.2.1,()),()))
def ku(x:Sb×ah):Option (Bool×ah) :=
 ab (Loop (fE x) ((false,(0:Int),()),())) (λa=>av (n9 a.1 0)
 (some (av (av (av (oW 1<|len x.1)
 (oW (len x.1) 32)
 false)
 (nt<|ie x.1 ([46]:aE))
 false)
 (nt<|ie x.1 ([46,46]:aE))
 false,()))
 (some (a.2.1.1,())))
def jB(b:(List Sb)×ah)(a:(Bool×Int×ah)×ah):Option N4 :=
 av (cW a.1.2.1<|len b.1)
 (ab (idx b.1 a.1.2.1) λc=>ab (ku (c,())) λd=>av (nt d.1)
 (some<|Sum.inr (1,(false,a.1.2.1,()),()))
 (some<|Sum.inl ((a.1.1,aK i64 a.1.2.1 1,()),())))
 (some<|Sum.inr (0,(a.1.1,a.1.2.1,()),()))
def iO(x:Sb×ah):Option (Bool×ah) :=
 ab (ib (x.1,())) (λa=>ab (Loop (jB a) ((false,(0:Int),()),())) λb=>av (n9 b.1 0)
 (some (av (oW (len a.1) 8)
 (oW (len x.1) 96)
 false,()))
 (some (b.2.1.1,())))
def qB(x:(List Sb)×(List Sb)×ah)(a:(Bool×Int×ah)×ah):Option N4 :=
 av (av (cW a.1.2.1<|len x.1)
 (cW a.1.2.1<|len x.2.1)
 false)
 (ab (idx x.1 a.1.2.1) λb=>ab (idx x.2.1 a.1.2.1) λc=>av (nt<|ie b c)
 (some<|Sum.inr (1,(false,a.1.2.1,()),()))
 (some<|Sum.inl ((a.1.1,aK i64 a.1.2.1 1,()),())))
 (some<|Sum.inr (0,(a.1.1,a.1.2.1,()),()))
def tJ(x:(List Sb)×(List Sb)×ah):Option (Bool×ah) :=
 av (nt<|aQ (len x.1)<|len x.2.1)
 (some (false,()))
 (ab (Loop (qB x) ((false,(0:Int),()),())) λa=>av (n9 a.1 0)
 (some (true,()))
 (some (a.2.1.1,())))
def mu(x:Sb×Sb×ah):Option (Sb×ah) :=
 av (ie x.1 ([]:aE))
 (some (x.2.1,()))
 (av (ie x.2.1 ([]:aE))
 (some (x.1,()))
 (av (fits<|plus (len x.1)<|len ([47]:aE))
 (av (fits<|plus (len<|app x.1 ([47]:aE))<|len x.2.1)
 (some (app (app x.1 ([47]:aE)) x.2.1,()))
 none)
 none))
end Go.Ge
namespace Go.Ge
variable [Lp]
set_option maxRecDepth 100000
abbrev eF:=(Int×Bool×Int×Int×Sb×(List<|Sb×Int×ah)×ah)
abbrev jm:=((Int×Int×(List eF)×ah)×(List<|Int×Int×Int×ah)×ah)
abbrev jR:=(Int×Int×(List eF)×ah)
abbrev BV:=(Int×Sb×Sb×Int×Int×Int×Sb×Int×Int×ah)
abbrev il:=(Int×Int×ah)
abbrev kY:=(Int×Int×Int×ah)
abbrev H3:=(jm×jm×(List<|Int×Bool×BV×ah)×ah)
abbrev H4:=(((List<|Sb×Bool×Sb×ah)×ah)×jm×ah)
abbrev ns:=(Sb×Int×ah)
abbrev DT:=((Int×Sb×Int×ah)×jm×ah)
abbrev pO:=(Int×Int×ah×ah)
abbrev qC:=((List il)×Int×ah)
abbrev Aq:=((Int×Int×Sb×(List Sb)×ah)×ah)
abbrev mZ:=(ah×Int×ah)
abbrev tK:=((Int×ah)×jR×ah)
abbrev pP:=(ah×ah×ah)
abbrev yg:=(Sb×Bool×Sb×ah)
def px(x:(Int×ah)×qC×ah)(a:kY×ah):Option ((kY×ah)⊕(Nat×kY×ah)) :=
 av (cW a.1.2.2.1<|len x.2.1.1)
 (av (within a.1.2.2.1<|len x.2.1.1)
 (ab (idx x.2.1.1 a.1.2.2.1) λb=>av (aQ b.1 x.1.1)
 (av (within a.1.2.2.1<|len x.2.1.1)
 (ab (idx x.2.1.1 a.1.2.2.1) λc=>some (Sum.inr (1,(c.2.1,(0:Int),a.1.2.2.1,()),())))
 none)
 (some<|Sum.inl ((a.1.1,a.1.2.1,aK i64 a.1.2.2.1 1,()),())))
 none)
 (some<|Sum.inr (0,(a.1.1,a.1.2.1,a.1.2.2.1,()),()))
def ew(x:(Int×ah)×qC×ah):Option (il×qC×ah) :=
 ab (Loop (px x) (((0:Int),(0:Int),(0:Int),()),())) (λa=>av (n9 a.1 0)
 (some (((0:Int),(3:Int),()),(x.2.1.1,x.2.1.2.1,()),()))
 (some ((a.2.1.1,a.2.1.2.1,()),(x.2.1.1,x.2.1.2.1,()),())))
def py(x:(Int×ah)×qC×ah)(b:il×qC×ah)(a:(Int×ah)×ah):Option (((Int×ah)×ah)⊕((Int×ah)×ah)) :=
 fh (ab (av (cW a.1.1<|len b.2.1.1)
 (av (within a.1.1<|len b.2.1.1)
 (ab (idx b.2.1.1 a.1.1) λc=>some (cW c.1 x.1.1))
 none)
 (some false)) λc=>av c
 (some<|Sum.inl ((aK i64 a.1.1 1,()),()))
 (some<|Sum.inr (0,(a.1.1,()),())))
def jn(x:(Int×ah)×qC×ah):Option (il×qC×ah) :=
 av (av (nt<|cW x.1.1 1)
 (cW 2147483648 x.1.1)
 true)
 (some (((0:Int),(1:Int),()),(x.2.1.1,x.2.1.2.1,()),()))
 (ab (ew ((x.1.1,()),(x.2.1.1,x.2.1.2.1,()),())) λa=>av (aQ a.1.2.1 0)
 (some (((0:Int),(4:Int),()),(a.2.1.1,a.2.1.2.1,()),()))
 (av (oW 8<|len a.2.1.1)
 (some (((0:Int),(5:Int),()),(a.2.1.1,a.2.1.2.1,()),()))
 (ab (Loop (py x a) (((0:Int),()),())) λb=>av (inside 0 b.1.1<|len a.2.1.1)
 (av (fits<|plus (len ([]:List il))<|len<|sub a.2.1.1 (0:Int)<|minus b.1.1 0)
 (av (fits<|plus (len<|app ([]:List il)<|sub a.2.1.1 (0:Int)<|minus b.1.1 0)<|len ([(x.1.1,aK i64 a.2.1.2.1 1,())]:List il))
 (av (inside b.1.1 (len a.2.1.1)<|len a.2.1.1)
 (av (fits<|plus (len<|app (app ([]:List il)<|sub a.2.1.1 (0:Int)<|minus b.1.1 0) ([(x.1.1,aK i64 a.2.1.2.1 1,())]:List il))<|len<|sub a.2.1.1 b.1.1<|minus (len a.2.1.1) b.1.1)
 (some ((aK i64 a.2.1.2.1 1,(0:Int),()),(app (app (app ([]:List il)<|sub a.2.1.1 (0:Int)<|minus b.1.1 0) ([(x.1.1,aK i64 a.2.1.2.1 1,())]:List il))<|sub a.2.1.1 b.1.1<|minus (len a.2.1.1) b.1.1,aK i64 a.2.1.2.1 1,()),()))
 none)
 none)
 none)
 none)
 none)))
def mi(x:il×qC×ah):Option ((Bool×ah)×qC×ah) :=
 ab (ew ((x.1.1,()),(x.2.1.1,x.2.1.2.1,()),())) (λa=>some ((av (aQ a.1.2.1 0)
 (aQ a.1.1 x.1.2.1)
 false,()),(a.2.1.1,a.2.1.2.1,()),()))
def nK(x:ah×H3×ah):Option (ah×H3×ah) :=
 av (fits<|plus (len ([]:List kY))<|len x.2.1.1.2.1)
 (av (fits<|plus (len ([]:List eF))<|len x.2.1.1.1.2.2.1)
 (some ((),(((x.2.1.1.1.1,x.2.1.1.1.2.1,x.2.1.1.1.2.2.1,()),x.2.1.1.2.1,()),((x.2.1.1.1.1,x.2.1.1.1.2.1,app ([]:List eF) x.2.1.1.1.2.2.1,()),app ([]:List kY) x.2.1.1.2.1,()),([]:List (Int×Bool×BV×ah)),()),()))
 none)
 none
def fV(x:BV×ah):Option (Bool×ah) :=
 av (((av (aQ x.1.1 1)
 ((aQ x.1.1 1,()),())
 ((((av (aQ x.1.1 2)
 ((aQ x.1.1 2,()),())
 ((((av (aQ x.1.1 3)
 ((aQ x.1.1 3,()),())
 ((((av (aQ x.1.1 4)
 ((aQ x.1.1 4,()),())
 ((aQ x.1.1 11,()),())).1).1,()),())).1).1,()),())).1).1,()),())).1).1)
 (ab (av (nt<|ie x.1.2.1 ([]:aE))
 (ab (iO (x.1.2.1,())) λa=>some a.1)
 (some false)) λa=>some (a,()))
 (av (((av (aQ x.1.1 10)
 ((aQ x.1.1 10,()),())
 ((aQ x.1.1 12,()),())).1).1)
 (ab (av (nt<|ie x.1.2.1 ([]:aE))
 (ab (iO (x.1.2.1,())) λa=>some a.1)
 (some false)) λa=>ab (av (av a
 (nt<|ie x.1.2.2.1 ([]:aE))
 false)
 (ab (iO (x.1.2.2.1,())) λb=>some b.1)
 (some false)) λb=>some (b,()))
 (av (aQ x.1.1 13)
 (ab (iO (x.1.2.1,())) λa=>some (a.1,()))
 (some (av (oW 1 x.1.1)
 (oW x.1.1 13)
 false,()))))
def rA(x:il×jm×ah)(a:il×ah):Option ((il×ah)⊕(Nat×il×ah)) :=
 av (cW a.1.2.1<|len x.2.1.2.1)
 (av (within a.1.2.1<|len x.2.1.2.1)
 (ab (idx x.2.1.2.1 a.1.2.1) λc=>ab (av (aQ c.1 x.1.1)
 (av (within a.1.2.1<|len x.2.1.2.1)
 (ab (idx x.2.1.2.1 a.1.2.1) λb=>some (aQ b.2.1 x.1.2.1))
 none)
 (some false)) λb=>av b
 (av (within a.1.2.1<|len x.2.1.2.1)
 (ab (idx x.2.1.2.1 a.1.2.1) λd=>some (Sum.inr (1,(d.2.2.1,a.1.2.1,()),())))
 none)
 (some<|Sum.inl ((a.1.1,aK i64 a.1.2.1 1,()),())))
 none)
 (some<|Sum.inr (0,(a.1.1,a.1.2.1,()),()))
def gr(x:il×jm×ah):Option ((Int×ah)×jm×ah) :=
 ab (Loop (rA x) (((0:Int),(0:Int),()),())) (λa=>av (n9 a.1 0)
 (some (((0:Int),()),((x.2.1.1.1,x.2.1.1.2.1,x.2.1.1.2.2.1,()),x.2.1.2.1,()),()))
 (some ((a.2.1.1,()),((x.2.1.1.1,x.2.1.1.2.1,x.2.1.1.2.2.1,()),x.2.1.2.1,()),())))
def fG(x:(Int×ah)×jR×ah)(a:(Bool×Int×ah)×eF×ah):Option (((Bool×Int×ah)×eF×ah)⊕(Nat×(Bool×Int×ah)×eF×ah)) :=
 av (cW a.1.2.1<|len x.2.1.2.2.1)
 (av (within a.1.2.1<|len x.2.1.2.2.1)
 (ab (idx x.2.1.2.2.1 a.1.2.1) λb=>av (aQ b.1 x.1.1)
 (av (within a.1.2.1<|len x.2.1.2.2.1)
 (ab (idx x.2.1.2.2.1 a.1.2.1) λc=>some (Sum.inr (1,(true,a.1.2.1,()),c,())))
 none)
 (some<|Sum.inl ((a.1.1,aK i64 a.1.2.1 1,()),a.2.1,())))
 none)
 (some<|Sum.inr (0,(a.1.1,a.1.2.1,()),a.2.1,()))
def bh(x:(Int×ah)×jR×ah):Option ((eF×Bool×ah)×jR×ah) :=
 ab (Loop (fG x) ((false,(0:Int),()),((0:Int),false,(0:Int),(0:Int),([]:aE),([]:List ns),()),())) (λa=>av (n9 a.1 0)
 (some ((((0:Int),false,(0:Int),(0:Int),([]:aE),([]:List ns),()),false,()),(x.2.1.1,x.2.1.2.1,x.2.1.2.2.1,()),()))
 (some ((a.2.2.1,a.2.1.1,()),(x.2.1.1,x.2.1.2.1,x.2.1.2.2.1,()),())))
def fH(x:(eF×ah)×jR×ah)(a:mZ×(List eF)×ah):Option ((mZ×(List eF)×ah)⊕(mZ×(List eF)×ah)) :=
 fh (av (cW a.1.2.1<|len x.2.1.2.2.1)
 (av (within a.1.2.1<|len x.2.1.2.2.1)
 (ab (idx x.2.1.2.2.1 a.1.2.1) λc=>ab (av (nt<|aQ c.1 x.1.1.1)
 (av (within a.1.2.1<|len x.2.1.2.2.1)
 (ab (idx x.2.1.2.2.1 a.1.2.1) λb=>av (fits<|plus (len a.2.1)<|len ([b]:List eF))
 (some (((),()),app a.2.1 ([b]:List eF),()))
 none)
 none)
 (ab (av (av (nt<|cW 0 x.1.1.2.2.1)
 (cW 0 x.1.1.2.2.2.1)
 true)
 (av (fits<|plus (len a.2.1)<|len ([x.1.1]:List eF))
 (some (((),()),app a.2.1 ([x.1.1]:List eF),()))
 none)
 (some (((),()),a.2.1,()))) λb=>some (((),()),b.2.1,()))) λb=>some (Sum.inl (((),aK i64 a.1.2.1 1,()),b.2.1,())))
 none)
 (some<|Sum.inr (0,((),a.1.2.1,()),a.2.1,())))
def aW(x:(eF×ah)×jR×ah):Option (ah×jR×ah) :=
 ab (Loop (fH x) (((),(0:Int),()),([]:List eF),())) (λa=>some ((),(x.2.1.1,x.2.1.2.1,a.2.1,()),()))
def gI(x:(Int×ah)×jR×ah):Option tK :=
 ab (bh ((x.1.1,()),(x.2.1.1,x.2.1.2.1,x.2.1.2.2.1,()),())) (λa=>av (nt a.1.2.1)
 (some (((3:Int),()),(a.2.1.1,a.2.1.2.1,a.2.1.2.2.1,()),()))
 (av (aQ a.1.1.2.2.2.1 0)
 (some (((1:Int),()),(a.2.1.1,a.2.1.2.1,a.2.1.2.2.1,()),()))
 (ab (aW (((a.1.1.1,a.1.1.2.1,a.1.1.2.2.1,dC i64 a.1.1.2.2.2.1 1,a.1.1.2.2.2.2),()),(a.2.1.1,a.2.1.2.1,a.2.1.2.2.1,()),())) λb=>some (((0:Int),()),(b.2.1.1,b.2.1.2.1,b.2.1.2.2.1,()),()))))
def fJ(x:il×jm×ah)(a:mZ×(List kY)×pP×pO×(List kY)×(List eF)×ah):Option ((mZ×(List kY)×pP×pO×(List kY)×(List eF)×ah)⊕(mZ×(List kY)×pP×pO×(List kY)×(List eF)×ah)) :=
 fh (av (cW a.1.2.1<|len a.2.2.2.2.1)
 (av (within a.1.2.1<|len a.2.2.2.2.1)
 (ab (idx a.2.2.2.2.1 a.1.2.1) λe=>ab (av (aQ e.1 x.1.1)
 (ab (av (nt<|aQ x.1.2.1 0)
 (av (within a.1.2.1<|len a.2.2.2.2.1)
 (ab (idx a.2.2.2.2.1 a.1.2.1) λc=>some (aQ c.2.1 x.1.2.1))
 none)
 (some true)) λc=>some c)
 (some false)) λc=>ab (av c
 (av (within a.1.2.1<|len a.2.2.2.2.1)
 (ab (idx a.2.2.2.2.1 a.1.2.1) λb=>ab (gI ((b.2.2.1,()),(a.2.2.2.1.1,a.2.2.2.1.2.1,a.2.2.2.2.2.1,()),())) λd=>some (((),()),a.2.1,((),(),a.2.2.1.2.2),(d.2.1.1,d.2.1.2.1,(),()),a.2.2.2.2.1,d.2.1.2.2.1,()))
 none)
 (av (within a.1.2.1<|len a.2.2.2.2.1)
 (ab (idx a.2.2.2.2.1 a.1.2.1) λb=>av (fits<|plus (len a.2.1)<|len ([b]:List kY))
 (some (((),()),app a.2.1 ([b]:List kY),((),(),a.2.2.1.2.2),(a.2.2.2.1.1,a.2.2.2.1.2.1,(),a.2.2.2.1.2.2.2),a.2.2.2.2.1,a.2.2.2.2.2.1,()))
 none)
 none)) λb=>some (Sum.inl (((),aK i64 a.1.2.1 1,()),b.2.1,((),(),b.2.2.1.2.2),(b.2.2.2.1.1,b.2.2.2.1.2.1,(),b.2.2.2.1.2.2.2),b.2.2.2.2.1,b.2.2.2.2.2.1,())))
 none)
 (some<|Sum.inr (0,((),a.1.2.1,()),a.2.1,((),(),a.2.2.1.2.2),(a.2.2.2.1.1,a.2.2.2.1.2.1,(),a.2.2.2.1.2.2.2),a.2.2.2.2.1,a.2.2.2.2.2.1,())))
def ir(x:il×jm×ah):Option (ah×jm×ah) :=
 ab (Loop (fJ x) (((),(0:Int),()),([]:List kY),((),(),()),(x.2.1.1.1,x.2.1.1.2.1,(),()),x.2.1.2.1,x.2.1.1.2.2.1,())) (λa=>some ((),((a.2.2.2.1.1,a.2.2.2.1.2.1,a.2.2.2.2.2.1,()),a.2.1,()),()))
def bP(x:kY×jR×ah):Option ((eF×Int×ah)×jR×ah) :=
 ab (bh ((x.1.1,()),(x.2.1.1,x.2.1.2.1,x.2.1.2.2.1,()),())) (λa=>av (nt a.1.2.1)
 (some ((a.1.1,(3:Int),()),(a.2.1.1,a.2.1.2.1,a.2.1.2.2.1,()),()))
 (av a.1.1.2.1
 (some ((a.1.1,(12:Int),()),(a.2.1.1,a.2.1.2.1,a.2.1.2.2.1,()),()))
 (av (av (nt<|cW x.1.2.1 0)
 (cW x.1.2.2.1 0)
 true)
 (some ((a.1.1,(1:Int),()),(a.2.1.1,a.2.1.2.1,a.2.1.2.2.1,()),()))
 (some ((a.1.1,(0:Int),()),(a.2.1.1,a.2.1.2.1,a.2.1.2.2.1,()),())))))
def eV(x:kY×jR×ah):Option (ns×jR×ah) :=
 ab (bP ((x.1.1,x.1.2.1,x.1.2.2.1,()),(x.2.1.1,x.2.1.2.1,x.2.1.2.2.1,()),())) (λa=>av (av (nt<|nt<|aQ a.1.2.1 0)
 (oW (len a.1.1.2.2.2.2.1) x.1.2.1)
 true)
 (some ((([]:aE),a.1.2.1,()),(a.2.1.1,a.2.1.2.1,a.2.1.2.2.1,()),()))
 (av (inside x.1.2.1 (aK i64 x.1.2.1<|Eu x.1.2.2.1<|dC i64 (len a.1.1.2.2.2.2.1) x.1.2.1)<|len a.1.1.2.2.2.2.1)
 (some ((sub a.1.1.2.2.2.2.1 x.1.2.1<|minus (aK i64 x.1.2.1<|Eu x.1.2.2.1<|dC i64 (len a.1.1.2.2.2.2.1) x.1.2.1) x.1.2.1,(0:Int),()),(a.2.1.1,a.2.1.2.1,a.2.1.2.2.1,()),()))
 none))
def ff(x:jR×ah)(a:il×ah):Option ((il×ah)⊕(il×ah)) :=
 fh (av (cW a.1.2.1<|len x.1.2.2.1)
 (ab (idx x.1.2.2.1 a.1.2.1) λb=>some (Sum.inl ((aK i64 (aK i64 a.1.1 64)<|len b.2.2.2.2.1,aK i64 a.1.2.1 1,()),())))
 (some<|Sum.inr (0,(a.1.1,a.1.2.1,()),())))
def cl(x:jR×ah):Option (Int×ah) :=
 ab (Loop (ff x) (((0:Int),(0:Int),()),())) (λa=>some (a.1.1,()))
def eW(x:(eF×Int×ah)×jR×ah):Option tK :=
 av (cW 1048576 x.1.2.1)
 (some (((5:Int),()),(x.2.1.1,x.2.1.2.1,x.2.1.2.2.1,()),()))
 (ab (cl ((x.2.1.1,x.2.1.2.1,x.2.1.2.2.1,()),())) λa=>av (cW (dC i64 x.2.1.1 a.1)<|dC i64 x.1.2.1<|len x.1.1.2.2.2.2.1)
 (some (((6:Int),()),(x.2.1.1,x.2.1.2.1,x.2.1.2.2.1,()),()))
 (some (((0:Int),()),(x.2.1.1,x.2.1.2.1,x.2.1.2.2.1,()),())))
def gR(x:Sb×Int×ah)(a:(ah×ah)×(List<|Int)×ah):Option (((ah×ah)×(List<|Int)×ah)⊕((ah×ah)×(List<|Int)×ah)) :=
 fh (av (cW (len a.2.1) x.2.1)
 (av (fits<|plus (len a.2.1)<|len ([(0:Int)]:List (Int)))
 (some<|Sum.inl (((),()),app a.2.1 ([(0:Int)]:List (Int)),()))
 none)
 (some<|Sum.inr (0,((),()),a.2.1,())))
def kv(x:Sb×Int×ah):Option (Sb×ah) :=
 av (fits<|len x.1)
 (ab (Loop (gR x) (((),()),al x.1,())) λa=>some (aH a.2.1,()))
 none
def cp(x:(Int×Int×Sb×ah)×jR×ah):Option tK :=
 ab (bP ((x.1.1,x.1.2.1,(0:Int),()),(x.2.1.1,x.2.1.2.1,x.2.1.2.2.1,()),())) (λa=>av (nt<|aQ a.1.2.1 0)
 (some ((a.1.2.1,()),(a.2.1.1,a.2.1.2.1,a.2.1.2.2.1,()),()))
 (av (av (nt<|cW 1048576 x.1.2.1)
 (cW 1048576<|aK i64 x.1.2.1<|len x.1.2.2.1)
 true)
 (some (((5:Int),()),(a.2.1.1,a.2.1.2.1,a.2.1.2.2.1,()),()))
 (av (ie x.1.2.2.1 ([]:aE))
 (some (((0:Int),()),(a.2.1.1,a.2.1.2.1,a.2.1.2.2.1,()),()))
 (ab (eW ((a.1.1,imax (len a.1.1.2.2.2.2.1)<|aK i64 x.1.2.1<|len x.1.2.2.1,()),(a.2.1.1,a.2.1.2.1,a.2.1.2.2.1,()),())) λc=>av (nt<|aQ c.1.1 0)
 (some ((c.1.1,()),(c.2.1.1,c.2.1.2.1,c.2.1.2.2.1,()),()))
 (ab (kv (a.1.1.2.2.2.2.1,imax (len a.1.1.2.2.2.2.1)<|aK i64 x.1.2.1<|len x.1.2.2.1,())) λb=>av (inside 0 x.1.2.1<|len b.1)
 (av (fits<|plus (len<|sub b.1 (0:Int)<|minus x.1.2.1 0)<|len x.1.2.2.1)
 (av (inside (aK i64 x.1.2.1<|len x.1.2.2.1) (len b.1)<|len b.1)
 (av (fits<|plus (len<|app (sub b.1 (0:Int)<|minus x.1.2.1 0) x.1.2.2.1)<|len<|sub b.1 (aK i64 x.1.2.1<|len x.1.2.2.1)<|minus (len b.1)<|aK i64 x.1.2.1<|len x.1.2.2.1)
 (ab (aW (((a.1.1.1,a.1.1.2.1,a.1.1.2.2.1,a.1.1.2.2.2.1,app (app (sub b.1 (0:Int)<|minus x.1.2.1 0) x.1.2.2.1)<|sub b.1 (aK i64 x.1.2.1<|len x.1.2.2.1)<|minus (len b.1)<|aK i64 x.1.2.1<|len x.1.2.2.1,a.1.1.2.2.2.2.2),()),(c.2.1.1,c.2.1.2.1,c.2.1.2.2.1,()),())) λd=>some (((0:Int),()),(d.2.1.1,d.2.1.2.1,d.2.1.2.2.1,()),()))
 none)
 none)
 none)
 none)))))
def kx(x:il×jR×ah):Option tK :=
 ab (bP ((x.1.1,x.1.2.1,(0:Int),()),(x.2.1.1,x.2.1.2.1,x.2.1.2.2.1,()),())) (λa=>av (nt<|aQ a.1.2.1 0)
 (some ((a.1.2.1,()),(a.2.1.1,a.2.1.2.1,a.2.1.2.2.1,()),()))
 (ab (eW ((a.1.1,x.1.2.1,()),(a.2.1.1,a.2.1.2.1,a.2.1.2.2.1,()),())) λb=>av (nt<|aQ b.1.1 0)
 (some ((b.1.1,()),(b.2.1.1,b.2.1.2.1,b.2.1.2.2.1,()),()))
 (ab (kv (a.1.1.2.2.2.2.1,x.1.2.1,())) λd=>av (inside 0 x.1.2.1<|len d.1)
 (ab (aW (((a.1.1.1,a.1.1.2.1,a.1.1.2.2.1,a.1.1.2.2.2.1,sub d.1 (0:Int)<|minus x.1.2.1 0,a.1.1.2.2.2.2.2),()),(b.2.1.1,b.2.1.2.1,b.2.1.2.2.1,()),())) λc=>some (((0:Int),()),(c.2.1.1,c.2.1.2.1,c.2.1.2.2.1,()),()))
 none)))
def cC(x:(Int×BV×ah)×jm×ah):Option (Aq×jm×ah) :=
 ab (gr ((x.1.1,x.1.2.1.2.2.2.1,()),((x.2.1.1.1,x.2.1.1.2.1,x.2.1.1.2.2.1,()),x.2.1.2.1,()),())) (λa=>av (aQ a.1.1 0)
 (some ((((13:Int),(0:Int),([]:aE),([]:List Sb),()),()),((a.2.1.1.1,a.2.1.1.2.1,a.2.1.1.2.2.1,()),a.2.1.2.1,()),()))
 (av (aQ x.1.2.1.1 5)
 (ab (ir ((x.1.1,x.1.2.1.2.2.2.1,()),((a.2.1.1.1,a.2.1.1.2.1,a.2.1.1.2.2.1,()),a.2.1.2.1,()),())) λb=>some ((((0:Int),(0:Int),([]:aE),([]:List Sb),()),()),((b.2.1.1.1,b.2.1.1.2.1,b.2.1.1.2.2.1,()),b.2.1.2.1,()),()))
 (av (aQ x.1.2.1.1 6)
 (ab (eV ((a.1.1,x.1.2.1.2.2.2.2.1,x.1.2.1.2.2.2.2.2.1,()),(a.2.1.1.1,a.2.1.1.2.1,a.2.1.1.2.2.1,()),())) λb=>some (((b.1.2.1,(0:Int),b.1.1,([]:List Sb),()),()),((b.2.1.1,b.2.1.2.1,b.2.1.2.2.1,()),a.2.1.2.1,()),()))
 (av (aQ x.1.2.1.1 7)
 (ab (cp ((a.1.1,x.1.2.1.2.2.2.2.1,x.1.2.1.2.2.2.2.2.2.1,()),(a.2.1.1.1,a.2.1.1.2.1,a.2.1.1.2.2.1,()),())) λb=>some (((b.1.1,(0:Int),([]:aE),([]:List Sb),()),()),((b.2.1.1,b.2.1.2.1,b.2.1.2.2.1,()),a.2.1.2.1,()),()))
 (av (aQ x.1.2.1.1 8)
 (ab (kx ((a.1.1,x.1.2.1.2.2.2.2.2.1,()),(a.2.1.1.1,a.2.1.1.2.1,a.2.1.1.2.2.1,()),())) λb=>some (((b.1.1,(0:Int),([]:aE),([]:List Sb),()),()),((b.2.1.1,b.2.1.2.1,b.2.1.2.2.1,()),a.2.1.2.1,()),()))
 (ab (eV ((a.1.1,(0:Int),(1048576:Int),()),(a.2.1.1.1,a.2.1.1.2.1,a.2.1.1.2.2.1,()),())) λb=>some (((b.1.2.1,len b.1.1,([]:aE),([]:List Sb),()),()),((b.2.1.1,b.2.1.2.1,b.2.1.2.2.1,()),a.2.1.2.1,()),())))))))
def iu(x:Sb×ah)(a:(Bool×Int×ah)×ah):Option (((Bool×Int×ah)×ah)⊕(Nat×(Bool×Int×ah)×ah)) :=
 av (cW a.1.2.1<|len x.1)
 (ab (idx x.1 a.1.2.1) λc=>ab (av (nt<|aQ (u8 c) 0)
 (ab (idx x.1 a.1.2.1) λb=>some (aQ (u8 b) 47))
 (some true)) λb=>av b
 (some<|Sum.inr (1,(false,a.1.2.1,()),()))
 (some<|Sum.inl ((a.1.1,aK i64 a.1.2.1 1,()),())))
 (some<|Sum.inr (0,(a.1.1,a.1.2.1,()),()))
def gu(x:Sb×ah):Option (Bool×ah) :=
 ab (Loop (iu x) ((false,(0:Int),()),())) (λa=>av (n9 a.1 0)
 (some (av (av (av (oW 1<|len x.1)
 (oW (len x.1) 32)
 false)
 (nt<|ie x.1 ([46]:aE))
 false)
 (nt<|ie x.1 ([46,46]:aE))
 false,()))
 (some (a.2.1.1,())))
def cq(x:(Int×Sb×ah)×jR×ah):Option ((eF×Int×ah)×jR×ah) :=
 ab (bh ((x.1.1,()),(x.2.1.1,x.2.1.2.1,x.2.1.2.2.1,()),())) (λa=>av (nt a.1.2.1)
 (some ((a.1.1,(3:Int),()),(a.2.1.1,a.2.1.2.1,a.2.1.2.2.1,()),()))
 (av (nt a.1.1.2.1)
 (some ((a.1.1,(12:Int),()),(a.2.1.1,a.2.1.2.1,a.2.1.2.2.1,()),()))
 (ab (gu (x.1.2.1,())) λb=>av (nt b.1)
 (some ((a.1.1,(1:Int),()),(a.2.1.1,a.2.1.2.1,a.2.1.2.2.1,()),()))
 (some ((a.1.1,(0:Int),()),(a.2.1.1,a.2.1.2.1,a.2.1.2.2.1,()),())))))
def jc(x:eF×Sb×ah)(a:il×ah):Option ((il×ah)⊕(Nat×il×ah)) :=
 av (cW a.1.2.1<|len x.1.2.2.2.2.2.1)
 (ab (idx x.1.2.2.2.2.2.1 a.1.2.1) λb=>av (ie b.1 x.2.1)
 (ab (idx x.1.2.2.2.2.2.1 a.1.2.1) λc=>some (Sum.inr (1,(c.2.1,a.1.2.1,()),())))
 (some<|Sum.inl ((a.1.1,aK i64 a.1.2.1 1,()),())))
 (some<|Sum.inr (0,(a.1.1,a.1.2.1,()),()))
def dW(x:eF×Sb×ah):Option (Int×ah) :=
 ab (Loop (jc x) (((0:Int),(0:Int),()),())) (λa=>av (n9 a.1 0)
 (some ((0:Int),()))
 (some (a.2.1.1,())))
def bQ(x:(Int×Sb×ah)×jR×ah):Option (il×jR×ah) :=
 ab (cq ((x.1.1,x.1.2.1,()),(x.2.1.1,x.2.1.2.1,x.2.1.2.2.1,()),())) (λa=>av (nt<|aQ a.1.2.1 0)
 (some (((0:Int),a.1.2.1,()),(a.2.1.1,a.2.1.2.1,a.2.1.2.2.1,()),()))
 (ab (dW (a.1.1,x.1.2.1,())) λb=>av (aQ b.1 0)
 (some (((0:Int),(3:Int),()),(a.2.1.1,a.2.1.2.1,a.2.1.2.2.1,()),()))
 (some ((b.1,(0:Int),()),(a.2.1.1,a.2.1.2.1,a.2.1.2.2.1,()),()))))
def gJ(x:((List Sb)×ah)×jm×ah)(a:(Int×Int×Int×Int×ah)×pP×pO×(List kY)×(List eF)×ah):Option (((Int×Int×Int×Int×ah)×pP×pO×(List kY)×(List eF)×ah)⊕(Nat×(Int×Int×Int×Int×ah)×pP×pO×(List kY)×(List eF)×ah)) :=
 av (cW a.1.2.2.2.1<|len x.1.1)
 (ab (idx x.1.1 a.1.2.2.2.1) λc=>ab (bQ ((a.1.2.2.1,c,()),(a.2.2.1.1,a.2.2.1.2.1,a.2.2.2.2.1,()),())) λb=>av (nt<|aQ b.1.2.1 0)
 (some<|Sum.inr (1,((0:Int),b.1.2.1,a.1.2.2.1,a.1.2.2.2.1,()),((),(),a.2.1.2.2),(b.2.1.1,b.2.1.2.1,(),()),a.2.2.2.1,b.2.1.2.2.1,()))
 (some<|Sum.inl ((a.1.1,a.1.2.1,b.1.1,aK i64 a.1.2.2.2.1 1,()),((),(),a.2.1.2.2),(b.2.1.1,b.2.1.2.1,(),()),a.2.2.2.1,b.2.1.2.2.1,())))
 (some<|Sum.inr (0,(a.1.1,a.1.2.1,a.1.2.2.1,a.1.2.2.2.1,()),((),(),a.2.1.2.2),(a.2.2.1.1,a.2.2.1.2.1,(),a.2.2.1.2.2.2),a.2.2.2.1,a.2.2.2.2.1,()))
def gS(x:((List Sb)×ah)×jm×ah):Option (il×jm×ah) :=
 ab (Loop (gJ x) (((0:Int),(0:Int),(1:Int),(0:Int),()),((),(),()),(x.2.1.1.1,x.2.1.1.2.1,(),()),x.2.1.2.1,x.2.1.1.2.2.1,())) (λa=>av (n9 a.1 0)
 (some ((a.2.1.2.2.1,(0:Int),()),((a.2.2.2.1.1,a.2.2.2.1.2.1,a.2.2.2.2.2.1,()),a.2.2.2.2.1,()),()))
 (some ((a.2.1.1,a.2.1.2.1,()),((a.2.2.2.1.1,a.2.2.2.1.2.1,a.2.2.2.2.2.1,()),a.2.2.2.2.1,()),())))
def pU(b:(eF×Bool×ah)×jR×ah)(a:mZ×(List Sb)×ah):Option ((mZ×(List Sb)×ah)⊕(mZ×(List Sb)×ah)) :=
 fh (av (cW a.1.2.1<|len b.1.1.2.2.2.2.2.1)
 (ab (idx b.1.1.2.2.2.2.2.1 a.1.2.1) λc=>av (fits<|plus (len a.2.1)<|len ([c.1]:List Sb))
 (some<|Sum.inl (((),aK i64 a.1.2.1 1,()),app a.2.1 ([c.1]:List Sb),()))
 none)
 (some<|Sum.inr (0,((),a.1.2.1,()),a.2.1,())))
def na(x:(Int×ah)×jR×ah):Option (((List Sb)×Int×ah)×jR×ah) :=
 ab (bh ((x.1.1,()),(x.2.1.1,x.2.1.2.1,x.2.1.2.2.1,()),())) (λa=>av (nt a.1.2.1)
 (some ((([]:List Sb),(3:Int),()),(a.2.1.1,a.2.1.2.1,a.2.1.2.2.1,()),()))
 (av (nt a.1.1.2.1)
 (some ((([]:List Sb),(12:Int),()),(a.2.1.1,a.2.1.2.1,a.2.1.2.2.1,()),()))
 (ab (Loop (pU a) (((),(0:Int),()),([]:List Sb),())) λb=>some ((b.2.1,(0:Int),()),(a.2.1.1,a.2.1.2.1,a.2.1.2.2.1,()),()))))
def su(x:(Int×ah)×jm×ah)(a:il×ah):Option ((il×ah)⊕(il×ah)) :=
 fh (av (cW a.1.2.1<|len x.2.1.2.1)
 (av (within a.1.2.1<|len x.2.1.2.1)
 (ab (idx x.2.1.2.1 a.1.2.1) λb=>some (Sum.inl ((((av (aQ b.1 x.1.1)
 ((aK i64 a.1.1 1,()),())
 ((a.1.1,()),())).1).1,aK i64 a.1.2.1 1,()),())))
 none)
 (some<|Sum.inr (0,(a.1.1,a.1.2.1,()),())))
def jH(x:(Int×ah)×jm×ah):Option ((Int×ah)×jm×ah) :=
 ab (Loop (su x) (((0:Int),(0:Int),()),())) (λa=>some ((a.1.1,()),((x.2.1.1.1,x.2.1.1.2.1,x.2.1.1.2.2.1,()),x.2.1.2.1,()),()))
def cJ(x:(Sb×ah)×jm×ah):Option DT :=
 ab (ib (x.1.1,())) (λa=>av (aQ (len a.1) 0)
 (some (((0:Int),([]:aE),(1:Int),()),((x.2.1.1.1,x.2.1.1.2.1,x.2.1.1.2.2.1,()),x.2.1.2.1,()),()))
 (av (inside 0 (dC i64 (len a.1) 1)<|len a.1)
 (ab (gS ((sub a.1 (0:Int)<|minus (dC i64 (len a.1) 1) 0,()),((x.2.1.1.1,x.2.1.1.2.1,x.2.1.1.2.2.1,()),x.2.1.2.1,()),())) λb=>ab (idx a.1<|dC i64 (len a.1) 1) λc=>some ((b.1.1,c,b.1.2.1,()),((b.2.1.1.1,b.2.1.1.2.1,b.2.1.1.2.2.1,()),b.2.1.2.1,()),()))
 none))
def jI(x:eF×ns×ah)(a:(Int×ah)×ah):Option (((Int×ah)×ah)⊕((Int×ah)×ah)) :=
 fh (av (cW a.1.1<|len x.1.2.2.2.2.2.1)
 (ab (idx x.1.2.2.2.2.2.1 a.1.1) λb=>av (LN b.1 x.2.1.1)
 (some<|Sum.inl ((aK i64 a.1.1 1,()),()))
 (some<|Sum.inr (0,(a.1.1,()),())))
 (some<|Sum.inr (0,(a.1.1,()),())))
def gK(x:eF×ns×ah):Option (eF×ah) :=
 ab (Loop (jI x) (((0:Int),()),())) (λa=>av (inside 0 a.1.1<|len x.1.2.2.2.2.2.1)
 (av (fits<|plus (len ([]:List ns))<|len<|sub x.1.2.2.2.2.2.1 (0:Int)<|minus a.1.1 0)
 (av (fits<|plus (len<|app ([]:List ns)<|sub x.1.2.2.2.2.2.1 (0:Int)<|minus a.1.1 0)<|len ([x.2.1]:List ns))
 (av (inside a.1.1 (len x.1.2.2.2.2.2.1)<|len x.1.2.2.2.2.2.1)
 (av (fits<|plus (len<|app (app ([]:List ns)<|sub x.1.2.2.2.2.2.1 (0:Int)<|minus a.1.1 0) ([x.2.1]:List ns))<|len<|sub x.1.2.2.2.2.2.1 a.1.1<|minus (len x.1.2.2.2.2.2.1) a.1.1)
 (some ((x.1.1,x.1.2.1,x.1.2.2.1,x.1.2.2.2.1,x.1.2.2.2.2.1,app (app (app ([]:List ns)<|sub x.1.2.2.2.2.2.1 (0:Int)<|minus a.1.1 0) ([x.2.1]:List ns))<|sub x.1.2.2.2.2.2.1 a.1.1<|minus (len x.1.2.2.2.2.2.1) a.1.1,x.1.2.2.2.2.2.2),()))
 none)
 none)
 none)
 none)
 none)
def cD(x:(Int×Sb×Bool×ah)×jR×ah):Option (il×jR×ah) :=
 ab (cq ((x.1.1,x.1.2.1,()),(x.2.1.1,x.2.1.2.1,x.2.1.2.2.1,()),())) (λa=>av (nt<|aQ a.1.2.1 0)
 (some (((0:Int),a.1.2.1,()),(a.2.1.1,a.2.1.2.1,a.2.1.2.2.1,()),()))
 (ab (dW (a.1.1,x.1.2.1,())) λc=>av (cW 0 c.1)
 (some (((0:Int),(4:Int),()),(a.2.1.1,a.2.1.2.1,a.2.1.2.2.1,()),()))
 (av (oW 4096<|len a.2.1.2.2.1)
 (some (((0:Int),(5:Int),()),(a.2.1.1,a.2.1.2.1,a.2.1.2.2.1,()),()))
 (ab (cl ((a.2.1.1,a.2.1.2.1,a.2.1.2.2.1,()),())) λd=>av (cW a.2.1.1<|aK i64 d.1 64)
 (some (((0:Int),(6:Int),()),(a.2.1.1,a.2.1.2.1,a.2.1.2.2.1,()),()))
 (ab (gK (a.1.1,(x.1.2.1,a.2.1.2.1,()),())) λe=>ab (aW ((e.1,()),(a.2.1.1,aK i64 a.2.1.2.1 1,a.2.1.2.2.1,()),())) λb=>av (fits<|plus (len b.2.1.2.2.1)<|len ([(a.2.1.2.1,x.1.2.2.1,(1:Int),(0:Int),([]:aE),([]:List ns),())]:List eF))
 (some ((a.2.1.2.1,(0:Int),()),(b.2.1.1,b.2.1.2.1,app b.2.1.2.2.1 ([(a.2.1.2.1,x.1.2.2.1,(1:Int),(0:Int),([]:aE),([]:List ns),())]:List eF),()),()))
 none)))))
def sv(x:eF×Sb×ah)(a:mZ×(List ns)×ah):Option ((mZ×(List ns)×ah)⊕(mZ×(List ns)×ah)) :=
 fh (av (cW a.1.2.1<|len x.1.2.2.2.2.2.1)
 (ab (idx x.1.2.2.2.2.2.1 a.1.2.1) λc=>ab (av (nt<|ie c.1 x.2.1)
 (ab (idx x.1.2.2.2.2.2.1 a.1.2.1) λb=>av (fits<|plus (len a.2.1)<|len ([b]:List ns))
 (some (((),()),app a.2.1 ([b]:List ns),()))
 none)
 (some (((),()),a.2.1,()))) λb=>some (Sum.inl (((),aK i64 a.1.2.1 1,()),b.2.1,())))
 (some<|Sum.inr (0,((),a.1.2.1,()),a.2.1,())))
def gT(x:eF×Sb×ah):Option (eF×ah) :=
 ab (Loop (sv x) (((),(0:Int),()),([]:List ns),())) (λa=>some ((x.1.1,x.1.2.1,x.1.2.2.1,x.1.2.2.2.1,x.1.2.2.2.2.1,a.2.1,x.1.2.2.2.2.2.2),()))
def iP(x:(Int×Sb×ah)×jR×ah):Option tK :=
 ab (bQ ((x.1.1,x.1.2.1,()),(x.2.1.1,x.2.1.2.1,x.2.1.2.2.1,()),())) (λb=>av (nt<|aQ b.1.2.1 0)
 (some ((b.1.2.1,()),(b.2.1.1,b.2.1.2.1,b.2.1.2.2.1,()),()))
 (ab (bh ((b.1.1,()),(b.2.1.1,b.2.1.2.1,b.2.1.2.2.1,()),())) λa=>av (nt a.1.1.2.1)
 (some (((12:Int),()),(a.2.1.1,a.2.1.2.1,a.2.1.2.2.1,()),()))
 (av (cW 0<|len a.1.1.2.2.2.2.2.1)
 (some (((7:Int),()),(a.2.1.1,a.2.1.2.1,a.2.1.2.2.1,()),()))
 (ab (bh ((x.1.1,()),(a.2.1.1,a.2.1.2.1,a.2.1.2.2.1,()),())) λc=>ab (gT (c.1.1,x.1.2.1,())) λf=>ab (aW ((f.1,()),(c.2.1.1,c.2.1.2.1,c.2.1.2.2.1,()),())) λd=>ab (aW (((a.1.1.1,a.1.1.2.1,(0:Int),a.1.1.2.2.2),()),(d.2.1.1,d.2.1.2.1,d.2.1.2.2.1,()),())) λe=>some (((0:Int),()),(e.2.1.1,e.2.1.2.1,e.2.1.2.2.1,()),())))))
def iQ(x:(Int×Sb×ah)×jR×ah):Option tK :=
 ab (bQ ((x.1.1,x.1.2.1,()),(x.2.1.1,x.2.1.2.1,x.2.1.2.2.1,()),())) (λb=>av (nt<|aQ b.1.2.1 0)
 (some ((b.1.2.1,()),(b.2.1.1,b.2.1.2.1,b.2.1.2.2.1,()),()))
 (ab (bh ((b.1.1,()),(b.2.1.1,b.2.1.2.1,b.2.1.2.2.1,()),())) λa=>av a.1.1.2.1
 (some (((12:Int),()),(a.2.1.1,a.2.1.2.1,a.2.1.2.2.1,()),()))
 (ab (bh ((x.1.1,()),(a.2.1.1,a.2.1.2.1,a.2.1.2.2.1,()),())) λc=>ab (gT (c.1.1,x.1.2.1,())) λf=>ab (aW ((f.1,()),(c.2.1.1,c.2.1.2.1,c.2.1.2.2.1,()),())) λd=>ab (aW (((a.1.1.1,a.1.1.2.1,dC i64 a.1.1.2.2.1 1,a.1.1.2.2.2),()),(d.2.1.1,d.2.1.2.1,d.2.1.2.2.1,()),())) λe=>some (((0:Int),()),(e.2.1.1,e.2.1.2.1,e.2.1.2.2.1,()),()))))
def gL(x:(Int×ah)×jR×ah):Option tK :=
 ab (bP ((x.1.1,(0:Int),(0:Int),()),(x.2.1.1,x.2.1.2.1,x.2.1.2.2.1,()),())) (λa=>av (nt<|aQ a.1.2.1 0)
 (some ((a.1.2.1,()),(a.2.1.1,a.2.1.2.1,a.2.1.2.2.1,()),()))
 (av (oW 1048576 a.1.1.2.2.2.1)
 (some (((5:Int),()),(a.2.1.1,a.2.1.2.1,a.2.1.2.2.1,()),()))
 (ab (aW (((a.1.1.1,a.1.1.2.1,a.1.1.2.2.1,aK i64 a.1.1.2.2.2.1 1,a.1.1.2.2.2.2),()),(a.2.1.1,a.2.1.2.1,a.2.1.2.2.1,()),())) λb=>some (((0:Int),()),(b.2.1.1,b.2.1.2.1,b.2.1.2.2.1,()),()))))
def jo(x:il×jm×ah)(a:il×pP×pO×(List kY)×(List eF)×ah):Option ((il×pP×pO×(List kY)×(List eF)×ah)⊕(il×pP×pO×(List kY)×(List eF)×ah)) :=
 fh (av (cW a.1.2.1 8)
 (ab (gr ((x.1.1,a.1.1,()),((a.2.2.1.1,a.2.2.1.2.1,a.2.2.2.2.1,()),a.2.2.2.1,()),())) λb=>av (cW 0 b.1.1)
 (some<|Sum.inl ((aK i64 a.1.1 1,aK i64 a.1.2.1 1,()),((),(),()),(b.2.1.1.1,b.2.1.1.2.1,(),()),b.2.1.2.1,b.2.1.1.2.2.1,()))
 (some<|Sum.inr (0,(a.1.1,a.1.2.1,()),((),(),()),(b.2.1.1.1,b.2.1.1.2.1,(),()),b.2.1.2.1,b.2.1.1.2.2.1,())))
 (some<|Sum.inr (0,(a.1.1,a.1.2.1,()),((),(),a.2.1.2.2),(a.2.2.1.1,a.2.2.1.2.1,(),a.2.2.1.2.2.2),a.2.2.2.1,a.2.2.2.2.1,())))
def dc(x:il×jm×ah):Option (Aq×jm×ah) :=
 ab (gL ((x.1.2.1,()),(x.2.1.1.1,x.2.1.1.2.1,x.2.1.1.2.2.1,()),())) (λa=>av (nt<|aQ a.1.1 0)
 (some (((a.1.1,(0:Int),([]:aE),([]:List Sb),()),()),((a.2.1.1,a.2.1.2.1,a.2.1.2.2.1,()),x.2.1.2.1,()),()))
 (ab (Loop (jo x) (((1:Int),(0:Int),()),((),(),()),(a.2.1.1,a.2.1.2.1,(),()),x.2.1.2.1,a.2.1.2.2.1,())) λb=>av (fits<|plus (len b.2.2.2.1)<|len ([(x.1.1,b.1.1,x.1.2.1,())]:List kY))
 (some ((((0:Int),b.1.1,([]:aE),([]:List Sb),()),()),((b.2.2.1.1,b.2.2.1.2.1,b.2.2.2.2.1,()),app b.2.2.2.1 ([(x.1.1,b.1.1,x.1.2.1,())]:List kY),()),()))
 none))
def nc(x:(Int×Int×Sb×ah)×jR×ah):Option tK :=
 ab (bh ((x.1.1,()),(x.2.1.1,x.2.1.2.1,x.2.1.2.2.1,()),())) (λa=>av (nt a.1.2.1)
 (some (((3:Int),()),(a.2.1.1,a.2.1.2.1,a.2.1.2.2.1,()),()))
 (av a.1.1.2.1
 (some (((12:Int),()),(a.2.1.1,a.2.1.2.1,a.2.1.2.2.1,()),()))
 (ab (cq ((x.1.2.1,x.1.2.2.1,()),(a.2.1.1,a.2.1.2.1,a.2.1.2.2.1,()),())) λb=>av (nt<|aQ b.1.2.1 0)
 (some ((b.1.2.1,()),(b.2.1.1,b.2.1.2.1,b.2.1.2.2.1,()),()))
 (ab (dW (b.1.1,x.1.2.2.1,())) λe=>av (cW 0 e.1)
 (some (((4:Int),()),(b.2.1.1,b.2.1.2.1,b.2.1.2.2.1,()),()))
 (ab (gK (b.1.1,(x.1.2.2.1,x.1.1,()),())) λf=>ab (aW ((f.1,()),(b.2.1.1,b.2.1.2.1,b.2.1.2.2.1,()),())) λc=>ab (aW (((a.1.1.1,a.1.1.2.1,aK i64 a.1.1.2.2.1 1,a.1.1.2.2.2),()),(c.2.1.1,c.2.1.2.1,c.2.1.2.2.1,()),())) λd=>some (((0:Int),()),(d.2.1.1,d.2.1.2.1,d.2.1.2.2.1,()),()))))))
def kZ(x:(Int×Sb×Sb×ah)×jm×ah):Option (Aq×jm×ah) :=
 ab (bQ ((x.1.1,x.1.2.1,()),(x.2.1.1.1,x.2.1.1.2.1,x.2.1.1.2.2.1,()),())) (λb=>av (nt<|aQ b.1.2.1 0)
 (some (((b.1.2.1,(0:Int),([]:aE),([]:List Sb),()),()),((b.2.1.1,b.2.1.2.1,b.2.1.2.2.1,()),x.2.1.2.1,()),()))
 (ab (cJ ((x.1.2.2.1,()),((b.2.1.1,b.2.1.2.1,b.2.1.2.2.1,()),x.2.1.2.1,()),())) λa=>av (nt<|aQ a.1.2.2.1 0)
 (some (((a.1.2.2.1,(0:Int),([]:aE),([]:List Sb),()),()),((a.2.1.1.1,a.2.1.1.2.1,a.2.1.1.2.2.1,()),a.2.1.2.1,()),()))
 (ab (nc ((b.1.1,a.1.1,a.1.2.1,()),(a.2.1.1.1,a.2.1.1.2.1,a.2.1.1.2.2.1,()),())) λc=>some (((c.1.1,(0:Int),([]:aE),([]:List Sb),()),()),((c.2.1.1,c.2.1.2.1,c.2.1.2.2.1,()),a.2.1.2.1,()),()))))
def iR(x:(Int×Sb×Int×Sb×ah)×jR×ah):Option tK :=
 ab (bQ ((x.1.1,x.1.2.1,()),(x.2.1.1,x.2.1.2.1,x.2.1.2.2.1,()),())) (λc=>av (nt<|aQ c.1.2.1 0)
 (some ((c.1.2.1,()),(c.2.1.1,c.2.1.2.1,c.2.1.2.2.1,()),()))
 (ab (bh ((c.1.1,()),(c.2.1.1,c.2.1.2.1,c.2.1.2.2.1,()),())) λd=>av d.1.1.2.1
 (some (((12:Int),()),(d.2.1.1,d.2.1.2.1,d.2.1.2.2.1,()),()))
 (ab (cq ((x.1.2.2.1,x.1.2.2.2.1,()),(d.2.1.1,d.2.1.2.1,d.2.1.2.2.1,()),())) λb=>av (nt<|aQ b.1.2.1 0)
 (some ((b.1.2.1,()),(b.2.1.1,b.2.1.2.1,b.2.1.2.2.1,()),()))
 (ab (dW (b.1.1,x.1.2.2.2.1,())) λj=>av (aQ j.1 c.1.1)
 (some (((0:Int),()),(b.2.1.1,b.2.1.2.1,b.2.1.2.2.1,()),()))
 (ab (av (cW 0 j.1)
 (ab (bh ((j.1,()),(b.2.1.1,b.2.1.2.1,b.2.1.2.2.1,()),())) λa=>av a.1.1.2.1
 (some (1,((12:Int),()),(a.2.1.1,a.2.1.2.1,(),()),a.2.1.2.2.1,()))
 (ab (gT (b.1.1,x.1.2.2.2.1,())) λg=>ab (aW ((g.1,()),(a.2.1.1,a.2.1.2.1,a.2.1.2.2.1,()),())) λh=>ab (aW (((a.1.1.1,a.1.1.2.1,dC i64 a.1.1.2.2.1 1,a.1.1.2.2.2),()),(h.2.1.1,h.2.1.2.1,h.2.1.2.2.1,()),())) λe=>some (0,((0:Int),()),(e.2.1.1,e.2.1.2.1,(),()),e.2.1.2.2.1,())))
 (some (0,((0:Int),()),(b.2.1.1,b.2.1.2.1,(),()),b.2.1.2.2.1,()))) λa=>av (n9 a.1 0)
 (ab (bh ((x.1.1,()),(a.2.2.1.1,a.2.2.1.2.1,a.2.2.2.1,()),())) λg=>ab (gT (g.1.1,x.1.2.1,())) λh=>ab (aW ((h.1,()),(g.2.1.1,g.2.1.2.1,g.2.1.2.2.1,()),())) λe=>ab (bh ((x.1.2.2.1,()),(e.2.1.1,e.2.1.2.1,e.2.1.2.2.1,()),())) λi=>ab (gK (i.1.1,(x.1.2.2.2.1,c.1.1,()),())) λk=>ab (aW ((k.1,()),(i.2.1.1,i.2.1.2.1,i.2.1.2.2.1,()),())) λf=>some (((0:Int),()),(f.2.1.1,f.2.1.2.1,f.2.1.2.2.1,()),()))
 (some ((a.2.1.1,()),(a.2.2.1.1,a.2.2.1.2.1,a.2.2.2.1,()),())))))))
def bu(x:(Int×BV×ah)×jm×ah):Option (Aq×jm×ah) :=
 ab (fV (x.1.2.1,())) (λe=>av (nt e.1)
 (some ((((1:Int),(0:Int),([]:aE),([]:List Sb),()),()),((x.2.1.1.1,x.2.1.1.2.1,x.2.1.1.2.2.1,()),x.2.1.2.1,()),()))
 (av (((av (aQ x.1.2.1.1 5)
 ((aQ x.1.2.1.1 5,()),())
 ((((av (aQ x.1.2.1.1 6)
 ((aQ x.1.2.1.1 6,()),())
 ((((av (aQ x.1.2.1.1 7)
 ((aQ x.1.2.1.1 7,()),())
 ((((av (aQ x.1.2.1.1 8)
 ((aQ x.1.2.1.1 8,()),())
 ((aQ x.1.2.1.1 9,()),())).1).1,()),())).1).1,()),())).1).1,()),())).1).1)
 (ab (cC ((x.1.1,x.1.2.1,()),((x.2.1.1.1,x.2.1.1.2.1,x.2.1.1.2.2.1,()),x.2.1.2.1,()),())) λc=>some ((c.1.1,()),((c.2.1.1.1,c.2.1.1.2.1,c.2.1.1.2.2.1,()),c.2.1.2.1,()),()))
 (av (aQ x.1.2.1.1 13)
 (ab (ib (x.1.2.1.2.1,())) λc=>ab (gS ((c.1,()),((x.2.1.1.1,x.2.1.1.2.1,x.2.1.1.2.2.1,()),x.2.1.2.1,()),())) λa=>av (nt<|aQ a.1.2.1 0)
 (some (((a.1.2.1,(0:Int),([]:aE),([]:List Sb),()),()),((a.2.1.1.1,a.2.1.1.2.1,a.2.1.1.2.2.1,()),a.2.1.2.1,()),()))
 (ab (na ((a.1.1,()),(a.2.1.1.1,a.2.1.1.2.1,a.2.1.1.2.2.1,()),())) λb=>some (((b.1.2.1,(0:Int),([]:aE),b.1.1,()),()),((b.2.1.1,b.2.1.2.1,b.2.1.2.2.1,()),a.2.1.2.1,()),())))
 (av (av (nt<|aQ x.1.2.1.1 3)
 (aQ x.1.2.1.1 4)
 true)
 (ab (jH ((x.1.1,()),((x.2.1.1.1,x.2.1.1.2.1,x.2.1.1.2.2.1,()),x.2.1.2.1,()),())) λc=>av (oW 8 c.1.1)
 (some ((((5:Int),(0:Int),([]:aE),([]:List Sb),()),()),((c.2.1.1.1,c.2.1.1.2.1,c.2.1.1.2.2.1,()),c.2.1.2.1,()),()))
 (ab (cJ ((x.1.2.1.2.1,()),((c.2.1.1.1,c.2.1.1.2.1,c.2.1.1.2.2.1,()),c.2.1.2.1,()),())) λa=>av (nt<|aQ a.1.2.2.1 0)
 (some (((a.1.2.2.1,(0:Int),([]:aE),([]:List Sb),()),()),((a.2.1.1.1,a.2.1.1.2.1,a.2.1.1.2.2.1,()),a.2.1.2.1,()),()))
 (av (aQ x.1.2.1.1 1)
 (ab (cD ((a.1.1,a.1.2.1,true,()),(a.2.1.1.1,a.2.1.1.2.1,a.2.1.1.2.2.1,()),())) λb=>some (((b.1.2.1,(0:Int),([]:aE),([]:List Sb),()),()),((b.2.1.1,b.2.1.2.1,b.2.1.2.2.1,()),a.2.1.2.1,()),()))
 (av (aQ x.1.2.1.1 2)
 (ab (iP ((a.1.1,a.1.2.1,()),(a.2.1.1.1,a.2.1.1.2.1,a.2.1.1.2.2.1,()),())) λb=>some (((b.1.1,(0:Int),([]:aE),([]:List Sb),()),()),((b.2.1.1,b.2.1.2.1,b.2.1.2.2.1,()),a.2.1.2.1,()),()))
 (av (aQ x.1.2.1.1 11)
 (ab (iQ ((a.1.1,a.1.2.1,()),(a.2.1.1.1,a.2.1.1.2.1,a.2.1.1.2.2.1,()),())) λb=>some (((b.1.1,(0:Int),([]:aE),([]:List Sb),()),()),((b.2.1.1,b.2.1.2.1,b.2.1.2.2.1,()),a.2.1.2.1,()),()))
 (av (aQ x.1.2.1.1 3)
 (ab (cD ((a.1.1,a.1.2.1,false,()),(a.2.1.1.1,a.2.1.1.2.1,a.2.1.1.2.2.1,()),())) λb=>av (nt<|aQ b.1.2.1 0)
 (some (((b.1.2.1,(0:Int),([]:aE),([]:List Sb),()),()),((b.2.1.1,b.2.1.2.1,b.2.1.2.2.1,()),a.2.1.2.1,()),()))
 (ab (dc ((x.1.1,b.1.1,()),((b.2.1.1,b.2.1.2.1,b.2.1.2.2.1,()),a.2.1.2.1,()),())) λd=>some ((d.1.1,()),((d.2.1.1.1,d.2.1.1.2.1,d.2.1.1.2.2.1,()),d.2.1.2.1,()),())))
 (av (aQ x.1.2.1.1 4)
 (ab (bQ ((a.1.1,a.1.2.1,()),(a.2.1.1.1,a.2.1.1.2.1,a.2.1.1.2.2.1,()),())) λb=>av (nt<|aQ b.1.2.1 0)
 (some (((b.1.2.1,(0:Int),([]:aE),([]:List Sb),()),()),((b.2.1.1,b.2.1.2.1,b.2.1.2.2.1,()),a.2.1.2.1,()),()))
 (ab (dc ((x.1.1,b.1.1,()),((b.2.1.1,b.2.1.2.1,b.2.1.2.2.1,()),a.2.1.2.1,()),())) λd=>some ((d.1.1,()),((d.2.1.1.1,d.2.1.1.2.1,d.2.1.1.2.2.1,()),d.2.1.2.1,()),())))
 (av (aQ x.1.2.1.1 10)
 (ab (kZ ((a.1.1,a.1.2.1,x.1.2.1.2.2.1,()),((a.2.1.1.1,a.2.1.1.2.1,a.2.1.1.2.2.1,()),a.2.1.2.1,()),())) λb=>some ((b.1.1,()),((b.2.1.1.1,b.2.1.1.2.1,b.2.1.1.2.2.1,()),b.2.1.2.1,()),()))
 (ab (cJ ((x.1.2.1.2.2.1,()),((a.2.1.1.1,a.2.1.1.2.1,a.2.1.1.2.2.1,()),a.2.1.2.1,()),())) λb=>av (nt<|aQ b.1.2.2.1 0)
 (some (((b.1.2.2.1,(0:Int),([]:aE),([]:List Sb),()),()),((b.2.1.1.1,b.2.1.1.2.1,b.2.1.1.2.2.1,()),b.2.1.2.1,()),()))
 (ab (iR ((a.1.1,a.1.2.1,b.1.1,b.1.2.1,()),(b.2.1.1.1,b.2.1.1.2.1,b.2.1.1.2.2.1,()),())) λd=>some (((d.1.1,(0:Int),([]:aE),([]:List Sb),()),()),((d.2.1.1,d.2.1.2.1,d.2.1.2.2.1,()),b.2.1.2.1,()),())))))))))))
 (ab (cJ ((x.1.2.1.2.1,()),((x.2.1.1.1,x.2.1.1.2.1,x.2.1.1.2.2.1,()),x.2.1.2.1,()),())) λc=>av (nt<|aQ c.1.2.2.1 0)
 (some (((c.1.2.2.1,(0:Int),([]:aE),([]:List Sb),()),()),((c.2.1.1.1,c.2.1.1.2.1,c.2.1.1.2.2.1,()),c.2.1.2.1,()),()))
 (av (aQ x.1.2.1.1 1)
 (ab (cD ((c.1.1,c.1.2.1,true,()),(c.2.1.1.1,c.2.1.1.2.1,c.2.1.1.2.2.1,()),())) λa=>some (((a.1.2.1,(0:Int),([]:aE),([]:List Sb),()),()),((a.2.1.1,a.2.1.2.1,a.2.1.2.2.1,()),c.2.1.2.1,()),()))
 (av (aQ x.1.2.1.1 2)
 (ab (iP ((c.1.1,c.1.2.1,()),(c.2.1.1.1,c.2.1.1.2.1,c.2.1.1.2.2.1,()),())) λa=>some (((a.1.1,(0:Int),([]:aE),([]:List Sb),()),()),((a.2.1.1,a.2.1.2.1,a.2.1.2.2.1,()),c.2.1.2.1,()),()))
 (av (aQ x.1.2.1.1 11)
 (ab (iQ ((c.1.1,c.1.2.1,()),(c.2.1.1.1,c.2.1.1.2.1,c.2.1.1.2.2.1,()),())) λa=>some (((a.1.1,(0:Int),([]:aE),([]:List Sb),()),()),((a.2.1.1,a.2.1.2.1,a.2.1.2.2.1,()),c.2.1.2.1,()),()))
 (av (aQ x.1.2.1.1 3)
 (ab (cD ((c.1.1,c.1.2.1,false,()),(c.2.1.1.1,c.2.1.1.2.1,c.2.1.1.2.2.1,()),())) λa=>av (nt<|aQ a.1.2.1 0)
 (some (((a.1.2.1,(0:Int),([]:aE),([]:List Sb),()),()),((a.2.1.1,a.2.1.2.1,a.2.1.2.2.1,()),c.2.1.2.1,()),()))
 (ab (dc ((x.1.1,a.1.1,()),((a.2.1.1,a.2.1.2.1,a.2.1.2.2.1,()),c.2.1.2.1,()),())) λb=>some ((b.1.1,()),((b.2.1.1.1,b.2.1.1.2.1,b.2.1.1.2.2.1,()),b.2.1.2.1,()),())))
 (av (aQ x.1.2.1.1 4)
 (ab (bQ ((c.1.1,c.1.2.1,()),(c.2.1.1.1,c.2.1.1.2.1,c.2.1.1.2.2.1,()),())) λa=>av (nt<|aQ a.1.2.1 0)
 (some (((a.1.2.1,(0:Int),([]:aE),([]:List Sb),()),()),((a.2.1.1,a.2.1.2.1,a.2.1.2.2.1,()),c.2.1.2.1,()),()))
 (ab (dc ((x.1.1,a.1.1,()),((a.2.1.1,a.2.1.2.1,a.2.1.2.2.1,()),c.2.1.2.1,()),())) λb=>some ((b.1.1,()),((b.2.1.1.1,b.2.1.1.2.1,b.2.1.1.2.2.1,()),b.2.1.2.1,()),())))
 (av (aQ x.1.2.1.1 10)
 (ab (kZ ((c.1.1,c.1.2.1,x.1.2.1.2.2.1,()),((c.2.1.1.1,c.2.1.1.2.1,c.2.1.1.2.2.1,()),c.2.1.2.1,()),())) λa=>some ((a.1.1,()),((a.2.1.1.1,a.2.1.1.2.1,a.2.1.1.2.2.1,()),a.2.1.2.1,()),()))
 (ab (cJ ((x.1.2.1.2.2.1,()),((c.2.1.1.1,c.2.1.1.2.1,c.2.1.1.2.2.1,()),c.2.1.2.1,()),())) λa=>av (nt<|aQ a.1.2.2.1 0)
 (some (((a.1.2.2.1,(0:Int),([]:aE),([]:List Sb),()),()),((a.2.1.1.1,a.2.1.1.2.1,a.2.1.1.2.2.1,()),a.2.1.2.1,()),()))
 (ab (iR ((c.1.1,c.1.2.1,a.1.1,a.1.2.1,()),(a.2.1.1.1,a.2.1.1.2.1,a.2.1.1.2.2.1,()),())) λb=>some (((b.1.1,(0:Int),([]:aE),([]:List Sb),()),()),((b.2.1.1,b.2.1.2.1,b.2.1.2.2.1,()),a.2.1.2.1,()),()))))))))))))))
def ft(x:(Int×BV×ah)×H3×ah):Option (Aq×H3×ah) :=
 av (aQ x.1.2.1.1 14)
 (ab (nK ((),(((x.2.1.1.1.1,x.2.1.1.1.2.1,x.2.1.1.1.2.2.1,()),x.2.1.1.2.1,()),((x.2.1.2.1.1.1,x.2.1.2.1.1.2.1,x.2.1.2.1.1.2.2.1,()),x.2.1.2.1.2.1,()),x.2.1.2.2.1,()),())) λa=>some ((((0:Int),(0:Int),([]:aE),([]:List Sb),()),()),(((a.2.1.1.1.1,a.2.1.1.1.2.1,a.2.1.1.1.2.2.1,()),a.2.1.1.2.1,()),((a.2.1.2.1.1.1,a.2.1.2.1.1.2.1,a.2.1.2.1.1.2.2.1,()),a.2.1.2.1.2.1,()),a.2.1.2.2.1,()),()))
 (ab (bu ((x.1.1,x.1.2.1,()),((x.2.1.1.1.1,x.2.1.1.1.2.1,x.2.1.1.1.2.2.1,()),x.2.1.1.2.1,()),())) λa=>ab (av (av (aQ a.1.1.1 0)
 (nt<|av (nt<|av (nt<|aQ x.1.2.1.1 6)
 (aQ x.1.2.1.1 9)
 true)
 (aQ x.1.2.1.1 13)
 true)
 false)
 (av (fits<|plus (len x.2.1.2.2.1)<|len ([(x.1.1,false,x.1.2.1,())]:List (Int×Bool×BV×ah)))
 (some ((),((),(),(),()),((),(),()),((),(),()),app x.2.1.2.2.1 ([(x.1.1,false,x.1.2.1,())]:List (Int×Bool×BV×ah)),(a.2.1.1.1,a.2.1.1.2.1,(),()),a.2.1.2.1,(x.2.1.2.1.1.1,x.2.1.2.1.1.2.1,(),()),x.2.1.2.1.2.1,a.2.1.1.2.2.1,x.2.1.2.1.1.2.2.1,()))
 none)
 (some ((),((),(),(),()),((),(),()),((),(),()),x.2.1.2.2.1,(a.2.1.1.1,a.2.1.1.2.1,(),()),a.2.1.2.1,(x.2.1.2.1.1.1,x.2.1.2.1.1.2.1,(),()),x.2.1.2.1.2.1,a.2.1.1.2.2.1,x.2.1.2.1.1.2.2.1,()))) λb=>some ((a.1.1,()),(((b.2.2.2.2.2.1.1,b.2.2.2.2.2.1.2.1,b.2.2.2.2.2.2.2.2.2.1,()),b.2.2.2.2.2.2.1,()),((b.2.2.2.2.2.2.2.1.1,b.2.2.2.2.2.2.2.1.2.1,b.2.2.2.2.2.2.2.2.2.2.1,()),b.2.2.2.2.2.2.2.2.1,()),b.2.2.2.2.1,()),()))
def aG(x:(Int×BV×ah)×(H3×qC×ah)×ah):Option (Aq×(H3×qC×ah)×ah) :=
 ab (ew ((x.1.1,()),(x.2.1.2.1.1,x.2.1.2.1.2.1,()),())) (λb=>av (nt<|aQ b.1.2.1 0)
 (some ((((3:Int),(0:Int),([]:aE),([]:List Sb),()),()),((((x.2.1.1.1.1.1,x.2.1.1.1.1.2.1,x.2.1.1.1.1.2.2.1,()),x.2.1.1.1.2.1,()),((x.2.1.1.2.1.1.1,x.2.1.1.2.1.1.2.1,x.2.1.1.2.1.1.2.2.1,()),x.2.1.1.2.1.2.1,()),x.2.1.1.2.2.1,()),(b.2.1.1,b.2.1.2.1,()),()),()))
 (av (aQ x.1.2.1.1 15)
 (ab (mi ((x.1.2.1.2.2.2.2.2.2.2.1,x.1.2.1.2.2.2.2.2.2.2.2.1,()),(b.2.1.1,b.2.1.2.1,()),())) λa=>av a.1.1
 (some ((((0:Int),(1:Int),([]:aE),([]:List Sb),()),()),((((x.2.1.1.1.1.1,x.2.1.1.1.1.2.1,x.2.1.1.1.1.2.2.1,()),x.2.1.1.1.2.1,()),((x.2.1.1.2.1.1.1,x.2.1.1.2.1.1.2.1,x.2.1.1.2.1.1.2.2.1,()),x.2.1.1.2.1.2.1,()),x.2.1.1.2.2.1,()),(a.2.1.1,a.2.1.2.1,()),()),()))
 (some ((((0:Int),(0:Int),([]:aE),([]:List Sb),()),()),((((x.2.1.1.1.1.1,x.2.1.1.1.1.2.1,x.2.1.1.1.1.2.2.1,()),x.2.1.1.1.2.1,()),((x.2.1.1.2.1.1.1,x.2.1.1.2.1.1.2.1,x.2.1.1.2.1.1.2.2.1,()),x.2.1.1.2.1.2.1,()),x.2.1.1.2.2.1,()),(a.2.1.1,a.2.1.2.1,()),()),())))
 (ab (ft ((b.1.1,x.1.2.1,()),(((x.2.1.1.1.1.1,x.2.1.1.1.1.2.1,x.2.1.1.1.1.2.2.1,()),x.2.1.1.1.2.1,()),((x.2.1.1.2.1.1.1,x.2.1.1.2.1.1.2.1,x.2.1.1.2.1.1.2.2.1,()),x.2.1.1.2.1.2.1,()),x.2.1.1.2.2.1,()),())) λa=>some ((a.1.1,()),((((a.2.1.1.1.1,a.2.1.1.1.2.1,a.2.1.1.1.2.2.1,()),a.2.1.1.2.1,()),((a.2.1.2.1.1.1,a.2.1.2.1.1.2.1,a.2.1.2.1.1.2.2.1,()),a.2.1.2.1.2.1,()),a.2.1.2.2.1,()),(b.2.1.1,b.2.1.2.1,()),()),()))))
def gM(x:(Int×ah)×jm×ah)(a:(Int×ah)×eF×ah):Option (((Int×ah)×eF×ah)⊕(Nat×(Int×ah)×eF×ah)) :=
 av (cW a.1.1<|len x.2.1.1.2.2.1)
 (av (within a.1.1<|len x.2.1.1.2.2.1)
 (ab (idx x.2.1.1.2.2.1 a.1.1) λb=>av (aQ b.1 x.1.1)
 (av (within a.1.1<|len x.2.1.1.2.2.1)
 (ab (idx x.2.1.1.2.2.1 a.1.1) λc=>some (Sum.inr (1,(a.1.1,()),c,())))
 none)
 (some<|Sum.inl ((aK i64 a.1.1 1,()),a.2.1,())))
 none)
 (some<|Sum.inr (0,(a.1.1,()),a.2.1,()))
def gU(x:(Int×ah)×jm×ah):Option ((eF×ah)×jm×ah) :=
 ab (Loop (gM x) (((0:Int),()),((0:Int),false,(0:Int),(0:Int),([]:aE),([]:List ns),()),())) (λa=>av (n9 a.1 0)
 (some ((((0:Int),false,(0:Int),(0:Int),([]:aE),([]:List ns),()),()),((x.2.1.1.1,x.2.1.1.2.1,x.2.1.1.2.2.1,()),x.2.1.2.1,()),()))
 (some ((a.2.2.1,()),((x.2.1.1.1,x.2.1.1.2.1,x.2.1.1.2.2.1,()),x.2.1.2.1,()),())))
def dy(d:DT->Option H4)(x:(Int×Sb×Int×ah)×jm×ah)(f:(eF×ah)×jm×ah)(a:mZ×(List yg)×pP×pO×(List kY)×(List eF)×ah):Option ((mZ×(List yg)×pP×pO×(List kY)×(List eF)×ah)⊕(mZ×(List yg)×pP×pO×(List kY)×(List eF)×ah)) :=
 fh (av (av (cW a.1.2.1<|len f.1.1.2.2.2.2.2.1)
 (cW x.1.2.2.1 40)
 false)
 (ab (idx f.1.1.2.2.2.2.2.1 a.1.2.1) λg=>ab (gU ((g.2.1,()),((a.2.2.2.1.1,a.2.2.2.1.2.1,a.2.2.2.2.2.1,()),a.2.2.2.2.1,()),())) λb=>ab (idx f.1.1.2.2.2.2.2.1 a.1.2.1) λh=>ab (mu (x.1.2.1,h.1,())) λe=>av (fits<|plus (len a.2.1)<|len ([(e.1,b.1.1.2.1,b.1.1.2.2.2.2.1,())]:List yg))
 (ab (d ((b.1.1.1,e.1,aK i64 x.1.2.2.1 1,()),((b.2.1.1.1,b.2.1.1.2.1,b.2.1.1.2.2.1,()),b.2.1.2.1,()),())) λc=>av (fits<|plus (len<|app a.2.1 ([(e.1,b.1.1.2.1,b.1.1.2.2.2.2.1,())]:List yg))<|len c.1.1)
 (some<|Sum.inl (((),aK i64 a.1.2.1 1,()),app (app a.2.1 ([(e.1,b.1.1.2.1,b.1.1.2.2.2.2.1,())]:List yg)) c.1.1,((),(),()),(c.2.1.1.1,c.2.1.1.2.1,(),()),c.2.1.2.1,c.2.1.1.2.2.1,()))
 none)
 none)
 (some<|Sum.inr (0,((),a.1.2.1,()),a.2.1,((),(),a.2.2.1.2.2),(a.2.2.2.1.1,a.2.2.2.1.2.1,(),a.2.2.2.1.2.2.2),a.2.2.2.2.1,a.2.2.2.2.2.1,())))
def dL(a:DT->Option H4)(x:(Int×Sb×Int×ah)×jm×ah):Option H4 :=
 ab (gU ((x.1.1,()),((x.2.1.1.1,x.2.1.1.2.1,x.2.1.1.2.2.1,()),x.2.1.2.1,()),())) (λb=>ab (Loop (dy a x b) (((),(0:Int),()),([]:List yg),((),(),()),(b.2.1.1.1,b.2.1.1.2.1,(),()),b.2.1.2.1,b.2.1.1.2.2.1,())) λc=>some ((c.2.1,()),((c.2.2.2.1.1,c.2.2.2.1.2.1,c.2.2.2.2.2.1,()),c.2.2.2.2.1,()),()))
def cb:Nat->DT->Option H4
 | 0,_=>none
 | k+1,x=>dL (cb k) x
def jd(x:DT):Option H4:=cb 64 x
theorem pV(x:DT):cb 0 x=none:=rfl
theorem pW(k:Nat)(x:DT)(y)(h:cb (k+1) x=some y):dL (cb k) x=some y:=h
theorem qD(x:DT)(y)(h:jd x=some y):∃k,cb k x=some y:=⟨64,h⟩
def je(x:ah×jm×ah):Option H4 :=
 ab (jd (((1:Int),([]:aE),(0:Int),()),((x.2.1.1.1,x.2.1.1.2.1,x.2.1.1.2.2.1,()),x.2.1.2.1,()),())) (λa=>some ((a.1.1,()),((a.2.1.1.1,a.2.1.1.2.1,a.2.1.1.2.2.1,()),a.2.1.2.1,()),()))
end Go.Ge
namespace Go.Ge
variable [Lp]
set_option maxRecDepth 100000
abbrev Mr:=(Bool×(List<|(Int×Sb×Sb×Int×Int×Int×Sb×Int×Int×ah)×(Int×Int×Sb×(List Sb)×ah)×ah)×Int×Bool×Bool×(Int×Sb×Sb×Int×Int×Int×Sb×Int×Int×ah)×ah)
def pz(x:Int×ah):Option (Sb×ah) :=
 ab (qz (x.1,())) (λa=>some (a.1,()))
def jf(x:(List<|Int)×Int×ah)(a:(Int×Int×ah)×ah):Option (((Int×Int×ah)×ah)⊕(Nat×(Int×Int×ah)×ah)) :=
 av (cW a.1.2.1<|len x.1)
 (ab (idx x.1 a.1.2.1) λb=>av (aQ x.2.1 b)
 (some<|Sum.inr (1,(a.1.2.1,a.1.2.1,()),()))
 (some<|Sum.inl ((a.1.1,aK i64 a.1.2.1 1,()),())))
 (some<|Sum.inr (0,(a.1.1,a.1.2.1,()),()))
def eX(x:(List<|Int)×Int×ah):Option (Int×ah) :=
 ab (Loop (jf x) (((0:Int),(0:Int),()),())) (λa=>av (n9 a.1 0)
 (some ((-1:Int),()))
 (some (a.2.1.1,())))
def cK(x:(List<|Int)×Int×ah):Option (Bool×ah) :=
 ab (eX (x.1,x.2.1,())) (λa=>some (oW 0 a.1,()))
def iS(x:((Int×Sb×Sb×Int×Int×Int×Sb×Int×Int×ah)×(List<|Int)×ah)×Mr×ah):Option (((Int×Int×Sb×(List Sb)×ah)×Int×ah)×Mr×ah) :=
 ab (gl ((x.1.1,()),(x.2.1.1,x.2.1.2.1,x.2.1.2.2.1,x.2.1.2.2.2.1,x.2.1.2.2.2.2.1,x.2.1.2.2.2.2.2.1,()),())) (λa=>ab (cK (x.1.2.1,a.1.1.1,())) λb=>av b.1
 (some ((a.1.1,(0:Int),()),(a.2.1.1,a.2.1.2.1,a.2.1.2.2.1,a.2.1.2.2.2.1,a.2.1.2.2.2.2.1,a.2.1.2.2.2.2.2.1,()),()))
 (some ((a.1.1,a.1.1.1,()),(a.2.1.1,a.2.1.2.1,a.2.1.2.2.1,a.2.1.2.2.2.1,a.2.1.2.2.2.2.1,a.2.1.2.2.2.2.2.1,()),())))
def jg(x:((Int×Sb×Sb×Int×Int×Int×Sb×Int×Int×ah)×ah)×Mr×ah):Option ((Bool×ah)×Mr×ah) :=
 ab (iS ((x.1.1,([]:List (Int)),()),(x.2.1.1,x.2.1.2.1,x.2.1.2.2.1,x.2.1.2.2.2.1,x.2.1.2.2.2.2.1,x.2.1.2.2.2.2.2.1,()),())) (λa=>some ((aQ a.1.2.1 14,()),(a.2.1.1,a.2.1.2.1,a.2.1.2.2.1,a.2.1.2.2.2.1,a.2.1.2.2.2.2.1,a.2.1.2.2.2.2.2.1,()),()))
end Go.Ge
