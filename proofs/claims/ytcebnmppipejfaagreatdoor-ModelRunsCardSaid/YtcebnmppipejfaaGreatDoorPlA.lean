import Derived.Test.YtcebnmppipejfaaGreatDoorGeI
import Derived.Lib.Repeat
set_option linter.unusedSectionVars false
set_option linter.unusedVariables false
set_option linter.unusedSimpArgs false
set_option linter.defProp false
noncomputable section
open Option renaming some->aa,none->af
open Sum renaming inl->aG,inr->aH
open Go.IntKind (i64 u32)
namespace Go.Ge
abbrev Sb:=bj
variable [Lp]
def fv:(Ty.pair .str<|.pair (.int .u8) .unit).den->Option (Ty.pair (.int .i64) .unit).den:=λx=>aa (Lib.indexByte x.1 (show Int from x.2.1).toNat.toUInt8,())
def gf(s:bj)(c:Int):Option bj:=if c<0\/140737488355328<s.length*c.toNat then af else aa (Lib.repeatL s c.toNat)
def pv:bj×Int×al->Option (bj×al):=λx=>(gf x.1 x.2.1).map λy=>(y,())
def uA{s:bj}{c:Int}{y:bj}(h:gf s c=aa y):0<=c/\s.length*c.toNat<=140737488355328/\y=Lib.repeatL s c.toNat:=by
 unfold gf at h;split at h
 .cases h
 next a =>
 have:=aU h;exact⟨ai,ai,this.symm⟩
def Ev{s:bj}{c:Int}{y:bj}(h:gf s c=aa y):y.length<=maxLen:=by obtain⟨_,a,rfl⟩:=uA h;rw[Lib.repeatL_length,Yk];exact gS a aI
def wK:bj×bj×al->Option ((List bj)×al):=λx=>(FP x.1 x.2.1).map λy=>(y,())
def lf:(List bj)×bj×al->Option (bj×al):=λx=>(HM x.1 x.2.1).map λy=>(y,())
set_option maxRecDepth 100000
abbrev HN:=((Bool×(List<|Int)×al)×(List<|Int)×Int×al)
abbrev QC:=(((Int×al)×(List<|Int)×al)⊕((Int×al)×(List<|Int)×al))
abbrev alq:=(Int×Int×Int×Int×Int×Int×Int×Int×Int×al)
abbrev WA:=((List<|Int)×al)
def vY(x:al):Option WA :=aa ([(1779033703:Int),3144134277,1013904242,2773480762,1359893119,2600822924,528734635,1541459225],())
def Ew(x:al):Option WA :=aa ([(1116352408:Int),1899447441,3049323471,3921009573,961987163,1508970993,2453635748,2870763221,3624381080,310598401,607225278,1426881987,1925078388,2162078206,2614888103,3248222580,3835390401,4022224774,264347078,604807628,770255983,1249150122,1555081692,1996064986,2554220882,2821834349,2952996808,3210313671,3336571891,3584528711,113926993,338241895,666307205,773529912,1294757372,1396182291,1695183700,1986661051,2177026350,2456956037,2730485921,2820302411,3259730800,3345764771,3516065817,3600352804,4094571909,275423344,430227734,506948616,659060556,883997877,958139571,1322822218,1537002063,1747873779,1955562222,2024104815,2227730452,2361852424,2428436474,2756734187,3204031479,3329325298],())
def kp(x:Int×Int×al):Option (Int×al) :=
 ao (ba (gT IntKind.u64 (kg IntKind.u64 x.2.1) 31) 0) af (ao (ba (cR IntKind.u64 32<|gT IntKind.u64 (kg IntKind.u64 x.2.1) 31) 0)
 af (aa (B6 u32 (om u32 x.1<|gT IntKind.u64 (kg IntKind.u64 x.2.1) 31)<|jv u32 x.1<|cR IntKind.u64 32<|gT IntKind.u64 (kg IntKind.u64 x.2.1) 31,())))
def cl(x:Int×Int×al):Option (Int×al) :=ae (kp (x.1,cR i64 0 x.2.1,())) (λa=>aa (a.1,()))
def jS(x:(List<|Int)×al)(a:(Int×al)×(List<|Int)×al)(b:(Int×al)×(List<|Int)×al):Option QC :=
 cf (ao (ba b.1.1<|minus (aC i64 (jt i64 4 a.1.1) 4)<|jt i64 4 a.1.1)
 (ao (within b.1.1<|minus (aC i64 (jt i64 4 a.1.1) 4)<|jt i64 4 a.1.1)
 (ae (idx x.1<|plus (jt i64 4 a.1.1) b.1.1) λc=>ao (within a.1.1 64)
 (ae (idx b.2.1 a.1.1) λd=>ao (ba 8 0)
 af (ao (within a.1.1 64)
 (ae (idx b.2.1 a.1.1) λe=>ae (idx b.2.1 a.1.1) λf=>ae (idx b.2.1 a.1.1) λg=>aa (aG ((aC i64 b.1.1 1,()),oo b.2.1 a.1.1<|B6 u32 (om u32 d 8)<|kg u32 c,()))) af))
 af)
 af)
 (aa<|aH (0,(b.1.1,()),b.2.1,())))
def nQ(x:(List<|Int)×al)(a:(Int×al)×(List<|Int)×al):Option QC :=
 cf (ao (ba a.1.1 16)
 (ao (inside (jt i64 4 a.1.1) (aC i64 (jt i64 4 a.1.1) 4) 64)
 (ae (Loop (jS x a) ((0,()),a.2.1,())) λb=>aa (aG ((aC i64 a.1.1 1,()),b.2.1,()))) af)
 (aa<|aH (0,(a.1.1,()),a.2.1,())))
def nR(a:(Int×al)×(List<|Int)×al):Option QC :=
 cf (ao (ba a.1.1 64)
 (ao (within (cR i64 a.1.1 2) 64)
 (ae (idx a.2.1<|cR i64 a.1.1 2) λb=>ao (within (cR i64 a.1.1 15) 64)
 (ae (idx a.2.1<|cR i64 a.1.1 15) λc=>ae (cl (c,7,())) λe=>ae (cl (c,18,())) λf=>ao (ba 3 0)
 af (ae (cl (b,17,())) λg=>ae (cl (b,19,())) λh=>ao (ba 10 0)
 af (ao (within (cR i64 a.1.1 7) 64)
 (ae (idx a.2.1<|cR i64 a.1.1 7) λi=>ao (within (cR i64 a.1.1 16) 64)
 (ae (idx a.2.1<|cR i64 a.1.1 16) λd=>ao (within a.1.1 64)
 (ae (idx a.2.1 a.1.1) λj=>ae (idx a.2.1 a.1.1) λk=>ae (idx a.2.1 a.1.1) λl=>aa (aG ((aC i64 a.1.1 1,()),oo a.2.1 a.1.1<|aC u32 (aC u32 (aC u32 (gD u32 (gD u32 g.1 h.1)<|jv u32 b 10) i)<|gD u32 (gD u32 e.1 f.1)<|jv u32 c 3) d,()))) af)
 af)
 af)))
 af)
 af)
 (aa<|aH (0,(a.1.1,()),a.2.1,())))
def tg(x:(List<|Int)×al):Option WA :=ae (Loop (nQ x) ((0,()),[(0:Int),0,0,0,0,0,0,0,0,0,0,0,0,0,0,0,0,0,0,0,0,0,0,0,0,0,0,0,0,0,0,0,0,0,0,0,0,0,0,0,0,0,0,0,0,0,0,0,0,0,0,0,0,0,0,0,0,0,0,0,0,0,0,0],())) (λa=>ae (Loop (nR) ((16,()),a.2.1,())) λb=>aa (b.2.1,()))
def kI(j:(List<|Int)×al)(k:(List<|Int)×al)(a:alq×al):Option ((alq×al)⊕(alq×al)) :=
 cf (ao (ba a.1.2.2.2.2.2.2.2.2.1 64)
 (ae (cl (a.1.2.2.2.2.1,6,())) λb=>ae (cl (a.1.2.2.2.2.1,11,())) λc=>ae (cl (a.1.2.2.2.2.1,25,())) λd=>ao (within a.1.2.2.2.2.2.2.2.2.1 64)
 (ae (idx j.1 a.1.2.2.2.2.2.2.2.2.1) λe=>ao (within a.1.2.2.2.2.2.2.2.2.1 64)
 (ae (idx k.1 a.1.2.2.2.2.2.2.2.2.1) λf=>ae (cl (a.1.1,2,())) λg=>ae (cl (a.1.1,13,())) λh=>ae (cl (a.1.1,22,())) λi=>aa (aG ((aC u32 (aC u32 (aC u32 (aC u32 (aC u32 a.1.2.2.2.2.2.2.2.1<|gD u32 (gD u32 b.1 c.1) d.1)<|gD u32 a.1.2.2.2.2.2.2.1<|gT u32 a.1.2.2.2.2.1<|gD u32 a.1.2.2.2.2.2.1 a.1.2.2.2.2.2.2.1) e) f)<|aC u32 (gD u32 (gD u32 g.1 h.1) i.1)<|B6 u32 (gT u32 a.1.1 a.1.2.1)<|gT u32 a.1.2.2.1<|B6 u32 a.1.1 a.1.2.1,a.1.1,a.1.2.1,a.1.2.2.1,aC u32 a.1.2.2.2.1<|aC u32 (aC u32 (aC u32 (aC u32 a.1.2.2.2.2.2.2.2.1<|gD u32 (gD u32 b.1 c.1) d.1)<|gD u32 a.1.2.2.2.2.2.2.1<|gT u32 a.1.2.2.2.2.1<|gD u32 a.1.2.2.2.2.2.1 a.1.2.2.2.2.2.2.1) e) f,a.1.2.2.2.2.1,a.1.2.2.2.2.2.1,a.1.2.2.2.2.2.2.1,aC i64 a.1.2.2.2.2.2.2.2.2.1 1,()),()))) af)
 af)
 (aa<|aH (0,(a.1.1,a.1.2.1,a.1.2.2.1,a.1.2.2.2.1,a.1.2.2.2.2.1,a.1.2.2.2.2.2.1,a.1.2.2.2.2.2.2.1,a.1.2.2.2.2.2.2.2.1,a.1.2.2.2.2.2.2.2.2.1,()),())))
def hM(b:alq×al)(a:(Int×al)×HN×al):Option (((Int×al)×HN×al)⊕((Int×al)×HN×al)) :=
 cf (ao (ba a.1.1 8)
 (ae (idx [b.1.1,b.1.2.1,b.1.2.2.1,b.1.2.2.2.1,b.1.2.2.2.2.1,b.1.2.2.2.2.2.1,b.1.2.2.2.2.2.2.1,b.1.2.2.2.2.2.2.2.1] a.1.1) λc=>ao (within a.1.1 8)
 (ae (idx a.2.1.1.2.1 a.1.1) λd=>ao (within a.1.1 8)
 (ae (idx a.2.1.1.2.1 a.1.1) λe=>ae (idx a.2.1.1.2.1 a.1.1) λf=>ae (idx a.2.1.1.2.1 a.1.1) λg=>aa (aG ((aC i64 a.1.1 1,()),((a.2.1.1.1,oo a.2.1.1.2.1 a.1.1<|aC u32 d c,a.2.1.1.2.2),a.2.1.2),()))) af)
 af)
 (aa<|aH (0,(a.1.1,()),a.2.1,())))
def fK(a:(Sb×al)×HN×al):Option (((Sb×al)×HN×al)⊕((Sb×al)×HN×al)) :=
 cf (ao (nt<|bA a.1.1 [])
 (ao (aR 64 0)
 af (ao (inside (fX a.2.1.2.2.1 64) 64 64)
 (ao (inside (len<|@kD Int (aB a.1.1)<|minus 64<|fX a.2.1.2.2.1 64) (len a.1.1)<|len a.1.1)
 (ae (ao (aR (aC i64 (fX a.2.1.2.2.1 64)<|len<|@kD Int (aB a.1.1)<|minus 64<|fX a.2.1.2.2.1 64) 64)
 (ae (ao (nt a.2.1.1.1)
 (ae (vY ()) λb=>aa ((),((true,b.1,a.2.1.1.2.2),over a.2.1.2.1 (fX a.2.1.2.2.1 64)<|@kD Int (aB a.1.1)<|minus 64<|fX a.2.1.2.2.1 64,aC i64 a.2.1.2.2.1<|len<|@kD Int (aB a.1.1)<|minus 64<|fX a.2.1.2.2.1 64,a.2.1.2.2.2),())) (aa ((),(a.2.1.1,over a.2.1.2.1 (fX a.2.1.2.2.1 64)<|@kD Int (aB a.1.1)<|minus 64<|fX a.2.1.2.2.1 64,aC i64 a.2.1.2.2.1<|len<|@kD Int (aB a.1.1)<|minus 64<|fX a.2.1.2.2.1 64,a.2.1.2.2.2),()))) λb=>ae (Ew ()) λh=>ae (tg (over a.2.1.2.1 (fX a.2.1.2.2.1 64)<|@kD Int (aB a.1.1)<|minus 64<|fX a.2.1.2.2.1 64,())) λi=>ao (within 0 8)
 (ae (idx b.2.1.1.2.1 0) λj=>ao (within 1 8)
 (ae (idx b.2.1.1.2.1 1) λk=>ao (within 2 8)
 (ae (idx b.2.1.1.2.1 2) λl=>ao (within 3 8)
 (ae (idx b.2.1.1.2.1 3) λm=>ao (within 4 8)
 (ae (idx b.2.1.1.2.1 4) λn=>ao (within 5 8)
 (ae (idx b.2.1.1.2.1 5) λc=>ao (within 6 8)
 (ae (idx b.2.1.1.2.1 6) λd=>ao (within 7 8)
 (ae (idx b.2.1.1.2.1 7) λe=>ae (Loop (kI h i) ((j,k,l,m,n,c,d,e,0,()),())) λf=>ae (Loop (hM f) ((0,()),b.2.1,())) λg=>aa ((),g.2.1,())) af)
 af)
 af)
 af)
 af)
 af)
 af)
 af)
 (aa ((),(a.2.1.1,over a.2.1.2.1 (fX a.2.1.2.2.1 64)<|@kD Int (aB a.1.1)<|minus 64<|fX a.2.1.2.2.1 64,aC i64 a.2.1.2.2.1<|len<|@kD Int (aB a.1.1)<|minus 64<|fX a.2.1.2.2.1 64,a.2.1.2.2.2),()))) λb=>aa (aG ((sub a.1.1 (len<|@kD Int (aB a.1.1)<|minus 64<|fX a.2.1.2.2.1 64)<|minus (len a.1.1)<|len<|@kD Int (aB a.1.1)<|minus 64<|fX a.2.1.2.2.1 64,()),b.2.1,())))
 af)
 af))
 (aa<|aH (0,(a.1.1,()),a.2.1,())))
def gg(x:(Sb×al)×HN×al):Option (al×HN×al) :=ae (Loop (fK) ((x.1.1,()),x.2.1,())) (λa=>aa ((),a.2.1,()))
def eC(a:al×HN×al):Option ((al×HN×al)⊕(al×HN×al)) :=
 cf (ao (aR 64 0)
 af (ao (nt<|aR (fX a.2.1.2.2.1 64) 56)
 (ae (gg (([0],()),a.2.1,())) λb=>aa (aG ((),b.2.1,()))) (aa<|aH (0,(),a.2.1,()))))
def kJ(x:al×HN×al)(a:(Int×al)×(List<|Int)×al):Option QC :=
 cf (ao (ba a.1.1 8)
 (ao (ba (jt i64 8 a.1.1) 0)
 af (ao (within (cR i64 7 a.1.1) 8)
 (ae (idx a.2.1<|cR i64 7 a.1.1) λb=>ae (idx a.2.1<|cR i64 7 a.1.1) λc=>ae (idx a.2.1<|cR i64 7 a.1.1) λd=>aa (aG ((aC i64 a.1.1 1,()),oo a.2.1 (cR i64 7 a.1.1)<|kg IntKind.u8<|jv IntKind.u64 (jt IntKind.u64 (kg IntKind.u64<|((((((),x.2.1,()).2).1).2).2).1) 8)<|jt i64 8 a.1.1,()))) af))
 (aa<|aH (0,(a.1.1,()),a.2.1,())))
def kK(b:al×HN×al)(a:(Int×al)×(List<|Int)×al):Option QC :=
 cf (ao (ba a.1.1 32)
 (ao (aR 4 0)
 af (ao (within (KB i64 a.1.1 4) 8)
 (ae (idx b.2.1.1.2.1<|KB i64 a.1.1 4) λc=>ao (aR 4 0)
 af (ao (ba (cR i64 24<|jt i64 8<|fX a.1.1 4) 0)
 af (ao (within a.1.1 32)
 (ae (idx a.2.1 a.1.1) λd=>ae (idx a.2.1 a.1.1) λe=>ae (idx a.2.1 a.1.1) λf=>aa (aG ((aC i64 a.1.1 1,()),oo a.2.1 a.1.1<|kg IntKind.u8<|jv u32 c<|cR i64 24<|jt i64 8<|fX a.1.1 4,()))) af)))
 af))
 (aa<|aH (0,(a.1.1,()),a.2.1,())))
def pw(x:al×HN×al):Option (WA×HN×al) :=
 ae (gg ((br [(128:Int)],()),(((),x.2.1,()).2).1,())) (λa=>ae (Loop (eC) ((),a.2.1,())) λb=>ae (Loop (kJ x) ((0,()),[(0:Int),0,0,0,0,0,0,0],())) λc=>ao (inside 0 8 8)
 (ae (gg ((br<|sub c.2.1 0<|minus 8 0,()),b.2.1,())) λd=>ae (Loop (kK d) ((0,()),[(0:Int),0,0,0,0,0,0,0,0,0,0,0,0,0,0,0,0,0,0,0,0,0,0,0,0,0,0,0,0,0,0,0],())) λe=>aa ((e.2.1,()),x.2.1,())) af)
def FQ(x:Sb×al):Option WA :=ae (gg ((x.1,()),((false,[(0:Int),0,0,0,0,0,0,0],()),[(0:Int),0,0,0,0,0,0,0,0,0,0,0,0,0,0,0,0,0,0,0,0,0,0,0,0,0,0,0,0,0,0,0,0,0,0,0,0,0,0,0,0,0,0,0,0,0,0,0,0,0,0,0,0,0,0,0,0,0,0,0,0,0,0,0],0,()),())) (λa=>ae (pw ((),a.2.1,())) λb=>aa (b.1.1,()))
def AB(x:al):Option WA :=aa ([(1779033703:Int),3144134277,1013904242,2773480762,1359893119,2600822924,528734635,1541459225],())
def lg(a:(al×al)×(List<|Int)×al):Option (((al×al)×(List<|Int)×al)⊕((al×al)×(List<|Int)×al)) :=
 cf (ao (aR 64 0)
 af (ao (nt<|aR (fX (len a.2.1) 64) 56)
 (ao (fits<|plus (len a.2.1)<|len [(0:Int)])
 (aa<|aG (((),()),app a.2.1 [(0:Int)],())) af)
 (aa<|aH (0,((),()),a.2.1,()))))
def e9(x:Sb×al)(a:(al×Int×al)×(List<|Int)×al):Option (((al×Int×al)×(List<|Int)×al)⊕((al×Int×al)×(List<|Int)×al)) :=
 cf (ao (cm 0 a.1.2.1)
 (ao (ba (jt i64 8 a.1.2.1) 0)
 af (ao (fits<|plus (len a.2.1)<|len [kg IntKind.u8<|jv IntKind.u64 (jt IntKind.u64 (kg IntKind.u64<|len x.1) 8)<|jt i64 8 a.1.2.1])
 (aa<|aG (((),cR i64 a.1.2.1 1,()),app a.2.1 [kg IntKind.u8<|jv IntKind.u64 (jt IntKind.u64 (kg IntKind.u64<|len x.1) 8)<|jt i64 8 a.1.2.1],())) af))
 (aa<|aH (0,((),a.1.2.1,()),a.2.1,())))
def vh(x:Sb×al):Option (Sb×al) :=
 ao (fits<|len x.1) (ao (fits<|plus (len<|aB x.1)<|len [(128:Int)])
 (ae (Loop (lg) (((),()),app (aB x.1) [(128:Int)],())) λa=>ae (Loop (e9 x) (((),7,()),a.2.1,())) λb=>aa (br b.2.1,())) af)
 af
def cq(x:Int×Int×al):Option (Int×al) :=
 ao (ba x.2.1 0) af (ao (ba (cR i64 32 x.2.1) 0)
 af (aa (B6 u32 (jv u32 x.1 x.2.1)<|om u32 x.1<|cR i64 32 x.2.1,())))
def yD(x:al):Option WA :=aa ([(1116352408:Int),1899447441,3049323471,3921009573,961987163,1508970993,2453635748,2870763221,3624381080,310598401,607225278,1426881987,1925078388,2162078206,2614888103,3248222580,3835390401,4022224774,264347078,604807628,770255983,1249150122,1555081692,1996064986,2554220882,2821834349,2952996808,3210313671,3336571891,3584528711,113926993,338241895,666307205,773529912,1294757372,1396182291,1695183700,1986661051,2177026350,2456956037,2730485921,2820302411,3259730800,3345764771,3516065817,3600352804,4094571909,275423344,430227734,506948616,659060556,883997877,958139571,1322822218,1537002063,1747873779,1955562222,2024104815,2227730452,2361852424,2428436474,2756734187,3204031479,3329325298],())
def lh(x:(List<|Int)×Sb×al)(a:(Int×al)×(List<|Int)×al):Option QC :=
 cf (ao (ba a.1.1 16)
 (ae (idx x.2.1<|jt i64 4 a.1.1) λb=>ao (ba 24 0)
 af (ae (idx x.2.1<|aC i64 (jt i64 4 a.1.1) 1) λc=>ao (ba 16 0)
 af (ae (idx x.2.1<|aC i64 (jt i64 4 a.1.1) 2) λd=>ao (ba 8 0)
 af (ae (idx x.2.1<|aC i64 (jt i64 4 a.1.1) 3) λe=>ao (within a.1.1 64)
 (ae (idx a.2.1 a.1.1) λf=>ae (idx a.2.1 a.1.1) λg=>ae (idx a.2.1 a.1.1) λh=>aa (aG ((aC i64 a.1.1 1,()),oo a.2.1 a.1.1<|B6 u32 (B6 u32 (B6 u32 (om u32 (kg u32<|u8 b) 24)<|om u32 (kg u32<|u8 c) 16)<|om u32 (kg u32<|u8 d) 8)<|kg u32<|u8 e,()))) af))))
 (aa<|aH (0,(a.1.1,()),a.2.1,())))
def px(a:(Int×al)×(List<|Int)×al):Option QC :=
 cf (ao (ba a.1.1 64)
 (ao (within (cR i64 a.1.1 2) 64)
 (ae (idx a.2.1<|cR i64 a.1.1 2) λb=>ao (within (cR i64 a.1.1 15) 64)
 (ae (idx a.2.1<|cR i64 a.1.1 15) λc=>ae (cq (b,17,())) λe=>ae (cq (b,19,())) λf=>ao (ba 10 0)
 af (ao (within (cR i64 a.1.1 7) 64)
 (ae (idx a.2.1<|cR i64 a.1.1 7) λg=>ae (cq (c,7,())) λh=>ae (cq (c,18,())) λi=>ao (ba 3 0)
 af (ao (within (cR i64 a.1.1 16) 64)
 (ae (idx a.2.1<|cR i64 a.1.1 16) λd=>ao (within a.1.1 64)
 (ae (idx a.2.1 a.1.1) λj=>ae (idx a.2.1 a.1.1) λk=>ae (idx a.2.1 a.1.1) λl=>aa (aG ((aC i64 a.1.1 1,()),oo a.2.1 a.1.1<|aC u32 (aC u32 (aC u32 (gD u32 (gD u32 e.1 f.1)<|jv u32 b 10) g)<|gD u32 (gD u32 h.1 i.1)<|jv u32 c 3) d,()))) af)
 af))
 af))
 af)
 af)
 (aa<|aH (0,(a.1.1,()),a.2.1,())))
def lj(z:(Int×al)×(List<|Int)×al)(A:(List<|Int)×al)(a:(Int×al)×(List<|Int)×al):Option QC :=
 cf (ao (ba a.1.1 64)
 (ao (within 4 8)
 (ae (idx a.2.1 4) λb=>ao (within 0 8)
 (ae (idx a.2.1 0) λc=>ao (within 7 8)
 (ae (idx a.2.1 7) λw=>ae (cq (b,6,())) λx=>ae (cq (b,11,())) λy=>ae (cq (b,25,())) λd=>ao (within 5 8)
 (ae (idx a.2.1 5) λe=>ao (within 6 8)
 (ae (idx a.2.1 6) λf=>ao (within a.1.1 64)
 (ae (idx A.1 a.1.1) λg=>ao (within a.1.1 64)
 (ae (idx z.2.1 a.1.1) λh=>ae (cq (c,2,())) λi=>ae (cq (c,13,())) λj=>ae (cq (c,22,())) λk=>ao (within 1 8)
 (ae (idx a.2.1 1) λl=>ao (within 2 8)
 (ae (idx a.2.1 2) λm=>ao (within 1 8)
 (ae (idx a.2.1 1) λn=>ao (within 2 8)
 (ae (idx a.2.1 2) λo=>ao (within 0 8)
 (ae (idx a.2.1 0) λp=>ao (within 1 8)
 (ae (idx a.2.1 1) λq=>ao (within 2 8)
 (ae (idx a.2.1 2) λr=>ao (within 3 8)
 (ae (idx a.2.1 3) λs=>ao (within 4 8)
 (ae (idx a.2.1 4) λt=>ao (within 5 8)
 (ae (idx a.2.1 5) λu=>ao (within 6 8)
 (ae (idx a.2.1 6) λv=>aa (aG ((aC i64 a.1.1 1,()),[aC u32 (aC u32 (aC u32 (aC u32 (aC u32 w<|gD u32 (gD u32 x.1 y.1) d.1)<|gD u32 (gT u32 b e)<|gT u32 (gD u32 4294967295 b) f) g) h)<|aC u32 (gD u32 (gD u32 i.1 j.1) k.1)<|gD u32 (gD u32 (gT u32 c l)<|gT u32 c m)<|gT u32 n o,p,q,r,aC u32 s (aC u32 (aC u32 (aC u32 (aC u32 w<|gD u32 (gD u32 x.1 y.1) d.1)<|gD u32 (gT u32 b e)<|gT u32 (gD u32 4294967295 b) f) g) h),t,u,v],()))) af)
 af)
 af)
 af)
 af)
 af)
 af)
 af)
 af)
 af)
 af)
 af)
 af)
 af)
 af)
 af)
 af)
 af)
 (aa<|aH (0,(a.1.1,()),a.2.1,())))
def py(x:(List<|Int)×Sb×al)(a:(Int×al)×(List<|Int)×al):Option QC :=
 cf (ao (ba a.1.1 8)
 (ao (within a.1.1 8)
 (ae (idx a.2.1 a.1.1) λb=>ao (within a.1.1 8)
 (ae (idx x.1 a.1.1) λc=>ao (within a.1.1 8)
 (ae (idx a.2.1 a.1.1) λe=>ae (idx a.2.1 a.1.1) λf=>ae (idx a.2.1 a.1.1) λd=>aa (aG ((aC i64 a.1.1 1,()),oo a.2.1 a.1.1<|aC u32 b c,()))) af)
 af)
 af)
 (aa<|aH (0,(a.1.1,()),a.2.1,())))
def vi(x:(List<|Int)×Sb×al):Option WA :=ae (Loop (lh x) ((0,()),[(0:Int),0,0,0,0,0,0,0,0,0,0,0,0,0,0,0,0,0,0,0,0,0,0,0,0,0,0,0,0,0,0,0,0,0,0,0,0,0,0,0,0,0,0,0,0,0,0,0,0,0,0,0,0,0,0,0,0,0,0,0,0,0,0,0],())) (λa=>ae (Loop (px) ((16,()),a.2.1,())) λb=>ae (yD ()) λc=>ae (Loop (lj b c) ((0,()),x.1,())) λd=>ae (Loop (py x) ((0,()),d.2.1,())) λe=>aa (e.2.1,()))
def oH(b:Sb×al)(a:(Int×al)×(List<|Int)×al):Option QC :=
 cf (ao (cm (aC i64 a.1.1 64)<|len b.1)
 (ao (inside a.1.1 (aC i64 a.1.1 64)<|len b.1)
 (ae (vi (a.2.1,sub b.1 a.1.1<|minus (aC i64 a.1.1 64) a.1.1,())) λc=>aa (aG ((aC i64 a.1.1 64,()),c.1,()))) af)
 (aa<|aH (0,(a.1.1,()),a.2.1,())))
def ti(b:(Int×al)×(List<|Int)×al)(a:(Int×al)×(List<|Int)×al):Option QC :=
 cf (ao (ba a.1.1 32)
 (ao (aR 4 0)
 af (ao (within (KB i64 a.1.1 4) 8)
 (ae (idx b.2.1<|KB i64 a.1.1 4) λc=>ao (aR 4 0)
 af (ao (ba (cR i64 24<|jt i64 8<|fX a.1.1 4) 0)
 af (ao (within a.1.1 32)
 (ae (idx a.2.1 a.1.1) λd=>ae (idx a.2.1 a.1.1) λe=>ae (idx a.2.1 a.1.1) λf=>aa (aG ((aC i64 a.1.1 1,()),oo a.2.1 a.1.1<|kg IntKind.u8<|jv u32 c<|cR i64 24<|jt i64 8<|fX a.1.1 4,()))) af)))
 af))
 (aa<|aH (0,(a.1.1,()),a.2.1,())))
def zM(x:Sb×al):Option WA :=ae (AB ()) (λa=>ae (vh (x.1,())) λb=>ae (Loop (oH b) ((0,()),a.1,())) λc=>ae (Loop (ti c) ((0,()),[(0:Int),0,0,0,0,0,0,0,0,0,0,0,0,0,0,0,0,0,0,0,0,0,0,0,0,0,0,0,0,0,0,0],())) λd=>aa (d.2.1,()))
end Go.Ge
namespace Go.Ge
variable [Lp]
set_option maxRecDepth 100000
def mH(x:Sb×al)(a:(Int×al)×(al×al×al)×(List<|Int)×al):Option (((Int×al)×(al×al×al)×(List<|Int)×al)⊕((Int×al)×(al×al×al)×(List<|Int)×al)) :=
 cf (ao (ba a.1.1<|len<|aB x.1)
 (ao (within a.1.1<|len<|aB x.1)
 (ae (idx (aB x.1) a.1.1) λc=>ao (ba 4 0)
 af (ae (idx [48,49,50,51,52,53,54,55,56,57,97,98,99,100,101,102]<|jv IntKind.u8 c 4) λb=>ao (fits<|plus (len a.2.2.1)<|len [u8 b])
 (ae (idx [48,49,50,51,52,53,54,55,56,57,97,98,99,100,101,102]<|gT IntKind.u8 c 15) λd=>ao (fits<|plus (len<|app a.2.2.1 [u8 b])<|len [u8 d])
 (aa<|aG ((aC i64 a.1.1 1,()),((),(),a.2.1.2.2),app (app a.2.2.1 [u8 b]) [u8 d],())) af)
 af))
 af)
 (aa<|aH (0,(a.1.1,()),((),(),a.2.1.2.2),a.2.2.1,())))
def l9(x:Sb×al):Option (Sb×al) :=ao (fits<|len x.1) (ae (Loop (mH x) ((0,()),((),(),()),[],())) λa=>aa (br a.2.2.1,())) af
def oI(x:Sb×al):Option (Sb×al) :=
 ae (FQ (x.1,())) (λb=>ao (inside 0 32 32)
 (ae (l9 (br<|sub b.1 0<|minus 32 0,())) λa=>ao (fits<|plus (len ([115,104,97,50,53,54,58]:bj))<|len a.1)
 (aa (app [115,104,97,50,53,54,58] a.1,())) af)
 af)
def cr(x:Sb×Sb×al):Option (Bool×al) :=
 ae (ao (cm (len x.2.1)<|len x.1)
 (ao (inside 0 (len x.2.1)<|len x.1)
 (aa<|bA (sub x.1 0<|minus (len x.2.1) 0) x.2.1) af)
 (aa false)) (λa=>aa (a,()))
def fw(x:Sb×Sb×al):Option (Sb×Bool×al) :=
 ae (cr (x.1,x.2.1,())) (λa=>ao (nt a.1)
 (aa (x.1,false,())) (ao (inside (len x.2.1) (len x.1)<|len x.1)
 (aa (sub x.1 (len x.2.1)<|minus (len x.1)<|len x.2.1,true,())) af))
def kL(x:Sb×Sb×al):Option (Sb×Bool×al) :=ae (fw (x.1,x.2.1,())) (λa=>aa (a.1,a.2.1,()))
def dq(x:Sb×Int×al):Option (Int×al) :=ae (fv (x.1,x.2.1,())) (λa=>aa (a.1,()))
def nf(x:Int×al):Option (Int×al) :=ao (ba x.1 10) (aa (kg IntKind.u8<|aC i64 48 x.1,())) (aa (kg IntKind.u8<|cR i64 (aC i64 97 x.1) 10,()))
def oJ(x:Sb×al)(a:(al×Int×al)×(List<|Int)×al):Option (((al×Int×al)×(List<|Int)×al)⊕((al×Int×al)×(List<|Int)×al)) :=
 cf (ao (ba a.1.2.1<|len x.1)
 (ae (idx x.1 a.1.2.1) λd=>ao (aR 16 0)
 af (ae (nf (KB i64 (kg i64<|u8 d) 16,())) λb=>ao (fits<|plus (len a.2.1)<|len [b.1])
 (ae (idx x.1 a.1.2.1) λe=>ao (aR 16 0)
 af (ae (nf (fX (kg i64<|u8 e) 16,())) λc=>ao (fits<|plus (len<|app a.2.1 [b.1])<|len [c.1])
 (aa<|aG (((),aC i64 a.1.2.1 1,()),app (app a.2.1 [b.1]) [c.1],())) af))
 af))
 (aa<|aH (0,((),a.1.2.1,()),a.2.1,())))
def vZ(x:Sb×al):Option (Sb×al) :=ae (Loop (oJ x) (((),0,()),[],())) (λa=>aa (br a.2.1,()))
def oK(x:Sb×al):Option (Sb×al) :=
 ae (zM (x.1,())) (λb=>ao (inside 0 32 32)
 (ae (vZ (br<|sub b.1 0<|minus 32 0,())) λa=>ao (fits<|plus (len ([115,104,97,50,53,54,58]:bj))<|len a.1)
 (aa (app [115,104,97,50,53,54,58] a.1,())) af)
 af)
def fa(x:Int×al)(a:(Int×Int×al)×al):Option (((Int×Int×al)×al)⊕(Nat×(Int×Int×al)×al)) :=
 ao (ba a.1.2.1 16) (ae (nf (a.1.2.1,())) λb=>ao (aR b.1 x.1)
 (aa<|aH (1,(a.1.2.1,a.1.2.1,()),())) (aa<|aG ((a.1.1,aC i64 a.1.2.1 1,()),())))
 (aa<|aH (0,(a.1.1,a.1.2.1,()),()))
def qw(x:Int×al):Option (Int×al) :=
 ae (Loop (fa x) ((0,0,()),())) (λa=>ao (cF a.1 0)
 (aa ((-1),())) (aa (a.2.1.1,())))
def iH(x:Sb×al)(a:(Sb×Bool×al×Int×al)×(List<|Int)×al):Option (((Sb×Bool×al×Int×al)×(List<|Int)×al)⊕(Nat×(Sb×Bool×al×Int×al)×(List<|Int)×al)) :=
 ao (ba (aC i64 a.1.2.2.2.1 1)<|len x.1) (ae (idx x.1 a.1.2.2.2.1) λd=>ae (qw (u8 d,())) λb=>ae (idx x.1<|aC i64 a.1.2.2.2.1 1) λe=>ae (qw (u8 e,())) λc=>ao (ao (nt<|ba b.1 0)
 (ba c.1 0) true)
 (aa<|aH (1,([],false,(),a.1.2.2.2.1,()),a.2.1,())) (ao (fits<|plus (len a.2.1)<|len [kg IntKind.u8<|aC i64 (jt i64 16 b.1) c.1])
 (aa<|aG ((a.1.1,a.1.2.1,(),aC i64 a.1.2.2.2.1 2,()),app a.2.1 [kg IntKind.u8<|aC i64 (jt i64 16 b.1) c.1],())) af))
 (aa<|aH (0,(a.1.1,a.1.2.1,(),a.1.2.2.2.1,()),a.2.1,()))
def qx(x:Sb×al):Option (Sb×Bool×al) :=
 ao (aR 2 0) af (ao (aR (fX (len x.1) 2) 1)
 (aa ([],false,())) (ae (Loop (iH x) (([],false,(),0,()),[],())) λa=>ao (cF a.1 0)
 (aa (br a.2.2.1,true,())) (aa (a.2.1.1,a.2.1.2.1,()))))
def vj(x:Sb×al):Option (Int×al) :=
 ae (ao (nt<|nt<|aR (len x.1) 71)
 (ao (inside 0 7<|len x.1)
 (aa<|nt<|bA (sub x.1 0<|minus 7 0) [115,104,97,50,53,54,58]) af)
 (aa true)) (λa=>ao a (aa (2,())) (ao (inside 7 (len x.1)<|len x.1)
 (ae (qx (sub x.1 7<|minus (len x.1) 7,())) λb=>ao (nt b.2.1)
 (aa (2,())) (aa (0,())))
 af))
end Go.Ge
namespace Go.Ge
variable [Lp]
set_option maxRecDepth 100000
abbrev afL:=((Sb×al)×(List<|Bool)×al)
abbrev anN:=(Sb×Int×Int×Int×Int×Int×Int×Sb×al)
def lU(x:Int×Int×al):Option (Bool×al) :=
 aa (ao (cm 0 x.1)
 (ba x.1 x.2.1) false,())
def oL(x:Sb×Int×al):Option (Bool×al) :=
 ae (ao (ao (nt<|bA x.1 [])
 (cm (len x.1) x.2.1) false)
 (ae (dq (x.1,0,())) λa=>aa (ba a.1 0)) (aa false)) (λa=>aa (a,()))
def ss(x:anN×Int×al):Option (Bool×al) :=
 ae (lU (x.1.2.2.1,2097152,())) (λf=>ae (ao f.1
 (ae (lU (x.1.2.2.2.1,2097152,())) λa=>aa a.1) (aa false)) λa=>ae (ao a (ae (lU (x.1.2.2.2.2.1,2097152,())) λb=>aa b.1) (aa false)) λb=>ae (ao b (ae (lU (x.1.2.2.2.2.2.1,8589934592,())) λc=>aa c.1) (aa false)) λc=>ae (ao c (ae (lU (x.1.2.2.2.2.2.2.1,8589934592,())) λd=>aa d.1) (aa false)) λd=>ae (ao (nt<|nt d) (ae (oL (x.1.1,x.2.1,())) λe=>aa (nt e.1)) (aa true)) λe=>ao e
 (aa (false,())) (ao (aR x.1.2.1 1)
 (aa (bA x.1.2.2.2.2.2.2.2.1 [],())) (ao (aR x.1.2.1 2)
 (aa (ao (bA x.1.2.2.2.2.2.2.2.1 [])
 (aR x.1.2.2.2.2.2.1 0) false,()))
 (ao (aR x.1.2.1 3)
 (ae (oL (x.1.2.2.2.2.2.2.2.1,100,())) λg=>aa (ao g.1
 (aR x.1.2.2.2.2.2.1 0) false,()))
 (aa (false,()))))))
def mI(x:al):Option ((List<|Int×Int×al)×al) :=aa ([((0:Int),(100:Int),()),((100:Int),(8:Int),()),((108:Int),(8:Int),()),((116:Int),(8:Int),()),((124:Int),(12:Int),()),((136:Int),(12:Int),()),((148:Int),(8:Int),()),((156:Int),(1:Int),()),((157:Int),(100:Int),()),((257:Int),(8:Int),()),((345:Int),(155:Int),())],())
def rb(x:Sb×al)(b:Int×Int×al)(a:(Int×Int×al)×al):Option (((Int×Int×al)×al)⊕((Int×Int×al)×al)) :=
 cf (ao (ba a.1.2.1<|len<|aB x.1)
 (ao (within a.1.2.1<|len<|aB x.1)
 (ae (idx (aB x.1) a.1.2.1) λc=>aa (aG ((aC i64 a.1.1<|kg i64<|((ao (ao (cm b.1 a.1.2.1)
 (ba a.1.2.1<|aC i64 b.1 b.2.1) false)
 ((32,()),()) ((c,()),())).1).1,aC i64 a.1.2.1 1,()),())))
 af)
 (aa<|aH (0,(a.1.1,a.1.2.1,()),())))
def xD(x:Sb×al):Option (Int×al) :=
 ae (mI ()) (λa=>ae (idx a.1 6) λb=>ao (fits<|len x.1)
 (ae (Loop (rb x b) ((0,0,()),())) λc=>aa (c.1.1,())) af)
def ca(x:Sb×Int×al):Option (Sb×al) :=
 ae (mI ()) (λb=>ae (idx b.1 x.2.1) λa=>ao (inside a.1 (aC i64 a.1 a.2.1)<|len x.1)
 (aa (sub x.1 a.1<|minus (aC i64 a.1 a.2.1) a.1,())) af)
def fx(x:Sb×Int×al)(a:(Sb×al)×al):Option (((Sb×al)×al)⊕((Sb×al)×al)) :=
 cf (ae (ao (ba 0<|len a.1.1)
 (ae (idx a.1.1<|cR i64 (len a.1.1) 1) λb=>aa (aR (u8 b) x.2.1)) (aa false)) λb=>ao b
 (ao (inside 0 (cR i64 (len a.1.1) 1)<|len a.1.1)
 (aa<|aG ((sub a.1.1 0<|minus (cR i64 (len a.1.1) 1) 0,()),())) af)
 (aa<|aH (0,(a.1.1,()),())))
def fb(x:Sb×Int×al):Option (Sb×al) :=ae (Loop (fx x) ((x.1,()),())) (λa=>aa (a.1.1,()))
def eB(x:Sb×al)(a:(Bool×Int×al)×(List<|Bool)×al):Option (((Bool×Int×al)×(List<|Bool)×al)⊕(Nat×(Bool×Int×al)×(List<|Bool)×al)) :=
 ao (ba a.1.2.1<|len x.1) (ae (idx x.1 a.1.2.1) λb=>ao (cm 128<|u8 b)
 (aa<|aH (1,(false,a.1.2.1,()),a.2.1,())) (ao (within (u8 b) 256)
 (ae (idx a.2.1<|u8 b) λc=>ae (idx a.2.1<|u8 b) λd=>ae (idx a.2.1<|u8 b) λe=>aa (aG ((a.1.1,aC i64 a.1.2.1 1,()),oo a.2.1 (u8 b) true,()))) af))
 (aa<|aH (0,(a.1.1,a.1.2.1,()),a.2.1,()))
def eu(x:Sb×al):Option ((List<|Bool)×Bool×al) :=
 ae (Loop (eB x) ((false,0,()),((List.replicate 256 false):List (Bool)),())) (λa=>ao (cF a.1 0)
 (aa (a.2.2.1,true,())) (aa (a.2.2.1,a.2.1.1,())))
def cG(x:(Int×al)×(List<|Bool)×al):Option ((Bool×al)×(List<|Bool)×al) :=ao (within x.1.1 256) (ae (idx x.2.1 x.1.1) λa=>aa ((a,()),x.2.1,())) af
def cH(a:(Sb×al)×(List<|Bool)×al):Option (afL⊕afL) :=
 cf (ao (ba 0<|len a.1.1)
 (ae (idx a.1.1<|cR i64 (len a.1.1) 1) λc=>ae (cG ((u8 c,()),a.2.1,())) λb=>ao (nt b.1.1)
 (aa<|aH (0,(a.1.1,()),b.2.1,())) (ao (inside 0 (cR i64 (len a.1.1) 1)<|len a.1.1)
 (aa<|aG ((sub a.1.1 0<|minus (cR i64 (len a.1.1) 1) 0,()),b.2.1,())) af))
 (aa<|aH (0,(a.1.1,()),a.2.1,())))
def dM(x:(Sb×al)×(List<|Bool)×al):Option afL :=ae (Loop (cH) ((x.1.1,()),x.2.1,())) (λa=>aa ((a.1.1,()),a.2.1,()))
def eD(x:Sb×Sb×al):Option (Sb×al) :=
 ao (ao (nt<|bA x.1 [])
 (bA x.2.1 []) true)
 (aa (x.1,())) (ae (ao (aR (len x.2.1) 1)
 (ae (idx x.2.1 0) λb=>aa (ba (u8 b) 128)) (aa false)) λb=>ao b
 (ae (idx x.2.1 0) λa=>ae (fb (x.1,u8 a,())) λc=>aa (c.1,())) (ae (eu (x.2.1,())) λa=>ao a.2.1
 (ae (dM ((x.1,()),a.1,())) λc=>aa (c.1.1,())) af))
def bR(x:Sb×al)(a:(Int×Bool×Int×Int×al)×al):Option (((Int×Bool×Int×Int×al)×al)⊕(Nat×(Int×Bool×Int×Int×al)×al)) :=
 ao (ba a.1.2.2.2.1<|len<|aB x.1) (ao (within a.1.2.2.2.1<|len<|aB x.1)
 (ae (idx (aB x.1) a.1.2.2.2.1) λb=>ao (ao (nt<|ba b 48)
 (ba 55 b) true)
 (aa<|aH (1,(0,false,a.1.2.2.1,a.1.2.2.2.1,()),())) (ao (ba 3 0)
 af (aa<|aG ((a.1.1,a.1.2.1,B6 i64 (om i64 a.1.2.2.1 3)<|kg i64<|cR IntKind.u8 b 48,aC i64 a.1.2.2.2.1 1,()),()))))
 af)
 (aa<|aH (0,(a.1.1,a.1.2.1,a.1.2.2.1,a.1.2.2.2.1,()),()))
def dD(x:Sb×al):Option (Int×Bool×al) :=
 ao (ao (nt<|ba (len x.1) 1)
 (ba 21<|len x.1) true)
 (aa (0,false,())) (ao (fits<|len x.1)
 (ae (Loop (bR x) ((0,false,0,0,()),())) λa=>ao (cF a.1 0)
 (aa (a.2.1.2.2.1,true,())) (aa (a.2.1.1,a.2.1.2.1,())))
 af)
def dt(x:Sb×al):Option (Int×al) :=
 ae (eD (x.1,[0,32],())) (λa=>ae (dD (a.1,())) λb=>ao (ao (nt<|nt b.2.1)
 (aR (len a.1)<|len x.1) true)
 (aa ((-1),())) (aa (b.1,())))
def kq(x:Sb×al):Option (Sb×Bool×al) :=ae (eD (x.1,[0],())) (λa=>ae (dq (a.1,0,())) λb=>aa (a.1,ba b.1 0,()))
def fm(x:Sb×al):Option (anN×Int×al) :=
 ae (ao (nt<|nt<|aR (len x.1) 512)
 (ae (ca (x.1,9,())) λk=>aa (nt<|bA k.1 [117,115,116,97,114,0,48,48])) (aa true)) (λk=>ae (ao (nt k)
 (ae (ca (x.1,6,())) λl=>ae (dt (l.1,())) λm=>ae (xD (x.1,())) λi=>aa (nt<|aR m.1 i.1)) (aa true)) λl=>ao l
 (aa (([],0,0,0,0,0,0,[],()),2,())) (ae (ca (x.1,0,())) λm=>ae (kq (m.1,())) λi=>ae (ca (x.1,8,())) λt=>ae (kq (t.1,())) λn=>ae (ca (x.1,10,())) λu=>ae (kq (u.1,())) λj=>ae (ao (nt<|bA j.1 [])
 (ao (fits<|plus (len j.1)<|len ([47]:bj))
 (ao (fits<|plus (len<|app j.1 [47])<|len i.1)
 (aa ((app (app j.1 [47]) i.1,()),())) af)
 af)
 (aa ((i.1,()),()))) λg=>ae (ca (x.1,1,())) λo=>ae (dt (o.1,())) λb=>ae (ca (x.1,2,())) λp=>ae (dt (p.1,())) λc=>ae (ca (x.1,3,())) λq=>ae (dt (q.1,())) λd=>ae (ca (x.1,4,())) λr=>ae (dt (r.1,())) λe=>ae (ca (x.1,5,())) λs=>ae (dt (s.1,())) λf=>ae (ca (x.1,7,())) λa=>ae (ao (nt<|ao (nt<|ao (nt<|nt i.2.1)
 (nt n.2.1) true)
 (nt j.2.1) true)
 (ae (ss (((ao (((ao (bA a.1 [48])
 ((bA a.1 [48],()),()) ((bA a.1 [0],()),())).1).1)
 ((),(g.1.1,1,b.1,c.1,d.1,e.1,f.1,[],()),()) ((),((ao (bA a.1 [53])
 ((),(g.1.1,2,b.1,c.1,d.1,e.1,f.1,[],()),()) ((),((ao (bA a.1 [50])
 ((),(g.1.1,3,b.1,c.1,d.1,e.1,f.1,n.1,()),()) ((),(g.1.1,0,b.1,c.1,d.1,e.1,f.1,[],()),())).2).1,())).2).1,())).2).1,256,())) λh=>aa (nt h.1))
 (aa true)) λh=>ao h
 (aa (([],0,0,0,0,0,0,[],()),2,())) (aa (((ao (((ao (bA a.1 [48])
 ((bA a.1 [48],()),()) ((bA a.1 [0],()),())).1).1)
 ((),(g.1.1,1,b.1,c.1,d.1,e.1,f.1,[],()),()) ((),((ao (bA a.1 [53])
 ((),(g.1.1,2,b.1,c.1,d.1,e.1,f.1,[],()),()) ((),((ao (bA a.1 [50])
 ((),(g.1.1,3,b.1,c.1,d.1,e.1,f.1,n.1,()),()) ((),(g.1.1,0,b.1,c.1,d.1,e.1,f.1,[],()),())).2).1,())).2).1,())).2).1,0,()))))
def fS(x:Sb×Int×al)(a:(Sb×al)×al):Option (((Sb×al)×al)⊕((Sb×al)×al)) :=
 cf (ae (ao (ba 0<|len a.1.1)
 (ae (idx a.1.1 0) λb=>aa (aR (u8 b) x.2.1)) (aa false)) λb=>ao b
 (ao (inside 1 (len a.1.1)<|len a.1.1)
 (aa<|aG ((sub a.1.1 1<|minus (len a.1.1) 1,()),())) af)
 (aa<|aH (0,(a.1.1,()),())))
def ib(x:Sb×Int×al):Option (Sb×al) :=ae (Loop (fS x) ((x.1,()),())) (λa=>aa (a.1.1,()))
def fy(a:(Sb×al)×(List<|Bool)×al):Option (afL⊕afL) :=
 cf (ao (ba 0<|len a.1.1)
 (ae (idx a.1.1 0) λc=>ae (cG ((u8 c,()),a.2.1,())) λb=>ao (nt b.1.1)
 (aa<|aH (0,(a.1.1,()),b.2.1,())) (ao (inside 1 (len a.1.1)<|len a.1.1)
 (aa<|aG ((sub a.1.1 1<|minus (len a.1.1) 1,()),b.2.1,())) af))
 (aa<|aH (0,(a.1.1,()),a.2.1,())))
def gK(x:(Sb×al)×(List<|Bool)×al):Option afL :=ae (Loop (fy) ((x.1.1,()),x.2.1,())) (λa=>aa ((a.1.1,()),a.2.1,()))
def iQ(x:Sb×Sb×al):Option (Sb×al) :=
 ao (ao (nt<|bA x.1 [])
 (bA x.2.1 []) true)
 (aa (x.1,())) (ae (ao (aR (len x.2.1) 1)
 (ae (idx x.2.1 0) λc=>aa (ba (u8 c) 128)) (aa false)) λc=>ao c
 (ae (idx x.2.1 0) λa=>ae (fb (x.1,u8 a,())) λb=>ae (idx x.2.1 0) λd=>ae (ib (b.1,u8 d,())) λe=>aa (e.1,())) (ae (eu (x.2.1,())) λa=>ao a.2.1
 (ae (dM ((x.1,()),a.1,())) λb=>ae (gK ((b.1.1,()),b.2.1,())) λd=>aa (d.1.1,())) af))
def vk(x:Sb×al):Option (Bool×al) :=
 ae (ao (aR (len x.1) 512)
 (ae (iQ (x.1,[0],())) λa=>aa (bA a.1 [])) (aa false)) (λa=>aa (a,()))
def gh(x:Sb×Int×al)(a:(Bool×Int×al)×al):Option (((Bool×Int×al)×al)⊕(Nat×(Bool×Int×al)×al)) :=
 ao (ba a.1.2.1<|len x.1) (ae (idx x.1 a.1.2.1) λb=>ao (aR (u8 b) 0)
 (aa<|aH (1,(false,a.1.2.1,()),())) (aa<|aG ((a.1.1,aC i64 a.1.2.1 1,()),())))
 (aa<|aH (0,(a.1.1,a.1.2.1,()),()))
def ng(x:Sb×Int×al):Option (Bool×al) :=
 ae (Loop (gh x) ((false,0,()),())) (λa=>ao (cF a.1 0)
 (aa (ao (cm 1<|len x.1)
 (cm (len x.1) x.2.1) false,()))
 (aa (a.2.1.1,())))
def rQ(x:Int×Int×al):Option (Bool×al) :=
 aa (ao (cm 0 x.1)
 (ba x.1 x.2.1) false,())
def v7(x:anN×Int×al):Option (Bool×al) :=
 ae (ao (aR x.1.2.1 3)
 (ae (ng (x.1.2.2.2.2.2.2.2.1,100,())) λa=>aa ((a.1,()),())) (aa ((bA x.1.2.2.2.2.2.2.2.1 [],()),()))) (λa=>ae (ng (x.1.1,x.2.1,())) λg=>ae (ao (ao (ao g.1
 (cm 1 x.1.2.1) false)
 (cm x.1.2.1 3) false)
 (ae (rQ (x.1.2.2.1,2097152,())) λb=>aa b.1) (aa false)) λb=>ae (ao b (ae (rQ (x.1.2.2.2.1,2097152,())) λc=>aa c.1) (aa false)) λc=>ae (ao c (ae (rQ (x.1.2.2.2.2.1,2097152,())) λd=>aa d.1) (aa false)) λd=>ae (ao d (ae (rQ (x.1.2.2.2.2.2.1,8589934592,())) λe=>aa e.1) (aa false)) λe=>ae (ao e (ae (rQ (x.1.2.2.2.2.2.2.1,8589934592,())) λf=>aa f.1) (aa false)) λf=>aa (ao (ao f
 (ao (nt<|aR x.1.2.2.2.2.2.1 0)
 (aR x.1.2.1 1) true)
 false)
 a.1.1 false,()))
def tj(x:Sb×al)(a:(Int×Int×al)×al):Option (((Int×Int×al)×al)⊕((Int×Int×al)×al)) :=
 cf (ao (ba a.1.2.1<|len x.1)
 (ae (ao (ao (cm 148 a.1.2.1)
 (ba a.1.2.1 156) false)
 (aa ((aC i64 a.1.1 32,()),())) (ae (idx x.1 a.1.2.1) λb=>aa ((aC i64 a.1.1<|kg i64<|u8 b,()),()))) λb=>aa (aG ((b.1.1,aC i64 a.1.2.1 1,()),())))
 (aa<|aH (0,(a.1.1,a.1.2.1,()),())))
def zN(x:Sb×al):Option (Int×al) :=ae (Loop (tj x) ((0,0,()),())) (λa=>aa (a.1.1,()))
end Go.Ge
namespace Go.Ge
variable [Lp]
set_option maxRecDepth 100000
abbrev WB:=((Sb×Int×Int×Int×Int×Int×Int×Sb×al)×Sb×al)
abbrev WC:=(Bool×Sb×Int×Bool×Bool×al)
def GS(x:Int×al):Option (Sb×al) :=ae (pv ([0],x.1,())) (λa=>aa (a.1,()))
def yE(x:Int×al):Option (Int×al) :=
 ao (aR 512 0) af (ao (aR 512 0)
 af (aa (fX (cR i64 512<|fX x.1 512) 512,())))
def eF(x:(Bool×al)×WC×al):Option ((WB×Bool×al)×WC×al) :=aa (((([],0,0,0,0,0,0,[],()),[],()),false,()),(x.2.1.1,[],x.2.1.2.2.1,true,x.1.1,x.2.1.2.2.2.2.2),())
def b3(x:al×WC×al):Option ((WB×Bool×al)×WC×al) :=
 ao (ao (nt<|nt x.2.1.1)
 x.2.1.2.2.2.1 true)
 (aa (((([],0,0,0,0,0,0,[],()),[],()),false,()),x.2.1,())) (ao (ba (len x.2.1.2.1) 512)
 (ae (eF ((true,()),x.2.1,())) λd=>aa ((d.1.1,d.1.2.1,()),d.2.1,())) (ao (inside 0 512<|len x.2.1.2.1)
 (ae (vk (sub x.2.1.2.1 0<|minus 512 0,())) λd=>ao d.1
 (ae (ao (cm 1024<|len x.2.1.2.1)
 (ao (aR 512 0)
 af (aa<|aR (fX (len x.2.1.2.1) 512) 0))
 (aa false)) λb=>ae (ao (nt<|nt b) (ae (iQ (x.2.1.2.1,[0],())) λc=>aa (nt<|bA c.1 [])) (aa true)) λc=>ae (eF ((c,()),x.2.1,())) λa=>aa ((a.1.1,a.1.2.1,()),a.2.1,()))
 (ao (inside 0 512<|len x.2.1.2.1)
 (ae (fm (sub x.2.1.2.1 0<|minus 512 0,())) λb=>ao (inside 512 (len x.2.1.2.1)<|len x.2.1.2.1)
 (ao (nt<|aR b.2.1 0)
 (ae (eF ((true,()),x.2.1,())) λc=>aa ((c.1.1,c.1.2.1,()),c.2.1,())) (ao (ba (len<|sub x.2.1.2.1 512<|minus (len x.2.1.2.1) 512) b.1.2.2.2.2.2.1)
 (ae (eF ((true,()),x.2.1,())) λc=>aa ((c.1.1,c.1.2.1,()),c.2.1,())) (ae (yE (b.1.2.2.2.2.2.1,())) λc=>ao (ba (len<|sub x.2.1.2.1 512<|minus (len x.2.1.2.1) 512)<|aC i64 b.1.2.2.2.2.2.1 c.1)
 (ae (eF ((true,()),x.2.1,())) λa=>aa ((a.1.1,a.1.2.1,()),a.2.1,())) (ao (cm 64 x.2.1.2.2.1)
 (ae (eF ((true,()),x.2.1,())) λa=>aa ((a.1.1,a.1.2.1,()),a.2.1,())) (ae (yE (b.1.2.2.2.2.2.1,())) λa=>ao (inside (aC i64 b.1.2.2.2.2.2.1 a.1) (len<|sub x.2.1.2.1 512<|minus (len x.2.1.2.1) 512)<|len<|sub x.2.1.2.1 512<|minus (len x.2.1.2.1) 512)
 (ao (inside 0 b.1.2.2.2.2.2.1<|len<|sub x.2.1.2.1 512<|minus (len x.2.1.2.1) 512)
 (aa (((b.1,sub (sub x.2.1.2.1 512<|minus (len x.2.1.2.1) 512) 0<|minus b.1.2.2.2.2.2.1 0,()),true,()),(x.2.1.1,sub (sub x.2.1.2.1 512<|minus (len x.2.1.2.1) 512) (aC i64 b.1.2.2.2.2.2.1 a.1)<|minus (len<|sub x.2.1.2.1 512<|minus (len x.2.1.2.1) 512)<|aC i64 b.1.2.2.2.2.2.1 a.1,aC i64 x.2.1.2.2.1 1,x.2.1.2.2.2),())) af)
 af)))))
 af)
 af))
 af))
def iI(x:al×WC×al):Option ((Bool×al)×WC×al) :=aa ((x.2.1.2.2.2.2.1,()),x.2.1,())
def iB(a:(al×al×Bool×al)×WB×(List WB)×WC×al):Option (((al×al×Bool×al)×WB×(List WB)×WC×al)⊕((al×al×Bool×al)×WB×(List WB)×WC×al)) :=
 cf (ao a.1.2.2.1
 (ao (fits<|plus (len a.2.2.1)<|len [a.2.1])
 (ae (b3 ((),a.2.2.2.1,())) λb=>aa (aG (((),(),b.1.2.1,()),b.1.1,app a.2.2.1 [a.2.1],b.2.1,()))) af)
 (aa<|aH (0,((),(),a.1.2.2.1,()),a.2.1,a.2.2.1,a.2.2.2.1,())))
def eY(x:Sb×al):Option ((List WB)×Int×al) :=
 ae (b3 ((),(true,x.1,0,ba 8192<|len x.1,ba 8192<|len x.1,()),())) (λa=>ae (Loop (iB) (((),(),a.1.2.1,()),a.1.1,[],a.2.1,())) λb=>ae (iI ((),b.2.2.2.1,())) λc=>ao c.1.1
 (aa ([],10,())) (aa (b.2.2.1,0,())))
def lp(a:(Int×al)×al):Option (((Int×al)×al)⊕((Int×al)×al)) :=
 cf (ao (aR 512 0)
 af (ao (nt<|aR (fX a.1.1 512) 0)
 (aa<|aG ((aC i64 a.1.1 1,()),())) (aa<|aH (0,(a.1.1,()),()))))
def nh(x:Int×al):Option (Int×al) :=ae (Loop (lp) ((x.1,()),())) (λa=>aa (a.1.1,()))
end Go.Ge
namespace Go.Ge
variable [Lp]
set_option maxRecDepth 100000
abbrev afM:=(((Bool×Int×al)×al)⊕(Nat×(Bool×Int×al)×al))
abbrev K1:=(Int×Int×al)
abbrev alr:=((K1×al)⊕(Nat×K1×al))
abbrev afN:=(Int×Int×Int×al)
def fo(x:Sb×al):Option ((List Sb)×al) :=ao (bA x.1 []) (aa ([],())) (ae (wK (x.1,[47],())) λa=>aa (a.1,()))
def nS(x:Sb×al)(a:(Bool×Int×al)×al):Option afM :=
 ao (ba a.1.2.1 2) (ae (idx [([46]:bj),([46,46]:bj)] a.1.2.1) λb=>ao (bA x.1 b)
 (aa<|aH (1,(false,a.1.2.1,()),())) (aa<|aG ((a.1.1,aC i64 a.1.2.1 1,()),())))
 (aa<|aH (0,(a.1.1,a.1.2.1,()),()))
def tk(x:Sb×al):Option (Bool×al) :=
 ae (Loop (nS x) ((false,0,()),())) (λb=>ao (cF b.1 0)
 (ae (ao (ao (cm 1<|len x.1)
 (cm (len x.1) 32) false)
 (ae (dq (x.1,0,())) λa=>aa (ba a.1 0)) (aa false)) λa=>aa (a,()))
 (aa (b.2.1.1,())))
def cA(x:Sb×Sb×al):Option (Bool×al) :=ae (cr (x.1,x.2.1,())) (λa=>aa (a.1,()))
def pz(d:(List Sb)×al)(a:(Sb×Int×al×Int×al)×(List Sb)×al):Option (((Sb×Int×al×Int×al)×(List Sb)×al)⊕(Nat×(Sb×Int×al×Int×al)×(List Sb)×al)) :=
 ao (ba a.1.2.2.2.1<|len d.1) (ae (idx d.1 a.1.2.2.2.1) λc=>ae (ao (ao (nt<|bA c [])
 (bA c [46]) true)
 (aa (0,(a.1.1,a.1.2.1,(),()),a.2.1,())) (ae (tk (c,())) λb=>ao (nt b.1)
 (aa (1,([],2,(),()),a.2.1,())) (ao (fits<|plus (len a.2.1)<|len [c])
 (aa (0,(a.1.1,a.1.2.1,(),()),app a.2.1 [c],())) af))) λb=>ao (cF b.1 0)
 (aa<|aG ((b.2.1.1,b.2.1.2.1,(),aC i64 a.1.2.2.2.1 1,()),b.2.2.1,())) (aa<|aH (1,(b.2.1.1,b.2.1.2.1,(),a.1.2.2.2.1,()),b.2.2.1,())))
 (aa<|aH (0,(a.1.1,a.1.2.1,(),a.1.2.2.2.1,()),a.2.1,()))
def qy(x:Sb×al):Option (Sb×Int×al) :=
 ae (fo (x.1,())) (λc=>ae (Loop (pz c) (([],0,(),0,()),[],())) λa=>ao (cF a.1 0)
 (ae (lf (a.2.2.1,[47],())) λb=>ae (cA (x.1,[47],())) λd=>ao (ao (nt<|ao (nt d.1)
 (ba 8<|len a.2.2.1) true)
 (ba 96<|len b.1) true)
 (aa ([],2,())) (aa (b.1,0,())))
 (aa (a.2.1.1,a.2.1.2.1,())))
def bX(x:(List Sb)×Sb×al)(a:K1×al):Option alr :=
 ao (ba a.1.2.1<|len x.1) (ae (idx x.1 a.1.2.1) λb=>ao (bA x.2.1 b)
 (aa<|aH (1,(a.1.2.1,a.1.2.1,()),())) (aa<|aG ((a.1.1,aC i64 a.1.2.1 1,()),())))
 (aa<|aH (0,(a.1.1,a.1.2.1,()),()))
def eT(x:(List Sb)×Sb×al):Option (Int×al) :=
 ae (Loop (bX x) ((0,0,()),())) (λa=>ao (cF a.1 0)
 (aa ((-1),())) (aa (a.2.1.1,())))
def bJ(x:(List Sb)×Sb×al):Option (Bool×al) :=ae (eT (x.1,x.2.1,())) (λa=>aa (cm 0 a.1,()))
def tl(x:Sb×al):Option (Int×Sb×al) :=
 ae (kL (x.1,[46,119,104,46],())) (λa=>ao (nt a.2.1)
 (aa (0,x.1,())) (ao (bA x.1 [46,119,104,46,46,119,104,46,46,111,112,113])
 (aa (2,[],())) (ae (cA (a.1,[46,119,104,46],())) λc=>ae (ao (nt c.1)
 (ae (bJ ([([]:bj),([46]:bj),([46,46]:bj)],a.1,())) λb=>aa b.1) (aa true)) λb=>ao b
 (aa (3,[],())) (aa (1,a.1,())))))
def cQ(x:Sb×Int×al)(a:K1×al):Option alr :=
 ao (cm 0 a.1.2.1) (ae (idx x.1 a.1.2.1) λb=>ao (aR (u8 b) x.2.1)
 (aa<|aH (1,(a.1.2.1,a.1.2.1,()),())) (aa<|aG ((a.1.1,cR i64 a.1.2.1 1,()),())))
 (aa<|aH (0,(a.1.1,a.1.2.1,()),()))
def db(x:Sb×Int×al):Option (Int×al) :=
 ae (Loop (cQ x) ((0,cR i64 (len x.1) 1,()),())) (λa=>ao (cF a.1 0)
 (aa ((-1),())) (aa (a.2.1.1,())))
def ot(x:Sb×al)(a:K1×al):Option ((K1×al)⊕(K1×al)) :=
 cf (ao (cm 0 a.1.2.1)
 (ae (idx x.1 a.1.2.1) λb=>aa (aG ((aC u32 (jt u32 a.1.1 16777619)<|kg u32<|u8 b,cR i64 a.1.2.1 1,()),()))) (aa<|aH (0,(a.1.1,a.1.2.1,()),())))
def ou(a:afN×al):Option ((afN×al)⊕(afN×al)) :=
 cf (ao (ba 0 a.1.2.2.1)
 (ao (ba 1 0)
 af (aa<|aG ((((ao (nt<|aR (gT i64 a.1.2.2.1 1) 0)
 ((jt u32 a.1.1 a.1.2.1,()),()) ((a.1.1,()),())).1).1,jt u32 a.1.2.1 a.1.2.1,jv i64 a.1.2.2.1 1,()),())))
 (aa<|aH (0,(a.1.1,a.1.2.1,a.1.2.2.1,()),())))
def hR(x:Sb×al):Option K1 :=ae (Loop (ot x) ((0,cR i64 (len x.1) 1,()),())) (λa=>ae (Loop (ou) ((1,16777619,len x.1,()),())) λb=>aa (a.1.1,b.1.1,()))
def jT(x:Sb×Sb×al)(a:K1×al):Option ((K1×al)⊕(K1×al)) :=
 cf (ao (cm (cR i64 (len x.1)<|len x.2.1) a.1.2.1)
 (ae (idx x.1 a.1.2.1) λb=>aa (aG ((aC u32 (jt u32 a.1.1 16777619)<|kg u32<|u8 b,cR i64 a.1.2.1 1,()),()))) (aa<|aH (0,(a.1.1,a.1.2.1,()),())))
def jU(x:Sb×Sb×al)(b:Int×Int×al)(a:afN×al):Option ((afN×al)⊕(Nat×afN×al)) :=
 ao (cm 0 a.1.2.2.1) (ae (idx x.1 a.1.2.2.1) λc=>ae (idx x.1<|aC i64 a.1.2.2.1<|len x.2.1) λd=>ae (ao (aR (cR u32 (aC u32 (jt u32 a.1.2.1 16777619)<|kg u32<|u8 c)<|jt u32 b.2.1<|kg u32<|u8 d) b.1)
 (ao (inside a.1.2.2.1 (aC i64 a.1.2.2.1<|len x.2.1)<|len x.1)
 (aa<|bA (sub x.1 a.1.2.2.1<|minus (aC i64 a.1.2.2.1<|len x.2.1) a.1.2.2.1) x.2.1) af)
 (aa false)) λe=>ao e
 (aa<|aH (1,(a.1.2.2.1,cR u32 (aC u32 (jt u32 a.1.2.1 16777619)<|kg u32<|u8 c)<|jt u32 b.2.1<|kg u32<|u8 d,a.1.2.2.1,()),())) (aa<|aG ((a.1.1,cR u32 (aC u32 (jt u32 a.1.2.1 16777619)<|kg u32<|u8 c)<|jt u32 b.2.1<|kg u32<|u8 d,cR i64 a.1.2.2.1 1,()),())))
 (aa<|aH (0,(a.1.1,a.1.2.1,a.1.2.2.1,()),()))
def fc(x:Sb×Sb×al):Option (Int×al) :=
 ae (hR (x.2.1,())) (λa=>ae (Loop (jT x) ((0,cR i64 (len x.1) 1,()),())) λb=>ae (ao (aR b.1.1 a.1)
 (ao (inside (cR i64 (len x.1)<|len x.2.1) (len x.1)<|len x.1)
 (aa<|bA (sub x.1 (cR i64 (len x.1)<|len x.2.1)<|minus (len x.1)<|cR i64 (len x.1)<|len x.2.1) x.2.1) af)
 (aa false)) λd=>ao d
 (aa (cR i64 (len x.1)<|len x.2.1,())) (ae (Loop (jU x a) ((0,b.1.1,cR i64 (cR i64 (len x.1)<|len x.2.1) 1,()),())) λc=>ao (cF c.1 0)
 (aa ((-1),())) (aa (c.2.1.1,()))))
def qi(x:Sb×Sb×al):Option (Int×al) :=
 ao (aR (len x.2.1) 0) (aa (len x.1,())) (ao (aR (len x.2.1) 1)
 (ae (idx x.2.1 0) λa=>ae (db (x.1,u8 a,())) λb=>aa (b.1,())) (ao (aR (len x.2.1)<|len x.1)
 (ao (bA x.2.1 x.1)
 (aa (0,())) (aa ((-1),())))
 (ao (ba (len x.1)<|len x.2.1)
 (aa ((-1),())) (ae (fc (x.1,x.2.1,())) λa=>aa (a.1,())))))
def gn(x:Sb×al):Option (Sb×Sb×al) :=
 ae (qi (x.1,[47],())) (λa=>ao (ba a.1 0)
 (aa ([],x.1,())) (ao (inside 0 a.1<|len x.1)
 (ao (inside (aC i64 a.1 1) (len x.1)<|len x.1)
 (aa (sub x.1 0<|minus a.1 0,sub x.1 (aC i64 a.1 1)<|minus (len x.1)<|aC i64 a.1 1,())) af)
 af))
def ed(x:(List Sb)×(List Sb)×al)(a:(Bool×Int×al)×al):Option afM :=
 ao (ba a.1.2.1<|len x.1) (ae (idx x.1 a.1.2.1) λb=>ae (idx x.2.1 a.1.2.1) λc=>ao (nt<|bA b c)
 (aa<|aH (1,(false,a.1.2.1,()),())) (aa<|aG ((a.1.1,aC i64 a.1.2.1 1,()),())))
 (aa<|aH (0,(a.1.1,a.1.2.1,()),()))
def eU(x:(List Sb)×(List Sb)×al):Option (Bool×al) :=
 ao (nt<|aR (len x.1)<|len x.2.1) (aa (false,())) (ae (Loop (ed x) ((false,0,()),())) λa=>ao (cF a.1 0)
 (aa (true,())) (aa (a.2.1.1,())))
def dv(x:Sb×Sb×al):Option (Bool×al) :=
 ae (fo (x.1,())) (λb=>ae (fo (x.2.1,())) λa=>ae (ao (ba (len a.1)<|len b.1)
 (ao (inside 0 (len a.1)<|len b.1)
 (ae (eU (sub b.1 0<|minus (len a.1) 0,a.1,())) λc=>aa c.1) af)
 (aa false)) λc=>aa (c,()))
def iR(x:Sb×al):Option (Bool×al) :=aa (nt<|bA x.1 x.1,())
def jV(x:Sb×Sb×al):Option (Int×al) :=
 ae (iR (x.1,())) (λb=>ae (iR (x.2.1,())) λa=>ao b.1
 (ao a.1
 (aa (0,())) (aa ((-1),())))
 (ao a.1
 (aa (1,())) (ao (dK x.1 x.2.1)
 (aa ((-1),())) (ao (nt<|oor (dK x.1 x.2.1)<|bA x.1 x.2.1)
 (aa (1,())) (aa (0,()))))))
def dE(b:(List Sb)×al)(c:(List Sb)×al)(a:K1×al):Option alr :=
 ao (ba a.1.2.1<|len b.1) (ae (idx b.1 a.1.2.1) λe=>ao (cm (len c.1) a.1.2.1)
 (aa<|aH (1,(1,a.1.2.1,()),())) (ae (idx c.1 a.1.2.1) λf=>ae (jV (e,f,())) λd=>ao (nt<|aR d.1 0)
 (aa<|aH (1,(d.1,a.1.2.1,()),())) (aa<|aG ((a.1.1,aC i64 a.1.2.1 1,()),()))))
 (aa<|aH (0,(a.1.1,a.1.2.1,()),()))
def gW(x:Sb×Sb×al):Option (Int×al) :=
 ae (fo (x.1,())) (λa=>ae (fo (x.2.1,())) λb=>ae (Loop (dE a b) ((0,0,()),())) λc=>ao (cF c.1 0)
 (ao (ba (len a.1)<|len b.1)
 (aa ((-1),())) (aa (0,())))
 (aa (c.2.1.1,())))
def lq(x:Sb×al)(a:(al×Sb×Int×al)×(List Sb)×al):Option (((al×Sb×Int×al)×(List Sb)×al)⊕((al×Sb×Int×al)×(List Sb)×al)) :=
 cf (ao (ba a.1.2.2.1<|len x.1)
 (ae (idx x.1 a.1.2.2.1) λc=>ae (ao (aR (u8 c) 47)
 (ao (fits<|plus (len a.2.1)<|len [a.1.2.1])
 (aa (((),[],()),app a.2.1 [a.1.2.1],())) af)
 (ao (inside a.1.2.2.1 (aC i64 a.1.2.2.1 1)<|len x.1)
 (ao (fits<|plus (len a.1.2.1)<|len<|sub x.1 a.1.2.2.1<|minus (aC i64 a.1.2.2.1 1) a.1.2.2.1)
 (aa (((),app a.1.2.1<|sub x.1 a.1.2.2.1<|minus (aC i64 a.1.2.2.1 1) a.1.2.2.1,()),a.2.1,())) af)
 af)) λb=>aa (aG (((),b.1.2.1,aC i64 a.1.2.2.1 1,()),b.2.1,())))
 (aa<|aH (0,((),a.1.2.1,a.1.2.2.1,()),a.2.1,())))
def eo(x:Sb×al):Option ((List Sb)×al) :=
 ao (bA x.1 []) (aa ([],())) (ae (Loop (lq x) (((),[],0,()),[],())) λa=>ao (fits<|plus (len a.2.1)<|len [a.1.2.1])
 (aa (app a.2.1 [a.1.2.1],())) af)
def re(x:(List Sb)×al)(a:(Sb×Int×al)×al):Option (((Sb×Int×al)×al)⊕((Sb×Int×al)×al)) :=
 cf (ao (ba a.1.2.1<|len x.1)
 (ae (ao (ba 0 a.1.2.1)
 (ao (fits<|plus (len a.1.1)<|len ([47]:bj))
 (aa ((app a.1.1 [47],()),())) af)
 (aa ((a.1.1,()),()))) λb=>ae (idx x.1 a.1.2.1) λc=>ao (fits<|plus (len b.1.1)<|len c)
 (aa<|aG ((app b.1.1 c,aC i64 a.1.2.1 1,()),())) af)
 (aa<|aH (0,(a.1.1,a.1.2.1,()),())))
def pA(x:(List Sb)×al):Option (Sb×al) :=ae (Loop (re x) (([],0,()),())) (λa=>aa (a.1.1,()))
def nT(x:Sb×al)(a:(Bool×Int×al)×al):Option afM :=
 ao (ba a.1.2.1<|len x.1) (ae (idx x.1 a.1.2.1) λc=>ae (ao (nt<|aR (u8 c) 0)
 (ae (idx x.1 a.1.2.1) λb=>aa (aR (u8 b) 47)) (aa true)) λb=>ao b
 (aa<|aH (1,(false,a.1.2.1,()),())) (aa<|aG ((a.1.1,aC i64 a.1.2.1 1,()),())))
 (aa<|aH (0,(a.1.1,a.1.2.1,()),()))
def tm(x:Sb×al):Option (Bool×al) :=
 ae (Loop (nT x) ((false,0,()),())) (λa=>ao (cF a.1 0)
 (aa (ao (ao (ao (cm 1<|len x.1)
 (cm (len x.1) 32) false)
 (nt<|bA x.1 [46]) false)
 (nt<|bA x.1 [46,46]) false,()))
 (aa (a.2.1.1,())))
def vl(b:(List Sb)×al)(a:(Bool×Int×al)×al):Option afM :=
 ao (ba a.1.2.1<|len b.1) (ae (idx b.1 a.1.2.1) λc=>ae (tm (c,())) λd=>ao (nt d.1)
 (aa<|aH (1,(false,a.1.2.1,()),())) (aa<|aG ((a.1.1,aC i64 a.1.2.1 1,()),())))
 (aa<|aH (0,(a.1.1,a.1.2.1,()),()))
def yF(x:Sb×al):Option (Bool×al) :=
 ae (eo (x.1,())) (λa=>ae (Loop (vl a) ((false,0,()),())) λb=>ao (cF b.1 0)
 (aa (ao (cm (len a.1) 8)
 (cm (len x.1) 96) false,()))
 (aa (b.2.1.1,())))
def lr(b:(List Sb)×al)(a:(al×Int×al)×(List Sb)×al):Option (((al×Int×al)×(List Sb)×al)⊕((al×Int×al)×(List Sb)×al)) :=
 cf (ao (ba a.1.2.1<|len b.1)
 (ae (idx b.1 a.1.2.1) λe=>ae (ao (nt<|bA e [])
 (ae (idx b.1 a.1.2.1) λd=>aa (nt<|bA d [46])) (aa false)) λd=>ae (ao d (ae (idx b.1 a.1.2.1) λc=>ao (fits<|plus (len a.2.1)<|len [c])
 (aa (((),()),app a.2.1 [c],())) af)
 (aa (((),()),a.2.1,()))) λc=>aa (aG (((),aC i64 a.1.2.1 1,()),c.2.1,())))
 (aa<|aH (0,((),a.1.2.1,()),a.2.1,())))
def vm(x:Sb×al):Option (Sb×Int×al) :=
 ae (eo (x.1,())) (λd=>ae (Loop (lr d) (((),0,()),[],())) λe=>ae (pA (e.2.1,())) λc=>ae (ao (nt<|bA x.1 [])
 (ae (idx x.1 0) λa=>aa (aR (u8 a) 47)) (aa false)) λa=>ae (ao (nt a) (ae (yF (c.1,())) λb=>aa (nt b.1)) (aa true)) λb=>ao b
 (aa ([],2,())) (aa (c.1,0,())))
def oM(x:Sb×Sb×al):Option (Bool×al) :=
 ae (ao (cm (len x.2.1)<|len x.1)
 (ao (inside 0 (len x.2.1)<|len x.1)
 (aa<|bA (sub x.1 0<|minus (len x.2.1) 0) x.2.1) af)
 (aa false)) (λa=>aa (a,()))
def tn(x:Sb×al):Option (Int×Sb×al) :=
 ao (bA x.1 [46,119,104,46,46,119,104,46,46,111,112,113]) (aa (2,[],())) (ae (oM (x.1,[46,119,104,46,46,119,104,46],())) λa=>ao (ao (nt<|ao (nt<|ao (nt a.1)
 (bA x.1 [46,119,104,46]) true)
 (bA x.1 [46,119,104,46,46]) true)
 (bA x.1 [46,119,104,46,46,46]) true)
 (aa (3,[],())) (ae (oM (x.1,[46,119,104,46],())) λb=>ao b.1
 (ao (inside 4 (len x.1)<|len x.1)
 (aa (1,sub x.1 4<|minus (len x.1) 4,())) af)
 (aa (0,x.1,()))))
def kr(x:Sb×al):Option (Sb×Sb×al) :=
 ae (eo (x.1,())) (λa=>ao (aR (len a.1) 0)
 (aa ([],[],())) (ao (inside 0 (cR i64 (len a.1) 1)<|len a.1)
 (ae (pA (sub a.1 0<|minus (cR i64 (len a.1) 1) 0,())) λb=>ae (idx a.1<|cR i64 (len a.1) 1) λc=>aa (b.1,c,())) af))
def jW(x:(List Sb)×(List Sb)×al)(a:(Bool×Int×al)×al):Option afM :=
 ao (ao (ba a.1.2.1<|len x.1)
 (ba a.1.2.1<|len x.2.1) false)
 (ae (idx x.1 a.1.2.1) λb=>ae (idx x.2.1 a.1.2.1) λc=>ao (nt<|bA b c)
 (aa<|aH (1,(false,a.1.2.1,()),())) (aa<|aG ((a.1.1,aC i64 a.1.2.1 1,()),())))
 (aa<|aH (0,(a.1.1,a.1.2.1,()),()))
def eG(x:(List Sb)×(List Sb)×al):Option (Bool×al) :=
 ao (nt<|aR (len x.1)<|len x.2.1) (aa (false,())) (ae (Loop (jW x) ((false,0,()),())) λa=>ao (cF a.1 0)
 (aa (true,())) (aa (a.2.1.1,())))
def pB(x:Sb×Sb×al):Option (Sb×al) :=
 ao (ao (nt<|bA x.1 [])
 (bA x.2.1 []) true)
 (ao (fits<|plus (len x.1)<|len x.2.1)
 (aa (app x.1 x.2.1,())) af)
 (ao (fits<|plus (len x.1)<|len ([47]:bj))
 (ao (fits<|plus (len<|app x.1 [47])<|len x.2.1)
 (aa (app (app x.1 [47]) x.2.1,())) af)
 af)
def pC(x:Sb×Sb×al):Option (Sb×al) :=
 ao (bA x.1 []) (aa (x.2.1,())) (ao (bA x.2.1 [])
 (aa (x.1,())) (ao (fits<|plus (len x.1)<|len ([47]:bj))
 (ao (fits<|plus (len<|app x.1 [47])<|len x.2.1)
 (aa (app (app x.1 [47]) x.2.1,())) af)
 af))
def pD(b:(List Sb)×al)(c:(List Sb)×al)(a:(Bool×Int×al)×al):Option afM :=
 ao (ao (ba a.1.2.1<|len c.1)
 (ba a.1.2.1<|len b.1) false)
 (ae (idx b.1 a.1.2.1) λd=>ae (idx c.1 a.1.2.1) λe=>ao (nt<|bA d e)
 (aa<|aH (1,(false,a.1.2.1,()),())) (aa<|aG ((a.1.1,aC i64 a.1.2.1 1,()),())))
 (aa<|aH (0,(a.1.1,a.1.2.1,()),()))
def vn(x:Sb×Sb×al):Option (Bool×al) :=
 ae (eo (x.1,())) (λa=>ae (eo (x.2.1,())) λb=>ao (cm (len a.1)<|len b.1)
 (aa (false,())) (ae (Loop (pD a b) ((false,0,()),())) λc=>ao (cF c.1 0)
 (aa (true,())) (aa (c.2.1.1,()))))
def dF(b:(List Sb)×al)(c:(List Sb)×al)(a:K1×al):Option alr :=
 ao (ao (ba a.1.2.1<|len b.1)
 (ba a.1.2.1<|len c.1) false)
 (ae (idx b.1 a.1.2.1) λf=>ae (idx c.1 a.1.2.1) λg=>ao (dK f g)
 (aa<|aH (1,((-1),a.1.2.1,()),())) (ae (idx b.1 a.1.2.1) λd=>ae (idx c.1 a.1.2.1) λe=>ao (nt<|oor (dK d e)<|bA d e)
 (aa<|aH (1,(1,a.1.2.1,()),())) (aa<|aG ((a.1.1,aC i64 a.1.2.1 1,()),()))))
 (aa<|aH (0,(a.1.1,a.1.2.1,()),()))
def jC(x:Sb×Sb×al):Option (Int×al) :=
 ae (eo (x.1,())) (λa=>ae (eo (x.2.1,())) λb=>ae (Loop (dF a b) ((0,0,()),())) λc=>ao (cF c.1 0)
 (ao (ba (len a.1)<|len b.1)
 (aa ((-1),())) (ao (ba (len b.1)<|len a.1)
 (aa (1,())) (aa (0,()))))
 (aa (c.2.1.1,())))
end Go.Ge
namespace Go.Ge
variable [Lp]
set_option maxRecDepth 100000
def gz(x:Sb×al)(a:(Int×Bool×Int×Int×al)×al):Option (((Int×Bool×Int×Int×al)×al)⊕(Nat×(Int×Bool×Int×Int×al)×al)) :=
 ao (ba a.1.2.2.2.1<|len x.1) (ae (idx x.1 a.1.2.2.2.1) λc=>ae (ao (nt<|ba (u8 c) 48)
 (ae (idx x.1 a.1.2.2.2.1) λb=>aa (ba 55<|u8 b)) (aa true)) λb=>ao (ao (nt b) (ba 1152921504606846975 a.1.2.2.1) true)
 (aa<|aH (1,(0,false,a.1.2.2.1,a.1.2.2.2.1,()),())) (ae (idx x.1 a.1.2.2.2.1) λd=>aa (aG ((a.1.1,a.1.2.1,aC i64 (jt i64 8 a.1.2.2.1)<|kg i64<|cR IntKind.u8 (u8 d) 48,aC i64 a.1.2.2.2.1 1,()),()))))
 (aa<|aH (0,(a.1.1,a.1.2.1,a.1.2.2.1,a.1.2.2.2.1,()),()))
def nU(x:Sb×al):Option (Int×Bool×al) :=
 ao (ao (nt<|ba (len x.1) 1)
 (ba 21<|len x.1) true)
 (aa (0,false,())) (ae (Loop (gz x) ((0,false,0,0,()),())) λa=>ao (cF a.1 0)
 (aa (a.2.1.2.2.1,true,())) (aa (a.2.1.1,a.2.1.2.1,())))
end Go.Ge
namespace Go.Ge
variable [Lp]
set_option maxRecDepth 100000
abbrev lQ:=(Sb×Int×Int×Sb×Sb×al)
abbrev als:=((Int×Int×al×al)×al×Sb×(List lQ)×al)
abbrev NF:=(Int×Int×al)
abbrev anO:=(bj×(Int×(Int×(bj×(bj×al)))))
def bc(l:List anO)(x:(Int×((List anO)×al))):Option (List anO):=vX l x.1 x.2.1
def vo(x:Sb×al):Option (Bool×al) :=
 ae (qy (x.1,())) (λa=>ae (gn (x.1,())) λb=>ae (tl (b.2.1,())) λc=>aa (ao (ao (ao (ao (aR a.2.1 0)
 (bA a.1 x.1) false)
 (nt<|bA x.1 []) false)
 (ao (cm (len x.1) 92)
 (cm (len b.2.1) 28) false)
 false)
 (aR c.1 0) false,()))
def Bt(x:lQ×al):Option (Bool×al) :=
 ae (vo (x.1.1,())) (λb=>ao (ao (nt<|ao (nt<|nt b.1)
 (ba x.1.2.2.1 0) true)
 (ba 4095 x.1.2.2.1) true)
 (aa (false,())) (ao (aR x.1.2.1 1)
 (aa (ao (bA x.1.2.2.2.2.1 [])
 (cm (len x.1.2.2.2.1) 8192) false,()))
 (ao (aR x.1.2.1 2)
 (aa (ao (bA x.1.2.2.2.2.1 [])
 (bA x.1.2.2.2.1 []) false,()))
 (ao (aR x.1.2.1 3)
 (ae (ao (ao (ao (bA x.1.2.2.2.1 [])
 (nt<|bA x.1.2.2.2.2.1 []) false)
 (cm (len x.1.2.2.2.2.1) 100) false)
 (ae (dq (x.1.2.2.2.2.1,0,())) λa=>aa (ba a.1 0)) (aa false)) λa=>aa (a,()))
 (aa (false,()))))))
def mJ(x:lQ×Sb×al):Option (Int×al) :=ae (gW (x.1.1,x.2.1,())) (λa=>aa (a.1,()))
def jD(x:(List lQ)×Sb×al)(a:NF×al):Option ((NF×al)⊕(NF×al)) :=
 cf (ao (ba a.1.1 a.1.2.1)
 (ao (ba 1 0)
 af (ae (idx x.1<|kg i64<|jv IntKind.u64 (kg IntKind.u64<|aC i64 a.1.1 a.1.2.1) 1) λc=>ae (mJ (c,x.2.1,())) λb=>aa (aG ((((ao (ba b.1 0)
 ((aC i64 (kg i64<|jv IntKind.u64 (kg IntKind.u64<|aC i64 a.1.1 a.1.2.1) 1) 1,a.1.2.1,()),()) ((a.1.1,kg i64<|jv IntKind.u64 (kg IntKind.u64<|aC i64 a.1.1 a.1.2.1) 1,()),())).1).1,(((ao (ba b.1 0)
 ((aC i64 (kg i64<|jv IntKind.u64 (kg IntKind.u64<|aC i64 a.1.1 a.1.2.1) 1) 1,a.1.2.1,()),()) ((a.1.1,kg i64<|jv IntKind.u64 (kg IntKind.u64<|aC i64 a.1.1 a.1.2.1) 1,()),())).1).2).1,()),()))))
 (aa<|aH (0,(a.1.1,a.1.2.1,()),())))
def ev(x:(List lQ)×Sb×al):Option (Int×Bool×al) :=
 ae (Loop (jD x) ((0,len x.1,()),())) (λa=>ao (ba a.1.1<|len x.1)
 (ae (idx x.1 a.1.1) λb=>ae (mJ (b,x.2.1,())) λc=>aa (a.1.1,aR c.1 0,())) (aa (a.1.1,false,())))
def oN(x:(List lQ)×Sb×al):Option (Int×al) :=
 ao (bA x.2.1 []) (aa (0,())) (ae (ev (x.1,x.2.1,())) λa=>ao (nt a.2.1)
 (aa (3,())) (ae (idx x.1 a.1) λb=>ao (nt<|aR b.2.1 2)
 (aa (12,())) (aa (0,()))))
def rf(x:(List lQ)×al)(a:NF×al):Option ((NF×al)⊕(Nat×NF×al)) :=
 ao (ba a.1.2.1<|len x.1) (ae (idx x.1 a.1.2.1) λb=>ae (gn (b.1,())) λd=>ae (Bt (b,())) λe=>ao (nt e.1)
 (aa<|aH (1,(1,a.1.2.1,()),())) (ao (ba 0 a.1.2.1)
 (ae (idx x.1<|cR i64 a.1.2.1 1) λc=>ae (gW (c.1,b.1,())) λf=>ao (cm 0 f.1)
 (aa<|aH (1,(1,a.1.2.1,()),())) (ao (inside 0 a.1.2.1<|len x.1)
 (ae (oN (sub x.1 0<|minus a.1.2.1 0,d.1,())) λg=>ao (nt<|aR g.1 0)
 (aa<|aH (1,(1,a.1.2.1,()),())) (aa<|aG ((a.1.1,aC i64 a.1.2.1 1,()),())))
 af))
 (ao (inside 0 a.1.2.1<|len x.1)
 (ae (oN (sub x.1 0<|minus a.1.2.1 0,d.1,())) λc=>ao (nt<|aR c.1 0)
 (aa<|aH (1,(1,a.1.2.1,()),())) (aa<|aG ((a.1.1,aC i64 a.1.2.1 1,()),())))
 af)))
 (aa<|aH (0,(a.1.1,a.1.2.1,()),()))
def ew(x:(List lQ)×al):Option (Int×al) :=
 ao (ba 64<|len x.1) (aa (1,())) (ae (Loop (rf x) ((0,0,()),())) λa=>ao (cF a.1 0)
 (aa (0,())) (aa (a.2.1.1,())))
def nI(x:(List lQ)×al):Option ((List lQ)×al) :=bif fits (len x.1) then aa (x.1,()) else af
def qz(x:(List lQ)×lQ×al)(a:NF×al×Sb×al):Option ((NF×al×Sb×al)⊕(Nat×NF×al×Sb×al)) :=
 ao (ba a.1.2.1<|len x.1) (ao (within a.1.2.1<|len x.1)
 (ae (idx x.1 a.1.2.1) λc=>ae (ao (nt<|bA c.1 a.2.2.1)
 (ae (dv (c.1,a.2.2.1,())) λb=>aa b.1) (aa true)) λb=>ao b
 (aa<|aH (1,(a.1.2.1,a.1.2.1,()),(),a.2.2.1,())) (aa<|aG ((a.1.1,aC i64 a.1.2.1 1,()),(),a.2.2.1,())))
 af)
 (aa<|aH (0,(a.1.1,a.1.2.1,()),(),a.2.2.1,()))
def Tj(a:(Int×Int×al×al)×al×Sb×(List lQ)×al):Option (als⊕als) :=
 cf (ao (ba a.1.2.1<|len a.2.2.2.1)
 (ao (within a.1.2.1<|len a.2.2.2.1)
 (ae (idx a.2.2.2.1 a.1.2.1) λb=>ae (ao (nt<|bA b.1 a.2.2.1)
 (ae (dv (b.1,a.2.2.1,())) λc=>aa c.1) (aa true)) λc=>ae (ao (nt c) (ao (within a.1.1<|len a.2.2.2.1)
 (ae (idx a.2.2.2.1 a.1.1) λd=>ae (idx a.2.2.2.1 a.1.1) λe=>ae (idx a.2.2.2.1 a.1.1) λf=>aa ((aC i64 a.1.1 1,(),()),oo a.2.2.2.1 a.1.1 b,())) af)
 (aa ((a.1.1,(),()),a.2.2.2.1,()))) λd=>aa (aG ((d.1.1,aC i64 a.1.2.1 1,(),()),(),a.2.2.1,d.2.1,())))
 af)
 (aa<|aH (0,(a.1.1,a.1.2.1,(),()),(),a.2.2.1,a.2.2.2.1,())))
def qA(a:(Int×Int×al×al)×al×Sb×(List lQ)×al):Option (als⊕als) :=
 cf (ao (ba a.1.2.1<|len a.2.2.2.1)
 (ao (within a.1.2.1<|len a.2.2.2.1)
 (ae (idx a.2.2.2.1 a.1.2.1) λb=>ae (ao (nt<|bA b.1 a.2.2.1)
 (ae (dv (b.1,a.2.2.1,())) λc=>aa c.1) (aa true)) λc=>ae (ao (nt c) (ao (within a.1.1<|len a.2.2.2.1)
 (ae (idx a.2.2.2.1 a.1.1) λd=>ae (idx a.2.2.2.1 a.1.1) λe=>ae (idx a.2.2.2.1 a.1.1) λf=>aa ((aC i64 a.1.1 1,(),()),oo a.2.2.2.1 a.1.1 b,())) af)
 (aa ((a.1.1,(),()),a.2.2.2.1,()))) λd=>aa (aG ((d.1.1,aC i64 a.1.2.1 1,(),()),(),a.2.2.1,d.2.1,())))
 af)
 (aa<|aH (0,(a.1.1,a.1.2.1,(),()),(),a.2.2.1,a.2.2.2.1,())))
def uO(x:(List lQ)×lQ×al):Option ((List lQ)×Int×al) :=
 ae (ew (x.1,())) (λj=>ae (ao (nt<|nt<|aR j.1 0)
 (ae (Bt (x.2.1,())) λf=>aa (nt f.1)) (aa true)) λf=>ao f
 (aa ([],1,())) (ae (gn (x.2.1.1,())) λk=>ae (oN (x.1,k.1,())) λh=>ao (nt<|aR h.1 0)
 (aa ([],h.1,())) (ae (ev (x.1,x.2.1.1,())) λd=>ae (ao d.2.1
 (ae (idx x.1 d.1) λg=>aa (aR g.2.1 2)) (aa false)) λg=>ao (ao g (aR x.2.1.2.1 2) false)
 (ao (fits<|len x.1)
 (ao (within d.1<|len x.1)
 (ae (idx x.1 d.1) λi=>ae (idx x.1 d.1) λc=>ae (idx x.1 d.1) λa=>aa (oo x.1 d.1 x.2.1,0,())) af)
 af)
 (ae (ew (x.1,())) λi=>ao (nt<|aR i.1 0)
 (ao (cm 64<|len ([]:List lQ))
 (aa ([],5,())) (ae (ev ([],x.2.1.1,())) λc=>af))
 (ao (fits<|len x.1)
 (ae (Loop (qz x) ((0,0,()),(),x.2.1.1,())) λc=>ao (cF c.1 0)
 (ao (aR (-1)<|-1)
 (ao (cm 64<|len x.1)
 (aa ([],5,())) (ae (ev (x.1,x.2.1.1,())) λa=>ae (bc x.1 (a.1,[x.2.1],())) λb=>aa (b,0,())))
 (ae (Loop (Tj) (((-1),aC i64 (-1) 1,(),()),(),c.2.2.2.1,x.1,())) λa=>ao (inside a.1.1 (len a.2.2.2.1)<|len a.2.2.2.1)
 (ao (inside 0 a.1.1<|len<|over a.2.2.2.1 a.1.1<|oq (minus (len a.2.2.2.1) a.1.1) ([],0,0,[],[],()))
 (ao (cm 64<|minus a.1.1 0)
 (aa ([],5,())) (ae (ev (sub (over a.2.2.2.1 a.1.1<|oq (minus (len a.2.2.2.1) a.1.1) ([],0,0,[],[],())) 0<|minus a.1.1 0,x.2.1.1,())) λb=>ae (bc (sub (over a.2.2.2.1 a.1.1<|oq (minus (len a.2.2.2.1) a.1.1) ([],0,0,[],[],())) 0<|minus a.1.1 0) (b.1,[x.2.1],())) λe=>aa (e,0,())))
 af)
 af))
 (ao (aR c.2.1.1<|-1)
 (ao (cm 64<|len x.1)
 (aa ([],5,())) (ae (ev (x.1,x.2.1.1,())) λa=>ae (bc x.1 (a.1,[x.2.1],())) λb=>aa (b,0,())))
 (ae (Loop (qA) ((c.2.1.1,aC i64 c.2.1.1 1,(),()),(),c.2.2.2.1,x.1,())) λa=>ao (inside a.1.1 (len a.2.2.2.1)<|len a.2.2.2.1)
 (ao (inside 0 a.1.1<|len<|over a.2.2.2.1 a.1.1<|oq (minus (len a.2.2.2.1) a.1.1) ([],0,0,[],[],()))
 (ao (cm 64<|minus a.1.1 0)
 (aa ([],5,())) (ae (ev (sub (over a.2.2.2.1 a.1.1<|oq (minus (len a.2.2.2.1) a.1.1) ([],0,0,[],[],())) 0<|minus a.1.1 0,x.2.1.1,())) λb=>ae (bc (sub (over a.2.2.2.1 a.1.1<|oq (minus (len a.2.2.2.1) a.1.1) ([],0,0,[],[],())) 0<|minus a.1.1 0) (b.1,[x.2.1],())) λe=>aa (e,0,())))
 af)
 af)))
 af)))))
def zO(x:(List lQ)×Sb×al):Option (lQ×Bool×al) :=
 ae (ew (x.1,())) (λb=>ao (nt<|aR b.1 0)
 (aa (([],0,0,[],[],()),false,())) (ae (ev (x.1,x.2.1,())) λa=>ao (nt a.2.1)
 (aa (([],0,0,[],[],()),false,())) (ae (idx x.1 a.1) λc=>aa (c,true,()))))
def nV(x:Sb×al)(a:(Bool×Int×al)×al):Option (((Bool×Int×al)×al)⊕(Nat×(Bool×Int×al)×al)) :=
 ao (ba a.1.2.1<|len x.1) (ae (idx x.1 a.1.2.1) λb=>ao (aR (u8 b) 0)
 (aa<|aH (1,(false,a.1.2.1,()),())) (aa<|aG ((a.1.1,aC i64 a.1.2.1 1,()),())))
 (aa<|aH (0,(a.1.1,a.1.2.1,()),()))
def tp(x:Sb×al):Option (Bool×al) :=
 ae (Loop (nV x) ((false,0,()),())) (λa=>ao (cF a.1 0)
 (aa (ao (cm 1<|len x.1)
 (cm (len x.1) 100) false,()))
 (aa (a.2.1.1,())))
def lV(x:lQ×al):Option (Bool×al) :=
 ae (kr (x.1.1,())) (λb=>ae (tn (b.2.1,())) λc=>ae (ao (nt<|bA x.1.1 [])
 (ae (yF (x.1.1,())) λa=>aa a.1) (aa false)) λa=>ao (aR x.1.2.1 1)
 (aa (ao (ao (ao (ao (ao (ao (ao a
 (cm (len x.1.1) 92) false)
 (cm (len b.2.1) 28) false)
 (aR c.1 0) false)
 (cm 0 x.1.2.2.1) false)
 (cm x.1.2.2.1 4095) false)
 (bA x.1.2.2.2.2.1 []) false)
 (cm (len x.1.2.2.2.1) 8192) false,()))
 (ao (aR x.1.2.1 2)
 (aa (ao (ao (ao (ao (ao (ao (ao a
 (cm (len x.1.1) 92) false)
 (cm (len b.2.1) 28) false)
 (aR c.1 0) false)
 (cm 0 x.1.2.2.1) false)
 (cm x.1.2.2.1 4095) false)
 (bA x.1.2.2.2.2.1 []) false)
 (bA x.1.2.2.2.1 []) false,()))
 (ao (aR x.1.2.1 3)
 (ae (ao (ao (ao (ao (ao (ao (ao a
 (cm (len x.1.1) 92) false)
 (cm (len b.2.1) 28) false)
 (aR c.1 0) false)
 (cm 0 x.1.2.2.1) false)
 (cm x.1.2.2.1 4095) false)
 (bA x.1.2.2.2.1 []) false)
 (ae (tp (x.1.2.2.2.2.1,())) λd=>aa d.1) (aa false)) λd=>aa (d,()))
 (aa (false,())))))
def rh(x:(List lQ)×Sb×al)(a:NF×al):Option ((NF×al)⊕(Nat×NF×al)) :=
 ao (ba a.1.2.1<|len x.1) (ae (idx x.1 a.1.2.1) λb=>ao (bA b.1 x.2.1)
 (aa<|aH (1,(a.1.2.1,a.1.2.1,()),())) (aa<|aG ((a.1.1,aC i64 a.1.2.1 1,()),())))
 (aa<|aH (0,(a.1.1,a.1.2.1,()),()))
def ic(x:(List lQ)×Sb×al):Option (Int×al) :=
 ae (Loop (rh x) ((0,0,()),())) (λa=>ao (cF a.1 0)
 (aa ((-1),())) (aa (a.2.1.1,())))
def oO(x:(List lQ)×Sb×al):Option (Bool×al) :=
 ae (ic (x.1,x.2.1,())) (λb=>ae (ao (nt<|bA x.2.1 [])
 (ae (ao (cm 0 b.1)
 (ae (idx x.1 b.1) λa=>aa (aR a.2.1 2)) (aa false)) λa=>aa a)
 (aa true)) λa=>aa (a,()))
def vp(x:(List lQ)×al)(a:(Bool×Int×al)×al):Option (((Bool×Int×al)×al)⊕(Nat×(Bool×Int×al)×al)) :=
 ao (ba a.1.2.1<|len x.1) (ae (idx x.1 a.1.2.1) λb=>ae (kr (b.1,())) λc=>ae (idx x.1 a.1.2.1) λd=>ae (lV (d,())) λe=>ao (nt e.1)
 (aa<|aH (1,(false,a.1.2.1,()),())) (ae (oO (x.1,c.1,())) λf=>ao (nt f.1)
 (aa<|aH (1,(false,a.1.2.1,()),())) (ao (ba 0 a.1.2.1)
 (ae (idx x.1<|cR i64 a.1.2.1 1) λg=>ae (idx x.1 a.1.2.1) λh=>ae (jC (g.1,h.1,())) λi=>ao (cm 0 i.1)
 (aa<|aH (1,(false,a.1.2.1,()),())) (aa<|aG ((a.1.1,aC i64 a.1.2.1 1,()),())))
 (aa<|aG ((a.1.1,aC i64 a.1.2.1 1,()),())))))
 (aa<|aH (0,(a.1.1,a.1.2.1,()),()))
def iS(x:(List lQ)×al):Option (Bool×al) :=
 ao (ba 64<|len x.1) (aa (false,())) (ae (Loop (vp x) ((false,0,()),())) λa=>ao (cF a.1 0)
 (aa (true,())) (aa (a.2.1.1,())))
def ma(x:(List lQ)×Sb×Bool×al)(a:(al×Int×al)×(List lQ)×al):Option (((al×Int×al)×(List lQ)×al)⊕((al×Int×al)×(List lQ)×al)) :=
 cf (ao (ba a.1.2.1<|len x.1)
 (ae (idx x.1 a.1.2.1) λd=>ae (vn (d.1,x.2.1,())) λe=>ae (ao (nt e.1)
 (ae (ao (nt<|nt x.2.2.1)
 (ae (idx x.1 a.1.2.1) λb=>aa (nt<|bA b.1 x.2.1)) (aa true)) λb=>aa b)
 (aa false)) λb=>ae (ao b (ae (idx x.1 a.1.2.1) λc=>ao (fits<|plus (len a.2.1)<|len [c])
 (aa (((),()),app a.2.1 [c],())) af)
 (aa (((),()),a.2.1,()))) λc=>aa (aG (((),aC i64 a.1.2.1 1,()),c.2.1,())))
 (aa<|aH (0,((),a.1.2.1,()),a.2.1,())))
def jE(x:(List lQ)×Sb×Bool×al):Option ((List lQ)×al) :=ae (Loop (ma x) (((),0,()),[],())) (λa=>aa (a.2.1,()))
def lu(x:(List lQ)×lQ×al)(d:((List lQ)×al)×al)(a:(Int×al)×al):Option (((Int×al)×al)⊕((Int×al)×al)) :=
 cf (ao (ba a.1.1<|len d.1.1)
 (ae (idx d.1.1 a.1.1) λb=>ae (jC (b.1,x.2.1.1,())) λc=>ao (ba c.1 0)
 (aa<|aG ((aC i64 a.1.1 1,()),())) (aa<|aH (0,(a.1.1,()),())))
 (aa<|aH (0,(a.1.1,()),())))
def oP(x:(List lQ)×lQ×al):Option ((List lQ)×Int×al) :=
 ae (iS (x.1,())) (λh=>ae (ao (nt<|nt h.1)
 (ae (lV (x.2.1,())) λd=>aa (nt d.1)) (aa true)) λd=>ao d
 (aa ([],1,())) (ae (kr (x.2.1.1,())) λe=>ae (ao (nt<|bA e.1 [])
 (ae (ic (x.1,e.1,())) λf=>aa (ba f.1 0)) (aa false)) λf=>ao f
 (aa ([],3,())) (ae (oO (x.1,e.1,())) λi=>ao (nt i.1)
 (aa ([],12,())) (ae (ic (x.1,x.2.1.1,())) λb=>ae (ao (cm 0 b.1)
 (ae (idx x.1 b.1) λg=>aa (aR g.2.1 2)) (aa false)) λg=>ae (ao (ao g
 (aR x.2.1.2.1 2) false)
 (ao (inside 0 b.1<|len x.1)
 (ao (fits<|plus (len ([]:List lQ))<|len<|sub x.1 0<|minus b.1 0)
 (ao (inside (aC i64 b.1 1) (len x.1)<|len x.1)
 (ao (fits<|plus (len<|app []<|sub x.1 0<|minus b.1 0)<|len<|sub x.1 (aC i64 b.1 1)<|minus (len x.1)<|aC i64 b.1 1)
 (aa ((app (app []<|sub x.1 0<|minus b.1 0)<|sub x.1 (aC i64 b.1 1)<|minus (len x.1)<|aC i64 b.1 1,()),())) af)
 af)
 af)
 af)
 (ae (ao (cm 0 b.1)
 (ae (jE (x.1,x.2.1.1,true,())) λa=>aa ((a.1,()),())) (aa ((x.1,()),()))) λa=>aa ((a.1.1,()),()))) λa=>ao (cm 64<|len a.1.1)
 (aa ([],5,())) (ae (Loop (lu x a) ((0,()),())) λc=>ao (inside 0 c.1.1<|len a.1.1)
 (ao (fits<|plus (len ([]:List lQ))<|len<|sub a.1.1 0<|minus c.1.1 0)
 (ao (fits<|plus (len<|app []<|sub a.1.1 0<|minus c.1.1 0)<|len [x.2.1])
 (ao (inside c.1.1 (len a.1.1)<|len a.1.1)
 (ao (fits<|plus (len<|app (app []<|sub a.1.1 0<|minus c.1.1 0) [x.2.1])<|len<|sub a.1.1 c.1.1<|minus (len a.1.1) c.1.1)
 (aa (app (app (app []<|sub a.1.1 0<|minus c.1.1 0) [x.2.1])<|sub a.1.1 c.1.1<|minus (len a.1.1) c.1.1,0,())) af)
 af)
 af)
 af)
 af)))))
end Go.Ge
namespace Go.Ge
variable [Lp]
set_option maxRecDepth 100000
abbrev Gw:=(List<|Sb×Int×Int×Sb×Sb×al)
abbrev Zq:=((Int×Int×al×al)×al×Sb×Gw×al)
def lv(x:Gw×Sb×al)(a:(Int×Int×al)×al×Sb×al):Option (((Int×Int×al)×al×Sb×al)⊕(Nat×(Int×Int×al)×al×Sb×al)) :=
 ao (ba a.1.2.1<|len x.1) (ao (within a.1.2.1<|len x.1)
 (ae (idx x.1 a.1.2.1) λc=>ae (ao (nt<|bA c.1 a.2.2.1)
 (ae (dv (c.1,a.2.2.1,())) λb=>aa b.1) (aa true)) λb=>ao b
 (aa<|aH (1,(a.1.2.1,a.1.2.1,()),(),a.2.2.1,())) (aa<|aG ((a.1.1,aC i64 a.1.2.1 1,()),(),a.2.2.1,())))
 af)
 (aa<|aH (0,(a.1.1,a.1.2.1,()),(),a.2.2.1,()))
def K2(a:(Int×Int×al×al)×al×Sb×Gw×al):Option (Zq⊕Zq) :=
 cf (ao (ba a.1.2.1<|len a.2.2.2.1)
 (ao (within a.1.2.1<|len a.2.2.2.1)
 (ae (idx a.2.2.2.1 a.1.2.1) λb=>ae (ao (nt<|bA b.1 a.2.2.1)
 (ae (dv (b.1,a.2.2.1,())) λc=>aa c.1) (aa true)) λc=>ae (ao (nt c) (ao (within a.1.1<|len a.2.2.2.1)
 (ae (idx a.2.2.2.1 a.1.1) λd=>ae (idx a.2.2.2.1 a.1.1) λe=>ae (idx a.2.2.2.1 a.1.1) λf=>aa ((aC i64 a.1.1 1,(),()),oo a.2.2.2.1 a.1.1 b,())) af)
 (aa ((a.1.1,(),()),a.2.2.2.1,()))) λd=>aa (aG ((d.1.1,aC i64 a.1.2.1 1,(),()),(),a.2.2.1,d.2.1,())))
 af)
 (aa<|aH (0,(a.1.1,a.1.2.1,(),()),(),a.2.2.1,a.2.2.2.1,())))
def lz(a:(Int×Int×al×al)×al×Sb×Gw×al):Option (Zq⊕Zq) :=
 cf (ao (ba a.1.2.1<|len a.2.2.2.1)
 (ao (within a.1.2.1<|len a.2.2.2.1)
 (ae (idx a.2.2.2.1 a.1.2.1) λb=>ae (ao (nt<|bA b.1 a.2.2.1)
 (ae (dv (b.1,a.2.2.1,())) λc=>aa c.1) (aa true)) λc=>ae (ao (nt c) (ao (within a.1.1<|len a.2.2.2.1)
 (ae (idx a.2.2.2.1 a.1.1) λd=>ae (idx a.2.2.2.1 a.1.1) λe=>ae (idx a.2.2.2.1 a.1.1) λf=>aa ((aC i64 a.1.1 1,(),()),oo a.2.2.2.1 a.1.1 b,())) af)
 (aa ((a.1.1,(),()),a.2.2.2.1,()))) λd=>aa (aG ((d.1.1,aC i64 a.1.2.1 1,(),()),(),a.2.2.1,d.2.1,())))
 af)
 (aa<|aH (0,(a.1.1,a.1.2.1,(),()),(),a.2.2.1,a.2.2.2.1,())))
def vq(x:Gw×Sb×al):Option (Gw×al) :=
 ae (ew (x.1,())) (λc=>ao (nt<|aR c.1 0)
 (aa ([],())) (ao (fits<|len x.1)
 (ae (Loop (lv x) ((0,0,()),(),x.2.1,())) λb=>ao (cF b.1 0)
 (ao (aR (-1)<|-1)
 (aa (x.1,())) (ae (Loop (K2) (((-1),aC i64 (-1) 1,(),()),(),b.2.2.2.1,x.1,())) λa=>ao (inside a.1.1 (len a.2.2.2.1)<|len a.2.2.2.1)
 (ao (inside 0 a.1.1<|len<|over a.2.2.2.1 a.1.1<|oq (minus (len a.2.2.2.1) a.1.1) ([],0,0,[],[],()))
 (aa (sub (over a.2.2.2.1 a.1.1<|oq (minus (len a.2.2.2.1) a.1.1) ([],0,0,[],[],())) 0<|minus a.1.1 0,())) af)
 af))
 (ao (aR b.2.1.1<|-1)
 (aa (x.1,())) (ae (Loop (lz) ((b.2.1.1,aC i64 b.2.1.1 1,(),()),(),b.2.2.2.1,x.1,())) λa=>ao (inside a.1.1 (len a.2.2.2.1)<|len a.2.2.2.1)
 (ao (inside 0 a.1.1<|len<|over a.2.2.2.1 a.1.1<|oq (minus (len a.2.2.2.1) a.1.1) ([],0,0,[],[],()))
 (aa (sub (over a.2.2.2.1 a.1.1<|oq (minus (len a.2.2.2.1) a.1.1) ([],0,0,[],[],())) 0<|minus a.1.1 0,())) af)
 af)))
 af))
def pE(x:Gw×Sb×al):Option ((Sb×Int×Int×Sb×Sb×al)×Bool×al) :=
 ae (ic (x.1,x.2.1,())) (λa=>ae (iS (x.1,())) λb=>ao (ao (nt<|nt b.1)
 (ba a.1 0) true)
 (aa (([],0,0,[],[],()),false,())) (ae (idx x.1 a.1) λc=>aa (c,true,())))
def tq(x:Gw×Sb×al):Option (Gw×al) :=
 ae (iS (x.1,())) (λa=>ao (nt a.1)
 (aa ([],())) (ae (jE (x.1,x.2.1,true,())) λb=>aa (b.1,())))
def mK(x:Gw×Sb×al)(a:(Int×Int×al)×al×Sb×al):Option (((Int×Int×al)×al×Sb×al)⊕(Nat×(Int×Int×al)×al×Sb×al)) :=
 ao (ba a.1.2.1<|len x.1) (ao (within a.1.2.1<|len x.1)
 (ae (idx x.1 a.1.2.1) λb=>ae (dv (b.1,a.2.2.1,())) λc=>ao c.1
 (aa<|aH (1,(a.1.2.1,a.1.2.1,()),(),a.2.2.1,())) (aa<|aG ((a.1.1,aC i64 a.1.2.1 1,()),(),a.2.2.1,())))
 af)
 (aa<|aH (0,(a.1.1,a.1.2.1,()),(),a.2.2.1,()))
def NG(a:(Int×Int×al×al)×al×Sb×Gw×al):Option (Zq⊕Zq) :=
 cf (ao (ba a.1.2.1<|len a.2.2.2.1)
 (ao (within a.1.2.1<|len a.2.2.2.1)
 (ae (idx a.2.2.2.1 a.1.2.1) λc=>ae (dv (c.1,a.2.2.1,())) λd=>ae (ao (nt d.1)
 (ao (within a.1.1<|len a.2.2.2.1)
 (ae (idx a.2.2.2.1 a.1.1) λb=>ae (idx a.2.2.2.1 a.1.1) λe=>ae (idx a.2.2.2.1 a.1.1) λf=>aa ((aC i64 a.1.1 1,(),()),oo a.2.2.2.1 a.1.1 c,())) af)
 (aa ((a.1.1,(),()),a.2.2.2.1,()))) λb=>aa (aG ((b.1.1,aC i64 a.1.2.1 1,(),()),(),a.2.2.1,b.2.1,())))
 af)
 (aa<|aH (0,(a.1.1,a.1.2.1,(),()),(),a.2.2.1,a.2.2.2.1,())))
def mL(a:(Int×Int×al×al)×al×Sb×Gw×al):Option (Zq⊕Zq) :=
 cf (ao (ba a.1.2.1<|len a.2.2.2.1)
 (ao (within a.1.2.1<|len a.2.2.2.1)
 (ae (idx a.2.2.2.1 a.1.2.1) λc=>ae (dv (c.1,a.2.2.1,())) λd=>ae (ao (nt d.1)
 (ao (within a.1.1<|len a.2.2.2.1)
 (ae (idx a.2.2.2.1 a.1.1) λb=>ae (idx a.2.2.2.1 a.1.1) λe=>ae (idx a.2.2.2.1 a.1.1) λf=>aa ((aC i64 a.1.1 1,(),()),oo a.2.2.2.1 a.1.1 c,())) af)
 (aa ((a.1.1,(),()),a.2.2.2.1,()))) λb=>aa (aG ((b.1.1,aC i64 a.1.2.1 1,(),()),(),a.2.2.1,b.2.1,())))
 af)
 (aa<|aH (0,(a.1.1,a.1.2.1,(),()),(),a.2.2.1,a.2.2.2.1,())))
def xE(x:Gw×Sb×al):Option (Gw×al) :=
 ae (ew (x.1,())) (λc=>ao (nt<|aR c.1 0)
 (aa ([],())) (ao (fits<|len x.1)
 (ae (Loop (mK x) ((0,0,()),(),x.2.1,())) λb=>ao (cF b.1 0)
 (ao (aR (-1)<|-1)
 (aa (x.1,())) (ae (Loop (NG) (((-1),aC i64 (-1) 1,(),()),(),b.2.2.2.1,x.1,())) λa=>ao (inside a.1.1 (len a.2.2.2.1)<|len a.2.2.2.1)
 (ao (inside 0 a.1.1<|len<|over a.2.2.2.1 a.1.1<|oq (minus (len a.2.2.2.1) a.1.1) ([],0,0,[],[],()))
 (aa (sub (over a.2.2.2.1 a.1.1<|oq (minus (len a.2.2.2.1) a.1.1) ([],0,0,[],[],())) 0<|minus a.1.1 0,())) af)
 af))
 (ao (aR b.2.1.1<|-1)
 (aa (x.1,())) (ae (Loop (mL) ((b.2.1.1,aC i64 b.2.1.1 1,(),()),(),b.2.2.2.1,x.1,())) λa=>ao (inside a.1.1 (len a.2.2.2.1)<|len a.2.2.2.1)
 (ao (inside 0 a.1.1<|len<|over a.2.2.2.1 a.1.1<|oq (minus (len a.2.2.2.1) a.1.1) ([],0,0,[],[],()))
 (aa (sub (over a.2.2.2.1 a.1.1<|oq (minus (len a.2.2.2.1) a.1.1) ([],0,0,[],[],())) 0<|minus a.1.1 0,())) af)
 af)))
 af))
def vr(x:Gw×Sb×al):Option (Gw×al) :=
 ae (iS (x.1,())) (λa=>ao (nt a.1)
 (aa ([],())) (ae (jE (x.1,x.2.1,false,())) λb=>aa (b.1,())))
end Go.Ge
namespace Go.Ge
variable [Lp]
set_option maxRecDepth 100000
abbrev Jp:=(List<|Sb×Int×Int×Sb×Sb×al)
abbrev QD:=(List<|Int×Sb×al)
abbrev Zr:=(QD×Int×al)
def mb(a:(Jp×Jp×al)×al×al×QD×al):Option (((Jp×Jp×al)×al×al×QD×al)⊕((Jp×Jp×al)×al×al×QD×al)) :=
 cf (ao (ao (nt<|ba 0<|len a.1.1)
 (ba 0<|len a.1.2.1) true)
 (ae (ao (aR (len a.1.1) 0)
 (aa ((1,()),())) (ae (ao (aR (len a.1.2.1) 0)
 (aa (((-1),()),())) (ae (idx a.1.1 0) λd=>ae (idx a.1.2.1 0) λb=>ae (gW (d.1,b.1,())) λc=>aa ((c.1,()),()))) λd=>aa ((d.1.1,()),()))) λd=>ae (ao (ba d.1.1 0)
 (ae (idx a.1.1 0) λb=>ao (fits<|plus (len a.2.2.2.1)<|len [((3:Int),b.1,())])
 (aa ((),(),(),app a.2.2.2.1 [((3:Int),b.1,())],())) af)
 (ae (ao (ba 0 d.1.1)
 (ae (idx a.1.2.1 0) λb=>ao (fits<|plus (len a.2.2.2.1)<|len [((1:Int),b.1,())])
 (aa ((),(),(),app a.2.2.2.1 [((1:Int),b.1,())],())) af)
 (ae (idx a.1.1 0) λb=>ae (idx a.1.2.1 0) λc=>ae (ao (nt<|an (bA b.1 c.1)<|an (aR b.2.1 c.2.1)<|an (aR b.2.2.1 c.2.2.1)<|an (bA b.2.2.2.1 c.2.2.2.1)<|an (bA b.2.2.2.2.1 c.2.2.2.2.1) true)
 (ao (fits<|plus (len a.2.2.2.1)<|len [((2:Int),b.1,())])
 (aa ((),(),(),app a.2.2.2.1 [((2:Int),b.1,())],())) af)
 (aa ((),(),(),a.2.2.2.1,()))) λe=>aa ((),(),(),e.2.2.2.1,()))) λb=>aa ((),(),(),b.2.2.2.1,()))) λb=>ae (ao (cm d.1.1 0)
 (ao (inside 1 (len a.1.1)<|len a.1.1)
 (aa ((sub a.1.1 1<|minus (len a.1.1) 1,()),())) af)
 (aa ((a.1.1,()),()))) λc=>ae (ao (cm 0 d.1.1) (ao (inside 1 (len a.1.2.1)<|len a.1.2.1)
 (aa ((sub a.1.2.1 1<|minus (len a.1.2.1) 1,()),())) af)
 (aa ((a.1.2.1,()),()))) λe=>aa (aG ((c.1.1,e.1.1,()),(),(),b.2.2.2.1,())))
 (aa<|aH (0,(a.1.1,a.1.2.1,()),(),(),a.2.2.2.1,())))
def ri(x:Jp×Jp×al):Option Zr :=
 ae (ew (x.1,())) (λb=>ae (ao (nt<|nt<|aR b.1 0)
 (ae (ew (x.2.1,())) λa=>aa (nt<|aR a.1 0)) (aa true)) λa=>ao a
 (aa ([],1,())) (ae (Loop (mb) ((x.1,x.2.1,()),(),(),[],())) λc=>aa (c.2.2.2.1,0,())))
def mM(x:QD×al)(a:(Int×al)×(al×al×al)×(List<|Int)×al):Option (((Int×al)×(al×al×al)×(List<|Int)×al)⊕((Int×al)×(al×al×al)×(List<|Int)×al)) :=
 cf (ao (ba a.1.1<|len x.1)
 (ae (idx x.1 a.1.1) λc=>ae (ao (ao (cm 1 c.1)
 (cm c.1 3) false)
 (ao (within c.1 4)
 (ae (idx [([]:bj),([43]:bj),([126]:bj),([45]:bj)] c.1) λb=>aa ((b,()),())) af)
 (aa (([63],()),()))) λb=>ao (fits<|plus (len b.1.1)<|len ([32]:bj))
 (ae (l9 (c.2.1,())) λd=>ao (fits<|plus (len<|app b.1.1 [32])<|len d.1)
 (ao (fits<|plus (len<|app (app b.1.1 [32]) d.1)<|len ([10]:bj))
 (ao (fits<|plus (len a.2.2.1)<|len<|aB<|app (app (app b.1.1 [32]) d.1) [10])
 (aa<|aG ((aC i64 a.1.1 1,()),((),(),a.2.1.2.2),app a.2.2.1<|aB<|app (app (app b.1.1 [32]) d.1) [10],())) af)
 af)
 af)
 af)
 (aa<|aH (0,(a.1.1,()),((),(),a.2.1.2.2),a.2.2.1,())))
def xF(x:QD×al):Option (Sb×al) :=ae (Loop (mM x) ((0,()),((),(),()),[],())) (λa=>aa (br a.2.2.1,()))
def oQ(x:QD×(Int×Sb×al)×al)(a:(Int×al)×al):Option (((Int×al)×al)⊕((Int×al)×al)) :=
 cf (ao (ba a.1.1<|len x.1)
 (ae (idx x.1 a.1.1) λb=>ae (jC (b.2.1,x.2.1.2.1,())) λc=>ao (ba c.1 0)
 (aa<|aG ((aC i64 a.1.1 1,()),())) (aa<|aH (0,(a.1.1,()),())))
 (aa<|aH (0,(a.1.1,()),())))
def su(x:QD×(Int×Sb×al)×al):Option (QD×al) :=
 ae (Loop (oQ x) ((0,()),())) (λa=>ao (inside 0 a.1.1<|len x.1)
 (ao (fits<|plus (len ([]:List (Int×Sb×al)))<|len<|sub x.1 0<|minus a.1.1 0)
 (ao (fits<|plus (len<|app []<|sub x.1 0<|minus a.1.1 0)<|len [x.2.1])
 (ao (inside a.1.1 (len x.1)<|len x.1)
 (ao (fits<|plus (len<|app (app []<|sub x.1 0<|minus a.1.1 0) [x.2.1])<|len<|sub x.1 a.1.1<|minus (len x.1) a.1.1)
 (aa (app (app (app []<|sub x.1 0<|minus a.1.1 0) [x.2.1])<|sub x.1 a.1.1<|minus (len x.1) a.1.1,())) af)
 af)
 af)
 af)
 af)
def mc(x:Jp×Jp×al)(a:Zr×al):Option ((Zr×al)⊕(Zr×al)) :=
 cf (ao (ba a.1.2.1<|len x.1)
 (ae (idx x.1 a.1.2.1) λe=>ae (pE (x.2.1,e.1,())) λc=>ae (ao (nt c.2.1)
 (ae (idx x.1 a.1.2.1) λb=>ae (su (a.1.1,(3,b.1,()),())) λd=>aa ((d.1,()),())) (ae (idx x.1 a.1.2.1) λb=>ae (ao (nt<|an (bA c.1.1 b.1)<|an (aR c.1.2.1 b.2.1)<|an (aR c.1.2.2.1 b.2.2.1)<|an (bA c.1.2.2.2.1 b.2.2.2.1)<|an (bA c.1.2.2.2.2.1 b.2.2.2.2.1) true)
 (ae (idx x.1 a.1.2.1) λd=>ae (su (a.1.1,(2,d.1,()),())) λf=>aa ((f.1,()),())) (aa ((a.1.1,()),()))) λd=>aa ((d.1.1,()),()))) λb=>aa (aG ((b.1.1,aC i64 a.1.2.1 1,()),())))
 (aa<|aH (0,(a.1.1,a.1.2.1,()),())))
def mf(x:Jp×Jp×al)(a:Zr×al):Option ((Zr×al)⊕(Zr×al)) :=
 cf (ao (ba a.1.2.1<|len x.2.1)
 (ae (idx x.2.1 a.1.2.1) λc=>ae (pE (x.1,c.1,())) λd=>ae (ao (nt d.2.1)
 (ae (idx x.2.1 a.1.2.1) λb=>ae (su (a.1.1,(1,b.1,()),())) λe=>aa ((e.1,()),())) (aa ((a.1.1,()),()))) λb=>aa (aG ((b.1.1,aC i64 a.1.2.1 1,()),())))
 (aa<|aH (0,(a.1.1,a.1.2.1,()),())))
def mN(x:Jp×Jp×al):Option Zr :=
 ae (iS (x.1,())) (λb=>ae (ao (nt<|nt b.1)
 (ae (iS (x.2.1,())) λa=>aa (nt a.1)) (aa true)) λa=>ao a
 (aa ([],1,())) (ae (Loop (mc x) (([],0,()),())) λc=>ae (Loop (mf x) ((c.1.1,0,()),())) λd=>aa (d.1.1,0,())))
def rj(x:QD×al)(a:(Sb×Int×al)×al):Option (((Sb×Int×al)×al)⊕((Sb×Int×al)×al)) :=
 cf (ao (ba a.1.2.1<|len x.1)
 (ae (idx x.1 a.1.2.1) λf=>ae (ao (cm 1 f.1)
 (ae (idx x.1 a.1.2.1) λc=>aa (cm c.1 3)) (aa false)) λc=>ae (ao c (ae (idx x.1 a.1.2.1) λb=>ae (idx [([]:bj),([43]:bj),([126]:bj),([45]:bj)] b.1) λd=>aa ((d,()),())) (aa (([63],()),()))) λb=>ao (fits<|plus (len a.1.1)<|len b.1.1)
 (ao (fits<|plus (len<|app a.1.1 b.1.1)<|len ([32]:bj))
 (ae (idx x.1 a.1.2.1) λd=>ae (vZ (d.2.1,())) λe=>ao (fits<|plus (len<|app (app a.1.1 b.1.1) [32])<|len e.1)
 (ao (fits<|plus (len<|app (app (app a.1.1 b.1.1) [32]) e.1)<|len ([10]:bj))
 (aa<|aG ((app (app (app (app a.1.1 b.1.1) [32]) e.1) [10],aC i64 a.1.2.1 1,()),())) af)
 af)
 af)
 af)
 (aa<|aH (0,(a.1.1,a.1.2.1,()),())))
def tr(x:QD×al):Option (Sb×al) :=ae (Loop (rj x) (([],0,()),())) (λa=>aa (a.1.1,()))
end Go.Ge
