import Derived.Test.YtgklgliokhbcnaaGreatDoorGeI
import Derived.Lib.Repeat
set_option linter.unusedSectionVars false
set_option linter.unusedVariables false
set_option linter.unusedSimpArgs false
set_option linter.defProp false
noncomputable section
open Option renaming some->aa,none->af
open Sum renaming inl->ay,inr->az
open Go.IntKind (i64 u32)
namespace Go.Ge
abbrev Sb:=bb
variable [Lp]
def fC:(Ty.pair .str<|.pair (.int .u8) .unit).den->Option (Ty.pair (.int .i64) .unit).den:=λx=>aa (Lib.indexByte x.1 (show Int from x.2.1).toNat.toUInt8,())
def gn(s:bb)(c:Int):Option bb:=if c<0\/140737488355328<s.length*c.toNat then af else aa (Lib.repeatL s c.toNat)
def pA:bb×Int×aj->Option (bb×aj):=λx=>(gn x.1 x.2.1).map λy=>(y,())
def uv{s:bb}{c:Int}{y:bb}(h:gn s c=aa y):0<=c/\s.length*c.toNat<=140737488355328/\y=Lib.repeatL s c.toNat:=by
 unfold gn at h;split at h
 .cases h
 next hn =>
 have:=aI h;exact⟨ah,ah,this.symm⟩
def CU{s:bb}{c:Int}{y:bb}(h:gn s c=aa y):y.length<=maxLen:=by obtain⟨_,a,rfl⟩:=uv h;rw[Lib.repeatL_length,U3];exact fB a aF
def wG:bb×bb×aj->Option ((List bb)×aj):=λx=>(D1 x.1 x.2.1).map λy=>(y,())
def lN:(List bb)×bb×aj->Option (bb×aj):=λx=>(FN x.1 x.2.1).map λy=>(y,())
set_option maxRecDepth 100000
abbrev FP:=((Bool×(List<|Int)×aj)×(List<|Int)×Int×aj)
abbrev NF:=(((Int×aj)×(List<|Int)×aj)⊕((Int×aj)×(List<|Int)×aj))
abbrev ah7:=(Int×Int×Int×Int×Int×Int×Int×Int×Int×aj)
abbrev Ts:=((List<|Int)×aj)
def v7(x:aj):Option Ts :=aa ([(1779033703:Int),3144134277,1013904242,2773480762,1359893119,2600822924,528734635,1541459225],())
def CV(x:aj):Option Ts :=aa ([(1116352408:Int),1899447441,3049323471,3921009573,961987163,1508970993,2453635748,2870763221,3624381080,310598401,607225278,1426881987,1925078388,2162078206,2614888103,3248222580,3835390401,4022224774,264347078,604807628,770255983,1249150122,1555081692,1996064986,2554220882,2821834349,2952996808,3210313671,3336571891,3584528711,113926993,338241895,666307205,773529912,1294757372,1396182291,1695183700,1986661051,2177026350,2456956037,2730485921,2820302411,3259730800,3345764771,3516065817,3600352804,4094571909,275423344,430227734,506948616,659060556,883997877,958139571,1322822218,1537002063,1747873779,1955562222,2024104815,2227730452,2361852424,2428436474,2756734187,3204031479,3329325298],())
def kT(x:Int×Int×aj):Option (Int×aj) :=
 ak (aL (hL IntKind.u64 (lj IntKind.u64 x.2.1) 31) 0) af (ak (aL (cG IntKind.u64 32<|hL IntKind.u64 (lj IntKind.u64 x.2.1) 31) 0)
 af (aa (A5 u32 (oD u32 x.1<|hL IntKind.u64 (lj IntKind.u64 x.2.1) 31)<|jT u32 x.1<|cG IntKind.u64 32<|hL IntKind.u64 (lj IntKind.u64 x.2.1) 31,())))
def cu(x:Int×Int×aj):Option (Int×aj) :=ae (kT (x.1,cG i64 0 x.2.1,())) (λa=>aa (a.1,()))
def kx(x:(List<|Int)×aj)(a:(Int×aj)×(List<|Int)×aj)(b:(Int×aj)×(List<|Int)×aj):Option NF :=
 cr (ak (aL b.1.1<|minus (aw i64 (lg i64 4 a.1.1) 4)<|lg i64 4 a.1.1)
 (ak (within b.1.1<|minus (aw i64 (lg i64 4 a.1.1) 4)<|lg i64 4 a.1.1)
 (ae (idx x.1<|plus (lg i64 4 a.1.1) b.1.1) λc=>ak (within a.1.1 64)
 (ae (idx b.2.1 a.1.1) λd=>ak (aL 8 0)
 af (ak (within a.1.1 64)
 (ae (idx b.2.1 a.1.1) λe=>ae (idx b.2.1 a.1.1) λf=>ae (idx b.2.1 a.1.1) λg=>aa (ay ((aw i64 b.1.1 1,()),kO b.2.1 a.1.1<|A5 u32 (oD u32 d 8)<|lj u32 c,()))) af))
 af)
 af)
 (aa<|az (0,(b.1.1,()),b.2.1,())))
def n9(x:(List<|Int)×aj)(a:(Int×aj)×(List<|Int)×aj):Option NF :=
 cr (ak (aL a.1.1 16)
 (ak (inside (lg i64 4 a.1.1) (aw i64 (lg i64 4 a.1.1) 4) 64)
 (ae (Loop (kx x a) ((0,()),a.2.1,())) λb=>aa (ay ((aw i64 a.1.1 1,()),b.2.1,()))) af)
 (aa<|az (0,(a.1.1,()),a.2.1,())))
def oa(a:(Int×aj)×(List<|Int)×aj):Option NF :=
 cr (ak (aL a.1.1 64)
 (ak (within (cG i64 a.1.1 2) 64)
 (ae (idx a.2.1<|cG i64 a.1.1 2) λb=>ak (within (cG i64 a.1.1 15) 64)
 (ae (idx a.2.1<|cG i64 a.1.1 15) λc=>ae (cu (c,7,())) λe=>ae (cu (c,18,())) λf=>ak (aL 3 0)
 af (ae (cu (b,17,())) λg=>ae (cu (b,19,())) λh=>ak (aL 10 0)
 af (ak (within (cG i64 a.1.1 7) 64)
 (ae (idx a.2.1<|cG i64 a.1.1 7) λi=>ak (within (cG i64 a.1.1 16) 64)
 (ae (idx a.2.1<|cG i64 a.1.1 16) λd=>ak (within a.1.1 64)
 (ae (idx a.2.1 a.1.1) λj=>ae (idx a.2.1 a.1.1) λk=>ae (idx a.2.1 a.1.1) λl=>aa (ay ((aw i64 a.1.1 1,()),kO a.2.1 a.1.1<|aw u32 (aw u32 (aw u32 (gQ u32 (gQ u32 g.1 h.1)<|jT u32 b 10) i)<|gQ u32 (gQ u32 e.1 f.1)<|jT u32 c 3) d,()))) af)
 af)
 af)))
 af)
 af)
 (aa<|az (0,(a.1.1,()),a.2.1,())))
def s7(x:(List<|Int)×aj):Option Ts :=ae (Loop (n9 x) ((0,()),[(0:Int),0,0,0,0,0,0,0,0,0,0,0,0,0,0,0,0,0,0,0,0,0,0,0,0,0,0,0,0,0,0,0,0,0,0,0,0,0,0,0,0,0,0,0,0,0,0,0,0,0,0,0,0,0,0,0,0,0,0,0,0,0,0,0],())) (λa=>ae (Loop (oa) ((16,()),a.2.1,())) λb=>aa (b.2.1,()))
def lq(j:(List<|Int)×aj)(k:(List<|Int)×aj)(a:ah7×aj):Option ((ah7×aj)⊕(ah7×aj)) :=
 cr (ak (aL a.1.2.2.2.2.2.2.2.2.1 64)
 (ae (cu (a.1.2.2.2.2.1,6,())) λb=>ae (cu (a.1.2.2.2.2.1,11,())) λc=>ae (cu (a.1.2.2.2.2.1,25,())) λd=>ak (within a.1.2.2.2.2.2.2.2.2.1 64)
 (ae (idx j.1 a.1.2.2.2.2.2.2.2.2.1) λe=>ak (within a.1.2.2.2.2.2.2.2.2.1 64)
 (ae (idx k.1 a.1.2.2.2.2.2.2.2.2.1) λf=>ae (cu (a.1.1,2,())) λg=>ae (cu (a.1.1,13,())) λh=>ae (cu (a.1.1,22,())) λi=>aa (ay ((aw u32 (aw u32 (aw u32 (aw u32 (aw u32 a.1.2.2.2.2.2.2.2.1<|gQ u32 (gQ u32 b.1 c.1) d.1)<|gQ u32 a.1.2.2.2.2.2.2.1<|hL u32 a.1.2.2.2.2.1<|gQ u32 a.1.2.2.2.2.2.1 a.1.2.2.2.2.2.2.1) e) f)<|aw u32 (gQ u32 (gQ u32 g.1 h.1) i.1)<|A5 u32 (hL u32 a.1.1 a.1.2.1)<|hL u32 a.1.2.2.1<|A5 u32 a.1.1 a.1.2.1,a.1.1,a.1.2.1,a.1.2.2.1,aw u32 a.1.2.2.2.1<|aw u32 (aw u32 (aw u32 (aw u32 a.1.2.2.2.2.2.2.2.1<|gQ u32 (gQ u32 b.1 c.1) d.1)<|gQ u32 a.1.2.2.2.2.2.2.1<|hL u32 a.1.2.2.2.2.1<|gQ u32 a.1.2.2.2.2.2.1 a.1.2.2.2.2.2.2.1) e) f,a.1.2.2.2.2.1,a.1.2.2.2.2.2.1,a.1.2.2.2.2.2.2.1,aw i64 a.1.2.2.2.2.2.2.2.2.1 1,()),()))) af)
 af)
 (aa<|az (0,(a.1.1,a.1.2.1,a.1.2.2.1,a.1.2.2.2.1,a.1.2.2.2.2.1,a.1.2.2.2.2.2.1,a.1.2.2.2.2.2.2.1,a.1.2.2.2.2.2.2.2.1,a.1.2.2.2.2.2.2.2.2.1,()),())))
def ik(b:ah7×aj)(a:(Int×aj)×FP×aj):Option (((Int×aj)×FP×aj)⊕((Int×aj)×FP×aj)) :=
 cr (ak (aL a.1.1 8)
 (ae (idx [b.1.1,b.1.2.1,b.1.2.2.1,b.1.2.2.2.1,b.1.2.2.2.2.1,b.1.2.2.2.2.2.1,b.1.2.2.2.2.2.2.1,b.1.2.2.2.2.2.2.2.1] a.1.1) λc=>ak (within a.1.1 8)
 (ae (idx a.2.1.1.2.1 a.1.1) λd=>ak (within a.1.1 8)
 (ae (idx a.2.1.1.2.1 a.1.1) λe=>ae (idx a.2.1.1.2.1 a.1.1) λf=>ae (idx a.2.1.1.2.1 a.1.1) λg=>aa (ay ((aw i64 a.1.1 1,()),((a.2.1.1.1,kO a.2.1.1.2.1 a.1.1<|aw u32 d c,a.2.1.1.2.2),a.2.1.2),()))) af)
 af)
 (aa<|az (0,(a.1.1,()),a.2.1,())))
def fU(a:(Sb×aj)×FP×aj):Option (((Sb×aj)×FP×aj)⊕((Sb×aj)×FP×aj)) :=
 cr (ak (nt<|bg a.1.1 [])
 (ak (aD 64 0)
 af (ak (inside (gx a.2.1.2.2.1 64) 64 64)
 (ak (inside (len<|@mZ Int (ax a.1.1)<|minus 64<|gx a.2.1.2.2.1 64) (len a.1.1)<|len a.1.1)
 (ae (ak (aD (aw i64 (gx a.2.1.2.2.1 64)<|len<|@mZ Int (ax a.1.1)<|minus 64<|gx a.2.1.2.2.1 64) 64)
 (ae (ak (nt a.2.1.1.1)
 (ae (v7 ()) λb=>aa ((),((true,b.1,a.2.1.1.2.2),over a.2.1.2.1 (gx a.2.1.2.2.1 64)<|@mZ Int (ax a.1.1)<|minus 64<|gx a.2.1.2.2.1 64,aw i64 a.2.1.2.2.1<|len<|@mZ Int (ax a.1.1)<|minus 64<|gx a.2.1.2.2.1 64,a.2.1.2.2.2),())) (aa ((),(a.2.1.1,over a.2.1.2.1 (gx a.2.1.2.2.1 64)<|@mZ Int (ax a.1.1)<|minus 64<|gx a.2.1.2.2.1 64,aw i64 a.2.1.2.2.1<|len<|@mZ Int (ax a.1.1)<|minus 64<|gx a.2.1.2.2.1 64,a.2.1.2.2.2),()))) λb=>ae (CV ()) λh=>ae (s7 (over a.2.1.2.1 (gx a.2.1.2.2.1 64)<|@mZ Int (ax a.1.1)<|minus 64<|gx a.2.1.2.2.1 64,())) λi=>ak (within 0 8)
 (ae (idx b.2.1.1.2.1 0) λj=>ak (within 1 8)
 (ae (idx b.2.1.1.2.1 1) λk=>ak (within 2 8)
 (ae (idx b.2.1.1.2.1 2) λl=>ak (within 3 8)
 (ae (idx b.2.1.1.2.1 3) λm=>ak (within 4 8)
 (ae (idx b.2.1.1.2.1 4) λn=>ak (within 5 8)
 (ae (idx b.2.1.1.2.1 5) λc=>ak (within 6 8)
 (ae (idx b.2.1.1.2.1 6) λd=>ak (within 7 8)
 (ae (idx b.2.1.1.2.1 7) λe=>ae (Loop (lq h i) ((j,k,l,m,n,c,d,e,0,()),())) λf=>ae (Loop (ik f) ((0,()),b.2.1,())) λg=>aa ((),g.2.1,())) af)
 af)
 af)
 af)
 af)
 af)
 af)
 af)
 (aa ((),(a.2.1.1,over a.2.1.2.1 (gx a.2.1.2.2.1 64)<|@mZ Int (ax a.1.1)<|minus 64<|gx a.2.1.2.2.1 64,aw i64 a.2.1.2.2.1<|len<|@mZ Int (ax a.1.1)<|minus 64<|gx a.2.1.2.2.1 64,a.2.1.2.2.2),()))) λb=>aa (ay ((sub a.1.1 (len<|@mZ Int (ax a.1.1)<|minus 64<|gx a.2.1.2.2.1 64)<|minus (len a.1.1)<|len<|@mZ Int (ax a.1.1)<|minus 64<|gx a.2.1.2.2.1 64,()),b.2.1,())))
 af)
 af))
 (aa<|az (0,(a.1.1,()),a.2.1,())))
def gp(x:(Sb×aj)×FP×aj):Option (aj×FP×aj) :=ae (Loop (fU) ((x.1.1,()),x.2.1,())) (λa=>aa ((),a.2.1,()))
def eI(a:aj×FP×aj):Option ((aj×FP×aj)⊕(aj×FP×aj)) :=
 cr (ak (aD 64 0)
 af (ak (nt<|aD (gx a.2.1.2.2.1 64) 56)
 (ae (gp (([0],()),a.2.1,())) λb=>aa (ay ((),b.2.1,()))) (aa<|az (0,(),a.2.1,()))))
def lr(x:aj×FP×aj)(a:(Int×aj)×(List<|Int)×aj):Option NF :=
 cr (ak (aL a.1.1 8)
 (ak (aL (lg i64 8 a.1.1) 0)
 af (ak (within (cG i64 7 a.1.1) 8)
 (ae (idx a.2.1<|cG i64 7 a.1.1) λb=>ae (idx a.2.1<|cG i64 7 a.1.1) λc=>ae (idx a.2.1<|cG i64 7 a.1.1) λd=>aa (ay ((aw i64 a.1.1 1,()),kO a.2.1 (cG i64 7 a.1.1)<|lj IntKind.u8<|jT IntKind.u64 (lg IntKind.u64 (lj IntKind.u64<|((((((),x.2.1,()).2).1).2).2).1) 8)<|lg i64 8 a.1.1,()))) af))
 (aa<|az (0,(a.1.1,()),a.2.1,())))
def lu(b:aj×FP×aj)(a:(Int×aj)×(List<|Int)×aj):Option NF :=
 cr (ak (aL a.1.1 32)
 (ak (aD 4 0)
 af (ak (within (Ii i64 a.1.1 4) 8)
 (ae (idx b.2.1.1.2.1<|Ii i64 a.1.1 4) λc=>ak (aD 4 0)
 af (ak (aL (cG i64 24<|lg i64 8<|gx a.1.1 4) 0)
 af (ak (within a.1.1 32)
 (ae (idx a.2.1 a.1.1) λd=>ae (idx a.2.1 a.1.1) λe=>ae (idx a.2.1 a.1.1) λf=>aa (ay ((aw i64 a.1.1 1,()),kO a.2.1 a.1.1<|lj IntKind.u8<|jT u32 c<|cG i64 24<|lg i64 8<|gx a.1.1 4,()))) af)))
 af))
 (aa<|az (0,(a.1.1,()),a.2.1,())))
def pB(x:aj×FP×aj):Option (Ts×FP×aj) :=
 ae (gp ((br [(128:Int)],()),(((),x.2.1,()).2).1,())) (λa=>ae (Loop (eI) ((),a.2.1,())) λb=>ae (Loop (lr x) ((0,()),[(0:Int),0,0,0,0,0,0,0],())) λc=>ak (inside 0 8 8)
 (ae (gp ((br<|sub c.2.1 0<|minus 8 0,()),b.2.1,())) λd=>ae (Loop (lu d) ((0,()),[(0:Int),0,0,0,0,0,0,0,0,0,0,0,0,0,0,0,0,0,0,0,0,0,0,0,0,0,0,0,0,0,0,0],())) λe=>aa ((e.2.1,()),x.2.1,())) af)
def D2(x:Sb×aj):Option Ts :=ae (gp ((x.1,()),((false,[(0:Int),0,0,0,0,0,0,0],()),[(0:Int),0,0,0,0,0,0,0,0,0,0,0,0,0,0,0,0,0,0,0,0,0,0,0,0,0,0,0,0,0,0,0,0,0,0,0,0,0,0,0,0,0,0,0,0,0,0,0,0,0,0,0,0,0,0,0,0,0,0,0,0,0,0,0],0,()),())) (λa=>ae (pB ((),a.2.1,())) λb=>aa (b.1.1,()))
def zW(x:aj):Option Ts :=aa ([(1779033703:Int),3144134277,1013904242,2773480762,1359893119,2600822924,528734635,1541459225],())
def lO(a:(aj×aj)×(List<|Int)×aj):Option (((aj×aj)×(List<|Int)×aj)⊕((aj×aj)×(List<|Int)×aj)) :=
 cr (ak (aD 64 0)
 af (ak (nt<|aD (gx (len a.2.1) 64) 56)
 (ak (fits<|plus (len a.2.1)<|len [(0:Int)])
 (aa<|ay (((),()),app a.2.1 [(0:Int)],())) af)
 (aa<|az (0,((),()),a.2.1,()))))
def fe(x:Sb×aj)(a:(aj×Int×aj)×(List<|Int)×aj):Option (((aj×Int×aj)×(List<|Int)×aj)⊕((aj×Int×aj)×(List<|Int)×aj)) :=
 cr (ak (cl 0 a.1.2.1)
 (ak (aL (lg i64 8 a.1.2.1) 0)
 af (ak (fits<|plus (len a.2.1)<|len [lj IntKind.u8<|jT IntKind.u64 (lg IntKind.u64 (lj IntKind.u64<|len x.1) 8)<|lg i64 8 a.1.2.1])
 (aa<|ay (((),cG i64 a.1.2.1 1,()),app a.2.1 [lj IntKind.u8<|jT IntKind.u64 (lg IntKind.u64 (lj IntKind.u64<|len x.1) 8)<|lg i64 8 a.1.2.1],())) af))
 (aa<|az (0,((),a.1.2.1,()),a.2.1,())))
def vg(x:Sb×aj):Option (Sb×aj) :=
 ak (fits<|len x.1) (ak (fits<|plus (len<|ax x.1)<|len [(128:Int)])
 (ae (Loop (lO) (((),()),app (ax x.1) [(128:Int)],())) λa=>ae (Loop (fe x) (((),7,()),a.2.1,())) λb=>aa (br b.2.1,())) af)
 af
def cB(x:Int×Int×aj):Option (Int×aj) :=
 ak (aL x.2.1 0) af (ak (aL (cG i64 32 x.2.1) 0)
 af (aa (A5 u32 (jT u32 x.1 x.2.1)<|oD u32 x.1<|cG i64 32 x.2.1,())))
def ym(x:aj):Option Ts :=aa ([(1116352408:Int),1899447441,3049323471,3921009573,961987163,1508970993,2453635748,2870763221,3624381080,310598401,607225278,1426881987,1925078388,2162078206,2614888103,3248222580,3835390401,4022224774,264347078,604807628,770255983,1249150122,1555081692,1996064986,2554220882,2821834349,2952996808,3210313671,3336571891,3584528711,113926993,338241895,666307205,773529912,1294757372,1396182291,1695183700,1986661051,2177026350,2456956037,2730485921,2820302411,3259730800,3345764771,3516065817,3600352804,4094571909,275423344,430227734,506948616,659060556,883997877,958139571,1322822218,1537002063,1747873779,1955562222,2024104815,2227730452,2361852424,2428436474,2756734187,3204031479,3329325298],())
def lP(x:(List<|Int)×Sb×aj)(a:(Int×aj)×(List<|Int)×aj):Option NF :=
 cr (ak (aL a.1.1 16)
 (ae (idx x.2.1<|lg i64 4 a.1.1) λb=>ak (aL 24 0)
 af (ae (idx x.2.1<|aw i64 (lg i64 4 a.1.1) 1) λc=>ak (aL 16 0)
 af (ae (idx x.2.1<|aw i64 (lg i64 4 a.1.1) 2) λd=>ak (aL 8 0)
 af (ae (idx x.2.1<|aw i64 (lg i64 4 a.1.1) 3) λe=>ak (within a.1.1 64)
 (ae (idx a.2.1 a.1.1) λf=>ae (idx a.2.1 a.1.1) λg=>ae (idx a.2.1 a.1.1) λh=>aa (ay ((aw i64 a.1.1 1,()),kO a.2.1 a.1.1<|A5 u32 (A5 u32 (A5 u32 (oD u32 (lj u32<|u8 b) 24)<|oD u32 (lj u32<|u8 c) 16)<|oD u32 (lj u32<|u8 d) 8)<|lj u32<|u8 e,()))) af))))
 (aa<|az (0,(a.1.1,()),a.2.1,())))
def pC(a:(Int×aj)×(List<|Int)×aj):Option NF :=
 cr (ak (aL a.1.1 64)
 (ak (within (cG i64 a.1.1 2) 64)
 (ae (idx a.2.1<|cG i64 a.1.1 2) λb=>ak (within (cG i64 a.1.1 15) 64)
 (ae (idx a.2.1<|cG i64 a.1.1 15) λc=>ae (cB (b,17,())) λe=>ae (cB (b,19,())) λf=>ak (aL 10 0)
 af (ak (within (cG i64 a.1.1 7) 64)
 (ae (idx a.2.1<|cG i64 a.1.1 7) λg=>ae (cB (c,7,())) λh=>ae (cB (c,18,())) λi=>ak (aL 3 0)
 af (ak (within (cG i64 a.1.1 16) 64)
 (ae (idx a.2.1<|cG i64 a.1.1 16) λd=>ak (within a.1.1 64)
 (ae (idx a.2.1 a.1.1) λj=>ae (idx a.2.1 a.1.1) λk=>ae (idx a.2.1 a.1.1) λl=>aa (ay ((aw i64 a.1.1 1,()),kO a.2.1 a.1.1<|aw u32 (aw u32 (aw u32 (gQ u32 (gQ u32 e.1 f.1)<|jT u32 b 10) g)<|gQ u32 (gQ u32 h.1 i.1)<|jT u32 c 3) d,()))) af)
 af))
 af))
 af)
 af)
 (aa<|az (0,(a.1.1,()),a.2.1,())))
def lQ(z:(Int×aj)×(List<|Int)×aj)(A:(List<|Int)×aj)(a:(Int×aj)×(List<|Int)×aj):Option NF :=
 cr (ak (aL a.1.1 64)
 (ak (within 4 8)
 (ae (idx a.2.1 4) λb=>ak (within 0 8)
 (ae (idx a.2.1 0) λc=>ak (within 7 8)
 (ae (idx a.2.1 7) λw=>ae (cB (b,6,())) λx=>ae (cB (b,11,())) λy=>ae (cB (b,25,())) λd=>ak (within 5 8)
 (ae (idx a.2.1 5) λe=>ak (within 6 8)
 (ae (idx a.2.1 6) λf=>ak (within a.1.1 64)
 (ae (idx A.1 a.1.1) λg=>ak (within a.1.1 64)
 (ae (idx z.2.1 a.1.1) λh=>ae (cB (c,2,())) λi=>ae (cB (c,13,())) λj=>ae (cB (c,22,())) λk=>ak (within 1 8)
 (ae (idx a.2.1 1) λl=>ak (within 2 8)
 (ae (idx a.2.1 2) λm=>ak (within 1 8)
 (ae (idx a.2.1 1) λn=>ak (within 2 8)
 (ae (idx a.2.1 2) λo=>ak (within 0 8)
 (ae (idx a.2.1 0) λp=>ak (within 1 8)
 (ae (idx a.2.1 1) λq=>ak (within 2 8)
 (ae (idx a.2.1 2) λr=>ak (within 3 8)
 (ae (idx a.2.1 3) λs=>ak (within 4 8)
 (ae (idx a.2.1 4) λt=>ak (within 5 8)
 (ae (idx a.2.1 5) λu=>ak (within 6 8)
 (ae (idx a.2.1 6) λv=>aa (ay ((aw i64 a.1.1 1,()),[aw u32 (aw u32 (aw u32 (aw u32 (aw u32 w<|gQ u32 (gQ u32 x.1 y.1) d.1)<|gQ u32 (hL u32 b e)<|hL u32 (gQ u32 4294967295 b) f) g) h)<|aw u32 (gQ u32 (gQ u32 i.1 j.1) k.1)<|gQ u32 (gQ u32 (hL u32 c l)<|hL u32 c m)<|hL u32 n o,p,q,r,aw u32 s (aw u32 (aw u32 (aw u32 (aw u32 w<|gQ u32 (gQ u32 x.1 y.1) d.1)<|gQ u32 (hL u32 b e)<|hL u32 (gQ u32 4294967295 b) f) g) h),t,u,v],()))) af)
 af)
 af)
 af)
 af)
 af)
 af)
 af)
 af)
 af)
 af)
 af)
 af)
 af)
 af)
 af)
 af)
 af)
 (aa<|az (0,(a.1.1,()),a.2.1,())))
def pD(x:(List<|Int)×Sb×aj)(a:(Int×aj)×(List<|Int)×aj):Option NF :=
 cr (ak (aL a.1.1 8)
 (ak (within a.1.1 8)
 (ae (idx a.2.1 a.1.1) λb=>ak (within a.1.1 8)
 (ae (idx x.1 a.1.1) λc=>ak (within a.1.1 8)
 (ae (idx a.2.1 a.1.1) λe=>ae (idx a.2.1 a.1.1) λf=>ae (idx a.2.1 a.1.1) λd=>aa (ay ((aw i64 a.1.1 1,()),kO a.2.1 a.1.1<|aw u32 b c,()))) af)
 af)
 af)
 (aa<|az (0,(a.1.1,()),a.2.1,())))
def vh(x:(List<|Int)×Sb×aj):Option Ts :=ae (Loop (lP x) ((0,()),[(0:Int),0,0,0,0,0,0,0,0,0,0,0,0,0,0,0,0,0,0,0,0,0,0,0,0,0,0,0,0,0,0,0,0,0,0,0,0,0,0,0,0,0,0,0,0,0,0,0,0,0,0,0,0,0,0,0,0,0,0,0,0,0,0,0],())) (λa=>ae (Loop (pC) ((16,()),a.2.1,())) λb=>ae (ym ()) λc=>ae (Loop (lQ b c) ((0,()),x.1,())) λd=>ae (Loop (pD x) ((0,()),d.2.1,())) λe=>aa (e.2.1,()))
def oO(b:Sb×aj)(a:(Int×aj)×(List<|Int)×aj):Option NF :=
 cr (ak (cl (aw i64 a.1.1 64)<|len b.1)
 (ak (inside a.1.1 (aw i64 a.1.1 64)<|len b.1)
 (ae (vh (a.2.1,sub b.1 a.1.1<|minus (aw i64 a.1.1 64) a.1.1,())) λc=>aa (ay ((aw i64 a.1.1 64,()),c.1,()))) af)
 (aa<|az (0,(a.1.1,()),a.2.1,())))
def s8(b:(Int×aj)×(List<|Int)×aj)(a:(Int×aj)×(List<|Int)×aj):Option NF :=
 cr (ak (aL a.1.1 32)
 (ak (aD 4 0)
 af (ak (within (Ii i64 a.1.1 4) 8)
 (ae (idx b.2.1<|Ii i64 a.1.1 4) λc=>ak (aD 4 0)
 af (ak (aL (cG i64 24<|lg i64 8<|gx a.1.1 4) 0)
 af (ak (within a.1.1 32)
 (ae (idx a.2.1 a.1.1) λd=>ae (idx a.2.1 a.1.1) λe=>ae (idx a.2.1 a.1.1) λf=>aa (ay ((aw i64 a.1.1 1,()),kO a.2.1 a.1.1<|lj IntKind.u8<|jT u32 c<|cG i64 24<|lg i64 8<|gx a.1.1 4,()))) af)))
 af))
 (aa<|az (0,(a.1.1,()),a.2.1,())))
def zk(x:Sb×aj):Option Ts :=ae (zW ()) (λa=>ae (vg (x.1,())) λb=>ae (Loop (oO b) ((0,()),a.1,())) λc=>ae (Loop (s8 c) ((0,()),[(0:Int),0,0,0,0,0,0,0,0,0,0,0,0,0,0,0,0,0,0,0,0,0,0,0,0,0,0,0,0,0,0,0],())) λd=>aa (d.2.1,()))
end Go.Ge
namespace Go.Ge
variable [Lp]
set_option maxRecDepth 100000
def nd(x:Sb×aj)(a:(Int×aj)×(aj×aj×aj)×(List<|Int)×aj):Option (((Int×aj)×(aj×aj×aj)×(List<|Int)×aj)⊕((Int×aj)×(aj×aj×aj)×(List<|Int)×aj)) :=
 cr (ak (aL a.1.1<|len<|ax x.1)
 (ak (within a.1.1<|len<|ax x.1)
 (ae (idx (ax x.1) a.1.1) λc=>ak (aL 4 0)
 af (ae (idx [48,49,50,51,52,53,54,55,56,57,97,98,99,100,101,102]<|jT IntKind.u8 c 4) λb=>ak (fits<|plus (len a.2.2.1)<|len [u8 b])
 (ae (idx [48,49,50,51,52,53,54,55,56,57,97,98,99,100,101,102]<|hL IntKind.u8 c 15) λd=>ak (fits<|plus (len<|app a.2.2.1 [u8 b])<|len [u8 d])
 (aa<|ay ((aw i64 a.1.1 1,()),((),(),a.2.1.2.2),app (app a.2.2.1 [u8 b]) [u8 d],())) af)
 af))
 af)
 (aa<|az (0,(a.1.1,()),((),(),a.2.1.2.2),a.2.2.1,())))
def mD(x:Sb×aj):Option (Sb×aj) :=ak (fits<|len x.1) (ae (Loop (nd x) ((0,()),((),(),()),[],())) λa=>aa (br a.2.2.1,())) af
def oP(x:Sb×aj):Option (Sb×aj) :=
 ae (D2 (x.1,())) (λb=>ak (inside 0 32 32)
 (ae (mD (br<|sub b.1 0<|minus 32 0,())) λa=>ak (fits<|plus (len ([115,104,97,50,53,54,58]:bb))<|len a.1)
 (aa (app [115,104,97,50,53,54,58] a.1,())) af)
 af)
def cC(x:Sb×Sb×aj):Option (Bool×aj) :=
 ae (ak (cl (len x.2.1)<|len x.1)
 (ak (inside 0 (len x.2.1)<|len x.1)
 (aa<|bg (sub x.1 0<|minus (len x.2.1) 0) x.2.1) af)
 (aa false)) (λa=>aa (a,()))
def fD(x:Sb×Sb×aj):Option (Sb×Bool×aj) :=
 ae (cC (x.1,x.2.1,())) (λa=>ak (nt a.1)
 (aa (x.1,false,())) (ak (inside (len x.2.1) (len x.1)<|len x.1)
 (aa (sub x.1 (len x.2.1)<|minus (len x.1)<|len x.2.1,true,())) af))
def lv(x:Sb×Sb×aj):Option (Sb×Bool×aj) :=ae (fD (x.1,x.2.1,())) (λa=>aa (a.1,a.2.1,()))
def dC(x:Sb×Int×aj):Option (Int×aj) :=ae (fC (x.1,x.2.1,())) (λa=>aa (a.1,()))
def qA(x:Int×aj):Option (Int×aj) :=ak (aL x.1 10) (aa (lj IntKind.u8<|aw i64 48 x.1,())) (aa (lj IntKind.u8<|cG i64 (aw i64 97 x.1) 10,()))
def oQ(x:Sb×aj)(a:(aj×Int×aj)×(List<|Int)×aj):Option (((aj×Int×aj)×(List<|Int)×aj)⊕((aj×Int×aj)×(List<|Int)×aj)) :=
 cr (ak (aL a.1.2.1<|len x.1)
 (ae (idx x.1 a.1.2.1) λd=>ak (aD 16 0)
 af (ae (qA (Ii i64 (lj i64<|u8 d) 16,())) λb=>ak (fits<|plus (len a.2.1)<|len [b.1])
 (ae (idx x.1 a.1.2.1) λe=>ak (aD 16 0)
 af (ae (qA (gx (lj i64<|u8 e) 16,())) λc=>ak (fits<|plus (len<|app a.2.1 [b.1])<|len [c.1])
 (aa<|ay (((),aw i64 a.1.2.1 1,()),app (app a.2.1 [b.1]) [c.1],())) af))
 af))
 (aa<|az (0,((),a.1.2.1,()),a.2.1,())))
def v8(x:Sb×aj):Option (Sb×aj) :=ae (Loop (oQ x) (((),0,()),[],())) (λa=>aa (br a.2.1,()))
def uJ(x:Sb×aj):Option (Sb×aj) :=
 ae (zk (x.1,())) (λb=>ak (inside 0 32 32)
 (ae (v8 (br<|sub b.1 0<|minus 32 0,())) λa=>ak (fits<|plus (len ([115,104,97,50,53,54,58]:bb))<|len a.1)
 (aa (app [115,104,97,50,53,54,58] a.1,())) af)
 af)
end Go.Ge
namespace Go.Ge
variable [Lp]
set_option maxRecDepth 100000
abbrev acx:=((Sb×aj)×(List<|Bool)×aj)
abbrev akb:=(Sb×Int×Int×Int×Int×Int×Int×Sb×aj)
def mr(x:Int×Int×aj):Option (Bool×aj) :=
 aa (ak (cl 0 x.1)
 (aL x.1 x.2.1) false,())
def oR(x:Sb×Int×aj):Option (Bool×aj) :=
 ae (ak (ak (nt<|bg x.1 [])
 (cl (len x.1) x.2.1) false)
 (ae (dC (x.1,0,())) λa=>aa (aL a.1 0)) (aa false)) (λa=>aa (a,()))
def sq(x:akb×Int×aj):Option (Bool×aj) :=
 ae (mr (x.1.2.2.1,2097152,())) (λf=>ae (ak f.1
 (ae (mr (x.1.2.2.2.1,2097152,())) λa=>aa a.1) (aa false)) λa=>ae (ak a (ae (mr (x.1.2.2.2.2.1,2097152,())) λb=>aa b.1) (aa false)) λb=>ae (ak b (ae (mr (x.1.2.2.2.2.2.1,8589934592,())) λc=>aa c.1) (aa false)) λc=>ae (ak c (ae (mr (x.1.2.2.2.2.2.2.1,8589934592,())) λd=>aa d.1) (aa false)) λd=>ae (ak (nt<|nt d) (ae (oR (x.1.1,x.2.1,())) λe=>aa (nt e.1)) (aa true)) λe=>ak e
 (aa (false,())) (ak (aD x.1.2.1 1)
 (aa (bg x.1.2.2.2.2.2.2.2.1 [],())) (ak (aD x.1.2.1 2)
 (aa (ak (bg x.1.2.2.2.2.2.2.2.1 [])
 (aD x.1.2.2.2.2.2.1 0) false,()))
 (ak (aD x.1.2.1 3)
 (ae (oR (x.1.2.2.2.2.2.2.2.1,100,())) λg=>aa (ak g.1
 (aD x.1.2.2.2.2.2.1 0) false,()))
 (aa (false,()))))))
def nf(x:aj):Option ((List<|Int×Int×aj)×aj) :=aa ([((0:Int),(100:Int),()),((100:Int),(8:Int),()),((108:Int),(8:Int),()),((116:Int),(8:Int),()),((124:Int),(12:Int),()),((136:Int),(12:Int),()),((148:Int),(8:Int),()),((156:Int),(1:Int),()),((157:Int),(100:Int),()),((257:Int),(8:Int),()),((345:Int),(155:Int),())],())
def qV(x:Sb×aj)(b:Int×Int×aj)(a:(Int×Int×aj)×aj):Option (((Int×Int×aj)×aj)⊕((Int×Int×aj)×aj)) :=
 cr (ak (aL a.1.2.1<|len<|ax x.1)
 (ak (within a.1.2.1<|len<|ax x.1)
 (ae (idx (ax x.1) a.1.2.1) λc=>aa (ay ((aw i64 a.1.1<|lj i64<|((ak (ak (cl b.1 a.1.2.1)
 (aL a.1.2.1<|aw i64 b.1 b.2.1) false)
 ((32,()),()) ((c,()),())).1).1,aw i64 a.1.2.1 1,()),())))
 af)
 (aa<|az (0,(a.1.1,a.1.2.1,()),())))
def xh(x:Sb×aj):Option (Int×aj) :=
 ae (nf ()) (λa=>ae (idx a.1 6) λb=>ak (fits<|len x.1)
 (ae (Loop (qV x b) ((0,0,()),())) λc=>aa (c.1.1,())) af)
def cg(x:Sb×Int×aj):Option (Sb×aj) :=
 ae (nf ()) (λb=>ae (idx b.1 x.2.1) λa=>ak (inside a.1 (aw i64 a.1 a.2.1)<|len x.1)
 (aa (sub x.1 a.1<|minus (aw i64 a.1 a.2.1) a.1,())) af)
def fE(x:Sb×Int×aj)(a:(Sb×aj)×aj):Option (((Sb×aj)×aj)⊕((Sb×aj)×aj)) :=
 cr (ae (ak (aL 0<|len a.1.1)
 (ae (idx a.1.1<|cG i64 (len a.1.1) 1) λb=>aa (aD (u8 b) x.2.1)) (aa false)) λb=>ak b
 (ak (inside 0 (cG i64 (len a.1.1) 1)<|len a.1.1)
 (aa<|ay ((sub a.1.1 0<|minus (cG i64 (len a.1.1) 1) 0,()),())) af)
 (aa<|az (0,(a.1.1,()),())))
def ff(x:Sb×Int×aj):Option (Sb×aj) :=ae (Loop (fE x) ((x.1,()),())) (λa=>aa (a.1.1,()))
def eH(x:Sb×aj)(a:(Bool×Int×aj)×(List<|Bool)×aj):Option (((Bool×Int×aj)×(List<|Bool)×aj)⊕(Nat×(Bool×Int×aj)×(List<|Bool)×aj)) :=
 ak (aL a.1.2.1<|len x.1) (ae (idx x.1 a.1.2.1) λb=>ak (cl 128<|u8 b)
 (aa<|az (1,(false,a.1.2.1,()),a.2.1,())) (ak (within (u8 b) 256)
 (ae (idx a.2.1<|u8 b) λc=>ae (idx a.2.1<|u8 b) λd=>ae (idx a.2.1<|u8 b) λe=>aa (ay ((a.1.1,aw i64 a.1.2.1 1,()),kO a.2.1 (u8 b) true,()))) af))
 (aa<|az (0,(a.1.1,a.1.2.1,()),a.2.1,()))
def eu(x:Sb×aj):Option ((List<|Bool)×Bool×aj) :=
 ae (Loop (eH x) ((false,0,()),((List.replicate 256 false):List (Bool)),())) (λa=>ak (cm a.1 0)
 (aa (a.2.2.1,true,())) (aa (a.2.2.1,a.2.1.1,())))
def cS(x:(Int×aj)×(List<|Bool)×aj):Option ((Bool×aj)×(List<|Bool)×aj) :=ak (within x.1.1 256) (ae (idx x.2.1 x.1.1) λa=>aa ((a,()),x.2.1,())) af
def cT(a:(Sb×aj)×(List<|Bool)×aj):Option (acx⊕acx) :=
 cr (ak (aL 0<|len a.1.1)
 (ae (idx a.1.1<|cG i64 (len a.1.1) 1) λc=>ae (cS ((u8 c,()),a.2.1,())) λb=>ak (nt b.1.1)
 (aa<|az (0,(a.1.1,()),b.2.1,())) (ak (inside 0 (cG i64 (len a.1.1) 1)<|len a.1.1)
 (aa<|ay ((sub a.1.1 0<|minus (cG i64 (len a.1.1) 1) 0,()),b.2.1,())) af))
 (aa<|az (0,(a.1.1,()),a.2.1,())))
def dT(x:(Sb×aj)×(List<|Bool)×aj):Option acx :=ae (Loop (cT) ((x.1.1,()),x.2.1,())) (λa=>aa ((a.1.1,()),a.2.1,()))
def eJ(x:Sb×Sb×aj):Option (Sb×aj) :=
 ak (ak (nt<|bg x.1 [])
 (bg x.2.1 []) true)
 (aa (x.1,())) (ae (ak (aD (len x.2.1) 1)
 (ae (idx x.2.1 0) λb=>aa (aL (u8 b) 128)) (aa false)) λb=>ak b
 (ae (idx x.2.1 0) λa=>ae (ff (x.1,u8 a,())) λc=>aa (c.1,())) (ae (eu (x.2.1,())) λa=>ak a.2.1
 (ae (dT ((x.1,()),a.1,())) λc=>aa (c.1.1,())) af))
def bP(x:Sb×aj)(a:(Int×Bool×Int×Int×aj)×aj):Option (((Int×Bool×Int×Int×aj)×aj)⊕(Nat×(Int×Bool×Int×Int×aj)×aj)) :=
 ak (aL a.1.2.2.2.1<|len<|ax x.1) (ak (within a.1.2.2.2.1<|len<|ax x.1)
 (ae (idx (ax x.1) a.1.2.2.2.1) λb=>ak (ak (nt<|aL b 48)
 (aL 55 b) true)
 (aa<|az (1,(0,false,a.1.2.2.1,a.1.2.2.2.1,()),())) (ak (aL 3 0)
 af (aa<|ay ((a.1.1,a.1.2.1,A5 i64 (oD i64 a.1.2.2.1 3)<|lj i64<|cG IntKind.u8 b 48,aw i64 a.1.2.2.2.1 1,()),()))))
 af)
 (aa<|az (0,(a.1.1,a.1.2.1,a.1.2.2.1,a.1.2.2.2.1,()),()))
def dN(x:Sb×aj):Option (Int×Bool×aj) :=
 ak (ak (nt<|aL (len x.1) 1)
 (aL 21<|len x.1) true)
 (aa (0,false,())) (ak (fits<|len x.1)
 (ae (Loop (bP x) ((0,false,0,0,()),())) λa=>ak (cm a.1 0)
 (aa (a.2.1.2.2.1,true,())) (aa (a.2.1.1,a.2.1.2.1,())))
 af)
def dD(x:Sb×aj):Option (Int×aj) :=
 ae (eJ (x.1,[0,32],())) (λa=>ae (dN (a.1,())) λb=>ak (ak (nt<|nt b.2.1)
 (aD (len a.1)<|len x.1) true)
 (aa ((-1),())) (aa (b.1,())))
def kU(x:Sb×aj):Option (Sb×Bool×aj) :=ae (eJ (x.1,[0],())) (λa=>ae (dC (a.1,0,())) λb=>aa (a.1,aL b.1 0,()))
def fv(x:Sb×aj):Option (akb×Int×aj) :=
 ae (ak (nt<|nt<|aD (len x.1) 512)
 (ae (cg (x.1,9,())) λk=>aa (nt<|bg k.1 [117,115,116,97,114,0,48,48])) (aa true)) (λk=>ae (ak (nt k)
 (ae (cg (x.1,6,())) λl=>ae (dD (l.1,())) λm=>ae (xh (x.1,())) λi=>aa (nt<|aD m.1 i.1)) (aa true)) λl=>ak l
 (aa (([],0,0,0,0,0,0,[],()),2,())) (ae (cg (x.1,0,())) λm=>ae (kU (m.1,())) λi=>ae (cg (x.1,8,())) λt=>ae (kU (t.1,())) λn=>ae (cg (x.1,10,())) λu=>ae (kU (u.1,())) λj=>ae (ak (nt<|bg j.1 [])
 (ak (fits<|plus (len j.1)<|len ([47]:bb))
 (ak (fits<|plus (len<|app j.1 [47])<|len i.1)
 (aa ((app (app j.1 [47]) i.1,()),())) af)
 af)
 (aa ((i.1,()),()))) λg=>ae (cg (x.1,1,())) λo=>ae (dD (o.1,())) λb=>ae (cg (x.1,2,())) λp=>ae (dD (p.1,())) λc=>ae (cg (x.1,3,())) λq=>ae (dD (q.1,())) λd=>ae (cg (x.1,4,())) λr=>ae (dD (r.1,())) λe=>ae (cg (x.1,5,())) λs=>ae (dD (s.1,())) λf=>ae (cg (x.1,7,())) λa=>ae (ak (nt<|ak (nt<|ak (nt<|nt i.2.1)
 (nt n.2.1) true)
 (nt j.2.1) true)
 (ae (sq (((ak (((ak (bg a.1 [48])
 ((bg a.1 [48],()),()) ((bg a.1 [0],()),())).1).1)
 ((),(g.1.1,1,b.1,c.1,d.1,e.1,f.1,[],()),()) ((),((ak (bg a.1 [53])
 ((),(g.1.1,2,b.1,c.1,d.1,e.1,f.1,[],()),()) ((),((ak (bg a.1 [50])
 ((),(g.1.1,3,b.1,c.1,d.1,e.1,f.1,n.1,()),()) ((),(g.1.1,0,b.1,c.1,d.1,e.1,f.1,[],()),())).2).1,())).2).1,())).2).1,256,())) λh=>aa (nt h.1))
 (aa true)) λh=>ak h
 (aa (([],0,0,0,0,0,0,[],()),2,())) (aa (((ak (((ak (bg a.1 [48])
 ((bg a.1 [48],()),()) ((bg a.1 [0],()),())).1).1)
 ((),(g.1.1,1,b.1,c.1,d.1,e.1,f.1,[],()),()) ((),((ak (bg a.1 [53])
 ((),(g.1.1,2,b.1,c.1,d.1,e.1,f.1,[],()),()) ((),((ak (bg a.1 [50])
 ((),(g.1.1,3,b.1,c.1,d.1,e.1,f.1,n.1,()),()) ((),(g.1.1,0,b.1,c.1,d.1,e.1,f.1,[],()),())).2).1,())).2).1,())).2).1,0,()))))
def gb(x:Sb×Int×aj)(a:(Sb×aj)×aj):Option (((Sb×aj)×aj)⊕((Sb×aj)×aj)) :=
 cr (ae (ak (aL 0<|len a.1.1)
 (ae (idx a.1.1 0) λb=>aa (aD (u8 b) x.2.1)) (aa false)) λb=>ak b
 (ak (inside 1 (len a.1.1)<|len a.1.1)
 (aa<|ay ((sub a.1.1 1<|minus (len a.1.1) 1,()),())) af)
 (aa<|az (0,(a.1.1,()),())))
def ix(x:Sb×Int×aj):Option (Sb×aj) :=ae (Loop (gb x) ((x.1,()),())) (λa=>aa (a.1.1,()))
def fF(a:(Sb×aj)×(List<|Bool)×aj):Option (acx⊕acx) :=
 cr (ak (aL 0<|len a.1.1)
 (ae (idx a.1.1 0) λc=>ae (cS ((u8 c,()),a.2.1,())) λb=>ak (nt b.1.1)
 (aa<|az (0,(a.1.1,()),b.2.1,())) (ak (inside 1 (len a.1.1)<|len a.1.1)
 (aa<|ay ((sub a.1.1 1<|minus (len a.1.1) 1,()),b.2.1,())) af))
 (aa<|az (0,(a.1.1,()),a.2.1,())))
def gX(x:(Sb×aj)×(List<|Bool)×aj):Option acx :=ae (Loop (fF) ((x.1.1,()),x.2.1,())) (λa=>aa ((a.1.1,()),a.2.1,()))
def jb(x:Sb×Sb×aj):Option (Sb×aj) :=
 ak (ak (nt<|bg x.1 [])
 (bg x.2.1 []) true)
 (aa (x.1,())) (ae (ak (aD (len x.2.1) 1)
 (ae (idx x.2.1 0) λc=>aa (aL (u8 c) 128)) (aa false)) λc=>ak c
 (ae (idx x.2.1 0) λa=>ae (ff (x.1,u8 a,())) λb=>ae (idx x.2.1 0) λd=>ae (ix (b.1,u8 d,())) λe=>aa (e.1,())) (ae (eu (x.2.1,())) λa=>ak a.2.1
 (ae (dT ((x.1,()),a.1,())) λb=>ae (gX ((b.1.1,()),b.2.1,())) λd=>aa (d.1.1,())) af))
def vi(x:Sb×aj):Option (Bool×aj) :=
 ae (ak (aD (len x.1) 512)
 (ae (jb (x.1,[0],())) λa=>aa (bg a.1 [])) (aa false)) (λa=>aa (a,()))
def gq(x:Sb×Int×aj)(a:(Bool×Int×aj)×aj):Option (((Bool×Int×aj)×aj)⊕(Nat×(Bool×Int×aj)×aj)) :=
 ak (aL a.1.2.1<|len x.1) (ae (idx x.1 a.1.2.1) λb=>ak (aD (u8 b) 0)
 (aa<|az (1,(false,a.1.2.1,()),())) (aa<|ay ((a.1.1,aw i64 a.1.2.1 1,()),())))
 (aa<|az (0,(a.1.1,a.1.2.1,()),()))
def nN(x:Sb×Int×aj):Option (Bool×aj) :=
 ae (Loop (gq x) ((false,0,()),())) (λa=>ak (cm a.1 0)
 (aa (ak (cl 1<|len x.1)
 (cl (len x.1) x.2.1) false,()))
 (aa (a.2.1.1,())))
def rX(x:Int×Int×aj):Option (Bool×aj) :=
 aa (ak (cl 0 x.1)
 (aL x.1 x.2.1) false,())
def wa(x:akb×Int×aj):Option (Bool×aj) :=
 ae (ak (aD x.1.2.1 3)
 (ae (nN (x.1.2.2.2.2.2.2.2.1,100,())) λa=>aa ((a.1,()),())) (aa ((bg x.1.2.2.2.2.2.2.2.1 [],()),()))) (λa=>ae (nN (x.1.1,x.2.1,())) λg=>ae (ak (ak (ak g.1
 (cl 1 x.1.2.1) false)
 (cl x.1.2.1 3) false)
 (ae (rX (x.1.2.2.1,2097152,())) λb=>aa b.1) (aa false)) λb=>ae (ak b (ae (rX (x.1.2.2.2.1,2097152,())) λc=>aa c.1) (aa false)) λc=>ae (ak c (ae (rX (x.1.2.2.2.2.1,2097152,())) λd=>aa d.1) (aa false)) λd=>ae (ak d (ae (rX (x.1.2.2.2.2.2.1,8589934592,())) λe=>aa e.1) (aa false)) λe=>ae (ak e (ae (rX (x.1.2.2.2.2.2.2.1,8589934592,())) λf=>aa f.1) (aa false)) λf=>aa (ak (ak f
 (ak (nt<|aD x.1.2.2.2.2.2.1 0)
 (aD x.1.2.1 1) true)
 false)
 a.1.1 false,()))
def s9(x:Sb×aj)(a:(Int×Int×aj)×aj):Option (((Int×Int×aj)×aj)⊕((Int×Int×aj)×aj)) :=
 cr (ak (aL a.1.2.1<|len x.1)
 (ae (ak (ak (cl 148 a.1.2.1)
 (aL a.1.2.1 156) false)
 (aa ((aw i64 a.1.1 32,()),())) (ae (idx x.1 a.1.2.1) λb=>aa ((aw i64 a.1.1<|lj i64<|u8 b,()),()))) λb=>aa (ay ((b.1.1,aw i64 a.1.2.1 1,()),())))
 (aa<|az (0,(a.1.1,a.1.2.1,()),())))
def zl(x:Sb×aj):Option (Int×aj) :=ae (Loop (s9 x) ((0,0,()),())) (λa=>aa (a.1.1,()))
end Go.Ge
namespace Go.Ge
variable [Lp]
set_option maxRecDepth 100000
abbrev Tt:=((Sb×Int×Int×Int×Int×Int×Int×Sb×aj)×Sb×aj)
abbrev Tu:=(Bool×Sb×Int×Bool×Bool×aj)
def E2(x:Int×aj):Option (Sb×aj) :=ae (pA ([0],x.1,())) (λa=>aa (a.1,()))
def yn(x:Int×aj):Option (Int×aj) :=
 ak (aD 512 0) af (ak (aD 512 0)
 af (aa (gx (cG i64 512<|gx x.1 512) 512,())))
def eM(x:(Bool×aj)×Tu×aj):Option ((Tt×Bool×aj)×Tu×aj) :=aa (((([],0,0,0,0,0,0,[],()),[],()),false,()),(x.2.1.1,[],x.2.1.2.2.1,true,x.1.1,x.2.1.2.2.2.2.2),())
def cc(x:aj×Tu×aj):Option ((Tt×Bool×aj)×Tu×aj) :=
 ak (ak (nt<|nt x.2.1.1)
 x.2.1.2.2.2.1 true)
 (aa (((([],0,0,0,0,0,0,[],()),[],()),false,()),x.2.1,())) (ak (aL (len x.2.1.2.1) 512)
 (ae (eM ((true,()),x.2.1,())) λd=>aa ((d.1.1,d.1.2.1,()),d.2.1,())) (ak (inside 0 512<|len x.2.1.2.1)
 (ae (vi (sub x.2.1.2.1 0<|minus 512 0,())) λd=>ak d.1
 (ae (ak (cl 1024<|len x.2.1.2.1)
 (ak (aD 512 0)
 af (aa<|aD (gx (len x.2.1.2.1) 512) 0))
 (aa false)) λb=>ae (ak (nt<|nt b) (ae (jb (x.2.1.2.1,[0],())) λc=>aa (nt<|bg c.1 [])) (aa true)) λc=>ae (eM ((c,()),x.2.1,())) λa=>aa ((a.1.1,a.1.2.1,()),a.2.1,()))
 (ak (inside 0 512<|len x.2.1.2.1)
 (ae (fv (sub x.2.1.2.1 0<|minus 512 0,())) λb=>ak (inside 512 (len x.2.1.2.1)<|len x.2.1.2.1)
 (ak (nt<|aD b.2.1 0)
 (ae (eM ((true,()),x.2.1,())) λc=>aa ((c.1.1,c.1.2.1,()),c.2.1,())) (ak (aL (len<|sub x.2.1.2.1 512<|minus (len x.2.1.2.1) 512) b.1.2.2.2.2.2.1)
 (ae (eM ((true,()),x.2.1,())) λc=>aa ((c.1.1,c.1.2.1,()),c.2.1,())) (ae (yn (b.1.2.2.2.2.2.1,())) λc=>ak (aL (len<|sub x.2.1.2.1 512<|minus (len x.2.1.2.1) 512)<|aw i64 b.1.2.2.2.2.2.1 c.1)
 (ae (eM ((true,()),x.2.1,())) λa=>aa ((a.1.1,a.1.2.1,()),a.2.1,())) (ak (cl 64 x.2.1.2.2.1)
 (ae (eM ((true,()),x.2.1,())) λa=>aa ((a.1.1,a.1.2.1,()),a.2.1,())) (ae (yn (b.1.2.2.2.2.2.1,())) λa=>ak (inside (aw i64 b.1.2.2.2.2.2.1 a.1) (len<|sub x.2.1.2.1 512<|minus (len x.2.1.2.1) 512)<|len<|sub x.2.1.2.1 512<|minus (len x.2.1.2.1) 512)
 (ak (inside 0 b.1.2.2.2.2.2.1<|len<|sub x.2.1.2.1 512<|minus (len x.2.1.2.1) 512)
 (aa (((b.1,sub (sub x.2.1.2.1 512<|minus (len x.2.1.2.1) 512) 0<|minus b.1.2.2.2.2.2.1 0,()),true,()),(x.2.1.1,sub (sub x.2.1.2.1 512<|minus (len x.2.1.2.1) 512) (aw i64 b.1.2.2.2.2.2.1 a.1)<|minus (len<|sub x.2.1.2.1 512<|minus (len x.2.1.2.1) 512)<|aw i64 b.1.2.2.2.2.2.1 a.1,aw i64 x.2.1.2.2.1 1,x.2.1.2.2.2),())) af)
 af)))))
 af)
 af))
 af))
def iR(x:aj×Tu×aj):Option ((Bool×aj)×Tu×aj) :=aa ((x.2.1.2.2.2.2.1,()),x.2.1,())
def kV(a:(aj×aj×Bool×aj)×Tt×(List Tt)×Tu×aj):Option (((aj×aj×Bool×aj)×Tt×(List Tt)×Tu×aj)⊕((aj×aj×Bool×aj)×Tt×(List Tt)×Tu×aj)) :=
 cr (ak a.1.2.2.1
 (ak (fits<|plus (len a.2.2.1)<|len [a.2.1])
 (ae (cc ((),a.2.2.2.1,())) λb=>aa (ay (((),(),b.1.2.1,()),b.1.1,app a.2.2.1 [a.2.1],b.2.1,()))) af)
 (aa<|az (0,((),(),a.1.2.2.1,()),a.2.1,a.2.2.1,a.2.2.2.1,())))
def gr(x:Sb×aj):Option ((List Tt)×Int×aj) :=
 ae (cc ((),(true,x.1,0,aL 8192<|len x.1,aL 8192<|len x.1,()),())) (λa=>ae (Loop (kV) (((),(),a.1.2.1,()),a.1.1,[],a.2.1,())) λb=>ae (iR ((),b.2.2.2.1,())) λc=>ak c.1.1
 (aa ([],10,())) (aa (b.2.2.1,0,())))
def lR(a:(Int×aj)×aj):Option (((Int×aj)×aj)⊕((Int×aj)×aj)) :=
 cr (ak (aD 512 0)
 af (ak (nt<|aD (gx a.1.1 512) 0)
 (aa<|ay ((aw i64 a.1.1 1,()),())) (aa<|az (0,(a.1.1,()),()))))
def nO(x:Int×aj):Option (Int×aj) :=ae (Loop (lR) ((x.1,()),())) (λa=>aa (a.1.1,()))
end Go.Ge
namespace Go.Ge
variable [Lp]
set_option maxRecDepth 100000
abbrev acy:=(((Bool×Int×aj)×aj)⊕(Nat×(Bool×Int×aj)×aj))
abbrev IJ:=(Int×Int×aj)
abbrev ah8:=((IJ×aj)⊕(Nat×IJ×aj))
abbrev acz:=(Int×Int×Int×aj)
def fw(x:Sb×aj):Option ((List Sb)×aj) :=ak (bg x.1 []) (aa ([],())) (ae (wG (x.1,[47],())) λa=>aa (a.1,()))
def oc(x:Sb×aj)(a:(Bool×Int×aj)×aj):Option acy :=
 ak (aL a.1.2.1 2) (ae (idx [([46]:bb),([46,46]:bb)] a.1.2.1) λb=>ak (bg x.1 b)
 (aa<|az (1,(false,a.1.2.1,()),())) (aa<|ay ((a.1.1,aw i64 a.1.2.1 1,()),())))
 (aa<|az (0,(a.1.1,a.1.2.1,()),()))
def tc(x:Sb×aj):Option (Bool×aj) :=
 ae (Loop (oc x) ((false,0,()),())) (λb=>ak (cm b.1 0)
 (ae (ak (ak (cl 1<|len x.1)
 (cl (len x.1) 32) false)
 (ae (dC (x.1,0,())) λa=>aa (aL a.1 0)) (aa false)) λa=>aa (a,()))
 (aa (b.2.1.1,())))
def cI(x:Sb×Sb×aj):Option (Bool×aj) :=ae (cC (x.1,x.2.1,())) (λa=>aa (a.1,()))
def pE(d:(List Sb)×aj)(a:(Sb×Int×aj×Int×aj)×(List Sb)×aj):Option (((Sb×Int×aj×Int×aj)×(List Sb)×aj)⊕(Nat×(Sb×Int×aj×Int×aj)×(List Sb)×aj)) :=
 ak (aL a.1.2.2.2.1<|len d.1) (ae (idx d.1 a.1.2.2.2.1) λc=>ae (ak (ak (nt<|bg c [])
 (bg c [46]) true)
 (aa (0,(a.1.1,a.1.2.1,(),()),a.2.1,())) (ae (tc (c,())) λb=>ak (nt b.1)
 (aa (1,([],2,(),()),a.2.1,())) (ak (fits<|plus (len a.2.1)<|len [c])
 (aa (0,(a.1.1,a.1.2.1,(),()),app a.2.1 [c],())) af))) λb=>ak (cm b.1 0)
 (aa<|ay ((b.2.1.1,b.2.1.2.1,(),aw i64 a.1.2.2.2.1 1,()),b.2.2.1,())) (aa<|az (1,(b.2.1.1,b.2.1.2.1,(),a.1.2.2.2.1,()),b.2.2.1,())))
 (aa<|az (0,(a.1.1,a.1.2.1,(),a.1.2.2.2.1,()),a.2.1,()))
def qB(x:Sb×aj):Option (Sb×Int×aj) :=
 ae (fw (x.1,())) (λc=>ae (Loop (pE c) (([],0,(),0,()),[],())) λa=>ak (cm a.1 0)
 (ae (lN (a.2.2.1,[47],())) λb=>ae (cI (x.1,[47],())) λd=>ak (ak (nt<|ak (nt d.1)
 (aL 8<|len a.2.2.1) true)
 (aL 96<|len b.1) true)
 (aa ([],2,())) (aa (b.1,0,())))
 (aa (a.2.1.1,a.2.1.2.1,())))
def bX(x:(List Sb)×Sb×aj)(a:IJ×aj):Option ah8 :=
 ak (aL a.1.2.1<|len x.1) (ae (idx x.1 a.1.2.1) λb=>ak (bg x.2.1 b)
 (aa<|az (1,(a.1.2.1,a.1.2.1,()),())) (aa<|ay ((a.1.1,aw i64 a.1.2.1 1,()),())))
 (aa<|az (0,(a.1.1,a.1.2.1,()),()))
def eY(x:(List Sb)×Sb×aj):Option (Int×aj) :=
 ae (Loop (bX x) ((0,0,()),())) (λa=>ak (cm a.1 0)
 (aa ((-1),())) (aa (a.2.1.1,())))
def bD(x:(List Sb)×Sb×aj):Option (Bool×aj) :=ae (eY (x.1,x.2.1,())) (λa=>aa (cl 0 a.1,()))
def td(x:Sb×aj):Option (Int×Sb×aj) :=
 ae (lv (x.1,[46,119,104,46],())) (λa=>ak (nt a.2.1)
 (aa (0,x.1,())) (ak (bg x.1 [46,119,104,46,46,119,104,46,46,111,112,113])
 (aa (2,[],())) (ae (cI (a.1,[46,119,104,46],())) λc=>ae (ak (nt c.1)
 (ae (bD ([([]:bb),([46]:bb),([46,46]:bb)],a.1,())) λb=>aa b.1) (aa true)) λb=>ak b
 (aa (3,[],())) (aa (1,a.1,())))))
def db(x:Sb×Int×aj)(a:IJ×aj):Option ah8 :=
 ak (cl 0 a.1.2.1) (ae (idx x.1 a.1.2.1) λb=>ak (aD (u8 b) x.2.1)
 (aa<|az (1,(a.1.2.1,a.1.2.1,()),())) (aa<|ay ((a.1.1,cG i64 a.1.2.1 1,()),())))
 (aa<|az (0,(a.1.1,a.1.2.1,()),()))
def dn(x:Sb×Int×aj):Option (Int×aj) :=
 ae (Loop (db x) ((0,cG i64 (len x.1) 1,()),())) (λa=>ak (cm a.1 0)
 (aa ((-1),())) (aa (a.2.1.1,())))
def oE(x:Sb×aj)(a:IJ×aj):Option ((IJ×aj)⊕(IJ×aj)) :=
 cr (ak (cl 0 a.1.2.1)
 (ae (idx x.1 a.1.2.1) λb=>aa (ay ((aw u32 (lg u32 a.1.1 16777619)<|lj u32<|u8 b,cG i64 a.1.2.1 1,()),()))) (aa<|az (0,(a.1.1,a.1.2.1,()),())))
def oF(a:acz×aj):Option ((acz×aj)⊕(acz×aj)) :=
 cr (ak (aL 0 a.1.2.2.1)
 (ak (aL 1 0)
 af (aa<|ay ((((ak (nt<|aD (hL i64 a.1.2.2.1 1) 0)
 ((lg u32 a.1.1 a.1.2.1,()),()) ((a.1.1,()),())).1).1,lg u32 a.1.2.1 a.1.2.1,jT i64 a.1.2.2.1 1,()),())))
 (aa<|az (0,(a.1.1,a.1.2.1,a.1.2.2.1,()),())))
def iq(x:Sb×aj):Option IJ :=ae (Loop (oE x) ((0,cG i64 (len x.1) 1,()),())) (λa=>ae (Loop (oF) ((1,16777619,len x.1,()),())) λb=>aa (a.1.1,b.1.1,()))
def ky(x:Sb×Sb×aj)(a:IJ×aj):Option ((IJ×aj)⊕(IJ×aj)) :=
 cr (ak (cl (cG i64 (len x.1)<|len x.2.1) a.1.2.1)
 (ae (idx x.1 a.1.2.1) λb=>aa (ay ((aw u32 (lg u32 a.1.1 16777619)<|lj u32<|u8 b,cG i64 a.1.2.1 1,()),()))) (aa<|az (0,(a.1.1,a.1.2.1,()),())))
def kz(x:Sb×Sb×aj)(b:Int×Int×aj)(a:acz×aj):Option ((acz×aj)⊕(Nat×acz×aj)) :=
 ak (cl 0 a.1.2.2.1) (ae (idx x.1 a.1.2.2.1) λc=>ae (idx x.1<|aw i64 a.1.2.2.1<|len x.2.1) λd=>ae (ak (aD (cG u32 (aw u32 (lg u32 a.1.2.1 16777619)<|lj u32<|u8 c)<|lg u32 b.2.1<|lj u32<|u8 d) b.1)
 (ak (inside a.1.2.2.1 (aw i64 a.1.2.2.1<|len x.2.1)<|len x.1)
 (aa<|bg (sub x.1 a.1.2.2.1<|minus (aw i64 a.1.2.2.1<|len x.2.1) a.1.2.2.1) x.2.1) af)
 (aa false)) λe=>ak e
 (aa<|az (1,(a.1.2.2.1,cG u32 (aw u32 (lg u32 a.1.2.1 16777619)<|lj u32<|u8 c)<|lg u32 b.2.1<|lj u32<|u8 d,a.1.2.2.1,()),())) (aa<|ay ((a.1.1,cG u32 (aw u32 (lg u32 a.1.2.1 16777619)<|lj u32<|u8 c)<|lg u32 b.2.1<|lj u32<|u8 d,cG i64 a.1.2.2.1 1,()),())))
 (aa<|az (0,(a.1.1,a.1.2.1,a.1.2.2.1,()),()))
def fg(x:Sb×Sb×aj):Option (Int×aj) :=
 ae (iq (x.2.1,())) (λa=>ae (Loop (ky x) ((0,cG i64 (len x.1) 1,()),())) λb=>ae (ak (aD b.1.1 a.1)
 (ak (inside (cG i64 (len x.1)<|len x.2.1) (len x.1)<|len x.1)
 (aa<|bg (sub x.1 (cG i64 (len x.1)<|len x.2.1)<|minus (len x.1)<|cG i64 (len x.1)<|len x.2.1) x.2.1) af)
 (aa false)) λd=>ak d
 (aa (cG i64 (len x.1)<|len x.2.1,())) (ae (Loop (kz x a) ((0,b.1.1,cG i64 (cG i64 (len x.1)<|len x.2.1) 1,()),())) λc=>ak (cm c.1 0)
 (aa ((-1),())) (aa (c.2.1.1,()))))
def qq(x:Sb×Sb×aj):Option (Int×aj) :=
 ak (aD (len x.2.1) 0) (aa (len x.1,())) (ak (aD (len x.2.1) 1)
 (ae (idx x.2.1 0) λa=>ae (dn (x.1,u8 a,())) λb=>aa (b.1,())) (ak (aD (len x.2.1)<|len x.1)
 (ak (bg x.2.1 x.1)
 (aa (0,())) (aa ((-1),())))
 (ak (aL (len x.1)<|len x.2.1)
 (aa ((-1),())) (ae (fg (x.1,x.2.1,())) λa=>aa (a.1,())))))
def gA(x:Sb×aj):Option (Sb×Sb×aj) :=
 ae (qq (x.1,[47],())) (λa=>ak (aL a.1 0)
 (aa ([],x.1,())) (ak (inside 0 a.1<|len x.1)
 (ak (inside (aw i64 a.1 1) (len x.1)<|len x.1)
 (aa (sub x.1 0<|minus a.1 0,sub x.1 (aw i64 a.1 1)<|minus (len x.1)<|aw i64 a.1 1,())) af)
 af))
def cN(x:(List Sb)×(List Sb)×aj)(a:(Bool×Int×aj)×aj):Option acy :=
 ak (aL a.1.2.1<|len x.1) (ae (idx x.1 a.1.2.1) λb=>ae (idx x.2.1 a.1.2.1) λc=>ak (nt<|bg b c)
 (aa<|az (1,(false,a.1.2.1,()),())) (aa<|ay ((a.1.1,aw i64 a.1.2.1 1,()),())))
 (aa<|az (0,(a.1.1,a.1.2.1,()),()))
def bG(x:(List Sb)×(List Sb)×aj):Option (Bool×aj) :=
 ak (nt<|aD (len x.1)<|len x.2.1) (aa (false,())) (ae (Loop (cN x) ((false,0,()),())) λa=>ak (cm a.1 0)
 (aa (true,())) (aa (a.2.1.1,())))
def dH(x:Sb×Sb×aj):Option (Bool×aj) :=
 ae (fw (x.1,())) (λb=>ae (fw (x.2.1,())) λa=>ae (ak (aL (len a.1)<|len b.1)
 (ak (inside 0 (len a.1)<|len b.1)
 (ae (bG (sub b.1 0<|minus (len a.1) 0,a.1,())) λc=>aa c.1) af)
 (aa false)) λc=>aa (c,()))
def jc(x:Sb×aj):Option (Bool×aj) :=aa (nt<|bg x.1 x.1,())
def kA(x:Sb×Sb×aj):Option (Int×aj) :=
 ae (jc (x.1,())) (λb=>ae (jc (x.2.1,())) λa=>ak b.1
 (ak a.1
 (aa (0,())) (aa ((-1),())))
 (ak a.1
 (aa (1,())) (ak (fZ x.1 x.2.1)
 (aa ((-1),())) (ak (nt<|oor (fZ x.1 x.2.1)<|bg x.1 x.2.1)
 (aa (1,())) (aa (0,()))))))
def dO(b:(List Sb)×aj)(c:(List Sb)×aj)(a:IJ×aj):Option ah8 :=
 ak (aL a.1.2.1<|len b.1) (ae (idx b.1 a.1.2.1) λe=>ak (cl (len c.1) a.1.2.1)
 (aa<|az (1,(1,a.1.2.1,()),())) (ae (idx c.1 a.1.2.1) λf=>ae (kA (e,f,())) λd=>ak (nt<|aD d.1 0)
 (aa<|az (1,(d.1,a.1.2.1,()),())) (aa<|ay ((a.1.1,aw i64 a.1.2.1 1,()),()))))
 (aa<|az (0,(a.1.1,a.1.2.1,()),()))
def hR(x:Sb×Sb×aj):Option (Int×aj) :=
 ae (fw (x.1,())) (λa=>ae (fw (x.2.1,())) λb=>ae (Loop (dO a b) ((0,0,()),())) λc=>ak (cm c.1 0)
 (ak (aL (len a.1)<|len b.1)
 (aa ((-1),())) (aa (0,())))
 (aa (c.2.1.1,())))
def lS(x:Sb×aj)(a:(aj×Sb×Int×aj)×(List Sb)×aj):Option (((aj×Sb×Int×aj)×(List Sb)×aj)⊕((aj×Sb×Int×aj)×(List Sb)×aj)) :=
 cr (ak (aL a.1.2.2.1<|len x.1)
 (ae (idx x.1 a.1.2.2.1) λc=>ae (ak (aD (u8 c) 47)
 (ak (fits<|plus (len a.2.1)<|len [a.1.2.1])
 (aa (((),[],()),app a.2.1 [a.1.2.1],())) af)
 (ak (inside a.1.2.2.1 (aw i64 a.1.2.2.1 1)<|len x.1)
 (ak (fits<|plus (len a.1.2.1)<|len<|sub x.1 a.1.2.2.1<|minus (aw i64 a.1.2.2.1 1) a.1.2.2.1)
 (aa (((),app a.1.2.1<|sub x.1 a.1.2.2.1<|minus (aw i64 a.1.2.2.1 1) a.1.2.2.1,()),a.2.1,())) af)
 af)) λb=>aa (ay (((),b.1.2.1,aw i64 a.1.2.2.1 1,()),b.2.1,())))
 (aa<|az (0,((),a.1.2.1,a.1.2.2.1,()),a.2.1,())))
def ep(x:Sb×aj):Option ((List Sb)×aj) :=
 ak (bg x.1 []) (aa ([],())) (ae (Loop (lS x) (((),[],0,()),[],())) λa=>ak (fits<|plus (len a.2.1)<|len [a.1.2.1])
 (aa (app a.2.1 [a.1.2.1],())) af)
def qW(x:(List Sb)×aj)(a:(Sb×Int×aj)×aj):Option (((Sb×Int×aj)×aj)⊕((Sb×Int×aj)×aj)) :=
 cr (ak (aL a.1.2.1<|len x.1)
 (ae (ak (aL 0 a.1.2.1)
 (ak (fits<|plus (len a.1.1)<|len ([47]:bb))
 (aa ((app a.1.1 [47],()),())) af)
 (aa ((a.1.1,()),()))) λb=>ae (idx x.1 a.1.2.1) λc=>ak (fits<|plus (len b.1.1)<|len c)
 (aa<|ay ((app b.1.1 c,aw i64 a.1.2.1 1,()),())) af)
 (aa<|az (0,(a.1.1,a.1.2.1,()),())))
def pF(x:(List Sb)×aj):Option (Sb×aj) :=ae (Loop (qW x) (([],0,()),())) (λa=>aa (a.1.1,()))
def od(x:Sb×aj)(a:(Bool×Int×aj)×aj):Option acy :=
 ak (aL a.1.2.1<|len x.1) (ae (idx x.1 a.1.2.1) λc=>ae (ak (nt<|aD (u8 c) 0)
 (ae (idx x.1 a.1.2.1) λb=>aa (aD (u8 b) 47)) (aa true)) λb=>ak b
 (aa<|az (1,(false,a.1.2.1,()),())) (aa<|ay ((a.1.1,aw i64 a.1.2.1 1,()),())))
 (aa<|az (0,(a.1.1,a.1.2.1,()),()))
def te(x:Sb×aj):Option (Bool×aj) :=
 ae (Loop (od x) ((false,0,()),())) (λa=>ak (cm a.1 0)
 (aa (ak (ak (ak (cl 1<|len x.1)
 (cl (len x.1) 32) false)
 (nt<|bg x.1 [46]) false)
 (nt<|bg x.1 [46,46]) false,()))
 (aa (a.2.1.1,())))
def vj(b:(List Sb)×aj)(a:(Bool×Int×aj)×aj):Option acy :=
 ak (aL a.1.2.1<|len b.1) (ae (idx b.1 a.1.2.1) λc=>ae (te (c,())) λd=>ak (nt d.1)
 (aa<|az (1,(false,a.1.2.1,()),())) (aa<|ay ((a.1.1,aw i64 a.1.2.1 1,()),())))
 (aa<|az (0,(a.1.1,a.1.2.1,()),()))
def yo(x:Sb×aj):Option (Bool×aj) :=
 ae (ep (x.1,())) (λa=>ae (Loop (vj a) ((false,0,()),())) λb=>ak (cm b.1 0)
 (aa (ak (cl (len a.1) 8)
 (cl (len x.1) 96) false,()))
 (aa (b.2.1.1,())))
def lT(b:(List Sb)×aj)(a:(aj×Int×aj)×(List Sb)×aj):Option (((aj×Int×aj)×(List Sb)×aj)⊕((aj×Int×aj)×(List Sb)×aj)) :=
 cr (ak (aL a.1.2.1<|len b.1)
 (ae (idx b.1 a.1.2.1) λe=>ae (ak (nt<|bg e [])
 (ae (idx b.1 a.1.2.1) λd=>aa (nt<|bg d [46])) (aa false)) λd=>ae (ak d (ae (idx b.1 a.1.2.1) λc=>ak (fits<|plus (len a.2.1)<|len [c])
 (aa (((),()),app a.2.1 [c],())) af)
 (aa (((),()),a.2.1,()))) λc=>aa (ay (((),aw i64 a.1.2.1 1,()),c.2.1,())))
 (aa<|az (0,((),a.1.2.1,()),a.2.1,())))
def vk(x:Sb×aj):Option (Sb×Int×aj) :=
 ae (ep (x.1,())) (λd=>ae (Loop (lT d) (((),0,()),[],())) λe=>ae (pF (e.2.1,())) λc=>ae (ak (nt<|bg x.1 [])
 (ae (idx x.1 0) λa=>aa (aD (u8 a) 47)) (aa false)) λa=>ae (ak (nt a) (ae (yo (c.1,())) λb=>aa (nt b.1)) (aa true)) λb=>ak b
 (aa ([],2,())) (aa (c.1,0,())))
def oS(x:Sb×Sb×aj):Option (Bool×aj) :=
 ae (ak (cl (len x.2.1)<|len x.1)
 (ak (inside 0 (len x.2.1)<|len x.1)
 (aa<|bg (sub x.1 0<|minus (len x.2.1) 0) x.2.1) af)
 (aa false)) (λa=>aa (a,()))
def tf(x:Sb×aj):Option (Int×Sb×aj) :=
 ak (bg x.1 [46,119,104,46,46,119,104,46,46,111,112,113]) (aa (2,[],())) (ae (oS (x.1,[46,119,104,46,46,119,104,46],())) λa=>ak (ak (nt<|ak (nt<|ak (nt a.1)
 (bg x.1 [46,119,104,46]) true)
 (bg x.1 [46,119,104,46,46]) true)
 (bg x.1 [46,119,104,46,46,46]) true)
 (aa (3,[],())) (ae (oS (x.1,[46,119,104,46],())) λb=>ak b.1
 (ak (inside 4 (len x.1)<|len x.1)
 (aa (1,sub x.1 4<|minus (len x.1) 4,())) af)
 (aa (0,x.1,()))))
def kW(x:Sb×aj):Option (Sb×Sb×aj) :=
 ae (ep (x.1,())) (λa=>ak (aD (len a.1) 0)
 (aa ([],[],())) (ak (inside 0 (cG i64 (len a.1) 1)<|len a.1)
 (ae (pF (sub a.1 0<|minus (cG i64 (len a.1) 1) 0,())) λb=>ae (idx a.1<|cG i64 (len a.1) 1) λc=>aa (b.1,c,())) af))
def kB(x:(List Sb)×(List Sb)×aj)(a:(Bool×Int×aj)×aj):Option acy :=
 ak (ak (aL a.1.2.1<|len x.1)
 (aL a.1.2.1<|len x.2.1) false)
 (ae (idx x.1 a.1.2.1) λb=>ae (idx x.2.1 a.1.2.1) λc=>ak (nt<|bg b c)
 (aa<|az (1,(false,a.1.2.1,()),())) (aa<|ay ((a.1.1,aw i64 a.1.2.1 1,()),())))
 (aa<|az (0,(a.1.1,a.1.2.1,()),()))
def dY(x:(List Sb)×(List Sb)×aj):Option (Bool×aj) :=
 ak (nt<|aD (len x.1)<|len x.2.1) (aa (false,())) (ae (Loop (kB x) ((false,0,()),())) λa=>ak (cm a.1 0)
 (aa (true,())) (aa (a.2.1.1,())))
def pG(x:Sb×Sb×aj):Option (Sb×aj) :=
 ak (ak (nt<|bg x.1 [])
 (bg x.2.1 []) true)
 (ak (fits<|plus (len x.1)<|len x.2.1)
 (aa (app x.1 x.2.1,())) af)
 (ak (fits<|plus (len x.1)<|len ([47]:bb))
 (ak (fits<|plus (len<|app x.1 [47])<|len x.2.1)
 (aa (app (app x.1 [47]) x.2.1,())) af)
 af)
def pH(x:Sb×Sb×aj):Option (Sb×aj) :=
 ak (bg x.1 []) (aa (x.2.1,())) (ak (bg x.2.1 [])
 (aa (x.1,())) (ak (fits<|plus (len x.1)<|len ([47]:bb))
 (ak (fits<|plus (len<|app x.1 [47])<|len x.2.1)
 (aa (app (app x.1 [47]) x.2.1,())) af)
 af))
def pI(b:(List Sb)×aj)(c:(List Sb)×aj)(a:(Bool×Int×aj)×aj):Option acy :=
 ak (ak (aL a.1.2.1<|len c.1)
 (aL a.1.2.1<|len b.1) false)
 (ae (idx b.1 a.1.2.1) λd=>ae (idx c.1 a.1.2.1) λe=>ak (nt<|bg d e)
 (aa<|az (1,(false,a.1.2.1,()),())) (aa<|ay ((a.1.1,aw i64 a.1.2.1 1,()),())))
 (aa<|az (0,(a.1.1,a.1.2.1,()),()))
def vl(x:Sb×Sb×aj):Option (Bool×aj) :=
 ae (ep (x.1,())) (λa=>ae (ep (x.2.1,())) λb=>ak (cl (len a.1)<|len b.1)
 (aa (false,())) (ae (Loop (pI a b) ((false,0,()),())) λc=>ak (cm c.1 0)
 (aa (true,())) (aa (c.2.1.1,()))))
def dP(b:(List Sb)×aj)(c:(List Sb)×aj)(a:IJ×aj):Option ah8 :=
 ak (ak (aL a.1.2.1<|len b.1)
 (aL a.1.2.1<|len c.1) false)
 (ae (idx b.1 a.1.2.1) λf=>ae (idx c.1 a.1.2.1) λg=>ak (fZ f g)
 (aa<|az (1,((-1),a.1.2.1,()),())) (ae (idx b.1 a.1.2.1) λd=>ae (idx c.1 a.1.2.1) λe=>ak (nt<|oor (fZ d e)<|bg d e)
 (aa<|az (1,(1,a.1.2.1,()),())) (aa<|ay ((a.1.1,aw i64 a.1.2.1 1,()),()))))
 (aa<|az (0,(a.1.1,a.1.2.1,()),()))
def j8(x:Sb×Sb×aj):Option (Int×aj) :=
 ae (ep (x.1,())) (λa=>ae (ep (x.2.1,())) λb=>ae (Loop (dP a b) ((0,0,()),())) λc=>ak (cm c.1 0)
 (ak (aL (len a.1)<|len b.1)
 (aa ((-1),())) (ak (aL (len b.1)<|len a.1)
 (aa (1,())) (aa (0,()))))
 (aa (c.2.1.1,())))
end Go.Ge
namespace Go.Ge
variable [Lp]
set_option maxRecDepth 100000
def gI(x:Sb×aj)(a:(Int×Bool×Int×Int×aj)×aj):Option (((Int×Bool×Int×Int×aj)×aj)⊕(Nat×(Int×Bool×Int×Int×aj)×aj)) :=
 ak (aL a.1.2.2.2.1<|len x.1) (ae (idx x.1 a.1.2.2.2.1) λc=>ae (ak (nt<|aL (u8 c) 48)
 (ae (idx x.1 a.1.2.2.2.1) λb=>aa (aL 55<|u8 b)) (aa true)) λb=>ak (ak (nt b) (aL 1152921504606846975 a.1.2.2.1) true)
 (aa<|az (1,(0,false,a.1.2.2.1,a.1.2.2.2.1,()),())) (ae (idx x.1 a.1.2.2.2.1) λd=>aa (ay ((a.1.1,a.1.2.1,aw i64 (lg i64 8 a.1.2.2.1)<|lj i64<|cG IntKind.u8 (u8 d) 48,aw i64 a.1.2.2.2.1 1,()),()))))
 (aa<|az (0,(a.1.1,a.1.2.1,a.1.2.2.1,a.1.2.2.2.1,()),()))
def oe(x:Sb×aj):Option (Int×Bool×aj) :=
 ak (ak (nt<|aL (len x.1) 1)
 (aL 21<|len x.1) true)
 (aa (0,false,())) (ae (Loop (gI x) ((0,false,0,0,()),())) λa=>ak (cm a.1 0)
 (aa (a.2.1.2.2.1,true,())) (aa (a.2.1.1,a.2.1.2.1,())))
end Go.Ge
namespace Go.Ge
variable [Lp]
set_option maxRecDepth 100000
abbrev mo:=(Sb×Int×Int×Sb×Sb×aj)
abbrev ah9:=((Int×Int×aj×aj)×aj×Sb×(List mo)×aj)
abbrev K8:=(Int×Int×aj)
abbrev akc:=(bb×(Int×(Int×(bb×(bb×aj)))))
def bk(l:List akc)(x:(Int×((List akc)×aj))):Option (List akc):=uI l x.1 x.2.1
def vm(x:Sb×aj):Option (Bool×aj) :=
 ae (qB (x.1,())) (λa=>ae (gA (x.1,())) λb=>ae (td (b.2.1,())) λc=>aa (ak (ak (ak (ak (aD a.2.1 0)
 (bg a.1 x.1) false)
 (nt<|bg x.1 []) false)
 (ak (cl (len x.1) 92)
 (cl (len b.2.1) 28) false)
 false)
 (aD c.1 0) false,()))
def AE(x:mo×aj):Option (Bool×aj) :=
 ae (vm (x.1.1,())) (λb=>ak (ak (nt<|ak (nt<|nt b.1)
 (aL x.1.2.2.1 0) true)
 (aL 4095 x.1.2.2.1) true)
 (aa (false,())) (ak (aD x.1.2.1 1)
 (aa (ak (bg x.1.2.2.2.2.1 [])
 (cl (len x.1.2.2.2.1) 8192) false,()))
 (ak (aD x.1.2.1 2)
 (aa (ak (bg x.1.2.2.2.2.1 [])
 (bg x.1.2.2.2.1 []) false,()))
 (ak (aD x.1.2.1 3)
 (ae (ak (ak (ak (bg x.1.2.2.2.1 [])
 (nt<|bg x.1.2.2.2.2.1 []) false)
 (cl (len x.1.2.2.2.2.1) 100) false)
 (ae (dC (x.1.2.2.2.2.1,0,())) λa=>aa (aL a.1 0)) (aa false)) λa=>aa (a,()))
 (aa (false,()))))))
def ng(x:mo×Sb×aj):Option (Int×aj) :=ae (hR (x.1.1,x.2.1,())) (λa=>aa (a.1,()))
def j9(x:(List mo)×Sb×aj)(a:K8×aj):Option ((K8×aj)⊕(K8×aj)) :=
 cr (ak (aL a.1.1 a.1.2.1)
 (ak (aL 1 0)
 af (ae (idx x.1<|lj i64<|jT IntKind.u64 (lj IntKind.u64<|aw i64 a.1.1 a.1.2.1) 1) λc=>ae (ng (c,x.2.1,())) λb=>aa (ay ((((ak (aL b.1 0)
 ((aw i64 (lj i64<|jT IntKind.u64 (lj IntKind.u64<|aw i64 a.1.1 a.1.2.1) 1) 1,a.1.2.1,()),()) ((a.1.1,lj i64<|jT IntKind.u64 (lj IntKind.u64<|aw i64 a.1.1 a.1.2.1) 1,()),())).1).1,(((ak (aL b.1 0)
 ((aw i64 (lj i64<|jT IntKind.u64 (lj IntKind.u64<|aw i64 a.1.1 a.1.2.1) 1) 1,a.1.2.1,()),()) ((a.1.1,lj i64<|jT IntKind.u64 (lj IntKind.u64<|aw i64 a.1.1 a.1.2.1) 1,()),())).1).2).1,()),()))))
 (aa<|az (0,(a.1.1,a.1.2.1,()),())))
def ew(x:(List mo)×Sb×aj):Option (Int×Bool×aj) :=
 ae (Loop (j9 x) ((0,len x.1,()),())) (λa=>ak (aL a.1.1<|len x.1)
 (ae (idx x.1 a.1.1) λb=>ae (ng (b,x.2.1,())) λc=>aa (a.1.1,aD c.1 0,())) (aa (a.1.1,false,())))
def oT(x:(List mo)×Sb×aj):Option (Int×aj) :=
 ak (bg x.2.1 []) (aa (0,())) (ae (ew (x.1,x.2.1,())) λa=>ak (nt a.2.1)
 (aa (3,())) (ae (idx x.1 a.1) λb=>ak (nt<|aD b.2.1 2)
 (aa (12,())) (aa (0,()))))
def qX(x:(List mo)×aj)(a:K8×aj):Option ((K8×aj)⊕(Nat×K8×aj)) :=
 ak (aL a.1.2.1<|len x.1) (ae (idx x.1 a.1.2.1) λb=>ae (gA (b.1,())) λd=>ae (AE (b,())) λe=>ak (nt e.1)
 (aa<|az (1,(1,a.1.2.1,()),())) (ak (aL 0 a.1.2.1)
 (ae (idx x.1<|cG i64 a.1.2.1 1) λc=>ae (hR (c.1,b.1,())) λf=>ak (cl 0 f.1)
 (aa<|az (1,(1,a.1.2.1,()),())) (ak (inside 0 a.1.2.1<|len x.1)
 (ae (oT (sub x.1 0<|minus a.1.2.1 0,d.1,())) λg=>ak (nt<|aD g.1 0)
 (aa<|az (1,(1,a.1.2.1,()),())) (aa<|ay ((a.1.1,aw i64 a.1.2.1 1,()),())))
 af))
 (ak (inside 0 a.1.2.1<|len x.1)
 (ae (oT (sub x.1 0<|minus a.1.2.1 0,d.1,())) λc=>ak (nt<|aD c.1 0)
 (aa<|az (1,(1,a.1.2.1,()),())) (aa<|ay ((a.1.1,aw i64 a.1.2.1 1,()),())))
 af)))
 (aa<|az (0,(a.1.1,a.1.2.1,()),()))
def ez(x:(List mo)×aj):Option (Int×aj) :=
 ak (aL 64<|len x.1) (aa (1,())) (ae (Loop (qX x) ((0,0,()),())) λa=>ak (cm a.1 0)
 (aa (0,())) (aa (a.2.1.1,())))
def nZ(x:(List mo)×aj):Option ((List mo)×aj) :=bif fits (len x.1) then aa (x.1,()) else af
def qC(x:(List mo)×mo×aj)(a:K8×aj×Sb×aj):Option ((K8×aj×Sb×aj)⊕(Nat×K8×aj×Sb×aj)) :=
 ak (aL a.1.2.1<|len x.1) (ak (within a.1.2.1<|len x.1)
 (ae (idx x.1 a.1.2.1) λc=>ae (ak (nt<|bg c.1 a.2.2.1)
 (ae (dH (c.1,a.2.2.1,())) λb=>aa b.1) (aa true)) λb=>ak b
 (aa<|az (1,(a.1.2.1,a.1.2.1,()),(),a.2.2.1,())) (aa<|ay ((a.1.1,aw i64 a.1.2.1 1,()),(),a.2.2.1,())))
 af)
 (aa<|az (0,(a.1.1,a.1.2.1,()),(),a.2.2.1,()))
def P7(a:(Int×Int×aj×aj)×aj×Sb×(List mo)×aj):Option (ah9⊕ah9) :=
 cr (ak (aL a.1.2.1<|len a.2.2.2.1)
 (ak (within a.1.2.1<|len a.2.2.2.1)
 (ae (idx a.2.2.2.1 a.1.2.1) λb=>ae (ak (nt<|bg b.1 a.2.2.1)
 (ae (dH (b.1,a.2.2.1,())) λc=>aa c.1) (aa true)) λc=>ae (ak (nt c) (ak (within a.1.1<|len a.2.2.2.1)
 (ae (idx a.2.2.2.1 a.1.1) λd=>ae (idx a.2.2.2.1 a.1.1) λe=>ae (idx a.2.2.2.1 a.1.1) λf=>aa ((aw i64 a.1.1 1,(),()),kO a.2.2.2.1 a.1.1 b,())) af)
 (aa ((a.1.1,(),()),a.2.2.2.1,()))) λd=>aa (ay ((d.1.1,aw i64 a.1.2.1 1,(),()),(),a.2.2.1,d.2.1,())))
 af)
 (aa<|az (0,(a.1.1,a.1.2.1,(),()),(),a.2.2.1,a.2.2.2.1,())))
def qD(a:(Int×Int×aj×aj)×aj×Sb×(List mo)×aj):Option (ah9⊕ah9) :=
 cr (ak (aL a.1.2.1<|len a.2.2.2.1)
 (ak (within a.1.2.1<|len a.2.2.2.1)
 (ae (idx a.2.2.2.1 a.1.2.1) λb=>ae (ak (nt<|bg b.1 a.2.2.1)
 (ae (dH (b.1,a.2.2.1,())) λc=>aa c.1) (aa true)) λc=>ae (ak (nt c) (ak (within a.1.1<|len a.2.2.2.1)
 (ae (idx a.2.2.2.1 a.1.1) λd=>ae (idx a.2.2.2.1 a.1.1) λe=>ae (idx a.2.2.2.1 a.1.1) λf=>aa ((aw i64 a.1.1 1,(),()),kO a.2.2.2.1 a.1.1 b,())) af)
 (aa ((a.1.1,(),()),a.2.2.2.1,()))) λd=>aa (ay ((d.1.1,aw i64 a.1.2.1 1,(),()),(),a.2.2.1,d.2.1,())))
 af)
 (aa<|az (0,(a.1.1,a.1.2.1,(),()),(),a.2.2.1,a.2.2.2.1,())))
def uK(x:(List mo)×mo×aj):Option ((List mo)×Int×aj) :=
 ae (ez (x.1,())) (λj=>ae (ak (nt<|nt<|aD j.1 0)
 (ae (AE (x.2.1,())) λf=>aa (nt f.1)) (aa true)) λf=>ak f
 (aa ([],1,())) (ae (gA (x.2.1.1,())) λk=>ae (oT (x.1,k.1,())) λh=>ak (nt<|aD h.1 0)
 (aa ([],h.1,())) (ae (ew (x.1,x.2.1.1,())) λd=>ae (ak d.2.1
 (ae (idx x.1 d.1) λg=>aa (aD g.2.1 2)) (aa false)) λg=>ak (ak g (aD x.2.1.2.1 2) false)
 (ak (fits<|len x.1)
 (ak (within d.1<|len x.1)
 (ae (idx x.1 d.1) λi=>ae (idx x.1 d.1) λc=>ae (idx x.1 d.1) λa=>aa (kO x.1 d.1 x.2.1,0,())) af)
 af)
 (ae (ez (x.1,())) λi=>ak (nt<|aD i.1 0)
 (ak (cl 64<|len ([]:List mo))
 (aa ([],5,())) (ae (ew ([],x.2.1.1,())) λc=>af))
 (ak (fits<|len x.1)
 (ae (Loop (qC x) ((0,0,()),(),x.2.1.1,())) λc=>ak (cm c.1 0)
 (ak (aD (-1)<|-1)
 (ak (cl 64<|len x.1)
 (aa ([],5,())) (ae (ew (x.1,x.2.1.1,())) λa=>ae (bk x.1 (a.1,[x.2.1],())) λb=>aa (b,0,())))
 (ae (Loop (P7) (((-1),aw i64 (-1) 1,(),()),(),c.2.2.2.1,x.1,())) λa=>ak (inside a.1.1 (len a.2.2.2.1)<|len a.2.2.2.1)
 (ak (inside 0 a.1.1<|len<|over a.2.2.2.1 a.1.1<|lh (minus (len a.2.2.2.1) a.1.1) ([],0,0,[],[],()))
 (ak (cl 64<|minus a.1.1 0)
 (aa ([],5,())) (ae (ew (sub (over a.2.2.2.1 a.1.1<|lh (minus (len a.2.2.2.1) a.1.1) ([],0,0,[],[],())) 0<|minus a.1.1 0,x.2.1.1,())) λb=>ae (bk (sub (over a.2.2.2.1 a.1.1<|lh (minus (len a.2.2.2.1) a.1.1) ([],0,0,[],[],())) 0<|minus a.1.1 0) (b.1,[x.2.1],())) λe=>aa (e,0,())))
 af)
 af))
 (ak (aD c.2.1.1<|-1)
 (ak (cl 64<|len x.1)
 (aa ([],5,())) (ae (ew (x.1,x.2.1.1,())) λa=>ae (bk x.1 (a.1,[x.2.1],())) λb=>aa (b,0,())))
 (ae (Loop (qD) ((c.2.1.1,aw i64 c.2.1.1 1,(),()),(),c.2.2.2.1,x.1,())) λa=>ak (inside a.1.1 (len a.2.2.2.1)<|len a.2.2.2.1)
 (ak (inside 0 a.1.1<|len<|over a.2.2.2.1 a.1.1<|lh (minus (len a.2.2.2.1) a.1.1) ([],0,0,[],[],()))
 (ak (cl 64<|minus a.1.1 0)
 (aa ([],5,())) (ae (ew (sub (over a.2.2.2.1 a.1.1<|lh (minus (len a.2.2.2.1) a.1.1) ([],0,0,[],[],())) 0<|minus a.1.1 0,x.2.1.1,())) λb=>ae (bk (sub (over a.2.2.2.1 a.1.1<|lh (minus (len a.2.2.2.1) a.1.1) ([],0,0,[],[],())) 0<|minus a.1.1 0) (b.1,[x.2.1],())) λe=>aa (e,0,())))
 af)
 af)))
 af)))))
def zm(x:(List mo)×Sb×aj):Option (mo×Bool×aj) :=
 ae (ez (x.1,())) (λb=>ak (nt<|aD b.1 0)
 (aa (([],0,0,[],[],()),false,())) (ae (ew (x.1,x.2.1,())) λa=>ak (nt a.2.1)
 (aa (([],0,0,[],[],()),false,())) (ae (idx x.1 a.1) λc=>aa (c,true,()))))
def oh(x:Sb×aj)(a:(Bool×Int×aj)×aj):Option (((Bool×Int×aj)×aj)⊕(Nat×(Bool×Int×aj)×aj)) :=
 ak (aL a.1.2.1<|len x.1) (ae (idx x.1 a.1.2.1) λb=>ak (aD (u8 b) 0)
 (aa<|az (1,(false,a.1.2.1,()),())) (aa<|ay ((a.1.1,aw i64 a.1.2.1 1,()),())))
 (aa<|az (0,(a.1.1,a.1.2.1,()),()))
def tg(x:Sb×aj):Option (Bool×aj) :=
 ae (Loop (oh x) ((false,0,()),())) (λa=>ak (cm a.1 0)
 (aa (ak (cl 1<|len x.1)
 (cl (len x.1) 100) false,()))
 (aa (a.2.1.1,())))
def mu(x:mo×aj):Option (Bool×aj) :=
 ae (kW (x.1.1,())) (λb=>ae (tf (b.2.1,())) λc=>ae (ak (nt<|bg x.1.1 [])
 (ae (yo (x.1.1,())) λa=>aa a.1) (aa false)) λa=>ak (aD x.1.2.1 1)
 (aa (ak (ak (ak (ak (ak (ak (ak a
 (cl (len x.1.1) 92) false)
 (cl (len b.2.1) 28) false)
 (aD c.1 0) false)
 (cl 0 x.1.2.2.1) false)
 (cl x.1.2.2.1 4095) false)
 (bg x.1.2.2.2.2.1 []) false)
 (cl (len x.1.2.2.2.1) 8192) false,()))
 (ak (aD x.1.2.1 2)
 (aa (ak (ak (ak (ak (ak (ak (ak a
 (cl (len x.1.1) 92) false)
 (cl (len b.2.1) 28) false)
 (aD c.1 0) false)
 (cl 0 x.1.2.2.1) false)
 (cl x.1.2.2.1 4095) false)
 (bg x.1.2.2.2.2.1 []) false)
 (bg x.1.2.2.2.1 []) false,()))
 (ak (aD x.1.2.1 3)
 (ae (ak (ak (ak (ak (ak (ak (ak a
 (cl (len x.1.1) 92) false)
 (cl (len b.2.1) 28) false)
 (aD c.1 0) false)
 (cl 0 x.1.2.2.1) false)
 (cl x.1.2.2.1 4095) false)
 (bg x.1.2.2.2.1 []) false)
 (ae (tg (x.1.2.2.2.2.1,())) λd=>aa d.1) (aa false)) λd=>aa (d,()))
 (aa (false,())))))
def qY(x:(List mo)×Sb×aj)(a:K8×aj):Option ((K8×aj)⊕(Nat×K8×aj)) :=
 ak (aL a.1.2.1<|len x.1) (ae (idx x.1 a.1.2.1) λb=>ak (bg b.1 x.2.1)
 (aa<|az (1,(a.1.2.1,a.1.2.1,()),())) (aa<|ay ((a.1.1,aw i64 a.1.2.1 1,()),())))
 (aa<|az (0,(a.1.1,a.1.2.1,()),()))
def iy(x:(List mo)×Sb×aj):Option (Int×aj) :=
 ae (Loop (qY x) ((0,0,()),())) (λa=>ak (cm a.1 0)
 (aa ((-1),())) (aa (a.2.1.1,())))
def oU(x:(List mo)×Sb×aj):Option (Bool×aj) :=
 ae (iy (x.1,x.2.1,())) (λb=>ae (ak (nt<|bg x.2.1 [])
 (ae (ak (cl 0 b.1)
 (ae (idx x.1 b.1) λa=>aa (aD a.2.1 2)) (aa false)) λa=>aa a)
 (aa true)) λa=>aa (a,()))
def vn(x:(List mo)×aj)(a:(Bool×Int×aj)×aj):Option (((Bool×Int×aj)×aj)⊕(Nat×(Bool×Int×aj)×aj)) :=
 ak (aL a.1.2.1<|len x.1) (ae (idx x.1 a.1.2.1) λb=>ae (kW (b.1,())) λc=>ae (idx x.1 a.1.2.1) λd=>ae (mu (d,())) λe=>ak (nt e.1)
 (aa<|az (1,(false,a.1.2.1,()),())) (ae (oU (x.1,c.1,())) λf=>ak (nt f.1)
 (aa<|az (1,(false,a.1.2.1,()),())) (ak (aL 0 a.1.2.1)
 (ae (idx x.1<|cG i64 a.1.2.1 1) λg=>ae (idx x.1 a.1.2.1) λh=>ae (j8 (g.1,h.1,())) λi=>ak (cl 0 i.1)
 (aa<|az (1,(false,a.1.2.1,()),())) (aa<|ay ((a.1.1,aw i64 a.1.2.1 1,()),())))
 (aa<|ay ((a.1.1,aw i64 a.1.2.1 1,()),())))))
 (aa<|az (0,(a.1.1,a.1.2.1,()),()))
def jd(x:(List mo)×aj):Option (Bool×aj) :=
 ak (aL 64<|len x.1) (aa (false,())) (ae (Loop (vn x) ((false,0,()),())) λa=>ak (cm a.1 0)
 (aa (true,())) (aa (a.2.1.1,())))
def mE(x:(List mo)×Sb×Bool×aj)(a:(aj×Int×aj)×(List mo)×aj):Option (((aj×Int×aj)×(List mo)×aj)⊕((aj×Int×aj)×(List mo)×aj)) :=
 cr (ak (aL a.1.2.1<|len x.1)
 (ae (idx x.1 a.1.2.1) λd=>ae (vl (d.1,x.2.1,())) λe=>ae (ak (nt e.1)
 (ae (ak (nt<|nt x.2.2.1)
 (ae (idx x.1 a.1.2.1) λb=>aa (nt<|bg b.1 x.2.1)) (aa true)) λb=>aa b)
 (aa false)) λb=>ae (ak b (ae (idx x.1 a.1.2.1) λc=>ak (fits<|plus (len a.2.1)<|len [c])
 (aa (((),()),app a.2.1 [c],())) af)
 (aa (((),()),a.2.1,()))) λc=>aa (ay (((),aw i64 a.1.2.1 1,()),c.2.1,())))
 (aa<|az (0,((),a.1.2.1,()),a.2.1,())))
def ka(x:(List mo)×Sb×Bool×aj):Option ((List mo)×aj) :=ae (Loop (mE x) (((),0,()),[],())) (λa=>aa (a.2.1,()))
def lU(x:(List mo)×mo×aj)(d:((List mo)×aj)×aj)(a:(Int×aj)×aj):Option (((Int×aj)×aj)⊕((Int×aj)×aj)) :=
 cr (ak (aL a.1.1<|len d.1.1)
 (ae (idx d.1.1 a.1.1) λb=>ae (j8 (b.1,x.2.1.1,())) λc=>ak (aL c.1 0)
 (aa<|ay ((aw i64 a.1.1 1,()),())) (aa<|az (0,(a.1.1,()),())))
 (aa<|az (0,(a.1.1,()),())))
def oV(x:(List mo)×mo×aj):Option ((List mo)×Int×aj) :=
 ae (jd (x.1,())) (λh=>ae (ak (nt<|nt h.1)
 (ae (mu (x.2.1,())) λd=>aa (nt d.1)) (aa true)) λd=>ak d
 (aa ([],1,())) (ae (kW (x.2.1.1,())) λe=>ae (ak (nt<|bg e.1 [])
 (ae (iy (x.1,e.1,())) λf=>aa (aL f.1 0)) (aa false)) λf=>ak f
 (aa ([],3,())) (ae (oU (x.1,e.1,())) λi=>ak (nt i.1)
 (aa ([],12,())) (ae (iy (x.1,x.2.1.1,())) λb=>ae (ak (cl 0 b.1)
 (ae (idx x.1 b.1) λg=>aa (aD g.2.1 2)) (aa false)) λg=>ae (ak (ak g
 (aD x.2.1.2.1 2) false)
 (ak (inside 0 b.1<|len x.1)
 (ak (fits<|plus (len ([]:List mo))<|len<|sub x.1 0<|minus b.1 0)
 (ak (inside (aw i64 b.1 1) (len x.1)<|len x.1)
 (ak (fits<|plus (len<|app []<|sub x.1 0<|minus b.1 0)<|len<|sub x.1 (aw i64 b.1 1)<|minus (len x.1)<|aw i64 b.1 1)
 (aa ((app (app []<|sub x.1 0<|minus b.1 0)<|sub x.1 (aw i64 b.1 1)<|minus (len x.1)<|aw i64 b.1 1,()),())) af)
 af)
 af)
 af)
 (ae (ak (cl 0 b.1)
 (ae (ka (x.1,x.2.1.1,true,())) λa=>aa ((a.1,()),())) (aa ((x.1,()),()))) λa=>aa ((a.1.1,()),()))) λa=>ak (cl 64<|len a.1.1)
 (aa ([],5,())) (ae (Loop (lU x a) ((0,()),())) λc=>ak (inside 0 c.1.1<|len a.1.1)
 (ak (fits<|plus (len ([]:List mo))<|len<|sub a.1.1 0<|minus c.1.1 0)
 (ak (fits<|plus (len<|app []<|sub a.1.1 0<|minus c.1.1 0)<|len [x.2.1])
 (ak (inside c.1.1 (len a.1.1)<|len a.1.1)
 (ak (fits<|plus (len<|app (app []<|sub a.1.1 0<|minus c.1.1 0) [x.2.1])<|len<|sub a.1.1 c.1.1<|minus (len a.1.1) c.1.1)
 (aa (app (app (app []<|sub a.1.1 0<|minus c.1.1 0) [x.2.1])<|sub a.1.1 c.1.1<|minus (len a.1.1) c.1.1,0,())) af)
 af)
 af)
 af)
 af)))))
end Go.Ge
namespace Go.Ge
variable [Lp]
set_option maxRecDepth 100000
abbrev EH:=(List<|Sb×Int×Int×Sb×Sb×aj)
abbrev Wf:=((Int×Int×aj×aj)×aj×Sb×EH×aj)
def lV(x:EH×Sb×aj)(a:(Int×Int×aj)×aj×Sb×aj):Option (((Int×Int×aj)×aj×Sb×aj)⊕(Nat×(Int×Int×aj)×aj×Sb×aj)) :=
 ak (aL a.1.2.1<|len x.1) (ak (within a.1.2.1<|len x.1)
 (ae (idx x.1 a.1.2.1) λc=>ae (ak (nt<|bg c.1 a.2.2.1)
 (ae (dH (c.1,a.2.2.1,())) λb=>aa b.1) (aa true)) λb=>ak b
 (aa<|az (1,(a.1.2.1,a.1.2.1,()),(),a.2.2.1,())) (aa<|ay ((a.1.1,aw i64 a.1.2.1 1,()),(),a.2.2.1,())))
 af)
 (aa<|az (0,(a.1.1,a.1.2.1,()),(),a.2.2.1,()))
def IK(a:(Int×Int×aj×aj)×aj×Sb×EH×aj):Option (Wf⊕Wf) :=
 cr (ak (aL a.1.2.1<|len a.2.2.2.1)
 (ak (within a.1.2.1<|len a.2.2.2.1)
 (ae (idx a.2.2.2.1 a.1.2.1) λb=>ae (ak (nt<|bg b.1 a.2.2.1)
 (ae (dH (b.1,a.2.2.1,())) λc=>aa c.1) (aa true)) λc=>ae (ak (nt c) (ak (within a.1.1<|len a.2.2.2.1)
 (ae (idx a.2.2.2.1 a.1.1) λd=>ae (idx a.2.2.2.1 a.1.1) λe=>ae (idx a.2.2.2.1 a.1.1) λf=>aa ((aw i64 a.1.1 1,(),()),kO a.2.2.2.1 a.1.1 b,())) af)
 (aa ((a.1.1,(),()),a.2.2.2.1,()))) λd=>aa (ay ((d.1.1,aw i64 a.1.2.1 1,(),()),(),a.2.2.1,d.2.1,())))
 af)
 (aa<|az (0,(a.1.1,a.1.2.1,(),()),(),a.2.2.1,a.2.2.2.1,())))
def lW(a:(Int×Int×aj×aj)×aj×Sb×EH×aj):Option (Wf⊕Wf) :=
 cr (ak (aL a.1.2.1<|len a.2.2.2.1)
 (ak (within a.1.2.1<|len a.2.2.2.1)
 (ae (idx a.2.2.2.1 a.1.2.1) λb=>ae (ak (nt<|bg b.1 a.2.2.1)
 (ae (dH (b.1,a.2.2.1,())) λc=>aa c.1) (aa true)) λc=>ae (ak (nt c) (ak (within a.1.1<|len a.2.2.2.1)
 (ae (idx a.2.2.2.1 a.1.1) λd=>ae (idx a.2.2.2.1 a.1.1) λe=>ae (idx a.2.2.2.1 a.1.1) λf=>aa ((aw i64 a.1.1 1,(),()),kO a.2.2.2.1 a.1.1 b,())) af)
 (aa ((a.1.1,(),()),a.2.2.2.1,()))) λd=>aa (ay ((d.1.1,aw i64 a.1.2.1 1,(),()),(),a.2.2.1,d.2.1,())))
 af)
 (aa<|az (0,(a.1.1,a.1.2.1,(),()),(),a.2.2.1,a.2.2.2.1,())))
def vo(x:EH×Sb×aj):Option (EH×aj) :=
 ae (ez (x.1,())) (λc=>ak (nt<|aD c.1 0)
 (aa ([],())) (ak (fits<|len x.1)
 (ae (Loop (lV x) ((0,0,()),(),x.2.1,())) λb=>ak (cm b.1 0)
 (ak (aD (-1)<|-1)
 (aa (x.1,())) (ae (Loop (IK) (((-1),aw i64 (-1) 1,(),()),(),b.2.2.2.1,x.1,())) λa=>ak (inside a.1.1 (len a.2.2.2.1)<|len a.2.2.2.1)
 (ak (inside 0 a.1.1<|len<|over a.2.2.2.1 a.1.1<|lh (minus (len a.2.2.2.1) a.1.1) ([],0,0,[],[],()))
 (aa (sub (over a.2.2.2.1 a.1.1<|lh (minus (len a.2.2.2.1) a.1.1) ([],0,0,[],[],())) 0<|minus a.1.1 0,())) af)
 af))
 (ak (aD b.2.1.1<|-1)
 (aa (x.1,())) (ae (Loop (lW) ((b.2.1.1,aw i64 b.2.1.1 1,(),()),(),b.2.2.2.1,x.1,())) λa=>ak (inside a.1.1 (len a.2.2.2.1)<|len a.2.2.2.1)
 (ak (inside 0 a.1.1<|len<|over a.2.2.2.1 a.1.1<|lh (minus (len a.2.2.2.1) a.1.1) ([],0,0,[],[],()))
 (aa (sub (over a.2.2.2.1 a.1.1<|lh (minus (len a.2.2.2.1) a.1.1) ([],0,0,[],[],())) 0<|minus a.1.1 0,())) af)
 af)))
 af))
def pJ(x:EH×Sb×aj):Option ((Sb×Int×Int×Sb×Sb×aj)×Bool×aj) :=
 ae (iy (x.1,x.2.1,())) (λa=>ae (jd (x.1,())) λb=>ak (ak (nt<|nt b.1)
 (aL a.1 0) true)
 (aa (([],0,0,[],[],()),false,())) (ae (idx x.1 a.1) λc=>aa (c,true,())))
def ti(x:EH×Sb×aj):Option (EH×aj) :=
 ae (jd (x.1,())) (λa=>ak (nt a.1)
 (aa ([],())) (ae (ka (x.1,x.2.1,true,())) λb=>aa (b.1,())))
def nh(x:EH×Sb×aj)(a:(Int×Int×aj)×aj×Sb×aj):Option (((Int×Int×aj)×aj×Sb×aj)⊕(Nat×(Int×Int×aj)×aj×Sb×aj)) :=
 ak (aL a.1.2.1<|len x.1) (ak (within a.1.2.1<|len x.1)
 (ae (idx x.1 a.1.2.1) λb=>ae (dH (b.1,a.2.2.1,())) λc=>ak c.1
 (aa<|az (1,(a.1.2.1,a.1.2.1,()),(),a.2.2.1,())) (aa<|ay ((a.1.1,aw i64 a.1.2.1 1,()),(),a.2.2.1,())))
 af)
 (aa<|az (0,(a.1.1,a.1.2.1,()),(),a.2.2.1,()))
def K9(a:(Int×Int×aj×aj)×aj×Sb×EH×aj):Option (Wf⊕Wf) :=
 cr (ak (aL a.1.2.1<|len a.2.2.2.1)
 (ak (within a.1.2.1<|len a.2.2.2.1)
 (ae (idx a.2.2.2.1 a.1.2.1) λc=>ae (dH (c.1,a.2.2.1,())) λd=>ae (ak (nt d.1)
 (ak (within a.1.1<|len a.2.2.2.1)
 (ae (idx a.2.2.2.1 a.1.1) λb=>ae (idx a.2.2.2.1 a.1.1) λe=>ae (idx a.2.2.2.1 a.1.1) λf=>aa ((aw i64 a.1.1 1,(),()),kO a.2.2.2.1 a.1.1 c,())) af)
 (aa ((a.1.1,(),()),a.2.2.2.1,()))) λb=>aa (ay ((b.1.1,aw i64 a.1.2.1 1,(),()),(),a.2.2.1,b.2.1,())))
 af)
 (aa<|az (0,(a.1.1,a.1.2.1,(),()),(),a.2.2.1,a.2.2.2.1,())))
def ni(a:(Int×Int×aj×aj)×aj×Sb×EH×aj):Option (Wf⊕Wf) :=
 cr (ak (aL a.1.2.1<|len a.2.2.2.1)
 (ak (within a.1.2.1<|len a.2.2.2.1)
 (ae (idx a.2.2.2.1 a.1.2.1) λc=>ae (dH (c.1,a.2.2.1,())) λd=>ae (ak (nt d.1)
 (ak (within a.1.1<|len a.2.2.2.1)
 (ae (idx a.2.2.2.1 a.1.1) λb=>ae (idx a.2.2.2.1 a.1.1) λe=>ae (idx a.2.2.2.1 a.1.1) λf=>aa ((aw i64 a.1.1 1,(),()),kO a.2.2.2.1 a.1.1 c,())) af)
 (aa ((a.1.1,(),()),a.2.2.2.1,()))) λb=>aa (ay ((b.1.1,aw i64 a.1.2.1 1,(),()),(),a.2.2.1,b.2.1,())))
 af)
 (aa<|az (0,(a.1.1,a.1.2.1,(),()),(),a.2.2.1,a.2.2.2.1,())))
def xj(x:EH×Sb×aj):Option (EH×aj) :=
 ae (ez (x.1,())) (λc=>ak (nt<|aD c.1 0)
 (aa ([],())) (ak (fits<|len x.1)
 (ae (Loop (nh x) ((0,0,()),(),x.2.1,())) λb=>ak (cm b.1 0)
 (ak (aD (-1)<|-1)
 (aa (x.1,())) (ae (Loop (K9) (((-1),aw i64 (-1) 1,(),()),(),b.2.2.2.1,x.1,())) λa=>ak (inside a.1.1 (len a.2.2.2.1)<|len a.2.2.2.1)
 (ak (inside 0 a.1.1<|len<|over a.2.2.2.1 a.1.1<|lh (minus (len a.2.2.2.1) a.1.1) ([],0,0,[],[],()))
 (aa (sub (over a.2.2.2.1 a.1.1<|lh (minus (len a.2.2.2.1) a.1.1) ([],0,0,[],[],())) 0<|minus a.1.1 0,())) af)
 af))
 (ak (aD b.2.1.1<|-1)
 (aa (x.1,())) (ae (Loop (ni) ((b.2.1.1,aw i64 b.2.1.1 1,(),()),(),b.2.2.2.1,x.1,())) λa=>ak (inside a.1.1 (len a.2.2.2.1)<|len a.2.2.2.1)
 (ak (inside 0 a.1.1<|len<|over a.2.2.2.1 a.1.1<|lh (minus (len a.2.2.2.1) a.1.1) ([],0,0,[],[],()))
 (aa (sub (over a.2.2.2.1 a.1.1<|lh (minus (len a.2.2.2.1) a.1.1) ([],0,0,[],[],())) 0<|minus a.1.1 0,())) af)
 af)))
 af))
def vp(x:EH×Sb×aj):Option (EH×aj) :=
 ae (jd (x.1,())) (λa=>ak (nt a.1)
 (aa ([],())) (ae (ka (x.1,x.2.1,false,())) λb=>aa (b.1,())))
end Go.Ge
namespace Go.Ge
variable [Lp]
set_option maxRecDepth 100000
abbrev Hi:=(List<|Sb×Int×Int×Sb×Sb×aj)
abbrev NG:=(List<|Int×Sb×aj)
abbrev Wg:=(NG×Int×aj)
def mF(a:(Hi×Hi×aj)×aj×aj×NG×aj):Option (((Hi×Hi×aj)×aj×aj×NG×aj)⊕((Hi×Hi×aj)×aj×aj×NG×aj)) :=
 cr (ak (ak (nt<|aL 0<|len a.1.1)
 (aL 0<|len a.1.2.1) true)
 (ae (ak (aD (len a.1.1) 0)
 (aa ((1,()),())) (ae (ak (aD (len a.1.2.1) 0)
 (aa (((-1),()),())) (ae (idx a.1.1 0) λd=>ae (idx a.1.2.1 0) λb=>ae (hR (d.1,b.1,())) λc=>aa ((c.1,()),()))) λd=>aa ((d.1.1,()),()))) λd=>ae (ak (aL d.1.1 0)
 (ae (idx a.1.1 0) λb=>ak (fits<|plus (len a.2.2.2.1)<|len [((3:Int),b.1,())])
 (aa ((),(),(),app a.2.2.2.1 [((3:Int),b.1,())],())) af)
 (ae (ak (aL 0 d.1.1)
 (ae (idx a.1.2.1 0) λb=>ak (fits<|plus (len a.2.2.2.1)<|len [((1:Int),b.1,())])
 (aa ((),(),(),app a.2.2.2.1 [((1:Int),b.1,())],())) af)
 (ae (idx a.1.1 0) λb=>ae (idx a.1.2.1 0) λc=>ae (ak (nt<|an (bg b.1 c.1)<|an (aD b.2.1 c.2.1)<|an (aD b.2.2.1 c.2.2.1)<|an (bg b.2.2.2.1 c.2.2.2.1)<|an (bg b.2.2.2.2.1 c.2.2.2.2.1) true)
 (ak (fits<|plus (len a.2.2.2.1)<|len [((2:Int),b.1,())])
 (aa ((),(),(),app a.2.2.2.1 [((2:Int),b.1,())],())) af)
 (aa ((),(),(),a.2.2.2.1,()))) λe=>aa ((),(),(),e.2.2.2.1,()))) λb=>aa ((),(),(),b.2.2.2.1,()))) λb=>ae (ak (cl d.1.1 0)
 (ak (inside 1 (len a.1.1)<|len a.1.1)
 (aa ((sub a.1.1 1<|minus (len a.1.1) 1,()),())) af)
 (aa ((a.1.1,()),()))) λc=>ae (ak (cl 0 d.1.1) (ak (inside 1 (len a.1.2.1)<|len a.1.2.1)
 (aa ((sub a.1.2.1 1<|minus (len a.1.2.1) 1,()),())) af)
 (aa ((a.1.2.1,()),()))) λe=>aa (ay ((c.1.1,e.1.1,()),(),(),b.2.2.2.1,())))
 (aa<|az (0,(a.1.1,a.1.2.1,()),(),(),a.2.2.2.1,())))
def qZ(x:Hi×Hi×aj):Option Wg :=
 ae (ez (x.1,())) (λb=>ae (ak (nt<|nt<|aD b.1 0)
 (ae (ez (x.2.1,())) λa=>aa (nt<|aD a.1 0)) (aa true)) λa=>ak a
 (aa ([],1,())) (ae (Loop (mF) ((x.1,x.2.1,()),(),(),[],())) λc=>aa (c.2.2.2.1,0,())))
def nj(x:NG×aj)(a:(Int×aj)×(aj×aj×aj)×(List<|Int)×aj):Option (((Int×aj)×(aj×aj×aj)×(List<|Int)×aj)⊕((Int×aj)×(aj×aj×aj)×(List<|Int)×aj)) :=
 cr (ak (aL a.1.1<|len x.1)
 (ae (idx x.1 a.1.1) λc=>ae (ak (ak (cl 1 c.1)
 (cl c.1 3) false)
 (ak (within c.1 4)
 (ae (idx [([]:bb),([43]:bb),([126]:bb),([45]:bb)] c.1) λb=>aa ((b,()),())) af)
 (aa (([63],()),()))) λb=>ak (fits<|plus (len b.1.1)<|len ([32]:bb))
 (ae (mD (c.2.1,())) λd=>ak (fits<|plus (len<|app b.1.1 [32])<|len d.1)
 (ak (fits<|plus (len<|app (app b.1.1 [32]) d.1)<|len ([10]:bb))
 (ak (fits<|plus (len a.2.2.1)<|len<|ax<|app (app (app b.1.1 [32]) d.1) [10])
 (aa<|ay ((aw i64 a.1.1 1,()),((),(),a.2.1.2.2),app a.2.2.1<|ax<|app (app (app b.1.1 [32]) d.1) [10],())) af)
 af)
 af)
 af)
 (aa<|az (0,(a.1.1,()),((),(),a.2.1.2.2),a.2.2.1,())))
def xk(x:NG×aj):Option (Sb×aj) :=ae (Loop (nj x) ((0,()),((),(),()),[],())) (λa=>aa (br a.2.2.1,()))
def oW(x:NG×(Int×Sb×aj)×aj)(a:(Int×aj)×aj):Option (((Int×aj)×aj)⊕((Int×aj)×aj)) :=
 cr (ak (aL a.1.1<|len x.1)
 (ae (idx x.1 a.1.1) λb=>ae (j8 (b.2.1,x.2.1.2.1,())) λc=>ak (aL c.1 0)
 (aa<|ay ((aw i64 a.1.1 1,()),())) (aa<|az (0,(a.1.1,()),())))
 (aa<|az (0,(a.1.1,()),())))
def sr(x:NG×(Int×Sb×aj)×aj):Option (NG×aj) :=
 ae (Loop (oW x) ((0,()),())) (λa=>ak (inside 0 a.1.1<|len x.1)
 (ak (fits<|plus (len ([]:List (Int×Sb×aj)))<|len<|sub x.1 0<|minus a.1.1 0)
 (ak (fits<|plus (len<|app []<|sub x.1 0<|minus a.1.1 0)<|len [x.2.1])
 (ak (inside a.1.1 (len x.1)<|len x.1)
 (ak (fits<|plus (len<|app (app []<|sub x.1 0<|minus a.1.1 0) [x.2.1])<|len<|sub x.1 a.1.1<|minus (len x.1) a.1.1)
 (aa (app (app (app []<|sub x.1 0<|minus a.1.1 0) [x.2.1])<|sub x.1 a.1.1<|minus (len x.1) a.1.1,())) af)
 af)
 af)
 af)
 af)
def mG(x:Hi×Hi×aj)(a:Wg×aj):Option ((Wg×aj)⊕(Wg×aj)) :=
 cr (ak (aL a.1.2.1<|len x.1)
 (ae (idx x.1 a.1.2.1) λe=>ae (pJ (x.2.1,e.1,())) λc=>ae (ak (nt c.2.1)
 (ae (idx x.1 a.1.2.1) λb=>ae (sr (a.1.1,(3,b.1,()),())) λd=>aa ((d.1,()),())) (ae (idx x.1 a.1.2.1) λb=>ae (ak (nt<|an (bg c.1.1 b.1)<|an (aD c.1.2.1 b.2.1)<|an (aD c.1.2.2.1 b.2.2.1)<|an (bg c.1.2.2.2.1 b.2.2.2.1)<|an (bg c.1.2.2.2.2.1 b.2.2.2.2.1) true)
 (ae (idx x.1 a.1.2.1) λd=>ae (sr (a.1.1,(2,d.1,()),())) λf=>aa ((f.1,()),())) (aa ((a.1.1,()),()))) λd=>aa ((d.1.1,()),()))) λb=>aa (ay ((b.1.1,aw i64 a.1.2.1 1,()),())))
 (aa<|az (0,(a.1.1,a.1.2.1,()),())))
def mH(x:Hi×Hi×aj)(a:Wg×aj):Option ((Wg×aj)⊕(Wg×aj)) :=
 cr (ak (aL a.1.2.1<|len x.2.1)
 (ae (idx x.2.1 a.1.2.1) λc=>ae (pJ (x.1,c.1,())) λd=>ae (ak (nt d.2.1)
 (ae (idx x.2.1 a.1.2.1) λb=>ae (sr (a.1.1,(1,b.1,()),())) λe=>aa ((e.1,()),())) (aa ((a.1.1,()),()))) λb=>aa (ay ((b.1.1,aw i64 a.1.2.1 1,()),())))
 (aa<|az (0,(a.1.1,a.1.2.1,()),())))
def nk(x:Hi×Hi×aj):Option Wg :=
 ae (jd (x.1,())) (λb=>ae (ak (nt<|nt b.1)
 (ae (jd (x.2.1,())) λa=>aa (nt a.1)) (aa true)) λa=>ak a
 (aa ([],1,())) (ae (Loop (mG x) (([],0,()),())) λc=>ae (Loop (mH x) ((c.1.1,0,()),())) λd=>aa (d.1.1,0,())))
def ra(x:NG×aj)(a:(Sb×Int×aj)×aj):Option (((Sb×Int×aj)×aj)⊕((Sb×Int×aj)×aj)) :=
 cr (ak (aL a.1.2.1<|len x.1)
 (ae (idx x.1 a.1.2.1) λf=>ae (ak (cl 1 f.1)
 (ae (idx x.1 a.1.2.1) λc=>aa (cl c.1 3)) (aa false)) λc=>ae (ak c (ae (idx x.1 a.1.2.1) λb=>ae (idx [([]:bb),([43]:bb),([126]:bb),([45]:bb)] b.1) λd=>aa ((d,()),())) (aa (([63],()),()))) λb=>ak (fits<|plus (len a.1.1)<|len b.1.1)
 (ak (fits<|plus (len<|app a.1.1 b.1.1)<|len ([32]:bb))
 (ae (idx x.1 a.1.2.1) λd=>ae (v8 (d.2.1,())) λe=>ak (fits<|plus (len<|app (app a.1.1 b.1.1) [32])<|len e.1)
 (ak (fits<|plus (len<|app (app (app a.1.1 b.1.1) [32]) e.1)<|len ([10]:bb))
 (aa<|ay ((app (app (app (app a.1.1 b.1.1) [32]) e.1) [10],aw i64 a.1.2.1 1,()),())) af)
 af)
 af)
 af)
 (aa<|az (0,(a.1.1,a.1.2.1,()),())))
def tj(x:NG×aj):Option (Sb×aj) :=ae (Loop (ra x) (([],0,()),())) (λa=>aa (a.1.1,()))
end Go.Ge
