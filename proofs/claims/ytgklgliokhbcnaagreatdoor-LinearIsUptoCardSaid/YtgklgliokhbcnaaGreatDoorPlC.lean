import Derived.Test.YtgklgliokhbcnaaGreatDoorPlB
set_option linter.unusedVariables false
set_option linter.unusedSectionVars false
set_option linter.unusedSimpArgs false
set_option linter.defProp false
noncomputable section
open Option renaming some->aa,none->af
open Sum renaming inl->ay,inr->az
open Go.IntKind (i64)
namespace Go.Ge
variable [Lp]
set_option maxRecDepth 100000
abbrev iD:=((List<|Sb×(List Sb)×Sb×Sb×Sb×(List<|Sb×Sb×Sb×aj)×aj)×(List<|Sb×(List Sb)×Sb×Sb×(List<|Sb×Sb×Sb×aj)×aj)×(List<|Sb×Sb×(List Sb)×Sb×Int×Int×Bool×aj)×(List Sb)×(List<|Sb×Int×aj)×aj)
abbrev pb:=(Sb×(List Sb)×Sb×Sb×Sb×(List<|Sb×Sb×Sb×aj)×aj)
abbrev akf:=(Sb×Sb×(List Sb)×Sb×Int×Int×Bool×aj)
abbrev C1:=(Int×Sb×Int×Sb×aj)
abbrev IY:=(Int×Int×Sb×Sb×(List Sb)×Sb×Sb×Int×aj)
abbrev akg:=(Sb×(List Sb)×Sb×Sb×(List<|Sb×Sb×Sb×aj)×aj)
abbrev TH:=(Sb×Sb×Sb×aj)
abbrev sa:=(Int×Int×aj)
abbrev Hr:=(bb×((List bb)×(bb×(bb×(bb×((List<|bb×(bb×(bb×aj)))×aj))))))
abbrev LS:=(Sb×(List Sb)×aj)
abbrev LU:=(Nat×sa×Sb×aj)
abbrev TI:=(Bool×Int×aj)
abbrev LV:=(sa×Sb×aj)
abbrev aic:=(Nat×TI×aj)
abbrev aaU:=((Int×aj)×(aj×aj×aj)×(List<|Int)×aj)
def cj(l:List Hr)(x:(Int×((List Hr)×aj))):Option (List Hr):=uI l x.1 x.2.1
def dA(l:List Hr)(x:(Int×(Int×aj))):Option (List Hr):=K6 l x.1 x.2.1
def uM(x:iD×Sb×aj):Option (C1×aj) :=
 ae (eP (x.1,x.2.1,())) (λa=>ak (nt<|aD a.2.1 0)
 (ae (eg (a.2.1,())) λc=>aa (c.1,())) (ae (kX (x.1,a.1,())) λc=>ae (mQ (x.1,a.1,())) λd=>ak (nt<|aD d.2.1 0)
 (ae (eg (d.2.1,())) λb=>aa (b.1,())) (ae (jr (x.1,c.1.2.1,())) λb=>ak (nt<|aD b.2.1 0)
 (ae (eg (b.2.1,())) λe=>aa (e.1,())) (ae (qZ (b.1,d.1,())) λe=>ae (xk (e.1,())) λf=>aa ((0,a.1,0,f.1,()),())))))
def kZ(x:Int×aj):Option (C1×aj) :=aa ((x.1,[],0,[],()),())
def nU(x:iD×aj):Option ((List LS)×aj) :=ae (rY (1,(0,([]:List akf),([]:List akg),x.1.1,()),())) (λa=>aa (a.1,()))
def uN(x:(List pb)×aj):Option ((List pb)×aj) :=bif fits (len x.1) then aa (x.1,()) else af
def js(x:iD×pb×aj)(a:sa×Sb×aj):Option (LV⊕LU) :=
 ak (aL a.1.2.1<|len x.1.1) (ak (within a.1.2.1<|len x.1.1)
 (ae (idx x.1.1 a.1.2.1) λb=>ak (bg b.1 a.2.1)
 (aa<|az (1,(a.1.2.1,a.1.2.1,()),a.2.1,())) (aa<|ay ((a.1.1,aw i64 a.1.2.1 1,()),a.2.1,())))
 af)
 (aa<|az (0,(a.1.1,a.1.2.1,()),a.2.1,()))
def tB(x:iD×pb×aj)(a:sa×pb×aj):Option ((sa×pb×aj)⊕(Nat×sa×pb×aj)) :=
 ak (aL a.1.2.1<|len x.1.1) (ak (within a.1.2.1<|len x.1.1)
 (ae (idx x.1.1 a.1.2.1) λb=>ak (nt<|fZ b.1 a.2.1.1)
 (aa<|az (1,(a.1.2.1,a.1.2.1,()),a.2.1,())) (aa<|ay ((a.1.1,aw i64 a.1.2.1 1,()),a.2.1,())))
 af)
 (aa<|az (0,(a.1.1,a.1.2.1,()),a.2.1,()))
def tC(b:(aj×aj)×(List pb)×aj)(a:sa×pb×aj):Option ((sa×pb×aj)⊕(Nat×sa×pb×aj)) :=
 ak (aL a.1.2.1<|len b.2.1) (ak (within a.1.2.1<|len b.2.1)
 (ae (idx b.2.1 a.1.2.1) λc=>ak (nt<|fZ c.1 a.2.1.1)
 (aa<|az (1,(a.1.2.1,a.1.2.1,()),a.2.1,())) (aa<|ay ((a.1.1,aw i64 a.1.2.1 1,()),a.2.1,())))
 af)
 (aa<|az (0,(a.1.1,a.1.2.1,()),a.2.1,()))
def kG(x:iD×pb×aj):Option (iD×aj) :=
 ak (fits<|len x.1.1) (ae (Loop (js x) ((0,0,()),x.2.1.1,())) λd=>ak (cm d.1 0)
 (ae (aX (x.2.1.2.1,())) λa=>ae (bN (x.2.1.2.2.2.2.2.1,())) λe=>ae (Loop (tB x) ((0,0,()),(x.2.1.1,a.1,x.2.1.2.2.1,x.2.1.2.2.2.1,x.2.1.2.2.2.2.1,e.1,x.2.1.2.2.2.2.2.2),())) λc=>ak (cm c.1 0)
 (ae (cj x.1.1 ((((len x.1.1,()),()).1).1,([c.2.2.1]:List pb),())) λb=>aa ((b,x.1.2.1,x.1.2.2.1,x.1.2.2.2.1,x.1.2.2.2.2.1,x.1.2.2.2.2.2),())) (ae (cj x.1.1 (((ak (aL c.2.1.1 0)
 ((len x.1.1,()),()) ((c.2.1.1,()),())).1).1,([c.2.2.1]:List pb),())) λb=>aa ((b,x.1.2.1,x.1.2.2.1,x.1.2.2.2.1,x.1.2.2.2.2.1,x.1.2.2.2.2.2),())))
 (ae (ak (cl 0 d.2.1.1)
 (ae (dA x.1.1 (d.2.1.1,aw i64 d.2.1.1 1,())) λa=>aa (((),()),a,())) (aa (((),()),x.1.1,()))) λa=>ae (aX (x.2.1.2.1,())) λe=>ae (bN (x.2.1.2.2.2.2.2.1,())) λc=>ae (Loop (tC a) ((0,0,()),(x.2.1.1,e.1,x.2.1.2.2.1,x.2.1.2.2.2.1,x.2.1.2.2.2.2.1,c.1,x.2.1.2.2.2.2.2.2),())) λb=>ak (cm b.1 0)
 (ae (cj a.2.1 ((((len a.2.1,()),()).1).1,([b.2.2.1]:List pb),())) λf=>aa ((f,x.1.2.1,x.1.2.2.1,x.1.2.2.2.1,x.1.2.2.2.2.1,x.1.2.2.2.2.2),())) (ae (cj a.2.1 (((ak (aL b.2.1.1 0)
 ((len a.2.1,()),()) ((b.2.1.1,()),())).1).1,([b.2.2.1]:List pb),())) λf=>aa ((f,x.1.2.1,x.1.2.2.1,x.1.2.2.2.1,x.1.2.2.2.2.1,x.1.2.2.2.2.2),()))))
 af
def tD(x:iD×Sb×(List Sb)×Sb×Int×aj):Option (iD×C1×aj) :=
 ae (gB (x.2.2.1,())) (λg=>ak (ak (nt<|nt<|aD g.1 0)
 (aL 64<|len x.2.2.2.1) true)
 (ae (kZ (1,())) λb=>aa (x.1,b.1,())) (ae (ak (nt<|bg x.2.1 [])
 (ae (nQ (x.1,x.2.1,())) λb=>aa ((b.2.1,()),([],x.2.2.1,b.1,[],x.2.2.2.1,[],()),())) (aa ((0,()),([],x.2.2.1,[],([]:bb),x.2.2.2.1,([]:List TH),()),()))) λb=>ae (ak (aD b.1.1 0) (ae (nU (x.1,())) λe=>ae (iz (e.1,[],x.2.2.1,())) λa=>aa ((a.1,()),())) (aa ((b.1.1,()),()))) λe=>ae (ak (aD e.1.1 0) (ae (nU (x.1,())) λa=>ae (ji (a.1,hL i64 x.2.2.2.2.1 16777215,())) λc=>aa ((c.2.1,()),(c.1,b.2.1.2),())) (aa ((e.1.1,()),b.2.1,()))) λa=>ak (nt<|aD a.1.1 0)
 (ae (kZ (a.1.1,())) λc=>aa (x.1,c.1,())) (ae (pU (x.1,a.2.1.2.2.1,())) λc=>ae (kg (x.1,(((((ak (bg x.2.1 [])
 ((),([],[],[],[],([]:List TH),()),()) ((),c.1,())).2).1).2).2).1,[],[],hL i64 (jT i64 x.2.2.2.2.1 24) 16777215,())) λd=>ak (nt<|aD d.2.1.1 0)
 (ae (kZ (d.2.1.1,())) λf=>aa (x.1,f.1,())) (ae (kG (d.1,(a.2.1.1,a.2.1.2.1,a.2.1.2.2.1,d.2.1.2.1,a.2.1.2.2.2.2),())) λf=>aa (f.1,(0,a.2.1.1,0,d.2.1.2.1,()),())))))
def xz(x:iD×Sb×aj):Option (Sb×Int×aj) :=ae (nU (x.1,())) (λb=>ae (iM (b.1,x.2.1,())) λa=>aa (a.1,a.2.1,()))
def tE(x:iD×Sb×aj)(a:sa×Sb×aj):Option (LV⊕LU) :=
 ak (aL a.1.2.1<|len x.1.1) (ae (idx x.1.1 a.1.2.1) λb=>ak (bg b.1 a.2.1)
 (aa<|az (1,(a.1.2.1,a.1.2.1,()),a.2.1,())) (aa<|ay ((a.1.1,aw i64 a.1.2.1 1,()),a.2.1,())))
 (aa<|az (0,(a.1.1,a.1.2.1,()),a.2.1,()))
def su(x:iD×Sb×aj):Option (pb×Bool×aj) :=
 ae (Loop (tE x) ((0,0,()),x.2.1,())) (λb=>ak (cm b.1 0)
 (aa (([],[],[],[],[],([]:List TH),()),false,())) (ak (aL b.2.1.1 0)
 (aa (([],[],[],[],[],([]:List TH),()),false,())) (ae (idx x.1.1 b.2.1.1) λa=>ae (aX (a.2.1,())) λc=>ae (bN (a.2.2.2.2.2.1,())) λd=>aa ((a.1,c.1,a.2.2.1,a.2.2.2.1,a.2.2.2.2.1,d.1,a.2.2.2.2.2.2),true,()))))
def oq(x:iD×Sb×aj)(a:sa×Sb×aj):Option (LV⊕LU) :=
 ak (aL a.1.2.1<|len x.1.1) (ak (within a.1.2.1<|len x.1.1)
 (ae (idx x.1.1 a.1.2.1) λb=>ak (bg b.1 a.2.1)
 (aa<|az (1,(a.1.2.1,a.1.2.1,()),a.2.1,())) (aa<|ay ((a.1.1,aw i64 a.1.2.1 1,()),a.2.1,())))
 af)
 (aa<|az (0,(a.1.1,a.1.2.1,()),a.2.1,()))
def tF(x:iD×Sb×aj):Option (iD×C1×aj) :=
 ae (xz (x.1,x.2.1,())) (λc=>ak (nt<|aD c.2.1 0)
 (ae (kZ (c.2.1,())) λa=>aa (x.1,a.1,())) (ae (su (x.1,c.1,())) λa=>ak (fits<|len x.1.1)
 (ae (Loop (oq x) ((0,0,()),c.1,())) λf=>ak (cm f.1 0)
 (ae (dq (x.1,a.1.2.2.2.1,())) λd=>ae (ak (nt<|aL 0 d.1)
 (ae (pW ((x.1.1,x.1.2.1,x.1.2.2.1,x.1.2.2.2.1,x.1.2.2.2.2.1,x.1.2.2.2.2.2),a.1.2.2.2.1,())) λe=>aa e.1) (aa true)) λe=>ak e
 (ae (kZ (7,())) λb=>aa (x.1,b.1,())) (ae (kh ((x.1.1,x.1.2.1,x.1.2.2.1,x.1.2.2.2.1,x.1.2.2.2.2.1,x.1.2.2.2.2.2),a.1.2.2.2.1,())) λb=>aa (b.1,(0,c.1,0,[],()),())))
 (ae (ak (cl 0 f.2.1.1)
 (ae (dA x.1.1 (f.2.1.1,aw i64 f.2.1.1 1,())) λd=>aa (((),()),d,())) (aa (((),()),x.1.1,()))) λd=>ae (dq (x.1,a.1.2.2.2.1,())) λe=>ae (ak (nt<|aL 0 e.1) (ae (pW ((d.2.1,x.1.2.1,x.1.2.2.1,x.1.2.2.2.1,x.1.2.2.2.2.1,x.1.2.2.2.2.2),a.1.2.2.2.1,())) λb=>aa b.1) (aa true)) λb=>ak b
 (ae (kZ (7,())) λg=>aa (x.1,g.1,())) (ae (kh ((d.2.1,x.1.2.1,x.1.2.2.1,x.1.2.2.2.1,x.1.2.2.2.2.1,x.1.2.2.2.2.2),a.1.2.2.2.1,())) λg=>aa (g.1,(0,c.1,0,[],()),()))))
 af))
def gf(x:(List<|Int)×Int×aj)(a:sa×aj):Option ((sa×aj)⊕(Nat×sa×aj)) :=
 ak (aL a.1.2.1<|len x.1) (ae (idx x.1 a.1.2.1) λb=>ak (aD x.2.1 b)
 (aa<|az (1,(a.1.2.1,a.1.2.1,()),())) (aa<|ay ((a.1.1,aw i64 a.1.2.1 1,()),())))
 (aa<|az (0,(a.1.1,a.1.2.1,()),()))
def iE(x:(List<|Int)×Int×aj):Option (Int×aj) :=
 ae (Loop (gf x) ((0,0,()),())) (λa=>ak (cm a.1 0)
 (aa ((-1),())) (aa (a.2.1.1,())))
def dL(x:(List<|Int)×Int×aj):Option (Bool×aj) :=ae (iE (x.1,x.2.1,())) (λa=>aa (cl 0 a.1,()))
def yq(x:IY×(List<|Int)×aj):Option ((List<|Int)×aj) :=
 ae (dL (x.2.1,x.1.2.1,())) (λa=>ak a.1
 (aa ([x.1.2.1],())) (aa ([],())))
def qJ(x:IY×aj):Option ((List<|Int)×aj) :=
 ak (((ak (aD x.1.1 2)
 ((aD x.1.1 2,()),()) ((((ak (aD x.1.1 11)
 ((aD x.1.1 11,()),()) ((aD x.1.1 12,()),())).1).1,()),())).1).1)
 (aa ([(1:Int),2,3],())) (ak (aD x.1.1 7)
 (aa ([(2:Int),3],())) (ak (aD x.1.1 8)
 (aa ([(1:Int),2],())) (ak (((ak (aD x.1.1 1)
 ((aD x.1.1 1,()),()) ((((ak (aD x.1.1 3)
 ((aD x.1.1 3,()),()) ((((ak (aD x.1.1 4)
 ((aD x.1.1 4,()),()) ((((ak (aD x.1.1 5)
 ((aD x.1.1 5,()),()) ((aD x.1.1 6,()),())).1).1,()),())).1).1,()),())).1).1,()),())).1).1)
 (aa ([(3:Int)],())) (ak (((ak (aD x.1.1 9)
 ((aD x.1.1 9,()),()) ((aD x.1.1 10,()),())).1).1)
 (ae (yq (x.1,[(1:Int),2],())) λa=>aa (a.1,())) (ak (((ak (aD x.1.1 13)
 ((aD x.1.1 13,()),()) ((((ak (aD x.1.1 14)
 ((aD x.1.1 14,()),()) ((aD x.1.1 15,()),())).1).1,()),())).1).1)
 (ae (yq (x.1,[(1:Int),2,3],())) λa=>aa (a.1,())) (aa ([],())))))))
def eS(x:Int×aj):Option (C1×aj) :=aa ((x.1,[],0,[],()),())
def vC(x:iD×Int×aj):Option ((List LS)×aj) :=ae (rY (x.2.1,(0,x.1.2.2.1,x.1.2.1,x.1.1,()),())) (λa=>aa (a.1,()))
def Bs(x:iD×IY×aj):Option (iD×C1×aj) :=
 ae (qJ (x.2.1,())) (λf=>ae (dL (f.1,x.2.1.2.1,())) λg=>ak (nt g.1)
 (ae (eS (1,())) λe=>aa (x.1,e.1,())) (ae (vC (x.1,x.2.1.2.1,())) λe=>ae (iM (e.1,x.2.1.2.2.1,())) λd=>ak (nt<|aD d.2.1 0)
 (ae (eS (d.2.1,())) λa=>aa (x.1,a.1,())) (ak (aD x.2.1.2.1 1)
 (ae (su (x.1,d.1,())) λa=>ak (aD x.2.1.1 10)
 (ae (l6 (a.1.2.2.2.2.2.1,x.2.1.2.2.2.2.2.2.1,())) λb=>ak (nt<|aD b.2.1 0)
 (ae (eS (b.2.1,())) λc=>aa (x.1,c.1,())) (aa (x.1,(0,d.1,0,b.1,()),())))
 (ae (l5 (a.1.2.2.2.2.2.1,x.2.1.2.2.2.2.2.2.1,x.2.1.2.2.2.2.2.1,())) λb=>ak (nt<|aD b.2.1 0)
 (ae (eS (b.2.1,())) λc=>aa (x.1,c.1,())) (ae (kG (x.1,(a.1.1,a.1.2.1,a.1.2.2.1,a.1.2.2.2.1,a.1.2.2.2.2.1,b.1,a.1.2.2.2.2.2.2),())) λc=>aa (c.1,(0,d.1,0,[],()),()))))
 (ae (pU (x.1,d.1,())) λa=>ak (aD x.2.1.1 10)
 (ae (l6 (a.1.2.2.2.2.1,x.2.1.2.2.2.2.2.2.1,())) λb=>ak (nt<|aD b.2.1 0)
 (ae (eS (b.2.1,())) λc=>aa (x.1,c.1,())) (aa (x.1,(0,d.1,0,b.1,()),())))
 (ae (l5 (a.1.2.2.2.2.1,x.2.1.2.2.2.2.2.2.1,x.2.1.2.2.2.2.2.1,())) λb=>ak (nt<|aD b.2.1 0)
 (ae (eS (b.2.1,())) λc=>aa (x.1,c.1,())) (ae (gD (x.1,(a.1.1,a.1.2.1,a.1.2.2.1,a.1.2.2.2.1,b.1,a.1.2.2.2.2.2),())) λc=>aa (c.1,(0,d.1,0,[],()),())))))))
def p5(x:(List LS)×aj)(a:(Int×aj)×(aj×aj×aj)×(List<|Int)×aj):Option (aaU⊕aaU) :=
 cr (ak (aL a.1.1<|len x.1)
 (ae (idx x.1 a.1.1) λb=>ak (fits<|plus (len [b.1])<|len b.2.1)
 (ae (lN (app [b.1] b.2.1,[32],())) λc=>ak (fits<|plus (len c.1)<|len ([10]:bb))
 (ak (fits<|plus (len a.2.2.1)<|len<|ax<|app c.1 [10])
 (aa<|ay ((aw i64 a.1.1 1,()),((),(),a.2.1.2.2),app a.2.2.1<|ax<|app c.1 [10],())) af)
 af)
 af)
 (aa<|az (0,(a.1.1,()),((),(),a.2.1.2.2),a.2.2.1,())))
def z6(x:(List LS)×aj):Option (Sb×aj) :=ae (Loop (p5 x) ((0,()),((),(),()),[],())) (λa=>aa (br a.2.2.1,()))
def mR(x:iD×Int×Sb×(List Sb)×aj)(a:sa×Sb×aj):Option (LV⊕LU) :=
 ak (aL a.1.2.1<|len x.1.2.2.1) (ak (within a.1.2.1<|len x.1.2.2.1)
 (ae (idx x.1.2.2.1 a.1.2.1) λb=>ak (bg b.1 a.2.1)
 (aa<|az (1,(a.1.2.1,a.1.2.1,()),a.2.1,())) (aa<|ay ((a.1.1,aw i64 a.1.2.1 1,()),a.2.1,())))
 af)
 (aa<|az (0,(a.1.1,a.1.2.1,()),a.2.1,()))
def hY(x:iD×Int×Sb×(List Sb)×aj):Option (iD×aj) :=
 ak (aD x.2.1 1) (ae (su (x.1,x.2.2.1,())) λa=>ae (kG (x.1,(a.1.1,x.2.2.2.1,a.1.2.2),())) λb=>aa (b.1,())) (ak (aD x.2.1 2)
 (ae (pU (x.1,x.2.2.1,())) λa=>ae (gD (x.1,(a.1.1,x.2.2.2.1,a.1.2.2),())) λb=>aa (b.1,())) (ak (fits<|len x.1.2.2.1)
 (ae (ae (Loop (mR x) ((0,0,()),x.2.2.1,())) λa=>ak (cm a.1 0)
 (aa (((-1),()),a.2.2.1,())) (aa ((a.2.1.1,()),a.2.2.1,()))) λa=>ae (aX (x.2.2.2.1,())) λb=>ak (within a.1.1<|len x.1.2.2.1)
 (ae (idx x.1.2.2.1 a.1.1) λd=>ae (idx x.1.2.2.1 a.1.1) λe=>ae (idx x.1.2.2.1 a.1.1) λc=>aa ((x.1.1,x.1.2.1,kO x.1.2.2.1 a.1.1 (c.1,c.2.1,b.1,c.2.2.2),x.1.2.2.2.1,x.1.2.2.2.2.1,x.1.2.2.2.2.2),())) af)
 af))
def yr(x:iD×IY×aj):Option (iD×C1×aj) :=
 ae (vC (x.1,x.2.1.2.1,())) (λe=>ae (qJ (x.2.1,())) λf=>ae (dL (f.1,x.2.1.2.1,())) λg=>ak (nt g.1)
 (ae (eS (1,())) λa=>aa (x.1,a.1,())) (ak (aD x.2.1.1 15)
 (ae (z6 (e.1,())) λa=>aa (x.1,(0,[],0,a.1,()),())) (ae (ak (aD x.2.1.1 13)
 (ae (gB (x.2.1.2.2.2.2.1,())) λa=>aa (nt<|aD a.1 0)) (aa false)) λa=>ak a
 (ae (eS (1,())) λb=>aa (x.1,b.1,())) (ae (iM (e.1,x.2.1.2.2.1,())) λb=>ae (ak (ak (aD b.2.1 0)
 (aD x.2.1.1 13) false)
 (ae (iz (e.1,b.1,x.2.1.2.2.2.2.1,())) λd=>aa ((d.1,()),())) (aa ((b.2.1,()),()))) λd=>ak (nt<|aD d.1.1 0)
 (ae (eS (d.1.1,())) λc=>aa (x.1,c.1,())) (ae (ak (aD x.2.1.1 13)
 (ae (hY (x.1,x.2.1.2.1,b.1,x.2.1.2.2.2.2.1,())) λc=>aa ((),c.1,())) (aa ((),x.1,()))) λc=>aa (c.2.1,(0,b.1,0,[],()),()))))))
def yu(x:iD×IY×aj):Option (iD×C1×aj) :=
 ak (aD x.2.1.1 1) (ae (kg (x.1,x.2.1.2.2.2.1,x.2.1.2.2.2.2.1,x.2.1.2.2.2.2.2.1,x.2.1.2.2.2.2.2.2.2.1,())) λa=>aa (a.1,a.2.1,())) (ak (aD x.2.1.1 2)
 (ae (wJ (x.1,x.2.1.2.2.1,())) λa=>aa (a.1,a.2.1,())) (ak (aD x.2.1.1 3)
 (ae (zZ (x.1,x.2.1.2.2.1,())) λa=>aa (x.1,a.1,())) (ak (aD x.2.1.1 4)
 (ae (uM (x.1,x.2.1.2.2.1,())) λa=>aa (x.1,a.1,())) (ak (aD x.2.1.1 5)
 (ae (C0 (x.1,x.2.1.2.2.1,())) λa=>aa (a.1,a.2.1,())) (ak (aD x.2.1.1 6)
 (ae (AH (x.1,x.2.1.2.2.1,())) λa=>aa (a.1,a.2.1,())) (ak (aD x.2.1.1 7)
 (ae (rm (x.1,x.2.1.2.2.2.1,x.2.1.2.2.2.2.1,x.2.1.2.2.2.2.2.1,x.2.1.2.2.2.2.2.2.2.1,())) λa=>aa (a.1,a.2.1,())) (ak (aD x.2.1.1 8)
 (ae (rn (x.1,x.2.1.2.2.1,())) λa=>aa (a.1,a.2.1,())) (ak (aD x.2.1.1 11)
 (ae (tD (x.1,x.2.1.2.2.2.1,x.2.1.2.2.2.2.1,x.2.1.2.2.2.2.2.1,x.2.1.2.2.2.2.2.2.2.1,())) λa=>aa (a.1,a.2.1,())) (ak (aD x.2.1.1 12)
 (ae (tF (x.1,x.2.1.2.2.1,())) λa=>aa (a.1,a.2.1,())) (ak (((ak (aD x.2.1.1 9)
 ((aD x.2.1.1 9,()),()) ((aD x.2.1.1 10,()),())).1).1)
 (ae (Bs (x.1,x.2.1,())) λa=>aa (a.1,a.2.1,())) (ak (((ak (aD x.2.1.1 13)
 ((aD x.2.1.1 13,()),()) ((((ak (aD x.2.1.1 14)
 ((aD x.2.1.1 14,()),()) ((aD x.2.1.1 15,()),())).1).1,()),())).1).1)
 (ae (yr (x.1,x.2.1,())) λa=>aa (a.1,a.2.1,())) (ae (eS (1,())) λa=>aa (x.1,a.1,())))))))))))))
def EI(x:(List<|Int)×(List<|Int)×aj)(a:TI×aj):Option ((TI×aj)⊕aic) :=
 ak (ak (aL a.1.2.1<|len x.1)
 (aL a.1.2.1<|len x.2.1) false)
 (ae (idx x.1 a.1.2.1) λb=>ae (idx x.2.1 a.1.2.1) λc=>ak (nt<|aD b c)
 (aa<|az (1,(false,a.1.2.1,()),())) (aa<|ay ((a.1.1,aw i64 a.1.2.1 1,()),())))
 (aa<|az (0,(a.1.1,a.1.2.1,()),()))
def uO(x:(List<|Int)×(List<|Int)×aj):Option (Bool×aj) :=
 ak (nt<|aD (len x.1)<|len x.2.1) (aa (false,())) (ae (Loop (EI x) ((false,0,()),())) λa=>ak (cm a.1 0)
 (aa (true,())) (aa (a.2.1.1,())))
def qK(x:IY×aj):Option (Bool×aj) :=
 ae (ak (ak (ak (ak (cl (len x.1.2.2.1) 100)
 (cl (len x.1.2.2.2.1) 100) false)
 (cl (len x.1.2.2.2.2.2.1) 8704) false)
 (cl (len x.1.2.2.2.2.2.2.1) 100) false)
 (ae (pO (x.1.2.2.2.2.1,())) λa=>aa a.1) (aa false)) (λa=>aa (a,()))
end Go.Ge
namespace Go.Ge
variable [Lp]
set_option maxRecDepth 100000
abbrev bq:=((List<|Sb×(List Sb)×Sb×Sb×Sb×(List<|Sb×Sb×Sb×aj)×aj)×(List<|Sb×(List Sb)×Sb×Sb×(List<|Sb×Sb×Sb×aj)×aj)×(List<|Sb×Sb×(List Sb)×Sb×Int×Int×Bool×aj)×(List Sb)×(List<|Sb×Int×aj)×aj)
abbrev jM:=(Sb×(List Sb)×Sb×Sb×Sb×(List<|Sb×Sb×Sb×aj)×aj)
abbrev jN:=(Sb×(List Sb)×Sb×Sb×(List<|Sb×Sb×Sb×aj)×aj)
abbrev ot:=(Sb×Sb×(List Sb)×Sb×Int×Int×Bool×aj)
abbrev jO:=(Int×Sb×Int×Sb×aj)
abbrev fK:=(Sb×Int×aj)
abbrev TJ:=(Int×Int×Sb×Sb×(List Sb)×Sb×Sb×Int×aj)
abbrev D8:=(Sb×(List Sb)×aj)
abbrev LW:=(Sb×Sb×Sb×aj)
abbrev Bt:=(Bool×Int×aj)
abbrev qL:=(aj×Int×aj)
abbrev Wi:=((aj×aj×Int×aj)×(List Sb)×(List ot)×aj)
abbrev NK:=(Nat×(Int×Int×aj)×aj)
abbrev afE:=(Sb×Int×Int×Sb×Sb×aj)
abbrev NL:=((Int×Int×aj)×aj)
abbrev NM:=(Nat×Bt×aj)
abbrev AI:=((Int×aj)×aj)
def rD(x:bq×Sb×aj)(a:Bt×aj):Option ((Bt×aj)⊕NM) :=
 ak (aL a.1.2.1<|len x.1.2.2.1) (ae (idx x.1.2.2.1 a.1.2.1) λb=>ak (bg b.2.1 x.2.1)
 (aa<|az (1,(true,a.1.2.1,()),())) (aa<|ay ((a.1.1,aw i64 a.1.2.1 1,()),())))
 (aa<|az (0,(a.1.1,a.1.2.1,()),()))
def rE(x:bq×Sb×aj)(a:Bt×aj):Option ((Bt×aj)⊕NM) :=
 ak (aL a.1.2.1<|len x.1.2.1) (ae (idx x.1.2.1 a.1.2.1) λb=>ak (bg b.2.2.1 x.2.1)
 (aa<|az (1,(true,a.1.2.1,()),())) (aa<|ay ((a.1.1,aw i64 a.1.2.1 1,()),())))
 (aa<|az (0,(a.1.1,a.1.2.1,()),()))
def rF(x:bq×Sb×aj)(a:Bt×aj):Option ((Bt×aj)⊕NM) :=
 ak (aL a.1.2.1<|len x.1.1) (ae (idx x.1.1 a.1.2.1) λb=>ak (bg b.2.2.2.1 x.2.1)
 (aa<|az (1,(true,a.1.2.1,()),())) (aa<|ay ((a.1.1,aw i64 a.1.2.1 1,()),())))
 (aa<|az (0,(a.1.1,a.1.2.1,()),()))
def tG(x:bq×Sb×aj):Option (Bool×aj) :=
 ae (Loop (rD x) ((false,0,()),())) (λa=>ak (cm a.1 0)
 (ae (Loop (rE x) ((a.2.1.1,0,()),())) λb=>ak (cm b.1 0)
 (ae (Loop (rF x) ((b.2.1.1,0,()),())) λc=>ak (cm c.1 0)
 (aa (false,())) (aa (c.2.1.1,())))
 (aa (b.2.1.1,())))
 (aa (a.2.1.1,())))
def ou(x:bq×Sb×aj)(a:(Int×Int×aj)×aj):Option (NL⊕NK) :=
 ak (aL a.1.2.1<|len x.1.2.2.2.2.1) (ae (idx x.1.2.2.2.2.1 a.1.2.1) λb=>ak (bg b.1 x.2.1)
 (ae (idx x.1.2.2.2.2.1 a.1.2.1) λc=>aa (az (1,(c.2.1,a.1.2.1,()),()))) (aa<|ay ((a.1.1,aw i64 a.1.2.1 1,()),())))
 (aa<|az (0,(a.1.1,a.1.2.1,()),()))
def fL(x:bq×Sb×aj):Option (Int×aj) :=
 ae (Loop (ou x) ((0,0,()),())) (λa=>ak (cm a.1 0)
 (aa (0,())) (aa (a.2.1.1,())))
def uP(x:bq×Sb×Int×aj)(a:qL×(List fK)×aj):Option ((qL×(List fK)×aj)⊕(qL×(List fK)×aj)) :=
 cr (ak (aL a.1.2.1<|len x.1.2.2.2.2.1)
 (ae (idx x.1.2.2.2.2.1 a.1.2.1) λc=>ae (ak (nt<|bg c.1 x.2.1)
 (ae (idx x.1.2.2.2.2.1 a.1.2.1) λb=>ak (fits<|plus (len a.2.1)<|len ([b]:List fK))
 (aa (((),()),app a.2.1 [b],())) af)
 (aa (((),()),a.2.1,()))) λb=>aa (ay (((),aw i64 a.1.2.1 1,()),b.2.1,())))
 (aa<|az (0,((),a.1.2.1,()),a.2.1,())))
def p6(x:bq×Sb×Int×aj)(b:qL×(List fK)×aj)(a:(Int×aj)×aj):Option (AI⊕AI) :=
 cr (ae (ak (aL a.1.1<|len b.2.1)
 (ak (within a.1.1<|len b.2.1)
 (ae (idx b.2.1 a.1.1) λc=>aa (fZ c.1 x.2.1)) af)
 (aa false)) λc=>ak c
 (aa<|ay ((aw i64 a.1.1 1,()),())) (aa<|az (0,(a.1.1,()),())))
def nV(x:bq×Sb×Int×aj):Option (bq×aj) :=
 ae (Loop (uP x) (((),0,()),[],())) (λa=>ak (cl x.2.2.1 0)
 (aa ((x.1.1,x.1.2.1,x.1.2.2.1,x.1.2.2.2.1,a.2.1,x.1.2.2.2.2.2),())) (ae (Loop (p6 x a) ((0,()),())) λb=>ak (inside 0 b.1.1<|len a.2.1)
 (ak (fits<|plus (len ([]:List fK))<|len<|sub a.2.1 0<|minus b.1.1 0)
 (ak (fits<|plus (len<|app []<|sub a.2.1 0<|minus b.1.1 0)<|len ([(x.2.1,x.2.2.1,())]:List fK))
 (ak (inside b.1.1 (len a.2.1)<|len a.2.1)
 (ak (fits<|plus (len<|app (app []<|sub a.2.1 0<|minus b.1.1 0) [(x.2.1,x.2.2.1,())])<|len<|sub a.2.1 b.1.1<|minus (len a.2.1) b.1.1)
 (aa ((x.1.1,x.1.2.1,x.1.2.2.1,x.1.2.2.2.1,app (app (app ([]:List fK)<|sub a.2.1 0<|minus b.1.1 0) ([(x.2.1,x.2.2.1,())]:List fK))<|sub a.2.1 b.1.1<|minus (len a.2.1) b.1.1,x.1.2.2.2.2.2),())) af)
 af)
 af)
 af)
 af))
def jt(x:bq×Sb×aj)(d:Int×aj)(a:(aj×aj×Int×aj)×(List Sb)×(List ot)×aj):Option (Wi⊕Wi) :=
 cr (ak (aL a.1.2.2.1<|len x.1.2.2.1)
 (ae (ak (nt<|aD a.1.2.2.1 d.1)
 (ae (idx x.1.2.2.1 a.1.2.2.1) λb=>ak (fits<|plus (len a.2.2.1)<|len ([b]:List ot))
 (ae (kD (x.1,a.1.2.2.1,())) λc=>ak (fits<|plus (len a.2.1)<|len [c.1])
 (aa (((),(),()),app a.2.1 [c.1],app a.2.2.1 [b],())) af)
 af)
 (aa (((),(),()),a.2.1,a.2.2.1,()))) λb=>aa (ay (((),(),aw i64 a.1.2.2.1 1,()),b.2.1,b.2.2.1,())))
 (aa<|az (0,((),(),a.1.2.2.1,()),a.2.1,a.2.2.1,())))
def nx(x:bq×Sb×aj):Option (bq×aj) :=ae (tu (x.1,x.2.1,())) (λb=>ae (Loop (jt x b) (((),(),0,()),[],[],())) λa=>ae (nV ((x.1.1,x.1.2.1,a.2.2.1,a.2.1,x.1.2.2.2.2),x.2.1,0,())) λc=>aa (c.1,()))
def yv(x:bq×Sb×aj):Option (bq×jO×aj) :=
 ae (e7 (x.1,x.2.1,())) (λa=>ak (nt<|aD a.2.1 0)
 (ae (bT (a.2.1,())) λb=>aa (x.1,b.1,())) (ae (tG (x.1,a.1,())) λb=>ae (ak (nt b.1)
 (ae (fL (x.1,a.1,())) λc=>aa (aL 0 c.1)) (aa true)) λc=>ak c
 (ae (bT (7,())) λd=>aa (x.1,d.1,())) (ae (nx (x.1,a.1,())) λd=>aa (d.1,(0,a.1,0,[],()),()))))
def Bu(x:bq×Sb×aj):Option (jO×aj) :=
 ae (e7 (x.1,x.2.1,())) (λa=>ak (nt<|aD a.2.1 0)
 (ae (bT (a.2.1,())) λb=>aa (b.1,())) (ae (qI (x.1,a.1,())) λb=>aa ((0,a.1,0,b.2.1,()),())))
def wK(x:bq×Sb×aj):Option (jO×aj) :=
 ae (e7 (x.1,x.2.1,())) (λb=>ak (nt<|aD b.2.1 0)
 (ae (bT (b.2.1,())) λc=>aa (c.1,())) (ae (mO (x.1,b.1,())) λc=>ak (nt<|aD c.2.1 0)
 (ae (bT (c.2.1,())) λd=>aa (d.1,())) (ae (qI (x.1,b.1,())) λd=>ae (ak (nt<|bg d.1.2.1 [])
 (ae (mO (x.1,d.1.2.1,())) λa=>ak (nt<|aD a.2.1 0)
 (ae (bT (a.2.1,())) λe=>aa (1,(([]:List afE),()),e.1,())) (aa (0,(a.1,()),(0,[],0,[],()),())))
 (aa (0,([],()),(0,[],0,[],()),()))) λa=>ak (cm a.1 0)
 (ae (nk (a.2.1.1,c.1,())) λe=>ae (tj (e.1,())) λf=>aa ((0,b.1,0,f.1,()),())) (aa (a.2.2.1,())))))
def z7(x:bq×Sb×aj):Option (bq×jO×aj) :=
 ae (e7 (x.1,x.2.1,())) (λa=>ak (nt<|aD a.2.1 0)
 (ae (bT (a.2.1,())) λb=>aa (x.1,b.1,())) (ae (fL (x.1,a.1,())) λb=>ak (cl 1000 b.1)
 (ae (bT (5,())) λc=>aa (x.1,c.1,())) (ae (nV (x.1,a.1,aw i64 b.1 1,())) λc=>aa (c.1,(0,a.1,aw i64 b.1 1,[],()),()))))
def wL(x:bq×Sb×aj):Option (bq×jO×aj) :=
 ae (e7 (x.1,x.2.1,())) (λa=>ak (nt<|aD a.2.1 0)
 (ae (bT (a.2.1,())) λb=>aa (x.1,b.1,())) (ae (fL (x.1,a.1,())) λb=>ak (aL b.1 1)
 (ae (bT (11,())) λc=>aa (x.1,c.1,())) (ae (nV (x.1,a.1,cG i64 b.1 1,())) λc=>aa (c.1,(0,a.1,cG i64 b.1 1,[],()),()))))
def iO(x:Int×aj):Option (jO×aj) :=aa ((x.1,[],0,[],()),())
def nW(x:bq×aj):Option ((List D8)×aj) :=ae (rZ (2,(0,([]:List ot),x.1.2.1,([]:List jM),()),())) (λa=>aa (a.1,()))
def Lj(x:bq×Sb×aj)(a:(Int×Int×aj)×aj):Option (NL⊕NK) :=
 ak (aL a.1.2.1<|len x.1.2.1) (ae (idx x.1.2.1 a.1.2.1) λb=>ak (bg b.1 x.2.1)
 (aa<|az (1,(a.1.2.1,a.1.2.1,()),())) (aa<|ay ((a.1.1,aw i64 a.1.2.1 1,()),())))
 (aa<|az (0,(a.1.1,a.1.2.1,()),()))
def xA(x:bq×Sb×aj):Option (Int×aj) :=
 ae (Loop (Lj x) ((0,0,()),())) (λa=>ak (cm a.1 0)
 (aa ((-1),())) (aa (a.2.1.1,())))
def sb(x:bq×Sb×aj)(c:Int×aj)(a:qL×(List jN)×aj):Option ((qL×(List jN)×aj)⊕(qL×(List jN)×aj)) :=
 cr (ak (aL a.1.2.1<|len x.1.2.1)
 (ae (ak (nt<|aD a.1.2.1 c.1)
 (ae (idx x.1.2.1 a.1.2.1) λb=>ak (fits<|plus (len a.2.1)<|len ([b]:List jN))
 (aa (((),()),app a.2.1 [b],())) af)
 (aa (((),()),a.2.1,()))) λb=>aa (ay (((),aw i64 a.1.2.1 1,()),b.2.1,())))
 (aa<|az (0,((),a.1.2.1,()),a.2.1,())))
def ny(x:bq×Sb×aj):Option (bq×aj) :=ae (xA (x.1,x.2.1,())) (λa=>ae (Loop (sb x a) (((),0,()),[],())) λb=>aa ((x.1.1,b.2.1,x.1.2.2),()))
def tH(x:bq×jN×aj)(b:bq×aj)(a:(Int×aj)×aj):Option (AI⊕AI) :=
 cr (ak (aL a.1.1<|len b.1.2.1)
 (ae (idx b.1.2.1 a.1.1) λc=>ak (fZ c.1 x.2.1.1)
 (aa<|ay ((aw i64 a.1.1 1,()),())) (aa<|az (0,(a.1.1,()),())))
 (aa<|az (0,(a.1.1,()),())))
def sv(x:bq×jN×aj):Option (bq×aj) :=
 ae (ny (x.1,x.2.1.1,())) (λa=>ae (Loop (tH x a) ((0,()),())) λb=>ak (inside 0 b.1.1<|len a.1.2.1)
 (ak (fits<|plus (len ([]:List jN))<|len<|sub a.1.2.1 0<|minus b.1.1 0)
 (ak (fits<|plus (len<|app ([]:List jN)<|sub a.1.2.1 0<|minus b.1.1 0)<|len [x.2.1])
 (ak (inside b.1.1 (len a.1.2.1)<|len a.1.2.1)
 (ak (fits<|plus (len<|app (app ([]:List jN)<|sub a.1.2.1 0<|minus b.1.1 0) [x.2.1])<|len<|sub a.1.2.1 b.1.1<|minus (len a.1.2.1) b.1.1)
 (aa ((a.1.1,app (app (app ([]:List jN)<|sub a.1.2.1 0<|minus b.1.1 0) ([x.2.1]:List jN))<|sub a.1.2.1 b.1.1<|minus (len a.1.2.1) b.1.1,a.1.2.2),())) af)
 af)
 af)
 af)
 af)
def tI(x:bq×Sb×(List Sb)×Sb×Int×aj):Option (bq×jO×aj) :=
 ae (gC (x.2.2.1,())) (λg=>ak (ak (nt<|nt<|aD g.1 0)
 (aL 64<|len x.2.2.2.1) true)
 (ae (iO (1,())) λa=>aa (x.1,a.1,())) (ae (ak (nt<|bg x.2.1 [])
 (ae (e7 (x.1,x.2.1,())) λa=>ak (nt<|aD a.2.1 0)
 (ae (iO (a.2.1,())) λc=>aa (1,([],()),c.1,x.1,())) (aa (0,(a.1,()),(0,[],0,[],()),(([]:List jM),([]:List jN),([]:List ot),[],([]:List fK),()),())))
 (aa (0,([],()),(0,[],0,[],()),(([]:List jM),([]:List jN),([]:List ot),[],([]:List fK),()),()))) λa=>ak (cm a.1 0)
 (ae (nW (x.1,())) λc=>ae (mK (c.1,[],x.2.2.1,())) λf=>ak (nt<|aD f.1 0)
 (ae (iO (f.1,())) λd=>aa (x.1,d.1,())) (ae (nW (x.1,())) λd=>ae (nT (d.1,x.2.2.2.2.1,())) λb=>ak (nt<|aD b.2.1 0)
 (ae (iO (b.2.1,())) λe=>aa (x.1,e.1,())) (ae (sv (x.1,(b.1,x.2.2.1,a.2.1.1,x.2.2.2.1,([]:List LW),()),())) λe=>aa (e.1,(0,b.1,0,[],()),()))))
 (aa (a.2.2.2.1,a.2.2.1,()))))
def tJ(x:bq×Sb×aj):Option fK :=ae (nW (x.1,())) (λb=>ae (kF (b.1,x.2.1,())) λa=>aa (a.1,a.2.1,()))
def ow(x:bq×Sb×aj)(b:Sb×Int×aj)(a:(Int×aj)×jO×bq×aj):Option (((Int×aj)×jO×bq×aj)⊕(Nat×(Int×aj)×jO×bq×aj)) :=
 ak (aL a.1.1<|len x.1.1) (ae (idx x.1.1 a.1.1) λc=>ak (bg c.2.2.1 b.1)
 (ae (iO (7,())) λd=>aa (az (1,(a.1.1,()),d.1,x.1,()))) (aa<|ay ((aw i64 a.1.1 1,()),a.2.1,a.2.2.1,())))
 (aa<|az (0,(a.1.1,()),a.2.1,a.2.2.1,()))
def tK(x:bq×Sb×aj):Option (bq×jO×aj) :=
 ae (tJ (x.1,x.2.1,())) (λa=>ak (nt<|aD a.2.1 0)
 (ae (iO (a.2.1,())) λb=>aa (x.1,b.1,())) (ae (Loop (ow x a) ((0,()),(0,[],0,[],()),(([]:List jM),([]:List jN),([]:List ot),[],([]:List fK),()),())) λb=>ak (cm b.1 0)
 (ae (ny (x.1,a.1,())) λc=>aa (c.1,(0,a.1,0,[],()),())) (aa (b.2.2.2.1,b.2.2.1,()))))
def gE(x:Int×aj):Option (jO×aj) :=aa ((x.1,[],0,[],()),())
def pc(x:bq×Sb×aj):Option (jN×Bool×aj) :=
 ae (xA (x.1,x.2.1,())) (λa=>ak (aL a.1 0)
 (aa (([],[],[],[],([]:List LW),()),false,())) (ae (idx x.1.2.1 a.1) λb=>aa (b,true,())))
def nX(x:bq×aj):Option ((List D8)×aj) :=ae (rZ (1,(0,([]:List ot),([]:List jN),x.1.1,()),())) (λa=>aa (a.1,()))
def Lk(x:bq×Sb×aj)(a:(Int×Int×aj)×aj):Option (NL⊕NK) :=
 ak (aL a.1.2.1<|len x.1.1) (ae (idx x.1.1 a.1.2.1) λb=>ak (bg b.1 x.2.1)
 (aa<|az (1,(a.1.2.1,a.1.2.1,()),())) (aa<|ay ((a.1.1,aw i64 a.1.2.1 1,()),())))
 (aa<|az (0,(a.1.1,a.1.2.1,()),()))
def xB(x:bq×Sb×aj):Option (Int×aj) :=
 ae (Loop (Lk x) ((0,0,()),())) (λa=>ak (cm a.1 0)
 (aa ((-1),())) (aa (a.2.1.1,())))
def sd(x:bq×Sb×aj)(c:Int×aj)(a:qL×(List jM)×aj):Option ((qL×(List jM)×aj)⊕(qL×(List jM)×aj)) :=
 cr (ak (aL a.1.2.1<|len x.1.1)
 (ae (ak (nt<|aD a.1.2.1 c.1)
 (ae (idx x.1.1 a.1.2.1) λb=>ak (fits<|plus (len a.2.1)<|len ([b]:List jM))
 (aa (((),()),app a.2.1 [b],())) af)
 (aa (((),()),a.2.1,()))) λb=>aa (ay (((),aw i64 a.1.2.1 1,()),b.2.1,())))
 (aa<|az (0,((),a.1.2.1,()),a.2.1,())))
def nz(x:bq×Sb×aj):Option (bq×aj) :=ae (xB (x.1,x.2.1,())) (λa=>ae (Loop (sd x a) (((),0,()),[],())) λb=>aa ((b.2.1,x.1.2),()))
def tL(x:bq×jM×aj)(b:bq×aj)(a:(Int×aj)×aj):Option (AI⊕AI) :=
 cr (ak (aL a.1.1<|len b.1.1)
 (ae (idx b.1.1 a.1.1) λc=>ak (fZ c.1 x.2.1.1)
 (aa<|ay ((aw i64 a.1.1 1,()),())) (aa<|az (0,(a.1.1,()),())))
 (aa<|az (0,(a.1.1,()),())))
def sw(x:bq×jM×aj):Option (bq×aj) :=
 ae (nz (x.1,x.2.1.1,())) (λa=>ae (Loop (tL x a) ((0,()),())) λb=>ak (inside 0 b.1.1<|len a.1.1)
 (ak (fits<|plus (len ([]:List jM))<|len<|sub a.1.1 0<|minus b.1.1 0)
 (ak (fits<|plus (len<|app ([]:List jM)<|sub a.1.1 0<|minus b.1.1 0)<|len [x.2.1])
 (ak (inside b.1.1 (len a.1.1)<|len a.1.1)
 (ak (fits<|plus (len<|app (app ([]:List jM)<|sub a.1.1 0<|minus b.1.1 0) [x.2.1])<|len<|sub a.1.1 b.1.1<|minus (len a.1.1) b.1.1)
 (aa ((app (app (app ([]:List jM)<|sub a.1.1 0<|minus b.1.1 0) ([x.2.1]:List jM))<|sub a.1.1 b.1.1<|minus (len a.1.1) b.1.1,a.1.2),())) af)
 af)
 af)
 af)
 af)
def tM(x:bq×Sb×(List Sb)×Sb×Int×aj):Option (bq×jO×aj) :=
 ae (gC (x.2.2.1,())) (λh=>ak (ak (nt<|nt<|aD h.1 0)
 (aL 64<|len x.2.2.2.1) true)
 (ae (gE (1,())) λa=>aa (x.1,a.1,())) (ae (ak (nt<|bg x.2.1 [])
 (ae (tJ (x.1,x.2.1,())) λa=>ak (nt<|aD a.2.1 0)
 (ae (gE (a.2.1,())) λc=>aa (1,([],[],()),c.1,x.1,())) (ae (pc (x.1,a.1,())) λc=>aa (0,(a.1,c.1.2.2.1,()),(0,[],0,[],()),(([]:List jM),([]:List jN),([]:List ot),[],([]:List fK),()),())))
 (aa (0,([],[],()),(0,[],0,[],()),(([]:List jM),([]:List jN),([]:List ot),[],([]:List fK),()),()))) λa=>ak (cm a.1 0)
 (ae (nX (x.1,())) λc=>ae (mK (c.1,[],x.2.2.1,())) λg=>ak (nt<|aD g.1 0)
 (ae (gE (g.1,())) λe=>aa (x.1,e.1,())) (ae (nX (x.1,())) λe=>ae (nT (e.1,hL i64 x.2.2.2.2.1 16777215,())) λd=>ak (nt<|aD d.2.1 0)
 (ae (gE (d.2.1,())) λb=>aa (x.1,b.1,())) (ae (pa (x.1,a.2.1.2.1,[],[],hL i64 (jT i64 x.2.2.2.2.1 24) 16777215,())) λb=>ak (nt<|aD b.2.1.1 0)
 (ae (gE (b.2.1.1,())) λf=>aa (x.1,f.1,())) (ae (sw (b.1,(d.1,x.2.2.1,a.2.1.1,b.2.1.2.1,x.2.2.2.1,([]:List LW),()),())) λf=>aa (f.1,(0,d.1,0,b.2.1.2.1,()),())))))
 (aa (a.2.2.2.1,a.2.2.1,()))))
def Bw(x:bq×Sb×aj):Option fK :=ae (nX (x.1,())) (λb=>ae (kF (b.1,x.2.1,())) λa=>aa (a.1,a.2.1,()))
def sx(x:bq×Sb×aj):Option (jM×Bool×aj) :=
 ae (xB (x.1,x.2.1,())) (λa=>ak (aL a.1 0)
 (aa (([],[],[],[],[],([]:List LW),()),false,())) (ae (idx x.1.1 a.1) λb=>aa (b,true,())))
def tN(x:bq×Sb×aj):Option (bq×jO×aj) :=
 ae (Bw (x.1,x.2.1,())) (λa=>ak (nt<|aD a.2.1 0)
 (ae (gE (a.2.1,())) λb=>aa (x.1,b.1,())) (ae (sx (x.1,a.1,())) λb=>ae (nz (x.1,a.1,())) λe=>ae (fL (x.1,b.1.2.2.2.1,())) λf=>ae (ak (nt<|aL 0 f.1)
 (ae (tG (e.1,b.1.2.2.2.1,())) λc=>aa c.1) (aa true)) λc=>ak c
 (ae (gE (7,())) λd=>aa (x.1,d.1,())) (ae (nx (e.1,b.1.2.2.2.1,())) λd=>aa (d.1,(0,a.1,0,[],()),()))))
def fx(x:Int×aj):Option (jO×aj) :=aa ((x.1,[],0,[],()),())
def vD(x:bq×Int×aj):Option ((List D8)×aj) :=ae (rZ (x.2.1,(0,x.1.2.2.1,x.1.2.1,x.1.1,()),())) (λa=>aa (a.1,()))
def xC(x:bq×TJ×aj):Option (bq×jO×aj) :=
 ak (ak (nt<|aD x.2.1.2.1 2)
 (nt<|aD x.2.1.2.1 1) false)
 (ae (fx (1,())) λf=>aa (x.1,f.1,())) (ae (vD (x.1,x.2.1.2.1,())) λf=>ae (kF (f.1,x.2.1.2.2.1,())) λd=>ak (nt<|aD d.2.1 0)
 (ae (fx (d.2.1,())) λa=>aa (x.1,a.1,())) (ae (pc (x.1,d.1,())) λa=>ae (sx (x.1,d.1,())) λb=>ak (aD x.2.1.1 10)
 (ae (rr (((ak (aD x.2.1.2.1 1)
 ((b.1.2.2.2.2.2.1,()),()) ((a.1.2.2.2.2.1,()),())).1).1,x.2.1.2.2.2.2.2.2.1,())) λc=>ak (nt<|aD c.2.1 0)
 (ae (fx (c.2.1,())) λe=>aa (x.1,e.1,())) (aa (x.1,(0,d.1,0,c.1,()),())))
 (ae (rq (((ak (aD x.2.1.2.1 1)
 ((b.1.2.2.2.2.2.1,()),()) ((a.1.2.2.2.2.1,()),())).1).1,x.2.1.2.2.2.2.2.2.1,x.2.1.2.2.2.2.2.1,())) λc=>ak (nt<|aD c.2.1 0)
 (ae (fx (c.2.1,())) λe=>aa (x.1,e.1,())) (ak (aD x.2.1.2.1 1)
 (ae (sw (x.1,(b.1.1,b.1.2.1,b.1.2.2.1,b.1.2.2.2.1,b.1.2.2.2.2.1,c.1,b.1.2.2.2.2.2.2),())) λe=>aa (e.1,(0,d.1,0,[],()),())) (ae (sv (x.1,(a.1.1,a.1.2.1,a.1.2.2.1,a.1.2.2.2.1,c.1,a.1.2.2.2.2.2),())) λe=>aa (e.1,(0,d.1,0,[],()),()))))))
def rG(x:(List D8)×aj)(b:fK×aj)(a:fK×aj):Option ((fK×aj)⊕(fK×aj)) :=
 cr (ae (idx x.1 b.1.2.1) λd=>ak (aL a.1.2.1<|len d.2.1)
 (ak (fits<|plus (len a.1.1)<|len ([32]:bb))
 (ae (idx x.1 b.1.2.1) λe=>ae (idx e.2.1 a.1.2.1) λc=>ak (fits<|plus (len<|app a.1.1 [32])<|len c)
 (aa<|ay ((app (app a.1.1 [32]) c,aw i64 a.1.2.1 1,()),())) af)
 af)
 (aa<|az (0,(a.1.1,a.1.2.1,()),())))
def rH(x:(List D8)×aj)(a:fK×aj):Option ((fK×aj)⊕(fK×aj)) :=
 cr (ak (aL a.1.2.1<|len x.1)
 (ae (idx x.1 a.1.2.1) λb=>ak (fits<|plus (len a.1.1)<|len b.1)
 (ae (Loop (rG x a) ((app a.1.1 b.1,0,()),())) λc=>ak (fits<|plus (len c.1.1)<|len ([10]:bb))
 (aa<|ay ((app c.1.1 [10],aw i64 a.1.2.1 1,()),())) af)
 af)
 (aa<|az (0,(a.1.1,a.1.2.1,()),())))
def Bx(x:(List D8)×aj):Option (Sb×aj) :=ae (Loop (rH x) (([],0,()),())) (λa=>aa (a.1.1,()))
def mS(x:bq×Int×Sb×(List Sb)×aj)(b:(aj×Bool×Int×aj)×(List ot)×aj):Option (((aj×Bool×Int×aj)×(List ot)×aj)⊕((aj×Bool×Int×aj)×(List ot)×aj)) :=
 cr (ak (aL b.1.2.2.1<|len x.1.2.2.1)
 (ae (idx x.1.2.2.1 b.1.2.2.1) λa=>ak (fits<|plus (len b.2.1)<|len ([((ak (ak (bg a.1 x.2.2.1)
 (nt b.1.2.1) false)
 ((true,()),(a.1,a.2.1,x.2.2.2.1,a.2.2.2),()) ((b.1.2.1,()),a,())).2).1]:List ot))
 (aa<|ay (((),((ak (ak (bg a.1 x.2.2.1)
 (nt b.1.2.1) false)
 ((true,()),(a.1,a.2.1,x.2.2.2.1,a.2.2.2),()) ((b.1.2.1,()),a,())).1).1,aw i64 b.1.2.2.1 1,()),app b.2.1 [((ak (ak (bg a.1 x.2.2.1)
 (nt b.1.2.1) false)
 ((true,()),(a.1,a.2.1,x.2.2.2.1,a.2.2.2),()) ((b.1.2.1,()),a,())).2).1],()))
 af)
 (aa<|az (0,((),b.1.2.1,b.1.2.2.1,()),b.2.1,())))
def ia(x:bq×Int×Sb×(List Sb)×aj):Option (bq×aj) :=
 ak (aD x.2.1 1) (ae (sx (x.1,x.2.2.1,())) λa=>ae (sw (x.1,(a.1.1,x.2.2.2.1,a.1.2.2),())) λb=>aa (b.1,())) (ak (aD x.2.1 2)
 (ae (pc (x.1,x.2.2.1,())) λa=>ae (sv (x.1,(a.1.1,x.2.2.2.1,a.1.2.2),())) λb=>aa (b.1,())) (ae (Loop (mS x) (((),false,0,()),[],())) λa=>aa ((x.1.1,x.1.2.1,a.2.1,x.1.2.2.2),())))
def tO(x:bq×TJ×aj):Option (bq×jO×aj) :=
 ak (ak (nt<|aL x.2.1.2.1 1)
 (aL 3 x.2.1.2.1) true)
 (ae (fx (1,())) λb=>aa (x.1,b.1,())) (ae (vD (x.1,x.2.1.2.1,())) λb=>ak (aD x.2.1.1 15)
 (ae (Bx (b.1,())) λc=>aa (x.1,(0,[],0,c.1,()),())) (ae (ak (aD x.2.1.1 13)
 (ae (gC (x.2.1.2.2.2.2.1,())) λc=>aa (nt<|aD c.1 0)) (aa false)) λc=>ak c
 (ae (fx (1,())) λa=>aa (x.1,a.1,())) (ae (kF (b.1,x.2.1.2.2.1,())) λa=>ak (nt<|aD a.2.1 0)
 (ae (fx (a.2.1,())) λd=>aa (x.1,d.1,())) (ak (aD x.2.1.1 14)
 (aa (x.1,(0,a.1,0,[],()),())) (ae (mK (b.1,a.1,x.2.1.2.2.2.2.1,())) λd=>ak (nt<|aD d.1 0)
 (ae (fx (d.1,())) λe=>aa (x.1,e.1,())) (ae (ia (x.1,x.2.1.2.1,a.1,x.2.1.2.2.2.2.1,())) λe=>aa (e.1,(0,a.1,0,[],()),())))))))
def yw(x:bq×TJ×aj):Option (bq×jO×aj) :=
 ak (aD x.2.1.1 1) (ae (pa (x.1,x.2.1.2.2.2.1,x.2.1.2.2.2.2.1,x.2.1.2.2.2.2.2.1,x.2.1.2.2.2.2.2.2.2.1,())) λa=>aa (a.1,a.2.1,())) (ak (aD x.2.1.1 2)
 (ae (yv (x.1,x.2.1.2.2.1,())) λa=>aa (a.1,a.2.1,())) (ak (aD x.2.1.1 3)
 (ae (Bu (x.1,x.2.1.2.2.1,())) λa=>aa (x.1,a.1,())) (ak (aD x.2.1.1 4)
 (ae (wK (x.1,x.2.1.2.2.1,())) λa=>aa (x.1,a.1,())) (ak (aD x.2.1.1 5)
 (ae (z7 (x.1,x.2.1.2.2.1,())) λa=>aa (a.1,a.2.1,())) (ak (aD x.2.1.1 6)
 (ae (wL (x.1,x.2.1.2.2.1,())) λa=>aa (a.1,a.2.1,())) (ak (aD x.2.1.1 7)
 (ae (tI (x.1,x.2.1.2.2.2.1,x.2.1.2.2.2.2.1,x.2.1.2.2.2.2.2.1,x.2.1.2.2.2.2.2.2.2.1,())) λa=>aa (a.1,a.2.1,())) (ak (aD x.2.1.1 8)
 (ae (tK (x.1,x.2.1.2.2.1,())) λa=>aa (a.1,a.2.1,())) (ak (aD x.2.1.1 11)
 (ae (tM (x.1,x.2.1.2.2.2.1,x.2.1.2.2.2.2.1,x.2.1.2.2.2.2.2.1,x.2.1.2.2.2.2.2.2.2.1,())) λa=>aa (a.1,a.2.1,())) (ak (aD x.2.1.1 12)
 (ae (tN (x.1,x.2.1.2.2.1,())) λa=>aa (a.1,a.2.1,())) (ak (((ak (aD x.2.1.1 9)
 ((aD x.2.1.1 9,()),()) ((aD x.2.1.1 10,()),())).1).1)
 (ae (xC (x.1,x.2.1,())) λa=>aa (a.1,a.2.1,())) (ak (((ak (aD x.2.1.1 13)
 ((aD x.2.1.1 13,()),()) ((((ak (aD x.2.1.1 14)
 ((aD x.2.1.1 14,()),()) ((aD x.2.1.1 15,()),())).1).1,()),())).1).1)
 (ae (tO (x.1,x.2.1,())) λa=>aa (a.1,a.2.1,())) (ae (fx (1,())) λa=>aa (x.1,a.1,())))))))))))))
end Go.Ge
namespace Go.Ge
variable [Lp]
set_option maxRecDepth 100000
abbrev bC:=((List<|Sb×(List Sb)×Sb×Sb×Sb×(List<|Sb×Sb×Sb×aj)×aj)×(List<|Sb×(List Sb)×Sb×Sb×(List<|Sb×Sb×Sb×aj)×aj)×(List<|Sb×Sb×(List Sb)×Sb×Int×Int×Bool×aj)×(List Sb)×(List<|Sb×Int×aj)×aj)
abbrev cH:=(Int×(Int×Int×Sb×Sb×(List Sb)×Sb×Sb×Int×aj)×Int×Int×Int×(Int×Sb×Int×Sb×aj)×aj)
abbrev aaV:=(Int×Int×Sb×Sb×(List Sb)×Sb×Sb×Int×aj)
abbrev tP:=(((List cH)×(List<|Int)×aj)×(bC×(List<|Bool)×Int×(List<|Int)×aj)×aj)
abbrev rI:=(Sb×(List Sb)×Sb×Sb×Sb×(List<|Sb×Sb×Sb×aj)×aj)
abbrev rJ:=(Sb×(List Sb)×Sb×Sb×(List<|Sb×Sb×Sb×aj)×aj)
abbrev rK:=(Sb×Sb×(List Sb)×Sb×Int×Int×Bool×aj)
abbrev aaW:=(Int×Sb×Int×Sb×aj)
abbrev dt:=(Bool×Int×aj)
abbrev afF:=(Nat×dt×aj)
abbrev iu:=(Sb×Int×aj)
abbrev bZ:=((List cH)×(List<|Int)×aj)
abbrev ju:=(bC×(List<|Bool)×Int×(List<|Int)×aj)
abbrev afG:=(dt×aj)
abbrev Hs:=(Sb×Sb×Sb×aj)
abbrev wc:=(bC×(List cH)×(List<|Int)×(List<|Bool)×Int×(List bC)×aj)
abbrev Ht:=((Bool×aj)×bC×aj)
abbrev gk:=(Int×Int×aj)
abbrev NN:=(Bool×(List<|Bool)×Int×Int×aj)
abbrev jv:=(afG⊕afF)
abbrev AJ:=(tP×bC×aj)
abbrev Hu:=((Bool×aj)×(List<|Int)×aj)
abbrev AK:=(tP×(List<|Int)×aj)
abbrev Hv:=(Bool×Int×Int×aj)
abbrev afH:=(Nat×NN×bC×bC×aj)
def la(l:List Int)(x:aj):Option (List Int):=aa (Lib.compact (α:=Int) l)
def tQ(x:bZ×aj)(a:dt×aj):Option jv :=
 ak (ak (aL a.1.2.1<|len x.1.1)
 (aL a.1.2.1 20) false)
 (ae (idx x.1.1 a.1.2.1) λc=>ae (ak (nt<|aL 100<|len c.2.2.2.2.2.1.2.1)
 (ae (idx x.1.1 a.1.2.1) λb=>aa (aL 16384<|len b.2.2.2.2.2.1.2.2.2.1)) (aa true)) λb=>ak b
 (aa<|az (1,(false,a.1.2.1,()),())) (aa<|ay ((a.1.1,aw i64 a.1.2.1 1,()),())))
 (aa<|az (0,(a.1.1,a.1.2.1,()),()))
def C2(x:bZ×aj):Option (Bool×aj) :=
 ae (Loop (tQ x) ((false,(0:Int),()),())) (λa=>ak (cm a.1 0)
 (aa (ak (cl (len x.1.1) 20)
 (cl (len x.1.2.1) 10) false,()))
 (aa (a.2.1.1,())))
def tR(x:bC×bZ×aj)(a:dt×aj):Option jv :=
 ak (ak (aL a.1.2.1<|len x.2.1.1)
 (aL a.1.2.1 5) false)
 (ae (idx x.2.1.1 a.1.2.1) λb=>ae (qK (b.2.1,())) λc=>ak (nt c.1)
 (aa<|az (1,(false,a.1.2.1,()),())) (aa<|ay ((a.1.1,aw i64 a.1.2.1 1,()),())))
 (aa<|az (0,(a.1.1,a.1.2.1,()),()))
def C3(x:bC×bZ×aj):Option (Bool×aj) :=
 ae (Loop (tR x) ((false,(0:Int),()),())) (λb=>ak (cm b.1 0)
 (ae (wb (x.1,())) λc=>ae (ak (ak c.1
 (cl (len x.2.1.1) 5) false)
 (ae (C2 (x.2.1,())) λa=>aa a.1) (aa false)) λa=>aa (a,()))
 (aa (b.2.1.1,())))
def vE(x:cH×Int×aj):Option (Bool×aj) :=
 aa (ak (ak (nt<|aD x.2.1 x.1.2.2.1)
 (nt<|aD x.2.1 x.1.2.2.2.1) false)
 (ak (nt<|aL x.2.1 x.1.2.2.1)
 (ak (nt<|aD x.1.2.2.2.2.1 3)
 (aL x.1.2.2.2.1 x.2.1) false)
 true)
 false,())
def ox(x:cH×aj):Option (Bool×aj) :=
 ak (aD x.1.2.2.2.2.1 1) (aa (aL x.1.2.2.1 x.1.2.2.2.1,())) (ak (aD x.1.2.2.2.2.1 2)
 (aa (ak (aL x.1.2.2.1 x.1.2.2.2.1)
 (an (aD x.1.2.2.2.2.2.1.1 0)<|an (bg x.1.2.2.2.2.2.1.2.1 ([]:bb))<|an (aD x.1.2.2.2.2.2.1.2.2.1 0)<|an (bg x.1.2.2.2.2.2.1.2.2.2.1 ([]:bb)) true) false,()))
 (ak (aD x.1.2.2.2.2.1 3)
 (aa (ak (aD x.1.2.2.2.1 0)
 (an (aD x.1.2.2.2.2.2.1.1 0)<|an (bg x.1.2.2.2.2.2.1.2.1 ([]:bb))<|an (aD x.1.2.2.2.2.2.1.2.2.1 0)<|an (bg x.1.2.2.2.2.2.1.2.2.2.1 ([]:bb)) true) false,()))
 (aa (false,()))))
def By(x:(List<|Int)×aj):Option ((List<|Int)×aj) :=bif fits (len x.1) then aa (x.1,()) else af
def rL(x:Int×aj):Option (Bool×aj) :=aa (nt<|aD x.1 x.1,())
def tS(x:Int×Int×aj):Option (Bool×aj) :=
 ae (rL (x.1,())) (λb=>ae (ak b.1
 (ae (rL (x.2.1,())) λa=>aa (nt a.1)) (aa false)) λa=>aa (ak (nt a) (aL x.1 x.2.1) true,()))
def e8(x:(List<|Int)×aj)(a:dt×aj):Option jv :=
 ak (aL 0 a.1.2.1) (ae (idx x.1 a.1.2.1) λb=>ae (idx x.1<|cG i64 a.1.2.1 1) λc=>ae (tS (b,c,())) λd=>ak d.1
 (aa<|az (1,(false,a.1.2.1,()),())) (aa<|ay ((a.1.1,cG i64 a.1.2.1 1,()),())))
 (aa<|az (0,(a.1.1,a.1.2.1,()),()))
def gg(x:(List<|Int)×aj):Option (Bool×aj) :=
 ae (Loop (e8 x) ((false,cG i64 (len x.1) 1,()),())) (λa=>ak (cm a.1 0)
 (aa (true,())) (aa (a.2.1.1,())))
def tT(x:(List<|Int)×aj):Option (Bool×aj) :=
 ae (gg (x.1,())) (λa=>ak a.1
 (ak (fits<|len x.1)
 (ae (la x.1 ()) λb=>aa (aD (len b)<|len x.1,())) af)
 (aa (false,())))
def jw(b:(Int×Int×Int×aj)×bZ×aj)(a:gk×cH×aj):Option ((gk×cH×aj)⊕(Nat×gk×cH×aj)) :=
 ak (aL a.1.2.1<|len<|sub b.2.1.1 (0:Int)<|minus b.1.2.2.1 0) (ae (idx (sub b.2.1.1 (0:Int)<|minus b.1.2.2.1 0) a.1.2.1) λc=>ak (ak (aD c.1 a.2.1.1)
 (ak (nt<|aD c.2.2.2.2.1 3)
 (cl a.2.1.2.2.1 c.2.2.2.1) true)
 false)
 (aa<|az (1,(a.1.2.1,a.1.2.1,()),a.2.1,())) (aa<|ay ((a.1.1,aw i64 a.1.2.1 1,()),a.2.1,())))
 (aa<|az (0,(a.1.1,a.1.2.1,()),a.2.1,()))
def jx(b:(Int×Int×Int×aj)×bZ×aj)(a:gk×cH×aj):Option ((gk×cH×aj)⊕(Nat×gk×cH×aj)) :=
 ak (aL a.1.2.1<|len b.2.1.2.1) (ae (idx b.2.1.2.1 a.1.2.1) λc=>ae (vE (a.2.1,c,())) λd=>ak (nt d.1)
 (aa<|az (1,(a.1.2.1,a.1.2.1,()),a.2.1,())) (aa<|ay ((a.1.1,aw i64 a.1.2.1 1,()),a.2.1,())))
 (aa<|az (0,(a.1.1,a.1.2.1,()),a.2.1,()))
def gv(x:bZ×aj)(a:(Int×Int×Int×aj)×bZ×aj):Option (((Int×Int×Int×aj)×bZ×aj)⊕(Nat×(Int×Int×Int×aj)×bZ×aj)) :=
 ak (aL a.1.2.2.1<|len x.1.1) (ae (idx x.1.1 a.1.2.2.1) λe=>ak (inside 0 a.1.2.2.1<|len a.2.1.1)
 (ae (ae (Loop (jw a) (((0:Int),(0:Int),()),e,())) λc=>ak (cm c.1 0)
 (aa ((false,()),c.2.2.1,())) (aa ((cl 0 c.2.1.1,()),c.2.2.1,()))) λc=>ae (ae (Loop (jx a) (((0:Int),(0:Int),()),c.2.1,())) λb=>ak (cm b.1 0) (aa ((false,()),b.2.2.1,())) (aa ((cl 0 b.2.1.1,()),b.2.2.1,()))) λb=>ae (ak (nt<|cl b.2.1.2.2.1 a.1.2.1) (ae (ox (b.2.1,())) λd=>aa (nt d.1)) (aa true)) λd=>ak (ak (nt<|ak (nt d)
 (nt<|nt c.1.1) true)
 (nt<|nt b.1.1) true)
 (aa<|az (1,((1:Int),a.1.2.1,a.1.2.2.1,()),a.2.1,())) (aa<|ay ((a.1.1,b.2.1.2.2.1,aw i64 a.1.2.2.1 1,()),a.2.1,())))
 af)
 (aa<|az (0,(a.1.1,a.1.2.1,a.1.2.2.1,()),a.2.1,()))
def dE(x:bZ×aj):Option (Int×aj) :=
 ae (Loop (gv x) (((0:Int),(0:Int),(0:Int),()),x.1,())) (λa=>ak (cm a.1 0)
 (ae (tT (a.2.2.1.2.1,())) λb=>ak (nt b.1)
 (aa ((1:Int),())) (aa ((0:Int),())))
 (aa (a.2.1.1,())))
def xD(x:cH×aj):Option (Int×aj) :=ak (aD x.1.2.2.2.2.1 3) (aa ((9223372036854775807:Int),())) (aa (x.1.2.2.2.1,()))
def z8(x:(List<|Bool)×aj):Option ((List<|Bool)×aj) :=bif fits (len x.1) then aa (x.1,()) else af
def mc(x:cH×cH×aj):Option (Bool×aj) :=
 aa (ak (nt<|aD x.1.2.2.2.2.1 3)
 (aL x.1.2.2.2.1 x.2.1.2.2.1) false,())
def IZ(l:List cH)(u:List Bool)(a:dt×aj):Option ((dt×aj)⊕(Nat×dt×aj)) :=
 ak (aL a.1.2.1<|len l) (ae (idx l a.1.2.1) λb=>ae (idx u a.1.2.1) λc=>ak (ak (nt c)
 (aD b.2.2.2.2.1 1) false)
 (aa<|az (1,(true,a.1.2.1,()),())) (aa<|ay ((a.1.1,aw i64 a.1.2.1 1,()),())))
 (aa<|az (0,(a.1.1,a.1.2.1,()),()))
def TK(l:List cH)(u:List Bool)(a:Int)(b:dt×aj):Option ((dt×aj)⊕(Nat×dt×aj)) :=
 ak (aL b.1.2.1<|len l) (ae (idx l b.1.2.1) λc=>ae (idx u b.1.2.1) λd=>ak (ak (ak (nt d)
 (aD c.2.2.2.2.1 1) false)
 (aL c.2.2.2.1 a) false)
 (aa<|az (1,(true,b.1.2.1,()),())) (aa<|ay ((b.1.1,aw i64 b.1.2.1 1,()),())))
 (aa<|az (0,(b.1.1,b.1.2.1,()),()))
def LX(l:List cH)(u:List Bool)(a:Int)(b:dt×aj):Option ((dt×aj)⊕(Nat×dt×aj)) :=
 ak (aL b.1.2.1<|len l) (ae (idx l b.1.2.1) λc=>ak (within b.1.2.1<|len u)
 (ae (idx u b.1.2.1) λd=>ak (ak (ak (nt d)
 (aD c.2.2.2.2.1 1) false)
 (aL c.2.2.2.1 a) false)
 (aa<|az (1,(true,b.1.2.1,()),())) (aa<|ay ((b.1.1,aw i64 b.1.2.1 1,()),())))
 af)
 (aa<|az (0,(b.1.1,b.1.2.1,()),()))
def afI(l:List cH)(e:cH)(y:(Int×aj)×(List Bool)×aj):Option (((Int×aj)×(List Bool)×aj)⊕((Int×aj)×(List Bool)×aj)) :=
 cr (ak (aL y.1.1<|len l)
 (ae (idx l y.1.1) λa=>ae (mc (a,e,())) λb=>ae (ak b.1
 (ak (within y.1.1<|len y.2.1)
 (ae (idx y.2.1 y.1.1) λ_=>ae (idx y.2.1 y.1.1) λ_=>ae (idx y.2.1 y.1.1) λ_=>aa ((),kO y.2.1 y.1.1 true,())) af)
 (aa ((),y.2.1,()))) λc=>aa (ay ((aw i64 y.1.1 1,()),c.2.1,())))
 (aa<|az (0,(y.1.1,()),y.2.1,())))
def I0{U:Type}(l:List cH)(c:List Int)(p:ju)(w:U):Option ((ju×Bool×aj)×U) :=
 ae (ak (cl (len c) p.2.2.1)
 (aa true) (ae (idx c p.2.2.1) λb=>ae (ae (Loop (TK l p.2.1 b) ((false,0,()),())) λa=>ak (cm a.1 0)
 (aa ((false,()),())) (aa ((a.2.1.1,()),()))) λa=>aa a.1.1)) (λb=>ak b
 (aa (((([],[],[],[],[],()),[],0,[],()),false,()),w)) (ak (fits<|len p.2.2.2.1)
 (ak (fits<|plus (len p.2.2.2.1)<|len [(-1:Int)])
 (aa ((((p.1.1,p.1.2.1,p.1.2.2.1,p.1.2.2.2.1,[],p.1.2.2.2.2.2),p.2.1,aw i64 p.2.2.1 1,app p.2.2.2.1 [(-1:Int)],p.2.2.2.2),true,()),w)) af)
 af))
def I3{U:Type}(l:List cH)(d:List Int)(p:ju)(k:Int)(w:U):Option ((ju×Bool×aj)×U) :=
 ae (idx l k) (λb=>ae (ak (aL p.2.2.1<|len d)
 (ae (idx d p.2.2.1) λe=>aa (aL e b.2.2.1)) (aa false)) λe=>ae (ak (aL 0 p.2.2.1) (ae (xD (b,())) λf=>ae (idx d<|cG i64 p.2.2.1 1) λg=>aa (aL f.1 g)) (aa false)) λf=>ae (idx p.2.1 k) λg=>ak (ak (nt<|ak (nt g)
 e true)
 f true)
 (aa (((([],[],[],[],[],()),[],0,[],()),false,()),w)) (ak (fits<|len p.2.1)
 (ak (fits<|len p.2.2.2.1)
 (ak (fits<|plus (len p.2.2.2.1)<|len [k])
 (ak (within k<|len p.2.1)
 (ae (idx p.2.1 k) λ_=>ae (idx p.2.1 k) λ_=>ae (idx p.2.1 k) λ_=>ae (ae (Loop (LX l (kO p.2.1 k true) b.2.2.1) ((false,0,()),())) λa=>ak (cm a.1 0)
 (aa ((false,()),w)) (aa ((a.2.1.1,()),w))) λa=>ak a.1.1
 (aa (((([],[],[],[],[],()),[],0,[],()),false,()),a.2)) (ak (nt<|aD b.2.1.1 16)
 (ae (yu (p.1,b.2.1,())) λc=>ak (ak (aD b.2.2.2.2.1 1)
 (nt<|an (aD c.2.1.1 b.2.2.2.2.2.1.1)<|an (bg c.2.1.2.1 b.2.2.2.2.2.1.2.1)<|an (aD c.2.1.2.2.1 b.2.2.2.2.2.1.2.2.1)<|an (bg c.2.1.2.2.2.1 b.2.2.2.2.2.1.2.2.2.1) true) false)
 (aa (((([],[],[],[],[],()),[],0,[],()),false,()),a.2)) (ae (Loop (afI l b) ((0,()),kO p.2.1 k true,())) λh=>aa (((c.1,h.2.1,p.2.2.1,app p.2.2.2.1 [k],()),true,()),a.2)))
 (ak (ak (aD b.2.2.2.2.1 1)
 (nt<|an (aD 0 b.2.2.2.2.2.1.1)<|an (bg [] b.2.2.2.2.2.1.2.1)<|an (aD 0 b.2.2.2.2.2.1.2.2.1)<|an (bg [] b.2.2.2.2.2.1.2.2.2.1) true) false)
 (aa (((([],[],[],[],[],()),[],0,[],()),false,()),a.2)) (ae (Loop (afI l b) ((0,()),kO p.2.1 k true,())) λc=>aa (((p.1,c.2.1,p.2.2.1,app p.2.2.2.1 [k],()),true,()),a.2)))))
 af)
 af)
 af)
 af))
def Hw{U:Type}(a:(bZ×ju×aj)×U->Option ((Bool×aj)×U))(x:(bZ×ju×aj)×U)(y:dt×U):Option ((dt×U)⊕(Nat×dt×U)) :=
 ak (aL y.1.2.1<|len x.1.1.1) (ae (I3 x.1.1.1 x.1.1.2.1 x.1.2.1 y.1.2.1 y.2) λb=>ak b.1.2.1
 (ae (a ((x.1.1,b.1.1,()),b.2)) λc=>ak c.1.1
 (aa<|az (1,(true,y.1.2.1,()),c.2)) (aa<|ay ((y.1.1,aw i64 y.1.2.1 1,()),c.2)))
 (aa<|ay ((y.1.1,aw i64 y.1.2.1 1,()),b.2)))
 (aa<|az (0,(y.1.1,y.1.2.1,()),y.2))
def NO{U:Type}(a:(bZ×ju×aj)×U->Option ((Bool×aj)×U))(x:(bZ×ju×aj)×U)(w:U):Option ((Bool×aj)×U) :=
 ae (I0 x.1.1.1 x.1.1.2.1 x.1.2.1 w) (λc=>ak c.1.2.1
 (ae (a ((x.1.1,c.1.1,()),c.2)) λb=>ak b.1.1
 (aa ((true,()),b.2)) (ae (Loop (Hw a x) ((false,0,()),b.2)) λd=>ak (cm d.1 0)
 (aa ((false,()),d.2.2)) (aa ((d.2.1.1,()),d.2.2))))
 (ae (Loop (Hw a x) ((false,0,()),c.2)) λb=>ak (cm b.1 0)
 (aa ((false,()),b.2.2)) (aa ((b.2.1.1,()),b.2.2))))
def I4{U:Type}(c:ju->U->Option (Bool×aj))(d:ju->U->U)(a:(bZ×ju×aj)×U->Option ((Bool×aj)×U))(x:(bZ×ju×aj)×U):Option ((Bool×aj)×U) :=
 ae (ae (Loop (IZ x.1.1.1 x.1.2.1.2.1) ((false,0,()),())) λb=>ak (cm b.1 0)
 (aa ((aL x.1.2.1.2.2.1<|len x.1.1.2.1,()),x.2)) (aa ((b.2.1.1,()),x.2))) (λb=>ak (nt b.1.1) (ae (c x.1.2.1 b.2) λe=>ak e.1
 (aa ((true,()),d x.1.2.1 b.2)) (NO a x b.2))
 (NO a x b.2))
def jy(a:AK->Option Hu)(x:tP×(List<|Int)×aj):Option Hu:=I4 (λ_ _=>aa (true,())) (λp _=>(p.2.2.2.1,())) a x
def bU:Nat->AK->Option Hu|0,_=>af|k+1,x=>jy (bU k) x
def fM(x:AK):Option Hu:=bU 40 x
def uj(x:AK):bU 0 x=none:=rfl
def uk(k:Nat)(x:AK)(y)(h:bU (k+1) x=aa y):jy (bU k) x=aa y:=h
def uQ(x:AK)(y)(h:fM x=aa y):∃k,bU k x=aa y:=⟨40,h⟩
def Hy(x:bC×bZ×aj)(a:gk×aj):Option ((gk×aj)⊕(gk×aj)) :=
 cr (ak (aL a.1.2.1<|len x.2.1.1)
 (ae (idx x.2.1.1 a.1.2.1) λb=>aa (ay ((((ak (nt<|aD b.2.1.1 16)
 ((aw i64 a.1.1 1,()),()) ((a.1.1,()),())).1).1,aw i64 a.1.2.1 1,()),())))
 (aa<|az (0,(a.1.1,a.1.2.1,()),())))
def jz(x:bC×bZ×aj):Option ((List<|Int)×Int×aj) :=
 ae (dE (x.2.1,())) (λa=>ak (nt<|aD a.1 0)
 (ak (ak (aD a.1 0)
 true false)
 (aa (([]:List (Int)),(3:Int),())) (aa (([]:List (Int)),a.1,())))
 (ae (Loop (Hy x) (((0:Int),(0:Int),()),())) λc=>ak (aL 6 c.1.1)
 (aa (([]:List (Int)),(5:Int),())) (ak (inside 0 (len x.2.1.1)<|len x.2.1.1)
 (ak (fits<|len x.2.1.1)
 (ae (fM ((x.2.1,(x.1,lh (len x.2.1.1) false,(0:Int),([]:List (Int)),()),()),([]:List (Int)),())) λb=>ak (nt b.1.1)
 (aa (([]:List (Int)),(3:Int),())) (aa (b.2.1,(0:Int),())))
 af)
 af)))
def jA(a:(tP×aj)->Option ((Bool×aj)×aj))(x:tP×aj):Option ((Bool×aj)×aj):=I4 (λ_ _=>aa (true,())) (λ_ w=>w) a x
def bV:Nat->(tP×aj)->Option ((Bool×aj)×aj)|0,_=>af|k+1,x=>jA (bV k) x
def fN(x:(tP×aj)):Option ((Bool×aj)×aj):=bV 40 x
def uo(x:(tP×aj)):bV 0 x=none:=rfl
def uq(k:Nat)(x:(tP×aj))(y)(h:bV (k+1) x=aa y):jA (bV k) x=aa y:=h
def uR(x:(tP×aj))(y)(h:fN x=aa y):∃k,bV k x=aa y:=⟨40,h⟩
def Hz(x:bC×bZ×aj)(a:gk×aj):Option ((gk×aj)⊕(gk×aj)) :=
 cr (ak (aL a.1.2.1<|len x.2.1.1)
 (ae (idx x.2.1.1 a.1.2.1) λb=>aa (ay ((((ak (nt<|aD b.2.1.1 16)
 ((aw i64 a.1.1 1,()),()) ((a.1.1,()),())).1).1,aw i64 a.1.2.1 1,()),())))
 (aa<|az (0,(a.1.1,a.1.2.1,()),())))
def fO(x:bC×bZ×aj):Option dt :=
 ae (dE (x.2.1,())) (λa=>ak (nt<|aD a.1 0)
 (aa (false,a.1,())) (ae (Loop (Hz x) (((0:Int),(0:Int),()),())) λb=>ak (aL 6 b.1.1)
 (aa (false,(5:Int),())) (ak (inside 0 (len x.2.1.1)<|len x.2.1.1)
 (ak (fits<|len x.2.1.1)
 (ae (fN ((x.2.1,(x.1,lh (len x.2.1.1) false,(0:Int),([]:List (Int)),()),()),())) λc=>aa (c.1.1,(0:Int),())) af)
 af)))
def vF(x:aj):Option (Bool×aj) :=aa (true,())
def eh(x:bC×bZ×(List<|Int)×aj)(a:dt×ju×bC×aj):Option ((dt×ju×bC×aj)⊕(Nat×dt×ju×bC×aj)) :=
 ak (aL a.1.2.1<|len x.2.2.1) (ae (idx x.2.2.1 a.1.2.1) λc=>ae (ak (aD c<|-1)
 (ae (I0 x.2.1.1 x.2.1.2.1 a.2.1 ()) λb=>aa ((b.1.2.1,()),b.1.1,())) (ae (ak (ak (cl 0 c)
 (aL c<|len x.2.1.1) false)
 (ae (I3 x.2.1.1 x.2.1.2.1 a.2.1 c ()) λb=>aa ((b.1.2.1,()),b.1.1,())) (aa ((false,()),a.2.1,()))) λb=>aa ((b.1.1,()),b.2.1,()))) λb=>ak (nt b.1.1)
 (aa<|az (1,(false,a.1.2.1,()),b.2.1,(([]:List rI),([]:List rJ),([]:List rK),([]:List Sb),([]:List iu),()),())) (aa<|ay ((a.1.1,aw i64 a.1.2.1 1,()),b.2.1,a.2.2.1,())))
 (aa<|az (0,(a.1.1,a.1.2.1,()),a.2.1,a.2.2.1,()))
def rM(x:bC×bZ×(List<|Int)×aj):Option (bC×Bool×aj) :=
 ae (dE (x.2.1,())) (λc=>ak (nt<|aD c.1 0)
 (aa ((([]:List rI),([]:List rJ),([]:List rK),([]:List Sb),([]:List iu),()),false,())) (ak (inside 0 (len x.2.1.1)<|len x.2.1.1)
 (ak (fits<|len x.2.1.1)
 (ae (Loop (eh x) ((false,(0:Int),()),(x.1,lh (len x.2.1.1) false,(0:Int),([]:List (Int)),()),(([]:List rI),([]:List rJ),([]:List rK),([]:List Sb),([]:List iu),()),())) λa=>ak (cm a.1 0)
 (ae (ae (Loop (IZ x.2.1.1 a.2.2.1.2.1) ((false,(0:Int),()),())) λb=>ak (cm b.1 0)
 (aa ((aL a.2.2.1.2.2.1<|len x.2.1.2.1,()),())) (aa ((b.2.1.1,()),()))) λb=>ak b.1.1
 (aa ((([]:List rI),([]:List rJ),([]:List rK),([]:List Sb),([]:List iu),()),false,())) (aa (a.2.2.1.1,true,())))
 (aa (a.2.2.2.1,a.2.1.1,())))
 af)
 af))
def p7(x:bZ×aj)(d:Hv×aj)(c:Int×aaV×Int×Int×Int×aaW×aj)(a:dt×aj):Option jv :=
 ak (aL a.1.2.1 d.1.2.2.1) (ae (idx x.1.1 a.1.2.1) λb=>ak (ak (aD b.1 c.1)
 (ak (nt<|aD b.2.2.2.2.1 3)
 (cl c.2.2.1 b.2.2.2.1) true)
 false)
 (aa<|az (1,(false,a.1.2.1,()),())) (aa<|ay ((a.1.1,aw i64 a.1.2.1 1,()),())))
 (aa<|az (0,(a.1.1,a.1.2.1,()),()))
def p8(x:bZ×aj)(b:Int×aaV×Int×Int×Int×aaW×aj)(a:dt×aj):Option jv :=
 ak (aL a.1.2.1<|len x.1.2.1) (ae (ae (idx x.1.2.1 a.1.2.1) λc=>ak (aD c b.2.2.1)
 (aa true) (ae (idx x.1.2.1 a.1.2.1) λd=>ak (aD d b.2.2.2.1)
 (aa true) (ae (idx x.1.2.1 a.1.2.1) λe=>ak (aL b.2.2.1 e)
 (ak (aD b.2.2.2.2.1 3)
 (aa true) (ae (idx x.1.2.1 a.1.2.1) λf=>aa (aL f b.2.2.2.1)))
 (aa false)))) λc=>ak c
 (aa<|az (1,(false,a.1.2.1,()),())) (aa<|ay ((a.1.1,aw i64 a.1.2.1 1,()),())))
 (aa<|az (0,(a.1.1,a.1.2.1,()),()))
def iT(x:bZ×aj)(b:Hv×aj):Option ((Hv×aj)⊕(Nat×Hv×aj)) :=
 ak (aL b.1.2.2.1<|len x.1.1) (ae (idx x.1.1 b.1.2.2.1) λa=>ak (ak (nt<|ak (nt<|ak (nt<|ak (nt<|ak (nt<|cl a.2.2.1 b.1.2.1)
 (aL a.2.2.2.2.1 1) true)
 (aL 3 a.2.2.2.2.1) true)
 (ak (aD a.2.2.2.2.1 3)
 (nt<|aD a.2.2.2.1 0) false)
 true)
 (ak (nt<|aD a.2.2.2.2.1 3)
 (cl a.2.2.2.1 a.2.2.1) false)
 true)
 (ak (nt<|aD a.2.2.2.2.1 1)
 (nt<|an (aD a.2.2.2.2.2.1.1 0)<|an (bg a.2.2.2.2.2.1.2.1 ([]:bb))<|an (aD a.2.2.2.2.2.1.2.2.1 0)<|an (bg a.2.2.2.2.2.1.2.2.2.1 ([]:bb)) true) false)
 true)
 (aa<|az (1,(false,b.1.2.1,b.1.2.2.1,()),())) (ae (Loop (p7 x b a) ((b.1.1,(0:Int),()),())) λc=>ak (cm c.1 0)
 (ae (Loop (p8 x a) ((c.2.1.1,(0:Int),()),())) λd=>ak (cm d.1 0)
 (aa<|ay ((d.2.1.1,a.2.2.1,aw i64 b.1.2.2.1 1,()),())) (aa<|az (1,(d.2.1.1,a.2.2.1,b.1.2.2.1,()),())))
 (aa<|az (1,(c.2.1.1,a.2.2.1,b.1.2.2.1,()),()))))
 (aa<|az (0,(b.1.1,b.1.2.1,b.1.2.2.1,()),()))
def mf(x:bZ×aj)(a:dt×aj):Option jv :=
 ak (aL a.1.2.1<|len x.1.2.1) (ae (idx x.1.2.1 a.1.2.1) λb=>ae (idx x.1.2.1<|cG i64 a.1.2.1 1) λc=>ak (cl b c)
 (aa<|az (1,(false,a.1.2.1,()),())) (aa<|ay ((a.1.1,aw i64 a.1.2.1 1,()),())))
 (aa<|az (0,(a.1.1,a.1.2.1,()),()))
def vG(x:bZ×aj):Option (Bool×aj) :=
 ae (Loop (iT x) ((false,(0:Int),(0:Int),()),())) (λa=>ak (cm a.1 0)
 (ae (Loop (mf x) ((a.2.1.1,(1:Int),()),())) λb=>ak (cm b.1 0)
 (aa (true,())) (aa (b.2.1.1,())))
 (aa (a.2.1.1,())))
def ld(x:bZ×aj):Option (Int×aj) :=
 ae (vG (x.1,())) (λa=>ak (nt a.1)
 (aa ((1:Int),())) (aa ((0:Int),())))
def kH(x:cH×aj):Option (Bool×aj) :=aa (aD x.1.2.2.2.2.1 1,())
def lf(x:cH×aj):Option (Int×aj) :=ak (aD x.1.2.2.2.2.1 3) (aa ((9223372036854775807:Int),())) (aa (x.1.2.2.2.1,()))
def p9(x:(List cH)×(List<|Int)×(List<|Bool)×Int×aj)(a:dt×aj):Option jv :=
 ak (aL a.1.2.1<|len x.1) (ae (ae (idx x.2.2.1 a.1.2.1) λb=>ak (nt b)
 (ae (idx x.1 a.1.2.1) λc=>ae (kH (c,())) λd=>ak d.1
 (ae (idx x.1 a.1.2.1) λe=>ae (lf (e,())) λf=>ae (idx x.2.1 x.2.2.2.1) λg=>aa (aL f.1 g)) (aa false))
 (aa false)) λb=>ak b
 (aa<|az (1,(false,a.1.2.1,()),())) (aa<|ay ((a.1.1,aw i64 a.1.2.1 1,()),())))
 (aa<|az (0,(a.1.1,a.1.2.1,()),()))
def qM(x:(List cH)×(List<|Int)×(List<|Bool)×Int×aj):Option (Bool×aj) :=
 ak (cl (len x.2.1) x.2.2.2.1) (aa (false,())) (ae (Loop (p9 x) ((false,(0:Int),()),())) λa=>ak (cm a.1 0)
 (aa (true,())) (aa (a.2.1.1,())))
def rN(x:(List cH)×(List<|Int)×(List<|Bool)×Int×Int×aj)(a:dt×aj):Option jv :=
 ak (aL a.1.2.1<|len x.1) (ae (ae (idx x.2.2.1 a.1.2.1) λb=>ak (nt b)
 (ak (nt<|aD a.1.2.1 x.2.2.2.2.1)
 (ae (idx x.1 a.1.2.1) λd=>ae (kH (d,())) λe=>ak e.1
 (ae (idx x.1 a.1.2.1) λf=>ae (lf (f,())) λg=>ae (idx x.1 x.2.2.2.2.1) λc=>aa (aL g.1 c.2.2.1)) (aa false))
 (aa false))
 (aa false)) λb=>ak b
 (aa<|az (1,(false,a.1.2.1,()),())) (aa<|ay ((a.1.1,aw i64 a.1.2.1 1,()),())))
 (aa<|az (0,(a.1.1,a.1.2.1,()),()))
def tU(x:(List cH)×(List<|Int)×(List<|Bool)×Int×Int×aj):Option (Bool×aj) :=
 ae (idx x.2.2.1 x.2.2.2.2.1) (λd=>ak d
 (aa (false,())) (ae (ak (aL x.2.2.2.1<|len x.2.1)
 (ae (idx x.1 x.2.2.2.2.1) λc=>ae (idx x.2.1 x.2.2.2.1) λa=>aa (aL a c.2.2.1)) (aa false)) λc=>ak c
 (aa (false,())) (ae (ak (aL 0 x.2.2.2.1)
 (ae (idx x.1 x.2.2.2.2.1) λa=>ae (lf (a,())) λb=>ae (idx x.2.1<|cG i64 x.2.2.2.1 1) λe=>aa (aL b.1 e)) (aa false)) λa=>ak a
 (aa (false,())) (ae (Loop (rN x) ((false,(0:Int),()),())) λb=>ak (cm b.1 0)
 (aa (true,())) (aa (b.2.1.1,()))))))
def rP(x:(List<|Bool)×(List cH)×Int×aj)(a:(Int×aj×aj)×(List<|Bool)×aj):Option (((Int×aj×aj)×(List<|Bool)×aj)⊕((Int×aj×aj)×(List<|Bool)×aj)) :=
 cr (ak (ak (aL a.1.1<|len x.2.1)
 (aL a.1.1<|len a.2.1) false)
 (ae (ak (nt<|aD a.1.1 x.2.2.1)
 (ae (idx x.2.1 a.1.1) λc=>ae (kH (c,())) λb=>ak (nt b.1)
 (ae (idx x.2.1 a.1.1) λd=>ae (lf (d,())) λe=>ae (idx x.2.1 x.2.2.1) λf=>aa (aL e.1 f.2.2.1)) (aa false))
 (aa false)) λc=>ae (ak c (ak (within a.1.1<|len a.2.1)
 (ae (idx a.2.1 a.1.1) λb=>ae (idx a.2.1 a.1.1) λd=>ae (idx a.2.1 a.1.1) λe=>aa (((),()),kO a.2.1 a.1.1 true,())) af)
 (aa (((),()),a.2.1,()))) λb=>aa (ay ((aw i64 a.1.1 1,(),()),b.2.1,())))
 (aa<|az (0,(a.1.1,(),()),a.2.1,())))
def qa(x:(List<|Bool)×(List cH)×Int×aj):Option ((List<|Bool)×aj) :=
 ak (fits<|plus (len ([]:List (Bool)))<|len x.1) (ak (within x.2.2.1<|len<|app ([]:List (Bool)) x.1)
 (ae (idx (app ([]:List (Bool)) x.1) x.2.2.1) λb=>ae (idx (app ([]:List (Bool)) x.1) x.2.2.1) λc=>ae (idx (app ([]:List (Bool)) x.1) x.2.2.1) λd=>ae (Loop (rP x) (((0:Int),(),()),kO (app ([]:List (Bool)) x.1) x.2.2.1 true,())) λa=>aa (a.2.1,())) af)
 af
def rQ(x:(List cH)×(List<|Int)×(List<|Bool)×Int×aj)(a:dt×aj):Option jv :=
 ak (aL a.1.2.1<|len x.1) (ae (idx x.2.2.1 a.1.2.1) λc=>ae (ak (nt c)
 (ae (idx x.1 a.1.2.1) λb=>ae (kH (b,())) λd=>aa d.1) (aa false)) λb=>ak b
 (aa<|az (1,(false,a.1.2.1,()),())) (aa<|ay ((a.1.1,aw i64 a.1.2.1 1,()),())))
 (aa<|az (0,(a.1.1,a.1.2.1,()),()))
def tV(x:(List cH)×(List<|Int)×(List<|Bool)×Int×aj):Option (Bool×aj) :=
 ae (Loop (rQ x) ((false,(0:Int),()),())) (λa=>ak (cm a.1 0)
 (aa (cl (len x.2.1) x.2.2.2.1,())) (aa (a.2.1.1,())))
def eN(x:bC×bZ×(List<|Int)×aj)(a:NN×bC×bC×aj):Option ((NN×bC×bC×aj)⊕afH) :=
 ak (aL a.1.2.2.2.1<|len x.2.2.1) (ae (idx x.2.2.1 a.1.2.2.2.1) λc=>ak (aD c<|-1)
 (ae (qM (x.2.1.1,x.2.1.2.1,a.1.2.1,a.1.2.2.1,())) λe=>ak (nt e.1)
 (aa<|az (1,(false,a.1.2.1,a.1.2.2.1,a.1.2.2.2.1,()),(([]:List rI),([]:List rJ),([]:List rK),([]:List Sb),([]:List iu),()),a.2.2.1,())) (aa<|ay ((a.1.1,a.1.2.1,aw i64 a.1.2.2.1 1,aw i64 a.1.2.2.2.1 1,()),a.2.1,(a.2.2.1.1,a.2.2.1.2.1,a.2.2.1.2.2.1,a.2.2.1.2.2.2.1,([]:List iu),a.2.2.1.2.2.2.2.2),())))
 (ae (ak (nt<|ak (nt<|aL c 0)
 (cl (len x.2.1.1) c) true)
 (ae (tU (x.2.1.1,x.2.1.2.1,a.1.2.1,a.1.2.2.1,c,())) λe=>aa (nt e.1)) (aa true)) λe=>ak e
 (aa<|az (1,(false,a.1.2.1,a.1.2.2.1,a.1.2.2.2.1,()),(([]:List rI),([]:List rJ),([]:List rK),([]:List Sb),([]:List iu),()),a.2.2.1,())) (ae (idx x.2.1.1 c) λi=>ae (yw (a.2.2.1,i.2.1,())) λb=>ae (idx x.2.1.1 c) λf=>ae (ae (idx x.2.1.1 c) λg=>ae (kH (g,())) λh=>ak h.1
 (ae (idx x.2.1.1 c) λd=>aa (nt<|an (aD ((((ak (aD f.2.1.1 16)
 ((),((0:Int),([]:bb),(0:Int),([]:bb),()),a.2.2.1,()) ((),b.2.1,b.1,())).2).1).1) d.2.2.2.2.2.1.1)<|an (bg (((((ak (aD f.2.1.1 16)
 ((),((0:Int),([]:bb),(0:Int),([]:bb),()),a.2.2.1,()) ((),b.2.1,b.1,())).2).1).2).1) d.2.2.2.2.2.1.2.1)<|an (aD ((((((ak (aD f.2.1.1 16)
 ((),((0:Int),([]:bb),(0:Int),([]:bb),()),a.2.2.1,()) ((),b.2.1,b.1,())).2).1).2).2).1) d.2.2.2.2.2.1.2.2.1)<|an (bg (((((((ak (aD f.2.1.1 16)
 ((),((0:Int),([]:bb),(0:Int),([]:bb),()),a.2.2.1,()) ((),b.2.1,b.1,())).2).1).2).2).2).1) d.2.2.2.2.2.1.2.2.2.1) true))
 (aa false)) λg=>ak g
 (aa<|az (1,(false,a.1.2.1,a.1.2.2.1,a.1.2.2.2.1,()),(([]:List rI),([]:List rJ),([]:List rK),([]:List Sb),([]:List iu),()),a.2.2.1,())) (ae (qa (a.1.2.1,x.2.1.1,c,())) λh=>aa (ay ((a.1.1,h.1,a.1.2.2.1,aw i64 a.1.2.2.2.1 1,()),a.2.1,(((ak (aD f.2.1.1 16)
 ((),((0:Int),([]:bb),(0:Int),([]:bb),()),a.2.2.1,()) ((),b.2.1,b.1,())).2).2).1,()))))))
 (aa<|az (0,(a.1.1,a.1.2.1,a.1.2.2.1,a.1.2.2.2.1,()),a.2.1,a.2.2.1,()))
def tW(x:bC×bZ×(List<|Int)×aj):Option (bC×Bool×aj) :=
 ae (ld (x.2.1,())) (λb=>ak (nt<|aD b.1 0)
 (aa ((([]:List rI),([]:List rJ),([]:List rK),([]:List Sb),([]:List iu),()),false,())) (ak (inside 0 (len x.2.1.1)<|len x.2.1.1)
 (ak (fits<|len x.2.1.1)
 (ae (Loop (eN x) ((false,lh (len x.2.1.1) false,(0:Int),(0:Int),()),(([]:List rI),([]:List rJ),([]:List rK),([]:List Sb),([]:List iu),()),x.1,())) λa=>ak (cm a.1 0)
 (ae (tV (x.2.1.1,x.2.1.2.1,a.2.1.2.1,a.2.1.2.2.1,())) λc=>ak (nt c.1)
 (aa ((([]:List rI),([]:List rJ),([]:List rK),([]:List Sb),([]:List iu),()),false,())) (aa (a.2.2.2.1,true,())))
 (aa (a.2.2.1,a.2.1.1,())))
 af)
 af))
def eT(x:(List Hs)×(List Hs)×aj)(a:dt×aj):Option jv :=
 ak (aL a.1.2.1<|len x.1) (ae (idx x.1 a.1.2.1) λb=>ae (idx x.2.1 a.1.2.1) λc=>ak (nt<|an (bg b.1 c.1)<|an (bg b.2.1 c.2.1)<|an (bg b.2.2.1 c.2.2.1) true)
 (aa<|az (1,(false,a.1.2.1,()),())) (aa<|ay ((a.1.1,aw i64 a.1.2.1 1,()),())))
 (aa<|az (0,(a.1.1,a.1.2.1,()),()))
def dZ(x:(List Hs)×(List Hs)×aj):Option (Bool×aj) :=
 ak (nt<|aD (len x.1)<|len x.2.1) (aa (false,())) (ae (Loop (eT x) ((false,(0:Int),()),())) λa=>ak (cm a.1 0)
 (aa (true,())) (aa (a.2.1.1,())))
def rR(x:rI×rI×aj):Option (Bool×aj) :=
 ae (ak (bg x.1.1 x.2.1.1)
 (ae (bG (x.1.2.1,x.2.1.2.1,())) λa=>aa a.1) (aa false)) (λa=>ae (ak (ak (ak (ak a
 (bg x.1.2.2.1 x.2.1.2.2.1) false)
 (bg x.1.2.2.2.1 x.2.1.2.2.2.1) false)
 (bg x.1.2.2.2.2.1 x.2.1.2.2.2.2.1) false)
 (ae (dZ (x.1.2.2.2.2.2.1,x.2.1.2.2.2.2.2.1,())) λb=>aa b.1) (aa false)) λb=>aa (b,()))
def rS(x:rJ×rJ×aj):Option (Bool×aj) :=
 ae (ak (bg x.1.1 x.2.1.1)
 (ae (bG (x.1.2.1,x.2.1.2.1,())) λa=>aa a.1) (aa false)) (λa=>ae (ak (ak (ak a
 (bg x.1.2.2.1 x.2.1.2.2.1) false)
 (bg x.1.2.2.2.1 x.2.1.2.2.2.1) false)
 (ae (dZ (x.1.2.2.2.2.1,x.2.1.2.2.2.2.1,())) λb=>aa b.1) (aa false)) λb=>aa (b,()))
def rT(x:rK×rK×aj):Option (Bool×aj) :=
 ae (ak (ak (bg x.1.1 x.2.1.1)
 (bg x.1.2.1 x.2.1.2.1) false)
 (ae (bG (x.1.2.2.1,x.2.1.2.2.1,())) λa=>aa a.1) (aa false)) (λa=>aa (ak (ak (ak (ak a
 (bg x.1.2.2.2.1 x.2.1.2.2.2.1) false)
 (aD x.1.2.2.2.2.1 x.2.1.2.2.2.2.1) false)
 (aD x.1.2.2.2.2.2.1 x.2.1.2.2.2.2.2.1) false)
 (Yc x.1.2.2.2.2.2.2.1 x.2.1.2.2.2.2.2.2.1) false,()))
def eD(x:(List iu)×(List iu)×aj)(a:dt×aj):Option jv :=
 ak (aL a.1.2.1<|len x.1) (ae (idx x.1 a.1.2.1) λb=>ae (idx x.2.1 a.1.2.1) λc=>ak (nt<|an (bg b.1 c.1)<|an (aD b.2.1 c.2.1) true)
 (aa<|az (1,(false,a.1.2.1,()),())) (aa<|ay ((a.1.1,aw i64 a.1.2.1 1,()),())))
 (aa<|az (0,(a.1.1,a.1.2.1,()),()))
def fb(x:(List iu)×(List iu)×aj):Option (Bool×aj) :=
 ak (nt<|aD (len x.1)<|len x.2.1) (aa (false,())) (ae (Loop (eD x) ((false,(0:Int),()),())) λa=>ak (cm a.1 0)
 (aa (true,())) (aa (a.2.1.1,())))
def wM(x:bC×bC×aj)(a:dt×aj):Option jv :=
 ak (aL a.1.2.1<|len x.1.1) (ae (idx x.1.1 a.1.2.1) λb=>ae (idx x.2.1.1 a.1.2.1) λc=>ae (rR (b,c,())) λd=>ak (nt d.1)
 (aa<|az (1,(false,a.1.2.1,()),())) (aa<|ay ((a.1.1,aw i64 a.1.2.1 1,()),())))
 (aa<|az (0,(a.1.1,a.1.2.1,()),()))
def wN(x:bC×bC×aj)(a:dt×aj):Option jv :=
 ak (aL a.1.2.1<|len x.1.2.1) (ae (idx x.1.2.1 a.1.2.1) λb=>ae (idx x.2.1.2.1 a.1.2.1) λc=>ae (rS (b,c,())) λd=>ak (nt d.1)
 (aa<|az (1,(false,a.1.2.1,()),())) (aa<|ay ((a.1.1,aw i64 a.1.2.1 1,()),())))
 (aa<|az (0,(a.1.1,a.1.2.1,()),()))
def wO(x:bC×bC×aj)(a:dt×aj):Option jv :=
 ak (aL a.1.2.1<|len x.1.2.2.1) (ae (idx x.1.2.2.1 a.1.2.1) λb=>ae (idx x.2.1.2.2.1 a.1.2.1) λc=>ae (rT (b,c,())) λd=>ak (nt d.1)
 (aa<|az (1,(false,a.1.2.1,()),())) (aa<|ay ((a.1.1,aw i64 a.1.2.1 1,()),())))
 (aa<|az (0,(a.1.1,a.1.2.1,()),()))
def tX(x:bC×bC×aj):Option (Bool×aj) :=
 ae (ak (nt<|aD (len x.1.1)<|len x.2.1.1)
 (aa ((false,()),())) (ae (Loop (wM x) ((false,(0:Int),()),())) λa=>ak (cm a.1 0)
 (aa ((true,()),())) (aa ((a.2.1.1,()),())))) (λa=>ae (ak (nt<|aD (len x.1.2.1)<|len x.2.1.2.1) (aa ((false,()),())) (ae (Loop (wN x) ((false,(0:Int),()),())) λb=>ak (cm b.1 0)
 (aa ((true,()),())) (aa ((b.2.1.1,()),())))) λb=>ae (ak (nt<|aD (len x.1.2.2.1)<|len x.2.1.2.2.1)
 (aa ((false,()),())) (ae (Loop (wO x) ((false,(0:Int),()),())) λc=>ak (cm c.1 0)
 (aa ((true,()),())) (aa ((c.2.1.1,()),())))) λc=>ae (ak (ak (ak a.1.1
 b.1.1 false)
 c.1.1 false)
 (ae (bG (x.1.2.2.2.1,x.2.1.2.2.2.1,())) λd=>aa d.1) (aa false)) λd=>ae (ak d (ae (fb (x.1.2.2.2.2.1,x.2.1.2.2.2.2.1,())) λe=>aa e.1) (aa false)) λe=>aa (e,()))
def jX(a:AJ->Option Ht)(x:tP×bC×aj):Option Ht:=I4 (λp w=>tX (p.1,w.1,())) (λ_ w=>w) a x
def cE:Nat->AJ->Option Ht|0,_=>af|k+1,x=>jX (cE k) x
def jY(x:AJ):Option Ht:=cE 40 x
def uS(x:AJ):cE 0 x=none:=rfl
def uT(k:Nat)(x:AJ)(y)(h:cE (k+1) x=aa y):jX (cE k) x=aa y:=h
def we(x:AJ)(y)(h:jY x=aa y):∃k,cE k x=aa y:=⟨40,h⟩
def I5(x:bC×bZ×bC×aj)(a:gk×aj):Option ((gk×aj)⊕(gk×aj)) :=
 cr (ak (aL a.1.2.1<|len x.2.1.1)
 (ae (idx x.2.1.1 a.1.2.1) λb=>aa (ay ((((ak (nt<|aD b.2.1.1 16)
 ((aw i64 a.1.1 1,()),()) ((a.1.1,()),())).1).1,aw i64 a.1.2.1 1,()),())))
 (aa<|az (0,(a.1.1,a.1.2.1,()),())))
def qN(x:bC×bZ×bC×aj):Option dt :=
 ae (dE (x.2.1,())) (λa=>ak (nt<|aD a.1 0)
 (aa (false,a.1,())) (ae (Loop (I5 x) (((0:Int),(0:Int),()),())) λb=>ak (aL 6 b.1.1)
 (aa (false,(5:Int),())) (ak (inside 0 (len x.2.1.1)<|len x.2.1.1)
 (ak (fits<|len x.2.1.1)
 (ae (jY ((x.2.1,(x.1,lh (len x.2.1.1) false,(0:Int),([]:List (Int)),()),()),x.2.2.1,())) λc=>aa (c.1.1,(0:Int),())) af)
 af)))
def Ll(x:bZ×aj)(a:gk×aj):Option ((gk×aj)⊕(gk×aj)) :=
 cr (ak (aL a.1.2.1<|len x.1.1)
 (ae (idx x.1.1 a.1.2.1) λb=>aa (ay ((((ak (nt<|aD b.2.1.1 16)
 ((aw i64 a.1.1 1,()),()) ((a.1.1,()),())).1).1,aw i64 a.1.2.1 1,()),())))
 (aa<|az (0,(a.1.1,a.1.2.1,()),())))
def HA(x:bZ×aj):Option (Bool×aj) :=ae (Loop (Ll x) (((0:Int),(0:Int),()),())) (λa=>aa (aL 6 a.1.1,()))
def hH(d:wc->Option (Bool×aj))(x:bC×(List cH)×(List<|Int)×(List<|Bool)×Int×(List bC)×aj)(a:dt×aj):Option jv :=
 ak (ak (aL a.1.2.1<|len x.2.1)
 (aL a.1.2.1<|len x.2.2.2.1) false)
 (ae (tU (x.2.1,x.2.2.1,x.2.2.2.1,x.2.2.2.2.1,a.1.2.1,())) λi=>ak (nt i.1)
 (aa<|ay ((a.1.1,aw i64 a.1.2.1 1,()),())) (ae (idx x.2.1 a.1.2.1) λj=>ae (yw (x.1,j.2.1,())) λc=>ae (idx x.2.1 a.1.2.1) λf=>ae (idx x.2.1 a.1.2.1) λk=>ae (kH (k,())) λg=>ak g.1
 (ae (idx x.2.1 a.1.2.1) λb=>ak (nt<|an (aD ((((ak (aD f.2.1.1 16)
 ((),((0:Int),([]:bb),(0:Int),([]:bb),()),x.1,()) ((),c.2.1,c.1,())).2).1).1) b.2.2.2.2.2.1.1)<|an (bg (((((ak (aD f.2.1.1 16)
 ((),((0:Int),([]:bb),(0:Int),([]:bb),()),x.1,()) ((),c.2.1,c.1,())).2).1).2).1) b.2.2.2.2.2.1.2.1)<|an (aD ((((((ak (aD f.2.1.1 16)
 ((),((0:Int),([]:bb),(0:Int),([]:bb),()),x.1,()) ((),c.2.1,c.1,())).2).1).2).2).1) b.2.2.2.2.2.1.2.2.1)<|an (bg (((((((ak (aD f.2.1.1 16)
 ((),((0:Int),([]:bb),(0:Int),([]:bb),()),x.1,()) ((),c.2.1,c.1,())).2).1).2).2).2).1) b.2.2.2.2.2.1.2.2.2.1) true)
 (aa<|ay ((a.1.1,aw i64 a.1.2.1 1,()),())) (ae (qa (x.2.2.2.1,x.2.1,a.1.2.1,())) λe=>ae (d ((((ak (aD f.2.1.1 16)
 ((),((0:Int),([]:bb),(0:Int),([]:bb),()),x.1,()) ((),c.2.1,c.1,())).2).2).1,x.2.1,x.2.2.1,e.1,x.2.2.2.2.1,x.2.2.2.2.2.1,())) λh=>ak h.1
 (aa<|az (1,(true,a.1.2.1,()),())) (aa<|ay ((a.1.1,aw i64 a.1.2.1 1,()),()))))
 (ae (qa (x.2.2.2.1,x.2.1,a.1.2.1,())) λb=>ae (d ((((ak (aD f.2.1.1 16)
 ((),((0:Int),([]:bb),(0:Int),([]:bb),()),x.1,()) ((),c.2.1,c.1,())).2).2).1,x.2.1,x.2.2.1,b.1,x.2.2.2.2.1,x.2.2.2.2.2.1,())) λe=>ak e.1
 (aa<|az (1,(true,a.1.2.1,()),())) (aa<|ay ((a.1.1,aw i64 a.1.2.1 1,()),())))))
 (aa<|az (0,(a.1.1,a.1.2.1,()),()))
def qb(a:wc->Option (Bool×aj))(x:bC×(List cH)×(List<|Int)×(List<|Bool)×Int×(List bC)×aj):Option (Bool×aj) :=
 ae (qM (x.2.1,x.2.2.1,x.2.2.2.1,x.2.2.2.2.1,())) (λd=>ae (ak d.1
 (ae (a ((x.1.1,x.1.2.1,x.1.2.2.1,x.1.2.2.2.1,([]:List iu),x.1.2.2.2.2.2),x.2.1,x.2.2.1,x.2.2.2.1,aw i64 x.2.2.2.2.1 1,x.2.2.2.2.2.1,())) λb=>ak b.1
 (aa (1,(true,()),())) (aa (0,(false,()),())))
 (aa (0,(false,()),()))) λb=>ak (cm b.1 0)
 (ae (Loop (hH a x) ((b.2.1.1,(0:Int),()),())) λc=>ak (cm c.1 0)
 (aa (false,())) (aa (c.2.1.1,())))
 (aa (b.2.1.1,())))
def mg(a:wc->Option (Bool×aj))(x:bC×(List cH)×(List<|Int)×(List<|Bool)×Int×(List bC)×aj):Option (Bool×aj) :=
 ae (tV (x.2.1,x.2.2.1,x.2.2.2.1,x.2.2.2.2.1,())) (λb=>ak b.1
 (ak (aD (len x.2.2.2.2.2.1) 0)
 (aa (true,())) (ae (idx x.2.2.2.2.2.1 (0:Int)) λc=>ae (mP (x.1,c,())) λd=>ak d.1
 (aa (true,())) (qb a x)))
 (qb a x))
def eU:Nat->wc->Option (Bool×aj)|0,_=>af|k+1,x=>mg (eU k) x
def yx(x:wc):Option (Bool×aj):=eU 40 x
def EJ(x:wc):eU 0 x=none:=rfl
def EK(k:Nat)(x:wc)(y)(h:eU (k+1) x=aa y):mg (eU k) x=aa y:=h
def FV(x:wc)(y)(h:yx x=aa y):∃k,eU k x=aa y:=⟨40,h⟩
def oy(x:bC×bZ×(List bC)×aj)(a:(aj×Int×Int×aj)×(List cH)×aj):Option (((aj×Int×Int×aj)×(List cH)×aj)⊕((aj×Int×Int×aj)×(List cH)×aj)) :=
 cr (ak (aL a.1.2.2.1<|len x.2.1.1)
 (ae (idx x.2.1.1 a.1.2.2.1) λb=>ak (fits<|plus (len a.2.1)<|len ([b]:List cH))
 (ae (idx x.2.1.1 a.1.2.2.1) λc=>aa (ay (((),((ak (nt<|aD c.2.1.1 16)
 ((aw i64 a.1.2.1 1,()),()) ((a.1.2.1,()),())).1).1,aw i64 a.1.2.2.1 1,()),app a.2.1 ([b]:List cH),())))
 af)
 (aa<|az (0,((),a.1.2.1,a.1.2.2.1,()),a.2.1,())))
def yy(x:bC×bZ×(List bC)×aj):Option (Bool×aj) :=
 ae (Loop (oy x) (((),(0:Int),(0:Int),()),([]:List cH),())) (λa=>ak (aL 6 a.1.2.1)
 (aa (false,())) (ak (inside 0 (len a.2.1)<|len a.2.1)
 (ak (fits<|len a.2.1)
 (ae (yx (x.1,a.2.1,x.2.1.2.1,lh (len a.2.1) false,(0:Int),x.2.2.1,())) λb=>aa (b.1,())) af)
 af))
def C4(x:bC×bZ×(List bC)×aj):Option (Bool×aj) :=ae (yy (x.1,x.2.1,x.2.2.1,())) (λa=>aa (a.1,()))
def vH(x:bC×bZ×(List bC)×aj):Option dt :=
 ae (ld (x.2.1,())) (λa=>ak (nt<|aD a.1 0)
 (aa (false,a.1,())) (ae (HA (x.2.1,())) λb=>ak b.1
 (aa (false,(5:Int),())) (ae (C4 (x.1,x.2.1,x.2.2.1,())) λc=>aa (c.1,(0:Int),()))))
def qc(x:bC×bC×bZ×aj):Option (Bool×aj) :=
 ae (C3 (x.1,x.2.2.1,())) (λk=>ae (ak (nt<|nt k.1)
 (ae (wb (x.2.1,())) λf=>aa (nt f.1)) (aa true)) λf=>ak f
 (ae (vF ()) λa=>aa (a.1,())) (ae (fO (x.1,x.2.2.1,())) λa=>ae (vH (x.1,x.2.2.1,([]:List bC),())) λg=>ae (qN (x.1,x.2.2.1,x.2.1,())) λh=>ae (vH (x.1,x.2.2.1,([x.2.1]:List bC),())) λi=>ak (ak (nt<|ak (nt<|ak (nt<|nt<|Yc a.1 g.1)
 (nt<|aD a.2.1 g.2.1) true)
 (nt<|Yc h.1 i.1) true)
 (nt<|aD h.2.1 i.2.1) true)
 (aa (false,())) (ae (jz (x.1,x.2.2.1,())) λd=>ak (nt a.1)
 (ae (ak (ak (aD (len d.1) 0)
 (ak (nt<|ak (aD a.2.1 0)
 (aD d.2.1 3) false)
 (ak (nt<|aD a.2.1 0)
 (aD d.2.1 a.2.1) false)
 true)
 false)
 (ae (vF ()) λe=>aa e.1) (aa false)) λe=>aa (e,()))
 (ae (tW (x.1,x.2.2.1,d.1,())) λe=>ae (rM (x.1,x.2.2.1,d.1,())) λj=>ae (ak (ak (ak (aD d.2.1 0)
 e.2.1 false)
 j.2.1 false)
 (ae (mP (e.1,j.1,())) λb=>aa b.1) (aa false)) λb=>ae (ak b (ae (vF ()) λc=>aa c.1) (aa false)) λc=>aa (c,())))))
end Go.Ge
namespace Go.Ge
variable [Lp]
def eV{a b}(h:-9223372036854775808<=a+b)(c:a+b<=9223372036854775807):aw .i64 a b=a+b:=by unfold aw;simp[IntKind.wrap,IntKind.signed,IntKind.bits];omega
def du{a b}(h:-9223372036854775808<=a-b)(c:a-b<=9223372036854775807):cG .i64 a b=a-b:=by unfold cG;simp[IntKind.wrap,IntKind.signed,IntKind.bits];omega
def C5{a b}(h:-9223372036854775808<=a*b)(c:a*b<=9223372036854775807):lg .i64 a b=a*b:=by unfold lg;simp[IntKind.wrap,IntKind.signed,IntKind.bits];omega
def xE{a}(h:-9223372036854775808<=a)(b:a<=9223372036854775807):lj .i64 a=a:=by unfold lj;simp[IntKind.wrap,IntKind.signed,IntKind.bits];omega
def aid{a}(h:0<=a)(b:a<=18446744073709551615):lj .u64 a=a:=by unfold lj;simp[IntKind.wrap,IntKind.signed,IntKind.bits];omega
def akh(a:Int):lj .u8 a=a % 256:=by unfold lj;simp[IntKind.wrap,IntKind.min,IntKind.max,IntKind.signed,IntKind.bits]
def wrap_u32 a:IntKind.wrap .u32 a=a % 4294967296:=by simp[IntKind.wrap,IntKind.signed,IntKind.bits]
def Bv(x:Int):BitVec 32:=BitVec.ofInt 32 x
def Can(x:Int):Prop:=0<=x/\x<4294967296
def Wj a:Can (IntKind.wrap .u32 a):=by rw[wrap_u32];unfold Can;omega
def yz a:((Bv a).toNat:Int)=a % 4294967296:=by unfold Bv;rw[ael];have:0<=a % ((2 ^ 32:Nat):Int):=Int.emod_nonneg _ aF;rw[aek this];rfl
def aie{a b}(c:Can a)(d:Can b)(h:Bv a=Bv b):a=b:=by have e:=yz a;have f:=yz b;rw[h] at e;unfold Can at c d;omega
def LY a:Bv (IntKind.wrap .u32 a)=Bv a:=by apply aeg;have c:=yz a;have b:=yz (IntKind.wrap .u32 a);rw[wrap_u32] at b⊢;omega
def Zc v:Bv (v.toNat:Int)=v:=by apply aeg;have a:=yz v.toNat;omega
def bv_and x y:Bv (hL .u32 x y)=Bv x &&& Bv y:=by unfold hL;rw[LY];apply Zc
def aaX x y:Bv (A5 .u32 x y)=Bv x ||| Bv y:=by unfold A5;rw[LY];apply Zc
def afJ x y:Bv (gQ .u32 x y)=Bv x ^^^ Bv y:=by unfold gQ;rw[LY];apply Zc
def NP x y:Can (A5 .u32 x y):=Wj _
def TL x y:Can (gQ .u32 x y):=Wj _
def Zd x (n:Nat) (hn:n<=32):Bv (oD .u32 x n)=Bv x <<< n:=by
 unfold oD;rw[LY];apply aeg;have a:=yz (x*2 ^ (min (n:Int).toNat IntKind.u32.bits));have e:min (n:Int).toNat IntKind.u32.bits=n:=by simp[IntKind.bits];omega
 rw[e] at a⊢;rw[BitVec.toNat_shiftLeft];have b:(((Bv x).toNat*2 ^ n % 2 ^ 32:Nat):Int)=(x*2 ^ n) % 4294967296:=by rw[Int.natCast_emod,Int.natCast_mul,(yz x)];show(x % 4294967296*2 ^ n) % 4294967296=_;rw[Int.mul_emod,Int.emod_emod_of_dvd _ (Int.dvd_refl _),<-Int.mul_emod]
 omega
def Ze x y:A5 .u32 x y=A5 .u32 y x:=aie (NP _ _) (NP _ _) (by rw[aaX,aaX,BitVec.or_comm])
def Wk x y:aw .u32 x y=aw .u32 y x:=by unfold aw;rw[Int.add_comm]
def al5 e f g:gQ .u32 g (hL .u32 e<|gQ .u32 f g)=gQ .u32 (hL .u32 e f) (hL .u32 (gQ .u32 4294967295 e) g):=by refine aie (TL _ _) (TL _ _) ?_;simp only[afJ,bv_and];have h:Bv 4294967295=BitVec.allOnes 32:=aF;rw[h];ext i hi;simp only[BitVec.getElem_xor,BitVec.getElem_and,BitVec.getElem_allOnes];cases (Bv e)[i]<;>cases (Bv f)[i]<;>cases (Bv g)[i]<;>rfl
def aki a b c:A5 .u32 (hL .u32 a b) (hL .u32 c<|A5 .u32 a b)=gQ .u32 (gQ .u32 (hL .u32 a b)<|hL .u32 a c) (hL .u32 b c):=by refine aie (NP _ _) (TL _ _) ?_;simp only[afJ,bv_and,aaX];ext i hi;simp;cases (Bv a)[i]<;>cases (Bv b)[i]<;>cases (Bv c)[i]<;>rfl
def aif a b c d:A5 .u32 (oD .u32 (A5 .u32 (oD .u32 (A5 .u32 (oD .u32 (A5 .u32 (oD .u32 0 8) a) 8) b) 8) c) 8) d=A5 .u32 (A5 .u32 (A5 .u32 (oD .u32 a 24)<|oD .u32 b 16)<|oD .u32 c 8) d:=by refine aie (NP _ _) (NP _ _) ?_;have g:∀x,Bv (oD .u32 x 8)=Bv x <<< 8:=λx=>Zd x 8 aF;have e:∀x,Bv (oD .u32 x 16)=Bv x <<< 16:=λx=>Zd x 16 aF;have f:∀x,Bv (oD .u32 x 24)=Bv x <<< 24:=λx=>Zd x 24 aF;simp only[aaX,g,e,f];simp[BitVec.shiftLeft_or_distrib]
def aH{a b}(h:a<b):aL a b=true:=by simp[aL,h]
def aB{a b}(h:b<=a):aL a b=false:=by simp[aL];omega
def bA{a b}(h:a<=b):cl a b=true:=by simp[cl,h]
def cO{a b}(h:b<a):cl a b=false:=by simp[cl];omega
def au{a b}(h:a=b):aD a b=true:=by simp[aD,h]
def ar{a b}(h:a≠b):aD a b=false:=by simp[aD,h]
def aG{i n}(a:0<=i)(b:i<n):within i n=true:=by simp[within,a,b]
def aM{i j n}(a:0<=i)(b:i<=j)(c:j<=n):inside i j n=true:=by simp[inside,a,b,c]
def ea{n}(h:n<=4294967296):fits n=true:=by simp[fits,h]
def kI{S} s:cr (aa (.inl s:S⊕(Nat×S)))=aa (.inl s):=rfl
def nB{S} n s:cr (aa (.inr (n,s):S⊕(Nat×S)))=aa (.inr s):=rfl
def fP{α}(l:List α) d {i} (h:i<l.length):idx l i=aa (l.getD i d):=by rw[s6,aje,ft h];rfl
def n7{α}(l:List α) d {i:Int} {k:Nat} (e:i=k) (h:k<l.length):idx l i=aa (l.getD k d):=by subst e;exact fP l d h
def C6{α}(l:List α)(i:Nat) x:kO l i x=l.set i x:=by simp[kO]
def wg{d c R:Type}(a:Nat->c->d->Option (c⊕R))(b:Nat->c->R):List d->Nat->c->Option R|[],i,s=>aa (b i s)|x::r,i,s=>match a i s x with|none=>af|some (.inl e)=>wg a b r (i+1) e|some (.inr y)=>aa y
def qO{α σ S R}{f:S->Option (S⊕R)}(l:List α)(j:σ->Nat->S) step fin (Inv:Nat->σ->Prop)
  (c:∀s i x,l[i]?=aa x->i<l.length->Inv i s->f (j s i)=(step i s x).map λq=>match q with|.inl d=>.inl (j d<|i+1)|.inr y=>.inr y) (hinv:∀s i x d,l[i]?=aa x->Inv i s->step i s x=aa (.inl d)->Inv (i+1) d) (k:∀s,Inv l.length s->f (j s l.length)=aa (.inr<|fin l.length s)) (e:∀s i x,l[i]?=aa x->Inv i s->step i s x≠af) : ∀s,Inv 0 s->Loop f (j s 0)=wg step fin l 0 s:=by
 have key:∀b a s,l=a++b->Inv a.length s->Loop f (j s a.length)=wg step fin b a.length s:=by intro b;induction b with|nil =>intro a s h g;rw[uC] at h;subst h;rw[aN,k s g];rfl|cons x r m =>(intro a s h g;have hx:l[a.length]?=aa x:=by rw[h];simp);rw[aN,c s a.length x hx (by rw[h];simp) g];unfold wg;cases hs:step a.length s x with|none=>exact absurd hs (e s _ x hx g)|some q =>cases q with|inr y=>rfl|inl d =>have:=m (a++[x]) d (by rw[h];simp) (by rw[iU];exact hinv s _ x d hx g hs);rw[iU] at this;exact this
 intro s g;exact key l [] s rfl g
def zx{α}(i:Nat)(l:List α):aL i (len l)=decide (i<l.length):=by simp[aL,len]
def HB{α}(l:List α):aL 0 (len l)=decide (0<l.length):=zx 0 l
def qd{α}(i:Nat)(l:List α):cl (len l) i=decide (l.length<=i):=by simp[cl,len]
def HC{α β}(l:List α)(m:List β):aL (len l) (len m)=decide (l.length<m.length):=by simp[aL,len]
def NQ{α β}(l:List α)(m:List β):cl (len l) (len m)=decide (l.length<=m.length):=by simp[cl,len]
def HD{α β}(l:List α)(m:List β):aD (len l) (len m)=decide (l.length=m.length):=by unfold len;apply gG.2;omega
def aJ{α β}{l:List α}{m:List β}(h:l.length+m.length<=4294967296):fits (plus (len l)<|len m)=true:=by apply ea;simp only[plus,len];omega
def di{α} c (x y:α):ak c x y=if c=true then x else y:=by cases c<;>rfl
def NR{α} p [Decidable p] (x y:α):ak (decide p) x y=if p then x else y:=by by_cases h:p<;>simp[ ak]
def vI{a b}:bg a b=decide (a=b):=rfl
def aY{a b}(h:a≠b):bg a b=false:=by simp[bg,h]
def ch{a b}(h:a=b):bg a b=true:=by simp[bg,h]
def E4{c n}:aD (u8 c) (n.toNat:Int)=decide (c=n):=by
 unfold aD u8;by_cases h:c=n
 {simp[h]};have:c.toNat≠n.toNat:=λe=>h (UZ.1 e);simp[h];omega
def gl{α}(l:List α)(n:Nat):sub l 0 (minus n 0)=l.take n:=by unfold sub minus;simp
def Rn{α β}(l:List α)(m:List β):sub l 0 (minus (len m) 0)=l.take m.length:=gl l m.length
def jB{α}(l:List α) n (h:n<=l.length):sub l n (minus (len l) n)=l.drop n:=by unfold minus len;apply KE;rw[rV];omega
def cV:cm 0 0=true:=rfl
def hJ:cm 1 0=false:=rfl
def av{α:Type}{l:List α}{i x}(h:l[i]?=aa x):i<l.length:=(iQ.1 h).1
def sub_one{α}{l:List α}{i:Nat}{x}(h:l[i]?=aa x):sub l i (minus ((i+1:Nat):Int) i)=[x]:=by unfold sub minus;rw[show((i+1:Nat):Int)-i=1 by omega,uB];obtain⟨a,rfl⟩:=iQ.1 h;rw[Cv a];rfl
def Zf{a b n:Nat}(h:a<=b)(k:b<=n):inside a b n=true:=aM ah ah ah
def jC{α a b}{l:List α}(h:a<=b)(k:b<=l.length):inside a b (len l)=true:=Zf h k
def ao{α}{l:List α}{i:Nat}{x}(h:l[i]?=aa x):idx l i=aa x:=by rw[s6,h]
def al{α}{l:List α}{i}(h:i<l.length):aL i (len l)=true:=by rw[zx,cW h]
def aq{α}{l:List α}:aL (l.length:Int) (len l)=false:=by rw[zx,cf ah]
def ib{α}(l m:List α):app l m=l++m:=rfl
def afK b:nt b=!b:=rfl
def bz{α}(l:List α):len l=(l.length:Int):=rfl
def aih y:fZ [] y=decide (y≠[]):=by cases y<;>simp[fZ,Op.bytesLess]
def afL x:fZ x []=false:=by cases x<;>simp[fZ,Op.bytesLess]
def HE a b x y:fZ (a::x) (b::y)=(decide (a<b)||(a==b&&fZ x y)):=by simp[fZ,Op.bytesLess]
def akj(a b:UInt8):a<b\/a=b\/b<a:=by
 rcases Mn a.toNat b.toNat with h|h|h
 .exact .inl h
 {exact .inr (.inl<|UZ.1 h)};exact .inr (.inr h)
def uU:∀x,fZ x x=false:=by intro x;induction x with|nil=>rfl|cons a x b=>rw[HE,b];simp
def Ro:∀{x y z},fZ x y=true->fZ y z=true->fZ x z=true:=by intro x;induction x with|nil =>(intro y z h k;cases z with|nil=>rw[afL] at k;cases k|cons c z=>rfl)|cons a x d =>intro y z h k;cases y with|nil=>cases h|cons b y =>cases z with|nil=>cases k|cons c z =>rw[HE] at h k⊢;simp at h k⊢;rcases h with h|⟨rfl,h⟩;{rcases k with k|⟨rfl,k⟩;{exact .inl (UInt8.lt_trans h k)};exact .inl h};rcases k with k|⟨rfl,k⟩;{exact .inl k};exact .inr ⟨rfl,d h k⟩
def HF:∀x y,fZ x y=true\/x=y\/fZ y x=true:=by intro x;induction x with|nil=>intro y;cases y<;>simp[aih]|cons a x c =>intro y;cases y with|nil=>exact .inr (.inr rfl)|cons b y =>rw[HE,HE];simp only[Mk,A6,gO,beq_iff_eq];rcases akj a b with h|rfl|h;{exact .inl (.inl h)};{rcases c y with h|rfl|h;{exact .inl (.inr ⟨rfl,h⟩)};{exact .inr (.inl rfl)};exact .inr (.inr<|.inr ⟨rfl,h⟩)};exact .inr (.inr<|.inl h)
def sy{x y}(h:fZ x y=true):fZ y x=false:=by cases k:fZ y x with|false=>rfl|true=>have:=Ro h k;rw[uU] at this;cases this
def NS{x y}(h:fZ x y=true):x≠y:=λe=>by rw[e,uU] at h;cases h
def Zg x y:nt (oor (fZ x y)<|bg x y)=fZ y x:=by
 rcases HF x y with h|rfl|h
 .rw[h,sy h];rfl
 {rw[AB,uU];rfl};rw[h,sy h,aY λe=>NS h e.symm];rfl
def Zh(x y:bb):Int:=if fZ x y=true then -1 else if x=y then 0 else 1
def cmpL:List bb->List bb->Int|[],[]=>0|[],_::_=>-1|_::_,[]=>1|a::x,b::y=>if a=b then cmpL x y else if fZ a b=true then -1 else 1
def kk:∀x,cmpL x x=0:=by intro x;induction x with|nil=>rfl|cons a x b=>rw[cmpL,aQ rfl];exact b
def I6:∀{x y},cmpL x y=0->x=y:=by intro x;induction x with|nil=>(intro y h;cases y with|nil=>rfl|cons b y=>cases h)|cons a x c =>intro y h;cases y with|nil=>cases h|cons b y =>rw[cmpL] at h;split at h;{rename_i e;rw[e,c h]};split at h<;>cases h
def NT:∀x y,cmpL x y=- cmpL y x:=by intro x;induction x with|nil=>intro y;cases y<;>rfl|cons a x c =>intro y;cases y with|nil=>rfl|cons b y =>rw[cmpL,cmpL];by_cases e:a=b;{rw[aQ e,aQ e.symm,c y]};have d:¬b=a:=λq=>e q.symm;rw[aK e,aK d];rcases HF a b with h|h|h;{rw[aQ h,aK (by rw[sy h];simp)]};{exact absurd h e};rw[aK<|by rw[sy h];simp,aQ h];rfl
def mT:∀{x y z},cmpL x y<0->cmpL y z<0->cmpL x z<0:=by intro x;induction x with|nil =>(intro y z h k;cases z with|nil=>(cases y with|nil=>exact absurd k (by simp[cmpL])|cons b y=>exact absurd k (by simp[cmpL]))|cons c z=>exact(by decide:(-1)<0))|cons a x j =>intro y z h k;cases y with|nil=>exact absurd h (by simp[cmpL])|cons b y =>cases z with|nil=>exact absurd k (by simp[cmpL])|cons c z =>rw[cmpL] at h k⊢;by_cases e:a=b;{subst e;rw[aQ rfl] at h;by_cases d:a=c;{subst d;rw[aQ rfl] at k⊢;exact j h k};rw[aK d] at k⊢;exact k};(rw[aK e] at h;have g:fZ a b=true:=by cases q:fZ a b with|true=>rfl|false=>rw[q] at h;exact absurd h aF);by_cases d:b=c;{subst d;rw[aK e];exact h};(rw[aK d] at k;have i:fZ b c=true:=by cases q:fZ b c with|true=>rfl|false=>rw[q] at k;exact absurd k aF);have f:=Ro g i;rw[aK<|NS f,aQ f];decide
def Wl x r (h:r≠[]):cmpL x (x++r)=-1:=by induction x with|nil=>(cases r with|nil=>exact absurd rfl h|cons a r=>rfl)|cons a x b=>rw[Mi,cmpL,aQ rfl];exact b
def afM{a b:Type}{x:List a}{y:List b}{i:Nat}{p}(h:(x.zip y)[i]?=aa p):x[i]?=aa p.1/\y[i]?=aa p.2:=by rw[ajf] at h;exact h
def Wm{c:Type}[DecidableEq c]:∀(x y:List c),(x.zip y).all (λp=>decide (p.1=p.2))=decide (x.take (min x.length y.length)=y.take (min x.length y.length)):=by intro x;induction x with|nil=>simp|cons a x d =>intro y;cases y with|nil=>simp|cons b y =>rw[List.zip_cons_cons,aeB,d y];by_cases e:a=b;{simp};simp
def TM{a:Type}[DecidableEq a]{x y:List a}(h:x.length=y.length):(x.zip y).all (λp=>decide (p.1=p.2))=decide (x=y):=by rw[Wm,h,aeF,zJ,<-h,zJ]
def ob{α β o x}{f:α->Option β}{r}(h:o=aa x)(k:f x=r):ae o f=r:=by rw[h];exact k
def Wn{f:Type}(l:List f)(p:Nat->f->Bool) :
  (∃i x,l[i]?=aa x/\p i x=true/\∀j y,j<i->l[j]?=aa y->p j y=false)\/∀i x,l[i]?=aa x->p i x=false:=by
 by_cases h:∃i x,l[i]?=aa x/\p i x=true
 .left;have key:∀n i x,i<=n->l[i]?=aa x->p i x=true->∃i x,l[i]?=aa x/\p i x=true/\∀j y,j<i->l[j]?=aa y->p j y=false:=by intro n;induction n with|zero =>(intro i x g a b;obtain rfl:i=0:=ah;exact⟨0,x,a,b,λj y d=>ah⟩)|succ n m =>intro i x g a b;by_cases k:∃j y,j<i/\l[j]?=aa y/\p j y=true;{obtain⟨j,y,d,e,c⟩:=k;exact m j y ah e c};refine⟨i,x,a,b,λj y d e=>?_⟩;cases c:p j y with|false=>rfl|true=>exact absurd ⟨j,y,d,e,c⟩ k
  obtain⟨i,x,a,b⟩:=h;exact key i i x (b0 _) a b
 .right;intro i x a;cases c:p i x with|false=>rfl|true=>exact absurd ⟨i,x,a,c⟩ h
def eE{o S R:Type}{f}(l:List o)(b:Int->S)(p:Nat->o->Bool)(c:Nat->o->R) d (r:l.length<=4294967296)
  (a:∀i x,l[i]?=aa x->i<l.length->aw .i64 i 1=((i+1:Nat):Int)->f (b i)=aa (if p i x=true then .inr (c i x) else .inl (b ((i+1:Nat):Int)))) (g:f (b (l.length:Int))=aa (.inr d)) : (∃i x,l[i]?=aa x/\p i x=true/\(∀j y,j<i->l[j]?=aa y->p j y=false)/\Loop f (b 0)=aa (c i x))\/((∀i x,l[i]?=aa x->p i x=false)/\Loop f (b 0)=aa d):=by
 have h:∀i x,l[i]?=aa x->p i x=false->f _=aa (.inl<|b _):=λi x e n=>by have hi:=av e;rw[a i x e hi<|aC ah,n];rfl
 rcases Wn l p with ⟨i,x,e,n,k⟩|hn
 .left;refine⟨i,x,e,n,k,?_⟩;have hi:=av e;refine dc i (λj=>b j) (λj q=>?_) ?_;{have m:j<l.length:=ah;exact h j l[j] (ft m) (k j _ q<|ft m)}
  .rw[a i x e hi<|aC ah,n];rfl
 .right;refine⟨hn,dc l.length (λj=>b j) (λj k=>?_) g⟩;exact h j l[j] (ft k) (hn j _<|ft k)
def se{o S R:Type}{f}(l:List o) n (mk:Int->S) (p:Nat->o->Bool) (a:Nat->o->R) (b:Nat->R) (t:min n l.length<=4294967296)
  (c:∀i x,l[i]?=aa x->i<l.length->i<n->aw .i64 i 1=((i+1:Nat):Int)->f (mk i)=aa (if p i x=true then .inr (a i x) else .inl (mk ((i+1:Nat):Int)))) (d:f (mk ((min n l.length:Nat):Int))=aa (.inr<|b<|min n l.length)) : (∃i x,i<n/\l[i]?=aa x/\p i x=true/\(∀j y,j<i->l[j]?=aa y->p j y=false)/\Loop f (mk 0)=aa (a i x))\/((∀i x,i<n->l[i]?=aa x->p i x=false)/\Loop f (mk 0)=aa (b<|min n l.length)):=by
 have k:∀i x,(l.take n)[i]?=aa x↔(i<n/\l[i]?=aa x):=λi x=>by rw[kn];by_cases h:i<n;{simp};simp
 have hlen:(l.take n).length=min n l.length:=dw;rcases eE _ mk p a _ (by rw[hlen];exact t) (λi x e s g=>by obtain⟨q,m⟩:=(k i x).1 e;exact c i x m (av m) q g) (by rw[hlen];exact d) with ⟨i,x,e,u,v,h⟩|⟨hn,h⟩
 .obtain⟨q,m⟩:=(k i x).1 e;exact .inl ⟨i,x,q,m,u,λj y r w=>v j y r ((k j y).2 ⟨ah,w⟩),h⟩
 .exact .inr ⟨λi x s e=>hn i x ((k i x).2 ⟨s,e⟩),h⟩
def qe{u k S R:Type}{f}(l:List u)(m:k->Int->S)(d:k->Nat->u->k)(h:k->R)(c:k->Nat->Prop)(D:l.length<=4294967296)
  (j:∀s i x,l[i]?=aa x->i<l.length->aw .i64 i 1=((i+1:Nat):Int)->c s i->f (m s i)=aa (.inl<|m (d s i x) ((i+1:Nat):Int))/\c (d s i x) (i+1)) (n:∀s,c s l.length->f (m s (l.length:Int))=aa (.inr<|h s)) s (y:c s 0):∃t,c t l.length/\Loop f (m s 0)=aa (h t)/\t=(l.zipIdx).foldl (λa p=>d a p.2 p.1) s:=by
 have key:∀e b s,l=b++e->c s b.length->∃t,c t l.length/\Loop f (m s b.length)=aa (h t)/\t=(e.zipIdx b.length).foldl (λa p=>d a p.2 p.1) s:=by intro e;induction e with|nil =>intro b s g o;rw[uC] at g;subst g;exact⟨s,o,by rw[aN,n s o];rfl,rfl⟩|cons x r z =>(intro b s g o;have hx:l[b.length]?=aa x:=by rw[g];simp);have q:=av hx;obtain⟨A,B⟩:=j s b.length x hx q (aC ah) o;obtain⟨t,C,v,w⟩:=z (b++[x]) _ (by rw[g];simp) (by rw[iU];exact B);rw[iU] at v w;exact⟨t,C,by rw[aN,A];exact v,w⟩
 exact key l [] s rfl y
def iv{e h S R:Type}{f:S->Option (S⊕R)}(l:List e)(b:List h->Int->S) g fin (k:l.length<=4294967296)
  (a:∀i x,l[i]?=aa x->i<l.length->aw .i64 i 1=((i+1:Nat):Int)->f (b ((l.take i).flatMap g) i)=aa (.inl<|b ((l.take i).flatMap g++g x) ((i+1:Nat):Int))) (c:f (b (l.flatMap g) (l.length:Int))=aa (.inr fin)):Loop f (b [] 0)=aa fin:=by
 refine dc l.length (λj=>b ((l.take j).flatMap g) j) (λj d=>?_) (by simp;exact c);have hx:=ft d;have:=a j l[j] hx d (aC ah);rw[this,xX,hx,List.flatMap_append];simp
def cK{α}{l:List α}(h:l.length<=4294967296):fits (len l)=true:=acq h
def bc{a:Type}{l:List a}{x}:x∈l↔∃i:Nat,l[i]?=aa x:=by rw[QL]
abbrev Tx:=bb
abbrev Nm:=Tx×List Tx×aj
def P8(l:List Tx)(s:Tx)(c:l.length<=4294967296):zo (l,s,())=aa (decide<|s∈l,()):=by
 unfold zo;rcases eE (f:=tn (l,s,())) l (λi=>((false,i,()),())) (λ_ x=>decide (x=s)) (λi x=>(1,(true,(i:Int),()),())) (0,(false,len l,()),()) c (λi x a b d=>by unfold tn;dsimp only;rw[al b,ai,ao a,ab,di,d];by_cases h:x=s<;>simp[bg,h]) (by unfold tn;dsimp only;rw[aq,ag];rfl) with ⟨i,x,a,e,g,h⟩|⟨hn,h⟩
 .rw[h,ab];have:s∈l:=by rw[<-fy e];exact bc.2 ⟨i,a⟩
  rw[cW this];rfl
 rw[h,ab];have:s∉l:=λhs=>by obtain⟨i,b⟩:=bc.1 hs;have:=hn i s b;simp at this
 simp[this,cm,ak]
def HG(l:List Nm)(id:Tx):Int:=match l.findIdx? (λx=>decide (x.1=id)) with|some i=>(i:Int)|none=>-1
def Wo{l id}{i:Nat}{x}(b:l[i]?=aa x)(c:x.1=id)(d:∀j y,j<i->l[j]?=aa y->decide (y.1=id)=false):HG l id=i:=by
 unfold HG;have:l.findIdx? (λx=>decide (x.1=id))=aa i:=by rw[Ya];obtain⟨e,rfl⟩:=iQ.1 b;exact⟨e,by simp[c],λj a=>by have:=d j l[j] a (ft ah);simpa using this⟩
 rw[this]
def NU{l id}(a:∀(i:Nat) x,l[i]?=aa x->decide (x.1=id)=false):HG l id=-1:=by
 unfold HG;have:l.findIdx? (λx=>decide (x.1=id))=none:=by rw[aai];intro x b;obtain⟨i,c⟩:=bc.1 b;exact a i x c
 rw[this]
def NV(l:List Nm)(id:Tx)(b:l.length<=4294967296):xv (l,id,())=aa (HG l id,()):=by
 unfold xv;rcases eE (f:=ri (l,id,())) l (λi=>(((0:Int),i,()),())) (λ_ x=>decide (x.1=id)) (λi x=>(1,((i:Int),(i:Int),()),())) (0,((0:Int),len l,()),()) b (λi x a c d=>by unfold ri;dsimp only;rw[al c,ai,ao a,ab,di,d];by_cases h:x.1=id<;>simp[bg,h]) (by unfold ri;dsimp only;rw[aq,ag];rfl) with ⟨i,x,a,e,g,h⟩|⟨hn,h⟩
 {rw[h,ab,Wo a (fy e) g];rfl};rw[h,ab,NU hn];rfl
def NW(l:List Nm)(id:Tx)(b:l.length<=4294967296):xr (l,id,())=aa (HG l id,()):=by
 unfold xr;rcases eE (f:=rf (l,_)) l (λi=>((0,i,()),id,())) (λ_ x=>decide (x.1=id)) (λi x=>(1,(i,i,()),id,())) _ b (λi x a c d=>by unfold rf;rw[al c,ai,ao a,ab,di,d];by_cases h:x.1=id<;>simp[bg,h]) (by unfold rf;rw[aq];rfl) with ⟨i,x,a,e,g,h⟩|⟨hn,h⟩
 {rw[h,Wo a (fy e) g];rfl};rw[h,NU hn];rfl
def C7(l:List Tx)(s:Tx)(c:l.length<=4294967296):bD (l,s,())=aa (decide<|s∈l,()):=by
 unfold bD eY;rcases eE (f:=bX (l,s,())) l (λi=>((0,i,()),())) (λ_ x=>decide (x=s)) (λi x=>(1,(i,i,()),())) _ c (λi x a b d=>by unfold bX;rw[al b,ai,ao a,ab,di,d];by_cases h:x=s;{simp[bg,h]};have g:¬s=x:=λe=>h e.symm;simp[bg,h,g]) (by unfold bX;rw[aq];rfl) with ⟨i,x,a,j,k,h⟩|⟨hn,h⟩
 .rw[h];have:s∈l:=by rw[<-fy j];exact bc.2 ⟨i,a⟩
  rw[cW this];show aa (cl 0 i,())=_;rw[bA ah]
 rw[h];have:s∉l:=λhs=>by obtain⟨i,b⟩:=bc.1 hs;have:=hn i s b;simp at this
 simp[this,cm,ak,ae,cl]
def Small(l:List Nm):Prop:=l.length<=4294967296/\∀x∈l,x.2.1.length<=4294967296
end Go.Ge
