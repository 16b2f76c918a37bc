import Derived.Test.YtgklgliokhbcnaaGreatDoorPlB
set_option linter.unusedVariables false
set_option linter.unusedSectionVars false
set_option linter.unusedSimpArgs false
set_option linter.defProp false
noncomputable section
open Option renaming some->aa,none->af
open Sum renaming inl->az,inr->aA
open Go.IntKind (i64)
namespace Go.Ge
variable [Lp]
set_option maxRecDepth 100000
abbrev ia:=((List<|Sb×(List Sb)×Sb×Sb×Sb×(List<|Sb×Sb×Sb×aj)×aj)×(List<|Sb×(List Sb)×Sb×Sb×(List<|Sb×Sb×Sb×aj)×aj)×(List<|Sb×Sb×(List Sb)×Sb×Int×Int×Bool×aj)×(List Sb)×(List<|Sb×Int×aj)×aj)
abbrev oF:=(Sb×(List Sb)×Sb×Sb×Sb×(List<|Sb×Sb×Sb×aj)×aj)
abbrev aiU:=(Sb×Sb×(List Sb)×Sb×Int×Int×Bool×aj)
abbrev Cq:=(Int×Sb×Int×Sb×aj)
abbrev H3:=(Int×Int×Sb×Sb×(List Sb)×Sb×Sb×Int×aj)
abbrev aiV:=(Sb×(List Sb)×Sb×Sb×(List<|Sb×Sb×Sb×aj)×aj)
abbrev SF:=(Sb×Sb×Sb×aj)
abbrev rv:=(Int×Int×aj)
abbrev GC:=(bb×((List bb)×(bb×(bb×(bb×((List<|bb×(bb×(bb×aj)))×aj))))))
abbrev KT:=(Sb×(List Sb)×aj)
abbrev KU:=(Nat×rv×Sb×aj)
abbrev SG:=(Bool×Int×aj)
abbrev KV:=(rv×Sb×aj)
abbrev agW:=(Nat×SG×aj)
abbrev ZF:=((Int×aj)×(aj×aj×aj)×(List<|Int)×aj)
def cf(l:List GC)(x:(Int×((List GC)×aj))):Option (List GC):=tR l x.1 x.2.1
def dt(l:List GC)(x:(Int×(Int×aj))):Option (List GC):=Ka l x.1 x.2.1
def tV(x:ia×Sb×aj):Option (Cq×aj) :=
 ae (eI (x.1,x.2.1,())) (λa=>ak (nt<|aG a.2.1 0)
 (ae (dX (a.2.1,())) λc=>aa (c.1,()))
 (ae (ks (x.1,a.1,())) λc=>ae (mh (x.1,a.1,())) λd=>ak (nt<|aG d.2.1 0)
 (ae (dX (d.2.1,())) λb=>aa (b.1,()))
 (ae (iV (x.1,c.1.2.1,())) λb=>ak (nt<|aG b.2.1 0)
 (ae (dX (b.2.1,())) λe=>aa (e.1,()))
 (ae (qz (b.1,d.1,())) λe=>ae (wu (e.1,())) λf=>aa ((0,a.1,0,f.1,()),())))))
def ku(x:Int×aj):Option (Cq×aj) :=
 aa ((x.1,[],0,[],()),())
def nj(x:ia×aj):Option ((List KT)×aj) :=
 ae (rm (1,(0,([]:List aiU),([]:List aiV),x.1.1,()),())) (λa=>aa (a.1,()))
def tW(x:(List oF)×aj):Option ((List oF)×aj) :=
 bif fits (len x.1) then aa (x.1,()) else af
def iW(x:ia×oF×aj)(a:rv×Sb×aj):Option (KV⊕KU) :=
 ak (aL a.1.2.1<|len x.1.1)
 (ak (within a.1.2.1<|len x.1.1)
 (ae (idx x.1.1 a.1.2.1) λb=>ak (bt b.1 a.2.1)
 (aa<|aA (1,(a.1.2.1,a.1.2.1,()),a.2.1,()))
 (aa<|az ((a.1.1,aw i64 a.1.2.1 1,()),a.2.1,())))
 af)
 (aa<|aA (0,(a.1.1,a.1.2.1,()),a.2.1,()))
def sP(x:ia×oF×aj)(a:rv×oF×aj):Option ((rv×oF×aj)⊕(Nat×rv×oF×aj)) :=
 ak (aL a.1.2.1<|len x.1.1)
 (ak (within a.1.2.1<|len x.1.1)
 (ae (idx x.1.1 a.1.2.1) λb=>ak (nt<|fM b.1 a.2.1.1)
 (aa<|aA (1,(a.1.2.1,a.1.2.1,()),a.2.1,()))
 (aa<|az ((a.1.1,aw i64 a.1.2.1 1,()),a.2.1,())))
 af)
 (aa<|aA (0,(a.1.1,a.1.2.1,()),a.2.1,()))
def sQ(b:(aj×aj)×(List oF)×aj)(a:rv×oF×aj):Option ((rv×oF×aj)⊕(Nat×rv×oF×aj)) :=
 ak (aL a.1.2.1<|len b.2.1)
 (ak (within a.1.2.1<|len b.2.1)
 (ae (idx b.2.1 a.1.2.1) λc=>ak (nt<|fM c.1 a.2.1.1)
 (aa<|aA (1,(a.1.2.1,a.1.2.1,()),a.2.1,()))
 (aa<|az ((a.1.1,aw i64 a.1.2.1 1,()),a.2.1,())))
 af)
 (aa<|aA (0,(a.1.1,a.1.2.1,()),a.2.1,()))
def j8(x:ia×oF×aj):Option (ia×aj) :=
 ak (fits<|len x.1.1)
 (ae (Loop (iW x) ((0,0,()),x.2.1.1,())) λd=>ak (cl d.1 0)
 (ae (aX (x.2.1.2.1,())) λa=>ae (bL (x.2.1.2.2.2.2.2.1,())) λe=>ae (Loop (sP x) ((0,0,()),(x.2.1.1,a.1,x.2.1.2.2.1,x.2.1.2.2.2.1,x.2.1.2.2.2.2.1,e.1,x.2.1.2.2.2.2.2.2),())) λc=>ak (cl c.1 0)
 (ae (cf x.1.1 ((((len x.1.1,()),()).1).1,([c.2.2.1]:List oF),())) λb=>aa ((b,x.1.2.1,x.1.2.2.1,x.1.2.2.2.1,x.1.2.2.2.2.1,x.1.2.2.2.2.2),()))
 (ae (cf x.1.1 (((ak (aL c.2.1.1 0)
 ((len x.1.1,()),())
 ((c.2.1.1,()),())).1).1,([c.2.2.1]:List oF),())) λb=>aa ((b,x.1.2.1,x.1.2.2.1,x.1.2.2.2.1,x.1.2.2.2.2.1,x.1.2.2.2.2.2),())))
 (ae (ak (ch 0 d.2.1.1)
 (ae (dt x.1.1 (d.2.1.1,aw i64 d.2.1.1 1,())) λa=>aa (((),()),a,()))
 (aa (((),()),x.1.1,()))) λa=>ae (aX (x.2.1.2.1,())) λe=>ae (bL (x.2.1.2.2.2.2.2.1,())) λc=>ae (Loop (sQ a) ((0,0,()),(x.2.1.1,e.1,x.2.1.2.2.1,x.2.1.2.2.2.1,x.2.1.2.2.2.2.1,c.1,x.2.1.2.2.2.2.2.2),())) λb=>ak (cl b.1 0)
 (ae (cf a.2.1 ((((len a.2.1,()),()).1).1,([b.2.2.1]:List oF),())) λf=>aa ((f,x.1.2.1,x.1.2.2.1,x.1.2.2.2.1,x.1.2.2.2.2.1,x.1.2.2.2.2.2),()))
 (ae (cf a.2.1 (((ak (aL b.2.1.1 0)
 ((len a.2.1,()),())
 ((b.2.1.1,()),())).1).1,([b.2.2.1]:List oF),())) λf=>aa ((f,x.1.2.1,x.1.2.2.1,x.1.2.2.2.1,x.1.2.2.2.2.1,x.1.2.2.2.2.2),()))))
 af
def sR(x:ia×Sb×(List Sb)×Sb×Int×aj):Option (ia×Cq×aj) :=
 ae (gi (x.2.2.1,())) (λg=>ak (ak (nt<|nt<|aG g.1 0)
 (aL 64<|len x.2.2.2.1)
 true)
 (ae (ku (1,())) λb=>aa (x.1,b.1,()))
 (ae (ak (nt<|bt x.2.1 [])
 (ae (nf (x.1,x.2.1,())) λb=>aa ((b.2.1,()),([],x.2.2.1,b.1,[],x.2.2.2.1,[],()),()))
 (aa ((0,()),([],x.2.2.1,[],([]:bb),x.2.2.2.1,([]:List SF),()),()))) λb=>ae (ak (aG b.1.1 0)
 (ae (nj (x.1,())) λe=>ae (hS (e.1,[],x.2.2.1,())) λa=>aa ((a.1,()),()))
 (aa ((b.1.1,()),()))) λe=>ae (ak (aG e.1.1 0)
 (ae (nj (x.1,())) λa=>ae (iQ (a.1,gM i64 x.2.2.2.2.1 16777215,())) λc=>aa ((c.2.1,()),(c.1,b.2.1.2),()))
 (aa ((e.1.1,()),b.2.1,()))) λa=>ak (nt<|aG a.1.1 0)
 (ae (ku (a.1.1,())) λc=>aa (x.1,c.1,()))
 (ae (px (x.1,a.2.1.2.2.1,())) λc=>ae (jG (x.1,(((((ak (bt x.2.1 [])
 ((),([],[],[],[],([]:List SF),()),())
 ((),c.1,())).2).1).2).2).1,[],[],gM i64 (jt i64 x.2.2.2.2.1 24) 16777215,())) λd=>ak (nt<|aG d.2.1.1 0)
 (ae (ku (d.2.1.1,())) λf=>aa (x.1,f.1,()))
 (ae (j8 (d.1,(a.2.1.1,a.2.1.2.1,a.2.1.2.2.1,d.2.1.2.1,a.2.1.2.2.2.2),())) λf=>aa (f.1,(0,a.2.1.1,0,d.2.1.2.1,()),())))))
def wG(x:ia×Sb×aj):Option (Sb×Int×aj) :=
 ae (nj (x.1,())) (λb=>ae (iu (b.1,x.2.1,())) λa=>aa (a.1,a.2.1,()))
def sS(x:ia×Sb×aj)(a:rv×Sb×aj):Option (KV⊕KU) :=
 ak (aL a.1.2.1<|len x.1.1)
 (ae (idx x.1.1 a.1.2.1) λb=>ak (bt b.1 a.2.1)
 (aa<|aA (1,(a.1.2.1,a.1.2.1,()),a.2.1,()))
 (aa<|az ((a.1.1,aw i64 a.1.2.1 1,()),a.2.1,())))
 (aa<|aA (0,(a.1.1,a.1.2.1,()),a.2.1,()))
def rM(x:ia×Sb×aj):Option (oF×Bool×aj) :=
 ae (Loop (sS x) ((0,0,()),x.2.1,())) (λb=>ak (cl b.1 0)
 (aa (([],[],[],[],[],([]:List SF),()),false,()))
 (ak (aL b.2.1.1 0)
 (aa (([],[],[],[],[],([]:List SF),()),false,()))
 (ae (idx x.1.1 b.2.1.1) λa=>ae (aX (a.2.1,())) λc=>ae (bL (a.2.2.2.2.2.1,())) λd=>aa ((a.1,c.1,a.2.2.1,a.2.2.2.1,a.2.2.2.2.1,d.1,a.2.2.2.2.2.2),true,()))))
def nP(x:ia×Sb×aj)(a:rv×Sb×aj):Option (KV⊕KU) :=
 ak (aL a.1.2.1<|len x.1.1)
 (ak (within a.1.2.1<|len x.1.1)
 (ae (idx x.1.1 a.1.2.1) λb=>ak (bt b.1 a.2.1)
 (aa<|aA (1,(a.1.2.1,a.1.2.1,()),a.2.1,()))
 (aa<|az ((a.1.1,aw i64 a.1.2.1 1,()),a.2.1,())))
 af)
 (aa<|aA (0,(a.1.1,a.1.2.1,()),a.2.1,()))
def sT(x:ia×Sb×aj):Option (ia×Cq×aj) :=
 ae (wG (x.1,x.2.1,())) (λc=>ak (nt<|aG c.2.1 0)
 (ae (ku (c.2.1,())) λa=>aa (x.1,a.1,()))
 (ae (rM (x.1,c.1,())) λa=>ak (fits<|len x.1.1)
 (ae (Loop (nP x) ((0,0,()),c.1,())) λf=>ak (cl f.1 0)
 (ae (de (x.1,a.1.2.2.2.1,())) λd=>ae (ak (nt<|aL 0 d.1)
 (ae (pz ((x.1.1,x.1.2.1,x.1.2.2.1,x.1.2.2.2.1,x.1.2.2.2.2.1,x.1.2.2.2.2.2),a.1.2.2.2.1,())) λe=>aa e.1)
 (aa true)) λe=>ak e
 (ae (ku (7,())) λb=>aa (x.1,b.1,()))
 (ae (jH ((x.1.1,x.1.2.1,x.1.2.2.1,x.1.2.2.2.1,x.1.2.2.2.2.1,x.1.2.2.2.2.2),a.1.2.2.2.1,())) λb=>aa (b.1,(0,c.1,0,[],()),())))
 (ae (ak (ch 0 f.2.1.1)
 (ae (dt x.1.1 (f.2.1.1,aw i64 f.2.1.1 1,())) λd=>aa (((),()),d,()))
 (aa (((),()),x.1.1,()))) λd=>ae (de (x.1,a.1.2.2.2.1,())) λe=>ae (ak (nt<|aL 0 e.1)
 (ae (pz ((d.2.1,x.1.2.1,x.1.2.2.1,x.1.2.2.2.1,x.1.2.2.2.2.1,x.1.2.2.2.2.2),a.1.2.2.2.1,())) λb=>aa b.1)
 (aa true)) λb=>ak b
 (ae (ku (7,())) λg=>aa (x.1,g.1,()))
 (ae (jH ((d.2.1,x.1.2.1,x.1.2.2.1,x.1.2.2.2.1,x.1.2.2.2.2.1,x.1.2.2.2.2.2),a.1.2.2.2.1,())) λg=>aa (g.1,(0,c.1,0,[],()),()))))
 af))
def fQ(x:(List<|Int)×Int×aj)(a:rv×aj):Option ((rv×aj)⊕(Nat×rv×aj)) :=
 ak (aL a.1.2.1<|len x.1)
 (ae (idx x.1 a.1.2.1) λb=>ak (aG x.2.1 b)
 (aa<|aA (1,(a.1.2.1,a.1.2.1,()),()))
 (aa<|az ((a.1.1,aw i64 a.1.2.1 1,()),())))
 (aa<|aA (0,(a.1.1,a.1.2.1,()),()))
def ib(x:(List<|Int)×Int×aj):Option (Int×aj) :=
 ae (Loop (fQ x) ((0,0,()),())) (λa=>ak (cl a.1 0)
 (aa ((-1),()))
 (aa (a.2.1.1,())))
def dD(x:(List<|Int)×Int×aj):Option (Bool×aj) :=
 ae (ib (x.1,x.2.1,())) (λa=>aa (ch 0 a.1,()))
def xM(x:H3×(List<|Int)×aj):Option ((List<|Int)×aj) :=
 ae (dD (x.2.1,x.1.2.1,())) (λa=>ak a.1
 (aa ([x.1.2.1],()))
 (aa ([],())))
def qk(x:H3×aj):Option ((List<|Int)×aj) :=
 ak (((ak (aG x.1.1 2)
 ((aG x.1.1 2,()),())
 ((((ak (aG x.1.1 11)
 ((aG x.1.1 11,()),())
 ((aG x.1.1 12,()),())).1).1,()),())).1).1)
 (aa ([(1:Int),2,3],()))
 (ak (aG x.1.1 7)
 (aa ([(2:Int),3],()))
 (ak (aG x.1.1 8)
 (aa ([(1:Int),2],()))
 (ak (((ak (aG x.1.1 1)
 ((aG x.1.1 1,()),())
 ((((ak (aG x.1.1 3)
 ((aG x.1.1 3,()),())
 ((((ak (aG x.1.1 4)
 ((aG x.1.1 4,()),())
 ((((ak (aG x.1.1 5)
 ((aG x.1.1 5,()),())
 ((aG x.1.1 6,()),())).1).1,()),())).1).1,()),())).1).1,()),())).1).1)
 (aa ([(3:Int)],()))
 (ak (((ak (aG x.1.1 9)
 ((aG x.1.1 9,()),())
 ((aG x.1.1 10,()),())).1).1)
 (ae (xM (x.1,[(1:Int),2],())) λa=>aa (a.1,()))
 (ak (((ak (aG x.1.1 13)
 ((aG x.1.1 13,()),())
 ((((ak (aG x.1.1 14)
 ((aG x.1.1 14,()),())
 ((aG x.1.1 15,()),())).1).1,()),())).1).1)
 (ae (xM (x.1,[(1:Int),2,3],())) λa=>aa (a.1,()))
 (aa ([],())))))))
def eL(x:Int×aj):Option (Cq×aj) :=
 aa ((x.1,[],0,[],()),())
def uR(x:ia×Int×aj):Option ((List KT)×aj) :=
 ae (rm (x.2.1,(0,x.1.2.2.1,x.1.2.1,x.1.1,()),())) (λa=>aa (a.1,()))
def AO(x:ia×H3×aj):Option (ia×Cq×aj) :=
 ae (qk (x.2.1,())) (λf=>ae (dD (f.1,x.2.1.2.1,())) λg=>ak (nt g.1)
 (ae (eL (1,())) λe=>aa (x.1,e.1,()))
 (ae (uR (x.1,x.2.1.2.1,())) λe=>ae (iu (e.1,x.2.1.2.2.1,())) λd=>ak (nt<|aG d.2.1 0)
 (ae (eL (d.2.1,())) λa=>aa (x.1,a.1,()))
 (ak (aG x.2.1.2.1 1)
 (ae (rM (x.1,d.1,())) λa=>ak (aG x.2.1.1 10)
 (ae (lq (a.1.2.2.2.2.2.1,x.2.1.2.2.2.2.2.2.1,())) λb=>ak (nt<|aG b.2.1 0)
 (ae (eL (b.2.1,())) λc=>aa (x.1,c.1,()))
 (aa (x.1,(0,d.1,0,b.1,()),())))
 (ae (lp (a.1.2.2.2.2.2.1,x.2.1.2.2.2.2.2.2.1,x.2.1.2.2.2.2.2.1,())) λb=>ak (nt<|aG b.2.1 0)
 (ae (eL (b.2.1,())) λc=>aa (x.1,c.1,()))
 (ae (j8 (x.1,(a.1.1,a.1.2.1,a.1.2.2.1,a.1.2.2.2.1,a.1.2.2.2.2.1,b.1,a.1.2.2.2.2.2.2),())) λc=>aa (c.1,(0,d.1,0,[],()),()))))
 (ae (px (x.1,d.1,())) λa=>ak (aG x.2.1.1 10)
 (ae (lq (a.1.2.2.2.2.1,x.2.1.2.2.2.2.2.2.1,())) λb=>ak (nt<|aG b.2.1 0)
 (ae (eL (b.2.1,())) λc=>aa (x.1,c.1,()))
 (aa (x.1,(0,d.1,0,b.1,()),())))
 (ae (lp (a.1.2.2.2.2.1,x.2.1.2.2.2.2.2.2.1,x.2.1.2.2.2.2.2.1,())) λb=>ak (nt<|aG b.2.1 0)
 (ae (eL (b.2.1,())) λc=>aa (x.1,c.1,()))
 (ae (gk (x.1,(a.1.1,a.1.2.1,a.1.2.2.1,a.1.2.2.2.1,b.1,a.1.2.2.2.2.2),())) λc=>aa (c.1,(0,d.1,0,[],()),())))))))
def pE(x:(List KT)×aj)(a:(Int×aj)×(aj×aj×aj)×(List<|Int)×aj):Option (ZF⊕ZF) :=
 cq (ak (aL a.1.1<|len x.1)
 (ae (idx x.1 a.1.1) λb=>ak (fits<|plus (len [b.1])<|len b.2.1)
 (ae (kS (app [b.1] b.2.1,[32],())) λc=>ak (fits<|plus (len c.1)<|len ([10]:bb))
 (ak (fits<|plus (len a.2.2.1)<|len<|ax<|app c.1 [10])
 (aa<|az ((aw i64 a.1.1 1,()),((),(),a.2.1.2.2),app a.2.2.1<|ax<|app c.1 [10],()))
 af)
 af)
 af)
 (aa<|aA (0,(a.1.1,()),((),(),a.2.1.2.2),a.2.2.1,())))
def zj(x:(List KT)×aj):Option (Sb×aj) :=
 ae (Loop (pE x) ((0,()),((),(),()),[],())) (λa=>aa (bq a.2.2.1,()))
def mi(x:ia×Int×Sb×(List Sb)×aj)(a:rv×Sb×aj):Option (KV⊕KU) :=
 ak (aL a.1.2.1<|len x.1.2.2.1)
 (ak (within a.1.2.1<|len x.1.2.2.1)
 (ae (idx x.1.2.2.1 a.1.2.1) λb=>ak (bt b.1 a.2.1)
 (aa<|aA (1,(a.1.2.1,a.1.2.1,()),a.2.1,()))
 (aa<|az ((a.1.1,aw i64 a.1.2.1 1,()),a.2.1,())))
 af)
 (aa<|aA (0,(a.1.1,a.1.2.1,()),a.2.1,()))
def gS(x:ia×Int×Sb×(List Sb)×aj):Option (ia×aj) :=
 ak (aG x.2.1 1)
 (ae (rM (x.1,x.2.2.1,())) λa=>ae (j8 (x.1,(a.1.1,x.2.2.2.1,a.1.2.2),())) λb=>aa (b.1,()))
 (ak (aG x.2.1 2)
 (ae (px (x.1,x.2.2.1,())) λa=>ae (gk (x.1,(a.1.1,x.2.2.2.1,a.1.2.2),())) λb=>aa (b.1,()))
 (ak (fits<|len x.1.2.2.1)
 (ae (ae (Loop (mi x) ((0,0,()),x.2.2.1,())) λa=>ak (cl a.1 0)
 (aa (((-1),()),a.2.2.1,()))
 (aa ((a.2.1.1,()),a.2.2.1,()))) λa=>ae (aX (x.2.2.2.1,())) λb=>ak (within a.1.1<|len x.1.2.2.1)
 (ae (idx x.1.2.2.1 a.1.1) λd=>ae (idx x.1.2.2.1 a.1.1) λe=>ae (idx x.1.2.2.1 a.1.1) λc=>aa ((x.1.1,x.1.2.1,kh x.1.2.2.1 a.1.1 (c.1,c.2.1,b.1,c.2.2.2),x.1.2.2.2.1,x.1.2.2.2.2.1,x.1.2.2.2.2.2),()))
 af)
 af))
def xN(x:ia×H3×aj):Option (ia×Cq×aj) :=
 ae (uR (x.1,x.2.1.2.1,())) (λe=>ae (qk (x.2.1,())) λf=>ae (dD (f.1,x.2.1.2.1,())) λg=>ak (nt g.1)
 (ae (eL (1,())) λa=>aa (x.1,a.1,()))
 (ak (aG x.2.1.1 15)
 (ae (zj (e.1,())) λa=>aa (x.1,(0,[],0,a.1,()),()))
 (ae (ak (aG x.2.1.1 13)
 (ae (gi (x.2.1.2.2.2.2.1,())) λa=>aa (nt<|aG a.1 0))
 (aa false)) λa=>ak a
 (ae (eL (1,())) λb=>aa (x.1,b.1,()))
 (ae (iu (e.1,x.2.1.2.2.1,())) λb=>ae (ak (ak (aG b.2.1 0)
 (aG x.2.1.1 13)
 false)
 (ae (hS (e.1,b.1,x.2.1.2.2.2.2.1,())) λd=>aa ((d.1,()),()))
 (aa ((b.2.1,()),()))) λd=>ak (nt<|aG d.1.1 0)
 (ae (eL (d.1.1,())) λc=>aa (x.1,c.1,()))
 (ae (ak (aG x.2.1.1 13)
 (ae (gS (x.1,x.2.1.2.1,b.1,x.2.1.2.2.2.2.1,())) λc=>aa ((),c.1,()))
 (aa ((),x.1,()))) λc=>aa (c.2.1,(0,b.1,0,[],()),()))))))
def xO(x:ia×H3×aj):Option (ia×Cq×aj) :=
 ak (aG x.2.1.1 1)
 (ae (jG (x.1,x.2.1.2.2.2.1,x.2.1.2.2.2.2.1,x.2.1.2.2.2.2.2.1,x.2.1.2.2.2.2.2.2.2.1,())) λa=>aa (a.1,a.2.1,()))
 (ak (aG x.2.1.1 2)
 (ae (vN (x.1,x.2.1.2.2.1,())) λa=>aa (a.1,a.2.1,()))
 (ak (aG x.2.1.1 3)
 (ae (zi (x.1,x.2.1.2.2.1,())) λa=>aa (x.1,a.1,()))
 (ak (aG x.2.1.1 4)
 (ae (tV (x.1,x.2.1.2.2.1,())) λa=>aa (x.1,a.1,()))
 (ak (aG x.2.1.1 5)
 (ae (Cp (x.1,x.2.1.2.2.1,())) λa=>aa (a.1,a.2.1,()))
 (ak (aG x.2.1.1 6)
 (ae (zW (x.1,x.2.1.2.2.1,())) λa=>aa (a.1,a.2.1,()))
 (ak (aG x.2.1.1 7)
 (ae (qJ (x.1,x.2.1.2.2.2.1,x.2.1.2.2.2.2.1,x.2.1.2.2.2.2.2.1,x.2.1.2.2.2.2.2.2.2.1,())) λa=>aa (a.1,a.2.1,()))
 (ak (aG x.2.1.1 8)
 (ae (qK (x.1,x.2.1.2.2.1,())) λa=>aa (a.1,a.2.1,()))
 (ak (aG x.2.1.1 11)
 (ae (sR (x.1,x.2.1.2.2.2.1,x.2.1.2.2.2.2.1,x.2.1.2.2.2.2.2.1,x.2.1.2.2.2.2.2.2.2.1,())) λa=>aa (a.1,a.2.1,()))
 (ak (aG x.2.1.1 12)
 (ae (sT (x.1,x.2.1.2.2.1,())) λa=>aa (a.1,a.2.1,()))
 (ak (((ak (aG x.2.1.1 9)
 ((aG x.2.1.1 9,()),())
 ((aG x.2.1.1 10,()),())).1).1)
 (ae (AO (x.1,x.2.1,())) λa=>aa (a.1,a.2.1,()))
 (ak (((ak (aG x.2.1.1 13)
 ((aG x.2.1.1 13,()),())
 ((((ak (aG x.2.1.1 14)
 ((aG x.2.1.1 14,()),())
 ((aG x.2.1.1 15,()),())).1).1,()),())).1).1)
 (ae (xN (x.1,x.2.1,())) λa=>aa (a.1,a.2.1,()))
 (ae (eL (1,())) λa=>aa (x.1,a.1,())))))))))))))
def D2(x:(List<|Int)×(List<|Int)×aj)(a:SG×aj):Option ((SG×aj)⊕agW) :=
 ak (ak (aL a.1.2.1<|len x.1)
 (aL a.1.2.1<|len x.2.1)
 false)
 (ae (idx x.1 a.1.2.1) λb=>ae (idx x.2.1 a.1.2.1) λc=>ak (nt<|aG b c)
 (aa<|aA (1,(false,a.1.2.1,()),()))
 (aa<|az ((a.1.1,aw i64 a.1.2.1 1,()),())))
 (aa<|aA (0,(a.1.1,a.1.2.1,()),()))
def tX(x:(List<|Int)×(List<|Int)×aj):Option (Bool×aj) :=
 ak (nt<|aG (len x.1)<|len x.2.1)
 (aa (false,()))
 (ae (Loop (D2 x) ((false,0,()),())) λa=>ak (cl a.1 0)
 (aa (true,()))
 (aa (a.2.1.1,())))
def ql(x:H3×aj):Option (Bool×aj) :=
 ae (ak (ak (ak (ak (ch (len x.1.2.2.1) 100)
 (ch (len x.1.2.2.2.1) 100)
 false)
 (ch (len x.1.2.2.2.2.2.1) 8704)
 false)
 (ch (len x.1.2.2.2.2.2.2.1) 100)
 false)
 (ae (pn (x.1.2.2.2.2.1,())) λa=>aa a.1)
 (aa false)) (λa=>aa (a,()))
end Go.Ge
namespace Go.Ge
variable [Lp]
set_option maxRecDepth 100000
abbrev bp:=((List<|Sb×(List Sb)×Sb×Sb×Sb×(List<|Sb×Sb×Sb×aj)×aj)×(List<|Sb×(List Sb)×Sb×Sb×(List<|Sb×Sb×Sb×aj)×aj)×(List<|Sb×Sb×(List Sb)×Sb×Int×Int×Bool×aj)×(List Sb)×(List<|Sb×Int×aj)×aj)
abbrev jm:=(Sb×(List Sb)×Sb×Sb×Sb×(List<|Sb×Sb×Sb×aj)×aj)
abbrev jn:=(Sb×(List Sb)×Sb×Sb×(List<|Sb×Sb×Sb×aj)×aj)
abbrev nQ:=(Sb×Sb×(List Sb)×Sb×Int×Int×Bool×aj)
abbrev jo:=(Int×Sb×Int×Sb×aj)
abbrev fv:=(Sb×Int×aj)
abbrev SH:=(Int×Int×Sb×Sb×(List Sb)×Sb×Sb×Int×aj)
abbrev Dt:=(Sb×(List Sb)×aj)
abbrev KW:=(Sb×Sb×Sb×aj)
abbrev AP:=(Bool×Int×aj)
abbrev qm:=(aj×Int×aj)
abbrev Vi:=((aj×aj×Int×aj)×(List Sb)×(List nQ)×aj)
abbrev MM:=(Nat×(Int×Int×aj)×aj)
abbrev aer:=(Sb×Int×Int×Sb×Sb×aj)
abbrev MN:=((Int×Int×aj)×aj)
abbrev MO:=(Nat×AP×aj)
abbrev zX:=((Int×aj)×aj)
def qV(x:bp×Sb×aj)(a:AP×aj):Option ((AP×aj)⊕MO) :=
 ak (aL a.1.2.1<|len x.1.2.2.1)
 (ae (idx x.1.2.2.1 a.1.2.1) λb=>ak (bt b.2.1 x.2.1)
 (aa<|aA (1,(true,a.1.2.1,()),()))
 (aa<|az ((a.1.1,aw i64 a.1.2.1 1,()),())))
 (aa<|aA (0,(a.1.1,a.1.2.1,()),()))
def qW(x:bp×Sb×aj)(a:AP×aj):Option ((AP×aj)⊕MO) :=
 ak (aL a.1.2.1<|len x.1.2.1)
 (ae (idx x.1.2.1 a.1.2.1) λb=>ak (bt b.2.2.1 x.2.1)
 (aa<|aA (1,(true,a.1.2.1,()),()))
 (aa<|az ((a.1.1,aw i64 a.1.2.1 1,()),())))
 (aa<|aA (0,(a.1.1,a.1.2.1,()),()))
def qX(x:bp×Sb×aj)(a:AP×aj):Option ((AP×aj)⊕MO) :=
 ak (aL a.1.2.1<|len x.1.1)
 (ae (idx x.1.1 a.1.2.1) λb=>ak (bt b.2.2.2.1 x.2.1)
 (aa<|aA (1,(true,a.1.2.1,()),()))
 (aa<|az ((a.1.1,aw i64 a.1.2.1 1,()),())))
 (aa<|aA (0,(a.1.1,a.1.2.1,()),()))
def sU(x:bp×Sb×aj):Option (Bool×aj) :=
 ae (Loop (qV x) ((false,0,()),())) (λa=>ak (cl a.1 0)
 (ae (Loop (qW x) ((a.2.1.1,0,()),())) λb=>ak (cl b.1 0)
 (ae (Loop (qX x) ((b.2.1.1,0,()),())) λc=>ak (cl c.1 0)
 (aa (false,()))
 (aa (c.2.1.1,())))
 (aa (b.2.1.1,())))
 (aa (a.2.1.1,())))
def nR(x:bp×Sb×aj)(a:(Int×Int×aj)×aj):Option (MN⊕MM) :=
 ak (aL a.1.2.1<|len x.1.2.2.2.2.1)
 (ae (idx x.1.2.2.2.2.1 a.1.2.1) λb=>ak (bt b.1 x.2.1)
 (ae (idx x.1.2.2.2.2.1 a.1.2.1) λc=>aa (aA (1,(c.2.1,a.1.2.1,()),())))
 (aa<|az ((a.1.1,aw i64 a.1.2.1 1,()),())))
 (aa<|aA (0,(a.1.1,a.1.2.1,()),()))
def fw(x:bp×Sb×aj):Option (Int×aj) :=
 ae (Loop (nR x) ((0,0,()),())) (λa=>ak (cl a.1 0)
 (aa (0,()))
 (aa (a.2.1.1,())))
def tY(x:bp×Sb×Int×aj)(a:qm×(List fv)×aj):Option ((qm×(List fv)×aj)⊕(qm×(List fv)×aj)) :=
 cq (ak (aL a.1.2.1<|len x.1.2.2.2.2.1)
 (ae (idx x.1.2.2.2.2.1 a.1.2.1) λc=>ae (ak (nt<|bt c.1 x.2.1)
 (ae (idx x.1.2.2.2.2.1 a.1.2.1) λb=>ak (fits<|plus (len a.2.1)<|len ([b]:List fv))
 (aa (((),()),app a.2.1 [b],()))
 af)
 (aa (((),()),a.2.1,()))) λb=>aa (az (((),aw i64 a.1.2.1 1,()),b.2.1,())))
 (aa<|aA (0,((),a.1.2.1,()),a.2.1,())))
def pF(x:bp×Sb×Int×aj)(b:qm×(List fv)×aj)(a:(Int×aj)×aj):Option (zX⊕zX) :=
 cq (ae (ak (aL a.1.1<|len b.2.1)
 (ak (within a.1.1<|len b.2.1)
 (ae (idx b.2.1 a.1.1) λc=>aa (fM c.1 x.2.1))
 af)
 (aa false)) λc=>ak c
 (aa<|az ((aw i64 a.1.1 1,()),()))
 (aa<|aA (0,(a.1.1,()),())))
def nk(x:bp×Sb×Int×aj):Option (bp×aj) :=
 ae (Loop (tY x) (((),0,()),[],())) (λa=>ak (ch x.2.2.1 0)
 (aa ((x.1.1,x.1.2.1,x.1.2.2.1,x.1.2.2.2.1,a.2.1,x.1.2.2.2.2.2),()))
 (ae (Loop (pF x a) ((0,()),())) λb=>ak (inside 0 b.1.1<|len a.2.1)
 (ak (fits<|plus (len ([]:List fv))<|len<|sub a.2.1 0<|minus b.1.1 0)
 (ak (fits<|plus (len<|app []<|sub a.2.1 0<|minus b.1.1 0)<|len ([(x.2.1,x.2.2.1,())]:List fv))
 (ak (inside b.1.1 (len a.2.1)<|len a.2.1)
 (ak (fits<|plus (len<|app (app []<|sub a.2.1 0<|minus b.1.1 0) [(x.2.1,x.2.2.1,())])<|len<|sub a.2.1 b.1.1<|minus (len a.2.1) b.1.1)
 (aa ((x.1.1,x.1.2.1,x.1.2.2.1,x.1.2.2.2.1,app (app (app ([]:List fv)<|sub a.2.1 0<|minus b.1.1 0) ([(x.2.1,x.2.2.1,())]:List fv))<|sub a.2.1 b.1.1<|minus (len a.2.1) b.1.1,x.1.2.2.2.2.2),()))
 af)
 af)
 af)
 af)
 af))
def iX(x:bp×Sb×aj)(d:Int×aj)(a:(aj×aj×Int×aj)×(List Sb)×(List nQ)×aj):Option (Vi⊕Vi) :=
 cq (ak (aL a.1.2.2.1<|len x.1.2.2.1)
 (ae (ak (nt<|aG a.1.2.2.1 d.1)
 (ae (idx x.1.2.2.1 a.1.2.2.1) λb=>ak (fits<|plus (len a.2.2.1)<|len ([b]:List nQ))
 (ae (j6 (x.1,a.1.2.2.1,())) λc=>ak (fits<|plus (len a.2.1)<|len [c.1])
 (aa (((),(),()),app a.2.1 [c.1],app a.2.2.1 [b],()))
 af)
 af)
 (aa (((),(),()),a.2.1,a.2.2.1,()))) λb=>aa (az (((),(),aw i64 a.1.2.2.1 1,()),b.2.1,b.2.2.1,())))
 (aa<|aA (0,((),(),a.1.2.2.1,()),a.2.1,a.2.2.1,())))
def mL(x:bp×Sb×aj):Option (bp×aj) :=
 ae (sM (x.1,x.2.1,())) (λb=>ae (Loop (iX x b) (((),(),0,()),[],[],())) λa=>ae (nk ((x.1.1,x.1.2.1,a.2.2.1,a.2.1,x.1.2.2.2.2),x.2.1,0,())) λc=>aa (c.1,()))
def xP(x:bp×Sb×aj):Option (bp×jo×aj) :=
 ae (eR (x.1,x.2.1,())) (λa=>ak (nt<|aG a.2.1 0)
 (ae (bR (a.2.1,())) λb=>aa (x.1,b.1,()))
 (ae (sU (x.1,a.1,())) λb=>ae (ak (nt b.1)
 (ae (fw (x.1,a.1,())) λc=>aa (aL 0 c.1))
 (aa true)) λc=>ak c
 (ae (bR (7,())) λd=>aa (x.1,d.1,()))
 (ae (mL (x.1,a.1,())) λd=>aa (d.1,(0,a.1,0,[],()),()))))
def AQ(x:bp×Sb×aj):Option (jo×aj) :=
 ae (eR (x.1,x.2.1,())) (λa=>ak (nt<|aG a.2.1 0)
 (ae (bR (a.2.1,())) λb=>aa (b.1,()))
 (ae (qj (x.1,a.1,())) λb=>aa ((0,a.1,0,b.2.1,()),())))
def vO(x:bp×Sb×aj):Option (jo×aj) :=
 ae (eR (x.1,x.2.1,())) (λb=>ak (nt<|aG b.2.1 0)
 (ae (bR (b.2.1,())) λc=>aa (c.1,()))
 (ae (ma (x.1,b.1,())) λc=>ak (nt<|aG c.2.1 0)
 (ae (bR (c.2.1,())) λd=>aa (d.1,()))
 (ae (qj (x.1,b.1,())) λd=>ae (ak (nt<|bt d.1.2.1 [])
 (ae (ma (x.1,d.1.2.1,())) λa=>ak (nt<|aG a.2.1 0)
 (ae (bR (a.2.1,())) λe=>aa (1,(([]:List aer),()),e.1,()))
 (aa (0,(a.1,()),(0,[],0,[],()),())))
 (aa (0,([],()),(0,[],0,[],()),()))) λa=>ak (cl a.1 0)
 (ae (mF (a.2.1.1,c.1,())) λe=>ae (sE (e.1,())) λf=>aa ((0,b.1,0,f.1,()),()))
 (aa (a.2.2.1,())))))
def zk(x:bp×Sb×aj):Option (bp×jo×aj) :=
 ae (eR (x.1,x.2.1,())) (λa=>ak (nt<|aG a.2.1 0)
 (ae (bR (a.2.1,())) λb=>aa (x.1,b.1,()))
 (ae (fw (x.1,a.1,())) λb=>ak (ch 1000 b.1)
 (ae (bR (5,())) λc=>aa (x.1,c.1,()))
 (ae (nk (x.1,a.1,aw i64 b.1 1,())) λc=>aa (c.1,(0,a.1,aw i64 b.1 1,[],()),()))))
def vP(x:bp×Sb×aj):Option (bp×jo×aj) :=
 ae (eR (x.1,x.2.1,())) (λa=>ak (nt<|aG a.2.1 0)
 (ae (bR (a.2.1,())) λb=>aa (x.1,b.1,()))
 (ae (fw (x.1,a.1,())) λb=>ak (aL b.1 1)
 (ae (bR (11,())) λc=>aa (x.1,c.1,()))
 (ae (nk (x.1,a.1,cA i64 b.1 1,())) λc=>aa (c.1,(0,a.1,cA i64 b.1 1,[],()),()))))
def iw(x:Int×aj):Option (jo×aj) :=
 aa ((x.1,[],0,[],()),())
def np(x:bp×aj):Option ((List Dt)×aj) :=
 ae (rn (2,(0,([]:List nQ),x.1.2.1,([]:List jm),()),())) (λa=>aa (a.1,()))
def Km(x:bp×Sb×aj)(a:(Int×Int×aj)×aj):Option (MN⊕MM) :=
 ak (aL a.1.2.1<|len x.1.2.1)
 (ae (idx x.1.2.1 a.1.2.1) λb=>ak (bt b.1 x.2.1)
 (aa<|aA (1,(a.1.2.1,a.1.2.1,()),()))
 (aa<|az ((a.1.1,aw i64 a.1.2.1 1,()),())))
 (aa<|aA (0,(a.1.1,a.1.2.1,()),()))
def wH(x:bp×Sb×aj):Option (Int×aj) :=
 ae (Loop (Km x) ((0,0,()),())) (λa=>ak (cl a.1 0)
 (aa ((-1),()))
 (aa (a.2.1.1,())))
def ry(x:bp×Sb×aj)(c:Int×aj)(a:qm×(List jn)×aj):Option ((qm×(List jn)×aj)⊕(qm×(List jn)×aj)) :=
 cq (ak (aL a.1.2.1<|len x.1.2.1)
 (ae (ak (nt<|aG a.1.2.1 c.1)
 (ae (idx x.1.2.1 a.1.2.1) λb=>ak (fits<|plus (len a.2.1)<|len ([b]:List jn))
 (aa (((),()),app a.2.1 [b],()))
 af)
 (aa (((),()),a.2.1,()))) λb=>aa (az (((),aw i64 a.1.2.1 1,()),b.2.1,())))
 (aa<|aA (0,((),a.1.2.1,()),a.2.1,())))
def mM(x:bp×Sb×aj):Option (bp×aj) :=
 ae (wH (x.1,x.2.1,())) (λa=>ae (Loop (ry x a) (((),0,()),[],())) λb=>aa ((x.1.1,b.2.1,x.1.2.2),()))
def sV(x:bp×jn×aj)(b:bp×aj)(a:(Int×aj)×aj):Option (zX⊕zX) :=
 cq (ak (aL a.1.1<|len b.1.2.1)
 (ae (idx b.1.2.1 a.1.1) λc=>ak (fM c.1 x.2.1.1)
 (aa<|az ((aw i64 a.1.1 1,()),()))
 (aa<|aA (0,(a.1.1,()),())))
 (aa<|aA (0,(a.1.1,()),())))
def rN(x:bp×jn×aj):Option (bp×aj) :=
 ae (mM (x.1,x.2.1.1,())) (λa=>ae (Loop (sV x a) ((0,()),())) λb=>ak (inside 0 b.1.1<|len a.1.2.1)
 (ak (fits<|plus (len ([]:List jn))<|len<|sub a.1.2.1 0<|minus b.1.1 0)
 (ak (fits<|plus (len<|app ([]:List jn)<|sub a.1.2.1 0<|minus b.1.1 0)<|len [x.2.1])
 (ak (inside b.1.1 (len a.1.2.1)<|len a.1.2.1)
 (ak (fits<|plus (len<|app (app ([]:List jn)<|sub a.1.2.1 0<|minus b.1.1 0) [x.2.1])<|len<|sub a.1.2.1 b.1.1<|minus (len a.1.2.1) b.1.1)
 (aa ((a.1.1,app (app (app ([]:List jn)<|sub a.1.2.1 0<|minus b.1.1 0) ([x.2.1]:List jn))<|sub a.1.2.1 b.1.1<|minus (len a.1.2.1) b.1.1,a.1.2.2),()))
 af)
 af)
 af)
 af)
 af)
def sW(x:bp×Sb×(List Sb)×Sb×Int×aj):Option (bp×jo×aj) :=
 ae (gj (x.2.2.1,())) (λg=>ak (ak (nt<|nt<|aG g.1 0)
 (aL 64<|len x.2.2.2.1)
 true)
 (ae (iw (1,())) λa=>aa (x.1,a.1,()))
 (ae (ak (nt<|bt x.2.1 [])
 (ae (eR (x.1,x.2.1,())) λa=>ak (nt<|aG a.2.1 0)
 (ae (iw (a.2.1,())) λc=>aa (1,([],()),c.1,x.1,()))
 (aa (0,(a.1,()),(0,[],0,[],()),(([]:List jm),([]:List jn),([]:List nQ),[],([]:List fv),()),())))
 (aa (0,([],()),(0,[],0,[],()),(([]:List jm),([]:List jn),([]:List nQ),[],([]:List fv),()),()))) λa=>ak (cl a.1 0)
 (ae (np (x.1,())) λc=>ae (l6 (c.1,[],x.2.2.1,())) λf=>ak (nt<|aG f.1 0)
 (ae (iw (f.1,())) λd=>aa (x.1,d.1,()))
 (ae (np (x.1,())) λd=>ae (ni (d.1,x.2.2.2.2.1,())) λb=>ak (nt<|aG b.2.1 0)
 (ae (iw (b.2.1,())) λe=>aa (x.1,e.1,()))
 (ae (rN (x.1,(b.1,x.2.2.1,a.2.1.1,x.2.2.2.1,([]:List KW),()),())) λe=>aa (e.1,(0,b.1,0,[],()),()))))
 (aa (a.2.2.2.1,a.2.2.1,()))))
def sX(x:bp×Sb×aj):Option fv :=
 ae (np (x.1,())) (λb=>ae (j7 (b.1,x.2.1,())) λa=>aa (a.1,a.2.1,()))
def nS(x:bp×Sb×aj)(b:Sb×Int×aj)(a:(Int×aj)×jo×bp×aj):Option (((Int×aj)×jo×bp×aj)⊕(Nat×(Int×aj)×jo×bp×aj)) :=
 ak (aL a.1.1<|len x.1.1)
 (ae (idx x.1.1 a.1.1) λc=>ak (bt c.2.2.1 b.1)
 (ae (iw (7,())) λd=>aa (aA (1,(a.1.1,()),d.1,x.1,())))
 (aa<|az ((aw i64 a.1.1 1,()),a.2.1,a.2.2.1,())))
 (aa<|aA (0,(a.1.1,()),a.2.1,a.2.2.1,()))
def sY(x:bp×Sb×aj):Option (bp×jo×aj) :=
 ae (sX (x.1,x.2.1,())) (λa=>ak (nt<|aG a.2.1 0)
 (ae (iw (a.2.1,())) λb=>aa (x.1,b.1,()))
 (ae (Loop (nS x a) ((0,()),(0,[],0,[],()),(([]:List jm),([]:List jn),([]:List nQ),[],([]:List fv),()),())) λb=>ak (cl b.1 0)
 (ae (mM (x.1,a.1,())) λc=>aa (c.1,(0,a.1,0,[],()),()))
 (aa (b.2.2.2.1,b.2.2.1,()))))
def gl(x:Int×aj):Option (jo×aj) :=
 aa ((x.1,[],0,[],()),())
def oG(x:bp×Sb×aj):Option (jn×Bool×aj) :=
 ae (wH (x.1,x.2.1,())) (λa=>ak (aL a.1 0)
 (aa (([],[],[],[],([]:List KW),()),false,()))
 (ae (idx x.1.2.1 a.1) λb=>aa (b,true,())))
def nq(x:bp×aj):Option ((List Dt)×aj) :=
 ae (rn (1,(0,([]:List nQ),([]:List jn),x.1.1,()),())) (λa=>aa (a.1,()))
def Kn(x:bp×Sb×aj)(a:(Int×Int×aj)×aj):Option (MN⊕MM) :=
 ak (aL a.1.2.1<|len x.1.1)
 (ae (idx x.1.1 a.1.2.1) λb=>ak (bt b.1 x.2.1)
 (aa<|aA (1,(a.1.2.1,a.1.2.1,()),()))
 (aa<|az ((a.1.1,aw i64 a.1.2.1 1,()),())))
 (aa<|aA (0,(a.1.1,a.1.2.1,()),()))
def wI(x:bp×Sb×aj):Option (Int×aj) :=
 ae (Loop (Kn x) ((0,0,()),())) (λa=>ak (cl a.1 0)
 (aa ((-1),()))
 (aa (a.2.1.1,())))
def rz(x:bp×Sb×aj)(c:Int×aj)(a:qm×(List jm)×aj):Option ((qm×(List jm)×aj)⊕(qm×(List jm)×aj)) :=
 cq (ak (aL a.1.2.1<|len x.1.1)
 (ae (ak (nt<|aG a.1.2.1 c.1)
 (ae (idx x.1.1 a.1.2.1) λb=>ak (fits<|plus (len a.2.1)<|len ([b]:List jm))
 (aa (((),()),app a.2.1 [b],()))
 af)
 (aa (((),()),a.2.1,()))) λb=>aa (az (((),aw i64 a.1.2.1 1,()),b.2.1,())))
 (aa<|aA (0,((),a.1.2.1,()),a.2.1,())))
def mN(x:bp×Sb×aj):Option (bp×aj) :=
 ae (wI (x.1,x.2.1,())) (λa=>ae (Loop (rz x a) (((),0,()),[],())) λb=>aa ((b.2.1,x.1.2),()))
def sZ(x:bp×jm×aj)(b:bp×aj)(a:(Int×aj)×aj):Option (zX⊕zX) :=
 cq (ak (aL a.1.1<|len b.1.1)
 (ae (idx b.1.1 a.1.1) λc=>ak (fM c.1 x.2.1.1)
 (aa<|az ((aw i64 a.1.1 1,()),()))
 (aa<|aA (0,(a.1.1,()),())))
 (aa<|aA (0,(a.1.1,()),())))
def rO(x:bp×jm×aj):Option (bp×aj) :=
 ae (mN (x.1,x.2.1.1,())) (λa=>ae (Loop (sZ x a) ((0,()),())) λb=>ak (inside 0 b.1.1<|len a.1.1)
 (ak (fits<|plus (len ([]:List jm))<|len<|sub a.1.1 0<|minus b.1.1 0)
 (ak (fits<|plus (len<|app ([]:List jm)<|sub a.1.1 0<|minus b.1.1 0)<|len [x.2.1])
 (ak (inside b.1.1 (len a.1.1)<|len a.1.1)
 (ak (fits<|plus (len<|app (app ([]:List jm)<|sub a.1.1 0<|minus b.1.1 0) [x.2.1])<|len<|sub a.1.1 b.1.1<|minus (len a.1.1) b.1.1)
 (aa ((app (app (app ([]:List jm)<|sub a.1.1 0<|minus b.1.1 0) ([x.2.1]:List jm))<|sub a.1.1 b.1.1<|minus (len a.1.1) b.1.1,a.1.2),()))
 af)
 af)
 af)
 af)
 af)
def s6(x:bp×Sb×(List Sb)×Sb×Int×aj):Option (bp×jo×aj) :=
 ae (gj (x.2.2.1,())) (λh=>ak (ak (nt<|nt<|aG h.1 0)
 (aL 64<|len x.2.2.2.1)
 true)
 (ae (gl (1,())) λa=>aa (x.1,a.1,()))
 (ae (ak (nt<|bt x.2.1 [])
 (ae (sX (x.1,x.2.1,())) λa=>ak (nt<|aG a.2.1 0)
 (ae (gl (a.2.1,())) λc=>aa (1,([],[],()),c.1,x.1,()))
 (ae (oG (x.1,a.1,())) λc=>aa (0,(a.1,c.1.2.2.1,()),(0,[],0,[],()),(([]:List jm),([]:List jn),([]:List nQ),[],([]:List fv),()),())))
 (aa (0,([],[],()),(0,[],0,[],()),(([]:List jm),([]:List jn),([]:List nQ),[],([]:List fv),()),()))) λa=>ak (cl a.1 0)
 (ae (nq (x.1,())) λc=>ae (l6 (c.1,[],x.2.2.1,())) λg=>ak (nt<|aG g.1 0)
 (ae (gl (g.1,())) λe=>aa (x.1,e.1,()))
 (ae (nq (x.1,())) λe=>ae (ni (e.1,gM i64 x.2.2.2.2.1 16777215,())) λd=>ak (nt<|aG d.2.1 0)
 (ae (gl (d.2.1,())) λb=>aa (x.1,b.1,()))
 (ae (oE (x.1,a.2.1.2.1,[],[],gM i64 (jt i64 x.2.2.2.2.1 24) 16777215,())) λb=>ak (nt<|aG b.2.1.1 0)
 (ae (gl (b.2.1.1,())) λf=>aa (x.1,f.1,()))
 (ae (rO (b.1,(d.1,x.2.2.1,a.2.1.1,b.2.1.2.1,x.2.2.2.1,([]:List KW),()),())) λf=>aa (f.1,(0,d.1,0,b.2.1.2.1,()),())))))
 (aa (a.2.2.2.1,a.2.2.1,()))))
def AR(x:bp×Sb×aj):Option fv :=
 ae (nq (x.1,())) (λb=>ae (j7 (b.1,x.2.1,())) λa=>aa (a.1,a.2.1,()))
def rP(x:bp×Sb×aj):Option (jm×Bool×aj) :=
 ae (wI (x.1,x.2.1,())) (λa=>ak (aL a.1 0)
 (aa (([],[],[],[],[],([]:List KW),()),false,()))
 (ae (idx x.1.1 a.1) λb=>aa (b,true,())))
def s7(x:bp×Sb×aj):Option (bp×jo×aj) :=
 ae (AR (x.1,x.2.1,())) (λa=>ak (nt<|aG a.2.1 0)
 (ae (gl (a.2.1,())) λb=>aa (x.1,b.1,()))
 (ae (rP (x.1,a.1,())) λb=>ae (mN (x.1,a.1,())) λe=>ae (fw (x.1,b.1.2.2.2.1,())) λf=>ae (ak (nt<|aL 0 f.1)
 (ae (sU (e.1,b.1.2.2.2.1,())) λc=>aa c.1)
 (aa true)) λc=>ak c
 (ae (gl (7,())) λd=>aa (x.1,d.1,()))
 (ae (mL (e.1,b.1.2.2.2.1,())) λd=>aa (d.1,(0,a.1,0,[],()),()))))
def fg(x:Int×aj):Option (jo×aj) :=
 aa ((x.1,[],0,[],()),())
def uS(x:bp×Int×aj):Option ((List Dt)×aj) :=
 ae (rn (x.2.1,(0,x.1.2.2.1,x.1.2.1,x.1.1,()),())) (λa=>aa (a.1,()))
def wJ(x:bp×SH×aj):Option (bp×jo×aj) :=
 ak (ak (nt<|aG x.2.1.2.1 2)
 (nt<|aG x.2.1.2.1 1)
 false)
 (ae (fg (1,())) λf=>aa (x.1,f.1,()))
 (ae (uS (x.1,x.2.1.2.1,())) λf=>ae (j7 (f.1,x.2.1.2.2.1,())) λd=>ak (nt<|aG d.2.1 0)
 (ae (fg (d.2.1,())) λa=>aa (x.1,a.1,()))
 (ae (oG (x.1,d.1,())) λa=>ae (rP (x.1,d.1,())) λb=>ak (aG x.2.1.1 10)
 (ae (qN (((ak (aG x.2.1.2.1 1)
 ((b.1.2.2.2.2.2.1,()),())
 ((a.1.2.2.2.2.1,()),())).1).1,x.2.1.2.2.2.2.2.2.1,())) λc=>ak (nt<|aG c.2.1 0)
 (ae (fg (c.2.1,())) λe=>aa (x.1,e.1,()))
 (aa (x.1,(0,d.1,0,c.1,()),())))
 (ae (qM (((ak (aG x.2.1.2.1 1)
 ((b.1.2.2.2.2.2.1,()),())
 ((a.1.2.2.2.2.1,()),())).1).1,x.2.1.2.2.2.2.2.2.1,x.2.1.2.2.2.2.2.1,())) λc=>ak (nt<|aG c.2.1 0)
 (ae (fg (c.2.1,())) λe=>aa (x.1,e.1,()))
 (ak (aG x.2.1.2.1 1)
 (ae (rO (x.1,(b.1.1,b.1.2.1,b.1.2.2.1,b.1.2.2.2.1,b.1.2.2.2.2.1,c.1,b.1.2.2.2.2.2.2),())) λe=>aa (e.1,(0,d.1,0,[],()),()))
 (ae (rN (x.1,(a.1.1,a.1.2.1,a.1.2.2.1,a.1.2.2.2.1,c.1,a.1.2.2.2.2.2),())) λe=>aa (e.1,(0,d.1,0,[],()),()))))))
def qY(x:(List Dt)×aj)(b:fv×aj)(a:fv×aj):Option ((fv×aj)⊕(fv×aj)) :=
 cq (ae (idx x.1 b.1.2.1) λd=>ak (aL a.1.2.1<|len d.2.1)
 (ak (fits<|plus (len a.1.1)<|len ([32]:bb))
 (ae (idx x.1 b.1.2.1) λe=>ae (idx e.2.1 a.1.2.1) λc=>ak (fits<|plus (len<|app a.1.1 [32])<|len c)
 (aa<|az ((app (app a.1.1 [32]) c,aw i64 a.1.2.1 1,()),()))
 af)
 af)
 (aa<|aA (0,(a.1.1,a.1.2.1,()),())))
def qZ(x:(List Dt)×aj)(a:fv×aj):Option ((fv×aj)⊕(fv×aj)) :=
 cq (ak (aL a.1.2.1<|len x.1)
 (ae (idx x.1 a.1.2.1) λb=>ak (fits<|plus (len a.1.1)<|len b.1)
 (ae (Loop (qY x a) ((app a.1.1 b.1,0,()),())) λc=>ak (fits<|plus (len c.1.1)<|len ([10]:bb))
 (aa<|az ((app c.1.1 [10],aw i64 a.1.2.1 1,()),()))
 af)
 af)
 (aa<|aA (0,(a.1.1,a.1.2.1,()),())))
def AU(x:(List Dt)×aj):Option (Sb×aj) :=
 ae (Loop (qZ x) (([],0,()),())) (λa=>aa (a.1.1,()))
def mj(x:bp×Int×Sb×(List Sb)×aj)(b:(aj×Bool×Int×aj)×(List nQ)×aj):Option (((aj×Bool×Int×aj)×(List nQ)×aj)⊕((aj×Bool×Int×aj)×(List nQ)×aj)) :=
 cq (ak (aL b.1.2.2.1<|len x.1.2.2.1)
 (ae (idx x.1.2.2.1 b.1.2.2.1) λa=>ak (fits<|plus (len b.2.1)<|len ([((ak (ak (bt a.1 x.2.2.1)
 (nt b.1.2.1)
 false)
 ((true,()),(a.1,a.2.1,x.2.2.2.1,a.2.2.2),())
 ((b.1.2.1,()),a,())).2).1]:List nQ))
 (aa<|az (((),((ak (ak (bt a.1 x.2.2.1)
 (nt b.1.2.1)
 false)
 ((true,()),(a.1,a.2.1,x.2.2.2.1,a.2.2.2),())
 ((b.1.2.1,()),a,())).1).1,aw i64 b.1.2.2.1 1,()),app b.2.1 [((ak (ak (bt a.1 x.2.2.1)
 (nt b.1.2.1)
 false)
 ((true,()),(a.1,a.2.1,x.2.2.2.1,a.2.2.2),())
 ((b.1.2.1,()),a,())).2).1],()))
 af)
 (aa<|aA (0,((),b.1.2.1,b.1.2.2.1,()),b.2.1,())))
def gT(x:bp×Int×Sb×(List Sb)×aj):Option (bp×aj) :=
 ak (aG x.2.1 1)
 (ae (rP (x.1,x.2.2.1,())) λa=>ae (rO (x.1,(a.1.1,x.2.2.2.1,a.1.2.2),())) λb=>aa (b.1,()))
 (ak (aG x.2.1 2)
 (ae (oG (x.1,x.2.2.1,())) λa=>ae (rN (x.1,(a.1.1,x.2.2.2.1,a.1.2.2),())) λb=>aa (b.1,()))
 (ae (Loop (mj x) (((),false,0,()),[],())) λa=>aa ((x.1.1,x.1.2.1,a.2.1,x.1.2.2.2),())))
def s8(x:bp×SH×aj):Option (bp×jo×aj) :=
 ak (ak (nt<|aL x.2.1.2.1 1)
 (aL 3 x.2.1.2.1)
 true)
 (ae (fg (1,())) λb=>aa (x.1,b.1,()))
 (ae (uS (x.1,x.2.1.2.1,())) λb=>ak (aG x.2.1.1 15)
 (ae (AU (b.1,())) λc=>aa (x.1,(0,[],0,c.1,()),()))
 (ae (ak (aG x.2.1.1 13)
 (ae (gj (x.2.1.2.2.2.2.1,())) λc=>aa (nt<|aG c.1 0))
 (aa false)) λc=>ak c
 (ae (fg (1,())) λa=>aa (x.1,a.1,()))
 (ae (j7 (b.1,x.2.1.2.2.1,())) λa=>ak (nt<|aG a.2.1 0)
 (ae (fg (a.2.1,())) λd=>aa (x.1,d.1,()))
 (ak (aG x.2.1.1 14)
 (aa (x.1,(0,a.1,0,[],()),()))
 (ae (l6 (b.1,a.1,x.2.1.2.2.2.2.1,())) λd=>ak (nt<|aG d.1 0)
 (ae (fg (d.1,())) λe=>aa (x.1,e.1,()))
 (ae (gT (x.1,x.2.1.2.1,a.1,x.2.1.2.2.2.2.1,())) λe=>aa (e.1,(0,a.1,0,[],()),())))))))
def AV(x:bp×SH×aj):Option (bp×jo×aj) :=
 ak (aG x.2.1.1 1)
 (ae (oE (x.1,x.2.1.2.2.2.1,x.2.1.2.2.2.2.1,x.2.1.2.2.2.2.2.1,x.2.1.2.2.2.2.2.2.2.1,())) λa=>aa (a.1,a.2.1,()))
 (ak (aG x.2.1.1 2)
 (ae (xP (x.1,x.2.1.2.2.1,())) λa=>aa (a.1,a.2.1,()))
 (ak (aG x.2.1.1 3)
 (ae (AQ (x.1,x.2.1.2.2.1,())) λa=>aa (x.1,a.1,()))
 (ak (aG x.2.1.1 4)
 (ae (vO (x.1,x.2.1.2.2.1,())) λa=>aa (x.1,a.1,()))
 (ak (aG x.2.1.1 5)
 (ae (zk (x.1,x.2.1.2.2.1,())) λa=>aa (a.1,a.2.1,()))
 (ak (aG x.2.1.1 6)
 (ae (vP (x.1,x.2.1.2.2.1,())) λa=>aa (a.1,a.2.1,()))
 (ak (aG x.2.1.1 7)
 (ae (sW (x.1,x.2.1.2.2.2.1,x.2.1.2.2.2.2.1,x.2.1.2.2.2.2.2.1,x.2.1.2.2.2.2.2.2.2.1,())) λa=>aa (a.1,a.2.1,()))
 (ak (aG x.2.1.1 8)
 (ae (sY (x.1,x.2.1.2.2.1,())) λa=>aa (a.1,a.2.1,()))
 (ak (aG x.2.1.1 11)
 (ae (s6 (x.1,x.2.1.2.2.2.1,x.2.1.2.2.2.2.1,x.2.1.2.2.2.2.2.1,x.2.1.2.2.2.2.2.2.2.1,())) λa=>aa (a.1,a.2.1,()))
 (ak (aG x.2.1.1 12)
 (ae (s7 (x.1,x.2.1.2.2.1,())) λa=>aa (a.1,a.2.1,()))
 (ak (((ak (aG x.2.1.1 9)
 ((aG x.2.1.1 9,()),())
 ((aG x.2.1.1 10,()),())).1).1)
 (ae (wJ (x.1,x.2.1,())) λa=>aa (a.1,a.2.1,()))
 (ak (((ak (aG x.2.1.1 13)
 ((aG x.2.1.1 13,()),())
 ((((ak (aG x.2.1.1 14)
 ((aG x.2.1.1 14,()),())
 ((aG x.2.1.1 15,()),())).1).1,()),())).1).1)
 (ae (s8 (x.1,x.2.1,())) λa=>aa (a.1,a.2.1,()))
 (ae (fg (1,())) λa=>aa (x.1,a.1,())))))))))))))
end Go.Ge
namespace Go.Ge
variable [Lp]
set_option maxRecDepth 100000
abbrev e9:=((List<|Sb×(List Sb)×Sb×Sb×Sb×(List<|Sb×Sb×Sb×aj)×aj)×(List<|Sb×(List Sb)×Sb×Sb×(List<|Sb×Sb×Sb×aj)×aj)×(List<|Sb×Sb×(List Sb)×Sb×Int×Int×Bool×aj)×(List Sb)×(List<|Sb×Int×aj)×aj)
abbrev dL:=(Int×(Int×Int×Sb×Sb×(List Sb)×Sb×Sb×Int×aj)×Int×Int×Int×(Int×Sb×Int×Sb×aj)×aj)
abbrev ZG:=(Int×Int×Sb×Sb×(List Sb)×Sb×Sb×Int×aj)
abbrev wK:=(((List dL)×(List<|Int)×aj)×(e9×(List<|Bool)×Int×(List<|Int)×aj)×aj)
abbrev uT:=(Sb×(List Sb)×Sb×Sb×Sb×(List<|Sb×Sb×Sb×aj)×aj)
abbrev uU:=(Sb×(List Sb)×Sb×Sb×(List<|Sb×Sb×Sb×aj)×aj)
abbrev uV:=(Sb×Sb×(List Sb)×Sb×Int×Int×Bool×aj)
abbrev ZH:=(Int×Sb×Int×Sb×aj)
abbrev er:=(Bool×Int×aj)
abbrev aes:=(Nat×er×aj)
abbrev oH:=(Sb×Int×aj)
abbrev cN:=((List dL)×(List<|Int)×aj)
abbrev iY:=(e9×(List<|Bool)×Int×(List<|Int)×aj)
abbrev aet:=(er×aj)
abbrev mO:=(Int×Int×aj)
abbrev MP:=(Bool×(List<|Bool)×Int×Int×aj)
abbrev s9:=(aet⊕aes)
abbrev GD:=((Bool×aj)×(List<|Int)×aj)
abbrev zY:=(wK×(List<|Int)×aj)
abbrev GF:=(Bool×Int×Int×aj)
abbrev aeu:=(Nat×MP×e9×e9×aj)
def kv(l:List Int)(x:aj):Option (List Int):=aa (Lib.compact (α:=Int) l)
def tc(x:cN×aj)(a:er×aj):Option s9 :=
 ak (ak (aL a.1.2.1<|len x.1.1)
 (aL a.1.2.1 20)
 false)
 (ae (idx x.1.1 a.1.2.1) λc=>ae (ak (nt<|aL 100<|len c.2.2.2.2.2.1.2.1)
 (ae (idx x.1.1 a.1.2.1) λb=>aa (aL 16384<|len b.2.2.2.2.2.1.2.2.2.1))
 (aa true)) λb=>ak b
 (aa<|aA (1,(false,a.1.2.1,()),()))
 (aa<|az ((a.1.1,aw i64 a.1.2.1 1,()),())))
 (aa<|aA (0,(a.1.1,a.1.2.1,()),()))
def Cr(x:cN×aj):Option (Bool×aj) :=
 ae (Loop (tc x) ((false,(0:Int),()),())) (λa=>ak (cl a.1 0)
 (aa (ak (ch (len x.1.1) 20)
 (ch (len x.1.2.1) 10)
 false,()))
 (aa (a.2.1.1,())))
def td(x:e9×cN×aj)(a:er×aj):Option s9 :=
 ak (ak (aL a.1.2.1<|len x.2.1.1)
 (aL a.1.2.1 5)
 false)
 (ae (idx x.2.1.1 a.1.2.1) λb=>ae (ql (b.2.1,())) λc=>ak (nt c.1)
 (aa<|aA (1,(false,a.1.2.1,()),()))
 (aa<|az ((a.1.1,aw i64 a.1.2.1 1,()),())))
 (aa<|aA (0,(a.1.1,a.1.2.1,()),()))
def Cs(x:e9×cN×aj):Option (Bool×aj) :=
 ae (Loop (td x) ((false,(0:Int),()),())) (λb=>ak (cl b.1 0)
 (ae (yM (x.1,())) λc=>ae (ak (ak c.1
 (ch (len x.2.1.1) 5)
 false)
 (ae (Cr (x.2.1,())) λa=>aa a.1)
 (aa false)) λa=>aa (a,()))
 (aa (b.2.1.1,())))
def uW(x:dL×Int×aj):Option (Bool×aj) :=
 aa (ak (ak (nt<|aG x.2.1 x.1.2.2.1)
 (nt<|aG x.2.1 x.1.2.2.2.1)
 false)
 (ak (nt<|aL x.2.1 x.1.2.2.1)
 (ak (nt<|aG x.1.2.2.2.2.1 3)
 (aL x.1.2.2.2.1 x.2.1)
 false)
 true)
 false,())
def nT(x:dL×aj):Option (Bool×aj) :=
 ak (aG x.1.2.2.2.2.1 1)
 (aa (aL x.1.2.2.1 x.1.2.2.2.1,()))
 (ak (aG x.1.2.2.2.2.1 2)
 (aa (ak (aL x.1.2.2.1 x.1.2.2.2.1)
 (an (aG x.1.2.2.2.2.2.1.1 0)<|an (bt x.1.2.2.2.2.2.1.2.1 ([]:bb))<|an (aG x.1.2.2.2.2.2.1.2.2.1 0)<|an (bt x.1.2.2.2.2.2.1.2.2.2.1 ([]:bb)) true)
 false,()))
 (ak (aG x.1.2.2.2.2.1 3)
 (aa (ak (aG x.1.2.2.2.1 0)
 (an (aG x.1.2.2.2.2.2.1.1 0)<|an (bt x.1.2.2.2.2.2.1.2.1 ([]:bb))<|an (aG x.1.2.2.2.2.2.1.2.2.1 0)<|an (bt x.1.2.2.2.2.2.1.2.2.2.1 ([]:bb)) true)
 false,()))
 (aa (false,()))))
def AW(x:(List<|Int)×aj):Option ((List<|Int)×aj) :=
 bif fits (len x.1) then aa (x.1,()) else af
def ra(x:Int×aj):Option (Bool×aj) :=
 aa (nt<|aG x.1 x.1,())
def te(x:Int×Int×aj):Option (Bool×aj) :=
 ae (ra (x.1,())) (λb=>ae (ak b.1
 (ae (ra (x.2.1,())) λa=>aa (nt a.1))
 (aa false)) λa=>aa (ak (nt a)
 (aL x.1 x.2.1)
 true,()))
def eS(x:(List<|Int)×aj)(a:er×aj):Option s9 :=
 ak (aL 0 a.1.2.1)
 (ae (idx x.1 a.1.2.1) λb=>ae (idx x.1<|cA i64 a.1.2.1 1) λc=>ae (te (b,c,())) λd=>ak d.1
 (aa<|aA (1,(false,a.1.2.1,()),()))
 (aa<|az ((a.1.1,cA i64 a.1.2.1 1,()),())))
 (aa<|aA (0,(a.1.1,a.1.2.1,()),()))
def fR(x:(List<|Int)×aj):Option (Bool×aj) :=
 ae (Loop (eS x) ((false,cA i64 (len x.1) 1,()),())) (λa=>ak (cl a.1 0)
 (aa (true,()))
 (aa (a.2.1.1,())))
def tf(x:(List<|Int)×aj):Option (Bool×aj) :=
 ae (fR (x.1,())) (λa=>ak a.1
 (ak (fits<|len x.1)
 (ae (kv x.1 ()) λb=>aa (aG (len b)<|len x.1,()))
 af)
 (aa (false,())))
def iZ(b:(Int×Int×Int×aj)×cN×aj)(a:mO×dL×aj):Option ((mO×dL×aj)⊕(Nat×mO×dL×aj)) :=
 ak (aL a.1.2.1<|len<|sub b.2.1.1 (0:Int)<|minus b.1.2.2.1 0)
 (ae (idx (sub b.2.1.1 (0:Int)<|minus b.1.2.2.1 0) a.1.2.1) λc=>ak (ak (aG c.1 a.2.1.1)
 (ak (nt<|aG c.2.2.2.2.1 3)
 (ch a.2.1.2.2.1 c.2.2.2.1)
 true)
 false)
 (aa<|aA (1,(a.1.2.1,a.1.2.1,()),a.2.1,()))
 (aa<|az ((a.1.1,aw i64 a.1.2.1 1,()),a.2.1,())))
 (aa<|aA (0,(a.1.1,a.1.2.1,()),a.2.1,()))
def ja(b:(Int×Int×Int×aj)×cN×aj)(a:mO×dL×aj):Option ((mO×dL×aj)⊕(Nat×mO×dL×aj)) :=
 ak (aL a.1.2.1<|len b.2.1.2.1)
 (ae (idx b.2.1.2.1 a.1.2.1) λc=>ae (uW (a.2.1,c,())) λd=>ak (nt d.1)
 (aa<|aA (1,(a.1.2.1,a.1.2.1,()),a.2.1,()))
 (aa<|az ((a.1.1,aw i64 a.1.2.1 1,()),a.2.1,())))
 (aa<|aA (0,(a.1.1,a.1.2.1,()),a.2.1,()))
def ga(x:cN×aj)(a:(Int×Int×Int×aj)×cN×aj):Option (((Int×Int×Int×aj)×cN×aj)⊕(Nat×(Int×Int×Int×aj)×cN×aj)) :=
 ak (aL a.1.2.2.1<|len x.1.1)
 (ae (idx x.1.1 a.1.2.2.1) λe=>ak (inside 0 a.1.2.2.1<|len a.2.1.1)
 (ae (ae (Loop (iZ a) (((0:Int),(0:Int),()),e,())) λc=>ak (cl c.1 0)
 (aa ((false,()),c.2.2.1,()))
 (aa ((ch 0 c.2.1.1,()),c.2.2.1,()))) λc=>ae (ae (Loop (ja a) (((0:Int),(0:Int),()),c.2.1,())) λb=>ak (cl b.1 0)
 (aa ((false,()),b.2.2.1,()))
 (aa ((ch 0 b.2.1.1,()),b.2.2.1,()))) λb=>ae (ak (nt<|ch b.2.1.2.2.1 a.1.2.1)
 (ae (nT (b.2.1,())) λd=>aa (nt d.1))
 (aa true)) λd=>ak (ak (nt<|ak (nt d)
 (nt<|nt c.1.1)
 true)
 (nt<|nt b.1.1)
 true)
 (aa<|aA (1,((1:Int),a.1.2.1,a.1.2.2.1,()),a.2.1,()))
 (aa<|az ((a.1.1,b.2.1.2.2.1,aw i64 a.1.2.2.1 1,()),a.2.1,())))
 af)
 (aa<|aA (0,(a.1.1,a.1.2.1,a.1.2.2.1,()),a.2.1,()))
def fL(x:cN×aj):Option (Int×aj) :=
 ae (Loop (ga x) (((0:Int),(0:Int),(0:Int),()),x.1,())) (λa=>ak (cl a.1 0)
 (ae (tf (a.2.2.1.2.1,())) λb=>ak (nt b.1)
 (aa ((1:Int),()))
 (aa ((0:Int),())))
 (aa (a.2.1.1,())))
def wL(x:dL×aj):Option (Int×aj) :=
 ak (aG x.1.2.2.2.2.1 3)
 (aa ((9223372036854775807:Int),()))
 (aa (x.1.2.2.2.1,()))
def zl(x:(List<|Bool)×aj):Option ((List<|Bool)×aj) :=
 bif fits (len x.1) then aa (x.1,()) else af
def lA(x:dL×dL×aj):Option (Bool×aj) :=
 aa (ak (nt<|aG x.1.2.2.2.2.1 3)
 (aL x.1.2.2.2.1 x.2.1.2.2.1)
 false,())
def H4(l:List dL)(u:List Bool)(a:er×aj):Option ((er×aj)⊕(Nat×er×aj)) :=
 ak (aL a.1.2.1<|len l)
 (ae (idx l a.1.2.1) λb=>ae (idx u a.1.2.1) λc=>ak (ak (nt c)
 (aG b.2.2.2.2.1 1)
 false)
 (aa<|aA (1,(true,a.1.2.1,()),()))
 (aa<|az ((a.1.1,aw i64 a.1.2.1 1,()),())))
 (aa<|aA (0,(a.1.1,a.1.2.1,()),()))
def SI(l:List dL)(u:List Bool)(a:Int)(b:er×aj):Option ((er×aj)⊕(Nat×er×aj)) :=
 ak (aL b.1.2.1<|len l)
 (ae (idx l b.1.2.1) λc=>ae (idx u b.1.2.1) λd=>ak (ak (ak (nt d)
 (aG c.2.2.2.2.1 1)
 false)
 (aL c.2.2.2.1 a)
 false)
 (aa<|aA (1,(true,b.1.2.1,()),()))
 (aa<|az ((b.1.1,aw i64 b.1.2.1 1,()),())))
 (aa<|aA (0,(b.1.1,b.1.2.1,()),()))
def KX(l:List dL)(u:List Bool)(a:Int)(b:er×aj):Option ((er×aj)⊕(Nat×er×aj)) :=
 ak (aL b.1.2.1<|len l)
 (ae (idx l b.1.2.1) λc=>ak (within b.1.2.1<|len u)
 (ae (idx u b.1.2.1) λd=>ak (ak (ak (nt d)
 (aG c.2.2.2.2.1 1)
 false)
 (aL c.2.2.2.1 a)
 false)
 (aa<|aA (1,(true,b.1.2.1,()),()))
 (aa<|az ((b.1.1,aw i64 b.1.2.1 1,()),())))
 af)
 (aa<|aA (0,(b.1.1,b.1.2.1,()),()))
def aev(l:List dL)(e:dL)(y:(Int×aj)×(List Bool)×aj):Option (((Int×aj)×(List Bool)×aj)⊕((Int×aj)×(List Bool)×aj)) :=
 cq (ak (aL y.1.1<|len l)
 (ae (idx l y.1.1) λa=>ae (lA (a,e,())) λb=>ae (ak b.1
 (ak (within y.1.1<|len y.2.1)
 (ae (idx y.2.1 y.1.1) λ_=>ae (idx y.2.1 y.1.1) λ_=>ae (idx y.2.1 y.1.1) λ_=>aa ((),kh y.2.1 y.1.1 true,()))
 af)
 (aa ((),y.2.1,()))) λc=>aa (az ((aw i64 y.1.1 1,()),c.2.1,())))
 (aa<|aA (0,(y.1.1,()),y.2.1,())))
def MQ{U:Type}(l:List dL)(c:List Int)(p:iY)(w:U):Option ((iY×Bool×aj)×U) :=
 ae (ak (ch (len c) p.2.2.1)
 (aa true)
 (ae (idx c p.2.2.1) λb=>ae (ae (Loop (SI l p.2.1 b) ((false,0,()),())) λa=>ak (cl a.1 0)
 (aa ((false,()),()))
 (aa ((a.2.1.1,()),()))) λa=>aa a.1.1)) (λb=>ak b
 (aa (((([],[],[],[],[],()),[],0,[],()),false,()),w))
 (ak (fits<|len p.2.2.2.1)
 (ak (fits<|plus (len p.2.2.2.1)<|len [(-1:Int)])
 (aa ((((p.1.1,p.1.2.1,p.1.2.2.1,p.1.2.2.2.1,[],p.1.2.2.2.2.2),p.2.1,aw i64 p.2.2.1 1,app p.2.2.2.1 [(-1:Int)],p.2.2.2.2),true,()),w))
 af)
 af))
def H5{U:Type}(l:List dL)(d:List Int)(p:iY)(k:Int)(w:U):Option ((iY×Bool×aj)×U) :=
 ae (idx l k) (λb=>ae (ak (aL p.2.2.1<|len d)
 (ae (idx d p.2.2.1) λe=>aa (aL e b.2.2.1))
 (aa false)) λe=>ae (ak (aL 0 p.2.2.1)
 (ae (wL (b,())) λf=>ae (idx d<|cA i64 p.2.2.1 1) λg=>aa (aL f.1 g))
 (aa false)) λf=>ae (idx p.2.1 k) λg=>ak (ak (nt<|ak (nt g)
 e
 true)
 f
 true)
 (aa (((([],[],[],[],[],()),[],0,[],()),false,()),w))
 (ak (fits<|len p.2.1)
 (ak (fits<|len p.2.2.2.1)
 (ak (fits<|plus (len p.2.2.2.1)<|len [k])
 (ak (within k<|len p.2.1)
 (ae (idx p.2.1 k) λ_=>ae (idx p.2.1 k) λ_=>ae (idx p.2.1 k) λ_=>ae (ae (Loop (KX l (kh p.2.1 k true) b.2.2.1) ((false,0,()),())) λa=>ak (cl a.1 0)
 (aa ((false,()),w))
 (aa ((a.2.1.1,()),w))) λa=>ak a.1.1
 (aa (((([],[],[],[],[],()),[],0,[],()),false,()),a.2))
 (ak (nt<|aG b.2.1.1 16)
 (ae (xO (p.1,b.2.1,())) λc=>ak (ak (aG b.2.2.2.2.1 1)
 (nt<|an (aG c.2.1.1 b.2.2.2.2.2.1.1)<|an (bt c.2.1.2.1 b.2.2.2.2.2.1.2.1)<|an (aG c.2.1.2.2.1 b.2.2.2.2.2.1.2.2.1)<|an (bt c.2.1.2.2.2.1 b.2.2.2.2.2.1.2.2.2.1) true)
 false)
 (aa (((([],[],[],[],[],()),[],0,[],()),false,()),a.2))
 (ae (Loop (aev l b) ((0,()),kh p.2.1 k true,())) λh=>aa (((c.1,h.2.1,p.2.2.1,app p.2.2.2.1 [k],()),true,()),a.2)))
 (ak (ak (aG b.2.2.2.2.1 1)
 (nt<|an (aG 0 b.2.2.2.2.2.1.1)<|an (bt [] b.2.2.2.2.2.1.2.1)<|an (aG 0 b.2.2.2.2.2.1.2.2.1)<|an (bt [] b.2.2.2.2.2.1.2.2.2.1) true)
 false)
 (aa (((([],[],[],[],[],()),[],0,[],()),false,()),a.2))
 (ae (Loop (aev l b) ((0,()),kh p.2.1 k true,())) λc=>aa (((p.1,c.2.1,p.2.2.1,app p.2.2.2.1 [k],()),true,()),a.2)))))
 af)
 af)
 af)
 af))
def ZI{U:Type}(a:(cN×iY×aj)×U->Option ((Bool×aj)×U))(x:(cN×iY×aj)×U)(y:er×U):Option ((er×U)⊕(Nat×er×U)) :=
 ak (aL y.1.2.1<|len x.1.1.1)
 (ae (H5 x.1.1.1 x.1.1.2.1 x.1.2.1 y.1.2.1 y.2) λb=>ak b.1.2.1
 (ae (a ((x.1.1,b.1.1,()),b.2)) λc=>ak c.1.1
 (aa<|aA (1,(true,y.1.2.1,()),c.2))
 (aa<|az ((y.1.1,aw i64 y.1.2.1 1,()),c.2)))
 (aa<|az ((y.1.1,aw i64 y.1.2.1 1,()),b.2)))
 (aa<|aA (0,(y.1.1,y.1.2.1,()),y.2))
def XY{U:Type}(a:(cN×iY×aj)×U->Option ((Bool×aj)×U))(x:(cN×iY×aj)×U)(w:U):Option ((Bool×aj)×U) :=
 ae (MQ x.1.1.1 x.1.1.2.1 x.1.2.1 w) (λc=>ak c.1.2.1
 (ae (a ((x.1.1,c.1.1,()),c.2)) λb=>ak b.1.1
 (aa ((true,()),b.2))
 (ae (Loop (ZI a x) ((false,0,()),b.2)) λd=>ak (cl d.1 0)
 (aa ((false,()),d.2.2))
 (aa ((d.2.1.1,()),d.2.2))))
 (ae (Loop (ZI a x) ((false,0,()),c.2)) λb=>ak (cl b.1 0)
 (aa ((false,()),b.2.2))
 (aa ((b.2.1.1,()),b.2.2))))
def XZ{U:Type}(c:iY->U->Option (Bool×aj))(d:iY->U->U)(a:(cN×iY×aj)×U->Option ((Bool×aj)×U))(x:(cN×iY×aj)×U):Option ((Bool×aj)×U) :=
 ae (ae (Loop (H4 x.1.1.1 x.1.2.1.2.1) ((false,0,()),())) λb=>ak (cl b.1 0)
 (aa ((aL x.1.2.1.2.2.1<|len x.1.1.2.1,()),x.2))
 (aa ((b.2.1.1,()),x.2))) (λb=>ak (nt b.1.1)
 (ae (c x.1.2.1 b.2) λe=>ak e.1
 (aa ((true,()),d x.1.2.1 b.2))
 (XY a x b.2))
 (XY a x b.2))
def jb(a:zY->Option GD)(x:wK×(List<|Int)×aj):Option GD:=XZ (λ_ _=>aa (true,())) (λp _=>(p.2.2.2.1,())) a x
def bZ:Nat->zY->Option GD
 | 0,_=>af
 | k+1,x=>jb (bZ k) x
def fx(x:zY):Option GD:=bZ 40 x
def tw(x:zY):bZ 0 x=none:=rfl
def tz(k:Nat)(x:zY)(y)(h:bZ (k+1) x=aa y):jb (bZ k) x=aa y:=h
def tZ(x:zY)(y)(h:fx x=aa y):∃k,bZ k x=aa y:=⟨40,h⟩
def GG(x:e9×cN×aj)(a:mO×aj):Option ((mO×aj)⊕(mO×aj)) :=
 cq (ak (aL a.1.2.1<|len x.2.1.1)
 (ae (idx x.2.1.1 a.1.2.1) λb=>aa (az ((((ak (nt<|aG b.2.1.1 16)
 ((aw i64 a.1.1 1,()),())
 ((a.1.1,()),())).1).1,aw i64 a.1.2.1 1,()),())))
 (aa<|aA (0,(a.1.1,a.1.2.1,()),())))
def tg(x:e9×cN×aj):Option ((List<|Int)×Int×aj) :=
 ae (fL (x.2.1,())) (λa=>ak (nt<|aG a.1 0)
 (ak (ak (aG a.1 0)
 true
 false)
 (aa (([]:List (Int)),(3:Int),()))
 (aa (([]:List (Int)),a.1,())))
 (ae (Loop (GG x) (((0:Int),(0:Int),()),())) λc=>ak (aL 6 c.1.1)
 (aa (([]:List (Int)),(5:Int),()))
 (ak (inside 0 (len x.2.1.1)<|len x.2.1.1)
 (ak (fits<|len x.2.1.1)
 (ae (fx ((x.2.1,(x.1,lJ (len x.2.1.1) false,(0:Int),([]:List (Int)),()),()),([]:List (Int)),())) λb=>ak (nt b.1.1)
 (aa (([]:List (Int)),(3:Int),()))
 (aa (b.2.1,(0:Int),())))
 af)
 af)))
def jc(a:(wK×aj)->Option ((Bool×aj)×aj))(x:wK×aj):Option ((Bool×aj)×aj):=XZ (λ_ _=>aa (true,())) (λ_ w=>w) a x
def b0:Nat->(wK×aj)->Option ((Bool×aj)×aj)
 | 0,_=>af
 | k+1,x=>jc (b0 k) x
def fy(x:(wK×aj)):Option ((Bool×aj)×aj):=b0 40 x
def tB(x:(wK×aj)):b0 0 x=none:=rfl
def tC(k:Nat)(x:(wK×aj))(y)(h:b0 (k+1) x=aa y):jc (b0 k) x=aa y:=h
def ua(x:(wK×aj))(y)(h:fy x=aa y):∃k,b0 k x=aa y:=⟨40,h⟩
def GH(x:e9×cN×aj)(a:mO×aj):Option ((mO×aj)⊕(mO×aj)) :=
 cq (ak (aL a.1.2.1<|len x.2.1.1)
 (ae (idx x.2.1.1 a.1.2.1) λb=>aa (az ((((ak (nt<|aG b.2.1.1 16)
 ((aw i64 a.1.1 1,()),())
 ((a.1.1,()),())).1).1,aw i64 a.1.2.1 1,()),())))
 (aa<|aA (0,(a.1.1,a.1.2.1,()),())))
def lB(x:e9×cN×aj):Option er :=
 ae (fL (x.2.1,())) (λa=>ak (nt<|aG a.1 0)
 (aa (false,a.1,()))
 (ae (Loop (GH x) (((0:Int),(0:Int),()),())) λb=>ak (aL 6 b.1.1)
 (aa (false,(5:Int),()))
 (ak (inside 0 (len x.2.1.1)<|len x.2.1.1)
 (ak (fits<|len x.2.1.1)
 (ae (fy ((x.2.1,(x.1,lJ (len x.2.1.1) false,(0:Int),([]:List (Int)),()),()),())) λc=>aa (c.1.1,(0:Int),()))
 af)
 af)))
def uX(x:aj):Option (Bool×aj) :=
 aa (true,())
def dY(x:e9×cN×(List<|Int)×aj)(a:er×iY×e9×aj):Option ((er×iY×e9×aj)⊕(Nat×er×iY×e9×aj)) :=
 ak (aL a.1.2.1<|len x.2.2.1)
 (ae (idx x.2.2.1 a.1.2.1) λc=>ae (ak (aG c<|-1)
 (ae (MQ x.2.1.1 x.2.1.2.1 a.2.1 ()) λb=>aa ((b.1.2.1,()),b.1.1,()))
 (ae (ak (ak (ch 0 c)
 (aL c<|len x.2.1.1)
 false)
 (ae (H5 x.2.1.1 x.2.1.2.1 a.2.1 c ()) λb=>aa ((b.1.2.1,()),b.1.1,()))
 (aa ((false,()),a.2.1,()))) λb=>aa ((b.1.1,()),b.2.1,()))) λb=>ak (nt b.1.1)
 (aa<|aA (1,(false,a.1.2.1,()),b.2.1,(([]:List uT),([]:List uU),([]:List uV),([]:List Sb),([]:List oH),()),()))
 (aa<|az ((a.1.1,aw i64 a.1.2.1 1,()),b.2.1,a.2.2.1,())))
 (aa<|aA (0,(a.1.1,a.1.2.1,()),a.2.1,a.2.2.1,()))
def rb(x:e9×cN×(List<|Int)×aj):Option (e9×Bool×aj) :=
 ae (fL (x.2.1,())) (λc=>ak (nt<|aG c.1 0)
 (aa ((([]:List uT),([]:List uU),([]:List uV),([]:List Sb),([]:List oH),()),false,()))
 (ak (inside 0 (len x.2.1.1)<|len x.2.1.1)
 (ak (fits<|len x.2.1.1)
 (ae (Loop (dY x) ((false,(0:Int),()),(x.1,lJ (len x.2.1.1) false,(0:Int),([]:List (Int)),()),(([]:List uT),([]:List uU),([]:List uV),([]:List Sb),([]:List oH),()),())) λa=>ak (cl a.1 0)
 (ae (ae (Loop (H4 x.2.1.1 a.2.2.1.2.1) ((false,(0:Int),()),())) λb=>ak (cl b.1 0)
 (aa ((aL a.2.2.1.2.2.1<|len x.2.1.2.1,()),()))
 (aa ((b.2.1.1,()),()))) λb=>ak b.1.1
 (aa ((([]:List uT),([]:List uU),([]:List uV),([]:List Sb),([]:List oH),()),false,()))
 (aa (a.2.2.1.1,true,())))
 (aa (a.2.2.2.1,a.2.1.1,())))
 af)
 af))
def pG(x:cN×aj)(d:GF×aj)(c:Int×ZG×Int×Int×Int×ZH×aj)(a:er×aj):Option s9 :=
 ak (aL a.1.2.1 d.1.2.2.1)
 (ae (idx x.1.1 a.1.2.1) λb=>ak (ak (aG b.1 c.1)
 (ak (nt<|aG b.2.2.2.2.1 3)
 (ch c.2.2.1 b.2.2.2.1)
 true)
 false)
 (aa<|aA (1,(false,a.1.2.1,()),()))
 (aa<|az ((a.1.1,aw i64 a.1.2.1 1,()),())))
 (aa<|aA (0,(a.1.1,a.1.2.1,()),()))
def pH(x:cN×aj)(b:Int×ZG×Int×Int×Int×ZH×aj)(a:er×aj):Option s9 :=
 ak (aL a.1.2.1<|len x.1.2.1)
 (ae (ae (idx x.1.2.1 a.1.2.1) λc=>ak (aG c b.2.2.1)
 (aa true)
 (ae (idx x.1.2.1 a.1.2.1) λd=>ak (aG d b.2.2.2.1)
 (aa true)
 (ae (idx x.1.2.1 a.1.2.1) λe=>ak (aL b.2.2.1 e)
 (ak (aG b.2.2.2.2.1 3)
 (aa true)
 (ae (idx x.1.2.1 a.1.2.1) λf=>aa (aL f b.2.2.2.1)))
 (aa false)))) λc=>ak c
 (aa<|aA (1,(false,a.1.2.1,()),()))
 (aa<|az ((a.1.1,aw i64 a.1.2.1 1,()),())))
 (aa<|aA (0,(a.1.1,a.1.2.1,()),()))
def iB(x:cN×aj)(b:GF×aj):Option ((GF×aj)⊕(Nat×GF×aj)) :=
 ak (aL b.1.2.2.1<|len x.1.1)
 (ae (idx x.1.1 b.1.2.2.1) λa=>ak (ak (nt<|ak (nt<|ak (nt<|ak (nt<|ak (nt<|ch a.2.2.1 b.1.2.1)
 (aL a.2.2.2.2.1 1)
 true)
 (aL 3 a.2.2.2.2.1)
 true)
 (ak (aG a.2.2.2.2.1 3)
 (nt<|aG a.2.2.2.1 0)
 false)
 true)
 (ak (nt<|aG a.2.2.2.2.1 3)
 (ch a.2.2.2.1 a.2.2.1)
 false)
 true)
 (ak (nt<|aG a.2.2.2.2.1 1)
 (nt<|an (aG a.2.2.2.2.2.1.1 0)<|an (bt a.2.2.2.2.2.1.2.1 ([]:bb))<|an (aG a.2.2.2.2.2.1.2.2.1 0)<|an (bt a.2.2.2.2.2.1.2.2.2.1 ([]:bb)) true)
 false)
 true)
 (aa<|aA (1,(false,b.1.2.1,b.1.2.2.1,()),()))
 (ae (Loop (pG x b a) ((b.1.1,(0:Int),()),())) λc=>ak (cl c.1 0)
 (ae (Loop (pH x a) ((c.2.1.1,(0:Int),()),())) λd=>ak (cl d.1 0)
 (aa<|az ((d.2.1.1,a.2.2.1,aw i64 b.1.2.2.1 1,()),()))
 (aa<|aA (1,(d.2.1.1,a.2.2.1,b.1.2.2.1,()),())))
 (aa<|aA (1,(c.2.1.1,a.2.2.1,b.1.2.2.1,()),()))))
 (aa<|aA (0,(b.1.1,b.1.2.1,b.1.2.2.1,()),()))
def lC(x:cN×aj)(a:er×aj):Option s9 :=
 ak (aL a.1.2.1<|len x.1.2.1)
 (ae (idx x.1.2.1 a.1.2.1) λb=>ae (idx x.1.2.1<|cA i64 a.1.2.1 1) λc=>ak (ch b c)
 (aa<|aA (1,(false,a.1.2.1,()),()))
 (aa<|az ((a.1.1,aw i64 a.1.2.1 1,()),())))
 (aa<|aA (0,(a.1.1,a.1.2.1,()),()))
def uY(x:cN×aj):Option (Bool×aj) :=
 ae (Loop (iB x) ((false,(0:Int),(0:Int),()),())) (λa=>ak (cl a.1 0)
 (ae (Loop (lC x) ((a.2.1.1,(1:Int),()),())) λb=>ak (cl b.1 0)
 (aa (true,()))
 (aa (b.2.1.1,())))
 (aa (a.2.1.1,())))
def qn(x:cN×aj):Option (Int×aj) :=
 ae (uY (x.1,())) (λa=>ak (nt a.1)
 (aa ((1:Int),()))
 (aa ((0:Int),())))
def mm(x:dL×aj):Option (Bool×aj) :=
 aa (aG x.1.2.2.2.2.1 1,())
def kx(x:dL×aj):Option (Int×aj) :=
 ak (aG x.1.2.2.2.2.1 3)
 (aa ((9223372036854775807:Int),()))
 (aa (x.1.2.2.2.1,()))
def pI(x:(List dL)×(List<|Int)×(List<|Bool)×Int×aj)(a:er×aj):Option s9 :=
 ak (aL a.1.2.1<|len x.1)
 (ae (ae (idx x.2.2.1 a.1.2.1) λb=>ak (nt b)
 (ae (idx x.1 a.1.2.1) λc=>ae (mm (c,())) λd=>ak d.1
 (ae (idx x.1 a.1.2.1) λe=>ae (kx (e,())) λf=>ae (idx x.2.1 x.2.2.2.1) λg=>aa (aL f.1 g))
 (aa false))
 (aa false)) λb=>ak b
 (aa<|aA (1,(false,a.1.2.1,()),()))
 (aa<|az ((a.1.1,aw i64 a.1.2.1 1,()),())))
 (aa<|aA (0,(a.1.1,a.1.2.1,()),()))
def uZ(x:(List dL)×(List<|Int)×(List<|Bool)×Int×aj):Option (Bool×aj) :=
 ak (ch (len x.2.1) x.2.2.2.1)
 (aa (false,()))
 (ae (Loop (pI x) ((false,(0:Int),()),())) λa=>ak (cl a.1 0)
 (aa (true,()))
 (aa (a.2.1.1,())))
def re(x:(List dL)×(List<|Int)×(List<|Bool)×Int×Int×aj)(a:er×aj):Option s9 :=
 ak (aL a.1.2.1<|len x.1)
 (ae (ae (idx x.2.2.1 a.1.2.1) λb=>ak (nt b)
 (ak (nt<|aG a.1.2.1 x.2.2.2.2.1)
 (ae (idx x.1 a.1.2.1) λd=>ae (mm (d,())) λe=>ak e.1
 (ae (idx x.1 a.1.2.1) λf=>ae (kx (f,())) λg=>ae (idx x.1 x.2.2.2.2.1) λc=>aa (aL g.1 c.2.2.1))
 (aa false))
 (aa false))
 (aa false)) λb=>ak b
 (aa<|aA (1,(false,a.1.2.1,()),()))
 (aa<|az ((a.1.1,aw i64 a.1.2.1 1,()),())))
 (aa<|aA (0,(a.1.1,a.1.2.1,()),()))
def wM(x:(List dL)×(List<|Int)×(List<|Bool)×Int×Int×aj):Option (Bool×aj) :=
 ae (idx x.2.2.1 x.2.2.2.2.1) (λd=>ak d
 (aa (false,()))
 (ae (ak (aL x.2.2.2.1<|len x.2.1)
 (ae (idx x.1 x.2.2.2.2.1) λc=>ae (idx x.2.1 x.2.2.2.1) λa=>aa (aL a c.2.2.1))
 (aa false)) λc=>ak c
 (aa (false,()))
 (ae (ak (aL 0 x.2.2.2.1)
 (ae (idx x.1 x.2.2.2.2.1) λa=>ae (kx (a,())) λb=>ae (idx x.2.1<|cA i64 x.2.2.2.1 1) λe=>aa (aL b.1 e))
 (aa false)) λa=>ak a
 (aa (false,()))
 (ae (Loop (re x) ((false,(0:Int),()),())) λb=>ak (cl b.1 0)
 (aa (true,()))
 (aa (b.2.1.1,()))))))
def rf(x:(List<|Bool)×(List dL)×Int×aj)(a:(Int×aj×aj)×(List<|Bool)×aj):Option (((Int×aj×aj)×(List<|Bool)×aj)⊕((Int×aj×aj)×(List<|Bool)×aj)) :=
 cq (ak (ak (aL a.1.1<|len x.2.1)
 (aL a.1.1<|len a.2.1)
 false)
 (ae (ak (nt<|aG a.1.1 x.2.2.1)
 (ae (idx x.2.1 a.1.1) λc=>ae (mm (c,())) λb=>ak (nt b.1)
 (ae (idx x.2.1 a.1.1) λd=>ae (kx (d,())) λe=>ae (idx x.2.1 x.2.2.1) λf=>aa (aL e.1 f.2.2.1))
 (aa false))
 (aa false)) λc=>ae (ak c
 (ak (within a.1.1<|len a.2.1)
 (ae (idx a.2.1 a.1.1) λb=>ae (idx a.2.1 a.1.1) λd=>ae (idx a.2.1 a.1.1) λe=>aa (((),()),kh a.2.1 a.1.1 true,()))
 af)
 (aa (((),()),a.2.1,()))) λb=>aa (az ((aw i64 a.1.1 1,(),()),b.2.1,())))
 (aa<|aA (0,(a.1.1,(),()),a.2.1,())))
def wN(x:(List<|Bool)×(List dL)×Int×aj):Option ((List<|Bool)×aj) :=
 ak (fits<|plus (len ([]:List (Bool)))<|len x.1)
 (ak (within x.2.2.1<|len<|app ([]:List (Bool)) x.1)
 (ae (idx (app ([]:List (Bool)) x.1) x.2.2.1) λb=>ae (idx (app ([]:List (Bool)) x.1) x.2.2.1) λc=>ae (idx (app ([]:List (Bool)) x.1) x.2.2.1) λd=>ae (Loop (rf x) (((0:Int),(),()),kh (app ([]:List (Bool)) x.1) x.2.2.1 true,())) λa=>aa (a.2.1,()))
 af)
 af
def rh(x:(List dL)×(List<|Int)×(List<|Bool)×Int×aj)(a:er×aj):Option s9 :=
 ak (aL a.1.2.1<|len x.1)
 (ae (idx x.2.2.1 a.1.2.1) λc=>ae (ak (nt c)
 (ae (idx x.1 a.1.2.1) λb=>ae (mm (b,())) λd=>aa d.1)
 (aa false)) λb=>ak b
 (aa<|aA (1,(false,a.1.2.1,()),()))
 (aa<|az ((a.1.1,aw i64 a.1.2.1 1,()),())))
 (aa<|aA (0,(a.1.1,a.1.2.1,()),()))
def wO(x:(List dL)×(List<|Int)×(List<|Bool)×Int×aj):Option (Bool×aj) :=
 ae (Loop (rh x) ((false,(0:Int),()),())) (λa=>ak (cl a.1 0)
 (aa (ch (len x.2.1) x.2.2.2.1,()))
 (aa (a.2.1.1,())))
def eE(x:e9×cN×(List<|Int)×aj)(a:MP×e9×e9×aj):Option ((MP×e9×e9×aj)⊕aeu) :=
 ak (aL a.1.2.2.2.1<|len x.2.2.1)
 (ae (idx x.2.2.1 a.1.2.2.2.1) λc=>ak (aG c<|-1)
 (ae (uZ (x.2.1.1,x.2.1.2.1,a.1.2.1,a.1.2.2.1,())) λe=>ak (nt e.1)
 (aa<|aA (1,(false,a.1.2.1,a.1.2.2.1,a.1.2.2.2.1,()),(([]:List uT),([]:List uU),([]:List uV),([]:List Sb),([]:List oH),()),a.2.2.1,()))
 (aa<|az ((a.1.1,a.1.2.1,aw i64 a.1.2.2.1 1,aw i64 a.1.2.2.2.1 1,()),a.2.1,(a.2.2.1.1,a.2.2.1.2.1,a.2.2.1.2.2.1,a.2.2.1.2.2.2.1,([]:List oH),a.2.2.1.2.2.2.2.2),())))
 (ae (ak (nt<|ak (nt<|aL c 0)
 (ch (len x.2.1.1) c)
 true)
 (ae (wM (x.2.1.1,x.2.1.2.1,a.1.2.1,a.1.2.2.1,c,())) λe=>aa (nt e.1))
 (aa true)) λe=>ak e
 (aa<|aA (1,(false,a.1.2.1,a.1.2.2.1,a.1.2.2.2.1,()),(([]:List uT),([]:List uU),([]:List uV),([]:List Sb),([]:List oH),()),a.2.2.1,()))
 (ae (idx x.2.1.1 c) λi=>ae (AV (a.2.2.1,i.2.1,())) λb=>ae (idx x.2.1.1 c) λf=>ae (ae (idx x.2.1.1 c) λg=>ae (mm (g,())) λh=>ak h.1
 (ae (idx x.2.1.1 c) λd=>aa (nt<|an (aG ((((ak (aG f.2.1.1 16)
 ((),((0:Int),([]:bb),(0:Int),([]:bb),()),a.2.2.1,())
 ((),b.2.1,b.1,())).2).1).1) d.2.2.2.2.2.1.1)<|an (bt (((((ak (aG f.2.1.1 16)
 ((),((0:Int),([]:bb),(0:Int),([]:bb),()),a.2.2.1,())
 ((),b.2.1,b.1,())).2).1).2).1) d.2.2.2.2.2.1.2.1)<|an (aG ((((((ak (aG f.2.1.1 16)
 ((),((0:Int),([]:bb),(0:Int),([]:bb),()),a.2.2.1,())
 ((),b.2.1,b.1,())).2).1).2).2).1) d.2.2.2.2.2.1.2.2.1)<|an (bt (((((((ak (aG f.2.1.1 16)
 ((),((0:Int),([]:bb),(0:Int),([]:bb),()),a.2.2.1,())
 ((),b.2.1,b.1,())).2).1).2).2).2).1) d.2.2.2.2.2.1.2.2.2.1) true))
 (aa false)) λg=>ak g
 (aa<|aA (1,(false,a.1.2.1,a.1.2.2.1,a.1.2.2.2.1,()),(([]:List uT),([]:List uU),([]:List uV),([]:List Sb),([]:List oH),()),a.2.2.1,()))
 (ae (wN (a.1.2.1,x.2.1.1,c,())) λh=>aa (az ((a.1.1,h.1,a.1.2.2.1,aw i64 a.1.2.2.2.1 1,()),a.2.1,(((ak (aG f.2.1.1 16)
 ((),((0:Int),([]:bb),(0:Int),([]:bb),()),a.2.2.1,())
 ((),b.2.1,b.1,())).2).2).1,()))))))
 (aa<|aA (0,(a.1.1,a.1.2.1,a.1.2.2.1,a.1.2.2.2.1,()),a.2.1,a.2.2.1,()))
def ti(x:e9×cN×(List<|Int)×aj):Option (e9×Bool×aj) :=
 ae (qn (x.2.1,())) (λb=>ak (nt<|aG b.1 0)
 (aa ((([]:List uT),([]:List uU),([]:List uV),([]:List Sb),([]:List oH),()),false,()))
 (ak (inside 0 (len x.2.1.1)<|len x.2.1.1)
 (ak (fits<|len x.2.1.1)
 (ae (Loop (eE x) ((false,lJ (len x.2.1.1) false,(0:Int),(0:Int),()),(([]:List uT),([]:List uU),([]:List uV),([]:List Sb),([]:List oH),()),x.1,())) λa=>ak (cl a.1 0)
 (ae (wO (x.2.1.1,x.2.1.2.1,a.2.1.2.1,a.2.1.2.2.1,())) λc=>ak (nt c.1)
 (aa ((([]:List uT),([]:List uU),([]:List uV),([]:List Sb),([]:List oH),()),false,()))
 (aa (a.2.2.2.1,true,())))
 (aa (a.2.2.1,a.2.1.1,())))
 af)
 af))
def fS(x:e9×cN×(List<|Int)×aj):Option (Bool×aj) :=
 ae (Cs (x.1,x.2.1,())) (λe=>ak (ak (nt<|nt e.1)
 (aL 20<|len x.2.2.1)
 true)
 (ae (uX ()) λa=>aa (a.1,()))
 (ae (rb (x.1,x.2.1,x.2.2.1,())) λa=>ae (ti (x.1,x.2.1,x.2.2.1,())) λd=>ae (ak (eqB a.2.1 d.2.1)
 (ae (wE (a.1,d.1,())) λb=>aa b.1)
 (aa false)) λb=>ae (ak b
 (ae (uX ()) λc=>aa c.1)
 (aa false)) λc=>aa (c,())))
end Go.Ge
namespace Go.Ge
variable [Lp]
def fA{a b}(h:-9223372036854775808<=a+b)(c:a+b<=9223372036854775807):aw .i64 a b=a+b:=by
 unfold aw;simp[IntKind.wrap,IntKind.signed,IntKind.bits];omega
def df{a b}(h:-9223372036854775808<=a-b)(c:a-b<=9223372036854775807):cA .i64 a b=a-b:=by
 unfold cA;simp[IntKind.wrap,IntKind.signed,IntKind.bits];omega
def Ct{a b}(h:-9223372036854775808<=a*b)(c:a*b<=9223372036854775807):ky .i64 a b=a*b:=by
 unfold ky;simp[IntKind.wrap,IntKind.signed,IntKind.bits];omega
def wP{a}(h:-9223372036854775808<=a)(b:a<=9223372036854775807):kz .i64 a=a:=by
 unfold kz;simp[IntKind.wrap,IntKind.signed,IntKind.bits];omega
def agX{a}(h:0<=a)(b:a<=18446744073709551615):kz .u64 a=a:=by
 unfold kz;simp[IntKind.wrap,IntKind.signed,IntKind.bits];omega
def aiW(a:Int):kz .u8 a=a % 256:=by
 unfold kz;simp[IntKind.wrap,IntKind.min,IntKind.max,IntKind.signed,IntKind.bits]
def wrap_u32 a:IntKind.wrap .u32 a=a % 4294967296:=by
 simp[IntKind.wrap,IntKind.signed,IntKind.bits]
def Bv(x:Int):BitVec 32:=BitVec.ofInt 32 x
def Can(x:Int):Prop:=0<=x/\x<4294967296
def Vj a:Can (IntKind.wrap .u32 a):=by rw[wrap_u32];unfold Can;omega
def xQ a:((Bv a).toNat:Int)=a % 4294967296:=by
 unfold Bv;rw[ac7];have:0<=a % ((2 ^ 32:Nat):Int):=Int.emod_nonneg _ aD;rw[ac6 this];rfl
def agY{a b}(c:Can a)(d:Can b)(h:Bv a=Bv b):a=b:=by
 have e:=xQ a;have f:=xQ b;rw[h] at e;unfold Can at c d;omega
def KY a:Bv (IntKind.wrap .u32 a)=Bv a:=by
 apply ac2;have c:=xQ a;have b:=xQ (IntKind.wrap .u32 a);rw[wrap_u32] at b⊢;omega
def X0 v:Bv (v.toNat:Int)=v:=by
 apply ac2;have a:=xQ v.toNat;omega
def bv_and x y:Bv (gM .u32 x y)=Bv x &&& Bv y:=by unfold gM;rw[KY];apply X0
def ZJ x y:Bv (Ao .u32 x y)=Bv x ||| Bv y:=by unfold Ao;rw[KY];apply X0
def aew x y:Bv (gy .u32 x y)=Bv x ^^^ Bv y:=by unfold gy;rw[KY];apply X0
def MR x y:Can (Ao .u32 x y):=Vj _
def SJ x y:Can (gy .u32 x y):=Vj _
def X1 x (n:Nat) (b:n<=32):Bv (nY .u32 x n)=Bv x <<< n:=by
 unfold nY;rw[KY];apply ac2;have a:=xQ (x*2 ^ (min (n:Int).toNat IntKind.u32.bits));have e:min (n:Int).toNat IntKind.u32.bits=n:=by simp[IntKind.bits];omega
 rw[e] at a⊢;rw[BitVec.toNat_shiftLeft];have c:(((Bv x).toNat*2 ^ n % 2 ^ 32:Nat):Int)=(x*2 ^ n) % 4294967296:=by
  rw[Int.natCast_emod,Int.natCast_mul,(xQ x)];show(x % 4294967296*2 ^ n) % 4294967296=_
  rw[Int.mul_emod,Int.emod_emod_of_dvd _ (Int.dvd_refl _),<-Int.mul_emod]
 omega
def X2 x y:Ao .u32 x y=Ao .u32 y x:=agY (MR _ _) (MR _ _) (by rw[ZJ,ZJ,BitVec.or_comm])
def Vk x y:aw .u32 x y=aw .u32 y x:=by unfold aw;rw[Int.add_comm]
def akI e f g:gy .u32 g (gM .u32 e<|gy .u32 f g)=gy .u32 (gM .u32 e f) (gM .u32 (gy .u32 4294967295 e) g):=by
 refine agY (SJ _ _) (SJ _ _) ?_;simp only[aew,bv_and];have h:Bv 4294967295=BitVec.allOnes 32:=aD;rw[h]
 ext i hi
 simp only[BitVec.getElem_xor,BitVec.getElem_and,BitVec.getElem_allOnes];cases (Bv e)[i]<;>cases (Bv f)[i]<;>cases (Bv g)[i]<;>rfl
def aiX a b c:Ao .u32 (gM .u32 a b) (gM .u32 c<|Ao .u32 a b)=gy .u32 (gy .u32 (gM .u32 a b)<|gM .u32 a c) (gM .u32 b c):=by
 refine agY (MR _ _) (SJ _ _) ?_;simp only[aew,bv_and,ZJ]
 ext i hi
 simp;cases (Bv a)[i]<;>cases (Bv b)[i]<;>cases (Bv c)[i]<;>rfl
def agZ a b c d:Ao .u32 (nY .u32 (Ao .u32 (nY .u32 (Ao .u32 (nY .u32 (Ao .u32 (nY .u32 0 8) a) 8) b) 8) c) 8) d=Ao .u32 (Ao .u32 (Ao .u32 (nY .u32 a 24)<|nY .u32 b 16)<|nY .u32 c 8) d:=by
 refine agY (MR _ _) (MR _ _) ?_;have g:∀x,Bv (nY .u32 x 8)=Bv x <<< 8:=λx=>X1 x 8 aD;have e:∀x,Bv (nY .u32 x 16)=Bv x <<< 16:=λx=>X1 x 16 aD;have f:∀x,Bv (nY .u32 x 24)=Bv x <<< 24:=λx=>X1 x 24 aD;simp only[ZJ,g,e,f];simp[BitVec.shiftLeft_or_distrib]
def aH{a b}(h:a<b):aL a b=true:=by simp[aL,h]
def aC{a b}(h:b<=a):aL a b=false:=by simp[aL];omega
def bz{a b}(h:a<=b):ch a b=true:=by simp[ch,h]
def cG{a b}(h:b<a):ch a b=false:=by simp[ch];omega
def au{a b}(h:a=b):aG a b=true:=by simp[aG,h]
def ar{a b}(h:a≠b):aG a b=false:=by simp[aG,h]
def aF{i n}(a:0<=i)(b:i<n):within i n=true:=by simp[within,a,b]
def aO{i j n}(a:0<=i)(b:i<=j)(c:j<=n):inside i j n=true:=by simp[inside,a,b,c]
def dS{n}(h:n<=4294967296):fits n=true:=by simp[fits,h]
def j9{S} s:cq (aa (.inl s:S⊕(Nat×S)))=aa (.inl s):=rfl
def mP{S} n s:cq (aa (.inr (n,s):S⊕(Nat×S)))=aa (.inr s):=rfl
def fB{α}(l:List α) d {i} (h:i<l.length):idx l i=aa (l.getD i d):=by
 rw[su,ahT,fH h];rfl
def nB{α}(l:List α) d {i:Int} {k:Nat} (e:i=k) (h:k<l.length):idx l i=aa (l.getD k d):=by subst e;exact fB l d h
def Cu{α}(l:List α)(i:Nat) x:kh l i x=l.set i x:=by simp[kh]
def vu{d c R:Type}(a:Nat->c->d->Option (c⊕R))(b:Nat->c->R):List d->Nat->c->Option R
 | [],i,s=>aa (b i s)
 | x::r,i,s=>match a i s x with
   | none=>af
   | some (.inl e)=>vu a b r (i+1) e
   | some (.inr y)=>aa y
def qo{α σ S R}{f:S->Option (S⊕R)}(l:List α)(j:σ->Nat->S) step fin (Inv:Nat->σ->Prop)
  (c:∀s i x,l[i]?=aa x->i<l.length->Inv i s->f (j s i)=(step i s x).map λq=>match q with|.inl d=>.inl (j d<|i+1)|.inr y=>.inr y)
  (hinv:∀s i x d,l[i]?=aa x->Inv i s->step i s x=aa (.inl d)->Inv (i+1) d)
  (k:∀s,Inv l.length s->f (j s l.length)=aa (.inr<|fin l.length s)) (e:∀s i x,l[i]?=aa x->Inv i s->step i s x≠af) :
  ∀s,Inv 0 s->Loop f (j s 0)=vu step fin l 0 s:=by
 have key:∀b a s,l=a++b->Inv a.length s->Loop f (j s a.length)=vu step fin b a.length s:=by
  intro b;induction b with
  | nil =>
    intro a s h g;rw[tK] at h;subst h;rw[aN,k s g];rfl
  | cons x r n =>
    intro a s h g;have hx:l[a.length]?=aa x:=by rw[h];simp
    rw[aN,c s a.length x hx (by rw[h];simp) g];unfold vu;cases m:step a.length s x with
    | none=>exact absurd m (e s _ x hx g)
    | some q =>
      cases q with
      | inr y=>rfl
      | inl d =>
        have:=n (a++[x]) d (by rw[h];simp) (by rw[iC];exact hinv s _ x d hx g m);rw[iC] at this;exact this
 intro s g;exact key l [] s rfl g
def yP{α}(i:Nat)(l:List α):aL i (len l)=decide (i<l.length):=by simp[aL,len]
def GI{α}(l:List α):aL 0 (len l)=decide (0<l.length):=yP 0 l
def pJ{α}(i:Nat)(l:List α):ch (len l) i=decide (l.length<=i):=by simp[ch,len]
def GJ{α β}(l:List α)(m:List β):aL (len l) (len m)=decide (l.length<m.length):=by simp[aL,len]
def MS{α β}(l:List α)(m:List β):ch (len l) (len m)=decide (l.length<=m.length):=by simp[ch,len]
def MT{α β}(l:List α)(m:List β):aG (len l) (len m)=decide (l.length=m.length):=by unfold len;apply gm.2;omega
def aJ{α β}{l:List α}{m:List β}(h:l.length+m.length<=4294967296):fits (plus (len l)<|len m)=true:=by
 apply dS;simp only[plus,len];omega
def da{α} c (x y:α):ak c x y=if c=true then x else y:=by cases c<;>rfl
def MU{α} p [Decidable p] (x y:α):ak (decide p) x y=if p then x else y:=by by_cases h:p<;>simp[ ak]
def u5{a b}:bt a b=decide (a=b):=rfl
def aY{a b}(h:a≠b):bt a b=false:=by simp[bt,h]
def cc{a b}(h:a=b):bt a b=true:=by simp[bt,h]
def Ek{c n}:aG (u8 c) (n.toNat:Int)=decide (c=n):=by
 unfold aG u8;by_cases h:c=n
 .simp[h]
 .have:c.toNat≠n.toNat:=λe=>h (TY.1 e);simp[h];omega
def fT{α}(l:List α)(n:Nat):sub l 0 (minus n 0)=l.take n:=by
 unfold sub minus;simp
def Qq{α β}(l:List α)(m:List β):sub l 0 (minus (len m) 0)=l.take m.length:=fT l m.length
def jd{α}(l:List α) n (h:n<=l.length):sub l n (minus (len l) n)=l.drop n:=by
 unfold minus len;apply JK;rw[rj];omega
def cO:cl 0 0=true:=rfl
def gL:cl 1 0=false:=rfl
def av{α:Type}{l:List α}{i x}(h:l[i]?=aa x):i<l.length:=(iy.1 h).1
def sub_one{α}{l:List α}{i:Nat}{x}(h:l[i]?=aa x):sub l i (minus ((i+1:Nat):Int) i)=[x]:=by
 unfold sub minus;rw[show((i+1:Nat):Int)-i=1 by omega,vb];obtain⟨a,rfl⟩:=iy.1 h;rw[BT a];rfl
def X3{a b n:Nat}(h:a<=b)(k:b<=n):inside a b n=true:=aO ah ah ah
def je{α a b}{l:List α}(h:a<=b)(k:b<=l.length):inside a b (len l)=true:=X3 h k
def ao{α}{l:List α}{i:Nat}{x}(h:l[i]?=aa x):idx l i=aa x:=by rw[su,h]
def al{α}{l:List α}{i}(h:i<l.length):aL i (len l)=true:=by rw[yP,cU h]
def aq{α}{l:List α}:aL (l.length:Int) (len l)=false:=by rw[yP,cd ah]
def gU{α}(l m:List α):app l m=l++m:=rfl
def aex b:nt b=!b:=rfl
def bw{α}(l:List α):len l=(l.length:Int):=rfl
def ag0 y:fM [] y=decide (y≠[]):=by cases y<;>simp[fM,Op.bytesLess]
def aey x:fM x []=false:=by cases x<;>simp[fM,Op.bytesLess]
def GK a b x y:fM (a::x) (b::y)=(decide (a<b)||(a==b&&fM x y)):=by simp[fM,Op.bytesLess]
def aiY(a b:UInt8):a<b\/a=b\/b<a:=by
 rcases Lo a.toNat b.toNat with h|h|h
 .exact .inl h
 .exact .inr (.inl<|TY.1 h)
 .exact .inr (.inr h)
def ub:∀x,fM x x=false:=by
 intro x;induction x with
 | nil=>rfl
 | cons a x b=>rw[GK,b];simp
def Qr:∀{x y z},fM x y=true->fM y z=true->fM x z=true:=by
 intro x;induction x with
 | nil =>
   intro y z h k;cases z with
   | nil=>rw[aey] at k;cases k
   | cons c z=>rfl
 | cons a x d =>
   intro y z h k;cases y with
   | nil=>cases h
   | cons b y =>
     cases z with
     | nil=>cases k
     | cons c z =>
       rw[GK] at h k⊢;simp at h k⊢;rcases h with h|⟨rfl,h⟩
       .rcases k with k|⟨rfl,k⟩
        .exact .inl (UInt8.lt_trans h k)
        .exact .inl h
       .rcases k with k|⟨rfl,k⟩
        .exact .inl k
        .exact .inr ⟨rfl,d h k⟩
def GL:∀x y,fM x y=true\/x=y\/fM y x=true:=by
 intro x;induction x with
 | nil=>intro y;cases y<;>simp[ag0]
 | cons a x c =>
   intro y;cases y with
   | nil=>exact .inr (.inr rfl)
   | cons b y =>
     rw[GK,GK];simp only[Ll,Ap,gw,beq_iff_eq];rcases aiY a b with h|rfl|h
     .exact .inl (.inl h)
     .rcases c y with h|rfl|h
      .exact .inl (.inr ⟨rfl,h⟩)
      .exact .inr (.inl rfl)
      .exact .inr (.inr<|.inr ⟨rfl,h⟩)
     .exact .inr (.inr<|.inl h)
def rQ{x y}(h:fM x y=true):fM y x=false:=by
 cases k:fM y x with
 | false=>rfl
 | true=>have:=Qr h k;rw[ub] at this;cases this
def MV{x y}(h:fM x y=true):x≠y:=λe=>by rw[e,ub] at h;cases h
def X4 x y:nt (oor (fM x y)<|bt x y)=fM y x:=by
 rcases GL x y with h|rfl|h
 .rw[h,rQ h];rfl
 .rw[zQ,ub];rfl
 .rw[h,rQ h,aY λe=>MV h e.symm];rfl
def X5(x y:bb):Int:=if fM x y=true then -1 else if x=y then 0 else 1
def cmpL:List bb->List bb->Int
 | [],[]=>0
 | [],_::_=>-1
 | _::_,[]=>1
 | a::x,b::y=>if a=b then cmpL x y else if fM a b=true then -1 else 1
def jJ:∀x,cmpL x x=0:=by
 intro x;induction x with
 | nil=>rfl
 | cons a x b=>rw[cmpL,aQ rfl];exact b
def H6:∀{x y},cmpL x y=0->x=y:=by
 intro x;induction x with
 | nil=>intro y h;cases y with|nil=>rfl|cons b y=>cases h
 | cons a x c =>
   intro y h;cases y with
   | nil=>cases h
   | cons b y =>
     rw[cmpL] at h;split at h
     .rename_i e;rw[e,c h]
     .split at h<;>cases h
def MW:∀x y,cmpL x y=- cmpL y x:=by
 intro x;induction x with
 | nil=>intro y;cases y<;>rfl
 | cons a x c =>
   intro y;cases y with
   | nil=>rfl
   | cons b y =>
     rw[cmpL,cmpL];by_cases e:a=b
     .rw[aQ e,aQ e.symm,c y]
     .have d:¬b=a:=λq=>e q.symm;rw[aK e,aK d];rcases GL a b with h|h|h
      .rw[aQ h,aK (by rw[rQ h];simp)]
      .exact absurd h e
      .rw[aK<|by rw[rQ h];simp,aQ h];rfl
def mn:∀{x y z},cmpL x y<0->cmpL y z<0->cmpL x z<0:=by
 intro x;induction x with
 | nil =>
   intro y z h k;cases z with
   | nil=>cases y with|nil=>exact absurd k (by simp[cmpL])|cons b y=>exact absurd k (by simp[cmpL])
   | cons c z=>exact(by decide:(-1)<0)
 | cons a x j =>
   intro y z h k;cases y with
   | nil=>exact absurd h (by simp[cmpL])
   | cons b y =>
     cases z with
     | nil=>exact absurd k (by simp[cmpL])
     | cons c z =>
       rw[cmpL] at h k⊢;by_cases e:a=b
       .subst e;rw[aQ rfl] at h;by_cases d:a=c
        .subst d;rw[aQ rfl] at k⊢;exact j h k
        .rw[aK d] at k⊢;exact k
       .rw[aK e] at h;have g:fM a b=true:=by
         cases q:fM a b with
         | true=>rfl
         | false=>rw[q] at h;exact absurd h aD
        by_cases d:b=c
        .subst d;rw[aK e];exact h
        .rw[aK d] at k;have i:fM b c=true:=by
          cases q:fM b c with
          | true=>rfl
          | false=>rw[q] at k;exact absurd k aD
         have f:=Qr g i;rw[aK<|MV f,aQ f];decide
def Vl x r (h:r≠[]):cmpL x (x++r)=-1:=by
 induction x with
 | nil=>cases r with|nil=>exact absurd rfl h|cons a r=>rfl
 | cons a x b=>rw[Lj,cmpL,aQ rfl];exact b
def aez{a b:Type}{x:List a}{y:List b}{i:Nat}{p}(h:(x.zip y)[i]?=aa p):x[i]?=aa p.1/\y[i]?=aa p.2:=by
 rw[ahU] at h;exact h
def Vm{c:Type}[DecidableEq c]:∀(x y:List c),(x.zip y).all (λp=>decide (p.1=p.2))=decide (x.take (min x.length y.length)=y.take (min x.length y.length)):=by
 intro x;induction x with
 | nil=>simp
 | cons a x d =>
   intro y;cases y with
   | nil=>simp
   | cons b y =>
     rw[List.zip_cons_cons,ado,d y];by_cases e:a=b
     .simp
     .simp
def SK{a:Type}[DecidableEq a]{x y:List a}(h:x.length=y.length):(x.zip y).all (λp=>decide (p.1=p.2))=decide (x=y):=by
 rw[Vm,h,ads,zw,<-h,zw]
def ob{α β o x}{f:α->Option β}{r}(h:o=aa x)(k:f x=r):ae o f=r:=by rw[h];exact k
def Vn{f:Type}(l:List f)(p:Nat->f->Bool) :
  (∃i x,l[i]?=aa x/\p i x=true/\∀j y,j<i->l[j]?=aa y->p j y=false)\/∀i x,l[i]?=aa x->p i x=false:=by
 by_cases h:∃i x,l[i]?=aa x/\p i x=true
 .left;have key:∀n i x,i<=n->l[i]?=aa x->p i x=true->∃i x,l[i]?=aa x/\p i x=true/\∀j y,j<i->l[j]?=aa y->p j y=false:=by
   intro n;induction n with
   | zero =>
     intro i x g a b;obtain rfl:i=0:=ah;exact⟨0,x,a,b,λj y d=>ah⟩
   | succ n m =>
     intro i x g a b;by_cases k:∃j y,j<i/\l[j]?=aa y/\p j y=true
     .obtain⟨j,y,d,e,c⟩:=k;exact m j y ah e c
     .refine⟨i,x,a,b,λj y d e=>?_⟩;cases c:p j y with
      | false=>rfl
      | true=>exact absurd ⟨j,y,d,e,c⟩ k
  obtain⟨i,x,a,b⟩:=h;exact key i i x (bV _) a b
 .right;intro i x a;cases c:p i x with
  | false=>rfl
  | true=>exact absurd ⟨i,x,a,c⟩ h
def eu{o S R:Type}{f}(l:List o)(b:Int->S)(p:Nat->o->Bool)(c:Nat->o->R) d (s:l.length<=4294967296)
  (a:∀i x,l[i]?=aa x->i<l.length->aw .i64 i 1=((i+1:Nat):Int)->f (b i)=aa (if p i x=true then .inr (c i x) else .inl (b ((i+1:Nat):Int))))
  (g:f (b (l.length:Int))=aa (.inr d)) :
  (∃i x,l[i]?=aa x/\p i x=true/\(∀j y,j<i->l[j]?=aa y->p j y=false)/\Loop f (b 0)=aa (c i x))\/((∀i x,l[i]?=aa x->p i x=false)/\Loop f (b 0)=aa d):=by
 have h:∀i x,l[i]?=aa x->p i x=false->f _=aa (.inl<|b _):=λi x e n=>by
  have hi:=av e;rw[a i x e hi<|aB ah,n];rfl
 rcases Vn l p with ⟨i,x,e,n,k⟩|r
 .left;refine⟨i,x,e,n,k,?_⟩;have hi:=av e;refine cV i (λj=>b j) (λj q=>?_) ?_
  .have m:j<l.length:=ah;exact h j l[j] (fH m) (k j _ q<|fH m)
  .rw[a i x e hi<|aB ah,n];rfl
 .right;refine⟨r,cV l.length (λj=>b j) (λj k=>?_) g⟩;exact h j l[j] (fH k) (r j _<|fH k)
def rA{o S R:Type}{f}(l:List o) n (mk:Int->S) (p:Nat->o->Bool) (a:Nat->o->R) (b:Nat->R) (t:min n l.length<=4294967296)
  (c:∀i x,l[i]?=aa x->i<l.length->i<n->aw .i64 i 1=((i+1:Nat):Int)->f (mk i)=aa (if p i x=true then .inr (a i x) else .inl (mk ((i+1:Nat):Int))))
  (d:f (mk ((min n l.length:Nat):Int))=aa (.inr<|b<|min n l.length)) :
  (∃i x,i<n/\l[i]?=aa x/\p i x=true/\(∀j y,j<i->l[j]?=aa y->p j y=false)/\Loop f (mk 0)=aa (a i x))\/((∀i x,i<n->l[i]?=aa x->p i x=false)/\Loop f (mk 0)=aa (b<|min n l.length)):=by
 have k:∀i x,(l.take n)[i]?=aa x↔(i<n/\l[i]?=aa x):=λi x=>by
  rw[jM];by_cases h:i<n
  .simp
  .simp
 have hlen:(l.take n).length=min n l.length:=dk;rcases eu _ mk p a _ (by rw[hlen];exact t) (λi x e s g=>by
  obtain⟨q,m⟩:=(k i x).1 e;exact c i x m (av m) q g) (by rw[hlen];exact d) with ⟨i,x,e,u,v,h⟩|⟨w,h⟩
 .obtain⟨q,m⟩:=(k i x).1 e;exact .inl ⟨i,x,q,m,u,λj y r z=>v j y r ((k j y).2 ⟨ah,z⟩),h⟩
 .exact .inr ⟨λi x s e=>w i x ((k i x).2 ⟨s,e⟩),h⟩
def uc{u k S R:Type}{f}(l:List u)(m:k->Int->S)(d:k->Nat->u->k)(h:k->R)(c:k->Nat->Prop)(D:l.length<=4294967296)
  (j:∀s i x,l[i]?=aa x->i<l.length->aw .i64 i 1=((i+1:Nat):Int)->c s i->f (m s i)=aa (.inl<|m (d s i x) ((i+1:Nat):Int))/\c (d s i x) (i+1))
  (n:∀s,c s l.length->f (m s (l.length:Int))=aa (.inr<|h s)) s (y:c s 0):∃t,c t l.length/\Loop f (m s 0)=aa (h t)/\t=(l.zipIdx).foldl (λa p=>d a p.2 p.1) s:=by
 have key:∀e b s,l=b++e->c s b.length->∃t,c t l.length/\Loop f (m s b.length)=aa (h t)/\t=(e.zipIdx b.length).foldl (λa p=>d a p.2 p.1) s:=by
  intro e;induction e with
  | nil =>
    intro b s g o;rw[tK] at g;subst g;exact⟨s,o,by rw[aN,n s o];rfl,rfl⟩
  | cons x r z =>
    intro b s g o;have hx:l[b.length]?=aa x:=by rw[g];simp
    have q:=av hx;obtain⟨A,B⟩:=j s b.length x hx q (aB ah) o;obtain⟨t,C,v,w⟩:=z (b++[x]) _ (by rw[g];simp) (by rw[iC];exact B);rw[iC] at v w;exact⟨t,C,by rw[aN,A];exact v,w⟩
 exact key l [] s rfl y
def hJ{e h S R:Type}{f:S->Option (S⊕R)}(l:List e)(b:List h->Int->S) g fin (k:l.length<=4294967296)
  (a:∀i x,l[i]?=aa x->i<l.length->aw .i64 i 1=((i+1:Nat):Int)->f (b ((l.take i).flatMap g) i)=aa (.inl<|b ((l.take i).flatMap g++g x) ((i+1:Nat):Int)))
  (c:f (b (l.flatMap g) (l.length:Int))=aa (.inr fin)):Loop f (b [] 0)=aa fin:=by
 refine cV l.length (λj=>b ((l.take j).flatMap g) j) (λj d=>?_) (by simp;exact c);have hx:=fH d;have:=a j l[j] hx d (aB ah);rw[this,yn,hx,List.flatMap_append];simp
def dh{α}{l:List α}(h:l.length<=4294967296):fits (len l)=true:=aa8 h
def bc{a:Type}{l:List a}{x}:x∈l↔∃i:Nat,l[i]?=aa x:=by rw[PQ]
abbrev Tx:=bb
abbrev Nm:=Tx×List Tx×aj
def O9(l:List Tx)(s:Tx)(c:l.length<=4294967296):yG (l,s,())=aa (decide<|s∈l,()):=by
 unfold yG;rcases eu (f:=sI (l,s,())) l (λi=>((false,i,()),())) (λ_ x=>decide (x=s)) (λi x=>(1,(true,(i:Int),()),())) (0,(false,len l,()),()) c (λi x a b d=>by
  unfold sI;dsimp only;rw[al b,ai,ao a,ab,da,d];by_cases h:x=s<;>simp[bt,h]) (by unfold sI;dsimp only;rw[aq,ag];rfl) with ⟨i,x,a,e,k,h⟩|⟨g,h⟩
 .rw[h,ab];have:s∈l:=by rw[<-fb e];exact bc.2 ⟨i,a⟩
  rw[cU this];rfl
 .rw[h,ab];have:s∉l:=λj=>by
   obtain⟨i,b⟩:=bc.1 j;have:=g i s b;simp at this
  simp[this,cl,ak]
def GM(l:List Nm)(id:Tx):Int:=match l.findIdx? (λx=>decide (x.1=id)) with|some i=>(i:Int)|none=>-1
def Vo{l id}{i:Nat}{x}(b:l[i]?=aa x)(c:x.1=id)(d:∀j y,j<i->l[j]?=aa y->decide (y.1=id)=false):GM l id=i:=by
 unfold GM;have:l.findIdx? (λx=>decide (x.1=id))=aa i:=by
  rw[WW];obtain⟨e,rfl⟩:=iy.1 b;exact⟨e,by simp[c],λj a=>by have:=d j l[j] a (fH ah);simpa using this⟩
 rw[this]
def MX{l id}(a:∀(i:Nat) x,l[i]?=aa x->decide (x.1=id)=false):GM l id=-1:=by
 unfold GM;have:l.findIdx? (λx=>decide (x.1=id))=none:=by
  rw[Y2];intro x b;obtain⟨i,c⟩:=bc.1 b;exact a i x c
 rw[this]
def MY(l:List Nm)(id:Tx)(b:l.length<=4294967296):wC (l,id,())=aa (GM l id,()):=by
 unfold wC;rcases eu (f:=qF (l,id,())) l (λi=>(((0:Int),i,()),())) (λ_ x=>decide (x.1=id)) (λi x=>(1,((i:Int),(i:Int),()),())) (0,((0:Int),len l,()),()) b (λi x a c d=>by
  unfold qF;dsimp only;rw[al c,ai,ao a,ab,da,d];by_cases h:x.1=id<;>simp[bt,h]) (by unfold qF;dsimp only;rw[aq,ag];rfl) with ⟨i,x,a,e,g,h⟩|⟨j,h⟩
 .rw[h,ab,Vo a (fb e) g];rfl
 .rw[h,ab,MX j];rfl
def MZ(l:List Nm)(id:Tx)(b:l.length<=4294967296):wB (l,id,())=aa (GM l id,()):=by
 unfold wB;rcases eu (f:=qD (l,_)) l (λi=>((0,i,()),id,())) (λ_ x=>decide (x.1=id)) (λi x=>(1,(i,i,()),id,())) _ b (λi x a c d=>by
  unfold qD;rw[al c,ai,ao a,ab,da,d];by_cases h:x.1=id<;>simp[bt,h]) (by unfold qD;rw[aq];rfl) with ⟨i,x,a,e,g,h⟩|⟨j,h⟩
 .rw[h,Vo a (fb e) g];rfl
 .rw[h,MX j];rfl
def Cv(l:List Tx)(s:Tx)(c:l.length<=4294967296):bC (l,s,())=aa (decide<|s∈l,()):=by
 unfold bC eO;rcases eu (f:=bT (l,s,())) l (λi=>((0,i,()),())) (λ_ x=>decide (x=s)) (λi x=>(1,(i,i,()),())) _ c (λi x a b d=>by
  unfold bT;rw[al b,ai,ao a,ab,da,d];by_cases h:x=s
  .simp[bt,h]
  .have g:¬s=x:=λe=>h e.symm;simp[bt,h,g]) (by unfold bT;rw[aq];rfl) with ⟨i,x,a,j,n,h⟩|⟨k,h⟩
 .rw[h];have:s∈l:=by rw[<-fb j];exact bc.2 ⟨i,a⟩
  rw[cU this];show aa (ch 0 i,())=_
  rw[bz ah]
 .rw[h];have:s∉l:=λm=>by
   obtain⟨i,b⟩:=bc.1 m;have:=k i s b;simp at this
  simp[this,cl,ak,ae,ch]
def Small(l:List Nm):Prop:=l.length<=4294967296/\∀x∈l,x.2.1.length<=4294967296
set_option maxRecDepth 100000
def allowed:Tx:=[97,98,99,100,101,102,103,104,105,106,107,108,109,110,111,112,113,114,115,116,117,118,119,120,121,122,48,49,50,51,52,53,54,55,56,57,46,95,45]
def SL(c:UInt8):Bool:=allowed.contains c
def ic(s:Tx):Bool:=decide (1<=s.length)&&decide (s.length<=32)&&s.all SL
def ZK(a:Tx)(b:List Bool):List Bool:=(a.zipIdx).foldl (λt p=>kh t (u8 p.1) true) b
def E5:List Bool:=List.replicate 256 false
def akJ c:u8 c<256:=by unfold u8;have:=c.toNat_lt;omega
def akK c:0<=u8 c:=by unfold u8;omega
def Qs c:within (u8 c) 256=true:=aF (akK c) (akJ c)
def aeA{t}(h:t.length=256) c:idx t (u8 c)=aa (t.getD c.toNat false):=nB t false rfl (by have:=c.toNat_lt;omega)
def Pb(a:Tx)(j:a.length<=4294967296)(k:∀c∈a,c<128):eh (a,())=aa (ZK a E5,true,()):=by
 unfold eh;obtain⟨t,o,l,m⟩:=uc (f:=et (a,())) a (λt i=>((false,i,()),t,())) (λt i x=>kh t _ true) _ (λt _=>t.length=256) j
  (λt i x h n b e=>by
   refine⟨?_,by simp[kh,e]⟩;unfold et;have d:u8 x<128:=by unfold u8;have:x.toNat<128:=(k x<|bc.2 ⟨i,h⟩);omega
   rw[al n,ai,ao h,ab,cG d,ag,Qs,ai,aeA e,ab,ab,ab,b])
  (λt e=>by unfold et;rw[aq];rfl) E5 (by simp[E5])
 have g:Loop _ _=_:=l;rw[show(List.replicate 256 false)=E5 from rfl,g];rw[m];rfl
def aiZ c:(ZK allowed E5).getD c.toNat false=SL c:=by
 have key:∀n:Fin 256,(ZK allowed E5).getD n.val false=SL (UInt8.ofNat n.val):=by decide +kernel
 have:=key ⟨c.toNat,c.toNat_lt⟩;simp_all
def ZL:(ZK allowed E5).length=256:=by decide +kernel
def M0{t}(a:t.length=256) c:cJ ((u8 c,()),t,())=aa ((t.getD c.toNat false,()),t,()):=by
 unfold cJ;rw[Qs,ai,aeA a,ab]
def SM{t}(a:t.length=256):∀(s:Tx),gG ((s,()),t,())=aa ((s.dropWhile<|λc=>t.getD c.toNat false,()),t,()):=by
 have key:∀s,Loop fm ((s,()),t,())=aa ((s.dropWhile<|λc=>t.getD c.toNat false,()),t,()):=by
  intro s;induction s with
  | nil =>
    rw[aN];rfl
  | cons c r d =>
    rw[aN];unfold fm;have hi:idx (c::r) 0=aa c:=rfl;rw[GI,hi,ab,M0 a,ab,TS];cases e:t.getD c.toNat false with
    | false=>rfl
    | true =>
      rw[ aO aD (by simp[len];omega) (tr _)];have b:sub (c::r) 1 (minus (len (c::r)) 1)=r:=by
       have:=jd (c::r) 1 aT
       grind
      rw[b];show Loop fm _=_
      grind
 intro s;unfold gG;rw[key,ab]
def aeB{α}{l:List α}(h:l.length<=4294967296):cA .i64 (len l) 1=(l.length:Int)-1:=df (by simp only[len];omega) (by simp only[len];omega)
def Pc{t}(f:t.length=256):∀n (s:Tx),s.length=n->n<=4294967296->dM ((s,()),t,())=aa (((s.reverse.dropWhile λc=>t.getD c.toNat false).reverse,()),t,()):=by
 have key:∀n s,s.length=n->n<=4294967296->Loop cK ((s,()),t,())=aa (((s.reverse.dropWhile λc=>t.getD c.toNat false).reverse,()),t,()):=by
  intro n;induction n with
  | zero =>
    intro s a _;obtain rfl:=yZ.1 a;rw[aN];rfl
  | succ n g =>
    intro s a d;obtain⟨r,c,rfl⟩:∃r c,s=r++[c]:=⟨s.dropLast,s.getLast (by intro e;rw[e] at a;simp at a),(ahQ _).symm⟩;rw[aN];unfold cK;have hlen:cA .i64 (len<|r++[c]) 1=r.length:=by rw[aeB ah];simp
    have hi:idx (r++[c]) r.length=aa c:=by rw[su];simp
    rw[GI,show decide _=true from aT,hlen,hi,ab,M0 f,ab,List.reverse_append,List.reverse_singleton,List.singleton_append,TS];cases h:t.getD c.toNat false with
    | false=>simp[nt,ak,cq]
    | true =>
      rw[ (aO aD ah<|by simp only[len,iC];omega)];have b:sub (r++[c]) 0 (minus r.length 0)=r:=by rw[fT];simp
      rw[b];show Loop cK _=_
      grind
 intro n s a d;unfold dM;rw[key n s a d,ab]
def dropWhile_nil{b:Type}{p}{l:List b}:l.dropWhile p=[]↔l.all p=true:=by
 induction l with
 | nil=>simp
 | cons a r c =>
   rw[TS]
   grind
def aeC{p}(s:Tx):((s.reverse.dropWhile p).reverse.dropWhile p=[])↔s.all p=true:=by
 constructor
 .intro h;rw[dropWhile_nil] at h;have a:s.reverse.all p=true:=by
   have e:s.reverse.takeWhile p++s.reverse.dropWhile p=s.reverse:=BJ;rw[<-e,List.all_append];simp_all
  grind
 .intro h;have:s.reverse.dropWhile p=[]:=by rw[dropWhile_nil,List.all_reverse];exact h
  simp_all
def GN(s:Tx):mJ (s,())=aa (ic s,()):=by
 unfold mJ ic;have d:ch 1 (len s)=decide (1<=s.length):=by unfold len;apply gm.2;omega
 have f:ch (len s) 32=decide (s.length<=32):=by unfold len;apply gm.2;omega
 rw[d,f];by_cases a:1<=s.length
 .rw[cU a,ai];by_cases c:s.length<=32
  .rw[cU c,ai,show([97,98,99,100,101,102,103,104,105,106,107,108,109,110,111,112,113,114,115,116,117,118,119,120,121,122,48,49,50,51,52,53,54,55,56,57,46,95,45])=allowed from rfl];unfold iJ;have g:s≠[]:=by intro e;rw[e] at a;simp at a
   rw[aY g,aE,ai,aY (show allowed≠[] by decide),ag,show aG _ 1=false from rfl,ag,ab,Pb allowed aD aD,ab];rw[ Pc ZL s.length s rfl ah,ab];rw[SM ZL];rw[(funext aiZ)];show aa _=_
   have:=aeC (p:=SL) s;by_cases b:s.all SL=true
   .rw[cc<|this.2 b,b];rfl
   .rw[aY λe=>b (this.1 e)]
    grind
  .rw[cd c,ag,ab];simp
 .rw[cd a,ag,ag,ab];simp
def Vp(c:UInt8):Bool:=ak (ak (ak (ak (ak (nt<|aL (u8 c) 97) (aL 122<|u8 c) true) (ak (nt<|aL (u8 c) 48) (aL 57<|u8 c) true) false) (nt<|aG (u8 c) 46) false) (nt<|aG (u8 c) 95) false) (nt<|aG (u8 c) 45) false
def Vq c:Vp c=!SL c:=by
 have key:∀n:Fin 256,Vp (UInt8.ofNat n.val)=!SL (UInt8.ofNat n.val):=by decide +kernel
 have:=key ⟨c.toNat,c.toNat_lt⟩;simp_all
def Bu(s:Tx)(c:s.length<=4294967296):oC (s,())=aa (ic s,()):=by
 unfold oC ic;rcases eu (f:=nM (s,())) s (λi=>((false,i,()),())) (λ_ x=>Vp x) _ _ c (λi x a b d=>by
  unfold nM;rw[al b,ao a,d];show ak (Vp x) _ _=_
  cases Vp x<;>rfl) (by unfold nM;rw[aq];rfl) with ⟨i,x,a,e,l,h⟩|⟨g,h⟩
 .rw[h];have:s.all SL=false:=by
   rw[Vq] at e
   grind
  rw[this,adl];rfl
 .rw[h];have:s.all SL=true:=by
   rw[wa];intro x a;obtain⟨i,b⟩:=bc.1 a;have:=g i x b;rw[Vq] at this
   grind
  rw[this,adp];have j:ch 1 (len s)=decide (1<=s.length):=by unfold len;apply gm.2;omega
  have k:ch (len s) 32=decide (s.length<=32):=by unfold len;apply gm.2;omega
  rw[j,k];cases decide (1<=s.length)<;>rfl
end Go.Ge
namespace Go.Ge
variable [Lp]
open Go.Lib
def X6(l:List Tx):(vp l).Pairwise (λa b=>a<=b):=by
 have:=List.pairwise_mergeSort (le:=λx y=>decide (x<=y)) (λa b c h k=>by simp at h k⊢;exact List.le_trans h k) (λa b=>by simp;exact List.le_total a b) l;unfold vp
 grind
def Vr(l:List Tx):(vp l).Nodup↔l.Nodup:=(List.mergeSort_perm l _).nodup_iff
def Vs{m:List Tx}{j} a:keeps m.toArray j=decide (j=0\/m[j]≠m[j-1]'ah):=by
 unfold keeps
 grind
def SN(m:List Tx)(q:m.Pairwise λa b=>a<=b):(compact m).length<m.length↔¬m.Nodup:=by
 unfold compact compactUpTo;rw[y4];have:((List.range m.length).filter<|keeps m.toArray).length<m.length↔∃x,x∈List.range m.length/\¬keeps m.toArray x=true:=by
  have:=List.length_filter_lt_length_iff_exists (p:=keeps m.toArray) (l:=List.range m.length)
  grind
 rw[this];constructor
 .rintro⟨j,c,g⟩ f;have e:=Ln.1 c;rw[Vs e] at g;simp at g;have r:=Rl.1 f (j-1) j ah e ah
  grind
 .intro f;by_cases h:∃i j,∃(d:i<j) (c:j<m.length),m[i]'ah=m[j]
  .obtain⟨i,j,d,c,k⟩:=h;refine⟨j,Ln.2 c,?_⟩;rw[Vs c];have le:=λa b n o=>Rl.1 q a b ah o n;have n:m[j-1]'ah<=m[j]:=le _ j ah c;have o:m[j]<=m[j-1]'ah:=by
    grind
   grind
  .exfalso;apply f;refine Rl.2 λi j s c d k=>h ⟨i,j,d,c,k⟩
def yQ(l:List Tx):Bool:=l.all ic&&decide l.Nodup&&decide (l.length<=4)
def eU(l:List Tx):Int:=if yQ l=true then 0 else 1
def vv(l:List Tx)(b:l.length<=4294967296):gi (l,())=aa (eU l,()):=by
 unfold gi;have d:nt (aL 4<|len l)=decide (l.length<=4):=by
  unfold nt aL len
  grind
 have e:aL (len<|compact<|vp l) (len l)=!decide l.Nodup:=by
  have h:=SN _ (X6 l);rw[Ql,Vr] at h;unfold aL len
  grind
 have g:e8 l ()=aa (vp l):=by
  unfold e8;rw[dh b];rfl
 rw[dh b,g];rcases eu (f:=po (l,())) l (λi=>((0,i,()),())) (λ_ x=>!ic x) (λi x=>(1,(i,i,()),())) _ b (λi x a c j=>by
  unfold po;rw[al c,ai,ao a,ab,GN,ab,aex,da,j];by_cases h:ic x=true<;>simp[h]) (by unfold po;rw[aq];rfl) with ⟨i,x,a,m,n,h⟩|⟨o,h⟩
 .rw[h];have:l.all ic=false:=by
   grind
  have k:eU l=1:=by unfold eU yQ;rw[this];rfl
  rw[k];show ak (ak _ _ true) _ _=_
  cases nt _<;>rfl
 .rw[h];have:l.all ic=true:=by
   rw[wa];intro x a;obtain⟨i,c⟩:=bc.1 a
   grind
  show ak (ak _ _ true) _ _=_
  rw[d,e];unfold eU yQ;rw[this];cases decide l.Nodup<;>cases decide (l.length<=4)<;>rfl
def SO(l:List Tx)(D:l.length<=4294967296)(E:∀x∈l,x.length<=4294967296):uL (l,())=aa (yQ l,()):=by
 unfold uL;have inner:∀r (i:Nat) x,l[i]?=aa x->(∃j y,j<i/\l[j]?=aa y/\y=x/\∃q,Loop (iA (l,()) ((r,(i:Int),()),())) ((r,(0:Int),()),())=aa (1,(false,q),()))\/((∀j y,j<i->l[j]?=aa y->y≠x)/\∃q,Loop (iA (l,()) ((r,(i:Int),()),())) ((r,0,()),())=aa (0,(r,q),())):=by
  intro r i x a;have hi:=av a;have g:min i l.length=i:=ah;rcases rA (f:=iA (l,()) ((r,i,()),())) l i (λj=>((r,j,()),())) (λ_ y=>decide (y=x)) (λj y=>(1,(false,j,()),())) _ ah (λj y m p b s=>by
   unfold iA;rw[aH<|show(j:Int)<i by omega,ai,ao m,ab,ao a,ab,da,s];by_cases h:y=x<;>simp[bt,h]) (by
   unfold iA;rw[g,aC (tr _),ag]) with ⟨j,y,b,m,e,_,h⟩|⟨B,h⟩
  .grind
  .grind
 let bad:=λi x=>!ic x||(l.take i).contains x
 have c:∀i x,l[i]?=aa x->((l.take i).contains x=true↔∃j y,j<i/\l[j]?=aa y/\y=x):=by
  intro i x a;simp only[List.contains_eq_mem,Ap];rw[bc];constructor
  .grind
  .rintro⟨j,y,b,m,rfl⟩;exact⟨j,by rw[jM,aQ b];exact m⟩
 rcases eu (f:=pq (l,())) l (λi=>((false,i,()),())) bad (λi x=>(1,(false,i,()),())) _ D (λi x a hi s=>by
  unfold pq;rw[al hi,ao a,ab,Bu x (E x<|bc.2 ⟨i,a⟩),ab];cases C:ic x with
  | false=>simp[bad,C,nt,ak]
  | true =>
    rcases inner false i x a with ⟨j,y,n,o,t,q,h⟩|⟨B,q,h⟩
    .have d:=(c i x a).2 ⟨j,y,n,o,t⟩;rw[h];show aa _=_
     grind
    .have d:(l.take i).contains x=false:=by
      grind
     rw[h,s];simp only[bad,C,d];rfl) (by unfold pq;rw[aq];rfl) with ⟨i,x,a,e,p,h⟩|⟨B,h⟩
 .rw[h];have:yQ l=false:=by
   unfold yQ;simp only[bad,Ll] at e;rcases e with e|e
   .grind
   .have:¬l.Nodup:=λu=>by
     obtain⟨j,y,n,o,t⟩:=(c i x a).1 e;obtain⟨v,k⟩:=iy.1 a;obtain⟨w,z⟩:=iy.1 o;exact Rl.1 u j i w v n (by rw[z,k,t])
    grind
  rw[this];rfl
 .rw[h];have n:l.all ic=true:=by
   rw[wa];intro x A;obtain⟨i,hi⟩:=bc.1 A
   grind
  have o:l.Nodup:=by
   refine Rl.2 λj i p hi b F=>?_;have G:=(c i l[i]<|fH hi).2 ⟨j,l[j],b,fH p,F⟩
   grind
  show aa _=_
  unfold yQ;have:ch (len l) 4=decide (l.length<=4):=by unfold len;apply gm.2;omega
  grind
def oI(l:List Tx)(a:l.length<=4294967296)(b:∀x∈l,x.length<=4294967296):gj (l,())=aa (eU l,()):=by
 unfold gj;dsimp only;rw[SO l a b,ab];unfold eU;cases yQ l<;>rfl
end Go.Ge
