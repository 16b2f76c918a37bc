import Derived.Test.YtgklgliokhbcnaaGreatDoorPlB
set_option linter.unusedVariables false
set_option linter.unusedSectionVars false
set_option linter.unusedSimpArgs false
set_option linter.defProp false
noncomputable section
open Option renaming some->aa,none->af
open Sum renaming inl->aA,inr->aB
open Go.IntKind (i64)
namespace Go.Ge
variable [Lp]
set_option maxRecDepth 100000
abbrev ig:=((List<|Sb×(List Sb)×Sb×Sb×Sb×(List<|Sb×Sb×Sb×aj)×aj)×(List<|Sb×(List Sb)×Sb×Sb×(List<|Sb×Sb×Sb×aj)×aj)×(List<|Sb×Sb×(List Sb)×Sb×Int×Int×Bool×aj)×(List Sb)×(List<|Sb×Int×aj)×aj)
abbrev ow:=(Sb×(List Sb)×Sb×Sb×Sb×(List<|Sb×Sb×Sb×aj)×aj)
abbrev ai7:=(Sb×Sb×(List Sb)×Sb×Int×Int×Bool×aj)
abbrev Cg:=(Int×Sb×Int×Sb×aj)
abbrev HU:=(Int×Int×Sb×Sb×(List Sb)×Sb×Sb×Int×aj)
abbrev ai8:=(Sb×(List Sb)×Sb×Sb×(List<|Sb×Sb×Sb×aj)×aj)
abbrev Ss:=(Sb×Sb×Sb×aj)
abbrev rh:=(Int×Int×aj)
abbrev Gn:=(bg×((List bg)×(bg×(bg×(bg×((List<|bg×(bg×(bg×aj)))×aj))))))
abbrev KQ:=(Sb×(List Sb)×aj)
abbrev KR:=(Nat×rh×Sb×aj)
abbrev Su:=(Bool×Int×aj)
abbrev KT:=(rh×Sb×aj)
abbrev agY:=(Nat×Su×aj)
abbrev Zz:=((Int×aj)×(aj×aj×aj)×(List<|Int)×aj)
def cc(l:List Gn)(x:(Int×((List Gn)×aj))):Option (List Gn):=tE l x.1 x.2.1
def du(l:List Gn)(x:(Int×(Int×aj))):Option (List Gn):=J5 l x.1 x.2.1
def tI(x:ig×Sb×aj):Option (Cg×aj) :=
 ae (eG (x.1,x.2.1,())) (λa=>ak (nt<|aG a.2.1 0)
 (ae (dY (a.2.1,())) λc=>aa (c.1,()))
 (ae (kt (x.1,a.1,())) λc=>ae (ma (x.1,a.1,())) λd=>ak (nt<|aG d.2.1 0)
 (ae (dY (d.2.1,())) λb=>aa (b.1,()))
 (ae (iT (x.1,c.1.2.1,())) λb=>ak (nt<|aG b.2.1 0)
 (ae (dY (b.2.1,())) λe=>aa (e.1,()))
 (ae (qm (b.1,d.1,())) λe=>ae (vW (e.1,())) λf=>aa ((0,a.1,0,f.1,()),())))))
def kv(x:Int×aj):Option (Cg×aj) :=
 aa ((x.1,[],0,[],()),())
def nc(x:ig×aj):Option ((List KQ)×aj) :=
 ae (qY (1,(0,([]:List ai7),([]:List ai8),x.1.1,()),())) (λa=>aa (a.1,()))
def tJ(x:(List ow)×aj):Option ((List ow)×aj) :=
 bif fits (len x.1) then aa (x.1,()) else af
def iU(x:ig×ow×aj)(a:rh×Sb×aj):Option (KT⊕KR) :=
 ak (aU a.1.2.1<|len x.1.1)
 (ak (within a.1.2.1<|len x.1.1)
 (ae (idx x.1.1 a.1.2.1) λb=>ak (br b.1 a.2.1)
 (aa<|aB (1,(a.1.2.1,a.1.2.1,()),a.2.1,()))
 (aa<|aA ((a.1.1,aw i64 a.1.2.1 1,()),a.2.1,())))
 af)
 (aa<|aB (0,(a.1.1,a.1.2.1,()),a.2.1,()))
def sC(x:ig×ow×aj)(a:rh×ow×aj):Option ((rh×ow×aj)⊕(Nat×rh×ow×aj)) :=
 ak (aU a.1.2.1<|len x.1.1)
 (ak (within a.1.2.1<|len x.1.1)
 (ae (idx x.1.1 a.1.2.1) λb=>ak (nt<|fM b.1 a.2.1.1)
 (aa<|aB (1,(a.1.2.1,a.1.2.1,()),a.2.1,()))
 (aa<|aA ((a.1.1,aw i64 a.1.2.1 1,()),a.2.1,())))
 af)
 (aa<|aB (0,(a.1.1,a.1.2.1,()),a.2.1,()))
def sD(b:(aj×aj)×(List ow)×aj)(a:rh×ow×aj):Option ((rh×ow×aj)⊕(Nat×rh×ow×aj)) :=
 ak (aU a.1.2.1<|len b.2.1)
 (ak (within a.1.2.1<|len b.2.1)
 (ae (idx b.2.1 a.1.2.1) λc=>ak (nt<|fM c.1 a.2.1.1)
 (aa<|aB (1,(a.1.2.1,a.1.2.1,()),a.2.1,()))
 (aa<|aA ((a.1.1,aw i64 a.1.2.1 1,()),a.2.1,())))
 af)
 (aa<|aB (0,(a.1.1,a.1.2.1,()),a.2.1,()))
def j9(x:ig×ow×aj):Option (ig×aj) :=
 ak (fits<|len x.1.1)
 (ae (Loop (iU x) ((0,0,()),x.2.1.1,())) λd=>ak (cK d.1 0)
 (ae (aX (x.2.1.2.1,())) λa=>ae (bN (x.2.1.2.2.2.2.2.1,())) λe=>ae (Loop (sC x) ((0,0,()),(x.2.1.1,a.1,x.2.1.2.2.1,x.2.1.2.2.2.1,x.2.1.2.2.2.2.1,e.1,x.2.1.2.2.2.2.2.2),())) λc=>ak (cK c.1 0)
 (ae (cc x.1.1 ((((len x.1.1,()),()).1).1,([c.2.2.1]:List ow),())) λb=>aa ((b,x.1.2.1,x.1.2.2.1,x.1.2.2.2.1,x.1.2.2.2.2.1,x.1.2.2.2.2.2),()))
 (ae (cc x.1.1 (((ak (aU c.2.1.1 0)
 ((len x.1.1,()),())
 ((c.2.1.1,()),())).1).1,([c.2.2.1]:List ow),())) λb=>aa ((b,x.1.2.1,x.1.2.2.1,x.1.2.2.2.1,x.1.2.2.2.2.1,x.1.2.2.2.2.2),())))
 (ae (ak (cw 0 d.2.1.1)
 (ae (du x.1.1 (d.2.1.1,aw i64 d.2.1.1 1,())) λa=>aa (((),()),a,()))
 (aa (((),()),x.1.1,()))) λa=>ae (aX (x.2.1.2.1,())) λe=>ae (bN (x.2.1.2.2.2.2.2.1,())) λc=>ae (Loop (sD a) ((0,0,()),(x.2.1.1,e.1,x.2.1.2.2.1,x.2.1.2.2.2.1,x.2.1.2.2.2.2.1,c.1,x.2.1.2.2.2.2.2.2),())) λb=>ak (cK b.1 0)
 (ae (cc a.2.1 ((((len a.2.1,()),()).1).1,([b.2.2.1]:List ow),())) λf=>aa ((f,x.1.2.1,x.1.2.2.1,x.1.2.2.2.1,x.1.2.2.2.2.1,x.1.2.2.2.2.2),()))
 (ae (cc a.2.1 (((ak (aU b.2.1.1 0)
 ((len a.2.1,()),())
 ((b.2.1.1,()),())).1).1,([b.2.2.1]:List ow),())) λf=>aa ((f,x.1.2.1,x.1.2.2.1,x.1.2.2.2.1,x.1.2.2.2.2.1,x.1.2.2.2.2.2),()))))
 af
def sE(x:ig×Sb×(List Sb)×Sb×Int×aj):Option (ig×Cg×aj) :=
 ae (gm (x.2.2.1,())) (λg=>ak (ak (nt<|nt<|aG g.1 0)
 (aU 64<|len x.2.2.2.1)
 true)
 (ae (kv (1,())) λb=>aa (x.1,b.1,()))
 (ae (ak (nt<|br x.2.1 [])
 (ae (mX (x.1,x.2.1,())) λb=>aa ((b.2.1,()),([],x.2.2.1,b.1,[],x.2.2.2.1,[],()),()))
 (aa ((0,()),([],x.2.2.1,[],([]:bg),x.2.2.2.1,([]:List Ss),()),()))) λb=>ae (ak (aG b.1.1 0)
 (ae (nc (x.1,())) λe=>ae (hY (e.1,[],x.2.2.1,())) λa=>aa ((a.1,()),()))
 (aa ((b.1.1,()),()))) λe=>ae (ak (aG e.1.1 0)
 (ae (nc (x.1,())) λa=>ae (iO (a.1,gP i64 x.2.2.2.2.1 16777215,())) λc=>aa ((c.2.1,()),(c.1,b.2.1.2),()))
 (aa ((e.1.1,()),b.2.1,()))) λa=>ak (nt<|aG a.1.1 0)
 (ae (kv (a.1.1,())) λc=>aa (x.1,c.1,()))
 (ae (pd (x.1,a.2.1.2.2.1,())) λc=>ae (jM (x.1,(((((ak (br x.2.1 [])
 ((),([],[],[],[],([]:List Ss),()),())
 ((),c.1,())).2).1).2).2).1,[],[],gP i64 (jv i64 x.2.2.2.2.1 24) 16777215,())) λd=>ak (nt<|aG d.2.1.1 0)
 (ae (kv (d.2.1.1,())) λf=>aa (x.1,f.1,()))
 (ae (j9 (d.1,(a.2.1.1,a.2.1.2.1,a.2.1.2.2.1,d.2.1.2.1,a.2.1.2.2.2.2),())) λf=>aa (f.1,(0,a.2.1.1,0,d.2.1.2.1,()),())))))
def wc(x:ig×Sb×aj):Option (Sb×Int×aj) :=
 ae (nc (x.1,())) (λb=>ae (ix (b.1,x.2.1,())) λa=>aa (a.1,a.2.1,()))
def sF(x:ig×Sb×aj)(a:rh×Sb×aj):Option (KT⊕KR) :=
 ak (aU a.1.2.1<|len x.1.1)
 (ae (idx x.1.1 a.1.2.1) λb=>ak (br b.1 a.2.1)
 (aa<|aB (1,(a.1.2.1,a.1.2.1,()),a.2.1,()))
 (aa<|aA ((a.1.1,aw i64 a.1.2.1 1,()),a.2.1,())))
 (aa<|aB (0,(a.1.1,a.1.2.1,()),a.2.1,()))
def rz(x:ig×Sb×aj):Option (ow×Bool×aj) :=
 ae (Loop (sF x) ((0,0,()),x.2.1,())) (λb=>ak (cK b.1 0)
 (aa (([],[],[],[],[],([]:List Ss),()),false,()))
 (ak (aU b.2.1.1 0)
 (aa (([],[],[],[],[],([]:List Ss),()),false,()))
 (ae (idx x.1.1 b.2.1.1) λa=>ae (aX (a.2.1,())) λc=>ae (bN (a.2.2.2.2.2.1,())) λd=>aa ((a.1,c.1,a.2.2.1,a.2.2.2.1,a.2.2.2.2.1,d.1,a.2.2.2.2.2.2),true,()))))
def nG(x:ig×Sb×aj)(a:rh×Sb×aj):Option (KT⊕KR) :=
 ak (aU a.1.2.1<|len x.1.1)
 (ak (within a.1.2.1<|len x.1.1)
 (ae (idx x.1.1 a.1.2.1) λb=>ak (br b.1 a.2.1)
 (aa<|aB (1,(a.1.2.1,a.1.2.1,()),a.2.1,()))
 (aa<|aA ((a.1.1,aw i64 a.1.2.1 1,()),a.2.1,())))
 af)
 (aa<|aB (0,(a.1.1,a.1.2.1,()),a.2.1,()))
def sG(x:ig×Sb×aj):Option (ig×Cg×aj) :=
 ae (wc (x.1,x.2.1,())) (λc=>ak (nt<|aG c.2.1 0)
 (ae (kv (c.2.1,())) λa=>aa (x.1,a.1,()))
 (ae (rz (x.1,c.1,())) λa=>ak (fits<|len x.1.1)
 (ae (Loop (nG x) ((0,0,()),c.1,())) λf=>ak (cK f.1 0)
 (ae (dh (x.1,a.1.2.2.2.1,())) λd=>ae (ak (nt<|aU 0 d.1)
 (ae (pf ((x.1.1,x.1.2.1,x.1.2.2.1,x.1.2.2.2.1,x.1.2.2.2.2.1,x.1.2.2.2.2.2),a.1.2.2.2.1,())) λe=>aa e.1)
 (aa true)) λe=>ak e
 (ae (kv (7,())) λb=>aa (x.1,b.1,()))
 (ae (jN ((x.1.1,x.1.2.1,x.1.2.2.1,x.1.2.2.2.1,x.1.2.2.2.2.1,x.1.2.2.2.2.2),a.1.2.2.2.1,())) λb=>aa (b.1,(0,c.1,0,[],()),())))
 (ae (ak (cw 0 f.2.1.1)
 (ae (du x.1.1 (f.2.1.1,aw i64 f.2.1.1 1,())) λd=>aa (((),()),d,()))
 (aa (((),()),x.1.1,()))) λd=>ae (dh (x.1,a.1.2.2.2.1,())) λe=>ae (ak (nt<|aU 0 e.1)
 (ae (pf ((d.2.1,x.1.2.1,x.1.2.2.1,x.1.2.2.2.1,x.1.2.2.2.2.1,x.1.2.2.2.2.2),a.1.2.2.2.1,())) λb=>aa b.1)
 (aa true)) λb=>ak b
 (ae (kv (7,())) λg=>aa (x.1,g.1,()))
 (ae (jN ((d.2.1,x.1.2.1,x.1.2.2.1,x.1.2.2.2.1,x.1.2.2.2.2.1,x.1.2.2.2.2.2),a.1.2.2.2.1,())) λg=>aa (g.1,(0,c.1,0,[],()),()))))
 af))
def fQ(x:(List<|Int)×Int×aj)(a:rh×aj):Option ((rh×aj)⊕(Nat×rh×aj)) :=
 ak (aU a.1.2.1<|len x.1)
 (ae (idx x.1 a.1.2.1) λb=>ak (aG x.2.1 b)
 (aa<|aB (1,(a.1.2.1,a.1.2.1,()),()))
 (aa<|aA ((a.1.1,aw i64 a.1.2.1 1,()),())))
 (aa<|aB (0,(a.1.1,a.1.2.1,()),()))
def ij(x:(List<|Int)×Int×aj):Option (Int×aj) :=
 ae (Loop (fQ x) ((0,0,()),())) (λa=>ak (cK a.1 0)
 (aa ((-1),()))
 (aa (a.2.1.1,())))
def dG(x:(List<|Int)×Int×aj):Option (Bool×aj) :=
 ae (ij (x.1,x.2.1,())) (λa=>aa (cw 0 a.1,()))
def xo(x:HU×(List<|Int)×aj):Option ((List<|Int)×aj) :=
 ae (dG (x.2.1,x.1.2.1,())) (λa=>ak a.1
 (aa ([x.1.2.1],()))
 (aa ([],())))
def p9(x:HU×aj):Option ((List<|Int)×aj) :=
 ak (((ak (aG x.1.1 2)
 ((aG x.1.1 2,()),())
 ((((ak (aG x.1.1 11)
 ((aG x.1.1 11,()),())
 ((aG x.1.1 12,()),())).1).1,()),())).1).1)
 (aa ([(1:Int),2,3],()))
 (ak (aG x.1.1 7)
 (aa ([(2:Int),3],()))
 (ak (aG x.1.1 8)
 (aa ([(1:Int),2],()))
 (ak (((ak (aG x.1.1 1)
 ((aG x.1.1 1,()),())
 ((((ak (aG x.1.1 3)
 ((aG x.1.1 3,()),())
 ((((ak (aG x.1.1 4)
 ((aG x.1.1 4,()),())
 ((((ak (aG x.1.1 5)
 ((aG x.1.1 5,()),())
 ((aG x.1.1 6,()),())).1).1,()),())).1).1,()),())).1).1,()),())).1).1)
 (aa ([(3:Int)],()))
 (ak (((ak (aG x.1.1 9)
 ((aG x.1.1 9,()),())
 ((aG x.1.1 10,()),())).1).1)
 (ae (xo (x.1,[(1:Int),2],())) λa=>aa (a.1,()))
 (ak (((ak (aG x.1.1 13)
 ((aG x.1.1 13,()),())
 ((((ak (aG x.1.1 14)
 ((aG x.1.1 14,()),())
 ((aG x.1.1 15,()),())).1).1,()),())).1).1)
 (ae (xo (x.1,[(1:Int),2,3],())) λa=>aa (a.1,()))
 (aa ([],())))))))
def eJ(x:Int×aj):Option (Cg×aj) :=
 aa ((x.1,[],0,[],()),())
def uF(x:ig×Int×aj):Option ((List KQ)×aj) :=
 ae (qY (x.2.1,(0,x.1.2.2.1,x.1.2.1,x.1.1,()),())) (λa=>aa (a.1,()))
def AB(x:ig×HU×aj):Option (ig×Cg×aj) :=
 ae (p9 (x.2.1,())) (λf=>ae (dG (f.1,x.2.1.2.1,())) λg=>ak (nt g.1)
 (ae (eJ (1,())) λe=>aa (x.1,e.1,()))
 (ae (uF (x.1,x.2.1.2.1,())) λe=>ae (ix (e.1,x.2.1.2.2.1,())) λd=>ak (nt<|aG d.2.1 0)
 (ae (eJ (d.2.1,())) λa=>aa (x.1,a.1,()))
 (ak (aG x.2.1.2.1 1)
 (ae (rz (x.1,d.1,())) λa=>ak (aG x.2.1.1 10)
 (ae (lq (a.1.2.2.2.2.2.1,x.2.1.2.2.2.2.2.2.1,())) λb=>ak (nt<|aG b.2.1 0)
 (ae (eJ (b.2.1,())) λc=>aa (x.1,c.1,()))
 (aa (x.1,(0,d.1,0,b.1,()),())))
 (ae (lp (a.1.2.2.2.2.2.1,x.2.1.2.2.2.2.2.2.1,x.2.1.2.2.2.2.2.1,())) λb=>ak (nt<|aG b.2.1 0)
 (ae (eJ (b.2.1,())) λc=>aa (x.1,c.1,()))
 (ae (j9 (x.1,(a.1.1,a.1.2.1,a.1.2.2.1,a.1.2.2.2.1,a.1.2.2.2.2.1,b.1,a.1.2.2.2.2.2.2),())) λc=>aa (c.1,(0,d.1,0,[],()),()))))
 (ae (pd (x.1,d.1,())) λa=>ak (aG x.2.1.1 10)
 (ae (lq (a.1.2.2.2.2.1,x.2.1.2.2.2.2.2.2.1,())) λb=>ak (nt<|aG b.2.1 0)
 (ae (eJ (b.2.1,())) λc=>aa (x.1,c.1,()))
 (aa (x.1,(0,d.1,0,b.1,()),())))
 (ae (lp (a.1.2.2.2.2.1,x.2.1.2.2.2.2.2.2.1,x.2.1.2.2.2.2.2.1,())) λb=>ak (nt<|aG b.2.1 0)
 (ae (eJ (b.2.1,())) λc=>aa (x.1,c.1,()))
 (ae (gp (x.1,(a.1.1,a.1.2.1,a.1.2.2.1,a.1.2.2.2.1,b.1,a.1.2.2.2.2.2),())) λc=>aa (c.1,(0,d.1,0,[],()),())))))))
def po(x:(List KQ)×aj)(a:(Int×aj)×(aj×aj×aj)×(List<|Int)×aj):Option (Zz⊕Zz) :=
 cl (ak (aU a.1.1<|len x.1)
 (ae (idx x.1 a.1.1) λb=>ak (fits<|plus (len [b.1])<|len b.2.1)
 (ae (kS (app [b.1] b.2.1,[32],())) λc=>ak (fits<|plus (len c.1)<|len ([10]:bg))
 (ak (fits<|plus (len a.2.2.1)<|len<|ax<|app c.1 [10])
 (aa<|aA ((aw i64 a.1.1 1,()),((),(),a.2.1.2.2),app a.2.2.1<|ax<|app c.1 [10],()))
 af)
 af)
 af)
 (aa<|aB (0,(a.1.1,()),((),(),a.2.1.2.2),a.2.2.1,())))
def yY(x:(List KQ)×aj):Option (Sb×aj) :=
 ae (Loop (po x) ((0,()),((),(),()),[],())) (λa=>aa (bm a.2.2.1,()))
def mc(x:ig×Int×Sb×(List Sb)×aj)(a:rh×Sb×aj):Option (KT⊕KR) :=
 ak (aU a.1.2.1<|len x.1.2.2.1)
 (ak (within a.1.2.1<|len x.1.2.2.1)
 (ae (idx x.1.2.2.1 a.1.2.1) λb=>ak (br b.1 a.2.1)
 (aa<|aB (1,(a.1.2.1,a.1.2.1,()),a.2.1,()))
 (aa<|aA ((a.1.1,aw i64 a.1.2.1 1,()),a.2.1,())))
 af)
 (aa<|aB (0,(a.1.1,a.1.2.1,()),a.2.1,()))
def gV(x:ig×Int×Sb×(List Sb)×aj):Option (ig×aj) :=
 ak (aG x.2.1 1)
 (ae (rz (x.1,x.2.2.1,())) λa=>ae (j9 (x.1,(a.1.1,x.2.2.2.1,a.1.2.2),())) λb=>aa (b.1,()))
 (ak (aG x.2.1 2)
 (ae (pd (x.1,x.2.2.1,())) λa=>ae (gp (x.1,(a.1.1,x.2.2.2.1,a.1.2.2),())) λb=>aa (b.1,()))
 (ak (fits<|len x.1.2.2.1)
 (ae (ae (Loop (mc x) ((0,0,()),x.2.2.1,())) λa=>ak (cK a.1 0)
 (aa (((-1),()),a.2.2.1,()))
 (aa ((a.2.1.1,()),a.2.2.1,()))) λa=>ae (aX (x.2.2.2.1,())) λb=>ak (within a.1.1<|len x.1.2.2.1)
 (ae (idx x.1.2.2.1 a.1.1) λd=>ae (idx x.1.2.2.1 a.1.1) λe=>ae (idx x.1.2.2.1 a.1.1) λc=>aa ((x.1.1,x.1.2.1,ky x.1.2.2.1 a.1.1 (c.1,c.2.1,b.1,c.2.2.2),x.1.2.2.2.1,x.1.2.2.2.2.1,x.1.2.2.2.2.2),()))
 af)
 af))
def xp(x:ig×HU×aj):Option (ig×Cg×aj) :=
 ae (uF (x.1,x.2.1.2.1,())) (λe=>ae (p9 (x.2.1,())) λf=>ae (dG (f.1,x.2.1.2.1,())) λg=>ak (nt g.1)
 (ae (eJ (1,())) λa=>aa (x.1,a.1,()))
 (ak (aG x.2.1.1 15)
 (ae (yY (e.1,())) λa=>aa (x.1,(0,[],0,a.1,()),()))
 (ae (ak (aG x.2.1.1 13)
 (ae (gm (x.2.1.2.2.2.2.1,())) λa=>aa (nt<|aG a.1 0))
 (aa false)) λa=>ak a
 (ae (eJ (1,())) λb=>aa (x.1,b.1,()))
 (ae (ix (e.1,x.2.1.2.2.1,())) λb=>ae (ak (ak (aG b.2.1 0)
 (aG x.2.1.1 13)
 false)
 (ae (hY (e.1,b.1,x.2.1.2.2.2.2.1,())) λd=>aa ((d.1,()),()))
 (aa ((b.2.1,()),()))) λd=>ak (nt<|aG d.1.1 0)
 (ae (eJ (d.1.1,())) λc=>aa (x.1,c.1,()))
 (ae (ak (aG x.2.1.1 13)
 (ae (gV (x.1,x.2.1.2.1,b.1,x.2.1.2.2.2.2.1,())) λc=>aa ((),c.1,()))
 (aa ((),x.1,()))) λc=>aa (c.2.1,(0,b.1,0,[],()),()))))))
def xq(x:ig×HU×aj):Option (ig×Cg×aj) :=
 ak (aG x.2.1.1 1)
 (ae (jM (x.1,x.2.1.2.2.2.1,x.2.1.2.2.2.2.1,x.2.1.2.2.2.2.2.1,x.2.1.2.2.2.2.2.2.2.1,())) λa=>aa (a.1,a.2.1,()))
 (ak (aG x.2.1.1 2)
 (ae (vq (x.1,x.2.1.2.2.1,())) λa=>aa (a.1,a.2.1,()))
 (ak (aG x.2.1.1 3)
 (ae (yX (x.1,x.2.1.2.2.1,())) λa=>aa (x.1,a.1,()))
 (ak (aG x.2.1.1 4)
 (ae (tI (x.1,x.2.1.2.2.1,())) λa=>aa (x.1,a.1,()))
 (ak (aG x.2.1.1 5)
 (ae (Cf (x.1,x.2.1.2.2.1,())) λa=>aa (a.1,a.2.1,()))
 (ak (aG x.2.1.1 6)
 (ae (zD (x.1,x.2.1.2.2.1,())) λa=>aa (a.1,a.2.1,()))
 (ak (aG x.2.1.1 7)
 (ae (qx (x.1,x.2.1.2.2.2.1,x.2.1.2.2.2.2.1,x.2.1.2.2.2.2.2.1,x.2.1.2.2.2.2.2.2.2.1,())) λa=>aa (a.1,a.2.1,()))
 (ak (aG x.2.1.1 8)
 (ae (qy (x.1,x.2.1.2.2.1,())) λa=>aa (a.1,a.2.1,()))
 (ak (aG x.2.1.1 11)
 (ae (sE (x.1,x.2.1.2.2.2.1,x.2.1.2.2.2.2.1,x.2.1.2.2.2.2.2.1,x.2.1.2.2.2.2.2.2.2.1,())) λa=>aa (a.1,a.2.1,()))
 (ak (aG x.2.1.1 12)
 (ae (sG (x.1,x.2.1.2.2.1,())) λa=>aa (a.1,a.2.1,()))
 (ak (((ak (aG x.2.1.1 9)
 ((aG x.2.1.1 9,()),())
 ((aG x.2.1.1 10,()),())).1).1)
 (ae (AB (x.1,x.2.1,())) λa=>aa (a.1,a.2.1,()))
 (ak (((ak (aG x.2.1.1 13)
 ((aG x.2.1.1 13,()),())
 ((((ak (aG x.2.1.1 14)
 ((aG x.2.1.1 14,()),())
 ((aG x.2.1.1 15,()),())).1).1,()),())).1).1)
 (ae (xp (x.1,x.2.1,())) λa=>aa (a.1,a.2.1,()))
 (ae (eJ (1,())) λa=>aa (x.1,a.1,())))))))))))))
def pJ(x:(List<|Int)×(List<|Int)×aj)(a:Su×aj):Option ((Su×aj)⊕agY) :=
 ak (ak (aU a.1.2.1<|len x.1)
 (aU a.1.2.1<|len x.2.1)
 false)
 (ae (idx x.1 a.1.2.1) λb=>ae (idx x.2.1 a.1.2.1) λc=>ak (nt<|aG b c)
 (aa<|aB (1,(false,a.1.2.1,()),()))
 (aa<|aA ((a.1.1,aw i64 a.1.2.1 1,()),())))
 (aa<|aB (0,(a.1.1,a.1.2.1,()),()))
def iD(x:(List<|Int)×(List<|Int)×aj):Option (Bool×aj) :=
 ak (nt<|aG (len x.1)<|len x.2.1)
 (aa (false,()))
 (ae (Loop (pJ x) ((false,0,()),())) λa=>ak (cK a.1 0)
 (aa (true,()))
 (aa (a.2.1.1,())))
def nd(x:HU×aj):Option (Bool×aj) :=
 ae (ak (ak (ak (ak (cw (len x.1.2.2.1) 100)
 (cw (len x.1.2.2.2.1) 100)
 false)
 (cw (len x.1.2.2.2.2.2.1) 8704)
 false)
 (cw (len x.1.2.2.2.2.2.2.1) 100)
 false)
 (ae (oX (x.1.2.2.2.2.1,())) λa=>aa a.1)
 (aa false)) (λa=>aa (a,()))
end Go.Ge
namespace Go.Ge
variable [Lp]
set_option maxRecDepth 100000
abbrev bc:=((List<|Sb×(List Sb)×Sb×Sb×Sb×(List<|Sb×Sb×Sb×aj)×aj)×(List<|Sb×(List Sb)×Sb×Sb×(List<|Sb×Sb×Sb×aj)×aj)×(List<|Sb×Sb×(List Sb)×Sb×Int×Int×Bool×aj)×(List Sb)×(List<|Sb×Int×aj)×aj)
abbrev jn:=(Sb×(List Sb)×Sb×Sb×Sb×(List<|Sb×Sb×Sb×aj)×aj)
abbrev jo:=(Sb×(List Sb)×Sb×Sb×(List<|Sb×Sb×Sb×aj)×aj)
abbrev nH:=(Sb×Sb×(List Sb)×Sb×Int×Int×Bool×aj)
abbrev fR:=(Int×Sb×Int×Sb×aj)
abbrev fv:=(Sb×Int×aj)
abbrev AD:=(Int×Int×Sb×Sb×(List Sb)×Sb×Sb×Int×aj)
abbrev Dh:=(Sb×(List Sb)×aj)
abbrev KU:=(Sb×Sb×Sb×aj)
abbrev we:=(Bool×Int×aj)
abbrev lA:=(aj×Int×aj)
abbrev U8:=((aj×aj×Int×aj)×(List Sb)×(List nH)×aj)
abbrev MH:=(Nat×(Int×Int×aj)×aj)
abbrev aer:=(Sb×Int×Int×Sb×Sb×aj)
abbrev MI:=((Int×Int×aj)×aj)
abbrev Gp:=(Nat×we×aj)
abbrev zE:=((Int×aj)×aj)
def sH(x:(List AD)×Int×aj)(a:we×aj):Option ((we×aj)⊕Gp) :=
 ak (ak (aU a.1.2.1<|len x.1)
 (aU a.1.2.1 x.2.1)
 false)
 (ae (idx x.1 a.1.2.1) λb=>ae (nd (b,())) λc=>ak (nt c.1)
 (aa<|aB (1,(false,a.1.2.1,()),()))
 (aa<|aA ((a.1.1,aw i64 a.1.2.1 1,()),())))
 (aa<|aB (0,(a.1.1,a.1.2.1,()),()))
def Ch(x:(List AD)×Int×aj):Option (Bool×aj) :=
 ae (Loop (sH x) ((false,0,()),())) (λa=>ak (cK a.1 0)
 (aa (cw (len x.1) x.2.1,()))
 (aa (a.2.1.1,())))
def qJ(x:bc×Sb×aj)(a:we×aj):Option ((we×aj)⊕Gp) :=
 ak (aU a.1.2.1<|len x.1.2.2.1)
 (ae (idx x.1.2.2.1 a.1.2.1) λb=>ak (br b.2.1 x.2.1)
 (aa<|aB (1,(true,a.1.2.1,()),()))
 (aa<|aA ((a.1.1,aw i64 a.1.2.1 1,()),())))
 (aa<|aB (0,(a.1.1,a.1.2.1,()),()))
def qK(x:bc×Sb×aj)(a:we×aj):Option ((we×aj)⊕Gp) :=
 ak (aU a.1.2.1<|len x.1.2.1)
 (ae (idx x.1.2.1 a.1.2.1) λb=>ak (br b.2.2.1 x.2.1)
 (aa<|aB (1,(true,a.1.2.1,()),()))
 (aa<|aA ((a.1.1,aw i64 a.1.2.1 1,()),())))
 (aa<|aB (0,(a.1.1,a.1.2.1,()),()))
def qL(x:bc×Sb×aj)(a:we×aj):Option ((we×aj)⊕Gp) :=
 ak (aU a.1.2.1<|len x.1.1)
 (ae (idx x.1.1 a.1.2.1) λb=>ak (br b.2.2.2.1 x.2.1)
 (aa<|aB (1,(true,a.1.2.1,()),()))
 (aa<|aA ((a.1.1,aw i64 a.1.2.1 1,()),())))
 (aa<|aB (0,(a.1.1,a.1.2.1,()),()))
def sI(x:bc×Sb×aj):Option (Bool×aj) :=
 ae (Loop (qJ x) ((false,0,()),())) (λa=>ak (cK a.1 0)
 (ae (Loop (qK x) ((a.2.1.1,0,()),())) λb=>ak (cK b.1 0)
 (ae (Loop (qL x) ((b.2.1.1,0,()),())) λc=>ak (cK c.1 0)
 (aa (false,()))
 (aa (c.2.1.1,())))
 (aa (b.2.1.1,())))
 (aa (a.2.1.1,())))
def nI(x:bc×Sb×aj)(a:(Int×Int×aj)×aj):Option (MI⊕MH) :=
 ak (aU a.1.2.1<|len x.1.2.2.2.2.1)
 (ae (idx x.1.2.2.2.2.1 a.1.2.1) λb=>ak (br b.1 x.2.1)
 (ae (idx x.1.2.2.2.2.1 a.1.2.1) λc=>aa (aB (1,(c.2.1,a.1.2.1,()),())))
 (aa<|aA ((a.1.1,aw i64 a.1.2.1 1,()),())))
 (aa<|aB (0,(a.1.1,a.1.2.1,()),()))
def fw(x:bc×Sb×aj):Option (Int×aj) :=
 ae (Loop (nI x) ((0,0,()),())) (λa=>ak (cK a.1 0)
 (aa (0,()))
 (aa (a.2.1.1,())))
def tK(x:bc×Sb×Int×aj)(a:lA×(List fv)×aj):Option ((lA×(List fv)×aj)⊕(lA×(List fv)×aj)) :=
 cl (ak (aU a.1.2.1<|len x.1.2.2.2.2.1)
 (ae (idx x.1.2.2.2.2.1 a.1.2.1) λc=>ae (ak (nt<|br c.1 x.2.1)
 (ae (idx x.1.2.2.2.2.1 a.1.2.1) λb=>ak (fits<|plus (len a.2.1)<|len ([b]:List fv))
 (aa (((),()),app a.2.1 [b],()))
 af)
 (aa (((),()),a.2.1,()))) λb=>aa (aA (((),aw i64 a.1.2.1 1,()),b.2.1,())))
 (aa<|aB (0,((),a.1.2.1,()),a.2.1,())))
def pq(x:bc×Sb×Int×aj)(b:lA×(List fv)×aj)(a:(Int×aj)×aj):Option (zE⊕zE) :=
 cl (ae (ak (aU a.1.1<|len b.2.1)
 (ak (within a.1.1<|len b.2.1)
 (ae (idx b.2.1 a.1.1) λc=>aa (fM c.1 x.2.1))
 af)
 (aa false)) λc=>ak c
 (aa<|aA ((aw i64 a.1.1 1,()),()))
 (aa<|aB (0,(a.1.1,()),())))
def nf(x:bc×Sb×Int×aj):Option (bc×aj) :=
 ae (Loop (tK x) (((),0,()),[],())) (λa=>ak (cw x.2.2.1 0)
 (aa ((x.1.1,x.1.2.1,x.1.2.2.1,x.1.2.2.2.1,a.2.1,x.1.2.2.2.2.2),()))
 (ae (Loop (pq x a) ((0,()),())) λb=>ak (inside 0 b.1.1<|len a.2.1)
 (ak (fits<|plus (len ([]:List fv))<|len<|sub a.2.1 0<|minus b.1.1 0)
 (ak (fits<|plus (len<|app []<|sub a.2.1 0<|minus b.1.1 0)<|len ([(x.2.1,x.2.2.1,())]:List fv))
 (ak (inside b.1.1 (len a.2.1)<|len a.2.1)
 (ak (fits<|plus (len<|app (app []<|sub a.2.1 0<|minus b.1.1 0) [(x.2.1,x.2.2.1,())])<|len<|sub a.2.1 b.1.1<|minus (len a.2.1) b.1.1)
 (aa ((x.1.1,x.1.2.1,x.1.2.2.1,x.1.2.2.2.1,app (app (app ([]:List fv)<|sub a.2.1 0<|minus b.1.1 0) ([(x.2.1,x.2.2.1,())]:List fv))<|sub a.2.1 b.1.1<|minus (len a.2.1) b.1.1,x.1.2.2.2.2.2),()))
 af)
 af)
 af)
 af)
 af))
def iV(x:bc×Sb×aj)(d:Int×aj)(a:(aj×aj×Int×aj)×(List Sb)×(List nH)×aj):Option (U8⊕U8) :=
 cl (ak (aU a.1.2.2.1<|len x.1.2.2.1)
 (ae (ak (nt<|aG a.1.2.2.1 d.1)
 (ae (idx x.1.2.2.1 a.1.2.2.1) λb=>ak (fits<|plus (len a.2.2.1)<|len ([b]:List nH))
 (ae (j7 (x.1,a.1.2.2.1,())) λc=>ak (fits<|plus (len a.2.1)<|len [c.1])
 (aa (((),(),()),app a.2.1 [c.1],app a.2.2.1 [b],()))
 af)
 af)
 (aa (((),(),()),a.2.1,a.2.2.1,()))) λb=>aa (aA (((),(),aw i64 a.1.2.2.1 1,()),b.2.1,b.2.2.1,())))
 (aa<|aB (0,((),(),a.1.2.2.1,()),a.2.1,a.2.2.1,())))
def mG(x:bc×Sb×aj):Option (bc×aj) :=
 ae (sz (x.1,x.2.1,())) (λb=>ae (Loop (iV x b) (((),(),0,()),[],[],())) λa=>ae (nf ((x.1.1,x.1.2.1,a.2.2.1,a.2.1,x.1.2.2.2.2),x.2.1,0,())) λc=>aa (c.1,()))
def xr(x:bc×Sb×aj):Option (bc×fR×aj) :=
 ae (eP (x.1,x.2.1,())) (λa=>ak (nt<|aG a.2.1 0)
 (ae (bR (a.2.1,())) λb=>aa (x.1,b.1,()))
 (ae (sI (x.1,a.1,())) λb=>ae (ak (nt b.1)
 (ae (fw (x.1,a.1,())) λc=>aa (aU 0 c.1))
 (aa true)) λc=>ak c
 (ae (bR (7,())) λd=>aa (x.1,d.1,()))
 (ae (mG (x.1,a.1,())) λd=>aa (d.1,(0,a.1,0,[],()),()))))
def AE(x:bc×Sb×aj):Option (fR×aj) :=
 ae (eP (x.1,x.2.1,())) (λa=>ak (nt<|aG a.2.1 0)
 (ae (bR (a.2.1,())) λb=>aa (b.1,()))
 (ae (pZ (x.1,a.1,())) λb=>aa ((0,a.1,0,b.2.1,()),())))
def vr(x:bc×Sb×aj):Option (fR×aj) :=
 ae (eP (x.1,x.2.1,())) (λb=>ak (nt<|aG b.2.1 0)
 (ae (bR (b.2.1,())) λc=>aa (c.1,()))
 (ae (l9 (x.1,b.1,())) λc=>ak (nt<|aG c.2.1 0)
 (ae (bR (c.2.1,())) λd=>aa (d.1,()))
 (ae (pZ (x.1,b.1,())) λd=>ae (ak (nt<|br d.1.2.1 [])
 (ae (l9 (x.1,d.1.2.1,())) λa=>ak (nt<|aG a.2.1 0)
 (ae (bR (a.2.1,())) λe=>aa (1,(([]:List aer),()),e.1,()))
 (aa (0,(a.1,()),(0,[],0,[],()),())))
 (aa (0,([],()),(0,[],0,[],()),()))) λa=>ak (cK a.1 0)
 (ae (mA (a.2.1.1,c.1,())) λe=>ae (ss (e.1,())) λf=>aa ((0,b.1,0,f.1,()),()))
 (aa (a.2.2.1,())))))
def yZ(x:bc×Sb×aj):Option (bc×fR×aj) :=
 ae (eP (x.1,x.2.1,())) (λa=>ak (nt<|aG a.2.1 0)
 (ae (bR (a.2.1,())) λb=>aa (x.1,b.1,()))
 (ae (fw (x.1,a.1,())) λb=>ak (cw 1000 b.1)
 (ae (bR (5,())) λc=>aa (x.1,c.1,()))
 (ae (nf (x.1,a.1,aw i64 b.1 1,())) λc=>aa (c.1,(0,a.1,aw i64 b.1 1,[],()),()))))
def vt(x:bc×Sb×aj):Option (bc×fR×aj) :=
 ae (eP (x.1,x.2.1,())) (λa=>ak (nt<|aG a.2.1 0)
 (ae (bR (a.2.1,())) λb=>aa (x.1,b.1,()))
 (ae (fw (x.1,a.1,())) λb=>ak (aU b.1 1)
 (ae (bR (11,())) λc=>aa (x.1,c.1,()))
 (ae (nf (x.1,a.1,cH i64 b.1 1,())) λc=>aa (c.1,(0,a.1,cH i64 b.1 1,[],()),()))))
def iz(x:Int×aj):Option (fR×aj) :=
 aa ((x.1,[],0,[],()),())
def ng(x:bc×aj):Option ((List Dh)×aj) :=
 ae (qZ (2,(0,([]:List nH),x.1.2.1,([]:List jn),()),())) (λa=>aa (a.1,()))
def Kh(x:bc×Sb×aj)(a:(Int×Int×aj)×aj):Option (MI⊕MH) :=
 ak (aU a.1.2.1<|len x.1.2.1)
 (ae (idx x.1.2.1 a.1.2.1) λb=>ak (br b.1 x.2.1)
 (aa<|aB (1,(a.1.2.1,a.1.2.1,()),()))
 (aa<|aA ((a.1.1,aw i64 a.1.2.1 1,()),())))
 (aa<|aB (0,(a.1.1,a.1.2.1,()),()))
def wg(x:bc×Sb×aj):Option (Int×aj) :=
 ae (Loop (Kh x) ((0,0,()),())) (λa=>ak (cK a.1 0)
 (aa ((-1),()))
 (aa (a.2.1.1,())))
def ri(x:bc×Sb×aj)(c:Int×aj)(a:lA×(List jo)×aj):Option ((lA×(List jo)×aj)⊕(lA×(List jo)×aj)) :=
 cl (ak (aU a.1.2.1<|len x.1.2.1)
 (ae (ak (nt<|aG a.1.2.1 c.1)
 (ae (idx x.1.2.1 a.1.2.1) λb=>ak (fits<|plus (len a.2.1)<|len ([b]:List jo))
 (aa (((),()),app a.2.1 [b],()))
 af)
 (aa (((),()),a.2.1,()))) λb=>aa (aA (((),aw i64 a.1.2.1 1,()),b.2.1,())))
 (aa<|aB (0,((),a.1.2.1,()),a.2.1,())))
def mH(x:bc×Sb×aj):Option (bc×aj) :=
 ae (wg (x.1,x.2.1,())) (λa=>ae (Loop (ri x a) (((),0,()),[],())) λb=>aa ((x.1.1,b.2.1,x.1.2.2),()))
def sJ(x:bc×jo×aj)(b:bc×aj)(a:(Int×aj)×aj):Option (zE⊕zE) :=
 cl (ak (aU a.1.1<|len b.1.2.1)
 (ae (idx b.1.2.1 a.1.1) λc=>ak (fM c.1 x.2.1.1)
 (aa<|aA ((aw i64 a.1.1 1,()),()))
 (aa<|aB (0,(a.1.1,()),())))
 (aa<|aB (0,(a.1.1,()),())))
def rA(x:bc×jo×aj):Option (bc×aj) :=
 ae (mH (x.1,x.2.1.1,())) (λa=>ae (Loop (sJ x a) ((0,()),())) λb=>ak (inside 0 b.1.1<|len a.1.2.1)
 (ak (fits<|plus (len ([]:List jo))<|len<|sub a.1.2.1 0<|minus b.1.1 0)
 (ak (fits<|plus (len<|app ([]:List jo)<|sub a.1.2.1 0<|minus b.1.1 0)<|len [x.2.1])
 (ak (inside b.1.1 (len a.1.2.1)<|len a.1.2.1)
 (ak (fits<|plus (len<|app (app ([]:List jo)<|sub a.1.2.1 0<|minus b.1.1 0) [x.2.1])<|len<|sub a.1.2.1 b.1.1<|minus (len a.1.2.1) b.1.1)
 (aa ((a.1.1,app (app (app ([]:List jo)<|sub a.1.2.1 0<|minus b.1.1 0) ([x.2.1]:List jo))<|sub a.1.2.1 b.1.1<|minus (len a.1.2.1) b.1.1,a.1.2.2),()))
 af)
 af)
 af)
 af)
 af)
def sK(x:bc×Sb×(List Sb)×Sb×Int×aj):Option (bc×fR×aj) :=
 ae (gn (x.2.2.1,())) (λg=>ak (ak (nt<|nt<|aG g.1 0)
 (aU 64<|len x.2.2.2.1)
 true)
 (ae (iz (1,())) λa=>aa (x.1,a.1,()))
 (ae (ak (nt<|br x.2.1 [])
 (ae (eP (x.1,x.2.1,())) λa=>ak (nt<|aG a.2.1 0)
 (ae (iz (a.2.1,())) λc=>aa (1,([],()),c.1,x.1,()))
 (aa (0,(a.1,()),(0,[],0,[],()),(([]:List jn),([]:List jo),([]:List nH),[],([]:List fv),()),())))
 (aa (0,([],()),(0,[],0,[],()),(([]:List jn),([]:List jo),([]:List nH),[],([]:List fv),()),()))) λa=>ak (cK a.1 0)
 (ae (ng (x.1,())) λc=>ae (l5 (c.1,[],x.2.2.1,())) λf=>ak (nt<|aG f.1 0)
 (ae (iz (f.1,())) λd=>aa (x.1,d.1,()))
 (ae (ng (x.1,())) λd=>ae (na (d.1,x.2.2.2.2.1,())) λb=>ak (nt<|aG b.2.1 0)
 (ae (iz (b.2.1,())) λe=>aa (x.1,e.1,()))
 (ae (rA (x.1,(b.1,x.2.2.1,a.2.1.1,x.2.2.2.1,([]:List KU),()),())) λe=>aa (e.1,(0,b.1,0,[],()),()))))
 (aa (a.2.2.2.1,a.2.2.1,()))))
def sL(x:bc×Sb×aj):Option fv :=
 ae (ng (x.1,())) (λb=>ae (j8 (b.1,x.2.1,())) λa=>aa (a.1,a.2.1,()))
def nJ(x:bc×Sb×aj)(b:Sb×Int×aj)(a:(Int×aj)×fR×bc×aj):Option (((Int×aj)×fR×bc×aj)⊕(Nat×(Int×aj)×fR×bc×aj)) :=
 ak (aU a.1.1<|len x.1.1)
 (ae (idx x.1.1 a.1.1) λc=>ak (br c.2.2.1 b.1)
 (ae (iz (7,())) λd=>aa (aB (1,(a.1.1,()),d.1,x.1,())))
 (aa<|aA ((aw i64 a.1.1 1,()),a.2.1,a.2.2.1,())))
 (aa<|aB (0,(a.1.1,()),a.2.1,a.2.2.1,()))
def sM(x:bc×Sb×aj):Option (bc×fR×aj) :=
 ae (sL (x.1,x.2.1,())) (λa=>ak (nt<|aG a.2.1 0)
 (ae (iz (a.2.1,())) λb=>aa (x.1,b.1,()))
 (ae (Loop (nJ x a) ((0,()),(0,[],0,[],()),(([]:List jn),([]:List jo),([]:List nH),[],([]:List fv),()),())) λb=>ak (cK b.1 0)
 (ae (mH (x.1,a.1,())) λc=>aa (c.1,(0,a.1,0,[],()),()))
 (aa (b.2.2.2.1,b.2.2.1,()))))
def gq(x:Int×aj):Option (fR×aj) :=
 aa ((x.1,[],0,[],()),())
def ox(x:bc×Sb×aj):Option (jo×Bool×aj) :=
 ae (wg (x.1,x.2.1,())) (λa=>ak (aU a.1 0)
 (aa (([],[],[],[],([]:List KU),()),false,()))
 (ae (idx x.1.2.1 a.1) λb=>aa (b,true,())))
def nh(x:bc×aj):Option ((List Dh)×aj) :=
 ae (qZ (1,(0,([]:List nH),([]:List jo),x.1.1,()),())) (λa=>aa (a.1,()))
def Ki(x:bc×Sb×aj)(a:(Int×Int×aj)×aj):Option (MI⊕MH) :=
 ak (aU a.1.2.1<|len x.1.1)
 (ae (idx x.1.1 a.1.2.1) λb=>ak (br b.1 x.2.1)
 (aa<|aB (1,(a.1.2.1,a.1.2.1,()),()))
 (aa<|aA ((a.1.1,aw i64 a.1.2.1 1,()),())))
 (aa<|aB (0,(a.1.1,a.1.2.1,()),()))
def wi(x:bc×Sb×aj):Option (Int×aj) :=
 ae (Loop (Ki x) ((0,0,()),())) (λa=>ak (cK a.1 0)
 (aa ((-1),()))
 (aa (a.2.1.1,())))
def rj(x:bc×Sb×aj)(c:Int×aj)(a:lA×(List jn)×aj):Option ((lA×(List jn)×aj)⊕(lA×(List jn)×aj)) :=
 cl (ak (aU a.1.2.1<|len x.1.1)
 (ae (ak (nt<|aG a.1.2.1 c.1)
 (ae (idx x.1.1 a.1.2.1) λb=>ak (fits<|plus (len a.2.1)<|len ([b]:List jn))
 (aa (((),()),app a.2.1 [b],()))
 af)
 (aa (((),()),a.2.1,()))) λb=>aa (aA (((),aw i64 a.1.2.1 1,()),b.2.1,())))
 (aa<|aB (0,((),a.1.2.1,()),a.2.1,())))
def mI(x:bc×Sb×aj):Option (bc×aj) :=
 ae (wi (x.1,x.2.1,())) (λa=>ae (Loop (rj x a) (((),0,()),[],())) λb=>aa ((b.2.1,x.1.2),()))
def sN(x:bc×jn×aj)(b:bc×aj)(a:(Int×aj)×aj):Option (zE⊕zE) :=
 cl (ak (aU a.1.1<|len b.1.1)
 (ae (idx b.1.1 a.1.1) λc=>ak (fM c.1 x.2.1.1)
 (aa<|aA ((aw i64 a.1.1 1,()),()))
 (aa<|aB (0,(a.1.1,()),())))
 (aa<|aB (0,(a.1.1,()),())))
def rB(x:bc×jn×aj):Option (bc×aj) :=
 ae (mI (x.1,x.2.1.1,())) (λa=>ae (Loop (sN x a) ((0,()),())) λb=>ak (inside 0 b.1.1<|len a.1.1)
 (ak (fits<|plus (len ([]:List jn))<|len<|sub a.1.1 0<|minus b.1.1 0)
 (ak (fits<|plus (len<|app ([]:List jn)<|sub a.1.1 0<|minus b.1.1 0)<|len [x.2.1])
 (ak (inside b.1.1 (len a.1.1)<|len a.1.1)
 (ak (fits<|plus (len<|app (app ([]:List jn)<|sub a.1.1 0<|minus b.1.1 0) [x.2.1])<|len<|sub a.1.1 b.1.1<|minus (len a.1.1) b.1.1)
 (aa ((app (app (app ([]:List jn)<|sub a.1.1 0<|minus b.1.1 0) ([x.2.1]:List jn))<|sub a.1.1 b.1.1<|minus (len a.1.1) b.1.1,a.1.2),()))
 af)
 af)
 af)
 af)
 af)
def sO(x:bc×Sb×(List Sb)×Sb×Int×aj):Option (bc×fR×aj) :=
 ae (gn (x.2.2.1,())) (λh=>ak (ak (nt<|nt<|aG h.1 0)
 (aU 64<|len x.2.2.2.1)
 true)
 (ae (gq (1,())) λa=>aa (x.1,a.1,()))
 (ae (ak (nt<|br x.2.1 [])
 (ae (sL (x.1,x.2.1,())) λa=>ak (nt<|aG a.2.1 0)
 (ae (gq (a.2.1,())) λc=>aa (1,([],[],()),c.1,x.1,()))
 (ae (ox (x.1,a.1,())) λc=>aa (0,(a.1,c.1.2.2.1,()),(0,[],0,[],()),(([]:List jn),([]:List jo),([]:List nH),[],([]:List fv),()),())))
 (aa (0,([],[],()),(0,[],0,[],()),(([]:List jn),([]:List jo),([]:List nH),[],([]:List fv),()),()))) λa=>ak (cK a.1 0)
 (ae (nh (x.1,())) λc=>ae (l5 (c.1,[],x.2.2.1,())) λg=>ak (nt<|aG g.1 0)
 (ae (gq (g.1,())) λe=>aa (x.1,e.1,()))
 (ae (nh (x.1,())) λe=>ae (na (e.1,gP i64 x.2.2.2.2.1 16777215,())) λd=>ak (nt<|aG d.2.1 0)
 (ae (gq (d.2.1,())) λb=>aa (x.1,b.1,()))
 (ae (ou (x.1,a.2.1.2.1,[],[],gP i64 (jv i64 x.2.2.2.2.1 24) 16777215,())) λb=>ak (nt<|aG b.2.1.1 0)
 (ae (gq (b.2.1.1,())) λf=>aa (x.1,f.1,()))
 (ae (rB (b.1,(d.1,x.2.2.1,a.2.1.1,b.2.1.2.1,x.2.2.2.1,([]:List KU),()),())) λf=>aa (f.1,(0,d.1,0,b.2.1.2.1,()),())))))
 (aa (a.2.2.2.1,a.2.2.1,()))))
def AF(x:bc×Sb×aj):Option fv :=
 ae (nh (x.1,())) (λb=>ae (j8 (b.1,x.2.1,())) λa=>aa (a.1,a.2.1,()))
def rC(x:bc×Sb×aj):Option (jn×Bool×aj) :=
 ae (wi (x.1,x.2.1,())) (λa=>ak (aU a.1 0)
 (aa (([],[],[],[],[],([]:List KU),()),false,()))
 (ae (idx x.1.1 a.1) λb=>aa (b,true,())))
def sP(x:bc×Sb×aj):Option (bc×fR×aj) :=
 ae (AF (x.1,x.2.1,())) (λa=>ak (nt<|aG a.2.1 0)
 (ae (gq (a.2.1,())) λb=>aa (x.1,b.1,()))
 (ae (rC (x.1,a.1,())) λb=>ae (mI (x.1,a.1,())) λe=>ae (fw (x.1,b.1.2.2.2.1,())) λf=>ae (ak (nt<|aU 0 f.1)
 (ae (sI (e.1,b.1.2.2.2.1,())) λc=>aa c.1)
 (aa true)) λc=>ak c
 (ae (gq (7,())) λd=>aa (x.1,d.1,()))
 (ae (mG (e.1,b.1.2.2.2.1,())) λd=>aa (d.1,(0,a.1,0,[],()),()))))
def fh(x:Int×aj):Option (fR×aj) :=
 aa ((x.1,[],0,[],()),())
def uG(x:bc×Int×aj):Option ((List Dh)×aj) :=
 ae (qZ (x.2.1,(0,x.1.2.2.1,x.1.2.1,x.1.1,()),())) (λa=>aa (a.1,()))
def wk(x:bc×AD×aj):Option (bc×fR×aj) :=
 ak (ak (nt<|aG x.2.1.2.1 2)
 (nt<|aG x.2.1.2.1 1)
 false)
 (ae (fh (1,())) λf=>aa (x.1,f.1,()))
 (ae (uG (x.1,x.2.1.2.1,())) λf=>ae (j8 (f.1,x.2.1.2.2.1,())) λd=>ak (nt<|aG d.2.1 0)
 (ae (fh (d.2.1,())) λa=>aa (x.1,a.1,()))
 (ae (ox (x.1,d.1,())) λa=>ae (rC (x.1,d.1,())) λb=>ak (aG x.2.1.1 10)
 (ae (qB (((ak (aG x.2.1.2.1 1)
 ((b.1.2.2.2.2.2.1,()),())
 ((a.1.2.2.2.2.1,()),())).1).1,x.2.1.2.2.2.2.2.2.1,())) λc=>ak (nt<|aG c.2.1 0)
 (ae (fh (c.2.1,())) λe=>aa (x.1,e.1,()))
 (aa (x.1,(0,d.1,0,c.1,()),())))
 (ae (qA (((ak (aG x.2.1.2.1 1)
 ((b.1.2.2.2.2.2.1,()),())
 ((a.1.2.2.2.2.1,()),())).1).1,x.2.1.2.2.2.2.2.2.1,x.2.1.2.2.2.2.2.1,())) λc=>ak (nt<|aG c.2.1 0)
 (ae (fh (c.2.1,())) λe=>aa (x.1,e.1,()))
 (ak (aG x.2.1.2.1 1)
 (ae (rB (x.1,(b.1.1,b.1.2.1,b.1.2.2.1,b.1.2.2.2.1,b.1.2.2.2.2.1,c.1,b.1.2.2.2.2.2.2),())) λe=>aa (e.1,(0,d.1,0,[],()),()))
 (ae (rA (x.1,(a.1.1,a.1.2.1,a.1.2.2.1,a.1.2.2.2.1,c.1,a.1.2.2.2.2.2),())) λe=>aa (e.1,(0,d.1,0,[],()),()))))))
def qM(x:(List Dh)×aj)(b:fv×aj)(a:fv×aj):Option ((fv×aj)⊕(fv×aj)) :=
 cl (ae (idx x.1 b.1.2.1) λd=>ak (aU a.1.2.1<|len d.2.1)
 (ak (fits<|plus (len a.1.1)<|len ([32]:bg))
 (ae (idx x.1 b.1.2.1) λe=>ae (idx e.2.1 a.1.2.1) λc=>ak (fits<|plus (len<|app a.1.1 [32])<|len c)
 (aa<|aA ((app (app a.1.1 [32]) c,aw i64 a.1.2.1 1,()),()))
 af)
 af)
 (aa<|aB (0,(a.1.1,a.1.2.1,()),())))
def qN(x:(List Dh)×aj)(a:fv×aj):Option ((fv×aj)⊕(fv×aj)) :=
 cl (ak (aU a.1.2.1<|len x.1)
 (ae (idx x.1 a.1.2.1) λb=>ak (fits<|plus (len a.1.1)<|len b.1)
 (ae (Loop (qM x a) ((app a.1.1 b.1,0,()),())) λc=>ak (fits<|plus (len c.1.1)<|len ([10]:bg))
 (aa<|aA ((app c.1.1 [10],aw i64 a.1.2.1 1,()),()))
 af)
 af)
 (aa<|aB (0,(a.1.1,a.1.2.1,()),())))
def AG(x:(List Dh)×aj):Option (Sb×aj) :=
 ae (Loop (qN x) (([],0,()),())) (λa=>aa (a.1.1,()))
def mf(x:bc×Int×Sb×(List Sb)×aj)(b:(aj×Bool×Int×aj)×(List nH)×aj):Option (((aj×Bool×Int×aj)×(List nH)×aj)⊕((aj×Bool×Int×aj)×(List nH)×aj)) :=
 cl (ak (aU b.1.2.2.1<|len x.1.2.2.1)
 (ae (idx x.1.2.2.1 b.1.2.2.1) λa=>ak (fits<|plus (len b.2.1)<|len ([((ak (ak (br a.1 x.2.2.1)
 (nt b.1.2.1)
 false)
 ((true,()),(a.1,a.2.1,x.2.2.2.1,a.2.2.2),())
 ((b.1.2.1,()),a,())).2).1]:List nH))
 (aa<|aA (((),((ak (ak (br a.1 x.2.2.1)
 (nt b.1.2.1)
 false)
 ((true,()),(a.1,a.2.1,x.2.2.2.1,a.2.2.2),())
 ((b.1.2.1,()),a,())).1).1,aw i64 b.1.2.2.1 1,()),app b.2.1 [((ak (ak (br a.1 x.2.2.1)
 (nt b.1.2.1)
 false)
 ((true,()),(a.1,a.2.1,x.2.2.2.1,a.2.2.2),())
 ((b.1.2.1,()),a,())).2).1],()))
 af)
 (aa<|aB (0,((),b.1.2.1,b.1.2.2.1,()),b.2.1,())))
def gW(x:bc×Int×Sb×(List Sb)×aj):Option (bc×aj) :=
 ak (aG x.2.1 1)
 (ae (rC (x.1,x.2.2.1,())) λa=>ae (rB (x.1,(a.1.1,x.2.2.2.1,a.1.2.2),())) λb=>aa (b.1,()))
 (ak (aG x.2.1 2)
 (ae (ox (x.1,x.2.2.1,())) λa=>ae (rA (x.1,(a.1.1,x.2.2.2.1,a.1.2.2),())) λb=>aa (b.1,()))
 (ae (Loop (mf x) (((),false,0,()),[],())) λa=>aa ((x.1.1,x.1.2.1,a.2.1,x.1.2.2.2),())))
def sQ(x:bc×AD×aj):Option (bc×fR×aj) :=
 ak (ak (nt<|aU x.2.1.2.1 1)
 (aU 3 x.2.1.2.1)
 true)
 (ae (fh (1,())) λb=>aa (x.1,b.1,()))
 (ae (uG (x.1,x.2.1.2.1,())) λb=>ak (aG x.2.1.1 15)
 (ae (AG (b.1,())) λc=>aa (x.1,(0,[],0,c.1,()),()))
 (ae (ak (aG x.2.1.1 13)
 (ae (gn (x.2.1.2.2.2.2.1,())) λc=>aa (nt<|aG c.1 0))
 (aa false)) λc=>ak c
 (ae (fh (1,())) λa=>aa (x.1,a.1,()))
 (ae (j8 (b.1,x.2.1.2.2.1,())) λa=>ak (nt<|aG a.2.1 0)
 (ae (fh (a.2.1,())) λd=>aa (x.1,d.1,()))
 (ak (aG x.2.1.1 14)
 (aa (x.1,(0,a.1,0,[],()),()))
 (ae (l5 (b.1,a.1,x.2.1.2.2.2.2.1,())) λd=>ak (nt<|aG d.1 0)
 (ae (fh (d.1,())) λe=>aa (x.1,e.1,()))
 (ae (gW (x.1,x.2.1.2.1,a.1,x.2.1.2.2.2.2.1,())) λe=>aa (e.1,(0,a.1,0,[],()),())))))))
def AH(x:bc×AD×aj):Option (bc×fR×aj) :=
 ak (aG x.2.1.1 1)
 (ae (ou (x.1,x.2.1.2.2.2.1,x.2.1.2.2.2.2.1,x.2.1.2.2.2.2.2.1,x.2.1.2.2.2.2.2.2.2.1,())) λa=>aa (a.1,a.2.1,()))
 (ak (aG x.2.1.1 2)
 (ae (xr (x.1,x.2.1.2.2.1,())) λa=>aa (a.1,a.2.1,()))
 (ak (aG x.2.1.1 3)
 (ae (AE (x.1,x.2.1.2.2.1,())) λa=>aa (x.1,a.1,()))
 (ak (aG x.2.1.1 4)
 (ae (vr (x.1,x.2.1.2.2.1,())) λa=>aa (x.1,a.1,()))
 (ak (aG x.2.1.1 5)
 (ae (yZ (x.1,x.2.1.2.2.1,())) λa=>aa (a.1,a.2.1,()))
 (ak (aG x.2.1.1 6)
 (ae (vt (x.1,x.2.1.2.2.1,())) λa=>aa (a.1,a.2.1,()))
 (ak (aG x.2.1.1 7)
 (ae (sK (x.1,x.2.1.2.2.2.1,x.2.1.2.2.2.2.1,x.2.1.2.2.2.2.2.1,x.2.1.2.2.2.2.2.2.2.1,())) λa=>aa (a.1,a.2.1,()))
 (ak (aG x.2.1.1 8)
 (ae (sM (x.1,x.2.1.2.2.1,())) λa=>aa (a.1,a.2.1,()))
 (ak (aG x.2.1.1 11)
 (ae (sO (x.1,x.2.1.2.2.2.1,x.2.1.2.2.2.2.1,x.2.1.2.2.2.2.2.1,x.2.1.2.2.2.2.2.2.2.1,())) λa=>aa (a.1,a.2.1,()))
 (ak (aG x.2.1.1 12)
 (ae (sP (x.1,x.2.1.2.2.1,())) λa=>aa (a.1,a.2.1,()))
 (ak (((ak (aG x.2.1.1 9)
 ((aG x.2.1.1 9,()),())
 ((aG x.2.1.1 10,()),())).1).1)
 (ae (wk (x.1,x.2.1,())) λa=>aa (a.1,a.2.1,()))
 (ak (((ak (aG x.2.1.1 13)
 ((aG x.2.1.1 13,()),())
 ((((ak (aG x.2.1.1 14)
 ((aG x.2.1.1 14,()),())
 ((aG x.2.1.1 15,()),())).1).1,()),())).1).1)
 (ae (sQ (x.1,x.2.1,())) λa=>aa (a.1,a.2.1,()))
 (ae (fh (1,())) λa=>aa (x.1,a.1,())))))))))))))
def sR(x:bc×(List AD)×aj)(a:lA×(List fR)×bc×aj):Option ((lA×(List fR)×bc×aj)⊕(lA×(List fR)×bc×aj)) :=
 cl (ak (aU a.1.2.1<|len x.2.1)
 (ae (idx x.2.1 a.1.2.1) λc=>ae (AH (a.2.2.1,c,())) λb=>ak (fits<|plus (len a.2.1)<|len [b.2.1])
 (aa<|aA (((),aw i64 a.1.2.1 1,()),app a.2.1 [b.2.1],b.1,()))
 af)
 (aa<|aB (0,((),a.1.2.1,()),a.2.1,a.2.2.1,())))
def Ci(x:bc×(List AD)×aj):Option (bc×(List fR)×aj) :=
 ae (Loop (sR x) (((),0,()),[],x.1,())) (λa=>aa (a.2.2.1,a.2.1,()))
end Go.Ge
namespace Go.Ge
variable [Lp]
set_option maxRecDepth 100000
abbrev gr:=((List<|Sb×(List Sb)×Sb×Sb×Sb×(List<|Sb×Sb×Sb×aj)×aj)×(List<|Sb×(List Sb)×Sb×Sb×(List<|Sb×Sb×Sb×aj)×aj)×(List<|Sb×Sb×(List Sb)×Sb×Int×Int×Bool×aj)×(List Sb)×(List<|Sb×Int×aj)×aj)
abbrev gL:=(Int×(Int×Int×Sb×Sb×(List Sb)×Sb×Sb×Int×aj)×Int×Int×Int×(Int×Sb×Int×Sb×aj)×aj)
abbrev sS:=(((List gL)×(List<|Int)×aj)×(gr×(List<|Bool)×Int×(List<|Int)×aj)×aj)
abbrev ZA:=(Sb×(List Sb)×Sb×Sb×Sb×(List<|Sb×Sb×Sb×aj)×aj)
abbrev ZB:=(Sb×(List Sb)×Sb×Sb×(List<|Sb×Sb×Sb×aj)×aj)
abbrev ZC:=(Sb×Sb×(List Sb)×Sb×Int×Int×Bool×aj)
abbrev fS:=(Bool×Int×aj)
abbrev aes:=(Nat×fS×aj)
abbrev Gq:=(Sb×Int×aj)
abbrev fx:=((List gL)×(List<|Int)×aj)
abbrev mJ:=(gr×(List<|Bool)×Int×(List<|Int)×aj)
abbrev aet:=(fS×aj)
abbrev Gr:=(Sb×Sb×Sb×aj)
abbrev Gs:=((Bool×aj)×gr×aj)
abbrev iW:=(Int×Int×aj)
abbrev zF:=(aet⊕aes)
abbrev zG:=(sS×gr×aj)
abbrev Gt:=((Bool×aj)×(List<|Int)×aj)
abbrev zH:=(sS×(List<|Int)×aj)
def kx(l:List Int)(x:aj):Option (List Int):=aa (Lib.compact (α:=Int) l)
def uH(x:gL×Int×aj):Option (Bool×aj) :=
 aa (ak (ak (nt<|aG x.2.1 x.1.2.2.1)
 (nt<|aG x.2.1 x.1.2.2.2.1)
 false)
 (ak (nt<|aU x.2.1 x.1.2.2.1)
 (ak (nt<|aG x.1.2.2.2.2.1 3)
 (aU x.1.2.2.2.1 x.2.1)
 false)
 true)
 false,())
def nK(x:gL×aj):Option (Bool×aj) :=
 ak (aG x.1.2.2.2.2.1 1)
 (aa (aU x.1.2.2.1 x.1.2.2.2.1,()))
 (ak (aG x.1.2.2.2.2.1 2)
 (aa (ak (aU x.1.2.2.1 x.1.2.2.2.1)
 (an (aG x.1.2.2.2.2.2.1.1 0)<|an (br x.1.2.2.2.2.2.1.2.1 ([]:bg))<|an (aG x.1.2.2.2.2.2.1.2.2.1 0)<|an (br x.1.2.2.2.2.2.1.2.2.2.1 ([]:bg)) true)
 false,()))
 (ak (aG x.1.2.2.2.2.1 3)
 (aa (ak (aG x.1.2.2.2.1 0)
 (an (aG x.1.2.2.2.2.2.1.1 0)<|an (br x.1.2.2.2.2.2.1.2.1 ([]:bg))<|an (aG x.1.2.2.2.2.2.1.2.2.1 0)<|an (br x.1.2.2.2.2.2.1.2.2.2.1 ([]:bg)) true)
 false,()))
 (aa (false,()))))
def AJ(x:(List<|Int)×aj):Option ((List<|Int)×aj) :=
 bif fits (len x.1) then aa (x.1,()) else af
def qO(x:Int×aj):Option (Bool×aj) :=
 aa (nt<|aG x.1 x.1,())
def sT(x:Int×Int×aj):Option (Bool×aj) :=
 ae (qO (x.1,())) (λb=>ae (ak b.1
 (ae (qO (x.2.1,())) λa=>aa (nt a.1))
 (aa false)) λa=>aa (ak (nt a)
 (aU x.1 x.2.1)
 true,()))
def eQ(x:(List<|Int)×aj)(a:fS×aj):Option zF :=
 ak (aU 0 a.1.2.1)
 (ae (idx x.1 a.1.2.1) λb=>ae (idx x.1<|cH i64 a.1.2.1 1) λc=>ae (sT (b,c,())) λd=>ak d.1
 (aa<|aB (1,(false,a.1.2.1,()),()))
 (aa<|aA ((a.1.1,cH i64 a.1.2.1 1,()),())))
 (aa<|aB (0,(a.1.1,a.1.2.1,()),()))
def fT(x:(List<|Int)×aj):Option (Bool×aj) :=
 ae (Loop (eQ x) ((false,cH i64 (len x.1) 1,()),())) (λa=>ak (cK a.1 0)
 (aa (true,()))
 (aa (a.2.1.1,())))
def sU(x:(List<|Int)×aj):Option (Bool×aj) :=
 ae (fT (x.1,())) (λa=>ak a.1
 (ak (fits<|len x.1)
 (ae (kx x.1 ()) λb=>aa (aG (len b)<|len x.1,()))
 af)
 (aa (false,())))
def iX(b:(Int×Int×Int×aj)×fx×aj)(a:iW×gL×aj):Option ((iW×gL×aj)⊕(Nat×iW×gL×aj)) :=
 ak (aU a.1.2.1<|len<|sub b.2.1.1 (0:Int)<|minus b.1.2.2.1 0)
 (ae (idx (sub b.2.1.1 (0:Int)<|minus b.1.2.2.1 0) a.1.2.1) λc=>ak (ak (aG c.1 a.2.1.1)
 (ak (nt<|aG c.2.2.2.2.1 3)
 (cw a.2.1.2.2.1 c.2.2.2.1)
 true)
 false)
 (aa<|aB (1,(a.1.2.1,a.1.2.1,()),a.2.1,()))
 (aa<|aA ((a.1.1,aw i64 a.1.2.1 1,()),a.2.1,())))
 (aa<|aB (0,(a.1.1,a.1.2.1,()),a.2.1,()))
def iY(b:(Int×Int×Int×aj)×fx×aj)(a:iW×gL×aj):Option ((iW×gL×aj)⊕(Nat×iW×gL×aj)) :=
 ak (aU a.1.2.1<|len b.2.1.2.1)
 (ae (idx b.2.1.2.1 a.1.2.1) λc=>ae (uH (a.2.1,c,())) λd=>ak (nt d.1)
 (aa<|aB (1,(a.1.2.1,a.1.2.1,()),a.2.1,()))
 (aa<|aA ((a.1.1,aw i64 a.1.2.1 1,()),a.2.1,())))
 (aa<|aB (0,(a.1.1,a.1.2.1,()),a.2.1,()))
def gg(x:fx×aj)(a:(Int×Int×Int×aj)×fx×aj):Option (((Int×Int×Int×aj)×fx×aj)⊕(Nat×(Int×Int×Int×aj)×fx×aj)) :=
 ak (aU a.1.2.2.1<|len x.1.1)
 (ae (idx x.1.1 a.1.2.2.1) λe=>ak (inside 0 a.1.2.2.1<|len a.2.1.1)
 (ae (ae (Loop (iX a) (((0:Int),(0:Int),()),e,())) λc=>ak (cK c.1 0)
 (aa ((false,()),c.2.2.1,()))
 (aa ((cw 0 c.2.1.1,()),c.2.2.1,()))) λc=>ae (ae (Loop (iY a) (((0:Int),(0:Int),()),c.2.1,())) λb=>ak (cK b.1 0)
 (aa ((false,()),b.2.2.1,()))
 (aa ((cw 0 b.2.1.1,()),b.2.2.1,()))) λb=>ae (ak (nt<|cw b.2.1.2.2.1 a.1.2.1)
 (ae (nK (b.2.1,())) λd=>aa (nt d.1))
 (aa true)) λd=>ak (ak (nt<|ak (nt d)
 (nt<|nt c.1.1)
 true)
 (nt<|nt b.1.1)
 true)
 (aa<|aB (1,((1:Int),a.1.2.1,a.1.2.2.1,()),a.2.1,()))
 (aa<|aA ((a.1.1,b.2.1.2.2.1,aw i64 a.1.2.2.1 1,()),a.2.1,())))
 af)
 (aa<|aB (0,(a.1.1,a.1.2.1,a.1.2.2.1,()),a.2.1,()))
def ed(x:fx×aj):Option (Int×aj) :=
 ae (Loop (gg x) (((0:Int),(0:Int),(0:Int),()),x.1,())) (λa=>ak (cK a.1 0)
 (ae (sU (a.2.2.1.2.1,())) λb=>ak (nt b.1)
 (aa ((1:Int),()))
 (aa ((0:Int),())))
 (aa (a.2.1.1,())))
def wm(x:gL×aj):Option (Int×aj) :=
 ak (aG x.1.2.2.2.2.1 3)
 (aa ((9223372036854775807:Int),()))
 (aa (x.1.2.2.2.1,()))
def y4(x:(List<|Bool)×aj):Option ((List<|Bool)×aj) :=
 bif fits (len x.1) then aa (x.1,()) else af
def lB(x:gL×gL×aj):Option (Bool×aj) :=
 aa (ak (nt<|aG x.1.2.2.2.2.1 3)
 (aU x.1.2.2.2.1 x.2.1.2.2.1)
 false,())
def MJ(l:List gL)(u:List Bool)(a:fS×aj):Option ((fS×aj)⊕(Nat×fS×aj)) :=
 ak (aU a.1.2.1<|len l)
 (ae (idx l a.1.2.1) λb=>ae (idx u a.1.2.1) λc=>ak (ak (nt c)
 (aG b.2.2.2.2.1 1)
 false)
 (aa<|aB (1,(true,a.1.2.1,()),()))
 (aa<|aA ((a.1.1,aw i64 a.1.2.1 1,()),())))
 (aa<|aB (0,(a.1.1,a.1.2.1,()),()))
def Sv(l:List gL)(u:List Bool)(a:Int)(b:fS×aj):Option ((fS×aj)⊕(Nat×fS×aj)) :=
 ak (aU b.1.2.1<|len l)
 (ae (idx l b.1.2.1) λc=>ae (idx u b.1.2.1) λd=>ak (ak (ak (nt d)
 (aG c.2.2.2.2.1 1)
 false)
 (aU c.2.2.2.1 a)
 false)
 (aa<|aB (1,(true,b.1.2.1,()),()))
 (aa<|aA ((b.1.1,aw i64 b.1.2.1 1,()),())))
 (aa<|aB (0,(b.1.1,b.1.2.1,()),()))
def KV(l:List gL)(u:List Bool)(a:Int)(b:fS×aj):Option ((fS×aj)⊕(Nat×fS×aj)) :=
 ak (aU b.1.2.1<|len l)
 (ae (idx l b.1.2.1) λc=>ak (within b.1.2.1<|len u)
 (ae (idx u b.1.2.1) λd=>ak (ak (ak (nt d)
 (aG c.2.2.2.2.1 1)
 false)
 (aU c.2.2.2.1 a)
 false)
 (aa<|aB (1,(true,b.1.2.1,()),()))
 (aa<|aA ((b.1.1,aw i64 b.1.2.1 1,()),())))
 af)
 (aa<|aB (0,(b.1.1,b.1.2.1,()),()))
def aeu(l:List gL)(e:gL)(y:(Int×aj)×(List Bool)×aj):Option (((Int×aj)×(List Bool)×aj)⊕((Int×aj)×(List Bool)×aj)) :=
 cl (ak (aU y.1.1<|len l)
 (ae (idx l y.1.1) λa=>ae (lB (a,e,())) λb=>ae (ak b.1
 (ak (within y.1.1<|len y.2.1)
 (ae (idx y.2.1 y.1.1) λ_=>ae (idx y.2.1 y.1.1) λ_=>ae (idx y.2.1 y.1.1) λ_=>aa ((),ky y.2.1 y.1.1 true,()))
 af)
 (aa ((),y.2.1,()))) λc=>aa (aA ((aw i64 y.1.1 1,()),c.2.1,())))
 (aa<|aB (0,(y.1.1,()),y.2.1,())))
def Sw{U:Type}(l:List gL)(c:List Int)(p:mJ)(w:U):Option ((mJ×Bool×aj)×U) :=
 ae (ak (cw (len c) p.2.2.1)
 (aa true)
 (ae (idx c p.2.2.1) λb=>ae (ae (Loop (Sv l p.2.1 b) ((false,0,()),())) λa=>ak (cK a.1 0)
 (aa ((false,()),()))
 (aa ((a.2.1.1,()),()))) λa=>aa a.1.1)) (λb=>ak b
 (aa (((([],[],[],[],[],()),[],0,[],()),false,()),w))
 (ak (fits<|len p.2.2.2.1)
 (ak (fits<|plus (len p.2.2.2.1)<|len [(-1:Int)])
 (aa ((((p.1.1,p.1.2.1,p.1.2.2.1,p.1.2.2.2.1,[],p.1.2.2.2.2.2),p.2.1,aw i64 p.2.2.1 1,app p.2.2.2.1 [(-1:Int)],p.2.2.2.2),true,()),w))
 af)
 af))
def Sx{U:Type}(l:List gL)(d:List Int)(p:mJ)(k:Int)(w:U):Option ((mJ×Bool×aj)×U) :=
 ae (idx l k) (λb=>ae (ak (aU p.2.2.1<|len d)
 (ae (idx d p.2.2.1) λe=>aa (aU e b.2.2.1))
 (aa false)) λe=>ae (ak (aU 0 p.2.2.1)
 (ae (wm (b,())) λf=>ae (idx d<|cH i64 p.2.2.1 1) λg=>aa (aU f.1 g))
 (aa false)) λf=>ae (idx p.2.1 k) λg=>ak (ak (nt<|ak (nt g)
 e
 true)
 f
 true)
 (aa (((([],[],[],[],[],()),[],0,[],()),false,()),w))
 (ak (fits<|len p.2.1)
 (ak (fits<|len p.2.2.2.1)
 (ak (fits<|plus (len p.2.2.2.1)<|len [k])
 (ak (within k<|len p.2.1)
 (ae (idx p.2.1 k) λ_=>ae (idx p.2.1 k) λ_=>ae (idx p.2.1 k) λ_=>ae (ae (Loop (KV l (ky p.2.1 k true) b.2.2.1) ((false,0,()),())) λa=>ak (cK a.1 0)
 (aa ((false,()),w))
 (aa ((a.2.1.1,()),w))) λa=>ak a.1.1
 (aa (((([],[],[],[],[],()),[],0,[],()),false,()),a.2))
 (ak (nt<|aG b.2.1.1 16)
 (ae (xq (p.1,b.2.1,())) λc=>ak (ak (aG b.2.2.2.2.1 1)
 (nt<|an (aG c.2.1.1 b.2.2.2.2.2.1.1)<|an (br c.2.1.2.1 b.2.2.2.2.2.1.2.1)<|an (aG c.2.1.2.2.1 b.2.2.2.2.2.1.2.2.1)<|an (br c.2.1.2.2.2.1 b.2.2.2.2.2.1.2.2.2.1) true)
 false)
 (aa (((([],[],[],[],[],()),[],0,[],()),false,()),a.2))
 (ae (Loop (aeu l b) ((0,()),ky p.2.1 k true,())) λh=>aa (((c.1,h.2.1,p.2.2.1,app p.2.2.2.1 [k],()),true,()),a.2)))
 (ak (ak (aG b.2.2.2.2.1 1)
 (nt<|an (aG 0 b.2.2.2.2.2.1.1)<|an (br [] b.2.2.2.2.2.1.2.1)<|an (aG 0 b.2.2.2.2.2.1.2.2.1)<|an (br [] b.2.2.2.2.2.1.2.2.2.1) true)
 false)
 (aa (((([],[],[],[],[],()),[],0,[],()),false,()),a.2))
 (ae (Loop (aeu l b) ((0,()),ky p.2.1 k true,())) λc=>aa (((p.1,c.2.1,p.2.2.1,app p.2.2.2.1 [k],()),true,()),a.2)))))
 af)
 af)
 af)
 af))
def Gu{U:Type}(a:(fx×mJ×aj)×U->Option ((Bool×aj)×U))(x:(fx×mJ×aj)×U)(y:fS×U):Option ((fS×U)⊕(Nat×fS×U)) :=
 ak (aU y.1.2.1<|len x.1.1.1)
 (ae (Sx x.1.1.1 x.1.1.2.1 x.1.2.1 y.1.2.1 y.2) λb=>ak b.1.2.1
 (ae (a ((x.1.1,b.1.1,()),b.2)) λc=>ak c.1.1
 (aa<|aB (1,(true,y.1.2.1,()),c.2))
 (aa<|aA ((y.1.1,aw i64 y.1.2.1 1,()),c.2)))
 (aa<|aA ((y.1.1,aw i64 y.1.2.1 1,()),b.2)))
 (aa<|aB (0,(y.1.1,y.1.2.1,()),y.2))
def MK{U:Type}(a:(fx×mJ×aj)×U->Option ((Bool×aj)×U))(x:(fx×mJ×aj)×U)(w:U):Option ((Bool×aj)×U) :=
 ae (Sw x.1.1.1 x.1.1.2.1 x.1.2.1 w) (λc=>ak c.1.2.1
 (ae (a ((x.1.1,c.1.1,()),c.2)) λb=>ak b.1.1
 (aa ((true,()),b.2))
 (ae (Loop (Gu a x) ((false,0,()),b.2)) λd=>ak (cK d.1 0)
 (aa ((false,()),d.2.2))
 (aa ((d.2.1.1,()),d.2.2))))
 (ae (Loop (Gu a x) ((false,0,()),c.2)) λb=>ak (cK b.1 0)
 (aa ((false,()),b.2.2))
 (aa ((b.2.1.1,()),b.2.2))))
def HV{U:Type}(c:mJ->U->Option (Bool×aj))(d:mJ->U->U)(a:(fx×mJ×aj)×U->Option ((Bool×aj)×U))(x:(fx×mJ×aj)×U):Option ((Bool×aj)×U) :=
 ae (ae (Loop (MJ x.1.1.1 x.1.2.1.2.1) ((false,0,()),())) λb=>ak (cK b.1 0)
 (aa ((aU x.1.2.1.2.2.1<|len x.1.1.2.1,()),x.2))
 (aa ((b.2.1.1,()),x.2))) (λb=>ak (nt b.1.1)
 (ae (c x.1.2.1 b.2) λe=>ak e.1
 (aa ((true,()),d x.1.2.1 b.2))
 (MK a x b.2))
 (MK a x b.2))
def iZ(a:zH->Option Gt)(x:sS×(List<|Int)×aj):Option Gt:=HV (λ_ _=>aa (true,())) (λp _=>(p.2.2.2.1,())) a x
def bS:Nat->zH->Option Gt
 | 0,_=>af
 | k+1,x=>iZ (bS k) x
def fy(x:zH):Option Gt:=bS 40 x
def tg(x:zH):bS 0 x=none:=rfl
def ti(k:Nat)(x:zH)(y)(h:bS (k+1) x=aa y):iZ (bS k) x=aa y:=h
def tL(x:zH)(y)(h:fy x=aa y):∃k,bS k x=aa y:=⟨40,h⟩
def Gv(x:gr×fx×aj)(a:iW×aj):Option ((iW×aj)⊕(iW×aj)) :=
 cl (ak (aU a.1.2.1<|len x.2.1.1)
 (ae (idx x.2.1.1 a.1.2.1) λb=>aa (aA ((((ak (nt<|aG b.2.1.1 16)
 ((aw i64 a.1.1 1,()),())
 ((a.1.1,()),())).1).1,aw i64 a.1.2.1 1,()),())))
 (aa<|aB (0,(a.1.1,a.1.2.1,()),())))
def ja(x:gr×fx×aj):Option ((List<|Int)×Int×aj) :=
 ae (ed (x.2.1,())) (λa=>ak (nt<|aG a.1 0)
 (ak (ak (aG a.1 0)
 true
 false)
 (aa (([]:List (Int)),(3:Int),()))
 (aa (([]:List (Int)),a.1,())))
 (ae (Loop (Gv x) (((0:Int),(0:Int),()),())) λc=>ak (aU 6 c.1.1)
 (aa (([]:List (Int)),(5:Int),()))
 (ak (inside 0 (len x.2.1.1)<|len x.2.1.1)
 (ak (fits<|len x.2.1.1)
 (ae (fy ((x.2.1,(x.1,lP (len x.2.1.1) false,(0:Int),([]:List (Int)),()),()),([]:List (Int)),())) λb=>ak (nt b.1.1)
 (aa (([]:List (Int)),(3:Int),()))
 (aa (b.2.1,(0:Int),())))
 af)
 af)))
def jb(a:(sS×aj)->Option ((Bool×aj)×aj))(x:sS×aj):Option ((Bool×aj)×aj):=HV (λ_ _=>aa (true,())) (λ_ w=>w) a x
def bT:Nat->(sS×aj)->Option ((Bool×aj)×aj)
 | 0,_=>af
 | k+1,x=>jb (bT k) x
def fA(x:(sS×aj)):Option ((Bool×aj)×aj):=bT 40 x
def tj(x:(sS×aj)):bT 0 x=none:=rfl
def tk(k:Nat)(x:(sS×aj))(y)(h:bT (k+1) x=aa y):jb (bT k) x=aa y:=h
def tM(x:(sS×aj))(y)(h:fA x=aa y):∃k,bT k x=aa y:=⟨40,h⟩
def Gw(x:gr×fx×aj)(a:iW×aj):Option ((iW×aj)⊕(iW×aj)) :=
 cl (ak (aU a.1.2.1<|len x.2.1.1)
 (ae (idx x.2.1.1 a.1.2.1) λb=>aa (aA ((((ak (nt<|aG b.2.1.1 16)
 ((aw i64 a.1.1 1,()),())
 ((a.1.1,()),())).1).1,aw i64 a.1.2.1 1,()),())))
 (aa<|aB (0,(a.1.1,a.1.2.1,()),())))
def fB(x:gr×fx×aj):Option fS :=
 ae (ed (x.2.1,())) (λa=>ak (nt<|aG a.1 0)
 (aa (false,a.1,()))
 (ae (Loop (Gw x) (((0:Int),(0:Int),()),())) λb=>ak (aU 6 b.1.1)
 (aa (false,(5:Int),()))
 (ak (inside 0 (len x.2.1.1)<|len x.2.1.1)
 (ak (fits<|len x.2.1.1)
 (ae (fA ((x.2.1,(x.1,lP (len x.2.1.1) false,(0:Int),([]:List (Int)),()),()),())) λc=>aa (c.1.1,(0:Int),()))
 af)
 af)))
def qa(x:aj):Option (Bool×aj) :=
 aa (true,())
def eK(x:(List Gr)×(List Gr)×aj)(a:fS×aj):Option zF :=
 ak (aU a.1.2.1<|len x.1)
 (ae (idx x.1 a.1.2.1) λb=>ae (idx x.2.1 a.1.2.1) λc=>ak (nt<|an (br b.1 c.1)<|an (br b.2.1 c.2.1)<|an (br b.2.2.1 c.2.2.1) true)
 (aa<|aB (1,(false,a.1.2.1,()),()))
 (aa<|aA ((a.1.1,aw i64 a.1.2.1 1,()),())))
 (aa<|aB (0,(a.1.1,a.1.2.1,()),()))
def dT(x:(List Gr)×(List Gr)×aj):Option (Bool×aj) :=
 ak (nt<|aG (len x.1)<|len x.2.1)
 (aa (false,()))
 (ae (Loop (eK x) ((false,(0:Int),()),())) λa=>ak (cK a.1 0)
 (aa (true,()))
 (aa (a.2.1.1,())))
def qP(x:ZA×ZA×aj):Option (Bool×aj) :=
 ae (ak (br x.1.1 x.2.1.1)
 (ae (bE (x.1.2.1,x.2.1.2.1,())) λa=>aa a.1)
 (aa false)) (λa=>ae (ak (ak (ak (ak a
 (br x.1.2.2.1 x.2.1.2.2.1)
 false)
 (br x.1.2.2.2.1 x.2.1.2.2.2.1)
 false)
 (br x.1.2.2.2.2.1 x.2.1.2.2.2.2.1)
 false)
 (ae (dT (x.1.2.2.2.2.2.1,x.2.1.2.2.2.2.2.1,())) λb=>aa b.1)
 (aa false)) λb=>aa (b,()))
def qQ(x:ZB×ZB×aj):Option (Bool×aj) :=
 ae (ak (br x.1.1 x.2.1.1)
 (ae (bE (x.1.2.1,x.2.1.2.1,())) λa=>aa a.1)
 (aa false)) (λa=>ae (ak (ak (ak a
 (br x.1.2.2.1 x.2.1.2.2.1)
 false)
 (br x.1.2.2.2.1 x.2.1.2.2.2.1)
 false)
 (ae (dT (x.1.2.2.2.2.1,x.2.1.2.2.2.2.1,())) λb=>aa b.1)
 (aa false)) λb=>aa (b,()))
def qR(x:ZC×ZC×aj):Option (Bool×aj) :=
 ae (ak (ak (br x.1.1 x.2.1.1)
 (br x.1.2.1 x.2.1.2.1)
 false)
 (ae (bE (x.1.2.2.1,x.2.1.2.2.1,())) λa=>aa a.1)
 (aa false)) (λa=>aa (ak (ak (ak (ak a
 (br x.1.2.2.2.1 x.2.1.2.2.2.1)
 false)
 (aG x.1.2.2.2.2.1 x.2.1.2.2.2.2.1)
 false)
 (aG x.1.2.2.2.2.2.1 x.2.1.2.2.2.2.2.1)
 false)
 (eqB x.1.2.2.2.2.2.2.1 x.2.1.2.2.2.2.2.2.1)
 false,()))
def et(x:(List Gq)×(List Gq)×aj)(a:fS×aj):Option zF :=
 ak (aU a.1.2.1<|len x.1)
 (ae (idx x.1 a.1.2.1) λb=>ae (idx x.2.1 a.1.2.1) λc=>ak (nt<|an (br b.1 c.1)<|an (aG b.2.1 c.2.1) true)
 (aa<|aB (1,(false,a.1.2.1,()),()))
 (aa<|aA ((a.1.1,aw i64 a.1.2.1 1,()),())))
 (aa<|aB (0,(a.1.1,a.1.2.1,()),()))
def eS(x:(List Gq)×(List Gq)×aj):Option (Bool×aj) :=
 ak (nt<|aG (len x.1)<|len x.2.1)
 (aa (false,()))
 (ae (Loop (et x) ((false,(0:Int),()),())) λa=>ak (cK a.1 0)
 (aa (true,()))
 (aa (a.2.1.1,())))
def vu(x:gr×gr×aj)(a:fS×aj):Option zF :=
 ak (aU a.1.2.1<|len x.1.1)
 (ae (idx x.1.1 a.1.2.1) λb=>ae (idx x.2.1.1 a.1.2.1) λc=>ae (qP (b,c,())) λd=>ak (nt d.1)
 (aa<|aB (1,(false,a.1.2.1,()),()))
 (aa<|aA ((a.1.1,aw i64 a.1.2.1 1,()),())))
 (aa<|aB (0,(a.1.1,a.1.2.1,()),()))
def vv(x:gr×gr×aj)(a:fS×aj):Option zF :=
 ak (aU a.1.2.1<|len x.1.2.1)
 (ae (idx x.1.2.1 a.1.2.1) λb=>ae (idx x.2.1.2.1 a.1.2.1) λc=>ae (qQ (b,c,())) λd=>ak (nt d.1)
 (aa<|aB (1,(false,a.1.2.1,()),()))
 (aa<|aA ((a.1.1,aw i64 a.1.2.1 1,()),())))
 (aa<|aB (0,(a.1.1,a.1.2.1,()),()))
def vw(x:gr×gr×aj)(a:fS×aj):Option zF :=
 ak (aU a.1.2.1<|len x.1.2.2.1)
 (ae (idx x.1.2.2.1 a.1.2.1) λb=>ae (idx x.2.1.2.2.1 a.1.2.1) λc=>ae (qR (b,c,())) λd=>ak (nt d.1)
 (aa<|aB (1,(false,a.1.2.1,()),()))
 (aa<|aA ((a.1.1,aw i64 a.1.2.1 1,()),())))
 (aa<|aB (0,(a.1.1,a.1.2.1,()),()))
def sV(x:gr×gr×aj):Option (Bool×aj) :=
 ae (ak (nt<|aG (len x.1.1)<|len x.2.1.1)
 (aa ((false,()),()))
 (ae (Loop (vu x) ((false,(0:Int),()),())) λa=>ak (cK a.1 0)
 (aa ((true,()),()))
 (aa ((a.2.1.1,()),())))) (λa=>ae (ak (nt<|aG (len x.1.2.1)<|len x.2.1.2.1)
 (aa ((false,()),()))
 (ae (Loop (vv x) ((false,(0:Int),()),())) λb=>ak (cK b.1 0)
 (aa ((true,()),()))
 (aa ((b.2.1.1,()),())))) λb=>ae (ak (nt<|aG (len x.1.2.2.1)<|len x.2.1.2.2.1)
 (aa ((false,()),()))
 (ae (Loop (vw x) ((false,(0:Int),()),())) λc=>ak (cK c.1 0)
 (aa ((true,()),()))
 (aa ((c.2.1.1,()),())))) λc=>ae (ak (ak (ak a.1.1
 b.1.1
 false)
 c.1.1
 false)
 (ae (bE (x.1.2.2.2.1,x.2.1.2.2.2.1,())) λd=>aa d.1)
 (aa false)) λd=>ae (ak d
 (ae (eS (x.1.2.2.2.2.1,x.2.1.2.2.2.2.1,())) λe=>aa e.1)
 (aa false)) λe=>aa (e,()))
def jz(a:zG->Option Gs)(x:sS×gr×aj):Option Gs:=HV (λp w=>sV (p.1,w.1,())) (λ_ w=>w) a x
def cA:Nat->zG->Option Gs
 | 0,_=>af
 | k+1,x=>jz (cA k) x
def jA(x:zG):Option Gs:=cA 40 x
def tN(x:zG):cA 0 x=none:=rfl
def tO(k:Nat)(x:zG)(y)(h:cA (k+1) x=aa y):jz (cA k) x=aa y:=h
def u9(x:zG)(y)(h:jA x=aa y):∃k,cA k x=aa y:=⟨40,h⟩
def HW(x:gr×fx×gr×aj)(a:iW×aj):Option ((iW×aj)⊕(iW×aj)) :=
 cl (ak (aU a.1.2.1<|len x.2.1.1)
 (ae (idx x.2.1.1 a.1.2.1) λb=>aa (aA ((((ak (nt<|aG b.2.1.1 16)
 ((aw i64 a.1.1 1,()),())
 ((a.1.1,()),())).1).1,aw i64 a.1.2.1 1,()),())))
 (aa<|aB (0,(a.1.1,a.1.2.1,()),())))
def qb(x:gr×fx×gr×aj):Option fS :=
 ae (ed (x.2.1,())) (λa=>ak (nt<|aG a.1 0)
 (aa (false,a.1,()))
 (ae (Loop (HW x) (((0:Int),(0:Int),()),())) λb=>ak (aU 6 b.1.1)
 (aa (false,(5:Int),()))
 (ak (inside 0 (len x.2.1.1)<|len x.2.1.1)
 (ak (fits<|len x.2.1.1)
 (ae (jA ((x.2.1,(x.1,lP (len x.2.1.1) false,(0:Int),([]:List (Int)),()),()),x.2.2.1,())) λc=>aa (c.1.1,(0:Int),()))
 af)
 af)))
end Go.Ge
namespace Go.Ge
variable [Lp]
set_option maxRecDepth 100000
abbrev Di:=(Int×(Int×Int×Sb×Sb×(List Sb)×Sb×Sb×Int×aj)×Int×Int×Int×(Int×Sb×Int×Sb×aj)×aj)
abbrev ZD:=(Int×Int×Sb×Sb×(List Sb)×Sb×Sb×Int×aj)
abbrev Gx:=(Sb×(List Sb)×Sb×Sb×Sb×(List<|Sb×Sb×Sb×aj)×aj)
abbrev Gy:=(Sb×(List Sb)×Sb×Sb×(List<|Sb×Sb×Sb×aj)×aj)
abbrev Gz:=(Sb×Sb×(List Sb)×Sb×Int×Int×Bool×aj)
abbrev agZ:=(Int×Sb×Int×Sb×aj)
abbrev ag0:=(Nat×(Bool×aj×Int×aj)×(List<|Int)×(aj×(List<|Int)×aj)×(List Di)×aj)
abbrev ag1:=((Bool×aj×Int×aj)×(List<|Int)×(aj×(List<|Int)×aj)×(List Di)×aj)
def eu(x:(List ZD)×Int×aj)(c:((List Gx)×(List Gy)×(List Gz)×(List Sb)×(List<|Sb×Int×aj)×aj)×(List agZ)×aj)(a:(Bool×aj×Int×aj)×(List<|Int)×(aj×(List<|Int)×aj)×(List Di)×aj):Option (ag1⊕ag0) :=
 ak (ak (aU a.1.2.2.1<|len x.1)
 (aU a.1.2.2.1<|len c.2.1)
 false)
 (ae (idx x.1 a.1.2.2.1) λe=>ak (aG e.1 16)
 (ae (qa ()) λb=>aa (aB (1,(b.1,(),a.1.2.2.1,()),a.2.1,((),a.2.2.1.2.1,a.2.2.1.2.2),a.2.2.2.1,())))
 (ae (idx x.1 a.1.2.2.1) λb=>ae (idx c.2.1 a.1.2.2.1) λd=>ak (fits<|plus (len a.2.2.2.1)<|len ([((1:Int),b,aw i64 (jr i64 2 a.1.2.2.1) 1,aw i64 (jr i64 2 a.1.2.2.1) 2,(1:Int),d,())]:List Di))
 (ak (fits<|plus (len a.2.1)<|len ([a.1.2.2.1]:List (Int)))
 (aa<|aA ((a.1.1,(),aw i64 a.1.2.2.1 1,()),app a.2.1 ([a.1.2.2.1]:List (Int)),((),a.2.2.1.2.1,a.2.2.1.2.2),app a.2.2.2.1 ([((1:Int),b,aw i64 (jr i64 2 a.1.2.2.1) 1,aw i64 (jr i64 2 a.1.2.2.1) 2,(1:Int),d,())]:List Di),()))
 af)
 af))
 (aa<|aB (0,(a.1.1,(),a.1.2.2.1,()),a.2.1,((),a.2.2.1.2.1,a.2.2.1.2.2),a.2.2.2.1,()))
def hL(x:(List ZD)×Int×aj):Option (Bool×aj) :=
 ae (Ch (x.1,(5:Int),())) (λj=>ak (nt j.1)
 (ae (qa ()) λe=>aa (e.1,()))
 (ae (Ci ((([]:List Gx),([]:List Gy),([]:List Gz),([]:List Sb),([]:List (Sb×Int×aj)),()),x.1,())) λe=>ae (Loop (eu x e) ((false,(),(0:Int),()),([]:List (Int)),((),([]:List (Int)),()),([]:List Di),())) λb=>ak (cK b.1 0)
 (ae (ja ((([]:List Gx),([]:List Gy),([]:List Gz),([]:List Sb),([]:List (Sb×Int×aj)),()),(b.2.2.2.2.1,b.2.2.2.1.2.1,b.2.2.2.1.2.2),())) λh=>ae (qb ((([]:List Gx),([]:List Gy),([]:List Gz),([]:List Sb),([]:List (Sb×Int×aj)),()),(b.2.2.2.2.1,b.2.2.2.1.2.1,b.2.2.2.1.2.2),e.1,())) λi=>ae (ak (nt<|ak (nt<|ak (nt<|nt<|aG h.2.1 0)
 (nt<|aG i.2.1 0)
 true)
 (nt i.1)
 true)
 (ae (iD (h.1,b.2.2.1,())) λf=>aa (nt f.1))
 (aa true)) λf=>ak f
 (aa (false,()))
 (ak (aG (len x.1) 0)
 (ae (qa ()) λg=>aa (g.1,()))
 (ak (aG (len x.1) 0)
 af
 (ak (within (eU (ju i64 x.2.1)<|len x.1)<|len b.2.2.2.2.1)
 (ae (idx b.2.2.2.2.1<|eU (ju i64 x.2.1)<|len x.1) λg=>ak (within (eU (ju i64 x.2.1)<|len x.1)<|len b.2.2.2.2.1)
 (ae (idx b.2.2.2.2.1<|eU (ju i64 x.2.1)<|len x.1) λk=>ae (idx b.2.2.2.2.1<|eU (ju i64 x.2.1)<|len x.1) λl=>ae (idx b.2.2.2.2.1<|eU (ju i64 x.2.1)<|len x.1) λa=>ae (fB ((([]:List Gx),([]:List Gy),([]:List Gz),([]:List Sb),([]:List (Sb×Int×aj)),()),(ky b.2.2.2.2.1 (eU (ju i64 x.2.1)<|len x.1) (a.1,a.2.1,a.2.2.1,a.2.2.2.1,a.2.2.2.2.1,(a.2.2.2.2.2.1.1,a.2.2.2.2.2.1.2.1,fN i64 g.2.2.2.2.2.1.2.2.1 1,a.2.2.2.2.2.1.2.2.2),a.2.2.2.2.2.2),b.2.2.2.1.2.1,b.2.2.2.1.2.2),())) λd=>ae (ak (ak (nt d.1)
 (aG d.2.1 0)
 false)
 (ae (qa ()) λc=>aa c.1)
 (aa false)) λc=>aa (c,()))
 af)
 af))))
 (aa (b.2.1.1,()))))
end Go.Ge
namespace Go.Ge
variable [Lp]
def eA{a b}(h:-9223372036854775808<=a+b)(c:a+b<=9223372036854775807):aw .i64 a b=a+b:=by
 unfold aw;simp[IntKind.wrap,IntKind.signed,IntKind.bits];omega
def dv{a b}(h:-9223372036854775808<=a-b)(c:a-b<=9223372036854775807):cH .i64 a b=a-b:=by
 unfold cH;simp[IntKind.wrap,IntKind.signed,IntKind.bits];omega
def zI{a b}(h:-9223372036854775808<=a*b)(c:a*b<=9223372036854775807):jr .i64 a b=a*b:=by
 unfold jr;simp[IntKind.wrap,IntKind.signed,IntKind.bits];omega
def uI{a}(h:-9223372036854775808<=a)(b:a<=9223372036854775807):ju .i64 a=a:=by
 unfold ju;simp[IntKind.wrap,IntKind.signed,IntKind.bits];omega
def ag2{a}(h:0<=a)(b:a<=18446744073709551615):ju .u64 a=a:=by
 unfold ju;simp[IntKind.wrap,IntKind.signed,IntKind.bits];omega
def ai9(a:Int):ju .u8 a=a % 256:=by
 unfold ju;simp[IntKind.wrap,IntKind.min,IntKind.max,IntKind.signed,IntKind.bits]
def wrap_u32 a:IntKind.wrap .u32 a=a % 4294967296:=by
 simp[IntKind.wrap,IntKind.signed,IntKind.bits]
def Bv(x:Int):BitVec 32:=BitVec.ofInt 32 x
def Can(x:Int):Prop:=0<=x/\x<4294967296
def U9 a:Can (IntKind.wrap .u32 a):=by rw[wrap_u32];unfold Can;omega
def xv a:((Bv a).toNat:Int)=a % 4294967296:=by
 unfold Bv;rw[Y4];have:0<=a % ((2 ^ 32:Nat):Int):=Int.emod_nonneg _ aD;rw[ac1 this];rfl
def ag3{a b}(c:Can a)(d:Can b)(h:Bv a=Bv b):a=b:=by
 have e:=xv a;have f:=xv b;rw[h] at e;unfold Can at c d;omega
def KW a:Bv (IntKind.wrap .u32 a)=Bv a:=by
 apply acY;have c:=xv a;have b:=xv (IntKind.wrap .u32 a);rw[wrap_u32] at b⊢;omega
def XS v:Bv (v.toNat:Int)=v:=by
 apply acY;have a:=xv v.toNat;omega
def bv_and x y:Bv (gP .u32 x y)=Bv x &&& Bv y:=by unfold gP;rw[KW];apply XS
def ZE x y:Bv (Ac .u32 x y)=Bv x ||| Bv y:=by unfold Ac;rw[KW];apply XS
def aev x y:Bv (fN .u32 x y)=Bv x ^^^ Bv y:=by unfold fN;rw[KW];apply XS
def ML x y:Can (Ac .u32 x y):=U9 _
def Sy x y:Can (fN .u32 x y):=U9 _
def XT x (n:Nat) (hn:n<=32):Bv (nO .u32 x n)=Bv x <<< n:=by
 unfold nO;rw[KW];apply acY;have a:=xv (x*2 ^ (min (n:Int).toNat IntKind.u32.bits));have e:min (n:Int).toNat IntKind.u32.bits=n:=by simp[IntKind.bits];omega
 rw[e] at a⊢;rw[BitVec.toNat_shiftLeft];have b:(((Bv x).toNat*2 ^ n % 2 ^ 32:Nat):Int)=(x*2 ^ n) % 4294967296:=by
  rw[Int.natCast_emod,Int.natCast_mul,(xv x)];show(x % 4294967296*2 ^ n) % 4294967296=_
  rw[Int.mul_emod,Int.emod_emod_of_dvd _ (Int.dvd_refl _),<-Int.mul_emod]
 omega
def XU x y:Ac .u32 x y=Ac .u32 y x:=ag3 (ML _ _) (ML _ _) (by rw[ZE,ZE,BitVec.or_comm])
def Va x y:aw .u32 x y=aw .u32 y x:=by unfold aw;rw[Int.add_comm]
def akT e f g:fN .u32 g (gP .u32 e<|fN .u32 f g)=fN .u32 (gP .u32 e f) (gP .u32 (fN .u32 4294967295 e) g):=by
 refine ag3 (Sy _ _) (Sy _ _) ?_;simp only[aev,bv_and];have h:Bv 4294967295=BitVec.allOnes 32:=aD;rw[h]
 ext i hi
 simp only[BitVec.getElem_xor,BitVec.getElem_and,BitVec.getElem_allOnes];cases (Bv e)[i]<;>cases (Bv f)[i]<;>cases (Bv g)[i]<;>rfl
def aja a b c:Ac .u32 (gP .u32 a b) (gP .u32 c<|Ac .u32 a b)=fN .u32 (fN .u32 (gP .u32 a b)<|gP .u32 a c) (gP .u32 b c):=by
 refine ag3 (ML _ _) (Sy _ _) ?_;simp only[aev,bv_and,ZE]
 ext i hi
 simp;cases (Bv a)[i]<;>cases (Bv b)[i]<;>cases (Bv c)[i]<;>rfl
def ag4 a b c d:Ac .u32 (nO .u32 (Ac .u32 (nO .u32 (Ac .u32 (nO .u32 (Ac .u32 (nO .u32 0 8) a) 8) b) 8) c) 8) d=Ac .u32 (Ac .u32 (Ac .u32 (nO .u32 a 24)<|nO .u32 b 16)<|nO .u32 c 8) d:=by
 refine ag3 (ML _ _) (ML _ _) ?_;have g:∀x,Bv (nO .u32 x 8)=Bv x <<< 8:=λx=>XT x 8 aD;have e:∀x,Bv (nO .u32 x 16)=Bv x <<< 16:=λx=>XT x 16 aD;have f:∀x,Bv (nO .u32 x 24)=Bv x <<< 24:=λx=>XT x 24 aD;simp only[ZE,g,e,f];simp[BitVec.shiftLeft_or_distrib]
def aT{a b}(h:a<b):aU a b=true:=by simp[aU,h]
def aC{a b}(h:b<=a):aU a b=false:=by simp[aU];omega
def bA{a b}(h:a<=b):cw a b=true:=by simp[cw,h]
def cR{a b}(h:b<a):cw a b=false:=by simp[cw];omega
def au{a b}(h:a=b):aG a b=true:=by simp[aG,h]
def ar{a b}(h:a≠b):aG a b=false:=by simp[aG,h]
def aE{i n}(a:0<=i)(b:i<n):within i n=true:=by simp[within,a,b]
def aL{i j n}(a:0<=i)(b:i<=j)(c:j<=n):inside i j n=true:=by simp[inside,a,b,c]
def dU{n}(h:n<=4294967296):fits n=true:=by simp[fits,h]
def ka{S} s:cl (aa (.inl s:S⊕(Nat×S)))=aa (.inl s):=rfl
def mK{S} n s:cl (aa (.inr (n,s):S⊕(Nat×S)))=aa (.inr s):=rfl
def fC{α}(l:List α) d {i} (h:i<l.length):idx l i=aa (l.getD i d):=by
 rw[se,ah1,fX h];rfl
def np{α}(l:List α) d {i:Int} {k:Nat} (e:i=k) (h:k<l.length):idx l i=aa (l.getD k d):=by subst e;exact fC l d h
def zJ{α}(l:List α)(i:Nat) x:ky l i x=l.set i x:=by simp[ky]
def va{d c R:Type}(a:Nat->c->d->Option (c⊕R))(b:Nat->c->R):List d->Nat->c->Option R
 | [],i,s=>aa (b i s)
 | x::r,i,s=>match a i s x with
   | none=>af
   | some (.inl e)=>va a b r (i+1) e
   | some (.inr y)=>aa y
def qc{α σ S R}{f:S->Option (S⊕R)}(l:List α)(j:σ->Nat->S) step fin (Inv:Nat->σ->Prop)
  (c:∀s i x,l[i]?=aa x->i<l.length->Inv i s->f (j s i)=(step i s x).map λq=>match q with|.inl d=>.inl (j d<|i+1)|.inr y=>.inr y)
  (hinv:∀s i x d,l[i]?=aa x->Inv i s->step i s x=aa (.inl d)->Inv (i+1) d)
  (k:∀s,Inv l.length s->f (j s l.length)=aa (.inr<|fin l.length s)) (e:∀s i x,l[i]?=aa x->Inv i s->step i s x≠af) :
  ∀s,Inv 0 s->Loop f (j s 0)=va step fin l 0 s:=by
 have key:∀b a s,l=a++b->Inv a.length s->Loop f (j s a.length)=va step fin b a.length s:=by
  intro b;induction b with
  | nil =>
    intro a s h g;rw[vl] at h;subst h;rw[aO,k s g];rfl
  | cons x r m =>
    intro a s h g;have hx:l[a.length]?=aa x:=by rw[h];simp
    rw[aO,c s a.length x hx (by rw[h];simp) g];unfold va;cases hs:step a.length s x with
    | none=>exact absurd hs (e s _ x hx g)
    | some q =>
      cases q with
      | inr y=>rfl
      | inl d =>
        have:=m (a++[x]) d (by rw[h];simp) (by rw[jt];exact hinv s _ x d hx g hs);rw[jt] at this;exact this
 intro s g;exact key l [] s rfl g
def AK{α}(i:Nat)(l:List α):aU i (len l)=decide (i<l.length):=by simp[aU,len]
def GA{α}(l:List α):aU 0 (len l)=decide (0<l.length):=AK 0 l
def wo{α}(i:Nat)(l:List α):cw (len l) i=decide (l.length<=i):=by simp[cw,len]
def GB{α β}(l:List α)(m:List β):aU (len l) (len m)=decide (l.length<m.length):=by simp[aU,len]
def MM{α β}(l:List α)(m:List β):cw (len l) (len m)=decide (l.length<=m.length):=by simp[cw,len]
def MN{α β}(l:List α)(m:List β):aG (len l) (len m)=decide (l.length=m.length):=by unfold len;apply gO.2;omega
def aH{α β}{l:List α}{m:List β}(h:l.length+m.length<=4294967296):fits (plus (len l)<|len m)=true:=by
 apply dU;simp only[plus,len];omega
def dw{α} c (x y:α):ak c x y=if c=true then x else y:=by cases c<;>rfl
def MO{α} p [Decidable p] (x y:α):ak (decide p) x y=if p then x else y:=by by_cases h:p<;>simp[ ak]
def uJ{a b}:br a b=decide (a=b):=rfl
def aY{a b}(h:a≠b):br a b=false:=by simp[br,h]
def ck{a b}(h:a=b):br a b=true:=by simp[br,h]
def D7{c n}:aG (u8 c) (n.toNat:Int)=decide (c=n):=by
 unfold aG u8;by_cases h:c=n
 .simp[h]
 .have:c.toNat≠n.toNat:=λe=>h (TM.1 e);simp[h];omega
def fV{α}(l:List α)(n:Nat):sub l 0 (minus n 0)=l.take n:=by
 unfold sub minus;simp
def Qi{α β}(l:List α)(m:List β):sub l 0 (minus (len m) 0)=l.take m.length:=fV l m.length
def jc{α}(l:List α) n (h:n<=l.length):sub l n (minus (len l) n)=l.drop n:=by
 unfold minus len;apply JG;rw[qU];omega
def cV:cK 0 0=true:=rfl
def gM:cK 1 0=false:=rfl
def av{α:Type}{l:List α}{i x}(h:l[i]?=aa x):i<l.length:=(hR.1 h).1
def sub_one{α}{l:List α}{i:Nat}{x}(h:l[i]?=aa x):sub l i (minus ((i+1:Nat):Int) i)=[x]:=by
 unfold sub minus;rw[show((i+1:Nat):Int)-i=1 by omega,vM];obtain⟨a,rfl⟩:=hR.1 h;rw[BK a];rfl
def XV{a b n:Nat}(h:a<=b)(k:b<=n):inside a b n=true:=aL ag ag ag
def jd{α a b}{l:List α}(h:a<=b)(k:b<=l.length):inside a b (len l)=true:=XV h k
def ao{α}{l:List α}{i:Nat}{x}(h:l[i]?=aa x):idx l i=aa x:=by rw[se,h]
def al{α}{l:List α}{i}(h:i<l.length):aU i (len l)=true:=by rw[AK,dn h]
def aq{α}{l:List α}:aU (l.length:Int) (len l)=false:=by rw[AK,cm ag]
def gX{α}(l m:List α):app l m=l++m:=rfl
def aik b:nt b=!b:=rfl
def bw{α}(l:List α):len l=(l.length:Int):=rfl
def ag5 y:fM [] y=decide (y≠[]):=by cases y<;>simp[fM,Op.bytesLess]
def aew x:fM x []=false:=by cases x<;>simp[fM,Op.bytesLess]
def GC a b x y:fM (a::x) (b::y)=(decide (a<b)||(a==b&&fM x y)):=by simp[fM,Op.bytesLess]
def ajb(a b:UInt8):a<b\/a=b\/b<a:=by
 rcases Ll a.toNat b.toNat with h|h|h
 .exact .inl h
 .exact .inr (.inl<|TM.1 h)
 .exact .inr (.inr h)
def tP:∀x,fM x x=false:=by
 intro x;induction x with
 | nil=>rfl
 | cons a x b=>rw[GC,b];simp
def Qj:∀{x y z},fM x y=true->fM y z=true->fM x z=true:=by
 intro x;induction x with
 | nil =>
   intro y z h k;cases z with
   | nil=>rw[aew] at k;cases k
   | cons c z=>rfl
 | cons a x d =>
   intro y z h k;cases y with
   | nil=>cases h
   | cons b y =>
     cases z with
     | nil=>cases k
     | cons c z =>
       rw[GC] at h k⊢;simp at h k⊢;rcases h with h|⟨rfl,h⟩
       .rcases k with k|⟨rfl,k⟩
        .exact .inl (UInt8.lt_trans h k)
        .exact .inl h
       .rcases k with k|⟨rfl,k⟩
        .exact .inl k
        .exact .inr ⟨rfl,d h k⟩
def GD:∀x y,fM x y=true\/x=y\/fM y x=true:=by
 intro x;induction x with
 | nil=>intro y;cases y<;>simp[ag5]
 | cons a x c =>
   intro y;cases y with
   | nil=>exact .inr (.inr rfl)
   | cons b y =>
     rw[GC,GC];simp only[Li,Ae,gz,beq_iff_eq];rcases ajb a b with h|rfl|h
     .exact .inl (.inl h)
     .rcases c y with h|rfl|h
      .exact .inl (.inr ⟨rfl,h⟩)
      .exact .inr (.inl rfl)
      .exact .inr (.inr<|.inr ⟨rfl,h⟩)
     .exact .inr (.inr<|.inl h)
def rD{x y}(h:fM x y=true):fM y x=false:=by
 cases k:fM y x with
 | false=>rfl
 | true=>have:=Qj h k;rw[tP] at this;cases this
def MP{x y}(h:fM x y=true):x≠y:=λe=>by rw[e,tP] at h;cases h
def XW x y:nt (oor (fM x y)<|br x y)=fM y x:=by
 rcases GD x y with h|rfl|h
 .rw[h,rD h];rfl
 .rw[zy,tP];rfl
 .rw[h,rD h,aY λe=>MP h e.symm];rfl
def XX(x y:bg):Int:=if fM x y=true then -1 else if x=y then 0 else 1
def cmpL:List bg->List bg->Int
 | [],[]=>0
 | [],_::_=>-1
 | _::_,[]=>1
 | a::x,b::y=>if a=b then cmpL x y else if fM a b=true then -1 else 1
def jP:∀x,cmpL x x=0:=by
 intro x;induction x with
 | nil=>rfl
 | cons a x b=>rw[cmpL,aN rfl];exact b
def HX:∀{x y},cmpL x y=0->x=y:=by
 intro x;induction x with
 | nil=>intro y h;cases y with|nil=>rfl|cons b y=>cases h
 | cons a x c =>
   intro y h;cases y with
   | nil=>cases h
   | cons b y =>
     rw[cmpL] at h;split at h
     .rename_i e;rw[e,c h]
     .split at h<;>cases h
def MQ:∀x y,cmpL x y=- cmpL y x:=by
 intro x;induction x with
 | nil=>intro y;cases y<;>rfl
 | cons a x c =>
   intro y;cases y with
   | nil=>rfl
   | cons b y =>
     rw[cmpL,cmpL];by_cases e:a=b
     .rw[aN e,aN e.symm,c y]
     .have d:¬b=a:=λq=>e q.symm;rw[aJ e,aJ d];rcases GD a b with h|h|h
      .rw[aN h,aJ (by rw[rD h];simp)]
      .exact absurd h e
      .rw[aJ<|by rw[rD h];simp,aN h];rfl
def mg:∀{x y z},cmpL x y<0->cmpL y z<0->cmpL x z<0:=by
 intro x;induction x with
 | nil =>
   intro y z h k;cases z with
   | nil=>cases y with|nil=>exact absurd k (by simp[cmpL])|cons b y=>exact absurd k (by simp[cmpL])
   | cons c z=>exact(by decide:(-1)<0)
 | cons a x j =>
   intro y z h k;cases y with
   | nil=>exact absurd h (by simp[cmpL])
   | cons b y =>
     cases z with
     | nil=>exact absurd k (by simp[cmpL])
     | cons c z =>
       rw[cmpL] at h k⊢;by_cases e:a=b
       .subst e;rw[aN rfl] at h;by_cases d:a=c
        .subst d;rw[aN rfl] at k⊢;exact j h k
        .rw[aJ d] at k⊢;exact k
       .rw[aJ e] at h;have g:fM a b=true:=by
         cases q:fM a b with
         | true=>rfl
         | false=>rw[q] at h;exact absurd h aD
        by_cases d:b=c
        .subst d;rw[aJ e];exact h
        .rw[aJ d] at k;have i:fM b c=true:=by
          cases q:fM b c with
          | true=>rfl
          | false=>rw[q] at k;exact absurd k aD
         have f:=Qj g i;rw[aJ<|MP f,aN f];decide
def Vb x r (h:r≠[]):cmpL x (x++r)=-1:=by
 induction x with
 | nil=>cases r with|nil=>exact absurd rfl h|cons a r=>rfl
 | cons a x b=>rw[Lh,cmpL,aN rfl];exact b
def aex{a b:Type}{x:List a}{y:List b}{i:Nat}{p}(h:(x.zip y)[i]?=aa p):x[i]?=aa p.1/\y[i]?=aa p.2:=by
 rw[ah2] at h;exact h
def Vc{c:Type}[DecidableEq c]:∀(x y:List c),(x.zip y).all (λp=>decide (p.1=p.2))=decide (x.take (min x.length y.length)=y.take (min x.length y.length)):=by
 intro x;induction x with
 | nil=>simp
 | cons a x d =>
   intro y;cases y with
   | nil=>simp
   | cons b y =>
     rw[List.zip_cons_cons,adk,d y];by_cases e:a=b
     .simp
     .simp
def Sz{a:Type}[DecidableEq a]{x y:List a}(h:x.length=y.length):(x.zip y).all (λp=>decide (p.1=p.2))=decide (x=y):=by
 rw[Vc,h,ado,yI,<-h,yI]
def ob{α β o x}{f:α->Option β}{r}(h:o=aa x)(k:f x=r):ae o f=r:=by rw[h];exact k
def MR{f:Type}(l:List f)(p:Nat->f->Bool) :
  (∃i x,l[i]?=aa x/\p i x=true/\∀j y,j<i->l[j]?=aa y->p j y=false)\/∀i x,l[i]?=aa x->p i x=false:=by
 by_cases h:∃i x,l[i]?=aa x/\p i x=true
 .left;have key:∀n i x,i<=n->l[i]?=aa x->p i x=true->∃i x,l[i]?=aa x/\p i x=true/\∀j y,j<i->l[j]?=aa y->p j y=false:=by
   intro n;induction n with
   | zero =>
     intro i x g a b;obtain rfl:i=0:=ag;exact⟨0,x,a,b,λj y d=>ag⟩
   | succ n m =>
     intro i x g a b;by_cases k:∃j y,j<i/\l[j]?=aa y/\p j y=true
     .obtain⟨j,y,d,e,c⟩:=k;exact m j y ag e c
     .refine⟨i,x,a,b,λj y d e=>?_⟩;cases c:p j y with
      | false=>rfl
      | true=>exact absurd ⟨j,y,d,e,c⟩ k
  obtain⟨i,x,a,b⟩:=h;exact key i i x (bX _) a b
 .right;intro i x a;cases c:p i x with
  | false=>rfl
  | true=>exact absurd ⟨i,x,a,c⟩ h
def eL{o S R:Type}{f}(l:List o)(b:Int->S)(p:Nat->o->Bool)(c:Nat->o->R) d (r:l.length<=4294967296)
  (a:∀i x,l[i]?=aa x->i<l.length->aw .i64 i 1=((i+1:Nat):Int)->f (b i)=aa (if p i x=true then .inr (c i x) else .inl (b ((i+1:Nat):Int))))
  (g:f (b (l.length:Int))=aa (.inr d)) :
  (∃i x,l[i]?=aa x/\p i x=true/\(∀j y,j<i->l[j]?=aa y->p j y=false)/\Loop f (b 0)=aa (c i x))\/((∀i x,l[i]?=aa x->p i x=false)/\Loop f (b 0)=aa d):=by
 have h:∀i x,l[i]?=aa x->p i x=false->f _=aa (.inl<|b _):=λi x e n=>by
  have hi:=av e;rw[a i x e hi<|az ag,n];rfl
 rcases MR l p with ⟨i,x,e,n,k⟩|hn
 .left;refine⟨i,x,e,n,k,?_⟩;have hi:=av e;refine cB i (λj=>b j) (λj q=>?_) ?_
  .have m:j<l.length:=ag;exact h j l[j] (fX m) (k j _ q<|fX m)
  .rw[a i x e hi<|az ag,n];rfl
 .right;refine⟨hn,cB l.length (λj=>b j) (λj k=>?_) g⟩;exact h j l[j] (fX k) (hn j _<|fX k)
def XY{o S R:Type}{f}(l:List o) n (mk:Int->S) (p:Nat->o->Bool) (a:Nat->o->R) (b:Nat->R) (t:min n l.length<=4294967296)
  (c:∀i x,l[i]?=aa x->i<l.length->i<n->aw .i64 i 1=((i+1:Nat):Int)->f (mk i)=aa (if p i x=true then .inr (a i x) else .inl (mk ((i+1:Nat):Int))))
  (d:f (mk ((min n l.length:Nat):Int))=aa (.inr<|b<|min n l.length)) :
  (∃i x,i<n/\l[i]?=aa x/\p i x=true/\(∀j y,j<i->l[j]?=aa y->p j y=false)/\Loop f (mk 0)=aa (a i x))\/((∀i x,i<n->l[i]?=aa x->p i x=false)/\Loop f (mk 0)=aa (b<|min n l.length)):=by
 have k:∀i x,(l.take n)[i]?=aa x↔(i<n/\l[i]?=aa x):=λi x=>by
  rw[jq];by_cases h:i<n
  .simp
  .simp
 have hlen:(l.take n).length=min n l.length:=dk;rcases eL _ mk p a _ (by rw[hlen];exact t) (λi x e s g=>by
  obtain⟨q,m⟩:=(k i x).1 e;exact c i x m (av m) q g) (by rw[hlen];exact d) with ⟨i,x,e,u,v,h⟩|⟨hn,h⟩
 .obtain⟨q,m⟩:=(k i x).1 e;exact .inl ⟨i,x,q,m,u,λj y r w=>v j y r ((k j y).2 ⟨ag,w⟩),h⟩
 .exact .inr ⟨λi x s e=>hn i x ((k i x).2 ⟨s,e⟩),h⟩
def rE{u k S R:Type}{f}(l:List u)(m:k->Int->S)(d:k->Nat->u->k)(h:k->R)(c:k->Nat->Prop)(D:l.length<=4294967296)
  (j:∀s i x,l[i]?=aa x->i<l.length->aw .i64 i 1=((i+1:Nat):Int)->c s i->f (m s i)=aa (.inl<|m (d s i x) ((i+1:Nat):Int))/\c (d s i x) (i+1))
  (n:∀s,c s l.length->f (m s (l.length:Int))=aa (.inr<|h s)) s (y:c s 0):∃t,c t l.length/\Loop f (m s 0)=aa (h t)/\t=(l.zipIdx).foldl (λa p=>d a p.2 p.1) s:=by
 have key:∀e b s,l=b++e->c s b.length->∃t,c t l.length/\Loop f (m s b.length)=aa (h t)/\t=(e.zipIdx b.length).foldl (λa p=>d a p.2 p.1) s:=by
  intro e;induction e with
  | nil =>
    intro b s g o;rw[vl] at g;subst g;exact⟨s,o,by rw[aO,n s o];rfl,rfl⟩
  | cons x r z =>
    intro b s g o;have hx:l[b.length]?=aa x:=by rw[g];simp
    have q:=av hx;obtain⟨A,B⟩:=j s b.length x hx q (az ag) o;obtain⟨t,C,v,w⟩:=z (b++[x]) _ (by rw[g];simp) (by rw[jt];exact B);rw[jt] at v w;exact⟨t,C,by rw[aO,A];exact v,w⟩
 exact key l [] s rfl y
def hM{e h S R:Type}{f:S->Option (S⊕R)}(l:List e)(b:List h->Int->S) g fin (k:l.length<=4294967296)
  (a:∀i x,l[i]?=aa x->i<l.length->aw .i64 i 1=((i+1:Nat):Int)->f (b ((l.take i).flatMap g) i)=aa (.inl<|b ((l.take i).flatMap g++g x) ((i+1:Nat):Int)))
  (c:f (b (l.flatMap g) (l.length:Int))=aa (.inr fin)):Loop f (b [] 0)=aa fin:=by
 refine cB l.length (λj=>b ((l.take j).flatMap g) j) (λj d=>?_) (by simp;exact c);have hx:=fX d;have:=a j l[j] hx d (az ag);rw[this,wN,hx,List.flatMap_append];simp
def cY{α}{l:List α}(h:l.length<=4294967296):fits (len l)=true:=aa2 h
def bq{a:Type}{l:List a}{x}:x∈l↔∃i:Nat,l[i]?=aa x:=by rw[PG]
abbrev Tx:=bg
abbrev Nm:=Tx×List Tx×aj
def OZ(l:List Tx)(s:Tx)(c:l.length<=4294967296):yo (l,s,())=aa (decide<|s∈l,()):=by
 unfold yo;rcases eL (f:=sx (l,s,())) l (λi=>((false,i,()),())) (λ_ x=>decide (x=s)) (λi x=>(1,(true,(i:Int),()),())) (0,(false,len l,()),()) c (λi x a b d=>by
  unfold sx;dsimp only;rw[al b,ai,ao a,ab,dw,d];by_cases h:x=s<;>simp[br,h]) (by unfold sx;dsimp only;rw[aq,ah];rfl) with ⟨i,x,a,e,g,h⟩|⟨hn,h⟩
 .rw[h,ab];have:s∈l:=by rw[<-fU e];exact bq.2 ⟨i,a⟩
  rw[dn this];rfl
 .rw[h,ab];have:s∉l:=λhs=>by
   obtain⟨i,b⟩:=bq.1 hs;have:=hn i s b;simp at this
  simp[this,cK,ak]
def GF(l:List Nm)(id:Tx):Int:=match l.findIdx? (λx=>decide (x.1=id)) with|some i=>(i:Int)|none=>-1
def Vd{l id}{i:Nat}{x}(b:l[i]?=aa x)(c:x.1=id)(d:∀j y,j<i->l[j]?=aa y->decide (y.1=id)=false):GF l id=i:=by
 unfold GF;have:l.findIdx? (λx=>decide (x.1=id))=aa i:=by
  rw[WK];obtain⟨e,rfl⟩:=hR.1 b;exact⟨e,by simp[c],λj a=>by have:=d j l[j] a (fX ag);simpa using this⟩
 rw[this]
def MS{l id}(a:∀(i:Nat) x,l[i]?=aa x->decide (x.1=id)=false):GF l id=-1:=by
 unfold GF;have:l.findIdx? (λx=>decide (x.1=id))=none:=by
  rw[YS];intro x b;obtain⟨i,c⟩:=bq.1 b;exact a i x c
 rw[this]
def MT(l:List Nm)(id:Tx)(b:l.length<=4294967296):wa (l,id,())=aa (GF l id,()):=by
 unfold wa;rcases eL (f:=qt (l,id,())) l (λi=>(((0:Int),i,()),())) (λ_ x=>decide (x.1=id)) (λi x=>(1,((i:Int),(i:Int),()),())) (0,((0:Int),len l,()),()) b (λi x a c d=>by
  unfold qt;dsimp only;rw[al c,ai,ao a,ab,dw,d];by_cases h:x.1=id<;>simp[br,h]) (by unfold qt;dsimp only;rw[aq,ah];rfl) with ⟨i,x,a,e,g,h⟩|⟨hn,h⟩
 .rw[h,ab,Vd a (fU e) g];rfl
 .rw[h,ab,MS hn];rfl
def MU(l:List Nm)(id:Tx)(b:l.length<=4294967296):v8 (l,id,())=aa (GF l id,()):=by
 unfold v8;rcases eL (f:=qq (l,_)) l (λi=>((0,i,()),id,())) (λ_ x=>decide (x.1=id)) (λi x=>(1,(i,i,()),id,())) _ b (λi x a c d=>by
  unfold qq;rw[al c,ai,ao a,ab,dw,d];by_cases h:x.1=id<;>simp[br,h]) (by unfold qq;rw[aq];rfl) with ⟨i,x,a,e,g,h⟩|⟨hn,h⟩
 .rw[h,Vd a (fU e) g];rfl
 .rw[h,MS hn];rfl
def Cj(l:List Tx)(s:Tx)(c:l.length<=4294967296):bD (l,s,())=aa (decide<|s∈l,()):=by
 unfold bD eN;rcases eL (f:=bV (l,s,())) l (λi=>((0,i,()),())) (λ_ x=>decide (x=s)) (λi x=>(1,(i,i,()),())) _ c (λi x a b d=>by
  unfold bV;rw[al b,ai,ao a,ab,dw,d];by_cases h:x=s
  .simp[br,h]
  .have g:¬s=x:=λe=>h e.symm;simp[br,h,g]) (by unfold bV;rw[aq];rfl) with ⟨i,x,a,j,k,h⟩|⟨hn,h⟩
 .rw[h];have:s∈l:=by rw[<-fU j];exact bq.2 ⟨i,a⟩
  rw[dn this];show aa (cw 0 i,())=_
  rw[bA ag]
 .rw[h];have:s∉l:=λhs=>by
   obtain⟨i,b⟩:=bq.1 hs;have:=hn i s b;simp at this
  simp[this,cK,ak,ae,cw]
def Small(l:List Nm):Prop:=l.length<=4294967296/\∀x∈l,x.2.1.length<=4294967296
set_option maxRecDepth 100000
def allowed:Tx:=[97,98,99,100,101,102,103,104,105,106,107,108,109,110,111,112,113,114,115,116,117,118,119,120,121,122,48,49,50,51,52,53,54,55,56,57,46,95,45]
def SA(c:UInt8):Bool:=allowed.contains c
def ik(s:Tx):Bool:=decide (1<=s.length)&&decide (s.length<=32)&&s.all SA
def ZF(a:Tx)(b:List Bool):List Bool:=(a.zipIdx).foldl (λt p=>ky t (u8 p.1) true) b
def ET:List Bool:=List.replicate 256 false
def akU c:u8 c<256:=by unfold u8;have:=c.toNat_lt;omega
def akV c:0<=u8 c:=by unfold u8;omega
def Qk c:within (u8 c) 256=true:=aE (akV c) (akU c)
def aey{t}(h:t.length=256) c:idx t (u8 c)=aa (t.getD c.toNat false):=np t false rfl (by have:=c.toNat_lt;omega)
def O0(a:Tx)(j:a.length<=4294967296)(k:∀c∈a,c<128):ek (a,())=aa (ZF a ET,true,()):=by
 unfold ek;obtain⟨t,o,l,m⟩:=rE (f:=ez (a,())) a (λt i=>((false,i,()),t,())) (λt i x=>ky t _ true) _ (λt _=>t.length=256) j
  (λt i x h n b e=>by
   refine⟨?_,by simp[ky,e]⟩;unfold ez;have d:u8 x<128:=by unfold u8;have:x.toNat<128:=(k x<|bq.2 ⟨i,h⟩);omega
   rw[al n,ai,ao h,ab,cR d,ah,Qk,ai,aey e,ab,ab,ab,b])
  (λt e=>by unfold ez;rw[aq];rfl) ET (by simp[ET])
 have g:Loop _ _=_:=l;rw[show(List.replicate 256 false)=ET from rfl,g];rw[m];rfl
def ajc c:(ZF allowed ET).getD c.toNat false=SA c:=by
 have key:∀n:Fin 256,(ZF allowed ET).getD n.val false=SA (UInt8.ofNat n.val):=by decide +kernel
 have:=key ⟨c.toNat,c.toNat_lt⟩;simp_all
def ZG:(ZF allowed ET).length=256:=by decide +kernel
def MV{t}(a:t.length=256) c:cM ((u8 c,()),t,())=aa ((t.getD c.toNat false,()),t,()):=by
 unfold cM;rw[Qk,ai,aey a,ab]
def SB{t}(a:t.length=256):∀(s:Tx),gH ((s,()),t,())=aa ((s.dropWhile<|λc=>t.getD c.toNat false,()),t,()):=by
 have key:∀s,Loop fm ((s,()),t,())=aa ((s.dropWhile<|λc=>t.getD c.toNat false,()),t,()):=by
  intro s;induction s with
  | nil =>
    rw[aO];rfl
  | cons c r b =>
    rw[aO];unfold fm;have hi:idx (c::r) 0=aa c:=rfl;rw[GA,hi,ab,MV a,ab,TG];cases d:t.getD c.toNat false with
    | false=>rfl
    | true =>
      rw[ aL aD (by simp[len];omega) (tc _)];have hs:sub (c::r) 1 (minus (len (c::r)) 1)=r:=by
       have:=jc (c::r) 1 aS
       grind
      rw[hs];show Loop fm _=_
      grind
 intro s;unfold gH;rw[key,ab]
def aez{α}{l:List α}(h:l.length<=4294967296):cH .i64 (len l) 1=(l.length:Int)-1:=dv (by simp only[len];omega) (by simp only[len];omega)
def O1{t}(b:t.length=256):∀n (s:Tx),s.length=n->n<=4294967296->dN ((s,()),t,())=aa (((s.reverse.dropWhile λc=>t.getD c.toNat false).reverse,()),t,()):=by
 have key:∀n s,s.length=n->n<=4294967296->Loop cN ((s,()),t,())=aa (((s.reverse.dropWhile λc=>t.getD c.toNat false).reverse,()),t,()):=by
  intro n;induction n with
  | zero =>
    intro s hs _;obtain rfl:=yG.1 hs;rw[aO];rfl
  | succ n d =>
    intro s hs hn;obtain⟨r,c,rfl⟩:∃r c,s=r++[c]:=⟨s.dropLast,s.getLast (by intro e;rw[e] at hs;simp at hs),(ahY _).symm⟩;rw[aO];unfold cN;have hlen:cH .i64 (len<|r++[c]) 1=r.length:=by rw[aez ag];simp
    have hi:idx (r++[c]) r.length=aa c:=by rw[se];simp
    rw[GA,show decide _=true from aS,hlen,hi,ab,MV b,ab,List.reverse_append,List.reverse_singleton,List.singleton_append,TG];cases f:t.getD c.toNat false with
    | false=>simp[nt,ak,cl]
    | true =>
      rw[ (aL aD ag<|by simp only[len,jt];omega)];have a:sub (r++[c]) 0 (minus r.length 0)=r:=by rw[fV];simp
      rw[a];show Loop cN _=_
      grind
 intro n s hs hn;unfold dN;rw[key n s hs hn,ab]
def dropWhile_nil{b:Type}{p}{l:List b}:l.dropWhile p=[]↔l.all p=true:=by
 induction l with
 | nil=>simp
 | cons a r c =>
   rw[TG]
   grind
def aeA{p}(s:Tx):((s.reverse.dropWhile p).reverse.dropWhile p=[])↔s.all p=true:=by
 constructor
 .intro h;rw[dropWhile_nil] at h;have a:s.reverse.all p=true:=by
   have e:s.reverse.takeWhile p++s.reverse.dropWhile p=s.reverse:=BA;rw[<-e,List.all_append];simp_all
  grind
 .intro h;have:s.reverse.dropWhile p=[]:=by rw[dropWhile_nil,List.all_reverse];exact h
  simp_all
def GG(s:Tx):mE (s,())=aa (ik s,()):=by
 unfold mE ik;have d:cw 1 (len s)=decide (1<=s.length):=by unfold len;apply gO.2;omega
 have f:cw (len s) 32=decide (s.length<=32):=by unfold len;apply gO.2;omega
 rw[d,f];by_cases a:1<=s.length
 .rw[dn a,ai];by_cases c:s.length<=32
  .rw[dn c,ai,show([97,98,99,100,101,102,103,104,105,106,107,108,109,110,111,112,113,114,115,116,117,118,119,120,121,122,48,49,50,51,52,53,54,55,56,57,46,95,45])=allowed from rfl];unfold iK;have hs:s≠[]:=by intro e;rw[e] at a;simp at a
   rw[aY hs,aI,ai,aY (show allowed≠[] by decide),ah,show aG _ 1=false from rfl,ah,ab,O0 allowed aD aD,ab];rw[ O1 ZG s.length s rfl ag,ab];rw[SB ZG];rw[(funext ajc)];show aa _=_
   have:=aeA (p:=SA) s;by_cases b:s.all SA=true
   .rw[ck<|this.2 b,b];rfl
   .rw[aY λe=>b (this.1 e)]
    grind
  .rw[cm c,ah,ab];simp
 .rw[cm a,ah,ah,ab];simp
def Ve(c:UInt8):Bool:=ak (ak (ak (ak (ak (nt<|aU (u8 c) 97) (aU 122<|u8 c) true) (ak (nt<|aU (u8 c) 48) (aU 57<|u8 c) true) false) (nt<|aG (u8 c) 46) false) (nt<|aG (u8 c) 95) false) (nt<|aG (u8 c) 45) false
def Vf c:Ve c=!SA c:=by
 have key:∀n:Fin 256,Ve (UInt8.ofNat n.val)=!SA (UInt8.ofNat n.val):=by decide +kernel
 have:=key ⟨c.toNat,c.toNat_lt⟩;simp_all
def Bi(s:Tx)(c:s.length<=4294967296):ot (s,())=aa (ik s,()):=by
 unfold ot ik;rcases eL (f:=nE (s,())) s (λi=>((false,i,()),())) (λ_ x=>Ve x) _ _ c (λi x a b d=>by
  unfold nE;rw[al b,ao a,d];show ak (Ve x) _ _=_
  cases Ve x<;>rfl) (by unfold nE;rw[aq];rfl) with ⟨i,x,a,e,k,h⟩|⟨hn,h⟩
 .rw[h];have:s.all SA=false:=by
   rw[Vf] at e
   grind
  rw[this,adg];rfl
 .rw[h];have:s.all SA=true:=by
   rw[vN];intro x a;obtain⟨i,b⟩:=bq.1 a;have:=hn i x b;rw[Vf] at this
   grind
  rw[this,adl];have g:cw 1 (len s)=decide (1<=s.length):=by unfold len;apply gO.2;omega
  have j:cw (len s) 32=decide (s.length<=32):=by unfold len;apply gO.2;omega
  rw[g,j];cases decide (1<=s.length)<;>rfl
end Go.Ge
namespace Go.Ge
variable [Lp]
open Go.Lib
def XZ(l:List Tx):(uZ l).Pairwise (λa b=>a<=b):=by
 have:=List.pairwise_mergeSort (le:=λx y=>decide (x<=y)) (λa b c h k=>by simp at h k⊢;exact List.le_trans h k) (λa b=>by simp;exact List.le_total a b) l;unfold uZ
 grind
def Vg(l:List Tx):(uZ l).Nodup↔l.Nodup:=(List.mergeSort_perm l _).nodup_iff
def Vh{m:List Tx}{j} a:keeps m.toArray j=decide (j=0\/m[j]≠m[j-1]'ag):=by
 unfold keeps
 grind
def SC(m:List Tx)(o:m.Pairwise λa b=>a<=b):(compact m).length<m.length↔¬m.Nodup:=by
 unfold compact compactUpTo;rw[yJ];have:((List.range m.length).filter<|keeps m.toArray).length<m.length↔∃x,x∈List.range m.length/\¬keeps m.toArray x=true:=by
  have:=List.length_filter_lt_length_iff_exists (p:=keeps m.toArray) (l:=List.range m.length)
  grind
 rw[this];constructor
 .rintro⟨j,c,f⟩ hn;have e:=Lk.1 c;rw[Vh e] at f;simp at f;have q:=Q9.1 hn (j-1) j ag e ag
  grind
 .intro hn;by_cases h:∃i j,∃(d:i<j) (c:j<m.length),m[i]'ag=m[j]
  .obtain⟨i,j,d,c,g⟩:=h;refine⟨j,Lk.2 c,?_⟩;rw[Vh c];have le:=λa b k n=>Q9.1 o a b ag n k;have k:m[j-1]'ag<=m[j]:=le _ j ag c;have n:m[j]<=m[j-1]'ag:=by
    grind
   grind
  .exfalso;apply hn;refine Q9.2 λi j r c d g=>h ⟨i,j,d,c,g⟩
def yw(l:List Tx):Bool:=l.all ik&&decide l.Nodup&&decide (l.length<=4)
def eT(l:List Tx):Int:=if yw l=true then 0 else 1
def vb(l:List Tx)(b:l.length<=4294967296):gm (l,())=aa (eT l,()):=by
 unfold gm;have d:nt (aU 4<|len l)=decide (l.length<=4):=by
  unfold nt aU len
  grind
 have e:aU (len<|compact<|uZ l) (len l)=!decide l.Nodup:=by
  have h:=SC _ (XZ l);rw[Qd,Vg] at h;unfold aU len
  grind
 have hs:e8 l ()=aa (uZ l):=by
  unfold e8;rw[cY b];rfl
 rw[cY b,hs];rcases eL (f:=oY (l,())) l (λi=>((0,i,()),())) (λ_ x=>!ik x) (λi x=>(1,(i,i,()),())) _ b (λi x a c g=>by
  unfold oY;rw[al c,ai,ao a,ab,GG,ab,aik,dw,g];by_cases h:ik x=true<;>simp[h]) (by unfold oY;rw[aq];rfl) with ⟨i,x,a,k,m,h⟩|⟨hn,h⟩
 .rw[h];have:l.all ik=false:=by
   grind
  have j:eT l=1:=by unfold eT yw;rw[this];rfl
  rw[j];show ak (ak _ _ true) _ _=_
  cases nt _<;>rfl
 .rw[h];have:l.all ik=true:=by
   rw[vN];intro x a;obtain⟨i,c⟩:=bq.1 a
   grind
  show ak (ak _ _ true) _ _=_
  rw[d,e];unfold eT yw;rw[this];cases decide l.Nodup<;>cases decide (l.length<=4)<;>rfl
def SD(l:List Tx)(C:l.length<=4294967296)(D:∀x∈l,x.length<=4294967296):uz (l,())=aa (yw l,()):=by
 unfold uz;have inner:∀r (i:Nat) x,l[i]?=aa x->(∃j y,j<i/\l[j]?=aa y/\y=x/\∃q,Loop (iC (l,()) ((r,(i:Int),()),())) ((r,(0:Int),()),())=aa (1,(false,q),()))\/((∀j y,j<i->l[j]?=aa y->y≠x)/\∃q,Loop (iC (l,()) ((r,(i:Int),()),())) ((r,0,()),())=aa (0,(r,q),())):=by
  intro r i x a;have hi:=av a;have g:min i l.length=i:=ag;rcases XY (f:=iC (l,()) ((r,i,()),())) l i (λj=>((r,j,()),())) (λ_ y=>decide (y=x)) (λj y=>(1,(false,j,()),())) _ ag (λj y m p b s=>by
   unfold iC;rw[aT<|show(j:Int)<i by omega,ai,ao m,ab,ao a,ab,dw,s];by_cases h:y=x<;>simp[br,h]) (by
   unfold iC;rw[g,aC (tc _),ah]) with ⟨j,y,b,m,e,_,h⟩|⟨hn,h⟩
  .grind
  .grind
 let bad:=λi x=>!ik x||(l.take i).contains x
 have c:∀i x,l[i]?=aa x->((l.take i).contains x=true↔∃j y,j<i/\l[j]?=aa y/\y=x):=by
  intro i x a;simp only[List.contains_eq_mem,Ae];rw[bq];constructor
  .grind
  .rintro⟨j,y,b,m,rfl⟩;exact⟨j,by rw[jq,aN b];exact m⟩
 rcases eL (f:=oZ (l,())) l (λi=>((false,i,()),())) bad (λi x=>(1,(false,i,()),())) _ C (λi x a hi s=>by
  unfold oZ;rw[al hi,ao a,ab,Bi x (D x<|bq.2 ⟨i,a⟩),ab];cases B:ik x with
  | false=>simp[bad,B,nt,ak]
  | true =>
    rcases inner false i x a with ⟨j,y,n,o,t,q,h⟩|⟨hn,q,h⟩
    .have d:=(c i x a).2 ⟨j,y,n,o,t⟩;rw[h];show aa _=_
     grind
    .have d:(l.take i).contains x=false:=by
      grind
     rw[h,s];simp only[bad,B,d];rfl) (by unfold oZ;rw[aq];rfl) with ⟨i,x,a,e,p,h⟩|⟨hn,h⟩
 .rw[h];have:yw l=false:=by
   unfold yw;simp only[bad,Li] at e;rcases e with e|e
   .grind
   .have:¬l.Nodup:=λu=>by
     obtain⟨j,y,n,o,t⟩:=(c i x a).1 e;obtain⟨v,k⟩:=hR.1 a;obtain⟨w,z⟩:=hR.1 o;exact Q9.1 u j i w v n (by rw[z,k,t])
    grind
  rw[this];rfl
 .rw[h];have n:l.all ik=true:=by
   rw[vN];intro x A;obtain⟨i,hi⟩:=bq.1 A
   grind
  have o:l.Nodup:=by
   refine Q9.2 λj i p hi b E=>?_;have F:=(c i l[i]<|fX hi).2 ⟨j,l[j],b,fX p,E⟩
   grind
  show aa _=_
  unfold yw;have:cw (len l) 4=decide (l.length<=4):=by unfold len;apply gO.2;omega
  grind
def oy(l:List Tx)(a:l.length<=4294967296)(b:∀x∈l,x.length<=4294967296):gn (l,())=aa (eT l,()):=by
 unfold gn;dsimp only;rw[SD l a b,ab];unfold eT;cases yw l<;>rfl
end Go.Ge
