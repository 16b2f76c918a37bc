import Derived.Test.YtgklgliokhbcnaaGreatDoorPlA
set_option linter.unusedSectionVars false
set_option linter.unusedVariables false
set_option linter.unusedSimpArgs false
set_option linter.defProp false
noncomputable section
open Option renaming some->aa,none->af
open Sum renaming inl->ay,inr->az
open Go.IntKind (i64)
namespace Go.Ge
variable [Lp]
set_option maxRecDepth 100000
abbrev dW:=(Sb×Int×Int×Sb×Sb×aj)
abbrev n6:=((Sb×Int×Int×Int×Int×Int×Int×Sb×aj)×Sb×aj)
abbrev CW:=((Sb×aj)⊕((Sb×aj)⊕(aj⊕((dW×aj)⊕aj))))
abbrev IL:=((List dW)×(List dW)×Int×Sb×Int×aj)
abbrev NH:=(Bool×Int×aj)
abbrev akd:=(Sb×Int×Int×Int×Int×Int×Int×Sb×aj)
abbrev IM:=((List dW)×Int×(List dW)×Int×aj)
abbrev IN:=(Sb×Bool×Int×aj)
abbrev Y9:=((List dW)×(List dW)×Int×Int×aj)
abbrev qs:=((List dW)×Int×aj)
abbrev Tv:=(Sb×(List n6)×Bool×aj×aj)
abbrev Tw:=(Nat×NH×aj)
abbrev D3:=(bb×(Int×(Int×(bb×(bb×aj)))))
abbrev Tz:=((List CW)×Bool×aj×Int×aj)
abbrev TA:=(Bool×Sb×Int×aj)
abbrev TB:=(NH×aj)
abbrev LN:=(Sb×aj)
abbrev TC:=(aj×Sb×Int×aj)
def ir(c:(List Sb)×aj)(a:TC×(List dW)×aj):Option ((TC×(List dW)×aj)⊕(TC×(List dW)×aj)) :=
 cr (ak (aL a.1.2.2.1<|len c.1)
 (ae (idx c.1 a.1.2.2.1) λd=>ae (pG (a.1.2.1,d,())) λb=>ak (fits<|plus (len a.2.1)<|len ([(b.1,(2:Int),(0:Int),([]:bb),([]:bb),())]:List dW))
 (aa<|ay (((),b.1,aw i64 a.1.2.2.1 1,()),app a.2.1 [(b.1,(2:Int),(0:Int),([]:bb),([]:bb),())],())) af)
 (aa<|az (0,((),a.1.2.1,a.1.2.2.1,()),a.2.1,())))
def eA(x:dW×aj):Option (Bool×aj) :=
 ae (gA (x.1.1,())) (λb=>ae (fw (b.1,())) λc=>ae (Loop (ir c) (((),[],0,()),[],())) λa=>ak (nt<|bg x.1.1 [])
 (ak (fits<|plus (len a.2.1)<|len [x.1])
 (ae (ez (app a.2.1 ([x.1]:List dW),())) λd=>aa (aD d.1 0,())) af)
 (aa (false,())))
def np(x:Sb×aj):Option (Bool×aj) :=
 ae (ak (nt<|bg x.1 [])
 (ae (eA ((x.1,2,0,[],[],()),())) λa=>aa a.1) (aa true)) (λa=>aa (a,()))
def jL(x:LN×(List dW)×aj):Option ((List dW)×aj) :=ae (vo (x.2.1,x.1.1,())) (λa=>aa (a.1,()))
def wU(x:LN×(List dW)×aj):Option qs :=aa (x.2.1,0,())
def gY(x:LN×(List dW)×aj):Option ((List dW)×aj) :=ae (xj (x.2.1,x.1.1,())) (λa=>aa (a.1,()))
def uw(x:LN×(List dW)×aj):Option qs :=aa (x.2.1,0,())
def ux(x:aj×(List dW)×aj):Option ((List dW)×aj) :=aa (x.2.1,())
def wV(x:aj×(List dW)×aj):Option qs :=aa (x.2.1,0,())
def uy(x:(dW×aj)×(List dW)×aj):Option ((List dW)×aj) :=aa (x.2.1,())
def fG(d:(List Sb)×aj)(a:IL×aj):Option ((IL×aj)⊕(Nat×IL×aj)) :=
 ak (aL a.1.2.2.2.2.1<|len d.1) (ae (idx d.1 a.1.2.2.2.2.1) λf=>ae (pG (a.1.2.2.2.1,f,())) λb=>ae (zm (a.1.1,b.1,())) λe=>ak (ak e.2.1
 (aD e.1.2.1 2) false)
 (aa<|ay ((a.1.1,a.1.2.1,a.1.2.2.1,b.1,aw i64 a.1.2.2.2.2.1 1,()),())) (ae (uK (a.1.1,(b.1,2,493,[],[],()),())) λc=>ak (nt<|aD c.2.1 0)
 (aa<|az (1,(a.1.1,[],c.2.1,b.1,a.1.2.2.2.2.1,()),())) (aa<|ay ((c.1,a.1.2.1,a.1.2.2.1,b.1,aw i64 a.1.2.2.2.2.1 1,()),()))))
 (aa<|az (0,(a.1.1,a.1.2.1,a.1.2.2.1,a.1.2.2.2.1,a.1.2.2.2.2.1,()),()))
def lz(x:(dW×aj)×(List dW)×aj):Option qs :=
 ae (gA (x.1.1.1,())) (λc=>ae (fw (c.1,())) λd=>ae (Loop (fG d) ((x.2.1,[],0,[],0,()),())) λa=>ak (cm a.1 0)
 (ae (uK (a.2.1.1,x.1.1,())) λb=>aa (b.1,b.2.1,())) (aa (a.2.1.2.1,a.2.1.2.2.1,())))
def tk(x:n6×aj):Option (CW×Bool×aj) :=
 ae (qB (x.1.1.1,())) (λb=>ak (nt<|aD b.2.1 0)
 (aa ((az<|az<|az<|az ()),false,())) (ae (gA (b.1,())) λc=>ae (td (c.2.1,())) λd=>ak (aD d.1 1)
 (ae (pG (c.1,d.2.1,())) λa=>ae (ak (ak (aD x.1.1.2.1 1)
 (bg x.1.2.1 []) false)
 (ae (np (a.1,())) λe=>aa e.1) (aa false)) λe=>aa ((ay (a.1,())),e,()))
 (ak (aD d.1 2)
 (ae (ak (ak (aD x.1.1.2.1 1)
 (bg x.1.2.1 []) false)
 (ae (np (c.1,())) λa=>aa a.1) (aa false)) λa=>aa ((az<|ay (c.1,())),a,()))
 (ak (aD d.1 3)
 (aa ((az<|az<|az<|az ()),false,())) (ak (ak (bg b.1 [])
 (aD x.1.1.2.1 2) false)
 (aa ((az<|az<|ay ()),true,())) (ae (eA ((b.1,x.1.1.2.1,x.1.1.2.2.1,x.1.2.1,x.1.1.2.2.2.2.2.2.2.1,()),())) λa=>aa ((az<|az<|az<|ay ((b.1,x.1.1.2.1,x.1.1.2.2.1,x.1.2.1,x.1.1.2.2.2.2.2.2.2.1,()),())),a.1,())))))))
def mI(x:(List n6)×aj)(a:Tz×(List CW)×aj):Option ((Tz×(List CW)×aj)⊕(Nat×Tz×(List CW)×aj)) :=
 ak (aL a.1.2.2.2.1<|len x.1) (ae (idx x.1 a.1.2.2.2.1) λc=>ae (tk (c,())) λb=>ak (nt b.2.1)
 (aa<|az (1,([],false,(),a.1.2.2.2.1,()),a.2.1,())) (ak (fits<|plus (len a.2.1)<|len [b.1])
 (aa<|ay ((a.1.1,a.1.2.1,(),aw i64 a.1.2.2.2.1 1,()),app a.2.1 [b.1],())) af))
 (aa<|az (0,(a.1.1,a.1.2.1,(),a.1.2.2.2.1,()),a.2.1,()))
def nq(x:(List n6)×aj):Option ((List CW)×Bool×aj) :=
 ae (Loop (mI x) (([],false,(),0,()),[],())) (λa=>ak (cm a.1 0)
 (aa (a.2.2.1,true,())) (aa (a.2.1.1,a.2.1.2.1,())))
def xn(x:(((bb×aj)⊕((bb×aj)⊕(aj⊕((D3×aj)⊕aj))))×((List D3)×aj))):Option ((List D3)×aj) :=(λz=>pick (λy=>jL (y,x.2)) (λz=>pick (λy=>gY (y,x.2)) (λz=>pick (λy=>ux (y,x.2)) (λz=>pick (λy=>uy (y,x.2)) (λ_=>af) z) z) z) z) x.1
def Bn(x:(((bb×aj)⊕((bb×aj)⊕(aj⊕((D3×aj)⊕aj))))×((List D3)×aj))):Option ((List D3)×(Int×aj)) :=(λz=>pick (λy=>wU (y,x.2)) (λz=>pick (λy=>uw (y,x.2)) (λz=>pick (λy=>wV (y,x.2)) (λz=>pick (λy=>lz (y,x.2)) (λ_=>af) z) z) z) z) x.1
def lX(b:(List CW)×Bool×aj)(a:qs×aj):Option ((qs×aj)⊕(qs×aj)) :=
 cr (ak (aL a.1.2.1<|len b.1)
 (ae (idx b.1 a.1.2.1) λc=>ae (xn (c,a.1.1,())) λd=>aa (ay ((d.1,aw i64 a.1.2.1 1,()),()))) (aa<|az (0,(a.1.1,a.1.2.1,()),())))
def lY(c:(List CW)×Bool×aj)(a:IM×aj):Option ((IM×aj)⊕(Nat×IM×aj)) :=
 ak (aL a.1.2.2.2.1<|len c.1) (ae (idx c.1 a.1.2.2.2.1) λd=>ae (Bn (d,a.1.2.2.1,())) λb=>ak (nt<|aD b.2.1 0)
 (aa<|az (1,([],b.2.1,a.1.2.2.1,a.1.2.2.2.1,()),())) (aa<|ay ((a.1.1,a.1.2.1,b.1,aw i64 a.1.2.2.2.1 1,()),())))
 (aa<|az (0,(a.1.1,a.1.2.1,a.1.2.2.1,a.1.2.2.2.1,()),()))
def vq(x:(List dW)×(List n6)×aj):Option qs :=
 ae (ez (x.1,())) (λc=>ak (nt<|aD c.1 0)
 (aa ([],1,())) (ae (nq (x.2.1,())) λb=>ak (nt b.2.1)
 (aa ([],10,())) (ak (fits<|plus (len ([]:List dW))<|len x.1)
 (ae (Loop (lX b) ((app [] x.1,0,()),())) λd=>ae (Loop (lY b) (([],0,d.1.1,0,()),())) λa=>ak (cm a.1 0)
 (aa (a.2.1.2.2.1,0,())) (aa (a.2.1.1,a.2.1.2.1,())))
 af)))
def hS(x:Sb×aj):Option (Int×aj) :=
 ae (gr (x.1,())) (λa=>ae (nq (a.1,())) λb=>ak (ak (nt<|nt<|aD a.2.1 0)
 (nt b.2.1) true)
 (aa (10,())) (aa (0,())))
def tl(x:n6×Sb×aj):Option (dW×aj) :=aa ((x.2.1,x.1.1.2.1,x.1.1.2.2.1,x.1.2.1,x.1.1.2.2.2.2.2.2.2.1,()),())
def gZ(c:(List Sb)×aj)(a:TA×aj):Option ((TA×aj)⊕(Nat×TA×aj)) :=
 ak (aL a.1.2.2.1<|len c.1) (ae (idx c.1 a.1.2.2.1) λd=>ae (pH (a.1.2.1,d,())) λb=>ae (mu ((b.1,2,0,[],[],()),())) λe=>ak (nt e.1)
 (aa<|az (1,(false,b.1,a.1.2.2.1,()),())) (aa<|ay ((a.1.1,b.1,aw i64 a.1.2.2.1 1,()),())))
 (aa<|az (0,(a.1.1,a.1.2.1,a.1.2.2.1,()),()))
def lZ(x:Sb×aj):Option (Bool×aj) :=
 ae (ep (x.1,())) (λb=>ae (Loop (gZ b) ((false,[],0,()),())) λa=>ak (cm a.1 0)
 (aa (nt<|bg x.1 [],())) (aa (a.2.1.1,())))
def pK(x:n6×aj):Option (Int×Sb×Bool×aj) :=
 ae (vk (x.1.1.1,())) (λc=>ak (nt<|aD c.2.1 0)
 (aa (0,[],false,())) (ae (kW (c.1,())) λd=>ae (tf (d.2.1,())) λb=>ak (aD b.1 1)
 (ae (pH (d.1,b.2.1,())) λa=>ae (ak (ak (aD x.1.1.2.1 1)
 (bg x.1.2.1 []) false)
 (ae (lZ (a.1,())) λe=>aa e.1) (aa false)) λe=>aa (b.1,a.1,e,()))
 (ak (aD b.1 2)
 (ae (ak (ak (aD x.1.1.2.1 1)
 (bg x.1.2.1 []) false)
 (ae (ak (nt<|bg d.1 [])
 (ae (lZ (d.1,())) λa=>aa a.1) (aa true)) λa=>aa a)
 (aa false)) λa=>aa (b.1,d.1,a,()))
 (ak (aD b.1 0)
 (ae (ak (nt<|ak (bg c.1 [])
 (aD x.1.1.2.1 2) false)
 (ae (tl (x.1,c.1,())) λa=>ae (mu (a.1,())) λe=>ae (ak e.1
 (ae (lZ (c.1,())) λf=>aa f.1) (aa false)) λf=>aa f)
 (aa true)) λa=>aa (b.1,c.1,a,()))
 (aa (0,[],false,()))))))
def pL(x:(List n6)×aj)(a:NH×aj):Option (TB⊕Tw) :=
 ak (aL a.1.2.1<|len x.1) (ae (idx x.1 a.1.2.1) λb=>ae (pK (b,())) λc=>ak (nt c.2.2.1)
 (aa<|az (1,(false,a.1.2.1,()),())) (aa<|ay ((a.1.1,aw i64 a.1.2.1 1,()),())))
 (aa<|az (0,(a.1.1,a.1.2.1,()),()))
def qE(x:(List n6)×aj):Option (Bool×aj) :=
 ae (Loop (pL x) ((false,0,()),())) (λa=>ak (cm a.1 0)
 (aa (true,())) (aa (a.2.1.1,())))
def nr(d:(List Sb)×aj)(a:IL×aj):Option ((IL×aj)⊕(Nat×IL×aj)) :=
 ak (aL (aw i64 a.1.2.2.2.2.1 1)<|len d.1) (ae (idx d.1 a.1.2.2.2.2.1) λf=>ae (pH (a.1.2.2.2.1,f,())) λb=>ae (pJ (a.1.1,b.1,())) λe=>ak (ak e.2.1
 (aD e.1.2.1 2) false)
 (aa<|ay ((a.1.1,a.1.2.1,a.1.2.2.1,b.1,aw i64 a.1.2.2.2.2.1 1,()),())) (ae (oV (a.1.1,(b.1,2,493,[],[],()),())) λc=>ak (nt<|aD c.2.1 0)
 (aa<|az (1,(a.1.1,[],c.2.1,b.1,a.1.2.2.2.2.1,()),())) (aa<|ay ((c.1,a.1.2.1,a.1.2.2.1,b.1,aw i64 a.1.2.2.2.2.1 1,()),()))))
 (aa<|az (0,(a.1.1,a.1.2.1,a.1.2.2.1,a.1.2.2.2.1,a.1.2.2.2.2.1,()),()))
def xo(x:(List dW)×Sb×aj):Option qs :=
 ae (ep (x.2.1,())) (λb=>ae (Loop (nr b) ((x.1,[],0,[],0,()),())) λa=>ak (cm a.1 0)
 (aa (a.2.1.1,0,())) (aa (a.2.1.2.1,a.2.1.2.2.1,())))
def oX(x:(List dW)×(List n6)×aj)(a:qs×aj):Option ((qs×aj)⊕(qs×aj)) :=
 cr (ak (aL a.1.2.1<|len x.2.1)
 (ae (idx x.2.1 a.1.2.1) λd=>ae (pK (d,())) λc=>ae (ak (aD c.1 1)
 (ae (ti (a.1.1,c.2.1,())) λb=>aa ((b.1,()),())) (ae (ak (aD c.1 2)
 (ae (vp (a.1.1,c.2.1,())) λb=>aa ((b.1,()),())) (aa ((a.1.1,()),()))) λb=>aa ((b.1.1,()),()))) λb=>aa (ay ((b.1.1,aw i64 a.1.2.1 1,()),())))
 (aa<|az (0,(a.1.1,a.1.2.1,()),())))
def oY(x:(List dW)×(List n6)×aj)(a:Y9×aj):Option ((Y9×aj)⊕(Nat×Y9×aj)) :=
 ak (aL a.1.2.2.2.1<|len x.2.1) (ae (idx x.2.1 a.1.2.2.2.1) λe=>ae (pK (e,())) λc=>ak (ak (nt<|nt<|aD c.1 0)
 (bg c.2.1 []) true)
 (aa<|ay ((a.1.1,a.1.2.1,a.1.2.2.1,aw i64 a.1.2.2.2.1 1,()),())) (ae (xo (a.1.1,c.2.1,())) λd=>ak (nt<|aD d.2.1 0)
 (aa<|az (1,(a.1.1,[],d.2.1,a.1.2.2.2.1,()),())) (ae (idx x.2.1 a.1.2.2.2.1) λf=>ae (tl (f,c.2.1,())) λg=>ae (oV (d.1,g.1,())) λb=>ak (nt<|aD b.2.1 0)
 (aa<|az (1,(a.1.1,[],b.2.1,a.1.2.2.2.1,()),())) (aa<|ay ((b.1,a.1.2.1,a.1.2.2.1,aw i64 a.1.2.2.2.1 1,()),())))))
 (aa<|az (0,(a.1.1,a.1.2.1,a.1.2.2.1,a.1.2.2.2.1,()),()))
def zn(x:(List dW)×(List n6)×aj):Option qs :=
 ae (jd (x.1,())) (λb=>ak (nt b.1)
 (aa ([],1,())) (ae (qE (x.2.1,())) λc=>ak (nt c.1)
 (aa ([],10,())) (ae (Loop (oX x) ((x.1,0,()),())) λd=>ae (Loop (oY x) ((d.1.1,[],0,0,()),())) λa=>ak (cm a.1 0)
 (aa (a.2.1.1,0,())) (aa (a.2.1.2.1,a.2.1.2.2.1,())))))
def kb(x:(List dW)×Sb×aj):Option qs :=
 ae (gr (x.2.1,())) (λb=>ae (ak (nt<|aD b.2.1 0)
 (ae (ez (x.1,())) λa=>aa (aD a.1 0)) (aa false)) λa=>ak a
 (aa ([],10,())) (ae (vq (x.1,b.1,())) λc=>aa (c.1,c.2.1,())))
def rb(x:Sb×aj)(a:NH×aj):Option (TB⊕Tw) :=
 ak (aL a.1.2.1<|len x.1) (ae (idx x.1 a.1.2.1) λb=>ak (nt<|aD (u8 b) 0)
 (aa<|az (1,(false,a.1.2.1,()),())) (aa<|ay ((a.1.1,aw i64 a.1.2.1 1,()),())))
 (aa<|az (0,(a.1.1,a.1.2.1,()),()))
def xp(x:Sb×aj):Option (Bool×aj) :=
 ae (Loop (rb x) ((false,0,()),())) (λa=>ak (cm a.1 0)
 (aa (aD (len x.1) 512,())) (aa (a.2.1.1,())))
def re(x:Sb×aj)(a:NH×aj):Option (TB⊕Tw) :=
 ak (aL a.1.2.1<|len x.1) (ae (idx x.1 a.1.2.1) λb=>ak (nt<|aD (u8 b) 0)
 (aa<|az (1,(false,a.1.2.1,()),())) (aa<|ay ((a.1.1,aw i64 a.1.2.1 1,()),())))
 (aa<|az (0,(a.1.1,a.1.2.1,()),()))
def xq(x:Sb×aj):Option (Bool×aj) :=
 ae (ak (nt<|aL (len x.1) 1024)
 (ak (aD 512 0)
 af (aa<|nt<|aD (gx (len x.1) 512) 0))
 (aa true)) (λb=>ak b (aa (false,())) (ae (Loop (re x) ((false,0,()),())) λa=>ak (cm a.1 0)
 (aa (true,())) (aa (a.2.1.1,()))))
def oi(x:Sb×aj)(a:(Int×aj)×aj):Option (((Int×aj)×aj)⊕((Int×aj)×aj)) :=
 cr (ae (ak (aL a.1.1<|len x.1)
 (ae (idx x.1 a.1.1) λb=>aa (cl 48<|u8 b)) (aa false)) λb=>ae (ak b (ae (idx x.1 a.1.1) λc=>aa (cl (u8 c) 55)) (aa false)) λc=>ak c
 (aa<|ay ((aw i64 a.1.1 1,()),())) (aa<|az (0,(a.1.1,()),())))
def oj(x:Sb×aj)(a:(Int×Int×aj)×aj):Option (((Int×Int×aj)×aj)⊕(Nat×(Int×Int×aj)×aj)) :=
 ak (aL a.1.2.1<|len x.1) (ae (idx x.1 a.1.2.1) λc=>ae (ak (nt<|aD (u8 c) 0)
 (ae (idx x.1 a.1.2.1) λb=>aa (nt<|aD (u8 b) 32)) (aa false)) λb=>ak b
 (aa<|az (1,((-1),a.1.2.1,()),())) (aa<|ay ((a.1.1,aw i64 a.1.2.1 1,()),())))
 (aa<|az (0,(a.1.1,a.1.2.1,()),()))
def fH(x:Sb×aj):Option (Int×aj) :=
 ae (Loop (oi x) ((0,()),())) (λa=>ak (aD a.1.1<|len x.1)
 (aa ((-1),())) (ae (Loop (oj x) ((0,a.1.1,()),())) λb=>ak (cm b.1 0)
 (ak (inside 0 a.1.1<|len x.1)
 (ae (oe (sub x.1 0<|minus a.1.1 0,())) λc=>ak (nt c.2.1)
 (aa ((-1),())) (aa (c.1,())))
 af)
 (aa (b.2.1.1,()))))
def hU(x:Sb×aj)(a:IN×aj):Option ((IN×aj)⊕(Nat×IN×aj)) :=
 ak (aL a.1.2.2.1<|len x.1) (ae (idx x.1 a.1.2.2.1) λb=>ak (nt<|aD (u8 b) 0)
 (aa<|az (1,([],false,a.1.2.2.1,()),())) (aa<|ay ((a.1.1,a.1.2.1,aw i64 a.1.2.2.1 1,()),())))
 (aa<|az (0,(a.1.1,a.1.2.1,a.1.2.2.1,()),()))
def dS(x:Sb×aj)(a:IN×aj):Option ((IN×aj)⊕(Nat×IN×aj)) :=
 ak (aL a.1.2.2.1<|len x.1) (ae (idx x.1 a.1.2.2.1) λc=>ak (aD (u8 c) 0)
 (ae (Loop (hU x) ((a.1.1,a.1.2.1,a.1.2.2.1,()),())) λb=>ak (cm b.1 0)
 (ak (inside 0 a.1.2.2.1<|len x.1)
 (aa<|az (1,(sub x.1 0<|minus a.1.2.2.1 0,true,a.1.2.2.1,()),())) af)
 (aa<|az (1,(b.2.1.1,b.2.1.2.1,a.1.2.2.1,()),())))
 (aa<|ay ((a.1.1,a.1.2.1,aw i64 a.1.2.2.1 1,()),())))
 (aa<|az (0,(a.1.1,a.1.2.1,a.1.2.2.1,()),()))
def pM(x:Sb×aj):Option (Sb×Bool×aj) :=
 ae (Loop (dS x) (([],false,0,()),())) (λa=>ak (cm a.1 0)
 (aa (x.1,true,())) (aa (a.2.1.1,a.2.1.2.1,())))
def pN(x:Sb×aj):Option (akd×Int×aj) :=
 ae (ak (nt<|nt<|aD (len x.1) 512)
 (ak (inside 257 265<|len x.1)
 (aa<|nt<|bg (sub x.1 257<|minus 265 257) [117,115,116,97,114,0,48,48]) af)
 (aa true)) (λm=>ae (ak (nt m)
 (ak (inside 148 156<|len x.1)
 (ae (fH (sub x.1 148<|minus 156 148,())) λg=>ae (zl (x.1,())) λd=>aa (nt<|aD g.1 d.1)) af)
 (aa true)) λg=>ak g
 (aa (([],0,0,0,0,0,0,[],()),2,())) (ak (inside 0 100<|len x.1)
 (ae (pM (sub x.1 0<|minus 100 0,())) λd=>ak (inside 157 257<|len x.1)
 (ae (pM (sub x.1 157<|minus 257 157,())) λh=>ak (inside 345 500<|len x.1)
 (ae (pM (sub x.1 345<|minus 500 345,())) λe=>ak (inside 100 108<|len x.1)
 (ae (fH (sub x.1 100<|minus 108 100,())) λi=>ak (inside 108 116<|len x.1)
 (ae (fH (sub x.1 108<|minus 116 108,())) λj=>ak (inside 116 124<|len x.1)
 (ae (fH (sub x.1 116<|minus 124 116,())) λk=>ak (inside 124 136<|len x.1)
 (ae (fH (sub x.1 124<|minus 136 124,())) λl=>ak (inside 136 148<|len x.1)
 (ae (fH (sub x.1 136<|minus 148 136,())) λf=>ae (ak (nt<|bg e.1 [])
 (ak (fits<|plus (len e.1)<|len ([47]:bb))
 (ak (fits<|plus (len<|app e.1 [47])<|len d.1)
 (aa ((),(app (app e.1 [47]) d.1,0,i.1,j.1,k.1,l.1,f.1,[],()),())) af)
 af)
 (aa ((),(d.1,0,i.1,j.1,k.1,l.1,f.1,[],()),()))) λa=>ae (idx x.1 156) λb=>ae (ak (nt<|ak (nt<|ak (nt<|nt d.2.1)
 (nt h.2.1) true)
 (nt e.2.1) true)
 (ae (wa (((ak (((ak (aD (u8 b) 48)
 ((aD (u8 b) 48,()),()) ((aD (u8 b) 0,()),())).1).1)
 ((),(a.2.1.1,1,a.2.1.2.2),()) ((),((ak (aD (u8 b) 53)
 ((),(a.2.1.1,2,a.2.1.2.2),()) ((),((ak (aD (u8 b) 50)
 ((),(a.2.1.1,3,a.2.1.2.2.1,a.2.1.2.2.2.1,a.2.1.2.2.2.2.1,a.2.1.2.2.2.2.2.1,a.2.1.2.2.2.2.2.2.1,h.1,a.2.1.2.2.2.2.2.2.2.2),()) ((),a.2.1,())).2).1,())).2).1,())).2).1,256,())) λc=>aa (nt c.1))
 (aa true)) λc=>ak c
 (aa (([],0,0,0,0,0,0,[],()),2,())) (aa (((ak (((ak (aD (u8 b) 48)
 ((aD (u8 b) 48,()),()) ((aD (u8 b) 0,()),())).1).1)
 ((),(a.2.1.1,1,a.2.1.2.2),()) ((),((ak (aD (u8 b) 53)
 ((),(a.2.1.1,2,a.2.1.2.2),()) ((),((ak (aD (u8 b) 50)
 ((),(a.2.1.1,3,a.2.1.2.2.1,a.2.1.2.2.2.1,a.2.1.2.2.2.2.1,a.2.1.2.2.2.2.2.1,a.2.1.2.2.2.2.2.2.1,h.1,a.2.1.2.2.2.2.2.2.2.2),()) ((),a.2.1,())).2).1,())).2).1,())).2).1,0,())))
 af)
 af)
 af)
 af)
 af)
 af)
 af)
 af))
def eB(a:Tv×(List n6)×aj):Option ((Tv×(List n6)×aj)⊕(Nat×Tv×(List n6)×aj)) :=
 ak (cl 512<|len a.1.1) (ak (inside 0 512<|len a.1.1)
 (ae (xp (sub a.1.1 0<|minus 512 0,())) λe=>ak e.1
 (ae (xq (a.1.1,())) λb=>aa (az (1,(a.1.1,a.2.1,b.1,(),()),a.2.1,()))) (ak (inside 0 512<|len a.1.1)
 (ae (pN (sub a.1.1 0<|minus 512 0,())) λb=>ae (ak (nt<|ak (nt<|nt<|aD b.2.1 0)
 (aL 8192 b.1.2.2.2.2.2.1) true)
 (ae (nO (b.1.2.2.2.2.2.1,())) λc=>aa (aL (len a.1.1)<|aw i64 512 c.1)) (aa true)) λc=>ak (ak (nt c) (cl 64<|len a.2.1) true)
 (aa<|az (1,(a.1.1,a.2.1,false,(),()),a.2.1,())) (ak (inside 512 (aw i64 512 b.1.2.2.2.2.2.1)<|len a.1.1)
 (ak (fits<|plus (len a.2.1)<|len ([(b.1,sub a.1.1 (512:Int)<|minus (aw i64 512 b.1.2.2.2.2.2.1) 512,())]:List n6))
 (ae (nO (b.1.2.2.2.2.2.1,())) λd=>ak (inside (aw i64 512 d.1) (len a.1.1)<|len a.1.1)
 (aa<|ay ((sub a.1.1 (aw i64 512 d.1)<|minus (len a.1.1)<|aw i64 512 d.1,a.1.2.1,a.1.2.2.1,(),()),app a.2.1 [(b.1,sub a.1.1 (512:Int)<|minus (aw i64 512 b.1.2.2.2.2.2.1) 512,())],())) af)
 af)
 af))
 af))
 af)
 (aa<|az (0,(a.1.1,a.1.2.1,a.1.2.2.1,(),()),a.2.1,()))
def vr(x:Sb×aj):Option ((List n6)×Bool×aj) :=
 ak (aL 8192<|len x.1) (aa ([],false,())) (ae (Loop (eB) ((x.1,[],false,(),()),[],())) λa=>ak (cm a.1 0)
 (aa (a.2.2.1,false,())) (aa (a.2.1.2.1,a.2.1.2.2.1,())))
def mJ(x:Sb×aj):Option ((List n6)×Int×aj) :=
 ae (vr (x.1,())) (λa=>ak (nt a.2.1)
 (aa ([],10,())) (aa (a.1,0,())))
def nP(x:Sb×aj):Option (Int×aj) :=
 ae (mJ (x.1,())) (λb=>ae (ak (nt<|nt<|aD b.2.1 0)
 (ae (qE (b.1,())) λa=>aa (nt a.1)) (aa true)) λa=>ak a
 (aa (10,())) (aa (0,())))
def qF(x:(List dW)×Sb×aj):Option qs :=
 ae (jd (x.1,())) (λc=>ak (nt c.1)
 (aa ([],1,())) (ae (nP (x.2.1,())) λa=>ak (nt<|aD a.1 0)
 (aa ([],a.1,())) (ae (mJ (x.2.1,())) λd=>ae (zn (x.1,d.1,())) λb=>aa (b.1,b.2.1,()))))
def gu(x:(List Sb)×aj)(a:IM×aj):Option ((IM×aj)⊕(Nat×IM×aj)) :=
 ak (aL a.1.2.2.2.1<|len x.1) (ae (idx x.1 a.1.2.2.2.1) λc=>ae (kb (a.1.2.2.1,c,())) λb=>ak (nt<|aD b.2.1 0)
 (aa<|az (1,([],b.2.1,a.1.2.2.1,a.1.2.2.2.1,()),())) (aa<|ay ((a.1.1,a.1.2.1,b.1,aw i64 a.1.2.2.2.1 1,()),())))
 (aa<|az (0,(a.1.1,a.1.2.1,a.1.2.2.1,a.1.2.2.2.1,()),()))
def qG(x:(List Sb)×aj):Option qs :=
 ae (Loop (gu x) (([],0,[],0,()),())) (λa=>ak (cm a.1 0)
 (aa (a.2.1.2.2.1,0,())) (aa (a.2.1.1,a.2.1.2.1,())))
end Go.Ge
namespace Go.Ge
variable [Lp]
set_option maxRecDepth 100000
abbrev B6:=(Int×(List<|Sb×Sb×(List Sb)×Sb×Int×Int×Bool×aj)×(List<|Sb×(List Sb)×Sb×Sb×(List<|Sb×Sb×Sb×aj)×aj)×(List<|Sb×(List Sb)×Sb×Sb×Sb×(List<|Sb×Sb×Sb×aj)×aj)×aj)
abbrev tm:=(List<|Sb×(List Sb)×aj)
abbrev E3:=(((Bool×Int×aj)×aj)⊕(Nat×(Bool×Int×aj)×aj))
abbrev wW:=(Int×Int×aj)
abbrev Rl:=((Int×aj)×aj×tm×aj)
abbrev Rm:=((aj×Int×aj)×tm×aj)
abbrev CX:=(Bool×Int×aj)
abbrev aaP:=((wW×aj)⊕(Nat×wW×aj))
def fm(l:List bb)(x:aj):Option (List bb):=bif fits (len l) then aa (vZ l) else af
def l4(l:List bb)(x:aj):Option (List bb):=aa (Lib.compact (α:=bb) l)
def lA(x:(List Sb)×aj)(a:CX×aj):Option E3 :=
 ak (ak (aL a.1.2.1<|len x.1)
 (aL a.1.2.1 8) false)
 (ae (idx x.1 a.1.2.1) λb=>ak (aL 100<|len b)
 (aa<|az (1,(false,a.1.2.1,()),())) (aa<|ay ((a.1.1,aw i64 a.1.2.1 1,()),())))
 (aa<|az (0,(a.1.1,a.1.2.1,()),()))
def pO(x:(List Sb)×aj):Option (Bool×aj) :=
 ae (Loop (lA x) ((false,0,()),())) (λa=>ak (cm a.1 0)
 (aa (cl (len x.1) 8,())) (aa (a.2.1.1,())))
def aX(x:(List Sb)×aj):Option ((List Sb)×aj) :=bif fits (len x.1) then aa (x.1,()) else af
def nu(x:Sb×aj):Option (Bool×aj) :=
 ae (ak (ak (cl 1<|len x.1)
 (cl (len x.1) 32) false)
 (ae (jb (x.1,[97,98,99,100,101,102,103,104,105,106,107,108,109,110,111,112,113,114,115,116,117,118,119,120,121,122,48,49,50,51,52,53,54,55,56,57,46,95,45],())) λa=>aa (bg a.1 [])) (aa false)) (λa=>aa (a,()))
def pP(x:(List Sb)×aj)(a:wW×aj):Option aaP :=
 ak (aL a.1.2.1<|len x.1) (ae (idx x.1 a.1.2.1) λb=>ae (nu (b,())) λc=>ak (nt c.1)
 (aa<|az (1,(a.1.2.1,a.1.2.1,()),())) (aa<|ay ((a.1.1,aw i64 a.1.2.1 1,()),())))
 (aa<|az (0,(a.1.1,a.1.2.1,()),()))
def gB(x:(List Sb)×aj):Option (Int×aj) :=
 ak (fits<|len x.1) (ae (fm x.1 ()) λc=>ae (l4 c ()) λa=>ae (Loop (pP x) ((0,0,()),())) λb=>ak (cm b.1 0)
 (ak (ak (nt<|ak (nt<|aL 4<|len x.1)
 (aL (len a)<|len x.1) true)
 (cl 0<|-1) true)
 (aa (1,())) (aa (0,())))
 (ak (ak (nt<|ak (nt<|aL 4<|len x.1)
 (aL (len a)<|len x.1) true)
 (cl 0 b.2.1.1) true)
 (aa (1,())) (aa (0,()))))
 af
def rf(x:tm×Sb×aj)(a:wW×Sb×aj):Option ((wW×Sb×aj)⊕(Nat×wW×Sb×aj)) :=
 ak (aL a.1.2.1<|len x.1) (ae (idx x.1 a.1.2.1) λb=>ak (bg b.1 a.2.1)
 (aa<|az (1,(a.1.2.1,a.1.2.1,()),a.2.1,())) (aa<|ay ((a.1.1,aw i64 a.1.2.1 1,()),a.2.1,())))
 (aa<|az (0,(a.1.1,a.1.2.1,()),a.2.1,()))
def xr(x:tm×Sb×aj):Option (Int×aj) :=
 ae (Loop (rf x) ((0,0,()),x.2.1,())) (λa=>ak (cm a.1 0)
 (aa ((-1),())) (aa (a.2.1.1,())))
def ke(b:Sb×(List Sb)×aj)(a:wW×(List Sb)×aj):Option ((wW×(List Sb)×aj)⊕(Nat×wW×(List Sb)×aj)) :=
 ak (aL a.1.2.1<|len b.2.1) (ae (idx b.2.1 a.1.2.1) λc=>ae (bD (a.2.1,c,())) λd=>ak d.1
 (aa<|az (1,(a.1.2.1,a.1.2.1,()),a.2.1,())) (aa<|ay ((a.1.1,aw i64 a.1.2.1 1,()),a.2.1,())))
 (aa<|az (0,(a.1.1,a.1.2.1,()),a.2.1,()))
def rh(x:tm×Sb×(List Sb)×aj)(c:Int×aj)(a:wW×(List Sb)×aj):Option ((wW×(List Sb)×aj)⊕(Nat×wW×(List Sb)×aj)) :=
 ak (aL a.1.2.1<|len x.1) (ae (idx x.1 a.1.2.1) λd=>ak (nt<|aD a.1.2.1 c.1)
 (ae (Loop (ke d) ((0,0,()),a.2.1,())) λb=>ak (cm b.1 0)
 (ak (cl 0<|-1)
 (aa<|az (1,(8,a.1.2.1,()),b.2.2.1,())) (aa<|ay ((a.1.1,aw i64 a.1.2.1 1,()),b.2.2.1,())))
 (ak (cl 0 b.2.1.1)
 (aa<|az (1,(8,a.1.2.1,()),b.2.2.1,())) (aa<|ay ((a.1.1,aw i64 a.1.2.1 1,()),b.2.2.1,()))))
 (aa<|ay ((a.1.1,aw i64 a.1.2.1 1,()),a.2.1,())))
 (aa<|az (0,(a.1.1,a.1.2.1,()),a.2.1,()))
def iz(x:tm×Sb×(List Sb)×aj):Option (Int×aj) :=
 ae (gB (x.2.2.1,())) (λa=>ak (nt<|aD a.1 0)
 (aa (a.1,())) (ae (xr (x.1,x.2.1,())) λc=>ae (Loop (rh x c) ((0,0,()),x.2.2.1,())) λb=>ak (cm b.1 0)
 (aa (0,())) (aa (b.2.1.1,()))))
def vt(x:Int×B6×aj)(a:(Int×aj)×aj×tm×aj):Option (Rl⊕Rl) :=
 cr (ak (aL a.1.1<|len x.2.1.2.2.2.1)
 (ae (idx x.2.1.2.2.2.1 a.1.1) λb=>ae (aX (b.2.1,())) λc=>ak (fits<|plus (len a.2.2.1)<|len [(b.1,c.1,())])
 (aa<|ay ((aw i64 a.1.1 1,()),(),app a.2.2.1 [(b.1,c.1,())],())) af)
 (aa<|az (0,(a.1.1,()),(),a.2.2.1,())))
def vu(x:Int×B6×aj)(a:(Int×aj)×aj×tm×aj):Option (Rl⊕Rl) :=
 cr (ak (aL a.1.1<|len x.2.1.2.2.1)
 (ae (idx x.2.1.2.2.1 a.1.1) λb=>ae (aX (b.2.1,())) λc=>ak (fits<|plus (len a.2.2.1)<|len [(b.1,c.1,())])
 (aa<|ay ((aw i64 a.1.1 1,()),(),app a.2.2.1 [(b.1,c.1,())],())) af)
 (aa<|az (0,(a.1.1,()),(),a.2.2.1,())))
def vv(x:Int×B6×aj)(a:(Int×aj)×aj×tm×aj):Option (Rl⊕Rl) :=
 cr (ak (aL a.1.1<|len x.2.1.2.1)
 (ae (idx x.2.1.2.1 a.1.1) λb=>ae (ak b.2.2.2.2.2.2.1
 (ae (aX (b.2.2.1,())) λc=>ak (fits<|plus (len a.2.2.1)<|len [(b.1,c.1,())])
 (aa ((),b,(),app a.2.2.1 [(b.1,c.1,())],())) af)
 (aa ((),b,(),a.2.2.1,()))) λc=>aa (ay ((aw i64 a.1.1 1,()),(),c.2.2.2.1,())))
 (aa<|az (0,(a.1.1,()),(),a.2.2.1,())))
def rY(x:Int×B6×aj):Option (tm×aj) :=
 ae (ak (aD x.1 1)
 (ae (Loop (vt x) ((0,()),(),[],())) λa=>aa ((),(),a.2.2.1,())) (ae (ak (aD x.1 2)
 (ae (Loop (vu x) ((0,()),(),[],())) λa=>aa ((),(),a.2.2.1,())) (ae (ak (aD x.1 3)
 (ae (Loop (vv x) ((0,()),(),[],())) λa=>aa ((),(),a.2.2.1,())) (aa ((),(),[],()))) λa=>aa ((),(),a.2.2.1,()))) λa=>aa ((),(),a.2.2.1,()))) (λa=>aa (a.2.2.1,()))
def om(x:Sb×aj)(a:CX×aj):Option E3 :=
 ak (aL a.1.2.1<|len x.1) (ae (idx x.1 a.1.2.1) λb=>ak (ak (ak (ak (ak (ak (nt<|aL (u8 b) 97)
 (aL 122<|u8 b) true)
 (ak (nt<|aL (u8 b) 48)
 (aL 57<|u8 b) true)
 false)
 (nt<|aD (u8 b) 46) false)
 (nt<|aD (u8 b) 95) false)
 (nt<|aD (u8 b) 45) false)
 (aa<|az (1,(false,a.1.2.1,()),())) (aa<|ay ((a.1.1,aw i64 a.1.2.1 1,()),())))
 (aa<|az (0,(a.1.1,a.1.2.1,()),()))
def oZ(x:Sb×aj):Option (Bool×aj) :=
 ae (Loop (om x) ((false,0,()),())) (λa=>ak (cm a.1 0)
 (aa (ak (cl 1<|len x.1)
 (cl (len x.1) 32) false,()))
 (aa (a.2.1.1,())))
def iS(x:(List Sb)×aj)(b:CX×aj)(a:CX×aj):Option E3 :=
 ak (aL a.1.2.1 b.1.2.1) (ae (idx x.1 a.1.2.1) λc=>ae (idx x.1 b.1.2.1) λd=>ak (bg c d)
 (aa<|az (1,(false,a.1.2.1,()),())) (aa<|ay ((a.1.1,aw i64 a.1.2.1 1,()),())))
 (aa<|az (0,(a.1.1,a.1.2.1,()),()))
def pQ(x:(List Sb)×aj)(a:CX×aj):Option E3 :=
 ak (aL a.1.2.1<|len x.1) (ae (idx x.1 a.1.2.1) λc=>ae (oZ (c,())) λd=>ak (nt d.1)
 (aa<|az (1,(false,a.1.2.1,()),())) (ae (Loop (iS x a) ((a.1.1,0,()),())) λb=>ak (cm b.1 0)
 (aa<|ay ((b.2.1.1,aw i64 a.1.2.1 1,()),())) (aa<|az (1,(b.2.1.1,a.1.2.1,()),()))))
 (aa<|az (0,(a.1.1,a.1.2.1,()),()))
def vw(x:(List Sb)×aj):Option (Bool×aj) :=
 ae (Loop (pQ x) ((false,0,()),())) (λa=>ak (cm a.1 0)
 (aa (cl (len x.1) 4,())) (aa (a.2.1.1,())))
def gC(x:(List Sb)×aj):Option (Int×aj) :=
 ae (vw (x.1,())) (λa=>ak (nt a.1)
 (aa (1,())) (aa (0,())))
def ri(x:tm×Sb×aj)(a:wW×aj):Option aaP :=
 ak (aL a.1.2.1<|len x.1) (ae (idx x.1 a.1.2.1) λb=>ak (bg b.1 x.2.1)
 (aa<|az (1,(a.1.2.1,a.1.2.1,()),())) (aa<|ay ((a.1.1,aw i64 a.1.2.1 1,()),())))
 (aa<|az (0,(a.1.1,a.1.2.1,()),()))
def xv(x:tm×Sb×aj):Option (Int×aj) :=
 ae (Loop (ri x) ((0,0,()),())) (λa=>ak (cm a.1 0)
 (aa ((-1),())) (aa (a.2.1.1,())))
def tn(x:(List Sb)×Sb×aj)(a:CX×aj):Option E3 :=
 ak (aL a.1.2.1<|len x.1) (ae (idx x.1 a.1.2.1) λb=>ak (bg b x.2.1)
 (aa<|az (1,(true,a.1.2.1,()),())) (aa<|ay ((a.1.1,aw i64 a.1.2.1 1,()),())))
 (aa<|az (0,(a.1.1,a.1.2.1,()),()))
def zo(x:(List Sb)×Sb×aj):Option (Bool×aj) :=
 ae (Loop (tn x) ((false,0,()),())) (λa=>ak (cm a.1 0)
 (aa (false,())) (aa (a.2.1.1,())))
def kf(x:tm×Sb×(List Sb)×aj)(c:Int×aj)(b:wW×aj)(a:wW×aj):Option aaP :=
 ak (aL a.1.2.1<|len x.2.2.1) (ak (nt<|aD b.1.2.1 c.1)
 (ae (idx x.1 b.1.2.1) λd=>ae (idx x.2.2.1 a.1.2.1) λe=>ae (zo (d.2.1,e,())) λf=>ak f.1
 (aa<|az (1,(8,a.1.2.1,()),())) (aa<|ay ((a.1.1,aw i64 a.1.2.1 1,()),())))
 (aa<|ay ((a.1.1,aw i64 a.1.2.1 1,()),())))
 (aa<|az (0,(a.1.1,a.1.2.1,()),()))
def rj(x:tm×Sb×(List Sb)×aj)(c:Int×aj)(a:wW×aj):Option aaP :=
 ak (aL a.1.2.1<|len x.1) (ae (Loop (kf x c a) ((a.1.1,0,()),())) λb=>ak (cm b.1 0)
 (aa<|ay ((b.2.1.1,aw i64 a.1.2.1 1,()),())) (aa<|az (1,(b.2.1.1,a.1.2.1,()),())))
 (aa<|az (0,(a.1.1,a.1.2.1,()),()))
def mK(x:tm×Sb×(List Sb)×aj):Option (Int×aj) :=
 ae (gC (x.2.2.1,())) (λa=>ak (nt<|aD a.1 0)
 (aa (a.1,())) (ae (xv (x.1,x.2.1,())) λc=>ae (Loop (rj x c) ((0,0,()),())) λb=>ak (cm b.1 0)
 (aa (0,())) (aa (b.2.1.1,()))))
def tp(x:(List Sb)×aj)(a:CX×aj):Option E3 :=
 ak (ak (aL a.1.2.1<|len x.1)
 (aL a.1.2.1 8) false)
 (ae (idx x.1 a.1.2.1) λb=>ak (aL 100<|len b)
 (aa<|az (1,(false,a.1.2.1,()),())) (aa<|ay ((a.1.1,aw i64 a.1.2.1 1,()),())))
 (aa<|az (0,(a.1.1,a.1.2.1,()),()))
def mv(x:(List Sb)×aj):Option (Bool×aj) :=
 ae (Loop (tp x) ((false,0,()),())) (λa=>ak (cm a.1 0)
 (aa (cl (len x.1) 8,())) (aa (a.2.1.1,())))
def eK(x:(List<|Sb×Sb×Sb×aj)×aj)(a:CX×aj):Option E3 :=
 ak (ak (aL a.1.2.1<|len x.1)
 (aL a.1.2.1 8) false)
 (ae (idx x.1 a.1.2.1) λc=>ae (ak (nt<|aL 100<|len c.1)
 (ae (idx x.1 a.1.2.1) λb=>aa (aL 200<|len b.2.2.1)) (aa true)) λb=>ak b
 (aa<|az (1,(false,a.1.2.1,()),())) (aa<|ay ((a.1.1,aw i64 a.1.2.1 1,()),())))
 (aa<|az (0,(a.1.1,a.1.2.1,()),()))
def eC(x:(List<|Sb×Sb×Sb×aj)×aj):Option (Bool×aj) :=
 ae (Loop (eK x) ((false,0,()),())) (λa=>ak (cm a.1 0)
 (aa (cl (len x.1) 8,())) (aa (a.2.1.1,())))
def je(x:B6×aj)(a:CX×aj):Option E3 :=
 ak (ak (aL a.1.2.1<|len x.1.2.1)
 (aL a.1.2.1 40) false)
 (ae (idx x.1.2.1 a.1.2.1) λb=>ae (mv (b.2.2.1,())) λc=>ak (nt c.1)
 (aa<|az (1,(false,a.1.2.1,()),())) (aa<|ay ((a.1.1,aw i64 a.1.2.1 1,()),())))
 (aa<|az (0,(a.1.1,a.1.2.1,()),()))
def jf(x:B6×aj)(a:CX×aj):Option E3 :=
 ak (ak (aL a.1.2.1<|len x.1.2.2.1)
 (aL a.1.2.1 40) false)
 (ae (idx x.1.2.2.1 a.1.2.1) λd=>ae (mv (d.2.1,())) λe=>ae (ak (nt<|nt e.1)
 (ae (idx x.1.2.2.1 a.1.2.1) λb=>aa (aL 200<|len b.2.2.2.1)) (aa true)) λb=>ae (ak (nt b) (ae (idx x.1.2.2.1 a.1.2.1) λc=>ae (eC (c.2.2.2.2.1,())) λf=>aa (nt f.1)) (aa true)) λc=>ak c
 (aa<|az (1,(false,a.1.2.1,()),())) (aa<|ay ((a.1.1,aw i64 a.1.2.1 1,()),())))
 (aa<|az (0,(a.1.1,a.1.2.1,()),()))
def jg(x:B6×aj)(a:CX×aj):Option E3 :=
 ak (ak (aL a.1.2.1<|len x.1.2.2.2.1)
 (aL a.1.2.1 40) false)
 (ae (idx x.1.2.2.2.1 a.1.2.1) λd=>ae (mv (d.2.1,())) λe=>ae (ak (nt<|nt e.1)
 (ae (idx x.1.2.2.2.1 a.1.2.1) λb=>aa (aL 200<|len b.2.2.2.2.1)) (aa true)) λb=>ae (ak (nt b) (ae (idx x.1.2.2.2.1 a.1.2.1) λc=>ae (eC (c.2.2.2.2.2.1,())) λf=>aa (nt f.1)) (aa true)) λc=>ak c
 (aa<|az (1,(false,a.1.2.1,()),())) (aa<|ay ((a.1.1,aw i64 a.1.2.1 1,()),())))
 (aa<|az (0,(a.1.1,a.1.2.1,()),()))
def ss(x:B6×aj):Option (Bool×aj) :=
 ae (Loop (je x) ((false,0,()),())) (λa=>ak (cm a.1 0)
 (ae (Loop (jf x) ((a.2.1.1,0,()),())) λb=>ak (cm b.1 0)
 (ae (Loop (jg x) ((b.2.1.1,0,()),())) λc=>ak (cm c.1 0)
 (aa (ak (ak (cl (len x.1.2.1) 40)
 (cl (len x.1.2.2.1) 40) false)
 (cl (len x.1.2.2.2.1) 40) false,()))
 (aa (c.2.1.1,())))
 (aa (b.2.1.1,())))
 (aa (a.2.1.1,())))
def vx(x:Int×B6×aj)(a:(aj×Int×aj)×tm×aj):Option (Rm⊕Rm) :=
 cr (ak (aL a.1.2.1<|len x.2.1.2.2.2.1)
 (ae (idx x.2.1.2.2.2.1 a.1.2.1) λb=>ae (idx x.2.1.2.2.2.1 a.1.2.1) λc=>ak (fits<|plus (len a.2.1)<|len [(b.1,c.2.1,())])
 (aa<|ay (((),aw i64 a.1.2.1 1,()),app a.2.1 [(b.1,c.2.1,())],())) af)
 (aa<|az (0,((),a.1.2.1,()),a.2.1,())))
def vy(x:Int×B6×aj)(a:(aj×Int×aj)×tm×aj):Option (Rm⊕Rm) :=
 cr (ak (aL a.1.2.1<|len x.2.1.2.2.1)
 (ae (idx x.2.1.2.2.1 a.1.2.1) λb=>ae (idx x.2.1.2.2.1 a.1.2.1) λc=>ak (fits<|plus (len a.2.1)<|len [(b.1,c.2.1,())])
 (aa<|ay (((),aw i64 a.1.2.1 1,()),app a.2.1 [(b.1,c.2.1,())],())) af)
 (aa<|az (0,((),a.1.2.1,()),a.2.1,())))
def vz(x:Int×B6×aj)(a:(aj×Int×aj)×tm×aj):Option (Rm⊕Rm) :=
 cr (ak (aL a.1.2.1<|len x.2.1.2.1)
 (ae (idx x.2.1.2.1 a.1.2.1) λd=>ae (ak d.2.2.2.2.2.2.1
 (ae (idx x.2.1.2.1 a.1.2.1) λb=>ae (idx x.2.1.2.1 a.1.2.1) λc=>ak (fits<|plus (len a.2.1)<|len [(b.1,c.2.2.1,())])
 (aa (((),()),app a.2.1 [(b.1,c.2.2.1,())],())) af)
 (aa (((),()),a.2.1,()))) λb=>aa (ay (((),aw i64 a.1.2.1 1,()),b.2.1,())))
 (aa<|az (0,((),a.1.2.1,()),a.2.1,())))
def rZ(x:Int×B6×aj):Option (tm×aj) :=
 ae (ak (aD x.1 1)
 (ae (Loop (vx x) (((),0,()),[],())) λa=>aa (((),()),a.2.1,())) (ae (ak (aD x.1 2)
 (ae (Loop (vy x) (((),0,()),[],())) λa=>aa (((),()),a.2.1,())) (ae (ak (aD x.1 3)
 (ae (Loop (vz x) (((),0,()),[],())) λa=>aa (((),()),a.2.1,())) (aa (((),()),[],()))) λa=>aa (((),()),a.2.1,()))) λa=>aa (((),()),a.2.1,()))) (λa=>aa (a.2.1,()))
end Go.Ge
namespace Go.Ge
variable [Lp]
set_option maxRecDepth 100000
abbrev cY:=(Sb×Sb×Sb×aj)
abbrev jW:=(Sb×(List Sb)×Sb×Sb×(List cY)×aj)
abbrev qt:=((List<|Sb×(List Sb)×Sb×Sb×Sb×(List cY)×aj)×(List jW)×(List<|Sb×Sb×(List Sb)×Sb×Int×Int×Bool×aj)×(List Sb)×(List<|Sb×Int×aj)×aj)
abbrev uL:=(Sb×(List Sb)×aj)
abbrev ef:=(Int×Int×aj)
abbrev afD:=(Sb×(List Sb)×Sb×Sb×Sb×(List cY)×aj)
abbrev ake:=(Sb×Sb×(List Sb)×Sb×Int×Int×Bool×aj)
abbrev IP:=(Bool×Int×aj)
abbrev FQ:=(Nat×ef×aj×Sb×aj)
abbrev FR:=(ef×aj×Sb×aj)
abbrev zp:=((aj×Int×aj)×(List Sb)×aj)
abbrev Hj:=(Nat×ef×Sb×aj)
abbrev D4:=(Sb×Int×Int×aj)
abbrev Hk:=(bb×((List bb)×(bb×(bb×((List<|bb×(bb×(bb×aj)))×aj)))))
abbrev Hl:=(ef×Sb×aj)
abbrev aia:=(Nat×IP×aj)
abbrev TD:=(Int×Sb×Int×Sb×aj)
abbrev LO:=(Nat×ef×aj×cY×aj)
abbrev LP:=(ef×aj×cY×aj)
abbrev aib:=(IP×aj)
abbrev aaQ:=(Nat×ef×aj×jW×aj)
abbrev Hm:=(bb×(bb×(bb×aj)))
abbrev zq:=(aj×Int×aj)
def aP(l:List Hm)(x:(Int×((List Hm)×aj))):Option (List Hm):=uI l x.1 x.2.1
def bt(l:List Hk)(x:(Int×(Int×aj))):Option (List Hk):=K6 l x.1 x.2.1
def bK(l:List Hm)(x:(Int×(Int×aj))):Option (List Hm):=K6 l x.1 x.2.1
def bS(l:List Hk)(x:(Int×((List Hk)×aj))):Option (List Hk):=uI l x.1 x.2.1
def cd(x:cY×aj):Option (Sb×aj) :=aa (x.1.1,())
def bN(x:(List cY)×aj):Option ((List cY)×aj) :=bif fits (len x.1) then aa (x.1,()) else af
def lB(x:(List cY)×Sb×Sb×aj)(a:ef×aj×Sb×aj):Option (FR⊕FQ) :=
 ak (aL a.1.2.1<|len x.1) (ae (idx x.1 a.1.2.1) λb=>ae (cd (b,())) λc=>ak (bg c.1 a.2.2.1)
 (aa<|az (1,(a.1.2.1,a.1.2.1,()),(),a.2.2.1,())) (aa<|ay ((a.1.1,aw i64 a.1.2.1 1,()),(),a.2.2.1,())))
 (aa<|az (0,(a.1.1,a.1.2.1,()),(),a.2.2.1,()))
def lC(x:(List cY)×Sb×Sb×aj)(a:ef×aj×Sb×aj):Option (FR⊕FQ) :=
 ak (aL a.1.2.1<|len x.1) (ae (idx x.1 a.1.2.1) λb=>ae (cd (b,())) λc=>ak (bg c.1 a.2.2.1)
 (aa<|az (1,(a.1.2.1,a.1.2.1,()),(),a.2.2.1,())) (aa<|ay ((a.1.1,aw i64 a.1.2.1 1,()),(),a.2.2.1,())))
 (aa<|az (0,(a.1.1,a.1.2.1,()),(),a.2.2.1,()))
def lD(b:(aj×aj)×(List cY)×aj)(a:ef×aj×cY×aj):Option (LP⊕LO) :=
 ak (aL a.1.2.1<|len b.2.1) (ak (within a.1.2.1<|len b.2.1)
 (ae (idx b.2.1 a.1.2.1) λd=>ae (cd (d,())) λe=>ae (cd (a.2.2.1,())) λc=>ak (nt<|fZ e.1 c.1)
 (aa<|az (1,(a.1.2.1,a.1.2.1,()),(),a.2.2.1,())) (aa<|ay ((a.1.1,aw i64 a.1.2.1 1,()),(),a.2.2.1,())))
 af)
 (aa<|az (0,(a.1.1,a.1.2.1,()),(),a.2.2.1,()))
def lE(b:(aj×aj)×(List cY)×aj)(a:ef×aj×cY×aj):Option (LP⊕LO) :=
 ak (aL a.1.2.1<|len b.2.1) (ak (within a.1.2.1<|len b.2.1)
 (ae (idx b.2.1 a.1.2.1) λd=>ae (cd (d,())) λe=>ae (cd (a.2.2.1,())) λc=>ak (nt<|fZ e.1 c.1)
 (aa<|az (1,(a.1.2.1,a.1.2.1,()),(),a.2.2.1,())) (aa<|ay ((a.1.1,aw i64 a.1.2.1 1,()),(),a.2.2.1,())))
 af)
 (aa<|az (0,(a.1.1,a.1.2.1,()),(),a.2.2.1,()))
def lF(x:(List cY)×Sb×Sb×aj)(a:ef×aj×Sb×aj):Option (FR⊕FQ) :=
 ak (aL a.1.2.1<|len x.1) (ae (idx x.1 a.1.2.1) λb=>ae (cd (b,())) λc=>ak (bg c.1 a.2.2.1)
 (aa<|az (1,(a.1.2.1,a.1.2.1,()),(),a.2.2.1,())) (aa<|ay ((a.1.1,aw i64 a.1.2.1 1,()),(),a.2.2.1,())))
 (aa<|az (0,(a.1.1,a.1.2.1,()),(),a.2.2.1,()))
def lG(b:(aj×aj)×(List cY)×aj)(a:ef×aj×cY×aj):Option (LP⊕LO) :=
 ak (aL a.1.2.1<|len b.2.1) (ak (within a.1.2.1<|len b.2.1)
 (ae (idx b.2.1 a.1.2.1) λd=>ae (cd (d,())) λe=>ae (cd (a.2.2.1,())) λc=>ak (nt<|fZ e.1 c.1)
 (aa<|az (1,(a.1.2.1,a.1.2.1,()),(),a.2.2.1,())) (aa<|ay ((a.1.1,aw i64 a.1.2.1 1,()),(),a.2.2.1,())))
 af)
 (aa<|az (0,(a.1.1,a.1.2.1,()),(),a.2.2.1,()))
def lH(b:(aj×aj)×(List cY)×aj)(a:ef×aj×cY×aj):Option (LP⊕LO) :=
 ak (aL a.1.2.1<|len b.2.1) (ak (within a.1.2.1<|len b.2.1)
 (ae (idx b.2.1 a.1.2.1) λd=>ae (cd (d,())) λe=>ae (cd (a.2.2.1,())) λc=>ak (nt<|fZ e.1 c.1)
 (aa<|az (1,(a.1.2.1,a.1.2.1,()),(),a.2.2.1,())) (aa<|ay ((a.1.1,aw i64 a.1.2.1 1,()),(),a.2.2.1,())))
 af)
 (aa<|az (0,(a.1.1,a.1.2.1,()),(),a.2.2.1,()))
def l5(x:(List cY)×Sb×Sb×aj):Option ((List cY)×Int×aj) :=
 ae (nu (x.2.1,())) (λh=>ak (ak (nt<|nt h.1)
 (aL 64<|len x.2.2.1) true)
 (aa ([],1,())) (ae (Loop (lB x) ((0,0,()),(),x.2.1,())) λg=>ak (cm g.1 0)
 (ak (ak (aL (-1) 0)
 (cl 4<|len x.1) false)
 (aa ([],5,())) (ae (oP (x.2.2.1,())) λe=>ae (cd ((x.2.1,e.1,x.2.2.1,()),())) λf=>ak (fits<|len x.1)
 (ae (Loop (lC x) ((0,0,()),(),f.1,())) λd=>ak (cm d.1 0)
 (ae (ak (cl 0<|-1)
 (ae (bK x.1 ((-1),aw i64 (-1) 1,())) λa=>aa (((),()),a,())) (aa (((),()),x.1,()))) λa=>ae (Loop (lD a) ((0,0,()),(),(x.2.1,e.1,x.2.2.1,()),())) λb=>ak (cm b.1 0)
 (ae (aP a.2.1 (((ak (aL (-1) 0)
 ((len a.2.1,()),()) (((-1),()),())).1).1,([b.2.2.2.1]:List cY),())) λc=>aa (c,0,()))
 (ae (aP a.2.1 (((ak (aL b.2.1.1 0)
 ((len a.2.1,()),()) ((b.2.1.1,()),())).1).1,([b.2.2.2.1]:List cY),())) λc=>aa (c,0,())))
 (ae (ak (cl 0 d.2.1.1)
 (ae (bK x.1 (d.2.1.1,aw i64 d.2.1.1 1,())) λa=>aa (((),()),a,())) (aa (((),()),x.1,()))) λa=>ae (Loop (lE a) ((0,0,()),(),(x.2.1,e.1,x.2.2.1,()),())) λb=>ak (cm b.1 0)
 (ae (aP a.2.1 (((ak (aL (-1) 0)
 ((len a.2.1,()),()) (((-1),()),())).1).1,([b.2.2.2.1]:List cY),())) λc=>aa (c,0,()))
 (ae (aP a.2.1 (((ak (aL b.2.1.1 0)
 ((len a.2.1,()),()) ((b.2.1.1,()),())).1).1,([b.2.2.2.1]:List cY),())) λc=>aa (c,0,()))))
 af))
 (ak (ak (aL g.2.1.1 0)
 (cl 4<|len x.1) false)
 (aa ([],5,())) (ae (oP (x.2.2.1,())) λe=>ae (cd ((x.2.1,e.1,x.2.2.1,()),())) λf=>ak (fits<|len x.1)
 (ae (Loop (lF x) ((0,0,()),(),f.1,())) λd=>ak (cm d.1 0)
 (ae (ak (cl 0<|-1)
 (ae (bK x.1 ((-1),aw i64 (-1) 1,())) λa=>aa (((),()),a,())) (aa (((),()),x.1,()))) λa=>ae (Loop (lG a) ((0,0,()),(),(x.2.1,e.1,x.2.2.1,()),())) λb=>ak (cm b.1 0)
 (ae (aP a.2.1 (((ak (aL (-1) 0)
 ((len a.2.1,()),()) (((-1),()),())).1).1,([b.2.2.2.1]:List cY),())) λc=>aa (c,0,()))
 (ae (aP a.2.1 (((ak (aL b.2.1.1 0)
 ((len a.2.1,()),()) ((b.2.1.1,()),())).1).1,([b.2.2.2.1]:List cY),())) λc=>aa (c,0,())))
 (ae (ak (cl 0 d.2.1.1)
 (ae (bK x.1 (d.2.1.1,aw i64 d.2.1.1 1,())) λa=>aa (((),()),a,())) (aa (((),()),x.1,()))) λa=>ae (Loop (lH a) ((0,0,()),(),(x.2.1,e.1,x.2.2.1,()),())) λb=>ak (cm b.1 0)
 (ae (aP a.2.1 (((ak (aL (-1) 0)
 ((len a.2.1,()),()) (((-1),()),())).1).1,([b.2.2.2.1]:List cY),())) λc=>aa (c,0,()))
 (ae (aP a.2.1 (((ak (aL b.2.1.1 0)
 ((len a.2.1,()),()) ((b.2.1.1,()),())).1).1,([b.2.2.2.1]:List cY),())) λc=>aa (c,0,()))))
 af))))
def lI(x:(List cY)×Sb×aj)(a:ef×aj×Sb×aj):Option (FR⊕FQ) :=
 ak (aL a.1.2.1<|len x.1) (ae (idx x.1 a.1.2.1) λb=>ae (cd (b,())) λc=>ak (bg c.1 a.2.2.1)
 (aa<|az (1,(a.1.2.1,a.1.2.1,()),(),a.2.2.1,())) (aa<|ay ((a.1.1,aw i64 a.1.2.1 1,()),(),a.2.2.1,())))
 (aa<|az (0,(a.1.1,a.1.2.1,()),(),a.2.2.1,()))
def l6(x:(List cY)×Sb×aj):Option (Sb×Int×aj) :=
 ae (Loop (lI x) ((0,0,()),(),x.2.1,())) (λa=>ak (cm a.1 0)
 (ak (aL (-1) 0)
 (aa ([],3,())) (ae (idx x.1<|-1) λb=>aa (b.2.2.1,0,())))
 (ak (aL a.2.1.1 0)
 (aa ([],3,())) (ae (idx x.1 a.2.1.1) λb=>aa (b.2.2.1,0,()))))
def jh(x:Int×aj):Option (TD×aj) :=aa ((x.1,[],0,[],()),())
def pR(x:(List uL)×Sb×aj)(a:ef×Sb×aj):Option (Hl⊕Hj) :=
 ak (aL a.1.2.1<|len x.1) (ae (idx x.1 a.1.2.1) λb=>ak (bg b.1 a.2.1)
 (aa<|az (1,(a.1.2.1,a.1.2.1,()),a.2.1,())) (aa<|ay ((a.1.1,aw i64 a.1.2.1 1,()),a.2.1,())))
 (aa<|az (0,(a.1.1,a.1.2.1,()),a.2.1,()))
def pS(x:(List uL)×Sb×aj)(a:ef×Sb×aj):Option (Hl⊕Hj) :=
 ak (aL a.1.2.1<|len x.1) (ae (idx x.1 a.1.2.1) λb=>ae (bD (b.2.1,a.2.1,())) λc=>ak c.1
 (aa<|az (1,(a.1.2.1,a.1.2.1,()),a.2.1,())) (aa<|ay ((a.1.1,aw i64 a.1.2.1 1,()),a.2.1,())))
 (aa<|az (0,(a.1.1,a.1.2.1,()),a.2.1,()))
def pT(x:(List uL)×Sb×aj)(c:Nat×ef×Sb×aj)(a:zq×(List Sb)×aj):Option (zp⊕zp) :=
 cr (ak (aL a.1.2.1<|len x.1)
 (ae (idx x.1 a.1.2.1) λb=>ae (cI (b.1,c.2.2.1,())) λd=>ae (ak d.1
 (ak (fits<|plus (len a.2.1)<|len [b.1])
 (aa (((),()),app a.2.1 [b.1],())) af)
 (aa (((),()),a.2.1,()))) λe=>aa (ay (((),aw i64 a.1.2.1 1,()),e.2.1,())))
 (aa<|az (0,((),a.1.2.1,()),a.2.1,())))
def IQ(x:(List uL)×Sb×aj)(c:Nat×ef×Sb×aj)(a:zq×(List Sb)×aj):Option (zp⊕zp) :=
 cr (ak (aL a.1.2.1<|len x.1)
 (ae (idx x.1 a.1.2.1) λb=>ae (cI (b.1,c.2.2.1,())) λd=>ae (ak d.1
 (ak (fits<|plus (len a.2.1)<|len [b.1])
 (aa (((),()),app a.2.1 [b.1],())) af)
 (aa (((),()),a.2.1,()))) λe=>aa (ay (((),aw i64 a.1.2.1 1,()),e.2.1,())))
 (aa<|az (0,((),a.1.2.1,()),a.2.1,())))
def IS(x:(List uL)×Sb×aj)(a:ef×Sb×aj):Option (Hl⊕Hj) :=
 ak (aL a.1.2.1<|len x.1) (ae (idx x.1 a.1.2.1) λb=>ae (bD (b.2.1,a.2.1,())) λc=>ak c.1
 (aa<|az (1,(a.1.2.1,a.1.2.1,()),a.2.1,())) (aa<|ay ((a.1.1,aw i64 a.1.2.1 1,()),a.2.1,())))
 (aa<|az (0,(a.1.1,a.1.2.1,()),a.2.1,()))
def IT(x:(List uL)×Sb×aj)(c:Nat×ef×Sb×aj)(a:zq×(List Sb)×aj):Option (zp⊕zp) :=
 cr (ak (aL a.1.2.1<|len x.1)
 (ae (idx x.1 a.1.2.1) λb=>ae (cI (b.1,c.2.2.1,())) λd=>ae (ak d.1
 (ak (fits<|plus (len a.2.1)<|len [b.1])
 (aa (((),()),app a.2.1 [b.1],())) af)
 (aa (((),()),a.2.1,()))) λe=>aa (ay (((),aw i64 a.1.2.1 1,()),e.2.1,())))
 (aa<|az (0,((),a.1.2.1,()),a.2.1,())))
def IU(x:(List uL)×Sb×aj)(c:Nat×ef×Sb×aj)(a:zq×(List Sb)×aj):Option (zp⊕zp) :=
 cr (ak (aL a.1.2.1<|len x.1)
 (ae (idx x.1 a.1.2.1) λb=>ae (cI (b.1,c.2.2.1,())) λd=>ae (ak d.1
 (ak (fits<|plus (len a.2.1)<|len [b.1])
 (aa (((),()),app a.2.1 [b.1],())) af)
 (aa (((),()),a.2.1,()))) λe=>aa (ay (((),aw i64 a.1.2.1 1,()),e.2.1,())))
 (aa<|az (0,((),a.1.2.1,()),a.2.1,())))
def iM(x:(List uL)×Sb×aj):Option (Sb×Int×aj) :=
 ae (Loop (pR x) ((0,0,()),x.2.1,())) (λd=>ak (cm d.1 0)
 (ak (cl 0<|-1)
 (aa (x.2.1,0,())) (ae (Loop (pS x) ((0,0,()),x.2.1,())) λb=>ak (cm b.1 0)
 (ak (cl 0<|-1)
 (ae (idx x.1<|-1) λa=>aa (a.1,0,())) (ae (Loop (pT x b) (((),0,()),[],())) λa=>ak (ak (nt<|ak (nt<|bg b.2.2.1 [])
 (cl 6<|len b.2.2.1) true)
 (aD (len a.2.1) 0) true)
 (aa ([],3,())) (ak (aL 1<|len a.2.1)
 (aa ([],9,())) (ak (within 0<|len a.2.1)
 (ae (idx a.2.1 0) λc=>aa (c,0,())) af))))
 (ak (cl 0 b.2.1.1)
 (ae (idx x.1 b.2.1.1) λa=>aa (a.1,0,())) (ae (Loop (IQ x b) (((),0,()),[],())) λa=>ak (ak (nt<|ak (nt<|bg b.2.2.1 [])
 (cl 6<|len b.2.2.1) true)
 (aD (len a.2.1) 0) true)
 (aa ([],3,())) (ak (aL 1<|len a.2.1)
 (aa ([],9,())) (ak (within 0<|len a.2.1)
 (ae (idx a.2.1 0) λc=>aa (c,0,())) af))))))
 (ak (cl 0 d.2.1.1)
 (aa (x.2.1,0,())) (ae (Loop (IS x) ((0,0,()),x.2.1,())) λb=>ak (cm b.1 0)
 (ak (cl 0<|-1)
 (ae (idx x.1<|-1) λa=>aa (a.1,0,())) (ae (Loop (IT x b) (((),0,()),[],())) λa=>ak (ak (nt<|ak (nt<|bg b.2.2.1 [])
 (cl 6<|len b.2.2.1) true)
 (aD (len a.2.1) 0) true)
 (aa ([],3,())) (ak (aL 1<|len a.2.1)
 (aa ([],9,())) (ak (within 0<|len a.2.1)
 (ae (idx a.2.1 0) λc=>aa (c,0,())) af))))
 (ak (cl 0 b.2.1.1)
 (ae (idx x.1 b.2.1.1) λa=>aa (a.1,0,())) (ae (Loop (IU x b) (((),0,()),[],())) λa=>ak (ak (nt<|ak (nt<|bg b.2.2.1 [])
 (cl 6<|len b.2.2.1) true)
 (aD (len a.2.1) 0) true)
 (aa ([],3,())) (ak (aL 1<|len a.2.1)
 (aa ([],9,())) (ak (within 0<|len a.2.1)
 (ae (idx a.2.1 0) λc=>aa (c,0,())) af)))))))
def l7(x:qt×aj):Option ((List uL)×aj) :=ae (rY (3,(0,x.1.2.2.1,([]:List jW),([]:List afD),()),())) (λa=>aa (a.1,()))
def eP(x:qt×Sb×aj):Option (Sb×Int×aj) :=ae (l7 (x.1,())) (λb=>ae (iM (b.1,x.2.1,())) λa=>aa (a.1,a.2.1,()))
def gJ(x:qt×aj):Option ((List uL)×aj) :=ae (rY (2,(0,([]:List ake),x.1.2.1,([]:List afD),()),())) (λa=>aa (a.1,()))
def zr(x:Int×aj):Option (Sb×aj) :=
 ak (aL 16 0) af (ak (aL 8 0)
 af (ae (mD (br [lj IntKind.u8<|jT i64 x.1 16,lj IntKind.u8 (jT i64 x.1 8),lj IntKind.u8 x.1],())) λa=>aa (a.1,())))
def ha(x:(List uL)×Int×aj)(a:ef×Sb×aj):Option (Hl⊕Hj) :=
 ak (aL a.1.2.1<|len x.1) (ae (idx x.1 a.1.2.1) λb=>ak (bg b.1 a.2.1)
 (aa<|az (1,(a.1.2.1,a.1.2.1,()),a.2.1,())) (aa<|ay ((a.1.1,aw i64 a.1.2.1 1,()),a.2.1,())))
 (aa<|az (0,(a.1.1,a.1.2.1,()),a.2.1,()))
def oo(x:(List uL)×Int×aj)(a:D4×aj):Option ((D4×aj)⊕(Nat×D4×aj)) :=
 ak (aL a.1.2.2.1<|aw i64 (len x.1) 1) (ak (aD 16777216 0)
 af (ae (zr (gx (aw i64 (hL i64 x.2.1 16777215) a.1.2.2.1) 16777216,())) λb=>ae (Loop (ha x) ((0,0,()),b.1,())) λc=>ak (cm c.1 0)
 (ak (nt<|cl 0<|-1)
 (aa<|az (1,(b.1,0,a.1.2.2.1,()),())) (aa<|ay ((a.1.1,a.1.2.1,aw i64 a.1.2.2.1 1,()),())))
 (ak (nt<|cl 0 c.2.1.1)
 (aa<|az (1,(b.1,0,a.1.2.2.1,()),())) (aa<|ay ((a.1.1,a.1.2.1,aw i64 a.1.2.2.1 1,()),())))))
 (aa<|az (0,(a.1.1,a.1.2.1,a.1.2.2.1,()),()))
def ji(x:(List uL)×Int×aj):Option (Sb×Int×aj) :=
 ak (cl 32<|len x.1) (aa ([],5,())) (ae (Loop (oo x) (([],0,0,()),())) λa=>ak (cm a.1 0)
 (aa ([],5,())) (aa (a.2.1.1,a.2.1.2.1,())))
def dU(x:jW×aj):Option (Sb×aj) :=aa (x.1.1,())
def r4(x:(List jW)×aj):Option ((List jW)×aj) :=bif fits (len x.1) then aa (x.1,()) else af
def eZ(x:qt×jW×aj)(a:ef×aj×Sb×aj):Option (FR⊕FQ) :=
 ak (aL a.1.2.1<|len x.1.2.1) (ae (idx x.1.2.1 a.1.2.1) λb=>ae (dU (b,())) λc=>ak (bg c.1 a.2.2.1)
 (aa<|az (1,(a.1.2.1,a.1.2.1,()),(),a.2.2.1,())) (aa<|ay ((a.1.1,aw i64 a.1.2.1 1,()),(),a.2.2.1,())))
 (aa<|az (0,(a.1.1,a.1.2.1,()),(),a.2.2.1,()))
def rk(b:(aj×aj)×(List jW)×aj)(a:ef×aj×jW×aj):Option ((ef×aj×jW×aj)⊕aaQ) :=
 ak (aL a.1.2.1<|len b.2.1) (ak (within a.1.2.1<|len b.2.1)
 (ae (idx b.2.1 a.1.2.1) λc=>ae (dU (c,())) λd=>ae (dU (a.2.2.1,())) λe=>ak (nt<|fZ d.1 e.1)
 (aa<|az (1,(a.1.2.1,a.1.2.1,()),(),a.2.2.1,())) (aa<|ay ((a.1.1,aw i64 a.1.2.1 1,()),(),a.2.2.1,())))
 af)
 (aa<|az (0,(a.1.1,a.1.2.1,()),(),a.2.2.1,()))
def rl(b:(aj×aj)×(List jW)×aj)(a:ef×aj×jW×aj):Option ((ef×aj×jW×aj)⊕aaQ) :=
 ak (aL a.1.2.1<|len b.2.1) (ak (within a.1.2.1<|len b.2.1)
 (ae (idx b.2.1 a.1.2.1) λc=>ae (dU (c,())) λd=>ae (dU (a.2.2.1,())) λe=>ak (nt<|fZ d.1 e.1)
 (aa<|az (1,(a.1.2.1,a.1.2.1,()),(),a.2.2.1,())) (aa<|ay ((a.1.1,aw i64 a.1.2.1 1,()),(),a.2.2.1,())))
 af)
 (aa<|az (0,(a.1.1,a.1.2.1,()),(),a.2.2.1,()))
def gD(x:qt×jW×aj):Option (qt×aj) :=
 ae (aX (x.2.1.2.1,())) (λe=>ae (bN (x.2.1.2.2.2.2.1,())) λf=>ae (dU ((x.2.1.1,e.1,x.2.1.2.2.1,x.2.1.2.2.2.1,f.1,x.2.1.2.2.2.2.2),())) λg=>ak (fits<|len x.1.2.1)
 (ae (Loop (eZ x) ((0,0,()),(),g.1,())) λd=>ak (cm d.1 0)
 (ae (ak (cl 0<|-1)
 (ae (bt x.1.2.1 ((-1),aw i64 (-1) 1,())) λa=>aa (((),()),a,())) (aa (((),()),x.1.2.1,()))) λa=>ae (Loop (rk a) ((0,0,()),(),(x.2.1.1,e.1,x.2.1.2.2.1,x.2.1.2.2.2.1,f.1,x.2.1.2.2.2.2.2),())) λb=>ak (cm b.1 0)
 (ae (bS a.2.1 (((ak (aL (-1) 0)
 ((len a.2.1,()),()) (((-1),()),())).1).1,([b.2.2.2.1]:List jW),())) λc=>aa ((x.1.1,c,x.1.2.2),()))
 (ae (bS a.2.1 (((ak (aL b.2.1.1 0)
 ((len a.2.1,()),()) ((b.2.1.1,()),())).1).1,([b.2.2.2.1]:List jW),())) λc=>aa ((x.1.1,c,x.1.2.2),())))
 (ae (ak (cl 0 d.2.1.1)
 (ae (bt x.1.2.1 (d.2.1.1,aw i64 d.2.1.1 1,())) λa=>aa (((),()),a,())) (aa (((),()),x.1.2.1,()))) λa=>ae (Loop (rl a) ((0,0,()),(),(x.2.1.1,e.1,x.2.1.2.2.1,x.2.1.2.2.2.1,f.1,x.2.1.2.2.2.2.2),())) λb=>ak (cm b.1 0)
 (ae (bS a.2.1 (((ak (aL (-1) 0)
 ((len a.2.1,()),()) (((-1),()),())).1).1,([b.2.2.2.1]:List jW),())) λc=>aa ((x.1.1,c,x.1.2.2),()))
 (ae (bS a.2.1 (((ak (aL b.2.1.1 0)
 ((len a.2.1,()),()) ((b.2.1.1,()),())).1).1,([b.2.2.2.1]:List jW),())) λc=>aa ((x.1.1,c,x.1.2.2),()))))
 af)
def rm(x:qt×Sb×(List Sb)×Sb×Int×aj):Option (qt×TD×aj) :=
 ae (gB (x.2.2.1,())) (λe=>ak (ak (nt<|nt<|aD e.1 0)
 (aL 64<|len x.2.2.2.1) true)
 (ae (jh (1,())) λa=>aa (x.1,a.1,())) (ae (ak (nt<|bg x.2.1 [])
 (ae (eP (x.1,x.2.1,())) λa=>aa ((a.2.1,()),([],x.2.2.1,a.1,x.2.2.2.1,[],()),())) (aa ((0,()),([],x.2.2.1,[],x.2.2.2.1,[],()),()))) λa=>ae (ak (aD a.1.1 0) (ae (gJ (x.1,())) λd=>ae (iz (d.1,[],x.2.2.1,())) λb=>aa ((b.1,()),())) (aa ((a.1.1,()),()))) λd=>ae (ak (aD d.1.1 0) (ae (gJ (x.1,())) λb=>ae (ji (b.1,x.2.2.2.2.1,())) λc=>aa ((c.2.1,()),(c.1,a.2.1.2),())) (aa ((d.1.1,()),a.2.1,()))) λb=>ak (nt<|aD b.1.1 0)
 (ae (jh (b.1.1,())) λc=>aa (x.1,c.1,())) (ae (gD (x.1,b.2.1,())) λc=>aa (c.1,(0,b.2.1.1,0,[],()),()))))
def nQ(x:qt×Sb×aj):Option (Sb×Int×aj) :=ae (gJ (x.1,())) (λb=>ae (iM (b.1,x.2.1,())) λa=>aa (a.1,a.2.1,()))
def mL(x:qt×Sb×aj)(a:ef×Sb×aj):Option (Hl⊕Hj) :=
 ak (aL a.1.2.1<|len x.1.1) (ae (idx x.1.1 a.1.2.1) λb=>ak (bg b.2.2.1 a.2.1)
 (aa<|az (1,(a.1.2.1,a.1.2.1,()),a.2.1,())) (aa<|ay ((a.1.1,aw i64 a.1.2.1 1,()),a.2.1,())))
 (aa<|az (0,(a.1.1,a.1.2.1,()),a.2.1,()))
def mM(x:qt×Sb×aj)(a:ef×aj×Sb×aj):Option (FR⊕FQ) :=
 ak (aL a.1.2.1<|len x.1.2.1) (ae (idx x.1.2.1 a.1.2.1) λb=>ae (dU (b,())) λc=>ak (bg c.1 a.2.2.1)
 (aa<|az (1,(a.1.2.1,a.1.2.1,()),(),a.2.2.1,())) (aa<|ay ((a.1.1,aw i64 a.1.2.1 1,()),(),a.2.2.1,())))
 (aa<|az (0,(a.1.1,a.1.2.1,()),(),a.2.2.1,()))
def FT(x:qt×Sb×aj)(a:ef×aj×Sb×aj):Option (FR⊕FQ) :=
 ak (aL a.1.2.1<|len x.1.2.1) (ae (idx x.1.2.1 a.1.2.1) λb=>ae (dU (b,())) λc=>ak (bg c.1 a.2.2.1)
 (aa<|az (1,(a.1.2.1,a.1.2.1,()),(),a.2.2.1,())) (aa<|ay ((a.1.1,aw i64 a.1.2.1 1,()),(),a.2.2.1,())))
 (aa<|az (0,(a.1.1,a.1.2.1,()),(),a.2.2.1,()))
def rn(x:qt×Sb×aj):Option (qt×TD×aj) :=
 ae (nQ (x.1,x.2.1,())) (λd=>ak (nt<|aD d.2.1 0)
 (ae (jh (d.2.1,())) λc=>aa (x.1,c.1,())) (ae (Loop (mL x) ((0,0,()),d.1,())) λc=>ak (cm c.1 0)
 (ak (cl 0<|-1)
 (ae (jh (7,())) λb=>aa (x.1,b.1,())) (ak (fits<|len x.1.2.1)
 (ae (Loop (mM x) ((0,0,()),(),c.2.2.1,())) λb=>ak (cm b.1 0)
 (ae (ak (cl 0<|-1)
 (ae (bt x.1.2.1 ((-1),aw i64 (-1) 1,())) λa=>aa (((),()),a,())) (aa (((),()),x.1.2.1,()))) λa=>aa ((x.1.1,a.2.1,x.1.2.2),(0,c.2.2.1,0,[],()),()))
 (ae (ak (cl 0 b.2.1.1)
 (ae (bt x.1.2.1 (b.2.1.1,aw i64 b.2.1.1 1,())) λa=>aa (((),()),a,())) (aa (((),()),x.1.2.1,()))) λa=>aa ((x.1.1,a.2.1,x.1.2.2),(0,c.2.2.1,0,[],()),())))
 af))
 (ak (cl 0 c.2.1.1)
 (ae (jh (7,())) λb=>aa (x.1,b.1,())) (ak (fits<|len x.1.2.1)
 (ae (Loop (FT x) ((0,0,()),(),c.2.2.1,())) λb=>ak (cm b.1 0)
 (ae (ak (cl 0<|-1)
 (ae (bt x.1.2.1 ((-1),aw i64 (-1) 1,())) λa=>aa (((),()),a,())) (aa (((),()),x.1.2.1,()))) λa=>aa ((x.1.1,a.2.1,x.1.2.2),(0,c.2.2.1,0,[],()),()))
 (ae (ak (cl 0 b.2.1.1)
 (ae (bt x.1.2.1 (b.2.1.1,aw i64 b.2.1.1 1,())) λa=>aa (((),()),a,())) (aa (((),()),x.1.2.1,()))) λa=>aa ((x.1.1,a.2.1,x.1.2.2),(0,c.2.2.1,0,[],()),())))
 af))))
def rp(x:qt×Sb×aj)(a:IP×jW×aj):Option ((IP×jW×aj)⊕(Nat×IP×jW×aj)) :=
 ak (aL a.1.2.1<|len x.1.2.1) (ae (idx x.1.2.1 a.1.2.1) λb=>ak (bg b.1 x.2.1)
 (ae (aX (b.2.1,())) λc=>ae (bN (b.2.2.2.2.1,())) λd=>aa (az (1,(true,a.1.2.1,()),(b.1,c.1,b.2.2.1,b.2.2.2.1,d.1,b.2.2.2.2.2),()))) (aa<|ay ((a.1.1,aw i64 a.1.2.1 1,()),a.2.1,())))
 (aa<|az (0,(a.1.1,a.1.2.1,()),a.2.1,()))
def pU(x:qt×Sb×aj):Option (jW×Bool×aj) :=
 ae (Loop (rp x) ((false,0,()),([],[],[],[],[],()),())) (λa=>ak (cm a.1 0)
 (aa (([],[],[],[],[],()),false,())) (aa (a.2.2.1,a.2.1.1,())))
def jj(x:(List cY)×Sb×Sb×aj)(a:ef×aj):Option ((ef×aj)⊕(ef×aj)) :=
 cr (ak (cl 0 a.1.2.1)
 (ae (idx x.1 a.1.2.1) λb=>aa (ay ((((ak (bg b.1 x.2.1)
 ((a.1.2.1,()),()) ((a.1.1,()),())).1).1,cG i64 a.1.2.1 1,()),())))
 (aa<|az (0,(a.1.1,a.1.2.1,()),())))
def jk(x:(List cY)×Sb×Sb×aj)(c:ef×aj)(a:zq×(List cY)×aj):Option ((zq×(List cY)×aj)⊕(zq×(List cY)×aj)) :=
 cr (ak (aL a.1.2.1<|len x.1)
 (ae (ak (nt<|aD a.1.2.1 c.1.1)
 (ae (idx x.1 a.1.2.1) λb=>ak (fits<|plus (len a.2.1)<|len [b])
 (aa (((),()),app a.2.1 [b],())) af)
 (aa (((),()),a.2.1,()))) λb=>aa (ay (((),aw i64 a.1.2.1 1,()),b.2.1,())))
 (aa<|az (0,((),a.1.2.1,()),a.2.1,())))
def jl(x:(List cY)×Sb×Sb×aj)(b:zq×(List cY)×aj)(a:(Int×aj)×aj):Option (((Int×aj)×aj)⊕((Int×aj)×aj)) :=
 cr (ae (ak (aL a.1.1<|len b.2.1)
 (ak (within a.1.1<|len b.2.1)
 (ae (idx b.2.1 a.1.1) λc=>aa (fZ c.1 x.2.1)) af)
 (aa false)) λc=>ak c
 (aa<|ay ((aw i64 a.1.1 1,()),())) (aa<|az (0,(a.1.1,()),())))
def rq(x:(List cY)×Sb×Sb×aj):Option ((List cY)×Int×aj) :=
 ae (oZ (x.2.1,())) (λe=>ak (ak (nt<|nt e.1)
 (aL 64<|len x.2.2.1) true)
 (aa ([],1,())) (ae (Loop (jj x) (((-1),cG i64 (len x.1) 1,()),())) λd=>ak (ak (aL d.1.1 0)
 (cl 4<|len x.1) false)
 (aa ([],5,())) (ae (Loop (jk x d) (((),0,()),[],())) λa=>ae (Loop (jl x a) ((0,()),())) λb=>ak (inside 0 b.1.1<|len a.2.1)
 (ak (fits<|plus (len ([]:List cY))<|len<|sub a.2.1 0<|minus b.1.1 0)
 (ae (uJ (x.2.2.1,())) λc=>ak (fits<|plus (len<|app []<|sub a.2.1 0<|minus b.1.1 0)<|len ([(x.2.1,c.1,x.2.2.1,())]:List cY))
 (ak (inside b.1.1 (len a.2.1)<|len a.2.1)
 (ak (fits<|plus (len<|app (app []<|sub a.2.1 0<|minus b.1.1 0) [(x.2.1,c.1,x.2.2.1,())])<|len<|sub a.2.1 b.1.1<|minus (len a.2.1) b.1.1)
 (aa (app (app (app []<|sub a.2.1 0<|minus b.1.1 0) [(x.2.1,c.1,x.2.2.1,())])<|sub a.2.1 b.1.1<|minus (len a.2.1) b.1.1,0,())) af)
 af)
 af)
 af)
 af)))
def mN(x:(List cY)×Sb×aj)(a:D4×aj):Option ((D4×aj)⊕(Nat×D4×aj)) :=
 ak (aL a.1.2.2.1<|len x.1) (ae (idx x.1 a.1.2.2.1) λb=>ak (bg b.1 x.2.1)
 (ae (idx x.1 a.1.2.2.1) λc=>aa (az (1,(c.2.2.1,0,a.1.2.2.1,()),()))) (aa<|ay ((a.1.1,a.1.2.1,aw i64 a.1.2.2.1 1,()),())))
 (aa<|az (0,(a.1.1,a.1.2.1,a.1.2.2.1,()),()))
def rr(x:(List cY)×Sb×aj):Option (Sb×Int×aj) :=
 ae (Loop (mN x) (([],0,0,()),())) (λa=>ak (cm a.1 0)
 (aa ([],3,())) (aa (a.2.1.1,a.2.1.2.1,())))
def fh(x:(List cY)×(List cY)×aj)(a:IP×aj):Option (aib⊕aia) :=
 ak (ak (aL a.1.2.1<|len x.1)
 (aL a.1.2.1<|len x.2.1) false)
 (ae (idx x.1 a.1.2.1) λb=>ae (idx x.2.1 a.1.2.1) λc=>ak (nt<|an (bg b.1 c.1)<|an (bg b.2.1 c.2.1)<|an (bg b.2.2.1 c.2.2.1) true)
 (aa<|az (1,(false,a.1.2.1,()),())) (aa<|ay ((a.1.1,aw i64 a.1.2.1 1,()),())))
 (aa<|az (0,(a.1.1,a.1.2.1,()),()))
def fI(x:(List cY)×(List cY)×aj):Option (Bool×aj) :=
 ak (nt<|aD (len x.1)<|len x.2.1) (aa (false,())) (ae (Loop (fh x) ((false,0,()),())) λa=>ak (cm a.1 0)
 (aa (true,())) (aa (a.2.1.1,())))
end Go.Ge
namespace Go.Ge
variable [Lp]
set_option maxRecDepth 100000
abbrev kC:=(Sb×Sb×(List Sb)×Sb×Int×Int×Bool×aj)
abbrev Hn:=(Sb×(List Sb)×Sb×Sb×Sb×(List<|Sb×Sb×Sb×aj)×aj)
abbrev Ho:=(Sb×(List Sb)×Sb×Sb×(List<|Sb×Sb×Sb×aj)×aj)
abbrev xw:=((List Hn)×(List Ho)×(List kC)×(List Sb)×(List<|Sb×Int×aj)×aj)
abbrev LQ:=(Sb×Int×Int×Sb×Sb×aj)
abbrev zt:=(Bool×Int×aj)
abbrev aaR:=(Nat×(Int×Int×aj)×aj)
abbrev D5:=(Nat×zt×aj)
abbrev NI:=(Sb×(List kC)×Int×aj×Int×aj)
abbrev Wh:=((Int×Int×aj)×aj)
abbrev NJ:=((List LQ)×Int×(List LQ)×Int×aj)
abbrev AF:=(zt×aj)
abbrev Hp:=(Sb×Int×aj)
def tq(x:(List kC)×aj)(a:zt×aj):Option (AF⊕D5) :=
 ak (ak (aL a.1.2.1<|len x.1)
 (aL a.1.2.1 40) false)
 (ae (idx x.1 a.1.2.1) λc=>ae (ak (nt<|aL 100<|len c.1)
 (ae (idx x.1 a.1.2.1) λb=>aa (aL 100<|len b.2.1)) (aa true)) λb=>ak b
 (aa<|az (1,(false,a.1.2.1,()),())) (aa<|ay ((a.1.1,aw i64 a.1.2.1 1,()),())))
 (aa<|az (0,(a.1.1,a.1.2.1,()),()))
def zu(x:(List kC)×aj):Option (Bool×aj) :=
 ae (Loop (tq x) ((false,0,()),())) (λa=>ak (cm a.1 0)
 (aa (cl (len x.1) 40,())) (aa (a.2.1.1,())))
def tr(x:xw×aj)(a:zt×aj):Option (AF⊕D5) :=
 ak (ak (aL a.1.2.1<|len x.1.2.2.2.1)
 (aL a.1.2.1 12) false)
 (ae (idx x.1.2.2.2.1 a.1.2.1) λb=>ak (aL 8192<|len b)
 (aa<|az (1,(false,a.1.2.1,()),())) (aa<|ay ((a.1.1,aw i64 a.1.2.1 1,()),())))
 (aa<|az (0,(a.1.1,a.1.2.1,()),()))
def wb(x:xw×aj):Option (Bool×aj) :=
 ae (Loop (tr x) ((false,0,()),())) (λb=>ak (cm b.1 0)
 (ae (ss ((0,x.1.2.2.1,x.1.2.1,x.1.1,()),())) λc=>ae (ak c.1
 (ae (zu (x.1.2.2.1,())) λa=>aa a.1) (aa false)) λa=>aa (ak (ak (ak a
 (cl (len x.1.2.2.1) 12) false)
 (cl (len x.1.2.2.2.1) 12) false)
 (cl (len x.1.2.2.2.2.1) 40) false,()))
 (aa (b.2.1.1,())))
def La(x:(List kC)×Sb×aj)(a:(Int×Int×aj)×aj):Option (Wh⊕aaR) :=
 ak (aL a.1.2.1<|len x.1) (ae (idx x.1 a.1.2.1) λb=>ak (bg b.1 x.2.1)
 (aa<|az (1,(a.1.2.1,a.1.2.1,()),())) (aa<|ay ((a.1.1,aw i64 a.1.2.1 1,()),())))
 (aa<|az (0,(a.1.1,a.1.2.1,()),()))
def Bo(x:(List kC)×Sb×aj):Option (Int×aj) :=
 ae (Loop (La x) ((0,0,()),())) (λa=>ak (cm a.1 0)
 (aa ((-1),())) (aa (a.2.1.1,())))
def l8(x:(List kC)×Sb×aj)(a:NI×(List kC)×aj):Option ((NI×(List kC)×aj)⊕(Nat×NI×(List kC)×aj)) :=
 ak (cl a.1.2.2.2.2.1 16) (ae (Bo (x.1,a.1.1,())) λb=>ak (aL b.1 0)
 (aa<|az (1,(a.1.1,[],3,(),a.1.2.2.2.2.1,()),a.2.1,())) (ak (aD a.1.2.2.2.2.1 16)
 (aa<|az (1,(a.1.1,[],5,(),a.1.2.2.2.2.1,()),a.2.1,())) (ae (idx x.1 b.1) λc=>ak (fits<|plus (len a.2.1)<|len [c])
 (ae (idx x.1 b.1) λd=>ak (bg d.2.1 [])
 (aa<|az (1,(a.1.1,app a.2.1 [c],0,(),a.1.2.2.2.2.1,()),app a.2.1 [c],())) (ae (idx x.1 b.1) λe=>aa (ay ((e.2.1,a.1.2.1,a.1.2.2.1,(),aw i64 a.1.2.2.2.2.1 1,()),app a.2.1 [c],()))))
 af)))
 (aa<|az (0,(a.1.1,a.1.2.1,a.1.2.2.1,(),a.1.2.2.2.2.1,()),a.2.1,()))
def nR(x:(List kC)×Sb×aj):Option ((List kC)×Int×aj) :=
 ae (Loop (l8 x) ((x.2.1,[],0,(),0,()),[],())) (λa=>ak (cm a.1 0)
 (aa ([],5,())) (aa (a.2.1.2.1,a.2.1.2.2.1,())))
def Lb(x:xw×Sb×aj)(a:(Int×Int×aj)×aj):Option (Wh⊕aaR) :=
 ak (aL a.1.2.1<|len x.1.2.2.1) (ae (idx x.1.2.2.1 a.1.2.1) λb=>ak (bg b.1 x.2.1)
 (aa<|az (1,(a.1.2.1,a.1.2.1,()),())) (aa<|ay ((a.1.1,aw i64 a.1.2.1 1,()),())))
 (aa<|az (0,(a.1.1,a.1.2.1,()),()))
def tu(x:xw×Sb×aj):Option (Int×aj) :=
 ae (Loop (Lb x) ((0,0,()),())) (λa=>ak (cm a.1 0)
 (aa ((-1),())) (aa (a.2.1.1,())))
def kD(x:xw×Int×aj):Option (Sb×aj) :=ak (aL x.2.1<|len x.1.2.2.2.1) (ae (idx x.1.2.2.2.1 x.2.1) λa=>aa (a,())) (aa ([],()))
def jm(x:(List Sb)×aj)(a:NJ×aj):Option ((NJ×aj)⊕(Nat×NJ×aj)) :=
 ak (aL a.1.2.2.2.1<|len x.1) (ae (idx x.1 a.1.2.2.2.1) λc=>ae (qF (a.1.2.2.1,c,())) λb=>ak (nt<|aD b.2.1 0)
 (aa<|az (1,([],b.2.1,a.1.2.2.1,a.1.2.2.2.1,()),())) (aa<|ay ((a.1.1,a.1.2.1,b.1,aw i64 a.1.2.2.2.1 1,()),())))
 (aa<|az (0,(a.1.1,a.1.2.1,a.1.2.2.1,a.1.2.2.2.1,()),()))
def zv(x:(List Sb)×aj):Option ((List LQ)×Int×aj) :=
 ae (Loop (jm x) (([],0,[],0,()),())) (λa=>ak (cm a.1 0)
 (aa (a.2.1.2.2.1,0,())) (aa (a.2.1.1,a.2.1.2.1,())))
def nw(x:xw×Sb×aj)(c:(List kC)×Int×aj)(a:(aj×Int×aj)×(List Sb)×aj):Option (((aj×Int×aj)×(List Sb)×aj)⊕((aj×Int×aj)×(List Sb)×aj)) :=
 cr (ak (cl 0 a.1.2.1)
 (ae (idx c.1 a.1.2.1) λd=>ae (tu (x.1,d.1,())) λe=>ae (kD (x.1,e.1,())) λb=>ak (fits<|plus (len a.2.1)<|len [b.1])
 (aa<|ay (((),cG i64 a.1.2.1 1,()),app a.2.1 [b.1],())) af)
 (aa<|az (0,((),a.1.2.1,()),a.2.1,())))
def mO(x:xw×Sb×aj):Option ((List LQ)×Int×aj) :=
 ae (nR (x.1.2.2.1,x.2.1,())) (λa=>ak (nt<|aD a.2.1 0)
 (aa ([],a.2.1,())) (ae (Loop (nw x a) (((),cG i64 (len a.1) 1,()),[],())) λc=>ae (zv (c.2.1,())) λb=>aa (b.1,b.2.1,())))
def gK(x:(List Hn)×(List Hn)×aj)(a:zt×aj):Option (AF⊕D5) :=
 ak (ak (aL a.1.2.1<|len x.1)
 (aL a.1.2.1<|len x.2.1) false)
 (ae (idx x.1 a.1.2.1) λb=>ae (idx x.2.1 a.1.2.1) λc=>ae (ak (nt<|nt<|bg b.1 c.1)
 (ae (dY (b.2.1,c.2.1,())) λd=>aa (nt d.1)) (aa true)) λd=>ae (ak (nt<|ak (nt<|ak (nt<|ak (nt d)
 (nt<|bg b.2.2.1 c.2.2.1) true)
 (nt<|bg b.2.2.2.1 c.2.2.2.1) true)
 (nt<|bg b.2.2.2.2.1 c.2.2.2.2.1) true)
 (ae (fI (b.2.2.2.2.2.1,c.2.2.2.2.2.1,())) λe=>aa (nt e.1)) (aa true)) λe=>ak e
 (aa<|az (1,(false,a.1.2.1,()),())) (aa<|ay ((a.1.1,aw i64 a.1.2.1 1,()),())))
 (aa<|az (0,(a.1.1,a.1.2.1,()),()))
def kE(x:(List Hn)×(List Hn)×aj):Option (Bool×aj) :=
 ak (nt<|aD (len x.1)<|len x.2.1) (aa (false,())) (ae (Loop (gK x) ((false,0,()),())) λa=>ak (cm a.1 0)
 (aa (true,())) (aa (a.2.1.1,())))
def gh(x:(List Ho)×(List Ho)×aj)(a:zt×aj):Option (AF⊕D5) :=
 ak (ak (aL a.1.2.1<|len x.1)
 (aL a.1.2.1<|len x.2.1) false)
 (ae (idx x.1 a.1.2.1) λb=>ae (idx x.2.1 a.1.2.1) λc=>ae (ak (nt<|nt<|bg b.1 c.1)
 (ae (dY (b.2.1,c.2.1,())) λd=>aa (nt d.1)) (aa true)) λd=>ae (ak (nt<|ak (nt<|ak (nt d)
 (nt<|bg b.2.2.1 c.2.2.1) true)
 (nt<|bg b.2.2.2.1 c.2.2.2.1) true)
 (ae (fI (b.2.2.2.2.1,c.2.2.2.2.1,())) λe=>aa (nt e.1)) (aa true)) λe=>ak e
 (aa<|az (1,(false,a.1.2.1,()),())) (aa<|ay ((a.1.1,aw i64 a.1.2.1 1,()),())))
 (aa<|az (0,(a.1.1,a.1.2.1,()),()))
def jn(x:(List Ho)×(List Ho)×aj):Option (Bool×aj) :=
 ak (nt<|aD (len x.1)<|len x.2.1) (aa (false,())) (ae (Loop (gh x) ((false,0,()),())) λa=>ak (cm a.1 0)
 (aa (true,())) (aa (a.2.1.1,())))
def gi(x:(List kC)×(List kC)×aj)(a:zt×aj):Option (AF⊕D5) :=
 ak (ak (aL a.1.2.1<|len x.1)
 (aL a.1.2.1<|len x.2.1) false)
 (ae (idx x.1 a.1.2.1) λb=>ae (idx x.2.1 a.1.2.1) λc=>ae (ak (nt<|ak (nt<|nt<|bg b.1 c.1)
 (nt<|bg b.2.1 c.2.1) true)
 (ae (dY (b.2.2.1,c.2.2.1,())) λd=>aa (nt d.1)) (aa true)) λd=>ak (ak (nt<|ak (nt<|ak (nt<|ak (nt d)
 (nt<|bg b.2.2.2.1 c.2.2.2.1) true)
 (nt<|aD b.2.2.2.2.1 c.2.2.2.2.1) true)
 (nt<|aD b.2.2.2.2.2.1 c.2.2.2.2.2.1) true)
 (nt<|Yc b.2.2.2.2.2.2.1 c.2.2.2.2.2.2.1) true)
 (aa<|az (1,(false,a.1.2.1,()),())) (aa<|ay ((a.1.1,aw i64 a.1.2.1 1,()),())))
 (aa<|az (0,(a.1.1,a.1.2.1,()),()))
def jo(x:(List kC)×(List kC)×aj):Option (Bool×aj) :=
 ak (nt<|aD (len x.1)<|len x.2.1) (aa (false,())) (ae (Loop (gi x) ((false,0,()),())) λa=>ak (cm a.1 0)
 (aa (true,())) (aa (a.2.1.1,())))
def gj(x:(List Hp)×(List Hp)×aj)(a:zt×aj):Option (AF⊕D5) :=
 ak (ak (aL a.1.2.1<|len x.1)
 (aL a.1.2.1<|len x.2.1) false)
 (ae (idx x.1 a.1.2.1) λb=>ae (idx x.2.1 a.1.2.1) λc=>ak (nt<|an (bg b.1 c.1)<|an (aD b.2.1 c.2.1) true)
 (aa<|az (1,(false,a.1.2.1,()),())) (aa<|ay ((a.1.1,aw i64 a.1.2.1 1,()),())))
 (aa<|az (0,(a.1.1,a.1.2.1,()),()))
def jq(x:(List Hp)×(List Hp)×aj):Option (Bool×aj) :=
 ak (nt<|aD (len x.1)<|len x.2.1) (aa (false,())) (ae (Loop (gj x) ((false,0,()),())) λa=>ak (cm a.1 0)
 (aa (true,())) (aa (a.2.1.1,())))
def mP(x:xw×xw×aj):Option (Bool×aj) :=
 ae (kE (x.1.1,x.2.1.1,())) (λe=>ae (ak e.1
 (ae (jn (x.1.2.1,x.2.1.2.1,())) λa=>aa a.1) (aa false)) λa=>ae (ak a (ae (jo (x.1.2.2.1,x.2.1.2.2.1,())) λb=>aa b.1) (aa false)) λb=>ae (ak b (ae (dY (x.1.2.2.2.1,x.2.1.2.2.2.1,())) λc=>aa c.1) (aa false)) λc=>ae (ak c (ae (jq (x.1.2.2.2.2.1,x.2.1.2.2.2.2.1,())) λd=>aa d.1) (aa false)) λd=>aa (d,()))
end Go.Ge
namespace Go.Ge
variable [Lp]
set_option maxRecDepth 100000
abbrev de:=((List<|Sb×(List Sb)×Sb×Sb×Sb×(List<|Sb×Sb×Sb×aj)×aj)×(List<|Sb×(List Sb)×Sb×Sb×(List<|Sb×Sb×Sb×aj)×aj)×(List<|Sb×Sb×(List Sb)×Sb×Int×Int×Bool×aj)×(List Sb)×(List<|Sb×Int×aj)×aj)
abbrev cJ:=(Sb×Sb×(List Sb)×Sb×Int×Int×Bool×aj)
abbrev r5:=(Sb×Int×aj)
abbrev Bp:=(Int×Sb×Int×Sb×aj)
abbrev Za:=(Sb×Int×Int×Sb×Sb×aj)
abbrev CY:=(Nat×(Int×Int×aj)×Sb×aj)
abbrev CZ:=((Int×Int×aj)×Sb×aj)
abbrev Zb:=(Sb×(List Sb)×Sb×Sb×Sb×(List<|Sb×Sb×Sb×aj)×aj)
abbrev zX:=(Sb×Int×Int×aj)
abbrev Bq:=(Sb×(List Sb)×aj)
abbrev TE:=(Sb×(List Sb)×Sb×Sb×(List<|Sb×Sb×Sb×aj)×aj)
abbrev D6:=((List cJ)×Int×aj×Sb×Int×aj)
abbrev iA:=(Int×Int×aj)
abbrev zw:=((List cJ)×Int×aj×Sb×aj)
abbrev D7:=(Int×Sb×Int×aj)
abbrev TF:=(Nat×iA×aj×Sb×aj)
abbrev Hq:=(bb×(bb×((List bb)×(bb×(Int×(Int×(Bool×aj)))))))
abbrev aaS:=((aj×aj×Bool×Int×aj)×(List Sb)×(List cJ)×aj)
abbrev TG:=(iA×aj×Sb×aj)
abbrev aaT:=((Int×Int×aj×aj)×Sb×(List r5)×aj)
abbrev LR:=(Nat×zX×aj)
def gL(l:List bb)(x:(Int×((List bb)×aj))):Option (List bb):=uI l x.1 x.2.1
def eQ(l:List Hq)(x:(Int×((List Hq)×aj))):Option (List Hq):=uI l x.1 x.2.1
def gM(l:List bb)(x:(Int×(Int×aj))):Option (List bb):=K6 l x.1 x.2.1
def eR(l:List Hq)(x:(Int×(Int×aj))):Option (List Hq):=K6 l x.1 x.2.1
def iN(l:List (bb×(Int×aj)))(x:(Int×((List<|bb×(Int×aj))×aj))):Option (List<|bb×(Int×aj)):=uI l x.1 x.2.1
def zY(x:aj):Option (Sb×aj) :=ae (pA ([0],1024,())) (λa=>aa (a.1,()))
def l9(x:(List cJ)×Sb×aj)(a:D6×(List cJ)×aj):Option ((D6×(List cJ)×aj)⊕(Nat×D6×(List cJ)×aj)) :=
 ak (aL a.1.2.2.2.2.1<|len x.1) (ae (idx x.1 a.1.2.2.2.2.1) λb=>ak (nt<|bg b.1 a.1.2.2.2.1)
 (aa<|ay ((a.1.1,a.1.2.1,(),a.1.2.2.2.1,aw i64 a.1.2.2.2.2.1 1,()),a.2.1,())) (ak (aD (len a.2.1) 16)
 (aa<|az (1,([],5,(),a.1.2.2.2.1,a.1.2.2.2.2.1,()),a.2.1,())) (ae (aX (b.2.2.1,())) λc=>ak (fits<|plus (len a.2.1)<|len ([(b.1,b.2.1,c.1,b.2.2.2)]:List cJ))
 (ak (bg b.2.1 [])
 (aa<|az (2,(a.1.1,a.1.2.1,(),a.1.2.2.2.1,a.1.2.2.2.2.1,()),app a.2.1 [(b.1,b.2.1,c.1,b.2.2.2)],())) (aa<|az (3,(a.1.1,a.1.2.1,(),b.2.1,a.1.2.2.2.2.1,()),app a.2.1 [(b.1,b.2.1,c.1,b.2.2.2)],())))
 af)))
 (aa<|az (0,(a.1.1,a.1.2.1,(),a.1.2.2.2.1,a.1.2.2.2.2.1,()),a.2.1,()))
def pV(x:(List cJ)×Sb×aj)(c:zw×(List cJ)×aj):Option ((zw×(List cJ)×aj)⊕(Nat×zw×(List cJ)×aj)) :=
 ae (Loop (l9 x) ((c.1.1,c.1.2.1,(),c.1.2.2.2.1,0,()),c.2.1,())) (λa=>ak (cm a.1 0)
 (aa<|az (0,([],3,(),a.2.1.2.2.2.1,()),a.2.2.1,())) (ak (cm (@Nat.rec (λ(b:Nat)=>Nat) 0 (λ(b:Nat)=>λ(d:Nat)=>b) a.1) 0)
 (aa<|az (0,(a.2.1.1,a.2.1.2.1,(),a.2.1.2.2.2.1,()),a.2.2.1,())) (ak (cm (@Nat.rec (λ(b:Nat)=>Nat) 0 (λ(b:Nat)=>λ(d:Nat)=>b)<|@Nat.rec (λ(b:Nat)=>Nat) 0 (λ(b:Nat)=>λ(d:Nat)=>b) a.1) 0)
 (aa<|az (1,(a.2.1.1,a.2.1.2.1,(),a.2.1.2.2.2.1,()),a.2.2.1,())) (aa<|ay ((a.2.1.1,a.2.1.2.1,(),a.2.1.2.2.2.1,()),a.2.2.1,())))))
def vA(x:(List cJ)×Sb×aj):Option ((List cJ)×Int×aj) :=
 ae (Loop (pV x) (([],0,(),x.2.1,()),[],())) (λa=>ak (cm a.1 0)
 (aa (a.2.1.1,a.2.1.2.1,())) (aa (a.2.2.1,0,())))
def nS(x:de×aj):Option ((List Sb)×aj) :=
 ak (inside 0 (len x.1.2.2.1)<|len x.1.2.2.1) (ak (fits<|len x.1.2.2.1)
 (aa (over (lh (len x.1.2.2.1) []) 0<|@mZ Sb x.1.2.2.2.1<|len<|lh (len x.1.2.2.1) ([]:bb),())) af)
 af
def wH(x:cJ×aj):Option (Sb×aj) :=aa (x.1.1,())
def IV(x:de×Sb×aj)(a:iA×aj×Sb×aj):Option (TG⊕TF) :=
 ak (aL a.1.2.1<|len x.1.2.2.1) (ae (idx x.1.2.2.1 a.1.2.1) λb=>ae (wH (b,())) λc=>ak (bg c.1 a.2.2.1)
 (aa<|az (1,(a.1.2.1,a.1.2.1,()),(),a.2.2.1,())) (aa<|ay ((a.1.1,aw i64 a.1.2.1 1,()),(),a.2.2.1,())))
 (aa<|az (0,(a.1.1,a.1.2.1,()),(),a.2.2.1,()))
def kX(x:de×Sb×aj):Option (cJ×Sb×Bool×aj) :=
 ae (ae (Loop (IV x) ((0,0,()),(),x.2.1,())) λa=>ak (cm a.1 0)
 (aa (((-1),()),(),a.2.2.2.1,())) (aa ((a.2.1.1,()),(),a.2.2.2.1,()))) (λa=>ak (aL a.1.1 0) (aa (([],[],[],[],0,0,false,()),[],false,())) (ae (idx x.1.2.2.1 a.1.1) λb=>ae (aX (b.2.2.1,())) λc=>ae (nS (x.1,())) λd=>ae (idx d.1 a.1.1) λe=>aa ((b.1,b.2.1,c.1,b.2.2.2),e,true,())))
def Lc(x:de×Sb×aj)(a:D6×(List cJ)×aj):Option ((D6×(List cJ)×aj)⊕(Nat×D6×(List cJ)×aj)) :=
 ak (aL a.1.2.2.2.2.1<|len x.1.2.2.1) (ae (idx x.1.2.2.1 a.1.2.2.2.2.1) λb=>ak (nt<|bg b.1 a.1.2.2.2.1)
 (aa<|ay ((a.1.1,a.1.2.1,(),a.1.2.2.2.1,aw i64 a.1.2.2.2.2.1 1,()),a.2.1,())) (ak (aD (len a.2.1) 16)
 (aa<|az (1,([],5,(),a.1.2.2.2.1,a.1.2.2.2.2.1,()),a.2.1,())) (ae (aX (b.2.2.1,())) λc=>ak (fits<|plus (len a.2.1)<|len ([(b.1,b.2.1,c.1,b.2.2.2)]:List cJ))
 (ak (bg b.2.1 [])
 (aa<|az (2,(a.1.1,a.1.2.1,(),a.1.2.2.2.1,a.1.2.2.2.2.1,()),app a.2.1 [(b.1,b.2.1,c.1,b.2.2.2)],())) (aa<|az (3,(a.1.1,a.1.2.1,(),b.2.1,a.1.2.2.2.2.1,()),app a.2.1 [(b.1,b.2.1,c.1,b.2.2.2)],())))
 af)))
 (aa<|az (0,(a.1.1,a.1.2.1,(),a.1.2.2.2.1,a.1.2.2.2.2.1,()),a.2.1,()))
def Ld(x:de×Sb×aj)(c:zw×(List cJ)×aj):Option ((zw×(List cJ)×aj)⊕(Nat×zw×(List cJ)×aj)) :=
 ae (Loop (Lc x) ((c.1.1,c.1.2.1,(),c.1.2.2.2.1,0,()),c.2.1,())) (λa=>ak (cm a.1 0)
 (aa<|az (0,([],3,(),a.2.1.2.2.2.1,()),a.2.2.1,())) (ak (cm (@Nat.rec (λ(b:Nat)=>Nat) 0 (λ(b:Nat)=>λ(d:Nat)=>b) a.1) 0)
 (aa<|az (0,(a.2.1.1,a.2.1.2.1,(),a.2.1.2.2.2.1,()),a.2.2.1,())) (ak (cm (@Nat.rec (λ(b:Nat)=>Nat) 0 (λ(b:Nat)=>λ(d:Nat)=>b)<|@Nat.rec (λ(b:Nat)=>Nat) 0 (λ(b:Nat)=>λ(d:Nat)=>b) a.1) 0)
 (aa<|az (1,(a.2.1.1,a.2.1.2.1,(),a.2.1.2.2.2.1,()),a.2.2.1,())) (aa<|ay ((a.2.1.1,a.2.1.2.1,(),a.2.1.2.2.2.1,()),a.2.2.1,())))))
def Lf(b:Nat×zw×(List cJ)×aj)(a:iA×aj):Option ((iA×aj)⊕(iA×aj)) :=
 cr (ak (aL a.1.1 a.1.2.1)
 (ae (idx b.2.1.1 a.1.2.1) λc=>ae (idx b.2.1.1 a.1.1) λd=>ae (idx b.2.1.1 a.1.1) λe=>af) (aa<|az (0,(a.1.1,a.1.2.1,()),())))
def Lg(x:de×Sb×aj)(b:Nat×zw×(List cJ)×aj)(a:(aj×Int×aj)×(List Sb)×aj):Option (((aj×Int×aj)×(List Sb)×aj)⊕((aj×Int×aj)×(List Sb)×aj)) :=
 cr (ak (aL a.1.2.1<|len b.2.1.1)
 (ae (idx b.2.1.1 a.1.2.1) λd=>ae (kX (x.1,d.1,())) λc=>ak (fits<|plus (len a.2.1)<|len [c.2.1])
 (aa<|ay (((),aw i64 a.1.2.1 1,()),app a.2.1 [c.2.1],())) af)
 (aa<|az (0,((),a.1.2.1,()),a.2.1,())))
def fY(a:(Int×Int×aj×aj)×(List cJ)×aj):Option (((Int×Int×aj×aj)×(List cJ)×aj)⊕((Int×Int×aj×aj)×(List cJ)×aj)) :=
 cr (ak (aL a.1.1 a.1.2.1)
 (ak (within a.1.2.1<|len a.2.1)
 (ae (idx a.2.1 a.1.2.1) λb=>ak (within a.1.1<|len a.2.1)
 (ae (idx a.2.1 a.1.1) λc=>ak (within a.1.1<|len a.2.1)
 (ae (idx a.2.1 a.1.1) λe=>ae (idx a.2.1 a.1.1) λf=>ae (idx a.2.1 a.1.1) λg=>ak (within a.1.2.1<|len<|kO a.2.1 a.1.1 b)
 (ae (idx (kO a.2.1 a.1.1 b) a.1.2.1) λh=>ae (idx (kO a.2.1 a.1.1 b) a.1.2.1) λi=>ae (idx (kO a.2.1 a.1.1 b) a.1.2.1) λd=>aa (ay ((aw i64 a.1.1 1,cG i64 a.1.2.1 1,(),()),kO (kO a.2.1 a.1.1 b) a.1.2.1 c,()))) af)
 af)
 af)
 af)
 (aa<|az (0,(a.1.1,a.1.2.1,(),()),a.2.1,())))
def ru(x:de×Sb×aj)(b:(Int×Int×aj×aj)×(List cJ)×aj)(a:(aj×Int×aj)×(List Sb)×aj):Option (((aj×Int×aj)×(List Sb)×aj)⊕((aj×Int×aj)×(List Sb)×aj)) :=
 cr (ak (aL a.1.2.1<|len b.2.1)
 (ae (idx b.2.1 a.1.2.1) λd=>ae (kX (x.1,d.1,())) λc=>ak (fits<|plus (len a.2.1)<|len [c.2.1])
 (aa<|ay (((),aw i64 a.1.2.1 1,()),app a.2.1 [c.2.1],())) af)
 (aa<|az (0,((),a.1.2.1,()),a.2.1,())))
def mQ(x:de×Sb×aj):Option ((List Za)×Int×aj) :=
 ae (Loop (Ld x) (([],0,(),x.2.1,()),[],())) (λa=>ak (cm a.1 0)
 (ak (nt<|aD a.2.1.2.1 0)
 (aa ([],a.2.1.2.1,())) (ae (Loop (Lf a) ((0,cG i64 (len a.2.1.1) 1,()),())) λd=>ae (Loop (Lg x a) (((),0,()),[],())) λc=>ae (qG (c.2.1,())) λb=>aa (b.1,b.2.1,())))
 (ae (Loop (fY) ((0,cG i64 (len a.2.2.1) 1,(),()),a.2.2.1,())) λd=>ae (Loop (ru x d) (((),0,()),[],())) λc=>ae (qG (c.2.1,())) λb=>aa (b.1,b.2.1,())))
def jr(x:de×Sb×aj):Option ((List Za)×Int×aj) :=ak (bg x.2.1 []) (aa ([],0,())) (ae (mQ (x.1,x.2.1,())) λa=>aa (a.1,a.2.1,()))
def eg(x:Int×aj):Option (Bp×aj) :=aa ((x.1,[],0,[],()),())
def lJ(x:(List Sb)×Int×Sb×aj):Option ((List Sb)×aj) :=ak (fits<|len x.1) (ae (gL x.1 (x.2.1,[x.2.2.1],())) λa=>aa (a,())) af
def r8(x:(List cJ)×aj):Option ((List cJ)×aj) :=bif fits (len x.1) then aa (x.1,()) else af
def iB(x:(List cJ)×Int×cJ×aj):Option ((List cJ)×aj) :=ak (fits<|len x.1) (ae (eQ x.1 (x.2.1,([x.2.2.1]:List cJ),())) λa=>aa (a,())) af
def rv(x:de×cJ×Sb×aj)(a:iA×cJ×aj):Option ((iA×cJ×aj)⊕(Nat×iA×cJ×aj)) :=
 ak (aL a.1.2.1<|len x.1.2.2.1) (ae (idx x.1.2.2.1 a.1.2.1) λb=>ak (nt<|fZ b.1 a.2.1.1)
 (aa<|az (1,(a.1.2.1,a.1.2.1,()),a.2.1,())) (aa<|ay ((a.1.1,aw i64 a.1.2.1 1,()),a.2.1,())))
 (aa<|az (0,(a.1.1,a.1.2.1,()),a.2.1,()))
def tw(x:de×cJ×Sb×aj):Option (de×aj) :=
 ae (ae (Loop (rv x) ((0,0,()),x.2.1,())) λa=>ak (cm a.1 0)
 (aa (((-1),()),a.2.2.1,())) (aa ((a.2.1.1,()),a.2.2.1,()))) (λa=>ae (nS (x.1,())) λb=>ae (lJ (b.1,((ak (aL a.1.1 0)
 ((len x.1.2.2.1,()),()) ((a.1.1,()),())).1).1,x.2.2.1,())) λc=>ae (iB (x.1.2.2.1,((ak (aL a.1.1 0) ((len x.1.2.2.1,()),()) ((a.1.1,()),())).1).1,a.2.1,())) λd=>aa ((x.1.1,x.1.2.1,d.1,c.1,x.1.2.2.2.2),()))
def kg(x:de×Sb×(List Sb)×Sb×Int×aj):Option (de×Bp×aj) :=
 ae (ae (gB (x.2.2.1,())) λc=>ak (nt<|aD c.1 0)
 (aa ((c.1,()),((),(),(),(),(),(),(),()),x.2.2.1,x.2.2.2.1,x.2.1,x.1,[],x.2.2.2.2.1,[],[],())) (ae (ak (bg x.2.2.2.1 [])
 (aa ((0,()),x.2.2.2.1,())) (ae (hS (x.2.2.2.1,())) λa=>aa ((a.1,()),x.2.2.2.1,()))) λa=>ak (nt<|aD a.1.1 0)
 (aa ((a.1.1,()),((),(),(),(),(),(),(),()),x.2.2.1,a.2.1,x.2.1,x.1,[],x.2.2.2.2.1,[],[],())) (ae (ak (nt<|bg x.2.1 [])
 (ae (eP (x.1,x.2.1,())) λd=>aa ((d.2.1,()),d.1,())) (aa ((0,()),[],()))) λd=>ak (nt<|aD d.1.1 0)
 (aa ((d.1.1,()),((),(),(),(),(),(),(),()),x.2.2.1,a.2.1,x.2.1,x.1,d.2.1,x.2.2.2.2.1,[],[],())) (ae (l7 (x.1,())) λh=>ae (iz (h.1,[],x.2.2.1,())) λi=>ak (nt<|aD i.1 0)
 (aa ((i.1,()),((),(),(),(),(),(),(),()),x.2.2.1,a.2.1,x.2.1,x.1,d.2.1,x.2.2.2.2.1,[],[],())) (ae (l7 (x.1,())) λj=>ae (ji (j.1,x.2.2.2.2.1,())) λg=>ak (nt<|aD g.2.1 0)
 (aa ((g.2.1,()),((),(),(),(),(),(),(),()),x.2.2.1,a.2.1,x.2.1,x.1,d.2.1,x.2.2.2.2.1,g.1,[],())) (ae (ae (vA (x.1.2.2.1,d.2.1,())) λe=>ak (ak (ak (nt<|bg d.2.1 [])
 (aD e.2.1 0) false)
 (cl 16<|len e.1) false)
 (aa ((5,()),d.2.1,x.1,())) (aa ((0,()),d.2.1,x.1,()))) λe=>ak (nt<|aD e.1.1 0)
 (aa ((e.1.1,()),((),(),(),(),(),(),(),()),x.2.2.1,a.2.1,x.2.1,e.2.2.1,e.2.1,x.2.2.2.2.1,g.1,[],())) (ae (ak (bg a.2.1 [])
 (aa ((0,()),[],e.2.1,e.2.2.1,a.2.1,())) (ae (jr (e.2.2.1,e.2.1,())) λb=>ae (ak (aD b.2.1 0)
 (ae (kb (b.1,a.2.1,())) λf=>aa ((f.2.1,()),())) (aa ((b.2.1,()),()))) λf=>aa ((f.1.1,()),b.1,e.2.1,e.2.2.1,a.2.1,()))) λb=>ak (nt<|aD b.1.1 0)
 (aa ((b.1.1,()),((),(),(),(),(),(),(),()),x.2.2.1,b.2.2.2.2.1,x.2.1,b.2.2.2.1,b.2.2.1,x.2.2.2.2.1,g.1,b.2.1,())) (aa ((0,()),((),(),(),(),(),(),(),()),x.2.2.1,b.2.2.2.2.1,x.2.1,b.2.2.2.1,b.2.2.1,x.2.2.2.2.1,g.1,b.2.1,()))))))))) (λc=>ak (nt<|aD c.1.1 0)
 (ae (eg (c.1.1,())) λa=>aa (c.2.2.2.2.2.1,a.1,())) (ae (ak (bg c.2.2.2.1 [])
 (ae (zY ()) λa=>aa ((),a.1,())) (aa ((),c.2.2.2.1,()))) λa=>ak (fits<|plus (len ([]:List Sb))<|len c.2.2.1)
 (ae (oP (a.2.1,())) λd=>ae (tw (c.2.2.2.2.2.1,(c.2.2.2.2.2.2.2.2.1,c.2.2.2.2.2.2.1,app [] c.2.2.1,d.1,len a.2.1,0,true,()),a.2.1,())) λh=>aa (h.1,(0,c.2.2.2.2.2.2.2.2.1,0,[],()),())) af))
def ry(x:de×Sb×aj)(a:iA×Sb×aj):Option (CZ⊕CY) :=
 ak (aL a.1.2.1<|len x.1.2.2.1) (ae (idx x.1.2.2.1 a.1.2.1) λb=>ak (bg b.2.1 a.2.1)
 (aa<|az (1,(a.1.2.1,a.1.2.1,()),a.2.1,())) (aa<|ay ((a.1.1,aw i64 a.1.2.1 1,()),a.2.1,())))
 (aa<|az (0,(a.1.1,a.1.2.1,()),a.2.1,()))
def wI(x:de×Sb×aj)(a:iA×Sb×aj):Option (CZ⊕CY) :=
 ak (aL a.1.2.1<|len x.1.2.1) (ae (idx x.1.2.1 a.1.2.1) λb=>ak (bg b.2.2.1 a.2.1)
 (aa<|az (1,(a.1.2.1,a.1.2.1,()),a.2.1,())) (aa<|ay ((a.1.1,aw i64 a.1.2.1 1,()),a.2.1,())))
 (aa<|az (0,(a.1.1,a.1.2.1,()),a.2.1,()))
def Lh(x:de×Sb×aj)(a:iA×Sb×aj):Option (CZ⊕CY) :=
 ak (aL a.1.2.1<|len x.1.1) (ae (idx x.1.1 a.1.2.1) λb=>ak (bg b.2.2.2.1 a.2.1)
 (aa<|az (1,(a.1.2.1,a.1.2.1,()),a.2.1,())) (aa<|ay ((a.1.1,aw i64 a.1.2.1 1,()),a.2.1,())))
 (aa<|az (0,(a.1.1,a.1.2.1,()),a.2.1,()))
def Li(x:de×Sb×aj)(a:iA×Sb×aj):Option (CZ⊕CY) :=
 ak (aL a.1.2.1<|len x.1.1) (ae (idx x.1.1 a.1.2.1) λb=>ak (bg b.2.2.2.1 a.2.1)
 (aa<|az (1,(a.1.2.1,a.1.2.1,()),a.2.1,())) (aa<|ay ((a.1.1,aw i64 a.1.2.1 1,()),a.2.1,())))
 (aa<|az (0,(a.1.1,a.1.2.1,()),a.2.1,()))
def pW(x:de×Sb×aj):Option (Bool×aj) :=
 ae (ae (Loop (ry x) ((0,0,()),x.2.1,())) λa=>ak (cm a.1 0)
 (aa (((-1),()),a.2.2.1,())) (aa ((a.2.1.1,()),a.2.2.1,()))) (λa=>ae (Loop (wI x) ((0,0,()),a.2.1,())) λc=>ak (cm c.1 0) (ak (nt<|ak (nt<|cl 0 a.1.1)
 false true)
 (ae (Loop (Lh x) ((0,0,()),c.2.2.1,())) λb=>ak (cm b.1 0)
 (aa (false,())) (aa (cl 0 b.2.1.1,())))
 (aa (true,())))
 (ak (nt<|ak (nt<|cl 0 a.1.1)
 (cl 0 c.2.1.1) true)
 (ae (Loop (Li x) ((0,0,()),c.2.2.1,())) λb=>ak (cm b.1 0)
 (aa (false,())) (aa (cl 0 b.2.1.1,())))
 (aa (true,()))))
def rz(x:r5×aj):Option (Sb×aj) :=aa (x.1.1,())
def fJ(x:de×Sb×aj)(a:iA×aj×Sb×aj):Option (TG⊕TF) :=
 ak (aL a.1.2.1<|len x.1.2.2.2.2.1) (ae (idx x.1.2.2.2.2.1 a.1.2.1) λb=>ae (rz (b,())) λc=>ak (bg c.1 a.2.2.1)
 (aa<|az (1,(a.1.2.1,a.1.2.1,()),(),a.2.2.1,())) (aa<|ay ((a.1.1,aw i64 a.1.2.1 1,()),(),a.2.2.1,())))
 (aa<|az (0,(a.1.1,a.1.2.1,()),(),a.2.2.1,()))
def dq(x:de×Sb×aj):Option (Int×aj) :=
 ae (Loop (fJ x) ((0,0,()),(),x.2.1,())) (λa=>ak (cm a.1 0)
 (aa (0,())) (ak (aL a.2.1.1 0)
 (aa (0,())) (ae (idx x.1.2.2.2.2.1 a.2.1.1) λb=>aa (b.2.1,()))))
def iC(x:(List Sb)×Int×aj):Option ((List Sb)×aj) :=
 ak (aL x.2.1 0) (aa (x.1,())) (ak (fits<|len x.1)
 (ae (gM x.1 (x.2.1,aw i64 x.2.1 1,())) λa=>aa (a,())) af)
def gd(x:(List cJ)×Int×aj):Option ((List cJ)×aj) :=
 ak (aL x.2.1 0) (aa (x.1,())) (ak (fits<|len x.1)
 (ae (eR x.1 (x.2.1,aw i64 x.2.1 1,())) λa=>aa (a,())) af)
def r9(x:(List r5)×aj):Option ((List r5)×aj) :=bif fits (len x.1) then aa (x.1,()) else af
def bJ(x:(List r5)×Int×r5×aj):Option ((List r5)×aj) :=ak (fits<|len x.1) (ae (iN x.1 (x.2.1,([x.2.2.1]:List r5),())) λa=>aa (a,())) af
def pX(x:de×Sb×Int×aj)(a:iA×Sb×aj):Option (CZ⊕CY) :=
 ak (aL a.1.2.1<|len x.1.2.2.2.2.1) (ak (within a.1.2.1<|len x.1.2.2.2.2.1)
 (ae (idx x.1.2.2.2.2.1 a.1.2.1) λb=>ak (bg b.1 a.2.1)
 (aa<|az (1,(a.1.2.1,a.1.2.1,()),a.2.1,())) (aa<|ay ((a.1.1,aw i64 a.1.2.1 1,()),a.2.1,())))
 af)
 (aa<|az (0,(a.1.1,a.1.2.1,()),a.2.1,()))
def IW(x:de×Sb×Int×aj)(a:iA×Sb×aj):Option (CZ⊕CY) :=
 ak (aL a.1.2.1<|len x.1.2.2.2.2.1) (ae (idx x.1.2.2.2.2.1 a.1.2.1) λb=>ak (nt<|oor (fZ b.1 a.2.1)<|bg b.1 a.2.1)
 (aa<|az (1,(a.1.2.1,a.1.2.1,()),a.2.1,())) (aa<|ay ((a.1.1,aw i64 a.1.2.1 1,()),a.2.1,())))
 (aa<|az (0,(a.1.1,a.1.2.1,()),a.2.1,()))
def IX(x:de×Sb×Int×aj)(a:iA×Sb×aj):Option (CZ⊕CY) :=
 ak (aL a.1.2.1<|len x.1.2.2.2.2.1) (ae (idx x.1.2.2.2.2.1 a.1.2.1) λb=>ak (nt<|oor (fZ b.1 a.2.1)<|bg b.1 a.2.1)
 (aa<|az (1,(a.1.2.1,a.1.2.1,()),a.2.1,())) (aa<|ay ((a.1.1,aw i64 a.1.2.1 1,()),a.2.1,())))
 (aa<|az (0,(a.1.1,a.1.2.1,()),a.2.1,()))
def pY(a:(Int×Int×aj×aj)×Sb×(List r5)×aj):Option (aaT⊕aaT) :=
 cr (ak (aL a.1.2.1<|len a.2.2.1)
 (ak (within a.1.2.1<|len a.2.2.1)
 (ae (idx a.2.2.1 a.1.2.1) λc=>ae (ak (nt<|bg c.1 a.2.1)
 (ak (within a.1.1<|len a.2.2.1)
 (ae (idx a.2.2.1 a.1.1) λb=>ae (idx a.2.2.1 a.1.1) λd=>ae (idx a.2.2.1 a.1.1) λe=>aa ((aw i64 a.1.1 1,(),()),kO a.2.2.1 a.1.1 c,())) af)
 (aa ((a.1.1,(),()),a.2.2.1,()))) λb=>aa (ay ((b.1.1,aw i64 a.1.2.1 1,(),()),a.2.1,b.2.1,())))
 af)
 (aa<|az (0,(a.1.1,a.1.2.1,(),()),a.2.1,a.2.2.1,())))
def AG(b:(Int×Int×aj×aj)×Sb×(List r5)×aj)(a:iA×Sb×aj):Option (CZ⊕CY) :=
 ak (aL a.1.2.1<|len<|sub (over b.2.2.1 b.1.1<|lh (minus (len b.2.2.1) b.1.1) ([],0,())) 0<|minus b.1.1 0) (ae (idx (sub (over b.2.2.1 b.1.1<|lh (minus (len b.2.2.1) b.1.1) ([],0,())) 0<|minus b.1.1 0) a.1.2.1) λc=>ak (nt<|oor (fZ c.1 a.2.1)<|bg c.1 a.2.1)
 (aa<|az (1,(a.1.2.1,a.1.2.1,()),a.2.1,())) (aa<|ay ((a.1.1,aw i64 a.1.2.1 1,()),a.2.1,())))
 (aa<|az (0,(a.1.1,a.1.2.1,()),a.2.1,()))
def qH(x:de×Sb×Int×aj):Option (de×aj) :=
 ak (fits<|len x.1.2.2.2.2.1) (ae (Loop (pX x) ((0,0,()),x.2.1,())) λc=>ak (cm c.1 0)
 (ae (ak (aL 0 x.2.2.1)
 (ae (Loop (IW x) ((0,0,()),c.2.2.1,())) λa=>ak (cm a.1 0)
 (ae (bJ (x.1.2.2.2.2.1,(((len x.1.2.2.2.2.1,()),()).1).1,(a.2.2.1,x.2.2.1,()),())) λb=>aa ((b.1,()),a.2.2.1,())) (ae (bJ (x.1.2.2.2.2.1,((ak (aL a.2.1.1 0)
 ((len x.1.2.2.2.2.1,()),()) ((a.2.1.1,()),())).1).1,(a.2.2.1,x.2.2.1,()),())) λb=>aa ((b.1,()),a.2.2.1,())))
 (aa ((x.1.2.2.2.2.1,()),c.2.2.1,()))) λa=>aa ((x.1.1,x.1.2.1,x.1.2.2.1,x.1.2.2.2.1,a.1.1,x.1.2.2.2.2.2),()))
 (ak (aD c.2.1.1<|-1)
 (ae (ak (aL 0 x.2.2.1)
 (ae (Loop (IX x) ((0,0,()),c.2.2.1,())) λa=>ak (cm a.1 0)
 (ae (bJ (x.1.2.2.2.2.1,(((len x.1.2.2.2.2.1,()),()).1).1,(a.2.2.1,x.2.2.1,()),())) λb=>aa ((b.1,()),a.2.2.1,())) (ae (bJ (x.1.2.2.2.2.1,((ak (aL a.2.1.1 0)
 ((len x.1.2.2.2.2.1,()),()) ((a.2.1.1,()),())).1).1,(a.2.2.1,x.2.2.1,()),())) λb=>aa ((b.1,()),a.2.2.1,())))
 (aa ((x.1.2.2.2.2.1,()),c.2.2.1,()))) λa=>aa ((x.1.1,x.1.2.1,x.1.2.2.1,x.1.2.2.2.1,a.1.1,x.1.2.2.2.2.2),()))
 (ae (Loop (pY) ((c.2.1.1,aw i64 c.2.1.1 1,(),()),c.2.2.1,x.1.2.2.2.2.1,())) λa=>ak (inside a.1.1 (len a.2.2.1)<|len a.2.2.1)
 (ak (inside 0 a.1.1<|len<|over a.2.2.1 a.1.1<|lh (minus (len a.2.2.1) a.1.1) ([],0,()))
 (ae (ak (aL 0 x.2.2.1)
 (ae (Loop (AG a) ((0,0,()),a.2.1,())) λb=>ak (cm b.1 0)
 (ae (bJ (sub (over a.2.2.1 a.1.1<|lh (minus (len a.2.2.1) a.1.1) ([],0,())) 0<|minus a.1.1 0,(((len<|sub (over a.2.2.1 a.1.1<|lh (minus (len a.2.2.1) a.1.1) ([],0,())) 0<|minus a.1.1 0,()),()).1).1,(b.2.2.1,x.2.2.1,()),())) λd=>aa ((d.1,()),b.2.2.1,())) (ae (bJ (sub (over a.2.2.1 a.1.1<|lh (minus (len a.2.2.1) a.1.1) ([],0,())) 0<|minus a.1.1 0,((ak (aL b.2.1.1 0)
 ((len<|sub (over a.2.2.1 a.1.1<|lh (minus (len a.2.2.1) a.1.1) ([],0,())) 0<|minus a.1.1 0,()),()) ((b.2.1.1,()),())).1).1,(b.2.2.1,x.2.2.1,()),())) λd=>aa ((d.1,()),b.2.2.1,())))
 (aa ((sub (over a.2.2.1 a.1.1<|lh (minus (len a.2.2.1) a.1.1) ([],0,())) 0<|minus a.1.1 0,()),a.2.1,()))) λb=>aa ((x.1.1,x.1.2.1,x.1.2.2.1,x.1.2.2.2.1,b.1.1,x.1.2.2.2.2.2),()))
 af)
 af)))
 af
def FU(x:de×Sb×aj)(a:iA×aj×Sb×aj):Option (TG⊕TF) :=
 ak (aL a.1.2.1<|len x.1.2.2.1) (ae (idx x.1.2.2.1 a.1.2.1) λb=>ae (wH (b,())) λc=>ak (bg c.1 a.2.2.1)
 (aa<|az (1,(a.1.2.1,a.1.2.1,()),(),a.2.2.1,())) (aa<|ay ((a.1.1,aw i64 a.1.2.1 1,()),(),a.2.2.1,())))
 (aa<|az (0,(a.1.1,a.1.2.1,()),(),a.2.2.1,()))
def kh(x:de×Sb×aj):Option (de×aj) :=
 ae (ae (Loop (FU x) ((0,0,()),(),x.2.1,())) λa=>ak (cm a.1 0)
 (aa (((-1),()),(),a.2.2.2.1,())) (aa ((a.2.1.1,()),(),a.2.2.2.1,()))) (λa=>ae (nS (x.1,())) λb=>ae (iC (b.1,a.1.1,())) λc=>ae (gd (x.1.2.2.1,a.1.1,())) λd=>ae (qH ((x.1.1,x.1.2.1,d.1,c.1,x.1.2.2.2.2),x.2.1,0,())) λe=>aa (e.1,()))
def wJ(x:de×Sb×aj):Option (de×Bp×aj) :=
 ae (eP (x.1,x.2.1,())) (λa=>ak (nt<|aD a.2.1 0)
 (ae (eg (a.2.1,())) λb=>aa (x.1,b.1,())) (ae (pW (x.1,a.1,())) λb=>ae (ak (nt b.1)
 (ae (dq (x.1,a.1,())) λc=>aa (aL 0 c.1)) (aa true)) λc=>ak c
 (ae (eg (7,())) λd=>aa (x.1,d.1,())) (ae (kh (x.1,a.1,())) λd=>aa (d.1,(0,a.1,0,[],()),()))))
def pZ(x:de×Sb×Int×aj):Option (de×Bp×aj) :=
 ae (eP (x.1,x.2.1,())) (λb=>ak (nt<|aD b.2.1 0)
 (ae (eg (b.2.1,())) λa=>aa (x.1,a.1,())) (ae (dq (x.1,b.1,())) λa=>ak (ak (aL 0 x.2.2.1)
 (cl 1000 a.1) false)
 (ae (eg (5,())) λc=>aa (x.1,c.1,())) (ak (ak (aL x.2.2.1 0)
 (aL a.1 1) false)
 (ae (eg (11,())) λc=>aa (x.1,c.1,())) (ae (qH (x.1,b.1,aw i64 a.1 x.2.2.1,())) λc=>aa (c.1,(0,b.1,aw i64 a.1 x.2.2.1,[],()),())))))
def C0(x:de×Sb×aj):Option (de×Bp×aj) :=ae (pZ (x.1,x.2.1,1,())) (λa=>aa (a.1,a.2.1,()))
def AH(x:de×Sb×aj):Option (de×Bp×aj) :=ae (pZ (x.1,x.2.1,(-1),())) (λa=>aa (a.1,a.2.1,()))
def zZ(x:de×Sb×aj):Option (Bp×aj) :=
 ae (eP (x.1,x.2.1,())) (λa=>ak (nt<|aD a.2.1 0)
 (ae (eg (a.2.1,())) λb=>aa (b.1,())) (ae (kX (x.1,a.1,())) λb=>aa ((0,a.1,0,b.2.1,()),())))
def xy(x:aj):Option (Sb×aj) :=
 ak (inside 0 1024 1024) (ak (fits 1024)
 (aa (br<|lh 1024 0,())) af)
 af
def bT(x:Int×aj):Option (Bp×aj) :=aa ((x.1,[],0,[],()),())
def kY(x:de×aj):Option ((List Bq)×aj) :=ae (rZ (3,(0,x.1.2.2.1,([]:List TE),([]:List Zb),()),())) (λa=>aa (a.1,()))
def yp(x:Sb×Sb×aj):Option (Bool×aj) :=
 ae (ak (cl (len x.2.1)<|len x.1)
 (ak (inside 0 (len x.2.1)<|len x.1)
 (aa<|bg (sub x.1 0<|minus (len x.2.1) 0) x.2.1) af)
 (aa false)) (λa=>aa (a,()))
def rA(x:(List Bq)×Sb×aj)(a:zX×aj):Option ((zX×aj)⊕LR) :=
 ak (aL a.1.2.2.1<|len x.1) (ae (idx x.1 a.1.2.2.1) λb=>ak (bg b.1 x.2.1)
 (aa<|az (1,(x.2.1,0,a.1.2.2.1,()),())) (aa<|ay ((a.1.1,a.1.2.1,aw i64 a.1.2.2.1 1,()),())))
 (aa<|az (0,(a.1.1,a.1.2.1,a.1.2.2.1,()),()))
def kj(x:(List Bq)×Sb×aj)(b:zX×aj)(a:zX×aj):Option ((zX×aj)⊕LR) :=
 ae (idx x.1 b.1.2.2.1) (λc=>ak (aL a.1.2.2.1<|len c.2.1)
 (ae (idx x.1 b.1.2.2.1) λd=>ae (idx d.2.1 a.1.2.2.1) λe=>ak (bg e x.2.1)
 (ae (idx x.1 b.1.2.2.1) λf=>aa (az (1,(f.1,0,a.1.2.2.1,()),()))) (aa<|ay ((a.1.1,a.1.2.1,aw i64 a.1.2.2.1 1,()),())))
 (aa<|az (0,(a.1.1,a.1.2.1,a.1.2.2.1,()),())))
def rB(x:(List Bq)×Sb×aj)(a:zX×aj):Option ((zX×aj)⊕LR) :=
 ak (aL a.1.2.2.1<|len x.1) (ae (Loop (kj x a) ((a.1.1,a.1.2.1,0,()),())) λb=>ak (cm b.1 0)
 (aa<|ay ((b.2.1.1,b.2.1.2.1,aw i64 a.1.2.2.1 1,()),())) (aa<|az (1,(b.2.1.1,b.2.1.2.1,a.1.2.2.1,()),())))
 (aa<|az (0,(a.1.1,a.1.2.1,a.1.2.2.1,()),()))
def hW(x:(List Bq)×Sb×aj)(a:D7×aj):Option ((D7×aj)⊕(D7×aj)) :=
 cr (ak (ak (ak (aL a.1.2.2.1<|len x.1)
 (cl 1<|len x.2.1) false)
 (cl (len x.2.1) 5) false)
 (ae (idx x.1 a.1.2.2.1) λc=>ae (yp (c.1,x.2.1,())) λd=>ae (ak d.1
 (ae (idx x.1 a.1.2.2.1) λb=>aa ((aw i64 a.1.1 1,b.1,()),())) (aa ((a.1.1,a.1.2.1,()),()))) λb=>aa (ay ((b.1.1,b.1.2.1,aw i64 a.1.2.2.1 1,()),())))
 (aa<|az (0,(a.1.1,a.1.2.1,a.1.2.2.1,()),())))
def kF(x:(List Bq)×Sb×aj):Option r5 :=
 ae (Loop (rA x) (([],0,0,()),())) (λa=>ak (cm a.1 0)
 (ae (Loop (rB x) ((a.2.1.1,a.2.1.2.1,0,()),())) λb=>ak (cm b.1 0)
 (ae (Loop (hW x) ((0,[],0,()),())) λc=>ak (aL 1 c.1.1)
 (aa ([],9,())) (ak (aD c.1.1 0)
 (aa ([],3,())) (aa (c.1.2.1,0,()))))
 (aa (b.2.1.1,b.2.1.2.1,())))
 (aa (a.2.1.1,a.2.1.2.1,())))
def e7(x:de×Sb×aj):Option r5 :=ae (kY (x.1,())) (λb=>ae (kF (b.1,x.2.1,())) λa=>aa (a.1,a.2.1,()))
def vB(a:D7×aj):Option ((D7×aj)⊕(D7×aj)) :=
 cr (ak (aL a.1.2.2.1 6)
 (ak (inside (gx a.1.1 16) (aw i64 (gx a.1.1 16) 1)<|len ([48,49,50,51,52,53,54,55,56,57,97,98,99,100,101,102]:bb))
 (ak (fits<|plus (len<|sub ([48,49,50,51,52,53,54,55,56,57,97,98,99,100,101,102]:bb) (gx a.1.1 16)<|minus (aw i64 (gx a.1.1 16) 1)<|gx a.1.1 16)<|len a.1.2.1)
 (aa<|ay ((Ii i64 a.1.1 16,app (sub [48,49,50,51,52,53,54,55,56,57,97,98,99,100,101,102] (gx a.1.1 16)<|minus (aw i64 (gx a.1.1 16) 1)<|gx a.1.1 16) a.1.2.1,aw i64 a.1.2.2.1 1,()),())) af)
 af)
 (aa<|az (0,(a.1.1,a.1.2.1,a.1.2.2.1,()),())))
def Br(x:Int×aj):Option (Sb×aj) :=ae (Loop (vB) ((x.1,[],0,()),())) (λa=>aa (a.1.2.1,()))
def ma(x:(List Bq)×Int×aj)(c:Sb×aj)(a:(Bool×Int×aj)×aj):Option (((Bool×Int×aj)×aj)⊕((Bool×Int×aj)×aj)) :=
 cr (ak (aL a.1.2.1<|len x.1)
 (ae (ak (nt a.1.1)
 (ae (idx x.1 a.1.2.1) λb=>aa (bg b.1 c.1)) (aa true)) λb=>aa (ay ((b,aw i64 a.1.2.1 1,()),())))
 (aa<|az (0,(a.1.1,a.1.2.1,()),())))
def p4(x:(List Bq)×Int×aj)(a:zX×aj):Option ((zX×aj)⊕LR) :=
 ak (cl a.1.2.2.1 32) (ae (Br (gx (aw i64 (hL i64 x.2.1 16777215) a.1.2.2.1) 16777216,())) λb=>ae (Loop (ma x b) ((false,0,()),())) λc=>ak (nt c.1.1)
 (aa<|az (1,(b.1,0,a.1.2.2.1,()),())) (aa<|ay ((a.1.1,a.1.2.1,aw i64 a.1.2.2.1 1,()),())))
 (aa<|az (0,(a.1.1,a.1.2.1,a.1.2.2.1,()),()))
def nT(x:(List Bq)×Int×aj):Option r5 :=
 ak (cl 32<|len x.1) (aa ([],5,())) (ae (Loop (p4 x) (([],0,0,()),())) λa=>ak (cm a.1 0)
 (aa ([],5,())) (aa (a.2.1.1,a.2.1.2.1,())))
def rC(x:de×cJ×Sb×aj)(a:(aj×aj×Bool×Int×aj)×(List Sb)×(List cJ)×aj):Option (aaS⊕aaS) :=
 cr (ak (aL a.1.2.2.2.1<|len x.1.2.2.1)
 (ak (nt a.1.2.2.1)
 (ae (idx x.1.2.2.1 a.1.2.2.2.1) λc=>ae (ak (nt<|fZ c.1 x.2.1.1)
 (ak (fits<|plus (len a.2.2.1)<|len [x.2.1])
 (ak (fits<|plus (len a.2.1)<|len [x.2.2.1])
 (aa (((),(),true,()),app a.2.1 [x.2.2.1],app a.2.2.1 [x.2.1],())) af)
 af)
 (aa (((),(),a.1.2.2.1,()),a.2.1,a.2.2.1,()))) λb=>ae (idx x.1.2.2.1 a.1.2.2.2.1) λd=>ak (fits<|plus (len b.2.2.1)<|len ([d]:List cJ))
 (ae (kD (x.1,a.1.2.2.2.1,())) λe=>ak (fits<|plus (len b.2.1)<|len [e.1])
 (aa<|ay (((),(),b.1.2.2.1,aw i64 a.1.2.2.2.1 1,()),app b.2.1 [e.1],app b.2.2.1 [d],())) af)
 af)
 (ae (idx x.1.2.2.1 a.1.2.2.2.1) λc=>ak (fits<|plus (len a.2.2.1)<|len ([c]:List cJ))
 (ae (kD (x.1,a.1.2.2.2.1,())) λb=>ak (fits<|plus (len a.2.1)<|len [b.1])
 (aa<|ay (((),(),a.1.2.2.1,aw i64 a.1.2.2.2.1 1,()),app a.2.1 [b.1],app a.2.2.1 [c],())) af)
 af))
 (aa<|az (0,((),(),a.1.2.2.1,a.1.2.2.2.1,()),a.2.1,a.2.2.1,())))
def tz(x:de×cJ×Sb×aj):Option (de×aj) :=
 ae (Loop (rC x) (((),(),false,0,()),[],[],())) (λa=>ae (ak (nt a.1.2.2.1)
 (ak (fits<|plus (len a.2.2.1)<|len [x.2.1])
 (ak (fits<|plus (len a.2.1)<|len [x.2.2.1])
 (aa (((),(),()),app a.2.1 [x.2.2.1],app a.2.2.1 [x.2.1],())) af)
 af)
 (aa (((),(),()),a.2.1,a.2.2.1,()))) λb=>aa ((x.1.1,x.1.2.1,b.2.2.1,b.2.1,x.1.2.2.2.2),()))
def pa(x:de×Sb×(List Sb)×Sb×Int×aj):Option (de×Bp×aj) :=
 ae (gC (x.2.2.1,())) (λj=>ak (nt<|aD j.1 0)
 (ae (bT (j.1,())) λe=>aa (x.1,e.1,())) (ae (ak (nt<|bg x.2.2.2.1 [])
 (ae (nP (x.2.2.2.1,())) λe=>aa (nt<|aD e.1 0)) (aa false)) λe=>ak e
 (ae (bT (10,())) λb=>aa (x.1,b.1,())) (ae (ak (nt<|bg x.2.1 [])
 (ae (e7 (x.1,x.2.1,())) λb=>ak (nt<|aD b.2.1 0)
 (ae (bT (b.2.1,())) λg=>aa (1,([],()),g.1,x.1,())) (aa (0,(b.1,()),(0,[],0,[],()),(([]:List Zb),([]:List TE),([]:List cJ),[],([]:List r5),()),())))
 (aa (0,([],()),(0,[],0,[],()),(([]:List Zb),([]:List TE),([]:List cJ),[],([]:List r5),()),()))) λb=>ak (cm b.1 0)
 (ae (kY (x.1,())) λg=>ae (mK (g.1,[],x.2.2.1,())) λk=>ak (nt<|aD k.1 0)
 (ae (bT (k.1,())) λh=>aa (x.1,h.1,())) (ae (kY (x.1,())) λh=>ae (nT (h.1,x.2.2.2.2.1,())) λf=>ak (nt<|aD f.2.1 0)
 (ae (bT (f.2.1,())) λc=>aa (x.1,c.1,())) (ae (ak (nt<|bg b.2.1.1 [])
 (ae (nR (x.1.2.2.1,b.2.1.1,())) λc=>ak (ak (aD c.2.1 0)
 (cl 16<|len c.1) false)
 (ae (bT (5,())) λa=>aa (1,([],()),a.1,x.1,())) (ae (ak (nt<|bg x.2.2.2.1 [])
 (ae (mO (x.1,b.2.1.1,())) λa=>ak (nt<|aD a.2.1 0)
 (ae (bT (a.2.1,())) λd=>aa (1,(([]:List Za),()),d.1,x.1,())) (aa (0,(a.1,()),b.2.2.1,b.2.2.2.1,())))
 (aa (0,([],()),b.2.2.1,b.2.2.2.1,()))) λa=>ak (cm a.1 0)
 (aa (0,(a.2.1.1,()),a.2.2.1,a.2.2.2.1,())) (aa (1,(a.2.1.1,()),a.2.2.1,a.2.2.2.1,()))))
 (aa (0,([],()),b.2.2.1,b.2.2.2.1,()))) λc=>ak (cm c.1 0)
 (ae (ak (bg x.2.2.2.1 [])
 (ae (xy ()) λa=>aa (0,(a.1,()),c.2.2.1,c.2.2.2.1,())) (ae (qF (c.2.1.1,x.2.2.2.1,())) λa=>ak (nt<|aD a.2.1 0)
 (ae (bT (a.2.1,())) λd=>aa (1,(x.2.2.2.1,()),d.1,x.1,())) (aa (0,(x.2.2.2.1,()),c.2.2.1,c.2.2.2.1,())))) λa=>ak (cm a.1 0)
 (ae (uJ (a.2.1.1,())) λd=>ae (tz (x.1,(f.1,b.2.1.1,x.2.2.1,d.1,len a.2.1.1,0,true,()),a.2.1.1,())) λi=>aa (i.1,(0,f.1,0,[],()),())) (aa (a.2.2.2.1,a.2.2.1,())))
 (aa (c.2.2.2.1,c.2.2.1,())))))
 (aa (b.2.2.2.1,b.2.2.1,())))))
def qI(x:de×Sb×aj):Option (cJ×Sb×Bool×aj) :=
 ae (tu (x.1,x.2.1,())) (λa=>ak (aL a.1 0)
 (aa (([],[],[],[],0,0,false,()),[],false,())) (ae (idx x.1.2.2.1 a.1) λb=>ae (kD (x.1,a.1,())) λc=>aa (b,c.1,true,())))
end Go.Ge
