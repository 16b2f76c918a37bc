import Derived.Test.YtcebnmppipejfaaGreatDoorPlC
set_option linter.unusedSectionVars false
set_option linter.unusedVariables false
set_option linter.unusedSimpArgs false
set_option linter.defProp false
noncomputable section
open Option renaming some->ab,none->ah
open Go.IntKind (i64)
namespace Go.Ge
variable [Lp]
set_option maxRecDepth 100000
abbrev b6:=(Sb×Int×Int×Sb×Sb×al)
abbrev jj:=((Sb×Int×Int×Int×Int×Int×Int×Sb×al)×Sb×al)
abbrev tg:=((Sb×al)⊕((Sb×al)⊕(al⊕((b6×al)⊕al))))
abbrev HY:=((List b6)×(List b6)×Int×Sb×Int×al)
abbrev MS:=(Bool×Int×al)
abbrev ajb:=(Sb×Int×Int×Int×Int×Int×Int×Sb×al)
abbrev HZ:=((List b6)×Int×(List b6)×Int×al)
abbrev H2:=(Sb×Bool×Int×al)
abbrev Yu:=((List b6)×(List b6)×Int×Int×al)
abbrev pM:=((List b6)×Int×al)
abbrev SM:=(Sb×(List jj)×Bool×al×al)
abbrev SN:=(Nat×MS×al)
abbrev alu:=(Bool×(List b6)×Int×al)
abbrev alv:=((Sb×al)⊕(al⊕((b6×al)⊕al)))
abbrev Dd:=(ay×(Int×(Int×(ay×(ay×al)))))
abbrev SO:=((List tg)×Bool×al×Int×al)
abbrev SP:=(Bool×Sb×Int×al)
abbrev SQ:=(MS×al)
abbrev KV:=(Sb×al)
abbrev SR:=(al×Sb×Int×al)
def ia(c:(List Sb)×al)(a:SR×(List b6)×al):Option ((SR×(List b6)×al)⊕(SR×(List b6)×al)) :=
 dq (ao (ba a.1.2.2.1<|len c.1)
 (ag (idx c.1 a.1.2.2.1) λd=>ag (oU (a.1.2.1,d,())) λb=>ao (fits<|plus (len a.2.1)<|len ([(b.1,(2:Int),(0:Int),([]:ay),([]:ay),())]:List b6))
 (ab<|Sum.inl (((),b.1,aH i64 a.1.2.2.1 1,()),app a.2.1 ([(b.1,(2:Int),(0:Int),([]:ay),([]:ay),())]:List b6),()))
 ah)
 (ab<|Sum.inr (0,((),a.1.2.1,a.1.2.2.1,()),a.2.1,())))
def eJ(x:b6×al):Option (Bool×al) :=
 ag (gr (x.1.1,())) (λb=>ag (fC (b.1,())) λc=>ag (Loop (ia c) (((),([]:ay),(0:Int),()),([]:List b6),())) λa=>ao (nt<|bH x.1.1 ([]:ay))
 (ao (fits<|plus (len a.2.1)<|len ([x.1]:List b6))
 (ag (eI (app a.2.1 ([x.1]:List b6),())) λd=>ab (aS d.1 0,()))
 ah)
 (ab (false,())))
def mN(x:Sb×al):Option (Bool×al) :=
 ag (ao (nt<|bH x.1 ([]:ay))
 (ag (eJ ((x.1,(2:Int),(0:Int),([]:ay),([]:ay),()),())) λa=>ab a.1)
 (ab true)) (λa=>ab (a,()))
def jw(x:KV×(List b6)×al):Option ((List b6)×al) :=
 ag (tZ (x.2.1,x.1.1,())) (λa=>ab (a.1,()))
def vD(x:KV×(List b6)×al):Option pM :=
 ab (x.2.1,(0:Int),())
def gT(x:KV×(List b6)×al):Option ((List b6)×al) :=
 ag (vX (x.2.1,x.1.1,())) (λa=>ab (a.1,()))
def sP(x:KV×(List b6)×al):Option pM :=
 ab (x.2.1,(0:Int),())
def sQ(x:al×(List b6)×al):Option ((List b6)×al) :=
 ab (x.2.1,())
def vE(x:al×(List b6)×al):Option pM :=
 ab (x.2.1,(0:Int),())
def sR(x:(b6×al)×(List b6)×al):Option ((List b6)×al) :=
 ab (x.2.1,())
def fN(d:(List Sb)×al)(a:HY×al):Option ((HY×al)⊕(Nat×HY×al)) :=
 ao (ba a.1.2.2.2.2.1<|len d.1)
 (ag (idx d.1 a.1.2.2.2.2.1) λf=>ag (oU (a.1.2.2.2.1,f,())) λb=>ag (yb (a.1.1,b.1,())) λe=>ao (ao e.2.1
 (aS e.1.2.1 2)
 false)
 (ab<|Sum.inl ((a.1.1,a.1.2.1,a.1.2.2.1,b.1,aH i64 a.1.2.2.2.2.1 1,()),()))
 (ag (tf (a.1.1,(b.1,(2:Int),(493:Int),([]:ay),([]:ay),()),())) λc=>ao (nt<|aS c.2.1 0)
 (ab<|Sum.inr (1,(a.1.1,([]:List b6),c.2.1,b.1,a.1.2.2.2.2.1,()),()))
 (ab<|Sum.inl ((c.1,a.1.2.1,a.1.2.2.1,b.1,aH i64 a.1.2.2.2.2.1 1,()),()))))
 (ab<|Sum.inr (0,(a.1.1,a.1.2.1,a.1.2.2.1,a.1.2.2.2.1,a.1.2.2.2.2.1,()),()))
def kV(x:(b6×al)×(List b6)×al):Option pM :=
 ag (gr (x.1.1.1,())) (λc=>ag (fC (c.1,())) λd=>ag (Loop (fN d) ((x.2.1,([]:List b6),(0:Int),([]:ay),(0:Int),()),())) λa=>ao (de a.1 0)
 (ag (tf (a.2.1.1,x.1.1,())) λb=>ab (b.1,b.2.1,()))
 (ab (a.2.1.2.1,a.2.1.2.2.1,())))
def se(x:jj×al):Option (tg×Bool×al) :=
 ag (pY (x.1.1.1,())) (λb=>ao (nt<|aS b.2.1 0)
 (ab ((Sum.inr<|Sum.inr<|Sum.inr<|Sum.inr ()),false,()))
 (ag (gr (b.1,())) λc=>ag (rY (c.2.1,())) λd=>ao (aS d.1 1)
 (ag (oU (c.1,d.2.1,())) λa=>ag (ao (ao (aS x.1.1.2.1 1)
 (bH x.1.2.1 ([]:ay))
 false)
 (ag (mN (a.1,())) λe=>ab e.1)
 (ab false)) λe=>ab ((Sum.inl (a.1,())),e,()))
 (ao (aS d.1 2)
 (ag (ao (ao (aS x.1.1.2.1 1)
 (bH x.1.2.1 ([]:ay))
 false)
 (ag (mN (c.1,())) λa=>ab a.1)
 (ab false)) λa=>ab ((Sum.inr<|Sum.inl (c.1,())),a,()))
 (ao (aS d.1 3)
 (ab ((Sum.inr<|Sum.inr<|Sum.inr<|Sum.inr ()),false,()))
 (ao (ao (bH b.1 ([]:ay))
 (aS x.1.1.2.1 2)
 false)
 (ab ((Sum.inr<|Sum.inr<|Sum.inl ()),true,()))
 (ag (eJ ((b.1,x.1.1.2.1,x.1.1.2.2.1,x.1.2.1,x.1.1.2.2.2.2.2.2.2.1,()),())) λa=>ab ((Sum.inr<|Sum.inr<|Sum.inr<|Sum.inl ((b.1,x.1.1.2.1,x.1.1.2.2.1,x.1.2.1,x.1.1.2.2.2.2.2.2.2.1,()),())),a.1,())))))))
def gm(x:(List jj)×al)(a:SO×(List tg)×al):Option ((SO×(List tg)×al)⊕(Nat×SO×(List tg)×al)) :=
 ao (ba a.1.2.2.2.1<|len x.1)
 (ag (idx x.1 a.1.2.2.2.1) λc=>ag (se (c,())) λb=>ao (nt b.2.1)
 (ab<|Sum.inr (1,(([]:List tg),false,(),a.1.2.2.2.1,()),a.2.1,()))
 (ao (fits<|plus (len a.2.1)<|len ([b.1]:List tg))
 (ab<|Sum.inl ((a.1.1,a.1.2.1,(),aH i64 a.1.2.2.2.1 1,()),app a.2.1 ([b.1]:List tg),()))
 ah))
 (ab<|Sum.inr (0,(a.1.1,a.1.2.1,(),a.1.2.2.2.1,()),a.2.1,()))
def mO(x:(List jj)×al):Option ((List tg)×Bool×al) :=
 ag (Loop (gm x) ((([]:List tg),false,(),(0:Int),()),([]:List tg),())) (λa=>ao (de a.1 0)
 (ab (a.2.2.1,true,()))
 (ab (a.2.1.1,a.2.1.2.1,())))
def sf(x:(((ay×al)⊕((ay×al)⊕(al⊕((Dd×al)⊕al))))×((List Dd)×al))):Option ((List Dd)×al) :=
 (λz=>pick (λy=>jw (y,x.2)) (λz=>pick (λy=>gT (y,x.2)) (λz=>pick (λy=>sQ (y,x.2)) (λz=>pick (λy=>sR (y,x.2)) (λ_=>ah) z) z) z) z) x.1
def xh(x:(((ay×al)⊕((ay×al)⊕(al⊕((Dd×al)⊕al))))×((List Dd)×al))):Option ((List Dd)×(Int×al)) :=
 (λz=>pick (λy=>vD (y,x.2)) (λz=>pick (λy=>sP (y,x.2)) (λz=>pick (λy=>vE (y,x.2)) (λz=>pick (λy=>kV (y,x.2)) (λ_=>ah) z) z) z) z) x.1
def lE(b:(List tg)×Bool×al)(a:pM×al):Option ((pM×al)⊕(pM×al)) :=
 dq (ao (ba a.1.2.1<|len b.1)
 (ag (idx b.1 a.1.2.1) λc=>ag (sf (c,a.1.1,())) λd=>ab (Sum.inl ((d.1,aH i64 a.1.2.1 1,()),())))
 (ab<|Sum.inr (0,(a.1.1,a.1.2.1,()),())))
def lF(c:(List tg)×Bool×al)(a:HZ×al):Option ((HZ×al)⊕(Nat×HZ×al)) :=
 ao (ba a.1.2.2.2.1<|len c.1)
 (ag (idx c.1 a.1.2.2.2.1) λd=>ag (xh (d,a.1.2.2.1,())) λb=>ao (nt<|aS b.2.1 0)
 (ab<|Sum.inr (1,(([]:List b6),b.2.1,a.1.2.2.1,a.1.2.2.2.1,()),()))
 (ab<|Sum.inl ((a.1.1,a.1.2.1,b.1,aH i64 a.1.2.2.2.1 1,()),())))
 (ab<|Sum.inr (0,(a.1.1,a.1.2.1,a.1.2.2.1,a.1.2.2.2.1,()),()))
def ub(x:(List b6)×(List jj)×al):Option pM :=
 ag (eI (x.1,())) (λc=>ao (nt<|aS c.1 0)
 (ab (([]:List b6),(1:Int),()))
 (ag (mO (x.2.1,())) λb=>ao (nt b.2.1)
 (ab (([]:List b6),(10:Int),()))
 (ao (fits<|plus (len ([]:List b6))<|len x.1)
 (ag (Loop (lE b) ((app ([]:List b6) x.1,(0:Int),()),())) λd=>ag (Loop (lF b) ((([]:List b6),(0:Int),d.1.1,(0:Int),()),())) λa=>ao (de a.1 0)
 (ab (a.2.1.2.2.1,(0:Int),()))
 (ab (a.2.1.1,a.2.1.2.1,())))
 ah)))
def hH(x:Sb×al):Option (Int×al) :=
 ag (fh (x.1,())) (λa=>ag (mO (a.1,())) λb=>ao (ao (nt<|nt<|aS a.2.1 0)
 (nt b.2.1)
 true)
 (ab ((10:Int),()))
 (ab ((0:Int),())))
def sg(x:jj×Sb×al):Option (b6×al) :=
 ab ((x.2.1,x.1.1.2.1,x.1.1.2.2.1,x.1.2.1,x.1.1.2.2.2.2.2.2.2.1,()),())
def gU(c:(List Sb)×al)(a:SP×al):Option ((SP×al)⊕(Nat×SP×al)) :=
 ao (ba a.1.2.2.1<|len c.1)
 (ag (idx c.1 a.1.2.2.1) λd=>ag (oV (a.1.2.1,d,())) λb=>ag (lV ((b.1,(2:Int),(0:Int),([]:ay),([]:ay),()),())) λe=>ao (nt e.1)
 (ab<|Sum.inr (1,(false,b.1,a.1.2.2.1,()),()))
 (ab<|Sum.inl ((a.1.1,b.1,aH i64 a.1.2.2.1 1,()),())))
 (ab<|Sum.inr (0,(a.1.1,a.1.2.1,a.1.2.2.1,()),()))
def lG(x:Sb×al):Option (Bool×al) :=
 ag (eB (x.1,())) (λb=>ag (Loop (gU b) ((false,([]:ay),(0:Int),()),())) λa=>ao (de a.1 0)
 (ab (nt<|bH x.1 ([]:ay),()))
 (ab (a.2.1.1,())))
def ph(x:jj×al):Option (Int×Sb×Bool×al) :=
 ag (tR (x.1.1.1,())) (λc=>ao (nt<|aS c.2.1 0)
 (ab ((0:Int),([]:ay),false,()))
 (ag (kt (c.1,())) λd=>ag (r0 (d.2.1,())) λb=>ao (aS b.1 1)
 (ag (oV (d.1,b.2.1,())) λa=>ag (ao (ao (aS x.1.1.2.1 1)
 (bH x.1.2.1 ([]:ay))
 false)
 (ag (lG (a.1,())) λe=>ab e.1)
 (ab false)) λe=>ab (b.1,a.1,e,()))
 (ao (aS b.1 2)
 (ag (ao (ao (aS x.1.1.2.1 1)
 (bH x.1.2.1 ([]:ay))
 false)
 (ag (ao (nt<|bH d.1 ([]:ay))
 (ag (lG (d.1,())) λa=>ab a.1)
 (ab true)) λa=>ab a)
 (ab false)) λa=>ab (b.1,d.1,a,()))
 (ao (aS b.1 0)
 (ag (ao (nt<|ao (bH c.1 ([]:ay))
 (aS x.1.1.2.1 2)
 false)
 (ag (sg (x.1,c.1,())) λa=>ag (lV (a.1,())) λe=>ag (ao e.1
 (ag (lG (c.1,())) λf=>ab f.1)
 (ab false)) λf=>ab f)
 (ab true)) λa=>ab (b.1,c.1,a,()))
 (ab ((0:Int),([]:ay),false,()))))))
def pj(x:(List jj)×al)(a:MS×al):Option (SQ⊕SN) :=
 ao (ba a.1.2.1<|len x.1)
 (ag (idx x.1 a.1.2.1) λb=>ag (ph (b,())) λc=>ao (nt c.2.2.1)
 (ab<|Sum.inr (1,(false,a.1.2.1,()),()))
 (ab<|Sum.inl ((a.1.1,aH i64 a.1.2.1 1,()),())))
 (ab<|Sum.inr (0,(a.1.1,a.1.2.1,()),()))
def p5(x:(List jj)×al):Option (Bool×al) :=
 ag (Loop (pj x) ((false,(0:Int),()),())) (λa=>ao (de a.1 0)
 (ab (true,()))
 (ab (a.2.1.1,())))
def mP(d:(List Sb)×al)(a:HY×al):Option ((HY×al)⊕(Nat×HY×al)) :=
 ao (ba (aH i64 a.1.2.2.2.2.1 1)<|len d.1)
 (ag (idx d.1 a.1.2.2.2.2.1) λf=>ag (oV (a.1.2.2.2.1,f,())) λb=>ag (vW (a.1.1,b.1,())) λe=>ao (ao e.2.1
 (aS e.1.2.1 2)
 false)
 (ab<|Sum.inl ((a.1.1,a.1.2.1,a.1.2.2.1,b.1,aH i64 a.1.2.2.2.2.1 1,()),()))
 (ag (oq (a.1.1,(b.1,(2:Int),(493:Int),([]:ay),([]:ay),()),())) λc=>ao (nt<|aS c.2.1 0)
 (ab<|Sum.inr (1,(a.1.1,([]:List b6),c.2.1,b.1,a.1.2.2.2.2.1,()),()))
 (ab<|Sum.inl ((c.1,a.1.2.1,a.1.2.2.1,b.1,aH i64 a.1.2.2.2.2.1 1,()),()))))
 (ab<|Sum.inr (0,(a.1.1,a.1.2.1,a.1.2.2.1,a.1.2.2.2.1,a.1.2.2.2.2.1,()),()))
def vZ(x:(List b6)×Sb×al):Option pM :=
 ag (eB (x.2.1,())) (λb=>ag (Loop (mP b) ((x.1,([]:List b6),(0:Int),([]:ay),(0:Int),()),())) λa=>ao (de a.1 0)
 (ab (a.2.1.1,(0:Int),()))
 (ab (a.2.1.2.1,a.2.1.2.2.1,())))
def ot(x:(List b6)×(List jj)×al)(a:pM×al):Option ((pM×al)⊕(pM×al)) :=
 dq (ao (ba a.1.2.1<|len x.2.1)
 (ag (idx x.2.1 a.1.2.1) λd=>ag (ph (d,())) λc=>ag (ao (aS c.1 1)
 (ag (sd (a.1.1,c.2.1,())) λb=>ab ((b.1,()),()))
 (ag (ao (aS c.1 2)
 (ag (ua (a.1.1,c.2.1,())) λb=>ab ((b.1,()),()))
 (ab ((a.1.1,()),()))) λb=>ab ((b.1.1,()),()))) λb=>ab (Sum.inl ((b.1.1,aH i64 a.1.2.1 1,()),())))
 (ab<|Sum.inr (0,(a.1.1,a.1.2.1,()),())))
def ou(x:(List b6)×(List jj)×al)(a:Yu×al):Option ((Yu×al)⊕(Nat×Yu×al)) :=
 ao (ba a.1.2.2.2.1<|len x.2.1)
 (ag (idx x.2.1 a.1.2.2.2.1) λe=>ag (ph (e,())) λc=>ao (ao (nt<|nt<|aS c.1 0)
 (bH c.2.1 ([]:ay))
 true)
 (ab<|Sum.inl ((a.1.1,a.1.2.1,a.1.2.2.1,aH i64 a.1.2.2.2.1 1,()),()))
 (ag (vZ (a.1.1,c.2.1,())) λd=>ao (nt<|aS d.2.1 0)
 (ab<|Sum.inr (1,(a.1.1,([]:List b6),d.2.1,a.1.2.2.2.1,()),()))
 (ag (idx x.2.1 a.1.2.2.2.1) λf=>ag (sg (f,c.2.1,())) λg=>ag (oq (d.1,g.1,())) λb=>ao (nt<|aS b.2.1 0)
 (ab<|Sum.inr (1,(a.1.1,([]:List b6),b.2.1,a.1.2.2.2.1,()),()))
 (ab<|Sum.inl ((b.1,a.1.2.1,a.1.2.2.1,aH i64 a.1.2.2.2.1 1,()),())))))
 (ab<|Sum.inr (0,(a.1.1,a.1.2.1,a.1.2.2.1,a.1.2.2.2.1,()),()))
def yd(x:(List b6)×(List jj)×al):Option pM :=
 ag (mg (x.1,())) (λb=>ao (nt b.1)
 (ab (([]:List b6),(1:Int),()))
 (ag (p5 (x.2.1,())) λc=>ao (nt c.1)
 (ab (([]:List b6),(10:Int),()))
 (ag (Loop (ot x) ((x.1,(0:Int),()),())) λd=>ag (Loop (ou x) ((d.1.1,([]:List b6),(0:Int),(0:Int),()),())) λa=>ao (de a.1 0)
 (ab (a.2.1.1,(0:Int),()))
 (ab (a.2.1.2.1,a.2.1.2.2.1,())))))
def jN(x:(List b6)×Sb×al):Option pM :=
 ag (fh (x.2.1,())) (λb=>ag (ao (nt<|aS b.2.1 0)
 (ag (eI (x.1,())) λa=>ab (aS a.1 0))
 (ab false)) λa=>ao a
 (ab (([]:List b6),(10:Int),()))
 (ag (ub (x.1,b.1,())) λc=>ab (c.1,c.2.1,())))
def qB(x:Sb×al)(a:MS×al):Option (SQ⊕SN) :=
 ao (ba a.1.2.1<|len x.1)
 (ag (idx x.1 a.1.2.1) λb=>ao (nt<|aS (u8 b) 0)
 (ab<|Sum.inr (1,(false,a.1.2.1,()),()))
 (ab<|Sum.inl ((a.1.1,aH i64 a.1.2.1 1,()),())))
 (ab<|Sum.inr (0,(a.1.1,a.1.2.1,()),()))
def v7(x:Sb×al):Option (Bool×al) :=
 ag (Loop (qB x) ((false,(0:Int),()),())) (λa=>ao (de a.1 0)
 (ab (aS (len x.1) 512,()))
 (ab (a.2.1.1,())))
def qC(x:Sb×al)(a:MS×al):Option (SQ⊕SN) :=
 ao (ba a.1.2.1<|len x.1)
 (ag (idx x.1 a.1.2.1) λb=>ao (nt<|aS (u8 b) 0)
 (ab<|Sum.inr (1,(false,a.1.2.1,()),()))
 (ab<|Sum.inl ((a.1.1,aH i64 a.1.2.1 1,()),())))
 (ab<|Sum.inr (0,(a.1.1,a.1.2.1,()),()))
def v8(x:Sb×al):Option (Bool×al) :=
 ag (ao (nt<|ba (len x.1) 1024)
 (ao (aS 512 0)
 ah
 (ab<|nt<|aS (jQ (len x.1) 512) 0))
 (ab true)) (λb=>ao b
 (ab (false,()))
 (ag (Loop (qC x) ((false,(0:Int),()),())) λa=>ao (de a.1 0)
 (ab (true,()))
 (ab (a.2.1.1,()))))
def nK(x:Sb×al)(a:(Int×al)×al):Option (((Int×al)×al)⊕((Int×al)×al)) :=
 dq (ag (ao (ba a.1.1<|len x.1)
 (ag (idx x.1 a.1.1) λb=>ab (cu 48<|u8 b))
 (ab false)) λb=>ag (ao b
 (ag (idx x.1 a.1.1) λc=>ab (cu (u8 c) 55))
 (ab false)) λc=>ao c
 (ab<|Sum.inl ((aH i64 a.1.1 1,()),()))
 (ab<|Sum.inr (0,(a.1.1,()),())))
def nL(x:Sb×al)(a:(Int×Int×al)×al):Option (((Int×Int×al)×al)⊕(Nat×(Int×Int×al)×al)) :=
 ao (ba a.1.2.1<|len x.1)
 (ag (idx x.1 a.1.2.1) λc=>ag (ao (nt<|aS (u8 c) 0)
 (ag (idx x.1 a.1.2.1) λb=>ab (nt<|aS (u8 b) 32))
 (ab false)) λb=>ao b
 (ab<|Sum.inr (1,((-1:Int),a.1.2.1,()),()))
 (ab<|Sum.inl ((a.1.1,aH i64 a.1.2.1 1,()),())))
 (ab<|Sum.inr (0,(a.1.1,a.1.2.1,()),()))
def fO(x:Sb×al):Option (Int×al) :=
 ag (Loop (nK x) (((0:Int),()),())) (λa=>ao (aS a.1.1<|len x.1)
 (ab ((-1:Int),()))
 (ag (Loop (nL x) (((0:Int),a.1.1,()),())) λb=>ao (de b.1 0)
 (ao (inside 0 a.1.1<|len x.1)
 (ag (nE (sub x.1 (0:Int)<|minus a.1.1 0,())) λc=>ao (nt c.2.1)
 (ab ((-1:Int),()))
 (ab (c.1,())))
 ah)
 (ab (b.2.1.1,()))))
def hJ(x:Sb×al)(a:H2×al):Option ((H2×al)⊕(Nat×H2×al)) :=
 ao (ba a.1.2.2.1<|len x.1)
 (ag (idx x.1 a.1.2.2.1) λb=>ao (nt<|aS (u8 b) 0)
 (ab<|Sum.inr (1,(([]:ay),false,a.1.2.2.1,()),()))
 (ab<|Sum.inl ((a.1.1,a.1.2.1,aH i64 a.1.2.2.1 1,()),())))
 (ab<|Sum.inr (0,(a.1.1,a.1.2.1,a.1.2.2.1,()),()))
def dU(x:Sb×al)(a:H2×al):Option ((H2×al)⊕(Nat×H2×al)) :=
 ao (ba a.1.2.2.1<|len x.1)
 (ag (idx x.1 a.1.2.2.1) λc=>ao (aS (u8 c) 0)
 (ag (Loop (hJ x) ((a.1.1,a.1.2.1,a.1.2.2.1,()),())) λb=>ao (de b.1 0)
 (ao (inside 0 a.1.2.2.1<|len x.1)
 (ab<|Sum.inr (1,(sub x.1 (0:Int)<|minus a.1.2.2.1 0,true,a.1.2.2.1,()),()))
 ah)
 (ab<|Sum.inr (1,(b.2.1.1,b.2.1.2.1,a.1.2.2.1,()),())))
 (ab<|Sum.inl ((a.1.1,a.1.2.1,aH i64 a.1.2.2.1 1,()),())))
 (ab<|Sum.inr (0,(a.1.1,a.1.2.1,a.1.2.2.1,()),()))
def pn(x:Sb×al):Option (Sb×Bool×al) :=
 ag (Loop (dU x) ((([]:ay),false,(0:Int),()),())) (λa=>ao (de a.1 0)
 (ab (x.1,true,()))
 (ab (a.2.1.1,a.2.1.2.1,())))
def po(x:Sb×al):Option (ajb×Int×al) :=
 ag (ao (nt<|nt<|aS (len x.1) 512)
 (ao (inside 257 265<|len x.1)
 (ab<|nt<|bH (sub x.1 (257:Int)<|minus 265 257) ([117,115,116,97,114,0,48,48]:ay))
 ah)
 (ab true)) (λm=>ag (ao (nt m)
 (ao (inside 148 156<|len x.1)
 (ag (fO (sub x.1 (148:Int)<|minus 156 148,())) λg=>ag (x7 (x.1,())) λd=>ab (nt<|aS g.1 d.1))
 ah)
 (ab true)) λg=>ao g
 (ab ((([]:ay),(0:Int),(0:Int),(0:Int),(0:Int),(0:Int),(0:Int),([]:ay),()),(2:Int),()))
 (ao (inside 0 100<|len x.1)
 (ag (pn (sub x.1 (0:Int)<|minus 100 0,())) λd=>ao (inside 157 257<|len x.1)
 (ag (pn (sub x.1 (157:Int)<|minus 257 157,())) λh=>ao (inside 345 500<|len x.1)
 (ag (pn (sub x.1 (345:Int)<|minus 500 345,())) λe=>ao (inside 100 108<|len x.1)
 (ag (fO (sub x.1 (100:Int)<|minus 108 100,())) λi=>ao (inside 108 116<|len x.1)
 (ag (fO (sub x.1 (108:Int)<|minus 116 108,())) λj=>ao (inside 116 124<|len x.1)
 (ag (fO (sub x.1 (116:Int)<|minus 124 116,())) λk=>ao (inside 124 136<|len x.1)
 (ag (fO (sub x.1 (124:Int)<|minus 136 124,())) λl=>ao (inside 136 148<|len x.1)
 (ag (fO (sub x.1 (136:Int)<|minus 148 136,())) λf=>ag (ao (nt<|bH e.1 ([]:ay))
 (ao (fits<|plus (len e.1)<|len ([47]:ay))
 (ao (fits<|plus (len<|app e.1 ([47]:ay))<|len d.1)
 (ab ((),(app (app e.1 ([47]:ay)) d.1,(0:Int),i.1,j.1,k.1,l.1,f.1,([]:ay),()),()))
 ah)
 ah)
 (ab ((),(d.1,(0:Int),i.1,j.1,k.1,l.1,f.1,([]:ay),()),()))) λa=>ag (idx x.1 (156:Int)) λb=>ag (ao (nt<|ao (nt<|ao (nt<|nt d.2.1)
 (nt h.2.1)
 true)
 (nt e.2.1)
 true)
 (ag (uN (((ao (((ao (aS (u8 b) 48)
 ((aS (u8 b) 48,()),())
 ((aS (u8 b) 0,()),())).1).1)
 ((),(a.2.1.1,(1:Int),a.2.1.2.2),())
 ((),((ao (aS (u8 b) 53)
 ((),(a.2.1.1,(2:Int),a.2.1.2.2),())
 ((),((ao (aS (u8 b) 50)
 ((),(a.2.1.1,(3:Int),a.2.1.2.2.1,a.2.1.2.2.2.1,a.2.1.2.2.2.2.1,a.2.1.2.2.2.2.2.1,a.2.1.2.2.2.2.2.2.1,h.1,a.2.1.2.2.2.2.2.2.2.2),())
 ((),a.2.1,())).2).1,())).2).1,())).2).1,(256:Int),())) λc=>ab (nt c.1))
 (ab true)) λc=>ao c
 (ab ((([]:ay),(0:Int),(0:Int),(0:Int),(0:Int),(0:Int),(0:Int),([]:ay),()),(2:Int),()))
 (ab (((ao (((ao (aS (u8 b) 48)
 ((aS (u8 b) 48,()),())
 ((aS (u8 b) 0,()),())).1).1)
 ((),(a.2.1.1,(1:Int),a.2.1.2.2),())
 ((),((ao (aS (u8 b) 53)
 ((),(a.2.1.1,(2:Int),a.2.1.2.2),())
 ((),((ao (aS (u8 b) 50)
 ((),(a.2.1.1,(3:Int),a.2.1.2.2.1,a.2.1.2.2.2.1,a.2.1.2.2.2.2.1,a.2.1.2.2.2.2.2.1,a.2.1.2.2.2.2.2.2.1,h.1,a.2.1.2.2.2.2.2.2.2.2),())
 ((),a.2.1,())).2).1,())).2).1,())).2).1,(0:Int),())))
 ah)
 ah)
 ah)
 ah)
 ah)
 ah)
 ah)
 ah))
def eK(a:SM×(List jj)×al):Option ((SM×(List jj)×al)⊕(Nat×SM×(List jj)×al)) :=
 ao (cu 512<|len a.1.1)
 (ao (inside 0 512<|len a.1.1)
 (ag (v7 (sub a.1.1 (0:Int)<|minus 512 0,())) λe=>ao e.1
 (ag (v8 (a.1.1,())) λb=>ab (Sum.inr (1,(a.1.1,a.2.1,b.1,(),()),a.2.1,())))
 (ao (inside 0 512<|len a.1.1)
 (ag (po (sub a.1.1 (0:Int)<|minus 512 0,())) λb=>ag (ao (nt<|ao (nt<|nt<|aS b.2.1 0)
 (ba 8192 b.1.2.2.2.2.2.1)
 true)
 (ag (nf (b.1.2.2.2.2.2.1,())) λc=>ab (ba (len a.1.1)<|aH i64 512 c.1))
 (ab true)) λc=>ao (ao (nt c)
 (cu 64<|len a.2.1)
 true)
 (ab<|Sum.inr (1,(a.1.1,a.2.1,false,(),()),a.2.1,()))
 (ao (inside 512 (aH i64 512 b.1.2.2.2.2.2.1)<|len a.1.1)
 (ao (fits<|plus (len a.2.1)<|len ([(b.1,sub a.1.1 (512:Int)<|minus (aH i64 512 b.1.2.2.2.2.2.1) 512,())]:List jj))
 (ag (nf (b.1.2.2.2.2.2.1,())) λd=>ao (inside (aH i64 512 d.1) (len a.1.1)<|len a.1.1)
 (ab<|Sum.inl ((sub a.1.1 (aH i64 512 d.1)<|minus (len a.1.1)<|aH i64 512 d.1,a.1.2.1,a.1.2.2.1,(),()),app a.2.1 ([(b.1,sub a.1.1 (512:Int)<|minus (aH i64 512 b.1.2.2.2.2.2.1) 512,())]:List jj),()))
 ah)
 ah)
 ah))
 ah))
 ah)
 (ab<|Sum.inr (0,(a.1.1,a.1.2.1,a.1.2.2.1,(),()),a.2.1,()))
def uc(x:Sb×al):Option ((List jj)×Bool×al) :=
 ao (ba 8192<|len x.1)
 (ab (([]:List jj),false,()))
 (ag (Loop (eK) ((x.1,([]:List jj),false,(),()),([]:List jj),())) λa=>ao (de a.1 0)
 (ab (a.2.2.1,false,()))
 (ab (a.2.1.2.1,a.2.1.2.2.1,())))
def mh(x:Sb×al):Option ((List jj)×Int×al) :=
 ag (uc (x.1,())) (λa=>ao (nt a.2.1)
 (ab (([]:List jj),(10:Int),()))
 (ab (a.1,(0:Int),())))
def nj(x:Sb×al):Option (Int×al) :=
 ag (mh (x.1,())) (λb=>ag (ao (nt<|nt<|aS b.2.1 0)
 (ag (p5 (b.1,())) λa=>ab (nt a.1))
 (ab true)) λa=>ao a
 (ab ((10:Int),()))
 (ab ((0:Int),())))
def ud(x:(List b6)×Sb×al):Option pM :=
 ag (mg (x.1,())) (λc=>ao (nt c.1)
 (ab (([]:List b6),(1:Int),()))
 (ag (nj (x.2.1,())) λa=>ao (nt<|aS a.1 0)
 (ab (([]:List b6),a.1,()))
 (ag (mh (x.2.1,())) λd=>ag (yd (x.1,d.1,())) λb=>ab (b.1,b.2.1,()))))
def gn(x:(List Sb)×al)(a:HZ×al):Option ((HZ×al)⊕(Nat×HZ×al)) :=
 ao (ba a.1.2.2.2.1<|len x.1)
 (ag (idx x.1 a.1.2.2.2.1) λc=>ag (jN (a.1.2.2.1,c,())) λb=>ao (nt<|aS b.2.1 0)
 (ab<|Sum.inr (1,(([]:List b6),b.2.1,a.1.2.2.1,a.1.2.2.2.1,()),()))
 (ab<|Sum.inl ((a.1.1,a.1.2.1,b.1,aH i64 a.1.2.2.2.1 1,()),())))
 (ab<|Sum.inr (0,(a.1.1,a.1.2.1,a.1.2.2.1,a.1.2.2.2.1,()),()))
def p6(x:(List Sb)×al):Option pM :=
 ag (Loop (gn x) ((([]:List b6),(0:Int),([]:List b6),(0:Int),()),())) (λa=>ao (de a.1 0)
 (ab (a.2.1.2.2.1,(0:Int),()))
 (ab (a.2.1.1,a.2.1.2.1,())))
end Go.Ge
namespace Go.Ge
variable [Lp]
set_option maxRecDepth 100000
abbrev dG:=(Sb×Sb×(List Sb)×Sb×Int×Int×Bool×al)
abbrev wa:=(Sb×(List Sb)×Sb×Sb×Sb×(List<|Sb×Sb×Sb×al)×al)
abbrev wc:=(Sb×(List Sb)×Sb×Sb×(List<|Sb×Sb×Sb×al)×al)
abbrev kW:=((List wa)×(List wc)×(List dG)×(List Sb)×(List<|Sb×Int×al)×al)
abbrev ye:=(Sb×Int×Int×Sb×Sb×al)
abbrev pq:=(Bool×Int×al)
abbrev De:=((al×al×Int×al)×(List Sb)×(List Sb)×al)
abbrev we:=(Nat×(Int×Int×al)×al)
abbrev ahe:=(List<|Sb×Sb×Sb×al)
abbrev ue:=(Nat×pq×al)
abbrev MT:=(Sb×(List dG)×Int×al×Int×al)
abbrev si:=((Int×Int×al)×al)
abbrev akJ:=((Nat×(al×al×Int×al)×(List Sb)×(List Sb)×al))
abbrev MU:=((List ye)×Int×(List ye)×Int×al)
abbrev mQ:=(pq×al)
abbrev uQ:=(Int×(List dG)×(List wc)×(List wa)×al)
abbrev GA:=(Sb×Int×al)
def sj(x:(List dG)×al)(a:pq×al):Option (mQ⊕ue) :=
 ao (ao (ba a.1.2.1<|len x.1)
 (ba a.1.2.1 40)
 false)
 (ag (idx x.1 a.1.2.1) λc=>ag (ao (nt<|ba 100<|len c.1)
 (ag (idx x.1 a.1.2.1) λb=>ab (ba 100<|len b.2.1))
 (ab true)) λb=>ao b
 (ab<|Sum.inr (1,(false,a.1.2.1,()),()))
 (ab<|Sum.inl ((a.1.1,aH i64 a.1.2.1 1,()),())))
 (ab<|Sum.inr (0,(a.1.1,a.1.2.1,()),()))
def yf(x:(List dG)×al):Option (Bool×al) :=
 ag (Loop (sj x) ((false,(0:Int),()),())) (λa=>ao (de a.1 0)
 (ab (cu (len x.1) 40,()))
 (ab (a.2.1.1,())))
def sk(x:kW×al)(a:pq×al):Option (mQ⊕ue) :=
 ao (ao (ba a.1.2.1<|len x.1.2.2.2.1)
 (ba a.1.2.1 12)
 false)
 (ag (idx x.1.2.2.2.1 a.1.2.1) λb=>ao (ba 8192<|len b)
 (ab<|Sum.inr (1,(false,a.1.2.1,()),()))
 (ab<|Sum.inl ((a.1.1,aH i64 a.1.2.1 1,()),())))
 (ab<|Sum.inr (0,(a.1.1,a.1.2.1,()),()))
def uR(x:kW×al):Option (Bool×al) :=
 ag (Loop (sk x) ((false,(0:Int),()),())) (λb=>ao (de b.1 0)
 (ag (rf (((0:Int),x.1.2.2.1,x.1.2.1,x.1.1,()),())) λc=>ag (ao c.1
 (ag (yf (x.1.2.2.1,())) λa=>ab a.1)
 (ab false)) λa=>ab (ao (ao (ao a
 (cu (len x.1.2.2.1) 12)
 false)
 (cu (len x.1.2.2.2.1) 12)
 false)
 (cu (len x.1.2.2.2.2.1) 40)
 false,()))
 (ab (b.2.1.1,())))
def gw(x:Sb×al):Option (Bool×al) :=
 ag (pX (x.1,())) (λa=>ab (ao a.2.1
 (aS (len x.1) 6)
 false,()))
def gx(x:dG×al):Option (Bool×al) :=
 ag (gw (x.1.1,())) (λd=>ag (ao d.1
 (ag (ao (nt<|bH x.1.2.1 ([]:ay))
 (ag (gw (x.1.2.1,())) λa=>ab (ao a.1
 (nt<|bH x.1.2.1 x.1.1)
 false))
 (ab true)) λa=>ab a)
 (ab false)) λa=>ag (ao a
 (ag (ng (x.1.2.2.1,())) λb=>ab b.1)
 (ab false)) λb=>ag (ao b
 (ag (fA (x.1.2.2.2.1,())) λc=>ab (aS c.1 0))
 (ab false)) λc=>ab (ao (ao (ao (ao c
 (cu 0 x.1.2.2.2.2.1)
 false)
 (cu x.1.2.2.2.2.1 8192)
 false)
 (cu 0 x.1.2.2.2.2.2.1)
 false)
 (cu x.1.2.2.2.2.2.1 32)
 false,()))
def p7(x:wc×al):Option (Bool×al) :=
 ag (gw (x.1.1,())) (λd=>ag (ao d.1
 (ag (ng (x.1.2.1,())) λb=>ab b.1)
 (ab false)) λb=>ag (ao b
 (ag (ao (nt<|bH x.1.2.2.1 ([]:ay))
 (ag (gw (x.1.2.2.1,())) λa=>ab a.1)
 (ab true)) λa=>ab a)
 (ab false)) λa=>ag (ao (ao a
 (cu (len x.1.2.2.2.1) 64)
 false)
 (ag (nh (x.1.2.2.2.2.1,())) λc=>ab c.1)
 (ab false)) λc=>ab (c,()))
def uS(x:wa×al):Option (Bool×al) :=
 ag (gw (x.1.1,())) (λe=>ag (ao e.1
 (ag (ng (x.1.2.1,())) λb=>ab b.1)
 (ab false)) λb=>ag (ao b
 (ag (ao (nt<|bH x.1.2.2.1 ([]:ay))
 (ag (gw (x.1.2.2.1,())) λa=>ab a.1)
 (ab true)) λa=>ab a)
 (ab false)) λa=>ag (ao a
 (ag (gw (x.1.2.2.2.1,())) λc=>ab c.1)
 (ab false)) λc=>ag (ao (ao c
 (cu (len x.1.2.2.2.2.1) 64)
 false)
 (ag (nh (x.1.2.2.2.2.2.1,())) λd=>ab d.1)
 (ab false)) λd=>ab (d,()))
def H3(x:uQ×al)(a:(al×al×Int×al)×(List Sb)×(List Sb)×al):Option (De⊕De) :=
 dq (ao (ba a.1.2.2.1<|len x.1.2.1)
 (ag (idx x.1.2.1 a.1.2.2.1) λb=>ao (fits<|plus (len a.2.2.1)<|len ([b.1]:List Sb))
 (ag (idx x.1.2.1 a.1.2.2.1) λc=>ao (fits<|plus (len a.2.1)<|len c.2.2.1)
 (ab<|Sum.inl (((),(),aH i64 a.1.2.2.1 1,()),app a.2.1 c.2.2.1,app a.2.2.1 ([b.1]:List Sb),()))
 ah)
 ah)
 (ab<|Sum.inr (0,((),(),a.1.2.2.1,()),a.2.1,a.2.2.1,())))
def H4(x:uQ×al)(a:(al×al×Int×al)×(List Sb)×(List Sb)×al):Option (De⊕De) :=
 dq (ao (ba a.1.2.2.1<|len x.1.2.2.1)
 (ag (idx x.1.2.2.1 a.1.2.2.1) λb=>ao (fits<|plus (len a.2.2.1)<|len ([b.1]:List Sb))
 (ag (idx x.1.2.2.1 a.1.2.2.1) λc=>ao (fits<|plus (len a.2.1)<|len c.2.1)
 (ab<|Sum.inl (((),(),aH i64 a.1.2.2.1 1,()),app a.2.1 c.2.1,app a.2.2.1 ([b.1]:List Sb),()))
 ah)
 ah)
 (ab<|Sum.inr (0,((),(),a.1.2.2.1,()),a.2.1,a.2.2.1,())))
def H5(x:uQ×al)(a:(al×al×Int×al)×(List Sb)×(List Sb)×al):Option (De⊕De) :=
 dq (ao (ba a.1.2.2.1<|len x.1.2.2.2.1)
 (ag (idx x.1.2.2.2.1 a.1.2.2.1) λb=>ao (fits<|plus (len a.2.2.1)<|len ([b.1]:List Sb))
 (ag (idx x.1.2.2.2.1 a.1.2.2.1) λc=>ao (fits<|plus (len a.2.1)<|len c.2.1)
 (ab<|Sum.inl (((),(),aH i64 a.1.2.2.1 1,()),app a.2.1 c.2.1,app a.2.2.1 ([b.1]:List Sb),()))
 ah)
 ah)
 (ab<|Sum.inr (0,((),(),a.1.2.2.1,()),a.2.1,a.2.2.1,())))
def uf(x:uQ×al):Option ((List Sb)×(List Sb)×al) :=
 ag (Loop (H3 x) (((),(),(0:Int),()),([]:List Sb),([]:List Sb),())) (λa=>ag (Loop (H4 x) (((),(),(0:Int),()),a.2.1,a.2.2.1,())) λb=>ag (Loop (H5 x) (((),(),(0:Int),()),b.2.1,b.2.2.1,())) λc=>ab (c.2.2.1,c.2.1,()))
def eL(x:Int×uQ×al)(a:(Int×Int×al)×al):Option (si⊕we) :=
 ao (ba a.1.2.1<|len x.2.1.2.1)
 (ag (idx x.2.1.2.1 a.1.2.1) λb=>ag (gx (b,())) λc=>ao (nt c.1)
 (ab<|Sum.inr (1,((1:Int),a.1.2.1,()),()))
 (ab<|Sum.inl ((a.1.1,aH i64 a.1.2.1 1,()),())))
 (ab<|Sum.inr (0,(a.1.1,a.1.2.1,()),()))
def pr(x:Int×uQ×al)(a:(Int×Int×al)×al):Option (si⊕we) :=
 ao (ba a.1.2.1<|len x.2.1.2.2.1)
 (ag (idx x.2.1.2.2.1 a.1.2.1) λb=>ag (p7 (b,())) λc=>ao (nt c.1)
 (ab<|Sum.inr (1,((1:Int),a.1.2.1,()),()))
 (ab<|Sum.inl ((a.1.1,aH i64 a.1.2.1 1,()),())))
 (ab<|Sum.inr (0,(a.1.1,a.1.2.1,()),()))
def pt(x:Int×uQ×al)(a:(Int×Int×al)×al):Option (si⊕we) :=
 ao (ba a.1.2.1<|len x.2.1.2.2.2.1)
 (ag (idx x.2.1.2.2.2.1 a.1.2.1) λc=>ag (uS (c,())) λb=>ao (nt b.1)
 (ab<|Sum.inr (1,((1:Int),a.1.2.1,()),()))
 (ab<|Sum.inl ((a.1.1,aH i64 a.1.2.1 1,()),())))
 (ab<|Sum.inr (0,(a.1.1,a.1.2.1,()),()))
def iP(b:(List Sb)×(List Sb)×al)(a:(Int×Int×al)×al):Option (si⊕we) :=
 ao (ba a.1.2.1<|len b.1)
 (ag (idx b.1<|da i64 a.1.2.1 1) λc=>ag (idx b.1 a.1.2.1) λd=>ao (nt<|ft c d)
 (ab<|Sum.inr (1,((1:Int),a.1.2.1,()),()))
 (ab<|Sum.inl ((a.1.1,aH i64 a.1.2.1 1,()),())))
 (ab<|Sum.inr (0,(a.1.1,a.1.2.1,()),()))
def iQ(e:(List Sb)×(List Sb)×al)(b:(Int×Int×al)×al)(a:(Int×Int×al)×al):Option (si⊕we) :=
 ao (ba a.1.2.1 b.1.2.1)
 (ag (idx e.2.1 a.1.2.1) λc=>ag (idx e.2.1 b.1.2.1) λd=>ao (bH c d)
 (ab<|Sum.inr (1,((1:Int),a.1.2.1,()),()))
 (ab<|Sum.inl ((a.1.1,aH i64 a.1.2.1 1,()),())))
 (ab<|Sum.inr (0,(a.1.1,a.1.2.1,()),()))
def iR(c:(List Sb)×(List Sb)×al)(a:(Int×Int×al)×al):Option (si⊕we) :=
 ao (ba a.1.2.1<|len c.2.1)
 (ag (Loop (iQ c a) ((a.1.1,(0:Int),()),())) λb=>ao (de b.1 0)
 (ab<|Sum.inl ((b.2.1.1,aH i64 a.1.2.1 1,()),()))
 (ab<|Sum.inr (1,(b.2.1.1,a.1.2.1,()),())))
 (ab<|Sum.inr (0,(a.1.1,a.1.2.1,()),()))
def fE(x:Int×uQ×al):Option (Int×al) :=
 ao (ba x.1 1)
 (ab ((1:Int),()))
 (ao (ba 3 x.1)
 (ab ((1:Int),()))
 (ao (ba x.2.1.1 0)
 (ab ((1:Int),()))
 (ao (ba 9007199254740992 x.2.1.1)
 (ab ((1:Int),()))
 (ao (within x.1 4)
 (ag (idx ([(0:Int),len x.2.1.2.2.2.1,len x.2.1.2.2.1,len x.2.1.2.1]:List (Int)) x.1) λg=>ao (ba 32 g)
 (ab ((1:Int),()))
 (ao (within 1 4)
 (ag (idx ([(0:Int),len x.2.1.2.2.2.1,len x.2.1.2.2.1,len x.2.1.2.1]:List (Int)) (1:Int)) λh=>ao (within 2 4)
 (ag (idx ([(0:Int),len x.2.1.2.2.2.1,len x.2.1.2.2.1,len x.2.1.2.1]:List (Int)) (2:Int)) λi=>ao (within 3 4)
 (ag (idx ([(0:Int),len x.2.1.2.2.2.1,len x.2.1.2.2.1,len x.2.1.2.1]:List (Int)) (3:Int)) λj=>ao (within x.1 4)
 (ag (idx ([(0:Int),len x.2.1.2.2.2.1,len x.2.1.2.2.1,len x.2.1.2.1]:List (Int)) x.1) λk=>ao (nt<|aS (aH i64 (aH i64 h i) j) k)
 (ab ((1:Int),()))
 (ag (Loop (eL x) (((0:Int),(0:Int),()),())) λc=>ao (de c.1 0)
 (ag (Loop (pr x) ((c.2.1.1,(0:Int),()),())) λd=>ao (de d.1 0)
 (ag (Loop (pt x) ((d.2.1.1,(0:Int),()),())) λe=>ao (de e.1 0)
 (ag (uf (x.2.1,())) λf=>ag (Loop (iP f) ((e.2.1.1,(1:Int),()),())) λa=>ao (de a.1 0)
 (ag (Loop (iR f) ((a.2.1.1,(0:Int),()),())) λb=>ao (de b.1 0)
 (ab ((0:Int),()))
 (ab (b.2.1.1,())))
 (ab (a.2.1.1,())))
 (ab (e.2.1.1,())))
 (ab (d.2.1.1,())))
 (ab (c.2.1.1,()))))
 ah)
 ah)
 ah)
 ah))
 ah))))
def Kb(x:(List dG)×Sb×al)(a:(Int×Int×al)×al):Option (si⊕we) :=
 ao (ba a.1.2.1<|len x.1)
 (ag (idx x.1 a.1.2.1) λb=>ao (bH b.1 x.2.1)
 (ab<|Sum.inr (1,(a.1.2.1,a.1.2.1,()),()))
 (ab<|Sum.inl ((a.1.1,aH i64 a.1.2.1 1,()),())))
 (ab<|Sum.inr (0,(a.1.1,a.1.2.1,()),()))
def Aq(x:(List dG)×Sb×al):Option (Int×al) :=
 ag (Loop (Kb x) (((0:Int),(0:Int),()),())) (λa=>ao (de a.1 0)
 (ab ((-1:Int),()))
 (ab (a.2.1.1,())))
def lH(x:(List dG)×Sb×al)(a:MT×(List dG)×al):Option ((MT×(List dG)×al)⊕(Nat×MT×(List dG)×al)) :=
 ao (cu a.1.2.2.2.2.1 16)
 (ag (Aq (x.1,a.1.1,())) λb=>ao (ba b.1 0)
 (ab<|Sum.inr (1,(a.1.1,([]:List dG),(3:Int),(),a.1.2.2.2.2.1,()),a.2.1,()))
 (ao (aS a.1.2.2.2.2.1 16)
 (ab<|Sum.inr (1,(a.1.1,([]:List dG),(5:Int),(),a.1.2.2.2.2.1,()),a.2.1,()))
 (ag (idx x.1 b.1) λc=>ao (fits<|plus (len a.2.1)<|len ([c]:List dG))
 (ag (idx x.1 b.1) λd=>ao (bH d.2.1 ([]:ay))
 (ab<|Sum.inr (1,(a.1.1,app a.2.1 ([c]:List dG),(0:Int),(),a.1.2.2.2.2.1,()),app a.2.1 ([c]:List dG),()))
 (ag (idx x.1 b.1) λe=>ab (Sum.inl ((e.2.1,a.1.2.1,a.1.2.2.1,(),aH i64 a.1.2.2.2.2.1 1,()),app a.2.1 ([c]:List dG),()))))
 ah)))
 (ab<|Sum.inr (0,(a.1.1,a.1.2.1,a.1.2.2.1,(),a.1.2.2.2.2.1,()),a.2.1,()))
def p8(x:(List dG)×Sb×al):Option ((List dG)×Int×al) :=
 ag (Loop (lH x) ((x.2.1,([]:List dG),(0:Int),(),(0:Int),()),([]:List dG),())) (λa=>ao (de a.1 0)
 (ab (([]:List dG),(5:Int),()))
 (ab (a.2.1.2.1,a.2.1.2.2.1,())))
def pv(x:(List dG)×al)(a:(Int×Int×al)×al):Option (si⊕we) :=
 ao (ba a.1.2.1<|len x.1)
 (ag (idx x.1 a.1.2.1) λb=>ag (p8 (x.1,b.1,())) λc=>ao (nt<|aS c.2.1 0)
 (ab<|Sum.inr (1,((2:Int),a.1.2.1,()),()))
 (ab<|Sum.inl ((a.1.1,aH i64 a.1.2.1 1,()),())))
 (ab<|Sum.inr (0,(a.1.1,a.1.2.1,()),()))
def p9(x:(List dG)×al):Option (Int×al) :=
 ag (Loop (pv x) (((0:Int),(0:Int),()),())) (λa=>ao (de a.1 0)
 (ab ((0:Int),()))
 (ab (a.2.1.1,())))
def Kc(x:kW×Sb×al)(a:(Int×Int×al)×al):Option (si⊕we) :=
 ao (ba a.1.2.1<|len x.1.2.2.1)
 (ag (idx x.1.2.2.1 a.1.2.1) λb=>ao (bH b.1 x.2.1)
 (ab<|Sum.inr (1,(a.1.2.1,a.1.2.1,()),()))
 (ab<|Sum.inl ((a.1.1,aH i64 a.1.2.1 1,()),())))
 (ab<|Sum.inr (0,(a.1.1,a.1.2.1,()),()))
def mi(x:kW×Sb×al):Option (Int×al) :=
 ag (Loop (Kc x) (((0:Int),(0:Int),()),())) (λa=>ao (de a.1 0)
 (ab ((-1:Int),()))
 (ab (a.2.1.1,())))
def wg(x:kW×Int×al):Option (Sb×al) :=
 ao (ba x.2.1<|len x.1.2.2.2.1)
 (ag (idx x.1.2.2.2.1 x.2.1) λa=>ab (a,()))
 (ab (([]:ay),()))
def gI(x:(List Sb)×al)(a:MU×al):Option ((MU×al)⊕(Nat×MU×al)) :=
 ao (ba a.1.2.2.2.1<|len x.1)
 (ag (idx x.1 a.1.2.2.2.1) λc=>ag (ud (a.1.2.2.1,c,())) λb=>ao (nt<|aS b.2.1 0)
 (ab<|Sum.inr (1,(([]:List ye),b.2.1,a.1.2.2.1,a.1.2.2.2.1,()),()))
 (ab<|Sum.inl ((a.1.1,a.1.2.1,b.1,aH i64 a.1.2.2.2.1 1,()),())))
 (ab<|Sum.inr (0,(a.1.1,a.1.2.1,a.1.2.2.1,a.1.2.2.2.1,()),()))
def yg(x:(List Sb)×al):Option ((List ye)×Int×al) :=
 ag (Loop (gI x) ((([]:List ye),(0:Int),([]:List ye),(0:Int),()),())) (λa=>ao (de a.1 0)
 (ab (a.2.1.2.2.1,(0:Int),()))
 (ab (a.2.1.1,a.2.1.2.1,())))
def mR(x:kW×Sb×al)(c:(List dG)×Int×al)(a:(al×Int×al)×(List Sb)×al):Option (((al×Int×al)×(List Sb)×al)⊕((al×Int×al)×(List Sb)×al)) :=
 dq (ao (cu 0 a.1.2.1)
 (ag (idx c.1 a.1.2.1) λd=>ag (mi (x.1,d.1,())) λe=>ag (wg (x.1,e.1,())) λb=>ao (fits<|plus (len a.2.1)<|len ([b.1]:List Sb))
 (ab<|Sum.inl (((),da i64 a.1.2.1 1,()),app a.2.1 ([b.1]:List Sb),()))
 ah)
 (ab<|Sum.inr (0,((),a.1.2.1,()),a.2.1,())))
def mj(x:kW×Sb×al):Option ((List ye)×Int×al) :=
 ag (p8 (x.1.2.2.1,x.2.1,())) (λa=>ao (nt<|aS a.2.1 0)
 (ab (([]:List ye),a.2.1,()))
 (ag (Loop (mR x a) (((),da i64 (len a.1) 1,()),([]:List Sb),())) λc=>ag (yg (c.2.1,())) λb=>ab (b.1,b.2.1,())))
def gV(x:kW×al)(a:pq×al):Option (mQ⊕ue) :=
 ao (ao (ba a.1.2.1<|len x.1.2.2.1)
 (ba a.1.2.1<|len x.1.2.2.2.1)
 false)
 (ag (idx x.1.2.2.1 a.1.2.1) λb=>ao (nt b.2.2.2.2.2.2.1)
 (ab<|Sum.inr (1,(false,a.1.2.1,()),()))
 (ao (nt<|aS b.2.2.2.2.2.1 0)
 (ab<|Sum.inr (1,(false,a.1.2.1,()),()))
 (ag (idx x.1.2.2.2.1 a.1.2.1) λc=>ao (nt<|aS b.2.2.2.2.1<|len c)
 (ab<|Sum.inr (1,(false,a.1.2.1,()),()))
 (ag (idx x.1.2.2.2.1 a.1.2.1) λd=>ag (te (d,())) λe=>ao (nt<|bH b.2.2.2.1 e.1)
 (ab<|Sum.inr (1,(false,a.1.2.1,()),()))
 (ag (idx x.1.2.2.2.1 a.1.2.1) λf=>ag (nj (f,())) λg=>ao (nt<|aS g.1 0)
 (ab<|Sum.inr (1,(false,a.1.2.1,()),()))
 (ag (mj (x.1,b.1,())) λh=>ao (nt<|aS h.2.1 0)
 (ab<|Sum.inr (1,(false,a.1.2.1,()),()))
 (ab<|Sum.inl ((a.1.1,aH i64 a.1.2.1 1,()),()))))))))
 (ab<|Sum.inr (0,(a.1.1,a.1.2.1,()),()))
def jk(x:kW×al):Option (Bool×al) :=
 ag (ao (nt<|nt<|aS (len x.1.2.2.2.1)<|len x.1.2.2.1)
 (ag (p9 (x.1.2.2.1,())) λa=>ab (nt<|aS a.1 0))
 (ab true)) (λa=>ao a
 (ab (false,()))
 (ag (Loop (gV x) ((false,(0:Int),()),())) λb=>ao (de b.1 0)
 (ab (true,()))
 (ab (b.2.1.1,()))))
def ow(x:kW×al)(a:pq×al):Option (mQ⊕ue) :=
 ao (ba a.1.2.1<|len x.1.2.1)
 (ag (idx x.1.2.1 a.1.2.1) λb=>ao (nt<|bH b.2.2.1 ([]:ay))
 (ag (idx x.1.2.1 a.1.2.1) λc=>ag (mi (x.1,c.2.2.1,())) λd=>ao (ba d.1 0)
 (ab<|Sum.inr (1,(false,a.1.2.1,()),()))
 (ab<|Sum.inl ((a.1.1,aH i64 a.1.2.1 1,()),())))
 (ab<|Sum.inl ((a.1.1,aH i64 a.1.2.1 1,()),())))
 (ab<|Sum.inr (0,(a.1.1,a.1.2.1,()),()))
def ox(x:kW×al)(b:Sb×(List Sb)×Sb×Sb×Sb×ahe×al)(a:pq×al):Option (mQ⊕mQ) :=
 dq (ao (ba a.1.2.1<|len x.1.2.1)
 (ao a.1.1
 (ab<|Sum.inl ((true,aH i64 a.1.2.1 1,()),()))
 (ag (idx x.1.2.1 a.1.2.1) λc=>ab (Sum.inl ((bH c.1 b.2.2.1,aH i64 a.1.2.1 1,()),()))))
 (ab<|Sum.inr (0,(a.1.1,a.1.2.1,()),())))
def oz(x:kW×al)(a:pq×al):Option (mQ⊕ue) :=
 ao (ba a.1.2.1<|len x.1.1)
 (ag (idx x.1.1 a.1.2.1) λb=>ag (Loop (ox x b) ((bH b.2.2.1 ([]:ay),(0:Int),()),())) λd=>ag (ao (nt<|nt d.1.1)
 (ag (mi (x.1,b.2.2.2.1,())) λc=>ab (ba c.1 0))
 (ab true)) λc=>ao c
 (ab<|Sum.inr (1,(false,a.1.2.1,()),()))
 (ab<|Sum.inl ((a.1.1,aH i64 a.1.2.1 1,()),())))
 (ab<|Sum.inr (0,(a.1.1,a.1.2.1,()),()))
def oA(x:kW×al)(a:pq×al):Option (mQ⊕ue) :=
 ao (ba a.1.2.1<|len x.1.2.2.2.2.1)
 (ag (idx x.1.2.2.2.2.1 a.1.2.1) λb=>ag (mi (x.1,b.1,())) λd=>ao (ba d.1 0)
 (ab<|Sum.inr (1,(false,a.1.2.1,()),()))
 (ao (ba b.2.1 1)
 (ab<|Sum.inr (1,(false,a.1.2.1,()),()))
 (ao (ba 1000 b.2.1)
 (ab<|Sum.inr (1,(false,a.1.2.1,()),()))
 (ao (ba 0 a.1.2.1)
 (ag (idx x.1.2.2.2.2.1<|da i64 a.1.2.1 1) λc=>ao (nt<|ft c.1 b.1)
 (ab<|Sum.inr (1,(false,a.1.2.1,()),()))
 (ab<|Sum.inl ((a.1.1,aH i64 a.1.2.1 1,()),())))
 (ab<|Sum.inl ((a.1.1,aH i64 a.1.2.1 1,()),()))))))
 (ab<|Sum.inr (0,(a.1.1,a.1.2.1,()),()))
def ka(x:kW×al):Option (Bool×al) :=
 ag (fE ((1:Int),((0:Int),([]:List dG),([]:List wc),x.1.1,()),())) (λg=>ag (ao (nt<|nt<|aS g.1 0)
 (ag (fE ((2:Int),((0:Int),([]:List dG),x.1.2.1,([]:List wa),()),())) λa=>ab (nt<|aS a.1 0))
 (ab true)) λa=>ag (ao (nt a)
 (ag (fE ((3:Int),((0:Int),x.1.2.2.1,([]:List wc),([]:List wa),()),())) λb=>ab (nt<|aS b.1 0))
 (ab true)) λb=>ag (ao (nt b)
 (ag (jk (x.1,())) λc=>ab (nt c.1))
 (ab true)) λc=>ao (ao (nt c)
 (ba 32<|len x.1.2.2.2.2.1)
 true)
 (ab (false,()))
 (ag (Loop (ow x) ((false,(0:Int),()),())) λd=>ao (de d.1 0)
 (ag (Loop (oz x) ((d.2.1.1,(0:Int),()),())) λe=>ao (de e.1 0)
 (ag (Loop (oA x) ((e.2.1.1,(0:Int),()),())) λf=>ao (de f.1 0)
 (ab (true,()))
 (ab (f.2.1.1,())))
 (ab (e.2.1.1,())))
 (ab (d.2.1.1,()))))
def kb(x:(List wa)×(List wa)×al)(a:pq×al):Option (mQ⊕ue) :=
 ao (ao (ba a.1.2.1<|len x.1)
 (ba a.1.2.1<|len x.2.1)
 false)
 (ag (idx x.1 a.1.2.1) λb=>ag (idx x.2.1 a.1.2.1) λc=>ag (ao (nt<|nt<|bH b.1 c.1)
 (ag (eW (b.2.1,c.2.1,())) λd=>ab (nt d.1))
 (ab true)) λd=>ag (ao (nt<|ao (nt<|ao (nt<|ao (nt d)
 (nt<|bH b.2.2.1 c.2.2.1)
 true)
 (nt<|bH b.2.2.2.1 c.2.2.2.1)
 true)
 (nt<|bH b.2.2.2.2.1 c.2.2.2.2.1)
 true)
 (ag (gS (b.2.2.2.2.2.1,c.2.2.2.2.2.1,())) λe=>ab (nt e.1))
 (ab true)) λe=>ao e
 (ab<|Sum.inr (1,(false,a.1.2.1,()),()))
 (ab<|Sum.inl ((a.1.1,aH i64 a.1.2.1 1,()),())))
 (ab<|Sum.inr (0,(a.1.1,a.1.2.1,()),()))
def nM(x:(List wa)×(List wa)×al):Option (Bool×al) :=
 ao (nt<|aS (len x.1)<|len x.2.1)
 (ab (false,()))
 (ag (Loop (kb x) ((false,(0:Int),()),())) λa=>ao (de a.1 0)
 (ab (true,()))
 (ab (a.2.1.1,())))
def jx(x:(List wc)×(List wc)×al)(a:pq×al):Option (mQ⊕ue) :=
 ao (ao (ba a.1.2.1<|len x.1)
 (ba a.1.2.1<|len x.2.1)
 false)
 (ag (idx x.1 a.1.2.1) λb=>ag (idx x.2.1 a.1.2.1) λc=>ag (ao (nt<|nt<|bH b.1 c.1)
 (ag (eW (b.2.1,c.2.1,())) λd=>ab (nt d.1))
 (ab true)) λd=>ag (ao (nt<|ao (nt<|ao (nt d)
 (nt<|bH b.2.2.1 c.2.2.1)
 true)
 (nt<|bH b.2.2.2.1 c.2.2.2.1)
 true)
 (ag (gS (b.2.2.2.2.1,c.2.2.2.2.1,())) λe=>ab (nt e.1))
 (ab true)) λe=>ao e
 (ab<|Sum.inr (1,(false,a.1.2.1,()),()))
 (ab<|Sum.inl ((a.1.1,aH i64 a.1.2.1 1,()),())))
 (ab<|Sum.inr (0,(a.1.1,a.1.2.1,()),()))
def mm(x:(List wc)×(List wc)×al):Option (Bool×al) :=
 ao (nt<|aS (len x.1)<|len x.2.1)
 (ab (false,()))
 (ag (Loop (jx x) ((false,(0:Int),()),())) λa=>ao (de a.1 0)
 (ab (true,()))
 (ab (a.2.1.1,())))
def jy(x:(List dG)×(List dG)×al)(a:pq×al):Option (mQ⊕ue) :=
 ao (ao (ba a.1.2.1<|len x.1)
 (ba a.1.2.1<|len x.2.1)
 false)
 (ag (idx x.1 a.1.2.1) λb=>ag (idx x.2.1 a.1.2.1) λc=>ag (ao (nt<|ao (nt<|nt<|bH b.1 c.1)
 (nt<|bH b.2.1 c.2.1)
 true)
 (ag (eW (b.2.2.1,c.2.2.1,())) λd=>ab (nt d.1))
 (ab true)) λd=>ao (ao (nt<|ao (nt<|ao (nt<|ao (nt d)
 (nt<|bH b.2.2.2.1 c.2.2.2.1)
 true)
 (nt<|aS b.2.2.2.2.1 c.2.2.2.2.1)
 true)
 (nt<|aS b.2.2.2.2.2.1 c.2.2.2.2.2.1)
 true)
 (nt<|eqB b.2.2.2.2.2.2.1 c.2.2.2.2.2.2.1)
 true)
 (ab<|Sum.inr (1,(false,a.1.2.1,()),()))
 (ab<|Sum.inl ((a.1.1,aH i64 a.1.2.1 1,()),())))
 (ab<|Sum.inr (0,(a.1.1,a.1.2.1,()),()))
def mn(x:(List dG)×(List dG)×al):Option (Bool×al) :=
 ao (nt<|aS (len x.1)<|len x.2.1)
 (ab (false,()))
 (ag (Loop (jy x) ((false,(0:Int),()),())) λa=>ao (de a.1 0)
 (ab (true,()))
 (ab (a.2.1.1,())))
def jz(x:(List GA)×(List GA)×al)(a:pq×al):Option (mQ⊕ue) :=
 ao (ao (ba a.1.2.1<|len x.1)
 (ba a.1.2.1<|len x.2.1)
 false)
 (ag (idx x.1 a.1.2.1) λb=>ag (idx x.2.1 a.1.2.1) λc=>ao (nt<|an (bH b.1 c.1)<|an (aS b.2.1 c.2.1) true)
 (ab<|Sum.inr (1,(false,a.1.2.1,()),()))
 (ab<|Sum.inl ((a.1.1,aH i64 a.1.2.1 1,()),())))
 (ab<|Sum.inr (0,(a.1.1,a.1.2.1,()),()))
def mo(x:(List GA)×(List GA)×al):Option (Bool×al) :=
 ao (nt<|aS (len x.1)<|len x.2.1)
 (ab (false,()))
 (ag (Loop (jz x) ((false,(0:Int),()),())) λa=>ao (de a.1 0)
 (ab (true,()))
 (ab (a.2.1.1,())))
def wi(x:kW×kW×al):Option (Bool×al) :=
 ag (nM (x.1.1,x.2.1.1,())) (λe=>ag (ao e.1
 (ag (mm (x.1.2.1,x.2.1.2.1,())) λa=>ab a.1)
 (ab false)) λa=>ag (ao a
 (ag (mn (x.1.2.2.1,x.2.1.2.2.1,())) λb=>ab b.1)
 (ab false)) λb=>ag (ao b
 (ag (eW (x.1.2.2.2.1,x.2.1.2.2.2.1,())) λc=>ab c.1)
 (ab false)) λc=>ag (ao c
 (ag (mo (x.1.2.2.2.2.1,x.2.1.2.2.2.2.1,())) λd=>ab d.1)
 (ab false)) λd=>ab (d,()))
end Go.Ge
namespace Go.Ge
variable [Lp]
def idN(n:Int):Tx:=uP (bu [kE .u8<|mz .i64 n 16,kE .u8 (mz .i64 n 8),kE .u8 n])
def idK(d:Int)(k:Nat):Tx:=idN (jQ (aH .i64 (jR .i64 d 16777215) (k:Int)) 16777216)
def H6(s:Tx):Prop:=(oj s).isSome=true/\s.length=6
def oB(s:Tx)(a:s.length<=1048576):∃b,gw (s,())=ab (b,())/\(b=true↔H6 s):=by
 unfold gw;dsimp only;rw[Gp s a,aa];have e6:aS (@len UInt8 s) (6:Int)=decide (s.length=6):=by unfold aS len;apply gX.2;omega
 refine⟨_,rfl,?_⟩;rw[e6];unfold H6 ans;cases oj s with
 | none=>simp[ao]
 | some x=>simp[ao]
def Pe(n:Int):ya (n,())=ab (idN n,()):=by
 unfold ya;rw[show ba (16:Int) 0=false from rfl,af,show ba (8:Int) 0=false from rfl,af,SA _ (by show 3<=1048576;omega),aa];rfl
def ajc(n:Int):H6 (idN n):=by
 have h:∀a b c:UInt8,(oj<|uP [a,b,c]).isSome=true/\(uP [a,b,c]).length=6:=λa b c=>⟨by rw[QB];rfl,rfl⟩;exact h _ _ _
def GB(l:List Nm)(d:Int)(k:Nat):Bool:=decide (∀x∈l,x.1≠idK d k)
def cD(l:List Nm)(d:Int):Tx×Int×al:=if 32<=l.length then([],5,()) else
 match(List.range<|l.length+1).find? (GB l d) with|some k=>(idK d k,0,())|none=>([],5,())
def abO(l:List Nm)(d:Int)(s:Tx)(k:l.length<=1000000) :
  (∃i:Nat,Loop (gR (l,d,())) (((0:Int),(0:Int),()),s,())=ab (1,((i:Int),(i:Int),()),s,())/\∃x∈l,x.1=s) \/
  (Loop (gR (l,d,())) (((0:Int),(0:Int),()),s,())=ab (0,((0:Int),len l,()),s,())/\∀x∈l,x.1≠s):=by
 rcases iK (f:=gR (l,d,())) l (λi=>(((0:Int),i,()),s,())) (λ_ x=>decide (x.1=s)) (λi x=>(1,((i:Int),(i:Int),()),s,())) (0,((0:Int),len l,()),s,()) ai (λi x a b c=>by
  unfold gR;dsimp only;rw[aq b,ae,au a,aa,ew,c];by_cases h:x.1=s<;>simp[bH,h]) (by unfold gR;dsimp only;rw[aw,af];rfl) with ⟨i,x,a,e,m,h⟩|⟨g,h⟩
 .exact .inl ⟨i,h,x,eQ a,iq e⟩
 .refine .inr ⟨h,λx a j=>?_⟩;obtain⟨i,b⟩:=bz.1 a;have:=g i x b;simp[j] at this
def Df(l:List Nm)(d:Int):gH (l,d,())=ab (cD l d):=by
 unfold gH cD;dsimp only;have g:cu (32:Int) (len l)=decide (32<=l.length):=by unfold cu len;apply gX.2;omega
 rw[g];by_cases a:32<=l.length
 .rw[dD a,aX a];rfl
 rw[cL a,aR a,af];have b:aH .i64 (len l) 1=((l.length+1:Nat):Int):=by rw[e8 fi fi];unfold len;omega
 have hlen:(List.range<|l.length+1).length=l.length+1:=Zu;have key:∀k:Nat,k<l.length+1->j8 (l,d,()) ((([]:Tx),(0:Int),(k:Int),()),())=ab (if GB l d k=true then .inr (1,(idK d k,(0:Int),(k:Int),()),()) else .inl ((([]:Tx),(0:Int),((k+1:Nat):Int),()),())):=λk c=>by
  have m:aH .i64 (k:Int) 1=((k+1:Nat):Int):=aL ai;unfold j8;dsimp only;rw[b,aO ai,ae,show aS (16777216:Int) 0=false from rfl,af,Pe,aa,m];dsimp only;show ag (Loop _ (((0:Int),(0:Int),()),idK d k,())) _=_
  rcases abO l d (idK d k) ai with ⟨i,h,x,e,r⟩|⟨h,n⟩
  .rw[h,aa];dsimp only;rw[show de 1 0=false from rfl,af,bO ai,aG,af,aR (by unfold GB;rw[TP];exact λs=>s x e r)]
  .rw[h,aa];dsimp only;rw[show de 0 0=true from rfl,ae,show nt (cu (0:Int)<|-1)=true from rfl,ae,aX (by unfold GB;rw[TP];exact n)];rfl
 rcases iK (f:=j8 (l,d,())) (List.range<|l.length+1) (λk=>((([]:Tx),(0:Int),k,()),())) (λk _=>GB l d k) (λk _=>(1,(idK d k,(0:Int),(k:Int),()),())) (0,(([]:Tx),(0:Int),((l.length+1:Nat):Int),()),()) (by rw[hlen];omega)
  (λk x e q v=>key k (by rw[hlen] at q;exact q)) (by
   unfold j8;dsimp only;rw[b,hlen,aJ ai,af]) with ⟨k,x,e,t,u,h⟩|⟨n,h⟩
 .have c:=aF e;rw[hlen] at c;rw[h,aa];have o:(List.range<|l.length+1).find? (GB l d)=ab k:=by
   rw[ac7];refine⟨t,k,by rw[hlen];exact c,bb,λj p=>?_⟩;have:=u j j p (by rw[W1 ai]);simpa using this
  rw[o];rfl
 .rw[h,aa];have o:(List.range<|l.length+1).find? (GB l d)=none:=by
   rw[TQ];intro k c;have c:=Ll.1 c;have:=n k k (by rw[W1 c]);simpa using this
  rw[o];rfl
def GC{l:List Nm}{d:Int}(h:(cD l d).2.1=0):l.length<32/\H6 (cD l d).1/\∀x∈l,x.1≠(cD l d).1:=by
 unfold cD at h⊢;by_cases a:32<=l.length
 .rw[aX a] at h;cases h
 .rw[aR a] at h⊢;cases b:(List.range<|l.length+1).find? (GB l d) with
  | none=>rw[b] at h;cases h
  | some k =>
    have:=P8 b;unfold GB at this;exact⟨ai,ajc _,iq this⟩
set_option maxRecDepth 100000
abbrev dW:=((List<|Sb×(List Sb)×Sb×Sb×Sb×(List<|Sb×Sb×Sb×al)×al)×(List<|Sb×(List Sb)×Sb×Sb×(List<|Sb×Sb×Sb×al)×al)×(List<|Sb×Sb×(List Sb)×Sb×Int×Int×Bool×al)×(List Sb)×(List<|Sb×Int×al)×al)
abbrev ck:=(Sb×Sb×(List Sb)×Sb×Int×Int×Bool×al)
abbrev yM:=(Sb×Int×al)
abbrev EY:=(Int×Sb×Int×Sb×al)
abbrev xj:=(Sb×Int×Int×Sb×Sb×al)
abbrev Cj:=(Nat×(Int×Int×al)×Sb×al)
abbrev Ck:=((Int×Int×al)×Sb×al)
abbrev amG:=(Sb×(List Sb)×Sb×Sb×Sb×(List<|Sb×Sb×Sb×al)×al)
abbrev ajd:=(Sb×Int×Int×al)
abbrev amH:=(Sb×(List Sb)×al)
abbrev alw:=(Sb×(List Sb)×Sb×Sb×(List<|Sb×Sb×Sb×al)×al)
abbrev Dg:=((List ck)×Int×al×Sb×Int×al)
abbrev iz:=(Int×Int×al)
abbrev yh:=((List ck)×Int×al×Sb×al)
abbrev alx:=(Int×Sb×Int×al)
abbrev SS:=(Nat×iz×al×Sb×al)
abbrev GD:=(ay×(ay×((List ay)×(ay×(Int×(Int×(Bool×al)))))))
abbrev aly:=((al×al×Bool×Int×al)×(List Sb)×(List ck)×al)
abbrev SU:=(iz×al×Sb×al)
abbrev aaf:=((Int×Int×al×al)×Sb×(List yM)×al)
abbrev alz:=(Nat×ajd×al)
def eX(l:List ay)(x:(Int×((List ay)×al))):Option (List ay):=uJ l x.1 x.2.1
def dH(l:List GD)(x:(Int×((List GD)×al))):Option (List GD):=uJ l x.1 x.2.1
def eY(l:List ay)(x:(Int×(Int×al))):Option (List ay):=HI l x.1 x.2.1
def dI(l:List GD)(x:(Int×(Int×al))):Option (List GD):=HI l x.1 x.2.1
def e9(l:List (ay×(Int×al)))(x:(Int×((List<|ay×(Int×al))×al))):Option (List<|ay×(Int×al)):=uJ l x.1 x.2.1
def yN(x:al):Option (Sb×al) :=
 ag (oO (([0]:ay),(1024:Int),())) (λa=>ab (a.1,()))
def lI(x:(List ck)×Sb×al)(a:Dg×(List ck)×al):Option ((Dg×(List ck)×al)⊕(Nat×Dg×(List ck)×al)) :=
 ao (ba a.1.2.2.2.2.1<|len x.1)
 (ag (idx x.1 a.1.2.2.2.2.1) λb=>ao (nt<|bH b.1 a.1.2.2.2.1)
 (ab<|Sum.inl ((a.1.1,a.1.2.1,(),a.1.2.2.2.1,aH i64 a.1.2.2.2.2.1 1,()),a.2.1,()))
 (ao (aS (len a.2.1) 16)
 (ab<|Sum.inr (1,(([]:List ck),(5:Int),(),a.1.2.2.2.1,a.1.2.2.2.2.1,()),a.2.1,()))
 (ag (bc (b.2.2.1,())) λc=>ao (fits<|plus (len a.2.1)<|len ([(b.1,b.2.1,c.1,b.2.2.2)]:List ck))
 (ao (bH b.2.1 ([]:ay))
 (ab<|Sum.inr (2,(a.1.1,a.1.2.1,(),a.1.2.2.2.1,a.1.2.2.2.2.1,()),app a.2.1 ([(b.1,b.2.1,c.1,b.2.2.2)]:List ck),()))
 (ab<|Sum.inr (3,(a.1.1,a.1.2.1,(),b.2.1,a.1.2.2.2.2.1,()),app a.2.1 ([(b.1,b.2.1,c.1,b.2.2.2)]:List ck),())))
 ah)))
 (ab<|Sum.inr (0,(a.1.1,a.1.2.1,(),a.1.2.2.2.1,a.1.2.2.2.2.1,()),a.2.1,()))
def lJ(x:(List ck)×Sb×al)(c:yh×(List ck)×al):Option ((yh×(List ck)×al)⊕(Nat×yh×(List ck)×al)) :=
 ag (Loop (lI x) ((c.1.1,c.1.2.1,(),c.1.2.2.2.1,(0:Int),()),c.2.1,())) (λa=>ao (de a.1 0)
 (ab<|Sum.inr (0,(([]:List ck),(3:Int),(),a.2.1.2.2.2.1,()),a.2.2.1,()))
 (ao (de (@Nat.rec (λ(b:Nat)=>Nat) 0 (λ(b:Nat)=>λ(d:Nat)=>b) a.1) 0)
 (ab<|Sum.inr (0,(a.2.1.1,a.2.1.2.1,(),a.2.1.2.2.2.1,()),a.2.2.1,()))
 (ao (de (@Nat.rec (λ(b:Nat)=>Nat) 0 (λ(b:Nat)=>λ(d:Nat)=>b)<|@Nat.rec (λ(b:Nat)=>Nat) 0 (λ(b:Nat)=>λ(d:Nat)=>b) a.1) 0)
 (ab<|Sum.inr (1,(a.2.1.1,a.2.1.2.1,(),a.2.1.2.2.2.1,()),a.2.2.1,()))
 (ab<|Sum.inl ((a.2.1.1,a.2.1.2.1,(),a.2.1.2.2.2.1,()),a.2.2.1,())))))
def kv(x:(List ck)×Sb×al):Option ((List ck)×Int×al) :=
 ag (Loop (lJ x) ((([]:List ck),(0:Int),(),x.2.1,()),([]:List ck),())) (λa=>ao (de a.1 0)
 (ab (a.2.1.1,a.2.1.2.1,()))
 (ab (a.2.2.1,(0:Int),())))
def nk(x:dW×al):Option ((List Sb)×al) :=
 ao (inside 0 (len x.1.2.2.1)<|len x.1.2.2.1)
 (ao (fits<|len x.1.2.2.1)
 (ab (over (kj (len x.1.2.2.1) ([]:ay)) (0:Int)<|@iW Sb x.1.2.2.2.1<|len<|kj (len x.1.2.2.1) ([]:ay),()))
 ah)
 ah
def vh(x:ck×al):Option (Sb×al) :=
 ab (x.1.1,())
def H7(x:dW×Sb×al)(a:iz×al×Sb×al):Option (SU⊕SS) :=
 ao (ba a.1.2.1<|len x.1.2.2.1)
 (ag (idx x.1.2.2.1 a.1.2.1) λb=>ag (vh (b,())) λc=>ao (bH c.1 a.2.2.1)
 (ab<|Sum.inr (1,(a.1.2.1,a.1.2.1,()),(),a.2.2.1,()))
 (ab<|Sum.inl ((a.1.1,aH i64 a.1.2.1 1,()),(),a.2.2.1,())))
 (ab<|Sum.inr (0,(a.1.1,a.1.2.1,()),(),a.2.2.1,()))
def iI(x:dW×Sb×al):Option (ck×Sb×Bool×al) :=
 ag (ag (Loop (H7 x) (((0:Int),(0:Int),()),(),x.2.1,())) λa=>ao (de a.1 0)
 (ab (((-1:Int),()),(),a.2.2.2.1,()))
 (ab ((a.2.1.1,()),(),a.2.2.2.1,()))) (λa=>ao (ba a.1.1 0)
 (ab ((([]:ay),([]:ay),([]:List Sb),([]:ay),(0:Int),(0:Int),false,()),([]:ay),false,()))
 (ag (idx x.1.2.2.1 a.1.1) λb=>ag (bc (b.2.2.1,())) λc=>ag (nk (x.1,())) λd=>ag (idx d.1 a.1.1) λe=>ab ((b.1,b.2.1,c.1,b.2.2.2),e,true,())))
def Kd(x:dW×Sb×al)(a:Dg×(List ck)×al):Option ((Dg×(List ck)×al)⊕(Nat×Dg×(List ck)×al)) :=
 ao (ba a.1.2.2.2.2.1<|len x.1.2.2.1)
 (ag (idx x.1.2.2.1 a.1.2.2.2.2.1) λb=>ao (nt<|bH b.1 a.1.2.2.2.1)
 (ab<|Sum.inl ((a.1.1,a.1.2.1,(),a.1.2.2.2.1,aH i64 a.1.2.2.2.2.1 1,()),a.2.1,()))
 (ao (aS (len a.2.1) 16)
 (ab<|Sum.inr (1,(([]:List ck),(5:Int),(),a.1.2.2.2.1,a.1.2.2.2.2.1,()),a.2.1,()))
 (ag (bc (b.2.2.1,())) λc=>ao (fits<|plus (len a.2.1)<|len ([(b.1,b.2.1,c.1,b.2.2.2)]:List ck))
 (ao (bH b.2.1 ([]:ay))
 (ab<|Sum.inr (2,(a.1.1,a.1.2.1,(),a.1.2.2.2.1,a.1.2.2.2.2.1,()),app a.2.1 ([(b.1,b.2.1,c.1,b.2.2.2)]:List ck),()))
 (ab<|Sum.inr (3,(a.1.1,a.1.2.1,(),b.2.1,a.1.2.2.2.2.1,()),app a.2.1 ([(b.1,b.2.1,c.1,b.2.2.2)]:List ck),())))
 ah)))
 (ab<|Sum.inr (0,(a.1.1,a.1.2.1,(),a.1.2.2.2.1,a.1.2.2.2.2.1,()),a.2.1,()))
def Bg(x:dW×Sb×al)(c:yh×(List ck)×al):Option ((yh×(List ck)×al)⊕(Nat×yh×(List ck)×al)) :=
 ag (Loop (Kd x) ((c.1.1,c.1.2.1,(),c.1.2.2.2.1,(0:Int),()),c.2.1,())) (λa=>ao (de a.1 0)
 (ab<|Sum.inr (0,(([]:List ck),(3:Int),(),a.2.1.2.2.2.1,()),a.2.2.1,()))
 (ao (de (@Nat.rec (λ(b:Nat)=>Nat) 0 (λ(b:Nat)=>λ(d:Nat)=>b) a.1) 0)
 (ab<|Sum.inr (0,(a.2.1.1,a.2.1.2.1,(),a.2.1.2.2.2.1,()),a.2.2.1,()))
 (ao (de (@Nat.rec (λ(b:Nat)=>Nat) 0 (λ(b:Nat)=>λ(d:Nat)=>b)<|@Nat.rec (λ(b:Nat)=>Nat) 0 (λ(b:Nat)=>λ(d:Nat)=>b) a.1) 0)
 (ab<|Sum.inr (1,(a.2.1.1,a.2.1.2.1,(),a.2.1.2.2.2.1,()),a.2.2.1,()))
 (ab<|Sum.inl ((a.2.1.1,a.2.1.2.1,(),a.2.1.2.2.2.1,()),a.2.2.1,())))))
def Ke(b:Nat×yh×(List ck)×al)(a:iz×al):Option ((iz×al)⊕(iz×al)) :=
 dq (ao (ba a.1.1 a.1.2.1)
 (ag (idx b.2.1.1 a.1.2.1) λc=>ag (idx b.2.1.1 a.1.1) λd=>ag (idx b.2.1.1 a.1.1) λe=>ah)
 (ab<|Sum.inr (0,(a.1.1,a.1.2.1,()),())))
def Kf(x:dW×Sb×al)(b:Nat×yh×(List ck)×al)(a:(al×Int×al)×(List Sb)×al):Option (((al×Int×al)×(List Sb)×al)⊕((al×Int×al)×(List Sb)×al)) :=
 dq (ao (ba a.1.2.1<|len b.2.1.1)
 (ag (idx b.2.1.1 a.1.2.1) λd=>ag (iI (x.1,d.1,())) λc=>ao (fits<|plus (len a.2.1)<|len ([c.2.1]:List Sb))
 (ab<|Sum.inl (((),aH i64 a.1.2.1 1,()),app a.2.1 ([c.2.1]:List Sb),()))
 ah)
 (ab<|Sum.inr (0,((),a.1.2.1,()),a.2.1,())))
def ff(a:(Int×Int×al×al)×(List ck)×al):Option (((Int×Int×al×al)×(List ck)×al)⊕((Int×Int×al×al)×(List ck)×al)) :=
 dq (ao (ba a.1.1 a.1.2.1)
 (ao (within a.1.2.1<|len a.2.1)
 (ag (idx a.2.1 a.1.2.1) λb=>ao (within a.1.1<|len a.2.1)
 (ag (idx a.2.1 a.1.1) λc=>ao (within a.1.1<|len a.2.1)
 (ag (idx a.2.1 a.1.1) λe=>ag (idx a.2.1 a.1.1) λf=>ag (idx a.2.1 a.1.1) λg=>ao (within a.1.2.1<|len<|lP a.2.1 a.1.1 b)
 (ag (idx (lP a.2.1 a.1.1 b) a.1.2.1) λh=>ag (idx (lP a.2.1 a.1.1 b) a.1.2.1) λi=>ag (idx (lP a.2.1 a.1.1 b) a.1.2.1) λd=>ab (Sum.inl ((aH i64 a.1.1 1,da i64 a.1.2.1 1,(),()),lP (lP a.2.1 a.1.1 b) a.1.2.1 c,())))
 ah)
 ah)
 ah)
 ah)
 (ab<|Sum.inr (0,(a.1.1,a.1.2.1,(),()),a.2.1,())))
def qD(x:dW×Sb×al)(b:(Int×Int×al×al)×(List ck)×al)(a:(al×Int×al)×(List Sb)×al):Option (((al×Int×al)×(List Sb)×al)⊕((al×Int×al)×(List Sb)×al)) :=
 dq (ao (ba a.1.2.1<|len b.2.1)
 (ag (idx b.2.1 a.1.2.1) λd=>ag (iI (x.1,d.1,())) λc=>ao (fits<|plus (len a.2.1)<|len ([c.2.1]:List Sb))
 (ab<|Sum.inl (((),aH i64 a.1.2.1 1,()),app a.2.1 ([c.2.1]:List Sb),()))
 ah)
 (ab<|Sum.inr (0,((),a.1.2.1,()),a.2.1,())))
def mq(x:dW×Sb×al):Option ((List xj)×Int×al) :=
 ag (Loop (Bg x) ((([]:List ck),(0:Int),(),x.2.1,()),([]:List ck),())) (λa=>ao (de a.1 0)
 (ao (nt<|aS a.2.1.2.1 0)
 (ab (([]:List xj),a.2.1.2.1,()))
 (ag (Loop (Ke a) (((0:Int),da i64 (len a.2.1.1) 1,()),())) λd=>ag (Loop (Kf x a) (((),(0:Int),()),([]:List Sb),())) λc=>ag (p6 (c.2.1,())) λb=>ab (b.1,b.2.1,())))
 (ag (Loop (ff) (((0:Int),da i64 (len a.2.2.1) 1,(),()),a.2.2.1,())) λd=>ag (Loop (qD x d) (((),(0:Int),()),([]:List Sb),())) λc=>ag (p6 (c.2.1,())) λb=>ab (b.1,b.2.1,())))
def jl(x:dW×Sb×al):Option ((List xj)×Int×al) :=
 ao (bH x.2.1 ([]:ay))
 (ab (([]:List xj),(0:Int),()))
 (ag (mq (x.1,x.2.1,())) λa=>ab (a.1,a.2.1,()))
def ez(x:Int×al):Option (EY×al) :=
 ab ((x.1,([]:ay),(0:Int),([]:ay),()),())
def kX(x:(List Sb)×Int×Sb×al):Option ((List Sb)×al) :=
 ao (fits<|len x.1)
 (ag (eX x.1 (x.2.1,([x.2.2.1]:List Sb),())) λa=>ab (a,()))
 ah
def b3(x:(List ck)×al):Option ((List ck)×al) :=
 bif fits (len x.1) then ab (x.1,()) else ah
def iA(x:(List ck)×Int×ck×al):Option ((List ck)×al) :=
 ao (fits<|len x.1)
 (ag (dH x.1 (x.2.1,([x.2.2.1]:List ck),())) λa=>ab (a,()))
 ah
def qE(x:dW×ck×Sb×al)(a:iz×ck×al):Option ((iz×ck×al)⊕(Nat×iz×ck×al)) :=
 ao (ba a.1.2.1<|len x.1.2.2.1)
 (ag (idx x.1.2.2.1 a.1.2.1) λb=>ao (nt<|ft b.1 a.2.1.1)
 (ab<|Sum.inr (1,(a.1.2.1,a.1.2.1,()),a.2.1,()))
 (ab<|Sum.inl ((a.1.1,aH i64 a.1.2.1 1,()),a.2.1,())))
 (ab<|Sum.inr (0,(a.1.1,a.1.2.1,()),a.2.1,()))
def pw(x:dW×ck×Sb×al):Option (dW×al) :=
 ag (ag (Loop (qE x) (((0:Int),(0:Int),()),x.2.1,())) λa=>ao (de a.1 0)
 (ab (((-1:Int),()),a.2.2.1,()))
 (ab ((a.2.1.1,()),a.2.2.1,()))) (λa=>ag (nk (x.1,())) λb=>ag (kX (b.1,((ao (ba a.1.1 0)
 ((len x.1.2.2.1,()),())
 ((a.1.1,()),())).1).1,x.2.2.1,())) λc=>ag (iA (x.1.2.2.1,((ao (ba a.1.1 0)
 ((len x.1.2.2.1,()),())
 ((a.1.1,()),())).1).1,a.2.1,())) λd=>ab ((x.1.1,x.1.2.1,d.1,c.1,x.1.2.2.2.2),()))
def hL(x:dW×Sb×(List Sb)×Sb×Int×al):Option (dW×EY×al) :=
 ag (ag (fD (x.2.2.1,())) λc=>ao (nt<|aS c.1 0)
 (ab ((c.1,()),((),(),(),(),(),(),(),()),x.2.2.1,x.2.2.2.1,x.2.1,x.1,([]:ay),x.2.2.2.2.1,([]:ay),([]:List xj),()))
 (ag (ao (bH x.2.2.2.1 ([]:ay))
 (ab (((0:Int),()),x.2.2.2.1,()))
 (ag (hH (x.2.2.2.1,())) λa=>ab ((a.1,()),x.2.2.2.1,()))) λa=>ao (nt<|aS a.1.1 0)
 (ab ((a.1.1,()),((),(),(),(),(),(),(),()),x.2.2.1,a.2.1,x.2.1,x.1,([]:ay),x.2.2.2.2.1,([]:ay),([]:List xj),()))
 (ag (ao (nt<|bH x.2.1 ([]:ay))
 (ag (dF (x.1,x.2.1,())) λd=>ab ((d.2.1,()),d.1,()))
 (ab (((0:Int),()),([]:ay),()))) λd=>ao (nt<|aS d.1.1 0)
 (ab ((d.1.1,()),((),(),(),(),(),(),(),()),x.2.2.1,a.2.1,x.2.1,x.1,d.2.1,x.2.2.2.2.1,([]:ay),([]:List xj),()))
 (ag (lB (x.1,())) λh=>ag (gu (h.1,([]:ay),x.2.2.1,())) λi=>ao (nt<|aS i.1 0)
 (ab ((i.1,()),((),(),(),(),(),(),(),()),x.2.2.1,a.2.1,x.2.1,x.1,d.2.1,x.2.2.2.2.1,([]:ay),([]:List xj),()))
 (ag (lB (x.1,())) λj=>ag (gH (j.1,x.2.2.2.2.1,())) λg=>ao (nt<|aS g.2.1 0)
 (ab ((g.2.1,()),((),(),(),(),(),(),(),()),x.2.2.1,a.2.1,x.2.1,x.1,d.2.1,x.2.2.2.2.1,g.1,([]:List xj),()))
 (ag (ag (kv (x.1.2.2.1,d.2.1,())) λe=>ao (ao (ao (nt<|bH d.2.1 ([]:ay))
 (aS e.2.1 0)
 false)
 (cu 16<|len e.1)
 false)
 (ab (((5:Int),()),d.2.1,x.1,()))
 (ab (((0:Int),()),d.2.1,x.1,()))) λe=>ao (nt<|aS e.1.1 0)
 (ab ((e.1.1,()),((),(),(),(),(),(),(),()),x.2.2.1,a.2.1,x.2.1,e.2.2.1,e.2.1,x.2.2.2.2.1,g.1,([]:List xj),()))
 (ag (ao (bH a.2.1 ([]:ay))
 (ab (((0:Int),()),([]:List xj),e.2.1,e.2.2.1,a.2.1,()))
 (ag (jl (e.2.2.1,e.2.1,())) λb=>ag (ao (aS b.2.1 0)
 (ag (jN (b.1,a.2.1,())) λf=>ab ((f.2.1,()),()))
 (ab ((b.2.1,()),()))) λf=>ab ((f.1.1,()),b.1,e.2.1,e.2.2.1,a.2.1,()))) λb=>ao (nt<|aS b.1.1 0)
 (ab ((b.1.1,()),((),(),(),(),(),(),(),()),x.2.2.1,b.2.2.2.2.1,x.2.1,b.2.2.2.1,b.2.2.1,x.2.2.2.2.1,g.1,b.2.1,()))
 (ab (((0:Int),()),((),(),(),(),(),(),(),()),x.2.2.1,b.2.2.2.2.1,x.2.1,b.2.2.2.1,b.2.2.1,x.2.2.2.2.1,g.1,b.2.1,()))))))))) (λc=>ao (nt<|aS c.1.1 0)
 (ag (ez (c.1.1,())) λa=>ab (c.2.2.2.2.2.1,a.1,()))
 (ag (ao (bH c.2.2.2.1 ([]:ay))
 (ag (yN ()) λa=>ab ((),a.1,()))
 (ab ((),c.2.2.2.1,()))) λa=>ao (fits<|plus (len ([]:List Sb))<|len c.2.2.1)
 (ag (n9 (a.2.1,())) λd=>ag (pw (c.2.2.2.2.2.1,(c.2.2.2.2.2.2.2.2.1,c.2.2.2.2.2.2.1,app ([]:List Sb) c.2.2.1,d.1,len a.2.1,(0:Int),true,()),a.2.1,())) λh=>ab (h.1,((0:Int),c.2.2.2.2.2.2.2.2.1,(0:Int),([]:ay),()),()))
 ah))
def qF(x:dW×Sb×al)(a:iz×Sb×al):Option (Ck⊕Cj) :=
 ao (ba a.1.2.1<|len x.1.2.2.1)
 (ag (idx x.1.2.2.1 a.1.2.1) λb=>ao (bH b.2.1 a.2.1)
 (ab<|Sum.inr (1,(a.1.2.1,a.1.2.1,()),a.2.1,()))
 (ab<|Sum.inl ((a.1.1,aH i64 a.1.2.1 1,()),a.2.1,())))
 (ab<|Sum.inr (0,(a.1.1,a.1.2.1,()),a.2.1,()))
def vi(x:dW×Sb×al)(a:iz×Sb×al):Option (Ck⊕Cj) :=
 ao (ba a.1.2.1<|len x.1.2.1)
 (ag (idx x.1.2.1 a.1.2.1) λb=>ao (bH b.2.2.1 a.2.1)
 (ab<|Sum.inr (1,(a.1.2.1,a.1.2.1,()),a.2.1,()))
 (ab<|Sum.inl ((a.1.1,aH i64 a.1.2.1 1,()),a.2.1,())))
 (ab<|Sum.inr (0,(a.1.1,a.1.2.1,()),a.2.1,()))
def Kg(x:dW×Sb×al)(a:iz×Sb×al):Option (Ck⊕Cj) :=
 ao (ba a.1.2.1<|len x.1.1)
 (ag (idx x.1.1 a.1.2.1) λb=>ao (bH b.2.2.2.1 a.2.1)
 (ab<|Sum.inr (1,(a.1.2.1,a.1.2.1,()),a.2.1,()))
 (ab<|Sum.inl ((a.1.1,aH i64 a.1.2.1 1,()),a.2.1,())))
 (ab<|Sum.inr (0,(a.1.1,a.1.2.1,()),a.2.1,()))
def Kh(x:dW×Sb×al)(a:iz×Sb×al):Option (Ck⊕Cj) :=
 ao (ba a.1.2.1<|len x.1.1)
 (ag (idx x.1.1 a.1.2.1) λb=>ao (bH b.2.2.2.1 a.2.1)
 (ab<|Sum.inr (1,(a.1.2.1,a.1.2.1,()),a.2.1,()))
 (ab<|Sum.inl ((a.1.1,aH i64 a.1.2.1 1,()),a.2.1,())))
 (ab<|Sum.inr (0,(a.1.1,a.1.2.1,()),a.2.1,()))
def px(x:dW×Sb×al):Option (Bool×al) :=
 ag (ag (Loop (qF x) (((0:Int),(0:Int),()),x.2.1,())) λa=>ao (de a.1 0)
 (ab (((-1:Int),()),a.2.2.1,()))
 (ab ((a.2.1.1,()),a.2.2.1,()))) (λa=>ag (Loop (vi x) (((0:Int),(0:Int),()),a.2.1,())) λc=>ao (de c.1 0)
 (ao (nt<|ao (nt<|cu 0 a.1.1)
 false
 true)
 (ag (Loop (Kg x) (((0:Int),(0:Int),()),c.2.2.1,())) λb=>ao (de b.1 0)
 (ab (false,()))
 (ab (cu 0 b.2.1.1,())))
 (ab (true,())))
 (ao (nt<|ao (nt<|cu 0 a.1.1)
 (cu 0 c.2.1.1)
 true)
 (ag (Loop (Kh x) (((0:Int),(0:Int),()),c.2.2.1,())) λb=>ao (de b.1 0)
 (ab (false,()))
 (ab (cu 0 b.2.1.1,())))
 (ab (true,()))))
def vj(x:yM×al):Option (Sb×al) :=
 ab (x.1.1,())
def ke(x:dW×Sb×al)(a:iz×al×Sb×al):Option (SU⊕SS) :=
 ao (ba a.1.2.1<|len x.1.2.2.2.2.1)
 (ag (idx x.1.2.2.2.2.1 a.1.2.1) λb=>ag (vj (b,())) λc=>ao (bH c.1 a.2.2.1)
 (ab<|Sum.inr (1,(a.1.2.1,a.1.2.1,()),(),a.2.2.1,()))
 (ab<|Sum.inl ((a.1.1,aH i64 a.1.2.1 1,()),(),a.2.2.1,())))
 (ab<|Sum.inr (0,(a.1.1,a.1.2.1,()),(),a.2.2.1,()))
def dB(x:dW×Sb×al):Option (Int×al) :=
 ag (Loop (ke x) (((0:Int),(0:Int),()),(),x.2.1,())) (λa=>ao (de a.1 0)
 (ab ((0:Int),()))
 (ao (ba a.2.1.1 0)
 (ab ((0:Int),()))
 (ag (idx x.1.2.2.2.2.1 a.2.1.1) λb=>ab (b.2.1,()))))
def iB(x:(List Sb)×Int×al):Option ((List Sb)×al) :=
 ao (ba x.2.1 0)
 (ab (x.1,()))
 (ao (fits<|len x.1)
 (ag (eY x.1 (x.2.1,aH i64 x.2.1 1,())) λa=>ab (a,()))
 ah)
def ga(x:(List ck)×Int×al):Option ((List ck)×al) :=
 ao (ba x.2.1 0)
 (ab (x.1,()))
 (ao (fits<|len x.1)
 (ag (dI x.1 (x.2.1,aH i64 x.2.1 1,())) λa=>ab (a,()))
 ah)
def b4(x:(List yM)×al):Option ((List yM)×al) :=
 bif fits (len x.1) then ab (x.1,()) else ah
def bL(x:(List yM)×Int×yM×al):Option ((List yM)×al) :=
 ao (fits<|len x.1)
 (ag (e9 x.1 (x.2.1,([x.2.2.1]:List yM),())) λa=>ab (a,()))
 ah
def py(x:dW×Sb×Int×al)(a:iz×Sb×al):Option (Ck⊕Cj) :=
 ao (ba a.1.2.1<|len x.1.2.2.2.2.1)
 (ao (within a.1.2.1<|len x.1.2.2.2.2.1)
 (ag (idx x.1.2.2.2.2.1 a.1.2.1) λb=>ao (bH b.1 a.2.1)
 (ab<|Sum.inr (1,(a.1.2.1,a.1.2.1,()),a.2.1,()))
 (ab<|Sum.inl ((a.1.1,aH i64 a.1.2.1 1,()),a.2.1,())))
 ah)
 (ab<|Sum.inr (0,(a.1.1,a.1.2.1,()),a.2.1,()))
def H8(x:dW×Sb×Int×al)(a:iz×Sb×al):Option (Ck⊕Cj) :=
 ao (ba a.1.2.1<|len x.1.2.2.2.2.1)
 (ag (idx x.1.2.2.2.2.1 a.1.2.1) λb=>ao (nt<|oor (ft b.1 a.2.1)<|bH b.1 a.2.1)
 (ab<|Sum.inr (1,(a.1.2.1,a.1.2.1,()),a.2.1,()))
 (ab<|Sum.inl ((a.1.1,aH i64 a.1.2.1 1,()),a.2.1,())))
 (ab<|Sum.inr (0,(a.1.1,a.1.2.1,()),a.2.1,()))
def H9(x:dW×Sb×Int×al)(a:iz×Sb×al):Option (Ck⊕Cj) :=
 ao (ba a.1.2.1<|len x.1.2.2.2.2.1)
 (ag (idx x.1.2.2.2.2.1 a.1.2.1) λb=>ao (nt<|oor (ft b.1 a.2.1)<|bH b.1 a.2.1)
 (ab<|Sum.inr (1,(a.1.2.1,a.1.2.1,()),a.2.1,()))
 (ab<|Sum.inl ((a.1.1,aH i64 a.1.2.1 1,()),a.2.1,())))
 (ab<|Sum.inr (0,(a.1.1,a.1.2.1,()),a.2.1,()))
def pz(a:(Int×Int×al×al)×Sb×(List yM)×al):Option (aaf⊕aaf) :=
 dq (ao (ba a.1.2.1<|len a.2.2.1)
 (ao (within a.1.2.1<|len a.2.2.1)
 (ag (idx a.2.2.1 a.1.2.1) λc=>ag (ao (nt<|bH c.1 a.2.1)
 (ao (within a.1.1<|len a.2.2.1)
 (ag (idx a.2.2.1 a.1.1) λb=>ag (idx a.2.2.1 a.1.1) λd=>ag (idx a.2.2.1 a.1.1) λe=>ab ((aH i64 a.1.1 1,(),()),lP a.2.2.1 a.1.1 c,()))
 ah)
 (ab ((a.1.1,(),()),a.2.2.1,()))) λb=>ab (Sum.inl ((b.1.1,aH i64 a.1.2.1 1,(),()),a.2.1,b.2.1,())))
 ah)
 (ab<|Sum.inr (0,(a.1.1,a.1.2.1,(),()),a.2.1,a.2.2.1,())))
def zy(b:(Int×Int×al×al)×Sb×(List yM)×al)(a:iz×Sb×al):Option (Ck⊕Cj) :=
 ao (ba a.1.2.1<|len<|sub (over b.2.2.1 b.1.1<|kj (minus (len b.2.2.1) b.1.1) (([]:ay),(0:Int),())) (0:Int)<|minus b.1.1 0)
 (ag (idx (sub (over b.2.2.1 b.1.1<|kj (minus (len b.2.2.1) b.1.1) (([]:ay),(0:Int),())) (0:Int)<|minus b.1.1 0) a.1.2.1) λc=>ao (nt<|oor (ft c.1 a.2.1)<|bH c.1 a.2.1)
 (ab<|Sum.inr (1,(a.1.2.1,a.1.2.1,()),a.2.1,()))
 (ab<|Sum.inl ((a.1.1,aH i64 a.1.2.1 1,()),a.2.1,())))
 (ab<|Sum.inr (0,(a.1.1,a.1.2.1,()),a.2.1,()))
def qa(x:dW×Sb×Int×al):Option (dW×al) :=
 ao (fits<|len x.1.2.2.2.2.1)
 (ag (Loop (py x) (((0:Int),(0:Int),()),x.2.1,())) λc=>ao (de c.1 0)
 (ag (ao (ba 0 x.2.2.1)
 (ag (Loop (H8 x) (((0:Int),(0:Int),()),c.2.2.1,())) λa=>ao (de a.1 0)
 (ag (bL (x.1.2.2.2.2.1,(((len x.1.2.2.2.2.1,()),()).1).1,(a.2.2.1,x.2.2.1,()),())) λb=>ab ((b.1,()),a.2.2.1,()))
 (ag (bL (x.1.2.2.2.2.1,((ao (ba a.2.1.1 0)
 ((len x.1.2.2.2.2.1,()),())
 ((a.2.1.1,()),())).1).1,(a.2.2.1,x.2.2.1,()),())) λb=>ab ((b.1,()),a.2.2.1,())))
 (ab ((x.1.2.2.2.2.1,()),c.2.2.1,()))) λa=>ab ((x.1.1,x.1.2.1,x.1.2.2.1,x.1.2.2.2.1,a.1.1,x.1.2.2.2.2.2),()))
 (ao (aS c.2.1.1<|-1)
 (ag (ao (ba 0 x.2.2.1)
 (ag (Loop (H9 x) (((0:Int),(0:Int),()),c.2.2.1,())) λa=>ao (de a.1 0)
 (ag (bL (x.1.2.2.2.2.1,(((len x.1.2.2.2.2.1,()),()).1).1,(a.2.2.1,x.2.2.1,()),())) λb=>ab ((b.1,()),a.2.2.1,()))
 (ag (bL (x.1.2.2.2.2.1,((ao (ba a.2.1.1 0)
 ((len x.1.2.2.2.2.1,()),())
 ((a.2.1.1,()),())).1).1,(a.2.2.1,x.2.2.1,()),())) λb=>ab ((b.1,()),a.2.2.1,())))
 (ab ((x.1.2.2.2.2.1,()),c.2.2.1,()))) λa=>ab ((x.1.1,x.1.2.1,x.1.2.2.1,x.1.2.2.2.1,a.1.1,x.1.2.2.2.2.2),()))
 (ag (Loop (pz) ((c.2.1.1,aH i64 c.2.1.1 1,(),()),c.2.2.1,x.1.2.2.2.2.1,())) λa=>ao (inside a.1.1 (len a.2.2.1)<|len a.2.2.1)
 (ao (inside 0 a.1.1<|len<|over a.2.2.1 a.1.1<|kj (minus (len a.2.2.1) a.1.1) (([]:ay),(0:Int),()))
 (ag (ao (ba 0 x.2.2.1)
 (ag (Loop (zy a) (((0:Int),(0:Int),()),a.2.1,())) λb=>ao (de b.1 0)
 (ag (bL (sub (over a.2.2.1 a.1.1<|kj (minus (len a.2.2.1) a.1.1) (([]:ay),(0:Int),())) (0:Int)<|minus a.1.1 0,(((len<|sub (over a.2.2.1 a.1.1<|kj (minus (len a.2.2.1) a.1.1) (([]:ay),(0:Int),())) (0:Int)<|minus a.1.1 0,()),()).1).1,(b.2.2.1,x.2.2.1,()),())) λd=>ab ((d.1,()),b.2.2.1,()))
 (ag (bL (sub (over a.2.2.1 a.1.1<|kj (minus (len a.2.2.1) a.1.1) (([]:ay),(0:Int),())) (0:Int)<|minus a.1.1 0,((ao (ba b.2.1.1 0)
 ((len<|sub (over a.2.2.1 a.1.1<|kj (minus (len a.2.2.1) a.1.1) (([]:ay),(0:Int),())) (0:Int)<|minus a.1.1 0,()),())
 ((b.2.1.1,()),())).1).1,(b.2.2.1,x.2.2.1,()),())) λd=>ab ((d.1,()),b.2.2.1,())))
 (ab ((sub (over a.2.2.1 a.1.1<|kj (minus (len a.2.2.1) a.1.1) (([]:ay),(0:Int),())) (0:Int)<|minus a.1.1 0,()),a.2.1,()))) λb=>ab ((x.1.1,x.1.2.1,x.1.2.2.1,x.1.2.2.2.1,b.1.1,x.1.2.2.2.2.2),()))
 ah)
 ah)))
 ah
def xk(x:dW×Sb×al)(a:iz×al×Sb×al):Option (SU⊕SS) :=
 ao (ba a.1.2.1<|len x.1.2.2.1)
 (ag (idx x.1.2.2.1 a.1.2.1) λb=>ag (vh (b,())) λc=>ao (bH c.1 a.2.2.1)
 (ab<|Sum.inr (1,(a.1.2.1,a.1.2.1,()),(),a.2.2.1,()))
 (ab<|Sum.inl ((a.1.1,aH i64 a.1.2.1 1,()),(),a.2.2.1,())))
 (ab<|Sum.inr (0,(a.1.1,a.1.2.1,()),(),a.2.2.1,()))
def jO(x:dW×Sb×al):Option (dW×al) :=
 ag (ag (Loop (xk x) (((0:Int),(0:Int),()),(),x.2.1,())) λa=>ao (de a.1 0)
 (ab (((-1:Int),()),(),a.2.2.2.1,()))
 (ab ((a.2.1.1,()),(),a.2.2.2.1,()))) (λa=>ag (nk (x.1,())) λb=>ag (iB (b.1,a.1.1,())) λc=>ag (ga (x.1.2.2.1,a.1.1,())) λd=>ag (qa ((x.1.1,x.1.2.1,d.1,c.1,x.1.2.2.2.2),x.2.1,(0:Int),())) λe=>ab (e.1,()))
def qG(x:dW×Sb×al):Option (dW×EY×al) :=
 ag (dF (x.1,x.2.1,())) (λa=>ao (nt<|aS a.2.1 0)
 (ag (ez (a.2.1,())) λb=>ab (x.1,b.1,()))
 (ag (px (x.1,a.1,())) λb=>ag (ao (nt b.1)
 (ag (dB (x.1,a.1,())) λc=>ab (ba 0 c.1))
 (ab true)) λc=>ao c
 (ag (ez ((7:Int),())) λd=>ab (x.1,d.1,()))
 (ag (jO (x.1,a.1,())) λd=>ab (d.1,((0:Int),a.1,(0:Int),([]:ay),()),()))))
def lK(x:dW×Sb×Int×al):Option (dW×EY×al) :=
 ag (dF (x.1,x.2.1,())) (λb=>ao (nt<|aS b.2.1 0)
 (ag (ez (b.2.1,())) λa=>ab (x.1,a.1,()))
 (ag (dB (x.1,b.1,())) λa=>ao (ao (ba 0 x.2.2.1)
 (cu 1000 a.1)
 false)
 (ag (ez ((5:Int),())) λc=>ab (x.1,c.1,()))
 (ao (ao (ba x.2.2.1 0)
 (ba a.1 1)
 false)
 (ag (ez ((11:Int),())) λc=>ab (x.1,c.1,()))
 (ag (qa (x.1,b.1,aH i64 a.1 x.2.2.1,())) λc=>ab (c.1,((0:Int),b.1,aH i64 a.1 x.2.2.1,([]:ay),()),())))))
def xn(x:dW×Sb×al):Option (dW×EY×al) :=
 ag (lK (x.1,x.2.1,(1:Int),())) (λa=>ab (a.1,a.2.1,()))
def ti(x:dW×Sb×al):Option (dW×EY×al) :=
 ag (lK (x.1,x.2.1,(-1:Int),())) (λa=>ab (a.1,a.2.1,()))
def ug(x:dW×Sb×al):Option (EY×al) :=
 ag (dF (x.1,x.2.1,())) (λa=>ao (nt<|aS a.2.1 0)
 (ag (ez (a.2.1,())) λb=>ab (b.1,()))
 (ag (iI (x.1,a.1,())) λb=>ab (((0:Int),a.1,(0:Int),b.2.1,()),())))
end Go.Ge
namespace Go.Ge
variable [Lp]
abbrev It:=Tx×Tx×Tx×al
def Pf(l:List It)(p:Tx):Option Nat:=l.findIdx? λx=>decide (x.1=p)
def abP{l p i x}(a:l[i]?=ab x)(c:x.1=p)(d:∀j y,j<i->l[j]?=ab y->y.1≠p):Pf l p=ab i:=by
 unfold Pf;rw[ac5];have hi:=aF a;refine⟨hi,?_,λj b=>?_⟩
 .rw[ik hi] at a;rw[aQ a];simpa using c
 .have:=d j l[j] b (ik ai);simpa using this
def abQ{l p}(h:∀(i:Nat) x,l[i]?=ab x->x.1≠p):Pf l p=none:=by
 unfold Pf;rw[adb];intro x a;obtain⟨i,b⟩:=bz.1 a;simpa using h i x b
def MV(l:List It)(p:Tx):Tx×Int:=match l.find? λx=>decide (x.1=p) with|some x=>(x.2.2.1,0)|none=>([],3)
def abR{l p}{i:Nat}{x}(a:l[i]?=ab x)(c:x.1=p)(d:∀j y,j<i->l[j]?=ab y->y.1≠p):MV l p=(x.2.2.1,0):=by
 unfold MV;have hi:=aF a;have:l.find? (λx=>decide (x.1=p))=ab x:=by
  rw[ac7];refine⟨by simpa using c,i,hi,?_,λj b=>?_⟩
  .rw[ik hi] at a;exact aQ a
  .have:=d j l[j] b (ik ai);simpa using this
 rw[this]
def abS{l p}(h:∀(i:Nat) x,l[i]?=ab x->x.1≠p):MV l p=([],3):=by
 unfold MV;have:l.find? (λx=>decide (x.1=p))=none:=by
  rw[TQ];intro x a;obtain⟨i,b⟩:=bz.1 a;simpa using h i x b
 rw[this]
def SV{c:Type}[DecidableEq c]{a b:c}(h:decide (a=b)=false):a≠b:=by simpa using h
def Jo(l:List It)(p:Tx)(n:l.length<=100000):lA (l,p,())=ab ((MV l p).1,(MV l p).2,()):=by
 unfold lA;rcases iK (f:=kU (l,_)) l (λi=>(((0,i,()),(),p,()))) (λ_ x=>decide _) _ _ ai (λi x a d b=>by
  unfold kU ca;rw[aq d,au a,aa,aa,b,tM];cases decide (x.1=p)<;>rfl) (by
  unfold kU;rw[aw,af]) with ⟨i,x,a,e,g,h⟩|⟨k,h⟩
 .rw[h,aa];dsimp only;rw[show de 1 0=false from rfl,af,aJ ai,af,au a,aa,abR a (iq e) λj y c m=>SV (g j y c m)]
 .rw[h,aa];rw[show de 0 0=true from rfl,ae,aO aK,ae,abS λi x a=>SV (k i x a)]
def MW(l:List It)(e:l.length<=100000):gS (l,l,())=ab (true,()):=by
 unfold gS;rw[aE rfl];rcases iK (f:=j9 (l,l,())) l (λi=>((false,i,()),())) (λ_ _=>false) (λi _=>(1,(false,i,()),())) _ ai (λi x a b c=>by
  unfold j9;rw[aq b,au a,aa,aa,di rfl,di rfl,di rfl,c];rfl) (by unfold j9;rw[aw,af,af]) with ⟨i,x,_,d,_⟩|⟨g,h⟩
 .cases d
 .rw[h];rfl
def rmI(l:List It)(p:Tx):List It:=match Pf l p with|some i=>l.take i++l.drop (i+1)|none=>l
def abT(l:List It)(x:It):List It:=l.takeWhile (λy=>ft y.1 x.1)++[x]++l.dropWhile (λy=>ft y.1 x.1)
def yO(l:List It)(p d:Tx):List It×Int :=
 if iv p=true/\d.length<=64 then(if Pf l p=ah/\4<=l.length then([],5) else(abT (rmI l p) (p,ku d,d,()),0)) else([],1)
def ahf l p:(rmI l p).length<=l.length:=by
 unfold rmI;split
 .rw[jB,kC,pP];omega
 .apply cp
def afa{l:List It}{p:Tx}{k}(e:k<=l.length)(c:∀j y,j<k->l[j]?=ab y->ft y.1 p=true)(d:∀y,l[k]?=ab y->ft y.1 p=false) :
  l.takeWhile (λy=>ft y.1 p)=l.take k/\l.dropWhile (λy=>ft y.1 p)=l.drop k:=by
 induction l generalizing k with
 | nil=>simp
 | cons a r f =>
   cases k with
   | zero =>
     have:=d a rfl;simp[ this]
   | succ k =>
     obtain⟨g,h⟩:=f (by simpa using e) (λj y i b=>c (j+1) y ai (by simpa using b)) (λy b=>d y (by simpa using b));simp only[TO,Ov,(c 0 a ai rfl),wJ,Zr,List.drop_succ_cons,g,h];exact⟨trivial,trivial⟩
abbrev KS:=(Int×Int×al)×al×Tx×al
abbrev PS':=(Int×Int×al)×al×It×al
def MX(l:List It)(p:Tx):Nat×(Int×Int×al)×al×Tx×al:=match Pf l p with
 | some i=>(1,((i:Int),(i:Int),()),(),p,())
 | none=>(0,((0:Int),(l.length:Int),()),(),p,())
def sn(m:List It)(p:Tx):Nat:=(m.takeWhile λy=>ft y.1 p).length
def SW(m:List It)(a:It):Nat×(Int×Int×al)×al×It×al:=if sn m a.1<m.length then(1,((sn m a.1:Int),(sn m a.1:Int),()),(),a,()) else(0,((0:Int),(m.length:Int),()),(),a,())
def SX{f:KS->Option (KS⊕(Nat×KS))}(l:List It)(p:Tx)(n:l.length<=100000)
  (c:∀(i:Nat) (x:It),l[i]?=ab x->f (((0:Int),(i:Int),()),(),p,())=ab (if decide (x.1=p)=true then .inr (1,((i:Int),(i:Int),()),(),p,()) else .inl (((0:Int),((i+1:Nat):Int),()),(),p,())))
  (d:f (((0:Int),(l.length:Int),()),(),p,())=ab (.inr (0,((0:Int),(l.length:Int),()),(),p,()))) :
  Loop f (((0:Int),(0:Int),()),(),p,())=ab (MX l p):=by
 unfold MX;rcases iK l (λi=>((((0:Int),i,()),_))) _ _ _ ai (λi x hx hi b=>c i x hx) d with ⟨i,x,hx,e,g,h⟩|⟨k,h⟩
 .rw[h,abP hx (iq e) λj y a m=>SV (g j y a m)]
 .rw[h,abQ λi x hx=>SV (k i x hx)]
def GF{m:List It}{p:Tx}{k:Nat}(a:k<=m.length)(b:∀j y,j<k->m[j]?=ab y->ft y.1 p=true)(c:∀y,m[k]?=ab y->ft y.1 p=false):sn m p=k:=by
 unfold sn;rw[(afa a b c).1,kC];omega
def KW{f:PS'->Option (PS'⊕(Nat×PS'))}(m:List It)(a:It)(r:m.length<=100000)
  (n:∀(i:Nat) (x:It),m[i]?=ab x->f (((0:Int),(i:Int),()),(),a,())=ab (if nt (ft x.1 a.1)=true then .inr (1,((i:Int),(i:Int),()),(),a,()) else .inl (((0:Int),((i+1:Nat):Int),()),(),a,())))
  (o:f (((0:Int),(m.length:Int),()),(),a,())=ab (.inr (0,((0:Int),(m.length:Int),()),(),a,()))) :
  Loop f (((0:Int),(0:Int),()),(),a,())=ab (SW m a):=by
 unfold SW;have b:∀{x:It},nt (ft x.1 a.1)=false->ft x.1 a.1=true:=λ{x} h=>by
  cases g:ft x.1 a.1 with
  | true=>rfl
  | false=>rw[g] at h;cases h
 rcases iK m (λi=>((((0:Int),i,()),_))) _ _ _ ai (λi x hx hi k=>n i x hx) o with ⟨i,x,hx,l,p,h⟩|⟨q,h⟩
 .have hi:=aF hx;have e:=GF ai (λj y d c=>b (p j y d c)) (λy c=>by
   rw[hx] at c;obtain rfl:=aQ c;cases g:ft x.1 a.1 with
   | false=>rfl
   | true=>rw[g] at l;cases l)
  grind
 .have e:=GF (cp _) (λj y d c=>b (q j y c)) (λy c=>by
   rw[Lb<|cp _] at c;cases c)
  grind
def abU(m:List It)(a:It)(b:m.length<=100000):uJ m ((sn m a.1:Nat):Int) [a]=ab (abT m a):=by
 have c:sn m a.1<=m.length:=by
  unfold sn;have:=congrArg List.length (El (p:=λy:It=>ft y.1 a.1) (l:=m))
  grind
 unfold uJ abT;rw[show inside 0 _ _=true from aV aK ai fi,bo (by simp only[jC,nQ];omega)];have e:=El (p:=λy:It=>ft y.1 a.1) (l:=m);have d:m.take (sn m a.1)=m.takeWhile (λy=>ft y.1 a.1):=by
  unfold sn
  grind
 grind
def afb(m:List It)(a:It)(i:m.length<=100000){f:PS'->Option (PS'⊕(Nat×PS'))}(h:Loop f (((0:Int),(0:Int),()),(),a,())=ab (SW m a)) :
  (ag (Loop f (((0:Int),(0:Int),()),(),a,())) λ(b:Nat×(Int×Int×al)×al×(ay×ay×ay×al)×al)=>ao (de b.1 (0:Nat))
 (ag (aN m (((ao (ba (-1:Int) (0:Int))
 ((@len (ay×ay×ay×al) m,()),())
 (((-1:Int),()),())).1).1,([b.2.2.2.1]:List (ay×ay×ay×al)),())) λ(c:List (ay×ay×ay×al))=>ab (c,(0:Int),()))
 (ag (aN m (((ao (ba b.2.1.1 (0:Int))
 ((@len (ay×ay×ay×al) m,()),())
 ((b.2.1.1,()),())).1).1,([b.2.2.2.1]:List (ay×ay×ay×al)),())) λ(c:List (ay×ay×ay×al))=>ab (c,(0:Int),())))=ab (abT m a,(0:Int),()):=by
 rw[h,aa];unfold SW aN;have e:=abU m a i;by_cases g:sn m a.1<m.length
 .rw[aX g];dsimp only;rw[show de 1 0=false from rfl,af,aJ ai,af];rw[e,aa]
 .rw[aR g];have d:sn m a.1=m.length:=by
   have:sn m a.1<=m.length:=by
    unfold sn;have:=congrArg List.length (El (p:=λy:It=>ft y.1 a.1) (l:=m))
    grind
   omega
  rw[show de 0 0=true from rfl,ae,aO aK,ae];rw[bE,<-d,e,aa]
def aiw(l:List It)(p d g:Tx)(f:l.length<=100000){h:KS->Option (KS⊕(Nat×KS))}{j k:(al×al)×(List It)×al->PS'->Option (PS'⊕(Nat×PS'))}
  (o:Loop h (((0:Int),(0:Int),()),(),p,())=ab (MX l p))
  (q:∀(m:List It) (it:It),m.length<=100000->Loop (j (((),()),m,())) (((0:Int),(0:Int),()),(),it,())=ab (SW m it))
  (r:∀(m:List It) (it:It),m.length<=100000->Loop (k (((),()),m,())) (((0:Int),(0:Int),()),(),it,())=ab (SW m it)) :
  (ao (fits<|@len (ay×ay×ay×al) l)
 (ag (Loop h (((0:Int),(0:Int),()),(),p,())) λ(e:Nat×(Int×Int×al)×al×ay×al)=>ao (de e.1 (0:Nat))
 (ag (ao (cu (0:Int) (-1:Int))
 (ag (bC l ((-1:Int),aH i64 (-1:Int) (1:Int),())) λ(a:List (ay×ay×ay×al))=>ab (((),()),a,()))
 (ab (((),()),l,()))) λ(a:(al×al)×(List<|ay×ay×ay×al)×al)=>ag (Loop (j a) (((0:Int),(0:Int),()),(),(p,g,d,()),())) λ(b:Nat×(Int×Int×al)×al×(ay×ay×ay×al)×al)=>ao (de b.1 (0:Nat))
 (ag (aN a.2.1 (((ao (ba (-1:Int) (0:Int))
 ((@len (ay×ay×ay×al) a.2.1,()),())
 (((-1:Int),()),())).1).1,([b.2.2.2.1]:List (ay×ay×ay×al)),())) λ(c:List (ay×ay×ay×al))=>ab (c,(0:Int),()))
 (ag (aN a.2.1 (((ao (ba b.2.1.1 (0:Int))
 ((@len (ay×ay×ay×al) a.2.1,()),())
 ((b.2.1.1,()),())).1).1,([b.2.2.2.1]:List (ay×ay×ay×al)),())) λ(c:List (ay×ay×ay×al))=>ab (c,(0:Int),())))
 (ag (ao (cu (0:Int) e.2.1.1)
 (ag (bC l (e.2.1.1,aH i64 e.2.1.1 (1:Int),())) λ(a:List (ay×ay×ay×al))=>ab (((),()),a,()))
 (ab (((),()),l,()))) λ(a:(al×al)×(List<|ay×ay×ay×al)×al)=>ag (Loop (k a) (((0:Int),(0:Int),()),(),(p,g,d,()),())) λ(b:Nat×(Int×Int×al)×al×(ay×ay×ay×al)×al)=>ao (de b.1 (0:Nat))
 (ag (aN a.2.1 (((ao (ba (-1:Int) (0:Int))
 ((@len (ay×ay×ay×al) a.2.1,()),())
 (((-1:Int),()),())).1).1,([b.2.2.2.1]:List (ay×ay×ay×al)),())) λ(c:List (ay×ay×ay×al))=>ab (c,(0:Int),()))
 (ag (aN a.2.1 (((ao (ba b.2.1.1 (0:Int))
 ((@len (ay×ay×ay×al) a.2.1,()),())
 ((b.2.1.1,()),())).1).1,([b.2.2.2.1]:List (ay×ay×ay×al)),())) λ(c:List (ay×ay×ay×al))=>ab (c,(0:Int),()))))
 (none:Option ((List<|ay×ay×ay×al)×Int×al)))=ab (abT (rmI l p) (p,g,d,()),(0:Int),()):=by
 rw[cN ai,ae,o,aa];unfold MX rmI bC;cases n:Pf l p with
 | none =>
   exact afb l _ f (q l _ f)
 | some i =>
   dsimp only;have hi:i<l.length:=by
    unfold Pf at n;rw[ac5] at n
    grind
   have hlen:(l.take i++l.drop (i+1)).length<=100000:=by rw[jB,kC,pP];omega
   rw[show de 1 0=false from rfl,af,bO ai,ae,aL ai];unfold HI;rw[l8 ai ai,qJ,qJ];exact afb _ _ hlen (r _ _ hlen)
def Jp(l:List It)(p d:Tx)(f:l.length<=100000)(o:d.length<=1048576):lz (l,p,d,())=ab ((yO l p d).1,(yO l p d).2,()):=by
 have q:Loop (kN (l,p,d,())) _=ab (MX l p):=SX l p f (λi x b=>by
  have hi:=aF b;unfold kN ca;rw[aq hi,ae,au b,aa,aa,aL ai,tM];cases decide (x.1=p)<;>rfl) (by unfold kN;dsimp only;rw[aw,af])
 have r:Loop (kO (l,p,d,())) _=ab (MX l p):=SX l p f (λi x b=>by
  have hi:=aF b;unfold kO ca;rw[aq hi,ae,au b,aa,aa,aL ai,tM];cases decide (x.1=p)<;>rfl) (by unfold kO;dsimp only;rw[aw,af])
 have s:Loop (kR (l,p,d,())) _=ab (MX l p):=SX l p f (λi x b=>by
  have hi:=aF b;unfold kR ca;rw[aq hi,ae,au b,aa,aa,aL ai,tM];cases decide (x.1=p)<;>rfl) (by unfold kR;dsimp only;rw[aw,af])
 have t:∀(m:List It) _,m.length<=100000->Loop (kP (((),()),m,())) _=ab _:=λm a c=>KW m a c (λi x b=>by
  have hi:=aF b;unfold kP ca;rw[aq hi,ae,aM ai (show(i:Int)<len m by unfold len;omega),ae,au b,aa,aa,aa,aL ai];cases nt _<;>rfl) (by unfold kP;dsimp only;rw[aw,af])
 have u:∀(m:List It) (a:It),m.length<=100000->Loop (kQ (((),()),m,())) _=ab (SW m a):=λm a c=>KW m a c (λi x b=>by
  have hi:=aF b;unfold kQ ca;rw[aq hi,ae,aM ai (show(i:Int)<len m by unfold len;omega),ae,au b,aa,aa,aa,aL ai];cases nt (ft x.1 a.1)<;>rfl) (by unfold kQ;dsimp only;rw[aw,af])
 have v:∀(m:List It) (a:It),m.length<=100000->Loop (kS (((),()),m,())) _=ab (SW m a):=λm a c=>KW m a c (λi x b=>by
  have hi:=aF b;unfold kS ca;rw[aq hi,ae,aM ai (show(i:Int)<len m by unfold len;omega),ae,au b,aa,aa,aa,aL ai];cases nt (ft x.1 a.1)<;>rfl) (by unfold kS;dsimp only;rw[aw,af])
 have w:∀(m:List It) (a:It),m.length<=100000->Loop (kT (((),()),m,())) _=ab (SW m a):=λm a c=>KW m a c (λi x b=>by
  have hi:=aF b;unfold kT ca;rw[aq hi,ae,aM ai (show(i:Int)<len m by unfold len;omega),ae,au b,aa,aa,aa,aL ai];cases nt (ft x.1 a.1)<;>rfl) (by unfold kT;dsimp only;rw[aw,af])
 unfold lz yO;rw[Gm,aa];have j:ba 64 (len d)=decide (64<d.length):=by unfold ba len;apply gX.2;omega
 have k:cu 4 (len l)=decide (4<=l.length):=by unfold cu len;apply gX.2;omega
 rw[j];by_cases hv:iv p=true/\d.length<=64
 .rw[aX hv,hv.1,cL (show ¬64<d.length by omega),show ao (ao _ false true)=ao false from rfl,af,q,aa,Yk d o];cases n:Pf l p with
  | none =>
    have e:MX l p=(0,((0:Int),(l.length:Int),()),(),p,()):=by unfold MX;rw[n]
    rw[e];rw[show de 0 0=true from rfl,ae,aO aK,ae,k];by_cases g:4<=l.length
    .rw[dD g,ae,aX ⟨rfl,g⟩]
    .rw[cL g,af,aR λh=>g h.2];exact aiw l p d _ f r (λm a c=>t m a c) (λm a c=>u m a c)
  | some i =>
    have e:MX l p=(1,((i:Int),(i:Int),()),(),p,()):=by unfold MX;rw[n]
    rw[e];exact aiw l p d _ f s (λm a c=>v m a c) (λm a c=>w m a c)
 .rw[aR hv];have:ao (ao (nt<|nt<|iv p) (decide<|64<d.length) true)=ao (α:=Option (List It×Int×al)) true:=by
   cases z:iv p with
   | false=>rfl
   | true =>
     by_cases y:d.length<=64
     .grind
     .rw[dD<|show 64<d.length by omega];rfl
  rw[this,ae]
end Go.Ge
namespace Go.Ge
set_option maxRecDepth 100000
end Go.Ge
namespace Go.Ge
variable [Lp]
def GG(l:List It):∃b,eG (l,())=ab (b,())/\(b=true->l.length<=8/\∀x∈l,x.1.length<=100/\x.2.2.1.length<=200):=by
 unfold eG;rcases rS (f:=eT (l,())) l 8 (λi=>((false,i,()),())) (λ_ x=>decide (100<x.1.length)||decide (200<x.2.2.1.length)) (λi x=>(1,(false,(i:Int),()),())) (λm=>(0,(false,(m:Int),()),())) ai (λi x c a g j=>by
  unfold eT;dsimp only;have k:∀{m:ay},ba 100 (len m)=decide (100<m.length):=λ{m}=>by unfold ba len;apply gX.2;omega
  have n:∀{m:ay},ba 200 (len m)=decide (200<m.length):=λ{m}=>by unfold ba len;apply gX.2;omega
  rw[aq a,ae,aO (show(i:Int)<8 by omega),ae,au c,aa,aa,k,n,j];cases decide (100<x.1.length)<;>cases decide (200<x.2.2.1.length)<;>rfl) (by
  unfold eT;dsimp only;have:ao (ba ((min 8 l.length:Nat):Int)<|len l) (ba ((min 8 l.length:Nat):Int) 8) false=false:=by
   by_cases h:l.length<=8
   .rw[Nat.min_eq_right h,aw,af]
   .rw[yx ai,show ba ((8:Nat):Int) 8=false from rfl];cases ba ((8:Nat):Int) (len l)<;>rfl
  rw[this,af]) with ⟨i,x,a,c,p,_,h⟩|⟨d,h⟩
 .rw[h];exact⟨false,rfl,λh=>(by cases h)⟩
 .rw[h];refine⟨_,rfl,λe=>?_⟩;dsimp only at e;have o:l.length<=8:=by
   unfold cu len at e;simp at e;omega
  refine⟨o,λx c=>?_⟩;obtain⟨i,a⟩:=bz.1 c;have:=d i x (by have:=aF a;omega) a;simp at this;omega
def VB(l:List It):Prop:=l.Pairwise λx y=>ft x.1 y.1=true
def amI(x:It):Prop:=iv x.1=true/\x.2.2.1.length<=64/\x.2.1=ku x.2.2.1
def OkI(l:List It):Prop:=l.length<=4/\VB l/\∀x∈l,amI x
def MY{l:List It}:VB l↔∀(i:Nat) (x y:It),l[i]?=ab x->l[i+1]?=ab y->ft x.1 y.1=true:=by
 constructor
 .intro h i x y b a;unfold VB at h;rw[Dr] at h;obtain⟨c,g⟩:=hR.1 b;obtain⟨e,k⟩:=hR.1 a;have:=h i (i+1) c e ai;rw[g,k] at this;exact this
 .intro h;have key:∀(d i:Nat) (x y:It),l[i]?=ab x->l[i+d+1]?=ab y->ft x.1 y.1=true:=by
   intro d;induction d with
   | zero=>intro i x y b a;exact h i x y b a
   | succ d m =>
     intro i x y b a;have n:=aF a;have f:l[i+d+1]?=ab l[i+d+1]:=ik ai;exact C8 (m i x _ b f) (h (i+d+1) _ y f<|by rw[show i+d+1+1=i+(d+1)+1 by omega];exact a)
  unfold VB;rw[Dr];intro i j c e o;obtain⟨d,rfl⟩:∃d,j=i+d+1:=⟨j-i-1,ai⟩;exact key d i _ _ (ik c) (ik e)
def GH(l:List It)(i:Nat)(x:It):Bool:=match i with|0=>false|k+1=>match l[k]? with|some y=>!ft y.1 x.1|none=>false
def Ar{l:List It}{k:Nat}{x y:It}(a:l[k]?=ab y):GH l (k+1) x=!ft y.1 x.1:=by
 unfold GH;simp only[a]
def Ia(l:List It)(i:Nat)(x:It):Bool:=!iv x.1||(decide (64<x.2.2.1.length)||(!decide (x.2.1=ku x.2.2.1)||GH l i x))
def abV(l:List It)(w:l.length<=100000)(m:∀x∈l,x.1.length<=1000000/\x.2.2.1.length<=1000000):∃b,nh (l,())=ab (b,())/\(b=true↔OkI l):=by
 unfold nh;rcases iK (f:=pg (l,())) l (λi=>((false,i,()),())) (λi x=>Ia l i x) (λi x=>(1,(false,(i:Int),()),())) (0,(false,(l.length:Int),()),()) ai (λi x c e n=>by
  have o:=m x (eQ c);have p:ba 64 (len x.2.2.1)=decide (64<x.2.2.1.length):=by unfold ba len;apply gX.2;omega
  unfold pg;dsimp only;rw[aq e,ae,au c,aa,Bb x.1 ai,aa,n];cases d:iv x.1 with
  | false=>rw[show Ia l i x=true by unfold Ia;rw[d];rfl];rfl
  | true =>
    rw[aG,af,aa,p];by_cases a:64<x.2.2.1.length
    .rw[show Ia l i x=true by unfold Ia;rw[d,dD a];rfl,dD a];rfl
    .rw[cL a,af,aa,aa,HO x.2.2.1 ai,aa];dsimp only;rw[tM];by_cases hd:x.2.1=ku x.2.2.1
     .have j:Ia l i x=GH l i x:=by unfold Ia;rw[d,cL a,dD hd];rfl
      rw[j,dD hd,aG,af];cases i with
      | zero=>rfl
      | succ k =>
        have hy:l[k]?=ab l[k]:=ik ai;rw[Ar hy,aO ai,ae,dL ai ai,show((k+1:Nat):Int)-1=(k:Int) by omega,au hy,aa,aa];cases ft l[k].1 x.1<;>rfl
     .rw[show Ia l i x=true by unfold Ia;rw[d,cL a,cL hd];rfl,cL hd];rfl) (by
  unfold pg;dsimp only;rw[aw,af]) with ⟨i,x,c,g,_,h⟩|⟨d,h⟩
 .rw[h];refine⟨false,rfl,⟨λh=>(by cases h),λ⟨_,q,r⟩=>?_⟩⟩;obtain⟨s,z,t⟩:=r x (eQ c);have j:Ia l i x=GH l i x:=by unfold Ia;rw[s,cL (show ¬64<x.2.2.1.length by omega),dD t];rfl
  rw[j] at g;cases i with
  | zero=>cases g
  | succ k =>
    have e:=aF c;have hy:l[k]?=ab l[k]:=ik ai;rw[Ar hy,MY.1 q k _ _ hy c] at g;cases g
 .rw[h];refine⟨_,rfl,?_⟩;dsimp only;have u:cu (len l) 4=decide (l.length<=4):=by unfold cu len;apply gX.2;omega
  rw[u,TP];refine⟨λv=>⟨v,MY.2 λi x y c hy=>?_,λx c=>?_⟩,λh=>h.1⟩
  .have:=d (i+1) y hy;unfold Ia at this;simp only[Ar c,Ou] at this;simpa using this.2.2.2
  .obtain⟨i,e⟩:=bz.1 c;have:=d i x e;unfold Ia at this;simp only[Ou] at this;exact⟨by simpa using this.1,by have:=this.2.1;simp at this;omega,by simpa using this.2.2.1⟩
abbrev fX:=Tx×Int×al
abbrev az:=List eP×List bN×List aD×List Tx×List fX×al
def BB(l:List Item):Prop:=l.length<=8/\∀x∈l,x.1.length<=100/\x.2.2.1.length<=200
structure akK (b:Bd):Prop extends FewB b where
 im:∀x∈b.2.2.1,x.2.2.2.1.length<=200/\BB x.2.2.2.2.1
 bm:∀x∈b.2.2.2.1,x.2.2.2.2.1.length<=200/\BB x.2.2.2.2.2.1
def abW(b:Bd):∃c,rf (b,())=ab (c,())/\(c=true->akK b):=by
 obtain⟨a,k⟩:∃a:List Tx->Bool,∀l,lS (l,())=ab (a l,())/\(a l=true->sa l):=⟨λl=>Classical.choose (HL l),λl=>TN (HL l)⟩;obtain⟨e,m⟩:∃a:List Item->Bool,∀l,eG (l,())=ab (a l,())/\(a l=true->BB l):=⟨λl=>Classical.choose (GG l),λl=>TN (GG l)⟩;obtain⟨D,d,z⟩:=aeQ b;refine⟨D,d,λA=>?_⟩;have B:=z A
 suffices q:(∀x∈b.2.2.1,x.2.2.2.1.length<=200/\BB x.2.2.2.2.1)/\(∀x∈b.2.2.2.1,x.2.2.2.2.1.length<=200/\BB x.2.2.2.2.2.1) from⟨B,q.1,q.2⟩
 subst A;obtain⟨n,v,w,y,u⟩:=b;obtain⟨K,_,r,_,L,_⟩:=B;unfold rf at d;have o:∀{q:Nat×(Bool×Int×al)×al} {g:Option (Bool×al)},q.1=1->q.2.1.1=false->ao (de q.1 0) g (ab (q.2.1.1,()))≠ab (true,()):=λ{q g} E F h=>by
  rw[E,F] at h;cases h
 rcases rS (f:=ja ((n,v,w,y,u),())) v 40 (λi=>((false,i,()),())) (λ_ x=>!a x.2.2.1) (λi x=>(1,(false,(i:Int),()),())) (λn=>(0,(false,(n:Int),()),())) ai (λi x j p s t=>by
  unfold ja;rw[aq p,ae,aO (show(i:Int)<40 by omega),ae,au j,aa,(k _).1,aa,Z1,t];cases a x.2.2.1<;>rfl) (by unfold ja;dsimp only;rw[r9 (c:=40) rfl,af]) with ⟨i,x,p,j,C,_,h⟩|⟨G,h⟩
 .rw[h,aa] at d;exact absurd d (o rfl rfl)
 rw[h,aa] at d;rw[b9,ae] at d;rcases rS (f:=jb ((n,v,w,y,u),())) w 40 (λi=>((false,i,()),())) (λ_ x=>!a x.2.1||decide (200<x.2.2.2.1.length)||!e x.2.2.2.2.1) (λi x=>(1,(false,(i:Int),()),())) (λn=>(0,(false,(n:Int),()),())) ai (λi x j p s t=>by
  unfold jb;rw[aq p,ae,aO (show(i:Int)<40 by omega),ae,au j,aa,(k _).1,aa,aa,aa,gD (n:=200) (c:=200) rfl,(m _).1,aa,t];cases a x.2.1 with
  | false=>rfl
  | true =>
    by_cases r:200<x.2.2.2.1.length
    .simp[r,ao,nt,ag]
    .cases H:e x.2.2.2.2.1<;>simp[r,ao,nt,ag]) (by unfold jb;dsimp only;rw[r9 (c:=40) rfl,af]) with ⟨i,x,p,j,C,_,h⟩|⟨I,h⟩
 .rw[h,aa] at d;exact absurd d (o rfl rfl)
 rw[h,aa] at d;rw[b9,ae] at d;rcases rS (f:=jc ((n,v,w,y,u),())) y 40 (λi=>((false,i,()),())) (λ_ x=>!a x.2.1||decide (200<x.2.2.2.2.1.length)||!e x.2.2.2.2.2.1) (λi x=>(1,(false,(i:Int),()),())) (λn=>(0,(false,(n:Int),()),())) ai (λi x j p s t=>by
  unfold jc;rw[aq p,ae,aO (show(i:Int)<40 by omega),ae,au j,aa,(k _).1,aa,aa,aa,gD (n:=200) (c:=200) rfl,(m _).1,aa,t];cases a x.2.1 with
  | false=>rfl
  | true =>
    by_cases r:200<x.2.2.2.2.1.length
    .simp[r,ao,nt,ag]
    .cases H:e x.2.2.2.2.2.1<;>simp[r,ao,nt,ag]) (by unfold jc;dsimp only;rw[r9 (c:=40) rfl,af]) with ⟨i,x,p,j,C,_,h⟩|⟨J,h⟩
 .rw[h,aa] at d;exact absurd d (o rfl rfl)
 refine⟨λx j=>?_,λx j=>?_⟩
 .dsimp only at j;obtain⟨i,p⟩:=bz.1 j
  grind
 .dsimp only at j;obtain⟨i,p⟩:=bz.1 j
  grind
def abX(l:List aD):∃b,yf (l,())=ab (b,())/\(b=true->l.length<=40/\∀x∈l,x.1.length<=100/\x.2.1.length<=100):=by
 unfold yf;rcases rS (f:=sj (l,())) l 40 (λi=>((false,i,()),())) (λ_ x=>decide (100<x.1.length)||decide (100<x.2.1.length)) (λi x=>(1,(false,(i:Int),()),())) (λn=>(0,(false,(n:Int),()),())) ai (λi x a d j k=>by
  unfold sj;rw[aq d,ae,aO (show(i:Int)<40 by omega),ae,au a,aa,gD (n:=100) (c:=100) rfl,aa,gD (n:=100) (c:=100) rfl,k];by_cases h:100<x.1.length
  .simp[h,ao,nt,ag]
  .by_cases m:100<x.2.1.length<;>simp[h,m,ao,nt,ag]) (by unfold sj;dsimp only;rw[r9 (c:=40) rfl,af]) with ⟨i,x,d,a,o,_,h⟩|⟨p,h⟩
 .rw[h];exact⟨false,rfl,λh=>(by cases h)⟩
 .rw[h];refine⟨_,rfl,λg=>?_⟩;rw[gC (n:=40) (c:=40) rfl] at g;have e:=iq g;refine⟨e,λx a=>?_⟩;obtain⟨i,d⟩:=bz.1 a
  grind
structure MZ (s:az):Prop where
 base:akK (0,s.2.2.1,s.2.1,s.1,())
 ids:∀x∈s.2.2.1,x.1.length<=100/\x.2.1.length<=100
 lays:s.2.2.1.length<=12
 aag:s.2.2.2.1.length<=12
 amJ:∀d∈s.2.2.2.1,d.length<=8192
 Yv:s.2.2.2.2.1.length<=40
def QK(s:az):∃b,uR (s,())=ab (b,())/\(b=true->MZ s):=by
 obtain⟨m,o,e,j,p,u⟩:=s;obtain⟨t,v,w⟩:=abW (0,e,o,m,());obtain⟨y,z,A⟩:=abX e;unfold uR;rcases rS (f:=sk ((m,o,e,j,p,u),())) j 12 (λi=>((false,i,()),())) (λ_ x=>decide (8192<x.length)) (λi x=>(1,(false,(i:Int),()),())) (λn=>(0,(false,(n:Int),()),())) ai (λi x q k B C=>by
  unfold sk;rw[aq k,ae,aO (show(i:Int)<12 by omega),ae,au q,aa,gD (n:=8192) (c:=8192) rfl,ew,C];by_cases h:8192<x.length<;>simp[h]) (by unfold sk;dsimp only;rw[r9 (c:=12) rfl,af]) with ⟨i,x,k,q,E,_,h⟩|⟨F,h⟩
 .rw[h];exact⟨false,rfl,λh=>(by cases h)⟩
 .rw[h,aa];rw[b9,ae,v,aa,z];rw[gC (n:=12) (c:=12) rfl,gC (n:=12) (c:=12) rfl,gC (n:=40) (c:=40) rfl];cases t with
  | false=>exact⟨false,rfl,λh=>(by cases h)⟩
  | true =>
    cases y with
    | false=>exact⟨false,rfl,λh=>(by cases h)⟩
    | true =>
      refine⟨_,rfl,λa=>?_⟩;by_cases g:e.length<=12
      .by_cases l:j.length<=12
       .by_cases r:p.length<=40
        .refine⟨w rfl,(A rfl).2,g,l,λd D=>?_,r⟩;obtain⟨i,k⟩:=bz.1 D
         grind
        .rw[dD g,dD l,cL r] at a;cases a
       .rw[dD g,cL l] at a;cases a
      .rw[cL g] at a;cases a
end Go.Ge
