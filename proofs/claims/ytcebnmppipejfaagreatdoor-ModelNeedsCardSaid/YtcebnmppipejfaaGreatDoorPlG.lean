import Derived.Test.YtcebnmppipejfaaGreatDoorPlF
set_option linter.unusedVariables false
set_option linter.unusedSectionVars false
set_option linter.unusedSimpArgs false
noncomputable section
open Go.IntKind (i64)
namespace Go.Ge
variable [Lp]
set_option maxRecDepth 100000
abbrev cl:=((List<|Sb×(List Sb)×Sb×Sb×Sb×(List<|Sb×Sb×Sb×ai)×ai)×(List<|Sb×(List Sb)×Sb×Sb×(List<|Sb×Sb×Sb×ai)×ai)×(List<|Sb×Sb×(List Sb)×Sb×Int×Int×Bool×ai)×(List Sb)×(List<|Sb×Int×ai)×ai)
abbrev Hl:=((List<|Sb×(List Sb)×Sb×Sb×Sb×(List<|Sb×Sb×Sb×ai)×ai)×(List<|Sb×(List Sb)×Sb×Sb×(List<|Sb×Sb×Sb×ai)×ai)×(List<|Sb×Sb×(List Sb)×Sb×Int×Int×Bool×ai)×ai×(List<|Sb×Int×ai)×ai)
abbrev kj:=(Sb×(List Sb)×Sb×Sb×Sb×(List<|Sb×Sb×Sb×ai)×ai)
abbrev yI:=(Sb×Sb×(List Sb)×Sb×Int×Int×Bool×ai)
abbrev kR:=(Int×Sb×Int×Sb×ai)
abbrev gA:=(Int×Int×Sb×Sb×(List Sb)×Sb×Sb×Int×ai)
abbrev Hm:=(Sb×(List Sb)×Sb×Sb×(List<|Sb×Sb×Sb×ai)×ai)
abbrev A0:=((Int×ai)×Hl×(List Sb)×ai)
abbrev Mv:=(Sb×Sb×Sb×ai)
abbrev oN:=(Int×Int×ai)
abbrev Fo:=(aq×((List aq)×(aq×(aq×(aq×((List<|aq×(aq×(aq×ai)))×ai))))))
abbrev J8:=(Sb×(List Sb)×ai)
abbrev J9:=(Nat×oN×Sb×ai)
abbrev tJ:=(Bool×Int×ai)
abbrev Ka:=((ai×Int×ai)×(List Sb)×ai)
abbrev aiE:=((Nat×(Int×ai)×Hl×(List Sb)×ai))
abbrev Kb:=(oN×Sb×ai)
abbrev Kc:=(Nat×tJ×ai)
abbrev YM:=((Int×ai)×(ai×ai×ai)×(List<|Int)×ai)
abbrev YN:=((ai×Int×ai)×(List kR)×cl×ai)
def ch(l:List Fo)(x:(Int×((List Fo)×ai))):Option (List Fo):=Dg l x.1 x.2.1
def dN(l:List Fo)(x:(Int×(Int×ai))):Option (List Fo):=TZ l x.1 x.2.1
def xN(x:cl×Sb×ai):Option (kR×ai) :=
 ab (dU (x.1,x.2.1,())) (λa=>aj (nt<|aL a.2.1 0)
 (ab (dR (a.2.1,())) λc=>some (c.1,()))
 (ab (gL (x.1,a.1,())) λc=>ab (yB (x.1,a.1,())) λd=>aj (nt<|aL d.2.1 0)
 (ab (dR (d.2.1,())) λb=>some (b.1,()))
 (ab (uR (x.1,c.1.2.1,())) λb=>aj (nt<|aL b.2.1 0)
 (ab (dR (b.2.1,())) λe=>some (e.1,()))
 (ab (zp (b.1,d.1,())) λe=>ab (E8 (e.1,())) λf=>some (((0:Int),a.1,(0:Int),f.1,()),())))))
def jA(x:Int×ai):Option (kR×ai) :=
 some ((x.1,([]:aq),(0:Int),([]:aq),()),())
def nV(x:cl×ai):Option ((List J8)×ai) :=
 ab (oI ((1:Int),((0:Int),([]:List yI),([]:List Hm),x.1.1,()),())) (λa=>some (a.1,()))
def cZ(x:(List kj)×ai):Option ((List kj)×ai) :=
 bif fits (len x.1) then some (x.1,()) else none
def Mw(x:cl×kj×ai)(a:oN×Sb×ai):Option (Kb⊕J9) :=
 aj (aO a.1.2.1<|len x.1.1)
 (aj (within a.1.2.1<|len x.1.1)
 (ab (idx x.1.1 a.1.2.1) λb=>aj (bz b.1 a.2.1)
 (some<|Sum.inr (1,(a.1.2.1,a.1.2.1,()),a.2.1,()))
 (some<|Sum.inl ((a.1.1,ax i64 a.1.2.1 1,()),a.2.1,())))
 none)
 (some<|Sum.inr (0,(a.1.1,a.1.2.1,()),a.2.1,()))
def Mx(x:cl×kj×ai)(a:oN×kj×ai):Option ((oN×kj×ai)⊕(Nat×oN×kj×ai)) :=
 aj (aO a.1.2.1<|len x.1.1)
 (aj (within a.1.2.1<|len x.1.1)
 (ab (idx x.1.1 a.1.2.1) λb=>aj (nt<|jH b.1 a.2.1.1)
 (some<|Sum.inr (1,(a.1.2.1,a.1.2.1,()),a.2.1,()))
 (some<|Sum.inl ((a.1.1,ax i64 a.1.2.1 1,()),a.2.1,())))
 none)
 (some<|Sum.inr (0,(a.1.1,a.1.2.1,()),a.2.1,()))
def My(b:(ai×ai)×(List kj)×ai)(a:oN×kj×ai):Option ((oN×kj×ai)⊕(Nat×oN×kj×ai)) :=
 aj (aO a.1.2.1<|len b.2.1)
 (aj (within a.1.2.1<|len b.2.1)
 (ab (idx b.2.1 a.1.2.1) λc=>aj (nt<|jH c.1 a.2.1.1)
 (some<|Sum.inr (1,(a.1.2.1,a.1.2.1,()),a.2.1,()))
 (some<|Sum.inl ((a.1.1,ax i64 a.1.2.1 1,()),a.2.1,())))
 none)
 (some<|Sum.inr (0,(a.1.1,a.1.2.1,()),a.2.1,()))
def sk(x:cl×kj×ai):Option (cl×ai) :=
 aj (fits<|len x.1.1)
 (ab (Loop (Mw x) (((0:Int),(0:Int),()),x.2.1.1,())) λd=>aj (cR d.1 0)
 (ab (aP (x.2.1.2.1,())) λa=>ab (b8 (x.2.1.2.2.2.2.2.1,())) λe=>ab (Loop (Mx x) (((0:Int),(0:Int),()),(x.2.1.1,a.1,x.2.1.2.2.1,x.2.1.2.2.2.1,x.2.1.2.2.2.2.1,e.1,x.2.1.2.2.2.2.2.2),())) λc=>aj (cR c.1 0)
 (ab (ch x.1.1 ((((len x.1.1,()),()).1).1,([c.2.2.1]:List kj),())) λb=>some ((b,x.1.2.1,x.1.2.2.1,x.1.2.2.2.1,x.1.2.2.2.2.1,x.1.2.2.2.2.2),()))
 (ab (ch x.1.1 (((aj (aO c.2.1.1 0)
 ((len x.1.1,()),())
 ((c.2.1.1,()),())).1).1,([c.2.2.1]:List kj),())) λb=>some ((b,x.1.2.1,x.1.2.2.1,x.1.2.2.2.1,x.1.2.2.2.2.1,x.1.2.2.2.2.2),())))
 (ab (aj (ca 0 d.2.1.1)
 (ab (dN x.1.1 (d.2.1.1,ax i64 d.2.1.1 1,())) λa=>some (((),()),a,()))
 (some (((),()),x.1.1,()))) λa=>ab (aP (x.2.1.2.1,())) λe=>ab (b8 (x.2.1.2.2.2.2.2.1,())) λc=>ab (Loop (My a) (((0:Int),(0:Int),()),(x.2.1.1,e.1,x.2.1.2.2.1,x.2.1.2.2.2.1,x.2.1.2.2.2.2.1,c.1,x.2.1.2.2.2.2.2.2),())) λb=>aj (cR b.1 0)
 (ab (ch a.2.1 ((((len a.2.1,()),()).1).1,([b.2.2.1]:List kj),())) λf=>some ((f,x.1.2.1,x.1.2.2.1,x.1.2.2.2.1,x.1.2.2.2.2.1,x.1.2.2.2.2.2),()))
 (ab (ch a.2.1 (((aj (aO b.2.1.1 0)
 ((len a.2.1,()),())
 ((b.2.1.1,()),())).1).1,([b.2.2.1]:List kj),())) λf=>some ((f,x.1.2.1,x.1.2.2.1,x.1.2.2.2.1,x.1.2.2.2.2.1,x.1.2.2.2.2.2),()))))
 none
def p8(x:cl×Sb×(List Sb)×Sb×Int×ai):Option (cl×kR×ai) :=
 ab (fy (x.2.2.1,())) (λg=>aj (aj (nt<|nt<|aL g.1 0)
 (aO 64<|len x.2.2.2.1)
 true)
 (ab (jA ((1:Int),())) λb=>some (x.1,b.1,()))
 (ab (aj (nt<|bz x.2.1 ([]:aq))
 (ab (rv (x.1,x.2.1,())) λb=>some ((b.2.1,()),(([]:aq),x.2.2.1,b.1,([]:aq),x.2.2.2.1,([]:List Mv),()),()))
 (some (((0:Int),()),(([]:aq),x.2.2.1,([]:aq),([]:aq),x.2.2.2.1,([]:List Mv),()),()))) λb=>ab (aj (aL b.1.1 0)
 (ab (nV (x.1,())) λe=>ab (je (e.1,([]:aq),x.2.2.1,())) λa=>some ((a.1,()),()))
 (some ((b.1.1,()),()))) λe=>ab (aj (aL e.1.1 0)
 (ab (nV (x.1,())) λa=>ab (hW (a.1,jQ i64 x.2.2.2.2.1 16777215,())) λc=>some ((c.2.1,()),(c.1,b.2.1.2),()))
 (some ((e.1.1,()),b.2.1,()))) λa=>aj (nt<|aL a.1.1 0)
 (ab (jA (a.1.1,())) λc=>some (x.1,c.1,()))
 (ab (pQ (x.1,a.2.1.2.2.1,())) λc=>ab (lr (x.1,(((((aj (bz x.2.1 ([]:aq))
 ((),(([]:aq),([]:List Sb),([]:aq),([]:aq),([]:List Mv),()),())
 ((),c.1,())).2).1).2).2).1,([]:List Sb),([]:aq),jQ i64 (mQ i64 x.2.2.2.2.1 24) 16777215,())) λd=>aj (nt<|aL d.2.1.1 0)
 (ab (jA (d.2.1.1,())) λf=>some (x.1,f.1,()))
 (ab (sk (d.1,(a.2.1.1,a.2.1.2.1,a.2.1.2.2.1,d.2.1.2.1,a.2.1.2.2.2.2),())) λf=>some (f.1,((0:Int),a.2.1.1,(0:Int),d.2.1.2.1,()),())))))
def Fq(x:cl×Sb×ai):Option (Sb×Int×ai) :=
 ab (nV (x.1,())) (λb=>ab (gI (b.1,x.2.1,())) λa=>some (a.1,a.2.1,()))
def Mz(x:cl×Sb×ai)(a:oN×Sb×ai):Option (Kb⊕J9) :=
 aj (aO a.1.2.1<|len x.1.1)
 (ab (idx x.1.1 a.1.2.1) λb=>aj (bz b.1 a.2.1)
 (some<|Sum.inr (1,(a.1.2.1,a.1.2.1,()),a.2.1,()))
 (some<|Sum.inl ((a.1.1,ax i64 a.1.2.1 1,()),a.2.1,())))
 (some<|Sum.inr (0,(a.1.1,a.1.2.1,()),a.2.1,()))
def vP(x:cl×Sb×ai):Option (kj×Bool×ai) :=
 ab (Loop (Mz x) (((0:Int),(0:Int),()),x.2.1,())) (λb=>aj (cR b.1 0)
 (some ((([]:aq),([]:List Sb),([]:aq),([]:aq),([]:aq),([]:List Mv),()),false,()))
 (aj (aO b.2.1.1 0)
 (some ((([]:aq),([]:List Sb),([]:aq),([]:aq),([]:aq),([]:List Mv),()),false,()))
 (ab (idx x.1.1 b.2.1.1) λa=>ab (aP (a.2.1,())) λc=>ab (b8 (a.2.2.2.2.2.1,())) λd=>some ((a.1,c.1,a.2.2.1,a.2.2.2.1,a.2.2.2.2.1,d.1,a.2.2.2.2.2.2),true,()))))
def Fs(x:cl×Sb×ai)(a:oN×Sb×ai):Option (Kb⊕J9) :=
 aj (aO a.1.2.1<|len x.1.1)
 (aj (within a.1.2.1<|len x.1.1)
 (ab (idx x.1.1 a.1.2.1) λb=>aj (bz b.1 a.2.1)
 (some<|Sum.inr (1,(a.1.2.1,a.1.2.1,()),a.2.1,()))
 (some<|Sum.inl ((a.1.1,ax i64 a.1.2.1 1,()),a.2.1,())))
 none)
 (some<|Sum.inr (0,(a.1.1,a.1.2.1,()),a.2.1,()))
def A1(x:cl×Sb×ai):Option (cl×kR×ai) :=
 ab (Fq (x.1,x.2.1,())) (λc=>aj (nt<|aL c.2.1 0)
 (ab (jA (c.2.1,())) λa=>some (x.1,a.1,()))
 (ab (vP (x.1,c.1,())) λa=>aj (fits<|len x.1.1)
 (ab (Loop (Fs x) (((0:Int),(0:Int),()),c.1,())) λf=>aj (cR f.1 0)
 (ab (mL (x.1,a.1.2.2.2.1,())) λd=>ab (aj (nt<|aO 0 d.1)
 (ab (tG ((x.1.1,x.1.2.1,x.1.2.2.1,x.1.2.2.2.1,x.1.2.2.2.2.1,x.1.2.2.2.2.2),a.1.2.2.2.1,())) λe=>some e.1)
 (some true)) λe=>aj e
 (ab (jA ((7:Int),())) λb=>some (x.1,b.1,()))
 (ab (ow ((x.1.1,x.1.2.1,x.1.2.2.1,x.1.2.2.2.1,x.1.2.2.2.2.1,x.1.2.2.2.2.2),a.1.2.2.2.1,())) λb=>some (b.1,((0:Int),c.1,(0:Int),([]:aq),()),())))
 (ab (aj (ca 0 f.2.1.1)
 (ab (dN x.1.1 (f.2.1.1,ax i64 f.2.1.1 1,())) λd=>some (((),()),d,()))
 (some (((),()),x.1.1,()))) λd=>ab (mL (x.1,a.1.2.2.2.1,())) λe=>ab (aj (nt<|aO 0 e.1)
 (ab (tG ((d.2.1,x.1.2.1,x.1.2.2.1,x.1.2.2.2.1,x.1.2.2.2.2.1,x.1.2.2.2.2.2),a.1.2.2.2.1,())) λb=>some b.1)
 (some true)) λb=>aj b
 (ab (jA ((7:Int),())) λg=>some (x.1,g.1,()))
 (ab (ow ((d.2.1,x.1.2.1,x.1.2.2.1,x.1.2.2.2.1,x.1.2.2.2.2.1,x.1.2.2.2.2.2),a.1.2.2.2.1,())) λg=>some (g.1,((0:Int),c.1,(0:Int),([]:aq),()),()))))
 none))
def fk(x:(List<|Int)×Int×ai)(a:oN×ai):Option ((oN×ai)⊕(Nat×oN×ai)) :=
 aj (aO a.1.2.1<|len x.1)
 (ab (idx x.1 a.1.2.1) λb=>aj (aL x.2.1 b)
 (some<|Sum.inr (1,(a.1.2.1,a.1.2.1,()),()))
 (some<|Sum.inl ((a.1.1,ax i64 a.1.2.1 1,()),())))
 (some<|Sum.inr (0,(a.1.1,a.1.2.1,()),()))
def gB(x:(List<|Int)×Int×ai):Option (Int×ai) :=
 ab (Loop (fk x) (((0:Int),(0:Int),()),())) (λa=>aj (cR a.1 0)
 (some ((-1:Int),()))
 (some (a.2.1.1,())))
def cI(x:(List<|Int)×Int×ai):Option (Bool×ai) :=
 ab (gB (x.1,x.2.1,())) (λa=>some (ca 0 a.1,()))
def uY(x:gA×(List<|Int)×ai):Option ((List<|Int)×ai) :=
 ab (cI (x.2.1,x.1.2.1,())) (λa=>aj a.1
 (some (([x.1.2.1]:List (Int)),()))
 (some (([]:List (Int)),())))
def fB(x:gA×ai):Option ((List<|Int)×ai) :=
 aj (((aj (aL x.1.1 2)
 ((aL x.1.1 2,()),())
 ((((aj (aL x.1.1 11)
 ((aL x.1.1 11,()),())
 ((aL x.1.1 12,()),())).1).1,()),())).1).1)
 (some (([(1:Int),2,3]:List (Int)),()))
 (aj (aL x.1.1 7)
 (some (([(2:Int),3]:List (Int)),()))
 (aj (aL x.1.1 8)
 (some (([(1:Int),2]:List (Int)),()))
 (aj (((aj (aL x.1.1 1)
 ((aL x.1.1 1,()),())
 ((((aj (aL x.1.1 3)
 ((aL x.1.1 3,()),())
 ((((aj (aL x.1.1 4)
 ((aL x.1.1 4,()),())
 ((((aj (aL x.1.1 5)
 ((aL x.1.1 5,()),())
 ((aL x.1.1 6,()),())).1).1,()),())).1).1,()),())).1).1,()),())).1).1)
 (some (([(3:Int)]:List (Int)),()))
 (aj (((aj (aL x.1.1 9)
 ((aL x.1.1 9,()),())
 ((aL x.1.1 10,()),())).1).1)
 (ab (uY (x.1,([(1:Int),2]:List (Int)),())) λa=>some (a.1,()))
 (aj (((aj (aL x.1.1 13)
 ((aL x.1.1 13,()),())
 ((((aj (aL x.1.1 14)
 ((aL x.1.1 14,()),())
 ((aL x.1.1 15,()),())).1).1,()),())).1).1)
 (ab (uY (x.1,([(1:Int),2,3]:List (Int)),())) λa=>some (a.1,()))
 (some (([]:List (Int)),())))))))
def eB(x:Int×ai):Option (kR×ai) :=
 some ((x.1,([]:aq),(0:Int),([]:aq),()),())
def wF(x:cl×Int×ai):Option ((List J8)×ai) :=
 ab (oI (x.2.1,((0:Int),x.1.2.2.1,x.1.2.1,x.1.1,()),())) (λa=>some (a.1,()))
def Ft(x:cl×gA×ai):Option (cl×kR×ai) :=
 ab (fB (x.2.1,())) (λf=>ab (cI (f.1,x.2.1.2.1,())) λg=>aj (nt g.1)
 (ab (eB ((1:Int),())) λe=>some (x.1,e.1,()))
 (ab (wF (x.1,x.2.1.2.1,())) λe=>ab (gI (e.1,x.2.1.2.2.1,())) λd=>aj (nt<|aL d.2.1 0)
 (ab (eB (d.2.1,())) λa=>some (x.1,a.1,()))
 (aj (aL x.2.1.2.1 1)
 (ab (vP (x.1,d.1,())) λa=>aj (aL x.2.1.1 10)
 (ab (qJ (a.1.2.2.2.2.2.1,x.2.1.2.2.2.2.2.2.1,())) λb=>aj (nt<|aL b.2.1 0)
 (ab (eB (b.2.1,())) λc=>some (x.1,c.1,()))
 (some (x.1,((0:Int),d.1,(0:Int),b.1,()),())))
 (ab (qI (a.1.2.2.2.2.2.1,x.2.1.2.2.2.2.2.2.1,x.2.1.2.2.2.2.2.1,())) λb=>aj (nt<|aL b.2.1 0)
 (ab (eB (b.2.1,())) λc=>some (x.1,c.1,()))
 (ab (sk (x.1,(a.1.1,a.1.2.1,a.1.2.2.1,a.1.2.2.2.1,a.1.2.2.2.2.1,b.1,a.1.2.2.2.2.2.2),())) λc=>some (c.1,((0:Int),d.1,(0:Int),([]:aq),()),()))))
 (ab (pQ (x.1,d.1,())) λa=>aj (aL x.2.1.1 10)
 (ab (qJ (a.1.2.2.2.2.1,x.2.1.2.2.2.2.2.2.1,())) λb=>aj (nt<|aL b.2.1 0)
 (ab (eB (b.2.1,())) λc=>some (x.1,c.1,()))
 (some (x.1,((0:Int),d.1,(0:Int),b.1,()),())))
 (ab (qI (a.1.2.2.2.2.1,x.2.1.2.2.2.2.2.2.1,x.2.1.2.2.2.2.2.1,())) λb=>aj (nt<|aL b.2.1 0)
 (ab (eB (b.2.1,())) λc=>some (x.1,c.1,()))
 (ab (tu (x.1,(a.1.1,a.1.2.1,a.1.2.2.1,a.1.2.2.2.1,b.1,a.1.2.2.2.2.2),())) λc=>some (c.1,((0:Int),d.1,(0:Int),([]:aq),()),())))))))
def Hn(x:(List J8)×ai)(a:(Int×ai)×(ai×ai×ai)×(List<|Int)×ai):Option (YM⊕YM) :=
 cA (aj (aO a.1.1<|len x.1)
 (ab (idx x.1 a.1.1) λb=>aj (fits<|plus (len ([b.1]:List Sb))<|len b.2.1)
 (ab (uD (app ([b.1]:List Sb) b.2.1,([32]:aq),())) λc=>aj (fits<|plus (len c.1)<|len ([10]:aq))
 (aj (fits<|plus (len a.2.2.1)<|len<|av<|app c.1 ([10]:aq))
 (some<|Sum.inl ((ax i64 a.1.1 1,()),((),(),a.2.1.2.2),app a.2.2.1<|av<|app c.1 ([10]:aq),()))
 none)
 none)
 none)
 (some<|Sum.inr (0,(a.1.1,()),((),(),a.2.1.2.2),a.2.2.1,())))
def Cx(x:(List J8)×ai):Option (Sb×ai) :=
 ab (Loop (Hn x) (((0:Int),()),((),(),()),([]:List (Int)),())) (λa=>some (aX a.2.2.1,()))
def DM(b:(List yI)×ai)(a:oN×Sb×ai):Option (Kb⊕J9) :=
 aj (aO a.1.2.1<|len b.1)
 (ab (idx b.1 a.1.2.1) λc=>aj (bz c.1 a.2.1)
 (some<|Sum.inr (1,(a.1.2.1,a.1.2.1,()),a.2.1,()))
 (some<|Sum.inl ((a.1.1,ax i64 a.1.2.1 1,()),a.2.1,())))
 (some<|Sum.inr (0,(a.1.1,a.1.2.1,()),a.2.1,()))
def zv(x:cl×Int×Sb×(List Sb)×ai):Option (cl×ai) :=
 aj (aL x.2.1 1)
 (ab (vP (x.1,x.2.2.1,())) λb=>ab (sk (x.1,(b.1.1,x.2.2.2.1,b.1.2.2),())) λa=>some (a.1,()))
 (aj (aL x.2.1 2)
 (ab (pQ (x.1,x.2.2.1,())) λb=>ab (tu (x.1,(b.1.1,x.2.2.2.1,b.1.2.2),())) λa=>some (a.1,()))
 (ab (bt (x.1.2.2.1,())) λb=>ab (ab (Loop (DM b) (((0:Int),(0:Int),()),x.2.2.1,())) λa=>aj (cR a.1 0)
 (some (((-1:Int),()),a.2.2.1,()))
 (some ((a.2.1.1,()),a.2.2.1,()))) λa=>ab (aP (x.2.2.2.1,())) λc=>ab (idx b.1 a.1.1) λd=>none))
def A2(x:cl×gA×ai):Option (cl×kR×ai) :=
 ab (wF (x.1,x.2.1.2.1,())) (λe=>ab (fB (x.2.1,())) λf=>ab (cI (f.1,x.2.1.2.1,())) λg=>aj (nt g.1)
 (ab (eB ((1:Int),())) λa=>some (x.1,a.1,()))
 (aj (aL x.2.1.1 15)
 (ab (Cx (e.1,())) λa=>some (x.1,((0:Int),([]:aq),(0:Int),a.1,()),()))
 (ab (aj (aL x.2.1.1 13)
 (ab (fy (x.2.1.2.2.2.2.1,())) λa=>some (nt<|aL a.1 0))
 (some false)) λa=>aj a
 (ab (eB ((1:Int),())) λb=>some (x.1,b.1,()))
 (ab (gI (e.1,x.2.1.2.2.1,())) λb=>ab (aj (aj (aL b.2.1 0)
 (aL x.2.1.1 13)
 false)
 (ab (je (e.1,b.1,x.2.1.2.2.2.2.1,())) λd=>some ((d.1,()),()))
 (some ((b.2.1,()),()))) λd=>aj (nt<|aL d.1.1 0)
 (ab (eB (d.1.1,())) λc=>some (x.1,c.1,()))
 (ab (aj (aL x.2.1.1 13)
 (ab (zv (x.1,x.2.1.2.1,b.1,x.2.1.2.2.2.2.1,())) λc=>some ((),c.1,()))
 (some ((),x.1,()))) λc=>some (c.2.1,((0:Int),b.1,(0:Int),([]:aq),()),()))))))
def eH(x:cl×gA×ai):Option (cl×kR×ai) :=
 aj (aL x.2.1.1 1)
 (ab (lr (x.1,x.2.1.2.2.2.1,x.2.1.2.2.2.2.1,x.2.1.2.2.2.2.2.1,x.2.1.2.2.2.2.2.2.2.1,())) λa=>some (a.1,a.2.1,()))
 (aj (aL x.2.1.1 2)
 (ab (zt (x.1,x.2.1.2.2.1,())) λa=>some (a.1,a.2.1,()))
 (aj (aL x.2.1.1 3)
 (ab (Cu (x.1,x.2.1.2.2.1,())) λa=>some (x.1,a.1,()))
 (aj (aL x.2.1.1 4)
 (ab (xN (x.1,x.2.1.2.2.1,())) λa=>some (x.1,a.1,()))
 (aj (aL x.2.1.1 5)
 (ab (AE (x.1,x.2.1.2.2.1,())) λa=>some (a.1,a.2.1,()))
 (aj (aL x.2.1.1 6)
 (ab (xK (x.1,x.2.1.2.2.1,())) λa=>some (a.1,a.2.1,()))
 (aj (aL x.2.1.1 7)
 (ab (zm (x.1,x.2.1.2.2.2.1,x.2.1.2.2.2.2.1,x.2.1.2.2.2.2.2.1,x.2.1.2.2.2.2.2.2.2.1,())) λa=>some (a.1,a.2.1,()))
 (aj (aL x.2.1.1 8)
 (ab (zn (x.1,x.2.1.2.2.1,())) λa=>some (a.1,a.2.1,()))
 (aj (aL x.2.1.1 11)
 (ab (p8 (x.1,x.2.1.2.2.2.1,x.2.1.2.2.2.2.1,x.2.1.2.2.2.2.2.1,x.2.1.2.2.2.2.2.2.2.1,())) λa=>some (a.1,a.2.1,()))
 (aj (aL x.2.1.1 12)
 (ab (A1 (x.1,x.2.1.2.2.1,())) λa=>some (a.1,a.2.1,()))
 (aj (((aj (aL x.2.1.1 9)
 ((aL x.2.1.1 9,()),())
 ((aL x.2.1.1 10,()),())).1).1)
 (ab (Ft (x.1,x.2.1,())) λa=>some (a.1,a.2.1,()))
 (aj (((aj (aL x.2.1.1 13)
 ((aL x.2.1.1 13,()),())
 ((((aj (aL x.2.1.1 14)
 ((aL x.2.1.1 14,()),())
 ((aL x.2.1.1 15,()),())).1).1,()),())).1).1)
 (ab (A2 (x.1,x.2.1,())) λa=>some (a.1,a.2.1,()))
 (ab (eB ((1:Int),())) λa=>some (x.1,a.1,())))))))))))))
def fM(x:cl×(List gA)×ai)(a:(ai×Int×ai)×(List kR)×cl×ai):Option (YN⊕YN) :=
 cA (aj (aO a.1.2.1<|len x.2.1)
 (ab (idx x.2.1 a.1.2.1) λc=>ab (eH (a.2.2.1,c,())) λb=>aj (fits<|plus (len a.2.1)<|len ([b.2.1]:List kR))
 (some<|Sum.inl (((),ax i64 a.1.2.1 1,()),app a.2.1 ([b.2.1]:List kR),b.1,()))
 none)
 (some<|Sum.inr (0,((),a.1.2.1,()),a.2.1,a.2.2.1,())))
def vQ(x:cl×(List gA)×ai):Option (cl×(List kR)×ai) :=
 ab (Loop (fM x) (((),(0:Int),()),([]:List kR),x.1,())) (λa=>some (a.2.2.1,a.2.1,()))
def yJ(x:(List kR)×(List kR)×ai)(a:tJ×ai):Option ((tJ×ai)⊕Kc) :=
 aj (aj (aO a.1.2.1<|len x.1)
 (aO a.1.2.1<|len x.2.1)
 false)
 (ab (idx x.1 a.1.2.1) λb=>ab (idx x.2.1 a.1.2.1) λc=>aj (nt<|an (aL b.1 c.1)<|an (bz b.2.1 c.2.1)<|an (aL b.2.2.1 c.2.2.1)<|an (bz b.2.2.2.1 c.2.2.2.1) true)
 (some<|Sum.inr (1,(false,a.1.2.1,()),()))
 (some<|Sum.inl ((a.1.1,ax i64 a.1.2.1 1,()),())))
 (some<|Sum.inr (0,(a.1.1,a.1.2.1,()),()))
def jM(x:(List kR)×(List kR)×ai):Option (Bool×ai) :=
 aj (nt<|aL (len x.1)<|len x.2.1)
 (some (false,()))
 (ab (Loop (yJ x) ((false,(0:Int),()),())) λa=>aj (cR a.1 0)
 (some (true,()))
 (some (a.2.1.1,())))
def jN(x:(List<|Int)×(List<|Int)×ai)(a:tJ×ai):Option ((tJ×ai)⊕Kc) :=
 aj (aj (aO a.1.2.1<|len x.1)
 (aO a.1.2.1<|len x.2.1)
 false)
 (ab (idx x.1 a.1.2.1) λb=>ab (idx x.2.1 a.1.2.1) λc=>aj (nt<|aL b c)
 (some<|Sum.inr (1,(false,a.1.2.1,()),()))
 (some<|Sum.inl ((a.1.1,ax i64 a.1.2.1 1,()),())))
 (some<|Sum.inr (0,(a.1.1,a.1.2.1,()),()))
def gT(x:(List<|Int)×(List<|Int)×ai):Option (Bool×ai) :=
 aj (nt<|aL (len x.1)<|len x.2.1)
 (some (false,()))
 (ab (Loop (jN x) ((false,(0:Int),()),())) λa=>aj (cR a.1 0)
 (some (true,()))
 (some (a.2.1.1,())))
def lP(x:ai):Option (Bool×ai) :=
 ab (vQ ((([]:List kj),([]:List Hm),([]:List yI),([]:List Sb),([]:List (Sb×Int×ai)),()),([((1:Int),(0:Int),([]:aq),([]:aq),([([98,97,115,101]:aq)]:List Sb),([]:aq),([]:aq),(1:Int),()),((7:Int),(0:Int),([]:aq),([98,97,115,101]:aq),([([119,101,98]:aq)]:List Sb),([]:aq),([]:aq),(2:Int),()),((11:Int),(0:Int),([]:aq),([119,101,98]:aq),([]:List Sb),([]:aq),([]:aq),(67108867:Int),()),((2:Int),(0:Int),([98,97,115,101]:aq),([]:aq),([]:List Sb),([]:aq),([]:aq),(0:Int),()),((9:Int),(2:Int),([119,101,98]:aq),([]:aq),([]:List Sb),([118]:aq),([107]:aq),(0:Int),()),((10:Int),(2:Int),([48]:aq),([]:aq),([]:List Sb),([]:aq),([107]:aq),(0:Int),()),((15:Int),(3:Int),([]:aq),([]:aq),([]:List Sb),([]:aq),([]:aq),(0:Int),()),((99:Int),(0:Int),([]:aq),([]:aq),([]:List Sb),([]:aq),([]:aq),(0:Int),())]:List gA),())) (λc=>ab (sg (c.1,())) λd=>ab (aj d.1
 (ab (jM (c.2.1,([((0:Int),([48,48,48,48,48,49]:aq),(0:Int),([]:aq),()),((0:Int),([48,48,48,48,48,50]:aq),(0:Int),([]:aq),()),((0:Int),([48,48,48,48,48,51]:aq),(0:Int),([48,48,48,48,48,52]:aq),()),((7:Int),([]:aq),(0:Int),([]:aq),()),((0:Int),([48,48,48,48,48,50]:aq),(0:Int),([]:aq),()),((0:Int),([48,48,48,48,48,50]:aq),(0:Int),([118]:aq),()),((0:Int),([]:aq),(0:Int),([48,48,48,48,48,49,32,98,97,115,101,10,48,48,48,48,48,52,10]:aq),()),((1:Int),([]:aq),(0:Int),([]:aq),())]:List kR),())) λa=>some a.1)
 (some false)) λa=>ab (aj a
 (ab (fB (((7:Int),(0:Int),([]:aq),([]:aq),([]:List Sb),([]:aq),([]:aq),(0:Int),()),())) λb=>ab (gT (b.1,([(2:Int),3]:List (Int)),())) λe=>some e.1)
 (some false)) λb=>some (b,()))
def rG(x:gA×ai):Option (Bool×ai) :=
 ab (aj (aj (aj (aj (ca (len x.1.2.2.1) 100)
 (ca (len x.1.2.2.2.1) 100)
 false)
 (ca (len x.1.2.2.2.2.2.1) 8704)
 false)
 (ca (len x.1.2.2.2.2.2.2.1) 100)
 false)
 (ab (na (x.1.2.2.2.2.1,())) λa=>some a.1)
 (some false)) (λa=>some (a,()))
def lQ(x:gA×ai):Option ((List<|Int)×ai) :=
 aj (((aj (aL x.1.1 2)
 ((aL x.1.1 2,()),())
 ((((aj (aL x.1.1 11)
 ((aL x.1.1 11,()),())
 ((aL x.1.1 12,()),())).1).1,()),())).1).1)
 (some (([(1:Int),2,3]:List (Int)),()))
 (aj (aL x.1.1 7)
 (some (([(2:Int),3]:List (Int)),()))
 (aj (aL x.1.1 8)
 (some (([(1:Int),2]:List (Int)),()))
 (aj (((aj (aL x.1.1 1)
 ((aL x.1.1 1,()),())
 ((((aj (aL x.1.1 3)
 ((aL x.1.1 3,()),())
 ((((aj (aL x.1.1 4)
 ((aL x.1.1 4,()),())
 ((((aj (aL x.1.1 5)
 ((aL x.1.1 5,()),())
 ((aL x.1.1 6,()),())).1).1,()),())).1).1,()),())).1).1,()),())).1).1)
 (some (([(3:Int)]:List (Int)),()))
 (ab (aj (((aj (aL x.1.1 9)
 ((aL x.1.1 9,()),())
 ((aL x.1.1 10,()),())).1).1)
 (aj (aj (nt<|aL x.1.2.1 1)
 (aL x.1.2.1 2)
 true)
 (some (1,(([x.1.2.1]:List (Int)),()),()))
 (some (0,(([]:List (Int)),()),())))
 (ab (aj (((aj (aL x.1.1 13)
 ((aL x.1.1 13,()),())
 ((((aj (aL x.1.1 14)
 ((aL x.1.1 14,()),())
 ((aL x.1.1 15,()),())).1).1,()),())).1).1)
 (aj (aj (ca 1 x.1.2.1)
 (ca x.1.2.1 3)
 false)
 (some (1,(([x.1.2.1]:List (Int)),()),()))
 (some (0,(([]:List (Int)),()),())))
 (some (0,(([]:List (Int)),()),()))) λa=>aj (cR a.1 0)
 (some (0,(a.2.1.1,()),()))
 (some (1,(a.2.1.1,()),())))) λa=>aj (cR a.1 0)
 (some (([]:List (Int)),()))
 (some (a.2.1.1,()))))))
def iN(x:gA×ai):Option (Bool×ai) :=
 ab (cI (([(2:Int),5,6,12]:List (Int)),x.1.1,())) (λa=>some (a.1,()))
def iO(x:gA×ai):Option (Bool×ai) :=
 some (aj (nt<|aj (nt<|aj (nt<|aL x.1.1 2)
 (aL x.1.1 5)
 true)
 (aL x.1.1 6)
 true)
 (aL x.1.1 12)
 true,())
def xO(b:(List yI)×Int×ai)(a:(ai×Int×ai)×(List Sb)×ai):Option (Ka⊕Ka) :=
 cA (aj (aO a.1.2.1<|len b.1)
 (ab (idx b.1 a.1.2.1) λc=>aj (fits<|plus (len a.2.1)<|len ([c.1]:List Sb))
 (some<|Sum.inl (((),ax i64 a.1.2.1 1,()),app a.2.1 ([c.1]:List Sb),()))
 none)
 (some<|Sum.inr (0,((),a.1.2.1,()),a.2.1,())))
def nW(x:cl×gA×ai):Option ((List Sb)×ai) :=
 ab (aj (aj (aj (aL x.2.1.1 1)
 (nt<|bz x.2.1.2.2.2.1 ([]:aq))
 false)
 (nt<|bz x.2.1.2.2.2.2.2.1 ([]:aq))
 false)
 (some (0,(([]:List Sb),x.2.1.2.2.2.1,()),()))
 (aj (aj (nt<|aL x.2.1.1 3)
 (nt<|aL x.2.1.1 4)
 false)
 (some (1,(([]:List Sb),x.2.1.2.2.1,()),()))
 (some (0,(([]:List Sb),x.2.1.2.2.1,()),())))) (λa=>aj (cR a.1 0)
 (ab (dU (x.1,a.2.1.2.1,())) λb=>aj (nt<|aL b.2.1 0)
 (some (([]:List Sb),()))
 (aj (aL x.2.1.1 3)
 (some (([b.1]:List Sb),()))
 (ab (jz (x.1.2.2.1,b.1,())) λc=>ab (Loop (xO c) (((),(0:Int),()),([]:List Sb),())) λd=>some (d.2.1,()))))
 (some (a.2.1.1,())))
def xP(b:(List yI)×Int×ai)(a:(ai×Int×ai)×(List Sb)×ai):Option (Ka⊕Ka) :=
 cA (aj (aO a.1.2.1<|len b.1)
 (ab (idx b.1 a.1.2.1) λc=>aj (fits<|plus (len a.2.1)<|len ([c.1]:List Sb))
 (some<|Sum.inl (((),ax i64 a.1.2.1 1,()),app a.2.1 ([c.1]:List Sb),()))
 none)
 (some<|Sum.inr (0,((),a.1.2.1,()),a.2.1,())))
def nX(x:cl×gA×ai):Option ((List Sb)×ai) :=
 ab (aj (aL x.2.1.1 1)
 (aj (aj (nt<|bz x.2.1.2.2.2.1 ([]:aq))
 (bz x.2.1.2.2.2.2.2.1 ([]:aq))
 true)
 (some (1,(([]:List Sb),x.2.1.2.2.1,()),()))
 (some (0,(([]:List Sb),x.2.1.2.2.2.1,()),())))
 (aj (((aj (aL x.2.1.1 3)
 ((aL x.2.1.1 3,()),())
 ((aL x.2.1.1 4,()),())).1).1)
 (some (0,(([]:List Sb),x.2.1.2.2.1,()),()))
 (some (1,(([]:List Sb),x.2.1.2.2.1,()),())))) (λa=>aj (cR a.1 0)
 (ab (tI (x.1,a.2.1.2.1,())) λb=>aj (nt<|aL b.2.1 0)
 (some (([]:List Sb),()))
 (aj (aL x.2.1.1 3)
 (some (([b.1]:List Sb),()))
 (ab (gK (x.1.2.2.1,b.1,())) λc=>ab (Loop (xP c) (((),(0:Int),()),([]:List Sb),())) λd=>some (d.2.1,()))))
 (some (a.2.1.1,())))
def vR(c:(List<|Int)×ai)(a:(Int×ai)×(List<|Bool)×ai):Option (((Int×ai)×(List<|Bool)×ai)⊕((Int×ai)×(List<|Bool)×ai)) :=
 cA (aj (aO a.1.1<|len c.1)
 (ab (idx c.1 a.1.1) λb=>aj (within b 4)
 (ab (idx a.2.1 b) λd=>ab (idx a.2.1 b) λe=>ab (idx a.2.1 b) λf=>some (Sum.inl ((ax i64 a.1.1 1,()),jF a.2.1 b true,())))
 none)
 (some<|Sum.inr (0,(a.1.1,()),a.2.1,())))
def kk(x:gA×ai):Option ((List<|Bool)×ai) :=
 ab (fB (x.1,())) (λa=>ab (Loop (vR a) (((0:Int),()),([false,false,false,false]:List (Bool)),())) λb=>some (b.2.1,()))
def lz(x:cl×gA×ai)(e:(List Sb)×ai)(a:(Int×ai)×Hl×(List Sb)×ai):Option (A0⊕A0) :=
 cA (aj (aO a.1.1<|len x.1.2.2.1)
 (ab (idx x.1.2.2.1 a.1.1) λd=>ab (aj (aO a.1.1<|len x.1.2.2.2.1)
 (ab (bI (e.1,d.1,())) λc=>some c.1)
 (some false)) λc=>ab (aj c
 (ab (idx x.1.2.2.2.1 a.1.1) λb=>aj (within a.1.1<|len a.2.2.1)
 (ab (idx a.2.2.1 a.1.1) λf=>ab (idx a.2.2.1 a.1.1) λg=>ab (idx a.2.2.1 a.1.1) λh=>some ((),(a.2.1.1,a.2.1.2.1,a.2.1.2.2.1,(),a.2.1.2.2.2.2.1,a.2.1.2.2.2.2.2),jF a.2.2.1 a.1.1 b,()))
 none)
 (some ((),(a.2.1.1,a.2.1.2.1,a.2.1.2.2.1,(),a.2.1.2.2.2.2.1,a.2.1.2.2.2.2.2),a.2.2.1,()))) λb=>some (Sum.inl ((ax i64 a.1.1 1,()),(b.2.1.1,b.2.1.2.1,b.2.1.2.2.1,(),b.2.1.2.2.2.2.1,b.2.1.2.2.2.2.2),b.2.2.1,())))
 (some<|Sum.inr (0,(a.1.1,()),(a.2.1.1,a.2.1.2.1,a.2.1.2.2.1,(),a.2.1.2.2.2.2.1,a.2.1.2.2.2.2.2),a.2.2.1,())))
def tK(x:cl×gA×ai):Option (cl×ai) :=
 ab (kk (x.2.1,())) (λe=>ab (nW (x.1,x.2.1,())) λg=>aj (within 1 4)
 (ab (idx e.1 (1:Int)) λh=>ab (aj h
 (ab (cZ (x.1.1,())) λd=>some ((),(d.1,([]:List Hm),([]:List yI),([]:List Sb),([]:List (Sb×Int×ai)),()),()))
 (some ((),(([]:List kj),([]:List Hm),([]:List yI),([]:List Sb),([]:List (Sb×Int×ai)),()),()))) λd=>aj (within 2 4)
 (ab (idx e.1 (2:Int)) λi=>ab (aj i
 (ab (bJ (x.1.2.1,())) λb=>some ((),(d.2.1.1,b.1,d.2.1.2.2),()))
 (some ((),d.2.1,()))) λb=>ab (iN (x.2.1,())) λj=>ab (aj j.1
 (ab (bK (x.1.2.2.2.2.1,())) λc=>some ((),(b.2.1.1,b.2.1.2.1,b.2.1.2.2.1,b.2.1.2.2.2.1,c.1,b.2.1.2.2.2.2.2),()))
 (some ((),b.2.1,()))) λc=>aj (within 3 4)
 (ab (idx e.1 (3:Int)) λk=>aj k
 (ab (bt (x.1.2.2.1,())) λf=>aj (inside 0 (len x.1.2.2.1)<|len x.1.2.2.1)
 (aj (fits<|len x.1.2.2.1)
 (ab (Loop (lz x g) (((0:Int),()),(c.2.1.1,c.2.1.2.1,f.1,(),c.2.1.2.2.2.2.1,c.2.1.2.2.2.2.2),iB (len x.1.2.2.1) ([]:aq),())) λa=>some ((a.2.1.1,a.2.1.2.1,a.2.1.2.2.1,a.2.2.1,a.2.1.2.2.2.2.1,a.2.1.2.2.2.2.2),()))
 none)
 none)
 (some (c.2.1,())))
 none)
 none)
 none)
def p9(x:(List<|Int)×Int×ai)(a:tJ×ai):Option ((tJ×ai)⊕Kc) :=
 aj (aO a.1.2.1<|len x.1)
 (ab (idx x.1 a.1.2.1) λb=>aj (aL b x.2.1)
 (some<|Sum.inr (1,(true,a.1.2.1,()),()))
 (some<|Sum.inl ((a.1.1,ax i64 a.1.2.1 1,()),())))
 (some<|Sum.inr (0,(a.1.1,a.1.2.1,()),()))
def jl(x:(List<|Int)×Int×ai):Option (Bool×ai) :=
 ab (Loop (p9 x) ((false,(0:Int),()),())) (λa=>aj (cR a.1 0)
 (some (false,()))
 (some (a.2.1.1,())))
def rH(x:(List Sb)×Sb×ai)(a:tJ×ai):Option ((tJ×ai)⊕Kc) :=
 aj (aO a.1.2.1<|len x.1)
 (ab (idx x.1 a.1.2.1) λb=>aj (bz b x.2.1)
 (some<|Sum.inr (1,(true,a.1.2.1,()),()))
 (some<|Sum.inl ((a.1.1,ax i64 a.1.2.1 1,()),())))
 (some<|Sum.inr (0,(a.1.1,a.1.2.1,()),()))
def yK(x:(List Sb)×Sb×ai):Option (Bool×ai) :=
 ab (Loop (rH x) ((false,(0:Int),()),())) (λa=>aj (cR a.1 0)
 (some (false,()))
 (some (a.2.1.1,())))
def lA(x:cl×gA×ai)(e:(List Sb)×ai)(a:(Int×ai)×Hl×(List Sb)×ai):Option (A0⊕A0) :=
 cA (aj (aO a.1.1<|len x.1.2.2.1)
 (ab (idx x.1.2.2.1 a.1.1) λc=>ab (yK (e.1,c.1,())) λd=>ab (aj (aj d.1
 (aO a.1.1<|len x.1.2.2.2.1)
 false)
 (ab (idx x.1.2.2.2.1 a.1.1) λb=>some ((b,()),()))
 (some ((([]:aq),()),()))) λb=>aj (fits<|plus (len a.2.2.1)<|len ([b.1.1]:List Sb))
 (some<|Sum.inl ((ax i64 a.1.1 1,()),(a.2.1.1,a.2.1.2.1,a.2.1.2.2.1,(),a.2.1.2.2.2.2.1,a.2.1.2.2.2.2.2),app a.2.2.1 ([b.1.1]:List Sb),()))
 none)
 (some<|Sum.inr (0,(a.1.1,()),(a.2.1.1,a.2.1.2.1,a.2.1.2.2.1,(),a.2.1.2.2.2.2.1,a.2.1.2.2.2.2.2),a.2.2.1,())))
def tL(x:cl×gA×ai):Option (cl×ai) :=
 ab (lQ (x.2.1,())) (λe=>ab (jl (e.1,(1:Int),())) λf=>ab (aj f.1
 (some ((),(x.1.1,([]:List Hm),([]:List yI),(),([]:List (Sb×Int×ai)),()),([]:List Sb),()))
 (some ((),(([]:List kj),([]:List Hm),([]:List yI),(),([]:List (Sb×Int×ai)),()),([]:List Sb),()))) λb=>ab (jl (e.1,(2:Int),())) λg=>ab (aj g.1
 (some ((),(b.2.1.1,x.1.2.1,b.2.1.2.2.1,(),b.2.1.2.2.2.2.1,b.2.1.2.2.2.2.2),b.2.2.1,()))
 (some ((),(b.2.1.1,b.2.1.2.1,b.2.1.2.2.1,(),b.2.1.2.2.2.2.1,b.2.1.2.2.2.2.2),b.2.2.1,()))) λc=>ab (iO (x.2.1,())) λh=>ab (aj h.1
 (some ((),(c.2.1.1,c.2.1.2.1,c.2.1.2.2.1,(),x.1.2.2.2.2.1,c.2.1.2.2.2.2.2),c.2.2.1,()))
 (some ((),(c.2.1.1,c.2.1.2.1,c.2.1.2.2.1,(),c.2.1.2.2.2.2.1,c.2.1.2.2.2.2.2),c.2.2.1,()))) λd=>ab (jl (e.1,(3:Int),())) λi=>aj (nt i.1)
 (some ((d.2.1.1,d.2.1.2.1,d.2.1.2.2.1,d.2.2.1,d.2.1.2.2.2.2.1,d.2.1.2.2.2.2.2),()))
 (ab (nX (x.1,x.2.1,())) λj=>ab (Loop (lA x j) (((0:Int),()),(d.2.1.1,d.2.1.2.1,x.1.2.2.1,(),d.2.1.2.2.2.2.1,d.2.1.2.2.2.2.2),d.2.2.1,())) λa=>some ((a.2.1.1,a.2.1.2.1,a.2.1.2.2.1,a.2.2.1,a.2.1.2.2.2.2.1,a.2.1.2.2.2.2.2),())))
def lB(x:cl×gA×cl×ai)(a:(Int×ai)×Hl×(List Sb)×ai):Option (A0⊕A0) :=
 cA (aj (aO a.1.1<|len x.2.2.1.2.2.1)
 (ab (idx x.2.2.1.2.2.1 a.1.1) λd=>ab (gL (x.1,d.1,())) λc=>ab (aj c.2.2.1
 (aj (within a.1.1<|len a.2.2.1)
 (ab (idx a.2.2.1 a.1.1) λb=>ab (idx a.2.2.1 a.1.1) λe=>ab (idx a.2.2.1 a.1.1) λf=>some ((),(a.2.1.1,a.2.1.2.1,a.2.1.2.2.1,(),a.2.1.2.2.2.2.1,a.2.1.2.2.2.2.2),jF a.2.2.1 a.1.1 c.2.1,()))
 none)
 (some ((),(a.2.1.1,a.2.1.2.1,a.2.1.2.2.1,(),a.2.1.2.2.2.2.1,a.2.1.2.2.2.2.2),a.2.2.1,()))) λb=>some (Sum.inl ((ax i64 a.1.1 1,()),(b.2.1.1,b.2.1.2.1,b.2.1.2.2.1,(),b.2.1.2.2.2.2.1,b.2.1.2.2.2.2.2),b.2.2.1,())))
 (some<|Sum.inr (0,(a.1.1,()),(a.2.1.1,a.2.1.2.1,a.2.1.2.2.1,(),a.2.1.2.2.2.2.1,a.2.1.2.2.2.2.2),a.2.2.1,())))
def tM(x:cl×gA×cl×ai):Option (cl×ai) :=
 ab (kk (x.2.1,())) (λe=>aj (within 1 4)
 (ab (idx e.1 (1:Int)) λf=>ab (aj f
 (ab (cZ (x.2.2.1.1,())) λd=>some ((),(d.1,x.1.2),()))
 (some ((),x.1,()))) λd=>aj (within 2 4)
 (ab (idx e.1 (2:Int)) λg=>ab (aj g
 (ab (bJ (x.2.2.1.2.1,())) λb=>some ((),(d.2.1.1,b.1,d.2.1.2.2),()))
 (some ((),d.2.1,()))) λb=>ab (iN (x.2.1,())) λh=>ab (aj h.1
 (ab (bK (x.2.2.1.2.2.2.2.1,())) λc=>some ((),(b.2.1.1,b.2.1.2.1,b.2.1.2.2.1,b.2.1.2.2.2.1,c.1,b.2.1.2.2.2.2.2),()))
 (some ((),b.2.1,()))) λc=>aj (within 3 4)
 (ab (idx e.1 (3:Int)) λi=>aj i
 (ab (bt (x.2.2.1.2.2.1,())) λj=>aj (inside 0 (len x.2.2.1.2.2.1)<|len x.2.2.1.2.2.1)
 (aj (fits<|len x.2.2.1.2.2.1)
 (ab (Loop (lB x) (((0:Int),()),(c.2.1.1,c.2.1.2.1,j.1,(),c.2.1.2.2.2.2.1,c.2.1.2.2.2.2.2),over (iB (len x.2.2.1.2.2.1) ([]:aq)) (0:Int)<|@gC Sb x.2.2.1.2.2.2.1<|len<|iB (len x.2.2.1.2.2.1) ([]:aq),())) λa=>some ((a.2.1.1,a.2.1.2.1,a.2.1.2.2.1,a.2.2.1,a.2.1.2.2.2.2.1,a.2.1.2.2.2.2.2),()))
 none)
 none)
 (some (c.2.1,())))
 none)
 none)
 none)
def lC(x:cl×gA×cl×ai)(a:(Int×ai)×Hl×(List Sb)×ai):Option (A0⊕A0) :=
 cA (aj (aO a.1.1<|len x.2.2.1.2.2.1)
 (ab (idx x.2.2.1.2.2.1 a.1.1) λd=>ab (rE (x.1,d.1,())) λc=>ab (aj (nt c.2.2.1)
 (ab (aj (aO a.1.1<|len x.2.2.1.2.2.2.1)
 (ab (idx x.2.2.1.2.2.2.1 a.1.1) λb=>some ((b,()),()))
 (some ((([]:aq),()),()))) λb=>some ((b.1.1,()),()))
 (some ((c.2.1,()),()))) λb=>aj (fits<|plus (len a.2.2.1)<|len ([b.1.1]:List Sb))
 (some<|Sum.inl ((ax i64 a.1.1 1,()),(a.2.1.1,a.2.1.2.1,a.2.1.2.2.1,(),a.2.1.2.2.2.2.1,a.2.1.2.2.2.2.2),app a.2.2.1 ([b.1.1]:List Sb),()))
 none)
 (some<|Sum.inr (0,(a.1.1,()),(a.2.1.1,a.2.1.2.1,a.2.1.2.2.1,(),a.2.1.2.2.2.2.1,a.2.1.2.2.2.2.2),a.2.2.1,())))
def tN(x:cl×gA×cl×ai):Option (cl×ai) :=
 ab (lQ (x.2.1,())) (λd=>ab (jl (d.1,(1:Int),())) λf=>ab (aj f.1
 (some ((),(x.2.2.1.1,x.1.2),()))
 (some ((),x.1,()))) λe=>ab (jl (d.1,(2:Int),())) λg=>ab (aj g.1
 (some ((),(e.2.1.1,x.2.2.1.2.1,e.2.1.2.2),()))
 (some ((),e.2.1,()))) λa=>ab (iO (x.2.1,())) λh=>ab (aj h.1
 (some ((),(a.2.1.1,a.2.1.2.1,a.2.1.2.2.1,a.2.1.2.2.2.1,x.2.2.1.2.2.2.2.1,a.2.1.2.2.2.2.2),()))
 (some ((),a.2.1,()))) λc=>ab (jl (d.1,(3:Int),())) λi=>aj (nt i.1)
 (some (c.2.1,()))
 (ab (Loop (lC x) (((0:Int),()),(c.2.1.1,c.2.1.2.1,x.2.2.1.2.2.1,(),c.2.1.2.2.2.2.1,c.2.1.2.2.2.2.2),([]:List Sb),())) λb=>some ((b.2.1.1,b.2.1.2.1,b.2.1.2.2.1,b.2.2.1,b.2.1.2.2.2.2.1,b.2.1.2.2.2.2.2),())))
def ic(x:cl×cl×gA×ai):Option (Bool×ai) :=
 ab (sf (x.1,())) (λm=>ab (aj (nt<|nt m.1)
 (ab (sf (x.2.1,())) λa=>some (nt a.1))
 (some true)) λa=>ab (aj (nt a)
 (ab (rG (x.2.2.1,())) λb=>some (nt b.1))
 (some true)) λb=>aj b
 (ab (lP ()) λc=>some (c.1,()))
 (ab (fB (x.2.2.1,())) λc=>ab (lQ (x.2.2.1,())) λn=>ab (gT (c.1,n.1,())) λo=>aj o.1
 (ab (iN (x.2.2.1,())) λp=>ab (iO (x.2.2.1,())) λq=>aj (eqB p.1 q.1)
 (ab (nW (x.1,x.2.2.1,())) λr=>ab (nX (x.1,x.2.2.1,())) λd=>ab (dH (r.1,d.1,())) λe=>aj e.1
 (ab (tK (x.1,x.2.2.1,())) λf=>ab (tL (x.1,x.2.2.1,())) λg=>ab (pZ (f.1,g.1,())) λh=>aj h.1
 (ab (tM (x.1,x.2.2.1,x.2.1,())) λi=>ab (tN (x.1,x.2.2.1,x.2.1,())) λj=>ab (pZ (i.1,j.1,())) λk=>aj k.1
 (ab (lP ()) λl=>some (l.1,()))
 (some (false,())))
 (some (false,())))
 (some (false,())))
 (some (false,())))
 (some (false,()))))
end Go.Ge
namespace Go.Ge
variable [Lp]
theorem uZ(l:List Tx)(h:l.length<=4294967296):dH (l,l,())=some (true,()):=by rw[I0 l l h,cd rfl]
theorem MA(l:List Item)(h:G7 l):fU (l,l,())=some (true,()):=L3 l (by have:=h.1;omega)
theorem yL(a:Tx):bz a a=true:=cd rfl
theorem BH{b:Type}{f:(Bool×Int×ai)×ai->Option (((Bool×Int×ai)×ai)⊕(Nat×(Bool×Int×ai)×ai))}(l:List b)(e:l.length<=1000000)
  (c:∀(i:Nat) (x:b),l[i]?=some x->x∈l->i<l.length->f ((false,(i:Int),()),())=some (.inl ((false,ax .i64 (i:Int) 1,()),()))) (d:f ((false,(l.length:Int),()),())=some (.inr (0,(false,(l.length:Int),()),()))) :
  Loop f ((false,(0:Int),()),())=some (0,(false,(l.length:Int),()),()) :=
 cq l.length (λj:Nat=>((false,(j:Int),()),())) (λj a=>by
  have hx:l[j]?=some l[j]:=jE a;rw[c j l[j] hx (List.getElem_mem a) a,aT (by omega)]) d
theorem Xj(l:List Dk)(b:l.length<=1000000)(h:∀x∈l,uK x.2.1/\G7 x.2.2.2.2.2.1):l6 (l,l,())=some (true,()):=by
 unfold l6;dsimp only;rw[nO,aH,af,BH (f:=jk (l,l,())) l b (λi x c a d=>by
  unfold jk;dsimp only;rw[au d,ae,az c,aa,aa];simp only[yL,ae,af,aH,aA,aa,uZ _ (h x a).1.small,MA _ (h x a).2]) (by unfold jk;dsimp only;rw[aB,af];rfl),aa]
 rfl
theorem UN(l:List qH)(b:l.length<=1000000)(h:∀x∈l,uK x.2.1/\G7 x.2.2.2.2.1):kN (l,l,())=some (true,()):=by
 unfold kN;dsimp only;rw[nO,aH,af,BH (f:=iu (l,l,())) l b (λi x c a d=>by
  unfold iu;dsimp only;rw[au d,ae,az c,aa,aa];simp only[yL,ae,af,aH,aA,aa,uZ _ (h x a).1.small,MA _ (h x a).2]) (by unfold iu;dsimp only;rw[aB,af];rfl),aa]
 rfl
theorem UO(l:List ay)(a:l.length<=1000000)(h:∀x∈l,x.2.2.1.length<=4294967296):kO (l,l,())=some (true,()):=by
 unfold kO;dsimp only;rw[nO,aH,af,BH (f:=iv (l,l,())) l a (λi x b c d=>by
  unfold iv;dsimp only;rw[au d,ae,az b,aa,aa];have eb:eqB x.2.2.2.2.2.2.1 x.2.2.2.2.2.2.1=true:=by unfold eqB;simp
  simp only[yL,nO,eb,ae,af,aH,aA,aa,uZ _ (h x c)]) (by unfold iv;dsimp only;rw[aB,af];rfl),aa]
 rfl
theorem UP(l:List DF)(a:l.length<=1000000):kP (l,l,())=some (true,()):=by
 unfold kP;dsimp only;rw[nO,aH,af,BH (f:=iw (l,l,())) l a (λi x b d c=>by
  unfold iw;dsimp only;rw[au c,ae,az b,aa,aa];simp only[yL,nO,ae,af,aH,aA];rfl) (by unfold iw;dsimp only;rw[aB,af];rfl),aa]
 rfl
theorem OkS.upL{s:bh}(h:OkS s):FR (·.1) s.2.2.1:=by
 have:=h.l.ids;unfold aeQ at this;simpa [FR] using this
theorem MB:¬Um []:=λh=>by have:=h.2;cases this
structure BkS (s:bh):Prop where
 il:∀x∈s.2.1,x.1.length<=1048576/\x.2.2.1.length<=1048576
 bl:∀x∈s.1,x.1.length<=1048576/\x.2.2.1.length<=1048576/\x.2.2.2.1.length<=1048576
 dg:∀x∈s.2.2.1,x.2.2.2.1.length<=1048576
end Go.Ge
namespace Go.Ge
abbrev adw:Ty:=.pair .str (.pair .str<|.pair .str .unit)
abbrev ah6:Ty:=.pair .str (.pair (.slice .str)<|.pair .str<|.pair .str<|.pair .str<|.pair (.slice adw) .unit)
abbrev ae8:Ty:=.pair .str (.pair (.slice .str)<|.pair .str<|.pair .str<|.pair (.slice adw) .unit)
abbrev ae9:Ty:=.pair .str (.pair .str<|.pair (.slice .str)<|.pair .str<|.pair (.int .i64)<|.pair (.int .i64)<|.pair .bool .unit)
abbrev afa:Ty:=.pair .str (.pair (.int .i64) .unit)
abbrev aiF:Ty:=.pair (.slice ah6) (.pair (.slice ae8)<|.pair (.slice ae9)<|.pair (.slice .str)<|.pair (.slice afa) .unit)
variable [Lp]
theorem FR.idx{α:Type}{a:α->Tx}{l:List α}(h:FR a l){i j:Nat}{x y:α}(f:l[i]?=some x)(g:l[j]?=some y)(e:a x=a y):i=j:=by
 unfold FR at h;rw[abn] at h;obtain⟨b,rfl⟩:=ix.1 f;obtain⟨c,rfl⟩:=ix.1 g;have d:=Ng.1 h;rcases SH i j with q|q|q
 .have:=d i j b c q;rw[e,mx] at this;cases this
 .exact q
 .have:=d j i c b q;rw[e,mx] at this;cases this
theorem RU{a:List ay}(d:FR (·.1) a){i:Nat}{x:ay}(b:a[i]?=some x):Hg a x.1=some i:=by
 obtain⟨j,c⟩:=YK.2 ⟨x,iy b,rfl⟩;obtain⟨y,e,f⟩:=DL c;rw[c,d.idx e b f]
theorem agI{a:List ay}{id:Tx}(h:∀x∈a,x.1≠id):Hg a id=none:=Fm λi x b=>dL (h x<|iy b)
theorem A3{ls:List ay}{id:Tx}(h:∀x∈ls,x.1≠id)(n:Nat)(a:List ay):BG ls n id a=([],3):=by
 unfold BG;rw[agI h]
theorem MC{a:List ay}(c:FR (·.1) a){x:ay}(d:x∈a)(b:List ay):BG a 0 x.1 b=([],5):=by
 obtain⟨i,e⟩:=bR.1 d;unfold BG;rw[RU c e]
theorem sn{ls:List ay}(c:FR (·.1) ls){x:ay}(d:x∈ls)(n:Nat)(a:List ay):BG ls (n+1) x.1 a=if x.2.1=[] then(a++[x],0) else BG ls n x.2.1 (a++[x]):=by
 obtain⟨i,b⟩:=bR.1 d
 conv=>lhs;unfold BG
 rw[RU c b];dsimp only;rw[b]
theorem afb{ls c:List ay}(g:FR (·.1) ls)(d:FR (·.1) c){q:Tx}(h:∀x:ay,x.1≠q->(x∈c↔x∈ls))(i:∀x∈ls,x.2.1=[]\/x.2.1≠q) :
  ∀(n:Nat) (id:Tx) (acc:List ay),id≠q->BG c n id acc=BG ls n id acc:=by
 intro n;induction n with
 | zero =>
   intro id acc b;by_cases hx:∃x∈ls,x.1=id
   .obtain⟨x,hx,rfl⟩:=hx;rw[MC g hx,MC d ((h x b).2 hx)]
   .rw[A3<|λx a e=>hx ⟨x,a,e⟩,A3 λx a e=>hx ⟨x,(h x<|by rw[e];exact b).1 a,e⟩]
 | succ n j =>
   intro id acc b;by_cases hx:∃x∈ls,x.1=id
   .obtain⟨x,hx,rfl⟩:=hx;rw[sn g hx,sn d ((h x b).2 hx)];by_cases f:x.2.1=[]
    .rw[bd f,bd f]
    .rw[bb f,bb f,j _ _ ((i x hx).resolve_left f)]
   .rw[A3<|λx a e=>hx ⟨x,a,e⟩,A3 λx a e=>hx ⟨x,(h x<|by rw[e];exact b).1 a,e⟩]
theorem aaw{ls:List ay}(d:FR (·.1) ls):∀(n:Nat) (id:Tx) (acc:List ay),(BG ls n id acc).2=0 ->
  ∃c,(BG ls n id acc).1=acc++c/\∀(m:Nat) (a:List ay),c.length<=m->BG ls m id a=(a++c,0):=by
 intro n;induction n with
 | zero =>
   intro id acc h;by_cases hx:∃x∈ls,x.1=id
   .obtain⟨x,hx,rfl⟩:=hx;rw[MC d hx] at h;cases h
   .rw[A3 λx b e=>hx ⟨x,b,e⟩] at h;cases h
 | succ n i =>
   intro id acc h;by_cases hx:∃x∈ls,x.1=id
   .obtain⟨x,hx,rfl⟩:=hx;rw[sn d hx] at h⊢;by_cases f:x.2.1=[]
    .rw[bd f] at h⊢;refine⟨[x],rfl,λm a g=>?_⟩;cases m with
     | zero=>cases g
     | succ m=>rw[sn d hx,bd f]
    .rw[bb f] at h⊢;obtain⟨c,j,k⟩:=i _ _ h;refine⟨x::c,by rw[j];simp,λm a g=>?_⟩;cases m with
     | zero=>cases g
     | succ m =>
       rw[sn d hx,bb f,k m _ (by simpa using g)];simp
   .rw[A3 λx b e=>hx ⟨x,b,e⟩] at h;cases h
theorem aax{a:List ay}(c:FR (·.1) a){x:ay}(d:x∈a)(h:(bw a x.1).2=0):x.2.1=[]\/∃y∈a,y.1=x.2.1:=by
 unfold bw at h;rw[sn c d] at h;by_cases b:x.2.1=[]
 .exact .inl b
 .rw[bb b] at h;right;apply SA;intro q;rw[A3 λy f e=>q ⟨y,f,e⟩] at h;cases h
def AtD(ls:List ay)(a:List Tx)(x:ay)(d:Tx):Prop:=∃i:Nat,ls[i]?=some x/\a[i]?=some d
theorem YO{a:List ay}{b:List Tx}{x:ay}{d:Tx}:AtD a b x d↔(x,d)∈a.zip b:=by
 unfold AtD;rw[bR];constructor
 .rintro⟨i,c,e⟩;exact⟨i,by rw[Xy];exact⟨c,e⟩⟩
 .rintro⟨i,h⟩;rw[Xy] at h;exact⟨i,h.1,h.2⟩
theorem RV{a c:List ay}{b f:List Tx}{x y:ay}{d e:Tx}(h:a.length=b.length):AtD (a++[x]++c) (b++[d]++f) y e↔(y=x/\e=d)\/AtD (a++c) (b++f) y e:=by
 rw[YO,YO,oC,oC,List.zip_append h,List.zip_append h];simp only[XC,List.zip_cons_cons,sv,fY,D0];constructor
 .rintro(q|q|q)
  .exact .inr (.inl q)
  .exact .inl q
  .exact .inr (.inr q)
 .rintro(q|q|q)
  .exact .inr (.inl q)
  .exact .inl q
  .exact .inr (.inr q)
theorem Kd{ls:List ay}{a:List Tx}(e:a.length=ls.length){x:ay}(c:x∈ls):∃d,AtD ls a x d:=by
 obtain⟨i,b⟩:=bR.1 c;have:=aG b;exact⟨a[i],i,b,jE (by omega)⟩
theorem AtD.mem{ls:List ay}{a:List Tx}{x:ay}{d:Tx}(h:AtD ls a x d):x∈ls:=by
 obtain⟨i,b,_⟩:=h;exact iy b
theorem Fu{a:List ay}{b:List Tx}(c:FR (·.1) a){x:ay}{d:Tx}(h:AtD a b x d):zJ a b x.1=d:=by
 obtain⟨i,e,f⟩:=h;unfold zJ;rw[RU c e];dsimp only;rw[f];rfl
theorem aaz{ls a:List ay}{i b:List Tx}(o:FR (·.1) ls)(f:FR (·.1) a)(p:i.length=ls.length)(j:b.length=a.length){q:Tx}
  (h:∀(x:ay) (d:Tx),x.1≠q->(AtD a b x d↔AtD ls i x d)) (s:∀x∈ls,x.2.1=[]\/x.2.1≠q) (t:(∀x∈ls,x.1≠q)\/(∀x∈a,x.1≠q)) {id:Tx} (l:id≠q) :
  bw a id=bw ls id/\lv a b id=lv ls i id:=by
 have u:∀x:ay,x.1≠q->(x∈a↔x∈ls):=λx c=>by
  constructor
  .intro k;obtain⟨d,e⟩:=Kd j k;exact((h x d c).1 e).mem
  .intro k;obtain⟨d,e⟩:=Kd p k;exact((h x d c).2 e).mem
 have m:bw a id=bw ls id:=afb o f u s 16 id [] l;refine⟨m,?_⟩;unfold lv;rw[m];have:((bw ls id).1.reverse.map λx=>zJ a b x.1)=((bw ls id).1.reverse.map λx=>zJ ls i x.1):=by
  apply Qj;intro x c;rw[XM] at c;have r:=(pf (ls:=ls) (id:=id)).1 x c;have v:=(pf (ls:=a) (id:=id)).1 x (by rw[m];exact c);have n:x.1≠q:=t.elim (λg=>g x r) (λg=>g x v);obtain⟨d,e⟩:=Kd p r;rw[Fu o e,Fu f ((h x d n).2 e)]
 rw[this]
theorem adx{ls:List ay}{a:List Tx}{id:Tx}(h:(lv ls a id).2=0):(bw ls id).2=0/\lv ls a id=AY ((bw ls id).1.reverse.map λx=>zJ ls a x.1) []:=by
 unfold lv at h⊢;by_cases c:(bw ls id).2=0
 .rw[bd c];exact⟨c,rfl⟩
 .rw[bb c] at h;exact absurd h c
theorem aaA:Valid []:=Fj adf.1
theorem Hh.more{a b:List ay}{f g:List Tx}{x:ay}{d:Tx}(p:a.length=f.length)(L:FR (·.1) (a++b))(l:FR (·.1) (a++[x]++b))(r:Hh (a++b) (f++g))
  (h:∀y∈a++b,y.1≠x.1) (M:x.1≠[]) (N:x.2.1≠x.1) (s:x.2.1=[]\/((bw (a++b) x.2.1).2=0/\(bw (a++b) x.2.1).1.length<16))
  (t:x.2.2.2.2.2.2.1=true/\x.2.2.2.2.2.1=0/\x.2.2.2.2.1=(d.length:Int)/\x.2.2.2.1=nd d/\Mr d)
  (m:(oM (if x.2.1=[] then [] else(lv (a++b) (f++g) x.2.1).1) d).2=0):Hh (a++[x]++b) (f++[d]++g):=by
 have hlen:(f++g).length=(a++b).length:=r.same;have n:(f++[d]++g).length=(a++[x]++b).length:=by
  simp only[iP,Qi] at hlen⊢;omega
 have u:∀(y:ay) (e:Tx),y.1≠x.1->(AtD (a++[x]++b) (f++[d]++g) y e↔AtD (a++b) (f++g) y e):=λy e k=>by
  rw[RV p];constructor
  .rintro(q|q)
   .exact absurd (congrArg (·.1) q.1) k
   .exact q
  .exact .inr
 have O:∀y∈a++b,y.2.1≠x.1:=λy k e=>by
  rcases aax L k (r.chain y k) with q|⟨z,H,q⟩
  .exact M (e.symm.trans q)
  .exact h z H (q.trans e)
 have v:x∈a++[x]++b:=by simp
 have w:∀y∈a++[x]++b,y=x\/y∈a++b:=λy k=>by
  simp only[sv,zO] at k⊢;rcases k with (q|q)|q
  .exact .inr (.inl q)
  .exact .inl q
  .exact .inr (.inr q)
 have o:∀{id:Tx},id≠x.1->bw (a++[x]++b) id=bw (a++b) id/\lv (a++[x]++b) (f++[d]++g) id=lv (a++b) (f++g) id :=
  λ{id} P=>aaz L l hlen n u (λy k=>.inr (O y k)) (.inl h) P
 have A:zJ (a++[x]++b) (f++[d]++g) x.1=d:=Fu l ((RV p).2<|.inl ⟨rfl,rfl⟩);have key:(bw (a++[x]++b) x.1).2=0/\(lv (a++[x]++b) (f++[d]++g) x.1).2=0:=by
  by_cases B:x.2.1=[]
  .have Q:bw (a++[x]++b) x.1=([x],0):=by
    unfold bw;rw[sn l v,bd B];rfl
   rw[bd B] at m;unfold lv;rw[Q,bd rfl];refine⟨rfl,?_⟩;show(AY [zJ (a++[x]++b) (f++[d]++g) x.1] []).2=0
   rw[A];unfold AY;rw[bd m];rfl
  .rcases s with q|⟨C,V⟩
   .exact absurd q B
   rw[bb B] at m;obtain⟨T,W⟩:=o N;obtain⟨y,k,R⟩:∃y∈a++b,y.1=x.2.1:=by
    apply SA;intro q;unfold bw at C;rw[A3 λy k e=>q ⟨y,k,e⟩] at C;cases C
   have S:(lv (a++b) (f++g) x.2.1).2=0:=by
    obtain⟨i,I⟩:=bR.1 k;have:=aG I;rw[<-R];exact(r.each i y (f++g)[i] I<|jE<|by omega).2.2.2.2.2
   obtain⟨t1,J⟩:=adx S;obtain⟨c,X,Y⟩:=aaw l 16 x.2.1 [] (by have:=T;unfold bw at this C;rw[this];exact C);have D:(bw (a++b) x.2.1).1=c:=by rw[<-T];exact X
   rw[D] at V J;have Q:bw (a++[x]++b) x.1=(x::c,0):=by
    unfold bw;rw[sn l v,bb B,Y 15 _ (by omega)];rfl
   unfold lv;rw[Q,bd rfl];refine⟨rfl,?_⟩;rw[W.symm] at J m S;rw[show(x::c,(0:Int)).1=x::c from rfl,List.reverse_cons,CR,List.map_singleton,A];have E:(c.reverse.map λz=>zJ (a++[x]++b) (f++[d]++g) z.1)=(c.reverse.map λz=>zJ (a++b) (f++g) z.1):=by
    apply Qj;intro z H;rw[XM] at H;have F:z∈a++b:=(pf (ls:=a++b) (id:=x.2.1)).1 z (by rw[D];exact H);obtain⟨e,K⟩:=Kd hlen F;rw[Fu L K,Fu l ((u z e<|h z F).2 K)]
   rw[E,aar _ d [] (lv (a++[x]++b) (f++[d]++g) x.2.1).1 (Prod.ext (by rw[J])<|by rw[<-J];exact S),bd m]
 refine⟨n,λy k=>?_,λi y e I K=>?_⟩
 .rcases w y k with rfl|G
  .exact key.1
  .rw[(o<|h y G).1];exact r.chain y G
 .have Z:AtD (a++[x]++b) (f++[d]++g) y e:=⟨i,I,K⟩;rcases(RV p).1 Z with ⟨rfl,rfl⟩|⟨j,U,g2⟩
  .exact⟨t.1,t.2.1,t.2.2.1,t.2.2.2.1,t.2.2.2.2,key.2⟩
  .obtain⟨a1,a2,a3,a4,a5,a6⟩:=r.each j y e U g2;exact⟨a1,a2,a3,a4,a5,by rw[(o<|h y<|iy U).2];exact a6⟩
theorem ady:FQ (kp 1024)=([],0):=by
 unfold FQ;rw[Xa]
theorem aaB:Mr (kp 1024):=by
 unfold Mr;rw[ady];exact⟨rfl,rfl⟩
theorem afc{t:List Nd}(h:Valid t):oM t (kp 1024)=(t,0):=by
 unfold oM;rw[ady,bd rfl];unfold nx;rw[bd h];rfl
theorem AF.boxes{l:List Dk}(b:l.length<=32)(c:∀x∈l,OkB x)(d:FR (·.1) l)(e:(l.flatMap (·.2.1)).Nodup):AF 1 (0,[],[],l,()) :=
 ⟨b,by show l.length+0+0=l.length;omega,λx a=>(by cases a),λx a=>(by cases a),c,by unfold aeQ;simpa [FR] using d,by unfold aeR;simpa using e⟩
theorem AF.lays{l:List ay}(b:l.length<=32)(c:∀x∈l,OkL x)(d:FR (·.1) l)(e:(l.flatMap (·.2.2.1)).Nodup):AF 3 (0,l,[],[],()) :=
 ⟨b,by show 0+0+l.length=l.length;omega,c,λx a=>(by cases a),λx a=>(by cases a),by unfold aeQ;simpa [FR] using d,by unfold aeR;simpa using e⟩
theorem OkS.aj7{s:bh}(h:OkS s):(s.2.2.1.flatMap (·.2.2.1)).Nodup:=by
 have:=h.l.nms;unfold aeR at this;simpa using this
theorem OkS.ae7{s:bh}(h:OkS s):s.2.2.1.length<=32:=h.l.few
def Fv{a:Type}(l:List a)(k:Nat)(x:a):List a:=l.take k++[x]++l.drop k
theorem afd{a:Type}(l:List a)(k:Nat)(x:a)(b:k<=l.length)(c:l.length<=1000000):Dg l (k:Int) [x]=some (Fv l k x):=by
 unfold Dg Fv;rw[show inside 0 (k:Int) (len l)=true from aY (by decide) (by omega) (by unfold len;omega),b7 (by simp only[dW,gi];omega),rK];rfl
def adz(s:bh)(x:ay)(d:Tx):bh:=(s.1,(s.2.1,(BZ (·.1) s.2.2.1 x,Fv s.2.2.2.1 (gg (λy:ay=>y.1) s.2.2.1 x.1) d,s.2.2.2.2)))
theorem UQ(a:List ay)(b:List Tx)(x:ay)(d:Tx)(g:b.length=a.length):∃(c f:List ay) (e r2:List Tx),c.length=e.length/\a=c++f/\b=e++r2/\c.length=gg (λy:ay=>y.1) a x.1 /\
  BZ (λy:ay=>y.1) a x=c++[x]++f/\Fv b (gg (λy:ay=>y.1) a x.1) d=e++[d]++r2:=by
 have h:=Hi (λy:ay=>y.1) a x.1;refine⟨a.takeWhile<|λy=>jH y.1 x.1,a.dropWhile (λy=>jH y.1 x.1),b.take (gg (λy:ay=>y.1) a x.1),b.drop (gg (λy:ay=>y.1) a x.1),?_,(Kf).symm,(x6 _ _).symm,rfl,rfl,rfl⟩;rw[gM,sw (by omega)];rfl
theorem OkS.more{s:bh}(h:OkS s){x:ay}{d:Tx}(B:OkL x)(L:s.2.2.1.length<32)(m:∀y∈s.2.2.1,y.1≠x.1)(D:∀y∈s.2.2.1,∀n∈y.2.2.1,n∉x.2.2.1)
  (r:x.2.1=[]\/((bw s.2.2.1 x.2.1).2=0/\(bw s.2.2.1 x.2.1).1.length<16)) (M:x.2.2.2.2.2.2.1=true/\x.2.2.2.2.2.1=0/\x.2.2.2.2.1=(d.length:Int)/\x.2.2.2.1=nd d/\Mr d)
  (E:(oM (if x.2.1=[] then [] else(lv s.2.2.1 s.2.2.2.1 x.2.1).1) d).2=0):OkS (adz s x d):=by
 obtain⟨T,U,o,H,V,u⟩:=s;have I:=h.upL;have C:=h.b;have hi:=h.i;have N:=h.l;have f:=h.lays;have F:=h.aj6;have p:=h.tops;have hrefs:=h.refs;have t:=h.mts;have G:=h.ah5;have v:=h.aj7;unfold adz;dsimp only at *;have c:∀y:ay,y∈BZ (λy:ay=>y.1) o x↔y=x\/y∈o:=λy=>UK _;have g:FR (λy:ay=>y.1) (BZ (λy:ay=>y.1) o x):=ae6 _ I m;refine⟨C,hi,AF.lays ?_ ?_ g ?_,?_,F,?_,?_,?_,G⟩
 .rw[UL];omega
 .intro y e;rcases(c y).1 e with rfl|e
  .exact B
  .exact N.ll y e
 .have O:=(Hj (λy:ay=>y.1) o x).flatMap_right (λy:ay=>y.2.2.1);rw[O.nodup_iff,abl,Nl];refine⟨?_,v,λa P b C=>?_⟩
  .have:=B.nms;unfold yv at this;simp only[dF,nI] at this;exact this.1.2
  .rw[XL] at C;obtain⟨y,e,Q⟩:=C;rintro rfl;exact D y e a Q P
 .obtain⟨W,X,Y,Z,R,w,J,_,K,S⟩:=UQ o H x d f.same;show Hh (BZ (λy:ay=>y.1) o x) (Fv H (gg (λy:ay=>y.1) o x.1) d)
  rw[K] at g;rw[K,S];have j:=B.id;refine Hh.more R (by rw[<-w];exact I) g (by rw[<-w,<-J];exact f) (by rw[<-w];exact m) (λq=>?_) ?_ (by rw[<-w];exact r) M (by rw[<-w,<-J];exact E)
  .rw[q] at j;exact MB j
  .rcases B.par with q|q
   .rw[q];intro k;rw[<-k] at j;exact MB j
   .exact q.2
 .intro y e;rcases p y e with q|⟨z,A,q⟩
  .exact .inl q
  .exact .inr ⟨z,(c z).2 (.inr A),q⟩
 .intro y e;obtain⟨z,A,q⟩:=(hrefs y e).2;exact⟨(hrefs y e).1,z,(c z).2 (.inr A),q⟩
 .intro y e;obtain⟨⟨z,A,q⟩,k⟩:=t y e;exact⟨⟨z,(c z).2 (.inr A),q⟩,k⟩
theorem BdS.more{s:bh}(h:BdS s){x:ay}{d:Tx}(c:BdL x)(f:s.2.2.1.length<32)(g:d.length<=8192):BdS (adz s x d):=by
 refine⟨?_,h.il,h.bl,λy b=>?_,h.xi,h.xb,λe a=>?_,h.ml⟩
 .show(BZ (λy:ay=>y.1) s.2.2.1 x).length<=40
  rw[UL];omega
 .rcases(UK _).1 b with rfl|b
  .exact c
  .exact h.xl y b
 .have a:e∈Fv s.2.2.2.1 (gg (λy:ay=>y.1) s.2.2.1 x.1) d:=a;unfold Fv at a;rw[sv,sv,zO] at a;rcases a with (a|rfl)|a
  .exact h.dl e (Nj a)
  .exact g
  .exact h.dl e (Kk a)
def xQ(n:Nat)(ds:List Tx):List Tx:=ds.take n++List.replicate (n-ds.length) []
theorem xR(n:Nat)(ds:List Tx):(xQ n ds).length=n:=by
 unfold xQ;rw[iP,gM,Sy];omega
theorem YP{n i:Nat}{ds:List Tx}(h:i<n):(xQ n ds)[i]?=some ((ds[i]?).getD []):=by
 unfold xQ;by_cases hi:i<ds.length
 .rw[Qh<|by rw[gM];omega,gm,bd h,jE hi];rfl
 .rw[Vt<|by rw[gM];omega,gM,OY,bd (by omega),Ni (by omega)];rfl
theorem P9(s:bh)(b:s.2.2.1.length<=1000000):lO (s,())=some (xQ s.2.2.1.length s.2.2.2.1,()):=by
 unfold lO;dsimp only;rw[aY (by decide) (by unfold len;omega)<|DY _,ae,gY (by omega),ae];have a:len (iB (len s.2.2.1) ([]:Tx))=(s.2.2.1.length:Int):=by unfold len iB;rw[rK,Sy]
 rw[show @len aq=@len Tx from rfl,show @iB aq=@iB Tx from rfl,a]
 congr 1
 unfold over iB len gC xQ;rw[show((0:Int).toNat)=0 from rfl,Kq,wY,pv,rK,List.drop_replicate,gM]
 congr 2
 congr 1
 omega
def adA(s:bh)(x:ay)(d:Tx):bh:=(s.1,(s.2.1,(BZ (·.1) s.2.2.1 x,Fv (xQ s.2.2.1.length s.2.2.2.1) (gg (λy:ay=>y.1) s.2.2.1 x.1) d,s.2.2.2.2)))
theorem adB(s:bh)(x:ay)(d:Tx)(r:s.2.2.1.length<=100000):p4 (s,x,d,())=some (adA s x d,()):=by
 obtain⟨n,o,a,b,p⟩:=s;dsimp only at r;have l:=Hi (λy:ay=>y.1) a x.1;unfold p4;dsimp only;have c:=Xh (f:=ou ((n,o,a,b,p),x,d,())) (λy:ay=>y.1) a x.1 (by omega) (λi=>(((0:Int),i,()),x,())) (λi=>(1,((i:Int),(i:Int),()),x,()))
  (0,((0:Int),(a.length:Int),()),x,()) (λi y q=>by
   have hi:=aG q;unfold ou;dsimp only;rw[au hi,ae,az q,aa,aT (by omega)];cases jH y.1 x.1<;>rfl) (by unfold ou;dsimp only;rw[aB,af])
 rw[c,aa];have e:=P9 (n,o,a,b,p) (by dsimp only;omega);have g:∀k:Nat,k<=a.length->jL (xQ a.length b,(k:Int),d,())=some (Fv (xQ a.length b) k d,()):=λk l=>by
  unfold jL;dsimp only;rw[show @len aq=@len Tx from rfl,gY (by rw[xR];omega),ae];unfold er;dsimp only;rw[afd (xQ a.length b) k d (by rw[xR];omega)<|by rw[xR];omega,aa]
 have h:gz (a,((gg (λy:ay=>y.1) a x.1:Nat):Int),x,())=some (BZ (λy:ay=>y.1) a x,()):=by
  unfold gz;dsimp only;rw[gY<|by omega,ae];unfold dc;dsimp only;rw[show Dg a ((gg (λy:ay=>y.1) a x.1:Nat):Int) [x]=_ from Xg (λy:ay=>y.1) a x (by omega),aa]
 by_cases j:gg (λy:ay=>y.1) a x.1<a.length
 .rw[bd j];dsimp only;rw[show cR 1 0=false from rfl,af,aa];dsimp only;rw[e,aa,aD (by omega),af];dsimp only;rw[g _ l,aa,h,aa];rfl
 .rw[bb j];dsimp only;have m:gg (λy:ay=>y.1) a x.1=a.length:=by omega
  rw[eJ,ae,aa];dsimp only;rw[e,aa,aU (by decide),ae];dsimp only;rw[show @len (Tx×Tx×List Tx×Tx×Int×Int×Bool×ai) a=((gg (λy:ay=>y.1) a x.1:Nat):Int) from by rw[m];rfl,g _ l,aa,h,aa];rfl
theorem adC:rD ()=some (kp 1024,()):=by
 rw[show rD ()=wq ((1024:Int),()) from rfl];exact Us 1024 (by decide)
abbrev Ch1:=(List ay×Int×ai×Tx×Int×ai)×List ay×ai
theorem MD(b:List ay)(j:Tx)(u:b.length<=1000000)(p:∀x∈b,x.2.2.1.length<=4294967296)(c:List ay)(d:Int)(id:Tx)(a:List ay)(v:a.length<=16) :
  ∃i:Int,Loop (kf (b,j,())) ((c,d,(),id,(0:Int),()),a,())=some (match Hg b id with
   | none=>(0,(c,d,(),id,i,()),a,())
   | some k=>match b[k]? with
     | none=>(0,(c,d,(),id,i,()),a,())
     | some x=>if a.length=16 then(1,([],5,(),id,i,()),a,()) else if x.2.1=[] then(2,(c,d,(),id,i,()),a++[x],()) else(3,(c,d,(),x.2.1,i,()),a++[x],())):=by
 rcases qF (f:=kf (b,j,())) b (λi=>((c,d,(),id,i,()),a,())) (λ_ x=>decide (x.1=id))
  (λi x=>if a.length=16 then(1,([],5,(),id,(i:Int),()),a,()) else if x.2.1=[] then(2,(c,d,(),id,(i:Int),()),a++[x],()) else(3,(c,d,(),x.2.1,(i:Int),()),a++[x],()))
  (0,(c,d,(),id,(b.length:Int),()),a,()) (by omega) (λi x l r m=>by
   unfold kf;dsimp only;rw[au r,ae,az l,aa,p6,m];by_cases q:x.1=id
   .rw[cd q,aH,af,bd rfl,aav _ (p x<|iy l),aa];have n:aL (@len ay a) (16:Int)=decide (a.length=16):=by unfold aL len;apply ky.2;omega
    rw[n];by_cases e:a.length=16
    .rw[cd e,ae,bd e]
    .rw[dL e,af,bb e];dsimp only;rw[show fits (plus (@len ay a)<|@len ay ([(x.1,x.2.1,x.2.2.1,x.2.2.2)]:List ay))=true from b7 (by show _+1<=_;omega),ae,p6,gX];by_cases g:x.2.1=[]
     .rw[cd g,bd rfl,bd g];rfl
     .rw[dL g,bb g];rfl
   .rw[dL q,aA,ae];rfl) (by unfold kf;dsimp only;rw[aB,af]) with ⟨i,x,l,g,s,h⟩|⟨o,h⟩
 .refine⟨(i:Int),?_⟩;have t:x.1=id:=kx g;rw[Mm l t s];dsimp only;rw[l];exact h
 .refine⟨(b.length:Int),?_⟩;rw[Fm o];exact h
theorem UR{b:List ay}{id:Tx}(h:Hg b id=none)(n:Nat)(a:List ay):BG b n id a=([],3):=by
 unfold BG;rw[h]
theorem afe{b:List ay}{id:Tx}{k:Nat}(h:Hg b id=some k)(a:List ay):BG b 0 id a=([],5):=by
 unfold BG;rw[h]
theorem agJ{b:List ay}{id:Tx}{k:Nat}{x:ay}(h:Hg b id=some k)(c:b[k]?=some x)(n:Nat)(a:List ay) :
  BG b (n+1) id a=if x.2.1=[] then(a++[x],0) else BG b n x.2.1 (a++[x]):=by
 conv=>lhs;unfold BG
 rw[h];dsimp only;rw[c]
theorem US(a:List ay)(b:Tx)(l:a.length<=1000000)(m:∀x∈a,x.2.2.1.length<=4294967296):∀(n:Nat) (id:Tx) (acc:List ay),n+acc.length=16 ->
  ∃f g h,Loop (nu (a,b,())) ((([]:List ay),(0:Int),(),id,()),acc,()) =
   some (if(BG a n id acc).2=0 then(1,f,(BG a n id acc).1,()) else(0,((BG a n id acc).1,(BG a n id acc).2,g),h)):=by
 intro n;induction n with
 | zero =>
   intro id acc o;rw[aR];unfold nu;dsimp only;obtain⟨i,j⟩:=MD a b l m [] 0 id acc (by omega);rw[j,aa];cases c:Hg a id with
   | none =>
     rw[UR c];exact⟨(([]:List ay),(0:Int),(),id,()),_,_,rfl⟩
   | some k =>
     obtain⟨x,d,_⟩:=DL c;rw[afe c];dsimp only;rw[d];dsimp only;rw[bd<|by omega];exact⟨(([]:List ay),(0:Int),(),id,()),_,_,rfl⟩
 | succ n p =>
   intro id acc o;rw[aR];unfold nu;dsimp only;obtain⟨i,j⟩:=MD a b l m [] 0 id acc (by omega);rw[j,aa];cases c:Hg a id with
   | none =>
     rw[UR c];exact⟨(([]:List ay),(0:Int),(),id,()),_,_,rfl⟩
   | some k =>
     obtain⟨x,d,_⟩:=DL c;rw[agJ c d];dsimp only;rw[d];dsimp only;rw[bb<|by omega];by_cases e:x.2.1=[]
     .rw[bd e,bd e];exact⟨_,((),([]:Tx),()),(acc,()),rfl⟩
     .rw[bb e,bb e];obtain⟨f,g,h,q⟩:=p x.2.1 (acc++[x]) (by rw[iP];show n+(_+1)=16;omega);exact⟨f,g,h,q⟩
theorem ME(a:List ay)(id:Tx)(b:a.length<=1000000)(d:∀x∈a,x.2.2.1.length<=4294967296):jz (a,id,())=some ((bw a id).1,(bw a id).2,()):=by
 unfold jz;dsimp only;obtain⟨e,f,g,h⟩:=US a id b d 16 id [] rfl;rw[h,aa];unfold bw;by_cases c:(BG a 16 id []).2=0
 .rw[bd c,c];rfl
 .rw[bb c];rfl
def agK(id a:Tx)(b:List Tx):ay:=(id,a,b,nd<|kp 1024,1024,0,true,())
def nF(s:bh)(a:Tx):Tx:=if a=[] then [] else(lh (wU s) a).1
def crG(s:bh)(b:Tx)(a:List Tx)(d:Int):bh×agH×ai :=
 if sA a≠0 then(s,adv<|sA a,()) else
 if b≠[]/\(lh (wU s) b).2.1≠0 then(s,adv (lh (wU s) b).2.1,()) else
 if EW (wU s) [] a≠0 then(s,adv<|EW (wU s) [] a,()) else
 if(qM (wU s) d).2.1≠0 then(s,adv (qM (wU s) d).2.1,()) else
 if nF s b≠[]/\(bw s.2.2.1<|nF s b).2=0/\16<=(bw s.2.2.1<|nF s b).1.length then(s,adv 5,()) else
 (adA s (agK (qM (wU s) d).1 (nF s b) a)<|kp 1024,UM (qM (wU s) d).1,())
theorem zw(s:bh)(b:Tx)(a:List Tx)(d:Int)(h:Vr s)(n:a.length<=4294967296) :
  lr (s,b,a,[],d,())=some (crG s b a d):=by
 have o:=h.ll;have k:aL (0:Int) 0=true:=rfl;have es:bz ([]:aq) ([]:aq)=true:=rfl;unfold lr;dsimp only;simp only[k,es,ae,af,aH];rw[H7 a n,aa];unfold crG;dsimp only;by_cases c1:sA a=0
 rotate_left
 .rw[bd c1,aF c1];simp only[aA,ae,aa,aF c1];rfl
 rw[bb<|λq=>q c1,aW c1];simp only[aH,af,aa,k,p6];have l:(aj (nt<|decide<|b=[]) (ab (dU (s,b,())) λe=>some ((e.2.1,()),e.1,()))<|some (((0:Int),()),([]:Tx),())) =
   some (((if b=[] then 0 else(lh (wU s) b).2.1),()),nF s b,()):=by
  unfold nF;by_cases q:b=[]
  .rw[cd q,aH,af,bd q,bd q]
  .rw[dL q,aA,ae,zu s b h,aa,bb q,bb q]
 rw[show(aj (nt<|decide<|b=[]) (ab (dU (s,b,())) λe=>some ((e.2.1,()),e.1,()))<|some (((0:Int),()),([]:aq),()))=_ from l,aa];dsimp only;have c:(b≠[]/\(lh (wU s) b).2.1≠0)↔¬((if b=[] then 0 else(lh (wU s) b).2.1)=0):=by
  by_cases q:b=[]
  .simp[q]
  .simp[q]
 have f:(b≠[]/\(lh (wU s) b).2.1≠0)->(if b=[] then 0 else(lh (wU s) b).2.1)=(lh (wU s) b).2.1:=λq=>bb q.1;by_cases c2:(if b=[] then 0 else(lh (wU s) b).2.1)=0
 rotate_left
 .rw[bd<|c.2 c2,aF c2];simp only[aA,ae,aa,aF c2];rw[f<|c.2 c2];rfl
 rw[bb<|λq=>c.1 q c2,aW c2];simp only[aH,af];rw[xM s h,aa,LP (wU s) [] a (Hk h) n,aa];dsimp only;by_cases c3:EW (wU s) [] a=0
 rotate_left
 .rw[bd<|show EW (wU s) [] a≠0 from c3,aF c3];simp only[aA,ae,aa,aF c3];rfl
 rw[bb<|show ¬(EW (wU s) [] a≠0) from λq=>q c3,aW c3];simp only[aH,af,aa];rw[Z8,aa];by_cases c4:(qM (wU s) d).2.1=0
 rotate_left
 .rw[bd<|show(qM (wU s) d).2.1≠0 from c4,aF c4];simp only[aA,ae,aa,aF c4];rfl
 rw[bb<|show ¬((qM (wU s) d).2.1≠0) from λq=>q c4,aW c4];simp only[aH,af];rw[ME _ _ (by omega)<|λx p=>(h.ln x p).small,aa];dsimp only;have r:(aj (aj (aj (nt<|decide<|nF s b=[]) (aL (bw s.2.2.1<|nF s b).2 0) false) (ca 16<|len (bw s.2.2.1<|nF s b).1) false) (some (((5:Int),()),nF s b,s,()))<|some (((0:Int),()),nF s b,s,())) =
   some (((if nF s b≠[]/\(bw s.2.2.1<|nF s b).2=0/\16<=(bw s.2.2.1<|nF s b).1.length then 5 else 0),()),nF s b,s,()):=by
  have m:ca (16:Int) (len (bw s.2.2.1<|nF s b).1)=decide (16<=(bw s.2.2.1<|nF s b).1.length):=by unfold ca len;apply ky.2;omega
  rw[m,aeP];by_cases g:nF s b=[]
  .rw[cd g,aH,af,af,af,bb λq=>q.1 g]
  .rw[dL g,aA,ae];by_cases i:(bw s.2.2.1<|nF s b).2=0
   .rw[cd i,ae];by_cases j:16<=(bw s.2.2.1<|nF s b).1.length
    .rw[cd j,ae,bd ⟨g,i,j⟩]
    .rw[dL j,af,bb λq=>j q.2.2]
   .rw[dL i,af,af,bb λq=>i q.2.1]
 rw[show(aj (aj (aj (nt<|decide<|nF s b=[]) (aL (bw s.2.2.1<|nF s b).2 0) false) (ca 16<|len (bw s.2.2.1<|nF s b).1) false) (some (((5:Int),()),nF s b,s,()))<|some (((0:Int),()),nF s b,s,()))=_ from r,aa];dsimp only;by_cases c5:nF s b≠[]/\(bw s.2.2.1<|nF s b).2=0/\16<=(bw s.2.2.1<|nF s b).1.length
 .rw[bd c5,bd c5];rfl
 rw[bb c5,bb c5];simp only[k,aH,af,aa,HE,ae];rw[adC,aa,aa];dsimp only;rw[show fits (plus (@len aq [])<|@len aq a)=true from b7 (by simp only[gi];omega),ae,agx _ (by rw[uT];decide),aa];dsimp only;rw[show @app aq [] a=a from rfl,show @len UInt8 (kp 1024)=1024 from by unfold len;rw[uT];rfl];rw[show p4 (s,((qM (wU s) d).1,nF s b,a,nd<|kp 1024,(1024:Int),(0:Int),true,()),kp 1024,())=some (adA s (agK (qM (wU s) d).1 (nF s b) a)<|kp 1024,()) from adB s (agK _ _ a) (kp 1024) (by omega),aa];rfl
set_option maxRecDepth 100000
theorem N9.hd{s:bh}(h:N9 s):Vr s:=⟨h.base.ll,h.base.il,h.base.bl,h.base.ln,h.base.pn,h.base.bn,λx a=>(h.base.im x a).2⟩
structure agL (s:bh):Prop where
 bl:s.1.length<=1000000
 il:s.2.1.length<=1000000
 ll:s.2.2.1.length<=1000000
 dl:s.2.2.2.1.length<=1000000
 ml:s.2.2.2.2.1.length<=1000000
 xb:∀x∈s.1,uK x.2.1/\G7 x.2.2.2.2.2.1
 xi:∀x∈s.2.1,uK x.2.1/\G7 x.2.2.2.2.1
 xl:∀x∈s.2.2.1,uK x.2.2.1
theorem MF{s:bh}(h:agL s):pZ (s,s,())=some (true,()):=by
 unfold pZ;dsimp only;rw[Xj _ h.bl h.xb,aa];dsimp only;rw[ae,UN _ h.il h.xi,aa,aa,ae,UO _ h.ll (λx a=>(h.xl x a).small),aa,aa,ae,uZ _ (by have:=h.dl;omega),aa,aa,ae,UP _ h.ml,aa];rfl
def e0:bh:=([],[],[],[],[],())
def e5:Tx:=[48,48,48,48,48,53]
def e6:Tx:=[48,48,48,48,48,54]
def eb:Tx:=[98,97,115,101]
def L5(D:Tx):ay:=(e5,[],[eb],D,1024,0,true,())
def L6(D:Tx):ay:=(e6,e5,[],D,1024,0,true,())
def s1(D N:Tx):bh:=([],[],[L5 D],[N],[],())
def s2(D N:Tx):bh:=([],[],[L5 D,L6 D],[N,N],[],())
def s3(D N:Tx):bh:=([],[],[L5 D,L6 D],[N,N],[(e6,1,())],())
end Go.Ge
namespace Go.Ge
variable [Lp]
def wG(s:bh)(id:Tx):ay×Tx×Bool×ai:=match Hg s.2.2.1 id with
 | none=>(([],[],[],[],(0:Int),(0:Int),false,()),[],false,())
 | some i=>match s.2.2.1[i]? with
   | none=>(([],[],[],[],(0:Int),(0:Int),false,()),[],false,())
   | some x=>(x,(s.2.2.2.1[i]?).getD [],true,())
theorem ixL{f:(Int×Int×ai)×ai×Tx×ai->Option (((Int×Int×ai)×ai×Tx×ai)⊕(Nat×(Int×Int×ai)×ai×Tx×ai))}(a:List ay)(id:Tx)(o:a.length<=1000000)
  (e:∀c i:Int,f ((c,i,()),(),id,())=aj (aO i<|len a) (ab (idx a i) λy=>aj (bz y.1 id) (some<|.inr (1,(i,i,()),(),id,())) (some<|.inl ((c,ax .i64 i 1,()),(),id,()))) (some<|.inr (0,(c,i,()),(),id,()))) :
  ab (Loop f (((0:Int),(0:Int),()),(),id,())) (λb=>aj (cR b.1 0) (some (((-1:Int),()),(),b.2.2.2.1,())) (some ((b.2.1.1,()),(),b.2.2.2.1,())))=some ((Fl a id,()),(),id,()):=by
 rcases qF (f:=f) a (λj=>(((0:Int),j,()),(),id,())) (λ_ y=>decide (y.1=id)) (λi _=>(1,((i:Int),(i:Int),()),(),id,())) (0,((0:Int),(a.length:Int),()),(),id,()) (by omega) (λi y d g k=>by
  rw[e,au g,ae,az d,aa,p6,gX,k];by_cases q:y.1=id<;>simp[q]) (by rw[e,aB,af]) with ⟨i,y,d,l,m,h⟩|⟨n,h⟩
 .rw[h,aa];unfold Fl;rw[Mm d (kx l) m];rfl
 .rw[h,aa];unfold Fl;rw[Fm n];rfl
theorem UT(s:bh)(id:Tx)(e:s.2.2.1.length<=100000)(b:∀x∈s.2.2.1,x.2.2.1.length<=4294967296):gL (s,id,())=some (wG s id):=by
 unfold gL wG;dsimp only;rw[ixL (f:=xJ (s,id,())) s.2.2.1 id (by omega)<|λc i=>rfl,aa];unfold Fl;cases h:Hg s.2.2.1 id with
 | none=>rfl
 | some i =>
   obtain⟨x,a,_⟩:=DL h;have hi:=aG a;dsimp only;rw[aD<|by omega,af,az a,aa,a];have d:=b x (iy a);rw[uJ x.2.2.1 d,aa,P9 s (by omega),aa];dsimp only;rw[az<|YP hi,aa]
abbrev eh:=Int×Int×Tx×Tx×List Tx×Tx×Tx×Int×ai
theorem aaC(l:List Int)(v:Int)(j:l.length<=1000000):∃i:Int,gB (l,v,())=some (i,())/\ca 0 i=decide (v∈l):=by
 unfold gB;rcases qF (f:=fk (l,v,())) l (λi=>(((0:Int),i,()),())) (λ_ x=>decide (v=x)) (λi x=>(1,((i:Int),(i:Int),()),())) (0,((0:Int),(l.length:Int),()),()) (by omega) (λi x a b c=>by
  unfold fk;dsimp only;rw[au b,ae,az a,aa,gX,c];by_cases h:v=x<;>simp[aL,h]) (by unfold fk;dsimp only;rw[aB,af]) with ⟨i,x,a,d,k,h⟩|⟨e,h⟩
 .refine⟨(i:Int),by rw[h];rfl,?_⟩;rw[cr<|by omega,cd];rw[kx d];exact iy a
 .refine⟨-1,by rw[h];rfl,?_⟩;rw[eu<|by omega,dL];intro g;obtain⟨i,b⟩:=bR.1 g;have:=e i v b;simp at this
theorem Fw(l:List Int)(v:Int)(a:l.length<=1000000):cI (l,v,())=some (decide<|v∈l,()):=by
 obtain⟨i,b,c⟩:=aaC l v a;unfold cI;dsimp only;rw[b,aa,c]
theorem Qa(l:List Int)(v:Int)(j:l.length<=1000000):jl (l,v,())=some (decide<|v∈l,()):=by
 unfold jl;rcases qF (f:=p9 (l,v,())) l (λi=>((false,i,()),())) (λ_ x=>decide (x=v)) (λi x=>(1,(true,(i:Int),()),())) (0,(false,(l.length:Int),()),()) (by omega) (λi x a b c=>by
  unfold p9;dsimp only;rw[au b,ae,az a,aa,gX,c];by_cases h:x=v<;>simp[aL,h]) (by unfold p9;dsimp only;rw[aB,af]) with ⟨i,x,a,d,k,h⟩|⟨e,h⟩
 .rw[h,aa,cd (by rw[<-kx d];exact iy a)];rfl
 .rw[h,aa,dL (by
   intro g;obtain⟨i,b⟩:=bR.1 g;have:=e i v b;simp at this)]
  rfl
theorem adD(l:List Tx)(v:Tx)(j:l.length<=1000000):yK (l,v,())=some (decide<|v∈l,()):=by
 unfold yK;rcases qF (f:=rH (l,v,())) l (λi=>((false,i,()),())) (λ_ x=>decide (x=v)) (λi x=>(1,(true,(i:Int),()),())) (0,(false,(l.length:Int),()),()) (by omega) (λi x a b c=>by
  unfold rH;dsimp only;rw[au b,ae,az a,aa,gX,c];by_cases h:x=v<;>simp[bz,h]) (by unfold rH;dsimp only;rw[aB,af]) with ⟨i,x,a,d,k,h⟩|⟨e,h⟩
 .rw[h,aa,cd (by rw[<-kx d];exact iy a)];rfl
 .rw[h,aa,dL (by
   intro g;obtain⟨i,b⟩:=bR.1 g;have:=e i v b;simp at this)]
  rfl
def Xk(a:Int)(l:List Int):List Int:=if a∈l then [a] else []
def gh(c:eh):List Int :=
 if c.1=2\/c.1=11\/c.1=12 then [1,2,3] else if c.1=7 then [2,3] else if c.1=8 then [1,2] else
 if c.1=1\/c.1=3\/c.1=4\/c.1=5\/c.1=6 then [3] else if c.1=9\/c.1=10 then Xk c.2.1 [1,2] else
 if c.1=13\/c.1=14\/c.1=15 then Xk c.2.1 [1,2,3] else []
theorem RW(a b:Bool):((aj a ((a,()),()) ((b,()),())).1).1=(a||b):=by cases a<;>rfl
theorem UU(c:eh)(l:List Int)(a:l.length<=1000000):uY (c,l,())=some (Xk c.2.1 l,()):=by
 unfold uY Xk;dsimp only;rw[Fw l _ a,aa];by_cases h:c.2.1∈l
 .rw[bd h,cd h];rfl
 .rw[bb h,dL h];rfl
theorem Qb(c:eh):fB (c,())=some (gh c,()):=by
 unfold fB gh;dsimp only;simp only[RW];rw[UU c [1,2]<|by simp,UU c [1,2,3] (by simp),aa,aa];simp only[gX,aL,x7,nI];repeat' (first|rfl|split)
theorem wH(c:eh):lQ (c,())=some (gh c,()):=by
 unfold lQ gh;dsimp only;simp only[RW];simp only[gX,aL,ca,nt,x7,nI,kS,Vu,Xk,fY,abq,or_false];by_cases b:c.1=2\/c.1=11\/c.1=12
 .rw[bd b,bd b]
 rw[bb b,bb b];by_cases d:c.1=7
 .rw[bd d,bd d]
 rw[bb d,bb d];by_cases e:c.1=8
 .rw[bd e,bd e]
 rw[bb e,bb e];by_cases f:c.1=1\/c.1=3\/c.1=4\/c.1=5\/c.1=6
 .rw[bd f,bd f]
 rw[bb f,bb f];by_cases g:c.1=9\/c.1=10
 .rw[bd g,bd g];by_cases a:c.2.1=1
  .simp[a,ab,cR]
  .by_cases i:c.2.1=2
   .simp[i,ab,cR]
   .simp[a,i,ab,cR]
 rw[bb g,bb g];by_cases j:c.1=13\/c.1=14\/c.1=15
 .rw[bd j,bd j];by_cases k:1<=c.2.1/\c.2.1<=3
  .have:c.2.1=1\/c.2.1=2\/c.2.1=3:=by omega
   simp[k.1,k.2,this,ab,cR]
  .have h:¬(c.2.1=1\/c.2.1=2\/c.2.1=3):=by omega
   rw[bb h];by_cases a:1<=c.2.1
   .have i:¬c.2.1<=3:=λq=>k ⟨a,q⟩;simp[a,i,ab,cR]
   .simp[a,ab,cR]
 .rw[bb j,bb j];rfl
theorem DN(c:eh):(gh c).length<=3:=by
 unfold gh Xk;repeat' (first|(simp;done)|split)
def km(c:eh):Bool:=decide (c.1=2\/c.1=5\/c.1=6\/c.1=12)
theorem wI(c:eh):iN (c,())=some (km c,()):=by
 unfold iN km;dsimp only;rw[Fw _ _<|by simp,aa]
 congr 2
 apply ky.2;simp
theorem sI(c:eh):iO (c,())=some (km c,()):=by
 unfold iO km;dsimp only;simp only[gX,aL,nt,kS,Vu];by_cases a:c.1=2<;>by_cases b:c.1=5<;>by_cases d:c.1=6<;>by_cases e:c.1=12<;>simp[a,b,d,e]
theorem MG(s:bh)(a:Tx)(h:Vr s):tI (s,a,())=some (lh (wU s) a):=by
 unfold tI wC;dsimp only;rw[WC 3 _ h.ae7,aa,aa];exact ob (Mu (wU s) a (Hk h) (by have:=YL h;omega)) rfl
def adE(c:eh):Option Tx :=
 if c.1=1 then(if c.2.2.2.1=[]\/c.2.2.2.2.2.1=[] then none else some c.2.2.2.1) else if c.1=3\/c.1=4 then some c.2.2.1 else none
def Ke(s:bh)(k:Int)(a:Tx):List Tx :=
 if(lh (wU s) a).2.1=0 then(if k=3 then [(lh (wU s) a).1] else(bw s.2.2.1 (lh (wU s) a).1).1.map (·.1)) else []
def wJ(s:bh)(c:eh):List Tx:=match adE c with|some ref=>Ke s c.1 ref|none=>[]
theorem adF{f:(ai×Int×ai)×List Tx×ai->Option (((ai×Int×ai)×List Tx×ai)⊕((ai×Int×ai)×List Tx×ai))}(l:List ay)(h:l.length<=1000000)
  (b:∀a,f a=cA (aj (aO a.1.2.1<|len l) (ab (idx l a.1.2.1) λc=>aj (fits<|plus (len a.2.1)<|len ([c.1]:List Tx)) (some<|Sum.inl (((),ax i64 a.1.2.1 1,()),app a.2.1 ([c.1]:List Tx),())) none)<|some<|Sum.inr (0,((),a.1.2.1,()),a.2.1,()))) :
  Loop f (((),(0:Int),()),([]:List Tx),())=some (((),(l.length:Int),()),(l.map (·.1),())):=by
 have key:=nP (f:=f) l (λ(out:List Tx) (i:Int)=>(((),i,()),out,())) (λx=>[x.1]) (((),(l.length:Int),()),(l.map (·.1),())) (by omega) (λi x d e g=>by
  have j:((l.take i).flatMap λx:ay=>[x.1]).length<=1000000:=by
   rw[<-List.map_eq_flatMap,CS,gM];omega
  rw[b];dsimp only;rw[au e,ae,az d,aa,b7 (by rw[Qi];omega),ae,g];rfl) (by
  rw[b];dsimp only;rw[aB,af,<-List.map_eq_flatMap];rfl)
 exact key
theorem MH{s:bh}(h:Vr s)(k:Int)(b:Tx)(j:(bw s.2.2.1 (lh (wU s) b).1).1.length<=1000000)
  {f:List ay×Int×ai->(ai×Int×ai)×List Tx×ai->Option (((ai×Int×ai)×List Tx×ai)⊕((ai×Int×ai)×List Tx×ai))}
  (l:∀c a,f c a=cA (aj (aO a.1.2.1<|len c.1) (ab (idx c.1 a.1.2.1) λi=>aj (fits<|plus (len a.2.1)<|len ([i.1]:List Tx)) (some<|Sum.inl (((),ax i64 a.1.2.1 1,()),app a.2.1 ([i.1]:List Tx),())) none)<|some<|Sum.inr (0,((),a.1.2.1,()),a.2.1,())))
  {F:Option (Tx×Int×ai)} {C:Tx->Option (List ay×Int×ai)} (m:F=some (lh (wU s) b)) (n:∀id,C id=some ((bw s.2.2.1 id).1,(bw s.2.2.1 id).2,())) :
  ab F (λg=>aj (nt<|aL g.2.1 0) (some (([]:List Tx),())) (aj (aL k 3) (some (([g.1]:List Tx),()))<|ab (C g.1) λc=>ab (Loop (f c) (((),(0:Int),()),([]:List Tx),())) λa=>some (a.2.1,())))=some (Ke s k b,()):=by
 rw[m,aa];unfold Ke;by_cases d:(lh (wU s) b).2.1=0
 .rw[bd d,aW d,aH,af];by_cases e:k=3
  .rw[bd e,aW e,ae]
  .rw[bb e,aF e,af,n,aa,adF _ j (λa=>l _ a),aa]
 .rw[bb d,aF d,aA,ae]
theorem Il(s:bh)(c:eh)(h:Vr s)(j:∀id,(bw s.2.2.1 id).1.length<=1000000):nW (s,c,())=some (wJ s c,()):=by
 have i:∀id,jz (s.2.2.1,id,())=some ((bw s.2.2.1 id).1,(bw s.2.2.1 id).2,()):=λid=>ME s.2.2.1 id (by have:=h.ll;omega) (λx k=>by have:=(h.ln x k).1;omega);have key:=λb=>MH h c.1 b (j _) (f:=xO) (λl m=>rfl) (C:=λid=>jz (s.2.2.1,id,())) (zu s b h) i;unfold nW wJ adE;dsimp only;by_cases d:c.1=1
 .rw[bd d,aW d,ae];by_cases e:c.2.2.2.1=[]
  .rw[bd<|.inl e,p6,cd e,aH,af,af,aF (by omega),aA,ae,aF (by omega),aA,ae,aa];rfl
  .rw[p6,dL e,aA,ae,p6];by_cases a:c.2.2.2.2.2.1=[]
   .rw[bd<|.inr a,cd a,aH,af,aF (by omega),aA,ae,aF (by omega),aA,ae,aa];rfl
   .rw[bb<|by rintro(q|q);exact e q;exact a q,dL a,aA,ae,aa];exact key _
 .rw[bb d,aF d,af,af,af];by_cases a:c.1=3
  .rw[bd<|.inl a,aW a,aH,af,af,aa];have:=key c.2.2.1;rw[aW a] at this;exact this
  .by_cases g:c.1=4
   .rw[bd<|.inr g,aF a,aA,ae,aW g,aH,af,aa];have:=key c.2.2.1;rw[aF a] at this;exact this
   .rw[bb<|by rintro(q|q);exact a q;exact g q,aF a,aA,ae,aF g,aA,ae,aa];rfl
theorem zx(s:bh)(c:eh)(h:Vr s)(k:∀id,(bw s.2.2.1 id).1.length<=1000000):nX (s,c,())=some (wJ s c,()):=by
 have j:∀id,gK (s.2.2.1,id,())=some ((bw s.2.2.1 id).1,(bw s.2.2.1 id).2,()):=λid=>P7 s.2.2.1 id (by have:=h.ll;omega);have key:=λd=>MH h c.1 d (k _) (f:=xP) (λl m=>rfl) (C:=λid=>gK (s.2.2.1,id,())) (MG s d h) j;unfold nX wJ adE;dsimp only;by_cases e:c.1=1
 .rw[bd e,aW e,ae];by_cases g:c.2.2.2.1=[]
  .rw[bd<|.inl g,p6,cd g,aH,af,ae,aa];rfl
  .rw[p6,dL g,aA,ae,p6];by_cases a:c.2.2.2.2.2.1=[]
   .rw[bd<|.inr a,cd a,ae,aa];rfl
   .rw[bb<|by rintro(q|q);exact g q;exact a q,dL a,af,aa];have:=key c.2.2.2.1;rw[aF<|by omega] at this;rw[aF (b:=3)<|by omega];exact this
 .rw[bb e,aF e,af,RW];by_cases a:c.1=3
  .rw[bd<|.inl a,aW a,Bool.true_or,ae,aa];have:=key c.2.2.1;rw[aW a] at this;exact this
  .by_cases i:c.1=4
   .rw[bd<|.inr i,aF a,aW i,B6,ae,aa];have:=key c.2.2.1;rw[aF a] at this;exact this
   .rw[bb<|by rintro(q|q);exact a q;exact i q,aF a,aF i,B6,af,aa];rfl
set_option maxRecDepth 100000
def vi(a:List ay)(b:List Tx)(g:Nat->ay->Option Tx):List Tx:=(a.zip b).mapIdx λi p=>(g i p.1).getD p.2
theorem so{a:List ay}{b:List Tx}{g:Nat->ay->Option Tx}(h:b.length=a.length):(vi a b g).length=a.length:=by
 unfold vi;rw[List.length_mapIdx,List.length_zip,h];omega
theorem YQ{a:List ay}{b:List Tx}{g:Nat->ay->Option Tx}{i:Nat}{x:ay}{d:Tx}(c:a[i]?=some x)(e:b[i]?=some d):(vi a b g)[i]?=some ((g i x).getD d):=by
 unfold vi;rw[List.getElem?_mapIdx,show(a.zip b)[i]?=some (x,d) from Xy.2 ⟨c,e⟩];rfl
def qs(b:List ay)(a:List Tx)(g:Nat->ay->Option Tx)(i:Nat):List Tx:=(vi b a g).take i++a.drop i
theorem UW{b:List ay}{a:List Tx}{g:Nat->ay->Option Tx}{i:Nat}{d:Tx}(h:a.length=b.length)(c:a[i]?=some d):(qs b a g i)[i]?=some d:=by
 have hi:=aG c;have e:((vi b a g).take i).length=i:=by rw[gM,so h];omega
 unfold qs;rw[Vt<|by omega,e,abA,l9,v7,c]
theorem Qc{a:List ay}{b:List Tx}{g:Nat->ay->Option Tx}{i:Nat}(h:b.length=a.length)(c:i<=a.length):(qs a b g i).length=a.length:=by
 unfold qs;rw[iP,gM,so h,ma];omega
theorem MI{b:List ay}{a:List Tx}{g:Nat->ay->Option Tx}{i:Nat}{x:ay}{d:Tx}(h:a.length=b.length)(e:b[i]?=some x)(c:a[i]?=some d) :
  qs b a g (i+1)=(match g i x with|some v=>(qs b a g i).set i v|none=>qs b a g i):=by
 have hi:=aG c;have f:((vi b a g).take i).length=i:=by rw[gM,so h];omega
 have j:(vi b a g).take (i+1)=(vi b a g).take i++[(g i x).getD d]:=by
  rw[Qk,YQ e c];rfl
 have k:a.drop i=d::a.drop (i+1):=by
  rw[BJ hi];have:=jE hi;rw[c] at this;rw[aE this]
 have l:qs b a g i=(vi b a g).take i++d::a.drop (i+1):=by unfold qs;rw[k]
 have m:qs b a g (i+1)=(vi b a g).take i++(g i x).getD d::a.drop (i+1):=by unfold qs;rw[j,oC];rfl
 rw[m,l];cases g i x with
 | none=>rfl
 | some v =>
   dsimp only;rw[List.set_append_right _ _<|by omega,f,abA];rfl
theorem Qd{a:List ay}{b:List Tx}{g:Nat->ay->Option Tx}(h:b.length=a.length):qs a b g a.length=vi a b g:=by
 unfold qs;rw[zN<|by rw[so h];omega,Kh (by omega),wX]
theorem qP(l:List Int)(a:List Bool)(c:eh)(b:gh c=l)(d:Loop (vR (l,())) (((0:Int),()),[false,false,false,false],())=some (((l.length:Int),()),a,())):kk (c,())=some (a,()):=by
 unfold kk;dsimp only;rw[Qb c,aa,b,d,aa]
theorem UX(c:eh):gh c=[1,2,3]\/gh c=[2,3]\/gh c=[1,2]\/gh c=[1]\/gh c=[2]\/gh c=[3]\/gh c=[]:=by
 unfold gh Xk;by_cases d:c.1=2\/c.1=11\/c.1=12
 .rw[bd d];simp
 rw[bb d];by_cases e:c.1=7
 .rw[bd e];simp
 rw[bb e];by_cases f:c.1=8
 .rw[bd f];simp
 rw[bb f];by_cases g:c.1=1\/c.1=3\/c.1=4\/c.1=5\/c.1=6
 .rw[bd g];simp
 rw[bb g];by_cases a:c.2.1=1
 .rw[a];repeat' (first|(simp;done)|split)
 by_cases b:c.2.1=2
 .rw[b];repeat' (first|(simp;done)|split)
 by_cases h:c.2.1=3
 .rw[h];repeat' (first|(simp;done)|split)
 .have i:¬c.2.1∈([1,2]:List Int):=by simp[a,b]
  have j:¬c.2.1∈([1,2,3]:List Int):=by simp[a,b,h]
  rw[bb i,bb j];repeat' (first|(simp;done)|split)
def et(c:eh)(k:Int):Bool:=decide (k∈gh c)
theorem MJ(c:eh):kk (c,())=some ([false,et c 1,et c 2,et c 3],()):=by
 unfold et;rcases UX c with h|h|h|h|h|h|h<;>rw[h]
 .refine qP _ [false,true,true,true] c h ?_;obtain rfl:‹Lp›=Lp.kD:=Lp.one _ _;kernel_rfl
 .refine qP _ [false,false,true,true] c h ?_;obtain rfl:‹Lp›=Lp.kD:=Lp.one _ _;kernel_rfl
 .refine qP _ [false,true,true,false] c h ?_;obtain rfl:‹Lp›=Lp.kD:=Lp.one _ _;kernel_rfl
 .refine qP _ [false,true,false,false] c h ?_;obtain rfl:‹Lp›=Lp.kD:=Lp.one _ _;kernel_rfl
 .refine qP _ [false,false,true,false] c h ?_;obtain rfl:‹Lp›=Lp.kD:=Lp.one _ _;kernel_rfl
 .refine qP _ [false,false,false,true] c h ?_;obtain rfl:‹Lp›=Lp.kD:=Lp.one _ _;kernel_rfl
 .refine qP _ [false,false,false,false] c h ?_;obtain rfl:‹Lp›=Lp.kD:=Lp.one _ _;kernel_rfl
def xS{a:Type}(b:Bool)(x y:a):a:=bif b then x else y
def kv(s:bh)(a:List Tx)(i:Nat)(x:ay):Option Tx:=if i<s.2.2.2.1.length/\x.1∈a then s.2.2.2.1[i]? else none
def RX(s:bh)(c:eh):List Tx:=vi s.2.2.1 (List.replicate s.2.2.1.length []) (kv s<|wJ s c)
def UY(s:bh)(c:eh):bh:=(xS (et c 1) s.1 [],xS (et c 2) s.2.1 [],xS (et c 3) s.2.2.1 [],xS (et c 3) (RX s c) [],xS (km c) s.2.2.2.2.1 [],())
theorem aaD(s:bh)(c:eh)(a:List Tx)(w:s.2.2.1.length<=1000000)(u:a.length<=1000000)(b:List Dk)(j:List qH)(k:List ay)(l:List DF) :
  Loop (lz (s,c,()) (a,())) (((0:Int),()),(b,j,k,(),l,()),List.replicate s.2.2.1.length [],()) =
   some (((s.2.2.1.length:Int),()),(b,j,k,(),l,()),vi s.2.2.1 (List.replicate s.2.2.1.length [])<|kv s a,()):=by
 have m:(List.replicate s.2.2.1.length ([]:Tx)).length=s.2.2.1.length:=Sy;have key:=cq (f:=lz (s,c,()) (a,())) (r:=(((s.2.2.1.length:Int),()),(b,j,k,(),l,()),vi s.2.2.1 (List.replicate s.2.2.1.length [])<|kv s a,())) s.2.2.1.length
  (λi:Nat=>(((i:Int),()),(b,j,k,(),l,()),qs s.2.2.1 (List.replicate s.2.2.1.length []) (kv s a) i,()))
  (λi n=>by
   have hx:s.2.2.1[i]?=some s.2.2.1[i]:=jE n;have hd:(List.replicate s.2.2.1.length ([]:Tx))[i]?=some []:=by rw[OY,bd n]
   have t:=UW (g:=kv s a) m hd;have d:=MI (g:=kv s a) m hx hd;have hlen:=Qc (g:=kv s a) m (SO n);have v:ax .i64 (i:Int) 1=((i+1:Nat):Int):=aT (by omega);unfold lz;dsimp only;rw[au n,ae,az hx,aa,v];by_cases o:i<s.2.2.2.1.length
   .rw[au o,ae,uI _ _ (by omega),aa,aa];by_cases p:s.2.2.1[i].1∈a
    .have e:s.2.2.2.1[i]?=some s.2.2.2.1[i]:=jE o;have h:kv s a i s.2.2.1[i]=some s.2.2.2.1[i]:=by unfold kv;rw[bd ⟨o,p⟩,e]
     rw[h] at d;rw[cd p,ae,az e,aa,show within (i:Int) (len<|qs s.2.2.1 (List.replicate s.2.2.1.length []) (kv s a) i)=true from br (by omega) (by unfold len;rw[hlen];omega),ae,az t,aa,aa,aa,aa,d];unfold jF;rw[rK];rfl
    .have h:kv s a i s.2.2.1[i]=none:=by unfold kv;rw[bb λq=>p q.2]
     rw[h] at d;rw[dL p,af,aa,d];rfl
   .have h:kv s a i s.2.2.1[i]=none:=by unfold kv;rw[bb λq=>o q.1]
    rw[h] at d;rw[aD<|by unfold len;omega,af,aa,af,aa,d];rfl)
  (by
   unfold lz;dsimp only;rw[aB,af,Qd m];rfl)
 have e0:qs s.2.2.1 (List.replicate s.2.2.1.length []) (kv s a) 0=List.replicate s.2.2.1.length []:=rfl;rw[e0] at key;exact key
theorem YR(l:List Dk)(h:l.length<=1000000):cZ (l,())=some (l,()):=by
 unfold cZ;rw[gY<|by show l.length<=_;omega];rfl
structure RY (s:bh):Prop where
 hd:Vr s
 dl:s.2.2.2.1.length<=1000000
 ml:s.2.2.2.2.1.length<=1000000
theorem DO(s:bh)(c:eh):(wJ s c).length<=16:=by
 unfold wJ Ke;split
 .split
  .split
   .simp
   .rw[CS];exact pf.2
  .simp
 .simp
theorem jm{a:Type}(b:Bool)(x y:a):aj b (some x) (some y)=some (xS b x y):=by cases b<;>rfl
theorem adG(s:bh)(c:eh)(h:RY s):tK (s,c,())=some (UY s c,()):=by
 have a:=h.hd.ll;have b:=YR s.1 (by have:=h.hd.bl;omega);have ci:bJ (s.2.1,())=some (s.2.1,()):=by
  unfold bJ;rw[gY (by have:=h.hd.il;show s.2.1.length<=_;omega)];rfl
 have d:bt (s.2.2.1,())=some (s.2.2.1,()):=by
  unfold bt;rw[gY<|by show s.2.2.1.length<=_;omega];rfl
 have e:bK (s.2.2.2.2.1,())=some (s.2.2.2.2.1,()):=by
  unfold bK;rw[gY (by have:=h.ml;show s.2.2.2.2.1.length<=_;omega)];rfl
 unfold tK;dsimp only;rw[MJ,aa,Il s c h.hd (λid=>by have:=(pf (ls:=s.2.2.1) (id:=id)).2;omega),aa];dsimp only;rw[show within (1:Int) 4=true from rfl,ae,show idx [false,et c 1,et c 2,et c 3] (1:Int)=some (et c 1) from rfl,aa,b,aa,jm,aa];rw[show within (2:Int) 4=true from rfl,ae,show idx [false,et c 1,et c 2,et c 3] (2:Int)=some (et c 2) from rfl,aa,ci,aa,jm,aa];rw[wI,aa,e,aa];dsimp only;rw[jm,aa,show within (3:Int) 4=true from rfl,ae,show idx [false,et c 1,et c 2,et c 3] (3:Int)=some (et c 3) from rfl,aa,d,aa];rw[show inside (0:Int) (len s.2.2.1) (len s.2.2.1)=true from aY (by omega) (by unfold len;omega) (by omega),ae,show fits (len s.2.2.1)=true from gY (by omega),ae];dsimp only;rw[show(iB (len s.2.2.1) ([]:Tx))=List.replicate s.2.2.1.length [] from by unfold iB len;rw[rK]];rw[aaD s c (wJ s c) (by omega) (by have:=DO s c;omega),aa,jm];unfold UY RX;cases et c 1<;>cases et c 2<;>cases et c 3<;>cases km c<;>rfl
end Go.Ge
namespace Go.Ge
variable [Lp]
set_option maxRecDepth 100000
def Xl(s:bh)(i:Nat)(x:ay):Option Tx:=if(wG s x.1).2.2.1=true then some (wG s x.1).2.1 else none
def Jt(s p:bh):List Tx:=vi p.2.2.1 (xQ p.2.2.1.length p.2.2.2.1) (Xl s)
def jnF(s:bh)(c:eh)(p:bh):bh:=(xS (et c 1) p.1 s.1,xS (et c 2) p.2.1 s.2.1,xS (et c 3) p.2.2.1 s.2.2.1,xS (et c 3) (Jt s p) s.2.2.2.1,xS (km c) p.2.2.2.2.1 s.2.2.2.2.1,())
theorem adH(n:Nat)(a:List Tx):over (iB (n:Int) ([]:Tx)) (0:Int) (gC a<|len<|iB (n:Int) ([]:Tx))=xQ n a:=by
 unfold over iB gC len xQ;rw[rK,Sy,rK];simp only[Int.toNat_zero,Kq,wY,pv,gM,List.drop_replicate]
 congr 2
 omega
theorem aaE(s p:bh)(c:eh)(o:RY s)(v:p.2.2.1.length<=1000000)(b:List Dk)(h:List qH)(j:List ay)(k:List DF) :
  Loop (lB (s,c,p,())) (((0:Int),()),(b,h,j,(),k,()),xQ p.2.2.1.length p.2.2.2.1,()) =
   some (((p.2.2.1.length:Int),()),(b,h,j,(),k,()),Jt s p,()):=by
 have d:(xQ p.2.2.1.length p.2.2.2.1).length=p.2.2.1.length:=xR _ _;have t:=o.hd.ll;have key:=cq (f:=lB (s,c,p,())) (r:=(((p.2.2.1.length:Int),()),(b,h,j,(),k,()),Jt s p,())) p.2.2.1.length
  (λi:Nat=>(((i:Int),()),(b,h,j,(),k,()),qs p.2.2.1 (xQ p.2.2.1.length p.2.2.2.1) (Xl s) i,()))
  (λi l=>by
   have hx:p.2.2.1[i]?=some p.2.2.1[i]:=jE l;have hd:(xQ p.2.2.1.length p.2.2.2.1)[i]?=some (xQ p.2.2.1.length p.2.2.2.1)[i]:=jE (by rw[d];exact l);have m:=UW (g:=Xl s) d hd;have a:=MI (g:=Xl s) d hx hd;have hlen:=Qc (g:=Xl s) d (SO l);have u:ax .i64 (i:Int) 1=((i+1:Nat):Int):=aT (by omega);have e:=UT s p.2.2.1[i].1 (by omega) (λx hx=>by have:=(o.hd.ln x hx).1;omega);unfold lB;dsimp only;rw[au l,ae,az hx,aa,e,aa,u];cases q:(wG s p.2.2.1[i].1).2.2.1 with
   | true =>
     have n:Xl s i p.2.2.1[i]=some (wG s p.2.2.1[i].1).2.1:=by unfold Xl;rw[bd q]
     rw[n] at a;rw[ae,show within (i:Int) (len<|qs p.2.2.1 (xQ p.2.2.1.length p.2.2.2.1) (Xl s) i)=true from br (by omega) (by unfold len;rw[hlen];omega),ae,az m,aa,aa,aa,aa,a];unfold jF;rw[rK];rfl
   | false =>
     have n:Xl s i p.2.2.1[i]=none:=by unfold Xl;rw[bb<|by rw[q];simp]
     rw[n] at a;rw[af,aa,a];rfl)
  (by
   unfold lB;dsimp only;rw[aB,af,Qd d];rfl)
 exact key
theorem adI(s p:bh)(c:eh)(h:RY s)(a:RY p):tM (s,c,p,())=some (jnF s c p,()):=by
 have b:=a.hd.ll;have d:=YR p.1 (by have:=a.hd.bl;omega);have ci:bJ (p.2.1,())=some (p.2.1,()):=by
  unfold bJ;rw[gY (by have:=a.hd.il;show p.2.1.length<=_;omega)];rfl
 have e:bt (p.2.2.1,())=some (p.2.2.1,()):=by
  unfold bt;rw[gY<|by show p.2.2.1.length<=_;omega];rfl
 have f:bK (p.2.2.2.2.1,())=some (p.2.2.2.2.1,()):=by
  unfold bK;rw[gY (by have:=a.ml;show p.2.2.2.2.1.length<=_;omega)];rfl
 unfold tM;dsimp only;rw[MJ,aa];dsimp only;rw[show within (1:Int) 4=true from rfl,ae,show idx [false,et c 1,et c 2,et c 3] (1:Int)=some (et c 1) from rfl,aa,d,aa,jm,aa];rw[show within (2:Int) 4=true from rfl,ae,show idx [false,et c 1,et c 2,et c 3] (2:Int)=some (et c 2) from rfl,aa,ci,aa,jm,aa];rw[wI,aa,f,aa];dsimp only;rw[jm,aa,show within (3:Int) 4=true from rfl,ae,show idx [false,et c 1,et c 2,et c 3] (3:Int)=some (et c 3) from rfl,aa,e,aa];rw[show inside (0:Int) (len p.2.2.1) (len p.2.2.1)=true from aY (by omega) (by unfold len;omega) (by omega),ae,show fits (len p.2.2.1)=true from gY (by omega),ae];dsimp only;rw[show(len p.2.2.1)=((p.2.2.1.length:Nat):Int) from rfl,adH];rw[aaE s p c h<|by omega,aa,jm];unfold jnF;cases et c 1<;>cases et c 2<;>cases et c 3<;>cases km c<;>rfl
end Go.Ge
namespace Go.Ge
variable [Lp]
set_option maxRecDepth 100000
theorem UZ(s:bh)(id:Tx)(b:s.2.2.1.length<=1000000):rE (s,id,())=some (wG s id):=by
 unfold rE wG;refine ob (Mo s id b) ?_;dsimp only;unfold Fl;cases h:Hg s.2.2.1 id with
 | none=>rfl
 | some i =>
   obtain⟨x,a,_⟩:=DL h;dsimp only;rw[aD<|by omega,af,az a,aa,a];exact ob (Mp s i) rfl
theorem YS{a:List ay}{b:List Tx}{g:Nat->ay->Option Tx}{i:Nat}{x:ay}{d:Tx}(h:b.length=a.length)(c:a[i]?=some x)(e:b[i]?=some d):(vi a b g).take (i+1)=(vi a b g).take i++[(g i x).getD d]:=by
 rw[Qk,YQ c e];rfl
theorem Oi(s:bh)(c:eh)(d:List Tx)(x:s.2.2.1.length<=1000000)(h:d.length<=1000000)(b:List Dk)(l:List qH)(m:List ay)(n:List DF) :
  Loop (lA (s,c,()) (d,())) (((0:Int),()),(b,l,m,(),n,()),([]:List Tx),()) =
   some (((s.2.2.1.length:Int),()),(b,l,m,(),n,()),vi s.2.2.1 (List.replicate s.2.2.1.length [])<|kv s d,()):=by
 have v:(List.replicate s.2.2.1.length ([]:Tx)).length=s.2.2.1.length:=Sy;have key:=cq (f:=lA (s,c,()) (d,())) (r:=(((s.2.2.1.length:Int),()),(b,l,m,(),n,()),vi s.2.2.1 (List.replicate s.2.2.1.length [])<|kv s d,())) s.2.2.1.length
  (λi:Nat=>(((i:Int),()),(b,l,m,(),n,()),(vi s.2.2.1 (List.replicate s.2.2.1.length [])<|kv s d).take i,()))
  (λi u=>by
   have hx:s.2.2.1[i]?=some s.2.2.1[i]:=jE u;have hd:(List.replicate s.2.2.1.length ([]:Tx))[i]?=some []:=by rw[OY,bd u]
   have a:=YS (g:=kv s d) v hx hd;have w:ax .i64 (i:Int) 1=((i+1:Nat):Int):=aT (by omega);have e:∀t:Tx,fits (plus (len<|(vi s.2.2.1 (List.replicate s.2.2.1.length [])<|kv s d).take i)<|len ([t]:List Tx))=true:=λt=>b7 (by rw[gM,Qi];omega);unfold lA;dsimp only;rw[au u,ae,az hx,aa,adD _ _ h,aa,w];by_cases o:s.2.2.1[i].1∈d
   .rw[cd o,ae];by_cases p:i<s.2.2.2.1.length
    .have j:s.2.2.2.1[i]?=some s.2.2.2.1[i]:=jE p;have k:kv s d i s.2.2.1[i]=some s.2.2.2.1[i]:=by unfold kv;rw[bd ⟨p,o⟩,j]
     rw[k] at a;rw[au p,ae,az j,aa,aa,e,ae,a];rfl
    .have k:kv s d i s.2.2.1[i]=none:=by unfold kv;rw[bb λq=>p q.1]
     rw[k] at a;rw[aD<|by unfold len;omega,af,aa,e,ae,a];rfl
   .have k:kv s d i s.2.2.1[i]=none:=by unfold kv;rw[bb λq=>o q.2]
    rw[k] at a;rw[dL o,af,af,aa,e,ae,a];rfl)
  (by
   unfold lA;dsimp only;rw[aB,af,zN (by rw[so v];omega)];rfl)
 exact key
theorem RZ(s:bh)(c:eh)(h:RY s):tL (s,c,())=some (UY s c,()):=by
 have b:=h.hd.ll;have a:=λk=>Qa (gh c) k (by have:=DN c;omega);unfold tL;dsimp only;rw[wH,aa,a,aa,jm,aa,a,aa,jm,aa,sI,aa,jm,aa,a,aa];rw[zx s c h.hd (λid=>by have:=(pf (ls:=s.2.2.1) (id:=id)).2;omega),aa];unfold UY RX et;have d:=Oi s c (wJ s c) (by omega) (by have:=DO s c;omega);cases decide (1∈gh c)<;>cases decide (2∈gh c)<;>cases decide (3∈gh c)<;>cases km c <;>
  first
   | rfl
   | (refine(af _ _).trans ?_;refine ob (d _ _ _ _) ?_;rfl)
theorem Oj(s p:bh)(c:eh)(v:RY s)(y:p.2.2.1.length<=1000000)(b:List Dk)(j:List qH)(k:List ay)(l:List DF) :
  Loop (lC (s,c,p,())) (((0:Int),()),(b,j,k,(),l,()),([]:List Tx),()) =
   some (((p.2.2.1.length:Int),()),(b,j,k,(),l,()),Jt s p,()):=by
 have o:(xQ p.2.2.1.length p.2.2.2.1).length=p.2.2.1.length:=xR _ _;have w:=v.hd.ll;have key:=cq (f:=lC (s,c,p,())) (r:=(((p.2.2.1.length:Int),()),(b,j,k,(),l,()),Jt s p,())) p.2.2.1.length
  (λi:Nat=>(((i:Int),()),(b,j,k,(),l,()),(Jt s p).take i,()))
  (λi m=>by
   have hx:p.2.2.1[i]?=some p.2.2.1[i]:=jE m;have hd:=YP (ds:=p.2.2.2.1) m;have a:=YS (g:=Xl s) o hx hd;have x:ax .i64 (i:Int) 1=((i+1:Nat):Int):=aT (by omega);have d:∀t:Tx,fits (plus (len<|(Jt s p).take i)<|len ([t]:List Tx))=true:=λt=>b7 (by rw[gM,Qi];omega);have e:=UZ s p.2.2.1[i].1 (by omega);unfold lC;dsimp only;rw[au m,ae,az hx,aa,e,aa,x];cases q:(wG s p.2.2.1[i].1).2.2.1 with
   | true =>
     have n:Xl s i p.2.2.1[i]=some (wG s p.2.2.1[i].1).2.1:=by unfold Xl;rw[bd q]
     rw[n] at a;rw[aH,af,aa,d,ae];unfold Jt;rw[a];rfl
   | false =>
     have n:Xl s i p.2.2.1[i]=none:=by unfold Xl;rw[bb<|by rw[q];simp]
     rw[n] at a;rw[aA,ae];by_cases u:i<p.2.2.2.1.length
     .have h:p.2.2.2.1[i]?=some p.2.2.2.1[i]:=jE u;rw[au u,ae,az h,aa,aa,aa,d,ae];rw[h] at a;unfold Jt;rw[a];rfl
     .rw[aD<|by unfold len;omega,af,aa,aa,d,ae];rw[Ni<|by omega] at a;unfold Jt;rw[a];rfl)
  (by
   unfold lC;dsimp only;rw[aB,af,zN (by unfold Jt;rw[so o];omega)];rfl)
 exact key
theorem R0(s p:bh)(c:eh)(h:RY s)(b:RY p):tN (s,c,p,())=some (jnF s c p,()):=by
 have d:=b.hd.ll;have a:=λk=>Qa (gh c) k (by have:=DN c;omega);unfold tN;dsimp only;rw[wH,aa,a,aa,jm,aa,a,aa,jm,aa,sI,aa,jm,aa,a,aa];unfold jnF et;have e:=Oj s p c h (by omega);cases decide (1∈gh c)<;>cases decide (2∈gh c)<;>cases decide (3∈gh c)<;>cases km c <;>
  first
   | rfl
   | (refine(af _ _).trans ?_;refine ob (e _ _ _ _) ?_;rfl)
end Go.Ge
