import Derived.Test.YtcebnmppipejfaaGreatDoorPlC
set_option linter.unusedSectionVars false
set_option linter.unusedVariables false
set_option linter.unusedSimpArgs false
set_option linter.defProp false
noncomputable section
open Option renaming some->ab,none->ah
open Go.IntKind (i64)
namespace Go.Ge
variable [Lp]
set_option maxRecDepth 100000
abbrev Jx:=(List<|Sb×Int×Int×Sb×Sb×al)
abbrev yi:=(Int×Sb×al)
def jo(a:(Jx×Jx×al)×al×al×(List yi)×al):Option (((Jx×Jx×al)×al×al×(List yi)×al)⊕((Jx×Jx×al)×al×al×(List yi)×al)) :=
 dn (ao (ao (nt<|aZ 0<|len a.1.1)
 (aZ 0<|len a.1.2.1)
 true)
 (ag (ao (aS (len a.1.1) 0)
 (ab (((1:Int),()),()))
 (ag (ao (aS (len a.1.2.1) 0)
 (ab (((-1:Int),()),()))
 (ag (idx a.1.1 (0:Int)) λd=>ag (idx a.1.2.1 (0:Int)) λb=>ag (hM (d.1,b.1,())) λc=>ab ((c.1,()),()))) λd=>ab ((d.1.1,()),()))) λd=>ag (ao (aZ d.1.1 0)
 (ag (idx a.1.1 (0:Int)) λb=>ao (fits<|plus (len a.2.2.2.1)<|len ([((3:Int),b.1,())]:List yi))
 (ab ((),(),(),app a.2.2.2.1 ([((3:Int),b.1,())]:List yi),()))
 ah)
 (ag (ao (aZ 0 d.1.1)
 (ag (idx a.1.2.1 (0:Int)) λb=>ao (fits<|plus (len a.2.2.2.1)<|len ([((1:Int),b.1,())]:List yi))
 (ab ((),(),(),app a.2.2.2.1 ([((1:Int),b.1,())]:List yi),()))
 ah)
 (ag (idx a.1.1 (0:Int)) λb=>ag (idx a.1.2.1 (0:Int)) λc=>ag (ao (nt<|an (bG b.1 c.1)<|an (aS b.2.1 c.2.1)<|an (aS b.2.2.1 c.2.2.1)<|an (bG b.2.2.2.1 c.2.2.2.1)<|an (bG b.2.2.2.2.1 c.2.2.2.2.1) true)
 (ao (fits<|plus (len a.2.2.2.1)<|len ([((2:Int),b.1,())]:List yi))
 (ab ((),(),(),app a.2.2.2.1 ([((2:Int),b.1,())]:List yi),()))
 ah)
 (ab ((),(),(),a.2.2.2.1,()))) λe=>ab ((),(),(),e.2.2.2.1,()))) λb=>ab ((),(),(),b.2.2.2.1,()))) λb=>ag (ao (cj d.1.1 0)
 (ao (inside 1 (len a.1.1)<|len a.1.1)
 (ab ((sub a.1.1 (1:Int)<|minus (len a.1.1) 1,()),()))
 ah)
 (ab ((a.1.1,()),()))) λc=>ag (ao (cj 0 d.1.1)
 (ao (inside 1 (len a.1.2.1)<|len a.1.2.1)
 (ab ((sub a.1.2.1 (1:Int)<|minus (len a.1.2.1) 1,()),()))
 ah)
 (ab ((a.1.2.1,()),()))) λe=>ab (Sum.inl ((c.1.1,e.1.1,()),(),(),b.2.2.2.1,())))
 (ab<|Sum.inr (0,(a.1.1,a.1.2.1,()),(),(),a.2.2.2.1,())))
def qF(x:Jx×Jx×al):Option ((List yi)×Int×al) :=
 ag (eN (x.1,())) (λb=>ag (ao (nt<|nt<|aS b.1 0)
 (ag (eN (x.2.1,())) λa=>ab (nt<|aS a.1 0))
 (ab true)) λa=>ao a
 (ab (([]:List yi),(1:Int),()))
 (ag (Loop (jo) ((x.1,x.2.1,()),(),(),([]:List yi),())) λc=>ab (c.2.2.2.1,(0:Int),())))
def mQ(x:(List yi)×al)(a:(Int×al)×(al×al×al)×(List<|Int)×al):Option (((Int×al)×(al×al×al)×(List<|Int)×al)⊕((Int×al)×(al×al×al)×(List<|Int)×al)) :=
 dn (ao (aZ a.1.1<|len x.1)
 (ag (idx x.1 a.1.1) λc=>ag (ao (ao (cj 1 c.1)
 (cj c.1 3)
 false)
 (ao (within c.1 4)
 (ag (idx ([([]:aw),([43]:aw),([126]:aw),([45]:aw)]:List Sb) c.1) λb=>ab ((b,()),()))
 ah)
 (ab ((([63]:aw),()),()))) λb=>ao (fits<|plus (len b.1.1)<|len ([32]:aw))
 (ag (mg (c.2.1,())) λd=>ao (fits<|plus (len<|app b.1.1 ([32]:aw))<|len d.1)
 (ao (fits<|plus (len<|app (app b.1.1 ([32]:aw)) d.1)<|len ([10]:aw))
 (ao (fits<|plus (len a.2.2.1)<|len<|aC<|app (app (app b.1.1 ([32]:aw)) d.1) ([10]:aw))
 (ab<|Sum.inl ((aH i64 a.1.1 1,()),((),(),a.2.1.2.2),app a.2.2.1<|aC<|app (app (app b.1.1 ([32]:aw)) d.1) ([10]:aw),()))
 ah)
 ah)
 ah)
 ah)
 (ab<|Sum.inr (0,(a.1.1,()),((),(),a.2.1.2.2),a.2.2.1,())))
def we(x:(List yi)×al):Option (Sb×al) :=
 ag (Loop (mQ x) (((0:Int),()),((),(),()),([]:List (Int)),())) (λa=>ab (bu a.2.2.1,()))
end Go.Ge
namespace Go.Ge
variable [Lp]
set_option maxRecDepth 100000
abbrev b7:=(Sb×Int×Int×Sb×Sb×al)
abbrev jq:=((Sb×Int×Int×Int×Int×Int×Int×Sb×al)×Sb×al)
abbrev tq:=((Sb×al)⊕((Sb×al)⊕(al⊕((b7×al)⊕al))))
abbrev H8:=((List b7)×(List b7)×Int×Sb×Int×al)
abbrev Nc:=(Bool×Int×al)
abbrev ajz:=(Sb×Int×Int×Int×Int×Int×Int×Sb×al)
abbrev H9:=((List b7)×Int×(List b7)×Int×al)
abbrev Ia:=(Sb×Bool×Int×al)
abbrev YG:=((List b7)×(List b7)×Int×Int×al)
abbrev pO:=((List b7)×Int×al)
abbrev S5:=(Sb×(List jq)×Bool×al×al)
abbrev S6:=(Nat×Nc×al)
abbrev alM:=(Bool×(List b7)×Int×al)
abbrev alN:=((Sb×al)⊕(al⊕((b7×al)⊕al)))
abbrev Dq:=(aw×(Int×(Int×(aw×(aw×al)))))
abbrev S7:=((List tq)×Bool×al×Int×al)
abbrev S8:=(Bool×Sb×Int×al)
abbrev S9:=(Nc×al)
abbrev K8:=(Sb×al)
abbrev Ta:=(al×Sb×Int×al)
def iu(c:(List Sb)×al)(a:Ta×(List b7)×al):Option ((Ta×(List b7)×al)⊕(Ta×(List b7)×al)) :=
 dn (ao (aZ a.1.2.2.1<|len c.1)
 (ag (idx c.1 a.1.2.2.1) λd=>ag (oZ (a.1.2.1,d,())) λb=>ao (fits<|plus (len a.2.1)<|len ([(b.1,(2:Int),(0:Int),([]:aw),([]:aw),())]:List b7))
 (ab<|Sum.inl (((),b.1,aH i64 a.1.2.2.1 1,()),app a.2.1 ([(b.1,(2:Int),(0:Int),([]:aw),([]:aw),())]:List b7),()))
 ah)
 (ab<|Sum.inr (0,((),a.1.2.1,a.1.2.2.1,()),a.2.1,())))
def eO(x:b7×al):Option (Bool×al) :=
 ag (gy (x.1.1,())) (λb=>ag (fG (b.1,())) λc=>ag (Loop (iu c) (((),([]:aw),(0:Int),()),([]:List b7),())) λa=>ao (nt<|bG x.1.1 ([]:aw))
 (ao (fits<|plus (len a.2.1)<|len ([x.1]:List b7))
 (ag (eN (app a.2.1 ([x.1]:List b7),())) λd=>ab (aS d.1 0,()))
 ah)
 (ab (false,())))
def mR(x:Sb×al):Option (Bool×al) :=
 ag (ao (nt<|bG x.1 ([]:aw))
 (ag (eO ((x.1,(2:Int),(0:Int),([]:aw),([]:aw),()),())) λa=>ab a.1)
 (ab true)) (λa=>ab (a,()))
def jD(x:K8×(List b7)×al):Option ((List b7)×al) :=
 ag (uo (x.2.1,x.1.1,())) (λa=>ab (a.1,()))
def vJ(x:K8×(List b7)×al):Option pO :=
 ab (x.2.1,(0:Int),())
def gX(x:K8×(List b7)×al):Option ((List b7)×al) :=
 ag (wc (x.2.1,x.1.1,())) (λa=>ab (a.1,()))
def sX(x:K8×(List b7)×al):Option pO :=
 ab (x.2.1,(0:Int),())
def sY(x:al×(List b7)×al):Option ((List b7)×al) :=
 ab (x.2.1,())
def vK(x:al×(List b7)×al):Option pO :=
 ab (x.2.1,(0:Int),())
def sZ(x:(b7×al)×(List b7)×al):Option ((List b7)×al) :=
 ab (x.2.1,())
def fR(d:(List Sb)×al)(a:H8×al):Option ((H8×al)⊕(Nat×H8×al)) :=
 ao (aZ a.1.2.2.2.2.1<|len d.1)
 (ag (idx d.1 a.1.2.2.2.2.1) λf=>ag (oZ (a.1.2.2.2.1,f,())) λb=>ag (yh (a.1.1,b.1,())) λe=>ao (ao e.2.1
 (aS e.1.2.1 2)
 false)
 (ab<|Sum.inl ((a.1.1,a.1.2.1,a.1.2.2.1,b.1,aH i64 a.1.2.2.2.2.1 1,()),()))
 (ag (tp (a.1.1,(b.1,(2:Int),(493:Int),([]:aw),([]:aw),()),())) λc=>ao (nt<|aS c.2.1 0)
 (ab<|Sum.inr (1,(a.1.1,([]:List b7),c.2.1,b.1,a.1.2.2.2.2.1,()),()))
 (ab<|Sum.inl ((c.1,a.1.2.1,a.1.2.2.1,b.1,aH i64 a.1.2.2.2.2.1 1,()),()))))
 (ab<|Sum.inr (0,(a.1.1,a.1.2.1,a.1.2.2.1,a.1.2.2.2.1,a.1.2.2.2.2.1,()),()))
def kW(x:(b7×al)×(List b7)×al):Option pO :=
 ag (gy (x.1.1.1,())) (λc=>ag (fG (c.1,())) λd=>ag (Loop (fR d) ((x.2.1,([]:List b7),(0:Int),([]:aw),(0:Int),()),())) λa=>ao (da a.1 0)
 (ag (tp (a.2.1.1,x.1.1,())) λb=>ab (b.1,b.2.1,()))
 (ab (a.2.1.2.1,a.2.1.2.2.1,())))
def sk(x:jq×al):Option (tq×Bool×al) :=
 ag (p6 (x.1.1.1,())) (λb=>ao (nt<|aS b.2.1 0)
 (ab ((Sum.inr<|Sum.inr<|Sum.inr<|Sum.inr ()),false,()))
 (ag (gy (b.1,())) λc=>ag (r8 (c.2.1,())) λd=>ao (aS d.1 1)
 (ag (oZ (c.1,d.2.1,())) λa=>ag (ao (ao (aS x.1.1.2.1 1)
 (bG x.1.2.1 ([]:aw))
 false)
 (ag (mR (a.1,())) λe=>ab e.1)
 (ab false)) λe=>ab ((Sum.inl (a.1,())),e,()))
 (ao (aS d.1 2)
 (ag (ao (ao (aS x.1.1.2.1 1)
 (bG x.1.2.1 ([]:aw))
 false)
 (ag (mR (c.1,())) λa=>ab a.1)
 (ab false)) λa=>ab ((Sum.inr<|Sum.inl (c.1,())),a,()))
 (ao (aS d.1 3)
 (ab ((Sum.inr<|Sum.inr<|Sum.inr<|Sum.inr ()),false,()))
 (ao (ao (bG b.1 ([]:aw))
 (aS x.1.1.2.1 2)
 false)
 (ab ((Sum.inr<|Sum.inr<|Sum.inl ()),true,()))
 (ag (eO ((b.1,x.1.1.2.1,x.1.1.2.2.1,x.1.2.1,x.1.1.2.2.2.2.2.2.2.1,()),())) λa=>ab ((Sum.inr<|Sum.inr<|Sum.inr<|Sum.inl ((b.1,x.1.1.2.1,x.1.1.2.2.1,x.1.2.1,x.1.1.2.2.2.2.2.2.2.1,()),())),a.1,())))))))
def gr(x:(List jq)×al)(a:S7×(List tq)×al):Option ((S7×(List tq)×al)⊕(Nat×S7×(List tq)×al)) :=
 ao (aZ a.1.2.2.2.1<|len x.1)
 (ag (idx x.1 a.1.2.2.2.1) λc=>ag (sk (c,())) λb=>ao (nt b.2.1)
 (ab<|Sum.inr (1,(([]:List tq),false,(),a.1.2.2.2.1,()),a.2.1,()))
 (ao (fits<|plus (len a.2.1)<|len ([b.1]:List tq))
 (ab<|Sum.inl ((a.1.1,a.1.2.1,(),aH i64 a.1.2.2.2.1 1,()),app a.2.1 ([b.1]:List tq),()))
 ah))
 (ab<|Sum.inr (0,(a.1.1,a.1.2.1,(),a.1.2.2.2.1,()),a.2.1,()))
def mS(x:(List jq)×al):Option ((List tq)×Bool×al) :=
 ag (Loop (gr x) ((([]:List tq),false,(),(0:Int),()),([]:List tq),())) (λa=>ao (da a.1 0)
 (ab (a.2.2.1,true,()))
 (ab (a.2.1.1,a.2.1.2.1,())))
def sn(x:(((aw×al)⊕((aw×al)⊕(al⊕((Dq×al)⊕al))))×((List Dq)×al))):Option ((List Dq)×al) :=
 (λz=>pick (λy=>jD (y,x.2)) (λz=>pick (λy=>gX (y,x.2)) (λz=>pick (λy=>sY (y,x.2)) (λz=>pick (λy=>sZ (y,x.2)) (λ_=>ah) z) z) z) z) x.1
def xp(x:(((aw×al)⊕((aw×al)⊕(al⊕((Dq×al)⊕al))))×((List Dq)×al))):Option ((List Dq)×(Int×al)) :=
 (λz=>pick (λy=>vJ (y,x.2)) (λz=>pick (λy=>sX (y,x.2)) (λz=>pick (λy=>vK (y,x.2)) (λz=>pick (λy=>kW (y,x.2)) (λ_=>ah) z) z) z) z) x.1
def lH(b:(List tq)×Bool×al)(a:pO×al):Option ((pO×al)⊕(pO×al)) :=
 dn (ao (aZ a.1.2.1<|len b.1)
 (ag (idx b.1 a.1.2.1) λc=>ag (sn (c,a.1.1,())) λd=>ab (Sum.inl ((d.1,aH i64 a.1.2.1 1,()),())))
 (ab<|Sum.inr (0,(a.1.1,a.1.2.1,()),())))
def lI(c:(List tq)×Bool×al)(a:H9×al):Option ((H9×al)⊕(Nat×H9×al)) :=
 ao (aZ a.1.2.2.2.1<|len c.1)
 (ag (idx c.1 a.1.2.2.2.1) λd=>ag (xp (d,a.1.2.2.1,())) λb=>ao (nt<|aS b.2.1 0)
 (ab<|Sum.inr (1,(([]:List b7),b.2.1,a.1.2.2.1,a.1.2.2.2.1,()),()))
 (ab<|Sum.inl ((a.1.1,a.1.2.1,b.1,aH i64 a.1.2.2.2.1 1,()),())))
 (ab<|Sum.inr (0,(a.1.1,a.1.2.1,a.1.2.2.1,a.1.2.2.2.1,()),()))
def ur(x:(List b7)×(List jq)×al):Option pO :=
 ag (eN (x.1,())) (λc=>ao (nt<|aS c.1 0)
 (ab (([]:List b7),(1:Int),()))
 (ag (mS (x.2.1,())) λb=>ao (nt b.2.1)
 (ab (([]:List b7),(10:Int),()))
 (ao (fits<|plus (len ([]:List b7))<|len x.1)
 (ag (Loop (lH b) ((app ([]:List b7) x.1,(0:Int),()),())) λd=>ag (Loop (lI b) ((([]:List b7),(0:Int),d.1.1,(0:Int),()),())) λa=>ao (da a.1 0)
 (ab (a.2.1.2.2.1,(0:Int),()))
 (ab (a.2.1.1,a.2.1.2.1,())))
 ah)))
def hR(x:Sb×al):Option (Int×al) :=
 ag (fo (x.1,())) (λa=>ag (mS (a.1,())) λb=>ao (ao (nt<|nt<|aS a.2.1 0)
 (nt b.2.1)
 true)
 (ab ((10:Int),()))
 (ab ((0:Int),())))
def so(x:jq×Sb×al):Option (b7×al) :=
 ab ((x.2.1,x.1.1.2.1,x.1.1.2.2.1,x.1.2.1,x.1.1.2.2.2.2.2.2.2.1,()),())
def gY(c:(List Sb)×al)(a:S8×al):Option ((S8×al)⊕(Nat×S8×al)) :=
 ao (aZ a.1.2.2.1<|len c.1)
 (ag (idx c.1 a.1.2.2.1) λd=>ag (pa (a.1.2.1,d,())) λb=>ag (lZ ((b.1,(2:Int),(0:Int),([]:aw),([]:aw),()),())) λe=>ao (nt e.1)
 (ab<|Sum.inr (1,(false,b.1,a.1.2.2.1,()),()))
 (ab<|Sum.inl ((a.1.1,b.1,aH i64 a.1.2.2.1 1,()),())))
 (ab<|Sum.inr (0,(a.1.1,a.1.2.1,a.1.2.2.1,()),()))
def lJ(x:Sb×al):Option (Bool×al) :=
 ag (eE (x.1,())) (λb=>ag (Loop (gY b) ((false,([]:aw),(0:Int),()),())) λa=>ao (da a.1 0)
 (ab (nt<|bG x.1 ([]:aw),()))
 (ab (a.2.1.1,())))
def pq(x:jq×al):Option (Int×Sb×Bool×al) :=
 ag (uc (x.1.1.1,())) (λc=>ao (nt<|aS c.2.1 0)
 (ab ((0:Int),([]:aw),false,()))
 (ag (kx (c.1,())) λd=>ag (sa (d.2.1,())) λb=>ao (aS b.1 1)
 (ag (pa (d.1,b.2.1,())) λa=>ag (ao (ao (aS x.1.1.2.1 1)
 (bG x.1.2.1 ([]:aw))
 false)
 (ag (lJ (a.1,())) λe=>ab e.1)
 (ab false)) λe=>ab (b.1,a.1,e,()))
 (ao (aS b.1 2)
 (ag (ao (ao (aS x.1.1.2.1 1)
 (bG x.1.2.1 ([]:aw))
 false)
 (ag (ao (nt<|bG d.1 ([]:aw))
 (ag (lJ (d.1,())) λa=>ab a.1)
 (ab true)) λa=>ab a)
 (ab false)) λa=>ab (b.1,d.1,a,()))
 (ao (aS b.1 0)
 (ag (ao (nt<|ao (bG c.1 ([]:aw))
 (aS x.1.1.2.1 2)
 false)
 (ag (so (x.1,c.1,())) λa=>ag (lZ (a.1,())) λe=>ag (ao e.1
 (ag (lJ (c.1,())) λf=>ab f.1)
 (ab false)) λf=>ab f)
 (ab true)) λa=>ab (b.1,c.1,a,()))
 (ab ((0:Int),([]:aw),false,()))))))
def pr(x:(List jq)×al)(a:Nc×al):Option (S9⊕S6) :=
 ao (aZ a.1.2.1<|len x.1)
 (ag (idx x.1 a.1.2.1) λb=>ag (pq (b,())) λc=>ao (nt c.2.2.1)
 (ab<|Sum.inr (1,(false,a.1.2.1,()),()))
 (ab<|Sum.inl ((a.1.1,aH i64 a.1.2.1 1,()),())))
 (ab<|Sum.inr (0,(a.1.1,a.1.2.1,()),()))
def p9(x:(List jq)×al):Option (Bool×al) :=
 ag (Loop (pr x) ((false,(0:Int),()),())) (λa=>ao (da a.1 0)
 (ab (true,()))
 (ab (a.2.1.1,())))
def mT(d:(List Sb)×al)(a:H8×al):Option ((H8×al)⊕(Nat×H8×al)) :=
 ao (aZ (aH i64 a.1.2.2.2.2.1 1)<|len d.1)
 (ag (idx d.1 a.1.2.2.2.2.1) λf=>ag (pa (a.1.2.2.2.1,f,())) λb=>ag (wa (a.1.1,b.1,())) λe=>ao (ao e.2.1
 (aS e.1.2.1 2)
 false)
 (ab<|Sum.inl ((a.1.1,a.1.2.1,a.1.2.2.1,b.1,aH i64 a.1.2.2.2.2.1 1,()),()))
 (ag (oz (a.1.1,(b.1,(2:Int),(493:Int),([]:aw),([]:aw),()),())) λc=>ao (nt<|aS c.2.1 0)
 (ab<|Sum.inr (1,(a.1.1,([]:List b7),c.2.1,b.1,a.1.2.2.2.2.1,()),()))
 (ab<|Sum.inl ((c.1,a.1.2.1,a.1.2.2.1,b.1,aH i64 a.1.2.2.2.2.1 1,()),()))))
 (ab<|Sum.inr (0,(a.1.1,a.1.2.1,a.1.2.2.1,a.1.2.2.2.1,a.1.2.2.2.2.1,()),()))
def wg(x:(List b7)×Sb×al):Option pO :=
 ag (eE (x.2.1,())) (λb=>ag (Loop (mT b) ((x.1,([]:List b7),(0:Int),([]:aw),(0:Int),()),())) λa=>ao (da a.1 0)
 (ab (a.2.1.1,(0:Int),()))
 (ab (a.2.1.2.1,a.2.1.2.2.1,())))
def oA(x:(List b7)×(List jq)×al)(a:pO×al):Option ((pO×al)⊕(pO×al)) :=
 dn (ao (aZ a.1.2.1<|len x.2.1)
 (ag (idx x.2.1 a.1.2.1) λd=>ag (pq (d,())) λc=>ag (ao (aS c.1 1)
 (ag (sj (a.1.1,c.2.1,())) λb=>ab ((b.1,()),()))
 (ag (ao (aS c.1 2)
 (ag (uq (a.1.1,c.2.1,())) λb=>ab ((b.1,()),()))
 (ab ((a.1.1,()),()))) λb=>ab ((b.1.1,()),()))) λb=>ab (Sum.inl ((b.1.1,aH i64 a.1.2.1 1,()),())))
 (ab<|Sum.inr (0,(a.1.1,a.1.2.1,()),())))
def oB(x:(List b7)×(List jq)×al)(a:YG×al):Option ((YG×al)⊕(Nat×YG×al)) :=
 ao (aZ a.1.2.2.2.1<|len x.2.1)
 (ag (idx x.2.1 a.1.2.2.2.1) λe=>ag (pq (e,())) λc=>ao (ao (nt<|nt<|aS c.1 0)
 (bG c.2.1 ([]:aw))
 true)
 (ab<|Sum.inl ((a.1.1,a.1.2.1,a.1.2.2.1,aH i64 a.1.2.2.2.1 1,()),()))
 (ag (wg (a.1.1,c.2.1,())) λd=>ao (nt<|aS d.2.1 0)
 (ab<|Sum.inr (1,(a.1.1,([]:List b7),d.2.1,a.1.2.2.2.1,()),()))
 (ag (idx x.2.1 a.1.2.2.2.1) λf=>ag (so (f,c.2.1,())) λg=>ag (oz (d.1,g.1,())) λb=>ao (nt<|aS b.2.1 0)
 (ab<|Sum.inr (1,(a.1.1,([]:List b7),b.2.1,a.1.2.2.2.1,()),()))
 (ab<|Sum.inl ((b.1,a.1.2.1,a.1.2.2.1,aH i64 a.1.2.2.2.1 1,()),())))))
 (ab<|Sum.inr (0,(a.1.1,a.1.2.1,a.1.2.2.1,a.1.2.2.2.1,()),()))
def yj(x:(List b7)×(List jq)×al):Option pO :=
 ag (mm (x.1,())) (λb=>ao (nt b.1)
 (ab (([]:List b7),(1:Int),()))
 (ag (p9 (x.2.1,())) λc=>ao (nt c.1)
 (ab (([]:List b7),(10:Int),()))
 (ag (Loop (oA x) ((x.1,(0:Int),()),())) λd=>ag (Loop (oB x) ((d.1.1,([]:List b7),(0:Int),(0:Int),()),())) λa=>ao (da a.1 0)
 (ab (a.2.1.1,(0:Int),()))
 (ab (a.2.1.2.1,a.2.1.2.2.1,())))))
def jS(x:(List b7)×Sb×al):Option pO :=
 ag (fo (x.2.1,())) (λb=>ag (ao (nt<|aS b.2.1 0)
 (ag (eN (x.1,())) λa=>ab (aS a.1 0))
 (ab false)) λa=>ao a
 (ab (([]:List b7),(10:Int),()))
 (ag (ur (x.1,b.1,())) λc=>ab (c.1,c.2.1,())))
def qG(x:Sb×al)(a:Nc×al):Option (S9⊕S6) :=
 ao (aZ a.1.2.1<|len x.1)
 (ag (idx x.1 a.1.2.1) λb=>ao (nt<|aS (u8 b) 0)
 (ab<|Sum.inr (1,(false,a.1.2.1,()),()))
 (ab<|Sum.inl ((a.1.1,aH i64 a.1.2.1 1,()),())))
 (ab<|Sum.inr (0,(a.1.1,a.1.2.1,()),()))
def wi(x:Sb×al):Option (Bool×al) :=
 ag (Loop (qG x) ((false,(0:Int),()),())) (λa=>ao (da a.1 0)
 (ab (aS (len x.1) 512,()))
 (ab (a.2.1.1,())))
def qH(x:Sb×al)(a:Nc×al):Option (S9⊕S6) :=
 ao (aZ a.1.2.1<|len x.1)
 (ag (idx x.1 a.1.2.1) λb=>ao (nt<|aS (u8 b) 0)
 (ab<|Sum.inr (1,(false,a.1.2.1,()),()))
 (ab<|Sum.inl ((a.1.1,aH i64 a.1.2.1 1,()),())))
 (ab<|Sum.inr (0,(a.1.1,a.1.2.1,()),()))
def wj(x:Sb×al):Option (Bool×al) :=
 ag (ao (nt<|aZ (len x.1) 1024)
 (ao (aS 512 0)
 ah
 (ab<|nt<|aS (jK (len x.1) 512) 0))
 (ab true)) (λb=>ao b
 (ab (false,()))
 (ag (Loop (qH x) ((false,(0:Int),()),())) λa=>ao (da a.1 0)
 (ab (true,()))
 (ab (a.2.1.1,()))))
def nO(x:Sb×al)(a:(Int×al)×al):Option (((Int×al)×al)⊕((Int×al)×al)) :=
 dn (ag (ao (aZ a.1.1<|len x.1)
 (ag (idx x.1 a.1.1) λb=>ab (cj 48<|u8 b))
 (ab false)) λb=>ag (ao b
 (ag (idx x.1 a.1.1) λc=>ab (cj (u8 c) 55))
 (ab false)) λc=>ao c
 (ab<|Sum.inl ((aH i64 a.1.1 1,()),()))
 (ab<|Sum.inr (0,(a.1.1,()),())))
def nP(x:Sb×al)(a:(Int×Int×al)×al):Option (((Int×Int×al)×al)⊕(Nat×(Int×Int×al)×al)) :=
 ao (aZ a.1.2.1<|len x.1)
 (ag (idx x.1 a.1.2.1) λc=>ag (ao (nt<|aS (u8 c) 0)
 (ag (idx x.1 a.1.2.1) λb=>ab (nt<|aS (u8 b) 32))
 (ab false)) λb=>ao b
 (ab<|Sum.inr (1,((-1:Int),a.1.2.1,()),()))
 (ab<|Sum.inl ((a.1.1,aH i64 a.1.2.1 1,()),())))
 (ab<|Sum.inr (0,(a.1.1,a.1.2.1,()),()))
def fS(x:Sb×al):Option (Int×al) :=
 ag (Loop (nO x) (((0:Int),()),())) (λa=>ao (aS a.1.1<|len x.1)
 (ab ((-1:Int),()))
 (ag (Loop (nP x) (((0:Int),a.1.1,()),())) λb=>ao (da b.1 0)
 (ao (inside 0 a.1.1<|len x.1)
 (ag (nI (sub x.1 (0:Int)<|minus a.1.1 0,())) λc=>ao (nt c.2.1)
 (ab ((-1:Int),()))
 (ab (c.1,())))
 ah)
 (ab (b.2.1.1,()))))
def hS(x:Sb×al)(a:Ia×al):Option ((Ia×al)⊕(Nat×Ia×al)) :=
 ao (aZ a.1.2.2.1<|len x.1)
 (ag (idx x.1 a.1.2.2.1) λb=>ao (nt<|aS (u8 b) 0)
 (ab<|Sum.inr (1,(([]:aw),false,a.1.2.2.1,()),()))
 (ab<|Sum.inl ((a.1.1,a.1.2.1,aH i64 a.1.2.2.1 1,()),())))
 (ab<|Sum.inr (0,(a.1.1,a.1.2.1,a.1.2.2.1,()),()))
def dW(x:Sb×al)(a:Ia×al):Option ((Ia×al)⊕(Nat×Ia×al)) :=
 ao (aZ a.1.2.2.1<|len x.1)
 (ag (idx x.1 a.1.2.2.1) λc=>ao (aS (u8 c) 0)
 (ag (Loop (hS x) ((a.1.1,a.1.2.1,a.1.2.2.1,()),())) λb=>ao (da b.1 0)
 (ao (inside 0 a.1.2.2.1<|len x.1)
 (ab<|Sum.inr (1,(sub x.1 (0:Int)<|minus a.1.2.2.1 0,true,a.1.2.2.1,()),()))
 ah)
 (ab<|Sum.inr (1,(b.2.1.1,b.2.1.2.1,a.1.2.2.1,()),())))
 (ab<|Sum.inl ((a.1.1,a.1.2.1,aH i64 a.1.2.2.1 1,()),())))
 (ab<|Sum.inr (0,(a.1.1,a.1.2.1,a.1.2.2.1,()),()))
def pt(x:Sb×al):Option (Sb×Bool×al) :=
 ag (Loop (dW x) ((([]:aw),false,(0:Int),()),())) (λa=>ao (da a.1 0)
 (ab (x.1,true,()))
 (ab (a.2.1.1,a.2.1.2.1,())))
def pv(x:Sb×al):Option (ajz×Int×al) :=
 ag (ao (nt<|nt<|aS (len x.1) 512)
 (ao (inside 257 265<|len x.1)
 (ab<|nt<|bG (sub x.1 (257:Int)<|minus 265 257) ([117,115,116,97,114,0,48,48]:aw))
 ah)
 (ab true)) (λm=>ag (ao (nt m)
 (ao (inside 148 156<|len x.1)
 (ag (fS (sub x.1 (148:Int)<|minus 156 148,())) λg=>ag (yc (x.1,())) λd=>ab (nt<|aS g.1 d.1))
 ah)
 (ab true)) λg=>ao g
 (ab ((([]:aw),(0:Int),(0:Int),(0:Int),(0:Int),(0:Int),(0:Int),([]:aw),()),(2:Int),()))
 (ao (inside 0 100<|len x.1)
 (ag (pt (sub x.1 (0:Int)<|minus 100 0,())) λd=>ao (inside 157 257<|len x.1)
 (ag (pt (sub x.1 (157:Int)<|minus 257 157,())) λh=>ao (inside 345 500<|len x.1)
 (ag (pt (sub x.1 (345:Int)<|minus 500 345,())) λe=>ao (inside 100 108<|len x.1)
 (ag (fS (sub x.1 (100:Int)<|minus 108 100,())) λi=>ao (inside 108 116<|len x.1)
 (ag (fS (sub x.1 (108:Int)<|minus 116 108,())) λj=>ao (inside 116 124<|len x.1)
 (ag (fS (sub x.1 (116:Int)<|minus 124 116,())) λk=>ao (inside 124 136<|len x.1)
 (ag (fS (sub x.1 (124:Int)<|minus 136 124,())) λl=>ao (inside 136 148<|len x.1)
 (ag (fS (sub x.1 (136:Int)<|minus 148 136,())) λf=>ag (ao (nt<|bG e.1 ([]:aw))
 (ao (fits<|plus (len e.1)<|len ([47]:aw))
 (ao (fits<|plus (len<|app e.1 ([47]:aw))<|len d.1)
 (ab ((),(app (app e.1 ([47]:aw)) d.1,(0:Int),i.1,j.1,k.1,l.1,f.1,([]:aw),()),()))
 ah)
 ah)
 (ab ((),(d.1,(0:Int),i.1,j.1,k.1,l.1,f.1,([]:aw),()),()))) λa=>ag (idx x.1 (156:Int)) λb=>ag (ao (nt<|ao (nt<|ao (nt<|nt d.2.1)
 (nt h.2.1)
 true)
 (nt e.2.1)
 true)
 (ag (uX (((ao (((ao (aS (u8 b) 48)
 ((aS (u8 b) 48,()),())
 ((aS (u8 b) 0,()),())).1).1)
 ((),(a.2.1.1,(1:Int),a.2.1.2.2),())
 ((),((ao (aS (u8 b) 53)
 ((),(a.2.1.1,(2:Int),a.2.1.2.2),())
 ((),((ao (aS (u8 b) 50)
 ((),(a.2.1.1,(3:Int),a.2.1.2.2.1,a.2.1.2.2.2.1,a.2.1.2.2.2.2.1,a.2.1.2.2.2.2.2.1,a.2.1.2.2.2.2.2.2.1,h.1,a.2.1.2.2.2.2.2.2.2.2),())
 ((),a.2.1,())).2).1,())).2).1,())).2).1,(256:Int),())) λc=>ab (nt c.1))
 (ab true)) λc=>ao c
 (ab ((([]:aw),(0:Int),(0:Int),(0:Int),(0:Int),(0:Int),(0:Int),([]:aw),()),(2:Int),()))
 (ab (((ao (((ao (aS (u8 b) 48)
 ((aS (u8 b) 48,()),())
 ((aS (u8 b) 0,()),())).1).1)
 ((),(a.2.1.1,(1:Int),a.2.1.2.2),())
 ((),((ao (aS (u8 b) 53)
 ((),(a.2.1.1,(2:Int),a.2.1.2.2),())
 ((),((ao (aS (u8 b) 50)
 ((),(a.2.1.1,(3:Int),a.2.1.2.2.1,a.2.1.2.2.2.1,a.2.1.2.2.2.2.1,a.2.1.2.2.2.2.2.1,a.2.1.2.2.2.2.2.2.1,h.1,a.2.1.2.2.2.2.2.2.2.2),())
 ((),a.2.1,())).2).1,())).2).1,())).2).1,(0:Int),())))
 ah)
 ah)
 ah)
 ah)
 ah)
 ah)
 ah)
 ah))
def eP(a:S5×(List jq)×al):Option ((S5×(List jq)×al)⊕(Nat×S5×(List jq)×al)) :=
 ao (cj 512<|len a.1.1)
 (ao (inside 0 512<|len a.1.1)
 (ag (wi (sub a.1.1 (0:Int)<|minus 512 0,())) λe=>ao e.1
 (ag (wj (a.1.1,())) λb=>ab (Sum.inr (1,(a.1.1,a.2.1,b.1,(),()),a.2.1,())))
 (ao (inside 0 512<|len a.1.1)
 (ag (pv (sub a.1.1 (0:Int)<|minus 512 0,())) λb=>ag (ao (nt<|ao (nt<|nt<|aS b.2.1 0)
 (aZ 8192 b.1.2.2.2.2.2.1)
 true)
 (ag (nj (b.1.2.2.2.2.2.1,())) λc=>ab (aZ (len a.1.1)<|aH i64 512 c.1))
 (ab true)) λc=>ao (ao (nt c)
 (cj 64<|len a.2.1)
 true)
 (ab<|Sum.inr (1,(a.1.1,a.2.1,false,(),()),a.2.1,()))
 (ao (inside 512 (aH i64 512 b.1.2.2.2.2.2.1)<|len a.1.1)
 (ao (fits<|plus (len a.2.1)<|len ([(b.1,sub a.1.1 (512:Int)<|minus (aH i64 512 b.1.2.2.2.2.2.1) 512,())]:List jq))
 (ag (nj (b.1.2.2.2.2.2.1,())) λd=>ao (inside (aH i64 512 d.1) (len a.1.1)<|len a.1.1)
 (ab<|Sum.inl ((sub a.1.1 (aH i64 512 d.1)<|minus (len a.1.1)<|aH i64 512 d.1,a.1.2.1,a.1.2.2.1,(),()),app a.2.1 ([(b.1,sub a.1.1 (512:Int)<|minus (aH i64 512 b.1.2.2.2.2.2.1) 512,())]:List jq),()))
 ah)
 ah)
 ah))
 ah))
 ah)
 (ab<|Sum.inr (0,(a.1.1,a.1.2.1,a.1.2.2.1,(),()),a.2.1,()))
def uu(x:Sb×al):Option ((List jq)×Bool×al) :=
 ao (aZ 8192<|len x.1)
 (ab (([]:List jq),false,()))
 (ag (Loop (eP) ((x.1,([]:List jq),false,(),()),([]:List jq),())) λa=>ao (da a.1 0)
 (ab (a.2.2.1,false,()))
 (ab (a.2.1.2.1,a.2.1.2.2.1,())))
def mn(x:Sb×al):Option ((List jq)×Int×al) :=
 ag (uu (x.1,())) (λa=>ao (nt a.2.1)
 (ab (([]:List jq),(10:Int),()))
 (ab (a.1,(0:Int),())))
def nr(x:Sb×al):Option (Int×al) :=
 ag (mn (x.1,())) (λb=>ag (ao (nt<|nt<|aS b.2.1 0)
 (ag (p9 (b.1,())) λa=>ab (nt a.1))
 (ab true)) λa=>ao a
 (ab ((10:Int),()))
 (ab ((0:Int),())))
def uv(x:(List b7)×Sb×al):Option pO :=
 ag (mm (x.1,())) (λc=>ao (nt c.1)
 (ab (([]:List b7),(1:Int),()))
 (ag (nr (x.2.1,())) λa=>ao (nt<|aS a.1 0)
 (ab (([]:List b7),a.1,()))
 (ag (mn (x.2.1,())) λd=>ag (yj (x.1,d.1,())) λb=>ab (b.1,b.2.1,()))))
def gu(x:(List Sb)×al)(a:H9×al):Option ((H9×al)⊕(Nat×H9×al)) :=
 ao (aZ a.1.2.2.2.1<|len x.1)
 (ag (idx x.1 a.1.2.2.2.1) λc=>ag (jS (a.1.2.2.1,c,())) λb=>ao (nt<|aS b.2.1 0)
 (ab<|Sum.inr (1,(([]:List b7),b.2.1,a.1.2.2.1,a.1.2.2.2.1,()),()))
 (ab<|Sum.inl ((a.1.1,a.1.2.1,b.1,aH i64 a.1.2.2.2.1 1,()),())))
 (ab<|Sum.inr (0,(a.1.1,a.1.2.1,a.1.2.2.1,a.1.2.2.2.1,()),()))
def qa(x:(List Sb)×al):Option pO :=
 ag (Loop (gu x) ((([]:List b7),(0:Int),([]:List b7),(0:Int),()),())) (λa=>ao (da a.1 0)
 (ab (a.2.1.2.2.1,(0:Int),()))
 (ab (a.2.1.1,a.2.1.2.1,())))
end Go.Ge
namespace Go.Ge
variable [Lp]
set_option maxRecDepth 100000
abbrev dH:=(Sb×Sb×(List Sb)×Sb×Int×Int×Bool×al)
abbrev wk:=(Sb×(List Sb)×Sb×Sb×Sb×(List<|Sb×Sb×Sb×al)×al)
abbrev wm:=(Sb×(List Sb)×Sb×Sb×(List<|Sb×Sb×Sb×al)×al)
abbrev kX:=((List wk)×(List wm)×(List dH)×(List Sb)×(List<|Sb×Int×al)×al)
abbrev yk:=(Sb×Int×Int×Sb×Sb×al)
abbrev pw:=(Bool×Int×al)
abbrev Dr:=((al×al×Int×al)×(List Sb)×(List Sb)×al)
abbrev wo:=(Nat×(Int×Int×al)×al)
abbrev ahB:=(List<|Sb×Sb×Sb×al)
abbrev uw:=(Nat×pw×al)
abbrev Nf:=(Sb×(List dH)×Int×al×Int×al)
abbrev sq:=((Int×Int×al)×al)
abbrev ak6:=((Nat×(al×al×Int×al)×(List Sb)×(List Sb)×al))
abbrev Ng:=((List yk)×Int×(List yk)×Int×al)
abbrev mU:=(pw×al)
abbrev u0:=(Int×(List dH)×(List wm)×(List wk)×al)
abbrev GH:=(Sb×Int×al)
def sr(x:(List dH)×al)(a:pw×al):Option (mU⊕uw) :=
 ao (ao (aZ a.1.2.1<|len x.1)
 (aZ a.1.2.1 40)
 false)
 (ag (idx x.1 a.1.2.1) λc=>ag (ao (nt<|aZ 100<|len c.1)
 (ag (idx x.1 a.1.2.1) λb=>ab (aZ 100<|len b.2.1))
 (ab true)) λb=>ao b
 (ab<|Sum.inr (1,(false,a.1.2.1,()),()))
 (ab<|Sum.inl ((a.1.1,aH i64 a.1.2.1 1,()),())))
 (ab<|Sum.inr (0,(a.1.1,a.1.2.1,()),()))
def yl(x:(List dH)×al):Option (Bool×al) :=
 ag (Loop (sr x) ((false,(0:Int),()),())) (λa=>ao (da a.1 0)
 (ab (cj (len x.1) 40,()))
 (ab (a.2.1.1,())))
def ss(x:kX×al)(a:pw×al):Option (mU⊕uw) :=
 ao (ao (aZ a.1.2.1<|len x.1.2.2.2.1)
 (aZ a.1.2.1 12)
 false)
 (ag (idx x.1.2.2.2.1 a.1.2.1) λb=>ao (aZ 8192<|len b)
 (ab<|Sum.inr (1,(false,a.1.2.1,()),()))
 (ab<|Sum.inl ((a.1.1,aH i64 a.1.2.1 1,()),())))
 (ab<|Sum.inr (0,(a.1.1,a.1.2.1,()),()))
def ym(x:kX×al):Option (Bool×al) :=
 ag (Loop (ss x) ((false,(0:Int),()),())) (λb=>ao (da b.1 0)
 (ag (rl (((0:Int),x.1.2.2.1,x.1.2.1,x.1.1,()),())) λc=>ag (ao c.1
 (ag (yl (x.1.2.2.1,())) λa=>ab a.1)
 (ab false)) λa=>ab (ao (ao (ao a
 (cj (len x.1.2.2.1) 12)
 false)
 (cj (len x.1.2.2.2.1) 12)
 false)
 (cj (len x.1.2.2.2.2.1) 40)
 false,()))
 (ab (b.2.1.1,())))
def gB(x:Sb×al):Option (Bool×al) :=
 ag (p5 (x.1,())) (λa=>ab (ao a.2.1
 (aS (len x.1) 6)
 false,()))
def gC(x:dH×al):Option (Bool×al) :=
 ag (gB (x.1.1,())) (λd=>ag (ao d.1
 (ag (ao (nt<|bG x.1.2.1 ([]:aw))
 (ag (gB (x.1.2.1,())) λa=>ab (ao a.1
 (nt<|bG x.1.2.1 x.1.1)
 false))
 (ab true)) λa=>ab a)
 (ab false)) λa=>ag (ao a
 (ag (nk (x.1.2.2.1,())) λb=>ab b.1)
 (ab false)) λb=>ag (ao b
 (ag (fE (x.1.2.2.2.1,())) λc=>ab (aS c.1 0))
 (ab false)) λc=>ab (ao (ao (ao (ao c
 (cj 0 x.1.2.2.2.2.1)
 false)
 (cj x.1.2.2.2.2.1 8192)
 false)
 (cj 0 x.1.2.2.2.2.2.1)
 false)
 (cj x.1.2.2.2.2.2.1 32)
 false,()))
def qb(x:wm×al):Option (Bool×al) :=
 ag (gB (x.1.1,())) (λd=>ag (ao d.1
 (ag (nk (x.1.2.1,())) λb=>ab b.1)
 (ab false)) λb=>ag (ao b
 (ag (ao (nt<|bG x.1.2.2.1 ([]:aw))
 (ag (gB (x.1.2.2.1,())) λa=>ab a.1)
 (ab true)) λa=>ab a)
 (ab false)) λa=>ag (ao (ao a
 (cj (len x.1.2.2.2.1) 64)
 false)
 (ag (np (x.1.2.2.2.2.1,())) λc=>ab c.1)
 (ab false)) λc=>ab (c,()))
def u5(x:wk×al):Option (Bool×al) :=
 ag (gB (x.1.1,())) (λe=>ag (ao e.1
 (ag (nk (x.1.2.1,())) λb=>ab b.1)
 (ab false)) λb=>ag (ao b
 (ag (ao (nt<|bG x.1.2.2.1 ([]:aw))
 (ag (gB (x.1.2.2.1,())) λa=>ab a.1)
 (ab true)) λa=>ab a)
 (ab false)) λa=>ag (ao a
 (ag (gB (x.1.2.2.2.1,())) λc=>ab c.1)
 (ab false)) λc=>ag (ao (ao c
 (cj (len x.1.2.2.2.2.1) 64)
 false)
 (ag (np (x.1.2.2.2.2.2.1,())) λd=>ab d.1)
 (ab false)) λd=>ab (d,()))
def Ib(x:u0×al)(a:(al×al×Int×al)×(List Sb)×(List Sb)×al):Option (Dr⊕Dr) :=
 dn (ao (aZ a.1.2.2.1<|len x.1.2.1)
 (ag (idx x.1.2.1 a.1.2.2.1) λb=>ao (fits<|plus (len a.2.2.1)<|len ([b.1]:List Sb))
 (ag (idx x.1.2.1 a.1.2.2.1) λc=>ao (fits<|plus (len a.2.1)<|len c.2.2.1)
 (ab<|Sum.inl (((),(),aH i64 a.1.2.2.1 1,()),app a.2.1 c.2.2.1,app a.2.2.1 ([b.1]:List Sb),()))
 ah)
 ah)
 (ab<|Sum.inr (0,((),(),a.1.2.2.1,()),a.2.1,a.2.2.1,())))
def Ic(x:u0×al)(a:(al×al×Int×al)×(List Sb)×(List Sb)×al):Option (Dr⊕Dr) :=
 dn (ao (aZ a.1.2.2.1<|len x.1.2.2.1)
 (ag (idx x.1.2.2.1 a.1.2.2.1) λb=>ao (fits<|plus (len a.2.2.1)<|len ([b.1]:List Sb))
 (ag (idx x.1.2.2.1 a.1.2.2.1) λc=>ao (fits<|plus (len a.2.1)<|len c.2.1)
 (ab<|Sum.inl (((),(),aH i64 a.1.2.2.1 1,()),app a.2.1 c.2.1,app a.2.2.1 ([b.1]:List Sb),()))
 ah)
 ah)
 (ab<|Sum.inr (0,((),(),a.1.2.2.1,()),a.2.1,a.2.2.1,())))
def Ie(x:u0×al)(a:(al×al×Int×al)×(List Sb)×(List Sb)×al):Option (Dr⊕Dr) :=
 dn (ao (aZ a.1.2.2.1<|len x.1.2.2.2.1)
 (ag (idx x.1.2.2.2.1 a.1.2.2.1) λb=>ao (fits<|plus (len a.2.2.1)<|len ([b.1]:List Sb))
 (ag (idx x.1.2.2.2.1 a.1.2.2.1) λc=>ao (fits<|plus (len a.2.1)<|len c.2.1)
 (ab<|Sum.inl (((),(),aH i64 a.1.2.2.1 1,()),app a.2.1 c.2.1,app a.2.2.1 ([b.1]:List Sb),()))
 ah)
 ah)
 (ab<|Sum.inr (0,((),(),a.1.2.2.1,()),a.2.1,a.2.2.1,())))
def ux(x:u0×al):Option ((List Sb)×(List Sb)×al) :=
 ag (Loop (Ib x) (((),(),(0:Int),()),([]:List Sb),([]:List Sb),())) (λa=>ag (Loop (Ic x) (((),(),(0:Int),()),a.2.1,a.2.2.1,())) λb=>ag (Loop (Ie x) (((),(),(0:Int),()),b.2.1,b.2.2.1,())) λc=>ab (c.2.2.1,c.2.1,()))
def eQ(x:Int×u0×al)(a:(Int×Int×al)×al):Option (sq⊕wo) :=
 ao (aZ a.1.2.1<|len x.2.1.2.1)
 (ag (idx x.2.1.2.1 a.1.2.1) λb=>ag (gC (b,())) λc=>ao (nt c.1)
 (ab<|Sum.inr (1,((1:Int),a.1.2.1,()),()))
 (ab<|Sum.inl ((a.1.1,aH i64 a.1.2.1 1,()),())))
 (ab<|Sum.inr (0,(a.1.1,a.1.2.1,()),()))
def px(x:Int×u0×al)(a:(Int×Int×al)×al):Option (sq⊕wo) :=
 ao (aZ a.1.2.1<|len x.2.1.2.2.1)
 (ag (idx x.2.1.2.2.1 a.1.2.1) λb=>ag (qb (b,())) λc=>ao (nt c.1)
 (ab<|Sum.inr (1,((1:Int),a.1.2.1,()),()))
 (ab<|Sum.inl ((a.1.1,aH i64 a.1.2.1 1,()),())))
 (ab<|Sum.inr (0,(a.1.1,a.1.2.1,()),()))
def py(x:Int×u0×al)(a:(Int×Int×al)×al):Option (sq⊕wo) :=
 ao (aZ a.1.2.1<|len x.2.1.2.2.2.1)
 (ag (idx x.2.1.2.2.2.1 a.1.2.1) λc=>ag (u5 (c,())) λb=>ao (nt b.1)
 (ab<|Sum.inr (1,((1:Int),a.1.2.1,()),()))
 (ab<|Sum.inl ((a.1.1,aH i64 a.1.2.1 1,()),())))
 (ab<|Sum.inr (0,(a.1.1,a.1.2.1,()),()))
def iW(b:(List Sb)×(List Sb)×al)(a:(Int×Int×al)×al):Option (sq⊕wo) :=
 ao (aZ a.1.2.1<|len b.1)
 (ag (idx b.1<|db i64 a.1.2.1 1) λc=>ag (idx b.1 a.1.2.1) λd=>ao (nt<|fq c d)
 (ab<|Sum.inr (1,((1:Int),a.1.2.1,()),()))
 (ab<|Sum.inl ((a.1.1,aH i64 a.1.2.1 1,()),())))
 (ab<|Sum.inr (0,(a.1.1,a.1.2.1,()),()))
def iX(e:(List Sb)×(List Sb)×al)(b:(Int×Int×al)×al)(a:(Int×Int×al)×al):Option (sq⊕wo) :=
 ao (aZ a.1.2.1 b.1.2.1)
 (ag (idx e.2.1 a.1.2.1) λc=>ag (idx e.2.1 b.1.2.1) λd=>ao (bG c d)
 (ab<|Sum.inr (1,((1:Int),a.1.2.1,()),()))
 (ab<|Sum.inl ((a.1.1,aH i64 a.1.2.1 1,()),())))
 (ab<|Sum.inr (0,(a.1.1,a.1.2.1,()),()))
def iY(c:(List Sb)×(List Sb)×al)(a:(Int×Int×al)×al):Option (sq⊕wo) :=
 ao (aZ a.1.2.1<|len c.2.1)
 (ag (Loop (iX c a) ((a.1.1,(0:Int),()),())) λb=>ao (da b.1 0)
 (ab<|Sum.inl ((b.2.1.1,aH i64 a.1.2.1 1,()),()))
 (ab<|Sum.inr (1,(b.2.1.1,a.1.2.1,()),())))
 (ab<|Sum.inr (0,(a.1.1,a.1.2.1,()),()))
def fI(x:Int×u0×al):Option (Int×al) :=
 ao (aZ x.1 1)
 (ab ((1:Int),()))
 (ao (aZ 3 x.1)
 (ab ((1:Int),()))
 (ao (aZ x.2.1.1 0)
 (ab ((1:Int),()))
 (ao (aZ 9007199254740992 x.2.1.1)
 (ab ((1:Int),()))
 (ao (within x.1 4)
 (ag (idx ([(0:Int),len x.2.1.2.2.2.1,len x.2.1.2.2.1,len x.2.1.2.1]:List (Int)) x.1) λg=>ao (aZ 32 g)
 (ab ((1:Int),()))
 (ao (within 1 4)
 (ag (idx ([(0:Int),len x.2.1.2.2.2.1,len x.2.1.2.2.1,len x.2.1.2.1]:List (Int)) (1:Int)) λh=>ao (within 2 4)
 (ag (idx ([(0:Int),len x.2.1.2.2.2.1,len x.2.1.2.2.1,len x.2.1.2.1]:List (Int)) (2:Int)) λi=>ao (within 3 4)
 (ag (idx ([(0:Int),len x.2.1.2.2.2.1,len x.2.1.2.2.1,len x.2.1.2.1]:List (Int)) (3:Int)) λj=>ao (within x.1 4)
 (ag (idx ([(0:Int),len x.2.1.2.2.2.1,len x.2.1.2.2.1,len x.2.1.2.1]:List (Int)) x.1) λk=>ao (nt<|aS (aH i64 (aH i64 h i) j) k)
 (ab ((1:Int),()))
 (ag (Loop (eQ x) (((0:Int),(0:Int),()),())) λc=>ao (da c.1 0)
 (ag (Loop (px x) ((c.2.1.1,(0:Int),()),())) λd=>ao (da d.1 0)
 (ag (Loop (py x) ((d.2.1.1,(0:Int),()),())) λe=>ao (da e.1 0)
 (ag (ux (x.2.1,())) λf=>ag (Loop (iW f) ((e.2.1.1,(1:Int),()),())) λa=>ao (da a.1 0)
 (ag (Loop (iY f) ((a.2.1.1,(0:Int),()),())) λb=>ao (da b.1 0)
 (ab ((0:Int),()))
 (ab (b.2.1.1,())))
 (ab (a.2.1.1,())))
 (ab (e.2.1.1,())))
 (ab (d.2.1.1,())))
 (ab (c.2.1.1,()))))
 ah)
 ah)
 ah)
 ah))
 ah))))
def Kp(x:(List dH)×Sb×al)(a:(Int×Int×al)×al):Option (sq⊕wo) :=
 ao (aZ a.1.2.1<|len x.1)
 (ag (idx x.1 a.1.2.1) λb=>ao (bG b.1 x.2.1)
 (ab<|Sum.inr (1,(a.1.2.1,a.1.2.1,()),()))
 (ab<|Sum.inl ((a.1.1,aH i64 a.1.2.1 1,()),())))
 (ab<|Sum.inr (0,(a.1.1,a.1.2.1,()),()))
def Az(x:(List dH)×Sb×al):Option (Int×al) :=
 ag (Loop (Kp x) (((0:Int),(0:Int),()),())) (λa=>ao (da a.1 0)
 (ab ((-1:Int),()))
 (ab (a.2.1.1,())))
def lK(x:(List dH)×Sb×al)(a:Nf×(List dH)×al):Option ((Nf×(List dH)×al)⊕(Nat×Nf×(List dH)×al)) :=
 ao (cj a.1.2.2.2.2.1 16)
 (ag (Az (x.1,a.1.1,())) λb=>ao (aZ b.1 0)
 (ab<|Sum.inr (1,(a.1.1,([]:List dH),(3:Int),(),a.1.2.2.2.2.1,()),a.2.1,()))
 (ao (aS a.1.2.2.2.2.1 16)
 (ab<|Sum.inr (1,(a.1.1,([]:List dH),(5:Int),(),a.1.2.2.2.2.1,()),a.2.1,()))
 (ag (idx x.1 b.1) λc=>ao (fits<|plus (len a.2.1)<|len ([c]:List dH))
 (ag (idx x.1 b.1) λd=>ao (bG d.2.1 ([]:aw))
 (ab<|Sum.inr (1,(a.1.1,app a.2.1 ([c]:List dH),(0:Int),(),a.1.2.2.2.2.1,()),app a.2.1 ([c]:List dH),()))
 (ag (idx x.1 b.1) λe=>ab (Sum.inl ((e.2.1,a.1.2.1,a.1.2.2.1,(),aH i64 a.1.2.2.2.2.1 1,()),app a.2.1 ([c]:List dH),()))))
 ah)))
 (ab<|Sum.inr (0,(a.1.1,a.1.2.1,a.1.2.2.1,(),a.1.2.2.2.2.1,()),a.2.1,()))
def qc(x:(List dH)×Sb×al):Option ((List dH)×Int×al) :=
 ag (Loop (lK x) ((x.2.1,([]:List dH),(0:Int),(),(0:Int),()),([]:List dH),())) (λa=>ao (da a.1 0)
 (ab (([]:List dH),(5:Int),()))
 (ab (a.2.1.2.1,a.2.1.2.2.1,())))
def pz(x:(List dH)×al)(a:(Int×Int×al)×al):Option (sq⊕wo) :=
 ao (aZ a.1.2.1<|len x.1)
 (ag (idx x.1 a.1.2.1) λb=>ag (qc (x.1,b.1,())) λc=>ao (nt<|aS c.2.1 0)
 (ab<|Sum.inr (1,((2:Int),a.1.2.1,()),()))
 (ab<|Sum.inl ((a.1.1,aH i64 a.1.2.1 1,()),())))
 (ab<|Sum.inr (0,(a.1.1,a.1.2.1,()),()))
def qd(x:(List dH)×al):Option (Int×al) :=
 ag (Loop (pz x) (((0:Int),(0:Int),()),())) (λa=>ao (da a.1 0)
 (ab ((0:Int),()))
 (ab (a.2.1.1,())))
def Kq(x:kX×Sb×al)(a:(Int×Int×al)×al):Option (sq⊕wo) :=
 ao (aZ a.1.2.1<|len x.1.2.2.1)
 (ag (idx x.1.2.2.1 a.1.2.1) λb=>ao (bG b.1 x.2.1)
 (ab<|Sum.inr (1,(a.1.2.1,a.1.2.1,()),()))
 (ab<|Sum.inl ((a.1.1,aH i64 a.1.2.1 1,()),())))
 (ab<|Sum.inr (0,(a.1.1,a.1.2.1,()),()))
def mo(x:kX×Sb×al):Option (Int×al) :=
 ag (Loop (Kq x) (((0:Int),(0:Int),()),())) (λa=>ao (da a.1 0)
 (ab ((-1:Int),()))
 (ab (a.2.1.1,())))
def wq(x:kX×Int×al):Option (Sb×al) :=
 ao (aZ x.2.1<|len x.1.2.2.2.1)
 (ag (idx x.1.2.2.2.1 x.2.1) λa=>ab (a,()))
 (ab (([]:aw),()))
def gM(x:(List Sb)×al)(a:Ng×al):Option ((Ng×al)⊕(Nat×Ng×al)) :=
 ao (aZ a.1.2.2.2.1<|len x.1)
 (ag (idx x.1 a.1.2.2.2.1) λc=>ag (uv (a.1.2.2.1,c,())) λb=>ao (nt<|aS b.2.1 0)
 (ab<|Sum.inr (1,(([]:List yk),b.2.1,a.1.2.2.1,a.1.2.2.2.1,()),()))
 (ab<|Sum.inl ((a.1.1,a.1.2.1,b.1,aH i64 a.1.2.2.2.1 1,()),())))
 (ab<|Sum.inr (0,(a.1.1,a.1.2.1,a.1.2.2.1,a.1.2.2.2.1,()),()))
def yn(x:(List Sb)×al):Option ((List yk)×Int×al) :=
 ag (Loop (gM x) ((([]:List yk),(0:Int),([]:List yk),(0:Int),()),())) (λa=>ao (da a.1 0)
 (ab (a.2.1.2.2.1,(0:Int),()))
 (ab (a.2.1.1,a.2.1.2.1,())))
def mV(x:kX×Sb×al)(c:(List dH)×Int×al)(a:(al×Int×al)×(List Sb)×al):Option (((al×Int×al)×(List Sb)×al)⊕((al×Int×al)×(List Sb)×al)) :=
 dn (ao (cj 0 a.1.2.1)
 (ag (idx c.1 a.1.2.1) λd=>ag (mo (x.1,d.1,())) λe=>ag (wq (x.1,e.1,())) λb=>ao (fits<|plus (len a.2.1)<|len ([b.1]:List Sb))
 (ab<|Sum.inl (((),db i64 a.1.2.1 1,()),app a.2.1 ([b.1]:List Sb),()))
 ah)
 (ab<|Sum.inr (0,((),a.1.2.1,()),a.2.1,())))
def mq(x:kX×Sb×al):Option ((List yk)×Int×al) :=
 ag (qc (x.1.2.2.1,x.2.1,())) (λa=>ao (nt<|aS a.2.1 0)
 (ab (([]:List yk),a.2.1,()))
 (ag (Loop (mV x a) (((),db i64 (len a.1) 1,()),([]:List Sb),())) λc=>ag (yn (c.2.1,())) λb=>ab (b.1,b.2.1,())))
def gZ(x:kX×al)(a:pw×al):Option (mU⊕uw) :=
 ao (ao (aZ a.1.2.1<|len x.1.2.2.1)
 (aZ a.1.2.1<|len x.1.2.2.2.1)
 false)
 (ag (idx x.1.2.2.1 a.1.2.1) λb=>ao (nt b.2.2.2.2.2.2.1)
 (ab<|Sum.inr (1,(false,a.1.2.1,()),()))
 (ao (nt<|aS b.2.2.2.2.2.1 0)
 (ab<|Sum.inr (1,(false,a.1.2.1,()),()))
 (ag (idx x.1.2.2.2.1 a.1.2.1) λc=>ao (nt<|aS b.2.2.2.2.1<|len c)
 (ab<|Sum.inr (1,(false,a.1.2.1,()),()))
 (ag (idx x.1.2.2.2.1 a.1.2.1) λd=>ag (tn (d,())) λe=>ao (nt<|bG b.2.2.2.1 e.1)
 (ab<|Sum.inr (1,(false,a.1.2.1,()),()))
 (ag (idx x.1.2.2.2.1 a.1.2.1) λf=>ag (nr (f,())) λg=>ao (nt<|aS g.1 0)
 (ab<|Sum.inr (1,(false,a.1.2.1,()),()))
 (ag (mq (x.1,b.1,())) λh=>ao (nt<|aS h.2.1 0)
 (ab<|Sum.inr (1,(false,a.1.2.1,()),()))
 (ab<|Sum.inl ((a.1.1,aH i64 a.1.2.1 1,()),()))))))))
 (ab<|Sum.inr (0,(a.1.1,a.1.2.1,()),()))
def jr(x:kX×al):Option (Bool×al) :=
 ag (ao (nt<|nt<|aS (len x.1.2.2.2.1)<|len x.1.2.2.1)
 (ag (qd (x.1.2.2.1,())) λa=>ab (nt<|aS a.1 0))
 (ab true)) (λa=>ao a
 (ab (false,()))
 (ag (Loop (gZ x) ((false,(0:Int),()),())) λb=>ao (da b.1 0)
 (ab (true,()))
 (ab (b.2.1.1,()))))
def oC(x:kX×al)(a:pw×al):Option (mU⊕uw) :=
 ao (aZ a.1.2.1<|len x.1.2.1)
 (ag (idx x.1.2.1 a.1.2.1) λb=>ao (nt<|bG b.2.2.1 ([]:aw))
 (ag (idx x.1.2.1 a.1.2.1) λc=>ag (mo (x.1,c.2.2.1,())) λd=>ao (aZ d.1 0)
 (ab<|Sum.inr (1,(false,a.1.2.1,()),()))
 (ab<|Sum.inl ((a.1.1,aH i64 a.1.2.1 1,()),())))
 (ab<|Sum.inl ((a.1.1,aH i64 a.1.2.1 1,()),())))
 (ab<|Sum.inr (0,(a.1.1,a.1.2.1,()),()))
def oD(x:kX×al)(b:Sb×(List Sb)×Sb×Sb×Sb×ahB×al)(a:pw×al):Option (mU⊕mU) :=
 dn (ao (aZ a.1.2.1<|len x.1.2.1)
 (ao a.1.1
 (ab<|Sum.inl ((true,aH i64 a.1.2.1 1,()),()))
 (ag (idx x.1.2.1 a.1.2.1) λc=>ab (Sum.inl ((bG c.1 b.2.2.1,aH i64 a.1.2.1 1,()),()))))
 (ab<|Sum.inr (0,(a.1.1,a.1.2.1,()),())))
def oE(x:kX×al)(a:pw×al):Option (mU⊕uw) :=
 ao (aZ a.1.2.1<|len x.1.1)
 (ag (idx x.1.1 a.1.2.1) λb=>ag (Loop (oD x b) ((bG b.2.2.1 ([]:aw),(0:Int),()),())) λd=>ag (ao (nt<|nt d.1.1)
 (ag (mo (x.1,b.2.2.2.1,())) λc=>ab (aZ c.1 0))
 (ab true)) λc=>ao c
 (ab<|Sum.inr (1,(false,a.1.2.1,()),()))
 (ab<|Sum.inl ((a.1.1,aH i64 a.1.2.1 1,()),())))
 (ab<|Sum.inr (0,(a.1.1,a.1.2.1,()),()))
def oF(x:kX×al)(a:pw×al):Option (mU⊕uw) :=
 ao (aZ a.1.2.1<|len x.1.2.2.2.2.1)
 (ag (idx x.1.2.2.2.2.1 a.1.2.1) λb=>ag (mo (x.1,b.1,())) λd=>ao (aZ d.1 0)
 (ab<|Sum.inr (1,(false,a.1.2.1,()),()))
 (ao (aZ b.2.1 1)
 (ab<|Sum.inr (1,(false,a.1.2.1,()),()))
 (ao (aZ 1000 b.2.1)
 (ab<|Sum.inr (1,(false,a.1.2.1,()),()))
 (ao (aZ 0 a.1.2.1)
 (ag (idx x.1.2.2.2.2.1<|db i64 a.1.2.1 1) λc=>ao (nt<|fq c.1 b.1)
 (ab<|Sum.inr (1,(false,a.1.2.1,()),()))
 (ab<|Sum.inl ((a.1.1,aH i64 a.1.2.1 1,()),())))
 (ab<|Sum.inl ((a.1.1,aH i64 a.1.2.1 1,()),()))))))
 (ab<|Sum.inr (0,(a.1.1,a.1.2.1,()),()))
def l4(x:kX×al):Option (Bool×al) :=
 ag (fI ((1:Int),((0:Int),([]:List dH),([]:List wm),x.1.1,()),())) (λg=>ag (ao (nt<|nt<|aS g.1 0)
 (ag (fI ((2:Int),((0:Int),([]:List dH),x.1.2.1,([]:List wk),()),())) λa=>ab (nt<|aS a.1 0))
 (ab true)) λa=>ag (ao (nt a)
 (ag (fI ((3:Int),((0:Int),x.1.2.2.1,([]:List wm),([]:List wk),()),())) λb=>ab (nt<|aS b.1 0))
 (ab true)) λb=>ag (ao (nt b)
 (ag (jr (x.1,())) λc=>ab (nt c.1))
 (ab true)) λc=>ao (ao (nt c)
 (aZ 32<|len x.1.2.2.2.2.1)
 true)
 (ab (false,()))
 (ag (Loop (oC x) ((false,(0:Int),()),())) λd=>ao (da d.1 0)
 (ag (Loop (oE x) ((d.2.1.1,(0:Int),()),())) λe=>ao (da e.1 0)
 (ag (Loop (oF x) ((e.2.1.1,(0:Int),()),())) λf=>ao (da f.1 0)
 (ab (true,()))
 (ab (f.2.1.1,())))
 (ab (e.2.1.1,())))
 (ab (d.2.1.1,()))))
def kf(x:(List wk)×(List wk)×al)(a:pw×al):Option (mU⊕uw) :=
 ao (ao (aZ a.1.2.1<|len x.1)
 (aZ a.1.2.1<|len x.2.1)
 false)
 (ag (idx x.1 a.1.2.1) λb=>ag (idx x.2.1 a.1.2.1) λc=>ag (ao (nt<|nt<|bG b.1 c.1)
 (ag (e8 (b.2.1,c.2.1,())) λd=>ab (nt d.1))
 (ab true)) λd=>ag (ao (nt<|ao (nt<|ao (nt<|ao (nt d)
 (nt<|bG b.2.2.1 c.2.2.1)
 true)
 (nt<|bG b.2.2.2.1 c.2.2.2.1)
 true)
 (nt<|bG b.2.2.2.2.1 c.2.2.2.2.1)
 true)
 (ag (gW (b.2.2.2.2.2.1,c.2.2.2.2.2.1,())) λe=>ab (nt e.1))
 (ab true)) λe=>ao e
 (ab<|Sum.inr (1,(false,a.1.2.1,()),()))
 (ab<|Sum.inl ((a.1.1,aH i64 a.1.2.1 1,()),())))
 (ab<|Sum.inr (0,(a.1.1,a.1.2.1,()),()))
def nQ(x:(List wk)×(List wk)×al):Option (Bool×al) :=
 ao (nt<|aS (len x.1)<|len x.2.1)
 (ab (false,()))
 (ag (Loop (kf x) ((false,(0:Int),()),())) λa=>ao (da a.1 0)
 (ab (true,()))
 (ab (a.2.1.1,())))
def jE(x:(List wm)×(List wm)×al)(a:pw×al):Option (mU⊕uw) :=
 ao (ao (aZ a.1.2.1<|len x.1)
 (aZ a.1.2.1<|len x.2.1)
 false)
 (ag (idx x.1 a.1.2.1) λb=>ag (idx x.2.1 a.1.2.1) λc=>ag (ao (nt<|nt<|bG b.1 c.1)
 (ag (e8 (b.2.1,c.2.1,())) λd=>ab (nt d.1))
 (ab true)) λd=>ag (ao (nt<|ao (nt<|ao (nt d)
 (nt<|bG b.2.2.1 c.2.2.1)
 true)
 (nt<|bG b.2.2.2.1 c.2.2.2.1)
 true)
 (ag (gW (b.2.2.2.2.1,c.2.2.2.2.1,())) λe=>ab (nt e.1))
 (ab true)) λe=>ao e
 (ab<|Sum.inr (1,(false,a.1.2.1,()),()))
 (ab<|Sum.inl ((a.1.1,aH i64 a.1.2.1 1,()),())))
 (ab<|Sum.inr (0,(a.1.1,a.1.2.1,()),()))
def mr(x:(List wm)×(List wm)×al):Option (Bool×al) :=
 ao (nt<|aS (len x.1)<|len x.2.1)
 (ab (false,()))
 (ag (Loop (jE x) ((false,(0:Int),()),())) λa=>ao (da a.1 0)
 (ab (true,()))
 (ab (a.2.1.1,())))
def jF(x:(List dH)×(List dH)×al)(a:pw×al):Option (mU⊕uw) :=
 ao (ao (aZ a.1.2.1<|len x.1)
 (aZ a.1.2.1<|len x.2.1)
 false)
 (ag (idx x.1 a.1.2.1) λb=>ag (idx x.2.1 a.1.2.1) λc=>ag (ao (nt<|ao (nt<|nt<|bG b.1 c.1)
 (nt<|bG b.2.1 c.2.1)
 true)
 (ag (e8 (b.2.2.1,c.2.2.1,())) λd=>ab (nt d.1))
 (ab true)) λd=>ao (ao (nt<|ao (nt<|ao (nt<|ao (nt d)
 (nt<|bG b.2.2.2.1 c.2.2.2.1)
 true)
 (nt<|aS b.2.2.2.2.1 c.2.2.2.2.1)
 true)
 (nt<|aS b.2.2.2.2.2.1 c.2.2.2.2.2.1)
 true)
 (nt<|eqB b.2.2.2.2.2.2.1 c.2.2.2.2.2.2.1)
 true)
 (ab<|Sum.inr (1,(false,a.1.2.1,()),()))
 (ab<|Sum.inl ((a.1.1,aH i64 a.1.2.1 1,()),())))
 (ab<|Sum.inr (0,(a.1.1,a.1.2.1,()),()))
def mu(x:(List dH)×(List dH)×al):Option (Bool×al) :=
 ao (nt<|aS (len x.1)<|len x.2.1)
 (ab (false,()))
 (ag (Loop (jF x) ((false,(0:Int),()),())) λa=>ao (da a.1 0)
 (ab (true,()))
 (ab (a.2.1.1,())))
def jG(x:(List GH)×(List GH)×al)(a:pw×al):Option (mU⊕uw) :=
 ao (ao (aZ a.1.2.1<|len x.1)
 (aZ a.1.2.1<|len x.2.1)
 false)
 (ag (idx x.1 a.1.2.1) λb=>ag (idx x.2.1 a.1.2.1) λc=>ao (nt<|an (bG b.1 c.1)<|an (aS b.2.1 c.2.1) true)
 (ab<|Sum.inr (1,(false,a.1.2.1,()),()))
 (ab<|Sum.inl ((a.1.1,aH i64 a.1.2.1 1,()),())))
 (ab<|Sum.inr (0,(a.1.1,a.1.2.1,()),()))
def mv(x:(List GH)×(List GH)×al):Option (Bool×al) :=
 ao (nt<|aS (len x.1)<|len x.2.1)
 (ab (false,()))
 (ag (Loop (jG x) ((false,(0:Int),()),())) λa=>ao (da a.1 0)
 (ab (true,()))
 (ab (a.2.1.1,())))
def wu(x:kX×kX×al):Option (Bool×al) :=
 ag (nQ (x.1.1,x.2.1.1,())) (λe=>ag (ao e.1
 (ag (mr (x.1.2.1,x.2.1.2.1,())) λa=>ab a.1)
 (ab false)) λa=>ag (ao a
 (ag (mu (x.1.2.2.1,x.2.1.2.2.1,())) λb=>ab b.1)
 (ab false)) λb=>ag (ao b
 (ag (e8 (x.1.2.2.2.1,x.2.1.2.2.2.1,())) λc=>ab c.1)
 (ab false)) λc=>ag (ao c
 (ag (mv (x.1.2.2.2.2.1,x.2.1.2.2.2.2.1,())) λd=>ab d.1)
 (ab false)) λd=>ab (d,()))
end Go.Ge
namespace Go.Ge
variable [Lp]
def idN(n:Int):Tx:=sg (bu [kF .u8<|mE .i64 n 16,kF .u8 (mE .i64 n 8),kF .u8 n])
def idK(d:Int)(k:Nat):Tx:=idN (jK (aH .i64 (jV .i64 d 16777215) (k:Int)) 16777216)
def Ig(s:Tx):Prop:=(ou s).isSome=true/\s.length=6
def oG(s:Tx)(a:s.length<=1048576):∃b,gB (s,())=ab (b,())/\(b=true↔Ig s):=by
 unfold gB;dsimp only;rw[Gv s a,aa];have e6:aS (@len UInt8 s) (6:Int)=decide (s.length=6):=by unfold aS len;apply hH.2;omega
 refine⟨_,rfl,?_⟩;rw[e6];unfold Ig ans;cases ou s with
 | none=>simp[ao]
 | some x=>simp[ao]
def Pw(n:Int):yg (n,())=ab (idN n,()):=by
 unfold yg;rw[show aZ (16:Int) 0=false from rfl,af,show aZ (8:Int) 0=false from rfl,af,SR _ (by show 3<=1048576;omega),aa];rfl
def ajA(n:Int):Ig (idN n):=by
 have h:∀a b c:UInt8,(ou<|sg [a,b,c]).isSome=true/\(sg [a,b,c]).length=6:=λa b c=>⟨by rw[QR];rfl,rfl⟩;exact h _ _ _
def GI(l:List Nm)(d:Int)(k:Nat):Bool:=decide (∀x∈l,x.1≠idK d k)
def cC(l:List Nm)(d:Int):Tx×Int×al:=if 32<=l.length then([],5,()) else
 match(List.range<|l.length+1).find? (GI l d) with|some k=>(idK d k,0,())|none=>([],5,())
def ab2(l:List Nm)(d:Int)(s:Tx)(k:l.length<=1000000) :
  (∃i:Nat,Loop (gV (l,d,())) (((0:Int),(0:Int),()),s,())=ab (1,((i:Int),(i:Int),()),s,())/\∃x∈l,x.1=s) \/
  (Loop (gV (l,d,())) (((0:Int),(0:Int),()),s,())=ab (0,((0:Int),len l,()),s,())/\∀x∈l,x.1≠s):=by
 rcases iQ (f:=gV (l,d,())) l (λi=>(((0:Int),i,()),s,())) (λ_ x=>decide (x.1=s)) (λi x=>(1,((i:Int),(i:Int),()),s,())) (0,((0:Int),len l,()),s,()) ai (λi x a b c=>by
  unfold gV;dsimp only;rw[aq b,ae,au a,aa,eA,c];by_cases h:x.1=s<;>simp[bG,h]) (by unfold gV;dsimp only;rw[ay,af];rfl) with ⟨i,x,a,e,m,h⟩|⟨g,h⟩
 .exact .inl ⟨i,h,x,eT a,iy e⟩
 .refine .inr ⟨h,λx a j=>?_⟩;obtain⟨i,b⟩:=bz.1 a;have:=g i x b;simp[j] at this
def Ds(l:List Nm)(d:Int):gL (l,d,())=ab (cC l d):=by
 unfold gL cC;dsimp only;have g:cj (32:Int) (len l)=decide (32<=l.length):=by unfold cj len;apply hH.2;omega
 rw[g];by_cases a:32<=l.length
 .rw[dE a,aW a];rfl
 rw[cL a,aQ a,af];have b:aH .i64 (len l) 1=((l.length+1:Nat):Int):=by rw[ff ft ft];unfold len;omega
 have hlen:(List.range<|l.length+1).length=l.length+1:=ZJ;have key:∀k:Nat,k<l.length+1->kb (l,d,()) ((([]:Tx),(0:Int),(k:Int),()),())=ab (if GI l d k=true then .inr (1,(idK d k,(0:Int),(k:Int),()),()) else .inl ((([]:Tx),(0:Int),((k+1:Nat):Int),()),())):=λk c=>by
  have m:aH .i64 (k:Int) 1=((k+1:Nat):Int):=aL ai;unfold kb;dsimp only;rw[b,aP ai,ae,show aS (16777216:Int) 0=false from rfl,af,Pw,aa,m];dsimp only;show ag (Loop _ (((0:Int),(0:Int),()),idK d k,())) _=_
  rcases ab2 l d (idK d k) ai with ⟨i,h,x,e,r⟩|⟨h,n⟩
  .rw[h,aa];dsimp only;rw[show da 1 0=false from rfl,af,bO ai,aF,af,aQ (by unfold GI;rw[RG];exact λs=>s x e r)]
  .rw[h,aa];dsimp only;rw[show da 0 0=true from rfl,ae,show nt (cj (0:Int)<|-1)=true from rfl,ae,aW (by unfold GI;rw[RG];exact n)];rfl
 rcases iQ (f:=kb (l,d,())) (List.range<|l.length+1) (λk=>((([]:Tx),(0:Int),k,()),())) (λk _=>GI l d k) (λk _=>(1,(idK d k,(0:Int),(k:Int),()),())) (0,(([]:Tx),(0:Int),((l.length+1:Nat):Int),()),()) (by rw[hlen];omega)
  (λk x e q v=>key k (by rw[hlen] at q;exact q)) (by
   unfold kb;dsimp only;rw[b,hlen,aI ai,af]) with ⟨k,x,e,t,u,h⟩|⟨n,h⟩
 .have c:=aG e;rw[hlen] at c;rw[h,aa];have o:(List.range<|l.length+1).find? (GI l d)=ab k:=by
   rw[ads];refine⟨t,k,by rw[hlen];exact c,aY,λj p=>?_⟩;have:=u j j p (by rw[Lx ai]);simpa using this
  rw[o];rfl
 .rw[h,aa];have o:(List.range<|l.length+1).find? (GI l d)=none:=by
   rw[T6];intro k c;have c:=LD.1 c;have:=n k k (by rw[Lx c]);simpa using this
  rw[o];rfl
def GJ{l:List Nm}{d:Int}(h:(cC l d).2.1=0):l.length<32/\Ig (cC l d).1/\∀x∈l,x.1≠(cC l d).1:=by
 unfold cC at h⊢;by_cases a:32<=l.length
 .rw[aW a] at h;cases h
 .rw[aQ a] at h⊢;cases b:(List.range<|l.length+1).find? (GI l d) with
  | none=>rw[b] at h;cases h
  | some k =>
    have:=Qo b;unfold GI at this;exact⟨ai,ajA _,iy this⟩
set_option maxRecDepth 100000
abbrev dX:=((List<|Sb×(List Sb)×Sb×Sb×Sb×(List<|Sb×Sb×Sb×al)×al)×(List<|Sb×(List Sb)×Sb×Sb×(List<|Sb×Sb×Sb×al)×al)×(List<|Sb×Sb×(List Sb)×Sb×Int×Int×Bool×al)×(List Sb)×(List<|Sb×Int×al)×al)
abbrev cl:=(Sb×Sb×(List Sb)×Sb×Int×Int×Bool×al)
abbrev yU:=(Sb×Int×al)
abbrev E8:=(Int×Sb×Int×Sb×al)
abbrev xq:=(Sb×Int×Int×Sb×Sb×al)
abbrev Ct:=(Nat×(Int×Int×al)×Sb×al)
abbrev Cu:=((Int×Int×al)×Sb×al)
abbrev am3:=(Sb×(List Sb)×Sb×Sb×Sb×(List<|Sb×Sb×Sb×al)×al)
abbrev ajB:=(Sb×Int×Int×al)
abbrev am4:=(Sb×(List Sb)×al)
abbrev alO:=(Sb×(List Sb)×Sb×Sb×(List<|Sb×Sb×Sb×al)×al)
abbrev Dt:=((List cl)×Int×al×Sb×Int×al)
abbrev iF:=(Int×Int×al)
abbrev yo:=((List cl)×Int×al×Sb×al)
abbrev alP:=(Int×Sb×Int×al)
abbrev Tb:=(Nat×iF×al×Sb×al)
abbrev GK:=(aw×(aw×((List aw)×(aw×(Int×(Int×(Bool×al)))))))
abbrev alQ:=((al×al×Bool×Int×al)×(List Sb)×(List cl)×al)
abbrev Tc:=(iF×al×Sb×al)
abbrev aat:=((Int×Int×al×al)×Sb×(List yU)×al)
abbrev alR:=(Nat×ajB×al)
def e9(l:List aw)(x:(Int×((List aw)×al))):Option (List aw):=uU l x.1 x.2.1
def dI(l:List GK)(x:(Int×((List GK)×al))):Option (List GK):=uU l x.1 x.2.1
def fa(l:List aw)(x:(Int×(Int×al))):Option (List aw):=HS l x.1 x.2.1
def dJ(l:List GK)(x:(Int×(Int×al))):Option (List GK):=HS l x.1 x.2.1
def fg(l:List (aw×(Int×al)))(x:(Int×((List<|aw×(Int×al))×al))):Option (List<|aw×(Int×al)):=uU l x.1 x.2.1
def yV(x:al):Option (Sb×al) :=
 ag (oT (([0]:aw),(1024:Int),())) (λa=>ab (a.1,()))
def lL(x:(List cl)×Sb×al)(a:Dt×(List cl)×al):Option ((Dt×(List cl)×al)⊕(Nat×Dt×(List cl)×al)) :=
 ao (aZ a.1.2.2.2.2.1<|len x.1)
 (ag (idx x.1 a.1.2.2.2.2.1) λb=>ao (nt<|bG b.1 a.1.2.2.2.1)
 (ab<|Sum.inl ((a.1.1,a.1.2.1,(),a.1.2.2.2.1,aH i64 a.1.2.2.2.2.1 1,()),a.2.1,()))
 (ao (aS (len a.2.1) 16)
 (ab<|Sum.inr (1,(([]:List cl),(5:Int),(),a.1.2.2.2.1,a.1.2.2.2.2.1,()),a.2.1,()))
 (ag (bc (b.2.2.1,())) λc=>ao (fits<|plus (len a.2.1)<|len ([(b.1,b.2.1,c.1,b.2.2.2)]:List cl))
 (ao (bG b.2.1 ([]:aw))
 (ab<|Sum.inr (2,(a.1.1,a.1.2.1,(),a.1.2.2.2.1,a.1.2.2.2.2.1,()),app a.2.1 ([(b.1,b.2.1,c.1,b.2.2.2)]:List cl),()))
 (ab<|Sum.inr (3,(a.1.1,a.1.2.1,(),b.2.1,a.1.2.2.2.2.1,()),app a.2.1 ([(b.1,b.2.1,c.1,b.2.2.2)]:List cl),())))
 ah)))
 (ab<|Sum.inr (0,(a.1.1,a.1.2.1,(),a.1.2.2.2.1,a.1.2.2.2.2.1,()),a.2.1,()))
def lM(x:(List cl)×Sb×al)(c:yo×(List cl)×al):Option ((yo×(List cl)×al)⊕(Nat×yo×(List cl)×al)) :=
 ag (Loop (lL x) ((c.1.1,c.1.2.1,(),c.1.2.2.2.1,(0:Int),()),c.2.1,())) (λa=>ao (da a.1 0)
 (ab<|Sum.inr (0,(([]:List cl),(3:Int),(),a.2.1.2.2.2.1,()),a.2.2.1,()))
 (ao (da (@Nat.rec (λ(b:Nat)=>Nat) 0 (λ(b:Nat)=>λ(d:Nat)=>b) a.1) 0)
 (ab<|Sum.inr (0,(a.2.1.1,a.2.1.2.1,(),a.2.1.2.2.2.1,()),a.2.2.1,()))
 (ao (da (@Nat.rec (λ(b:Nat)=>Nat) 0 (λ(b:Nat)=>λ(d:Nat)=>b)<|@Nat.rec (λ(b:Nat)=>Nat) 0 (λ(b:Nat)=>λ(d:Nat)=>b) a.1) 0)
 (ab<|Sum.inr (1,(a.2.1.1,a.2.1.2.1,(),a.2.1.2.2.2.1,()),a.2.2.1,()))
 (ab<|Sum.inl ((a.2.1.1,a.2.1.2.1,(),a.2.1.2.2.2.1,()),a.2.2.1,())))))
def kz(x:(List cl)×Sb×al):Option ((List cl)×Int×al) :=
 ag (Loop (lM x) ((([]:List cl),(0:Int),(),x.2.1,()),([]:List cl),())) (λa=>ao (da a.1 0)
 (ab (a.2.1.1,a.2.1.2.1,()))
 (ab (a.2.2.1,(0:Int),())))
def nu(x:dX×al):Option ((List Sb)×al) :=
 ao (inside 0 (len x.1.2.2.1)<|len x.1.2.2.1)
 (ao (fits<|len x.1.2.2.1)
 (ab (over (kn (len x.1.2.2.1) ([]:aw)) (0:Int)<|@jd Sb x.1.2.2.2.1<|len<|kn (len x.1.2.2.1) ([]:aw),()))
 ah)
 ah
def vo(x:cl×al):Option (Sb×al) :=
 ab (x.1.1,())
def Ih(x:dX×Sb×al)(a:iF×al×Sb×al):Option (Tc⊕Tb) :=
 ao (aZ a.1.2.1<|len x.1.2.2.1)
 (ag (idx x.1.2.2.1 a.1.2.1) λb=>ag (vo (b,())) λc=>ao (bG c.1 a.2.2.1)
 (ab<|Sum.inr (1,(a.1.2.1,a.1.2.1,()),(),a.2.2.1,()))
 (ab<|Sum.inl ((a.1.1,aH i64 a.1.2.1 1,()),(),a.2.2.1,())))
 (ab<|Sum.inr (0,(a.1.1,a.1.2.1,()),(),a.2.2.1,()))
def iO(x:dX×Sb×al):Option (cl×Sb×Bool×al) :=
 ag (ag (Loop (Ih x) (((0:Int),(0:Int),()),(),x.2.1,())) λa=>ao (da a.1 0)
 (ab (((-1:Int),()),(),a.2.2.2.1,()))
 (ab ((a.2.1.1,()),(),a.2.2.2.1,()))) (λa=>ao (aZ a.1.1 0)
 (ab ((([]:aw),([]:aw),([]:List Sb),([]:aw),(0:Int),(0:Int),false,()),([]:aw),false,()))
 (ag (idx x.1.2.2.1 a.1.1) λb=>ag (bc (b.2.2.1,())) λc=>ag (nu (x.1,())) λd=>ag (idx d.1 a.1.1) λe=>ab ((b.1,b.2.1,c.1,b.2.2.2),e,true,())))
def Kr(x:dX×Sb×al)(a:Dt×(List cl)×al):Option ((Dt×(List cl)×al)⊕(Nat×Dt×(List cl)×al)) :=
 ao (aZ a.1.2.2.2.2.1<|len x.1.2.2.1)
 (ag (idx x.1.2.2.1 a.1.2.2.2.2.1) λb=>ao (nt<|bG b.1 a.1.2.2.2.1)
 (ab<|Sum.inl ((a.1.1,a.1.2.1,(),a.1.2.2.2.1,aH i64 a.1.2.2.2.2.1 1,()),a.2.1,()))
 (ao (aS (len a.2.1) 16)
 (ab<|Sum.inr (1,(([]:List cl),(5:Int),(),a.1.2.2.2.1,a.1.2.2.2.2.1,()),a.2.1,()))
 (ag (bc (b.2.2.1,())) λc=>ao (fits<|plus (len a.2.1)<|len ([(b.1,b.2.1,c.1,b.2.2.2)]:List cl))
 (ao (bG b.2.1 ([]:aw))
 (ab<|Sum.inr (2,(a.1.1,a.1.2.1,(),a.1.2.2.2.1,a.1.2.2.2.2.1,()),app a.2.1 ([(b.1,b.2.1,c.1,b.2.2.2)]:List cl),()))
 (ab<|Sum.inr (3,(a.1.1,a.1.2.1,(),b.2.1,a.1.2.2.2.2.1,()),app a.2.1 ([(b.1,b.2.1,c.1,b.2.2.2)]:List cl),())))
 ah)))
 (ab<|Sum.inr (0,(a.1.1,a.1.2.1,(),a.1.2.2.2.1,a.1.2.2.2.2.1,()),a.2.1,()))
def Bq(x:dX×Sb×al)(c:yo×(List cl)×al):Option ((yo×(List cl)×al)⊕(Nat×yo×(List cl)×al)) :=
 ag (Loop (Kr x) ((c.1.1,c.1.2.1,(),c.1.2.2.2.1,(0:Int),()),c.2.1,())) (λa=>ao (da a.1 0)
 (ab<|Sum.inr (0,(([]:List cl),(3:Int),(),a.2.1.2.2.2.1,()),a.2.2.1,()))
 (ao (da (@Nat.rec (λ(b:Nat)=>Nat) 0 (λ(b:Nat)=>λ(d:Nat)=>b) a.1) 0)
 (ab<|Sum.inr (0,(a.2.1.1,a.2.1.2.1,(),a.2.1.2.2.2.1,()),a.2.2.1,()))
 (ao (da (@Nat.rec (λ(b:Nat)=>Nat) 0 (λ(b:Nat)=>λ(d:Nat)=>b)<|@Nat.rec (λ(b:Nat)=>Nat) 0 (λ(b:Nat)=>λ(d:Nat)=>b) a.1) 0)
 (ab<|Sum.inr (1,(a.2.1.1,a.2.1.2.1,(),a.2.1.2.2.2.1,()),a.2.2.1,()))
 (ab<|Sum.inl ((a.2.1.1,a.2.1.2.1,(),a.2.1.2.2.2.1,()),a.2.2.1,())))))
def Ks(b:Nat×yo×(List cl)×al)(a:iF×al):Option ((iF×al)⊕(iF×al)) :=
 dn (ao (aZ a.1.1 a.1.2.1)
 (ag (idx b.2.1.1 a.1.2.1) λc=>ag (idx b.2.1.1 a.1.1) λd=>ag (idx b.2.1.1 a.1.1) λe=>ah)
 (ab<|Sum.inr (0,(a.1.1,a.1.2.1,()),())))
def Kt(x:dX×Sb×al)(b:Nat×yo×(List cl)×al)(a:(al×Int×al)×(List Sb)×al):Option (((al×Int×al)×(List Sb)×al)⊕((al×Int×al)×(List Sb)×al)) :=
 dn (ao (aZ a.1.2.1<|len b.2.1.1)
 (ag (idx b.2.1.1 a.1.2.1) λd=>ag (iO (x.1,d.1,())) λc=>ao (fits<|plus (len a.2.1)<|len ([c.2.1]:List Sb))
 (ab<|Sum.inl (((),aH i64 a.1.2.1 1,()),app a.2.1 ([c.2.1]:List Sb),()))
 ah)
 (ab<|Sum.inr (0,((),a.1.2.1,()),a.2.1,())))
def fl(a:(Int×Int×al×al)×(List cl)×al):Option (((Int×Int×al×al)×(List cl)×al)⊕((Int×Int×al×al)×(List cl)×al)) :=
 dn (ao (aZ a.1.1 a.1.2.1)
 (ao (within a.1.2.1<|len a.2.1)
 (ag (idx a.2.1 a.1.2.1) λb=>ao (within a.1.1<|len a.2.1)
 (ag (idx a.2.1 a.1.1) λc=>ao (within a.1.1<|len a.2.1)
 (ag (idx a.2.1 a.1.1) λe=>ag (idx a.2.1 a.1.1) λf=>ag (idx a.2.1 a.1.1) λg=>ao (within a.1.2.1<|len<|lS a.2.1 a.1.1 b)
 (ag (idx (lS a.2.1 a.1.1 b) a.1.2.1) λh=>ag (idx (lS a.2.1 a.1.1 b) a.1.2.1) λi=>ag (idx (lS a.2.1 a.1.1 b) a.1.2.1) λd=>ab (Sum.inl ((aH i64 a.1.1 1,db i64 a.1.2.1 1,(),()),lS (lS a.2.1 a.1.1 b) a.1.2.1 c,())))
 ah)
 ah)
 ah)
 ah)
 (ab<|Sum.inr (0,(a.1.1,a.1.2.1,(),()),a.2.1,())))
def qI(x:dX×Sb×al)(b:(Int×Int×al×al)×(List cl)×al)(a:(al×Int×al)×(List Sb)×al):Option (((al×Int×al)×(List Sb)×al)⊕((al×Int×al)×(List Sb)×al)) :=
 dn (ao (aZ a.1.2.1<|len b.2.1)
 (ag (idx b.2.1 a.1.2.1) λd=>ag (iO (x.1,d.1,())) λc=>ao (fits<|plus (len a.2.1)<|len ([c.2.1]:List Sb))
 (ab<|Sum.inl (((),aH i64 a.1.2.1 1,()),app a.2.1 ([c.2.1]:List Sb),()))
 ah)
 (ab<|Sum.inr (0,((),a.1.2.1,()),a.2.1,())))
def mw(x:dX×Sb×al):Option ((List xq)×Int×al) :=
 ag (Loop (Bq x) ((([]:List cl),(0:Int),(),x.2.1,()),([]:List cl),())) (λa=>ao (da a.1 0)
 (ao (nt<|aS a.2.1.2.1 0)
 (ab (([]:List xq),a.2.1.2.1,()))
 (ag (Loop (Ks a) (((0:Int),db i64 (len a.2.1.1) 1,()),())) λd=>ag (Loop (Kt x a) (((),(0:Int),()),([]:List Sb),())) λc=>ag (qa (c.2.1,())) λb=>ab (b.1,b.2.1,())))
 (ag (Loop (fl) (((0:Int),db i64 (len a.2.2.1) 1,(),()),a.2.2.1,())) λd=>ag (Loop (qI x d) (((),(0:Int),()),([]:List Sb),())) λc=>ag (qa (c.2.1,())) λb=>ab (b.1,b.2.1,())))
def js(x:dX×Sb×al):Option ((List xq)×Int×al) :=
 ao (bG x.2.1 ([]:aw))
 (ab (([]:List xq),(0:Int),()))
 (ag (mw (x.1,x.2.1,())) λa=>ab (a.1,a.2.1,()))
def eB(x:Int×al):Option (E8×al) :=
 ab ((x.1,([]:aw),(0:Int),([]:aw),()),())
def kY(x:(List Sb)×Int×Sb×al):Option ((List Sb)×al) :=
 ao (fits<|len x.1)
 (ag (e9 x.1 (x.2.1,([x.2.2.1]:List Sb),())) λa=>ab (a,()))
 ah
def b4(x:(List cl)×al):Option ((List cl)×al) :=
 bif fits (len x.1) then ab (x.1,()) else ah
def iG(x:(List cl)×Int×cl×al):Option ((List cl)×al) :=
 ao (fits<|len x.1)
 (ag (dI x.1 (x.2.1,([x.2.2.1]:List cl),())) λa=>ab (a,()))
 ah
def qJ(x:dX×cl×Sb×al)(a:iF×cl×al):Option ((iF×cl×al)⊕(Nat×iF×cl×al)) :=
 ao (aZ a.1.2.1<|len x.1.2.2.1)
 (ag (idx x.1.2.2.1 a.1.2.1) λb=>ao (nt<|fq b.1 a.2.1.1)
 (ab<|Sum.inr (1,(a.1.2.1,a.1.2.1,()),a.2.1,()))
 (ab<|Sum.inl ((a.1.1,aH i64 a.1.2.1 1,()),a.2.1,())))
 (ab<|Sum.inr (0,(a.1.1,a.1.2.1,()),a.2.1,()))
def pA(x:dX×cl×Sb×al):Option (dX×al) :=
 ag (ag (Loop (qJ x) (((0:Int),(0:Int),()),x.2.1,())) λa=>ao (da a.1 0)
 (ab (((-1:Int),()),a.2.2.1,()))
 (ab ((a.2.1.1,()),a.2.2.1,()))) (λa=>ag (nu (x.1,())) λb=>ag (kY (b.1,((ao (aZ a.1.1 0)
 ((len x.1.2.2.1,()),())
 ((a.1.1,()),())).1).1,x.2.2.1,())) λc=>ag (iG (x.1.2.2.1,((ao (aZ a.1.1 0)
 ((len x.1.2.2.1,()),())
 ((a.1.1,()),())).1).1,a.2.1,())) λd=>ab ((x.1.1,x.1.2.1,d.1,c.1,x.1.2.2.2.2),()))
def hU(x:dX×Sb×(List Sb)×Sb×Int×al):Option (dX×E8×al) :=
 ag (ag (fH (x.2.2.1,())) λc=>ao (nt<|aS c.1 0)
 (ab ((c.1,()),((),(),(),(),(),(),(),()),x.2.2.1,x.2.2.2.1,x.2.1,x.1,([]:aw),x.2.2.2.2.1,([]:aw),([]:List xq),()))
 (ag (ao (bG x.2.2.2.1 ([]:aw))
 (ab (((0:Int),()),x.2.2.2.1,()))
 (ag (hR (x.2.2.2.1,())) λa=>ab ((a.1,()),x.2.2.2.1,()))) λa=>ao (nt<|aS a.1.1 0)
 (ab ((a.1.1,()),((),(),(),(),(),(),(),()),x.2.2.1,a.2.1,x.2.1,x.1,([]:aw),x.2.2.2.2.1,([]:aw),([]:List xq),()))
 (ag (ao (nt<|bG x.2.1 ([]:aw))
 (ag (dG (x.1,x.2.1,())) λd=>ab ((d.2.1,()),d.1,()))
 (ab (((0:Int),()),([]:aw),()))) λd=>ao (nt<|aS d.1.1 0)
 (ab ((d.1.1,()),((),(),(),(),(),(),(),()),x.2.2.1,a.2.1,x.2.1,x.1,d.2.1,x.2.2.2.2.1,([]:aw),([]:List xq),()))
 (ag (lE (x.1,())) λh=>ag (gz (h.1,([]:aw),x.2.2.1,())) λi=>ao (nt<|aS i.1 0)
 (ab ((i.1,()),((),(),(),(),(),(),(),()),x.2.2.1,a.2.1,x.2.1,x.1,d.2.1,x.2.2.2.2.1,([]:aw),([]:List xq),()))
 (ag (lE (x.1,())) λj=>ag (gL (j.1,x.2.2.2.2.1,())) λg=>ao (nt<|aS g.2.1 0)
 (ab ((g.2.1,()),((),(),(),(),(),(),(),()),x.2.2.1,a.2.1,x.2.1,x.1,d.2.1,x.2.2.2.2.1,g.1,([]:List xq),()))
 (ag (ag (kz (x.1.2.2.1,d.2.1,())) λe=>ao (ao (ao (nt<|bG d.2.1 ([]:aw))
 (aS e.2.1 0)
 false)
 (cj 16<|len e.1)
 false)
 (ab (((5:Int),()),d.2.1,x.1,()))
 (ab (((0:Int),()),d.2.1,x.1,()))) λe=>ao (nt<|aS e.1.1 0)
 (ab ((e.1.1,()),((),(),(),(),(),(),(),()),x.2.2.1,a.2.1,x.2.1,e.2.2.1,e.2.1,x.2.2.2.2.1,g.1,([]:List xq),()))
 (ag (ao (bG a.2.1 ([]:aw))
 (ab (((0:Int),()),([]:List xq),e.2.1,e.2.2.1,a.2.1,()))
 (ag (js (e.2.2.1,e.2.1,())) λb=>ag (ao (aS b.2.1 0)
 (ag (jS (b.1,a.2.1,())) λf=>ab ((f.2.1,()),()))
 (ab ((b.2.1,()),()))) λf=>ab ((f.1.1,()),b.1,e.2.1,e.2.2.1,a.2.1,()))) λb=>ao (nt<|aS b.1.1 0)
 (ab ((b.1.1,()),((),(),(),(),(),(),(),()),x.2.2.1,b.2.2.2.2.1,x.2.1,b.2.2.2.1,b.2.2.1,x.2.2.2.2.1,g.1,b.2.1,()))
 (ab (((0:Int),()),((),(),(),(),(),(),(),()),x.2.2.1,b.2.2.2.2.1,x.2.1,b.2.2.2.1,b.2.2.1,x.2.2.2.2.1,g.1,b.2.1,()))))))))) (λc=>ao (nt<|aS c.1.1 0)
 (ag (eB (c.1.1,())) λa=>ab (c.2.2.2.2.2.1,a.1,()))
 (ag (ao (bG c.2.2.2.1 ([]:aw))
 (ag (yV ()) λa=>ab ((),a.1,()))
 (ab ((),c.2.2.2.1,()))) λa=>ao (fits<|plus (len ([]:List Sb))<|len c.2.2.1)
 (ag (oi (a.2.1,())) λd=>ag (pA (c.2.2.2.2.2.1,(c.2.2.2.2.2.2.2.2.1,c.2.2.2.2.2.2.1,app ([]:List Sb) c.2.2.1,d.1,len a.2.1,(0:Int),true,()),a.2.1,())) λh=>ab (h.1,((0:Int),c.2.2.2.2.2.2.2.2.1,(0:Int),([]:aw),()),()))
 ah))
def qK(x:dX×Sb×al)(a:iF×Sb×al):Option (Cu⊕Ct) :=
 ao (aZ a.1.2.1<|len x.1.2.2.1)
 (ag (idx x.1.2.2.1 a.1.2.1) λb=>ao (bG b.2.1 a.2.1)
 (ab<|Sum.inr (1,(a.1.2.1,a.1.2.1,()),a.2.1,()))
 (ab<|Sum.inl ((a.1.1,aH i64 a.1.2.1 1,()),a.2.1,())))
 (ab<|Sum.inr (0,(a.1.1,a.1.2.1,()),a.2.1,()))
def vp(x:dX×Sb×al)(a:iF×Sb×al):Option (Cu⊕Ct) :=
 ao (aZ a.1.2.1<|len x.1.2.1)
 (ag (idx x.1.2.1 a.1.2.1) λb=>ao (bG b.2.2.1 a.2.1)
 (ab<|Sum.inr (1,(a.1.2.1,a.1.2.1,()),a.2.1,()))
 (ab<|Sum.inl ((a.1.1,aH i64 a.1.2.1 1,()),a.2.1,())))
 (ab<|Sum.inr (0,(a.1.1,a.1.2.1,()),a.2.1,()))
def Ku(x:dX×Sb×al)(a:iF×Sb×al):Option (Cu⊕Ct) :=
 ao (aZ a.1.2.1<|len x.1.1)
 (ag (idx x.1.1 a.1.2.1) λb=>ao (bG b.2.2.2.1 a.2.1)
 (ab<|Sum.inr (1,(a.1.2.1,a.1.2.1,()),a.2.1,()))
 (ab<|Sum.inl ((a.1.1,aH i64 a.1.2.1 1,()),a.2.1,())))
 (ab<|Sum.inr (0,(a.1.1,a.1.2.1,()),a.2.1,()))
def Kv(x:dX×Sb×al)(a:iF×Sb×al):Option (Cu⊕Ct) :=
 ao (aZ a.1.2.1<|len x.1.1)
 (ag (idx x.1.1 a.1.2.1) λb=>ao (bG b.2.2.2.1 a.2.1)
 (ab<|Sum.inr (1,(a.1.2.1,a.1.2.1,()),a.2.1,()))
 (ab<|Sum.inl ((a.1.1,aH i64 a.1.2.1 1,()),a.2.1,())))
 (ab<|Sum.inr (0,(a.1.1,a.1.2.1,()),a.2.1,()))
def pB(x:dX×Sb×al):Option (Bool×al) :=
 ag (ag (Loop (qK x) (((0:Int),(0:Int),()),x.2.1,())) λa=>ao (da a.1 0)
 (ab (((-1:Int),()),a.2.2.1,()))
 (ab ((a.2.1.1,()),a.2.2.1,()))) (λa=>ag (Loop (vp x) (((0:Int),(0:Int),()),a.2.1,())) λc=>ao (da c.1 0)
 (ao (nt<|ao (nt<|cj 0 a.1.1)
 false
 true)
 (ag (Loop (Ku x) (((0:Int),(0:Int),()),c.2.2.1,())) λb=>ao (da b.1 0)
 (ab (false,()))
 (ab (cj 0 b.2.1.1,())))
 (ab (true,())))
 (ao (nt<|ao (nt<|cj 0 a.1.1)
 (cj 0 c.2.1.1)
 true)
 (ag (Loop (Kv x) (((0:Int),(0:Int),()),c.2.2.1,())) λb=>ao (da b.1 0)
 (ab (false,()))
 (ab (cj 0 b.2.1.1,())))
 (ab (true,()))))
def vq(x:yU×al):Option (Sb×al) :=
 ab (x.1.1,())
def kg(x:dX×Sb×al)(a:iF×al×Sb×al):Option (Tc⊕Tb) :=
 ao (aZ a.1.2.1<|len x.1.2.2.2.2.1)
 (ag (idx x.1.2.2.2.2.1 a.1.2.1) λb=>ag (vq (b,())) λc=>ao (bG c.1 a.2.2.1)
 (ab<|Sum.inr (1,(a.1.2.1,a.1.2.1,()),(),a.2.2.1,()))
 (ab<|Sum.inl ((a.1.1,aH i64 a.1.2.1 1,()),(),a.2.2.1,())))
 (ab<|Sum.inr (0,(a.1.1,a.1.2.1,()),(),a.2.2.1,()))
def dB(x:dX×Sb×al):Option (Int×al) :=
 ag (Loop (kg x) (((0:Int),(0:Int),()),(),x.2.1,())) (λa=>ao (da a.1 0)
 (ab ((0:Int),()))
 (ao (aZ a.2.1.1 0)
 (ab ((0:Int),()))
 (ag (idx x.1.2.2.2.2.1 a.2.1.1) λb=>ab (b.2.1,()))))
def iH(x:(List Sb)×Int×al):Option ((List Sb)×al) :=
 ao (aZ x.2.1 0)
 (ab (x.1,()))
 (ao (fits<|len x.1)
 (ag (fa x.1 (x.2.1,aH i64 x.2.1 1,())) λa=>ab (a,()))
 ah)
def gg(x:(List cl)×Int×al):Option ((List cl)×al) :=
 ao (aZ x.2.1 0)
 (ab (x.1,()))
 (ao (fits<|len x.1)
 (ag (dJ x.1 (x.2.1,aH i64 x.2.1 1,())) λa=>ab (a,()))
 ah)
def b5(x:(List yU)×al):Option ((List yU)×al) :=
 bif fits (len x.1) then ab (x.1,()) else ah
def bM(x:(List yU)×Int×yU×al):Option ((List yU)×al) :=
 ao (fits<|len x.1)
 (ag (fg x.1 (x.2.1,([x.2.2.1]:List yU),())) λa=>ab (a,()))
 ah
def pC(x:dX×Sb×Int×al)(a:iF×Sb×al):Option (Cu⊕Ct) :=
 ao (aZ a.1.2.1<|len x.1.2.2.2.2.1)
 (ao (within a.1.2.1<|len x.1.2.2.2.2.1)
 (ag (idx x.1.2.2.2.2.1 a.1.2.1) λb=>ao (bG b.1 a.2.1)
 (ab<|Sum.inr (1,(a.1.2.1,a.1.2.1,()),a.2.1,()))
 (ab<|Sum.inl ((a.1.1,aH i64 a.1.2.1 1,()),a.2.1,())))
 ah)
 (ab<|Sum.inr (0,(a.1.1,a.1.2.1,()),a.2.1,()))
def Ii(x:dX×Sb×Int×al)(a:iF×Sb×al):Option (Cu⊕Ct) :=
 ao (aZ a.1.2.1<|len x.1.2.2.2.2.1)
 (ag (idx x.1.2.2.2.2.1 a.1.2.1) λb=>ao (nt<|oor (fq b.1 a.2.1)<|bG b.1 a.2.1)
 (ab<|Sum.inr (1,(a.1.2.1,a.1.2.1,()),a.2.1,()))
 (ab<|Sum.inl ((a.1.1,aH i64 a.1.2.1 1,()),a.2.1,())))
 (ab<|Sum.inr (0,(a.1.1,a.1.2.1,()),a.2.1,()))
def Ij(x:dX×Sb×Int×al)(a:iF×Sb×al):Option (Cu⊕Ct) :=
 ao (aZ a.1.2.1<|len x.1.2.2.2.2.1)
 (ag (idx x.1.2.2.2.2.1 a.1.2.1) λb=>ao (nt<|oor (fq b.1 a.2.1)<|bG b.1 a.2.1)
 (ab<|Sum.inr (1,(a.1.2.1,a.1.2.1,()),a.2.1,()))
 (ab<|Sum.inl ((a.1.1,aH i64 a.1.2.1 1,()),a.2.1,())))
 (ab<|Sum.inr (0,(a.1.1,a.1.2.1,()),a.2.1,()))
def pD(a:(Int×Int×al×al)×Sb×(List yU)×al):Option (aat⊕aat) :=
 dn (ao (aZ a.1.2.1<|len a.2.2.1)
 (ao (within a.1.2.1<|len a.2.2.1)
 (ag (idx a.2.2.1 a.1.2.1) λc=>ag (ao (nt<|bG c.1 a.2.1)
 (ao (within a.1.1<|len a.2.2.1)
 (ag (idx a.2.2.1 a.1.1) λb=>ag (idx a.2.2.1 a.1.1) λd=>ag (idx a.2.2.1 a.1.1) λe=>ab ((aH i64 a.1.1 1,(),()),lS a.2.2.1 a.1.1 c,()))
 ah)
 (ab ((a.1.1,(),()),a.2.2.1,()))) λb=>ab (Sum.inl ((b.1.1,aH i64 a.1.2.1 1,(),()),a.2.1,b.2.1,())))
 ah)
 (ab<|Sum.inr (0,(a.1.1,a.1.2.1,(),()),a.2.1,a.2.2.1,())))
def zH(b:(Int×Int×al×al)×Sb×(List yU)×al)(a:iF×Sb×al):Option (Cu⊕Ct) :=
 ao (aZ a.1.2.1<|len<|sub (over b.2.2.1 b.1.1<|kn (minus (len b.2.2.1) b.1.1) (([]:aw),(0:Int),())) (0:Int)<|minus b.1.1 0)
 (ag (idx (sub (over b.2.2.1 b.1.1<|kn (minus (len b.2.2.1) b.1.1) (([]:aw),(0:Int),())) (0:Int)<|minus b.1.1 0) a.1.2.1) λc=>ao (nt<|oor (fq c.1 a.2.1)<|bG c.1 a.2.1)
 (ab<|Sum.inr (1,(a.1.2.1,a.1.2.1,()),a.2.1,()))
 (ab<|Sum.inl ((a.1.1,aH i64 a.1.2.1 1,()),a.2.1,())))
 (ab<|Sum.inr (0,(a.1.1,a.1.2.1,()),a.2.1,()))
def qe(x:dX×Sb×Int×al):Option (dX×al) :=
 ao (fits<|len x.1.2.2.2.2.1)
 (ag (Loop (pC x) (((0:Int),(0:Int),()),x.2.1,())) λc=>ao (da c.1 0)
 (ag (ao (aZ 0 x.2.2.1)
 (ag (Loop (Ii x) (((0:Int),(0:Int),()),c.2.2.1,())) λa=>ao (da a.1 0)
 (ag (bM (x.1.2.2.2.2.1,(((len x.1.2.2.2.2.1,()),()).1).1,(a.2.2.1,x.2.2.1,()),())) λb=>ab ((b.1,()),a.2.2.1,()))
 (ag (bM (x.1.2.2.2.2.1,((ao (aZ a.2.1.1 0)
 ((len x.1.2.2.2.2.1,()),())
 ((a.2.1.1,()),())).1).1,(a.2.2.1,x.2.2.1,()),())) λb=>ab ((b.1,()),a.2.2.1,())))
 (ab ((x.1.2.2.2.2.1,()),c.2.2.1,()))) λa=>ab ((x.1.1,x.1.2.1,x.1.2.2.1,x.1.2.2.2.1,a.1.1,x.1.2.2.2.2.2),()))
 (ao (aS c.2.1.1<|-1)
 (ag (ao (aZ 0 x.2.2.1)
 (ag (Loop (Ij x) (((0:Int),(0:Int),()),c.2.2.1,())) λa=>ao (da a.1 0)
 (ag (bM (x.1.2.2.2.2.1,(((len x.1.2.2.2.2.1,()),()).1).1,(a.2.2.1,x.2.2.1,()),())) λb=>ab ((b.1,()),a.2.2.1,()))
 (ag (bM (x.1.2.2.2.2.1,((ao (aZ a.2.1.1 0)
 ((len x.1.2.2.2.2.1,()),())
 ((a.2.1.1,()),())).1).1,(a.2.2.1,x.2.2.1,()),())) λb=>ab ((b.1,()),a.2.2.1,())))
 (ab ((x.1.2.2.2.2.1,()),c.2.2.1,()))) λa=>ab ((x.1.1,x.1.2.1,x.1.2.2.1,x.1.2.2.2.1,a.1.1,x.1.2.2.2.2.2),()))
 (ag (Loop (pD) ((c.2.1.1,aH i64 c.2.1.1 1,(),()),c.2.2.1,x.1.2.2.2.2.1,())) λa=>ao (inside a.1.1 (len a.2.2.1)<|len a.2.2.1)
 (ao (inside 0 a.1.1<|len<|over a.2.2.1 a.1.1<|kn (minus (len a.2.2.1) a.1.1) (([]:aw),(0:Int),()))
 (ag (ao (aZ 0 x.2.2.1)
 (ag (Loop (zH a) (((0:Int),(0:Int),()),a.2.1,())) λb=>ao (da b.1 0)
 (ag (bM (sub (over a.2.2.1 a.1.1<|kn (minus (len a.2.2.1) a.1.1) (([]:aw),(0:Int),())) (0:Int)<|minus a.1.1 0,(((len<|sub (over a.2.2.1 a.1.1<|kn (minus (len a.2.2.1) a.1.1) (([]:aw),(0:Int),())) (0:Int)<|minus a.1.1 0,()),()).1).1,(b.2.2.1,x.2.2.1,()),())) λd=>ab ((d.1,()),b.2.2.1,()))
 (ag (bM (sub (over a.2.2.1 a.1.1<|kn (minus (len a.2.2.1) a.1.1) (([]:aw),(0:Int),())) (0:Int)<|minus a.1.1 0,((ao (aZ b.2.1.1 0)
 ((len<|sub (over a.2.2.1 a.1.1<|kn (minus (len a.2.2.1) a.1.1) (([]:aw),(0:Int),())) (0:Int)<|minus a.1.1 0,()),())
 ((b.2.1.1,()),())).1).1,(b.2.2.1,x.2.2.1,()),())) λd=>ab ((d.1,()),b.2.2.1,())))
 (ab ((sub (over a.2.2.1 a.1.1<|kn (minus (len a.2.2.1) a.1.1) (([]:aw),(0:Int),())) (0:Int)<|minus a.1.1 0,()),a.2.1,()))) λb=>ab ((x.1.1,x.1.2.1,x.1.2.2.1,x.1.2.2.2.1,b.1.1,x.1.2.2.2.2.2),()))
 ah)
 ah)))
 ah
def xr(x:dX×Sb×al)(a:iF×al×Sb×al):Option (Tc⊕Tb) :=
 ao (aZ a.1.2.1<|len x.1.2.2.1)
 (ag (idx x.1.2.2.1 a.1.2.1) λb=>ag (vo (b,())) λc=>ao (bG c.1 a.2.2.1)
 (ab<|Sum.inr (1,(a.1.2.1,a.1.2.1,()),(),a.2.2.1,()))
 (ab<|Sum.inl ((a.1.1,aH i64 a.1.2.1 1,()),(),a.2.2.1,())))
 (ab<|Sum.inr (0,(a.1.1,a.1.2.1,()),(),a.2.2.1,()))
def jT(x:dX×Sb×al):Option (dX×al) :=
 ag (ag (Loop (xr x) (((0:Int),(0:Int),()),(),x.2.1,())) λa=>ao (da a.1 0)
 (ab (((-1:Int),()),(),a.2.2.2.1,()))
 (ab ((a.2.1.1,()),(),a.2.2.2.1,()))) (λa=>ag (nu (x.1,())) λb=>ag (iH (b.1,a.1.1,())) λc=>ag (gg (x.1.2.2.1,a.1.1,())) λd=>ag (qe ((x.1.1,x.1.2.1,d.1,c.1,x.1.2.2.2.2),x.2.1,(0:Int),())) λe=>ab (e.1,()))
def qL(x:dX×Sb×al):Option (dX×E8×al) :=
 ag (dG (x.1,x.2.1,())) (λa=>ao (nt<|aS a.2.1 0)
 (ag (eB (a.2.1,())) λb=>ab (x.1,b.1,()))
 (ag (pB (x.1,a.1,())) λb=>ag (ao (nt b.1)
 (ag (dB (x.1,a.1,())) λc=>ab (aZ 0 c.1))
 (ab true)) λc=>ao c
 (ag (eB ((7:Int),())) λd=>ab (x.1,d.1,()))
 (ag (jT (x.1,a.1,())) λd=>ab (d.1,((0:Int),a.1,(0:Int),([]:aw),()),()))))
def lN(x:dX×Sb×Int×al):Option (dX×E8×al) :=
 ag (dG (x.1,x.2.1,())) (λb=>ao (nt<|aS b.2.1 0)
 (ag (eB (b.2.1,())) λa=>ab (x.1,a.1,()))
 (ag (dB (x.1,b.1,())) λa=>ao (ao (aZ 0 x.2.2.1)
 (cj 1000 a.1)
 false)
 (ag (eB ((5:Int),())) λc=>ab (x.1,c.1,()))
 (ao (ao (aZ x.2.2.1 0)
 (aZ a.1 1)
 false)
 (ag (eB ((11:Int),())) λc=>ab (x.1,c.1,()))
 (ag (qe (x.1,b.1,aH i64 a.1 x.2.2.1,())) λc=>ab (c.1,((0:Int),b.1,aH i64 a.1 x.2.2.1,([]:aw),()),())))))
def xv(x:dX×Sb×al):Option (dX×E8×al) :=
 ag (lN (x.1,x.2.1,(1:Int),())) (λa=>ab (a.1,a.2.1,()))
def tr(x:dX×Sb×al):Option (dX×E8×al) :=
 ag (lN (x.1,x.2.1,(-1:Int),())) (λa=>ab (a.1,a.2.1,()))
def uy(x:dX×Sb×al):Option (E8×al) :=
 ag (dG (x.1,x.2.1,())) (λa=>ao (nt<|aS a.2.1 0)
 (ag (eB (a.2.1,())) λb=>ab (b.1,()))
 (ag (iO (x.1,a.1,())) λb=>ab (((0:Int),a.1,(0:Int),b.2.1,()),())))
end Go.Ge
namespace Go.Ge
variable [Lp]
abbrev It:=Tx×Tx×Tx×al
def Ik(l:List It)(p:Tx):Option Nat:=l.findIdx? λx=>decide (x.1=p)
def ab3{l:List It}{p:Tx}{i:Nat}{x:It}(a:l[i]?=ab x)(c:x.1=p)(d:∀j y,j<i->l[j]?=ab y->y.1≠p):Ik l p=ab i:=by
 unfold Ik;rw[aa3];have hi:=aG a;refine⟨hi,?_,λj b=>?_⟩
 .rw[ia hi] at a;rw[aR a];simpa using c
 .have:=d j l[j] b (ia ai);simpa using this
def ab4{l:List It}{p:Tx}(h:∀(i:Nat) (x:It),l[i]?=ab x->x.1≠p):Ik l p=none:=by
 unfold Ik;rw[adv];intro x a;obtain⟨i,b⟩:=bz.1 a;simpa using h i x b
def Nh(l:List It)(p:Tx):Tx×Int:=match l.find? λx=>decide (x.1=p) with|some x=>(x.2.2.1,0)|none=>([],3)
def ab5{l:List It}{p:Tx}{i:Nat}{x:It}(a:l[i]?=ab x)(c:x.1=p)(d:∀j y,j<i->l[j]?=ab y->y.1≠p):Nh l p=(x.2.2.1,0):=by
 unfold Nh;have hi:=aG a;have:l.find? (λx=>decide (x.1=p))=ab x:=by
  rw[ads];refine⟨by simpa using c,i,hi,?_,λj b=>?_⟩
  .rw[ia hi] at a;exact aR a
  .have:=d j l[j] b (ia ai);simpa using this
 rw[this]
def ab6{l:List It}{p:Tx}(h:∀(i:Nat) (x:It),l[i]?=ab x->x.1≠p):Nh l p=([],3):=by
 unfold Nh;have:l.find? (λx=>decide (x.1=p))=none:=by
  rw[T6];intro x a;obtain⟨i,b⟩:=bz.1 a;simpa using h i x b
 rw[this]
def Td{c:Type}[DecidableEq c]{a b:c}(h:decide (a=b)=false):a≠b:=by simpa using h
def Jy(l:List It)(p:Tx)(n:l.length<=100000):lD (l,p,())=ab ((Nh l p).1,(Nh l p).2,()):=by
 unfold lD;dsimp only;rcases iQ (f:=kV (l,p,())) l (λi=>((((0:Int),i,()),(),p,()))) (λ_ x=>decide (x.1=p)) (λi _=>(1,((i:Int),(i:Int),()),(),p,())) (0,((0:Int),(l.length:Int),()),(),p,()) ai (λi x a d b=>by
  unfold kV cc;dsimp only;rw[aq d,ae,au a,aa,aa,b,tX];cases decide (x.1=p)<;>rfl) (by
  unfold kV;dsimp only;rw[ay,af]) with ⟨i,x,a,e,g,h⟩|⟨k,h⟩
 .rw[h,aa];dsimp only;rw[show da 1 0=false from rfl,af,aI ai,af,au a,aa,ab5 a (iy e) λj y c m=>Td (g j y c m)]
 .rw[h,aa];dsimp only;rw[show da 0 0=true from rfl,ae,aP aK,ae,ab6 λi x a=>Td (k i x a)]
def Ni(l:List It)(e:l.length<=100000):gW (l,l,())=ab (true,()):=by
 unfold gW;dsimp only;rw[aE rfl,aF,af];rcases iQ (f:=ke (l,l,())) l (λi=>((false,i,()),())) (λ_ _=>false) (λi _=>(1,(false,(i:Int),()),())) (0,(false,(l.length:Int),()),()) ai (λi x a b c=>by
  unfold ke;dsimp only;rw[aq b,ae,ae,au a,aa,aa,cN rfl,cN rfl,cN rfl,c];rfl) (by unfold ke;dsimp only;rw[ay,af,af]) with ⟨i,x,_,d,_⟩|⟨g,h⟩
 .cases d
 .rw[h];rfl
def rmI(l:List It)(p:Tx):List It:=match Ik l p with|some i=>l.take i++l.drop (i+1)|none=>l
def Px(l:List It)(x:It):List It:=l.takeWhile (λy=>fq y.1 x.1)++[x]++l.dropWhile (λy=>fq y.1 x.1)
def tu(l:List It)(p d:Tx):List It×Int :=
 if iB p=true/\d.length<=64 then(if Ik l p=ah/\4<=l.length then([],5) else(Px (rmI l p) (p,ky d,d,()),0)) else([],1)
def ahD(l:List It)(p:Tx):(rmI l p).length<=l.length:=by
 unfold rmI;split
 .rw[hY,km,nV];omega
 .exact cq _
def afs{l:List It}{p:Tx}{k:Nat}(e:k<=l.length)(c:∀j y,j<k->l[j]?=ab y->fq y.1 p=true)(d:∀y,l[k]?=ab y->fq y.1 p=false) :
  l.takeWhile (λy=>fq y.1 p)=l.take k/\l.dropWhile (λy=>fq y.1 p)=l.drop k:=by
 induction l generalizing k with
 | nil=>simp
 | cons a r f =>
   cases k with
   | zero =>
     have:=d a rfl;simp[RF,Hr,this]
   | succ k =>
     have g:=c 0 a ai rfl;obtain⟨h,i⟩:=f (k:=k) (by simpa using e) (λj y m b=>c (j+1) y ai (by simpa using b)) (λy b=>d y (by simpa using b));simp only[RF,Hr,g,vD,Ud,List.drop_succ_cons,h,i];exact⟨trivial,trivial⟩
abbrev KS:=(Int×Int×al)×al×Tx×al
abbrev PS':=(Int×Int×al)×al×It×al
def Nj(l:List It)(p:Tx):Nat×(Int×Int×al)×al×Tx×al:=match Ik l p with
 | some i=>(1,((i:Int),(i:Int),()),(),p,())
 | none=>(0,((0:Int),(l.length:Int),()),(),p,())
def su(m:List It)(p:Tx):Nat:=(m.takeWhile λy=>fq y.1 p).length
def Te(m:List It)(a:It):Nat×(Int×Int×al)×al×It×al:=if su m a.1<m.length then(1,((su m a.1:Int),(su m a.1:Int),()),(),a,()) else(0,((0:Int),(m.length:Int),()),(),a,())
def Tf{f:KS->Option (KS⊕(Nat×KS))}(l:List It)(p:Tx)(n:l.length<=100000)
  (c:∀(i:Nat) (x:It),l[i]?=ab x->f (((0:Int),(i:Int),()),(),p,())=ab (if decide (x.1=p)=true then .inr (1,((i:Int),(i:Int),()),(),p,()) else .inl (((0:Int),((i+1:Nat):Int),()),(),p,())))
  (d:f (((0:Int),(l.length:Int),()),(),p,())=ab (.inr (0,((0:Int),(l.length:Int),()),(),p,()))) :
  Loop f (((0:Int),(0:Int),()),(),p,())=ab (Nj l p):=by
 unfold Nj;rcases iQ l (λi=>((((0:Int),i,()),_))) _ _ _ ai (λi x hx hi b=>c i x hx) d with ⟨i,x,hx,e,g,h⟩|⟨k,h⟩
 .rw[h,ab3 hx (iy e) λj y a m=>Td (g j y a m)]
 .rw[h,ab4 λi x hx=>Td (k i x hx)]
def GL{m:List It}{p:Tx}{k:Nat}(a:k<=m.length)(b:∀j y,j<k->m[j]?=ab y->fq y.1 p=true)(c:∀y,m[k]?=ab y->fq y.1 p=false):su m p=k:=by
 unfold su;rw[(afs a b c).1,km];omega
def K9{f:PS'->Option (PS'⊕(Nat×PS'))}(m:List It)(a:It)(r:m.length<=100000)
  (n:∀(i:Nat) (x:It),m[i]?=ab x->f (((0:Int),(i:Int),()),(),a,())=ab (if nt (fq x.1 a.1)=true then .inr (1,((i:Int),(i:Int),()),(),a,()) else .inl (((0:Int),((i+1:Nat):Int),()),(),a,())))
  (o:f (((0:Int),(m.length:Int),()),(),a,())=ab (.inr (0,((0:Int),(m.length:Int),()),(),a,()))) :
  Loop f (((0:Int),(0:Int),()),(),a,())=ab (Te m a):=by
 unfold Te;have b:∀{x:It},nt (fq x.1 a.1)=false->fq x.1 a.1=true:=λ{x} h=>by
  cases g:fq x.1 a.1 with
  | true=>rfl
  | false=>rw[g] at h;cases h
 rcases iQ m (λi=>((((0:Int),i,()),_))) _ _ _ ai (λi x hx hi k=>n i x hx) o with ⟨i,x,hx,l,p,h⟩|⟨q,h⟩
 .have hi:=aG hx;have e:=GL ai (λj y d c=>b (p j y d c)) (λy c=>by
   rw[hx] at c;obtain rfl:=aR c;cases g:fq x.1 a.1 with
   | false=>rfl
   | true=>rw[g] at l;cases l)
  grind
 .have e:=GL (cq _) (λj y d c=>b (q j y c)) (λy c=>by
   rw[Lr<|cq _] at c;cases c)
  grind
def ab7(m:List It)(a:It)(b:m.length<=100000):uU m ((su m a.1:Nat):Int) [a]=ab (Px m a):=by
 have c:su m a.1<=m.length:=by
  unfold su;have:=congrArg List.length (BP (p:=λy:It=>fq y.1 a.1) (l:=m))
  grind
 unfold uU Px;rw[show inside 0 _ _=true from aU aK ai ft,bo (by simp only[eU,gj];omega)];have e:=BP (p:=λy:It=>fq y.1 a.1) (l:=m);have d:m.take (su m a.1)=m.takeWhile (λy=>fq y.1 a.1):=by
  unfold su
  grind
 grind
def aft(m:List It)(a:It)(i:m.length<=100000){f:PS'->Option (PS'⊕(Nat×PS'))}(h:Loop f (((0:Int),(0:Int),()),(),a,())=ab (Te m a)) :
  (ag (Loop f (((0:Int),(0:Int),()),(),a,())) λ(b:Nat×(Int×Int×al)×al×(aw×aw×aw×al)×al)=>ao (da b.1 (0:Nat))
 (ag (aO m (((ao (aZ (-1:Int) (0:Int))
 ((@len (aw×aw×aw×al) m,()),())
 (((-1:Int),()),())).1).1,([b.2.2.2.1]:List (aw×aw×aw×al)),())) λ(c:List (aw×aw×aw×al))=>ab (c,(0:Int),()))
 (ag (aO m (((ao (aZ b.2.1.1 (0:Int))
 ((@len (aw×aw×aw×al) m,()),())
 ((b.2.1.1,()),())).1).1,([b.2.2.2.1]:List (aw×aw×aw×al)),())) λ(c:List (aw×aw×aw×al))=>ab (c,(0:Int),())))=ab (Px m a,(0:Int),()):=by
 rw[h,aa];unfold Te aO;have e:=ab7 m a i;by_cases g:su m a.1<m.length
 .rw[aW g];dsimp only;rw[show da 1 0=false from rfl,af,aI ai,af];rw[e,aa]
 .rw[aQ g];have d:su m a.1=m.length:=by
   have:su m a.1<=m.length:=by
    unfold su;have:=congrArg List.length (BP (p:=λy:It=>fq y.1 a.1) (l:=m))
    grind
   omega
  rw[show da 0 0=true from rfl,ae,aP aK,ae];rw[bE,<-d,e,aa]
def aiX(l:List It)(p d g:Tx)(f:l.length<=100000){h:KS->Option (KS⊕(Nat×KS))}{j k:(al×al)×(List It)×al->PS'->Option (PS'⊕(Nat×PS'))}
  (o:Loop h (((0:Int),(0:Int),()),(),p,())=ab (Nj l p))
  (q:∀(m:List It) (it:It),m.length<=100000->Loop (j (((),()),m,())) (((0:Int),(0:Int),()),(),it,())=ab (Te m it))
  (r:∀(m:List It) (it:It),m.length<=100000->Loop (k (((),()),m,())) (((0:Int),(0:Int),()),(),it,())=ab (Te m it)) :
  (ao (fits<|@len (aw×aw×aw×al) l)
 (ag (Loop h (((0:Int),(0:Int),()),(),p,())) λ(e:Nat×(Int×Int×al)×al×aw×al)=>ao (da e.1 (0:Nat))
 (ag (ao (cj (0:Int) (-1:Int))
 (ag (bC l ((-1:Int),aH i64 (-1:Int) (1:Int),())) λ(a:List (aw×aw×aw×al))=>ab (((),()),a,()))
 (ab (((),()),l,()))) λ(a:(al×al)×(List<|aw×aw×aw×al)×al)=>ag (Loop (j a) (((0:Int),(0:Int),()),(),(p,g,d,()),())) λ(b:Nat×(Int×Int×al)×al×(aw×aw×aw×al)×al)=>ao (da b.1 (0:Nat))
 (ag (aO a.2.1 (((ao (aZ (-1:Int) (0:Int))
 ((@len (aw×aw×aw×al) a.2.1,()),())
 (((-1:Int),()),())).1).1,([b.2.2.2.1]:List (aw×aw×aw×al)),())) λ(c:List (aw×aw×aw×al))=>ab (c,(0:Int),()))
 (ag (aO a.2.1 (((ao (aZ b.2.1.1 (0:Int))
 ((@len (aw×aw×aw×al) a.2.1,()),())
 ((b.2.1.1,()),())).1).1,([b.2.2.2.1]:List (aw×aw×aw×al)),())) λ(c:List (aw×aw×aw×al))=>ab (c,(0:Int),())))
 (ag (ao (cj (0:Int) e.2.1.1)
 (ag (bC l (e.2.1.1,aH i64 e.2.1.1 (1:Int),())) λ(a:List (aw×aw×aw×al))=>ab (((),()),a,()))
 (ab (((),()),l,()))) λ(a:(al×al)×(List<|aw×aw×aw×al)×al)=>ag (Loop (k a) (((0:Int),(0:Int),()),(),(p,g,d,()),())) λ(b:Nat×(Int×Int×al)×al×(aw×aw×aw×al)×al)=>ao (da b.1 (0:Nat))
 (ag (aO a.2.1 (((ao (aZ (-1:Int) (0:Int))
 ((@len (aw×aw×aw×al) a.2.1,()),())
 (((-1:Int),()),())).1).1,([b.2.2.2.1]:List (aw×aw×aw×al)),())) λ(c:List (aw×aw×aw×al))=>ab (c,(0:Int),()))
 (ag (aO a.2.1 (((ao (aZ b.2.1.1 (0:Int))
 ((@len (aw×aw×aw×al) a.2.1,()),())
 ((b.2.1.1,()),())).1).1,([b.2.2.2.1]:List (aw×aw×aw×al)),())) λ(c:List (aw×aw×aw×al))=>ab (c,(0:Int),()))))
 (none:Option ((List<|aw×aw×aw×al)×Int×al)))=ab (Px (rmI l p) (p,g,d,()),(0:Int),()):=by
 rw[cO ai,ae,o,aa];unfold Nj rmI bC;cases n:Ik l p with
 | none =>
   exact aft l _ f (q l _ f)
 | some i =>
   dsimp only;have hi:i<l.length:=by
    unfold Ik at n;rw[aa3] at n
    grind
   have hlen:(l.take i++l.drop (i+1)).length<=100000:=by rw[hY,km,nV];omega
   rw[show da 1 0=false from rfl,af,bO ai,ae,aL ai];unfold HS;rw[mf ai ai,pS,pS];exact aft _ _ hlen (r _ _ hlen)
def ahF{l:List It}{p:Tx}{i:Nat}(h:Ik l p=ab i):i<l.length:=by
 unfold Ik at h;rw[aa3] at h
 grind
def Jz(l:List It)(p d:Tx)(f:l.length<=100000)(o:d.length<=1048576):lC (l,p,d,())=ab ((tu l p d).1,(tu l p d).2,()):=by
 have q:Loop (kO (l,p,d,())) _=ab (Nj l p):=Tf l p f (λi x b=>by
  have hi:=aG b;unfold kO cc;rw[aq hi,ae,au b,aa,aa,aL ai,tX];cases decide (x.1=p)<;>rfl) (by unfold kO;dsimp only;rw[ay,af])
 have r:Loop (kP (l,p,d,())) _=ab (Nj l p):=Tf l p f (λi x b=>by
  have hi:=aG b;unfold kP cc;rw[aq hi,ae,au b,aa,aa,aL ai,tX];cases decide (x.1=p)<;>rfl) (by unfold kP;dsimp only;rw[ay,af])
 have s:Loop (kS (l,p,d,())) _=ab (Nj l p):=Tf l p f (λi x b=>by
  have hi:=aG b;unfold kS cc;rw[aq hi,ae,au b,aa,aa,aL ai,tX];cases decide (x.1=p)<;>rfl) (by unfold kS;dsimp only;rw[ay,af])
 have t:∀(m:List It) _,m.length<=100000->Loop (kQ (((),()),m,())) _=ab _:=λm a c=>K9 m a c (λi x b=>by
  have hi:=aG b;unfold kQ cc;rw[aq hi,ae,aM ai (show(i:Int)<len m by unfold len;omega),ae,au b,aa,aa,aa,aL ai];cases nt _<;>rfl) (by unfold kQ;dsimp only;rw[ay,af])
 have u:∀(m:List It) (a:It),m.length<=100000->Loop (kR (((),()),m,())) _=ab (Te m a):=λm a c=>K9 m a c (λi x b=>by
  have hi:=aG b;unfold kR cc;rw[aq hi,ae,aM ai (show(i:Int)<len m by unfold len;omega),ae,au b,aa,aa,aa,aL ai];cases nt (fq x.1 a.1)<;>rfl) (by unfold kR;dsimp only;rw[ay,af])
 have v:∀(m:List It) (a:It),m.length<=100000->Loop (kT (((),()),m,())) _=ab (Te m a):=λm a c=>K9 m a c (λi x b=>by
  have hi:=aG b;unfold kT cc;rw[aq hi,ae,aM ai (show(i:Int)<len m by unfold len;omega),ae,au b,aa,aa,aa,aL ai];cases nt (fq x.1 a.1)<;>rfl) (by unfold kT;dsimp only;rw[ay,af])
 have w:∀(m:List It) (a:It),m.length<=100000->Loop (kU (((),()),m,())) _=ab (Te m a):=λm a c=>K9 m a c (λi x b=>by
  have hi:=aG b;unfold kU cc;rw[aq hi,ae,aM ai (show(i:Int)<len m by unfold len;omega),ae,au b,aa,aa,aa,aL ai];cases nt (fq x.1 a.1)<;>rfl) (by unfold kU;dsimp only;rw[ay,af])
 unfold lC tu;rw[Gs,aa];have j:aZ 64 (len d)=decide (64<d.length):=by unfold aZ len;apply hH.2;omega
 have k:cj 4 (len l)=decide (4<=l.length):=by unfold cj len;apply hH.2;omega
 rw[j];by_cases hv:iB p=true/\d.length<=64
 .rw[aW hv,hv.1,cL (show ¬64<d.length by omega),show ao (ao _ false true)=ao false from rfl,af,q,aa,Yx d o];cases n:Ik l p with
  | none =>
    have e:Nj l p=(0,((0:Int),(l.length:Int),()),(),p,()):=by unfold Nj;rw[n]
    rw[e];rw[show da 0 0=true from rfl,ae,aP aK,ae,k];by_cases g:4<=l.length
    .rw[dE g,ae,aW ⟨rfl,g⟩]
    .rw[cL g,af,aQ λh=>g h.2];exact aiX l p d _ f r (λm a c=>t m a c) (λm a c=>u m a c)
  | some i =>
    have e:Nj l p=(1,((i:Int),(i:Int),()),(),p,()):=by unfold Nj;rw[n]
    rw[e];exact aiX l p d _ f s (λm a c=>v m a c) (λm a c=>w m a c)
 .rw[aQ hv];have:ao (ao (nt<|nt<|iB p) (decide<|64<d.length) true)=ao (α:=Option (List It×Int×al)) true:=by
   cases z:iB p with
   | false=>rfl
   | true =>
     by_cases y:d.length<=64
     .grind
     .rw[dE<|show 64<d.length by omega];rfl
  rw[this,ae]
end Go.Ge
namespace Go.Ge
set_option maxRecDepth 100000
end Go.Ge
namespace Go.Ge
variable [Lp]
def GM(l:List It):∃b,eL (l,())=ab (b,())/\(b=true->l.length<=8/\∀x∈l,x.1.length<=100/\x.2.2.1.length<=200):=by
 unfold eL;rcases rX (f:=eX (l,())) l 8 (λi=>((false,i,()),())) (λ_ x=>decide (100<x.1.length)||decide (200<x.2.2.1.length)) (λi x=>(1,(false,(i:Int),()),())) (λm=>(0,(false,(m:Int),()),())) ai (λi x c a g j=>by
  unfold eX;dsimp only;have k:∀{m:aw},aZ 100 (len m)=decide (100<m.length):=λ{m}=>by unfold aZ len;apply hH.2;omega
  have n:∀{m:aw},aZ 200 (len m)=decide (200<m.length):=λ{m}=>by unfold aZ len;apply hH.2;omega
  rw[aq a,ae,aP (show(i:Int)<8 by omega),ae,au c,aa,aa,k,n,j];cases decide (100<x.1.length)<;>cases decide (200<x.2.2.1.length)<;>rfl) (by
  unfold eX;dsimp only;have:ao (aZ ((min 8 l.length:Nat):Int)<|len l) (aZ ((min 8 l.length:Nat):Int) 8) false=false:=by
   by_cases h:l.length<=8
   .rw[Nat.min_eq_right h,ay,af]
   .rw[yF ai,show aZ ((8:Nat):Int) 8=false from rfl];cases aZ ((8:Nat):Int) (len l)<;>rfl
  rw[this,af]) with ⟨i,x,a,c,p,_,h⟩|⟨d,h⟩
 .rw[h];exact⟨false,rfl,λh=>(by cases h)⟩
 .rw[h];refine⟨_,rfl,λe=>?_⟩;dsimp only at e;have o:l.length<=8:=by
   unfold cj len at e;simp at e;omega
  refine⟨o,λx c=>?_⟩;obtain⟨i,a⟩:=bz.1 c;have:=d i x (by have:=aG a;omega) a;simp at this;omega
def VU(l:List It):Prop:=l.Pairwise λx y=>fq x.1 y.1=true
def am5(x:It):Prop:=iB x.1=true/\x.2.2.1.length<=64/\x.2.1=ky x.2.2.1
def OkI(l:List It):Prop:=l.length<=4/\VU l/\∀x∈l,am5 x
def Nk{l:List It}:VU l↔∀(i:Nat) (x y:It),l[i]?=ab x->l[i+1]?=ab y->fq x.1 y.1=true:=by
 constructor
 .intro h i x y b a;unfold VU at h;rw[DC] at h;obtain⟨c,g⟩:=ib.1 b;obtain⟨e,k⟩:=ib.1 a;have:=h i (i+1) c e ai;rw[g,k] at this;exact this
 .intro h;have key:∀(d i:Nat) (x y:It),l[i]?=ab x->l[i+d+1]?=ab y->fq x.1 y.1=true:=by
   intro d;induction d with
   | zero=>intro i x y b a;exact h i x y b a
   | succ d m =>
     intro i x y b a;have n:=aG a;have f:l[i+d+1]?=ab l[i+d+1]:=ia ai;exact Dh (m i x _ b f) (h (i+d+1) _ y f<|by rw[show i+d+1+1=i+(d+1)+1 by omega];exact a)
  unfold VU;rw[DC];intro i j c e o;obtain⟨d,rfl⟩:∃d,j=i+d+1:=⟨j-i-1,ai⟩;exact key d i _ _ (ia c) (ia e)
def GN(l:List It)(i:Nat)(x:It):Bool:=match i with|0=>false|k+1=>match l[k]? with|some y=>!fq y.1 x.1|none=>false
def AA{l:List It}{k:Nat}{x y:It}(a:l[k]?=ab y):GN l (k+1) x=!fq y.1 x.1:=by
 unfold GN;simp only[a]
def Il(l:List It)(i:Nat)(x:It):Bool:=!iB x.1||(decide (64<x.2.2.1.length)||(!decide (x.2.1=ky x.2.2.1)||GN l i x))
def ab8(l:List It)(w:l.length<=100000)(m:∀x∈l,x.1.length<=1000000/\x.2.2.1.length<=1000000):∃b,np (l,())=ab (b,())/\(b=true↔OkI l):=by
 unfold np;rcases iQ (f:=po (l,())) l (λi=>((false,i,()),())) (λi x=>Il l i x) (λi x=>(1,(false,(i:Int),()),())) (0,(false,(l.length:Int),()),()) ai (λi x c e n=>by
  have o:=m x (eT c);have p:aZ 64 (len x.2.2.1)=decide (64<x.2.2.1.length):=by unfold aZ len;apply hH.2;omega
  unfold po;dsimp only;rw[aq e,ae,au c,aa,Bm x.1 ai,aa,n];cases d:iB x.1 with
  | false=>rw[show Il l i x=true by unfold Il;rw[d];rfl];rfl
  | true =>
    rw[aF,af,aa,p];by_cases a:64<x.2.2.1.length
    .rw[show Il l i x=true by unfold Il;rw[d,dE a];rfl,dE a];rfl
    .rw[cL a,af,aa,aa,HW x.2.2.1 ai,aa];dsimp only;rw[tX];by_cases hd:x.2.1=ky x.2.2.1
     .have j:Il l i x=GN l i x:=by unfold Il;rw[d,cL a,dE hd];rfl
      rw[j,dE hd,aF,af];cases i with
      | zero=>rfl
      | succ k =>
        have hy:l[k]?=ab l[k]:=ia ai;rw[AA hy,aP ai,ae,dL ai ai,show((k+1:Nat):Int)-1=(k:Int) by omega,au hy,aa,aa];cases fq l[k].1 x.1<;>rfl
     .rw[show Il l i x=true by unfold Il;rw[d,cL a,cL hd];rfl,cL hd];rfl) (by
  unfold po;dsimp only;rw[ay,af]) with ⟨i,x,c,g,_,h⟩|⟨d,h⟩
 .rw[h];refine⟨false,rfl,⟨λh=>(by cases h),λ⟨_,q,r⟩=>?_⟩⟩;obtain⟨s,z,t⟩:=r x (eT c);have j:Il l i x=GN l i x:=by unfold Il;rw[s,cL (show ¬64<x.2.2.1.length by omega),dE t];rfl
  rw[j] at g;cases i with
  | zero=>cases g
  | succ k =>
    have e:=aG c;have hy:l[k]?=ab l[k]:=ia ai;rw[AA hy,Nk.1 q k _ _ hy c] at g;cases g
 .rw[h];refine⟨_,rfl,?_⟩;dsimp only;have u:cj (len l) 4=decide (l.length<=4):=by unfold cj len;apply hH.2;omega
  rw[u,RG];refine⟨λv=>⟨v,Nk.2 λi x y c hy=>?_,λx c=>?_⟩,λh=>h.1⟩
  .have:=d (i+1) y hy;unfold Il at this;simp only[AA c,OM] at this;simpa using this.2.2.2
  .obtain⟨i,e⟩:=bz.1 c;have:=d i x e;unfold Il at this;simp only[OM] at this;exact⟨by simpa using this.1,by have:=this.2.1;simp at this;omega,by simpa using this.2.2.1⟩
end Go.Ge
