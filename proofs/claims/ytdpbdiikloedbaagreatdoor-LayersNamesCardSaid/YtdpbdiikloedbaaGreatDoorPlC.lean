/- Plain laws of what the functions compute: part 3. -/
import Derived.Test.YtdpbdiikloedbaaGreatDoorPlB
import Derived.Test.YtdpbdiikloedbaaGreatDoorGeI
set_option linter.unusedSectionVars false
set_option linter.unusedVariables false
set_option linter.unusedSimpArgs false
noncomputable section
namespace Go.Ge
variable [Lp]
def Om:List UInt8:=[48,49,50,51,52,53,54,55,56,57,97,98,99,100,101,102]
def hx(n:Nat):UInt8:=Om.getD n 0
def s6:List UInt8→List UInt8
 | []=>[]
 | b::r=>hx (b.toNat / 16)::hx (b.toNat % 16)::s6 r
theorem wG(l:List UInt8):(s6 l).length=2*l.length:=by
 induction l with
 | nil=>rfl
 | cons b r ih=>simp only[s6,o7,ih];omega
theorem aa0(a b:List UInt8):s6 (a++b)=s6 a++s6 b:=by
 induction a with
 | nil=>rfl
 | cons x r ih=>simp only[Zi,s6,ih]
theorem acO:∀n:Fin 256,idx Om (jS .u8 (n.val:Int) 4)=some (hx (n.val / 16)):=by decide +kernel
theorem acP:∀n:Fin 256,idx Om (ia .u8 (n.val:Int) 15)=some (hx (n.val % 16)):=by decide +kernel
theorem aeA(b:UInt8):idx Om (jS .u8 (u8 b) 4)=some (hx (b.toNat / 16)):=acO ⟨b.toNat,b.toNat_lt⟩
theorem aeB(b:UInt8):idx Om (ia .u8 (u8 b) 15)=some (hx (b.toNat % 16)):=acP ⟨b.toNat,b.toNat_lt⟩
theorem Yf(s:List UInt8){k:Nat}(h:k<s.length):idx (az s) (k:Int)=some (u8 s[k]):=by
 rw[Cz];simp[az,u8,h]
theorem acQ(s:List UInt8){k:Nat}(h:k<s.length):idx s (k:Int)=some s[k]:=by
 rw[Cz];simp[h]
theorem HM(s:List UInt8):len (az s)=(s.length:Int):=by simp[len,az]
theorem QO(s:List UInt8){k:Nat}(h:k<s.length):s.take (k+1)=s.take k++[s[k]]:=by
 rw[Xi,ru h];rfl
theorem WZ(s:List UInt8){k:Nat}(h:k<s.length):az (s6 (s.take (k+1)))=(az (s6 (s.take k))++[u8 (hx (s[k].toNat / 16))])++[u8 (hx (s[k].toNat % 16))]:=by
 rw[QO s h,aa0,rR,qm];rfl
theorem aa1(s:List UInt8)(hs:s.length≤1048576){k:Nat}(h:k<s.length)(x y:Int) :
  fits (plus (len (az (s6 (s.take k)))) (len [x]))=true∧fits (plus (len (az (s6 (s.take k))++[x])) (len [y]))=true:=by
 constructor
 ·apply kN;rw[HM,wG];simp only[o6,plus,len,o7,vS];omega
 ·apply kN;have:(az (s6 (s.take k))++[x]).length=2*min k s.length+1:=by
   rw[uV,fB,wG,o6];rfl
  simp only[plus,len,this,o7,vS];omega
theorem W0(s:List UInt8)(hs:s.length≤1048576):pL (s,())=some (s6 s,()):=by
 unfold pL;dsimp only;rw[kN (by simp only[len];omega),ai];have key:Loop (kC (s,())) ((0,()),(((),((),())),([],())))=some (((s.length:Int),()),(((),((),())),(az (s6 s),()))):=by
  have:=dw (f:=kC (s,())) (r:=(((s.length:Int),()),(((),((),())),(az (s6 s),())))) s.length (fun k=>(((k:Int),()),(((),((),())),(az (s6 (s.take k)),())))) (fun k hk=>by
   unfold kC;dsimp only;obtain⟨f1,f2⟩:=aa1 s hs hk (u8 (hx (s[k].toNat / 16))) (u8 (hx (s[k].toNat % 16)));rw[HM,b7 (by omega),ai,bQ (by omega) (by omega),ai,Yf s hk,af,bM (by decide),ak];rw[show([48,49,50,51,52,53,54,55,56,57,97,98,99,100,101,102]:List UInt8)=Om from rfl,aeA,af,f1,ai,aeB,af];unfold app;rw[f2,ai,eg,cG (by omega),WZ s hk]) (by
   unfold kC;dsimp only;rw[HM,bM (by omega),ak,eG,RJ])
  exact this
 rw[key,af];dsimp only;rw[s5]
theorem ahY:∀n:Fin 16,nA ((n.val:Int),())=some (u8 (hx n.val),()):=by decide +kernel
theorem W3{n:Nat}(h:n<16):nA ((n:Int),())=some (u8 (hx n),()):=ahY ⟨n,h⟩
theorem aa2:∀n:Fin 256,DZ .i64 (kT .i64 (n.val:Int)) 16=((n.val / 16:Nat):Int):=by decide +kernel
theorem aa3:∀n:Fin 256,fR (kT .i64 (n.val:Int)) 16=((n.val % 16:Nat):Int):=by decide +kernel
theorem aeC(b:UInt8):DZ .i64 (kT .i64 (u8 b)) 16=((b.toNat / 16:Nat):Int):=aa2 ⟨b.toNat,b.toNat_lt⟩
theorem aeD(b:UInt8):fR (kT .i64 (u8 b)) 16=((b.toNat % 16:Nat):Int):=aa3 ⟨b.toNat,b.toNat_lt⟩
theorem VT(s:List UInt8)(hs:s.length≤1048576):wC (s,())=some (s6 s,()):=by
 unfold wC;have key:Loop (lV (s,())) (((),(0,())),([],()))=some (((),((s.length:Int),())),(az (s6 s),())):=by
  have:=dw (f:=lV (s,())) (r:=(((),((s.length:Int),())),(az (s6 s),()))) s.length (fun k=>(((),((k:Int),())),(az (s6 (s.take k)),()))) (fun k hk=>by
   unfold lV;dsimp only;obtain⟨f1,f2⟩:=aa1 s hs hk (u8 (hx (s[k].toNat / 16))) (u8 (hx (s[k].toNat % 16)));have hb:=s[k].toNat_lt;rw[show len s=(s.length:Int) from rfl,b7 (by omega),ai,acQ s hk,af,bN (by decide),ak,aeC,W3 (by omega),af];dsimp only;rw[f1,ai,af,ak,aeD,W3 (by omega),af];dsimp only;unfold app;rw[f2,ai,eg,cG (by omega),WZ s hk]) (by
   unfold lV;dsimp only;rw[show len s=(s.length:Int) from rfl,bM (by omega),ak,eG,RJ])
  exact this
 rw[key,af];dsimp only;rw[s5]
end Go.Ge
namespace Go.Ge
variable [Lp]
def hv(c:UInt8):Int:=Lib.indexByte Om c
theorem adR:∀n:Fin 16,hv (hx n.val)=(n.val:Int):=by decide +kernel
def HN:List UInt8→Option (List UInt8)
 | []=>some []
 | [_]=>none
 | a::b::r=>if hv a<0∨hv b<0 then none else(HN r).map (UInt8.ofNat (16*(hv a).toNat+(hv b).toNat)::·)
end Go.Ge
namespace Go.Ge
variable [Lp]
theorem aa4{a b:Nat}(h:a+b<4611686018427387904):aD .i64 (a:Int) (b:Int)=((a+b:Nat):Int):=by
 rw[jE (by omega) (by omega)];omega
theorem Pv:∀l:List UInt8,HN (s6 l)=some l:=by
 intro l;induction l with
 | nil=>rfl
 | cons b r ih =>
   have hb:=b.toNat_lt;have h1:=adR ⟨b.toNat / 16,by omega⟩;have h2:=adR ⟨b.toNat % 16,by omega⟩;simp only at h1 h2;simp only[s6,HN,h1,h2,ih,K9];rw[bH (by omega)]
   congr 2
   rw[zg,zg,show 16*(b.toNat / 16)+b.toNat % 16=b.toNat by omega];simp
end Go.Ge
namespace Go.Ge
variable [Lp]
def af3:List UInt8:=[115,104,97,50,53,54,58]
def s7(s:List UInt8):List UInt8:=af3++s6 (aT (sha s))
theorem Pw{α:Type}(l:List α)(n:Nat)(h:l.length=n):sub l 0 (minus n 0)=l:=by
 unfold sub minus;rw[show((0:Int).toNat)=0 from rfl,RQ,Ny (by omega)]
theorem aeE(s:List UInt8)(hs:s.length≤1048576):wB (s,())=some (s7 s,()):=by
 unfold wB;dsimp only;rw[VS s hs,af,cR (by decide) (by decide) (by decide),ai];dsimp only;rw[show sub (sha s) 0 (minus 32 0)=sha s from Pw _ 32 (qU s),W0 _ (by simp[aT,qU]),af];dsimp only;rw[kN (by simp only[plus,len,wG,aT,La,qU,o7,vS];omega),ai];rfl
theorem Yg(s:List UInt8)(hs:s.length≤1048576):zA (s,())=some (s7 s,()):=by
 unfold zA;dsimp only;rw[VR s hs,af,cR (by decide) (by decide) (by decide),ai];dsimp only;rw[show sub (sha s) 0 (minus 32 0)=sha s from Pw _ 32 (qU s),VT _ (by simp[aT,qU]),af];dsimp only;rw[kN (by simp only[plus,len,wG,aT,La,qU,o7,vS];omega),ai];rfl
def ahZ(t:List UInt8):Int:=if t.length=71∧t.take 7=af3∧(HN (t.drop 7)).isSome=true then 0 else 2
end Go.Ge
namespace Go.Ge
variable [Lp]
def ah0(n k:Nat):UInt8:=UInt8.ofNat (48+n / 8 ^ k % 8)
def VU(n:Nat):Nat→List UInt8
 | 0=>[]
 | k+1=>ah0 n k::VU n k
end Go.Ge
namespace Go.Ge
variable [Lp]
set_option maxRecDepth 100000
end Go.Ge
namespace Go.Ge
variable [Lp]
def adS(s:List UInt8):Prop:=∀x∈s,x≠0
instance (s:List UInt8):Decidable (adS s):=inferInstanceAs (Decidable (∀x∈s,x≠0))
abbrev Hd:=List UInt8×Int×Int×Int×Int×Int×Int×List UInt8×Unit
def clr(s:List UInt8)(most:Int):Prop:=s≠[]∧(s.length:Int)≤most∧adS s
instance (s:List UInt8) (most:Int):Decidable (clr s most):=inferInstanceAs (Decidable (_∧_∧_))
def inN(n b:Int):Prop:=0≤n∧n<b
instance (n b:Int):Decidable (inN n b):=inferInstanceAs (Decidable (_∧_))
def kindOk(h:Hd):Prop:=(h.2.1=1∧h.2.2.2.2.2.2.2.1=[])∨(h.2.1=2∧h.2.2.2.2.2.2.2.1=[]∧h.2.2.2.2.2.1=0)∨(h.2.1=3∧clr h.2.2.2.2.2.2.2.1 100∧h.2.2.2.2.2.1=0)
instance (h:Hd):Decidable (kindOk h):=inferInstanceAs (Decidable (_∨_∨_))
def af4(h:Hd)(most:Int):Prop:=inN h.2.2.1 2097152∧inN h.2.2.2.1 2097152∧inN h.2.2.2.2.1 2097152∧inN h.2.2.2.2.2.1 8589934592∧inN h.2.2.2.2.2.2.1 8589934592∧clr h.1 most∧kindOk h
instance (h:Hd) (most:Int):Decidable (af4 h most):=inferInstanceAs (Decidable (_∧_∧_∧_∧_∧_∧_))
end Go.Ge
namespace Go.Ge
variable [Lp]
def VV:List UInt8→List (List UInt8)
 | []=>[[]]
 | b::r=>if b=47 then []::VV r else match VV r with
   | h::t=>(b::h)::t
   | []=>[[b]]
def parts(p:List UInt8):List (List UInt8):=if p=[] then [] else VV p
def wH:List (List UInt8)→List UInt8
 | []=>[]
 | [x]=>x
 | x::y::r=>x++47::wH (y::r)
end Go.Ge
namespace Go.Ge
variable [Lp]
def af5(s:List UInt8):Bool:=decide (s≠[46]∧s≠[46,46]∧1≤s.length∧s.length≤32∧0∉s)
def af6(x:List UInt8):Bool:=decide (x≠[]∧x≠[46])
def names(s:List UInt8):List (List UInt8):=(parts s).filter af6
def acR(s:List UInt8):Bool:=(names s).all af5&&decide (s.head?≠some 47)&&decide ((names s).length≤8)&&decide ((wH (names s)).length≤96)
end Go.Ge
namespace Go.Ge
variable [Lp]
def adT(p:List UInt8):Nat→Option Nat
 | 0=>none
 | n+1=>if p[n]?=some 47 then some n else adT p n
def BH(p:List UInt8):List UInt8×List UInt8:=match adT p p.length with|some k=>(p.take k,p.drop (k+1))|none=>([],p)
def MF(d n:List UInt8):List UInt8:=if d=[]∨n=[] then d++n else d++47::n
def aa5(x y:List (List UInt8)):Bool:=decide (y.length<x.length∧x.take y.length=y)
end Go.Ge
namespace Go.Ge
variable [Lp]
theorem Tw(s p:List UInt8):cq (s,(p,()))=some (decide (s.take p.length=p),()):=by
 unfold cq;dsimp only;rw[aaA];by_cases h:p.length≤s.length
 ·rw[kj h,ai,show inside 0 (len p) (len s)=true from cR (by decide) (by rw[VG];omega) (by rw[VG,VG];omega),ai,XW,af];rfl
 ·rw[mu h,ak,af,mu];intro e;have:=congrArg List.length e;rw[o6] at this;omega
theorem VW(s p:List UInt8):cw (s,(p,()))=some (decide (s.take p.length=p),()):=by
 unfold cw;dsimp only;rw[Tw,af]
def wh:List UInt8:=[46,119,104,46]
def Tz(n:List UInt8):Int×List UInt8 :=
 if n.take 4=wh then(if n.drop 4=[46,119,104,46,46,111,112,113] then(2,[]) else if(n.drop 4).take 4=wh∨n.drop 4=[]∨n.drop 4=[46]∨n.drop 4=[46,46] then(3,[]) else(1,n.drop 4)) else(0,n)
end Go.Ge
namespace Go.Ge
variable [Lp]
set_option maxRecDepth 100000
abbrev oB:=(Sb×Sb×Sb×Unit)
abbrev QS:=(Sb×(List Sb)×Sb×Sb×(List oB)×Unit)
abbrev aa6:=((List (Sb×(List Sb)×Sb×Sb×Sb×(List oB)×Unit))×(List QS)×(List (Sb×Sb×(List Sb)×Sb×Int×Int×Bool×Unit))×(List Sb)×(List (Sb×Int×Unit))×Unit)
abbrev cO:=(Sb×(List Sb)×Unit)
abbrev jg:=(Int×Int×Unit)
abbrev aa7:=(Sb×(List Sb)×Sb×Sb×Sb×(List oB)×Unit)
abbrev aeF:=(Sb×Sb×(List Sb)×Sb×Int×Int×Bool×Unit)
abbrev QT:=(Bool×Int×Unit)
abbrev ah2:=(Nat×jg×Unit×Sb×Unit)
abbrev ah3:=(jg×Unit×Sb×Unit)
abbrev fN:=((Unit×Int×Unit)×(List Sb)×Unit)
abbrev js:=(Nat×jg×Sb×Unit)
abbrev lp:=(Sb×Int×Int×Unit)
abbrev agL:=((List UInt8)×((List (List UInt8))×((List UInt8)×((List UInt8)×((List ((List UInt8)×((List UInt8)×((List UInt8)×Unit))))×Unit)))))
abbrev jt:=(jg×Sb×Unit)
abbrev K4:=(Nat×QT×Unit)
abbrev agM:=((Int×Unit)×Unit×(List cO)×Unit)
abbrev agN:=(Int×Sb×Int×Sb×Unit)
abbrev agO:=(Nat×jg×Unit×oB×Unit)
abbrev agP:=(Nat×jg×(List Sb)×Unit)
abbrev agQ:=(Int×(List aeF)×(List QS)×(List aa7)×Unit)
abbrev wI:=((Nat×(Unit×Int×Unit)×(List Sb)×Unit))
abbrev agR:=(jg×Unit×oB×Unit)
abbrev agS:=(jg×(List Sb)×Unit)
abbrev K5:=(QT×Unit)
abbrev agT:=((Nat×(Int×Unit)×Unit×(List cO)×Unit))
abbrev agU:=(Nat×jg×Unit×QS×Unit)
abbrev agV:=((List UInt8)×((List UInt8)×((List UInt8)×Unit)))
abbrev wJ:=(Unit×Int×Unit)
def mJ(x:(List cO)×Sb×Unit)(y1:jg×Sb×Unit):Option (jt⊕js) :=
 aq (aX y1.1.2.1 (@len cO x.1))
 (aa (@idx cO x.1 y1.1.2.1) (fun(y2:Sb×(List Sb)×Unit)=>aq (bX y2.1 y1.2.1)
 (some (Sum.inr ((1:Nat),((y1.1.2.1,(y1.1.2.1,())),(y1.2.1,()))):(jt)⊕(js)))
 (some (Sum.inl ((y1.1.1,(aD IntKind.i64 y1.1.2.1 (1:Int),())),(y1.2.1,())):(jt)⊕(js)))))
 (some (Sum.inr ((0:Nat),((y1.1.1,(y1.1.2.1,())),(y1.2.1,()))):(jt)⊕(js)))
def gI(x:(List cO)×Sb×Unit)(y2:jg×Sb×Unit):Option (jt⊕js) :=
 aq (aX y2.1.2.1 (@len cO x.1))
 (aa (@idx cO x.1 y2.1.2.1) (fun(y3:Sb×(List Sb)×Unit)=>aa (bP (y3.2.1,(y2.2.1,()))) (fun(y4:Bool×Unit)=>aq y4.1
 (some (Sum.inr ((1:Nat),((y2.1.2.1,(y2.1.2.1,())),(y2.2.1,()))):(jt)⊕(js)))
 (some (Sum.inl ((y2.1.1,(aD IntKind.i64 y2.1.2.1 (1:Int),())),(y2.2.1,())):(jt)⊕(js))))))
 (some (Sum.inr ((0:Nat),((y2.1.1,(y2.1.2.1,())),(y2.2.1,()))):(jt)⊕(js)))
def mK(x:(List cO)×Sb×Unit)(y2:Nat×jg×Sb×Unit)(y3:wJ×(List Sb)×Unit):Option (fN⊕fN) :=
 @cM fN (aq (aX y3.1.2.1 (@len cO x.1))
 (aa (@idx cO x.1 y3.1.2.1) (fun(y4:Sb×(List Sb)×Unit)=>aa (cw (y4.1,(y2.2.2.1,()))) (fun(y5:Bool×Unit)=>aa (aq y5.1
 (aq (fits (plus (@len Sb y3.2.1) (@len Sb ([y4.1]:List Sb))))
 (some (((),()),(@app Sb y3.2.1 ([y4.1]:List Sb),())))
 none)
 (some (((),()),(y3.2.1,())))) (fun(y6:(Unit×Unit)×(List Sb)×Unit)=>some (Sum.inl (((),(aD IntKind.i64 y3.1.2.1 (1:Int),())),(y6.2.1,())):(fN)⊕wI)))))
 (some (Sum.inr ((0:Nat),(((),(y3.1.2.1,())),(y3.2.1,()))):(fN)⊕wI)))
def HO(x:(List cO)×Sb×Unit)(y2:Nat×jg×Sb×Unit)(y3:wJ×(List Sb)×Unit):Option (fN⊕fN) :=
 @cM fN (aq (aX y3.1.2.1 (@len cO x.1))
 (aa (@idx cO x.1 y3.1.2.1) (fun(y4:Sb×(List Sb)×Unit)=>aa (cw (y4.1,(y2.2.2.1,()))) (fun(y5:Bool×Unit)=>aa (aq y5.1
 (aq (fits (plus (@len Sb y3.2.1) (@len Sb ([y4.1]:List Sb))))
 (some (((),()),(@app Sb y3.2.1 ([y4.1]:List Sb),())))
 none)
 (some (((),()),(y3.2.1,())))) (fun(y6:(Unit×Unit)×(List Sb)×Unit)=>some (Sum.inl (((),(aD IntKind.i64 y3.1.2.1 (1:Int),())),(y6.2.1,())):(fN)⊕wI)))))
 (some (Sum.inr ((0:Nat),(((),(y3.1.2.1,())),(y3.2.1,()))):(fN)⊕wI)))
def HP(x:(List cO)×Sb×Unit)(y2:jg×Sb×Unit):Option (jt⊕js) :=
 aq (aX y2.1.2.1 (@len cO x.1))
 (aa (@idx cO x.1 y2.1.2.1) (fun(y3:Sb×(List Sb)×Unit)=>aa (bP (y3.2.1,(y2.2.1,()))) (fun(y4:Bool×Unit)=>aq y4.1
 (some (Sum.inr ((1:Nat),((y2.1.2.1,(y2.1.2.1,())),(y2.2.1,()))):(jt)⊕(js)))
 (some (Sum.inl ((y2.1.1,(aD IntKind.i64 y2.1.2.1 (1:Int),())),(y2.2.1,())):(jt)⊕(js))))))
 (some (Sum.inr ((0:Nat),((y2.1.1,(y2.1.2.1,())),(y2.2.1,()))):(jt)⊕(js)))
def HQ(x:(List cO)×Sb×Unit)(y2:Nat×jg×Sb×Unit)(y3:wJ×(List Sb)×Unit):Option (fN⊕fN) :=
 @cM fN (aq (aX y3.1.2.1 (@len cO x.1))
 (aa (@idx cO x.1 y3.1.2.1) (fun(y4:Sb×(List Sb)×Unit)=>aa (cw (y4.1,(y2.2.2.1,()))) (fun(y5:Bool×Unit)=>aa (aq y5.1
 (aq (fits (plus (@len Sb y3.2.1) (@len Sb ([y4.1]:List Sb))))
 (some (((),()),(@app Sb y3.2.1 ([y4.1]:List Sb),())))
 none)
 (some (((),()),(y3.2.1,())))) (fun(y6:(Unit×Unit)×(List Sb)×Unit)=>some (Sum.inl (((),(aD IntKind.i64 y3.1.2.1 (1:Int),())),(y6.2.1,())):(fN)⊕wI)))))
 (some (Sum.inr ((0:Nat),(((),(y3.1.2.1,())),(y3.2.1,()))):(fN)⊕wI)))
def HR(x:(List cO)×Sb×Unit)(y2:Nat×jg×Sb×Unit)(y3:wJ×(List Sb)×Unit):Option (fN⊕fN) :=
 @cM fN (aq (aX y3.1.2.1 (@len cO x.1))
 (aa (@idx cO x.1 y3.1.2.1) (fun(y4:Sb×(List Sb)×Unit)=>aa (cw (y4.1,(y2.2.2.1,()))) (fun(y5:Bool×Unit)=>aa (aq y5.1
 (aq (fits (plus (@len Sb y3.2.1) (@len Sb ([y4.1]:List Sb))))
 (some (((),()),(@app Sb y3.2.1 ([y4.1]:List Sb),())))
 none)
 (some (((),()),(y3.2.1,())))) (fun(y6:(Unit×Unit)×(List Sb)×Unit)=>some (Sum.inl (((),(aD IntKind.i64 y3.1.2.1 (1:Int),())),(y6.2.1,())):(fN)⊕wI)))))
 (some (Sum.inr ((0:Nat),(((),(y3.1.2.1,())),(y3.2.1,()))):(fN)⊕wI)))
def rS(x:(List cO)×Sb×Unit):Option (Sb×Int×Unit) :=
 aa (Loop (mJ x) (((0:Int),((0:Int),())),(x.2.1,()))) (fun(y1:Nat×jg×Sb×Unit)=>aq (eY y1.1 (0:Nat))
 (aq (cK (0:Int) (-1:Int))
 (some (x.2.1,((0:Int),())))
 (aa (Loop (gI x) (((0:Int),((0:Int),())),(x.2.1,()))) (fun(y2:Nat×jg×Sb×Unit)=>aq (eY y2.1 (0:Nat))
 (aq (cK (0:Int) (-1:Int))
 (aa (@idx cO x.1 (-1:Int)) (fun(y3:Sb×(List Sb)×Unit)=>some (y3.1,((0:Int),()))))
 (aa (Loop (mK x y2) (((),((0:Int),())),(([]:List Sb),()))) (fun(y3:wJ×(List Sb)×Unit)=>aq (aq (nt (aq (nt (bX y2.2.2.1 ([]:List (UInt8))))
 (cK (6:Int) (@len UInt8 y2.2.2.1))
 true))
 (bI (@len Sb y3.2.1) (0:Int))
 true)
 (some (([]:List (UInt8)),((3:Int),())))
 (aq (aX (1:Int) (@len Sb y3.2.1))
 (some (([]:List (UInt8)),((9:Int),())))
 (aq (within (0:Int) (@len Sb y3.2.1))
 (aa (@idx Sb y3.2.1 (0:Int)) (fun(y4:List (UInt8))=>some (y4,((0:Int),()))))
 none)))))
 (aq (cK (0:Int) y2.2.1.1)
 (aa (@idx cO x.1 y2.2.1.1) (fun(y3:Sb×(List Sb)×Unit)=>some (y3.1,((0:Int),()))))
 (aa (Loop (HO x y2) (((),((0:Int),())),(([]:List Sb),()))) (fun(y3:wJ×(List Sb)×Unit)=>aq (aq (nt (aq (nt (bX y2.2.2.1 ([]:List (UInt8))))
 (cK (6:Int) (@len UInt8 y2.2.2.1))
 true))
 (bI (@len Sb y3.2.1) (0:Int))
 true)
 (some (([]:List (UInt8)),((3:Int),())))
 (aq (aX (1:Int) (@len Sb y3.2.1))
 (some (([]:List (UInt8)),((9:Int),())))
 (aq (within (0:Int) (@len Sb y3.2.1))
 (aa (@idx Sb y3.2.1 (0:Int)) (fun(y4:List (UInt8))=>some (y4,((0:Int),()))))
 none))))))))
 (aq (cK (0:Int) y1.2.1.1)
 (some (x.2.1,((0:Int),())))
 (aa (Loop (HP x) (((0:Int),((0:Int),())),(x.2.1,()))) (fun(y2:Nat×jg×Sb×Unit)=>aq (eY y2.1 (0:Nat))
 (aq (cK (0:Int) (-1:Int))
 (aa (@idx cO x.1 (-1:Int)) (fun(y3:Sb×(List Sb)×Unit)=>some (y3.1,((0:Int),()))))
 (aa (Loop (HQ x y2) (((),((0:Int),())),(([]:List Sb),()))) (fun(y3:wJ×(List Sb)×Unit)=>aq (aq (nt (aq (nt (bX y2.2.2.1 ([]:List (UInt8))))
 (cK (6:Int) (@len UInt8 y2.2.2.1))
 true))
 (bI (@len Sb y3.2.1) (0:Int))
 true)
 (some (([]:List (UInt8)),((3:Int),())))
 (aq (aX (1:Int) (@len Sb y3.2.1))
 (some (([]:List (UInt8)),((9:Int),())))
 (aq (within (0:Int) (@len Sb y3.2.1))
 (aa (@idx Sb y3.2.1 (0:Int)) (fun(y4:List (UInt8))=>some (y4,((0:Int),()))))
 none)))))
 (aq (cK (0:Int) y2.2.1.1)
 (aa (@idx cO x.1 y2.2.1.1) (fun(y3:Sb×(List Sb)×Unit)=>some (y3.1,((0:Int),()))))
 (aa (Loop (HR x y2) (((),((0:Int),())),(([]:List Sb),()))) (fun(y3:wJ×(List Sb)×Unit)=>aq (aq (nt (aq (nt (bX y2.2.2.1 ([]:List (UInt8))))
 (cK (6:Int) (@len UInt8 y2.2.2.1))
 true))
 (bI (@len Sb y3.2.1) (0:Int))
 true)
 (some (([]:List (UInt8)),((3:Int),())))
 (aq (aX (1:Int) (@len Sb y3.2.1))
 (some (([]:List (UInt8)),((9:Int),())))
 (aq (within (0:Int) (@len Sb y3.2.1))
 (aa (@idx Sb y3.2.1 (0:Int)) (fun(y4:List (UInt8))=>some (y4,((0:Int),()))))
 none)))))))))
def jK(x:aa6×Unit):Option ((List cO)×Unit) :=
 aa (zH ((3:Int),(((0:Int),(x.1.2.2.1,(([]:List QS),(([]:List aa7),())))),()))) (fun(y1:(List cO)×Unit)=>some (y1.1,()))
def fC(x:aa6×Sb×Unit):Option (Sb×Int×Unit) :=
 aa (jK (x.1,())) (fun(y1:(List cO)×Unit)=>aa (rS (y1.1,(x.2.1,()))) (fun(y2:Sb×Int×Unit)=>some (y2.1,(y2.2.1,()))))
def wK(x:Int×Unit):Option (Sb×Unit) :=
 aq (aX (16:Int) (0:Int))
 none
 (aq (aX (8:Int) (0:Int))
 none
 (aa (pL (aT ([kT IntKind.u8 (jS IntKind.i64 x.1 (16:Int)),kT IntKind.u8 (jS IntKind.i64 x.1 (8:Int)),kT IntKind.u8 x.1]:List (Int)),())) (fun(y1:Sb×Unit)=>some (y1.1,()))))
def fO(x:(List cO)×Int×Unit)(y3:jg×Sb×Unit):Option (jt⊕js) :=
 aq (aX y3.1.2.1 (@len cO x.1))
 (aa (@idx cO x.1 y3.1.2.1) (fun(y4:Sb×(List Sb)×Unit)=>aq (bX y4.1 y3.2.1)
 (some (Sum.inr ((1:Nat),((y3.1.2.1,(y3.1.2.1,())),(y3.2.1,()))):(jt)⊕(js)))
 (some (Sum.inl ((y3.1.1,(aD IntKind.i64 y3.1.2.1 (1:Int),())),(y3.2.1,())):(jt)⊕(js)))))
 (some (Sum.inr ((0:Nat),((y3.1.1,(y3.1.2.1,())),(y3.2.1,()))):(jt)⊕(js)))
def iP(x:(List cO)×Int×Unit)(y1:lp×Unit):Option ((lp×Unit)⊕(Nat×lp×Unit)) :=
 aq (aX y1.1.2.2.1 (aD IntKind.i64 (@len cO x.1) (1:Int)))
 (aq (bI (16777216:Int) (0:Int))
 none
 (aa (wK (fR (aD IntKind.i64 (ia IntKind.i64 x.2.1 (16777215:Int)) y1.1.2.2.1) (16777216:Int),())) (fun(y2:Sb×Unit)=>aa (Loop (fO x) (((0:Int),((0:Int),())),(y2.1,()))) (fun(y3:Nat×jg×Sb×Unit)=>aq (eY y3.1 (0:Nat))
 (aq (nt (cK (0:Int) (-1:Int)))
 (some (Sum.inr ((1:Nat),((y2.1,((0:Int),(y1.1.2.2.1,()))),())):((lp×Unit))⊕((Nat×lp×Unit))))
 (some (Sum.inl ((y1.1.1,(y1.1.2.1,(aD IntKind.i64 y1.1.2.2.1 (1:Int),()))),()):((lp×Unit))⊕((Nat×lp×Unit)))))
 (aq (nt (cK (0:Int) y3.2.1.1))
 (some (Sum.inr ((1:Nat),((y2.1,((0:Int),(y1.1.2.2.1,()))),())):((lp×Unit))⊕((Nat×lp×Unit))))
 (some (Sum.inl ((y1.1.1,(y1.1.2.1,(aD IntKind.i64 y1.1.2.2.1 (1:Int),()))),()):((lp×Unit))⊕((Nat×lp×Unit)))))))))
 (some (Sum.inr ((0:Nat),((y1.1.1,(y1.1.2.1,(y1.1.2.2.1,()))),())):((lp×Unit))⊕((Nat×lp×Unit))))
def pT(x:(List cO)×Int×Unit):Option (Sb×Int×Unit) :=
 aq (cK (32:Int) (@len cO x.1))
 (some (([]:List (UInt8)),((5:Int),())))
 (aa (Loop (iP x) ((([]:List (UInt8)),((0:Int),((0:Int),()))),())) (fun(y1:Nat×lp×Unit)=>aq (eY y1.1 (0:Nat))
 (some (([]:List (UInt8)),((5:Int),())))
 (some (y1.2.1.1,(y1.2.1.2.1,())))))
def iQ(x:(List oB)×(List oB)×Unit)(y1:QT×Unit):Option (K5⊕K4) :=
 aq (aq (aX y1.1.2.1 (@len oB x.1))
 (aX y1.1.2.1 (@len oB x.2.1))
 false)
 (aa (@idx oB x.1 y1.1.2.1) (fun(y2:Sb×Sb×Sb×Unit)=>aa (@idx oB x.2.1 y1.1.2.1) (fun(y3:Sb×Sb×Sb×Unit)=>aq (nt (an (bX y2.1 y3.1) (an (bX y2.2.1 y3.2.1) (an (bX y2.2.2.1 y3.2.2.1) true))))
 (some (Sum.inr ((1:Nat),((false,(y1.1.2.1,())),())):(K5)⊕(K4)))
 (some (Sum.inl ((y1.1.1,(aD IntKind.i64 y1.1.2.1 (1:Int),())),()):(K5)⊕(K4))))))
 (some (Sum.inr ((0:Nat),((y1.1.1,(y1.1.2.1,())),())):(K5)⊕(K4)))
def fP(x:(List oB)×(List oB)×Unit):Option (Bool×Unit) :=
 aq (nt (bI (@len oB x.1) (@len oB x.2.1)))
 (some (false,()))
 (aa (Loop (iQ x) ((false,((0:Int),())),())) (fun(y1:Nat×QT×Unit)=>aq (eY y1.1 (0:Nat))
 (some (true,()))
 (some (y1.2.1.1,()))))
end Go.Ge
namespace Go.Ge
variable [Lp]
def TA(ref:Tx)(x:Nm):List Tx:=if x.1.take ref.length=ref then [x.1] else []
def VX(l:List Nm)(ref:Tx):List Tx:=l.flatMap (TA ref)
def HS(ref:Tx)(f:List Tx):Tx×Int×Unit:=if ref=[]∨6≤ref.length then([],(3,())) else match f with|[]=>([],(3,()))|[a]=>(a,(0,()))|_=>([],(9,()))
def vE(l:List Nm)(ref:Tx):Tx×Int×Unit:=if ∃x∈l,x.1=ref then(ref,(0,())) else
 match l.find? (fun x=>decide (ref∈x.2.1)) with|some x=>(x.1,(0,()))|none=>HS ref (VX l ref)
theorem QU(ref:Tx)(f:List Tx):aq (aq (nt (aq (nt (bX ref ([]:Tx))) (cK (6:Int) (@len UInt8 ref)) true)) (bI (@len Tx f) (0:Int)) true) (some (([]:Tx),((3:Int),())))
  (aq (aX (1:Int) (@len Tx f)) (some (([]:Tx),((9:Int),()))) (aq (within (0:Int) (@len Tx f)) (aa (@idx Tx f (0:Int)) (fun(y4:Tx)=>some (y4,((0:Int),())))) none))=some (HS ref f):=by
 have e1:bX ref ([]:Tx)=decide (ref=[]):=rfl;have e2:cK (6:Int) (@len UInt8 ref)=decide (6≤ref.length):=by unfold cK len;apply decide_eq_decide.2;omega
 unfold HS;rw[e1,e2];by_cases h1:ref=[]
 ·rw[bG (.inl h1),kj h1];rfl
 ·rw[mu h1];by_cases h2:6≤ref.length
  ·rw[bG (.inr h2),kj h2];rfl
  ·rw[bH (by rintro(h|h);exact h1 h;exact h2 h),mu h2]
   match f with
   | []=>rfl
   | [a]=>rfl
   | a::b::r =>
     have:aX (1:Int) (@len Tx (a::b::r))=true:=b7 (by simp only[len,o7];omega);have h0:bI (@len Tx (a::b::r)) (0:Int)=false:=bN (by simp only[len,o7];omega);rw[h0,this];rfl
theorem VY(l:List Nm)(ref:Tx)(hl:l.length≤1000000)(q:Nat×(Int×Int×Unit)×Tx×Unit)(hq:q.2.2.1=ref) :
  Loop (mK (l,(ref,())) q) (((),((0:Int),())),(([]:List Tx),()))=some (((),((l.length:Int),())),(VX l ref,())):=by
 refine vq l (fun out i=>(((),(i,())),(out,()))) (TA ref) _ (by omega) (fun i x hx hi ha=>?_) ?_
 ·have hb:((l.take i).flatMap (TA ref)).length≤l.length:=by
   have:=ff (g:=TA ref) (fun x=>by unfold TA;split<;>simp) l i;omega
  unfold mK;dsimp only;rw[aK hi,ai,aS hx,af,hq,VW,af,ha];unfold TA;by_cases h:x.1.take ref.length=ref
  ·rw[kj h,bG h,ai];have:fits (plus (@len Tx ((l.take i).flatMap (TA ref))) (@len Tx ([x.1]:List Tx)))=true:=gD (by show _+1≤_;omega);unfold TA at this;rw[this];rfl
  ·rw[mu h,bH h];rw[G0];rfl
 ·unfold mK;dsimp only;rw[aZ,ak];rfl
theorem J7(l:List Nm)(ref:Tx)(hl:Small l)(KP:l.length≤1000000):rS (l,(ref,()))=some (vE l ref):=by
 unfold rS;dsimp only;have mid:∀{f1:(Int×Int×Unit)×Tx×Unit→Option (((Int×Int×Unit)×Tx×Unit)⊕(Nat×(Int×Int×Unit)×Tx×Unit))},f1=gI (l,(ref,())) →
   (∃(i:Nat) (x:Nm),l[i]?=some x∧decide (ref∈x.2.1)=true∧(∀(j:Nat) (y:Nm),j<i→l[j]?=some y→decide (ref∈y.2.1)=false)∧Loop f1 (((0:Int),((0:Int),())),(ref,()))=some (1,(((i:Int),((i:Int),())),(ref,())))) ∨
   ((∀(i:Nat) (x:Nm),l[i]?=some x→decide (ref∈x.2.1)=false)∧Loop f1 (((0:Int),((0:Int),())),(ref,()))=some (0,(((0:Int),(len l,())),(ref,())))):=by
  intro f1 hf;subst hf;exact xA (f:=gI (l,(ref,()))) l (fun i=>(((0:Int),(i,())),(ref,()))) (fun _ x=>decide (ref∈x.2.1)) (fun i x=>(1,(((i:Int),((i:Int),())),(ref,())))) (0,(((0:Int),(len l,())),(ref,()))) hl.1 (fun i x hx hi ha=>by
   unfold gI;dsimp only;rw[aK hi,ai,aS hx,af,BB x.2.1 ref (hl.2 x (yc hx)),af,mW,ha];by_cases h:ref∈x.2.1<;>simp[h]) (by unfold gI;dsimp only;rw[aZ,ak];rfl)
 rcases xA (f:=mJ (l,(ref,()))) l (fun i=>(((0:Int),(i,())),(ref,()))) (fun _ x=>decide (x.1=ref)) (fun i x=>(1,(((i:Int),((i:Int),())),(ref,())))) (0,(((0:Int),(len l,())),(ref,()))) hl.1 (fun i x hx hi ha=>by
  unfold mJ;dsimp only;rw[aK hi,ai,aS hx,af,mW,ha];by_cases h:x.1=ref<;>simp[bX,h]) (by unfold mJ;dsimp only;rw[aZ,ak];rfl) with ⟨i,x,hx,hp,hj,h⟩|⟨hn,h⟩
 ·rw[h,af];dsimp only;rw[show eY 1 0=false from rfl,ak,pJ (by omega),ai];unfold vE;rw[bG ⟨x,yc hx,yd hp⟩]
 ·rw[h,af];dsimp only;rw[show eY 0 0=true from rfl,ai,show cK (0:Int) (-1)=false from rfl,ak];have hno:¬∃x∈l,x.1=ref:=by
   rintro⟨x,hx,he⟩;obtain⟨i,hi⟩:=cm.1 hx;have:=hn i x hi;simp[he] at this
  unfold vE;rw[bH hno];rcases mid (f1:=gI (l,(ref,()))) rfl with ⟨i,x,hx,hp,hj,h⟩|⟨hn,h⟩
  ·rw[h,af];dsimp only;rw[show eY 1 0=false from rfl,ak,pJ (by omega),ai,aS hx,af];have:l.find? (fun x=>decide (ref∈x.2.1))=some x:=by
    rw[adZ];refine⟨hp,i,bw hx,?_,fun j hji=>?_⟩
    ·have:=ru (bw hx);rw[hx] at this;exact(aG this).symm
    ·have hlt:=bw hx;have:=hj j l[j] hji (ru (by omega));simpa using this
   rw[this]
  ·rw[h,af];dsimp only;rw[show eY 0 0=true from rfl,ai,ak,VY l ref KP _ rfl,af];have:l.find? (fun x=>decide (ref∈x.2.1))=none:=by
    rw[List.find?_eq_none];intro x hx;obtain⟨i,hi⟩:=cm.1 hx;have:=hn i x hi;simpa using this
   rw[this];exact QU ref (VX l ref)
end Go.Ge
namespace Go.Ge
variable [Lp]
set_option maxRecDepth 100000
abbrev aC:=(Sb×Int×Int×Sb×Sb×Unit)
abbrev qx:=(Int×Int×Unit)
abbrev Df:=((Int×Int×Unit×Unit)×Unit×Sb×(List aC)×Unit)
abbrev tU:=(Bool×Int×Unit)
abbrev W4:=((Nat×(Int×Int×Unit×Unit)×Unit×Sb×(List aC)×Unit))
abbrev wL:=(Nat×qx×Unit)
abbrev TB:=((Unit×Int×Unit)×(List aC)×Unit)
abbrev BI:=(Nat×tU×Unit)
abbrev aa8:=((List UInt8)×(Int×(Int×((List UInt8)×((List UInt8)×Unit)))))
abbrev sG:=(qx×Unit)
def aR(l:List aa8)(x:(Int×((List aa8)×Unit))):Option (List aa8):=JZ l x.1 x.2.1
def Dg(x:Sb×Unit):Option (Bool×Unit) :=
 aa (xF (x.1,())) (fun(y1:Sb×Int×Unit)=>aa (jf (x.1,())) (fun(y2:Sb×Sb×Unit)=>aa (zE (y2.2.1,())) (fun(y3:Int×Sb×Unit)=>some (aq (aq (aq (aq (bI y1.2.1 (0:Int))
 (bX y1.1 x.1)
 false)
 (nt (bX x.1 ([]:List (UInt8))))
 false)
 (aq (cK (@len UInt8 x.1) (92:Int))
 (cK (@len UInt8 y2.2.1) (28:Int))
 false)
 false)
 (bI y3.1 (0:Int))
 false,()))))
def HT(x:aC×Unit):Option (Bool×Unit) :=
 aa (Dg (x.1.1,())) (fun(y1:Bool×Unit)=>aq (aq (nt (aq (nt (nt y1.1))
 (aX x.1.2.2.1 (0:Int))
 true))
 (aX (4095:Int) x.1.2.2.1)
 true)
 (some (false,()))
 (aq (bI x.1.2.1 (1:Int))
 (some (aq (bX x.1.2.2.2.2.1 ([]:List (UInt8)))
 (cK (@len UInt8 x.1.2.2.2.1) (8192:Int))
 false,()))
 (aq (bI x.1.2.1 (2:Int))
 (some (aq (bX x.1.2.2.2.2.1 ([]:List (UInt8)))
 (bX x.1.2.2.2.1 ([]:List (UInt8)))
 false,()))
 (aq (bI x.1.2.1 (3:Int))
 (aa (aq (aq (aq (bX x.1.2.2.2.1 ([]:List (UInt8)))
 (nt (bX x.1.2.2.2.2.1 ([]:List (UInt8))))
 false)
 (cK (@len UInt8 x.1.2.2.2.2.1) (100:Int))
 false)
 (aa (gb (x.1.2.2.2.2.1,((0:Int),()))) (fun(y2:Int×Unit)=>some (aX y2.1 (0:Int))))
 (some false)) (fun(y2:Bool)=>some (y2,())))
 (some (false,()))))))
def s9(x:aC×Sb×Unit):Option (Int×Unit) :=
 aa (sY (x.1.1,(x.2.1,()))) (fun(y1:Int×Unit)=>some (y1.1,()))
def J8(x:(List aC)×Sb×Unit)(y1:qx×Unit):Option (sG⊕sG) :=
 @cM sG (aq (aX y1.1.1 y1.1.2.1)
 (aq (aX (1:Int) (0:Int))
 none
 (aa (@idx aC x.1 (kT IntKind.i64 (jS IntKind.u64 (kT IntKind.u64 (aD IntKind.i64 y1.1.1 y1.1.2.1)) (1:Int)))) (fun(y2:Sb×Int×Int×Sb×Sb×Unit)=>aa (s9 (y2,(x.2.1,()))) (fun(y3:Int×Unit)=>some (Sum.inl ((((aq (aX y3.1 (0:Int))
 ((aD IntKind.i64 (kT IntKind.i64 (jS IntKind.u64 (kT IntKind.u64 (aD IntKind.i64 y1.1.1 y1.1.2.1)) (1:Int))) (1:Int),(y1.1.2.1,())),())
 ((y1.1.1,(kT IntKind.i64 (jS IntKind.u64 (kT IntKind.u64 (aD IntKind.i64 y1.1.1 y1.1.2.1)) (1:Int)),())),())).1).1,((((aq (aX y3.1 (0:Int))
 ((aD IntKind.i64 (kT IntKind.i64 (jS IntKind.u64 (kT IntKind.u64 (aD IntKind.i64 y1.1.1 y1.1.2.1)) (1:Int))) (1:Int),(y1.1.2.1,())),())
 ((y1.1.1,(kT IntKind.i64 (jS IntKind.u64 (kT IntKind.u64 (aD IntKind.i64 y1.1.1 y1.1.2.1)) (1:Int)),())),())).1).2).1,())),()):(sG)⊕(wL))))))
 (some (Sum.inr ((0:Nat),((y1.1.1,(y1.1.2.1,())),())):(sG)⊕(wL))))
def gr(x:(List aC)×Sb×Unit):Option (Int×Bool×Unit) :=
 aa (Loop (J8 x) (((0:Int),(@len aC x.1,())),())) (fun(y1:qx×Unit)=>aq (aX y1.1.1 (@len aC x.1))
 (aa (@idx aC x.1 y1.1.1) (fun(y2:Sb×Int×Int×Sb×Sb×Unit)=>aa (s9 (y2,(x.2.1,()))) (fun(y3:Int×Unit)=>some (y1.1.1,(bI y3.1 (0:Int),())))))
 (some (y1.1.1,(false,()))))
def zN(x:(List aC)×Sb×Unit):Option (Int×Unit) :=
 aq (bX x.2.1 ([]:List (UInt8)))
 (some ((0:Int),()))
 (aa (gr (x.1,(x.2.1,()))) (fun(y1:Int×Bool×Unit)=>aq (nt y1.2.1)
 (some ((3:Int),()))
 (aa (@idx aC x.1 y1.1) (fun(y2:Sb×Int×Int×Sb×Sb×Unit)=>aq (nt (bI y2.2.1 (2:Int)))
 (some ((12:Int),()))
 (some ((0:Int),()))))))
def J9(x:(List aC)×Unit)(y1:qx×Unit):Option (sG⊕wL) :=
 aq (aX y1.1.2.1 (@len aC x.1))
 (aa (@idx aC x.1 y1.1.2.1) (fun(y2:Sb×Int×Int×Sb×Sb×Unit)=>aa (jf (y2.1,())) (fun(y3:Sb×Sb×Unit)=>aa (HT (y2,())) (fun(y4:Bool×Unit)=>aq (nt y4.1)
 (some (Sum.inr ((1:Nat),(((1:Int),(y1.1.2.1,())),())):(sG)⊕(wL)))
 (aq (aX (0:Int) y1.1.2.1)
 (aa (@idx aC x.1 (cL IntKind.i64 y1.1.2.1 (1:Int))) (fun(y5:Sb×Int×Int×Sb×Sb×Unit)=>aa (sY (y5.1,(y2.1,()))) (fun(y6:Int×Unit)=>aq (cK (0:Int) y6.1)
 (some (Sum.inr ((1:Nat),(((1:Int),(y1.1.2.1,())),())):(sG)⊕(wL)))
 (aq (inside (0:Int) y1.1.2.1 (@len aC x.1))
 (aa (zN (@sub aC x.1 (0:Int) (minus y1.1.2.1 (0:Int)),(y3.1,()))) (fun(y7:Int×Unit)=>aq (nt (bI y7.1 (0:Int)))
 (some (Sum.inr ((1:Nat),(((1:Int),(y1.1.2.1,())),())):(sG)⊕(wL)))
 (some (Sum.inl ((y1.1.1,(aD IntKind.i64 y1.1.2.1 (1:Int),())),()):(sG)⊕(wL)))))
 none))))
 (aq (inside (0:Int) y1.1.2.1 (@len aC x.1))
 (aa (zN (@sub aC x.1 (0:Int) (minus y1.1.2.1 (0:Int)),(y3.1,()))) (fun(y5:Int×Unit)=>aq (nt (bI y5.1 (0:Int)))
 (some (Sum.inr ((1:Nat),(((1:Int),(y1.1.2.1,())),())):(sG)⊕(wL)))
 (some (Sum.inl ((y1.1.1,(aD IntKind.i64 y1.1.2.1 (1:Int),())),()):(sG)⊕(wL)))))
 none))))))
 (some (Sum.inr ((0:Nat),((y1.1.1,(y1.1.2.1,())),())):(sG)⊕(wL)))
def gu(x:(List aC)×Unit):Option (Int×Unit) :=
 aq (aX (64:Int) (@len aC x.1))
 (some ((1:Int),()))
 (aa (Loop (J9 x) (((0:Int),((0:Int),())),())) (fun(y1:Nat×qx×Unit)=>aq (eY y1.1 (0:Nat))
 (some ((0:Int),()))
 (some (y1.2.1.1,()))))
def kZ(x:(List aC)×Unit):Option ((List aC)×Unit) :=
 bif fits (len x.1) then some (x.1,()) else none
def On(x:(List aC)×aC×Unit)(y8:qx×Unit×Sb×Unit):Option ((qx×Unit×Sb×Unit)⊕(Nat×qx×Unit×Sb×Unit)) :=
 aq (aX y8.1.2.1 (@len aC x.1))
 (aq (within y8.1.2.1 (@len aC x.1))
 (aa (@idx aC x.1 y8.1.2.1) (fun(y9:Sb×Int×Int×Sb×Sb×Unit)=>aa (aq (nt (bX y9.1 y8.2.2.1))
 (aa (eC (y9.1,(y8.2.2.1,()))) (fun(qv:Bool×Unit)=>some qv.1))
 (some true)) (fun(qv:Bool)=>aq qv
 (some (Sum.inr ((1:Nat),((y8.1.2.1,(y8.1.2.1,())),((),(y8.2.2.1,())))):((qx×Unit×Sb×Unit))⊕((Nat×qx×Unit×Sb×Unit))))
 (some (Sum.inl ((y8.1.1,(aD IntKind.i64 y8.1.2.1 (1:Int),())),((),(y8.2.2.1,()))):((qx×Unit×Sb×Unit))⊕((Nat×qx×Unit×Sb×Unit)))))))
 none)
 (some (Sum.inr ((0:Nat),((y8.1.1,(y8.1.2.1,())),((),(y8.2.2.1,())))):((qx×Unit×Sb×Unit))⊕((Nat×qx×Unit×Sb×Unit))))
def Oo(y9:(Int×Int×Unit×Unit)×Unit×Sb×(List aC)×Unit):Option (Df⊕Df) :=
 @cM Df (aq (aX y9.1.2.1 (@len aC y9.2.2.2.1))
 (aq (within y9.1.2.1 (@len aC y9.2.2.2.1))
 (aa (@idx aC y9.2.2.2.1 y9.1.2.1) (fun(qv:Sb×Int×Int×Sb×Sb×Unit)=>aa (aq (nt (bX qv.1 y9.2.2.1))
 (aa (eC (qv.1,(y9.2.2.1,()))) (fun(nR:Bool×Unit)=>some nR.1))
 (some true)) (fun(nR:Bool)=>aa (aq (nt nR)
 (aq (within y9.1.1 (@len aC y9.2.2.2.1))
 (aa (@idx aC y9.2.2.2.1 y9.1.1) (fun(jq:Sb×Int×Int×Sb×Sb×Unit)=>aa (@idx aC y9.2.2.2.1 y9.1.1) (fun(gq:Sb×Int×Int×Sb×Sb×Unit)=>aa (@idx aC y9.2.2.2.1 y9.1.1) (fun(AW:Sb×Int×Int×Sb×Sb×Unit)=>some ((aD IntKind.i64 y9.1.1 (1:Int),((),())),(@nq aC y9.2.2.2.1 y9.1.1 qv,()))))))
 none)
 (some ((y9.1.1,((),())),(y9.2.2.2.1,())))) (fun(jq:(Int×Unit×Unit)×(List aC)×Unit)=>some (Sum.inl ((jq.1.1,(aD IntKind.i64 y9.1.2.1 (1:Int),((),()))),((),(y9.2.2.1,(jq.2.1,())))):(Df)⊕W4)))))
 none)
 (some (Sum.inr ((0:Nat),((y9.1.1,(y9.1.2.1,((),()))),((),(y9.2.2.1,(y9.2.2.2.1,()))))):(Df)⊕W4)))
def Oq(y9:(Int×Int×Unit×Unit)×Unit×Sb×(List aC)×Unit):Option (Df⊕Df) :=
 @cM Df (aq (aX y9.1.2.1 (@len aC y9.2.2.2.1))
 (aq (within y9.1.2.1 (@len aC y9.2.2.2.1))
 (aa (@idx aC y9.2.2.2.1 y9.1.2.1) (fun(qv:Sb×Int×Int×Sb×Sb×Unit)=>aa (aq (nt (bX qv.1 y9.2.2.1))
 (aa (eC (qv.1,(y9.2.2.1,()))) (fun(nR:Bool×Unit)=>some nR.1))
 (some true)) (fun(nR:Bool)=>aa (aq (nt nR)
 (aq (within y9.1.1 (@len aC y9.2.2.2.1))
 (aa (@idx aC y9.2.2.2.1 y9.1.1) (fun(jq:Sb×Int×Int×Sb×Sb×Unit)=>aa (@idx aC y9.2.2.2.1 y9.1.1) (fun(gq:Sb×Int×Int×Sb×Sb×Unit)=>aa (@idx aC y9.2.2.2.1 y9.1.1) (fun(AW:Sb×Int×Int×Sb×Sb×Unit)=>some ((aD IntKind.i64 y9.1.1 (1:Int),((),())),(@nq aC y9.2.2.2.1 y9.1.1 qv,()))))))
 none)
 (some ((y9.1.1,((),())),(y9.2.2.2.1,())))) (fun(jq:(Int×Unit×Unit)×(List aC)×Unit)=>some (Sum.inl ((jq.1.1,(aD IntKind.i64 y9.1.2.1 (1:Int),((),()))),((),(y9.2.2.1,(jq.2.1,())))):(Df)⊕W4)))))
 none)
 (some (Sum.inr ((0:Nat),((y9.1.1,(y9.1.2.1,((),()))),((),(y9.2.2.1,(y9.2.2.2.1,()))))):(Df)⊕W4)))
def Et(x:(List aC)×aC×Unit):Option ((List aC)×Int×Unit) :=
 aa (gu (x.1,())) (fun(y1:Int×Unit)=>aa (aq (nt (nt (bI y1.1 (0:Int))))
 (aa (HT (x.2.1,())) (fun(y2:Bool×Unit)=>some (nt y2.1)))
 (some true)) (fun(y2:Bool)=>aq y2
 (some (([]:List aC),((1:Int),())))
 (aa (jf (x.2.1.1,())) (fun(y3:Sb×Sb×Unit)=>aa (zN (x.1,(y3.1,()))) (fun(y4:Int×Unit)=>aq (nt (bI y4.1 (0:Int)))
 (some (([]:List aC),(y4.1,())))
 (aa (gr (x.1,(x.2.1.1,()))) (fun(y5:Int×Bool×Unit)=>aa (aq y5.2.1
 (aa (@idx aC x.1 y5.1) (fun(y6:Sb×Int×Int×Sb×Sb×Unit)=>some (bI y6.2.1 (2:Int))))
 (some false)) (fun(y6:Bool)=>aq (aq y6
 (bI x.2.1.2.1 (2:Int))
 false)
 (aq (fits (@len aC x.1))
 (aq (within y5.1 (@len aC x.1))
 (aa (@idx aC x.1 y5.1) (fun(y7:Sb×Int×Int×Sb×Sb×Unit)=>aa (@idx aC x.1 y5.1) (fun(y8:Sb×Int×Int×Sb×Sb×Unit)=>aa (@idx aC x.1 y5.1) (fun(y9:Sb×Int×Int×Sb×Sb×Unit)=>some (@nq aC x.1 y5.1 x.2.1,((0:Int),()))))))
 none)
 none)
 (aa (gu (x.1,())) (fun(y7:Int×Unit)=>aq (nt (bI y7.1 (0:Int)))
 (aq (cK (64:Int) (@len aC ([]:List aC)))
 (some (([]:List aC),((5:Int),())))
 (aa (gr (([]:List aC),(x.2.1.1,()))) (fun(y8:Int×Bool×Unit)=>none)))
 (aq (fits (@len aC x.1))
 (aa (Loop (On x) (((0:Int),((0:Int),())),((),(x.2.1.1,())))) (fun(y8:Nat×qx×Unit×Sb×Unit)=>aq (eY y8.1 (0:Nat))
 (aq (bI (-1:Int) (-1:Int))
 (aq (cK (64:Int) (@len aC x.1))
 (some (([]:List aC),((5:Int),())))
 (aa (gr (x.1,(x.2.1.1,()))) (fun(y9:Int×Bool×Unit)=>aa (aR x.1 (y9.1,(([x.2.1]:List aC),()))) (fun(qv:List aC)=>some (qv,((0:Int),()))))))
 (aa (Loop (Oo) (((-1:Int),(aD IntKind.i64 (-1:Int) (1:Int),((),()))),((),(y8.2.2.2.1,(x.1,()))))) (fun(y9:(Int×Int×Unit×Unit)×Unit×Sb×(List aC)×Unit)=>aq (inside y9.1.1 (@len aC y9.2.2.2.1) (@len aC y9.2.2.2.1))
 (aq (inside (0:Int) y9.1.1 (@len aC (@over aC y9.2.2.2.1 y9.1.1 (@jV aC (minus (@len aC y9.2.2.2.1) y9.1.1) (([]:List (UInt8)),((0:Int),((0:Int),(([]:List (UInt8)),(([]:List (UInt8)),())))))))))
 (aq (cK (64:Int) (minus y9.1.1 (0:Int)))
 (some (([]:List aC),((5:Int),())))
 (aa (gr (@sub aC (@over aC y9.2.2.2.1 y9.1.1 (@jV aC (minus (@len aC y9.2.2.2.1) y9.1.1) (([]:List (UInt8)),((0:Int),((0:Int),(([]:List (UInt8)),(([]:List (UInt8)),()))))))) (0:Int) (minus y9.1.1 (0:Int)),(x.2.1.1,()))) (fun(qv:Int×Bool×Unit)=>aa (aR (@sub aC (@over aC y9.2.2.2.1 y9.1.1 (@jV aC (minus (@len aC y9.2.2.2.1) y9.1.1) (([]:List (UInt8)),((0:Int),((0:Int),(([]:List (UInt8)),(([]:List (UInt8)),()))))))) (0:Int) (minus y9.1.1 (0:Int))) (qv.1,(([x.2.1]:List aC),()))) (fun(nR:List aC)=>some (nR,((0:Int),()))))))
 none)
 none)))
 (aq (bI y8.2.1.1 (-1:Int))
 (aq (cK (64:Int) (@len aC x.1))
 (some (([]:List aC),((5:Int),())))
 (aa (gr (x.1,(x.2.1.1,()))) (fun(y9:Int×Bool×Unit)=>aa (aR x.1 (y9.1,(([x.2.1]:List aC),()))) (fun(qv:List aC)=>some (qv,((0:Int),()))))))
 (aa (Loop (Oq) ((y8.2.1.1,(aD IntKind.i64 y8.2.1.1 (1:Int),((),()))),((),(y8.2.2.2.1,(x.1,()))))) (fun(y9:(Int×Int×Unit×Unit)×Unit×Sb×(List aC)×Unit)=>aq (inside y9.1.1 (@len aC y9.2.2.2.1) (@len aC y9.2.2.2.1))
 (aq (inside (0:Int) y9.1.1 (@len aC (@over aC y9.2.2.2.1 y9.1.1 (@jV aC (minus (@len aC y9.2.2.2.1) y9.1.1) (([]:List (UInt8)),((0:Int),((0:Int),(([]:List (UInt8)),(([]:List (UInt8)),())))))))))
 (aq (cK (64:Int) (minus y9.1.1 (0:Int)))
 (some (([]:List aC),((5:Int),())))
 (aa (gr (@sub aC (@over aC y9.2.2.2.1 y9.1.1 (@jV aC (minus (@len aC y9.2.2.2.1) y9.1.1) (([]:List (UInt8)),((0:Int),((0:Int),(([]:List (UInt8)),(([]:List (UInt8)),()))))))) (0:Int) (minus y9.1.1 (0:Int)),(x.2.1.1,()))) (fun(qv:Int×Bool×Unit)=>aa (aR (@sub aC (@over aC y9.2.2.2.1 y9.1.1 (@jV aC (minus (@len aC y9.2.2.2.1) y9.1.1) (([]:List (UInt8)),((0:Int),((0:Int),(([]:List (UInt8)),(([]:List (UInt8)),()))))))) (0:Int) (minus y9.1.1 (0:Int))) (qv.1,(([x.2.1]:List aC),()))) (fun(nR:List aC)=>some (nR,((0:Int),()))))))
 none)
 none)))))
 none)))))))))))
def I8(x:(List aC)×Sb×Unit):Option (aC×Bool×Unit) :=
 aa (gu (x.1,())) (fun(y1:Int×Unit)=>aq (nt (bI y1.1 (0:Int)))
 (some ((([]:List (UInt8)),((0:Int),((0:Int),(([]:List (UInt8)),(([]:List (UInt8)),()))))),(false,())))
 (aa (gr (x.1,(x.2.1,()))) (fun(y2:Int×Bool×Unit)=>aq (nt y2.2.1)
 (some ((([]:List (UInt8)),((0:Int),((0:Int),(([]:List (UInt8)),(([]:List (UInt8)),()))))),(false,())))
 (aa (@idx aC x.1 y2.1) (fun(y3:Sb×Int×Int×Sb×Sb×Unit)=>some (y3,(true,())))))))
def FL(x:Sb×Unit)(y1:tU×Unit):Option ((tU×Unit)⊕BI) :=
 aq (aX y1.1.2.1 (@len UInt8 x.1))
 (aa (@idx UInt8 x.1 y1.1.2.1) (fun(y2:UInt8)=>aq (bI (u8 y2) (0:Int))
 (some (Sum.inr ((1:Nat),((false,(y1.1.2.1,())),())):((tU×Unit))⊕(BI)))
 (some (Sum.inl ((y1.1.1,(aD IntKind.i64 y1.1.2.1 (1:Int),())),()):((tU×Unit))⊕(BI)))))
 (some (Sum.inr ((0:Nat),((y1.1.1,(y1.1.2.1,())),())):((tU×Unit))⊕(BI)))
def BJ(x:Sb×Unit):Option (Bool×Unit) :=
 aa (Loop (FL x) ((false,((0:Int),())),())) (fun(y1:Nat×tU×Unit)=>aq (eY y1.1 (0:Nat))
 (some (aq (cK (1:Int) (@len UInt8 x.1))
 (cK (@len UInt8 x.1) (100:Int))
 false,()))
 (some (y1.2.1.1,())))
def sH(x:aC×Unit):Option (Bool×Unit) :=
 aa (nB (x.1.1,())) (fun(y1:Sb×Sb×Unit)=>aa (zG (y1.2.1,())) (fun(y2:Int×Sb×Unit)=>aa (aq (nt (bX x.1.1 ([]:List (UInt8))))
 (aa (En (x.1.1,())) (fun(y3:Bool×Unit)=>some y3.1))
 (some false)) (fun(y3:Bool)=>aq (bI x.1.2.1 (1:Int))
 (some (aq (aq (aq (aq (aq (aq (aq y3
 (cK (@len UInt8 x.1.1) (92:Int))
 false)
 (cK (@len UInt8 y1.2.1) (28:Int))
 false)
 (bI y2.1 (0:Int))
 false)
 (cK (0:Int) x.1.2.2.1)
 false)
 (cK x.1.2.2.1 (4095:Int))
 false)
 (bX x.1.2.2.2.2.1 ([]:List (UInt8)))
 false)
 (cK (@len UInt8 x.1.2.2.2.1) (8192:Int))
 false,()))
 (aq (bI x.1.2.1 (2:Int))
 (some (aq (aq (aq (aq (aq (aq (aq y3
 (cK (@len UInt8 x.1.1) (92:Int))
 false)
 (cK (@len UInt8 y1.2.1) (28:Int))
 false)
 (bI y2.1 (0:Int))
 false)
 (cK (0:Int) x.1.2.2.1)
 false)
 (cK x.1.2.2.1 (4095:Int))
 false)
 (bX x.1.2.2.2.2.1 ([]:List (UInt8)))
 false)
 (bX x.1.2.2.2.1 ([]:List (UInt8)))
 false,()))
 (aq (bI x.1.2.1 (3:Int))
 (aa (aq (aq (aq (aq (aq (aq (aq y3
 (cK (@len UInt8 x.1.1) (92:Int))
 false)
 (cK (@len UInt8 y1.2.1) (28:Int))
 false)
 (bI y2.1 (0:Int))
 false)
 (cK (0:Int) x.1.2.2.1)
 false)
 (cK x.1.2.2.1 (4095:Int))
 false)
 (bX x.1.2.2.2.1 ([]:List (UInt8)))
 false)
 (aa (BJ (x.1.2.2.2.2.1,())) (fun(y4:Bool×Unit)=>some y4.1))
 (some false)) (fun(y4:Bool)=>some (y4,())))
 (some (false,())))))))
def Ka(x:(List aC)×Sb×Unit)(y1:qx×Unit):Option (sG⊕wL) :=
 aq (aX y1.1.2.1 (@len aC x.1))
 (aa (@idx aC x.1 y1.1.2.1) (fun(y2:Sb×Int×Int×Sb×Sb×Unit)=>aq (bX y2.1 x.2.1)
 (some (Sum.inr ((1:Nat),((y1.1.2.1,(y1.1.2.1,())),())):(sG)⊕(wL)))
 (some (Sum.inl ((y1.1.1,(aD IntKind.i64 y1.1.2.1 (1:Int),())),()):(sG)⊕(wL)))))
 (some (Sum.inr ((0:Nat),((y1.1.1,(y1.1.2.1,())),())):(sG)⊕(wL)))
def pU(x:(List aC)×Sb×Unit):Option (Int×Unit) :=
 aa (Loop (Ka x) (((0:Int),((0:Int),())),())) (fun(y1:Nat×qx×Unit)=>aq (eY y1.1 (0:Nat))
 (some ((-1:Int),()))
 (some (y1.2.1.1,())))
def BK(x:(List aC)×Sb×Unit):Option (Bool×Unit) :=
 aa (pU (x.1,(x.2.1,()))) (fun(y1:Int×Unit)=>aa (aq (nt (bX x.2.1 ([]:List (UInt8))))
 (aa (aq (cK (0:Int) y1.1)
 (aa (@idx aC x.1 y1.1) (fun(y2:Sb×Int×Int×Sb×Sb×Unit)=>some (bI y2.2.1 (2:Int))))
 (some false)) (fun(y2:Bool)=>some y2))
 (some true)) (fun(y2:Bool)=>some (y2,())))
def Ot(x:(List aC)×Unit)(y1:tU×Unit):Option ((tU×Unit)⊕BI) :=
 aq (aX y1.1.2.1 (@len aC x.1))
 (aa (@idx aC x.1 y1.1.2.1) (fun(y2:Sb×Int×Int×Sb×Sb×Unit)=>aa (nB (y2.1,())) (fun(y3:Sb×Sb×Unit)=>aa (@idx aC x.1 y1.1.2.1) (fun(y4:Sb×Int×Int×Sb×Sb×Unit)=>aa (sH (y4,())) (fun(y5:Bool×Unit)=>aq (nt y5.1)
 (some (Sum.inr ((1:Nat),((false,(y1.1.2.1,())),())):((tU×Unit))⊕(BI)))
 (aa (BK (x.1,(y3.1,()))) (fun(y6:Bool×Unit)=>aq (nt y6.1)
 (some (Sum.inr ((1:Nat),((false,(y1.1.2.1,())),())):((tU×Unit))⊕(BI)))
 (aq (aX (0:Int) y1.1.2.1)
 (aa (@idx aC x.1 (cL IntKind.i64 y1.1.2.1 (1:Int))) (fun(y7:Sb×Int×Int×Sb×Sb×Unit)=>aa (@idx aC x.1 y1.1.2.1) (fun(y8:Sb×Int×Int×Sb×Sb×Unit)=>aa (sZ (y7.1,(y8.1,()))) (fun(y9:Int×Unit)=>aq (cK (0:Int) y9.1)
 (some (Sum.inr ((1:Nat),((false,(y1.1.2.1,())),())):((tU×Unit))⊕(BI)))
 (some (Sum.inl ((y1.1.1,(aD IntKind.i64 y1.1.2.1 (1:Int),())),()):((tU×Unit))⊕(BI)))))))
 (some (Sum.inl ((y1.1.1,(aD IntKind.i64 y1.1.2.1 (1:Int),())),()):((tU×Unit))⊕(BI)))))))))))
 (some (Sum.inr ((0:Nat),((y1.1.1,(y1.1.2.1,())),())):((tU×Unit))⊕(BI)))
def oC(x:(List aC)×Unit):Option (Bool×Unit) :=
 aq (aX (64:Int) (@len aC x.1))
 (some (false,()))
 (aa (Loop (Ot x) ((false,((0:Int),())),())) (fun(y1:Nat×tU×Unit)=>aq (eY y1.1 (0:Nat))
 (some (true,()))
 (some (y1.2.1.1,()))))
def Eu(x:(List aC)×Sb×Bool×Unit)(y1:(Unit×Int×Unit)×(List aC)×Unit):Option (TB⊕TB) :=
 @cM TB (aq (aX y1.1.2.1 (@len aC x.1))
 (aa (@idx aC x.1 y1.1.2.1) (fun(y2:Sb×Int×Int×Sb×Sb×Unit)=>aa (Db (y2.1,(x.2.1,()))) (fun(y3:Bool×Unit)=>aa (aq (nt y3.1)
 (aa (aq (nt (nt x.2.2.1))
 (aa (@idx aC x.1 y1.1.2.1) (fun(y4:Sb×Int×Int×Sb×Sb×Unit)=>some (nt (bX y4.1 x.2.1))))
 (some true)) (fun(y4:Bool)=>some y4))
 (some false)) (fun(y4:Bool)=>aa (aq y4
 (aa (@idx aC x.1 y1.1.2.1) (fun(y5:Sb×Int×Int×Sb×Sb×Unit)=>aq (fits (plus (@len aC y1.2.1) (@len aC ([y5]:List aC))))
 (some (((),()),(@app aC y1.2.1 ([y5]:List aC),())))
 none))
 (some (((),()),(y1.2.1,())))) (fun(y5:(Unit×Unit)×(List aC)×Unit)=>some (Sum.inl (((),(aD IntKind.i64 y1.1.2.1 (1:Int),())),(y5.2.1,())):(TB)⊕((Nat×(Unit×Int×Unit)×(List aC)×Unit))))))))
 (some (Sum.inr ((0:Nat),(((),(y1.1.2.1,())),(y1.2.1,()))):(TB)⊕((Nat×(Unit×Int×Unit)×(List aC)×Unit)))))
def nY(x:(List aC)×Sb×Bool×Unit):Option ((List aC)×Unit) :=
 aa (Loop (Eu x) (((),((0:Int),())),(([]:List aC),()))) (fun(y1:(Unit×Int×Unit)×(List aC)×Unit)=>some (y1.2.1,()))
def MG(x:(List aC)×aC×Unit)(y8:((List aC)×Unit)×Unit)(y9:(Int×Unit)×Unit):Option (((Int×Unit)×Unit)⊕((Int×Unit)×Unit)) :=
 @cM ((Int×Unit)×Unit) (aq (aX y9.1.1 (@len aC y8.1.1))
 (aa (@idx aC y8.1.1 y9.1.1) (fun(qv:Sb×Int×Int×Sb×Sb×Unit)=>aa (sZ (qv.1,(x.2.1.1,()))) (fun(nR:Int×Unit)=>aq (aX nR.1 (0:Int))
 (some (Sum.inl ((aD IntKind.i64 y9.1.1 (1:Int),()),()):(((Int×Unit)×Unit))⊕((Nat×(Int×Unit)×Unit))))
 (some (Sum.inr ((0:Nat),((y9.1.1,()),())):(((Int×Unit)×Unit))⊕((Nat×(Int×Unit)×Unit)))))))
 (some (Sum.inr ((0:Nat),((y9.1.1,()),())):(((Int×Unit)×Unit))⊕((Nat×(Int×Unit)×Unit)))))
def BL(x:(List aC)×aC×Unit):Option ((List aC)×Int×Unit) :=
 aa (oC (x.1,())) (fun(y1:Bool×Unit)=>aa (aq (nt (nt y1.1))
 (aa (sH (x.2.1,())) (fun(y2:Bool×Unit)=>some (nt y2.1)))
 (some true)) (fun(y2:Bool)=>aq y2
 (some (([]:List aC),((1:Int),())))
 (aa (nB (x.2.1.1,())) (fun(y3:Sb×Sb×Unit)=>aa (aq (nt (bX y3.1 ([]:List (UInt8))))
 (aa (pU (x.1,(y3.1,()))) (fun(y4:Int×Unit)=>some (aX y4.1 (0:Int))))
 (some false)) (fun(y4:Bool)=>aq y4
 (some (([]:List aC),((3:Int),())))
 (aa (BK (x.1,(y3.1,()))) (fun(y5:Bool×Unit)=>aq (nt y5.1)
 (some (([]:List aC),((12:Int),())))
 (aa (pU (x.1,(x.2.1.1,()))) (fun(y6:Int×Unit)=>aa (aq (cK (0:Int) y6.1)
 (aa (@idx aC x.1 y6.1) (fun(y7:Sb×Int×Int×Sb×Sb×Unit)=>some (bI y7.2.1 (2:Int))))
 (some false)) (fun(y7:Bool)=>aa (aq (aq y7
 (bI x.2.1.2.1 (2:Int))
 false)
 (aq (inside (0:Int) y6.1 (@len aC x.1))
 (aq (fits (plus (@len aC ([]:List aC)) (@len aC (@sub aC x.1 (0:Int) (minus y6.1 (0:Int))))))
 (aq (inside (aD IntKind.i64 y6.1 (1:Int)) (@len aC x.1) (@len aC x.1))
 (aq (fits (plus (@len aC (@app aC ([]:List aC) (@sub aC x.1 (0:Int) (minus y6.1 (0:Int))))) (@len aC (@sub aC x.1 (aD IntKind.i64 y6.1 (1:Int)) (minus (@len aC x.1) (aD IntKind.i64 y6.1 (1:Int)))))))
 (some ((@app aC (@app aC ([]:List aC) (@sub aC x.1 (0:Int) (minus y6.1 (0:Int)))) (@sub aC x.1 (aD IntKind.i64 y6.1 (1:Int)) (minus (@len aC x.1) (aD IntKind.i64 y6.1 (1:Int)))),()),()))
 none)
 none)
 none)
 none)
 (aa (aq (cK (0:Int) y6.1)
 (aa (nY (x.1,(x.2.1.1,(true,())))) (fun(y8:(List aC)×Unit)=>some ((y8.1,()),())))
 (some ((x.1,()),()))) (fun(y8:((List aC)×Unit)×Unit)=>some ((y8.1.1,()),())))) (fun(y8:((List aC)×Unit)×Unit)=>aq (cK (64:Int) (@len aC y8.1.1))
 (some (([]:List aC),((5:Int),())))
 (aa (Loop (MG x y8) (((0:Int),()),())) (fun(y9:(Int×Unit)×Unit)=>aq (inside (0:Int) y9.1.1 (@len aC y8.1.1))
 (aq (fits (plus (@len aC ([]:List aC)) (@len aC (@sub aC y8.1.1 (0:Int) (minus y9.1.1 (0:Int))))))
 (aq (fits (plus (@len aC (@app aC ([]:List aC) (@sub aC y8.1.1 (0:Int) (minus y9.1.1 (0:Int))))) (@len aC ([x.2.1]:List aC))))
 (aq (inside y9.1.1 (@len aC y8.1.1) (@len aC y8.1.1))
 (aq (fits (plus (@len aC (@app aC (@app aC ([]:List aC) (@sub aC y8.1.1 (0:Int) (minus y9.1.1 (0:Int)))) ([x.2.1]:List aC))) (@len aC (@sub aC y8.1.1 y9.1.1 (minus (@len aC y8.1.1) y9.1.1)))))
 (some (@app aC (@app aC (@app aC ([]:List aC) (@sub aC y8.1.1 (0:Int) (minus y9.1.1 (0:Int)))) ([x.2.1]:List aC)) (@sub aC y8.1.1 y9.1.1 (minus (@len aC y8.1.1) y9.1.1)),((0:Int),())))
 none)
 none)
 none)
 none)
 none)))))))))))))
end Go.Ge
namespace Go.Ge
variable [Lp]
set_option maxRecDepth 100000
abbrev aU:=(Sb×Int×Int×Sb×Sb×Unit)
abbrev oQ:=((Int×Int×Unit×Unit)×Unit×Sb×(List aU)×Unit)
abbrev I9:=((Nat×(Int×Int×Unit×Unit)×Unit×Sb×(List aU)×Unit))
abbrev Ja:=(Nat×(Int×Int×Unit)×Unit×Sb×Unit)
abbrev Jb:=((Int×Int×Unit)×Unit×Sb×Unit)
abbrev Jc:=(Int×Int×Unit×Unit)
def HU(x:(List aU)×Sb×Unit)(y2:(Int×Int×Unit)×Unit×Sb×Unit):Option (Jb⊕Ja) :=
 aq (aX y2.1.2.1 (@len aU x.1))
 (aq (within y2.1.2.1 (@len aU x.1))
 (aa (@idx aU x.1 y2.1.2.1) (fun(y3:Sb×Int×Int×Sb×Sb×Unit)=>aa (aq (nt (bX y3.1 y2.2.2.1))
 (aa (eC (y3.1,(y2.2.2.1,()))) (fun(y4:Bool×Unit)=>some y4.1))
 (some true)) (fun(y4:Bool)=>aq y4
 (some (Sum.inr ((1:Nat),((y2.1.2.1,(y2.1.2.1,())),((),(y2.2.2.1,())))):(Jb)⊕(Ja)))
 (some (Sum.inl ((y2.1.1,(aD IntKind.i64 y2.1.2.1 (1:Int),())),((),(y2.2.2.1,()))):(Jb)⊕(Ja))))))
 none)
 (some (Sum.inr ((0:Nat),((y2.1.1,(y2.1.2.1,())),((),(y2.2.2.1,())))):(Jb)⊕(Ja)))
def HV(y3:Jc×Unit×Sb×(List aU)×Unit):Option (oQ⊕oQ) :=
 @cM oQ (aq (aX y3.1.2.1 (@len aU y3.2.2.2.1))
 (aq (within y3.1.2.1 (@len aU y3.2.2.2.1))
 (aa (@idx aU y3.2.2.2.1 y3.1.2.1) (fun(y4:Sb×Int×Int×Sb×Sb×Unit)=>aa (aq (nt (bX y4.1 y3.2.2.1))
 (aa (eC (y4.1,(y3.2.2.1,()))) (fun(y5:Bool×Unit)=>some y5.1))
 (some true)) (fun(y5:Bool)=>aa (aq (nt y5)
 (aq (within y3.1.1 (@len aU y3.2.2.2.1))
 (aa (@idx aU y3.2.2.2.1 y3.1.1) (fun(y6:Sb×Int×Int×Sb×Sb×Unit)=>aa (@idx aU y3.2.2.2.1 y3.1.1) (fun(y7:Sb×Int×Int×Sb×Sb×Unit)=>aa (@idx aU y3.2.2.2.1 y3.1.1) (fun(y8:Sb×Int×Int×Sb×Sb×Unit)=>some ((aD IntKind.i64 y3.1.1 (1:Int),((),())),(@nq aU y3.2.2.2.1 y3.1.1 y4,()))))))
 none)
 (some ((y3.1.1,((),())),(y3.2.2.2.1,())))) (fun(y6:(Int×Unit×Unit)×(List aU)×Unit)=>some (Sum.inl ((y6.1.1,(aD IntKind.i64 y3.1.2.1 (1:Int),((),()))),((),(y3.2.2.1,(y6.2.1,())))):(oQ)⊕I9)))))
 none)
 (some (Sum.inr ((0:Nat),((y3.1.1,(y3.1.2.1,((),()))),((),(y3.2.2.1,(y3.2.2.2.1,()))))):(oQ)⊕I9)))
def HW(y3:Jc×Unit×Sb×(List aU)×Unit):Option (oQ⊕oQ) :=
 @cM oQ (aq (aX y3.1.2.1 (@len aU y3.2.2.2.1))
 (aq (within y3.1.2.1 (@len aU y3.2.2.2.1))
 (aa (@idx aU y3.2.2.2.1 y3.1.2.1) (fun(y4:Sb×Int×Int×Sb×Sb×Unit)=>aa (aq (nt (bX y4.1 y3.2.2.1))
 (aa (eC (y4.1,(y3.2.2.1,()))) (fun(y5:Bool×Unit)=>some y5.1))
 (some true)) (fun(y5:Bool)=>aa (aq (nt y5)
 (aq (within y3.1.1 (@len aU y3.2.2.2.1))
 (aa (@idx aU y3.2.2.2.1 y3.1.1) (fun(y6:Sb×Int×Int×Sb×Sb×Unit)=>aa (@idx aU y3.2.2.2.1 y3.1.1) (fun(y7:Sb×Int×Int×Sb×Sb×Unit)=>aa (@idx aU y3.2.2.2.1 y3.1.1) (fun(y8:Sb×Int×Int×Sb×Sb×Unit)=>some ((aD IntKind.i64 y3.1.1 (1:Int),((),())),(@nq aU y3.2.2.2.1 y3.1.1 y4,()))))))
 none)
 (some ((y3.1.1,((),())),(y3.2.2.2.1,())))) (fun(y6:(Int×Unit×Unit)×(List aU)×Unit)=>some (Sum.inl ((y6.1.1,(aD IntKind.i64 y3.1.2.1 (1:Int),((),()))),((),(y3.2.2.1,(y6.2.1,())))):(oQ)⊕I9)))))
 none)
 (some (Sum.inr ((0:Nat),((y3.1.1,(y3.1.2.1,((),()))),((),(y3.2.2.1,(y3.2.2.2.1,()))))):(oQ)⊕I9)))
def Dh(x:(List aU)×Sb×Unit):Option ((List aU)×Unit) :=
 aa (gu (x.1,())) (fun(y1:Int×Unit)=>aq (nt (bI y1.1 (0:Int)))
 (some (([]:List aU),()))
 (aq (fits (@len aU x.1))
 (aa (Loop (HU x) (((0:Int),((0:Int),())),((),(x.2.1,())))) (fun(y2:Nat×(Int×Int×Unit)×Unit×Sb×Unit)=>aq (eY y2.1 (0:Nat))
 (aq (bI (-1:Int) (-1:Int))
 (some (x.1,()))
 (aa (Loop (HV) (((-1:Int),(aD IntKind.i64 (-1:Int) (1:Int),((),()))),((),(y2.2.2.2.1,(x.1,()))))) (fun(y3:Jc×Unit×Sb×(List aU)×Unit)=>aq (inside y3.1.1 (@len aU y3.2.2.2.1) (@len aU y3.2.2.2.1))
 (aq (inside (0:Int) y3.1.1 (@len aU (@over aU y3.2.2.2.1 y3.1.1 (@jV aU (minus (@len aU y3.2.2.2.1) y3.1.1) (([]:List (UInt8)),((0:Int),((0:Int),(([]:List (UInt8)),(([]:List (UInt8)),())))))))))
 (some (@sub aU (@over aU y3.2.2.2.1 y3.1.1 (@jV aU (minus (@len aU y3.2.2.2.1) y3.1.1) (([]:List (UInt8)),((0:Int),((0:Int),(([]:List (UInt8)),(([]:List (UInt8)),()))))))) (0:Int) (minus y3.1.1 (0:Int)),()))
 none)
 none)))
 (aq (bI y2.2.1.1 (-1:Int))
 (some (x.1,()))
 (aa (Loop (HW) ((y2.2.1.1,(aD IntKind.i64 y2.2.1.1 (1:Int),((),()))),((),(y2.2.2.2.1,(x.1,()))))) (fun(y3:Jc×Unit×Sb×(List aU)×Unit)=>aq (inside y3.1.1 (@len aU y3.2.2.2.1) (@len aU y3.2.2.2.1))
 (aq (inside (0:Int) y3.1.1 (@len aU (@over aU y3.2.2.2.1 y3.1.1 (@jV aU (minus (@len aU y3.2.2.2.1) y3.1.1) (([]:List (UInt8)),((0:Int),((0:Int),(([]:List (UInt8)),(([]:List (UInt8)),())))))))))
 (some (@sub aU (@over aU y3.2.2.2.1 y3.1.1 (@jV aU (minus (@len aU y3.2.2.2.1) y3.1.1) (([]:List (UInt8)),((0:Int),((0:Int),(([]:List (UInt8)),(([]:List (UInt8)),()))))))) (0:Int) (minus y3.1.1 (0:Int)),()))
 none)
 none)))))
 none))
def FM(x:(List aU)×Sb×Unit):Option (aU×Bool×Unit) :=
 aa (pU (x.1,(x.2.1,()))) (fun(y1:Int×Unit)=>aa (oC (x.1,())) (fun(y2:Bool×Unit)=>aq (aq (nt (nt y2.1))
 (aX y1.1 (0:Int))
 true)
 (some ((([]:List (UInt8)),((0:Int),((0:Int),(([]:List (UInt8)),(([]:List (UInt8)),()))))),(false,())))
 (aa (@idx aU x.1 y1.1) (fun(y3:Sb×Int×Int×Sb×Sb×Unit)=>some (y3,(true,()))))))
def BM(x:(List aU)×Sb×Unit):Option ((List aU)×Unit) :=
 aa (oC (x.1,())) (fun(y1:Bool×Unit)=>aq (nt y1.1)
 (some (([]:List aU),()))
 (aa (nY (x.1,(x.2.1,(true,())))) (fun(y2:(List aU)×Unit)=>some (y2.1,()))))
def Kb(x:(List aU)×Sb×Unit)(y2:(Int×Int×Unit)×Unit×Sb×Unit):Option (Jb⊕Ja) :=
 aq (aX y2.1.2.1 (@len aU x.1))
 (aq (within y2.1.2.1 (@len aU x.1))
 (aa (@idx aU x.1 y2.1.2.1) (fun(y3:Sb×Int×Int×Sb×Sb×Unit)=>aa (eC (y3.1,(y2.2.2.1,()))) (fun(y4:Bool×Unit)=>aq y4.1
 (some (Sum.inr ((1:Nat),((y2.1.2.1,(y2.1.2.1,())),((),(y2.2.2.1,())))):(Jb)⊕(Ja)))
 (some (Sum.inl ((y2.1.1,(aD IntKind.i64 y2.1.2.1 (1:Int),())),((),(y2.2.2.1,()))):(Jb)⊕(Ja))))))
 none)
 (some (Sum.inr ((0:Nat),((y2.1.1,(y2.1.2.1,())),((),(y2.2.2.1,())))):(Jb)⊕(Ja)))
def Kc(y3:Jc×Unit×Sb×(List aU)×Unit):Option (oQ⊕oQ) :=
 @cM oQ (aq (aX y3.1.2.1 (@len aU y3.2.2.2.1))
 (aq (within y3.1.2.1 (@len aU y3.2.2.2.1))
 (aa (@idx aU y3.2.2.2.1 y3.1.2.1) (fun(y4:Sb×Int×Int×Sb×Sb×Unit)=>aa (eC (y4.1,(y3.2.2.1,()))) (fun(y5:Bool×Unit)=>aa (aq (nt y5.1)
 (aq (within y3.1.1 (@len aU y3.2.2.2.1))
 (aa (@idx aU y3.2.2.2.1 y3.1.1) (fun(y6:Sb×Int×Int×Sb×Sb×Unit)=>aa (@idx aU y3.2.2.2.1 y3.1.1) (fun(y7:Sb×Int×Int×Sb×Sb×Unit)=>aa (@idx aU y3.2.2.2.1 y3.1.1) (fun(y8:Sb×Int×Int×Sb×Sb×Unit)=>some ((aD IntKind.i64 y3.1.1 (1:Int),((),())),(@nq aU y3.2.2.2.1 y3.1.1 y4,()))))))
 none)
 (some ((y3.1.1,((),())),(y3.2.2.2.1,())))) (fun(y6:(Int×Unit×Unit)×(List aU)×Unit)=>some (Sum.inl ((y6.1.1,(aD IntKind.i64 y3.1.2.1 (1:Int),((),()))),((),(y3.2.2.1,(y6.2.1,())))):(oQ)⊕I9)))))
 none)
 (some (Sum.inr ((0:Nat),((y3.1.1,(y3.1.2.1,((),()))),((),(y3.2.2.1,(y3.2.2.2.1,()))))):(oQ)⊕I9)))
def Kd(y3:Jc×Unit×Sb×(List aU)×Unit):Option (oQ⊕oQ) :=
 @cM oQ (aq (aX y3.1.2.1 (@len aU y3.2.2.2.1))
 (aq (within y3.1.2.1 (@len aU y3.2.2.2.1))
 (aa (@idx aU y3.2.2.2.1 y3.1.2.1) (fun(y4:Sb×Int×Int×Sb×Sb×Unit)=>aa (eC (y4.1,(y3.2.2.1,()))) (fun(y5:Bool×Unit)=>aa (aq (nt y5.1)
 (aq (within y3.1.1 (@len aU y3.2.2.2.1))
 (aa (@idx aU y3.2.2.2.1 y3.1.1) (fun(y6:Sb×Int×Int×Sb×Sb×Unit)=>aa (@idx aU y3.2.2.2.1 y3.1.1) (fun(y7:Sb×Int×Int×Sb×Sb×Unit)=>aa (@idx aU y3.2.2.2.1 y3.1.1) (fun(y8:Sb×Int×Int×Sb×Sb×Unit)=>some ((aD IntKind.i64 y3.1.1 (1:Int),((),())),(@nq aU y3.2.2.2.1 y3.1.1 y4,()))))))
 none)
 (some ((y3.1.1,((),())),(y3.2.2.2.1,())))) (fun(y6:(Int×Unit×Unit)×(List aU)×Unit)=>some (Sum.inl ((y6.1.1,(aD IntKind.i64 y3.1.2.1 (1:Int),((),()))),((),(y3.2.2.1,(y6.2.1,())))):(oQ)⊕I9)))))
 none)
 (some (Sum.inr ((0:Nat),((y3.1.1,(y3.1.2.1,((),()))),((),(y3.2.2.1,(y3.2.2.2.1,()))))):(oQ)⊕I9)))
def FN(x:(List aU)×Sb×Unit):Option ((List aU)×Unit) :=
 aa (gu (x.1,())) (fun(y1:Int×Unit)=>aq (nt (bI y1.1 (0:Int)))
 (some (([]:List aU),()))
 (aq (fits (@len aU x.1))
 (aa (Loop (Kb x) (((0:Int),((0:Int),())),((),(x.2.1,())))) (fun(y2:Nat×(Int×Int×Unit)×Unit×Sb×Unit)=>aq (eY y2.1 (0:Nat))
 (aq (bI (-1:Int) (-1:Int))
 (some (x.1,()))
 (aa (Loop (Kc) (((-1:Int),(aD IntKind.i64 (-1:Int) (1:Int),((),()))),((),(y2.2.2.2.1,(x.1,()))))) (fun(y3:Jc×Unit×Sb×(List aU)×Unit)=>aq (inside y3.1.1 (@len aU y3.2.2.2.1) (@len aU y3.2.2.2.1))
 (aq (inside (0:Int) y3.1.1 (@len aU (@over aU y3.2.2.2.1 y3.1.1 (@jV aU (minus (@len aU y3.2.2.2.1) y3.1.1) (([]:List (UInt8)),((0:Int),((0:Int),(([]:List (UInt8)),(([]:List (UInt8)),())))))))))
 (some (@sub aU (@over aU y3.2.2.2.1 y3.1.1 (@jV aU (minus (@len aU y3.2.2.2.1) y3.1.1) (([]:List (UInt8)),((0:Int),((0:Int),(([]:List (UInt8)),(([]:List (UInt8)),()))))))) (0:Int) (minus y3.1.1 (0:Int)),()))
 none)
 none)))
 (aq (bI y2.2.1.1 (-1:Int))
 (some (x.1,()))
 (aa (Loop (Kd) ((y2.2.1.1,(aD IntKind.i64 y2.2.1.1 (1:Int),((),()))),((),(y2.2.2.2.1,(x.1,()))))) (fun(y3:Jc×Unit×Sb×(List aU)×Unit)=>aq (inside y3.1.1 (@len aU y3.2.2.2.1) (@len aU y3.2.2.2.1))
 (aq (inside (0:Int) y3.1.1 (@len aU (@over aU y3.2.2.2.1 y3.1.1 (@jV aU (minus (@len aU y3.2.2.2.1) y3.1.1) (([]:List (UInt8)),((0:Int),((0:Int),(([]:List (UInt8)),(([]:List (UInt8)),())))))))))
 (some (@sub aU (@over aU y3.2.2.2.1 y3.1.1 (@jV aU (minus (@len aU y3.2.2.2.1) y3.1.1) (([]:List (UInt8)),((0:Int),((0:Int),(([]:List (UInt8)),(([]:List (UInt8)),()))))))) (0:Int) (minus y3.1.1 (0:Int)),()))
 none)
 none)))))
 none))
def Di(x:(List aU)×Sb×Unit):Option ((List aU)×Unit) :=
 aa (oC (x.1,())) (fun(y1:Bool×Unit)=>aq (nt y1.1)
 (some (([]:List aU),()))
 (aa (nY (x.1,(x.2.1,(false,())))) (fun(y2:(List aU)×Unit)=>some (y2.1,()))))
end Go.Ge
namespace Go.Ge
variable [Lp]
set_option maxRecDepth 100000
end Go.Ge
namespace Go.Ge
variable [Lp]
set_option maxRecDepth 100000
abbrev aN:=(Sb×Int×Int×Sb×Sb×Unit)
abbrev bW:=((Sb×Int×Int×Int×Int×Int×Int×Sb×Unit)×Sb×Unit)
abbrev ez:=((Sb×Unit)⊕((Sb×Unit)⊕(Unit⊕((aN×Unit)⊕Unit))))
abbrev gv:=((List aN)×(List aN)×Int×Sb×Int×Unit)
abbrev BN:=(Bool×Int×Unit)
abbrev BO:=(Sb×Int×Int×Int×Int×Int×Int×Sb×Unit)
abbrev jL:=((List aN)×Int×(List aN)×Int×Unit)
abbrev iu:=(Sb×Bool×Int×Unit)
abbrev pV:=((List aN)×(List aN)×Int×Int×Unit)
abbrev eU:=((List aN)×Int×Unit)
abbrev nZ:=(Sb×(List bW)×Bool×Unit×Unit)
abbrev n6:=(Nat×BN×Unit)
abbrev agW:=(Bool×(List aN)×Int×Unit)
abbrev wM:=((Sb×Unit)⊕(Unit⊕((aN×Unit)⊕Unit)))
abbrev CE:=((List UInt8)×(Int×(Int×((List UInt8)×((List UInt8)×Unit)))))
abbrev rT:=((List ez)×Bool×Unit×Int×Unit)
abbrev rU:=(Bool×Sb×Int×Unit)
abbrev n7:=(BN×Unit)
abbrev iR:=(Sb×Unit)
abbrev uG:=(Unit×Sb×Int×Unit)
def CQ(y2:(List Sb)×Unit)(y3:uG×(List aN)×Unit):Option ((uG×(List aN)×Unit)⊕(uG×(List aN)×Unit)) :=
 @cM (uG×(List aN)×Unit) (aq (aX y3.1.2.2.1 (@len Sb y2.1))
 (aa (@idx Sb y2.1 y3.1.2.2.1) (fun(y4:List (UInt8))=>aa (uA (y3.1.2.1,(y4,()))) (fun(y5:Sb×Unit)=>aq (fits (plus (@len aN y3.2.1) (@len aN ([(y5.1,((2:Int),((0:Int),(([]:List (UInt8)),(([]:List (UInt8)),())))))]:List aN))))
 (some (Sum.inl (((),(y5.1,(aD IntKind.i64 y3.1.2.2.1 (1:Int),()))),(@app aN y3.2.1 ([(y5.1,((2:Int),((0:Int),(([]:List (UInt8)),(([]:List (UInt8)),())))))]:List aN),())):((uG×(List aN)×Unit))⊕((Nat×uG×(List aN)×Unit))))
 none)))
 (some (Sum.inr ((0:Nat),(((),(y3.1.2.1,(y3.1.2.2.1,()))),(y3.2.1,()))):((uG×(List aN)×Unit))⊕((Nat×uG×(List aN)×Unit)))))
def qV(x:aN×Unit):Option (Bool×Unit) :=
 aa (jf (x.1.1,())) (fun(y1:Sb×Sb×Unit)=>aa (gA (y1.1,())) (fun(y2:(List Sb)×Unit)=>aa (Loop (CQ y2) (((),(([]:List (UInt8)),((0:Int),()))),(([]:List aN),()))) (fun(y3:uG×(List aN)×Unit)=>aq (nt (bX x.1.1 ([]:List (UInt8))))
 (aq (fits (plus (@len aN y3.2.1) (@len aN ([x.1]:List aN))))
 (aa (gu (@app aN y3.2.1 ([x.1]:List aN),())) (fun(y4:Int×Unit)=>some (bI y4.1 (0:Int),())))
 none)
 (some (false,())))))
def tc(x:Sb×Unit):Option (Bool×Unit) :=
 aa (aq (nt (bX x.1 ([]:List (UInt8))))
 (aa (qV ((x.1,((2:Int),((0:Int),(([]:List (UInt8)),(([]:List (UInt8)),()))))),())) (fun(y1:Bool×Unit)=>some y1.1))
 (some true)) (fun(y1:Bool)=>some (y1,()))
def qy(x:iR×(List aN)×Unit):Option ((List aN)×Unit) :=
 aa (Dh (x.2.1,(x.1.1,()))) (fun(y1:(List aN)×Unit)=>some (y1.1,()))
def tV(x:iR×(List aN)×Unit):Option eU :=
 some (x.2.1,((0:Int),()))
def oR(x:iR×(List aN)×Unit):Option ((List aN)×Unit) :=
 aa (FN (x.2.1,(x.1.1,()))) (fun(y1:(List aN)×Unit)=>some (y1.1,()))
def qz(x:iR×(List aN)×Unit):Option eU :=
 some (x.2.1,((0:Int),()))
def qA(x:Unit×(List aN)×Unit):Option ((List aN)×Unit) :=
 some (x.2.1,())
def tW(x:Unit×(List aN)×Unit):Option eU :=
 some (x.2.1,((0:Int),()))
def qB(x:(aN×Unit)×(List aN)×Unit):Option ((List aN)×Unit) :=
 some (x.2.1,())
def zO(y2:(List Sb)×Unit)(y3:gv×Unit):Option ((gv×Unit)⊕(Nat×gv×Unit)) :=
 aq (aX y3.1.2.2.2.2.1 (@len Sb y2.1))
 (aa (@idx Sb y2.1 y3.1.2.2.2.2.1) (fun(y4:List (UInt8))=>aa (uA (y3.1.2.2.2.1,(y4,()))) (fun(y5:Sb×Unit)=>aa (I8 (y3.1.1,(y5.1,()))) (fun(y6:aN×Bool×Unit)=>aq (aq y6.2.1
 (bI y6.1.2.1 (2:Int))
 false)
 (some (Sum.inl ((y3.1.1,(y3.1.2.1,(y3.1.2.2.1,(y5.1,(aD IntKind.i64 y3.1.2.2.2.2.1 (1:Int),()))))),()):((gv×Unit))⊕((Nat×gv×Unit))))
 (aa (Et (y3.1.1,((y5.1,((2:Int),((493:Int),(([]:List (UInt8)),(([]:List (UInt8)),()))))),()))) (fun(y7:(List aN)×Int×Unit)=>aq (nt (bI y7.2.1 (0:Int)))
 (some (Sum.inr ((1:Nat),((y3.1.1,(([]:List aN),(y7.2.1,(y5.1,(y3.1.2.2.2.2.1,()))))),())):((gv×Unit))⊕((Nat×gv×Unit))))
 (some (Sum.inl ((y7.1,(y3.1.2.1,(y3.1.2.2.1,(y5.1,(aD IntKind.i64 y3.1.2.2.2.2.1 (1:Int),()))))),()):((gv×Unit))⊕((Nat×gv×Unit))))))))))
 (some (Sum.inr ((0:Nat),((y3.1.1,(y3.1.2.1,(y3.1.2.2.1,(y3.1.2.2.2.1,(y3.1.2.2.2.2.1,()))))),())):((gv×Unit))⊕((Nat×gv×Unit))))
def tX(x:(aN×Unit)×(List aN)×Unit):Option eU :=
 aa (jf (x.1.1.1,())) (fun(y1:Sb×Sb×Unit)=>aa (gA (y1.1,())) (fun(y2:(List Sb)×Unit)=>aa (Loop (zO y2) ((x.2.1,(([]:List aN),((0:Int),(([]:List (UInt8)),((0:Int),()))))),())) (fun(y3:Nat×gv×Unit)=>aq (eY y3.1 (0:Nat))
 (aa (Et (y3.2.1.1,(x.1.1,()))) (fun(y4:(List aN)×Int×Unit)=>some (y4.1,(y4.2.1,()))))
 (some (y3.2.1.2.1,(y3.2.1.2.2.1,()))))))
def BP(x:bW×Unit):Option (ez×Bool×Unit) :=
 aa (xF (x.1.1.1,())) (fun(y1:Sb×Int×Unit)=>aq (nt (bI y1.2.1 (0:Int)))
 (some ((Sum.inr (Sum.inr (Sum.inr (Sum.inr ():((aN×Unit))⊕(Unit)):(Unit)⊕(((aN×Unit)⊕Unit))):(iR)⊕((Unit⊕((aN×Unit)⊕Unit)))):(iR)⊕(wM)),(false,())))
 (aa (jf (y1.1,())) (fun(y2:Sb×Sb×Unit)=>aa (zE (y2.2.1,())) (fun(y3:Int×Sb×Unit)=>aq (bI y3.1 (1:Int))
 (aa (uA (y2.1,(y3.2.1,()))) (fun(y4:Sb×Unit)=>aa (aq (aq (bI x.1.1.2.1 (1:Int))
 (bX x.1.2.1 ([]:List (UInt8)))
 false)
 (aa (tc (y4.1,())) (fun(y5:Bool×Unit)=>some y5.1))
 (some false)) (fun(y5:Bool)=>some ((Sum.inl (y4.1,()):(iR)⊕(wM)),(y5,())))))
 (aq (bI y3.1 (2:Int))
 (aa (aq (aq (bI x.1.1.2.1 (1:Int))
 (bX x.1.2.1 ([]:List (UInt8)))
 false)
 (aa (tc (y2.1,())) (fun(y4:Bool×Unit)=>some y4.1))
 (some false)) (fun(y4:Bool)=>some ((Sum.inr (Sum.inl (y2.1,()):(iR)⊕((Unit⊕((aN×Unit)⊕Unit)))):(iR)⊕(wM)),(y4,()))))
 (aq (bI y3.1 (3:Int))
 (some ((Sum.inr (Sum.inr (Sum.inr (Sum.inr ():((aN×Unit))⊕(Unit)):(Unit)⊕(((aN×Unit)⊕Unit))):(iR)⊕((Unit⊕((aN×Unit)⊕Unit)))):(iR)⊕(wM)),(false,())))
 (aq (aq (bX y1.1 ([]:List (UInt8)))
 (bI x.1.1.2.1 (2:Int))
 false)
 (some ((Sum.inr (Sum.inr (Sum.inl ():(Unit)⊕(((aN×Unit)⊕Unit))):(iR)⊕((Unit⊕((aN×Unit)⊕Unit)))):(iR)⊕(wM)),(true,())))
 (aa (qV ((y1.1,(x.1.1.2.1,(x.1.1.2.2.1,(x.1.2.1,(x.1.1.2.2.2.2.2.2.2.1,()))))),())) (fun(y4:Bool×Unit)=>some ((Sum.inr (Sum.inr (Sum.inr (Sum.inl ((y1.1,(x.1.1.2.1,(x.1.1.2.2.1,(x.1.2.1,(x.1.1.2.2.2.2.2.2.2.1,()))))),()):((aN×Unit))⊕(Unit)):(Unit)⊕(((aN×Unit)⊕Unit))):(iR)⊕((Unit⊕((aN×Unit)⊕Unit)))):(iR)⊕(wM)),(y4.1,())))))))))))
def Ev(x:(List bW)×Unit)(y1:rT×(List ez)×Unit):Option ((rT×(List ez)×Unit)⊕(Nat×rT×(List ez)×Unit)) :=
 aq (aX y1.1.2.2.2.1 (@len bW x.1))
 (aa (@idx bW x.1 y1.1.2.2.2.1) (fun(y2:BO×Sb×Unit)=>aa (BP (y2,())) (fun(y3:ez×Bool×Unit)=>aq (nt y3.2.1)
 (some (Sum.inr ((1:Nat),((([]:List ez),(false,((),(y1.1.2.2.2.1,())))),(y1.2.1,()))):((rT×(List ez)×Unit))⊕((Nat×rT×(List ez)×Unit))))
 (aq (fits (plus (@len ez y1.2.1) (@len ez ([y3.1]:List ez))))
 (some (Sum.inl ((y1.1.1,(y1.1.2.1,((),(aD IntKind.i64 y1.1.2.2.2.1 (1:Int),())))),(@app ez y1.2.1 ([y3.1]:List ez),())):((rT×(List ez)×Unit))⊕((Nat×rT×(List ez)×Unit))))
 none))))
 (some (Sum.inr ((0:Nat),((y1.1.1,(y1.1.2.1,((),(y1.1.2.2.2.1,())))),(y1.2.1,()))):((rT×(List ez)×Unit))⊕((Nat×rT×(List ez)×Unit))))
def td(x:(List bW)×Unit):Option ((List ez)×Bool×Unit) :=
 aa (Loop (Ev x) ((([]:List ez),(false,((),((0:Int),())))),(([]:List ez),()))) (fun(y1:Nat×rT×(List ez)×Unit)=>aq (eY y1.1 (0:Nat))
 (some (y1.2.2.1,(true,())))
 (some (y1.2.1.1,(y1.2.1.2.1,()))))
def zP(x:((((List UInt8)×Unit)⊕(((List UInt8)×Unit)⊕(Unit⊕((CE×Unit)⊕Unit))))×((List CE)×Unit))):Option ((List CE)×Unit) :=
 (fun z=>pick (fun y=>qy (y,x.2)) (fun z=>pick (fun y=>oR (y,x.2)) (fun z=>pick (fun y=>qA (y,x.2)) (fun z=>pick (fun y=>qB (y,x.2)) (fun _=>none) z) z) z) z) x.1
def Ew(x:((((List UInt8)×Unit)⊕(((List UInt8)×Unit)⊕(Unit⊕((CE×Unit)⊕Unit))))×((List CE)×Unit))):Option ((List CE)×(Int×Unit)) :=
 (fun z=>pick (fun y=>tV (y,x.2)) (fun z=>pick (fun y=>qz (y,x.2)) (fun z=>pick (fun y=>tW (y,x.2)) (fun z=>pick (fun y=>tX (y,x.2)) (fun _=>none) z) z) z) z) x.1
def HX(y2:(List ez)×Bool×Unit)(y3:eU×Unit):Option ((eU×Unit)⊕(eU×Unit)) :=
 @cM (eU×Unit) (aq (aX y3.1.2.1 (@len ez y2.1))
 (aa (@idx ez y2.1 y3.1.2.1) (fun(y4:iR⊕wM)=>aa (zP (y4,(y3.1.1,()))) (fun(y5:(List aN)×Unit)=>some (Sum.inl ((y5.1,(aD IntKind.i64 y3.1.2.1 (1:Int),())),()):((eU×Unit))⊕((Nat×eU×Unit))))))
 (some (Sum.inr ((0:Nat),((y3.1.1,(y3.1.2.1,())),())):((eU×Unit))⊕((Nat×eU×Unit)))))
def HY(y2:(List ez)×Bool×Unit)(y4:jL×Unit):Option ((jL×Unit)⊕(Nat×jL×Unit)) :=
 aq (aX y4.1.2.2.2.1 (@len ez y2.1))
 (aa (@idx ez y2.1 y4.1.2.2.2.1) (fun(y5:iR⊕wM)=>aa (Ew (y5,(y4.1.2.2.1,()))) (fun(y6:(List aN)×Int×Unit)=>aq (nt (bI y6.2.1 (0:Int)))
 (some (Sum.inr ((1:Nat),((([]:List aN),(y6.2.1,(y4.1.2.2.1,(y4.1.2.2.2.1,())))),())):((jL×Unit))⊕((Nat×jL×Unit))))
 (some (Sum.inl ((y4.1.1,(y4.1.2.1,(y6.1,(aD IntKind.i64 y4.1.2.2.2.1 (1:Int),())))),()):((jL×Unit))⊕((Nat×jL×Unit)))))))
 (some (Sum.inr ((0:Nat),((y4.1.1,(y4.1.2.1,(y4.1.2.2.1,(y4.1.2.2.2.1,())))),())):((jL×Unit))⊕((Nat×jL×Unit))))
def Dj(x:(List aN)×(List bW)×Unit):Option eU :=
 aa (gu (x.1,())) (fun(y1:Int×Unit)=>aq (nt (bI y1.1 (0:Int)))
 (some (([]:List aN),((1:Int),())))
 (aa (td (x.2.1,())) (fun(y2:(List ez)×Bool×Unit)=>aq (nt y2.2.1)
 (some (([]:List aN),((10:Int),())))
 (aq (fits (plus (@len aN ([]:List aN)) (@len aN x.1)))
 (aa (Loop (HX y2) ((@app aN ([]:List aN) x.1,((0:Int),())),())) (fun(y3:eU×Unit)=>aa (Loop (HY y2) ((([]:List aN),((0:Int),(y3.1.1,((0:Int),())))),())) (fun(y4:Nat×jL×Unit)=>aq (eY y4.1 (0:Nat))
 (some (y4.2.1.2.2.1,((0:Int),())))
 (some (y4.2.1.1,(y4.2.1.2.1,()))))))
 none))))
def Aw(x:Sb×Unit):Option (Int×Unit) :=
 aa (zC (x.1,())) (fun(y1:(List bW)×Int×Unit)=>aa (td (y1.1,())) (fun(y2:(List ez)×Bool×Unit)=>aq (aq (nt (nt (bI y1.2.1 (0:Int))))
 (nt y2.2.1)
 true)
 (some ((10:Int),()))
 (some ((0:Int),()))))
def zQ(x:bW×Sb×Unit):Option (aN×Unit) :=
 some ((x.2.1,(x.1.1.2.1,(x.1.1.2.2.1,(x.1.2.1,(x.1.1.2.2.2.2.2.2.2.1,()))))),())
def FO(y1:(List Sb)×Unit)(y2:rU×Unit):Option ((rU×Unit)⊕(Nat×rU×Unit)) :=
 aq (aX y2.1.2.2.1 (@len Sb y1.1))
 (aa (@idx Sb y1.1 y2.1.2.2.1) (fun(y3:List (UInt8))=>aa (uB (y2.1.2.1,(y3,()))) (fun(y4:Sb×Unit)=>aa (sH ((y4.1,((2:Int),((0:Int),(([]:List (UInt8)),(([]:List (UInt8)),()))))),())) (fun(y5:Bool×Unit)=>aq (nt y5.1)
 (some (Sum.inr ((1:Nat),((false,(y4.1,(y2.1.2.2.1,()))),())):((rU×Unit))⊕((Nat×rU×Unit))))
 (some (Sum.inl ((y2.1.1,(y4.1,(aD IntKind.i64 y2.1.2.2.1 (1:Int),()))),()):((rU×Unit))⊕((Nat×rU×Unit))))))))
 (some (Sum.inr ((0:Nat),((y2.1.1,(y2.1.2.1,(y2.1.2.2.1,()))),())):((rU×Unit))⊕((Nat×rU×Unit))))
def pW(x:Sb×Unit):Option (Bool×Unit) :=
 aa (eD (x.1,())) (fun(y1:(List Sb)×Unit)=>aa (Loop (FO y1) ((false,(([]:List (UInt8)),((0:Int),()))),())) (fun(y2:Nat×rU×Unit)=>aq (eY y2.1 (0:Nat))
 (some (nt (bX x.1 ([]:List (UInt8))),()))
 (some (y2.2.1.1,()))))
def uH(x:bW×Unit):Option (Int×Sb×Bool×Unit) :=
 aa (Da (x.1.1.1,())) (fun(y1:Sb×Int×Unit)=>aq (nt (bI y1.2.1 (0:Int)))
 (some ((0:Int),(([]:List (UInt8)),(false,()))))
 (aa (nB (y1.1,())) (fun(y2:Sb×Sb×Unit)=>aa (zG (y2.2.1,())) (fun(y3:Int×Sb×Unit)=>aq (bI y3.1 (1:Int))
 (aa (uB (y2.1,(y3.2.1,()))) (fun(y4:Sb×Unit)=>aa (aq (aq (bI x.1.1.2.1 (1:Int))
 (bX x.1.2.1 ([]:List (UInt8)))
 false)
 (aa (pW (y4.1,())) (fun(y5:Bool×Unit)=>some y5.1))
 (some false)) (fun(y5:Bool)=>some (y3.1,(y4.1,(y5,()))))))
 (aq (bI y3.1 (2:Int))
 (aa (aq (aq (bI x.1.1.2.1 (1:Int))
 (bX x.1.2.1 ([]:List (UInt8)))
 false)
 (aa (aq (nt (bX y2.1 ([]:List (UInt8))))
 (aa (pW (y2.1,())) (fun(y4:Bool×Unit)=>some y4.1))
 (some true)) (fun(y4:Bool)=>some y4))
 (some false)) (fun(y4:Bool)=>some (y3.1,(y2.1,(y4,())))))
 (aq (bI y3.1 (0:Int))
 (aa (aq (nt (aq (bX y1.1 ([]:List (UInt8)))
 (bI x.1.1.2.1 (2:Int))
 false))
 (aa (zQ (x.1,(y1.1,()))) (fun(y4:aN×Unit)=>aa (sH (y4.1,())) (fun(y5:Bool×Unit)=>aa (aq y5.1
 (aa (pW (y1.1,())) (fun(y6:Bool×Unit)=>some y6.1))
 (some false)) (fun(y6:Bool)=>some y6))))
 (some true)) (fun(y4:Bool)=>some (y3.1,(y1.1,(y4,())))))
 (some ((0:Int),(([]:List (UInt8)),(false,()))))))))))
def HZ(x:(List bW)×Unit)(y1:BN×Unit):Option (n7⊕n6) :=
 aq (aX y1.1.2.1 (@len bW x.1))
 (aa (@idx bW x.1 y1.1.2.1) (fun(y2:BO×Sb×Unit)=>aa (uH (y2,())) (fun(y3:Int×Sb×Bool×Unit)=>aq (nt y3.2.2.1)
 (some (Sum.inr ((1:Nat),((false,(y1.1.2.1,())),())):(n7)⊕(n6)))
 (some (Sum.inl ((y1.1.1,(aD IntKind.i64 y1.1.2.1 (1:Int),())),()):(n7)⊕(n6))))))
 (some (Sum.inr ((0:Nat),((y1.1.1,(y1.1.2.1,())),())):(n7)⊕(n6)))
def xI(x:(List bW)×Unit):Option (Bool×Unit) :=
 aa (Loop (HZ x) ((false,((0:Int),())),())) (fun(y1:Nat×BN×Unit)=>aq (eY y1.1 (0:Nat))
 (some (true,()))
 (some (y1.2.1.1,())))
def Ke(y1:(List Sb)×Unit)(y2:gv×Unit):Option ((gv×Unit)⊕(Nat×gv×Unit)) :=
 aq (aX (aD IntKind.i64 y2.1.2.2.2.2.1 (1:Int)) (@len Sb y1.1))
 (aa (@idx Sb y1.1 y2.1.2.2.2.2.1) (fun(y3:List (UInt8))=>aa (uB (y2.1.2.2.2.1,(y3,()))) (fun(y4:Sb×Unit)=>aa (FM (y2.1.1,(y4.1,()))) (fun(y5:aN×Bool×Unit)=>aq (aq y5.2.1
 (bI y5.1.2.1 (2:Int))
 false)
 (some (Sum.inl ((y2.1.1,(y2.1.2.1,(y2.1.2.2.1,(y4.1,(aD IntKind.i64 y2.1.2.2.2.2.1 (1:Int),()))))),()):((gv×Unit))⊕((Nat×gv×Unit))))
 (aa (BL (y2.1.1,((y4.1,((2:Int),((493:Int),(([]:List (UInt8)),(([]:List (UInt8)),()))))),()))) (fun(y6:(List aN)×Int×Unit)=>aq (nt (bI y6.2.1 (0:Int)))
 (some (Sum.inr ((1:Nat),((y2.1.1,(([]:List aN),(y6.2.1,(y4.1,(y2.1.2.2.2.2.1,()))))),())):((gv×Unit))⊕((Nat×gv×Unit))))
 (some (Sum.inl ((y6.1,(y2.1.2.1,(y2.1.2.2.1,(y4.1,(aD IntKind.i64 y2.1.2.2.2.2.1 (1:Int),()))))),()):((gv×Unit))⊕((Nat×gv×Unit))))))))))
 (some (Sum.inr ((0:Nat),((y2.1.1,(y2.1.2.1,(y2.1.2.2.1,(y2.1.2.2.2.1,(y2.1.2.2.2.2.1,()))))),())):((gv×Unit))⊕((Nat×gv×Unit))))
def FP(x:(List aN)×Sb×Unit):Option eU :=
 aa (eD (x.2.1,())) (fun(y1:(List Sb)×Unit)=>aa (Loop (Ke y1) ((x.1,(([]:List aN),((0:Int),(([]:List (UInt8)),((0:Int),()))))),())) (fun(y2:Nat×gv×Unit)=>aq (eY y2.1 (0:Nat))
 (some (y2.2.1.1,((0:Int),())))
 (some (y2.2.1.2.1,(y2.2.1.2.2.1,())))))
def MH(x:(List aN)×(List bW)×Unit)(y3:eU×Unit):Option ((eU×Unit)⊕(eU×Unit)) :=
 @cM (eU×Unit) (aq (aX y3.1.2.1 (@len bW x.2.1))
 (aa (@idx bW x.2.1 y3.1.2.1) (fun(y4:BO×Sb×Unit)=>aa (uH (y4,())) (fun(y5:Int×Sb×Bool×Unit)=>aa (aq (bI y5.1 (1:Int))
 (aa (BM (y3.1.1,(y5.2.1,()))) (fun(y6:(List aN)×Unit)=>some ((y6.1,()),())))
 (aa (aq (bI y5.1 (2:Int))
 (aa (Di (y3.1.1,(y5.2.1,()))) (fun(y6:(List aN)×Unit)=>some ((y6.1,()),())))
 (some ((y3.1.1,()),()))) (fun(y6:((List aN)×Unit)×Unit)=>some ((y6.1.1,()),())))) (fun(y6:((List aN)×Unit)×Unit)=>some (Sum.inl ((y6.1.1,(aD IntKind.i64 y3.1.2.1 (1:Int),())),()):((eU×Unit))⊕((Nat×eU×Unit)))))))
 (some (Sum.inr ((0:Nat),((y3.1.1,(y3.1.2.1,())),())):((eU×Unit))⊕((Nat×eU×Unit)))))
def MI(x:(List aN)×(List bW)×Unit)(y4:pV×Unit):Option ((pV×Unit)⊕(Nat×pV×Unit)) :=
 aq (aX y4.1.2.2.2.1 (@len bW x.2.1))
 (aa (@idx bW x.2.1 y4.1.2.2.2.1) (fun(y5:BO×Sb×Unit)=>aa (uH (y5,())) (fun(y6:Int×Sb×Bool×Unit)=>aq (aq (nt (nt (bI y6.1 (0:Int))))
 (bX y6.2.1 ([]:List (UInt8)))
 true)
 (some (Sum.inl ((y4.1.1,(y4.1.2.1,(y4.1.2.2.1,(aD IntKind.i64 y4.1.2.2.2.1 (1:Int),())))),()):((pV×Unit))⊕((Nat×pV×Unit))))
 (aa (FP (y4.1.1,(y6.2.1,()))) (fun(y7:(List aN)×Int×Unit)=>aq (nt (bI y7.2.1 (0:Int)))
 (some (Sum.inr ((1:Nat),((y4.1.1,(([]:List aN),(y7.2.1,(y4.1.2.2.2.1,())))),())):((pV×Unit))⊕((Nat×pV×Unit))))
 (aa (@idx bW x.2.1 y4.1.2.2.2.1) (fun(y8:BO×Sb×Unit)=>aa (zQ (y8,(y6.2.1,()))) (fun(y9:aN×Unit)=>aa (BL (y7.1,(y9.1,()))) (fun(qv:(List aN)×Int×Unit)=>aq (nt (bI qv.2.1 (0:Int)))
 (some (Sum.inr ((1:Nat),((y4.1.1,(([]:List aN),(qv.2.1,(y4.1.2.2.2.1,())))),())):((pV×Unit))⊕((Nat×pV×Unit))))
 (some (Sum.inl ((qv.1,(y4.1.2.1,(y4.1.2.2.1,(aD IntKind.i64 y4.1.2.2.2.1 (1:Int),())))),()):((pV×Unit))⊕((Nat×pV×Unit)))))))))))))
 (some (Sum.inr ((0:Nat),((y4.1.1,(y4.1.2.1,(y4.1.2.2.1,(y4.1.2.2.2.1,())))),())):((pV×Unit))⊕((Nat×pV×Unit))))
def Jd(x:(List aN)×(List bW)×Unit):Option eU :=
 aa (oC (x.1,())) (fun(y1:Bool×Unit)=>aq (nt y1.1)
 (some (([]:List aN),((1:Int),())))
 (aa (xI (x.2.1,())) (fun(y2:Bool×Unit)=>aq (nt y2.1)
 (some (([]:List aN),((10:Int),())))
 (aa (Loop (MH x) ((x.1,((0:Int),())),())) (fun(y3:eU×Unit)=>aa (Loop (MI x) ((y3.1.1,(([]:List aN),((0:Int),((0:Int),())))),())) (fun(y4:Nat×pV×Unit)=>aq (eY y4.1 (0:Nat))
 (some (y4.2.1.1,((0:Int),())))
 (some (y4.2.1.2.1,(y4.2.1.2.2.1,())))))))))
def tf(x:(List aN)×Sb×Unit):Option eU :=
 aa (zC (x.2.1,())) (fun(y1:(List bW)×Int×Unit)=>aa (aq (nt (bI y1.2.1 (0:Int)))
 (aa (gu (x.1,())) (fun(y2:Int×Unit)=>some (bI y2.1 (0:Int))))
 (some false)) (fun(y2:Bool)=>aq y2
 (some (([]:List aN),((10:Int),())))
 (aa (Dj (x.1,(y1.1,()))) (fun(y3:(List aN)×Int×Unit)=>some (y3.1,(y3.2.1,()))))))
def Kf(x:Sb×Unit)(y1:BN×Unit):Option (n7⊕n6) :=
 aq (aX y1.1.2.1 (@len UInt8 x.1))
 (aa (@idx UInt8 x.1 y1.1.2.1) (fun(y2:UInt8)=>aq (nt (bI (u8 y2) (0:Int)))
 (some (Sum.inr ((1:Nat),((false,(y1.1.2.1,())),())):(n7)⊕(n6)))
 (some (Sum.inl ((y1.1.1,(aD IntKind.i64 y1.1.2.1 (1:Int),())),()):(n7)⊕(n6)))))
 (some (Sum.inr ((0:Nat),((y1.1.1,(y1.1.2.1,())),())):(n7)⊕(n6)))
def FQ(x:Sb×Unit):Option (Bool×Unit) :=
 aa (Loop (Kf x) ((false,((0:Int),())),())) (fun(y1:Nat×BN×Unit)=>aq (eY y1.1 (0:Nat))
 (some (bI (@len UInt8 x.1) (512:Int),()))
 (some (y1.2.1.1,())))
def Kg(x:Sb×Unit)(y2:BN×Unit):Option (n7⊕n6) :=
 aq (aX y2.1.2.1 (@len UInt8 x.1))
 (aa (@idx UInt8 x.1 y2.1.2.1) (fun(y3:UInt8)=>aq (nt (bI (u8 y3) (0:Int)))
 (some (Sum.inr ((1:Nat),((false,(y2.1.2.1,())),())):(n7)⊕(n6)))
 (some (Sum.inl ((y2.1.1,(aD IntKind.i64 y2.1.2.1 (1:Int),())),()):(n7)⊕(n6)))))
 (some (Sum.inr ((0:Nat),((y2.1.1,(y2.1.2.1,())),())):(n7)⊕(n6)))
def FR(x:Sb×Unit):Option (Bool×Unit) :=
 aa (aq (nt (aX (@len UInt8 x.1) (1024:Int)))
 (aq (bI (512:Int) (0:Int))
 none
 (some (nt (bI (fR (@len UInt8 x.1) (512:Int)) (0:Int)))))
 (some true)) (fun(y1:Bool)=>aq y1
 (some (false,()))
 (aa (Loop (Kg x) ((false,((0:Int),())),())) (fun(y2:Nat×BN×Unit)=>aq (eY y2.1 (0:Nat))
 (some (true,()))
 (some (y2.2.1.1,())))))
def FT(x:Sb×Unit)(y1:(Int×Unit)×Unit):Option (((Int×Unit)×Unit)⊕((Int×Unit)×Unit)) :=
 @cM ((Int×Unit)×Unit) (aa (aq (aX y1.1.1 (@len UInt8 x.1))
 (aa (@idx UInt8 x.1 y1.1.1) (fun(y2:UInt8)=>some (cK (48:Int) (u8 y2))))
 (some false)) (fun(y2:Bool)=>aa (aq y2
 (aa (@idx UInt8 x.1 y1.1.1) (fun(y3:UInt8)=>some (cK (u8 y3) (55:Int))))
 (some false)) (fun(y3:Bool)=>aq y3
 (some (Sum.inl ((aD IntKind.i64 y1.1.1 (1:Int),()),()):(((Int×Unit)×Unit))⊕((Nat×(Int×Unit)×Unit))))
 (some (Sum.inr ((0:Nat),((y1.1.1,()),())):(((Int×Unit)×Unit))⊕((Nat×(Int×Unit)×Unit)))))))
def FU(x:Sb×Unit)(y2:(Int×Int×Unit)×Unit):Option (((Int×Int×Unit)×Unit)⊕(Nat×(Int×Int×Unit)×Unit)) :=
 aq (aX y2.1.2.1 (@len UInt8 x.1))
 (aa (@idx UInt8 x.1 y2.1.2.1) (fun(y3:UInt8)=>aa (aq (nt (bI (u8 y3) (0:Int)))
 (aa (@idx UInt8 x.1 y2.1.2.1) (fun(y4:UInt8)=>some (nt (bI (u8 y4) (32:Int)))))
 (some false)) (fun(y4:Bool)=>aq y4
 (some (Sum.inr ((1:Nat),(((-1:Int),(y2.1.2.1,())),())):(((Int×Int×Unit)×Unit))⊕((Nat×(Int×Int×Unit)×Unit))))
 (some (Sum.inl ((y2.1.1,(aD IntKind.i64 y2.1.2.1 (1:Int),())),()):(((Int×Int×Unit)×Unit))⊕((Nat×(Int×Int×Unit)×Unit)))))))
 (some (Sum.inr ((0:Nat),((y2.1.1,(y2.1.2.1,())),())):(((Int×Int×Unit)×Unit))⊕((Nat×(Int×Int×Unit)×Unit))))
def gP(x:Sb×Unit):Option (Int×Unit) :=
 aa (Loop (FT x) (((0:Int),()),())) (fun(y1:(Int×Unit)×Unit)=>aq (bI y1.1.1 (@len UInt8 x.1))
 (some ((-1:Int),()))
 (aa (Loop (FU x) (((0:Int),(y1.1.1,())),())) (fun(y2:Nat×(Int×Int×Unit)×Unit)=>aq (eY y2.1 (0:Nat))
 (aq (inside (0:Int) y1.1.1 (@len UInt8 x.1))
 (aa (wD (@sub UInt8 x.1 (0:Int) (minus y1.1.1 (0:Int)),())) (fun(y3:Int×Bool×Unit)=>aq (nt y3.2.1)
 (some ((-1:Int),()))
 (some (y3.1,()))))
 none)
 (some (y2.2.1.1,())))))
def Kh(x:Sb×Unit)(y3:iu×Unit):Option ((iu×Unit)⊕(Nat×iu×Unit)) :=
 aq (aX y3.1.2.2.1 (@len UInt8 x.1))
 (aa (@idx UInt8 x.1 y3.1.2.2.1) (fun(y4:UInt8)=>aq (nt (bI (u8 y4) (0:Int)))
 (some (Sum.inr ((1:Nat),((([]:List (UInt8)),(false,(y3.1.2.2.1,()))),())):((iu×Unit))⊕((Nat×iu×Unit))))
 (some (Sum.inl ((y3.1.1,(y3.1.2.1,(aD IntKind.i64 y3.1.2.2.1 (1:Int),()))),()):((iu×Unit))⊕((Nat×iu×Unit))))))
 (some (Sum.inr ((0:Nat),((y3.1.1,(y3.1.2.1,(y3.1.2.2.1,()))),())):((iu×Unit))⊕((Nat×iu×Unit))))
def Ki(x:Sb×Unit)(y1:iu×Unit):Option ((iu×Unit)⊕(Nat×iu×Unit)) :=
 aq (aX y1.1.2.2.1 (@len UInt8 x.1))
 (aa (@idx UInt8 x.1 y1.1.2.2.1) (fun(y2:UInt8)=>aq (bI (u8 y2) (0:Int))
 (aa (Loop (Kh x) ((y1.1.1,(y1.1.2.1,(y1.1.2.2.1,()))),())) (fun(y3:Nat×iu×Unit)=>aq (eY y3.1 (0:Nat))
 (aq (inside (0:Int) y1.1.2.2.1 (@len UInt8 x.1))
 (some (Sum.inr ((1:Nat),((@sub UInt8 x.1 (0:Int) (minus y1.1.2.2.1 (0:Int)),(true,(y1.1.2.2.1,()))),())):((iu×Unit))⊕((Nat×iu×Unit))))
 none)
 (some (Sum.inr ((1:Nat),((y3.2.1.1,(y3.2.1.2.1,(y1.1.2.2.1,()))),())):((iu×Unit))⊕((Nat×iu×Unit))))))
 (some (Sum.inl ((y1.1.1,(y1.1.2.1,(aD IntKind.i64 y1.1.2.2.1 (1:Int),()))),()):((iu×Unit))⊕((Nat×iu×Unit))))))
 (some (Sum.inr ((0:Nat),((y1.1.1,(y1.1.2.1,(y1.1.2.2.1,()))),())):((iu×Unit))⊕((Nat×iu×Unit))))
def uI(x:Sb×Unit):Option (Sb×Bool×Unit) :=
 aa (Loop (Ki x) ((([]:List (UInt8)),(false,((0:Int),()))),())) (fun(y1:Nat×iu×Unit)=>aq (eY y1.1 (0:Nat))
 (some (x.1,(true,())))
 (some (y1.2.1.1,(y1.2.1.2.1,()))))
def FV(x:Sb×Unit):Option (BO×Int×Unit) :=
 aa (aq (nt (nt (bI (@len UInt8 x.1) (512:Int))))
 (aq (inside (257:Int) (265:Int) (@len UInt8 x.1))
 (some (nt (bX (@sub UInt8 x.1 (257:Int) (minus (265:Int) (257:Int))) ([(117:UInt8),(115:UInt8),(116:UInt8),(97:UInt8),(114:UInt8),(0:UInt8),(48:UInt8),(48:UInt8)]:List (UInt8)))))
 none)
 (some true)) (fun(y1:Bool)=>aa (aq (nt y1)
 (aq (inside (148:Int) (156:Int) (@len UInt8 x.1))
 (aa (gP (@sub UInt8 x.1 (148:Int) (minus (156:Int) (148:Int)),())) (fun(y2:Int×Unit)=>aa (I6 (x.1,())) (fun(y3:Int×Unit)=>some (nt (bI y2.1 y3.1)))))
 none)
 (some true)) (fun(y2:Bool)=>aq y2
 (some ((([]:List (UInt8)),((0:Int),((0:Int),((0:Int),((0:Int),((0:Int),((0:Int),(([]:List (UInt8)),())))))))),((2:Int),())))
 (aq (inside (0:Int) (100:Int) (@len UInt8 x.1))
 (aa (uI (@sub UInt8 x.1 (0:Int) (minus (100:Int) (0:Int)),())) (fun(y3:Sb×Bool×Unit)=>aq (inside (157:Int) (257:Int) (@len UInt8 x.1))
 (aa (uI (@sub UInt8 x.1 (157:Int) (minus (257:Int) (157:Int)),())) (fun(y4:Sb×Bool×Unit)=>aq (inside (345:Int) (500:Int) (@len UInt8 x.1))
 (aa (uI (@sub UInt8 x.1 (345:Int) (minus (500:Int) (345:Int)),())) (fun(y5:Sb×Bool×Unit)=>aq (inside (100:Int) (108:Int) (@len UInt8 x.1))
 (aa (gP (@sub UInt8 x.1 (100:Int) (minus (108:Int) (100:Int)),())) (fun(y6:Int×Unit)=>aq (inside (108:Int) (116:Int) (@len UInt8 x.1))
 (aa (gP (@sub UInt8 x.1 (108:Int) (minus (116:Int) (108:Int)),())) (fun(y7:Int×Unit)=>aq (inside (116:Int) (124:Int) (@len UInt8 x.1))
 (aa (gP (@sub UInt8 x.1 (116:Int) (minus (124:Int) (116:Int)),())) (fun(y8:Int×Unit)=>aq (inside (124:Int) (136:Int) (@len UInt8 x.1))
 (aa (gP (@sub UInt8 x.1 (124:Int) (minus (136:Int) (124:Int)),())) (fun(y9:Int×Unit)=>aq (inside (136:Int) (148:Int) (@len UInt8 x.1))
 (aa (gP (@sub UInt8 x.1 (136:Int) (minus (148:Int) (136:Int)),())) (fun(qv:Int×Unit)=>aa (aq (nt (bX y5.1 ([]:List (UInt8))))
 (aq (fits (plus (@len UInt8 y5.1) (@len UInt8 ([(47:UInt8)]:List (UInt8)))))
 (aq (fits (plus (@len UInt8 (@app UInt8 y5.1 ([(47:UInt8)]:List (UInt8)))) (@len UInt8 y3.1)))
 (some ((),((@app UInt8 (@app UInt8 y5.1 ([(47:UInt8)]:List (UInt8))) y3.1,((0:Int),(y6.1,(y7.1,(y8.1,(y9.1,(qv.1,(([]:List (UInt8)),())))))))),())))
 none)
 none)
 (some ((),((y3.1,((0:Int),(y6.1,(y7.1,(y8.1,(y9.1,(qv.1,(([]:List (UInt8)),())))))))),())))) (fun(nR:Unit×BO×Unit)=>aa (@idx UInt8 x.1 (156:Int)) (fun(jq:UInt8)=>aa (aq (nt (aq (nt (aq (nt (nt y3.2.1))
 (nt y4.2.1)
 true))
 (nt y5.2.1)
 true))
 (aa (I5 (((aq (((aq (bI (u8 jq) (48:Int))
 ((bI (u8 jq) (48:Int),()),())
 ((bI (u8 jq) (0:Int),()),())).1).1)
 ((),((nR.2.1.1,((1:Int),nR.2.1.2.2)),()))
 ((),(((aq (bI (u8 jq) (53:Int))
 ((),((nR.2.1.1,((2:Int),nR.2.1.2.2)),()))
 ((),(((aq (bI (u8 jq) (50:Int))
 ((),((nR.2.1.1,((3:Int),(nR.2.1.2.2.1,(nR.2.1.2.2.2.1,(nR.2.1.2.2.2.2.1,(nR.2.1.2.2.2.2.2.1,(nR.2.1.2.2.2.2.2.2.1,(y4.1,nR.2.1.2.2.2.2.2.2.2.2)))))))),()))
 ((),(nR.2.1,()))).2).1,()))).2).1,()))).2).1,((256:Int),()))) (fun(gq:Bool×Unit)=>some (nt gq.1)))
 (some true)) (fun(gq:Bool)=>aq gq
 (some ((([]:List (UInt8)),((0:Int),((0:Int),((0:Int),((0:Int),((0:Int),((0:Int),(([]:List (UInt8)),())))))))),((2:Int),())))
 (some (((aq (((aq (bI (u8 jq) (48:Int))
 ((bI (u8 jq) (48:Int),()),())
 ((bI (u8 jq) (0:Int),()),())).1).1)
 ((),((nR.2.1.1,((1:Int),nR.2.1.2.2)),()))
 ((),(((aq (bI (u8 jq) (53:Int))
 ((),((nR.2.1.1,((2:Int),nR.2.1.2.2)),()))
 ((),(((aq (bI (u8 jq) (50:Int))
 ((),((nR.2.1.1,((3:Int),(nR.2.1.2.2.1,(nR.2.1.2.2.2.1,(nR.2.1.2.2.2.2.1,(nR.2.1.2.2.2.2.2.1,(nR.2.1.2.2.2.2.2.2.1,(y4.1,nR.2.1.2.2.2.2.2.2.2.2)))))))),()))
 ((),(nR.2.1,()))).2).1,()))).2).1,()))).2).1,((0:Int),()))))))))
 none))
 none))
 none))
 none))
 none))
 none))
 none))
 none)))
def H6(y1:nZ×(List bW)×Unit):Option ((nZ×(List bW)×Unit)⊕(Nat×nZ×(List bW)×Unit)) :=
 aq (cK (512:Int) (@len UInt8 y1.1.1))
 (aq (inside (0:Int) (512:Int) (@len UInt8 y1.1.1))
 (aa (FQ (@sub UInt8 y1.1.1 (0:Int) (minus (512:Int) (0:Int)),())) (fun(y2:Bool×Unit)=>aq y2.1
 (aa (FR (y1.1.1,())) (fun(y3:Bool×Unit)=>some (Sum.inr ((1:Nat),((y1.1.1,(y1.2.1,(y3.1,((),())))),(y1.2.1,()))):((nZ×(List bW)×Unit))⊕((Nat×nZ×(List bW)×Unit)))))
 (aq (inside (0:Int) (512:Int) (@len UInt8 y1.1.1))
 (aa (FV (@sub UInt8 y1.1.1 (0:Int) (minus (512:Int) (0:Int)),())) (fun(y3:BO×Int×Unit)=>aa (aq (nt (aq (nt (nt (bI y3.2.1 (0:Int))))
 (aX (8192:Int) y3.1.2.2.2.2.2.1)
 true))
 (aa (xE (y3.1.2.2.2.2.2.1,())) (fun(y4:Int×Unit)=>some (aX (@len UInt8 y1.1.1) (aD IntKind.i64 (512:Int) y4.1))))
 (some true)) (fun(y4:Bool)=>aq (aq (nt y4)
 (cK (64:Int) (@len bW y1.2.1))
 true)
 (some (Sum.inr ((1:Nat),((y1.1.1,(y1.2.1,(false,((),())))),(y1.2.1,()))):((nZ×(List bW)×Unit))⊕((Nat×nZ×(List bW)×Unit))))
 (aq (inside (512:Int) (aD IntKind.i64 (512:Int) y3.1.2.2.2.2.2.1) (@len UInt8 y1.1.1))
 (aq (fits (plus (@len bW y1.2.1) (@len bW ([(y3.1,(@sub UInt8 y1.1.1 (512:Int) (minus (aD IntKind.i64 (512:Int) y3.1.2.2.2.2.2.1) (512:Int)),()))]:List bW))))
 (aa (xE (y3.1.2.2.2.2.2.1,())) (fun(y5:Int×Unit)=>aq (inside (aD IntKind.i64 (512:Int) y5.1) (@len UInt8 y1.1.1) (@len UInt8 y1.1.1))
 (some (Sum.inl ((@sub UInt8 y1.1.1 (aD IntKind.i64 (512:Int) y5.1) (minus (@len UInt8 y1.1.1) (aD IntKind.i64 (512:Int) y5.1)),(y1.1.2.1,(y1.1.2.2.1,((),())))),(@app bW y1.2.1 ([(y3.1,(@sub UInt8 y1.1.1 (512:Int) (minus (aD IntKind.i64 (512:Int) y3.1.2.2.2.2.2.1) (512:Int)),()))]:List bW),())):((nZ×(List bW)×Unit))⊕((Nat×nZ×(List bW)×Unit))))
 none))
 none)
 none))))
 none)))
 none)
 (some (Sum.inr ((0:Nat),((y1.1.1,(y1.1.2.1,(y1.1.2.2.1,((),())))),(y1.2.1,()))):((nZ×(List bW)×Unit))⊕((Nat×nZ×(List bW)×Unit))))
def Dk(x:Sb×Unit):Option ((List bW)×Bool×Unit) :=
 aq (aX (8192:Int) (@len UInt8 x.1))
 (some (([]:List bW),(false,())))
 (aa (Loop (H6) ((x.1,(([]:List bW),(false,((),())))),(([]:List bW),()))) (fun(y1:Nat×nZ×(List bW)×Unit)=>aq (eY y1.1 (0:Nat))
 (some (y1.2.2.1,(false,())))
 (some (y1.2.1.2.1,(y1.2.1.2.2.1,())))))
def zR(x:Sb×Unit):Option ((List bW)×Int×Unit) :=
 aa (Dk (x.1,())) (fun(y1:(List bW)×Bool×Unit)=>aq (nt y1.2.1)
 (some (([]:List bW),((10:Int),())))
 (some (y1.1,((0:Int),()))))
def xJ(x:Sb×Unit):Option (Int×Unit) :=
 aa (zR (x.1,())) (fun(y1:(List bW)×Int×Unit)=>aa (aq (nt (nt (bI y1.2.1 (0:Int))))
 (aa (xI (y1.1,())) (fun(y2:Bool×Unit)=>some (nt y2.1)))
 (some true)) (fun(y2:Bool)=>aq y2
 (some ((10:Int),()))
 (some ((0:Int),()))))
def xK(x:(List aN)×Sb×Unit):Option eU :=
 aa (oC (x.1,())) (fun(y1:Bool×Unit)=>aq (nt y1.1)
 (some (([]:List aN),((1:Int),())))
 (aa (xJ (x.2.1,())) (fun(y2:Int×Unit)=>aq (nt (bI y2.1 (0:Int)))
 (some (([]:List aN),(y2.1,())))
 (aa (zR (x.2.1,())) (fun(y3:(List bW)×Int×Unit)=>aa (Jd (x.1,(y3.1,()))) (fun(y4:(List aN)×Int×Unit)=>some (y4.1,(y4.2.1,()))))))))
def H7(x:(List Sb)×Unit)(y1:jL×Unit):Option ((jL×Unit)⊕(Nat×jL×Unit)) :=
 aq (aX y1.1.2.2.2.1 (@len Sb x.1))
 (aa (@idx Sb x.1 y1.1.2.2.2.1) (fun(y2:List (UInt8))=>aa (tf (y1.1.2.2.1,(y2,()))) (fun(y3:(List aN)×Int×Unit)=>aq (nt (bI y3.2.1 (0:Int)))
 (some (Sum.inr ((1:Nat),((([]:List aN),(y3.2.1,(y1.1.2.2.1,(y1.1.2.2.2.1,())))),())):((jL×Unit))⊕((Nat×jL×Unit))))
 (some (Sum.inl ((y1.1.1,(y1.1.2.1,(y3.1,(aD IntKind.i64 y1.1.2.2.2.1 (1:Int),())))),()):((jL×Unit))⊕((Nat×jL×Unit)))))))
 (some (Sum.inr ((0:Nat),((y1.1.1,(y1.1.2.1,(y1.1.2.2.1,(y1.1.2.2.2.1,())))),())):((jL×Unit))⊕((Nat×jL×Unit))))
def Dl(x:(List Sb)×Unit):Option eU :=
 aa (Loop (H7 x) ((([]:List aN),((0:Int),(([]:List aN),((0:Int),())))),())) (fun(y1:Nat×jL×Unit)=>aq (eY y1.1 (0:Nat))
 (some (y1.2.1.2.2.1,((0:Int),())))
 (some (y1.2.1.1,(y1.2.1.2.1,()))))
end Go.Ge
namespace Go.Ge
variable [Lp]
set_option maxRecDepth 100000
abbrev aW:=(Sb×Sb×(List Sb)×Sb×Int×Int×Bool×Unit)
abbrev n8:=(Sb×(List Sb)×Sb×Sb×Sb×(List (Sb×Sb×Sb×Unit))×Unit)
abbrev n9:=(Sb×(List Sb)×Sb×Sb×(List (Sb×Sb×Sb×Unit))×Unit)
abbrev uJ:=((List n8)×(List n9)×(List aW)×(List Sb)×(List (Sb×Int×Unit))×Unit)
abbrev rV:=(Sb×Int×Int×Sb×Sb×Unit)
abbrev lq:=(Bool×Int×Unit)
abbrev agX:=((Unit×Unit×Int×Unit)×(List Sb)×(List Sb)×Unit)
abbrev wN:=(Nat×(Int×Int×Unit)×Unit)
abbrev K6:=(List (Sb×Sb×Sb×Unit))
abbrev er:=(Nat×lq×Unit)
abbrev iS:=(Sb×(List aW)×Int×Unit×Int×Unit)
abbrev sI:=((Int×Int×Unit)×Unit)
abbrev af7:=((Nat×(Unit×Unit×Int×Unit)×(List Sb)×(List Sb)×Unit))
abbrev nF:=((List rV)×Int×(List rV)×Int×Unit)
abbrev cY:=(lq×Unit)
abbrev af8:=(Int×(List aW)×(List n9)×(List n8)×Unit)
abbrev l8:=(Sb×Int×Unit)
def pX(x:(List aW)×Unit)(y1:lq×Unit):Option (cY⊕er) :=
 aq (aq (aX y1.1.2.1 (@len aW x.1))
 (aX y1.1.2.1 (40:Int))
 false)
 (aa (@idx aW x.1 y1.1.2.1) (fun(y2:Sb×Sb×(List Sb)×Sb×Int×Int×Bool×Unit)=>aa (aq (nt (aX (100:Int) (@len UInt8 y2.1)))
 (aa (@idx aW x.1 y1.1.2.1) (fun(y3:Sb×Sb×(List Sb)×Sb×Int×Int×Bool×Unit)=>some (aX (100:Int) (@len UInt8 y3.2.1))))
 (some true)) (fun(y3:Bool)=>aq y3
 (some (Sum.inr ((1:Nat),((false,(y1.1.2.1,())),())):(cY)⊕(er)))
 (some (Sum.inl ((y1.1.1,(aD IntKind.i64 y1.1.2.1 (1:Int),())),()):(cY)⊕(er))))))
 (some (Sum.inr ((0:Nat),((y1.1.1,(y1.1.2.1,())),())):(cY)⊕(er)))
def wO(x:(List aW)×Unit):Option (Bool×Unit) :=
 aa (Loop (pX x) ((false,((0:Int),())),())) (fun(y1:Nat×lq×Unit)=>aq (eY y1.1 (0:Nat))
 (some (cK (@len aW x.1) (40:Int),()))
 (some (y1.2.1.1,())))
def pY(x:uJ×Unit)(y1:lq×Unit):Option (cY⊕er) :=
 aq (aq (aX y1.1.2.1 (@len Sb x.1.2.2.2.1))
 (aX y1.1.2.1 (12:Int))
 false)
 (aa (@idx Sb x.1.2.2.2.1 y1.1.2.1) (fun(y2:List (UInt8))=>aq (aX (8192:Int) (@len UInt8 y2))
 (some (Sum.inr ((1:Nat),((false,(y1.1.2.1,())),())):(cY)⊕(er)))
 (some (Sum.inl ((y1.1.1,(aD IntKind.i64 y1.1.2.1 (1:Int),())),()):(cY)⊕(er)))))
 (some (Sum.inr ((0:Nat),((y1.1.1,(y1.1.2.1,())),())):(cY)⊕(er)))
def wP(x:uJ×Unit):Option (Bool×Unit) :=
 aa (Loop (pY x) ((false,((0:Int),())),())) (fun(y1:Nat×lq×Unit)=>aq (eY y1.1 (0:Nat))
 (aa (oP (((0:Int),(x.1.2.2.1,(x.1.2.1,(x.1.1,())))),())) (fun(y2:Bool×Unit)=>aa (aq y2.1
 (aa (wO (x.1.2.2.1,())) (fun(y3:Bool×Unit)=>some y3.1))
 (some false)) (fun(y3:Bool)=>some (aq (aq (aq y3
 (cK (@len aW x.1.2.2.1) (12:Int))
 false)
 (cK (@len Sb x.1.2.2.2.1) (12:Int))
 false)
 (cK (@len l8 x.1.2.2.2.2.1) (40:Int))
 false,()))))
 (some (y1.2.1.1,())))
def Kj(x:(List aW)×Sb×Unit)(y1:(Int×Int×Unit)×Unit):Option (sI⊕wN) :=
 aq (aX y1.1.2.1 (@len aW x.1))
 (aa (@idx aW x.1 y1.1.2.1) (fun(y2:Sb×Sb×(List Sb)×Sb×Int×Int×Bool×Unit)=>aq (bX y2.1 x.2.1)
 (some (Sum.inr ((1:Nat),((y1.1.2.1,(y1.1.2.1,())),())):(sI)⊕(wN)))
 (some (Sum.inl ((y1.1.1,(aD IntKind.i64 y1.1.2.1 (1:Int),())),()):(sI)⊕(wN)))))
 (some (Sum.inr ((0:Nat),((y1.1.1,(y1.1.2.1,())),())):(sI)⊕(wN)))
def FW(x:(List aW)×Sb×Unit):Option (Int×Unit) :=
 aa (Loop (Kj x) (((0:Int),((0:Int),())),())) (fun(y1:Nat×(Int×Int×Unit)×Unit)=>aq (eY y1.1 (0:Nat))
 (some ((-1:Int),()))
 (some (y1.2.1.1,())))
def H8(x:(List aW)×Sb×Unit)(y1:iS×(List aW)×Unit):Option ((iS×(List aW)×Unit)⊕(Nat×iS×(List aW)×Unit)) :=
 aq (cK y1.1.2.2.2.2.1 (16:Int))
 (aa (FW (x.1,(y1.1.1,()))) (fun(y2:Int×Unit)=>aq (aX y2.1 (0:Int))
 (some (Sum.inr ((1:Nat),((y1.1.1,(([]:List aW),((3:Int),((),(y1.1.2.2.2.2.1,()))))),(y1.2.1,()))):((iS×(List aW)×Unit))⊕((Nat×iS×(List aW)×Unit))))
 (aq (bI y1.1.2.2.2.2.1 (16:Int))
 (some (Sum.inr ((1:Nat),((y1.1.1,(([]:List aW),((5:Int),((),(y1.1.2.2.2.2.1,()))))),(y1.2.1,()))):((iS×(List aW)×Unit))⊕((Nat×iS×(List aW)×Unit))))
 (aa (@idx aW x.1 y2.1) (fun(y3:Sb×Sb×(List Sb)×Sb×Int×Int×Bool×Unit)=>aq (fits (plus (@len aW y1.2.1) (@len aW ([y3]:List aW))))
 (aa (@idx aW x.1 y2.1) (fun(y4:Sb×Sb×(List Sb)×Sb×Int×Int×Bool×Unit)=>aq (bX y4.2.1 ([]:List (UInt8)))
 (some (Sum.inr ((1:Nat),((y1.1.1,(@app aW y1.2.1 ([y3]:List aW),((0:Int),((),(y1.1.2.2.2.2.1,()))))),(@app aW y1.2.1 ([y3]:List aW),()))):((iS×(List aW)×Unit))⊕((Nat×iS×(List aW)×Unit))))
 (aa (@idx aW x.1 y2.1) (fun(y5:Sb×Sb×(List Sb)×Sb×Int×Int×Bool×Unit)=>some (Sum.inl ((y5.2.1,(y1.1.2.1,(y1.1.2.2.1,((),(aD IntKind.i64 y1.1.2.2.2.2.1 (1:Int),()))))),(@app aW y1.2.1 ([y3]:List aW),())):((iS×(List aW)×Unit))⊕((Nat×iS×(List aW)×Unit)))))))
 none)))))
 (some (Sum.inr ((0:Nat),((y1.1.1,(y1.1.2.1,(y1.1.2.2.1,((),(y1.1.2.2.2.2.1,()))))),(y1.2.1,()))):((iS×(List aW)×Unit))⊕((Nat×iS×(List aW)×Unit))))
def xL(x:(List aW)×Sb×Unit):Option ((List aW)×Int×Unit) :=
 aa (Loop (H8 x) ((x.2.1,(([]:List aW),((0:Int),((),((0:Int),()))))),(([]:List aW),()))) (fun(y1:Nat×iS×(List aW)×Unit)=>aq (eY y1.1 (0:Nat))
 (some (([]:List aW),((5:Int),())))
 (some (y1.2.1.2.1,(y1.2.1.2.2.1,()))))
def Kk(x:uJ×Sb×Unit)(y1:(Int×Int×Unit)×Unit):Option (sI⊕wN) :=
 aq (aX y1.1.2.1 (@len aW x.1.2.2.1))
 (aa (@idx aW x.1.2.2.1 y1.1.2.1) (fun(y2:Sb×Sb×(List Sb)×Sb×Int×Int×Bool×Unit)=>aq (bX y2.1 x.2.1)
 (some (Sum.inr ((1:Nat),((y1.1.2.1,(y1.1.2.1,())),())):(sI)⊕(wN)))
 (some (Sum.inl ((y1.1.1,(aD IntKind.i64 y1.1.2.1 (1:Int),())),()):(sI)⊕(wN)))))
 (some (Sum.inr ((0:Nat),((y1.1.1,(y1.1.2.1,())),())):(sI)⊕(wN)))
def FX(x:uJ×Sb×Unit):Option (Int×Unit) :=
 aa (Loop (Kk x) (((0:Int),((0:Int),())),())) (fun(y1:Nat×(Int×Int×Unit)×Unit)=>aq (eY y1.1 (0:Nat))
 (some ((-1:Int),()))
 (some (y1.2.1.1,())))
def mL(x:uJ×Int×Unit):Option (Sb×Unit) :=
 aq (aX x.2.1 (@len Sb x.1.2.2.2.1))
 (aa (@idx Sb x.1.2.2.2.1 x.2.1) (fun(y1:List (UInt8))=>some (y1,())))
 (some (([]:List (UInt8)),()))
def MJ(x:(List Sb)×Unit)(y1:nF×Unit):Option ((nF×Unit)⊕(Nat×nF×Unit)) :=
 aq (aX y1.1.2.2.2.1 (@len Sb x.1))
 (aa (@idx Sb x.1 y1.1.2.2.2.1) (fun(y2:List (UInt8))=>aa (xK (y1.1.2.2.1,(y2,()))) (fun(y3:(List rV)×Int×Unit)=>aq (nt (bI y3.2.1 (0:Int)))
 (some (Sum.inr ((1:Nat),((([]:List rV),(y3.2.1,(y1.1.2.2.1,(y1.1.2.2.2.1,())))),())):((nF×Unit))⊕((Nat×nF×Unit))))
 (some (Sum.inl ((y1.1.1,(y1.1.2.1,(y3.1,(aD IntKind.i64 y1.1.2.2.2.1 (1:Int),())))),()):((nF×Unit))⊕((Nat×nF×Unit)))))))
 (some (Sum.inr ((0:Nat),((y1.1.1,(y1.1.2.1,(y1.1.2.2.1,(y1.1.2.2.2.1,())))),())):((nF×Unit))⊕((Nat×nF×Unit))))
def Je(x:(List Sb)×Unit):Option ((List rV)×Int×Unit) :=
 aa (Loop (MJ x) ((([]:List rV),((0:Int),(([]:List rV),((0:Int),())))),())) (fun(y1:Nat×nF×Unit)=>aq (eY y1.1 (0:Nat))
 (some (y1.2.1.2.2.1,((0:Int),())))
 (some (y1.2.1.1,(y1.2.1.2.1,()))))
def Kl(x:uJ×Sb×Unit)(y1:(List aW)×Int×Unit)(y2:(Unit×Int×Unit)×(List Sb)×Unit):Option (((Unit×Int×Unit)×(List Sb)×Unit)⊕((Unit×Int×Unit)×(List Sb)×Unit)) :=
 @cM ((Unit×Int×Unit)×(List Sb)×Unit) (aq (cK (0:Int) y2.1.2.1)
 (aa (@idx aW y1.1 y2.1.2.1) (fun(y3:Sb×Sb×(List Sb)×Sb×Int×Int×Bool×Unit)=>aa (FX (x.1,(y3.1,()))) (fun(y4:Int×Unit)=>aa (mL (x.1,(y4.1,()))) (fun(y5:Sb×Unit)=>aq (fits (plus (@len Sb y2.2.1) (@len Sb ([y5.1]:List Sb))))
 (some (Sum.inl (((),(cL IntKind.i64 y2.1.2.1 (1:Int),())),(@app Sb y2.2.1 ([y5.1]:List Sb),())):(((Unit×Int×Unit)×(List Sb)×Unit))⊕((Nat×(Unit×Int×Unit)×(List Sb)×Unit))))
 none))))
 (some (Sum.inr ((0:Nat),(((),(y2.1.2.1,())),(y2.2.1,()))):(((Unit×Int×Unit)×(List Sb)×Unit))⊕((Nat×(Unit×Int×Unit)×(List Sb)×Unit)))))
def FY(x:uJ×Sb×Unit):Option ((List rV)×Int×Unit) :=
 aa (xL (x.1.2.2.1,(x.2.1,()))) (fun(y1:(List aW)×Int×Unit)=>aq (nt (bI y1.2.1 (0:Int)))
 (some (([]:List rV),(y1.2.1,())))
 (aa (Loop (Kl x y1) (((),(cL IntKind.i64 (@len aW y1.1) (1:Int),())),(([]:List Sb),()))) (fun(y2:(Unit×Int×Unit)×(List Sb)×Unit)=>aa (Je (y2.2.1,())) (fun(y3:(List rV)×Int×Unit)=>some (y3.1,(y3.2.1,()))))))
def iT(x:(List n8)×(List n8)×Unit)(y1:lq×Unit):Option (cY⊕er) :=
 aq (aq (aX y1.1.2.1 (@len n8 x.1))
 (aX y1.1.2.1 (@len n8 x.2.1))
 false)
 (aa (@idx n8 x.1 y1.1.2.1) (fun(y2:Sb×(List Sb)×Sb×Sb×Sb×K6×Unit)=>aa (@idx n8 x.2.1 y1.1.2.1) (fun(y3:Sb×(List Sb)×Sb×Sb×Sb×K6×Unit)=>aa (aq (nt (nt (bX y2.1 y3.1)))
 (aa (dL (y2.2.1,(y3.2.1,()))) (fun(y4:Bool×Unit)=>some (nt y4.1)))
 (some true)) (fun(y4:Bool)=>aa (aq (nt (aq (nt (aq (nt (aq (nt y4)
 (nt (bX y2.2.2.1 y3.2.2.1))
 true))
 (nt (bX y2.2.2.2.1 y3.2.2.2.1))
 true))
 (nt (bX y2.2.2.2.2.1 y3.2.2.2.2.1))
 true))
 (aa (fP (y2.2.2.2.2.2.1,(y3.2.2.2.2.2.1,()))) (fun(y5:Bool×Unit)=>some (nt y5.1)))
 (some true)) (fun(y5:Bool)=>aq y5
 (some (Sum.inr ((1:Nat),((false,(y1.1.2.1,())),())):(cY)⊕(er)))
 (some (Sum.inl ((y1.1.1,(aD IntKind.i64 y1.1.2.1 (1:Int),())),()):(cY)⊕(er))))))))
 (some (Sum.inr ((0:Nat),((y1.1.1,(y1.1.2.1,())),())):(cY)⊕(er)))
def lu(x:(List n8)×(List n8)×Unit):Option (Bool×Unit) :=
 aq (nt (bI (@len n8 x.1) (@len n8 x.2.1)))
 (some (false,()))
 (aa (Loop (iT x) ((false,((0:Int),())),())) (fun(y1:Nat×lq×Unit)=>aq (eY y1.1 (0:Nat))
 (some (true,()))
 (some (y1.2.1.1,()))))
def gY(x:(List n9)×(List n9)×Unit)(y1:lq×Unit):Option (cY⊕er) :=
 aq (aq (aX y1.1.2.1 (@len n9 x.1))
 (aX y1.1.2.1 (@len n9 x.2.1))
 false)
 (aa (@idx n9 x.1 y1.1.2.1) (fun(y2:Sb×(List Sb)×Sb×Sb×K6×Unit)=>aa (@idx n9 x.2.1 y1.1.2.1) (fun(y3:Sb×(List Sb)×Sb×Sb×K6×Unit)=>aa (aq (nt (nt (bX y2.1 y3.1)))
 (aa (dL (y2.2.1,(y3.2.1,()))) (fun(y4:Bool×Unit)=>some (nt y4.1)))
 (some true)) (fun(y4:Bool)=>aa (aq (nt (aq (nt (aq (nt y4)
 (nt (bX y2.2.2.1 y3.2.2.1))
 true))
 (nt (bX y2.2.2.2.1 y3.2.2.2.1))
 true))
 (aa (fP (y2.2.2.2.2.1,(y3.2.2.2.2.1,()))) (fun(y5:Bool×Unit)=>some (nt y5.1)))
 (some true)) (fun(y5:Bool)=>aq y5
 (some (Sum.inr ((1:Nat),((false,(y1.1.2.1,())),())):(cY)⊕(er)))
 (some (Sum.inl ((y1.1.1,(aD IntKind.i64 y1.1.2.1 (1:Int),())),()):(cY)⊕(er))))))))
 (some (Sum.inr ((0:Nat),((y1.1.1,(y1.1.2.1,())),())):(cY)⊕(er)))
def j7(x:(List n9)×(List n9)×Unit):Option (Bool×Unit) :=
 aq (nt (bI (@len n9 x.1) (@len n9 x.2.1)))
 (some (false,()))
 (aa (Loop (gY x) ((false,((0:Int),())),())) (fun(y1:Nat×lq×Unit)=>aq (eY y1.1 (0:Nat))
 (some (true,()))
 (some (y1.2.1.1,()))))
def gZ(x:(List aW)×(List aW)×Unit)(y1:lq×Unit):Option (cY⊕er) :=
 aq (aq (aX y1.1.2.1 (@len aW x.1))
 (aX y1.1.2.1 (@len aW x.2.1))
 false)
 (aa (@idx aW x.1 y1.1.2.1) (fun(y2:Sb×Sb×(List Sb)×Sb×Int×Int×Bool×Unit)=>aa (@idx aW x.2.1 y1.1.2.1) (fun(y3:Sb×Sb×(List Sb)×Sb×Int×Int×Bool×Unit)=>aa (aq (nt (aq (nt (nt (bX y2.1 y3.1)))
 (nt (bX y2.2.1 y3.2.1))
 true))
 (aa (dL (y2.2.2.1,(y3.2.2.1,()))) (fun(y4:Bool×Unit)=>some (nt y4.1)))
 (some true)) (fun(y4:Bool)=>aq (aq (nt (aq (nt (aq (nt (aq (nt y4)
 (nt (bX y2.2.2.2.1 y3.2.2.2.1))
 true))
 (nt (bI y2.2.2.2.2.1 y3.2.2.2.2.1))
 true))
 (nt (bI y2.2.2.2.2.2.1 y3.2.2.2.2.2.1))
 true))
 (nt (eqB y2.2.2.2.2.2.2.1 y3.2.2.2.2.2.2.1))
 true)
 (some (Sum.inr ((1:Nat),((false,(y1.1.2.1,())),())):(cY)⊕(er)))
 (some (Sum.inl ((y1.1.1,(aD IntKind.i64 y1.1.2.1 (1:Int),())),()):(cY)⊕(er)))))))
 (some (Sum.inr ((0:Nat),((y1.1.1,(y1.1.2.1,())),())):(cY)⊕(er)))
def j8(x:(List aW)×(List aW)×Unit):Option (Bool×Unit) :=
 aq (nt (bI (@len aW x.1) (@len aW x.2.1)))
 (some (false,()))
 (aa (Loop (gZ x) ((false,((0:Int),())),())) (fun(y1:Nat×lq×Unit)=>aq (eY y1.1 (0:Nat))
 (some (true,()))
 (some (y1.2.1.1,()))))
def hU(x:(List l8)×(List l8)×Unit)(y1:lq×Unit):Option (cY⊕er) :=
 aq (aq (aX y1.1.2.1 (@len l8 x.1))
 (aX y1.1.2.1 (@len l8 x.2.1))
 false)
 (aa (@idx l8 x.1 y1.1.2.1) (fun(y2:Sb×Int×Unit)=>aa (@idx l8 x.2.1 y1.1.2.1) (fun(y3:Sb×Int×Unit)=>aq (nt (an (bX y2.1 y3.1) (an (bI y2.2.1 y3.2.1) true)))
 (some (Sum.inr ((1:Nat),((false,(y1.1.2.1,())),())):(cY)⊕(er)))
 (some (Sum.inl ((y1.1.1,(aD IntKind.i64 y1.1.2.1 (1:Int),())),()):(cY)⊕(er))))))
 (some (Sum.inr ((0:Nat),((y1.1.1,(y1.1.2.1,())),())):(cY)⊕(er)))
def j9(x:(List l8)×(List l8)×Unit):Option (Bool×Unit) :=
 aq (nt (bI (@len l8 x.1) (@len l8 x.2.1)))
 (some (false,()))
 (aa (Loop (hU x) ((false,((0:Int),())),())) (fun(y1:Nat×lq×Unit)=>aq (eY y1.1 (0:Nat))
 (some (true,()))
 (some (y1.2.1.1,()))))
def ke(x:uJ×uJ×Unit):Option (Bool×Unit) :=
 aa (lu (x.1.1,(x.2.1.1,()))) (fun(y1:Bool×Unit)=>aa (aq y1.1
 (aa (j7 (x.1.2.1,(x.2.1.2.1,()))) (fun(y2:Bool×Unit)=>some y2.1))
 (some false)) (fun(y2:Bool)=>aa (aq y2
 (aa (j8 (x.1.2.2.1,(x.2.1.2.2.1,()))) (fun(y3:Bool×Unit)=>some y3.1))
 (some false)) (fun(y3:Bool)=>aa (aq y3
 (aa (dL (x.1.2.2.2.1,(x.2.1.2.2.2.1,()))) (fun(y4:Bool×Unit)=>some y4.1))
 (some false)) (fun(y4:Bool)=>aa (aq y4
 (aa (j9 (x.1.2.2.2.2.1,(x.2.1.2.2.2.2.1,()))) (fun(y5:Bool×Unit)=>some y5.1))
 (some false)) (fun(y5:Bool)=>some (y5,()))))))
end Go.Ge
