/- The layer's functions keep their contracts: each comes to its plain definition, by the ghost interpreter. -/
import Derived.Test.YtkgjcocemmnpjaaDoorRows
import Derived.Test.YtkgjcocemmnpjaaDoorPlA
import Derived.Test.YtkgjcocemmnpjaaDoorNum
import Derived.Test.YtkgjcocemmnpjaaDoorShelf
set_option linter.unusedVariables false
set_option linter.unusedSectionVars false
set_option linter.unusedSimpArgs false
namespace Go.Proofs.YtkgjcocemmnpjaaDoor
open Go Go.Ge
set_option maxRecDepth 100000
variable [Lp]
abbrev jU:Ty:=(.pair (.int .i64) (.pair .str (.pair .str (.pair (.int .i64) (.pair (.int .i64) (.pair (.int .i64) (.pair .str (.pair (.int .i64) (.pair (.int .i64) .unit)))))))))
abbrev zD:Ty:=(.pair (.int .i64) (.pair (.int .i64) (.pair .str (.pair (.slice .str) .unit))))
abbrev om:Ty:=(.pair (.int .i64) .unit)
abbrev zE:Ty:=(.pair jU (.pair zD .unit))
abbrev J6:Ty:=(.pair (.int .i64) (.pair .bool (.pair (.int .i64) (.pair (.int .i64) (.pair .str (.pair (.slice (.pair .str om)) .unit))))))
abbrev BF:Ty:=(.pair .str .unit)
abbrev H6:Ty:=(.pair (.slice .str) .unit)
abbrev GI:Ty:=(.pair .bool .unit)
abbrev GJ:Ty:=(.pair zD .unit)
noncomputable def cI:Nat→ld
 | 5=>⟨[none,some ⟨[(6,4),(9,3)],[0,7,8],false⟩,none,none,none,none],[]⟩
 | 6=>⟨[],[]⟩
 | 8=>⟨[],[]⟩
 | 12=>⟨[],[]⟩
 | 13=>⟨[some ⟨[],[0],false⟩],[]⟩
 | 14=>⟨[none,none,none,none,none],[]⟩
 | 15=>⟨[none],[]⟩
 | 16=>⟨[none],[]⟩
 | 20=>⟨[some ⟨[(4,4),(5,3)],[],false⟩,none,none,some ⟨[(4,4),(6,3)],[],false⟩,none,none],[]⟩
 | 21=>⟨[],[]⟩
 | 22=>⟨[none,none,none,none],[]⟩
 | 23=>⟨[none,none,none,none],[]⟩
 | 24=>⟨[none],[]⟩
 | 25=>⟨[],[]⟩
 | 31=>⟨[],[]⟩
 | 32=>⟨[none,none,none],[]⟩
 | 33=>⟨[],[]⟩
 | 34=>⟨[none],[]⟩
 | 35=>⟨[none],[]⟩
 | 36=>⟨[],[]⟩
 | 41=>⟨[some ⟨[(4,27),(11,3)],[0],false⟩,none,none],[]⟩
 | 42=>⟨[],[]⟩
 | 43=>⟨[none,none,none],[]⟩
 | 44=>⟨[some ⟨[(4,27),(5,3)],[0],false⟩,none,none],[]⟩
 | 45=>⟨[none],[]⟩
 | 46=>⟨[none,none,none,none,none],[]⟩
 | 47=>⟨[none,none,none,none],[]⟩
 | 48=>⟨[none,none,none,none,none,none],[]⟩
 | 55=>⟨[none,none,none,none],[]⟩
 | 56=>⟨[],[]⟩
 | 57=>⟨[none],[5]⟩
 | 62=>⟨[none,none,none],[]⟩
 | 63=>⟨[],[]⟩
 | 81=>⟨[],[]⟩
 | 82=>⟨[some ⟨[(4,3),(8,3)],[],false⟩,none,none],[]⟩
 | _=>⟨[],[]⟩
def jz:List (Nat×List gf):=[(75,[.dat .bool,.buf zE 83,.dat (.int .i64),.dat .bool,.dat .bool,.dat jU]),(59,[.buf jU 41,.buf zD 38,.dat (.int .i64),.dat jU,.dat .bool,.dat .bool])]
def els:List (Nat×Nat):=[(73,83),(57,41),(54,38)]
noncomputable def x6:List (Nat×EE):=[]
noncomputable def tys:List (Nat×Ty):=[(2,(.int .i64)),(3,(.int .i64)),(4,.bool),(5,(.int .u8)),(9,.str),(25,(.arr 2 (.int .i64))),(27,(.int .i64)),(36,(.slice .str)),(38,zD),(41,jU),(53,(.arr 3 .str)),(54,(.slice zD)),(57,(.slice jU)),(67,(.slice (.pair (.int .i64) om))),(69,(.pair (.slice (.pair (.int .i64) om)) om)),(71,(.pair (.int .i64) om)),(73,(.slice zE)),(83,zE),(84,(.slice (.pair .str (.pair .bool BF)))),(86,(.slice (.pair (.int .i64) (.pair .bool (.pair jU .unit))))),(91,(.pair .str (.pair .bool BF))),(104,(.pair (.int .i64) (.pair .bool (.pair jU .unit)))),(105,(.slice (.int .i64))),(109,(.slice (.int .i64))),(114,(.slice (.int .u8))),(118,(.slice (.pair (.int .i64) (.pair (.int .i64) om)))),(139,(.pair (.int .i64) (.pair (.int .i64) om))),(141,(.slice (.pair .str om))),(143,J6),(146,(.pair .str om)),(149,(.slice J6)),(151,(.pair (.int .i64) (.pair (.int .i64) (.pair (.slice J6) .unit)))),(166,(.arr 24 (.int .u8))),(167,(.int .u64)),(176,(.arr 20 (.int .u64))),(177,(.int .u32)),(178,(.arr 65 (.int .u8))),(180,(.int .u64)),(183,(.arr 32 (.int .u8))),(184,(.arr 64 (.int .u8)))]
noncomputable def Ev:List (Nat×Func):=[(5,Tryd.f5),(6,Tryd.f6),(8,Tryd.f8),(12,Tryd.f12),(13,Tryd.f13),(14,Tryd.f14),(15,Tryd.f15),(16,Tryd.f16),(20,Tryd.f20),(21,Tryd.f21),(22,Tryd.f22),(23,Tryd.f23),(24,Tryd.f24),(25,Tryd.f25),(31,Tryd.f31),(32,Tryd.f32),(33,Tryd.f33),(34,Tryd.f34),(35,Tryd.f35),(36,Tryd.f36),(41,Tryd.f41),(42,Tryd.f42),(43,Tryd.f43),(44,Tryd.f44),(45,Tryd.f45),(46,Tryd.f46),(47,Tryd.f47),(48,Tryd.f48),(55,Tryd.f55),(56,Tryd.f56),(57,Tryd.f57),(62,Tryd.f62),(63,Tryd.f63),(81,Tryd.f81),(82,Tryd.f82)]
def iY:List Nat:=[26,31,32,42,56,85,115]
def eo:List Nat:=[26,31,32,42,56,85,115]
noncomputable def CF(gE:List (Nat×oR))(cO:List (Nat×gd))(inv:List (String×oR):=[]):Ctx:=⟨tys,iY,eo,Ev,gE,cO,jz,x6,els,inv⟩
theorem mix:Tryd.prog.follows .mixedOrders=true:=by kernel_rfl
theorem FY:∀tid t,find tys tid=some t→Den Tryd.prog t tid:=Hs (by kernel_rfl)
theorem FZ:∀tid,bN iY tid=true→(∀w,(isAgg tid).run Tryd.prog w=.ok false w)∧(∀w,(Go.sizeOf tid).run Tryd.prog w=.ok 1 w)∧∃z,(∀w,(zeroValue tid).run Tryd.prog w=.ok z w)∧z.oneCell'=true:=FJ (by kernel_rfl)
theorem F0:∀tid,bN eo tid=true→∃e,Tryd.prog.underlying tid=some (.pointer e):=FK (by kernel_rfl)
theorem HF:∀f fn,find Ev f=some fn→Tryd.prog.funcs[f]?=some fn:=Ht ((bh Tryd.func5 (bh Tryd.func6 (bh Tryd.func8 (bh Tryd.func12 (bh Tryd.func13 (bh Tryd.func14 (bh Tryd.func15 (bh Tryd.func16 (bh Tryd.func20 (bh Tryd.func21 (bh Tryd.func22 (bh Tryd.func23 (bh Tryd.func24 (bh Tryd.func25 (bh Tryd.func31 (bh Tryd.func32 (bh Tryd.func33 (bh Tryd.func34 (bh Tryd.func35 (bh Tryd.func36 (bh Tryd.func41 (bh Tryd.func42 (bh Tryd.func43 (bh Tryd.func44 (bh Tryd.func45 (bh Tryd.func46 (bh Tryd.func47 (bh Tryd.func48 (bh Tryd.func55 (bh Tryd.func56 (bh Tryd.func57 (bh Tryd.func62 (bh Tryd.func63 (bh Tryd.func81 (bh Tryd.func82 FL))))))))))))))))))))))))))))))))))))
theorem F1:∀tid fs,find jz tid=some fs→u6 Tryd.prog tid fs=true:=FN (by kernel_rfl)
theorem HG:∀tid e,find els tid=some e→Tryd.prog.underlying tid=some (.slice e):=Hu (by kernel_rfl)
theorem Ew(gE:List (Nat×oR))(cO:List (Nat×gd))(inv:List (String×oR):=[]):dy Tryd.prog (CF gE cO inv):=⟨FY,FZ,F0,HF,F1,HG⟩
theorem Bd:∀p∈x6,tO Tryd.prog p.1 p.2 :=  FM
theorem BG(gE:List (Nat×oR))(cO:List (Nat×gd))(inv:List (String×oR):=[]):zo (CF gE cO inv):=D6 (cx:=CF gE cO inv) (show(Ev.all fun p=>Cp p.2)=true by kernel_rfl)
theorem gw{gE:List (Nat×oR)}{cO:List (Nat×gd)}{inv:List (String×oR)}(cQ:∀p∈gE,Holds Tryd.prog b6 p.1 p.2)(Ex:∀p∈cO,cg Tryd.prog b6 p.1 p.2)(hinv:∀p∈inv,tL Tryd.prog b6 p.1 p.2){f:Nat}{fn:Func}{A R:Ty}{spec:A.den→Option R.den}(hfn:find Ev f=some fn)(hb:fn.body.isSome=true)
  (hs:∀x,sem (CF gE cO inv) 12 cI f A R x=spec x):Holds Tryd.prog b6 f ⟨A,R,spec⟩:=by
 obtain⟨code,Ey⟩:=Option.isSome_iff_exists.1 hb;exact xN mix (Ew gE cO inv) (uO cQ Ex Bd hinv) (BG gE cO inv) (f:=f) hfn Ey (fun x y h=>by rw[hs];exact h)
theorem bJ{gE:List (Nat×oR)}{cO:List (Nat×gd)}{inv:List (String×oR)}(cQ:∀p∈gE,Holds Tryd.prog b6 p.1 p.2)(Ex:∀p∈cO,cg Tryd.prog b6 p.1 p.2)(hinv:∀p∈inv,tL Tryd.prog b6 p.1 p.2){f:Nat}{fn:Func}{ps:List Bool}{A:Ty}{U:OT}{R:Ty}{spec:A.den×U.den→Option (R.den×U.den)}(hfn:find Ev f=some fn)(hb:fn.body.isSome=true)
  (hs:∀x,GY (CF gE cO inv) 12 cI f ps A U R x=spec x):cg Tryd.prog b6 f ⟨ps,A,U,R,spec⟩:=by
 obtain⟨code,Ey⟩:=Option.isSome_iff_exists.1 hb;exact vF mix (Ew gE cO inv) (uO cQ Ex Bd hinv) (BG gE cO inv) (f:=f) hfn Ey (fun x y h=>by rw[hs];exact h)
noncomputable def nk:oR:=⟨om,BF,ng⟩
theorem uV:Holds Tryd.prog b6 49 nk:=A9 Tryd.func49 (by kernel_rfl) (by kernel_rfl) Eu uU
noncomputable def qa:oR:=⟨om,BF,jo⟩
theorem xS:Holds Tryd.prog b6 25 qa:=gw (gE:=[(49,nk)]) (cO:=[]) (inv:=[]) ((aL uV bF)) (bk) (bG) (fn:=Tryd.f25) rfl (by kernel_rfl) (fun x=>by kernel_rfl)
noncomputable def rL:oR:=⟨(.pair (.int .i64) (.pair (.int .i64) BF)),BF,kf⟩
theorem zF:Holds Tryd.prog b6 6 rL:=gw (gE:=[(25,qa)]) (cO:=[]) (inv:=[]) ((aL xS bF)) (bk) (bG) (fn:=Tryd.f6) rfl (by kernel_rfl) (fun x=>by kernel_rfl)
noncomputable def aM:gd:=⟨[true],.unit,(.pair (.ref 75 (.pair (.dat .bool) (.pair (.buf zE 83) (.pair (.dat (.int .i64)) (.pair (.dat .bool) (.pair (.dat .bool) (.pair (.dat jU) .unit))))))) .unit),GI,cj⟩
theorem aS:cg Tryd.prog b6 31 aM:=bJ (gE:=[]) (cO:=[]) (inv:=[]) (bF) (bk) (bG) (fn:=Tryd.f31) rfl (by kernel_rfl) (fun x=>by kernel_rfl)
noncomputable def hJ:gd:=⟨[true],.unit,(.pair (.ref 75 (.pair (.dat .bool) (.pair (.buf zE 83) (.pair (.dat (.int .i64)) (.pair (.dat .bool) (.pair (.dat .bool) (.pair (.dat jU) .unit))))))) .unit),.unit,ez⟩
theorem kz:cg Tryd.prog b6 13 hJ:=bJ (gE:=[]) (cO:=[(31,aM)]) (inv:=[]) (bF) ((aj aS bk)) (bG) (fn:=Tryd.f13) rfl (by kernel_rfl) (fun x=>by kernel_rfl)
noncomputable def ff:oR:=⟨H6,H6,cw⟩
theorem je:Holds Tryd.prog b6 57 ff:=by
 refine zx (P:=Tryd.prog) (cx:=CF [] []) (bf:=[5]) (e:=.str) (tid:=36) (fn:=Tryd.f57) (s0:=fun l=>(vN (fun _=>none) [.data (.slice .str) l]).put 2 (.data (.slice .str) ([]:List (.str:Ty).den))) mix (Ew [] []) (uO bF bk Bd bG) Tryd.func57 (by kernel_rfl)
  (by rfl) rfl (by decide) (by decide) rfl rfl rfl rfl rfl rfl (fun l=>by rfl) (fun l=>rfl) (fun l=>rfl) (fun l=>rfl) (fun l=>by rfl) (fun l hl=>?_)
 have key:∀m:List (.str:Ty).den,fits (len m)=true→b8 (fits (plus (len ([]:List (.str:Ty).den)) (len m))) (some ((app [] m,()):(Ty.pair (.slice .str) .unit).den)) none=some (m,()):=by
  intro m hm;have e:plus (len ([]:List (.str:Ty).den)) (len m)=len m:=by simp[plus,len]
  rw[e,hm];rfl
 exact Eq.trans (b:=b8 (fits (plus (len ([]:List (.str:Ty).den)) (len (α:=(.str:Ty).den) l))) (some ((app (α:=(.str:Ty).den) [] l,()):(Ty.pair (.slice .str) .unit).den)) none) (by rfl) (key l hl)
noncomputable def bE:oR:=⟨GJ,GJ,fQ⟩
theorem bK:Holds Tryd.prog b6 36 bE:=gw (gE:=[(57,ff)]) (cO:=[]) (inv:=[]) ((aL je bF)) (bk) (bG) (fn:=Tryd.f36) rfl (by kernel_rfl) (fun x=>by kernel_rfl)
noncomputable def bU:oR:=⟨.unit,GJ,kQ⟩
theorem b5:Holds Tryd.prog b6 81 bU:=gw (gE:=[]) (cO:=[]) (inv:=[]) (bF) (bk) (bG) (fn:=Tryd.f81) rfl (by kernel_rfl) (fun x=>by kernel_rfl)
noncomputable def bS:gd:=⟨[true,false],(.pair jU .unit),(.pair (.ref 75 (.pair (.dat .bool) (.pair (.buf zE 83) (.pair (.dat (.int .i64)) (.pair (.dat .bool) (.pair (.dat .bool) (.pair (.dat jU) .unit))))))) .unit),GJ,fR⟩
theorem bZ:cg Tryd.prog b6 55 bS:=bJ (gE:=[(36,bE),(81,bU)]) (cO:=[(31,aM)]) (inv:=[]) ((aL bK (aL b5 bF))) ((aj aS bk)) (bG) (fn:=Tryd.f55) rfl (by kernel_rfl) (fun x=>by kernel_rfl)
noncomputable def dO:oR:=⟨(.pair (.slice (.int .i64)) om),om,bR⟩
theorem gC:Holds Tryd.prog b6 82 dO:=gw (gE:=[]) (cO:=[]) (inv:=[]) (bF) (bk) (bG) (fn:=Tryd.f82) rfl (by kernel_rfl) (fun x=>by kernel_rfl)
noncomputable def av:oR:=⟨(.pair (.slice (.int .i64)) om),GI,aJ⟩
theorem aB:Holds Tryd.prog b6 56 av:=gw (gE:=[(82,dO)]) (cO:=[]) (inv:=[]) ((aL gC bF)) (bk) (bG) (fn:=Tryd.f56) rfl (by kernel_rfl) (fun x=>by kernel_rfl)
noncomputable def dP:gd:=⟨[true,false,false],(.pair jU (.pair (.slice (.int .i64)) .unit)),(.pair (.ref 75 (.pair (.dat .bool) (.pair (.buf zE 83) (.pair (.dat (.int .i64)) (.pair (.dat .bool) (.pair (.dat .bool) (.pair (.dat jU) .unit))))))) .unit),(.pair zD om),cR⟩
theorem eK:cg Tryd.prog b6 34 dP:=bJ (gE:=[(36,bE),(56,av),(81,bU)]) (cO:=[(31,aM),(55,bS)]) (inv:=[]) ((aL bK (aL aB (aL b5 bF)))) ((aj aS (aj bZ bk))) (bG) (fn:=Tryd.f34) rfl (by kernel_rfl) (fun x=>by kernel_rfl)
noncomputable def eC:gd:=⟨[true,false],(.pair jU .unit),(.pair (.ref 75 (.pair (.dat .bool) (.pair (.buf zE 83) (.pair (.dat (.int .i64)) (.pair (.dat .bool) (.pair (.dat .bool) (.pair (.dat jU) .unit))))))) .unit),GI,eA⟩
theorem e9:cg Tryd.prog b6 33 eC:=bJ (gE:=[(36,bE),(56,av),(81,bU)]) (cO:=[(31,aM),(34,dP),(55,bS)]) (inv:=[]) ((aL bK (aL aB (aL b5 bF)))) ((aj aS (aj eK (aj bZ bk)))) (bG) (fn:=Tryd.f33) rfl (by kernel_rfl) (fun x=>by kernel_rfl)
noncomputable def fB:gd:=⟨[true,false,false],(.pair .str om),(.pair (.ref 75 (.pair (.dat .bool) (.pair (.buf zE 83) (.pair (.dat (.int .i64)) (.pair (.dat .bool) (.pair (.dat .bool) (.pair (.dat jU) .unit))))))) .unit),om,gv⟩
theorem gx:cg Tryd.prog b6 35 fB:=bJ (gE:=[(36,bE),(56,av),(81,bU)]) (cO:=[(31,aM),(33,eC),(34,dP),(55,bS)]) (inv:=[]) ((aL bK (aL aB (aL b5 bF)))) ((aj aS (aj e9 (aj eK (aj bZ bk))))) (bG) (fn:=Tryd.f35) rfl (by kernel_rfl) (fun x=>by kernel_rfl)
noncomputable def hU:gd:=⟨[true,false,false],(.pair .str BF),(.pair (.ref 75 (.pair (.dat .bool) (.pair (.buf zE 83) (.pair (.dat (.int .i64)) (.pair (.dat .bool) (.pair (.dat .bool) (.pair (.dat jU) .unit))))))) .unit),om,dH⟩
theorem jt:cg Tryd.prog b6 32 hU:=bJ (gE:=[(36,bE),(56,av),(81,bU)]) (cO:=[(31,aM),(33,eC),(34,dP),(35,fB),(55,bS)]) (inv:=[]) ((aL bK (aL aB (aL b5 bF)))) ((aj aS (aj e9 (aj eK (aj gx (aj bZ bk)))))) (bG) (fn:=Tryd.f32) rfl (by kernel_rfl) (fun x=>by kernel_rfl)
noncomputable def l5:gd:=⟨[true,false,false,false],(.pair .str (.pair .str BF)),(.pair (.ref 75 (.pair (.dat .bool) (.pair (.buf zE 83) (.pair (.dat (.int .i64)) (.pair (.dat .bool) (.pair (.dat .bool) (.pair (.dat jU) .unit))))))) .unit),om,eJ⟩
theorem oP:cg Tryd.prog b6 14 l5:=bJ (gE:=[(36,bE),(56,av),(81,bU)]) (cO:=[(31,aM),(32,hU),(33,eC),(34,dP),(35,fB),(55,bS)]) (inv:=[]) ((aL bK (aL aB (aL b5 bF)))) ((aj aS (aj jt (aj e9 (aj eK (aj gx (aj bZ bk))))))) (bG) (fn:=Tryd.f14) rfl (by kernel_rfl) (fun x=>by kernel_rfl)
noncomputable def ga:gd:=⟨[true],.unit,(.pair (.ref 75 (.pair (.dat .bool) (.pair (.buf zE 83) (.pair (.dat (.int .i64)) (.pair (.dat .bool) (.pair (.dat .bool) (.pair (.dat jU) .unit))))))) .unit),(.pair jU GI),dK⟩
theorem iC:cg Tryd.prog b6 15 ga:=bJ (gE:=[]) (cO:=[(31,aM)]) (inv:=[]) (bF) ((aj aS bk)) (bG) (fn:=Tryd.f15) rfl (by kernel_rfl) (fun x=>by kernel_rfl)
noncomputable def iD:gd:=⟨[true,false],GJ,(.pair (.ref 75 (.pair (.dat .bool) (.pair (.buf zE 83) (.pair (.dat (.int .i64)) (.pair (.dat .bool) (.pair (.dat .bool) (.pair (.dat jU) .unit))))))) .unit),om,cS⟩
theorem lF:cg Tryd.prog b6 16 iD:=bJ (gE:=[(36,bE)]) (cO:=[(15,ga),(31,aM)]) (inv:=[]) ((aL bK bF)) ((aj iC (aj aS bk))) (bG) (fn:=Tryd.f16) rfl (by kernel_rfl) (fun x=>by kernel_rfl)
noncomputable def oq:oR:=⟨.unit,GI,fA⟩
theorem vJ:Holds Tryd.prog b6 8 oq:=gw (gE:=[(6,rL),(36,bE),(56,av),(81,bU)]) (cO:=[(13,hJ),(14,l5),(15,ga),(16,iD),(31,aM),(32,hU),(33,eC),(34,dP),(35,fB),(55,bS)]) (inv:=[]) ((aL zF (aL bK (aL aB (aL b5 bF))))) ((aj kz (aj oP (aj iC (aj lF (aj aS (aj jt (aj e9 (aj eK (aj gx (aj bZ bk))))))))))) (bG) (fn:=Tryd.f8) rfl (by kernel_rfl) (fun x=>by kernel_rfl)
noncomputable def mw:oR:=⟨(.pair (.slice zD) om),GI,fe⟩
theorem sy:Holds Tryd.prog b6 20 mw:=gw (gE:=[]) (cO:=[]) (inv:=[]) (bF) (bk) (bG) (fn:=Tryd.f20) rfl (by kernel_rfl) (fun x=>by kernel_rfl)
noncomputable def kC:gd:=⟨[true],.unit,(.pair (.ref 59 (.pair (.buf jU 41) (.pair (.buf zD 38) (.pair (.dat (.int .i64)) (.pair (.dat jU) (.pair (.dat .bool) (.pair (.dat .bool) .unit))))))) .unit),.unit,gZ⟩
theorem qb:cg Tryd.prog b6 21 kC:=bJ (gE:=[]) (cO:=[]) (inv:=[]) (bF) (bk) (bG) (fn:=Tryd.f21) rfl (by kernel_rfl) (fun x=>by kernel_rfl)
noncomputable def nq:gd:=⟨[true,false],H6,(.pair (.ref 75 (.pair (.dat .bool) (.pair (.buf zE 83) (.pair (.dat (.int .i64)) (.pair (.dat .bool) (.pair (.dat .bool) (.pair (.dat jU) .unit))))))) .unit),om,kg⟩
theorem rM:cg Tryd.prog b6 41 nq:=bJ (gE:=[(36,bE),(56,av),(81,bU)]) (cO:=[(31,aM),(34,dP),(55,bS)]) (inv:=[]) ((aL bK (aL aB (aL b5 bF)))) ((aj aS (aj eK (aj bZ bk)))) (bG) (fn:=Tryd.f41) rfl (by kernel_rfl) (fun x=>by kernel_rfl)
noncomputable def nu:gd:=⟨[true,false],BF,(.pair (.ref 75 (.pair (.dat .bool) (.pair (.buf zE 83) (.pair (.dat (.int .i64)) (.pair (.dat .bool) (.pair (.dat .bool) (.pair (.dat jU) .unit))))))) .unit),om,kj⟩
theorem rN:cg Tryd.prog b6 42 nu:=bJ (gE:=[(36,bE),(56,av),(81,bU)]) (cO:=[(31,aM),(34,dP),(55,bS)]) (inv:=[]) ((aL bK (aL aB (aL b5 bF)))) ((aj aS (aj eK (aj bZ bk)))) (bG) (fn:=Tryd.f42) rfl (by kernel_rfl) (fun x=>by kernel_rfl)
noncomputable def nw:gd:=⟨[true,false],BF,(.pair (.ref 75 (.pair (.dat .bool) (.pair (.buf zE 83) (.pair (.dat (.int .i64)) (.pair (.dat .bool) (.pair (.dat .bool) (.pair (.dat jU) .unit))))))) .unit),(.pair .str om),eU⟩
theorem rO:cg Tryd.prog b6 43 nw:=bJ (gE:=[(36,bE),(56,av),(81,bU)]) (cO:=[(31,aM),(33,eC),(34,dP),(55,bS)]) (inv:=[]) ((aL bK (aL aB (aL b5 bF)))) ((aj aS (aj e9 (aj eK (aj bZ bk))))) (bG) (fn:=Tryd.f43) rfl (by kernel_rfl) (fun x=>by kernel_rfl)
noncomputable def rP:gd:=⟨[true,false,false],(.pair (.int .i64) H6),(.pair (.ref 75 (.pair (.dat .bool) (.pair (.buf zE 83) (.pair (.dat (.int .i64)) (.pair (.dat .bool) (.pair (.dat .bool) (.pair (.dat jU) .unit))))))) .unit),(.pair .str om),ko⟩
theorem zG:cg Tryd.prog b6 22 rP:=bJ (gE:=[(36,bE),(56,av),(81,bU)]) (cO:=[(14,l5),(31,aM),(32,hU),(33,eC),(34,dP),(35,fB),(41,nq),(42,nu),(43,nw),(55,bS)]) (inv:=[]) ((aL bK (aL aB (aL b5 bF)))) ((aj oP (aj aS (aj jt (aj e9 (aj eK (aj gx (aj rM (aj rN (aj rO (aj bZ bk))))))))))) (bG) (fn:=Tryd.f22) rfl (by kernel_rfl) (fun x=>by kernel_rfl)
noncomputable def cZ:gd:=⟨[true,false],(.pair jU .unit),(.pair (.ref 59 (.pair (.buf jU 41) (.pair (.buf zD 38) (.pair (.dat (.int .i64)) (.pair (.dat jU) (.pair (.dat .bool) (.pair (.dat .bool) .unit))))))) .unit),GJ,aY⟩
theorem dQ:cg Tryd.prog b6 62 cZ:=bJ (gE:=[]) (cO:=[]) (inv:=[]) (bF) (bk) (bG) (fn:=Tryd.f62) rfl (by kernel_rfl) (fun x=>by kernel_rfl)
noncomputable def l6:gd:=⟨[true,false],H6,(.pair (.ref 59 (.pair (.buf jU 41) (.pair (.buf zD 38) (.pair (.dat (.int .i64)) (.pair (.dat jU) (.pair (.dat .bool) (.pair (.dat .bool) .unit))))))) .unit),om,jq⟩
theorem qc:cg Tryd.prog b6 44 l6:=bJ (gE:=[]) (cO:=[(62,cZ)]) (inv:=[]) (bF) ((aj dQ bk)) (bG) (fn:=Tryd.f44) rfl (by kernel_rfl) (fun x=>by kernel_rfl)
noncomputable def l7:gd:=⟨[true,false],BF,(.pair (.ref 59 (.pair (.buf jU 41) (.pair (.buf zD 38) (.pair (.dat (.int .i64)) (.pair (.dat jU) (.pair (.dat .bool) (.pair (.dat .bool) .unit))))))) .unit),om,jr⟩
theorem qd:cg Tryd.prog b6 45 l7:=bJ (gE:=[]) (cO:=[(62,cZ)]) (inv:=[]) (bF) ((aj dQ bk)) (bG) (fn:=Tryd.f45) rfl (by kernel_rfl) (fun x=>by kernel_rfl)
noncomputable def fC:oR:=⟨GJ,GI,cv⟩
theorem gy:Holds Tryd.prog b6 63 fC:=gw (gE:=[]) (cO:=[]) (inv:=[]) (bF) (bk) (bG) (fn:=Tryd.f63) rfl (by kernel_rfl) (fun x=>by kernel_rfl)
noncomputable def iM:gd:=⟨[true,false,false],(.pair .str BF),(.pair (.ref 59 (.pair (.buf jU 41) (.pair (.buf zD 38) (.pair (.dat (.int .i64)) (.pair (.dat jU) (.pair (.dat .bool) (.pair (.dat .bool) .unit))))))) .unit),om,cW⟩
theorem kR:cg Tryd.prog b6 46 iM:=bJ (gE:=[(63,fC)]) (cO:=[(62,cZ)]) (inv:=[]) ((aL gy bF)) ((aj dQ bk)) (bG) (fn:=Tryd.f46) rfl (by kernel_rfl) (fun x=>by kernel_rfl)
noncomputable def l8:gd:=⟨[true,false],BF,(.pair (.ref 59 (.pair (.buf jU 41) (.pair (.buf zD 38) (.pair (.dat (.int .i64)) (.pair (.dat jU) (.pair (.dat .bool) (.pair (.dat .bool) .unit))))))) .unit),(.pair .str om),eB⟩
theorem qe:cg Tryd.prog b6 47 l8:=bJ (gE:=[(63,fC)]) (cO:=[(62,cZ)]) (inv:=[]) ((aL gy bF)) ((aj dQ bk)) (bG) (fn:=Tryd.f47) rfl (by kernel_rfl) (fun x=>by kernel_rfl)
noncomputable def nx:gd:=⟨[true,false,false,false],(.pair .str (.pair .str BF)),(.pair (.ref 59 (.pair (.buf jU 41) (.pair (.buf zD 38) (.pair (.dat (.int .i64)) (.pair (.dat jU) (.pair (.dat .bool) (.pair (.dat .bool) .unit))))))) .unit),om,eV⟩
theorem rQ:cg Tryd.prog b6 48 nx:=bJ (gE:=[(63,fC)]) (cO:=[(46,iM),(62,cZ)]) (inv:=[]) ((aL gy bF)) ((aj kR (aj dQ bk))) (bG) (fn:=Tryd.f48) rfl (by kernel_rfl) (fun x=>by kernel_rfl)
noncomputable def qf:gd:=⟨[true,false,false],(.pair (.int .i64) H6),(.pair (.ref 59 (.pair (.buf jU 41) (.pair (.buf zD 38) (.pair (.dat (.int .i64)) (.pair (.dat jU) (.pair (.dat .bool) (.pair (.dat .bool) .unit))))))) .unit),(.pair .str om),js⟩
theorem xT:cg Tryd.prog b6 23 qf:=bJ (gE:=[(63,fC)]) (cO:=[(44,l6),(45,l7),(46,iM),(47,l8),(48,nx),(62,cZ)]) (inv:=[]) ((aL gy bF)) ((aj qc (aj qd (aj kR (aj qe (aj rQ (aj dQ bk))))))) (bG) (fn:=Tryd.f23) rfl (by kernel_rfl) (fun x=>by kernel_rfl)
noncomputable def lG:gd:=⟨[true,false],GJ,(.pair (.ref 59 (.pair (.buf jU 41) (.pair (.buf zD 38) (.pair (.dat (.int .i64)) (.pair (.dat jU) (.pair (.dat .bool) (.pair (.dat .bool) .unit))))))) .unit),om,dL⟩
theorem qQ:cg Tryd.prog b6 24 lG:=bJ (gE:=[]) (cO:=[]) (inv:=[]) (bF) (bk) (bG) (fn:=Tryd.f24) rfl (by kernel_rfl) (fun x=>by kernel_rfl)
noncomputable def qR:oR:=⟨(.pair (.int .i64) (.pair (.arr 3 .str) (.pair (.slice zD) .unit))),GI,fZ⟩
theorem qS:Holds Tryd.prog b6 5 qR:=gw (gE:=[(8,oq),(20,mw),(36,bE),(56,av),(63,fC),(81,bU)]) (cO:=[(13,hJ),(14,l5),(15,ga),(16,iD),(21,kC),(22,rP),(23,qf),(24,lG),(31,aM),(32,hU),(33,eC),(34,dP),(35,fB),(41,nq),(42,nu),(43,nw),(44,l6),(45,l7),(46,iM),(47,l8),(48,nx),(55,bS),(62,cZ)]) (inv:=[]) ((aL vJ (aL sy (aL bK (aL aB (aL gy (aL b5 bF))))))) ((aj kz (aj oP (aj iC (aj lF (aj qb (aj zG (aj xT (aj qQ (aj aS (aj jt (aj e9 (aj eK (aj gx (aj rM (aj rN (aj rO (aj qc (aj qd (aj kR (aj qe (aj rQ (aj bZ (aj dQ bk)))))))))))))))))))))))) (bG) (fn:=Tryd.f5) rfl (by kernel_rfl) (fun x=>by kernel_rfl)
end Go.Proofs.YtkgjcocemmnpjaaDoor
