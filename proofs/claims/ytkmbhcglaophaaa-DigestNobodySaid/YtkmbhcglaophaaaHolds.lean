/- The layer's functions keep their contracts: each comes to its plain definition, by the ghost interpreter. -/
import Derived.Test.YtkmbhcglaophaaaRows
import Derived.Test.YtkmbhcglaophaaaPlB
import Derived.Test.YtkmbhcglaophaaaBld
import Derived.Test.YtkmbhcglaophaaaOnce
set_option linter.unusedVariables false
set_option linter.unusedSectionVars false
set_option linter.unusedSimpArgs false
namespace Go.Proofs.Ytkmbhcglaophaaa
open Go Go.Ge
set_option maxRecDepth 100000
variable [Lp]
abbrev Mf:Ty:=(.pair .unit (.pair (.pair .unit (.pair (.int .u32) .unit)) (.pair (.pair .unit (.pair (.pair (.int .i32) (.pair (.int .u32) .unit)) .unit)) .unit)))
abbrev EX:Ty:=(.pair (.int .i64) .unit)
abbrev wD:Ty:=(.pair .str .unit)
abbrev LO:Ty:=(.pair (.arr 8 (.int .u32)) .unit)
abbrev Nf:Ty:=(.pair (.pair .bool LO) (.pair (.arr 64 (.int .u8)) EX))
abbrev JS:Ty:=(.pair .bool .unit)
noncomputable def bS:Nat→lX
 | 4=>⟨[some ⟨[(2,4),(5,3)],[3,4],false⟩,none,none],[]⟩
 | 5=>⟨[none,none,some ⟨[(4,4),(6,3)],[5],false⟩,none,none],[]⟩
 | 6=>⟨[],[]⟩
 | 7=>⟨[],[]⟩
 | 8=>⟨[],[]⟩
 | 9=>⟨[none],[]⟩
 | 11=>⟨[],[]⟩
 | 12=>⟨[none],[]⟩
 | 13=>⟨[none],[]⟩
 | 14=>⟨[none],[]⟩
 | 15=>⟨[],[]⟩
 | 16=>⟨[],[]⟩
 | 17=>⟨[some ⟨[(9,3)],[3],false⟩,none],[]⟩
 | 18=>⟨[some ⟨[(5,3)],[3],false⟩,none,some ⟨[(7,3)],[6],false⟩,none],[]⟩
 | 19=>⟨[some ⟨[(3,52),(4,3)],[3],false⟩,none],[3]⟩
 | 20=>⟨[],[]⟩
 | 21=>⟨[none,some ⟨[(0,9),(2,9),(3,4),(4,52)],[4],false⟩,none,none],[4]⟩
 | 27=>⟨[none,some ⟨[(1,9)],[0],false⟩,none,some ⟨[],[0],false⟩],[]⟩
 | 28=>⟨[some ⟨[],[3],false⟩,some ⟨[],[3],false⟩,none,some ⟨[(26,3)],[5],false⟩,none,some ⟨[(41,3)],[7],false⟩,none],[]⟩
 | 29=>⟨[],[]⟩
 | 31=>⟨[],[]⟩
 | 32=>⟨[some ⟨[(3,52)],[0,3],false⟩,none,some ⟨[(3,52),(5,3)],[3],false⟩,none],[]⟩
 | 33=>⟨[some ⟨[(6,3)],[5],false⟩,none,some ⟨[(7,3)],[5],false⟩,none,some ⟨[(12,3)],[11],false⟩,none,some ⟨[(17,3)],[11],false⟩,none],[]⟩
 | 34=>⟨[none],[]⟩
 | 35=>⟨[none],[]⟩
 | 36=>⟨[],[]⟩
 | 42=>⟨[some ⟨[],[0],false⟩,some ⟨[(6,31),(7,31),(8,31),(9,31),(10,31),(11,31),(12,31),(13,31),(74,3)],[],false⟩,none,some ⟨[(143,3)],[0],false⟩,none],[]⟩
 | 44=>⟨[],[]⟩
 | 45=>⟨[],[]⟩
 | 46=>⟨[],[]⟩
 | 52=>⟨[],[]⟩
 | 53=>⟨[],[]⟩
 | 54=>⟨[some ⟨[(12,3)],[3],false⟩,none,some ⟨[(22,3)],[3],false⟩,none,some ⟨[(7,3)],[3],false⟩,none],[]⟩
 | 55=>⟨[],[]⟩
 | 62=>⟨[],[]⟩
 | _=>⟨[],[]⟩
def jV:List (Nat×List gr):=[(69,[.self,.buf (.int .u8) 5]),(44,[.dat .str,.dat Mf,.dat .str,.dat (.pair .unit (.pair .unit EX))])]
def els:List (Nat×Nat):=[(52,5)]
noncomputable def zY:List (Nat×EZ):=[(30,.str 69 5),(43,.FK 69)]
noncomputable def tys:List (Nat×Ty):=[(2,(.int .i64)),(3,(.int .i64)),(4,.bool),(5,(.int .u8)),(9,.str),(21,(.int .i32)),(24,(.int .i64)),(31,(.int .u32)),(35,(.pair (.int .i32) (.pair (.int .u32) .unit))),(50,(.arr 32 (.int .u8))),(52,(.slice (.int .u8))),(59,(.arr 8 (.int .u32))),(61,(.pair .bool LO)),(62,(.arr 64 (.int .u8))),(64,Nf),(73,(.int .u64)),(86,(.int .u64)),(87,(.arr 8 (.int .u8))),(89,(.arr 64 (.int .u32)))]
noncomputable def HB:List (Nat×Func):=[(4,Try.f4),(5,Try.f5),(6,Try.f6),(7,Try.f7),(8,Try.f8),(9,Try.f9),(11,Try.f11),(12,Try.f12),(13,Try.f13),(14,Try.f14),(15,Try.f15),(16,Try.f16),(17,Try.f17),(18,Try.f18),(19,Try.f19),(20,Try.f20),(21,Try.f21),(27,Try.f27),(28,Try.f28),(29,Try.f29),(31,Try.f31),(32,Try.f32),(33,Try.f33),(34,Try.f34),(35,Try.f35),(36,Try.f36),(42,Try.f42),(44,Try.f44),(45,Try.f45),(46,Try.f46),(52,Try.f52),(53,Try.f53),(54,Try.f54),(55,Try.f55),(62,Try.f62)]
def jy:List Nat:=[1,27,67,79,80,82,84,88,92,94,96,100,103,105]
def cO:List Nat:=[27,67,79,80,82,84,88,92,94,96,100,103,105]
noncomputable def HC(gX:List (Nat×kJ))(cI:List (Nat×pJ))(inv:List (String×kJ):=[]):Ctx:=⟨tys,jy,cO,HB,gX,cI,jV,zY,els,inv⟩
theorem mix:Try.prog.follows .mixedOrders=true:=by kernel_rfl
theorem LP:∀tid t,find tys tid=some t→Den Try.prog t tid:=Kn (by kernel_rfl)
theorem Je:∀tid,bC jy tid=true→(∀w,(isAgg tid).run Try.prog w=.ok false w)∧(∀w,(Go.sizeOf tid).run Try.prog w=.ok 1 w)∧∃z,(∀w,(zeroValue tid).run Try.prog w=.ok z w)∧z.oneCell'=true:=IG (by kernel_rfl)
theorem Jf:∀tid,bC cO tid=true→∃e,Try.prog.underlying tid=some (.pointer e):=II (by kernel_rfl)
theorem KA:∀f fn,find HB f=some fn→Try.prog.funcs[f]?=some fn:=Ko ((aS Try.func4 (aS Try.func5 (aS Try.func6 (aS Try.func7 (aS Try.func8 (aS Try.func9 (aS Try.func11 (aS Try.func12 (aS Try.func13 (aS Try.func14 (aS Try.func15 (aS Try.func16 (aS Try.func17 (aS Try.func18 (aS Try.func19 (aS Try.func20 (aS Try.func21 (aS Try.func27 (aS Try.func28 (aS Try.func29 (aS Try.func31 (aS Try.func32 (aS Try.func33 (aS Try.func34 (aS Try.func35 (aS Try.func36 (aS Try.func42 (aS Try.func44 (aS Try.func45 (aS Try.func46 (aS Try.func52 (aS Try.func53 (aS Try.func54 (aS Try.func55 (aS Try.func62 IJ))))))))))))))))))))))))))))))))))))
theorem Jg:∀tid fs,find jV tid=some fs→wL Try.prog tid fs=true:=IL (by kernel_rfl)
theorem KB:∀tid e,find els tid=some e→Try.prog.underlying tid=some (.slice e):=Kp (by kernel_rfl)
theorem JT(gX:List (Nat×kJ))(cI:List (Nat×pJ))(inv:List (String×kJ):=[]):dw Try.prog (HC gX cI inv):=⟨LP,Je,Jf,KA,Jg,KB⟩
theorem HD:∀p∈zY,ng Try.prog p.1 p.2:=(Be lK (Be jO IK))
theorem DN(gX:List (Nat×kJ))(cI:List (Nat×pJ))(inv:List (String×kJ):=[]):A9 (HC gX cI inv):=GN (cx:=HC gX cI inv) (show(HB.all fun p=>Ew p.2)=true by kernel_rfl)
def bX:eN:=yA
theorem bz{gX:List (Nat×kJ)}{cI:List (Nat×pJ)}{inv:List (String×kJ)}(dy:∀p∈gX,Holds Try.prog bX p.1 p.2)(HE:∀p∈cI,fR Try.prog bX p.1 p.2)(hinv:∀p∈inv,vf Try.prog bX p.1 p.2){f:Nat}{fn:Func}{A R:Ty}{spec:A.den→Option R.den}(hfn:find HB f=some fn)(hb:fn.body.isSome=true)
  (hs:∀x,sem (HC gX cI inv) 12 bS f A R x=spec x):Holds Try.prog bX f ⟨A,R,spec⟩:=by
 obtain⟨code,HF⟩:=Option.isSome_iff_exists.1 hb;exact zx mix (JT gX cI inv) (Bf dy HE HD hinv) (DN gX cI inv) (f:=f) hfn HF (fun x y h=>by rw[hs];exact h)
theorem sA{gX:List (Nat×kJ)}{cI:List (Nat×pJ)}{inv:List (String×kJ)}(dy:∀p∈gX,Holds Try.prog bX p.1 p.2)(HE:∀p∈cI,fR Try.prog bX p.1 p.2)(hinv:∀p∈inv,vf Try.prog bX p.1 p.2){f:Nat}{fn:Func}{ps:List Bool}{A:Ty}{U:OT}{R:Ty}{spec:A.den×U.den→Option (R.den×U.den)}(hfn:find HB f=some fn)(hb:fn.body.isSome=true)
  (hs:∀x,J3 (HC gX cI inv) 12 bS f ps A U R x=spec x):fR Try.prog bX f ⟨ps,A,U,R,spec⟩:=by
 obtain⟨code,HF⟩:=Option.isSome_iff_exists.1 hb;exact xw mix (JT gX cI inv) (Bf dy HE HD hinv) (DN gX cI inv) (f:=f) hfn HF (fun x y h=>by rw[hs];exact h)
noncomputable def lg:kJ:=⟨.unit,LO,jm⟩
theorem n6:Holds Try.prog bX 52 lg:=bz (gX:=[]) (cI:=[]) (inv:=[]) (bG) (bh) (bH) (fn:=Try.f52) rfl (by kernel_rfl) (fun x=>by kernel_rfl)
noncomputable def lp:kJ:=⟨.unit,(.pair (.arr 64 (.int .u32)) .unit),nV⟩
theorem n7:Holds Try.prog bX 53 lp:=bz (gX:=[]) (cI:=[]) (inv:=[]) (bG) (bh) (bH) (fn:=Try.f53) rfl (by kernel_rfl) (fun x=>by kernel_rfl)
noncomputable def gI:kJ:=⟨(.pair (.int .u32) EX),(.pair (.int .u32) .unit),eE⟩
theorem lM:Holds Try.prog bX 62 gI:=bz (gX:=[]) (cI:=[]) (inv:=[]) (bG) (bh) (bH) (fn:=Try.f62) rfl (by kernel_rfl) (fun x=>by kernel_rfl)
noncomputable def js:kJ:=⟨(.pair (.int .u32) EX),(.pair (.int .u32) .unit),aT⟩
theorem lq:Holds Try.prog bX 55 js:=bz (gX:=[(62,gI)]) (cI:=[]) (inv:=[]) ((aN lM bG)) (bh) (bH) (fn:=Try.f55) rfl (by kernel_rfl) (fun x=>by kernel_rfl)
noncomputable def iA:kJ:=⟨(.pair (.arr 64 (.int .u8)) .unit),(.pair (.arr 64 (.int .u32)) .unit),iu⟩
theorem kG:Holds Try.prog bX 54 iA:=bz (gX:=[(55,js)]) (cI:=[]) (inv:=[]) ((aN lq bG)) (bh) (bH) (fn:=Try.f54) rfl (by kernel_rfl) (fun x=>by kernel_rfl)
noncomputable def iU:pJ:=⟨[true,false],wD,(.pair (.ref 0 (.dat Nf)) .unit),.unit,cF⟩
theorem mA:fR Try.prog bX 27 iU:=sA (gX:=[(52,lg),(53,lp),(54,iA),(55,js)]) (cI:=[]) (inv:=[]) ((aN n6 (aN n7 (aN kG (aN lq bG))))) (bh) (bH) (fn:=Try.f27) rfl (by kernel_rfl) (fun x=>by kernel_rfl)
noncomputable def mB:pJ:=⟨[true],.unit,(.pair (.ref 0 (.dat Nf)) .unit),(.pair (.arr 32 (.int .u8)) .unit),gp⟩
theorem sB:fR Try.prog bX 28 mB:=sA (gX:=[(52,lg),(53,lp),(54,iA),(55,js)]) (cI:=[(27,iU)]) (inv:=[]) ((aN n6 (aN n7 (aN kG (aN lq bG))))) ((gn mA bh)) (bH) (fn:=Try.f28) rfl (by kernel_rfl) (fun x=>by kernel_rfl)
noncomputable def yh:kJ:=⟨wD,(.pair (.arr 32 (.int .u8)) .unit),oI⟩
theorem EY:Holds Try.prog bX 16 yh:=bz (gX:=[(52,lg),(53,lp),(54,iA),(55,js)]) (cI:=[(27,iU),(28,mB)]) (inv:=[]) ((aN n6 (aN n7 (aN kG (aN lq bG))))) ((gn mA (gn sB bh))) (bH) (fn:=Try.f16) rfl (by kernel_rfl) (fun x=>by kernel_rfl)
noncomputable def rz:kJ:=⟨wD,wD,jM⟩
theorem zK:Holds Try.prog bX 17 rz:=bz (gX:=[]) (cI:=[]) (inv:=[]) (bG) (bh) (bH) (fn:=Try.f17) rfl (by kernel_rfl) (fun x=>by kernel_rfl)
noncomputable def jt:kJ:=⟨wD,wD,eg⟩
theorem ju:Holds Try.prog bX 7 jt:=bz (gX:=[(16,yh),(17,rz)]) (cI:=[]) (inv:=[]) ((aN EY (aN zK bG))) (bh) (bH) (fn:=Try.f7) rfl (by kernel_rfl) (fun x=>by kernel_rfl)
noncomputable def ep:kJ:=⟨(.pair .str wD),JS,bL⟩
theorem iB:Holds Try.prog bX 46 ep:=bz (gX:=[]) (cI:=[]) (inv:=[]) (bG) (bh) (bH) (fn:=Try.f46) rfl (by kernel_rfl) (fun x=>by kernel_rfl)
noncomputable def er:kJ:=⟨(.pair .str wD),(.pair .str JS),cj⟩
theorem iC:Holds Try.prog bX 35 er:=bz (gX:=[(46,ep)]) (cI:=[]) (inv:=[]) ((aN iB bG)) (bh) (bH) (fn:=Try.f35) rfl (by kernel_rfl) (fun x=>by kernel_rfl)
noncomputable def jE:kJ:=⟨(.pair .str wD),(.pair .str JS),eJ⟩
theorem oT:Holds Try.prog bX 20 jE:=bz (gX:=[(35,er)]) (cI:=[]) (inv:=[]) ((aN iC bG)) (bh) (bH) (fn:=Try.f20) rfl (by kernel_rfl) (fun x=>by kernel_rfl)
noncomputable def eu:kJ:=⟨(.pair .str (.pair (.int .u8) .unit)),EX,bK⟩
theorem iD:Holds Try.prog bX 47 eu:=zz (spec:=fun s c=>Lib.indexByte s (show Int from c).toNat.toUInt8) Try.func47 (by kernel_rfl) (by kernel_rfl) (fun s c=>tV _ s) (fun s c w=>by
 go_enter Try.func47,Try.ntmps47
 go_wp2
 rw[run_callFunc_extern Try.func57 (by kernel_rfl) (by kernel_rfl) (by kernel_rfl) (e:=Extern.BytealgIndexByte.indexByte) (by kernel_rfl),Lib.run_indexByteString];simp only[Result.andThen];rw[Oper.upon_value]
 go_wp2
 go_ret
 exact⟨rfl,rfl⟩)
noncomputable def jF:kJ:=⟨(.pair .str (.pair (.int .u8) .unit)),EX,de⟩
theorem oU:Holds Try.prog bX 36 jF:=bz (gX:=[(47,eu)]) (cI:=[]) (inv:=[]) ((aN iD bG)) (bh) (bH) (fn:=Try.f36) rfl (by kernel_rfl) (fun x=>by kernel_rfl)
noncomputable def n8:kJ:=⟨wD,(.pair .str JS),iw⟩
theorem wo:Holds Try.prog bX 21 n8:=bz (gX:=[(36,jF)]) (cI:=[]) (inv:=[]) ((aN oU bG)) (bh) (bH) (fn:=Try.f21) rfl (by kernel_rfl) (fun x=>by kernel_rfl)
noncomputable def n9:kJ:=⟨wD,EX,fV⟩
theorem wq:Holds Try.prog bX 9 n9:=bz (gX:=[(20,jE),(21,n8)]) (cI:=[]) (inv:=[]) ((aN oT (aN wo bG))) (bh) (bH) (fn:=Try.f9) rfl (by kernel_rfl) (fun x=>by kernel_rfl)
noncomputable def tf:kJ:=⟨(.pair .str wD),JS,jn⟩
theorem Bs:Holds Try.prog bX 11 tf:=bz (gX:=[(7,jt)]) (cI:=[]) (inv:=[]) ((aN ju bG)) (bh) (bH) (fn:=Try.f11) rfl (by kernel_rfl) (fun x=>by kernel_rfl)
noncomputable def lN:kJ:=⟨.unit,JS,fC⟩
theorem pn:Holds Try.prog bX 6 lN:=bz (gX:=[(7,jt),(9,n9),(11,tf)]) (cI:=[]) (inv:=[]) ((aN ju (aN wq (aN Bs bG)))) (bh) (bH) (fn:=Try.f6) rfl (by kernel_rfl) (fun x=>by kernel_rfl)
noncomputable def pq:kJ:=⟨.unit,LO,lI⟩
theorem xI:Holds Try.prog bX 31 pq:=bz (gX:=[]) (cI:=[]) (inv:=[]) (bG) (bh) (bH) (fn:=Try.f31) rfl (by kernel_rfl) (fun x=>by kernel_rfl)
noncomputable def pz:kJ:=⟨wD,wD,jc⟩
theorem xJ:Holds Try.prog bX 32 pz:=bz (gX:=[]) (cI:=[]) (inv:=[]) (bG) (bh) (bH) (fn:=Try.f32) rfl (by kernel_rfl) (fun x=>by kernel_rfl)
noncomputable def rA:kJ:=⟨(.pair (.int .u32) EX),(.pair (.int .u32) .unit),aP⟩
theorem zL:Holds Try.prog bX 44 rA:=bz (gX:=[]) (cI:=[]) (inv:=[]) (bG) (bh) (bH) (fn:=Try.f44) rfl (by kernel_rfl) (fun x=>by kernel_rfl)
noncomputable def oa:kJ:=⟨.unit,(.pair (.arr 64 (.int .u32)) .unit),kz⟩
theorem wu:Holds Try.prog bX 45 oa:=bz (gX:=[]) (cI:=[]) (inv:=[]) (bG) (bh) (bH) (fn:=Try.f45) rfl (by kernel_rfl) (fun x=>by kernel_rfl)
noncomputable def pE:kJ:=⟨(.pair (.arr 8 (.int .u32)) wD),LO,jd⟩
theorem xK:Holds Try.prog bX 33 pE:=bz (gX:=[(44,rA),(45,oa)]) (cI:=[]) (inv:=[]) ((aN zL (aN wu bG))) (bh) (bH) (fn:=Try.f33) rfl (by kernel_rfl) (fun x=>by kernel_rfl)
noncomputable def tg:kJ:=⟨wD,(.pair (.arr 32 (.int .u8)) .unit),ld⟩
theorem Bt:Holds Try.prog bX 18 tg:=bz (gX:=[(31,pq),(32,pz),(33,pE)]) (cI:=[]) (inv:=[]) ((aN xI (aN xJ (aN xK bG)))) (bh) (bH) (fn:=Try.f18) rfl (by kernel_rfl) (fun x=>by kernel_rfl)
noncomputable def pF:kJ:=⟨EX,(.pair (.int .u8) .unit),gG⟩
theorem xL:Holds Try.prog bX 34 pF:=bz (gX:=[]) (cI:=[]) (inv:=[]) (bG) (bh) (bH) (fn:=Try.f34) rfl (by kernel_rfl) (fun x=>by kernel_rfl)
noncomputable def tj:kJ:=⟨wD,wD,lf⟩
theorem Bu:Holds Try.prog bX 19 tj:=bz (gX:=[(34,pF)]) (cI:=[]) (inv:=[]) ((aN xL bG)) (bh) (bH) (fn:=Try.f19) rfl (by kernel_rfl) (fun x=>by kernel_rfl)
noncomputable def qa:kJ:=⟨wD,wD,iT⟩
theorem wz:Holds Try.prog bX 8 qa:=bz (gX:=[(18,tg),(19,tj)]) (cI:=[]) (inv:=[]) ((aN Bt (aN Bu bG))) (bh) (bH) (fn:=Try.f8) rfl (by kernel_rfl) (fun x=>by kernel_rfl)
noncomputable def gP:pJ:=⟨[true],.unit,(.pair (.ref 44 (.pair (.dat .str) (.pair (.dat Mf) (.pair (.dat .str) (.pair (.dat (.pair .unit (.pair .unit EX))) .unit))))) .unit),wD,bP⟩
theorem kH:fR Try.prog bX 12 gP:=C8 ju Kz
noncomputable def gx:pJ:=⟨[true],.unit,(.pair (.ref 44 (.pair (.dat .str) (.pair (.dat Mf) (.pair (.dat .str) (.pair (.dat (.pair .unit (.pair .unit EX))) .unit))))) .unit),wD,dh⟩
theorem jG:fR Try.prog bX 13 gx:=sA (gX:=[]) (cI:=[]) (inv:=[]) (bG) (bh) (bH) (fn:=Try.f13) rfl (by kernel_rfl) (fun x=>by kernel_rfl)
noncomputable def gQ:pJ:=⟨[true],.unit,(.pair (.ref 44 (.pair (.dat .str) (.pair (.dat Mf) (.pair (.dat .str) (.pair (.dat (.pair .unit (.pair .unit EX))) .unit))))) .unit),EX,dI⟩
theorem kI:fR Try.prog bX 14 gQ:=C9
noncomputable def oc:kJ:=⟨(.pair (.int .u8) .unit),JS,en⟩
theorem oe:Holds Try.prog bX 4 oc:=bz (gX:=[(6,lN),(7,jt),(8,qa)]) (cI:=[(12,gP),(13,gx),(14,gQ)]) (inv:=[]) ((aN pn (aN ju (aN wz bG)))) ((gn kH (gn jG (gn kI bh)))) (bH) (fn:=Try.f4) rfl (by kernel_rfl) (fun x=>by kernel_rfl)
noncomputable def qb:kJ:=⟨(.pair .str (.pair (.int .u8) .unit)),JS,p6⟩
theorem Da:Holds Try.prog bX 5 qb:=bz (gX:=[(6,lN),(7,jt),(8,qa)]) (cI:=[(12,gP),(13,gx),(14,gQ)]) (inv:=[]) ((aN pn (aN ju (aN wz bG)))) ((gn kH (gn jG (gn kI bh)))) (bH) (fn:=Try.f5) rfl (by kernel_rfl) (fun x=>by kernel_rfl)
end Go.Proofs.Ytkmbhcglaophaaa
