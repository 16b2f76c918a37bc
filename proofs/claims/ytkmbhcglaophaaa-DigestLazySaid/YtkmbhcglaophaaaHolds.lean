/- The layer's functions keep their contracts: each comes to its plain definition, by the ghost interpreter. -/
import Derived.Test.YtkmbhcglaophaaaRows
import Derived.Test.YtkmbhcglaophaaaPlB
import Derived.Test.YtkmbhcglaophaaaBld
import Derived.Test.YtkmbhcglaophaaaOnce
set_option linter.unusedVariables false
set_option linter.unusedSectionVars false
set_option linter.unusedSimpArgs false
namespace Go.Proofs.Ytkmbhcglaophaaa
open Go Go.Ge
set_option maxRecDepth 100000
variable [Lp]
abbrev Me:Ty:=(.pair .unit (.pair (.pair .unit (.pair (.int .u32) .unit)) (.pair (.pair .unit (.pair (.pair (.int .i32) (.pair (.int .u32) .unit)) .unit)) .unit)))
abbrev EW:Ty:=(.pair (.int .i64) .unit)
abbrev wC:Ty:=(.pair .str .unit)
abbrev LN:Ty:=(.pair (.arr 8 (.int .u32)) .unit)
abbrev Nd:Ty:=(.pair (.pair .bool LN) (.pair (.arr 64 (.int .u8)) EW))
abbrev JP:Ty:=(.pair .bool .unit)
noncomputable def cc:Nat→lX
 | 4=>⟨[some ⟨[(2,4),(5,3)],[3,4],false⟩,none,none],[]⟩
 | 5=>⟨[none,none,some ⟨[(4,4),(6,3)],[5],false⟩,none,none],[]⟩
 | 6=>⟨[],[]⟩
 | 7=>⟨[],[]⟩
 | 8=>⟨[],[]⟩
 | 9=>⟨[none],[]⟩
 | 11=>⟨[],[]⟩
 | 12=>⟨[none],[]⟩
 | 13=>⟨[none],[]⟩
 | 14=>⟨[none],[]⟩
 | 15=>⟨[],[]⟩
 | 16=>⟨[],[]⟩
 | 17=>⟨[some ⟨[(9,3)],[3],false⟩,none],[]⟩
 | 18=>⟨[some ⟨[(5,3)],[3],false⟩,none,some ⟨[(7,3)],[6],false⟩,none],[]⟩
 | 19=>⟨[some ⟨[(3,52),(4,3)],[3],false⟩,none],[3]⟩
 | 20=>⟨[],[]⟩
 | 21=>⟨[none,some ⟨[(0,9),(2,9),(3,4),(4,52)],[4],false⟩,none,none],[4]⟩
 | 27=>⟨[none,some ⟨[(1,9)],[0],false⟩,none,some ⟨[],[0],false⟩],[]⟩
 | 28=>⟨[some ⟨[],[3],false⟩,some ⟨[],[3],false⟩,none,some ⟨[(26,3)],[5],false⟩,none,some ⟨[(41,3)],[7],false⟩,none],[]⟩
 | 29=>⟨[],[]⟩
 | 31=>⟨[],[]⟩
 | 32=>⟨[some ⟨[(3,52)],[0,3],false⟩,none,some ⟨[(3,52),(5,3)],[3],false⟩,none],[]⟩
 | 33=>⟨[some ⟨[(6,3)],[5],false⟩,none,some ⟨[(7,3)],[5],false⟩,none,some ⟨[(12,3)],[11],false⟩,none,some ⟨[(17,3)],[11],false⟩,none],[]⟩
 | 34=>⟨[none],[]⟩
 | 35=>⟨[none],[]⟩
 | 36=>⟨[],[]⟩
 | 42=>⟨[some ⟨[],[0],false⟩,some ⟨[(6,31),(7,31),(8,31),(9,31),(10,31),(11,31),(12,31),(13,31),(74,3)],[],false⟩,none,some ⟨[(143,3)],[0],false⟩,none],[]⟩
 | 44=>⟨[],[]⟩
 | 45=>⟨[],[]⟩
 | 46=>⟨[],[]⟩
 | 52=>⟨[],[]⟩
 | 53=>⟨[],[]⟩
 | 54=>⟨[some ⟨[(12,3)],[3],false⟩,none,some ⟨[(22,3)],[3],false⟩,none,some ⟨[(7,3)],[3],false⟩,none],[]⟩
 | 55=>⟨[],[]⟩
 | 62=>⟨[],[]⟩
 | _=>⟨[],[]⟩
def jV:List (Nat×List gr):=[(69,[.self,.buf (.int .u8) 5]),(44,[.dat .str,.dat Me,.dat .str,.dat (.pair .unit (.pair .unit EW))])]
def els:List (Nat×Nat):=[(52,5)]
noncomputable def zX:List (Nat×EY):=[(30,.str 69 5),(43,.FJ 69)]
noncomputable def tys:List (Nat×Ty):=[(2,(.int .i64)),(3,(.int .i64)),(4,.bool),(5,(.int .u8)),(9,.str),(21,(.int .i32)),(24,(.int .i64)),(31,(.int .u32)),(35,(.pair (.int .i32) (.pair (.int .u32) .unit))),(50,(.arr 32 (.int .u8))),(52,(.slice (.int .u8))),(59,(.arr 8 (.int .u32))),(61,(.pair .bool LN)),(62,(.arr 64 (.int .u8))),(64,Nd),(73,(.int .u64)),(86,(.int .u64)),(87,(.arr 8 (.int .u8))),(89,(.arr 64 (.int .u32)))]
noncomputable def Hz:List (Nat×Func):=[(4,Try.f4),(5,Try.f5),(6,Try.f6),(7,Try.f7),(8,Try.f8),(9,Try.f9),(11,Try.f11),(12,Try.f12),(13,Try.f13),(14,Try.f14),(15,Try.f15),(16,Try.f16),(17,Try.f17),(18,Try.f18),(19,Try.f19),(20,Try.f20),(21,Try.f21),(27,Try.f27),(28,Try.f28),(29,Try.f29),(31,Try.f31),(32,Try.f32),(33,Try.f33),(34,Try.f34),(35,Try.f35),(36,Try.f36),(42,Try.f42),(44,Try.f44),(45,Try.f45),(46,Try.f46),(52,Try.f52),(53,Try.f53),(54,Try.f54),(55,Try.f55),(62,Try.f62)]
def jy:List Nat:=[1,27,67,79,80,82,84,88,92,94,96,100,103,105]
def cP:List Nat:=[27,67,79,80,82,84,88,92,94,96,100,103,105]
noncomputable def HA(gX:List (Nat×kJ))(cK:List (Nat×pK))(inv:List (String×kJ):=[]):Ctx:=⟨tys,jy,cP,Hz,gX,cK,jV,zX,els,inv⟩
theorem mix:Try.prog.follows .mixedOrders=true:=by kernel_rfl
theorem Ky:∀tid t,find tys tid=some t→Den Try.prog t tid:=Kl (by kernel_rfl)
theorem Jb:∀tid,bC jy tid=true→(∀w,(isAgg tid).run Try.prog w=.ok false w)∧(∀w,(Go.sizeOf tid).run Try.prog w=.ok 1 w)∧∃z,(∀w,(zeroValue tid).run Try.prog w=.ok z w)∧z.oneCell'=true:=IE (by kernel_rfl)
theorem Jc:∀tid,bC cP tid=true→∃e,Try.prog.underlying tid=some (.pointer e):=IF (by kernel_rfl)
theorem Kz:∀f fn,find Hz f=some fn→Try.prog.funcs[f]?=some fn:=Km ((aS Try.func4 (aS Try.func5 (aS Try.func6 (aS Try.func7 (aS Try.func8 (aS Try.func9 (aS Try.func11 (aS Try.func12 (aS Try.func13 (aS Try.func14 (aS Try.func15 (aS Try.func16 (aS Try.func17 (aS Try.func18 (aS Try.func19 (aS Try.func20 (aS Try.func21 (aS Try.func27 (aS Try.func28 (aS Try.func29 (aS Try.func31 (aS Try.func32 (aS Try.func33 (aS Try.func34 (aS Try.func35 (aS Try.func36 (aS Try.func42 (aS Try.func44 (aS Try.func45 (aS Try.func46 (aS Try.func52 (aS Try.func53 (aS Try.func54 (aS Try.func55 (aS Try.func62 IG))))))))))))))))))))))))))))))))))))
theorem Jd:∀tid fs,find jV tid=some fs→wK Try.prog tid fs=true:=IJ (by kernel_rfl)
theorem KA:∀tid e,find els tid=some e→Try.prog.underlying tid=some (.slice e):=Kn (by kernel_rfl)
theorem JQ(gX:List (Nat×kJ))(cK:List (Nat×pK))(inv:List (String×kJ):=[]):dx Try.prog (HA gX cK inv):=⟨Ky,Jb,Jc,Kz,Jd,KA⟩
theorem HB:∀p∈zX,nh Try.prog p.1 p.2:=(Bd lK (Bd jO II))
theorem DN(gX:List (Nat×kJ))(cK:List (Nat×pK))(inv:List (String×kJ):=[]):A8 (HA gX cK inv):=GL (cx:=HA gX cK inv) (show(Hz.all fun p=>Ew p.2)=true by kernel_rfl)
def bW:eM:=yz
theorem bz{gX:List (Nat×kJ)}{cK:List (Nat×pK)}{inv:List (String×kJ)}(dz:∀p∈gX,Holds Try.prog bW p.1 p.2)(HC:∀p∈cK,fQ Try.prog bW p.1 p.2)(hinv:∀p∈inv,va Try.prog bW p.1 p.2){f:Nat}{fn:Func}{A R:Ty}{spec:A.den→Option R.den}(hfn:find Hz f=some fn)(hb:fn.body.isSome=true)
  (hs:∀x,sem (HA gX cK inv) 12 cc f A R x=spec x):Holds Try.prog bW f ⟨A,R,spec⟩:=by
 obtain⟨code,HD⟩:=Option.isSome_iff_exists.1 hb;exact zw mix (JQ gX cK inv) (Be dz HC HB hinv) (DN gX cK inv) (f:=f) hfn HD (fun x y h=>by rw[hs];exact h)
theorem sy{gX:List (Nat×kJ)}{cK:List (Nat×pK)}{inv:List (String×kJ)}(dz:∀p∈gX,Holds Try.prog bW p.1 p.2)(HC:∀p∈cK,fQ Try.prog bW p.1 p.2)(hinv:∀p∈inv,va Try.prog bW p.1 p.2){f:Nat}{fn:Func}{ps:List Bool}{A:Ty}{U:OT}{R:Ty}{spec:A.den×U.den→Option (R.den×U.den)}(hfn:find Hz f=some fn)(hb:fn.body.isSome=true)
  (hs:∀x,J1 (HA gX cK inv) 12 cc f ps A U R x=spec x):fQ Try.prog bW f ⟨ps,A,U,R,spec⟩:=by
 obtain⟨code,HD⟩:=Option.isSome_iff_exists.1 hb;exact xu mix (JQ gX cK inv) (Be dz HC HB hinv) (DN gX cK inv) (f:=f) hfn HD (fun x y h=>by rw[hs];exact h)
noncomputable def lg:kJ:=⟨.unit,LN,jm⟩
theorem n8:Holds Try.prog bW 52 lg:=bz (gX:=[]) (cK:=[]) (inv:=[]) (bG) (bh) (bH) (fn:=Try.f52) rfl (by kernel_rfl) (fun x=>by kernel_rfl)
noncomputable def lp:kJ:=⟨.unit,(.pair (.arr 64 (.int .u32)) .unit),nW⟩
theorem n9:Holds Try.prog bW 53 lp:=bz (gX:=[]) (cK:=[]) (inv:=[]) (bG) (bh) (bH) (fn:=Try.f53) rfl (by kernel_rfl) (fun x=>by kernel_rfl)
noncomputable def gI:kJ:=⟨(.pair (.int .u32) EW),(.pair (.int .u32) .unit),eD⟩
theorem lM:Holds Try.prog bW 62 gI:=bz (gX:=[]) (cK:=[]) (inv:=[]) (bG) (bh) (bH) (fn:=Try.f62) rfl (by kernel_rfl) (fun x=>by kernel_rfl)
noncomputable def js:kJ:=⟨(.pair (.int .u32) EW),(.pair (.int .u32) .unit),aT⟩
theorem lq:Holds Try.prog bW 55 js:=bz (gX:=[(62,gI)]) (cK:=[]) (inv:=[]) ((aN lM bG)) (bh) (bH) (fn:=Try.f55) rfl (by kernel_rfl) (fun x=>by kernel_rfl)
noncomputable def iA:kJ:=⟨(.pair (.arr 64 (.int .u8)) .unit),(.pair (.arr 64 (.int .u32)) .unit),iu⟩
theorem kG:Holds Try.prog bW 54 iA:=bz (gX:=[(55,js)]) (cK:=[]) (inv:=[]) ((aN lq bG)) (bh) (bH) (fn:=Try.f54) rfl (by kernel_rfl) (fun x=>by kernel_rfl)
noncomputable def iU:pK:=⟨[true,false],wC,(.pair (.ref 0 (.dat Nd)) .unit),.unit,cG⟩
theorem mB:fQ Try.prog bW 27 iU:=sy (gX:=[(52,lg),(53,lp),(54,iA),(55,js)]) (cK:=[]) (inv:=[]) ((aN n8 (aN n9 (aN kG (aN lq bG))))) (bh) (bH) (fn:=Try.f27) rfl (by kernel_rfl) (fun x=>by kernel_rfl)
noncomputable def mC:pK:=⟨[true],.unit,(.pair (.ref 0 (.dat Nd)) .unit),(.pair (.arr 32 (.int .u8)) .unit),gp⟩
theorem sA:fQ Try.prog bW 28 mC:=sy (gX:=[(52,lg),(53,lp),(54,iA),(55,js)]) (cK:=[(27,iU)]) (inv:=[]) ((aN n8 (aN n9 (aN kG (aN lq bG))))) ((gn mB bh)) (bH) (fn:=Try.f28) rfl (by kernel_rfl) (fun x=>by kernel_rfl)
noncomputable def yh:kJ:=⟨wC,(.pair (.arr 32 (.int .u8)) .unit),oJ⟩
theorem EX:Holds Try.prog bW 16 yh:=bz (gX:=[(52,lg),(53,lp),(54,iA),(55,js)]) (cK:=[(27,iU),(28,mC)]) (inv:=[]) ((aN n8 (aN n9 (aN kG (aN lq bG))))) ((gn mB (gn sA bh))) (bH) (fn:=Try.f16) rfl (by kernel_rfl) (fun x=>by kernel_rfl)
noncomputable def rz:kJ:=⟨wC,wC,jM⟩
theorem zI:Holds Try.prog bW 17 rz:=bz (gX:=[]) (cK:=[]) (inv:=[]) (bG) (bh) (bH) (fn:=Try.f17) rfl (by kernel_rfl) (fun x=>by kernel_rfl)
noncomputable def jt:kJ:=⟨wC,wC,eg⟩
theorem ju:Holds Try.prog bW 7 jt:=bz (gX:=[(16,yh),(17,rz)]) (cK:=[]) (inv:=[]) ((aN EX (aN zI bG))) (bh) (bH) (fn:=Try.f7) rfl (by kernel_rfl) (fun x=>by kernel_rfl)
noncomputable def eo:kJ:=⟨(.pair .str wC),JP,bL⟩
theorem iB:Holds Try.prog bW 46 eo:=bz (gX:=[]) (cK:=[]) (inv:=[]) (bG) (bh) (bH) (fn:=Try.f46) rfl (by kernel_rfl) (fun x=>by kernel_rfl)
noncomputable def ep:kJ:=⟨(.pair .str wC),(.pair .str JP),cg⟩
theorem iC:Holds Try.prog bW 35 ep:=bz (gX:=[(46,eo)]) (cK:=[]) (inv:=[]) ((aN iB bG)) (bh) (bH) (fn:=Try.f35) rfl (by kernel_rfl) (fun x=>by kernel_rfl)
noncomputable def jE:kJ:=⟨(.pair .str wC),(.pair .str JP),eI⟩
theorem oU:Holds Try.prog bW 20 jE:=bz (gX:=[(35,ep)]) (cK:=[]) (inv:=[]) ((aN iC bG)) (bh) (bH) (fn:=Try.f20) rfl (by kernel_rfl) (fun x=>by kernel_rfl)
noncomputable def er:kJ:=⟨(.pair .str (.pair (.int .u8) .unit)),EW,bK⟩
theorem iD:Holds Try.prog bW 47 er:=zy (spec:=fun s c=>Lib.indexByte s (show Int from c).toNat.toUInt8) Try.func47 (by kernel_rfl) (by kernel_rfl) (fun s c=>tT _ s) (fun s c w=>by
 go_enter Try.func47,Try.ntmps47
 go_wp2
 rw[run_callFunc_extern Try.func57 (by kernel_rfl) (by kernel_rfl) (by kernel_rfl) (e:=Extern.BytealgIndexByte.indexByte) (by kernel_rfl),Lib.run_indexByteString];simp only[Result.andThen];rw[Oper.upon_value]
 go_wp2
 go_ret
 exact⟨rfl,rfl⟩)
noncomputable def jF:kJ:=⟨(.pair .str (.pair (.int .u8) .unit)),EW,dh⟩
theorem oV:Holds Try.prog bW 36 jF:=bz (gX:=[(47,er)]) (cK:=[]) (inv:=[]) ((aN iD bG)) (bh) (bH) (fn:=Try.f36) rfl (by kernel_rfl) (fun x=>by kernel_rfl)
noncomputable def oa:kJ:=⟨wC,(.pair .str JP),iw⟩
theorem wk:Holds Try.prog bW 21 oa:=bz (gX:=[(36,jF)]) (cK:=[]) (inv:=[]) ((aN oV bG)) (bh) (bH) (fn:=Try.f21) rfl (by kernel_rfl) (fun x=>by kernel_rfl)
noncomputable def oc:kJ:=⟨wC,EW,fU⟩
theorem wo:Holds Try.prog bW 9 oc:=bz (gX:=[(20,jE),(21,oa)]) (cK:=[]) (inv:=[]) ((aN oU (aN wk bG))) (bh) (bH) (fn:=Try.f9) rfl (by kernel_rfl) (fun x=>by kernel_rfl)
noncomputable def tc:kJ:=⟨(.pair .str wC),JP,jn⟩
theorem Br:Holds Try.prog bW 11 tc:=bz (gX:=[(7,jt)]) (cK:=[]) (inv:=[]) ((aN ju bG)) (bh) (bH) (fn:=Try.f11) rfl (by kernel_rfl) (fun x=>by kernel_rfl)
noncomputable def lN:kJ:=⟨.unit,JP,fB⟩
theorem pq:Holds Try.prog bW 6 lN:=bz (gX:=[(7,jt),(9,oc),(11,tc)]) (cK:=[]) (inv:=[]) ((aN ju (aN wo (aN Br bG)))) (bh) (bH) (fn:=Try.f6) rfl (by kernel_rfl) (fun x=>by kernel_rfl)
noncomputable def pz:kJ:=⟨.unit,LN,lI⟩
theorem xH:Holds Try.prog bW 31 pz:=bz (gX:=[]) (cK:=[]) (inv:=[]) (bG) (bh) (bH) (fn:=Try.f31) rfl (by kernel_rfl) (fun x=>by kernel_rfl)
noncomputable def pE:kJ:=⟨wC,wC,jc⟩
theorem xI:Holds Try.prog bW 32 pE:=bz (gX:=[]) (cK:=[]) (inv:=[]) (bG) (bh) (bH) (fn:=Try.f32) rfl (by kernel_rfl) (fun x=>by kernel_rfl)
noncomputable def rA:kJ:=⟨(.pair (.int .u32) EW),(.pair (.int .u32) .unit),aP⟩
theorem zJ:Holds Try.prog bW 44 rA:=bz (gX:=[]) (cK:=[]) (inv:=[]) (bG) (bh) (bH) (fn:=Try.f44) rfl (by kernel_rfl) (fun x=>by kernel_rfl)
noncomputable def oe:kJ:=⟨.unit,(.pair (.arr 64 (.int .u32)) .unit),kz⟩
theorem wq:Holds Try.prog bW 45 oe:=bz (gX:=[]) (cK:=[]) (inv:=[]) (bG) (bh) (bH) (fn:=Try.f45) rfl (by kernel_rfl) (fun x=>by kernel_rfl)
noncomputable def pF:kJ:=⟨(.pair (.arr 8 (.int .u32)) wC),LN,jd⟩
theorem xJ:Holds Try.prog bW 33 pF:=bz (gX:=[(44,rA),(45,oe)]) (cK:=[]) (inv:=[]) ((aN zJ (aN wq bG))) (bh) (bH) (fn:=Try.f33) rfl (by kernel_rfl) (fun x=>by kernel_rfl)
noncomputable def td:kJ:=⟨wC,(.pair (.arr 32 (.int .u8)) .unit),ld⟩
theorem Bs:Holds Try.prog bW 18 td:=bz (gX:=[(31,pz),(32,pE),(33,pF)]) (cK:=[]) (inv:=[]) ((aN xH (aN xI (aN xJ bG)))) (bh) (bH) (fn:=Try.f18) rfl (by kernel_rfl) (fun x=>by kernel_rfl)
noncomputable def pG:kJ:=⟨EW,(.pair (.int .u8) .unit),gG⟩
theorem xK:Holds Try.prog bW 34 pG:=bz (gX:=[]) (cK:=[]) (inv:=[]) (bG) (bh) (bH) (fn:=Try.f34) rfl (by kernel_rfl) (fun x=>by kernel_rfl)
noncomputable def tf:kJ:=⟨wC,wC,lf⟩
theorem Bt:Holds Try.prog bW 19 tf:=bz (gX:=[(34,pG)]) (cK:=[]) (inv:=[]) ((aN xK bG)) (bh) (bH) (fn:=Try.f19) rfl (by kernel_rfl) (fun x=>by kernel_rfl)
noncomputable def p9:kJ:=⟨wC,wC,iT⟩
theorem wu:Holds Try.prog bW 8 p9:=bz (gX:=[(18,td),(19,tf)]) (cK:=[]) (inv:=[]) ((aN Bs (aN Bt bG))) (bh) (bH) (fn:=Try.f8) rfl (by kernel_rfl) (fun x=>by kernel_rfl)
noncomputable def gP:pK:=⟨[true],.unit,(.pair (.ref 44 (.pair (.dat .str) (.pair (.dat Me) (.pair (.dat .str) (.pair (.dat (.pair .unit (.pair .unit EW))) .unit))))) .unit),wC,bP⟩
theorem kH:fQ Try.prog bW 12 gP:=C8 ju Kx
noncomputable def gx:pK:=⟨[true],.unit,(.pair (.ref 44 (.pair (.dat .str) (.pair (.dat Me) (.pair (.dat .str) (.pair (.dat (.pair .unit (.pair .unit EW))) .unit))))) .unit),wC,dm⟩
theorem jG:fQ Try.prog bW 13 gx:=sy (gX:=[]) (cK:=[]) (inv:=[]) (bG) (bh) (bH) (fn:=Try.f13) rfl (by kernel_rfl) (fun x=>by kernel_rfl)
noncomputable def gQ:pK:=⟨[true],.unit,(.pair (.ref 44 (.pair (.dat .str) (.pair (.dat Me) (.pair (.dat .str) (.pair (.dat (.pair .unit (.pair .unit EW))) .unit))))) .unit),EW,cH⟩
theorem kI:fQ Try.prog bW 14 gQ:=C9
noncomputable def oh:kJ:=⟨(.pair (.int .u8) .unit),JP,nX⟩
theorem Bu:Holds Try.prog bW 4 oh:=bz (gX:=[(6,lN),(7,jt),(8,p9)]) (cK:=[(12,gP),(13,gx),(14,gQ)]) (inv:=[]) ((aN pq (aN ju (aN wu bG)))) ((gn kH (gn jG (gn kI bh)))) (bH) (fn:=Try.f4) rfl (by kernel_rfl) (fun x=>by kernel_rfl)
noncomputable def qa:kJ:=⟨(.pair .str (.pair (.int .u8) .unit)),JP,eZ⟩
theorem qb:Holds Try.prog bW 5 qa:=bz (gX:=[(6,lN),(7,jt),(8,p9)]) (cK:=[(12,gP),(13,gx),(14,gQ)]) (inv:=[]) ((aN pq (aN ju (aN wu bG)))) ((gn kH (gn jG (gn kI bh)))) (bH) (fn:=Try.f5) rfl (by kernel_rfl) (fun x=>by kernel_rfl)
end Go.Proofs.Ytkmbhcglaophaaa
