/- The layer's functions keep their contracts: each comes to its plain definition, by the ghost interpreter. -/
import Derived.Test.YtdpbdiikloedbaaGreatDoorRows
import Derived.Test.YtdpbdiikloedbaaGreatDoorPlE
import Derived.Test.YtdpbdiikloedbaaGreatDoorShelf
set_option linter.unusedVariables false
set_option linter.unusedSectionVars false
set_option linter.unusedSimpArgs false
namespace Go.Proofs.YtdpbdiikloedbaaGreatDoor.First
open Go Go.Ge
set_option maxRecDepth 100000
variable [Lp]
abbrev yb:Ty:=(.pair .str (.pair (.int .i64) (.pair (.int .i64) (.pair .str (.pair .str .unit)))))
abbrev GY:Ty:=(.pair .str .unit)
abbrev YF2:Ty:=(.pair .str (.pair .str (.pair (.slice (.pair .str (.pair .str GY))) .unit)))
abbrev Q8:Ty:=(.pair (.int .i64) .unit)
abbrev YF4:Ty:=(.pair .str (.pair .str (.pair (.slice .str) (.pair .str (.pair (.int .i64) (.pair (.int .i64) (.pair .bool .unit)))))))
abbrev YF5:Ty:=(.pair .str (.pair (.int .i64) (.pair (.int .i64) (.pair (.int .i64) (.pair (.int .i64) (.pair (.int .i64) (.pair (.int .i64) GY)))))))
abbrev YB:Ty:=(.pair .bool .unit)
abbrev YC:Ty:=(.pair .str GY)
abbrev YF8:Ty:=(.pair .str (.pair (.slice .str) (.pair .str YF2)))
abbrev YF9:Ty:=(.pair .str (.pair (.slice .str) YF2))
abbrev abC:Ty:=(.pair (.slice .str) .unit)
abbrev abD:Ty:=(.pair (.slice yb) .unit)
noncomputable def dV:Nat→vZ
 | 86=>⟨[],[]⟩
 | 92=>⟨[none,some ⟨[(2,32),(12,3)],[],false⟩,none,none],[]⟩
 | 132=>⟨[],[]⟩
 | 158=>⟨[some ⟨[(4,3),(8,3)],[],false⟩,none,none],[]⟩
 | 163=>⟨[none],[]⟩
 | 164=>⟨[none,none,none,none],[]⟩
 | 165=>⟨[],[]⟩
 | 166=>⟨[none,none,none],[]⟩
 | 194=>⟨[],[]⟩
 | 236=>⟨[some ⟨[(2,9),(3,32),(4,25),(11,3)],[4],false⟩,none,some ⟨[(2,9),(3,32),(4,25)],[4],false⟩,none,none],[4]⟩
 | 237=>⟨[none,none,none],[]⟩
 | 241=>⟨[none,none,none,none,none],[]⟩
 | 242=>⟨[],[]⟩
 | 243=>⟨[],[]⟩
 | 244=>⟨[some ⟨[(6,3),(13,3)],[2],false⟩,none,none,none,none],[]⟩
 | 245=>⟨[none],[]⟩
 | 246=>⟨[none,none,none,none,none],[]⟩
 | 247=>⟨[],[]⟩
 | 271=>⟨[],[]⟩
 | 281=>⟨[some ⟨[(2,4),(6,3)],[],false⟩,none,none],[]⟩
 | 283=>⟨[],[]⟩
 | 284=>⟨[some ⟨[(4,3),(5,3)],[],false⟩,none,none],[]⟩
 | 285=>⟨[some ⟨[(9,196),(10,3)],[],false⟩,none,none,some ⟨[(4,3),(9,196),(11,3)],[],false⟩,none,none],[]⟩
 | 288=>⟨[some ⟨[(9,3),(10,3)],[1,2],false⟩,none,some ⟨[(9,3),(10,3)],[],false⟩],[]⟩
 | 289=>⟨[],[]⟩
 | 311=>⟨[none],[]⟩
 | 312=>⟨[some ⟨[(4,196),(5,3)],[],false⟩,none,some ⟨[(6,196),(7,196),(8,3)],[],false⟩,none,some ⟨[(6,196)],[],false⟩],[]⟩
 | 348=>⟨[],[]⟩
 | 349=>⟨[none],[9]⟩
 | 350=>⟨[],[]⟩
 | 351=>⟨[],[]⟩
 | 352=>⟨[none,some ⟨[(5,3),(6,3),(0,999999)],[0,1],false⟩,none,some ⟨[(5,3),(0,999999)],[0],false⟩],[]⟩
 | 353=>⟨[none],[5]⟩
 | 354=>⟨[],[]⟩
 | 355=>⟨[none,some ⟨[(4,4),(13,3)],[],false⟩,none,none],[]⟩
 | 356=>⟨[some ⟨[(4,3),(8,3)],[1],false⟩,none,none],[]⟩
 | 366=>⟨[none,none,none,none],[55]⟩
 | _=>⟨[],[]⟩
def qn:List (Nat×List mw):=[(171,[.self,.buf (.int .u8) 5]),(264,[])]
def els:List (Nat×Nat):=[(100,5)]
noncomputable def Rz:List (Nat×Xj):=[(353,.clone yb),(367,(.own yb (.pair (.int .i64) abD) true aR))]
noncomputable def tys:List (Nat×Ty):=[(3,(.int .i64)),(4,.bool),(5,(.int .u8)),(9,.str),(21,(.int .i32)),(22,(.slice YF8)),(23,(.slice YF9)),(24,(.slice YF4)),(25,(.slice .str)),(26,(.slice (.pair .str Q8))),(28,(.pair (.slice YF8) (.pair (.slice YF9) (.pair (.slice YF4) (.pair (.slice .str) (.pair (.slice (.pair .str Q8)) .unit)))))),(32,(.int .i64)),(34,(.pair (.int .i64) (.pair .str (.pair (.int .i64) GY)))),(39,(.arr 2 .str)),(44,YF4),(47,(.slice yb)),(55,(.pair (.int .i64) (.pair (.slice YF4) (.pair (.slice YF9) (.pair (.slice YF8) .unit))))),(64,(.slice (.pair .str abC))),(78,(.slice (.pair .str YC))),(80,YF9),(83,YF8),(85,(.pair .str Q8)),(93,(.slice (.pair YF5 GY))),(98,yb),(100,(.slice (.int .u8))),(107,(.slice (.alt 260 GY (.alt 262 GY (.alt 264 .unit (.alt 266 (.pair yb .unit) .AU)))))),(112,(.pair .str abC)),(120,(.arr 32 (.int .u8))),(130,(.arr 4 (.int .i64))),(158,YF5),(160,(.pair YF5 GY)),(165,(.pair .str YC)),(166,(.int .u64)),(187,(.alt 260 GY (.alt 262 GY (.alt 264 .unit (.alt 266 (.pair yb .unit) .AU))))),(196,(.int .u32)),(197,(.arr 8 (.int .u32))),(199,(.pair .bool (.pair (.arr 8 (.int .u32)) .unit))),(200,(.arr 64 (.int .u8))),(202,(.pair (.pair .bool (.pair (.arr 8 (.int .u32)) .unit)) (.pair (.arr 64 (.int .u8)) Q8))),(235,(.int .u64)),(240,(.int .i64)),(251,(.arr 256 .bool)),(257,(.pair .bool (.pair .str (.pair (.int .i64) (.pair .bool YB))))),(260,GY),(262,GY),(266,(.pair yb .unit)),(272,(.arr 8 (.int .u8))),(275,(.arr 64 (.int .u32))),(286,(.int .u64)),(313,(.pair (.int .i64) Q8)),(314,(.arr 11 (.pair (.int .i64) Q8))),(318,(.arr 256 (.int .u8))),(320,(.pair (.int .u8) (.pair (.int .u8) .unit))),(321,(.arr 16 (.pair (.int .u8) (.pair (.int .u8) .unit))))]
noncomputable def Im:List (Nat×Func):=[(86,Tryz.f86),(92,Tryz.f92),(132,Tryz.f132),(158,Tryz.f158),(163,Tryz.f163),(164,Tryz.f164),(165,Tryz.f165),(166,Tryz.f166),(194,Tryz.f194),(236,Tryz.f236),(237,Tryz.f237),(241,Tryz.f241),(242,Tryz.f242),(243,Tryz.f243),(244,Tryz.f244),(245,Tryz.f245),(246,Tryz.f246),(247,Tryz.f247),(271,Tryz.f271),(281,Tryz.f281),(283,Tryz.f283),(284,Tryz.f284),(285,Tryz.f285),(288,Tryz.f288),(289,Tryz.f289),(311,Tryz.f311),(312,Tryz.f312),(348,Tryz.f348),(349,Tryz.f349),(350,Tryz.f350),(351,Tryz.f351),(352,Tryz.f352),(353,Tryz.f353),(354,Tryz.f354),(355,Tryz.f355),(356,Tryz.f356),(366,Tryz.f366)]
def oX:List Nat:=[61,106,117,123,131,132,140,142,150,152,169,182,191,215,238,255,270,290,300,301,308]
def yj:List Nat:=[169,182,238,255,270,290,301,308]
noncomputable def Ey(bF:List (Nat×bO))(aJ:List (Nat×ur))(inv:List (String×bO):=[]):Ctx:=⟨tys,oX,yj,Im,bF,aJ,qn,Rz,els,inv⟩
theorem mix:Tryz.prog.follows .mixedOrders=true:=by kernel_rfl
theorem TU:∀tid t,find tys tid=some t→Den Tryz.prog t tid:=aam (by kernel_rfl)
theorem Gd:∀tid,cC oX tid=true→(∀w,(isAgg tid).run Tryz.prog w=.ok false w)∧(∀w,(Go.sizeOf tid).run Tryz.prog w=.ok 1 w)∧∃z,(∀w,(zeroValue tid).run Tryz.prog w=.ok z w)∧z.oneCell'=true:=WH (by kernel_rfl)
theorem Gf:∀tid,cC yj tid=true→∃e,Tryz.prog.underlying tid=some (.pointer e):=WI (by kernel_rfl)
theorem MU:∀f fn,find Im f=some fn→Tryz.prog.funcs[f]?=some fn:=aan ((ah Tryz.func86 (ah Tryz.func92 (ah Tryz.func132 (ah Tryz.func158 (ah Tryz.func163 (ah Tryz.func164 (ah Tryz.func165 (ah Tryz.func166 (ah Tryz.func194 (ah Tryz.func236 (ah Tryz.func237 (ah Tryz.func241 (ah Tryz.func242 (ah Tryz.func243 (ah Tryz.func244 (ah Tryz.func245 (ah Tryz.func246 (ah Tryz.func247 (ah Tryz.func271 (ah Tryz.func281 (ah Tryz.func283 (ah Tryz.func284 (ah Tryz.func285 (ah Tryz.func288 (ah Tryz.func289 (ah Tryz.func311 (ah Tryz.func312 (ah Tryz.func348 (ah Tryz.func349 (ah Tryz.func350 (ah Tryz.func351 (ah Tryz.func352 (ah Tryz.func353 (ah Tryz.func354 (ah Tryz.func355 (ah Tryz.func356 (ah Tryz.func366 WJ))))))))))))))))))))))))))))))))))))))
theorem Gg:∀tid fs,find qn tid=some fs→Lr Tryz.prog tid fs=true:=WK (by kernel_rfl)
theorem MV:∀tid e,find els tid=some e→Tryz.prog.underlying tid=some (.slice e):=aao (by kernel_rfl)
theorem Gi(bF:List (Nat×bO))(aJ:List (Nat×ur))(inv:List (String×bO):=[]):eW Tryz.prog (Ey bF aJ inv):=⟨TU,Gd,Gf,MU,Gg,MV⟩
noncomputable def UM:Ctx:=⟨tys,oX,yj,Im,[],[],qn,[],els,[]⟩
theorem Io:eW Tryz.prog UM:=⟨TU,Gd,Gf,MU,Gg,MV⟩
theorem cT:gz Tryz.prog 353 (.clone yb):=by
 refine yE (P:=Tryz.prog) (cx:=UM) (bf:=[2,5]) (e:=yb) (tid:=47) (fn:=Tryz.f353) (s0:=fun l=>((u7 (fun _=>none) [.data (.slice yb) l]).bT 2 { val:=.data (.slice yb) ([]:List (yb:Ty).den),tid:=0,buf:=true,ro:=false,lk:=false,aA:=0 }).put 2 (.whole 2 0)) mix Io (jD av aj zy ax) Tryz.func353 (by kernel_rfl)
  (by rfl) rfl (by decide) (by decide) rfl rfl rfl rfl rfl rfl (fun l=>by rfl) (fun l=>rfl) (fun l=>rfl) (fun l=>rfl) (fun l=>by rfl) (fun l hl=>?_)
 have key:∀m:List (yb:Ty).den,fits (len m)=true→aq (fits (plus (len ([]:List (yb:Ty).den)) (len m))) (some (app [] m)) none=some m:=by
  intro m hm;have e:plus (len ([]:List (yb:Ty).den)) (len m)=len m:=by simp[plus,len]
  rw[e,hm];rfl
 exact EL (b:=aq (fits (plus (len ([]:List (yb:Ty).den)) (len (α:=(yb:Ty).den) l))) (some (app (α:=(yb:Ty).den) [] l)) none) (by rfl) (key l hl)
theorem cP:gz Tryz.prog 367 (.own yb (.pair (.int .i64) abD) true aR):=by
 have vi:Den Tryz.prog yb 98:=by
  show eF Tryz.prog yb false 98 0 []=true
  kernel_rfl
 obtain⟨ie,ze,e1,e2,e3,e4⟩:=vi.info;exact Fz (e:=yb) (ρ:=(⟨fun x=>if x=29 then 368 else if x=30 then 369 else 367,fun x=>if x=24 then 47 else if x=9 then 98 else if x=3 then 3 else if x=4 then 4 else 0,fun x=>x⟩:Go.Shelf.Ren)) (nm := "slices.Insert[[]cooperage/api.TreeNode,cooperage/api.TreeNode]") ⟨mix,Tryz.func367.trans (congrArg some (by kernel_rfl)),
  fun xs w=>run_callFunc_extern (e:=Extern.SlicesOverlaps.overlaps #[47,47] #[4]) Tryz.func368 (by kernel_rfl) (by kernel_rfl) (by kernel_rfl) (by kernel_rfl) xs w,
  by kernel_rfl,by kernel_rfl,by kernel_rfl,fun w=>by simp[Go.sizeOf,e1,e2]<;>kernel_rfl,by simp[e1,e2]<;>kernel_rfl⟩ (by decide) vi (by kernel_rfl) (by decide) (by decide)
theorem zV:∀p∈Rz,gz Tryz.prog p.1 p.2:=(fY cT (fY cP zy))
theorem Gj(bF:List (Nat×bO))(aJ:List (Nat×ur))(inv:List (String×bO):=[]):Pd (Ey bF aJ inv):=S0 (cx:=Ey bF aJ inv) (show(Im.all fun p=>Vo p.2)=true by kernel_rfl)
def aH:fo:=v7
theorem au{bF:List (Nat×bO)}{aJ:List (Nat×ur)}{inv:List (String×bO)}(dB:∀p∈bF,Holds Tryz.prog aH p.1 p.2)(MW:∀p∈aJ,iq Tryz.prog aH p.1 p.2)(hinv:∀p∈inv,ow Tryz.prog aH p.1 p.2){f:Nat}{fn:Func}{A R:Ty}{spec:A.den→Option R.den}(hfn:find Im f=some fn)(hb:fn.body.isSome=true)
  (hs:∀x,sem (Ey bF aJ inv) 12 dV f A R x=spec x):Holds Tryz.prog aH f ⟨A,R,spec⟩:=by
 obtain⟨code,MX⟩:=Option.isSome_iff_exists.1 hb;exact Fx mix (Gi bF aJ inv) (jD dB MW zV hinv) (Gj bF aJ inv) (f:=f) hfn MX (fun x y h=>by rw[hs];exact h)
theorem kQ{bF:List (Nat×bO)}{aJ:List (Nat×ur)}{inv:List (String×bO)}(dB:∀p∈bF,Holds Tryz.prog aH p.1 p.2)(MW:∀p∈aJ,iq Tryz.prog aH p.1 p.2)(hinv:∀p∈inv,ow Tryz.prog aH p.1 p.2){f:Nat}{fn:Func}{ps:List Bool}{A U R:Ty}{spec:A.den×U.den→Option (R.den×U.den)}(hfn:find Im f=some fn)(hb:fn.body.isSome=true)
  (hs:∀x,abZ (Ey bF aJ inv) 12 dV f ps A U R x=spec x):iq Tryz.prog aH f ⟨ps,A,U,R,spec⟩:=by
 obtain⟨code,MX⟩:=Option.isSome_iff_exists.1 hb;exact C6 mix (Gi bF aJ inv) (jD dB MW zV hinv) (Gj bF aJ inv) (f:=f) hfn MX (fun x y h=>by rw[hs];exact h)
noncomputable def kG:bO:=⟨(.pair (.slice .str) GY),Q8,fW⟩
theorem tq:Holds Tryz.prog aH 158 kG:=au (bF:=[]) (aJ:=[]) (inv:=[]) (av) (aj) (ax) (fn:=Tryz.f158) rfl (by kernel_rfl) (fun x=>by kernel_rfl)
noncomputable def dn:bO:=⟨(.pair (.slice .str) GY),YB,bP⟩
theorem eV:Holds Tryz.prog aH 86 dn:=au (bF:=[(158,kG)]) (aJ:=[]) (inv:=[]) ((ag tq av)) (aj) (ax) (fn:=Tryz.f86) rfl (by kernel_rfl) (fun x=>by kernel_rfl)
noncomputable def fJ:bO:=⟨(.pair .str (.pair (.int .u8) .unit)),Q8,fE⟩
theorem l9:Holds Tryz.prog aH 284 fJ:=au (bF:=[]) (aJ:=[]) (inv:=[]) (av) (aj) (ax) (fn:=Tryz.f284) rfl (by kernel_rfl) (fun x=>by kernel_rfl)
noncomputable def gf:bO:=⟨GY,(.pair (.int .u32) (.pair (.int .u32) .unit)),gd⟩
theorem mZ:Holds Tryz.prog aH 312 gf:=au (bF:=[]) (aJ:=[]) (inv:=[]) (av) (aj) (ax) (fn:=Tryz.f312) rfl (by kernel_rfl) (fun x=>by kernel_rfl)
noncomputable def eo:bO:=⟨YC,Q8,ek⟩
theorem jQ:Holds Tryz.prog aH 285 eo:=au (bF:=[(312,gf)]) (aJ:=[]) (inv:=[]) ((ag mZ av)) (aj) (ax) (fn:=Tryz.f285) rfl (by kernel_rfl) (fun x=>by kernel_rfl)
noncomputable def tZ:bO:=⟨YC,Q8,tQ⟩
theorem CR:Holds Tryz.prog aH 241 tZ:=au (bF:=[(284,fJ),(285,eo)]) (aJ:=[]) (inv:=[]) ((ag l9 (ag jQ av))) (aj) (ax) (fn:=Tryz.f241) rfl (by kernel_rfl) (fun x=>by kernel_rfl)
noncomputable def jh:bO:=⟨GY,YC,jf⟩
theorem kR:Holds Tryz.prog aH 163 jh:=au (bF:=[(241,tZ)]) (aJ:=[]) (inv:=[]) ((ag CR av)) (aj) (ax) (fn:=Tryz.f163) rfl (by kernel_rfl) (fun x=>by kernel_rfl)
noncomputable def eM:bO:=⟨YC,YB,cq⟩
theorem iU:Holds Tryz.prog aH 194 eM:=au (bF:=[]) (aJ:=[]) (inv:=[]) (av) (aj) (ax) (fn:=Tryz.f194) rfl (by kernel_rfl) (fun x=>by kernel_rfl)
noncomputable def jx:bO:=⟨YC,YB,cw⟩
theorem nc:Holds Tryz.prog aH 132 jx:=au (bF:=[(194,eM)]) (aJ:=[]) (inv:=[]) ((ag iU av)) (aj) (ax) (fn:=Tryz.f132) rfl (by kernel_rfl) (fun x=>by kernel_rfl)
noncomputable def Az:bO:=⟨YC,abC,Au⟩
theorem Kz:Holds Tryz.prog aH 287 Az:=S8 Tryz.func287 (by kernel_rfl) (by kernel_rfl) (fun s b w hs=>Any.Ej Tryz.Xc (by kernel_rfl) s b w hs)
noncomputable def kS:bO:=⟨GY,abC,gA⟩
theorem nJ:Holds Tryz.prog aH 245 kS:=au (bF:=[(287,Az)]) (aJ:=[]) (inv:=[]) ((ag Kz av)) (aj) (ax) (fn:=Tryz.f245) rfl (by kernel_rfl) (fun x=>by kernel_rfl)
noncomputable def iV:bO:=⟨(.pair .str (.pair (.int .u8) .unit)),Q8,iG⟩
theorem p8:Holds Tryz.prog aH 286 iV:=Qw (spec:=fun s c=>Lib.indexByte s (show Int from c).toNat.toUInt8) Tryz.func286 (by kernel_rfl) (by kernel_rfl) (fun s c=>JX _ s) (fun s c w=>by
 go_enter Tryz.func286,Tryz.ntmps286
 go_wp2
 rw[run_callFunc_extern Tryz.func313 (by kernel_rfl) (by kernel_rfl) (by kernel_rfl) (e:=Extern.BytealgIndexByte.indexByte) (by kernel_rfl),Lib.run_indexByteString];simp only[Result.andThen];rw[Oper.upon_value]
 go_wp2
 go_ret
 exact⟨rfl,rfl⟩)
noncomputable def gh:bO:=⟨(.pair .str (.pair (.int .u8) .unit)),Q8,gb⟩
theorem jy:Holds Tryz.prog aH 243 gh:=au (bF:=[(286,iV)]) (aJ:=[]) (inv:=[]) ((ag p8 av)) (aj) (ax) (fn:=Tryz.f243) rfl (by kernel_rfl) (fun x=>by kernel_rfl)
noncomputable def BW:bO:=⟨GY,YB,Bx⟩
theorem MY:Holds Tryz.prog aH 281 BW:=au (bF:=[(243,gh)]) (aJ:=[]) (inv:=[]) ((ag jy av)) (aj) (ax) (fn:=Tryz.f281) rfl (by kernel_rfl) (fun x=>by kernel_rfl)
noncomputable def BX:bO:=⟨(.pair (.slice .str) GY),GY,Br⟩
theorem MZ:Holds Tryz.prog aH 282 BX:=VA Tryz.func282 (by kernel_rfl) (by kernel_rfl) Tryz.strings_Join_none Tryz.strings_Join
noncomputable def xP:bO:=⟨GY,(.pair .str Q8),xF⟩
theorem Dm:Holds Tryz.prog aH 236 xP:=au (bF:=[(132,jx),(245,kS),(281,BW),(282,BX)]) (aJ:=[]) (inv:=[]) ((ag nc (ag nJ (ag MY (ag MZ av))))) (aj) (ax) (fn:=Tryz.f236) rfl (by kernel_rfl) (fun x=>by kernel_rfl)
noncomputable def iW:bO:=⟨YC,(.pair .str YB),iK⟩
theorem p9:Holds Tryz.prog aH 311 iW:=au (bF:=[(194,eM)]) (aJ:=[]) (inv:=[]) ((ag iU av)) (aj) (ax) (fn:=Tryz.f311) rfl (by kernel_rfl) (fun x=>by kernel_rfl)
noncomputable def ua:bO:=⟨YC,(.pair .str YB),tP⟩
theorem CS:Holds Tryz.prog aH 283 ua:=au (bF:=[(311,iW)]) (aJ:=[]) (inv:=[]) ((ag p9 av)) (aj) (ax) (fn:=Tryz.f283) rfl (by kernel_rfl) (fun x=>by kernel_rfl)
noncomputable def zW:bO:=⟨GY,(.pair (.int .i64) GY),zE⟩
theorem Gk:Holds Tryz.prog aH 237 zW:=au (bF:=[(86,dn),(132,jx),(283,ua)]) (aJ:=[]) (inv:=[]) ((ag eV (ag nc (ag CS av)))) (aj) (ax) (fn:=Tryz.f237) rfl (by kernel_rfl) (fun x=>by kernel_rfl)
noncomputable def Dn:bO:=⟨GY,YB,Dg⟩
theorem Ox:Holds Tryz.prog aH 242 Dn:=au (bF:=[(163,jh),(236,xP),(237,zW)]) (aJ:=[]) (inv:=[]) ((ag kR (ag Dm (ag Gk av)))) (aj) (ax) (fn:=Tryz.f242) rfl (by kernel_rfl) (fun x=>by kernel_rfl)
noncomputable def Ip:bO:=⟨(.pair yb .unit),YB,HT⟩
theorem Pz:Holds Tryz.prog aH 164 Ip:=au (bF:=[(242,Dn),(243,gh)]) (aJ:=[]) (inv:=[]) ((ag Ox (ag jy av))) (aj) (ax) (fn:=Tryz.f164) rfl (by kernel_rfl) (fun x=>by kernel_rfl)
noncomputable def vJ:bO:=⟨GY,YB,oz⟩
theorem Ez:Holds Tryz.prog aH 271 vJ:=au (bF:=[]) (aJ:=[]) (inv:=[]) (av) (aj) (ax) (fn:=Tryz.f271) rfl (by kernel_rfl) (fun x=>by kernel_rfl)
noncomputable def sK:bO:=⟨YC,Q8,sB⟩
theorem BZ:Holds Tryz.prog aH 246 sK:=au (bF:=[(271,vJ)]) (aJ:=[]) (inv:=[]) ((ag Ez av)) (aj) (ax) (fn:=Tryz.f246) rfl (by kernel_rfl) (fun x=>by kernel_rfl)
noncomputable def tr:bO:=⟨YC,Q8,sY⟩
theorem AA:Holds Tryz.prog aH 165 tr:=au (bF:=[(245,kS),(246,sK)]) (aJ:=[]) (inv:=[]) ((ag nJ (ag BZ av))) (aj) (ax) (fn:=Tryz.f165) rfl (by kernel_rfl) (fun x=>by kernel_rfl)
noncomputable def AB:bO:=⟨(.pair yb GY),Q8,s9⟩
theorem KA:Holds Tryz.prog aH 289 AB:=au (bF:=[(165,tr)]) (aJ:=[]) (inv:=[]) ((ag AA av)) (aj) (ax) (fn:=Tryz.f289) rfl (by kernel_rfl) (fun x=>by kernel_rfl)
noncomputable def uM:bO:=⟨(.pair (.slice yb) GY),(.pair (.int .i64) YB),gr⟩
theorem zX:Holds Tryz.prog aH 247 uM:=au (bF:=[(289,AB)]) (aJ:=[]) (inv:=[]) ((ag KA av)) (aj) (ax) (fn:=Tryz.f247) rfl (by kernel_rfl) (fun x=>by kernel_rfl)
noncomputable def EA:bO:=⟨(.pair (.slice yb) GY),Q8,zN⟩
theorem M0:Holds Tryz.prog aH 166 EA:=au (bF:=[(247,uM)]) (aJ:=[]) (inv:=[]) ((ag zX av)) (aj) (ax) (fn:=Tryz.f166) rfl (by kernel_rfl) (fun x=>by kernel_rfl)
noncomputable def iX:bO:=⟨abD,Q8,gu⟩
theorem kf:Holds Tryz.prog aH 92 iX:=au (bF:=[(163,jh),(164,Ip),(165,tr),(166,EA)]) (aJ:=[]) (inv:=[]) ((ag kR (ag Pz (ag AA (ag M0 av))))) (aj) (ax) (fn:=Tryz.f92) rfl (by kernel_rfl) (fun x=>by kernel_rfl)
noncomputable def kH:bO:=⟨(.pair (.slice .str) abC),YB,kE⟩
theorem tu:Holds Tryz.prog aH 355 kH:=au (bF:=[]) (aJ:=[]) (inv:=[]) (av) (aj) (ax) (fn:=Tryz.f355) rfl (by kernel_rfl) (fun x=>by kernel_rfl)
noncomputable def rZ:bO:=⟨YC,YB,eC⟩
theorem xQ:Holds Tryz.prog aH 351 rZ:=au (bF:=[(245,kS),(355,kH)]) (aJ:=[]) (inv:=[]) ((ag nJ (ag tu av))) (aj) (ax) (fn:=Tryz.f351) rfl (by kernel_rfl) (fun x=>by kernel_rfl)
noncomputable def b8:bO:=⟨abD,abD,kZ⟩
theorem cU:Holds Tryz.prog aH 353 b8:=by
 refine wu (P:=Tryz.prog) (cx:=Ey [] []) (bf:=[5]) (e:=yb) (tid:=47) (fn:=Tryz.f353) (s0:=fun l=>(u7 (fun _=>none) [.data (.slice yb) l]).put 2 (.data (.slice yb) ([]:List (yb:Ty).den))) mix (Gi [] []) (jD av aj zV ax) Tryz.func353 (by kernel_rfl)
  (by rfl) rfl (by decide) (by decide) rfl rfl rfl rfl rfl rfl (fun l=>by rfl) (fun l=>rfl) (fun l=>rfl) (fun l=>rfl) (fun l=>by rfl) (fun l hl=>?_)
 have key:∀m:List (yb:Ty).den,fits (len m)=true→aq (fits (plus (len ([]:List (yb:Ty).den)) (len m))) (some ((app [] m,()):(Ty.pair (.slice yb) .unit).den)) none=some (m,()):=by
  intro m hm;have e:plus (len ([]:List (yb:Ty).den)) (len m)=len m:=by simp[plus,len]
  rw[e,hm];rfl
 exact EL (b:=aq (fits (plus (len ([]:List (yb:Ty).den)) (len (α:=(yb:Ty).den) l))) (some ((app (α:=(yb:Ty).den) [] l,()):(Ty.pair (.slice yb) .unit).den)) none) (by rfl) (key l hl)
noncomputable def M1:bO:=⟨(.pair (.slice yb) (.pair yb .unit)),(.pair (.slice yb) Q8),Et⟩
theorem Wb:Holds Tryz.prog aH 366 M1:=au (bF:=[(92,iX),(163,jh),(164,Ip),(166,EA),(247,uM),(351,rZ),(353,b8)]) (aJ:=[]) (inv:=[]) ((ag kf (ag kR (ag Pz (ag M0 (ag zX (ag xQ (ag cU av)))))))) (aj) (ax) (fn:=Tryz.f366) rfl (by kernel_rfl) (fun x=>by kernel_rfl)
end Go.Proofs.YtdpbdiikloedbaaGreatDoor.First
