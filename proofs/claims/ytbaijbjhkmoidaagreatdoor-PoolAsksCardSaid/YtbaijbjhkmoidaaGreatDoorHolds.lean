/- The layer's functions keep their contracts: each comes to its plain definition, by the ghost interpreter. -/
import Derived.Test.YtbaijbjhkmoidaaGreatDoorRows
import Derived.Test.YtbaijbjhkmoidaaGreatDoorPlC
import Derived.Test.YtbaijbjhkmoidaaGreatDoorBld
import Derived.Test.YtbaijbjhkmoidaaGreatDoorMkr
import Derived.Test.YtbaijbjhkmoidaaGreatDoorOnce
import Derived.Test.YtbaijbjhkmoidaaGreatDoorNum
import Derived.Test.YtbaijbjhkmoidaaGreatDoorShelf
set_option linter.unusedVariables false
set_option linter.unusedSectionVars false
set_option linter.unusedSimpArgs false
namespace Go.Proofs.YtbaijbjhkmoidaaGreatDoor
open Go Go.Ge
set_option maxRecDepth 100000
variable [Lp]
abbrev rE:Ty:=(.pair (.int .i64) (.pair .str (.pair .str (.pair (.int .i64) (.pair (.int .i64) (.pair (.int .i64) (.pair .str (.pair (.int .i64) (.pair (.int .i64) .unit)))))))))
abbrev IB:Ty:=(.pair (.int .i64) (.pair (.int .i64) (.pair .str (.pair (.slice .str) .unit))))
abbrev ru:Ty:=(.pair (.int .i64) .unit)
abbrev M6:Ty:=(.pair .str (.pair .str (.pair (.slice .str) (.pair .str (.pair (.int .i64) (.pair (.int .i64) (.pair .bool .unit)))))))
abbrev oq:Ty:=(.pair .str .unit)
abbrev HI:Ty:=(.pair rE (.pair IB .unit))
abbrev Tf:Ty:=(.pair (.int .i64) (.pair .bool (.pair (.int .i64) (.pair (.int .i64) (.pair .str (.pair (.slice (.pair .str ru)) .unit))))))
abbrev FR:Ty:=(.pair .bool .unit)
abbrev Rq:Ty:=(.pair (.arr 8 (.int .u32)) .unit)
abbrev Qs:Ty:=(.pair (.int .u32) .unit)
abbrev xp:Ty:=(.pair .str ru)
abbrev P6:Ty:=(.pair (.pair .bool Rq) (.pair (.arr 64 (.int .u8)) ru))
abbrev Rr:Ty:=(.pair .unit (.pair (.pair .unit Qs) (.pair (.pair .unit (.pair (.pair (.int .i32) Qs) .unit)) .unit)))
abbrev FK:Ty:=(.pair IB .unit)
noncomputable def cG:Nat→pV
 | 3=>⟨[none,some ⟨[(6,4),(11,3),(0,999999)],[0,1,7,8,9,10],false⟩,none,none,some ⟨[(6,4)],[9,10],false⟩,none,some ⟨[],[7,8,9,10],false⟩],[]⟩
 | 5=>⟨[some ⟨[(2,4),(3,3)],[],false⟩,none,none],[]⟩
 | 6=>⟨[some ⟨[(4,4),(5,3)],[],false⟩,none,none,some ⟨[(4,4),(6,3)],[],false⟩,none,none],[]⟩
 | 7=>⟨[],[]⟩
 | 8=>⟨[],[9000002]⟩
 | 9=>⟨[some ⟨[],[0],false⟩],[]⟩
 | 10=>⟨[],[]⟩
 | 11=>⟨[some ⟨[(6,3),(7,4),(8,35),(16,3),(1,999999)],[0,1,9],false⟩,none,none,none,none,none],[]⟩
 | 12=>⟨[some ⟨[(6,3),(7,4),(8,35),(10,3)],[0],false⟩,none,some ⟨[(11,3),(12,3)],[],false⟩,none,some ⟨[(11,3)],[],false⟩,none,none,none,none],[]⟩
 | 13=>⟨[none],[]⟩
 | 14=>⟨[none,none],[]⟩
 | 15=>⟨[none,none,none],[]⟩
 | 16=>⟨[none],[]⟩
 | 17=>⟨[none],[]⟩
 | 22=>⟨[],[]⟩
 | 23=>⟨[some ⟨[(5,9)],[],false⟩],[]⟩
 | 25=>⟨[],[6]⟩
 | 26=>⟨[none,some ⟨[(4,4),(5,3)],[],false⟩,none,none],[]⟩
 | 27=>⟨[],[]⟩
 | 28=>⟨[],[]⟩
 | 29=>⟨[some ⟨[(4,3),(8,3)],[1],false⟩,none,none],[]⟩
 | 31=>⟨[none],[]⟩
 | 32=>⟨[none],[]⟩
 | 33=>⟨[none],[]⟩
 | 34=>⟨[none,none,none],[]⟩
 | 35=>⟨[],[]⟩
 | 36=>⟨[none,none,none,none],[]⟩
 | 37=>⟨[none],[]⟩
 | 38=>⟨[],[]⟩
 | 43=>⟨[some ⟨[(5,3)],[3],false⟩,none,some ⟨[(7,3)],[6],false⟩,none],[]⟩
 | 44=>⟨[some ⟨[(3,98),(4,3)],[3],false⟩,none],[3]⟩
 | 46=>⟨[none,some ⟨[(5,3),(6,3),(0,999999)],[0,1],false⟩,none,some ⟨[(5,3),(0,999999)],[0],false⟩],[]⟩
 | 47=>⟨[none],[5]⟩
 | 48=>⟨[],[]⟩
 | 49=>⟨[],[]⟩
 | 50=>⟨[],[]⟩
 | 51=>⟨[none],[]⟩
 | 52=>⟨[],[]⟩
 | 53=>⟨[],[]⟩
 | 57=>⟨[none,none],[]⟩
 | 58=>⟨[none],[]⟩
 | 59=>⟨[none],[]⟩
 | 60=>⟨[],[]⟩
 | 61=>⟨[none,none,none],[]⟩
 | 62=>⟨[],[]⟩
 | 67=>⟨[],[]⟩
 | 68=>⟨[some ⟨[(3,98)],[0,3],false⟩,none,some ⟨[(3,98),(5,3)],[3],false⟩,none],[]⟩
 | 69=>⟨[some ⟨[(6,3)],[5],false⟩,none,some ⟨[(7,3)],[5],false⟩,none,some ⟨[(12,3)],[11],false⟩,none,some ⟨[(17,3)],[11],false⟩,none],[]⟩
 | 70=>⟨[none],[]⟩
 | 73=>⟨[some ⟨[(4,3),(8,3)],[1],false⟩,none,none],[]⟩
 | 74=>⟨[],[]⟩
 | 75=>⟨[none,some ⟨[(0,9),(2,9),(3,4),(4,98)],[4],false⟩,none,none],[4]⟩
 | 77=>⟨[],[]⟩
 | 78=>⟨[some ⟨[(9,3)],[3],false⟩,none],[]⟩
 | 82=>⟨[none,some ⟨[(2,9),(3,4),(4,98),(5,3)],[4],false⟩,none,none],[4]⟩
 | 83=>⟨[none],[]⟩
 | 84=>⟨[none,none,none,none],[]⟩
 | 85=>⟨[],[]⟩
 | 102=>⟨[],[]⟩
 | 103=>⟨[],[]⟩
 | 104=>⟨[none],[]⟩
 | 105=>⟨[],[]⟩
 | 107=>⟨[none,some ⟨[(1,9)],[0],false⟩,none,some ⟨[],[0],false⟩],[]⟩
 | 108=>⟨[some ⟨[],[3],false⟩,some ⟨[],[3],false⟩,none,some ⟨[(26,3)],[5],false⟩,none,some ⟨[(41,3)],[7],false⟩,none],[]⟩
 | 109=>⟨[],[]⟩
 | 115=>⟨[some ⟨[(2,3),(3,3)],[],false⟩,none,none],[]⟩
 | 116=>⟨[],[]⟩
 | 117=>⟨[some ⟨[(4,3),(8,3)],[],false⟩,none,none],[]⟩
 | 133=>⟨[],[]⟩
 | 136=>⟨[some ⟨[],[0],false⟩,some ⟨[(6,107),(7,107),(8,107),(9,107),(10,107),(11,107),(12,107),(13,107),(74,3)],[],false⟩,none,some ⟨[(143,3)],[0],false⟩,none],[]⟩
 | 153=>⟨[],[]⟩
 | 154=>⟨[],[]⟩
 | 155=>⟨[some ⟨[(12,3)],[3],false⟩,none,some ⟨[(22,3)],[3],false⟩,none,some ⟨[(7,3)],[3],false⟩,none],[]⟩
 | 156=>⟨[],[]⟩
 | 171=>⟨[],[]⟩
 | _=>⟨[],[]⟩
def mU:List (Nat×List jl):=[(197,[.self,.buf (.int .u8) 5]),(75,[.dat .bool,.buf HI 87,.dat (.int .i64),.dat .bool,.dat .bool,.dat rE]),(34,[.buf rE 32,.buf IB 49,.dat (.int .i64),.dat rE,.dat .bool,.dat .bool]),(120,[.dat .str,.dat Rr,.dat .str,.dat (.pair .unit (.pair .unit ru))])]
def els:List (Nat×Nat):=[(98,5),(73,87),(30,32),(23,49)]
noncomputable def D2:List (Nat×Ka):=[(110,.str 197 5),(137,.KT 197),(47,.clone .str),(30,.rG 50)]
noncomputable def tys:List (Nat×Ty):=[(2,(.int .i64)),(3,(.int .i64)),(4,.bool),(5,(.int .u8)),(9,.str),(21,(.int .i32)),(22,(.slice M6)),(23,(.slice IB)),(30,(.slice rE)),(32,rE),(35,(.int .i64)),(43,(.slice .str)),(45,M6),(49,IB),(64,(.slice (.pair .str (.pair .bool oq)))),(66,(.slice (.pair (.int .i64) (.pair .bool (.pair rE .unit))))),(73,(.slice HI)),(87,HI),(90,(.slice (.pair (.int .i64) ru))),(92,(.pair (.slice (.pair (.int .i64) ru)) ru)),(94,(.pair (.int .i64) ru)),(96,(.arr 32 (.int .u8))),(98,(.slice (.int .u8))),(107,(.int .u32)),(111,(.pair (.int .i32) Qs)),(134,(.pair (.int .i64) (.pair .bool (.pair rE .unit)))),(135,(.arr 8 (.int .u32))),(139,(.slice xp)),(141,Tf),(144,xp),(147,(.pair .str (.pair .bool oq))),(156,(.slice (.int .i64))),(161,(.slice (.pair (.int .i64) (.pair (.int .i64) ru)))),(179,(.int .u64)),(180,(.arr 64 (.int .u32))),(181,(.int .u64)),(184,(.slice Tf)),(186,(.pair (.int .i64) (.pair (.int .i64) (.pair (.slice Tf) .unit)))),(189,(.pair .bool Rq)),(190,(.arr 64 (.int .u8))),(192,P6),(216,(.pair (.int .i64) (.pair (.int .i64) ru))),(228,(.arr 8 (.int .u8))),(235,(.arr 24 (.int .u8))),(251,(.arr 20 (.int .u64))),(252,(.arr 65 (.int .u8)))]
noncomputable def J5:List (Nat×Func):=[(3,Tryz.f3),(5,Tryz.f5),(6,Tryz.f6),(7,Tryz.f7),(8,Tryz.f8),(9,Tryz.f9),(10,Tryz.f10),(11,Tryz.f11),(12,Tryz.f12),(13,Tryz.f13),(14,Tryz.f14),(15,Tryz.f15),(16,Tryz.f16),(17,Tryz.f17),(22,Tryz.f22),(23,Tryz.f23),(25,Tryz.f25),(26,Tryz.f26),(27,Tryz.f27),(28,Tryz.f28),(29,Tryz.f29),(31,Tryz.f31),(32,Tryz.f32),(33,Tryz.f33),(34,Tryz.f34),(35,Tryz.f35),(36,Tryz.f36),(37,Tryz.f37),(38,Tryz.f38),(43,Tryz.f43),(44,Tryz.f44),(46,Tryz.f46),(47,Tryz.f47),(48,Tryz.f48),(49,Tryz.f49),(50,Tryz.f50),(51,Tryz.f51),(52,Tryz.f52),(53,Tryz.f53),(57,Tryz.f57),(58,Tryz.f58),(59,Tryz.f59),(60,Tryz.f60),(61,Tryz.f61),(62,Tryz.f62),(67,Tryz.f67),(68,Tryz.f68),(69,Tryz.f69),(70,Tryz.f70),(73,Tryz.f73),(74,Tryz.f74),(75,Tryz.f75),(77,Tryz.f77),(78,Tryz.f78),(82,Tryz.f82),(83,Tryz.f83),(84,Tryz.f84),(85,Tryz.f85),(102,Tryz.f102),(103,Tryz.f103),(104,Tryz.f104),(105,Tryz.f105),(107,Tryz.f107),(108,Tryz.f108),(109,Tryz.f109),(115,Tryz.f115),(116,Tryz.f116),(117,Tryz.f117),(133,Tryz.f133),(136,Tryz.f136),(153,Tryz.f153),(154,Tryz.f154),(155,Tryz.f155),(156,Tryz.f156),(171,Tryz.f171)]
def lW:List Nat:=[1,27,29,51,55,56,65,76,79,103,152,153,155,158,195,201,203,226,229,230,240,244,246]
def en:List Nat:=[27,29,51,55,56,65,76,152,153,155,158,195,201,203,226,229,230,240,244,246]
noncomputable def J6(fH:List (Nat×jt))(bU:List (Nat×jX))(inv:List (String×jt):=[]):Ctx:=⟨tys,lW,en,J5,fH,bU,mU,D2,els,inv⟩
theorem mix:Tryz.prog.follows .mixedOrders=true:=by kernel_rfl
theorem MP:∀tid t,find tys tid=some t→Den Tryz.prog t tid:=PE (by kernel_rfl)
theorem IC:∀tid,b6 lW tid=true→(∀w,(isAgg tid).run Tryz.prog w=.ok false w)∧(∀w,(Go.sizeOf tid).run Tryz.prog w=.ok 1 w)∧∃z,(∀w,(zeroValue tid).run Tryz.prog w=.ok z w)∧z.oneCell'=true:=N0 (by kernel_rfl)
theorem ID:∀tid,b6 en tid=true→∃e,Tryz.prog.underlying tid=some (.pointer e):=N3 (by kernel_rfl)
theorem MQ:∀f fn,find J5 f=some fn→Tryz.prog.funcs[f]?=some fn:=PF ((az Tryz.func3 (az Tryz.func5 (az Tryz.func6 (az Tryz.func7 (az Tryz.func8 (az Tryz.func9 (az Tryz.func10 (az Tryz.func11 (az Tryz.func12 (az Tryz.func13 (az Tryz.func14 (az Tryz.func15 (az Tryz.func16 (az Tryz.func17 (az Tryz.func22 (az Tryz.func23 (az Tryz.func25 (az Tryz.func26 (az Tryz.func27 (az Tryz.func28 (az Tryz.func29 (az Tryz.func31 (az Tryz.func32 (az Tryz.func33 (az Tryz.func34 (az Tryz.func35 (az Tryz.func36 (az Tryz.func37 (az Tryz.func38 (az Tryz.func43 (az Tryz.func44 (az Tryz.func46 (az Tryz.func47 (az Tryz.func48 (az Tryz.func49 (az Tryz.func50 (az Tryz.func51 (az Tryz.func52 (az Tryz.func53 (az Tryz.func57 (az Tryz.func58 (az Tryz.func59 (az Tryz.func60 (az Tryz.func61 (az Tryz.func62 (az Tryz.func67 (az Tryz.func68 (az Tryz.func69 (az Tryz.func70 (az Tryz.func73 (az Tryz.func74 (az Tryz.func75 (az Tryz.func77 (az Tryz.func78 (az Tryz.func82 (az Tryz.func83 (az Tryz.func84 (az Tryz.func85 (az Tryz.func102 (az Tryz.func103 (az Tryz.func104 (az Tryz.func105 (az Tryz.func107 (az Tryz.func108 (az Tryz.func109 (az Tryz.func115 (az Tryz.func116 (az Tryz.func117 (az Tryz.func133 (az Tryz.func136 (az Tryz.func153 (az Tryz.func154 (az Tryz.func155 (az Tryz.func156 (az Tryz.func171 N4))))))))))))))))))))))))))))))))))))))))))))))))))))))))))))))))))))))))))))
theorem IE:∀tid fs,find mU tid=some fs→Bb Tryz.prog tid fs=true:=N5 (by kernel_rfl)
theorem MR:∀tid e,find els tid=some e→Tryz.prog.underlying tid=some (.slice e):=PG (by kernel_rfl)
theorem MS(fH:List (Nat×jt))(bU:List (Nat×jX))(inv:List (String×jt):=[]):eo Tryz.prog (J6 fH bU inv):=⟨MP,IC,ID,MQ,IE,MR⟩
noncomputable def TZ:Ctx:=⟨tys,lW,en,J5,[],[],mU,[],els,[]⟩
theorem P7:eo Tryz.prog TZ:=⟨MP,IC,ID,MQ,IE,MR⟩
theorem mL:mP Tryz.prog 47 (.clone .str):=by
 refine JA (P:=Tryz.prog) (cx:=TZ) (bf:=[2,5]) (e:=.str) (tid:=43) (fn:=Tryz.f47) (s0:=fun l=>((xC (fun _=>none) [.data (.slice .str) l]).bJ 2 { val:=.data (.slice .str) ([]:List (.str:Ty).den),tid:=0,buf:=true,ro:=false,lk:=false,aj:=0 }).put 2 (.whole 2 0)) mix P7 (vQ aL aE Ij aM) Tryz.func47 (by kernel_rfl)
  (by rfl) rfl (by decide) (by decide) rfl rfl rfl rfl rfl rfl (fun l=>by rfl) (fun l=>rfl) (fun l=>rfl) (fun l=>rfl) (fun l=>by rfl) (fun l hl=>?_)
 have key:∀m:List (.str:Ty).den,fits (len m)=true→aO (fits (plus (len ([]:List (.str:Ty).den)) (len m))) (some (app [] m)) none=some m:=by
  intro m hm;have e:plus (len ([]:List (.str:Ty).den)) (len m)=len m:=by simp[plus,len]
  rw[e,hm];rfl
 exact Eq.trans (b:=aO (fits (plus (len ([]:List (.str:Ty).den)) (len (α:=(.str:Ty).den) l))) (some (app (α:=(.str:Ty).den) [] l)) none) (by rfl) (key l hl)
theorem HJ:∀p∈D2,mP Tryz.prog p.1 p.2:=(vP pJ (vP nw (vP mL (vP HD Ij))))
theorem IF(fH:List (Nat×jt))(bU:List (Nat×jX))(inv:List (String×jt):=[]):Fi (J6 fH bU inv):=LU (cx:=J6 fH bU inv) (show(J5.all fun p=>Jt p.2)=true by kernel_rfl)
theorem aZ{fH:List (Nat×jt)}{bU:List (Nat×jX)}{inv:List (String×jt)}(dc:∀p∈fH,Holds Tryz.prog bG p.1 p.2)(MT:∀p∈bU,cH Tryz.prog bG p.1 p.2)(hinv:∀p∈inv,zN Tryz.prog bG p.1 p.2){f:Nat}{fn:Func}{A R:Ty}{spec:A.den→Option R.den}(hfn:find J5 f=some fn)(hb:fn.body.isSome=true)
  (hs:∀x,sem (J6 fH bU inv) 12 cG f A R x=spec x):Holds Tryz.prog bG f ⟨A,R,spec⟩:=by
 obtain⟨code,MU⟩:=Option.isSome_iff_exists.1 hb;exact DE mix (MS fH bU inv) (vQ dc MT HJ hinv) (IF fH bU inv) (f:=f) hfn MU (fun x y h=>by rw[hs];exact h)
theorem cO{fH:List (Nat×jt)}{bU:List (Nat×jX)}{inv:List (String×jt)}(dc:∀p∈fH,Holds Tryz.prog bG p.1 p.2)(MT:∀p∈bU,cH Tryz.prog bG p.1 p.2)(hinv:∀p∈inv,zN Tryz.prog bG p.1 p.2){f:Nat}{fn:Func}{ps:List Bool}{A:Ty}{U:OT}{R:Ty}{spec:A.den×U.den→Option (R.den×U.den)}(hfn:find J5 f=some fn)(hb:fn.body.isSome=true)
  (hs:∀x,Pe (J6 fH bU inv) 12 cG f ps A U R x=spec x):cH Tryz.prog bG f ⟨ps,A,U,R,spec⟩:=by
 obtain⟨code,MU⟩:=Option.isSome_iff_exists.1 hb;exact BF mix (MS fH bU inv) (vQ dc MT HJ hinv) (IF fH bU inv) (f:=f) hfn MU (fun x y h=>by rw[hs];exact h)
noncomputable def x5:jt:=⟨(.pair (.slice M6) .unit),FR,mh⟩
theorem FL:Holds Tryz.prog bG 5 x5:=aZ (fH:=[]) (bU:=[]) (inv:=[]) (aL) (aE) (aM) (fn:=Tryz.f5) rfl (by kernel_rfl) (fun x=>by kernel_rfl)
noncomputable def ry:jt:=⟨(.pair (.slice IB) ru),FR,gU⟩
theorem yH:Holds Tryz.prog bG 6 ry:=aZ (fH:=[]) (bU:=[]) (inv:=[]) (aL) (aE) (aM) (fn:=Tryz.f6) rfl (by kernel_rfl) (fun x=>by kernel_rfl)
noncomputable def gd:jt:=⟨(.pair .str oq),FR,cm⟩
theorem kJ:Holds Tryz.prog bG 133 gd:=aZ (fH:=[]) (bU:=[]) (inv:=[]) (aL) (aE) (aM) (fn:=Tryz.f133) rfl (by kernel_rfl) (fun x=>by kernel_rfl)
noncomputable def gf:jt:=⟨(.pair .str oq),(.pair .str FR),dB⟩
theorem kK:Holds Tryz.prog bG 104 gf:=aZ (fH:=[(133,gd)]) (bU:=[]) (inv:=[]) ((au kJ aL)) (aE) (aM) (fn:=Tryz.f104) rfl (by kernel_rfl) (fun x=>by kernel_rfl)
noncomputable def mR:jt:=⟨(.pair .str oq),(.pair .str FR),gz⟩
theorem tu:Holds Tryz.prog bG 74 mR:=aZ (fH:=[(104,gf)]) (bU:=[]) (inv:=[]) ((au kK aL)) (aE) (aM) (fn:=Tryz.f74) rfl (by kernel_rfl) (fun x=>by kernel_rfl)
noncomputable def gh:jt:=⟨(.pair .str (.pair (.int .u8) .unit)),ru,cl⟩
theorem kL:Holds Tryz.prog bG 134 gh:=DH (spec:=fun s c=>Lib.indexByte s (show Int from c).toNat.toUInt8) Tryz.func134 (by kernel_rfl) (by kernel_rfl) (fun s c=>yC _ s) (fun s c w=>by
 go_enter Tryz.func134,Tryz.ntmps134
 go_wp2
 rw[run_callFunc_extern Tryz.func148 (by kernel_rfl) (by kernel_rfl) (by kernel_rfl) (e:=Extern.BytealgIndexByte.indexByte) (by kernel_rfl),Lib.run_indexByteString];simp only[Result.andThen];rw[Oper.upon_value]
 go_wp2
 go_ret
 exact⟨rfl,rfl⟩)
noncomputable def mS:jt:=⟨(.pair .str (.pair (.int .u8) .unit)),ru,eS⟩
theorem tw:Holds Tryz.prog bG 105 mS:=aZ (fH:=[(134,gh)]) (bU:=[]) (inv:=[]) ((au kL aL)) (aE) (aM) (fn:=Tryz.f105) rfl (by kernel_rfl) (fun x=>by kernel_rfl)
noncomputable def sD:jt:=⟨oq,(.pair .str FR),kz⟩
theorem AZ:Holds Tryz.prog bG 75 sD:=aZ (fH:=[(105,mS)]) (bU:=[]) (inv:=[]) ((au tw aL)) (aE) (aM) (fn:=Tryz.f75) rfl (by kernel_rfl) (fun x=>by kernel_rfl)
noncomputable def sE:jt:=⟨oq,ru,kC⟩
theorem A0:Holds Tryz.prog bG 51 sE:=aZ (fH:=[(74,mR),(75,sD)]) (bU:=[]) (inv:=[]) ((au tu (au AZ aL))) (aE) (aM) (fn:=Tryz.f51) rfl (by kernel_rfl) (fun x=>by kernel_rfl)
noncomputable def sF:jt:=⟨ru,oq,sj⟩
theorem A1:Holds Tryz.prog bG 76 sF:=Hg Tryz.func76 (by kernel_rfl) (by kernel_rfl) MG AW
noncomputable def vY:jt:=⟨ru,oq,qH⟩
theorem DZ:Holds Tryz.prog bG 52 vY:=aZ (fH:=[(76,sF)]) (bU:=[]) (inv:=[]) ((au A1 aL)) (aE) (aM) (fn:=Tryz.f52) rfl (by kernel_rfl) (fun x=>by kernel_rfl)
noncomputable def oL:jt:=⟨xp,oq,iU⟩
theorem oM:Holds Tryz.prog bG 31 oL:=aZ (fH:=[(51,sE),(52,vY)]) (bU:=[]) (inv:=[]) ((au A0 (au DZ aL))) (aE) (aM) (fn:=Tryz.f31) rfl (by kernel_rfl) (fun x=>by kernel_rfl)
noncomputable def oN:jt:=⟨xp,oq,mj⟩
theorem oO:Holds Tryz.prog bG 23 oN:=aZ (fH:=[(31,oL)]) (bU:=[]) (inv:=[]) ((au oM aL)) (aE) (aM) (fn:=Tryz.f23) rfl (by kernel_rfl) (fun x=>by kernel_rfl)
noncomputable def bD:jX:=⟨[true],.unit,(.pair (.ref 75 (.pair (.dat .bool) (.pair (.buf HI 87) (.pair (.dat (.int .i64)) (.pair (.dat .bool) (.pair (.dat .bool) (.pair (.dat rE) .unit))))))) .unit),FR,cJ⟩
theorem bI:cH Tryz.prog bG 27 bD:=cO (fH:=[]) (bU:=[]) (inv:=[]) (aL) (aE) (aM) (fn:=Tryz.f27) rfl (by kernel_rfl) (fun x=>by kernel_rfl)
noncomputable def eO:jt:=⟨(.pair (.slice .str) .unit),(.pair (.slice .str) .unit),cU⟩
theorem gW:Holds Tryz.prog bG 47 eO:=by
 refine Fo (P:=Tryz.prog) (cx:=J6 [] []) (bf:=[5]) (e:=.str) (tid:=43) (fn:=Tryz.f47) (s0:=fun l=>(xC (fun _=>none) [.data (.slice .str) l]).put 2 (.data (.slice .str) ([]:List (.str:Ty).den))) mix (MS [] []) (vQ aL aE HJ aM) Tryz.func47 (by kernel_rfl)
  (by rfl) rfl (by decide) (by decide) rfl rfl rfl rfl rfl rfl (fun l=>by rfl) (fun l=>rfl) (fun l=>rfl) (fun l=>rfl) (fun l=>by rfl) (fun l hl=>?_)
 have key:∀m:List (.str:Ty).den,fits (len m)=true→aO (fits (plus (len ([]:List (.str:Ty).den)) (len m))) (some ((app [] m,()):(Ty.pair (.slice .str) .unit).den)) none=some (m,()):=by
  intro m hm;have e:plus (len ([]:List (.str:Ty).den)) (len m)=len m:=by simp[plus,len]
  rw[e,hm];rfl
 exact Eq.trans (b:=aO (fits (plus (len ([]:List (.str:Ty).den)) (len (α:=(.str:Ty).den) l))) (some ((app (α:=(.str:Ty).den) [] l,()):(Ty.pair (.slice .str) .unit).den)) none) (by rfl) (key l hl)
noncomputable def cR:jt:=⟨FK,FK,iR⟩
theorem dK:Holds Tryz.prog bG 38 cR:=aZ (fH:=[(47,eO)]) (bU:=[]) (inv:=[]) ((au gW aL)) (aE) (aM) (fn:=Tryz.f38) rfl (by kernel_rfl) (fun x=>by kernel_rfl)
noncomputable def eu:jt:=⟨.unit,FK,pH⟩
theorem eY:Holds Tryz.prog bG 116 eu:=aZ (fH:=[]) (bU:=[]) (inv:=[]) (aL) (aE) (aM) (fn:=Tryz.f116) rfl (by kernel_rfl) (fun x=>by kernel_rfl)
noncomputable def eB:jX:=⟨[true,false],(.pair rE .unit),(.pair (.ref 75 (.pair (.dat .bool) (.pair (.buf HI 87) (.pair (.dat (.int .i64)) (.pair (.dat .bool) (.pair (.dat .bool) (.pair (.dat rE) .unit))))))) .unit),FK,iS⟩
theorem fq:cH Tryz.prog bG 84 eB:=cO (fH:=[(38,cR),(116,eu)]) (bU:=[(27,bD)]) (inv:=[]) ((au dK (au eY aL))) ((aC bI aE)) (aM) (fn:=Tryz.f84) rfl (by kernel_rfl) (fun x=>by kernel_rfl)
noncomputable def fu:jt:=⟨(.pair (.slice (.int .i64)) ru),ru,b8⟩
theorem jK:Holds Tryz.prog bG 117 fu:=aZ (fH:=[]) (bU:=[]) (inv:=[]) (aL) (aE) (aM) (fn:=Tryz.f117) rfl (by kernel_rfl) (fun x=>by kernel_rfl)
noncomputable def aS:jt:=⟨(.pair (.slice (.int .i64)) ru),FR,aR⟩
theorem aX:Holds Tryz.prog bG 85 aS:=aZ (fH:=[(117,fu)]) (bU:=[]) (inv:=[]) ((au jK aL)) (aE) (aM) (fn:=Tryz.f85) rfl (by kernel_rfl) (fun x=>by kernel_rfl)
noncomputable def jL:jX:=⟨[true,false,false],(.pair rE (.pair (.slice (.int .i64)) .unit)),(.pair (.ref 75 (.pair (.dat .bool) (.pair (.buf HI 87) (.pair (.dat (.int .i64)) (.pair (.dat .bool) (.pair (.dat .bool) (.pair (.dat rE) .unit))))))) .unit),(.pair IB ru),iT⟩
theorem lz:cH Tryz.prog bG 59 jL:=cO (fH:=[(38,cR),(85,aS),(116,eu)]) (bU:=[(27,bD),(84,eB)]) (inv:=[]) ((au dK (au aX (au eY aL)))) ((aC bI (aC fq aE))) (aM) (fn:=Tryz.f59) rfl (by kernel_rfl) (fun x=>by kernel_rfl)
noncomputable def jh:jX:=⟨[true,false],(.pair rE .unit),(.pair (.ref 75 (.pair (.dat .bool) (.pair (.buf HI 87) (.pair (.dat (.int .i64)) (.pair (.dat .bool) (.pair (.dat .bool) (.pair (.dat rE) .unit))))))) .unit),FR,ng⟩
theorem kM:cH Tryz.prog bG 60 jh:=cO (fH:=[(38,cR),(85,aS),(116,eu)]) (bU:=[(27,bD),(59,jL),(84,eB)]) (inv:=[]) ((au dK (au aX (au eY aL)))) ((aC bI (aC lz (aC fq aE)))) (aM) (fn:=Tryz.f60) rfl (by kernel_rfl) (fun x=>by kernel_rfl)
noncomputable def mE:jX:=⟨[true,false],oq,(.pair (.ref 75 (.pair (.dat .bool) (.pair (.buf HI 87) (.pair (.dat (.int .i64)) (.pair (.dat .bool) (.pair (.dat .bool) (.pair (.dat rE) .unit))))))) .unit),xp,fW⟩
theorem oP:cH Tryz.prog bG 34 mE:=cO (fH:=[(38,cR),(85,aS),(116,eu)]) (bU:=[(27,bD),(59,jL),(60,jh),(84,eB)]) (inv:=[]) ((au dK (au aX (au eY aL)))) ((aC bI (aC lz (aC kM (aC fq aE))))) (aM) (fn:=Tryz.f34) rfl (by kernel_rfl) (fun x=>by kernel_rfl)
noncomputable def oQ:jt:=⟨.unit,Rq,mg⟩
theorem sG:Holds Tryz.prog bG 153 oQ:=aZ (fH:=[]) (bU:=[]) (inv:=[]) (aL) (aE) (aM) (fn:=Tryz.f153) rfl (by kernel_rfl) (fun x=>by kernel_rfl)
noncomputable def oR:jt:=⟨.unit,(.pair (.arr 64 (.int .u32)) .unit),sn⟩
theorem sH:Holds Tryz.prog bG 154 oR:=aZ (fH:=[]) (bU:=[]) (inv:=[]) (aL) (aE) (aM) (fn:=Tryz.f154) rfl (by kernel_rfl) (fun x=>by kernel_rfl)
noncomputable def jD:jt:=⟨(.pair (.int .u32) ru),Qs,gu⟩
theorem pK:Holds Tryz.prog bG 171 jD:=aZ (fH:=[]) (bU:=[]) (inv:=[]) (aL) (aE) (aM) (fn:=Tryz.f171) rfl (by kernel_rfl) (fun x=>by kernel_rfl)
noncomputable def mF:jt:=⟨(.pair (.int .u32) ru),Qs,bF⟩
theorem oS:Holds Tryz.prog bG 156 mF:=aZ (fH:=[(171,jD)]) (bU:=[]) (inv:=[]) ((au pK aL)) (aE) (aM) (fn:=Tryz.f156) rfl (by kernel_rfl) (fun x=>by kernel_rfl)
noncomputable def kN:jt:=⟨(.pair (.arr 64 (.int .u8)) .unit),(.pair (.arr 64 (.int .u32)) .unit),ku⟩
theorem oh:Holds Tryz.prog bG 155 kN:=aZ (fH:=[(156,mF)]) (bU:=[]) (inv:=[]) ((au oS aL)) (aE) (aM) (fn:=Tryz.f155) rfl (by kernel_rfl) (fun x=>by kernel_rfl)
noncomputable def lA:jX:=⟨[true,false],oq,(.pair (.ref 0 (.dat P6)) .unit),.unit,dX⟩
theorem qg:cH Tryz.prog bG 107 lA:=cO (fH:=[(153,oQ),(154,oR),(155,kN),(156,mF)]) (bU:=[]) (inv:=[]) ((au sG (au sH (au oh (au oS aL))))) (aE) (aM) (fn:=Tryz.f107) rfl (by kernel_rfl) (fun x=>by kernel_rfl)
noncomputable def qh:jX:=⟨[true],.unit,(.pair (.ref 0 (.dat P6)) .unit),(.pair (.arr 32 (.int .u8)) .unit),jf⟩
theorem xq:cH Tryz.prog bG 108 qh:=cO (fH:=[(153,oQ),(154,oR),(155,kN),(156,mF)]) (bU:=[(107,lA)]) (inv:=[]) ((au sG (au sH (au oh (au oS aL))))) ((aC qg aE)) (aM) (fn:=Tryz.f108) rfl (by kernel_rfl) (fun x=>by kernel_rfl)
noncomputable def CD:jt:=⟨oq,(.pair (.arr 32 (.int .u8)) .unit),sZ⟩
theorem J7:Holds Tryz.prog bG 77 CD:=aZ (fH:=[(153,oQ),(154,oR),(155,kN),(156,mF)]) (bU:=[(107,lA),(108,qh)]) (inv:=[]) ((au sG (au sH (au oh (au oS aL))))) ((aC qg (aC xq aE))) (aM) (fn:=Tryz.f77) rfl (by kernel_rfl) (fun x=>by kernel_rfl)
noncomputable def vZ:jt:=⟨oq,oq,nc⟩
theorem D0:Holds Tryz.prog bG 78 vZ:=aZ (fH:=[]) (bU:=[]) (inv:=[]) (aL) (aE) (aM) (fn:=Tryz.f78) rfl (by kernel_rfl) (fun x=>by kernel_rfl)
noncomputable def mG:jt:=⟨oq,oq,iP⟩
theorem mH:Holds Tryz.prog bG 53 mG:=aZ (fH:=[(77,CD),(78,vZ)]) (bU:=[]) (inv:=[]) ((au J7 (au D0 aL))) (aE) (aM) (fn:=Tryz.f53) rfl (by kernel_rfl) (fun x=>by kernel_rfl)
noncomputable def mI:jt:=⟨(.pair .str oq),FR,jT⟩
theorem oT:Holds Tryz.prog bG 35 mI:=aZ (fH:=[(53,mG)]) (bU:=[]) (inv:=[]) ((au mH aL)) (aE) (aM) (fn:=Tryz.f35) rfl (by kernel_rfl) (fun x=>by kernel_rfl)
noncomputable def uO:jX:=⟨[true,false],(.pair M6 .unit),(.pair (.ref 75 (.pair (.dat .bool) (.pair (.buf HI 87) (.pair (.dat (.int .i64)) (.pair (.dat .bool) (.pair (.dat .bool) (.pair (.dat rE) .unit))))))) .unit),xp,dH⟩
theorem uP:cH Tryz.prog bG 14 uO:=cO (fH:=[(23,oN),(35,mI),(38,cR),(85,aS),(116,eu)]) (bU:=[(27,bD),(34,mE),(59,jL),(60,jh),(84,eB)]) (inv:=[]) ((au oO (au oT (au dK (au aX (au eY aL)))))) ((aC bI (aC oP (aC lz (aC kM (aC fq aE)))))) (aM) (fn:=Tryz.f14) rfl (by kernel_rfl) (fun x=>by kernel_rfl)
noncomputable def gQ:jX:=⟨[true],.unit,(.pair (.ref 120 (.pair (.dat .str) (.pair (.dat Rr) (.pair (.dat .str) (.pair (.dat (.pair .unit (.pair .unit ru))) .unit))))) .unit),oq,cz⟩
theorem jM:cH Tryz.prog bG 32 gQ:=HH mH P5
noncomputable def v7:jX:=⟨[true,false,false],(.pair (.slice M6) oq),(.pair (.ref 75 (.pair (.dat .bool) (.pair (.buf HI 87) (.pair (.dat (.int .i64)) (.pair (.dat .bool) (.pair (.dat .bool) (.pair (.dat rE) .unit))))))) .unit),(.pair (.int .i64) (.pair .bool ru)),fY⟩
theorem v8:cH Tryz.prog bG 11 v7:=cO (fH:=[(23,oN),(31,oL),(35,mI),(38,cR),(53,mG),(85,aS),(116,eu)]) (bU:=[(14,uO),(27,bD),(32,gQ),(34,mE),(59,jL),(60,jh),(84,eB)]) (inv:=[]) ((au oO (au oM (au oT (au dK (au mH (au aX (au eY aL)))))))) ((aC uP (aC bI (aC jM (aC oP (aC lz (aC kM (aC fq aE)))))))) (aM) (fn:=Tryz.f11) rfl (by kernel_rfl) (fun x=>by kernel_rfl)
noncomputable def ji:jX:=⟨[true],.unit,(.pair (.ref 75 (.pair (.dat .bool) (.pair (.buf HI 87) (.pair (.dat (.int .i64)) (.pair (.dat .bool) (.pair (.dat .bool) (.pair (.dat rE) .unit))))))) .unit),(.pair rE FR),dY⟩
theorem lB:cH Tryz.prog bG 13 ji:=cO (fH:=[]) (bU:=[(27,bD)]) (inv:=[]) (aL) ((aC bI aE)) (aM) (fn:=Tryz.f13) rfl (by kernel_rfl) (fun x=>by kernel_rfl)
noncomputable def tQ:jt:=⟨.unit,Rq,pz⟩
theorem BW:Holds Tryz.prog bG 67 tQ:=aZ (fH:=[]) (bU:=[]) (inv:=[]) (aL) (aE) (aM) (fn:=Tryz.f67) rfl (by kernel_rfl) (fun x=>by kernel_rfl)
noncomputable def tT:jt:=⟨oq,oq,lK⟩
theorem BX:Holds Tryz.prog bG 68 tT:=aZ (fH:=[]) (bU:=[]) (inv:=[]) (aL) (aE) (aM) (fn:=Tryz.f68) rfl (by kernel_rfl) (fun x=>by kernel_rfl)
noncomputable def we:jt:=⟨(.pair (.int .u32) ru),Qs,bz⟩
theorem D1:Holds Tryz.prog bG 102 we:=aZ (fH:=[]) (bU:=[]) (inv:=[]) (aL) (aE) (aM) (fn:=Tryz.f102) rfl (by kernel_rfl) (fun x=>by kernel_rfl)
noncomputable def sI:jt:=⟨.unit,(.pair (.arr 64 (.int .u32)) .unit),n6⟩
theorem A2:Holds Tryz.prog bG 103 sI:=aZ (fH:=[]) (bU:=[]) (inv:=[]) (aL) (aE) (aM) (fn:=Tryz.f103) rfl (by kernel_rfl) (fun x=>by kernel_rfl)
noncomputable def tU:jt:=⟨(.pair (.arr 8 (.int .u32)) oq),Rq,lM⟩
theorem BZ:Holds Tryz.prog bG 69 tU:=aZ (fH:=[(102,we),(103,sI)]) (bU:=[]) (inv:=[]) ((au D1 (au A2 aL))) (aE) (aM) (fn:=Tryz.f69) rfl (by kernel_rfl) (fun x=>by kernel_rfl)
noncomputable def x6:jt:=⟨oq,(.pair (.arr 32 (.int .u8)) .unit),oI⟩
theorem FM:Holds Tryz.prog bG 43 x6:=aZ (fH:=[(67,tQ),(68,tT),(69,tU)]) (bU:=[]) (inv:=[]) ((au BW (au BX (au BZ aL)))) (aE) (aM) (fn:=Tryz.f43) rfl (by kernel_rfl) (fun x=>by kernel_rfl)
noncomputable def pL:jt:=⟨ru,(.pair (.int .u8) .unit),ia⟩
theorem tV:Holds Tryz.prog bG 70 pL:=aZ (fH:=[]) (bU:=[]) (inv:=[]) (aL) (aE) (aM) (fn:=Tryz.f70) rfl (by kernel_rfl) (fun x=>by kernel_rfl)
noncomputable def x7:jt:=⟨oq,oq,oJ⟩
theorem FN:Holds Tryz.prog bG 44 x7:=aZ (fH:=[(70,pL)]) (bU:=[]) (inv:=[]) ((au tV aL)) (aE) (aM) (fn:=Tryz.f44) rfl (by kernel_rfl) (fun x=>by kernel_rfl)
noncomputable def qQ:jt:=⟨oq,oq,lq⟩
theorem qR:Holds Tryz.prog bG 22 qQ:=aZ (fH:=[(43,x6),(44,x7)]) (bU:=[]) (inv:=[]) ((au FM (au FN aL))) (aE) (aM) (fn:=Tryz.f22) rfl (by kernel_rfl) (fun x=>by kernel_rfl)
noncomputable def oU:jt:=⟨(.pair (.slice .str) (.pair (.slice .str) .unit)),FR,vR⟩
theorem wg:Holds Tryz.prog bG 26 oU:=aZ (fH:=[]) (bU:=[]) (inv:=[]) (aL) (aE) (aM) (fn:=Tryz.f26) rfl (by kernel_rfl) (fun x=>by kernel_rfl)
noncomputable def tW:jt:=⟨.unit,FR,jz⟩
theorem B0:Holds Tryz.prog bG 7 tW:=aZ (fH:=[(22,⟨oq,oq,uM⟩),(23,⟨xp,oq,sB⟩),(26,oU),(31,⟨xp,oq,sA⟩),(35,mI),(38,cR),(47,eO),(53,mG),(85,aS),(116,eu)]) (bU:=[(11,⟨[true,false,false],(.pair (.slice M6) oq),(.pair (.ref 75 (.pair (.dat .bool) (.pair (.buf HI 87) (.pair (.dat (.int .i64)) (.pair (.dat .bool) (.pair (.dat .bool) (.pair (.dat rE) .unit))))))) .unit),(.pair (.int .i64) (.pair .bool ru)),qO⟩),(13,ji),(14,⟨[true,false],(.pair M6 .unit),(.pair (.ref 75 (.pair (.dat .bool) (.pair (.buf HI 87) (.pair (.dat (.int .i64)) (.pair (.dat .bool) (.pair (.dat .bool) (.pair (.dat rE) .unit))))))) .unit),xp,uN⟩),(27,bD),(32,gQ),(34,mE),(59,jL),(60,jh),(84,eB)]) (inv:=[]) ((au (qR.weaken BT) (au (oO.weaken AV) (au wg (au (oM.weaken AU) (au oT (au dK (au gW (au mH (au aX (au eY aL))))))))))) ((aC (v8.weaken yF) (aC lB (aC (uP.weaken BU) (aC bI (aC jM (aC oP (aC lz (aC kM (aC fq aE)))))))))) (aM) (fn:=Tryz.f7) rfl (by kernel_rfl) (fun x=>by rename_i i;obtain rfl:i=Lp.O9:=Lp.one _ _;kernel_rfl)
noncomputable def oV:jX:=⟨[true],.unit,(.pair (.ref 75 (.pair (.dat .bool) (.pair (.buf HI 87) (.pair (.dat (.int .i64)) (.pair (.dat .bool) (.pair (.dat .bool) (.pair (.dat rE) .unit))))))) .unit),.unit,dF⟩
theorem wh:cH Tryz.prog bG 9 oV:=cO (fH:=[]) (bU:=[(27,bD)]) (inv:=[]) (aL) ((aC bI aE)) (aM) (fn:=Tryz.f9) rfl (by kernel_rfl) (fun x=>by kernel_rfl)
noncomputable def oW:jX:=⟨[true],.unit,(.pair (.ref 34 (.pair (.buf rE 32) (.pair (.buf IB 49) (.pair (.dat (.int .i64)) (.pair (.dat rE) (.pair (.dat .bool) (.pair (.dat .bool) .unit))))))) .unit),.unit,eJ⟩
theorem wk:cH Tryz.prog bG 10 oW:=cO (fH:=[]) (bU:=[]) (inv:=[]) (aL) (aE) (aM) (fn:=Tryz.f10) rfl (by kernel_rfl) (fun x=>by kernel_rfl)
noncomputable def iX:jX:=⟨[true,false],(.pair rE .unit),(.pair (.ref 34 (.pair (.buf rE 32) (.pair (.buf IB 49) (.pair (.dat (.int .i64)) (.pair (.dat rE) (.pair (.dat .bool) (.pair (.dat .bool) .unit))))))) .unit),FK,dG⟩
theorem kO:cH Tryz.prog bG 61 iX:=cO (fH:=[]) (bU:=[]) (inv:=[]) (aL) (aE) (aM) (fn:=Tryz.f61) rfl (by kernel_rfl) (fun x=>by kernel_rfl)
noncomputable def jE:jt:=⟨FK,FR,lP⟩
theorem lS:Holds Tryz.prog bG 62 jE:=aZ (fH:=[]) (bU:=[]) (inv:=[]) (aL) (aE) (aM) (fn:=Tryz.f62) rfl (by kernel_rfl) (fun x=>by kernel_rfl)
noncomputable def nx:jX:=⟨[true,false],oq,(.pair (.ref 34 (.pair (.buf rE 32) (.pair (.buf IB 49) (.pair (.dat (.int .i64)) (.pair (.dat rE) (.pair (.dat .bool) (.pair (.dat .bool) .unit))))))) .unit),xp,fX⟩
theorem qS:cH Tryz.prog bG 36 nx:=cO (fH:=[(62,jE)]) (bU:=[(61,iX)]) (inv:=[]) ((au lS aL)) ((aC kO aE)) (aM) (fn:=Tryz.f36) rfl (by kernel_rfl) (fun x=>by kernel_rfl)
noncomputable def tX:jt:=⟨(.pair (.int .u8) .unit),ru,jy⟩
theorem B1:Holds Tryz.prog bG 115 tX:=aZ (fH:=[(70,pL)]) (bU:=[]) (inv:=[]) ((au tV aL)) (aE) (aM) (fn:=Tryz.f115) rfl (by kernel_rfl) (fun x=>by kernel_rfl)
noncomputable def tY:jt:=⟨oq,(.pair .str FR),lN⟩
theorem B2:Holds Tryz.prog bG 82 tY:=aZ (fH:=[(115,tX)]) (bU:=[]) (inv:=[]) ((au B1 aL)) (aE) (aM) (fn:=Tryz.f82) rfl (by kernel_rfl) (fun x=>by kernel_rfl)
noncomputable def tZ:jt:=⟨oq,ru,lO⟩
theorem B3:Holds Tryz.prog bG 57 tZ:=aZ (fH:=[(82,tY)]) (bU:=[]) (inv:=[]) ((au B2 aL)) (aE) (aM) (fn:=Tryz.f57) rfl (by kernel_rfl) (fun x=>by kernel_rfl)
noncomputable def ua:jt:=⟨ru,oq,gr⟩
theorem A3(rec:(ru:Ty).den→Option (oq:Ty).den)(Tg:Holds Tryz.prog bG 83 ⟨ru,oq,rec⟩):Holds Tryz.prog bG 83 ⟨ru,oq,pE rec⟩:=aZ (fH:=[(83,⟨ru,oq,rec⟩)]) (bU:=[]) (inv:=[]) (au Tg aL) (aE) (aM) (fn:=Tryz.f83) rfl (by kernel_rfl) (fun x=>by kernel_rfl)
theorem B4:Holds Tryz.prog bG 83 ua:=JC Tryz.func83 (by kernel_rfl) (by kernel_rfl) A3 dy uJ uK vW
noncomputable def x8:jt:=⟨ru,oq,oK⟩
theorem FO:Holds Tryz.prog bG 58 x8:=aZ (fH:=[(83,ua)]) (bU:=[]) (inv:=[]) ((au B4 aL)) (aE) (aM) (fn:=Tryz.f58) rfl (by kernel_rfl) (fun x=>by kernel_rfl)
noncomputable def ny:jt:=⟨xp,oq,fZ⟩
theorem qT:Holds Tryz.prog bG 33 ny:=aZ (fH:=[(57,tZ),(58,x8)]) (bU:=[]) (inv:=[]) ((au B3 (au FO aL))) (aE) (aM) (fn:=Tryz.f33) rfl (by kernel_rfl) (fun x=>by kernel_rfl)
noncomputable def nA:jt:=⟨xp,oq,nk⟩
theorem qU:Holds Tryz.prog bG 37 nA:=aZ (fH:=[(33,ny)]) (bU:=[]) (inv:=[]) ((au qT aL)) (aE) (aM) (fn:=Tryz.f37) rfl (by kernel_rfl) (fun x=>by kernel_rfl)
noncomputable def sJ:jX:=⟨[true,false],(.pair M6 .unit),(.pair (.ref 34 (.pair (.buf rE 32) (.pair (.buf IB 49) (.pair (.dat (.int .i64)) (.pair (.dat rE) (.pair (.dat .bool) (.pair (.dat .bool) .unit))))))) .unit),xp,eA⟩
theorem x9:cH Tryz.prog bG 15 sJ:=cO (fH:=[(22,qQ),(37,nA),(62,jE)]) (bU:=[(36,nx),(61,iX)]) (inv:=[]) ((au qR (au qU (au lS aL)))) ((aC qS (aC kO aE))) (aM) (fn:=Tryz.f15) rfl (by kernel_rfl) (fun x=>by kernel_rfl)
noncomputable def uc:jX:=⟨[true,false,false],(.pair (.slice M6) oq),(.pair (.ref 34 (.pair (.buf rE 32) (.pair (.buf IB 49) (.pair (.dat (.int .i64)) (.pair (.dat rE) (.pair (.dat .bool) (.pair (.dat .bool) .unit))))))) .unit),(.pair (.int .i64) (.pair .bool ru)),jA⟩
theorem B5:cH Tryz.prog bG 12 uc:=cO (fH:=[(22,qQ),(33,ny),(37,nA),(62,jE)]) (bU:=[(15,sJ),(36,nx),(61,iX)]) (inv:=[]) ((au qR (au qT (au qU (au lS aL))))) ((aC x9 (aC qS (aC kO aE)))) (aM) (fn:=Tryz.f12) rfl (by kernel_rfl) (fun x=>by kernel_rfl)
noncomputable def qi:jX:=⟨[true,false],FK,(.pair (.ref 75 (.pair (.dat .bool) (.pair (.buf HI 87) (.pair (.dat (.int .i64)) (.pair (.dat .bool) (.pair (.dat .bool) (.pair (.dat rE) .unit))))))) .unit),ru,bW⟩
theorem xu:cH Tryz.prog bG 16 qi:=cO (fH:=[(38,cR)]) (bU:=[(13,ji),(27,bD)]) (inv:=[]) ((au dK aL)) ((aC lB (aC bI aE))) (aM) (fn:=Tryz.f16) rfl (by kernel_rfl) (fun x=>by kernel_rfl)
noncomputable def qj:jX:=⟨[true,false],FK,(.pair (.ref 34 (.pair (.buf rE 32) (.pair (.buf IB 49) (.pair (.dat (.int .i64)) (.pair (.dat rE) (.pair (.dat .bool) (.pair (.dat .bool) .unit))))))) .unit),ru,bX⟩
theorem xw:cH Tryz.prog bG 17 qj:=cO (fH:=[]) (bU:=[]) (inv:=[]) (aL) (aE) (aM) (fn:=Tryz.f17) rfl (by kernel_rfl) (fun x=>by kernel_rfl)
noncomputable def xy:jt:=⟨(.pair (.slice M6) (.pair .str (.pair (.slice IB) .unit))),FR,jg⟩
theorem xz:Holds Tryz.prog bG 3 xy:=aZ (fH:=[(5,x5),(6,ry),(7,tW),(22,qQ),(23,oN),(31,oL),(33,ny),(35,mI),(37,nA),(38,cR),(53,mG),(62,jE),(85,aS),(116,eu)]) (bU:=[(9,oV),(10,oW),(11,v7),(12,uc),(13,ji),(14,uO),(15,sJ),(16,qi),(17,qj),(27,bD),(32,gQ),(34,mE),(36,nx),(59,jL),(60,jh),(61,iX),(84,eB)]) (inv:=[]) ((au FL (au yH (au B0 (au qR (au oO (au oM (au qT (au oT (au qU (au dK (au mH (au lS (au aX (au eY aL))))))))))))))) ((aC wh (aC wk (aC v8 (aC B5 (aC lB (aC uP (aC x9 (aC xu (aC xw (aC bI (aC jM (aC oP (aC qS (aC lz (aC kM (aC kO (aC fq aE)))))))))))))))))) (aM) (fn:=Tryz.f3) rfl (by kernel_rfl) (fun x=>by kernel_rfl)
end Go.Proofs.YtbaijbjhkmoidaaGreatDoor
