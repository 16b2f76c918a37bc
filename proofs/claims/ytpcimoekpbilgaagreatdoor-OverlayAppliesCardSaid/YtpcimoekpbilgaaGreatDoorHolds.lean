/- The layer's functions keep their contracts: each comes to its plain definition, by the ghost interpreter. -/
import Derived.Test.YtpcimoekpbilgaaGreatDoorRows
import Derived.Test.YtpcimoekpbilgaaGreatDoorPlE
import Derived.Test.YtpcimoekpbilgaaGreatDoorFirst
import Derived.Test.YtpcimoekpbilgaaGreatDoorShelf
namespace Go.Proofs.YtpcimoekpbilgaaGreatDoor
open Go Go.Ge
set_option linter.unusedVariables false
set_option maxRecDepth 100000

open First
abbrev YH0:Ty:=(.pair .str (.pair (.int .i64) (.pair (.int .i64) (.pair .str (.pair .str .unit)))))
abbrev YH1:Ty:=(.pair .str (.pair (.int .i64) (.pair (.int .i64) (.pair (.int .i64) (.pair (.int .i64) (.pair (.int .i64) (.pair (.int .i64) (.pair .str .unit))))))))
abbrev YH2:Ty:=(.pair .str .unit)
abbrev YH3:Ty:=(.pair (.int .i64) .unit)
abbrev YH4:Ty:=(.pair .bool .unit)
abbrev YH5:Ty:=(.pair (.slice YH0) .unit)
abbrev YH6:Ty:=(.alt 94 YH2 (.alt 96 YH2 (.alt 98 .unit (.alt 100 (.pair YH0 .unit) .noi))))
abbrev YH7:Ty:=(.pair (.slice YH0) YH3)
abbrev YH8:Ty:=(.pair (.slice YH0) YH2)
abbrev YH9:Ty:=(.pair .bool (.pair .str (.pair (.int .i64) (.pair .bool YH4))))
abbrev YH10:Ty:=(.slice (.pair YH1 YH2))
abbrev YH11:Ty:=(.pair .str YH2)
noncomputable def plans:Nat→FPlan
 | 5=>⟨[none],[]⟩
 | 8=>⟨[some ⟨[(4,4),(5,3)],[],false⟩,none,none],[]⟩
 | 10=>⟨[],[]⟩
 | 11=>⟨[none,none,some ⟨[(8,22),(30,3),(6,999999),(28,999999)],[6,8,28,2000008],false⟩,none,some ⟨[(4,22),(5,27),(8,22),(40,3),(38,999999)],[8,38],false⟩,none,none],[25]⟩
 | 12=>⟨[none,none,some ⟨[(0,22),(6,3)],[],false⟩,none,some ⟨[(0,22)],[],false⟩,some ⟨[(0,22)],[],false⟩,some ⟨[(0,22),(4,22),(5,27),(10,3)],[],false⟩,none,none,none,none],[]⟩
 | 13=>⟨[none,some ⟨[(4,4),(5,3)],[],false⟩,none,none],[]⟩
 | 14=>⟨[none,some ⟨[(2,4),(3,3)],[],false⟩,none,none],[]⟩
 | 16=>⟨[none,some ⟨[(4,4),(7,3)],[],false⟩,none,none],[]⟩
 | 17=>⟨[none],[]⟩
 | 18=>⟨[none],[]⟩
 | 19=>⟨[none,none],[]⟩
 | 20=>⟨[none],[]⟩
 | 21=>⟨[none],[]⟩
 | 23=>⟨[],[]⟩
 | 24=>⟨[none,some ⟨[(2,27),(12,3)],[],false⟩,none,none],[]⟩
 | 25=>⟨[some ⟨[(2,53),(3,4),(4,53),(11,3)],[4],false⟩,none,none],[4]⟩
 | 26=>⟨[some ⟨[(2,4),(3,3)],[],false⟩,none,none],[]⟩
 | 27=>⟨[none,none,none,none],[]⟩
 | 28=>⟨[none],[]⟩
 | 29=>⟨[none],[]⟩
 | 30=>⟨[some ⟨[(0,22),(4,22),(5,27),(7,9),(8,3)],[],false⟩,none,none,none],[]⟩
 | 31=>⟨[none,none,none,some ⟨[(8,22),(0,999999)],[0],true⟩,some ⟨[(8,22),(0,999999)],[0],true⟩,none,some ⟨[(12,3)],[],false⟩,none],[10,11]⟩
 | 32=>⟨[],[]⟩
 | 33=>⟨[none],[]⟩
 | 34=>⟨[none,none,none],[]⟩
 | 35=>⟨[],[]⟩
 | 36=>⟨[some ⟨[(4,3),(7,3)],[],false⟩,none,none,none,none,none],[]⟩
 | 37=>⟨[none,some ⟨[(3,47),(4,9),(5,3)],[3],false⟩,none,some ⟨[(3,47),(4,9)],[3],false⟩],[3]⟩
 | 38=>⟨[some ⟨[(4,3),(5,3)],[],false⟩,none,none],[]⟩
 | 39=>⟨[some ⟨[(5,23),(6,0),(7,4)],[4,5,6],false⟩,none,none],[5,6]⟩
 | 40=>⟨[none],[]⟩
 | 41=>⟨[none],[]⟩
 | 42=>⟨[none,none,none,none],[]⟩
 | 43=>⟨[],[]⟩
 | 44=>⟨[none,none,none],[]⟩
 | 45=>⟨[none,none,none,none,none],[]⟩
 | 46=>⟨[some ⟨[(5,47),(6,3)],[5],false⟩,none,some ⟨[(5,47)],[5],false⟩,none],[5]⟩
 | 47=>⟨[none,none,none],[]⟩
 | 48=>⟨[none,none],[]⟩
 | 49=>⟨[some ⟨[(2,4),(4,9),(5,3)],[],false⟩,none,none],[]⟩
 | 50=>⟨[some ⟨[(7,22),(8,3)],[7],false⟩,none,some ⟨[(7,22)],[7],false⟩],[7]⟩
 | 51=>⟨[some ⟨[(3,9),(4,3)],[],false⟩,none,some ⟨[(3,9)],[],false⟩],[]⟩
 | 52=>⟨[some ⟨[(2,4),(4,3)],[],false⟩,none,none],[]⟩
 | 53=>⟨[some ⟨[(2,4),(3,3)],[],false⟩,none,none],[]⟩
 | 54=>⟨[],[]⟩
 | 55=>⟨[none,none,none,none],[]⟩
 | 56=>⟨[],[]⟩
 | 57=>⟨[none,some ⟨[(0,9),(2,23),(3,4),(4,23)],[4],true⟩,none,none,none],[4]⟩
 | 58=>⟨[none,none,none,none,none],[]⟩
 | 59=>⟨[],[]⟩
 | 60=>⟨[],[]⟩
 | 61=>⟨[some ⟨[(6,3),(13,3)],[2],false⟩,none,none,none,none],[]⟩
 | 62=>⟨[none],[]⟩
 | 63=>⟨[none,none,none,none,none],[]⟩
 | 64=>⟨[],[]⟩
 | 65=>⟨[some ⟨[(2,9),(3,27),(4,47),(11,3)],[4],false⟩,none,some ⟨[(2,9),(3,27),(4,47)],[4],false⟩,none,none],[4]⟩
 | 66=>⟨[none,none,none],[]⟩
 | 67=>⟨[none],[]⟩
 | 68=>⟨[],[]⟩
 | 69=>⟨[some ⟨[(3,22),(6,9),(18,3)],[3],false⟩,none],[3]⟩
 | 70=>⟨[],[]⟩
 | 71=>⟨[some ⟨[(2,4),(3,3)],[],false⟩,none,none],[]⟩
 | 72=>⟨[],[]⟩
 | 73=>⟨[],[]⟩
 | 74=>⟨[none,none,none],[]⟩
 | 75=>⟨[none,some ⟨[(4,9)],[],false⟩,some ⟨[(71,4)],[],false⟩,some ⟨[],[10],false⟩,some ⟨[],[10],false⟩,some ⟨[],[10],false⟩,none],[]⟩
 | 76=>⟨[],[]⟩
 | 77=>⟨[some ⟨[(2,4),(3,3)],[],false⟩,none,none],[]⟩
 | 78=>⟨[none,some ⟨[(2,4),(3,3)],[],false⟩,none,none],[]⟩
 | 79=>⟨[none,some ⟨[],[11],false⟩,some ⟨[(74,4)],[],false⟩,some ⟨[],[11],false⟩,some ⟨[],[11],false⟩,some ⟨[],[11],false⟩,none],[]⟩
 | 80=>⟨[some ⟨[(0,3)],[],false⟩,none],[]⟩
 | 81=>⟨[some ⟨[(4,3),(5,3)],[],false⟩,none,none],[]⟩
 | 82=>⟨[some ⟨[(9,125),(10,3)],[],false⟩,none,none,some ⟨[(4,3),(9,125),(11,3)],[],false⟩,none,none],[]⟩
 | 85=>⟨[],[]⟩
 | 86=>⟨[some ⟨[(9,3),(10,3)],[1,2],false⟩,none,some ⟨[(9,3),(10,3)],[],false⟩],[]⟩
 | 87=>⟨[],[]⟩
 | 88=>⟨[some ⟨[(2,4),(6,3)],[],false⟩,none,none],[]⟩
 | 90=>⟨[],[]⟩
 | 91=>⟨[],[]⟩
 | 92=>⟨[],[]⟩
 | 93=>⟨[some ⟨[(0,9)],[],false⟩,none],[]⟩
 | 94=>⟨[some ⟨[(0,9)],[],false⟩,none],[]⟩
 | 95=>⟨[some ⟨[(3,4),(4,3)],[2],false⟩,none,none],[]⟩
 | 96=>⟨[some ⟨[(0,9)],[1],false⟩,none,none],[]⟩
 | 97=>⟨[some ⟨[(0,9)],[1],false⟩,none,none],[]⟩
 | 100=>⟨[],[]⟩
 | 101=>⟨[none],[]⟩
 | 102=>⟨[some ⟨[(4,3),(12,3)],[],false⟩,none,some ⟨[(6,5)],[],false⟩],[]⟩
 | 103=>⟨[],[]⟩
 | 104=>⟨[none,none,none,none],[]⟩
 | 105=>⟨[some ⟨[(3,3)],[],false⟩,none,none,some ⟨[(2,3),(4,3)],[],false⟩,none,none,none],[]⟩
 | 106=>⟨[some ⟨[(3,3),(4,3)],[],false⟩,none,some ⟨[(3,3)],[],false⟩],[]⟩
 | 107=>⟨[some ⟨[(2,9),(3,4),(4,3)],[],false⟩,none,none,some ⟨[(2,9),(3,4),(5,3)],[],false⟩,none,none],[]⟩
 | 108=>⟨[some ⟨[(5,4)],[],false⟩],[]⟩
 | 109=>⟨[some ⟨[(4,125),(5,3)],[],false⟩,none,some ⟨[(6,125),(7,125),(8,3)],[],false⟩,none,some ⟨[(6,125)],[],false⟩],[]⟩
 | 115=>⟨[],[]⟩
 | 116=>⟨[none],[]⟩
 | 117=>⟨[some ⟨[(4,3),(8,3)],[],false⟩,none,none],[]⟩
 | 118=>⟨[],[]⟩
 | 122=>⟨[],[]⟩
 | 123=>⟨[none,none,none],[]⟩
 | 124=>⟨[none,some ⟨[(2,3),(3,4),(4,3),(18,3)],[],false⟩,none,none],[]⟩
 | 125=>⟨[],[]⟩
 | 126=>⟨[],[]⟩
 | 127=>⟨[none,some ⟨[(2,3),(3,4),(4,3),(5,3)],[],false⟩,none,none],[]⟩
 | 128=>⟨[some ⟨[(4,4),(5,3)],[],false⟩,none,none],[]⟩
 | 129=>⟨[],[]⟩
 | 163=>⟨[],[]⟩
 | 164=>⟨[],[]⟩
 | 165=>⟨[],[]⟩
 | 166=>⟨[none],[9]⟩
 | 167=>⟨[],[]⟩
 | 168=>⟨[],[]⟩
 | 169=>⟨[none,some ⟨[(5,3),(6,3),(0,999999)],[0,1],false⟩,none,some ⟨[(5,3),(0,999999)],[0],false⟩],[]⟩
 | 170=>⟨[none],[5]⟩
 | 171=>⟨[],[]⟩
 | 172=>⟨[none,some ⟨[(4,4),(13,3)],[],false⟩,none,none],[]⟩
 | 173=>⟨[some ⟨[(4,3),(8,3)],[1],false⟩,none,none],[]⟩
 | 174=>⟨[],[]⟩
 | 175=>⟨[],[]⟩
 | 176=>⟨[],[]⟩
 | 177=>⟨[],[]⟩
 | 178=>⟨[],[]⟩
 | 179=>⟨[],[]⟩
 | 180=>⟨[],[]⟩
 | 181=>⟨[some ⟨[(1,22),(4,22),(5,27),(6,9),(25,3)],[],false⟩,none,none,none],[]⟩
 | 182=>⟨[none,none],[]⟩
 | 183=>⟨[none,none,none,none],[55]⟩
 | _=>⟨[],[]⟩

def objs:List (Nat×List OFld):=[(133,[.self,.buf (.int .u8) 5]),(98,[])]
def els:List (Nat×Nat):=[(51,5)]
noncomputable def spc:List (Nat×Spc):=[(170,.clone YH0),(184,(.own YH0 (.pair (.int .i64) YH5) true P_slices_Insert_api_TreeNode_api_TreeNode))]
noncomputable def tys:List (Nat×Ty):=[(3,(.int .i64)),(4,.bool),(5,(.int .u8)),(9,.str),(21,(.int .i32)),(22,(.slice YH0)),(23,YH10),(27,(.int .i64)),(36,YH1),(38,(.pair YH1 YH2)),(41,YH0),(47,(.slice .str)),(51,(.slice (.int .u8))),(53,(.slice YH6)),(57,YH6),(94,YH2),(96,YH2),(100,(.pair YH0 .unit)),(102,YH9),(116,(.arr 256 .bool)),(125,(.int .u32)),(129,(.int .u64)),(130,(.arr 2 .str)),(146,(.pair (.int .i64) YH3)),(147,(.arr 11 (.pair (.int .i64) YH3))),(158,(.arr 256 (.int .u8))),(160,(.pair (.int .u8) (.pair (.int .u8) .unit))),(161,(.arr 16 (.pair (.int .u8) (.pair (.int .u8) .unit))))]
noncomputable def funs:List (Nat×Func):=[(5,Tryz.f5),(8,Tryz.f8),(10,Tryz.f10),(11,Tryz.f11),(12,Tryz.f12),(13,Tryz.f13),(14,Tryz.f14),(16,Tryz.f16),(17,Tryz.f17),(18,Tryz.f18),(19,Tryz.f19),(20,Tryz.f20),(21,Tryz.f21),(23,Tryz.f23),(24,Tryz.f24),(25,Tryz.f25),(26,Tryz.f26),(27,Tryz.f27),(28,Tryz.f28),(29,Tryz.f29),(30,Tryz.f30),(31,Tryz.f31),(32,Tryz.f32),(33,Tryz.f33),(34,Tryz.f34),(35,Tryz.f35),(36,Tryz.f36),(37,Tryz.f37),(38,Tryz.f38),(39,Tryz.f39),(40,Tryz.f40),(41,Tryz.f41),(42,Tryz.f42),(43,Tryz.f43),(44,Tryz.f44),(45,Tryz.f45),(46,Tryz.f46),(47,Tryz.f47),(48,Tryz.f48),(49,Tryz.f49),(50,Tryz.f50),(51,Tryz.f51),(52,Tryz.f52),(53,Tryz.f53),(54,Tryz.f54),(55,Tryz.f55),(56,Tryz.f56),(57,Tryz.f57),(58,Tryz.f58),(59,Tryz.f59),(60,Tryz.f60),(61,Tryz.f61),(62,Tryz.f62),(63,Tryz.f63),(64,Tryz.f64),(65,Tryz.f65),(66,Tryz.f66),(67,Tryz.f67),(68,Tryz.f68),(69,Tryz.f69),(70,Tryz.f70),(71,Tryz.f71),(72,Tryz.f72),(73,Tryz.f73),(74,Tryz.f74),(75,Tryz.f75),(76,Tryz.f76),(77,Tryz.f77),(78,Tryz.f78),(79,Tryz.f79),(80,Tryz.f80),(81,Tryz.f81),(82,Tryz.f82),(85,Tryz.f85),(86,Tryz.f86),(87,Tryz.f87),(88,Tryz.f88),(90,Tryz.f90),(91,Tryz.f91),(92,Tryz.f92),(93,Tryz.f93),(94,Tryz.f94),(95,Tryz.f95),(96,Tryz.f96),(97,Tryz.f97),(100,Tryz.f100),(101,Tryz.f101),(102,Tryz.f102),(103,Tryz.f103),(104,Tryz.f104),(105,Tryz.f105),(106,Tryz.f106),(107,Tryz.f107),(108,Tryz.f108),(109,Tryz.f109),(115,Tryz.f115),(116,Tryz.f116),(117,Tryz.f117),(118,Tryz.f118),(122,Tryz.f122),(123,Tryz.f123),(124,Tryz.f124),(125,Tryz.f125),(126,Tryz.f126),(127,Tryz.f127),(128,Tryz.f128),(129,Tryz.f129),(163,Tryz.f163),(164,Tryz.f164),(165,Tryz.f165),(166,Tryz.f166),(167,Tryz.f167),(168,Tryz.f168),(169,Tryz.f169),(170,Tryz.f170),(171,Tryz.f171),(172,Tryz.f172),(173,Tryz.f173),(174,Tryz.f174),(175,Tryz.f175),(176,Tryz.f176),(177,Tryz.f177),(178,Tryz.f178),(179,Tryz.f179),(180,Tryz.f180),(181,Tryz.f181),(182,Tryz.f182),(183,Tryz.f183)]
def ones:List Nat:=[66,67,80,83,109,120,131,153]
def ptrs:List Nat:=[83,120,131,153]
noncomputable def cxOf (con:List (Nat×Con)) (rcon:List (Nat×RCon)) (inv:List (String×Con):=[]):Ctx:=⟨tys,ones,ptrs,funs,con,rcon,objs,spc,els,inv⟩

theorem mix:Tryz.prog.follows .mixedOrders=true:=by kernel_rfl

theorem T_ok:∀ tid t,find tys tid=some t→Den Tryz.prog t tid:=tys_ok (by kernel_rfl)
theorem ones_ok:∀ tid,memN ones tid=true→(∀ w,(isAgg tid).run Tryz.prog w = .ok false w)∧(∀ w,(Go.sizeOf tid).run Tryz.prog w = .ok 1 w)∧∃ z,(∀ w,(zeroValue tid).run Tryz.prog w = .ok z w)∧z.oneCell'=true:=ones_of (by kernel_rfl)
theorem ptrs_ok:∀ tid,memN ptrs tid=true→∃ e,Tryz.prog.underlying tid=some (.pointer e):=ptrs_of (by kernel_rfl)
theorem fns_ok:∀ f fn,find funs f=some fn→Tryz.prog.funcs[f]? = some fn:=fns_of ((fns_cons Tryz.func5 (fns_cons Tryz.func8 (fns_cons Tryz.func10 (fns_cons Tryz.func11 (fns_cons Tryz.func12 (fns_cons Tryz.func13 (fns_cons Tryz.func14 (fns_cons Tryz.func16 (fns_cons Tryz.func17 (fns_cons Tryz.func18 (fns_cons Tryz.func19 (fns_cons Tryz.func20 (fns_cons Tryz.func21 (fns_cons Tryz.func23 (fns_cons Tryz.func24 (fns_cons Tryz.func25 (fns_cons Tryz.func26 (fns_cons Tryz.func27 (fns_cons Tryz.func28 (fns_cons Tryz.func29 (fns_cons Tryz.func30 (fns_cons Tryz.func31 (fns_cons Tryz.func32 (fns_cons Tryz.func33 (fns_cons Tryz.func34 (fns_cons Tryz.func35 (fns_cons Tryz.func36 (fns_cons Tryz.func37 (fns_cons Tryz.func38 (fns_cons Tryz.func39 (fns_cons Tryz.func40 (fns_cons Tryz.func41 (fns_cons Tryz.func42 (fns_cons Tryz.func43 (fns_cons Tryz.func44 (fns_cons Tryz.func45 (fns_cons Tryz.func46 (fns_cons Tryz.func47 (fns_cons Tryz.func48 (fns_cons Tryz.func49 (fns_cons Tryz.func50 (fns_cons Tryz.func51 (fns_cons Tryz.func52 (fns_cons Tryz.func53 (fns_cons Tryz.func54 (fns_cons Tryz.func55 (fns_cons Tryz.func56 (fns_cons Tryz.func57 (fns_cons Tryz.func58 (fns_cons Tryz.func59 (fns_cons Tryz.func60 (fns_cons Tryz.func61 (fns_cons Tryz.func62 (fns_cons Tryz.func63 (fns_cons Tryz.func64 (fns_cons Tryz.func65 (fns_cons Tryz.func66 (fns_cons Tryz.func67 (fns_cons Tryz.func68 (fns_cons Tryz.func69 (fns_cons Tryz.func70 (fns_cons Tryz.func71 (fns_cons Tryz.func72 (fns_cons Tryz.func73 (fns_cons Tryz.func74 (fns_cons Tryz.func75 (fns_cons Tryz.func76 (fns_cons Tryz.func77 (fns_cons Tryz.func78 (fns_cons Tryz.func79 (fns_cons Tryz.func80 (fns_cons Tryz.func81 (fns_cons Tryz.func82 (fns_cons Tryz.func85 (fns_cons Tryz.func86 (fns_cons Tryz.func87 (fns_cons Tryz.func88 (fns_cons Tryz.func90 (fns_cons Tryz.func91 (fns_cons Tryz.func92 (fns_cons Tryz.func93 (fns_cons Tryz.func94 (fns_cons Tryz.func95 (fns_cons Tryz.func96 (fns_cons Tryz.func97 (fns_cons Tryz.func100 (fns_cons Tryz.func101 (fns_cons Tryz.func102 (fns_cons Tryz.func103 (fns_cons Tryz.func104 (fns_cons Tryz.func105 (fns_cons Tryz.func106 (fns_cons Tryz.func107 (fns_cons Tryz.func108 (fns_cons Tryz.func109 (fns_cons Tryz.func115 (fns_cons Tryz.func116 (fns_cons Tryz.func117 (fns_cons Tryz.func118 (fns_cons Tryz.func122 (fns_cons Tryz.func123 (fns_cons Tryz.func124 (fns_cons Tryz.func125 (fns_cons Tryz.func126 (fns_cons Tryz.func127 (fns_cons Tryz.func128 (fns_cons Tryz.func129 (fns_cons Tryz.func163 (fns_cons Tryz.func164 (fns_cons Tryz.func165 (fns_cons Tryz.func166 (fns_cons Tryz.func167 (fns_cons Tryz.func168 (fns_cons Tryz.func169 (fns_cons Tryz.func170 (fns_cons Tryz.func171 (fns_cons Tryz.func172 (fns_cons Tryz.func173 (fns_cons Tryz.func174 (fns_cons Tryz.func175 (fns_cons Tryz.func176 (fns_cons Tryz.func177 (fns_cons Tryz.func178 (fns_cons Tryz.func179 (fns_cons Tryz.func180 (fns_cons Tryz.func181 (fns_cons Tryz.func182 (fns_cons Tryz.func183 fns_nil)))))))))))))))))))))))))))))))))))))))))))))))))))))))))))))))))))))))))))))))))))))))))))))))))))))))))))))))))))))))))))))))))
theorem objs_ok:∀ tid fs,find objs tid=some fs→objB Tryz.prog tid fs=true:=objs_of (by kernel_rfl)
theorem els_ok:∀ tid e,find els tid=some e→Tryz.prog.underlying tid=some (.slice e):=els_of (by kernel_rfl)
theorem cx_ok (con:List (Nat×Con)) (rcon:List (Nat×RCon)) (inv:List (String×Con):=[]):CxOk Tryz.prog (cxOf con rcon inv):=⟨T_ok,ones_ok,ptrs_ok,fns_ok,objs_ok,els_ok⟩
noncomputable def cx0:Ctx:=⟨tys,ones,ptrs,funs,[],[],objs,[],els,[]⟩
theorem cx0_ok:CxOk Tryz.prog cx0:=⟨T_ok,ones_ok,ptrs_ok,fns_ok,objs_ok,els_ok⟩
theorem s_slices_Clone_api_TreeNode_api_TreeNode:SpcOk Tryz.prog 170 (.clone YH0):=by
 refine clone_own (P:=Tryz.prog) (cx:=cx0) (bf:=[2,5]) (e:=YH0) (tid:=22) (fn:=Tryz.f170) (s0:=fun l=>((argSt (fun _=>none) [.data (.slice YH0) l]).setBox 2 { val:=.data (.slice YH0) ([]:List (YH0:Ty).den),tid:=0,buf:=true,ro:=false,lk:=false,ver:=0 }).put 2 (.whole 2 0)) mix cx0_ok (conOk_of con_nil rcon_nil spc_nil inv_nil) Tryz.func170 (by kernel_rfl)
  (by rfl) rfl (by decide) (by decide) rfl rfl rfl rfl rfl rfl (fun l=>by rfl) (fun l=>rfl) (fun l=>rfl) (fun l=>rfl) (fun l=>by rfl) (fun l hl=>?_)
 have key:∀ m:List (YH0:Ty).den,fits (len m)=true→sel (fits (plus (len ([]:List (YH0:Ty).den)) (len m))) (some (app [] m)) none=some m:=by
  intro m hm
  have e:plus (len ([]:List (YH0:Ty).den)) (len m)=len m:=by simp [plus,len]
  rw [e,hm]
  rfl
 exact Eq.trans (b:=sel (fits (plus (len ([]:List (YH0:Ty).den)) (len (α:=(YH0:Ty).den) l))) (some (app (α:=(YH0:Ty).den) [] l)) none) (by rfl) (key l hl)
theorem s_slices_Insert_api_TreeNode_api_TreeNode:SpcOk Tryz.prog 184 (.own YH0 (.pair (.int .i64) YH5) true P_slices_Insert_api_TreeNode_api_TreeNode):=by
 have hden:Den Tryz.prog YH0 41:=by
  show denG Tryz.prog YH0 false 41 0 []=true
  kernel_rfl
 obtain ⟨ie,ze,e1,e2,e3,e4⟩:=hden.info
 exact ins_own (e := YH0) (ρ := (⟨fun x => if x = 29 then 185 else if x = 30 then 186 else 184, fun x => if x = 24 then 22 else if x = 9 then 41 else if x = 3 then 3 else if x = 4 then 4 else 0, fun x => x⟩ : Go.Shelf.Ren)) (nm := "slices.Insert[[]cooperage/api.TreeNode,cooperage/api.TreeNode]") ⟨mix, Tryz.func184.trans (congrArg some (by kernel_rfl)),
  fun xs w=>run_callFunc_extern (e:=Extern.SlicesOverlaps.overlaps #[22,22] #[4]) Tryz.func185 (by kernel_rfl) (by kernel_rfl) (by kernel_rfl) (by kernel_rfl) xs w,
  by kernel_rfl,by kernel_rfl,by kernel_rfl,fun w=>by simp [Go.sizeOf,e1,e2] <;> kernel_rfl,by simp [e1,e2] <;> kernel_rfl⟩ (by decide) hden (by kernel_rfl) (by decide) (by decide)
theorem spc_ok:∀ p ∈ spc,SpcOk Tryz.prog p.1 p.2:=(spc_cons s_slices_Clone_api_TreeNode_api_TreeNode (spc_cons s_slices_Insert_api_TreeNode_api_TreeNode spc_nil))
theorem funs_ok (con:List (Nat×Con)) (rcon:List (Nat×RCon)) (inv:List (String×Con):=[]):FnsOk (cxOf con rcon inv):=fnsOk_of (cx:=cxOf con rcon inv) (show (funs.all fun p=>fnOk p.2)=true by kernel_rfl)

def glob:Globs:=noGlobs
theorem holds_at {con:List (Nat×Con)} {rcon:List (Nat×RCon)} {inv:List (String×Con)} (hcon:∀ p ∈ con,Holds Tryz.prog glob p.1 p.2) (hrcon:∀ p ∈ rcon,RHolds Tryz.prog glob p.1 p.2) (hinv:∀ p ∈ inv,IHolds Tryz.prog glob p.1 p.2) {f:Nat} {fn:Func} {A R:Ty} {spec:A.den→Option R.den} (hfn:find funs f=some fn) (hb:fn.body.isSome=true)
  (hs:∀ x,sem (cxOf con rcon inv) 12 plans f A R x=spec x):Holds Tryz.prog glob f ⟨A,R,spec⟩:=by
 obtain ⟨code,hcode⟩:=Option.isSome_iff_exists.1 hb
 exact holds_of_sem mix (cx_ok con rcon inv) (conOk_of hcon hrcon spc_ok hinv) (funs_ok con rcon inv) (f:=f) hfn hcode (fun x y h=>by rw [hs];exact h)

theorem rholds_at {con:List (Nat×Con)} {rcon:List (Nat×RCon)} {inv:List (String×Con)} (hcon:∀ p ∈ con,Holds Tryz.prog glob p.1 p.2) (hrcon:∀ p ∈ rcon,RHolds Tryz.prog glob p.1 p.2) (hinv:∀ p ∈ inv,IHolds Tryz.prog glob p.1 p.2) {f:Nat} {fn:Func} {ps:List Bool} {A U R:Ty} {spec:A.den×U.den→Option (R.den×U.den)} (hfn:find funs f=some fn) (hb:fn.body.isSome=true)
  (hs:∀ x,semR (cxOf con rcon inv) 12 plans f ps A U R x=spec x):RHolds Tryz.prog glob f ⟨ps,A,U,R,spec⟩:=by
 obtain ⟨code,hcode⟩:=Option.isSome_iff_exists.1 hb
 exact rholds_of_sem mix (cx_ok con rcon inv) (conOk_of hcon hrcon spc_ok hinv) (funs_ok con rcon inv) (f:=f) hfn hcode (fun x y h=>by rw [hs];exact h)

noncomputable def c_ref14_Few:Con:=⟨YH7,YH4,P_ref14_Few⟩
theorem h_ref14_Few:Holds Tryz.prog glob 8 c_ref14_Few:=holds_at (con:=[]) (rcon:=[]) (inv:=[]) (con_nil) (rcon_nil) (inv_nil) (fn:=Tryz.f8) rfl (by kernel_rfl) (fun x=>by kernel_rfl)
noncomputable def c_paths_Join:Con:=⟨YH11,YH2,P_paths_Join⟩
theorem h_paths_Join:Holds Tryz.prog glob 67 c_paths_Join:=holds_at (con:=[]) (rcon:=[]) (inv:=[]) (con_nil) (rcon_nil) (inv_nil) (fn:=Tryz.f67) rfl (by kernel_rfl) (fun x=>by kernel_rfl)
noncomputable def c_overlay_isNode:Con:=⟨(.pair YH0 .unit),YH4,P_overlay_isNode⟩
theorem h_overlay_isNode:Holds Tryz.prog glob 69 c_overlay_isNode:=holds_at (con:=[(24,c_tree_Check),(41,c_paths_Split),(62,c_paths_Parts),(67,c_paths_Join)]) (rcon:=[]) (inv:=[]) ((con_cons h_tree_Check (con_cons h_paths_Split (con_cons h_paths_Parts (con_cons h_paths_Join con_nil))))) (rcon_nil) (inv_nil) (fn:=Tryz.f69) rfl (by kernel_rfl) (fun x=>by kernel_rfl)
noncomputable def c_overlay_isDir:Con:=⟨YH2,YH4,P_overlay_isDir⟩
theorem h_overlay_isDir:Holds Tryz.prog glob 68 c_overlay_isDir:=holds_at (con:=[(69,c_overlay_isNode)]) (rcon:=[]) (inv:=[]) ((con_cons h_overlay_isNode con_nil)) (rcon_nil) (inv_nil) (fn:=Tryz.f68) rfl (by kernel_rfl) (fun x=>by kernel_rfl)
noncomputable def c_tree_Remove:Con:=⟨YH8,YH5,P_tree_Remove⟩
theorem h_tree_Remove:Holds Tryz.prog glob 165 c_tree_Remove:=holds_at (con:=[(24,c_tree_Check),(168,c_paths_Under),(170,c_slices_Clone_api_TreeNode_api_TreeNode)]) (rcon:=[]) (inv:=[]) ((con_cons h_tree_Check (con_cons h_paths_Under (con_cons h_slices_Clone_api_TreeNode_api_TreeNode con_nil)))) (rcon_nil) (inv_nil) (fn:=Tryz.f165) rfl (by kernel_rfl) (fun x=>by kernel_rfl)
noncomputable def c_overlay_gone_clears:Con:=⟨(.pair YH2 YH5),YH5,P_overlay_gone_clears⟩
theorem h_overlay_gone_clears:Holds Tryz.prog glob 163 c_overlay_gone_clears:=holds_at (con:=[(165,c_tree_Remove)]) (rcon:=[]) (inv:=[]) ((con_cons h_tree_Remove con_nil)) (rcon_nil) (inv_nil) (fn:=Tryz.f163) rfl (by kernel_rfl) (fun x=>by kernel_rfl)
noncomputable def c_overlay_gone_puts:Con:=⟨(.pair YH2 YH5),YH7,P_overlay_gone_puts⟩
theorem h_overlay_gone_puts:Holds Tryz.prog glob 164 c_overlay_gone_puts:=holds_at (con:=[]) (rcon:=[]) (inv:=[]) (con_nil) (rcon_nil) (inv_nil) (fn:=Tryz.f164) rfl (by kernel_rfl) (fun x=>by kernel_rfl)
noncomputable def c_tree_Empty:Con:=⟨YH8,YH5,P_tree_Empty⟩
theorem h_tree_Empty:Holds Tryz.prog glob 176 c_tree_Empty:=holds_at (con:=[(24,c_tree_Check),(168,c_paths_Under),(170,c_slices_Clone_api_TreeNode_api_TreeNode)]) (rcon:=[]) (inv:=[]) ((con_cons h_tree_Check (con_cons h_paths_Under (con_cons h_slices_Clone_api_TreeNode_api_TreeNode con_nil)))) (rcon_nil) (inv_nil) (fn:=Tryz.f176) rfl (by kernel_rfl) (fun x=>by kernel_rfl)
noncomputable def c_overlay_opaque_clears:Con:=⟨(.pair YH2 YH5),YH5,P_overlay_opaque_clears⟩
theorem h_overlay_opaque_clears:Holds Tryz.prog glob 174 c_overlay_opaque_clears:=holds_at (con:=[(176,c_tree_Empty)]) (rcon:=[]) (inv:=[]) ((con_cons h_tree_Empty con_nil)) (rcon_nil) (inv_nil) (fn:=Tryz.f174) rfl (by kernel_rfl) (fun x=>by kernel_rfl)
noncomputable def c_overlay_opaque_puts:Con:=⟨(.pair YH2 YH5),YH7,P_overlay_opaque_puts⟩
theorem h_overlay_opaque_puts:Holds Tryz.prog glob 175 c_overlay_opaque_puts:=holds_at (con:=[]) (rcon:=[]) (inv:=[]) (con_nil) (rcon_nil) (inv_nil) (fn:=Tryz.f175) rfl (by kernel_rfl) (fun x=>by kernel_rfl)
noncomputable def c_overlay_root_clears:Con:=⟨(.pair .unit YH5),YH5,P_overlay_root_clears⟩
theorem h_overlay_root_clears:Holds Tryz.prog glob 178 c_overlay_root_clears:=holds_at (con:=[]) (rcon:=[]) (inv:=[]) (con_nil) (rcon_nil) (inv_nil) (fn:=Tryz.f178) rfl (by kernel_rfl) (fun x=>by kernel_rfl)
noncomputable def c_overlay_root_puts:Con:=⟨(.pair .unit YH5),YH7,P_overlay_root_puts⟩
theorem h_overlay_root_puts:Holds Tryz.prog glob 179 c_overlay_root_puts:=holds_at (con:=[]) (rcon:=[]) (inv:=[]) (con_nil) (rcon_nil) (inv_nil) (fn:=Tryz.f179) rfl (by kernel_rfl) (fun x=>by kernel_rfl)
noncomputable def c_overlay_node_clears:Con:=⟨(.pair (.pair YH0 .unit) YH5),YH5,P_overlay_node_clears⟩
theorem h_overlay_node_clears:Holds Tryz.prog glob 180 c_overlay_node_clears:=holds_at (con:=[]) (rcon:=[]) (inv:=[]) (con_nil) (rcon_nil) (inv_nil) (fn:=Tryz.f180) rfl (by kernel_rfl) (fun x=>by kernel_rfl)
noncomputable def c_tree_Find:Con:=⟨YH8,(.pair YH0 YH4),P_tree_Find⟩
theorem h_tree_Find:Holds Tryz.prog glob 182 c_tree_Find:=holds_at (con:=[(24,c_tree_Check),(64,c_tree_place)]) (rcon:=[]) (inv:=[]) ((con_cons h_tree_Check (con_cons h_tree_place con_nil))) (rcon_nil) (inv_nil) (fn:=Tryz.f182) rfl (by kernel_rfl) (fun x=>by kernel_rfl)
noncomputable def c_overlay_node_puts:Con:=⟨(.pair (.pair YH0 .unit) YH5),YH7,P_overlay_node_puts⟩
theorem h_overlay_node_puts:Holds Tryz.prog glob 181 c_overlay_node_puts:=holds_at (con:=[(41,c_paths_Split),(62,c_paths_Parts),(67,c_paths_Join),(182,c_tree_Find),(183,c_tree_Put)]) (rcon:=[]) (inv:=[]) ((con_cons h_paths_Split (con_cons h_paths_Parts (con_cons h_paths_Join (con_cons h_tree_Find (con_cons h_tree_Put con_nil)))))) (rcon_nil) (inv_nil) (fn:=Tryz.f181) rfl (by kernel_rfl) (fun x=>by kernel_rfl)
noncomputable def c_overlay_what:Con:=⟨(.pair (.pair YH1 YH2) .unit),(.pair YH6 YH4),P_overlay_what⟩
theorem h_overlay_what:Holds Tryz.prog glob 45 c_overlay_what:=holds_at (con:=[(41,c_paths_Split),(65,c_paths_Clean),(66,c_paths_Mark),(67,c_paths_Join),(68,c_overlay_isDir),(69,c_overlay_isNode),(163,c_overlay_gone_clears),(164,c_overlay_gone_puts),(174,c_overlay_opaque_clears),(175,c_overlay_opaque_puts),(178,c_overlay_root_clears),(179,c_overlay_root_puts),(180,c_overlay_node_clears),(181,c_overlay_node_puts)]) (rcon:=[]) (inv:=[]) ((con_cons h_paths_Split (con_cons h_paths_Clean (con_cons h_paths_Mark (con_cons h_paths_Join (con_cons h_overlay_isDir (con_cons h_overlay_isNode (con_cons h_overlay_gone_clears (con_cons h_overlay_gone_puts (con_cons h_overlay_opaque_clears (con_cons h_overlay_opaque_puts (con_cons h_overlay_root_clears (con_cons h_overlay_root_puts (con_cons h_overlay_node_clears (con_cons h_overlay_node_puts con_nil))))))))))))))) (rcon_nil) (inv_nil) (fn:=Tryz.f45) rfl (by kernel_rfl) (fun x=>by kernel_rfl)
noncomputable def c_overlay_steps:Con:=⟨(.pair YH10 .unit),(.pair (.slice YH6) YH4),P_overlay_steps⟩
theorem h_overlay_steps:Holds Tryz.prog glob 25 c_overlay_steps:=holds_at (con:=[(45,c_overlay_what)]) (rcon:=[]) (inv:=[]) ((con_cons h_overlay_what con_nil)) (rcon_nil) (inv_nil) (fn:=Tryz.f25) rfl (by kernel_rfl) (fun x=>by kernel_rfl)
theorem hv_inv_clears : IHolds Tryz.prog glob "cooperage/overlay.clears" ⟨(.pair YH6 YH5), YH5, P_inv_clears⟩ := (iholds_alt h_overlay_gone_clears (fun v w => by kernel_rfl) rfl (iholds_alt h_overlay_opaque_clears (fun v w => by kernel_rfl) rfl (iholds_alt h_overlay_root_clears (fun v w => by kernel_rfl) rfl (iholds_alt h_overlay_node_clears (fun v w => by kernel_rfl) rfl iholds_noi))))
theorem hv_inv_puts : IHolds Tryz.prog glob "cooperage/overlay.puts" ⟨(.pair YH6 YH5), YH7, P_inv_puts⟩ := (iholds_alt h_overlay_gone_puts (fun v w => by kernel_rfl) rfl (iholds_alt h_overlay_opaque_puts (fun v w => by kernel_rfl) rfl (iholds_alt h_overlay_root_puts (fun v w => by kernel_rfl) rfl (iholds_alt h_overlay_node_puts (fun v w => by kernel_rfl) rfl iholds_noi))))
noncomputable def c_overlay_Lay:Con:=⟨(.pair (.slice YH0) (.pair YH10 .unit)),YH7,P_overlay_Lay⟩
theorem h_overlay_Lay : Holds Tryz.prog glob 11 c_overlay_Lay := holds_at (con := [(24, c_tree_Check), (25, c_overlay_steps)]) (rcon := []) (inv := [("cooperage/overlay.clears", ⟨(.pair YH6 YH5), YH5, P_inv_clears⟩), ("cooperage/overlay.puts", ⟨(.pair YH6 YH5), YH7, P_inv_puts⟩)]) ((con_cons h_tree_Check (con_cons h_overlay_steps con_nil))) (rcon_nil) ((inv_cons hv_inv_clears (inv_cons hv_inv_puts inv_nil))) (fn := Tryz.f11) rfl (by kernel_rfl) (fun x => by kernel_rfl)
noncomputable def c_tar_Reader_ends:RCon:=⟨[true,false],YH4,(.pair YH9 .unit),(.pair (.pair YH1 YH2) YH4),P_tar_Reader_ends⟩
theorem h_tar_Reader_ends:RHolds Tryz.prog glob 72 c_tar_Reader_ends:=rholds_at (con:=[]) (rcon:=[]) (inv:=[]) (con_nil) (rcon_nil) (inv_nil) (fn:=Tryz.f72) rfl (by kernel_rfl) (fun x=>by kernel_rfl)
noncomputable def c_strings_trimLeftByte:Con:=⟨(.pair .str (.pair (.int .u8) .unit)),YH2,P_strings_trimLeftByte⟩
theorem h_strings_trimLeftByte:Holds Tryz.prog glob 93 c_strings_trimLeftByte:=holds_at (con:=[]) (rcon:=[]) (inv:=[]) (con_nil) (rcon_nil) (inv_nil) (fn:=Tryz.f93) rfl (by kernel_rfl) (fun x=>by kernel_rfl)
noncomputable def c_strings_trimRightByte:Con:=⟨(.pair .str (.pair (.int .u8) .unit)),YH2,P_strings_trimRightByte⟩
theorem h_strings_trimRightByte:Holds Tryz.prog glob 94 c_strings_trimRightByte:=holds_at (con:=[]) (rcon:=[]) (inv:=[]) (con_nil) (rcon_nil) (inv_nil) (fn:=Tryz.f94) rfl (by kernel_rfl) (fun x=>by kernel_rfl)
noncomputable def c_strings_makeASCIISet:Con:=⟨YH2,(.pair (.arr 256 .bool) YH4),P_strings_makeASCIISet⟩
theorem h_strings_makeASCIISet:Holds Tryz.prog glob 95 c_strings_makeASCIISet:=holds_at (con:=[]) (rcon:=[]) (inv:=[]) (con_nil) (rcon_nil) (inv_nil) (fn:=Tryz.f95) rfl (by kernel_rfl) (fun x=>by kernel_rfl)
noncomputable def c_strings_asciiSet_contains:RCon:=⟨[true,false],(.pair (.int .u8) .unit),(.pair (.arr 256 .bool) .unit),YH4,P_strings_asciiSet_contains⟩
theorem h_strings_asciiSet_contains:RHolds Tryz.prog glob 118 c_strings_asciiSet_contains:=rholds_at (con:=[]) (rcon:=[]) (inv:=[]) (con_nil) (rcon_nil) (inv_nil) (fn:=Tryz.f118) rfl (by kernel_rfl) (fun x=>by kernel_rfl)
noncomputable def c_strings_trimLeftASCII:RCon:=⟨[false,true],YH2,(.pair (.arr 256 .bool) .unit),YH2,P_strings_trimLeftASCII⟩
theorem h_strings_trimLeftASCII:RHolds Tryz.prog glob 96 c_strings_trimLeftASCII:=rholds_at (con:=[]) (rcon:=[(118,c_strings_asciiSet_contains)]) (inv:=[]) (con_nil) ((rcon_cons h_strings_asciiSet_contains rcon_nil)) (inv_nil) (fn:=Tryz.f96) rfl (by kernel_rfl) (fun x=>by kernel_rfl)
noncomputable def c_strings_trimRightASCII:RCon:=⟨[false,true],YH2,(.pair (.arr 256 .bool) .unit),YH2,P_strings_trimRightASCII⟩
theorem h_strings_trimRightASCII:RHolds Tryz.prog glob 97 c_strings_trimRightASCII:=rholds_at (con:=[]) (rcon:=[(118,c_strings_asciiSet_contains)]) (inv:=[]) (con_nil) ((rcon_cons h_strings_asciiSet_contains rcon_nil)) (inv_nil) (fn:=Tryz.f97) rfl (by kernel_rfl) (fun x=>by kernel_rfl)
noncomputable def c_strings_Trim:Con:=⟨YH11,YH2,P_strings_Trim⟩
theorem h_strings_Trim:Holds Tryz.prog glob 74 c_strings_Trim:=holds_at (con:=[(93,c_strings_trimLeftByte),(94,c_strings_trimRightByte),(95,c_strings_makeASCIISet)]) (rcon:=[(96,c_strings_trimLeftASCII),(97,c_strings_trimRightASCII),(118,c_strings_asciiSet_contains)]) (inv:=[]) ((con_cons h_strings_trimLeftByte (con_cons h_strings_trimRightByte (con_cons h_strings_makeASCIISet con_nil)))) ((rcon_cons h_strings_trimLeftASCII (rcon_cons h_strings_trimRightASCII (rcon_cons h_strings_asciiSet_contains rcon_nil)))) (inv_nil) (fn:=Tryz.f74) rfl (by kernel_rfl) (fun x=>by kernel_rfl)
noncomputable def c_header_Zero:Con:=⟨YH2,YH4,P_header_Zero⟩
theorem h_header_Zero:Holds Tryz.prog glob 73 c_header_Zero:=holds_at (con:=[(74,c_strings_Trim)]) (rcon:=[]) (inv:=[]) ((con_cons h_strings_Trim con_nil)) (rcon_nil) (inv_nil) (fn:=Tryz.f73) rfl (by kernel_rfl) (fun x=>by kernel_rfl)
noncomputable def c_header_fields:Con:=⟨.unit,(.pair (.arr 11 (.pair (.int .i64) YH3)) .unit),P_header_fields⟩
theorem h_header_fields:Holds Tryz.prog glob 122 c_header_fields:=holds_at (con:=[]) (rcon:=[]) (inv:=[]) (con_nil) (rcon_nil) (inv_nil) (fn:=Tryz.f122) rfl (by kernel_rfl) (fun x=>by kernel_rfl)
noncomputable def c_header_of:Con:=⟨(.pair .str YH3),YH2,P_header_of⟩
theorem h_header_of:Holds Tryz.prog glob 100 c_header_of:=holds_at (con:=[(122,c_header_fields)]) (rcon:=[]) (inv:=[]) ((con_cons h_header_fields con_nil)) (rcon_nil) (inv_nil) (fn:=Tryz.f100) rfl (by kernel_rfl) (fun x=>by kernel_rfl)
noncomputable def c_strings_TrimRight:Con:=⟨YH11,YH2,P_strings_TrimRight⟩
theorem h_strings_TrimRight:Holds Tryz.prog glob 123 c_strings_TrimRight:=holds_at (con:=[(94,c_strings_trimRightByte),(95,c_strings_makeASCIISet)]) (rcon:=[(97,c_strings_trimRightASCII),(118,c_strings_asciiSet_contains)]) (inv:=[]) ((con_cons h_strings_trimRightByte (con_cons h_strings_makeASCIISet con_nil))) ((rcon_cons h_strings_trimRightASCII (rcon_cons h_strings_asciiSet_contains rcon_nil))) (inv_nil) (fn:=Tryz.f123) rfl (by kernel_rfl) (fun x=>by kernel_rfl)
noncomputable def c_digits_FromOctal:Con:=⟨YH2,(.pair (.int .i64) YH4),P_digits_FromOctal⟩
theorem h_digits_FromOctal:Holds Tryz.prog glob 124 c_digits_FromOctal:=holds_at (con:=[]) (rcon:=[]) (inv:=[]) (con_nil) (rcon_nil) (inv_nil) (fn:=Tryz.f124) rfl (by kernel_rfl) (fun x=>by kernel_rfl)
noncomputable def c_header_number:Con:=⟨YH2,YH3,P_header_number⟩
theorem h_header_number:Holds Tryz.prog glob 101 c_header_number:=holds_at (con:=[(123,c_strings_TrimRight),(124,c_digits_FromOctal)]) (rcon:=[]) (inv:=[]) ((con_cons h_strings_TrimRight (con_cons h_digits_FromOctal con_nil))) (rcon_nil) (inv_nil) (fn:=Tryz.f101) rfl (by kernel_rfl) (fun x=>by kernel_rfl)
noncomputable def c_header_Sum:Con:=⟨YH2,YH3,P_header_Sum⟩
theorem h_header_Sum:Holds Tryz.prog glob 102 c_header_Sum:=holds_at (con:=[(122,c_header_fields)]) (rcon:=[]) (inv:=[]) ((con_cons h_header_fields con_nil)) (rcon_nil) (inv_nil) (fn:=Tryz.f102) rfl (by kernel_rfl) (fun x=>by kernel_rfl)
noncomputable def c_header_text:Con:=⟨YH2,(.pair .str YH4),P_header_text⟩
theorem h_header_text:Holds Tryz.prog glob 103 c_header_text:=holds_at (con:=[(60,c_strings_IndexByte),(123,c_strings_TrimRight)]) (rcon:=[]) (inv:=[]) ((con_cons h_strings_IndexByte (con_cons h_strings_TrimRight con_nil))) (rcon_nil) (inv_nil) (fn:=Tryz.f103) rfl (by kernel_rfl) (fun x=>by kernel_rfl)
noncomputable def c_header_in:Con:=⟨(.pair (.int .i64) YH3),YH4,P_header_in⟩
theorem h_header_in:Holds Tryz.prog glob 125 c_header_in:=holds_at (con:=[]) (rcon:=[]) (inv:=[]) (con_nil) (rcon_nil) (inv_nil) (fn:=Tryz.f125) rfl (by kernel_rfl) (fun x=>by kernel_rfl)
noncomputable def c_header_clear:Con:=⟨(.pair .str YH3),YH4,P_header_clear⟩
theorem h_header_clear:Holds Tryz.prog glob 126 c_header_clear:=holds_at (con:=[(60,c_strings_IndexByte)]) (rcon:=[]) (inv:=[]) ((con_cons h_strings_IndexByte con_nil)) (rcon_nil) (inv_nil) (fn:=Tryz.f126) rfl (by kernel_rfl) (fun x=>by kernel_rfl)
noncomputable def c_header_is:Con:=⟨(.pair YH1 YH3),YH4,P_header_is⟩
theorem h_header_is:Holds Tryz.prog glob 104 c_header_is:=holds_at (con:=[(125,c_header_in),(126,c_header_clear)]) (rcon:=[]) (inv:=[]) ((con_cons h_header_in (con_cons h_header_clear con_nil))) (rcon_nil) (inv_nil) (fn:=Tryz.f104) rfl (by kernel_rfl) (fun x=>by kernel_rfl)
noncomputable def c_header_Take:Con:=⟨YH2,(.pair YH1 YH3),P_header_Take⟩
theorem h_header_Take:Holds Tryz.prog glob 75 c_header_Take:=holds_at (con:=[(100,c_header_of),(101,c_header_number),(102,c_header_Sum),(103,c_header_text),(104,c_header_is)]) (rcon:=[]) (inv:=[]) ((con_cons h_header_of (con_cons h_header_number (con_cons h_header_Sum (con_cons h_header_text (con_cons h_header_is con_nil)))))) (rcon_nil) (inv_nil) (fn:=Tryz.f75) rfl (by kernel_rfl) (fun x=>by kernel_rfl)
noncomputable def c_tar_fill:Con:=⟨YH3,YH3,P_tar_fill⟩
theorem h_tar_fill:Holds Tryz.prog glob 76 c_tar_fill:=holds_at (con:=[]) (rcon:=[]) (inv:=[]) (con_nil) (rcon_nil) (inv_nil) (fn:=Tryz.f76) rfl (by kernel_rfl) (fun x=>by kernel_rfl)
noncomputable def c_tar_Reader_Next:RCon:=⟨[true],.unit,(.pair YH9 .unit),(.pair (.pair YH1 YH2) YH4),P_tar_Reader_Next⟩
theorem h_tar_Reader_Next:RHolds Tryz.prog glob 55 c_tar_Reader_Next:=rholds_at (con:=[(73,c_header_Zero),(74,c_strings_Trim),(75,c_header_Take),(76,c_tar_fill)]) (rcon:=[(72,c_tar_Reader_ends)]) (inv:=[]) ((con_cons h_header_Zero (con_cons h_strings_Trim (con_cons h_header_Take (con_cons h_tar_fill con_nil))))) ((rcon_cons h_tar_Reader_ends rcon_nil)) (inv_nil) (fn:=Tryz.f55) rfl (by kernel_rfl) (fun x=>by kernel_rfl)
noncomputable def c_tar_Reader_Bad:RCon:=⟨[true],.unit,(.pair YH9 .unit),YH4,P_tar_Reader_Bad⟩
theorem h_tar_Reader_Bad:RHolds Tryz.prog glob 56 c_tar_Reader_Bad:=rholds_at (con:=[]) (rcon:=[]) (inv:=[]) (con_nil) (rcon_nil) (inv_nil) (fn:=Tryz.f56) rfl (by kernel_rfl) (fun x=>by kernel_rfl)
noncomputable def c_tar_Read:Con:=⟨YH2,(.pair YH10 YH3),P_tar_Read⟩
theorem h_tar_Read:Holds Tryz.prog glob 39 c_tar_Read:=holds_at (con:=[(73,c_header_Zero),(74,c_strings_Trim),(75,c_header_Take),(76,c_tar_fill)]) (rcon:=[(55,c_tar_Reader_Next),(56,c_tar_Reader_Bad),(72,c_tar_Reader_ends)]) (inv:=[]) ((con_cons h_header_Zero (con_cons h_strings_Trim (con_cons h_header_Take (con_cons h_tar_fill con_nil))))) ((rcon_cons h_tar_Reader_Next (rcon_cons h_tar_Reader_Bad (rcon_cons h_tar_Reader_ends rcon_nil)))) (inv_nil) (fn:=Tryz.f39) rfl (by kernel_rfl) (fun x=>by kernel_rfl)
noncomputable def c_overlay_Check:Con:=⟨YH2,YH3,P_overlay_Check⟩
theorem h_overlay_Check:Holds Tryz.prog glob 20 c_overlay_Check:=holds_at (con:=[(25,c_overlay_steps),(39,c_tar_Read)]) (rcon:=[]) (inv:=[]) ((con_cons h_overlay_steps (con_cons h_tar_Read con_nil))) (rcon_nil) (inv_nil) (fn:=Tryz.f20) rfl (by kernel_rfl) (fun x=>by kernel_rfl)
noncomputable def c_law15_file:Con:=⟨YH11,(.pair (.pair YH1 YH2) .unit),P_law15_file⟩
theorem h_law15_file:Holds Tryz.prog glob 23 c_law15_file:=holds_at (con:=[]) (rcon:=[]) (inv:=[]) (con_nil) (rcon_nil) (inv_nil) (fn:=Tryz.f23) rfl (by kernel_rfl) (fun x=>by kernel_rfl)
noncomputable def c_law15_awake:Con:=⟨.unit,YH4,P_law15_awake⟩
theorem h_law15_awake:Holds Tryz.prog glob 10 c_law15_awake:=holds_at (con:=[(11,c_overlay_Lay),(20,c_overlay_Check),(23,c_law15_file)]) (rcon:=[]) (inv:=[]) ((con_cons h_overlay_Lay (con_cons h_overlay_Check (con_cons h_law15_file con_nil)))) (rcon_nil) (inv_nil) (fn:=Tryz.f10) rfl (by kernel_rfl) (fun x=>by kernel_rfl)
noncomputable def c_ref14_Same:Con:=⟨(.pair (.slice YH0) YH5),YH4,P_ref14_Same⟩
theorem h_ref14_Same:Holds Tryz.prog glob 13 c_ref14_Same:=holds_at (con:=[]) (rcon:=[]) (inv:=[]) (con_nil) (rcon_nil) (inv_nil) (fn:=Tryz.f13) rfl (by kernel_rfl) (fun x=>by kernel_rfl)
noncomputable def c_overlay_Apply:Con:=⟨YH8,YH7,P_overlay_Apply⟩
theorem h_overlay_Apply:Holds Tryz.prog glob 18 c_overlay_Apply:=holds_at (con:=[(11,c_overlay_Lay),(24,c_tree_Check),(39,c_tar_Read)]) (rcon:=[]) (inv:=[]) ((con_cons h_overlay_Lay (con_cons h_tree_Check (con_cons h_tar_Read con_nil)))) (rcon_nil) (inv_nil) (fn:=Tryz.f18) rfl (by kernel_rfl) (fun x=>by kernel_rfl)
noncomputable def c_ref07_Parts:Con:=⟨YH2,(.pair (.slice .str) .unit),P_ref07_Parts⟩
theorem h_ref07_Parts:Holds Tryz.prog glob 37 c_ref07_Parts:=holds_at (con:=[]) (rcon:=[]) (inv:=[]) (con_nil) (rcon_nil) (inv_nil) (fn:=Tryz.f37) rfl (by kernel_rfl) (fun x=>by kernel_rfl)
noncomputable def c_ref07_join:Con:=⟨(.pair (.slice .str) .unit),YH2,P_ref07_join⟩
theorem h_ref07_join:Holds Tryz.prog glob 51 c_ref07_join:=holds_at (con:=[]) (rcon:=[]) (inv:=[]) (con_nil) (rcon_nil) (inv_nil) (fn:=Tryz.f51) rfl (by kernel_rfl) (fun x=>by kernel_rfl)
noncomputable def c_ref07_Split:Con:=⟨YH2,YH11,P_ref07_Split⟩
theorem h_ref07_Split:Holds Tryz.prog glob 33 c_ref07_Split:=holds_at (con:=[(37,c_ref07_Parts),(51,c_ref07_join)]) (rcon:=[]) (inv:=[]) ((con_cons h_ref07_Parts (con_cons h_ref07_join con_nil))) (rcon_nil) (inv_nil) (fn:=Tryz.f33) rfl (by kernel_rfl) (fun x=>by kernel_rfl)
noncomputable def c_ref07_begins:Con:=⟨YH11,YH4,P_ref07_begins⟩
theorem h_ref07_begins:Holds Tryz.prog glob 70 c_ref07_begins:=holds_at (con:=[]) (rcon:=[]) (inv:=[]) (con_nil) (rcon_nil) (inv_nil) (fn:=Tryz.f70) rfl (by kernel_rfl) (fun x=>by kernel_rfl)
noncomputable def c_ref07_Mark:Con:=⟨YH2,(.pair (.int .i64) YH2),P_ref07_Mark⟩
theorem h_ref07_Mark:Holds Tryz.prog glob 47 c_ref07_Mark:=holds_at (con:=[(70,c_ref07_begins)]) (rcon:=[]) (inv:=[]) ((con_cons h_ref07_begins con_nil)) (rcon_nil) (inv_nil) (fn:=Tryz.f47) rfl (by kernel_rfl) (fun x=>by kernel_rfl)
noncomputable def c_ref07_isName:Con:=⟨YH2,YH4,P_ref07_isName⟩
theorem h_ref07_isName:Holds Tryz.prog glob 71 c_ref07_isName:=holds_at (con:=[]) (rcon:=[]) (inv:=[]) (con_nil) (rcon_nil) (inv_nil) (fn:=Tryz.f71) rfl (by kernel_rfl) (fun x=>by kernel_rfl)
noncomputable def c_ref07_Is:Con:=⟨YH2,YH4,P_ref07_Is⟩
theorem h_ref07_Is:Holds Tryz.prog glob 52 c_ref07_Is:=holds_at (con:=[(37,c_ref07_Parts),(71,c_ref07_isName)]) (rcon:=[]) (inv:=[]) ((con_cons h_ref07_Parts (con_cons h_ref07_isName con_nil))) (rcon_nil) (inv_nil) (fn:=Tryz.f52) rfl (by kernel_rfl) (fun x=>by kernel_rfl)
noncomputable def c_ref14_IsLink:Con:=⟨YH2,YH4,P_ref14_IsLink⟩
theorem h_ref14_IsLink:Holds Tryz.prog glob 53 c_ref14_IsLink:=holds_at (con:=[]) (rcon:=[]) (inv:=[]) (con_nil) (rcon_nil) (inv_nil) (fn:=Tryz.f53) rfl (by kernel_rfl) (fun x=>by kernel_rfl)
noncomputable def c_ref14_May:Con:=⟨(.pair YH0 .unit),YH4,P_ref14_May⟩
theorem h_ref14_May:Holds Tryz.prog glob 34 c_ref14_May:=holds_at (con:=[(33,c_ref07_Split),(47,c_ref07_Mark),(52,c_ref07_Is),(53,c_ref14_IsLink)]) (rcon:=[]) (inv:=[]) ((con_cons h_ref07_Split (con_cons h_ref07_Mark (con_cons h_ref07_Is (con_cons h_ref14_IsLink con_nil))))) (rcon_nil) (inv_nil) (fn:=Tryz.f34) rfl (by kernel_rfl) (fun x=>by kernel_rfl)
noncomputable def c_ref14_find:Con:=⟨YH8,YH3,P_ref14_find⟩
theorem h_ref14_find:Holds Tryz.prog glob 38 c_ref14_find:=holds_at (con:=[]) (rcon:=[]) (inv:=[]) (con_nil) (rcon_nil) (inv_nil) (fn:=Tryz.f38) rfl (by kernel_rfl) (fun x=>by kernel_rfl)
noncomputable def c_ref14_dir:Con:=⟨YH8,YH4,P_ref14_dir⟩
theorem h_ref14_dir:Holds Tryz.prog glob 35 c_ref14_dir:=holds_at (con:=[(38,c_ref14_find)]) (rcon:=[]) (inv:=[]) ((con_cons h_ref14_find con_nil)) (rcon_nil) (inv_nil) (fn:=Tryz.f35) rfl (by kernel_rfl) (fun x=>by kernel_rfl)
noncomputable def c_ref07_Compare:Con:=⟨YH11,YH3,P_ref07_Compare⟩
theorem h_ref07_Compare:Holds Tryz.prog glob 36 c_ref07_Compare:=holds_at (con:=[(37,c_ref07_Parts)]) (rcon:=[]) (inv:=[]) ((con_cons h_ref07_Parts con_nil)) (rcon_nil) (inv_nil) (fn:=Tryz.f36) rfl (by kernel_rfl) (fun x=>by kernel_rfl)
noncomputable def c_ref14_Is:Con:=⟨YH5,YH4,P_ref14_Is⟩
theorem h_ref14_Is:Holds Tryz.prog glob 14 c_ref14_Is:=holds_at (con:=[(33,c_ref07_Split),(34,c_ref14_May),(35,c_ref14_dir),(36,c_ref07_Compare)]) (rcon:=[]) (inv:=[]) ((con_cons h_ref07_Split (con_cons h_ref14_May (con_cons h_ref14_dir (con_cons h_ref07_Compare con_nil))))) (rcon_nil) (inv_nil) (fn:=Tryz.f14) rfl (by kernel_rfl) (fun x=>by kernel_rfl)
noncomputable def c_ref15_node:Con:=⟨(.pair (.pair YH1 YH2) YH2),(.pair YH0 .unit),P_ref15_node⟩
theorem h_ref15_node:Holds Tryz.prog glob 32 c_ref15_node:=holds_at (con:=[]) (rcon:=[]) (inv:=[]) (con_nil) (rcon_nil) (inv_nil) (fn:=Tryz.f32) rfl (by kernel_rfl) (fun x=>by kernel_rfl)
noncomputable def c_ref07_Clean:Con:=⟨YH2,(.pair .str YH3),P_ref07_Clean⟩
theorem h_ref07_Clean:Holds Tryz.prog glob 46 c_ref07_Clean:=holds_at (con:=[(37,c_ref07_Parts),(51,c_ref07_join),(52,c_ref07_Is)]) (rcon:=[]) (inv:=[]) ((con_cons h_ref07_Parts (con_cons h_ref07_join (con_cons h_ref07_Is con_nil)))) (rcon_nil) (inv_nil) (fn:=Tryz.f46) rfl (by kernel_rfl) (fun x=>by kernel_rfl)
noncomputable def c_ref07_Join:Con:=⟨YH11,YH2,P_ref07_Join⟩
theorem h_ref07_Join:Holds Tryz.prog glob 48 c_ref07_Join:=holds_at (con:=[]) (rcon:=[]) (inv:=[]) (con_nil) (rcon_nil) (inv_nil) (fn:=Tryz.f48) rfl (by kernel_rfl) (fun x=>by kernel_rfl)
noncomputable def c_ref15_isPath:Con:=⟨YH2,YH4,P_ref15_isPath⟩
theorem h_ref15_isPath:Holds Tryz.prog glob 49 c_ref15_isPath:=holds_at (con:=[(34,c_ref14_May),(37,c_ref07_Parts),(48,c_ref07_Join)]) (rcon:=[]) (inv:=[]) ((con_cons h_ref14_May (con_cons h_ref07_Parts (con_cons h_ref07_Join con_nil)))) (rcon_nil) (inv_nil) (fn:=Tryz.f49) rfl (by kernel_rfl) (fun x=>by kernel_rfl)
noncomputable def c_ref15_what:Con:=⟨(.pair (.pair YH1 YH2) .unit),(.pair (.int .i64) (.pair .str YH4)),P_ref15_what⟩
theorem h_ref15_what:Holds Tryz.prog glob 27 c_ref15_what:=holds_at (con:=[(32,c_ref15_node),(33,c_ref07_Split),(34,c_ref14_May),(46,c_ref07_Clean),(47,c_ref07_Mark),(48,c_ref07_Join),(49,c_ref15_isPath)]) (rcon:=[]) (inv:=[]) ((con_cons h_ref15_node (con_cons h_ref07_Split (con_cons h_ref14_May (con_cons h_ref07_Clean (con_cons h_ref07_Mark (con_cons h_ref07_Join (con_cons h_ref15_isPath con_nil)))))))) (rcon_nil) (inv_nil) (fn:=Tryz.f27) rfl (by kernel_rfl) (fun x=>by kernel_rfl)
noncomputable def c_ref15_Clean:Con:=⟨(.pair YH10 .unit),YH4,P_ref15_Clean⟩
theorem h_ref15_Clean:Holds Tryz.prog glob 26 c_ref15_Clean:=holds_at (con:=[(27,c_ref15_what)]) (rcon:=[]) (inv:=[]) ((con_cons h_ref15_what con_nil)) (rcon_nil) (inv_nil) (fn:=Tryz.f26) rfl (by kernel_rfl) (fun x=>by kernel_rfl)
noncomputable def c_ref07_Under:Con:=⟨YH11,YH4,P_ref07_Under⟩
theorem h_ref07_Under:Holds Tryz.prog glob 16 c_ref07_Under:=holds_at (con:=[(37,c_ref07_Parts)]) (rcon:=[]) (inv:=[]) ((con_cons h_ref07_Parts con_nil)) (rcon_nil) (inv_nil) (fn:=Tryz.f16) rfl (by kernel_rfl) (fun x=>by kernel_rfl)
noncomputable def c_ref14_without:Con:=⟨(.pair (.slice YH0) (.pair .str YH4)),YH5,P_ref14_without⟩
theorem h_ref14_without:Holds Tryz.prog glob 50 c_ref14_without:=holds_at (con:=[(16,c_ref07_Under)]) (rcon:=[]) (inv:=[]) ((con_cons h_ref07_Under con_nil)) (rcon_nil) (inv_nil) (fn:=Tryz.f50) rfl (by kernel_rfl) (fun x=>by kernel_rfl)
noncomputable def c_ref14_Remove:Con:=⟨YH8,YH5,P_ref14_Remove⟩
theorem h_ref14_Remove:Holds Tryz.prog glob 28 c_ref14_Remove:=holds_at (con:=[(14,c_ref14_Is),(50,c_ref14_without)]) (rcon:=[]) (inv:=[]) ((con_cons h_ref14_Is (con_cons h_ref14_without con_nil))) (rcon_nil) (inv_nil) (fn:=Tryz.f28) rfl (by kernel_rfl) (fun x=>by kernel_rfl)
noncomputable def c_ref14_Empty:Con:=⟨YH8,YH5,P_ref14_Empty⟩
theorem h_ref14_Empty:Holds Tryz.prog glob 29 c_ref14_Empty:=holds_at (con:=[(14,c_ref14_Is),(50,c_ref14_without)]) (rcon:=[]) (inv:=[]) ((con_cons h_ref14_Is (con_cons h_ref14_without con_nil))) (rcon_nil) (inv_nil) (fn:=Tryz.f29) rfl (by kernel_rfl) (fun x=>by kernel_rfl)
noncomputable def c_ref14_Find:Con:=⟨YH8,(.pair YH0 YH4),P_ref14_Find⟩
theorem h_ref14_Find:Holds Tryz.prog glob 17 c_ref14_Find:=holds_at (con:=[(14,c_ref14_Is),(38,c_ref14_find)]) (rcon:=[]) (inv:=[]) ((con_cons h_ref14_Is (con_cons h_ref14_find con_nil))) (rcon_nil) (inv_nil) (fn:=Tryz.f17) rfl (by kernel_rfl) (fun x=>by kernel_rfl)
noncomputable def c_ref14_Put:Con:=⟨(.pair (.slice YH0) (.pair YH0 .unit)),YH7,P_ref14_Put⟩
theorem h_ref14_Put:Holds Tryz.prog glob 31 c_ref14_Put:=holds_at (con:=[(14,c_ref14_Is),(33,c_ref07_Split),(34,c_ref14_May),(35,c_ref14_dir),(36,c_ref07_Compare),(38,c_ref14_find),(50,c_ref14_without)]) (rcon:=[]) (inv:=[]) ((con_cons h_ref14_Is (con_cons h_ref07_Split (con_cons h_ref14_May (con_cons h_ref14_dir (con_cons h_ref07_Compare (con_cons h_ref14_find (con_cons h_ref14_without con_nil)))))))) (rcon_nil) (inv_nil) (fn:=Tryz.f31) rfl (by kernel_rfl) (fun x=>by kernel_rfl)
noncomputable def c_ref15_dirs:Con:=⟨YH8,YH7,P_ref15_dirs⟩
theorem h_ref15_dirs:Holds Tryz.prog glob 30 c_ref15_dirs:=holds_at (con:=[(17,c_ref14_Find),(31,c_ref14_Put),(37,c_ref07_Parts),(48,c_ref07_Join)]) (rcon:=[]) (inv:=[]) ((con_cons h_ref14_Find (con_cons h_ref14_Put (con_cons h_ref07_Parts (con_cons h_ref07_Join con_nil))))) (rcon_nil) (inv_nil) (fn:=Tryz.f30) rfl (by kernel_rfl) (fun x=>by kernel_rfl)
noncomputable def c_ref15_Lay:Con:=⟨(.pair (.slice YH0) (.pair YH10 .unit)),YH7,P_ref15_Lay⟩
theorem h_ref15_Lay:Holds Tryz.prog glob 12 c_ref15_Lay:=holds_at (con:=[(14,c_ref14_Is),(26,c_ref15_Clean),(27,c_ref15_what),(28,c_ref14_Remove),(29,c_ref14_Empty),(30,c_ref15_dirs),(31,c_ref14_Put),(32,c_ref15_node)]) (rcon:=[]) (inv:=[]) ((con_cons h_ref14_Is (con_cons h_ref15_Clean (con_cons h_ref15_what (con_cons h_ref14_Remove (con_cons h_ref14_Empty (con_cons h_ref15_dirs (con_cons h_ref14_Put (con_cons h_ref15_node con_nil))))))))) (rcon_nil) (inv_nil) (fn:=Tryz.f12) rfl (by kernel_rfl) (fun x=>by kernel_rfl)
noncomputable def c_ref12_Zero:Con:=⟨YH2,YH4,P_ref12_Zero⟩
theorem h_ref12_Zero:Holds Tryz.prog glob 77 c_ref12_Zero:=holds_at (con:=[]) (rcon:=[]) (inv:=[]) (con_nil) (rcon_nil) (inv_nil) (fn:=Tryz.f77) rfl (by kernel_rfl) (fun x=>by kernel_rfl)
noncomputable def c_ref13_zero:Con:=⟨YH2,YH4,P_ref13_zero⟩
theorem h_ref13_zero:Holds Tryz.prog glob 78 c_ref13_zero:=holds_at (con:=[]) (rcon:=[]) (inv:=[]) (con_nil) (rcon_nil) (inv_nil) (fn:=Tryz.f78) rfl (by kernel_rfl) (fun x=>by kernel_rfl)
noncomputable def c_ref01_FromOctal:Con:=⟨YH2,(.pair (.int .i64) YH4),P_ref01_FromOctal⟩
theorem h_ref01_FromOctal:Holds Tryz.prog glob 127 c_ref01_FromOctal:=holds_at (con:=[]) (rcon:=[]) (inv:=[]) (con_nil) (rcon_nil) (inv_nil) (fn:=Tryz.f127) rfl (by kernel_rfl) (fun x=>by kernel_rfl)
noncomputable def c_ref12_number:Con:=⟨YH2,YH3,P_ref12_number⟩
theorem h_ref12_number:Holds Tryz.prog glob 105 c_ref12_number:=holds_at (con:=[(127,c_ref01_FromOctal)]) (rcon:=[]) (inv:=[]) ((con_cons h_ref01_FromOctal con_nil)) (rcon_nil) (inv_nil) (fn:=Tryz.f105) rfl (by kernel_rfl) (fun x=>by kernel_rfl)
noncomputable def c_ref12_Sum:Con:=⟨YH2,YH3,P_ref12_Sum⟩
theorem h_ref12_Sum:Holds Tryz.prog glob 106 c_ref12_Sum:=holds_at (con:=[]) (rcon:=[]) (inv:=[]) (con_nil) (rcon_nil) (inv_nil) (fn:=Tryz.f106) rfl (by kernel_rfl) (fun x=>by kernel_rfl)
noncomputable def c_ref12_text:Con:=⟨YH2,(.pair .str YH4),P_ref12_text⟩
theorem h_ref12_text:Holds Tryz.prog glob 107 c_ref12_text:=holds_at (con:=[]) (rcon:=[]) (inv:=[]) (con_nil) (rcon_nil) (inv_nil) (fn:=Tryz.f107) rfl (by kernel_rfl) (fun x=>by kernel_rfl)
noncomputable def c_ref12_clear:Con:=⟨(.pair .str YH3),YH4,P_ref12_clear⟩
theorem h_ref12_clear:Holds Tryz.prog glob 128 c_ref12_clear:=holds_at (con:=[]) (rcon:=[]) (inv:=[]) (con_nil) (rcon_nil) (inv_nil) (fn:=Tryz.f128) rfl (by kernel_rfl) (fun x=>by kernel_rfl)
noncomputable def c_ref12_in:Con:=⟨(.pair (.int .i64) YH3),YH4,P_ref12_in⟩
theorem h_ref12_in:Holds Tryz.prog glob 129 c_ref12_in:=holds_at (con:=[]) (rcon:=[]) (inv:=[]) (con_nil) (rcon_nil) (inv_nil) (fn:=Tryz.f129) rfl (by kernel_rfl) (fun x=>by kernel_rfl)
noncomputable def c_ref12_may:Con:=⟨(.pair YH1 YH3),YH4,P_ref12_may⟩
theorem h_ref12_may:Holds Tryz.prog glob 108 c_ref12_may:=holds_at (con:=[(128,c_ref12_clear),(129,c_ref12_in)]) (rcon:=[]) (inv:=[]) ((con_cons h_ref12_clear (con_cons h_ref12_in con_nil))) (rcon_nil) (inv_nil) (fn:=Tryz.f108) rfl (by kernel_rfl) (fun x=>by kernel_rfl)
noncomputable def c_ref12_Take:Con:=⟨YH2,(.pair YH1 YH3),P_ref12_Take⟩
theorem h_ref12_Take:Holds Tryz.prog glob 79 c_ref12_Take:=holds_at (con:=[(105,c_ref12_number),(106,c_ref12_Sum),(107,c_ref12_text),(108,c_ref12_may)]) (rcon:=[]) (inv:=[]) ((con_cons h_ref12_number (con_cons h_ref12_Sum (con_cons h_ref12_text (con_cons h_ref12_may con_nil))))) (rcon_nil) (inv_nil) (fn:=Tryz.f79) rfl (by kernel_rfl) (fun x=>by kernel_rfl)
noncomputable def c_ref13_whole:Con:=⟨YH3,YH3,P_ref13_whole⟩
theorem h_ref13_whole:Holds Tryz.prog glob 80 c_ref13_whole:=holds_at (con:=[]) (rcon:=[]) (inv:=[]) (con_nil) (rcon_nil) (inv_nil) (fn:=Tryz.f80) rfl (by kernel_rfl) (fun x=>by kernel_rfl)
noncomputable def c_ref13_Parts:Con:=⟨YH2,(.pair YH10 YH4),P_ref13_Parts⟩
theorem h_ref13_Parts:Holds Tryz.prog glob 57 c_ref13_Parts:=holds_at (con:=[(77,c_ref12_Zero),(78,c_ref13_zero),(79,c_ref12_Take),(80,c_ref13_whole)]) (rcon:=[]) (inv:=[]) ((con_cons h_ref12_Zero (con_cons h_ref13_zero (con_cons h_ref12_Take (con_cons h_ref13_whole con_nil))))) (rcon_nil) (inv_nil) (fn:=Tryz.f57) rfl (by kernel_rfl) (fun x=>by kernel_rfl)
noncomputable def c_ref13_Read:Con:=⟨YH2,(.pair YH10 YH3),P_ref13_Read⟩
theorem h_ref13_Read:Holds Tryz.prog glob 40 c_ref13_Read:=holds_at (con:=[(57,c_ref13_Parts)]) (rcon:=[]) (inv:=[]) ((con_cons h_ref13_Parts con_nil)) (rcon_nil) (inv_nil) (fn:=Tryz.f40) rfl (by kernel_rfl) (fun x=>by kernel_rfl)
noncomputable def c_ref15_Check:Con:=⟨YH2,YH3,P_ref15_Check⟩
theorem h_ref15_Check:Holds Tryz.prog glob 21 c_ref15_Check:=holds_at (con:=[(26,c_ref15_Clean),(40,c_ref13_Read)]) (rcon:=[]) (inv:=[]) ((con_cons h_ref15_Clean (con_cons h_ref13_Read con_nil))) (rcon_nil) (inv_nil) (fn:=Tryz.f21) rfl (by kernel_rfl) (fun x=>by kernel_rfl)
noncomputable def c_ref15_Apply:Con:=⟨YH8,YH7,P_ref15_Apply⟩
theorem h_ref15_Apply:Holds Tryz.prog glob 19 c_ref15_Apply:=holds_at (con:=[(12,c_ref15_Lay),(14,c_ref14_Is),(21,c_ref15_Check),(40,c_ref13_Read)]) (rcon:=[]) (inv:=[]) ((con_cons h_ref15_Lay (con_cons h_ref14_Is (con_cons h_ref15_Check (con_cons h_ref13_Read con_nil))))) (rcon_nil) (inv_nil) (fn:=Tryz.f19) rfl (by kernel_rfl) (fun x=>by kernel_rfl)
noncomputable def c_law15_OverlayApplies:Con:=⟨YH8,YH4,P_law15_OverlayApplies⟩
theorem h_law15_OverlayApplies:Holds Tryz.prog glob 5 c_law15_OverlayApplies:=holds_at (con:=[(8,c_ref14_Few),(10,c_law15_awake),(13,c_ref14_Same),(18,c_overlay_Apply),(19,c_ref15_Apply),(20,c_overlay_Check),(21,c_ref15_Check)]) (rcon:=[]) (inv:=[]) ((con_cons h_ref14_Few (con_cons h_law15_awake (con_cons h_ref14_Same (con_cons h_overlay_Apply (con_cons h_ref15_Apply (con_cons h_overlay_Check (con_cons h_ref15_Check con_nil)))))))) (rcon_nil) (inv_nil) (fn:=Tryz.f5) rfl (by kernel_rfl) (fun x=>by kernel_rfl)
end Go.Proofs.YtpcimoekpbilgaaGreatDoor
