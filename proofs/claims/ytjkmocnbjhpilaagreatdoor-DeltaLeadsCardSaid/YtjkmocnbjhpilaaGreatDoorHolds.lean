/- The layer's functions keep their contracts: each comes to its plain definition, by the ghost interpreter. -/
import Derived.Test.YtjkmocnbjhpilaaGreatDoorRows
import Derived.Test.YtjkmocnbjhpilaaGreatDoorPlE
import Derived.Test.YtjkmocnbjhpilaaGreatDoorFirst
import Derived.Test.YtjkmocnbjhpilaaGreatDoorBld
import Derived.Test.YtjkmocnbjhpilaaGreatDoorShelf
namespace Go.Proofs.YtjkmocnbjhpilaaGreatDoor
open Go Go.Ge
set_option linter.unusedVariables false
set_option maxRecDepth 100000
open First
abbrev xk:Ty:=(.pair .str (.pair (.int .i64) (.pair (.int .i64) (.pair .str (.pair .str .unit)))))
abbrev Qp:Ty:=(.pair .str (.pair (.int .i64) (.pair (.int .i64) (.pair (.int .i64) (.pair (.int .i64) (.pair (.int .i64) (.pair (.int .i64) (.pair .str .unit))))))))
abbrev mT:Ty:=(.pair .str .unit)
abbrev DB:Ty:=(.pair (.int .i64) .unit)
abbrev zH:Ty:=(.pair (.slice xk) .unit)
abbrev vW:Ty:=(.pair .bool .unit)
abbrev Uv:Ty:=(.alt 120 mT (.alt 122 mT (.alt 124 .unit (.alt 126 (.pair xk .unit) .vQ))))
abbrev Qq:Ty:=(.pair (.slice xk) DB)
abbrev Xx:Ty:=(.pair .bool (.pair .str (.pair (.int .i64) (.pair .bool vW))))
abbrev SS:Ty:=(.pair (.slice xk) mT)
abbrev LV:Ty:=(.slice (.pair Qp mT))
abbrev NZ:Ty:=(.pair (.int .i64) mT)
abbrev LW:Ty:=(.pair xk .unit)
noncomputable def eO:Nat→vw
 | 3=>⟨[none,none,none],[]⟩
 | 4=>⟨[some ⟨[(4,4),(5,3)],[],false⟩,none,none],[]⟩
 | 5=>⟨[none,some ⟨[(2,4),(3,3)],[],false⟩,none,none],[]⟩
 | 6=>⟨[],[]⟩
 | 7=>⟨[none,some ⟨[(8,26),(28,3)],[8],false⟩,none,none,some ⟨[(8,26)],[8],false⟩],[8]⟩
 | 8=>⟨[none,none,some ⟨[(0,22),(6,3)],[],false⟩,none,some ⟨[(0,22)],[],false⟩,some ⟨[(0,22)],[],false⟩,some ⟨[(0,22),(4,22),(5,27),(10,3)],[],false⟩,none,none,none,none],[]⟩
 | 9=>⟨[none,none,some ⟨[(8,22),(30,3),(6,999999),(28,999999)],[6,8,28,2000008],false⟩,none,some ⟨[(4,22),(5,27),(8,22),(40,3),(38,999999)],[8,38],false⟩,none,none],[25]⟩
 | 10=>⟨[none,some ⟨[(4,4),(5,3)],[],false⟩,none,none],[]⟩
 | 11=>⟨[none],[]⟩
 | 12=>⟨[none],[]⟩
 | 13=>⟨[none],[]⟩
 | 14=>⟨[none,none,none],[]⟩
 | 15=>⟨[],[]⟩
 | 16=>⟨[some ⟨[(4,3),(7,3)],[],false⟩,none,none,none,none,none],[]⟩
 | 17=>⟨[none],[6]⟩
 | 18=>⟨[none,some ⟨[(4,4),(5,3)],[],false⟩,none,none],[]⟩
 | 19=>⟨[some ⟨[(11,3)],[4],false⟩,none,some ⟨[(7,9)],[],false⟩],[]⟩
 | 20=>⟨[none,none],[]⟩
 | 21=>⟨[some ⟨[],[3],false⟩],[]⟩
 | 22=>⟨[none],[]⟩
 | 23=>⟨[none],[]⟩
 | 24=>⟨[some ⟨[(2,4),(3,3)],[],false⟩,none,none],[]⟩
 | 25=>⟨[none,none,none,none],[]⟩
 | 26=>⟨[none],[]⟩
 | 27=>⟨[none],[]⟩
 | 28=>⟨[some ⟨[(0,22),(4,22),(5,27),(7,9),(8,3)],[],false⟩,none,none,none],[]⟩
 | 29=>⟨[none,none,none,some ⟨[(8,22),(0,999999)],[0],true⟩,some ⟨[(8,22),(0,999999)],[0],true⟩,none,some ⟨[(12,3)],[],false⟩,none],[10,11]⟩
 | 30=>⟨[],[]⟩
 | 31=>⟨[none,some ⟨[(2,27),(12,3)],[],false⟩,none,none],[]⟩
 | 32=>⟨[some ⟨[(2,65),(3,4),(4,65),(11,3)],[4],false⟩,none,none],[4]⟩
 | 33=>⟨[none,some ⟨[(2,9),(3,27),(14,3)],[4],false⟩,none,none,none,none],[]⟩
 | 34=>⟨[some ⟨[(5,26),(6,0),(7,4)],[4,5,6],false⟩,none,none],[5,6]⟩
 | 35=>⟨[none,some ⟨[(3,74),(4,9),(5,3)],[3],false⟩,none,some ⟨[(3,74),(4,9)],[3],false⟩],[3]⟩
 | 36=>⟨[some ⟨[(3,9),(4,3)],[],false⟩,none,some ⟨[(3,9)],[],false⟩],[]⟩
 | 37=>⟨[none,none,none],[]⟩
 | 38=>⟨[some ⟨[(2,4),(4,3)],[],false⟩,none,none],[]⟩
 | 39=>⟨[some ⟨[(2,4),(3,3)],[],false⟩,none,none],[]⟩
 | 40=>⟨[some ⟨[(4,3),(5,3)],[],false⟩,none,none],[]⟩
 | 41=>⟨[],[]⟩
 | 42=>⟨[some ⟨[(0,22),(1,22)],[2,3,4],false⟩,none,some ⟨[(10,3)],[],false⟩,some ⟨[(10,3)],[],false⟩,some ⟨[],[2,3,4],false⟩,some ⟨[],[3,4],false⟩,some ⟨[(0,22)],[],false⟩,some ⟨[(1,22)],[],false⟩],[]⟩
 | 43=>⟨[],[]⟩
 | 44=>⟨[some ⟨[],[2],false⟩],[]⟩
 | 45=>⟨[],[]⟩
 | 46=>⟨[],[]⟩
 | 47=>⟨[some ⟨[(9,3)],[3],false⟩,none],[]⟩
 | 49=>⟨[],[]⟩
 | 50=>⟨[none,none,none,none,none],[]⟩
 | 51=>⟨[some ⟨[(5,74),(6,3)],[5],false⟩,none,some ⟨[(5,74)],[5],false⟩,none],[5]⟩
 | 52=>⟨[none,none],[]⟩
 | 53=>⟨[some ⟨[(2,4),(4,9),(5,3)],[],false⟩,none,none],[]⟩
 | 54=>⟨[some ⟨[(7,22),(8,3)],[7],false⟩,none,some ⟨[(7,22)],[7],false⟩],[7]⟩
 | 55=>⟨[none],[]⟩
 | 56=>⟨[none,none,none,none],[]⟩
 | 57=>⟨[],[]⟩
 | 58=>⟨[none,none,none],[]⟩
 | 59=>⟨[none,none,none,none,none],[]⟩
 | 60=>⟨[none],[]⟩
 | 61=>⟨[],[]⟩
 | 62=>⟨[],[]⟩
 | 63=>⟨[],[]⟩
 | 64=>⟨[],[]⟩
 | 65=>⟨[none,none,none,none],[]⟩
 | 66=>⟨[],[]⟩
 | 67=>⟨[],[]⟩
 | 68=>⟨[some ⟨[(2,4),(3,3)],[],false⟩,none,none],[]⟩
 | 70=>⟨[],[]⟩
 | 71=>⟨[some ⟨[(9,3),(10,3)],[1,2],false⟩,none,some ⟨[(9,3),(10,3)],[],false⟩],[]⟩
 | 72=>⟨[],[]⟩
 | 73=>⟨[some ⟨[(4,3),(5,3)],[],false⟩,none,none],[]⟩
 | 74=>⟨[some ⟨[(9,145),(10,3)],[],false⟩,none,none,some ⟨[(4,3),(9,145),(11,3)],[],false⟩,none,none],[]⟩
 | 75=>⟨[none,some ⟨[(4,4),(7,3)],[],false⟩,none,none],[]⟩
 | 76=>⟨[],[]⟩
 | 77=>⟨[],[]⟩
 | 78=>⟨[some ⟨[(6,3),(13,3)],[2],false⟩,none,none,none,none],[]⟩
 | 79=>⟨[none],[]⟩
 | 80=>⟨[none,none,none,none,none],[]⟩
 | 81=>⟨[some ⟨[(2,9),(3,27),(4,74),(11,3)],[4],false⟩,none,some ⟨[(2,9),(3,27),(4,74)],[4],false⟩,none,none],[4]⟩
 | 82=>⟨[none,none,none],[]⟩
 | 83=>⟨[],[]⟩
 | 84=>⟨[some ⟨[(3,22),(6,9),(18,3)],[3],false⟩,none],[3]⟩
 | 85=>⟨[none,none,none,none],[]⟩
 | 86=>⟨[],[]⟩
 | 87=>⟨[],[]⟩
 | 88=>⟨[],[]⟩
 | 89=>⟨[none,some ⟨[(0,3),(19,3)],[6],false⟩,none,none],[]⟩
 | 90=>⟨[some ⟨[(4,3),(12,3)],[],false⟩,none,some ⟨[(6,5)],[],false⟩],[]⟩
 | 92=>⟨[],[]⟩
 | 93=>⟨[],[]⟩
 | 94=>⟨[none,none,none],[]⟩
 | 95=>⟨[none,some ⟨[(4,9)],[],false⟩,some ⟨[(71,4)],[],false⟩,some ⟨[],[10],false⟩,some ⟨[],[10],false⟩,some ⟨[],[10],false⟩,none],[]⟩
 | 97=>⟨[some ⟨[(4,145),(5,3)],[],false⟩,none,some ⟨[(6,145),(7,145),(8,3)],[],false⟩,none,some ⟨[(6,145)],[],false⟩],[]⟩
 | 100=>⟨[],[]⟩
 | 101=>⟨[some ⟨[(2,4),(6,3)],[],false⟩,none,none],[]⟩
 | 103=>⟨[],[]⟩
 | 104=>⟨[],[]⟩
 | 105=>⟨[],[]⟩
 | 106=>⟨[],[]⟩
 | 107=>⟨[],[]⟩
 | 110=>⟨[some ⟨[(0,9)],[],false⟩,none],[]⟩
 | 111=>⟨[some ⟨[(0,9)],[],false⟩,none],[]⟩
 | 112=>⟨[some ⟨[(3,4),(4,3)],[2],false⟩,none,none],[]⟩
 | 113=>⟨[some ⟨[(0,9)],[1],false⟩,none,none],[]⟩
 | 114=>⟨[some ⟨[(0,9)],[1],false⟩,none,none],[]⟩
 | 117=>⟨[],[]⟩
 | 118=>⟨[none],[]⟩
 | 119=>⟨[],[]⟩
 | 122=>⟨[],[]⟩
 | 123=>⟨[none],[]⟩
 | 124=>⟨[some ⟨[(4,3),(8,3)],[],false⟩,none,none],[]⟩
 | 128=>⟨[],[]⟩
 | 132=>⟨[none,none,none],[]⟩
 | 133=>⟨[none,some ⟨[(2,3),(3,4),(4,3),(18,3)],[],false⟩,none,none],[]⟩
 | 165=>⟨[],[]⟩
 | 166=>⟨[],[]⟩
 | 167=>⟨[],[]⟩
 | 168=>⟨[none],[9]⟩
 | 169=>⟨[],[]⟩
 | 170=>⟨[],[]⟩
 | 171=>⟨[none,some ⟨[(5,3),(6,3),(0,999999)],[0,1],false⟩,none,some ⟨[(5,3),(0,999999)],[0],false⟩],[]⟩
 | 172=>⟨[none],[5]⟩
 | 173=>⟨[],[]⟩
 | 174=>⟨[none,some ⟨[(4,4),(13,3)],[],false⟩,none,none],[]⟩
 | 175=>⟨[some ⟨[(4,3),(8,3)],[1],false⟩,none,none],[]⟩
 | 176=>⟨[],[]⟩
 | 177=>⟨[],[]⟩
 | 178=>⟨[],[]⟩
 | 179=>⟨[],[]⟩
 | 180=>⟨[],[]⟩
 | 181=>⟨[],[]⟩
 | 182=>⟨[],[]⟩
 | 183=>⟨[some ⟨[(1,22),(4,22),(5,27),(6,9),(25,3)],[],false⟩,none,none,none],[]⟩
 | 184=>⟨[none,none,none,none],[55]⟩
 | _=>⟨[],[]⟩
def nV:List (Nat×List kK):=[(89,[.self,.buf (.int .u8) 5]),(124,[])]
def els:List (Nat×Nat):=[(87,5)]
noncomputable def JR:List (Nat×OM):=[(48,.str 89 5),(69,.Qr 89),(172,.clone xk),(185,(.own xk (.pair (.int .i64) zH) true aH))]
noncomputable def tys:List (Nat×Ty):=[(3,(.int .i64)),(4,.bool),(5,(.int .u8)),(9,.str),(21,(.int .i32)),(22,(.slice xk)),(26,LV),(27,(.int .i64)),(37,xk),(43,(.slice NZ)),(48,NZ),(50,Qp),(52,(.pair Qp mT)),(65,(.slice Uv)),(69,Uv),(74,(.slice .str)),(85,(.arr 4 .str)),(87,(.slice (.int .u8))),(113,(.int .u64)),(120,mT),(122,mT),(126,LW),(128,(.arr 512 (.int .u8))),(130,(.pair (.int .i64) DB)),(131,(.arr 11 (.pair (.int .i64) DB))),(139,Xx),(145,(.int .u32)),(154,(.arr 21 (.int .u8))),(160,(.arr 256 .bool)),(167,(.arr 2 .str)),(170,(.int .u64)),(181,(.arr 256 (.int .u8))),(183,(.pair (.int .u8) (.pair (.int .u8) .unit))),(184,(.arr 16 (.pair (.int .u8) (.pair (.int .u8) .unit))))]
noncomputable def Cd:List (Nat×Func):=[(3,Tryz.f3),(4,Tryz.f4),(5,Tryz.f5),(6,Tryz.f6),(7,Tryz.f7),(8,Tryz.f8),(9,Tryz.f9),(10,Tryz.f10),(11,Tryz.f11),(12,Tryz.f12),(13,Tryz.f13),(14,Tryz.f14),(15,Tryz.f15),(16,Tryz.f16),(17,Tryz.f17),(18,Tryz.f18),(19,Tryz.f19),(20,Tryz.f20),(21,Tryz.f21),(22,Tryz.f22),(23,Tryz.f23),(24,Tryz.f24),(25,Tryz.f25),(26,Tryz.f26),(27,Tryz.f27),(28,Tryz.f28),(29,Tryz.f29),(30,Tryz.f30),(31,Tryz.f31),(32,Tryz.f32),(33,Tryz.f33),(34,Tryz.f34),(35,Tryz.f35),(36,Tryz.f36),(37,Tryz.f37),(38,Tryz.f38),(39,Tryz.f39),(40,Tryz.f40),(41,Tryz.f41),(42,Tryz.f42),(43,Tryz.f43),(44,Tryz.f44),(45,Tryz.f45),(46,Tryz.f46),(47,Tryz.f47),(49,Tryz.f49),(50,Tryz.f50),(51,Tryz.f51),(52,Tryz.f52),(53,Tryz.f53),(54,Tryz.f54),(55,Tryz.f55),(56,Tryz.f56),(57,Tryz.f57),(58,Tryz.f58),(59,Tryz.f59),(60,Tryz.f60),(61,Tryz.f61),(62,Tryz.f62),(63,Tryz.f63),(64,Tryz.f64),(65,Tryz.f65),(66,Tryz.f66),(67,Tryz.f67),(68,Tryz.f68),(70,Tryz.f70),(71,Tryz.f71),(72,Tryz.f72),(73,Tryz.f73),(74,Tryz.f74),(75,Tryz.f75),(76,Tryz.f76),(77,Tryz.f77),(78,Tryz.f78),(79,Tryz.f79),(80,Tryz.f80),(81,Tryz.f81),(82,Tryz.f82),(83,Tryz.f83),(84,Tryz.f84),(85,Tryz.f85),(86,Tryz.f86),(87,Tryz.f87),(88,Tryz.f88),(89,Tryz.f89),(90,Tryz.f90),(92,Tryz.f92),(93,Tryz.f93),(94,Tryz.f94),(95,Tryz.f95),(97,Tryz.f97),(100,Tryz.f100),(101,Tryz.f101),(103,Tryz.f103),(104,Tryz.f104),(105,Tryz.f105),(106,Tryz.f106),(107,Tryz.f107),(110,Tryz.f110),(111,Tryz.f111),(112,Tryz.f112),(113,Tryz.f113),(114,Tryz.f114),(117,Tryz.f117),(118,Tryz.f118),(119,Tryz.f119),(122,Tryz.f122),(123,Tryz.f123),(124,Tryz.f124),(128,Tryz.f128),(132,Tryz.f132),(133,Tryz.f133),(165,Tryz.f165),(166,Tryz.f166),(167,Tryz.f167),(168,Tryz.f168),(169,Tryz.f169),(170,Tryz.f170),(171,Tryz.f171),(172,Tryz.f172),(173,Tryz.f173),(174,Tryz.f174),(175,Tryz.f175),(176,Tryz.f176),(177,Tryz.f177),(178,Tryz.f178),(179,Tryz.f179),(180,Tryz.f180),(181,Tryz.f181),(182,Tryz.f182),(183,Tryz.f183),(184,Tryz.f184)]
def mU:List Nat:=[40,42,79,81,83,84,86,107,114,116,135,164]
def tP:List Nat:=[86,107,114,164]
noncomputable def Dy(cF:List (Nat×cZ))(bg:List (Nat×s7))(inv:List (String×cZ):=[]):Ctx:=⟨tys,mU,tP,Cd,cF,bg,nV,JR,els,inv⟩
theorem mix:Tryz.prog.follows .mixedOrders=true:=by kernel_rfl
theorem NW:∀tid t,find tys tid=some t→Den Tryz.prog t tid:=Rn (by kernel_rfl)
theorem A2:∀tid,cT mU tid=true→(∀w,(isAgg tid).run Tryz.prog w=.ok false w)∧(∀w,(Go.sizeOf tid).run Tryz.prog w=.ok 1 w)∧∃z,(∀w,(zeroValue tid).run Tryz.prog w=.ok z w)∧z.oneCell'=true:=Og (by kernel_rfl)
theorem A3:∀tid,cT tP tid=true→∃e,Tryz.prog.underlying tid=some (.pointer e):=Oh (by kernel_rfl)
theorem FX:∀f fn,find Cd f=some fn→Tryz.prog.funcs[f]?=some fn:=Ro ((ak Tryz.func3 (ak Tryz.func4 (ak Tryz.func5 (ak Tryz.func6 (ak Tryz.func7 (ak Tryz.func8 (ak Tryz.func9 (ak Tryz.func10 (ak Tryz.func11 (ak Tryz.func12 (ak Tryz.func13 (ak Tryz.func14 (ak Tryz.func15 (ak Tryz.func16 (ak Tryz.func17 (ak Tryz.func18 (ak Tryz.func19 (ak Tryz.func20 (ak Tryz.func21 (ak Tryz.func22 (ak Tryz.func23 (ak Tryz.func24 (ak Tryz.func25 (ak Tryz.func26 (ak Tryz.func27 (ak Tryz.func28 (ak Tryz.func29 (ak Tryz.func30 (ak Tryz.func31 (ak Tryz.func32 (ak Tryz.func33 (ak Tryz.func34 (ak Tryz.func35 (ak Tryz.func36 (ak Tryz.func37 (ak Tryz.func38 (ak Tryz.func39 (ak Tryz.func40 (ak Tryz.func41 (ak Tryz.func42 (ak Tryz.func43 (ak Tryz.func44 (ak Tryz.func45 (ak Tryz.func46 (ak Tryz.func47 (ak Tryz.func49 (ak Tryz.func50 (ak Tryz.func51 (ak Tryz.func52 (ak Tryz.func53 (ak Tryz.func54 (ak Tryz.func55 (ak Tryz.func56 (ak Tryz.func57 (ak Tryz.func58 (ak Tryz.func59 (ak Tryz.func60 (ak Tryz.func61 (ak Tryz.func62 (ak Tryz.func63 (ak Tryz.func64 (ak Tryz.func65 (ak Tryz.func66 (ak Tryz.func67 (ak Tryz.func68 (ak Tryz.func70 (ak Tryz.func71 (ak Tryz.func72 (ak Tryz.func73 (ak Tryz.func74 (ak Tryz.func75 (ak Tryz.func76 (ak Tryz.func77 (ak Tryz.func78 (ak Tryz.func79 (ak Tryz.func80 (ak Tryz.func81 (ak Tryz.func82 (ak Tryz.func83 (ak Tryz.func84 (ak Tryz.func85 (ak Tryz.func86 (ak Tryz.func87 (ak Tryz.func88 (ak Tryz.func89 (ak Tryz.func90 (ak Tryz.func92 (ak Tryz.func93 (ak Tryz.func94 (ak Tryz.func95 (ak Tryz.func97 (ak Tryz.func100 (ak Tryz.func101 (ak Tryz.func103 (ak Tryz.func104 (ak Tryz.func105 (ak Tryz.func106 (ak Tryz.func107 (ak Tryz.func110 (ak Tryz.func111 (ak Tryz.func112 (ak Tryz.func113 (ak Tryz.func114 (ak Tryz.func117 (ak Tryz.func118 (ak Tryz.func119 (ak Tryz.func122 (ak Tryz.func123 (ak Tryz.func124 (ak Tryz.func128 (ak Tryz.func132 (ak Tryz.func133 (ak Tryz.func165 (ak Tryz.func166 (ak Tryz.func167 (ak Tryz.func168 (ak Tryz.func169 (ak Tryz.func170 (ak Tryz.func171 (ak Tryz.func172 (ak Tryz.func173 (ak Tryz.func174 (ak Tryz.func175 (ak Tryz.func176 (ak Tryz.func177 (ak Tryz.func178 (ak Tryz.func179 (ak Tryz.func180 (ak Tryz.func181 (ak Tryz.func182 (ak Tryz.func183 (ak Tryz.func184 Oi)))))))))))))))))))))))))))))))))))))))))))))))))))))))))))))))))))))))))))))))))))))))))))))))))))))))))))))))))))))))))))))))))))))
theorem A4:∀tid fs,find nV tid=some fs→Ec Tryz.prog tid fs=true:=Oj (by kernel_rfl)
theorem FY:∀tid e,find els tid=some e→Tryz.prog.underlying tid=some (.slice e):=Rp (by kernel_rfl)
theorem Im(cF:List (Nat×cZ))(bg:List (Nat×s7))(inv:List (String×cZ):=[]):eG Tryz.prog (Dy cF bg inv):=⟨NW,A2,A3,FX,A4,FY⟩
noncomputable def Qh:Ctx:=⟨tys,mU,tP,Cd,[],[],nV,[],els,[]⟩
theorem NX:eG Tryz.prog Qh:=⟨NW,A2,A3,FX,A4,FY⟩
theorem cO:nu Tryz.prog 172 (.clone xk):=by
 refine HK (P:=Tryz.prog) (cx:=Qh) (bf:=[2,5]) (e:=xk) (tid:=22) (fn:=Tryz.f172) (s0:=fun l=>((Cm (fun _=>none) [.data (.slice xk) l]).bX 2 { val:=.data (.slice xk) ([]:List (xk:Ty).den),tid:=0,buf:=true,ro:=false,lk:=false,ax:=0 }).put 2 (.whole 2 0)) mix NX (rT aB av DU aC) Tryz.func172 (by kernel_rfl)
  (by rfl) rfl (by decide) (by decide) rfl rfl rfl rfl rfl rfl (fun l=>by rfl) (fun l=>rfl) (fun l=>rfl) (fun l=>rfl) (fun l=>by rfl) (fun l hl=>?_)
 have key:∀m:List (xk:Ty).den,fits (len m)=true→au (fits (plus (len ([]:List (xk:Ty).den)) (len m))) (some (app [] m)) none=some m:=by
  intro m hm
  have e:plus (len ([]:List (xk:Ty).den)) (len m)=len m:=by simp[plus,len]
  rw[e,hm]
  rfl
 exact Eq.trans (b:=au (fits (plus (len ([]:List (xk:Ty).den)) (len (α:=(xk:Ty).den) l))) (some (app (α:=(xk:Ty).den) [] l)) none) (by rfl) (key l hl)
theorem cJ:nu Tryz.prog 185 (.own xk (.pair (.int .i64) zH) true aH):=by
 have Gx:Den Tryz.prog xk 37:=by
  show eK Tryz.prog xk false 37 0 []=true
  kernel_rfl
 obtain⟨ie,ze,e1,e2,e3,e4⟩:=Gx.info
 exact Om (e:=xk) (ρ:=(⟨fun x=>if x=29 then 186 else if x=30 then 187 else 185,fun x=>if x=24 then 22 else if x=9 then 37 else if x=3 then 3 else if x=4 then 4 else 0,fun x=>x⟩:Go.Shelf.Ren)) (nm := "slices.Insert[[]cooperage/api.TreeNode,cooperage/api.TreeNode]") ⟨mix,Tryz.func185.trans (congrArg some (by kernel_rfl)),
  fun xs w=>run_callFunc_extern (e:=Extern.SlicesOverlaps.overlaps #[22,22] #[4]) Tryz.func186 (by kernel_rfl) (by kernel_rfl) (by kernel_rfl) (by kernel_rfl) xs w,
  by kernel_rfl,by kernel_rfl,by kernel_rfl,fun w=>by simp[Go.sizeOf,e1,e2]<;>kernel_rfl,by simp[e1,e2]<;>kernel_rfl⟩ (by decide) Gx (by kernel_rfl) (by decide) (by decide)
theorem Ce:∀p∈JR,nu Tryz.prog p.1 p.2:=(uj tF (uj qY (uj cO (uj cJ DU))))
theorem A5(cF:List (Nat×cZ))(bg:List (Nat×s7))(inv:List (String×cZ):=[]):HF (Dy cF bg inv):=KM (cx:=Dy cF bg inv) (show(Cd.all fun p=>M6 p.2)=true by kernel_rfl)
def aU:eJ:=sG
theorem ay{cF:List (Nat×cZ)}{bg:List (Nat×s7)}{inv:List (String×cZ)}(dG:∀p∈cF,Holds Tryz.prog aU p.1 p.2)(FZ:∀p∈bg,jb Tryz.prog aU p.1 p.2)(hinv:∀p∈inv,mg Tryz.prog aU p.1 p.2){f:Nat}{fn:Func}{A R:Ty}{spec:A.den→Option R.den}(hfn:find Cd f=some fn)(hb:fn.body.isSome=true)
  (hs:∀x,sem (Dy cF bg inv) 12 eO f A R x=spec x):Holds Tryz.prog aU f ⟨A,R,spec⟩:=by
 obtain⟨code,F0⟩:=Option.isSome_iff_exists.1 hb
 exact AA mix (Im cF bg inv) (rT dG FZ Ce hinv) (A5 cF bg inv) (f:=f) hfn F0 (fun x y h=>by rw[hs];exact h)
theorem oR{cF:List (Nat×cZ)}{bg:List (Nat×s7)}{inv:List (String×cZ)}(dG:∀p∈cF,Holds Tryz.prog aU p.1 p.2)(FZ:∀p∈bg,jb Tryz.prog aU p.1 p.2)(hinv:∀p∈inv,mg Tryz.prog aU p.1 p.2){f:Nat}{fn:Func}{ps:List Bool}{A U R:Ty}{spec:A.den×U.den→Option (R.den×U.den)}(hfn:find Cd f=some fn)(hb:fn.body.isSome=true)
  (hs:∀x,SX (Dy cF bg inv) 12 eO f ps A U R x=spec x):jb Tryz.prog aU f ⟨ps,A,U,R,spec⟩:=by
 obtain⟨code,F0⟩:=Option.isSome_iff_exists.1 hb
 exact yA mix (Im cF bg inv) (rT dG FZ Ce hinv) (A5 cF bg inv) (f:=f) hfn F0 (fun x y h=>by rw[hs];exact h)
noncomputable def C0:cZ:=⟨Qq,vW,mI⟩
theorem LX:Holds Tryz.prog aU 4 C0:=ay (cF:=[]) (bg:=[]) (inv:=[]) (aB) (av) (aC) (fn:=Tryz.f4) rfl (by kernel_rfl) (fun x=>by kernel_rfl)
noncomputable def fM:cZ:=⟨mT,(.pair (.slice .str) .unit),cY⟩
theorem hU:Holds Tryz.prog aU 35 fM:=ay (cF:=[]) (bg:=[]) (inv:=[]) (aB) (av) (aC) (fn:=Tryz.f35) rfl (by kernel_rfl) (fun x=>by kernel_rfl)
noncomputable def vi:cZ:=⟨(.pair (.slice .str) .unit),mT,kO⟩
theorem A7:Holds Tryz.prog aU 36 vi:=ay (cF:=[]) (bg:=[]) (inv:=[]) (aB) (av) (aC) (fn:=Tryz.f36) rfl (by kernel_rfl) (fun x=>by kernel_rfl)
noncomputable def lP:cZ:=⟨mT,(.pair .str mT),gW⟩
theorem pL:Holds Tryz.prog aU 13 lP:=ay (cF:=[(35,fM),(36,vi)]) (bg:=[]) (inv:=[]) ((aj hU (aj A7 aB))) (av) (aC) (fn:=Tryz.f13) rfl (by kernel_rfl) (fun x=>by kernel_rfl)
noncomputable def xo:cZ:=⟨(.pair .str mT),vW,kg⟩
theorem F5:Holds Tryz.prog aU 67 xo:=ay (cF:=[]) (bg:=[]) (inv:=[]) (aB) (av) (aC) (fn:=Tryz.f67) rfl (by kernel_rfl) (fun x=>by kernel_rfl)
noncomputable def vj:cZ:=⟨mT,NZ,nD⟩
theorem A8:Holds Tryz.prog aU 37 vj:=ay (cF:=[(67,xo)]) (bg:=[]) (inv:=[]) ((aj F5 aB)) (av) (aC) (fn:=Tryz.f37) rfl (by kernel_rfl) (fun x=>by kernel_rfl)
noncomputable def xq:cZ:=⟨mT,vW,nC⟩
theorem F6:Holds Tryz.prog aU 68 xq:=ay (cF:=[]) (bg:=[]) (inv:=[]) (aB) (av) (aC) (fn:=Tryz.f68) rfl (by kernel_rfl) (fun x=>by kernel_rfl)
noncomputable def zI:cZ:=⟨mT,vW,rX⟩
theorem F7:Holds Tryz.prog aU 38 zI:=ay (cF:=[(35,fM),(68,xq)]) (bg:=[]) (inv:=[]) ((aj hU (aj F6 aB))) (av) (aC) (fn:=Tryz.f38) rfl (by kernel_rfl) (fun x=>by kernel_rfl)
noncomputable def xw:cZ:=⟨mT,vW,nF⟩
theorem F8:Holds Tryz.prog aU 39 xw:=ay (cF:=[]) (bg:=[]) (inv:=[]) (aB) (av) (aC) (fn:=Tryz.f39) rfl (by kernel_rfl) (fun x=>by kernel_rfl)
noncomputable def qb:cZ:=⟨LW,vW,iV⟩
theorem sY:Holds Tryz.prog aU 14 qb:=ay (cF:=[(13,lP),(37,vj),(38,zI),(39,xw)]) (bg:=[]) (inv:=[]) ((aj pL (aj A8 (aj F7 (aj F8 aB))))) (av) (aC) (fn:=Tryz.f14) rfl (by kernel_rfl) (fun x=>by kernel_rfl)
noncomputable def ri:cZ:=⟨SS,DB,fC⟩
theorem vk:Holds Tryz.prog aU 40 ri:=ay (cF:=[]) (bg:=[]) (inv:=[]) (aB) (av) (aC) (fn:=Tryz.f40) rfl (by kernel_rfl) (fun x=>by kernel_rfl)
noncomputable def xy:cZ:=⟨SS,vW,ko⟩
theorem C2:Holds Tryz.prog aU 15 xy:=ay (cF:=[(40,ri)]) (bg:=[]) (inv:=[]) ((aj vk aB)) (av) (aC) (fn:=Tryz.f15) rfl (by kernel_rfl) (fun x=>by kernel_rfl)
noncomputable def qn:cZ:=⟨(.pair .str mT),DB,jq⟩
theorem vK:Holds Tryz.prog aU 16 qn:=ay (cF:=[(35,fM)]) (bg:=[]) (inv:=[]) ((aj hU aB)) (av) (aC) (fn:=Tryz.f16) rfl (by kernel_rfl) (fun x=>by kernel_rfl)
noncomputable def mz:cZ:=⟨zH,vW,gX⟩
theorem oS:Holds Tryz.prog aU 5 mz:=ay (cF:=[(13,lP),(14,qb),(15,xy),(16,qn)]) (bg:=[]) (inv:=[]) ((aj pL (aj sY (aj C2 (aj vK aB))))) (av) (aC) (fn:=Tryz.f5) rfl (by kernel_rfl) (fun x=>by kernel_rfl)
noncomputable def qo:cZ:=⟨(.pair (.slice xk) zH),(.pair (.slice NZ) DB),jt⟩
theorem vL:Holds Tryz.prog aU 17 qo:=ay (cF:=[(31,fH),(57,lZ)]) (bg:=[]) (inv:=[]) ((aj gQ (aj ql aB))) (av) (aC) (fn:=Tryz.f17) rfl (by kernel_rfl) (fun x=>by kernel_rfl)
noncomputable def xz:cZ:=⟨SS,(.pair xk vW),mJ⟩
theorem C3:Holds Tryz.prog aU 20 xz:=ay (cF:=[(31,fH),(49,qZ)]) (bg:=[]) (inv:=[]) ((aj gQ (aj vh aB))) (av) (aC) (fn:=Tryz.f20) rfl (by kernel_rfl) (fun x=>by kernel_rfl)
noncomputable def A9:cZ:=⟨LW,(.pair (.pair Qp mT) .unit),qQ⟩
theorem JH:Holds Tryz.prog aU 21 A9:=ay (cF:=[]) (bg:=[]) (inv:=[]) (aB) (av) (aC) (fn:=Tryz.f21) rfl (by kernel_rfl) (fun x=>by kernel_rfl)
noncomputable def nQ:cZ:=⟨(.pair .str mT),mT,je⟩
theorem rj:Holds Tryz.prog aU 23 nQ:=ay (cF:=[]) (bg:=[]) (inv:=[]) (aB) (av) (aC) (fn:=Tryz.f23) rfl (by kernel_rfl) (fun x=>by kernel_rfl)
noncomputable def pM:cZ:=⟨(.pair (.slice xk) zH),(.pair LV DB),jH⟩
theorem tI:Holds Tryz.prog aU 7 pM:=ay (cF:=[(17,qo),(20,xz),(21,A9),(22,fL),(23,nQ)]) (bg:=[]) (inv:=[]) ((aj vL (aj C3 (aj JH (aj hJ (aj rj aB)))))) (av) (aC) (fn:=Tryz.f7) rfl (by kernel_rfl) (fun x=>by kernel_rfl)
noncomputable def C4:cZ:=⟨(.pair (.int .i64) DB),vW,iU⟩
theorem LY:Holds Tryz.prog aU 106 C4:=ay (cF:=[]) (bg:=[]) (inv:=[]) (aB) (av) (aC) (fn:=Tryz.f106) rfl (by kernel_rfl) (fun x=>by kernel_rfl)
noncomputable def xA:cZ:=⟨(.pair .str DB),vW,ke⟩
theorem F9:Holds Tryz.prog aU 107 xA:=ay (cF:=[(77,fq)]) (bg:=[]) (inv:=[]) ((aj iu aB)) (av) (aC) (fn:=Tryz.f107) rfl (by kernel_rfl) (fun x=>by kernel_rfl)
noncomputable def xB:cZ:=⟨(.pair Qp DB),vW,mG⟩
theorem C5:Holds Tryz.prog aU 85 xB:=ay (cF:=[(106,C4),(107,xA)]) (bg:=[]) (inv:=[]) ((aj LY (aj F9 aB))) (av) (aC) (fn:=Tryz.f85) rfl (by kernel_rfl) (fun x=>by kernel_rfl)
noncomputable def l6:cZ:=⟨.unit,(.pair (.arr 11 (.pair (.int .i64) DB)) .unit),gu⟩
theorem qp:Holds Tryz.prog aU 86 l6:=ay (cF:=[]) (bg:=[]) (inv:=[]) (aB) (av) (aC) (fn:=Tryz.f86) rfl (by kernel_rfl) (fun x=>by kernel_rfl)
noncomputable def xC:cZ:=⟨(.pair (.int .i64) DB),(.pair .str vW),bY⟩
theorem Ga:Holds Tryz.prog aU 89 xC:=ay (cF:=[]) (bg:=[]) (inv:=[]) (aB) (av) (aC) (fn:=Tryz.f89) rfl (by kernel_rfl) (fun x=>by kernel_rfl)
noncomputable def vl:cZ:=⟨mT,DB,ny⟩
theorem Ba:Holds Tryz.prog aU 90 vl:=ay (cF:=[(86,l6)]) (bg:=[]) (inv:=[]) ((aj qp aB)) (av) (aC) (fn:=Tryz.f90) rfl (by kernel_rfl) (fun x=>by kernel_rfl)
noncomputable def Bb:cZ:=⟨(.pair Qp .unit),(.pair .str DB),jc⟩
theorem JI:Holds Tryz.prog aU 60 Bb:=ay (cF:=[(85,xB),(86,l6),(89,xC),(90,vl)]) (bg:=[]) (inv:=[]) ((aj C5 (aj qp (aj Ga (aj Ba aB))))) (av) (aC) (fn:=Tryz.f60) rfl (by kernel_rfl) (fun x=>by kernel_rfl)
noncomputable def uC:cZ:=⟨(.pair .str DB),mT,oG⟩
theorem Cg:Holds Tryz.prog aU 91 uC:=GO (spec:=eH) Tryz.func91 (by kernel_rfl) (by kernel_rfl) (fun _ _ _ h=>wL h) (fun s c w y hc hl hy=>by
 obtain⟨h1,h2,rfl⟩:=n6 hy
 have hm:(IntKind.i64).max=9223372036854775807:=by decide
 obtain⟨n,rfl⟩:=Int.eq_ofNat_of_zero_le h1
 exact Tryz.strings_Repeat s n w (by omega) h2)
noncomputable def yI:cZ:=⟨DB,mT,jF⟩
theorem Hg:Holds Tryz.prog aU 61 yI:=ay (cF:=[(91,uC)]) (bg:=[]) (inv:=[]) ((aj Cg aB)) (av) (aC) (fn:=Tryz.f61) rfl (by kernel_rfl) (fun x=>by kernel_rfl)
noncomputable def vm:cZ:=⟨DB,DB,mj⟩
theorem zJ:Holds Tryz.prog aU 62 vm:=ay (cF:=[]) (bg:=[]) (inv:=[]) (aB) (av) (aC) (fn:=Tryz.f62) rfl (by kernel_rfl) (fun x=>by kernel_rfl)
noncomputable def C6:cZ:=⟨(.pair LV .unit),(.pair .str DB),sN⟩
theorem LZ:Holds Tryz.prog aU 33 C6:=ay (cF:=[(60,Bb),(61,yI),(62,vm)]) (bg:=[]) (inv:=[]) ((aj JI (aj Hg (aj zJ aB)))) (av) (aC) (fn:=Tryz.f33) rfl (by kernel_rfl) (fun x=>by kernel_rfl)
noncomputable def vn:cZ:=⟨(.pair (.slice xk) zH),(.pair .str DB),nH⟩
theorem Bc:Holds Tryz.prog aU 11 vn:=ay (cF:=[(7,pM),(33,C6)]) (bg:=[]) (inv:=[]) ((aj tI (aj LZ aB))) (av) (aC) (fn:=Tryz.f11) rfl (by kernel_rfl) (fun x=>by kernel_rfl)
noncomputable def Bd:cZ:=⟨(.pair (.slice NZ) (.pair (.slice NZ) .unit)),vW,nI⟩
theorem JJ:Holds Tryz.prog aU 18 Bd:=ay (cF:=[]) (bg:=[]) (inv:=[]) (aB) (av) (aC) (fn:=Tryz.f18) rfl (by kernel_rfl) (fun x=>by kernel_rfl)
noncomputable def Be:cZ:=⟨mT,mT,nx⟩
theorem JK:Holds Tryz.prog aU 47 Be:=ay (cF:=[]) (bg:=[]) (inv:=[]) (aB) (av) (aC) (fn:=Tryz.f47) rfl (by kernel_rfl) (fun x=>by kernel_rfl)
noncomputable def Bf:cZ:=⟨(.pair (.slice NZ) .unit),mT,qR⟩
theorem JL:Holds Tryz.prog aU 19 Bf:=ay (cF:=[(47,Be)]) (bg:=[]) (inv:=[]) ((aj JK aB)) (av) (aC) (fn:=Tryz.f19) rfl (by kernel_rfl) (fun x=>by kernel_rfl)
noncomputable def yJ:cZ:=⟨.unit,vW,gY⟩
theorem Hh:Holds Tryz.prog aU 6 yJ:=ay (cF:=[(7,pM),(11,vn),(17,qo),(18,Bd),(19,Bf)]) (bg:=[]) (inv:=[]) ((aj tI (aj Bc (aj vL (aj JJ (aj JL aB)))))) (av) (aC) (fn:=Tryz.f6) rfl (by kernel_rfl) (fun x=>by kernel_rfl)
noncomputable def vo:cZ:=⟨(.pair (.pair Qp mT) mT),LW,nL⟩
theorem Bg:Holds Tryz.prog aU 30 vo:=ay (cF:=[]) (bg:=[]) (inv:=[]) (aB) (av) (aC) (fn:=Tryz.f30) rfl (by kernel_rfl) (fun x=>by kernel_rfl)
noncomputable def yK:cZ:=⟨mT,(.pair .str DB),pn⟩
theorem Hi:Holds Tryz.prog aU 51 yK:=ay (cF:=[(35,fM),(36,vi),(38,zI)]) (bg:=[]) (inv:=[]) ((aj hU (aj A7 (aj F7 aB)))) (av) (aC) (fn:=Tryz.f51) rfl (by kernel_rfl) (fun x=>by kernel_rfl)
noncomputable def rm:cZ:=⟨(.pair .str mT),mT,kP⟩
theorem vp:Holds Tryz.prog aU 52 rm:=ay (cF:=[]) (bg:=[]) (inv:=[]) (aB) (av) (aC) (fn:=Tryz.f52) rfl (by kernel_rfl) (fun x=>by kernel_rfl)
noncomputable def xD:cZ:=⟨mT,vW,iJ⟩
theorem Gb:Holds Tryz.prog aU 53 xD:=ay (cF:=[(14,qb),(35,fM),(52,rm)]) (bg:=[]) (inv:=[]) ((aj sY (aj hU (aj vp aB)))) (av) (aC) (fn:=Tryz.f53) rfl (by kernel_rfl) (fun x=>by kernel_rfl)
noncomputable def vq:cZ:=⟨(.pair (.pair Qp mT) .unit),(.pair (.int .i64) (.pair .str vW)),kR⟩
theorem Bh:Holds Tryz.prog aU 25 vq:=ay (cF:=[(13,lP),(14,qb),(30,vo),(37,vj),(51,yK),(52,rm),(53,xD)]) (bg:=[]) (inv:=[]) ((aj pL (aj sY (aj Bg (aj A8 (aj Hi (aj vp (aj Gb aB)))))))) (av) (aC) (fn:=Tryz.f25) rfl (by kernel_rfl) (fun x=>by kernel_rfl)
noncomputable def yL:cZ:=⟨(.pair LV .unit),vW,pJ⟩
theorem Hj:Holds Tryz.prog aU 24 yL:=ay (cF:=[(25,vq)]) (bg:=[]) (inv:=[]) ((aj Bh aB)) (av) (aC) (fn:=Tryz.f24) rfl (by kernel_rfl) (fun x=>by kernel_rfl)
noncomputable def yM:cZ:=⟨(.pair .str mT),vW,pq⟩
theorem Hl:Holds Tryz.prog aU 75 yM:=ay (cF:=[(35,fM)]) (bg:=[]) (inv:=[]) ((aj hU aB)) (av) (aC) (fn:=Tryz.f75) rfl (by kernel_rfl) (fun x=>by kernel_rfl)
noncomputable def l7:cZ:=⟨(.pair (.slice xk) (.pair .str vW)),zH,gw⟩
theorem qq:Holds Tryz.prog aU 54 l7:=ay (cF:=[(75,yM)]) (bg:=[]) (inv:=[]) ((aj Hl aB)) (av) (aC) (fn:=Tryz.f54) rfl (by kernel_rfl) (fun x=>by kernel_rfl)
noncomputable def xE:cZ:=⟨SS,zH,nG⟩
theorem Gc:Holds Tryz.prog aU 26 xE:=ay (cF:=[(5,mz),(54,l7)]) (bg:=[]) (inv:=[]) ((aj oS (aj qq aB))) (av) (aC) (fn:=Tryz.f26) rfl (by kernel_rfl) (fun x=>by kernel_rfl)
noncomputable def yN:cZ:=⟨SS,zH,pG⟩
theorem Ho:Holds Tryz.prog aU 27 yN:=ay (cF:=[(5,mz),(54,l7)]) (bg:=[]) (inv:=[]) ((aj oS (aj qq aB))) (av) (aC) (fn:=Tryz.f27) rfl (by kernel_rfl) (fun x=>by kernel_rfl)
noncomputable def xF:cZ:=⟨(.pair (.slice xk) LW),Qq,kr⟩
theorem C7:Holds Tryz.prog aU 29 xF:=ay (cF:=[(5,mz),(13,lP),(14,qb),(15,xy),(16,qn),(40,ri),(54,l7)]) (bg:=[]) (inv:=[]) ((aj oS (aj pL (aj sY (aj C2 (aj vK (aj vk (aj qq aB)))))))) (av) (aC) (fn:=Tryz.f29) rfl (by kernel_rfl) (fun x=>by kernel_rfl)
noncomputable def Bi:cZ:=⟨SS,(.pair xk vW),qO⟩
theorem JM:Holds Tryz.prog aU 55 Bi:=ay (cF:=[(5,mz),(40,ri)]) (bg:=[]) (inv:=[]) ((aj oS (aj vk aB))) (av) (aC) (fn:=Tryz.f55) rfl (by kernel_rfl) (fun x=>by kernel_rfl)
noncomputable def Bj:cZ:=⟨SS,Qq,qT⟩
theorem JN:Holds Tryz.prog aU 28 Bj:=ay (cF:=[(29,xF),(35,fM),(52,rm),(55,Bi)]) (bg:=[]) (inv:=[]) ((aj C7 (aj hU (aj vp (aj JM aB))))) (av) (aC) (fn:=Tryz.f28) rfl (by kernel_rfl) (fun x=>by kernel_rfl)
noncomputable def C8:cZ:=⟨(.pair (.slice xk) (.pair LV .unit)),Qq,sP⟩
theorem L1:Holds Tryz.prog aU 8 C8:=ay (cF:=[(5,mz),(24,yL),(25,vq),(26,xE),(27,yN),(28,Bj),(29,xF),(30,vo)]) (bg:=[]) (inv:=[]) ((aj oS (aj Hj (aj Bh (aj Gc (aj Ho (aj JN (aj C7 (aj Bg aB))))))))) (av) (aC) (fn:=Tryz.f8) rfl (by kernel_rfl) (fun x=>by kernel_rfl)
noncomputable def oT:cZ:=⟨LW,vW,dn⟩
theorem uD:Holds Tryz.prog aU 84 oT:=ay (cF:=[(22,fL),(23,nQ),(31,fH),(79,jI)]) (bg:=[]) (inv:=[]) ((aj hJ (aj rj (aj gQ (aj lO aB))))) (av) (aC) (fn:=Tryz.f84) rfl (by kernel_rfl) (fun x=>by kernel_rfl)
noncomputable def vM:cZ:=⟨mT,vW,jv⟩
theorem DC:Holds Tryz.prog aU 83 vM:=ay (cF:=[(84,oT)]) (bg:=[]) (inv:=[]) ((aj uD aB)) (av) (aC) (fn:=Tryz.f83) rfl (by kernel_rfl) (fun x=>by kernel_rfl)
noncomputable def yO:cZ:=⟨SS,zH,pF⟩
theorem Hp:Holds Tryz.prog aU 167 yO:=ay (cF:=[(31,fH),(170,pK),(172,b6)]) (bg:=[]) (inv:=[]) ((aj gQ (aj tH (aj cP aB)))) (av) (aC) (fn:=Tryz.f167) rfl (by kernel_rfl) (fun x=>by kernel_rfl)
noncomputable def oc:cZ:=⟨(.pair mT zH),zH,gd⟩
theorem oe:Holds Tryz.prog aU 165 oc:=ay (cF:=[(167,yO)]) (bg:=[]) (inv:=[]) ((aj Hp aB)) (av) (aC) (fn:=Tryz.f165) rfl (by kernel_rfl) (fun x=>by kernel_rfl)
noncomputable def qB:cZ:=⟨(.pair mT zH),Qq,qw⟩
theorem qC:Holds Tryz.prog aU 166 qB:=ay (cF:=[]) (bg:=[]) (inv:=[]) (aB) (av) (aC) (fn:=Tryz.f166) rfl (by kernel_rfl) (fun x=>by kernel_rfl)
noncomputable def Bk:cZ:=⟨SS,zH,qP⟩
theorem JO:Holds Tryz.prog aU 178 Bk:=ay (cF:=[(31,fH),(170,pK),(172,b6)]) (bg:=[]) (inv:=[]) ((aj gQ (aj tH (aj cP aB)))) (av) (aC) (fn:=Tryz.f178) rfl (by kernel_rfl) (fun x=>by kernel_rfl)
noncomputable def mO:cZ:=⟨(.pair mT zH),zH,eV⟩
theorem mP:Holds Tryz.prog aU 176 mO:=ay (cF:=[(178,Bk)]) (bg:=[]) (inv:=[]) ((aj JO aB)) (av) (aC) (fn:=Tryz.f176) rfl (by kernel_rfl) (fun x=>by kernel_rfl)
noncomputable def oh:cZ:=⟨(.pair mT zH),Qq,n7⟩
theorem om:Holds Tryz.prog aU 177 oh:=ay (cF:=[]) (bg:=[]) (inv:=[]) (aB) (av) (aC) (fn:=Tryz.f177) rfl (by kernel_rfl) (fun x=>by kernel_rfl)
noncomputable def oq:cZ:=⟨(.pair .unit zH),zH,n8⟩
theorem ou:Holds Tryz.prog aU 180 oq:=ay (cF:=[]) (bg:=[]) (inv:=[]) (aB) (av) (aC) (fn:=Tryz.f180) rfl (by kernel_rfl) (fun x=>by kernel_rfl)
noncomputable def qD:cZ:=⟨(.pair .unit zH),Qq,qx⟩
theorem qE:Holds Tryz.prog aU 181 qD:=ay (cF:=[]) (bg:=[]) (inv:=[]) (aB) (av) (aC) (fn:=Tryz.f181) rfl (by kernel_rfl) (fun x=>by kernel_rfl)
noncomputable def ow:cZ:=⟨(.pair LW zH),zH,n9⟩
theorem oz:Holds Tryz.prog aU 182 ow:=ay (cF:=[]) (bg:=[]) (inv:=[]) (aB) (av) (aC) (fn:=Tryz.f182) rfl (by kernel_rfl) (fun x=>by kernel_rfl)
noncomputable def qF:cZ:=⟨(.pair LW zH),Qq,ir⟩
theorem qG:Holds Tryz.prog aU 183 qF:=ay (cF:=[(20,xz),(22,fL),(23,nQ),(79,jI),(184,F4)]) (bg:=[]) (inv:=[]) ((aj C3 (aj hJ (aj rj (aj lO (aj NY aB)))))) (av) (aC) (fn:=Tryz.f183) rfl (by kernel_rfl) (fun x=>by kernel_rfl)
noncomputable def xG:cZ:=⟨(.pair (.pair Qp mT) .unit),(.pair Uv vW),nK⟩
theorem Gd:Holds Tryz.prog aU 59 xG:=ay (cF:=[(22,fL),(23,nQ),(81,tG),(82,vg),(83,vM),(84,oT),(165,oc),(166,qB),(176,mO),(177,oh),(180,oq),(181,qD),(182,ow),(183,qF)]) (bg:=[]) (inv:=[]) ((aj hJ (aj rj (aj yG (aj A6 (aj DC (aj uD (aj oe (aj qC (aj mP (aj om (aj ou (aj qE (aj oz (aj qG aB))))))))))))))) (av) (aC) (fn:=Tryz.f59) rfl (by kernel_rfl) (fun x=>by kernel_rfl)
noncomputable def vN:cZ:=⟨(.pair LV .unit),(.pair (.slice Uv) vW),lU⟩
theorem DD:Holds Tryz.prog aU 32 vN:=ay (cF:=[(59,xG)]) (bg:=[]) (inv:=[]) ((aj Gd aB)) (av) (aC) (fn:=Tryz.f32) rfl (by kernel_rfl) (fun x=>by kernel_rfl)
theorem Hq:mg Tryz.prog aU "cooperage/overlay.clears" ⟨(.pair Uv zH),zH,kQ⟩:=(j7 oe (fun v w=>by kernel_rfl) rfl (j7 mP (fun v w=>by kernel_rfl) rfl (j7 ou (fun v w=>by kernel_rfl) rfl (j7 oz (fun v w=>by kernel_rfl) rfl Eo))))
theorem L2:mg Tryz.prog aU "cooperage/overlay.puts" ⟨(.pair Uv zH),Qq,oI⟩:=(j7 qC (fun v w=>by kernel_rfl) rfl (j7 om (fun v w=>by kernel_rfl) rfl (j7 qE (fun v w=>by kernel_rfl) rfl (j7 qG (fun v w=>by kernel_rfl) rfl Eo))))
noncomputable def tJ:cZ:=⟨(.pair (.slice xk) (.pair LV .unit)),Qq,lK⟩
theorem yP:Holds Tryz.prog aU 9 tJ:=ay (cF:=[(31,fH),(32,vN)]) (bg:=[]) (inv:=[("cooperage/overlay.clears",⟨(.pair Uv zH),zH,kQ⟩),("cooperage/overlay.puts",⟨(.pair Uv zH),Qq,oI⟩)]) ((aj gQ (aj DD aB))) (av) ((KS Hq (KS L2 aC))) (fn:=Tryz.f9) rfl (by kernel_rfl) (fun x=>by kernel_rfl)
noncomputable def Bl:cZ:=⟨(.pair (.slice xk) zH),vW,gI⟩
theorem JP:Holds Tryz.prog aU 10 Bl:=ay (cF:=[]) (bg:=[]) (inv:=[]) (aB) (av) (aC) (fn:=Tryz.f10) rfl (by kernel_rfl) (fun x=>by kernel_rfl)
noncomputable def nR:s7:=⟨[true,false],vW,(.pair Xx .unit),(.pair (.pair Qp mT) vW),dB⟩
theorem sZ:jb Tryz.prog aU 92 nR:=oR (cF:=[]) (bg:=[]) (inv:=[]) (aB) (av) (aC) (fn:=Tryz.f92) rfl (by kernel_rfl) (fun x=>by kernel_rfl)
noncomputable def nS:cZ:=⟨(.pair .str (.pair (.int .u8) .unit)),mT,fB⟩
theorem vr:Holds Tryz.prog aU 110 nS:=ay (cF:=[]) (bg:=[]) (inv:=[]) (aB) (av) (aC) (fn:=Tryz.f110) rfl (by kernel_rfl) (fun x=>by kernel_rfl)
noncomputable def iP:cZ:=⟨(.pair .str (.pair (.int .u8) .unit)),mT,dL⟩
theorem mQ:Holds Tryz.prog aU 111 iP:=ay (cF:=[]) (bg:=[]) (inv:=[]) (aB) (av) (aC) (fn:=Tryz.f111) rfl (by kernel_rfl) (fun x=>by kernel_rfl)
noncomputable def jh:cZ:=⟨mT,(.pair (.arr 256 .bool) vW),en⟩
theorem nT:Holds Tryz.prog aU 112 jh:=ay (cF:=[]) (bg:=[]) (inv:=[]) (aB) (av) (aC) (fn:=Tryz.f112) rfl (by kernel_rfl) (fun x=>by kernel_rfl)
noncomputable def cS:s7:=⟨[true,false],(.pair (.int .u8) .unit),(.pair (.arr 256 .bool) .unit),vW,cR⟩
theorem dR:jb Tryz.prog aU 128 cS:=oR (cF:=[]) (bg:=[]) (inv:=[]) (aB) (av) (aC) (fn:=Tryz.f128) rfl (by kernel_rfl) (fun x=>by kernel_rfl)
noncomputable def mR:s7:=⟨[false,true],mT,(.pair (.arr 256 .bool) .unit),mT,mH⟩
theorem uE:jb Tryz.prog aU 113 mR:=oR (cF:=[]) (bg:=[(128,cS)]) (inv:=[]) (aB) ((iz dR av)) (aC) (fn:=Tryz.f113) rfl (by kernel_rfl) (fun x=>by kernel_rfl)
noncomputable def hY:s7:=⟨[false,true],mT,(.pair (.arr 256 .bool) .unit),mT,eM⟩
theorem lQ:jb Tryz.prog aU 114 hY:=oR (cF:=[]) (bg:=[(128,cS)]) (inv:=[]) (aB) ((iz dR av)) (aC) (fn:=Tryz.f114) rfl (by kernel_rfl) (fun x=>by kernel_rfl)
noncomputable def nU:cZ:=⟨(.pair .str mT),mT,kf⟩
theorem sy:Holds Tryz.prog aU 94 nU:=ay (cF:=[(110,nS),(111,iP),(112,jh)]) (bg:=[(113,mR),(114,hY),(128,cS)]) (inv:=[]) ((aj vr (aj mQ (aj nT aB)))) ((iz uE (iz lQ (iz dR av)))) (aC) (fn:=Tryz.f94) rfl (by kernel_rfl) (fun x=>by kernel_rfl)
noncomputable def tK:cZ:=⟨mT,vW,jE⟩
theorem yQ:Holds Tryz.prog aU 93 tK:=ay (cF:=[(94,nU)]) (bg:=[]) (inv:=[]) ((aj sy aB)) (av) (aC) (fn:=Tryz.f93) rfl (by kernel_rfl) (fun x=>by kernel_rfl)
noncomputable def C9:cZ:=⟨(.pair .str DB),mT,bK⟩
theorem L3:Holds Tryz.prog aU 117 C9:=ay (cF:=[(86,l6)]) (bg:=[]) (inv:=[]) ((aj qp aB)) (av) (aC) (fn:=Tryz.f117) rfl (by kernel_rfl) (fun x=>by kernel_rfl)
noncomputable def lu:cZ:=⟨(.pair .str mT),mT,dz⟩
theorem qH:Holds Tryz.prog aU 132 lu:=ay (cF:=[(111,iP),(112,jh)]) (bg:=[(114,hY),(128,cS)]) (inv:=[]) ((aj mQ (aj nT aB))) ((iz lQ (iz dR av))) (aC) (fn:=Tryz.f132) rfl (by kernel_rfl) (fun x=>by kernel_rfl)
noncomputable def sA:cZ:=⟨mT,(.pair (.int .i64) vW),jd⟩
theorem zK:Holds Tryz.prog aU 133 sA:=ay (cF:=[]) (bg:=[]) (inv:=[]) (aB) (av) (aC) (fn:=Tryz.f133) rfl (by kernel_rfl) (fun x=>by kernel_rfl)
noncomputable def vO:cZ:=⟨mT,DB,bU⟩
theorem DE:Holds Tryz.prog aU 118 vO:=ay (cF:=[(132,lu),(133,sA)]) (bg:=[]) (inv:=[]) ((aj qH (aj zK aB))) (av) (aC) (fn:=Tryz.f118) rfl (by kernel_rfl) (fun x=>by kernel_rfl)
noncomputable def yR:cZ:=⟨mT,(.pair .str vW),fK⟩
theorem Hr:Holds Tryz.prog aU 119 yR:=ay (cF:=[(77,fq),(132,lu)]) (bg:=[]) (inv:=[]) ((aj iu (aj qH aB))) (av) (aC) (fn:=Tryz.f119) rfl (by kernel_rfl) (fun x=>by kernel_rfl)
noncomputable def tL:cZ:=⟨mT,(.pair Qp DB),lF⟩
theorem yS:Holds Tryz.prog aU 95 tL:=ay (cF:=[(85,xB),(90,vl),(117,C9),(118,vO),(119,yR)]) (bg:=[]) (inv:=[]) ((aj C5 (aj Ba (aj L3 (aj DE (aj Hr aB)))))) (av) (aC) (fn:=Tryz.f95) rfl (by kernel_rfl) (fun x=>by kernel_rfl)
noncomputable def s5:s7:=⟨[true],.unit,(.pair Xx .unit),(.pair (.pair Qp mT) vW),cg⟩
theorem Bm:jb Tryz.prog aU 65 s5:=oR (cF:=[(62,vm),(93,tK),(94,nU),(95,tL)]) (bg:=[(92,nR)]) (inv:=[]) ((aj zJ (aj yQ (aj sy (aj yS aB))))) ((iz sZ av)) (aC) (fn:=Tryz.f65) rfl (by kernel_rfl) (fun x=>by kernel_rfl)
noncomputable def uF:s7:=⟨[true],.unit,(.pair Xx .unit),vW,uq⟩
theorem Ch:jb Tryz.prog aU 66 uF:=oR (cF:=[]) (bg:=[]) (inv:=[]) (aB) (av) (aC) (fn:=Tryz.f66) rfl (by kernel_rfl) (fun x=>by kernel_rfl)
noncomputable def Gf:cZ:=⟨mT,(.pair LV DB),rW⟩
theorem N0:Holds Tryz.prog aU 34 Gf:=ay (cF:=[(62,vm),(93,tK),(94,nU),(95,tL)]) (bg:=[(65,s5),(66,uF),(92,nR)]) (inv:=[]) ((aj zJ (aj yQ (aj sy (aj yS aB))))) ((iz Bm (iz Ch (iz sZ av)))) (aC) (fn:=Tryz.f34) rfl (by kernel_rfl) (fun x=>by kernel_rfl)
noncomputable def vP:cZ:=⟨SS,Qq,lV⟩
theorem DF:Holds Tryz.prog aU 12 vP:=ay (cF:=[(9,tJ),(31,fH),(34,Gf)]) (bg:=[]) (inv:=[]) ((aj yP (aj gQ (aj N0 aB)))) (av) (aC) (fn:=Tryz.f12) rfl (by kernel_rfl) (fun x=>by kernel_rfl)
noncomputable def zL:cZ:=⟨(.pair (.slice xk) zH),vW,jg⟩
theorem zM:Holds Tryz.prog aU 3 zL:=ay (cF:=[(4,C0),(5,mz),(6,yJ),(7,pM),(8,C8),(9,tJ),(10,Bl),(11,vn),(12,vP)]) (bg:=[]) (inv:=[]) ((aj LX (aj oS (aj Hh (aj tI (aj L1 (aj yP (aj JP (aj Bc (aj DF aB)))))))))) (av) (aC) (fn:=Tryz.f3) rfl (by kernel_rfl) (fun x=>by kernel_rfl)
end Go.Proofs.YtjkmocnbjhpilaaGreatDoor
