/- The layer's functions keep their contracts: each comes to its plain definition, by the ghost interpreter. -/
import Derived.Test.YtpmecibilnjeiaaGreatDoorFirst
import Derived.Test.YtpmecibilnjeiaaGreatDoorBld
import Derived.Test.YtpmecibilnjeiaaGreatDoorOnce
set_option linter.unusedVariables false
set_option linter.unusedSectionVars false
set_option linter.unusedSimpArgs false
namespace Go.Proofs.YtpmecibilnjeiaaGreatDoor
open Go Go.Ge
set_option maxRecDepth 100000
variable [Lp]
open First
def cy(s:List (Nat×Nat))(m:List Nat):Option CT:=some ⟨s,m,false⟩
def cz(s:List (Nat×Nat)):Option CT:=some ⟨s,[],false⟩
def fp(a:List (Option CT)):td:=⟨a,[]⟩
abbrev Tg:Ty:=(.pair (.slice<|.pair .str<|.pair (.slice .str)<|.pair .str<|.pair .str<|.pair .str<|.pair (.slice<|.pair .str<|.pair .str<|.pair .str .unit) .unit)<|.pair (.slice<|.pair .str<|.pair (.slice .str)<|.pair .str<|.pair .str<|.pair (.slice<|.pair .str<|.pair .str<|.pair .str .unit) .unit)<|.pair (.slice<|.pair .str<|.pair .str<|.pair (.slice .str)<|.pair .str<|.pair (.int .i64)<|.pair (.int .i64)<|.pair .bool .unit)<|.pair (.slice .str)<|.pair (.slice<|.pair .str<|.pair (.int .i64) .unit) .unit)
abbrev qP:Ty:=(.pair .str<|.pair .str<|.pair (.slice .str)<|.pair .str<|.pair (.int .i64)<|.pair (.int .i64)<|.pair .bool .unit)
abbrev zc:Ty:=(.pair .str<|.pair (.int .i64)<|.pair (.int .i64)<|.pair .str<|.pair .str .unit)
abbrev ga:Ty:=(.pair .str .unit)
abbrev wA:Ty:=(.pair (.int .i64) .unit)
abbrev YK:Ty:=(.pair .str<|.pair (.int .i64)<|.pair (.int .i64)<|.pair (.int .i64)<|.pair (.int .i64)<|.pair (.int .i64)<|.pair (.int .i64) ga)
abbrev YH6:Ty:=(.pair .str<|.pair .str<|.pair (.slice<|.pair .str<|.pair .str ga) .unit)
abbrev jI:Ty:=(.pair .bool .unit)
abbrev YH8:Ty:=(.pair (.int .i64)<|.pair (.slice qP)<|.pair (.slice<|.pair .str<|.pair (.slice .str) YH6)<|.pair (.slice<|.pair .str<|.pair (.slice .str)<|.pair .str YH6) .unit)
abbrev wG:Ty:=(.pair .str wA)
abbrev tU:Ty:=(.pair (.slice zc) .unit)
abbrev zd:Ty:=(.pair (.slice .str) .unit)
abbrev YE:Ty:=(.alt 247 ga<|.alt 249 ga<|.alt 251 .unit<|.alt 253 (.pair zc .unit) .za)
abbrev PY:Ty:=(.pair .str<|.pair (.slice .str)<|.pair .str YH6)
abbrev Mh:Ty:=(.pair .str<|.pair (.slice .str) YH6)
abbrev CC:Ty:=(.pair (.slice zc) wA)
abbrev SV:Ty:=(.pair .str<|.pair .str ga)
abbrev KT:Ty:=(.pair (.slice zc) ga)
abbrev Mi:Ty:=(.pair (.slice qP) .unit)
abbrev acW:Ty:=(.pair .bool<|.pair .str<|.pair (.int .i64)<|.pair .bool jI)
abbrev abp:Ty:=(.pair (.arr 8<|.int .u32) .unit)
abbrev Mj:Ty:=(.pair (.int .i64) wA)
abbrev HF:Ty:=(.pair Tg .unit)
abbrev SW:Ty:=(.slice<|.pair YK ga)
abbrev Vg:Ty:=(.pair (.slice wG) .unit)
abbrev Vh:Ty:=(.pair (.int .u8) .unit)
abbrev aeC:Ty:=(.pair (.pair .bool abp)<|.pair (.arr 64<|.int .u8) wA)
abbrev PZ:Ty:=(.pair .str ga)
abbrev abq:Ty:=(.pair (.slice SV) .unit)
noncomputable def pA:Nat->td
 | 3=>fp [none,none,none,cz [(6,4),(14,39)],none]
 | 4=>fp [cz [(2,4),(3,3)],none,none]
 | 5=>fp [none,cz [(2,4),(3,3)],none,none,cz [(2,4),(4,3)],none,cz [(6,4),(7,3)],none,none,cz [(2,4),(8,3)],none,none]
 | 7=>fp [none]
 | 8=>fp [cz [(7,3)]]
 | 9=>fp [none,cz [(4,4),(5,3)],none,none]
 | 12=>⟨[none,cy [(8,25),(28,3)] [8,2000026],none],[8]⟩
 | 13=>fp [none,none]
 | 14=>fp [none,cz [(4,4),(5,3)],none,none]
 | 15=>fp [cz [(2,4),(3,3)],none,none,cz [(2,4),(4,3)],none,none,cz [(2,4),(5,3)],none,none]
 | 16=>fp [cz [(2,4),(3,3)],none,none]
 | 17=>fp [none,cz [(4,40),(6,3)],none,none,cz [(4,40),(7,3)],none,none,cz [(4,40),(8,3)],none,none,cz [(4,40),(11,3)],none,none,cz [(4,40),(12,3)],none,cz [(4,40),(13,3)],none,none]
 | 18=>fp [none,cz [(2,4),(3,3)],none,none,none]
 | 19=>fp [cz [(4,3),(5,3)],none,none]
 | 21=>fp [none]
 | 22=>⟨[cy [(7,26)] [4,7,2000007],cz [(8,3)]],[11]⟩
 | 24=>fp [none]
 | 28=>⟨[none],[5]⟩
 | 30=>⟨[cy [(4,3),(8,3)] [1],none,none],[7000003]⟩
 | 32=>⟨[],[8]⟩
 | 33=>⟨[],[8]⟩
 | 34=>fp [none,cz [(4,4),(5,3)],none,none]
 | 35=>fp [none,cz [(4,4),(5,3)],none,none]
 | 36=>fp [none,cz [(4,4),(5,3)],none,none]
 | 37=>fp [none,cz [(4,4),(5,3)],none,none]
 | 38=>⟨[none],[9]⟩
 | 39=>⟨[none],[9]⟩
 | 40=>⟨[cy [(4,24),(5,40),(6,24),(7,9)] [6],cy [(4,24),(5,40),(6,24),(7,9),(13,3)] [6],none,none,none,none],[6]⟩
 | 41=>fp [cy [(2,3),(3,3),(0,999999)] [0,3999999],none]
 | 42=>fp [cz [(2,39),(3,40),(4,39),(11,3)],none,none]
 | 43=>fp [none,cz [(2,4),(3,3)],none,none]
 | 44=>fp [none]
 | 45=>fp [none]
 | 46=>fp [none,none,cz [(0,39),(6,3)],none,cz [(0,39)],cz [(0,39)],cz [(0,39),(4,39),(5,40),(10,3)],none,none,none,none]
 | 47=>fp [cz [(2,4),(3,3)],none,none]
 | 48=>fp [cz [(2,4),(3,3)],none,none]
 | 52=>⟨[cy [(4,25),(5,25),(6,3)] [4,5],none,cy [(4,25),(5,25),(7,3)] [4,5],none,cy [(4,25),(5,25),(8,3)] [4,5],none],[4,5]⟩
 | 53=>fp [cz [(2,40),(3,3)],none,none]
 | 55=>⟨[none,cy [(8,25),(9,3)] [8],none],[8]⟩
 | 56=>fp [none,cz [(4,40),(36,3)],none,none,none]
 | 57=>fp [none,cz [(2,4),(20,3)],none,none]
 | 58=>fp [cy [(2,4),(16,3)] [1,3],none,none,cy [(2,4),(34,3)] [1,3,4],none,none,cy [(2,4),(59,3)] [1,3],none,none]
 | 59=>fp [none,cy [(5,3),(6,3),(0,999999)] [0,1],none,cy [(5,3),(0,999999)] [0]]
 | 60=>⟨[none],[5]⟩
 | 62=>fp [cy [(4,3),(8,3)] [1],none,none]
 | 64=>⟨[],[8]⟩
 | 73=>⟨[none,cy [(6,4),(17,3)] [2],none,none],[7000004]⟩
 | 75=>fp [none,cz [(4,4),(13,3)],none,none]
 | 76=>fp [none,cz [(4,4),(13,3)],none,none]
 | 77=>⟨[none,cy [(6,4),(17,3)] [2],none,none],[7000004]⟩
 | 79=>⟨[none,cy [(6,4),(17,3)] [2],none,none],[7000004]⟩
 | 81=>fp [none,cz [(4,4),(13,3)],none,none]
 | 85=>⟨[none],[5]⟩
 | 86=>fp [none,cz [(4,4),(5,3)],none,none]
 | 89=>fp [none]
 | 90=>fp [none]
 | 91=>fp [none,none,none]
 | 93=>fp [cz [(4,3),(7,3)],none,none,none,none,none]
 | 94=>fp [cz [(2,4),(3,3)],none,none]
 | 95=>⟨[none,some ⟨[(0,9),(2,84),(3,4),(4,84)],[4],true⟩,none,none,none],[4]⟩
 | 96=>fp [none,none,none,none]
 | 97=>fp [none]
 | 98=>fp [none]
 | 99=>fp [cz [(0,39),(4,39),(5,40),(7,9),(8,3)],none,none,none]
 | 100=>⟨[none,none,none,some ⟨[(8,22),(0,999999)],[0],true⟩,some ⟨[(8,22),(0,999999)],[0],true⟩,none,cz [(12,3)],none],[10,11]⟩
 | 103=>fp [cz [(2,4),(3,3)],none,none,cz [(2,4),(4,3)],none,none]
 | 104=>fp [none,none]
 | 105=>fp [cz [(2,4),(3,3)],none,none]
 | 106=>⟨[some ⟨[(1,9),(4,24),(5,40),(6,24),(7,3)],[6],true⟩,none,none,none,none],[6]⟩
 | 107=>fp [cy [(5,3)] [3],none,cy [(7,3)] [6],none]
 | 108=>⟨[cy [(3,59),(4,3)] [3],none],[3]⟩
 | 109=>fp [none]
 | 110=>fp [cz [(2,39),(3,40),(4,39),(5,3)],none,none]
 | 112=>⟨[],[7000004]⟩
 | 114=>⟨[],[7000004]⟩
 | 116=>⟨[],[7000004]⟩
 | 118=>⟨[cy [(4,4),(5,3)] [1],none,none],[7000004]⟩
 | 120=>⟨[cy [(4,4),(5,3)] [1],none,none],[7000004]⟩
 | 122=>⟨[cy [(4,4),(5,3)] [1],none,none],[7000004]⟩
 | 125=>⟨[cy [(3,25),(13,3)] [3],none,cy [(3,25),(25,3)] [3],none,cy [(3,25),(37,3)] [3],none],[3]⟩
 | 126=>fp [cz [(2,40),(9,3)],none,none]
 | 127=>fp [none]
 | 128=>⟨[],[7000004]⟩
 | 129=>⟨[],[7000004]⟩
 | 130=>⟨[],[7000003]⟩
 | 133=>fp [cy [(4,3),(8,3)] [1],none,none]
 | 134=>fp [cy [(4,3),(8,3)] [1],none,none]
 | 140=>⟨[cy [(5,84),(6,0),(7,4)] [4,5,6],none,none],[5,6]⟩
 | 141=>fp [none,cz [(2,40),(12,3)],none,none]
 | 142=>⟨[none,none,cy [(8,22),(30,3),(6,999999),(28,999999)] [6,8,28,2000008],none,cy [(4,22),(5,27),(8,22),(40,3),(38,999999)] [8,38],none,none],[25]⟩
 | 143=>⟨[none,cy [(3,25),(4,9),(5,3)] [3],none,cy [(3,25),(4,9)] [3]],[3]⟩
 | 144=>fp [cz [(3,9),(4,3)],none,cz [(3,9)]]
 | 145=>fp [none,none,none]
 | 146=>fp [cz [(2,4),(4,3)],none,none]
 | 147=>fp [cz [(2,4),(3,3)],none,none]
 | 148=>fp [cz [(4,3),(5,3)],none,none]
 | 149=>fp [cz [(2,4),(3,3)],none,none]
 | 150=>fp [none,cz [(2,4),(3,3)],none,none]
 | 151=>fp [none,cy [] [11],cz [(74,4)],cy [] [11],cy [] [11],cy [] [11],none]
 | 152=>fp [cz [(0,3)],none]
 | 153=>⟨[cy [(5,25),(6,3)] [5],none,cy [(5,25)] [5],none],[5]⟩
 | 154=>fp [none,none]
 | 155=>fp [cz [(2,4),(4,9),(5,3)],none,none]
 | 156=>⟨[cy [(7,39),(8,3)] [7],none,cy [(7,39)] [7]],[7]⟩
 | 157=>fp [none]
 | 158=>⟨[none,cy [(2,9),(3,4),(4,59),(5,3)] [4],none,none],[4]⟩
 | 159=>fp [cz [(2,4),(3,3)],none,none]
 | 160=>fp [cz [(4,3),(5,3)],none,none]
 | 162=>fp [cy [(3,59)] [0,3],none,cy [(3,59),(5,3)] [3],none]
 | 163=>fp [cy [(6,3)] [5],none,cy [(7,3)] [5],none,cy [(12,3)] [11],none,cy [(17,3)] [11],none]
 | 164=>fp [none]
 | 169=>fp [none]
 | 176=>fp [none]
 | 183=>fp [none,none,none,none]
 | 185=>fp [none]
 | 186=>fp [none,none,none,none]
 | 188=>fp [none,none,none]
 | 189=>⟨[cy [(2,190),(3,4),(4,190),(11,3)] [4],none,none],[4]⟩
 | 191=>fp [cz [(2,4),(3,3)],none,none]
 | 192=>fp [cz [(3,3)],none,none,cz [(2,3),(4,3)],none,none,none]
 | 193=>fp [cz [(3,3),(4,3)],none,cz [(3,3)]]
 | 194=>fp [cz [(2,9),(3,4),(4,3)],none,none,cz [(2,9),(3,4),(5,3)],none,none]
 | 195=>fp [cz [(5,4)]]
 | 196=>fp [none,cz [(4,4),(7,3)],none,none]
 | 197=>fp [cz [(2,3),(3,3)],none,none]
 | 200=>⟨[none,cy [(0,9),(2,9),(3,4),(4,59)] [4],none,none],[4]⟩
 | 201=>⟨[],[7000004]⟩
 | 204=>⟨[],[7000004]⟩
 | 206=>⟨[cy [(4,4),(5,3)] [1],none,none],[7000004]⟩
 | 215=>fp [none,none,none]
 | 216=>fp [none,cz [(4,9)],cz [(71,4)],cy [] [10],cy [] [10],cy [] [10],none]
 | 218=>fp [none,none,none,none,none]
 | 221=>fp [cy [(6,3),(13,3)] [2],none,none,none,none]
 | 222=>fp [none]
 | 223=>fp [none,none,none,none,none]
 | 225=>fp [none,none,none,none,none]
 | 226=>fp [none,cz [(2,3),(3,4),(4,3),(5,3)],none,none]
 | 227=>fp [cz [(4,4),(5,3)],none,none]
 | 231=>fp [none]
 | 246=>fp [cy [(9,3)] [3],none]
 | 248=>fp [cz [(0,9)],none]
 | 249=>fp [cz [(0,9)],none]
 | 250=>fp [cy [(3,4),(4,3)] [2],none,none]
 | 251=>fp [cy [(0,9)] [1],none,none]
 | 252=>fp [cy [(0,9)] [1],none,none]
 | 256=>fp [none]
 | 257=>fp [cz [(4,3),(12,3)],none,cz [(6,5)]]
 | 259=>fp [none,none,none,none]
 | 260=>fp [cz [(4,3),(5,3)],none,none]
 | 261=>fp [cz [(9,176),(10,3)],none,none,cz [(4,3),(9,176),(11,3)],none,none]
 | 262=>⟨[cy [(2,9),(3,40),(4,25),(11,3)] [4],none,cy [(2,9),(3,40),(4,25)] [4],none,none],[4]⟩
 | 263=>fp [none,none,none]
 | 267=>fp [cy [(9,3),(10,3)] [1,2],none,cz [(9,3),(10,3)]]
 | 269=>fp [none]
 | 271=>⟨[cy [(3,39),(6,9),(18,3)] [3],none],[3]⟩
 | 272=>fp [cy [(4,3),(8,3)] [1],none,none]
 | 274=>fp [cy [(4,3),(8,3)] [1],none,none]
 | 280=>fp [none,cy [(1,9)] [0],none,cy [] [0]]
 | 281=>fp [cy [] [3],cy [] [3],none,cy [(26,3)] [5],none,cy [(41,3)] [7],none]
 | 289=>fp [none,none,none]
 | 290=>fp [none,cz [(2,3),(3,4),(4,3),(18,3)],none,none]
 | 293=>fp [cz [(4,176),(5,3)],none,cz [(6,176),(7,176),(8,3)],none,cz [(6,176)]]
 | 294=>fp [cz [(2,4),(6,3)],none,none]
 | 301=>fp [cy [] [0],cz [(6,176),(7,176),(8,176),(9,176),(10,176),(11,176),(12,176),(13,176),(74,3)],none,cy [(143,3)] [0],none]
 | 308=>fp [cz [(4,3),(8,3)],none,none]
 | 314=>fp [cy [(12,3)] [3],none,cy [(22,3)] [3],none,cy [(7,3)] [3],none]
 | 346=>⟨[none],[9]⟩
 | 349=>fp [none,cy [(5,3),(6,3),(0,999999)] [0,1],none,cy [(5,3),(0,999999)] [0]]
 | 350=>⟨[none],[5]⟩
 | 352=>fp [cy [(4,3),(8,3)] [1],none,none]
 | 360=>fp [cz [(1,39),(4,39),(5,40),(6,9),(25,3)],none,none,none]
 | 361=>fp [none,none]
 | 362=>⟨[none,none,none,none],[55]⟩
 | _=>⟨[],[]⟩
def sS:List (Nat×List nG):=[(271,[.self,.buf (.int .u8) 5]),(251,[])]
def VC:List (Nat×Nat):=[(59,5)]
noncomputable def Ll:List (Nat×WG):=[(283,.str 271 5),(302,.chk 271),(28,.clone .str),(60,.clone wG),(85,.clone qP),(350,.clone zc),(83,(.own .str (.pair (.int .i64) zd) true ej)),(84,(.own qP (.pair (.int .i64) Mi) true cY)),(87,(.own .str Mj true ek)),(88,(.own qP Mj true cZ)),(132,(.own wG (.pair (.int .i64) Vg) true ep)),(173,(.own .str .unit false ck)),(174,(.own .str .unit true cm)),(363,(.own zc (.pair (.int .i64) tU) true aO))]
noncomputable def tys:List (Nat×Ty):=[(3,(.int .i64)),(4,.bool),(5,(.int .u8)),(9,.str),(21,(.int .i32)),(22,(.slice PY)),(23,(.slice Mh)),(24,(.slice qP)),(25,(.slice .str)),(26,(.slice wG)),(28,Tg),(30,qP),(39,(.slice zc)),(40,(.int .i64)),(48,YH8),(51,(.slice SV)),(53,Mh),(56,PY),(58,wG),(59,(.slice<|.int .u8)),(84,SW),(89,zc),(92,(.arr 4<|.int .i64)),(112,SV),(134,YK),(136,(.pair YK ga)),(141,(.arr 32<|.int .u8)),(176,(.int .u32)),(177,(.arr 8<|.int .u32)),(190,(.slice YE)),(194,YE),(200,(.int .u64)),(201,(.arr 64<|.int .u32)),(202,(.int .u64)),(214,acW),(226,(.int .i64)),(237,(.arr 256 .bool)),(247,ga),(249,ga),(253,(.pair zc .unit)),(256,(.int .u64)),(263,(.pair .bool abp)),(264,(.arr 64<|.int .u8)),(266,aeC),(281,Mj),(282,(.arr 11 Mj)),(294,(.arr 8<|.int .u8)),(297,(.arr 2 .str)),(307,(.arr 256<|.int .u8)),(309,(.pair (.int .u8) Vh)),(310,(.arr 16<|.pair (.int .u8) Vh))]
noncomputable def ym:List (Nat×Func):=[(3,Tryz.f3),(4,Tryz.f4),(5,Tryz.f5),(6,Tryz.f6),(7,Tryz.f7),(8,Tryz.f8),(9,Tryz.f9),(10,Tryz.f10),(11,Tryz.f11),(12,Tryz.f12),(13,Tryz.f13),(14,Tryz.f14),(15,Tryz.f15),(16,Tryz.f16),(17,Tryz.f17),(18,Tryz.f18),(19,Tryz.f19),(20,Tryz.f20),(21,Tryz.f21),(22,Tryz.f22),(23,Tryz.f23),(24,Tryz.f24),(25,Tryz.f25),(26,Tryz.f26),(27,Tryz.f27),(28,Tryz.f28),(29,Tryz.f29),(30,Tryz.f30),(31,Tryz.f31),(32,Tryz.f32),(33,Tryz.f33),(34,Tryz.f34),(35,Tryz.f35),(36,Tryz.f36),(37,Tryz.f37),(38,Tryz.f38),(39,Tryz.f39),(40,Tryz.f40),(41,Tryz.f41),(42,Tryz.f42),(43,Tryz.f43),(44,Tryz.f44),(45,Tryz.f45),(46,Tryz.f46),(47,Tryz.f47),(48,Tryz.f48),(49,Tryz.f49),(50,Tryz.f50),(51,Tryz.f51),(52,Tryz.f52),(53,Tryz.f53),(54,Tryz.f54),(55,Tryz.f55),(56,Tryz.f56),(57,Tryz.f57),(58,Tryz.f58),(59,Tryz.f59),(60,Tryz.f60),(61,Tryz.f61),(62,Tryz.f62),(63,Tryz.f63),(64,Tryz.f64),(65,Tryz.f65),(66,Tryz.f66),(67,Tryz.f67),(68,Tryz.f68),(69,Tryz.f69),(70,Tryz.f70),(71,Tryz.f71),(72,Tryz.f72),(73,Tryz.f73),(74,Tryz.f74),(75,Tryz.f75),(76,Tryz.f76),(77,Tryz.f77),(78,Tryz.f78),(79,Tryz.f79),(80,Tryz.f80),(81,Tryz.f81),(82,Tryz.f82),(85,Tryz.f85),(86,Tryz.f86),(89,Tryz.f89),(90,Tryz.f90),(91,Tryz.f91),(92,Tryz.f92),(93,Tryz.f93),(94,Tryz.f94),(95,Tryz.f95),(96,Tryz.f96),(97,Tryz.f97),(98,Tryz.f98),(99,Tryz.f99),(100,Tryz.f100),(101,Tryz.f101),(102,Tryz.f102),(103,Tryz.f103),(104,Tryz.f104),(105,Tryz.f105),(106,Tryz.f106),(107,Tryz.f107),(108,Tryz.f108),(109,Tryz.f109),(110,Tryz.f110),(111,Tryz.f111),(112,Tryz.f112),(113,Tryz.f113),(114,Tryz.f114),(115,Tryz.f115),(116,Tryz.f116),(117,Tryz.f117),(118,Tryz.f118),(119,Tryz.f119),(120,Tryz.f120),(121,Tryz.f121),(122,Tryz.f122),(123,Tryz.f123),(125,Tryz.f125),(126,Tryz.f126),(127,Tryz.f127),(128,Tryz.f128),(129,Tryz.f129),(130,Tryz.f130),(131,Tryz.f131),(133,Tryz.f133),(134,Tryz.f134),(135,Tryz.f135),(140,Tryz.f140),(141,Tryz.f141),(142,Tryz.f142),(143,Tryz.f143),(144,Tryz.f144),(145,Tryz.f145),(146,Tryz.f146),(147,Tryz.f147),(148,Tryz.f148),(149,Tryz.f149),(150,Tryz.f150),(151,Tryz.f151),(152,Tryz.f152),(153,Tryz.f153),(154,Tryz.f154),(155,Tryz.f155),(156,Tryz.f156),(157,Tryz.f157),(158,Tryz.f158),(159,Tryz.f159),(160,Tryz.f160),(161,Tryz.f161),(162,Tryz.f162),(163,Tryz.f163),(164,Tryz.f164),(165,Tryz.f165),(166,Tryz.f166),(167,Tryz.f167),(168,Tryz.f168),(169,Tryz.f169),(170,Tryz.f170),(171,Tryz.f171),(172,Tryz.f172),(175,Tryz.f175),(176,Tryz.f176),(177,Tryz.f177),(182,Tryz.f182),(183,Tryz.f183),(184,Tryz.f184),(185,Tryz.f185),(186,Tryz.f186),(187,Tryz.f187),(188,Tryz.f188),(189,Tryz.f189),(190,Tryz.f190),(191,Tryz.f191),(192,Tryz.f192),(193,Tryz.f193),(194,Tryz.f194),(195,Tryz.f195),(196,Tryz.f196),(197,Tryz.f197),(198,Tryz.f198),(199,Tryz.f199),(200,Tryz.f200),(201,Tryz.f201),(202,Tryz.f202),(203,Tryz.f203),(204,Tryz.f204),(205,Tryz.f205),(206,Tryz.f206),(207,Tryz.f207),(210,Tryz.f210),(213,Tryz.f213),(214,Tryz.f214),(215,Tryz.f215),(216,Tryz.f216),(217,Tryz.f217),(218,Tryz.f218),(219,Tryz.f219),(220,Tryz.f220),(221,Tryz.f221),(222,Tryz.f222),(223,Tryz.f223),(224,Tryz.f224),(225,Tryz.f225),(226,Tryz.f226),(227,Tryz.f227),(228,Tryz.f228),(229,Tryz.f229),(230,Tryz.f230),(231,Tryz.f231),(232,Tryz.f232),(233,Tryz.f233),(245,Tryz.f245),(246,Tryz.f246),(248,Tryz.f248),(249,Tryz.f249),(250,Tryz.f250),(251,Tryz.f251),(252,Tryz.f252),(255,Tryz.f255),(256,Tryz.f256),(257,Tryz.f257),(258,Tryz.f258),(259,Tryz.f259),(260,Tryz.f260),(261,Tryz.f261),(262,Tryz.f262),(263,Tryz.f263),(266,Tryz.f266),(267,Tryz.f267),(268,Tryz.f268),(269,Tryz.f269),(270,Tryz.f270),(271,Tryz.f271),(272,Tryz.f272),(273,Tryz.f273),(274,Tryz.f274),(280,Tryz.f280),(281,Tryz.f281),(282,Tryz.f282),(284,Tryz.f284),(288,Tryz.f288),(289,Tryz.f289),(290,Tryz.f290),(291,Tryz.f291),(292,Tryz.f292),(293,Tryz.f293),(294,Tryz.f294),(296,Tryz.f296),(297,Tryz.f297),(301,Tryz.f301),(308,Tryz.f308),(312,Tryz.f312),(313,Tryz.f313),(314,Tryz.f314),(315,Tryz.f315),(324,Tryz.f324),(343,Tryz.f343),(344,Tryz.f344),(345,Tryz.f345),(346,Tryz.f346),(347,Tryz.f347),(348,Tryz.f348),(349,Tryz.f349),(350,Tryz.f350),(351,Tryz.f351),(352,Tryz.f352),(353,Tryz.f353),(354,Tryz.f354),(355,Tryz.f355),(356,Tryz.f356),(357,Tryz.f357),(358,Tryz.f358),(359,Tryz.f359),(360,Tryz.f360),(361,Tryz.f361),(362,Tryz.f362)]
def rb:List Nat:=[65,69,93,94,101,108,113,115,117,125,127,140,147,149,185,208,210,241,245,260,269,289,292,295,303]
def lu:List Nat:=[185,241,260,269,289,292,295,303]
noncomputable def wy(b:List (Nat×xC))(a:List (Nat×wO))(c:List (String×xC):=[]):Ctx:=⟨tys,rb,lu,ym,b,a,sS,Ll,VC,c⟩
theorem mix:Tryz.prog.follows .mixedOrders=true:=by kernel_rfl
theorem SU:∀tid t,find tys tid=some t->Den Tryz.prog t tid:=aac (by kernel_rfl)
theorem Eg:∀tid,cI rb tid=true->(∀w,(isAgg tid).run Tryz.prog w=.ok false w)/\(∀w,(Go.sizeOf tid).run Tryz.prog w=.ok 1 w)/\∃z,(∀w,(zeroValue tid).run Tryz.prog w=.ok z w)/\z.oneCell'=true:=VS (by kernel_rfl)
theorem Eh:∀tid,cI lu tid=true->∃e,Tryz.prog.underlying tid=some (.pointer e):=VT (by kernel_rfl)
theorem KN:∀f a,find ym f=some a->Tryz.prog.funcs[f]?=some a:=aad ((ai Tryz.func3<|ai Tryz.func4<|ai Tryz.func5<|ai Tryz.func6<|ai Tryz.func7<|ai Tryz.func8<|ai Tryz.func9<|ai Tryz.func10<|ai Tryz.func11<|ai Tryz.func12<|ai Tryz.func13<|ai Tryz.func14<|ai Tryz.func15<|ai Tryz.func16<|ai Tryz.func17<|ai Tryz.func18<|ai Tryz.func19<|ai Tryz.func20<|ai Tryz.func21<|ai Tryz.func22<|ai Tryz.func23<|ai Tryz.func24<|ai Tryz.func25<|ai Tryz.func26<|ai Tryz.func27<|ai Tryz.func28<|ai Tryz.func29<|ai Tryz.func30<|ai Tryz.func31<|ai Tryz.func32<|ai Tryz.func33<|ai Tryz.func34<|ai Tryz.func35<|ai Tryz.func36<|ai Tryz.func37<|ai Tryz.func38<|ai Tryz.func39<|ai Tryz.func40<|ai Tryz.func41<|ai Tryz.func42<|ai Tryz.func43<|ai Tryz.func44<|ai Tryz.func45<|ai Tryz.func46<|ai Tryz.func47<|ai Tryz.func48<|ai Tryz.func49<|ai Tryz.func50<|ai Tryz.func51<|ai Tryz.func52<|ai Tryz.func53<|ai Tryz.func54<|ai Tryz.func55<|ai Tryz.func56<|ai Tryz.func57<|ai Tryz.func58<|ai Tryz.func59<|ai Tryz.func60<|ai Tryz.func61<|ai Tryz.func62<|ai Tryz.func63<|ai Tryz.func64<|ai Tryz.func65<|ai Tryz.func66<|ai Tryz.func67<|ai Tryz.func68<|ai Tryz.func69<|ai Tryz.func70<|ai Tryz.func71<|ai Tryz.func72<|ai Tryz.func73<|ai Tryz.func74<|ai Tryz.func75<|ai Tryz.func76<|ai Tryz.func77<|ai Tryz.func78<|ai Tryz.func79<|ai Tryz.func80<|ai Tryz.func81<|ai Tryz.func82<|ai Tryz.func85<|ai Tryz.func86<|ai Tryz.func89<|ai Tryz.func90<|ai Tryz.func91<|ai Tryz.func92<|ai Tryz.func93<|ai Tryz.func94<|ai Tryz.func95<|ai Tryz.func96<|ai Tryz.func97<|ai Tryz.func98<|ai Tryz.func99<|ai Tryz.func100<|ai Tryz.func101<|ai Tryz.func102<|ai Tryz.func103<|ai Tryz.func104<|ai Tryz.func105<|ai Tryz.func106<|ai Tryz.func107<|ai Tryz.func108<|ai Tryz.func109<|ai Tryz.func110<|ai Tryz.func111<|ai Tryz.func112<|ai Tryz.func113<|ai Tryz.func114<|ai Tryz.func115<|ai Tryz.func116<|ai Tryz.func117<|ai Tryz.func118<|ai Tryz.func119<|ai Tryz.func120<|ai Tryz.func121<|ai Tryz.func122<|ai Tryz.func123<|ai Tryz.func125<|ai Tryz.func126<|ai Tryz.func127<|ai Tryz.func128<|ai Tryz.func129<|ai Tryz.func130<|ai Tryz.func131<|ai Tryz.func133<|ai Tryz.func134<|ai Tryz.func135<|ai Tryz.func140<|ai Tryz.func141<|ai Tryz.func142<|ai Tryz.func143<|ai Tryz.func144<|ai Tryz.func145<|ai Tryz.func146<|ai Tryz.func147<|ai Tryz.func148<|ai Tryz.func149<|ai Tryz.func150<|ai Tryz.func151<|ai Tryz.func152<|ai Tryz.func153<|ai Tryz.func154<|ai Tryz.func155<|ai Tryz.func156<|ai Tryz.func157<|ai Tryz.func158<|ai Tryz.func159<|ai Tryz.func160<|ai Tryz.func161<|ai Tryz.func162<|ai Tryz.func163<|ai Tryz.func164<|ai Tryz.func165<|ai Tryz.func166<|ai Tryz.func167<|ai Tryz.func168<|ai Tryz.func169<|ai Tryz.func170<|ai Tryz.func171<|ai Tryz.func172<|ai Tryz.func175<|ai Tryz.func176<|ai Tryz.func177<|ai Tryz.func182<|ai Tryz.func183<|ai Tryz.func184<|ai Tryz.func185<|ai Tryz.func186<|ai Tryz.func187<|ai Tryz.func188<|ai Tryz.func189<|ai Tryz.func190<|ai Tryz.func191<|ai Tryz.func192<|ai Tryz.func193<|ai Tryz.func194<|ai Tryz.func195<|ai Tryz.func196<|ai Tryz.func197<|ai Tryz.func198<|ai Tryz.func199<|ai Tryz.func200<|ai Tryz.func201<|ai Tryz.func202<|ai Tryz.func203<|ai Tryz.func204<|ai Tryz.func205<|ai Tryz.func206<|ai Tryz.func207<|ai Tryz.func210<|ai Tryz.func213<|ai Tryz.func214<|ai Tryz.func215<|ai Tryz.func216<|ai Tryz.func217<|ai Tryz.func218<|ai Tryz.func219<|ai Tryz.func220<|ai Tryz.func221<|ai Tryz.func222<|ai Tryz.func223<|ai Tryz.func224<|ai Tryz.func225<|ai Tryz.func226<|ai Tryz.func227<|ai Tryz.func228<|ai Tryz.func229<|ai Tryz.func230<|ai Tryz.func231<|ai Tryz.func232<|ai Tryz.func233<|ai Tryz.func245<|ai Tryz.func246<|ai Tryz.func248<|ai Tryz.func249<|ai Tryz.func250<|ai Tryz.func251<|ai Tryz.func252<|ai Tryz.func255<|ai Tryz.func256<|ai Tryz.func257<|ai Tryz.func258<|ai Tryz.func259<|ai Tryz.func260<|ai Tryz.func261<|ai Tryz.func262<|ai Tryz.func263<|ai Tryz.func266<|ai Tryz.func267<|ai Tryz.func268<|ai Tryz.func269<|ai Tryz.func270<|ai Tryz.func271<|ai Tryz.func272<|ai Tryz.func273<|ai Tryz.func274<|ai Tryz.func280<|ai Tryz.func281<|ai Tryz.func282<|ai Tryz.func284<|ai Tryz.func288<|ai Tryz.func289<|ai Tryz.func290<|ai Tryz.func291<|ai Tryz.func292<|ai Tryz.func293<|ai Tryz.func294<|ai Tryz.func296<|ai Tryz.func297<|ai Tryz.func301<|ai Tryz.func308<|ai Tryz.func312<|ai Tryz.func313<|ai Tryz.func314<|ai Tryz.func315<|ai Tryz.func324<|ai Tryz.func343<|ai Tryz.func344<|ai Tryz.func345<|ai Tryz.func346<|ai Tryz.func347<|ai Tryz.func348<|ai Tryz.func349<|ai Tryz.func350<|ai Tryz.func351<|ai Tryz.func352<|ai Tryz.func353<|ai Tryz.func354<|ai Tryz.func355<|ai Tryz.func356<|ai Tryz.func357<|ai Tryz.func358<|ai Tryz.func359<|ai Tryz.func360<|ai Tryz.func361<|ai Tryz.func362 VU))
theorem Ei:∀tid a,find sS tid=some a->IM Tryz.prog tid a=true:=VV (by kernel_rfl)
theorem KO:∀tid e,find VC tid=some e->Tryz.prog.underlying tid=some (.slice e):=aae (by kernel_rfl)
theorem Ej(b:List (Nat×xC))(a:List (Nat×wO))(c:List (String×xC):=[]):fv Tryz.prog (wy b a c):=⟨SU,Eg,Eh,KN,Ei,KO⟩
noncomputable def cx0:Ctx:=⟨tys,rb,lu,ym,[],[],sS,[],VC,[]⟩
theorem FM:fv Tryz.prog cx0:=⟨SU,Eg,Eh,KN,Ei,KO⟩
theorem lR:fK Tryz.prog 28 (.clone .str):=by
 refine xe (P:=Tryz.prog) (cx:=cx0) (bf:=[2,5]) (e:=.str) (tid:=25) (fn:=Tryz.f28) (s0:=λl=>((uo (λ_=>none) [.data (.slice .str) l]).b4 2 { val:=.data (.slice .str) ([]:List (.str:Ty).den),tid:=0,buf:=true,ro:=false,lk:=false,aM:=0 }).put 2 (.whole 2 0)) mix FM (kg ak dF xV eM) Tryz.func28 (by kernel_rfl)
  (by rfl) rfl (by decide) (by decide) rfl rfl rfl rfl rfl rfl (λl=>by rfl) (λl=>rfl) (λl=>rfl) (λl=>rfl) (λl=>by rfl) (λl a=>?_)
 have key:∀m:List (.str:Ty).den,fits (len m)=true->aj (fits<|plus (len ([]:List (.str:Ty).den))<|len m) (some<|app [] m) none=some m:=by
  intro m c;have e:plus (len ([]:List (.str:Ty).den)) (len m)=len m:=by simp[plus,len]
  rw[e,c];rfl
 exact s9 (b:=aj (fits<|plus (len ([]:List (.str:Ty).den))<|len (α:=(.str:Ty).den) l) (some<|app (α:=(.str:Ty).den) [] l) none) (by rfl) (key l a)
theorem px:fK Tryz.prog 60 (.clone wG):=by
 refine xe (P:=Tryz.prog) (cx:=cx0) (bf:=[2,5]) (e:=wG) (tid:=26) (fn:=Tryz.f60) (s0:=λl=>((uo (λ_=>none) [.data (.slice wG) l]).b4 2 { val:=.data (.slice wG) ([]:List (wG:Ty).den),tid:=0,buf:=true,ro:=false,lk:=false,aM:=0 }).put 2 (.whole 2 0)) mix FM (kg ak dF xV eM) Tryz.func60 (by kernel_rfl)
  (by rfl) rfl (by decide) (by decide) rfl rfl rfl rfl rfl rfl (λl=>by rfl) (λl=>rfl) (λl=>rfl) (λl=>rfl) (λl=>by rfl) (λl a=>?_)
 have key:∀m:List (wG:Ty).den,fits (len m)=true->aj (fits<|plus (len ([]:List (wG:Ty).den))<|len m) (some<|app [] m) none=some m:=by
  intro m c;have e:plus (len ([]:List (wG:Ty).den)) (len m)=len m:=by simp[plus,len]
  rw[e,c];rfl
 exact s9 (b:=aj (fits<|plus (len ([]:List (wG:Ty).den))<|len (α:=(wG:Ty).den) l) (some<|app (α:=(wG:Ty).den) [] l) none) (by rfl) (key l a)
theorem py:fK Tryz.prog 85 (.clone qP):=by
 refine xe (P:=Tryz.prog) (cx:=cx0) (bf:=[2,5]) (e:=qP) (tid:=24) (fn:=Tryz.f85) (s0:=λl=>((uo (λ_=>none) [.data (.slice qP) l]).b4 2 { val:=.data (.slice qP) ([]:List (qP:Ty).den),tid:=0,buf:=true,ro:=false,lk:=false,aM:=0 }).put 2 (.whole 2 0)) mix FM (kg ak dF xV eM) Tryz.func85 (by kernel_rfl)
  (by rfl) rfl (by decide) (by decide) rfl rfl rfl rfl rfl rfl (λl=>by rfl) (λl=>rfl) (λl=>rfl) (λl=>rfl) (λl=>by rfl) (λl a=>?_)
 have key:∀m:List (qP:Ty).den,fits (len m)=true->aj (fits<|plus (len ([]:List (qP:Ty).den))<|len m) (some<|app [] m) none=some m:=by
  intro m c;have e:plus (len ([]:List (qP:Ty).den)) (len m)=len m:=by simp[plus,len]
  rw[e,c];rfl
 exact s9 (b:=aj (fits<|plus (len ([]:List (qP:Ty).den))<|len (α:=(qP:Ty).den) l) (some<|app (α:=(qP:Ty).den) [] l) none) (by rfl) (key l a)
theorem dD:fK Tryz.prog 350 (.clone zc):=by
 refine xe (P:=Tryz.prog) (cx:=cx0) (bf:=[2,5]) (e:=zc) (tid:=39) (fn:=Tryz.f350) (s0:=λl=>((uo (λ_=>none) [.data (.slice zc) l]).b4 2 { val:=.data (.slice zc) ([]:List (zc:Ty).den),tid:=0,buf:=true,ro:=false,lk:=false,aM:=0 }).put 2 (.whole 2 0)) mix FM (kg ak dF xV eM) Tryz.func350 (by kernel_rfl)
  (by rfl) rfl (by decide) (by decide) rfl rfl rfl rfl rfl rfl (λl=>by rfl) (λl=>rfl) (λl=>rfl) (λl=>rfl) (λl=>by rfl) (λl a=>?_)
 have key:∀m:List (zc:Ty).den,fits (len m)=true->aj (fits<|plus (len ([]:List (zc:Ty).den))<|len m) (some<|app [] m) none=some m:=by
  intro m c;have e:plus (len ([]:List (zc:Ty).den)) (len m)=len m:=by simp[plus,len]
  rw[e,c];rfl
 exact s9 (b:=aj (fits<|plus (len ([]:List (zc:Ty).den))<|len (α:=(zc:Ty).den) l) (some<|app (α:=(zc:Ty).den) [] l) none) (by rfl) (key l a)
theorem sO:fK Tryz.prog 83 (.own .str (.pair (.int .i64) zd) true ej):=by
 have a:Den Tryz.prog .str 9:=by
  show eZ Tryz.prog .str false 9 0 []=true
  kernel_rfl
 obtain⟨f,g,b,c,h,i⟩:=a.info;exact Dx (e:=.str) (ρ:=(⟨λx=>if x=29 then 136 else if x=30 then 137 else 83,λx=>if x=24 then 25 else if x=9 then 9 else if x=3 then 3 else if x=4 then 4 else 0,λx=>x⟩:Go.Shelf.Ren)) (nm := "slices.Insert[[]string,string]") ⟨mix,Tryz.func83.trans (congrArg some<|by kernel_rfl),
  λd w=>run_callFunc_extern (e:=Extern.SlicesOverlaps.overlaps #[25,25] #[4]) Tryz.func136 (by kernel_rfl) (by kernel_rfl) (by kernel_rfl) (by kernel_rfl) d w,
  by kernel_rfl,by kernel_rfl,by kernel_rfl,λw=>by simp[Go.sizeOf,b,c]<;>kernel_rfl,by simp[b,c]<;>kernel_rfl⟩ (by decide) a (by kernel_rfl) (by decide) (by decide)
theorem oR:fK Tryz.prog 84 (.own qP (.pair (.int .i64) Mi) true cY):=by
 have a:Den Tryz.prog qP 30:=by
  show eZ Tryz.prog qP false 30 0 []=true
  kernel_rfl
 obtain⟨f,g,b,c,h,i⟩:=a.info;exact Dx (e:=qP) (ρ:=(⟨λx=>if x=29 then 138 else if x=30 then 139 else 84,λx=>if x=24 then 24 else if x=9 then 30 else if x=3 then 3 else if x=4 then 4 else 0,λx=>x⟩:Go.Shelf.Ren)) (nm := "slices.Insert[[]cooperage/api.Layer,cooperage/api.Layer]") ⟨mix,Tryz.func84.trans (congrArg some<|by kernel_rfl),
  λd w=>run_callFunc_extern (e:=Extern.SlicesOverlaps.overlaps #[24,24] #[4]) Tryz.func138 (by kernel_rfl) (by kernel_rfl) (by kernel_rfl) (by kernel_rfl) d w,
  by kernel_rfl,by kernel_rfl,by kernel_rfl,λw=>by simp[Go.sizeOf,b,c]<;>kernel_rfl,by simp[b,c]<;>kernel_rfl⟩ (by decide) a (by kernel_rfl) (by decide) (by decide)
theorem sP:fK Tryz.prog 87 (.own .str Mj true ek):=by
 have a:Den Tryz.prog .str 9:=by
  show eZ Tryz.prog .str false 9 0 []=true
  kernel_rfl
 obtain⟨h,c,b,d,f,g⟩:=a.info;exact VY (e:=.str) (ρ:=(⟨λx=>if x=29 then 0 else if x=30 then 0 else 87,λx=>if x=24 then 25 else if x=9 then 9 else if x=3 then 3 else if x=4 then 4 else 0,λx=>x⟩:Go.Shelf.Ren)) (nm := "slices.Delete[[]string,string]") (z:=c) ⟨mix,Tryz.func87.trans (congrArg some<|by kernel_rfl),
  by kernel_rfl,by kernel_rfl,by kernel_rfl,λw=>by simp[Go.sizeOf,b,d]<;>kernel_rfl,λw=>Gp b f w⟩ (by decide) g (by decide)
theorem oS:fK Tryz.prog 88 (.own qP Mj true cZ):=by
 have a:Den Tryz.prog qP 30:=by
  show eZ Tryz.prog qP false 30 0 []=true
  kernel_rfl
 obtain⟨h,c,b,d,f,g⟩:=a.info;exact VY (e:=qP) (ρ:=(⟨λx=>if x=29 then 0 else if x=30 then 0 else 88,λx=>if x=24 then 24 else if x=9 then 30 else if x=3 then 3 else if x=4 then 4 else 0,λx=>x⟩:Go.Shelf.Ren)) (nm := "slices.Delete[[]cooperage/api.Layer,cooperage/api.Layer]") (z:=c) ⟨mix,Tryz.func88.trans (congrArg some<|by kernel_rfl),
  by kernel_rfl,by kernel_rfl,by kernel_rfl,λw=>by simp[Go.sizeOf,b,d]<;>kernel_rfl,λw=>Gp b f w⟩ (by decide) g (by decide)
theorem oT:fK Tryz.prog 132 (.own wG (.pair (.int .i64) Vg) true ep):=by
 have a:Den Tryz.prog wG 58:=by
  show eZ Tryz.prog wG false 58 0 []=true
  kernel_rfl
 obtain⟨f,g,b,c,h,i⟩:=a.info;exact Dx (e:=wG) (ρ:=(⟨λx=>if x=29 then 178 else if x=30 then 179 else 132,λx=>if x=24 then 26 else if x=9 then 58 else if x=3 then 3 else if x=4 then 4 else 0,λx=>x⟩:Go.Shelf.Ren)) (nm := "slices.Insert[[]cooperage/api.Mount,cooperage/api.Mount]") ⟨mix,Tryz.func132.trans (congrArg some<|by kernel_rfl),
  λd w=>run_callFunc_extern (e:=Extern.SlicesOverlaps.overlaps #[26,26] #[4]) Tryz.func178 (by kernel_rfl) (by kernel_rfl) (by kernel_rfl) (by kernel_rfl) d w,
  by kernel_rfl,by kernel_rfl,by kernel_rfl,λw=>by simp[Go.sizeOf,b,c]<;>kernel_rfl,by simp[b,c]<;>kernel_rfl⟩ (by decide) a (by kernel_rfl) (by decide) (by decide)
theorem mD:fK Tryz.prog 173 (.own .str .unit false ck):=aag Tryz.func173 (by kernel_rfl) (by kernel_rfl) Tryz.slices_Sort_string Tryz.slices_Sort_string_none
theorem kG:fK Tryz.prog 174 (.own .str .unit true cm):=RD Tryz.func174 (by kernel_rfl) (by kernel_rfl) Tryz.slices_Compact_string Tryz.slices_Compact_string_empty Uj
theorem dy:fK Tryz.prog 363 (.own zc (.pair (.int .i64) tU) true aO):=by
 have a:Den Tryz.prog zc 89:=by
  show eZ Tryz.prog zc false 89 0 []=true
  kernel_rfl
 obtain⟨f,g,b,c,h,i⟩:=a.info;exact Dx (e:=zc) (ρ:=(⟨λx=>if x=29 then 364 else if x=30 then 365 else 363,λx=>if x=24 then 39 else if x=9 then 89 else if x=3 then 3 else if x=4 then 4 else 0,λx=>x⟩:Go.Shelf.Ren)) (nm := "slices.Insert[[]cooperage/api.TreeNode,cooperage/api.TreeNode]") ⟨mix,Tryz.func363.trans (congrArg some<|by kernel_rfl),
  λd w=>run_callFunc_extern (e:=Extern.SlicesOverlaps.overlaps #[39,39] #[4]) Tryz.func364 (by kernel_rfl) (by kernel_rfl) (by kernel_rfl) (by kernel_rfl) d w,
  by kernel_rfl,by kernel_rfl,by kernel_rfl,λw=>by simp[Go.sizeOf,b,c]<;>kernel_rfl,by simp[b,c]<;>kernel_rfl⟩ (by decide) a (by kernel_rfl) (by decide) (by decide)
theorem yn:∀p∈Ll,fK Tryz.prog p.1 p.2:=(gy wx<|gy tT<|gy lR<|gy px<|gy py<|gy dD<|gy sO<|gy oR<|gy sP<|gy oS<|gy oT<|gy mD<|gy kG<|gy dy xV)
theorem Ek(b:List (Nat×xC))(a:List (Nat×wO))(c:List (String×xC):=[]):Nr (wy b a c):=Ru (cx:=wy b a c) (show(ym.all λp=>T8 p.2)=true by kernel_rfl)
def cT:fD:=vk
theorem An{b:List (Nat×xC)}{a:List (Nat×wO)}{c:List (String×xC)}(i:∀p∈b,Holds Tryz.prog cT p.1 p.2)(e:∀p∈a,eQ Tryz.prog cT (p.1 / 2) p.2)(j:∀p∈c,kY Tryz.prog cT p.1 p.2){f:Nat}{l:Func}{A R:Ty}{d:A.den->Option R.den}(k:find ym f=some l)(n:l.body.isSome=true)
  (o:∀x,sem (wy b a c) 12 pA f A R x=d x):Holds Tryz.prog cT f ⟨A,R,d⟩:=by
 obtain⟨m,g⟩:=Lh.1 n;exact Dv mix (Ej b a c) (kg i e yn j) (Ek b a c) (f:=f) k g (λx y h=>by rw[o];exact h)
theorem FN{b:List (Nat×xC)}{a:List (Nat×wO)}{c:List (String×xC)}(i:∀p∈b,Holds Tryz.prog cT p.1 p.2)(e:∀p∈a,eQ Tryz.prog cT (p.1 / 2) p.2)(j:∀p∈c,kY Tryz.prog cT p.1 p.2){f:Nat}{l:Func}{m:List Bool}{A:Ty}{U:OT}{R:Ty}{d:A.den×U.den->Option (R.den×U.den)}(k:find ym f=some l)(o:l.body.isSome=true)
  (q:∀x,WN (wy b a c) 12 pA f m A U R x=d x):eQ Tryz.prog cT f ⟨m,A,U,R,d⟩:=by
 obtain⟨n,g⟩:=Lh.1 o;exact Bw mix (Ej b a c) (kg i e yn j) (Ek b a c) (f:=f) k g (λx y h=>by rw[q];exact h)
theorem A6{d:List (Nat×xC)}{a:List (Nat×wO)}{e:List (String×xC)}(g:∀p∈d,Holds Tryz.prog cT p.1 p.2)(c:∀p∈a,eQ Tryz.prog cT (p.1 / 2) p.2)(h:∀p∈e,kY Tryz.prog cT p.1 p.2)(j:Func){f:Nat}{A R:Ty}{b:A.den->Option R.den}(i:find ym f=some j:=by rfl)(k:j.body.isSome=true:=by kernel_rfl)
 (l:∀x,sem (wy d a e) 12 pA f A R x=b x:=by intro x;kernel_rfl):Holds Tryz.prog cT f ⟨A,R,b⟩:=An g c h i k l
theorem al{b:List (Nat×xC)}(c:∀p∈b,Holds Tryz.prog cT p.1 p.2)(e:Func){f:Nat}{A R:Ty}{a:A.den->Option R.den}(d:find ym f=some e:=by rfl)(g:e.body.isSome=true:=by kernel_rfl)
 (h:∀x,sem (wy b [] []) 12 pA f A R x=a x:=by intro x;kernel_rfl):Holds Tryz.prog cT f ⟨A,R,a⟩:=An c dF eM d g h
theorem qD{d:List (Nat×xC)}{a:List (Nat×wO)}{e:List (String×xC)}(g:∀p∈d,Holds Tryz.prog cT p.1 p.2)(c:∀p∈a,eQ Tryz.prog cT (p.1 / 2) p.2)(h:∀p∈e,kY Tryz.prog cT p.1 p.2)(j:Func){f:Nat}{k:List Bool}{A:Ty}{U:OT}{R:Ty}{b:A.den×U.den->Option (R.den×U.den)}(i:find ym f=some j:=by rfl)(l:j.body.isSome=true:=by kernel_rfl)
 (m:∀x,WN (wy d a e) 12 pA f k A U R x=b x:=by intro x;kernel_rfl):eQ Tryz.prog cT f ⟨k,A,U,R,b⟩:=FN g c h i l m
abbrev aw:=Holds Tryz.prog cT
theorem SX:aw 47 ⟨zd,jI,kM⟩:=al ak Tryz.f47
theorem FO:aw 48 ⟨abq,jI,dY⟩:=al ak Tryz.f48
theorem SY:aw 15 ⟨(.pair YH8 .unit),jI,pH⟩:=al (ag SX<|ag FO ak) Tryz.f15
theorem SZ:aw 16 ⟨Mi,jI,vC⟩:=al ak Tryz.f16
theorem S0:aw 4 ⟨HF,jI,vD⟩:=al (ag SY<|ag SZ ak) Tryz.f4
theorem BJ:aw 164 ⟨wA,Vh,lY⟩:=al ak Tryz.f164
theorem Mk:aw 197 ⟨Vh,wA,oz⟩:=al (ag BJ ak) Tryz.f197
theorem BK:aw 158 ⟨ga,(.pair .str jI),oA⟩:=al (ag Mk ak) Tryz.f158
theorem yp:aw 102 ⟨ga,jI,fQ⟩:=al (ag BK ak) Tryz.f102
theorem Ap:aw 159 ⟨ga,jI,nj⟩:=al ak Tryz.f159
theorem wB:aw 103 ⟨zd,jI,l6⟩:=al (ag Ap ak) Tryz.f103
theorem Ml:aw 104 ⟨ga,wA,rJ⟩:=al (ag BK ak) Tryz.f104
theorem Mm:aw 49 ⟨(.pair qP .unit),jI,oI⟩:=al (ag yp<|ag wB<|ag Ml ak) Tryz.f49
theorem Mn:aw 161 ⟨.unit,abp,wg⟩:=al ak Tryz.f161
theorem Mo:aw 162 ⟨ga,ga,rH⟩:=al ak Tryz.f162
theorem P0:aw 198 ⟨(.pair (.int .u32) wA),(.pair (.int .u32) .unit),bS⟩:=al ak Tryz.f198
theorem KU:aw 199 ⟨.unit,(.pair (.arr 64<|.int .u32) .unit),uE⟩:=al ak Tryz.f199
theorem Mp:aw 163 ⟨(.pair (.arr 8<|.int .u32) ga),abp,rI⟩:=al (ag P0<|ag KU ak) Tryz.f163
theorem S1:aw 107 ⟨ga,(.pair (.arr 32<|.int .u8) .unit),vv⟩:=al (ag Mn<|ag Mo<|ag Mp ak) Tryz.f107
theorem S2:aw 108 ⟨ga,ga,vx⟩:=al (ag BJ ak) Tryz.f108
theorem CD:aw 54 ⟨ga,ga,mY⟩:=al (ag S1<|ag S2 ak) Tryz.f54
theorem BL:aw 105 ⟨abq,jI,l7⟩:=al (ag CD<|ag Ap ak) Tryz.f105
theorem Mq:aw 50 ⟨(.pair Mh .unit),jI,oJ⟩:=al (ag yp<|ag wB<|ag BL ak) Tryz.f50
theorem S3:aw 51 ⟨(.pair PY .unit),jI,sy⟩:=al (ag yp<|ag wB<|ag BL ak) Tryz.f51
theorem Mr:aw 52 ⟨(.pair YH8 .unit),(.pair (.slice .str) zd),rU⟩:=al ak Tryz.f52
theorem Ms:aw 17 ⟨(.pair (.int .i64)<|.pair YH8 .unit),wA,l8⟩:=al (ag Mm<|ag Mq<|ag S3<|ag Mr ak) Tryz.f17
theorem P1:aw 149 ⟨ga,jI,tH⟩:=al ak Tryz.f149
theorem P2:aw 150 ⟨ga,jI,tI⟩:=al ak Tryz.f150
theorem Em:aw 226 ⟨ga,(.pair (.int .i64) jI),mr⟩:=al ak Tryz.f226
theorem KV:aw 192 ⟨ga,wA,fc⟩:=al (ag Em ak) Tryz.f192
theorem S4:aw 193 ⟨ga,wA,vy⟩:=al ak Tryz.f193
theorem P3:aw 194 ⟨ga,(.pair .str jI),nR⟩:=al ak Tryz.f194
theorem Mt:aw 227 ⟨wG,jI,lZ⟩:=al ak Tryz.f227
theorem Vi:aw 228 ⟨Mj,jI,ph⟩:=al ak Tryz.f228
theorem S5:aw 195 ⟨(.pair YK wA),jI,sw⟩:=al (ag Mt<|ag Vi ak) Tryz.f195
theorem P4:aw 151 ⟨ga,(.pair YK wA),nS⟩:=al (ag KV<|ag S4<|ag P3<|ag S5 ak) Tryz.f151
theorem Mu:aw 152 ⟨wA,wA,l4⟩:=al ak Tryz.f152
theorem Mv:aw 95 ⟨ga,(.pair SW jI),rS⟩:=al (ag P1<|ag P2<|ag P4<|ag Mu ak) Tryz.f95
theorem En:aw 45 ⟨ga,(.pair SW wA),ld⟩:=al (ag Mv ak) Tryz.f45
theorem jT:aw 143 ⟨ga,zd,dR⟩:=al ak Tryz.f143
theorem Eo:aw 144 ⟨zd,ga,nM⟩:=al ak Tryz.f144
theorem r5:aw 90 ⟨ga,PZ,jP⟩:=al (ag jT<|ag Eo ak) Tryz.f90
theorem KW:aw 190 ⟨PZ,jI,nc⟩:=al ak Tryz.f190
theorem Ep:aw 145 ⟨ga,(.pair (.int .i64) ga),qg⟩:=al (ag KW ak) Tryz.f145
theorem KX:aw 191 ⟨ga,jI,qf⟩:=al ak Tryz.f191
theorem KY:aw 146 ⟨ga,jI,uH⟩:=al (ag jT<|ag KX ak) Tryz.f146
theorem KZ:aw 147 ⟨ga,jI,qh⟩:=al ak Tryz.f147
theorem vQ:aw 91 ⟨(.pair zc .unit),jI,kL⟩:=al (ag r5<|ag Ep<|ag KY<|ag KZ ak) Tryz.f91
theorem Er:aw 101 ⟨(.pair (.pair YK ga) ga),(.pair zc .unit),ql⟩:=al ak Tryz.f101
theorem Mw:aw 153 ⟨ga,wG,rL⟩:=al (ag jT<|ag Eo<|ag KY ak) Tryz.f153
theorem yq:aw 154 ⟨PZ,ga,nO⟩:=al ak Tryz.f154
theorem K0:aw 155 ⟨ga,jI,ky⟩:=al (ag vQ<|ag jT<|ag yq ak) Tryz.f155
theorem Es:aw 96 ⟨(.pair (.pair YK ga) .unit),(.pair (.int .i64)<|.pair .str jI),nP⟩:=al (ag r5<|ag vQ<|ag Er<|ag Ep<|ag Mw<|ag yq<|ag K0 ak) Tryz.f96
theorem BM:aw 94 ⟨(.pair SW .unit),jI,oE⟩:=al (ag Es ak) Tryz.f94
theorem BN:aw 44 ⟨ga,wA,oF⟩:=al (ag En<|ag BM ak) Tryz.f44
theorem P5:aw 160 ⟨(.pair (.slice qP) ga),wA,xY⟩:=al ak Tryz.f160
theorem BO:aw 106 ⟨(.pair (.slice qP) ga),(.pair (.slice qP) wA),oK⟩:=al (ag P5 ak) Tryz.f106
theorem Mx:aw 53 ⟨Mi,wA,rV⟩:=al (ag BO ak) Tryz.f53
theorem Et:aw 19 ⟨(.pair Tg ga),wA,lf⟩:=al ak Tryz.f19
theorem P6:aw 109 ⟨(.pair Tg wA),ga,tM⟩:=al ak Tryz.f109
theorem yr:aw 148 ⟨KT,wA,gP⟩:=al ak Tryz.f148
theorem GG:aw 92 ⟨KT,jI,nf⟩:=al (ag yr ak) Tryz.f92
theorem yX:aw 93 ⟨PZ,wA,lF⟩:=al (ag jT ak) Tryz.f93
theorem rz:aw 43 ⟨tU,jI,la⟩:=al (ag r5<|ag vQ<|ag GG<|ag yX ak) Tryz.f43
theorem My:aw 196 ⟨PZ,jI,rM⟩:=al (ag jT ak) Tryz.f196
theorem s6:aw 156 ⟨(.pair (.slice zc)<|.pair .str jI),tU,ja⟩:=al (ag My ak) Tryz.f156
theorem K3:aw 97 ⟨KT,tU,qi⟩:=al (ag rz<|ag s6 ak) Tryz.f97
theorem Mz:aw 98 ⟨KT,tU,rQ⟩:=al (ag rz<|ag s6 ak) Tryz.f98
theorem GH:aw 100 ⟨(.pair (.slice zc)<|.pair zc .unit),CC,ng⟩:=al (ag rz<|ag r5<|ag vQ<|ag GG<|ag yX<|ag yr<|ag s6 ak) Tryz.f100
theorem P7:aw 157 ⟨KT,(.pair zc jI),tE⟩:=al (ag rz<|ag yr ak) Tryz.f157
theorem P8:aw 99 ⟨KT,CC,tG⟩:=al (ag GH<|ag jT<|ag yq<|ag P7 ak) Tryz.f99
theorem S6:aw 46 ⟨(.pair (.slice zc)<|.pair SW .unit),CC,vA⟩:=al (ag rz<|ag BM<|ag Es<|ag K3<|ag Mz<|ag P8<|ag GH<|ag Er ak) Tryz.f46
theorem BP:aw 13 ⟨KT,CC,oG⟩:=al (ag rz<|ag BN<|ag En<|ag S6 ak) Tryz.f13
theorem S7:aw 110 ⟨zd,CC,vE⟩:=al (ag BP ak) Tryz.f110
theorem P9:aw 55 ⟨(.pair Tg ga),CC,tN⟩:=al (ag Et<|ag BO<|ag P6<|ag S7 ak) Tryz.f55
theorem K4:aw 18 ⟨HF,jI,qq⟩:=al (ag BN<|ag Mx<|ag CD<|ag P9 ak) Tryz.f18
theorem S8:aw 5 ⟨HF,jI,sz⟩:=al (ag Ms<|ag K4<|ag Et ak) Tryz.f5
theorem s7:aw 27 ⟨(.pair qP .unit),ga,je⟩:=al ak Tryz.f27
theorem dA:Holds Tryz.prog cT 28 ⟨zd,zd,cg⟩:=by
 refine vt (P:=Tryz.prog) (cx:=wy [] []) (bf:=[5]) (e:=.str) (tid:=25) (fn:=Tryz.f28) (s0:=λl=>(uo (λ_=>none) [.data (.slice .str) l]).put 2 (.data (.slice .str) ([]:List (.str:Ty).den))) mix (Ej [] []) (kg ak dF yn eM) Tryz.func28 (by kernel_rfl)
  (by rfl) rfl (by decide) (by decide) rfl rfl rfl rfl rfl rfl (λl=>by rfl) (λl=>rfl) (λl=>rfl) (λl=>rfl) (λl=>by rfl) (λl a=>?_)
 have key:∀m:List (.str:Ty).den,fits (len m)=true->aj (fits<|plus (len ([]:List (.str:Ty).den))<|len m) (some ((app [] m,()):(Ty.pair (.slice .str) .unit).den)) none=some (m,()):=by
  intro m c;have e:plus (len ([]:List (.str:Ty).den)) (len m)=len m:=by simp[plus,len]
  rw[e,c];rfl
 exact s9 (b:=aj (fits<|plus (len ([]:List (.str:Ty).den))<|len (α:=(.str:Ty).den) l) (some ((app (α:=(.str:Ty).den) [] l,()):(Ty.pair (.slice .str) .unit).den)) none) (by rfl) (key l a)
theorem wC:aw 29 ⟨HF,zd,l9⟩:=al ak Tryz.f29
theorem wD:aw 7 ⟨(.pair Tg ga),(.pair qP<|.pair .str jI),fR⟩:=al (ag s7<|ag dA<|ag wC ak) Tryz.f7
theorem Bi:aw 32 ⟨(.pair (.slice .str)<|.pair (.int .i64) ga),zd,jY⟩:=al (ag dA ak) Tryz.f32
theorem iG:Holds Tryz.prog cT 85 ⟨Mi,Mi,pj⟩:=by
 refine vt (P:=Tryz.prog) (cx:=wy [] []) (bf:=[5]) (e:=qP) (tid:=24) (fn:=Tryz.f85) (s0:=λl=>(uo (λ_=>none) [.data (.slice qP) l]).put 2 (.data (.slice qP) ([]:List (qP:Ty).den))) mix (Ej [] []) (kg ak dF yn eM) Tryz.func85 (by kernel_rfl)
  (by rfl) rfl (by decide) (by decide) rfl rfl rfl rfl rfl rfl (λl=>by rfl) (λl=>rfl) (λl=>rfl) (λl=>rfl) (λl=>by rfl) (λl a=>?_)
 have key:∀m:List (qP:Ty).den,fits (len m)=true->aj (fits<|plus (len ([]:List (qP:Ty).den))<|len m) (some ((app [] m,()):(Ty.pair (.slice qP) .unit).den)) none=some (m,()):=by
  intro m c;have e:plus (len ([]:List (qP:Ty).den)) (len m)=len m:=by simp[plus,len]
  rw[e,c];rfl
 exact s9 (b:=aj (fits<|plus (len ([]:List (qP:Ty).den))<|len (α:=(qP:Ty).den) l) (some ((app (α:=(qP:Ty).den) [] l,()):(Ty.pair (.slice qP) .unit).den)) none) (by rfl) (key l a)
theorem yu:aw 33 ⟨(.pair (.slice qP)<|.pair (.int .i64)<|.pair qP .unit),Mi,gR⟩:=al (ag iG ak) Tryz.f33
theorem Eu:aw 8 ⟨(.pair Tg<|.pair qP ga),HF,jB⟩:=al (ag wC<|ag Bi<|ag yu ak) Tryz.f8
theorem iH:Holds Tryz.prog cT 60 ⟨Vg,Vg,pn⟩:=by
 refine vt (P:=Tryz.prog) (cx:=wy [] []) (bf:=[5]) (e:=wG) (tid:=26) (fn:=Tryz.f60) (s0:=λl=>(uo (λ_=>none) [.data (.slice wG) l]).put 2 (.data (.slice wG) ([]:List (wG:Ty).den))) mix (Ej [] []) (kg ak dF yn eM) Tryz.func60 (by kernel_rfl)
  (by rfl) rfl (by decide) (by decide) rfl rfl rfl rfl rfl rfl (λl=>by rfl) (λl=>rfl) (λl=>rfl) (λl=>rfl) (λl=>by rfl) (λl a=>?_)
 have key:∀m:List (wG:Ty).den,fits (len m)=true->aj (fits<|plus (len ([]:List (wG:Ty).den))<|len m) (some ((app [] m,()):(Ty.pair (.slice wG) .unit).den)) none=some (m,()):=by
  intro m c;have e:plus (len ([]:List (wG:Ty).den)) (len m)=len m:=by simp[plus,len]
  rw[e,c];rfl
 exact s9 (b:=aj (fits<|plus (len ([]:List (wG:Ty).den))<|len (α:=(wG:Ty).den) l) (some ((app (α:=(wG:Ty).den) [] l,()):(Ty.pair (.slice wG) .unit).den)) none) (by rfl) (key l a)
theorem yv:aw 64 ⟨(.pair (.slice wG)<|.pair (.int .i64)<|.pair wG .unit),Vg,bA⟩:=al (ag iH ak) Tryz.f64
theorem BQ:aw 22 ⟨(.pair Tg wG),HF,ma⟩:=al (ag iH<|ag yv ak) Tryz.f22
theorem yw:aw 38 ⟨(.pair (.slice .str) wA),zd,gS⟩:=al (ag dA ak) Tryz.f38
theorem vi:aw 39 ⟨(.pair (.slice qP) wA),Mi,fC⟩:=al (ag iG ak) Tryz.f39
theorem yY:aw 11 ⟨(.pair Tg ga),HF,jf⟩:=al (ag BQ<|ag s7<|ag wC<|ag yw<|ag vi ak) Tryz.f11
theorem vR:eQ Tryz.prog cT 213 ⟨[true,false],jI,(.pair (.ref 0<|.zf acW) .unit),(.pair (.pair YK ga) jI),eg⟩:=qD ak dF eM Tryz.f213
theorem yx:aw 248 ⟨(.pair .str Vh),ga,gO⟩:=al ak Tryz.f248
theorem pP:aw 249 ⟨(.pair .str Vh),ga,eI⟩:=al ak Tryz.f249
theorem qG:aw 250 ⟨ga,(.pair (.arr 256 .bool) jI),e8⟩:=al ak Tryz.f250
theorem eO:eQ Tryz.prog cT 284 ⟨[true,false],Vh,(.pair (.ref 0<|.zf<|.arr 256 .bool) .unit),jI,dH⟩:=qD ak dF eM Tryz.f284
theorem xz:eQ Tryz.prog cT 251 ⟨[false,true],ga,(.pair (.ref 0<|.zf<|.arr 256 .bool) .unit),ga,pG⟩:=qD ak (gh eO dF) eM Tryz.f251
theorem oU:eQ Tryz.prog cT 252 ⟨[false,true],ga,(.pair (.ref 0<|.zf<|.arr 256 .bool) .unit),ga,fO⟩:=qD ak (gh eO dF) eM Tryz.f252
theorem qH:aw 215 ⟨PZ,ga,km⟩:=A6 (ag yx<|ag pP<|ag qG ak) (gh xz<|gh oU<|gh eO dF) eM Tryz.f215
theorem BR:aw 214 ⟨ga,jI,rK⟩:=al (ag qH ak) Tryz.f214
theorem yZ:aw 288 ⟨.unit,(.pair (.arr 11 Mj) .unit),lB⟩:=al ak Tryz.f288
theorem S9:aw 255 ⟨wG,ga,bU⟩:=al (ag yZ ak) Tryz.f255
theorem tl:aw 289 ⟨PZ,ga,ec⟩:=A6 (ag pP<|ag qG ak) (gh oU<|gh eO dF) eM Tryz.f289
theorem CE:aw 290 ⟨ga,(.pair (.int .i64) jI),dm⟩:=al ak Tryz.f290
theorem HG:aw 256 ⟨ga,wA,cN⟩:=al (ag tl<|ag CE ak) Tryz.f256
theorem Qa:aw 257 ⟨ga,wA,tC⟩:=al (ag yZ ak) Tryz.f257
theorem MA:aw 258 ⟨ga,(.pair .str jI),jO⟩:=al (ag gG<|ag tl ak) Tryz.f258
theorem Ta:aw 291 ⟨Mj,jI,kK⟩:=al ak Tryz.f291
theorem K5:aw 292 ⟨wG,jI,mZ⟩:=al (ag gG ak) Tryz.f292
theorem Tb:aw 259 ⟨(.pair YK wA),jI,pF⟩:=al (ag Ta<|ag K5 ak) Tryz.f259
theorem BS:aw 216 ⟨ga,(.pair YK wA),eU⟩:=al (ag S9<|ag HG<|ag Qa<|ag MA<|ag Tb ak) Tryz.f216
theorem K6:aw 217 ⟨wA,wA,uG⟩:=al ak Tryz.f217
theorem Ev:eQ Tryz.prog cT 183 ⟨[true],.unit,(.pair (.ref 0<|.zf acW) .unit),(.pair (.pair YK ga) jI),bI⟩:=qD (ag BR<|ag qH<|ag BS<|ag K6 ak) (gh vR dF) eM Tryz.f183
theorem FP:eQ Tryz.prog cT 184 ⟨[true],.unit,(.pair (.ref 0<|.zf acW) .unit),jI,hW⟩:=qD ak dF eM Tryz.f184
theorem K7:aw 140 ⟨ga,(.pair SW wA),e9⟩:=A6 (ag BR<|ag qH<|ag BS<|ag K6 ak) (gh Ev<|gh FP<|gh vR dF) eM Tryz.f140
theorem yy:aw 269 ⟨PZ,ga,nN⟩:=al ak Tryz.f269
theorem xA:aw 271 ⟨(.pair zc .unit),jI,dW⟩:=al (ag lr<|ag mf<|ag oQ<|ag yy ak) Tryz.f271
theorem HH:aw 270 ⟨ga,jI,lI⟩:=al (ag xA ak) Tryz.f270
theorem MB:aw 345 ⟨KT,tU,rP⟩:=al (ag lr<|ag wz<|ag dE ak) Tryz.f345
theorem qW:aw 343 ⟨(.pair ga tU),tU,iN⟩:=al (ag MB ak) Tryz.f343
theorem tm:aw 344 ⟨(.pair ga tU),CC,tg⟩:=al ak Tryz.f344
theorem Qb:aw 355 ⟨KT,tU,tF⟩:=al (ag lr<|ag wz<|ag dE ak) Tryz.f355
theorem pQ:aw 353 ⟨(.pair ga tU),tU,gi⟩:=al (ag Qb ak) Tryz.f353
theorem qX:aw 354 ⟨(.pair ga tU),CC,qR⟩:=al ak Tryz.f354
theorem qY:aw 357 ⟨(.pair .unit tU),tU,qS⟩:=al ak Tryz.f357
theorem tn:aw 358 ⟨(.pair .unit tU),CC,ti⟩:=al ak Tryz.f358
theorem qZ:aw 359 ⟨(.pair (.pair zc .unit) tU),tU,qT⟩:=al ak Tryz.f359
theorem Tc:aw 361 ⟨KT,(.pair zc jI),vz⟩:=al (ag lr<|ag yo ak) Tryz.f361
theorem tp:aw 360 ⟨(.pair (.pair zc .unit) tU),CC,jW⟩:=al (ag mf<|ag oQ<|ag yy<|ag Tc<|ag Vf ak) Tryz.f360
theorem K8:aw 225 ⟨(.pair (.pair YK ga) .unit),(.pair YE jI),qj⟩:=al (ag mf<|ag BI<|ag El<|ag yy<|ag HH<|ag xA<|ag qW<|ag tm<|ag pQ<|ag qX<|ag qY<|ag tn<|ag qZ<|ag tp ak) Tryz.f225
theorem y3:aw 189 ⟨(.pair SW .unit),(.pair (.slice YE) jI),lJ⟩:=al (ag K8 ak) Tryz.f189
theorem MC:kY Tryz.prog cT "cooperage/overlay.clears" ⟨(.pair YE tU),tU,qk⟩:=(mT qW (λv w=>by kernel_rfl) rfl (mT pQ (λv w=>by kernel_rfl) rfl (mT qY (λv w=>by kernel_rfl) rfl (mT qZ (λv w=>by kernel_rfl) rfl I8))))
theorem Td:kY Tryz.prog cT "cooperage/overlay.puts" ⟨(.pair YE tU),CC,uI⟩:=(mT tm (λv w=>by kernel_rfl) rfl (mT qX (λv w=>by kernel_rfl) rfl (mT tn (λv w=>by kernel_rfl) rfl (mT tp (λv w=>by kernel_rfl) rfl I8))))
theorem MD:aw 142 ⟨(.pair (.slice zc)<|.pair SW .unit),CC,rR⟩:=A6 (ag lr<|ag y3 ak) dF (Rz MC<|Rz Td eM) Tryz.f142
theorem HI:aw 89 ⟨KT,CC,lL⟩:=al (ag K7<|ag lr<|ag MD ak) Tryz.f89
theorem ME:aw 42 ⟨zd,CC,oH⟩:=al (ag HI ak) Tryz.f42
theorem yz:aw 12 ⟨(.pair Tg ga),CC,eB⟩:=al (ag wD<|ag dA<|ag ME ak) Tryz.f12
theorem MF:aw 20 ⟨SV,(.pair qP .unit),jQ⟩:=al (ag CD ak) Tryz.f20
theorem GI:aw 111 ⟨(.pair (.int .i64) Mj),jI,sE⟩:=al ak Tryz.f111
theorem Aq:aw 200 ⟨ga,(.pair .str jI),mW⟩:=al (ag gG ak) Tryz.f200
theorem r8:aw 166 ⟨ga,jI,mb⟩:=al (ag Aq ak) Tryz.f166
theorem u5:aw 167 ⟨ga,jI,qw⟩:=al (ag r8 ak) Tryz.f167
theorem y4:Holds Tryz.prog cT 124 ⟨zd,jI,jg⟩:=PW lR mD kG
theorem y5:aw 202 ⟨ga,jI,sV⟩:=al (ag qH ak) Tryz.f202
theorem u6:aw 168 ⟨zd,jI,qx⟩:=al (ag y4<|ag y5 ak) Tryz.f168
theorem K9:aw 169 ⟨ga,wA,cQ⟩:=al (ag Aq<|ag tk ak) Tryz.f169
theorem FQ:aw 113 ⟨(.pair qP .unit),jI,ij⟩:=al (ag GI<|ag r8<|ag u5<|ag u6<|ag K9 ak) Tryz.f113
theorem Ar:aw 312 ⟨.unit,abp,sv⟩:=al ak Tryz.f312
theorem As:aw 313 ⟨.unit,(.pair (.arr 64<|.int .u32) .unit),zF⟩:=al ak Tryz.f313
theorem wE:aw 324 ⟨(.pair (.int .u32) wA),(.pair (.int .u32) .unit),jN⟩:=al ak Tryz.f324
theorem vS:aw 315 ⟨(.pair (.int .u32) wA),(.pair (.int .u32) .unit),b5⟩:=al (ag wE ak) Tryz.f315
theorem u7:aw 314 ⟨(.pair (.arr 64<|.int .u8) .unit),(.pair (.arr 64<|.int .u32) .unit),qc⟩:=al (ag vS ak) Tryz.f314
theorem xB:eQ Tryz.prog cT 280 ⟨[true,false],ga,(.pair (.ref 0<|.zf aeC) .unit),.unit,fE⟩:=qD (ag Ar<|ag As<|ag u7<|ag vS ak) dF eM Tryz.f280
theorem FR:eQ Tryz.prog cT 281 ⟨[true],.unit,(.pair (.ref 0<|.zf aeC) .unit),(.pair (.arr 32<|.int .u8) .unit),nL⟩:=qD (ag Ar<|ag As<|ag u7<|ag vS ak) (gh xB dF) eM Tryz.f281
theorem YF:aw 245 ⟨ga,(.pair (.arr 32<|.int .u8) .unit),AK⟩:=A6 (ag Ar<|ag As<|ag u7<|ag vS ak) (gh xB<|gh FR dF) eM Tryz.f245
theorem Qc:aw 246 ⟨ga,ga,tB⟩:=al ak Tryz.f246
theorem Te:aw 210 ⟨ga,ga,vw⟩:=al (ag YF<|ag Qc ak) Tryz.f210
theorem GJ:aw 175 ⟨PZ,jI,kJ⟩:=al (ag Te ak) Tryz.f175
theorem HJ:aw 205 ⟨(.pair SV .unit),jI,yO⟩:=al (ag GJ<|ag y5 ak) Tryz.f205
theorem CF:aw 207 ⟨(.pair SV .unit),ga,pq⟩:=al ak Tryz.f207
theorem y6:aw 171 ⟨(.pair .str abq),jI,sW⟩:=al (ag HJ<|ag CF ak) Tryz.f171
theorem FT:aw 115 ⟨(.pair Mh .unit),jI,xk⟩:=al (ag r8<|ag u5<|ag u6<|ag y6 ak) Tryz.f115
theorem La:aw 117 ⟨(.pair PY .unit),jI,zI⟩:=al (ag r8<|ag u5<|ag u6<|ag y6 ak) Tryz.f117
theorem Ew:aw 119 ⟨(.pair qP .unit),ga,ff⟩:=al ak Tryz.f119
theorem Ex:aw 121 ⟨(.pair Mh .unit),ga,fg⟩:=al ak Tryz.f121
theorem Ey:aw 123 ⟨(.pair PY .unit),ga,fh⟩:=al ak Tryz.f123
theorem Lb:aw 125 ⟨(.pair YH8 .unit),zd,qy⟩:=al ak Tryz.f125
theorem Lc:aw 56 ⟨(.pair (.int .i64)<|.pair YH8 .unit),wA,et⟩:=al (ag GI<|ag FQ<|ag FT<|ag La<|ag Ew<|ag Ex<|ag Ey<|ag y4<|ag Lb ak) Tryz.f56
theorem MG:aw 40 ⟨(.pair (.slice qP) ga),(.pair (.slice qP) wA),Bz⟩:=al (ag dA ak) Tryz.f40
theorem MH:aw 126 ⟨Mi,wA,BA⟩:=al (ag MG ak) Tryz.f126
theorem HK:aw 176 ⟨ga,wA,gw⟩:=al (ag K7<|ag y3 ak) Tryz.f176
theorem MI:aw 127 ⟨(.pair Tg wA),jI,eW⟩:=al (ag yz<|ag GJ<|ag HK ak) Tryz.f127
theorem Ez:aw 57 ⟨HF,jI,fi⟩:=al (ag MH<|ag MI ak) Tryz.f57
theorem HL:aw 131 ⟨(.pair Mh .unit),ga,yP⟩:=al ak Tryz.f131
theorem Qd:aw 58 ⟨HF,jI,DP⟩:=al (ag s7<|ag HL ak) Tryz.f58
theorem MJ:aw 21 ⟨HF,wA,jR⟩:=al (ag Lc<|ag Ez<|ag Qd ak) Tryz.f21
theorem Qe:aw 23 ⟨(.pair Tg ga),jI,qv⟩:=al ak Tryz.f23
theorem HM:aw 72 ⟨(.pair wG .unit),ga,yN⟩:=al ak Tryz.f72
theorem Ld:aw 24 ⟨(.pair Tg ga),wA,uK⟩:=al (ag HM ak) Tryz.f24
theorem jH:aw 76 ⟨(.pair (.slice SV) abq),jI,fj⟩:=al ak Tryz.f76
theorem HN:aw 74 ⟨(.pair PY<|.pair PY .unit),jI,yQ⟩:=al (ag dz<|ag jH ak) Tryz.f74
theorem HO:aw 78 ⟨(.pair Mh<|.pair Mh .unit),jI,yR⟩:=al (ag dz<|ag jH ak) Tryz.f78
theorem HP:aw 80 ⟨(.pair qP<|.pair qP .unit),jI,jh⟩:=al (ag dz ak) Tryz.f80
theorem pz:aw 81 ⟨(.pair (.slice wG) Vg),jI,iB⟩:=al ak Tryz.f81
theorem Qf:aw 25 ⟨(.pair Tg HF),jI,n8⟩:=al (ag HN<|ag dz<|ag HO<|ag HP<|ag pz ak) Tryz.f25
theorem MK:aw 6 ⟨.unit,jI,gZ⟩:=al (ag wD<|ag Eu<|ag yY<|ag yz<|ag MF<|ag MJ<|ag BQ<|ag Qe<|ag Ld<|ag Qf ak) Tryz.f6
theorem mE:aw 34 ⟨(.pair (.slice .str) zd),jI,eh⟩:=al ak Tryz.f34
theorem u9:aw 9 ⟨(.pair (.slice qP) Mi),jI,iA⟩:=al (ag mE ak) Tryz.f9
theorem vT:aw 86 ⟨(.pair (.slice SV) abq),jI,gm⟩:=al ak Tryz.f86
theorem EA:aw 35 ⟨(.pair (.slice PY)<|.pair (.slice PY) .unit),jI,mx⟩:=al (ag mE<|ag vT ak) Tryz.f35
theorem CG:aw 36 ⟨(.pair (.slice Mh)<|.pair (.slice Mh) .unit),jI,lg⟩:=al (ag mE<|ag vT ak) Tryz.f36
theorem CH:aw 37 ⟨(.pair (.slice wG) Vg),jI,lh⟩:=al ak Tryz.f37
theorem Qg:aw 10 ⟨(.pair Tg HF),jI,tO⟩:=al (ag u9<|ag mE<|ag EA<|ag CG<|ag CH ak) Tryz.f10
theorem Qh:aw 14 ⟨(.pair (.slice zc) tU),jI,tD⟩:=al ak Tryz.f14
theorem EB:aw 3 ⟨(.pair Tg<|.pair qP ga),jI,jC⟩:=al (ag S0<|ag S8<|ag MK<|ag wD<|ag Eu<|ag u9<|ag Qg<|ag yY<|ag yz<|ag BP<|ag Qh ak) Tryz.f3
end Go.Proofs.YtpmecibilnjeiaaGreatDoor
