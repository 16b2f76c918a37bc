/- The layer's functions keep their contracts: each comes to its plain definition, by the ghost interpreter. -/
import Derived.Test.YtdpbdiikloedbaaGreatDoorFirst
import Derived.Test.YtdpbdiikloedbaaGreatDoorBld
set_option linter.unusedSectionVars false
namespace Go.Proofs.YtdpbdiikloedbaaGreatDoor
open Go Go.Ge
set_option maxRecDepth 100000
variable [Lp]
open First
def cy(s:List (Nat×Nat))(m:List Nat):Option CV:=some ⟨s,m,false⟩
def cz(s:List (Nat×Nat)):Option CV:=some ⟨s,[],false⟩
def fp(a:List (Option CV)):tq:=⟨a,[]⟩
abbrev Eu:Ty:=(.pair (.slice<|.pair .str<|.pair (.slice .str)<|.pair .str<|.pair .str<|.pair .str<|.pair (.slice<|.pair .str<|.pair .str<|.pair .str .unit) .unit)<|.pair (.slice<|.pair .str<|.pair (.slice .str)<|.pair .str<|.pair .str<|.pair (.slice<|.pair .str<|.pair .str<|.pair .str .unit) .unit)<|.pair (.slice<|.pair .str<|.pair .str<|.pair (.slice .str)<|.pair .str<|.pair (.int .i64)<|.pair (.int .i64)<|.pair .bool .unit)<|.pair (.slice .str)<|.pair (.slice<|.pair .str<|.pair (.int .i64) .unit) .unit)
abbrev sV:Ty:=(.pair .str<|.pair .str<|.pair (.slice .str)<|.pair .str<|.pair (.int .i64)<|.pair (.int .i64)<|.pair .bool .unit)
abbrev zk:Ty:=(.pair .str<|.pair (.int .i64)<|.pair (.int .i64)<|.pair .str<|.pair .str .unit)
abbrev fA:Ty:=(.pair .str .unit)
abbrev vq:Ty:=(.pair (.int .i64) .unit)
abbrev Zo:Ty:=(.pair .str<|.pair (.int .i64)<|.pair (.int .i64)<|.pair (.int .i64)<|.pair (.int .i64)<|.pair (.int .i64)<|.pair (.int .i64) fA)
abbrev YH6:Ty:=(.pair .str<|.pair .str<|.pair (.slice<|.pair .str<|.pair .str fA) .unit)
abbrev nW:Ty:=(.pair .bool .unit)
abbrev YH8:Ty:=(.pair (.int .i64)<|.pair (.slice sV)<|.pair (.slice<|.pair .str<|.pair (.slice .str) YH6)<|.pair (.slice<|.pair .str<|.pair (.slice .str)<|.pair .str YH6) .unit)
abbrev vi:Ty:=(.pair .str vq)
abbrev yD:Ty:=(.pair (.slice .str) .unit)
abbrev ud:Ty:=(.pair (.slice zk) .unit)
abbrev VS:Ty:=(.pair (.pair (.int .i64)<|.pair .str<|.pair (.int .i64) fA) .unit)
abbrev Zh:Ty:=(.alt 260 fA<|.alt 262 fA<|.alt 264 .unit<|.alt 266 (.pair zk .unit) .zj)
abbrev Bn:Ty:=(.pair (.slice zk) vq)
abbrev K2:Ty:=(.pair (.slice zk) fA)
abbrev aca:Ty:=(.pair .str<|.pair (.slice .str)<|.pair .str YH6)
abbrev acb:Ty:=(.pair (.arr 8<|.int .u32) .unit)
abbrev adK:Ty:=(.pair .bool<|.pair .str<|.pair (.int .i64)<|.pair .bool nW)
abbrev Qd:Ty:=(.pair (.slice sV) .unit)
abbrev Mp:Ty:=(.pair .str fA)
abbrev Qe:Ty:=(.pair (.int .i64) vq)
abbrev Tq:Ty:=(.slice<|.pair Zo fA)
abbrev acd:Ty:=(.pair .str<|.pair (.slice .str) YH6)
abbrev VT:Ty:=(.slice<|.pair .str yD)
abbrev VU:Ty:=(.pair (.int .u8) .unit)
abbrev Zi:Ty:=(.pair (.slice vi) .unit)
abbrev ae7:Ty:=(.pair (.pair .bool acb)<|.pair (.arr 64<|.int .u8) vq)
abbrev Qf:Ty:=(.pair Eu .unit)
abbrev ace:Ty:=(.slice<|.pair .str Mp)
noncomputable def py:Nat->tq
 | 4=>fp [none,none,none,none,cz [(6,4),(20,47)],none,cz [(6,4),(25,47)],none]
 | 5=>fp [cz [(2,4),(3,3)],none,none]
 | 8=>⟨[none,cy [] [8]],[36]⟩
 | 11=>fp [none,cz [(2,4),(3,3)],none,none,cz [(2,4),(4,3)],none,cz [(6,4),(7,3)],none,none,cz [(2,4),(8,3)],none,none]
 | 12=>fp [none,none]
 | 15=>fp [none]
 | 16=>⟨[none,cy [(8,25),(9,3)] [8],none],[8]⟩
 | 17=>fp [none,none]
 | 18=>fp [none,cz [(4,4),(5,3)],none,none]
 | 19=>fp [cz [(2,4),(3,3)],none,none,cz [(2,4),(4,3)],none,none,cz [(2,4),(5,3)],none,none]
 | 20=>fp [cz [(2,4),(3,3)],none,none]
 | 22=>fp [none]
 | 25=>⟨[cy [] [6000008],none,none],[5000000,7000032]⟩
 | 27=>⟨[none],[7]⟩
 | 28=>⟨[none],[7000032]⟩
 | 29=>fp [none]
 | 30=>fp [cy [(3,32)] [2]]
 | 32=>fp [none,cy [(6,32),(21,3)] [5],none,none]
 | 35=>fp [none,cy [(4,9),(5,32),(17,3),(0,999999)] [0],none,none]
 | 36=>⟨[none],[7000032]⟩
 | 37=>⟨[cy [(4,24),(5,32),(6,24),(7,9)] [6],cy [(4,24),(5,32),(6,24),(7,9),(13,3)] [6],none,none,none,none],[6]⟩
 | 38=>⟨[none,cz [(4,32)]],[7000032]⟩
 | 39=>fp [none]
 | 40=>fp [none]
 | 43=>fp [cz [(7,3)]]
 | 46=>fp [none]
 | 51=>⟨[some ⟨[(1,9),(4,24),(5,32),(6,24),(7,3)],[6],true⟩,none,none,none,none],[6]⟩
 | 54=>fp [none,cz [(4,4),(5,3)],none,none]
 | 55=>fp [none,cz [(4,4),(5,3)],none,none]
 | 56=>fp [none,cz [(4,4),(5,3)],none,none]
 | 57=>fp [none,cz [(4,4),(5,3)],none,none]
 | 58=>fp [none,cz [(4,4),(5,3)],none,none]
 | 59=>fp [none,cz [(4,32),(6,3)],none,none,cz [(4,32),(7,3)],none,none,cz [(4,32),(8,3)],none,none,cz [(4,32),(11,3)],none,none,cz [(4,32),(12,3)],none,cz [(4,32),(13,3)],none,none]
 | 60=>fp [none,cz [(2,4),(3,3)],none,none,none]
 | 61=>fp [cz [(4,3),(5,3)],none,none]
 | 63=>fp [none]
 | 65=>fp [none,none,none]
 | 66=>⟨[none,none,cy [(7,25),(27,3)] [7],none,cy [(7,25)] [7],none,none],[7]⟩
 | 67=>fp [none]
 | 68=>fp [cz [(2,47),(3,32),(4,47),(5,3)],none,none]
 | 69=>fp [none,cz [(2,4),(3,3)],none,none]
 | 70=>fp [none]
 | 71=>fp [none,none,cz [(0,47),(6,3)],none,cz [(0,47)],cz [(0,47)],cz [(0,47),(4,47),(5,32),(10,3)],none,none,none,none]
 | 72=>fp [cz [(2,4),(3,3)],none,none]
 | 73=>fp [cz [(2,4),(3,3)],none,none]
 | 74=>fp [none]
 | 76=>⟨[none],[5]⟩
 | 82=>⟨[cy [(5,93),(6,0),(7,4)] [4,5,6],none,none],[5,6]⟩
 | 83=>⟨[cy [(2,107),(3,4),(4,107),(11,3)] [4],none,none],[4]⟩
 | 87=>⟨[cy [] [5,6],cy [(20,3)] [5,6],none,cy [] [5,6],cy [(36,3)] [5,6],none,cy [] [5,6],cy [(52,3)] [5,6],none,cy [] [5,6,12]],[5]⟩
 | 91=>⟨[none,cy [(8,25),(28,3)] [8,2000026],none],[8]⟩
 | 92=>fp [none,cz [(2,32),(12,3)],none,none]
 | 93=>⟨[none,none,cy [(8,22),(30,3),(6,999999),(28,999999)] [6,8,28,2000008],none,cy [(4,22),(5,27),(8,22),(40,3),(38,999999)] [8,38],none,none],[25]⟩
 | 95=>fp [cy [(9,3)] [3],none]
 | 96=>⟨[cy [(4,3),(8,3)] [1],none,none],[7000003]⟩
 | 98=>⟨[],[8]⟩
 | 100=>⟨[],[8]⟩
 | 101=>fp [cz [(2,4),(3,3)],none,none,cz [(2,4),(4,3)],none,none]
 | 102=>fp [cz [(2,4),(3,3)],none,none]
 | 108=>fp [cz [(4,3),(5,3)],none,none]
 | 109=>fp [cy [(5,3)] [3],none,cy [(7,3)] [6],none]
 | 110=>⟨[cy [(3,100),(4,3)] [3],none],[3]⟩
 | 111=>fp [none,cz [(4,4),(5,3)],none,none]
 | 115=>⟨[cy [(4,25),(5,25),(6,3)] [4,5],none,cy [(4,25),(5,25),(7,3)] [4,5],none,cy [(4,25),(5,25),(8,3)] [4,5],none],[4,5]⟩
 | 116=>fp [cz [(2,32),(3,3)],none,none]
 | 127=>⟨[none],[9]⟩
 | 128=>⟨[none],[9]⟩
 | 129=>⟨[cy [(7,26)] [4,7,2000007],cz [(8,3)]],[11]⟩
 | 130=>fp [cy [(4,3),(8,3)] [1],none,none]
 | 133=>fp [none]
 | 134=>fp [none,none,none]
 | 136=>fp [cz [(4,3),(7,3)],none,none,none,none,none]
 | 137=>⟨[none,some ⟨[(0,9),(2,93),(3,4),(4,93)],[4],true⟩,none,none,none],[4]⟩
 | 138=>fp [none,none,none,none]
 | 139=>fp [none]
 | 140=>fp [none]
 | 141=>fp [cz [(0,47),(4,47),(5,32),(7,9),(8,3)],none,none,none]
 | 142=>⟨[none,none,none,some ⟨[(8,22),(0,999999)],[0],true⟩,some ⟨[(8,22),(0,999999)],[0],true⟩,none,cz [(12,3)],none],[10,11]⟩
 | 151=>fp [cy [(4,3),(8,3)] [1],none,none]
 | 152=>fp [none,none,none]
 | 154=>fp [none,none,none,none]
 | 156=>fp [none,none,none,none,none]
 | 158=>fp [cz [(4,3),(8,3)],none,none]
 | 161=>fp [cy [(2,3),(3,3),(0,999999)] [0,3999999],none]
 | 162=>fp [cz [(2,47),(3,32),(4,47),(11,3)],none,none]
 | 163=>fp [none]
 | 164=>fp [none,none,none,none]
 | 166=>fp [none,none,none]
 | 167=>fp [none,cy [(1,9)] [0],none,cy [] [0]]
 | 168=>fp [cy [] [3],cy [] [3],none,cy [(26,3)] [5],none,cy [(41,3)] [7],none]
 | 172=>⟨[none],[5]⟩
 | 173=>fp [cz [(2,4),(3,3)],none,none]
 | 176=>fp [cy [(3,100)] [0,3],none,cy [(3,100),(5,3)] [3],none]
 | 177=>fp [cy [(6,3)] [5],none,cy [(7,3)] [5],none,cy [(12,3)] [11],none,cy [(17,3)] [11],none]
 | 178=>fp [none]
 | 180=>fp [none,none]
 | 181=>fp [cz [(2,4),(3,3)],none,none]
 | 182=>fp [cy [(4,3),(8,3)] [1],none,none]
 | 183=>fp [cy [(4,3),(8,3)] [1],none,none]
 | 184=>fp [cy [(4,3),(8,3)] [1],none,none]
 | 189=>fp [none,cy [(5,3),(6,3),(0,999999)] [0,1],none,cy [(5,3),(0,999999)] [0]]
 | 190=>⟨[none],[5]⟩
 | 193=>⟨[],[8]⟩
 | 195=>⟨[none,cy [(3,25),(4,9),(5,3)] [3],none,cy [(3,25),(4,9)] [3]],[3]⟩
 | 196=>fp [cz [(3,9),(4,3)],none,cz [(3,9)]]
 | 197=>fp [none,none,none]
 | 198=>fp [cz [(2,4),(4,3)],none,none]
 | 199=>fp [cz [(2,4),(3,3)],none,none]
 | 200=>fp [cz [(4,3),(5,3)],none,none]
 | 201=>fp [cz [(2,4),(3,3)],none,none]
 | 202=>fp [none,cz [(2,4),(3,3)],none,none]
 | 203=>fp [none,cy [] [11],cz [(74,4)],cy [] [11],cy [] [11],cy [] [11],none]
 | 204=>fp [cz [(0,3)],none]
 | 205=>⟨[cy [(5,25),(6,3)] [5],none,cy [(5,25)] [5],none],[5]⟩
 | 206=>fp [none,none]
 | 207=>fp [cz [(2,4),(4,9),(5,3)],none,none]
 | 208=>⟨[cy [(7,47),(8,3)] [7],none,cy [(7,47)] [7]],[7]⟩
 | 209=>fp [none]
 | 225=>fp [cz [(0,9)],none]
 | 226=>fp [cz [(0,9)],none]
 | 227=>fp [cy [(3,4),(4,3)] [2],none,none]
 | 228=>fp [cy [(0,9)] [1],none,none]
 | 229=>fp [cy [(0,9)] [1],none,none]
 | 234=>fp [none,cz [(4,9)],cz [(71,4)],cy [] [10],cy [] [10],cy [] [10],none]
 | 236=>⟨[cy [(2,9),(3,32),(4,25),(11,3)] [4],none,cy [(2,9),(3,32),(4,25)] [4],none,none],[4]⟩
 | 237=>fp [none,none,none]
 | 238=>fp [none]
 | 240=>⟨[cy [(3,47),(6,9),(18,3)] [3],none],[3]⟩
 | 241=>fp [none,none,none,none,none]
 | 244=>fp [cy [(6,3),(13,3)] [2],none,none,none,none]
 | 245=>fp [none]
 | 246=>fp [none,none,none,none,none]
 | 248=>fp [cy [] [0],cz [(6,196),(7,196),(8,196),(9,196),(10,196),(11,196),(12,196),(13,196),(74,3)],none,cy [(143,3)] [0],none]
 | 255=>⟨[none,cy [(2,9),(3,4),(4,100),(5,3)] [4],none,none],[4]⟩
 | 258=>fp [cz [(2,4),(3,3)],none,none]
 | 259=>fp [cz [(3,3)],none,none,cz [(2,3),(4,3)],none,none,none]
 | 260=>fp [cz [(3,3),(4,3)],none,cz [(3,3)]]
 | 261=>fp [cz [(2,9),(3,4),(4,3)],none,none,cz [(2,9),(3,4),(5,3)],none,none]
 | 262=>fp [cz [(5,4)]]
 | 263=>fp [none,cz [(4,4),(7,3)],none,none]
 | 277=>fp [none]
 | 278=>fp [cz [(4,3),(12,3)],none,cz [(6,5)]]
 | 280=>fp [none,none,none,none]
 | 281=>fp [cz [(2,4),(6,3)],none,none]
 | 284=>fp [cz [(4,3),(5,3)],none,none]
 | 285=>fp [cz [(9,196),(10,3)],none,none,cz [(4,3),(9,196),(11,3)],none,none]
 | 288=>fp [cy [(9,3),(10,3)] [1,2],none,cz [(9,3),(10,3)]]
 | 292=>fp [cy [(12,3)] [3],none,cy [(22,3)] [3],none,cy [(7,3)] [3],none]
 | 296=>fp [cz [(2,3),(3,3)],none,none]
 | 299=>fp [none,cz [(2,3),(3,4),(4,3),(5,3)],none,none]
 | 300=>fp [cz [(4,4),(5,3)],none,none]
 | 307=>fp [none,none,none]
 | 308=>fp [none,cz [(2,3),(3,4),(4,3),(18,3)],none,none]
 | 311=>fp [none]
 | 312=>fp [cz [(4,196),(5,3)],none,cz [(6,196),(7,196),(8,3)],none,cz [(6,196)]]
 | 349=>⟨[none],[9]⟩
 | 352=>fp [none,cy [(5,3),(6,3),(0,999999)] [0,1],none,cy [(5,3),(0,999999)] [0]]
 | 353=>⟨[none],[5]⟩
 | 355=>fp [none,cz [(4,4),(13,3)],none,none]
 | 356=>fp [cy [(4,3),(8,3)] [1],none,none]
 | 364=>fp [cz [(1,47),(4,47),(5,32),(6,9),(25,3)],none,none,none]
 | 365=>fp [none,none]
 | 366=>⟨[none,none,none,none],[55]⟩
 | _=>⟨[],[]⟩
def sZ:List (Nat×List na):=[(171,[.self,.buf (.int .u8) 5]),(264,[])]
def Wd:List (Nat×Nat):=[(100,5),(102,61)]
noncomputable def Lo:List (Nat×Xk):=[(148,.str 171 5),(212,.chk 171),(76,.clone .str),(172,.clone sV),(190,.clone vi),(353,.clone zk),(77,(.own .str .unit false dH)),(78,(.own .str .unit true dT)),(170,(.own .str (.pair (.int .i64) yD) true eh)),(171,(.own sV (.pair (.int .i64) Qd) true da)),(187,(.own .str Qe true ej)),(188,(.own sV Qe true db)),(256,(.own vi (.pair (.int .i64) Zi) true ep)),(367,(.own zk (.pair (.int .i64) ud) true aS))]
noncomputable def tys:List (Nat×Ty):=[(3,(.int .i64)),(4,.bool),(5,(.int .u8)),(9,.str),(21,(.int .i32)),(22,(.slice aca)),(23,(.slice acd)),(24,(.slice sV)),(25,(.slice .str)),(26,(.slice vi)),(28,Eu),(32,(.int .i64)),(34,(.pair (.int .i64)<|.pair .str<|.pair (.int .i64) fA)),(39,(.arr 2 .str)),(44,sV),(47,(.slice zk)),(55,YH8),(64,VT),(78,ace),(80,acd),(83,aca),(85,vi),(93,Tq),(98,zk),(100,(.slice<|.int .u8)),(107,(.slice Zh)),(112,(.pair .str yD)),(120,(.arr 32<|.int .u8)),(130,(.arr 4<|.int .i64)),(158,Zo),(160,(.pair Zo fA)),(165,(.pair .str Mp)),(166,(.int .u64)),(187,Zh),(196,(.int .u32)),(197,(.arr 8<|.int .u32)),(199,(.pair .bool acb)),(200,(.arr 64<|.int .u8)),(202,ae7),(235,(.int .u64)),(240,(.int .i64)),(251,(.arr 256 .bool)),(257,adK),(260,fA),(262,fA),(266,(.pair zk .unit)),(272,(.arr 8<|.int .u8)),(275,(.arr 64<|.int .u32)),(286,(.int .u64)),(313,Qe),(314,(.arr 11 Qe)),(318,(.arr 256<|.int .u8)),(320,(.pair (.int .u8) VU)),(321,(.arr 16<|.pair (.int .u8) VU))]
noncomputable def yA:List (Nat×Func):=[(4,Tryz.f4),(5,Tryz.f5),(7,Tryz.f7),(8,Tryz.f8),(10,Tryz.f10),(11,Tryz.f11),(12,Tryz.f12),(13,Tryz.f13),(14,Tryz.f14),(15,Tryz.f15),(16,Tryz.f16),(17,Tryz.f17),(18,Tryz.f18),(19,Tryz.f19),(20,Tryz.f20),(21,Tryz.f21),(22,Tryz.f22),(23,Tryz.f23),(24,Tryz.f24),(25,Tryz.f25),(26,Tryz.f26),(27,Tryz.f27),(28,Tryz.f28),(29,Tryz.f29),(30,Tryz.f30),(31,Tryz.f31),(32,Tryz.f32),(33,Tryz.f33),(34,Tryz.f34),(35,Tryz.f35),(36,Tryz.f36),(37,Tryz.f37),(38,Tryz.f38),(39,Tryz.f39),(40,Tryz.f40),(41,Tryz.f41),(42,Tryz.f42),(43,Tryz.f43),(46,Tryz.f46),(51,Tryz.f51),(53,Tryz.f53),(54,Tryz.f54),(55,Tryz.f55),(56,Tryz.f56),(57,Tryz.f57),(58,Tryz.f58),(59,Tryz.f59),(60,Tryz.f60),(61,Tryz.f61),(62,Tryz.f62),(63,Tryz.f63),(64,Tryz.f64),(65,Tryz.f65),(66,Tryz.f66),(67,Tryz.f67),(68,Tryz.f68),(69,Tryz.f69),(70,Tryz.f70),(71,Tryz.f71),(72,Tryz.f72),(73,Tryz.f73),(74,Tryz.f74),(76,Tryz.f76),(79,Tryz.f79),(80,Tryz.f80),(81,Tryz.f81),(82,Tryz.f82),(83,Tryz.f83),(84,Tryz.f84),(85,Tryz.f85),(86,Tryz.f86),(87,Tryz.f87),(88,Tryz.f88),(89,Tryz.f89),(90,Tryz.f90),(91,Tryz.f91),(92,Tryz.f92),(93,Tryz.f93),(94,Tryz.f94),(95,Tryz.f95),(96,Tryz.f96),(97,Tryz.f97),(98,Tryz.f98),(99,Tryz.f99),(100,Tryz.f100),(101,Tryz.f101),(102,Tryz.f102),(108,Tryz.f108),(109,Tryz.f109),(110,Tryz.f110),(111,Tryz.f111),(112,Tryz.f112),(113,Tryz.f113),(114,Tryz.f114),(115,Tryz.f115),(116,Tryz.f116),(117,Tryz.f117),(118,Tryz.f118),(119,Tryz.f119),(120,Tryz.f120),(121,Tryz.f121),(122,Tryz.f122),(123,Tryz.f123),(124,Tryz.f124),(125,Tryz.f125),(126,Tryz.f126),(127,Tryz.f127),(128,Tryz.f128),(129,Tryz.f129),(130,Tryz.f130),(131,Tryz.f131),(132,Tryz.f132),(133,Tryz.f133),(134,Tryz.f134),(135,Tryz.f135),(136,Tryz.f136),(137,Tryz.f137),(138,Tryz.f138),(139,Tryz.f139),(140,Tryz.f140),(141,Tryz.f141),(142,Tryz.f142),(143,Tryz.f143),(151,Tryz.f151),(152,Tryz.f152),(153,Tryz.f153),(154,Tryz.f154),(155,Tryz.f155),(156,Tryz.f156),(157,Tryz.f157),(158,Tryz.f158),(159,Tryz.f159),(160,Tryz.f160),(161,Tryz.f161),(162,Tryz.f162),(163,Tryz.f163),(164,Tryz.f164),(165,Tryz.f165),(166,Tryz.f166),(167,Tryz.f167),(168,Tryz.f168),(169,Tryz.f169),(172,Tryz.f172),(173,Tryz.f173),(175,Tryz.f175),(176,Tryz.f176),(177,Tryz.f177),(178,Tryz.f178),(179,Tryz.f179),(180,Tryz.f180),(181,Tryz.f181),(182,Tryz.f182),(183,Tryz.f183),(184,Tryz.f184),(185,Tryz.f185),(186,Tryz.f186),(189,Tryz.f189),(190,Tryz.f190),(191,Tryz.f191),(192,Tryz.f192),(193,Tryz.f193),(194,Tryz.f194),(195,Tryz.f195),(196,Tryz.f196),(197,Tryz.f197),(198,Tryz.f198),(199,Tryz.f199),(200,Tryz.f200),(201,Tryz.f201),(202,Tryz.f202),(203,Tryz.f203),(204,Tryz.f204),(205,Tryz.f205),(206,Tryz.f206),(207,Tryz.f207),(208,Tryz.f208),(209,Tryz.f209),(225,Tryz.f225),(226,Tryz.f226),(227,Tryz.f227),(228,Tryz.f228),(229,Tryz.f229),(232,Tryz.f232),(233,Tryz.f233),(234,Tryz.f234),(235,Tryz.f235),(236,Tryz.f236),(237,Tryz.f237),(238,Tryz.f238),(239,Tryz.f239),(240,Tryz.f240),(241,Tryz.f241),(242,Tryz.f242),(243,Tryz.f243),(244,Tryz.f244),(245,Tryz.f245),(246,Tryz.f246),(247,Tryz.f247),(248,Tryz.f248),(253,Tryz.f253),(254,Tryz.f254),(255,Tryz.f255),(257,Tryz.f257),(258,Tryz.f258),(259,Tryz.f259),(260,Tryz.f260),(261,Tryz.f261),(262,Tryz.f262),(263,Tryz.f263),(271,Tryz.f271),(272,Tryz.f272),(276,Tryz.f276),(277,Tryz.f277),(278,Tryz.f278),(279,Tryz.f279),(280,Tryz.f280),(281,Tryz.f281),(283,Tryz.f283),(284,Tryz.f284),(285,Tryz.f285),(288,Tryz.f288),(289,Tryz.f289),(290,Tryz.f290),(291,Tryz.f291),(292,Tryz.f292),(293,Tryz.f293),(296,Tryz.f296),(299,Tryz.f299),(300,Tryz.f300),(301,Tryz.f301),(306,Tryz.f306),(307,Tryz.f307),(308,Tryz.f308),(309,Tryz.f309),(310,Tryz.f310),(311,Tryz.f311),(312,Tryz.f312),(315,Tryz.f315),(346,Tryz.f346),(347,Tryz.f347),(348,Tryz.f348),(349,Tryz.f349),(350,Tryz.f350),(351,Tryz.f351),(352,Tryz.f352),(353,Tryz.f353),(354,Tryz.f354),(355,Tryz.f355),(356,Tryz.f356),(357,Tryz.f357),(358,Tryz.f358),(359,Tryz.f359),(360,Tryz.f360),(361,Tryz.f361),(362,Tryz.f362),(363,Tryz.f363),(364,Tryz.f364),(365,Tryz.f365),(366,Tryz.f366)]
def rh:List Nat:=[61,106,117,123,131,132,140,142,150,152,169,182,191,215,238,255,270,290,300,301,308]
def lS:List Nat:=[169,182,238,255,270,290,301,308]
noncomputable def wF(b:List (Nat×xL))(a:List (Nat×xQ))(c:List (String×xL):=[]):Ctx:=⟨tys,rh,lS,yA,b,a,sZ,Lo,Wd,c⟩
theorem mix:Tryz.prog.follows .mixedOrders=true:=by kernel_rfl
theorem Tp:∀tid t,find tys tid=some t->Den Tryz.prog t tid:=aaQ (by kernel_rfl)
theorem D9:∀tid,cP rh tid=true->(∀w,(isAgg tid).run Tryz.prog w=.ok false w)/\(∀w,(Go.sizeOf tid).run Tryz.prog w=.ok 1 w)/\∃z,(∀w,(zeroValue tid).run Tryz.prog w=.ok z w)/\z.oneCell'=true:=Ws (by kernel_rfl)
theorem Ea:∀tid,cP lS tid=true->∃e,Tryz.prog.underlying tid=some (.pointer e):=Wt (by kernel_rfl)
theorem KX:∀f a,find yA f=some a->Tryz.prog.funcs[f]?=some a:=aaR ((ah Tryz.func4<|ah Tryz.func5<|ah Tryz.func7<|ah Tryz.func8<|ah Tryz.func10<|ah Tryz.func11<|ah Tryz.func12<|ah Tryz.func13<|ah Tryz.func14<|ah Tryz.func15<|ah Tryz.func16<|ah Tryz.func17<|ah Tryz.func18<|ah Tryz.func19<|ah Tryz.func20<|ah Tryz.func21<|ah Tryz.func22<|ah Tryz.func23<|ah Tryz.func24<|ah Tryz.func25<|ah Tryz.func26<|ah Tryz.func27<|ah Tryz.func28<|ah Tryz.func29<|ah Tryz.func30<|ah Tryz.func31<|ah Tryz.func32<|ah Tryz.func33<|ah Tryz.func34<|ah Tryz.func35<|ah Tryz.func36<|ah Tryz.func37<|ah Tryz.func38<|ah Tryz.func39<|ah Tryz.func40<|ah Tryz.func41<|ah Tryz.func42<|ah Tryz.func43<|ah Tryz.func46<|ah Tryz.func51<|ah Tryz.func53<|ah Tryz.func54<|ah Tryz.func55<|ah Tryz.func56<|ah Tryz.func57<|ah Tryz.func58<|ah Tryz.func59<|ah Tryz.func60<|ah Tryz.func61<|ah Tryz.func62<|ah Tryz.func63<|ah Tryz.func64<|ah Tryz.func65<|ah Tryz.func66<|ah Tryz.func67<|ah Tryz.func68<|ah Tryz.func69<|ah Tryz.func70<|ah Tryz.func71<|ah Tryz.func72<|ah Tryz.func73<|ah Tryz.func74<|ah Tryz.func76<|ah Tryz.func79<|ah Tryz.func80<|ah Tryz.func81<|ah Tryz.func82<|ah Tryz.func83<|ah Tryz.func84<|ah Tryz.func85<|ah Tryz.func86<|ah Tryz.func87<|ah Tryz.func88<|ah Tryz.func89<|ah Tryz.func90<|ah Tryz.func91<|ah Tryz.func92<|ah Tryz.func93<|ah Tryz.func94<|ah Tryz.func95<|ah Tryz.func96<|ah Tryz.func97<|ah Tryz.func98<|ah Tryz.func99<|ah Tryz.func100<|ah Tryz.func101<|ah Tryz.func102<|ah Tryz.func108<|ah Tryz.func109<|ah Tryz.func110<|ah Tryz.func111<|ah Tryz.func112<|ah Tryz.func113<|ah Tryz.func114<|ah Tryz.func115<|ah Tryz.func116<|ah Tryz.func117<|ah Tryz.func118<|ah Tryz.func119<|ah Tryz.func120<|ah Tryz.func121<|ah Tryz.func122<|ah Tryz.func123<|ah Tryz.func124<|ah Tryz.func125<|ah Tryz.func126<|ah Tryz.func127<|ah Tryz.func128<|ah Tryz.func129<|ah Tryz.func130<|ah Tryz.func131<|ah Tryz.func132<|ah Tryz.func133<|ah Tryz.func134<|ah Tryz.func135<|ah Tryz.func136<|ah Tryz.func137<|ah Tryz.func138<|ah Tryz.func139<|ah Tryz.func140<|ah Tryz.func141<|ah Tryz.func142<|ah Tryz.func143<|ah Tryz.func151<|ah Tryz.func152<|ah Tryz.func153<|ah Tryz.func154<|ah Tryz.func155<|ah Tryz.func156<|ah Tryz.func157<|ah Tryz.func158<|ah Tryz.func159<|ah Tryz.func160<|ah Tryz.func161<|ah Tryz.func162<|ah Tryz.func163<|ah Tryz.func164<|ah Tryz.func165<|ah Tryz.func166<|ah Tryz.func167<|ah Tryz.func168<|ah Tryz.func169<|ah Tryz.func172<|ah Tryz.func173<|ah Tryz.func175<|ah Tryz.func176<|ah Tryz.func177<|ah Tryz.func178<|ah Tryz.func179<|ah Tryz.func180<|ah Tryz.func181<|ah Tryz.func182<|ah Tryz.func183<|ah Tryz.func184<|ah Tryz.func185<|ah Tryz.func186<|ah Tryz.func189<|ah Tryz.func190<|ah Tryz.func191<|ah Tryz.func192<|ah Tryz.func193<|ah Tryz.func194<|ah Tryz.func195<|ah Tryz.func196<|ah Tryz.func197<|ah Tryz.func198<|ah Tryz.func199<|ah Tryz.func200<|ah Tryz.func201<|ah Tryz.func202<|ah Tryz.func203<|ah Tryz.func204<|ah Tryz.func205<|ah Tryz.func206<|ah Tryz.func207<|ah Tryz.func208<|ah Tryz.func209<|ah Tryz.func225<|ah Tryz.func226<|ah Tryz.func227<|ah Tryz.func228<|ah Tryz.func229<|ah Tryz.func232<|ah Tryz.func233<|ah Tryz.func234<|ah Tryz.func235<|ah Tryz.func236<|ah Tryz.func237<|ah Tryz.func238<|ah Tryz.func239<|ah Tryz.func240<|ah Tryz.func241<|ah Tryz.func242<|ah Tryz.func243<|ah Tryz.func244<|ah Tryz.func245<|ah Tryz.func246<|ah Tryz.func247<|ah Tryz.func248<|ah Tryz.func253<|ah Tryz.func254<|ah Tryz.func255<|ah Tryz.func257<|ah Tryz.func258<|ah Tryz.func259<|ah Tryz.func260<|ah Tryz.func261<|ah Tryz.func262<|ah Tryz.func263<|ah Tryz.func271<|ah Tryz.func272<|ah Tryz.func276<|ah Tryz.func277<|ah Tryz.func278<|ah Tryz.func279<|ah Tryz.func280<|ah Tryz.func281<|ah Tryz.func283<|ah Tryz.func284<|ah Tryz.func285<|ah Tryz.func288<|ah Tryz.func289<|ah Tryz.func290<|ah Tryz.func291<|ah Tryz.func292<|ah Tryz.func293<|ah Tryz.func296<|ah Tryz.func299<|ah Tryz.func300<|ah Tryz.func301<|ah Tryz.func306<|ah Tryz.func307<|ah Tryz.func308<|ah Tryz.func309<|ah Tryz.func310<|ah Tryz.func311<|ah Tryz.func312<|ah Tryz.func315<|ah Tryz.func346<|ah Tryz.func347<|ah Tryz.func348<|ah Tryz.func349<|ah Tryz.func350<|ah Tryz.func351<|ah Tryz.func352<|ah Tryz.func353<|ah Tryz.func354<|ah Tryz.func355<|ah Tryz.func356<|ah Tryz.func357<|ah Tryz.func358<|ah Tryz.func359<|ah Tryz.func360<|ah Tryz.func361<|ah Tryz.func362<|ah Tryz.func363<|ah Tryz.func364<|ah Tryz.func365<|ah Tryz.func366 Wu))
theorem Eb:∀tid a,find sZ tid=some a->IU Tryz.prog tid a=true:=Wv (by kernel_rfl)
theorem KY:∀tid e,find Wd tid=some e->Tryz.prog.underlying tid=some (.slice e):=aaS (by kernel_rfl)
theorem Ec(b:List (Nat×xL))(a:List (Nat×xQ))(c:List (String×xL):=[]):fo Tryz.prog (wF b a c):=⟨Tp,D9,Ea,KX,Eb,KY⟩
noncomputable def cx0:Ctx:=⟨tys,rh,lS,yA,[],[],sZ,[],Wd,[]⟩
theorem FM:fo Tryz.prog cx0:=⟨Tp,D9,Ea,KX,Eb,KY⟩
theorem tl:gk Tryz.prog 76 (.clone .str):=by
 refine xn (P:=Tryz.prog) (cx:=cx0) (bf:=[2,5]) (e:=.str) (tid:=25) (fn:=Tryz.f76) (s0:=λl=>((uB (λ_=>none) [.data (.slice .str) l]).b5 2 { val:=.data (.slice .str) ([]:List (.str:Ty).den),tid:=0,buf:=true,ro:=false,lk:=false,aP:=0 }).put 2 (.whole 2 0)) mix FM (jQ al dF ya eK) Tryz.func76 (by kernel_rfl)
  (by rfl) rfl (by decide) (by decide) rfl rfl rfl rfl rfl rfl (λl=>by rfl) (λl=>rfl) (λl=>rfl) (λl=>rfl) (λl=>by rfl) (λl a=>?_)
 have key:∀m:List (.str:Ty).den,fits (len m)=true->aj (fits<|plus (len ([]:List (.str:Ty).den))<|len m) (some<|app [] m) none=some m:=by
  intro m c;have e:plus (len ([]:List (.str:Ty).den)) (len m)=len m:=by simp[plus,len]
  rw[e,c];rfl
 exact tn (b:=aj (fits<|plus (len ([]:List (.str:Ty).den))<|len (α:=(.str:Ty).den) l) (some<|app (α:=(.str:Ty).den) [] l) none) (by rfl) (key l a)
theorem pw:gk Tryz.prog 172 (.clone sV):=by
 refine xn (P:=Tryz.prog) (cx:=cx0) (bf:=[2,5]) (e:=sV) (tid:=24) (fn:=Tryz.f172) (s0:=λl=>((uB (λ_=>none) [.data (.slice sV) l]).b5 2 { val:=.data (.slice sV) ([]:List (sV:Ty).den),tid:=0,buf:=true,ro:=false,lk:=false,aP:=0 }).put 2 (.whole 2 0)) mix FM (jQ al dF ya eK) Tryz.func172 (by kernel_rfl)
  (by rfl) rfl (by decide) (by decide) rfl rfl rfl rfl rfl rfl (λl=>by rfl) (λl=>rfl) (λl=>rfl) (λl=>rfl) (λl=>by rfl) (λl a=>?_)
 have key:∀m:List (sV:Ty).den,fits (len m)=true->aj (fits<|plus (len ([]:List (sV:Ty).den))<|len m) (some<|app [] m) none=some m:=by
  intro m c;have e:plus (len ([]:List (sV:Ty).den)) (len m)=len m:=by simp[plus,len]
  rw[e,c];rfl
 exact tn (b:=aj (fits<|plus (len ([]:List (sV:Ty).den))<|len (α:=(sV:Ty).den) l) (some<|app (α:=(sV:Ty).den) [] l) none) (by rfl) (key l a)
theorem px:gk Tryz.prog 190 (.clone vi):=by
 refine xn (P:=Tryz.prog) (cx:=cx0) (bf:=[2,5]) (e:=vi) (tid:=26) (fn:=Tryz.f190) (s0:=λl=>((uB (λ_=>none) [.data (.slice vi) l]).b5 2 { val:=.data (.slice vi) ([]:List (vi:Ty).den),tid:=0,buf:=true,ro:=false,lk:=false,aP:=0 }).put 2 (.whole 2 0)) mix FM (jQ al dF ya eK) Tryz.func190 (by kernel_rfl)
  (by rfl) rfl (by decide) (by decide) rfl rfl rfl rfl rfl rfl (λl=>by rfl) (λl=>rfl) (λl=>rfl) (λl=>rfl) (λl=>by rfl) (λl a=>?_)
 have key:∀m:List (vi:Ty).den,fits (len m)=true->aj (fits<|plus (len ([]:List (vi:Ty).den))<|len m) (some<|app [] m) none=some m:=by
  intro m c;have e:plus (len ([]:List (vi:Ty).den)) (len m)=len m:=by simp[plus,len]
  rw[e,c];rfl
 exact tn (b:=aj (fits<|plus (len ([]:List (vi:Ty).den))<|len (α:=(vi:Ty).den) l) (some<|app (α:=(vi:Ty).den) [] l) none) (by rfl) (key l a)
theorem dC:gk Tryz.prog 353 (.clone zk):=by
 refine xn (P:=Tryz.prog) (cx:=cx0) (bf:=[2,5]) (e:=zk) (tid:=47) (fn:=Tryz.f353) (s0:=λl=>((uB (λ_=>none) [.data (.slice zk) l]).b5 2 { val:=.data (.slice zk) ([]:List (zk:Ty).den),tid:=0,buf:=true,ro:=false,lk:=false,aP:=0 }).put 2 (.whole 2 0)) mix FM (jQ al dF ya eK) Tryz.func353 (by kernel_rfl)
  (by rfl) rfl (by decide) (by decide) rfl rfl rfl rfl rfl rfl (λl=>by rfl) (λl=>rfl) (λl=>rfl) (λl=>rfl) (λl=>by rfl) (λl a=>?_)
 have key:∀m:List (zk:Ty).den,fits (len m)=true->aj (fits<|plus (len ([]:List (zk:Ty).den))<|len m) (some<|app [] m) none=some m:=by
  intro m c;have e:plus (len ([]:List (zk:Ty).den)) (len m)=len m:=by simp[plus,len]
  rw[e,c];rfl
 exact tn (b:=aj (fits<|plus (len ([]:List (zk:Ty).den))<|len (α:=(zk:Ty).den) l) (some<|app (α:=(zk:Ty).den) [] l) none) (by rfl) (key l a)
theorem ue:gk Tryz.prog 77 (.own .str .unit false dH):=aaU Tryz.func77 (by kernel_rfl) (by kernel_rfl) Tryz.slices_Sort_string Tryz.slices_Sort_string_none
theorem rH:gk Tryz.prog 78 (.own .str .unit true dT):=R6 Tryz.func78 (by kernel_rfl) (by kernel_rfl) Tryz.slices_Compact_string Tryz.slices_Compact_string_empty UP
theorem sT:gk Tryz.prog 170 (.own .str (.pair (.int .i64) yD) true eh):=by
 have a:Den Tryz.prog .str 9:=by
  show eV Tryz.prog .str false 9 0 []=true
  kernel_rfl
 obtain⟨f,g,b,c,h,i⟩:=a.info;exact DA (e:=.str) (ρ:=(⟨λx=>if x=29 then 249 else if x=30 then 250 else 170,λx=>if x=24 then 25 else if x=9 then 9 else if x=3 then 3 else if x=4 then 4 else 0,λx=>x⟩:Go.Shelf.Ren)) (nm := "slices.Insert[[]string,string]") ⟨mix,Tryz.func170.trans (congrArg some<|by kernel_rfl),
  λd w=>run_callFunc_extern (e:=Extern.SlicesOverlaps.overlaps #[25,25] #[4]) Tryz.func249 (by kernel_rfl) (by kernel_rfl) (by kernel_rfl) (by kernel_rfl) d w,
  by kernel_rfl,by kernel_rfl,by kernel_rfl,λw=>by simp[Go.sizeOf,b,c]<;>kernel_rfl,by simp[b,c]<;>kernel_rfl⟩ (by decide) a (by kernel_rfl) (by decide) (by decide)
theorem oJ:gk Tryz.prog 171 (.own sV (.pair (.int .i64) Qd) true da):=by
 have a:Den Tryz.prog sV 44:=by
  show eV Tryz.prog sV false 44 0 []=true
  kernel_rfl
 obtain⟨f,g,b,c,h,i⟩:=a.info;exact DA (e:=sV) (ρ:=(⟨λx=>if x=29 then 251 else if x=30 then 252 else 171,λx=>if x=24 then 24 else if x=9 then 44 else if x=3 then 3 else if x=4 then 4 else 0,λx=>x⟩:Go.Shelf.Ren)) (nm := "slices.Insert[[]cooperage/api.Layer,cooperage/api.Layer]") ⟨mix,Tryz.func171.trans (congrArg some<|by kernel_rfl),
  λd w=>run_callFunc_extern (e:=Extern.SlicesOverlaps.overlaps #[24,24] #[4]) Tryz.func251 (by kernel_rfl) (by kernel_rfl) (by kernel_rfl) (by kernel_rfl) d w,
  by kernel_rfl,by kernel_rfl,by kernel_rfl,λw=>by simp[Go.sizeOf,b,c]<;>kernel_rfl,by simp[b,c]<;>kernel_rfl⟩ (by decide) a (by kernel_rfl) (by decide) (by decide)
theorem sU:gk Tryz.prog 187 (.own .str Qe true ej):=by
 have a:Den Tryz.prog .str 9:=by
  show eV Tryz.prog .str false 9 0 []=true
  kernel_rfl
 obtain⟨h,c,b,d,f,g⟩:=a.info;exact Wy (e:=.str) (ρ:=(⟨λx=>if x=29 then 0 else if x=30 then 0 else 187,λx=>if x=24 then 25 else if x=9 then 9 else if x=3 then 3 else if x=4 then 4 else 0,λx=>x⟩:Go.Shelf.Ren)) (nm := "slices.Delete[[]string,string]") (z:=c) ⟨mix,Tryz.func187.trans (congrArg some<|by kernel_rfl),
  by kernel_rfl,by kernel_rfl,by kernel_rfl,λw=>by simp[Go.sizeOf,b,d]<;>kernel_rfl,λw=>Gt b f w⟩ (by decide) g (by decide)
theorem oK:gk Tryz.prog 188 (.own sV Qe true db):=by
 have a:Den Tryz.prog sV 44:=by
  show eV Tryz.prog sV false 44 0 []=true
  kernel_rfl
 obtain⟨h,c,b,d,f,g⟩:=a.info;exact Wy (e:=sV) (ρ:=(⟨λx=>if x=29 then 0 else if x=30 then 0 else 188,λx=>if x=24 then 24 else if x=9 then 44 else if x=3 then 3 else if x=4 then 4 else 0,λx=>x⟩:Go.Shelf.Ren)) (nm := "slices.Delete[[]cooperage/api.Layer,cooperage/api.Layer]") (z:=c) ⟨mix,Tryz.func188.trans (congrArg some<|by kernel_rfl),
  by kernel_rfl,by kernel_rfl,by kernel_rfl,λw=>by simp[Go.sizeOf,b,d]<;>kernel_rfl,λw=>Gt b f w⟩ (by decide) g (by decide)
theorem oL:gk Tryz.prog 256 (.own vi (.pair (.int .i64) Zi) true ep):=by
 have a:Den Tryz.prog vi 85:=by
  show eV Tryz.prog vi false 85 0 []=true
  kernel_rfl
 obtain⟨f,g,b,c,h,i⟩:=a.info;exact DA (e:=vi) (ρ:=(⟨λx=>if x=29 then 297 else if x=30 then 298 else 256,λx=>if x=24 then 26 else if x=9 then 85 else if x=3 then 3 else if x=4 then 4 else 0,λx=>x⟩:Go.Shelf.Ren)) (nm := "slices.Insert[[]cooperage/api.Mount,cooperage/api.Mount]") ⟨mix,Tryz.func256.trans (congrArg some<|by kernel_rfl),
  λd w=>run_callFunc_extern (e:=Extern.SlicesOverlaps.overlaps #[26,26] #[4]) Tryz.func297 (by kernel_rfl) (by kernel_rfl) (by kernel_rfl) (by kernel_rfl) d w,
  by kernel_rfl,by kernel_rfl,by kernel_rfl,λw=>by simp[Go.sizeOf,b,c]<;>kernel_rfl,by simp[b,c]<;>kernel_rfl⟩ (by decide) a (by kernel_rfl) (by decide) (by decide)
theorem dy:gk Tryz.prog 367 (.own zk (.pair (.int .i64) ud) true aS):=by
 have a:Den Tryz.prog zk 98:=by
  show eV Tryz.prog zk false 98 0 []=true
  kernel_rfl
 obtain⟨f,g,b,c,h,i⟩:=a.info;exact DA (e:=zk) (ρ:=(⟨λx=>if x=29 then 368 else if x=30 then 369 else 367,λx=>if x=24 then 47 else if x=9 then 98 else if x=3 then 3 else if x=4 then 4 else 0,λx=>x⟩:Go.Shelf.Ren)) (nm := "slices.Insert[[]cooperage/api.TreeNode,cooperage/api.TreeNode]") ⟨mix,Tryz.func367.trans (congrArg some<|by kernel_rfl),
  λd w=>run_callFunc_extern (e:=Extern.SlicesOverlaps.overlaps #[47,47] #[4]) Tryz.func368 (by kernel_rfl) (by kernel_rfl) (by kernel_rfl) (by kernel_rfl) d w,
  by kernel_rfl,by kernel_rfl,by kernel_rfl,λw=>by simp[Go.sizeOf,b,c]<;>kernel_rfl,by simp[b,c]<;>kernel_rfl⟩ (by decide) a (by kernel_rfl) (by decide) (by decide)
theorem yB:∀p∈Lo,gk Tryz.prog p.1 p.2:=(gl wE<|gl uc<|gl tl<|gl pw<|gl px<|gl dC<|gl ue<|gl rH<|gl sT<|gl oJ<|gl sU<|gl oK<|gl oL<|gl dy ya)
theorem Ed(b:List (Nat×xL))(a:List (Nat×xQ))(c:List (String×xL):=[]):Nq (wF b a c):=RX (cx:=wF b a c) (show(yA.all λp=>UD p.2)=true by kernel_rfl)
def cU:fm:=vv
theorem Ap{b:List (Nat×xL)}{a:List (Nat×xQ)}{c:List (String×xL)}(i:∀p∈b,Holds Tryz.prog cU p.1 p.2)(e:∀p∈a,eN Tryz.prog cU p.1 p.2)(j:∀p∈c,kF Tryz.prog cU p.1 p.2){f:Nat}{l:Func}{A R:Ty}{d:A.den->Option R.den}(k:find yA f=some l)(n:l.body.isSome=true)
  (o:∀x,sem (wF b a c) 12 py f A R x=d x):Holds Tryz.prog cU f ⟨A,R,d⟩:=by
 obtain⟨m,g⟩:=Ik.1 n;exact Dy mix (Ec b a c) (jQ i e yB j) (Ed b a c) (f:=f) k g (λx y h=>by rw[o];exact h)
theorem FN{b:List (Nat×xL)}{a:List (Nat×xQ)}{c:List (String×xL)}(i:∀p∈b,Holds Tryz.prog cU p.1 p.2)(e:∀p∈a,eN Tryz.prog cU p.1 p.2)(j:∀p∈c,kF Tryz.prog cU p.1 p.2){f:Nat}{l:Func}{m:List Bool}{A:Ty}{U:OT}{R:Ty}{d:A.den×U.den->Option (R.den×U.den)}(k:find yA f=some l)(o:l.body.isSome=true)
  (q:∀x,Xq (wF b a c) 12 py f m A U R x=d x):eN Tryz.prog cU f ⟨m,A,U,R,d⟩:=by
 obtain⟨n,g⟩:=Ik.1 o;exact BI mix (Ec b a c) (jQ i e yB j) (Ed b a c) (f:=f) k g (λx y h=>by rw[q];exact h)
theorem Ba{d:List (Nat×xL)}{a:List (Nat×xQ)}{e:List (String×xL)}(g:∀p∈d,Holds Tryz.prog cU p.1 p.2)(c:∀p∈a,eN Tryz.prog cU p.1 p.2)(h:∀p∈e,kF Tryz.prog cU p.1 p.2)(j:Func){f:Nat}{A R:Ty}{b:A.den->Option R.den}(i:find yA f=some j:=by rfl)(k:j.body.isSome=true:=by kernel_rfl)
 (l:∀x,sem (wF d a e) 12 py f A R x=b x:=by intro x;kernel_rfl):Holds Tryz.prog cU f ⟨A,R,b⟩:=Ap g c h i k l
theorem ar{b:List (Nat×xL)}(c:∀p∈b,Holds Tryz.prog cU p.1 p.2)(e:Func){f:Nat}{A R:Ty}{a:A.den->Option R.den}(d:find yA f=some e:=by rfl)(g:e.body.isSome=true:=by kernel_rfl)
 (h:∀x,sem (wF b [] []) 12 py f A R x=a x:=by intro x;kernel_rfl):Holds Tryz.prog cU f ⟨A,R,a⟩:=Ap c dF eK d g h
theorem qC{d:List (Nat×xL)}{a:List (Nat×xQ)}{e:List (String×xL)}(g:∀p∈d,Holds Tryz.prog cU p.1 p.2)(c:∀p∈a,eN Tryz.prog cU p.1 p.2)(h:∀p∈e,kF Tryz.prog cU p.1 p.2)(j:Func){f:Nat}{k:List Bool}{A:Ty}{U:OT}{R:Ty}{b:A.den×U.den->Option (R.den×U.den)}(i:find yA f=some j:=by rfl)(l:j.body.isSome=true:=by kernel_rfl)
 (m:∀x,Xq (wF d a e) 12 py f k A U R x=b x:=by intro x;kernel_rfl):eN Tryz.prog cU f ⟨k,A,U,R,b⟩:=FN g c h i l m
abbrev az:=Holds Tryz.prog cU
theorem Tr:az 72 ⟨yD,nW,kr⟩:=ar al Tryz.f72
theorem FO:az 73 ⟨(.pair ace .unit),nW,dU⟩:=ar al Tryz.f73
theorem Ts:az 19 ⟨(.pair YH8 .unit),nW,pF⟩:=ar (ag Tr<|ag FO al) Tryz.f19
theorem Tt:az 20 ⟨Qd,nW,vP⟩:=ar al Tryz.f20
theorem Tu:az 5 ⟨Qf,nW,vQ⟩:=ar (ag Ts<|ag Tt al) Tryz.f5
theorem ck:Holds Tryz.prog cU 76 ⟨yD,yD,bA⟩:=by
 refine vC (P:=Tryz.prog) (cx:=wF [] []) (bf:=[5]) (e:=.str) (tid:=25) (fn:=Tryz.f76) (s0:=λl=>(uB (λ_=>none) [.data (.slice .str) l]).put 2 (.data (.slice .str) ([]:List (.str:Ty).den))) mix (Ec [] []) (jQ al dF yB eK) Tryz.func76 (by kernel_rfl)
  (by rfl) rfl (by decide) (by decide) rfl rfl rfl rfl rfl rfl (λl=>by rfl) (λl=>rfl) (λl=>rfl) (λl=>rfl) (λl=>by rfl) (λl a=>?_)
 have key:∀m:List (.str:Ty).den,fits (len m)=true->aj (fits<|plus (len ([]:List (.str:Ty).den))<|len m) (some ((app [] m,()):(Ty.pair (.slice .str) .unit).den)) none=some (m,()):=by
  intro m c;have e:plus (len ([]:List (.str:Ty).den)) (len m)=len m:=by simp[plus,len]
  rw[e,c];rfl
 exact tn (b:=aj (fits<|plus (len ([]:List (.str:Ty).den))<|len (α:=(.str:Ty).den) l) (some ((app (α:=(.str:Ty).den) [] l,()):(Ty.pair (.slice .str) .unit).den)) none) (by rfl) (key l a)
theorem VV:az 87 ⟨(.pair (.int .i64)<|.pair YH8 .unit),(.pair VT .unit),yg⟩:=ar (ag ck al) Tryz.f87
theorem Ar:az 33 ⟨Qf,(.pair VT .unit),j7⟩:=ar (ag VV al) Tryz.f33
theorem Mq:az 66 ⟨(.pair VT fA),vi,r5⟩:=ar (ag fj<|ag n9 al) Tryz.f66
theorem oM:az 14 ⟨(.pair Eu fA),vi,cY⟩:=ar (ag Ar<|ag Mq al) Tryz.f14
theorem FP:Holds Tryz.prog cU 75 ⟨vi,fA,ni⟩:=LU (spec:=ft) Tryz.func75 (by kernel_rfl) (by kernel_rfl) (λ_ _ _ h=>zL h) (λs c w y e f a=>by
 obtain⟨b,d,rfl⟩:=qN a;have g:(IntKind.i64).max=9223372036854775807:=by decide
 obtain⟨n,rfl⟩:=Zz b;exact Tryz.strings_Repeat s n w (by omega) d)
theorem BS:az 24 ⟨.unit,fA,oF⟩:=ar (ag FP al) Tryz.f24
theorem yE:az 225 ⟨(.pair .str VU),fA,gB⟩:=ar al Tryz.f225
theorem pM:az 226 ⟨(.pair .str VU),fA,eG⟩:=ar al Tryz.f226
theorem qF:az 227 ⟨fA,(.pair (.arr 256 .bool) nW),dm⟩:=ar al Tryz.f227
theorem eL:eN Tryz.prog cU 272 ⟨[true,false],VU,(.pair (.ref 0<|.zl<|.arr 256 .bool) .unit),nW,cr⟩:=qC al dF eK Tryz.f272
theorem xH:eN Tryz.prog cU 228 ⟨[false,true],fA,(.pair (.ref 0<|.zl<|.arr 256 .bool) .unit),fA,fV⟩:=qC al (fU eL dF) eK Tryz.f228
theorem oN:eN Tryz.prog cU 229 ⟨[false,true],fA,(.pair (.ref 0<|.zl<|.arr 256 .bool) .unit),fA,dA⟩:=qC al (fU eL dF) eK Tryz.f229
theorem qG:az 152 ⟨Mp,fA,hM⟩:=Ba (ag yE<|ag pM<|ag qF al) (fU xH<|fU oN<|fU eL dF) eK Tryz.f152
theorem HD:az 81 ⟨fA,nW,oO⟩:=ar (ag qG al) Tryz.f81
theorem BT:az 27 ⟨yD,vq,oq⟩:=ar (ag ck<|ag HD al) Tryz.f27
theorem v7:eN Tryz.prog cU 232 ⟨[true,false],nW,(.pair (.ref 0<|.zl adK) .unit),(.pair (.pair Zo fA) nW),ef⟩:=qC al dF eK Tryz.f232
theorem BU:az 233 ⟨fA,nW,rT⟩:=ar (ag qG al) Tryz.f233
theorem za:az 306 ⟨.unit,(.pair (.arr 11 Qe) .unit),kV⟩:=ar al Tryz.f306
theorem Tv:az 276 ⟨vi,fA,bW⟩:=ar (ag za al) Tryz.f276
theorem tD:az 307 ⟨Mp,fA,ea⟩:=Ba (ag pM<|ag qF al) (fU oN<|fU eL dF) eK Tryz.f307
theorem CK:az 308 ⟨fA,(.pair (.int .i64) nW),dn⟩:=ar al Tryz.f308
theorem HE:az 277 ⟨fA,vq,cO⟩:=ar (ag tD<|ag CK al) Tryz.f277
theorem Qg:az 278 ⟨fA,vq,tL⟩:=ar (ag za al) Tryz.f278
theorem Mr:az 279 ⟨fA,(.pair .str nW),jx⟩:=ar (ag jK<|ag tD al) Tryz.f279
theorem Tw:az 309 ⟨Qe,nW,kq⟩:=ar al Tryz.f309
theorem K3:az 310 ⟨vi,nW,mI⟩:=ar (ag jK al) Tryz.f310
theorem Tz:az 280 ⟨(.pair Zo vq),nW,pE⟩:=ar (ag Tw<|ag K3 al) Tryz.f280
theorem BV:az 234 ⟨fA,(.pair Zo vq),eR⟩:=ar (ag Tv<|ag HE<|ag Qg<|ag Mr<|ag Tz al) Tryz.f234
theorem K4:az 235 ⟨vq,vq,uP⟩:=ar al Tryz.f235
theorem Ef:eN Tryz.prog cU 154 ⟨[true],.unit,(.pair (.ref 0<|.zl adK) .unit),(.pair (.pair Zo fA) nW),bJ⟩:=qC (ag qG<|ag BU<|ag BV<|ag K4 al) (fU v7 dF) eK Tryz.f154
theorem FQ:eN Tryz.prog cU 155 ⟨[true],.unit,(.pair (.ref 0<|.zl adK) .unit),nW,gQ⟩:=qC al dF eK Tryz.f155
theorem K5:az 82 ⟨fA,(.pair Tq vq),eD⟩:=Ba (ag qG<|ag BU<|ag BV<|ag K4 al) (fU Ef<|fU FQ<|fU v7 dF) eK Tryz.f82
theorem yF:az 238 ⟨Mp,fA,np⟩:=ar al Tryz.f238
theorem xI:az 240 ⟨(.pair zk .unit),nW,dW⟩:=ar (ag kP<|ag lO<|ag yF<|ag oI al) Tryz.f240
theorem HF:az 239 ⟨fA,nW,lf⟩:=ar (ag xI al) Tryz.f239
theorem Ms:az 348 ⟨K2,ud,sa⟩:=ar (ag kP<|ag wG<|ag dD al) Tryz.f348
theorem qU:az 346 ⟨(.pair fA ud),ud,iA⟩:=ar (ag Ms al) Tryz.f346
theorem tE:az 347 ⟨(.pair fA ud),Bn,tB⟩:=ar al Tryz.f347
theorem Qh:az 359 ⟨K2,ud,tS⟩:=ar (ag kP<|ag wG<|ag dD al) Tryz.f359
theorem pN:az 357 ⟨(.pair fA ud),ud,fY⟩:=ar (ag Qh al) Tryz.f357
theorem qV:az 358 ⟨(.pair fA ud),Bn,qQ⟩:=ar al Tryz.f358
theorem qW:az 361 ⟨(.pair .unit ud),ud,qR⟩:=ar al Tryz.f361
theorem tF:az 362 ⟨(.pair .unit ud),Bn,tC⟩:=ar al Tryz.f362
theorem qX:az 363 ⟨(.pair (.pair zk .unit) ud),ud,qS⟩:=ar al Tryz.f363
theorem TA:az 365 ⟨K2,(.pair zk nW),vM⟩:=ar (ag kP<|ag yC al) Tryz.f365
theorem tG:az 364 ⟨(.pair (.pair zk .unit) ud),Bn,jG⟩:=ar (ag lO<|ag yF<|ag oI<|ag TA<|ag VR al) Tryz.f364
theorem K6:az 156 ⟨(.pair (.pair Zo fA) .unit),(.pair Zh nW),qm⟩:=ar (ag lO<|ag BR<|ag Ee<|ag yF<|ag HF<|ag xI<|ag qU<|ag tE<|ag pN<|ag qV<|ag qW<|ag tF<|ag qX<|ag tG al) Tryz.f156
theorem zb:az 83 ⟨(.pair Tq .unit),(.pair (.slice Zh) nW),lg⟩:=ar (ag K6 al) Tryz.f83
theorem HG:az 29 ⟨fA,vq,gh⟩:=ar (ag K5<|ag zb al) Tryz.f29
theorem Qi:az 84 ⟨(.pair VT fA),vq,tM⟩:=ar al Tryz.f84
theorem Qj:az 32 ⟨(.pair VT<|.pair .str yD),vq,tN⟩:=ar (ag BT<|ag Qi<|ag fj al) Tryz.f32
theorem Eg:az 95 ⟨fA,fA,qa⟩:=ar al Tryz.f95
theorem TB:az 88 ⟨vq,fA,vL⟩:=ar (ag Eg al) Tryz.f88
theorem K7:az 35 ⟨(.pair VT vq),vi,qj⟩:=ar (ag TB al) Tryz.f35
theorem Mt:az 37 ⟨(.pair (.slice sV) fA),(.pair (.slice sV) vq),sk⟩:=ar (ag ck al) Tryz.f37
theorem wH:az 99 ⟨Qf,yD,lM⟩:=ar al Tryz.f99
theorem zc:az 126 ⟨(.pair sV .unit),fA,te⟩:=ar al Tryz.f126
theorem BW:az 74 ⟨(.pair Eu fA),(.pair sV<|.pair .str nW),lN⟩:=ar (ag ck<|ag wH<|ag zc al) Tryz.f74
theorem Mu:kF Tryz.prog cU "cooperage/overlay.clears" ⟨(.pair Zh ud),ud,qn⟩:=(mB qU (λv w=>by kernel_rfl) rfl (mB pN (λv w=>by kernel_rfl) rfl (mB qW (λv w=>by kernel_rfl) rfl (mB qX (λv w=>by kernel_rfl) rfl I8))))
theorem TC:kF Tryz.prog cU "cooperage/overlay.puts" ⟨(.pair Zh ud),Bn,uZ⟩:=(mB tE (λv w=>by kernel_rfl) rfl (mB qV (λv w=>by kernel_rfl) rfl (mB tF (λv w=>by kernel_rfl) rfl (mB tG (λv w=>by kernel_rfl) rfl I8))))
theorem Mv:az 93 ⟨(.pair (.slice zk)<|.pair Tq .unit),Bn,sd⟩:=Ba (ag zb<|ag kP al) dF (R2 Mu<|R2 TC eK) Tryz.f93
theorem zd:az 40 ⟨K2,Bn,iP⟩:=ar (ag K5<|ag kP<|ag Mv al) Tryz.f40
theorem Mw:az 162 ⟨yD,Bn,oA⟩:=ar (ag zd al) Tryz.f162
theorem Qk:az 91 ⟨(.pair Eu fA),Bn,nQ⟩:=ar (ag BW<|ag ck<|ag Mw al) Tryz.f91
theorem K8:az 39 ⟨(.pair Eu fA),Bn,qz⟩:=ar (ag Qk al) Tryz.f39
theorem qH:az 41 ⟨vq,VS,fM⟩:=ar al Tryz.f41
theorem As:az 290 ⟨.unit,acb,sE⟩:=ar al Tryz.f290
theorem Au:az 291 ⟨.unit,(.pair (.arr 64<|.int .u32) .unit),zM⟩:=ar al Tryz.f291
theorem wI:az 315 ⟨(.pair (.int .u32) vq),(.pair (.int .u32) .unit),jw⟩:=ar al Tryz.f315
theorem v8:az 293 ⟨(.pair (.int .u32) vq),(.pair (.int .u32) .unit),b7⟩:=ar (ag wI al) Tryz.f293
theorem vj:az 292 ⟨(.pair (.arr 64<|.int .u8) .unit),(.pair (.arr 64<|.int .u32) .unit),p9⟩:=ar (ag v8 al) Tryz.f292
theorem xJ:eN Tryz.prog cU 167 ⟨[true,false],fA,(.pair (.ref 0<|.zl ae7) .unit),.unit,fu⟩:=qC (ag As<|ag Au<|ag vj<|ag v8 al) dF eK Tryz.f167
theorem FR:eN Tryz.prog cU 168 ⟨[true],.unit,(.pair (.ref 0<|.zl ae7) .unit),(.pair (.arr 32<|.int .u8) .unit),nj⟩:=qC (ag As<|ag Au<|ag vj<|ag v8 al) (fU xJ dF) eK Tryz.f168
theorem Zj:az 94 ⟨fA,(.pair (.arr 32<|.int .u8) .unit),AU⟩:=Ba (ag As<|ag Au<|ag vj<|ag v8 al) (fU xJ<|fU FR dF) eK Tryz.f94
theorem TD:az 42 ⟨fA,fA,sF⟩:=ar (ag Zj<|ag Eg al) Tryz.f42
theorem Bo:az 98 ⟨(.pair (.slice .str)<|.pair (.int .i64) fA),yD,jI⟩:=ar (ag ck al) Tryz.f98
theorem iq:Holds Tryz.prog cU 172 ⟨Qd,Qd,pt⟩:=by
 refine vC (P:=Tryz.prog) (cx:=wF [] []) (bf:=[5]) (e:=sV) (tid:=24) (fn:=Tryz.f172) (s0:=λl=>(uB (λ_=>none) [.data (.slice sV) l]).put 2 (.data (.slice sV) ([]:List (sV:Ty).den))) mix (Ec [] []) (jQ al dF yB eK) Tryz.func172 (by kernel_rfl)
  (by rfl) rfl (by decide) (by decide) rfl rfl rfl rfl rfl rfl (λl=>by rfl) (λl=>rfl) (λl=>rfl) (λl=>rfl) (λl=>by rfl) (λl a=>?_)
 have key:∀m:List (sV:Ty).den,fits (len m)=true->aj (fits<|plus (len ([]:List (sV:Ty).den))<|len m) (some ((app [] m,()):(Ty.pair (.slice sV) .unit).den)) none=some (m,()):=by
  intro m c;have e:plus (len ([]:List (sV:Ty).den)) (len m)=len m:=by simp[plus,len]
  rw[e,c];rfl
 exact tn (b:=aj (fits<|plus (len ([]:List (sV:Ty).den))<|len (α:=(sV:Ty).den) l) (some ((app (α:=(sV:Ty).den) [] l,()):(Ty.pair (.slice sV) .unit).den)) none) (by rfl) (key l a)
theorem yG:az 100 ⟨(.pair (.slice sV)<|.pair (.int .i64)<|.pair sV .unit),Qd,gG⟩:=ar (ag iq al) Tryz.f100
theorem Ql:az 43 ⟨(.pair Eu<|.pair sV fA),Qf,nR⟩:=ar (ag Bo<|ag wH<|ag yG al) Tryz.f43
theorem zf:az 8 ⟨(.pair Eu<|.pair .str<|.pair (.slice .str) vi),(.pair Eu VS),cB⟩:=ar (ag oM<|ag BS<|ag BT<|ag HG<|ag Qj<|ag Ar<|ag K7<|ag Mt<|ag K8<|ag zd<|ag qH<|ag TD<|ag Ql al) Tryz.f8
theorem mj:az 57 ⟨(.pair (.slice .str) yD),nW,eg⟩:=ar al Tryz.f57
theorem wa:az 111 ⟨(.pair ace<|.pair ace .unit),nW,fX⟩:=ar al Tryz.f111
theorem Eh:az 54 ⟨(.pair (.slice aca)<|.pair (.slice aca) .unit),nW,mc⟩:=ar (ag mj<|ag wa al) Tryz.f54
theorem CL:az 55 ⟨(.pair (.slice acd)<|.pair (.slice acd) .unit),nW,kL⟩:=ar (ag mj<|ag wa al) Tryz.f55
theorem CM:az 56 ⟨(.pair (.slice sV) Qd),nW,kM⟩:=ar (ag mj al) Tryz.f56
theorem CN:az 58 ⟨(.pair (.slice vi) Zi),nW,kN⟩:=ar al Tryz.f58
theorem Ei:az 10 ⟨(.pair Eu Qf),nW,ew⟩:=ar (ag Eh<|ag CL<|ag CM<|ag mj<|ag CN al) Tryz.f10
theorem Qm:az 62 ⟨(.pair Eu fA),nW,ub⟩:=ar al Tryz.f62
theorem HH:az 124 ⟨(.pair vi .unit),fA,tg⟩:=ar al Tryz.f124
theorem Av:az 63 ⟨(.pair Eu fA),vq,ij⟩:=ar (ag HH al) Tryz.f63
theorem yH:az 127 ⟨(.pair (.slice .str) vq),yD,gH⟩:=ar (ag ck al) Tryz.f127
theorem vt:az 128 ⟨(.pair (.slice sV) vq),Qd,fl⟩:=ar (ag iq al) Tryz.f128
theorem ir:Holds Tryz.prog cU 190 ⟨Zi,Zi,pv⟩:=by
 refine vC (P:=Tryz.prog) (cx:=wF [] []) (bf:=[5]) (e:=vi) (tid:=26) (fn:=Tryz.f190) (s0:=λl=>(uB (λ_=>none) [.data (.slice vi) l]).put 2 (.data (.slice vi) ([]:List (vi:Ty).den))) mix (Ec [] []) (jQ al dF yB eK) Tryz.func190 (by kernel_rfl)
  (by rfl) rfl (by decide) (by decide) rfl rfl rfl rfl rfl rfl (λl=>by rfl) (λl=>rfl) (λl=>rfl) (λl=>rfl) (λl=>by rfl) (λl a=>?_)
 have key:∀m:List (vi:Ty).den,fits (len m)=true->aj (fits<|plus (len ([]:List (vi:Ty).den))<|len m) (some ((app [] m,()):(Ty.pair (.slice vi) .unit).den)) none=some (m,()):=by
  intro m c;have e:plus (len ([]:List (vi:Ty).den)) (len m)=len m:=by simp[plus,len]
  rw[e,c];rfl
 exact tn (b:=aj (fits<|plus (len ([]:List (vi:Ty).den))<|len (α:=(vi:Ty).den) l) (some ((app (α:=(vi:Ty).den) [] l,()):(Ty.pair (.slice vi) .unit).den)) none) (by rfl) (key l a)
theorem yI:az 193 ⟨(.pair (.slice vi)<|.pair (.int .i64)<|.pair vi .unit),Zi,bE⟩:=ar (ag ir al) Tryz.f193
theorem BX:az 129 ⟨(.pair Eu vi),Qf,oG⟩:=ar (ag ir<|ag yI al) Tryz.f129
theorem HI:az 64 ⟨(.pair Eu fA),Qf,pa⟩:=ar (ag wH<|ag zc<|ag yH<|ag vt<|ag BX al) Tryz.f64
theorem zg:az 12 ⟨(.pair Eu fA),(.pair Eu VS),cF⟩:=ar (ag oM<|ag qH<|ag Qm<|ag Av<|ag HI al) Tryz.f12
theorem xK:az 65 ⟨(.pair Eu vi),(.pair Eu VS),kk⟩:=ar (ag oM<|ag qH<|ag Av<|ag BX al) Tryz.f65
theorem Aw:az 13 ⟨(.pair Eu fA),(.pair Eu VS),ik⟩:=ar (ag xK al) Tryz.f13
theorem FT:az 21 ⟨(.pair Eu fA),(.pair Eu VS),nU⟩:=ar (ag xK al) Tryz.f21
theorem Mx:az 22 ⟨(.pair Eu fA),VS,sn⟩:=ar (ag oM<|ag qH<|ag BW al) Tryz.f22
theorem Qn:az 23 ⟨.unit,fA,qA⟩:=ar al Tryz.f23
theorem My:az 7 ⟨.unit,nW,jz⟩:=ar (ag zf<|ag Ei<|ag zg<|ag Aw<|ag FT<|ag Mx<|ag Qn<|ag BS al) Tryz.f7
theorem Ax:az 173 ⟨fA,nW,mL⟩:=ar al Tryz.f173
theorem wJ:az 101 ⟨yD,nW,lG⟩:=ar (ag Ax al) Tryz.f101
theorem BZ:az 178 ⟨vq,VU,lD⟩:=ar al Tryz.f178
theorem Mz:az 296 ⟨VU,vq,oi⟩:=ar (ag BZ al) Tryz.f296
theorem B0:az 255 ⟨fA,(.pair .str nW),oj⟩:=ar (ag Mz al) Tryz.f255
theorem yJ:az 179 ⟨fA,nW,fF⟩:=ar (ag B0 al) Tryz.f179
theorem MA:az 180 ⟨fA,vq,rS⟩:=ar (ag B0 al) Tryz.f180
theorem MB:az 112 ⟨(.pair sV .unit),nW,oB⟩:=ar (ag wJ<|ag yJ<|ag MA al) Tryz.f112
theorem MC:az 175 ⟨.unit,acb,wv⟩:=ar al Tryz.f175
theorem MD:az 176 ⟨fA,fA,rQ⟩:=ar al Tryz.f176
theorem Qo:az 253 ⟨(.pair (.int .u32) vq),(.pair (.int .u32) .unit),bV⟩:=ar al Tryz.f253
theorem K9:az 254 ⟨.unit,(.pair (.arr 64<|.int .u32) .unit),uN⟩:=ar al Tryz.f254
theorem ME:az 177 ⟨(.pair (.arr 8<|.int .u32) fA),acb,rR⟩:=ar (ag Qo<|ag K9 al) Tryz.f177
theorem TE:az 109 ⟨fA,(.pair (.arr 32<|.int .u8) .unit),vD⟩:=ar (ag MC<|ag MD<|ag ME al) Tryz.f109
theorem TF:az 110 ⟨fA,fA,vE⟩:=ar (ag BZ al) Tryz.f110
theorem La:az 53 ⟨fA,fA,uO⟩:=ar (ag TE<|ag TF al) Tryz.f53
theorem B1:az 181 ⟨(.pair ace .unit),nW,lH⟩:=ar (ag La<|ag Ax al) Tryz.f181
theorem MF:az 113 ⟨(.pair acd .unit),nW,oC⟩:=ar (ag wJ<|ag yJ<|ag B1 al) Tryz.f113
theorem TG:az 114 ⟨(.pair aca .unit),nW,sN⟩:=ar (ag wJ<|ag yJ<|ag B1 al) Tryz.f114
theorem MG:az 115 ⟨(.pair YH8 .unit),(.pair (.slice .str) yD),sg⟩:=ar al Tryz.f115
theorem MH:az 59 ⟨(.pair (.int .i64)<|.pair YH8 .unit),vq,lK⟩:=ar (ag MB<|ag MF<|ag TG<|ag MG al) Tryz.f59
theorem Qp:az 108 ⟨(.pair (.slice sV) fA),vq,ym⟩:=ar al Tryz.f108
theorem B2:az 51 ⟨(.pair (.slice sV) fA),(.pair (.slice sV) vq),oD⟩:=ar (ag Qp al) Tryz.f51
theorem yK:az 61 ⟨(.pair Eu fA),vq,jn⟩:=ar al Tryz.f61
theorem Ej:az 67 ⟨(.pair Eu vq),fA,qt⟩:=ar al Tryz.f67
theorem Qq:az 201 ⟨fA,nW,tU⟩:=ar al Tryz.f201
theorem Qr:az 202 ⟨fA,nW,tV⟩:=ar al Tryz.f202
theorem Ek:az 299 ⟨fA,(.pair (.int .i64) nW),l7⟩:=ar al Tryz.f299
theorem Lb:az 259 ⟨fA,vq,e9⟩:=ar (ag Ek al) Tryz.f259
theorem TH:az 260 ⟨fA,vq,vF⟩:=ar al Tryz.f260
theorem Qs:az 261 ⟨fA,(.pair .str nW),nI⟩:=ar al Tryz.f261
theorem MI:az 300 ⟨vi,nW,lE⟩:=ar al Tryz.f300
theorem VW:az 301 ⟨Qe,nW,pf⟩:=ar al Tryz.f301
theorem TI:az 262 ⟨(.pair Zo vq),nW,sG⟩:=ar (ag MI<|ag VW al) Tryz.f262
theorem Qt:az 203 ⟨fA,(.pair Zo vq),nJ⟩:=ar (ag Lb<|ag TH<|ag Qs<|ag TI al) Tryz.f203
theorem MJ:az 204 ⟨vq,vq,lF⟩:=ar al Tryz.f204
theorem MK:az 137 ⟨fA,(.pair Tq nW),se⟩:=ar (ag Qq<|ag Qr<|ag Qt<|ag MJ al) Tryz.f137
theorem El:az 70 ⟨fA,(.pair Tq vq),kJ⟩:=ar (ag MK al) Tryz.f70
theorem jA:az 195 ⟨fA,yD,dP⟩:=ar al Tryz.f195
theorem Em:az 196 ⟨yD,fA,nk⟩:=ar al Tryz.f196
theorem so:az 133 ⟨fA,Mp,jy⟩:=ar (ag jA<|ag Em al) Tryz.f133
theorem Lc:az 257 ⟨Mp,nW,mK⟩:=ar al Tryz.f257
theorem En:az 197 ⟨fA,(.pair (.int .i64) fA),qe⟩:=ar (ag Lc al) Tryz.f197
theorem Ld:az 258 ⟨fA,nW,qd⟩:=ar al Tryz.f258
theorem Lf:az 198 ⟨fA,nW,uQ⟩:=ar (ag jA<|ag Ld al) Tryz.f198
theorem Lg:az 199 ⟨fA,nW,qk⟩:=ar al Tryz.f199
theorem wb:az 134 ⟨(.pair zk .unit),nW,ku⟩:=ar (ag so<|ag En<|ag Lf<|ag Lg al) Tryz.f134
theorem Eo:az 143 ⟨(.pair (.pair Zo fA) fA),(.pair zk .unit),qo⟩:=ar al Tryz.f143
theorem ML:az 205 ⟨fA,vi,rU⟩:=ar (ag jA<|ag Em<|ag Lf al) Tryz.f205
theorem yL:az 206 ⟨Mp,fA,nq⟩:=ar al Tryz.f206
theorem Lh:az 207 ⟨fA,nW,ke⟩:=ar (ag wb<|ag jA<|ag yL al) Tryz.f207
theorem Ep:az 138 ⟨(.pair (.pair Zo fA) .unit),(.pair (.int .i64)<|.pair .str nW),nG⟩:=ar (ag so<|ag wb<|ag Eo<|ag En<|ag ML<|ag yL<|ag Lh al) Tryz.f138
theorem B3:az 102 ⟨(.pair Tq .unit),nW,oy⟩:=ar (ag Ep al) Tryz.f102
theorem B4:az 46 ⟨fA,vq,oz⟩:=ar (ag El<|ag B3 al) Tryz.f46
theorem yM:az 200 ⟨K2,vq,gD⟩:=ar al Tryz.f200
theorem GQ:az 135 ⟨K2,nW,mP⟩:=ar (ag yM al) Tryz.f135
theorem zh:az 136 ⟨Mp,vq,kZ⟩:=ar (ag jA al) Tryz.f136
theorem rI:az 69 ⟨ud,nW,kI⟩:=ar (ag so<|ag wb<|ag GQ<|ag zh al) Tryz.f69
theorem MM:az 263 ⟨Mp,nW,rV⟩:=ar (ag jA al) Tryz.f263
theorem tm:az 208 ⟨(.pair (.slice zk)<|.pair .str nW),ud,iN⟩:=ar (ag MM al) Tryz.f208
theorem Li:az 139 ⟨K2,ud,ql⟩:=ar (ag rI<|ag tm al) Tryz.f139
theorem MN:az 140 ⟨K2,ud,sb⟩:=ar (ag rI<|ag tm al) Tryz.f140
theorem GR:az 142 ⟨(.pair (.slice zk)<|.pair zk .unit),Bn,mQ⟩:=ar (ag rI<|ag so<|ag wb<|ag GQ<|ag zh<|ag yM<|ag tm al) Tryz.f142
theorem Qu:az 209 ⟨K2,(.pair zk nW),tR⟩:=ar (ag rI<|ag yM al) Tryz.f209
theorem Qv:az 141 ⟨K2,Bn,tT⟩:=ar (ag GR<|ag jA<|ag yL<|ag Qu al) Tryz.f141
theorem TJ:az 71 ⟨(.pair (.slice zk)<|.pair Tq .unit),Bn,vN⟩:=ar (ag rI<|ag B3<|ag Ep<|ag Li<|ag MN<|ag Qv<|ag GR<|ag Eo al) Tryz.f71
theorem B5:az 17 ⟨K2,Bn,lJ⟩:=ar (ag B4<|ag rI<|ag El<|ag TJ al) Tryz.f17
theorem TK:az 68 ⟨yD,Bn,vR⟩:=ar (ag B5 al) Tryz.f68
theorem Er:az 16 ⟨(.pair Eu fA),Bn,kK⟩:=ar (ag B2<|ag yK<|ag Ej<|ag TK al) Tryz.f16
theorem MO:az 116 ⟨Qd,vq,si⟩:=ar (ag B2 al) Tryz.f116
theorem Lj:az 60 ⟨Qf,nW,qu⟩:=ar (ag Er<|ag B4<|ag La<|ag MO al) Tryz.f60
theorem TL:az 11 ⟨Qf,nW,kv⟩:=ar (ag MH<|ag Lj<|ag yK al) Tryz.f11
theorem MP:az 15 ⟨(.pair Eu fA),(.pair sV<|.pair .str nW),oH⟩:=ar (ag yK<|ag Ej al) Tryz.f15
theorem Qw:az 18 ⟨(.pair (.slice zk) ud),nW,tQ⟩:=ar al Tryz.f18
theorem Bp:az 4 ⟨(.pair Eu<|.pair (.arr 2 .str) vq),nW,jJ⟩:=ar (ag Tu<|ag My<|ag zf<|ag Ei<|ag TL<|ag zg<|ag Aw<|ag oM<|ag MP<|ag Er<|ag B5<|ag Qw al) Tryz.f4
end Go.Proofs.YtdpbdiikloedbaaGreatDoor
