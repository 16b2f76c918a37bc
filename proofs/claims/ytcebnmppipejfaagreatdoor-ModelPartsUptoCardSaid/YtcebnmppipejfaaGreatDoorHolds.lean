import Derived.Test.YtcebnmppipejfaaGreatDoorFirst
import Derived.Test.YtcebnmppipejfaaGreatDoorBld
set_option linter.unusedVariables false
set_option linter.unusedSectionVars false
set_option linter.unusedSimpArgs false
set_option linter.defProp false
open Option renaming some->ab,none->ah
namespace Go.Proofs.YtcebnmppipejfaaGreatDoor
open Go Go.Ge
set_option maxRecDepth 100000
variable [Lp]
open First
def cy(s:List (Nat×Nat))(m:List Nat):Option LQ:=ab ⟨s,m,false⟩
def cz(s:List (Nat×Nat)):Option LQ:=ab ⟨s,[],false⟩
def fp(a:List (Option LQ)):FF:=⟨a,[]⟩
abbrev BL:Ty:=(.pair (.slice<|.pair .str<|.pair (.slice .str)<|.pair .str<|.pair .str<|.pair .str<|.pair (.slice<|.pair .str<|.pair .str<|.pair .str .unit) .unit)<|.pair (.slice<|.pair .str<|.pair (.slice .str)<|.pair .str<|.pair .str<|.pair (.slice<|.pair .str<|.pair .str<|.pair .str .unit) .unit)<|.pair (.slice<|.pair .str<|.pair .str<|.pair (.slice .str)<|.pair .str<|.pair (.int .i64)<|.pair (.int .i64)<|.pair .bool .unit)<|.pair (.slice .str)<|.pair (.slice<|.pair .str<|.pair (.int .i64) .unit) .unit)
abbrev YH1:Ty:=(.pair .str<|.pair .str<|.pair (.slice<|.pair .str<|.pair .str<|.pair .str .unit) .unit)
abbrev vA:Ty:=(.pair .str<|.pair .str<|.pair (.slice .str)<|.pair .str<|.pair (.int .i64)<|.pair (.int .i64)<|.pair .bool .unit)
abbrev BM:Ty:=(.pair .str<|.pair (.int .i64)<|.pair (.int .i64)<|.pair .str<|.pair .str .unit)
abbrev fW:Ty:=(.pair .str .unit)
abbrev uD:Ty:=(.pair (.int .i64) .unit)
abbrev YH6:Ty:=(.pair .str<|.pair (.int .i64)<|.pair (.int .i64)<|.pair (.int .i64)<|.pair (.int .i64)<|.pair (.int .i64)<|.pair (.int .i64) fW)
abbrev zd:Ty:=(.pair .str<|.pair (.slice .str)<|.pair .str YH1)
abbrev y7:Ty:=(.pair .str<|.pair (.slice .str) YH1)
abbrev YH9:Ty:=(.pair (.int .i64)<|.pair (.int .i64)<|.pair .str<|.pair .str<|.pair (.slice .str)<|.pair .str<|.pair .str uD)
abbrev kI:Ty:=(.pair .str<|.pair .str fW)
abbrev KD:Ty:=(.pair (.int .i64)<|.pair .str<|.pair (.int .i64) fW)
abbrev er:Ty:=(.pair .bool .unit)
abbrev xR:Ty:=(.pair (.slice .str) .unit)
abbrev ix:Ty:=(.pair .str uD)
abbrev wG:Ty:=(.pair (.slice BM) .unit)
abbrev adi:Ty:=(.alt 322 fW<|.alt 324 fW<|.alt 326 .unit<|.alt 328 (.pair BM .unit) .BH)
abbrev agD:Ty:=(.pair (.int .i64)<|.pair (.slice vA)<|.pair (.slice y7)<|.pair (.slice zd) .unit)
abbrev DT:Ty:=(.pair (.slice BM) uD)
abbrev KE:Ty:=(.pair BL<|.pair KD .unit)
abbrev Fo:Ty:=(.pair (.int .i64) uD)
abbrev Om:Ty:=(.slice<|.pair .str xR)
abbrev CQ:Ty:=(.pair BL .unit)
abbrev On:Ty:=(.pair (.slice BM) fW)
abbrev aiv:Ty:=(.pair .bool<|.pair .str<|.pair (.int .i64)<|.pair .bool er)
abbrev agE:Ty:=(.pair (.arr 8<|.int .u32) .unit)
abbrev TI:Ty:=(.pair (.slice vA) .unit)
abbrev WR:Ty:=(.slice<|.pair YH6 fW)
abbrev Zt:Ty:=(.pair (.slice kI) .unit)
abbrev adj:Ty:=(.pair BL<|.pair YH9 .unit)
abbrev Zu:Ty:=(.pair (.int .u8) .unit)
abbrev adk:Ty:=(.pair (.slice ix) .unit)
abbrev WS:Ty:=(.slice<|.int .i64)
abbrev ajW:Ty:=(.pair (.pair .bool agE)<|.pair (.arr 64<|.int .u8) uD)
abbrev TJ:Ty:=(.pair .str fW)
abbrev adl:Ty:=(.pair (.int .i64) fW)
abbrev ajX:Ty:=(.pair BL<|.pair .str<|.pair (.slice .str) ix)
abbrev agF:Ty:=(.pair (.slice zd) .unit)
abbrev agG:Ty:=(.pair (.slice y7) .unit)
noncomputable def fJ:Nat->FF
 | 5=>fp [ah]
 | 9=>⟨[cy [(6,32),(12,3)] [2,6],ah],[6]⟩
 | 12=>fp [ah,cz [(4,4),(5,3)],ah,ah]
 | 13=>fp [ah,ah,ah,ah,ah,ah,ah,ah,ah,ah,cz [(104,4)],ah,cz [(112,4)],cz [(112,4)],ah]
 | 14=>fp [ah,cz [(2,4),(3,3)],ah,ah,cz [(2,4),(4,3)],ah,cz [(6,4),(7,3)],ah,ah,cz [(2,4),(8,3)],ah,ah]
 | 15=>fp [cz [(2,4),(3,3)],ah,ah]
 | 17=>fp [ah,cz [(4,4),(5,3)],ah,ah]
 | 18=>fp [cz [(5,4)],cz [(5,4)],ah,ah,ah,cz [(16,4)],cz [(16,4)],cz [(16,4)],cz [(16,4)],ah,cz [(23,4)],ah,cz [(29,4)],cz [(29,4)],ah]
 | 22=>fp [ah,cz [(4,4),(5,3)],ah,ah]
 | 23=>⟨[cz [(4,28),(5,9)],ah,ah,ah,cy [(10,28),(64,3)] [10],ah],[10]⟩
 | 25=>⟨[cy [] [7],cy [] [7],cy [] [7],ah,cy [(47,3)] [7],ah,cy [] [7]],[8000000]⟩
 | 27=>⟨[cy [] [8],cy [] [8],cy [] [8],ah,cy [(54,3)] [8],ah,cy [] [8]],[8000000]⟩
 | 30=>fp [ah,cz [(4,4),(5,3)],ah,ah]
 | 31=>fp [ah,cz [(4,4),(5,3)],ah,ah]
 | 32=>fp [ah,cz [(4,4),(5,3)],ah,ah]
 | 33=>fp [ah,cz [(4,4),(5,3)],ah,ah]
 | 34=>⟨[ah,cy [] [8]],[36]⟩
 | 35=>fp [ah,ah]
 | 36=>fp [ah]
 | 37=>fp [ah,ah,ah]
 | 40=>fp [ah,cy [(13,37)] [12],cz [(13,37)],cy [(13,37)] [12],ah]
 | 41=>fp [ah,ah]
 | 42=>fp [ah,cy [(13,37)] [12],cz [(13,37)],cy [(13,37)] [12],ah,cy [] [14],ah]
 | 43=>fp [ah,ah]
 | 44=>fp [ah,ah,ah,ah,ah]
 | 45=>fp [ah,ah,ah,cz [(8,37)],ah,cy [] [2]]
 | 47=>fp [ah,cz [(4,37),(6,3)],ah,ah,cz [(4,37),(7,3)],ah,ah,cz [(4,37),(8,3)],ah,ah,cz [(4,37),(11,3)],ah,ah,cz [(4,37),(12,3)],ah,cz [(4,37),(13,3)],ah,ah]
 | 48=>fp [ah,cz [(2,4),(3,3)],ah,ah,ah]
 | 49=>fp [cz [(4,3),(5,3)],ah,ah]
 | 50=>fp [cz [(2,4),(3,3)],ah,ah,cz [(2,4),(4,3)],ah,ah,cz [(2,4),(5,3)],ah,ah]
 | 51=>fp [cz [(2,4),(3,3)],ah,ah]
 | 52=>fp [cz [(2,4),(3,3)],ah,ah]
 | 53=>fp [ah]
 | 56=>⟨[cy [(4,27),(5,37),(6,27),(7,9)] [6],cy [(4,27),(5,37),(6,27),(7,9),(13,3)] [6],ah,ah,ah,ah],[6]⟩
 | 58=>⟨[ab ⟨[(1,9),(4,27),(5,37),(6,27),(7,3)],[6],true⟩,ah,ah,ah,ah],[6]⟩
 | 59=>fp [cy [(9,3)] [3],ah]
 | 60=>⟨[ah],[5]⟩
 | 61=>⟨[ah],[5]⟩
 | 62=>⟨[ah],[5]⟩
 | 63=>⟨[ah],[5]⟩
 | 67=>fp [ah]
 | 82=>fp [ah,cz [(4,4),(5,3)],ah,ah]
 | 83=>⟨[cy [] [6000008],ah,ah],[5000000,7000037]⟩
 | 85=>⟨[ah],[7]⟩
 | 86=>⟨[ah],[7000037]⟩
 | 87=>fp [ah]
 | 88=>fp [cy [(3,37)] [2]]
 | 90=>fp [ah,cy [(6,37),(21,3)] [5],ah,ah]
 | 93=>fp [ah,cy [(4,9),(5,37),(17,3),(0,999999)] [0],ah,ah]
 | 94=>⟨[ah],[7000037]⟩
 | 95=>⟨[ah,cz [(4,37)]],[7000037]⟩
 | 96=>fp [ah]
 | 97=>fp [ah]
 | 101=>fp [cz [(7,3)]]
 | 103=>fp [ah]
 | 105=>⟨[ah,cy [(8,25),(28,3)] [8,2000026],ah],[8]⟩
 | 106=>⟨[ah],[6]⟩
 | 107=>fp [cy [(11,3)] [4],ah,cz [(7,9)]]
 | 108=>fp [ah,ah,ah]
 | 115=>⟨[cy [(7,26)] [7,8]],[10]⟩
 | 119=>fp [cy [(5,4),(11,3)] [4],ah,ah]
 | 120=>⟨[cz [(5,3)]],[8000000]⟩
 | 122=>fp [ah]
 | 123=>⟨[cy [(5,25)] [5,6]],[9,8000000]⟩
 | 124=>⟨[ah,ah,cy [(7,28),(27,3)] [7],ah,cy [(7,28)] [7],ah,ah],[7]⟩
 | 126=>fp [ah]
 | 127=>fp [ah]
 | 128=>fp [ah,ah]
 | 129=>⟨[cy [(8,3)] [3],ah],[4000014]⟩
 | 130=>⟨[ah,ah],[43,8000000]⟩
 | 134=>⟨[cy [(4,28),(5,28),(6,3)] [4,5],ah,cy [(4,28),(5,28),(7,3)] [4,5],ah,cy [(4,28),(5,28),(8,3)] [4,5],ah],[4,5]⟩
 | 135=>fp [cz [(2,37),(3,3)],ah,ah]
 | 137=>fp [ah]
 | 138=>⟨[ah,cy [(8,28),(9,3)] [8],ah],[8]⟩
 | 139=>fp [cz [(2,4),(3,3)],ah,ah]
 | 140=>fp [cz [(2,4),(3,3)],ah,ah]
 | 141=>fp [cz [(4,3),(8,3)],ah,ah]
 | 142=>⟨[ah],[5]⟩
 | 145=>fp [cz [(4,3),(5,3)],ah,ah]
 | 146=>fp [cz [(4,3),(8,3)],ah,ah]
 | 150=>fp [ah]
 | 156=>fp [ah,ah]
 | 186=>⟨[cy [(5,161),(6,0),(7,4)] [4,5,6],ah,ah],[5,6]⟩
 | 187=>⟨[cy [(2,164),(3,4),(4,164),(11,3)] [4],ah,ah],[4]⟩
 | 190=>⟨[cy [] [5,6],cy [(20,3)] [5,6],ah,cy [] [5,6],cy [(36,3)] [5,6],ah,cy [] [5,6],cy [(52,3)] [5,6],ah,cy [] [5,6,12]],[5]⟩
 | 194=>fp [ah,cz [(2,37),(12,3)],ah,ah]
 | 195=>⟨[ah,ah,cy [(8,22),(30,3),(6,999999),(28,999999)] [6,8,28,2000008],ah,cy [(4,22),(5,27),(8,22),(40,3),(38,999999)] [8,38],ah,ah],[25]⟩
 | 198=>fp [cy [(9,3)] [3],ah]
 | 199=>⟨[cy [(4,3),(8,3)] [1],ah,ah],[7000003]⟩
 | 201=>⟨[],[8]⟩
 | 202=>⟨[],[8]⟩
 | 210=>⟨[ah],[9]⟩
 | 211=>⟨[ah],[9]⟩
 | 212=>⟨[cy [(7,26)] [4,7,2000007],cz [(8,3)]],[11]⟩
 | 213=>fp [cy [(2,3),(3,3),(0,999999)] [0,3999999],ah]
 | 214=>fp [cz [(2,96),(3,37),(4,96),(11,3)],ah,ah]
 | 216=>fp [cy [(0,96),(1,96)] [2,3,4],ah,cz [(10,3)],cz [(10,3)],cy [] [2,3,4],cy [] [3,4],cz [(0,96)],cz [(1,96)]]
 | 218=>fp [cy [] [2]]
 | 222=>⟨[ah],[5]⟩
 | 223=>fp [cz [(8,3)]]
 | 224=>fp [cy [(4,3),(8,3)] [1],ah,ah]
 | 232=>fp [cy [(4,3),(8,3)] [1],ah,ah]
 | 239=>fp [cz [(8,3)]]
 | 243=>fp [cz [(2,4),(3,3)],ah,ah,cz [(2,4),(4,3)],ah,ah]
 | 244=>fp [ah,ah]
 | 245=>fp [cz [(2,4),(3,3)],ah,ah]
 | 246=>fp [cy [(5,3)] [3],ah,cy [(7,3)] [6],ah]
 | 247=>⟨[cy [(3,180),(4,3)] [3],ah],[3]⟩
 | 248=>fp [ah]
 | 249=>fp [cz [(2,4),(3,3)],ah,ah]
 | 250=>fp [cz [(2,96),(3,37),(4,96),(5,3)],ah,ah]
 | 257=>fp [ah,cz [(2,4),(3,3)],ah,ah]
 | 258=>fp [ah,ah,cz [(0,96),(6,3)],ah,cz [(0,96)],cz [(0,96)],cz [(0,96),(4,96),(5,37),(10,3)],ah,ah,ah,ah]
 | 259=>fp [ah]
 | 263=>fp [cz [(2,4),(3,3)],ah,ah]
 | 266=>fp [cy [(4,3),(8,3)] [1],ah,ah]
 | 267=>fp [ah,ah,ah]
 | 269=>fp [ah,ah,ah,ah]
 | 271=>fp [ah,ah,ah,ah,ah]
 | 275=>fp [ah]
 | 276=>fp [ah,ah,ah,ah]
 | 278=>fp [ah,ah,ah]
 | 282=>fp [ah,cy [(1,9)] [0],ah,cy [] [0]]
 | 283=>fp [cy [] [3],cy [] [3],ah,cy [(26,3)] [5],ah,cy [(41,3)] [7],ah]
 | 287=>fp [cy [(4,3),(8,3)] [1],ah,ah]
 | 288=>fp [cy [(4,3),(8,3)] [1],ah,ah]
 | 292=>fp [ah,cy [(5,3),(6,3),(0,999999)] [0,1],ah,cy [(5,3),(0,999999)] [0]]
 | 295=>⟨[],[8]⟩
 | 303=>fp [cy [(4,3),(8,3)] [1],ah,ah]
 | 305=>⟨[cy [(7,67)] [7,8]],[10]⟩
 | 308=>⟨[ah,cy [(2,9),(3,4),(4,180),(5,3)] [4],ah,ah],[4]⟩
 | 310=>fp [cy [(3,180)] [0,3],ah,cy [(3,180),(5,3)] [3],ah]
 | 311=>fp [cy [(6,3)] [5],ah,cy [(7,3)] [5],ah,cy [(12,3)] [11],ah,cy [(17,3)] [11],ah]
 | 312=>fp [ah]
 | 313=>⟨[ah,ab ⟨[(0,9),(2,161),(3,4),(4,161)],[4],true⟩,ah,ah,ah],[4]⟩
 | 314=>fp [ah,ah,ah,ah]
 | 315=>fp [ah]
 | 316=>fp [ah,ah,ah]
 | 318=>fp [cz [(4,3),(7,3)],ah,ah,ah,ah,ah]
 | 319=>fp [ah]
 | 320=>fp [ah]
 | 321=>fp [cz [(0,96),(4,96),(5,37),(7,9),(8,3)],ah,ah,ah]
 | 322=>⟨[ah,ah,ah,ab ⟨[(8,22),(0,999999)],[0],true⟩,ab ⟨[(8,22),(0,999999)],[0],true⟩,ah,cz [(12,3)],ah],[10,11]⟩
 | 324=>fp [cz [(4,3),(5,3)],ah,ah]
 | 336=>fp [cz [(0,9)],ah]
 | 337=>fp [cz [(0,9)],ah]
 | 338=>fp [cy [(3,4),(4,3)] [2],ah,ah]
 | 339=>fp [cy [(0,9)] [1],ah,ah]
 | 340=>fp [cy [(0,9)] [1],ah,ah]
 | 345=>fp [ah,cz [(4,9)],cz [(71,4)],cy [] [10],cy [] [10],cy [] [10],ah]
 | 347=>⟨[cy [(2,9),(3,37),(4,28),(11,3)] [4],ah,cy [(2,9),(3,37),(4,28)] [4],ah,ah],[4]⟩
 | 348=>fp [ah,ah,ah]
 | 349=>fp [ah]
 | 351=>⟨[cy [(3,96),(6,9),(18,3)] [3],ah],[3]⟩
 | 352=>fp [ah,ah,ah,ah,ah]
 | 355=>fp [cy [(6,3),(13,3)] [2],ah,ah,ah,ah]
 | 356=>fp [ah]
 | 357=>fp [ah,ah,ah,ah,ah]
 | 362=>fp [cy [] [0],cz [(6,254),(7,254),(8,254),(9,254),(10,254),(11,254),(12,254),(13,254),(74,3)],ah,cy [(143,3)] [0],ah]
 | 375=>fp [cz [(2,3),(3,3)],ah,ah]
 | 378=>fp [cz [(2,4),(3,3)],ah,ah]
 | 379=>fp [ah,cz [(2,4),(3,3)],ah,ah]
 | 380=>fp [ah,cy [] [11],cz [(74,4)],cy [] [11],cy [] [11],cy [] [11],ah]
 | 381=>fp [cz [(0,3)],ah]
 | 382=>⟨[cy [(5,28),(6,3)] [5],ah,cy [(5,28)] [5],ah],[5]⟩
 | 383=>fp [ah,ah,ah]
 | 384=>fp [ah,ah]
 | 385=>fp [cz [(2,4),(4,9),(5,3)],ah,ah]
 | 386=>⟨[ah,cy [(3,28),(4,9),(5,3)] [3],ah,cy [(3,28),(4,9)] [3]],[3]⟩
 | 387=>fp [cz [(3,9),(4,3)],ah,cz [(3,9)]]
 | 388=>fp [cz [(2,4),(4,3)],ah,ah]
 | 389=>fp [cz [(2,4),(3,3)],ah,ah]
 | 390=>⟨[cy [(7,96),(8,3)] [7],ah,cy [(7,96)] [7]],[7]⟩
 | 402=>fp [ah]
 | 403=>fp [cz [(4,3),(12,3)],ah,cz [(6,5)]]
 | 405=>fp [ah,ah,ah,ah]
 | 406=>fp [cz [(2,4),(6,3)],ah,ah]
 | 408=>fp [cz [(4,3),(5,3)],ah,ah]
 | 409=>fp [cz [(9,254),(10,3)],ah,ah,cz [(4,3),(9,254),(11,3)],ah,ah]
 | 412=>fp [cy [(9,3),(10,3)] [1,2],ah,cz [(9,3),(10,3)]]
 | 417=>fp [cy [(12,3)] [3],ah,cy [(22,3)] [3],ah,cy [(7,3)] [3],ah]
 | 426=>fp [cz [(3,3)],ah,ah,cz [(2,3),(4,3)],ah,ah,ah]
 | 427=>fp [cz [(3,3),(4,3)],ah,cz [(3,3)]]
 | 428=>fp [cz [(2,9),(3,4),(4,3)],ah,ah,cz [(2,9),(3,4),(5,3)],ah,ah]
 | 429=>fp [cz [(5,4)]]
 | 431=>fp [cz [(2,4),(3,3)],ah,ah]
 | 432=>fp [ah,cz [(4,4),(7,3)],ah,ah]
 | 438=>fp [ah,ah,ah]
 | 439=>fp [ah,cz [(2,3),(3,4),(4,3),(18,3)],ah,ah]
 | 442=>fp [ah]
 | 443=>fp [cz [(4,254),(5,3)],ah,cz [(6,254),(7,254),(8,3)],ah,cz [(6,254)]]
 | 451=>fp [ah,cz [(2,3),(3,4),(4,3),(5,3)],ah,ah]
 | 452=>fp [cz [(4,4),(5,3)],ah,ah]
 | 485=>⟨[ah],[9]⟩
 | 488=>fp [ah,cy [(5,3),(6,3),(0,999999)] [0,1],ah,cy [(5,3),(0,999999)] [0]]
 | 489=>⟨[ah],[5]⟩
 | 491=>fp [ah,cz [(4,4),(13,3)],ah,ah]
 | 492=>fp [cy [(4,3),(8,3)] [1],ah,ah]
 | 500=>fp [cz [(1,96),(4,96),(5,37),(6,9),(25,3)],ah,ah,ah]
 | 501=>fp [ah,ah]
 | 502=>⟨[ah,ah,ah,ah],[55]⟩
 | _=>⟨[],[]⟩
def sO:List (Nat×List DH):=[(203,[.self,.buf (.int .u8) 5]),(326,[])]
def Up:List (Nat×Nat):=[(180,5),(157,99)]
noncomputable def T4:List (Nat×Spc):=[(221,.str 203 5),(296,.chk 203),(60,.clone zd),(61,.clone y7),(62,.clone ix),(63,.clone vA),(142,.clone .str),(222,.clone kI),(489,.clone BM),(181,(.own .str .unit false eo)),(182,(.own .str .unit true eK)),(226,(.own y7 Fo true bk)),(228,(.own zd (.pair (.int .i64) agF) true bY)),(231,(.own zd Fo true cH)),(285,(.own .str (.pair (.int .i64) xR) true e9)),(286,(.own vA (.pair (.int .i64) TI) true dI)),(290,(.own .str Fo true fa)),(291,(.own vA Fo true dJ)),(298,(.own y7 (.pair (.int .i64) agG) true bH)),(307,(.own kI (.pair (.int .i64) Zt) true aO)),(367,(.own ix (.pair (.int .i64) adk) true fg)),(372,(.own kI Fo true bC)),(503,(.own BM (.pair (.int .i64) wG) true bb))]
noncomputable def tys:List (Nat×Ty):=[(3,(.int .i64)),(4,.bool),(5,(.int .u8)),(9,.str),(21,(.int .i32)),(22,(.slice YH9)),(25,(.slice zd)),(26,(.slice y7)),(27,(.slice vA)),(28,(.slice .str)),(29,(.slice ix)),(31,BL),(32,(.slice KD)),(37,(.int .i64)),(39,KD),(43,YH9),(48,WS),(66,agD),(67,(.slice kI)),(69,y7),(72,zd),(74,ix),(85,vA),(86,(.arr 4 .bool)),(96,(.slice BM)),(102,Om),(113,(.slice adl)),(125,(.int .u64)),(139,(.arr 4<|.int .i64)),(156,kI),(161,WR),(164,(.slice adi)),(169,(.pair .str xR)),(178,(.arr 32<|.int .u8)),(180,(.slice<|.int .u8)),(193,adl),(197,BM),(200,(.arr 4 .str)),(233,YH6),(235,(.pair YH6 fW)),(239,adi),(254,(.int .u32)),(255,(.arr 8<|.int .u32)),(257,(.pair .bool agE)),(258,(.arr 64<|.int .u8)),(260,ajW),(295,(.int .i64)),(304,(.int .u64)),(307,(.arr 256 .bool)),(313,aiv),(322,fW),(324,fW),(328,(.pair BM .unit)),(339,(.arr 8<|.int .u8)),(349,(.arr 64<|.int .u32)),(354,(.int .u64)),(380,Fo),(381,(.arr 11 Fo)),(386,(.arr 2 .str)),(391,(.arr 256<|.int .u8)),(393,(.pair (.int .u8) Zu)),(394,(.arr 16<|.pair (.int .u8) Zu))]
noncomputable def AW:List (Nat×Func):=[(5,Tryz.f5),(8,Tryz.f8),(9,Tryz.f9),(11,Tryz.f11),(12,Tryz.f12),(13,Tryz.f13),(14,Tryz.f14),(15,Tryz.f15),(16,Tryz.f16),(17,Tryz.f17),(18,Tryz.f18),(20,Tryz.f20),(22,Tryz.f22),(23,Tryz.f23),(25,Tryz.f25),(27,Tryz.f27),(30,Tryz.f30),(31,Tryz.f31),(32,Tryz.f32),(33,Tryz.f33),(34,Tryz.f34),(35,Tryz.f35),(36,Tryz.f36),(37,Tryz.f37),(38,Tryz.f38),(39,Tryz.f39),(40,Tryz.f40),(41,Tryz.f41),(42,Tryz.f42),(43,Tryz.f43),(44,Tryz.f44),(45,Tryz.f45),(46,Tryz.f46),(47,Tryz.f47),(48,Tryz.f48),(49,Tryz.f49),(50,Tryz.f50),(51,Tryz.f51),(52,Tryz.f52),(53,Tryz.f53),(54,Tryz.f54),(55,Tryz.f55),(56,Tryz.f56),(58,Tryz.f58),(59,Tryz.f59),(60,Tryz.f60),(61,Tryz.f61),(62,Tryz.f62),(63,Tryz.f63),(64,Tryz.f64),(67,Tryz.f67),(82,Tryz.f82),(83,Tryz.f83),(84,Tryz.f84),(85,Tryz.f85),(86,Tryz.f86),(87,Tryz.f87),(88,Tryz.f88),(89,Tryz.f89),(90,Tryz.f90),(91,Tryz.f91),(92,Tryz.f92),(93,Tryz.f93),(94,Tryz.f94),(95,Tryz.f95),(96,Tryz.f96),(97,Tryz.f97),(98,Tryz.f98),(99,Tryz.f99),(100,Tryz.f100),(101,Tryz.f101),(102,Tryz.f102),(103,Tryz.f103),(104,Tryz.f104),(105,Tryz.f105),(106,Tryz.f106),(107,Tryz.f107),(108,Tryz.f108),(109,Tryz.f109),(110,Tryz.f110),(111,Tryz.f111),(112,Tryz.f112),(113,Tryz.f113),(114,Tryz.f114),(115,Tryz.f115),(116,Tryz.f116),(117,Tryz.f117),(118,Tryz.f118),(119,Tryz.f119),(120,Tryz.f120),(121,Tryz.f121),(122,Tryz.f122),(123,Tryz.f123),(124,Tryz.f124),(125,Tryz.f125),(126,Tryz.f126),(127,Tryz.f127),(128,Tryz.f128),(129,Tryz.f129),(130,Tryz.f130),(131,Tryz.f131),(132,Tryz.f132),(133,Tryz.f133),(134,Tryz.f134),(135,Tryz.f135),(136,Tryz.f136),(137,Tryz.f137),(138,Tryz.f138),(139,Tryz.f139),(140,Tryz.f140),(141,Tryz.f141),(142,Tryz.f142),(145,Tryz.f145),(146,Tryz.f146),(147,Tryz.f147),(148,Tryz.f148),(149,Tryz.f149),(150,Tryz.f150),(156,Tryz.f156),(183,Tryz.f183),(184,Tryz.f184),(185,Tryz.f185),(186,Tryz.f186),(187,Tryz.f187),(188,Tryz.f188),(189,Tryz.f189),(190,Tryz.f190),(191,Tryz.f191),(192,Tryz.f192),(193,Tryz.f193),(194,Tryz.f194),(195,Tryz.f195),(197,Tryz.f197),(198,Tryz.f198),(199,Tryz.f199),(200,Tryz.f200),(201,Tryz.f201),(202,Tryz.f202),(203,Tryz.f203),(204,Tryz.f204),(205,Tryz.f205),(206,Tryz.f206),(207,Tryz.f207),(208,Tryz.f208),(209,Tryz.f209),(210,Tryz.f210),(211,Tryz.f211),(212,Tryz.f212),(213,Tryz.f213),(214,Tryz.f214),(215,Tryz.f215),(216,Tryz.f216),(217,Tryz.f217),(218,Tryz.f218),(219,Tryz.f219),(220,Tryz.f220),(222,Tryz.f222),(223,Tryz.f223),(224,Tryz.f224),(225,Tryz.f225),(227,Tryz.f227),(229,Tryz.f229),(230,Tryz.f230),(232,Tryz.f232),(233,Tryz.f233),(234,Tryz.f234),(235,Tryz.f235),(236,Tryz.f236),(237,Tryz.f237),(238,Tryz.f238),(239,Tryz.f239),(241,Tryz.f241),(242,Tryz.f242),(243,Tryz.f243),(244,Tryz.f244),(245,Tryz.f245),(246,Tryz.f246),(247,Tryz.f247),(248,Tryz.f248),(249,Tryz.f249),(250,Tryz.f250),(253,Tryz.f253),(257,Tryz.f257),(258,Tryz.f258),(259,Tryz.f259),(263,Tryz.f263),(266,Tryz.f266),(267,Tryz.f267),(268,Tryz.f268),(269,Tryz.f269),(270,Tryz.f270),(271,Tryz.f271),(272,Tryz.f272),(273,Tryz.f273),(274,Tryz.f274),(275,Tryz.f275),(276,Tryz.f276),(277,Tryz.f277),(278,Tryz.f278),(282,Tryz.f282),(283,Tryz.f283),(284,Tryz.f284),(287,Tryz.f287),(288,Tryz.f288),(289,Tryz.f289),(292,Tryz.f292),(293,Tryz.f293),(294,Tryz.f294),(295,Tryz.f295),(297,Tryz.f297),(299,Tryz.f299),(302,Tryz.f302),(303,Tryz.f303),(304,Tryz.f304),(305,Tryz.f305),(306,Tryz.f306),(308,Tryz.f308),(309,Tryz.f309),(310,Tryz.f310),(311,Tryz.f311),(312,Tryz.f312),(313,Tryz.f313),(314,Tryz.f314),(315,Tryz.f315),(316,Tryz.f316),(317,Tryz.f317),(318,Tryz.f318),(319,Tryz.f319),(320,Tryz.f320),(321,Tryz.f321),(322,Tryz.f322),(323,Tryz.f323),(324,Tryz.f324),(336,Tryz.f336),(337,Tryz.f337),(338,Tryz.f338),(339,Tryz.f339),(340,Tryz.f340),(343,Tryz.f343),(344,Tryz.f344),(345,Tryz.f345),(346,Tryz.f346),(347,Tryz.f347),(348,Tryz.f348),(349,Tryz.f349),(350,Tryz.f350),(351,Tryz.f351),(352,Tryz.f352),(353,Tryz.f353),(354,Tryz.f354),(355,Tryz.f355),(356,Tryz.f356),(357,Tryz.f357),(358,Tryz.f358),(362,Tryz.f362),(375,Tryz.f375),(376,Tryz.f376),(377,Tryz.f377),(378,Tryz.f378),(379,Tryz.f379),(380,Tryz.f380),(381,Tryz.f381),(382,Tryz.f382),(383,Tryz.f383),(384,Tryz.f384),(385,Tryz.f385),(386,Tryz.f386),(387,Tryz.f387),(388,Tryz.f388),(389,Tryz.f389),(390,Tryz.f390),(396,Tryz.f396),(397,Tryz.f397),(401,Tryz.f401),(402,Tryz.f402),(403,Tryz.f403),(404,Tryz.f404),(405,Tryz.f405),(406,Tryz.f406),(407,Tryz.f407),(408,Tryz.f408),(409,Tryz.f409),(412,Tryz.f412),(413,Tryz.f413),(415,Tryz.f415),(416,Tryz.f416),(417,Tryz.f417),(418,Tryz.f418),(426,Tryz.f426),(427,Tryz.f427),(428,Tryz.f428),(429,Tryz.f429),(430,Tryz.f430),(431,Tryz.f431),(432,Tryz.f432),(437,Tryz.f437),(438,Tryz.f438),(439,Tryz.f439),(440,Tryz.f440),(441,Tryz.f441),(442,Tryz.f442),(443,Tryz.f443),(446,Tryz.f446),(451,Tryz.f451),(452,Tryz.f452),(453,Tryz.f453),(482,Tryz.f482),(483,Tryz.f483),(484,Tryz.f484),(485,Tryz.f485),(486,Tryz.f486),(487,Tryz.f487),(488,Tryz.f488),(489,Tryz.f489),(490,Tryz.f490),(491,Tryz.f491),(492,Tryz.f492),(493,Tryz.f493),(494,Tryz.f494),(495,Tryz.f495),(496,Tryz.f496),(497,Tryz.f497),(498,Tryz.f498),(499,Tryz.f499),(500,Tryz.f500),(501,Tryz.f501),(502,Tryz.f502)]
def rC:List Nat:=[99,120,122,131,140,141,151,160,173,187,194,198,199,201,218,230,242,245,246,268,273,277,311,337,358,369,371,375]
def zm:List Nat:=[201,230,273,311,337,358,371,375]
noncomputable def wF(b:List (Nat×BO))(a:List (Nat×BU))(c:List (String×BO):=[]):Ctx:=⟨tys,rC,zm,AW,b,a,sO,T4,Up,c⟩
def mix:Tryz.prog.follows .mixedOrders=true:=by kernel_rfl
def Zr:∀tid t,find tys tid=ab t->Den Tryz.prog t tid:=aeR (by kernel_rfl)
def G6:∀tid,dz rC tid=true->(∀w,(isAgg tid).run Tryz.prog w=.ok false w)/\(∀w,(Go.sizeOf tid).run Tryz.prog w=.ok 1 w)/\∃z,(∀w,(zeroValue tid).run Tryz.prog w=.ok z w)/\z.oneCell'=true:=aaa (by kernel_rfl)
def G7:∀tid,dz zm tid=true->∃e,Tryz.prog.underlying tid=ab (.pointer e):=aab (by kernel_rfl)
def Oh:∀f a,find AW f=ab a->Tryz.prog.funcs[f]?=ab a:=aeS ((ak Tryz.func5<|ak Tryz.func8<|ak Tryz.func9<|ak Tryz.func11<|ak Tryz.func12<|ak Tryz.func13<|ak Tryz.func14<|ak Tryz.func15<|ak Tryz.func16<|ak Tryz.func17<|ak Tryz.func18<|ak Tryz.func20<|ak Tryz.func22<|ak Tryz.func23<|ak Tryz.func25<|ak Tryz.func27<|ak Tryz.func30<|ak Tryz.func31<|ak Tryz.func32<|ak Tryz.func33<|ak Tryz.func34<|ak Tryz.func35<|ak Tryz.func36<|ak Tryz.func37<|ak Tryz.func38<|ak Tryz.func39<|ak Tryz.func40<|ak Tryz.func41<|ak Tryz.func42<|ak Tryz.func43<|ak Tryz.func44<|ak Tryz.func45<|ak Tryz.func46<|ak Tryz.func47<|ak Tryz.func48<|ak Tryz.func49<|ak Tryz.func50<|ak Tryz.func51<|ak Tryz.func52<|ak Tryz.func53<|ak Tryz.func54<|ak Tryz.func55<|ak Tryz.func56<|ak Tryz.func58<|ak Tryz.func59<|ak Tryz.func60<|ak Tryz.func61<|ak Tryz.func62<|ak Tryz.func63<|ak Tryz.func64<|ak Tryz.func67<|ak Tryz.func82<|ak Tryz.func83<|ak Tryz.func84<|ak Tryz.func85<|ak Tryz.func86<|ak Tryz.func87<|ak Tryz.func88<|ak Tryz.func89<|ak Tryz.func90<|ak Tryz.func91<|ak Tryz.func92<|ak Tryz.func93<|ak Tryz.func94<|ak Tryz.func95<|ak Tryz.func96<|ak Tryz.func97<|ak Tryz.func98<|ak Tryz.func99<|ak Tryz.func100<|ak Tryz.func101<|ak Tryz.func102<|ak Tryz.func103<|ak Tryz.func104<|ak Tryz.func105<|ak Tryz.func106<|ak Tryz.func107<|ak Tryz.func108<|ak Tryz.func109<|ak Tryz.func110<|ak Tryz.func111<|ak Tryz.func112<|ak Tryz.func113<|ak Tryz.func114<|ak Tryz.func115<|ak Tryz.func116<|ak Tryz.func117<|ak Tryz.func118<|ak Tryz.func119<|ak Tryz.func120<|ak Tryz.func121<|ak Tryz.func122<|ak Tryz.func123<|ak Tryz.func124<|ak Tryz.func125<|ak Tryz.func126<|ak Tryz.func127<|ak Tryz.func128<|ak Tryz.func129<|ak Tryz.func130<|ak Tryz.func131<|ak Tryz.func132<|ak Tryz.func133<|ak Tryz.func134<|ak Tryz.func135<|ak Tryz.func136<|ak Tryz.func137<|ak Tryz.func138<|ak Tryz.func139<|ak Tryz.func140<|ak Tryz.func141<|ak Tryz.func142<|ak Tryz.func145<|ak Tryz.func146<|ak Tryz.func147<|ak Tryz.func148<|ak Tryz.func149<|ak Tryz.func150<|ak Tryz.func156<|ak Tryz.func183<|ak Tryz.func184<|ak Tryz.func185<|ak Tryz.func186<|ak Tryz.func187<|ak Tryz.func188<|ak Tryz.func189<|ak Tryz.func190<|ak Tryz.func191<|ak Tryz.func192<|ak Tryz.func193<|ak Tryz.func194<|ak Tryz.func195<|ak Tryz.func197<|ak Tryz.func198<|ak Tryz.func199<|ak Tryz.func200<|ak Tryz.func201<|ak Tryz.func202<|ak Tryz.func203<|ak Tryz.func204<|ak Tryz.func205<|ak Tryz.func206<|ak Tryz.func207<|ak Tryz.func208<|ak Tryz.func209<|ak Tryz.func210<|ak Tryz.func211<|ak Tryz.func212<|ak Tryz.func213<|ak Tryz.func214<|ak Tryz.func215<|ak Tryz.func216<|ak Tryz.func217<|ak Tryz.func218<|ak Tryz.func219<|ak Tryz.func220<|ak Tryz.func222<|ak Tryz.func223<|ak Tryz.func224<|ak Tryz.func225<|ak Tryz.func227<|ak Tryz.func229<|ak Tryz.func230<|ak Tryz.func232<|ak Tryz.func233<|ak Tryz.func234<|ak Tryz.func235<|ak Tryz.func236<|ak Tryz.func237<|ak Tryz.func238<|ak Tryz.func239<|ak Tryz.func241<|ak Tryz.func242<|ak Tryz.func243<|ak Tryz.func244<|ak Tryz.func245<|ak Tryz.func246<|ak Tryz.func247<|ak Tryz.func248<|ak Tryz.func249<|ak Tryz.func250<|ak Tryz.func253<|ak Tryz.func257<|ak Tryz.func258<|ak Tryz.func259<|ak Tryz.func263<|ak Tryz.func266<|ak Tryz.func267<|ak Tryz.func268<|ak Tryz.func269<|ak Tryz.func270<|ak Tryz.func271<|ak Tryz.func272<|ak Tryz.func273<|ak Tryz.func274<|ak Tryz.func275<|ak Tryz.func276<|ak Tryz.func277<|ak Tryz.func278<|ak Tryz.func282<|ak Tryz.func283<|ak Tryz.func284<|ak Tryz.func287<|ak Tryz.func288<|ak Tryz.func289<|ak Tryz.func292<|ak Tryz.func293<|ak Tryz.func294<|ak Tryz.func295<|ak Tryz.func297<|ak Tryz.func299<|ak Tryz.func302<|ak Tryz.func303<|ak Tryz.func304<|ak Tryz.func305<|ak Tryz.func306<|ak Tryz.func308<|ak Tryz.func309<|ak Tryz.func310<|ak Tryz.func311<|ak Tryz.func312<|ak Tryz.func313<|ak Tryz.func314<|ak Tryz.func315<|ak Tryz.func316<|ak Tryz.func317<|ak Tryz.func318<|ak Tryz.func319<|ak Tryz.func320<|ak Tryz.func321<|ak Tryz.func322<|ak Tryz.func323<|ak Tryz.func324<|ak Tryz.func336<|ak Tryz.func337<|ak Tryz.func338<|ak Tryz.func339<|ak Tryz.func340<|ak Tryz.func343<|ak Tryz.func344<|ak Tryz.func345<|ak Tryz.func346<|ak Tryz.func347<|ak Tryz.func348<|ak Tryz.func349<|ak Tryz.func350<|ak Tryz.func351<|ak Tryz.func352<|ak Tryz.func353<|ak Tryz.func354<|ak Tryz.func355<|ak Tryz.func356<|ak Tryz.func357<|ak Tryz.func358<|ak Tryz.func362<|ak Tryz.func375<|ak Tryz.func376<|ak Tryz.func377<|ak Tryz.func378<|ak Tryz.func379<|ak Tryz.func380<|ak Tryz.func381<|ak Tryz.func382<|ak Tryz.func383<|ak Tryz.func384<|ak Tryz.func385<|ak Tryz.func386<|ak Tryz.func387<|ak Tryz.func388<|ak Tryz.func389<|ak Tryz.func390<|ak Tryz.func396<|ak Tryz.func397<|ak Tryz.func401<|ak Tryz.func402<|ak Tryz.func403<|ak Tryz.func404<|ak Tryz.func405<|ak Tryz.func406<|ak Tryz.func407<|ak Tryz.func408<|ak Tryz.func409<|ak Tryz.func412<|ak Tryz.func413<|ak Tryz.func415<|ak Tryz.func416<|ak Tryz.func417<|ak Tryz.func418<|ak Tryz.func426<|ak Tryz.func427<|ak Tryz.func428<|ak Tryz.func429<|ak Tryz.func430<|ak Tryz.func431<|ak Tryz.func432<|ak Tryz.func437<|ak Tryz.func438<|ak Tryz.func439<|ak Tryz.func440<|ak Tryz.func441<|ak Tryz.func442<|ak Tryz.func443<|ak Tryz.func446<|ak Tryz.func451<|ak Tryz.func452<|ak Tryz.func453<|ak Tryz.func482<|ak Tryz.func483<|ak Tryz.func484<|ak Tryz.func485<|ak Tryz.func486<|ak Tryz.func487<|ak Tryz.func488<|ak Tryz.func489<|ak Tryz.func490<|ak Tryz.func491<|ak Tryz.func492<|ak Tryz.func493<|ak Tryz.func494<|ak Tryz.func495<|ak Tryz.func496<|ak Tryz.func497<|ak Tryz.func498<|ak Tryz.func499<|ak Tryz.func500<|ak Tryz.func501<|ak Tryz.func502 aac))
def G8:∀tid a,find sO tid=ab a->LY Tryz.prog tid a=true:=aad (by kernel_rfl)
def Oi:∀tid e,find Up tid=ab e->Tryz.prog.underlying tid=ab (.slice e):=aeT (by kernel_rfl)
def Bt(b:List (Nat×BO))(a:List (Nat×BU))(c:List (String×BO):=[]):fX Tryz.prog (wF b a c):=⟨Zr,G6,G7,Oh,G8,Oi⟩
noncomputable def cx0:Ctx:=⟨tys,rC,zm,AW,[],[],sO,[],Up,[]⟩
def AX:fX Tryz.prog cx0:=⟨Zr,G6,G7,Oh,G8,Oi⟩
def tL:fv Tryz.prog 60 (.clone zd):=by
 refine rh (P:=Tryz.prog) (cx:=cx0) (bf:=[2,5]) (e:=zd) (tid:=25) (fn:=Tryz.f60) (s0:=λl=>((pW (λ_=>ah) [.data (.slice zd) l]).ch 2 { val:=.data (.slice zd) ([]:List (zd:Ty).den),tid:=0,buf:=true,ro:=false,lk:=false,aV:=0 }).put 2 (.whole 2 0)) mix AX (fK ar cW tW dZ) Tryz.func60 (by kernel_rfl)
  (by rfl) rfl aK aK rfl rfl rfl rfl rfl rfl (λl=>by rfl) (λl=>rfl) (λl=>rfl) (λl=>rfl) (λl=>by rfl) (λl a=>?_)
 have key:∀m:List (zd:Ty).den,fits (len m)=true->ao (fits<|plus (len ([]:List (zd:Ty).den))<|len m) (ab<|app [] m) ah=ab m:=by
  intro m c;have e:plus (len ([]:List (zd:Ty).den)) (len m)=len m:=by simp[plus,len]
  rw[e,c];rfl
 exact zk (b:=ao (fits<|plus (len ([]:List (zd:Ty).den))<|len (α:=(zd:Ty).den) l) (ab<|app (α:=(zd:Ty).den) [] l) ah) (by rfl) (key l a)
def qX:fv Tryz.prog 61 (.clone y7):=by
 refine rh (P:=Tryz.prog) (cx:=cx0) (bf:=[2,5]) (e:=y7) (tid:=26) (fn:=Tryz.f61) (s0:=λl=>((pW (λ_=>ah) [.data (.slice y7) l]).ch 2 { val:=.data (.slice y7) ([]:List (y7:Ty).den),tid:=0,buf:=true,ro:=false,lk:=false,aV:=0 }).put 2 (.whole 2 0)) mix AX (fK ar cW tW dZ) Tryz.func61 (by kernel_rfl)
  (by rfl) rfl aK aK rfl rfl rfl rfl rfl rfl (λl=>by rfl) (λl=>rfl) (λl=>rfl) (λl=>rfl) (λl=>by rfl) (λl a=>?_)
 have key:∀m:List (y7:Ty).den,fits (len m)=true->ao (fits<|plus (len ([]:List (y7:Ty).den))<|len m) (ab<|app [] m) ah=ab m:=by
  intro m c;have e:plus (len ([]:List (y7:Ty).den)) (len m)=len m:=by simp[plus,len]
  rw[e,c];rfl
 exact zk (b:=ao (fits<|plus (len ([]:List (y7:Ty).den))<|len (α:=(y7:Ty).den) l) (ab<|app (α:=(y7:Ty).den) [] l) ah) (by rfl) (key l a)
def qY:fv Tryz.prog 62 (.clone ix):=by
 refine rh (P:=Tryz.prog) (cx:=cx0) (bf:=[2,5]) (e:=ix) (tid:=29) (fn:=Tryz.f62) (s0:=λl=>((pW (λ_=>ah) [.data (.slice ix) l]).ch 2 { val:=.data (.slice ix) ([]:List (ix:Ty).den),tid:=0,buf:=true,ro:=false,lk:=false,aV:=0 }).put 2 (.whole 2 0)) mix AX (fK ar cW tW dZ) Tryz.func62 (by kernel_rfl)
  (by rfl) rfl aK aK rfl rfl rfl rfl rfl rfl (λl=>by rfl) (λl=>rfl) (λl=>rfl) (λl=>rfl) (λl=>by rfl) (λl a=>?_)
 have key:∀m:List (ix:Ty).den,fits (len m)=true->ao (fits<|plus (len ([]:List (ix:Ty).den))<|len m) (ab<|app [] m) ah=ab m:=by
  intro m c;have e:plus (len ([]:List (ix:Ty).den)) (len m)=len m:=by simp[plus,len]
  rw[e,c];rfl
 exact zk (b:=ao (fits<|plus (len ([]:List (ix:Ty).den))<|len (α:=(ix:Ty).den) l) (ab<|app (α:=(ix:Ty).den) [] l) ah) (by rfl) (key l a)
def qZ:fv Tryz.prog 63 (.clone vA):=by
 refine rh (P:=Tryz.prog) (cx:=cx0) (bf:=[2,5]) (e:=vA) (tid:=27) (fn:=Tryz.f63) (s0:=λl=>((pW (λ_=>ah) [.data (.slice vA) l]).ch 2 { val:=.data (.slice vA) ([]:List (vA:Ty).den),tid:=0,buf:=true,ro:=false,lk:=false,aV:=0 }).put 2 (.whole 2 0)) mix AX (fK ar cW tW dZ) Tryz.func63 (by kernel_rfl)
  (by rfl) rfl aK aK rfl rfl rfl rfl rfl rfl (λl=>by rfl) (λl=>rfl) (λl=>rfl) (λl=>rfl) (λl=>by rfl) (λl a=>?_)
 have key:∀m:List (vA:Ty).den,fits (len m)=true->ao (fits<|plus (len ([]:List (vA:Ty).den))<|len m) (ab<|app [] m) ah=ab m:=by
  intro m c;have e:plus (len ([]:List (vA:Ty).den)) (len m)=len m:=by simp[plus,len]
  rw[e,c];rfl
 exact zk (b:=ao (fits<|plus (len ([]:List (vA:Ty).den))<|len (α:=(vA:Ty).den) l) (ab<|app (α:=(vA:Ty).den) [] l) ah) (by rfl) (key l a)
def vB:fv Tryz.prog 142 (.clone .str):=by
 refine rh (P:=Tryz.prog) (cx:=cx0) (bf:=[2,5]) (e:=.str) (tid:=28) (fn:=Tryz.f142) (s0:=λl=>((pW (λ_=>ah) [.data (.slice .str) l]).ch 2 { val:=.data (.slice .str) ([]:List (.str:Ty).den),tid:=0,buf:=true,ro:=false,lk:=false,aV:=0 }).put 2 (.whole 2 0)) mix AX (fK ar cW tW dZ) Tryz.func142 (by kernel_rfl)
  (by rfl) rfl aK aK rfl rfl rfl rfl rfl rfl (λl=>by rfl) (λl=>rfl) (λl=>rfl) (λl=>rfl) (λl=>by rfl) (λl a=>?_)
 have key:∀m:List (.str:Ty).den,fits (len m)=true->ao (fits<|plus (len ([]:List (.str:Ty).den))<|len m) (ab<|app [] m) ah=ab m:=by
  intro m c;have e:plus (len ([]:List (.str:Ty).den)) (len m)=len m:=by simp[plus,len]
  rw[e,c];rfl
 exact zk (b:=ao (fits<|plus (len ([]:List (.str:Ty).den))<|len (α:=(.str:Ty).den) l) (ab<|app (α:=(.str:Ty).den) [] l) ah) (by rfl) (key l a)
def sK:fv Tryz.prog 222 (.clone kI):=by
 refine rh (P:=Tryz.prog) (cx:=cx0) (bf:=[2,5]) (e:=kI) (tid:=67) (fn:=Tryz.f222) (s0:=λl=>((pW (λ_=>ah) [.data (.slice kI) l]).ch 2 { val:=.data (.slice kI) ([]:List (kI:Ty).den),tid:=0,buf:=true,ro:=false,lk:=false,aV:=0 }).put 2 (.whole 2 0)) mix AX (fK ar cW tW dZ) Tryz.func222 (by kernel_rfl)
  (by rfl) rfl aK aK rfl rfl rfl rfl rfl rfl (λl=>by rfl) (λl=>rfl) (λl=>rfl) (λl=>rfl) (λl=>by rfl) (λl a=>?_)
 have key:∀m:List (kI:Ty).den,fits (len m)=true->ao (fits<|plus (len ([]:List (kI:Ty).den))<|len m) (ab<|app [] m) ah=ab m:=by
  intro m c;have e:plus (len ([]:List (kI:Ty).den)) (len m)=len m:=by simp[plus,len]
  rw[e,c];rfl
 exact zk (b:=ao (fits<|plus (len ([]:List (kI:Ty).den))<|len (α:=(kI:Ty).den) l) (ab<|app (α:=(kI:Ty).den) [] l) ah) (by rfl) (key l a)
def ej:fv Tryz.prog 489 (.clone BM):=by
 refine rh (P:=Tryz.prog) (cx:=cx0) (bf:=[2,5]) (e:=BM) (tid:=96) (fn:=Tryz.f489) (s0:=λl=>((pW (λ_=>ah) [.data (.slice BM) l]).ch 2 { val:=.data (.slice BM) ([]:List (BM:Ty).den),tid:=0,buf:=true,ro:=false,lk:=false,aV:=0 }).put 2 (.whole 2 0)) mix AX (fK ar cW tW dZ) Tryz.func489 (by kernel_rfl)
  (by rfl) rfl aK aK rfl rfl rfl rfl rfl rfl (λl=>by rfl) (λl=>rfl) (λl=>rfl) (λl=>rfl) (λl=>by rfl) (λl a=>?_)
 have key:∀m:List (BM:Ty).den,fits (len m)=true->ao (fits<|plus (len ([]:List (BM:Ty).den))<|len m) (ab<|app [] m) ah=ab m:=by
  intro m c;have e:plus (len ([]:List (BM:Ty).den)) (len m)=len m:=by simp[plus,len]
  rw[e,c];rfl
 exact zk (b:=ao (fits<|plus (len ([]:List (BM:Ty).den))<|len (α:=(BM:Ty).den) l) (ab<|app (α:=(BM:Ty).den) [] l) ah) (by rfl) (key l a)
def wH:fv Tryz.prog 181 (.own .str .unit false eo):=aeV Tryz.func181 (by kernel_rfl) (by kernel_rfl) Tryz.slices_Sort_string Tryz.slices_Sort_string_none
def tM:fv Tryz.prog 182 (.own .str .unit true eK):=Vn Tryz.func182 (by kernel_rfl) (by kernel_rfl) Tryz.slices_Compact_string Tryz.slices_Compact_string_empty Yd
def qk:fv Tryz.prog 226 (.own y7 Fo true bk):=by
 have a:Den Tryz.prog y7 69:=by
  show fe Tryz.prog y7 false 69 0 []=true
  kernel_rfl
 obtain⟨h,c,b,d,f,g⟩:=a.info;exact Gl (e:=y7) (ρ:=(⟨λx=>if x=29 then 0 else if x=30 then 0 else 226,λx=>if x=24 then 26 else if x=9 then 69 else if x=3 then 3 else if x=4 then 4 else 0,λx=>x⟩:Go.Shelf.Ren)) (nm := "slices.Delete[[]cooperage/api.Image,cooperage/api.Image]") (z:=c) ⟨mix,Tryz.func226.trans (congrArg ab<|by kernel_rfl),
  by kernel_rfl,by kernel_rfl,by kernel_rfl,λw=>by simp[Go.sizeOf,b,d]<;>kernel_rfl,λw=>uT b f w⟩ aK g aK
def sT:fv Tryz.prog 228 (.own zd (.pair (.int .i64) agF) true bY):=by
 have a:Den Tryz.prog zd 72:=by
  show fe Tryz.prog zd false 72 0 []=true
  kernel_rfl
 obtain⟨f,g,b,c,h,i⟩:=a.info;exact x9 (e:=zd) (ρ:=(⟨λx=>if x=29 then 300 else if x=30 then 301 else 228,λx=>if x=24 then 25 else if x=9 then 72 else if x=3 then 3 else if x=4 then 4 else 0,λx=>x⟩:Go.Shelf.Ren)) (nm := "slices.Insert[[]cooperage/api.Box,cooperage/api.Box]") ⟨mix,Tryz.func228.trans (congrArg ab<|by kernel_rfl),
  λd w=>run_callFunc_extern (e:=Extern.SlicesOverlaps.overlaps #[25,25] #[4]) Tryz.func300 (by kernel_rfl) (by kernel_rfl) (by kernel_rfl) (by kernel_rfl) d w,
  by kernel_rfl,by kernel_rfl,by kernel_rfl,λw=>by simp[Go.sizeOf,b,c]<;>kernel_rfl,by simp[b,c]<;>kernel_rfl⟩ aK a (by kernel_rfl) aK aK
def sU:fv Tryz.prog 231 (.own zd Fo true cH):=by
 have a:Den Tryz.prog zd 72:=by
  show fe Tryz.prog zd false 72 0 []=true
  kernel_rfl
 obtain⟨h,c,b,d,f,g⟩:=a.info;exact Gl (e:=zd) (ρ:=(⟨λx=>if x=29 then 0 else if x=30 then 0 else 231,λx=>if x=24 then 25 else if x=9 then 72 else if x=3 then 3 else if x=4 then 4 else 0,λx=>x⟩:Go.Shelf.Ren)) (nm := "slices.Delete[[]cooperage/api.Box,cooperage/api.Box]") (z:=c) ⟨mix,Tryz.func231.trans (congrArg ab<|by kernel_rfl),
  by kernel_rfl,by kernel_rfl,by kernel_rfl,λw=>by simp[Go.sizeOf,b,d]<;>kernel_rfl,λw=>uT b f w⟩ aK g aK
def vd:fv Tryz.prog 285 (.own .str (.pair (.int .i64) xR) true e9):=by
 have a:Den Tryz.prog .str 9:=by
  show fe Tryz.prog .str false 9 0 []=true
  kernel_rfl
 obtain⟨f,g,b,c,h,i⟩:=a.info;exact x9 (e:=.str) (ρ:=(⟨λx=>if x=29 then 363 else if x=30 then 364 else 285,λx=>if x=24 then 28 else if x=9 then 9 else if x=3 then 3 else if x=4 then 4 else 0,λx=>x⟩:Go.Shelf.Ren)) (nm := "slices.Insert[[]string,string]") ⟨mix,Tryz.func285.trans (congrArg ab<|by kernel_rfl),
  λd w=>run_callFunc_extern (e:=Extern.SlicesOverlaps.overlaps #[28,28] #[4]) Tryz.func363 (by kernel_rfl) (by kernel_rfl) (by kernel_rfl) (by kernel_rfl) d w,
  by kernel_rfl,by kernel_rfl,by kernel_rfl,λw=>by simp[Go.sizeOf,b,c]<;>kernel_rfl,by simp[b,c]<;>kernel_rfl⟩ aK a (by kernel_rfl) aK aK
def ql:fv Tryz.prog 286 (.own vA (.pair (.int .i64) TI) true dI):=by
 have a:Den Tryz.prog vA 85:=by
  show fe Tryz.prog vA false 85 0 []=true
  kernel_rfl
 obtain⟨f,g,b,c,h,i⟩:=a.info;exact x9 (e:=vA) (ρ:=(⟨λx=>if x=29 then 365 else if x=30 then 366 else 286,λx=>if x=24 then 27 else if x=9 then 85 else if x=3 then 3 else if x=4 then 4 else 0,λx=>x⟩:Go.Shelf.Ren)) (nm := "slices.Insert[[]cooperage/api.Layer,cooperage/api.Layer]") ⟨mix,Tryz.func286.trans (congrArg ab<|by kernel_rfl),
  λd w=>run_callFunc_extern (e:=Extern.SlicesOverlaps.overlaps #[27,27] #[4]) Tryz.func365 (by kernel_rfl) (by kernel_rfl) (by kernel_rfl) (by kernel_rfl) d w,
  by kernel_rfl,by kernel_rfl,by kernel_rfl,λw=>by simp[Go.sizeOf,b,c]<;>kernel_rfl,by simp[b,c]<;>kernel_rfl⟩ aK a (by kernel_rfl) aK aK
def ve:fv Tryz.prog 290 (.own .str Fo true fa):=by
 have a:Den Tryz.prog .str 9:=by
  show fe Tryz.prog .str false 9 0 []=true
  kernel_rfl
 obtain⟨h,c,b,d,f,g⟩:=a.info;exact Gl (e:=.str) (ρ:=(⟨λx=>if x=29 then 0 else if x=30 then 0 else 290,λx=>if x=24 then 28 else if x=9 then 9 else if x=3 then 3 else if x=4 then 4 else 0,λx=>x⟩:Go.Shelf.Ren)) (nm := "slices.Delete[[]string,string]") (z:=c) ⟨mix,Tryz.func290.trans (congrArg ab<|by kernel_rfl),
  by kernel_rfl,by kernel_rfl,by kernel_rfl,λw=>by simp[Go.sizeOf,b,d]<;>kernel_rfl,λw=>uT b f w⟩ aK g aK
def qm:fv Tryz.prog 291 (.own vA Fo true dJ):=by
 have a:Den Tryz.prog vA 85:=by
  show fe Tryz.prog vA false 85 0 []=true
  kernel_rfl
 obtain⟨h,c,b,d,f,g⟩:=a.info;exact Gl (e:=vA) (ρ:=(⟨λx=>if x=29 then 0 else if x=30 then 0 else 291,λx=>if x=24 then 27 else if x=9 then 85 else if x=3 then 3 else if x=4 then 4 else 0,λx=>x⟩:Go.Shelf.Ren)) (nm := "slices.Delete[[]cooperage/api.Layer,cooperage/api.Layer]") (z:=c) ⟨mix,Tryz.func291.trans (congrArg ab<|by kernel_rfl),
  by kernel_rfl,by kernel_rfl,by kernel_rfl,λw=>by simp[Go.sizeOf,b,d]<;>kernel_rfl,λw=>uT b f w⟩ aK g aK
def qn:fv Tryz.prog 298 (.own y7 (.pair (.int .i64) agG) true bH):=by
 have a:Den Tryz.prog y7 69:=by
  show fe Tryz.prog y7 false 69 0 []=true
  kernel_rfl
 obtain⟨f,g,b,c,h,i⟩:=a.info;exact x9 (e:=y7) (ρ:=(⟨λx=>if x=29 then 369 else if x=30 then 370 else 298,λx=>if x=24 then 26 else if x=9 then 69 else if x=3 then 3 else if x=4 then 4 else 0,λx=>x⟩:Go.Shelf.Ren)) (nm := "slices.Insert[[]cooperage/api.Image,cooperage/api.Image]") ⟨mix,Tryz.func298.trans (congrArg ab<|by kernel_rfl),
  λd w=>run_callFunc_extern (e:=Extern.SlicesOverlaps.overlaps #[26,26] #[4]) Tryz.func369 (by kernel_rfl) (by kernel_rfl) (by kernel_rfl) (by kernel_rfl) d w,
  by kernel_rfl,by kernel_rfl,by kernel_rfl,λw=>by simp[Go.sizeOf,b,c]<;>kernel_rfl,by simp[b,c]<;>kernel_rfl⟩ aK a (by kernel_rfl) aK aK
def rF:fv Tryz.prog 307 (.own kI (.pair (.int .i64) Zt) true aO):=by
 have a:Den Tryz.prog kI 156:=by
  show fe Tryz.prog kI false 156 0 []=true
  kernel_rfl
 obtain⟨f,g,b,c,h,i⟩:=a.info;exact x9 (e:=kI) (ρ:=(⟨λx=>if x=29 then 373 else if x=30 then 374 else 307,λx=>if x=24 then 67 else if x=9 then 156 else if x=3 then 3 else if x=4 then 4 else 0,λx=>x⟩:Go.Shelf.Ren)) (nm := "slices.Insert[[]cooperage/api.Item,cooperage/api.Item]") ⟨mix,Tryz.func307.trans (congrArg ab<|by kernel_rfl),
  λd w=>run_callFunc_extern (e:=Extern.SlicesOverlaps.overlaps #[67,67] #[4]) Tryz.func373 (by kernel_rfl) (by kernel_rfl) (by kernel_rfl) (by kernel_rfl) d w,
  by kernel_rfl,by kernel_rfl,by kernel_rfl,λw=>by simp[Go.sizeOf,b,c]<;>kernel_rfl,by simp[b,c]<;>kernel_rfl⟩ aK a (by kernel_rfl) aK aK
def qo:fv Tryz.prog 367 (.own ix (.pair (.int .i64) adk) true fg):=by
 have a:Den Tryz.prog ix 74:=by
  show fe Tryz.prog ix false 74 0 []=true
  kernel_rfl
 obtain⟨f,g,b,c,h,i⟩:=a.info;exact x9 (e:=ix) (ρ:=(⟨λx=>if x=29 then 421 else if x=30 then 422 else 367,λx=>if x=24 then 29 else if x=9 then 74 else if x=3 then 3 else if x=4 then 4 else 0,λx=>x⟩:Go.Shelf.Ren)) (nm := "slices.Insert[[]cooperage/api.Mount,cooperage/api.Mount]") ⟨mix,Tryz.func367.trans (congrArg ab<|by kernel_rfl),
  λd w=>run_callFunc_extern (e:=Extern.SlicesOverlaps.overlaps #[29,29] #[4]) Tryz.func421 (by kernel_rfl) (by kernel_rfl) (by kernel_rfl) (by kernel_rfl) d w,
  by kernel_rfl,by kernel_rfl,by kernel_rfl,λw=>by simp[Go.sizeOf,b,c]<;>kernel_rfl,by simp[b,c]<;>kernel_rfl⟩ aK a (by kernel_rfl) aK aK
def rG:fv Tryz.prog 372 (.own kI Fo true bC):=by
 have a:Den Tryz.prog kI 156:=by
  show fe Tryz.prog kI false 156 0 []=true
  kernel_rfl
 obtain⟨h,c,b,d,f,g⟩:=a.info;exact Gl (e:=kI) (ρ:=(⟨λx=>if x=29 then 0 else if x=30 then 0 else 372,λx=>if x=24 then 67 else if x=9 then 156 else if x=3 then 3 else if x=4 then 4 else 0,λx=>x⟩:Go.Shelf.Ren)) (nm := "slices.Delete[[]cooperage/api.Item,cooperage/api.Item]") (z:=c) ⟨mix,Tryz.func372.trans (congrArg ab<|by kernel_rfl),
  by kernel_rfl,by kernel_rfl,by kernel_rfl,λw=>by simp[Go.sizeOf,b,d]<;>kernel_rfl,λw=>uT b f w⟩ aK g aK
def dY:fv Tryz.prog 503 (.own BM (.pair (.int .i64) wG) true bb):=by
 have a:Den Tryz.prog BM 197:=by
  show fe Tryz.prog BM false 197 0 []=true
  kernel_rfl
 obtain⟨f,g,b,c,h,i⟩:=a.info;exact x9 (e:=BM) (ρ:=(⟨λx=>if x=29 then 504 else if x=30 then 505 else 503,λx=>if x=24 then 96 else if x=9 then 197 else if x=3 then 3 else if x=4 then 4 else 0,λx=>x⟩:Go.Shelf.Ren)) (nm := "slices.Insert[[]cooperage/api.TreeNode,cooperage/api.TreeNode]") ⟨mix,Tryz.func503.trans (congrArg ab<|by kernel_rfl),
  λd w=>run_callFunc_extern (e:=Extern.SlicesOverlaps.overlaps #[96,96] #[4]) Tryz.func504 (by kernel_rfl) (by kernel_rfl) (by kernel_rfl) (by kernel_rfl) d w,
  by kernel_rfl,by kernel_rfl,by kernel_rfl,λw=>by simp[Go.sizeOf,b,c]<;>kernel_rfl,by simp[b,c]<;>kernel_rfl⟩ aK a (by kernel_rfl) aK aK
def vw:∀p∈T4,fv Tryz.prog p.1 p.2:=(dU y5<|dU wE<|dU tL<|dU qX<|dU qY<|dU qZ<|dU vB<|dU sK<|dU ej<|dU wH<|dU tM<|dU qk<|dU sT<|dU sU<|dU vd<|dU ql<|dU ve<|dU qm<|dU qn<|dU rF<|dU qo<|dU rG<|dU dY tW)
def G9(b:List (Nat×BO))(a:List (Nat×BU))(c:List (String×BO):=[]):QC (wF b a c):=Ve (cx:=wF b a c) (show(AW.all λp=>X2 p.2)=true by kernel_rfl)
def du:B4:=xW
def CN{b:List (Nat×BO)}{a:List (Nat×BU)}{c:List (String×BO)}(i:∀p∈b,Holds Tryz.prog du p.1 p.2)(e:∀p∈a,gm Tryz.prog du p.1 p.2)(j:∀p∈c,ma Tryz.prog du p.1 p.2){f:Nat}{l:Func}{A R:Ty}{d:A.den->Option R.den}(k:find AW f=ab l)(n:l.body.isSome=true)
  (o:∀x,sem (wF b a c) 12 fJ f A R x=d x):Holds Tryz.prog du f ⟨A,R,d⟩:=by
 obtain⟨m,g⟩:=Lq.1 n;exact Gj mix (Bt b a c) (fK i e vw j) (G9 b a c) (f:=f) k g (λx y h=>by rw[o];exact h)
def IK{b:List (Nat×BO)}{a:List (Nat×BU)}{c:List (String×BO)}(i:∀p∈b,Holds Tryz.prog du p.1 p.2)(e:∀p∈a,gm Tryz.prog du p.1 p.2)(j:∀p∈c,ma Tryz.prog du p.1 p.2){f:Nat}{l:Func}{m:List Bool}{A:Ty}{U:Ty}{R:Ty}{d:A.den×U.den->Option (R.den×U.den)}(k:find AW f=ab l)(o:l.body.isSome=true)
  (q:∀x,aed (wF b a c) 12 fJ f m A U R x=d x):gm Tryz.prog du f ⟨m,A,U,R,d⟩:=by
 obtain⟨n,g⟩:=Lq.1 o;exact D4 mix (Bt b a c) (fK i e vw j) (G9 b a c) (f:=f) k g (λx y h=>by rw[q];exact h)
def DB{d:List (Nat×BO)}{a:List (Nat×BU)}{e:List (String×BO)}(g:∀p∈d,Holds Tryz.prog du p.1 p.2)(c:∀p∈a,gm Tryz.prog du p.1 p.2)(h:∀p∈e,ma Tryz.prog du p.1 p.2)(j:Func){f:Nat}{A R:Ty}{b:A.den->Option R.den}(i:find AW f=ab j:=by rfl)(k:j.body.isSome=true:=by kernel_rfl)
 (l:∀x,sem (wF d a e) 12 fJ f A R x=b x:=by intro x;kernel_rfl):Holds Tryz.prog du f ⟨A,R,b⟩:=CN g c h i k l
def av{b:List (Nat×BO)}(c:∀p∈b,Holds Tryz.prog du p.1 p.2)(e:Func){f:Nat}{A R:Ty}{a:A.den->Option R.den}(d:find AW f=ab e:=by rfl)(g:e.body.isSome=true:=by kernel_rfl)
 (h:∀x,sem (wF b [] []) 12 fJ f A R x=a x:=by intro x;kernel_rfl):Holds Tryz.prog du f ⟨A,R,a⟩:=CN c cW dZ d g h
def sH{d:List (Nat×BO)}{a:List (Nat×BU)}{e:List (String×BO)}(g:∀p∈d,Holds Tryz.prog du p.1 p.2)(c:∀p∈a,gm Tryz.prog du p.1 p.2)(h:∀p∈e,ma Tryz.prog du p.1 p.2)(j:Func){f:Nat}{k:List Bool}{A:Ty}{U:Ty}{R:Ty}{b:A.den×U.den->Option (R.den×U.den)}(i:find AW f=ab j:=by rfl)(l:j.body.isSome=true:=by kernel_rfl)
 (m:∀x,aed (wF d a e) 12 fJ f k A U R x=b x:=by intro x;kernel_rfl):gm Tryz.prog du f ⟨k,A,U,R,b⟩:=IK g c h i l m
abbrev aB:=Holds Tryz.prog du
def bt:Holds Tryz.prog du 142 ⟨xR,xR,bc⟩:=by
 refine od (P:=Tryz.prog) (cx:=wF [] []) (bf:=[5]) (e:=.str) (tid:=28) (fn:=Tryz.f142) (s0:=λl=>(pW (λ_=>ah) [.data (.slice .str) l]).put 2 (.data (.slice .str) ([]:List (.str:Ty).den))) mix (Bt [] []) (fK ar cW vw dZ) Tryz.func142 (by kernel_rfl)
  (by rfl) rfl aK aK rfl rfl rfl rfl rfl rfl (λl=>by rfl) (λl=>rfl) (λl=>rfl) (λl=>rfl) (λl=>by rfl) (λl a=>?_)
 have key:∀m:List (.str:Ty).den,fits (len m)=true->ao (fits<|plus (len ([]:List (.str:Ty).den))<|len m) (ab ((app [] m,()):(Ty.pair (.slice .str) .unit).den)) ah=ab (m,()):=by
  intro m c;have e:plus (len ([]:List (.str:Ty).den)) (len m)=len m:=by simp[plus,len]
  rw[e,c];rfl
 exact zk (b:=ao (fits<|plus (len ([]:List (.str:Ty).den))<|len (α:=(.str:Ty).den) l) (ab ((app (α:=(.str:Ty).den) [] l,()):(Ty.pair (.slice .str) .unit).den)) ah) (by rfl) (key l a)
def AZ:aB 190 ⟨(.pair (.int .i64)<|.pair agD .unit),(.pair Om .unit),qR⟩:=av (aj bt ar) Tryz.f190
def CR:aB 91 ⟨CQ,(.pair Om .unit),lE⟩:=av (aj AZ ar) Tryz.f91
def qp:aB 124 ⟨(.pair Om fW),ix,iM⟩:=av (aj ew<|aj pQ ar) Tryz.f124
def kC:aB 55 ⟨(.pair BL fW),ix,dG⟩:=av (aj CR<|aj qp ar) Tryz.f55
def El:aB 56 ⟨(.pair (.slice vA) fW),(.pair (.slice vA) uD),kz⟩:=av (aj bt ar) Tryz.f56
def A0:aB 336 ⟨(.pair .str Zu),fW,iA⟩:=av ar Tryz.f336
def rA:aB 337 ⟨(.pair .str Zu),fW,fx⟩:=av ar Tryz.f337
def sL:aB 338 ⟨fW,(.pair (.arr 256 .bool) er),eJ⟩:=av ar Tryz.f338
def fB:gm Tryz.prog du 397 ⟨[true,false],Zu,(.pair (.arr 256 .bool) .unit),er,cI⟩:=sH ar cW dZ Tryz.f397
def zT:gm Tryz.prog du 339 ⟨[false,true],fW,(.pair (.arr 256 .bool) .unit),fW,gU⟩:=sH ar (gT fB cW) dZ Tryz.f339
def qq:gm Tryz.prog du 340 ⟨[false,true],fW,(.pair (.arr 256 .bool) .unit),fW,ed⟩:=sH ar (gT fB cW) dZ Tryz.f340
def sM:aB 267 ⟨TJ,fW,jf⟩:=DB (aj A0<|aj rA<|aj sL ar) (gT zT<|gT qq<|gT fB cW) dZ Tryz.f267
def Bu:aB 185 ⟨fW,er,mK⟩:=av (aj sM ar) Tryz.f185
def qs:aB 85 ⟨xR,uD,fH⟩:=av (aj bt<|aj Bu ar) Tryz.f85
def yA:gm Tryz.prog du 343 ⟨[true,false],er,(.pair aiv .unit),(.pair (.pair YH6 fW) er),e7⟩:=sH ar cW dZ Tryz.f343
def Em:aB 344 ⟨fW,er,ua⟩:=av (aj sM ar) Tryz.f344
def Bw:aB 437 ⟨.unit,(.pair (.arr 11 Fo) .unit),mI⟩:=av ar Tryz.f437
def WT:aB 401 ⟨ix,fW,cd⟩:=av (aj Bw ar) Tryz.f401
def vN:aB 438 ⟨TJ,fW,eW⟩:=DB (aj rA<|aj sL ar) (gT qq<|gT fB cW) dZ Tryz.f438
def Fq:aB 439 ⟨fW,(.pair (.int .i64) er),dN⟩:=av ar Tryz.f439
def KF:aB 402 ⟨fW,uD,dy⟩:=av (aj vN<|aj Fq ar) Tryz.f402
def TK:aB 403 ⟨fW,uD,vX⟩:=av (aj Bw ar) Tryz.f403
def PQ:aB 404 ⟨fW,(.pair .str er),kv⟩:=av (aj la<|aj vN ar) Tryz.f404
def WU:aB 440 ⟨Fo,er,lU⟩:=av ar Tryz.f440
def Oo:aB 441 ⟨ix,er,om⟩:=av (aj la ar) Tryz.f441
def WV:aB 405 ⟨(.pair YH6 uD),er,rk⟩:=av (aj WU<|aj Oo ar) Tryz.f405
def En:aB 345 ⟨fW,(.pair YH6 uD),fF⟩:=av (aj WT<|aj KF<|aj TK<|aj PQ<|aj WV ar) Tryz.f345
def Oq:aB 346 ⟨uD,uD,xc⟩:=av ar Tryz.f346
def Hb:gm Tryz.prog du 269 ⟨[true],.unit,(.pair aiv .unit),(.pair (.pair YH6 fW) er),bP⟩:=sH (aj sM<|aj Em<|aj En<|aj Oq ar) (gT yA cW) dZ Tryz.f269
def IL:gm Tryz.prog du 270 ⟨[true],.unit,(.pair aiv .unit),er,iS⟩:=sH ar cW dZ Tryz.f270
def Ot:aB 186 ⟨fW,(.pair WR uD),fo⟩:=DB (aj sM<|aj Em<|aj En<|aj Oq ar) (gT Hb<|gT IL<|gT yA cW) dZ Tryz.f186
def A1:aB 349 ⟨TJ,fW,oZ⟩:=av ar Tryz.f349
def zU:aB 351 ⟨(.pair BM .unit),er,eO⟩:=av (aj kk<|aj nx<|aj A1<|aj qj ar) Tryz.f351
def KG:aB 350 ⟨fW,er,mR⟩:=av (aj zU ar) Tryz.f350
def PR:aB 484 ⟨On,wG,uo⟩:=av (aj kk<|aj y6<|aj ek ar) Tryz.f484
def s9:aB 482 ⟨(.pair fW wG),wG,jD⟩:=av (aj PR ar) Tryz.f482
def vO:aB 483 ⟨(.pair fW wG),DT,vJ⟩:=av ar Tryz.f483
def TL:aB 495 ⟨On,wG,wc⟩:=av (aj kk<|aj y6<|aj ek ar) Tryz.f495
def rB:aB 493 ⟨(.pair fW wG),wG,gX⟩:=av (aj TL ar) Tryz.f493
def tc:aB 494 ⟨(.pair fW wG),DT,sX⟩:=av ar Tryz.f494
def td:aB 497 ⟨(.pair .unit wG),wG,sY⟩:=av ar Tryz.f497
def vP:aB 498 ⟨(.pair .unit wG),DT,vK⟩:=av ar Tryz.f498
def te:aB 499 ⟨(.pair (.pair BM .unit) wG),wG,sZ⟩:=av ar Tryz.f499
def WW:aB 501 ⟨On,(.pair BM er),yh⟩:=av (aj kk<|aj AY ar) Tryz.f501
def vQ:aB 500 ⟨(.pair (.pair BM .unit) wG),DT,kW⟩:=av (aj nx<|aj A1<|aj qj<|aj WW<|aj Zs ar) Tryz.f500
def Ou:aB 271 ⟨(.pair (.pair YH6 fW) .unit),(.pair adi er),sk⟩:=av (aj nx<|aj Ek<|aj Ha<|aj A1<|aj KG<|aj zU<|aj s9<|aj vO<|aj rB<|aj tc<|aj td<|aj vP<|aj te<|aj vQ ar) Tryz.f271
def Bx:aB 187 ⟨(.pair WR .unit),(.pair (.slice adi) er),mS⟩:=av (aj Ou ar) Tryz.f187
def KH:aB 87 ⟨fW,uD,hR⟩:=av (aj Ot<|aj Bx ar) Tryz.f87
def TM:aB 188 ⟨(.pair Om fW),uD,vY⟩:=av ar Tryz.f188
def wI:aB 90 ⟨(.pair Om<|.pair .str xR),uD,gz⟩:=av (aj ew<|aj qs<|aj TM ar) Tryz.f90
def A2:aB 198 ⟨fW,fW,mg⟩:=av ar Tryz.f198
def WX:aB 191 ⟨uD,fW,yg⟩:=av (aj A2 ar) Tryz.f191
def xN:aB 93 ⟨(.pair Om uD),ix,gL⟩:=av (aj WX ar) Tryz.f93
def Bz:aB 148 ⟨(.pair vA .unit),fW,vo⟩:=av ar Tryz.f148
def y8:aB 149 ⟨CQ,xR,nu⟩:=av ar Tryz.f149
def uE:aB 67 ⟨(.pair BL fW),(.pair vA<|.pair .str er),iO⟩:=av (aj bt<|aj Bz<|aj y8 ar) Tryz.f67
def PT:ma Tryz.prog du "cooperage/overlay.clears" ⟨(.pair adi wG),wG,sn⟩:=(oa s9 (λv w=>by kernel_rfl) rfl (oa rB (λv w=>by kernel_rfl) rfl (oa td (λv w=>by kernel_rfl) rfl (oa te (λv w=>by kernel_rfl) rfl Mf))))
def WY:ma Tryz.prog du "cooperage/overlay.puts" ⟨(.pair adi wG),DT,xp⟩:=(oa vO (λv w=>by kernel_rfl) rfl (oa tc (λv w=>by kernel_rfl) rfl (oa vP (λv w=>by kernel_rfl) rfl (oa vQ (λv w=>by kernel_rfl) rfl Mf))))
def PU:aB 195 ⟨(.pair (.slice BM)<|.pair WR .unit),DT,ur⟩:=DB (aj Bx<|aj kk ar) cW (Vj PT<|Vj WY dZ) Tryz.f195
def BA:aB 97 ⟨On,DT,jS⟩:=av (aj Ot<|aj kk<|aj PU ar) Tryz.f97
def PV:aB 214 ⟨xR,DT,qa⟩:=av (aj BA ar) Tryz.f214
def Hc:aB 105 ⟨(.pair BL fW),DT,mw⟩:=av (aj uE<|aj bt<|aj PV ar) Tryz.f105
def CS:aB 96 ⟨(.pair BL fW),DT,js⟩:=av (aj Hc ar) Tryz.f96
def oL:aB 98 ⟨uD,(.pair KD .unit),eB⟩:=av ar Tryz.f98
def IM:Holds Tryz.prog du 196 ⟨ix,fW,oT⟩:=Pg (spec:=gn) Tryz.func196 (by kernel_rfl) (by kernel_rfl) (λ_ _ _ h=>Ci h) (λs c w y e f a=>by
 obtain⟨b,d,rfl⟩:=sW a;have g:(IntKind.i64).max=9223372036854775807:=aK;obtain⟨n,rfl⟩:=adx b;exact Tryz.strings_Repeat s n w ai d)
def PW:aB 99 ⟨.unit,fW,yV⟩:=av (aj IM ar) Tryz.f99
def CT:aB 415 ⟨.unit,agE,uW⟩:=av ar Tryz.f415
def CU:aB 416 ⟨.unit,(.pair (.arr 64<|.int .u32) .unit),Cj⟩:=av ar Tryz.f416
def y9:aB 446 ⟨(.pair (.int .u32) uD),(.pair (.int .u32) .unit),ku⟩:=av ar Tryz.f446
def yB:aB 418 ⟨(.pair (.int .u32) uD),(.pair (.int .u32) .unit),cr⟩:=av (aj y9 ar) Tryz.f418
def xO:aB 417 ⟨(.pair (.arr 64<|.int .u8) .unit),(.pair (.arr 64<|.int .u32) .unit),rZ⟩:=av (aj yB ar) Tryz.f417
def zV:gm Tryz.prog du 282 ⟨[true,false],fW,(.pair ajW .unit),.unit,gp⟩:=sH (aj CT<|aj CU<|aj xO<|aj yB ar) cW dZ Tryz.f282
def IP:gm Tryz.prog du 283 ⟨[true],.unit,(.pair ajW .unit),(.pair (.arr 32<|.int .u8) .unit),oU⟩:=sH (aj CT<|aj CU<|aj xO<|aj yB ar) (gT zV cW) dZ Tryz.f283
def adm:aB 197 ⟨fW,(.pair (.arr 32<|.int .u8) .unit),Dj⟩:=DB (aj CT<|aj CU<|aj xO<|aj yB ar) (gT zV<|gT IP cW) dZ Tryz.f197
def JM:aB 100 ⟨fW,fW,oi⟩:=av (aj adm<|aj A2 ar) Tryz.f100
def DU:aB 201 ⟨(.pair (.slice .str) adl),xR,kY⟩:=av (aj bt ar) Tryz.f201
def cV:Holds Tryz.prog du 63 ⟨TI,TI,b4⟩:=by
 refine od (P:=Tryz.prog) (cx:=wF [] []) (bf:=[5]) (e:=vA) (tid:=27) (fn:=Tryz.f63) (s0:=λl=>(pW (λ_=>ah) [.data (.slice vA) l]).put 2 (.data (.slice vA) ([]:List (vA:Ty).den))) mix (Bt [] []) (fK ar cW vw dZ) Tryz.func63 (by kernel_rfl)
  (by rfl) rfl aK aK rfl rfl rfl rfl rfl rfl (λl=>by rfl) (λl=>rfl) (λl=>rfl) (λl=>rfl) (λl=>by rfl) (λl a=>?_)
 have key:∀m:List (vA:Ty).den,fits (len m)=true->ao (fits<|plus (len ([]:List (vA:Ty).den))<|len m) (ab ((app [] m,()):(Ty.pair (.slice vA) .unit).den)) ah=ab (m,()):=by
  intro m c;have e:plus (len ([]:List (vA:Ty).den)) (len m)=len m:=by simp[plus,len]
  rw[e,c];rfl
 exact zk (b:=ao (fits<|plus (len ([]:List (vA:Ty).den))<|len (α:=(vA:Ty).den) l) (ab ((app (α:=(vA:Ty).den) [] l,()):(Ty.pair (.slice vA) .unit).den)) ah) (by rfl) (key l a)
def A3:aB 202 ⟨(.pair (.slice vA)<|.pair (.int .i64)<|.pair vA .unit),TI,iG⟩:=av (aj cV ar) Tryz.f202
def TN:aB 101 ⟨(.pair BL<|.pair vA fW),CQ,pA⟩:=av (aj y8<|aj DU<|aj A3 ar) Tryz.f101
def BB:aB 34 ⟨ajX,KE,hU⟩:=av (aj kC<|aj El<|aj qs<|aj KH<|aj wI<|aj CR<|aj xN<|aj CS<|aj BA<|aj oL<|aj PW<|aj JM<|aj TN ar) Tryz.f34
def He:aB 102 ⟨(.pair BL fW),er,pB⟩:=av ar Tryz.f102
def KI:aB 209 ⟨(.pair ix .unit),fW,vq⟩:=av ar Tryz.f209
def xP:aB 103 ⟨(.pair BL fW),uD,dB⟩:=av (aj KI ar) Tryz.f103
def A4:aB 210 ⟨(.pair (.slice .str) uD),xR,iH⟩:=av (aj bt ar) Tryz.f210
def xS:aB 211 ⟨(.pair (.slice vA) uD),TI,gg⟩:=av (aj cV ar) Tryz.f211
def dS:Holds Tryz.prog du 62 ⟨adk,adk,b5⟩:=by
 refine od (P:=Tryz.prog) (cx:=wF [] []) (bf:=[5]) (e:=ix) (tid:=29) (fn:=Tryz.f62) (s0:=λl=>(pW (λ_=>ah) [.data (.slice ix) l]).put 2 (.data (.slice ix) ([]:List (ix:Ty).den))) mix (Bt [] []) (fK ar cW vw dZ) Tryz.func62 (by kernel_rfl)
  (by rfl) rfl aK aK rfl rfl rfl rfl rfl rfl (λl=>by rfl) (λl=>rfl) (λl=>rfl) (λl=>rfl) (λl=>by rfl) (λl a=>?_)
 have key:∀m:List (ix:Ty).den,fits (len m)=true->ao (fits<|plus (len ([]:List (ix:Ty).den))<|len m) (ab ((app [] m,()):(Ty.pair (.slice ix) .unit).den)) ah=ab (m,()):=by
  intro m c;have e:plus (len ([]:List (ix:Ty).den)) (len m)=len m:=by simp[plus,len]
  rw[e,c];rfl
 exact zk (b:=ao (fits<|plus (len ([]:List (ix:Ty).den))<|len (α:=(ix:Ty).den) l) (ab ((app (α:=(ix:Ty).den) [] l,()):(Ty.pair (.slice ix) .unit).den)) ah) (by rfl) (key l a)
def A5:aB 295 ⟨(.pair (.slice ix)<|.pair (.int .i64)<|.pair ix .unit),adk,bM⟩:=av (aj dS ar) Tryz.f295
def Eo:aB 212 ⟨(.pair BL ix),CQ,qe⟩:=av (aj dS<|aj A5 ar) Tryz.f212
def BC:aB 104 ⟨(.pair BL fW),CQ,jT⟩:=av (aj Bz<|aj y8<|aj A4<|aj xS<|aj Eo ar) Tryz.f104
def KJ:aB 35 ⟨(.pair BL fW),KE,qL⟩:=av (aj kC<|aj oL<|aj He<|aj xP<|aj BC ar) Tryz.f35
def PX:aB 36 ⟨(.pair BL fW),(.pair KD .unit),uy⟩:=av (aj kC<|aj uE<|aj oL ar) Tryz.f36
def KK:aB 106 ⟨(.pair (.slice BM) wG),(.pair (.slice adl) uD),qF⟩:=av (aj kk<|aj vy ar) Tryz.f106
def TO:aB 107 ⟨(.pair (.slice adl) .unit),fW,we⟩:=av (aj A2 ar) Tryz.f107
def IQ:aB 37 ⟨(.pair BL fW),(.pair KD .unit),pH⟩:=av (aj kC<|aj uE<|aj CS<|aj oL<|aj Hc<|aj KK<|aj TO ar) Tryz.f37
def zW:aB 108 ⟨(.pair BL ix),KE,lN⟩:=av (aj kC<|aj oL<|aj xP<|aj Eo ar) Tryz.f108
def Ov:aB 38 ⟨(.pair BL fW),KE,xv⟩:=av (aj zW ar) Tryz.f38
def IU:aB 39 ⟨(.pair BL fW),KE,tr⟩:=av (aj zW ar) Tryz.f39
def CV:aB 109 ⟨uD,(.pair KD .unit),jm⟩:=av ar Tryz.f109
def CW:aB 110 ⟨CQ,(.pair Om .unit),gK⟩:=av (aj AZ ar) Tryz.f110
def dT:Holds Tryz.prog du 61 ⟨agG,agG,b3⟩:=by
 refine od (P:=Tryz.prog) (cx:=wF [] []) (bf:=[5]) (e:=y7) (tid:=26) (fn:=Tryz.f61) (s0:=λl=>(pW (λ_=>ah) [.data (.slice y7) l]).put 2 (.data (.slice y7) ([]:List (y7:Ty).den))) mix (Bt [] []) (fK ar cW vw dZ) Tryz.func61 (by kernel_rfl)
  (by rfl) rfl aK aK rfl rfl rfl rfl rfl rfl (λl=>by rfl) (λl=>rfl) (λl=>rfl) (λl=>rfl) (λl=>by rfl) (λl a=>?_)
 have key:∀m:List (y7:Ty).den,fits (len m)=true->ao (fits<|plus (len ([]:List (y7:Ty).den))<|len m) (ab ((app [] m,()):(Ty.pair (.slice y7) .unit).den)) ah=ab (m,()):=by
  intro m c;have e:plus (len ([]:List (y7:Ty).den)) (len m)=len m:=by simp[plus,len]
  rw[e,c];rfl
 exact zk (b:=ao (fits<|plus (len ([]:List (y7:Ty).den))<|len (α:=(y7:Ty).den) l) (ab ((app (α:=(y7:Ty).den) [] l,()):(Ty.pair (.slice y7) .unit).den)) ah) (by rfl) (key l a)
def JN:aB 116 ⟨(.pair y7 .unit),fW,ef⟩:=av ar Tryz.f116
def dm:Holds Tryz.prog du 222 ⟨Zt,Zt,bQ⟩:=by
 refine od (P:=Tryz.prog) (cx:=wF [] []) (bf:=[5]) (e:=kI) (tid:=67) (fn:=Tryz.f222) (s0:=λl=>(pW (λ_=>ah) [.data (.slice kI) l]).put 2 (.data (.slice kI) ([]:List (kI:Ty).den))) mix (Bt [] []) (fK ar cW vw dZ) Tryz.func222 (by kernel_rfl)
  (by rfl) rfl aK aK rfl rfl rfl rfl rfl rfl (λl=>by rfl) (λl=>rfl) (λl=>rfl) (λl=>rfl) (λl=>by rfl) (λl a=>?_)
 have key:∀m:List (kI:Ty).den,fits (len m)=true->ao (fits<|plus (len ([]:List (kI:Ty).den))<|len m) (ab ((app [] m,()):(Ty.pair (.slice kI) .unit).den)) ah=ab (m,()):=by
  intro m c;have e:plus (len ([]:List (kI:Ty).den)) (len m)=len m:=by simp[plus,len]
  rw[e,c];rfl
 exact zk (b:=ao (fits<|plus (len ([]:List (kI:Ty).den))<|len (α:=(kI:Ty).den) l) (ab ((app (α:=(kI:Ty).den) [] l,()):(Ty.pair (.slice kI) .unit).den)) ah) (by rfl) (key l a)
def A6:aB 111 ⟨(.pair BL<|.pair y7 .unit),CQ,iD⟩:=av (aj dT<|aj JN<|aj bt<|aj dm ar) Tryz.f111
def KL:aB 40 ⟨ajX,KE,qA⟩:=av (aj kC<|aj qs<|aj wI<|aj xN<|aj CV<|aj CW<|aj A6 ar) Tryz.f40
def Ep:aB 112 ⟨(.pair BL fW),ix,iN⟩:=av (aj CW<|aj qp ar) Tryz.f112
def KM:aB 41 ⟨(.pair BL fW),KE,qB⟩:=av (aj dT<|aj CV<|aj Ep<|aj JN ar) Tryz.f41
def Er:aB 117 ⟨uD,(.pair KD .unit),kA⟩:=av ar Tryz.f117
def Es:aB 118 ⟨CQ,(.pair Om .unit),kB⟩:=av (aj AZ ar) Tryz.f118
def A7:aB 119 ⟨(.pair BL fW),(.pair y7 er),mj⟩:=av (aj bt<|aj dm ar) Tryz.f119
def eR:Holds Tryz.prog du 60 ⟨agF,agF,dC⟩:=by
 refine od (P:=Tryz.prog) (cx:=wF [] []) (bf:=[5]) (e:=zd) (tid:=25) (fn:=Tryz.f60) (s0:=λl=>(pW (λ_=>ah) [.data (.slice zd) l]).put 2 (.data (.slice zd) ([]:List (zd:Ty).den))) mix (Bt [] []) (fK ar cW vw dZ) Tryz.func60 (by kernel_rfl)
  (by rfl) rfl aK aK rfl rfl rfl rfl rfl rfl (λl=>by rfl) (λl=>rfl) (λl=>rfl) (λl=>rfl) (λl=>by rfl) (λl a=>?_)
 have key:∀m:List (zd:Ty).den,fits (len m)=true->ao (fits<|plus (len ([]:List (zd:Ty).den))<|len m) (ab ((app [] m,()):(Ty.pair (.slice zd) .unit).den)) ah=ab (m,()):=by
  intro m c;have e:plus (len ([]:List (zd:Ty).den)) (len m)=len m:=by simp[plus,len]
  rw[e,c];rfl
 exact zk (b:=ao (fits<|plus (len ([]:List (zd:Ty).den))<|len (α:=(zd:Ty).den) l) (ab ((app (α:=(zd:Ty).den) [] l,()):(Ty.pair (.slice zd) .unit).den)) ah) (by rfl) (key l a)
def CX:aB 120 ⟨(.pair BL<|.pair zd .unit),CQ,kh⟩:=av (aj eR<|aj bt<|aj dm ar) Tryz.f120
def Ow:aB 42 ⟨ajX,KE,lO⟩:=av (aj BB<|aj qs<|aj wI<|aj xN<|aj Ep<|aj Er<|aj Es<|aj A7<|aj CX ar) Tryz.f42
def TP:aB 121 ⟨(.pair BL fW),ix,wy⟩:=av (aj Es<|aj qp ar) Tryz.f121
def CY:aB 122 ⟨(.pair BL fW),(.pair zd er),rz⟩:=av (aj bt<|aj dm ar) Tryz.f122
def Ox:aB 43 ⟨(.pair BL fW),KE,sD⟩:=av (aj eR<|aj He<|aj xP<|aj BC<|aj Er<|aj TP<|aj CY ar) Tryz.f43
def A8:aB 141 ⟨(.pair WS uD),uD,iI⟩:=av ar Tryz.f141
def gi:aB 54 ⟨(.pair WS uD),er,dd⟩:=av (aj A8 ar) Tryz.f54
def Zv:aB 53 ⟨(.pair YH9<|.pair WS .unit),(.pair WS .unit),xI⟩:=av (aj gi ar) Tryz.f53
def uF:aB 18 ⟨(.pair YH9 .unit),(.pair WS .unit),iP⟩:=av (aj Zv ar) Tryz.f18
def za:aB 46 ⟨uD,(.pair KD .unit),fh⟩:=av ar Tryz.f46
def Et:aB 125 ⟨(.pair BL uD),(.pair Om .unit),qg⟩:=av (aj AZ ar) Tryz.f125
def Hf:aB 238 ⟨(.pair kI .unit),fW,cc⟩:=av ar Tryz.f238
def IV:aB 127 ⟨(.pair (.slice kI) fW),ix,lD⟩:=av (aj Hf ar) Tryz.f127
def IW:aB 128 ⟨(.pair (.slice kI) TJ),(.pair (.slice kI) uD),lC⟩:=av (aj JM<|aj Bu<|aj dm<|aj Hf ar) Tryz.f128
def TQ:aB 44 ⟨adj,KE,wz⟩:=av (aj uF<|aj za<|aj gi<|aj A6<|aj A7<|aj CX<|aj CY<|aj qp<|aj Et<|aj IV<|aj IW ar) Tryz.f44
def PY:aB 129 ⟨(.pair Om .unit),fW,y3⟩:=av (aj CO ar) Tryz.f129
def KN:aB 130 ⟨(.pair BL<|.pair (.int .i64)<|.pair .str xR),CQ,hW⟩:=av (aj cV<|aj A6<|aj A7<|aj CX<|aj CY<|aj bt ar) Tryz.f130
def Oy:aB 45 ⟨adj,KE,sE⟩:=av (aj uF<|aj za<|aj gi<|aj qs<|aj wI<|aj qp<|aj Et<|aj PY<|aj KN ar) Tryz.f45
def Oz:aB 13 ⟨adj,KE,dR⟩:=av (aj BB<|aj KJ<|aj PX<|aj IQ<|aj Ov<|aj IU<|aj KL<|aj KM<|aj Ow<|aj Ox<|aj TQ<|aj Oy<|aj za ar) Tryz.f13
def WZ:aB 9 ⟨(.pair BL<|.pair (.slice YH9) .unit),(.pair BL<|.pair (.slice KD) .unit),yv⟩:=av (aj Oz ar) Tryz.f9
def DV:aB 12 ⟨(.pair (.slice KD)<|.pair (.slice KD) .unit),er,kZ⟩:=av ar Tryz.f12
def Eu:aB 312 ⟨uD,Zu,nh⟩:=av ar Tryz.f312
def PZ:aB 375 ⟨Zu,uD,p4⟩:=av (aj Eu ar) Tryz.f375
def Ev:aB 308 ⟨fW,(.pair .str er),p5⟩:=av (aj PZ ar) Tryz.f308
def A9:aB 242 ⟨fW,er,gB⟩:=av (aj Ev ar) Tryz.f242
def CZ:aB 263 ⟨fW,er,oq⟩:=av ar Tryz.f263
def zb:aB 243 ⟨xR,er,nk⟩:=av (aj CZ ar) Tryz.f243
def P0:aB 244 ⟨fW,uD,fE⟩:=av (aj Ev ar) Tryz.f244
def P1:aB 131 ⟨(.pair vA .unit),er,gC⟩:=av (aj A9<|aj zb<|aj P0 ar) Tryz.f131
def P2:aB 309 ⟨.unit,agE,yR⟩:=av ar Tryz.f309
def P3:aB 310 ⟨fW,fW,tY⟩:=av ar Tryz.f310
def TR:aB 376 ⟨(.pair (.int .u32) uD),(.pair (.int .u32) .unit),ca⟩:=av ar Tryz.f376
def OA:aB 377 ⟨.unit,(.pair (.arr 64<|.int .u32) .unit),xa⟩:=av ar Tryz.f377
def P4:aB 311 ⟨(.pair (.arr 8<|.int .u32) fW),agE,tZ⟩:=av (aj TR<|aj OA ar) Tryz.f311
def W0:aB 246 ⟨fW,(.pair (.arr 32<|.int .u8) .unit),ya⟩:=av (aj P2<|aj P3<|aj P4 ar) Tryz.f246
def W1:aB 247 ⟨fW,fW,yb⟩:=av (aj Eu ar) Tryz.f247
def OB:aB 136 ⟨fW,fW,tn⟩:=av (aj W0<|aj W1 ar) Tryz.f136
def Ew:aB 245 ⟨Zt,er,np⟩:=av (aj OB<|aj CZ ar) Tryz.f245
def P5:aB 132 ⟨(.pair y7 .unit),er,qb⟩:=av (aj A9<|aj zb<|aj Ew ar) Tryz.f132
def W2:aB 133 ⟨(.pair zd .unit),er,u5⟩:=av (aj A9<|aj zb<|aj Ew ar) Tryz.f133
def P6:aB 134 ⟨(.pair agD .unit),(.pair (.slice .str) xR),ux⟩:=av ar Tryz.f134
def P7:aB 47 ⟨(.pair (.int .i64)<|.pair agD .unit),uD,fI⟩:=av (aj P1<|aj P5<|aj W2<|aj P6 ar) Tryz.f47
def TS:aB 145 ⟨(.pair (.slice vA) fW),uD,Az⟩:=av ar Tryz.f145
def Ex:aB 58 ⟨(.pair (.slice vA) fW),(.pair (.slice vA) uD),qc⟩:=av (aj TS ar) Tryz.f58
def P8:aB 135 ⟨TI,uD,qd⟩:=av (aj Ex ar) Tryz.f135
def TT:aB 378 ⟨fW,er,wi⟩:=av ar Tryz.f378
def TU:aB 379 ⟨fW,er,wj⟩:=av ar Tryz.f379
def Hg:aB 451 ⟨fW,(.pair (.int .i64) er),nI⟩:=av ar Tryz.f451
def OC:aB 426 ⟨fW,uD,fS⟩:=av (aj Hg ar) Tryz.f426
def W3:aB 427 ⟨fW,uD,yc⟩:=av ar Tryz.f427
def TV:aB 428 ⟨fW,(.pair .str er),pt⟩:=av ar Tryz.f428
def P9:aB 452 ⟨ix,er,ni⟩:=av ar Tryz.f452
def Zw:aB 453 ⟨Fo,er,qQ⟩:=av ar Tryz.f453
def W4:aB 429 ⟨(.pair YH6 uD),er,uX⟩:=av (aj P9<|aj Zw ar) Tryz.f429
def TW:aB 380 ⟨fW,(.pair YH6 uD),pv⟩:=av (aj OC<|aj W3<|aj TV<|aj W4 ar) Tryz.f380
def Qa:aB 381 ⟨uD,uD,nj⟩:=av ar Tryz.f381
def Qb:aB 313 ⟨fW,(.pair WR er),uu⟩:=av (aj TT<|aj TU<|aj TW<|aj Qa ar) Tryz.f313
def Hh:aB 248 ⟨fW,(.pair WR uD),mn⟩:=av (aj Qb ar) Tryz.f248
def kD:aB 386 ⟨fW,xR,eE⟩:=av ar Tryz.f386
def Hi:aB 387 ⟨xR,fW,oY⟩:=av ar Tryz.f387
def uG:aB 315 ⟨fW,TJ,kx⟩:=av (aj kD<|aj Hi ar) Tryz.f315
def OD:aB 430 ⟨TJ,er,oo⟩:=av ar Tryz.f430
def Hj:aB 383 ⟨fW,adl,sa⟩:=av (aj OD ar) Tryz.f383
def OE:aB 431 ⟨fW,er,r9⟩:=av ar Tryz.f431
def OG:aB 388 ⟨fW,er,xd⟩:=av (aj kD<|aj OE ar) Tryz.f388
def OH:aB 389 ⟨fW,er,si⟩:=av ar Tryz.f389
def yC:aB 316 ⟨(.pair BM .unit),er,lZ⟩:=av (aj uG<|aj Hj<|aj OG<|aj OH ar) Tryz.f316
def Hk:aB 323 ⟨(.pair (.pair YH6 fW) fW),(.pair BM .unit),so⟩:=av ar Tryz.f323
def Qc:aB 382 ⟨fW,ix,uc⟩:=av (aj kD<|aj Hi<|aj OG ar) Tryz.f382
def Ba:aB 384 ⟨TJ,fW,pa⟩:=av ar Tryz.f384
def OI:aB 385 ⟨fW,er,lJ⟩:=av (aj yC<|aj Ba<|aj kD ar) Tryz.f385
def Hl:aB 314 ⟨(.pair (.pair YH6 fW) .unit),(.pair (.int .i64)<|.pair .str er),pq⟩:=av (aj uG<|aj yC<|aj Hk<|aj Qc<|aj Hj<|aj Ba<|aj OI ar) Tryz.f314
def Ey:aB 249 ⟨(.pair WR .unit),er,p9⟩:=av (aj Hl ar) Tryz.f249
def Ez:aB 137 ⟨fW,uD,nr⟩:=av (aj Hh<|aj Ey ar) Tryz.f137
def Hm:aB 49 ⟨(.pair BL fW),uD,mo⟩:=av ar Tryz.f49
def TX:aB 150 ⟨(.pair BL uD),fW,wq⟩:=av ar Tryz.f150
def Bb:aB 324 ⟨On,uD,iE⟩:=av ar Tryz.f324
def JO:aB 317 ⟨On,er,ox⟩:=av (aj Bb ar) Tryz.f317
def BD:aB 318 ⟨TJ,uD,mJ⟩:=av (aj kD ar) Tryz.f318
def tN:aB 257 ⟨wG,er,mm⟩:=av (aj uG<|aj yC<|aj JO<|aj BD ar) Tryz.f257
def Qd:aB 432 ⟨TJ,er,ud⟩:=av (aj kD ar) Tryz.f432
def vC:aB 390 ⟨(.pair (.slice BM)<|.pair .str er),wG,jQ⟩:=av (aj Qd ar) Tryz.f390
def OJ:aB 319 ⟨On,wG,sj⟩:=av (aj tN<|aj vC ar) Tryz.f319
def Qe:aB 320 ⟨On,wG,uq⟩:=av (aj tN<|aj vC ar) Tryz.f320
def TY:aB 259 ⟨On,(.pair BM er),wa⟩:=av (aj tN<|aj Bb ar) Tryz.f259
def JP:aB 322 ⟨(.pair (.slice BM)<|.pair BM .unit),DT,oz⟩:=av (aj tN<|aj uG<|aj yC<|aj JO<|aj BD<|aj Bb<|aj vC ar) Tryz.f322
def TZ:aB 321 ⟨On,DT,wg⟩:=av (aj TY<|aj JP<|aj Ba<|aj kD ar) Tryz.f321
def W5:aB 258 ⟨(.pair (.slice BM)<|.pair WR .unit),DT,yj⟩:=av (aj Ey<|aj tN<|aj Hl<|aj OJ<|aj Qe<|aj TZ<|aj JP<|aj Hk ar) Tryz.f258
def Qf:aB 156 ⟨On,DT,uv⟩:=av (aj Ez<|aj Hh<|aj tN<|aj W5 ar) Tryz.f156
def W6:aB 250 ⟨xR,DT,yn⟩:=av (aj Qf ar) Tryz.f250
def T0:aB 138 ⟨(.pair BL fW),DT,mq⟩:=av (aj Hm<|aj Ex<|aj TX<|aj W6 ar) Tryz.f138
def OK:aB 48 ⟨CQ,er,jr⟩:=av (aj P8<|aj OB<|aj Ez<|aj T0 ar) Tryz.f48
def JQ:aB 14 ⟨CQ,er,l4⟩:=av (aj P7<|aj OK<|aj Hm ar) Tryz.f14
def IX:aB 17 ⟨(.pair WS<|.pair WS .unit),er,tH⟩:=av ar Tryz.f17
def Qg:aB 8 ⟨.unit,er,nw⟩:=av (aj WZ<|aj DV<|aj JQ<|aj IX<|aj uF ar) Tryz.f8
def nT:aB 22 ⟨(.pair (.slice .str) xR),er,e8⟩:=av ar Tryz.f22
def yD:aB 82 ⟨(.pair (.slice kI) Zt),er,gW⟩:=av ar Tryz.f82
def Hn:aB 30 ⟨(.pair (.slice zd) agF),er,nQ⟩:=av (aj nT<|aj yD ar) Tryz.f30
def Fs:aB 31 ⟨(.pair (.slice y7) agG),er,mr⟩:=av (aj nT<|aj yD ar) Tryz.f31
def Ft:aB 32 ⟨(.pair (.slice vA) TI),er,mu⟩:=av (aj nT ar) Tryz.f32
def Fu:aB 33 ⟨(.pair (.slice ix) adk),er,mv⟩:=av ar Tryz.f33
def T1:aB 11 ⟨(.pair BL CQ),er,wu⟩:=av (aj nT<|aj Hn<|aj Fs<|aj Ft<|aj Fu ar) Tryz.f11
def W7:aB 139 ⟨xR,er,lV⟩:=av ar Tryz.f139
def IY:aB 140 ⟨Zt,er,eL⟩:=av ar Tryz.f140
def W9:aB 50 ⟨(.pair agD .unit),er,rl⟩:=av (aj W7<|aj IY ar) Tryz.f50
def Xa:aB 51 ⟨TI,er,yl⟩:=av ar Tryz.f51
def Xb:aB 15 ⟨CQ,er,ym⟩:=av (aj W9<|aj Xa ar) Tryz.f15
def IZ:aB 52 ⟨xR,er,pc⟩:=av ar Tryz.f52
def Qh:aB 16 ⟨(.pair YH9 .unit),er,uA⟩:=av (aj IZ ar) Tryz.f16
def BE:aB 20 ⟨(.pair YH9 .unit),er,mW⟩:=av (aj gi ar) Tryz.f20
def Qi:aB 23 ⟨adj,xR,uB⟩:=av (aj kC<|aj El ar) Tryz.f23
def C0:aB 59 ⟨(.pair YH9 .unit),(.pair (.arr 4 .bool) .unit),lP⟩:=av (aj uF ar) Tryz.f59
def T2:aB 25 ⟨adj,CQ,wA⟩:=av (aj BE<|aj Qi<|aj C0<|aj eR<|aj dT<|aj dS<|aj cV<|aj ew ar) Tryz.f25
def T3:aB 27 ⟨(.pair BL<|.pair YH9 CQ),CQ,wB⟩:=av (aj BE<|aj C0<|aj eR<|aj dT<|aj dS<|aj cV<|aj uE ar) Tryz.f27
def Fv:aB 5 ⟨adj,er,jw⟩:=av (aj Qg<|aj T1<|aj Oz<|aj JQ<|aj Xb<|aj Qh<|aj T2<|aj T3 ar) Tryz.f5
end Go.Proofs.YtcebnmppipejfaaGreatDoor
