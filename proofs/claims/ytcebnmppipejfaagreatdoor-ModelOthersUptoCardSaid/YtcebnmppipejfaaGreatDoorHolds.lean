import Derived.Test.YtcebnmppipejfaaGreatDoorFirst
import Derived.Test.YtcebnmppipejfaaGreatDoorBld
set_option linter.unusedVariables false
set_option linter.unusedSectionVars false
set_option linter.unusedSimpArgs false
set_option linter.defProp false
open Option renaming some->ab,none->ah
namespace Go.Proofs.YtcebnmppipejfaaGreatDoor
open Go Go.Ge
set_option maxRecDepth 100000
variable [Lp]
open First
def cy(s:List (Nat×Nat))(m:List Nat):Option Lx:=ab ⟨s,m,false⟩
def cz(s:List (Nat×Nat)):Option Lx:=ab ⟨s,[],false⟩
def fp(a:List (Option Lx)):FA:=⟨a,[]⟩
abbrev Bl:Ty:=(.pair (.slice<|.pair .str<|.pair (.slice .str)<|.pair .str<|.pair .str<|.pair .str<|.pair (.slice<|.pair .str<|.pair .str<|.pair .str .unit) .unit)<|.pair (.slice<|.pair .str<|.pair (.slice .str)<|.pair .str<|.pair .str<|.pair (.slice<|.pair .str<|.pair .str<|.pair .str .unit) .unit)<|.pair (.slice<|.pair .str<|.pair .str<|.pair (.slice .str)<|.pair .str<|.pair (.int .i64)<|.pair (.int .i64)<|.pair .bool .unit)<|.pair (.slice .str)<|.pair (.slice<|.pair .str<|.pair (.int .i64) .unit) .unit)
abbrev YH1:Ty:=(.pair .str<|.pair .str<|.pair (.slice<|.pair .str<|.pair .str<|.pair .str .unit) .unit)
abbrev vu:Ty:=(.pair .str<|.pair .str<|.pair (.slice .str)<|.pair .str<|.pair (.int .i64)<|.pair (.int .i64)<|.pair .bool .unit)
abbrev BE:Ty:=(.pair .str<|.pair (.int .i64)<|.pair (.int .i64)<|.pair .str<|.pair .str .unit)
abbrev fR:Ty:=(.pair .str .unit)
abbrev uo:Ty:=(.pair (.int .i64) .unit)
abbrev YH6:Ty:=(.pair .str<|.pair (.int .i64)<|.pair (.int .i64)<|.pair (.int .i64)<|.pair (.int .i64)<|.pair (.int .i64)<|.pair (.int .i64) fR)
abbrev y6:Ty:=(.pair .str<|.pair (.slice .str)<|.pair .str YH1)
abbrev yX:Ty:=(.pair .str<|.pair (.slice .str) YH1)
abbrev YH9:Ty:=(.pair (.int .i64)<|.pair (.int .i64)<|.pair .str<|.pair .str<|.pair (.slice .str)<|.pair .str<|.pair .str uo)
abbrev kG:Ty:=(.pair .str<|.pair .str fR)
abbrev Kq:Ty:=(.pair (.int .i64)<|.pair .str<|.pair (.int .i64) fR)
abbrev eo:Ty:=(.pair .bool .unit)
abbrev xM:Ty:=(.pair (.slice .str) .unit)
abbrev ij:Ty:=(.pair .str uo)
abbrev wz:Ty:=(.pair (.slice BE) .unit)
abbrev acZ:Ty:=(.alt 322 fR<|.alt 324 fR<|.alt 326 .unit<|.alt 328 (.pair BE .unit) .Bz)
abbrev agi:Ty:=(.pair (.int .i64)<|.pair (.slice vu)<|.pair (.slice yX)<|.pair (.slice y6) .unit)
abbrev DE:Ty:=(.pair (.slice BE) uo)
abbrev Kr:Ty:=(.pair Bl<|.pair Kq .unit)
abbrev Ff:Ty:=(.pair (.int .i64) uo)
abbrev N4:Ty:=(.slice<|.pair .str xM)
abbrev CI:Ty:=(.pair Bl .unit)
abbrev N5:Ty:=(.pair (.slice BE) fR)
abbrev ah2:Ty:=(.pair .bool<|.pair .str<|.pair (.int .i64)<|.pair .bool eo)
abbrev agj:Ty:=(.pair (.arr 8<|.int .u32) .unit)
abbrev Tn:Ty:=(.pair (.slice vu) .unit)
abbrev Wz:Ty:=(.slice<|.pair YH6 fR)
abbrev Ze:Ty:=(.pair (.slice kG) .unit)
abbrev ac0:Ty:=(.pair Bl<|.pair YH9 .unit)
abbrev Zf:Ty:=(.pair (.int .u8) .unit)
abbrev ac1:Ty:=(.pair (.slice ij) .unit)
abbrev WA:Ty:=(.slice<|.int .i64)
abbrev ajt:Ty:=(.pair (.pair .bool agj)<|.pair (.arr 64<|.int .u8) uo)
abbrev To:Ty:=(.pair .str fR)
abbrev ac2:Ty:=(.pair (.int .i64) fR)
abbrev aju:Ty:=(.pair Bl<|.pair .str<|.pair (.slice .str) ij)
abbrev agk:Ty:=(.pair (.slice y6) .unit)
abbrev agl:Ty:=(.pair (.slice yX) .unit)
noncomputable def fF:Nat->FA
 | 6=>fp [ah,ah]
 | 9=>⟨[cy [(6,32),(12,3)] [2,6],ah],[6]⟩
 | 12=>fp [ah,cz [(4,4),(5,3)],ah,ah]
 | 13=>fp [ah,ah,ah,ah,ah,ah,ah,ah,ah,ah,cz [(104,4)],ah,cz [(112,4)],cz [(112,4)],ah]
 | 14=>fp [ah,cz [(2,4),(3,3)],ah,ah,cz [(2,4),(4,3)],ah,cz [(6,4),(7,3)],ah,ah,cz [(2,4),(8,3)],ah,ah]
 | 15=>fp [cz [(2,4),(3,3)],ah,ah]
 | 17=>fp [ah,cz [(4,4),(5,3)],ah,ah]
 | 18=>fp [cz [(5,4)],cz [(5,4)],ah,ah,ah,cz [(16,4)],cz [(16,4)],cz [(16,4)],cz [(16,4)],ah,cz [(23,4)],ah,cz [(29,4)],cz [(29,4)],ah]
 | 22=>fp [ah,cz [(4,4),(5,3)],ah,ah]
 | 23=>⟨[cz [(4,28),(5,9)],ah,ah,ah,cy [(10,28),(64,3)] [10],ah],[10]⟩
 | 25=>⟨[cy [] [7],cy [] [7],cy [] [7],ah,cy [(47,3)] [7],ah,cy [] [7]],[8000000]⟩
 | 27=>⟨[cy [] [8],cy [] [8],cy [] [8],ah,cy [(54,3)] [8],ah,cy [] [8]],[8000000]⟩
 | 30=>fp [ah,cz [(4,4),(5,3)],ah,ah]
 | 31=>fp [ah,cz [(4,4),(5,3)],ah,ah]
 | 32=>fp [ah,cz [(4,4),(5,3)],ah,ah]
 | 33=>fp [ah,cz [(4,4),(5,3)],ah,ah]
 | 34=>⟨[ah,cy [] [8]],[36]⟩
 | 35=>fp [ah,ah]
 | 36=>fp [ah]
 | 37=>fp [ah,ah,ah]
 | 40=>fp [ah,cy [(13,37)] [12],cz [(13,37)],cy [(13,37)] [12],ah]
 | 41=>fp [ah,ah]
 | 42=>fp [ah,cy [(13,37)] [12],cz [(13,37)],cy [(13,37)] [12],ah,cy [] [14],ah]
 | 43=>fp [ah,ah]
 | 44=>fp [ah,ah,ah,ah,ah]
 | 45=>fp [ah,ah,ah,cz [(8,37)],ah,cy [] [2]]
 | 47=>fp [ah,cz [(4,37),(6,3)],ah,ah,cz [(4,37),(7,3)],ah,ah,cz [(4,37),(8,3)],ah,ah,cz [(4,37),(11,3)],ah,ah,cz [(4,37),(12,3)],ah,cz [(4,37),(13,3)],ah,ah]
 | 48=>fp [ah,cz [(2,4),(3,3)],ah,ah,ah]
 | 49=>fp [cz [(4,3),(5,3)],ah,ah]
 | 50=>fp [cz [(2,4),(3,3)],ah,ah,cz [(2,4),(4,3)],ah,ah,cz [(2,4),(5,3)],ah,ah]
 | 51=>fp [cz [(2,4),(3,3)],ah,ah]
 | 52=>fp [cz [(2,4),(3,3)],ah,ah]
 | 53=>fp [ah]
 | 56=>⟨[cy [(4,27),(5,37),(6,27),(7,9)] [6],cy [(4,27),(5,37),(6,27),(7,9),(13,3)] [6],ah,ah,ah,ah],[6]⟩
 | 58=>⟨[ab ⟨[(1,9),(4,27),(5,37),(6,27),(7,3)],[6],true⟩,ah,ah,ah,ah],[6]⟩
 | 59=>fp [cy [(9,3)] [3],ah]
 | 60=>⟨[ah],[5]⟩
 | 61=>⟨[ah],[5]⟩
 | 62=>⟨[ah],[5]⟩
 | 63=>⟨[ah],[5]⟩
 | 67=>fp [ah]
 | 82=>fp [ah,cz [(4,4),(5,3)],ah,ah]
 | 83=>⟨[cy [] [6000008],ah,ah],[5000000,7000037]⟩
 | 85=>⟨[ah],[7]⟩
 | 86=>⟨[ah],[7000037]⟩
 | 87=>fp [ah]
 | 88=>fp [cy [(3,37)] [2]]
 | 90=>fp [ah,cy [(6,37),(21,3)] [5],ah,ah]
 | 93=>fp [ah,cy [(4,9),(5,37),(17,3),(0,999999)] [0],ah,ah]
 | 94=>⟨[ah],[7000037]⟩
 | 95=>⟨[ah,cz [(4,37)]],[7000037]⟩
 | 96=>fp [ah]
 | 97=>fp [ah]
 | 101=>fp [cz [(7,3)]]
 | 103=>fp [ah]
 | 105=>⟨[ah,cy [(8,25),(28,3)] [8,2000026],ah],[8]⟩
 | 106=>⟨[ah],[6]⟩
 | 107=>fp [cy [(11,3)] [4],ah,cz [(7,9)]]
 | 108=>fp [ah,ah,ah]
 | 115=>⟨[cy [(7,26)] [7,8]],[10]⟩
 | 119=>fp [cy [(5,4),(11,3)] [4],ah,ah]
 | 120=>⟨[cz [(5,3)]],[8000000]⟩
 | 122=>fp [ah]
 | 123=>⟨[cy [(5,25)] [5,6]],[9,8000000]⟩
 | 124=>⟨[ah,ah,cy [(7,28),(27,3)] [7],ah,cy [(7,28)] [7],ah,ah],[7]⟩
 | 126=>fp [ah]
 | 127=>fp [ah]
 | 128=>fp [ah,ah]
 | 129=>⟨[cy [(8,3)] [3],ah],[4000014]⟩
 | 130=>⟨[ah,ah],[43,8000000]⟩
 | 134=>⟨[cy [(4,28),(5,28),(6,3)] [4,5],ah,cy [(4,28),(5,28),(7,3)] [4,5],ah,cy [(4,28),(5,28),(8,3)] [4,5],ah],[4,5]⟩
 | 135=>fp [cz [(2,37),(3,3)],ah,ah]
 | 137=>fp [ah]
 | 138=>⟨[ah,cy [(8,28),(9,3)] [8],ah],[8]⟩
 | 139=>fp [cz [(2,4),(3,3)],ah,ah]
 | 140=>fp [cz [(2,4),(3,3)],ah,ah]
 | 141=>fp [cz [(4,3),(8,3)],ah,ah]
 | 142=>⟨[ah],[5]⟩
 | 145=>fp [cz [(4,3),(5,3)],ah,ah]
 | 146=>fp [cz [(4,3),(8,3)],ah,ah]
 | 150=>fp [ah]
 | 156=>fp [ah,ah]
 | 186=>⟨[cy [(5,161),(6,0),(7,4)] [4,5,6],ah,ah],[5,6]⟩
 | 187=>⟨[cy [(2,164),(3,4),(4,164),(11,3)] [4],ah,ah],[4]⟩
 | 190=>⟨[cy [] [5,6],cy [(20,3)] [5,6],ah,cy [] [5,6],cy [(36,3)] [5,6],ah,cy [] [5,6],cy [(52,3)] [5,6],ah,cy [] [5,6,12]],[5]⟩
 | 194=>fp [ah,cz [(2,37),(12,3)],ah,ah]
 | 195=>⟨[ah,ah,cy [(8,22),(30,3),(6,999999),(28,999999)] [6,8,28,2000008],ah,cy [(4,22),(5,27),(8,22),(40,3),(38,999999)] [8,38],ah,ah],[25]⟩
 | 198=>fp [cy [(9,3)] [3],ah]
 | 199=>⟨[cy [(4,3),(8,3)] [1],ah,ah],[7000003]⟩
 | 201=>⟨[],[8]⟩
 | 202=>⟨[],[8]⟩
 | 210=>⟨[ah],[9]⟩
 | 211=>⟨[ah],[9]⟩
 | 212=>⟨[cy [(7,26)] [4,7,2000007],cz [(8,3)]],[11]⟩
 | 213=>fp [cy [(2,3),(3,3),(0,999999)] [0,3999999],ah]
 | 214=>fp [cz [(2,96),(3,37),(4,96),(11,3)],ah,ah]
 | 216=>fp [cy [(0,96),(1,96)] [2,3,4],ah,cz [(10,3)],cz [(10,3)],cy [] [2,3,4],cy [] [3,4],cz [(0,96)],cz [(1,96)]]
 | 218=>fp [cy [] [2]]
 | 222=>⟨[ah],[5]⟩
 | 223=>fp [cz [(8,3)]]
 | 224=>fp [cy [(4,3),(8,3)] [1],ah,ah]
 | 232=>fp [cy [(4,3),(8,3)] [1],ah,ah]
 | 239=>fp [cz [(8,3)]]
 | 243=>fp [cz [(2,4),(3,3)],ah,ah,cz [(2,4),(4,3)],ah,ah]
 | 244=>fp [ah,ah]
 | 245=>fp [cz [(2,4),(3,3)],ah,ah]
 | 246=>fp [cy [(5,3)] [3],ah,cy [(7,3)] [6],ah]
 | 247=>⟨[cy [(3,180),(4,3)] [3],ah],[3]⟩
 | 248=>fp [ah]
 | 249=>fp [cz [(2,4),(3,3)],ah,ah]
 | 250=>fp [cz [(2,96),(3,37),(4,96),(5,3)],ah,ah]
 | 257=>fp [ah,cz [(2,4),(3,3)],ah,ah]
 | 258=>fp [ah,ah,cz [(0,96),(6,3)],ah,cz [(0,96)],cz [(0,96)],cz [(0,96),(4,96),(5,37),(10,3)],ah,ah,ah,ah]
 | 259=>fp [ah]
 | 263=>fp [cz [(2,4),(3,3)],ah,ah]
 | 266=>fp [cy [(4,3),(8,3)] [1],ah,ah]
 | 267=>fp [ah,ah,ah]
 | 269=>fp [ah,ah,ah,ah]
 | 271=>fp [ah,ah,ah,ah,ah]
 | 275=>fp [ah]
 | 276=>fp [ah,ah,ah,ah]
 | 278=>fp [ah,ah,ah]
 | 282=>fp [ah,cy [(1,9)] [0],ah,cy [] [0]]
 | 283=>fp [cy [] [3],cy [] [3],ah,cy [(26,3)] [5],ah,cy [(41,3)] [7],ah]
 | 287=>fp [cy [(4,3),(8,3)] [1],ah,ah]
 | 288=>fp [cy [(4,3),(8,3)] [1],ah,ah]
 | 292=>fp [ah,cy [(5,3),(6,3),(0,999999)] [0,1],ah,cy [(5,3),(0,999999)] [0]]
 | 295=>⟨[],[8]⟩
 | 303=>fp [cy [(4,3),(8,3)] [1],ah,ah]
 | 305=>⟨[cy [(7,67)] [7,8]],[10]⟩
 | 308=>⟨[ah,cy [(2,9),(3,4),(4,180),(5,3)] [4],ah,ah],[4]⟩
 | 310=>fp [cy [(3,180)] [0,3],ah,cy [(3,180),(5,3)] [3],ah]
 | 311=>fp [cy [(6,3)] [5],ah,cy [(7,3)] [5],ah,cy [(12,3)] [11],ah,cy [(17,3)] [11],ah]
 | 312=>fp [ah]
 | 313=>⟨[ah,ab ⟨[(0,9),(2,161),(3,4),(4,161)],[4],true⟩,ah,ah,ah],[4]⟩
 | 314=>fp [ah,ah,ah,ah]
 | 315=>fp [ah]
 | 316=>fp [ah,ah,ah]
 | 318=>fp [cz [(4,3),(7,3)],ah,ah,ah,ah,ah]
 | 319=>fp [ah]
 | 320=>fp [ah]
 | 321=>fp [cz [(0,96),(4,96),(5,37),(7,9),(8,3)],ah,ah,ah]
 | 322=>⟨[ah,ah,ah,ab ⟨[(8,22),(0,999999)],[0],true⟩,ab ⟨[(8,22),(0,999999)],[0],true⟩,ah,cz [(12,3)],ah],[10,11]⟩
 | 324=>fp [cz [(4,3),(5,3)],ah,ah]
 | 336=>fp [cz [(0,9)],ah]
 | 337=>fp [cz [(0,9)],ah]
 | 338=>fp [cy [(3,4),(4,3)] [2],ah,ah]
 | 339=>fp [cy [(0,9)] [1],ah,ah]
 | 340=>fp [cy [(0,9)] [1],ah,ah]
 | 345=>fp [ah,cz [(4,9)],cz [(71,4)],cy [] [10],cy [] [10],cy [] [10],ah]
 | 347=>⟨[cy [(2,9),(3,37),(4,28),(11,3)] [4],ah,cy [(2,9),(3,37),(4,28)] [4],ah,ah],[4]⟩
 | 348=>fp [ah,ah,ah]
 | 349=>fp [ah]
 | 351=>⟨[cy [(3,96),(6,9),(18,3)] [3],ah],[3]⟩
 | 352=>fp [ah,ah,ah,ah,ah]
 | 355=>fp [cy [(6,3),(13,3)] [2],ah,ah,ah,ah]
 | 356=>fp [ah]
 | 357=>fp [ah,ah,ah,ah,ah]
 | 362=>fp [cy [] [0],cz [(6,254),(7,254),(8,254),(9,254),(10,254),(11,254),(12,254),(13,254),(74,3)],ah,cy [(143,3)] [0],ah]
 | 375=>fp [cz [(2,3),(3,3)],ah,ah]
 | 378=>fp [cz [(2,4),(3,3)],ah,ah]
 | 379=>fp [ah,cz [(2,4),(3,3)],ah,ah]
 | 380=>fp [ah,cy [] [11],cz [(74,4)],cy [] [11],cy [] [11],cy [] [11],ah]
 | 381=>fp [cz [(0,3)],ah]
 | 382=>⟨[cy [(5,28),(6,3)] [5],ah,cy [(5,28)] [5],ah],[5]⟩
 | 383=>fp [ah,ah,ah]
 | 384=>fp [ah,ah]
 | 385=>fp [cz [(2,4),(4,9),(5,3)],ah,ah]
 | 386=>⟨[ah,cy [(3,28),(4,9),(5,3)] [3],ah,cy [(3,28),(4,9)] [3]],[3]⟩
 | 387=>fp [cz [(3,9),(4,3)],ah,cz [(3,9)]]
 | 388=>fp [cz [(2,4),(4,3)],ah,ah]
 | 389=>fp [cz [(2,4),(3,3)],ah,ah]
 | 390=>⟨[cy [(7,96),(8,3)] [7],ah,cy [(7,96)] [7]],[7]⟩
 | 402=>fp [ah]
 | 403=>fp [cz [(4,3),(12,3)],ah,cz [(6,5)]]
 | 405=>fp [ah,ah,ah,ah]
 | 406=>fp [cz [(2,4),(6,3)],ah,ah]
 | 408=>fp [cz [(4,3),(5,3)],ah,ah]
 | 409=>fp [cz [(9,254),(10,3)],ah,ah,cz [(4,3),(9,254),(11,3)],ah,ah]
 | 412=>fp [cy [(9,3),(10,3)] [1,2],ah,cz [(9,3),(10,3)]]
 | 417=>fp [cy [(12,3)] [3],ah,cy [(22,3)] [3],ah,cy [(7,3)] [3],ah]
 | 426=>fp [cz [(3,3)],ah,ah,cz [(2,3),(4,3)],ah,ah,ah]
 | 427=>fp [cz [(3,3),(4,3)],ah,cz [(3,3)]]
 | 428=>fp [cz [(2,9),(3,4),(4,3)],ah,ah,cz [(2,9),(3,4),(5,3)],ah,ah]
 | 429=>fp [cz [(5,4)]]
 | 431=>fp [cz [(2,4),(3,3)],ah,ah]
 | 432=>fp [ah,cz [(4,4),(7,3)],ah,ah]
 | 438=>fp [ah,ah,ah]
 | 439=>fp [ah,cz [(2,3),(3,4),(4,3),(18,3)],ah,ah]
 | 442=>fp [ah]
 | 443=>fp [cz [(4,254),(5,3)],ah,cz [(6,254),(7,254),(8,3)],ah,cz [(6,254)]]
 | 451=>fp [ah,cz [(2,3),(3,4),(4,3),(5,3)],ah,ah]
 | 452=>fp [cz [(4,4),(5,3)],ah,ah]
 | 485=>⟨[ah],[9]⟩
 | 488=>fp [ah,cy [(5,3),(6,3),(0,999999)] [0,1],ah,cy [(5,3),(0,999999)] [0]]
 | 489=>⟨[ah],[5]⟩
 | 491=>fp [ah,cz [(4,4),(13,3)],ah,ah]
 | 492=>fp [cy [(4,3),(8,3)] [1],ah,ah]
 | 500=>fp [cz [(1,96),(4,96),(5,37),(6,9),(25,3)],ah,ah,ah]
 | 501=>fp [ah,ah]
 | 502=>⟨[ah,ah,ah,ah],[55]⟩
 | _=>⟨[],[]⟩
def sG:List (Nat×List Dt):=[(203,[.self,.buf (.int .u8) 5]),(326,[])]
def T8:List (Nat×Nat):=[(180,5),(157,99)]
noncomputable def TL:List (Nat×Spc):=[(221,.str 203 5),(296,.chk 203),(60,.clone y6),(61,.clone yX),(62,.clone ij),(63,.clone vu),(142,.clone .str),(222,.clone kG),(489,.clone BE),(181,(.own .str .unit false en)),(182,(.own .str .unit true gl)),(226,(.own yX Ff true bk)),(228,(.own y6 (.pair (.int .i64) agk) true bX)),(231,(.own y6 Ff true cH)),(285,(.own .str (.pair (.int .i64) xM) true eX)),(286,(.own vu (.pair (.int .i64) Tn) true dH)),(290,(.own .str Ff true eY)),(291,(.own vu Ff true dI)),(298,(.own yX (.pair (.int .i64) agl) true bG)),(307,(.own kG (.pair (.int .i64) Ze) true aN)),(367,(.own ij (.pair (.int .i64) ac1) true e9)),(372,(.own kG Ff true bC)),(503,(.own BE (.pair (.int .i64) wz) true aZ))]
noncomputable def tys:List (Nat×Ty):=[(3,(.int .i64)),(4,.bool),(5,(.int .u8)),(9,.str),(21,(.int .i32)),(22,(.slice YH9)),(25,(.slice y6)),(26,(.slice yX)),(27,(.slice vu)),(28,(.slice .str)),(29,(.slice ij)),(31,Bl),(32,(.slice Kq)),(37,(.int .i64)),(39,Kq),(43,YH9),(48,WA),(66,agi),(67,(.slice kG)),(69,yX),(72,y6),(74,ij),(85,vu),(86,(.arr 4 .bool)),(96,(.slice BE)),(102,N4),(113,(.slice ac2)),(125,(.int .u64)),(139,(.arr 4<|.int .i64)),(156,kG),(161,Wz),(164,(.slice acZ)),(169,(.pair .str xM)),(178,(.arr 32<|.int .u8)),(180,(.slice<|.int .u8)),(193,ac2),(197,BE),(200,(.arr 4 .str)),(233,YH6),(235,(.pair YH6 fR)),(239,acZ),(254,(.int .u32)),(255,(.arr 8<|.int .u32)),(257,(.pair .bool agj)),(258,(.arr 64<|.int .u8)),(260,ajt),(295,(.int .i64)),(304,(.int .u64)),(307,(.arr 256 .bool)),(313,ah2),(322,fR),(324,fR),(328,(.pair BE .unit)),(339,(.arr 8<|.int .u8)),(349,(.arr 64<|.int .u32)),(354,(.int .u64)),(380,Ff),(381,(.arr 11 Ff)),(386,(.arr 2 .str)),(391,(.arr 256<|.int .u8)),(393,(.pair (.int .u8) Zf)),(394,(.arr 16<|.pair (.int .u8) Zf))]
noncomputable def AJ:List (Nat×Func):=[(6,Tryz.f6),(8,Tryz.f8),(9,Tryz.f9),(11,Tryz.f11),(12,Tryz.f12),(13,Tryz.f13),(14,Tryz.f14),(15,Tryz.f15),(16,Tryz.f16),(17,Tryz.f17),(18,Tryz.f18),(20,Tryz.f20),(22,Tryz.f22),(23,Tryz.f23),(25,Tryz.f25),(27,Tryz.f27),(30,Tryz.f30),(31,Tryz.f31),(32,Tryz.f32),(33,Tryz.f33),(34,Tryz.f34),(35,Tryz.f35),(36,Tryz.f36),(37,Tryz.f37),(38,Tryz.f38),(39,Tryz.f39),(40,Tryz.f40),(41,Tryz.f41),(42,Tryz.f42),(43,Tryz.f43),(44,Tryz.f44),(45,Tryz.f45),(46,Tryz.f46),(47,Tryz.f47),(48,Tryz.f48),(49,Tryz.f49),(50,Tryz.f50),(51,Tryz.f51),(52,Tryz.f52),(53,Tryz.f53),(54,Tryz.f54),(55,Tryz.f55),(56,Tryz.f56),(58,Tryz.f58),(59,Tryz.f59),(60,Tryz.f60),(61,Tryz.f61),(62,Tryz.f62),(63,Tryz.f63),(64,Tryz.f64),(67,Tryz.f67),(82,Tryz.f82),(83,Tryz.f83),(84,Tryz.f84),(85,Tryz.f85),(86,Tryz.f86),(87,Tryz.f87),(88,Tryz.f88),(89,Tryz.f89),(90,Tryz.f90),(91,Tryz.f91),(92,Tryz.f92),(93,Tryz.f93),(94,Tryz.f94),(95,Tryz.f95),(96,Tryz.f96),(97,Tryz.f97),(98,Tryz.f98),(99,Tryz.f99),(100,Tryz.f100),(101,Tryz.f101),(102,Tryz.f102),(103,Tryz.f103),(104,Tryz.f104),(105,Tryz.f105),(106,Tryz.f106),(107,Tryz.f107),(108,Tryz.f108),(109,Tryz.f109),(110,Tryz.f110),(111,Tryz.f111),(112,Tryz.f112),(113,Tryz.f113),(114,Tryz.f114),(115,Tryz.f115),(116,Tryz.f116),(117,Tryz.f117),(118,Tryz.f118),(119,Tryz.f119),(120,Tryz.f120),(121,Tryz.f121),(122,Tryz.f122),(123,Tryz.f123),(124,Tryz.f124),(125,Tryz.f125),(126,Tryz.f126),(127,Tryz.f127),(128,Tryz.f128),(129,Tryz.f129),(130,Tryz.f130),(131,Tryz.f131),(132,Tryz.f132),(133,Tryz.f133),(134,Tryz.f134),(135,Tryz.f135),(136,Tryz.f136),(137,Tryz.f137),(138,Tryz.f138),(139,Tryz.f139),(140,Tryz.f140),(141,Tryz.f141),(142,Tryz.f142),(145,Tryz.f145),(146,Tryz.f146),(147,Tryz.f147),(148,Tryz.f148),(149,Tryz.f149),(150,Tryz.f150),(156,Tryz.f156),(183,Tryz.f183),(184,Tryz.f184),(185,Tryz.f185),(186,Tryz.f186),(187,Tryz.f187),(188,Tryz.f188),(189,Tryz.f189),(190,Tryz.f190),(191,Tryz.f191),(192,Tryz.f192),(193,Tryz.f193),(194,Tryz.f194),(195,Tryz.f195),(197,Tryz.f197),(198,Tryz.f198),(199,Tryz.f199),(200,Tryz.f200),(201,Tryz.f201),(202,Tryz.f202),(203,Tryz.f203),(204,Tryz.f204),(205,Tryz.f205),(206,Tryz.f206),(207,Tryz.f207),(208,Tryz.f208),(209,Tryz.f209),(210,Tryz.f210),(211,Tryz.f211),(212,Tryz.f212),(213,Tryz.f213),(214,Tryz.f214),(215,Tryz.f215),(216,Tryz.f216),(217,Tryz.f217),(218,Tryz.f218),(219,Tryz.f219),(220,Tryz.f220),(222,Tryz.f222),(223,Tryz.f223),(224,Tryz.f224),(225,Tryz.f225),(227,Tryz.f227),(229,Tryz.f229),(230,Tryz.f230),(232,Tryz.f232),(233,Tryz.f233),(234,Tryz.f234),(235,Tryz.f235),(236,Tryz.f236),(237,Tryz.f237),(238,Tryz.f238),(239,Tryz.f239),(241,Tryz.f241),(242,Tryz.f242),(243,Tryz.f243),(244,Tryz.f244),(245,Tryz.f245),(246,Tryz.f246),(247,Tryz.f247),(248,Tryz.f248),(249,Tryz.f249),(250,Tryz.f250),(253,Tryz.f253),(257,Tryz.f257),(258,Tryz.f258),(259,Tryz.f259),(263,Tryz.f263),(266,Tryz.f266),(267,Tryz.f267),(268,Tryz.f268),(269,Tryz.f269),(270,Tryz.f270),(271,Tryz.f271),(272,Tryz.f272),(273,Tryz.f273),(274,Tryz.f274),(275,Tryz.f275),(276,Tryz.f276),(277,Tryz.f277),(278,Tryz.f278),(282,Tryz.f282),(283,Tryz.f283),(284,Tryz.f284),(287,Tryz.f287),(288,Tryz.f288),(289,Tryz.f289),(292,Tryz.f292),(293,Tryz.f293),(294,Tryz.f294),(295,Tryz.f295),(297,Tryz.f297),(299,Tryz.f299),(302,Tryz.f302),(303,Tryz.f303),(304,Tryz.f304),(305,Tryz.f305),(306,Tryz.f306),(308,Tryz.f308),(309,Tryz.f309),(310,Tryz.f310),(311,Tryz.f311),(312,Tryz.f312),(313,Tryz.f313),(314,Tryz.f314),(315,Tryz.f315),(316,Tryz.f316),(317,Tryz.f317),(318,Tryz.f318),(319,Tryz.f319),(320,Tryz.f320),(321,Tryz.f321),(322,Tryz.f322),(323,Tryz.f323),(324,Tryz.f324),(336,Tryz.f336),(337,Tryz.f337),(338,Tryz.f338),(339,Tryz.f339),(340,Tryz.f340),(343,Tryz.f343),(344,Tryz.f344),(345,Tryz.f345),(346,Tryz.f346),(347,Tryz.f347),(348,Tryz.f348),(349,Tryz.f349),(350,Tryz.f350),(351,Tryz.f351),(352,Tryz.f352),(353,Tryz.f353),(354,Tryz.f354),(355,Tryz.f355),(356,Tryz.f356),(357,Tryz.f357),(358,Tryz.f358),(362,Tryz.f362),(375,Tryz.f375),(376,Tryz.f376),(377,Tryz.f377),(378,Tryz.f378),(379,Tryz.f379),(380,Tryz.f380),(381,Tryz.f381),(382,Tryz.f382),(383,Tryz.f383),(384,Tryz.f384),(385,Tryz.f385),(386,Tryz.f386),(387,Tryz.f387),(388,Tryz.f388),(389,Tryz.f389),(390,Tryz.f390),(396,Tryz.f396),(397,Tryz.f397),(401,Tryz.f401),(402,Tryz.f402),(403,Tryz.f403),(404,Tryz.f404),(405,Tryz.f405),(406,Tryz.f406),(407,Tryz.f407),(408,Tryz.f408),(409,Tryz.f409),(412,Tryz.f412),(413,Tryz.f413),(415,Tryz.f415),(416,Tryz.f416),(417,Tryz.f417),(418,Tryz.f418),(426,Tryz.f426),(427,Tryz.f427),(428,Tryz.f428),(429,Tryz.f429),(430,Tryz.f430),(431,Tryz.f431),(432,Tryz.f432),(437,Tryz.f437),(438,Tryz.f438),(439,Tryz.f439),(440,Tryz.f440),(441,Tryz.f441),(442,Tryz.f442),(443,Tryz.f443),(446,Tryz.f446),(451,Tryz.f451),(452,Tryz.f452),(453,Tryz.f453),(482,Tryz.f482),(483,Tryz.f483),(484,Tryz.f484),(485,Tryz.f485),(486,Tryz.f486),(487,Tryz.f487),(488,Tryz.f488),(489,Tryz.f489),(490,Tryz.f490),(491,Tryz.f491),(492,Tryz.f492),(493,Tryz.f493),(494,Tryz.f494),(495,Tryz.f495),(496,Tryz.f496),(497,Tryz.f497),(498,Tryz.f498),(499,Tryz.f499),(500,Tryz.f500),(501,Tryz.f501),(502,Tryz.f502)]
def rv:List Nat:=[99,120,122,131,140,141,151,160,173,187,194,198,199,201,218,230,242,245,246,268,273,277,311,337,358,369,371,375]
def zc:List Nat:=[201,230,273,311,337,358,371,375]
noncomputable def wy(b:List (Nat×BG))(a:List (Nat×BK))(c:List (String×BG):=[]):Ctx:=⟨tys,rv,zc,AJ,b,a,sG,TL,T8,c⟩
def mix:Tryz.prog.follows .mixedOrders=true:=by kernel_rfl
def Wy:∀tid t,find tys tid=ab t->Den Tryz.prog t tid:=aey (by kernel_rfl)
def GZ:∀tid,dA rv tid=true->(∀w,(isAgg tid).run Tryz.prog w=.ok false w)/\(∀w,(Go.sizeOf tid).run Tryz.prog w=.ok 1 w)/\∃z,(∀w,(zeroValue tid).run Tryz.prog w=.ok z w)/\z.oneCell'=true:=ZU (by kernel_rfl)
def G0:∀tid,dA zc tid=true->∃e,Tryz.prog.underlying tid=ab (.pointer e):=ZV (by kernel_rfl)
def N0:∀f a,find AJ f=ab a->Tryz.prog.funcs[f]?=ab a:=aez ((ak Tryz.func6<|ak Tryz.func8<|ak Tryz.func9<|ak Tryz.func11<|ak Tryz.func12<|ak Tryz.func13<|ak Tryz.func14<|ak Tryz.func15<|ak Tryz.func16<|ak Tryz.func17<|ak Tryz.func18<|ak Tryz.func20<|ak Tryz.func22<|ak Tryz.func23<|ak Tryz.func25<|ak Tryz.func27<|ak Tryz.func30<|ak Tryz.func31<|ak Tryz.func32<|ak Tryz.func33<|ak Tryz.func34<|ak Tryz.func35<|ak Tryz.func36<|ak Tryz.func37<|ak Tryz.func38<|ak Tryz.func39<|ak Tryz.func40<|ak Tryz.func41<|ak Tryz.func42<|ak Tryz.func43<|ak Tryz.func44<|ak Tryz.func45<|ak Tryz.func46<|ak Tryz.func47<|ak Tryz.func48<|ak Tryz.func49<|ak Tryz.func50<|ak Tryz.func51<|ak Tryz.func52<|ak Tryz.func53<|ak Tryz.func54<|ak Tryz.func55<|ak Tryz.func56<|ak Tryz.func58<|ak Tryz.func59<|ak Tryz.func60<|ak Tryz.func61<|ak Tryz.func62<|ak Tryz.func63<|ak Tryz.func64<|ak Tryz.func67<|ak Tryz.func82<|ak Tryz.func83<|ak Tryz.func84<|ak Tryz.func85<|ak Tryz.func86<|ak Tryz.func87<|ak Tryz.func88<|ak Tryz.func89<|ak Tryz.func90<|ak Tryz.func91<|ak Tryz.func92<|ak Tryz.func93<|ak Tryz.func94<|ak Tryz.func95<|ak Tryz.func96<|ak Tryz.func97<|ak Tryz.func98<|ak Tryz.func99<|ak Tryz.func100<|ak Tryz.func101<|ak Tryz.func102<|ak Tryz.func103<|ak Tryz.func104<|ak Tryz.func105<|ak Tryz.func106<|ak Tryz.func107<|ak Tryz.func108<|ak Tryz.func109<|ak Tryz.func110<|ak Tryz.func111<|ak Tryz.func112<|ak Tryz.func113<|ak Tryz.func114<|ak Tryz.func115<|ak Tryz.func116<|ak Tryz.func117<|ak Tryz.func118<|ak Tryz.func119<|ak Tryz.func120<|ak Tryz.func121<|ak Tryz.func122<|ak Tryz.func123<|ak Tryz.func124<|ak Tryz.func125<|ak Tryz.func126<|ak Tryz.func127<|ak Tryz.func128<|ak Tryz.func129<|ak Tryz.func130<|ak Tryz.func131<|ak Tryz.func132<|ak Tryz.func133<|ak Tryz.func134<|ak Tryz.func135<|ak Tryz.func136<|ak Tryz.func137<|ak Tryz.func138<|ak Tryz.func139<|ak Tryz.func140<|ak Tryz.func141<|ak Tryz.func142<|ak Tryz.func145<|ak Tryz.func146<|ak Tryz.func147<|ak Tryz.func148<|ak Tryz.func149<|ak Tryz.func150<|ak Tryz.func156<|ak Tryz.func183<|ak Tryz.func184<|ak Tryz.func185<|ak Tryz.func186<|ak Tryz.func187<|ak Tryz.func188<|ak Tryz.func189<|ak Tryz.func190<|ak Tryz.func191<|ak Tryz.func192<|ak Tryz.func193<|ak Tryz.func194<|ak Tryz.func195<|ak Tryz.func197<|ak Tryz.func198<|ak Tryz.func199<|ak Tryz.func200<|ak Tryz.func201<|ak Tryz.func202<|ak Tryz.func203<|ak Tryz.func204<|ak Tryz.func205<|ak Tryz.func206<|ak Tryz.func207<|ak Tryz.func208<|ak Tryz.func209<|ak Tryz.func210<|ak Tryz.func211<|ak Tryz.func212<|ak Tryz.func213<|ak Tryz.func214<|ak Tryz.func215<|ak Tryz.func216<|ak Tryz.func217<|ak Tryz.func218<|ak Tryz.func219<|ak Tryz.func220<|ak Tryz.func222<|ak Tryz.func223<|ak Tryz.func224<|ak Tryz.func225<|ak Tryz.func227<|ak Tryz.func229<|ak Tryz.func230<|ak Tryz.func232<|ak Tryz.func233<|ak Tryz.func234<|ak Tryz.func235<|ak Tryz.func236<|ak Tryz.func237<|ak Tryz.func238<|ak Tryz.func239<|ak Tryz.func241<|ak Tryz.func242<|ak Tryz.func243<|ak Tryz.func244<|ak Tryz.func245<|ak Tryz.func246<|ak Tryz.func247<|ak Tryz.func248<|ak Tryz.func249<|ak Tryz.func250<|ak Tryz.func253<|ak Tryz.func257<|ak Tryz.func258<|ak Tryz.func259<|ak Tryz.func263<|ak Tryz.func266<|ak Tryz.func267<|ak Tryz.func268<|ak Tryz.func269<|ak Tryz.func270<|ak Tryz.func271<|ak Tryz.func272<|ak Tryz.func273<|ak Tryz.func274<|ak Tryz.func275<|ak Tryz.func276<|ak Tryz.func277<|ak Tryz.func278<|ak Tryz.func282<|ak Tryz.func283<|ak Tryz.func284<|ak Tryz.func287<|ak Tryz.func288<|ak Tryz.func289<|ak Tryz.func292<|ak Tryz.func293<|ak Tryz.func294<|ak Tryz.func295<|ak Tryz.func297<|ak Tryz.func299<|ak Tryz.func302<|ak Tryz.func303<|ak Tryz.func304<|ak Tryz.func305<|ak Tryz.func306<|ak Tryz.func308<|ak Tryz.func309<|ak Tryz.func310<|ak Tryz.func311<|ak Tryz.func312<|ak Tryz.func313<|ak Tryz.func314<|ak Tryz.func315<|ak Tryz.func316<|ak Tryz.func317<|ak Tryz.func318<|ak Tryz.func319<|ak Tryz.func320<|ak Tryz.func321<|ak Tryz.func322<|ak Tryz.func323<|ak Tryz.func324<|ak Tryz.func336<|ak Tryz.func337<|ak Tryz.func338<|ak Tryz.func339<|ak Tryz.func340<|ak Tryz.func343<|ak Tryz.func344<|ak Tryz.func345<|ak Tryz.func346<|ak Tryz.func347<|ak Tryz.func348<|ak Tryz.func349<|ak Tryz.func350<|ak Tryz.func351<|ak Tryz.func352<|ak Tryz.func353<|ak Tryz.func354<|ak Tryz.func355<|ak Tryz.func356<|ak Tryz.func357<|ak Tryz.func358<|ak Tryz.func362<|ak Tryz.func375<|ak Tryz.func376<|ak Tryz.func377<|ak Tryz.func378<|ak Tryz.func379<|ak Tryz.func380<|ak Tryz.func381<|ak Tryz.func382<|ak Tryz.func383<|ak Tryz.func384<|ak Tryz.func385<|ak Tryz.func386<|ak Tryz.func387<|ak Tryz.func388<|ak Tryz.func389<|ak Tryz.func390<|ak Tryz.func396<|ak Tryz.func397<|ak Tryz.func401<|ak Tryz.func402<|ak Tryz.func403<|ak Tryz.func404<|ak Tryz.func405<|ak Tryz.func406<|ak Tryz.func407<|ak Tryz.func408<|ak Tryz.func409<|ak Tryz.func412<|ak Tryz.func413<|ak Tryz.func415<|ak Tryz.func416<|ak Tryz.func417<|ak Tryz.func418<|ak Tryz.func426<|ak Tryz.func427<|ak Tryz.func428<|ak Tryz.func429<|ak Tryz.func430<|ak Tryz.func431<|ak Tryz.func432<|ak Tryz.func437<|ak Tryz.func438<|ak Tryz.func439<|ak Tryz.func440<|ak Tryz.func441<|ak Tryz.func442<|ak Tryz.func443<|ak Tryz.func446<|ak Tryz.func451<|ak Tryz.func452<|ak Tryz.func453<|ak Tryz.func482<|ak Tryz.func483<|ak Tryz.func484<|ak Tryz.func485<|ak Tryz.func486<|ak Tryz.func487<|ak Tryz.func488<|ak Tryz.func489<|ak Tryz.func490<|ak Tryz.func491<|ak Tryz.func492<|ak Tryz.func493<|ak Tryz.func494<|ak Tryz.func495<|ak Tryz.func496<|ak Tryz.func497<|ak Tryz.func498<|ak Tryz.func499<|ak Tryz.func500<|ak Tryz.func501<|ak Tryz.func502 ZW))
def G1:∀tid a,find sG tid=ab a->LG Tryz.prog tid a=true:=ZX (by kernel_rfl)
def N1:∀tid e,find T8 tid=ab e->Tryz.prog.underlying tid=ab (.slice e):=aeA (by kernel_rfl)
def Bk(b:List (Nat×BG))(a:List (Nat×BK))(c:List (String×BG):=[]):fS Tryz.prog (wy b a c):=⟨Wy,GZ,G0,N0,G1,N1⟩
noncomputable def cx0:Ctx:=⟨tys,rv,zc,AJ,[],[],sG,[],T8,[]⟩
def AK:fS Tryz.prog cx0:=⟨Wy,GZ,G0,N0,G1,N1⟩
def tz:fk Tryz.prog 60 (.clone y6):=by
 refine ra (P:=Tryz.prog) (cx:=cx0) (bf:=[2,5]) (e:=y6) (tid:=25) (fn:=Tryz.f60) (s0:=λl=>((pS (λ_=>ah) [.data (.slice y6) l]).cg 2 { val:=.data (.slice y6) ([]:List (y6:Ty).den),tid:=0,buf:=true,ro:=false,lk:=false,aU:=0 }).put 2 (.whole 2 0)) mix AK (fG ar cW tL dZ) Tryz.func60 (by kernel_rfl)
  (by rfl) rfl aK aK rfl rfl rfl rfl rfl rfl (λl=>by rfl) (λl=>rfl) (λl=>rfl) (λl=>rfl) (λl=>by rfl) (λl a=>?_)
 have key:∀m:List (y6:Ty).den,fits (len m)=true->ao (fits<|plus (len ([]:List (y6:Ty).den))<|len m) (ab<|app [] m) ah=ab m:=by
  intro m c;have e:plus (len ([]:List (y6:Ty).den)) (len m)=len m:=by simp[plus,len]
  rw[e,c];rfl
 exact za (b:=ao (fits<|plus (len ([]:List (y6:Ty).den))<|len (α:=(y6:Ty).den) l) (ab<|app (α:=(y6:Ty).den) [] l) ah) (by rfl) (key l a)
def qT:fk Tryz.prog 61 (.clone yX):=by
 refine ra (P:=Tryz.prog) (cx:=cx0) (bf:=[2,5]) (e:=yX) (tid:=26) (fn:=Tryz.f61) (s0:=λl=>((pS (λ_=>ah) [.data (.slice yX) l]).cg 2 { val:=.data (.slice yX) ([]:List (yX:Ty).den),tid:=0,buf:=true,ro:=false,lk:=false,aU:=0 }).put 2 (.whole 2 0)) mix AK (fG ar cW tL dZ) Tryz.func61 (by kernel_rfl)
  (by rfl) rfl aK aK rfl rfl rfl rfl rfl rfl (λl=>by rfl) (λl=>rfl) (λl=>rfl) (λl=>rfl) (λl=>by rfl) (λl a=>?_)
 have key:∀m:List (yX:Ty).den,fits (len m)=true->ao (fits<|plus (len ([]:List (yX:Ty).den))<|len m) (ab<|app [] m) ah=ab m:=by
  intro m c;have e:plus (len ([]:List (yX:Ty).den)) (len m)=len m:=by simp[plus,len]
  rw[e,c];rfl
 exact za (b:=ao (fits<|plus (len ([]:List (yX:Ty).den))<|len (α:=(yX:Ty).den) l) (ab<|app (α:=(yX:Ty).den) [] l) ah) (by rfl) (key l a)
def qU:fk Tryz.prog 62 (.clone ij):=by
 refine ra (P:=Tryz.prog) (cx:=cx0) (bf:=[2,5]) (e:=ij) (tid:=29) (fn:=Tryz.f62) (s0:=λl=>((pS (λ_=>ah) [.data (.slice ij) l]).cg 2 { val:=.data (.slice ij) ([]:List (ij:Ty).den),tid:=0,buf:=true,ro:=false,lk:=false,aU:=0 }).put 2 (.whole 2 0)) mix AK (fG ar cW tL dZ) Tryz.func62 (by kernel_rfl)
  (by rfl) rfl aK aK rfl rfl rfl rfl rfl rfl (λl=>by rfl) (λl=>rfl) (λl=>rfl) (λl=>rfl) (λl=>by rfl) (λl a=>?_)
 have key:∀m:List (ij:Ty).den,fits (len m)=true->ao (fits<|plus (len ([]:List (ij:Ty).den))<|len m) (ab<|app [] m) ah=ab m:=by
  intro m c;have e:plus (len ([]:List (ij:Ty).den)) (len m)=len m:=by simp[plus,len]
  rw[e,c];rfl
 exact za (b:=ao (fits<|plus (len ([]:List (ij:Ty).den))<|len (α:=(ij:Ty).den) l) (ab<|app (α:=(ij:Ty).den) [] l) ah) (by rfl) (key l a)
def qV:fk Tryz.prog 63 (.clone vu):=by
 refine ra (P:=Tryz.prog) (cx:=cx0) (bf:=[2,5]) (e:=vu) (tid:=27) (fn:=Tryz.f63) (s0:=λl=>((pS (λ_=>ah) [.data (.slice vu) l]).cg 2 { val:=.data (.slice vu) ([]:List (vu:Ty).den),tid:=0,buf:=true,ro:=false,lk:=false,aU:=0 }).put 2 (.whole 2 0)) mix AK (fG ar cW tL dZ) Tryz.func63 (by kernel_rfl)
  (by rfl) rfl aK aK rfl rfl rfl rfl rfl rfl (λl=>by rfl) (λl=>rfl) (λl=>rfl) (λl=>rfl) (λl=>by rfl) (λl a=>?_)
 have key:∀m:List (vu:Ty).den,fits (len m)=true->ao (fits<|plus (len ([]:List (vu:Ty).den))<|len m) (ab<|app [] m) ah=ab m:=by
  intro m c;have e:plus (len ([]:List (vu:Ty).den)) (len m)=len m:=by simp[plus,len]
  rw[e,c];rfl
 exact za (b:=ao (fits<|plus (len ([]:List (vu:Ty).den))<|len (α:=(vu:Ty).den) l) (ab<|app (α:=(vu:Ty).den) [] l) ah) (by rfl) (key l a)
def vv:fk Tryz.prog 142 (.clone .str):=by
 refine ra (P:=Tryz.prog) (cx:=cx0) (bf:=[2,5]) (e:=.str) (tid:=28) (fn:=Tryz.f142) (s0:=λl=>((pS (λ_=>ah) [.data (.slice .str) l]).cg 2 { val:=.data (.slice .str) ([]:List (.str:Ty).den),tid:=0,buf:=true,ro:=false,lk:=false,aU:=0 }).put 2 (.whole 2 0)) mix AK (fG ar cW tL dZ) Tryz.func142 (by kernel_rfl)
  (by rfl) rfl aK aK rfl rfl rfl rfl rfl rfl (λl=>by rfl) (λl=>rfl) (λl=>rfl) (λl=>rfl) (λl=>by rfl) (λl a=>?_)
 have key:∀m:List (.str:Ty).den,fits (len m)=true->ao (fits<|plus (len ([]:List (.str:Ty).den))<|len m) (ab<|app [] m) ah=ab m:=by
  intro m c;have e:plus (len ([]:List (.str:Ty).den)) (len m)=len m:=by simp[plus,len]
  rw[e,c];rfl
 exact za (b:=ao (fits<|plus (len ([]:List (.str:Ty).den))<|len (α:=(.str:Ty).den) l) (ab<|app (α:=(.str:Ty).den) [] l) ah) (by rfl) (key l a)
def sC:fk Tryz.prog 222 (.clone kG):=by
 refine ra (P:=Tryz.prog) (cx:=cx0) (bf:=[2,5]) (e:=kG) (tid:=67) (fn:=Tryz.f222) (s0:=λl=>((pS (λ_=>ah) [.data (.slice kG) l]).cg 2 { val:=.data (.slice kG) ([]:List (kG:Ty).den),tid:=0,buf:=true,ro:=false,lk:=false,aU:=0 }).put 2 (.whole 2 0)) mix AK (fG ar cW tL dZ) Tryz.func222 (by kernel_rfl)
  (by rfl) rfl aK aK rfl rfl rfl rfl rfl rfl (λl=>by rfl) (λl=>rfl) (λl=>rfl) (λl=>rfl) (λl=>by rfl) (λl a=>?_)
 have key:∀m:List (kG:Ty).den,fits (len m)=true->ao (fits<|plus (len ([]:List (kG:Ty).den))<|len m) (ab<|app [] m) ah=ab m:=by
  intro m c;have e:plus (len ([]:List (kG:Ty).den)) (len m)=len m:=by simp[plus,len]
  rw[e,c];rfl
 exact za (b:=ao (fits<|plus (len ([]:List (kG:Ty).den))<|len (α:=(kG:Ty).den) l) (ab<|app (α:=(kG:Ty).den) [] l) ah) (by rfl) (key l a)
def eh:fk Tryz.prog 489 (.clone BE):=by
 refine ra (P:=Tryz.prog) (cx:=cx0) (bf:=[2,5]) (e:=BE) (tid:=96) (fn:=Tryz.f489) (s0:=λl=>((pS (λ_=>ah) [.data (.slice BE) l]).cg 2 { val:=.data (.slice BE) ([]:List (BE:Ty).den),tid:=0,buf:=true,ro:=false,lk:=false,aU:=0 }).put 2 (.whole 2 0)) mix AK (fG ar cW tL dZ) Tryz.func489 (by kernel_rfl)
  (by rfl) rfl aK aK rfl rfl rfl rfl rfl rfl (λl=>by rfl) (λl=>rfl) (λl=>rfl) (λl=>rfl) (λl=>by rfl) (λl a=>?_)
 have key:∀m:List (BE:Ty).den,fits (len m)=true->ao (fits<|plus (len ([]:List (BE:Ty).den))<|len m) (ab<|app [] m) ah=ab m:=by
  intro m c;have e:plus (len ([]:List (BE:Ty).den)) (len m)=len m:=by simp[plus,len]
  rw[e,c];rfl
 exact za (b:=ao (fits<|plus (len ([]:List (BE:Ty).den))<|len (α:=(BE:Ty).den) l) (ab<|app (α:=(BE:Ty).den) [] l) ah) (by rfl) (key l a)
def wA:fk Tryz.prog 181 (.own .str .unit false en):=aeC Tryz.func181 (by kernel_rfl) (by kernel_rfl) Tryz.slices_Sort_string Tryz.slices_Sort_string_none
def tB:fk Tryz.prog 182 (.own .str .unit true gl):=U6 Tryz.func182 (by kernel_rfl) (by kernel_rfl) Tryz.slices_Compact_string Tryz.slices_Compact_string_empty XZ
def qf:fk Tryz.prog 226 (.own yX Ff true bk):=by
 have a:Den Tryz.prog yX 69:=by
  show e7 Tryz.prog yX false 69 0 []=true
  kernel_rfl
 obtain⟨h,c,b,d,f,g⟩:=a.info;exact Gf (e:=yX) (ρ:=(⟨λx=>if x=29 then 0 else if x=30 then 0 else 226,λx=>if x=24 then 26 else if x=9 then 69 else if x=3 then 3 else if x=4 then 4 else 0,λx=>x⟩:Go.Shelf.Ren)) (nm := "slices.Delete[[]cooperage/api.Image,cooperage/api.Image]") (z:=c) ⟨mix,Tryz.func226.trans (congrArg ab<|by kernel_rfl),
  by kernel_rfl,by kernel_rfl,by kernel_rfl,λw=>by simp[Go.sizeOf,b,d]<;>kernel_rfl,λw=>uI b f w⟩ aK g aK
def sL:fk Tryz.prog 228 (.own y6 (.pair (.int .i64) agk) true bX):=by
 have a:Den Tryz.prog y6 72:=by
  show e7 Tryz.prog y6 false 72 0 []=true
  kernel_rfl
 obtain⟨f,g,b,c,h,i⟩:=a.info;exact x4 (e:=y6) (ρ:=(⟨λx=>if x=29 then 300 else if x=30 then 301 else 228,λx=>if x=24 then 25 else if x=9 then 72 else if x=3 then 3 else if x=4 then 4 else 0,λx=>x⟩:Go.Shelf.Ren)) (nm := "slices.Insert[[]cooperage/api.Box,cooperage/api.Box]") ⟨mix,Tryz.func228.trans (congrArg ab<|by kernel_rfl),
  λd w=>run_callFunc_extern (e:=Extern.SlicesOverlaps.overlaps #[25,25] #[4]) Tryz.func300 (by kernel_rfl) (by kernel_rfl) (by kernel_rfl) (by kernel_rfl) d w,
  by kernel_rfl,by kernel_rfl,by kernel_rfl,λw=>by simp[Go.sizeOf,b,c]<;>kernel_rfl,by simp[b,c]<;>kernel_rfl⟩ aK a (by kernel_rfl) aK aK
def sM:fk Tryz.prog 231 (.own y6 Ff true cH):=by
 have a:Den Tryz.prog y6 72:=by
  show e7 Tryz.prog y6 false 72 0 []=true
  kernel_rfl
 obtain⟨h,c,b,d,f,g⟩:=a.info;exact Gf (e:=y6) (ρ:=(⟨λx=>if x=29 then 0 else if x=30 then 0 else 231,λx=>if x=24 then 25 else if x=9 then 72 else if x=3 then 3 else if x=4 then 4 else 0,λx=>x⟩:Go.Shelf.Ren)) (nm := "slices.Delete[[]cooperage/api.Box,cooperage/api.Box]") (z:=c) ⟨mix,Tryz.func231.trans (congrArg ab<|by kernel_rfl),
  by kernel_rfl,by kernel_rfl,by kernel_rfl,λw=>by simp[Go.sizeOf,b,d]<;>kernel_rfl,λw=>uI b f w⟩ aK g aK
def u0:fk Tryz.prog 285 (.own .str (.pair (.int .i64) xM) true eX):=by
 have a:Den Tryz.prog .str 9:=by
  show e7 Tryz.prog .str false 9 0 []=true
  kernel_rfl
 obtain⟨f,g,b,c,h,i⟩:=a.info;exact x4 (e:=.str) (ρ:=(⟨λx=>if x=29 then 363 else if x=30 then 364 else 285,λx=>if x=24 then 28 else if x=9 then 9 else if x=3 then 3 else if x=4 then 4 else 0,λx=>x⟩:Go.Shelf.Ren)) (nm := "slices.Insert[[]string,string]") ⟨mix,Tryz.func285.trans (congrArg ab<|by kernel_rfl),
  λd w=>run_callFunc_extern (e:=Extern.SlicesOverlaps.overlaps #[28,28] #[4]) Tryz.func363 (by kernel_rfl) (by kernel_rfl) (by kernel_rfl) (by kernel_rfl) d w,
  by kernel_rfl,by kernel_rfl,by kernel_rfl,λw=>by simp[Go.sizeOf,b,c]<;>kernel_rfl,by simp[b,c]<;>kernel_rfl⟩ aK a (by kernel_rfl) aK aK
def qg:fk Tryz.prog 286 (.own vu (.pair (.int .i64) Tn) true dH):=by
 have a:Den Tryz.prog vu 85:=by
  show e7 Tryz.prog vu false 85 0 []=true
  kernel_rfl
 obtain⟨f,g,b,c,h,i⟩:=a.info;exact x4 (e:=vu) (ρ:=(⟨λx=>if x=29 then 365 else if x=30 then 366 else 286,λx=>if x=24 then 27 else if x=9 then 85 else if x=3 then 3 else if x=4 then 4 else 0,λx=>x⟩:Go.Shelf.Ren)) (nm := "slices.Insert[[]cooperage/api.Layer,cooperage/api.Layer]") ⟨mix,Tryz.func286.trans (congrArg ab<|by kernel_rfl),
  λd w=>run_callFunc_extern (e:=Extern.SlicesOverlaps.overlaps #[27,27] #[4]) Tryz.func365 (by kernel_rfl) (by kernel_rfl) (by kernel_rfl) (by kernel_rfl) d w,
  by kernel_rfl,by kernel_rfl,by kernel_rfl,λw=>by simp[Go.sizeOf,b,c]<;>kernel_rfl,by simp[b,c]<;>kernel_rfl⟩ aK a (by kernel_rfl) aK aK
def u5:fk Tryz.prog 290 (.own .str Ff true eY):=by
 have a:Den Tryz.prog .str 9:=by
  show e7 Tryz.prog .str false 9 0 []=true
  kernel_rfl
 obtain⟨h,c,b,d,f,g⟩:=a.info;exact Gf (e:=.str) (ρ:=(⟨λx=>if x=29 then 0 else if x=30 then 0 else 290,λx=>if x=24 then 28 else if x=9 then 9 else if x=3 then 3 else if x=4 then 4 else 0,λx=>x⟩:Go.Shelf.Ren)) (nm := "slices.Delete[[]string,string]") (z:=c) ⟨mix,Tryz.func290.trans (congrArg ab<|by kernel_rfl),
  by kernel_rfl,by kernel_rfl,by kernel_rfl,λw=>by simp[Go.sizeOf,b,d]<;>kernel_rfl,λw=>uI b f w⟩ aK g aK
def qh:fk Tryz.prog 291 (.own vu Ff true dI):=by
 have a:Den Tryz.prog vu 85:=by
  show e7 Tryz.prog vu false 85 0 []=true
  kernel_rfl
 obtain⟨h,c,b,d,f,g⟩:=a.info;exact Gf (e:=vu) (ρ:=(⟨λx=>if x=29 then 0 else if x=30 then 0 else 291,λx=>if x=24 then 27 else if x=9 then 85 else if x=3 then 3 else if x=4 then 4 else 0,λx=>x⟩:Go.Shelf.Ren)) (nm := "slices.Delete[[]cooperage/api.Layer,cooperage/api.Layer]") (z:=c) ⟨mix,Tryz.func291.trans (congrArg ab<|by kernel_rfl),
  by kernel_rfl,by kernel_rfl,by kernel_rfl,λw=>by simp[Go.sizeOf,b,d]<;>kernel_rfl,λw=>uI b f w⟩ aK g aK
def qi:fk Tryz.prog 298 (.own yX (.pair (.int .i64) agl) true bG):=by
 have a:Den Tryz.prog yX 69:=by
  show e7 Tryz.prog yX false 69 0 []=true
  kernel_rfl
 obtain⟨f,g,b,c,h,i⟩:=a.info;exact x4 (e:=yX) (ρ:=(⟨λx=>if x=29 then 369 else if x=30 then 370 else 298,λx=>if x=24 then 26 else if x=9 then 69 else if x=3 then 3 else if x=4 then 4 else 0,λx=>x⟩:Go.Shelf.Ren)) (nm := "slices.Insert[[]cooperage/api.Image,cooperage/api.Image]") ⟨mix,Tryz.func298.trans (congrArg ab<|by kernel_rfl),
  λd w=>run_callFunc_extern (e:=Extern.SlicesOverlaps.overlaps #[26,26] #[4]) Tryz.func369 (by kernel_rfl) (by kernel_rfl) (by kernel_rfl) (by kernel_rfl) d w,
  by kernel_rfl,by kernel_rfl,by kernel_rfl,λw=>by simp[Go.sizeOf,b,c]<;>kernel_rfl,by simp[b,c]<;>kernel_rfl⟩ aK a (by kernel_rfl) aK aK
def rA:fk Tryz.prog 307 (.own kG (.pair (.int .i64) Ze) true aN):=by
 have a:Den Tryz.prog kG 156:=by
  show e7 Tryz.prog kG false 156 0 []=true
  kernel_rfl
 obtain⟨f,g,b,c,h,i⟩:=a.info;exact x4 (e:=kG) (ρ:=(⟨λx=>if x=29 then 373 else if x=30 then 374 else 307,λx=>if x=24 then 67 else if x=9 then 156 else if x=3 then 3 else if x=4 then 4 else 0,λx=>x⟩:Go.Shelf.Ren)) (nm := "slices.Insert[[]cooperage/api.Item,cooperage/api.Item]") ⟨mix,Tryz.func307.trans (congrArg ab<|by kernel_rfl),
  λd w=>run_callFunc_extern (e:=Extern.SlicesOverlaps.overlaps #[67,67] #[4]) Tryz.func373 (by kernel_rfl) (by kernel_rfl) (by kernel_rfl) (by kernel_rfl) d w,
  by kernel_rfl,by kernel_rfl,by kernel_rfl,λw=>by simp[Go.sizeOf,b,c]<;>kernel_rfl,by simp[b,c]<;>kernel_rfl⟩ aK a (by kernel_rfl) aK aK
def qj:fk Tryz.prog 367 (.own ij (.pair (.int .i64) ac1) true e9):=by
 have a:Den Tryz.prog ij 74:=by
  show e7 Tryz.prog ij false 74 0 []=true
  kernel_rfl
 obtain⟨f,g,b,c,h,i⟩:=a.info;exact x4 (e:=ij) (ρ:=(⟨λx=>if x=29 then 421 else if x=30 then 422 else 367,λx=>if x=24 then 29 else if x=9 then 74 else if x=3 then 3 else if x=4 then 4 else 0,λx=>x⟩:Go.Shelf.Ren)) (nm := "slices.Insert[[]cooperage/api.Mount,cooperage/api.Mount]") ⟨mix,Tryz.func367.trans (congrArg ab<|by kernel_rfl),
  λd w=>run_callFunc_extern (e:=Extern.SlicesOverlaps.overlaps #[29,29] #[4]) Tryz.func421 (by kernel_rfl) (by kernel_rfl) (by kernel_rfl) (by kernel_rfl) d w,
  by kernel_rfl,by kernel_rfl,by kernel_rfl,λw=>by simp[Go.sizeOf,b,c]<;>kernel_rfl,by simp[b,c]<;>kernel_rfl⟩ aK a (by kernel_rfl) aK aK
def rB:fk Tryz.prog 372 (.own kG Ff true bC):=by
 have a:Den Tryz.prog kG 156:=by
  show e7 Tryz.prog kG false 156 0 []=true
  kernel_rfl
 obtain⟨h,c,b,d,f,g⟩:=a.info;exact Gf (e:=kG) (ρ:=(⟨λx=>if x=29 then 0 else if x=30 then 0 else 372,λx=>if x=24 then 67 else if x=9 then 156 else if x=3 then 3 else if x=4 then 4 else 0,λx=>x⟩:Go.Shelf.Ren)) (nm := "slices.Delete[[]cooperage/api.Item,cooperage/api.Item]") (z:=c) ⟨mix,Tryz.func372.trans (congrArg ab<|by kernel_rfl),
  by kernel_rfl,by kernel_rfl,by kernel_rfl,λw=>by simp[Go.sizeOf,b,d]<;>kernel_rfl,λw=>uI b f w⟩ aK g aK
def dY:fk Tryz.prog 503 (.own BE (.pair (.int .i64) wz) true aZ):=by
 have a:Den Tryz.prog BE 197:=by
  show e7 Tryz.prog BE false 197 0 []=true
  kernel_rfl
 obtain⟨f,g,b,c,h,i⟩:=a.info;exact x4 (e:=BE) (ρ:=(⟨λx=>if x=29 then 504 else if x=30 then 505 else 503,λx=>if x=24 then 96 else if x=9 then 197 else if x=3 then 3 else if x=4 then 4 else 0,λx=>x⟩:Go.Shelf.Ren)) (nm := "slices.Insert[[]cooperage/api.TreeNode,cooperage/api.TreeNode]") ⟨mix,Tryz.func503.trans (congrArg ab<|by kernel_rfl),
  λd w=>run_callFunc_extern (e:=Extern.SlicesOverlaps.overlaps #[96,96] #[4]) Tryz.func504 (by kernel_rfl) (by kernel_rfl) (by kernel_rfl) (by kernel_rfl) d w,
  by kernel_rfl,by kernel_rfl,by kernel_rfl,λw=>by simp[Go.sizeOf,b,c]<;>kernel_rfl,by simp[b,c]<;>kernel_rfl⟩ aK a (by kernel_rfl) aK aK
def vp:∀p∈TL,fk Tryz.prog p.1 p.2:=(dT yV<|dT wx<|dT tz<|dT qT<|dT qU<|dT qV<|dT vv<|dT sC<|dT eh<|dT wA<|dT tB<|dT qf<|dT sL<|dT sM<|dT u0<|dT qg<|dT u5<|dT qh<|dT qi<|dT rA<|dT qj<|dT rB<|dT dY tL)
def G2(b:List (Nat×BG))(a:List (Nat×BK))(c:List (String×BG):=[]):Qm (wy b a c):=UX (cx:=wy b a c) (show(AJ.all λp=>XO p.2)=true by kernel_rfl)
def dv:BT:=xR
def CF{b:List (Nat×BG)}{a:List (Nat×BK)}{c:List (String×BG)}(i:∀p∈b,Holds Tryz.prog dv p.1 p.2)(e:∀p∈a,gh Tryz.prog dv p.1 p.2)(j:∀p∈c,l6 Tryz.prog dv p.1 p.2){f:Nat}{l:Func}{A R:Ty}{d:A.den->Option R.den}(k:find AJ f=ab l)(n:l.body.isSome=true)
  (o:∀x,sem (wy b a c) 12 fF f A R x=d x):Holds Tryz.prog dv f ⟨A,R,d⟩:=by
 obtain⟨m,g⟩:=La.1 n;exact Gc mix (Bk b a c) (fG i e vp j) (G2 b a c) (f:=f) k g (λx y h=>by rw[o];exact h)
def IA{b:List (Nat×BG)}{a:List (Nat×BK)}{c:List (String×BG)}(i:∀p∈b,Holds Tryz.prog dv p.1 p.2)(e:∀p∈a,gh Tryz.prog dv p.1 p.2)(j:∀p∈c,l6 Tryz.prog dv p.1 p.2){f:Nat}{l:Func}{m:List Bool}{A:Ty}{U:Ty}{R:Ty}{d:A.den×U.den->Option (R.den×U.den)}(k:find AJ f=ab l)(o:l.body.isSome=true)
  (q:∀x,adU (wy b a c) 12 fF f m A U R x=d x):gh Tryz.prog dv f ⟨m,A,U,R,d⟩:=by
 obtain⟨n,g⟩:=La.1 o;exact DQ mix (Bk b a c) (fG i e vp j) (G2 b a c) (f:=f) k g (λx y h=>by rw[q];exact h)
def Dq{d:List (Nat×BG)}{a:List (Nat×BK)}{e:List (String×BG)}(g:∀p∈d,Holds Tryz.prog dv p.1 p.2)(c:∀p∈a,gh Tryz.prog dv p.1 p.2)(h:∀p∈e,l6 Tryz.prog dv p.1 p.2)(j:Func){f:Nat}{A R:Ty}{b:A.den->Option R.den}(i:find AJ f=ab j:=by rfl)(k:j.body.isSome=true:=by kernel_rfl)
 (l:∀x,sem (wy d a e) 12 fF f A R x=b x:=by intro x;kernel_rfl):Holds Tryz.prog dv f ⟨A,R,b⟩:=CF g c h i k l
def av{b:List (Nat×BG)}(c:∀p∈b,Holds Tryz.prog dv p.1 p.2)(e:Func){f:Nat}{A R:Ty}{a:A.den->Option R.den}(d:find AJ f=ab e:=by rfl)(g:e.body.isSome=true:=by kernel_rfl)
 (h:∀x,sem (wy b [] []) 12 fF f A R x=a x:=by intro x;kernel_rfl):Holds Tryz.prog dv f ⟨A,R,a⟩:=CF c cW dZ d g h
def sz{d:List (Nat×BG)}{a:List (Nat×BK)}{e:List (String×BG)}(g:∀p∈d,Holds Tryz.prog dv p.1 p.2)(c:∀p∈a,gh Tryz.prog dv p.1 p.2)(h:∀p∈e,l6 Tryz.prog dv p.1 p.2)(j:Func){f:Nat}{k:List Bool}{A:Ty}{U:Ty}{R:Ty}{b:A.den×U.den->Option (R.den×U.den)}(i:find AJ f=ab j:=by rfl)(l:j.body.isSome=true:=by kernel_rfl)
 (m:∀x,adU (wy d a e) 12 fF f k A U R x=b x:=by intro x;kernel_rfl):gh Tryz.prog dv f ⟨k,A,U,R,b⟩:=IA g c h i l m
abbrev aB:=Holds Tryz.prog dv
def bt:Holds Tryz.prog dv 142 ⟨xM,xM,bc⟩:=by
 refine n6 (P:=Tryz.prog) (cx:=wy [] []) (bf:=[5]) (e:=.str) (tid:=28) (fn:=Tryz.f142) (s0:=λl=>(pS (λ_=>ah) [.data (.slice .str) l]).put 2 (.data (.slice .str) ([]:List (.str:Ty).den))) mix (Bk [] []) (fG ar cW vp dZ) Tryz.func142 (by kernel_rfl)
  (by rfl) rfl aK aK rfl rfl rfl rfl rfl rfl (λl=>by rfl) (λl=>rfl) (λl=>rfl) (λl=>rfl) (λl=>by rfl) (λl a=>?_)
 have key:∀m:List (.str:Ty).den,fits (len m)=true->ao (fits<|plus (len ([]:List (.str:Ty).den))<|len m) (ab ((app [] m,()):(Ty.pair (.slice .str) .unit).den)) ah=ab (m,()):=by
  intro m c;have e:plus (len ([]:List (.str:Ty).den)) (len m)=len m:=by simp[plus,len]
  rw[e,c];rfl
 exact za (b:=ao (fits<|plus (len ([]:List (.str:Ty).den))<|len (α:=(.str:Ty).den) l) (ab ((app (α:=(.str:Ty).den) [] l,()):(Ty.pair (.slice .str) .unit).den)) ah) (by rfl) (key l a)
def AM:aB 190 ⟨(.pair (.int .i64)<|.pair agi .unit),(.pair N4 .unit),qN⟩:=av (aj bt ar) Tryz.f190
def CJ:aB 91 ⟨CI,(.pair N4 .unit),lB⟩:=av (aj AM ar) Tryz.f91
def qk:aB 124 ⟨(.pair N4 fR),ij,iG⟩:=av (aj eu<|aj pO ar) Tryz.f124
def kA:aB 55 ⟨(.pair Bl fR),ij,dF⟩:=av (aj CJ<|aj qk ar) Tryz.f55
def D7:aB 56 ⟨(.pair (.slice vu) fR),(.pair (.slice vu) uo),kv⟩:=av (aj bt ar) Tryz.f56
def AN:aB 336 ⟨(.pair .str Zf),fR,iu⟩:=av ar Tryz.f336
def rr:aB 337 ⟨(.pair .str Zf),fR,fo⟩:=av ar Tryz.f337
def sD:aB 338 ⟨fR,(.pair (.arr 256 .bool) eo),eF⟩:=av ar Tryz.f338
def fw:gh Tryz.prog dv 397 ⟨[true,false],Zf,(.pair (.arr 256 .bool) .unit),eo,cI⟩:=sz ar cW dZ Tryz.f397
def zI:gh Tryz.prog dv 339 ⟨[false,true],fR,(.pair (.arr 256 .bool) .unit),fR,gQ⟩:=sz ar (gP fw cW) dZ Tryz.f339
def ql:gh Tryz.prog dv 340 ⟨[false,true],fR,(.pair (.arr 256 .bool) .unit),fR,ed⟩:=sz ar (gP fw cW) dZ Tryz.f340
def sE:aB 267 ⟨To,fR,iY⟩:=Dq (aj AN<|aj rr<|aj sD ar) (gP zI<|gP ql<|gP fw cW) dZ Tryz.f267
def Bm:aB 185 ⟨fR,eo,mG⟩:=av (aj sE ar) Tryz.f185
def qm:aB 85 ⟨xM,uo,fD⟩:=av (aj bt<|aj Bm ar) Tryz.f85
def yr:gh Tryz.prog dv 343 ⟨[true,false],eo,(.pair ah2 .unit),(.pair (.pair YH6 fR) eo),eV⟩:=sz ar cW dZ Tryz.f343
def D8:aB 344 ⟨fR,eo,tP⟩:=av (aj sE ar) Tryz.f344
def Bn:aB 437 ⟨.unit,(.pair (.arr 11 Ff) .unit),mE⟩:=av ar Tryz.f437
def WB:aB 401 ⟨ij,fR,cc⟩:=av (aj Bn ar) Tryz.f401
def vH:aB 438 ⟨To,fR,eS⟩:=Dq (aj rr<|aj sD ar) (gP ql<|gP fw cW) dZ Tryz.f438
def Fg:aB 439 ⟨fR,(.pair (.int .i64) eo),dN⟩:=av ar Tryz.f439
def Ks:aB 402 ⟨fR,uo,dz⟩:=av (aj vH<|aj Fg ar) Tryz.f402
def Tp:aB 403 ⟨fR,uo,vR⟩:=av (aj Bn ar) Tryz.f403
def Px:aB 404 ⟨fR,(.pair .str eo),ks⟩:=av (aj kZ<|aj vH ar) Tryz.f404
def WC:aB 440 ⟨Ff,eo,lR⟩:=av ar Tryz.f440
def N6:aB 441 ⟨ij,eo,oc⟩:=av (aj kZ ar) Tryz.f441
def WD:aB 405 ⟨(.pair YH6 uo),eo,re⟩:=av (aj WC<|aj N6 ar) Tryz.f405
def D9:aB 345 ⟨fR,(.pair YH6 uo),fB⟩:=av (aj WB<|aj Ks<|aj Tp<|aj Px<|aj WD ar) Tryz.f345
def N7:aB 346 ⟨uo,uo,wX⟩:=av ar Tryz.f346
def G4:gh Tryz.prog dv 269 ⟨[true],.unit,(.pair ah2 .unit),(.pair (.pair YH6 fR) eo),bP⟩:=sz (aj sE<|aj D8<|aj D9<|aj N7 ar) (gP yr cW) dZ Tryz.f269
def IB:gh Tryz.prog dv 270 ⟨[true],.unit,(.pair ah2 .unit),eo,iM⟩:=sz ar cW dZ Tryz.f270
def N8:aB 186 ⟨fR,(.pair Wz uo),fh⟩:=Dq (aj sE<|aj D8<|aj D9<|aj N7 ar) (gP G4<|gP IB<|gP yr cW) dZ Tryz.f186
def AO:aB 349 ⟨To,fR,oU⟩:=av ar Tryz.f349
def zJ:aB 351 ⟨(.pair BE .unit),eo,eJ⟩:=av (aj kh<|aj np<|aj AO<|aj qe ar) Tryz.f351
def Kt:aB 350 ⟨fR,eo,mN⟩:=av (aj zJ ar) Tryz.f350
def Py:aB 484 ⟨N5,wz,tZ⟩:=av (aj kh<|aj yW<|aj ej ar) Tryz.f484
def sU:aB 482 ⟨(.pair fR wz),wz,jw⟩:=av (aj Py ar) Tryz.f482
def vI:aB 483 ⟨(.pair fR wz),DE,vD⟩:=av ar Tryz.f483
def Tq:aB 495 ⟨N5,wz,vX⟩:=av (aj kh<|aj yW<|aj ej ar) Tryz.f495
def ru:aB 493 ⟨(.pair fR wz),wz,gT⟩:=av (aj Tq ar) Tryz.f493
def sV:aB 494 ⟨(.pair fR wz),DE,sP⟩:=av ar Tryz.f494
def sW:aB 497 ⟨(.pair .unit wz),wz,sQ⟩:=av ar Tryz.f497
def vJ:aB 498 ⟨(.pair .unit wz),DE,vE⟩:=av ar Tryz.f498
def sX:aB 499 ⟨(.pair (.pair BE .unit) wz),wz,sR⟩:=av ar Tryz.f499
def WE:aB 501 ⟨N5,(.pair BE eo),yb⟩:=av (aj kh<|aj AL ar) Tryz.f501
def vK:aB 500 ⟨(.pair (.pair BE .unit) wz),DE,kV⟩:=av (aj np<|aj AO<|aj qe<|aj WE<|aj Zd ar) Tryz.f500
def N9:aB 271 ⟨(.pair (.pair YH6 fR) .unit),(.pair acZ eo),se⟩:=av (aj np<|aj D6<|aj G3<|aj AO<|aj Kt<|aj zJ<|aj sU<|aj vI<|aj ru<|aj sV<|aj sW<|aj vJ<|aj sX<|aj vK ar) Tryz.f271
def Bo:aB 187 ⟨(.pair Wz .unit),(.pair (.slice acZ) eo),mO⟩:=av (aj N9 ar) Tryz.f187
def Ku:aB 87 ⟨fR,uo,hH⟩:=av (aj N8<|aj Bo ar) Tryz.f87
def Tr:aB 188 ⟨(.pair N4 fR),uo,vS⟩:=av ar Tryz.f188
def wB:aB 90 ⟨(.pair N4<|.pair .str xM),uo,gu⟩:=av (aj eu<|aj qm<|aj Tr ar) Tryz.f90
def AP:aB 198 ⟨fR,fR,l9⟩:=av ar Tryz.f198
def WG:aB 191 ⟨uo,fR,ya⟩:=av (aj AP ar) Tryz.f191
def xH:aB 93 ⟨(.pair N4 uo),ij,gH⟩:=av (aj WG ar) Tryz.f93
def Bp:aB 148 ⟨(.pair vu .unit),fR,vh⟩:=av ar Tryz.f148
def yY:aB 149 ⟨CI,xM,nk⟩:=av ar Tryz.f149
def uq:aB 67 ⟨(.pair Bl fR),(.pair vu<|.pair .str eo),iI⟩:=av (aj bt<|aj Bp<|aj yY ar) Tryz.f67
def Pz:l6 Tryz.prog dv "cooperage/overlay.clears" ⟨(.pair acZ wz),wz,sf⟩:=(nZ sU (λv w=>by kernel_rfl) rfl (nZ ru (λv w=>by kernel_rfl) rfl (nZ sW (λv w=>by kernel_rfl) rfl (nZ sX (λv w=>by kernel_rfl) rfl LV))))
def WH:l6 Tryz.prog dv "cooperage/overlay.puts" ⟨(.pair acZ wz),DE,xh⟩:=(nZ vI (λv w=>by kernel_rfl) rfl (nZ sV (λv w=>by kernel_rfl) rfl (nZ vJ (λv w=>by kernel_rfl) rfl (nZ vK (λv w=>by kernel_rfl) rfl LV))))
def PA:aB 195 ⟨(.pair (.slice BE)<|.pair Wz .unit),DE,ub⟩:=Dq (aj Bo<|aj kh ar) cW (U2 Pz<|U2 WH dZ) Tryz.f195
def Bq:aB 97 ⟨N5,DE,jN⟩:=av (aj N8<|aj kh<|aj PA ar) Tryz.f97
def PB:aB 214 ⟨xM,DE,p6⟩:=av (aj Bq ar) Tryz.f214
def G5:aB 105 ⟨(.pair Bl fR),DE,mq⟩:=av (aj uq<|aj bt<|aj PB ar) Tryz.f105
def CK:aB 96 ⟨(.pair Bl fR),DE,jl⟩:=av (aj G5 ar) Tryz.f96
def oG:aB 98 ⟨uo,(.pair Kq .unit),ez⟩:=av ar Tryz.f98
def IC:Holds Tryz.prog dv 196 ⟨ij,fR,oO⟩:=OZ (spec:=gi) Tryz.func196 (by kernel_rfl) (by kernel_rfl) (λ_ _ _ h=>B8 h) (λs c w y e f a=>by
 obtain⟨b,d,rfl⟩:=sO a;have g:(IntKind.i64).max=9223372036854775807:=aK;obtain⟨n,rfl⟩:=adf b;exact Tryz.strings_Repeat s n w ai d)
def PC:aB 99 ⟨.unit,fR,yN⟩:=av (aj IC ar) Tryz.f99
def CL:aB 415 ⟨.unit,agj,uM⟩:=av ar Tryz.f415
def CM:aB 416 ⟨.unit,(.pair (.arr 64<|.int .u32) .unit),B9⟩:=av ar Tryz.f416
def yZ:aB 446 ⟨(.pair (.int .u32) uo),(.pair (.int .u32) .unit),kr⟩:=av ar Tryz.f446
def yu:aB 418 ⟨(.pair (.int .u32) uo),(.pair (.int .u32) .unit),cq⟩:=av (aj yZ ar) Tryz.f418
def xI:aB 417 ⟨(.pair (.arr 64<|.int .u8) .unit),(.pair (.arr 64<|.int .u32) .unit),rU⟩:=av (aj yu ar) Tryz.f417
def zK:gh Tryz.prog dv 282 ⟨[true,false],fR,(.pair ajt .unit),.unit,gj⟩:=sz (aj CL<|aj CM<|aj xI<|aj yu ar) cW dZ Tryz.f282
def ID:gh Tryz.prog dv 283 ⟨[true],.unit,(.pair ajt .unit),(.pair (.arr 32<|.int .u8) .unit),oP⟩:=sz (aj CL<|aj CM<|aj xI<|aj yu ar) (gP zK cW) dZ Tryz.f283
def ac3:aB 197 ⟨fR,(.pair (.arr 32<|.int .u8) .unit),Da⟩:=Dq (aj CL<|aj CM<|aj xI<|aj yu ar) (gP zK<|gP ID cW) dZ Tryz.f197
def JB:aB 100 ⟨fR,fR,n9⟩:=av (aj ac3<|aj AP ar) Tryz.f100
def DF:aB 201 ⟨(.pair (.slice .str) ac2),xM,kX⟩:=av (aj bt ar) Tryz.f201
def cV:Holds Tryz.prog dv 63 ⟨Tn,Tn,b3⟩:=by
 refine n6 (P:=Tryz.prog) (cx:=wy [] []) (bf:=[5]) (e:=vu) (tid:=27) (fn:=Tryz.f63) (s0:=λl=>(pS (λ_=>ah) [.data (.slice vu) l]).put 2 (.data (.slice vu) ([]:List (vu:Ty).den))) mix (Bk [] []) (fG ar cW vp dZ) Tryz.func63 (by kernel_rfl)
  (by rfl) rfl aK aK rfl rfl rfl rfl rfl rfl (λl=>by rfl) (λl=>rfl) (λl=>rfl) (λl=>rfl) (λl=>by rfl) (λl a=>?_)
 have key:∀m:List (vu:Ty).den,fits (len m)=true->ao (fits<|plus (len ([]:List (vu:Ty).den))<|len m) (ab ((app [] m,()):(Ty.pair (.slice vu) .unit).den)) ah=ab (m,()):=by
  intro m c;have e:plus (len ([]:List (vu:Ty).den)) (len m)=len m:=by simp[plus,len]
  rw[e,c];rfl
 exact za (b:=ao (fits<|plus (len ([]:List (vu:Ty).den))<|len (α:=(vu:Ty).den) l) (ab ((app (α:=(vu:Ty).den) [] l,()):(Ty.pair (.slice vu) .unit).den)) ah) (by rfl) (key l a)
def AQ:aB 202 ⟨(.pair (.slice vu)<|.pair (.int .i64)<|.pair vu .unit),Tn,iA⟩:=av (aj cV ar) Tryz.f202
def Ts:aB 101 ⟨(.pair Bl<|.pair vu fR),CI,pw⟩:=av (aj yY<|aj DF<|aj AQ ar) Tryz.f101
def Br:aB 34 ⟨aju,Kr,hL⟩:=av (aj kA<|aj D7<|aj qm<|aj Ku<|aj wB<|aj CJ<|aj xH<|aj CK<|aj Bq<|aj oG<|aj PC<|aj JB<|aj Ts ar) Tryz.f34
def G6:aB 102 ⟨(.pair Bl fR),eo,px⟩:=av ar Tryz.f102
def Kv:aB 209 ⟨(.pair ij .unit),fR,vj⟩:=av ar Tryz.f209
def xJ:aB 103 ⟨(.pair Bl fR),uo,dB⟩:=av (aj Kv ar) Tryz.f103
def AR:aB 210 ⟨(.pair (.slice .str) uo),xM,iB⟩:=av (aj bt ar) Tryz.f210
def xN:aB 211 ⟨(.pair (.slice vu) uo),Tn,ga⟩:=av (aj cV ar) Tryz.f211
def dR:Holds Tryz.prog dv 62 ⟨ac1,ac1,b4⟩:=by
 refine n6 (P:=Tryz.prog) (cx:=wy [] []) (bf:=[5]) (e:=ij) (tid:=29) (fn:=Tryz.f62) (s0:=λl=>(pS (λ_=>ah) [.data (.slice ij) l]).put 2 (.data (.slice ij) ([]:List (ij:Ty).den))) mix (Bk [] []) (fG ar cW vp dZ) Tryz.func62 (by kernel_rfl)
  (by rfl) rfl aK aK rfl rfl rfl rfl rfl rfl (λl=>by rfl) (λl=>rfl) (λl=>rfl) (λl=>rfl) (λl=>by rfl) (λl a=>?_)
 have key:∀m:List (ij:Ty).den,fits (len m)=true->ao (fits<|plus (len ([]:List (ij:Ty).den))<|len m) (ab ((app [] m,()):(Ty.pair (.slice ij) .unit).den)) ah=ab (m,()):=by
  intro m c;have e:plus (len ([]:List (ij:Ty).den)) (len m)=len m:=by simp[plus,len]
  rw[e,c];rfl
 exact za (b:=ao (fits<|plus (len ([]:List (ij:Ty).den))<|len (α:=(ij:Ty).den) l) (ab ((app (α:=(ij:Ty).den) [] l,()):(Ty.pair (.slice ij) .unit).den)) ah) (by rfl) (key l a)
def AU:aB 295 ⟨(.pair (.slice ij)<|.pair (.int .i64)<|.pair ij .unit),ac1,bL⟩:=av (aj dR ar) Tryz.f295
def Ea:aB 212 ⟨(.pair Bl ij),CI,qa⟩:=av (aj dR<|aj AU ar) Tryz.f212
def Bs:aB 104 ⟨(.pair Bl fR),CI,jO⟩:=av (aj Bp<|aj yY<|aj AR<|aj xN<|aj Ea ar) Tryz.f104
def Kw:aB 35 ⟨(.pair Bl fR),Kr,qG⟩:=av (aj kA<|aj oG<|aj G6<|aj xJ<|aj Bs ar) Tryz.f35
def PD:aB 36 ⟨(.pair Bl fR),(.pair Kq .unit),ug⟩:=av (aj kA<|aj uq<|aj oG ar) Tryz.f36
def Kx:aB 106 ⟨(.pair (.slice BE) wz),(.pair (.slice ac2) uo),qA⟩:=av (aj kh<|aj vr ar) Tryz.f106
def Tt:aB 107 ⟨(.pair (.slice ac2) .unit),fR,vY⟩:=av (aj AP ar) Tryz.f107
def IE:aB 37 ⟨(.pair Bl fR),(.pair Kq .unit),pD⟩:=av (aj kA<|aj uq<|aj CK<|aj oG<|aj G5<|aj Kx<|aj Tt ar) Tryz.f37
def zL:aB 108 ⟨(.pair Bl ij),Kr,lK⟩:=av (aj kA<|aj oG<|aj xJ<|aj Ea ar) Tryz.f108
def Oa:aB 38 ⟨(.pair Bl fR),Kr,xn⟩:=av (aj zL ar) Tryz.f38
def IF:aB 39 ⟨(.pair Bl fR),Kr,ti⟩:=av (aj zL ar) Tryz.f39
def CN:aB 109 ⟨uo,(.pair Kq .unit),jg⟩:=av ar Tryz.f109
def CO:aB 110 ⟨CI,(.pair N4 .unit),gG⟩:=av (aj AM ar) Tryz.f110
def dS:Holds Tryz.prog dv 61 ⟨agl,agl,bZ⟩:=by
 refine n6 (P:=Tryz.prog) (cx:=wy [] []) (bf:=[5]) (e:=yX) (tid:=26) (fn:=Tryz.f61) (s0:=λl=>(pS (λ_=>ah) [.data (.slice yX) l]).put 2 (.data (.slice yX) ([]:List (yX:Ty).den))) mix (Bk [] []) (fG ar cW vp dZ) Tryz.func61 (by kernel_rfl)
  (by rfl) rfl aK aK rfl rfl rfl rfl rfl rfl (λl=>by rfl) (λl=>rfl) (λl=>rfl) (λl=>rfl) (λl=>by rfl) (λl a=>?_)
 have key:∀m:List (yX:Ty).den,fits (len m)=true->ao (fits<|plus (len ([]:List (yX:Ty).den))<|len m) (ab ((app [] m,()):(Ty.pair (.slice yX) .unit).den)) ah=ab (m,()):=by
  intro m c;have e:plus (len ([]:List (yX:Ty).den)) (len m)=len m:=by simp[plus,len]
  rw[e,c];rfl
 exact za (b:=ao (fits<|plus (len ([]:List (yX:Ty).den))<|len (α:=(yX:Ty).den) l) (ab ((app (α:=(yX:Ty).den) [] l,()):(Ty.pair (.slice yX) .unit).den)) ah) (by rfl) (key l a)
def JC:aB 116 ⟨(.pair yX .unit),fR,ef⟩:=av ar Tryz.f116
def dn:Holds Tryz.prog dv 222 ⟨Ze,Ze,bQ⟩:=by
 refine n6 (P:=Tryz.prog) (cx:=wy [] []) (bf:=[5]) (e:=kG) (tid:=67) (fn:=Tryz.f222) (s0:=λl=>(pS (λ_=>ah) [.data (.slice kG) l]).put 2 (.data (.slice kG) ([]:List (kG:Ty).den))) mix (Bk [] []) (fG ar cW vp dZ) Tryz.func222 (by kernel_rfl)
  (by rfl) rfl aK aK rfl rfl rfl rfl rfl rfl (λl=>by rfl) (λl=>rfl) (λl=>rfl) (λl=>rfl) (λl=>by rfl) (λl a=>?_)
 have key:∀m:List (kG:Ty).den,fits (len m)=true->ao (fits<|plus (len ([]:List (kG:Ty).den))<|len m) (ab ((app [] m,()):(Ty.pair (.slice kG) .unit).den)) ah=ab (m,()):=by
  intro m c;have e:plus (len ([]:List (kG:Ty).den)) (len m)=len m:=by simp[plus,len]
  rw[e,c];rfl
 exact za (b:=ao (fits<|plus (len ([]:List (kG:Ty).den))<|len (α:=(kG:Ty).den) l) (ab ((app (α:=(kG:Ty).den) [] l,()):(Ty.pair (.slice kG) .unit).den)) ah) (by rfl) (key l a)
def AV:aB 111 ⟨(.pair Bl<|.pair yX .unit),CI,ix⟩:=av (aj dS<|aj JC<|aj bt<|aj dn ar) Tryz.f111
def Ky:aB 40 ⟨aju,Kr,qv⟩:=av (aj kA<|aj qm<|aj wB<|aj xH<|aj CN<|aj CO<|aj AV ar) Tryz.f40
def Eb:aB 112 ⟨(.pair Bl fR),ij,iH⟩:=av (aj CO<|aj qk ar) Tryz.f112
def Kz:aB 41 ⟨(.pair Bl fR),Kr,qw⟩:=av (aj dS<|aj CN<|aj Eb<|aj JC ar) Tryz.f41
def Ec:aB 117 ⟨uo,(.pair Kq .unit),kx⟩:=av ar Tryz.f117
def Ed:aB 118 ⟨CI,(.pair N4 .unit),ky⟩:=av (aj AM ar) Tryz.f118
def AW:aB 119 ⟨(.pair Bl fR),(.pair yX eo),mf⟩:=av (aj bt<|aj dn ar) Tryz.f119
def eM:Holds Tryz.prog dv 60 ⟨agk,agk,dC⟩:=by
 refine n6 (P:=Tryz.prog) (cx:=wy [] []) (bf:=[5]) (e:=y6) (tid:=25) (fn:=Tryz.f60) (s0:=λl=>(pS (λ_=>ah) [.data (.slice y6) l]).put 2 (.data (.slice y6) ([]:List (y6:Ty).den))) mix (Bk [] []) (fG ar cW vp dZ) Tryz.func60 (by kernel_rfl)
  (by rfl) rfl aK aK rfl rfl rfl rfl rfl rfl (λl=>by rfl) (λl=>rfl) (λl=>rfl) (λl=>rfl) (λl=>by rfl) (λl a=>?_)
 have key:∀m:List (y6:Ty).den,fits (len m)=true->ao (fits<|plus (len ([]:List (y6:Ty).den))<|len m) (ab ((app [] m,()):(Ty.pair (.slice y6) .unit).den)) ah=ab (m,()):=by
  intro m c;have e:plus (len ([]:List (y6:Ty).den)) (len m)=len m:=by simp[plus,len]
  rw[e,c];rfl
 exact za (b:=ao (fits<|plus (len ([]:List (y6:Ty).den))<|len (α:=(y6:Ty).den) l) (ab ((app (α:=(y6:Ty).den) [] l,()):(Ty.pair (.slice y6) .unit).den)) ah) (by rfl) (key l a)
def CP:aB 120 ⟨(.pair Bl<|.pair y6 .unit),CI,kf⟩:=av (aj eM<|aj bt<|aj dn ar) Tryz.f120
def Ob:aB 42 ⟨aju,Kr,lL⟩:=av (aj Br<|aj qm<|aj wB<|aj xH<|aj Eb<|aj Ec<|aj Ed<|aj AW<|aj CP ar) Tryz.f42
def Tu:aB 121 ⟨(.pair Bl fR),ij,wm⟩:=av (aj Ed<|aj qk ar) Tryz.f121
def CQ:aB 122 ⟨(.pair Bl fR),(.pair y6 eo),rq⟩:=av (aj bt<|aj dn ar) Tryz.f122
def Oc:aB 43 ⟨(.pair Bl fR),Kr,sw⟩:=av (aj eM<|aj G6<|aj xJ<|aj Bs<|aj Ec<|aj Tu<|aj CQ ar) Tryz.f43
def AX:aB 141 ⟨(.pair WA uo),uo,iC⟩:=av ar Tryz.f141
def gd:aB 54 ⟨(.pair WA uo),eo,dc⟩:=av (aj AX ar) Tryz.f54
def Zg:aB 53 ⟨(.pair YH9<|.pair WA .unit),(.pair WA .unit),xC⟩:=av (aj gd ar) Tryz.f53
def ur:aB 18 ⟨(.pair YH9 .unit),(.pair WA .unit),iJ⟩:=av (aj Zg ar) Tryz.f18
def y3:aB 46 ⟨uo,(.pair Kq .unit),fa⟩:=av ar Tryz.f46
def Ee:aB 125 ⟨(.pair Bl uo),(.pair N4 .unit),qb⟩:=av (aj AM ar) Tryz.f125
def G7:aB 238 ⟨(.pair kG .unit),fR,ca⟩:=av ar Tryz.f238
def IG:aB 127 ⟨(.pair (.slice kG) fR),ij,lA⟩:=av (aj G7 ar) Tryz.f127
def IH:aB 128 ⟨(.pair (.slice kG) To),(.pair (.slice kG) uo),lz⟩:=av (aj JB<|aj Bm<|aj dn<|aj G7 ar) Tryz.f128
def Tv:aB 44 ⟨ac0,Kr,wo⟩:=av (aj ur<|aj y3<|aj gd<|aj AV<|aj AW<|aj CP<|aj CQ<|aj qk<|aj Ee<|aj IG<|aj IH ar) Tryz.f44
def PE:aB 129 ⟨(.pair N4 .unit),fR,yT⟩:=av (aj CG ar) Tryz.f129
def KA:aB 130 ⟨(.pair Bl<|.pair (.int .i64)<|.pair .str xM),CI,hM⟩:=av (aj cV<|aj AV<|aj AW<|aj CP<|aj CQ<|aj bt ar) Tryz.f130
def Od:aB 45 ⟨ac0,Kr,sx⟩:=av (aj ur<|aj y3<|aj gd<|aj qm<|aj wB<|aj qk<|aj Ee<|aj PE<|aj KA ar) Tryz.f45
def Oe:aB 13 ⟨ac0,Kr,dQ⟩:=av (aj Br<|aj Kw<|aj PD<|aj IE<|aj Oa<|aj IF<|aj Ky<|aj Kz<|aj Ob<|aj Oc<|aj Tv<|aj Od<|aj y3 ar) Tryz.f13
def WI:aB 9 ⟨(.pair Bl<|.pair (.slice YH9) .unit),(.pair Bl<|.pair (.slice Kq) .unit),ym⟩:=av (aj Oe ar) Tryz.f9
def DG:aB 12 ⟨(.pair (.slice Kq)<|.pair (.slice Kq) .unit),eo,kY⟩:=av ar Tryz.f12
def Ef:aB 312 ⟨uo,Zf,nc⟩:=av ar Tryz.f312
def PF:aB 375 ⟨Zf,uo,pW⟩:=av (aj Ef ar) Tryz.f375
def Eg:aB 308 ⟨fR,(.pair .str eo),pX⟩:=av (aj PF ar) Tryz.f308
def AY:aB 242 ⟨fR,eo,gw⟩:=av (aj Eg ar) Tryz.f242
def CR:aB 263 ⟨fR,eo,oe⟩:=av ar Tryz.f263
def y4:aB 243 ⟨xM,eo,ng⟩:=av (aj CR ar) Tryz.f243
def PG:aB 244 ⟨fR,uo,fA⟩:=av (aj Eg ar) Tryz.f244
def PH:aB 131 ⟨(.pair vu .unit),eo,gx⟩:=av (aj AY<|aj y4<|aj PG ar) Tryz.f131
def PI:aB 309 ⟨.unit,agj,yJ⟩:=av ar Tryz.f309
def PJ:aB 310 ⟨fR,fR,tN⟩:=av ar Tryz.f310
def Tw:aB 376 ⟨(.pair (.int .u32) uo),(.pair (.int .u32) .unit),cw⟩:=av ar Tryz.f376
def Of:aB 377 ⟨.unit,(.pair (.arr 64<|.int .u32) .unit),wW⟩:=av ar Tryz.f377
def PK:aB 311 ⟨(.pair (.arr 8<|.int .u32) fR),agj,tO⟩:=av (aj Tw<|aj Of ar) Tryz.f311
def WJ:aB 246 ⟨fR,(.pair (.arr 32<|.int .u8) .unit),x5⟩:=av (aj PI<|aj PJ<|aj PK ar) Tryz.f246
def WK:aB 247 ⟨fR,fR,x6⟩:=av (aj Ef ar) Tryz.f247
def Og:aB 136 ⟨fR,fR,te⟩:=av (aj WJ<|aj WK ar) Tryz.f136
def Eh:aB 245 ⟨Ze,eo,nh⟩:=av (aj Og<|aj CR ar) Tryz.f245
def PL:aB 132 ⟨(.pair yX .unit),eo,p7⟩:=av (aj AY<|aj y4<|aj Eh ar) Tryz.f132
def WL:aB 133 ⟨(.pair y6 .unit),eo,uS⟩:=av (aj AY<|aj y4<|aj Eh ar) Tryz.f133
def PM:aB 134 ⟨(.pair agi .unit),(.pair (.slice .str) xM),uf⟩:=av ar Tryz.f134
def PN:aB 47 ⟨(.pair (.int .i64)<|.pair agi .unit),uo,fE⟩:=av (aj PH<|aj PL<|aj WL<|aj PM ar) Tryz.f47
def Tz:aB 145 ⟨(.pair (.slice vu) fR),uo,Aq⟩:=av ar Tryz.f145
def Ei:aB 58 ⟨(.pair (.slice vu) fR),(.pair (.slice vu) uo),p8⟩:=av (aj Tz ar) Tryz.f58
def PO:aB 135 ⟨Tn,uo,p9⟩:=av (aj Ei ar) Tryz.f135
def TA:aB 378 ⟨fR,eo,v7⟩:=av ar Tryz.f378
def TB:aB 379 ⟨fR,eo,v8⟩:=av ar Tryz.f379
def G8:aB 451 ⟨fR,(.pair (.int .i64) eo),nE⟩:=av ar Tryz.f451
def Oh:aB 426 ⟨fR,uo,fO⟩:=av (aj G8 ar) Tryz.f426
def WM:aB 427 ⟨fR,uo,x7⟩:=av ar Tryz.f427
def TC:aB 428 ⟨fR,(.pair .str eo),pn⟩:=av ar Tryz.f428
def PQ:aB 452 ⟨ij,eo,nd⟩:=av ar Tryz.f452
def Zh:aB 453 ⟨Ff,eo,qM⟩:=av ar Tryz.f453
def WN:aB 429 ⟨(.pair YH6 uo),eo,uN⟩:=av (aj PQ<|aj Zh ar) Tryz.f429
def TD:aB 380 ⟨fR,(.pair YH6 uo),po⟩:=av (aj Oh<|aj WM<|aj TC<|aj WN ar) Tryz.f380
def PR:aB 381 ⟨uo,uo,nf⟩:=av ar Tryz.f381
def PT:aB 313 ⟨fR,(.pair Wz eo),uc⟩:=av (aj TA<|aj TB<|aj TD<|aj PR ar) Tryz.f313
def G9:aB 248 ⟨fR,(.pair Wz uo),mh⟩:=av (aj PT ar) Tryz.f248
def kB:aB 386 ⟨fR,xM,eB⟩:=av ar Tryz.f386
def Ha:aB 387 ⟨xM,fR,oT⟩:=av ar Tryz.f387
def uu:aB 315 ⟨fR,To,kt⟩:=av (aj kB<|aj Ha ar) Tryz.f315
def Oi:aB 430 ⟨To,eo,od⟩:=av ar Tryz.f430
def Hb:aB 383 ⟨fR,ac2,r0⟩:=av (aj Oi ar) Tryz.f383
def Oj:aB 431 ⟨fR,eo,rZ⟩:=av ar Tryz.f431
def Ol:aB 388 ⟨fR,eo,wY⟩:=av (aj kB<|aj Oj ar) Tryz.f388
def Om:aB 389 ⟨fR,eo,sb⟩:=av ar Tryz.f389
def yv:aB 316 ⟨(.pair BE .unit),eo,lV⟩:=av (aj uu<|aj Hb<|aj Ol<|aj Om ar) Tryz.f316
def Hc:aB 323 ⟨(.pair (.pair YH6 fR) fR),(.pair BE .unit),sg⟩:=av ar Tryz.f323
def PU:aB 382 ⟨fR,ij,tR⟩:=av (aj kB<|aj Ha<|aj Ol ar) Tryz.f382
def AZ:aB 384 ⟨To,fR,oV⟩:=av ar Tryz.f384
def On:aB 385 ⟨fR,eo,lG⟩:=av (aj yv<|aj AZ<|aj kB ar) Tryz.f385
def He:aB 314 ⟨(.pair (.pair YH6 fR) .unit),(.pair (.int .i64)<|.pair .str eo),ph⟩:=av (aj uu<|aj yv<|aj Hc<|aj PU<|aj Hb<|aj AZ<|aj On ar) Tryz.f314
def Ej:aB 249 ⟨(.pair Wz .unit),eo,p5⟩:=av (aj He ar) Tryz.f249
def Ek:aB 137 ⟨fR,uo,nj⟩:=av (aj G9<|aj Ej ar) Tryz.f137
def Hf:aB 49 ⟨(.pair Bl fR),uo,mi⟩:=av ar Tryz.f49
def TE:aB 150 ⟨(.pair Bl uo),fR,wg⟩:=av ar Tryz.f150
def A0:aB 324 ⟨N5,uo,iy⟩:=av ar Tryz.f324
def JD:aB 317 ⟨N5,eo,oo⟩:=av (aj A0 ar) Tryz.f317
def Bt:aB 318 ⟨To,uo,mF⟩:=av (aj kB ar) Tryz.f318
def tC:aB 257 ⟨wz,eo,mg⟩:=av (aj uu<|aj yv<|aj JD<|aj Bt ar) Tryz.f257
def PV:aB 432 ⟨To,eo,tS⟩:=av (aj kB ar) Tryz.f432
def vw:aB 390 ⟨(.pair (.slice BE)<|.pair .str eo),wz,jL⟩:=av (aj PV ar) Tryz.f390
def Oo:aB 319 ⟨N5,wz,sd⟩:=av (aj tC<|aj vw ar) Tryz.f319
def PW:aB 320 ⟨N5,wz,ua⟩:=av (aj tC<|aj vw ar) Tryz.f320
def TF:aB 259 ⟨N5,(.pair BE eo),vW⟩:=av (aj tC<|aj A0 ar) Tryz.f259
def JE:aB 322 ⟨(.pair (.slice BE)<|.pair BE .unit),DE,oq⟩:=av (aj tC<|aj uu<|aj yv<|aj JD<|aj Bt<|aj A0<|aj vw ar) Tryz.f322
def TG:aB 321 ⟨N5,DE,vZ⟩:=av (aj TF<|aj JE<|aj AZ<|aj kB ar) Tryz.f321
def WO:aB 258 ⟨(.pair (.slice BE)<|.pair Wz .unit),DE,yd⟩:=av (aj Ej<|aj tC<|aj He<|aj Oo<|aj PW<|aj TG<|aj JE<|aj Hc ar) Tryz.f258
def PX:aB 156 ⟨N5,DE,ud⟩:=av (aj Ek<|aj G9<|aj tC<|aj WO ar) Tryz.f156
def WQ:aB 250 ⟨xM,DE,yg⟩:=av (aj PX ar) Tryz.f250
def TH:aB 138 ⟨(.pair Bl fR),DE,mj⟩:=av (aj Hf<|aj Ei<|aj TE<|aj WQ ar) Tryz.f138
def Oq:aB 48 ⟨CI,eo,jk⟩:=av (aj PO<|aj Og<|aj Ek<|aj TH ar) Tryz.f48
def JF:aB 14 ⟨CI,eo,ka⟩:=av (aj PN<|aj Oq<|aj Hf ar) Tryz.f14
def II:aB 17 ⟨(.pair WA<|.pair WA .unit),eo,tr⟩:=av ar Tryz.f17
def PY:aB 8 ⟨.unit,eo,kz⟩:=av (aj WI<|aj DG<|aj JF<|aj II<|aj ur ar) Tryz.f8
def nP:aB 22 ⟨(.pair (.slice .str) xM),eo,eW⟩:=av ar Tryz.f22
def yw:aB 82 ⟨(.pair (.slice kG) Ze),eo,gS⟩:=av ar Tryz.f82
def Hg:aB 30 ⟨(.pair (.slice y6) agk),eo,nM⟩:=av (aj nP<|aj yw ar) Tryz.f30
def Fh:aB 31 ⟨(.pair (.slice yX) agl),eo,mm⟩:=av (aj nP<|aj yw ar) Tryz.f31
def Fi:aB 32 ⟨(.pair (.slice vu) Tn),eo,mn⟩:=av (aj nP ar) Tryz.f32
def Fj:aB 33 ⟨(.pair (.slice ij) ac1),eo,mo⟩:=av ar Tryz.f33
def TI:aB 11 ⟨(.pair Bl CI),eo,wi⟩:=av (aj nP<|aj Hg<|aj Fh<|aj Fi<|aj Fj ar) Tryz.f11
def WR:aB 139 ⟨xM,eo,lS⟩:=av ar Tryz.f139
def IJ:aB 140 ⟨Ze,eo,eG⟩:=av ar Tryz.f140
def WS:aB 50 ⟨(.pair agi .unit),eo,rf⟩:=av (aj WR<|aj IJ ar) Tryz.f50
def WT:aB 51 ⟨Tn,eo,yf⟩:=av ar Tryz.f51
def WU:aB 15 ⟨CI,eo,uR⟩:=av (aj WS<|aj WT ar) Tryz.f15
def IK:aB 52 ⟨xM,eo,oX⟩:=av ar Tryz.f52
def PZ:aB 16 ⟨(.pair YH9 .unit),eo,ui⟩:=av (aj IK ar) Tryz.f16
def Bu:aB 20 ⟨(.pair YH9 .unit),eo,mS⟩:=av (aj gd ar) Tryz.f20
def P0:aB 23 ⟨ac0,xM,uj⟩:=av (aj kA<|aj D7 ar) Tryz.f23
def CS:aB 59 ⟨(.pair YH9 .unit),(.pair (.arr 4 .bool) .unit),lM⟩:=av (aj ur ar) Tryz.f59
def TJ:aB 25 ⟨ac0,CI,pF⟩:=av (aj Bu<|aj P0<|aj CS<|aj eM<|aj dS<|aj dR<|aj cV<|aj eu ar) Tryz.f25
def TK:aB 27 ⟨(.pair Bl<|.pair YH9 CI),CI,wq⟩:=av (aj Bu<|aj CS<|aj eM<|aj dS<|aj dR<|aj cV<|aj uq ar) Tryz.f27
def DH:aB 6 ⟨(.pair Bl ac0),eo,ig⟩:=av (aj PY<|aj TI<|aj Oe<|aj JF<|aj WU<|aj PZ<|aj TJ<|aj TK ar) Tryz.f6
end Go.Proofs.YtcebnmppipejfaaGreatDoor
