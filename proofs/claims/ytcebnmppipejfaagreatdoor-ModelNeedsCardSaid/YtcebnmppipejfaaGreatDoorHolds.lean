import Derived.Test.YtcebnmppipejfaaGreatDoorFirst
import Derived.Test.YtcebnmppipejfaaGreatDoorBld
set_option linter.unusedVariables false
set_option linter.unusedSectionVars false
set_option linter.unusedSimpArgs false
namespace Go.Proofs.YtcebnmppipejfaaGreatDoor
open Go Go.Ge
set_option maxRecDepth 100000
variable [Lp]
open First
def cy(s:List (Nat×Nat))(m:List Nat):Option D9:=some ⟨s,m,false⟩
def cz(s:List (Nat×Nat)):Option D9:=some ⟨s,[],false⟩
def fp(a:List (Option D9)):sT:=⟨a,[]⟩
abbrev xU:Ty:=(.pair (.slice<|.pair .str<|.pair (.slice .str)<|.pair .str<|.pair .str<|.pair .str<|.pair (.slice<|.pair .str<|.pair .str<|.pair .str .unit) .unit)<|.pair (.slice<|.pair .str<|.pair (.slice .str)<|.pair .str<|.pair .str<|.pair (.slice<|.pair .str<|.pair .str<|.pair .str .unit) .unit)<|.pair (.slice<|.pair .str<|.pair .str<|.pair (.slice .str)<|.pair .str<|.pair (.int .i64)<|.pair (.int .i64)<|.pair .bool .unit)<|.pair (.slice .str)<|.pair (.slice<|.pair .str<|.pair (.int .i64) .unit) .unit)
abbrev YH1:Ty:=(.pair .str<|.pair .str<|.pair (.slice<|.pair .str<|.pair .str<|.pair .str .unit) .unit)
abbrev ss:Ty:=(.pair .str<|.pair .str<|.pair (.slice .str)<|.pair .str<|.pair (.int .i64)<|.pair (.int .i64)<|.pair .bool .unit)
abbrev zK:Ty:=(.pair .str<|.pair (.int .i64)<|.pair (.int .i64)<|.pair .str<|.pair .str .unit)
abbrev eR:Ty:=(.pair .str .unit)
abbrev qQ:Ty:=(.pair (.int .i64) .unit)
abbrev YH6:Ty:=(.pair .str<|.pair (.int .i64)<|.pair (.int .i64)<|.pair (.int .i64)<|.pair (.int .i64)<|.pair (.int .i64)<|.pair (.int .i64) eR)
abbrev wW:Ty:=(.pair .str<|.pair (.slice .str)<|.pair .str YH1)
abbrev YH8:Ty:=(.pair (.int .i64)<|.pair (.int .i64)<|.pair .str<|.pair .str<|.pair (.slice .str)<|.pair .str<|.pair .str qQ)
abbrev wM:Ty:=(.pair .str<|.pair (.slice .str) YH1)
abbrev dq:Ty:=(.pair .bool .unit)
abbrev jG:Ty:=(.pair .str<|.pair .str eR)
abbrev Jw:Ty:=(.pair (.int .i64)<|.pair .str<|.pair (.int .i64) eR)
abbrev u0:Ty:=(.pair (.slice .str) .unit)
abbrev fO:Ty:=(.pair .str qQ)
abbrev tQ:Ty:=(.pair (.slice zK) .unit)
abbrev aaK:Ty:=(.pair (.int .i64)<|.pair (.slice ss)<|.pair (.slice wM)<|.pair (.slice wW) .unit)
abbrev aaL:Ty:=(.alt 322 eR<|.alt 324 eR<|.alt 326 .unit<|.alt 328 (.pair zK .unit) .zH)
abbrev B2:Ty:=(.pair (.slice zK) qQ)
abbrev Xo:Ty:=(.slice<|.pair .str u0)
abbrev Jx:Ty:=(.pair xU<|.pair Jw .unit)
abbrev DR:Ty:=(.pair (.int .i64) qQ)
abbrev wN:Ty:=(.pair xU .unit)
abbrev MP:Ty:=(.pair (.slice zK) eR)
abbrev afl:Ty:=(.pair .bool<|.pair .str<|.pair (.int .i64)<|.pair .bool dq)
abbrev adQ:Ty:=(.pair (.arr 8<|.int .u32) .unit)
abbrev R5:Ty:=(.pair (.slice ss) .unit)
abbrev U4:Ty:=(.pair xU<|.pair YH8 .unit)
abbrev Oo:Ty:=(.slice<|.int .i64)
abbrev U5:Ty:=(.slice<|.pair YH6 eR)
abbrev Xp:Ty:=(.pair (.slice jG) .unit)
abbrev Xq:Ty:=(.pair (.int .u8) .unit)
abbrev aaM:Ty:=(.pair (.slice fO) .unit)
abbrev agO:Ty:=(.pair (.pair .bool adQ)<|.pair (.arr 64<|.int .u8) qQ)
abbrev Oq:Ty:=(.pair .str eR)
abbrev U6:Ty:=(.pair Xo .unit)
abbrev aaN:Ty:=(.pair (.int .i64) eR)
abbrev agP:Ty:=(.pair xU<|.pair .str<|.pair (.slice .str) fO)
abbrev adR:Ty:=(.pair (.slice wW) .unit)
abbrev adS:Ty:=(.pair (.slice wM) .unit)
noncomputable def oR:Nat->sT
 | 4=>fp [none]
 | 9=>⟨[cy [(6,32),(12,3)] [2,6],none],[6]⟩
 | 12=>fp [none,cz [(4,4),(5,3)],none,none]
 | 13=>fp [none,none,none,none,none,none,none,none,none,none,cz [(104,4)],none,cz [(112,4)],cz [(112,4)],none]
 | 14=>fp [none,cz [(2,4),(3,3)],none,none,cz [(2,4),(4,3)],none,cz [(6,4),(7,3)],none,none,cz [(2,4),(8,3)],none,none]
 | 15=>fp [cz [(2,4),(3,3)],none,none]
 | 17=>fp [none,cz [(4,4),(5,3)],none,none]
 | 18=>fp [cz [(5,4)],cz [(5,4)],none,none,none,cz [(16,4)],cz [(16,4)],cz [(16,4)],cz [(16,4)],none,cz [(23,4)],none,cz [(29,4)],cz [(29,4)],none]
 | 19=>fp [cz [(5,4)],cz [(5,4)],none,none,none,cz [(16,4)],cz [(16,4)],cz [(16,4)],cz [(16,4)],none,cz [(23,4)],cz [(2,48)],none,cz [(37,4)],cz [(37,4)],cz [(2,48)],none]
 | 22=>fp [none,cz [(4,4),(5,3)],none,none]
 | 23=>⟨[cz [(4,28),(5,9)],none,none,none,cy [(10,28),(64,3)] [10],none],[10]⟩
 | 24=>⟨[cz [(4,28),(5,9)],none,cz [(28,4)],none,none,none,cy [(10,28),(11,3)] [10],none],[10]⟩
 | 25=>⟨[cy [] [7],cy [] [7],cy [] [7],none,cy [(47,3)] [7],none,cy [] [7]],[8000000]⟩
 | 26=>⟨[cy [] [5,3888888],cy [] [5,3888888],cy [] [5,3888888],none,cy [(8,3)] [5],none,cz [(9,9)]],[8000000,8500103]⟩
 | 27=>⟨[cy [] [8],cy [] [8],cy [] [8],none,cy [(54,3)] [8],none,cy [] [8]],[8000000]⟩
 | 28=>⟨[cy [] [8,3888888],cy [] [8,3888888],cy [] [8,3888888],none,cy [(9,3)] [8],none,cz [(11,9)],cz [(11,9)]],[8000000,8000001]⟩
 | 30=>fp [none,cz [(4,4),(5,3)],none,none]
 | 31=>fp [none,cz [(4,4),(5,3)],none,none]
 | 32=>fp [none,cz [(4,4),(5,3)],none,none]
 | 33=>fp [none,cz [(4,4),(5,3)],none,none]
 | 34=>⟨[none,cy [] [8]],[36]⟩
 | 35=>fp [none,none]
 | 36=>fp [none]
 | 37=>fp [none,none,none]
 | 40=>fp [none,cy [(13,37)] [12],cz [(13,37)],cy [(13,37)] [12],none]
 | 41=>fp [none,none]
 | 42=>fp [none,cy [(13,37)] [12],cz [(13,37)],cy [(13,37)] [12],none,cy [] [14],none]
 | 43=>fp [none,none]
 | 44=>fp [none,none,none,none,none]
 | 45=>fp [none,none,none,cz [(8,37)],none,cy [] [2]]
 | 47=>fp [none,cz [(4,37),(6,3)],none,none,cz [(4,37),(7,3)],none,none,cz [(4,37),(8,3)],none,none,cz [(4,37),(11,3)],none,none,cz [(4,37),(12,3)],none,cz [(4,37),(13,3)],none,none]
 | 48=>fp [none,cz [(2,4),(3,3)],none,none,none]
 | 49=>fp [cz [(4,3),(5,3)],none,none]
 | 50=>fp [cz [(2,4),(3,3)],none,none,cz [(2,4),(4,3)],none,none,cz [(2,4),(5,3)],none,none]
 | 51=>fp [cz [(2,4),(3,3)],none,none]
 | 52=>fp [cz [(2,4),(3,3)],none,none]
 | 53=>fp [none]
 | 56=>⟨[cy [(4,27),(5,37),(6,27),(7,9)] [6],cy [(4,27),(5,37),(6,27),(7,9),(13,3)] [6],none,none,none,none],[6]⟩
 | 58=>⟨[some ⟨[(1,9),(4,27),(5,37),(6,27),(7,3)],[6],true⟩,none,none,none,none],[6]⟩
 | 59=>fp [cy [(9,3)] [3],none]
 | 60=>⟨[none],[5]⟩
 | 61=>⟨[none],[5]⟩
 | 62=>⟨[none],[5]⟩
 | 63=>⟨[none],[5]⟩
 | 65=>fp [cz [(4,4),(5,3)],none,none]
 | 66=>fp [cz [(4,4),(5,3)],none,none]
 | 67=>fp [none]
 | 68=>fp [none]
 | 82=>fp [none,cz [(4,4),(5,3)],none,none]
 | 83=>⟨[cy [] [6000008],none,none],[5000000,7000037]⟩
 | 85=>⟨[none],[7]⟩
 | 86=>⟨[none],[7000037]⟩
 | 87=>fp [none]
 | 88=>fp [cy [(3,37)] [2]]
 | 90=>fp [none,cy [(6,37),(21,3)] [5],none,none]
 | 93=>fp [none,cy [(4,9),(5,37),(17,3),(0,999999)] [0],none,none]
 | 94=>⟨[none],[7000037]⟩
 | 95=>⟨[none,cz [(4,37)]],[7000037]⟩
 | 96=>fp [none]
 | 97=>fp [none]
 | 101=>fp [cz [(7,3)]]
 | 103=>fp [none]
 | 105=>⟨[none,cy [(8,25),(28,3)] [8,2000026],none],[8]⟩
 | 106=>⟨[none],[6]⟩
 | 107=>fp [cy [(11,3)] [4],none,cz [(7,9)]]
 | 108=>fp [none,none,none]
 | 115=>⟨[cy [(7,26)] [7,8]],[10]⟩
 | 119=>fp [cy [(5,4),(11,3)] [4],none,none]
 | 120=>⟨[cz [(5,3)]],[8000000]⟩
 | 122=>fp [none]
 | 123=>⟨[cy [(5,25)] [5,6]],[9,8000000]⟩
 | 124=>⟨[none,none,cy [(7,28),(27,3)] [7],none,cy [(7,28)] [7],none,none],[7]⟩
 | 126=>fp [none]
 | 127=>fp [none]
 | 128=>fp [none,none]
 | 129=>⟨[cy [(8,3)] [3],none],[4000014]⟩
 | 130=>fp [none,none]
 | 134=>⟨[cy [(4,28),(5,28),(6,3)] [4,5],none,cy [(4,28),(5,28),(7,3)] [4,5],none,cy [(4,28),(5,28),(8,3)] [4,5],none],[4,5]⟩
 | 135=>fp [cz [(2,37),(3,3)],none,none]
 | 137=>fp [none]
 | 138=>⟨[none,cy [(8,28),(9,3)] [8],none],[8]⟩
 | 139=>fp [cz [(2,4),(3,3)],none,none]
 | 140=>fp [cz [(2,4),(3,3)],none,none]
 | 141=>fp [cz [(4,3),(8,3)],none,none]
 | 142=>⟨[none],[5]⟩
 | 143=>fp [cz [(4,9),(5,37),(6,3)],none,none,cz [(4,9),(5,37),(7,3)],none,cz [(4,9),(5,37),(8,3)],none,none,cz [(9,3),(10,9),(11,3)],none,cz [(9,3),(10,9)],none,none]
 | 145=>fp [cz [(4,3),(5,3)],none,none]
 | 146=>fp [cz [(4,3),(8,3)],none,none]
 | 150=>fp [none]
 | 156=>fp [none,none]
 | 186=>⟨[cy [(5,161),(6,0),(7,4)] [4,5,6],none,none],[5,6]⟩
 | 187=>⟨[cy [(2,164),(3,4),(4,164),(11,3)] [4],none,none],[4]⟩
 | 190=>⟨[cy [] [5,6],cy [(20,3)] [5,6],none,cy [] [5,6],cy [(36,3)] [5,6],none,cy [] [5,6],cy [(52,3)] [5,6],none,cy [] [5,6,12]],[5]⟩
 | 194=>fp [none,cz [(2,37),(12,3)],none,none]
 | 195=>⟨[none,none,cy [(8,22),(30,3),(6,999999),(28,999999)] [6,8,28,2000008],none,cy [(4,22),(5,27),(8,22),(40,3),(38,999999)] [8,38],none,none],[25]⟩
 | 198=>fp [cy [(9,3)] [3],none]
 | 199=>⟨[cy [(4,3),(8,3)] [1],none,none],[7000003]⟩
 | 201=>⟨[],[8]⟩
 | 202=>⟨[],[8]⟩
 | 210=>⟨[none],[9]⟩
 | 211=>⟨[none],[9]⟩
 | 212=>⟨[cy [(7,26)] [4,7,2000007],cz [(8,3)]],[11]⟩
 | 213=>fp [cy [(2,3),(3,3),(0,999999)] [0,3999999],none]
 | 214=>fp [cz [(2,96),(3,37),(4,96),(11,3)],none,none]
 | 216=>fp [cy [(0,96),(1,96)] [2,3,4],none,cz [(10,3)],cz [(10,3)],cy [] [2,3,4],cy [] [3,4],cz [(0,96)],cz [(1,96)]]
 | 218=>fp [cy [] [2]]
 | 222=>⟨[none],[5]⟩
 | 223=>fp [cz [(8,3)]]
 | 224=>fp [cy [(4,3),(8,3)] [1],none,none]
 | 232=>fp [cy [(4,3),(8,3)] [1],none,none]
 | 239=>fp [cz [(8,3)]]
 | 243=>fp [cz [(2,4),(3,3)],none,none,cz [(2,4),(4,3)],none,none]
 | 244=>fp [none,none]
 | 245=>fp [cz [(2,4),(3,3)],none,none]
 | 246=>fp [cy [(5,3)] [3],none,cy [(7,3)] [6],none]
 | 247=>⟨[cy [(3,180),(4,3)] [3],none],[3]⟩
 | 248=>fp [none]
 | 249=>fp [cz [(2,4),(3,3)],none,none]
 | 250=>fp [cz [(2,96),(3,37),(4,96),(5,3)],none,none]
 | 252=>⟨[cy [(5,102)] [5],cy [(5,102),(6,3)] [5],none,cy [(5,102)] [5],cy [(5,102),(7,3)] [5],none,cy [(5,102)] [5],cy [(5,102),(8,3)] [5],none,cy [(5,102)] [5]],[5]⟩
 | 257=>fp [none,cz [(2,4),(3,3)],none,none]
 | 258=>fp [none,none,cz [(0,96),(6,3)],none,cz [(0,96)],cz [(0,96)],cz [(0,96),(4,96),(5,37),(10,3)],none,none,none,none]
 | 259=>fp [none]
 | 263=>fp [cz [(2,4),(3,3)],none,none]
 | 266=>fp [cy [(4,3),(8,3)] [1],none,none]
 | 267=>fp [none,none,none]
 | 269=>fp [none,none,none,none]
 | 271=>fp [none,none,none,none,none]
 | 275=>fp [none]
 | 276=>fp [none,none,none,none]
 | 278=>fp [none,none,none]
 | 282=>fp [none,cy [(1,9)] [0],none,cy [] [0]]
 | 283=>fp [cy [] [3],cy [] [3],none,cy [(26,3)] [5],none,cy [(41,3)] [7],none]
 | 287=>fp [cy [(4,3),(8,3)] [1],none,none]
 | 288=>fp [cy [(4,3),(8,3)] [1],none,none]
 | 292=>fp [none,cy [(5,3),(6,3),(0,999999)] [0,1],none,cy [(5,3),(0,999999)] [0]]
 | 295=>⟨[],[8]⟩
 | 303=>fp [cy [(4,3),(8,3)] [1],none,none]
 | 305=>⟨[cy [(7,67)] [7,8]],[10]⟩
 | 308=>⟨[none,cy [(2,9),(3,4),(4,180),(5,3)] [4],none,none],[4]⟩
 | 310=>fp [cy [(3,180)] [0,3],none,cy [(3,180),(5,3)] [3],none]
 | 311=>fp [cy [(6,3)] [5],none,cy [(7,3)] [5],none,cy [(12,3)] [11],none,cy [(17,3)] [11],none]
 | 312=>fp [none]
 | 313=>⟨[none,some ⟨[(0,9),(2,161),(3,4),(4,161)],[4],true⟩,none,none,none],[4]⟩
 | 314=>fp [none,none,none,none]
 | 315=>fp [none]
 | 316=>fp [none,none,none]
 | 318=>fp [cz [(4,3),(7,3)],none,none,none,none,none]
 | 319=>fp [none]
 | 320=>fp [none]
 | 321=>fp [cz [(0,96),(4,96),(5,37),(7,9),(8,3)],none,none,none]
 | 322=>⟨[none,none,none,some ⟨[(8,22),(0,999999)],[0],true⟩,some ⟨[(8,22),(0,999999)],[0],true⟩,none,cz [(12,3)],none],[10,11]⟩
 | 324=>fp [cz [(4,3),(5,3)],none,none]
 | 336=>fp [cz [(0,9)],none]
 | 337=>fp [cz [(0,9)],none]
 | 338=>fp [cy [(3,4),(4,3)] [2],none,none]
 | 339=>fp [cy [(0,9)] [1],none,none]
 | 340=>fp [cy [(0,9)] [1],none,none]
 | 345=>fp [none,cz [(4,9)],cz [(71,4)],cy [] [10],cy [] [10],cy [] [10],none]
 | 347=>⟨[cy [(2,9),(3,37),(4,28),(11,3)] [4],none,cy [(2,9),(3,37),(4,28)] [4],none,none],[4]⟩
 | 348=>fp [none,none,none]
 | 349=>fp [none]
 | 351=>⟨[cy [(3,96),(6,9),(18,3)] [3],none],[3]⟩
 | 352=>fp [none,none,none,none,none]
 | 355=>fp [cy [(6,3),(13,3)] [2],none,none,none,none]
 | 356=>fp [none]
 | 357=>fp [none,none,none,none,none]
 | 362=>fp [cy [] [0],cz [(6,254),(7,254),(8,254),(9,254),(10,254),(11,254),(12,254),(13,254),(74,3)],none,cy [(143,3)] [0],none]
 | 375=>fp [cz [(2,3),(3,3)],none,none]
 | 378=>fp [cz [(2,4),(3,3)],none,none]
 | 379=>fp [none,cz [(2,4),(3,3)],none,none]
 | 380=>fp [none,cy [] [11],cz [(74,4)],cy [] [11],cy [] [11],cy [] [11],none]
 | 381=>fp [cz [(0,3)],none]
 | 382=>⟨[cy [(5,28),(6,3)] [5],none,cy [(5,28)] [5],none],[5]⟩
 | 383=>fp [none,none,none]
 | 384=>fp [none,none]
 | 385=>fp [cz [(2,4),(4,9),(5,3)],none,none]
 | 386=>⟨[none,cy [(3,28),(4,9),(5,3)] [3],none,cy [(3,28),(4,9)] [3]],[3]⟩
 | 387=>fp [cz [(3,9),(4,3)],none,cz [(3,9)]]
 | 388=>fp [cz [(2,4),(4,3)],none,none]
 | 389=>fp [cz [(2,4),(3,3)],none,none]
 | 390=>⟨[cy [(7,96),(8,3)] [7],none,cy [(7,96)] [7]],[7]⟩
 | 402=>fp [none]
 | 403=>fp [cz [(4,3),(12,3)],none,cz [(6,5)]]
 | 405=>fp [none,none,none,none]
 | 406=>fp [cz [(2,4),(6,3)],none,none]
 | 408=>fp [cz [(4,3),(5,3)],none,none]
 | 409=>fp [cz [(9,254),(10,3)],none,none,cz [(4,3),(9,254),(11,3)],none,none]
 | 412=>fp [cy [(9,3),(10,3)] [1,2],none,cz [(9,3),(10,3)]]
 | 417=>fp [cy [(12,3)] [3],none,cy [(22,3)] [3],none,cy [(7,3)] [3],none]
 | 426=>fp [cz [(3,3)],none,none,cz [(2,3),(4,3)],none,none,none]
 | 427=>fp [cz [(3,3),(4,3)],none,cz [(3,3)]]
 | 428=>fp [cz [(2,9),(3,4),(4,3)],none,none,cz [(2,9),(3,4),(5,3)],none,none]
 | 429=>fp [cz [(5,4)]]
 | 431=>fp [cz [(2,4),(3,3)],none,none]
 | 432=>fp [none,cz [(4,4),(7,3)],none,none]
 | 438=>fp [none,none,none]
 | 439=>fp [none,cz [(2,3),(3,4),(4,3),(18,3)],none,none]
 | 442=>fp [none]
 | 443=>fp [cz [(4,254),(5,3)],none,cz [(6,254),(7,254),(8,3)],none,cz [(6,254)]]
 | 451=>fp [none,cz [(2,3),(3,4),(4,3),(5,3)],none,none]
 | 452=>fp [cz [(4,4),(5,3)],none,none]
 | 485=>⟨[none],[9]⟩
 | 488=>fp [none,cy [(5,3),(6,3),(0,999999)] [0,1],none,cy [(5,3),(0,999999)] [0]]
 | 489=>⟨[none],[5]⟩
 | 491=>fp [none,cz [(4,4),(13,3)],none,none]
 | 492=>fp [cy [(4,3),(8,3)] [1],none,none]
 | 500=>fp [cz [(1,96),(4,96),(5,37),(6,9),(25,3)],none,none,none]
 | 501=>fp [none,none]
 | 502=>⟨[none,none,none,none],[55]⟩
 | _=>⟨[],[]⟩
def sx:List (Nat×List mR):=[(203,[.self,.buf (.int .u8) 5]),(326,[])]
def XW:List (Nat×Nat):=[(180,5),(157,99)]
noncomputable def Nn:List (Nat×Y2):=[(221,.str 203 5),(296,.chk 203),(60,.clone wW),(61,.clone wM),(62,.clone fO),(63,.clone ss),(142,.clone .str),(222,.clone jG),(489,.clone zK),(181,(.own .str .unit false dI)),(182,(.own .str .unit true ec)),(226,(.own wM DR true bp)),(228,(.own wW (.pair (.int .i64) adR) true ch)),(231,(.own wW DR true dN)),(285,(.own .str (.pair (.int .i64) u0) true er)),(286,(.own ss (.pair (.int .i64) R5) true dc)),(290,(.own .str DR true fL)),(291,(.own ss DR true ez)),(298,(.own wM (.pair (.int .i64) adS) true bS)),(307,(.own jG (.pair (.int .i64) Xp) true bc)),(367,(.own fO (.pair (.int .i64) aaM) true eA)),(372,(.own jG DR true bY)),(503,(.own zK (.pair (.int .i64) tQ) true aZ))]
noncomputable def tys:List (Nat×Ty):=[(3,(.int .i64)),(4,.bool),(5,(.int .u8)),(9,.str),(21,(.int .i32)),(22,(.slice YH8)),(25,(.slice wW)),(26,(.slice wM)),(27,(.slice ss)),(28,(.slice .str)),(29,(.slice fO)),(31,xU),(32,(.slice Jw)),(37,(.int .i64)),(39,Jw),(43,YH8),(48,Oo),(66,aaK),(67,(.slice jG)),(69,wM),(72,wW),(74,fO),(85,ss),(86,(.arr 4 .bool)),(96,(.slice zK)),(102,Xo),(113,(.slice aaN)),(125,(.int .u64)),(139,(.arr 4<|.int .i64)),(156,jG),(161,U5),(164,(.slice aaL)),(169,(.pair .str u0)),(178,(.arr 32<|.int .u8)),(180,(.slice<|.int .u8)),(193,aaN),(197,zK),(200,(.arr 4 .str)),(233,YH6),(235,(.pair YH6 eR)),(239,aaL),(254,(.int .u32)),(255,(.arr 8<|.int .u32)),(257,(.pair .bool adQ)),(258,(.arr 64<|.int .u8)),(260,agO),(295,(.int .i64)),(304,(.int .u64)),(307,(.arr 256 .bool)),(313,afl),(322,eR),(324,eR),(328,(.pair zK .unit)),(339,(.arr 8<|.int .u8)),(349,(.arr 64<|.int .u32)),(354,(.int .u64)),(380,DR),(381,(.arr 11 DR)),(386,(.arr 2 .str)),(391,(.arr 256<|.int .u8)),(393,(.pair (.int .u8) Xq)),(394,(.arr 16<|.pair (.int .u8) Xq))]
noncomputable def yM:List (Nat×Func):=[(4,Tryz.f4),(8,Tryz.f8),(9,Tryz.f9),(11,Tryz.f11),(12,Tryz.f12),(13,Tryz.f13),(14,Tryz.f14),(15,Tryz.f15),(16,Tryz.f16),(17,Tryz.f17),(18,Tryz.f18),(19,Tryz.f19),(20,Tryz.f20),(21,Tryz.f21),(22,Tryz.f22),(23,Tryz.f23),(24,Tryz.f24),(25,Tryz.f25),(26,Tryz.f26),(27,Tryz.f27),(28,Tryz.f28),(30,Tryz.f30),(31,Tryz.f31),(32,Tryz.f32),(33,Tryz.f33),(34,Tryz.f34),(35,Tryz.f35),(36,Tryz.f36),(37,Tryz.f37),(38,Tryz.f38),(39,Tryz.f39),(40,Tryz.f40),(41,Tryz.f41),(42,Tryz.f42),(43,Tryz.f43),(44,Tryz.f44),(45,Tryz.f45),(46,Tryz.f46),(47,Tryz.f47),(48,Tryz.f48),(49,Tryz.f49),(50,Tryz.f50),(51,Tryz.f51),(52,Tryz.f52),(53,Tryz.f53),(54,Tryz.f54),(55,Tryz.f55),(56,Tryz.f56),(57,Tryz.f57),(58,Tryz.f58),(59,Tryz.f59),(60,Tryz.f60),(61,Tryz.f61),(62,Tryz.f62),(63,Tryz.f63),(64,Tryz.f64),(65,Tryz.f65),(66,Tryz.f66),(67,Tryz.f67),(68,Tryz.f68),(82,Tryz.f82),(83,Tryz.f83),(84,Tryz.f84),(85,Tryz.f85),(86,Tryz.f86),(87,Tryz.f87),(88,Tryz.f88),(89,Tryz.f89),(90,Tryz.f90),(91,Tryz.f91),(92,Tryz.f92),(93,Tryz.f93),(94,Tryz.f94),(95,Tryz.f95),(96,Tryz.f96),(97,Tryz.f97),(98,Tryz.f98),(99,Tryz.f99),(100,Tryz.f100),(101,Tryz.f101),(102,Tryz.f102),(103,Tryz.f103),(104,Tryz.f104),(105,Tryz.f105),(106,Tryz.f106),(107,Tryz.f107),(108,Tryz.f108),(109,Tryz.f109),(110,Tryz.f110),(111,Tryz.f111),(112,Tryz.f112),(113,Tryz.f113),(114,Tryz.f114),(115,Tryz.f115),(116,Tryz.f116),(117,Tryz.f117),(118,Tryz.f118),(119,Tryz.f119),(120,Tryz.f120),(121,Tryz.f121),(122,Tryz.f122),(123,Tryz.f123),(124,Tryz.f124),(125,Tryz.f125),(126,Tryz.f126),(127,Tryz.f127),(128,Tryz.f128),(129,Tryz.f129),(130,Tryz.f130),(131,Tryz.f131),(132,Tryz.f132),(133,Tryz.f133),(134,Tryz.f134),(135,Tryz.f135),(136,Tryz.f136),(137,Tryz.f137),(138,Tryz.f138),(139,Tryz.f139),(140,Tryz.f140),(141,Tryz.f141),(142,Tryz.f142),(143,Tryz.f143),(144,Tryz.f144),(145,Tryz.f145),(146,Tryz.f146),(147,Tryz.f147),(148,Tryz.f148),(149,Tryz.f149),(150,Tryz.f150),(156,Tryz.f156),(183,Tryz.f183),(184,Tryz.f184),(185,Tryz.f185),(186,Tryz.f186),(187,Tryz.f187),(188,Tryz.f188),(189,Tryz.f189),(190,Tryz.f190),(191,Tryz.f191),(192,Tryz.f192),(193,Tryz.f193),(194,Tryz.f194),(195,Tryz.f195),(197,Tryz.f197),(198,Tryz.f198),(199,Tryz.f199),(200,Tryz.f200),(201,Tryz.f201),(202,Tryz.f202),(203,Tryz.f203),(204,Tryz.f204),(205,Tryz.f205),(206,Tryz.f206),(207,Tryz.f207),(208,Tryz.f208),(209,Tryz.f209),(210,Tryz.f210),(211,Tryz.f211),(212,Tryz.f212),(213,Tryz.f213),(214,Tryz.f214),(215,Tryz.f215),(216,Tryz.f216),(217,Tryz.f217),(218,Tryz.f218),(219,Tryz.f219),(220,Tryz.f220),(222,Tryz.f222),(223,Tryz.f223),(224,Tryz.f224),(225,Tryz.f225),(227,Tryz.f227),(229,Tryz.f229),(230,Tryz.f230),(232,Tryz.f232),(233,Tryz.f233),(234,Tryz.f234),(235,Tryz.f235),(236,Tryz.f236),(237,Tryz.f237),(238,Tryz.f238),(239,Tryz.f239),(241,Tryz.f241),(242,Tryz.f242),(243,Tryz.f243),(244,Tryz.f244),(245,Tryz.f245),(246,Tryz.f246),(247,Tryz.f247),(248,Tryz.f248),(249,Tryz.f249),(250,Tryz.f250),(251,Tryz.f251),(252,Tryz.f252),(253,Tryz.f253),(257,Tryz.f257),(258,Tryz.f258),(259,Tryz.f259),(263,Tryz.f263),(266,Tryz.f266),(267,Tryz.f267),(268,Tryz.f268),(269,Tryz.f269),(270,Tryz.f270),(271,Tryz.f271),(272,Tryz.f272),(273,Tryz.f273),(274,Tryz.f274),(275,Tryz.f275),(276,Tryz.f276),(277,Tryz.f277),(278,Tryz.f278),(282,Tryz.f282),(283,Tryz.f283),(284,Tryz.f284),(287,Tryz.f287),(288,Tryz.f288),(289,Tryz.f289),(292,Tryz.f292),(293,Tryz.f293),(294,Tryz.f294),(295,Tryz.f295),(297,Tryz.f297),(299,Tryz.f299),(302,Tryz.f302),(303,Tryz.f303),(304,Tryz.f304),(305,Tryz.f305),(306,Tryz.f306),(308,Tryz.f308),(309,Tryz.f309),(310,Tryz.f310),(311,Tryz.f311),(312,Tryz.f312),(313,Tryz.f313),(314,Tryz.f314),(315,Tryz.f315),(316,Tryz.f316),(317,Tryz.f317),(318,Tryz.f318),(319,Tryz.f319),(320,Tryz.f320),(321,Tryz.f321),(322,Tryz.f322),(323,Tryz.f323),(324,Tryz.f324),(336,Tryz.f336),(337,Tryz.f337),(338,Tryz.f338),(339,Tryz.f339),(340,Tryz.f340),(343,Tryz.f343),(344,Tryz.f344),(345,Tryz.f345),(346,Tryz.f346),(347,Tryz.f347),(348,Tryz.f348),(349,Tryz.f349),(350,Tryz.f350),(351,Tryz.f351),(352,Tryz.f352),(353,Tryz.f353),(354,Tryz.f354),(355,Tryz.f355),(356,Tryz.f356),(357,Tryz.f357),(358,Tryz.f358),(362,Tryz.f362),(375,Tryz.f375),(376,Tryz.f376),(377,Tryz.f377),(378,Tryz.f378),(379,Tryz.f379),(380,Tryz.f380),(381,Tryz.f381),(382,Tryz.f382),(383,Tryz.f383),(384,Tryz.f384),(385,Tryz.f385),(386,Tryz.f386),(387,Tryz.f387),(388,Tryz.f388),(389,Tryz.f389),(390,Tryz.f390),(396,Tryz.f396),(397,Tryz.f397),(401,Tryz.f401),(402,Tryz.f402),(403,Tryz.f403),(404,Tryz.f404),(405,Tryz.f405),(406,Tryz.f406),(407,Tryz.f407),(408,Tryz.f408),(409,Tryz.f409),(412,Tryz.f412),(413,Tryz.f413),(415,Tryz.f415),(416,Tryz.f416),(417,Tryz.f417),(418,Tryz.f418),(426,Tryz.f426),(427,Tryz.f427),(428,Tryz.f428),(429,Tryz.f429),(430,Tryz.f430),(431,Tryz.f431),(432,Tryz.f432),(437,Tryz.f437),(438,Tryz.f438),(439,Tryz.f439),(440,Tryz.f440),(441,Tryz.f441),(442,Tryz.f442),(443,Tryz.f443),(446,Tryz.f446),(451,Tryz.f451),(452,Tryz.f452),(453,Tryz.f453),(482,Tryz.f482),(483,Tryz.f483),(484,Tryz.f484),(485,Tryz.f485),(486,Tryz.f486),(487,Tryz.f487),(488,Tryz.f488),(489,Tryz.f489),(490,Tryz.f490),(491,Tryz.f491),(492,Tryz.f492),(493,Tryz.f493),(494,Tryz.f494),(495,Tryz.f495),(496,Tryz.f496),(497,Tryz.f497),(498,Tryz.f498),(499,Tryz.f499),(500,Tryz.f500),(501,Tryz.f501),(502,Tryz.f502)]
def qx:List Nat:=[99,120,122,131,140,141,151,160,173,187,194,198,199,201,218,230,242,245,246,268,273,277,311,337,358,369,371,375]
def kT:List Nat:=[201,230,273,311,337,358,371,375]
noncomputable def tP(b:List (Nat×x4))(a:List (Nat×xd))(c:List (String×x4):=[]):Ctx:=⟨tys,qx,kT,yM,b,a,sx,Nn,XW,c⟩
theorem mix:Tryz.prog.follows .mixedOrders=true:=by kernel_rfl
theorem U3:∀tid t,find tys tid=some t->Den Tryz.prog t tid:=acv (by kernel_rfl)
theorem Fy:∀tid,cK qx tid=true->(∀w,(isAgg tid).run Tryz.prog w=.ok false w)/\(∀w,(Go.sizeOf tid).run Tryz.prog w=.ok 1 w)/\∃z,(∀w,(zeroValue tid).run Tryz.prog w=.ok z w)/\z.oneCell'=true:=Yd (by kernel_rfl)
theorem Fz:∀tid,cK kT tid=true->∃e,Tryz.prog.underlying tid=some (.pointer e):=Ye (by kernel_rfl)
theorem ML:∀f a,find yM f=some a->Tryz.prog.funcs[f]?=some a:=acw ((ah Tryz.func4<|ah Tryz.func8<|ah Tryz.func9<|ah Tryz.func11<|ah Tryz.func12<|ah Tryz.func13<|ah Tryz.func14<|ah Tryz.func15<|ah Tryz.func16<|ah Tryz.func17<|ah Tryz.func18<|ah Tryz.func19<|ah Tryz.func20<|ah Tryz.func21<|ah Tryz.func22<|ah Tryz.func23<|ah Tryz.func24<|ah Tryz.func25<|ah Tryz.func26<|ah Tryz.func27<|ah Tryz.func28<|ah Tryz.func30<|ah Tryz.func31<|ah Tryz.func32<|ah Tryz.func33<|ah Tryz.func34<|ah Tryz.func35<|ah Tryz.func36<|ah Tryz.func37<|ah Tryz.func38<|ah Tryz.func39<|ah Tryz.func40<|ah Tryz.func41<|ah Tryz.func42<|ah Tryz.func43<|ah Tryz.func44<|ah Tryz.func45<|ah Tryz.func46<|ah Tryz.func47<|ah Tryz.func48<|ah Tryz.func49<|ah Tryz.func50<|ah Tryz.func51<|ah Tryz.func52<|ah Tryz.func53<|ah Tryz.func54<|ah Tryz.func55<|ah Tryz.func56<|ah Tryz.func57<|ah Tryz.func58<|ah Tryz.func59<|ah Tryz.func60<|ah Tryz.func61<|ah Tryz.func62<|ah Tryz.func63<|ah Tryz.func64<|ah Tryz.func65<|ah Tryz.func66<|ah Tryz.func67<|ah Tryz.func68<|ah Tryz.func82<|ah Tryz.func83<|ah Tryz.func84<|ah Tryz.func85<|ah Tryz.func86<|ah Tryz.func87<|ah Tryz.func88<|ah Tryz.func89<|ah Tryz.func90<|ah Tryz.func91<|ah Tryz.func92<|ah Tryz.func93<|ah Tryz.func94<|ah Tryz.func95<|ah Tryz.func96<|ah Tryz.func97<|ah Tryz.func98<|ah Tryz.func99<|ah Tryz.func100<|ah Tryz.func101<|ah Tryz.func102<|ah Tryz.func103<|ah Tryz.func104<|ah Tryz.func105<|ah Tryz.func106<|ah Tryz.func107<|ah Tryz.func108<|ah Tryz.func109<|ah Tryz.func110<|ah Tryz.func111<|ah Tryz.func112<|ah Tryz.func113<|ah Tryz.func114<|ah Tryz.func115<|ah Tryz.func116<|ah Tryz.func117<|ah Tryz.func118<|ah Tryz.func119<|ah Tryz.func120<|ah Tryz.func121<|ah Tryz.func122<|ah Tryz.func123<|ah Tryz.func124<|ah Tryz.func125<|ah Tryz.func126<|ah Tryz.func127<|ah Tryz.func128<|ah Tryz.func129<|ah Tryz.func130<|ah Tryz.func131<|ah Tryz.func132<|ah Tryz.func133<|ah Tryz.func134<|ah Tryz.func135<|ah Tryz.func136<|ah Tryz.func137<|ah Tryz.func138<|ah Tryz.func139<|ah Tryz.func140<|ah Tryz.func141<|ah Tryz.func142<|ah Tryz.func143<|ah Tryz.func144<|ah Tryz.func145<|ah Tryz.func146<|ah Tryz.func147<|ah Tryz.func148<|ah Tryz.func149<|ah Tryz.func150<|ah Tryz.func156<|ah Tryz.func183<|ah Tryz.func184<|ah Tryz.func185<|ah Tryz.func186<|ah Tryz.func187<|ah Tryz.func188<|ah Tryz.func189<|ah Tryz.func190<|ah Tryz.func191<|ah Tryz.func192<|ah Tryz.func193<|ah Tryz.func194<|ah Tryz.func195<|ah Tryz.func197<|ah Tryz.func198<|ah Tryz.func199<|ah Tryz.func200<|ah Tryz.func201<|ah Tryz.func202<|ah Tryz.func203<|ah Tryz.func204<|ah Tryz.func205<|ah Tryz.func206<|ah Tryz.func207<|ah Tryz.func208<|ah Tryz.func209<|ah Tryz.func210<|ah Tryz.func211<|ah Tryz.func212<|ah Tryz.func213<|ah Tryz.func214<|ah Tryz.func215<|ah Tryz.func216<|ah Tryz.func217<|ah Tryz.func218<|ah Tryz.func219<|ah Tryz.func220<|ah Tryz.func222<|ah Tryz.func223<|ah Tryz.func224<|ah Tryz.func225<|ah Tryz.func227<|ah Tryz.func229<|ah Tryz.func230<|ah Tryz.func232<|ah Tryz.func233<|ah Tryz.func234<|ah Tryz.func235<|ah Tryz.func236<|ah Tryz.func237<|ah Tryz.func238<|ah Tryz.func239<|ah Tryz.func241<|ah Tryz.func242<|ah Tryz.func243<|ah Tryz.func244<|ah Tryz.func245<|ah Tryz.func246<|ah Tryz.func247<|ah Tryz.func248<|ah Tryz.func249<|ah Tryz.func250<|ah Tryz.func251<|ah Tryz.func252<|ah Tryz.func253<|ah Tryz.func257<|ah Tryz.func258<|ah Tryz.func259<|ah Tryz.func263<|ah Tryz.func266<|ah Tryz.func267<|ah Tryz.func268<|ah Tryz.func269<|ah Tryz.func270<|ah Tryz.func271<|ah Tryz.func272<|ah Tryz.func273<|ah Tryz.func274<|ah Tryz.func275<|ah Tryz.func276<|ah Tryz.func277<|ah Tryz.func278<|ah Tryz.func282<|ah Tryz.func283<|ah Tryz.func284<|ah Tryz.func287<|ah Tryz.func288<|ah Tryz.func289<|ah Tryz.func292<|ah Tryz.func293<|ah Tryz.func294<|ah Tryz.func295<|ah Tryz.func297<|ah Tryz.func299<|ah Tryz.func302<|ah Tryz.func303<|ah Tryz.func304<|ah Tryz.func305<|ah Tryz.func306<|ah Tryz.func308<|ah Tryz.func309<|ah Tryz.func310<|ah Tryz.func311<|ah Tryz.func312<|ah Tryz.func313<|ah Tryz.func314<|ah Tryz.func315<|ah Tryz.func316<|ah Tryz.func317<|ah Tryz.func318<|ah Tryz.func319<|ah Tryz.func320<|ah Tryz.func321<|ah Tryz.func322<|ah Tryz.func323<|ah Tryz.func324<|ah Tryz.func336<|ah Tryz.func337<|ah Tryz.func338<|ah Tryz.func339<|ah Tryz.func340<|ah Tryz.func343<|ah Tryz.func344<|ah Tryz.func345<|ah Tryz.func346<|ah Tryz.func347<|ah Tryz.func348<|ah Tryz.func349<|ah Tryz.func350<|ah Tryz.func351<|ah Tryz.func352<|ah Tryz.func353<|ah Tryz.func354<|ah Tryz.func355<|ah Tryz.func356<|ah Tryz.func357<|ah Tryz.func358<|ah Tryz.func362<|ah Tryz.func375<|ah Tryz.func376<|ah Tryz.func377<|ah Tryz.func378<|ah Tryz.func379<|ah Tryz.func380<|ah Tryz.func381<|ah Tryz.func382<|ah Tryz.func383<|ah Tryz.func384<|ah Tryz.func385<|ah Tryz.func386<|ah Tryz.func387<|ah Tryz.func388<|ah Tryz.func389<|ah Tryz.func390<|ah Tryz.func396<|ah Tryz.func397<|ah Tryz.func401<|ah Tryz.func402<|ah Tryz.func403<|ah Tryz.func404<|ah Tryz.func405<|ah Tryz.func406<|ah Tryz.func407<|ah Tryz.func408<|ah Tryz.func409<|ah Tryz.func412<|ah Tryz.func413<|ah Tryz.func415<|ah Tryz.func416<|ah Tryz.func417<|ah Tryz.func418<|ah Tryz.func426<|ah Tryz.func427<|ah Tryz.func428<|ah Tryz.func429<|ah Tryz.func430<|ah Tryz.func431<|ah Tryz.func432<|ah Tryz.func437<|ah Tryz.func438<|ah Tryz.func439<|ah Tryz.func440<|ah Tryz.func441<|ah Tryz.func442<|ah Tryz.func443<|ah Tryz.func446<|ah Tryz.func451<|ah Tryz.func452<|ah Tryz.func453<|ah Tryz.func482<|ah Tryz.func483<|ah Tryz.func484<|ah Tryz.func485<|ah Tryz.func486<|ah Tryz.func487<|ah Tryz.func488<|ah Tryz.func489<|ah Tryz.func490<|ah Tryz.func491<|ah Tryz.func492<|ah Tryz.func493<|ah Tryz.func494<|ah Tryz.func495<|ah Tryz.func496<|ah Tryz.func497<|ah Tryz.func498<|ah Tryz.func499<|ah Tryz.func500<|ah Tryz.func501<|ah Tryz.func502 Yf))
theorem FA:∀tid a,find sx tid=some a->KH Tryz.prog tid a=true:=Yg (by kernel_rfl)
theorem MM:∀tid e,find XW tid=some e->Tryz.prog.underlying tid=some (.slice e):=acx (by kernel_rfl)
theorem zy(b:List (Nat×x4))(a:List (Nat×xd))(c:List (String×x4):=[]):eS Tryz.prog (tP b a c):=⟨U3,Fy,Fz,ML,FA,MM⟩
noncomputable def cx0:Ctx:=⟨tys,qx,kT,yM,[],[],sx,[],XW,[]⟩
theorem yN:eS Tryz.prog cx0:=⟨U3,Fy,Fz,ML,FA,MM⟩
theorem qR:eF Tryz.prog 60 (.clone wW):=by
 refine oW (P:=Tryz.prog) (cx:=cx0) (bf:=[2,5]) (e:=wW) (tid:=25) (fn:=Tryz.f60) (s0:=λl=>((nM (λ_=>none) [.data (.slice wW) l]).bT 2 { val:=.data (.slice wW) ([]:List (wW:Ty).den),tid:=0,buf:=true,ro:=false,lk:=false,aI:=0 }).put 2 (.whole 2 0)) mix yN (eZ ak cF ra dy) Tryz.func60 (by kernel_rfl)
  (by rfl) rfl (by decide) (by decide) rfl rfl rfl rfl rfl rfl (λl=>by rfl) (λl=>rfl) (λl=>rfl) (λl=>rfl) (λl=>by rfl) (λl a=>?_)
 have key:∀m:List (wW:Ty).den,fits (len m)=true->aj (fits<|plus (len ([]:List (wW:Ty).den))<|len m) (some<|app [] m) none=some m:=by
  intro m c;have e:plus (len ([]:List (wW:Ty).den)) (len m)=len m:=by simp[plus,len]
  rw[e,c];rfl
 exact w8 (b:=aj (fits<|plus (len ([]:List (wW:Ty).den))<|len (α:=(wW:Ty).den) l) (some<|app (α:=(wW:Ty).den) [] l) none) (by rfl) (key l a)
theorem oO:eF Tryz.prog 61 (.clone wM):=by
 refine oW (P:=Tryz.prog) (cx:=cx0) (bf:=[2,5]) (e:=wM) (tid:=26) (fn:=Tryz.f61) (s0:=λl=>((nM (λ_=>none) [.data (.slice wM) l]).bT 2 { val:=.data (.slice wM) ([]:List (wM:Ty).den),tid:=0,buf:=true,ro:=false,lk:=false,aI:=0 }).put 2 (.whole 2 0)) mix yN (eZ ak cF ra dy) Tryz.func61 (by kernel_rfl)
  (by rfl) rfl (by decide) (by decide) rfl rfl rfl rfl rfl rfl (λl=>by rfl) (λl=>rfl) (λl=>rfl) (λl=>rfl) (λl=>by rfl) (λl a=>?_)
 have key:∀m:List (wM:Ty).den,fits (len m)=true->aj (fits<|plus (len ([]:List (wM:Ty).den))<|len m) (some<|app [] m) none=some m:=by
  intro m c;have e:plus (len ([]:List (wM:Ty).den)) (len m)=len m:=by simp[plus,len]
  rw[e,c];rfl
 exact w8 (b:=aj (fits<|plus (len ([]:List (wM:Ty).den))<|len (α:=(wM:Ty).den) l) (some<|app (α:=(wM:Ty).den) [] l) none) (by rfl) (key l a)
theorem oP:eF Tryz.prog 62 (.clone fO):=by
 refine oW (P:=Tryz.prog) (cx:=cx0) (bf:=[2,5]) (e:=fO) (tid:=29) (fn:=Tryz.f62) (s0:=λl=>((nM (λ_=>none) [.data (.slice fO) l]).bT 2 { val:=.data (.slice fO) ([]:List (fO:Ty).den),tid:=0,buf:=true,ro:=false,lk:=false,aI:=0 }).put 2 (.whole 2 0)) mix yN (eZ ak cF ra dy) Tryz.func62 (by kernel_rfl)
  (by rfl) rfl (by decide) (by decide) rfl rfl rfl rfl rfl rfl (λl=>by rfl) (λl=>rfl) (λl=>rfl) (λl=>rfl) (λl=>by rfl) (λl a=>?_)
 have key:∀m:List (fO:Ty).den,fits (len m)=true->aj (fits<|plus (len ([]:List (fO:Ty).den))<|len m) (some<|app [] m) none=some m:=by
  intro m c;have e:plus (len ([]:List (fO:Ty).den)) (len m)=len m:=by simp[plus,len]
  rw[e,c];rfl
 exact w8 (b:=aj (fits<|plus (len ([]:List (fO:Ty).den))<|len (α:=(fO:Ty).den) l) (some<|app (α:=(fO:Ty).den) [] l) none) (by rfl) (key l a)
theorem oQ:eF Tryz.prog 63 (.clone ss):=by
 refine oW (P:=Tryz.prog) (cx:=cx0) (bf:=[2,5]) (e:=ss) (tid:=27) (fn:=Tryz.f63) (s0:=λl=>((nM (λ_=>none) [.data (.slice ss) l]).bT 2 { val:=.data (.slice ss) ([]:List (ss:Ty).den),tid:=0,buf:=true,ro:=false,lk:=false,aI:=0 }).put 2 (.whole 2 0)) mix yN (eZ ak cF ra dy) Tryz.func63 (by kernel_rfl)
  (by rfl) rfl (by decide) (by decide) rfl rfl rfl rfl rfl rfl (λl=>by rfl) (λl=>rfl) (λl=>rfl) (λl=>rfl) (λl=>by rfl) (λl a=>?_)
 have key:∀m:List (ss:Ty).den,fits (len m)=true->aj (fits<|plus (len ([]:List (ss:Ty).den))<|len m) (some<|app [] m) none=some m:=by
  intro m c;have e:plus (len ([]:List (ss:Ty).den)) (len m)=len m:=by simp[plus,len]
  rw[e,c];rfl
 exact w8 (b:=aj (fits<|plus (len ([]:List (ss:Ty).den))<|len (α:=(ss:Ty).den) l) (some<|app (α:=(ss:Ty).den) [] l) none) (by rfl) (key l a)
theorem sN:eF Tryz.prog 142 (.clone .str):=by
 refine oW (P:=Tryz.prog) (cx:=cx0) (bf:=[2,5]) (e:=.str) (tid:=28) (fn:=Tryz.f142) (s0:=λl=>((nM (λ_=>none) [.data (.slice .str) l]).bT 2 { val:=.data (.slice .str) ([]:List (.str:Ty).den),tid:=0,buf:=true,ro:=false,lk:=false,aI:=0 }).put 2 (.whole 2 0)) mix yN (eZ ak cF ra dy) Tryz.func142 (by kernel_rfl)
  (by rfl) rfl (by decide) (by decide) rfl rfl rfl rfl rfl rfl (λl=>by rfl) (λl=>rfl) (λl=>rfl) (λl=>rfl) (λl=>by rfl) (λl a=>?_)
 have key:∀m:List (.str:Ty).den,fits (len m)=true->aj (fits<|plus (len ([]:List (.str:Ty).den))<|len m) (some<|app [] m) none=some m:=by
  intro m c;have e:plus (len ([]:List (.str:Ty).den)) (len m)=len m:=by simp[plus,len]
  rw[e,c];rfl
 exact w8 (b:=aj (fits<|plus (len ([]:List (.str:Ty).den))<|len (α:=(.str:Ty).den) l) (some<|app (α:=(.str:Ty).den) [] l) none) (by rfl) (key l a)
theorem qd:eF Tryz.prog 222 (.clone jG):=by
 refine oW (P:=Tryz.prog) (cx:=cx0) (bf:=[2,5]) (e:=jG) (tid:=67) (fn:=Tryz.f222) (s0:=λl=>((nM (λ_=>none) [.data (.slice jG) l]).bT 2 { val:=.data (.slice jG) ([]:List (jG:Ty).den),tid:=0,buf:=true,ro:=false,lk:=false,aI:=0 }).put 2 (.whole 2 0)) mix yN (eZ ak cF ra dy) Tryz.func222 (by kernel_rfl)
  (by rfl) rfl (by decide) (by decide) rfl rfl rfl rfl rfl rfl (λl=>by rfl) (λl=>rfl) (λl=>rfl) (λl=>rfl) (λl=>by rfl) (λl a=>?_)
 have key:∀m:List (jG:Ty).den,fits (len m)=true->aj (fits<|plus (len ([]:List (jG:Ty).den))<|len m) (some<|app [] m) none=some m:=by
  intro m c;have e:plus (len ([]:List (jG:Ty).den)) (len m)=len m:=by simp[plus,len]
  rw[e,c];rfl
 exact w8 (b:=aj (fits<|plus (len ([]:List (jG:Ty).den))<|len (α:=(jG:Ty).den) l) (some<|app (α:=(jG:Ty).den) [] l) none) (by rfl) (key l a)
theorem dD:eF Tryz.prog 489 (.clone zK):=by
 refine oW (P:=Tryz.prog) (cx:=cx0) (bf:=[2,5]) (e:=zK) (tid:=96) (fn:=Tryz.f489) (s0:=λl=>((nM (λ_=>none) [.data (.slice zK) l]).bT 2 { val:=.data (.slice zK) ([]:List (zK:Ty).den),tid:=0,buf:=true,ro:=false,lk:=false,aI:=0 }).put 2 (.whole 2 0)) mix yN (eZ ak cF ra dy) Tryz.func489 (by kernel_rfl)
  (by rfl) rfl (by decide) (by decide) rfl rfl rfl rfl rfl rfl (λl=>by rfl) (λl=>rfl) (λl=>rfl) (λl=>rfl) (λl=>by rfl) (λl a=>?_)
 have key:∀m:List (zK:Ty).den,fits (len m)=true->aj (fits<|plus (len ([]:List (zK:Ty).den))<|len m) (some<|app [] m) none=some m:=by
  intro m c;have e:plus (len ([]:List (zK:Ty).den)) (len m)=len m:=by simp[plus,len]
  rw[e,c];rfl
 exact w8 (b:=aj (fits<|plus (len ([]:List (zK:Ty).den))<|len (α:=(zK:Ty).den) l) (some<|app (α:=(zK:Ty).den) [] l) none) (by rfl) (key l a)
theorem tR:eF Tryz.prog 181 (.own .str .unit false dI):=acz Tryz.func181 (by kernel_rfl) (by kernel_rfl) Tryz.slices_Sort_string Tryz.slices_Sort_string_none
theorem qS:eF Tryz.prog 182 (.own .str .unit true ec):=TV Tryz.func182 (by kernel_rfl) (by kernel_rfl) Tryz.slices_Compact_string Tryz.slices_Compact_string_empty Wt
theorem n0:eF Tryz.prog 226 (.own wM DR true bp):=by
 have a:Den Tryz.prog wM 69:=by
  show ew Tryz.prog wM false 69 0 []=true
  kernel_rfl
 obtain⟨h,c,b,d,f,g⟩:=a.info;exact EO (e:=wM) (ρ:=(⟨λx=>if x=29 then 0 else if x=30 then 0 else 226,λx=>if x=24 then 26 else if x=9 then 69 else if x=3 then 3 else if x=4 then 4 else 0,λx=>x⟩:Go.Shelf.Ren)) (nm := "slices.Delete[[]cooperage/api.Image,cooperage/api.Image]") (z:=c) ⟨mix,Tryz.func226.trans (congrArg some<|by kernel_rfl),
  by kernel_rfl,by kernel_rfl,by kernel_rfl,λw=>by simp[Go.sizeOf,b,d]<;>kernel_rfl,λw=>rX b f w⟩ (by decide) g (by decide)
theorem qi:eF Tryz.prog 228 (.own wW (.pair (.int .i64) adR) true ch):=by
 have a:Den Tryz.prog wW 72:=by
  show ew Tryz.prog wW false 72 0 []=true
  kernel_rfl
 obtain⟨f,g,b,c,h,i⟩:=a.info;exact vx (e:=wW) (ρ:=(⟨λx=>if x=29 then 300 else if x=30 then 301 else 228,λx=>if x=24 then 25 else if x=9 then 72 else if x=3 then 3 else if x=4 then 4 else 0,λx=>x⟩:Go.Shelf.Ren)) (nm := "slices.Insert[[]cooperage/api.Box,cooperage/api.Box]") ⟨mix,Tryz.func228.trans (congrArg some<|by kernel_rfl),
  λd w=>run_callFunc_extern (e:=Extern.SlicesOverlaps.overlaps #[25,25] #[4]) Tryz.func300 (by kernel_rfl) (by kernel_rfl) (by kernel_rfl) (by kernel_rfl) d w,
  by kernel_rfl,by kernel_rfl,by kernel_rfl,λw=>by simp[Go.sizeOf,b,c]<;>kernel_rfl,by simp[b,c]<;>kernel_rfl⟩ (by decide) a (by kernel_rfl) (by decide) (by decide)
theorem qj:eF Tryz.prog 231 (.own wW DR true dN):=by
 have a:Den Tryz.prog wW 72:=by
  show ew Tryz.prog wW false 72 0 []=true
  kernel_rfl
 obtain⟨h,c,b,d,f,g⟩:=a.info;exact EO (e:=wW) (ρ:=(⟨λx=>if x=29 then 0 else if x=30 then 0 else 231,λx=>if x=24 then 25 else if x=9 then 72 else if x=3 then 3 else if x=4 then 4 else 0,λx=>x⟩:Go.Shelf.Ren)) (nm := "slices.Delete[[]cooperage/api.Box,cooperage/api.Box]") (z:=c) ⟨mix,Tryz.func231.trans (congrArg some<|by kernel_rfl),
  by kernel_rfl,by kernel_rfl,by kernel_rfl,λw=>by simp[Go.sizeOf,b,d]<;>kernel_rfl,λw=>rX b f w⟩ (by decide) g (by decide)
theorem sq:eF Tryz.prog 285 (.own .str (.pair (.int .i64) u0) true er):=by
 have a:Den Tryz.prog .str 9:=by
  show ew Tryz.prog .str false 9 0 []=true
  kernel_rfl
 obtain⟨f,g,b,c,h,i⟩:=a.info;exact vx (e:=.str) (ρ:=(⟨λx=>if x=29 then 363 else if x=30 then 364 else 285,λx=>if x=24 then 28 else if x=9 then 9 else if x=3 then 3 else if x=4 then 4 else 0,λx=>x⟩:Go.Shelf.Ren)) (nm := "slices.Insert[[]string,string]") ⟨mix,Tryz.func285.trans (congrArg some<|by kernel_rfl),
  λd w=>run_callFunc_extern (e:=Extern.SlicesOverlaps.overlaps #[28,28] #[4]) Tryz.func363 (by kernel_rfl) (by kernel_rfl) (by kernel_rfl) (by kernel_rfl) d w,
  by kernel_rfl,by kernel_rfl,by kernel_rfl,λw=>by simp[Go.sizeOf,b,c]<;>kernel_rfl,by simp[b,c]<;>kernel_rfl⟩ (by decide) a (by kernel_rfl) (by decide) (by decide)
theorem n6:eF Tryz.prog 286 (.own ss (.pair (.int .i64) R5) true dc):=by
 have a:Den Tryz.prog ss 85:=by
  show ew Tryz.prog ss false 85 0 []=true
  kernel_rfl
 obtain⟨f,g,b,c,h,i⟩:=a.info;exact vx (e:=ss) (ρ:=(⟨λx=>if x=29 then 365 else if x=30 then 366 else 286,λx=>if x=24 then 27 else if x=9 then 85 else if x=3 then 3 else if x=4 then 4 else 0,λx=>x⟩:Go.Shelf.Ren)) (nm := "slices.Insert[[]cooperage/api.Layer,cooperage/api.Layer]") ⟨mix,Tryz.func286.trans (congrArg some<|by kernel_rfl),
  λd w=>run_callFunc_extern (e:=Extern.SlicesOverlaps.overlaps #[27,27] #[4]) Tryz.func365 (by kernel_rfl) (by kernel_rfl) (by kernel_rfl) (by kernel_rfl) d w,
  by kernel_rfl,by kernel_rfl,by kernel_rfl,λw=>by simp[Go.sizeOf,b,c]<;>kernel_rfl,by simp[b,c]<;>kernel_rfl⟩ (by decide) a (by kernel_rfl) (by decide) (by decide)
theorem sr:eF Tryz.prog 290 (.own .str DR true fL):=by
 have a:Den Tryz.prog .str 9:=by
  show ew Tryz.prog .str false 9 0 []=true
  kernel_rfl
 obtain⟨h,c,b,d,f,g⟩:=a.info;exact EO (e:=.str) (ρ:=(⟨λx=>if x=29 then 0 else if x=30 then 0 else 290,λx=>if x=24 then 28 else if x=9 then 9 else if x=3 then 3 else if x=4 then 4 else 0,λx=>x⟩:Go.Shelf.Ren)) (nm := "slices.Delete[[]string,string]") (z:=c) ⟨mix,Tryz.func290.trans (congrArg some<|by kernel_rfl),
  by kernel_rfl,by kernel_rfl,by kernel_rfl,λw=>by simp[Go.sizeOf,b,d]<;>kernel_rfl,λw=>rX b f w⟩ (by decide) g (by decide)
theorem n7:eF Tryz.prog 291 (.own ss DR true ez):=by
 have a:Den Tryz.prog ss 85:=by
  show ew Tryz.prog ss false 85 0 []=true
  kernel_rfl
 obtain⟨h,c,b,d,f,g⟩:=a.info;exact EO (e:=ss) (ρ:=(⟨λx=>if x=29 then 0 else if x=30 then 0 else 291,λx=>if x=24 then 27 else if x=9 then 85 else if x=3 then 3 else if x=4 then 4 else 0,λx=>x⟩:Go.Shelf.Ren)) (nm := "slices.Delete[[]cooperage/api.Layer,cooperage/api.Layer]") (z:=c) ⟨mix,Tryz.func291.trans (congrArg some<|by kernel_rfl),
  by kernel_rfl,by kernel_rfl,by kernel_rfl,λw=>by simp[Go.sizeOf,b,d]<;>kernel_rfl,λw=>rX b f w⟩ (by decide) g (by decide)
theorem n8:eF Tryz.prog 298 (.own wM (.pair (.int .i64) adS) true bS):=by
 have a:Den Tryz.prog wM 69:=by
  show ew Tryz.prog wM false 69 0 []=true
  kernel_rfl
 obtain⟨f,g,b,c,h,i⟩:=a.info;exact vx (e:=wM) (ρ:=(⟨λx=>if x=29 then 369 else if x=30 then 370 else 298,λx=>if x=24 then 26 else if x=9 then 69 else if x=3 then 3 else if x=4 then 4 else 0,λx=>x⟩:Go.Shelf.Ren)) (nm := "slices.Insert[[]cooperage/api.Image,cooperage/api.Image]") ⟨mix,Tryz.func298.trans (congrArg some<|by kernel_rfl),
  λd w=>run_callFunc_extern (e:=Extern.SlicesOverlaps.overlaps #[26,26] #[4]) Tryz.func369 (by kernel_rfl) (by kernel_rfl) (by kernel_rfl) (by kernel_rfl) d w,
  by kernel_rfl,by kernel_rfl,by kernel_rfl,λw=>by simp[Go.sizeOf,b,c]<;>kernel_rfl,by simp[b,c]<;>kernel_rfl⟩ (by decide) a (by kernel_rfl) (by decide) (by decide)
theorem pr:eF Tryz.prog 307 (.own jG (.pair (.int .i64) Xp) true bc):=by
 have a:Den Tryz.prog jG 156:=by
  show ew Tryz.prog jG false 156 0 []=true
  kernel_rfl
 obtain⟨f,g,b,c,h,i⟩:=a.info;exact vx (e:=jG) (ρ:=(⟨λx=>if x=29 then 373 else if x=30 then 374 else 307,λx=>if x=24 then 67 else if x=9 then 156 else if x=3 then 3 else if x=4 then 4 else 0,λx=>x⟩:Go.Shelf.Ren)) (nm := "slices.Insert[[]cooperage/api.Item,cooperage/api.Item]") ⟨mix,Tryz.func307.trans (congrArg some<|by kernel_rfl),
  λd w=>run_callFunc_extern (e:=Extern.SlicesOverlaps.overlaps #[67,67] #[4]) Tryz.func373 (by kernel_rfl) (by kernel_rfl) (by kernel_rfl) (by kernel_rfl) d w,
  by kernel_rfl,by kernel_rfl,by kernel_rfl,λw=>by simp[Go.sizeOf,b,c]<;>kernel_rfl,by simp[b,c]<;>kernel_rfl⟩ (by decide) a (by kernel_rfl) (by decide) (by decide)
theorem n9:eF Tryz.prog 367 (.own fO (.pair (.int .i64) aaM) true eA):=by
 have a:Den Tryz.prog fO 74:=by
  show ew Tryz.prog fO false 74 0 []=true
  kernel_rfl
 obtain⟨f,g,b,c,h,i⟩:=a.info;exact vx (e:=fO) (ρ:=(⟨λx=>if x=29 then 421 else if x=30 then 422 else 367,λx=>if x=24 then 29 else if x=9 then 74 else if x=3 then 3 else if x=4 then 4 else 0,λx=>x⟩:Go.Shelf.Ren)) (nm := "slices.Insert[[]cooperage/api.Mount,cooperage/api.Mount]") ⟨mix,Tryz.func367.trans (congrArg some<|by kernel_rfl),
  λd w=>run_callFunc_extern (e:=Extern.SlicesOverlaps.overlaps #[29,29] #[4]) Tryz.func421 (by kernel_rfl) (by kernel_rfl) (by kernel_rfl) (by kernel_rfl) d w,
  by kernel_rfl,by kernel_rfl,by kernel_rfl,λw=>by simp[Go.sizeOf,b,c]<;>kernel_rfl,by simp[b,c]<;>kernel_rfl⟩ (by decide) a (by kernel_rfl) (by decide) (by decide)
theorem pt:eF Tryz.prog 372 (.own jG DR true bY):=by
 have a:Den Tryz.prog jG 156:=by
  show ew Tryz.prog jG false 156 0 []=true
  kernel_rfl
 obtain⟨h,c,b,d,f,g⟩:=a.info;exact EO (e:=jG) (ρ:=(⟨λx=>if x=29 then 0 else if x=30 then 0 else 372,λx=>if x=24 then 67 else if x=9 then 156 else if x=3 then 3 else if x=4 then 4 else 0,λx=>x⟩:Go.Shelf.Ren)) (nm := "slices.Delete[[]cooperage/api.Item,cooperage/api.Item]") (z:=c) ⟨mix,Tryz.func372.trans (congrArg some<|by kernel_rfl),
  by kernel_rfl,by kernel_rfl,by kernel_rfl,λw=>by simp[Go.sizeOf,b,d]<;>kernel_rfl,λw=>rX b f w⟩ (by decide) g (by decide)
theorem dx:eF Tryz.prog 503 (.own zK (.pair (.int .i64) tQ) true aZ):=by
 have a:Den Tryz.prog zK 197:=by
  show ew Tryz.prog zK false 197 0 []=true
  kernel_rfl
 obtain⟨f,g,b,c,h,i⟩:=a.info;exact vx (e:=zK) (ρ:=(⟨λx=>if x=29 then 504 else if x=30 then 505 else 503,λx=>if x=24 then 96 else if x=9 then 197 else if x=3 then 3 else if x=4 then 4 else 0,λx=>x⟩:Go.Shelf.Ren)) (nm := "slices.Insert[[]cooperage/api.TreeNode,cooperage/api.TreeNode]") ⟨mix,Tryz.func503.trans (congrArg some<|by kernel_rfl),
  λd w=>run_callFunc_extern (e:=Extern.SlicesOverlaps.overlaps #[96,96] #[4]) Tryz.func504 (by kernel_rfl) (by kernel_rfl) (by kernel_rfl) (by kernel_rfl) d w,
  by kernel_rfl,by kernel_rfl,by kernel_rfl,λw=>by simp[Go.sizeOf,b,c]<;>kernel_rfl,by simp[b,c]<;>kernel_rfl⟩ (by decide) a (by kernel_rfl) (by decide) (by decide)
theorem sJ:∀p∈Nn,eF Tryz.prog p.1 p.2:=(dv wK<|dv tO<|dv qR<|dv oO<|dv oP<|dv oQ<|dv sN<|dv qd<|dv dD<|dv tR<|dv qS<|dv n0<|dv qi<|dv qj<|dv sq<|dv n6<|dv sr<|dv n7<|dv n8<|dv pr<|dv n9<|dv pt<|dv dx ra)
theorem FB(b:List (Nat×x4))(a:List (Nat×xd))(c:List (String×x4):=[]):Pv (tP b a c):=TM (cx:=tP b a c) (show(yM.all λp=>Wi p.2)=true by kernel_rfl)
def cP:fm:=vl
theorem A4{b:List (Nat×x4)}{a:List (Nat×xd)}{c:List (String×x4)}(i:∀p∈b,Holds Tryz.prog cP p.1 p.2)(e:∀p∈a,eP Tryz.prog cP (p.1 / 2) p.2)(j:∀p∈c,kG Tryz.prog cP p.1 p.2){f:Nat}{l:Func}{A R:Ty}{d:A.den->Option R.den}(k:find yM f=some l)(n:l.body.isSome=true)
  (o:∀x,sem (tP b a c) 12 oR f A R x=d x):Holds Tryz.prog cP f ⟨A,R,d⟩:=by
 obtain⟨m,g⟩:=Kg.1 n;exact EM mix (zy b a c) (eZ i e sJ j) (FB b a c) (f:=f) k g (λx y h=>by rw[o];exact h)
theorem Hp{b:List (Nat×x4)}{a:List (Nat×xd)}{c:List (String×x4)}(i:∀p∈b,Holds Tryz.prog cP p.1 p.2)(e:∀p∈a,eP Tryz.prog cP (p.1 / 2) p.2)(j:∀p∈c,kG Tryz.prog cP p.1 p.2){f:Nat}{l:Func}{m:List Bool}{A:Ty}{U:OT}{R:Ty}{d:A.den×U.den->Option (R.den×U.den)}(k:find yM f=some l)(o:l.body.isSome=true)
  (q:∀x,Y9 (tP b a c) 12 oR f m A U R x=d x):eP Tryz.prog cP f ⟨m,A,U,R,d⟩:=by
 obtain⟨n,g⟩:=Kg.1 o;exact Cj mix (zy b a c) (eZ i e sJ j) (FB b a c) (f:=f) k g (λx y h=>by rw[q];exact h)
theorem BI{d:List (Nat×x4)}{a:List (Nat×xd)}{e:List (String×x4)}(g:∀p∈d,Holds Tryz.prog cP p.1 p.2)(c:∀p∈a,eP Tryz.prog cP (p.1 / 2) p.2)(h:∀p∈e,kG Tryz.prog cP p.1 p.2)(j:Func){f:Nat}{A R:Ty}{b:A.den->Option R.den}(i:find yM f=some j:=by rfl)(k:j.body.isSome=true:=by kernel_rfl)
 (l:∀x,sem (tP d a e) 12 oR f A R x=b x:=by intro x;kernel_rfl):Holds Tryz.prog cP f ⟨A,R,b⟩:=A4 g c h i k l
theorem al{b:List (Nat×x4)}(c:∀p∈b,Holds Tryz.prog cP p.1 p.2)(e:Func){f:Nat}{A R:Ty}{a:A.den->Option R.den}(d:find yM f=some e:=by rfl)(g:e.body.isSome=true:=by kernel_rfl)
 (h:∀x,sem (tP b [] []) 12 oR f A R x=a x:=by intro x;kernel_rfl):Holds Tryz.prog cP f ⟨A,R,a⟩:=A4 c cF dy d g h
theorem qa{d:List (Nat×x4)}{a:List (Nat×xd)}{e:List (String×x4)}(g:∀p∈d,Holds Tryz.prog cP p.1 p.2)(c:∀p∈a,eP Tryz.prog cP (p.1 / 2) p.2)(h:∀p∈e,kG Tryz.prog cP p.1 p.2)(j:Func){f:Nat}{k:List Bool}{A:Ty}{U:OT}{R:Ty}{b:A.den×U.den->Option (R.den×U.den)}(i:find yM f=some j:=by rfl)(l:j.body.isSome=true:=by kernel_rfl)
 (m:∀x,Y9 (tP d a e) 12 oR f k A U R x=b x:=by intro x;kernel_rfl):eP Tryz.prog cP f ⟨k,A,U,R,b⟩:=Hp g c h i l m
abbrev ao:=Holds Tryz.prog cP
theorem bg:Holds Tryz.prog cP 142 ⟨u0,u0,aP⟩:=by
 refine mv (P:=Tryz.prog) (cx:=tP [] []) (bf:=[5]) (e:=.str) (tid:=28) (fn:=Tryz.f142) (s0:=λl=>(nM (λ_=>none) [.data (.slice .str) l]).put 2 (.data (.slice .str) ([]:List (.str:Ty).den))) mix (zy [] []) (eZ ak cF sJ dy) Tryz.func142 (by kernel_rfl)
  (by rfl) rfl (by decide) (by decide) rfl rfl rfl rfl rfl rfl (λl=>by rfl) (λl=>rfl) (λl=>rfl) (λl=>rfl) (λl=>by rfl) (λl a=>?_)
 have key:∀m:List (.str:Ty).den,fits (len m)=true->aj (fits<|plus (len ([]:List (.str:Ty).den))<|len m) (some ((app [] m,()):(Ty.pair (.slice .str) .unit).den)) none=some (m,()):=by
  intro m c;have e:plus (len ([]:List (.str:Ty).den)) (len m)=len m:=by simp[plus,len]
  rw[e,c];rfl
 exact w8 (b:=aj (fits<|plus (len ([]:List (.str:Ty).den))<|len (α:=(.str:Ty).den) l) (some ((app (α:=(.str:Ty).den) [] l,()):(Ty.pair (.slice .str) .unit).den)) none) (by rfl) (key l a)
theorem yP:ao 190 ⟨(.pair (.int .i64)<|.pair aaK .unit),U6,oI⟩:=al (ag bg ak) Tryz.f190
theorem A7:ao 91 ⟨wN,U6,j9⟩:=al (ag yP ak) Tryz.f91
theorem oa:ao 124 ⟨(.pair Xo eR),fO,gI⟩:=al (ag dO<|ag nH ak) Tryz.f124
theorem jB:ao 55 ⟨(.pair xU eR),fO,dU⟩:=al (ag A7<|ag oa ak) Tryz.f55
theorem Cz:ao 56 ⟨(.pair (.slice ss) eR),(.pair (.slice ss) qQ),jz⟩:=al (ag bg ak) Tryz.f56
theorem yQ:ao 336 ⟨(.pair .str Xq),eR,gu⟩:=al ak Tryz.f336
theorem pg:ao 337 ⟨(.pair .str Xq),eR,eK⟩:=al ak Tryz.f337
theorem qe:ao 338 ⟨eR,(.pair (.arr 256 .bool) dq),dh⟩:=al ak Tryz.f338
theorem eO:eP Tryz.prog cP 397 ⟨[true,false],Xq,(.pair (.ref 0<|.zL<|.arr 256 .bool) .unit),dq,cj⟩:=qa ak cF dy Tryz.f397
theorem xV:eP Tryz.prog cP 339 ⟨[false,true],eR,(.pair (.ref 0<|.zL<|.arr 256 .bool) .unit),eR,fR⟩:=qa ak (fQ eO cF) dy Tryz.f339
theorem oc:eP Tryz.prog cP 340 ⟨[false,true],eR,(.pair (.ref 0<|.zL<|.arr 256 .bool) .unit),eR,dB⟩:=qa ak (fQ eO cF) dy Tryz.f340
theorem qf:ao 267 ⟨Oq,eR,gZ⟩:=BI (ag yQ<|ag pg<|ag qe ak) (fQ xV<|fQ oc<|fQ eO cF) dy Tryz.f267
theorem zz:ao 185 ⟨eR,dq,lg⟩:=al (ag qf ak) Tryz.f185
theorem od:ao 85 ⟨u0,qQ,fy⟩:=al (ag bg<|ag zz ak) Tryz.f85
theorem vU:eP Tryz.prog cP 343 ⟨[true,false],dq,(.pair (.ref 0<|.zL afl) .unit),(.pair (.pair YH6 eR) dq),ep⟩:=qa ak cF dy Tryz.f343
theorem CA:ao 344 ⟨eR,dq,rf⟩:=al (ag qf ak) Tryz.f344
theorem zA:ao 437 ⟨.unit,(.pair (.arr 11 DR) .unit),kX⟩:=al ak Tryz.f437
theorem U7:ao 401 ⟨fO,eR,bQ⟩:=al (ag zA ak) Tryz.f401
theorem tc:ao 438 ⟨Oq,eR,ek⟩:=BI (ag pg<|ag qe ak) (fQ oc<|fQ eO cF) dy Tryz.f438
theorem DT:ao 439 ⟨eR,(.pair (.int .i64) dq),di⟩:=al ak Tryz.f439
theorem Jy:ao 402 ⟨eR,qQ,cU⟩:=al (ag tc<|ag DT ak) Tryz.f402
theorem R6:ao 403 ⟨eR,qQ,tl⟩:=al (ag zA ak) Tryz.f403
theorem Ot:ao 404 ⟨eR,(.pair .str dq),jw⟩:=al (ag jO<|ag tc ak) Tryz.f404
theorem U8:ao 440 ⟨DR,dq,kr⟩:=al ak Tryz.f440
theorem MQ:ao 441 ⟨fO,dq,mB⟩:=al (ag jO ak) Tryz.f441
theorem U9:ao 405 ⟨(.pair YH6 qQ),dq,oZ⟩:=al (ag U8<|ag MQ ak) Tryz.f405
theorem CB:ao 345 ⟨eR,(.pair YH6 qQ),eW⟩:=al (ag U7<|ag Jy<|ag R6<|ag Ot<|ag U9 ak) Tryz.f345
theorem MR:ao 346 ⟨qQ,qQ,uF⟩:=al ak Tryz.f346
theorem FD:eP Tryz.prog cP 269 ⟨[true],.unit,(.pair (.ref 0<|.zL afl) .unit),(.pair (.pair YH6 eR) dq),bE⟩:=qa (ag qf<|ag CA<|ag CB<|ag MR ak) (fQ vU cF) dy Tryz.f269
theorem Hq:eP Tryz.prog cP 270 ⟨[true],.unit,(.pair (.ref 0<|.zL afl) .unit),dq,gQ⟩:=qa ak cF dy Tryz.f270
theorem MS:ao 186 ⟨eR,(.pair U5 qQ),fv⟩:=BI (ag qf<|ag CA<|ag CB<|ag MR ak) (fQ FD<|fQ Hq<|fQ vU cF) dy Tryz.f186
theorem yR:ao 349 ⟨Oq,eR,tm⟩:=al ak Tryz.f349
theorem xW:ao 351 ⟨(.pair zK .unit),dq,qL⟩:=al (ag jo<|ag lR<|ag yR<|ag nZ ak) Tryz.f351
theorem Jz:ao 350 ⟨eR,dq,sD⟩:=al (ag xW ak) Tryz.f350
theorem Ou:ao 484 ⟨MP,tQ,Cp⟩:=al (ag jo<|ag wL<|ag dE ak) Tryz.f484
theorem qt:ao 482 ⟨(.pair eR tQ),tQ,qn⟩:=al (ag Ou ak) Tryz.f482
theorem td:ao 483 ⟨(.pair eR tQ),B2,s6⟩:=al ak Tryz.f483
theorem R7:ao 495 ⟨MP,tQ,E7⟩:=al (ag jo<|ag wL<|ag dE ak) Tryz.f495
theorem ph:ao 493 ⟨(.pair eR tQ),tQ,pc⟩:=al (ag R7 ak) Tryz.f493
theorem qu:ao 494 ⟨(.pair eR tQ),B2,qo⟩:=al ak Tryz.f494
theorem qv:ao 497 ⟨(.pair .unit tQ),tQ,qp⟩:=al ak Tryz.f497
theorem te:ao 498 ⟨(.pair .unit tQ),B2,s7⟩:=al ak Tryz.f498
theorem qw:ao 499 ⟨(.pair (.pair zK .unit) tQ),tQ,qq⟩:=al ak Tryz.f499
theorem Va:ao 501 ⟨MP,(.pair zK dq),Ib⟩:=al (ag jo<|ag yO ak) Tryz.f501
theorem tf:ao 500 ⟨(.pair (.pair zK .unit) tQ),B2,s9⟩:=al (ag lR<|ag yR<|ag nZ<|ag Va<|ag Xn ak) Tryz.f500
theorem MT:ao 271 ⟨(.pair (.pair YH6 eR) .unit),(.pair aaL dq),Aw⟩:=al (ag lR<|ag Cy<|ag FC<|ag yR<|ag Jz<|ag xW<|ag qt<|ag td<|ag ph<|ag qu<|ag qv<|ag te<|ag qw<|ag tf ak) Tryz.f271
theorem zB:ao 187 ⟨(.pair U5 .unit),(.pair (.slice aaL) dq),sE⟩:=al (ag MT ak) Tryz.f187
theorem JA:ao 87 ⟨eR,qQ,zq⟩:=al (ag MS<|ag zB ak) Tryz.f87
theorem R8:ao 188 ⟨(.pair Xo eR),qQ,tn⟩:=al ak Tryz.f188
theorem tS:ao 90 ⟨(.pair Xo<|.pair .str u0),qQ,je⟩:=al (ag dO<|ag od<|ag R8 ak) Tryz.f90
theorem yS:ao 198 ⟨eR,eR,mX⟩:=al ak Tryz.f198
theorem Vb:ao 191 ⟨qQ,eR,vF⟩:=al (ag yS ak) Tryz.f191
theorem u5:ao 93 ⟨(.pair Xo qQ),fO,hW⟩:=al (ag Vb ak) Tryz.f93
theorem zC:ao 148 ⟨(.pair ss .unit),eR,sH⟩:=al ak Tryz.f148
theorem wO:ao 149 ⟨wN,u0,lO⟩:=al ak Tryz.f149
theorem rI:ao 67 ⟨(.pair xU eR),(.pair ss<|.pair .str dq),gL⟩:=al (ag bg<|ag zC<|ag wO ak) Tryz.f67
theorem Ov:kG Tryz.prog cP "cooperage/overlay.clears" ⟨(.pair aaL tQ),tQ,E9⟩:=(mu qt (λv w=>by kernel_rfl) rfl (mu ph (λv w=>by kernel_rfl) rfl (mu qv (λv w=>by kernel_rfl) rfl (mu qw (λv w=>by kernel_rfl) rfl KX))))
theorem Vc:kG Tryz.prog cP "cooperage/overlay.puts" ⟨(.pair aaL tQ),B2,LX⟩:=(mu td (λv w=>by kernel_rfl) rfl (mu qu (λv w=>by kernel_rfl) rfl (mu te (λv w=>by kernel_rfl) rfl (mu tf (λv w=>by kernel_rfl) rfl KX))))
theorem Ow:ao 195 ⟨(.pair (.slice zK)<|.pair U5 .unit),B2,Cq⟩:=BI (ag zB<|ag jo ak) cF (TR Ov<|TR Vc dy) Tryz.f195
theorem zD:ao 97 ⟨MP,B2,sF⟩:=al (ag MS<|ag jo<|ag Ow ak) Tryz.f97
theorem Ox:ao 214 ⟨u0,B2,wz⟩:=al (ag zD ak) Tryz.f214
theorem FE:ao 105 ⟨(.pair xU eR),B2,yB⟩:=al (ag rI<|ag bg<|ag Ox ak) Tryz.f105
theorem A8:ao 96 ⟨(.pair xU eR),B2,uR⟩:=al (ag FE ak) Tryz.f96
theorem mO:ao 98 ⟨qQ,(.pair Jw .unit),dR⟩:=al ak Tryz.f98
theorem Hr:Holds Tryz.prog cP 196 ⟨fO,eR,mV⟩:=NT (spec:=fq) Tryz.func196 (by kernel_rfl) (by kernel_rfl) (λ_ _ _ h=>Al h) (λs c w y e f a=>by
 obtain⟨b,d,rfl⟩:=ql a;have g:(IntKind.i64).max=9223372036854775807:=by decide
 obtain⟨n,rfl⟩:=aa3 b;exact Tryz.strings_Repeat s n w (by omega) d)
theorem Oy:ao 99 ⟨.unit,eR,rD⟩:=al (ag Hr ak) Tryz.f99
theorem A9:ao 415 ⟨.unit,adQ,rY⟩:=al ak Tryz.f415
theorem Ba:ao 416 ⟨.unit,(.pair (.arr 64<|.int .u32) .unit),Am⟩:=al ak Tryz.f416
theorem wP:ao 446 ⟨(.pair (.int .u32) qQ),(.pair (.int .u32) .unit),jv⟩:=al ak Tryz.f446
theorem vV:ao 418 ⟨(.pair (.int .u32) qQ),(.pair (.int .u32) .unit),bZ⟩:=al (ag wP ak) Tryz.f418
theorem u6:ao 417 ⟨(.pair (.arr 64<|.int .u8) .unit),(.pair (.arr 64<|.int .u32) .unit),pK⟩:=al (ag vV ak) Tryz.f417
theorem xX:eP Tryz.prog cP 282 ⟨[true,false],eR,(.pair (.ref 0<|.zL agO) .unit),.unit,ft⟩:=qa (ag A9<|ag Ba<|ag u6<|ag vV ak) cF dy Tryz.f282
theorem Hs:eP Tryz.prog cP 283 ⟨[true],.unit,(.pair (.ref 0<|.zL agO) .unit),(.pair (.arr 32<|.int .u8) .unit),mW⟩:=qa (ag A9<|ag Ba<|ag u6<|ag vV ak) (fQ xX cF) dy Tryz.f283
theorem aaO:ao 197 ⟨eR,(.pair (.arr 32<|.int .u8) .unit),Bw⟩:=BI (ag A9<|ag Ba<|ag u6<|ag vV ak) (fQ xX<|fQ Hs cF) dy Tryz.f197
theorem Ip:ao 100 ⟨eR,eR,oY⟩:=al (ag aaO<|ag yS ak) Tryz.f100
theorem B3:ao 201 ⟨(.pair (.slice .str) aaN),u0,jL⟩:=al (ag bg ak) Tryz.f201
theorem cu:Holds Tryz.prog cP 63 ⟨R5,R5,bt⟩:=by
 refine mv (P:=Tryz.prog) (cx:=tP [] []) (bf:=[5]) (e:=ss) (tid:=27) (fn:=Tryz.f63) (s0:=λl=>(nM (λ_=>none) [.data (.slice ss) l]).put 2 (.data (.slice ss) ([]:List (ss:Ty).den))) mix (zy [] []) (eZ ak cF sJ dy) Tryz.func63 (by kernel_rfl)
  (by rfl) rfl (by decide) (by decide) rfl rfl rfl rfl rfl rfl (λl=>by rfl) (λl=>rfl) (λl=>rfl) (λl=>rfl) (λl=>by rfl) (λl a=>?_)
 have key:∀m:List (ss:Ty).den,fits (len m)=true->aj (fits<|plus (len ([]:List (ss:Ty).den))<|len m) (some ((app [] m,()):(Ty.pair (.slice ss) .unit).den)) none=some (m,()):=by
  intro m c;have e:plus (len ([]:List (ss:Ty).den)) (len m)=len m:=by simp[plus,len]
  rw[e,c];rfl
 exact w8 (b:=aj (fits<|plus (len ([]:List (ss:Ty).den))<|len (α:=(ss:Ty).den) l) (some ((app (α:=(ss:Ty).den) [] l,()):(Ty.pair (.slice ss) .unit).den)) none) (by rfl) (key l a)
theorem yT:ao 202 ⟨(.pair (.slice ss)<|.pair (.int .i64)<|.pair ss .unit),R5,gz⟩:=al (ag cu ak) Tryz.f202
theorem R9:ao 101 ⟨(.pair xU<|.pair ss eR),wN,p4⟩:=al (ag wO<|ag B3<|ag yT ak) Tryz.f101
theorem zE:ao 34 ⟨agP,Jx,lr⟩:=al (ag jB<|ag Cz<|ag od<|ag JA<|ag tS<|ag A7<|ag u5<|ag A8<|ag zD<|ag mO<|ag Oy<|ag Ip<|ag R9 ak) Tryz.f34
theorem FF:ao 102 ⟨(.pair xU eR),dq,tG⟩:=al ak Tryz.f102
theorem JB:ao 209 ⟨(.pair fO .unit),eR,zr⟩:=al ak Tryz.f209
theorem u7:ao 103 ⟨(.pair xU eR),qQ,mL⟩:=al (ag JB ak) Tryz.f103
theorem yU:ao 210 ⟨(.pair (.slice .str) qQ),u0,p5⟩:=al (ag bg ak) Tryz.f210
theorem vj:ao 211 ⟨(.pair (.slice ss) qQ),R5,nz⟩:=al (ag cu ak) Tryz.f211
theorem dt:Holds Tryz.prog cP 62 ⟨aaM,aaM,bK⟩:=by
 refine mv (P:=Tryz.prog) (cx:=tP [] []) (bf:=[5]) (e:=fO) (tid:=29) (fn:=Tryz.f62) (s0:=λl=>(nM (λ_=>none) [.data (.slice fO) l]).put 2 (.data (.slice fO) ([]:List (fO:Ty).den))) mix (zy [] []) (eZ ak cF sJ dy) Tryz.func62 (by kernel_rfl)
  (by rfl) rfl (by decide) (by decide) rfl rfl rfl rfl rfl rfl (λl=>by rfl) (λl=>rfl) (λl=>rfl) (λl=>rfl) (λl=>by rfl) (λl a=>?_)
 have key:∀m:List (fO:Ty).den,fits (len m)=true->aj (fits<|plus (len ([]:List (fO:Ty).den))<|len m) (some ((app [] m,()):(Ty.pair (.slice fO) .unit).den)) none=some (m,()):=by
  intro m c;have e:plus (len ([]:List (fO:Ty).den)) (len m)=len m:=by simp[plus,len]
  rw[e,c];rfl
 exact w8 (b:=aj (fits<|plus (len ([]:List (fO:Ty).den))<|len (α:=(fO:Ty).den) l) (some ((app (α:=(fO:Ty).den) [] l,()):(Ty.pair (.slice fO) .unit).den)) none) (by rfl) (key l a)
theorem yV:ao 295 ⟨(.pair (.slice fO)<|.pair (.int .i64)<|.pair fO .unit),aaM,dn⟩:=al (ag dt ak) Tryz.f295
theorem CC:ao 212 ⟨(.pair xU fO),wN,wB⟩:=al (ag dt<|ag yV ak) Tryz.f212
theorem zF:ao 104 ⟨(.pair xU eR),wN,ow⟩:=al (ag zC<|ag wO<|ag yU<|ag vj<|ag CC ak) Tryz.f104
theorem JC:ao 35 ⟨(.pair xU eR),Jx,zt⟩:=al (ag jB<|ag mO<|ag FF<|ag u7<|ag zF ak) Tryz.f35
theorem Oz:ao 36 ⟨(.pair xU eR),(.pair Jw .unit),Cu⟩:=al (ag jB<|ag rI<|ag mO ak) Tryz.f36
theorem JD:ao 106 ⟨(.pair (.slice zK) tQ),(.pair (.slice aaN) qQ),zp⟩:=al (ag jo<|ag sL ak) Tryz.f106
theorem Sa:ao 107 ⟨(.pair (.slice aaN) .unit),eR,E8⟩:=al (ag yS ak) Tryz.f107
theorem Ht:ao 37 ⟨(.pair xU eR),(.pair Jw .unit),xN⟩:=al (ag jB<|ag rI<|ag A8<|ag mO<|ag FE<|ag JD<|ag Sa ak) Tryz.f37
theorem xY:ao 108 ⟨(.pair xU fO),Jx,qN⟩:=al (ag jB<|ag mO<|ag u7<|ag CC ak) Tryz.f108
theorem MU:ao 38 ⟨(.pair xU eR),Jx,AE⟩:=al (ag xY ak) Tryz.f38
theorem Hu:ao 39 ⟨(.pair xU eR),Jx,xK⟩:=al (ag xY ak) Tryz.f39
theorem Bb:ao 109 ⟨qQ,(.pair Jw .unit),j8⟩:=al ak Tryz.f109
theorem Bc:ao 110 ⟨wN,U6,pP⟩:=al (ag yP ak) Tryz.f110
theorem du:Holds Tryz.prog cP 61 ⟨adS,adS,bJ⟩:=by
 refine mv (P:=Tryz.prog) (cx:=tP [] []) (bf:=[5]) (e:=wM) (tid:=26) (fn:=Tryz.f61) (s0:=λl=>(nM (λ_=>none) [.data (.slice wM) l]).put 2 (.data (.slice wM) ([]:List (wM:Ty).den))) mix (zy [] []) (eZ ak cF sJ dy) Tryz.func61 (by kernel_rfl)
  (by rfl) rfl (by decide) (by decide) rfl rfl rfl rfl rfl rfl (λl=>by rfl) (λl=>rfl) (λl=>rfl) (λl=>rfl) (λl=>by rfl) (λl a=>?_)
 have key:∀m:List (wM:Ty).den,fits (len m)=true->aj (fits<|plus (len ([]:List (wM:Ty).den))<|len m) (some ((app [] m,()):(Ty.pair (.slice wM) .unit).den)) none=some (m,()):=by
  intro m c;have e:plus (len ([]:List (wM:Ty).den)) (len m)=len m:=by simp[plus,len]
  rw[e,c];rfl
 exact w8 (b:=aj (fits<|plus (len ([]:List (wM:Ty).den))<|len (α:=(wM:Ty).den) l) (some ((app (α:=(wM:Ty).den) [] l,()):(Ty.pair (.slice wM) .unit).den)) none) (by rfl) (key l a)
theorem Iq:ao 116 ⟨(.pair wM .unit),eR,jh⟩:=al ak Tryz.f116
theorem cO:Holds Tryz.prog cP 222 ⟨Xp,Xp,b8⟩:=by
 refine mv (P:=Tryz.prog) (cx:=tP [] []) (bf:=[5]) (e:=jG) (tid:=67) (fn:=Tryz.f222) (s0:=λl=>(nM (λ_=>none) [.data (.slice jG) l]).put 2 (.data (.slice jG) ([]:List (jG:Ty).den))) mix (zy [] []) (eZ ak cF sJ dy) Tryz.func222 (by kernel_rfl)
  (by rfl) rfl (by decide) (by decide) rfl rfl rfl rfl rfl rfl (λl=>by rfl) (λl=>rfl) (λl=>rfl) (λl=>rfl) (λl=>by rfl) (λl a=>?_)
 have key:∀m:List (jG:Ty).den,fits (len m)=true->aj (fits<|plus (len ([]:List (jG:Ty).den))<|len m) (some ((app [] m,()):(Ty.pair (.slice jG) .unit).den)) none=some (m,()):=by
  intro m c;have e:plus (len ([]:List (jG:Ty).den)) (len m)=len m:=by simp[plus,len]
  rw[e,c];rfl
 exact w8 (b:=aj (fits<|plus (len ([]:List (jG:Ty).den))<|len (α:=(jG:Ty).den) l) (some ((app (α:=(jG:Ty).den) [] l,()):(Ty.pair (.slice jG) .unit).den)) none) (by rfl) (key l a)
theorem yW:ao 111 ⟨(.pair xU<|.pair wM .unit),wN,tu⟩:=al (ag du<|ag Iq<|ag bg<|ag cO ak) Tryz.f111
theorem JE:ao 40 ⟨agP,Jx,zm⟩:=al (ag jB<|ag od<|ag tS<|ag u5<|ag Bb<|ag Bc<|ag yW ak) Tryz.f40
theorem CD:ao 112 ⟨(.pair xU eR),fO,rv⟩:=al (ag Bc<|ag oa ak) Tryz.f112
theorem JF:ao 41 ⟨(.pair xU eR),Jx,zn⟩:=al (ag du<|ag Bb<|ag CD<|ag Iq ak) Tryz.f41
theorem CE:ao 117 ⟨qQ,(.pair Jw .unit),jA⟩:=al ak Tryz.f117
theorem CF:ao 118 ⟨wN,U6,nV⟩:=al (ag yP ak) Tryz.f118
theorem yX:ao 119 ⟨(.pair xU eR),(.pair wM dq),pQ⟩:=al (ag bg<|ag cO ak) Tryz.f119
theorem eg:Holds Tryz.prog cP 60 ⟨adR,adR,cZ⟩:=by
 refine mv (P:=Tryz.prog) (cx:=tP [] []) (bf:=[5]) (e:=wW) (tid:=25) (fn:=Tryz.f60) (s0:=λl=>(nM (λ_=>none) [.data (.slice wW) l]).put 2 (.data (.slice wW) ([]:List (wW:Ty).den))) mix (zy [] []) (eZ ak cF sJ dy) Tryz.func60 (by kernel_rfl)
  (by rfl) rfl (by decide) (by decide) rfl rfl rfl rfl rfl rfl (λl=>by rfl) (λl=>rfl) (λl=>rfl) (λl=>rfl) (λl=>by rfl) (λl a=>?_)
 have key:∀m:List (wW:Ty).den,fits (len m)=true->aj (fits<|plus (len ([]:List (wW:Ty).den))<|len m) (some ((app [] m,()):(Ty.pair (.slice wW) .unit).den)) none=some (m,()):=by
  intro m c;have e:plus (len ([]:List (wW:Ty).den)) (len m)=len m:=by simp[plus,len]
  rw[e,c];rfl
 exact w8 (b:=aj (fits<|plus (len ([]:List (wW:Ty).den))<|len (α:=(wW:Ty).den) l) (some ((app (α:=(wW:Ty).den) [] l,()):(Ty.pair (.slice wW) .unit).den)) none) (by rfl) (key l a)
theorem Bd:ao 120 ⟨(.pair xU<|.pair wW .unit),wN,sk⟩:=al (ag eg<|ag bg<|ag cO ak) Tryz.f120
theorem MV:ao 42 ⟨agP,Jx,p8⟩:=al (ag zE<|ag od<|ag tS<|ag u5<|ag CD<|ag CE<|ag CF<|ag yX<|ag Bd ak) Tryz.f42
theorem Sc:ao 121 ⟨(.pair xU eR),fO,Fq⟩:=al (ag CF<|ag oa ak) Tryz.f121
theorem Be:ao 122 ⟨(.pair xU eR),(.pair wW dq),vP⟩:=al (ag bg<|ag cO ak) Tryz.f122
theorem MW:ao 43 ⟨(.pair xU eR),Jx,A1⟩:=al (ag eg<|ag FF<|ag u7<|ag zF<|ag CE<|ag Sc<|ag Be ak) Tryz.f43
theorem yY:ao 141 ⟨(.pair Oo qQ),qQ,gB⟩:=al ak Tryz.f141
theorem fl:ao 54 ⟨(.pair Oo qQ),dq,cI⟩:=al (ag yY ak) Tryz.f54
theorem Xr:ao 53 ⟨(.pair YH8<|.pair Oo .unit),(.pair Oo .unit),uY⟩:=al (ag fl ak) Tryz.f53
theorem oe:ao 18 ⟨(.pair YH8 .unit),(.pair Oo .unit),fB⟩:=al (ag Xr ak) Tryz.f18
theorem wQ:ao 46 ⟨qQ,(.pair Jw .unit),eB⟩:=al ak Tryz.f46
theorem CG:ao 125 ⟨(.pair xU qQ),U6,wF⟩:=al (ag yP ak) Tryz.f125
theorem FG:ao 238 ⟨(.pair jG .unit),eR,dm⟩:=al ak Tryz.f238
theorem Hv:ao 127 ⟨(.pair (.slice jG) eR),fO,qJ⟩:=al (ag FG ak) Tryz.f127
theorem Hw:ao 128 ⟨(.pair (.slice jG) Oq),(.pair (.slice jG) qQ),qI⟩:=al (ag Ip<|ag zz<|ag cO<|ag FG ak) Tryz.f128
theorem Sd:ao 44 ⟨U4,Jx,Ft⟩:=al (ag oe<|ag wQ<|ag fl<|ag yW<|ag yX<|ag Bd<|ag Be<|ag oa<|ag CG<|ag Hv<|ag Hw ak) Tryz.f44
theorem OA:ao 129 ⟨U6,eR,Cx⟩:=al (ag A5 ak) Tryz.f129
theorem JG:ao 130 ⟨(.pair xU<|.pair (.int .i64)<|.pair .str u0),wN,zv⟩:=al (ag cu<|ag yW<|ag yX<|ag Bd<|ag Be<|ag bg ak) Tryz.f130
theorem MX:ao 45 ⟨U4,Jx,A2⟩:=al (ag oe<|ag wQ<|ag fl<|ag od<|ag tS<|ag oa<|ag CG<|ag OA<|ag JG ak) Tryz.f45
theorem Xs:ao 13 ⟨U4,Jx,eH⟩:=al (ag zE<|ag JC<|ag Oz<|ag Ht<|ag MU<|ag Hu<|ag JE<|ag JF<|ag MV<|ag MW<|ag Sd<|ag MX<|ag wQ ak) Tryz.f13
theorem Vd:ao 9 ⟨(.pair xU<|.pair (.slice YH8) .unit),(.pair xU<|.pair (.slice Jw) .unit),vQ⟩:=al (ag Xs ak) Tryz.f9
theorem B4:ao 12 ⟨(.pair (.slice Jw)<|.pair (.slice Jw) .unit),dq,jM⟩:=al ak Tryz.f12
theorem CH:ao 312 ⟨qQ,Xq,lJ⟩:=al ak Tryz.f312
theorem OB:ao 375 ⟨Xq,qQ,nQ⟩:=al (ag CH ak) Tryz.f375
theorem CI:ao 308 ⟨eR,(.pair .str dq),nR⟩:=al (ag OB ak) Tryz.f308
theorem yZ:ao 242 ⟨eR,dq,jj⟩:=al (ag CI ak) Tryz.f242
theorem Bf:ao 263 ⟨eR,dq,uH⟩:=al ak Tryz.f263
theorem wR:ao 243 ⟨u0,dq,rm⟩:=al (ag Bf ak) Tryz.f243
theorem OC:ao 244 ⟨eR,qQ,eV⟩:=al (ag CI ak) Tryz.f244
theorem OD:ao 131 ⟨(.pair ss .unit),dq,lN⟩:=al (ag yZ<|ag wR<|ag OC ak) Tryz.f131
theorem OE:ao 309 ⟨.unit,adQ,wo⟩:=al ak Tryz.f309
theorem OG:ao 310 ⟨eR,eR,rb⟩:=al ak Tryz.f310
theorem Se:ao 376 ⟨(.pair (.int .u32) qQ),(.pair (.int .u32) .unit),bP⟩:=al ak Tryz.f376
theorem MY:ao 377 ⟨.unit,(.pair (.arr 64<|.int .u32) .unit),uE⟩:=al ak Tryz.f377
theorem OH:ao 311 ⟨(.pair (.arr 8<|.int .u32) eR),adQ,re⟩:=al (ag Se<|ag MY ak) Tryz.f311
theorem Ve:ao 246 ⟨eR,(.pair (.arr 32<|.int .u8) .unit),vy⟩:=al (ag OE<|ag OG<|ag OH ak) Tryz.f246
theorem Vf:ao 247 ⟨eR,eR,vz⟩:=al (ag CH ak) Tryz.f247
theorem MZ:ao 136 ⟨eR,eR,qG⟩:=al (ag Ve<|ag Vf ak) Tryz.f136
theorem CJ:ao 245 ⟨Xp,dq,wy⟩:=al (ag MZ<|ag Bf ak) Tryz.f245
theorem OI:ao 132 ⟨(.pair wM .unit),dq,Cr⟩:=al (ag yZ<|ag wR<|ag CJ ak) Tryz.f132
theorem Vg:ao 133 ⟨(.pair wW .unit),dq,Ig⟩:=al (ag yZ<|ag wR<|ag CJ ak) Tryz.f133
theorem OJ:ao 134 ⟨(.pair aaK .unit),(.pair (.slice .str) u0),Ct⟩:=al ak Tryz.f134
theorem OK:ao 47 ⟨(.pair (.int .i64)<|.pair aaK .unit),qQ,gJ⟩:=al (ag OD<|ag OI<|ag Vg<|ag OJ ak) Tryz.f47
theorem Sf:ao 145 ⟨(.pair (.slice ss) eR),qQ,yA⟩:=al ak Tryz.f145
theorem wS:ao 58 ⟨(.pair (.slice ss) eR),(.pair (.slice ss) qQ),gK⟩:=al (ag Sf ak) Tryz.f58
theorem OL:ao 135 ⟨R5,qQ,wA⟩:=al (ag wS ak) Tryz.f135
theorem Sg:ao 378 ⟨eR,dq,tB⟩:=al ak Tryz.f378
theorem Si:ao 379 ⟨eR,dq,tC⟩:=al ak Tryz.f379
theorem FH:ao 451 ⟨eR,(.pair (.int .i64) dq),l4⟩:=al ak Tryz.f451
theorem M0:ao 426 ⟨eR,qQ,fa⟩:=al (ag FH ak) Tryz.f426
theorem Vh:ao 427 ⟨eR,qQ,vA⟩:=al ak Tryz.f427
theorem Sj:ao 428 ⟨eR,(.pair .str dq),nk⟩:=al ak Tryz.f428
theorem OM:ao 452 ⟨fO,dq,lK⟩:=al ak Tryz.f452
theorem Xt:ao 453 ⟨DR,dq,oG⟩:=al ak Tryz.f453
theorem Vi:ao 429 ⟨(.pair YH6 qQ),dq,rZ⟩:=al (ag OM<|ag Xt ak) Tryz.f429
theorem Sk:ao 380 ⟨eR,(.pair YH6 qQ),np⟩:=al (ag M0<|ag Vh<|ag Sj<|ag Vi ak) Tryz.f380
theorem ON:ao 381 ⟨qQ,qQ,lL⟩:=al ak Tryz.f381
theorem OO:ao 313 ⟨eR,(.pair U5 dq),rA⟩:=al (ag Sg<|ag Si<|ag Sk<|ag ON ak) Tryz.f313
theorem FI:ao 248 ⟨eR,(.pair U5 qQ),kK⟩:=al (ag OO ak) Tryz.f248
theorem jC:ao 386 ⟨eR,u0,dT⟩:=al ak Tryz.f386
theorem FJ:ao 387 ⟨u0,eR,mY⟩:=al ak Tryz.f387
theorem rJ:ao 315 ⟨eR,Oq,jy⟩:=al (ag jC<|ag FJ ak) Tryz.f315
theorem M3:ao 430 ⟨Oq,dq,mD⟩:=al ak Tryz.f430
theorem FK:ao 383 ⟨eR,aaN,pM⟩:=al (ag M3 ak) Tryz.f383
theorem M5:ao 431 ⟨eR,dq,pL⟩:=al ak Tryz.f431
theorem M6:ao 388 ⟨eR,dq,uG⟩:=al (ag jC<|ag M5 ak) Tryz.f388
theorem M7:ao 389 ⟨eR,dq,pR⟩:=al ak Tryz.f389
theorem vW:ao 316 ⟨(.pair zK .unit),dq,ku⟩:=al (ag rJ<|ag FK<|ag M6<|ag M7 ak) Tryz.f316
theorem FL:ao 323 ⟨(.pair (.pair YH6 eR) eR),(.pair zK .unit),pT⟩:=al ak Tryz.f323
theorem OP:ao 382 ⟨eR,fO,rh⟩:=al (ag jC<|ag FJ<|ag M6 ak) Tryz.f382
theorem y3:ao 384 ⟨Oq,eR,mZ⟩:=al ak Tryz.f384
theorem M8:ao 385 ⟨eR,dq,kb⟩:=al (ag vW<|ag y3<|ag jC ak) Tryz.f385
theorem FM:ao 314 ⟨(.pair (.pair YH6 eR) .unit),(.pair (.int .i64)<|.pair .str dq),ni⟩:=al (ag rJ<|ag vW<|ag FL<|ag OP<|ag FK<|ag y3<|ag M8 ak) Tryz.f314
theorem CK:ao 249 ⟨(.pair U5 .unit),dq,nU⟩:=al (ag FM ak) Tryz.f249
theorem CL:ao 137 ⟨eR,qQ,lM⟩:=al (ag FI<|ag CK ak) Tryz.f137
theorem y4:ao 49 ⟨(.pair xU eR),qQ,kL⟩:=al ak Tryz.f49
theorem FN:ao 150 ⟨(.pair xU qQ),eR,pX⟩:=al ak Tryz.f150
theorem y5:ao 324 ⟨MP,qQ,gx⟩:=al ak Tryz.f324
theorem Ir:ao 317 ⟨MP,dq,mG⟩:=al (ag y5 ak) Tryz.f317
theorem zG:ao 318 ⟨Oq,qQ,lf⟩:=al (ag jC ak) Tryz.f318
theorem qT:ao 257 ⟨tQ,dq,kJ⟩:=al (ag rJ<|ag vW<|ag Ir<|ag zG ak) Tryz.f257
theorem OQ:ao 432 ⟨Oq,dq,ri⟩:=al (ag jC ak) Tryz.f432
theorem sO:ao 390 ⟨(.pair (.slice zK)<|.pair .str dq),tQ,iJ⟩:=al (ag OQ ak) Tryz.f390
theorem M9:ao 319 ⟨MP,tQ,pS⟩:=al (ag qT<|ag sO ak) Tryz.f319
theorem OR:ao 320 ⟨MP,tQ,rz⟩:=al (ag qT<|ag sO ak) Tryz.f320
theorem Sl:ao 259 ⟨MP,(.pair zK dq),tw⟩:=al (ag qT<|ag y5 ak) Tryz.f259
theorem Is:ao 322 ⟨(.pair (.slice zK)<|.pair zK .unit),B2,mH⟩:=al (ag qT<|ag rJ<|ag vW<|ag Ir<|ag zG<|ag y5<|ag sO ak) Tryz.f322
theorem Sn:ao 321 ⟨MP,B2,tz⟩:=al (ag Sl<|ag Is<|ag y3<|ag jC ak) Tryz.f321
theorem Vj:ao 258 ⟨(.pair (.slice zK)<|.pair U5 .unit),B2,vH⟩:=al (ag CK<|ag qT<|ag FM<|ag M9<|ag OR<|ag Sn<|ag Is<|ag FL ak) Tryz.f258
theorem OS:ao 156 ⟨MP,B2,rB⟩:=al (ag CL<|ag FI<|ag qT<|ag Vj ak) Tryz.f156
theorem Vk:ao 250 ⟨u0,B2,vK⟩:=al (ag OS ak) Tryz.f250
theorem Sp:ao 138 ⟨(.pair xU eR),B2,kM⟩:=al (ag y4<|ag wS<|ag FN<|ag Vk ak) Tryz.f138
theorem Na:ao 48 ⟨wN,dq,mK⟩:=al (ag OL<|ag MZ<|ag CL<|ag Sp ak) Tryz.f48
theorem Vl:ao 14 ⟨wN,dq,sg⟩:=al (ag OK<|ag Na<|ag y4 ak) Tryz.f14
theorem xZ:ao 17 ⟨(.pair Oo<|.pair Oo .unit),dq,gT⟩:=al ak Tryz.f17
theorem OU:ao 8 ⟨.unit,dq,lP⟩:=al (ag Vd<|ag B4<|ag Vl<|ag xZ<|ag oe ak) Tryz.f8
theorem jq:ao 22 ⟨(.pair (.slice .str) u0),dq,dH⟩:=al ak Tryz.f22
theorem vX:ao 82 ⟨(.pair (.slice jG) Xp),dq,fU⟩:=al ak Tryz.f82
theorem FO:ao 30 ⟨(.pair (.slice wW) adR),dq,l6⟩:=al (ag jq<|ag vX ak) Tryz.f30
theorem DU:ao 31 ⟨(.pair (.slice wM) adS),dq,kN⟩:=al (ag jq<|ag vX ak) Tryz.f31
theorem DV:ao 32 ⟨(.pair (.slice ss) R5),dq,kO⟩:=al (ag jq ak) Tryz.f32
theorem DW:ao 33 ⟨(.pair (.slice fO) aaM),dq,kP⟩:=al ak Tryz.f33
theorem Sq:ao 11 ⟨(.pair xU wN),dq,pZ⟩:=al (ag jq<|ag FO<|ag DU<|ag DV<|ag DW ak) Tryz.f11
theorem Vm:ao 139 ⟨u0,dq,ks⟩:=al ak Tryz.f139
theorem Hy:ao 140 ⟨Xp,dq,ed⟩:=al ak Tryz.f140
theorem Vn:ao 50 ⟨(.pair aaK .unit),dq,pa⟩:=al (ag Vm<|ag Hy ak) Tryz.f50
theorem Vo:ao 51 ⟨R5,dq,vJ⟩:=al ak Tryz.f51
theorem Vp:ao 15 ⟨wN,dq,sf⟩:=al (ag Vn<|ag Vo ak) Tryz.f15
theorem Hz:ao 52 ⟨u0,dq,na⟩:=al ak Tryz.f52
theorem OV:ao 16 ⟨(.pair YH8 .unit),dq,rG⟩:=al (ag Hz ak) Tryz.f16
theorem wT:ao 19 ⟨(.pair YH8 .unit),(.pair Oo .unit),lQ⟩:=al ak Tryz.f19
theorem sP:ao 20 ⟨(.pair YH8 .unit),dq,iN⟩:=al (ag fl ak) Tryz.f20
theorem sQ:ao 21 ⟨(.pair YH8 .unit),dq,iO⟩:=al ak Tryz.f21
theorem CM:ao 23 ⟨U4,u0,nW⟩:=al (ag jB<|ag Cz ak) Tryz.f23
theorem Nb:ao 251 ⟨Oq,dq,uS⟩:=al ak Tryz.f251
theorem Sr:ao 143 ⟨(.pair Xo eR),fO,tH⟩:=al (ag Nb ak) Tryz.f143
theorem Xu:ao 252 ⟨(.pair (.int .i64)<|.pair aaK .unit),U6,yr⟩:=al ak Tryz.f252
theorem OW:ao 144 ⟨wN,U6,wC⟩:=al (ag Xu ak) Tryz.f144
theorem Ss:ao 57 ⟨(.pair xU eR),fO,tI⟩:=al (ag Sr<|ag OW ak) Tryz.f57
theorem CN:ao 24 ⟨U4,u0,nX⟩:=al (ag Ss<|ag wS ak) Tryz.f24
theorem Bg:ao 59 ⟨(.pair YH8 .unit),(.pair (.arr 4 .bool) .unit),kk⟩:=al (ag oe ak) Tryz.f59
theorem Su:ao 25 ⟨U4,wN,tK⟩:=al (ag sP<|ag CM<|ag Bg<|ag eg<|ag du<|ag dt<|ag cu<|ag dO ak) Tryz.f25
theorem Iu:ao 65 ⟨(.pair Oo qQ),dq,jl⟩:=al ak Tryz.f65
theorem Xv:ao 66 ⟨(.pair (.slice .str) eR),dq,yK⟩:=al ak Tryz.f66
theorem Sv:ao 26 ⟨U4,wN,tL⟩:=al (ag wT<|ag sQ<|ag CN<|ag Iu<|ag Xv ak) Tryz.f26
theorem Sw:ao 27 ⟨(.pair xU<|.pair YH8 wN),wN,tM⟩:=al (ag sP<|ag Bg<|ag eg<|ag du<|ag dt<|ag cu<|ag rI ak) Tryz.f27
theorem OX:ao 68 ⟨(.pair xU eR),(.pair ss<|.pair .str dq),rE⟩:=al (ag y4<|ag FN ak) Tryz.f68
theorem Sx:ao 28 ⟨(.pair xU<|.pair YH8 wN),wN,tN⟩:=al (ag wT<|ag sQ<|ag Iu<|ag OX ak) Tryz.f28
theorem DX:ao 4 ⟨(.pair xU U4),dq,ic⟩:=al (ag OU<|ag Sq<|ag Vp<|ag OV<|ag xZ<|ag oe<|ag wT<|ag sP<|ag sQ<|ag jq<|ag CM<|ag CN<|ag Su<|ag Sv<|ag Sw<|ag Sx ak) Tryz.f4
end Go.Proofs.YtcebnmppipejfaaGreatDoor
