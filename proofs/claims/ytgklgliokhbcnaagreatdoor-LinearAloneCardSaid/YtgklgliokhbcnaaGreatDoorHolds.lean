import Derived.Test.YtgklgliokhbcnaaGreatDoorPlI
import Derived.Test.YtgklgliokhbcnaaGreatDoorBld
import Derived.Test.YtgklgliokhbcnaaGreatDoorShelf
set_option linter.unusedVariables false
set_option linter.unusedSectionVars false
set_option linter.defProp false
set_option linter.unusedSimpArgs false
set_option linter.defProp false
open Option renaming some->aa,none->af
namespace Go.Proofs.YtgklgliokhbcnaaGreatDoor
open Go Go.Ge
set_option maxRecDepth 100000
variable [Lp]
def cy(s:List (Nat×Nat))(m:List Nat):Option Rm:=aa ⟨s,m,false⟩
def cz(s:List (Nat×Nat)):Option Rm:=aa ⟨s,[],false⟩
def fq(a:List (Option Rm))(m:List Nat):Fv:=⟨a++List.replicate 40 af,m⟩
def fp(a:List (Option Rm)):Fv:=fq a []
abbrev jD:Ty:=(.pair (.slice<|.pair .str<|.pair (.slice .str)<|.pair .str<|.pair .str<|.pair .str<|.pair (.slice<|.pair .str<|.pair .str<|.pair .str .unit) .unit)<|.pair (.slice<|.pair .str<|.pair (.slice .str)<|.pair .str<|.pair .str<|.pair (.slice<|.pair .str<|.pair .str<|.pair .str .unit) .unit)<|.pair (.slice<|.pair .str<|.pair .str<|.pair (.slice .str)<|.pair .str<|.pair (.int .i64)<|.pair (.int .i64)<|.pair .bool .unit)<|.pair (.slice .str)<|.pair (.slice<|.pair .str<|.pair (.int .i64) .unit) .unit)
abbrev Q8:Ty:=(.pair .str<|.pair (.int .i64)<|.pair (.int .i64)<|.pair .str<|.pair .str .unit)
abbrev YH2:Ty:=(.pair (.int .i64)<|.pair (.pair (.int .i64)<|.pair (.int .i64)<|.pair .str<|.pair .str<|.pair (.slice .str)<|.pair .str<|.pair .str<|.pair (.int .i64) .unit)<|.pair (.int .i64)<|.pair (.int .i64)<|.pair (.int .i64)<|.pair (.pair (.int .i64)<|.pair .str<|.pair (.int .i64)<|.pair .str .unit) .unit)
abbrev dL:Ty:=(.pair .str .unit)
abbrev kj:Ty:=(.pair (.int .i64) .unit)
abbrev Ku:Ty:=(.pair .str<|.pair .str<|.pair (.slice .str)<|.pair .str<|.pair (.int .i64)<|.pair (.int .i64)<|.pair .bool .unit)
abbrev YH6:Ty:=(.pair .str<|.pair (.int .i64)<|.pair (.int .i64)<|.pair (.int .i64)<|.pair (.int .i64)<|.pair (.int .i64)<|.pair (.int .i64) dL)
abbrev YH7:Ty:=(.pair .str<|.pair .str<|.pair (.slice<|.pair .str<|.pair .str dL) .unit)
abbrev CR:Ty:=(.pair (.pair (.int .i64)<|.pair .str<|.pair (.int .i64) dL) .unit)
abbrev YH9:Ty:=(.pair (.int .i64)<|.pair (.int .i64)<|.pair .str<|.pair .str<|.pair (.slice .str)<|.pair .str<|.pair .str kj)
abbrev dz:Ty:=(.pair .bool .unit)
abbrev II:Ty:=(.pair (.slice<|.int .i64) .unit)
abbrev zc:Ty:=(.pair (.slice .str) .unit)
abbrev Ha:Ty:=(.pair .str<|.pair (.slice .str)<|.pair .str YH7)
abbrev Fg:Ty:=(.pair .str<|.pair (.slice .str) YH7)
abbrev vA:Ty:=(.pair (.slice Q8) .unit)
abbrev pz:Ty:=(.pair .str kj)
abbrev s8:Ty:=(.pair .str dL)
abbrev Pz:Ty:=(.slice<|.pair .str zc)
abbrev acF:Ty:=(.alt 368 dL<|.alt 370 dL<|.alt 372 .unit<|.alt 374 (.pair Q8 .unit) .BM)
abbrev acG:Ty:=(.pair (.pair jD<|.pair (.slice .bool)<|.pair (.int .i64) II) .unit)
abbrev BH:Ty:=(.pair (.slice Q8) kj)
abbrev tX:Ty:=(.pair jD .unit)
abbrev Kv:Ty:=(.pair (.slice YH2) II)
abbrev Fh:Ty:=(.pair (.int .i64) dL)
abbrev IJ:Ty:=(.pair (.slice Q8) dL)
abbrev acH:Ty:=(.pair jD<|.pair .str<|.pair (.slice .str) pz)
abbrev Kw:Ty:=(.pair (.int .i64) kj)
abbrev PA:Ty:=(.slice<|.pair .str s8)
abbrev ahR:Ty:=(.pair .bool<|.pair .str<|.pair (.int .i64)<|.pair .bool dz)
abbrev af0:Ty:=(.pair (.arr 8<|.int .u32) .unit)
abbrev PB:Ty:=(.pair (.int .u8) .unit)
abbrev ajB:Ty:=(.pair (.int .i64)<|.pair (.slice Ku)<|.pair (.slice Fg)<|.pair (.slice Ha) .unit)
abbrev Kx:Ty:=(.pair Pz .unit)
abbrev WA:Ty:=(.slice<|.pair YH6 dL)
abbrev acI:Ty:=(.pair jD<|.pair YH9 .unit)
abbrev ajC:Ty:=(.pair (.pair .bool af0)<|.pair (.arr 64<|.int .u8) kj)
abbrev Tj:Ty:=(.pair Q8 .unit)
abbrev af1:Ty:=(.pair jD<|.pair Kv .unit)
abbrev YP:Ty:=(.slice<|.int .i64)
abbrev WB:Ty:=(.pair .str dz)
noncomputable def gZ:Nat->Fv
 | 4=>fq [af,cy [(4,4),(8,30),(9,3)] [7,8]] [8,8000000,8500270,8900013]
 | 11=>fp [cz [(4,4),(5,3)]]
 | 12=>fq [cy [(6,41),(7,3)] [2,6]] [6]
 | 15=>fp [af,cz [(4,4),(5,3)]]
 | 21=>fp [cy [(2,46),(3,3),(11,3)] [1]]
 | 22=>fq [] [40,42,8000000,8700029,7999999]
 | 23=>fq [af,af,af,af,cy [(130,3)] [78,3999999],af,cy [] [78,3999999]] [78,83,86,8000000,8600000,8700009,8700010,7999999]
 | 24=>fq [cz [(4,4),(13,3)]] [7000004]
 | 28=>fp [af,af,af,af,af,af,af,af,af,af,cz [(104,4)],af,cz [(112,4)],cz [(112,4)]]
 | 37=>fp [af,cz [(9,3),(21,3)],af,cz [(9,3)]]
 | 46=>fp [cz [(2,4),(3,3)]]
 | 47=>fq [] [7000004]
 | 49=>fq [] [7000004]
 | 53=>fq [] [7]
 | 54=>fq [cz [(6,4),(15,3)]] [7000004]
 | 55=>fq [] [5]
 | 57=>fq [] [5]
 | 58=>fp [af,af,af,af,af,af,af,af,af,af,cz [(104,4)],af,cz [(112,4)],cz [(112,4)]]
 | 62=>fp [af,af,cy [(13,9)] [10,11],af,af,af,cy [(19,136)] [10,11],af,cy [(19,136)] [10,11],af,cy [(3,9)] [10,11]]
 | 65=>fp [af,af,cy [(12,136)] [4]]
 | 68=>fp [af,cy [(12,9)] [10,11]]
 | 69=>fp [af,cy [(8,3)] [4,5]]
 | 70=>fp [af,cy [(12,9),(13,9)] [10,11]]
 | 72=>fp [af,af,cz [(12,107)]]
 | 76=>fp [af,af,cy [(4,4),(40,3)] [0,40]]
 | 77=>fq [af,cy [(6,4),(17,3)] [2]] [7000004]
 | 79=>fp [af,cz [(4,4),(13,3)]]
 | 80=>fp [af,cz [(4,4),(13,3)]]
 | 81=>fq [af,cy [(6,4),(17,3)] [2]] [7000004]
 | 83=>fq [af,cy [(6,4),(17,3)] [2]] [7000004]
 | 85=>fp [af,cz [(4,4),(13,3)]]
 | 89=>fp [cy [(4,3),(8,3)] [1]]
 | 90=>fp [cy [(4,3),(8,3)] [1]]
 | 91=>fp [cz [(2,4),(3,3)]]
 | 93=>fq [af,cy [] [8]] [36]
 | 99=>fp [af,cy [(13,46)] [12],cz [(13,46)],cy [(13,46)] [12]]
 | 101=>fp [af,cy [(13,46)] [12],cz [(13,46)],cy [(13,46)] [12],af,cy [] [14]]
 | 104=>fp [af,af,af,cz [(8,46)],af,cy [] [2]]
 | 110=>fp [af,cz [(6,46),(9,3)],af,cz [(6,46),(10,3)]]
 | 112=>fp [af,cz [(4,9),(5,46),(7,3)],af,cz [(9,4),(10,3)]]
 | 113=>fq [aa ⟨[(1,9),(4,24),(5,46),(6,24),(7,3)],[6],true⟩] [6]
 | 114=>fq [af,cy [(8,25),(9,3)] [8]] [8]
 | 117=>fq [cy [(7,24),(8,25),(9,4),(10,3)] [7,8],af,cy [(7,24),(8,25),(9,4)] [7,8],cy [(7,24),(8,25)] [7,8]] [7,8]
 | 119=>fp [cz [(4,4),(5,3)],af,af,cz [(4,4),(6,3)],af,af,cz [(4,4),(7,3)]]
 | 120=>fp [cz [(4,3),(5,3)]]
 | 121=>fq [cy [(6,24),(7,25),(8,3)] [6,7],af,cy [(6,24),(7,25)] [6,7]] [6,7]
 | 123=>fp [af,cz [(6,150),(7,3)],af,cz [(6,150)],cz [(6,150)],cz [(6,150),(10,3)],af,cz [(6,150)]]
 | 124=>fp [cz [(3,9),(4,3)],af,cz [(5,9)]]
 | 125=>fq [cy [(7,26),(8,3)] [7],af,cy [(7,26)] [7],af,cz [(9,3)]] [7,10]
 | 128=>fq [cz [(5,3)]] [6]
 | 130=>fq [cy [(6,23),(7,3)] [6],af,cy [(6,23)] [6]] [6]
 | 134=>fq [cz [(5,3)]] [6]
 | 137=>fq [cy [(6,22),(7,3)] [6],af,cy [(6,22)] [6]] [6]
 | 138=>fp [cz [(4,9),(5,46),(6,3)],af,af,cz [(4,9),(5,46),(7,3)],af,cz [(4,9),(5,46),(8,3)],af,af,cz [(9,3),(10,9),(11,3)],af,cz [(9,3),(10,9)]]
 | 140=>fp [cz [(4,9),(5,46),(6,3)]]
 | 141=>fq [af,cz [(8,3),(9,3)],af,cz [(8,3)],af,cy [(10,107),(11,3)] [10],af,cy [(10,107)] [10],cz [(12,3)]] [10,13]
 | 142=>fp [cz [(3,9),(4,3)],af,cz [(3,9),(5,3)]]
 | 143=>fq [af,af,cy [(13,24),(14,4),(15,3)] [13],af,cy [(14,4)] [16]] [13]
 | 146=>fq [cy [] [6000008]] [5000000,7000046]
 | 148=>fq [] [7]
 | 149=>fq [] [7000046]
 | 151=>fp [cy [(3,46)] [2]]
 | 154=>fp [af,cy [(6,46),(21,3)] [5]]
 | 157=>fp [af,cy [(4,9),(5,46),(17,3),(0,999999)] [0]]
 | 158=>fq [] [7000046]
 | 159=>fq [cy [(4,24),(5,46),(6,24),(7,9)] [6],cy [(4,24),(5,46),(6,24),(7,9),(13,3)] [6]] [6]
 | 160=>fq [af,cz [(4,46)]] [7000046]
 | 166=>fp [cz [(7,3)]]
 | 171=>fq [af,cy [(8,25),(28,3)] [8,2000026]] [8]
 | 172=>fq [] [6]
 | 173=>fp [cy [(11,3)] [4],af,cz [(7,9)]]
 | 181=>fq [cy [(7,23)] [7,8]] [10]
 | 185=>fp [cy [(5,4),(11,3)] [4]]
 | 186=>fq [cz [(5,3)]] [8000000]
 | 189=>fq [cy [(5,22)] [5,6]] [9,8000000]
 | 191=>fp [cz [(5,4)],cz [(5,4)],af,af,af,cz [(16,4)],cz [(16,4)],cz [(16,4)],cz [(16,4)],af,cz [(23,4)],af,cz [(29,4)],cz [(29,4)]]
 | 192=>fq [af,af,cy [(7,25),(27,3)] [7],af,cy [(7,25)] [7]] [7]
 | 197=>fq [cy [(8,3)] [3]] [4000014]
 | 198=>fq [] [43,8000000]
 | 199=>fp [cz [(2,4),(3,3)],af,af,cz [(2,4),(4,3)]]
 | 201=>fp [cz [(2,4),(3,3)]]
 | 202=>fp [cz [(4,3),(5,3)]]
 | 203=>fp [cz [(4,4),(5,3)]]
 | 204=>fq [cy [(5,133)] [5],cy [(5,133),(6,3)] [5],af,cy [(5,133)] [5],cy [(5,133),(7,3)] [5],af,cy [(5,133)] [5],cy [(5,133),(8,3)] [5],af,cy [(5,133)] [5]] [5]
 | 205=>fp [cz [(0,3),(3,9),(4,3)]]
 | 206=>fp [cz [(4,3),(5,3)]]
 | 208=>fp [cz [(4,3),(5,3)]]
 | 209=>fp [cz [(2,136),(3,46),(4,136),(5,3)]]
 | 210=>fp [af,cz [(2,4),(3,3)]]
 | 211=>fp [af,af,cz [(0,136),(6,3)],af,cz [(0,136)],cz [(0,136)],cz [(0,136),(4,136),(5,46),(10,3)]]
 | 212=>fp [cy [(5,3)] [3],af,cy [(7,3)] [6]]
 | 213=>fq [cy [(3,196),(4,3)] [3]] [3]
 | 215=>fq [cz [(5,3)]] [6]
 | 216=>fp [cz [(4,3),(5,3)]]
 | 217=>fp [cz [(4,3),(5,3)]]
 | 219=>fp [cz [(2,4),(3,3)]]
 | 221=>fq [] [5]
 | 227=>fq [cy [(5,183),(6,0),(7,4)] [4,5,6]] [5,6]
 | 228=>fq [cy [(2,215),(3,4),(4,215),(11,3)] [4]] [4]
 | 232=>fq [cy [] [5,6],cy [(20,3)] [5,6],af,cy [] [5,6],cy [(36,3)] [5,6],af,cy [] [5,6],cy [(52,3)] [5,6],af,cy [] [5,6,12]] [5]
 | 236=>fp [af,cz [(2,46),(12,3)]]
 | 237=>fq [af,af,cy [(8,22),(30,3),(6,999999),(28,999999)] [6,8,28,2000008],af,cy [(4,22),(5,27),(8,22),(40,3),(38,999999)] [8,38]] [25]
 | 240=>fp [cy [(9,3)] [3]]
 | 241=>fq [cy [(4,3),(8,3)] [1]] [7000003]
 | 243=>fq [] [8]
 | 245=>fq [] [8]
 | 255=>fq [] [9]
 | 256=>fq [] [9]
 | 257=>fq [cy [(7,26)] [4,7,2000007],cz [(8,3)]] [11]
 | 258=>fp [cy [(2,3),(3,3),(0,999999)] [0,3999999]]
 | 259=>fp [cz [(2,136),(3,46),(4,136),(11,3)]]
 | 261=>fp [cy [(0,136),(1,136)] [2,3,4],af,cz [(10,3)],cz [(10,3)],cy [] [2,3,4],cy [] [3,4],cz [(0,136)],cz [(1,136)]]
 | 263=>fp [cy [] [2]]
 | 267=>fq [] [5]
 | 268=>fp [cz [(8,3)]]
 | 269=>fp [cy [(4,3),(8,3)] [1]]
 | 270=>fq [] [5]
 | 276=>fq [] [5]
 | 279=>fp [cz [(4,3),(8,3)]]
 | 281=>fp [cy [(4,3),(8,3)] [1]]
 | 288=>fp [cz [(8,3)]]
 | 290=>fq [] [5]
 | 292=>fq [af,aa ⟨[(0,9),(2,183),(3,4),(4,183)],[4],true⟩] [4]
 | 297=>fp [cz [(4,3),(7,3)]]
 | 300=>fp [cz [(0,136),(4,136),(5,46),(7,9),(8,3)]]
 | 301=>fq [af,af,af,aa ⟨[(8,22),(0,999999)],[0],true⟩,aa ⟨[(8,22),(0,999999)],[0],true⟩,af,cz [(12,3)]] [10,11]
 | 304=>fp [cy [(3,196)] [0,3],af,cy [(3,196),(5,3)] [3]]
 | 305=>fp [cy [(6,3)] [5],af,cy [(7,3)] [5],af,cy [(12,3)] [11],af,cy [(17,3)] [11]]
 | 307=>fp [cz [(4,3),(5,3)]]
 | 310=>fp [cy [(4,3),(8,3)] [1]]
 | 317=>fp [cz [(4,3),(8,3)]]
 | 327=>fp [af,cy [(1,9)] [0],af,cy [] [0]]
 | 328=>fp [cy [] [3],cy [] [3],af,cy [(26,3)] [5],af,cy [(41,3)] [7]]
 | 332=>fp [cy [(4,3),(8,3)] [1]]
 | 333=>fp [cy [(4,3),(8,3)] [1]]
 | 338=>fp [af,cy [(5,3),(6,3),(0,999999)] [0,1],af,cy [(5,3),(0,999999)] [0]]
 | 339=>fq [] [5]
 | 342=>fq [] [8]
 | 350=>fp [cy [(4,3),(8,3)] [1]]
 | 352=>fq [cy [(7,107)] [7,8]] [10]
 | 355=>fp [cz [(2,4),(3,3)]]
 | 356=>fp [af,cz [(2,4),(3,3)]]
 | 357=>fp [af,cy [] [11],cz [(74,4)],cy [] [11],cy [] [11],cy [] [11]]
 | 358=>fp [cz [(0,3)]]
 | 359=>fq [cy [(5,25),(6,3)] [5],af,cy [(5,25)] [5]] [5]
 | 362=>fp [cz [(2,4),(4,9),(5,3)]]
 | 363=>fq [af,cy [(3,25),(4,9),(5,3)] [3],af,cy [(3,25),(4,9)] [3]] [3]
 | 364=>fp [cz [(3,9),(4,3)],af,cz [(3,9)]]
 | 365=>fp [cz [(2,4),(4,3)]]
 | 366=>fp [cz [(2,4),(3,3)]]
 | 367=>fq [cy [(7,136),(8,3)] [7],af,cy [(7,136)] [7]] [7]
 | 381=>fp [cz [(0,9)]]
 | 382=>fp [cz [(0,9)]]
 | 383=>fp [cy [(3,4),(4,3)] [2]]
 | 384=>fp [cy [(0,9)] [1]]
 | 385=>fp [cy [(0,9)] [1]]
 | 390=>fp [af,cz [(4,9)],cz [(71,4)],cy [] [10],cy [] [10],cy [] [10]]
 | 392=>fq [cy [(2,9),(3,46),(4,25),(11,3)] [4],af,cy [(2,9),(3,46),(4,25)] [4]] [4]
 | 396=>fq [cy [(3,136),(6,9),(18,3)] [3]] [3]
 | 400=>fp [cy [(6,3),(13,3)] [2]]
 | 407=>fp [cy [] [0],cz [(6,282),(7,282),(8,282),(9,282),(10,282),(11,282),(12,282),(13,282),(74,3)],af,cy [(143,3)] [0]]
 | 420=>fp [cz [(3,3)],af,af,cz [(2,3),(4,3)]]
 | 421=>fp [cz [(3,3),(4,3)],af,cz [(3,3)]]
 | 422=>fp [cz [(2,9),(3,4),(4,3)],af,af,cz [(2,9),(3,4),(5,3)]]
 | 423=>fp [cz [(5,4)]]
 | 425=>fp [cz [(2,4),(3,3)]]
 | 426=>fp [af,cz [(4,4),(7,3)]]
 | 439=>fp [cz [(4,3),(12,3)],af,cz [(6,5)]]
 | 442=>fp [cz [(2,4),(6,3)]]
 | 444=>fp [cz [(4,3),(5,3)]]
 | 445=>fp [cz [(9,282),(10,3)],af,af,cz [(4,3),(9,282),(11,3)]]
 | 448=>fp [cy [(9,3),(10,3)] [1,2],af,cz [(9,3),(10,3)]]
 | 453=>fp [cy [(12,3)] [3],af,cy [(22,3)] [3],af,cy [(7,3)] [3]]
 | 462=>fp [af,cz [(2,3),(3,4),(4,3),(5,3)]]
 | 463=>fp [cz [(4,4),(5,3)]]
 | 471=>fp [af,cz [(2,3),(3,4),(4,3),(18,3)]]
 | 475=>fp [cz [(4,282),(5,3)],af,cz [(6,282),(7,282),(8,3)],af,cz [(6,282)]]
 | 514=>fq [] [9]
 | 517=>fp [af,cy [(5,3),(6,3),(0,999999)] [0,1],af,cy [(5,3),(0,999999)] [0]]
 | 518=>fq [] [5]
 | 520=>fp [cy [(4,3),(8,3)] [1]]
 | 528=>fp [cz [(1,136),(4,136),(5,46),(6,9),(25,3)]]
 | 530=>fq [] [55]
 | _=>fp []
def vO:List (Nat×List DH):=[(244,[.self,.buf (.int .u8) 5]),(68,[.dat Kv,.fnc]),(372,[])]
def els:List (Nat×Nat):=[(196,5),(211,172)]
noncomputable def PL:List (Nat×Spc):=[(266,.str 244 5),(343,.chk 244),(55,.clone (.int .i64)),(57,.clone .bool),(221,.clone .str),(267,.clone (.pair .str s8)),(270,.clone Fg),(276,.clone Ha),(290,.clone Ku),(339,.clone pz),(518,.clone Q8),(92,(.own (.int .i64) .unit true kx)),(222,(.own .str .unit false e8)),(223,(.own .str .unit true lj)),(272,(.own Fg Kw true bp)),(274,(.own Ha (.pair (.int .i64)<|.pair (.slice Ha) .unit) true cc)),(278,(.own Ha Kw true du)),(330,(.own .str (.pair (.int .i64) zc) true gw)),(331,(.own Ku (.pair (.int .i64)<|.pair (.slice Ku) .unit) true eH)),(336,(.own .str Kw true gx)),(337,(.own Ku Kw true eI)),(345,(.own Fg (.pair (.int .i64)<|.pair (.slice Fg) .unit) true bQ)),(354,(.own (.pair .str s8) (.pair (.int .i64)<|.pair PA .unit) true aK)),(412,(.own pz (.pair (.int .i64)<|.pair (.slice pz) .unit) true iy)),(417,(.own (.pair .str s8) Kw true bJ)),(531,(.own Q8 (.pair (.int .i64) vA) true bj))]
noncomputable def tys:List (Nat×Ty):=[(3,(.int .i64)),(4,.bool),(5,(.int .u8)),(9,.str),(21,(.int .i32)),(22,(.slice Ha)),(23,(.slice Fg)),(24,(.slice Ku)),(25,(.slice .str)),(26,(.slice pz)),(28,jD),(29,(.slice YH2)),(30,YP),(32,Kv),(39,(.slice YH9)),(41,(.slice<|.pair (.int .i64)<|.pair .str Fh)),(45,YH9),(46,(.int .i64)),(48,(.pair (.int .i64)<|.pair .str Fh)),(50,YH2),(60,(.slice jD)),(69,(.slice .bool)),(71,(.pair jD<|.pair (.slice .bool)<|.pair (.int .i64) II)),(89,ajB),(107,PA),(109,Ha),(112,Fg),(114,Ku),(116,pz),(119,(.pair .str s8)),(133,Pz),(136,(.slice Q8)),(150,(.slice Fh)),(158,(.int .u64)),(183,WA),(190,(.pair .str zc)),(196,(.slice<|.int .u8)),(199,(.arr 32<|.int .u8)),(202,Q8),(207,Fh),(208,(.arr 4 .str)),(215,(.slice acF)),(271,YH6),(273,(.pair YH6 dL)),(282,(.int .u32)),(283,(.arr 8<|.int .u32)),(297,acF),(310,(.pair .bool af0)),(311,(.arr 64<|.int .u8)),(313,ajC),(343,(.int .u64)),(344,(.arr 64<|.int .u32)),(348,(.int .i64)),(359,(.arr 256 .bool)),(365,ahR),(368,dL),(370,dL),(374,Tj),(384,(.arr 8<|.int .u8)),(397,(.int .u64)),(423,Kw),(424,(.arr 11 Kw)),(426,(.arr 2 .str)),(431,(.arr 256<|.int .u8)),(433,(.pair (.int .u8) PB)),(434,(.arr 16<|.pair (.int .u8) PB))]
def nums:List Nat:=([(4,1),(7,1),(11,6),(19,1),(21,4),(28,1),(37,5),(46,14),(62,13),(76,10),(89,3),(93,51),(145,77),(224,14),(239,27),(267,5),(273,1),(275,3),(279,10),(290,18),(310,14),(327,3),(332,4),(338,5),(344,1),(346,1),(349,5),(355,15),(381,5),(388,16),(407,1),(420,7),(432,2),(437,9),(448,2),(451,4),(462,3),(469,7),(478,1),(511,20)]:List (Nat×Nat)).flatMap λp=>List.range' p.1 p.2
noncomputable def acJ:List (Nat×Func):=nums.map λn=>(n,(Tryz.prog.funcs[n]?).getD Tryz.f4)
def uQ:List Nat:=[65,66,79,96,120,122,124,172,175,177,180,210,219,224,230,232,234,238,240,241,242,262,276,278,292,301,321,327,331,363,382,401,410,412,418]
def DI:List Nat:=[65,242,292,327,363,382,401,412,418]
noncomputable def Ky(d:List (Nat×Rh))(a:List (Nat×TW))(e:List (String×Rh):=[])(b:List (Nat×Fq):=[]):Ctx:=⟨tys,uQ,DI,acJ,d,a,vO,PL,els,e,b⟩
def mix:Tryz.prog.follows .mixedOrders=true:=by kernel_rfl
def ahS:∀tid t,find tys tid=aa t->Den Tryz.prog t tid:=aiY (by kernel_rfl)
def aao:∀tid,cU uQ tid=true->(∀w,(isAgg tid).run Tryz.prog w=.ok false w)/\(∀w,(Go.sizeOf tid).run Tryz.prog w=.ok 1 w)/\∃z,(∀w,(zeroValue tid).run Tryz.prog w=.ok z w)/\z.oneCell'=true:=agO (by kernel_rfl)
def aap:∀tid,cU DI tid=true->∃e,Tryz.prog.underlying tid=aa (.pointer e):=agP (by kernel_rfl)
def aaq{f fn}:∀l:List Nat,(l.all λn=>(Tryz.prog.funcs[n]?).isSome)=true->find (l.map λn=>(n,(Tryz.prog.funcs[n]?).getD Tryz.f4)) f=aa fn->Tryz.prog.funcs[f]?=aa fn
 | [],_,h=>by cases h
 | n::l,a,h=>by
   rw[adk,gz] at a;rw[TP] at h;unfold find at h;cases b:Nat.beq n f with
   | true =>
     rw[b] at h;obtain rfl:=gA b;obtain⟨x,d⟩:=Lc.1 a.1;cases h;rw[d];rfl
   | false=>rw[b] at h;exact aaq l a.2 h
def af2:∀f a,find acJ f=aa a->Tryz.prog.funcs[f]?=aa a:=λf a h=>aaq nums (by kernel_rfl) h
def aar:∀tid a,find vO tid=aa a->Om Tryz.prog tid a=true:=agQ (by kernel_rfl)
def af3:∀tid e,find els tid=aa e->Tryz.prog.underlying tid=aa (.slice e):=aiZ (by kernel_rfl)
def aas(d:List (Nat×Rh))(a:List (Nat×TW))(e:List (String×Rh):=[])(b:List (Nat×Fq):=[]):fi Tryz.prog (Ky d a e b):=⟨ahS,aao,aap,af2,aar,af3⟩
noncomputable def cx0:Ctx:=⟨tys,uQ,DI,acJ,[],[],vO,[],els,[],[]⟩
def ajD:fi Tryz.prog cx0:=⟨ahS,aao,aap,af2,aar,af3⟩
def rho(f a b t d:Nat):Go.Shelf.Ren:=⟨λx=>if x=29 then a else if x=30 then b else f,λx=>if x=24 then t else if x=9 then d else if x=3 then 3 else if x=4 then 4 else 0,λx=>x⟩
def YQ{e:Ty}{f:Nat}{h j:Func}(a b t d:Nat)(k:Tryz.prog.funcs[f]?=aa h)(m:Tryz.prog.funcs[a]?=aa j)
  (n:h={ Body2.n22 (rho f a b t d) with name:=h.name }:=by kernel_rfl) (o:(h.name == "runtime.NumGoroutine")=false:=by kernel_rfl)
  (p:(j.name == "runtime.NumGoroutine")=false:=by kernel_rfl) (s:j.body.isNone=true:=by kernel_rfl) (u:Extern.findNext j=none:=by kernel_rfl) (v:Extern.find j=aa (Extern.SlicesOverlaps.overlaps #[t,t] #[4]):=by kernel_rfl)
  (y:Tryz.prog.underlying 3=aa (TypeDesc.int IntKind.i64):=by kernel_rfl) (z:Tryz.prog.underlying 4=aa TypeDesc.bool:=by kernel_rfl) (A:Tryz.prog.underlying t=aa (TypeDesc.slice d):=by kernel_rfl)
  (B:gj Tryz.prog e false d 0 []=true:=by kernel_rfl) (C:Eu Tryz.prog d=true:=by kernel_rfl) (D:0<e.size:=by decide +kernel) (E:e.isInt=false:=by decide +kernel) :
  pA Tryz.prog f (.own e (.pair (.int .i64)<|.pair (.slice e) .unit) true λl x=>tE (α:=e.den) l x.1 x.2.1):=by
 have g:Den Tryz.prog e d:=B;obtain⟨I,J,F,G,K,L⟩:=g.info;exact agR (ρ:=rho f a b t d) (nm:=h.name) ⟨mix,k.trans (congrArg aa n),λH w=>run_callFunc_extern (e:=Extern.SlicesOverlaps.overlaps #[t,t] #[4]) m p s u v H w,y,z,A,g.sizeOf,by show(Tryz.prog.info? d).map (·.size)=_;simp[F,G]⟩ o g C D E
def af4{e:Ty}{f:Nat}{b:Func}(t d:Nat)(g:Tryz.prog.funcs[f]?=aa b)
  (h:b={ Body2.n24 (rho f 0 0 t d) with name:=b.name }:=by kernel_rfl) (j:(b.name == "runtime.NumGoroutine")=false:=by kernel_rfl)
  (k:Tryz.prog.underlying 3=aa (TypeDesc.int IntKind.i64):=by kernel_rfl) (m:Tryz.prog.underlying 4=aa TypeDesc.bool:=by kernel_rfl) (n:Tryz.prog.underlying t=aa (TypeDesc.slice d):=by kernel_rfl)
  (o:gj Tryz.prog e false d 0 []=true:=by kernel_rfl) (p:0<e.size:=by decide +kernel) :
  pA Tryz.prog f (.own e Kw true λl x=>J5 (α:=e.den) l x.1 x.2.1):=by
 have a:Den Tryz.prog e d:=o;obtain⟨A,s,u,B,v,y⟩:=a.info;exact agS (ρ:=rho f 0 0 t d) (nm:=b.name) (z:=s) ⟨mix,g.trans (congrArg aa h),k,m,n,a.sizeOf,λw=>UW u v w⟩ j y p
def Tk{e:Ty}{f:Nat}{a:Func}(b:Nat)(o:Tryz.prog.funcs[f]?=aa a){h j k m o0 o1 n}(d:(a.name == "runtime.NumGoroutine")=false:=by kernel_rfl)
  (g:a.body=aa (.seq j<|.seq (.seq (.region h #[o0,o1] false)<|.cond (.tmp 4) (.seq k .ret) .skip)<|.seq m .ret):=by rfl)
  (p:find cx0.T b=aa (.slice e):=by rfl) (s:4<a.ntmps:=by decide +kernel) (u:∀t∈writes j++(writes k++writes m),t<a.ntmps:=by decide +kernel)
  (v:o0.guard=none:=by rfl) (w:o0.dst=aa 3:=by rfl) (x:o0.op=.move (.tmp 0):=by rfl) (y:o1.guard=none:=by rfl) (z:o1.dst=aa 4:=by rfl) (A:o1.op=.binOp .eql b (.tmp 3) (.const<|.slice af 0 0) n:=by rfl)
  (B:∀l:List e.den,(eF cx0 0 [2,5] zl j []<|yc (λ_=>af) [.data (.slice e) l]).run=aa (0,((yc (λ_=>af) [.data (.slice e) l]).cr 2 { val:=.data (.slice e) ([]:List e.den),tid:=0,buf:=true,ro:=false,lk:=false,aM:=0 }).put 2 (.whole 2 0)):=by intro l;rfl)
  (C:∀l:List e.den,aej cx0 [2,5] a.results.toList e (.seq k .ret) (((yc (λ_=>af) [.data (.slice e) l]).cr 2 { val:=.data (.slice e) ([]:List e.den),tid:=0,buf:=true,ro:=false,lk:=false,aM:=0 }).put 2<|.whole 2 0)=aa []:=by intro l;rfl)
  (D:∀l:List e.den,aej cx0 [2,5] a.results.toList e (.seq m .ret) (((yc (λ_=>af) [.data (.slice e) l]).cr 2 { val:=.data (.slice e) ([]:List e.den),tid:=0,buf:=true,ro:=false,lk:=false,aM:=0 }).put 2<|.whole 2 0)=ak (fits<|plus (len ([]:List e.den))<|len (α:=e.den) l) (aa<|app (α:=e.den) [] l) none:=by intro l;rfl) :
  pA Tryz.prog f (.clone e):=by
 refine aa1 (cx:=cx0) (bf:=[2,5]) (tid:=b) mix ajD (MB R6 Mz Zr R7 MA) o d g p s u v w x y z A B (λl=>rfl) (λl=>rfl) (λl=>rfl) C (λl E=>?_);refine(D l).trans ?_;rw[show plus (len ([]:List e.den)) (len l)=len l by simp[plus,len],E];rfl
def af5:∀p∈PL,pA Tryz.prog p.1 p.2:=(dF zb<|dF wC<|dF (Tk 30 Tryz.func55)<|dF (Tk 69 Tryz.func57)<|dF (Tk 25 Tryz.func221)<|dF (Tk 107 Tryz.func267)<|dF (Tk 23 Tryz.func270)<|dF (Tk 22 Tryz.func276)<|dF (Tk 24 Tryz.func290)<|dF (Tk 26 Tryz.func339)<|dF (Tk 136 Tryz.func518)<|dF (R9 Tryz.func92 (by kernel_rfl) (by kernel_rfl) (Any.slices_Compact_int Tryz.Q7)<|Any.slices_Compact_int_empty Tryz.Q7)<|dF (ael Tryz.func222 (by kernel_rfl) (by kernel_rfl) (Any.slices_Sort_string Tryz.aak)<|Any.slices_Sort_string_none Tryz.aak)<|dF (U0 Tryz.func223 (by kernel_rfl) (by kernel_rfl) (Any.slices_Compact_string Tryz.aal)<|Any.slices_Compact_string_empty Tryz.aal)<|dF (af4 23 112 Tryz.func272)<|dF (YQ 347 348 22 109 Tryz.func274 Tryz.func347)<|dF (af4 22 109 Tryz.func278)<|dF (YQ 408 409 25 9 Tryz.func330 Tryz.func408)<|dF (YQ 410 411 24 114 Tryz.func331 Tryz.func410)<|dF (af4 25 9 Tryz.func336)<|dF (af4 24 114 Tryz.func337)<|dF (YQ 414 415 23 112 Tryz.func345 Tryz.func414)<|dF (YQ 418 419 107 119 Tryz.func354 Tryz.func418)<|dF (YQ 457 458 26 116 Tryz.func412 Tryz.func457)<|dF (af4 107 119 Tryz.func417)<|dF (YQ 532 533 136 202 Tryz.func531 Tryz.func532) Zr)
def Tl(d:List (Nat×Rh))(a:List (Nat×TW))(e:List (String×Rh):=[])(b:List (Nat×Fq):=[]):P7 (Ky d a e b):=aed (cx:=Ky d a e b) (show(acJ.all λp=>XF p.2)=true by kernel_rfl)
abbrev Oc(c:List (Nat×Rh))(r:List (Nat×TW))(i:List (String×Rh))(q:List (Nat×Fq)):Prop:=nZ Tryz.prog dc (Ky c r i q)
noncomputable def hasB(f:Nat):Bool:=match find acJ f with|some fn=>fn.body.isSome|none=>false
def Tm{f}(h:hasB f=true):∃b a,find acJ f=aa b/\b.body=aa a:=by
 unfold hasB at h;split at h
 .obtain⟨a,d⟩:=Lc.1 h;exact⟨_,a,by assumption,d⟩
 .cases h
section
variable {c:List (Nat×Rh)} {r:List (Nat×TW)} {i:List (String×Rh)} {q:List (Nat×Fq)}
def Od{e:Type}{P:Nat->e->Prop}{l:List (Nat×e)}(h:∀f c,find l f=aa c->P f c){g a}(k:P g a):∀f c,find ((g,a)::l) f=aa c->P f c:=λf c b=>by
 unfold find at b;cases d:Nat.beq g f with
 | true=>rw[d] at b;cases b;exact gA d▸k
 | false=>rw[d] at b;exact h f c b
def Oc.Tn(H:Oc c r i q){f a}(h:Holds Tryz.prog dc f a):Oc ((f,a)::c) r i q:=⟨Od H.TX h,H.Ol,H.PL,H.inv,H.Ri⟩
def Oe{e:Type}{n f:Nat}{x:e}:∀l:List (Nat×e),find (l.filter λp=>!Nat.beq p.1 n) f=aa x->find l f=aa x
 | [],h=>h
 | (g,a)::l,h=>by
   unfold find;rw[ac6] at h;cases d:Nat.beq g n with
   | true =>
     rw[aJ<|by simp[d]] at h;have j:=Oe l h;cases b:Nat.beq g f with
     | true =>
       obtain rfl:=gA b;obtain rfl:=gA d;exact absurd (sd h) (by simp[zg])
     | false=>exact j
   | false =>
     rw[aN<|by simp[d]] at h;unfold find at h;cases b:Nat.beq g f with
     | true=>rw[b] at h;exact h
     | false=>rw[b] at h;exact Oe l h
def Oc.hxn(H:Oc c r i q)(n:Nat):Oc (c.filter λp=>!Nat.beq p.1 n) r i q:=⟨λf a h=>H.TX f a (Oe _ h),H.Ol,H.PL,H.inv,H.Ri⟩
def Oc.hxq(H:Oc c r i q){f a}(h:kR Tryz.prog dc f a):Oc c r i [(f,a)]:=⟨H.TX,H.Ol,H.PL,H.inv,Od (λ_ _ h=>by cases h) h⟩
def Oc.hxv(H:Oc c r i q){f d}(h:Ar Tryz.prog dc f d):Oc c r ((f,d)::i) q:=⟨H.TX,H.Ol,H.PL,λg a b=>by
 change (bif decide (f=g) then aa d else PM i g)=aa a at b;by_cases e:f=g
 .rw[dn e] at b;cases b;exact e▸h
 .rw[cm e] at b;exact H.inv g a b,H.Ri⟩
def Oc.hxo(H:Oc c r i q){f a}(h:find c f=aa a:=by rfl):Holds Tryz.prog dc f a:=H.TX f a h
def Oc.bF(H:Oc c r i q)(f:Nat)(A R:Ty)(a:A.den->Option R.den)(d:hasB f=true:=by kernel_rfl)
  (e:∀x,sem (Ky c r i q) 12 gZ f A R x=a x:=by intro x;kernel_rfl):Oc ((f,⟨A,R,a⟩)::c) r i q:=by
 obtain⟨k,b,g,j⟩:=Tm d;exact H.Tn (R5 mix (aas c r i q) H (Tl c r i q) (f:=f) g j λx y h=>by rw[e];exact h)
def Oc.hxr(H:Oc c r i q)(f:Nat)(b:List Bool)(A U R:Ty)(a:A.den×U.den->Option (R.den×U.den))(e:hasB f=true:=by kernel_rfl)
  (g:∀x,ake (Ky c r i q) 12 gZ f b A U R x=a x:=by intro x;kernel_rfl):Oc c ((f,⟨b,A,U,R,a⟩)::r) i q:=by
 obtain⟨l,d,j,k⟩:=Tm e;exact⟨H.TX,Od H.Ol (OS mix (aas c r i q) H (Tl c r i q) (f:=f) j k λx y h=>by rw[g];exact h),H.PL,H.inv,H.Ri⟩
def Oc.hxf(H:Oc c r i q){f:Nat}{T F:Nat}{t A U R:Ty}{a:(t.den×A.den)×U.den->Option (R.den×U.den)}(d:hasB f=true:=by kernel_rfl)
  (e:∀x,akf (Ky c r i q) 12 gZ f T F t A U R x=a x:=by intro x;kernel_rfl):kR Tryz.prog dc f ⟨T,t,F,A,U,R,a⟩:=by
 obtain⟨k,b,g,j⟩:=Tm d;exact OT mix (aas c r i q) H (Tl c r i q) (f:=f) g j (λx y h=>by rw[e];exact h)
end
def To{f:Nat}{a:Func}(e:Ty)(b:Nat)(p:Tryz.prog.funcs[f]?=aa a){h j k m o0 o1 n}(spec)(o:spec=λx=>bif fits (len (α:=e.den) x.1) then aa x else none:=by rfl)(d:(a.name == "runtime.NumGoroutine")=false:=by kernel_rfl)
  (g:a.body=aa (.seq j<|.seq (.seq (.region h #[o0,o1] false)<|.cond (.tmp 4) (.seq k .ret) .skip)<|.seq m .ret):=by rfl)
  (s:find (Ky [] []).T b=aa (.slice e):=by rfl) (u:4<a.ntmps:=by decide +kernel) (v:∀t∈writes j++(writes k++writes m),t<a.ntmps:=by decide +kernel)
  (w:o0.guard=none:=by rfl) (y:o0.dst=aa 3:=by rfl) (z:o0.op=.move (.tmp 0):=by rfl) (A:o1.guard=none:=by rfl) (B:o1.dst=aa 4:=by rfl) (C:o1.op=.binOp .eql b (.tmp 3) (.const<|.slice af 0 0) n:=by rfl)
  (D:∀l:List e.den,(eF (Ky [] []) 0 [5] zl j []<|yc (λ_=>af) [.data (.slice e) l]).run=aa (0,(yc (λ_=>af) [.data (.slice e) l]).put 2 (.data (.slice e) ([]:List e.den))):=by intro l;rfl)
  (E:∀l:List e.den,aei (Ky [] []) [5] a.results.toList (.pair (.slice e) .unit) (.seq k .ret) ((yc (λ_=>af) [.data (.slice e) l]).put 2<|.data (.slice e) ([]:List e.den))=aa (([]:List e.den),()):=by intro l;rfl)
  (F:∀l:List e.den,aei (Ky [] []) [5] a.results.toList (.pair (.slice e) .unit) (.seq m .ret) ((yc (λ_=>af) [.data (.slice e) l]).put 2<|.data (.slice e) ([]:List e.den))=ak (fits<|plus (len ([]:List e.den))<|len (α:=e.den) l) (aa (app (α:=e.den) [] l,())) none:=by intro l;rfl) :
  Holds Tryz.prog dc f ⟨.pair (.slice e) .unit,.pair (.slice e) .unit,spec⟩:=by
 subst o;refine UU (cx:=Ky [] []) (bf:=[5]) (tid:=b) mix (aas [] []) (MB R6 Mz af5 R7 MA) p d g s u v w y z A B C D (λl=>rfl) (λl=>rfl) (λl=>rfl) E (λl G=>?_);refine(F l).trans ?_;rw[show plus (len ([]:List e.den)) (len l)=len l by simp[plus,len],G];rfl
def W9:=(show Oc [] [] [] [] from MB R6 Mz af5 R7 MA)
 |>.bF 79 (.pair (.slice .str) zc) dz bE
 |>.bF 317 (.pair (.slice .str) dL) kj eN
 |>.bF 231 (.pair (.slice .str) dL) dz bD
 |>.bF 444 (.pair .str PB) kj de
 |>.bF 475 dL (.pair (.int .u32)<|.pair (.int .u32) .unit) hH
 |>.bF 445 s8 kj eX
 |>.bF 397 s8 kj pG
 |>.bF 320 dL s8 gl
 |>.bF 349 s8 dz cq
 |>.bF 283 s8 dz cC
def Of:Holds Tryz.prog dc 289 ⟨(.pair (.slice .str) dL),dL,kS⟩:=XM Tryz.func289 (by kernel_rfl) (by kernel_rfl) (Any.strings_Join_none Tryz.aam Tryz.yF) (Any.strings_Join Tryz.aam Tryz.yF)
def ye:=W9
 |>.Tn Of
def Kz:Holds Tryz.prog dc 447 ⟨s8,zc,vn⟩:=UY Tryz.func447 (by kernel_rfl) (by kernel_rfl) (λs b w hs=>Any.EK Tryz.ahN (by kernel_rfl) s b w hs)
def hx3:=ye
 |>.Tn Kz
 |>.bF 401 dL zc fg
def s9:Holds Tryz.prog dc 446 ⟨(.pair .str PB),kj,fj⟩:=R8 (spec:=λs c=>Lib.indexByte s (show Int from c).toNat.toUInt8) Tryz.func446 (by kernel_rfl) (by kernel_rfl) (λs c=>Bh _ s) (λs c w=>by
 go_enter Tryz.func446,Tryz.ntmps446
 go_wp2
 rw[run_callFunc_extern Tryz.func476 (by kernel_rfl) (by kernel_rfl) (by kernel_rfl) (e:=Extern.BytealgIndexByte.indexByte)<|by kernel_rfl,Lib.run_indexByteString];simp only[Result.andThen];rw[Oper.upon_value]
 go_wp2
 go_ret
 exact⟨rfl,rfl⟩)
def hx4:=hx3
 |>.Tn s9
 |>.bF 399 (.pair .str PB) kj dy
 |>.bF 442 dL dz sj
 |>.bF 392 dL pz pS
 |>.bF 474 s8 WB fk
 |>.bF 443 s8 WB kD
 |>.bF 393 dL Fh sk
 |>.bF 398 dL dz uk
 |>.bF 321 Tj dz zB
 |>.bF 432 dL dz iL
 |>.bF 402 s8 kj j6
 |>.bF 322 s8 kj gR
 |>.bF 449 (.pair Q8 dL) kj mw
 |>.bF 403 IJ (.pair (.int .i64) dz) en
 |>.bF 323 IJ kj oh
 |>.bF 236 vA kj eo
 |>.bF 516 s8 dz dC
 |>.Tn (To Q8 136 Tryz.func518 nj)
 |>.bF 530 (.pair (.slice Q8) Tj) BH tG
 |>.bF 51 (.pair YH2 kj) dz uH
 |>.bF 52 (.pair YH2 .unit) dz nK
 |>.Tn (To (.int .i64) 30 Tryz.func55 AJ)
 |>.bF 220 kj dz qO
 |>.bF 145 Kw dz sT
def hx5:=hx4
 |>.bF 91 II dz fT
 |>.bF 53 II dz sU
 |>.bF 21 (.pair Kv .unit) kj ed
 |>.bF 56 (.pair YH2 .unit) kj wm
 |>.Tn (To .bool 69 Tryz.func57 y4)
 |>.Tn (To .str 25 Tryz.func221 aX)
 |>.bF 381 (.pair .str PB) dL hU
 |>.bF 382 (.pair .str PB) dL eW
 |>.bF 383 dL (.pair (.arr 256 .bool) dz) ek
 |>.hxr 433 [true,false] PB (.pair (.arr 256 .bool) .unit) dz cM
 |>.hxr 384 [false,true] dL (.pair (.arr 256 .bool) .unit) dL gH
 |>.hxr 385 [false,true] dL (.pair (.arr 256 .bool) .unit) dL dN
 |>.bF 311 s8 dL iK
 |>.bF 226 dL dz mE
 |>.bF 148 zc kj gm
 |>.hxr 388 [true,false] dz (.pair ahR .unit) (.pair (.pair YH6 dL) dz) eD
 |>.bF 389 dL dz ug
 |>.bF 469 .unit (.pair (.arr 11 Kw) .unit) mv
 |>.bF 437 pz dL ca
 |>.bF 470 s8 dL eC
 |>.bF 471 dL (.pair (.int .i64) dz) dI
 |>.bF 438 dL kj dA
 |>.bF 439 dL kj vU
 |>.bF 440 dL WB kq
def hx6:=hx5
 |>.bF 472 Kw dz lK
 |>.bF 473 pz dz od
 |>.bF 441 (.pair YH6 kj) dz rv
 |>.bF 390 dL (.pair YH6 kj) fe
 |>.bF 391 kj kj xj
 |>.hxr 313 [true] .unit (.pair ahR .unit) (.pair (.pair YH6 dL) dz) bZ
 |>.hxr 314 [true] .unit (.pair ahR .unit) dz iB
 |>.bF 227 dL (.pair WA kj) gd
 |>.bF 394 s8 dL oP
 |>.bF 396 Tj dz ep
 |>.bF 395 dL dz mB
 |>.bF 513 IJ vA uq
 |>.bF 511 (.pair dL vA) vA jm
 |>.bF 512 (.pair dL vA) BH vF
 |>.bF 523 IJ vA vV
 |>.bF 521 (.pair dL vA) vA gI
 |>.bF 522 (.pair dL vA) BH tm
 |>.bF 525 (.pair .unit vA) vA tn
 |>.bF 526 (.pair .unit vA) BH vG
 |>.bF 527 (.pair Tj vA) vA tp
 |>.bF 529 IJ (.pair Q8 dz) ym
 |>.bF 528 (.pair Tj vA) BH kE
 |>.bF 315 (.pair (.pair YH6 dL) .unit) (.pair acF dz) su
 |>.bF 228 (.pair WA .unit) (.pair (.slice acF) dz) mC
def hx7:=hx6
 |>.bF 150 dL kj gS
 |>.bF 232 (.pair (.int .i64)<|.pair ajB .unit) Kx qY
 |>.bF 155 tX Kx lr
 |>.bF 192 (.pair Pz dL) pz ix
 |>.bF 152 (.pair jD dL) pz eG
 |>.bF 229 (.pair Pz dL) kj v8
 |>.bF 154 (.pair Pz<|.pair .str zc) kj hY
 |>.bF 240 dL dL lU
 |>.bF 233 kj dL yr
 |>.bF 157 (.pair Pz kj) pz iO
 |>.bF 159 (.pair (.slice Ku) dL) (.pair (.slice Ku) kj) uD
 |>.bF 244 tX zc mZ
 |>.bF 254 (.pair Ku .unit) dL vo
 |>.bF 170 (.pair jD dL) (.pair Ku WB) kt
def PC:Ar Tryz.prog dc "cooperage/overlay.clears" ⟨(.pair acF vA),vA,vX⟩:=(nY (hx7.hxo (f:=511)) (λv w=>by kernel_rfl) rfl (nY (hx7.hxo (f:=521)) (λv w=>by kernel_rfl) rfl (nY (hx7.hxo (f:=525)) (λv w=>by kernel_rfl) rfl (nY (hx7.hxo (f:=527)) (λv w=>by kernel_rfl) rfl LP))))
def hx8:=hx7
 |>.hxv PC
def WC:Ar Tryz.prog dc "cooperage/overlay.puts" ⟨(.pair acF vA),BH,Aw⟩:=(nY (hx8.hxo (f:=512)) (λv w=>by kernel_rfl) rfl (nY (hx8.hxo (f:=522)) (λv w=>by kernel_rfl) rfl (nY (hx8.hxo (f:=526)) (λv w=>by kernel_rfl) rfl (nY (hx8.hxo (f:=528)) (λv w=>by kernel_rfl) rfl LP))))
def hx9:=hx8
 |>.hxv WC
 |>.bF 237 (.pair (.slice Q8)<|.pair WA .unit) BH uu
 |>.bF 162 IJ BH jJ
 |>.bF 259 zc BH pX
def Tp:Holds Tryz.prog dc 171 ⟨(.pair jD dL),BH,ma⟩:=(hx9.hxn 159 |>.bF 171 (.pair jD dL) BH ma).hxo
def amX:=hx9
 |>.Tn Tp
 |>.bF 161 (.pair jD dL) BH iT
 |>.bF 163 kj CR dY
def IK:Holds Tryz.prog dc 238 ⟨pz,dL,oJ⟩:=OW (spec:=fZ) Tryz.func238 (by kernel_rfl) (by kernel_rfl) (λ_ _ _ h=>Ca h) (λs c w y e f a=>by
 obtain⟨b,d,rfl⟩:=tl a;have g:(IntKind.i64).max=9223372036854775807:=aD;obtain⟨n,rfl⟩:=YT b;exact(Any.strings_Repeat Tryz.ahO Tryz.G9) s n w ag d)
def amY:=amX
 |>.Tn IK
 |>.bF 164 .unit dL yW
 |>.bF 451 .unit af0 u5
 |>.bF 452 .unit (.pair (.arr 64<|.int .u32) .unit) Cb
 |>.bF 478 (.pair (.int .u32) kj) (.pair (.int .u32) .unit) kp
 |>.bF 454 (.pair (.int .u32) kj) (.pair (.int .u32) .unit) cj
 |>.bF 453 (.pair (.arr 64<|.int .u8) .unit) (.pair (.arr 64<|.int .u32) .unit) sf
 |>.hxr 327 [true,false] dL (.pair ajC .unit) .unit ga
 |>.hxr 328 [true] .unit (.pair ajC .unit) (.pair (.arr 32<|.int .u8) .unit) oK
 |>.bF 239 dL (.pair (.arr 32<|.int .u8) .unit) Dc
 |>.bF 165 dL dL oa
 |>.bF 243 (.pair (.slice .str) Fh) zc kO
 |>.Tn (To Ku 24 Tryz.func290 re)
 |>.bF 245 (.pair (.slice Ku)<|.pair (.int .i64)<|.pair Ku .unit) (.pair (.slice Ku) .unit) ib
 |>.bF 166 (.pair jD<|.pair Ku dL) tX sA
 |>.bF 93 acH (.pair jD CR) jM
 |>.bF 167 (.pair jD dL) dz pf
 |>.bF 252 (.pair pz .unit) dL qF
 |>.bF 168 (.pair jD dL) kj dh
 |>.bF 255 (.pair (.slice .str) kj) zc ic
 |>.bF 256 (.pair (.slice Ku) kj) (.pair (.slice Ku) .unit) fP
 |>.Tn (To pz 26 Tryz.func339 rf)
 |>.bF 342 (.pair (.slice pz)<|.pair (.int .i64)<|.pair pz .unit) (.pair (.slice pz) .unit) bI
 |>.bF 257 (.pair jD pz) tX pY
def amZ:=amY
 |>.bF 169 (.pair jD dL) tX jN
 |>.bF 94 (.pair jD dL) (.pair jD CR) vq
 |>.bF 95 (.pair jD dL) CR yX
 |>.bF 172 (.pair (.slice Q8) vA) (.pair (.slice Fh) kj) qm
 |>.bF 173 (.pair (.slice Fh) .unit) dL vW
 |>.bF 96 (.pair jD dL) CR tI
 |>.bF 174 (.pair jD pz) (.pair jD CR) pj
 |>.bF 97 (.pair jD dL) (.pair jD CR) Cf
 |>.bF 98 (.pair jD dL) (.pair jD CR) zD
 |>.bF 175 kj CR iN
 |>.bF 176 tX Kx gv
 |>.bF 182 (.pair Fg .unit) dL dO
 |>.Tn (To (.pair .str s8) 107 Tryz.func267 bN)
 |>.Tn (To Fg 23 Tryz.func270 ra)
 |>.bF 177 (.pair jD<|.pair Fg .unit) tX gp
 |>.bF 99 acH (.pair jD CR) qx
 |>.bF 178 (.pair jD dL) pz mX
 |>.bF 100 (.pair jD dL) (.pair jD CR) qy
 |>.bF 183 kj CR kv
 |>.bF 184 tX Kx nc
 |>.bF 185 (.pair jD dL) (.pair Fg dz) pd
 |>.Tn (To Ha 22 Tryz.func276 tJ)
 |>.bF 186 (.pair jD<|.pair Ha .unit) tX j9
 |>.bF 101 acH (.pair jD CR) sE
def ajE:=amZ
 |>.bF 187 (.pair jD dL) pz wc
 |>.bF 188 (.pair jD dL) (.pair Ha dz) rz
 |>.bF 102 (.pair jD dL) (.pair jD CR) sG
 |>.bF 105 kj CR eJ
 |>.bF 279 (.pair YP kj) kj ij
 |>.bF 190 (.pair YP kj) dz dG
 |>.bF 280 (.pair YH9 II) II xo
 |>.bF 191 (.pair YH9 .unit) II p9
 |>.bF 193 (.pair jD kj) Kx uF
 |>.bF 287 (.pair (.pair .str s8) .unit) dL b0
 |>.bF 195 (.pair PA dL) pz lq
 |>.bF 196 (.pair PA s8) (.pair PA kj) lp
 |>.bF 103 acI (.pair jD CR) AB
 |>.bF 197 Kx dL yY
 |>.bF 198 (.pair jD<|.pair (.int .i64)<|.pair .str zc) tX gV
 |>.bF 104 acI (.pair jD CR) xp
 |>.bF 58 acI (.pair jD CR) xq
 |>.bF 59 (.pair YH2<|.pair YH2 .unit) dz lB
noncomputable def ir(s:((Kv:Ty).den×(acG:Ty).den)×(II:Ty).den->Option ((dz:Ty).den×(II:Ty).den)):Fq:=⟨68,Kv,38,acG,II,dz,s⟩
def wD(rec)(a:kR Tryz.prog dc 76 (ir rec)):kR Tryz.prog dc 76 (ir<|iZ rec):=(ajE.hxq a).hxf
def xW:kR Tryz.prog dc 76 (ir fy):=EM Tryz.func76 (by kernel_rfl) (by kernel_rfl) wD bS tg ti tL
def CS:Holds Tryz.prog dc 13 ⟨af1,(.pair YP kj),ja⟩:=(ajE.hxq xW |>.bF 13 af1 (.pair YP kj) ja).hxo
def ajF:=ajE
 |>.Tn CS
 |>.bF 15 (.pair YP II) dz iD
noncomputable def iu(s:((Kv:Ty).den×(acG:Ty).den)×(.unit:Ty).den->Option ((dz:Ty).den×(.unit:Ty).den)):Fq:=⟨68,Kv,41,acG,.unit,dz,s⟩
def wE(rec)(a:kR Tryz.prog dc 76 (iu rec)):kR Tryz.prog dc 76 (iu<|jb rec):=(ajF.hxq a).hxf
def xX:kR Tryz.prog dc 76 (iu fA):=EM Tryz.func76 (by kernel_rfl) (by kernel_rfl) wE bT tj tk tM
def CT:Holds Tryz.prog dc 16 ⟨af1,(.pair .bool kj),fB⟩:=(ajF.hxq xX |>.bF 16 af1 (.pair .bool kj) fB).hxo
def am0:=ajF
 |>.Tn CT
 |>.bF 46 zc dz oX
 |>.bF 19 (.pair YH9 .unit) dz nd
 |>.bF 11 (.pair (.slice YH9) kj) dz Ch
 |>.bF 219 dL dz ot
 |>.bF 199 zc dz uz
 |>.bF 106 zc kj gn
 |>.bF 107 kj CR bR
 |>.bF 355 dL dz vZ
 |>.bF 356 dL dz v7
 |>.bF 462 dL (.pair (.int .i64) dz) ny
 |>.bF 420 dL kj ft
 |>.bF 421 dL kj yl
 |>.bF 422 dL WB oV
 |>.bF 463 pz dz mU
 |>.bF 464 Kw dz qX
 |>.bF 423 (.pair YH6 kj) dz u7
 |>.bF 357 dL (.pair YH6 kj) oW
 |>.bF 358 kj kj mV
 |>.bF 292 dL (.pair WA dz) uv
 |>.bF 200 dL (.pair WA kj) l4
 |>.bF 363 dL zc ec
 |>.bF 364 zc dL oO
 |>.bF 294 dL s8 ks
def am1:=am0
 |>.bF 424 s8 dz oe
 |>.bF 360 dL Fh so
 |>.bF 425 dL dz sn
 |>.bF 365 dL dz xk
 |>.bF 366 dL dz sq
 |>.bF 295 Tj dz lL
 |>.bF 302 (.pair (.pair YH6 dL) dL) Tj sv
 |>.bF 359 dL pz ui
 |>.bF 361 s8 dL oQ
 |>.bF 362 dL dz lh
 |>.bF 293 (.pair (.pair YH6 dL) .unit) (.pair (.int .i64) WB) oT
 |>.bF 201 (.pair WA .unit) dz pV
 |>.bF 108 dL kj mW
 |>.bF 204 (.pair (.int .i64)<|.pair ajB .unit) Kx qZ
 |>.bF 111 tX Kx ku
 |>.bF 218 s8 dz xn
 |>.bF 138 (.pair Pz dL) pz j8
 |>.bF 109 (.pair jD dL) pz eP
 |>.bF 202 (.pair Pz dL) kj wa
 |>.bF 203 (.pair (.slice .str) dL) dz yo
 |>.bF 110 (.pair Pz<|.pair .str zc) kj l5
 |>.bF 205 kj dL AA
 |>.bF 112 (.pair Pz kj) pz na
 |>.bF 206 (.pair (.slice Ku) dL) kj Ax
def am2:=am1
 |>.bF 113 (.pair (.slice Ku) dL) (.pair (.slice Ku) kj) mY
 |>.bF 207 (.pair jD kj) dL j7
 |>.bF 208 (.pair jD dL) kj sz
 |>.bF 307 IJ kj hW
 |>.bF 296 IJ dz oi
 |>.bF 297 s8 kj jG
 |>.bF 210 vA dz iM
 |>.bF 426 s8 dz uj
 |>.bF 367 (.pair (.slice Q8) WB) vA jI
 |>.bF 298 IJ vA sr
 |>.bF 299 IJ vA ur
 |>.bF 214 IJ (.pair Q8 dz) oS
 |>.bF 301 (.pair (.slice Q8) Tj) BH oj
 |>.bF 300 IJ BH vY
 |>.bF 211 (.pair (.slice Q8)<|.pair WA .unit) BH yn
 |>.bF 116 IJ BH pW
 |>.bF 209 zc BH yu
 |>.bF 114 (.pair jD dL) BH l9
 |>.bF 115 .unit dL wb
 |>.bF 117 (.pair jD<|.pair Ku dL) tX sB
 |>.bF 303 .unit af0 yU
 |>.bF 304 dL dL ue
 |>.bF 368 (.pair (.int .u32) kj) (.pair (.int .u32) .unit) cp
 |>.bF 369 .unit (.pair (.arr 64<|.int .u32) .unit) xh
def am3:=am2
 |>.bF 305 (.pair (.arr 8<|.int .u32) dL) af0 uf
 |>.bF 212 dL (.pair (.arr 32<|.int .u8) .unit) yk
 |>.bF 306 kj PB pR
 |>.bF 213 dL dL u6
 |>.bF 118 dL dL tF
 |>.bF 62 acH (.pair jD CR) ou
 |>.bF 119 (.pair jD dL) dz sI
 |>.bF 120 (.pair jD dL) kj fw
 |>.bF 125 (.pair jD pz) tX nf
 |>.bF 121 (.pair jD dL) tX mG
 |>.bF 63 (.pair jD dL) (.pair jD CR) xr
 |>.bF 122 (.pair jD dL) (.pair Ku WB) pZ
 |>.bF 64 (.pair jD dL) CR AE
 |>.bF 215 (.pair (.slice Fh)<|.pair Fh .unit) (.pair (.slice Fh) .unit) ry
 |>.bF 123 (.pair (.slice Q8) vA) (.pair (.slice Fh) kj) mA
 |>.bF 124 (.pair (.slice Fh) .unit) dL ss
 |>.bF 65 (.pair jD dL) CR vr
 |>.bF 66 (.pair jD dL) (.pair jD CR) yZ
 |>.bF 67 (.pair jD dL) (.pair jD CR) vt
 |>.bF 126 kj CR iz
 |>.bF 127 tX Kx ng
 |>.bF 216 (.pair jD dL) kj wg
 |>.bF 130 (.pair jD dL) tX mH
 |>.bF 128 (.pair jD<|.pair Fg .unit) tX rA
def am4:=am3
 |>.bF 68 acH (.pair jD CR) sK
 |>.bF 129 (.pair jD dL) pz sL
 |>.bF 69 (.pair jD dL) (.pair jD CR) sM
 |>.bF 131 kj CR gq
 |>.bF 132 (.pair jD dL) (.pair Fg dz) ox
 |>.bF 133 tX Kx nh
 |>.bF 217 (.pair jD dL) kj wi
 |>.bF 137 (.pair jD dL) tX mI
 |>.bF 134 (.pair jD<|.pair Ha .unit) tX rB
 |>.bF 70 acH (.pair jD CR) sO
 |>.bF 135 (.pair jD dL) pz AF
 |>.bF 136 (.pair jD dL) (.pair Ha dz) rC
 |>.bF 71 (.pair jD dL) (.pair jD CR) sP
 |>.bF 74 kj CR fh
 |>.bF 139 (.pair jD kj) Kx uG
 |>.bF 140 (.pair PA dL) pz qB
 |>.bF 141 (.pair PA s8) (.pair PA kj) qA
 |>.bF 72 acI (.pair jD CR) wk
 |>.bF 142 Kx dL AG
 |>.bF 143 (.pair jD<|.pair (.int .i64)<|.pair .str zc) tX gW
 |>.bF 73 acI (.pair jD CR) sQ
 |>.bF 28 acI (.pair jD CR) AH
 |>.bF 12 (.pair jD<|.pair (.slice YH9) .unit) (.pair jD<|.pair (.slice<|.pair (.int .i64)<|.pair .str Fh) .unit) Ci
 |>.bF 80 (.pair PA<|.pair PA .unit) dz dT
def ajG:=am4
 |>.bF 78 (.pair Ha<|.pair Ha .unit) dz qP
 |>.bF 82 (.pair Fg<|.pair Fg .unit) dz qQ
 |>.bF 84 (.pair Ku<|.pair Ku .unit) dz qR
 |>.bF 85 (.pair (.slice pz)<|.pair (.slice pz) .unit) dz eS
 |>.bF 40 (.pair jD tX) dz sV
noncomputable def ji(s:((Kv:Ty).den×(acG:Ty).den)×(tX:Ty).den->Option ((dz:Ty).den×(tX:Ty).den)):Fq:=⟨68,Kv,39,acG,tX,dz,s⟩
def xY(rec)(a:kR Tryz.prog dc 76 (ji rec)):kR Tryz.prog dc 76 (ji<|jz rec):=(ajG.hxq a).hxf
def x8:kR Tryz.prog dc 76 (ji jA):=EM Tryz.func76 (by kernel_rfl) (by kernel_rfl) xY cA tN tO u9
def PD:Holds Tryz.prog dc 14 ⟨(.pair jD<|.pair Kv tX),(.pair .bool kj),qb⟩:=(ajG.hxq x8 |>.bF 14 (.pair jD<|.pair Kv tX) (.pair .bool kj) qb).hxo
def alj:=ajG
 |>.Tn PD
noncomputable def DQ:Rh:=⟨(.pair (.slice YH9) PB),dz,hL⟩
noncomputable def PE:Rh:=⟨.unit,dz,qa⟩
noncomputable def Og:Rh:=⟨af1,(.pair .bool kj),fB⟩
def IL:Holds Tryz.prog dc 15 ⟨(.pair YP II),dz,iD⟩:=alj.hxo
end Go.Proofs.YtgklgliokhbcnaaGreatDoor
