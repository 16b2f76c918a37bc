import Derived.Test.YtgklgliokhbcnaaGreatDoorPlI
import Derived.Test.YtgklgliokhbcnaaGreatDoorBld
import Derived.Test.YtgklgliokhbcnaaGreatDoorShelf
set_option linter.unusedVariables false
set_option linter.unusedSectionVars false
set_option linter.defProp false
set_option linter.unusedSimpArgs false
set_option linter.defProp false
open Option renaming some->aa,none->af
namespace Go.Proofs.YtgklgliokhbcnaaGreatDoor
open Go Go.Ge
set_option maxRecDepth 100000
variable [Lp]
def cy(s:List (Nat×Nat))(m:List Nat):Option Ry:=aa ⟨s,m,false⟩
def cz(s:List (Nat×Nat)):Option Ry:=aa ⟨s,[],false⟩
def fq(a:List (Option Ry))(m:List Nat):FH:=⟨a++List.replicate 40 af,m⟩
def fp(a:List (Option Ry)):FH:=fq a []
abbrev jy:Ty:=(.pair (.slice<|.pair .str<|.pair (.slice .str)<|.pair .str<|.pair .str<|.pair .str<|.pair (.slice<|.pair .str<|.pair .str<|.pair .str .unit) .unit)<|.pair (.slice<|.pair .str<|.pair (.slice .str)<|.pair .str<|.pair .str<|.pair (.slice<|.pair .str<|.pair .str<|.pair .str .unit) .unit)<|.pair (.slice<|.pair .str<|.pair .str<|.pair (.slice .str)<|.pair .str<|.pair (.int .i64)<|.pair (.int .i64)<|.pair .bool .unit)<|.pair (.slice .str)<|.pair (.slice<|.pair .str<|.pair (.int .i64) .unit) .unit)
abbrev YH1:Ty:=(.pair (.int .i64)<|.pair (.pair (.int .i64)<|.pair (.int .i64)<|.pair .str<|.pair .str<|.pair (.slice .str)<|.pair .str<|.pair .str<|.pair (.int .i64) .unit)<|.pair (.int .i64)<|.pair (.int .i64)<|.pair (.int .i64)<|.pair (.pair (.int .i64)<|.pair .str<|.pair (.int .i64)<|.pair .str .unit) .unit)
abbrev Rk:Ty:=(.pair .str<|.pair (.int .i64)<|.pair (.int .i64)<|.pair .str<|.pair .str .unit)
abbrev dJ:Ty:=(.pair .str .unit)
abbrev jL:Ty:=(.pair (.int .i64) .unit)
abbrev Ov:Ty:=(.pair .str<|.pair .str<|.pair (.slice .str)<|.pair .str<|.pair (.int .i64)<|.pair (.int .i64)<|.pair .bool .unit)
abbrev YH6:Ty:=(.pair .str<|.pair .str<|.pair (.slice<|.pair .str<|.pair .str dJ) .unit)
abbrev YH7:Ty:=(.pair .str<|.pair (.int .i64)<|.pair (.int .i64)<|.pair (.int .i64)<|.pair (.int .i64)<|.pair (.int .i64)<|.pair (.int .i64) dJ)
abbrev C1:Ty:=(.pair (.pair (.int .i64)<|.pair .str<|.pair (.int .i64) dJ) .unit)
abbrev gV:Ty:=(.pair .bool .unit)
abbrev acJ:Ty:=(.pair (.int .i64)<|.pair (.int .i64)<|.pair .str<|.pair .str<|.pair (.slice .str)<|.pair .str<|.pair .str jL)
abbrev Fw:Ty:=(.pair (.slice<|.int .i64) .unit)
abbrev yi:Ty:=(.pair (.slice .str) .unit)
abbrev Hk:Ty:=(.pair .str<|.pair (.slice .str)<|.pair .str YH6)
abbrev Fx:Ty:=(.pair .str<|.pair (.slice .str) YH6)
abbrev vR:Ty:=(.pair (.slice Rk) .unit)
abbrev tp:Ty:=(.pair .str dJ)
abbrev pQ:Ty:=(.pair .str jL)
abbrev PJ:Ty:=(.slice<|.pair .str yi)
abbrev acK:Ty:=(.alt 368 dJ<|.alt 370 dJ<|.alt 372 .unit<|.alt 374 (.pair Rk .unit) .BX)
abbrev Hl:Ty:=(.pair (.slice YH1) Fw)
abbrev BO:Ty:=(.pair (.slice Rk) jL)
abbrev yj:Ty:=(.pair jy .unit)
abbrev ahJ:Ty:=(.pair (.int .i64)<|.pair (.slice Ov)<|.pair (.slice Fx)<|.pair (.slice Hk) .unit)
abbrev Hm:Ty:=(.pair (.int .i64) dJ)
abbrev IP:Ty:=(.pair (.slice Rk) dJ)
abbrev acL:Ty:=(.pair jy<|.pair .str<|.pair (.slice .str) pQ)
abbrev IQ:Ty:=(.pair (.int .i64) jL)
abbrev Ol:Ty:=(.slice<|.pair .str tp)
abbrev afV:Ty:=(.pair jy<|.pair (.slice .bool)<|.pair (.int .i64) Fw)
abbrev afW:Ty:=(.pair (.arr 8<|.int .u32) .unit)
abbrev ahK:Ty:=(.pair .bool<|.pair .str<|.pair (.int .i64)<|.pair .bool gV)
abbrev Tw:Ty:=(.pair (.int .u8) .unit)
abbrev Kz:Ty:=(.pair PJ .unit)
abbrev PK:Ty:=(.slice<|.int .i64)
abbrev WN:Ty:=(.slice<|.pair YH7 dJ)
abbrev acM:Ty:=(.pair jy<|.pair Hl .unit)
abbrev acN:Ty:=(.pair jy<|.pair acJ .unit)
abbrev ajs:Ty:=(.pair (.pair .bool afW)<|.pair (.arr 64<|.int .u8) jL)
abbrev Tz:Ty:=(.pair Rk .unit)
abbrev afX:Ty:=(.pair (.slice Ov) .unit)
noncomputable def gY:Nat->FH
 | 6=>fp [cz [(4,4),(5,3)]]
 | 8=>fq [af,cy [(7,4),(28,3)] [6,9],af,cy [(12,4)] [9],cy [(12,4)] [9]] [8000000]
 | 9=>fq [af,cy [(7,4),(8,69),(9,3),(10,3)] [3,6,2000008],af,af,af,af,cy [] [12,13]] [8700103]
 | 15=>fp [af,cz [(4,4),(5,3)]]
 | 17=>fp [cz [(2,4),(3,3)]]
 | 20=>fp [cz [(2,4),(3,3)]]
 | 21=>fp [cy [(2,46),(3,3),(11,3)] [1]]
 | 22=>fq [] [40,42,8000000,8700029,7999999]
 | 23=>fq [af,af,af,af,cy [(130,3)] [78,3999999],af,cy [] [78,3999999]] [78,83,86,8000000,8600000,8700009,8700010,7999999]
 | 24=>fq [cz [(4,4),(13,3)]] [7000004]
 | 26=>fq [af,cz [(8,4),(9,3)]] [8700043]
 | 27=>fq [af,af,af,cz [(10,4),(11,3)]] [8700031,8700046,8700082]
 | 28=>fp [af,af,af,af,af,af,af,af,af,af,cz [(104,4)],af,cz [(112,4)],cz [(112,4)]]
 | 30=>fq [cy [(8,3),(7,999999)] [7],af,cy [(7,999999)] [7]] [7,8700050]
 | 31=>fp [cz [(8,4),(9,3)]]
 | 32=>fp [af,cz [(4,4),(5,3)]]
 | 33=>fp [af,cz [(4,4),(5,3)]]
 | 34=>fp [af,cz [(4,4),(5,3)]]
 | 35=>fp [af,cz [(4,4),(5,3)]]
 | 36=>fp [af,cz [(4,4),(5,3)]]
 | 37=>fp [af,cz [(9,3),(21,3)],af,cz [(9,3)]]
 | 42=>fp [cz [(2,4),(3,3)],af,af,cz [(2,4),(4,3)],af,af,cz [(2,4),(5,3)]]
 | 43=>fp [cz [(2,4),(3,3)]]
 | 46=>fp [cz [(2,4),(3,3)]]
 | 47=>fq [] [7000004]
 | 49=>fq [] [7000004]
 | 53=>fq [] [7]
 | 54=>fq [cz [(6,4),(15,3)]] [7000004]
 | 55=>fq [] [5]
 | 57=>fq [] [5]
 | 58=>fp [af,af,af,af,af,af,af,af,af,af,cz [(104,4)],af,cz [(112,4)],cz [(112,4)]]
 | 60=>fq [cz [(2,4),(3,3),(4,3)],af,af,cz [(2,4),(6,3)],af,af,cz [(2,4),(8,3)],af,af,cz [(2,4),(9,3)]] [8700147]
 | 62=>fp [af,af,cy [(13,9)] [10,11],af,af,af,cy [(19,136)] [10,11],af,cy [(19,136)] [10,11],af,cy [(3,9)] [10,11]]
 | 65=>fp [af,af,cy [(12,136)] [4]]
 | 68=>fp [af,cy [(12,9)] [10,11]]
 | 69=>fp [af,cy [(8,3)] [4,5]]
 | 70=>fp [af,cy [(12,9),(13,9)] [10,11]]
 | 72=>fp [af,af,cz [(12,107)]]
 | 75=>fp [af,cz [(4,4),(5,3)]]
 | 76=>fp [af,af,cy [(4,4),(40,3)] [0,40]]
 | 79=>fp [af,cz [(4,4),(13,3)]]
 | 86=>fp [cz [(2,4),(3,3)]]
 | 87=>fp [cz [(2,4),(3,3)]]
 | 89=>fp [cy [(4,3),(8,3)] [1]]
 | 90=>fp [cy [(4,3),(8,3)] [1]]
 | 91=>fp [cz [(2,4),(3,3)]]
 | 93=>fq [af,cy [] [8]] [36]
 | 99=>fp [af,cy [(13,46)] [12],cz [(13,46)],cy [(13,46)] [12]]
 | 101=>fp [af,cy [(13,46)] [12],cz [(13,46)],cy [(13,46)] [12],af,cy [] [14]]
 | 104=>fp [af,af,af,cz [(8,46)],af,cy [] [2]]
 | 110=>fp [af,cz [(6,46),(9,3)],af,cz [(6,46),(10,3)]]
 | 112=>fp [af,cz [(4,9),(5,46),(7,3)],af,cz [(9,4),(10,3)]]
 | 113=>fq [aa ⟨[(1,9),(4,24),(5,46),(6,24),(7,3)],[6],true⟩] [6]
 | 114=>fq [af,cy [(8,25),(9,3)] [8]] [8]
 | 117=>fq [cy [(7,24),(8,25),(9,4),(10,3)] [7,8],af,cy [(7,24),(8,25),(9,4)] [7,8],cy [(7,24),(8,25)] [7,8]] [7,8]
 | 119=>fp [cz [(4,4),(5,3)],af,af,cz [(4,4),(6,3)],af,af,cz [(4,4),(7,3)]]
 | 120=>fp [cz [(4,3),(5,3)]]
 | 121=>fq [cy [(6,24),(7,25),(8,3)] [6,7],af,cy [(6,24),(7,25)] [6,7]] [6,7]
 | 123=>fp [af,cz [(6,150),(7,3)],af,cz [(6,150)],cz [(6,150)],cz [(6,150),(10,3)],af,cz [(6,150)]]
 | 124=>fp [cz [(3,9),(4,3)],af,cz [(5,9)]]
 | 125=>fq [cy [(7,26),(8,3)] [7],af,cy [(7,26)] [7],af,cz [(9,3)]] [7,10]
 | 128=>fq [cz [(5,3)]] [6]
 | 130=>fq [cy [(6,23),(7,3)] [6],af,cy [(6,23)] [6]] [6]
 | 134=>fq [cz [(5,3)]] [6]
 | 137=>fq [cy [(6,22),(7,3)] [6],af,cy [(6,22)] [6]] [6]
 | 138=>fp [cz [(4,9),(5,46),(6,3)],af,af,cz [(4,9),(5,46),(7,3)],af,cz [(4,9),(5,46),(8,3)],af,af,cz [(9,3),(10,9),(11,3)],af,cz [(9,3),(10,9)]]
 | 140=>fp [cz [(4,9),(5,46),(6,3)]]
 | 141=>fq [af,cz [(8,3),(9,3)],af,cz [(8,3)],af,cy [(10,107),(11,3)] [10],af,cy [(10,107)] [10],cz [(12,3)]] [10,13]
 | 142=>fp [cz [(3,9),(4,3)],af,cz [(3,9),(5,3)]]
 | 143=>fq [af,af,cy [(13,24),(14,4),(15,3)] [13],af,cy [(14,4)] [16]] [13]
 | 146=>fq [cy [] [6000008]] [5000000,7000046]
 | 148=>fq [] [7]
 | 149=>fq [] [7000046]
 | 151=>fp [cy [(3,46)] [2]]
 | 154=>fp [af,cy [(6,46),(21,3)] [5]]
 | 157=>fp [af,cy [(4,9),(5,46),(17,3),(0,999999)] [0]]
 | 158=>fq [] [7000046]
 | 159=>fq [cy [(4,24),(5,46),(6,24),(7,9)] [6],cy [(4,24),(5,46),(6,24),(7,9),(13,3)] [6]] [6]
 | 160=>fq [af,cz [(4,46)]] [7000046]
 | 166=>fp [cz [(7,3)]]
 | 171=>fq [af,cy [(8,25),(28,3)] [8,2000026]] [8]
 | 172=>fq [] [6]
 | 173=>fp [cy [(11,3)] [4],af,cz [(7,9)]]
 | 181=>fq [cy [(7,23)] [7,8]] [10]
 | 185=>fp [cy [(5,4),(11,3)] [4]]
 | 186=>fq [cz [(5,3)]] [8000000]
 | 189=>fq [cy [(5,22)] [5,6]] [9,8000000]
 | 191=>fp [cz [(5,4)],cz [(5,4)],af,af,af,cz [(16,4)],cz [(16,4)],cz [(16,4)],cz [(16,4)],af,cz [(23,4)],af,cz [(29,4)],cz [(29,4)]]
 | 192=>fq [af,af,cy [(7,25),(27,3)] [7],af,cy [(7,25)] [7]] [7]
 | 197=>fq [cy [(8,3)] [3]] [4000014]
 | 198=>fq [] [43,8000000]
 | 199=>fp [cz [(2,4),(3,3)],af,af,cz [(2,4),(4,3)]]
 | 201=>fp [cz [(2,4),(3,3)]]
 | 202=>fp [cz [(4,3),(5,3)]]
 | 203=>fp [cz [(4,4),(5,3)]]
 | 204=>fq [cy [(5,133)] [5],cy [(5,133),(6,3)] [5],af,cy [(5,133)] [5],cy [(5,133),(7,3)] [5],af,cy [(5,133)] [5],cy [(5,133),(8,3)] [5],af,cy [(5,133)] [5]] [5]
 | 205=>fp [cz [(0,3),(3,9),(4,3)]]
 | 206=>fp [cz [(4,3),(5,3)]]
 | 208=>fp [cz [(4,3),(5,3)]]
 | 209=>fp [cz [(2,136),(3,46),(4,136),(5,3)]]
 | 210=>fp [af,cz [(2,4),(3,3)]]
 | 211=>fp [af,af,cz [(0,136),(6,3)],af,cz [(0,136)],cz [(0,136)],cz [(0,136),(4,136),(5,46),(10,3)]]
 | 212=>fp [cy [(5,3)] [3],af,cy [(7,3)] [6]]
 | 213=>fq [cy [(3,196),(4,3)] [3]] [3]
 | 215=>fq [cz [(5,3)]] [6]
 | 216=>fp [cz [(4,3),(5,3)]]
 | 217=>fp [cz [(4,3),(5,3)]]
 | 219=>fp [cz [(2,4),(3,3)]]
 | 221=>fq [] [5]
 | 227=>fq [cy [(5,183),(6,0),(7,4)] [4,5,6]] [5,6]
 | 228=>fq [cy [(2,215),(3,4),(4,215),(11,3)] [4]] [4]
 | 232=>fq [cy [] [5,6],cy [(20,3)] [5,6],af,cy [] [5,6],cy [(36,3)] [5,6],af,cy [] [5,6],cy [(52,3)] [5,6],af,cy [] [5,6,12]] [5]
 | 236=>fp [af,cz [(2,46),(12,3)]]
 | 237=>fq [af,af,cy [(8,22),(30,3),(6,999999),(28,999999)] [6,8,28,2000008],af,cy [(4,22),(5,27),(8,22),(40,3),(38,999999)] [8,38]] [25]
 | 240=>fp [cy [(9,3)] [3]]
 | 241=>fq [cy [(4,3),(8,3)] [1]] [7000003]
 | 243=>fq [] [8]
 | 245=>fq [] [8]
 | 255=>fq [] [9]
 | 256=>fq [] [9]
 | 257=>fq [cy [(7,26)] [4,7,2000007],cz [(8,3)]] [11]
 | 258=>fp [cy [(2,3),(3,3),(0,999999)] [0,3999999]]
 | 259=>fp [cz [(2,136),(3,46),(4,136),(11,3)]]
 | 261=>fp [cy [(0,136),(1,136)] [2,3,4],af,cz [(10,3)],cz [(10,3)],cy [] [2,3,4],cy [] [3,4],cz [(0,136)],cz [(1,136)]]
 | 263=>fp [cy [] [2]]
 | 267=>fq [] [5]
 | 268=>fp [cz [(8,3)]]
 | 269=>fp [cy [(4,3),(8,3)] [1]]
 | 270=>fq [] [5]
 | 276=>fq [] [5]
 | 279=>fp [cz [(4,3),(8,3)]]
 | 281=>fp [cy [(4,3),(8,3)] [1]]
 | 288=>fp [cz [(8,3)]]
 | 290=>fq [] [5]
 | 292=>fq [af,aa ⟨[(0,9),(2,183),(3,4),(4,183)],[4],true⟩] [4]
 | 297=>fp [cz [(4,3),(7,3)]]
 | 300=>fp [cz [(0,136),(4,136),(5,46),(7,9),(8,3)]]
 | 301=>fq [af,af,af,aa ⟨[(8,22),(0,999999)],[0],true⟩,aa ⟨[(8,22),(0,999999)],[0],true⟩,af,cz [(12,3)]] [10,11]
 | 304=>fp [cy [(3,196)] [0,3],af,cy [(3,196),(5,3)] [3]]
 | 305=>fp [cy [(6,3)] [5],af,cy [(7,3)] [5],af,cy [(12,3)] [11],af,cy [(17,3)] [11]]
 | 307=>fp [cz [(4,3),(5,3)]]
 | 310=>fp [cy [(4,3),(8,3)] [1]]
 | 317=>fp [cz [(4,3),(8,3)]]
 | 327=>fp [af,cy [(1,9)] [0],af,cy [] [0]]
 | 328=>fp [cy [] [3],cy [] [3],af,cy [(26,3)] [5],af,cy [(41,3)] [7]]
 | 332=>fp [cy [(4,3),(8,3)] [1]]
 | 333=>fp [cy [(4,3),(8,3)] [1]]
 | 338=>fp [af,cy [(5,3),(6,3),(0,999999)] [0,1],af,cy [(5,3),(0,999999)] [0]]
 | 339=>fq [] [5]
 | 342=>fq [] [8]
 | 350=>fp [cy [(4,3),(8,3)] [1]]
 | 352=>fq [cy [(7,107)] [7,8]] [10]
 | 355=>fp [cz [(2,4),(3,3)]]
 | 356=>fp [af,cz [(2,4),(3,3)]]
 | 357=>fp [af,cy [] [11],cz [(74,4)],cy [] [11],cy [] [11],cy [] [11]]
 | 358=>fp [cz [(0,3)]]
 | 359=>fq [cy [(5,25),(6,3)] [5],af,cy [(5,25)] [5]] [5]
 | 362=>fp [cz [(2,4),(4,9),(5,3)]]
 | 363=>fq [af,cy [(3,25),(4,9),(5,3)] [3],af,cy [(3,25),(4,9)] [3]] [3]
 | 364=>fp [cz [(3,9),(4,3)],af,cz [(3,9)]]
 | 365=>fp [cz [(2,4),(4,3)]]
 | 366=>fp [cz [(2,4),(3,3)]]
 | 367=>fq [cy [(7,136),(8,3)] [7],af,cy [(7,136)] [7]] [7]
 | 381=>fp [cz [(0,9)]]
 | 382=>fp [cz [(0,9)]]
 | 383=>fp [cy [(3,4),(4,3)] [2]]
 | 384=>fp [cy [(0,9)] [1]]
 | 385=>fp [cy [(0,9)] [1]]
 | 390=>fp [af,cz [(4,9)],cz [(71,4)],cy [] [10],cy [] [10],cy [] [10]]
 | 392=>fq [cy [(2,9),(3,46),(4,25),(11,3)] [4],af,cy [(2,9),(3,46),(4,25)] [4]] [4]
 | 396=>fq [cy [(3,136),(6,9),(18,3)] [3]] [3]
 | 400=>fp [cy [(6,3),(13,3)] [2]]
 | 407=>fp [cy [] [0],cz [(6,282),(7,282),(8,282),(9,282),(10,282),(11,282),(12,282),(13,282),(74,3)],af,cy [(143,3)] [0]]
 | 420=>fp [cz [(3,3)],af,af,cz [(2,3),(4,3)]]
 | 421=>fp [cz [(3,3),(4,3)],af,cz [(3,3)]]
 | 422=>fp [cz [(2,9),(3,4),(4,3)],af,af,cz [(2,9),(3,4),(5,3)]]
 | 423=>fp [cz [(5,4)]]
 | 425=>fp [cz [(2,4),(3,3)]]
 | 426=>fp [af,cz [(4,4),(7,3)]]
 | 439=>fp [cz [(4,3),(12,3)],af,cz [(6,5)]]
 | 442=>fp [cz [(2,4),(6,3)]]
 | 444=>fp [cz [(4,3),(5,3)]]
 | 445=>fp [cz [(9,282),(10,3)],af,af,cz [(4,3),(9,282),(11,3)]]
 | 448=>fp [cy [(9,3),(10,3)] [1,2],af,cz [(9,3),(10,3)]]
 | 453=>fp [cy [(12,3)] [3],af,cy [(22,3)] [3],af,cy [(7,3)] [3]]
 | 462=>fp [af,cz [(2,3),(3,4),(4,3),(5,3)]]
 | 463=>fp [cz [(4,4),(5,3)]]
 | 471=>fp [af,cz [(2,3),(3,4),(4,3),(18,3)]]
 | 475=>fp [cz [(4,282),(5,3)],af,cz [(6,282),(7,282),(8,3)],af,cz [(6,282)]]
 | 514=>fq [] [9]
 | 517=>fp [af,cy [(5,3),(6,3),(0,999999)] [0,1],af,cy [(5,3),(0,999999)] [0]]
 | 518=>fq [] [5]
 | 520=>fp [cy [(4,3),(8,3)] [1]]
 | 528=>fp [cz [(1,136),(4,136),(5,46),(6,9),(25,3)]]
 | 530=>fq [] [55]
 | _=>fp []
def wb:List (Nat×List DV):=[(244,[.self,.buf (.int .u8) 5]),(68,[.dat Hl,.fnc]),(372,[])]
def els:List (Nat×Nat):=[(196,5),(211,172)]
noncomputable def PV:List (Nat×Spc):=[(266,.str 244 5),(343,.chk 244),(55,.clone (.int .i64)),(57,.clone .bool),(221,.clone .str),(267,.clone (.pair .str tp)),(270,.clone Fx),(276,.clone Hk),(290,.clone Ov),(339,.clone pQ),(518,.clone Rk),(92,(.own (.int .i64) .unit true kv)),(222,(.own .str .unit false e8)),(223,(.own .str .unit true lj)),(272,(.own Fx IQ true br)),(274,(.own Hk (.pair (.int .i64)<|.pair (.slice Hk) .unit) true cf)),(278,(.own Hk IQ true dt)),(330,(.own .str (.pair (.int .i64) yi) true gr)),(331,(.own Ov (.pair (.int .i64) afX) true eJ)),(336,(.own .str IQ true gu)),(337,(.own Ov IQ true eK)),(345,(.own Fx (.pair (.int .i64)<|.pair (.slice Fx) .unit) true bQ)),(354,(.own (.pair .str tp) (.pair (.int .i64)<|.pair Ol .unit) true aM)),(412,(.own pQ (.pair (.int .i64)<|.pair (.slice pQ) .unit) true iv)),(417,(.own (.pair .str tp) IQ true bI)),(531,(.own Rk (.pair (.int .i64) vR) true bj))]
noncomputable def tys:List (Nat×Ty):=[(3,(.int .i64)),(4,.bool),(5,(.int .u8)),(9,.str),(21,(.int .i32)),(22,(.slice Hk)),(23,(.slice Fx)),(24,(.slice Ov)),(25,(.slice .str)),(26,(.slice pQ)),(28,jy),(29,(.slice YH1)),(30,PK),(32,Hl),(39,(.slice acJ)),(41,(.slice<|.pair (.int .i64)<|.pair .str Hm)),(45,acJ),(46,(.int .i64)),(48,(.pair (.int .i64)<|.pair .str Hm)),(50,YH1),(60,(.slice jy)),(69,(.slice .bool)),(71,afV),(89,ahJ),(107,Ol),(109,Hk),(112,Fx),(114,Ov),(116,pQ),(119,(.pair .str tp)),(133,PJ),(136,(.slice Rk)),(150,(.slice Hm)),(158,(.int .u64)),(183,WN),(190,(.pair .str yi)),(196,(.slice<|.int .u8)),(199,(.arr 32<|.int .u8)),(202,Rk),(207,Hm),(208,(.arr 4 .str)),(215,(.slice acK)),(271,YH7),(273,(.pair YH7 dJ)),(282,(.int .u32)),(283,(.arr 8<|.int .u32)),(297,acK),(310,(.pair .bool afW)),(311,(.arr 64<|.int .u8)),(313,ajs),(343,(.int .u64)),(344,(.arr 64<|.int .u32)),(348,(.int .i64)),(359,(.arr 256 .bool)),(365,ahK),(368,dJ),(370,dJ),(374,Tz),(384,(.arr 8<|.int .u8)),(397,(.int .u64)),(423,IQ),(424,(.arr 11 IQ)),(426,(.arr 2 .str)),(431,(.arr 256<|.int .u8)),(433,(.pair (.int .u8) Tw)),(434,(.arr 16<|.pair (.int .u8) Tw))]
def nums:List Nat:=([(3,1),(6,5),(13,1),(15,3),(19,20),(41,3),(46,31),(79,1),(86,2),(89,3),(93,51),(145,77),(224,14),(239,27),(267,5),(273,1),(275,3),(279,10),(290,18),(310,14),(327,3),(332,4),(338,5),(344,1),(346,1),(349,5),(355,15),(381,5),(388,16),(407,1),(420,7),(432,2),(437,9),(448,2),(451,4),(462,3),(469,7),(478,1),(511,20)]:List (Nat×Nat)).flatMap λp=>List.range' p.1 p.2
noncomputable def acO:List (Nat×Func):=nums.map λn=>(n,(Tryz.prog.funcs[n]?).getD Tryz.f3)
def vf:List Nat:=[65,66,79,96,120,122,124,172,175,177,180,210,219,224,230,232,234,238,240,241,242,262,276,278,292,301,321,327,331,363,382,401,410,412,418]
def DW:List Nat:=[65,242,292,327,363,382,401,412,418]
noncomputable def KA(d:List (Nat×Rt))(a:List (Nat×T9))(e:List (String×Rt):=[])(b:List (Nat×Hp):=[]):Ctx:=⟨tys,vf,DW,acO,d,a,wb,PV,els,e,b⟩
def mix:Tryz.prog.follows .mixedOrders=true:=by kernel_rfl
def afY:∀tid t,find tys tid=aa t->Den Tryz.prog t tid:=aiL (by kernel_rfl)
def aav:∀tid,dc vf tid=true->(∀w,(isAgg tid).run Tryz.prog w=.ok false w)/\(∀w,(Go.sizeOf tid).run Tryz.prog w=.ok 1 w)/\∃z,(∀w,(zeroValue tid).run Tryz.prog w=.ok z w)/\z.oneCell'=true:=agM (by kernel_rfl)
def aaw:∀tid,dc DW tid=true->∃e,Tryz.prog.underlying tid=aa (.pointer e):=agN (by kernel_rfl)
def aax{f fn}:∀l:List Nat,(l.all λn=>(Tryz.prog.funcs[n]?).isSome)=true->find (l.map λn=>(n,(Tryz.prog.funcs[n]?).getD Tryz.f3)) f=aa fn->Tryz.prog.funcs[f]?=aa fn
 | [],_,h=>by cases h
 | n::l,a,h=>by
   rw[ado,gw] at a;rw[T1] at h;unfold find at h;cases b:Nat.beq n f with
   | true =>
     rw[b] at h;obtain rfl:=gx b;obtain⟨x,d⟩:=Ld.1 a.1;cases h;rw[d];rfl
   | false=>rw[b] at h;exact aax l a.2 h
def afZ:∀f a,find acO f=aa a->Tryz.prog.funcs[f]?=aa a:=λf a h=>aax nums (by kernel_rfl) h
def aay:∀tid a,find wb tid=aa a->OB Tryz.prog tid a=true:=agO (by kernel_rfl)
def af0:∀tid e,find els tid=aa e->Tryz.prog.underlying tid=aa (.slice e):=aiM (by kernel_rfl)
def aaz(d:List (Nat×Rt))(a:List (Nat×T9))(e:List (String×Rt):=[])(b:List (Nat×Hp):=[]):fN Tryz.prog (KA d a e b):=⟨afY,aav,aaw,afZ,aay,af0⟩
noncomputable def cx0:Ctx:=⟨tys,vf,DW,acO,[],[],wb,[],els,[],[]⟩
def ajt:fN Tryz.prog cx0:=⟨afY,aav,aaw,afZ,aay,af0⟩
def rho(f a b t d:Nat):Go.Shelf.Ren:=⟨λx=>if x=29 then a else if x=30 then b else f,λx=>if x=24 then t else if x=9 then d else if x=3 then 3 else if x=4 then 4 else 0,λx=>x⟩
def Y0{e:Ty}{f:Nat}{h j:Func}(a b t d:Nat)(k:Tryz.prog.funcs[f]?=aa h)(m:Tryz.prog.funcs[a]?=aa j)
  (n:h={ Body2.n22 (rho f a b t d) with name:=h.name }:=by kernel_rfl) (o:(h.name == "runtime.NumGoroutine")=false:=by kernel_rfl)
  (p:(j.name == "runtime.NumGoroutine")=false:=by kernel_rfl) (s:j.body.isNone=true:=by kernel_rfl) (u:Extern.findNext j=none:=by kernel_rfl) (v:Extern.find j=aa (Extern.SlicesOverlaps.overlaps #[t,t] #[4]):=by kernel_rfl)
  (y:Tryz.prog.underlying 3=aa (TypeDesc.int IntKind.i64):=by kernel_rfl) (z:Tryz.prog.underlying 4=aa TypeDesc.bool:=by kernel_rfl) (A:Tryz.prog.underlying t=aa (TypeDesc.slice d):=by kernel_rfl)
  (B:gf Tryz.prog e false d 0 []=true:=by kernel_rfl) (C:EH Tryz.prog d=true:=by kernel_rfl) (D:0<e.size:=by decide) (E:e.isInt=false:=by decide) :
  pR Tryz.prog f (.own e (.pair (.int .i64)<|.pair (.slice e) .unit) true λl x=>tR (α:=e.den) l x.1 x.2.1):=by
 have g:Den Tryz.prog e d:=B;obtain⟨I,J,F,G,K,L⟩:=g.info;exact agP (ρ:=rho f a b t d) (nm:=h.name) ⟨mix,k.trans (congrArg aa n),λH w=>run_callFunc_extern (e:=Extern.SlicesOverlaps.overlaps #[t,t] #[4]) m p s u v H w,y,z,A,g.sizeOf,by show(Tryz.prog.info? d).map (·.size)=_;simp[F,G]⟩ o g C D E
def af1{e:Ty}{f:Nat}{b:Func}(t d:Nat)(g:Tryz.prog.funcs[f]?=aa b)
  (h:b={ Body2.n24 (rho f 0 0 t d) with name:=b.name }:=by kernel_rfl) (j:(b.name == "runtime.NumGoroutine")=false:=by kernel_rfl)
  (k:Tryz.prog.underlying 3=aa (TypeDesc.int IntKind.i64):=by kernel_rfl) (m:Tryz.prog.underlying 4=aa TypeDesc.bool:=by kernel_rfl) (n:Tryz.prog.underlying t=aa (TypeDesc.slice d):=by kernel_rfl)
  (o:gf Tryz.prog e false d 0 []=true:=by kernel_rfl) (p:0<e.size:=by decide) :
  pR Tryz.prog f (.own e IQ true λl x=>Ka (α:=e.den) l x.1 x.2.1):=by
 have a:Den Tryz.prog e d:=o;obtain⟨A,s,u,B,v,y⟩:=a.info;exact agQ (ρ:=rho f 0 0 t d) (nm:=b.name) (z:=s) ⟨mix,g.trans (congrArg aa h),k,m,n,a.sizeOf,λw=>U7 u v w⟩ j y p
def TA{e:Ty}{f:Nat}{a:Func}(b:Nat)(o:Tryz.prog.funcs[f]?=aa a){h j k m o0 o1 n}(d:(a.name == "runtime.NumGoroutine")=false:=by kernel_rfl)
  (g:a.body=aa (.seq j<|.seq (.seq (.region h #[o0,o1] false)<|.cond (.tmp 4) (.seq k .ret) .skip)<|.seq m .ret):=by rfl)
  (p:find cx0.T b=aa (.slice e):=by rfl) (s:4<a.ntmps:=by decide) (u:∀t∈writes j++(writes k++writes m),t<a.ntmps:=by decide)
  (v:o0.guard=none:=by rfl) (w:o0.dst=aa 3:=by rfl) (x:o0.op=.move (.tmp 0):=by rfl) (y:o1.guard=none:=by rfl) (z:o1.dst=aa 4:=by rfl) (A:o1.op=.binOp .eql b (.tmp 3) (.const<|.slice af 0 0) n:=by rfl)
  (B:∀l:List e.den,(js cx0 0 [2,5] zD j []<|yu (λ_=>af) [.data (.slice e) l]).run=aa (0,((yu (λ_=>af) [.data (.slice e) l]).cw 2 { val:=.data (.slice e) ([]:List e.den),tid:=0,buf:=true,ro:=false,lk:=false,aP:=0 }).put 2 (.whole 2 0)):=by intro l;rfl)
  (C:∀l:List e.den,aek cx0 [2,5] a.results.toList e (.seq k .ret) (((yu (λ_=>af) [.data (.slice e) l]).cw 2 { val:=.data (.slice e) ([]:List e.den),tid:=0,buf:=true,ro:=false,lk:=false,aP:=0 }).put 2<|.whole 2 0)=aa []:=by intro l;rfl)
  (D:∀l:List e.den,aek cx0 [2,5] a.results.toList e (.seq m .ret) (((yu (λ_=>af) [.data (.slice e) l]).cw 2 { val:=.data (.slice e) ([]:List e.den),tid:=0,buf:=true,ro:=false,lk:=false,aP:=0 }).put 2<|.whole 2 0)=ak (fits<|plus (len ([]:List e.den))<|len (α:=e.den) l) (aa<|app (α:=e.den) [] l) none:=by intro l;rfl) :
  pR Tryz.prog f (.clone e):=by
 refine aa7 (cx:=cx0) (bf:=[2,5]) (tid:=b) mix ajt (MF Sk MD Zx Sl ME) o d g p s u v w x y z A B (λl=>rfl) (λl=>rfl) (λl=>rfl) C (λl E=>?_);refine(D l).trans ?_;rw[show plus (len ([]:List e.den)) (len l)=len l by simp[plus,len],E];rfl
def af2:∀p∈PV,pR Tryz.prog p.1 p.2:=(dC zu<|dC wW<|dC (TA 30 Tryz.func55)<|dC (TA 69 Tryz.func57)<|dC (TA 25 Tryz.func221)<|dC (TA 107 Tryz.func267)<|dC (TA 23 Tryz.func270)<|dC (TA 22 Tryz.func276)<|dC (TA 24 Tryz.func290)<|dC (TA 26 Tryz.func339)<|dC (TA 136 Tryz.func518)<|dC (Sp Tryz.func92 (by kernel_rfl) (by kernel_rfl) (Any.slices_Compact_int Tryz.Rj)<|Any.slices_Compact_int_empty Tryz.Rj)<|dC (aem Tryz.func222 (by kernel_rfl) (by kernel_rfl) (Any.slices_Sort_string Tryz.aaq)<|Any.slices_Sort_string_none Tryz.aaq)<|dC (Vb Tryz.func223 (by kernel_rfl) (by kernel_rfl) (Any.slices_Compact_string Tryz.aar)<|Any.slices_Compact_string_empty Tryz.aar)<|dC (af1 23 112 Tryz.func272)<|dC (Y0 347 348 22 109 Tryz.func274 Tryz.func347)<|dC (af1 22 109 Tryz.func278)<|dC (Y0 408 409 25 9 Tryz.func330 Tryz.func408)<|dC (Y0 410 411 24 114 Tryz.func331 Tryz.func410)<|dC (af1 25 9 Tryz.func336)<|dC (af1 24 114 Tryz.func337)<|dC (Y0 414 415 23 112 Tryz.func345 Tryz.func414)<|dC (Y0 418 419 107 119 Tryz.func354 Tryz.func418)<|dC (Y0 457 458 26 116 Tryz.func412 Tryz.func457)<|dC (af1 107 119 Tryz.func417)<|dC (Y0 532 533 136 202 Tryz.func531 Tryz.func532) Zx)
def TB(d:List (Nat×Rt))(a:List (Nat×T9))(e:List (String×Rt):=[])(b:List (Nat×Hp):=[]):Qf (KA d a e b):=aee (cx:=KA d a e b) (show(acO.all λp=>XM p.2)=true by kernel_rfl)
abbrev Om(c:List (Nat×Rt))(r:List (Nat×T9))(i:List (String×Rt))(q:List (Nat×Hp)):Prop:=pS Tryz.prog dE (KA c r i q)
noncomputable def hasB(f:Nat):Bool:=match find acO f with|some fn=>fn.body.isSome|none=>false
def TC{f}(h:hasB f=true):∃b a,find acO f=aa b/\b.body=aa a:=by
 unfold hasB at h;split at h
 .obtain⟨a,d⟩:=Ld.1 h;exact⟨_,a,by assumption,d⟩
 .cases h
section
variable {c:List (Nat×Rt)} {r:List (Nat×T9)} {i:List (String×Rt)} {q:List (Nat×Hp)}
def On{e:Type}{P:Nat->e->Prop}{l:List (Nat×e)}(h:∀f c,find l f=aa c->P f c){g a}(k:P g a):∀f c,find ((g,a)::l) f=aa c->P f c:=λf c b=>by
 unfold find at b;cases d:Nat.beq g f with
 | true=>rw[d] at b;cases b;exact gx d▸k
 | false=>rw[d] at b;exact h f c b
def Om.TH(H:Om c r i q){f a}(h:Holds Tryz.prog dE f a):Om ((f,a)::c) r i q:=⟨On H.Ua h,H.OA,H.PV,H.inv,H.Ru⟩
def Oo{e:Type}{n f:Nat}{x:e}:∀l:List (Nat×e),find (l.filter λp=>!Nat.beq p.1 n) f=aa x->find l f=aa x
 | [],h=>h
 | (g,a)::l,h=>by
   unfold find;rw[ade] at h;cases d:Nat.beq g n with
   | true =>
     rw[aK<|by simp[d]] at h;have j:=Oo l h;cases b:Nat.beq g f with
     | true =>
       obtain rfl:=gx b;obtain rfl:=gx d;exact absurd (ss h) (by simp[zx])
     | false=>exact j
   | false =>
     rw[aQ<|by simp[d]] at h;unfold find at h;cases b:Nat.beq g f with
     | true=>rw[b] at h;exact h
     | false=>rw[b] at h;exact Oo l h
def Om.hxn(H:Om c r i q)(n:Nat):Om (c.filter λp=>!Nat.beq p.1 n) r i q:=⟨λf a h=>H.Ua f a (Oo _ h),H.OA,H.PV,H.inv,H.Ru⟩
def Om.hxq(H:Om c r i q){f a}(h:oh Tryz.prog dE f a):Om c r i [(f,a)]:=⟨H.Ua,H.OA,H.PV,H.inv,On (λ_ _ h=>by cases h) h⟩
def Om.hxv(H:Om c r i q){f d}(h:AE Tryz.prog dE f d):Om c r ((f,d)::i) q:=⟨H.Ua,H.OA,H.PV,λg a b=>by
 change (bif decide (f=g) then aa d else PW i g)=aa a at b;by_cases e:f=g
 .rw[cU e] at b;cases b;exact e▸h
 .rw[cd e] at b;exact H.inv g a b,H.Ru⟩
def Om.hxo(H:Om c r i q){f a}(h:find c f=aa a:=by rfl):Holds Tryz.prog dE f a:=H.Ua f a h
def Om.bB(H:Om c r i q)(f:Nat)(A R:Ty)(a:A.den->Option R.den)(d:hasB f=true:=by kernel_rfl)
  (e:∀x,sem (KA c r i q) 12 gY f A R x=a x:=by intro x;kernel_rfl):Om ((f,⟨A,R,a⟩)::c) r i q:=by
 obtain⟨k,b,g,j⟩:=TC d;exact H.TH (Sj mix (aaz c r i q) H (TB c r i q) (f:=f) g j λx y h=>by rw[e];exact h)
def Om.hxr(H:Om c r i q)(f:Nat)(b:List Bool)(A U R:Ty)(a:A.den×U.den->Option (R.den×U.den))(e:hasB f=true:=by kernel_rfl)
  (g:∀x,aj8 (KA c r i q) 12 gY f b A U R x=a x:=by intro x;kernel_rfl):Om c ((f,⟨b,A,U,R,a⟩)::r) i q:=by
 obtain⟨l,d,j,k⟩:=TC e;exact⟨H.Ua,On H.OA (O3 mix (aaz c r i q) H (TB c r i q) (f:=f) j k λx y h=>by rw[g];exact h),H.PV,H.inv,H.Ru⟩
def Om.hxf(H:Om c r i q){f:Nat}{T F:Nat}{t A U R:Ty}{a:(t.den×A.den)×U.den->Option (R.den×U.den)}(d:hasB f=true:=by kernel_rfl)
  (e:∀x,aj9 (KA c r i q) 12 gY f T F t A U R x=a x:=by intro x;kernel_rfl):oh Tryz.prog dE f ⟨T,t,F,A,U,R,a⟩:=by
 obtain⟨k,b,g,j⟩:=TC d;exact O4 mix (aaz c r i q) H (TB c r i q) (f:=f) g j (λx y h=>by rw[e];exact h)
end
def TD{f:Nat}{a:Func}(e:Ty)(b:Nat)(p:Tryz.prog.funcs[f]?=aa a){h j k m o0 o1 n}(spec)(o:spec=λx=>bif fits (len (α:=e.den) x.1) then aa x else none:=by rfl)(d:(a.name == "runtime.NumGoroutine")=false:=by kernel_rfl)
  (g:a.body=aa (.seq j<|.seq (.seq (.region h #[o0,o1] false)<|.cond (.tmp 4) (.seq k .ret) .skip)<|.seq m .ret):=by rfl)
  (s:find (KA [] []).T b=aa (.slice e):=by rfl) (u:4<a.ntmps:=by decide) (v:∀t∈writes j++(writes k++writes m),t<a.ntmps:=by decide)
  (w:o0.guard=none:=by rfl) (y:o0.dst=aa 3:=by rfl) (z:o0.op=.move (.tmp 0):=by rfl) (A:o1.guard=none:=by rfl) (B:o1.dst=aa 4:=by rfl) (C:o1.op=.binOp .eql b (.tmp 3) (.const<|.slice af 0 0) n:=by rfl)
  (D:∀l:List e.den,(js (KA [] []) 0 [5] zD j []<|yu (λ_=>af) [.data (.slice e) l]).run=aa (0,(yu (λ_=>af) [.data (.slice e) l]).put 2 (.data (.slice e) ([]:List e.den))):=by intro l;rfl)
  (E:∀l:List e.den,aej (KA [] []) [5] a.results.toList (.pair (.slice e) .unit) (.seq k .ret) ((yu (λ_=>af) [.data (.slice e) l]).put 2<|.data (.slice e) ([]:List e.den))=aa (([]:List e.den),()):=by intro l;rfl)
  (F:∀l:List e.den,aej (KA [] []) [5] a.results.toList (.pair (.slice e) .unit) (.seq m .ret) ((yu (λ_=>af) [.data (.slice e) l]).put 2<|.data (.slice e) ([]:List e.den))=ak (fits<|plus (len ([]:List e.den))<|len (α:=e.den) l) (aa (app (α:=e.den) [] l,())) none:=by intro l;rfl) :
  Holds Tryz.prog dE f ⟨.pair (.slice e) .unit,.pair (.slice e) .unit,spec⟩:=by
 subst o;refine U6 (cx:=KA [] []) (bf:=[5]) (tid:=b) mix (aaz [] []) (MF Sk MD af2 Sl ME) p d g s u v w y z A B C D (λl=>rfl) (λl=>rfl) (λl=>rfl) E (λl G=>?_);refine(F l).trans ?_;rw[show plus (len ([]:List e.den)) (len l)=len l by simp[plus,len],G];rfl
def Xi:=(show Om [] [] [] [] from MF Sk MD af2 Sl ME)
 |>.bB 79 (.pair (.slice .str) yi) gV eP
 |>.bB 317 (.pair (.slice .str) dJ) jL eO
 |>.bB 231 (.pair (.slice .str) dJ) gV bC
 |>.bB 444 (.pair .str Tw) jL dd
 |>.bB 475 dJ (.pair (.int .u32)<|.pair (.int .u32) .unit) ha
 |>.bB 445 tp jL eX
 |>.bB 397 tp jL pY
 |>.bB 320 dJ tp gh
 |>.bB 349 tp gV cu
 |>.bB 283 tp gV cB
def Oq:Holds Tryz.prog dE 289 ⟨(.pair (.slice .str) dJ),dJ,kS⟩:=XT Tryz.func289 (by kernel_rfl) (by kernel_rfl) (Any.strings_Join_none Tryz.aas Tryz.yY) (Any.strings_Join Tryz.aas Tryz.yY)
def xz:=Xi
 |>.TH Oq
def KB:Holds Tryz.prog dE 447 ⟨tp,yi,vK⟩:=U9 Tryz.func447 (by kernel_rfl) (by kernel_rfl) (λs b w a=>Any.EY Tryz.ahG (by kernel_rfl) s b w a)
def hx3:=xz
 |>.TH KB
 |>.bB 401 dJ yi ff
def tq:Holds Tryz.prog dE 446 ⟨(.pair .str Tw),jL,fj⟩:=Sn (spec:=λs c=>Lib.indexByte s (show Int from c).toNat.toUInt8) Tryz.func446 (by kernel_rfl) (by kernel_rfl) (λs c=>Bs _ s) (λs c w=>by
 go_enter Tryz.func446,Tryz.ntmps446
 go_wp2
 rw[run_callFunc_extern Tryz.func476 (by kernel_rfl) (by kernel_rfl) (by kernel_rfl) (e:=Extern.BytealgIndexByte.indexByte)<|by kernel_rfl,Lib.run_indexByteString];simp only[Result.andThen];rw[Oper.upon_value]
 go_wp2
 go_ret
 exact⟨rfl,rfl⟩)
def hx4:=hx3
 |>.TH tq
 |>.bB 399 (.pair .str Tw) jL dv
 |>.bB 442 dJ gV sy
 |>.bB 392 dJ pQ qc
 |>.bB 474 tp (.pair .str gV) fk
 |>.bB 443 tp (.pair .str gV) kE
 |>.bB 393 dJ Hm sz
 |>.bB 398 dJ gV uC
 |>.bB 321 Tz gV zT
 |>.bB 432 dJ gV iK
 |>.bB 402 tp jL jX
 |>.bB 322 tp jL gO
 |>.bB 449 (.pair Rk dJ) jL mB
 |>.bB 403 IP (.pair (.int .i64) gV) ej
 |>.bB 323 IP jL ow
 |>.bB 236 vR jL ek
 |>.bB 516 tp gV dz
 |>.TH (TD Rk 136 Tryz.func518 nu)
 |>.bB 530 (.pair (.slice Rk) Tz) BO tT
 |>.bB 86 yi gV lN
 |>.bB 87 (.pair Ol .unit) gV ep
 |>.bB 42 (.pair ahJ .unit) gV rL
 |>.bB 43 afX gV yL
 |>.bB 17 yj gV yM
def hx5:=hx4
 |>.bB 46 yi gV pn
 |>.bB 19 (.pair acJ .unit) gV ql
 |>.bB 20 (.pair Hl .unit) gV Cr
 |>.bB 6 acM gV Cs
 |>.bB 51 (.pair YH1 jL) gV uW
 |>.bB 52 (.pair YH1 .unit) gV nT
 |>.TH (TD (.int .i64) 30 Tryz.func55 AW)
 |>.bB 220 jL gV ra
 |>.bB 145 IQ gV te
 |>.bB 91 Fw gV fR
 |>.bB 53 Fw gV tf
 |>.bB 21 (.pair Hl .unit) jL fL
 |>.bB 56 (.pair YH1 .unit) jL wL
 |>.TH (TD .bool 69 Tryz.func57 zl)
 |>.TH (TD .str 25 Tryz.func221 aX)
 |>.bB 381 (.pair .str Tw) dJ hM
 |>.bB 382 (.pair .str Tw) dJ eW
 |>.bB 383 dJ (.pair (.arr 256 .bool) gV) eh
 |>.hxr 433 [true,false] Tw (.pair (.arr 256 .bool) .unit) gV cJ
 |>.hxr 384 [false,true] dJ (.pair (.arr 256 .bool) .unit) dJ gG
 |>.hxr 385 [false,true] dJ (.pair (.arr 256 .bool) .unit) dJ dM
 |>.bB 311 tp dJ iJ
 |>.bB 226 dJ gV mJ
 |>.bB 148 yi jL gi
def hx6:=hx5
 |>.hxr 388 [true,false] gV (.pair ahK .unit) (.pair (.pair YH7 dJ) gV) eC
 |>.bB 389 dJ gV uy
 |>.bB 469 .unit (.pair (.arr 11 IQ) .unit) mA
 |>.bB 437 pQ dJ ca
 |>.bB 470 tp dJ ez
 |>.bB 471 dJ (.pair (.int .i64) gV) dG
 |>.bB 438 dJ jL dw
 |>.bB 439 dJ jL wo
 |>.bB 440 dJ (.pair .str gV) kp
 |>.bB 472 IQ gV lL
 |>.bB 473 pQ gV ot
 |>.bB 441 (.pair YH7 jL) gV rJ
 |>.bB 390 dJ (.pair YH7 jL) fe
 |>.bB 391 jL jL xJ
 |>.hxr 313 [true] .unit (.pair ahK .unit) (.pair (.pair YH7 dJ) gV) bX
 |>.hxr 314 [true] .unit (.pair ahK .unit) gV iz
 |>.bB 227 dJ (.pair WN jL) fY
 |>.bB 394 tp dJ pb
 |>.bB 396 Tz gV en
 |>.bB 395 dJ gV mG
 |>.bB 513 IP vR uE
 |>.bB 511 (.pair dJ vR) vR jl
 |>.bB 512 (.pair dJ vR) BO vV
 |>.bB 523 IP vR wq
def hx7:=hx6
 |>.bB 521 (.pair dJ vR) vR gH
 |>.bB 522 (.pair dJ vR) BO tF
 |>.bB 525 (.pair .unit vR) vR tG
 |>.bB 526 (.pair .unit vR) BO vW
 |>.bB 527 (.pair Tz vR) vR tH
 |>.bB 529 IP (.pair Rk gV) yE
 |>.bB 528 (.pair Tz vR) BO kF
 |>.bB 315 (.pair (.pair YH7 dJ) .unit) (.pair acK gV) sF
 |>.bB 228 (.pair WN .unit) (.pair (.slice acK) gV) mH
 |>.bB 150 dJ jL gP
 |>.bB 232 (.pair (.int .i64)<|.pair ahJ .unit) Kz rm
 |>.bB 155 yj Kz lr
 |>.bB 192 (.pair PJ dJ) pQ iu
 |>.bB 152 (.pair jy dJ) pQ eI
 |>.bB 229 (.pair PJ dJ) jL wB
 |>.bB 154 (.pair PJ<|.pair .str yi) jL hS
 |>.bB 240 dJ dJ lV
 |>.bB 233 jL dJ yJ
 |>.bB 157 (.pair PJ jL) pQ iQ
 |>.bB 159 (.pair (.slice Ov) dJ) (.pair (.slice Ov) jL) uP
 |>.bB 244 yj yi nh
 |>.bB 254 (.pair Ov .unit) dJ vL
 |>.bB 170 (.pair jy dJ) (.pair Ov<|.pair .str gV) ks
def PL:AE Tryz.prog dE "cooperage/overlay.clears" ⟨(.pair acK vR),vR,wv⟩:=(oe (hx7.hxo (f:=511)) (λv w=>by kernel_rfl) rfl (oe (hx7.hxo (f:=521)) (λv w=>by kernel_rfl) rfl (oe (hx7.hxo (f:=525)) (λv w=>by kernel_rfl) rfl (oe (hx7.hxo (f:=527)) (λv w=>by kernel_rfl) rfl LS))))
def hx8:=hx7
 |>.hxv PL
def WO:AE Tryz.prog dE "cooperage/overlay.puts" ⟨(.pair acK vR),BO,AJ⟩:=(oe (hx8.hxo (f:=512)) (λv w=>by kernel_rfl) rfl (oe (hx8.hxo (f:=522)) (λv w=>by kernel_rfl) rfl (oe (hx8.hxo (f:=526)) (λv w=>by kernel_rfl) rfl (oe (hx8.hxo (f:=528)) (λv w=>by kernel_rfl) rfl LS))))
def hx9:=hx8
 |>.hxv WO
 |>.bB 237 (.pair (.slice Rk)<|.pair WN .unit) BO uG
 |>.bB 162 IP BO jD
 |>.bB 259 yi BO qh
def TE:Holds Tryz.prog dE 171 ⟨(.pair jy dJ),BO,mh⟩:=(hx9.hxn 159 |>.bB 171 (.pair jy dJ) BO mh).hxo
def amQ:=hx9
 |>.TH TE
 |>.bB 161 (.pair jy dJ) BO iV
 |>.bB 163 jL C1 dX
def IU:Holds Tryz.prog dE 238 ⟨pQ,dJ,oV⟩:=O6 (spec:=fV) Tryz.func238 (by kernel_rfl) (by kernel_rfl) (λ_ _ _ h=>Cj h) (λs c w y e f a=>by
 obtain⟨b,d,rfl⟩:=tE a;have g:(IntKind.i64).max=9223372036854775807:=aD;obtain⟨n,rfl⟩:=TM b;exact(Any.strings_Repeat Tryz.ahH Tryz.Hj) s n w ah d)
def amR:=amQ
 |>.TH IU
 |>.bB 164 .unit dJ zh
 |>.bB 451 .unit afW vq
 |>.bB 452 .unit (.pair (.arr 64<|.int .u32) .unit) Ck
 |>.bB 478 (.pair (.int .u32) jL) (.pair (.int .u32) .unit) ko
 |>.bB 454 (.pair (.int .u32) jL) (.pair (.int .u32) .unit) cm
 |>.bB 453 (.pair (.arr 64<|.int .u8) .unit) (.pair (.arr 64<|.int .u32) .unit) sv
 |>.hxr 327 [true,false] dJ (.pair ajs .unit) .unit fW
 |>.hxr 328 [true] .unit (.pair ajs .unit) (.pair (.arr 32<|.int .u8) .unit) oW
 |>.bB 239 dJ (.pair (.arr 32<|.int .u8) .unit) Dm
 |>.bB 165 dJ dJ oo
 |>.bB 243 (.pair (.slice .str) Hm) yi kP
 |>.TH (TD Ov 24 Tryz.func290 rr)
 |>.bB 245 (.pair (.slice Ov)<|.pair (.int .i64)<|.pair Ov .unit) afX hW
 |>.bB 166 (.pair jy<|.pair Ov dJ) yj sN
 |>.bB 93 acL (.pair jy C1) jG
 |>.bB 167 (.pair jy dJ) gV pz
 |>.bB 252 (.pair pQ .unit) dJ qR
 |>.bB 168 (.pair jy dJ) jL de
 |>.bB 255 (.pair (.slice .str) jL) yi hY
 |>.bB 256 (.pair (.slice Ov) jL) afX fP
 |>.TH (TD pQ 26 Tryz.func339 ru)
 |>.bB 342 (.pair (.slice pQ)<|.pair (.int .i64)<|.pair pQ .unit) (.pair (.slice pQ) .unit) bH
 |>.bB 257 (.pair jy pQ) yj qi
def amS:=amR
 |>.bB 169 (.pair jy dJ) yj jH
 |>.bB 94 (.pair jy dJ) (.pair jy C1) vN
 |>.bB 95 (.pair jy dJ) C1 zi
 |>.bB 172 (.pair (.slice Rk) vR) (.pair (.slice Hm) jL) qz
 |>.bB 173 (.pair (.slice Hm) .unit) dJ wu
 |>.bB 96 (.pair jy dJ) C1 tV
 |>.bB 174 (.pair jy pQ) (.pair jy C1) pC
 |>.bB 97 (.pair jy dJ) (.pair jy C1) Cp
 |>.bB 98 (.pair jy dJ) (.pair jy C1) zW
 |>.bB 175 jL C1 iP
 |>.bB 176 yj Kz gq
 |>.bB 182 (.pair Fx .unit) dJ dN
 |>.TH (TD (.pair .str tp) 107 Tryz.func267 bL)
 |>.TH (TD Fx 23 Tryz.func270 rp)
 |>.bB 177 (.pair jy<|.pair Fx .unit) yj gk
 |>.bB 99 acL (.pair jy C1) qJ
 |>.bB 178 (.pair jy dJ) pQ nf
 |>.bB 100 (.pair jy dJ) (.pair jy C1) qK
 |>.bB 183 jL C1 ku
 |>.bB 184 yj Kz nj
 |>.bB 185 (.pair jy dJ) (.pair Fx gV) px
 |>.TH (TD Hk 22 Tryz.func276 tW)
 |>.bB 186 (.pair jy<|.pair Hk .unit) yj j8
 |>.bB 101 acL (.pair jy C1) sR
def aju:=amS
 |>.bB 187 (.pair jy dJ) pQ wG
 |>.bB 188 (.pair jy dJ) (.pair Hk gV) rM
 |>.bB 102 (.pair jy dJ) (.pair jy C1) sT
 |>.bB 105 jL C1 eL
 |>.bB 279 (.pair PK jL) jL ib
 |>.bB 190 (.pair PK jL) gV dD
 |>.bB 280 (.pair acJ Fw) Fw xM
 |>.bB 191 (.pair acJ .unit) Fw qk
 |>.bB 193 (.pair jy jL) Kz uR
 |>.bB 287 (.pair (.pair .str tp) .unit) dJ bY
 |>.bB 195 (.pair Ol dJ) pQ lq
 |>.bB 196 (.pair Ol tp) (.pair Ol jL) lp
 |>.bB 103 acN (.pair jy C1) AO
 |>.bB 197 Kz dJ zj
 |>.bB 198 (.pair jy<|.pair (.int .i64)<|.pair .str yi) yj gS
 |>.bB 104 acN (.pair jy C1) xN
 |>.bB 58 acN (.pair jy C1) xO
 |>.bB 59 (.pair YH1<|.pair YH1 .unit) gV lA
noncomputable def ij(s:((Hl:Ty).den×((.pair afV .unit):Ty).den)×(Fw:Ty).den->Option ((gV:Ty).den×(Fw:Ty).den)):Hp:=⟨68,Hl,38,(.pair afV .unit),Fw,gV,s⟩
def wX(rec)(a:oh Tryz.prog dE 76 (ij rec)):oh Tryz.prog dE 76 (ij<|jb rec):=(aju.hxq a).hxf
def yk:oh Tryz.prog dE 76 (ij fx):=MG Tryz.func76 (by kernel_rfl) (by kernel_rfl) wX bZ tw tz tZ
def C2:Holds Tryz.prog dE 13 ⟨acM,(.pair PK jL),tg⟩:=(aju.hxq yk |>.bB 13 acM (.pair PK jL) tg).hxo
def ajv:=aju
 |>.TH C2
 |>.bB 15 (.pair PK Fw) gV tX
noncomputable def ik(s:((Hl:Ty).den×((.pair afV .unit):Ty).den)×(.unit:Ty).den->Option ((gV:Ty).den×(.unit:Ty).den)):Hp:=⟨68,Hl,41,(.pair afV .unit),.unit,gV,s⟩
def wY(rec)(a:oh Tryz.prog dE 76 (ik rec)):oh Tryz.prog dE 76 (ik<|jc rec):=(ajv.hxq a).hxf
def yl:oh Tryz.prog dE 76 (ik fy):=MG Tryz.func76 (by kernel_rfl) (by kernel_rfl) wY b0 tB tC ua
def C3:Holds Tryz.prog dE 16 ⟨acM,(.pair .bool jL),lB⟩:=(ajv.hxq yl |>.bB 16 acM (.pair .bool jL) lB).hxo
def amT:=ajv
 |>.TH C3
 |>.bB 8 (.pair jy<|.pair Hl Fw) (.pair jy gV) rb
 |>.bB 60 (.pair Hl .unit) gV uY
 |>.bB 25 (.pair Hl .unit) jL qn
 |>.bB 29 (.pair YH1 .unit) gV mm
 |>.bB 61 (.pair YH1 .unit) jL kx
 |>.bB 26 (.pair (.slice YH1)<|.pair PK<|.pair (.slice .bool) jL) gV uZ
 |>.bB 27 (.pair (.slice YH1)<|.pair PK<|.pair (.slice .bool) IQ) gV wM
 |>.bB 219 dJ gV oC
 |>.bB 199 yi gV uL
 |>.bB 106 yi jL gj
 |>.bB 107 jL C1 bR
 |>.bB 355 dJ gV wy
 |>.bB 356 dJ gV wz
 |>.bB 462 dJ (.pair (.int .i64) gV) nI
 |>.bB 420 dJ jL ft
 |>.bB 421 dJ jL yD
 |>.bB 422 dJ (.pair .str gV) ph
 |>.bB 463 pQ gV na
 |>.bB 464 IQ gV rl
 |>.bB 423 (.pair YH7 jL) gV vt
 |>.bB 357 dJ (.pair YH7 jL) pj
 |>.bB 358 jL jL nc
 |>.bB 292 dJ (.pair WN gV) uH
def amU:=amT
 |>.bB 200 dJ (.pair WN jL) l5
 |>.bB 363 dJ yi ed
 |>.bB 364 yi dJ pa
 |>.bB 294 dJ tp kr
 |>.bB 424 tp gV ou
 |>.bB 360 dJ Hm sB
 |>.bB 425 dJ gV sA
 |>.bB 365 dJ gV xK
 |>.bB 366 dJ gV sC
 |>.bB 295 Tz gV lM
 |>.bB 302 (.pair (.pair YH7 dJ) dJ) Tz sG
 |>.bB 359 dJ pQ uA
 |>.bB 361 tp dJ pc
 |>.bB 362 dJ gV lh
 |>.bB 293 (.pair (.pair YH7 dJ) .unit) (.pair (.int .i64)<|.pair .str gV) pf
 |>.bB 201 (.pair WN .unit) gV qf
 |>.bB 108 dJ jL nd
 |>.bB 204 (.pair (.int .i64)<|.pair ahJ .unit) Kz rn
 |>.bB 111 yj Kz kt
 |>.bB 218 tp gV xL
 |>.bB 138 (.pair PJ dJ) pQ j7
 |>.bB 109 (.pair jy dJ) pQ eR
 |>.bB 202 (.pair PJ dJ) jL wC
 |>.bB 203 (.pair (.slice .str) dJ) gV yG
def amV:=amU
 |>.bB 110 (.pair PJ<|.pair .str yi) jL l6
 |>.bB 205 jL dJ AN
 |>.bB 112 (.pair PJ jL) pQ ni
 |>.bB 206 (.pair (.slice Ov) dJ) jL AK
 |>.bB 113 (.pair (.slice Ov) dJ) (.pair (.slice Ov) jL) ng
 |>.bB 207 (.pair jy jL) dJ j6
 |>.bB 208 (.pair jy dJ) jL sM
 |>.bB 307 IP jL hR
 |>.bB 296 IP gV ox
 |>.bB 297 tp jL jA
 |>.bB 210 vR gV iL
 |>.bB 426 tp gV uB
 |>.bB 367 (.pair (.slice Rk)<|.pair .str gV) vR jC
 |>.bB 298 IP vR sD
 |>.bB 299 IP vR uF
 |>.bB 214 IP (.pair Rk gV) pe
 |>.bB 301 (.pair (.slice Rk) Tz) BO oy
 |>.bB 300 IP BO wx
 |>.bB 211 (.pair (.slice Rk)<|.pair WN .unit) BO yF
 |>.bB 116 IP BO qg
 |>.bB 209 yi BO yN
 |>.bB 114 (.pair jy dJ) BO ma
 |>.bB 115 .unit dJ wF
 |>.bB 117 (.pair jy<|.pair Ov dJ) yj sO
def amW:=amV
 |>.bB 303 .unit afW zf
 |>.bB 304 dJ dJ uw
 |>.bB 368 (.pair (.int .u32) jL) (.pair (.int .u32) .unit) cr
 |>.bB 369 .unit (.pair (.arr 64<|.int .u32) .unit) xI
 |>.bB 305 (.pair (.arr 8<|.int .u32) dJ) afW ux
 |>.bB 212 dJ (.pair (.arr 32<|.int .u8) .unit) yC
 |>.bB 306 jL Tw qb
 |>.bB 213 dJ dJ vr
 |>.bB 118 dJ dJ tS
 |>.bB 62 acL (.pair jy C1) oE
 |>.bB 119 (.pair jy dJ) gV sU
 |>.bB 120 (.pair jy dJ) jL fw
 |>.bB 125 (.pair jy pQ) yj nk
 |>.bB 121 (.pair jy dJ) yj mL
 |>.bB 63 (.pair jy dJ) (.pair jy C1) xP
 |>.bB 122 (.pair jy dJ) (.pair Ov<|.pair .str gV) qj
 |>.bB 64 (.pair jy dJ) C1 AQ
 |>.bB 215 (.pair (.slice Hm)<|.pair Hm .unit) (.pair (.slice Hm) .unit) rK
 |>.bB 123 (.pair (.slice Rk) vR) (.pair (.slice Hm) jL) mF
 |>.bB 124 (.pair (.slice Hm) .unit) dJ sE
 |>.bB 65 (.pair jy dJ) C1 vO
 |>.bB 66 (.pair jy dJ) (.pair jy C1) zk
 |>.bB 67 (.pair jy dJ) (.pair jy C1) vP
 |>.bB 126 jL C1 iw
def amX:=amW
 |>.bB 127 yj Kz np
 |>.bB 216 (.pair jy dJ) jL wH
 |>.bB 130 (.pair jy dJ) yj mM
 |>.bB 128 (.pair jy<|.pair Fx .unit) yj rN
 |>.bB 68 acL (.pair jy C1) sW
 |>.bB 129 (.pair jy dJ) pQ sX
 |>.bB 69 (.pair jy dJ) (.pair jy C1) sY
 |>.bB 131 jL C1 gl
 |>.bB 132 (.pair jy dJ) (.pair Fx gV) oG
 |>.bB 133 yj Kz nq
 |>.bB 217 (.pair jy dJ) jL wI
 |>.bB 137 (.pair jy dJ) yj mN
 |>.bB 134 (.pair jy<|.pair Hk .unit) yj rO
 |>.bB 70 acL (.pair jy C1) s6
 |>.bB 135 (.pair jy dJ) pQ AR
 |>.bB 136 (.pair jy dJ) (.pair Hk gV) rP
 |>.bB 71 (.pair jy dJ) (.pair jy C1) s7
 |>.bB 74 jL C1 fg
 |>.bB 139 (.pair jy jL) Kz uS
 |>.bB 140 (.pair Ol dJ) pQ qN
 |>.bB 141 (.pair Ol tp) (.pair Ol jL) qM
 |>.bB 72 acN (.pair jy C1) wJ
 |>.bB 142 Kz dJ AU
 |>.bB 143 (.pair jy<|.pair (.int .i64)<|.pair .str yi) yj gT
def ala:=amX
 |>.bB 73 acN (.pair jy C1) s8
 |>.bB 28 acN (.pair jy C1) AV
 |>.bB 30 (.pair (.slice .bool)<|.pair (.slice YH1) jL) (.pair (.slice .bool) .unit) wN
 |>.bB 31 (.pair (.slice YH1)<|.pair PK<|.pair (.slice .bool) jL) gV wO
 |>.bB 9 (.pair jy<|.pair Hl Fw) (.pair jy gV) ti
 |>.bB 35 (.pair (.slice .str) yi) gV eD
 |>.bB 75 (.pair Ol<|.pair Ol .unit) gV gK
 |>.bB 32 (.pair (.slice Hk)<|.pair (.slice Hk) .unit) gV nO
 |>.bB 33 (.pair (.slice Fx)<|.pair (.slice Fx) .unit) gV mc
 |>.bB 34 (.pair (.slice Ov) afX) gV mf
 |>.bB 36 (.pair (.slice pQ)<|.pair (.slice pQ) .unit) gV mg
 |>.bB 10 (.pair jy yj) gV wE
noncomputable def BP:Rt:=⟨(.pair jy<|.pair Hl Fw),gV,fS⟩
noncomputable def PM:Rt:=⟨.unit,gV,uX⟩
noncomputable def Ot:Rt:=⟨acM,(.pair .bool jL),lB⟩
def IV:Holds Tryz.prog dE 15 ⟨(.pair PK Fw),gV,tX⟩:=ala.hxo
end Go.Proofs.YtgklgliokhbcnaaGreatDoor
