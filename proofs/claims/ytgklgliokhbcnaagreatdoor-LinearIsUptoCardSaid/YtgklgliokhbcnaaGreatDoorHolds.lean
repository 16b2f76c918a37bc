import Derived.Test.YtgklgliokhbcnaaGreatDoorPlJ
import Derived.Test.YtgklgliokhbcnaaGreatDoorBld
import Derived.Test.YtgklgliokhbcnaaGreatDoorShelf
set_option linter.unusedVariables false
set_option linter.unusedSectionVars false
set_option linter.defProp false
set_option linter.unusedSimpArgs false
set_option linter.defProp false
open Option renaming some->aa,none->af
namespace Go.Proofs.YtgklgliokhbcnaaGreatDoor
open Go Go.Ge
set_option maxRecDepth 100000
variable [Lp]
def cy(s:List (Nat×Nat))(m:List Nat):Option SF:=aa ⟨s,m,false⟩
def cz(s:List (Nat×Nat)):Option SF:=aa ⟨s,[],false⟩
def fq(a:List (Option SF))(m:List Nat):Gx:=⟨a++List.replicate 40 af,m⟩
def fp(a:List (Option SF)):Gx:=fq a []
abbrev iH:Ty:=(.pair (.slice<|.pair .str<|.pair (.slice .str)<|.pair .str<|.pair .str<|.pair .str<|.pair (.slice<|.pair .str<|.pair .str<|.pair .str .unit) .unit)<|.pair (.slice<|.pair .str<|.pair (.slice .str)<|.pair .str<|.pair .str<|.pair (.slice<|.pair .str<|.pair .str<|.pair .str .unit) .unit)<|.pair (.slice<|.pair .str<|.pair .str<|.pair (.slice .str)<|.pair .str<|.pair (.int .i64)<|.pair (.int .i64)<|.pair .bool .unit)<|.pair (.slice .str)<|.pair (.slice<|.pair .str<|.pair (.int .i64) .unit) .unit)
abbrev YH1:Ty:=(.pair (.int .i64)<|.pair (.pair (.int .i64)<|.pair (.int .i64)<|.pair .str<|.pair .str<|.pair (.slice .str)<|.pair .str<|.pair .str<|.pair (.int .i64) .unit)<|.pair (.int .i64)<|.pair (.int .i64)<|.pair (.int .i64)<|.pair (.pair (.int .i64)<|.pair .str<|.pair (.int .i64)<|.pair .str .unit) .unit)
abbrev Sr:Ty:=(.pair .str<|.pair (.int .i64)<|.pair (.int .i64)<|.pair .str<|.pair .str .unit)
abbrev dQ:Ty:=(.pair .str .unit)
abbrev jR:Ty:=(.pair (.int .i64) .unit)
abbrev Me:Ty:=(.pair .str<|.pair .str<|.pair (.slice .str)<|.pair .str<|.pair (.int .i64)<|.pair (.int .i64)<|.pair .bool .unit)
abbrev YH6:Ty:=(.pair .str<|.pair .str<|.pair (.slice<|.pair .str<|.pair .str dQ) .unit)
abbrev YH7:Ty:=(.pair .str<|.pair (.int .i64)<|.pair (.int .i64)<|.pair (.int .i64)<|.pair (.int .i64)<|.pair (.int .i64)<|.pair (.int .i64) dQ)
abbrev DG:Ty:=(.pair (.pair (.int .i64)<|.pair .str<|.pair (.int .i64) dQ) .unit)
abbrev fV:Ty:=(.pair .bool .unit)
abbrev Gl:Ty:=(.pair (.slice<|.int .i64) .unit)
abbrev adW:Ty:=(.pair (.int .i64)<|.pair (.int .i64)<|.pair .str<|.pair .str<|.pair (.slice .str)<|.pair .str<|.pair .str jR)
abbrev yX:Ty:=(.pair (.slice .str) .unit)
abbrev EN:Ty:=(.pair .str<|.pair (.slice .str)<|.pair .str YH6)
abbrev DH:Ty:=(.pair .str<|.pair (.slice .str) YH6)
abbrev BX:Ty:=(.pair (.slice YH1) Gl)
abbrev wQ:Ty:=(.pair (.slice Sr) .unit)
abbrev ud:Ty:=(.pair .str dQ)
abbrev oG:Ty:=(.pair .str jR)
abbrev QE:Ty:=(.slice<|.pair .str yX)
abbrev ai3:Ty:=(.pair iH<|.pair (.slice YH1)<|.pair (.slice<|.int .i64)<|.pair (.slice .bool)<|.pair (.int .i64)<|.pair (.slice iH) .unit)
abbrev adX:Ty:=(.alt 368 dQ<|.alt 370 dQ<|.alt 372 .unit<|.alt 374 (.pair Sr .unit) .Cz)
abbrev ue:Ty:=(.pair iH .unit)
abbrev adY:Ty:=(.pair (.pair iH<|.pair (.slice .bool)<|.pair (.int .i64) Gl) .unit)
abbrev Cs:Ty:=(.pair (.slice Sr) jR)
abbrev JI:Ty:=(.slice<|.pair .str ud)
abbrev ai4:Ty:=(.pair (.int .i64)<|.pair (.slice Me)<|.pair (.slice DH)<|.pair (.slice EN) .unit)
abbrev Ig:Ty:=(.pair (.int .i64) dQ)
abbrev JJ:Ty:=(.pair (.slice Sr) dQ)
abbrev adZ:Ty:=(.pair iH<|.pair .str<|.pair (.slice .str) oG)
abbrev JK:Ty:=(.pair (.int .i64) jR)
abbrev ahf:Ty:=(.pair (.arr 8<|.int .u32) .unit)
abbrev ai5:Ty:=(.pair .bool<|.pair .str<|.pair (.int .i64)<|.pair .bool fV)
abbrev Uz:Ty:=(.pair (.int .u8) .unit)
abbrev aae:Ty:=(.pair iH<|.pair BX .unit)
abbrev Lw:Ty:=(.pair QE .unit)
abbrev QF:Ty:=(.slice<|.int .i64)
abbrev X1:Ty:=(.slice<|.pair YH7 dQ)
abbrev ad0:Ty:=(.pair iH<|.pair adW .unit)
abbrev akN:Ty:=(.pair (.pair .bool ahf)<|.pair (.arr 64<|.int .u8) jR)
abbrev UA:Ty:=(.pair Sr .unit)
abbrev akO:Ty:=(.pair iH<|.pair BX<|.pair (.slice iH) .unit)
abbrev ahg:Ty:=(.pair (.slice Me) .unit)
noncomputable def ij:Nat->Gx
 | 6=>fp [cz [(4,4),(5,3)]]
 | 8=>fq [af,cy [(7,4),(28,3)] [6,9],af,cy [(12,4)] [9],cy [(12,4)] [9]] [8000000]
 | 9=>fq [af,cy [(7,4),(8,69),(9,3),(10,3)] [3,6,2000008],af,af,af,af,cy [] [12,13]] [8700103]
 | 15=>fp [af,cz [(4,4),(5,3)]]
 | 17=>fp [cz [(2,4),(3,3)]]
 | 20=>fp [cz [(2,4),(3,3)]]
 | 21=>fp [cy [(2,46),(3,3),(11,3)] [1]]
 | 22=>fq [] [40,42,8000000,8700029,7999999]
 | 23=>fq [af,af,af,af,cy [(130,3)] [78,3999999],af,cy [] [78,3999999]] [78,83,86,8000000,8600000,8700009,8700010,7999999]
 | 24=>fq [cz [(4,4),(13,3)]] [7000004]
 | 26=>fq [af,cz [(8,4),(9,3)]] [8700043]
 | 27=>fq [af,af,af,cz [(10,4),(11,3)]] [8700031,8700046,8700082]
 | 28=>fp [af,af,af,af,af,af,af,af,af,af,cz [(104,4)],af,cz [(112,4)],cz [(112,4)]]
 | 30=>fq [cy [(8,3),(7,999999)] [7],af,cy [(7,999999)] [7]] [7,8700050]
 | 31=>fp [cz [(8,4),(9,3)]]
 | 32=>fp [af,cz [(4,4),(5,3)]]
 | 33=>fp [af,cz [(4,4),(5,3)]]
 | 34=>fp [af,cz [(4,4),(5,3)]]
 | 35=>fp [af,cz [(4,4),(5,3)]]
 | 36=>fp [af,cz [(4,4),(5,3)]]
 | 37=>fp [af,cz [(9,3),(21,3)],af,cz [(9,3)]]
 | 42=>fp [cz [(2,4),(3,3)],af,af,cz [(2,4),(4,3)],af,af,cz [(2,4),(5,3)]]
 | 43=>fp [cz [(2,4),(3,3)]]
 | 44=>fp [cz [(3,3),(4,3)],af,cz [(3,3)]]
 | 46=>fp [cz [(2,4),(3,3)]]
 | 47=>fq [] [7000004]
 | 49=>fq [] [7000004]
 | 53=>fq [] [7]
 | 54=>fq [cz [(6,4),(15,3)]] [7000004]
 | 55=>fq [] [5]
 | 57=>fq [] [5]
 | 58=>fp [af,af,af,af,af,af,af,af,af,af,cz [(104,4)],af,cz [(112,4)],cz [(112,4)]]
 | 60=>fq [cz [(2,4),(3,3),(4,3)],af,af,cz [(2,4),(6,3)],af,af,cz [(2,4),(8,3)],af,af,cz [(2,4),(9,3)]] [8700147]
 | 62=>fp [af,af,cy [(13,9)] [10,11],af,af,af,cy [(19,136)] [10,11],af,cy [(19,136)] [10,11],af,cy [(3,9)] [10,11]]
 | 65=>fp [af,af,cy [(12,136)] [4]]
 | 68=>fp [af,cy [(12,9)] [10,11]]
 | 69=>fp [af,cy [(8,3)] [4,5]]
 | 70=>fp [af,cy [(12,9),(13,9)] [10,11]]
 | 72=>fp [af,af,cz [(12,107)]]
 | 75=>fp [af,cz [(4,4),(5,3)]]
 | 76=>fp [af,af,cy [(4,4),(40,3)] [0,40]]
 | 77=>fq [af,cy [(6,4),(17,3)] [2]] [7000004]
 | 79=>fp [af,cz [(4,4),(13,3)]]
 | 80=>fp [af,cz [(4,4),(13,3)]]
 | 81=>fq [af,cy [(6,4),(17,3)] [2]] [7000004]
 | 83=>fq [af,cy [(6,4),(17,3)] [2]] [7000004]
 | 85=>fp [af,cz [(4,4),(13,3)]]
 | 86=>fp [cz [(2,4),(3,3)]]
 | 87=>fp [cz [(2,4),(3,3)]]
 | 88=>fq [cy [(7,29),(8,3),(9,3)] [7],af,cz [(8,3)]] [7]
 | 89=>fp [cy [(4,3),(8,3)] [1]]
 | 90=>fp [cy [(4,3),(8,3)] [1]]
 | 91=>fp [cz [(2,4),(3,3)]]
 | 93=>fq [af,cy [] [8]] [36]
 | 99=>fp [af,cy [(13,46)] [12],cz [(13,46)],cy [(13,46)] [12]]
 | 101=>fp [af,cy [(13,46)] [12],cz [(13,46)],cy [(13,46)] [12],af,cy [] [14]]
 | 104=>fp [af,af,af,cz [(8,46)],af,cy [] [2]]
 | 110=>fp [af,cz [(6,46),(9,3)],af,cz [(6,46),(10,3)]]
 | 112=>fp [af,cz [(4,9),(5,46),(7,3)],af,cz [(9,4),(10,3)]]
 | 113=>fq [aa ⟨[(1,9),(4,24),(5,46),(6,24),(7,3)],[6],true⟩] [6]
 | 114=>fq [af,cy [(8,25),(9,3)] [8]] [8]
 | 117=>fq [cy [(7,24),(8,25),(9,4),(10,3)] [7,8],af,cy [(7,24),(8,25),(9,4)] [7,8],cy [(7,24),(8,25)] [7,8]] [7,8]
 | 119=>fp [cz [(4,4),(5,3)],af,af,cz [(4,4),(6,3)],af,af,cz [(4,4),(7,3)]]
 | 120=>fp [cz [(4,3),(5,3)]]
 | 121=>fq [cy [(6,24),(7,25),(8,3)] [6,7],af,cy [(6,24),(7,25)] [6,7]] [6,7]
 | 123=>fp [af,cz [(6,150),(7,3)],af,cz [(6,150)],cz [(6,150)],cz [(6,150),(10,3)],af,cz [(6,150)]]
 | 124=>fp [cz [(3,9),(4,3)],af,cz [(5,9)]]
 | 125=>fq [cy [(7,26),(8,3)] [7],af,cy [(7,26)] [7],af,cz [(9,3)]] [7,10]
 | 128=>fq [cz [(5,3)]] [6]
 | 130=>fq [cy [(6,23),(7,3)] [6],af,cy [(6,23)] [6]] [6]
 | 134=>fq [cz [(5,3)]] [6]
 | 137=>fq [cy [(6,22),(7,3)] [6],af,cy [(6,22)] [6]] [6]
 | 138=>fp [cz [(4,9),(5,46),(6,3)],af,af,cz [(4,9),(5,46),(7,3)],af,cz [(4,9),(5,46),(8,3)],af,af,cz [(9,3),(10,9),(11,3)],af,cz [(9,3),(10,9)]]
 | 140=>fp [cz [(4,9),(5,46),(6,3)]]
 | 141=>fq [af,cz [(8,3),(9,3)],af,cz [(8,3)],af,cy [(10,107),(11,3)] [10],af,cy [(10,107)] [10],cz [(12,3)]] [10,13]
 | 142=>fp [cz [(3,9),(4,3)],af,cz [(3,9),(5,3)]]
 | 143=>fq [af,af,cy [(13,24),(14,4),(15,3)] [13],af,cy [(14,4)] [16]] [13]
 | 144=>fp [af,cz [(12,4)],af,cz [(12,4),(14,3)],af,af,cy [] [15,16]]
 | 146=>fq [cy [] [6000008]] [5000000,7000046]
 | 148=>fq [] [7]
 | 149=>fq [] [7000046]
 | 151=>fp [cy [(3,46)] [2]]
 | 154=>fp [af,cy [(6,46),(21,3)] [5]]
 | 157=>fp [af,cy [(4,9),(5,46),(17,3),(0,999999)] [0]]
 | 158=>fq [] [7000046]
 | 159=>fq [cy [(4,24),(5,46),(6,24),(7,9)] [6],cy [(4,24),(5,46),(6,24),(7,9),(13,3)] [6]] [6]
 | 160=>fq [af,cz [(4,46)]] [7000046]
 | 166=>fp [cz [(7,3)]]
 | 171=>fq [af,cy [(8,25),(28,3)] [8,2000026]] [8]
 | 172=>fq [] [6]
 | 173=>fp [cy [(11,3)] [4],af,cz [(7,9)]]
 | 181=>fq [cy [(7,23)] [7,8]] [10]
 | 185=>fp [cy [(5,4),(11,3)] [4]]
 | 186=>fq [cz [(5,3)]] [8000000]
 | 189=>fq [cy [(5,22)] [5,6]] [9,8000000]
 | 191=>fp [cz [(5,4)],cz [(5,4)],af,af,af,cz [(16,4)],cz [(16,4)],cz [(16,4)],cz [(16,4)],af,cz [(23,4)],af,cz [(29,4)],cz [(29,4)]]
 | 192=>fq [af,af,cy [(7,25),(27,3)] [7],af,cy [(7,25)] [7]] [7]
 | 197=>fq [cy [(8,3)] [3]] [4000014]
 | 198=>fq [] [43,8000000]
 | 199=>fp [cz [(2,4),(3,3)],af,af,cz [(2,4),(4,3)]]
 | 201=>fp [cz [(2,4),(3,3)]]
 | 202=>fp [cz [(4,3),(5,3)]]
 | 203=>fp [cz [(4,4),(5,3)]]
 | 204=>fq [cy [(5,133)] [5],cy [(5,133),(6,3)] [5],af,cy [(5,133)] [5],cy [(5,133),(7,3)] [5],af,cy [(5,133)] [5],cy [(5,133),(8,3)] [5],af,cy [(5,133)] [5]] [5]
 | 205=>fp [cz [(0,3),(3,9),(4,3)]]
 | 206=>fp [cz [(4,3),(5,3)]]
 | 208=>fp [cz [(4,3),(5,3)]]
 | 209=>fp [cz [(2,136),(3,46),(4,136),(5,3)]]
 | 210=>fp [af,cz [(2,4),(3,3)]]
 | 211=>fp [af,af,cz [(0,136),(6,3)],af,cz [(0,136)],cz [(0,136)],cz [(0,136),(4,136),(5,46),(10,3)]]
 | 212=>fp [cy [(5,3)] [3],af,cy [(7,3)] [6]]
 | 213=>fq [cy [(3,196),(4,3)] [3]] [3]
 | 215=>fq [cz [(5,3)]] [6]
 | 216=>fp [cz [(4,3),(5,3)]]
 | 217=>fp [cz [(4,3),(5,3)]]
 | 219=>fp [cz [(2,4),(3,3)]]
 | 221=>fq [] [5]
 | 227=>fq [cy [(5,183),(6,0),(7,4)] [4,5,6]] [5,6]
 | 228=>fq [cy [(2,215),(3,4),(4,215),(11,3)] [4]] [4]
 | 232=>fq [cy [] [5,6],cy [(20,3)] [5,6],af,cy [] [5,6],cy [(36,3)] [5,6],af,cy [] [5,6],cy [(52,3)] [5,6],af,cy [] [5,6,12]] [5]
 | 236=>fp [af,cz [(2,46),(12,3)]]
 | 237=>fq [af,af,cy [(8,22),(30,3),(6,999999),(28,999999)] [6,8,28,2000008],af,cy [(4,22),(5,27),(8,22),(40,3),(38,999999)] [8,38]] [25]
 | 240=>fp [cy [(9,3)] [3]]
 | 241=>fq [cy [(4,3),(8,3)] [1]] [7000003]
 | 243=>fq [] [8]
 | 245=>fq [] [8]
 | 255=>fq [] [9]
 | 256=>fq [] [9]
 | 257=>fq [cy [(7,26)] [4,7,2000007],cz [(8,3)]] [11]
 | 258=>fp [cy [(2,3),(3,3),(0,999999)] [0,3999999]]
 | 259=>fp [cz [(2,136),(3,46),(4,136),(11,3)]]
 | 261=>fp [cy [(0,136),(1,136)] [2,3,4],af,cz [(10,3)],cz [(10,3)],cy [] [2,3,4],cy [] [3,4],cz [(0,136)],cz [(1,136)]]
 | 263=>fp [cy [] [2]]
 | 267=>fq [] [5]
 | 268=>fp [cz [(8,3)]]
 | 269=>fp [cy [(4,3),(8,3)] [1]]
 | 270=>fq [] [5]
 | 276=>fq [] [5]
 | 279=>fp [cz [(4,3),(8,3)]]
 | 281=>fp [cy [(4,3),(8,3)] [1]]
 | 288=>fp [cz [(8,3)]]
 | 290=>fq [] [5]
 | 292=>fq [af,aa ⟨[(0,9),(2,183),(3,4),(4,183)],[4],true⟩] [4]
 | 297=>fp [cz [(4,3),(7,3)]]
 | 300=>fp [cz [(0,136),(4,136),(5,46),(7,9),(8,3)]]
 | 301=>fq [af,af,af,aa ⟨[(8,22),(0,999999)],[0],true⟩,aa ⟨[(8,22),(0,999999)],[0],true⟩,af,cz [(12,3)]] [10,11]
 | 304=>fp [cy [(3,196)] [0,3],af,cy [(3,196),(5,3)] [3]]
 | 305=>fp [cy [(6,3)] [5],af,cy [(7,3)] [5],af,cy [(12,3)] [11],af,cy [(17,3)] [11]]
 | 307=>fp [cz [(4,3),(5,3)]]
 | 310=>fp [cy [(4,3),(8,3)] [1]]
 | 317=>fp [cz [(4,3),(8,3)]]
 | 327=>fp [af,cy [(1,9)] [0],af,cy [] [0]]
 | 328=>fp [cy [] [3],cy [] [3],af,cy [(26,3)] [5],af,cy [(41,3)] [7]]
 | 332=>fp [cy [(4,3),(8,3)] [1]]
 | 333=>fp [cy [(4,3),(8,3)] [1]]
 | 338=>fp [af,cy [(5,3),(6,3),(0,999999)] [0,1],af,cy [(5,3),(0,999999)] [0]]
 | 339=>fq [] [5]
 | 342=>fq [] [8]
 | 350=>fp [cy [(4,3),(8,3)] [1]]
 | 352=>fq [cy [(7,107)] [7,8]] [10]
 | 355=>fp [cz [(2,4),(3,3)]]
 | 356=>fp [af,cz [(2,4),(3,3)]]
 | 357=>fp [af,cy [] [11],cz [(74,4)],cy [] [11],cy [] [11],cy [] [11]]
 | 358=>fp [cz [(0,3)]]
 | 359=>fq [cy [(5,25),(6,3)] [5],af,cy [(5,25)] [5]] [5]
 | 362=>fp [cz [(2,4),(4,9),(5,3)]]
 | 363=>fq [af,cy [(3,25),(4,9),(5,3)] [3],af,cy [(3,25),(4,9)] [3]] [3]
 | 364=>fp [cz [(3,9),(4,3)],af,cz [(3,9)]]
 | 365=>fp [cz [(2,4),(4,3)]]
 | 366=>fp [cz [(2,4),(3,3)]]
 | 367=>fq [cy [(7,136),(8,3)] [7],af,cy [(7,136)] [7]] [7]
 | 381=>fp [cz [(0,9)]]
 | 382=>fp [cz [(0,9)]]
 | 383=>fp [cy [(3,4),(4,3)] [2]]
 | 384=>fp [cy [(0,9)] [1]]
 | 385=>fp [cy [(0,9)] [1]]
 | 390=>fp [af,cz [(4,9)],cz [(71,4)],cy [] [10],cy [] [10],cy [] [10]]
 | 392=>fq [cy [(2,9),(3,46),(4,25),(11,3)] [4],af,cy [(2,9),(3,46),(4,25)] [4]] [4]
 | 396=>fq [cy [(3,136),(6,9),(18,3)] [3]] [3]
 | 400=>fp [cy [(6,3),(13,3)] [2]]
 | 407=>fp [cy [] [0],cz [(6,282),(7,282),(8,282),(9,282),(10,282),(11,282),(12,282),(13,282),(74,3)],af,cy [(143,3)] [0]]
 | 420=>fp [cz [(3,3)],af,af,cz [(2,3),(4,3)]]
 | 421=>fp [cz [(3,3),(4,3)],af,cz [(3,3)]]
 | 422=>fp [cz [(2,9),(3,4),(4,3)],af,af,cz [(2,9),(3,4),(5,3)]]
 | 423=>fp [cz [(5,4)]]
 | 425=>fp [cz [(2,4),(3,3)]]
 | 426=>fp [af,cz [(4,4),(7,3)]]
 | 439=>fp [cz [(4,3),(12,3)],af,cz [(6,5)]]
 | 442=>fp [cz [(2,4),(6,3)]]
 | 444=>fp [cz [(4,3),(5,3)]]
 | 445=>fp [cz [(9,282),(10,3)],af,af,cz [(4,3),(9,282),(11,3)]]
 | 448=>fp [cy [(9,3),(10,3)] [1,2],af,cz [(9,3),(10,3)]]
 | 453=>fp [cy [(12,3)] [3],af,cy [(22,3)] [3],af,cy [(7,3)] [3]]
 | 462=>fp [af,cz [(2,3),(3,4),(4,3),(5,3)]]
 | 463=>fp [cz [(4,4),(5,3)]]
 | 471=>fp [af,cz [(2,3),(3,4),(4,3),(18,3)]]
 | 475=>fp [cz [(4,282),(5,3)],af,cz [(6,282),(7,282),(8,3)],af,cz [(6,282)]]
 | 514=>fq [] [9]
 | 517=>fp [af,cy [(5,3),(6,3),(0,999999)] [0,1],af,cy [(5,3),(0,999999)] [0]]
 | 518=>fq [] [5]
 | 520=>fp [cy [(4,3),(8,3)] [1]]
 | 528=>fp [cz [(1,136),(4,136),(5,46),(6,9),(25,3)]]
 | 530=>fq [] [55]
 | _=>fp []
def w9:List (Nat×List EB):=[(244,[.self,.buf (.int .u8) 5]),(68,[.dat BX,.fnc]),(372,[])]
def els:List (Nat×Nat):=[(196,5),(211,172)]
noncomputable def QQ:List (Nat×Spc):=[(266,.str 244 5),(343,.chk 244),(55,.clone (.int .i64)),(57,.clone .bool),(221,.clone .str),(267,.clone (.pair .str ud)),(270,.clone DH),(276,.clone EN),(290,.clone Me),(339,.clone oG),(518,.clone Sr),(92,(.own (.int .i64) .unit true la)),(222,(.own .str .unit false fm)),(223,(.own .str .unit true l4)),(272,(.own DH JK true bt)),(274,(.own EN (.pair (.int .i64)<|.pair (.slice EN) .unit) true cj)),(278,(.own EN JK true dA)),(330,(.own .str (.pair (.int .i64) yX) true gL)),(331,(.own Me (.pair (.int .i64) ahg) true eQ)),(336,(.own .str JK true gM)),(337,(.own Me JK true eR)),(345,(.own DH (.pair (.int .i64)<|.pair (.slice DH) .unit) true bS)),(354,(.own (.pair .str ud) (.pair (.int .i64)<|.pair JI .unit) true aP)),(412,(.own oG (.pair (.int .i64)<|.pair (.slice oG) .unit) true iN)),(417,(.own (.pair .str ud) JK true bK)),(531,(.own Sr (.pair (.int .i64) wQ) true bk))]
noncomputable def tys:List (Nat×Ty):=[(3,(.int .i64)),(4,.bool),(5,(.int .u8)),(9,.str),(21,(.int .i32)),(22,(.slice EN)),(23,(.slice DH)),(24,(.slice Me)),(25,(.slice .str)),(26,(.slice oG)),(28,iH),(29,(.slice YH1)),(30,QF),(32,BX),(39,(.slice adW)),(41,(.slice<|.pair (.int .i64)<|.pair .str Ig)),(45,adW),(46,(.int .i64)),(48,(.pair (.int .i64)<|.pair .str Ig)),(50,YH1),(60,(.slice iH)),(69,(.slice .bool)),(71,(.pair iH<|.pair (.slice .bool)<|.pair (.int .i64) Gl)),(89,ai4),(107,JI),(109,EN),(112,DH),(114,Me),(116,oG),(119,(.pair .str ud)),(133,QE),(136,(.slice Sr)),(150,(.slice Ig)),(158,(.int .u64)),(183,X1),(190,(.pair .str yX)),(196,(.slice<|.int .u8)),(199,(.arr 32<|.int .u8)),(202,Sr),(207,Ig),(208,(.arr 4 .str)),(215,(.slice adX)),(271,YH7),(273,(.pair YH7 dQ)),(282,(.int .u32)),(283,(.arr 8<|.int .u32)),(297,adX),(310,(.pair .bool ahf)),(311,(.arr 64<|.int .u8)),(313,akN),(343,(.int .u64)),(344,(.arr 64<|.int .u32)),(348,(.int .i64)),(359,(.arr 256 .bool)),(365,ai5),(368,dQ),(370,dQ),(374,UA),(384,(.arr 8<|.int .u8)),(397,(.int .u64)),(423,JK),(424,(.arr 11 JK)),(426,(.arr 2 .str)),(431,(.arr 256<|.int .u8)),(433,(.pair (.int .u8) Uz)),(434,(.arr 16<|.pair (.int .u8) Uz))]
def nums:List Nat:=([(5,6),(13,79),(93,129),(224,14),(239,27),(267,5),(273,1),(275,3),(279,10),(290,18),(310,14),(327,3),(332,4),(338,5),(344,1),(346,1),(349,5),(355,15),(381,5),(388,16),(407,1),(420,7),(432,2),(437,9),(448,2),(451,4),(462,3),(469,7),(478,1),(511,20)]:List (Nat×Nat)).flatMap λp=>List.range' p.1 p.2
noncomputable def ad1:List (Nat×Func):=nums.map λn=>(n,(Tryz.prog.funcs[n]?).getD Tryz.f5)
def vP:List Nat:=[65,66,79,96,120,122,124,172,175,177,180,210,219,224,230,232,234,238,240,241,242,262,276,278,292,301,321,327,331,363,382,401,410,412,418]
def EC:List Nat:=[65,242,292,327,363,382,401,412,418]
noncomputable def Lx(d:List (Nat×SA))(a:List (Nat×Va))(e:List (String×SA):=[])(b:List (Nat×Gt):=[]):Ctx:=⟨tys,vP,EC,ad1,d,a,w9,QQ,els,e,b⟩
def mix:Tryz.prog.follows .mixedOrders=true:=by kernel_rfl
def ahh:∀tid t,find tys tid=aa t->Den Tryz.prog t tid:=aj6 (by kernel_rfl)
def abL:∀tid,dm vP tid=true->(∀w,(isAgg tid).run Tryz.prog w=.ok false w)/\(∀w,(Go.sizeOf tid).run Tryz.prog w=.ok 1 w)/\∃z,(∀w,(zeroValue tid).run Tryz.prog w=.ok z w)/\z.oneCell'=true:=ah2 (by kernel_rfl)
def abM:∀tid,dm EC tid=true->∃e,Tryz.prog.underlying tid=aa (.pointer e):=ah3 (by kernel_rfl)
def abN{f fn}:∀l:List Nat,(l.all λn=>(Tryz.prog.funcs[n]?).isSome)=true->find (l.map λn=>(n,(Tryz.prog.funcs[n]?).getD Tryz.f5)) f=aa fn->Tryz.prog.funcs[f]?=aa fn
 | [],_,h=>by cases h
 | n::l,a,h=>by
   rw[aeB,gO] at a;rw[U2] at h;unfold find at h;cases b:Nat.beq n f with
   | true =>
     rw[b] at h;obtain rfl:=gP b;obtain⟨x,d⟩:=KD.1 a.1;cases h;rw[d];rfl
   | false=>rw[b] at h;exact abN l a.2 h
def ahi:∀f a,find ad1 f=aa a->Tryz.prog.funcs[f]?=aa a:=λf a h=>abN nums (by kernel_rfl) h
def abO:∀tid a,find w9 tid=aa a->Py Tryz.prog tid a=true:=ah4 (by kernel_rfl)
def ahj:∀tid e,find els tid=aa e->Tryz.prog.underlying tid=aa (.slice e):=aj7 (by kernel_rfl)
def abP(d:List (Nat×SA))(a:List (Nat×Va))(e:List (String×SA):=[])(b:List (Nat×Gt):=[]):ga Tryz.prog (Lx d a e b):=⟨ahh,abL,abM,ahi,abO,ahj⟩
noncomputable def cx0:Ctx:=⟨tys,vP,EC,ad1,[],[],w9,[],els,[],[]⟩
def akP:ga Tryz.prog cx0:=⟨ahh,abL,abM,ahi,abO,ahj⟩
def rho(f a b t d:Nat):Go.Shelf.Ren:=⟨λx=>if x=29 then a else if x=30 then b else f,λx=>if x=24 then t else if x=9 then d else if x=3 then 3 else if x=4 then 4 else 0,λx=>x⟩
def aaf{e:Ty}{f:Nat}{h j:Func}(a b t d:Nat)(k:Tryz.prog.funcs[f]?=aa h)(m:Tryz.prog.funcs[a]?=aa j)
  (n:h={ Body2.n22 (rho f a b t d) with name:=h.name }:=by kernel_rfl) (o:(h.name == "runtime.NumGoroutine")=false:=by kernel_rfl)
  (p:(j.name == "runtime.NumGoroutine")=false:=by kernel_rfl) (s:j.body.isNone=true:=by kernel_rfl) (u:Extern.findNext j=none:=by kernel_rfl) (v:Extern.find j=aa (Extern.SlicesOverlaps.overlaps #[t,t] #[4]):=by kernel_rfl)
  (y:Tryz.prog.underlying 3=aa (TypeDesc.int IntKind.i64):=by kernel_rfl) (z:Tryz.prog.underlying 4=aa TypeDesc.bool:=by kernel_rfl) (A:Tryz.prog.underlying t=aa (TypeDesc.slice d):=by kernel_rfl)
  (B:gy Tryz.prog e false d 0 []=true:=by kernel_rfl) (C:Fw Tryz.prog d=true:=by kernel_rfl) (D:0<e.size:=by decide +kernel) (E:e.isInt=false:=by decide +kernel) :
  qk Tryz.prog f (.own e (.pair (.int .i64)<|.pair (.slice e) .unit) true λl x=>uI (α:=e.den) l x.1 x.2.1):=by
 have g:Den Tryz.prog e d:=B;obtain⟨I,J,F,G,K,L⟩:=g.info;exact ah5 (ρ:=rho f a b t d) (nm:=h.name) ⟨mix,k.trans (congrArg aa n),λH w=>run_callFunc_extern (e:=Extern.SlicesOverlaps.overlaps #[t,t] #[4]) m p s u v H w,y,z,A,g.sizeOf,by show(Tryz.prog.info? d).map (·.size)=_;simp[F,G]⟩ o g C D E
def ahk{e:Ty}{f:Nat}{b:Func}(t d:Nat)(g:Tryz.prog.funcs[f]?=aa b)
  (h:b={ Body2.n24 (rho f 0 0 t d) with name:=b.name }:=by kernel_rfl) (j:(b.name == "runtime.NumGoroutine")=false:=by kernel_rfl)
  (k:Tryz.prog.underlying 3=aa (TypeDesc.int IntKind.i64):=by kernel_rfl) (m:Tryz.prog.underlying 4=aa TypeDesc.bool:=by kernel_rfl) (n:Tryz.prog.underlying t=aa (TypeDesc.slice d):=by kernel_rfl)
  (o:gy Tryz.prog e false d 0 []=true:=by kernel_rfl) (p:0<e.size:=by decide +kernel) :
  qk Tryz.prog f (.own e JK true λl x=>K6 (α:=e.den) l x.1 x.2.1):=by
 have a:Den Tryz.prog e d:=o;obtain⟨A,s,u,B,v,y⟩:=a.info;exact ah6 (ρ:=rho f 0 0 t d) (nm:=b.name) (z:=s) ⟨mix,g.trans (congrArg aa h),k,m,n,a.sizeOf,λw=>V7 u v w⟩ j y p
def UB{e:Ty}{f:Nat}{a:Func}(b:Nat)(o:Tryz.prog.funcs[f]?=aa a){h j k m o0 o1 n}(d:(a.name == "runtime.NumGoroutine")=false:=by kernel_rfl)
  (g:a.body=aa (.seq j<|.seq (.seq (.region h #[o0,o1] false)<|.cond (.tmp 4) (.seq k .ret) .skip)<|.seq m .ret):=by rfl)
  (p:find cx0.T b=aa (.slice e):=by rfl) (s:4<a.ntmps:=by decide +kernel) (u:∀t∈writes j++(writes k++writes m),t<a.ntmps:=by decide +kernel)
  (v:o0.guard=none:=by rfl) (w:o0.dst=aa 3:=by rfl) (x:o0.op=.move (.tmp 0):=by rfl) (y:o1.guard=none:=by rfl) (z:o1.dst=aa 4:=by rfl) (A:o1.op=.binOp .eql b (.tmp 3) (.const<|.slice af 0 0) n:=by rfl)
  (B:∀l:List e.den,(jS cx0 0 [2,5] Ao j []<|zb (λ_=>af) [.data (.slice e) l]).run=aa (0,((zb (λ_=>af) [.data (.slice e) l]).cD 2 { val:=.data (.slice e) ([]:List e.den),tid:=0,buf:=true,ro:=false,lk:=false,aR:=0 }).put 2 (.whole 2 0)):=by intro l;rfl)
  (C:∀l:List e.den,afx cx0 [2,5] a.results.toList e (.seq k .ret) (((zb (λ_=>af) [.data (.slice e) l]).cD 2 { val:=.data (.slice e) ([]:List e.den),tid:=0,buf:=true,ro:=false,lk:=false,aR:=0 }).put 2<|.whole 2 0)=aa []:=by intro l;rfl)
  (D:∀l:List e.den,afx cx0 [2,5] a.results.toList e (.seq m .ret) (((zb (λ_=>af) [.data (.slice e) l]).cD 2 { val:=.data (.slice e) ([]:List e.den),tid:=0,buf:=true,ro:=false,lk:=false,aR:=0 }).put 2<|.whole 2 0)=ak (fits<|plus (len ([]:List e.den))<|len (α:=e.den) l) (aa<|app (α:=e.den) [] l) none:=by intro l;rfl) :
  qk Tryz.prog f (.clone e):=by
 refine acp (cx:=cx0) (bf:=[2,5]) (tid:=b) mix akP (ND Tn NB aaM To NC) o d g p s u v w x y z A B (λl=>rfl) (λl=>rfl) (λl=>rfl) C (λl E=>?_);refine(D l).trans ?_;rw[show plus (len ([]:List e.den)) (len l)=len l by simp[plus,len],E];rfl
def ahl:∀p∈QQ,qk Tryz.prog p.1 p.2:=(dK Ah<|dK xL<|dK (UB 30 Tryz.func55)<|dK (UB 69 Tryz.func57)<|dK (UB 25 Tryz.func221)<|dK (UB 107 Tryz.func267)<|dK (UB 23 Tryz.func270)<|dK (UB 22 Tryz.func276)<|dK (UB 24 Tryz.func290)<|dK (UB 26 Tryz.func339)<|dK (UB 136 Tryz.func518)<|dK (Tq Tryz.func92 (by kernel_rfl) (by kernel_rfl) (Any.slices_Compact_int Tryz.Sq)<|Any.slices_Compact_int_empty Tryz.Sq)<|dK (afz Tryz.func222 (by kernel_rfl) (by kernel_rfl) (Any.slices_Sort_string Tryz.abH)<|Any.slices_Sort_string_none Tryz.abH)<|dK (Wb Tryz.func223 (by kernel_rfl) (by kernel_rfl) (Any.slices_Compact_string Tryz.abI)<|Any.slices_Compact_string_empty Tryz.abI)<|dK (ahk 23 112 Tryz.func272)<|dK (aaf 347 348 22 109 Tryz.func274 Tryz.func347)<|dK (ahk 22 109 Tryz.func278)<|dK (aaf 408 409 25 9 Tryz.func330 Tryz.func408)<|dK (aaf 410 411 24 114 Tryz.func331 Tryz.func410)<|dK (ahk 25 9 Tryz.func336)<|dK (ahk 24 114 Tryz.func337)<|dK (aaf 414 415 23 112 Tryz.func345 Tryz.func414)<|dK (aaf 418 419 107 119 Tryz.func354 Tryz.func418)<|dK (aaf 457 458 26 116 Tryz.func412 Tryz.func457)<|dK (ahk 107 119 Tryz.func417)<|dK (aaf 532 533 136 202 Tryz.func531 Tryz.func532) aaM)
def UC(d:List (Nat×SA))(a:List (Nat×Va))(e:List (String×SA):=[])(b:List (Nat×Gt):=[]):Rb (Lx d a e b):=afr (cx:=Lx d a e b) (show(ad1.all λp=>Y0 p.2)=true by kernel_rfl)
abbrev Pl(c:List (Nat×SA))(r:List (Nat×Va))(i:List (String×SA))(q:List (Nat×Gt)):Prop:=ql Tryz.prog cZ (Lx c r i q)
noncomputable def hasB(f:Nat):Bool:=match find ad1 f with|some fn=>fn.body.isSome|none=>false
def UD{f}(h:hasB f=true):∃b a,find ad1 f=aa b/\b.body=aa a:=by
 unfold hasB at h;split at h
 .obtain⟨a,d⟩:=KD.1 h;exact⟨_,a,by assumption,d⟩
 .cases h
section
variable {c:List (Nat×SA)} {r:List (Nat×Va)} {i:List (String×SA)} {q:List (Nat×Gt)}
def Pm{e:Type}{P:Nat->e->Prop}{l:List (Nat×e)}(h:∀f c,find l f=aa c->P f c){g a}(k:P g a):∀f c,find ((g,a)::l) f=aa c->P f c:=λf c b=>by
 unfold find at b;cases d:Nat.beq g f with
 | true=>rw[d] at b;cases b;exact gP d▸k
 | false=>rw[d] at b;exact h f c b
def Pl.QG(H:Pl c r i q){f a}(h:Holds Tryz.prog cZ f a):Pl ((f,a)::c) r i q:=⟨Pm H.Vb h,H.Px,H.QQ,H.inv,H.SB⟩
def Pn{e:Type}{n f:Nat}{x:e}:∀l:List (Nat×e),find (l.filter λp=>!Nat.beq p.1 n) f=aa x->find l f=aa x
 | [],h=>h
 | (g,a)::l,h=>by
   unfold find;rw[aeq] at h;cases d:Nat.beq g n with
   | true =>
     rw[aK<|by simp[d]] at h;have j:=Pn l h;cases b:Nat.beq g f with
     | true =>
       obtain rfl:=gP b;obtain rfl:=gP d;exact absurd (sZ h) (by simp[Aj])
     | false=>exact j
   | false =>
     rw[aQ<|by simp[d]] at h;unfold find at h;cases b:Nat.beq g f with
     | true=>rw[b] at h;exact h
     | false=>rw[b] at h;exact Pn l h
def Pl.hxn(H:Pl c r i q)(n:Nat):Pl (c.filter λp=>!Nat.beq p.1 n) r i q:=⟨λf a h=>H.Vb f a (Pn _ h),H.Px,H.QQ,H.inv,H.SB⟩
def Pl.hxq(H:Pl c r i q){f a}(h:lM Tryz.prog cZ f a):Pl c r i [(f,a)]:=⟨H.Vb,H.Px,H.QQ,H.inv,Pm (λ_ _ h=>by cases h) h⟩
def Pl.hxv(H:Pl c r i q){f d}(h:Bj Tryz.prog cZ f d):Pl c r ((f,d)::i) q:=⟨H.Vb,H.Px,H.QQ,λg a b=>by
 change (bif decide (f=g) then aa d else QR i g)=aa a at b;by_cases e:f=g
 .rw[cW e] at b;cases b;exact e▸h
 .rw[cf e] at b;exact H.inv g a b,H.SB⟩
def Pl.hxo(H:Pl c r i q){f a}(h:find c f=aa a:=by rfl):Holds Tryz.prog cZ f a:=H.Vb f a h
def Pl.bw(H:Pl c r i q)(f:Nat)(A R:Ty)(a:A.den->Option R.den)(d:hasB f=true:=by kernel_rfl)
  (e:∀x,sem (Lx c r i q) 12 ij f A R x=a x:=by intro x;kernel_rfl):Pl ((f,⟨A,R,a⟩)::c) r i q:=by
 obtain⟨k,b,g,j⟩:=UD d;exact H.QG (Tm mix (abP c r i q) H (UC c r i q) (f:=f) g j λx y h=>by rw[e];exact h)
def Pl.hxr(H:Pl c r i q)(f:Nat)(b:List Bool)(A U R:Ty)(a:A.den×U.den->Option (R.den×U.den))(e:hasB f=true:=by kernel_rfl)
  (g:∀x,alu (Lx c r i q) 12 ij f b A U R x=a x:=by intro x;kernel_rfl):Pl c ((f,⟨b,A,U,R,a⟩)::r) i q:=by
 obtain⟨l,d,j,k⟩:=UD e;exact⟨H.Vb,Pm H.Px (P2 mix (abP c r i q) H (UC c r i q) (f:=f) j k λx y h=>by rw[g];exact h),H.QQ,H.inv,H.SB⟩
def Pl.hxf(H:Pl c r i q){f:Nat}{T F:Nat}{t A U R:Ty}{a:(t.den×A.den)×U.den->Option (R.den×U.den)}(d:hasB f=true:=by kernel_rfl)
  (e:∀x,alv (Lx c r i q) 12 ij f T F t A U R x=a x:=by intro x;kernel_rfl):lM Tryz.prog cZ f ⟨T,t,F,A,U,R,a⟩:=by
 obtain⟨k,b,g,j⟩:=UD d;exact P3 mix (abP c r i q) H (UC c r i q) (f:=f) g j (λx y h=>by rw[e];exact h)
end
def UE{f:Nat}{a:Func}(e:Ty)(b:Nat)(p:Tryz.prog.funcs[f]?=aa a){h j k m o0 o1 n}(spec)(o:spec=λx=>bif fits (len (α:=e.den) x.1) then aa x else none:=by rfl)(d:(a.name == "runtime.NumGoroutine")=false:=by kernel_rfl)
  (g:a.body=aa (.seq j<|.seq (.seq (.region h #[o0,o1] false)<|.cond (.tmp 4) (.seq k .ret) .skip)<|.seq m .ret):=by rfl)
  (s:find (Lx [] []).T b=aa (.slice e):=by rfl) (u:4<a.ntmps:=by decide +kernel) (v:∀t∈writes j++(writes k++writes m),t<a.ntmps:=by decide +kernel)
  (w:o0.guard=none:=by rfl) (y:o0.dst=aa 3:=by rfl) (z:o0.op=.move (.tmp 0):=by rfl) (A:o1.guard=none:=by rfl) (B:o1.dst=aa 4:=by rfl) (C:o1.op=.binOp .eql b (.tmp 3) (.const<|.slice af 0 0) n:=by rfl)
  (D:∀l:List e.den,(jS (Lx [] []) 0 [5] Ao j []<|zb (λ_=>af) [.data (.slice e) l]).run=aa (0,(zb (λ_=>af) [.data (.slice e) l]).put 2 (.data (.slice e) ([]:List e.den))):=by intro l;rfl)
  (E:∀l:List e.den,afw (Lx [] []) [5] a.results.toList (.pair (.slice e) .unit) (.seq k .ret) ((zb (λ_=>af) [.data (.slice e) l]).put 2<|.data (.slice e) ([]:List e.den))=aa (([]:List e.den),()):=by intro l;rfl)
  (F:∀l:List e.den,afw (Lx [] []) [5] a.results.toList (.pair (.slice e) .unit) (.seq m .ret) ((zb (λ_=>af) [.data (.slice e) l]).put 2<|.data (.slice e) ([]:List e.den))=ak (fits<|plus (len ([]:List e.den))<|len (α:=e.den) l) (aa (app (α:=e.den) [] l,())) none:=by intro l;rfl) :
  Holds Tryz.prog cZ f ⟨.pair (.slice e) .unit,.pair (.slice e) .unit,spec⟩:=by
 subst o;refine V6 (cx:=Lx [] []) (bf:=[5]) (tid:=b) mix (abP [] []) (ND Tn NB ahl To NC) p d g s u v w y z A B C D (λl=>rfl) (λl=>rfl) (λl=>rfl) E (λl G=>?_);refine(F l).trans ?_;rw[show plus (len ([]:List e.den)) (len l)=len l by simp[plus,len],G];rfl
def Yw:=(show Pl [] [] [] [] from ND Tn NB ahl To NC)
 |>.bw 79 (.pair (.slice .str) yX) fV bG
 |>.bw 317 (.pair (.slice .str) dQ) jR eY
 |>.bw 231 (.pair (.slice .str) dQ) fV bD
 |>.bw 444 (.pair .str Uz) jR dn
 |>.bw 475 dQ (.pair (.int .u32)<|.pair (.int .u32) .unit) iq
 |>.bw 445 ud jR fg
 |>.bw 397 ud jR qq
 |>.bw 320 dQ ud gA
 |>.bw 349 ud fV cC
 |>.bw 283 ud fV cI
def Po:Holds Tryz.prog cZ 289 ⟨(.pair (.slice .str) dQ),dQ,lN⟩:=Y7 Tryz.func289 (by kernel_rfl) (by kernel_rfl) (Any.strings_Join_none Tryz.abJ Tryz.zH) (Any.strings_Join Tryz.abJ Tryz.zH)
def yd:=Yw
 |>.QG Po
def Ly:Holds Tryz.prog cZ 447 ⟨ud,yX,wG⟩:=V9 Tryz.func447 (by kernel_rfl) (by kernel_rfl) (λs b w hs=>Any.FM Tryz.ai0 (by kernel_rfl) s b w hs)
def hx3:=yd
 |>.QG Ly
 |>.bw 401 dQ yX fw
def uf:Holds Tryz.prog cZ 446 ⟨(.pair .str Uz),jR,fC⟩:=Tp (spec:=λs c=>Lib.indexByte s (show Int from c).toNat.toUInt8) Tryz.func446 (by kernel_rfl) (by kernel_rfl) (λs c=>B5 _ s) (λs c w=>by
 go_enter Tryz.func446,Tryz.ntmps446
 go_wp2
 rw[run_callFunc_extern Tryz.func476 (by kernel_rfl) (by kernel_rfl) (by kernel_rfl) (e:=Extern.BytealgIndexByte.indexByte)<|by kernel_rfl,Lib.run_indexByteString];simp only[Result.andThen];rw[Oper.upon_value]
 go_wp2
 go_ret
 exact⟨rfl,rfl⟩)
def hx4:=hx3
 |>.QG uf
 |>.bw 399 (.pair .str Uz) jR dC
 |>.bw 442 dQ fV tc
 |>.bw 392 dQ oG qB
 |>.bw 474 ud (.pair .str fV) fD
 |>.bw 443 ud (.pair .str fV) lv
 |>.bw 393 dQ Ig td
 |>.bw 398 dQ fV vm
 |>.bw 321 UA fV AE
 |>.bw 432 dQ fV jc
 |>.bw 402 ud jR kA
 |>.bw 322 ud jR hR
 |>.bw 449 (.pair Sr dQ) jR ng
 |>.bw 403 JJ (.pair (.int .i64) fV) ew
 |>.bw 323 JJ jR oT
 |>.bw 236 wQ jR ez
 |>.bw 516 ud fV dH
 |>.QG (UE Sr 136 Tryz.func518 nZ)
 |>.bw 530 (.pair (.slice Sr) UA) Cs uK
 |>.bw 86 yX fV mv
 |>.bw 87 (.pair JI .unit) fV eC
 |>.bw 42 (.pair ai4 .unit) fV ss
 |>.bw 43 ahg fV zu
 |>.bw 17 ue fV wb
def hx5:=hx4
 |>.bw 46 yX fV pO
 |>.bw 19 (.pair adW .unit) fV qK
 |>.bw 20 (.pair BX .unit) fV C2
 |>.bw 6 aae fV C3
 |>.bw 51 (.pair YH1 jR) fV vE
 |>.bw 52 (.pair YH1 .unit) fV ox
 |>.QG (UE (.int .i64) 30 Tryz.func55 By)
 |>.bw 220 jR fV rL
 |>.bw 145 JK fV tS
 |>.bw 91 Gl fV gg
 |>.bw 53 Gl fV tT
 |>.bw 21 (.pair BX .unit) jR dE
 |>.bw 56 (.pair YH1 .unit) jR xD
 |>.QG (UE .bool 69 Tryz.func57 z8)
 |>.QG (UE .str 25 Tryz.func221 aX)
 |>.bw 381 (.pair .str Uz) dQ ix
 |>.bw 382 (.pair .str Uz) dQ ff
 |>.bw 383 dQ (.pair (.arr 256 .bool) fV) eu
 |>.hxr 433 [true,false] Uz (.pair (.arr 256 .bool) .unit) fV cS
 |>.hxr 384 [false,true] dQ (.pair (.arr 256 .bool) .unit) dQ gX
 |>.hxr 385 [false,true] dQ (.pair (.arr 256 .bool) .unit) dQ dT
 |>.bw 311 ud dQ jb
 |>.bw 226 dQ fV nu
 |>.bw 148 yX jR gB
def hx6:=hx5
 |>.hxr 388 [true,false] fV (.pair ai5 .unit) (.pair (.pair YH7 dQ) fV) eM
 |>.bw 389 dQ fV vi
 |>.bw 469 .unit (.pair (.arr 11 JK) .unit) nf
 |>.bw 437 oG dQ cg
 |>.bw 470 ud dQ eJ
 |>.bw 471 dQ (.pair (.int .i64) fV) dN
 |>.bw 438 dQ jR dD
 |>.bw 439 dQ jR xh
 |>.bw 440 dQ (.pair .str fV) kU
 |>.bw 472 JK fV mr
 |>.bw 473 oG fV oR
 |>.bw 441 (.pair YH7 jR) fV sq
 |>.bw 390 dQ (.pair YH7 jR) fv
 |>.bw 391 jR jR yn
 |>.hxr 313 [true] .unit (.pair ai5 .unit) (.pair (.pair YH7 dQ) fV) cc
 |>.hxr 314 [true] .unit (.pair ai5 .unit) fV iR
 |>.bw 227 dQ (.pair X1 jR) gr
 |>.bw 394 ud dQ pG
 |>.bw 396 UA fV eA
 |>.bw 395 dQ fV np
 |>.bw 513 JJ wQ vo
 |>.bw 511 (.pair dQ wQ) wQ jL
 |>.bw 512 (.pair dQ wQ) Cs wU
 |>.bw 523 JJ wQ xj
def hx7:=hx6
 |>.bw 521 (.pair dQ wQ) wQ gY
 |>.bw 522 (.pair dQ wQ) Cs uw
 |>.bw 525 (.pair .unit wQ) wQ ux
 |>.bw 526 (.pair .unit wQ) Cs wV
 |>.bw 527 (.pair UA wQ) wQ uy
 |>.bw 529 JJ (.pair Sr fV) zm
 |>.bw 528 (.pair UA wQ) Cs lz
 |>.bw 315 (.pair (.pair YH7 dQ) .unit) (.pair adX fV) tk
 |>.bw 228 (.pair X1 .unit) (.pair (.slice adX) fV) nq
 |>.bw 150 dQ jR hS
 |>.bw 232 (.pair (.int .i64)<|.pair ai4 .unit) Lw rY
 |>.bw 155 ue Lw l7
 |>.bw 192 (.pair QE dQ) oG iM
 |>.bw 152 (.pair iH dQ) oG eP
 |>.bw 229 (.pair QE dQ) jR xr
 |>.bw 154 (.pair QE<|.pair .str yX) jR iz
 |>.bw 240 dQ dQ mD
 |>.bw 233 jR dQ zr
 |>.bw 157 (.pair QE jR) oG ji
 |>.bw 159 (.pair (.slice Me) dQ) (.pair (.slice Me) jR) vA
 |>.bw 244 ue yX nS
 |>.bw 254 (.pair Me .unit) dQ wH
 |>.bw 170 (.pair iH dQ) (.pair Me<|.pair .str fV) kX
def QH:Bj Tryz.prog cZ "cooperage/overlay.clears" ⟨(.pair adX wQ),wQ,xn⟩:=(oM (hx7.hxo (f:=511)) (λv w=>by kernel_rfl) rfl (oM (hx7.hxo (f:=521)) (λv w=>by kernel_rfl) rfl (oM (hx7.hxo (f:=525)) (λv w=>by kernel_rfl) rfl (oM (hx7.hxo (f:=527)) (λv w=>by kernel_rfl) rfl MO))))
def hx8:=hx7
 |>.hxv QH
def X2:Bj Tryz.prog cZ "cooperage/overlay.puts" ⟨(.pair adX wQ),Cs,Bn⟩:=(oM (hx8.hxo (f:=512)) (λv w=>by kernel_rfl) rfl (oM (hx8.hxo (f:=522)) (λv w=>by kernel_rfl) rfl (oM (hx8.hxo (f:=526)) (λv w=>by kernel_rfl) rfl (oM (hx8.hxo (f:=528)) (λv w=>by kernel_rfl) rfl MO))))
def hx9:=hx8
 |>.hxv X2
 |>.bw 237 (.pair (.slice Sr)<|.pair X1 .unit) Cs vq
 |>.bw 162 JJ Cs kb
 |>.bw 259 yX Cs qG
def UF:Holds Tryz.prog cZ 171 ⟨(.pair iH dQ),Cs,mQ⟩:=(hx9.hxn 159 |>.bw 171 (.pair iH dQ) Cs mQ).hxo
def aoc:=hx9
 |>.QG UF
 |>.bw 161 (.pair iH dQ) Cs jr
 |>.bw 163 jR DG eg
def JL:Holds Tryz.prog cZ 238 ⟨oG,dQ,pA⟩:=P5 (spec:=gn) Tryz.func238 (by kernel_rfl) (by kernel_rfl) (λ_ _ _ h=>CU h) (λs c w y e f a=>by
 obtain⟨b,d,rfl⟩:=uv a;have g:(IntKind.i64).max=9223372036854775807:=aF;obtain⟨n,rfl⟩:=UN b;exact(Any.strings_Repeat Tryz.ai1 Tryz.Ie) s n w ah d)
def aod:=aoc
 |>.QG JL
 |>.bw 164 .unit dQ zY
 |>.bw 451 .unit ahf v7
 |>.bw 452 .unit (.pair (.arr 64<|.int .u32) .unit) CV
 |>.bw 478 (.pair (.int .u32) jR) (.pair (.int .u32) .unit) kT
 |>.bw 454 (.pair (.int .u32) jR) (.pair (.int .u32) .unit) cu
 |>.bw 453 (.pair (.arr 64<|.int .u8) .unit) (.pair (.arr 64<|.int .u32) .unit) s7
 |>.hxr 327 [true,false] dQ (.pair akN .unit) .unit gp
 |>.hxr 328 [true] .unit (.pair akN .unit) (.pair (.arr 32<|.int .u8) .unit) pB
 |>.bw 239 dQ (.pair (.arr 32<|.int .u8) .unit) D2
 |>.bw 165 dQ dQ oP
 |>.bw 243 (.pair (.slice .str) Ig) yX lJ
 |>.QG (UE Me 24 Tryz.func290 r8)
 |>.bw 245 (.pair (.slice Me)<|.pair (.int .i64)<|.pair Me .unit) ahg iB
 |>.bw 166 (.pair iH<|.pair Me dQ) ue tw
 |>.bw 93 adZ (.pair iH DG) kg
 |>.bw 167 (.pair iH dQ) fV pW
 |>.bw 252 (.pair oG .unit) dQ rz
 |>.bw 168 (.pair iH dQ) jR dq
 |>.bw 255 (.pair (.slice .str) jR) yX iC
 |>.bw 256 (.pair (.slice Me) jR) ahg gd
 |>.QG (UE oG 26 Tryz.func339 r9)
 |>.bw 342 (.pair (.slice oG)<|.pair (.int .i64)<|.pair oG .unit) (.pair (.slice oG) .unit) bJ
 |>.bw 257 (.pair iH oG) ue qH
def aoe:=aod
 |>.bw 169 (.pair iH dQ) ue kh
 |>.bw 94 (.pair iH dQ) (.pair iH DG) wJ
 |>.bw 95 (.pair iH dQ) DG zZ
 |>.bw 172 (.pair (.slice Sr) wQ) (.pair (.slice Ig) jR) qZ
 |>.bw 173 (.pair (.slice Ig) .unit) dQ xk
 |>.bw 96 (.pair iH dQ) DG uM
 |>.bw 174 (.pair iH oG) (.pair iH DG) pZ
 |>.bw 97 (.pair iH dQ) (.pair iH DG) C0
 |>.bw 98 (.pair iH dQ) (.pair iH DG) AH
 |>.bw 175 jR DG jh
 |>.bw 176 ue Lw gJ
 |>.bw 182 (.pair DH .unit) dQ dU
 |>.QG (UE (.pair .str ud) 107 Tryz.func267 bN)
 |>.QG (UE DH 23 Tryz.func270 r4)
 |>.bw 177 (.pair iH<|.pair DH .unit) ue gD
 |>.bw 99 adZ (.pair iH DG) rm
 |>.bw 178 (.pair iH dQ) oG nQ
 |>.bw 100 (.pair iH dQ) (.pair iH DG) rn
 |>.bw 183 jR DG kZ
 |>.bw 184 ue Lw nU
 |>.bw 185 (.pair iH dQ) (.pair DH fV) pU
 |>.QG (UE EN 22 Tryz.func276 uN)
 |>.bw 186 (.pair iH<|.pair EN .unit) ue kG
 |>.bw 101 adZ (.pair iH DG) tD
def akQ:=aoe
 |>.bw 187 (.pair iH dQ) oG xz
 |>.bw 188 (.pair iH dQ) (.pair EN fV) su
 |>.bw 102 (.pair iH dQ) (.pair iH DG) tF
 |>.bw 105 jR DG eS
 |>.bw 279 (.pair QF jR) jR iE
 |>.bw 190 (.pair QF jR) fV dL
 |>.bw 280 (.pair adW Gl) Gl yq
 |>.bw 191 (.pair adW .unit) Gl qJ
 |>.bw 193 (.pair iH jR) Lw vC
 |>.bw 287 (.pair (.pair .str ud) .unit) dQ cd
 |>.bw 195 (.pair JI dQ) oG l6
 |>.bw 196 (.pair JI ud) (.pair JI jR) l5
 |>.bw 103 ad0 (.pair iH DG) Bs
 |>.bw 197 Lw dQ z6
 |>.bw 198 (.pair iH<|.pair (.int .i64)<|.pair .str yX) ue hY
 |>.bw 104 ad0 (.pair iH DG) yr
 |>.bw 58 ad0 (.pair iH DG) yu
 |>.bw 59 (.pair YH1<|.pair YH1 .unit) fV mc
noncomputable def iI(s:((BX:Ty).den×(adY:Ty).den)×(Gl:Ty).den->Option ((fV:Ty).den×(Gl:Ty).den)):Gt:=⟨68,BX,38,adY,Gl,fV,s⟩
def xM(rec)(a:lM Tryz.prog cZ 76 (iI rec)):lM Tryz.prog cZ 76 (iI<|jy rec):=(akQ.hxq a).hxf
def yY:lM Tryz.prog cZ 76 (iI fM):=FO Tryz.func76 (by kernel_rfl) (by kernel_rfl) xM bU uj uk uQ
def DI:Holds Tryz.prog cZ 13 ⟨aae,(.pair QF jR),jz⟩:=(akQ.hxq yY |>.bw 13 aae (.pair QF jR) jz).hxo
def akR:=akQ
 |>.QG DI
 |>.bw 15 (.pair QF Gl) fV uO
noncomputable def iJ(s:((BX:Ty).den×(adY:Ty).den)×(.unit:Ty).den->Option ((fV:Ty).den×(.unit:Ty).den)):Gt:=⟨68,BX,41,adY,.unit,fV,s⟩
def xN(rec)(a:lM Tryz.prog cZ 76 (iJ rec)):lM Tryz.prog cZ 76 (iJ<|jA rec):=(akR.hxq a).hxf
def yZ:lM Tryz.prog cZ 76 (iJ fN):=FO Tryz.func76 (by kernel_rfl) (by kernel_rfl) xN bV uo uq uR
def DJ:Holds Tryz.prog cZ 16 ⟨aae,(.pair .bool jR),fO⟩:=(akR.hxq yZ |>.bw 16 aae (.pair .bool jR) fO).hxo
def aof:=akR
 |>.QG DJ
 |>.bw 8 (.pair iH<|.pair BX Gl) (.pair iH fV) rM
 |>.bw 60 (.pair BX .unit) fV vG
 |>.bw 25 (.pair BX .unit) jR ld
 |>.bw 29 (.pair YH1 .unit) fV kH
 |>.bw 61 (.pair YH1 .unit) jR lf
 |>.bw 26 (.pair (.slice YH1)<|.pair QF<|.pair (.slice .bool) jR) fV qM
 |>.bw 27 (.pair (.slice YH1)<|.pair QF<|.pair (.slice .bool) JK) fV tU
 |>.bw 219 dQ fV oZ
 |>.bw 199 yX fV vw
 |>.bw 106 yX jR gC
 |>.bw 107 jR DG bT
 |>.bw 355 dQ fV xp
 |>.bw 356 dQ fV xq
 |>.bw 462 dQ (.pair (.int .i64) fV) oe
 |>.bw 420 dQ jR fH
 |>.bw 421 dQ jR zl
 |>.bw 422 dQ (.pair .str fV) pM
 |>.bw 463 oG fV nN
 |>.bw 464 JK fV rX
 |>.bw 423 (.pair YH7 jR) fV wa
 |>.bw 357 dQ (.pair YH7 jR) pN
 |>.bw 358 jR jR nO
 |>.bw 292 dQ (.pair X1 fV) vr
def aog:=aof
 |>.bw 200 dQ (.pair X1 jR) mJ
 |>.bw 363 dQ yX ep
 |>.bw 364 yX dQ pF
 |>.bw 294 dQ ud kW
 |>.bw 424 ud fV oS
 |>.bw 360 dQ Ig tf
 |>.bw 425 dQ fV te
 |>.bw 365 dQ fV yo
 |>.bw 366 dQ fV tg
 |>.bw 295 UA fV mu
 |>.bw 302 (.pair (.pair YH7 dQ) dQ) UA tl
 |>.bw 359 dQ oG vk
 |>.bw 361 ud dQ pH
 |>.bw 362 dQ fV lZ
 |>.bw 293 (.pair (.pair YH7 dQ) .unit) (.pair (.int .i64)<|.pair .str fV) pK
 |>.bw 201 (.pair X1 .unit) fV qE
 |>.bw 108 dQ jR nP
 |>.bw 204 (.pair (.int .i64)<|.pair ai4 .unit) Lw rZ
 |>.bw 111 ue Lw kY
 |>.bw 218 ud fV yp
 |>.bw 138 (.pair QE dQ) oG kF
 |>.bw 109 (.pair iH dQ) oG e7
 |>.bw 202 (.pair QE dQ) jR xv
 |>.bw 203 (.pair (.slice .str) dQ) fV zo
def aoh:=aog
 |>.bw 110 (.pair QE<|.pair .str yX) jR mK
 |>.bw 205 jR dQ Br
 |>.bw 112 (.pair QE jR) oG nT
 |>.bw 206 (.pair (.slice Me) dQ) jR Bo
 |>.bw 113 (.pair (.slice Me) dQ) (.pair (.slice Me) jR) nR
 |>.bw 207 (.pair iH jR) dQ kD
 |>.bw 208 (.pair iH dQ) jR tu
 |>.bw 307 JJ jR iy
 |>.bw 296 JJ fV oU
 |>.bw 297 ud jR j8
 |>.bw 210 wQ fV jd
 |>.bw 426 ud fV vl
 |>.bw 367 (.pair (.slice Sr)<|.pair .str fV) wQ ka
 |>.bw 298 JJ wQ ti
 |>.bw 299 JJ wQ vp
 |>.bw 214 JJ (.pair Sr fV) pJ
 |>.bw 301 (.pair (.slice Sr) UA) Cs oV
 |>.bw 300 JJ Cs xo
 |>.bw 211 (.pair (.slice Sr)<|.pair X1 .unit) Cs zn
 |>.bw 116 JJ Cs qF
 |>.bw 209 yX Cs zv
 |>.bw 114 (.pair iH dQ) Cs mO
 |>.bw 115 .unit dQ xy
 |>.bw 117 (.pair iH<|.pair Me dQ) ue tz
def aoi:=aoh
 |>.bw 303 .unit ahf zW
 |>.bw 304 dQ dQ vg
 |>.bw 368 (.pair (.int .u32) jR) (.pair (.int .u32) .unit) cB
 |>.bw 369 .unit (.pair (.arr 64<|.int .u32) .unit) ym
 |>.bw 305 (.pair (.arr 8<|.int .u32) dQ) ahf vh
 |>.bw 212 dQ (.pair (.arr 32<|.int .u8) .unit) zk
 |>.bw 306 jR Uz qA
 |>.bw 213 dQ dQ v8
 |>.bw 118 dQ dQ uJ
 |>.bw 62 adZ (.pair iH DG) pa
 |>.bw 119 (.pair iH dQ) fV tG
 |>.bw 120 (.pair iH dQ) jR fL
 |>.bw 125 (.pair iH oG) ue nV
 |>.bw 121 (.pair iH dQ) ue nx
 |>.bw 63 (.pair iH dQ) (.pair iH DG) yv
 |>.bw 122 (.pair iH dQ) (.pair Me<|.pair .str fV) qI
 |>.bw 64 (.pair iH dQ) DG Bu
 |>.bw 215 (.pair (.slice Ig)<|.pair Ig .unit) (.pair (.slice Ig) .unit) sr
 |>.bw 123 (.pair (.slice Sr) wQ) (.pair (.slice Ig) jR) nk
 |>.bw 124 (.pair (.slice Ig) .unit) dQ tj
 |>.bw 65 (.pair iH dQ) DG wK
 |>.bw 66 (.pair iH dQ) (.pair iH DG) z7
 |>.bw 67 (.pair iH dQ) (.pair iH DG) wL
 |>.bw 126 jR DG iO
def aoj:=aoi
 |>.bw 127 ue Lw nW
 |>.bw 216 (.pair iH dQ) jR xA
 |>.bw 130 (.pair iH dQ) ue ny
 |>.bw 128 (.pair iH<|.pair DH .unit) ue sv
 |>.bw 68 adZ (.pair iH DG) tI
 |>.bw 129 (.pair iH dQ) oG tJ
 |>.bw 69 (.pair iH dQ) (.pair iH DG) tK
 |>.bw 131 jR DG gE
 |>.bw 132 (.pair iH dQ) (.pair DH fV) pc
 |>.bw 133 ue Lw nX
 |>.bw 217 (.pair iH dQ) jR xB
 |>.bw 137 (.pair iH dQ) ue nz
 |>.bw 134 (.pair iH<|.pair EN .unit) ue sw
 |>.bw 70 adZ (.pair iH DG) tM
 |>.bw 135 (.pair iH dQ) oG Bw
 |>.bw 136 (.pair iH dQ) (.pair EN fV) sx
 |>.bw 71 (.pair iH dQ) (.pair iH DG) tN
 |>.bw 74 jR DG fx
 |>.bw 139 (.pair iH jR) Lw vD
 |>.bw 140 (.pair JI dQ) oG rr
 |>.bw 141 (.pair JI ud) (.pair JI jR) rq
 |>.bw 72 ad0 (.pair iH DG) xC
 |>.bw 142 Lw dQ Bx
 |>.bw 143 (.pair iH<|.pair (.int .i64)<|.pair .str yX) ue ia
def akS:=aoj
 |>.bw 73 ad0 (.pair iH DG) tO
 |>.bw 28 ad0 (.pair iH DG) yw
 |>.bw 30 (.pair (.slice .bool)<|.pair (.slice YH1) jR) (.pair (.slice .bool) .unit) qa
 |>.bw 31 (.pair (.slice YH1)<|.pair QF<|.pair (.slice .bool) jR) fV tV
 |>.bw 9 (.pair iH<|.pair BX Gl) (.pair iH fV) tW
 |>.bw 35 (.pair (.slice .str) yX) fV dY
 |>.bw 75 (.pair JI<|.pair JI .unit) fV fI
 |>.bw 32 (.pair (.slice EN)<|.pair (.slice EN) .unit) fV kE
 |>.bw 33 (.pair (.slice DH)<|.pair (.slice DH) .unit) fV jn
 |>.bw 34 (.pair (.slice Me) ahg) fV jo
 |>.bw 36 (.pair (.slice oG)<|.pair (.slice oG) .unit) fV jq
 |>.bw 10 (.pair iH ue) fV mP
 |>.bw 80 (.pair JI<|.pair JI .unit) fV dZ
 |>.bw 78 (.pair EN<|.pair EN .unit) fV rR
 |>.bw 82 (.pair DH<|.pair DH .unit) fV rS
 |>.bw 84 (.pair Me<|.pair Me .unit) fV rT
 |>.bw 85 (.pair (.slice oG)<|.pair (.slice oG) .unit) fV fb
 |>.bw 40 (.pair iH ue) fV tX
noncomputable def jH(s:((BX:Ty).den×(adY:Ty).den)×(ue:Ty).den->Option ((fV:Ty).den×(ue:Ty).den)):Gt:=⟨68,BX,39,adY,ue,fV,s⟩
def y4(rec)(a:lM Tryz.prog cZ 76 (jH rec)):lM Tryz.prog cZ 76 (jH<|jX rec):=(akS.hxq a).hxf
def y8:lM Tryz.prog cZ 76 (jH jY):=FO Tryz.func76 (by kernel_rfl) (by kernel_rfl) y4 cE uS uT we
def QI:Holds Tryz.prog cZ 14 ⟨(.pair iH<|.pair BX ue),(.pair .bool jR),qN⟩:=(akS.hxq y8 |>.bw 14 (.pair iH<|.pair BX ue) (.pair .bool jR) qN).hxo
def amt:=akS
 |>.QG QI
 |>.bw 44 (.pair BX .unit) fV HA
def LA rec (a:Holds Tryz.prog cZ 144 ⟨ai3,fV,rec⟩):Holds Tryz.prog cZ 144 ⟨ai3,fV,mg rec⟩:=(amt.QG a |>.bw 144 ai3 fV (mg rec)).hxo
def Pp:Holds Tryz.prog cZ 144 ⟨ai3,fV,yx⟩:=acs Tryz.func144 (by kernel_rfl) (by kernel_rfl) LA eU EJ EK FV
def amu:=amt
 |>.QG Pp
 |>.bw 88 akO fV yy
 |>.bw 45 akO fV C4
 |>.bw 18 akO (.pair .bool jR) vH
noncomputable def JM:SA:=⟨(.pair iH aae),fV,qc⟩
noncomputable def QJ:SA:=⟨.unit,fV,vF⟩
noncomputable def Pq:SA:=⟨aae,(.pair .bool jR),fO⟩
def JN:Holds Tryz.prog cZ 15 ⟨(.pair QF Gl),fV,uO⟩:=amu.hxo
end Go.Proofs.YtgklgliokhbcnaaGreatDoor
