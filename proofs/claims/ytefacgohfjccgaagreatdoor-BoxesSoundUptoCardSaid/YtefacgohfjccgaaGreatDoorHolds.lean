/- The layer's functions keep their contracts: each comes to its plain definition, by the ghost interpreter. -/
import Derived.Test.YtefacgohfjccgaaGreatDoorRows
import Derived.Test.YtefacgohfjccgaaGreatDoorPlG
import Derived.Test.YtefacgohfjccgaaGreatDoorBld
import Derived.Test.YtefacgohfjccgaaGreatDoorShelf
set_option linter.unusedVariables false
set_option linter.unusedSectionVars false
set_option linter.unusedSimpArgs false
namespace Go.Proofs.YtefacgohfjccgaaGreatDoor
open Go Go.Ge
set_option maxRecDepth 100000
variable [Lp]
abbrev Mi:Ty:=(.pair (.slice (.pair .str (.pair (.slice .str) (.pair .str (.pair .str (.pair .str (.pair (.slice (.pair .str (.pair .str (.pair .str .unit)))) .unit))))))) (.pair (.slice (.pair .str (.pair (.slice .str) (.pair .str (.pair .str (.pair (.slice (.pair .str (.pair .str (.pair .str .unit)))) .unit)))))) (.pair (.slice (.pair .str (.pair .str (.pair (.slice .str) (.pair .str (.pair (.int .i64) (.pair (.int .i64) (.pair .bool .unit)))))))) (.pair (.slice .str) (.pair (.slice (.pair .str (.pair (.int .i64) .unit))) .unit)))))
abbrev wm:Ty:=(.pair .str (.pair .str (.pair (.slice .str) (.pair .str (.pair (.int .i64) (.pair (.int .i64) (.pair .bool .unit)))))))
abbrev Ak:Ty:=(.pair .str (.pair (.slice .str) (.pair .str (.pair .str (.pair .str (.pair (.slice (.pair .str (.pair .str (.pair .str .unit)))) .unit))))))
abbrev gX:Ty:=(.pair .str .unit)
abbrev BO:Ty:=(.pair (.int .i64) .unit)
abbrev TL:Ty:=(.pair .str (.pair (.int .i64) (.pair (.int .i64) (.pair .str gX))))
abbrev YH6:Ty:=(.pair .str (.pair (.int .i64) (.pair (.int .i64) (.pair (.int .i64) (.pair (.int .i64) (.pair (.int .i64) (.pair (.int .i64) gX)))))))
abbrev YH7:Ty:=(.pair .str (.pair (.slice .str) (.pair .str (.pair .str (.pair (.slice (.pair .str (.pair .str gX))) .unit)))))
abbrev ug:Ty:=(.pair .bool .unit)
abbrev IP:Ty:=(.pair .str (.pair .str gX))
abbrev jk:Ty:=(.pair .str BO)
abbrev CB:Ty:=(.pair (.slice .str) .unit)
abbrev afs:Ty:=(.pair (.int .i64) (.pair (.slice wm) (.pair (.slice YH7) (.pair (.slice Ak) .unit))))
abbrev aft:Ty:=(.pair (.pair (.int .i64) (.pair .str (.pair (.int .i64) gX))) .unit)
abbrev ab5:Ty:=(.pair (.arr 8 (.int .u32)) .unit)
abbrev Tr:Ty:=(.pair (.slice wm) .unit)
abbrev Ts:Ty:=(.slice (.pair .str CB))
abbrev Tt:Ty:=(.pair (.int .i64) BO)
abbrev LJ:Ty:=(.pair Mi .unit)
abbrev YX:Ty:=(.pair (.int .u8) .unit)
abbrev YY:Ty:=(.pair (.slice TL) gX)
abbrev ab6:Ty:=(.pair (.slice jk) .unit)
abbrev aja:Ty:=(.pair (.pair .bool ab5) (.pair (.arr 64 (.int .u8)) BO))
abbrev ab7:Ty:=(.pair (.slice TL) BO)
abbrev afu:Ty:=(.pair (.slice Ak) .unit)
abbrev afv:Ty:=(.pair (.slice IP) .unit)
noncomputable def fH:Nat→Aw
 | 3=>⟨[none,none,none],[]⟩
 | 4=>⟨[some ⟨[(2,4),(3,3)],[],false⟩,none,none],[]⟩
 | 5=>⟨[none,some ⟨[(2,4),(3,3)],[],false⟩,none,none,some ⟨[(2,4),(4,3)],[],false⟩,none,some ⟨[(6,4),(7,3)],[],false⟩,none,none,some ⟨[(2,4),(8,3)],[],false⟩,none,none],[]⟩
 | 6=>⟨[],[]⟩
 | 7=>⟨[none,some ⟨[(13,32)],[12],false⟩,some ⟨[(13,32)],[],false⟩,some ⟨[(13,32)],[12],false⟩,none,some ⟨[],[14],false⟩,none],[]⟩
 | 8=>⟨[none,none],[]⟩
 | 9=>⟨[],[]⟩
 | 10=>⟨[],[]⟩
 | 11=>⟨[none],[]⟩
 | 12=>⟨[some ⟨[(2,4),(3,3)],[],false⟩,none,none,some ⟨[(2,4),(4,3)],[],false⟩,none,none,some ⟨[(2,4),(5,3)],[],false⟩,none,none],[]⟩
 | 13=>⟨[some ⟨[(2,4),(3,3)],[],false⟩,none,none],[]⟩
 | 14=>⟨[none,some ⟨[(4,32),(6,3)],[],false⟩,none,none,some ⟨[(4,32),(7,3)],[],false⟩,none,none,some ⟨[(4,32),(8,3)],[],false⟩,none,none,some ⟨[(4,32),(11,3)],[],false⟩,none,none,some ⟨[(4,32),(12,3)],[],false⟩,none,some ⟨[(4,32),(13,3)],[],false⟩,none,none],[]⟩
 | 15=>⟨[none,some ⟨[(2,4),(3,3)],[],false⟩,none,none,none],[]⟩
 | 16=>⟨[some ⟨[(4,3),(5,3)],[],false⟩,none,none],[]⟩
 | 17=>⟨[some ⟨[(7,26),(8,3)],[7],false⟩,none,some ⟨[(7,26)],[7],false⟩,none,some ⟨[(9,3)],[],false⟩,none],[7,10]⟩
 | 18=>⟨[none],[7]⟩
 | 19=>⟨[],[]⟩
 | 20=>⟨[],[]⟩
 | 21=>⟨[none,some ⟨[(6,32),(21,3)],[5],false⟩,none,none],[]⟩
 | 22=>⟨[],[]⟩
 | 23=>⟨[none,some ⟨[(4,9),(5,32),(17,3),(0,999999)],[0],false⟩,none,none],[]⟩
 | 24=>⟨[some ⟨[(5,4),(11,3)],[4],false⟩,none,none],[]⟩
 | 25=>⟨[none,some ⟨[],[8],false⟩],[36]⟩
 | 26=>⟨[some ⟨[(5,3)],[],false⟩],[8000000]⟩
 | 27=>⟨[some ⟨[(5,22)],[5,6],false⟩],[9,8000000]⟩
 | 28=>⟨[none],[]⟩
 | 29=>⟨[],[]⟩
 | 30=>⟨[],[]⟩
 | 31=>⟨[none,some ⟨[(4,4),(5,3)],[],false⟩,none,none],[]⟩
 | 32=>⟨[none,some ⟨[(4,4),(5,3)],[],false⟩,none,none],[]⟩
 | 33=>⟨[none,some ⟨[(4,4),(5,3)],[],false⟩,none,none],[]⟩
 | 34=>⟨[none,some ⟨[(4,4),(5,3)],[],false⟩,none,none],[]⟩
 | 35=>⟨[none,some ⟨[(4,4),(5,3)],[],false⟩,none,none],[]⟩
 | 36=>⟨[none,none,some ⟨[(7,25),(27,3)],[7],false⟩,none,some ⟨[(7,25)],[7],false⟩,none,none],[7]⟩
 | 37=>⟨[some ⟨[(4,3),(8,3)],[1],false⟩,none,none],[]⟩
 | 38=>⟨[],[]⟩
 | 39=>⟨[none],[5]⟩
 | 40=>⟨[none],[5]⟩
 | 41=>⟨[some ⟨[(2,4),(3,3)],[],false⟩,none,none],[]⟩
 | 42=>⟨[some ⟨[(2,4),(3,3)],[],false⟩,none,none],[]⟩
 | 43=>⟨[],[]⟩
 | 44=>⟨[],[]⟩
 | 45=>⟨[],[]⟩
 | 46=>⟨[some ⟨[(4,25),(5,25),(6,3)],[4,5],false⟩,none,some ⟨[(4,25),(5,25),(7,3)],[4,5],false⟩,none,some ⟨[(4,25),(5,25),(8,3)],[4,5],false⟩,none],[4,5]⟩
 | 47=>⟨[some ⟨[(2,32),(3,3)],[],false⟩,none,none],[]⟩
 | 48=>⟨[],[]⟩
 | 49=>⟨[none],[]⟩
 | 50=>⟨[none,some ⟨[(8,25),(9,3)],[8],false⟩,none],[8]⟩
 | 53=>⟨[],[]⟩
 | 54=>⟨[],[]⟩
 | 55=>⟨[],[]⟩
 | 56=>⟨[],[]⟩
 | 57=>⟨[],[]⟩
 | 58=>⟨[],[]⟩
 | 59=>⟨[],[]⟩
 | 60=>⟨[some ⟨[],[5,6],false⟩,some ⟨[(20,3)],[5,6],false⟩,none,some ⟨[],[5,6],false⟩,some ⟨[(36,3)],[5,6],false⟩,none,some ⟨[],[5,6],false⟩,some ⟨[(52,3)],[5,6],false⟩,none,some ⟨[],[5,6,12],false⟩],[5]⟩
 | 61=>⟨[],[]⟩
 | 62=>⟨[],[]⟩
 | 63=>⟨[],[]⟩
 | 64=>⟨[some ⟨[],[6000008],false⟩,none,none],[5000000,7000032]⟩
 | 65=>⟨[],[]⟩
 | 66=>⟨[none],[7000032]⟩
 | 68=>⟨[some ⟨[(3,32)],[2],false⟩],[]⟩
 | 69=>⟨[],[]⟩
 | 70=>⟨[],[]⟩
 | 71=>⟨[],[]⟩
 | 72=>⟨[],[]⟩
 | 73=>⟨[none],[7000032]⟩
 | 74=>⟨[some ⟨[(4,24),(5,32),(6,24),(7,9)],[6],false⟩,some ⟨[(4,24),(5,32),(6,24),(7,9),(13,3)],[6],false⟩,none,none,none,none],[6]⟩
 | 75=>⟨[none,some ⟨[(4,32)],[],false⟩],[7000032]⟩
 | 78=>⟨[],[]⟩
 | 79=>⟨[],[]⟩
 | 80=>⟨[],[]⟩
 | 81=>⟨[some ⟨[(7,3)],[],false⟩],[]⟩
 | 82=>⟨[],[]⟩
 | 84=>⟨[none],[5]⟩
 | 85=>⟨[],[]⟩
 | 87=>⟨[],[]⟩
 | 88=>⟨[],[]⟩
 | 89=>⟨[],[]⟩
 | 90=>⟨[],[]⟩
 | 91=>⟨[],[]⟩
 | 92=>⟨[],[]⟩
 | 93=>⟨[],[]⟩
 | 94=>⟨[],[]⟩
 | 95=>⟨[],[]⟩
 | 96=>⟨[],[]⟩
 | 97=>⟨[none],[9]⟩
 | 98=>⟨[],[]⟩
 | 99=>⟨[none],[9]⟩
 | 100=>⟨[some ⟨[(7,26)],[4,7],false⟩,some ⟨[(8,3)],[],false⟩],[11]⟩
 | 101=>⟨[none,some ⟨[(4,4),(5,3)],[],false⟩,none,none],[]⟩
 | 102=>⟨[some ⟨[(4,3),(8,3)],[1],false⟩,none,none],[]⟩
 | 103=>⟨[],[]⟩
 | 104=>⟨[],[]⟩
 | 105=>⟨[],[]⟩
 | 106=>⟨[some ⟨[(2,4),(3,3)],[],false⟩,none,none,some ⟨[(2,4),(4,3)],[],false⟩,none,none],[]⟩
 | 107=>⟨[none,none],[]⟩
 | 108=>⟨[some ⟨[(2,4),(3,3)],[],false⟩,none,none],[]⟩
 | 109=>⟨[some ⟨[(1,9),(4,24),(5,32),(6,24),(7,3)],[6],true⟩,none,none,none,none],[6]⟩
 | 110=>⟨[some ⟨[(5,3)],[3],false⟩,none,some ⟨[(7,3)],[6],false⟩,none],[]⟩
 | 111=>⟨[some ⟨[(3,134),(4,3)],[3],false⟩,none],[3]⟩
 | 112=>⟨[none],[]⟩
 | 113=>⟨[some ⟨[(2,4),(3,3)],[],false⟩,none,none],[]⟩
 | 114=>⟨[none],[]⟩
 | 115=>⟨[some ⟨[(2,94),(3,32),(4,94),(5,3)],[],false⟩,none,none],[]⟩
 | 118=>⟨[some ⟨[(4,3),(8,3)],[1],false⟩,none,none],[]⟩
 | 119=>⟨[none,none,none],[]⟩
 | 120=>⟨[],[]⟩
 | 121=>⟨[some ⟨[(4,3),(8,3)],[],false⟩,none,none],[]⟩
 | 122=>⟨[],[]⟩
 | 123=>⟨[some ⟨[(9,3)],[3],false⟩,none],[]⟩
 | 124=>⟨[],[]⟩
 | 131=>⟨[],[]⟩
 | 132=>⟨[some ⟨[(4,3),(8,3)],[1],false⟩,none,none],[7000003]⟩
 | 133=>⟨[],[]⟩
 | 134=>⟨[],[8]⟩
 | 135=>⟨[],[8]⟩
 | 138=>⟨[some ⟨[(4,3),(8,3)],[1],false⟩,none,none],[]⟩
 | 139=>⟨[],[]⟩
 | 140=>⟨[some ⟨[(4,3),(8,3)],[1],false⟩,none,none],[]⟩
 | 141=>⟨[],[]⟩
 | 144=>⟨[none],[5]⟩
 | 145=>⟨[none,some ⟨[(5,3),(6,3),(0,999999)],[0,1],false⟩,none,some ⟨[(5,3),(0,999999)],[0],false⟩],[]⟩
 | 146=>⟨[none],[5]⟩
 | 147=>⟨[],[]⟩
 | 148=>⟨[],[]⟩
 | 149=>⟨[],[8]⟩
 | 150=>⟨[],[]⟩
 | 151=>⟨[none,some ⟨[(2,9),(3,4),(4,134),(5,3)],[4],false⟩,none,none],[4]⟩
 | 152=>⟨[some ⟨[(2,4),(3,3)],[],false⟩,none,none],[]⟩
 | 153=>⟨[some ⟨[(4,3),(5,3)],[],false⟩,none,none],[]⟩
 | 154=>⟨[],[]⟩
 | 155=>⟨[some ⟨[(3,134)],[0,3],false⟩,none,some ⟨[(3,134),(5,3)],[3],false⟩,none],[]⟩
 | 156=>⟨[some ⟨[(6,3)],[5],false⟩,none,some ⟨[(7,3)],[5],false⟩,none,some ⟨[(12,3)],[11],false⟩,none,some ⟨[(17,3)],[11],false⟩,none],[]⟩
 | 157=>⟨[none],[]⟩
 | 158=>⟨[none,some ⟨[(0,9),(2,135),(3,4),(4,135)],[4],true⟩,none,none,none],[4]⟩
 | 159=>⟨[none,none,none,none],[]⟩
 | 160=>⟨[none,none],[]⟩
 | 172=>⟨[some ⟨[(0,9)],[],false⟩,none],[]⟩
 | 173=>⟨[some ⟨[(0,9)],[],false⟩,none],[]⟩
 | 174=>⟨[some ⟨[(3,4),(4,3)],[2],false⟩,none,none],[]⟩
 | 175=>⟨[some ⟨[(0,9)],[1],false⟩,none,none],[]⟩
 | 176=>⟨[some ⟨[(0,9)],[1],false⟩,none,none],[]⟩
 | 179=>⟨[],[]⟩
 | 196=>⟨[none,some ⟨[(1,9)],[0],false⟩,none,some ⟨[],[0],false⟩],[]⟩
 | 197=>⟨[some ⟨[],[3],false⟩,some ⟨[],[3],false⟩,none,some ⟨[(26,3)],[5],false⟩,none,some ⟨[(41,3)],[7],false⟩,none],[]⟩
 | 202=>⟨[some ⟨[(2,3),(3,3)],[],false⟩,none,none],[]⟩
 | 203=>⟨[],[]⟩
 | 204=>⟨[],[]⟩
 | 205=>⟨[some ⟨[(2,4),(3,3)],[],false⟩,none,none],[]⟩
 | 206=>⟨[none,some ⟨[(2,4),(3,3)],[],false⟩,none,none],[]⟩
 | 207=>⟨[none,some ⟨[],[11],false⟩,some ⟨[(74,4)],[],false⟩,some ⟨[],[11],false⟩,some ⟨[],[11],false⟩,some ⟨[],[11],false⟩,none],[]⟩
 | 208=>⟨[some ⟨[(0,3)],[],false⟩,none],[]⟩
 | 209=>⟨[some ⟨[(5,25),(6,3)],[5],false⟩,none,some ⟨[(5,25)],[5],false⟩,none],[5]⟩
 | 210=>⟨[none],[]⟩
 | 211=>⟨[none,none,none],[]⟩
 | 212=>⟨[none,none],[]⟩
 | 213=>⟨[some ⟨[(2,4),(4,9),(5,3)],[],false⟩,none,none],[]⟩
 | 214=>⟨[none,none,none],[]⟩
 | 215=>⟨[],[]⟩
 | 216=>⟨[none,some ⟨[(2,4),(3,3)],[],false⟩,none,none],[]⟩
 | 217=>⟨[none,none,some ⟨[(0,94),(6,3)],[],false⟩,none,some ⟨[(0,94)],[],false⟩,some ⟨[(0,94)],[],false⟩,some ⟨[(0,94),(4,94),(5,32),(10,3)],[],false⟩,none,none,none,none],[]⟩
 | 224=>⟨[],[]⟩
 | 248=>⟨[some ⟨[],[0],false⟩,some ⟨[(6,170),(7,170),(8,170),(9,170),(10,170),(11,170),(12,170),(13,170),(74,3)],[],false⟩,none,some ⟨[(143,3)],[0],false⟩,none],[]⟩
 | 256=>⟨[some ⟨[(3,3)],[],false⟩,none,none,some ⟨[(2,3),(4,3)],[],false⟩,none,none,none],[]⟩
 | 257=>⟨[some ⟨[(3,3),(4,3)],[],false⟩,none,some ⟨[(3,3)],[],false⟩],[]⟩
 | 258=>⟨[some ⟨[(2,9),(3,4),(4,3)],[],false⟩,none,none,some ⟨[(2,9),(3,4),(5,3)],[],false⟩,none,none],[]⟩
 | 259=>⟨[some ⟨[(5,4)],[],false⟩],[]⟩
 | 260=>⟨[none,some ⟨[(3,25),(4,9),(5,3)],[3],false⟩,none,some ⟨[(3,25),(4,9)],[3],false⟩],[3]⟩
 | 261=>⟨[some ⟨[(3,9),(4,3)],[],false⟩,none,some ⟨[(3,9)],[],false⟩],[]⟩
 | 262=>⟨[some ⟨[(2,4),(4,3)],[],false⟩,none,none],[]⟩
 | 263=>⟨[],[]⟩
 | 264=>⟨[some ⟨[(2,4),(3,3)],[],false⟩,none,none],[]⟩
 | 265=>⟨[],[]⟩
 | 266=>⟨[some ⟨[(4,3),(7,3)],[],false⟩,none,none,none,none,none],[]⟩
 | 267=>⟨[none],[]⟩
 | 268=>⟨[none],[]⟩
 | 269=>⟨[some ⟨[(0,94),(4,94),(5,32),(7,9),(8,3)],[],false⟩,none,none,none],[]⟩
 | 270=>⟨[none,none,none,some ⟨[(8,22),(0,999999)],[0],true⟩,some ⟨[(8,22),(0,999999)],[0],true⟩,none,some ⟨[(12,3)],[],false⟩,none],[10,11]⟩
 | 291=>⟨[],[]⟩
 | 292=>⟨[],[]⟩
 | 293=>⟨[some ⟨[(12,3)],[3],false⟩,none,some ⟨[(22,3)],[3],false⟩,none,some ⟨[(7,3)],[3],false⟩,none],[]⟩
 | 294=>⟨[],[]⟩
 | 298=>⟨[none,some ⟨[(2,3),(3,4),(4,3),(5,3)],[],false⟩,none,none],[]⟩
 | 299=>⟨[some ⟨[(4,4),(5,3)],[],false⟩,none,none],[]⟩
 | 300=>⟨[],[]⟩
 | 301=>⟨[some ⟨[(2,4),(3,3)],[],false⟩,none,none],[]⟩
 | 302=>⟨[some ⟨[(4,3),(5,3)],[],false⟩,none,none],[]⟩
 | 303=>⟨[some ⟨[(7,94),(8,3)],[7],false⟩,none,some ⟨[(7,94)],[7],false⟩],[7]⟩
 | 304=>⟨[none],[]⟩
 | 317=>⟨[],[]⟩
 | 320=>⟨[none,some ⟨[(4,4),(7,3)],[],false⟩,none,none],[]⟩
 | _=>⟨[],[]⟩
def wu:List (Nat×List p4):=[(203,[.self,.buf (.int .u8) 5]),(274,[])]
def els:List (Nat×Nat):=[(134,5),(147,110)]
noncomputable def WL:List (Nat×Spc):=[(180,.str 203 5),(228,.chk 203),(39,.clone .str),(40,.clone IP),(84,.clone Ak),(144,.clone wm),(146,.clone jk),(51,(.own .str .unit false dU)),(52,(.own .str .unit true eA)),(83,(.own Ak (.pair (.int .i64) afu) true b9)),(86,(.own Ak Tt true cV)),(142,(.own .str Tt true eN)),(143,(.own wm Tt true dw)),(198,(.own .str (.pair (.int .i64) CB) true eO)),(199,(.own wm (.pair (.int .i64) Tr) true dz)),(201,(.own jk (.pair (.int .i64) ab6) true eX))]
noncomputable def tys:List (Nat×Ty):=[(3,(.int .i64)),(4,.bool),(5,(.int .u8)),(9,.str),(21,(.int .i32)),(22,(.slice Ak)),(23,(.slice YH7)),(24,(.slice wm)),(25,(.slice .str)),(26,(.slice jk)),(28,Mi),(29,(.arr 2 .str)),(32,(.int .i64)),(34,(.pair (.int .i64) (.pair .str (.pair (.int .i64) gX)))),(41,(.slice IP)),(43,Ak),(49,afs),(53,YH7),(56,jk),(61,Ts),(66,(.int .u64)),(81,IP),(84,wm),(86,(.arr 4 (.int .i64))),(94,(.slice TL)),(102,(.pair .str CB)),(132,(.arr 32 (.int .u8))),(134,(.slice (.int .u8))),(135,(.slice (.pair YH6 gX))),(148,(.slice (.alt 270 gX (.alt 272 gX (.alt 274 .unit (.alt 276 (.pair TL .unit) .CG)))))),(170,(.int .u32)),(171,(.arr 8 (.int .u32))),(180,YH6),(182,(.pair YH6 gX)),(184,(.int .i64)),(193,(.int .u64)),(196,(.arr 256 .bool)),(212,(.alt 270 gX (.alt 272 gX (.alt 274 .unit (.alt 276 (.pair TL .unit) .CG))))),(219,TL),(234,(.pair .bool ab5)),(235,(.arr 64 (.int .u8))),(237,aja),(244,(.arr 64 (.int .u32))),(255,(.int .u64)),(267,(.pair .bool (.pair .str (.pair (.int .i64) (.pair .bool ug))))),(270,gX),(272,gX),(276,(.pair TL .unit)),(287,(.arr 8 (.int .u8))),(319,(.arr 256 (.int .u8))),(321,(.pair (.int .u8) YX)),(322,(.arr 16 (.pair (.int .u8) YX))),(325,Tt),(326,(.arr 11 Tt))]
noncomputable def ab8:List (Nat×Func):=[(3,Tryz.f3),(4,Tryz.f4),(5,Tryz.f5),(6,Tryz.f6),(7,Tryz.f7),(8,Tryz.f8),(9,Tryz.f9),(10,Tryz.f10),(11,Tryz.f11),(12,Tryz.f12),(13,Tryz.f13),(14,Tryz.f14),(15,Tryz.f15),(16,Tryz.f16),(17,Tryz.f17),(18,Tryz.f18),(19,Tryz.f19),(20,Tryz.f20),(21,Tryz.f21),(22,Tryz.f22),(23,Tryz.f23),(24,Tryz.f24),(25,Tryz.f25),(26,Tryz.f26),(27,Tryz.f27),(28,Tryz.f28),(29,Tryz.f29),(30,Tryz.f30),(31,Tryz.f31),(32,Tryz.f32),(33,Tryz.f33),(34,Tryz.f34),(35,Tryz.f35),(36,Tryz.f36),(37,Tryz.f37),(38,Tryz.f38),(39,Tryz.f39),(40,Tryz.f40),(41,Tryz.f41),(42,Tryz.f42),(43,Tryz.f43),(44,Tryz.f44),(45,Tryz.f45),(46,Tryz.f46),(47,Tryz.f47),(48,Tryz.f48),(49,Tryz.f49),(50,Tryz.f50),(53,Tryz.f53),(54,Tryz.f54),(55,Tryz.f55),(56,Tryz.f56),(57,Tryz.f57),(58,Tryz.f58),(59,Tryz.f59),(60,Tryz.f60),(61,Tryz.f61),(62,Tryz.f62),(63,Tryz.f63),(64,Tryz.f64),(65,Tryz.f65),(66,Tryz.f66),(68,Tryz.f68),(69,Tryz.f69),(70,Tryz.f70),(71,Tryz.f71),(72,Tryz.f72),(73,Tryz.f73),(74,Tryz.f74),(75,Tryz.f75),(78,Tryz.f78),(79,Tryz.f79),(80,Tryz.f80),(81,Tryz.f81),(82,Tryz.f82),(84,Tryz.f84),(85,Tryz.f85),(87,Tryz.f87),(88,Tryz.f88),(89,Tryz.f89),(90,Tryz.f90),(91,Tryz.f91),(92,Tryz.f92),(93,Tryz.f93),(94,Tryz.f94),(95,Tryz.f95),(96,Tryz.f96),(97,Tryz.f97),(98,Tryz.f98),(99,Tryz.f99),(100,Tryz.f100),(101,Tryz.f101),(102,Tryz.f102),(103,Tryz.f103),(104,Tryz.f104),(105,Tryz.f105),(106,Tryz.f106),(107,Tryz.f107),(108,Tryz.f108),(109,Tryz.f109),(110,Tryz.f110),(111,Tryz.f111),(112,Tryz.f112),(113,Tryz.f113),(114,Tryz.f114),(115,Tryz.f115),(118,Tryz.f118),(119,Tryz.f119),(120,Tryz.f120),(121,Tryz.f121),(122,Tryz.f122),(123,Tryz.f123),(124,Tryz.f124),(131,Tryz.f131),(132,Tryz.f132),(133,Tryz.f133),(134,Tryz.f134),(135,Tryz.f135),(138,Tryz.f138),(139,Tryz.f139),(140,Tryz.f140),(141,Tryz.f141),(144,Tryz.f144),(145,Tryz.f145),(146,Tryz.f146),(147,Tryz.f147),(148,Tryz.f148),(149,Tryz.f149),(150,Tryz.f150),(151,Tryz.f151),(152,Tryz.f152),(153,Tryz.f153),(154,Tryz.f154),(155,Tryz.f155),(156,Tryz.f156),(157,Tryz.f157),(158,Tryz.f158),(159,Tryz.f159),(160,Tryz.f160),(172,Tryz.f172),(173,Tryz.f173),(174,Tryz.f174),(175,Tryz.f175),(176,Tryz.f176),(179,Tryz.f179),(196,Tryz.f196),(197,Tryz.f197),(202,Tryz.f202),(203,Tryz.f203),(204,Tryz.f204),(205,Tryz.f205),(206,Tryz.f206),(207,Tryz.f207),(208,Tryz.f208),(209,Tryz.f209),(210,Tryz.f210),(211,Tryz.f211),(212,Tryz.f212),(213,Tryz.f213),(214,Tryz.f214),(215,Tryz.f215),(216,Tryz.f216),(217,Tryz.f217),(224,Tryz.f224),(248,Tryz.f248),(256,Tryz.f256),(257,Tryz.f257),(258,Tryz.f258),(259,Tryz.f259),(260,Tryz.f260),(261,Tryz.f261),(262,Tryz.f262),(263,Tryz.f263),(264,Tryz.f264),(265,Tryz.f265),(266,Tryz.f266),(267,Tryz.f267),(268,Tryz.f268),(269,Tryz.f269),(270,Tryz.f270),(291,Tryz.f291),(292,Tryz.f292),(293,Tryz.f293),(294,Tryz.f294),(298,Tryz.f298),(299,Tryz.f299),(300,Tryz.f300),(301,Tryz.f301),(302,Tryz.f302),(303,Tryz.f303),(304,Tryz.f304),(317,Tryz.f317),(320,Tryz.f320)]
def u9:List Nat:=[77,87,88,99,107,110,120,125,146,159,200,201,207,222,223,259,265,285,298,308,310]
def EK:List Nat:=[200,201,207,259,265,285,298,310]
noncomputable def Qe(cT:List (Nat×dA))(bA:List (Nat×EJ))(inv:List (String×dA):=[]):Ctx:=⟨tys,u9,EK,ab8,cT,bA,wu,WL,els,inv⟩
theorem mix:Tryz.prog.follows .mixedOrders=true:=by kernel_rfl
theorem afw:∀tid t,find tys tid=some t→Den Tryz.prog t tid:=aio (by kernel_rfl)
theorem aad:∀tid,dD u9 tid=true→(∀w,(isAgg tid).run Tryz.prog w=.ok false w)∧(∀w,(Go.sizeOf tid).run Tryz.prog w=.ok 1 w)∧∃z,(∀w,(zeroValue tid).run Tryz.prog w=.ok z w)∧z.oneCell'=true:=agu (by kernel_rfl)
theorem aae:∀tid,dD EK tid=true→∃e,Tryz.prog.underlying tid=some (.pointer e):=agv (by kernel_rfl)
theorem afx:∀f fn,find ab8 f=some fn→Tryz.prog.funcs[f]?=some fn:=aip ((ak Tryz.func3 (ak Tryz.func4 (ak Tryz.func5 (ak Tryz.func6 (ak Tryz.func7 (ak Tryz.func8 (ak Tryz.func9 (ak Tryz.func10 (ak Tryz.func11 (ak Tryz.func12 (ak Tryz.func13 (ak Tryz.func14 (ak Tryz.func15 (ak Tryz.func16 (ak Tryz.func17 (ak Tryz.func18 (ak Tryz.func19 (ak Tryz.func20 (ak Tryz.func21 (ak Tryz.func22 (ak Tryz.func23 (ak Tryz.func24 (ak Tryz.func25 (ak Tryz.func26 (ak Tryz.func27 (ak Tryz.func28 (ak Tryz.func29 (ak Tryz.func30 (ak Tryz.func31 (ak Tryz.func32 (ak Tryz.func33 (ak Tryz.func34 (ak Tryz.func35 (ak Tryz.func36 (ak Tryz.func37 (ak Tryz.func38 (ak Tryz.func39 (ak Tryz.func40 (ak Tryz.func41 (ak Tryz.func42 (ak Tryz.func43 (ak Tryz.func44 (ak Tryz.func45 (ak Tryz.func46 (ak Tryz.func47 (ak Tryz.func48 (ak Tryz.func49 (ak Tryz.func50 (ak Tryz.func53 (ak Tryz.func54 (ak Tryz.func55 (ak Tryz.func56 (ak Tryz.func57 (ak Tryz.func58 (ak Tryz.func59 (ak Tryz.func60 (ak Tryz.func61 (ak Tryz.func62 (ak Tryz.func63 (ak Tryz.func64 (ak Tryz.func65 (ak Tryz.func66 (ak Tryz.func68 (ak Tryz.func69 (ak Tryz.func70 (ak Tryz.func71 (ak Tryz.func72 (ak Tryz.func73 (ak Tryz.func74 (ak Tryz.func75 (ak Tryz.func78 (ak Tryz.func79 (ak Tryz.func80 (ak Tryz.func81 (ak Tryz.func82 (ak Tryz.func84 (ak Tryz.func85 (ak Tryz.func87 (ak Tryz.func88 (ak Tryz.func89 (ak Tryz.func90 (ak Tryz.func91 (ak Tryz.func92 (ak Tryz.func93 (ak Tryz.func94 (ak Tryz.func95 (ak Tryz.func96 (ak Tryz.func97 (ak Tryz.func98 (ak Tryz.func99 (ak Tryz.func100 (ak Tryz.func101 (ak Tryz.func102 (ak Tryz.func103 (ak Tryz.func104 (ak Tryz.func105 (ak Tryz.func106 (ak Tryz.func107 (ak Tryz.func108 (ak Tryz.func109 (ak Tryz.func110 (ak Tryz.func111 (ak Tryz.func112 (ak Tryz.func113 (ak Tryz.func114 (ak Tryz.func115 (ak Tryz.func118 (ak Tryz.func119 (ak Tryz.func120 (ak Tryz.func121 (ak Tryz.func122 (ak Tryz.func123 (ak Tryz.func124 (ak Tryz.func131 (ak Tryz.func132 (ak Tryz.func133 (ak Tryz.func134 (ak Tryz.func135 (ak Tryz.func138 (ak Tryz.func139 (ak Tryz.func140 (ak Tryz.func141 (ak Tryz.func144 (ak Tryz.func145 (ak Tryz.func146 (ak Tryz.func147 (ak Tryz.func148 (ak Tryz.func149 (ak Tryz.func150 (ak Tryz.func151 (ak Tryz.func152 (ak Tryz.func153 (ak Tryz.func154 (ak Tryz.func155 (ak Tryz.func156 (ak Tryz.func157 (ak Tryz.func158 (ak Tryz.func159 (ak Tryz.func160 (ak Tryz.func172 (ak Tryz.func173 (ak Tryz.func174 (ak Tryz.func175 (ak Tryz.func176 (ak Tryz.func179 (ak Tryz.func196 (ak Tryz.func197 (ak Tryz.func202 (ak Tryz.func203 (ak Tryz.func204 (ak Tryz.func205 (ak Tryz.func206 (ak Tryz.func207 (ak Tryz.func208 (ak Tryz.func209 (ak Tryz.func210 (ak Tryz.func211 (ak Tryz.func212 (ak Tryz.func213 (ak Tryz.func214 (ak Tryz.func215 (ak Tryz.func216 (ak Tryz.func217 (ak Tryz.func224 (ak Tryz.func248 (ak Tryz.func256 (ak Tryz.func257 (ak Tryz.func258 (ak Tryz.func259 (ak Tryz.func260 (ak Tryz.func261 (ak Tryz.func262 (ak Tryz.func263 (ak Tryz.func264 (ak Tryz.func265 (ak Tryz.func266 (ak Tryz.func267 (ak Tryz.func268 (ak Tryz.func269 (ak Tryz.func270 (ak Tryz.func291 (ak Tryz.func292 (ak Tryz.func293 (ak Tryz.func294 (ak Tryz.func298 (ak Tryz.func299 (ak Tryz.func300 (ak Tryz.func301 (ak Tryz.func302 (ak Tryz.func303 (ak Tryz.func304 (ak Tryz.func317 (ak Tryz.func320 agw))))))))))))))))))))))))))))))))))))))))))))))))))))))))))))))))))))))))))))))))))))))))))))))))))))))))))))))))))))))))))))))))))))))))))))))))))))))))))))))))))))))))))))))))))))))))))))))))))
theorem aaf:∀tid fs,find wu tid=some fs→O5 Tryz.prog tid fs=true:=agx (by kernel_rfl)
theorem afy:∀tid e,find els tid=some e→Tryz.prog.underlying tid=some (.slice e):=aiq (by kernel_rfl)
theorem OC(cT:List (Nat×dA))(bA:List (Nat×EJ))(inv:List (String×dA):=[]):gA Tryz.prog (Qe cT bA inv):=⟨afw,aad,aae,afx,aaf,afy⟩
noncomputable def cx0:Ctx:=⟨tys,u9,EK,ab8,[],[],wu,[],els,[]⟩
theorem OD:gA Tryz.prog cx0:=⟨afw,aad,aae,afx,aaf,afy⟩
theorem vV:jc Tryz.prog 39 (.clone .str):=by
 refine AG (P:=Tryz.prog) (cx:=cx0) (bf:=[2,5]) (e:=.str) (tid:=25) (fn:=Tryz.f39) (s0:=fun l=>((v8 (fun _=>none) [.data (.slice .str) l]).cm 2 { val:=.data (.slice .str) ([]:List (.str:Ty).den),tid:=0,buf:=true,ro:=false,lk:=false,aC:=0 }).put 2 (.whole 2 0)) mix OD (mF az aq Ek aA) Tryz.func39 (by kernel_rfl)
  (by rfl) rfl (by decide) (by decide) rfl rfl rfl rfl rfl rfl (fun l=>by rfl) (fun l=>rfl) (fun l=>rfl) (fun l=>rfl) (fun l=>by rfl) (fun l hl=>?_)
 have key:∀m:List (.str:Ty).den,fits (len m)=true→aj (fits (plus (len ([]:List (.str:Ty).den)) (len m))) (some (app [] m)) none=some m:=by
  intro m hm;have e:plus (len ([]:List (.str:Ty).den)) (len m)=len m:=by simp[plus,len]
  rw[e,hm];rfl
 exact yB (b:=aj (fits (plus (len ([]:List (.str:Ty).den)) (len (α:=(.str:Ty).den) l))) (some (app (α:=(.str:Ty).den) [] l)) none) (by rfl) (key l hl)
theorem tf:jc Tryz.prog 40 (.clone IP):=by
 refine AG (P:=Tryz.prog) (cx:=cx0) (bf:=[2,5]) (e:=IP) (tid:=41) (fn:=Tryz.f40) (s0:=fun l=>((v8 (fun _=>none) [.data (.slice IP) l]).cm 2 { val:=.data (.slice IP) ([]:List (IP:Ty).den),tid:=0,buf:=true,ro:=false,lk:=false,aC:=0 }).put 2 (.whole 2 0)) mix OD (mF az aq Ek aA) Tryz.func40 (by kernel_rfl)
  (by rfl) rfl (by decide) (by decide) rfl rfl rfl rfl rfl rfl (fun l=>by rfl) (fun l=>rfl) (fun l=>rfl) (fun l=>rfl) (fun l=>by rfl) (fun l hl=>?_)
 have key:∀m:List (IP:Ty).den,fits (len m)=true→aj (fits (plus (len ([]:List (IP:Ty).den)) (len m))) (some (app [] m)) none=some m:=by
  intro m hm;have e:plus (len ([]:List (IP:Ty).den)) (len m)=len m:=by simp[plus,len]
  rw[e,hm];rfl
 exact yB (b:=aj (fits (plus (len ([]:List (IP:Ty).den)) (len (α:=(IP:Ty).den) l))) (some (app (α:=(IP:Ty).den) [] l)) none) (by rfl) (key l hl)
theorem uh:jc Tryz.prog 84 (.clone Ak):=by
 refine AG (P:=Tryz.prog) (cx:=cx0) (bf:=[2,5]) (e:=Ak) (tid:=22) (fn:=Tryz.f84) (s0:=fun l=>((v8 (fun _=>none) [.data (.slice Ak) l]).cm 2 { val:=.data (.slice Ak) ([]:List (Ak:Ty).den),tid:=0,buf:=true,ro:=false,lk:=false,aC:=0 }).put 2 (.whole 2 0)) mix OD (mF az aq Ek aA) Tryz.func84 (by kernel_rfl)
  (by rfl) rfl (by decide) (by decide) rfl rfl rfl rfl rfl rfl (fun l=>by rfl) (fun l=>rfl) (fun l=>rfl) (fun l=>rfl) (fun l=>by rfl) (fun l hl=>?_)
 have key:∀m:List (Ak:Ty).den,fits (len m)=true→aj (fits (plus (len ([]:List (Ak:Ty).den)) (len m))) (some (app [] m)) none=some m:=by
  intro m hm;have e:plus (len ([]:List (Ak:Ty).den)) (len m)=len m:=by simp[plus,len]
  rw[e,hm];rfl
 exact yB (b:=aj (fits (plus (len ([]:List (Ak:Ty).den)) (len (α:=(Ak:Ty).den) l))) (some (app (α:=(Ak:Ty).den) [] l)) none) (by rfl) (key l hl)
theorem rz:jc Tryz.prog 144 (.clone wm):=by
 refine AG (P:=Tryz.prog) (cx:=cx0) (bf:=[2,5]) (e:=wm) (tid:=24) (fn:=Tryz.f144) (s0:=fun l=>((v8 (fun _=>none) [.data (.slice wm) l]).cm 2 { val:=.data (.slice wm) ([]:List (wm:Ty).den),tid:=0,buf:=true,ro:=false,lk:=false,aC:=0 }).put 2 (.whole 2 0)) mix OD (mF az aq Ek aA) Tryz.func144 (by kernel_rfl)
  (by rfl) rfl (by decide) (by decide) rfl rfl rfl rfl rfl rfl (fun l=>by rfl) (fun l=>rfl) (fun l=>rfl) (fun l=>rfl) (fun l=>by rfl) (fun l hl=>?_)
 have key:∀m:List (wm:Ty).den,fits (len m)=true→aj (fits (plus (len ([]:List (wm:Ty).den)) (len m))) (some (app [] m)) none=some m:=by
  intro m hm;have e:plus (len ([]:List (wm:Ty).den)) (len m)=len m:=by simp[plus,len]
  rw[e,hm];rfl
 exact yB (b:=aj (fits (plus (len ([]:List (wm:Ty).den)) (len (α:=(wm:Ty).den) l))) (some (app (α:=(wm:Ty).den) [] l)) none) (by rfl) (key l hl)
theorem rA:jc Tryz.prog 146 (.clone jk):=by
 refine AG (P:=Tryz.prog) (cx:=cx0) (bf:=[2,5]) (e:=jk) (tid:=26) (fn:=Tryz.f146) (s0:=fun l=>((v8 (fun _=>none) [.data (.slice jk) l]).cm 2 { val:=.data (.slice jk) ([]:List (jk:Ty).den),tid:=0,buf:=true,ro:=false,lk:=false,aC:=0 }).put 2 (.whole 2 0)) mix OD (mF az aq Ek aA) Tryz.func146 (by kernel_rfl)
  (by rfl) rfl (by decide) (by decide) rfl rfl rfl rfl rfl rfl (fun l=>by rfl) (fun l=>rfl) (fun l=>rfl) (fun l=>rfl) (fun l=>by rfl) (fun l hl=>?_)
 have key:∀m:List (jk:Ty).den,fits (len m)=true→aj (fits (plus (len ([]:List (jk:Ty).den)) (len m))) (some (app [] m)) none=some m:=by
  intro m hm;have e:plus (len ([]:List (jk:Ty).den)) (len m)=len m:=by simp[plus,len]
  rw[e,hm];rfl
 exact yB (b:=aj (fits (plus (len ([]:List (jk:Ty).den)) (len (α:=(jk:Ty).den) l))) (some (app (α:=(jk:Ty).den) [] l)) none) (by rfl) (key l hl)
theorem wT:jc Tryz.prog 51 (.own .str .unit false dU):=ad4 Tryz.func51 (by kernel_rfl) (by kernel_rfl) Tryz.slices_Sort_string Tryz.slices_Sort_string_none
theorem uj:jc Tryz.prog 52 (.own .str .unit true eA):=Vi Tryz.func52 (by kernel_rfl) (by kernel_rfl) Tryz.slices_Compact_string Tryz.slices_Compact_string_empty XW
theorem tG:jc Tryz.prog 83 (.own Ak (.pair (.int .i64) afu) true b9):=by
 have yp:Den Tryz.prog Ak 43:=by
  show fI Tryz.prog Ak false 43 0 []=true
  kernel_rfl
 obtain⟨ie,ze,e1,e2,e3,e4⟩:=yp.info;exact L7 (e:=Ak) (ρ:=(⟨fun x=>if x=29 then 136 else if x=30 then 137 else 83,fun x=>if x=24 then 22 else if x=9 then 43 else if x=3 then 3 else if x=4 then 4 else 0,fun x=>x⟩:Go.Shelf.Ren)) (nm := "slices.Insert[[]cooperage/api.Box,cooperage/api.Box]") ⟨mix,Tryz.func83.trans (congrArg some (by kernel_rfl)),
  fun xs w=>run_callFunc_extern (e:=Extern.SlicesOverlaps.overlaps #[22,22] #[4]) Tryz.func136 (by kernel_rfl) (by kernel_rfl) (by kernel_rfl) (by kernel_rfl) xs w,
  by kernel_rfl,by kernel_rfl,by kernel_rfl,fun w=>by simp[Go.sizeOf,e1,e2]<;>kernel_rfl,by simp[e1,e2]<;>kernel_rfl⟩ (by decide) yp (by kernel_rfl) (by decide) (by decide)
theorem tH:jc Tryz.prog 86 (.own Ak Tt true cV):=by
 have yp:Den Tryz.prog Ak 43:=by
  show fI Tryz.prog Ak false 43 0 []=true
  kernel_rfl
 obtain⟨ie,ze,e1,e2,e3,e4⟩:=yp.info;exact SQ (e:=Ak) (ρ:=(⟨fun x=>if x=29 then 0 else if x=30 then 0 else 86,fun x=>if x=24 then 22 else if x=9 then 43 else if x=3 then 3 else if x=4 then 4 else 0,fun x=>x⟩:Go.Shelf.Ren)) (nm := "slices.Delete[[]cooperage/api.Box,cooperage/api.Box]") (z:=ze) ⟨mix,Tryz.func86.trans (congrArg some (by kernel_rfl)),
  by kernel_rfl,by kernel_rfl,by kernel_rfl,fun w=>by simp[Go.sizeOf,e1,e2]<;>kernel_rfl,fun w=>C5 e1 e3 w⟩ (by decide) e4 (by decide)
theorem vC:jc Tryz.prog 142 (.own .str Tt true eN):=by
 have yp:Den Tryz.prog .str 9:=by
  show fI Tryz.prog .str false 9 0 []=true
  kernel_rfl
 obtain⟨ie,ze,e1,e2,e3,e4⟩:=yp.info;exact SQ (e:=.str) (ρ:=(⟨fun x=>if x=29 then 0 else if x=30 then 0 else 142,fun x=>if x=24 then 25 else if x=9 then 9 else if x=3 then 3 else if x=4 then 4 else 0,fun x=>x⟩:Go.Shelf.Ren)) (nm := "slices.Delete[[]string,string]") (z:=ze) ⟨mix,Tryz.func142.trans (congrArg some (by kernel_rfl)),
  by kernel_rfl,by kernel_rfl,by kernel_rfl,fun w=>by simp[Go.sizeOf,e1,e2]<;>kernel_rfl,fun w=>C5 e1 e3 w⟩ (by decide) e4 (by decide)
theorem qv:jc Tryz.prog 143 (.own wm Tt true dw):=by
 have yp:Den Tryz.prog wm 84:=by
  show fI Tryz.prog wm false 84 0 []=true
  kernel_rfl
 obtain⟨ie,ze,e1,e2,e3,e4⟩:=yp.info;exact SQ (e:=wm) (ρ:=(⟨fun x=>if x=29 then 0 else if x=30 then 0 else 143,fun x=>if x=24 then 24 else if x=9 then 84 else if x=3 then 3 else if x=4 then 4 else 0,fun x=>x⟩:Go.Shelf.Ren)) (nm := "slices.Delete[[]cooperage/api.Layer,cooperage/api.Layer]") (z:=ze) ⟨mix,Tryz.func143.trans (congrArg some (by kernel_rfl)),
  by kernel_rfl,by kernel_rfl,by kernel_rfl,fun w=>by simp[Go.sizeOf,e1,e2]<;>kernel_rfl,fun w=>C5 e1 e3 w⟩ (by decide) e4 (by decide)
theorem vD:jc Tryz.prog 198 (.own .str (.pair (.int .i64) CB) true eO):=by
 have yp:Den Tryz.prog .str 9:=by
  show fI Tryz.prog .str false 9 0 []=true
  kernel_rfl
 obtain⟨ie,ze,e1,e2,e3,e4⟩:=yp.info;exact L7 (e:=.str) (ρ:=(⟨fun x=>if x=29 then 249 else if x=30 then 250 else 198,fun x=>if x=24 then 25 else if x=9 then 9 else if x=3 then 3 else if x=4 then 4 else 0,fun x=>x⟩:Go.Shelf.Ren)) (nm := "slices.Insert[[]string,string]") ⟨mix,Tryz.func198.trans (congrArg some (by kernel_rfl)),
  fun xs w=>run_callFunc_extern (e:=Extern.SlicesOverlaps.overlaps #[25,25] #[4]) Tryz.func249 (by kernel_rfl) (by kernel_rfl) (by kernel_rfl) (by kernel_rfl) xs w,
  by kernel_rfl,by kernel_rfl,by kernel_rfl,fun w=>by simp[Go.sizeOf,e1,e2]<;>kernel_rfl,by simp[e1,e2]<;>kernel_rfl⟩ (by decide) yp (by kernel_rfl) (by decide) (by decide)
theorem qw:jc Tryz.prog 199 (.own wm (.pair (.int .i64) Tr) true dz):=by
 have yp:Den Tryz.prog wm 84:=by
  show fI Tryz.prog wm false 84 0 []=true
  kernel_rfl
 obtain⟨ie,ze,e1,e2,e3,e4⟩:=yp.info;exact L7 (e:=wm) (ρ:=(⟨fun x=>if x=29 then 251 else if x=30 then 252 else 199,fun x=>if x=24 then 24 else if x=9 then 84 else if x=3 then 3 else if x=4 then 4 else 0,fun x=>x⟩:Go.Shelf.Ren)) (nm := "slices.Insert[[]cooperage/api.Layer,cooperage/api.Layer]") ⟨mix,Tryz.func199.trans (congrArg some (by kernel_rfl)),
  fun xs w=>run_callFunc_extern (e:=Extern.SlicesOverlaps.overlaps #[24,24] #[4]) Tryz.func251 (by kernel_rfl) (by kernel_rfl) (by kernel_rfl) (by kernel_rfl) xs w,
  by kernel_rfl,by kernel_rfl,by kernel_rfl,fun w=>by simp[Go.sizeOf,e1,e2]<;>kernel_rfl,by simp[e1,e2]<;>kernel_rfl⟩ (by decide) yp (by kernel_rfl) (by decide) (by decide)
theorem qx:jc Tryz.prog 201 (.own jk (.pair (.int .i64) ab6) true eX):=by
 have yp:Den Tryz.prog jk 56:=by
  show fI Tryz.prog jk false 56 0 []=true
  kernel_rfl
 obtain⟨ie,ze,e1,e2,e3,e4⟩:=yp.info;exact L7 (e:=jk) (ρ:=(⟨fun x=>if x=29 then 254 else if x=30 then 255 else 201,fun x=>if x=24 then 26 else if x=9 then 56 else if x=3 then 3 else if x=4 then 4 else 0,fun x=>x⟩:Go.Shelf.Ren)) (nm := "slices.Insert[[]cooperage/api.Mount,cooperage/api.Mount]") ⟨mix,Tryz.func201.trans (congrArg some (by kernel_rfl)),
  fun xs w=>run_callFunc_extern (e:=Extern.SlicesOverlaps.overlaps #[26,26] #[4]) Tryz.func254 (by kernel_rfl) (by kernel_rfl) (by kernel_rfl) (by kernel_rfl) xs w,
  by kernel_rfl,by kernel_rfl,by kernel_rfl,fun w=>by simp[Go.sizeOf,e1,e2]<;>kernel_rfl,by simp[e1,e2]<;>kernel_rfl⟩ (by decide) yp (by kernel_rfl) (by decide) (by decide)
theorem Gw:∀p∈WL,jc Tryz.prog p.1 p.2:=(ij zV (ij wS (ij vV (ij tf (ij uh (ij rz (ij rA (ij wT (ij uj (ij tG (ij tH (ij vC (ij qv (ij vD (ij qw (ij qx Ek))))))))))))))))
theorem aag(cT:List (Nat×dA))(bA:List (Nat×EJ))(inv:List (String×dA):=[]):Vb (Qe cT bA inv):=adY (cx:=Qe cT bA inv) (show(ab8.all fun p=>aaS p.2)=true by kernel_rfl)
def bp:jN:=Bh
theorem ax{cT:List (Nat×dA)}{bA:List (Nat×EJ)}{inv:List (String×dA)}(eS:∀p∈cT,Holds Tryz.prog bp p.1 p.2)(afz:∀p∈bA,p7 Tryz.prog bp p.1 p.2)(hinv:∀p∈inv,MT Tryz.prog bp p.1 p.2){f:Nat}{fn:Func}{A R:Ty}{spec:A.den→Option R.den}(hfn:find ab8 f=some fn)(hb:fn.body.isSome=true)
  (hs:∀x,sem (Qe cT bA inv) 12 fH f A R x=spec x):Holds Tryz.prog bp f ⟨A,R,spec⟩:=by
 obtain⟨code,afA⟩:=Option.isSome_iff_exists.1 hb;exact SN mix (OC cT bA inv) (mF eS afz Gw hinv) (aag cT bA inv) (f:=f) hfn afA (fun x y h=>by rw[hs];exact h)
theorem xd{cT:List (Nat×dA)}{bA:List (Nat×EJ)}{inv:List (String×dA)}(eS:∀p∈cT,Holds Tryz.prog bp p.1 p.2)(afz:∀p∈bA,p7 Tryz.prog bp p.1 p.2)(hinv:∀p∈inv,MT Tryz.prog bp p.1 p.2){f:Nat}{fn:Func}{ps:List Bool}{A U R:Ty}{spec:A.den×U.den→Option (R.den×U.den)}(hfn:find ab8 f=some fn)(hb:fn.body.isSome=true)
  (hs:∀x,ahZ (Qe cT bA inv) 12 fH f ps A U R x=spec x):p7 Tryz.prog bp f ⟨ps,A,U,R,spec⟩:=by
 obtain⟨code,afA⟩:=Option.isSome_iff_exists.1 hb;exact PB mix (OC cT bA inv) (mF eS afz Gw hinv) (aag cT bA inv) (f:=f) hfn afA (fun x y h=>by rw[hs];exact h)
noncomputable def KB:dA:=⟨CB,ug,lP⟩
theorem Wl:Holds Tryz.prog bp 41 KB:=ax (cT:=[]) (bA:=[]) (inv:=[]) (az) (aq) (aA) (fn:=Tryz.f41) rfl (by kernel_rfl) (fun x=>by kernel_rfl)
noncomputable def A2:dA:=⟨afv,ug,eB⟩
theorem JT:Holds Tryz.prog bp 42 A2:=ax (cT:=[]) (bA:=[]) (inv:=[]) (az) (aq) (aA) (fn:=Tryz.f42) rfl (by kernel_rfl) (fun x=>by kernel_rfl)
noncomputable def KC:dA:=⟨(.pair afs .unit),ug,rK⟩
theorem Wm:Holds Tryz.prog bp 12 KC:=ax (cT:=[(41,KB),(42,A2)]) (bA:=[]) (inv:=[]) ((ai Wl (ai JT az))) (aq) (aA) (fn:=Tryz.f12) rfl (by kernel_rfl) (fun x=>by kernel_rfl)
noncomputable def KD:dA:=⟨Tr,ug,yX⟩
theorem Wn:Holds Tryz.prog bp 13 KD:=ax (cT:=[]) (bA:=[]) (inv:=[]) (az) (aq) (aA) (fn:=Tryz.f13) rfl (by kernel_rfl) (fun x=>by kernel_rfl)
noncomputable def KE:dA:=⟨LJ,ug,yY⟩
theorem Wo:Holds Tryz.prog bp 4 KE:=ax (cT:=[(12,KC),(13,KD)]) (bA:=[]) (inv:=[]) ((ai Wm (ai Wn az))) (aq) (aA) (fn:=Tryz.f4) rfl (by kernel_rfl) (fun x=>by kernel_rfl)
noncomputable def zW:dA:=⟨BO,YX,mU⟩
theorem Ff:Holds Tryz.prog bp 157 zW:=ax (cT:=[]) (bA:=[]) (inv:=[]) (az) (aq) (aA) (fn:=Tryz.f157) rfl (by kernel_rfl) (fun x=>by kernel_rfl)
noncomputable def Fg:dA:=⟨YX,BO,qj⟩
theorem Qf:Holds Tryz.prog bp 202 Fg:=ax (cT:=[(157,zW)]) (bA:=[]) (inv:=[]) ((ai Ff az)) (aq) (aA) (fn:=Tryz.f202) rfl (by kernel_rfl) (fun x=>by kernel_rfl)
noncomputable def zX:dA:=⟨gX,(.pair .str ug),qk⟩
theorem Fh:Holds Tryz.prog bp 151 zX:=ax (cT:=[(202,Fg)]) (bA:=[]) (inv:=[]) ((ai Qf az)) (aq) (aA) (fn:=Tryz.f151) rfl (by kernel_rfl) (fun x=>by kernel_rfl)
noncomputable def wU:dA:=⟨gX,ug,gE⟩
theorem BP:Holds Tryz.prog bp 105 wU:=ax (cT:=[(151,zX)]) (bA:=[]) (inv:=[]) ((ai Fh az)) (aq) (aA) (fn:=Tryz.f105) rfl (by kernel_rfl) (fun x=>by kernel_rfl)
noncomputable def yc:dA:=⟨gX,ug,oE⟩
theorem DL:Holds Tryz.prog bp 152 yc:=ax (cT:=[]) (bA:=[]) (inv:=[]) (az) (aq) (aA) (fn:=Tryz.f152) rfl (by kernel_rfl) (fun x=>by kernel_rfl)
noncomputable def uX:dA:=⟨CB,ug,mZ⟩
theorem zY:Holds Tryz.prog bp 106 uX:=ax (cT:=[(152,yc)]) (bA:=[]) (inv:=[]) ((ai DL az)) (aq) (aA) (fn:=Tryz.f106) rfl (by kernel_rfl) (fun x=>by kernel_rfl)
noncomputable def Fi:dA:=⟨gX,BO,uC⟩
theorem Qg:Holds Tryz.prog bp 107 Fi:=ax (cT:=[(151,zX)]) (bA:=[]) (inv:=[]) ((ai Fh az)) (aq) (aA) (fn:=Tryz.f107) rfl (by kernel_rfl) (fun x=>by kernel_rfl)
noncomputable def Fj:dA:=⟨(.pair wm .unit),ug,qq⟩
theorem Qh:Holds Tryz.prog bp 43 Fj:=ax (cT:=[(105,wU),(106,uX),(107,Fi)]) (bA:=[]) (inv:=[]) ((ai BP (ai zY (ai Qg az)))) (aq) (aA) (fn:=Tryz.f43) rfl (by kernel_rfl) (fun x=>by kernel_rfl)
noncomputable def Fk:dA:=⟨.unit,ab5,zJ⟩
theorem Qi:Holds Tryz.prog bp 154 Fk:=ax (cT:=[]) (bA:=[]) (inv:=[]) (az) (aq) (aA) (fn:=Tryz.f154) rfl (by kernel_rfl) (fun x=>by kernel_rfl)
noncomputable def Fl:dA:=⟨gX,gX,uA⟩
theorem Qj:Holds Tryz.prog bp 155 Fl:=ax (cT:=[]) (bA:=[]) (inv:=[]) (az) (aq) (aA) (fn:=Tryz.f155) rfl (by kernel_rfl) (fun x=>by kernel_rfl)
noncomputable def Ii:dA:=⟨(.pair (.int .u32) BO),(.pair (.int .u32) .unit),b6⟩
theorem Tu:Holds Tryz.prog bp 203 Ii:=ax (cT:=[]) (bA:=[]) (inv:=[]) (az) (aq) (aA) (fn:=Tryz.f203) rfl (by kernel_rfl) (fun x=>by kernel_rfl)
noncomputable def DM:dA:=⟨.unit,(.pair (.arr 64 (.int .u32)) .unit),xJ⟩
theorem OE:Holds Tryz.prog bp 204 DM:=ax (cT:=[]) (bA:=[]) (inv:=[]) (az) (aq) (aA) (fn:=Tryz.f204) rfl (by kernel_rfl) (fun x=>by kernel_rfl)
noncomputable def Fm:dA:=⟨(.pair (.arr 8 (.int .u32)) gX),ab5,uB⟩
theorem Qk:Holds Tryz.prog bp 156 Fm:=ax (cT:=[(203,Ii),(204,DM)]) (bA:=[]) (inv:=[]) ((ai Tu (ai OE az))) (aq) (aA) (fn:=Tryz.f156) rfl (by kernel_rfl) (fun x=>by kernel_rfl)
noncomputable def KF:dA:=⟨gX,(.pair (.arr 32 (.int .u8)) .unit),yM⟩
theorem Wp:Holds Tryz.prog bp 110 KF:=ax (cT:=[(154,Fk),(155,Fl),(156,Fm)]) (bA:=[]) (inv:=[]) ((ai Qi (ai Qj (ai Qk az)))) (aq) (aA) (fn:=Tryz.f110) rfl (by kernel_rfl) (fun x=>by kernel_rfl)
noncomputable def KG:dA:=⟨gX,gX,yO⟩
theorem Wq:Holds Tryz.prog bp 111 KG:=ax (cT:=[(157,zW)]) (bA:=[]) (inv:=[]) ((ai Ff az)) (aq) (aA) (fn:=Tryz.f111) rfl (by kernel_rfl) (fun x=>by kernel_rfl)
noncomputable def Gx:dA:=⟨gX,gX,xK⟩
theorem OG:Holds Tryz.prog bp 48 Gx:=ax (cT:=[(110,KF),(111,KG)]) (bA:=[]) (inv:=[]) ((ai Wp (ai Wq az))) (aq) (aA) (fn:=Tryz.f48) rfl (by kernel_rfl) (fun x=>by kernel_rfl)
noncomputable def zZ:dA:=⟨afv,ug,ni⟩
theorem Fo:Holds Tryz.prog bp 108 zZ:=ax (cT:=[(48,Gx),(152,yc)]) (bA:=[]) (inv:=[]) ((ai OG (ai DL az))) (aq) (aA) (fn:=Tryz.f108) rfl (by kernel_rfl) (fun x=>by kernel_rfl)
noncomputable def Fq:dA:=⟨(.pair YH7 .unit),ug,qs⟩
theorem Ql:Holds Tryz.prog bp 44 Fq:=ax (cT:=[(105,wU),(106,uX),(108,zZ)]) (bA:=[]) (inv:=[]) ((ai BP (ai zY (ai Fo az)))) (aq) (aA) (fn:=Tryz.f44) rfl (by kernel_rfl) (fun x=>by kernel_rfl)
noncomputable def KH:dA:=⟨(.pair Ak .unit),ug,vz⟩
theorem Wr:Holds Tryz.prog bp 45 KH:=ax (cT:=[(105,wU),(106,uX),(108,zZ)]) (bA:=[]) (inv:=[]) ((ai BP (ai zY (ai Fo az)))) (aq) (aA) (fn:=Tryz.f45) rfl (by kernel_rfl) (fun x=>by kernel_rfl)
noncomputable def Fs:dA:=⟨(.pair afs .unit),(.pair (.slice .str) CB),uQ⟩
theorem Qm:Holds Tryz.prog bp 46 Fs:=ax (cT:=[]) (bA:=[]) (inv:=[]) (az) (aq) (aA) (fn:=Tryz.f46) rfl (by kernel_rfl) (fun x=>by kernel_rfl)
noncomputable def Ft:dA:=⟨(.pair (.int .i64) (.pair afs .unit)),BO,nj⟩
theorem Qn:Holds Tryz.prog bp 14 Ft:=ax (cT:=[(43,Fj),(44,Fq),(45,KH),(46,Fs)]) (bA:=[]) (inv:=[]) ((ai Qh (ai Ql (ai Wr (ai Qm az))))) (aq) (aA) (fn:=Tryz.f14) rfl (by kernel_rfl) (fun x=>by kernel_rfl)
noncomputable def Ij:dA:=⟨(.pair (.slice wm) gX),BO,BB⟩
theorem Tv:Holds Tryz.prog bp 153 Ij:=ax (cT:=[]) (bA:=[]) (inv:=[]) (az) (aq) (aA) (fn:=Tryz.f153) rfl (by kernel_rfl) (fun x=>by kernel_rfl)
noncomputable def z6:dA:=⟨(.pair (.slice wm) gX),(.pair (.slice wm) BO),qt⟩
theorem Fu:Holds Tryz.prog bp 109 z6:=ax (cT:=[(153,Ij)]) (bA:=[]) (inv:=[]) ((ai Tv az)) (aq) (aA) (fn:=Tryz.f109) rfl (by kernel_rfl) (fun x=>by kernel_rfl)
noncomputable def Fv:dA:=⟨Tr,BO,uR⟩
theorem Qo:Holds Tryz.prog bp 47 Fv:=ax (cT:=[(109,z6)]) (bA:=[]) (inv:=[]) ((ai Fu az)) (aq) (aA) (fn:=Tryz.f47) rfl (by kernel_rfl) (fun x=>by kernel_rfl)
noncomputable def Ik:dA:=⟨gX,ug,wL⟩
theorem Tw:Holds Tryz.prog bp 205 Ik:=ax (cT:=[]) (bA:=[]) (inv:=[]) (az) (aq) (aA) (fn:=Tryz.f205) rfl (by kernel_rfl) (fun x=>by kernel_rfl)
noncomputable def Il:dA:=⟨gX,ug,wM⟩
theorem Tz:Holds Tryz.prog bp 206 Il:=ax (cT:=[]) (bA:=[]) (inv:=[]) (az) (aq) (aA) (fn:=Tryz.f206) rfl (by kernel_rfl) (fun x=>by kernel_rfl)
noncomputable def zj:dA:=⟨gX,(.pair (.int .i64) ug),nH⟩
theorem Im:Holds Tryz.prog bp 298 zj:=ax (cT:=[]) (bA:=[]) (inv:=[]) (az) (aq) (aA) (fn:=Tryz.f298) rfl (by kernel_rfl) (fun x=>by kernel_rfl)
noncomputable def DN:dA:=⟨gX,BO,fO⟩
theorem OH:Holds Tryz.prog bp 256 DN:=ax (cT:=[(298,zj)]) (bA:=[]) (inv:=[]) ((ai Im az)) (aq) (aA) (fn:=Tryz.f256) rfl (by kernel_rfl) (fun x=>by kernel_rfl)
noncomputable def KI:dA:=⟨gX,BO,yP⟩
theorem Ws:Holds Tryz.prog bp 257 KI:=ax (cT:=[]) (bA:=[]) (inv:=[]) (az) (aq) (aA) (fn:=Tryz.f257) rfl (by kernel_rfl) (fun x=>by kernel_rfl)
noncomputable def Io:dA:=⟨gX,(.pair .str ug),pO⟩
theorem TA:Holds Tryz.prog bp 258 Io:=ax (cT:=[]) (bA:=[]) (inv:=[]) (az) (aq) (aA) (fn:=Tryz.f258) rfl (by kernel_rfl) (fun x=>by kernel_rfl)
noncomputable def Fw:dA:=⟨jk,ug,mW⟩
theorem Qp:Holds Tryz.prog bp 299 Fw:=ax (cT:=[]) (bA:=[]) (inv:=[]) (az) (aq) (aA) (fn:=Tryz.f299) rfl (by kernel_rfl) (fun x=>by kernel_rfl)
noncomputable def OI:dA:=⟨Tt,ug,qZ⟩
theorem YZ:Holds Tryz.prog bp 300 OI:=ax (cT:=[]) (bA:=[]) (inv:=[]) (az) (aq) (aA) (fn:=Tryz.f300) rfl (by kernel_rfl) (fun x=>by kernel_rfl)
noncomputable def KJ:dA:=⟨(.pair YH6 BO),ug,vo⟩
theorem Wt:Holds Tryz.prog bp 259 KJ:=ax (cT:=[(299,Fw),(300,OI)]) (bA:=[]) (inv:=[]) ((ai Qp (ai YZ az))) (aq) (aA) (fn:=Tryz.f259) rfl (by kernel_rfl) (fun x=>by kernel_rfl)
noncomputable def Ip:dA:=⟨gX,(.pair YH6 BO),pP⟩
theorem TB:Holds Tryz.prog bp 207 Ip:=ax (cT:=[(256,DN),(257,KI),(258,Io),(259,KJ)]) (bA:=[]) (inv:=[]) ((ai OH (ai Ws (ai TA (ai Wt az))))) (aq) (aA) (fn:=Tryz.f207) rfl (by kernel_rfl) (fun x=>by kernel_rfl)
noncomputable def Fx:dA:=⟨BO,BO,mX⟩
theorem Qq:Holds Tryz.prog bp 208 Fx:=ax (cT:=[]) (bA:=[]) (inv:=[]) (az) (aq) (aA) (fn:=Tryz.f208) rfl (by kernel_rfl) (fun x=>by kernel_rfl)
noncomputable def Fy:dA:=⟨gX,(.pair (.slice (.pair YH6 gX)) ug),uO⟩
theorem Qr:Holds Tryz.prog bp 158 Fy:=ax (cT:=[(205,Ik),(206,Il),(207,Ip),(208,Fx)]) (bA:=[]) (inv:=[]) ((ai Tw (ai Tz (ai TB (ai Qq az))))) (aq) (aA) (fn:=Tryz.f158) rfl (by kernel_rfl) (fun x=>by kernel_rfl)
noncomputable def BQ:dA:=⟨gX,(.pair (.slice (.pair YH6 gX)) BO),l9⟩
theorem Iq:Holds Tryz.prog bp 112 BQ:=ax (cT:=[(158,Fy)]) (bA:=[]) (inv:=[]) ((ai Qr az)) (aq) (aA) (fn:=Tryz.f112) rfl (by kernel_rfl) (fun x=>by kernel_rfl)
noncomputable def iN:dA:=⟨gX,CB,eo⟩
theorem kI:Holds Tryz.prog bp 260 iN:=ax (cT:=[]) (bA:=[]) (inv:=[]) (az) (aq) (aA) (fn:=Tryz.f260) rfl (by kernel_rfl) (fun x=>by kernel_rfl)
noncomputable def BR:dA:=⟨CB,gX,pz⟩
theorem Ir:Holds Tryz.prog bp 261 BR:=ax (cT:=[]) (bA:=[]) (inv:=[]) (az) (aq) (aA) (fn:=Tryz.f261) rfl (by kernel_rfl) (fun x=>by kernel_rfl)
noncomputable def DO:dA:=⟨gX,ug,sB⟩
theorem OJ:Holds Tryz.prog bp 301 DO:=ax (cT:=[]) (bA:=[]) (inv:=[]) (az) (aq) (aA) (fn:=Tryz.f301) rfl (by kernel_rfl) (fun x=>by kernel_rfl)
noncomputable def Gy:dA:=⟨gX,ug,xL⟩
theorem OK:Holds Tryz.prog bp 262 Gy:=ax (cT:=[(260,iN),(301,DO)]) (bA:=[]) (inv:=[]) ((ai kI (ai OJ az))) (aq) (aA) (fn:=Tryz.f262) rfl (by kernel_rfl) (fun x=>by kernel_rfl)
noncomputable def Fz:dA:=⟨gX,jk,uD⟩
theorem Qs:Holds Tryz.prog bp 209 Fz:=ax (cT:=[(260,iN),(261,BR),(262,Gy)]) (bA:=[]) (inv:=[]) ((ai kI (ai Ir (ai OK az)))) (aq) (aA) (fn:=Tryz.f209) rfl (by kernel_rfl) (fun x=>by kernel_rfl)
noncomputable def qy:dA:=⟨gX,(.pair .str gX),kD⟩
theorem uY:Holds Tryz.prog bp 210 qy:=ax (cT:=[(260,iN),(261,BR)]) (bA:=[]) (inv:=[]) ((ai kI (ai Ir az))) (aq) (aA) (fn:=Tryz.f210) rfl (by kernel_rfl) (fun x=>by kernel_rfl)
noncomputable def DP:dA:=⟨(.pair .str gX),ug,oD⟩
theorem OL:Holds Tryz.prog bp 263 DP:=ax (cT:=[]) (bA:=[]) (inv:=[]) (az) (aq) (aA) (fn:=Tryz.f263) rfl (by kernel_rfl) (fun x=>by kernel_rfl)
noncomputable def BS:dA:=⟨gX,(.pair (.int .i64) gX),sC⟩
theorem Is:Holds Tryz.prog bp 211 BS:=ax (cT:=[(263,DP)]) (bA:=[]) (inv:=[]) ((ai OL az)) (aq) (aA) (fn:=Tryz.f211) rfl (by kernel_rfl) (fun x=>by kernel_rfl)
noncomputable def wV:dA:=⟨(.pair .str gX),gX,pE⟩
theorem BT:Holds Tryz.prog bp 212 wV:=ax (cT:=[]) (bA:=[]) (inv:=[]) (az) (aq) (aA) (fn:=Tryz.f212) rfl (by kernel_rfl) (fun x=>by kernel_rfl)
noncomputable def DQ:dA:=⟨gX,ug,sH⟩
theorem OM:Holds Tryz.prog bp 264 DQ:=ax (cT:=[]) (bA:=[]) (inv:=[]) (az) (aq) (aA) (fn:=Tryz.f264) rfl (by kernel_rfl) (fun x=>by kernel_rfl)
noncomputable def vE:dA:=⟨(.pair TL .unit),ug,lS⟩
theorem zk:Holds Tryz.prog bp 214 vE:=ax (cT:=[(210,qy),(211,BS),(262,Gy),(264,DQ)]) (bA:=[]) (inv:=[]) ((ai uY (ai Is (ai OK (ai OM az))))) (aq) (aA) (fn:=Tryz.f214) rfl (by kernel_rfl) (fun x=>by kernel_rfl)
noncomputable def DR:dA:=⟨gX,ug,lE⟩
theorem ON:Holds Tryz.prog bp 213 DR:=ax (cT:=[(212,wV),(214,vE),(260,iN)]) (bA:=[]) (inv:=[]) ((ai BT (ai zk (ai kI az)))) (aq) (aA) (fn:=Tryz.f213) rfl (by kernel_rfl) (fun x=>by kernel_rfl)
noncomputable def BU:dA:=⟨(.pair (.pair YH6 gX) gX),(.pair TL .unit),sK⟩
theorem Iu:Holds Tryz.prog bp 215 BU:=ax (cT:=[]) (bA:=[]) (inv:=[]) (az) (aq) (aA) (fn:=Tryz.f215) rfl (by kernel_rfl) (fun x=>by kernel_rfl)
noncomputable def BV:dA:=⟨(.pair (.pair YH6 gX) .unit),(.pair (.int .i64) (.pair .str ug)),pM⟩
theorem Iv:Holds Tryz.prog bp 159 BV:=ax (cT:=[(209,Fz),(210,qy),(211,BS),(212,wV),(213,DR),(214,vE),(215,BU)]) (bA:=[]) (inv:=[]) ((ai Qs (ai uY (ai Is (ai BT (ai ON (ai zk (ai Iu az)))))))) (aq) (aA) (fn:=Tryz.f159) rfl (by kernel_rfl) (fun x=>by kernel_rfl)
noncomputable def z7:dA:=⟨(.pair (.slice (.pair YH6 gX)) .unit),ug,qn⟩
theorem FA:Holds Tryz.prog bp 113 z7:=ax (cT:=[(159,BV)]) (bA:=[]) (inv:=[]) ((ai Iv az)) (aq) (aA) (fn:=Tryz.f113) rfl (by kernel_rfl) (fun x=>by kernel_rfl)
noncomputable def z8:dA:=⟨gX,BO,qo⟩
theorem FB:Holds Tryz.prog bp 49 z8:=ax (cT:=[(112,BQ),(113,z7)]) (bA:=[]) (inv:=[]) ((ai Iq (ai FA az))) (aq) (aA) (fn:=Tryz.f49) rfl (by kernel_rfl) (fun x=>by kernel_rfl)
noncomputable def BW:dA:=⟨(.pair Mi gX),BO,mg⟩
theorem Iw:Holds Tryz.prog bp 16 BW:=ax (cT:=[]) (bA:=[]) (inv:=[]) (az) (aq) (aA) (fn:=Tryz.f16) rfl (by kernel_rfl) (fun x=>by kernel_rfl)
noncomputable def Ix:dA:=⟨(.pair Mi BO),gX,wN⟩
theorem TC:Holds Tryz.prog bp 114 Ix:=ax (cT:=[]) (bA:=[]) (inv:=[]) (az) (aq) (aA) (fn:=Tryz.f114) rfl (by kernel_rfl) (fun x=>by kernel_rfl)
noncomputable def wW:dA:=⟨YY,BO,iE⟩
theorem BX:Holds Tryz.prog bp 302 wW:=ax (cT:=[]) (bA:=[]) (inv:=[]) (az) (aq) (aA) (fn:=Tryz.f302) rfl (by kernel_rfl) (fun x=>by kernel_rfl)
noncomputable def DT:dA:=⟨YY,ug,oL⟩
theorem KK:Holds Tryz.prog bp 265 DT:=ax (cT:=[(302,wW)]) (bA:=[]) (inv:=[]) ((ai BX az)) (aq) (aA) (fn:=Tryz.f265) rfl (by kernel_rfl) (fun x=>by kernel_rfl)
noncomputable def vW:dA:=⟨(.pair .str gX),BO,mK⟩
theorem Cp:Holds Tryz.prog bp 266 vW:=ax (cT:=[(260,iN)]) (bA:=[]) (inv:=[]) ((ai kI az)) (aq) (aA) (fn:=Tryz.f266) rfl (by kernel_rfl) (fun x=>by kernel_rfl)
noncomputable def rB:dA:=⟨(.pair (.slice TL) .unit),ug,l8⟩
theorem uk:Holds Tryz.prog bp 216 rB:=ax (cT:=[(210,qy),(214,vE),(265,DT),(266,vW)]) (bA:=[]) (inv:=[]) ((ai uY (ai zk (ai KK (ai Cp az))))) (aq) (aA) (fn:=Tryz.f216) rfl (by kernel_rfl) (fun x=>by kernel_rfl)
noncomputable def FC:dA:=⟨(.pair .str gX),ug,uE⟩
theorem Qt:Holds Tryz.prog bp 320 FC:=ax (cT:=[(260,iN)]) (bA:=[]) (inv:=[]) ((ai kI az)) (aq) (aA) (fn:=Tryz.f320) rfl (by kernel_rfl) (fun x=>by kernel_rfl)
noncomputable def qT:dA:=⟨(.pair (.slice TL) (.pair .str ug)),(.pair (.slice TL) .unit),jI⟩
theorem vX:Holds Tryz.prog bp 303 qT:=ax (cT:=[(320,FC)]) (bA:=[]) (inv:=[]) ((ai Qt az)) (aq) (aA) (fn:=Tryz.f303) rfl (by kernel_rfl) (fun x=>by kernel_rfl)
noncomputable def DU:dA:=⟨YY,(.pair (.slice TL) .unit),sI⟩
theorem OO:Holds Tryz.prog bp 267 DU:=ax (cT:=[(216,rB),(303,qT)]) (bA:=[]) (inv:=[]) ((ai uk (ai vX az))) (aq) (aA) (fn:=Tryz.f267) rfl (by kernel_rfl) (fun x=>by kernel_rfl)
noncomputable def FD:dA:=⟨YY,(.pair (.slice TL) .unit),uM⟩
theorem Qu:Holds Tryz.prog bp 268 FD:=ax (cT:=[(216,rB),(303,qT)]) (bA:=[]) (inv:=[]) ((ai uk (ai vX az))) (aq) (aA) (fn:=Tryz.f268) rfl (by kernel_rfl) (fun x=>by kernel_rfl)
noncomputable def DV:dA:=⟨(.pair (.slice TL) (.pair TL .unit)),ab7,oM⟩
theorem KL:Holds Tryz.prog bp 270 DV:=ax (cT:=[(210,qy),(214,vE),(216,rB),(265,DT),(266,vW),(302,wW),(303,qT)]) (bA:=[]) (inv:=[]) ((ai uY (ai zk (ai uk (ai KK (ai Cp (ai BX (ai vX az)))))))) (aq) (aA) (fn:=Tryz.f270) rfl (by kernel_rfl) (fun x=>by kernel_rfl)
noncomputable def Iy:dA:=⟨YY,(.pair TL ug),wJ⟩
theorem TD:Holds Tryz.prog bp 304 Iy:=ax (cT:=[(216,rB),(302,wW)]) (bA:=[]) (inv:=[]) ((ai uk (ai BX az))) (aq) (aA) (fn:=Tryz.f304) rfl (by kernel_rfl) (fun x=>by kernel_rfl)
noncomputable def Iz:dA:=⟨YY,ab7,wK⟩
theorem TE:Holds Tryz.prog bp 269 Iz:=ax (cT:=[(212,wV),(260,iN),(270,DV),(304,Iy)]) (bA:=[]) (inv:=[]) ((ai BT (ai kI (ai KL (ai TD az))))) (aq) (aA) (fn:=Tryz.f269) rfl (by kernel_rfl) (fun x=>by kernel_rfl)
noncomputable def KM:dA:=⟨(.pair (.slice TL) (.pair (.slice (.pair YH6 gX)) .unit)),ab7,yW⟩
theorem Wu:Holds Tryz.prog bp 217 KM:=ax (cT:=[(113,z7),(159,BV),(215,BU),(216,rB),(267,DU),(268,FD),(269,Iz),(270,DV)]) (bA:=[]) (inv:=[]) ((ai FA (ai Iv (ai Iu (ai uk (ai OO (ai Qu (ai TE (ai KL az))))))))) (aq) (aA) (fn:=Tryz.f217) rfl (by kernel_rfl) (fun x=>by kernel_rfl)
noncomputable def FE:dA:=⟨YY,ab7,uP⟩
theorem Qv:Holds Tryz.prog bp 160 FE:=ax (cT:=[(49,z8),(112,BQ),(216,rB),(217,KM)]) (bA:=[]) (inv:=[]) ((ai FB (ai Iq (ai uk (ai Wu az))))) (aq) (aA) (fn:=Tryz.f160) rfl (by kernel_rfl) (fun x=>by kernel_rfl)
noncomputable def KN:dA:=⟨CB,ab7,yZ⟩
theorem Wv:Holds Tryz.prog bp 115 KN:=ax (cT:=[(160,FE)]) (bA:=[]) (inv:=[]) ((ai Qv az)) (aq) (aA) (fn:=Tryz.f115) rfl (by kernel_rfl) (fun x=>by kernel_rfl)
noncomputable def IA:dA:=⟨(.pair Mi gX),ab7,wO⟩
theorem TF:Holds Tryz.prog bp 50 IA:=ax (cT:=[(16,BW),(109,z6),(114,Ix),(115,KN)]) (bA:=[]) (inv:=[]) ((ai Iw (ai Fu (ai TC (ai Wv az))))) (aq) (aA) (fn:=Tryz.f50) rfl (by kernel_rfl) (fun x=>by kernel_rfl)
noncomputable def DW:dA:=⟨LJ,ug,sO⟩
theorem OP:Holds Tryz.prog bp 15 DW:=ax (cT:=[(47,Fv),(48,Gx),(49,z8),(50,IA)]) (bA:=[]) (inv:=[]) ((ai Qo (ai OG (ai FB (ai TF az))))) (aq) (aA) (fn:=Tryz.f15) rfl (by kernel_rfl) (fun x=>by kernel_rfl)
noncomputable def DX:dA:=⟨LJ,ug,j7⟩
theorem KO:Holds Tryz.prog bp 5 DX:=ax (cT:=[(14,Ft),(15,DW),(16,BW)]) (bA:=[]) (inv:=[]) ((ai Qn (ai OP (ai Iw az)))) (aq) (aA) (fn:=Tryz.f5) rfl (by kernel_rfl) (fun x=>by kernel_rfl)
noncomputable def bW:dA:=⟨CB,CB,bz⟩
theorem b8:Holds Tryz.prog bp 39 bW:=by
 refine vm (P:=Tryz.prog) (cx:=Qe [] []) (bf:=[5]) (e:=.str) (tid:=25) (fn:=Tryz.f39) (s0:=fun l=>(v8 (fun _=>none) [.data (.slice .str) l]).put 2 (.data (.slice .str) ([]:List (.str:Ty).den))) mix (OC [] []) (mF az aq Gw aA) Tryz.func39 (by kernel_rfl)
  (by rfl) rfl (by decide) (by decide) rfl rfl rfl rfl rfl rfl (fun l=>by rfl) (fun l=>rfl) (fun l=>rfl) (fun l=>rfl) (fun l=>by rfl) (fun l hl=>?_)
 have key:∀m:List (.str:Ty).den,fits (len m)=true→aj (fits (plus (len ([]:List (.str:Ty).den)) (len m))) (some ((app [] m,()):(Ty.pair (.slice .str) .unit).den)) none=some (m,()):=by
  intro m hm;have e:plus (len ([]:List (.str:Ty).den)) (len m)=len m:=by simp[plus,len]
  rw[e,hm];rfl
 exact yB (b:=aj (fits (plus (len ([]:List (.str:Ty).den)) (len (α:=(.str:Ty).den) l))) (some ((app (α:=(.str:Ty).den) [] l,()):(Ty.pair (.slice .str) .unit).den)) none) (by rfl) (key l hl)
noncomputable def tg:dA:=⟨(.pair .str YX),gX,iC⟩
theorem BZ:Holds Tryz.prog bp 172 tg:=ax (cT:=[]) (bA:=[]) (inv:=[]) (az) (aq) (aA) (fn:=Tryz.f172) rfl (by kernel_rfl) (fun x=>by kernel_rfl)
noncomputable def rP:dA:=⟨(.pair .str YX),gX,fq⟩
theorem A3:Holds Tryz.prog bp 173 rP:=ax (cT:=[]) (bA:=[]) (inv:=[]) (az) (aq) (aA) (fn:=Tryz.f173) rfl (by kernel_rfl) (fun x=>by kernel_rfl)
noncomputable def tj:dA:=⟨gX,(.pair (.arr 256 .bool) ug),dG⟩
theorem B1:Holds Tryz.prog bp 174 tj:=ax (cT:=[]) (bA:=[]) (inv:=[]) (az) (aq) (aA) (fn:=Tryz.f174) rfl (by kernel_rfl) (fun x=>by kernel_rfl)
noncomputable def fA:EJ:=⟨[true,false],YX,(.pair (.arr 256 .bool) .unit),ug,cD⟩
theorem iG:p7 Tryz.prog bp 224 fA:=xd (cT:=[]) (bA:=[]) (inv:=[]) (az) (aq) (aA) (fn:=Tryz.f224) rfl (by kernel_rfl) (fun x=>by kernel_rfl)
noncomputable def rQ:EJ:=⟨[false,true],gX,(.pair (.arr 256 .bool) .unit),gX,gQ⟩
theorem A4:p7 Tryz.prog bp 175 rQ:=xd (cT:=[]) (bA:=[(224,fA)]) (inv:=[]) (az) ((kX iG aq)) (aA) (fn:=Tryz.f175) rfl (by kernel_rfl) (fun x=>by kernel_rfl)
noncomputable def qz:EJ:=⟨[false,true],gX,(.pair (.arr 256 .bool) .unit),gX,dP⟩
theorem Aa:p7 Tryz.prog bp 176 qz:=xd (cT:=[]) (bA:=[(224,fA)]) (inv:=[]) (az) ((kX iG aq)) (aA) (fn:=Tryz.f176) rfl (by kernel_rfl) (fun x=>by kernel_rfl)
noncomputable def DY:dA:=⟨(.pair .str gX),gX,jd⟩
theorem OQ:Holds Tryz.prog bp 119 DY:=ax (cT:=[(172,tg),(173,rP),(174,tj)]) (bA:=[(175,rQ),(176,qz),(224,fA)]) (inv:=[]) ((ai BZ (ai A3 (ai B1 az)))) ((kX A4 (kX Aa (kX iG aq)))) (aA) (fn:=Tryz.f119) rfl (by kernel_rfl) (fun x=>by kernel_rfl)
noncomputable def Cq:dA:=⟨gX,ug,qD⟩
theorem LK:Holds Tryz.prog bp 55 Cq:=ax (cT:=[(119,DY)]) (bA:=[]) (inv:=[]) ((ai OQ az)) (aq) (aA) (fn:=Tryz.f55) rfl (by kernel_rfl) (fun x=>by kernel_rfl)
noncomputable def uZ:dA:=⟨CB,BO,mY⟩
theorem Ab:Holds Tryz.prog bp 18 uZ:=ax (cT:=[(39,bW),(55,Cq)]) (bA:=[]) (inv:=[]) ((ai b8 (ai LK az))) (aq) (aA) (fn:=Tryz.f18) rfl (by kernel_rfl) (fun x=>by kernel_rfl)
noncomputable def Ac:dA:=⟨BO,aft,kG⟩
theorem FF:Holds Tryz.prog bp 19 Ac:=ax (cT:=[]) (bA:=[]) (inv:=[]) (az) (aq) (aA) (fn:=Tryz.f19) rfl (by kernel_rfl) (fun x=>by kernel_rfl)
noncomputable def mO:dA:=⟨(.pair (.slice .str) gX),BO,ia⟩
theorem vY:Holds Tryz.prog bp 121 mO:=ax (cT:=[]) (bA:=[]) (inv:=[]) (az) (aq) (aA) (fn:=Tryz.f121) rfl (by kernel_rfl) (fun x=>by kernel_rfl)
noncomputable def gf:dA:=⟨(.pair (.slice .str) gX),ug,cC⟩
theorem kK:Holds Tryz.prog bp 59 gf:=ax (cT:=[(121,mO)]) (bA:=[]) (inv:=[]) ((ai vY az)) (aq) (aA) (fn:=Tryz.f59) rfl (by kernel_rfl) (fun x=>by kernel_rfl)
noncomputable def ke:dA:=⟨(.pair .str gX),ug,dS⟩
theorem tq:Holds Tryz.prog bp 150 ke:=ax (cT:=[]) (bA:=[]) (inv:=[]) (az) (aq) (aA) (fn:=Tryz.f150) rfl (by kernel_rfl) (fun x=>by kernel_rfl)
noncomputable def wo:dA:=⟨(.pair .str gX),ug,eG⟩
theorem ET:Holds Tryz.prog bp 104 wo:=ax (cT:=[(150,ke)]) (bA:=[]) (inv:=[]) ((ai tq az)) (aq) (aA) (fn:=Tryz.f104) rfl (by kernel_rfl) (fun x=>by kernel_rfl)
noncomputable def u5:dA:=⟨(.pair Ts gX),jk,nc⟩
theorem Ad:Holds Tryz.prog bp 36 u5:=ax (cT:=[(59,gf),(104,wo)]) (bA:=[]) (inv:=[]) ((ai kK (ai ET az))) (aq) (aA) (fn:=Tryz.f36) rfl (by kernel_rfl) (fun x=>by kernel_rfl)
noncomputable def B2:dA:=⟨(.pair (.int .i64) (.pair afs .unit)),(.pair Ts .unit),tY⟩
theorem Gz:Holds Tryz.prog bp 60 B2:=ax (cT:=[(39,bW)]) (bA:=[]) (inv:=[]) ((ai b8 az)) (aq) (aA) (fn:=Tryz.f60) rfl (by kernel_rfl) (fun x=>by kernel_rfl)
noncomputable def DZ:dA:=⟨LJ,(.pair Ts .unit),sG⟩
theorem OR:Holds Tryz.prog bp 56 DZ:=ax (cT:=[(60,B2)]) (bA:=[]) (inv:=[]) ((ai Gz az)) (aq) (aA) (fn:=Tryz.f56) rfl (by kernel_rfl) (fun x=>by kernel_rfl)
noncomputable def FG:dA:=⟨(.pair Mi gX),jk,nh⟩
theorem Qw:Holds Tryz.prog bp 20 FG:=ax (cT:=[(36,u5),(56,DZ)]) (bA:=[]) (inv:=[]) ((ai Ad (ai OR az))) (aq) (aA) (fn:=Tryz.f20) rfl (by kernel_rfl) (fun x=>by kernel_rfl)
noncomputable def IB:dA:=⟨(.pair Ts gX),BO,wE⟩
theorem TG:Holds Tryz.prog bp 57 IB:=ax (cT:=[]) (bA:=[]) (inv:=[]) (az) (aq) (aA) (fn:=Tryz.f57) rfl (by kernel_rfl) (fun x=>by kernel_rfl)
noncomputable def B3:dA:=⟨(.pair Ts (.pair .str CB)),BO,sE⟩
theorem IC:Holds Tryz.prog bp 21 B3:=ax (cT:=[(18,uZ),(57,IB),(59,gf)]) (bA:=[]) (inv:=[]) ((ai Ab (ai TG (ai kK az)))) (aq) (aA) (fn:=Tryz.f21) rfl (by kernel_rfl) (fun x=>by kernel_rfl)
noncomputable def Ae:dA:=⟨LJ,(.pair Ts .unit),nk⟩
theorem FH:Holds Tryz.prog bp 22 Ae:=ax (cT:=[(60,B2)]) (bA:=[]) (inv:=[]) ((ai Gz az)) (aq) (aA) (fn:=Tryz.f22) rfl (by kernel_rfl) (fun x=>by kernel_rfl)
noncomputable def B4:dA:=⟨gX,gX,sy⟩
theorem ID:Holds Tryz.prog bp 123 B4:=ax (cT:=[]) (bA:=[]) (inv:=[]) (az) (aq) (aA) (fn:=Tryz.f123) rfl (by kernel_rfl) (fun x=>by kernel_rfl)
noncomputable def KP:dA:=⟨BO,gX,yV⟩
theorem Ww:Holds Tryz.prog bp 61 KP:=ax (cT:=[(123,B4)]) (bA:=[]) (inv:=[]) ((ai ID az)) (aq) (aA) (fn:=Tryz.f61) rfl (by kernel_rfl) (fun x=>by kernel_rfl)
noncomputable def yd:dA:=⟨(.pair Ts BO),jk,oK⟩
theorem D0:Holds Tryz.prog bp 23 yd:=ax (cT:=[(61,KP)]) (bA:=[]) (inv:=[]) ((ai Ww az)) (aq) (aA) (fn:=Tryz.f23) rfl (by kernel_rfl) (fun x=>by kernel_rfl)
noncomputable def dV:dA:=⟨afv,afv,b7⟩
theorem fS:Holds Tryz.prog bp 40 dV:=by
 refine vm (P:=Tryz.prog) (cx:=Qe [] []) (bf:=[5]) (e:=IP) (tid:=41) (fn:=Tryz.f40) (s0:=fun l=>(v8 (fun _=>none) [.data (.slice IP) l]).put 2 (.data (.slice IP) ([]:List (IP:Ty).den))) mix (OC [] []) (mF az aq Gw aA) Tryz.func40 (by kernel_rfl)
  (by rfl) rfl (by decide) (by decide) rfl rfl rfl rfl rfl rfl (fun l=>by rfl) (fun l=>rfl) (fun l=>rfl) (fun l=>rfl) (fun l=>by rfl) (fun l hl=>?_)
 have key:∀m:List (IP:Ty).den,fits (len m)=true→aj (fits (plus (len ([]:List (IP:Ty).den)) (len m))) (some ((app [] m,()):(Ty.pair (.slice IP) .unit).den)) none=some (m,()):=by
  intro m hm;have e:plus (len ([]:List (IP:Ty).den)) (len m)=len m:=by simp[plus,len]
  rw[e,hm];rfl
 exact yB (b:=aj (fits (plus (len ([]:List (IP:Ty).den)) (len (α:=(IP:Ty).den) l))) (some ((app (α:=(IP:Ty).den) [] l,()):(Ty.pair (.slice IP) .unit).den)) none) (by rfl) (key l hl)
noncomputable def IE:dA:=⟨(.pair Mi gX),(.pair YH7 ug),wI⟩
theorem TH:Holds Tryz.prog bp 24 IE:=ax (cT:=[(39,bW),(40,dV)]) (bA:=[]) (inv:=[]) ((ai b8 (ai fS az))) (aq) (aA) (fn:=Tryz.f24) rfl (by kernel_rfl) (fun x=>by kernel_rfl)
noncomputable def ye:dA:=⟨LJ,(.pair Ts .unit),lC⟩
theorem D1:Holds Tryz.prog bp 71 ye:=ax (cT:=[(60,B2)]) (bA:=[]) (inv:=[]) ((ai Gz az)) (aq) (aA) (fn:=Tryz.f71) rfl (by kernel_rfl) (fun x=>by kernel_rfl)
noncomputable def FI:dA:=⟨(.pair Mi gX),jk,ng⟩
theorem Qx:Holds Tryz.prog bp 69 FI:=ax (cT:=[(36,u5),(71,ye)]) (bA:=[]) (inv:=[]) ((ai Ad (ai D1 az))) (aq) (aA) (fn:=Tryz.f69) rfl (by kernel_rfl) (fun x=>by kernel_rfl)
noncomputable def FJ:dA:=⟨(.pair (.slice wm) gX),(.pair (.slice wm) BO),uU⟩
theorem Qy:Holds Tryz.prog bp 74 FJ:=ax (cT:=[(39,bW)]) (bA:=[]) (inv:=[]) ((ai b8 az)) (aq) (aA) (fn:=Tryz.f74) rfl (by kernel_rfl) (fun x=>by kernel_rfl)
noncomputable def D2:dA:=⟨BO,aft,DJ⟩
theorem OS:Holds Tryz.prog bp 78 D2:=ax (cT:=[]) (bA:=[]) (inv:=[]) (az) (aq) (aA) (fn:=Tryz.f78) rfl (by kernel_rfl) (fun x=>by kernel_rfl)
noncomputable def A5:dA:=⟨jk,gX,pn⟩
theorem JU:Holds Tryz.prog bp 130 A5:=PD (spec:=gr) Tryz.func130 (by kernel_rfl) (by kernel_rfl) (fun _ _ _ h=>C8 h) (fun s c w y hc hl hy=>by
 obtain⟨h1,h2,rfl⟩:=tM hy;have hm:(IntKind.i64).max=9223372036854775807:=by decide
 obtain⟨n,rfl⟩:=acB h1;exact Tryz.strings_Repeat s n w (by omega) h2)
noncomputable def FK:dA:=⟨.unit,gX,uV⟩
theorem Qz:Holds Tryz.prog bp 79 FK:=ax (cT:=[(130,A5)]) (bA:=[]) (inv:=[]) ((ai JU az)) (aq) (aA) (fn:=Tryz.f79) rfl (by kernel_rfl) (fun x=>by kernel_rfl)
noncomputable def vF:dA:=⟨.unit,ab5,rJ⟩
theorem zl:Holds Tryz.prog bp 291 vF:=ax (cT:=[]) (bA:=[]) (inv:=[]) (az) (aq) (aA) (fn:=Tryz.f291) rfl (by kernel_rfl) (fun x=>by kernel_rfl)
noncomputable def vG:dA:=⟨.unit,(.pair (.arr 64 (.int .u32)) .unit),yL⟩
theorem zm:Holds Tryz.prog bp 292 vG:=ax (cT:=[]) (bA:=[]) (inv:=[]) (az) (aq) (aA) (fn:=Tryz.f292) rfl (by kernel_rfl) (fun x=>by kernel_rfl)
noncomputable def qA:dA:=⟨(.pair (.int .u32) BO),(.pair (.int .u32) .unit),kz⟩
theorem Af:Holds Tryz.prog bp 317 qA:=ax (cT:=[]) (bA:=[]) (inv:=[]) (az) (aq) (aA) (fn:=Tryz.f317) rfl (by kernel_rfl) (fun x=>by kernel_rfl)
noncomputable def rR:dA:=⟨(.pair (.int .u32) BO),(.pair (.int .u32) .unit),bP⟩
theorem vH:Holds Tryz.prog bp 294 rR:=ax (cT:=[(317,qA)]) (bA:=[]) (inv:=[]) ((ai Af az)) (aq) (aA) (fn:=Tryz.f294) rfl (by kernel_rfl) (fun x=>by kernel_rfl)
noncomputable def oU:dA:=⟨(.pair (.arr 64 (.int .u8)) .unit),(.pair (.arr 64 (.int .u32)) .unit),ou⟩
theorem tr:Holds Tryz.prog bp 293 oU:=ax (cT:=[(294,rR)]) (bA:=[]) (inv:=[]) ((ai vH az)) (aq) (aA) (fn:=Tryz.f293) rfl (by kernel_rfl) (fun x=>by kernel_rfl)
noncomputable def nS:EJ:=⟨[true,false],(.pair (.arr 64 (.int .u8)) .unit),(.pair (.pair .bool ab5) .unit),.unit,HD⟩
theorem tu:p7 Tryz.prog bp 248 nS:=xd (cT:=[(291,vF),(292,vG),(293,oU),(294,rR)]) (bA:=[]) (inv:=[]) ((ai zl (ai zm (ai tr (ai vH az))))) (aq) (aA) (fn:=Tryz.f248) rfl (by kernel_rfl) (fun x=>by kernel_rfl)
noncomputable def uo:EJ:=⟨[true,false],gX,(.pair aja .unit),.unit,gv⟩
theorem A6:p7 Tryz.prog bp 196 uo:=xd (cT:=[(291,vF),(292,vG),(293,oU),(294,rR)]) (bA:=[(248,nS)]) (inv:=[]) ((ai zl (ai zm (ai tr (ai vH az))))) ((kX tu aq)) (aA) (fn:=Tryz.f196) rfl (by kernel_rfl) (fun x=>by kernel_rfl)
noncomputable def A7:EJ:=⟨[true],.unit,(.pair aja .unit),(.pair (.arr 32 (.int .u8)) .unit),pq⟩
theorem JV:p7 Tryz.prog bp 197 A7:=xd (cT:=[(291,vF),(292,vG),(293,oU),(294,rR)]) (bA:=[(196,uo),(248,nS)]) (inv:=[]) ((ai zl (ai zm (ai tr (ai vH az))))) ((kX A6 (kX tu aq))) (aA) (fn:=Tryz.f197) rfl (by kernel_rfl) (fun x=>by kernel_rfl)
noncomputable def RS:dA:=⟨gX,(.pair (.arr 32 (.int .u8)) .unit),En⟩
theorem ab9:Holds Tryz.prog bp 131 RS:=ax (cT:=[(291,vF),(292,vG),(293,oU),(294,rR)]) (bA:=[(196,uo),(197,A7),(248,nS)]) (inv:=[]) ((ai zl (ai zm (ai tr (ai vH az))))) ((kX A6 (kX JV (kX tu aq)))) (aA) (fn:=Tryz.f131) rfl (by kernel_rfl) (fun x=>by kernel_rfl)
noncomputable def KQ:dA:=⟨gX,gX,yN⟩
theorem Wx:Holds Tryz.prog bp 80 KQ:=ax (cT:=[(123,B4),(131,RS)]) (bA:=[]) (inv:=[]) ((ai ID (ai ab9 az))) (aq) (aA) (fn:=Tryz.f80) rfl (by kernel_rfl) (fun x=>by kernel_rfl)
noncomputable def Ag:dA:=⟨LJ,CB,qu⟩
theorem FL:Holds Tryz.prog bp 98 Ag:=ax (cT:=[]) (bA:=[]) (inv:=[]) (az) (aq) (aA) (fn:=Tryz.f98) rfl (by kernel_rfl) (fun x=>by kernel_rfl)
noncomputable def wq:dA:=⟨(.pair (.slice .str) (.pair (.int .i64) gX)),CB,kS⟩
theorem EU:Holds Tryz.prog bp 134 wq:=ax (cT:=[(39,bW)]) (bA:=[]) (inv:=[]) ((ai b8 az)) (aq) (aA) (fn:=Tryz.f134) rfl (by kernel_rfl) (fun x=>by kernel_rfl)
noncomputable def ff:dA:=⟨Tr,Tr,ru⟩
theorem jl:Holds Tryz.prog bp 144 ff:=by
 refine vm (P:=Tryz.prog) (cx:=Qe [] []) (bf:=[5]) (e:=wm) (tid:=24) (fn:=Tryz.f144) (s0:=fun l=>(v8 (fun _=>none) [.data (.slice wm) l]).put 2 (.data (.slice wm) ([]:List (wm:Ty).den))) mix (OC [] []) (mF az aq Gw aA) Tryz.func144 (by kernel_rfl)
  (by rfl) rfl (by decide) (by decide) rfl rfl rfl rfl rfl rfl (fun l=>by rfl) (fun l=>rfl) (fun l=>rfl) (fun l=>rfl) (fun l=>by rfl) (fun l hl=>?_)
 have key:∀m:List (wm:Ty).den,fits (len m)=true→aj (fits (plus (len ([]:List (wm:Ty).den)) (len m))) (some ((app [] m,()):(Ty.pair (.slice wm) .unit).den)) none=some (m,()):=by
  intro m hm;have e:plus (len ([]:List (wm:Ty).den)) (len m)=len m:=by simp[plus,len]
  rw[e,hm];rfl
 exact yB (b:=aj (fits (plus (len ([]:List (wm:Ty).den)) (len (α:=(wm:Ty).den) l))) (some ((app (α:=(wm:Ty).den) [] l,()):(Ty.pair (.slice wm) .unit).den)) none) (by rfl) (key l hl)
noncomputable def tw:dA:=⟨(.pair (.slice wm) (.pair (.int .i64) (.pair wm .unit))),Tr,iF⟩
theorem B5:Holds Tryz.prog bp 135 tw:=ax (cT:=[(144,ff)]) (bA:=[]) (inv:=[]) ((ai jl az)) (aq) (aA) (fn:=Tryz.f135) rfl (by kernel_rfl) (fun x=>by kernel_rfl)
noncomputable def IF:dA:=⟨(.pair Mi (.pair wm gX)),LJ,sX⟩
theorem TI:Holds Tryz.prog bp 81 IF:=ax (cT:=[(98,Ag),(134,wq),(135,tw)]) (bA:=[]) (inv:=[]) ((ai FL (ai EU (ai B5 az)))) (aq) (aA) (fn:=Tryz.f81) rfl (by kernel_rfl) (fun x=>by kernel_rfl)
noncomputable def Cr:dA:=⟨(.pair Mi (.pair .str (.pair (.slice .str) jk))),(.pair Mi aft),qR⟩
theorem LL:Holds Tryz.prog bp 25 Cr:=ax (cT:=[(18,uZ),(21,B3),(23,yd),(69,FI),(71,ye),(74,FJ),(78,D2),(79,FK),(80,KQ),(81,IF)]) (bA:=[]) (inv:=[]) ((ai Ab (ai IC (ai D0 (ai Qx (ai D1 (ai Qy (ai OS (ai Qz (ai Wx (ai TI az))))))))))) (aq) (aA) (fn:=Tryz.f25) rfl (by kernel_rfl) (fun x=>by kernel_rfl)
noncomputable def gx:dA:=⟨afu,afu,ue⟩
theorem lM:Holds Tryz.prog bp 84 gx:=by
 refine vm (P:=Tryz.prog) (cx:=Qe [] []) (bf:=[5]) (e:=Ak) (tid:=22) (fn:=Tryz.f84) (s0:=fun l=>(v8 (fun _=>none) [.data (.slice Ak) l]).put 2 (.data (.slice Ak) ([]:List (Ak:Ty).den))) mix (OC [] []) (mF az aq Gw aA) Tryz.func84 (by kernel_rfl)
  (by rfl) rfl (by decide) (by decide) rfl rfl rfl rfl rfl rfl (fun l=>by rfl) (fun l=>rfl) (fun l=>rfl) (fun l=>rfl) (fun l=>by rfl) (fun l hl=>?_)
 have key:∀m:List (Ak:Ty).den,fits (len m)=true→aj (fits (plus (len ([]:List (Ak:Ty).den)) (len m))) (some ((app [] m,()):(Ty.pair (.slice Ak) .unit).den)) none=some (m,()):=by
  intro m hm;have e:plus (len ([]:List (Ak:Ty).den)) (len m)=len m:=by simp[plus,len]
  rw[e,hm];rfl
 exact yB (b:=aj (fits (plus (len ([]:List (Ak:Ty).den)) (len (α:=(Ak:Ty).den) l))) (some ((app (α:=(Ak:Ty).den) [] l,()):(Ty.pair (.slice Ak) .unit).den)) none) (by rfl) (key l hl)
noncomputable def KR:dA:=⟨(.pair Mi (.pair Ak .unit)),LJ,zh⟩
theorem Wy:Holds Tryz.prog bp 26 KR:=ax (cT:=[(39,bW),(40,dV),(84,gx)]) (bA:=[]) (inv:=[]) ((ai b8 (ai fS (ai lM az)))) (aq) (aA) (fn:=Tryz.f26) rfl (by kernel_rfl) (fun x=>by kernel_rfl)
noncomputable def yf:dA:=⟨(.pair Mi (.pair .str (.pair (.slice .str) jk))),(.pair Mi aft),gL⟩
theorem D3:Holds Tryz.prog bp 7 yf:=ax (cT:=[(18,uZ),(19,Ac),(20,FG),(21,B3),(22,Ae),(23,yd),(24,IE),(25,Cr),(26,KR)]) (bA:=[]) (inv:=[]) ((ai Ab (ai FF (ai Qw (ai IC (ai FH (ai D0 (ai TH (ai LL (ai Wy az)))))))))) (aq) (aA) (fn:=Tryz.f7) rfl (by kernel_rfl) (fun x=>by kernel_rfl)
noncomputable def B6:dA:=⟨(.pair Mi gX),jk,s7⟩
theorem IG:Holds Tryz.prog bp 10 B6:=ax (cT:=[(22,Ae),(36,u5)]) (bA:=[]) (inv:=[]) ((ai FH (ai Ad az))) (aq) (aA) (fn:=Tryz.f10) rfl (by kernel_rfl) (fun x=>by kernel_rfl)
noncomputable def zn:dA:=⟨(.pair Mi gX),(.pair Ak ug),oS⟩
theorem D4:Holds Tryz.prog bp 11 zn:=ax (cT:=[(39,bW),(40,dV)]) (bA:=[]) (inv:=[]) ((ai b8 (ai fS az))) (aq) (aA) (fn:=Tryz.f11) rfl (by kernel_rfl) (fun x=>by kernel_rfl)
noncomputable def Ct:dA:=⟨(.pair jk .unit),gX,vS⟩
theorem LM:Holds Tryz.prog bp 88 Ct:=ax (cT:=[]) (bA:=[]) (inv:=[]) (az) (aq) (aA) (fn:=Tryz.f88) rfl (by kernel_rfl) (fun x=>by kernel_rfl)
noncomputable def D5:dA:=⟨(.pair Mi gX),BO,oT⟩
theorem OT:Holds Tryz.prog bp 28 D5:=ax (cT:=[(88,Ct)]) (bA:=[]) (inv:=[]) ((ai LM az)) (aq) (aA) (fn:=Tryz.f28) rfl (by kernel_rfl) (fun x=>by kernel_rfl)
noncomputable def II:dA:=⟨(.pair Mi gX),ug,td⟩
theorem TJ:Holds Tryz.prog bp 29 II:=ax (cT:=[]) (bA:=[]) (inv:=[]) (az) (aq) (aA) (fn:=Tryz.f29) rfl (by kernel_rfl) (fun x=>by kernel_rfl)
noncomputable def Cu:dA:=⟨(.pair wm .unit),gX,vU⟩
theorem LN:Holds Tryz.prog bp 96 Cu:=ax (cT:=[]) (bA:=[]) (inv:=[]) (az) (aq) (aA) (fn:=Tryz.f96) rfl (by kernel_rfl) (fun x=>by kernel_rfl)
noncomputable def tC:dA:=⟨(.pair (.slice .str) BO),CB,mw⟩
theorem B7:Holds Tryz.prog bp 97 tC:=ax (cT:=[(39,bW)]) (bA:=[]) (inv:=[]) ((ai b8 az)) (aq) (aA) (fn:=Tryz.f97) rfl (by kernel_rfl) (fun x=>by kernel_rfl)
noncomputable def pY:dA:=⟨(.pair (.slice wm) BO),Tr,jF⟩
theorem yA:Holds Tryz.prog bp 99 pY:=ax (cT:=[(144,ff)]) (bA:=[]) (inv:=[]) ((ai jl az)) (aq) (aA) (fn:=Tryz.f99) rfl (by kernel_rfl) (fun x=>by kernel_rfl)
noncomputable def fh:dA:=⟨ab6,ab6,ry⟩
theorem jm:Holds Tryz.prog bp 146 fh:=by
 refine vm (P:=Tryz.prog) (cx:=Qe [] []) (bf:=[5]) (e:=jk) (tid:=26) (fn:=Tryz.f146) (s0:=fun l=>(v8 (fun _=>none) [.data (.slice jk) l]).put 2 (.data (.slice jk) ([]:List (jk:Ty).den))) mix (OC [] []) (mF az aq Gw aA) Tryz.func146 (by kernel_rfl)
  (by rfl) rfl (by decide) (by decide) rfl rfl rfl rfl rfl rfl (fun l=>by rfl) (fun l=>rfl) (fun l=>rfl) (fun l=>rfl) (fun l=>by rfl) (fun l hl=>?_)
 have key:∀m:List (jk:Ty).den,fits (len m)=true→aj (fits (plus (len ([]:List (jk:Ty).den)) (len m))) (some ((app [] m,()):(Ty.pair (.slice jk) .unit).den)) none=some (m,()):=by
  intro m hm;have e:plus (len ([]:List (jk:Ty).den)) (len m)=len m:=by simp[plus,len]
  rw[e,hm];rfl
 exact yB (b:=aj (fits (plus (len ([]:List (jk:Ty).den)) (len (α:=(jk:Ty).den) l))) (some ((app (α:=(jk:Ty).den) [] l,()):(Ty.pair (.slice jk) .unit).den)) none) (by rfl) (key l hl)
noncomputable def tD:dA:=⟨(.pair (.slice jk) (.pair (.int .i64) (.pair jk .unit))),ab6,BN⟩
theorem B8:Holds Tryz.prog bp 149 tD:=ax (cT:=[(146,fh)]) (bA:=[]) (inv:=[]) ((ai jm az)) (aq) (aA) (fn:=Tryz.f149) rfl (by kernel_rfl) (fun x=>by kernel_rfl)
noncomputable def Cv:dA:=⟨(.pair Mi gX),LJ,jL⟩
theorem LP:Holds Tryz.prog bp 30 Cv:=ax (cT:=[(96,Cu),(97,tC),(98,Ag),(99,pY),(146,fh),(149,tD)]) (bA:=[]) (inv:=[]) ((ai LN (ai B7 (ai FL (ai yA (ai jm (ai B8 az))))))) (aq) (aA) (fn:=Tryz.f30) rfl (by kernel_rfl) (fun x=>by kernel_rfl)
noncomputable def yg:dA:=⟨(.pair Mi gX),(.pair Mi aft),fR⟩
theorem D6:Holds Tryz.prog bp 8 yg:=ax (cT:=[(10,B6),(11,zn),(19,Ac),(28,D5),(29,II),(30,Cv),(84,gx)]) (bA:=[]) (inv:=[]) ((ai IG (ai D4 (ai FF (ai OT (ai TJ (ai LP (ai lM az)))))))) (aq) (aA) (fn:=Tryz.f8) rfl (by kernel_rfl) (fun x=>by kernel_rfl)
noncomputable def kf:dA:=⟨(.pair (.slice .str) CB),ug,eM⟩
theorem nT:Holds Tryz.prog bp 34 kf:=ax (cT:=[]) (bA:=[]) (inv:=[]) (az) (aq) (aA) (fn:=Tryz.f34) rfl (by kernel_rfl) (fun x=>by kernel_rfl)
noncomputable def tE:dA:=⟨(.pair (.slice IP) afv),ug,gT⟩
theorem zo:Holds Tryz.prog bp 101 tE:=ax (cT:=[]) (bA:=[]) (inv:=[]) (az) (aq) (aA) (fn:=Tryz.f101) rfl (by kernel_rfl) (fun x=>by kernel_rfl)
noncomputable def zp:dA:=⟨(.pair (.slice Ak) afu),ug,nN⟩
theorem IJ:Holds Tryz.prog bp 31 zp:=ax (cT:=[(34,kf),(101,tE)]) (bA:=[]) (inv:=[]) ((ai nT (ai zo az))) (aq) (aA) (fn:=Tryz.f31) rfl (by kernel_rfl) (fun x=>by kernel_rfl)
noncomputable def yh:dA:=⟨(.pair (.slice YH7) (.pair (.slice YH7) .unit)),ug,mh⟩
theorem GA:Holds Tryz.prog bp 32 yh:=ax (cT:=[(34,kf),(101,tE)]) (bA:=[]) (inv:=[]) ((ai nT (ai zo az))) (aq) (aA) (fn:=Tryz.f32) rfl (by kernel_rfl) (fun x=>by kernel_rfl)
noncomputable def yj:dA:=⟨(.pair (.slice wm) Tr),ug,mj⟩
theorem GB:Holds Tryz.prog bp 33 yj:=ax (cT:=[(34,kf)]) (bA:=[]) (inv:=[]) ((ai nT az)) (aq) (aA) (fn:=Tryz.f33) rfl (by kernel_rfl) (fun x=>by kernel_rfl)
noncomputable def yl:dA:=⟨(.pair (.slice jk) ab6),ug,mq⟩
theorem GC:Holds Tryz.prog bp 35 yl:=ax (cT:=[]) (bA:=[]) (inv:=[]) (az) (aq) (aA) (fn:=Tryz.f35) rfl (by kernel_rfl) (fun x=>by kernel_rfl)
noncomputable def B9:dA:=⟨(.pair Mi LJ),ug,fP⟩
theorem IK:Holds Tryz.prog bp 9 B9:=ax (cT:=[(31,zp),(32,yh),(33,yj),(34,kf),(35,yl)]) (bA:=[]) (inv:=[]) ((ai IJ (ai GA (ai GB (ai nT (ai GC az)))))) (aq) (aA) (fn:=Tryz.f9) rfl (by kernel_rfl) (fun x=>by kernel_rfl)
noncomputable def FM:dA:=⟨(.pair Mi jk),LJ,uW⟩
theorem QA:Holds Tryz.prog bp 17 FM:=ax (cT:=[]) (bA:=[]) (inv:=[]) (az) (aq) (aA) (fn:=Tryz.f17) rfl (by kernel_rfl) (fun x=>by kernel_rfl)
noncomputable def FN:dA:=⟨.unit,ug,kH⟩
theorem QB:Holds Tryz.prog bp 6 FN:=ax (cT:=[(5,DX),(7,yf),(8,yg),(9,B9),(11,zn),(17,FM)]) (bA:=[]) (inv:=[]) ((ai KO (ai D3 (ai D6 (ai IK (ai D4 (ai QA az))))))) (aq) (aA) (fn:=Tryz.f6) rfl (by kernel_rfl) (fun x=>by kernel_rfl)
noncomputable def GD:dA:=⟨(.pair Mi (.pair (.arr 2 .str) BO)),ug,mB⟩
theorem GF:Holds Tryz.prog bp 3 GD:=ax (cT:=[(4,KE),(5,DX),(6,FN),(7,yf),(8,yg),(9,B9),(10,B6),(11,zn)]) (bA:=[]) (inv:=[]) ((ai Wo (ai KO (ai QB (ai D3 (ai D6 (ai IK (ai IG (ai D4 az))))))))) (aq) (aA) (fn:=Tryz.f3) rfl (by kernel_rfl) (fun x=>by kernel_rfl)
end Go.Proofs.YtefacgohfjccgaaGreatDoor
