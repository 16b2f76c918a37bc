/- The layer's functions keep their contracts: each comes to its plain definition, by the ghost interpreter. -/
import Derived.Test.YtdpbdiikloedbaaGreatDoorRows
import Derived.Test.YtdpbdiikloedbaaGreatDoorPlE
import Derived.Test.YtdpbdiikloedbaaGreatDoorFirst
import Derived.Test.YtdpbdiikloedbaaGreatDoorBld
import Derived.Test.YtdpbdiikloedbaaGreatDoorShelf
set_option linter.unusedVariables false
set_option linter.unusedSectionVars false
set_option linter.unusedSimpArgs false
namespace Go.Proofs.YtdpbdiikloedbaaGreatDoor
open Go Go.Ge
set_option maxRecDepth 100000
variable [Lp]
open First
abbrev EB:Ty:=(.pair (.slice (.pair .str (.pair (.slice .str) (.pair .str (.pair .str (.pair .str (.pair (.slice (.pair .str (.pair .str (.pair .str .unit)))) .unit))))))) (.pair (.slice (.pair .str (.pair (.slice .str) (.pair .str (.pair .str (.pair (.slice (.pair .str (.pair .str (.pair .str .unit)))) .unit)))))) (.pair (.slice (.pair .str (.pair .str (.pair (.slice .str) (.pair .str (.pair (.int .i64) (.pair (.int .i64) (.pair .bool .unit)))))))) (.pair (.slice .str) (.pair (.slice (.pair .str (.pair (.int .i64) .unit))) .unit)))))
abbrev A2:Ty:=(.pair .str (.pair (.int .i64) (.pair (.int .i64) (.pair .str (.pair .str .unit)))))
abbrev tw:Ty:=(.pair .str (.pair .str (.pair (.slice .str) (.pair .str (.pair (.int .i64) (.pair (.int .i64) (.pair .bool .unit)))))))
abbrev eZ:Ty:=(.pair .str .unit)
abbrev vK:Ty:=(.pair (.int .i64) .unit)
abbrev YP:Ty:=(.pair .str (.pair (.int .i64) (.pair (.int .i64) (.pair (.int .i64) (.pair (.int .i64) (.pair (.int .i64) (.pair (.int .i64) eZ)))))))
abbrev YH6:Ty:=(.pair .str (.pair .str (.pair (.slice (.pair .str (.pair .str eZ))) .unit)))
abbrev oZ:Ty:=(.pair .bool .unit)
abbrev Oy:Ty:=(.pair (.slice .str) .unit)
abbrev tC:Ty:=(.pair .str vK)
abbrev sL:Ty:=(.pair (.slice A2) .unit)
abbrev TV:Ty:=(.alt 260 eZ (.alt 262 eZ (.alt 264 .unit (.alt 266 (.pair A2 .unit) .AU))))
abbrev Q9:Ty:=(.pair (.pair (.int .i64) (.pair .str (.pair (.int .i64) eZ))) .unit)
abbrev adh:Ty:=(.pair (.int .i64) (.pair (.slice tw) (.pair (.slice (.pair .str (.pair (.slice .str) YH6))) (.pair (.slice (.pair .str (.pair (.slice .str) (.pair .str YH6)))) .unit))))
abbrev B1:Ty:=(.pair (.slice A2) vK)
abbrev Iq:Ty:=(.slice (.pair .str Oy))
abbrev YD:Ty:=(.pair (.arr 8 (.int .u32)) .unit)
abbrev M3:Ty:=(.pair (.slice A2) eZ)
abbrev adi:Ty:=(.pair .bool (.pair .str (.pair (.int .i64) (.pair .bool oZ))))
abbrev Gl:Ty:=(.pair .str eZ)
abbrev TW:Ty:=(.pair (.slice tw) .unit)
abbrev Ra:Ty:=(.pair (.int .i64) vK)
abbrev adj:Ty:=(.pair .str (.pair (.slice .str) (.pair .str YH6)))
abbrev TX:Ty:=(.slice (.pair YP eZ))
abbrev YE:Ty:=(.pair (.slice tC) .unit)
abbrev aeN:Ty:=(.pair (.pair .bool YD) (.pair (.arr 64 (.int .u8)) vK))
abbrev Rb:Ty:=(.pair EB .unit)
abbrev adk:Ty:=(.pair .str (.pair (.slice .str) YH6))
abbrev YF:Ty:=(.pair (.int .u8) .unit)
noncomputable def dV:Nat→vZ
 | 3=>⟨[none],[]⟩
 | 5=>⟨[some ⟨[(2,4),(3,3)],[],false⟩,none,none],[]⟩
 | 6=>⟨[some ⟨[(2,4),(3,3)],[],false⟩,none,none],[]⟩
 | 7=>⟨[],[]⟩
 | 8=>⟨[none,some ⟨[],[8],false⟩],[36]⟩
 | 9=>⟨[none,none,some ⟨[(13,9)],[10,11],false⟩,none,none,none,some ⟨[(19,47)],[10,11],false⟩,none,some ⟨[(19,47)],[10,11],false⟩,none,some ⟨[(3,9)],[10,11],false⟩,none],[]⟩
 | 10=>⟨[],[]⟩
 | 12=>⟨[none,none],[]⟩
 | 13=>⟨[],[]⟩
 | 14=>⟨[],[]⟩
 | 16=>⟨[none,some ⟨[(8,25),(9,3)],[8],false⟩,none],[8]⟩
 | 17=>⟨[none,none],[]⟩
 | 19=>⟨[some ⟨[(2,4),(3,3)],[],false⟩,none,none,some ⟨[(2,4),(4,3)],[],false⟩,none,none,some ⟨[(2,4),(5,3)],[],false⟩,none,none],[]⟩
 | 20=>⟨[some ⟨[(2,4),(3,3)],[],false⟩,none,none],[]⟩
 | 21=>⟨[],[]⟩
 | 22=>⟨[none],[]⟩
 | 23=>⟨[],[]⟩
 | 24=>⟨[],[]⟩
 | 25=>⟨[some ⟨[],[6000008],false⟩,none,none],[5000000,7000032]⟩
 | 26=>⟨[],[]⟩
 | 27=>⟨[none],[7]⟩
 | 28=>⟨[none],[7000032]⟩
 | 29=>⟨[none],[]⟩
 | 30=>⟨[some ⟨[(3,32)],[2],false⟩],[]⟩
 | 31=>⟨[],[]⟩
 | 32=>⟨[none,some ⟨[(6,32),(21,3)],[5],false⟩,none,none],[]⟩
 | 33=>⟨[],[]⟩
 | 34=>⟨[],[]⟩
 | 35=>⟨[none,some ⟨[(4,9),(5,32),(17,3),(0,999999)],[0],false⟩,none,none],[]⟩
 | 36=>⟨[none],[7000032]⟩
 | 37=>⟨[some ⟨[(4,24),(5,32),(6,24),(7,9)],[6],false⟩,some ⟨[(4,24),(5,32),(6,24),(7,9),(13,3)],[6],false⟩,none,none,none,none],[6]⟩
 | 38=>⟨[none,some ⟨[(4,32)],[],false⟩],[7000032]⟩
 | 39=>⟨[none],[]⟩
 | 40=>⟨[none],[]⟩
 | 41=>⟨[],[]⟩
 | 42=>⟨[],[]⟩
 | 43=>⟨[some ⟨[(7,3)],[],false⟩],[]⟩
 | 44=>⟨[none],[]⟩
 | 45=>⟨[],[]⟩
 | 46=>⟨[none],[]⟩
 | 47=>⟨[],[]⟩
 | 48=>⟨[none,some ⟨[(6,32),(9,3)],[],false⟩,none,some ⟨[(6,32),(10,3)],[],false⟩,none,none],[]⟩
 | 49=>⟨[],[]⟩
 | 50=>⟨[none,some ⟨[(4,9),(5,32),(7,3)],[],false⟩,none,some ⟨[(9,4),(10,3)],[],false⟩,none,none],[]⟩
 | 51=>⟨[some ⟨[(1,9),(4,24),(5,32),(6,24),(7,3)],[6],true⟩,none,none,none,none],[6]⟩
 | 52=>⟨[some ⟨[(7,24),(8,25),(9,4),(10,3)],[7,8],false⟩,none,some ⟨[(7,24),(8,25),(9,4)],[7,8],false⟩,some ⟨[(7,24),(8,25)],[7,8],false⟩],[7,8]⟩
 | 53=>⟨[],[]⟩
 | 54=>⟨[none,some ⟨[(4,4),(5,3)],[],false⟩,none,none],[]⟩
 | 55=>⟨[none,some ⟨[(4,4),(5,3)],[],false⟩,none,none],[]⟩
 | 56=>⟨[none,some ⟨[(4,4),(5,3)],[],false⟩,none,none],[]⟩
 | 57=>⟨[none,some ⟨[(4,4),(5,3)],[],false⟩,none,none],[]⟩
 | 58=>⟨[none,some ⟨[(4,4),(5,3)],[],false⟩,none,none],[]⟩
 | 61=>⟨[some ⟨[(4,3),(5,3)],[],false⟩,none,none],[]⟩
 | 62=>⟨[],[]⟩
 | 63=>⟨[none],[]⟩
 | 64=>⟨[],[]⟩
 | 65=>⟨[none,none,none],[]⟩
 | 66=>⟨[none,none,some ⟨[(7,25),(27,3)],[7],false⟩,none,some ⟨[(7,25)],[7],false⟩,none,none],[7]⟩
 | 67=>⟨[none],[]⟩
 | 68=>⟨[some ⟨[(2,47),(3,32),(4,47),(5,3)],[],false⟩,none,none],[]⟩
 | 69=>⟨[none,some ⟨[(2,4),(3,3)],[],false⟩,none,none],[]⟩
 | 70=>⟨[none],[]⟩
 | 71=>⟨[none,none,some ⟨[(0,47),(6,3)],[],false⟩,none,some ⟨[(0,47)],[],false⟩,some ⟨[(0,47)],[],false⟩,some ⟨[(0,47),(4,47),(5,32),(10,3)],[],false⟩,none,none,none,none],[]⟩
 | 72=>⟨[some ⟨[(2,4),(3,3)],[],false⟩,none,none],[]⟩
 | 73=>⟨[some ⟨[(2,4),(3,3)],[],false⟩,none,none],[]⟩
 | 74=>⟨[none],[]⟩
 | 76=>⟨[none],[5]⟩
 | 79=>⟨[],[]⟩
 | 80=>⟨[],[]⟩
 | 81=>⟨[],[]⟩
 | 82=>⟨[some ⟨[(5,93),(6,0),(7,4)],[4,5,6],false⟩,none,none],[5,6]⟩
 | 83=>⟨[some ⟨[(2,107),(3,4),(4,107),(11,3)],[4],false⟩,none,none],[4]⟩
 | 84=>⟨[],[]⟩
 | 85=>⟨[],[]⟩
 | 86=>⟨[],[]⟩
 | 87=>⟨[some ⟨[],[5,6],false⟩,some ⟨[(20,3)],[5,6],false⟩,none,some ⟨[],[5,6],false⟩,some ⟨[(36,3)],[5,6],false⟩,none,some ⟨[],[5,6],false⟩,some ⟨[(52,3)],[5,6],false⟩,none,some ⟨[],[5,6,12],false⟩],[5]⟩
 | 88=>⟨[],[]⟩
 | 89=>⟨[],[]⟩
 | 90=>⟨[],[]⟩
 | 91=>⟨[none,some ⟨[(8,25),(28,3)],[8],false⟩,none],[8]⟩
 | 92=>⟨[none,some ⟨[(2,32),(12,3)],[],false⟩,none,none],[]⟩
 | 93=>⟨[none,none,some ⟨[(8,22),(30,3),(6,999999),(28,999999)],[6,8,28,2000008],false⟩,none,some ⟨[(4,22),(5,27),(8,22),(40,3),(38,999999)],[8,38],false⟩,none,none],[25]⟩
 | 94=>⟨[],[]⟩
 | 95=>⟨[some ⟨[(9,3)],[3],false⟩,none],[]⟩
 | 96=>⟨[some ⟨[(4,3),(8,3)],[1],false⟩,none,none],[7000003]⟩
 | 97=>⟨[],[]⟩
 | 98=>⟨[],[8]⟩
 | 99=>⟨[],[]⟩
 | 100=>⟨[],[8]⟩
 | 101=>⟨[some ⟨[(2,4),(3,3)],[],false⟩,none,none,some ⟨[(2,4),(4,3)],[],false⟩,none,none],[]⟩
 | 102=>⟨[some ⟨[(2,4),(3,3)],[],false⟩,none,none],[]⟩
 | 103=>⟨[some ⟨[(4,9),(5,32),(6,3)],[],false⟩,none,none,some ⟨[(4,9),(5,32),(7,3)],[],false⟩,none,some ⟨[(4,9),(5,32),(8,3)],[],false⟩,none,none,some ⟨[(9,3),(10,9),(11,3)],[],false⟩,none,some ⟨[(9,3),(10,9)],[],false⟩,none,none],[]⟩
 | 104=>⟨[some ⟨[(4,3),(5,3)],[],false⟩,none,none],[]⟩
 | 105=>⟨[some ⟨[(4,4),(5,3)],[],false⟩,none,none],[]⟩
 | 106=>⟨[some ⟨[(5,64)],[5],false⟩,some ⟨[(5,64),(6,3)],[5],false⟩,none,some ⟨[(5,64)],[5],false⟩,some ⟨[(5,64),(7,3)],[5],false⟩,none,some ⟨[(5,64)],[5],false⟩,some ⟨[(5,64),(8,3)],[5],false⟩,none,some ⟨[(5,64)],[5],false⟩],[5]⟩
 | 107=>⟨[some ⟨[(0,3),(3,9),(4,3)],[],false⟩,none],[]⟩
 | 108=>⟨[some ⟨[(4,3),(5,3)],[],false⟩,none,none],[]⟩
 | 109=>⟨[some ⟨[(5,3)],[3],false⟩,none,some ⟨[(7,3)],[6],false⟩,none],[]⟩
 | 110=>⟨[some ⟨[(3,100),(4,3)],[3],false⟩,none],[3]⟩
 | 111=>⟨[none,some ⟨[(4,4),(5,3)],[],false⟩,none,none],[]⟩
 | 117=>⟨[],[]⟩
 | 118=>⟨[],[]⟩
 | 119=>⟨[],[]⟩
 | 120=>⟨[],[]⟩
 | 121=>⟨[],[]⟩
 | 122=>⟨[],[]⟩
 | 123=>⟨[],[]⟩
 | 124=>⟨[],[]⟩
 | 125=>⟨[],[]⟩
 | 126=>⟨[],[]⟩
 | 127=>⟨[none],[9]⟩
 | 128=>⟨[none],[9]⟩
 | 129=>⟨[some ⟨[(7,26)],[4,7,2000007],false⟩,some ⟨[(8,3)],[],false⟩],[11]⟩
 | 130=>⟨[some ⟨[(4,3),(8,3)],[1],false⟩,none,none],[]⟩
 | 131=>⟨[],[]⟩
 | 132=>⟨[],[]⟩
 | 133=>⟨[none],[]⟩
 | 134=>⟨[none,none,none],[]⟩
 | 135=>⟨[],[]⟩
 | 136=>⟨[some ⟨[(4,3),(7,3)],[],false⟩,none,none,none,none,none],[]⟩
 | 137=>⟨[none,some ⟨[(0,9),(2,93),(3,4),(4,93)],[4],true⟩,none,none,none],[4]⟩
 | 138=>⟨[none,none,none,none],[]⟩
 | 139=>⟨[none],[]⟩
 | 140=>⟨[none],[]⟩
 | 141=>⟨[some ⟨[(0,47),(4,47),(5,32),(7,9),(8,3)],[],false⟩,none,none,none],[]⟩
 | 142=>⟨[none,none,none,some ⟨[(8,22),(0,999999)],[0],true⟩,some ⟨[(8,22),(0,999999)],[0],true⟩,none,some ⟨[(12,3)],[],false⟩,none],[10,11]⟩
 | 143=>⟨[],[]⟩
 | 151=>⟨[some ⟨[(4,3),(8,3)],[1],false⟩,none,none],[]⟩
 | 152=>⟨[none,none,none],[]⟩
 | 153=>⟨[],[]⟩
 | 154=>⟨[none,none,none,none],[]⟩
 | 155=>⟨[],[]⟩
 | 156=>⟨[none,none,none,none,none],[]⟩
 | 157=>⟨[],[]⟩
 | 158=>⟨[some ⟨[(4,3),(8,3)],[],false⟩,none,none],[]⟩
 | 159=>⟨[],[]⟩
 | 160=>⟨[],[]⟩
 | 161=>⟨[some ⟨[(2,3),(3,3),(0,999999)],[0],false⟩,none],[]⟩
 | 162=>⟨[some ⟨[(2,47),(3,32),(4,47),(11,3)],[],false⟩,none,none],[]⟩
 | 163=>⟨[none],[]⟩
 | 164=>⟨[none,none,none,none],[]⟩
 | 165=>⟨[],[]⟩
 | 166=>⟨[none,none,none],[]⟩
 | 167=>⟨[none,some ⟨[(1,9)],[0],false⟩,none,some ⟨[],[0],false⟩],[]⟩
 | 168=>⟨[some ⟨[],[3],false⟩,some ⟨[],[3],false⟩,none,some ⟨[(26,3)],[5],false⟩,none,some ⟨[(41,3)],[7],false⟩,none],[]⟩
 | 169=>⟨[],[]⟩
 | 172=>⟨[none],[5]⟩
 | 173=>⟨[some ⟨[(2,4),(3,3)],[],false⟩,none,none],[]⟩
 | 174=>⟨[],[]⟩
 | 175=>⟨[],[]⟩
 | 176=>⟨[some ⟨[(3,100)],[0,3],false⟩,none,some ⟨[(3,100),(5,3)],[3],false⟩,none],[]⟩
 | 177=>⟨[some ⟨[(6,3)],[5],false⟩,none,some ⟨[(7,3)],[5],false⟩,none,some ⟨[(12,3)],[11],false⟩,none,some ⟨[(17,3)],[11],false⟩,none],[]⟩
 | 178=>⟨[none],[]⟩
 | 182=>⟨[some ⟨[(4,3),(8,3)],[1],false⟩,none,none],[]⟩
 | 183=>⟨[some ⟨[(4,3),(8,3)],[1],false⟩,none,none],[]⟩
 | 184=>⟨[some ⟨[(4,3),(8,3)],[1],false⟩,none,none],[]⟩
 | 185=>⟨[],[]⟩
 | 186=>⟨[],[]⟩
 | 189=>⟨[none,some ⟨[(5,3),(6,3),(0,999999)],[0,1],false⟩,none,some ⟨[(5,3),(0,999999)],[0],false⟩],[]⟩
 | 190=>⟨[none],[5]⟩
 | 191=>⟨[],[]⟩
 | 192=>⟨[],[]⟩
 | 193=>⟨[],[8]⟩
 | 194=>⟨[],[]⟩
 | 195=>⟨[none,some ⟨[(3,25),(4,9),(5,3)],[3],false⟩,none,some ⟨[(3,25),(4,9)],[3],false⟩],[3]⟩
 | 196=>⟨[some ⟨[(3,9),(4,3)],[],false⟩,none,some ⟨[(3,9)],[],false⟩],[]⟩
 | 197=>⟨[none,none,none],[]⟩
 | 198=>⟨[some ⟨[(2,4),(4,3)],[],false⟩,none,none],[]⟩
 | 199=>⟨[some ⟨[(2,4),(3,3)],[],false⟩,none,none],[]⟩
 | 200=>⟨[some ⟨[(4,3),(5,3)],[],false⟩,none,none],[]⟩
 | 201=>⟨[some ⟨[(2,4),(3,3)],[],false⟩,none,none],[]⟩
 | 202=>⟨[none,some ⟨[(2,4),(3,3)],[],false⟩,none,none],[]⟩
 | 203=>⟨[none,some ⟨[],[11],false⟩,some ⟨[(74,4)],[],false⟩,some ⟨[],[11],false⟩,some ⟨[],[11],false⟩,some ⟨[],[11],false⟩,none],[]⟩
 | 204=>⟨[some ⟨[(0,3)],[],false⟩,none],[]⟩
 | 205=>⟨[some ⟨[(5,25),(6,3)],[5],false⟩,none,some ⟨[(5,25)],[5],false⟩,none],[5]⟩
 | 206=>⟨[none,none],[]⟩
 | 207=>⟨[some ⟨[(2,4),(4,9),(5,3)],[],false⟩,none,none],[]⟩
 | 208=>⟨[some ⟨[(7,47),(8,3)],[7],false⟩,none,some ⟨[(7,47)],[7],false⟩],[7]⟩
 | 209=>⟨[none],[]⟩
 | 225=>⟨[some ⟨[(0,9)],[],false⟩,none],[]⟩
 | 226=>⟨[some ⟨[(0,9)],[],false⟩,none],[]⟩
 | 227=>⟨[some ⟨[(3,4),(4,3)],[2],false⟩,none,none],[]⟩
 | 228=>⟨[some ⟨[(0,9)],[1],false⟩,none,none],[]⟩
 | 229=>⟨[some ⟨[(0,9)],[1],false⟩,none,none],[]⟩
 | 232=>⟨[],[]⟩
 | 233=>⟨[],[]⟩
 | 234=>⟨[none,some ⟨[(4,9)],[],false⟩,some ⟨[(71,4)],[],false⟩,some ⟨[],[10],false⟩,some ⟨[],[10],false⟩,some ⟨[],[10],false⟩,none],[]⟩
 | 235=>⟨[],[]⟩
 | 236=>⟨[some ⟨[(2,9),(3,32),(4,25),(11,3)],[4],false⟩,none,some ⟨[(2,9),(3,32),(4,25)],[4],false⟩,none,none],[4]⟩
 | 237=>⟨[none,none,none],[]⟩
 | 238=>⟨[none],[]⟩
 | 239=>⟨[],[]⟩
 | 240=>⟨[some ⟨[(3,47),(6,9),(18,3)],[3],false⟩,none],[3]⟩
 | 241=>⟨[none,none,none,none,none],[]⟩
 | 242=>⟨[],[]⟩
 | 243=>⟨[],[]⟩
 | 244=>⟨[some ⟨[(6,3),(13,3)],[2],false⟩,none,none,none,none],[]⟩
 | 245=>⟨[none],[]⟩
 | 246=>⟨[none,none,none,none,none],[]⟩
 | 247=>⟨[],[]⟩
 | 248=>⟨[some ⟨[],[0],false⟩,some ⟨[(6,196),(7,196),(8,196),(9,196),(10,196),(11,196),(12,196),(13,196),(74,3)],[],false⟩,none,some ⟨[(143,3)],[0],false⟩,none],[]⟩
 | 253=>⟨[],[]⟩
 | 254=>⟨[],[]⟩
 | 257=>⟨[],[]⟩
 | 258=>⟨[some ⟨[(2,4),(3,3)],[],false⟩,none,none],[]⟩
 | 259=>⟨[some ⟨[(3,3)],[],false⟩,none,none,some ⟨[(2,3),(4,3)],[],false⟩,none,none,none],[]⟩
 | 260=>⟨[some ⟨[(3,3),(4,3)],[],false⟩,none,some ⟨[(3,3)],[],false⟩],[]⟩
 | 261=>⟨[some ⟨[(2,9),(3,4),(4,3)],[],false⟩,none,none,some ⟨[(2,9),(3,4),(5,3)],[],false⟩,none,none],[]⟩
 | 262=>⟨[some ⟨[(5,4)],[],false⟩],[]⟩
 | 263=>⟨[none,some ⟨[(4,4),(7,3)],[],false⟩,none,none],[]⟩
 | 271=>⟨[],[]⟩
 | 272=>⟨[],[]⟩
 | 276=>⟨[],[]⟩
 | 277=>⟨[none],[]⟩
 | 278=>⟨[some ⟨[(4,3),(12,3)],[],false⟩,none,some ⟨[(6,5)],[],false⟩],[]⟩
 | 279=>⟨[],[]⟩
 | 280=>⟨[none,none,none,none],[]⟩
 | 281=>⟨[some ⟨[(2,4),(6,3)],[],false⟩,none,none],[]⟩
 | 283=>⟨[],[]⟩
 | 284=>⟨[some ⟨[(4,3),(5,3)],[],false⟩,none,none],[]⟩
 | 285=>⟨[some ⟨[(9,196),(10,3)],[],false⟩,none,none,some ⟨[(4,3),(9,196),(11,3)],[],false⟩,none,none],[]⟩
 | 288=>⟨[some ⟨[(9,3),(10,3)],[1,2],false⟩,none,some ⟨[(9,3),(10,3)],[],false⟩],[]⟩
 | 289=>⟨[],[]⟩
 | 290=>⟨[],[]⟩
 | 291=>⟨[],[]⟩
 | 292=>⟨[some ⟨[(12,3)],[3],false⟩,none,some ⟨[(22,3)],[3],false⟩,none,some ⟨[(7,3)],[3],false⟩,none],[]⟩
 | 293=>⟨[],[]⟩
 | 299=>⟨[none,some ⟨[(2,3),(3,4),(4,3),(5,3)],[],false⟩,none,none],[]⟩
 | 300=>⟨[some ⟨[(4,4),(5,3)],[],false⟩,none,none],[]⟩
 | 301=>⟨[],[]⟩
 | 306=>⟨[],[]⟩
 | 307=>⟨[none,none,none],[]⟩
 | 308=>⟨[none,some ⟨[(2,3),(3,4),(4,3),(18,3)],[],false⟩,none,none],[]⟩
 | 309=>⟨[],[]⟩
 | 310=>⟨[],[]⟩
 | 311=>⟨[none],[]⟩
 | 312=>⟨[some ⟨[(4,196),(5,3)],[],false⟩,none,some ⟨[(6,196),(7,196),(8,3)],[],false⟩,none,some ⟨[(6,196)],[],false⟩],[]⟩
 | 315=>⟨[],[]⟩
 | 346=>⟨[],[]⟩
 | 347=>⟨[],[]⟩
 | 348=>⟨[],[]⟩
 | 349=>⟨[none],[9]⟩
 | 350=>⟨[],[]⟩
 | 351=>⟨[],[]⟩
 | 352=>⟨[none,some ⟨[(5,3),(6,3),(0,999999)],[0,1],false⟩,none,some ⟨[(5,3),(0,999999)],[0],false⟩],[]⟩
 | 353=>⟨[none],[5]⟩
 | 354=>⟨[],[]⟩
 | 355=>⟨[none,some ⟨[(4,4),(13,3)],[],false⟩,none,none],[]⟩
 | 356=>⟨[some ⟨[(4,3),(8,3)],[1],false⟩,none,none],[]⟩
 | 357=>⟨[],[]⟩
 | 358=>⟨[],[]⟩
 | 359=>⟨[],[]⟩
 | 360=>⟨[],[]⟩
 | 361=>⟨[],[]⟩
 | 362=>⟨[],[]⟩
 | 363=>⟨[],[]⟩
 | 364=>⟨[some ⟨[(1,47),(4,47),(5,32),(6,9),(25,3)],[],false⟩,none,none,none],[]⟩
 | 365=>⟨[none,none],[]⟩
 | 366=>⟨[none,none,none,none],[55]⟩
 | _=>⟨[],[]⟩
def qn:List (Nat×List mw):=[(171,[.self,.buf (.int .u8) 5]),(264,[])]
def els:List (Nat×Nat):=[(100,5),(102,61)]
noncomputable def Rz:List (Nat×Xj):=[(148,.str 171 5),(212,.Zt 171),(76,.clone .str),(172,.clone tw),(190,.clone tC),(353,.clone A2),(77,(.own .str .unit false cX)),(78,(.own .str .unit true dF)),(170,(.own .str (.pair (.int .i64) Oy) true dM)),(171,(.own tw (.pair (.int .i64) TW) true cE)),(187,(.own .str Ra true fH)),(188,(.own tw Ra true dS)),(256,(.own tC (.pair (.int .i64) YE) true dU)),(367,(.own A2 (.pair (.int .i64) sL) true aR))]
noncomputable def tys:List (Nat×Ty):=[(3,(.int .i64)),(4,.bool),(5,(.int .u8)),(9,.str),(21,(.int .i32)),(22,(.slice adj)),(23,(.slice adk)),(24,(.slice tw)),(25,(.slice .str)),(26,(.slice tC)),(28,EB),(32,(.int .i64)),(34,(.pair (.int .i64) (.pair .str (.pair (.int .i64) eZ)))),(39,(.arr 2 .str)),(44,tw),(47,(.slice A2)),(55,adh),(64,Iq),(78,(.slice (.pair .str Gl))),(80,adk),(83,adj),(85,tC),(93,TX),(98,A2),(100,(.slice (.int .u8))),(107,(.slice TV)),(112,(.pair .str Oy)),(120,(.arr 32 (.int .u8))),(130,(.arr 4 (.int .i64))),(158,YP),(160,(.pair YP eZ)),(165,(.pair .str Gl)),(166,(.int .u64)),(187,TV),(196,(.int .u32)),(197,(.arr 8 (.int .u32))),(199,(.pair .bool YD)),(200,(.arr 64 (.int .u8))),(202,aeN),(235,(.int .u64)),(240,(.int .i64)),(251,(.arr 256 .bool)),(257,adi),(260,eZ),(262,eZ),(266,(.pair A2 .unit)),(272,(.arr 8 (.int .u8))),(275,(.arr 64 (.int .u32))),(286,(.int .u64)),(313,Ra),(314,(.arr 11 Ra)),(318,(.arr 256 (.int .u8))),(320,(.pair (.int .u8) YF)),(321,(.arr 16 (.pair (.int .u8) YF)))]
noncomputable def Im:List (Nat×Func):=[(3,Tryz.f3),(5,Tryz.f5),(6,Tryz.f6),(7,Tryz.f7),(8,Tryz.f8),(9,Tryz.f9),(10,Tryz.f10),(12,Tryz.f12),(13,Tryz.f13),(14,Tryz.f14),(16,Tryz.f16),(17,Tryz.f17),(19,Tryz.f19),(20,Tryz.f20),(21,Tryz.f21),(22,Tryz.f22),(23,Tryz.f23),(24,Tryz.f24),(25,Tryz.f25),(26,Tryz.f26),(27,Tryz.f27),(28,Tryz.f28),(29,Tryz.f29),(30,Tryz.f30),(31,Tryz.f31),(32,Tryz.f32),(33,Tryz.f33),(34,Tryz.f34),(35,Tryz.f35),(36,Tryz.f36),(37,Tryz.f37),(38,Tryz.f38),(39,Tryz.f39),(40,Tryz.f40),(41,Tryz.f41),(42,Tryz.f42),(43,Tryz.f43),(44,Tryz.f44),(45,Tryz.f45),(46,Tryz.f46),(47,Tryz.f47),(48,Tryz.f48),(49,Tryz.f49),(50,Tryz.f50),(51,Tryz.f51),(52,Tryz.f52),(53,Tryz.f53),(54,Tryz.f54),(55,Tryz.f55),(56,Tryz.f56),(57,Tryz.f57),(58,Tryz.f58),(61,Tryz.f61),(62,Tryz.f62),(63,Tryz.f63),(64,Tryz.f64),(65,Tryz.f65),(66,Tryz.f66),(67,Tryz.f67),(68,Tryz.f68),(69,Tryz.f69),(70,Tryz.f70),(71,Tryz.f71),(72,Tryz.f72),(73,Tryz.f73),(74,Tryz.f74),(76,Tryz.f76),(79,Tryz.f79),(80,Tryz.f80),(81,Tryz.f81),(82,Tryz.f82),(83,Tryz.f83),(84,Tryz.f84),(85,Tryz.f85),(86,Tryz.f86),(87,Tryz.f87),(88,Tryz.f88),(89,Tryz.f89),(90,Tryz.f90),(91,Tryz.f91),(92,Tryz.f92),(93,Tryz.f93),(94,Tryz.f94),(95,Tryz.f95),(96,Tryz.f96),(97,Tryz.f97),(98,Tryz.f98),(99,Tryz.f99),(100,Tryz.f100),(101,Tryz.f101),(102,Tryz.f102),(103,Tryz.f103),(104,Tryz.f104),(105,Tryz.f105),(106,Tryz.f106),(107,Tryz.f107),(108,Tryz.f108),(109,Tryz.f109),(110,Tryz.f110),(111,Tryz.f111),(117,Tryz.f117),(118,Tryz.f118),(119,Tryz.f119),(120,Tryz.f120),(121,Tryz.f121),(122,Tryz.f122),(123,Tryz.f123),(124,Tryz.f124),(125,Tryz.f125),(126,Tryz.f126),(127,Tryz.f127),(128,Tryz.f128),(129,Tryz.f129),(130,Tryz.f130),(131,Tryz.f131),(132,Tryz.f132),(133,Tryz.f133),(134,Tryz.f134),(135,Tryz.f135),(136,Tryz.f136),(137,Tryz.f137),(138,Tryz.f138),(139,Tryz.f139),(140,Tryz.f140),(141,Tryz.f141),(142,Tryz.f142),(143,Tryz.f143),(151,Tryz.f151),(152,Tryz.f152),(153,Tryz.f153),(154,Tryz.f154),(155,Tryz.f155),(156,Tryz.f156),(157,Tryz.f157),(158,Tryz.f158),(159,Tryz.f159),(160,Tryz.f160),(161,Tryz.f161),(162,Tryz.f162),(163,Tryz.f163),(164,Tryz.f164),(165,Tryz.f165),(166,Tryz.f166),(167,Tryz.f167),(168,Tryz.f168),(169,Tryz.f169),(172,Tryz.f172),(173,Tryz.f173),(174,Tryz.f174),(175,Tryz.f175),(176,Tryz.f176),(177,Tryz.f177),(178,Tryz.f178),(182,Tryz.f182),(183,Tryz.f183),(184,Tryz.f184),(185,Tryz.f185),(186,Tryz.f186),(189,Tryz.f189),(190,Tryz.f190),(191,Tryz.f191),(192,Tryz.f192),(193,Tryz.f193),(194,Tryz.f194),(195,Tryz.f195),(196,Tryz.f196),(197,Tryz.f197),(198,Tryz.f198),(199,Tryz.f199),(200,Tryz.f200),(201,Tryz.f201),(202,Tryz.f202),(203,Tryz.f203),(204,Tryz.f204),(205,Tryz.f205),(206,Tryz.f206),(207,Tryz.f207),(208,Tryz.f208),(209,Tryz.f209),(225,Tryz.f225),(226,Tryz.f226),(227,Tryz.f227),(228,Tryz.f228),(229,Tryz.f229),(232,Tryz.f232),(233,Tryz.f233),(234,Tryz.f234),(235,Tryz.f235),(236,Tryz.f236),(237,Tryz.f237),(238,Tryz.f238),(239,Tryz.f239),(240,Tryz.f240),(241,Tryz.f241),(242,Tryz.f242),(243,Tryz.f243),(244,Tryz.f244),(245,Tryz.f245),(246,Tryz.f246),(247,Tryz.f247),(248,Tryz.f248),(253,Tryz.f253),(254,Tryz.f254),(257,Tryz.f257),(258,Tryz.f258),(259,Tryz.f259),(260,Tryz.f260),(261,Tryz.f261),(262,Tryz.f262),(263,Tryz.f263),(271,Tryz.f271),(272,Tryz.f272),(276,Tryz.f276),(277,Tryz.f277),(278,Tryz.f278),(279,Tryz.f279),(280,Tryz.f280),(281,Tryz.f281),(283,Tryz.f283),(284,Tryz.f284),(285,Tryz.f285),(288,Tryz.f288),(289,Tryz.f289),(290,Tryz.f290),(291,Tryz.f291),(292,Tryz.f292),(293,Tryz.f293),(299,Tryz.f299),(300,Tryz.f300),(301,Tryz.f301),(306,Tryz.f306),(307,Tryz.f307),(308,Tryz.f308),(309,Tryz.f309),(310,Tryz.f310),(311,Tryz.f311),(312,Tryz.f312),(315,Tryz.f315),(346,Tryz.f346),(347,Tryz.f347),(348,Tryz.f348),(349,Tryz.f349),(350,Tryz.f350),(351,Tryz.f351),(352,Tryz.f352),(353,Tryz.f353),(354,Tryz.f354),(355,Tryz.f355),(356,Tryz.f356),(357,Tryz.f357),(358,Tryz.f358),(359,Tryz.f359),(360,Tryz.f360),(361,Tryz.f361),(362,Tryz.f362),(363,Tryz.f363),(364,Tryz.f364),(365,Tryz.f365),(366,Tryz.f366)]
def oX:List Nat:=[61,106,117,123,131,132,140,142,150,152,169,182,191,215,238,255,270,290,300,301,308]
def yj:List Nat:=[169,182,238,255,270,290,301,308]
noncomputable def Ey(bF:List (Nat×bO))(aJ:List (Nat×ur))(inv:List (String×bO):=[]):Ctx:=⟨tys,oX,yj,Im,bF,aJ,qn,Rz,els,inv⟩
theorem mix:Tryz.prog.follows .mixedOrders=true:=by kernel_rfl
theorem TU:∀tid t,find tys tid=some t→Den Tryz.prog t tid:=aam (by kernel_rfl)
theorem Gd:∀tid,cC oX tid=true→(∀w,(isAgg tid).run Tryz.prog w=.ok false w)∧(∀w,(Go.sizeOf tid).run Tryz.prog w=.ok 1 w)∧∃z,(∀w,(zeroValue tid).run Tryz.prog w=.ok z w)∧z.oneCell'=true:=WH (by kernel_rfl)
theorem Gf:∀tid,cC yj tid=true→∃e,Tryz.prog.underlying tid=some (.pointer e):=WI (by kernel_rfl)
theorem MU:∀f fn,find Im f=some fn→Tryz.prog.funcs[f]?=some fn:=aan ((ah Tryz.func3 (ah Tryz.func5 (ah Tryz.func6 (ah Tryz.func7 (ah Tryz.func8 (ah Tryz.func9 (ah Tryz.func10 (ah Tryz.func12 (ah Tryz.func13 (ah Tryz.func14 (ah Tryz.func16 (ah Tryz.func17 (ah Tryz.func19 (ah Tryz.func20 (ah Tryz.func21 (ah Tryz.func22 (ah Tryz.func23 (ah Tryz.func24 (ah Tryz.func25 (ah Tryz.func26 (ah Tryz.func27 (ah Tryz.func28 (ah Tryz.func29 (ah Tryz.func30 (ah Tryz.func31 (ah Tryz.func32 (ah Tryz.func33 (ah Tryz.func34 (ah Tryz.func35 (ah Tryz.func36 (ah Tryz.func37 (ah Tryz.func38 (ah Tryz.func39 (ah Tryz.func40 (ah Tryz.func41 (ah Tryz.func42 (ah Tryz.func43 (ah Tryz.func44 (ah Tryz.func45 (ah Tryz.func46 (ah Tryz.func47 (ah Tryz.func48 (ah Tryz.func49 (ah Tryz.func50 (ah Tryz.func51 (ah Tryz.func52 (ah Tryz.func53 (ah Tryz.func54 (ah Tryz.func55 (ah Tryz.func56 (ah Tryz.func57 (ah Tryz.func58 (ah Tryz.func61 (ah Tryz.func62 (ah Tryz.func63 (ah Tryz.func64 (ah Tryz.func65 (ah Tryz.func66 (ah Tryz.func67 (ah Tryz.func68 (ah Tryz.func69 (ah Tryz.func70 (ah Tryz.func71 (ah Tryz.func72 (ah Tryz.func73 (ah Tryz.func74 (ah Tryz.func76 (ah Tryz.func79 (ah Tryz.func80 (ah Tryz.func81 (ah Tryz.func82 (ah Tryz.func83 (ah Tryz.func84 (ah Tryz.func85 (ah Tryz.func86 (ah Tryz.func87 (ah Tryz.func88 (ah Tryz.func89 (ah Tryz.func90 (ah Tryz.func91 (ah Tryz.func92 (ah Tryz.func93 (ah Tryz.func94 (ah Tryz.func95 (ah Tryz.func96 (ah Tryz.func97 (ah Tryz.func98 (ah Tryz.func99 (ah Tryz.func100 (ah Tryz.func101 (ah Tryz.func102 (ah Tryz.func103 (ah Tryz.func104 (ah Tryz.func105 (ah Tryz.func106 (ah Tryz.func107 (ah Tryz.func108 (ah Tryz.func109 (ah Tryz.func110 (ah Tryz.func111 (ah Tryz.func117 (ah Tryz.func118 (ah Tryz.func119 (ah Tryz.func120 (ah Tryz.func121 (ah Tryz.func122 (ah Tryz.func123 (ah Tryz.func124 (ah Tryz.func125 (ah Tryz.func126 (ah Tryz.func127 (ah Tryz.func128 (ah Tryz.func129 (ah Tryz.func130 (ah Tryz.func131 (ah Tryz.func132 (ah Tryz.func133 (ah Tryz.func134 (ah Tryz.func135 (ah Tryz.func136 (ah Tryz.func137 (ah Tryz.func138 (ah Tryz.func139 (ah Tryz.func140 (ah Tryz.func141 (ah Tryz.func142 (ah Tryz.func143 (ah Tryz.func151 (ah Tryz.func152 (ah Tryz.func153 (ah Tryz.func154 (ah Tryz.func155 (ah Tryz.func156 (ah Tryz.func157 (ah Tryz.func158 (ah Tryz.func159 (ah Tryz.func160 (ah Tryz.func161 (ah Tryz.func162 (ah Tryz.func163 (ah Tryz.func164 (ah Tryz.func165 (ah Tryz.func166 (ah Tryz.func167 (ah Tryz.func168 (ah Tryz.func169 (ah Tryz.func172 (ah Tryz.func173 (ah Tryz.func174 (ah Tryz.func175 (ah Tryz.func176 (ah Tryz.func177 (ah Tryz.func178 (ah Tryz.func182 (ah Tryz.func183 (ah Tryz.func184 (ah Tryz.func185 (ah Tryz.func186 (ah Tryz.func189 (ah Tryz.func190 (ah Tryz.func191 (ah Tryz.func192 (ah Tryz.func193 (ah Tryz.func194 (ah Tryz.func195 (ah Tryz.func196 (ah Tryz.func197 (ah Tryz.func198 (ah Tryz.func199 (ah Tryz.func200 (ah Tryz.func201 (ah Tryz.func202 (ah Tryz.func203 (ah Tryz.func204 (ah Tryz.func205 (ah Tryz.func206 (ah Tryz.func207 (ah Tryz.func208 (ah Tryz.func209 (ah Tryz.func225 (ah Tryz.func226 (ah Tryz.func227 (ah Tryz.func228 (ah Tryz.func229 (ah Tryz.func232 (ah Tryz.func233 (ah Tryz.func234 (ah Tryz.func235 (ah Tryz.func236 (ah Tryz.func237 (ah Tryz.func238 (ah Tryz.func239 (ah Tryz.func240 (ah Tryz.func241 (ah Tryz.func242 (ah Tryz.func243 (ah Tryz.func244 (ah Tryz.func245 (ah Tryz.func246 (ah Tryz.func247 (ah Tryz.func248 (ah Tryz.func253 (ah Tryz.func254 (ah Tryz.func257 (ah Tryz.func258 (ah Tryz.func259 (ah Tryz.func260 (ah Tryz.func261 (ah Tryz.func262 (ah Tryz.func263 (ah Tryz.func271 (ah Tryz.func272 (ah Tryz.func276 (ah Tryz.func277 (ah Tryz.func278 (ah Tryz.func279 (ah Tryz.func280 (ah Tryz.func281 (ah Tryz.func283 (ah Tryz.func284 (ah Tryz.func285 (ah Tryz.func288 (ah Tryz.func289 (ah Tryz.func290 (ah Tryz.func291 (ah Tryz.func292 (ah Tryz.func293 (ah Tryz.func299 (ah Tryz.func300 (ah Tryz.func301 (ah Tryz.func306 (ah Tryz.func307 (ah Tryz.func308 (ah Tryz.func309 (ah Tryz.func310 (ah Tryz.func311 (ah Tryz.func312 (ah Tryz.func315 (ah Tryz.func346 (ah Tryz.func347 (ah Tryz.func348 (ah Tryz.func349 (ah Tryz.func350 (ah Tryz.func351 (ah Tryz.func352 (ah Tryz.func353 (ah Tryz.func354 (ah Tryz.func355 (ah Tryz.func356 (ah Tryz.func357 (ah Tryz.func358 (ah Tryz.func359 (ah Tryz.func360 (ah Tryz.func361 (ah Tryz.func362 (ah Tryz.func363 (ah Tryz.func364 (ah Tryz.func365 (ah Tryz.func366 WJ))))))))))))))))))))))))))))))))))))))))))))))))))))))))))))))))))))))))))))))))))))))))))))))))))))))))))))))))))))))))))))))))))))))))))))))))))))))))))))))))))))))))))))))))))))))))))))))))))))))))))))))))))))))))))))))))))))))))))))))))))))))))))))))))))))
theorem Gg:∀tid fs,find qn tid=some fs→Lr Tryz.prog tid fs=true:=WK (by kernel_rfl)
theorem MV:∀tid e,find els tid=some e→Tryz.prog.underlying tid=some (.slice e):=aao (by kernel_rfl)
theorem Gi(bF:List (Nat×bO))(aJ:List (Nat×ur))(inv:List (String×bO):=[]):eW Tryz.prog (Ey bF aJ inv):=⟨TU,Gd,Gf,MU,Gg,MV⟩
noncomputable def UM:Ctx:=⟨tys,oX,yj,Im,[],[],qn,[],els,[]⟩
theorem Io:eW Tryz.prog UM:=⟨TU,Gd,Gf,MU,Gg,MV⟩
theorem tD:gz Tryz.prog 76 (.clone .str):=by
 refine yE (P:=Tryz.prog) (cx:=UM) (bf:=[2,5]) (e:=.str) (tid:=25) (fn:=Tryz.f76) (s0:=fun l=>((u7 (fun _=>none) [.data (.slice .str) l]).bT 2 { val:=.data (.slice .str) ([]:List (.str:Ty).den),tid:=0,buf:=true,ro:=false,lk:=false,aA:=0 }).put 2 (.whole 2 0)) mix Io (jD av aj zy ax) Tryz.func76 (by kernel_rfl)
  (by rfl) rfl (by decide) (by decide) rfl rfl rfl rfl rfl rfl (fun l=>by rfl) (fun l=>rfl) (fun l=>rfl) (fun l=>rfl) (fun l=>by rfl) (fun l hl=>?_)
 have key:∀m:List (.str:Ty).den,fits (len m)=true→aq (fits (plus (len ([]:List (.str:Ty).den)) (len m))) (some (app [] m)) none=some m:=by
  intro m hm;have e:plus (len ([]:List (.str:Ty).den)) (len m)=len m:=by simp[plus,len]
  rw[e,hm];rfl
 exact EL (b:=aq (fits (plus (len ([]:List (.str:Ty).den)) (len (α:=(.str:Ty).den) l))) (some (app (α:=(.str:Ty).den) [] l)) none) (by rfl) (key l hl)
theorem oF:gz Tryz.prog 172 (.clone tw):=by
 refine yE (P:=Tryz.prog) (cx:=UM) (bf:=[2,5]) (e:=tw) (tid:=24) (fn:=Tryz.f172) (s0:=fun l=>((u7 (fun _=>none) [.data (.slice tw) l]).bT 2 { val:=.data (.slice tw) ([]:List (tw:Ty).den),tid:=0,buf:=true,ro:=false,lk:=false,aA:=0 }).put 2 (.whole 2 0)) mix Io (jD av aj zy ax) Tryz.func172 (by kernel_rfl)
  (by rfl) rfl (by decide) (by decide) rfl rfl rfl rfl rfl rfl (fun l=>by rfl) (fun l=>rfl) (fun l=>rfl) (fun l=>rfl) (fun l=>by rfl) (fun l hl=>?_)
 have key:∀m:List (tw:Ty).den,fits (len m)=true→aq (fits (plus (len ([]:List (tw:Ty).den)) (len m))) (some (app [] m)) none=some m:=by
  intro m hm;have e:plus (len ([]:List (tw:Ty).den)) (len m)=len m:=by simp[plus,len]
  rw[e,hm];rfl
 exact EL (b:=aq (fits (plus (len ([]:List (tw:Ty).den)) (len (α:=(tw:Ty).den) l))) (some (app (α:=(tw:Ty).den) [] l)) none) (by rfl) (key l hl)
theorem oG:gz Tryz.prog 190 (.clone tC):=by
 refine yE (P:=Tryz.prog) (cx:=UM) (bf:=[2,5]) (e:=tC) (tid:=26) (fn:=Tryz.f190) (s0:=fun l=>((u7 (fun _=>none) [.data (.slice tC) l]).bT 2 { val:=.data (.slice tC) ([]:List (tC:Ty).den),tid:=0,buf:=true,ro:=false,lk:=false,aA:=0 }).put 2 (.whole 2 0)) mix Io (jD av aj zy ax) Tryz.func190 (by kernel_rfl)
  (by rfl) rfl (by decide) (by decide) rfl rfl rfl rfl rfl rfl (fun l=>by rfl) (fun l=>rfl) (fun l=>rfl) (fun l=>rfl) (fun l=>by rfl) (fun l hl=>?_)
 have key:∀m:List (tC:Ty).den,fits (len m)=true→aq (fits (plus (len ([]:List (tC:Ty).den)) (len m))) (some (app [] m)) none=some m:=by
  intro m hm;have e:plus (len ([]:List (tC:Ty).den)) (len m)=len m:=by simp[plus,len]
  rw[e,hm];rfl
 exact EL (b:=aq (fits (plus (len ([]:List (tC:Ty).den)) (len (α:=(tC:Ty).den) l))) (some (app (α:=(tC:Ty).den) [] l)) none) (by rfl) (key l hl)
theorem cT:gz Tryz.prog 353 (.clone A2):=by
 refine yE (P:=Tryz.prog) (cx:=UM) (bf:=[2,5]) (e:=A2) (tid:=47) (fn:=Tryz.f353) (s0:=fun l=>((u7 (fun _=>none) [.data (.slice A2) l]).bT 2 { val:=.data (.slice A2) ([]:List (A2:Ty).den),tid:=0,buf:=true,ro:=false,lk:=false,aA:=0 }).put 2 (.whole 2 0)) mix Io (jD av aj zy ax) Tryz.func353 (by kernel_rfl)
  (by rfl) rfl (by decide) (by decide) rfl rfl rfl rfl rfl rfl (fun l=>by rfl) (fun l=>rfl) (fun l=>rfl) (fun l=>rfl) (fun l=>by rfl) (fun l hl=>?_)
 have key:∀m:List (A2:Ty).den,fits (len m)=true→aq (fits (plus (len ([]:List (A2:Ty).den)) (len m))) (some (app [] m)) none=some m:=by
  intro m hm;have e:plus (len ([]:List (A2:Ty).den)) (len m)=len m:=by simp[plus,len]
  rw[e,hm];rfl
 exact EL (b:=aq (fits (plus (len ([]:List (A2:Ty).den)) (len (α:=(A2:Ty).den) l))) (some (app (α:=(A2:Ty).den) [] l)) none) (by rfl) (key l hl)
theorem uN:gz Tryz.prog 77 (.own .str .unit false cX):=aaq Tryz.func77 (by kernel_rfl) (by kernel_rfl) Tryz.slices_Sort_string Tryz.slices_Sort_string_none
theorem qY:gz Tryz.prog 78 (.own .str .unit true dF):=Ta Tryz.func78 (by kernel_rfl) (by kernel_rfl) Tryz.slices_Compact_string Tryz.slices_Compact_string_empty VB
theorem sM:gz Tryz.prog 170 (.own .str (.pair (.int .i64) Oy) true dM):=by
 have vi:Den Tryz.prog .str 9:=by
  show eF Tryz.prog .str false 9 0 []=true
  kernel_rfl
 obtain⟨ie,ze,e1,e2,e3,e4⟩:=vi.info;exact Fz (e:=.str) (ρ:=(⟨fun x=>if x=29 then 249 else if x=30 then 250 else 170,fun x=>if x=24 then 25 else if x=9 then 9 else if x=3 then 3 else if x=4 then 4 else 0,fun x=>x⟩:Go.Shelf.Ren)) (nm := "slices.Insert[[]string,string]") ⟨mix,Tryz.func170.trans (congrArg some (by kernel_rfl)),
  fun xs w=>run_callFunc_extern (e:=Extern.SlicesOverlaps.overlaps #[25,25] #[4]) Tryz.func249 (by kernel_rfl) (by kernel_rfl) (by kernel_rfl) (by kernel_rfl) xs w,
  by kernel_rfl,by kernel_rfl,by kernel_rfl,fun w=>by simp[Go.sizeOf,e1,e2]<;>kernel_rfl,by simp[e1,e2]<;>kernel_rfl⟩ (by decide) vi (by kernel_rfl) (by decide) (by decide)
theorem nK:gz Tryz.prog 171 (.own tw (.pair (.int .i64) TW) true cE):=by
 have vi:Den Tryz.prog tw 44:=by
  show eF Tryz.prog tw false 44 0 []=true
  kernel_rfl
 obtain⟨ie,ze,e1,e2,e3,e4⟩:=vi.info;exact Fz (e:=tw) (ρ:=(⟨fun x=>if x=29 then 251 else if x=30 then 252 else 171,fun x=>if x=24 then 24 else if x=9 then 44 else if x=3 then 3 else if x=4 then 4 else 0,fun x=>x⟩:Go.Shelf.Ren)) (nm := "slices.Insert[[]cooperage/api.Layer,cooperage/api.Layer]") ⟨mix,Tryz.func171.trans (congrArg some (by kernel_rfl)),
  fun xs w=>run_callFunc_extern (e:=Extern.SlicesOverlaps.overlaps #[24,24] #[4]) Tryz.func251 (by kernel_rfl) (by kernel_rfl) (by kernel_rfl) (by kernel_rfl) xs w,
  by kernel_rfl,by kernel_rfl,by kernel_rfl,fun w=>by simp[Go.sizeOf,e1,e2]<;>kernel_rfl,by simp[e1,e2]<;>kernel_rfl⟩ (by decide) vi (by kernel_rfl) (by decide) (by decide)
theorem sN:gz Tryz.prog 187 (.own .str Ra true fH):=by
 have vi:Den Tryz.prog .str 9:=by
  show eF Tryz.prog .str false 9 0 []=true
  kernel_rfl
 obtain⟨ie,ze,e1,e2,e3,e4⟩:=vi.info;exact WO (e:=.str) (ρ:=(⟨fun x=>if x=29 then 0 else if x=30 then 0 else 187,fun x=>if x=24 then 25 else if x=9 then 9 else if x=3 then 3 else if x=4 then 4 else 0,fun x=>x⟩:Go.Shelf.Ren)) (nm := "slices.Delete[[]string,string]") (z:=ze) ⟨mix,Tryz.func187.trans (congrArg some (by kernel_rfl)),
  by kernel_rfl,by kernel_rfl,by kernel_rfl,fun w=>by simp[Go.sizeOf,e1,e2]<;>kernel_rfl,fun w=>I0 e1 e3 w⟩ (by decide) e4 (by decide)
theorem nL:gz Tryz.prog 188 (.own tw Ra true dS):=by
 have vi:Den Tryz.prog tw 44:=by
  show eF Tryz.prog tw false 44 0 []=true
  kernel_rfl
 obtain⟨ie,ze,e1,e2,e3,e4⟩:=vi.info;exact WO (e:=tw) (ρ:=(⟨fun x=>if x=29 then 0 else if x=30 then 0 else 188,fun x=>if x=24 then 24 else if x=9 then 44 else if x=3 then 3 else if x=4 then 4 else 0,fun x=>x⟩:Go.Shelf.Ren)) (nm := "slices.Delete[[]cooperage/api.Layer,cooperage/api.Layer]") (z:=ze) ⟨mix,Tryz.func188.trans (congrArg some (by kernel_rfl)),
  by kernel_rfl,by kernel_rfl,by kernel_rfl,fun w=>by simp[Go.sizeOf,e1,e2]<;>kernel_rfl,fun w=>I0 e1 e3 w⟩ (by decide) e4 (by decide)
theorem nM:gz Tryz.prog 256 (.own tC (.pair (.int .i64) YE) true dU):=by
 have vi:Den Tryz.prog tC 85:=by
  show eF Tryz.prog tC false 85 0 []=true
  kernel_rfl
 obtain⟨ie,ze,e1,e2,e3,e4⟩:=vi.info;exact Fz (e:=tC) (ρ:=(⟨fun x=>if x=29 then 297 else if x=30 then 298 else 256,fun x=>if x=24 then 26 else if x=9 then 85 else if x=3 then 3 else if x=4 then 4 else 0,fun x=>x⟩:Go.Shelf.Ren)) (nm := "slices.Insert[[]cooperage/api.Mount,cooperage/api.Mount]") ⟨mix,Tryz.func256.trans (congrArg some (by kernel_rfl)),
  fun xs w=>run_callFunc_extern (e:=Extern.SlicesOverlaps.overlaps #[26,26] #[4]) Tryz.func297 (by kernel_rfl) (by kernel_rfl) (by kernel_rfl) (by kernel_rfl) xs w,
  by kernel_rfl,by kernel_rfl,by kernel_rfl,fun w=>by simp[Go.sizeOf,e1,e2]<;>kernel_rfl,by simp[e1,e2]<;>kernel_rfl⟩ (by decide) vi (by kernel_rfl) (by decide) (by decide)
theorem cP:gz Tryz.prog 367 (.own A2 (.pair (.int .i64) sL) true aR):=by
 have vi:Den Tryz.prog A2 98:=by
  show eF Tryz.prog A2 false 98 0 []=true
  kernel_rfl
 obtain⟨ie,ze,e1,e2,e3,e4⟩:=vi.info;exact Fz (e:=A2) (ρ:=(⟨fun x=>if x=29 then 368 else if x=30 then 369 else 367,fun x=>if x=24 then 47 else if x=9 then 98 else if x=3 then 3 else if x=4 then 4 else 0,fun x=>x⟩:Go.Shelf.Ren)) (nm := "slices.Insert[[]cooperage/api.TreeNode,cooperage/api.TreeNode]") ⟨mix,Tryz.func367.trans (congrArg some (by kernel_rfl)),
  fun xs w=>run_callFunc_extern (e:=Extern.SlicesOverlaps.overlaps #[47,47] #[4]) Tryz.func368 (by kernel_rfl) (by kernel_rfl) (by kernel_rfl) (by kernel_rfl) xs w,
  by kernel_rfl,by kernel_rfl,by kernel_rfl,fun w=>by simp[Go.sizeOf,e1,e2]<;>kernel_rfl,by simp[e1,e2]<;>kernel_rfl⟩ (by decide) vi (by kernel_rfl) (by decide) (by decide)
theorem zV:∀p∈Rz,gz Tryz.prog p.1 p.2:=(fY xO (fY uL (fY tD (fY oF (fY oG (fY cT (fY uN (fY qY (fY sM (fY nK (fY sN (fY nL (fY nM (fY cP zy))))))))))))))
theorem Gj(bF:List (Nat×bO))(aJ:List (Nat×ur))(inv:List (String×bO):=[]):Pd (Ey bF aJ inv):=S0 (cx:=Ey bF aJ inv) (show(Im.all fun p=>Vo p.2)=true by kernel_rfl)
def aH:fo:=v7
theorem au{bF:List (Nat×bO)}{aJ:List (Nat×ur)}{inv:List (String×bO)}(dB:∀p∈bF,Holds Tryz.prog aH p.1 p.2)(MW:∀p∈aJ,iq Tryz.prog aH p.1 p.2)(hinv:∀p∈inv,ow Tryz.prog aH p.1 p.2){f:Nat}{fn:Func}{A R:Ty}{spec:A.den→Option R.den}(hfn:find Im f=some fn)(hb:fn.body.isSome=true)
  (hs:∀x,sem (Ey bF aJ inv) 12 dV f A R x=spec x):Holds Tryz.prog aH f ⟨A,R,spec⟩:=by
 obtain⟨code,MX⟩:=Option.isSome_iff_exists.1 hb;exact Fx mix (Gi bF aJ inv) (jD dB MW zV hinv) (Gj bF aJ inv) (f:=f) hfn MX (fun x y h=>by rw[hs];exact h)
theorem kQ{bF:List (Nat×bO)}{aJ:List (Nat×ur)}{inv:List (String×bO)}(dB:∀p∈bF,Holds Tryz.prog aH p.1 p.2)(MW:∀p∈aJ,iq Tryz.prog aH p.1 p.2)(hinv:∀p∈inv,ow Tryz.prog aH p.1 p.2){f:Nat}{fn:Func}{ps:List Bool}{A U R:Ty}{spec:A.den×U.den→Option (R.den×U.den)}(hfn:find Im f=some fn)(hb:fn.body.isSome=true)
  (hs:∀x,abZ (Ey bF aJ inv) 12 dV f ps A U R x=spec x):iq Tryz.prog aH f ⟨ps,A,U,R,spec⟩:=by
 obtain⟨code,MX⟩:=Option.isSome_iff_exists.1 hb;exact C6 mix (Gi bF aJ inv) (jD dB MW zV hinv) (Gj bF aJ inv) (f:=f) hfn MX (fun x y h=>by rw[hs];exact h)
noncomputable def Ji:bO:=⟨Oy,oZ,jT⟩
theorem TY:Holds Tryz.prog aH 72 Ji:=au (bF:=[]) (aJ:=[]) (inv:=[]) (av) (aj) (ax) (fn:=Tryz.f72) rfl (by kernel_rfl) (fun x=>by kernel_rfl)
noncomputable def yR:bO:=⟨(.pair (.slice (.pair .str Gl)) .unit),oZ,dG⟩
theorem Ir:Holds Tryz.prog aH 73 yR:=au (bF:=[]) (aJ:=[]) (inv:=[]) (av) (aj) (ax) (fn:=Tryz.f73) rfl (by kernel_rfl) (fun x=>by kernel_rfl)
noncomputable def Jj:bO:=⟨(.pair adh .unit),oZ,oP⟩
theorem TZ:Holds Tryz.prog aH 19 Jj:=au (bF:=[(72,Ji),(73,yR)]) (aJ:=[]) (inv:=[]) ((ag TY (ag Ir av))) (aj) (ax) (fn:=Tryz.f19) rfl (by kernel_rfl) (fun x=>by kernel_rfl)
noncomputable def Jk:bO:=⟨TW,oZ,wO⟩
theorem T0:Holds Tryz.prog aH 20 Jk:=au (bF:=[]) (aJ:=[]) (inv:=[]) (av) (aj) (ax) (fn:=Tryz.f20) rfl (by kernel_rfl) (fun x=>by kernel_rfl)
noncomputable def Jl:bO:=⟨Rb,oZ,wP⟩
theorem T3:Holds Tryz.prog aH 5 Jl:=au (bF:=[(19,Jj),(20,Jk)]) (aJ:=[]) (inv:=[]) ((ag TZ (ag T0 av))) (aj) (ax) (fn:=Tryz.f5) rfl (by kernel_rfl) (fun x=>by kernel_rfl)
noncomputable def yS:bO:=⟨Oy,oZ,mG⟩
theorem Is:Holds Tryz.prog aH 6 yS:=au (bF:=[]) (aJ:=[]) (inv:=[]) (av) (aj) (ax) (fn:=Tryz.f6) rfl (by kernel_rfl) (fun x=>by kernel_rfl)
noncomputable def bV:bO:=⟨Oy,Oy,bD⟩
theorem cj:Holds Tryz.prog aH 76 bV:=by
 refine wu (P:=Tryz.prog) (cx:=Ey [] []) (bf:=[5]) (e:=.str) (tid:=25) (fn:=Tryz.f76) (s0:=fun l=>(u7 (fun _=>none) [.data (.slice .str) l]).put 2 (.data (.slice .str) ([]:List (.str:Ty).den))) mix (Gi [] []) (jD av aj zV ax) Tryz.func76 (by kernel_rfl)
  (by rfl) rfl (by decide) (by decide) rfl rfl rfl rfl rfl rfl (fun l=>by rfl) (fun l=>rfl) (fun l=>rfl) (fun l=>rfl) (fun l=>by rfl) (fun l hl=>?_)
 have key:∀m:List (.str:Ty).den,fits (len m)=true→aq (fits (plus (len ([]:List (.str:Ty).den)) (len m))) (some ((app [] m,()):(Ty.pair (.slice .str) .unit).den)) none=some (m,()):=by
  intro m hm;have e:plus (len ([]:List (.str:Ty).den)) (len m)=len m:=by simp[plus,len]
  rw[e,hm];rfl
 exact EL (b:=aq (fits (plus (len ([]:List (.str:Ty).den)) (len (α:=(.str:Ty).den) l))) (some ((app (α:=(.str:Ty).den) [] l,()):(Ty.pair (.slice .str) .unit).den)) none) (by rfl) (key l hl)
noncomputable def M4:bO:=⟨(.pair (.int .i64) (.pair adh .unit)),(.pair Iq .unit),zH⟩
theorem Wc:Holds Tryz.prog aH 87 M4:=au (bF:=[(76,bV)]) (aJ:=[]) (inv:=[]) ((ag cj av)) (aj) (ax) (fn:=Tryz.f87) rfl (by kernel_rfl) (fun x=>by kernel_rfl)
noncomputable def vL:bO:=⟨Rb,(.pair Iq .unit),jK⟩
theorem B2:Holds Tryz.prog aH 33 vL:=au (bF:=[(87,M4)]) (aJ:=[]) (inv:=[]) ((ag Wc av)) (aj) (ax) (fn:=Tryz.f33) rfl (by kernel_rfl) (fun x=>by kernel_rfl)
noncomputable def Dp:bO:=⟨(.pair Iq eZ),tC,rS⟩
theorem Oz:Holds Tryz.prog aH 66 Dp:=au (bF:=[(86,dn),(132,jx)]) (aJ:=[]) (inv:=[]) ((ag eV (ag nc av))) (aj) (ax) (fn:=Tryz.f66) rfl (by kernel_rfl) (fun x=>by kernel_rfl)
noncomputable def nN:bO:=⟨(.pair EB eZ),tC,fC⟩
theorem r5:Holds Tryz.prog aH 14 nN:=au (bF:=[(33,vL),(66,Dp)]) (aJ:=[]) (inv:=[]) ((ag B2 (ag Oz av))) (aj) (ax) (fn:=Tryz.f14) rfl (by kernel_rfl) (fun x=>by kernel_rfl)
noncomputable def yT:bO:=⟨tC,eZ,mE⟩
theorem Iu:Holds Tryz.prog aH 75 yT:=N6 (spec:=e9) Tryz.func75 (by kernel_rfl) (by kernel_rfl) (fun _ _ _ h=>Bq h) (fun s c w y hc hl hy=>by
 obtain⟨h1,h2,rfl⟩:=qu hy;have hm:(IntKind.i64).max=9223372036854775807:=by decide
 obtain⟨n,rfl⟩:=Int.eq_ofNat_of_zero_le h1;exact Tryz.strings_Repeat s n w (by omega) h2)
noncomputable def xR:bO:=⟨.unit,eZ,nG⟩
theorem Dq:Holds Tryz.prog aH 24 xR:=au (bF:=[(75,yT)]) (aJ:=[]) (inv:=[]) ((ag Iu av)) (aj) (ax) (fn:=Tryz.f24) rfl (by kernel_rfl) (fun x=>by kernel_rfl)
noncomputable def qa:bO:=⟨(.pair .str YF),eZ,pM⟩
theorem zY:Holds Tryz.prog aH 225 qa:=au (bF:=[]) (aJ:=[]) (inv:=[]) (av) (aj) (ax) (fn:=Tryz.f225) rfl (by kernel_rfl) (fun x=>by kernel_rfl)
noncomputable def jR:bO:=⟨(.pair .str YF),eZ,jI⟩
theorem oS:Holds Tryz.prog aH 226 jR:=au (bF:=[]) (aJ:=[]) (inv:=[]) (av) (aj) (ax) (fn:=Tryz.f226) rfl (by kernel_rfl) (fun x=>by kernel_rfl)
noncomputable def kg:bO:=⟨eZ,(.pair (.arr 256 .bool) oZ),eH⟩
theorem qb:Holds Tryz.prog aH 227 kg:=au (bF:=[]) (aJ:=[]) (inv:=[]) (av) (aj) (ax) (fn:=Tryz.f227) rfl (by kernel_rfl) (fun x=>by kernel_rfl)
noncomputable def cZ:ur:=⟨[true,false],YF,(.pair (.arr 256 .bool) .unit),oZ,cV⟩
theorem eu:iq Tryz.prog aH 272 cZ:=kQ (bF:=[]) (aJ:=[]) (inv:=[]) (av) (aj) (ax) (fn:=Tryz.f272) rfl (by kernel_rfl) (fun x=>by kernel_rfl)
noncomputable def oT:ur:=⟨[false,true],eZ,(.pair (.arr 256 .bool) .unit),eZ,fM⟩
theorem yU:iq Tryz.prog aH 228 oT:=kQ (bF:=[]) (aJ:=[(272,cZ)]) (inv:=[]) (av) ((ef eu aj)) (ax) (fn:=Tryz.f228) rfl (by kernel_rfl) (fun x=>by kernel_rfl)
noncomputable def ji:ur:=⟨[false,true],eZ,(.pair (.arr 256 .bool) .unit),eZ,dP⟩
theorem nO:iq Tryz.prog aH 229 ji:=kQ (bF:=[]) (aJ:=[(272,cZ)]) (inv:=[]) (av) ((ef eu aj)) (ax) (fn:=Tryz.f229) rfl (by kernel_rfl) (fun x=>by kernel_rfl)
noncomputable def mb:bO:=⟨Gl,eZ,lW⟩
theorem qc:Holds Tryz.prog aH 152 mb:=au (bF:=[(225,qa),(226,jR),(227,kg)]) (aJ:=[(228,oT),(229,ji),(272,cZ)]) (inv:=[]) ((ag zY (ag oS (ag qb av)))) ((ef yU (ef nO (ef eu aj)))) (ax) (fn:=Tryz.f152) rfl (by kernel_rfl) (fun x=>by kernel_rfl)
noncomputable def AD:bO:=⟨eZ,oZ,nT⟩
theorem KB:Holds Tryz.prog aH 81 AD:=au (bF:=[(152,mb)]) (aJ:=[]) (inv:=[]) ((ag qc av)) (aj) (ax) (fn:=Tryz.f81) rfl (by kernel_rfl) (fun x=>by kernel_rfl)
noncomputable def xS:bO:=⟨Oy,vK,nC⟩
theorem Dr:Holds Tryz.prog aH 27 xS:=au (bF:=[(76,bV),(81,AD)]) (aJ:=[]) (inv:=[]) ((ag cj (ag KB av))) (aj) (ax) (fn:=Tryz.f27) rfl (by kernel_rfl) (fun x=>by kernel_rfl)
noncomputable def qd:ur:=⟨[true,false],oZ,(.pair adi .unit),(.pair (.pair YP eZ) oZ),eL⟩
theorem wR:iq Tryz.prog aH 232 qd:=kQ (bF:=[]) (aJ:=[]) (inv:=[]) (av) (aj) (ax) (fn:=Tryz.f232) rfl (by kernel_rfl) (fun x=>by kernel_rfl)
noncomputable def xT:bO:=⟨eZ,oZ,C9⟩
theorem Ds:Holds Tryz.prog aH 233 xT:=au (bF:=[(152,mb)]) (aJ:=[]) (inv:=[]) ((ag qc av)) (aj) (ax) (fn:=Tryz.f233) rfl (by kernel_rfl) (fun x=>by kernel_rfl)
noncomputable def tE:bO:=⟨.unit,(.pair (.arr 11 Ra) .unit),nS⟩
theorem AE:Holds Tryz.prog aH 306 tE:=au (bF:=[]) (aJ:=[]) (inv:=[]) (av) (aj) (ax) (fn:=Tryz.f306) rfl (by kernel_rfl) (fun x=>by kernel_rfl)
noncomputable def Jm:bO:=⟨tC,eZ,b9⟩
theorem T4:Holds Tryz.prog aH 276 Jm:=au (bF:=[(306,tE)]) (aJ:=[]) (inv:=[]) ((ag AE av)) (aj) (ax) (fn:=Tryz.f276) rfl (by kernel_rfl) (fun x=>by kernel_rfl)
noncomputable def ng:bO:=⟨Gl,eZ,mX⟩
theorem uc:Holds Tryz.prog aH 307 ng:=au (bF:=[(226,jR),(227,kg)]) (aJ:=[(229,ji),(272,cZ)]) (inv:=[]) ((ag oS (ag qb av))) ((ef nO (ef eu aj))) (ax) (fn:=Tryz.f307) rfl (by kernel_rfl) (fun x=>by kernel_rfl)
noncomputable def vM:bO:=⟨eZ,(.pair (.int .i64) oZ),vv⟩
theorem EC:Holds Tryz.prog aH 308 vM:=au (bF:=[]) (aJ:=[]) (inv:=[]) (av) (aj) (ax) (fn:=Tryz.f308) rfl (by kernel_rfl) (fun x=>by kernel_rfl)
noncomputable def AF:bO:=⟨eZ,vK,fV⟩
theorem KC:Holds Tryz.prog aH 277 AF:=au (bF:=[(307,ng),(308,vM)]) (aJ:=[]) (inv:=[]) ((ag uc (ag EC av))) (aj) (ax) (fn:=Tryz.f277) rfl (by kernel_rfl) (fun x=>by kernel_rfl)
noncomputable def Gm:bO:=⟨eZ,vK,FF⟩
theorem Rc:Holds Tryz.prog aH 278 Gm:=au (bF:=[(306,tE)]) (aJ:=[]) (inv:=[]) ((ag AE av)) (aj) (ax) (fn:=Tryz.f278) rfl (by kernel_rfl) (fun x=>by kernel_rfl)
noncomputable def Dt:bO:=⟨eZ,(.pair .str oZ),rI⟩
theorem OA:Holds Tryz.prog aH 279 Dt:=au (bF:=[(243,gh),(307,ng)]) (aJ:=[]) (inv:=[]) ((ag jy (ag uc av))) (aj) (ax) (fn:=Tryz.f279) rfl (by kernel_rfl) (fun x=>by kernel_rfl)
noncomputable def Jn:bO:=⟨Ra,oZ,oO⟩
theorem T6:Holds Tryz.prog aH 309 Jn:=au (bF:=[]) (aJ:=[]) (inv:=[]) (av) (aj) (ax) (fn:=Tryz.f309) rfl (by kernel_rfl) (fun x=>by kernel_rfl)
noncomputable def B3:bO:=⟨tC,oZ,vt⟩
theorem M5:Holds Tryz.prog aH 310 B3:=au (bF:=[(243,gh)]) (aJ:=[]) (inv:=[]) ((ag jy av)) (aj) (ax) (fn:=Tryz.f310) rfl (by kernel_rfl) (fun x=>by kernel_rfl)
noncomputable def Jo:bO:=⟨(.pair YP vK),oZ,I4⟩
theorem T7:Holds Tryz.prog aH 280 Jo:=au (bF:=[(309,Jn),(310,B3)]) (aJ:=[]) (inv:=[]) ((ag T6 (ag M5 av))) (aj) (ax) (fn:=Tryz.f280) rfl (by kernel_rfl) (fun x=>by kernel_rfl)
noncomputable def xU:bO:=⟨eZ,(.pair YP vK),C8⟩
theorem Du:Holds Tryz.prog aH 234 xU:=au (bF:=[(276,Jm),(277,AF),(278,Gm),(279,Dt),(280,Jo)]) (aJ:=[]) (inv:=[]) ((ag T4 (ag KC (ag Rc (ag OA (ag T7 av)))))) (aj) (ax) (fn:=Tryz.f234) rfl (by kernel_rfl) (fun x=>by kernel_rfl)
noncomputable def ED:bO:=⟨vK,vK,El⟩
theorem M6:Holds Tryz.prog aH 235 ED:=au (bF:=[]) (aJ:=[]) (inv:=[]) (av) (aj) (ax) (fn:=Tryz.f235) rfl (by kernel_rfl) (fun x=>by kernel_rfl)
noncomputable def wS:ur:=⟨[true],.unit,(.pair adi .unit),(.pair (.pair YP eZ) oZ),pN⟩
theorem Gn:iq Tryz.prog aH 154 wS:=kQ (bF:=[(152,mb),(233,xT),(234,xU),(235,ED)]) (aJ:=[(232,qd)]) (inv:=[]) ((ag qc (ag Ds (ag Du (ag M6 av))))) ((ef wR aj)) (ax) (fn:=Tryz.f154) rfl (by kernel_rfl) (fun x=>by kernel_rfl)
noncomputable def yV:ur:=⟨[true],.unit,(.pair adi .unit),oZ,yJ⟩
theorem Iv:iq Tryz.prog aH 155 yV:=kQ (bF:=[]) (aJ:=[]) (inv:=[]) (av) (aj) (ax) (fn:=Tryz.f155) rfl (by kernel_rfl) (fun x=>by kernel_rfl)
noncomputable def EE:bO:=⟨eZ,(.pair TX vK),zC⟩
theorem M7:Holds Tryz.prog aH 82 EE:=au (bF:=[(152,mb),(233,xT),(234,xU),(235,ED)]) (aJ:=[(154,wS),(155,yV),(232,qd)]) (inv:=[]) ((ag qc (ag Ds (ag Du (ag M6 av))))) ((ef Gn (ef Iv (ef wR aj)))) (ax) (fn:=Tryz.f82) rfl (by kernel_rfl) (fun x=>by kernel_rfl)
noncomputable def uO:bO:=⟨Gl,eZ,uA⟩
theorem zZ:Holds Tryz.prog aH 238 uO:=au (bF:=[]) (aJ:=[]) (inv:=[]) (av) (aj) (ax) (fn:=Tryz.f238) rfl (by kernel_rfl) (fun x=>by kernel_rfl)
noncomputable def qZ:bO:=⟨(.pair A2 .unit),oZ,qV⟩
theorem yW:Holds Tryz.prog aH 240 qZ:=au (bF:=[(92,iX),(163,jh),(238,uO),(245,kS)]) (aJ:=[]) (inv:=[]) ((ag kf (ag kR (ag zZ (ag nJ av))))) (aj) (ax) (fn:=Tryz.f240) rfl (by kernel_rfl) (fun x=>by kernel_rfl)
noncomputable def AG:bO:=⟨eZ,oZ,tc⟩
theorem KD:Holds Tryz.prog aH 239 AG:=au (bF:=[(240,qZ)]) (aJ:=[]) (inv:=[]) ((ag yW av)) (aj) (ax) (fn:=Tryz.f239) rfl (by kernel_rfl) (fun x=>by kernel_rfl)
noncomputable def Dv:bO:=⟨M3,sL,Dh⟩
theorem OB:Holds Tryz.prog aH 348 Dv:=au (bF:=[(92,iX),(351,rZ),(353,b8)]) (aJ:=[]) (inv:=[]) ((ag kf (ag xQ (ag cU av)))) (aj) (ax) (fn:=Tryz.f348) rfl (by kernel_rfl) (fun x=>by kernel_rfl)
noncomputable def qD:bO:=⟨(.pair eZ sL),sL,qy⟩
theorem qE:Holds Tryz.prog aH 346 qD:=au (bF:=[(348,Dv)]) (aJ:=[]) (inv:=[]) ((ag OB av)) (aj) (ax) (fn:=Tryz.f346) rfl (by kernel_rfl) (fun x=>by kernel_rfl)
noncomputable def ud:bO:=⟨(.pair eZ sL),B1,tV⟩
theorem ue:Holds Tryz.prog aH 347 ud:=au (bF:=[]) (aJ:=[]) (inv:=[]) (av) (aj) (ax) (fn:=Tryz.f347) rfl (by kernel_rfl) (fun x=>by kernel_rfl)
noncomputable def Gp:bO:=⟨M3,sL,FN⟩
theorem Re:Holds Tryz.prog aH 359 Gp:=au (bF:=[(92,iX),(351,rZ),(353,b8)]) (aJ:=[]) (inv:=[]) ((ag kf (ag xQ (ag cU av)))) (aj) (ax) (fn:=Tryz.f359) rfl (by kernel_rfl) (fun x=>by kernel_rfl)
noncomputable def oU:bO:=⟨(.pair eZ sL),sL,oR⟩
theorem oV:Holds Tryz.prog aH 357 oU:=au (bF:=[(359,Gp)]) (aJ:=[]) (inv:=[]) ((ag Re av)) (aj) (ax) (fn:=Tryz.f357) rfl (by kernel_rfl) (fun x=>by kernel_rfl)
noncomputable def qF:bO:=⟨(.pair eZ sL),B1,qz⟩
theorem qG:Holds Tryz.prog aH 358 qF:=au (bF:=[]) (aJ:=[]) (inv:=[]) (av) (aj) (ax) (fn:=Tryz.f358) rfl (by kernel_rfl) (fun x=>by kernel_rfl)
noncomputable def qH:bO:=⟨(.pair .unit sL),sL,qA⟩
theorem qI:Holds Tryz.prog aH 361 qH:=au (bF:=[]) (aJ:=[]) (inv:=[]) (av) (aj) (ax) (fn:=Tryz.f361) rfl (by kernel_rfl) (fun x=>by kernel_rfl)
noncomputable def uf:bO:=⟨(.pair .unit sL),B1,tW⟩
theorem ug:Holds Tryz.prog aH 362 uf:=au (bF:=[]) (aJ:=[]) (inv:=[]) (av) (aj) (ax) (fn:=Tryz.f362) rfl (by kernel_rfl) (fun x=>by kernel_rfl)
noncomputable def qJ:bO:=⟨(.pair (.pair A2 .unit) sL),sL,qB⟩
theorem qK:Holds Tryz.prog aH 363 qJ:=au (bF:=[]) (aJ:=[]) (inv:=[]) (av) (aj) (ax) (fn:=Tryz.f363) rfl (by kernel_rfl) (fun x=>by kernel_rfl)
noncomputable def Jp:bO:=⟨M3,(.pair A2 oZ),I8⟩
theorem T8:Holds Tryz.prog aH 365 Jp:=au (bF:=[(92,iX),(247,uM)]) (aJ:=[]) (inv:=[]) ((ag kf (ag zX av))) (aj) (ax) (fn:=Tryz.f365) rfl (by kernel_rfl) (fun x=>by kernel_rfl)
noncomputable def uh:bO:=⟨(.pair (.pair A2 .unit) sL),B1,tX⟩
theorem uj:Holds Tryz.prog aH 364 uh:=au (bF:=[(163,jh),(238,uO),(245,kS),(365,Jp),(366,M1)]) (aJ:=[]) (inv:=[]) ((ag kR (ag zZ (ag nJ (ag T8 (ag Wb av)))))) (aj) (ax) (fn:=Tryz.f364) rfl (by kernel_rfl) (fun x=>by kernel_rfl)
noncomputable def B4:bO:=⟨(.pair (.pair YP eZ) .unit),(.pair TV oZ),BP⟩
theorem M8:Holds Tryz.prog aH 156 B4:=au (bF:=[(163,jh),(236,xP),(237,zW),(238,uO),(239,AG),(240,qZ),(346,qD),(347,ud),(357,oU),(358,qF),(361,qH),(362,uf),(363,qJ),(364,uh)]) (aJ:=[]) (inv:=[]) ((ag kR (ag Dm (ag Gk (ag zZ (ag KD (ag yW (ag qE (ag ue (ag oV (ag qG (ag qI (ag ug (ag qK (ag uj av))))))))))))))) (aj) (ax) (fn:=Tryz.f156) rfl (by kernel_rfl) (fun x=>by kernel_rfl)
noncomputable def tF:bO:=⟨(.pair TX .unit),(.pair (.slice TV) oZ),td⟩
theorem AH:Holds Tryz.prog aH 83 tF:=au (bF:=[(156,B4)]) (aJ:=[]) (inv:=[]) ((ag M8 av)) (aj) (ax) (fn:=Tryz.f83) rfl (by kernel_rfl) (fun x=>by kernel_rfl)
noncomputable def AJ:bO:=⟨eZ,vK,Aw⟩
theorem KE:Holds Tryz.prog aH 29 AJ:=au (bF:=[(82,EE),(83,tF)]) (aJ:=[]) (inv:=[]) ((ag M7 (ag AH av))) (aj) (ax) (fn:=Tryz.f29) rfl (by kernel_rfl) (fun x=>by kernel_rfl)
noncomputable def Gq:bO:=⟨(.pair Iq eZ),vK,uC⟩
theorem Rf:Holds Tryz.prog aH 84 Gq:=au (bF:=[]) (aJ:=[]) (inv:=[]) (av) (aj) (ax) (fn:=Tryz.f84) rfl (by kernel_rfl) (fun x=>by kernel_rfl)
noncomputable def Gr:bO:=⟨(.pair Iq (.pair .str Oy)),vK,uD⟩
theorem Rg:Holds Tryz.prog aH 32 Gr:=au (bF:=[(27,xS),(84,Gq),(86,dn)]) (aJ:=[]) (inv:=[]) ((ag Dr (ag Rf (ag eV av)))) (aj) (ax) (fn:=Tryz.f32) rfl (by kernel_rfl) (fun x=>by kernel_rfl)
noncomputable def z6:bO:=⟨eZ,eZ,pL⟩
theorem Gs:Holds Tryz.prog aH 95 z6:=au (bF:=[]) (aJ:=[]) (inv:=[]) (av) (aj) (ax) (fn:=Tryz.f95) rfl (by kernel_rfl) (fun x=>by kernel_rfl)
noncomputable def Jq:bO:=⟨vK,eZ,wK⟩
theorem T9:Holds Tryz.prog aH 88 Jq:=au (bF:=[(95,z6)]) (aJ:=[]) (inv:=[]) ((ag Gs av)) (aj) (ax) (fn:=Tryz.f88) rfl (by kernel_rfl) (fun x=>by kernel_rfl)
noncomputable def B5:bO:=⟨(.pair Iq vK),tC,pT⟩
theorem M9:Holds Tryz.prog aH 35 B5:=au (bF:=[(88,Jq)]) (aJ:=[]) (inv:=[]) ((ag T9 av)) (aj) (ax) (fn:=Tryz.f35) rfl (by kernel_rfl) (fun x=>by kernel_rfl)
noncomputable def xV:bO:=⟨(.pair (.slice tw) eZ),(.pair (.slice tw) vK),nH⟩
theorem Dw:Holds Tryz.prog aH 37 xV:=au (bF:=[(76,bV)]) (aJ:=[]) (inv:=[]) ((ag cj av)) (aj) (ax) (fn:=Tryz.f37) rfl (by kernel_rfl) (fun x=>by kernel_rfl)
noncomputable def r8:bO:=⟨Rb,Oy,kO⟩
theorem xW:Holds Tryz.prog aH 99 r8:=au (bF:=[]) (aJ:=[]) (inv:=[]) (av) (aj) (ax) (fn:=Tryz.f99) rfl (by kernel_rfl) (fun x=>by kernel_rfl)
noncomputable def tG:bO:=⟨(.pair tw .unit),eZ,tg⟩
theorem AK:Holds Tryz.prog aH 126 tG:=au (bF:=[]) (aJ:=[]) (inv:=[]) (av) (aj) (ax) (fn:=Tryz.f126) rfl (by kernel_rfl) (fun x=>by kernel_rfl)
noncomputable def xX:bO:=⟨(.pair EB eZ),(.pair tw (.pair .str oZ)),xM⟩
theorem Dx:Holds Tryz.prog aH 74 xX:=au (bF:=[(76,bV),(99,r8),(126,tG)]) (aJ:=[]) (inv:=[]) ((ag cj (ag xW (ag AK av)))) (aj) (ax) (fn:=Tryz.f74) rfl (by kernel_rfl) (fun x=>by kernel_rfl)
theorem OC:ow Tryz.prog aH "cooperage/overlay.clears" ⟨(.pair TV sL),sL,zP⟩:=(lP qE (fun v w=>by kernel_rfl) rfl (lP oV (fun v w=>by kernel_rfl) rfl (lP qI (fun v w=>by kernel_rfl) rfl (lP qK (fun v w=>by kernel_rfl) rfl LH))))
theorem Ua:ow Tryz.prog aH "cooperage/overlay.puts" ⟨(.pair TV sL),B1,Ew⟩:=(lP ue (fun v w=>by kernel_rfl) rfl (lP qG (fun v w=>by kernel_rfl) rfl (lP ug (fun v w=>by kernel_rfl) rfl (lP uj (fun v w=>by kernel_rfl) rfl LH))))
noncomputable def Dy:bO:=⟨(.pair (.slice A2) (.pair TX .unit)),B1,Dj⟩
theorem OD:Holds Tryz.prog aH 93 Dy:=au (bF:=[(83,tF),(92,iX)]) (aJ:=[]) (inv:=[("cooperage/overlay.clears",⟨(.pair TV sL),sL,zP⟩),("cooperage/overlay.puts",⟨(.pair TV sL),B1,Ew⟩)]) ((ag AH (ag kf av))) (aj) ((S5 OC (S5 Ua ax))) (fn:=Tryz.f93) rfl (by kernel_rfl) (fun x=>by kernel_rfl)
noncomputable def tH:bO:=⟨M3,B1,tf⟩
theorem AL:Holds Tryz.prog aH 40 tH:=au (bF:=[(82,EE),(92,iX),(93,Dy)]) (aJ:=[]) (inv:=[]) ((ag M7 (ag kf (ag OD av)))) (aj) (ax) (fn:=Tryz.f40) rfl (by kernel_rfl) (fun x=>by kernel_rfl)
noncomputable def Dz:bO:=⟨Oy,B1,Dl⟩
theorem OE:Holds Tryz.prog aH 162 Dz:=au (bF:=[(40,tH)]) (aJ:=[]) (inv:=[]) ((ag AL av)) (aj) (ax) (fn:=Tryz.f162) rfl (by kernel_rfl) (fun x=>by kernel_rfl)
noncomputable def Gt:bO:=⟨(.pair EB eZ),B1,F5⟩
theorem Rh:Holds Tryz.prog aH 91 Gt:=au (bF:=[(37,xV),(74,xX),(162,Dz)]) (aJ:=[]) (inv:=[]) ((ag Dw (ag Dx (ag OE av)))) (aj) (ax) (fn:=Tryz.f91) rfl (by kernel_rfl) (fun x=>by kernel_rfl)
noncomputable def B6:bO:=⟨(.pair EB eZ),B1,BS⟩
theorem Na:Holds Tryz.prog aH 39 B6:=au (bF:=[(91,Gt)]) (aJ:=[]) (inv:=[]) ((ag Rh av)) (aj) (ax) (fn:=Tryz.f39) rfl (by kernel_rfl) (fun x=>by kernel_rfl)
noncomputable def mc:bO:=⟨vK,Q9,fI⟩
theorem qe:Holds Tryz.prog aH 41 mc:=au (bF:=[]) (aJ:=[]) (inv:=[]) (av) (aj) (ax) (fn:=Tryz.f41) rfl (by kernel_rfl) (fun x=>by kernel_rfl)
noncomputable def sO:bO:=⟨.unit,YD,oN⟩
theorem wT:Holds Tryz.prog aH 290 sO:=au (bF:=[]) (aJ:=[]) (inv:=[]) (av) (aj) (ax) (fn:=Tryz.f290) rfl (by kernel_rfl) (fun x=>by kernel_rfl)
noncomputable def sP:bO:=⟨.unit,(.pair (.arr 64 (.int .u32)) .unit),wz⟩
theorem wU:Holds Tryz.prog aH 291 sP:=au (bF:=[]) (aJ:=[]) (inv:=[]) (av) (aj) (ax) (fn:=Tryz.f291) rfl (by kernel_rfl) (fun x=>by kernel_rfl)
noncomputable def nP:bO:=⟨(.pair (.int .u32) vK),(.pair (.int .u32) .unit),je⟩
theorem xY:Holds Tryz.prog aH 315 nP:=au (bF:=[]) (aJ:=[]) (inv:=[]) (av) (aj) (ax) (fn:=Tryz.f315) rfl (by kernel_rfl) (fun x=>by kernel_rfl)
noncomputable def oW:bO:=⟨(.pair (.int .u32) vK),(.pair (.int .u32) .unit),bz⟩
theorem sQ:Holds Tryz.prog aH 293 oW:=au (bF:=[(315,nP)]) (aJ:=[]) (inv:=[]) ((ag xY av)) (aj) (ax) (fn:=Tryz.f293) rfl (by kernel_rfl) (fun x=>by kernel_rfl)
noncomputable def mg:bO:=⟨(.pair (.arr 64 (.int .u8)) .unit),(.pair (.arr 64 (.int .u32)) .unit),lS⟩
theorem qf:Holds Tryz.prog aH 292 mg:=au (bF:=[(293,oW)]) (aJ:=[]) (inv:=[]) ((ag sQ av)) (aj) (ax) (fn:=Tryz.f292) rfl (by kernel_rfl) (fun x=>by kernel_rfl)
noncomputable def lB:ur:=⟨[true,false],(.pair (.arr 64 (.int .u8)) .unit),(.pair (.pair .bool YD) .unit),.unit,FD⟩
theorem qg:iq Tryz.prog aH 248 lB:=kQ (bF:=[(290,sO),(291,sP),(292,mg),(293,oW)]) (aJ:=[]) (inv:=[]) ((ag wT (ag wU (ag qf (ag sQ av))))) (aj) (ax) (fn:=Tryz.f248) rfl (by kernel_rfl) (fun x=>by kernel_rfl)
noncomputable def ri:ur:=⟨[true,false],eZ,(.pair aeN .unit),.unit,fe⟩
theorem yX:iq Tryz.prog aH 167 ri:=kQ (bF:=[(290,sO),(291,sP),(292,mg),(293,oW)]) (aJ:=[(248,lB)]) (inv:=[]) ((ag wT (ag wU (ag qf (ag sQ av))))) ((ef qg aj)) (ax) (fn:=Tryz.f167) rfl (by kernel_rfl) (fun x=>by kernel_rfl)
noncomputable def yY:ur:=⟨[true],.unit,(.pair aeN .unit),(.pair (.arr 32 (.int .u8)) .unit),mF⟩
theorem Iw:iq Tryz.prog aH 168 yY:=kQ (bF:=[(290,sO),(291,sP),(292,mg),(293,oW)]) (aJ:=[(167,ri),(248,lB)]) (inv:=[]) ((ag wT (ag wU (ag qf (ag sQ av))))) ((ef yX (ef qg aj))) (ax) (fn:=Tryz.f168) rfl (by kernel_rfl) (fun x=>by kernel_rfl)
noncomputable def PA:bO:=⟨eZ,(.pair (.arr 32 (.int .u8)) .unit),CB⟩
theorem YG:Holds Tryz.prog aH 94 PA:=au (bF:=[(290,sO),(291,sP),(292,mg),(293,oW)]) (aJ:=[(167,ri),(168,yY),(248,lB)]) (inv:=[]) ((ag wT (ag wU (ag qf (ag sQ av))))) ((ef yX (ef Iw (ef qg aj)))) (ax) (fn:=Tryz.f94) rfl (by kernel_rfl) (fun x=>by kernel_rfl)
noncomputable def Jr:bO:=⟨eZ,eZ,wB⟩
theorem Ub:Holds Tryz.prog aH 42 Jr:=au (bF:=[(94,PA),(95,z6)]) (aJ:=[]) (inv:=[]) ((ag YG (ag Gs av))) (aj) (ax) (fn:=Tryz.f42) rfl (by kernel_rfl) (fun x=>by kernel_rfl)
noncomputable def uk:bO:=⟨(.pair (.slice .str) (.pair (.int .i64) eZ)),Oy,jv⟩
theorem CT:Holds Tryz.prog aH 98 uk:=au (bF:=[(76,bV)]) (aJ:=[]) (inv:=[]) ((ag cj av)) (aj) (ax) (fn:=Tryz.f98) rfl (by kernel_rfl) (fun x=>by kernel_rfl)
noncomputable def dY:bO:=⟨TW,TW,oD⟩
theorem gR:Holds Tryz.prog aH 172 dY:=by
 refine wu (P:=Tryz.prog) (cx:=Ey [] []) (bf:=[5]) (e:=tw) (tid:=24) (fn:=Tryz.f172) (s0:=fun l=>(u7 (fun _=>none) [.data (.slice tw) l]).put 2 (.data (.slice tw) ([]:List (tw:Ty).den))) mix (Gi [] []) (jD av aj zV ax) Tryz.func172 (by kernel_rfl)
  (by rfl) rfl (by decide) (by decide) rfl rfl rfl rfl rfl rfl (fun l=>by rfl) (fun l=>rfl) (fun l=>rfl) (fun l=>rfl) (fun l=>by rfl) (fun l hl=>?_)
 have key:∀m:List (tw:Ty).den,fits (len m)=true→aq (fits (plus (len ([]:List (tw:Ty).den)) (len m))) (some ((app [] m,()):(Ty.pair (.slice tw) .unit).den)) none=some (m,()):=by
  intro m hm;have e:plus (len ([]:List (tw:Ty).den)) (len m)=len m:=by simp[plus,len]
  rw[e,hm];rfl
 exact EL (b:=aq (fits (plus (len ([]:List (tw:Ty).den)) (len (α:=(tw:Ty).den) l))) (some ((app (α:=(tw:Ty).den) [] l,()):(Ty.pair (.slice tw) .unit).den)) none) (by rfl) (key l hl)
noncomputable def qh:bO:=⟨(.pair (.slice tw) (.pair (.int .i64) (.pair tw .unit))),TW,gw⟩
theorem z7:Holds Tryz.prog aH 100 qh:=au (bF:=[(172,dY)]) (aJ:=[]) (inv:=[]) ((ag gR av)) (aj) (ax) (fn:=Tryz.f100) rfl (by kernel_rfl) (fun x=>by kernel_rfl)
noncomputable def Gu:bO:=⟨(.pair EB (.pair tw eZ)),Rb,pZ⟩
theorem Ri:Holds Tryz.prog aH 43 Gu:=au (bF:=[(98,uk),(99,r8),(100,qh)]) (aJ:=[]) (inv:=[]) ((ag CT (ag xW (ag z7 av)))) (aj) (ax) (fn:=Tryz.f43) rfl (by kernel_rfl) (fun x=>by kernel_rfl)
noncomputable def tI:bO:=⟨(.pair EB (.pair .str (.pair (.slice .str) tC))),(.pair EB Q9),cz⟩
theorem AM:Holds Tryz.prog aH 8 tI:=au (bF:=[(14,nN),(24,xR),(27,xS),(29,AJ),(32,Gr),(33,vL),(35,B5),(37,xV),(39,B6),(40,tH),(41,mc),(42,Jr),(43,Gu)]) (aJ:=[]) (inv:=[]) ((ag r5 (ag Dq (ag Dr (ag KE (ag Rg (ag B2 (ag M9 (ag Dw (ag Na (ag AL (ag qe (ag Ub (ag Ri av)))))))))))))) (aj) (ax) (fn:=Tryz.f8) rfl (by kernel_rfl) (fun x=>by kernel_rfl)
noncomputable def iY:bO:=⟨(.pair (.slice .str) Oy),oZ,dL⟩
theorem lC:Holds Tryz.prog aH 57 iY:=au (bF:=[]) (aJ:=[]) (inv:=[]) (av) (aj) (ax) (fn:=Tryz.f57) rfl (by kernel_rfl) (fun x=>by kernel_rfl)
noncomputable def qi:bO:=⟨(.pair (.slice (.pair .str Gl)) (.pair (.slice (.pair .str Gl)) .unit)),oZ,fP⟩
theorem wV:Holds Tryz.prog aH 111 qi:=au (bF:=[]) (aJ:=[]) (inv:=[]) (av) (aj) (ax) (fn:=Tryz.f111) rfl (by kernel_rfl) (fun x=>by kernel_rfl)
noncomputable def wW:bO:=⟨(.pair (.slice adj) (.pair (.slice adj) .unit)),oZ,lu⟩
theorem Gv:Holds Tryz.prog aH 54 wW:=au (bF:=[(57,iY),(111,qi)]) (aJ:=[]) (inv:=[]) ((ag lC (ag wV av))) (aj) (ax) (fn:=Tryz.f54) rfl (by kernel_rfl) (fun x=>by kernel_rfl)
noncomputable def vN:bO:=⟨(.pair (.slice adk) (.pair (.slice adk) .unit)),oZ,j7⟩
theorem EF:Holds Tryz.prog aH 55 vN:=au (bF:=[(57,iY),(111,qi)]) (aJ:=[]) (inv:=[]) ((ag lC (ag wV av))) (aj) (ax) (fn:=Tryz.f55) rfl (by kernel_rfl) (fun x=>by kernel_rfl)
noncomputable def vO:bO:=⟨(.pair (.slice tw) TW),oZ,j8⟩
theorem EG:Holds Tryz.prog aH 56 vO:=au (bF:=[(57,iY)]) (aJ:=[]) (inv:=[]) ((ag lC av)) (aj) (ax) (fn:=Tryz.f56) rfl (by kernel_rfl) (fun x=>by kernel_rfl)
noncomputable def vP:bO:=⟨(.pair (.slice tC) YE),oZ,j9⟩
theorem EH:Holds Tryz.prog aH 58 vP:=au (bF:=[]) (aJ:=[]) (inv:=[]) (av) (aj) (ax) (fn:=Tryz.f58) rfl (by kernel_rfl) (fun x=>by kernel_rfl)
noncomputable def z8:bO:=⟨(.pair EB Rb),oZ,ke⟩
theorem Gw:Holds Tryz.prog aH 10 z8:=au (bF:=[(54,wW),(55,vN),(56,vO),(57,iY),(58,vP)]) (aJ:=[]) (inv:=[]) ((ag Gv (ag EF (ag EG (ag lC (ag EH av)))))) (aj) (ax) (fn:=Tryz.f10) rfl (by kernel_rfl) (fun x=>by kernel_rfl)
noncomputable def Gx:bO:=⟨(.pair EB eZ),oZ,F6⟩
theorem Rj:Holds Tryz.prog aH 62 Gx:=au (bF:=[]) (aJ:=[]) (inv:=[]) (av) (aj) (ax) (fn:=Tryz.f62) rfl (by kernel_rfl) (fun x=>by kernel_rfl)
noncomputable def AN:bO:=⟨(.pair tC .unit),eZ,Ax⟩
theorem KF:Holds Tryz.prog aH 124 AN:=au (bF:=[]) (aJ:=[]) (inv:=[]) (av) (aj) (ax) (fn:=Tryz.f124) rfl (by kernel_rfl) (fun x=>by kernel_rfl)
noncomputable def vQ:bO:=⟨(.pair EB eZ),vK,vI⟩
theorem B7:Holds Tryz.prog aH 63 vQ:=au (bF:=[(124,AN)]) (aJ:=[]) (inv:=[]) ((ag KF av)) (aj) (ax) (fn:=Tryz.f63) rfl (by kernel_rfl) (fun x=>by kernel_rfl)
noncomputable def qj:bO:=⟨(.pair (.slice .str) vK),Oy,p4⟩
theorem Aa:Holds Tryz.prog aH 127 qj:=au (bF:=[(76,bV)]) (aJ:=[]) (inv:=[]) ((ag cj av)) (aj) (ax) (fn:=Tryz.f127) rfl (by kernel_rfl) (fun x=>by kernel_rfl)
noncomputable def mT:bO:=⟨(.pair (.slice tw) vK),TW,mS⟩
theorem vX:Holds Tryz.prog aH 128 mT:=au (bF:=[(172,dY)]) (aJ:=[]) (inv:=[]) ((ag gR av)) (aj) (ax) (fn:=Tryz.f128) rfl (by kernel_rfl) (fun x=>by kernel_rfl)
noncomputable def dZ:bO:=⟨YE,YE,oE⟩
theorem gS:Holds Tryz.prog aH 190 dZ:=by
 refine wu (P:=Tryz.prog) (cx:=Ey [] []) (bf:=[5]) (e:=tC) (tid:=26) (fn:=Tryz.f190) (s0:=fun l=>(u7 (fun _=>none) [.data (.slice tC) l]).put 2 (.data (.slice tC) ([]:List (tC:Ty).den))) mix (Gi [] []) (jD av aj zV ax) Tryz.func190 (by kernel_rfl)
  (by rfl) rfl (by decide) (by decide) rfl rfl rfl rfl rfl rfl (fun l=>by rfl) (fun l=>rfl) (fun l=>rfl) (fun l=>rfl) (fun l=>by rfl) (fun l hl=>?_)
 have key:∀m:List (tC:Ty).den,fits (len m)=true→aq (fits (plus (len ([]:List (tC:Ty).den)) (len m))) (some ((app [] m,()):(Ty.pair (.slice tC) .unit).den)) none=some (m,()):=by
  intro m hm;have e:plus (len ([]:List (tC:Ty).den)) (len m)=len m:=by simp[plus,len]
  rw[e,hm];rfl
 exact EL (b:=aq (fits (plus (len ([]:List (tC:Ty).den)) (len (α:=(tC:Ty).den) l))) (some ((app (α:=(tC:Ty).den) [] l,()):(Ty.pair (.slice tC) .unit).den)) none) (by rfl) (key l hl)
noncomputable def qk:bO:=⟨(.pair (.slice tC) (.pair (.int .i64) (.pair tC .unit))),YE,cJ⟩
theorem Ab:Holds Tryz.prog aH 193 qk:=au (bF:=[(190,dZ)]) (aJ:=[]) (inv:=[]) ((ag gS av)) (aj) (ax) (fn:=Tryz.f193) rfl (by kernel_rfl) (fun x=>by kernel_rfl)
noncomputable def xZ:bO:=⟨(.pair EB tC),Rb,xN⟩
theorem DA:Holds Tryz.prog aH 129 xZ:=au (bF:=[(190,dZ),(193,qk)]) (aJ:=[]) (inv:=[]) ((ag gS (ag Ab av))) (aj) (ax) (fn:=Tryz.f129) rfl (by kernel_rfl) (fun x=>by kernel_rfl)
noncomputable def AO:bO:=⟨(.pair EB eZ),Rb,Ay⟩
theorem KG:Holds Tryz.prog aH 64 AO:=au (bF:=[(99,r8),(126,tG),(127,qj),(128,mT),(129,xZ)]) (aJ:=[]) (inv:=[]) ((ag xW (ag AK (ag Aa (ag vX (ag DA av)))))) (aj) (ax) (fn:=Tryz.f64) rfl (by kernel_rfl) (fun x=>by kernel_rfl)
noncomputable def AP:bO:=⟨(.pair EB eZ),(.pair EB Q9),dz⟩
theorem KH:Holds Tryz.prog aH 12 AP:=au (bF:=[(14,nN),(41,mc),(62,Gx),(63,vQ),(64,AO)]) (aJ:=[]) (inv:=[]) ((ag r5 (ag qe (ag Rj (ag B7 (ag KG av)))))) (aj) (ax) (fn:=Tryz.f12) rfl (by kernel_rfl) (fun x=>by kernel_rfl)
noncomputable def rj:bO:=⟨(.pair EB tC),(.pair EB Q9),qX⟩
theorem yZ:Holds Tryz.prog aH 65 rj:=au (bF:=[(14,nN),(41,mc),(63,vQ),(129,xZ)]) (aJ:=[]) (inv:=[]) ((ag r5 (ag qe (ag B7 (ag DA av))))) (aj) (ax) (fn:=Tryz.f65) rfl (by kernel_rfl) (fun x=>by kernel_rfl)
noncomputable def B8:bO:=⟨(.pair EB eZ),(.pair EB Q9),p5⟩
theorem Nb:Holds Tryz.prog aH 13 B8:=au (bF:=[(65,rj)]) (aJ:=[]) (inv:=[]) ((ag yZ av)) (aj) (ax) (fn:=Tryz.f13) rfl (by kernel_rfl) (fun x=>by kernel_rfl)
noncomputable def za:bO:=⟨(.pair EB eZ),(.pair EB Q9),mO⟩
theorem Ix:Holds Tryz.prog aH 21 za:=au (bF:=[(65,rj)]) (aJ:=[]) (inv:=[]) ((ag yZ av)) (aj) (ax) (fn:=Tryz.f21) rfl (by kernel_rfl) (fun x=>by kernel_rfl)
noncomputable def DB:bO:=⟨(.pair EB eZ),Q9,rW⟩
theorem OG:Holds Tryz.prog aH 22 DB:=au (bF:=[(14,nN),(41,mc),(74,xX)]) (aJ:=[]) (inv:=[]) ((ag r5 (ag qe (ag Dx av)))) (aj) (ax) (fn:=Tryz.f22) rfl (by kernel_rfl) (fun x=>by kernel_rfl)
noncomputable def Ac:bO:=⟨.unit,eZ,mP⟩
theorem Gy:Holds Tryz.prog aH 23 Ac:=au (bF:=[]) (aJ:=[]) (inv:=[]) (av) (aj) (ax) (fn:=Tryz.f23) rfl (by kernel_rfl) (fun x=>by kernel_rfl)
noncomputable def DC:bO:=⟨.unit,oZ,nI⟩
theorem OH:Holds Tryz.prog aH 7 DC:=au (bF:=[(8,tI),(10,z8),(12,AP),(13,B8),(21,za),(22,DB),(23,Ac),(24,xR)]) (aJ:=[]) (inv:=[]) ((ag AM (ag Gw (ag KH (ag Nb (ag Ix (ag OG (ag Gy (ag Dq av))))))))) (aj) (ax) (fn:=Tryz.f7) rfl (by kernel_rfl) (fun x=>by kernel_rfl)
noncomputable def Gz:bO:=⟨(.pair (.slice tw) eZ),vK,FW⟩
theorem Rk:Holds Tryz.prog aH 108 Gz:=au (bF:=[]) (aJ:=[]) (inv:=[]) (av) (aj) (ax) (fn:=Tryz.f108) rfl (by kernel_rfl) (fun x=>by kernel_rfl)
noncomputable def x4:bO:=⟨(.pair (.slice tw) eZ),(.pair (.slice tw) vK),xL⟩
theorem DD:Holds Tryz.prog aH 51 x4:=au (bF:=[(108,Gz)]) (aJ:=[]) (inv:=[]) ((ag Rk av)) (aj) (ax) (fn:=Tryz.f51) rfl (by kernel_rfl) (fun x=>by kernel_rfl)
noncomputable def GA:bO:=⟨(.pair EB eZ),vK,FX⟩
theorem Rl:Holds Tryz.prog aH 61 GA:=au (bF:=[]) (aJ:=[]) (inv:=[]) (av) (aj) (ax) (fn:=Tryz.f61) rfl (by kernel_rfl) (fun x=>by kernel_rfl)
noncomputable def Ad:bO:=⟨(.pair EB vK),eZ,mL⟩
theorem GB:Holds Tryz.prog aH 67 Ad:=au (bF:=[]) (aJ:=[]) (inv:=[]) (av) (aj) (ax) (fn:=Tryz.f67) rfl (by kernel_rfl) (fun x=>by kernel_rfl)
noncomputable def GC:bO:=⟨eZ,oZ,FQ⟩
theorem Rm:Holds Tryz.prog aH 201 GC:=au (bF:=[]) (aJ:=[]) (inv:=[]) (av) (aj) (ax) (fn:=Tryz.f201) rfl (by kernel_rfl) (fun x=>by kernel_rfl)
noncomputable def GD:bO:=⟨eZ,oZ,FR⟩
theorem Rn:Holds Tryz.prog aH 202 GD:=au (bF:=[]) (aJ:=[]) (inv:=[]) (av) (aj) (ax) (fn:=Tryz.f202) rfl (by kernel_rfl) (fun x=>by kernel_rfl)
noncomputable def wX:bO:=⟨eZ,(.pair (.int .i64) oZ),wD⟩
theorem GF:Holds Tryz.prog aH 299 wX:=au (bF:=[]) (aJ:=[]) (inv:=[]) (av) (aj) (ax) (fn:=Tryz.f299) rfl (by kernel_rfl) (fun x=>by kernel_rfl)
noncomputable def B9:bO:=⟨eZ,vK,gP⟩
theorem Nc:Holds Tryz.prog aH 259 B9:=au (bF:=[(299,wX)]) (aJ:=[]) (inv:=[]) ((ag GF av)) (aj) (ax) (fn:=Tryz.f259) rfl (by kernel_rfl) (fun x=>by kernel_rfl)
noncomputable def Js:bO:=⟨eZ,vK,I6⟩
theorem Uc:Holds Tryz.prog aH 260 Js:=au (bF:=[]) (aJ:=[]) (inv:=[]) (av) (aj) (ax) (fn:=Tryz.f260) rfl (by kernel_rfl) (fun x=>by kernel_rfl)
noncomputable def GG:bO:=⟨eZ,(.pair .str oZ),uI⟩
theorem Ro:Holds Tryz.prog aH 261 GG:=au (bF:=[]) (aJ:=[]) (inv:=[]) (av) (aj) (ax) (fn:=Tryz.f261) rfl (by kernel_rfl) (fun x=>by kernel_rfl)
noncomputable def DE:bO:=⟨tC,oZ,xC⟩
theorem OI:Holds Tryz.prog aH 300 DE:=au (bF:=[]) (aJ:=[]) (inv:=[]) (av) (aj) (ax) (fn:=Tryz.f300) rfl (by kernel_rfl) (fun x=>by kernel_rfl)
noncomputable def Nf:bO:=⟨Ra,oZ,qT⟩
theorem Wd:Holds Tryz.prog aH 301 Nf:=au (bF:=[]) (aJ:=[]) (inv:=[]) (av) (aj) (ax) (fn:=Tryz.f301) rfl (by kernel_rfl) (fun x=>by kernel_rfl)
noncomputable def Jt:bO:=⟨(.pair YP vK),oZ,I5⟩
theorem Ud:Holds Tryz.prog aH 262 Jt:=au (bF:=[(300,DE),(301,Nf)]) (aJ:=[]) (inv:=[]) ((ag OI (ag Wd av))) (aj) (ax) (fn:=Tryz.f262) rfl (by kernel_rfl) (fun x=>by kernel_rfl)
noncomputable def GH:bO:=⟨eZ,(.pair YP vK),FV⟩
theorem Rp:Holds Tryz.prog aH 203 GH:=au (bF:=[(259,B9),(260,Js),(261,GG),(262,Jt)]) (aJ:=[]) (inv:=[]) ((ag Nc (ag Uc (ag Ro (ag Ud av))))) (aj) (ax) (fn:=Tryz.f203) rfl (by kernel_rfl) (fun x=>by kernel_rfl)
noncomputable def DF:bO:=⟨vK,vK,xE⟩
theorem OJ:Holds Tryz.prog aH 204 DF:=au (bF:=[]) (aJ:=[]) (inv:=[]) (av) (aj) (ax) (fn:=Tryz.f204) rfl (by kernel_rfl) (fun x=>by kernel_rfl)
noncomputable def DG:bO:=⟨eZ,(.pair TX oZ),Dk⟩
theorem OK:Holds Tryz.prog aH 137 DG:=au (bF:=[(201,GC),(202,GD),(203,GH),(204,DF)]) (aJ:=[]) (inv:=[]) ((ag Rm (ag Rn (ag Rp (ag OJ av))))) (aj) (ax) (fn:=Tryz.f137) rfl (by kernel_rfl) (fun x=>by kernel_rfl)
noncomputable def Ae:bO:=⟨eZ,(.pair TX vK),zR⟩
theorem GI:Holds Tryz.prog aH 70 Ae:=au (bF:=[(137,DG)]) (aJ:=[]) (inv:=[]) ((ag OK av)) (aj) (ax) (fn:=Tryz.f70) rfl (by kernel_rfl) (fun x=>by kernel_rfl)
noncomputable def gB:bO:=⟨eZ,Oy,eD⟩
theorem jj:Holds Tryz.prog aH 195 gB:=au (bF:=[]) (aJ:=[]) (inv:=[]) (av) (aj) (ax) (fn:=Tryz.f195) rfl (by kernel_rfl) (fun x=>by kernel_rfl)
noncomputable def Af:bO:=⟨Oy,eZ,zF⟩
theorem GJ:Holds Tryz.prog aH 196 Af:=au (bF:=[]) (aJ:=[]) (inv:=[]) (av) (aj) (ax) (fn:=Tryz.f196) rfl (by kernel_rfl) (fun x=>by kernel_rfl)
noncomputable def nQ:bO:=⟨eZ,Gl,nB⟩
theorem r9:Holds Tryz.prog aH 133 nQ:=au (bF:=[(195,gB),(196,Af)]) (aJ:=[]) (inv:=[]) ((ag jj (ag GJ av))) (aj) (ax) (fn:=Tryz.f133) rfl (by kernel_rfl) (fun x=>by kernel_rfl)
noncomputable def Ca:bO:=⟨Gl,oZ,vw⟩
theorem Ng:Holds Tryz.prog aH 257 Ca:=au (bF:=[]) (aJ:=[]) (inv:=[]) (av) (aj) (ax) (fn:=Tryz.f257) rfl (by kernel_rfl) (fun x=>by kernel_rfl)
noncomputable def Ag:bO:=⟨eZ,(.pair (.int .i64) eZ),zG⟩
theorem GK:Holds Tryz.prog aH 197 Ag:=au (bF:=[(257,Ca)]) (aJ:=[]) (inv:=[]) ((ag Ng av)) (aj) (ax) (fn:=Tryz.f197) rfl (by kernel_rfl) (fun x=>by kernel_rfl)
noncomputable def Cb:bO:=⟨eZ,oZ,Bz⟩
theorem Nh:Holds Tryz.prog aH 258 Cb:=au (bF:=[]) (aJ:=[]) (inv:=[]) (av) (aj) (ax) (fn:=Tryz.f258) rfl (by kernel_rfl) (fun x=>by kernel_rfl)
noncomputable def EI:bO:=⟨eZ,oZ,En⟩
theorem Ni:Holds Tryz.prog aH 198 EI:=au (bF:=[(195,gB),(258,Cb)]) (aJ:=[]) (inv:=[]) ((ag jj (ag Nh av))) (aj) (ax) (fn:=Tryz.f198) rfl (by kernel_rfl) (fun x=>by kernel_rfl)
noncomputable def Cc:bO:=⟨eZ,oZ,BJ⟩
theorem Nj:Holds Tryz.prog aH 199 Cc:=au (bF:=[]) (aJ:=[]) (inv:=[]) (av) (aj) (ax) (fn:=Tryz.f199) rfl (by kernel_rfl) (fun x=>by kernel_rfl)
noncomputable def sR:bO:=⟨(.pair A2 .unit),oZ,sH⟩
theorem wY:Holds Tryz.prog aH 134 sR:=au (bF:=[(133,nQ),(197,Ag),(198,EI),(199,Cc)]) (aJ:=[]) (inv:=[]) ((ag r9 (ag GK (ag Ni (ag Nj av))))) (aj) (ax) (fn:=Tryz.f134) rfl (by kernel_rfl) (fun x=>by kernel_rfl)
noncomputable def Ah:bO:=⟨(.pair (.pair YP eZ) eZ),(.pair A2 .unit),zQ⟩
theorem GL:Holds Tryz.prog aH 143 Ah:=au (bF:=[]) (aJ:=[]) (inv:=[]) (av) (aj) (ax) (fn:=Tryz.f143) rfl (by kernel_rfl) (fun x=>by kernel_rfl)
noncomputable def DH:bO:=⟨eZ,tC,Da⟩
theorem OL:Holds Tryz.prog aH 205 DH:=au (bF:=[(195,gB),(196,Af),(198,EI)]) (aJ:=[]) (inv:=[]) ((ag jj (ag GJ (ag Ni av)))) (aj) (ax) (fn:=Tryz.f205) rfl (by kernel_rfl) (fun x=>by kernel_rfl)
noncomputable def uP:bO:=⟨Gl,eZ,uB⟩
theorem Ai:Holds Tryz.prog aH 206 uP:=au (bF:=[]) (aJ:=[]) (inv:=[]) (av) (aj) (ax) (fn:=Tryz.f206) rfl (by kernel_rfl) (fun x=>by kernel_rfl)
noncomputable def Cd:bO:=⟨eZ,oZ,pW⟩
theorem Nk:Holds Tryz.prog aH 207 Cd:=au (bF:=[(134,sR),(195,gB),(206,uP)]) (aJ:=[]) (inv:=[]) ((ag wY (ag jj (ag Ai av)))) (aj) (ax) (fn:=Tryz.f207) rfl (by kernel_rfl) (fun x=>by kernel_rfl)
noncomputable def Aj:bO:=⟨(.pair (.pair YP eZ) .unit),(.pair (.int .i64) (.pair .str oZ)),uH⟩
theorem GM:Holds Tryz.prog aH 138 Aj:=au (bF:=[(133,nQ),(134,sR),(143,Ah),(197,Ag),(205,DH),(206,uP),(207,Cd)]) (aJ:=[]) (inv:=[]) ((ag r9 (ag wY (ag GL (ag GK (ag OL (ag Ai (ag Nk av)))))))) (aj) (ax) (fn:=Tryz.f138) rfl (by kernel_rfl) (fun x=>by kernel_rfl)
noncomputable def x5:bO:=⟨(.pair TX .unit),oZ,xI⟩
theorem DI:Holds Tryz.prog aH 102 x5:=au (bF:=[(138,Aj)]) (aJ:=[]) (inv:=[]) ((ag GM av)) (aj) (ax) (fn:=Tryz.f102) rfl (by kernel_rfl) (fun x=>by kernel_rfl)
noncomputable def x6:bO:=⟨eZ,vK,xJ⟩
theorem DJ:Holds Tryz.prog aH 46 x6:=au (bF:=[(70,Ae),(102,x5)]) (aJ:=[]) (inv:=[]) ((ag GI (ag DI av))) (aj) (ax) (fn:=Tryz.f46) rfl (by kernel_rfl) (fun x=>by kernel_rfl)
noncomputable def uQ:bO:=⟨M3,vK,pU⟩
theorem Ak:Holds Tryz.prog aH 200 uQ:=au (bF:=[]) (aJ:=[]) (inv:=[]) (av) (aj) (ax) (fn:=Tryz.f200) rfl (by kernel_rfl) (fun x=>by kernel_rfl)
noncomputable def Ce:bO:=⟨M3,oZ,BK⟩
theorem Ju:Holds Tryz.prog aH 135 Ce:=au (bF:=[(200,uQ)]) (aJ:=[]) (inv:=[]) ((ag Ak av)) (aj) (ax) (fn:=Tryz.f135) rfl (by kernel_rfl) (fun x=>by kernel_rfl)
noncomputable def tJ:bO:=⟨Gl,vK,sZ⟩
theorem AQ:Holds Tryz.prog aH 136 tJ:=au (bF:=[(195,gB)]) (aJ:=[]) (inv:=[]) ((ag jj av)) (aj) (ax) (fn:=Tryz.f136) rfl (by kernel_rfl) (fun x=>by kernel_rfl)
noncomputable def oH:bO:=⟨sL,oZ,oC⟩
theorem rq:Holds Tryz.prog aH 69 oH:=au (bF:=[(133,nQ),(134,sR),(135,Ce),(136,tJ)]) (aJ:=[]) (inv:=[]) ((ag r9 (ag wY (ag Ju (ag AQ av))))) (aj) (ax) (fn:=Tryz.f69) rfl (by kernel_rfl) (fun x=>by kernel_rfl)
noncomputable def DK:bO:=⟨Gl,oZ,Db⟩
theorem OM:Holds Tryz.prog aH 263 DK:=au (bF:=[(195,gB)]) (aJ:=[]) (inv:=[]) ((ag jj av)) (aj) (ax) (fn:=Tryz.f263) rfl (by kernel_rfl) (fun x=>by kernel_rfl)
noncomputable def om:bO:=⟨(.pair (.slice A2) (.pair .str oZ)),sL,nY⟩
theorem tK:Holds Tryz.prog aH 208 om:=au (bF:=[(263,DK)]) (aJ:=[]) (inv:=[]) ((ag OM av)) (aj) (ax) (fn:=Tryz.f208) rfl (by kernel_rfl) (fun x=>by kernel_rfl)
noncomputable def Cf:bO:=⟨M3,sL,BM⟩
theorem Nl:Holds Tryz.prog aH 139 Cf:=au (bF:=[(69,oH),(208,om)]) (aJ:=[]) (inv:=[]) ((ag rq (ag tK av))) (aj) (ax) (fn:=Tryz.f139) rfl (by kernel_rfl) (fun x=>by kernel_rfl)
noncomputable def DL:bO:=⟨M3,sL,Di⟩
theorem ON:Holds Tryz.prog aH 140 DL:=au (bF:=[(69,oH),(208,om)]) (aJ:=[]) (inv:=[]) ((ag rq (ag tK av))) (aj) (ax) (fn:=Tryz.f140) rfl (by kernel_rfl) (fun x=>by kernel_rfl)
noncomputable def Cg:bO:=⟨(.pair (.slice A2) (.pair A2 .unit)),B1,BL⟩
theorem Jv:Holds Tryz.prog aH 142 Cg:=au (bF:=[(69,oH),(133,nQ),(134,sR),(135,Ce),(136,tJ),(200,uQ),(208,om)]) (aJ:=[]) (inv:=[]) ((ag rq (ag r9 (ag wY (ag Ju (ag AQ (ag Ak (ag tK av)))))))) (aj) (ax) (fn:=Tryz.f142) rfl (by kernel_rfl) (fun x=>by kernel_rfl)
noncomputable def GN:bO:=⟨M3,(.pair A2 oZ),FM⟩
theorem Rq:Holds Tryz.prog aH 209 GN:=au (bF:=[(69,oH),(200,uQ)]) (aJ:=[]) (inv:=[]) ((ag rq (ag Ak av))) (aj) (ax) (fn:=Tryz.f209) rfl (by kernel_rfl) (fun x=>by kernel_rfl)
noncomputable def GO:bO:=⟨M3,B1,FP⟩
theorem Rr:Holds Tryz.prog aH 141 GO:=au (bF:=[(142,Cg),(195,gB),(206,uP),(209,GN)]) (aJ:=[]) (inv:=[]) ((ag Jv (ag jj (ag Ai (ag Rq av))))) (aj) (ax) (fn:=Tryz.f141) rfl (by kernel_rfl) (fun x=>by kernel_rfl)
noncomputable def Jw:bO:=⟨(.pair (.slice A2) (.pair TX .unit)),B1,Jd⟩
theorem Ue:Holds Tryz.prog aH 71 Jw:=au (bF:=[(69,oH),(102,x5),(138,Aj),(139,Cf),(140,DL),(141,GO),(142,Cg),(143,Ah)]) (aJ:=[]) (inv:=[]) ((ag rq (ag DI (ag GM (ag Nl (ag ON (ag Rr (ag Jv (ag GL av))))))))) (aj) (ax) (fn:=Tryz.f71) rfl (by kernel_rfl) (fun x=>by kernel_rfl)
noncomputable def x7:bO:=⟨M3,B1,xK⟩
theorem DM:Holds Tryz.prog aH 17 x7:=au (bF:=[(46,x6),(69,oH),(70,Ae),(71,Jw)]) (aJ:=[]) (inv:=[]) ((ag DJ (ag rq (ag GI (ag Ue av))))) (aj) (ax) (fn:=Tryz.f17) rfl (by kernel_rfl) (fun x=>by kernel_rfl)
noncomputable def Jx:bO:=⟨Oy,B1,Je⟩
theorem Uf:Holds Tryz.prog aH 68 Jx:=au (bF:=[(17,x7)]) (aJ:=[]) (inv:=[]) ((ag DM av)) (aj) (ax) (fn:=Tryz.f68) rfl (by kernel_rfl) (fun x=>by kernel_rfl)
noncomputable def GP:bO:=⟨(.pair EB eZ),B1,FY⟩
theorem Rs:Holds Tryz.prog aH 16 GP:=au (bF:=[(51,x4),(61,GA),(67,Ad),(68,Jx)]) (aJ:=[]) (inv:=[]) ((ag DD (ag Rl (ag GB (ag Uf av))))) (aj) (ax) (fn:=Tryz.f16) rfl (by kernel_rfl) (fun x=>by kernel_rfl)
noncomputable def Ch:bO:=⟨eZ,oZ,pO⟩
theorem Nn:Holds Tryz.prog aH 173 Ch:=au (bF:=[]) (aJ:=[]) (inv:=[]) (av) (aj) (ax) (fn:=Tryz.f173) rfl (by kernel_rfl) (fun x=>by kernel_rfl)
noncomputable def DN:bO:=⟨Oy,oZ,rM⟩
theorem OO:Holds Tryz.prog aH 101 DN:=au (bF:=[(173,Ch)]) (aJ:=[]) (inv:=[]) ((ag Nn av)) (aj) (ax) (fn:=Tryz.f101) rfl (by kernel_rfl) (fun x=>by kernel_rfl)
noncomputable def x8:bO:=⟨Oy,vK,nD⟩
theorem DO:Holds Tryz.prog aH 44 x8:=au (bF:=[(101,DN)]) (aJ:=[]) (inv:=[]) ((ag OO av)) (aj) (ax) (fn:=Tryz.f44) rfl (by kernel_rfl) (fun x=>by kernel_rfl)
noncomputable def DP:bO:=⟨vK,Q9,fD⟩
theorem OP:Holds Tryz.prog aH 45 DP:=au (bF:=[]) (aJ:=[]) (inv:=[]) (av) (aj) (ax) (fn:=Tryz.f45) rfl (by kernel_rfl) (fun x=>by kernel_rfl)
noncomputable def Np:bO:=⟨(.pair (.int .i64) (.pair adh .unit)),(.pair Iq .unit),zI⟩
theorem We:Holds Tryz.prog aH 106 Np:=au (bF:=[]) (aJ:=[]) (inv:=[]) (av) (aj) (ax) (fn:=Tryz.f106) rfl (by kernel_rfl) (fun x=>by kernel_rfl)
noncomputable def x9:bO:=⟨Rb,(.pair Iq .unit),kP⟩
theorem DQ:Holds Tryz.prog aH 49 x9:=au (bF:=[(106,Np)]) (aJ:=[]) (inv:=[]) ((ag We av)) (aj) (ax) (fn:=Tryz.f49) rfl (by kernel_rfl) (fun x=>by kernel_rfl)
noncomputable def Ci:bO:=⟨Gl,oZ,BT⟩
theorem Nq:Holds Tryz.prog aH 174 Ci:=au (bF:=[]) (aJ:=[]) (inv:=[]) (av) (aj) (ax) (fn:=Tryz.f174) rfl (by kernel_rfl) (fun x=>by kernel_rfl)
noncomputable def GQ:bO:=⟨(.pair Iq eZ),tC,F8⟩
theorem Rt:Holds Tryz.prog aH 103 GQ:=au (bF:=[(174,Ci)]) (aJ:=[]) (inv:=[]) ((ag Nq av)) (aj) (ax) (fn:=Tryz.f103) rfl (by kernel_rfl) (fun x=>by kernel_rfl)
noncomputable def GR:bO:=⟨(.pair EB eZ),tC,F9⟩
theorem Ru:Holds Tryz.prog aH 47 GR:=au (bF:=[(49,x9),(103,GQ)]) (aJ:=[]) (inv:=[]) ((ag DQ (ag Rt av))) (aj) (ax) (fn:=Tryz.f47) rfl (by kernel_rfl) (fun x=>by kernel_rfl)
noncomputable def GS:bO:=⟨(.pair Iq eZ),vK,uE⟩
theorem Rv:Holds Tryz.prog aH 104 GS:=au (bF:=[]) (aJ:=[]) (inv:=[]) (av) (aj) (ax) (fn:=Tryz.f104) rfl (by kernel_rfl) (fun x=>by kernel_rfl)
noncomputable def Jy:bO:=⟨(.pair (.slice .str) eZ),oZ,wE⟩
theorem Ug:Holds Tryz.prog aH 105 Jy:=au (bF:=[]) (aJ:=[]) (inv:=[]) (av) (aj) (ax) (fn:=Tryz.f105) rfl (by kernel_rfl) (fun x=>by kernel_rfl)
noncomputable def GU:bO:=⟨(.pair Iq (.pair .str Oy)),vK,uF⟩
theorem Rw:Holds Tryz.prog aH 48 GU:=au (bF:=[(44,x8),(104,GS),(105,Jy)]) (aJ:=[]) (inv:=[]) ((ag DO (ag Rv (ag Ug av)))) (aj) (ax) (fn:=Tryz.f48) rfl (by kernel_rfl) (fun x=>by kernel_rfl)
noncomputable def Nr:bO:=⟨vK,eZ,zU⟩
theorem Wf:Holds Tryz.prog aH 107 Nr:=au (bF:=[]) (aJ:=[]) (inv:=[]) (av) (aj) (ax) (fn:=Tryz.f107) rfl (by kernel_rfl) (fun x=>by kernel_rfl)
noncomputable def DR:bO:=⟨(.pair Iq vK),tC,rY⟩
theorem OQ:Holds Tryz.prog aH 50 DR:=au (bF:=[(107,Nr)]) (aJ:=[]) (inv:=[]) ((ag Wf av)) (aj) (ax) (fn:=Tryz.f50) rfl (by kernel_rfl) (fun x=>by kernel_rfl)
noncomputable def GV:bO:=⟨(.pair EB (.pair tw eZ)),Rb,p6⟩
theorem Rx:Holds Tryz.prog aH 52 GV:=au (bF:=[(67,Ad)]) (aJ:=[]) (inv:=[]) ((ag GB av)) (aj) (ax) (fn:=Tryz.f52) rfl (by kernel_rfl) (fun x=>by kernel_rfl)
noncomputable def DT:bO:=⟨.unit,YD,xB⟩
theorem OR:Holds Tryz.prog aH 175 DT:=au (bF:=[]) (aJ:=[]) (inv:=[]) (av) (aj) (ax) (fn:=Tryz.f175) rfl (by kernel_rfl) (fun x=>by kernel_rfl)
noncomputable def DU:bO:=⟨eZ,eZ,rG⟩
theorem OS:Holds Tryz.prog aH 176 DU:=au (bF:=[]) (aJ:=[]) (inv:=[]) (av) (aj) (ax) (fn:=Tryz.f176) rfl (by kernel_rfl) (fun x=>by kernel_rfl)
noncomputable def GW:bO:=⟨(.pair (.int .u32) vK),(.pair (.int .u32) .unit),bL⟩
theorem Ry:Holds Tryz.prog aH 253 GW:=au (bF:=[]) (aJ:=[]) (inv:=[]) (av) (aj) (ax) (fn:=Tryz.f253) rfl (by kernel_rfl) (fun x=>by kernel_rfl)
noncomputable def Cj:bO:=⟨.unit,(.pair (.arr 64 (.int .u32)) .unit),vr⟩
theorem Nt:Holds Tryz.prog aH 254 Cj:=au (bF:=[]) (aJ:=[]) (inv:=[]) (av) (aj) (ax) (fn:=Tryz.f254) rfl (by kernel_rfl) (fun x=>by kernel_rfl)
noncomputable def DV:bO:=⟨(.pair (.arr 8 (.int .u32)) eZ),YD,rH⟩
theorem OT:Holds Tryz.prog aH 177 DV:=au (bF:=[(253,GW),(254,Cj)]) (aJ:=[]) (inv:=[]) ((ag Ry (ag Nt av))) (aj) (ax) (fn:=Tryz.f177) rfl (by kernel_rfl) (fun x=>by kernel_rfl)
noncomputable def Jz:bO:=⟨eZ,(.pair (.arr 32 (.int .u8)) .unit),wA⟩
theorem Uh:Holds Tryz.prog aH 109 Jz:=au (bF:=[(175,DT),(176,DU),(177,DV)]) (aJ:=[]) (inv:=[]) ((ag OR (ag OS (ag OT av)))) (aj) (ax) (fn:=Tryz.f109) rfl (by kernel_rfl) (fun x=>by kernel_rfl)
noncomputable def DW:bO:=⟨vK,YF,nA⟩
theorem OU:Holds Tryz.prog aH 178 DW:=au (bF:=[]) (aJ:=[]) (inv:=[]) (av) (aj) (ax) (fn:=Tryz.f178) rfl (by kernel_rfl) (fun x=>by kernel_rfl)
noncomputable def JA:bO:=⟨eZ,eZ,wC⟩
theorem Ui:Holds Tryz.prog aH 110 JA:=au (bF:=[(178,DW)]) (aJ:=[]) (inv:=[]) ((ag OU av)) (aj) (ax) (fn:=Tryz.f110) rfl (by kernel_rfl) (fun x=>by kernel_rfl)
noncomputable def Nu:bO:=⟨eZ,eZ,zA⟩
theorem Wg:Holds Tryz.prog aH 53 Nu:=au (bF:=[(109,Jz),(110,JA)]) (aJ:=[]) (inv:=[]) ((ag Uh (ag Ui av))) (aj) (ax) (fn:=Tryz.f53) rfl (by kernel_rfl) (fun x=>by kernel_rfl)
noncomputable def Ck:bO:=⟨(.pair EB (.pair .str (.pair (.slice .str) tC))),(.pair EB Q9),p7⟩
theorem Nv:Holds Tryz.prog aH 9 Ck:=au (bF:=[(16,GP),(17,x7),(23,Ac),(44,x8),(45,DP),(46,x6),(47,GR),(48,GU),(49,x9),(50,DR),(51,x4),(52,GV),(53,Nu)]) (aJ:=[]) (inv:=[]) ((ag Rs (ag DM (ag Gy (ag DO (ag OP (ag DJ (ag Ru (ag Rw (ag DQ (ag OQ (ag DD (ag Rx (ag Wg av)))))))))))))) (aj) (ax) (fn:=Tryz.f9) rfl (by kernel_rfl) (fun x=>by kernel_rfl)
noncomputable def CU:bO:=⟨(.pair EB (.pair (.slice .str) vK)),oZ,jw⟩
theorem CV:Holds Tryz.prog aH 3 CU:=au (bF:=[(5,Jl),(6,yS),(7,DC),(8,tI),(9,Ck),(10,z8)]) (aJ:=[]) (inv:=[]) ((ag T3 (ag Is (ag OH (ag AM (ag Nv (ag Gw av))))))) (aj) (ax) (fn:=Tryz.f3) rfl (by kernel_rfl) (fun x=>by kernel_rfl)
end Go.Proofs.YtdpbdiikloedbaaGreatDoor
