/- The layer's functions keep their contracts: each comes to its plain definition, by the ghost interpreter. -/
import Derived.Test.YtpipdmfkbnbchaaGreatDoorRows
import Derived.Test.YtpipdmfkbnbchaaGreatDoorPlF
import Derived.Test.YtpipdmfkbnbchaaGreatDoorBld
import Derived.Test.YtpipdmfkbnbchaaGreatDoorShelf
namespace Go.Proofs.YtpipdmfkbnbchaaGreatDoor
open Go Go.Ge
set_option linter.unusedVariables false
set_option linter.unusedSectionVars false
set_option maxRecDepth 100000
variable [Lp]
abbrev K3:Ty:=(.pair (.slice (.pair .str (.pair (.slice .str) (.pair .str (.pair .str (.pair .str (.pair (.slice (.pair .str (.pair .str (.pair .str .unit)))) .unit))))))) (.pair (.slice (.pair .str (.pair (.slice .str) (.pair .str (.pair .str (.pair (.slice (.pair .str (.pair .str (.pair .str .unit)))) .unit)))))) (.pair (.slice (.pair .str (.pair .str (.pair (.slice .str) (.pair .str (.pair (.int .i64) (.pair (.int .i64) (.pair .bool .unit)))))))) (.pair (.slice .str) (.pair (.slice (.pair .str (.pair (.int .i64) .unit))) .unit)))))
abbrev vS:Ty:=(.pair .str (.pair (.slice .str) (.pair .str (.pair .str (.pair (.slice (.pair .str (.pair .str (.pair .str .unit)))) .unit)))))
abbrev jO:Ty:=(.pair .str .unit)
abbrev Tb:Ty:=(.pair .str (.pair (.int .i64) (.pair (.int .i64) (.pair .str jO))))
abbrev XP:Ty:=(.pair .str (.pair .str (.pair (.slice .str) (.pair .str (.pair (.int .i64) (.pair (.int .i64) (.pair .bool .unit)))))))
abbrev vT:Ty:=(.pair .str (.pair .str jO))
abbrev XQ:Ty:=(.pair .str (.pair (.int .i64) (.pair (.int .i64) (.pair (.int .i64) (.pair (.int .i64) (.pair (.int .i64) (.pair (.int .i64) jO)))))))
abbrev ye:Ty:=(.pair (.int .i64) .unit)
abbrev YH8:Ty:=(.pair .str (.pair (.slice .str) (.pair .str (.pair .str (.pair .str (.pair (.slice vT) .unit))))))
abbrev sD:Ty:=(.pair .bool .unit)
abbrev FF:Ty:=(.pair (.slice .str) .unit)
abbrev XR:Ty:=(.pair (.int .i64) (.pair (.slice XP) (.pair (.slice vS) (.pair (.slice YH8) .unit))))
abbrev Vv:Ty:=(.pair (.arr 8 (.int .u32)) .unit)
abbrev Zx:Ty:=(.pair (.int .i64) (.pair .str (.pair (.int .i64) jO)))
abbrev Qv:Ty:=(.slice (.pair .str FF))
abbrev Tc:Ty:=(.pair (.slice vT) .unit)
abbrev Ho:Ty:=(.pair .str ye)
abbrev Td:Ty:=(.pair (.int .u8) .unit)
abbrev Te:Ty:=(.pair (.slice Tb) jO)
abbrev aa2:Ty:=(.pair (.pair .bool Vv) (.pair (.arr 64 (.int .u8)) ye))
abbrev Vw:Ty:=(.pair (.slice Tb) ye)
abbrev NZ:Ty:=(.pair .str jO)
abbrev XS:Ty:=(.pair (.slice vS) .unit)
noncomputable def gr:Nat→za
 | 4=>⟨[none,none],[]⟩
 | 5=>⟨[some ⟨[(2,4),(3,3)],[],false⟩,none,none,some ⟨[(2,4),(4,3)],[],false⟩,none,none,some ⟨[(2,4),(5,3)],[],false⟩,none,none],[]⟩
 | 6=>⟨[],[]⟩
 | 7=>⟨[none,none],[]⟩
 | 9=>⟨[none],[]⟩
 | 11=>⟨[none,some ⟨[(4,4),(5,3)],[],false⟩,none,none],[]⟩
 | 12=>⟨[some ⟨[(2,4),(3,3)],[],false⟩,none,none],[]⟩
 | 13=>⟨[some ⟨[(2,4),(3,3)],[],false⟩,none,none],[]⟩
 | 14=>⟨[none,some ⟨[(2,4),(3,3)],[],false⟩,none,none,some ⟨[(2,4),(4,3)],[],false⟩,none,some ⟨[(6,4),(7,3)],[],false⟩,none,none,some ⟨[(2,4),(8,3)],[],false⟩,none,none],[]⟩
 | 15=>⟨[none,some ⟨[(13,33)],[12],false⟩,some ⟨[(13,33)],[],false⟩,some ⟨[(13,33)],[12],false⟩,none],[]⟩
 | 16=>⟨[none,none],[]⟩
 | 17=>⟨[],[]⟩
 | 18=>⟨[],[]⟩
 | 19=>⟨[some ⟨[(5,4),(11,3)],[4],false⟩,none,none],[]⟩
 | 20=>⟨[some ⟨[(2,4),(3,3)],[],false⟩,none,none],[]⟩
 | 21=>⟨[some ⟨[(2,4),(3,3)],[],false⟩,none,none],[]⟩
 | 22=>⟨[],[]⟩
 | 23=>⟨[],[]⟩
 | 24=>⟨[],[]⟩
 | 25=>⟨[some ⟨[(8,3)],[],false⟩],[]⟩
 | 26=>⟨[],[]⟩
 | 27=>⟨[some ⟨[(2,4),(3,3)],[],false⟩,none,none],[]⟩
 | 28=>⟨[],[]⟩
 | 29=>⟨[some ⟨[(2,4),(3,3)],[],false⟩,none,none],[]⟩
 | 30=>⟨[none,some ⟨[(4,33),(6,3)],[],false⟩,none,none,some ⟨[(4,33),(7,3)],[],false⟩,none,none,some ⟨[(4,33),(8,3)],[],false⟩,none,none,some ⟨[(4,33),(11,3)],[],false⟩,none,none,some ⟨[(4,33),(12,3)],[],false⟩,none,some ⟨[(4,33),(13,3)],[],false⟩,none,none],[]⟩
 | 31=>⟨[none,some ⟨[(2,4),(3,3)],[],false⟩,none,none,none],[]⟩
 | 32=>⟨[some ⟨[(4,3),(5,3)],[],false⟩,none,none],[]⟩
 | 33=>⟨[none],[7]⟩
 | 34=>⟨[],[]⟩
 | 35=>⟨[],[]⟩
 | 36=>⟨[none,some ⟨[(6,33),(21,3)],[5],false⟩,none,none],[]⟩
 | 37=>⟨[],[]⟩
 | 38=>⟨[none,some ⟨[(4,9),(5,33),(17,3),(0,999999)],[0],false⟩,none,none],[]⟩
 | 39=>⟨[],[]⟩
 | 40=>⟨[],[]⟩
 | 41=>⟨[],[]⟩
 | 42=>⟨[some ⟨[(7,27)],[7,8],false⟩],[10]⟩
 | 43=>⟨[],[]⟩
 | 44=>⟨[none,some ⟨[(4,4),(5,3)],[],false⟩,none,none],[]⟩
 | 45=>⟨[none,some ⟨[(4,4),(5,3)],[],false⟩,none,none],[]⟩
 | 46=>⟨[none,some ⟨[(4,4),(5,3)],[],false⟩,none,none],[]⟩
 | 47=>⟨[none,some ⟨[(4,4),(5,3)],[],false⟩,none,none],[]⟩
 | 48=>⟨[none,some ⟨[(4,4),(5,3)],[],false⟩,none,none],[]⟩
 | 49=>⟨[none,none,some ⟨[(7,24),(27,3)],[7],false⟩,none,some ⟨[(7,24)],[7],false⟩,none,none],[7]⟩
 | 50=>⟨[none],[5]⟩
 | 51=>⟨[none],[5]⟩
 | 52=>⟨[none,none,none],[]⟩
 | 53=>⟨[some ⟨[(4,3),(8,3)],[1],false⟩,none,none],[]⟩
 | 54=>⟨[],[]⟩
 | 55=>⟨[some ⟨[(7,22)],[7,8],false⟩],[10]⟩
 | 56=>⟨[],[]⟩
 | 58=>⟨[],[]⟩
 | 59=>⟨[some ⟨[(9,3)],[3],false⟩,none],[]⟩
 | 60=>⟨[some ⟨[(5,3)],[3],false⟩,none,some ⟨[(7,3)],[6],false⟩,none],[]⟩
 | 61=>⟨[some ⟨[(3,99),(4,3)],[3],false⟩,none],[3]⟩
 | 62=>⟨[],[]⟩
 | 63=>⟨[],[]⟩
 | 64=>⟨[],[]⟩
 | 65=>⟨[some ⟨[(4,24),(5,24),(6,3)],[4,5],false⟩,none,some ⟨[(4,24),(5,24),(7,3)],[4,5],false⟩,none,some ⟨[(4,24),(5,24),(8,3)],[4,5],false⟩,none],[4,5]⟩
 | 66=>⟨[some ⟨[(2,33),(3,3)],[],false⟩,none,none],[]⟩
 | 67=>⟨[none],[]⟩
 | 68=>⟨[none,some ⟨[(8,24),(9,3)],[8],false⟩,none],[8]⟩
 | 71=>⟨[],[]⟩
 | 72=>⟨[],[]⟩
 | 73=>⟨[],[]⟩
 | 74=>⟨[],[]⟩
 | 75=>⟨[],[]⟩
 | 76=>⟨[],[]⟩
 | 77=>⟨[some ⟨[],[5,6],false⟩,some ⟨[(20,3)],[5,6],false⟩,none,some ⟨[],[5,6],false⟩,some ⟨[(36,3)],[5,6],false⟩,none,some ⟨[],[5,6],false⟩,some ⟨[(52,3)],[5,6],false⟩,none,some ⟨[],[5,6,12],false⟩],[5]⟩
 | 78=>⟨[],[]⟩
 | 79=>⟨[],[]⟩
 | 80=>⟨[],[]⟩
 | 81=>⟨[some ⟨[(8,3)],[],false⟩],[]⟩
 | 82=>⟨[some ⟨[(4,3),(8,3)],[1],false⟩,none,none],[]⟩
 | 83=>⟨[none],[5]⟩
 | 84=>⟨[],[]⟩
 | 86=>⟨[some ⟨[(4,3),(8,3)],[1],false⟩,none,none],[]⟩
 | 87=>⟨[],[]⟩
 | 88=>⟨[],[]⟩
 | 89=>⟨[some ⟨[(0,9)],[],false⟩,none],[]⟩
 | 90=>⟨[some ⟨[(0,9)],[],false⟩,none],[]⟩
 | 91=>⟨[some ⟨[(3,4),(4,3)],[2],false⟩,none,none],[]⟩
 | 92=>⟨[some ⟨[(0,9)],[1],false⟩,none,none],[]⟩
 | 93=>⟨[some ⟨[(0,9)],[1],false⟩,none,none],[]⟩
 | 99=>⟨[none,some ⟨[(1,9)],[0],false⟩,none,some ⟨[],[0],false⟩],[]⟩
 | 100=>⟨[some ⟨[],[3],false⟩,some ⟨[],[3],false⟩,none,some ⟨[(26,3)],[5],false⟩,none,some ⟨[(41,3)],[7],false⟩,none],[]⟩
 | 101=>⟨[],[]⟩
 | 103=>⟨[],[]⟩
 | 104=>⟨[some ⟨[(3,99)],[0,3],false⟩,none,some ⟨[(3,99),(5,3)],[3],false⟩,none],[]⟩
 | 105=>⟨[some ⟨[(6,3)],[5],false⟩,none,some ⟨[(7,3)],[5],false⟩,none,some ⟨[(12,3)],[11],false⟩,none,some ⟨[(17,3)],[11],false⟩,none],[]⟩
 | 106=>⟨[none],[]⟩
 | 107=>⟨[],[]⟩
 | 108=>⟨[some ⟨[(2,4),(3,3)],[],false⟩,none,none,some ⟨[(2,4),(4,3)],[],false⟩,none,none],[]⟩
 | 109=>⟨[none,none],[]⟩
 | 110=>⟨[some ⟨[(1,9),(4,28),(5,33),(6,28),(7,3)],[6],true⟩,none,none,none,none],[6]⟩
 | 111=>⟨[none],[]⟩
 | 112=>⟨[some ⟨[(2,4),(3,3)],[],false⟩,none,none],[]⟩
 | 113=>⟨[none],[]⟩
 | 114=>⟨[some ⟨[(2,107),(3,33),(4,107),(5,3)],[],false⟩,none,none],[]⟩
 | 117=>⟨[some ⟨[(4,3),(8,3)],[1],false⟩,none,none],[]⟩
 | 118=>⟨[],[]⟩
 | 119=>⟨[some ⟨[(4,3),(8,3)],[],false⟩,none,none],[]⟩
 | 120=>⟨[],[]⟩
 | 121=>⟨[],[]⟩
 | 122=>⟨[some ⟨[(4,3),(8,3)],[1],false⟩,none,none],[]⟩
 | 123=>⟨[],[]⟩
 | 125=>⟨[],[]⟩
 | 126=>⟨[],[]⟩
 | 127=>⟨[],[]⟩
 | 132=>⟨[some ⟨[],[0],false⟩,some ⟨[(6,137),(7,137),(8,137),(9,137),(10,137),(11,137),(12,137),(13,137),(74,3)],[],false⟩,none,some ⟨[(143,3)],[0],false⟩,none],[]⟩
 | 134=>⟨[],[]⟩
 | 135=>⟨[],[]⟩
 | 136=>⟨[none,some ⟨[(2,9),(3,4),(4,99),(5,3)],[4],false⟩,none,none],[4]⟩
 | 137=>⟨[some ⟨[(4,3),(5,3)],[],false⟩,none,none],[]⟩
 | 138=>⟨[none,some ⟨[(0,9),(2,159),(3,4),(4,159)],[4],true⟩,none,none,none],[4]⟩
 | 139=>⟨[none,none,none,none],[]⟩
 | 140=>⟨[none,none],[]⟩
 | 158=>⟨[],[]⟩
 | 159=>⟨[],[]⟩
 | 160=>⟨[some ⟨[(12,3)],[3],false⟩,none,some ⟨[(22,3)],[3],false⟩,none,some ⟨[(7,3)],[3],false⟩,none],[]⟩
 | 161=>⟨[],[]⟩
 | 163=>⟨[some ⟨[(2,3),(3,3)],[],false⟩,none,none],[]⟩
 | 164=>⟨[some ⟨[(2,4),(3,3)],[],false⟩,none,none],[]⟩
 | 165=>⟨[none,some ⟨[(2,4),(3,3)],[],false⟩,none,none],[]⟩
 | 166=>⟨[none,some ⟨[],[11],false⟩,some ⟨[(74,4)],[],false⟩,some ⟨[],[11],false⟩,some ⟨[],[11],false⟩,some ⟨[],[11],false⟩,none],[]⟩
 | 167=>⟨[some ⟨[(0,3)],[],false⟩,none],[]⟩
 | 168=>⟨[some ⟨[(5,24),(6,3)],[5],false⟩,none,some ⟨[(5,24)],[5],false⟩,none],[5]⟩
 | 169=>⟨[none],[]⟩
 | 170=>⟨[none,none,none],[]⟩
 | 171=>⟨[none,none],[]⟩
 | 172=>⟨[some ⟨[(2,4),(4,9),(5,3)],[],false⟩,none,none],[]⟩
 | 173=>⟨[none,none,none],[]⟩
 | 174=>⟨[],[]⟩
 | 175=>⟨[none,some ⟨[(2,4),(3,3)],[],false⟩,none,none],[]⟩
 | 176=>⟨[none,none,some ⟨[(0,107),(6,3)],[],false⟩,none,some ⟨[(0,107)],[],false⟩,some ⟨[(0,107)],[],false⟩,some ⟨[(0,107),(4,107),(5,33),(10,3)],[],false⟩,none,none,none,none],[]⟩
 | 188=>⟨[],[]⟩
 | 189=>⟨[some ⟨[(3,3)],[],false⟩,none,none,some ⟨[(2,3),(4,3)],[],false⟩,none,none,none],[]⟩
 | 190=>⟨[some ⟨[(3,3),(4,3)],[],false⟩,none,some ⟨[(3,3)],[],false⟩],[]⟩
 | 191=>⟨[some ⟨[(2,9),(3,4),(4,3)],[],false⟩,none,none,some ⟨[(2,9),(3,4),(5,3)],[],false⟩,none,none],[]⟩
 | 192=>⟨[some ⟨[(5,4)],[],false⟩],[]⟩
 | 193=>⟨[none,some ⟨[(3,24),(4,9),(5,3)],[3],false⟩,none,some ⟨[(3,24),(4,9)],[3],false⟩],[3]⟩
 | 194=>⟨[some ⟨[(3,9),(4,3)],[],false⟩,none,some ⟨[(3,9)],[],false⟩],[]⟩
 | 195=>⟨[some ⟨[(2,4),(4,3)],[],false⟩,none,none],[]⟩
 | 196=>⟨[],[]⟩
 | 197=>⟨[some ⟨[(2,4),(3,3)],[],false⟩,none,none],[]⟩
 | 198=>⟨[],[]⟩
 | 199=>⟨[some ⟨[(4,3),(7,3)],[],false⟩,none,none,none,none,none],[]⟩
 | 200=>⟨[none],[]⟩
 | 201=>⟨[none],[]⟩
 | 202=>⟨[some ⟨[(0,107),(4,107),(5,33),(7,9),(8,3)],[],false⟩,none,none,none],[]⟩
 | 203=>⟨[none,none,none,some ⟨[(8,22),(0,999999)],[0],true⟩,some ⟨[(8,22),(0,999999)],[0],true⟩,none,some ⟨[(12,3)],[],false⟩,none],[10,11]⟩
 | 207=>⟨[none,some ⟨[(2,3),(3,4),(4,3),(5,3)],[],false⟩,none,none],[]⟩
 | 208=>⟨[some ⟨[(4,4),(5,3)],[],false⟩,none,none],[]⟩
 | 209=>⟨[],[]⟩
 | 210=>⟨[some ⟨[(2,4),(3,3)],[],false⟩,none,none],[]⟩
 | 211=>⟨[some ⟨[(4,3),(5,3)],[],false⟩,none,none],[]⟩
 | 212=>⟨[some ⟨[(7,107),(8,3)],[7],false⟩,none,some ⟨[(7,107)],[7],false⟩],[7]⟩
 | 213=>⟨[none],[]⟩
 | 215=>⟨[none,some ⟨[(4,4),(7,3)],[],false⟩,none,none],[]⟩
 | _=>⟨[],[]⟩
def sY:List (Nat×List nw):=[(148,[.self,.buf (.int .u8) 5])]
def els:List (Nat×Nat):=[(99,5)]
noncomputable def QX:List (Nat×Vz):=[(102,.str 148 5),(133,.VH 148),(50,.clone .str),(51,.clone vT),(83,.clone vS),(57,(.own vT (.pair (.int .i64) Tc) true aX)),(69,(.own .str .unit false dz)),(70,(.own .str .unit true dS)),(85,(.own vS (.pair (.int .i64) ye) true bh)),(96,(.own vT (.pair (.int .i64) ye) true b6)),(124,(.own vS (.pair (.int .i64) XS) true bJ))]
noncomputable def tys:List (Nat×Ty):=[(3,(.int .i64)),(4,.bool),(5,(.int .u8)),(9,.str),(21,(.int .i32)),(22,(.slice vT)),(24,(.slice .str)),(26,vS),(27,(.slice vS)),(28,(.slice XP)),(29,(.slice YH8)),(31,XR),(33,(.int .i64)),(41,vT),(43,(.slice Ho)),(45,K3),(46,(.arr 2 .str)),(49,Zx),(60,XP),(62,YH8),(72,Ho),(76,Qv),(97,(.arr 32 (.int .u8))),(99,(.slice (.int .u8))),(100,(.arr 4 (.int .i64))),(107,(.slice Tb)),(114,(.pair .str FF)),(130,(.arr 256 .bool)),(137,(.int .u32)),(138,(.arr 8 (.int .u32))),(140,(.pair .bool Vv)),(141,(.arr 64 (.int .u8))),(143,aa2),(152,(.int .u64)),(159,(.slice (.pair XQ jO))),(178,(.int .u64)),(179,(.arr 8 (.int .u8))),(181,(.arr 64 (.int .u32))),(192,XQ),(194,(.pair XQ jO)),(197,(.int .i64)),(224,Tb),(228,(.int .u64)),(234,(.arr 256 (.int .u8))),(236,(.pair (.int .u8) Td)),(237,(.arr 16 (.pair (.int .u8) Td)))]
noncomputable def Vx:List (Nat×Func):=[(4,Tryz.f4),(5,Tryz.f5),(6,Tryz.f6),(7,Tryz.f7),(9,Tryz.f9),(11,Tryz.f11),(12,Tryz.f12),(13,Tryz.f13),(14,Tryz.f14),(15,Tryz.f15),(16,Tryz.f16),(17,Tryz.f17),(18,Tryz.f18),(19,Tryz.f19),(20,Tryz.f20),(21,Tryz.f21),(22,Tryz.f22),(23,Tryz.f23),(24,Tryz.f24),(25,Tryz.f25),(26,Tryz.f26),(27,Tryz.f27),(28,Tryz.f28),(29,Tryz.f29),(30,Tryz.f30),(31,Tryz.f31),(32,Tryz.f32),(33,Tryz.f33),(34,Tryz.f34),(35,Tryz.f35),(36,Tryz.f36),(37,Tryz.f37),(38,Tryz.f38),(39,Tryz.f39),(40,Tryz.f40),(41,Tryz.f41),(42,Tryz.f42),(43,Tryz.f43),(44,Tryz.f44),(45,Tryz.f45),(46,Tryz.f46),(47,Tryz.f47),(48,Tryz.f48),(49,Tryz.f49),(50,Tryz.f50),(51,Tryz.f51),(52,Tryz.f52),(53,Tryz.f53),(54,Tryz.f54),(55,Tryz.f55),(56,Tryz.f56),(58,Tryz.f58),(59,Tryz.f59),(60,Tryz.f60),(61,Tryz.f61),(62,Tryz.f62),(63,Tryz.f63),(64,Tryz.f64),(65,Tryz.f65),(66,Tryz.f66),(67,Tryz.f67),(68,Tryz.f68),(71,Tryz.f71),(72,Tryz.f72),(73,Tryz.f73),(74,Tryz.f74),(75,Tryz.f75),(76,Tryz.f76),(77,Tryz.f77),(78,Tryz.f78),(79,Tryz.f79),(80,Tryz.f80),(81,Tryz.f81),(82,Tryz.f82),(83,Tryz.f83),(84,Tryz.f84),(86,Tryz.f86),(87,Tryz.f87),(88,Tryz.f88),(89,Tryz.f89),(90,Tryz.f90),(91,Tryz.f91),(92,Tryz.f92),(93,Tryz.f93),(99,Tryz.f99),(100,Tryz.f100),(101,Tryz.f101),(103,Tryz.f103),(104,Tryz.f104),(105,Tryz.f105),(106,Tryz.f106),(107,Tryz.f107),(108,Tryz.f108),(109,Tryz.f109),(110,Tryz.f110),(111,Tryz.f111),(112,Tryz.f112),(113,Tryz.f113),(114,Tryz.f114),(117,Tryz.f117),(118,Tryz.f118),(119,Tryz.f119),(120,Tryz.f120),(121,Tryz.f121),(122,Tryz.f122),(123,Tryz.f123),(125,Tryz.f125),(126,Tryz.f126),(127,Tryz.f127),(132,Tryz.f132),(134,Tryz.f134),(135,Tryz.f135),(136,Tryz.f136),(137,Tryz.f137),(138,Tryz.f138),(139,Tryz.f139),(140,Tryz.f140),(158,Tryz.f158),(159,Tryz.f159),(160,Tryz.f160),(161,Tryz.f161),(163,Tryz.f163),(164,Tryz.f164),(165,Tryz.f165),(166,Tryz.f166),(167,Tryz.f167),(168,Tryz.f168),(169,Tryz.f169),(170,Tryz.f170),(171,Tryz.f171),(172,Tryz.f172),(173,Tryz.f173),(174,Tryz.f174),(175,Tryz.f175),(176,Tryz.f176),(188,Tryz.f188),(189,Tryz.f189),(190,Tryz.f190),(191,Tryz.f191),(192,Tryz.f192),(193,Tryz.f193),(194,Tryz.f194),(195,Tryz.f195),(196,Tryz.f196),(197,Tryz.f197),(198,Tryz.f198),(199,Tryz.f199),(200,Tryz.f200),(201,Tryz.f201),(202,Tryz.f202),(203,Tryz.f203),(207,Tryz.f207),(208,Tryz.f208),(209,Tryz.f209),(210,Tryz.f210),(211,Tryz.f211),(212,Tryz.f212),(213,Tryz.f213),(215,Tryz.f215)]
def sE:List Nat:=[63,65,81,83,94,102,119,134,146,169,176,180,209,232,248]
def AX:List Nat:=[134,146,176,180,209,232,248]
noncomputable def Qw(cW:List (Nat×dG))(bw:List (Nat×AW))(inv:List (String×dG):=[]):Ctx:=⟨tys,sE,AX,Vx,cW,bw,sY,QX,els,inv⟩
theorem mix:Tryz.prog.follows .mixedOrders=true:=by kernel_rfl
theorem XT:∀tid t,find tys tid=some t→Den Tryz.prog t tid:=aao (by kernel_rfl)
theorem TW:∀tid,dJ sE tid=true→(∀w,(isAgg tid).run Tryz.prog w=.ok false w)∧(∀w,(Go.sizeOf tid).run Tryz.prog w=.ok 1 w)∧∃z,(∀w,(zeroValue tid).run Tryz.prog w=.ok z w)∧z.oneCell'=true:=YP (by kernel_rfl)
theorem TX:∀tid,dJ AX tid=true→∃e,Tryz.prog.underlying tid=some (.pointer e):=YQ (by kernel_rfl)
theorem XU:∀f fn,find Vx f=some fn→Tryz.prog.funcs[f]?=some fn:=aap ((ak Tryz.func4 (ak Tryz.func5 (ak Tryz.func6 (ak Tryz.func7 (ak Tryz.func9 (ak Tryz.func11 (ak Tryz.func12 (ak Tryz.func13 (ak Tryz.func14 (ak Tryz.func15 (ak Tryz.func16 (ak Tryz.func17 (ak Tryz.func18 (ak Tryz.func19 (ak Tryz.func20 (ak Tryz.func21 (ak Tryz.func22 (ak Tryz.func23 (ak Tryz.func24 (ak Tryz.func25 (ak Tryz.func26 (ak Tryz.func27 (ak Tryz.func28 (ak Tryz.func29 (ak Tryz.func30 (ak Tryz.func31 (ak Tryz.func32 (ak Tryz.func33 (ak Tryz.func34 (ak Tryz.func35 (ak Tryz.func36 (ak Tryz.func37 (ak Tryz.func38 (ak Tryz.func39 (ak Tryz.func40 (ak Tryz.func41 (ak Tryz.func42 (ak Tryz.func43 (ak Tryz.func44 (ak Tryz.func45 (ak Tryz.func46 (ak Tryz.func47 (ak Tryz.func48 (ak Tryz.func49 (ak Tryz.func50 (ak Tryz.func51 (ak Tryz.func52 (ak Tryz.func53 (ak Tryz.func54 (ak Tryz.func55 (ak Tryz.func56 (ak Tryz.func58 (ak Tryz.func59 (ak Tryz.func60 (ak Tryz.func61 (ak Tryz.func62 (ak Tryz.func63 (ak Tryz.func64 (ak Tryz.func65 (ak Tryz.func66 (ak Tryz.func67 (ak Tryz.func68 (ak Tryz.func71 (ak Tryz.func72 (ak Tryz.func73 (ak Tryz.func74 (ak Tryz.func75 (ak Tryz.func76 (ak Tryz.func77 (ak Tryz.func78 (ak Tryz.func79 (ak Tryz.func80 (ak Tryz.func81 (ak Tryz.func82 (ak Tryz.func83 (ak Tryz.func84 (ak Tryz.func86 (ak Tryz.func87 (ak Tryz.func88 (ak Tryz.func89 (ak Tryz.func90 (ak Tryz.func91 (ak Tryz.func92 (ak Tryz.func93 (ak Tryz.func99 (ak Tryz.func100 (ak Tryz.func101 (ak Tryz.func103 (ak Tryz.func104 (ak Tryz.func105 (ak Tryz.func106 (ak Tryz.func107 (ak Tryz.func108 (ak Tryz.func109 (ak Tryz.func110 (ak Tryz.func111 (ak Tryz.func112 (ak Tryz.func113 (ak Tryz.func114 (ak Tryz.func117 (ak Tryz.func118 (ak Tryz.func119 (ak Tryz.func120 (ak Tryz.func121 (ak Tryz.func122 (ak Tryz.func123 (ak Tryz.func125 (ak Tryz.func126 (ak Tryz.func127 (ak Tryz.func132 (ak Tryz.func134 (ak Tryz.func135 (ak Tryz.func136 (ak Tryz.func137 (ak Tryz.func138 (ak Tryz.func139 (ak Tryz.func140 (ak Tryz.func158 (ak Tryz.func159 (ak Tryz.func160 (ak Tryz.func161 (ak Tryz.func163 (ak Tryz.func164 (ak Tryz.func165 (ak Tryz.func166 (ak Tryz.func167 (ak Tryz.func168 (ak Tryz.func169 (ak Tryz.func170 (ak Tryz.func171 (ak Tryz.func172 (ak Tryz.func173 (ak Tryz.func174 (ak Tryz.func175 (ak Tryz.func176 (ak Tryz.func188 (ak Tryz.func189 (ak Tryz.func190 (ak Tryz.func191 (ak Tryz.func192 (ak Tryz.func193 (ak Tryz.func194 (ak Tryz.func195 (ak Tryz.func196 (ak Tryz.func197 (ak Tryz.func198 (ak Tryz.func199 (ak Tryz.func200 (ak Tryz.func201 (ak Tryz.func202 (ak Tryz.func203 (ak Tryz.func207 (ak Tryz.func208 (ak Tryz.func209 (ak Tryz.func210 (ak Tryz.func211 (ak Tryz.func212 (ak Tryz.func213 (ak Tryz.func215 YR))))))))))))))))))))))))))))))))))))))))))))))))))))))))))))))))))))))))))))))))))))))))))))))))))))))))))))))))))))))))))))))))))))))))))))))))))))))))))))))))
theorem TY:∀tid fs,find sY tid=some fs→Ka Tryz.prog tid fs=true:=YS (by kernel_rfl)
theorem XV:∀tid e,find els tid=some e→Tryz.prog.underlying tid=some (.slice e):=aaq (by kernel_rfl)
theorem Qx(cW:List (Nat×dG))(bw:List (Nat×AW))(inv:List (String×dG):=[]):fC Tryz.prog (Qw cW bw inv):=⟨XT,TW,TX,XU,TY,XV⟩
noncomputable def VZ:Ctx:=⟨tys,sE,AX,Vx,[],[],sY,[],els,[]⟩
theorem Tf:fC Tryz.prog VZ:=⟨XT,TW,TX,XU,TY,XV⟩
theorem sK:jH Tryz.prog 50 (.clone .str):=by
 refine Fa (P:=Tryz.prog) (cx:=VZ) (bf:=[2,5]) (e:=.str) (tid:=24) (fn:=Tryz.f50) (s0:=fun l=>((zb (fun _=>none) [.data (.slice .str) l]).cr 2 { val:=.data (.slice .str) ([]:List (.str:Ty).den),tid:=0,buf:=true,ro:=false,lk:=false,aC:=0 }).put 2 (.whole 2 0)) mix Tf (rY aA av HE aB) Tryz.func50 (by kernel_rfl)
  (by rfl) rfl (by decide) (by decide) rfl rfl rfl rfl rfl rfl (fun l=>by rfl) (fun l=>rfl) (fun l=>rfl) (fun l=>rfl) (fun l=>by rfl) (fun l hl=>?_)
 have key:∀m:List (.str:Ty).den,fits (len m)=true→aj (fits (plus (len ([]:List (.str:Ty).den)) (len m))) (some (app [] m)) none=some m:=by
  intro m hm
  have e:plus (len ([]:List (.str:Ty).den)) (len m)=len m:=by simp[plus,len]
  rw[e,hm]
  rfl
 exact Eq.trans (b:=aj (fits (plus (len ([]:List (.str:Ty).den)) (len (α:=(.str:Ty).den) l))) (some (app (α:=(.str:Ty).den) [] l)) none) (by rfl) (key l hl)
theorem qp:jH Tryz.prog 51 (.clone vT):=by
 refine Fa (P:=Tryz.prog) (cx:=VZ) (bf:=[2,5]) (e:=vT) (tid:=22) (fn:=Tryz.f51) (s0:=fun l=>((zb (fun _=>none) [.data (.slice vT) l]).cr 2 { val:=.data (.slice vT) ([]:List (vT:Ty).den),tid:=0,buf:=true,ro:=false,lk:=false,aC:=0 }).put 2 (.whole 2 0)) mix Tf (rY aA av HE aB) Tryz.func51 (by kernel_rfl)
  (by rfl) rfl (by decide) (by decide) rfl rfl rfl rfl rfl rfl (fun l=>by rfl) (fun l=>rfl) (fun l=>rfl) (fun l=>rfl) (fun l=>by rfl) (fun l hl=>?_)
 have key:∀m:List (vT:Ty).den,fits (len m)=true→aj (fits (plus (len ([]:List (vT:Ty).den)) (len m))) (some (app [] m)) none=some m:=by
  intro m hm
  have e:plus (len ([]:List (vT:Ty).den)) (len m)=len m:=by simp[plus,len]
  rw[e,hm]
  rfl
 exact Eq.trans (b:=aj (fits (plus (len ([]:List (vT:Ty).den)) (len (α:=(vT:Ty).den) l))) (some (app (α:=(vT:Ty).den) [] l)) none) (by rfl) (key l hl)
theorem oO:jH Tryz.prog 83 (.clone vS):=by
 refine Fa (P:=Tryz.prog) (cx:=VZ) (bf:=[2,5]) (e:=vS) (tid:=27) (fn:=Tryz.f83) (s0:=fun l=>((zb (fun _=>none) [.data (.slice vS) l]).cr 2 { val:=.data (.slice vS) ([]:List (vS:Ty).den),tid:=0,buf:=true,ro:=false,lk:=false,aC:=0 }).put 2 (.whole 2 0)) mix Tf (rY aA av HE aB) Tryz.func83 (by kernel_rfl)
  (by rfl) rfl (by decide) (by decide) rfl rfl rfl rfl rfl rfl (fun l=>by rfl) (fun l=>rfl) (fun l=>rfl) (fun l=>rfl) (fun l=>by rfl) (fun l hl=>?_)
 have key:∀m:List (vS:Ty).den,fits (len m)=true→aj (fits (plus (len ([]:List (vS:Ty).den)) (len m))) (some (app [] m)) none=some m:=by
  intro m hm
  have e:plus (len ([]:List (vS:Ty).den)) (len m)=len m:=by simp[plus,len]
  rw[e,hm]
  rfl
 exact Eq.trans (b:=aj (fits (plus (len ([]:List (vS:Ty).den)) (len (α:=(vS:Ty).den) l))) (some (app (α:=(vS:Ty).den) [] l)) none) (by rfl) (key l hl)
theorem pF:jH Tryz.prog 57 (.own vT (.pair (.int .i64) Tc) true aX):=by
 have Ds:Den Tryz.prog vT 41:=by
  show ff Tryz.prog vT false 41 0 []=true
  kernel_rfl
 obtain⟨ie,ze,e1,e2,e3,e4⟩:=Ds.info
 exact TA (e:=vT) (ρ:=(⟨fun x=>if x=29 then 97 else if x=30 then 98 else 57,fun x=>if x=24 then 22 else if x=9 then 41 else if x=3 then 3 else if x=4 then 4 else 0,fun x=>x⟩:Go.Shelf.Ren)) (nm := "slices.Insert[[]cooperage/api.Item,cooperage/api.Item]") ⟨mix,Tryz.func57.trans (congrArg some (by kernel_rfl)),
  fun xs w=>run_callFunc_extern (e:=Extern.SlicesOverlaps.overlaps #[22,22] #[4]) Tryz.func97 (by kernel_rfl) (by kernel_rfl) (by kernel_rfl) (by kernel_rfl) xs w,
  by kernel_rfl,by kernel_rfl,by kernel_rfl,fun w=>by simp[Go.sizeOf,e1,e2]<;>kernel_rfl,by simp[e1,e2]<;>kernel_rfl⟩ (by decide) Ds (by kernel_rfl) (by decide) (by decide)
theorem tI:jH Tryz.prog 69 (.own .str .unit false dz):=Ww Tryz.func69 (by kernel_rfl) (by kernel_rfl) Tryz.slices_Sort_string Tryz.slices_Sort_string_none
theorem qN:jH Tryz.prog 70 (.own .str .unit true dS):=Pm Tryz.func70 (by kernel_rfl) (by kernel_rfl) Tryz.slices_Compact_string Tryz.slices_Compact_string_empty Sa
theorem n7:jH Tryz.prog 85 (.own vS (.pair (.int .i64) ye) true bh):=by
 have Ds:Den Tryz.prog vS 26:=by
  show ff Tryz.prog vS false 26 0 []=true
  kernel_rfl
 obtain⟨ie,ze,e1,e2,e3,e4⟩:=Ds.info
 exact TB (e:=vS) (ρ:=(⟨fun x=>if x=29 then 0 else if x=30 then 0 else 85,fun x=>if x=24 then 27 else if x=9 then 26 else if x=3 then 3 else if x=4 then 4 else 0,fun x=>x⟩:Go.Shelf.Ren)) (nm := "slices.Delete[[]cooperage/api.Image,cooperage/api.Image]") (z:=ze) ⟨mix,Tryz.func85.trans (congrArg some (by kernel_rfl)),
  by kernel_rfl,by kernel_rfl,by kernel_rfl,fun w=>by simp[Go.sizeOf,e1,e2]<;>kernel_rfl,fun w=>F9 e1 e3 w⟩ (by decide) e4 (by decide)
theorem pG:jH Tryz.prog 96 (.own vT (.pair (.int .i64) ye) true b6):=by
 have Ds:Den Tryz.prog vT 41:=by
  show ff Tryz.prog vT false 41 0 []=true
  kernel_rfl
 obtain⟨ie,ze,e1,e2,e3,e4⟩:=Ds.info
 exact TB (e:=vT) (ρ:=(⟨fun x=>if x=29 then 0 else if x=30 then 0 else 96,fun x=>if x=24 then 22 else if x=9 then 41 else if x=3 then 3 else if x=4 then 4 else 0,fun x=>x⟩:Go.Shelf.Ren)) (nm := "slices.Delete[[]cooperage/api.Item,cooperage/api.Item]") (z:=ze) ⟨mix,Tryz.func96.trans (congrArg some (by kernel_rfl)),
  by kernel_rfl,by kernel_rfl,by kernel_rfl,fun w=>by simp[Go.sizeOf,e1,e2]<;>kernel_rfl,fun w=>F9 e1 e3 w⟩ (by decide) e4 (by decide)
theorem n8:jH Tryz.prog 124 (.own vS (.pair (.int .i64) XS) true bJ):=by
 have Ds:Den Tryz.prog vS 26:=by
  show ff Tryz.prog vS false 26 0 []=true
  kernel_rfl
 obtain⟨ie,ze,e1,e2,e3,e4⟩:=Ds.info
 exact TA (e:=vS) (ρ:=(⟨fun x=>if x=29 then 152 else if x=30 then 153 else 124,fun x=>if x=24 then 27 else if x=9 then 26 else if x=3 then 3 else if x=4 then 4 else 0,fun x=>x⟩:Go.Shelf.Ren)) (nm := "slices.Insert[[]cooperage/api.Image,cooperage/api.Image]") ⟨mix,Tryz.func124.trans (congrArg some (by kernel_rfl)),
  fun xs w=>run_callFunc_extern (e:=Extern.SlicesOverlaps.overlaps #[27,27] #[4]) Tryz.func152 (by kernel_rfl) (by kernel_rfl) (by kernel_rfl) (by kernel_rfl) xs w,
  by kernel_rfl,by kernel_rfl,by kernel_rfl,fun w=>by simp[Go.sizeOf,e1,e2]<;>kernel_rfl,by simp[e1,e2]<;>kernel_rfl⟩ (by decide) Ds (by kernel_rfl) (by decide) (by decide)
theorem JS:∀p∈QX,jH Tryz.prog p.1 p.2:=(lV vR (lV tH (lV sK (lV qp (lV oO (lV pF (lV tI (lV qN (lV n7 (lV pG (lV n8 HE)))))))))))
theorem TZ(cW:List (Nat×dG))(bw:List (Nat×AW))(inv:List (String×dG):=[]):Pd (Qw cW bw inv):=Wq (cx:=Qw cW bw inv) (show(Vx.all fun p=>Ut p.2)=true by kernel_rfl)
def bg:iZ:=xF
theorem ay{cW:List (Nat×dG)}{bw:List (Nat×AW)}{inv:List (String×dG)}(eg:∀p∈cW,Holds Tryz.prog bg p.1 p.2)(XW:∀p∈bw,nx Tryz.prog bg p.1 p.2)(hinv:∀p∈inv,Ie Tryz.prog bg p.1 p.2){f:Nat}{fn:Func}{A R:Ty}{spec:A.den→Option R.den}(hfn:find Vx f=some fn)(hb:fn.body.isSome=true)
  (hs:∀x,sem (Qw cW bw inv) 12 gr f A R x=spec x):Holds Tryz.prog bg f ⟨A,R,spec⟩:=by
 obtain⟨code,XX⟩:=Option.isSome_iff_exists.1 hb
 exact Nc mix (Qx cW bw inv) (rY eg XW JS hinv) (TZ cW bw inv) (f:=f) hfn XX (fun x y h=>by rw[hs];exact h)
theorem tQ{cW:List (Nat×dG)}{bw:List (Nat×AW)}{inv:List (String×dG)}(eg:∀p∈cW,Holds Tryz.prog bg p.1 p.2)(XW:∀p∈bw,nx Tryz.prog bg p.1 p.2)(hinv:∀p∈inv,Ie Tryz.prog bg p.1 p.2){f:Nat}{fn:Func}{ps:List Bool}{A U R:Ty}{spec:A.den×U.den→Option (R.den×U.den)}(hfn:find Vx f=some fn)(hb:fn.body.isSome=true)
  (hs:∀x,ZY (Qw cW bw inv) 12 gr f ps A U R x=spec x):nx Tryz.prog bg f ⟨ps,A,U,R,spec⟩:=by
 obtain⟨code,XX⟩:=Option.isSome_iff_exists.1 hb
 exact Ky mix (Qx cW bw inv) (rY eg XW JS hinv) (TZ cW bw inv) (f:=f) hfn XX (fun x y h=>by rw[hs];exact h)
noncomputable def qq:dG:=⟨(.pair .str Td),jO,gh⟩
theorem yf:Holds Tryz.prog bg 89 qq:=ay (cW:=[]) (bw:=[]) (inv:=[]) (aA) (av) (aB) (fn:=Tryz.f89) rfl (by kernel_rfl) (fun x=>by kernel_rfl)
noncomputable def pn:dG:=⟨(.pair .str Td),jO,eA⟩
theorem xe:Holds Tryz.prog bg 90 pn:=ay (cW:=[]) (bw:=[]) (inv:=[]) (aA) (av) (aB) (fn:=Tryz.f90) rfl (by kernel_rfl) (fun x=>by kernel_rfl)
noncomputable def qs:dG:=⟨jO,(.pair (.arr 256 .bool) sD),cS⟩
theorem yg:Holds Tryz.prog bg 91 qs:=ay (cW:=[]) (bw:=[]) (inv:=[]) (aA) (av) (aB) (fn:=Tryz.f91) rfl (by kernel_rfl) (fun x=>by kernel_rfl)
noncomputable def eE:AW:=⟨[true,false],Td,(.pair (.arr 256 .bool) .unit),sD,cm⟩
theorem gp:nx Tryz.prog bg 127 eE:=tQ (cW:=[]) (bw:=[]) (inv:=[]) (aA) (av) (aB) (fn:=Tryz.f127) rfl (by kernel_rfl) (fun x=>by kernel_rfl)
noncomputable def pq:AW:=⟨[false,true],jO,(.pair (.arr 256 .bool) .unit),jO,fM⟩
theorem xg:nx Tryz.prog bg 92 pq:=tQ (cW:=[]) (bw:=[(127,eE)]) (inv:=[]) (aA) ((jk gp av)) (aB) (fn:=Tryz.f92) rfl (by kernel_rfl) (fun x=>by kernel_rfl)
noncomputable def n9:AW:=⟨[false,true],jO,(.pair (.arr 256 .bool) .unit),jO,dm⟩
theorem vU:nx Tryz.prog bg 93 n9:=tQ (cW:=[]) (bw:=[(127,eE)]) (inv:=[]) (aA) ((jk gp av)) (aB) (fn:=Tryz.f93) rfl (by kernel_rfl) (fun x=>by kernel_rfl)
noncomputable def Ad:dG:=⟨NZ,jO,gM⟩
theorem JT:Holds Tryz.prog bg 52 Ad:=ay (cW:=[(89,qq),(90,pn),(91,qs)]) (bw:=[(92,pq),(93,n9),(127,eE)]) (inv:=[]) ((ai yf (ai xe (ai yg aA)))) ((jk xg (jk vU (jk gp av)))) (aB) (fn:=Tryz.f52) rfl (by kernel_rfl) (fun x=>by kernel_rfl)
noncomputable def sL:dG:=⟨jO,sD,kJ⟩
theorem yM:Holds Tryz.prog bg 22 sL:=ay (cW:=[(52,Ad)]) (bw:=[]) (inv:=[]) ((ai JT aA)) (av) (aB) (fn:=Tryz.f22) rfl (by kernel_rfl) (fun x=>by kernel_rfl)
noncomputable def yh:dG:=⟨(.pair vT .unit),jO,cU⟩
theorem Ei:Holds Tryz.prog bg 24 yh:=ay (cW:=[]) (bw:=[]) (inv:=[]) (aA) (av) (aB) (fn:=Tryz.f24) rfl (by kernel_rfl) (fun x=>by kernel_rfl)
noncomputable def sx:dG:=⟨.unit,Vv,zx⟩
theorem vq:Holds Tryz.prog bg 158 sx:=ay (cW:=[]) (bw:=[]) (inv:=[]) (aA) (av) (aB) (fn:=Tryz.f158) rfl (by kernel_rfl) (fun x=>by kernel_rfl)
noncomputable def sy:dG:=⟨.unit,(.pair (.arr 64 (.int .u32)) .unit),zy⟩
theorem vr:Holds Tryz.prog bg 159 sy:=ay (cW:=[]) (bw:=[]) (inv:=[]) (aA) (av) (aB) (fn:=Tryz.f159) rfl (by kernel_rfl) (fun x=>by kernel_rfl)
noncomputable def oa:dG:=⟨(.pair (.int .u32) ye),(.pair (.int .u32) .unit),iU⟩
theorem vV:Holds Tryz.prog bg 188 oa:=ay (cW:=[]) (bw:=[]) (inv:=[]) (aA) (av) (aB) (fn:=Tryz.f188) rfl (by kernel_rfl) (fun x=>by kernel_rfl)
noncomputable def pz:dG:=⟨(.pair (.int .u32) ye),(.pair (.int .u32) .unit),cq⟩
theorem sA:Holds Tryz.prog bg 161 pz:=ay (cW:=[(188,oa)]) (bw:=[]) (inv:=[]) ((ai vV aA)) (av) (aB) (fn:=Tryz.f161) rfl (by kernel_rfl) (fun x=>by kernel_rfl)
noncomputable def mG:dG:=⟨(.pair (.arr 64 (.int .u8)) .unit),(.pair (.arr 64 (.int .u32)) .unit),uk⟩
theorem qt:Holds Tryz.prog bg 160 mG:=ay (cW:=[(161,pz)]) (bw:=[]) (inv:=[]) ((ai sA aA)) (av) (aB) (fn:=Tryz.f160) rfl (by kernel_rfl) (fun x=>by kernel_rfl)
noncomputable def lH:AW:=⟨[true,false],(.pair (.arr 64 (.int .u8)) .unit),(.pair (.pair .bool Vv) .unit),.unit,DP⟩
theorem qu:nx Tryz.prog bg 132 lH:=tQ (cW:=[(158,sx),(159,sy),(160,mG),(161,pz)]) (bw:=[]) (inv:=[]) ((ai vq (ai vr (ai qt (ai sA aA))))) (av) (aB) (fn:=Tryz.f132) rfl (by kernel_rfl) (fun x=>by kernel_rfl)
noncomputable def qO:AW:=⟨[true,false],jO,(.pair aa2 .unit),.unit,jm⟩
theorem xh:nx Tryz.prog bg 99 qO:=tQ (cW:=[(158,sx),(159,sy),(160,mG),(161,pz)]) (bw:=[(132,lH)]) (inv:=[]) ((ai vq (ai vr (ai qt (ai sA aA))))) ((jk qu av)) (aB) (fn:=Tryz.f99) rfl (by kernel_rfl) (fun x=>by kernel_rfl)
noncomputable def xk:AW:=⟨[true],.unit,(.pair aa2 .unit),(.pair (.arr 32 (.int .u8)) .unit),wP⟩
theorem FG:nx Tryz.prog bg 100 xk:=tQ (cW:=[(158,sx),(159,sy),(160,mG),(161,pz)]) (bw:=[(99,qO),(132,lH)]) (inv:=[]) ((ai vq (ai vr (ai qt (ai sA aA))))) ((jk xh (jk qu av))) (aB) (fn:=Tryz.f100) rfl (by kernel_rfl) (fun x=>by kernel_rfl)
noncomputable def Mr:dG:=⟨jO,(.pair (.arr 32 (.int .u8)) .unit),LS⟩
theorem Vy:Holds Tryz.prog bg 58 Mr:=ay (cW:=[(158,sx),(159,sy),(160,mG),(161,pz)]) (bw:=[(99,qO),(100,xk),(132,lH)]) (inv:=[]) ((ai vq (ai vr (ai qt (ai sA aA))))) ((jk xh (jk FG (jk qu av)))) (aB) (fn:=Tryz.f58) rfl (by kernel_rfl) (fun x=>by kernel_rfl)
noncomputable def yj:dG:=⟨jO,jO,pX⟩
theorem Ej:Holds Tryz.prog bg 59 yj:=ay (cW:=[]) (bw:=[]) (inv:=[]) (aA) (av) (aB) (fn:=Tryz.f59) rfl (by kernel_rfl) (fun x=>by kernel_rfl)
noncomputable def Gq:dG:=⟨jO,jO,zB⟩
theorem Qy:Holds Tryz.prog bg 26 Gq:=ay (cW:=[(58,Mr),(59,yj)]) (bw:=[]) (inv:=[]) ((ai Vy (ai Ej aA))) (av) (aB) (fn:=Tryz.f26) rfl (by kernel_rfl) (fun x=>by kernel_rfl)
noncomputable def dA:dG:=⟨Tc,Tc,cI⟩
theorem eT:Holds Tryz.prog bg 51 dA:=by
 refine zu (P:=Tryz.prog) (cx:=Qw [] []) (bf:=[5]) (e:=vT) (tid:=22) (fn:=Tryz.f51) (s0:=fun l=>(zb (fun _=>none) [.data (.slice vT) l]).put 2 (.data (.slice vT) ([]:List (vT:Ty).den))) mix (Qx [] []) (rY aA av JS aB) Tryz.func51 (by kernel_rfl)
  (by rfl) rfl (by decide) (by decide) rfl rfl rfl rfl rfl rfl (fun l=>by rfl) (fun l=>rfl) (fun l=>rfl) (fun l=>rfl) (fun l=>by rfl) (fun l hl=>?_)
 have key:∀m:List (vT:Ty).den,fits (len m)=true→aj (fits (plus (len ([]:List (vT:Ty).den)) (len m))) (some ((app [] m,()):(Ty.pair (.slice vT) .unit).den)) none=some (m,()):=by
  intro m hm
  have e:plus (len ([]:List (vT:Ty).den)) (len m)=len m:=by simp[plus,len]
  rw[e,hm]
  rfl
 exact Eq.trans (b:=aj (fits (plus (len ([]:List (vT:Ty).den)) (len (α:=(vT:Ty).den) l))) (some ((app (α:=(vT:Ty).den) [] l,()):(Ty.pair (.slice vT) .unit).den)) none) (by rfl) (key l hl)
noncomputable def xo:dG:=⟨(.pair (.slice vT) NZ),(.pair (.slice vT) ye),wV⟩
theorem FH:Holds Tryz.prog bg 7 xo:=ay (cW:=[(22,sL),(24,yh),(26,Gq),(51,dA)]) (bw:=[]) (inv:=[]) ((ai yM (ai Ei (ai Qy (ai eT aA))))) (av) (aB) (fn:=Tryz.f7) rfl (by kernel_rfl) (fun x=>by kernel_rfl)
noncomputable def xp:dG:=⟨(.pair (.slice vT) jO),Ho,wW⟩
theorem FI:Holds Tryz.prog bg 9 xp:=ay (cW:=[(24,yh)]) (bw:=[]) (inv:=[]) ((ai Ei aA)) (av) (aB) (fn:=Tryz.f9) rfl (by kernel_rfl) (fun x=>by kernel_rfl)
noncomputable def de:dG:=⟨FF,FF,bL⟩
theorem eo:Holds Tryz.prog bg 50 de:=by
 refine zu (P:=Tryz.prog) (cx:=Qw [] []) (bf:=[5]) (e:=.str) (tid:=24) (fn:=Tryz.f50) (s0:=fun l=>(zb (fun _=>none) [.data (.slice .str) l]).put 2 (.data (.slice .str) ([]:List (.str:Ty).den))) mix (Qx [] []) (rY aA av JS aB) Tryz.func50 (by kernel_rfl)
  (by rfl) rfl (by decide) (by decide) rfl rfl rfl rfl rfl rfl (fun l=>by rfl) (fun l=>rfl) (fun l=>rfl) (fun l=>rfl) (fun l=>by rfl) (fun l hl=>?_)
 have key:∀m:List (.str:Ty).den,fits (len m)=true→aj (fits (plus (len ([]:List (.str:Ty).den)) (len m))) (some ((app [] m,()):(Ty.pair (.slice .str) .unit).den)) none=some (m,()):=by
  intro m hm
  have e:plus (len ([]:List (.str:Ty).den)) (len m)=len m:=by simp[plus,len]
  rw[e,hm]
  rfl
 exact Eq.trans (b:=aj (fits (plus (len ([]:List (.str:Ty).den)) (len (α:=(.str:Ty).den) l))) (some ((app (α:=(.str:Ty).den) [] l,()):(Ty.pair (.slice .str) .unit).den)) none) (by rfl) (key l hl)
noncomputable def vW:dG:=⟨FF,ye,nQ⟩
theorem BG:Holds Tryz.prog bg 33 vW:=ay (cW:=[(22,sL),(50,de)]) (bw:=[]) (inv:=[]) ((ai yM (ai eo aA))) (av) (aB) (fn:=Tryz.f33) rfl (by kernel_rfl) (fun x=>by kernel_rfl)
noncomputable def uG:dG:=⟨ye,(.pair Zx .unit),gQ⟩
theorem Ae:Holds Tryz.prog bg 34 uG:=ay (cW:=[]) (bw:=[]) (inv:=[]) (aA) (av) (aB) (fn:=Tryz.f34) rfl (by kernel_rfl) (fun x=>by kernel_rfl)
noncomputable def kN:dG:=⟨(.pair (.slice .str) jO),ye,fY⟩
theorem sM:Holds Tryz.prog bg 119 kN:=ay (cW:=[]) (bw:=[]) (inv:=[]) (aA) (av) (aB) (fn:=Tryz.f119) rfl (by kernel_rfl) (fun x=>by kernel_rfl)
noncomputable def fc:dG:=⟨(.pair (.slice .str) jO),sD,cl⟩
theorem ja:Holds Tryz.prog bg 76 fc:=ay (cW:=[(119,kN)]) (bw:=[]) (inv:=[]) ((ai sM aA)) (av) (aB) (fn:=Tryz.f76) rfl (by kernel_rfl) (fun x=>by kernel_rfl)
noncomputable def iO:dG:=⟨NZ,sD,dw⟩
theorem qv:Holds Tryz.prog bg 126 iO:=ay (cW:=[]) (bw:=[]) (inv:=[]) (aA) (av) (aB) (fn:=Tryz.f126) rfl (by kernel_rfl) (fun x=>by kernel_rfl)
noncomputable def sW:dG:=⟨NZ,sD,dY⟩
theorem Bk:Holds Tryz.prog bg 88 sW:=ay (cW:=[(126,iO)]) (bw:=[]) (inv:=[]) ((ai qv aA)) (av) (aB) (fn:=Tryz.f88) rfl (by kernel_rfl) (fun x=>by kernel_rfl)
noncomputable def vX:dG:=⟨(.pair Qv jO),Ho,nR⟩
theorem BH:Holds Tryz.prog bg 49 vX:=ay (cW:=[(76,fc),(88,sW)]) (bw:=[]) (inv:=[]) ((ai ja (ai Bk aA))) (av) (aB) (fn:=Tryz.f49) rfl (by kernel_rfl) (fun x=>by kernel_rfl)
noncomputable def CP:dG:=⟨(.pair (.int .i64) (.pair XR .unit)),(.pair Qv .unit),uw⟩
theorem JU:Holds Tryz.prog bg 77 CP:=ay (cW:=[(50,de)]) (bw:=[]) (inv:=[]) ((ai eo aA)) (av) (aB) (fn:=Tryz.f77) rfl (by kernel_rfl) (fun x=>by kernel_rfl)
noncomputable def Af:dG:=⟨(.pair K3 .unit),(.pair Qv .unit),qa⟩
theorem JV:Holds Tryz.prog bg 73 Af:=ay (cW:=[(77,CP)]) (bw:=[]) (inv:=[]) ((ai JU aA)) (av) (aB) (fn:=Tryz.f73) rfl (by kernel_rfl) (fun x=>by kernel_rfl)
noncomputable def BI:dG:=⟨(.pair K3 jO),Ho,rC⟩
theorem K4:Holds Tryz.prog bg 35 BI:=ay (cW:=[(49,vX),(73,Af)]) (bw:=[]) (inv:=[]) ((ai BH (ai JV aA))) (av) (aB) (fn:=Tryz.f35) rfl (by kernel_rfl) (fun x=>by kernel_rfl)
noncomputable def Ek:dG:=⟨(.pair Qv jO),ye,tj⟩
theorem N0:Holds Tryz.prog bg 74 Ek:=ay (cW:=[]) (bw:=[]) (inv:=[]) (aA) (av) (aB) (fn:=Tryz.f74) rfl (by kernel_rfl) (fun x=>by kernel_rfl)
noncomputable def El:dG:=⟨(.pair Qv (.pair .str FF)),ye,p7⟩
theorem N1:Holds Tryz.prog bg 36 El:=ay (cW:=[(33,vW),(74,Ek),(76,fc)]) (bw:=[]) (inv:=[]) ((ai BG (ai N0 (ai ja aA)))) (av) (aB) (fn:=Tryz.f36) rfl (by kernel_rfl) (fun x=>by kernel_rfl)
noncomputable def uH:dG:=⟨(.pair K3 .unit),(.pair Qv .unit),fH⟩
theorem Ag:Holds Tryz.prog bg 37 uH:=ay (cW:=[(77,CP)]) (bw:=[]) (inv:=[]) ((ai JU aA)) (av) (aB) (fn:=Tryz.f37) rfl (by kernel_rfl) (fun x=>by kernel_rfl)
noncomputable def Gr:dG:=⟨ye,jO,vi⟩
theorem Qz:Holds Tryz.prog bg 78 Gr:=ay (cW:=[(59,yj)]) (bw:=[]) (inv:=[]) ((ai Ej aA)) (av) (aB) (fn:=Tryz.f78) rfl (by kernel_rfl) (fun x=>by kernel_rfl)
noncomputable def Ah:dG:=⟨(.pair Qv ye),Ho,mu⟩
theorem JW:Holds Tryz.prog bg 38 Ah:=ay (cW:=[(78,Gr)]) (bw:=[]) (inv:=[]) ((ai Qz aA)) (av) (aB) (fn:=Tryz.f38) rfl (by kernel_rfl) (fun x=>by kernel_rfl)
noncomputable def Ai:dG:=⟨(.pair vS .unit),jO,eB⟩
theorem Gs:Holds Tryz.prog bg 43 Ai:=ay (cW:=[]) (bw:=[]) (inv:=[]) (aA) (av) (aB) (fn:=Tryz.f43) rfl (by kernel_rfl) (fun x=>by kernel_rfl)
noncomputable def ew:dG:=⟨XS,XS,oN⟩
theorem gU:Holds Tryz.prog bg 83 ew:=by
 refine zu (P:=Tryz.prog) (cx:=Qw [] []) (bf:=[5]) (e:=vS) (tid:=27) (fn:=Tryz.f83) (s0:=fun l=>(zb (fun _=>none) [.data (.slice vS) l]).put 2 (.data (.slice vS) ([]:List (vS:Ty).den))) mix (Qx [] []) (rY aA av JS aB) Tryz.func83 (by kernel_rfl)
  (by rfl) rfl (by decide) (by decide) rfl rfl rfl rfl rfl rfl (fun l=>by rfl) (fun l=>rfl) (fun l=>rfl) (fun l=>rfl) (fun l=>by rfl) (fun l hl=>?_)
 have key:∀m:List (vS:Ty).den,fits (len m)=true→aj (fits (plus (len ([]:List (vS:Ty).den)) (len m))) (some ((app [] m,()):(Ty.pair (.slice vS) .unit).den)) none=some (m,()):=by
  intro m hm
  have e:plus (len ([]:List (vS:Ty).den)) (len m)=len m:=by simp[plus,len]
  rw[e,hm]
  rfl
 exact Eq.trans (b:=aj (fits (plus (len ([]:List (vS:Ty).den)) (len (α:=(vS:Ty).den) l))) (some ((app (α:=(vS:Ty).den) [] l,()):(Ty.pair (.slice vS) .unit).den)) none) (by rfl) (key l hl)
noncomputable def Em:dG:=⟨(.pair K3 (.pair vS .unit)),(.pair K3 .unit),qb⟩
theorem N2:Holds Tryz.prog bg 39 Em:=ay (cW:=[(43,Ai),(50,de),(51,dA),(83,ew)]) (bw:=[]) (inv:=[]) ((ai Gs (ai eo (ai eT (ai gU aA))))) (av) (aB) (fn:=Tryz.f39) rfl (by kernel_rfl) (fun x=>by kernel_rfl)
noncomputable def sN:dG:=⟨(.pair K3 (.pair .str (.pair (.slice .str) Ho))),(.pair K3 (.pair Zx .unit)),iy⟩
theorem yN:Holds Tryz.prog bg 15 sN:=ay (cW:=[(33,vW),(34,uG),(35,BI),(36,El),(37,uH),(38,Ah),(39,Em)]) (bw:=[]) (inv:=[]) ((ai BG (ai Ae (ai K4 (ai N1 (ai Ag (ai JW (ai N2 aA)))))))) (av) (aB) (fn:=Tryz.f15) rfl (by kernel_rfl) (fun x=>by kernel_rfl)
noncomputable def vY:dG:=⟨(.pair K3 jO),Ho,nS⟩
theorem BJ:Holds Tryz.prog bg 18 vY:=ay (cW:=[(37,uH),(49,vX)]) (bw:=[]) (inv:=[]) ((ai Ag (ai BH aA))) (av) (aB) (fn:=Tryz.f18) rfl (by kernel_rfl) (fun x=>by kernel_rfl)
noncomputable def sO:dG:=⟨(.pair K3 jO),(.pair K3 (.pair Zx .unit)),iz⟩
theorem yO:Holds Tryz.prog bg 16 sO:=ay (cW:=[(18,vY),(34,uG),(43,Ai),(83,ew)]) (bw:=[]) (inv:=[]) ((ai BJ (ai Ae (ai Gs (ai gU aA))))) (av) (aB) (fn:=Tryz.f16) rfl (by kernel_rfl) (fun x=>by kernel_rfl)
noncomputable def yl:dG:=⟨(.pair K3 jO),(.pair vS sD),qc⟩
theorem En:Holds Tryz.prog bg 19 yl:=ay (cW:=[(50,de),(51,dA)]) (bw:=[]) (inv:=[]) ((ai eo (ai eT aA))) (av) (aB) (fn:=Tryz.f19) rfl (by kernel_rfl) (fun x=>by kernel_rfl)
noncomputable def BK:dG:=⟨.unit,sD,nT⟩
theorem K5:Holds Tryz.prog bg 6 BK:=ay (cW:=[(7,xo),(9,xp),(15,sN),(16,sO),(19,yl)]) (bw:=[]) (inv:=[]) ((ai FH (ai FI (ai yN (ai yO (ai En aA)))))) (av) (aB) (fn:=Tryz.f6) rfl (by kernel_rfl) (fun x=>by kernel_rfl)
noncomputable def Gt:dG:=⟨FF,sD,jK⟩
theorem QA:Holds Tryz.prog bg 20 Gt:=ay (cW:=[]) (bw:=[]) (inv:=[]) (aA) (av) (aB) (fn:=Tryz.f20) rfl (by kernel_rfl) (fun x=>by kernel_rfl)
noncomputable def xq:dG:=⟨Tc,sD,dU⟩
theorem FJ:Holds Tryz.prog bg 21 xq:=ay (cW:=[]) (bw:=[]) (inv:=[]) (aA) (av) (aB) (fn:=Tryz.f21) rfl (by kernel_rfl) (fun x=>by kernel_rfl)
noncomputable def Gu:dG:=⟨(.pair XR .unit),sD,oX⟩
theorem QB:Holds Tryz.prog bg 5 Gu:=ay (cW:=[(20,Gt),(21,xq)]) (bw:=[]) (inv:=[]) ((ai QA (ai FJ aA))) (av) (aB) (fn:=Tryz.f5) rfl (by kernel_rfl) (fun x=>by kernel_rfl)
noncomputable def Gv:dG:=⟨(.pair (.slice XP) .unit),sD,vk⟩
theorem QC:Holds Tryz.prog bg 29 Gv:=ay (cW:=[]) (bw:=[]) (inv:=[]) (aA) (av) (aB) (fn:=Tryz.f29) rfl (by kernel_rfl) (fun x=>by kernel_rfl)
noncomputable def Gw:dG:=⟨(.pair K3 .unit),sD,vl⟩
theorem QD:Holds Tryz.prog bg 13 Gw:=ay (cW:=[(5,Gu),(29,Gv)]) (bw:=[]) (inv:=[]) ((ai QB (ai QC aA))) (av) (aB) (fn:=Tryz.f13) rfl (by kernel_rfl) (fun x=>by kernel_rfl)
noncomputable def vZ:dG:=⟨ye,Td,kT⟩
theorem BL:Holds Tryz.prog bg 106 vZ:=ay (cW:=[]) (bw:=[]) (inv:=[]) (aA) (av) (aB) (fn:=Tryz.f106) rfl (by kernel_rfl) (fun x=>by kernel_rfl)
noncomputable def BM:dG:=⟨Td,ye,nN⟩
theorem K6:Holds Tryz.prog bg 163 BM:=ay (cW:=[(106,vZ)]) (bw:=[]) (inv:=[]) ((ai BL aA)) (av) (aB) (fn:=Tryz.f163) rfl (by kernel_rfl) (fun x=>by kernel_rfl)
noncomputable def v7:dG:=⟨jO,(.pair .str sD),nO⟩
theorem BN:Holds Tryz.prog bg 136 v7:=ay (cW:=[(163,BM)]) (bw:=[]) (inv:=[]) ((ai K6 aA)) (av) (aB) (fn:=Tryz.f136) rfl (by kernel_rfl) (fun x=>by kernel_rfl)
noncomputable def tJ:dG:=⟨jO,sD,fA⟩
theorem ym:Holds Tryz.prog bg 107 tJ:=ay (cW:=[(136,v7)]) (bw:=[]) (inv:=[]) ((ai BN aA)) (av) (aB) (fn:=Tryz.f107) rfl (by kernel_rfl) (fun x=>by kernel_rfl)
noncomputable def uI:dG:=⟨jO,sD,mh⟩
theorem Aj:Holds Tryz.prog bg 27 uI:=ay (cW:=[]) (bw:=[]) (inv:=[]) (aA) (av) (aB) (fn:=Tryz.f27) rfl (by kernel_rfl) (fun x=>by kernel_rfl)
noncomputable def rL:dG:=⟨FF,sD,kX⟩
theorem v8:Holds Tryz.prog bg 108 rL:=ay (cW:=[(27,uI)]) (bw:=[]) (inv:=[]) ((ai Aj aA)) (av) (aB) (fn:=Tryz.f108) rfl (by kernel_rfl) (fun x=>by kernel_rfl)
noncomputable def BO:dG:=⟨jO,ye,ri⟩
theorem K7:Holds Tryz.prog bg 109 BO:=ay (cW:=[(136,v7)]) (bw:=[]) (inv:=[]) ((ai BN aA)) (av) (aB) (fn:=Tryz.f109) rfl (by kernel_rfl) (fun x=>by kernel_rfl)
noncomputable def BP:dG:=⟨(.pair XP .unit),sD,nX⟩
theorem K8:Holds Tryz.prog bg 62 BP:=ay (cW:=[(107,tJ),(108,rL),(109,BO)]) (bw:=[]) (inv:=[]) ((ai ym (ai v8 (ai K7 aA)))) (av) (aB) (fn:=Tryz.f62) rfl (by kernel_rfl) (fun x=>by kernel_rfl)
noncomputable def BQ:dG:=⟨.unit,Vv,vI⟩
theorem K9:Holds Tryz.prog bg 103 BQ:=ay (cW:=[]) (bw:=[]) (inv:=[]) (aA) (av) (aB) (fn:=Tryz.f103) rfl (by kernel_rfl) (fun x=>by kernel_rfl)
noncomputable def BR:dG:=⟨jO,jO,qY⟩
theorem La:Holds Tryz.prog bg 104 BR:=ay (cW:=[]) (bw:=[]) (inv:=[]) (aA) (av) (aB) (fn:=Tryz.f104) rfl (by kernel_rfl) (fun x=>by kernel_rfl)
noncomputable def Eo:dG:=⟨(.pair (.int .u32) ye),(.pair (.int .u32) .unit),bS⟩
theorem N3:Holds Tryz.prog bg 134 Eo:=ay (cW:=[]) (bw:=[]) (inv:=[]) (aA) (av) (aB) (fn:=Tryz.f134) rfl (by kernel_rfl) (fun x=>by kernel_rfl)
noncomputable def Ak:dG:=⟨.unit,(.pair (.arr 64 (.int .u32)) .unit),uo⟩
theorem JX:Holds Tryz.prog bg 135 Ak:=ay (cW:=[]) (bw:=[]) (inv:=[]) (aA) (av) (aB) (fn:=Tryz.f135) rfl (by kernel_rfl) (fun x=>by kernel_rfl)
noncomputable def BS:dG:=⟨(.pair (.arr 8 (.int .u32)) jO),Vv,qZ⟩
theorem Lb:Holds Tryz.prog bg 105 BS:=ay (cW:=[(134,Eo),(135,Ak)]) (bw:=[]) (inv:=[]) ((ai N3 (ai JX aA))) (av) (aB) (fn:=Tryz.f105) rfl (by kernel_rfl) (fun x=>by kernel_rfl)
noncomputable def Gx:dG:=⟨jO,(.pair (.arr 32 (.int .u8)) .unit),u5⟩
theorem QE:Holds Tryz.prog bg 60 Gx:=ay (cW:=[(103,BQ),(104,BR),(105,BS)]) (bw:=[]) (inv:=[]) ((ai K9 (ai La (ai Lb aA)))) (av) (aB) (fn:=Tryz.f60) rfl (by kernel_rfl) (fun x=>by kernel_rfl)
noncomputable def Gy:dG:=⟨jO,jO,u6⟩
theorem QF:Holds Tryz.prog bg 61 Gy:=ay (cW:=[(106,vZ)]) (bw:=[]) (inv:=[]) ((ai BL aA)) (av) (aB) (fn:=Tryz.f61) rfl (by kernel_rfl) (fun x=>by kernel_rfl)
noncomputable def CQ:dG:=⟨jO,jO,uq⟩
theorem JY:Holds Tryz.prog bg 28 CQ:=ay (cW:=[(60,Gx),(61,Gy)]) (bw:=[]) (inv:=[]) ((ai QE (ai QF aA))) (av) (aB) (fn:=Tryz.f28) rfl (by kernel_rfl) (fun x=>by kernel_rfl)
noncomputable def we:dG:=⟨Tc,sD,kY⟩
theorem BT:Holds Tryz.prog bg 12 we:=ay (cW:=[(27,uI),(28,CQ)]) (bw:=[]) (inv:=[]) ((ai Aj (ai JY aA))) (av) (aB) (fn:=Tryz.f12) rfl (by kernel_rfl) (fun x=>by kernel_rfl)
noncomputable def BU:dG:=⟨(.pair vS .unit),sD,nY⟩
theorem Lc:Holds Tryz.prog bg 63 BU:=ay (cW:=[(12,we),(107,tJ),(108,rL)]) (bw:=[]) (inv:=[]) ((ai BT (ai ym (ai v8 aA)))) (av) (aB) (fn:=Tryz.f63) rfl (by kernel_rfl) (fun x=>by kernel_rfl)
noncomputable def Gz:dG:=⟨(.pair YH8 .unit),sD,sr⟩
theorem QG:Holds Tryz.prog bg 64 Gz:=ay (cW:=[(12,we),(107,tJ),(108,rL)]) (bw:=[]) (inv:=[]) ((ai BT (ai ym (ai v8 aA)))) (av) (aB) (fn:=Tryz.f64) rfl (by kernel_rfl) (fun x=>by kernel_rfl)
noncomputable def BV:dG:=⟨(.pair XR .unit),(.pair (.slice .str) FF),rI⟩
theorem Ld:Holds Tryz.prog bg 65 BV:=ay (cW:=[]) (bw:=[]) (inv:=[]) (aA) (av) (aB) (fn:=Tryz.f65) rfl (by kernel_rfl) (fun x=>by kernel_rfl)
noncomputable def BW:dG:=⟨(.pair (.int .i64) (.pair XR .unit)),ye,kZ⟩
theorem Lf:Holds Tryz.prog bg 30 BW:=ay (cW:=[(62,BP),(63,BU),(64,Gz),(65,BV)]) (bw:=[]) (inv:=[]) ((ai K8 (ai Lc (ai QG (ai Ld aA))))) (av) (aB) (fn:=Tryz.f30) rfl (by kernel_rfl) (fun x=>by kernel_rfl)
noncomputable def Ep:dG:=⟨(.pair (.slice XP) jO),ye,xV⟩
theorem N4:Holds Tryz.prog bg 137 Ep:=ay (cW:=[]) (bw:=[]) (inv:=[]) (aA) (av) (aB) (fn:=Tryz.f137) rfl (by kernel_rfl) (fun x=>by kernel_rfl)
noncomputable def wg:dG:=⟨(.pair (.slice XP) jO),(.pair (.slice XP) ye),nZ⟩
theorem BX:Holds Tryz.prog bg 110 wg:=ay (cW:=[(137,Ep)]) (bw:=[]) (inv:=[]) ((ai N4 aA)) (av) (aB) (fn:=Tryz.f110) rfl (by kernel_rfl) (fun x=>by kernel_rfl)
noncomputable def BZ:dG:=⟨(.pair (.slice XP) .unit),ye,rJ⟩
theorem Lg:Holds Tryz.prog bg 66 BZ:=ay (cW:=[(110,wg)]) (bw:=[]) (inv:=[]) ((ai BX aA)) (av) (aB) (fn:=Tryz.f66) rfl (by kernel_rfl) (fun x=>by kernel_rfl)
noncomputable def Er:dG:=⟨jO,sD,tD⟩
theorem N5:Holds Tryz.prog bg 164 Er:=ay (cW:=[]) (bw:=[]) (inv:=[]) (aA) (av) (aB) (fn:=Tryz.f164) rfl (by kernel_rfl) (fun x=>by kernel_rfl)
noncomputable def Es:dG:=⟨jO,sD,tE⟩
theorem N6:Holds Tryz.prog bg 165 Es:=ay (cW:=[]) (bw:=[]) (inv:=[]) (aA) (av) (aB) (fn:=Tryz.f165) rfl (by kernel_rfl) (fun x=>by kernel_rfl)
noncomputable def vt:dG:=⟨jO,(.pair (.int .i64) sD),lq⟩
theorem Et:Holds Tryz.prog bg 207 vt:=ay (cW:=[]) (bw:=[]) (inv:=[]) (aA) (av) (aB) (fn:=Tryz.f207) rfl (by kernel_rfl) (fun x=>by kernel_rfl)
noncomputable def Al:dG:=⟨jO,ye,eS⟩
theorem JZ:Holds Tryz.prog bg 189 Al:=ay (cW:=[(207,vt)]) (bw:=[]) (inv:=[]) ((ai Et aA)) (av) (aB) (fn:=Tryz.f189) rfl (by kernel_rfl) (fun x=>by kernel_rfl)
noncomputable def GA:dG:=⟨jO,ye,u7⟩
theorem QH:Holds Tryz.prog bg 190 GA:=ay (cW:=[]) (bw:=[]) (inv:=[]) (aA) (av) (aB) (fn:=Tryz.f190) rfl (by kernel_rfl) (fun x=>by kernel_rfl)
noncomputable def Eu:dG:=⟨jO,(.pair .str sD),mZ⟩
theorem N7:Holds Tryz.prog bg 191 Eu:=ay (cW:=[]) (bw:=[]) (inv:=[]) (aA) (av) (aB) (fn:=Tryz.f191) rfl (by kernel_rfl) (fun x=>by kernel_rfl)
noncomputable def B1:dG:=⟨Ho,sD,kV⟩
theorem Lh:Holds Tryz.prog bg 208 B1:=ay (cW:=[]) (bw:=[]) (inv:=[]) (aA) (av) (aB) (fn:=Tryz.f208) rfl (by kernel_rfl) (fun x=>by kernel_rfl)
noncomputable def J0:dG:=⟨(.pair (.int .i64) ye),sD,oM⟩
theorem Tg:Holds Tryz.prog bg 209 J0:=ay (cW:=[]) (bw:=[]) (inv:=[]) (aA) (av) (aB) (fn:=Tryz.f209) rfl (by kernel_rfl) (fun x=>by kernel_rfl)
noncomputable def GB:dG:=⟨(.pair XQ ye),sD,r7⟩
theorem QI:Holds Tryz.prog bg 192 GB:=ay (cW:=[(208,B1),(209,J0)]) (bw:=[]) (inv:=[]) ((ai Lh (ai Tg aA))) (av) (aB) (fn:=Tryz.f192) rfl (by kernel_rfl) (fun x=>by kernel_rfl)
noncomputable def Ev:dG:=⟨jO,(.pair XQ ye),nc⟩
theorem N8:Holds Tryz.prog bg 166 Ev:=ay (cW:=[(189,Al),(190,GA),(191,Eu),(192,GB)]) (bw:=[]) (inv:=[]) ((ai JZ (ai QH (ai N7 (ai QI aA))))) (av) (aB) (fn:=Tryz.f166) rfl (by kernel_rfl) (fun x=>by kernel_rfl)
noncomputable def B2:dG:=⟨ye,ye,kW⟩
theorem Li:Holds Tryz.prog bg 167 B2:=ay (cW:=[]) (bw:=[]) (inv:=[]) (aA) (av) (aB) (fn:=Tryz.f167) rfl (by kernel_rfl) (fun x=>by kernel_rfl)
noncomputable def B3:dG:=⟨jO,(.pair (.slice (.pair XQ jO)) sD),rG⟩
theorem Lj:Holds Tryz.prog bg 138 B3:=ay (cW:=[(164,Er),(165,Es),(166,Ev),(167,B2)]) (bw:=[]) (inv:=[]) ((ai N5 (ai N6 (ai N8 (ai Li aA))))) (av) (aB) (fn:=Tryz.f138) rfl (by kernel_rfl) (fun x=>by kernel_rfl)
noncomputable def yo:dG:=⟨jO,(.pair (.slice (.pair XQ jO)) ye),jY⟩
theorem Ew:Holds Tryz.prog bg 111 yo:=ay (cW:=[(138,B3)]) (bw:=[]) (inv:=[]) ((ai Lj aA)) (av) (aB) (fn:=Tryz.f111) rfl (by kernel_rfl) (fun x=>by kernel_rfl)
noncomputable def gy:dG:=⟨jO,FF,dN⟩
theorem iX:Holds Tryz.prog bg 193 gy:=ay (cW:=[]) (bw:=[]) (inv:=[]) (aA) (av) (aB) (fn:=Tryz.f193) rfl (by kernel_rfl) (fun x=>by kernel_rfl)
noncomputable def yp:dG:=⟨FF,jO,mN⟩
theorem Ex:Holds Tryz.prog bg 194 yp:=ay (cW:=[]) (bw:=[]) (inv:=[]) (aA) (av) (aB) (fn:=Tryz.f194) rfl (by kernel_rfl) (fun x=>by kernel_rfl)
noncomputable def Am:dG:=⟨jO,sD,pZ⟩
theorem J1:Holds Tryz.prog bg 210 Am:=ay (cW:=[]) (bw:=[]) (inv:=[]) (aA) (av) (aB) (fn:=Tryz.f210) rfl (by kernel_rfl) (fun x=>by kernel_rfl)
noncomputable def CR:dG:=⟨jO,sD,ur⟩
theorem J2:Holds Tryz.prog bg 195 CR:=ay (cW:=[(193,gy),(210,Am)]) (bw:=[]) (inv:=[]) ((ai iX (ai J1 aA))) (av) (aB) (fn:=Tryz.f195) rfl (by kernel_rfl) (fun x=>by kernel_rfl)
noncomputable def B4:dG:=⟨jO,Ho,rj⟩
theorem Ll:Holds Tryz.prog bg 168 B4:=ay (cW:=[(193,gy),(194,yp),(195,CR)]) (bw:=[]) (inv:=[]) ((ai iX (ai Ex (ai J2 aA)))) (av) (aB) (fn:=Tryz.f168) rfl (by kernel_rfl) (fun x=>by kernel_rfl)
noncomputable def ob:dG:=⟨jO,NZ,iV⟩
theorem rM:Holds Tryz.prog bg 169 ob:=ay (cW:=[(193,gy),(194,yp)]) (bw:=[]) (inv:=[]) ((ai iX (ai Ex aA))) (av) (aB) (fn:=Tryz.f169) rfl (by kernel_rfl) (fun x=>by kernel_rfl)
noncomputable def An:dG:=⟨NZ,sD,mg⟩
theorem J3:Holds Tryz.prog bg 196 An:=ay (cW:=[]) (bw:=[]) (inv:=[]) (aA) (av) (aB) (fn:=Tryz.f196) rfl (by kernel_rfl) (fun x=>by kernel_rfl)
noncomputable def yq:dG:=⟨jO,(.pair (.int .i64) jO),p4⟩
theorem Ey:Holds Tryz.prog bg 170 yq:=ay (cW:=[(196,An)]) (bw:=[]) (inv:=[]) ((ai J3 aA)) (av) (aB) (fn:=Tryz.f170) rfl (by kernel_rfl) (fun x=>by kernel_rfl)
noncomputable def tK:dG:=⟨NZ,jO,mO⟩
theorem yu:Holds Tryz.prog bg 171 tK:=ay (cW:=[]) (bw:=[]) (inv:=[]) (aA) (av) (aB) (fn:=Tryz.f171) rfl (by kernel_rfl) (fun x=>by kernel_rfl)
noncomputable def Ao:dG:=⟨jO,sD,qd⟩
theorem J4:Holds Tryz.prog bg 197 Ao:=ay (cW:=[]) (bw:=[]) (inv:=[]) (aA) (av) (aB) (fn:=Tryz.f197) rfl (by kernel_rfl) (fun x=>by kernel_rfl)
noncomputable def sB:dG:=⟨(.pair Tb .unit),sD,jN⟩
theorem vu:Holds Tryz.prog bg 173 sB:=ay (cW:=[(169,ob),(170,yq),(195,CR),(197,Ao)]) (bw:=[]) (inv:=[]) ((ai rM (ai Ey (ai J2 (ai J4 aA))))) (av) (aB) (fn:=Tryz.f173) rfl (by kernel_rfl) (fun x=>by kernel_rfl)
noncomputable def Ap:dG:=⟨jO,sD,jz⟩
theorem J5:Holds Tryz.prog bg 172 Ap:=ay (cW:=[(171,tK),(173,sB),(193,gy)]) (bw:=[]) (inv:=[]) ((ai yu (ai vu (ai iX aA)))) (av) (aB) (fn:=Tryz.f172) rfl (by kernel_rfl) (fun x=>by kernel_rfl)
noncomputable def yw:dG:=⟨(.pair (.pair XQ jO) jO),(.pair Tb .unit),qg⟩
theorem Ez:Holds Tryz.prog bg 174 yw:=ay (cW:=[]) (bw:=[]) (inv:=[]) (aA) (av) (aB) (fn:=Tryz.f174) rfl (by kernel_rfl) (fun x=>by kernel_rfl)
noncomputable def yx:dG:=⟨(.pair (.pair XQ jO) .unit),(.pair (.int .i64) (.pair .str sD)),mX⟩
theorem EA:Holds Tryz.prog bg 139 yx:=ay (cW:=[(168,B4),(169,ob),(170,yq),(171,tK),(172,Ap),(173,sB),(174,yw)]) (bw:=[]) (inv:=[]) ((ai Ll (ai rM (ai Ey (ai yu (ai J5 (ai vu (ai Ez aA)))))))) (av) (aB) (fn:=Tryz.f139) rfl (by kernel_rfl) (fun x=>by kernel_rfl)
noncomputable def wk:dG:=⟨(.pair (.slice (.pair XQ jO)) .unit),sD,nU⟩
theorem B5:Holds Tryz.prog bg 112 wk:=ay (cW:=[(139,yx)]) (bw:=[]) (inv:=[]) ((ai EA aA)) (av) (aB) (fn:=Tryz.f112) rfl (by kernel_rfl) (fun x=>by kernel_rfl)
noncomputable def wm:dG:=⟨jO,ye,nV⟩
theorem B6:Holds Tryz.prog bg 67 wm:=ay (cW:=[(111,yo),(112,wk)]) (bw:=[]) (inv:=[]) ((ai Ew (ai B5 aA))) (av) (aB) (fn:=Tryz.f67) rfl (by kernel_rfl) (fun x=>by kernel_rfl)
noncomputable def yy:dG:=⟨(.pair K3 jO),ye,j8⟩
theorem EB:Holds Tryz.prog bg 32 yy:=ay (cW:=[]) (bw:=[]) (inv:=[]) (aA) (av) (aB) (fn:=Tryz.f32) rfl (by kernel_rfl) (fun x=>by kernel_rfl)
noncomputable def EC:dG:=⟨(.pair K3 ye),jO,tF⟩
theorem N9:Holds Tryz.prog bg 113 EC:=ay (cW:=[]) (bw:=[]) (inv:=[]) (aA) (av) (aB) (fn:=Tryz.f113) rfl (by kernel_rfl) (fun x=>by kernel_rfl)
noncomputable def tL:dG:=⟨Te,ye,gj⟩
theorem yz:Holds Tryz.prog bg 211 tL:=ay (cW:=[]) (bw:=[]) (inv:=[]) (aA) (av) (aB) (fn:=Tryz.f211) rfl (by kernel_rfl) (fun x=>by kernel_rfl)
noncomputable def Aq:dG:=⟨Te,sD,mw⟩
theorem GC:Holds Tryz.prog bg 198 Aq:=ay (cW:=[(211,tL)]) (bw:=[]) (inv:=[]) ((ai yz aA)) (av) (aB) (fn:=Tryz.f198) rfl (by kernel_rfl) (fun x=>by kernel_rfl)
noncomputable def sP:dG:=⟨NZ,ye,kI⟩
theorem yP:Holds Tryz.prog bg 199 sP:=ay (cW:=[(193,gy)]) (bw:=[]) (inv:=[]) ((ai iX aA)) (av) (aB) (fn:=Tryz.f199) rfl (by kernel_rfl) (fun x=>by kernel_rfl)
noncomputable def oP:dG:=⟨(.pair (.slice Tb) .unit),sD,jX⟩
theorem qP:Holds Tryz.prog bg 175 oP:=ay (cW:=[(169,ob),(173,sB),(198,Aq),(199,sP)]) (bw:=[]) (inv:=[]) ((ai rM (ai vu (ai GC (ai yP aA))))) (av) (aB) (fn:=Tryz.f175) rfl (by kernel_rfl) (fun x=>by kernel_rfl)
noncomputable def B7:dG:=⟨NZ,sD,rq⟩
theorem Lm:Holds Tryz.prog bg 215 B7:=ay (cW:=[(193,gy)]) (bw:=[]) (inv:=[]) ((ai iX aA)) (av) (aB) (fn:=Tryz.f215) rfl (by kernel_rfl) (fun x=>by kernel_rfl)
noncomputable def oH:dG:=⟨(.pair (.slice Tb) (.pair .str sD)),(.pair (.slice Tb) .unit),iA⟩
theorem sQ:Holds Tryz.prog bg 212 oH:=ay (cW:=[(215,B7)]) (bw:=[]) (inv:=[]) ((ai Lm aA)) (av) (aB) (fn:=Tryz.f212) rfl (by kernel_rfl) (fun x=>by kernel_rfl)
noncomputable def Ar:dG:=⟨Te,(.pair (.slice Tb) .unit),qe⟩
theorem J6:Holds Tryz.prog bg 200 Ar:=ay (cW:=[(175,oP),(212,oH)]) (bw:=[]) (inv:=[]) ((ai qP (ai sQ aA))) (av) (aB) (fn:=Tryz.f200) rfl (by kernel_rfl) (fun x=>by kernel_rfl)
noncomputable def B8:dG:=⟨Te,(.pair (.slice Tb) .unit),rE⟩
theorem Ln:Holds Tryz.prog bg 201 B8:=ay (cW:=[(175,oP),(212,oH)]) (bw:=[]) (inv:=[]) ((ai qP (ai sQ aA))) (av) (aB) (fn:=Tryz.f201) rfl (by kernel_rfl) (fun x=>by kernel_rfl)
noncomputable def As:dG:=⟨(.pair (.slice Tb) (.pair Tb .unit)),Vw,mz⟩
theorem GD:Holds Tryz.prog bg 203 As:=ay (cW:=[(169,ob),(173,sB),(175,oP),(198,Aq),(199,sP),(211,tL),(212,oH)]) (bw:=[]) (inv:=[]) ((ai rM (ai vu (ai qP (ai GC (ai yP (ai yz (ai sQ aA)))))))) (av) (aB) (fn:=Tryz.f203) rfl (by kernel_rfl) (fun x=>by kernel_rfl)
noncomputable def ED:dG:=⟨Te,(.pair Tb sD),tw⟩
theorem Oa:Holds Tryz.prog bg 213 ED:=ay (cW:=[(175,oP),(211,tL)]) (bw:=[]) (inv:=[]) ((ai qP (ai yz aA))) (av) (aB) (fn:=Tryz.f213) rfl (by kernel_rfl) (fun x=>by kernel_rfl)
noncomputable def EE:dG:=⟨Te,Vw,tC⟩
theorem Ob:Holds Tryz.prog bg 202 EE:=ay (cW:=[(171,tK),(193,gy),(203,As),(213,ED)]) (bw:=[]) (inv:=[]) ((ai yu (ai iX (ai GD (ai Oa aA))))) (av) (aB) (fn:=Tryz.f202) rfl (by kernel_rfl) (fun x=>by kernel_rfl)
noncomputable def GF:dG:=⟨(.pair (.slice Tb) (.pair (.slice (.pair XQ jO)) .unit)),Vw,vj⟩
theorem QJ:Holds Tryz.prog bg 176 GF:=ay (cW:=[(112,wk),(139,yx),(174,yw),(175,oP),(200,Ar),(201,B8),(202,EE),(203,As)]) (bw:=[]) (inv:=[]) ((ai B5 (ai EA (ai Ez (ai qP (ai J6 (ai Ln (ai Ob (ai GD aA))))))))) (av) (aB) (fn:=Tryz.f176) rfl (by kernel_rfl) (fun x=>by kernel_rfl)
noncomputable def B9:dG:=⟨Te,Vw,rH⟩
theorem Lo:Holds Tryz.prog bg 140 B9:=ay (cW:=[(67,wm),(111,yo),(175,oP),(176,GF)]) (bw:=[]) (inv:=[]) ((ai B6 (ai Ew (ai qP (ai QJ aA))))) (av) (aB) (fn:=Tryz.f140) rfl (by kernel_rfl) (fun x=>by kernel_rfl)
noncomputable def GG:dG:=⟨FF,Vw,vm⟩
theorem QK:Holds Tryz.prog bg 114 GG:=ay (cW:=[(140,B9)]) (bw:=[]) (inv:=[]) ((ai Lo aA)) (av) (aB) (fn:=Tryz.f114) rfl (by kernel_rfl) (fun x=>by kernel_rfl)
noncomputable def EF:dG:=⟨(.pair K3 jO),Vw,tG⟩
theorem Oc:Holds Tryz.prog bg 68 EF:=ay (cW:=[(32,yy),(110,wg),(113,EC),(114,GG)]) (bw:=[]) (inv:=[]) ((ai EB (ai BX (ai N9 (ai QK aA))))) (av) (aB) (fn:=Tryz.f68) rfl (by kernel_rfl) (fun x=>by kernel_rfl)
noncomputable def Au:dG:=⟨(.pair K3 .unit),sD,qk⟩
theorem J7:Holds Tryz.prog bg 31 Au:=ay (cW:=[(28,CQ),(66,BZ),(67,wm),(68,EF)]) (bw:=[]) (inv:=[]) ((ai JY (ai Lg (ai B6 (ai Oc aA))))) (av) (aB) (fn:=Tryz.f31) rfl (by kernel_rfl) (fun x=>by kernel_rfl)
noncomputable def GH:dG:=⟨(.pair K3 .unit),sD,mD⟩
theorem QL:Holds Tryz.prog bg 14 GH:=ay (cW:=[(30,BW),(31,Au),(32,yy)]) (bw:=[]) (inv:=[]) ((ai Lf (ai J7 (ai EB aA)))) (av) (aB) (fn:=Tryz.f14) rfl (by kernel_rfl) (fun x=>by kernel_rfl)
noncomputable def qw:dG:=⟨(.pair (.slice vT) Tc),sD,fR⟩
theorem vv:Holds Tryz.prog bg 11 qw:=ay (cW:=[]) (bw:=[]) (inv:=[]) (aA) (av) (aB) (fn:=Tryz.f11) rfl (by kernel_rfl) (fun x=>by kernel_rfl)
noncomputable def iP:dG:=⟨(.pair (.slice .str) FF),sD,ef⟩
theorem lI:Holds Tryz.prog bg 47 iP:=ay (cW:=[]) (bw:=[]) (inv:=[]) (aA) (av) (aB) (fn:=Tryz.f47) rfl (by kernel_rfl) (fun x=>by kernel_rfl)
noncomputable def vw:dG:=⟨(.pair (.slice YH8) (.pair (.slice YH8) .unit)),sD,lE⟩
theorem EG:Holds Tryz.prog bg 44 vw:=ay (cW:=[(11,qw),(47,iP)]) (bw:=[]) (inv:=[]) ((ai vv (ai lI aA))) (av) (aB) (fn:=Tryz.f44) rfl (by kernel_rfl) (fun x=>by kernel_rfl)
noncomputable def uJ:dG:=⟨(.pair (.slice vS) XS),sD,j9⟩
theorem CS:Holds Tryz.prog bg 45 uJ:=ay (cW:=[(11,qw),(47,iP)]) (bw:=[]) (inv:=[]) ((ai vv (ai lI aA))) (av) (aB) (fn:=Tryz.f45) rfl (by kernel_rfl) (fun x=>by kernel_rfl)
noncomputable def uK:dG:=⟨(.pair (.slice XP) (.pair (.slice XP) .unit)),sD,ke⟩
theorem CT:Holds Tryz.prog bg 46 uK:=ay (cW:=[(47,iP)]) (bw:=[]) (inv:=[]) ((ai lI aA)) (av) (aB) (fn:=Tryz.f46) rfl (by kernel_rfl) (fun x=>by kernel_rfl)
noncomputable def uL:dG:=⟨(.pair (.slice Ho) (.pair (.slice Ho) .unit)),sD,kf⟩
theorem CU:Holds Tryz.prog bg 48 uL:=ay (cW:=[]) (bw:=[]) (inv:=[]) (aA) (av) (aB) (fn:=Tryz.f48) rfl (by kernel_rfl) (fun x=>by kernel_rfl)
noncomputable def EH:dG:=⟨(.pair K3 (.pair K3 .unit)),sD,kg⟩
theorem Od:Holds Tryz.prog bg 17 EH:=ay (cW:=[(44,vw),(45,uJ),(46,uK),(47,iP),(48,uL)]) (bw:=[]) (inv:=[]) ((ai EG (ai CS (ai CT (ai lI (ai CU aA)))))) (av) (aB) (fn:=Tryz.f17) rfl (by kernel_rfl) (fun x=>by kernel_rfl)
noncomputable def Bl:dG:=⟨(.pair K3 (.pair (.arr 2 .str) ye)),sD,jg⟩
theorem Bm:Holds Tryz.prog bg 4 Bl:=ay (cW:=[(6,BK),(13,Gw),(14,GH),(15,sN),(16,sO),(17,EH),(18,vY),(19,yl)]) (bw:=[]) (inv:=[]) ((ai K5 (ai QD (ai QL (ai yN (ai yO (ai Od (ai BJ (ai En aA))))))))) (av) (aB) (fn:=Tryz.f4) rfl (by kernel_rfl) (fun x=>by kernel_rfl)
end Go.Proofs.YtpipdmfkbnbchaaGreatDoor
