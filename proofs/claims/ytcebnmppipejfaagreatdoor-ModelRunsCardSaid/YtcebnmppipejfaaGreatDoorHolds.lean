import Derived.Test.YtcebnmppipejfaaGreatDoorFirst
import Derived.Test.YtcebnmppipejfaaGreatDoorBld
set_option linter.unusedVariables false
set_option linter.unusedSectionVars false
set_option linter.unusedSimpArgs false
set_option linter.defProp false
open Option renaming some->aa,none->af
namespace Go.Proofs.YtcebnmppipejfaaGreatDoor
open Go Go.Ge
set_option maxRecDepth 100000
variable [Lp]
open First
def cy(s:List (Nat×Nat))(m:List Nat):Option Pz:=aa ⟨s,m,false⟩
def cz(s:List (Nat×Nat)):Option Pz:=aa ⟨s,[],false⟩
def fp(a:List (Option Pz)):IE:=⟨a,[]⟩
abbrev kF:Ty:=(.pair (.slice<|.pair .str<|.pair (.slice .str)<|.pair .str<|.pair .str<|.pair .str<|.pair (.slice<|.pair .str<|.pair .str<|.pair .str .unit) .unit)<|.pair (.slice<|.pair .str<|.pair (.slice .str)<|.pair .str<|.pair .str<|.pair (.slice<|.pair .str<|.pair .str<|.pair .str .unit) .unit)<|.pair (.slice<|.pair .str<|.pair .str<|.pair (.slice .str)<|.pair .str<|.pair (.int .i64)<|.pair (.int .i64)<|.pair .bool .unit)<|.pair (.slice .str)<|.pair (.slice<|.pair .str<|.pair (.int .i64) .unit) .unit)
abbrev YH1:Ty:=(.pair .str<|.pair .str<|.pair (.slice<|.pair .str<|.pair .str<|.pair .str .unit) .unit)
abbrev wB:Ty:=(.pair .str<|.pair .str<|.pair (.slice .str)<|.pair .str<|.pair (.int .i64)<|.pair (.int .i64)<|.pair .bool .unit)
abbrev DJ:Ty:=(.pair .str<|.pair (.int .i64)<|.pair (.int .i64)<|.pair .str<|.pair .str .unit)
abbrev ea:Ty:=(.pair .str .unit)
abbrev pf:Ty:=(.pair (.int .i64) .unit)
abbrev Af:Ty:=(.pair .str<|.pair (.slice .str)<|.pair .str YH1)
abbrev YH7:Ty:=(.pair .str<|.pair (.int .i64)<|.pair (.int .i64)<|.pair (.int .i64)<|.pair (.int .i64)<|.pair (.int .i64)<|.pair (.int .i64) ea)
abbrev Fk:Ty:=(.pair (.pair (.int .i64)<|.pair .str<|.pair (.int .i64) ea) .unit)
abbrev zu:Ty:=(.pair .str<|.pair (.slice .str) YH1)
abbrev TX:Ty:=(.pair (.int .i64)<|.pair (.int .i64)<|.pair .str<|.pair .str<|.pair (.slice .str)<|.pair .str<|.pair .str pf)
abbrev jz:Ty:=(.pair .str<|.pair .str ea)
abbrev dU:Ty:=(.pair .bool .unit)
abbrev zg:Ty:=(.pair (.slice .str) .unit)
abbrev fR:Ty:=(.pair .str pf)
abbrev wY:Ty:=(.pair (.slice DJ) .unit)
abbrev TY:Ty:=(.slice<|.pair .str zg)
abbrev ahl:Ty:=(.alt 322 ea<|.alt 324 ea<|.alt 326 .unit<|.alt 328 (.pair DJ .unit) .DV)
abbrev akC:Ty:=(.pair (.int .i64)<|.pair (.slice wB)<|.pair (.slice zu)<|.pair (.slice Af) .unit)
abbrev LW:Ty:=(.pair (.int .i64) ea)
abbrev GF:Ty:=(.pair (.slice DJ) pf)
abbrev x9:Ty:=(.pair kF .unit)
abbrev Im:Ty:=(.pair (.int .i64) pf)
abbrev ahm:Ty:=(.pair kF<|.pair .str<|.pair (.slice .str) fR)
abbrev Sd:Ty:=(.pair (.slice DJ) ea)
abbrev amM:Ty:=(.pair .bool<|.pair .str<|.pair (.int .i64)<|.pair .bool dU)
abbrev akD:Ty:=(.pair (.arr 8<|.int .u32) .unit)
abbrev akE:Ty:=(.slice<|.pair (.int .i64)<|.pair .str LW)
abbrev aa2:Ty:=(.pair (.slice wB) .unit)
abbrev N7:Ty:=(.pair TY .unit)
abbrev aa3:Ty:=(.slice<|.pair YH7 ea)
abbrev ahn:Ty:=(.pair kF<|.pair TX .unit)
abbrev adA:Ty:=(.pair (.int .u8) .unit)
abbrev Se:Ty:=(.pair .str ea)
abbrev aho:Ty:=(.pair (.slice jz) .unit)
abbrev ahp:Ty:=(.pair (.slice fR) .unit)
abbrev aa4:Ty:=(.slice<|.int .i64)
abbrev aor:Ty:=(.pair (.pair .bool akD)<|.pair (.arr 64<|.int .u8) pf)
abbrev akF:Ty:=(.pair (.slice Af) .unit)
abbrev akG:Ty:=(.pair (.slice zu) .unit)
noncomputable def ft:Nat->IE|3=>fp [af,af,cy [(2,4),(8,3)] [7],af,af]|7=>fp [cz [(4,4),(5,3)],af,af]|9=>⟨[cy [(6,32),(12,3)] [2,6],af],[6]⟩|10=>⟨[cy [(6,32),(7,3)] [2,6],af],[6]⟩|12=>fp [af,cz [(4,4),(5,3)],af,af]|13=>fp [af,af,af,af,af,af,af,af,af,af,cz [(104,4)],af,cz [(112,4)],cz [(112,4)],af]|14=>fp [af,cz [(2,4),(3,3)],af,af,cz [(2,4),(4,3)],af,cz [(6,4),(7,3)],af,af,cz [(2,4),(8,3)],af,af]|17=>fp [af,cz [(4,4),(5,3)],af,af]|18=>fp [cz [(5,4)],cz [(5,4)],af,af,af,cz [(16,4)],cz [(16,4)],cz [(16,4)],cz [(16,4)],af,cz [(23,4)],af,cz [(29,4)],cz [(29,4)],af]|22=>fp [af,cz [(4,4),(5,3)],af,af]|29=>fp [af,af,af,af,af,af,af,af,af,af,cz [(104,4)],af,cz [(112,4)],cz [(112,4)],af]|30=>fp [af,cz [(4,4),(5,3)],af,af]|31=>fp [af,cz [(4,4),(5,3)],af,af]|32=>fp [af,cz [(4,4),(5,3)],af,af]|33=>fp [af,cz [(4,4),(5,3)],af,af]|34=>⟨[af,cy [] [8]],[36]⟩|35=>fp [af,af]|36=>fp [af]|37=>fp [af,af,af]|40=>fp [af,cy [(13,37)] [12],cz [(13,37)],cy [(13,37)] [12],af]|41=>fp [af,af]|42=>fp [af,cy [(13,37)] [12],cz [(13,37)],cy [(13,37)] [12],af,cy [] [14],af]|43=>fp [af,af]|44=>fp [af,af,af,af,af]|45=>fp [af,af,af,cz [(8,37)],af,cy [] [2]]|47=>fp [af,cz [(4,37),(6,3)],af,af,cz [(4,37),(7,3)],af,af,cz [(4,37),(8,3)],af,af,cz [(4,37),(11,3)],af,af,cz [(4,37),(12,3)],af,cz [(4,37),(13,3)],af,af]|48=>fp [af,cz [(2,4),(3,3)],af,af,af]|49=>fp [cz [(4,3),(5,3)],af,af]|52=>fp [cz [(2,4),(3,3)],af,af]|53=>fp [af]|56=>⟨[cy [(4,27),(5,37),(6,27),(7,9)] [6],cy [(4,27),(5,37),(6,27),(7,9),(13,3)] [6],af,af,af,af],[6]⟩|58=>⟨[aa ⟨[(1,9),(4,27),(5,37),(6,27),(7,3)],[6],true⟩,af,af,af,af],[6]⟩|60=>⟨[af],[5]⟩|61=>⟨[af],[5]⟩|62=>⟨[af],[5]⟩|63=>⟨[af],[5]⟩|67=>fp [af]|68=>fp [af]|69=>fp [af,af,cy [(13,9)] [10,11],af,af,af,cy [(19,96)] [10,11],af,cy [(19,96)] [10,11],af,cy [(3,9)] [10,11],af]|70=>fp [af,af]|71=>fp [af]|72=>fp [af,af,cy [(12,96)] [4],af]|73=>fp [af,af]|74=>fp [af,af]|75=>fp [af,cy [(12,9)] [10,11],af,af,af]|76=>fp [af,cy [(8,3)] [4,5],af,af]|77=>fp [af,cy [(12,9),(13,9)] [10,11],af,af,af,af]|78=>fp [af,af]|79=>fp [af,af,cz [(12,67)],af,af,af,af]|80=>fp [af,af,af,af,af,af]|82=>fp [af,cz [(4,4),(5,3)],af,af]|83=>⟨[cy [] [6000008],af,af],[5000000,7000037]⟩|85=>⟨[af],[7]⟩|86=>⟨[af],[7000037]⟩|87=>fp [af]|88=>fp [cy [(3,37)] [2]]|90=>fp [af,cy [(6,37),(21,3)] [5],af,af]|93=>fp [af,cy [(4,9),(5,37),(17,3),(0,999999)] [0],af,af]|94=>⟨[af],[7000037]⟩|95=>⟨[af,cz [(4,37)]],[7000037]⟩|96=>fp [af]|97=>fp [af]|101=>fp [cz [(7,3)]]|103=>fp [af]|105=>⟨[af,cy [(8,25),(28,3)] [8,2000026],af],[8]⟩|106=>⟨[af],[6]⟩|107=>fp [cy [(11,3)] [4],af,cz [(7,9)]]|108=>fp [af,af,af]|115=>⟨[cy [(7,26)] [7,8]],[10]⟩|119=>fp [cy [(5,4),(11,3)] [4],af,af]|120=>⟨[cz [(5,3)]],[8000000]⟩|122=>fp [af]|123=>⟨[cy [(5,25)] [5,6]],[9,8000000]⟩|124=>⟨[af,af,cy [(7,28),(27,3)] [7],af,cy [(7,28)] [7],af,af],[7]⟩|126=>fp [af]|127=>fp [af]|128=>fp [af,af]|129=>⟨[cy [(8,3)] [3],af],[4000014]⟩|130=>⟨[af,af],[43,8000000]⟩|134=>⟨[cy [(4,28),(5,28),(6,3)] [4,5],af,cy [(4,28),(5,28),(7,3)] [4,5],af,cy [(4,28),(5,28),(8,3)] [4,5],af],[4,5]⟩|135=>fp [cz [(2,37),(3,3)],af,af]|137=>fp [af]|138=>⟨[af,cy [(8,28),(9,3)] [8],af],[8]⟩|141=>fp [cz [(4,3),(8,3)],af,af]|142=>⟨[af],[5]⟩|143=>fp [cz [(4,9),(5,37),(6,3)],af,af,cz [(4,9),(5,37),(7,3)],af,cz [(4,9),(5,37),(8,3)],af,af,cz [(9,3),(10,9),(11,3)],af,cz [(9,3),(10,9)],af,af]|145=>fp [cz [(4,3),(5,3)],af,af]|146=>fp [cz [(4,3),(8,3)],af,af]|150=>fp [af]|151=>fp [af]|153=>fp [af,cz [(6,37),(9,3)],af,cz [(6,37),(10,3)],af,af]|154=>fp [af,cz [(4,9),(5,37),(7,3)],af,cz [(9,4),(10,3)],af,af]|156=>fp [af,af]|157=>⟨[cy [(7,27),(8,28),(9,4),(10,3)] [7,8],af,cy [(7,27),(8,28),(9,4)] [7,8],cy [(7,27),(8,28)] [7,8]],[7,8]⟩|158=>fp [cz [(4,4),(5,3)],af,af,cz [(4,4),(6,3)],af,af,cz [(4,4),(7,3)],af,af]|159=>fp [cz [(4,3),(5,3)],af,af]|160=>⟨[cy [(6,27),(7,28),(8,3)] [6,7],af,cy [(6,27),(7,28)] [6,7]],[6,7]⟩|161=>fp [af,cz [(6,113),(7,3)],af,cz [(6,113)],cz [(6,113)],cz [(6,113),(10,3)],af,cz [(6,113)]]|162=>fp [cz [(3,9),(4,3)],af,cz [(5,9)]]|163=>⟨[cy [(7,29),(8,3)] [7],af,cy [(7,29)] [7],af,cz [(9,3)],af],[7,10]⟩|166=>⟨[cz [(5,3)],af],[6]⟩|168=>⟨[cy [(6,26),(7,3)] [6],af,cy [(6,26)] [6]],[6]⟩|170=>fp [af]|172=>⟨[cz [(5,3)],af],[6]⟩|174=>fp [af]|175=>⟨[cy [(6,25),(7,3)] [6],af,cy [(6,25)] [6]],[6]⟩|177=>fp [cz [(4,9),(5,37),(6,3)],af,af]|178=>⟨[af,cz [(8,3),(9,3)],af,cz [(8,3)],af,cy [(10,67),(11,3)] [10],af,cy [(10,67)] [10],cz [(12,3)],af],[10,13]⟩|179=>fp [cz [(3,9),(4,3)],af,cz [(3,9),(5,3)],af]|180=>⟨[af,af,cy [(13,27),(14,4),(15,3)] [13],af,cy [(14,4)] [16]],[13]⟩|186=>⟨[cy [(5,161),(6,0),(7,4)] [4,5,6],af,af],[5,6]⟩|187=>⟨[cy [(2,164),(3,4),(4,164),(11,3)] [4],af,af],[4]⟩|190=>⟨[cy [] [5,6],cy [(20,3)] [5,6],af,cy [] [5,6],cy [(36,3)] [5,6],af,cy [] [5,6],cy [(52,3)] [5,6],af,cy [] [5,6,12]],[5]⟩|194=>fp [af,cz [(2,37),(12,3)],af,af]|195=>⟨[af,af,cy [(8,22),(30,3),(6,999999),(28,999999)] [6,8,28,2000008],af,cy [(4,22),(5,27),(8,22),(40,3),(38,999999)] [8,38],af,af],[25]⟩|198=>fp [cy [(9,3)] [3],af]|199=>⟨[cy [(4,3),(8,3)] [1],af,af],[7000003]⟩|201=>⟨[],[8]⟩|202=>⟨[],[8]⟩|210=>⟨[af],[9]⟩|211=>⟨[af],[9]⟩|212=>⟨[cy [(7,26)] [4,7,2000007],cz [(8,3)]],[11]⟩|213=>fp [cy [(2,3),(3,3),(0,999999)] [0,3999999],af]|214=>fp [cz [(2,96),(3,37),(4,96),(11,3)],af,af]|216=>fp [cy [(0,96),(1,96)] [2,3,4],af,cz [(10,3)],cz [(10,3)],cy [] [2,3,4],cy [] [3,4],cz [(0,96)],cz [(1,96)]]|218=>fp [cy [] [2]]|222=>⟨[af],[5]⟩|223=>fp [cz [(8,3)]]|224=>fp [cy [(4,3),(8,3)] [1],af,af]|232=>fp [cy [(4,3),(8,3)] [1],af,af]|239=>fp [cz [(8,3)]]|243=>fp [cz [(2,4),(3,3)],af,af,cz [(2,4),(4,3)],af,af]|244=>fp [af,af]|245=>fp [cz [(2,4),(3,3)],af,af]|246=>fp [cy [(5,3)] [3],af,cy [(7,3)] [6],af]|247=>⟨[cy [(3,180),(4,3)] [3],af],[3]⟩|248=>fp [af]|249=>fp [cz [(2,4),(3,3)],af,af]|250=>fp [cz [(2,96),(3,37),(4,96),(5,3)],af,af]|252=>⟨[cy [(5,102)] [5],cy [(5,102),(6,3)] [5],af,cy [(5,102)] [5],cy [(5,102),(7,3)] [5],af,cy [(5,102)] [5],cy [(5,102),(8,3)] [5],af,cy [(5,102)] [5]],[5]⟩|254=>fp [cz [(4,3),(5,3)],af,af]|255=>fp [cz [(4,4),(5,3)],af,af]|256=>fp [cz [(0,3),(3,9),(4,3)],af]|257=>fp [af,cz [(2,4),(3,3)],af,af]|258=>fp [af,af,cz [(0,96),(6,3)],af,cz [(0,96)],cz [(0,96)],cz [(0,96),(4,96),(5,37),(10,3)],af,af,af,af]|259=>fp [af]|260=>⟨[cz [(5,3)],af],[6]⟩|261=>fp [cz [(4,3),(5,3)],af,af]|262=>fp [cz [(4,3),(5,3)],af,af]|263=>fp [cz [(2,4),(3,3)],af,af]|266=>fp [cy [(4,3),(8,3)] [1],af,af]|267=>fp [af,af,af]|269=>fp [af,af,af,af]|271=>fp [af,af,af,af,af]|275=>fp [af]|276=>fp [af,af,af,af]|278=>fp [af,af,af]|282=>fp [af,cy [(1,9)] [0],af,cy [] [0]]|283=>fp [cy [] [3],cy [] [3],af,cy [(26,3)] [5],af,cy [(41,3)] [7],af]|287=>fp [cy [(4,3),(8,3)] [1],af,af]|288=>fp [cy [(4,3),(8,3)] [1],af,af]|292=>fp [af,cy [(5,3),(6,3),(0,999999)] [0,1],af,cy [(5,3),(0,999999)] [0]]|295=>⟨[],[8]⟩|303=>fp [cy [(4,3),(8,3)] [1],af,af]|305=>⟨[cy [(7,67)] [7,8]],[10]⟩|308=>⟨[af,cy [(2,9),(3,4),(4,180),(5,3)] [4],af,af],[4]⟩|310=>fp [cy [(3,180)] [0,3],af,cy [(3,180),(5,3)] [3],af]|311=>fp [cy [(6,3)] [5],af,cy [(7,3)] [5],af,cy [(12,3)] [11],af,cy [(17,3)] [11],af]|312=>fp [af]|313=>⟨[af,aa ⟨[(0,9),(2,161),(3,4),(4,161)],[4],true⟩,af,af,af],[4]⟩|314=>fp [af,af,af,af]|315=>fp [af]|316=>fp [af,af,af]|318=>fp [cz [(4,3),(7,3)],af,af,af,af,af]|319=>fp [af]|320=>fp [af]|321=>fp [cz [(0,96),(4,96),(5,37),(7,9),(8,3)],af,af,af]|322=>⟨[af,af,af,aa ⟨[(8,22),(0,999999)],[0],true⟩,aa ⟨[(8,22),(0,999999)],[0],true⟩,af,cz [(12,3)],af],[10,11]⟩|324=>fp [cz [(4,3),(5,3)],af,af]|336=>fp [cz [(0,9)],af]|337=>fp [cz [(0,9)],af]|338=>fp [cy [(3,4),(4,3)] [2],af,af]|339=>fp [cy [(0,9)] [1],af,af]|340=>fp [cy [(0,9)] [1],af,af]|345=>fp [af,cz [(4,9)],cz [(71,4)],cy [] [10],cy [] [10],cy [] [10],af]|347=>⟨[cy [(2,9),(3,37),(4,28),(11,3)] [4],af,cy [(2,9),(3,37),(4,28)] [4],af,af],[4]⟩|348=>fp [af,af,af]|349=>fp [af]|351=>⟨[cy [(3,96),(6,9),(18,3)] [3],af],[3]⟩|352=>fp [af,af,af,af,af]|355=>fp [cy [(6,3),(13,3)] [2],af,af,af,af]|356=>fp [af]|357=>fp [af,af,af,af,af]|362=>fp [cy [] [0],cz [(6,254),(7,254),(8,254),(9,254),(10,254),(11,254),(12,254),(13,254),(74,3)],af,cy [(143,3)] [0],af]|375=>fp [cz [(2,3),(3,3)],af,af]|378=>fp [cz [(2,4),(3,3)],af,af]|379=>fp [af,cz [(2,4),(3,3)],af,af]|380=>fp [af,cy [] [11],cz [(74,4)],cy [] [11],cy [] [11],cy [] [11],af]|381=>fp [cz [(0,3)],af]|382=>⟨[cy [(5,28),(6,3)] [5],af,cy [(5,28)] [5],af],[5]⟩|383=>fp [af,af,af]|384=>fp [af,af]|385=>fp [cz [(2,4),(4,9),(5,3)],af,af]|386=>⟨[af,cy [(3,28),(4,9),(5,3)] [3],af,cy [(3,28),(4,9)] [3]],[3]⟩|387=>fp [cz [(3,9),(4,3)],af,cz [(3,9)]]|388=>fp [cz [(2,4),(4,3)],af,af]|389=>fp [cz [(2,4),(3,3)],af,af]|390=>⟨[cy [(7,96),(8,3)] [7],af,cy [(7,96)] [7]],[7]⟩|402=>fp [af]|403=>fp [cz [(4,3),(12,3)],af,cz [(6,5)]]|405=>fp [af,af,af,af]|406=>fp [cz [(2,4),(6,3)],af,af]|408=>fp [cz [(4,3),(5,3)],af,af]|409=>fp [cz [(9,254),(10,3)],af,af,cz [(4,3),(9,254),(11,3)],af,af]|412=>fp [cy [(9,3),(10,3)] [1,2],af,cz [(9,3),(10,3)]]|417=>fp [cy [(12,3)] [3],af,cy [(22,3)] [3],af,cy [(7,3)] [3],af]|426=>fp [cz [(3,3)],af,af,cz [(2,3),(4,3)],af,af,af]|427=>fp [cz [(3,3),(4,3)],af,cz [(3,3)]]|428=>fp [cz [(2,9),(3,4),(4,3)],af,af,cz [(2,9),(3,4),(5,3)],af,af]|429=>fp [cz [(5,4)]]|431=>fp [cz [(2,4),(3,3)],af,af]|432=>fp [af,cz [(4,4),(7,3)],af,af]|438=>fp [af,af,af]|439=>fp [af,cz [(2,3),(3,4),(4,3),(18,3)],af,af]|442=>fp [af]|443=>fp [cz [(4,254),(5,3)],af,cz [(6,254),(7,254),(8,3)],af,cz [(6,254)]]|451=>fp [af,cz [(2,3),(3,4),(4,3),(5,3)],af,af]|452=>fp [cz [(4,4),(5,3)],af,af]|485=>⟨[af],[9]⟩|488=>fp [af,cy [(5,3),(6,3),(0,999999)] [0,1],af,cy [(5,3),(0,999999)] [0]]|489=>⟨[af],[5]⟩|491=>fp [af,cz [(4,4),(13,3)],af,af]|492=>fp [cy [(4,3),(8,3)] [1],af,af]|500=>fp [cz [(1,96),(4,96),(5,37),(6,9),(25,3)],af,af,af]|501=>fp [af,af]|502=>⟨[af,af,af,af],[55]⟩|_=>⟨[],[]⟩
def uu:List (Nat×List Gr):=[(203,[.self,.buf (.int .u8) 5]),(326,[])]
def Yp:List (Nat×Nat):=[(180,5),(157,99)]
noncomputable def XY:List (Nat×Spc):=[(221,.str 203 5),(296,.chk 203),(60,.clone Af),(61,.clone zu),(62,.clone fR),(63,.clone wB),(142,.clone .str),(222,.clone jz),(489,.clone DJ),(181,(.own .str .unit false dY)),(182,(.own .str .unit true gj)),(226,(.own zu Im true bq)),(228,(.own Af (.pair (.int .i64) akF) true bY)),(231,(.own Af Im true cE)),(285,(.own .str (.pair (.int .i64) zg) true eH)),(286,(.own wB (.pair (.int .i64) aa2) true dw)),(290,(.own .str Im true eI)),(291,(.own wB Im true dx)),(298,(.own zu (.pair (.int .i64) akG) true bI)),(307,(.own jz (.pair (.int .i64) aho) true aQ)),(367,(.own fR (.pair (.int .i64) ahp) true eO)),(372,(.own jz Im true bE)),(503,(.own DJ (.pair (.int .i64) wY) true bc))]
noncomputable def tys:List (Nat×Ty):=[(3,(.int .i64)),(4,.bool),(5,(.int .u8)),(9,.str),(21,(.int .i32)),(22,(.slice TX)),(25,(.slice Af)),(26,(.slice zu)),(27,(.slice wB)),(28,(.slice .str)),(29,(.slice fR)),(31,kF),(32,akE),(37,(.int .i64)),(39,(.pair (.int .i64)<|.pair .str LW)),(43,TX),(48,aa4),(66,akC),(67,(.slice jz)),(69,zu),(72,Af),(74,fR),(85,wB),(86,(.arr 4 .bool)),(96,(.slice DJ)),(102,TY),(113,(.slice LW)),(125,(.int .u64)),(139,(.arr 4<|.int .i64)),(156,jz),(161,aa3),(164,(.slice ahl)),(169,(.pair .str zg)),(178,(.arr 32<|.int .u8)),(180,(.slice<|.int .u8)),(193,LW),(197,DJ),(200,(.arr 4 .str)),(233,YH7),(235,(.pair YH7 ea)),(239,ahl),(254,(.int .u32)),(255,(.arr 8<|.int .u32)),(257,(.pair .bool akD)),(258,(.arr 64<|.int .u8)),(260,aor),(295,(.int .i64)),(304,(.int .u64)),(307,(.arr 256 .bool)),(313,amM),(322,ea),(324,ea),(328,(.pair DJ .unit)),(339,(.arr 8<|.int .u8)),(349,(.arr 64<|.int .u32)),(354,(.int .u64)),(380,Im),(381,(.arr 11 Im)),(386,(.arr 2 .str)),(391,(.arr 256<|.int .u8)),(393,(.pair (.int .u8) adA)),(394,(.arr 16<|.pair (.int .u8) adA))]
noncomputable def C5:List (Nat×Func):=[(3,Tryz.f3),(7,Tryz.f7),(8,Tryz.f8),(9,Tryz.f9),(10,Tryz.f10),(11,Tryz.f11),(12,Tryz.f12),(13,Tryz.f13),(14,Tryz.f14),(16,Tryz.f16),(17,Tryz.f17),(18,Tryz.f18),(22,Tryz.f22),(29,Tryz.f29),(30,Tryz.f30),(31,Tryz.f31),(32,Tryz.f32),(33,Tryz.f33),(34,Tryz.f34),(35,Tryz.f35),(36,Tryz.f36),(37,Tryz.f37),(38,Tryz.f38),(39,Tryz.f39),(40,Tryz.f40),(41,Tryz.f41),(42,Tryz.f42),(43,Tryz.f43),(44,Tryz.f44),(45,Tryz.f45),(46,Tryz.f46),(47,Tryz.f47),(48,Tryz.f48),(49,Tryz.f49),(52,Tryz.f52),(53,Tryz.f53),(54,Tryz.f54),(55,Tryz.f55),(56,Tryz.f56),(57,Tryz.f57),(58,Tryz.f58),(60,Tryz.f60),(61,Tryz.f61),(62,Tryz.f62),(63,Tryz.f63),(64,Tryz.f64),(67,Tryz.f67),(68,Tryz.f68),(69,Tryz.f69),(70,Tryz.f70),(71,Tryz.f71),(72,Tryz.f72),(73,Tryz.f73),(74,Tryz.f74),(75,Tryz.f75),(76,Tryz.f76),(77,Tryz.f77),(78,Tryz.f78),(79,Tryz.f79),(80,Tryz.f80),(81,Tryz.f81),(82,Tryz.f82),(83,Tryz.f83),(84,Tryz.f84),(85,Tryz.f85),(86,Tryz.f86),(87,Tryz.f87),(88,Tryz.f88),(89,Tryz.f89),(90,Tryz.f90),(91,Tryz.f91),(92,Tryz.f92),(93,Tryz.f93),(94,Tryz.f94),(95,Tryz.f95),(96,Tryz.f96),(97,Tryz.f97),(98,Tryz.f98),(99,Tryz.f99),(100,Tryz.f100),(101,Tryz.f101),(102,Tryz.f102),(103,Tryz.f103),(104,Tryz.f104),(105,Tryz.f105),(106,Tryz.f106),(107,Tryz.f107),(108,Tryz.f108),(109,Tryz.f109),(110,Tryz.f110),(111,Tryz.f111),(112,Tryz.f112),(113,Tryz.f113),(114,Tryz.f114),(115,Tryz.f115),(116,Tryz.f116),(117,Tryz.f117),(118,Tryz.f118),(119,Tryz.f119),(120,Tryz.f120),(121,Tryz.f121),(122,Tryz.f122),(123,Tryz.f123),(124,Tryz.f124),(125,Tryz.f125),(126,Tryz.f126),(127,Tryz.f127),(128,Tryz.f128),(129,Tryz.f129),(130,Tryz.f130),(131,Tryz.f131),(132,Tryz.f132),(133,Tryz.f133),(134,Tryz.f134),(135,Tryz.f135),(136,Tryz.f136),(137,Tryz.f137),(138,Tryz.f138),(141,Tryz.f141),(142,Tryz.f142),(143,Tryz.f143),(144,Tryz.f144),(145,Tryz.f145),(146,Tryz.f146),(147,Tryz.f147),(148,Tryz.f148),(149,Tryz.f149),(150,Tryz.f150),(151,Tryz.f151),(152,Tryz.f152),(153,Tryz.f153),(154,Tryz.f154),(155,Tryz.f155),(156,Tryz.f156),(157,Tryz.f157),(158,Tryz.f158),(159,Tryz.f159),(160,Tryz.f160),(161,Tryz.f161),(162,Tryz.f162),(163,Tryz.f163),(164,Tryz.f164),(165,Tryz.f165),(166,Tryz.f166),(167,Tryz.f167),(168,Tryz.f168),(169,Tryz.f169),(170,Tryz.f170),(171,Tryz.f171),(172,Tryz.f172),(173,Tryz.f173),(174,Tryz.f174),(175,Tryz.f175),(176,Tryz.f176),(177,Tryz.f177),(178,Tryz.f178),(179,Tryz.f179),(180,Tryz.f180),(183,Tryz.f183),(184,Tryz.f184),(185,Tryz.f185),(186,Tryz.f186),(187,Tryz.f187),(188,Tryz.f188),(189,Tryz.f189),(190,Tryz.f190),(191,Tryz.f191),(192,Tryz.f192),(193,Tryz.f193),(194,Tryz.f194),(195,Tryz.f195),(197,Tryz.f197),(198,Tryz.f198),(199,Tryz.f199),(200,Tryz.f200),(201,Tryz.f201),(202,Tryz.f202),(203,Tryz.f203),(204,Tryz.f204),(205,Tryz.f205),(206,Tryz.f206),(207,Tryz.f207),(208,Tryz.f208),(209,Tryz.f209),(210,Tryz.f210),(211,Tryz.f211),(212,Tryz.f212),(213,Tryz.f213),(214,Tryz.f214),(215,Tryz.f215),(216,Tryz.f216),(217,Tryz.f217),(218,Tryz.f218),(219,Tryz.f219),(220,Tryz.f220),(222,Tryz.f222),(223,Tryz.f223),(224,Tryz.f224),(225,Tryz.f225),(227,Tryz.f227),(229,Tryz.f229),(230,Tryz.f230),(232,Tryz.f232),(233,Tryz.f233),(234,Tryz.f234),(235,Tryz.f235),(236,Tryz.f236),(237,Tryz.f237),(238,Tryz.f238),(239,Tryz.f239),(241,Tryz.f241),(242,Tryz.f242),(243,Tryz.f243),(244,Tryz.f244),(245,Tryz.f245),(246,Tryz.f246),(247,Tryz.f247),(248,Tryz.f248),(249,Tryz.f249),(250,Tryz.f250),(251,Tryz.f251),(252,Tryz.f252),(253,Tryz.f253),(254,Tryz.f254),(255,Tryz.f255),(256,Tryz.f256),(257,Tryz.f257),(258,Tryz.f258),(259,Tryz.f259),(260,Tryz.f260),(261,Tryz.f261),(262,Tryz.f262),(263,Tryz.f263),(266,Tryz.f266),(267,Tryz.f267),(268,Tryz.f268),(269,Tryz.f269),(270,Tryz.f270),(271,Tryz.f271),(272,Tryz.f272),(273,Tryz.f273),(274,Tryz.f274),(275,Tryz.f275),(276,Tryz.f276),(277,Tryz.f277),(278,Tryz.f278),(282,Tryz.f282),(283,Tryz.f283),(284,Tryz.f284),(287,Tryz.f287),(288,Tryz.f288),(289,Tryz.f289),(292,Tryz.f292),(293,Tryz.f293),(294,Tryz.f294),(295,Tryz.f295),(297,Tryz.f297),(299,Tryz.f299),(302,Tryz.f302),(303,Tryz.f303),(304,Tryz.f304),(305,Tryz.f305),(306,Tryz.f306),(308,Tryz.f308),(309,Tryz.f309),(310,Tryz.f310),(311,Tryz.f311),(312,Tryz.f312),(313,Tryz.f313),(314,Tryz.f314),(315,Tryz.f315),(316,Tryz.f316),(317,Tryz.f317),(318,Tryz.f318),(319,Tryz.f319),(320,Tryz.f320),(321,Tryz.f321),(322,Tryz.f322),(323,Tryz.f323),(324,Tryz.f324),(336,Tryz.f336),(337,Tryz.f337),(338,Tryz.f338),(339,Tryz.f339),(340,Tryz.f340),(343,Tryz.f343),(344,Tryz.f344),(345,Tryz.f345),(346,Tryz.f346),(347,Tryz.f347),(348,Tryz.f348),(349,Tryz.f349),(350,Tryz.f350),(351,Tryz.f351),(352,Tryz.f352),(353,Tryz.f353),(354,Tryz.f354),(355,Tryz.f355),(356,Tryz.f356),(357,Tryz.f357),(358,Tryz.f358),(362,Tryz.f362),(375,Tryz.f375),(376,Tryz.f376),(377,Tryz.f377),(378,Tryz.f378),(379,Tryz.f379),(380,Tryz.f380),(381,Tryz.f381),(382,Tryz.f382),(383,Tryz.f383),(384,Tryz.f384),(385,Tryz.f385),(386,Tryz.f386),(387,Tryz.f387),(388,Tryz.f388),(389,Tryz.f389),(390,Tryz.f390),(396,Tryz.f396),(397,Tryz.f397),(401,Tryz.f401),(402,Tryz.f402),(403,Tryz.f403),(404,Tryz.f404),(405,Tryz.f405),(406,Tryz.f406),(407,Tryz.f407),(408,Tryz.f408),(409,Tryz.f409),(412,Tryz.f412),(413,Tryz.f413),(415,Tryz.f415),(416,Tryz.f416),(417,Tryz.f417),(418,Tryz.f418),(426,Tryz.f426),(427,Tryz.f427),(428,Tryz.f428),(429,Tryz.f429),(430,Tryz.f430),(431,Tryz.f431),(432,Tryz.f432),(437,Tryz.f437),(438,Tryz.f438),(439,Tryz.f439),(440,Tryz.f440),(441,Tryz.f441),(442,Tryz.f442),(443,Tryz.f443),(446,Tryz.f446),(451,Tryz.f451),(452,Tryz.f452),(453,Tryz.f453),(482,Tryz.f482),(483,Tryz.f483),(484,Tryz.f484),(485,Tryz.f485),(486,Tryz.f486),(487,Tryz.f487),(488,Tryz.f488),(489,Tryz.f489),(490,Tryz.f490),(491,Tryz.f491),(492,Tryz.f492),(493,Tryz.f493),(494,Tryz.f494),(495,Tryz.f495),(496,Tryz.f496),(497,Tryz.f497),(498,Tryz.f498),(499,Tryz.f499),(500,Tryz.f500),(501,Tryz.f501),(502,Tryz.f502)]
def sL:List Nat:=[99,120,122,131,140,141,151,160,173,187,194,198,199,201,218,230,242,245,246,268,273,277,311,337,358,369,371,375]
def Bf:List Nat:=[201,230,273,311,337,358,371,375]
noncomputable def x8(b:List (Nat×D1))(a:List (Nat×D8))(c:List (String×D1):=[]):Ctx:=⟨tys,sL,Bf,C5,b,a,uu,XY,Yp,c⟩
def mix:Tryz.prog.follows .mixedOrders=true:=by kernel_rfl
def ahk:∀tid t,find tys tid=aa t->Den Tryz.prog t tid:=aiV (by kernel_rfl)
def Kf:∀tid,du sL tid=true->(∀w,(isAgg tid).run Tryz.prog w=.ok false w)/\(∀w,(Go.sizeOf tid).run Tryz.prog w=.ok 1 w)/\∃z,(∀w,(zeroValue tid).run Tryz.prog w=.ok z w)/\z.oneCell'=true:=aef (by kernel_rfl)
def Kg:∀tid,du Bf tid=true->∃e,Tryz.prog.underlying tid=aa (.pointer e):=aeg (by kernel_rfl)
def R8:∀f a,find C5 f=aa a->Tryz.prog.funcs[f]?=aa a:=aiW ((ak Tryz.func3<|ak Tryz.func7<|ak Tryz.func8<|ak Tryz.func9<|ak Tryz.func10<|ak Tryz.func11<|ak Tryz.func12<|ak Tryz.func13<|ak Tryz.func14<|ak Tryz.func16<|ak Tryz.func17<|ak Tryz.func18<|ak Tryz.func22<|ak Tryz.func29<|ak Tryz.func30<|ak Tryz.func31<|ak Tryz.func32<|ak Tryz.func33<|ak Tryz.func34<|ak Tryz.func35<|ak Tryz.func36<|ak Tryz.func37<|ak Tryz.func38<|ak Tryz.func39<|ak Tryz.func40<|ak Tryz.func41<|ak Tryz.func42<|ak Tryz.func43<|ak Tryz.func44<|ak Tryz.func45<|ak Tryz.func46<|ak Tryz.func47<|ak Tryz.func48<|ak Tryz.func49<|ak Tryz.func52<|ak Tryz.func53<|ak Tryz.func54<|ak Tryz.func55<|ak Tryz.func56<|ak Tryz.func57<|ak Tryz.func58<|ak Tryz.func60<|ak Tryz.func61<|ak Tryz.func62<|ak Tryz.func63<|ak Tryz.func64<|ak Tryz.func67<|ak Tryz.func68<|ak Tryz.func69<|ak Tryz.func70<|ak Tryz.func71<|ak Tryz.func72<|ak Tryz.func73<|ak Tryz.func74<|ak Tryz.func75<|ak Tryz.func76<|ak Tryz.func77<|ak Tryz.func78<|ak Tryz.func79<|ak Tryz.func80<|ak Tryz.func81<|ak Tryz.func82<|ak Tryz.func83<|ak Tryz.func84<|ak Tryz.func85<|ak Tryz.func86<|ak Tryz.func87<|ak Tryz.func88<|ak Tryz.func89<|ak Tryz.func90<|ak Tryz.func91<|ak Tryz.func92<|ak Tryz.func93<|ak Tryz.func94<|ak Tryz.func95<|ak Tryz.func96<|ak Tryz.func97<|ak Tryz.func98<|ak Tryz.func99<|ak Tryz.func100<|ak Tryz.func101<|ak Tryz.func102<|ak Tryz.func103<|ak Tryz.func104<|ak Tryz.func105<|ak Tryz.func106<|ak Tryz.func107<|ak Tryz.func108<|ak Tryz.func109<|ak Tryz.func110<|ak Tryz.func111<|ak Tryz.func112<|ak Tryz.func113<|ak Tryz.func114<|ak Tryz.func115<|ak Tryz.func116<|ak Tryz.func117<|ak Tryz.func118<|ak Tryz.func119<|ak Tryz.func120<|ak Tryz.func121<|ak Tryz.func122<|ak Tryz.func123<|ak Tryz.func124<|ak Tryz.func125<|ak Tryz.func126<|ak Tryz.func127<|ak Tryz.func128<|ak Tryz.func129<|ak Tryz.func130<|ak Tryz.func131<|ak Tryz.func132<|ak Tryz.func133<|ak Tryz.func134<|ak Tryz.func135<|ak Tryz.func136<|ak Tryz.func137<|ak Tryz.func138<|ak Tryz.func141<|ak Tryz.func142<|ak Tryz.func143<|ak Tryz.func144<|ak Tryz.func145<|ak Tryz.func146<|ak Tryz.func147<|ak Tryz.func148<|ak Tryz.func149<|ak Tryz.func150<|ak Tryz.func151<|ak Tryz.func152<|ak Tryz.func153<|ak Tryz.func154<|ak Tryz.func155<|ak Tryz.func156<|ak Tryz.func157<|ak Tryz.func158<|ak Tryz.func159<|ak Tryz.func160<|ak Tryz.func161<|ak Tryz.func162<|ak Tryz.func163<|ak Tryz.func164<|ak Tryz.func165<|ak Tryz.func166<|ak Tryz.func167<|ak Tryz.func168<|ak Tryz.func169<|ak Tryz.func170<|ak Tryz.func171<|ak Tryz.func172<|ak Tryz.func173<|ak Tryz.func174<|ak Tryz.func175<|ak Tryz.func176<|ak Tryz.func177<|ak Tryz.func178<|ak Tryz.func179<|ak Tryz.func180<|ak Tryz.func183<|ak Tryz.func184<|ak Tryz.func185<|ak Tryz.func186<|ak Tryz.func187<|ak Tryz.func188<|ak Tryz.func189<|ak Tryz.func190<|ak Tryz.func191<|ak Tryz.func192<|ak Tryz.func193<|ak Tryz.func194<|ak Tryz.func195<|ak Tryz.func197<|ak Tryz.func198<|ak Tryz.func199<|ak Tryz.func200<|ak Tryz.func201<|ak Tryz.func202<|ak Tryz.func203<|ak Tryz.func204<|ak Tryz.func205<|ak Tryz.func206<|ak Tryz.func207<|ak Tryz.func208<|ak Tryz.func209<|ak Tryz.func210<|ak Tryz.func211<|ak Tryz.func212<|ak Tryz.func213<|ak Tryz.func214<|ak Tryz.func215<|ak Tryz.func216<|ak Tryz.func217<|ak Tryz.func218<|ak Tryz.func219<|ak Tryz.func220<|ak Tryz.func222<|ak Tryz.func223<|ak Tryz.func224<|ak Tryz.func225<|ak Tryz.func227<|ak Tryz.func229<|ak Tryz.func230<|ak Tryz.func232<|ak Tryz.func233<|ak Tryz.func234<|ak Tryz.func235<|ak Tryz.func236<|ak Tryz.func237<|ak Tryz.func238<|ak Tryz.func239<|ak Tryz.func241<|ak Tryz.func242<|ak Tryz.func243<|ak Tryz.func244<|ak Tryz.func245<|ak Tryz.func246<|ak Tryz.func247<|ak Tryz.func248<|ak Tryz.func249<|ak Tryz.func250<|ak Tryz.func251<|ak Tryz.func252<|ak Tryz.func253<|ak Tryz.func254<|ak Tryz.func255<|ak Tryz.func256<|ak Tryz.func257<|ak Tryz.func258<|ak Tryz.func259<|ak Tryz.func260<|ak Tryz.func261<|ak Tryz.func262<|ak Tryz.func263<|ak Tryz.func266<|ak Tryz.func267<|ak Tryz.func268<|ak Tryz.func269<|ak Tryz.func270<|ak Tryz.func271<|ak Tryz.func272<|ak Tryz.func273<|ak Tryz.func274<|ak Tryz.func275<|ak Tryz.func276<|ak Tryz.func277<|ak Tryz.func278<|ak Tryz.func282<|ak Tryz.func283<|ak Tryz.func284<|ak Tryz.func287<|ak Tryz.func288<|ak Tryz.func289<|ak Tryz.func292<|ak Tryz.func293<|ak Tryz.func294<|ak Tryz.func295<|ak Tryz.func297<|ak Tryz.func299<|ak Tryz.func302<|ak Tryz.func303<|ak Tryz.func304<|ak Tryz.func305<|ak Tryz.func306<|ak Tryz.func308<|ak Tryz.func309<|ak Tryz.func310<|ak Tryz.func311<|ak Tryz.func312<|ak Tryz.func313<|ak Tryz.func314<|ak Tryz.func315<|ak Tryz.func316<|ak Tryz.func317<|ak Tryz.func318<|ak Tryz.func319<|ak Tryz.func320<|ak Tryz.func321<|ak Tryz.func322<|ak Tryz.func323<|ak Tryz.func324<|ak Tryz.func336<|ak Tryz.func337<|ak Tryz.func338<|ak Tryz.func339<|ak Tryz.func340<|ak Tryz.func343<|ak Tryz.func344<|ak Tryz.func345<|ak Tryz.func346<|ak Tryz.func347<|ak Tryz.func348<|ak Tryz.func349<|ak Tryz.func350<|ak Tryz.func351<|ak Tryz.func352<|ak Tryz.func353<|ak Tryz.func354<|ak Tryz.func355<|ak Tryz.func356<|ak Tryz.func357<|ak Tryz.func358<|ak Tryz.func362<|ak Tryz.func375<|ak Tryz.func376<|ak Tryz.func377<|ak Tryz.func378<|ak Tryz.func379<|ak Tryz.func380<|ak Tryz.func381<|ak Tryz.func382<|ak Tryz.func383<|ak Tryz.func384<|ak Tryz.func385<|ak Tryz.func386<|ak Tryz.func387<|ak Tryz.func388<|ak Tryz.func389<|ak Tryz.func390<|ak Tryz.func396<|ak Tryz.func397<|ak Tryz.func401<|ak Tryz.func402<|ak Tryz.func403<|ak Tryz.func404<|ak Tryz.func405<|ak Tryz.func406<|ak Tryz.func407<|ak Tryz.func408<|ak Tryz.func409<|ak Tryz.func412<|ak Tryz.func413<|ak Tryz.func415<|ak Tryz.func416<|ak Tryz.func417<|ak Tryz.func418<|ak Tryz.func426<|ak Tryz.func427<|ak Tryz.func428<|ak Tryz.func429<|ak Tryz.func430<|ak Tryz.func431<|ak Tryz.func432<|ak Tryz.func437<|ak Tryz.func438<|ak Tryz.func439<|ak Tryz.func440<|ak Tryz.func441<|ak Tryz.func442<|ak Tryz.func443<|ak Tryz.func446<|ak Tryz.func451<|ak Tryz.func452<|ak Tryz.func453<|ak Tryz.func482<|ak Tryz.func483<|ak Tryz.func484<|ak Tryz.func485<|ak Tryz.func486<|ak Tryz.func487<|ak Tryz.func488<|ak Tryz.func489<|ak Tryz.func490<|ak Tryz.func491<|ak Tryz.func492<|ak Tryz.func493<|ak Tryz.func494<|ak Tryz.func495<|ak Tryz.func496<|ak Tryz.func497<|ak Tryz.func498<|ak Tryz.func499<|ak Tryz.func500<|ak Tryz.func501<|ak Tryz.func502 aeh))
def Kh:∀tid a,find uu tid=aa a->PG Tryz.prog tid a=true:=aei (by kernel_rfl)
def R9:∀tid e,find Yp tid=aa e->Tryz.prog.underlying tid=aa (.slice e):=aiX (by kernel_rfl)
def DI(b:List (Nat×D1))(a:List (Nat×D8))(c:List (String×D1):=[]):fM Tryz.prog (x8 b a c):=⟨ahk,Kf,Kg,R8,Kh,R9⟩
noncomputable def cx0:Ctx:=⟨tys,sL,Bf,C5,[],[],uu,[],Yp,[]⟩
def C6:fM Tryz.prog cx0:=⟨ahk,Kf,Kg,R8,Kh,R9⟩
def u0:e8 Tryz.prog 60 (.clone Af):=by
 refine sr (P:=Tryz.prog) (cx:=cx0) (bf:=[2,5]) (e:=Af) (tid:=25) (fn:=Tryz.f60) (s0:=λl=>((qt (λ_=>af) [.data (.slice Af) l]).cd 2 { val:=.data (.slice Af) ([]:List (Af:Ty).den),tid:=0,buf:=true,ro:=false,lk:=false,aY:=0 }).put 2 (.whole 2 0)) mix C6 (fu ar cW vg dL) Tryz.func60 (by kernel_rfl) (by rfl) rfl aI aI rfl rfl rfl rfl rfl rfl (λl=>by rfl) (λl=>rfl) (λl=>rfl) (λl=>rfl) (λl=>by rfl) (λl a=>?_)
 have key:∀m:List (Af:Ty).den,fits (len m)=true->ao (fits<|plus (len ([]:List (Af:Ty).den))<|len m) (aa<|app [] m) af=aa m:=by
  intro m c;have e:plus (len ([]:List (Af:Ty).den)) (len m)=len m:=by simp[plus,len]
  rw[e,c];rfl
 exact Bd (b:=ao (fits<|plus (len ([]:List (Af:Ty).den))<|len (α:=(Af:Ty).den) l) (aa<|app (α:=(Af:Ty).den) [] l) af) (by rfl) (key l a)
def se:e8 Tryz.prog 61 (.clone zu):=by
 refine sr (P:=Tryz.prog) (cx:=cx0) (bf:=[2,5]) (e:=zu) (tid:=26) (fn:=Tryz.f61) (s0:=λl=>((qt (λ_=>af) [.data (.slice zu) l]).cd 2 { val:=.data (.slice zu) ([]:List (zu:Ty).den),tid:=0,buf:=true,ro:=false,lk:=false,aY:=0 }).put 2 (.whole 2 0)) mix C6 (fu ar cW vg dL) Tryz.func61 (by kernel_rfl) (by rfl) rfl aI aI rfl rfl rfl rfl rfl rfl (λl=>by rfl) (λl=>rfl) (λl=>rfl) (λl=>rfl) (λl=>by rfl) (λl a=>?_)
 have key:∀m:List (zu:Ty).den,fits (len m)=true->ao (fits<|plus (len ([]:List (zu:Ty).den))<|len m) (aa<|app [] m) af=aa m:=by
  intro m c;have e:plus (len ([]:List (zu:Ty).den)) (len m)=len m:=by simp[plus,len]
  rw[e,c];rfl
 exact Bd (b:=ao (fits<|plus (len ([]:List (zu:Ty).den))<|len (α:=(zu:Ty).den) l) (aa<|app (α:=(zu:Ty).den) [] l) af) (by rfl) (key l a)
def sf:e8 Tryz.prog 62 (.clone fR):=by
 refine sr (P:=Tryz.prog) (cx:=cx0) (bf:=[2,5]) (e:=fR) (tid:=29) (fn:=Tryz.f62) (s0:=λl=>((qt (λ_=>af) [.data (.slice fR) l]).cd 2 { val:=.data (.slice fR) ([]:List (fR:Ty).den),tid:=0,buf:=true,ro:=false,lk:=false,aY:=0 }).put 2 (.whole 2 0)) mix C6 (fu ar cW vg dL) Tryz.func62 (by kernel_rfl) (by rfl) rfl aI aI rfl rfl rfl rfl rfl rfl (λl=>by rfl) (λl=>rfl) (λl=>rfl) (λl=>rfl) (λl=>by rfl) (λl a=>?_)
 have key:∀m:List (fR:Ty).den,fits (len m)=true->ao (fits<|plus (len ([]:List (fR:Ty).den))<|len m) (aa<|app [] m) af=aa m:=by
  intro m c;have e:plus (len ([]:List (fR:Ty).den)) (len m)=len m:=by simp[plus,len]
  rw[e,c];rfl
 exact Bd (b:=ao (fits<|plus (len ([]:List (fR:Ty).den))<|len (α:=(fR:Ty).den) l) (aa<|app (α:=(fR:Ty).den) [] l) af) (by rfl) (key l a)
def sg:e8 Tryz.prog 63 (.clone wB):=by
 refine sr (P:=Tryz.prog) (cx:=cx0) (bf:=[2,5]) (e:=wB) (tid:=27) (fn:=Tryz.f63) (s0:=λl=>((qt (λ_=>af) [.data (.slice wB) l]).cd 2 { val:=.data (.slice wB) ([]:List (wB:Ty).den),tid:=0,buf:=true,ro:=false,lk:=false,aY:=0 }).put 2 (.whole 2 0)) mix C6 (fu ar cW vg dL) Tryz.func63 (by kernel_rfl) (by rfl) rfl aI aI rfl rfl rfl rfl rfl rfl (λl=>by rfl) (λl=>rfl) (λl=>rfl) (λl=>rfl) (λl=>by rfl) (λl a=>?_)
 have key:∀m:List (wB:Ty).den,fits (len m)=true->ao (fits<|plus (len ([]:List (wB:Ty).den))<|len m) (aa<|app [] m) af=aa m:=by
  intro m c;have e:plus (len ([]:List (wB:Ty).den)) (len m)=len m:=by simp[plus,len]
  rw[e,c];rfl
 exact Bd (b:=ao (fits<|plus (len ([]:List (wB:Ty).den))<|len (α:=(wB:Ty).den) l) (aa<|app (α:=(wB:Ty).den) [] l) af) (by rfl) (key l a)
def wZ:e8 Tryz.prog 142 (.clone .str):=by
 refine sr (P:=Tryz.prog) (cx:=cx0) (bf:=[2,5]) (e:=.str) (tid:=28) (fn:=Tryz.f142) (s0:=λl=>((qt (λ_=>af) [.data (.slice .str) l]).cd 2 { val:=.data (.slice .str) ([]:List (.str:Ty).den),tid:=0,buf:=true,ro:=false,lk:=false,aY:=0 }).put 2 (.whole 2 0)) mix C6 (fu ar cW vg dL) Tryz.func142 (by kernel_rfl) (by rfl) rfl aI aI rfl rfl rfl rfl rfl rfl (λl=>by rfl) (λl=>rfl) (λl=>rfl) (λl=>rfl) (λl=>by rfl) (λl a=>?_)
 have key:∀m:List (.str:Ty).den,fits (len m)=true->ao (fits<|plus (len ([]:List (.str:Ty).den))<|len m) (aa<|app [] m) af=aa m:=by
  intro m c;have e:plus (len ([]:List (.str:Ty).den)) (len m)=len m:=by simp[plus,len]
  rw[e,c];rfl
 exact Bd (b:=ao (fits<|plus (len ([]:List (.str:Ty).den))<|len (α:=(.str:Ty).den) l) (aa<|app (α:=(.str:Ty).den) [] l) af) (by rfl) (key l a)
def uj:e8 Tryz.prog 222 (.clone jz):=by
 refine sr (P:=Tryz.prog) (cx:=cx0) (bf:=[2,5]) (e:=jz) (tid:=67) (fn:=Tryz.f222) (s0:=λl=>((qt (λ_=>af) [.data (.slice jz) l]).cd 2 { val:=.data (.slice jz) ([]:List (jz:Ty).den),tid:=0,buf:=true,ro:=false,lk:=false,aY:=0 }).put 2 (.whole 2 0)) mix C6 (fu ar cW vg dL) Tryz.func222 (by kernel_rfl) (by rfl) rfl aI aI rfl rfl rfl rfl rfl rfl (λl=>by rfl) (λl=>rfl) (λl=>rfl) (λl=>rfl) (λl=>by rfl) (λl a=>?_)
 have key:∀m:List (jz:Ty).den,fits (len m)=true->ao (fits<|plus (len ([]:List (jz:Ty).den))<|len m) (aa<|app [] m) af=aa m:=by
  intro m c;have e:plus (len ([]:List (jz:Ty).den)) (len m)=len m:=by simp[plus,len]
  rw[e,c];rfl
 exact Bd (b:=ao (fits<|plus (len ([]:List (jz:Ty).den))<|len (α:=(jz:Ty).den) l) (aa<|app (α:=(jz:Ty).den) [] l) af) (by rfl) (key l a)
def dS:e8 Tryz.prog 489 (.clone DJ):=by
 refine sr (P:=Tryz.prog) (cx:=cx0) (bf:=[2,5]) (e:=DJ) (tid:=96) (fn:=Tryz.f489) (s0:=λl=>((qt (λ_=>af) [.data (.slice DJ) l]).cd 2 { val:=.data (.slice DJ) ([]:List (DJ:Ty).den),tid:=0,buf:=true,ro:=false,lk:=false,aY:=0 }).put 2 (.whole 2 0)) mix C6 (fu ar cW vg dL) Tryz.func489 (by kernel_rfl) (by rfl) rfl aI aI rfl rfl rfl rfl rfl rfl (λl=>by rfl) (λl=>rfl) (λl=>rfl) (λl=>rfl) (λl=>by rfl) (λl a=>?_)
 have key:∀m:List (DJ:Ty).den,fits (len m)=true->ao (fits<|plus (len ([]:List (DJ:Ty).den))<|len m) (aa<|app [] m) af=aa m:=by
  intro m c;have e:plus (len ([]:List (DJ:Ty).den)) (len m)=len m:=by simp[plus,len]
  rw[e,c];rfl
 exact Bd (b:=ao (fits<|plus (len ([]:List (DJ:Ty).den))<|len (α:=(DJ:Ty).den) l) (aa<|app (α:=(DJ:Ty).den) [] l) af) (by rfl) (key l a)
def ya:e8 Tryz.prog 181 (.own .str .unit false dY):=aiZ Tryz.func181 (by kernel_rfl) (by kernel_rfl) Tryz.slices_Sort_string Tryz.slices_Sort_string_none
def u5:e8 Tryz.prog 182 (.own .str .unit true gj):=Zm Tryz.func182 (by kernel_rfl) (by kernel_rfl) Tryz.slices_Compact_string Tryz.slices_Compact_string_empty aco
def qR:e8 Tryz.prog 226 (.own zu Im true bq):=by
 have a:Den Tryz.prog zu 69:=by show eM Tryz.prog zu false 69 0 []=true;kernel_rfl
 obtain⟨h,c,b,d,f,g⟩:=a.info;exact Jo (e:=zu) (ρ:=(⟨λx=>if x=29 then 0 else if x=30 then 0 else 226,λx=>if x=24 then 26 else if x=9 then 69 else if x=3 then 3 else if x=4 then 4 else 0,λx=>x⟩:Go.Shelf.Ren)) (nm := "slices.Delete[[]cooperage/api.Image,cooperage/api.Image]") (z:=c) ⟨mix,Tryz.func226.trans (congrArg aa<|by kernel_rfl),by kernel_rfl,by kernel_rfl,by kernel_rfl,λw=>by simp[Go.sizeOf,b,d]<;>kernel_rfl,λw=>vW b f w⟩ aI g aI
def ux:e8 Tryz.prog 228 (.own Af (.pair (.int .i64) akF) true bY):=by
 have a:Den Tryz.prog Af 72:=by show eM Tryz.prog Af false 72 0 []=true;kernel_rfl
 obtain⟨f,g,b,c,h,i⟩:=a.info;exact zL (e:=Af) (ρ:=(⟨λx=>if x=29 then 300 else if x=30 then 301 else 228,λx=>if x=24 then 25 else if x=9 then 72 else if x=3 then 3 else if x=4 then 4 else 0,λx=>x⟩:Go.Shelf.Ren)) (nm := "slices.Insert[[]cooperage/api.Box,cooperage/api.Box]") ⟨mix,Tryz.func228.trans (congrArg aa<|by kernel_rfl),λd w=>run_callFunc_extern (e:=Extern.SlicesOverlaps.overlaps #[25,25] #[4]) Tryz.func300 (by kernel_rfl) (by kernel_rfl) (by kernel_rfl) (by kernel_rfl) d w,by kernel_rfl,by kernel_rfl,by kernel_rfl,λw=>by simp[Go.sizeOf,b,c]<;>kernel_rfl,by simp[b,c]<;>kernel_rfl⟩ aI a (by kernel_rfl) aI aI
def uy:e8 Tryz.prog 231 (.own Af Im true cE):=by
 have a:Den Tryz.prog Af 72:=by show eM Tryz.prog Af false 72 0 []=true;kernel_rfl
 obtain⟨h,c,b,d,f,g⟩:=a.info;exact Jo (e:=Af) (ρ:=(⟨λx=>if x=29 then 0 else if x=30 then 0 else 231,λx=>if x=24 then 25 else if x=9 then 72 else if x=3 then 3 else if x=4 then 4 else 0,λx=>x⟩:Go.Shelf.Ren)) (nm := "slices.Delete[[]cooperage/api.Box,cooperage/api.Box]") (z:=c) ⟨mix,Tryz.func231.trans (congrArg aa<|by kernel_rfl),by kernel_rfl,by kernel_rfl,by kernel_rfl,λw=>by simp[Go.sizeOf,b,d]<;>kernel_rfl,λw=>vW b f w⟩ aI g aI
def wC:e8 Tryz.prog 285 (.own .str (.pair (.int .i64) zg) true eH):=by
 have a:Den Tryz.prog .str 9:=by show eM Tryz.prog .str false 9 0 []=true;kernel_rfl
 obtain⟨f,g,b,c,h,i⟩:=a.info;exact zL (e:=.str) (ρ:=(⟨λx=>if x=29 then 363 else if x=30 then 364 else 285,λx=>if x=24 then 28 else if x=9 then 9 else if x=3 then 3 else if x=4 then 4 else 0,λx=>x⟩:Go.Shelf.Ren)) (nm := "slices.Insert[[]string,string]") ⟨mix,Tryz.func285.trans (congrArg aa<|by kernel_rfl),λd w=>run_callFunc_extern (e:=Extern.SlicesOverlaps.overlaps #[28,28] #[4]) Tryz.func363 (by kernel_rfl) (by kernel_rfl) (by kernel_rfl) (by kernel_rfl) d w,by kernel_rfl,by kernel_rfl,by kernel_rfl,λw=>by simp[Go.sizeOf,b,c]<;>kernel_rfl,by simp[b,c]<;>kernel_rfl⟩ aI a (by kernel_rfl) aI aI
def qS:e8 Tryz.prog 286 (.own wB (.pair (.int .i64) aa2) true dw):=by
 have a:Den Tryz.prog wB 85:=by show eM Tryz.prog wB false 85 0 []=true;kernel_rfl
 obtain⟨f,g,b,c,h,i⟩:=a.info;exact zL (e:=wB) (ρ:=(⟨λx=>if x=29 then 365 else if x=30 then 366 else 286,λx=>if x=24 then 27 else if x=9 then 85 else if x=3 then 3 else if x=4 then 4 else 0,λx=>x⟩:Go.Shelf.Ren)) (nm := "slices.Insert[[]cooperage/api.Layer,cooperage/api.Layer]") ⟨mix,Tryz.func286.trans (congrArg aa<|by kernel_rfl),λd w=>run_callFunc_extern (e:=Extern.SlicesOverlaps.overlaps #[27,27] #[4]) Tryz.func365 (by kernel_rfl) (by kernel_rfl) (by kernel_rfl) (by kernel_rfl) d w,by kernel_rfl,by kernel_rfl,by kernel_rfl,λw=>by simp[Go.sizeOf,b,c]<;>kernel_rfl,by simp[b,c]<;>kernel_rfl⟩ aI a (by kernel_rfl) aI aI
def wD:e8 Tryz.prog 290 (.own .str Im true eI):=by
 have a:Den Tryz.prog .str 9:=by show eM Tryz.prog .str false 9 0 []=true;kernel_rfl
 obtain⟨h,c,b,d,f,g⟩:=a.info;exact Jo (e:=.str) (ρ:=(⟨λx=>if x=29 then 0 else if x=30 then 0 else 290,λx=>if x=24 then 28 else if x=9 then 9 else if x=3 then 3 else if x=4 then 4 else 0,λx=>x⟩:Go.Shelf.Ren)) (nm := "slices.Delete[[]string,string]") (z:=c) ⟨mix,Tryz.func290.trans (congrArg aa<|by kernel_rfl),by kernel_rfl,by kernel_rfl,by kernel_rfl,λw=>by simp[Go.sizeOf,b,d]<;>kernel_rfl,λw=>vW b f w⟩ aI g aI
def qT:e8 Tryz.prog 291 (.own wB Im true dx):=by
 have a:Den Tryz.prog wB 85:=by show eM Tryz.prog wB false 85 0 []=true;kernel_rfl
 obtain⟨h,c,b,d,f,g⟩:=a.info;exact Jo (e:=wB) (ρ:=(⟨λx=>if x=29 then 0 else if x=30 then 0 else 291,λx=>if x=24 then 27 else if x=9 then 85 else if x=3 then 3 else if x=4 then 4 else 0,λx=>x⟩:Go.Shelf.Ren)) (nm := "slices.Delete[[]cooperage/api.Layer,cooperage/api.Layer]") (z:=c) ⟨mix,Tryz.func291.trans (congrArg aa<|by kernel_rfl),by kernel_rfl,by kernel_rfl,by kernel_rfl,λw=>by simp[Go.sizeOf,b,d]<;>kernel_rfl,λw=>vW b f w⟩ aI g aI
def qU:e8 Tryz.prog 298 (.own zu (.pair (.int .i64) akG) true bI):=by
 have a:Den Tryz.prog zu 69:=by show eM Tryz.prog zu false 69 0 []=true;kernel_rfl
 obtain⟨f,g,b,c,h,i⟩:=a.info;exact zL (e:=zu) (ρ:=(⟨λx=>if x=29 then 369 else if x=30 then 370 else 298,λx=>if x=24 then 26 else if x=9 then 69 else if x=3 then 3 else if x=4 then 4 else 0,λx=>x⟩:Go.Shelf.Ren)) (nm := "slices.Insert[[]cooperage/api.Image,cooperage/api.Image]") ⟨mix,Tryz.func298.trans (congrArg aa<|by kernel_rfl),λd w=>run_callFunc_extern (e:=Extern.SlicesOverlaps.overlaps #[26,26] #[4]) Tryz.func369 (by kernel_rfl) (by kernel_rfl) (by kernel_rfl) (by kernel_rfl) d w,by kernel_rfl,by kernel_rfl,by kernel_rfl,λw=>by simp[Go.sizeOf,b,c]<;>kernel_rfl,by simp[b,c]<;>kernel_rfl⟩ aI a (by kernel_rfl) aI aI
def sP:e8 Tryz.prog 307 (.own jz (.pair (.int .i64) aho) true aQ):=by
 have a:Den Tryz.prog jz 156:=by show eM Tryz.prog jz false 156 0 []=true;kernel_rfl
 obtain⟨f,g,b,c,h,i⟩:=a.info;exact zL (e:=jz) (ρ:=(⟨λx=>if x=29 then 373 else if x=30 then 374 else 307,λx=>if x=24 then 67 else if x=9 then 156 else if x=3 then 3 else if x=4 then 4 else 0,λx=>x⟩:Go.Shelf.Ren)) (nm := "slices.Insert[[]cooperage/api.Item,cooperage/api.Item]") ⟨mix,Tryz.func307.trans (congrArg aa<|by kernel_rfl),λd w=>run_callFunc_extern (e:=Extern.SlicesOverlaps.overlaps #[67,67] #[4]) Tryz.func373 (by kernel_rfl) (by kernel_rfl) (by kernel_rfl) (by kernel_rfl) d w,by kernel_rfl,by kernel_rfl,by kernel_rfl,λw=>by simp[Go.sizeOf,b,c]<;>kernel_rfl,by simp[b,c]<;>kernel_rfl⟩ aI a (by kernel_rfl) aI aI
def qV:e8 Tryz.prog 367 (.own fR (.pair (.int .i64) ahp) true eO):=by
 have a:Den Tryz.prog fR 74:=by show eM Tryz.prog fR false 74 0 []=true;kernel_rfl
 obtain⟨f,g,b,c,h,i⟩:=a.info;exact zL (e:=fR) (ρ:=(⟨λx=>if x=29 then 421 else if x=30 then 422 else 367,λx=>if x=24 then 29 else if x=9 then 74 else if x=3 then 3 else if x=4 then 4 else 0,λx=>x⟩:Go.Shelf.Ren)) (nm := "slices.Insert[[]cooperage/api.Mount,cooperage/api.Mount]") ⟨mix,Tryz.func367.trans (congrArg aa<|by kernel_rfl),λd w=>run_callFunc_extern (e:=Extern.SlicesOverlaps.overlaps #[29,29] #[4]) Tryz.func421 (by kernel_rfl) (by kernel_rfl) (by kernel_rfl) (by kernel_rfl) d w,by kernel_rfl,by kernel_rfl,by kernel_rfl,λw=>by simp[Go.sizeOf,b,c]<;>kernel_rfl,by simp[b,c]<;>kernel_rfl⟩ aI a (by kernel_rfl) aI aI
def sQ:e8 Tryz.prog 372 (.own jz Im true bE):=by
 have a:Den Tryz.prog jz 156:=by show eM Tryz.prog jz false 156 0 []=true;kernel_rfl
 obtain⟨h,c,b,d,f,g⟩:=a.info;exact Jo (e:=jz) (ρ:=(⟨λx=>if x=29 then 0 else if x=30 then 0 else 372,λx=>if x=24 then 67 else if x=9 then 156 else if x=3 then 3 else if x=4 then 4 else 0,λx=>x⟩:Go.Shelf.Ren)) (nm := "slices.Delete[[]cooperage/api.Item,cooperage/api.Item]") (z:=c) ⟨mix,Tryz.func372.trans (congrArg aa<|by kernel_rfl),by kernel_rfl,by kernel_rfl,by kernel_rfl,λw=>by simp[Go.sizeOf,b,d]<;>kernel_rfl,λw=>vW b f w⟩ aI g aI
def dJ:e8 Tryz.prog 503 (.own DJ (.pair (.int .i64) wY) true bc):=by
 have a:Den Tryz.prog DJ 197:=by show eM Tryz.prog DJ false 197 0 []=true;kernel_rfl
 obtain⟨f,g,b,c,h,i⟩:=a.info;exact zL (e:=DJ) (ρ:=(⟨λx=>if x=29 then 504 else if x=30 then 505 else 503,λx=>if x=24 then 96 else if x=9 then 197 else if x=3 then 3 else if x=4 then 4 else 0,λx=>x⟩:Go.Shelf.Ren)) (nm := "slices.Insert[[]cooperage/api.TreeNode,cooperage/api.TreeNode]") ⟨mix,Tryz.func503.trans (congrArg aa<|by kernel_rfl),λd w=>run_callFunc_extern (e:=Extern.SlicesOverlaps.overlaps #[96,96] #[4]) Tryz.func504 (by kernel_rfl) (by kernel_rfl) (by kernel_rfl) (by kernel_rfl) d w,by kernel_rfl,by kernel_rfl,by kernel_rfl,λw=>by simp[Go.sizeOf,b,c]<;>kernel_rfl,by simp[b,c]<;>kernel_rfl⟩ aI a (by kernel_rfl) aI aI
def wU:∀p∈XY,e8 Tryz.prog p.1 p.2:=(dH AV<|dH x7<|dH u0<|dH se<|dH sf<|dH sg<|dH wZ<|dH uj<|dH dS<|dH ya<|dH u5<|dH qR<|dH ux<|dH uy<|dH wC<|dH qS<|dH wD<|dH qT<|dH qU<|dH sP<|dH qV<|dH sQ<|dH dJ vg)
def Ki(b:List (Nat×D1))(a:List (Nat×D8))(c:List (String×D1):=[]):UJ (x8 b a c):=Zd (cx:=x8 b a c) (show(C5.all λp=>acb p.2)=true by kernel_rfl)
def dk:Eh:=zC
def Fh{b:List (Nat×D1)}{a:List (Nat×D8)}{c:List (String×D1)}(i:∀p∈b,Holds Tryz.prog dk p.1 p.2)(e:∀p∈a,gd Tryz.prog dk p.1 p.2)(j:∀p∈c,l7 Tryz.prog dk p.1 p.2){f:Nat}{l:Func}{A R:Ty}{d:A.den->Option R.den}(k:find C5 f=aa l)(n:l.body.isSome=true)
  (o:∀x,sem (x8 b a c) 12 ft f A R x=d x):Holds Tryz.prog dk f ⟨A,R,d⟩:=by
 obtain⟨m,g⟩:=Pb.1 n;exact Jm mix (DI b a c) (fu i e wU j) (Ki b a c) (f:=f) k g (λx y h=>by rw[o];exact h)
def LV{b:List (Nat×D1)}{a:List (Nat×D8)}{c:List (String×D1)}(i:∀p∈b,Holds Tryz.prog dk p.1 p.2)(e:∀p∈a,gd Tryz.prog dk p.1 p.2)(j:∀p∈c,l7 Tryz.prog dk p.1 p.2){f:Nat}{l:Func}{m:List Bool}{A:Ty}{U:Ty}{R:Ty}{d:A.den×U.den->Option (R.den×U.den)}(k:find C5 f=aa l)(o:l.body.isSome=true)
  (q:∀x,aih (x8 b a c) 12 ft f m A U R x=d x):gd Tryz.prog dk f ⟨m,A,U,R,d⟩:=by
 obtain⟨n,g⟩:=Pb.1 o;exact GQ mix (DI b a c) (fu i e wU j) (Ki b a c) (f:=f) k g (λx y h=>by rw[q];exact h)
def Gk{d:List (Nat×D1)}{a:List (Nat×D8)}{e:List (String×D1)}(g:∀p∈d,Holds Tryz.prog dk p.1 p.2)(c:∀p∈a,gd Tryz.prog dk p.1 p.2)(h:∀p∈e,l7 Tryz.prog dk p.1 p.2)(j:Func){f:Nat}{A R:Ty}{b:A.den->Option R.den}(i:find C5 f=aa j:=by rfl)(k:j.body.isSome=true:=by kernel_rfl) (l:∀x,sem (x8 d a e) 12 ft f A R x=b x:=by intro x;kernel_rfl):Holds Tryz.prog dk f ⟨A,R,b⟩:=Fh g c h i k l
def av{b:List (Nat×D1)}(c:∀p∈b,Holds Tryz.prog dk p.1 p.2)(e:Func){f:Nat}{A R:Ty}{a:A.den->Option R.den}(d:find C5 f=aa e:=by rfl)(g:e.body.isSome=true:=by kernel_rfl) (h:∀x,sem (x8 b [] []) 12 ft f A R x=a x:=by intro x;kernel_rfl):Holds Tryz.prog dk f ⟨A,R,a⟩:=Fh c cW dL d g h
def ug{d:List (Nat×D1)}{a:List (Nat×D8)}{e:List (String×D1)}(g:∀p∈d,Holds Tryz.prog dk p.1 p.2)(c:∀p∈a,gd Tryz.prog dk p.1 p.2)(h:∀p∈e,l7 Tryz.prog dk p.1 p.2)(j:Func){f:Nat}{k:List Bool}{A:Ty}{U:Ty}{R:Ty}{b:A.den×U.den->Option (R.den×U.den)}(i:find C5 f=aa j:=by rfl)(l:j.body.isSome=true:=by kernel_rfl) (m:∀x,aih (x8 d a e) 12 ft f k A U R x=b x:=by intro x;kernel_rfl):gd Tryz.prog dk f ⟨k,A,U,R,b⟩:=LV g c h i l m
abbrev az:=Holds Tryz.prog dk
def LX:az 52 ⟨zg,dU,pJ⟩:=av ar Tryz.f52
def TZ:az 16 ⟨(.pair TX .unit),dU,nu⟩:=av (ah LX ar) Tryz.f16
def aa5:az 7 ⟨(.pair (.slice TX) pf),dU,zY⟩:=av (ah TZ ar) Tryz.f7
def bz:Holds Tryz.prog dk 142 ⟨zg,zg,bd⟩:=by
 refine oG (P:=Tryz.prog) (cx:=x8 [] []) (bf:=[5]) (e:=.str) (tid:=28) (fn:=Tryz.f142) (s0:=λl=>(qt (λ_=>af) [.data (.slice .str) l]).put 2 (.data (.slice .str) ([]:List (.str:Ty).den))) mix (DI [] []) (fu ar cW wU dL) Tryz.func142 (by kernel_rfl) (by rfl) rfl aI aI rfl rfl rfl rfl rfl rfl (λl=>by rfl) (λl=>rfl) (λl=>rfl) (λl=>rfl) (λl=>by rfl) (λl a=>?_)
 have key:∀m:List (.str:Ty).den,fits (len m)=true->ao (fits<|plus (len ([]:List (.str:Ty).den))<|len m) (aa ((app [] m,()):(Ty.pair (.slice .str) .unit).den)) af=aa (m,()):=by
  intro m c;have e:plus (len ([]:List (.str:Ty).den)) (len m)=len m:=by simp[plus,len]
  rw[e,c];rfl
 exact Bd (b:=ao (fits<|plus (len ([]:List (.str:Ty).den))<|len (α:=(.str:Ty).den) l) (aa ((app (α:=(.str:Ty).den) [] l,()):(Ty.pair (.slice .str) .unit).den)) af) (by rfl) (key l a)
def C8:az 190 ⟨(.pair (.int .i64)<|.pair akC .unit),N7,rR⟩:=av (ah bz ar) Tryz.f190
def Fl:az 91 ⟨x9,N7,lG⟩:=av (ah C8 ar) Tryz.f91
def qW:az 124 ⟨(.pair TY ea),fR,iC⟩:=av (ah fQ<|ah qn ar) Tryz.f124
def nC:az 55 ⟨(.pair kF ea),fR,eN⟩:=av (ah Fl<|ah qW ar) Tryz.f55
def T0:az 56 ⟨(.pair (.slice wB) ea),(.pair (.slice wB) pf),vD⟩:=av (ah bz ar) Tryz.f56
def C9:az 336 ⟨(.pair .str adA),ea,ib⟩:=av ar Tryz.f336
def sI:az 337 ⟨(.pair .str adA),ea,fb⟩:=av ar Tryz.f337
def uk:az 338 ⟨ea,(.pair (.arr 256 .bool) dU),eu⟩:=av ar Tryz.f338
def fi:gd Tryz.prog dk 397 ⟨[true,false],adA,(.pair (.arr 256 .bool) .unit),dU,cG⟩:=ug ar cW dL Tryz.f397
def B2:gd Tryz.prog dk 339 ⟨[false,true],ea,(.pair (.arr 256 .bool) .unit),ea,gK⟩:=ug ar (gJ fi cW) dL Tryz.f339
def qX:gd Tryz.prog dk 340 ⟨[false,true],ea,(.pair (.arr 256 .bool) .unit),ea,dM⟩:=ug ar (gJ fi cW) dL Tryz.f340
def uo:az 267 ⟨Se,ea,iQ⟩:=Gk (ah C9<|ah sI<|ah uk ar) (gJ B2<|gJ qX<|gJ fi cW) dL Tryz.f267
def DK:az 185 ⟨ea,dU,mR⟩:=av (ah uo ar) Tryz.f185
def qY:az 85 ⟨zg,pf,gp⟩:=av (ah bz<|ah DK ar) Tryz.f85
def Ag:gd Tryz.prog dk 343 ⟨[true,false],dU,(.pair amM .unit),(.pair (.pair YH7 ea) dU),eF⟩:=ug ar cW dL Tryz.f343
def G4:az 344 ⟨ea,dU,vk⟩:=av (ah uo ar) Tryz.f344
def DL:az 437 ⟨.unit,(.pair (.arr 11 Im) .unit),mI⟩:=av ar Tryz.f437
def aa6:az 401 ⟨fR,ea,ca⟩:=av (ah DL ar) Tryz.f401
def xn:az 438 ⟨Se,ea,eD⟩:=Gk (ah sI<|ah uk ar) (gJ qX<|gJ fi cW) dL Tryz.f438
def Io:az 439 ⟨ea,(.pair (.int .i64) dU),dD⟩:=av ar Tryz.f439
def N8:az 402 ⟨ea,pf,dt⟩:=av (ah xn<|ah Io ar) Tryz.f402
def XB:az 403 ⟨ea,pf,xD⟩:=av (ah DL ar) Tryz.f403
def T1:az 404 ⟨ea,(.pair .str dU),kq⟩:=av (ah kY<|ah xn ar) Tryz.f404
def aa7:az 440 ⟨Im,dU,lU⟩:=av ar Tryz.f440
def Sf:az 441 ⟨fR,dU,oL⟩:=av (ah kY ar) Tryz.f441
def aa8:az 405 ⟨(.pair YH7 pf),dU,ss⟩:=av (ah aa7<|ah Sf ar) Tryz.f405
def G5:az 345 ⟨ea,(.pair YH7 pf),fm⟩:=av (ah aa6<|ah N8<|ah XB<|ah T1<|ah aa8 ar) Tryz.f345
def Sg:az 346 ⟨pf,pf,yE⟩:=av ar Tryz.f346
def Kk:gd Tryz.prog dk 269 ⟨[true],.unit,(.pair amM .unit),(.pair (.pair YH7 ea) dU),b3⟩:=ug (ah uo<|ah G4<|ah G5<|ah Sg ar) (gJ Ag cW) dL Tryz.f269
def LY:gd Tryz.prog dk 270 ⟨[true],.unit,(.pair amM .unit),dU,iI⟩:=ug ar cW dL Tryz.f270
def Si:az 186 ⟨ea,(.pair aa3 pf),eY⟩:=Gk (ah uo<|ah G4<|ah G5<|ah Sg ar) (gJ Kk<|gJ LY<|gJ Ag cW) dL Tryz.f186
def Da:az 349 ⟨Se,ea,pB⟩:=av ar Tryz.f349
def B3:az 351 ⟨(.pair DJ .unit),dU,ez⟩:=av (ah kf<|ah nB<|ah Da<|ah qQ ar) Tryz.f351
def N9:az 350 ⟨ea,dU,mO⟩:=av (ah B3 ar) Tryz.f350
def T2:az 484 ⟨Sd,wY,vq⟩:=av (ah kf<|ah AW<|ah dT ar) Tryz.f484
def uF:az 482 ⟨(.pair ea wY),wY,jr⟩:=av (ah T2 ar) Tryz.f482
def xo:az 483 ⟨(.pair ea wY),GF,xg⟩:=av ar Tryz.f483
def XC:az 495 ⟨Sd,wY,xE⟩:=av (ah kf<|ah AW<|ah dT ar) Tryz.f495
def sJ:az 493 ⟨(.pair ea wY),wY,gL⟩:=av (ah XC ar) Tryz.f493
def uG:az 494 ⟨(.pair ea wY),GF,uB⟩:=av ar Tryz.f494
def uH:az 497 ⟨(.pair .unit wY),wY,uC⟩:=av ar Tryz.f497
def xp:az 498 ⟨(.pair .unit wY),GF,xh⟩:=av ar Tryz.f498
def uI:az 499 ⟨(.pair (.pair DJ .unit) wY),wY,uD⟩:=av ar Tryz.f499
def aa9:az 501 ⟨Sd,(.pair DJ dU),zO⟩:=av (ah kf<|ah C7 ar) Tryz.f501
def xq:az 500 ⟨(.pair (.pair DJ .unit) wY),GF,kM⟩:=av (ah nB<|ah Da<|ah qQ<|ah aa9<|ah adz ar) Tryz.f500
def Sj:az 271 ⟨(.pair (.pair YH7 ea) .unit),(.pair ahl dU),tu⟩:=av (ah nB<|ah G3<|ah Kj<|ah Da<|ah N9<|ah B3<|ah uF<|ah xo<|ah sJ<|ah uG<|ah uH<|ah xp<|ah uI<|ah xq ar) Tryz.f271
def DM:az 187 ⟨(.pair aa3 .unit),(.pair (.slice ahl) dU),mP⟩:=av (ah Sj ar) Tryz.f187
def Oa:az 87 ⟨ea,pf,gX⟩:=av (ah Si<|ah DM ar) Tryz.f87
def XD:az 188 ⟨(.pair TY ea),pf,xK⟩:=av ar Tryz.f188
def yb:az 90 ⟨(.pair TY<|.pair .str zg),pf,ig⟩:=av (ah fQ<|ah qY<|ah XD ar) Tryz.f90
def Db:az 198 ⟨ea,ea,l9⟩:=av ar Tryz.f198
def aba:az 191 ⟨pf,ea,zU⟩:=av (ah Db ar) Tryz.f191
def zh:az 93 ⟨(.pair TY pf),fR,iV⟩:=av (ah aba ar) Tryz.f93
def DN:az 148 ⟨(.pair wB .unit),ea,wL⟩:=av ar Tryz.f148
def AX:az 149 ⟨x9,zg,np⟩:=av ar Tryz.f149
def AY:az 67 ⟨(.pair kF ea),(.pair wB<|.pair .str dU),kv⟩:=av (ah bz<|ah DN<|ah AX ar) Tryz.f67
def T3:l7 Tryz.prog dk "cooperage/overlay.clears" ⟨(.pair ahl wY),wY,xG⟩:=(oE uF (λv w=>by kernel_rfl) rfl (oE sJ (λv w=>by kernel_rfl) rfl (oE uH (λv w=>by kernel_rfl) rfl (oE uI (λv w=>by kernel_rfl) rfl PX))))
def abb:l7 Tryz.prog dk "cooperage/overlay.puts" ⟨(.pair ahl wY),GF,Cq⟩:=(oE xo (λv w=>by kernel_rfl) rfl (oE uG (λv w=>by kernel_rfl) rfl (oE xp (λv w=>by kernel_rfl) rfl (oE xq (λv w=>by kernel_rfl) rfl PX))))
def T4:az 195 ⟨(.pair (.slice DJ)<|.pair aa3 .unit),GF,vt⟩:=Gk (ah DM<|ah kf ar) cW (Zi T3<|Zi abb dL) Tryz.f195
def DO:az 97 ⟨Sd,GF,jF⟩:=av (ah Si<|ah kf<|ah T4 ar) Tryz.f97
def T5:az 214 ⟨zg,GF,qD⟩:=av (ah DO ar) Tryz.f214
def Kl:az 105 ⟨(.pair kF ea),GF,pX⟩:=av (ah AY<|ah bz<|ah T5 ar) Tryz.f105
def Fm:az 96 ⟨(.pair kF ea),GF,ja⟩:=av (ah Kl ar) Tryz.f96
def pe:az 98 ⟨pf,Fk,eg⟩:=av ar Tryz.f98
def LZ:Holds Tryz.prog dk 196 ⟨fR,ea,pv⟩:=Th (spec:=gf) Tryz.func196 (by kernel_rfl) (by kernel_rfl) (λ_ _ _ h=>Ev h) (λs c w y e f a=>by obtain⟨b,d,rfl⟩:=uA a;have g:(IntKind.i64).max=9223372036854775807:=aI;obtain⟨n,rfl⟩:=ahB b;exact Tryz.strings_Repeat s n w ai d)
def T6:az 99 ⟨.unit,ea,AE⟩:=av (ah LZ ar) Tryz.f99
def Fo:az 415 ⟨.unit,akD,vY⟩:=av ar Tryz.f415
def Fq:az 416 ⟨.unit,(.pair (.arr 64<|.int .u32) .unit),Ew⟩:=av ar Tryz.f416
def AZ:az 446 ⟨(.pair (.int .u32) pf),(.pair (.int .u32) .unit),kp⟩:=av ar Tryz.f446
def Ah:az 418 ⟨(.pair (.int .u32) pf),(.pair (.int .u32) .unit),cl⟩:=av (ah AZ ar) Tryz.f418
def zi:az 417 ⟨(.pair (.arr 64<|.int .u8) .unit),(.pair (.arr 64<|.int .u32) .unit),tg⟩:=av (ah Ah ar) Tryz.f417
def B4:gd Tryz.prog dk 282 ⟨[true,false],ea,(.pair aor .unit),.unit,gg⟩:=ug (ah Fo<|ah Fq<|ah zi<|ah Ah ar) cW dL Tryz.f282
def L1:gd Tryz.prog dk 283 ⟨[true],.unit,(.pair aor .unit),(.pair (.arr 32<|.int .u8) .unit),pw⟩:=ug (ah Fo<|ah Fq<|ah zi<|ah Ah ar) (gJ B4 cW) dL Tryz.f283
def ahq:az 197 ⟨ea,(.pair (.arr 32<|.int .u8) .unit),FQ⟩:=Gk (ah Fo<|ah Fq<|ah zi<|ah Ah ar) (gJ B4<|gJ L1 cW) dL Tryz.f197
def MX:az 100 ⟨ea,ea,oI⟩:=av (ah ahq<|ah Db ar) Tryz.f100
def GG:az 201 ⟨(.pair (.slice .str) LW),zg,kW⟩:=av (ah bz ar) Tryz.f201
def eZ:Holds Tryz.prog dk 63 ⟨aa2,aa2,rW⟩:=by
 refine oG (P:=Tryz.prog) (cx:=x8 [] []) (bf:=[5]) (e:=wB) (tid:=27) (fn:=Tryz.f63) (s0:=λl=>(qt (λ_=>af) [.data (.slice wB) l]).put 2 (.data (.slice wB) ([]:List (wB:Ty).den))) mix (DI [] []) (fu ar cW wU dL) Tryz.func63 (by kernel_rfl) (by rfl) rfl aI aI rfl rfl rfl rfl rfl rfl (λl=>by rfl) (λl=>rfl) (λl=>rfl) (λl=>rfl) (λl=>by rfl) (λl a=>?_)
 have key:∀m:List (wB:Ty).den,fits (len m)=true->ao (fits<|plus (len ([]:List (wB:Ty).den))<|len m) (aa ((app [] m,()):(Ty.pair (.slice wB) .unit).den)) af=aa (m,()):=by
  intro m c;have e:plus (len ([]:List (wB:Ty).den)) (len m)=len m:=by simp[plus,len]
  rw[e,c];rfl
 exact Bd (b:=ao (fits<|plus (len ([]:List (wB:Ty).den))<|len (α:=(wB:Ty).den) l) (aa ((app (α:=(wB:Ty).den) [] l,()):(Ty.pair (.slice wB) .unit).den)) af) (by rfl) (key l a)
def Dc:az 202 ⟨(.pair (.slice wB)<|.pair (.int .i64)<|.pair wB .unit),aa2,iu⟩:=av (ah eZ ar) Tryz.f202
def XE:az 101 ⟨(.pair kF<|.pair wB ea),x9,tI⟩:=av (ah AX<|ah GG<|ah Dc ar) Tryz.f101
def DP:az 34 ⟨ahm,(.pair kF Fk),jI⟩:=av (ah nC<|ah T0<|ah qY<|ah Oa<|ah yb<|ah Fl<|ah zh<|ah Fm<|ah DO<|ah pe<|ah T6<|ah MX<|ah XE ar) Tryz.f34
def Km:az 102 ⟨(.pair kF ea),dU,pY⟩:=av ar Tryz.f102
def Ob:az 209 ⟨(.pair fR .unit),ea,wN⟩:=av ar Tryz.f209
def zj:az 103 ⟨(.pair kF ea),pf,eP⟩:=av (ah Ob ar) Tryz.f103
def Dd:az 210 ⟨(.pair (.slice .str) pf),zg,iv⟩:=av (ah bz ar) Tryz.f210
def zv:az 211 ⟨(.pair (.slice wB) pf),aa2,fT⟩:=av (ah eZ ar) Tryz.f211
def jj:Holds Tryz.prog dk 62 ⟨ahp,ahp,rX⟩:=by
 refine oG (P:=Tryz.prog) (cx:=x8 [] []) (bf:=[5]) (e:=fR) (tid:=29) (fn:=Tryz.f62) (s0:=λl=>(qt (λ_=>af) [.data (.slice fR) l]).put 2 (.data (.slice fR) ([]:List (fR:Ty).den))) mix (DI [] []) (fu ar cW wU dL) Tryz.func62 (by kernel_rfl) (by rfl) rfl aI aI rfl rfl rfl rfl rfl rfl (λl=>by rfl) (λl=>rfl) (λl=>rfl) (λl=>rfl) (λl=>by rfl) (λl a=>?_)
 have key:∀m:List (fR:Ty).den,fits (len m)=true->ao (fits<|plus (len ([]:List (fR:Ty).den))<|len m) (aa ((app [] m,()):(Ty.pair (.slice fR) .unit).den)) af=aa (m,()):=by
  intro m c;have e:plus (len ([]:List (fR:Ty).den)) (len m)=len m:=by simp[plus,len]
  rw[e,c];rfl
 exact Bd (b:=ao (fits<|plus (len ([]:List (fR:Ty).den))<|len (α:=(fR:Ty).den) l) (aa ((app (α:=(fR:Ty).den) [] l,()):(Ty.pair (.slice fR) .unit).den)) af) (by rfl) (key l a)
def De:az 295 ⟨(.pair (.slice fR)<|.pair (.int .i64)<|.pair fR .unit),ahp,bO⟩:=av (ah jj ar) Tryz.f295
def G6:az 212 ⟨(.pair kF fR),x9,qH⟩:=av (ah jj<|ah De ar) Tryz.f212
def DQ:az 104 ⟨(.pair kF ea),x9,jJ⟩:=av (ah DN<|ah AX<|ah Dd<|ah zv<|ah G6 ar) Tryz.f104
def Oc:az 35 ⟨(.pair kF ea),(.pair kF Fk),wO⟩:=av (ah nC<|ah pe<|ah Km<|ah zj<|ah DQ ar) Tryz.f35
def T7:az 36 ⟨(.pair kF ea),Fk,AF⟩:=av (ah nC<|ah AY<|ah pe ar) Tryz.f36
def Od:az 106 ⟨(.pair (.slice DJ) wY),(.pair (.slice LW) pf),ri⟩:=av (ah kf<|ah wW ar) Tryz.f106
def XF:az 107 ⟨(.pair (.slice LW) .unit),ea,xF⟩:=av (ah Db ar) Tryz.f107
def L2:az 37 ⟨(.pair kF ea),Fk,uP⟩:=av (ah nC<|ah AY<|ah Fm<|ah pe<|ah Kl<|ah Od<|ah XF ar) Tryz.f37
def B5:az 108 ⟨(.pair kF fR),(.pair kF Fk),p5⟩:=av (ah nC<|ah pe<|ah zj<|ah G6 ar) Tryz.f108
def Sk:az 38 ⟨(.pair kF ea),(.pair kF Fk),EA⟩:=av (ah B5 ar) Tryz.f38
def L3:az 39 ⟨(.pair kF ea),(.pair kF Fk),Bw⟩:=av (ah B5 ar) Tryz.f39
def Fs:az 109 ⟨pf,Fk,iU⟩:=av ar Tryz.f109
def Ft:az 110 ⟨x9,N7,gA⟩:=av (ah C8 ar) Tryz.f110
def jk:Holds Tryz.prog dk 61 ⟨akG,akG,rU⟩:=by
 refine oG (P:=Tryz.prog) (cx:=x8 [] []) (bf:=[5]) (e:=zu) (tid:=26) (fn:=Tryz.f61) (s0:=λl=>(qt (λ_=>af) [.data (.slice zu) l]).put 2 (.data (.slice zu) ([]:List (zu:Ty).den))) mix (DI [] []) (fu ar cW wU dL) Tryz.func61 (by kernel_rfl) (by rfl) rfl aI aI rfl rfl rfl rfl rfl rfl (λl=>by rfl) (λl=>rfl) (λl=>rfl) (λl=>rfl) (λl=>by rfl) (λl a=>?_)
 have key:∀m:List (zu:Ty).den,fits (len m)=true->ao (fits<|plus (len ([]:List (zu:Ty).den))<|len m) (aa ((app [] m,()):(Ty.pair (.slice zu) .unit).den)) af=aa (m,()):=by
  intro m c;have e:plus (len ([]:List (zu:Ty).den)) (len m)=len m:=by simp[plus,len]
  rw[e,c];rfl
 exact Bd (b:=ao (fits<|plus (len ([]:List (zu:Ty).den))<|len (α:=(zu:Ty).den) l) (aa ((app (α:=(zu:Ty).den) [] l,()):(Ty.pair (.slice zu) .unit).den)) af) (by rfl) (key l a)
def MY:az 116 ⟨(.pair zu .unit),ea,dO⟩:=av ar Tryz.f116
def dd:Holds Tryz.prog dk 222 ⟨aho,aho,bQ⟩:=by
 refine oG (P:=Tryz.prog) (cx:=x8 [] []) (bf:=[5]) (e:=jz) (tid:=67) (fn:=Tryz.f222) (s0:=λl=>(qt (λ_=>af) [.data (.slice jz) l]).put 2 (.data (.slice jz) ([]:List (jz:Ty).den))) mix (DI [] []) (fu ar cW wU dL) Tryz.func222 (by kernel_rfl) (by rfl) rfl aI aI rfl rfl rfl rfl rfl rfl (λl=>by rfl) (λl=>rfl) (λl=>rfl) (λl=>rfl) (λl=>by rfl) (λl a=>?_)
 have key:∀m:List (jz:Ty).den,fits (len m)=true->ao (fits<|plus (len ([]:List (jz:Ty).den))<|len m) (aa ((app [] m,()):(Ty.pair (.slice jz) .unit).den)) af=aa (m,()):=by
  intro m c;have e:plus (len ([]:List (jz:Ty).den)) (len m)=len m:=by simp[plus,len]
  rw[e,c];rfl
 exact Bd (b:=ao (fits<|plus (len ([]:List (jz:Ty).den))<|len (α:=(jz:Ty).den) l) (aa ((app (α:=(jz:Ty).den) [] l,()):(Ty.pair (.slice jz) .unit).den)) af) (by rfl) (key l a)
def Df:az 111 ⟨(.pair kF<|.pair zu .unit),x9,ij⟩:=av (ah jk<|ah MY<|ah bz<|ah dd ar) Tryz.f111
def Oe:az 40 ⟨ahm,(.pair kF Fk),rv⟩:=av (ah nC<|ah qY<|ah yb<|ah zh<|ah Fs<|ah Ft<|ah Df ar) Tryz.f40
def G7:az 112 ⟨(.pair kF ea),fR,ni⟩:=av (ah Ft<|ah qW ar) Tryz.f112
def Of:az 41 ⟨(.pair kF ea),(.pair kF Fk),ry⟩:=av (ah jk<|ah Fs<|ah G7<|ah MY ar) Tryz.f41
def G8:az 117 ⟨pf,Fk,ky⟩:=av ar Tryz.f117
def G9:az 118 ⟨x9,N7,nr⟩:=av (ah C8 ar) Tryz.f118
def Dg:az 119 ⟨(.pair kF ea),(.pair zu dU),pP⟩:=av (ah bz<|ah dd ar) Tryz.f119
def lP:Holds Tryz.prog dk 60 ⟨akF,akF,uQ⟩:=by
 refine oG (P:=Tryz.prog) (cx:=x8 [] []) (bf:=[5]) (e:=Af) (tid:=25) (fn:=Tryz.f60) (s0:=λl=>(qt (λ_=>af) [.data (.slice Af) l]).put 2 (.data (.slice Af) ([]:List (Af:Ty).den))) mix (DI [] []) (fu ar cW wU dL) Tryz.func60 (by kernel_rfl) (by rfl) rfl aI aI rfl rfl rfl rfl rfl rfl (λl=>by rfl) (λl=>rfl) (λl=>rfl) (λl=>rfl) (λl=>by rfl) (λl a=>?_)
 have key:∀m:List (Af:Ty).den,fits (len m)=true->ao (fits<|plus (len ([]:List (Af:Ty).den))<|len m) (aa ((app [] m,()):(Ty.pair (.slice Af) .unit).den)) af=aa (m,()):=by
  intro m c;have e:plus (len ([]:List (Af:Ty).den)) (len m)=len m:=by simp[plus,len]
  rw[e,c];rfl
 exact Bd (b:=ao (fits<|plus (len ([]:List (Af:Ty).den))<|len (α:=(Af:Ty).den) l) (aa ((app (α:=(Af:Ty).den) [] l,()):(Ty.pair (.slice Af) .unit).den)) af) (by rfl) (key l a)
def Fu:az 120 ⟨(.pair kF<|.pair Af .unit),x9,lW⟩:=av (ah lP<|ah bz<|ah dd ar) Tryz.f120
def Sl:az 42 ⟨ahm,(.pair kF Fk),tM⟩:=av (ah DP<|ah qY<|ah yb<|ah zh<|ah G7<|ah G8<|ah G9<|ah Dg<|ah Fu ar) Tryz.f42
def XG:az 121 ⟨(.pair kF ea),fR,xO⟩:=av (ah G9<|ah qW ar) Tryz.f121
def Fv:az 122 ⟨(.pair kF ea),(.pair Af dU),sv⟩:=av (ah bz<|ah dd ar) Tryz.f122
def Sn:az 43 ⟨(.pair kF ea),(.pair kF Fk),tO⟩:=av (ah lP<|ah Km<|ah zj<|ah DQ<|ah G8<|ah XG<|ah Fv ar) Tryz.f43
def Dh:az 141 ⟨(.pair aa4 pf),pf,iw⟩:=av ar Tryz.f141
def jA:az 54 ⟨(.pair aa4 pf),dU,dB⟩:=av (ah Dh ar) Tryz.f54
def adB:az 53 ⟨(.pair TX<|.pair aa4 .unit),(.pair aa4 .unit),yH⟩:=av (ah jA ar) Tryz.f53
def A0:az 18 ⟨(.pair TX .unit),(.pair aa4 .unit),kz⟩:=av (ah adB ar) Tryz.f18
def A1:az 46 ⟨pf,Fk,eQ⟩:=av ar Tryz.f46
def Ha:az 125 ⟨(.pair kF pf),N7,vF⟩:=av (ah C8 ar) Tryz.f125
def Kn:az 238 ⟨(.pair jz .unit),ea,b7⟩:=av ar Tryz.f238
def L4:az 127 ⟨(.pair (.slice jz) ea),fR,lF⟩:=av (ah Kn ar) Tryz.f127
def L7:az 128 ⟨(.pair (.slice jz) Se),(.pair (.slice jz) pf),lE⟩:=av (ah MX<|ah DK<|ah dd<|ah Kn ar) Tryz.f128
def XH:az 44 ⟨ahn,(.pair kF Fk),Cy⟩:=av (ah A0<|ah A1<|ah jA<|ah Df<|ah Dg<|ah Fu<|ah Fv<|ah qW<|ah Ha<|ah L4<|ah L7 ar) Tryz.f44
def T8:az 129 ⟨N7,ea,AG⟩:=av (ah Fi ar) Tryz.f129
def Og:az 130 ⟨(.pair kF<|.pair (.int .i64)<|.pair .str zg),x9,ha⟩:=av (ah eZ<|ah Df<|ah Dg<|ah Fu<|ah Fv<|ah bz ar) Tryz.f130
def Sp:az 45 ⟨ahn,(.pair kF Fk),yI⟩:=av (ah A0<|ah A1<|ah jA<|ah qY<|ah yb<|ah qW<|ah Ha<|ah T8<|ah Og ar) Tryz.f45
def Sq:az 13 ⟨ahn,(.pair kF Fk),yJ⟩:=av (ah DP<|ah Oc<|ah T7<|ah L2<|ah Sk<|ah L3<|ah Oe<|ah Of<|ah Sl<|ah Sn<|ah XH<|ah Sp<|ah A1 ar) Tryz.f13
def MZ:az 9 ⟨(.pair kF<|.pair (.slice TX) .unit),(.pair kF<|.pair akE .unit),we⟩:=av (ah Sq ar) Tryz.f9
def xr:az 12 ⟨(.pair akE<|.pair akE .unit),dU,fL⟩:=av ar Tryz.f12
def Hb:az 312 ⟨pf,adA,nf⟩:=av ar Tryz.f312
def T9:az 375 ⟨adA,pf,qw⟩:=av (ah Hb ar) Tryz.f375
def Hc:az 308 ⟨ea,(.pair .str dU),qx⟩:=av (ah T9 ar) Tryz.f308
def Di:az 242 ⟨ea,dU,gr⟩:=av (ah Hc ar) Tryz.f242
def zk:az 263 ⟨ea,dU,lD⟩:=av ar Tryz.f263
def vK:az 243 ⟨zg,dU,kt⟩:=av (ah zk ar) Tryz.f243
def Ua:az 244 ⟨ea,pf,vj⟩:=av (ah Hc ar) Tryz.f244
def Ub:az 131 ⟨(.pair wB .unit),dU,qF⟩:=av (ah Di<|ah vK<|ah Ua ar) Tryz.f131
def Uc:az 309 ⟨.unit,akD,AB⟩:=av ar Tryz.f309
def Ud:az 310 ⟨ea,ea,vh⟩:=av ar Tryz.f310
def XI:az 376 ⟨(.pair (.int .u32) pf),(.pair (.int .u32) .unit),cq⟩:=av ar Tryz.f376
def Sr:az 377 ⟨.unit,(.pair (.arr 64<|.int .u32) .unit),yD⟩:=av ar Tryz.f377
def Ue:az 311 ⟨(.pair (.arr 8<|.int .u32) ea),akD,vi⟩:=av (ah XI<|ah Sr ar) Tryz.f311
def abc:az 246 ⟨ea,(.pair (.arr 32<|.int .u8) .unit),zM⟩:=av (ah Uc<|ah Ud<|ah Ue ar) Tryz.f246
def M0:az 247 ⟨ea,ea,vZ⟩:=av (ah Hb ar) Tryz.f247
def Dj:az 136 ⟨ea,ea,oK⟩:=av (ah abc<|ah M0 ar) Tryz.f136
def He:az 245 ⟨aho,dU,nj⟩:=av (ah Dj<|ah zk ar) Tryz.f245
def Uf:az 132 ⟨(.pair zu .unit),dU,qG⟩:=av (ah Di<|ah vK<|ah He ar) Tryz.f132
def abd:az 133 ⟨(.pair Af .unit),dU,wa⟩:=av (ah Di<|ah vK<|ah He ar) Tryz.f133
def Ug:az 134 ⟨(.pair akC .unit),(.pair (.slice .str) zg),vB⟩:=av ar Tryz.f134
def Uh:az 47 ⟨(.pair (.int .i64)<|.pair akC .unit),pf,nk⟩:=av (ah Ub<|ah Uf<|ah abd<|ah Ug ar) Tryz.f47
def XJ:az 145 ⟨(.pair (.slice wB) ea),pf,Cu⟩:=av ar Tryz.f145
def A2:az 58 ⟨(.pair (.slice wB) ea),(.pair (.slice wB) pf),ku⟩:=av (ah XJ ar) Tryz.f58
def Ui:az 135 ⟨aa2,pf,vC⟩:=av (ah A2 ar) Tryz.f135
def XK:az 378 ⟨ea,dU,xI⟩:=av ar Tryz.f378
def XL:az 379 ⟨ea,dU,xJ⟩:=av ar Tryz.f379
def Ko:az 451 ⟨ea,(.pair (.int .i64) dU),nU⟩:=av ar Tryz.f451
def Ss:az 426 ⟨ea,pf,fB⟩:=av (ah Ko ar) Tryz.f426
def abe:az 427 ⟨ea,pf,zN⟩:=av ar Tryz.f427
def XM:az 428 ⟨ea,(.pair .str dU),pH⟩:=av ar Tryz.f428
def Uj:az 452 ⟨fR,dU,ng⟩:=av ar Tryz.f452
def adC:az 453 ⟨Im,dU,rQ⟩:=av ar Tryz.f453
def abf:az 429 ⟨(.pair YH7 pf),dU,v7⟩:=av (ah Uj<|ah adC ar) Tryz.f429
def XN:az 380 ⟨ea,(.pair YH7 pf),pI⟩:=av (ah Ss<|ah abe<|ah XM<|ah abf ar) Tryz.f380
def Uk:az 381 ⟨pf,pf,nh⟩:=av ar Tryz.f381
def Ul:az 313 ⟨ea,(.pair aa3 dU),vu⟩:=av (ah XK<|ah XL<|ah XN<|ah Uk ar) Tryz.f313
def Kp:az 248 ⟨ea,(.pair aa3 pf),mh⟩:=av (ah Ul ar) Tryz.f248
def kC:az 386 ⟨ea,zg,eo⟩:=av ar Tryz.f386
def Kq:az 387 ⟨zg,ea,pA⟩:=av ar Tryz.f387
def vL:az 315 ⟨ea,Se,kr⟩:=av (ah kC<|ah Kq ar) Tryz.f315
def Su:az 430 ⟨Se,dU,oM⟩:=av ar Tryz.f430
def Kr:az 383 ⟨ea,LW,tn⟩:=av (ah Su ar) Tryz.f383
def Sv:az 431 ⟨ea,dU,tm⟩:=av ar Tryz.f431
def Sw:az 388 ⟨ea,dU,yF⟩:=av (ah kC<|ah Sv ar) Tryz.f388
def Sx:az 389 ⟨ea,dU,tp⟩:=av ar Tryz.f389
def Ai:az 316 ⟨(.pair DJ .unit),dU,lV⟩:=av (ah vL<|ah Kr<|ah Sw<|ah Sx ar) Tryz.f316
def Ks:az 323 ⟨(.pair (.pair YH7 ea) ea),(.pair DJ .unit),tw⟩:=av ar Tryz.f323
def Um:az 382 ⟨ea,fR,vm⟩:=av (ah kC<|ah Kq<|ah Sw ar) Tryz.f382
def Dk:az 384 ⟨Se,ea,pC⟩:=av ar Tryz.f384
def Sy:az 385 ⟨ea,dU,lC⟩:=av (ah Ai<|ah Dk<|ah kC ar) Tryz.f385
def Kt:az 314 ⟨(.pair (.pair YH7 ea) .unit),(.pair (.int .i64)<|.pair .str dU),pF⟩:=av (ah vL<|ah Ai<|ah Ks<|ah Um<|ah Kr<|ah Dk<|ah Sy ar) Tryz.f314
def Hf:az 249 ⟨(.pair aa3 .unit),dU,qB⟩:=av (ah Kt ar) Tryz.f249
def A3:az 137 ⟨ea,pf,ks⟩:=av (ah Kp<|ah Hf ar) Tryz.f137
def yc:az 49 ⟨(.pair kF ea),pf,iq⟩:=av ar Tryz.f49
def yd:az 150 ⟨(.pair kF pf),ea,jY⟩:=av ar Tryz.f150
def Dm:az 324 ⟨Sd,pf,ic⟩:=av ar Tryz.f324
def M3:az 317 ⟨Sd,dU,oO⟩:=av (ah Dm ar) Tryz.f317
def w8:az 318 ⟨Se,pf,jC⟩:=av (ah kC ar) Tryz.f318
def si:az 257 ⟨wY,dU,iS⟩:=av (ah vL<|ah Ai<|ah M3<|ah w8 ar) Tryz.f257
def Un:az 432 ⟨Se,dU,vn⟩:=av (ah kC ar) Tryz.f432
def w9:az 390 ⟨(.pair (.slice DJ)<|.pair .str dU),wY,jE⟩:=av (ah Un ar) Tryz.f390
def Sz:az 319 ⟨Sd,wY,tq⟩:=av (ah si<|ah w9 ar) Tryz.f319
def Uo:az 320 ⟨Sd,wY,vr⟩:=av (ah si<|ah w9 ar) Tryz.f320
def Ku:az 259 ⟨Sd,(.pair DJ dU),pE⟩:=av (ah si<|ah Dm ar) Tryz.f259
def M5:az 322 ⟨(.pair (.slice DJ)<|.pair DJ .unit),GF,oP⟩:=av (ah si<|ah vL<|ah Ai<|ah M3<|ah w8<|ah Dm<|ah w9 ar) Tryz.f322
def XO:az 321 ⟨Sd,GF,xH⟩:=av (ah Ku<|ah M5<|ah Dk<|ah kC ar) Tryz.f321
def abg:az 258 ⟨(.pair (.slice DJ)<|.pair aa3 .unit),GF,zP⟩:=av (ah Hf<|ah si<|ah Kt<|ah Sz<|ah Uo<|ah XO<|ah M5<|ah Ks ar) Tryz.f258
def Hg:az 156 ⟨Sd,GF,qC⟩:=av (ah A3<|ah Kp<|ah si<|ah abg ar) Tryz.f156
def abh:az 250 ⟨zg,GF,zW⟩:=av (ah Hg ar) Tryz.f250
def Dn:az 138 ⟨(.pair kF ea),GF,jZ⟩:=av (ah yc<|ah A2<|ah yd<|ah abh ar) Tryz.f138
def SA:az 48 ⟨x9,dU,tE⟩:=av (ah Ui<|ah Dj<|ah A3<|ah Dn ar) Tryz.f48
def M6:az 14 ⟨x9,dU,wc⟩:=av (ah Uh<|ah SA<|ah yc ar) Tryz.f14
def L8:az 17 ⟨(.pair aa4<|.pair aa4 .unit),dU,uR⟩:=av ar Tryz.f17
def Up:az 8 ⟨.unit,dU,qJ⟩:=av (ah MZ<|ah xr<|ah M6<|ah L8<|ah A0 ar) Tryz.f8
def SB:az 251 ⟨Se,dU,yG⟩:=av ar Tryz.f251
def uq:az 143 ⟨(.pair TY ea),fR,j0⟩:=av (ah SB ar) Tryz.f143
def Dp:az 252 ⟨(.pair (.int .i64)<|.pair akC .unit),N7,rS⟩:=av ar Tryz.f252
def Hh:az 144 ⟨x9,N7,kx⟩:=av (ah Dp ar) Tryz.f144
def mD:az 57 ⟨(.pair kF ea),fR,eW⟩:=av (ah uq<|ah Hh ar) Tryz.f57
def qZ:az 151 ⟨zg,pf,gq⟩:=av (ah vK ar) Tryz.f151
def nE:az 152 ⟨pf,Fk,bV⟩:=av ar Tryz.f152
def XP:az 254 ⟨(.pair TY ea),pf,xL⟩:=av ar Tryz.f254
def abj:az 255 ⟨(.pair (.slice .str) ea),dU,zQ⟩:=av ar Tryz.f255
def ye:az 153 ⟨(.pair TY<|.pair .str zg),pf,mi⟩:=av (ah qZ<|ah XP<|ah abj ar) Tryz.f153
def adD:az 256 ⟨pf,ea,Cx⟩:=av ar Tryz.f256
def A4:az 154 ⟨(.pair TY pf),fR,nq⟩:=av (ah adD ar) Tryz.f154
def XQ:az 155 ⟨.unit,ea,xN⟩:=av ar Tryz.f155
def XR:az 157 ⟨(.pair kF<|.pair wB ea),x9,tJ⟩:=av (ah yd ar) Tryz.f157
def Fw:az 69 ⟨ahm,(.pair kF Fk),oV⟩:=av (ah mD<|ah A2<|ah Dj<|ah A3<|ah Dn<|ah Hh<|ah qZ<|ah nE<|ah ye<|ah A4<|ah XQ<|ah Hg<|ah XR ar) Tryz.f69
def Kv:az 158 ⟨(.pair kF ea),dU,tQ⟩:=av ar Tryz.f158
def ur:az 159 ⟨(.pair kF ea),pf,jc⟩:=av ar Tryz.f159
def A5:az 163 ⟨(.pair kF fR),x9,nw⟩:=av ar Tryz.f163
def DR:az 160 ⟨(.pair kF ea),x9,mT⟩:=av (ah yc<|ah yd<|ah A5 ar) Tryz.f160
def SC:az 70 ⟨(.pair kF ea),(.pair kF Fk),yK⟩:=av (ah mD<|ah nE<|ah Kv<|ah ur<|ah DR ar) Tryz.f70
def Hi:az 68 ⟨(.pair kF ea),(.pair wB<|.pair .str dU),qI⟩:=av (ah yc<|ah yd ar) Tryz.f68
def XS:az 71 ⟨(.pair kF ea),Fk,Cz⟩:=av (ah mD<|ah Hi<|ah nE ar) Tryz.f71
def abk:az 260 ⟨(.pair (.slice LW)<|.pair LW .unit),(.pair (.slice LW) .unit),su⟩:=av (ah w8 ar) Tryz.f260
def Oh:az 161 ⟨(.pair (.slice DJ) wY),(.pair (.slice LW) pf),mN⟩:=av (ah si<|ah Ku<|ah abk ar) Tryz.f161
def XT:az 162 ⟨(.pair (.slice LW) .unit),ea,tr⟩:=av (ah M0 ar) Tryz.f162
def Oi:az 72 ⟨(.pair kF ea),Fk,wP⟩:=av (ah mD<|ah Hi<|ah Dn<|ah nE<|ah Oh<|ah XT ar) Tryz.f72
def Uq:az 73 ⟨(.pair kF ea),(.pair kF Fk),AH⟩:=av (ah mD<|ah nE<|ah ur<|ah A5 ar) Tryz.f73
def Oj:az 74 ⟨(.pair kF ea),(.pair kF Fk),wQ⟩:=av (ah mD<|ah nE<|ah ur<|ah A5 ar) Tryz.f74
def Hj:az 164 ⟨pf,Fk,iD⟩:=av ar Tryz.f164
def Hk:az 165 ⟨x9,N7,nx⟩:=av (ah Dp ar) Tryz.f165
def Kw:az 261 ⟨(.pair kF ea),pf,xQ⟩:=av ar Tryz.f261
def DT:az 168 ⟨(.pair kF ea),x9,mU⟩:=av (ah Kw ar) Tryz.f168
def Fx:az 166 ⟨(.pair kF<|.pair zu .unit),x9,sw⟩:=av (ah DT ar) Tryz.f166
def SD:az 75 ⟨ahm,(.pair kF Fk),tS⟩:=av (ah mD<|ah qZ<|ah ye<|ah A4<|ah Hj<|ah Hk<|ah Fx ar) Tryz.f75
def Kx:az 167 ⟨(.pair kF ea),fR,tT⟩:=av (ah uq<|ah Hk ar) Tryz.f167
def SE:az 76 ⟨(.pair kF ea),(.pair kF Fk),tU⟩:=av (ah Hj<|ah Kx<|ah DT ar) Tryz.f76
def Hl:az 169 ⟨pf,Fk,gw⟩:=av ar Tryz.f169
def Fy:az 170 ⟨(.pair kF ea),(.pair zu dU),oW⟩:=av (ah Kw ar) Tryz.f170
def Hm:az 171 ⟨x9,N7,ny⟩:=av (ah Dp ar) Tryz.f171
def Ky:az 262 ⟨(.pair kF ea),pf,xR⟩:=av ar Tryz.f262
def DU:az 175 ⟨(.pair kF ea),x9,mV⟩:=av (ah Ky ar) Tryz.f175
def Fz:az 172 ⟨(.pair kF<|.pair Af .unit),x9,sx⟩:=av (ah DU ar) Tryz.f172
def SF:az 77 ⟨ahm,(.pair kF Fk),tW⟩:=av (ah Fw<|ah qZ<|ah ye<|ah A4<|ah Kx<|ah Hl<|ah Fy<|ah Hm<|ah Fz ar) Tryz.f77
def XU:az 173 ⟨(.pair kF ea),fR,CA⟩:=av (ah uq<|ah Hm ar) Tryz.f173
def FA:az 174 ⟨(.pair kF ea),(.pair Af dU),sy⟩:=av (ah Ky ar) Tryz.f174
def SG:az 78 ⟨(.pair kF ea),(.pair kF Fk),tX⟩:=av (ah Kv<|ah ur<|ah DR<|ah Hl<|ah XU<|ah FA<|ah DU ar) Tryz.f78
def A6:az 81 ⟨pf,Fk,fq⟩:=av ar Tryz.f81
def Hn:az 176 ⟨(.pair kF pf),N7,vG⟩:=av (ah Dp ar) Tryz.f176
def Ol:az 177 ⟨(.pair (.slice jz) ea),fR,rB⟩:=av ar Tryz.f177
def Om:az 178 ⟨(.pair (.slice jz) Se),(.pair (.slice jz) pf),rA⟩:=av (ah Dj<|ah zk ar) Tryz.f178
def XV:az 79 ⟨ahn,(.pair kF Fk),xS⟩:=av (ah A6<|ah uq<|ah Fx<|ah Fy<|ah Fz<|ah FA<|ah Hn<|ah Ol<|ah Om ar) Tryz.f79
def XW:az 179 ⟨N7,ea,CB⟩:=av ar Tryz.f179
def On:az 180 ⟨(.pair kF<|.pair (.int .i64)<|.pair .str zg),x9,hH⟩:=av (ah Fx<|ah Fy<|ah Fz<|ah FA ar) Tryz.f180
def SH:az 80 ⟨ahn,(.pair kF Fk),tY⟩:=av (ah A6<|ah uq<|ah qZ<|ah ye<|ah Hn<|ah XW<|ah On ar) Tryz.f80
def adE:az 29 ⟨ahn,(.pair kF Fk),CC⟩:=av (ah Fw<|ah SC<|ah XS<|ah Oi<|ah Uq<|ah Oj<|ah SD<|ah SE<|ah SF<|ah SG<|ah XV<|ah SH<|ah A6 ar) Tryz.f29
def abl:az 10 ⟨(.pair kF<|.pair (.slice TX) .unit),(.pair kF<|.pair akE .unit),EC⟩:=av (ah adE ar) Tryz.f10
def oj:az 22 ⟨(.pair (.slice .str) zg),dU,eG⟩:=av ar Tryz.f22
def Aj:az 82 ⟨(.pair (.slice jz) aho),dU,gO⟩:=av ar Tryz.f82
def Kz:az 30 ⟨(.pair (.slice Af) akF),dU,n7⟩:=av (ah oj<|ah Aj ar) Tryz.f30
def Ip:az 31 ⟨(.pair (.slice zu) akG),dU,mo⟩:=av (ah oj<|ah Aj ar) Tryz.f31
def Iq:az 32 ⟨(.pair (.slice wB) aa2),dU,mq⟩:=av (ah oj ar) Tryz.f32
def Ir:az 33 ⟨(.pair (.slice fR) ahp),dU,mr⟩:=av ar Tryz.f33
def XX:az 11 ⟨(.pair kF x9),dU,pV⟩:=av (ah oj<|ah Kz<|ah Ip<|ah Iq<|ah Ir ar) Tryz.f11
def KA:az 3 ⟨(.pair (.slice TX) .unit),dU,od⟩:=av (ah aa5<|ah Up<|ah MZ<|ah abl<|ah XX<|ah xr<|ah Sq<|ah M6 ar) Tryz.f3
end Go.Proofs.YtcebnmppipejfaaGreatDoor
