/- The layer's functions keep their contracts: each comes to its plain definition, by the ghost interpreter. -/
import Derived.Test.YtbaijbjhkmoidaaGreatDoorBld
import Derived.Test.YtbaijbjhkmoidaaGreatDoorMkr
import Derived.Test.YtbaijbjhkmoidaaGreatDoorOnce
import Derived.Test.YtbaijbjhkmoidaaGreatDoorNum
set_option linter.unusedVariables false
set_option linter.unusedSectionVars false
set_option linter.unusedSimpArgs false
namespace Go.Proofs.YtbaijbjhkmoidaaGreatDoor
open Go Go.Ge
set_option maxRecDepth 100000
variable [Lp]
def cy(s:List (Nat×Nat))(m:List Nat):Option wU:=some ⟨s,m,false⟩
def cz(s:List (Nat×Nat)):Option wU:=some ⟨s,[],false⟩
def fp(a:List (Option wU)):mc:=⟨a,[]⟩
abbrev kN:Ty:=(.pair (.int .i64)<|.pair .bool<|.pair (.int .i64)<|.pair (.int .i64)<|.pair .str<|.pair (.slice<|.pair .str<|.pair (.int .i64) .unit) .unit)
abbrev qS:Ty:=(.pair (.int .i64)<|.pair .str<|.pair .str<|.pair (.int .i64)<|.pair (.int .i64)<|.pair (.int .i64)<|.pair .str<|.pair (.int .i64)<|.pair (.int .i64) .unit)
abbrev mA:Ty:=(.pair (.int .i64) .unit)
abbrev wC:Ty:=(.pair (.pair (.int .i64)<|.pair (.int .i64)<|.pair .str<|.pair (.slice .str) .unit) .unit)
abbrev sF:Ty:=(.pair (.int .i64)<|.pair (.int .i64) mA)
abbrev n7:Ty:=(.pair .str .unit)
abbrev Pw:Ty:=(.pair .str<|.pair .str<|.pair (.slice .str)<|.pair .str<|.pair (.int .i64)<|.pair (.int .i64)<|.pair .bool .unit)
abbrev Cs:Ty:=(.pair (.int .i64) mA)
abbrev AL:Ty:=(.pair .bool .unit)
abbrev Oo:Ty:=(.pair (.int .i64)<|.pair .bool<|.pair qS .unit)
abbrev LG:Ty:=(.pair (.int .i64)<|.pair (.int .i64)<|.pair (.slice kN) .unit)
abbrev IK:Ty:=(.pair (.slice<|.pair .str<|.pair .bool n7) .unit)
abbrev MZ:Ty:=(.pair (.int .i64)<|.pair (.int .i64)<|.pair .str<|.pair (.slice .str) .unit)
abbrev LH:Ty:=(.pair (.arr 8<|.int .u32) .unit)
abbrev zM:Ty:=(.pair .str mA)
abbrev IL:Ty:=(.pair (.int .u32) .unit)
abbrev IM:Ty:=(.pair (.slice .str) .unit)
abbrev F8:Ty:=(.pair (.int .i64) n7)
abbrev Oq:Ty:=(.pair (.pair .bool LH)<|.pair (.arr 64<|.int .u8) mA)
abbrev Px:Ty:=(.pair .unit<|.pair (.pair .unit IL)<|.pair (.pair .unit<|.pair (.pair (.int .i32) IL) .unit) .unit)
abbrev IP:Ty:=(.pair (.int .i64) zM)
abbrev M0:Ty:=(.pair (.int .i64)<|.pair qS .unit)
noncomputable def kj:Nat->mc
 | 4=>⟨[none,cy [(2,4),(5,22),(6,3),(7,3)] [3,5,3888887],none,none,cz [(8,4),(9,3)],none,none,cy [(2,4),(6,3)] [3,3888887],none,cy [(2,4),(15,3)] [3,3888887],none,cy [(17,9),(18,35),(19,3)] [3,16,3888887],none,cy [] [3,16,3888887],none],[5]⟩
 | 9=>fp [cy [] [0]]
 | 11=>fp [cy [(6,3),(7,4),(8,35),(16,3)] [0,9,3888887],none,none,none,none,none]
 | 13=>fp [none]
 | 14=>fp [none,none]
 | 16=>fp [none]
 | 18=>⟨[none],[9000018]⟩
 | 19=>⟨[none,none,none,cz [(8,3)],none],[9]⟩
 | 20=>fp [none,none,none]
 | 21=>fp [cy [(6,3),(7,4),(8,35),(10,3)] [0,9,3888887],none,none]
 | 23=>fp [cz [(5,9)]]
 | 25=>⟨[],[6]⟩
 | 26=>fp [none,cz [(4,4),(5,3)],none,none]
 | 29=>fp [cy [(4,3),(8,3)] [1],none,none]
 | 31=>fp [none]
 | 32=>fp [none]
 | 34=>fp [none,none,none]
 | 39=>fp [none]
 | 40=>fp [cz [(4,3),(5,35),(6,3)],none,none]
 | 42=>fp [none,cy [] [0]]
 | 43=>fp [cy [(5,3)] [3],none,cy [(7,3)] [6],none]
 | 44=>⟨[cy [(3,98),(4,3)] [3],none],[3]⟩
 | 45=>⟨[cy [(9,54),(11,3)] [0,9,3888887],none],[9]⟩
 | 46=>fp [none,cy [(5,3),(6,3),(0,999999)] [0,1],none,cy [(5,3),(0,999999)] [0]]
 | 47=>⟨[none],[5]⟩
 | 51=>fp [none]
 | 59=>fp [none]
 | 63=>fp [none]
 | 64=>⟨[],[3]⟩
 | 65=>⟨[],[8000000,8000001]⟩
 | 66=>fp [none,cz [(29,4)],cz [(29,4)],cz [(29,4)],cz [(29,4)],none,none,none,none,none,none,none,none,none,none,none,none,none,none]
 | 68=>fp [cy [(3,98)] [0,3],none,cy [(3,98),(5,3)] [3],none]
 | 69=>fp [cy [(6,3)] [5],none,cy [(7,3)] [5],none,cy [(12,3)] [11],none,cy [(17,3)] [11],none]
 | 70=>fp [none]
 | 71=>fp [cy [(5,3)] [4],none,none]
 | 72=>fp [none,none]
 | 73=>fp [cy [(4,3),(8,3)] [1],none,none]
 | 75=>⟨[none,cy [(0,9),(2,9),(3,4),(4,98)] [4],none,none],[4]⟩
 | 78=>fp [cy [(9,3)] [3],none]
 | 84=>fp [none,none,none,none]
 | 86=>⟨[none],[4000012]⟩
 | 87=>⟨[],[3]⟩
 | 88=>fp [cz [(5,4)],cz [(5,4)],cz [(5,4)],cz [(5,4)],none,cz [(19,4)],none,none]
 | 89=>fp [none,none,none,none,none]
 | 90=>fp [cy [(4,3),(5,35),(6,3),(7,3)] [0,6],none,none]
 | 91=>⟨[none,cy [(3,43),(4,9),(5,3)] [3],none,cy [(3,43),(4,9)] [3]],[3]⟩
 | 92=>⟨[none,none,cy [(8,43),(9,3)] [8],none],[8]⟩
 | 93=>fp [cz [(5,3),(6,3)],none,cz [(5,3)]]
 | 94=>fp [none]
 | 95=>fp [none,none,none,none]
 | 96=>fp [none,none,none]
 | 97=>fp [none,none]
 | 98=>fp [none,cy [(8,3),(9,3)] [0,3888887],none]
 | 99=>fp [none,none]
 | 100=>fp [none,none]
 | 101=>fp [none,none,none,none,cy [(10,35)] [0,17],none]
 | 104=>fp [none]
 | 107=>fp [none,cy [(1,9)] [0],none,cy [] [0]]
 | 108=>fp [cy [] [3],cy [] [3],none,cy [(26,3)] [5],none,cy [(41,3)] [7],none]
 | 117=>fp [cz [(4,3),(8,3)],none,none]
 | 118=>fp [cz [(2,4),(4,3)],none,none]
 | 119=>fp [cz [(6,3),(7,3)],none,none]
 | 120=>⟨[cy [(6,161),(7,3)] [0,6],none,cy [(6,161)] [0,6]],[6]⟩
 | 121=>fp [none]
 | 122=>fp [none,none,none,none]
 | 123=>fp [none,none]
 | 124=>fp [cy [(5,4),(6,3)] [4],none,none]
 | 125=>fp [none,none,none]
 | 126=>fp [cz [(4,3),(5,3)],none,none]
 | 127=>fp [cz [(3,3),(4,3)],none]
 | 128=>⟨[cy [(4,184),(5,3)] [4],none,cy [(4,184)] [4],cy [(4,184)] [4]],[4]⟩
 | 129=>⟨[cz [(6,3)],none],[5]⟩
 | 130=>⟨[cy [(5,139),(6,3)] [5],none,cy [(5,139)] [5]],[5]⟩
 | 131=>fp [none,none]
 | 132=>fp [none,none,none,none]
 | 136=>fp [cy [] [0],cz [(6,107),(7,107),(8,107),(9,107),(10,107),(11,107),(12,107),(13,107),(74,3)],none,cy [(143,3)] [0],none]
 | 142=>fp [cz [(2,4),(3,3)],none,none]
 | 143=>fp [none,none]
 | 144=>fp [none,none,none]
 | 145=>fp [none,none]
 | 146=>fp [cy [(5,98)] [5],none]
 | 147=>fp [cz [(2,4),(3,3)],none,none]
 | 155=>fp [cy [(12,3)] [3],none,cy [(22,3)] [3],none,cy [(7,3)] [3],none]
 | _=>⟨[],[]⟩
def nk:List (Nat×List jl):=[(197,[.self,.buf (.int .u8) 5]),(75,[.bW .bool,.buf (.pair qS wC) 87,.bW (.int .i64),.bW .bool,.bW .bool,.bW qS]),(186,[.bW<|.int .i64,.bW (.int .i64),.buf kN 0]),(163,[.one,.buf sF 0]),(68,[.one,.one,.buf Oo 0]),(92,[.buf Cs 0,.bW (.int .i64)]),(58,[.one,.one]),(120,[.bW .str,.bW Px,.bW .str,.bW (.pair .unit<|.pair .unit mA)])]
def JB:List (Nat×Nat):=[(98,5),(73,87)]
noncomputable def yT:List (Nat×IW):=[(110,.str 197 5),(137,.NA 197),(47,.clone .str),(30,.p7 50),(127,.look [true] (.pair LG .unit) mA cl)]
noncomputable def PV:List (Nat×Ty):=[(2,(.int .i64)),(3,(.int .i64)),(4,.bool),(5,(.int .u8)),(9,.str),(21,(.int .i32)),(22,(.slice Pw)),(23,(.slice MZ)),(30,(.slice qS)),(32,qS),(34,(.pair (.slice qS)<|.pair (.slice MZ)<|.pair (.int .i64)<|.pair qS<|.pair .bool AL)),(35,(.int .i64)),(43,(.slice .str)),(45,Pw),(49,MZ),(64,(.slice<|.pair .str<|.pair .bool n7)),(66,(.slice Oo)),(73,(.slice<|.pair qS wC)),(87,(.pair qS wC)),(90,(.slice Cs)),(94,Cs),(96,(.arr 32<|.int .u8)),(98,(.slice<|.int .u8)),(107,(.int .u32)),(111,(.pair (.int .i32) IL)),(134,Oo),(135,(.arr 8<|.int .u32)),(139,(.slice zM)),(141,kN),(144,zM),(147,(.pair .str<|.pair .bool n7)),(156,(.slice<|.int .i64)),(161,(.slice sF)),(179,(.int .u64)),(180,(.arr 64<|.int .u32)),(181,(.int .u64)),(184,(.slice kN)),(189,(.pair .bool LH)),(190,(.arr 64<|.int .u8)),(192,Oq),(216,sF),(228,(.arr 8<|.int .u8)),(235,(.arr 24<|.int .u8)),(251,(.arr 20<|.int .u64)),(252,(.arr 65<|.int .u8))]
noncomputable def yL:List (Nat×Func):=[(4,Tryz.f4),(7,Tryz.f7),(8,Tryz.f8),(9,Tryz.f9),(11,Tryz.f11),(13,Tryz.f13),(14,Tryz.f14),(16,Tryz.f16),(18,Tryz.f18),(19,Tryz.f19),(20,Tryz.f20),(21,Tryz.f21),(22,Tryz.f22),(23,Tryz.f23),(24,Tryz.f24),(25,Tryz.f25),(26,Tryz.f26),(27,Tryz.f27),(28,Tryz.f28),(29,Tryz.f29),(31,Tryz.f31),(32,Tryz.f32),(34,Tryz.f34),(35,Tryz.f35),(38,Tryz.f38),(39,Tryz.f39),(40,Tryz.f40),(41,Tryz.f41),(42,Tryz.f42),(43,Tryz.f43),(44,Tryz.f44),(45,Tryz.f45),(46,Tryz.f46),(47,Tryz.f47),(48,Tryz.f48),(49,Tryz.f49),(50,Tryz.f50),(51,Tryz.f51),(52,Tryz.f52),(53,Tryz.f53),(59,Tryz.f59),(60,Tryz.f60),(63,Tryz.f63),(64,Tryz.f64),(65,Tryz.f65),(66,Tryz.f66),(67,Tryz.f67),(68,Tryz.f68),(69,Tryz.f69),(70,Tryz.f70),(71,Tryz.f71),(72,Tryz.f72),(73,Tryz.f73),(74,Tryz.f74),(75,Tryz.f75),(77,Tryz.f77),(78,Tryz.f78),(84,Tryz.f84),(85,Tryz.f85),(86,Tryz.f86),(87,Tryz.f87),(88,Tryz.f88),(89,Tryz.f89),(90,Tryz.f90),(91,Tryz.f91),(92,Tryz.f92),(93,Tryz.f93),(94,Tryz.f94),(95,Tryz.f95),(96,Tryz.f96),(97,Tryz.f97),(98,Tryz.f98),(99,Tryz.f99),(100,Tryz.f100),(101,Tryz.f101),(102,Tryz.f102),(103,Tryz.f103),(104,Tryz.f104),(105,Tryz.f105),(107,Tryz.f107),(108,Tryz.f108),(109,Tryz.f109),(116,Tryz.f116),(117,Tryz.f117),(118,Tryz.f118),(119,Tryz.f119),(120,Tryz.f120),(121,Tryz.f121),(122,Tryz.f122),(123,Tryz.f123),(124,Tryz.f124),(125,Tryz.f125),(126,Tryz.f126),(127,Tryz.f127),(128,Tryz.f128),(129,Tryz.f129),(130,Tryz.f130),(131,Tryz.f131),(132,Tryz.f132),(133,Tryz.f133),(136,Tryz.f136),(142,Tryz.f142),(143,Tryz.f143),(144,Tryz.f144),(145,Tryz.f145),(146,Tryz.f146),(147,Tryz.f147),(153,Tryz.f153),(154,Tryz.f154),(155,Tryz.f155),(156,Tryz.f156),(171,Tryz.f171)]
def ml:List Nat:=[1,27,29,51,55,56,65,76,79,103,152,153,155,158,195,201,203,226,229,230,240,244,246]
def iy:List Nat:=[27,29,51,55,56,65,76,152,153,155,158,195,201,203,226,229,230,240,244,246]
noncomputable def Cj(b:List (Nat×vX))(a:List (Nat×sK))(c:List (String×vX):=[]):Ctx:=⟨PV,ml,iy,yL,b,a,nk,yT,JB,c⟩
theorem mix:Tryz.prog.follows .mixedOrders=true:=by kernel_rfl
theorem Ot:∀tid t,find PV tid=some t->Den Tryz.prog t tid:=Ky (by kernel_rfl)
theorem Ck:∀tid,bJ ml tid=true->(∀w,(isAgg tid).run Tryz.prog w=.ok false w)/\(∀w,(Go.sizeOf tid).run Tryz.prog w=.ok 1 w)/\∃z,(∀w,(zeroValue tid).run Tryz.prog w=.ok z w)/\z.oneCell'=true:=Mm (by kernel_rfl)
theorem Cl:∀tid,bJ iy tid=true->∃e,Tryz.prog.underlying tid=some (.pointer e):=Mn (by kernel_rfl)
theorem F9:∀f a,find yL f=some a->Tryz.prog.funcs[f]?=some a:=N0 ((ao Tryz.func4<|ao Tryz.func7<|ao Tryz.func8<|ao Tryz.func9<|ao Tryz.func11<|ao Tryz.func13<|ao Tryz.func14<|ao Tryz.func16<|ao Tryz.func18<|ao Tryz.func19<|ao Tryz.func20<|ao Tryz.func21<|ao Tryz.func22<|ao Tryz.func23<|ao Tryz.func24<|ao Tryz.func25<|ao Tryz.func26<|ao Tryz.func27<|ao Tryz.func28<|ao Tryz.func29<|ao Tryz.func31<|ao Tryz.func32<|ao Tryz.func34<|ao Tryz.func35<|ao Tryz.func38<|ao Tryz.func39<|ao Tryz.func40<|ao Tryz.func41<|ao Tryz.func42<|ao Tryz.func43<|ao Tryz.func44<|ao Tryz.func45<|ao Tryz.func46<|ao Tryz.func47<|ao Tryz.func48<|ao Tryz.func49<|ao Tryz.func50<|ao Tryz.func51<|ao Tryz.func52<|ao Tryz.func53<|ao Tryz.func59<|ao Tryz.func60<|ao Tryz.func63<|ao Tryz.func64<|ao Tryz.func65<|ao Tryz.func66<|ao Tryz.func67<|ao Tryz.func68<|ao Tryz.func69<|ao Tryz.func70<|ao Tryz.func71<|ao Tryz.func72<|ao Tryz.func73<|ao Tryz.func74<|ao Tryz.func75<|ao Tryz.func77<|ao Tryz.func78<|ao Tryz.func84<|ao Tryz.func85<|ao Tryz.func86<|ao Tryz.func87<|ao Tryz.func88<|ao Tryz.func89<|ao Tryz.func90<|ao Tryz.func91<|ao Tryz.func92<|ao Tryz.func93<|ao Tryz.func94<|ao Tryz.func95<|ao Tryz.func96<|ao Tryz.func97<|ao Tryz.func98<|ao Tryz.func99<|ao Tryz.func100<|ao Tryz.func101<|ao Tryz.func102<|ao Tryz.func103<|ao Tryz.func104<|ao Tryz.func105<|ao Tryz.func107<|ao Tryz.func108<|ao Tryz.func109<|ao Tryz.func116<|ao Tryz.func117<|ao Tryz.func118<|ao Tryz.func119<|ao Tryz.func120<|ao Tryz.func121<|ao Tryz.func122<|ao Tryz.func123<|ao Tryz.func124<|ao Tryz.func125<|ao Tryz.func126<|ao Tryz.func127<|ao Tryz.func128<|ao Tryz.func129<|ao Tryz.func130<|ao Tryz.func131<|ao Tryz.func132<|ao Tryz.func133<|ao Tryz.func136<|ao Tryz.func142<|ao Tryz.func143<|ao Tryz.func144<|ao Tryz.func145<|ao Tryz.func146<|ao Tryz.func147<|ao Tryz.func153<|ao Tryz.func154<|ao Tryz.func155<|ao Tryz.func156<|ao Tryz.func171 Mo))
theorem Ha:∀tid a,find nk tid=some a->y4 Tryz.prog tid a=true:=GN (by kernel_rfl)
theorem Ga:∀tid e,find JB tid=some e->Tryz.prog.underlying tid=some (.slice e):=N3 (by kernel_rfl)
theorem LI(b:List (Nat×vX))(a:List (Nat×sK))(c:List (String×vX):=[]):df Tryz.prog (Cj b a c):=⟨Ot,Ck,Cl,F9,Ha,Ga⟩
noncomputable def RS:Ctx:=⟨PV,ml,iy,yL,[],[],nk,[],JB,[]⟩
theorem Ou:df Tryz.prog RS:=⟨Ot,Ck,Cl,F9,Ha,Ga⟩
theorem l6:ko Tryz.prog 47 (.clone .str):=by
 refine HZ (P:=Tryz.prog) (cx:=RS) (bf:=[2,5]) (e:=.str) (tid:=43) (fn:=Tryz.f47) (s0:=λl=>((uX (λ_=>none) [.data (.slice .str) l]).bI 2 { val:=.data (.slice .str) ([]:List (.str:Ty).den),tid:=0,buf:=true,ro:=false,lk:=false,au:=0 }).put 2 (.whole 2 0)) mix Ou (qy ay aL BR aY) Tryz.func47 (by kernel_rfl)
  (by rfl) rfl (by decide) (by decide) rfl rfl rfl rfl rfl rfl (λl=>by rfl) (λl=>rfl) (λl=>rfl) (λl=>rfl) (λl=>by rfl) (λl a=>?_)
 have key:∀m:List (.str:Ty).den,fits (len m)=true->av (fits<|plus (len ([]:List (.str:Ty).den))<|len m) (some<|app [] m) none=some m:=by
  intro m c;have e:plus (len ([]:List (.str:Ty).den)) (len m)=len m:=by simp[plus,len]
  rw[e,c];rfl
 exact Eq.trans (b:=av (fits<|plus (len ([]:List (.str:Ty).den))<|len (α:=(.str:Ty).den) l) (some<|app (α:=(.str:Ty).den) [] l) none) (by rfl) (key l a)
noncomputable def iW:Ctx:=⟨[(186,LG),(185,LG)]++PV,ml,iy,yL,[],[],nk.filter λp=>!bJ [186,185] p.1,[],JB,[]⟩
theorem oR:df Tryz.prog iW:=⟨Ky<|by kernel_rfl,Ck,Cl,F9,GN (by kernel_rfl),Ga⟩
theorem sD:ko Tryz.prog 127 (.look [true] (.pair LG .unit) mA cl):=by
 obtain⟨b,a⟩:=Cu.1 (show(Tryz.f127:Func).body.isSome=true by kernel_rfl);exact DL mix oR (qy ay aL BR aY) (DJ (cx:=iW)<|show(yL.all λp=>DI p.2)=true by kernel_rfl) (kj:=kj) (n:=12) (by rfl) a rfl (λx y h=>by rw[show NJ iW 12 kj 127 [true] (.pair LG .unit) mA x=cl x by kernel_rfl];exact h)
theorem Gb:∀p∈yT,ko Tryz.prog p.1 p.2:=(qx n6<|qx mz<|qx l6<|qx F3<|qx sD BR)
theorem Hb(b:List (Nat×vX))(a:List (Nat×sK))(c:List (String×vX):=[]):Al (Cj b a c):=DJ (cx:=Cj b a c) (show(yL.all λp=>DI p.2)=true by kernel_rfl)
theorem Ek{b:List (Nat×vX)}{a:List (Nat×sK)}{c:List (String×vX)}(i:∀p∈b,Holds Tryz.prog bD p.1 p.2)(e:∀p∈a,aR Tryz.prog bD (p.1 / 2) p.2)(j:∀p∈c,se Tryz.prog bD p.1 p.2){f:Nat}{l:Func}{A R:Ty}{d:A.den->Option R.den}(k:find yL f=some l)(n:l.body.isSome=true)
  (o:∀x,OI (Cj b a c) 12 kj f A R x=d x):Holds Tryz.prog bD f ⟨A,R,d⟩:=by
 obtain⟨m,g⟩:=Cu.1 n;exact BO mix (LI b a c) (qy i e Gb j) (Hb b a c) (f:=f) k g (λx y h=>by rw[o];exact h)
theorem AM{Cr:List (Nat×vX)}{rX:List (Nat×sK)}{inv:List (String×vX)}(d:∀p∈Cr,Holds Tryz.prog bD p.1 p.2)(b:∀p∈rX,aR Tryz.prog bD (p.1 / 2) p.2)(e:∀p∈inv,se Tryz.prog bD p.1 p.2){f:Nat}{fn:Func}{i:List Bool}{A:Ty}{U:OT}{R:Ty}{a:A.den×U.den->Option (R.den×U.den)}(g:find yL f=some fn)(k:fn.body.isSome=true)
  (l:∀x,LY (Cj Cr rX inv) 12 kj f i A U R x=a x):aR Tryz.prog bD f ⟨i,A,U,R,a⟩:=by
 obtain⟨j,c⟩:=Cu.1 k;exact zz mix (LI Cr rX inv) (qy d b Gb e) (Hb Cr rX inv) (f:=f) g c (λx y h=>by rw[l];exact h)
theorem Cm{d:List (Nat×vX)}{a:List (Nat×sK)}{e:List (String×vX)}(g:∀p∈d,Holds Tryz.prog bD p.1 p.2)(c:∀p∈a,aR Tryz.prog bD (p.1 / 2) p.2)(h:∀p∈e,se Tryz.prog bD p.1 p.2)(j:Func){f:Nat}{A R:Ty}{b:A.den->Option R.den}(i:find yL f=some j:=by rfl)(k:j.body.isSome=true:=by kernel_rfl)
 (hs:∀x,OI (Cj d a e) 12 kj f A R x=b x:=by intro x;kernel_rfl):Holds Tryz.prog bD f ⟨A,R,b⟩:=Ek g c h i k hs
theorem bC{b:List (Nat×vX)}(c:∀p∈b,Holds Tryz.prog bD p.1 p.2)(e:Func){f:Nat}{A R:Ty}{a:A.den->Option R.den}(d:find yL f=some e:=by rfl)(g:e.body.isSome=true:=by kernel_rfl)
 (h:∀x,OI (Cj b [] []) 12 kj f A R x=a x:=by intro x;kernel_rfl):Holds Tryz.prog bD f ⟨A,R,a⟩:=Ek c aL aY d g h
theorem aU{d:List (Nat×vX)}{a:List (Nat×sK)}{e:List (String×vX)}(g:∀p∈d,Holds Tryz.prog bD p.1 p.2)(c:∀p∈a,aR Tryz.prog bD (p.1 / 2) p.2)(h:∀p∈e,se Tryz.prog bD p.1 p.2)(j:Func){f:Nat}{k:List Bool}{A:Ty}{U:OT}{R:Ty}{b:A.den×U.den->Option (R.den×U.den)}(i:find yL f=some j:=by rfl)(l:j.body.isSome=true:=by kernel_rfl)
 (m:∀x,LY (Cj d a e) 12 kj f k A U R x=b x:=by intro x;kernel_rfl):aR Tryz.prog bD f ⟨k,A,U,R,b⟩:=AM g c h i l m
abbrev b5:=Holds Tryz.prog bD
theorem kG:b5 133 ⟨(.pair .str n7),AL,cw⟩:=bC ay Tryz.f133
theorem kH:b5 104 ⟨(.pair .str n7),(.pair .str AL),dq⟩:=bC (ai kG ay) Tryz.f104
theorem rB:b5 74 ⟨(.pair .str n7),(.pair .str AL),gd⟩:=bC (ai kH ay) Tryz.f74
theorem kI:Holds Tryz.prog bD 134 ⟨(.pair .str<|.pair (.int .u8) .unit),mA,cv⟩:=BT (spec:=λs c=>Lib.indexByte s (show Int from c).toNat.toUInt8) Tryz.func134 (by kernel_rfl) (by kernel_rfl) (λs c=>vQ _ s) (λs c w=>by
 go_enter Tryz.func134,Tryz.ntmps134
 go_wp2
 rw[run_callFunc_extern Tryz.func148 (by kernel_rfl) (by kernel_rfl) (by kernel_rfl) (e:=Extern.BytealgIndexByte.indexByte)<|by kernel_rfl,Lib.run_indexByteString];simp only[Result.andThen];rw[Oper.upon_value]
 go_wp2
 go_ret
 exact⟨rfl,rfl⟩)
theorem rC:b5 105 ⟨(.pair .str<|.pair (.int .u8) .unit),mA,ev⟩:=bC (ai kI ay) Tryz.f105
theorem yM:b5 75 ⟨n7,(.pair .str AL),ks⟩:=bC (ai rC ay) Tryz.f75
theorem yN:b5 51 ⟨n7,mA,kt⟩:=bC (ai rB<|ai yM ay) Tryz.f51
theorem yO:Holds Tryz.prog bD 76 ⟨mA,n7,qz⟩:=Fy Tryz.func76 (by kernel_rfl) (by kernel_rfl) Lu yI
theorem Cn:b5 52 ⟨mA,n7,pz⟩:=bC (ai yO ay) Tryz.f52
theorem lS:b5 31 ⟨zM,n7,fK⟩:=bC (ai yN<|ai Cn ay) Tryz.f31
theorem lT:b5 23 ⟨zM,n7,iT⟩:=bC (ai lS ay) Tryz.f23
theorem bt:aR Tryz.prog bD 27 ⟨[true],.unit,(.pair (.ref 75<|.pair (.bW .bool)<|.pair (.buf (.pair qS wC) 87)<|.pair (.bW<|.int .i64)<|.pair (.bW .bool)<|.pair (.bW .bool)<|.pair (.bW qS) .unit) .unit),AL,gb⟩:=aU ay aL aY Tryz.f27
theorem gX:Holds Tryz.prog bD 47 ⟨IM,IM,ep⟩:=by
 refine DP (P:=Tryz.prog) (cx:=Cj [] []) (bf:=[5]) (e:=.str) (tid:=43) (fn:=Tryz.f47) (s0:=λl=>(uX (λ_=>none) [.data (.slice .str) l]).put 2 (.data (.slice .str) ([]:List (.str:Ty).den))) mix (LI [] []) (qy ay aL Gb aY) Tryz.func47 (by kernel_rfl)
  (by rfl) rfl (by decide) (by decide) rfl rfl rfl rfl rfl rfl (λl=>by rfl) (λl=>rfl) (λl=>rfl) (λl=>rfl) (λl=>by rfl) (λl a=>?_)
 have key:∀m:List (.str:Ty).den,fits (len m)=true->av (fits<|plus (len ([]:List (.str:Ty).den))<|len m) (some ((app [] m,()):(Ty.pair (.slice .str) .unit).den)) none=some (m,()):=by
  intro m c;have e:plus (len ([]:List (.str:Ty).den)) (len m)=len m:=by simp[plus,len]
  rw[e,c];rfl
 exact Eq.trans (b:=av (fits<|plus (len ([]:List (.str:Ty).den))<|len (α:=(.str:Ty).den) l) (some ((app (α:=(.str:Ty).den) [] l,()):(Ty.pair (.slice .str) .unit).den)) none) (by rfl) (key l a)
theorem cT:b5 38 ⟨wC,wC,iJ⟩:=bC (ai gX ay) Tryz.f38
theorem dX:b5 116 ⟨.unit,wC,nY⟩:=bC ay Tryz.f116
theorem dZ:aR Tryz.prog bD 84 ⟨[true,false],(.pair qS .unit),(.pair (.ref 75<|.pair (.bW .bool)<|.pair (.buf (.pair qS wC) 87)<|.pair (.bW<|.int .i64)<|.pair (.bW .bool)<|.pair (.bW .bool)<|.pair (.bW qS) .unit) .unit),wC,gl⟩:=aU (ai cT<|ai dX ay) (aa bt aL) aY Tryz.f84
theorem jU:b5 117 ⟨(.pair (.slice<|.int .i64) mA),mA,eX⟩:=bC ay Tryz.f117
theorem aP:b5 85 ⟨(.pair (.slice<|.int .i64) mA),AL,cK⟩:=bC (ai jU ay) Tryz.f85
theorem jV:aR Tryz.prog bD 59 ⟨[true,false,false],(.pair qS<|.pair (.slice<|.int .i64) .unit),(.pair (.ref 75<|.pair (.bW .bool)<|.pair (.buf (.pair qS wC) 87)<|.pair (.bW<|.int .i64)<|.pair (.bW .bool)<|.pair (.bW .bool)<|.pair (.bW qS) .unit) .unit),(.pair MZ mA),iS⟩:=aU (ai cT<|ai aP<|ai dX ay) (aa bt<|aa dZ aL) aY Tryz.f59
theorem ji:aR Tryz.prog bD 60 ⟨[true,false],(.pair qS .unit),(.pair (.ref 75<|.pair (.bW .bool)<|.pair (.buf (.pair qS wC) 87)<|.pair (.bW<|.int .i64)<|.pair (.bW .bool)<|.pair (.bW .bool)<|.pair (.bW qS) .unit) .unit),AL,jg⟩:=aU (ai cT<|ai aP<|ai dX ay) (aa bt<|aa jV<|aa dZ aL) aY Tryz.f60
theorem lU:aR Tryz.prog bD 34 ⟨[true,false],n7,(.pair (.ref 75<|.pair (.bW .bool)<|.pair (.buf (.pair qS wC) 87)<|.pair (.bW<|.int .i64)<|.pair (.bW .bool)<|.pair (.bW .bool)<|.pair (.bW qS) .unit) .unit),zM,eL⟩:=aU (ai cT<|ai aP<|ai dX ay) (aa bt<|aa jV<|aa ji<|aa dZ aL) aY Tryz.f34
theorem qT:b5 153 ⟨.unit,LH,lJ⟩:=bC ay Tryz.f153
theorem qU:b5 154 ⟨.unit,(.pair (.arr 64<|.int .u32) .unit),qA⟩:=bC ay Tryz.f154
theorem n8:b5 171 ⟨(.pair (.int .u32) mA),IL,fU⟩:=bC ay Tryz.f171
theorem nN:b5 156 ⟨(.pair (.int .u32) mA),IL,bz⟩:=bC (ai n8 ay) Tryz.f156
theorem nh:b5 155 ⟨(.pair (.arr 64<|.int .u8) .unit),(.pair (.arr 64<|.int .u32) .unit),kr⟩:=bC (ai nN ay) Tryz.f155
theorem oS:aR Tryz.prog bD 107 ⟨[true,false],n7,(.pair (.ref 0<|.bW Oq) .unit),.unit,dK⟩:=aU (ai qT<|ai qU<|ai nh<|ai nN ay) aL aY Tryz.f107
theorem uS:aR Tryz.prog bD 108 ⟨[true],.unit,(.pair (.ref 0<|.bW Oq) .unit),(.pair (.arr 32<|.int .u8) .unit),jb⟩:=aU (ai qT<|ai qU<|ai nh<|ai nN ay) (aa oS aL) aY Tryz.f108
theorem IQ:b5 77 ⟨n7,(.pair (.arr 32<|.int .u8) .unit),rj⟩:=Cm (ai qT<|ai qU<|ai nh<|ai nN ay) (aa oS<|aa uS aL) aY Tryz.f77
theorem Co:b5 78 ⟨n7,n7,mr⟩:=bC ay Tryz.f78
theorem j6:b5 53 ⟨n7,n7,iM⟩:=bC (ai IQ<|ai Co ay) Tryz.f53
theorem lV:b5 35 ⟨(.pair .str n7),AL,lK⟩:=bC (ai j6 ay) Tryz.f35
theorem pC:aR Tryz.prog bD 14 ⟨[true,false],(.pair Pw .unit),(.pair (.ref 75<|.pair (.bW .bool)<|.pair (.buf (.pair qS wC) 87)<|.pair (.bW<|.int .i64)<|.pair (.bW .bool)<|.pair (.bW .bool)<|.pair (.bW qS) .unit) .unit),zM,dM⟩:=aU (ai lT<|ai lV<|ai cT<|ai aP<|ai dX ay) (aa bt<|aa lU<|aa jV<|aa ji<|aa dZ aL) aY Tryz.f14
theorem gN:aR Tryz.prog bD 32 ⟨[true],.unit,(.pair (.ref 120<|.pair (.bW .str)<|.pair (.bW Px)<|.pair (.bW .str)<|.pair (.bW<|.pair .unit<|.pair .unit mA) .unit) .unit),n7,b7⟩:=F7 j6 On
theorem pD:aR Tryz.prog bD 11 ⟨[true,false,false],(.pair (.slice Pw) n7),(.pair (.ref 75<|.pair (.bW .bool)<|.pair (.buf (.pair qS wC) 87)<|.pair (.bW<|.int .i64)<|.pair (.bW .bool)<|.pair (.bW .bool)<|.pair (.bW qS) .unit) .unit),(.pair (.int .i64)<|.pair .bool mA),ky⟩:=aU (ai lT<|ai lS<|ai lV<|ai cT<|ai j6<|ai aP<|ai dX ay) (aa pC<|aa bt<|aa gN<|aa lU<|aa jV<|aa ji<|aa dZ aL) aY Tryz.f11
theorem jj:aR Tryz.prog bD 13 ⟨[true],.unit,(.pair (.ref 75<|.pair (.bW .bool)<|.pair (.buf (.pair qS wC) 87)<|.pair (.bW<|.int .i64)<|.pair (.bW .bool)<|.pair (.bW .bool)<|.pair (.bW qS) .unit) .unit),(.pair qS AL),db⟩:=aU ay (aa bt aL) aY Tryz.f13
theorem zO:b5 67 ⟨.unit,LH,nZ⟩:=bC ay Tryz.f67
theorem zP:b5 68 ⟨n7,n7,lp⟩:=bC ay Tryz.f68
theorem Cp:b5 102 ⟨(.pair (.int .u32) mA),IL,bn⟩:=bC ay Tryz.f102
theorem yP:b5 103 ⟨.unit,(.pair (.arr 64<|.int .u32) .unit),mX⟩:=bC ay Tryz.f103
theorem zQ:b5 69 ⟨(.pair (.arr 8<|.int .u32) n7),LH,lq⟩:=bC (ai Cp<|ai yP ay) Tryz.f69
theorem El:b5 43 ⟨n7,(.pair (.arr 32<|.int .u8) .unit),nI⟩:=bC (ai zO<|ai zP<|ai zQ ay) Tryz.f43
theorem zR:b5 70 ⟨mA,(.pair (.int .u8) .unit),jA⟩:=bC ay Tryz.f70
theorem Em:b5 44 ⟨n7,n7,nJ⟩:=bC (ai zR ay) Tryz.f44
theorem yQ:b5 22 ⟨n7,n7,mY⟩:=bC (ai El<|ai Em ay) Tryz.f22
theorem tT:b5 26 ⟨(.pair (.slice .str) IM),AL,tJ⟩:=bC ay Tryz.f26
theorem zS:b5 7 ⟨.unit,AL,ic⟩:=Cm (ai (yQ.weaken zJ)<|ai (lT.weaken yH)<|ai tT<|ai (lS.weaken yG)<|ai lV<|ai cT<|ai gX<|ai j6<|ai aP<|ai dX ay) (aa (pD.weaken vV)<|aa jj<|aa (pC.weaken zK)<|aa bt<|aa gN<|aa lU<|aa jV<|aa ji<|aa dZ aL) aY Tryz.f7 (hs:=(λx=>by rename_i i;obtain rfl:i=Lp.y3:=Lp.one _ _;kernel_rfl))
theorem nO:aR Tryz.prog bD 9 ⟨[true],.unit,(.pair (.ref 75<|.pair (.bW .bool)<|.pair (.buf (.pair qS wC) 87)<|.pair (.bW<|.int .i64)<|.pair (.bW .bool)<|.pair (.bW .bool)<|.pair (.bW qS) .unit) .unit),.unit,fy⟩:=aU ay (aa bt aL) aY Tryz.f9
theorem oT:aR Tryz.prog bD 16 ⟨[true,false],wC,(.pair (.ref 75<|.pair (.bW .bool)<|.pair (.buf (.pair qS wC) 87)<|.pair (.bW<|.int .i64)<|.pair (.bW .bool)<|.pair (.bW .bool)<|.pair (.bW qS) .unit) .unit),mA,dJ⟩:=aU (ai cT ay) (aa jj<|aa bt aL) aY Tryz.f16
theorem ez:aR Tryz.prog bD 40 ⟨[true,false],mA,(.pair (.ref 92<|.pair (.buf Cs 0)<|.pair (.bW<|.int .i64) .unit) .unit),Cs,ew⟩:=aU ay aL aY Tryz.f40
theorem rD:aR Tryz.prog bD 19 ⟨[true,false],mA,(.pair (.ref 92<|.pair (.buf Cs 0)<|.pair (.bW<|.int .i64) .unit) .unit),Cs,jn⟩:=aU ay (aa ez aL) aY Tryz.f19
theorem jq:aR Tryz.prog bD 41 ⟨[true,false,false],Cs,(.pair (.ref 92<|.pair (.buf Cs 0)<|.pair (.bW<|.int .i64) .unit) .unit),AL,mi⟩:=aU ay (aa ez aL) aY Tryz.f41
theorem iv:aR Tryz.prog bD 65 ⟨[true],.unit,(.pair (.ref 68<|.pair (.rf 163<|.pair (.rf 186<|.pair (.bW<|.int .i64)<|.pair (.bW<|.int .i64)<|.pair (.buf kN 0) .unit)<|.pair (.buf sF 0) .unit)<|.pair (.rf 163<|.pair (.rf 186<|.pair (.bW<|.int .i64)<|.pair (.bW<|.int .i64)<|.pair (.buf kN 0) .unit)<|.pair (.buf sF 0) .unit)<|.pair (.buf Oo 0) .unit) .unit),.unit,nK⟩:=aU ay aL aY Tryz.f65
theorem eM:b5 91 ⟨n7,IM,ib⟩:=bC ay Tryz.f91
theorem yR:b5 142 ⟨n7,AL,ku⟩:=bC ay Tryz.f142
theorem Gc:b5 118 ⟨n7,AL,iO⟩:=bC (ai eM<|ai yR ay) Tryz.f118
theorem jD:b5 88 ⟨(.pair qS .unit),AL,fV⟩:=bC (ai Gc ay) Tryz.f88
theorem dO:aR Tryz.prog bD 119 ⟨[true,false,false],Cs,(.pair (.ref 163<|.pair (.rf 186<|.pair (.bW<|.int .i64)<|.pair (.bW<|.int .i64)<|.pair (.buf kN 0) .unit)<|.pair (.buf sF 0) .unit) .unit),mA,gr⟩:=aU ay aL aY Tryz.f119
theorem aD:aR Tryz.prog bD 124 ⟨[true,false],mA,(.pair (.ref 186<|.pair (.bW<|.int .i64)<|.pair (.bW<|.int .i64)<|.pair (.buf kN 0) .unit) .unit),(.pair kN AL),bh⟩:=aU ay aL aY Tryz.f124
theorem aX:aR Tryz.prog bD 128 ⟨[true,false],(.pair kN .unit),(.pair (.ref 186<|.pair (.bW<|.int .i64)<|.pair (.bW<|.int .i64)<|.pair (.buf kN 0) .unit) .unit),.unit,aW⟩:=aU ay aL aY Tryz.f128
theorem cY:aR Tryz.prog bD 143 ⟨[true,false],mA,(.pair (.ref 186<|.pair (.bW<|.int .i64)<|.pair (.bW<|.int .i64)<|.pair (.buf kN 0) .unit) .unit),mA,gI⟩:=aU ay (aa aD<|aa aX aL) aY Tryz.f143
theorem ej:aR Tryz.prog bD 120 ⟨[true,false,false],Cs,(.pair (.ref 163<|.pair (.rf 186<|.pair (.bW<|.int .i64)<|.pair (.bW<|.int .i64)<|.pair (.buf kN 0) .unit)<|.pair (.buf sF 0) .unit) .unit),.unit,ir⟩:=aU ay (aa aD<|aa aX<|aa cY aL) aY Tryz.f120
theorem bT:aR Tryz.prog bD 144 ⟨[true,false,false,false],sF,(.pair (.ref 186<|.pair (.bW<|.int .i64)<|.pair (.bW<|.int .i64)<|.pair (.buf kN 0) .unit) .unit),(.pair kN mA),bP⟩:=aU ay (aa aD aL) aY Tryz.f144
theorem dP:aR Tryz.prog bD 121 ⟨[true,false,false,false],sF,(.pair (.ref 186<|.pair (.bW<|.int .i64)<|.pair (.bW<|.int .i64)<|.pair (.buf kN 0) .unit) .unit),zM,eV⟩:=aU ay (aa aD<|aa bT aL) aY Tryz.f121
theorem cF:aR Tryz.prog bD 145 ⟨[true,false,false],(.pair kN mA),(.pair (.ref 186<|.pair (.bW<|.int .i64)<|.pair (.bW<|.int .i64)<|.pair (.buf kN 0) .unit) .unit),mA,eW⟩:=aU ay aL aY Tryz.f145
theorem fN:b5 146 ⟨zM,n7,kv⟩:=bC ay Tryz.f146
theorem dB:aR Tryz.prog bD 122 ⟨[true,false,false,false],(.pair (.int .i64) F8),(.pair (.ref 186<|.pair (.bW<|.int .i64)<|.pair (.bW<|.int .i64)<|.pair (.buf kN 0) .unit) .unit),mA,cp⟩:=aU (ai fN ay) (aa aD<|aa aX<|aa bT<|aa cF aL) aY Tryz.f122
theorem cL:aR Tryz.prog bD 123 ⟨[true,false,false],Cs,(.pair (.ref 186<|.pair (.bW<|.int .i64)<|.pair (.bW<|.int .i64)<|.pair (.buf kN 0) .unit) .unit),mA,kx⟩:=aU (ai fN ay) (aa aD<|aa aX<|aa bT<|aa cF aL) aY Tryz.f123
theorem e7:aR Tryz.prog bD 89 ⟨[true,false,false],M0,(.pair (.ref 163<|.pair (.rf 186<|.pair (.bW<|.int .i64)<|.pair (.bW<|.int .i64)<|.pair (.buf kN 0) .unit)<|.pair (.buf sF 0) .unit) .unit),wC,cC⟩:=aU (ai fN ay) (aa dO<|aa ej<|aa dP<|aa dB<|aa cL<|aa aD<|aa aX<|aa cY<|aa bT<|aa cF aL) aY Tryz.f89
theorem bU:b5 147 ⟨n7,AL,gu⟩:=bC ay Tryz.f147
theorem bj:aR Tryz.prog bD 125 ⟨[true,false,false],F8,(.pair (.ref 186<|.pair (.bW<|.int .i64)<|.pair (.bW<|.int .i64)<|.pair (.buf kN 0) .unit) .unit),(.pair kN mA),cq⟩:=aU (ai bU ay) (aa aD aL) aY Tryz.f125
theorem ch:b5 126 ⟨(.pair kN n7),mA,dW⟩:=bC ay Tryz.f126
theorem bV:aR Tryz.prog bD 99 ⟨[true,false,false],F8,(.pair (.ref 186<|.pair (.bW<|.int .i64)<|.pair (.bW<|.int .i64)<|.pair (.buf kN 0) .unit) .unit),Cs,bQ⟩:=aU (ai ch<|ai bU ay) (aa aD<|aa bj aL) aY Tryz.f99
theorem er:aR Tryz.prog bD 90 ⟨[true,false],IM,(.pair (.ref 163<|.pair (.rf 186<|.pair (.bW<|.int .i64)<|.pair (.bW<|.int .i64)<|.pair (.buf kN 0) .unit)<|.pair (.buf sF 0) .unit) .unit),Cs,gS⟩:=aU (ai ch<|ai bU ay) (aa bV<|aa aD<|aa bj aL) aY Tryz.f90
theorem e8:aR Tryz.prog bD 92 ⟨[true,false],mA,(.pair (.ref 186<|.pair (.bW<|.int .i64)<|.pair (.bW<|.int .i64)<|.pair (.buf kN 0) .unit) .unit),(.pair (.slice .str) mA),na⟩:=aU ay (aa aD aL) aY Tryz.f92
theorem gY:aR Tryz.prog bD 93 ⟨[true,false],mA,(.pair (.ref 163<|.pair (.rf 186<|.pair (.bW<|.int .i64)<|.pair (.bW<|.int .i64)<|.pair (.buf kN 0) .unit)<|.pair (.buf sF 0) .unit) .unit),mA,jH⟩:=aU ay aL aY Tryz.f93
theorem eQ:aR Tryz.prog bD 94 ⟨[true,false],n7,(.pair (.ref 163<|.pair (.rf 186<|.pair (.bW<|.int .i64)<|.pair (.bW<|.int .i64)<|.pair (.buf kN 0) .unit)<|.pair (.buf sF 0) .unit) .unit),IP,cJ⟩:=aU (ai eM<|ai ch<|ai bU ay) (aa er<|aa bV<|aa aD<|aa bj aL) aY Tryz.f94
theorem eH:b5 129 ⟨(.pair kN<|.pair zM .unit),(.pair kN .unit),gK⟩:=bC ay Tryz.f129
theorem fa:aR Tryz.prog bD 95 ⟨[true,false,false,false],(.pair (.int .i64)<|.pair .str AL),(.pair (.ref 186<|.pair (.bW<|.int .i64)<|.pair (.bW<|.int .i64)<|.pair (.buf kN 0) .unit) .unit),Cs,cD⟩:=aU (ai ch<|ai eH<|ai bU ay) (aa aD<|aa bj<|aa aX aL) aY Tryz.f95
theorem dE:b5 130 ⟨(.pair kN n7),(.pair kN .unit),gT⟩:=bC ay Tryz.f130
theorem ea:aR Tryz.prog bD 96 ⟨[true,false,false],F8,(.pair (.ref 186<|.pair (.bW<|.int .i64)<|.pair (.bW<|.int .i64)<|.pair (.buf kN 0) .unit) .unit),mA,iP⟩:=aU (ai ch<|ai dE<|ai bU ay) (aa bV<|aa aD<|aa bj<|aa aX aL) aY Tryz.f96
theorem eb:aR Tryz.prog bD 97 ⟨[true,false,false],F8,(.pair (.ref 186<|.pair (.bW<|.int .i64)<|.pair (.bW<|.int .i64)<|.pair (.buf kN 0) .unit) .unit),mA,iQ⟩:=aU (ai ch<|ai dE<|ai bU ay) (aa bV<|aa aD<|aa bj<|aa aX aL) aY Tryz.f97
theorem dQ:aR Tryz.prog bD 131 ⟨[true,false],mA,(.pair (.ref 186<|.pair (.bW<|.int .i64)<|.pair (.bW<|.int .i64)<|.pair (.buf kN 0) .unit) .unit),mA,gL⟩:=aU ay (aa aD<|aa aX<|aa bT aL) aY Tryz.f131
theorem gy:aR Tryz.prog bD 98 ⟨[true,false,false],Cs,(.pair (.ref 163<|.pair (.rf 186<|.pair (.bW<|.int .i64)<|.pair (.bW<|.int .i64)<|.pair (.buf kN 0) .unit)<|.pair (.buf sF 0) .unit) .unit),wC,dc⟩:=aU ay (aa dO<|aa aD<|aa aX<|aa dQ<|aa bT aL) aY Tryz.f98
theorem dR:aR Tryz.prog bD 132 ⟨[true,false,false,false],(.pair (.int .i64) F8),(.pair (.ref 186<|.pair (.bW<|.int .i64)<|.pair (.bW<|.int .i64)<|.pair (.buf kN 0) .unit) .unit),mA,nc⟩:=aU (ai ch<|ai eH<|ai bU ay) (aa aD<|aa bj<|aa aX aL) aY Tryz.f132
theorem gz:aR Tryz.prog bD 100 ⟨[true,false,false,false],(.pair (.int .i64)<|.pair .str n7),(.pair (.ref 163<|.pair (.rf 186<|.pair (.bW<|.int .i64)<|.pair (.bW<|.int .i64)<|.pair (.buf kN 0) .unit)<|.pair (.buf sF 0) .unit) .unit),wC,kZ⟩:=aU (ai eM<|ai ch<|ai eH<|ai bU ay) (aa er<|aa eQ<|aa bV<|aa aD<|aa bj<|aa aX<|aa dR aL) aY Tryz.f100
theorem ec:aR Tryz.prog bD 101 ⟨[true,false,false,false,false],(.pair (.int .i64)<|.pair .str F8),(.pair (.ref 186<|.pair (.bW<|.int .i64)<|.pair (.bW<|.int .i64)<|.pair (.buf kN 0) .unit) .unit),mA,iR⟩:=aU (ai ch<|ai eH<|ai dE<|ai bU ay) (aa bV<|aa aD<|aa bj<|aa aX aL) aY Tryz.f101
theorem lv:aR Tryz.prog bD 66 ⟨[true,false,false],M0,(.pair (.ref 163<|.pair (.rf 186<|.pair (.bW<|.int .i64)<|.pair (.bW<|.int .i64)<|.pair (.buf kN 0) .unit)<|.pair (.buf sF 0) .unit) .unit),wC,bu⟩:=aU (ai jD<|ai eM<|ai ch<|ai eH<|ai dE<|ai fN<|ai bU ay) (aa e7<|aa er<|aa e8<|aa gY<|aa eQ<|aa fa<|aa ea<|aa eb<|aa gy<|aa bV<|aa gz<|aa ec<|aa dO<|aa ej<|aa dP<|aa dB<|aa cL<|aa aD<|aa bj<|aa aX<|aa dQ<|aa dR<|aa cY<|aa bT<|aa cF aL) aY Tryz.f66
theorem l7:aR Tryz.prog bD 42 ⟨[true,false,false],M0,(.pair (.ref 68<|.pair (.rf 163<|.pair (.rf 186<|.pair (.bW<|.int .i64)<|.pair (.bW<|.int .i64)<|.pair (.buf kN 0) .unit)<|.pair (.buf sF 0) .unit)<|.pair (.rf 163<|.pair (.rf 186<|.pair (.bW<|.int .i64)<|.pair (.bW<|.int .i64)<|.pair (.buf kN 0) .unit)<|.pair (.buf sF 0) .unit)<|.pair (.buf Oo 0) .unit) .unit),wC,ft⟩:=aU (ai jD<|ai eM<|ai ch<|ai eH<|ai dE<|ai fN<|ai bU ay) (aa iv<|aa lv<|aa e7<|aa er<|aa e8<|aa gY<|aa eQ<|aa fa<|aa ea<|aa eb<|aa gy<|aa bV<|aa gz<|aa ec<|aa dO<|aa ej<|aa dP<|aa dB<|aa cL<|aa aD<|aa bj<|aa aX<|aa dQ<|aa dR<|aa cY<|aa bT<|aa cF aL) aY Tryz.f42
theorem oU:aR Tryz.prog bD 20 ⟨[true,false,false],M0,(.pair (.ref 58<|.pair (.rf 68<|.pair (.rf 163<|.pair (.rf 186<|.pair (.bW<|.int .i64)<|.pair (.bW<|.int .i64)<|.pair (.buf kN 0) .unit)<|.pair (.buf sF 0) .unit)<|.pair (.rf 163<|.pair (.rf 186<|.pair (.bW<|.int .i64)<|.pair (.bW<|.int .i64)<|.pair (.buf kN 0) .unit)<|.pair (.buf sF 0) .unit)<|.pair (.buf Oo 0) .unit)<|.pair (.rf 92<|.pair (.buf Cs 0)<|.pair (.bW<|.int .i64) .unit) .unit) .unit),wC,aG⟩:=aU (ai jD<|ai eM<|ai ch<|ai eH<|ai dE<|ai fN<|ai bU ay) (aa ez<|aa jq<|aa l7<|aa iv<|aa lv<|aa e7<|aa er<|aa e8<|aa gY<|aa eQ<|aa fa<|aa ea<|aa eb<|aa gy<|aa bV<|aa gz<|aa ec<|aa dO<|aa ej<|aa dP<|aa dB<|aa cL<|aa aD<|aa bj<|aa aX<|aa dQ<|aa dR<|aa cY<|aa bT<|aa cF aL) aY Tryz.f20
theorem yS:aR Tryz.prog bD 21 ⟨[true,false,false],(.pair (.slice Pw) n7),(.pair (.ref 58<|.pair (.rf 68<|.pair (.rf 163<|.pair (.rf 186<|.pair (.bW<|.int .i64)<|.pair (.bW<|.int .i64)<|.pair (.buf kN 0) .unit)<|.pair (.buf sF 0) .unit)<|.pair (.rf 163<|.pair (.rf 186<|.pair (.bW<|.int .i64)<|.pair (.bW<|.int .i64)<|.pair (.buf kN 0) .unit)<|.pair (.buf sF 0) .unit)<|.pair (.buf Oo 0) .unit)<|.pair (.rf 92<|.pair (.buf Cs 0)<|.pair (.bW<|.int .i64) .unit) .unit) .unit),(.pair (.int .i64)<|.pair .bool mA),yj⟩:=aU (ai lT<|ai lS<|ai lV<|ai cT<|ai j6<|ai aP<|ai jD<|ai eM<|ai dX<|ai ch<|ai eH<|ai dE<|ai fN<|ai bU ay) (aa nO<|aa pD<|aa jj<|aa pC<|aa oT<|aa oU<|aa bt<|aa gN<|aa lU<|aa ez<|aa jq<|aa l7<|aa jV<|aa ji<|aa iv<|aa lv<|aa dZ<|aa e7<|aa er<|aa e8<|aa gY<|aa eQ<|aa fa<|aa ea<|aa eb<|aa gy<|aa bV<|aa gz<|aa ec<|aa dO<|aa ej<|aa dP<|aa dB<|aa cL<|aa aD<|aa bj<|aa aX<|aa dQ<|aa dR<|aa cY<|aa bT<|aa cF aL) aY Tryz.f21
noncomputable def pQ:sK:=⟨[true,false],mA,(.pair (.ref 163<|.pair (.rf 186<|.pair (.bW<|.int .i64)<|.pair (.bW<|.int .i64)<|.pair (.buf kN 0) .unit)<|.pair (.buf sF 0) .unit) .unit),(.pair kN .unit),gU⟩
theorem l8:aR Tryz.prog bD 71 pQ:=aU ay aL aY Tryz.f71
noncomputable def tU:vX:=⟨(.pair .str n7),n7,mu⟩
theorem pE:b5 72 tU:=bC ay Tryz.f72
theorem tV(a:(IP:Ty).den×((.pair (.ref 163<|.pair (.rf 186<|.pair (.bW<|.int .i64)<|.pair (.bW<|.int .i64)<|.pair (.buf kN 0) .unit)<|.pair (.buf sF 0) .unit) .unit):OT).den->Option ((IK:Ty).den×((.pair (.ref 163<|.pair (.rf 186<|.pair (.bW<|.int .i64)<|.pair (.bW<|.int .i64)<|.pair (.buf kN 0) .unit)<|.pair (.buf sF 0) .unit) .unit):OT).den))(b:aR Tryz.prog bD 45 ⟨[true,false,false,false],IP,(.pair (.ref 163<|.pair (.rf 186<|.pair (.bW<|.int .i64)<|.pair (.bW<|.int .i64)<|.pair (.buf kN 0) .unit)<|.pair (.buf sF 0) .unit) .unit),IK,a⟩):aR Tryz.prog bD 45 ⟨[true,false,false,false],IP,(.pair (.ref 163<|.pair (.rf 186<|.pair (.bW<|.int .i64)<|.pair (.bW<|.int .i64)<|.pair (.buf kN 0) .unit)<|.pair (.buf sF 0) .unit) .unit),IK,dL a⟩:=AM (Cr:=[(72,tU)]) (rX:=[(90,⟨[true,false,false,false],IP,(.pair (.ref 163<|.pair (.rf 186<|.pair (.bW<|.int .i64)<|.pair (.bW<|.int .i64)<|.pair (.buf kN 0) .unit)<|.pair (.buf sF 0) .unit) .unit),IK,a⟩),(142,pQ)]) (inv:=[]) (ai pE ay) (aa b<|aa l8 aL) aY (fn:=Tryz.f45) rfl (by kernel_rfl) (λx=>by kernel_rfl)
theorem oV:aR Tryz.prog bD 45 ⟨[true,false,false,false],IP,(.pair (.ref 163<|.pair (.rf 186<|.pair (.bW<|.int .i64)<|.pair (.bW<|.int .i64)<|.pair (.buf kN 0) .unit)<|.pair (.buf sF 0) .unit) .unit),IK,jd⟩:=Fz Tryz.func45 (by kernel_rfl) (by kernel_rfl) tV cb pV pW qD
theorem uT:aR Tryz.prog bD 24 ⟨[true],.unit,(.pair (.ref 163<|.pair (.rf 186<|.pair (.bW<|.int .i64)<|.pair (.bW<|.int .i64)<|.pair (.buf kN 0) .unit)<|.pair (.buf sF 0) .unit) .unit),IK,je⟩:=aU (ai pE ay) (aa oV<|aa l8 aL) aY Tryz.f24
theorem uU:b5 4 ⟨IM,AL,jh⟩:=Cm (ai zS<|ai yQ<|ai lT<|ai lS<|ai lV<|ai cT<|ai j6<|ai pE<|ai aP<|ai jD<|ai eM<|ai dX<|ai ch<|ai eH<|ai dE<|ai fN<|ai bU ay) (aa nO<|aa pD<|aa jj<|aa pC<|aa oT<|aa rD<|aa oU<|aa yS<|aa uT<|aa bt<|aa gN<|aa lU<|aa ez<|aa jq<|aa l7<|aa oV<|aa jV<|aa ji<|aa iv<|aa lv<|aa l8<|aa dZ<|aa e7<|aa er<|aa e8<|aa gY<|aa eQ<|aa fa<|aa ea<|aa eb<|aa gy<|aa bV<|aa gz<|aa ec<|aa dO<|aa ej<|aa dP<|aa dB<|aa cL<|aa aD<|aa bj<|aa aX<|aa dQ<|aa dR<|aa cY<|aa bT<|aa cF aL) aY Tryz.f4
end Go.Proofs.YtbaijbjhkmoidaaGreatDoor
