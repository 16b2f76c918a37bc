import Derived.Test.YtcebnmppipejfaaGreatDoorRows
import Derived.Test.YtcebnmppipejfaaGreatDoorPlJ
import Derived.Test.YtcebnmppipejfaaGreatDoorShelf
set_option linter.unusedVariables false
set_option linter.unusedSectionVars false
set_option linter.unusedSimpArgs false
set_option linter.defProp false
open Option renaming some->aa,none->af
namespace Go.Proofs.YtcebnmppipejfaaGreatDoor.First
open Go Go.Ge
set_option maxRecDepth 100000
variable [Lp]
def cy(s:List (Nat×Nat))(m:List Nat):Option Pz:=aa ⟨s,m,false⟩
def cz(s:List (Nat×Nat)):Option Pz:=aa ⟨s,[],false⟩
def fp(a:List (Option Pz)):IE:=⟨a,[]⟩
abbrev A8:Ty:=(.pair .str<|.pair (.int .i64)<|.pair (.int .i64)<|.pair .str<|.pair .str .unit)
abbrev Ik:Ty:=(.pair .str .unit)
abbrev YF2:Ty:=(.pair .str<|.pair .str<|.pair (.slice<|.pair .str<|.pair .str Ik) .unit)
abbrev VJ:Ty:=(.pair (.int .i64) .unit)
abbrev YF4:Ty:=(.pair .str<|.pair .str<|.pair (.slice .str)<|.pair .str<|.pair (.int .i64)<|.pair (.int .i64)<|.pair .bool .unit)
abbrev YF5:Ty:=(.pair .str<|.pair (.int .i64)<|.pair (.int .i64)<|.pair (.int .i64)<|.pair (.int .i64)<|.pair (.int .i64)<|.pair (.int .i64) Ik)
abbrev YF6:Ty:=(.pair .bool .unit)
abbrev YF7:Ty:=(.pair .str Ik)
abbrev YF8:Ty:=(.pair .str<|.pair (.slice .str)<|.pair .str YF2)
abbrev YF9:Ty:=(.pair (.int .i64)<|.pair (.int .i64)<|.pair .str<|.pair .str<|.pair (.slice .str)<|.pair .str<|.pair .str VJ)
abbrev amL:Ty:=(.pair .str<|.pair (.slice .str) YF2)
abbrev akz:Ty:=(.pair (.slice .str) .unit)
abbrev akA:Ty:=(.pair (.slice A8) .unit)
noncomputable def ft:Nat->IE|146=>fp [cz [(4,3),(8,3)],af,af]|194=>fp [af,cz [(2,37),(12,3)],af,af]|275=>fp [af]|276=>fp [af,af,af,af]|278=>fp [af,af,af]|347=>⟨[cy [(2,9),(3,37),(4,28),(11,3)] [4],af,cy [(2,9),(3,37),(4,28)] [4],af,af],[4]⟩|348=>fp [af,af,af]|352=>fp [af,af,af,af,af]|355=>fp [cy [(6,3),(13,3)] [2],af,af,af,af]|356=>fp [af]|357=>fp [af,af,af,af,af]|406=>fp [cz [(2,4),(6,3)],af,af]|408=>fp [cz [(4,3),(5,3)],af,af]|409=>fp [cz [(9,254),(10,3)],af,af,cz [(4,3),(9,254),(11,3)],af,af]|412=>fp [cy [(9,3),(10,3)] [1,2],af,cz [(9,3),(10,3)]]|442=>fp [af]|443=>fp [cz [(4,254),(5,3)],af,cz [(6,254),(7,254),(8,3)],af,cz [(6,254)]]|485=>⟨[af],[9]⟩|488=>fp [af,cy [(5,3),(6,3),(0,999999)] [0,1],af,cy [(5,3),(0,999999)] [0]]|489=>⟨[af],[5]⟩|491=>fp [af,cz [(4,4),(13,3)],af,af]|492=>fp [cy [(4,3),(8,3)] [1],af,af]|502=>⟨[af,af,af,af],[55]⟩|_=>⟨[],[]⟩
def uu:List (Nat×List Gr):=[(203,[.self,.buf (.int .u8) 5]),(326,[])]
def Yp:List (Nat×Nat):=[(180,5)]
noncomputable def XY:List (Nat×Spc):=[(489,.clone A8),(503,(.own A8 (.pair (.int .i64) akA) true bc))]
noncomputable def tys:List (Nat×Ty):=[(3,(.int .i64)),(4,.bool),(5,(.int .u8)),(9,.str),(21,(.int .i32)),(22,(.slice YF9)),(25,(.slice YF8)),(26,(.slice amL)),(27,(.slice YF4)),(28,(.slice .str)),(29,(.slice<|.pair .str VJ)),(31,(.pair (.slice YF8)<|.pair (.slice amL)<|.pair (.slice YF4)<|.pair (.slice .str)<|.pair (.slice<|.pair .str VJ) .unit)),(32,(.slice<|.pair (.int .i64)<|.pair .str<|.pair (.int .i64) Ik)),(37,(.int .i64)),(39,(.pair (.int .i64)<|.pair .str<|.pair (.int .i64) Ik)),(43,YF9),(48,(.slice<|.int .i64)),(66,(.pair (.int .i64)<|.pair (.slice YF4)<|.pair (.slice amL)<|.pair (.slice YF8) .unit)),(67,(.slice<|.pair .str YF7)),(69,amL),(72,YF8),(74,(.pair .str VJ)),(85,YF4),(86,(.arr 4 .bool)),(96,(.slice A8)),(102,(.slice<|.pair .str akz)),(113,(.slice<|.pair (.int .i64) Ik)),(125,(.int .u64)),(139,(.arr 4<|.int .i64)),(156,(.pair .str YF7)),(161,(.slice<|.pair YF5 Ik)),(164,(.slice<|.alt 322 Ik<|.alt 324 Ik<|.alt 326 .unit<|.alt 328 (.pair A8 .unit) .DV)),(169,(.pair .str akz)),(178,(.arr 32<|.int .u8)),(180,(.slice<|.int .u8)),(193,(.pair (.int .i64) Ik)),(197,A8),(200,(.arr 4 .str)),(233,YF5),(235,(.pair YF5 Ik)),(239,(.alt 322 Ik<|.alt 324 Ik<|.alt 326 .unit<|.alt 328 (.pair A8 .unit) .DV)),(254,(.int .u32)),(255,(.arr 8<|.int .u32)),(257,(.pair .bool<|.pair (.arr 8<|.int .u32) .unit)),(258,(.arr 64<|.int .u8)),(260,(.pair (.pair .bool<|.pair (.arr 8<|.int .u32) .unit)<|.pair (.arr 64<|.int .u8) VJ)),(295,(.int .i64)),(304,(.int .u64)),(307,(.arr 256 .bool)),(313,(.pair .bool<|.pair .str<|.pair (.int .i64)<|.pair .bool YF6)),(322,Ik),(324,Ik),(328,(.pair A8 .unit)),(339,(.arr 8<|.int .u8)),(349,(.arr 64<|.int .u32)),(354,(.int .u64)),(380,(.pair (.int .i64) VJ)),(381,(.arr 11<|.pair (.int .i64) VJ)),(386,(.arr 2 .str)),(391,(.arr 256<|.int .u8)),(393,(.pair (.int .u8)<|.pair (.int .u8) .unit)),(394,(.arr 16<|.pair (.int .u8)<|.pair (.int .u8) .unit))]
noncomputable def C5:List (Nat×Func):=[(64,Tryz.f64),(146,Tryz.f146),(194,Tryz.f194),(234,Tryz.f234),(275,Tryz.f275),(276,Tryz.f276),(277,Tryz.f277),(278,Tryz.f278),(302,Tryz.f302),(347,Tryz.f347),(348,Tryz.f348),(352,Tryz.f352),(353,Tryz.f353),(354,Tryz.f354),(355,Tryz.f355),(356,Tryz.f356),(357,Tryz.f357),(358,Tryz.f358),(396,Tryz.f396),(406,Tryz.f406),(407,Tryz.f407),(408,Tryz.f408),(409,Tryz.f409),(412,Tryz.f412),(413,Tryz.f413),(442,Tryz.f442),(443,Tryz.f443),(484,Tryz.f484),(485,Tryz.f485),(486,Tryz.f486),(487,Tryz.f487),(488,Tryz.f488),(489,Tryz.f489),(490,Tryz.f490),(491,Tryz.f491),(492,Tryz.f492),(502,Tryz.f502)]
def sL:List Nat:=[99,120,122,131,140,141,151,160,173,187,194,198,199,201,218,230,242,245,246,268,273,277,311,337,358,369,371,375]
def Bf:List Nat:=[201,230,273,311,337,358,371,375]
noncomputable def x8(b:List (Nat×D1))(a:List (Nat×D8))(c:List (String×D1):=[]):Ctx:=⟨tys,sL,Bf,C5,b,a,uu,XY,Yp,c⟩
def mix:Tryz.prog.follows .mixedOrders=true:=by kernel_rfl
def ahk:∀tid t,find tys tid=aa t->Den Tryz.prog t tid:=aiV (by kernel_rfl)
def Kf:∀tid,du sL tid=true->(∀w,(isAgg tid).run Tryz.prog w=.ok false w)/\(∀w,(Go.sizeOf tid).run Tryz.prog w=.ok 1 w)/\∃z,(∀w,(zeroValue tid).run Tryz.prog w=.ok z w)/\z.oneCell'=true:=aef (by kernel_rfl)
def Kg:∀tid,du Bf tid=true->∃e,Tryz.prog.underlying tid=aa (.pointer e):=aeg (by kernel_rfl)
def R8:∀f a,find C5 f=aa a->Tryz.prog.funcs[f]?=aa a:=aiW ((ak Tryz.func64<|ak Tryz.func146<|ak Tryz.func194<|ak Tryz.func234<|ak Tryz.func275<|ak Tryz.func276<|ak Tryz.func277<|ak Tryz.func278<|ak Tryz.func302<|ak Tryz.func347<|ak Tryz.func348<|ak Tryz.func352<|ak Tryz.func353<|ak Tryz.func354<|ak Tryz.func355<|ak Tryz.func356<|ak Tryz.func357<|ak Tryz.func358<|ak Tryz.func396<|ak Tryz.func406<|ak Tryz.func407<|ak Tryz.func408<|ak Tryz.func409<|ak Tryz.func412<|ak Tryz.func413<|ak Tryz.func442<|ak Tryz.func443<|ak Tryz.func484<|ak Tryz.func485<|ak Tryz.func486<|ak Tryz.func487<|ak Tryz.func488<|ak Tryz.func489<|ak Tryz.func490<|ak Tryz.func491<|ak Tryz.func492<|ak Tryz.func502 aeh))
def Kh:∀tid a,find uu tid=aa a->PG Tryz.prog tid a=true:=aei (by kernel_rfl)
def R9:∀tid e,find Yp tid=aa e->Tryz.prog.underlying tid=aa (.slice e):=aiX (by kernel_rfl)
def DI(b:List (Nat×D1))(a:List (Nat×D8))(c:List (String×D1):=[]):fM Tryz.prog (x8 b a c):=⟨ahk,Kf,Kg,R8,Kh,R9⟩
noncomputable def cx0:Ctx:=⟨tys,sL,Bf,C5,[],[],uu,[],Yp,[]⟩
def C6:fM Tryz.prog cx0:=⟨ahk,Kf,Kg,R8,Kh,R9⟩
def dS:e8 Tryz.prog 489 (.clone A8):=by
 refine sr (P:=Tryz.prog) (cx:=cx0) (bf:=[2,5]) (e:=A8) (tid:=96) (fn:=Tryz.f489) (s0:=λl=>((qt (λ_=>af) [.data (.slice A8) l]).cd 2 { val:=.data (.slice A8) ([]:List (A8:Ty).den),tid:=0,buf:=true,ro:=false,lk:=false,aY:=0 }).put 2 (.whole 2 0)) mix C6 (fu ar cW vg dL) Tryz.func489 (by kernel_rfl) (by rfl) rfl aI aI rfl rfl rfl rfl rfl rfl (λl=>by rfl) (λl=>rfl) (λl=>rfl) (λl=>rfl) (λl=>by rfl) (λl a=>?_)
 have key:∀m:List (A8:Ty).den,fits (len m)=true->ao (fits<|plus (len ([]:List (A8:Ty).den))<|len m) (aa<|app [] m) af=aa m:=by
  intro m c;have e:plus (len ([]:List (A8:Ty).den)) (len m)=len m:=by simp[plus,len]
  rw[e,c];rfl
 exact Bd (b:=ao (fits<|plus (len ([]:List (A8:Ty).den))<|len (α:=(A8:Ty).den) l) (aa<|app (α:=(A8:Ty).den) [] l) af) (by rfl) (key l a)
def dJ:e8 Tryz.prog 503 (.own A8 (.pair (.int .i64) akA) true bc):=by
 have a:Den Tryz.prog A8 197:=by show eM Tryz.prog A8 false 197 0 []=true;kernel_rfl
 obtain⟨f,g,b,c,h,i⟩:=a.info;exact zL (e:=A8) (ρ:=(⟨λx=>if x=29 then 504 else if x=30 then 505 else 503,λx=>if x=24 then 96 else if x=9 then 197 else if x=3 then 3 else if x=4 then 4 else 0,λx=>x⟩:Go.Shelf.Ren)) (nm := "slices.Insert[[]cooperage/api.TreeNode,cooperage/api.TreeNode]") ⟨mix,Tryz.func503.trans (congrArg aa<|by kernel_rfl),λd w=>run_callFunc_extern (e:=Extern.SlicesOverlaps.overlaps #[96,96] #[4]) Tryz.func504 (by kernel_rfl) (by kernel_rfl) (by kernel_rfl) (by kernel_rfl) d w,by kernel_rfl,by kernel_rfl,by kernel_rfl,λw=>by simp[Go.sizeOf,b,c]<;>kernel_rfl,by simp[b,c]<;>kernel_rfl⟩ aI a (by kernel_rfl) aI aI
def wU:∀p∈XY,e8 Tryz.prog p.1 p.2:=(dH dS<|dH dJ vg)
def Ki(b:List (Nat×D1))(a:List (Nat×D8))(c:List (String×D1):=[]):UJ (x8 b a c):=Zd (cx:=x8 b a c) (show(C5.all λp=>acb p.2)=true by kernel_rfl)
def dk:Eh:=zC
def Fh{b:List (Nat×D1)}{a:List (Nat×D8)}{c:List (String×D1)}(i:∀p∈b,Holds Tryz.prog dk p.1 p.2)(e:∀p∈a,gd Tryz.prog dk p.1 p.2)(j:∀p∈c,l7 Tryz.prog dk p.1 p.2){f:Nat}{l:Func}{A R:Ty}{d:A.den->Option R.den}(k:find C5 f=aa l)(n:l.body.isSome=true)
  (o:∀x,sem (x8 b a c) 12 ft f A R x=d x):Holds Tryz.prog dk f ⟨A,R,d⟩:=by
 obtain⟨m,g⟩:=Pb.1 n;exact Jm mix (DI b a c) (fu i e wU j) (Ki b a c) (f:=f) k g (λx y h=>by rw[o];exact h)
def LV{b:List (Nat×D1)}{a:List (Nat×D8)}{c:List (String×D1)}(i:∀p∈b,Holds Tryz.prog dk p.1 p.2)(e:∀p∈a,gd Tryz.prog dk p.1 p.2)(j:∀p∈c,l7 Tryz.prog dk p.1 p.2){f:Nat}{l:Func}{m:List Bool}{A:Ty}{U:Ty}{R:Ty}{d:A.den×U.den->Option (R.den×U.den)}(k:find C5 f=aa l)(o:l.body.isSome=true)
  (q:∀x,aih (x8 b a c) 12 ft f m A U R x=d x):gd Tryz.prog dk f ⟨m,A,U,R,d⟩:=by
 obtain⟨n,g⟩:=Pb.1 o;exact GQ mix (DI b a c) (fu i e wU j) (Ki b a c) (f:=f) k g (λx y h=>by rw[q];exact h)
def Gk{d:List (Nat×D1)}{a:List (Nat×D8)}{e:List (String×D1)}(g:∀p∈d,Holds Tryz.prog dk p.1 p.2)(c:∀p∈a,gd Tryz.prog dk p.1 p.2)(h:∀p∈e,l7 Tryz.prog dk p.1 p.2)(j:Func){f:Nat}{A R:Ty}{b:A.den->Option R.den}(i:find C5 f=aa j:=by rfl)(k:j.body.isSome=true:=by kernel_rfl) (l:∀x,sem (x8 d a e) 12 ft f A R x=b x:=by intro x;kernel_rfl):Holds Tryz.prog dk f ⟨A,R,b⟩:=Fh g c h i k l
def av{b:List (Nat×D1)}(c:∀p∈b,Holds Tryz.prog dk p.1 p.2)(e:Func){f:Nat}{A R:Ty}{a:A.den->Option R.den}(d:find C5 f=aa e:=by rfl)(g:e.body.isSome=true:=by kernel_rfl) (h:∀x,sem (x8 b [] []) 12 ft f A R x=a x:=by intro x;kernel_rfl):Holds Tryz.prog dk f ⟨A,R,a⟩:=Fh c cW dL d g h
def ug{d:List (Nat×D1)}{a:List (Nat×D8)}{e:List (String×D1)}(g:∀p∈d,Holds Tryz.prog dk p.1 p.2)(c:∀p∈a,gd Tryz.prog dk p.1 p.2)(h:∀p∈e,l7 Tryz.prog dk p.1 p.2)(j:Func){f:Nat}{k:List Bool}{A:Ty}{U:Ty}{R:Ty}{b:A.den×U.den->Option (R.den×U.den)}(i:find C5 f=aa j:=by rfl)(l:j.body.isSome=true:=by kernel_rfl) (m:∀x,aih (x8 d a e) 12 ft f k A U R x=b x:=by intro x;kernel_rfl):gd Tryz.prog dk f ⟨k,A,U,R,b⟩:=LV g c h i l m
abbrev az:=Holds Tryz.prog dk
def wV:az 146 ⟨(.pair (.slice .str) Ik),VJ,eT⟩:=av ar Tryz.f146
def fQ:az 64 ⟨(.pair (.slice .str) Ik),YF6,bJ⟩:=av (ah wV ar) Tryz.f64
def pd:az 408 ⟨(.pair .str<|.pair (.int .u8) .unit),VJ,db⟩:=av ar Tryz.f408
def qm:az 443 ⟨Ik,(.pair (.int .u32)<|.pair (.int .u32) .unit),hR⟩:=av ar Tryz.f443
def lO:az 409 ⟨YF7,VJ,fc⟩:=av (ah qm ar) Tryz.f409
def GC:az 352 ⟨YF7,VJ,qi⟩:=av (ah pd<|ah lO ar) Tryz.f352
def nB:az 275 ⟨Ik,YF7,gn⟩:=av (ah GC ar) Tryz.f275
def ke:az 302 ⟨YF7,YF6,cr⟩:=av ar Tryz.f302
def qn:az 234 ⟨YF7,YF6,cA⟩:=av (ah ke ar) Tryz.f234
def Fi:Holds Tryz.prog dk 240 ⟨(.pair (.slice .str) Ik),Ik,lf⟩:=acn Tryz.func240 (by kernel_rfl) (by kernel_rfl) Tryz.strings_Join_none Tryz.strings_Join
def N5:Holds Tryz.prog dk 411 ⟨YF7,akz,wK⟩:=Zk Tryz.func411 (by kernel_rfl) (by kernel_rfl) (λs b w a=>Any.HL Tryz.ae8 (by kernel_rfl) s b w a)
def qQ:az 356 ⟨Ik,akz,fo⟩:=av (ah N5 ar) Tryz.f356
def uh:Holds Tryz.prog dk 410 ⟨(.pair .str<|.pair (.int .u8) .unit),VJ,fv⟩:=Wy (spec:=λs c=>Lib.indexByte s (show Int from c).toNat.toUInt8) Tryz.func410 (by kernel_rfl) (by kernel_rfl) (λs c=>Dy _ s) (λs c w=>by
 go_enter Tryz.func410,Tryz.ntmps410
 go_wp2
 rw[run_callFunc_extern Tryz.func444 (by kernel_rfl) (by kernel_rfl) (by kernel_rfl) (e:=Extern.BytealgIndexByte.indexByte)<|by kernel_rfl,Lib.run_indexByteString];simp only[Result.andThen];rw[Oper.upon_value]
 go_wp2
 go_ret
 exact⟨rfl,rfl⟩)
def kY:az 354 ⟨(.pair .str<|.pair (.int .u8) .unit),VJ,dq⟩:=av (ah uh ar) Tryz.f354
def Sa:az 406 ⟨Ik,YF6,tk⟩:=av (ah kY ar) Tryz.f406
def G3:az 347 ⟨Ik,(.pair .str VJ),qy⟩:=av (ah qn<|ah Fi<|ah qQ<|ah Sa ar) Tryz.f347
def ui:az 442 ⟨YF7,(.pair .str YF6),fw⟩:=av (ah ke ar) Tryz.f442
def GD:az 407 ⟨YF7,(.pair .str YF6),kL⟩:=av (ah ui ar) Tryz.f407
def Kj:az 348 ⟨Ik,(.pair (.int .i64) Ik),tl⟩:=av (ah fQ<|ah qn<|ah GD ar) Tryz.f348
def TW:az 353 ⟨Ik,YF6,vo⟩:=av (ah nB<|ah G3<|ah Kj ar) Tryz.f353
def VK:az 276 ⟨(.pair A8 .unit),YF6,Bt⟩:=av (ah TW<|ah kY ar) Tryz.f276
def Il:az 396 ⟨Ik,YF6,iR⟩:=av ar Tryz.f396
def Fj:az 357 ⟨YF7,VJ,jV⟩:=av (ah Il ar) Tryz.f357
def wW:az 277 ⟨YF7,VJ,gW⟩:=av (ah qQ<|ah Fj ar) Tryz.f277
def N6:az 413 ⟨(.pair A8 Ik),VJ,mJ⟩:=av (ah wW ar) Tryz.f413
def C7:az 358 ⟨(.pair (.slice A8) Ik),(.pair (.int .i64) YF6),ev⟩:=av (ah N6 ar) Tryz.f358
def Sc:az 278 ⟨(.pair (.slice A8) Ik),VJ,oN⟩:=av (ah C7 ar) Tryz.f278
def kf:az 194 ⟨akA,VJ,ew⟩:=av (ah nB<|ah VK<|ah wW<|ah Sc ar) Tryz.f194
def wX:az 491 ⟨(.pair (.slice .str) akz),YF6,eU⟩:=av ar Tryz.f491
def AW:az 487 ⟨YF7,YF6,dv⟩:=av (ah qQ<|ah wX ar) Tryz.f487
def dT:Holds Tryz.prog dk 489 ⟨akA,akA,nI⟩:=by
 refine oG (P:=Tryz.prog) (cx:=x8 [] []) (bf:=[5]) (e:=A8) (tid:=96) (fn:=Tryz.f489) (s0:=λl=>(qt (λ_=>af) [.data (.slice A8) l]).put 2 (.data (.slice A8) ([]:List (A8:Ty).den))) mix (DI [] []) (fu ar cW wU dL) Tryz.func489 (by kernel_rfl) (by rfl) rfl aI aI rfl rfl rfl rfl rfl rfl (λl=>by rfl) (λl=>rfl) (λl=>rfl) (λl=>rfl) (λl=>by rfl) (λl a=>?_)
 have key:∀m:List (A8:Ty).den,fits (len m)=true->ao (fits<|plus (len ([]:List (A8:Ty).den))<|len m) (aa ((app [] m,()):(Ty.pair (.slice A8) .unit).den)) af=aa (m,()):=by
  intro m c;have e:plus (len ([]:List (A8:Ty).den)) (len m)=len m:=by simp[plus,len]
  rw[e,c];rfl
 exact Bd (b:=ao (fits<|plus (len ([]:List (A8:Ty).den))<|len (α:=(A8:Ty).den) l) (aa ((app (α:=(A8:Ty).den) [] l,()):(Ty.pair (.slice A8) .unit).den)) af) (by rfl) (key l a)
def adz:az 502 ⟨(.pair (.slice A8)<|.pair A8 .unit),(.pair (.slice A8) VJ),uO⟩:=av (ah kf<|ah nB<|ah VK<|ah Sc<|ah C7<|ah AW<|ah dT ar) Tryz.f502
end Go.Proofs.YtcebnmppipejfaaGreatDoor.First
