import Derived.Test.YtcebnmppipejfaaGreatDoorRows
import Derived.Test.YtcebnmppipejfaaGreatDoorPlI
import Derived.Test.YtcebnmppipejfaaGreatDoorShelf
set_option linter.unusedVariables false
set_option linter.unusedSectionVars false
set_option linter.unusedSimpArgs false
set_option linter.defProp false
open Option renaming some->ab,none->ah
namespace Go.Proofs.YtcebnmppipejfaaGreatDoor.First
open Go Go.Ge
set_option maxRecDepth 100000
variable [Lp]
def cy(s:List (Nat×Nat))(m:List Nat):Option LQ:=ab ⟨s,m,false⟩
def cz(s:List (Nat×Nat)):Option LQ:=ab ⟨s,[],false⟩
def fp(a:List (Option LQ)):FF:=⟨a,[]⟩
abbrev zc:Ty:=(.pair .str<|.pair (.int .i64)<|.pair (.int .i64)<|.pair .str<|.pair .str .unit)
abbrev Fl:Ty:=(.pair .str .unit)
abbrev YF2:Ty:=(.pair .str<|.pair .str<|.pair (.slice<|.pair .str<|.pair .str Fl) .unit)
abbrev RC:Ty:=(.pair (.int .i64) .unit)
abbrev YF4:Ty:=(.pair .str<|.pair .str<|.pair (.slice .str)<|.pair .str<|.pair (.int .i64)<|.pair (.int .i64)<|.pair .bool .unit)
abbrev YF5:Ty:=(.pair .str<|.pair (.int .i64)<|.pair (.int .i64)<|.pair (.int .i64)<|.pair (.int .i64)<|.pair (.int .i64)<|.pair (.int .i64) Fl)
abbrev YF6:Ty:=(.pair .bool .unit)
abbrev YF7:Ty:=(.pair .str Fl)
abbrev YF8:Ty:=(.pair .str<|.pair (.slice .str)<|.pair .str YF2)
abbrev YF9:Ty:=(.pair (.int .i64)<|.pair (.int .i64)<|.pair .str<|.pair .str<|.pair (.slice .str)<|.pair .str<|.pair .str RC)
abbrev aiu:Ty:=(.pair .str<|.pair (.slice .str) YF2)
abbrev agA:Ty:=(.pair (.slice .str) .unit)
abbrev agB:Ty:=(.pair (.slice zc) .unit)
noncomputable def fJ:Nat->FF
 | 146=>fp [cz [(4,3),(8,3)],ah,ah]
 | 194=>fp [ah,cz [(2,37),(12,3)],ah,ah]
 | 275=>fp [ah]
 | 276=>fp [ah,ah,ah,ah]
 | 278=>fp [ah,ah,ah]
 | 347=>⟨[cy [(2,9),(3,37),(4,28),(11,3)] [4],ah,cy [(2,9),(3,37),(4,28)] [4],ah,ah],[4]⟩
 | 348=>fp [ah,ah,ah]
 | 352=>fp [ah,ah,ah,ah,ah]
 | 355=>fp [cy [(6,3),(13,3)] [2],ah,ah,ah,ah]
 | 356=>fp [ah]
 | 357=>fp [ah,ah,ah,ah,ah]
 | 406=>fp [cz [(2,4),(6,3)],ah,ah]
 | 408=>fp [cz [(4,3),(5,3)],ah,ah]
 | 409=>fp [cz [(9,254),(10,3)],ah,ah,cz [(4,3),(9,254),(11,3)],ah,ah]
 | 412=>fp [cy [(9,3),(10,3)] [1,2],ah,cz [(9,3),(10,3)]]
 | 442=>fp [ah]
 | 443=>fp [cz [(4,254),(5,3)],ah,cz [(6,254),(7,254),(8,3)],ah,cz [(6,254)]]
 | 485=>⟨[ah],[9]⟩
 | 488=>fp [ah,cy [(5,3),(6,3),(0,999999)] [0,1],ah,cy [(5,3),(0,999999)] [0]]
 | 489=>⟨[ah],[5]⟩
 | 491=>fp [ah,cz [(4,4),(13,3)],ah,ah]
 | 492=>fp [cy [(4,3),(8,3)] [1],ah,ah]
 | 502=>⟨[ah,ah,ah,ah],[55]⟩
 | _=>⟨[],[]⟩
def sO:List (Nat×List DH):=[(203,[.self,.buf (.int .u8) 5]),(326,[])]
def Up:List (Nat×Nat):=[(180,5)]
noncomputable def T4:List (Nat×Spc):=[(489,.clone zc),(503,(.own zc (.pair (.int .i64) agB) true bb))]
noncomputable def tys:List (Nat×Ty):=[(3,(.int .i64)),(4,.bool),(5,(.int .u8)),(9,.str),(21,(.int .i32)),(22,(.slice YF9)),(25,(.slice YF8)),(26,(.slice aiu)),(27,(.slice YF4)),(28,(.slice .str)),(29,(.slice<|.pair .str RC)),(31,(.pair (.slice YF8)<|.pair (.slice aiu)<|.pair (.slice YF4)<|.pair (.slice .str)<|.pair (.slice<|.pair .str RC) .unit)),(32,(.slice<|.pair (.int .i64)<|.pair .str<|.pair (.int .i64) Fl)),(37,(.int .i64)),(39,(.pair (.int .i64)<|.pair .str<|.pair (.int .i64) Fl)),(43,YF9),(48,(.slice<|.int .i64)),(66,(.pair (.int .i64)<|.pair (.slice YF4)<|.pair (.slice aiu)<|.pair (.slice YF8) .unit)),(67,(.slice<|.pair .str YF7)),(69,aiu),(72,YF8),(74,(.pair .str RC)),(85,YF4),(86,(.arr 4 .bool)),(96,(.slice zc)),(102,(.slice<|.pair .str agA)),(113,(.slice<|.pair (.int .i64) Fl)),(125,(.int .u64)),(139,(.arr 4<|.int .i64)),(156,(.pair .str YF7)),(161,(.slice<|.pair YF5 Fl)),(164,(.slice<|.alt 322 Fl<|.alt 324 Fl<|.alt 326 .unit<|.alt 328 (.pair zc .unit) .BH)),(169,(.pair .str agA)),(178,(.arr 32<|.int .u8)),(180,(.slice<|.int .u8)),(193,(.pair (.int .i64) Fl)),(197,zc),(200,(.arr 4 .str)),(233,YF5),(235,(.pair YF5 Fl)),(239,(.alt 322 Fl<|.alt 324 Fl<|.alt 326 .unit<|.alt 328 (.pair zc .unit) .BH)),(254,(.int .u32)),(255,(.arr 8<|.int .u32)),(257,(.pair .bool<|.pair (.arr 8<|.int .u32) .unit)),(258,(.arr 64<|.int .u8)),(260,(.pair (.pair .bool<|.pair (.arr 8<|.int .u32) .unit)<|.pair (.arr 64<|.int .u8) RC)),(295,(.int .i64)),(304,(.int .u64)),(307,(.arr 256 .bool)),(313,(.pair .bool<|.pair .str<|.pair (.int .i64)<|.pair .bool YF6)),(322,Fl),(324,Fl),(328,(.pair zc .unit)),(339,(.arr 8<|.int .u8)),(349,(.arr 64<|.int .u32)),(354,(.int .u64)),(380,(.pair (.int .i64) RC)),(381,(.arr 11<|.pair (.int .i64) RC)),(386,(.arr 2 .str)),(391,(.arr 256<|.int .u8)),(393,(.pair (.int .u8)<|.pair (.int .u8) .unit)),(394,(.arr 16<|.pair (.int .u8)<|.pair (.int .u8) .unit))]
noncomputable def AW:List (Nat×Func):=[(64,Tryz.f64),(146,Tryz.f146),(194,Tryz.f194),(234,Tryz.f234),(275,Tryz.f275),(276,Tryz.f276),(277,Tryz.f277),(278,Tryz.f278),(302,Tryz.f302),(347,Tryz.f347),(348,Tryz.f348),(352,Tryz.f352),(353,Tryz.f353),(354,Tryz.f354),(355,Tryz.f355),(356,Tryz.f356),(357,Tryz.f357),(358,Tryz.f358),(396,Tryz.f396),(406,Tryz.f406),(407,Tryz.f407),(408,Tryz.f408),(409,Tryz.f409),(412,Tryz.f412),(413,Tryz.f413),(442,Tryz.f442),(443,Tryz.f443),(484,Tryz.f484),(485,Tryz.f485),(486,Tryz.f486),(487,Tryz.f487),(488,Tryz.f488),(489,Tryz.f489),(490,Tryz.f490),(491,Tryz.f491),(492,Tryz.f492),(502,Tryz.f502)]
def rC:List Nat:=[99,120,122,131,140,141,151,160,173,187,194,198,199,201,218,230,242,245,246,268,273,277,311,337,358,369,371,375]
def zm:List Nat:=[201,230,273,311,337,358,371,375]
noncomputable def wF(b:List (Nat×BO))(a:List (Nat×BU))(c:List (String×BO):=[]):Ctx:=⟨tys,rC,zm,AW,b,a,sO,T4,Up,c⟩
def mix:Tryz.prog.follows .mixedOrders=true:=by kernel_rfl
def Zr:∀tid t,find tys tid=ab t->Den Tryz.prog t tid:=aeR (by kernel_rfl)
def G6:∀tid,dz rC tid=true->(∀w,(isAgg tid).run Tryz.prog w=.ok false w)/\(∀w,(Go.sizeOf tid).run Tryz.prog w=.ok 1 w)/\∃z,(∀w,(zeroValue tid).run Tryz.prog w=.ok z w)/\z.oneCell'=true:=aaa (by kernel_rfl)
def G7:∀tid,dz zm tid=true->∃e,Tryz.prog.underlying tid=ab (.pointer e):=aab (by kernel_rfl)
def Oh:∀f a,find AW f=ab a->Tryz.prog.funcs[f]?=ab a:=aeS ((ak Tryz.func64<|ak Tryz.func146<|ak Tryz.func194<|ak Tryz.func234<|ak Tryz.func275<|ak Tryz.func276<|ak Tryz.func277<|ak Tryz.func278<|ak Tryz.func302<|ak Tryz.func347<|ak Tryz.func348<|ak Tryz.func352<|ak Tryz.func353<|ak Tryz.func354<|ak Tryz.func355<|ak Tryz.func356<|ak Tryz.func357<|ak Tryz.func358<|ak Tryz.func396<|ak Tryz.func406<|ak Tryz.func407<|ak Tryz.func408<|ak Tryz.func409<|ak Tryz.func412<|ak Tryz.func413<|ak Tryz.func442<|ak Tryz.func443<|ak Tryz.func484<|ak Tryz.func485<|ak Tryz.func486<|ak Tryz.func487<|ak Tryz.func488<|ak Tryz.func489<|ak Tryz.func490<|ak Tryz.func491<|ak Tryz.func492<|ak Tryz.func502 aac))
def G8:∀tid a,find sO tid=ab a->LY Tryz.prog tid a=true:=aad (by kernel_rfl)
def Oi:∀tid e,find Up tid=ab e->Tryz.prog.underlying tid=ab (.slice e):=aeT (by kernel_rfl)
def Bt(b:List (Nat×BO))(a:List (Nat×BU))(c:List (String×BO):=[]):fX Tryz.prog (wF b a c):=⟨Zr,G6,G7,Oh,G8,Oi⟩
noncomputable def cx0:Ctx:=⟨tys,rC,zm,AW,[],[],sO,[],Up,[]⟩
def AX:fX Tryz.prog cx0:=⟨Zr,G6,G7,Oh,G8,Oi⟩
def ej:fv Tryz.prog 489 (.clone zc):=by
 refine rh (P:=Tryz.prog) (cx:=cx0) (bf:=[2,5]) (e:=zc) (tid:=96) (fn:=Tryz.f489) (s0:=λl=>((pW (λ_=>ah) [.data (.slice zc) l]).ch 2 { val:=.data (.slice zc) ([]:List (zc:Ty).den),tid:=0,buf:=true,ro:=false,lk:=false,aV:=0 }).put 2 (.whole 2 0)) mix AX (fK ar cW tW dZ) Tryz.func489 (by kernel_rfl)
  (by rfl) rfl aK aK rfl rfl rfl rfl rfl rfl (λl=>by rfl) (λl=>rfl) (λl=>rfl) (λl=>rfl) (λl=>by rfl) (λl a=>?_)
 have key:∀m:List (zc:Ty).den,fits (len m)=true->ao (fits<|plus (len ([]:List (zc:Ty).den))<|len m) (ab<|app [] m) ah=ab m:=by
  intro m c;have e:plus (len ([]:List (zc:Ty).den)) (len m)=len m:=by simp[plus,len]
  rw[e,c];rfl
 exact zk (b:=ao (fits<|plus (len ([]:List (zc:Ty).den))<|len (α:=(zc:Ty).den) l) (ab<|app (α:=(zc:Ty).den) [] l) ah) (by rfl) (key l a)
def dY:fv Tryz.prog 503 (.own zc (.pair (.int .i64) agB) true bb):=by
 have a:Den Tryz.prog zc 197:=by
  show fe Tryz.prog zc false 197 0 []=true
  kernel_rfl
 obtain⟨f,g,b,c,h,i⟩:=a.info;exact x9 (e:=zc) (ρ:=(⟨λx=>if x=29 then 504 else if x=30 then 505 else 503,λx=>if x=24 then 96 else if x=9 then 197 else if x=3 then 3 else if x=4 then 4 else 0,λx=>x⟩:Go.Shelf.Ren)) (nm := "slices.Insert[[]cooperage/api.TreeNode,cooperage/api.TreeNode]") ⟨mix,Tryz.func503.trans (congrArg ab<|by kernel_rfl),
  λd w=>run_callFunc_extern (e:=Extern.SlicesOverlaps.overlaps #[96,96] #[4]) Tryz.func504 (by kernel_rfl) (by kernel_rfl) (by kernel_rfl) (by kernel_rfl) d w,
  by kernel_rfl,by kernel_rfl,by kernel_rfl,λw=>by simp[Go.sizeOf,b,c]<;>kernel_rfl,by simp[b,c]<;>kernel_rfl⟩ aK a (by kernel_rfl) aK aK
def vw:∀p∈T4,fv Tryz.prog p.1 p.2:=(dU ej<|dU dY tW)
def G9(b:List (Nat×BO))(a:List (Nat×BU))(c:List (String×BO):=[]):QC (wF b a c):=Ve (cx:=wF b a c) (show(AW.all λp=>X2 p.2)=true by kernel_rfl)
def du:B4:=xW
def CN{b:List (Nat×BO)}{a:List (Nat×BU)}{c:List (String×BO)}(i:∀p∈b,Holds Tryz.prog du p.1 p.2)(e:∀p∈a,gm Tryz.prog du p.1 p.2)(j:∀p∈c,ma Tryz.prog du p.1 p.2){f:Nat}{l:Func}{A R:Ty}{d:A.den->Option R.den}(k:find AW f=ab l)(n:l.body.isSome=true)
  (o:∀x,sem (wF b a c) 12 fJ f A R x=d x):Holds Tryz.prog du f ⟨A,R,d⟩:=by
 obtain⟨m,g⟩:=Lq.1 n;exact Gj mix (Bt b a c) (fK i e vw j) (G9 b a c) (f:=f) k g (λx y h=>by rw[o];exact h)
def IK{b:List (Nat×BO)}{a:List (Nat×BU)}{c:List (String×BO)}(i:∀p∈b,Holds Tryz.prog du p.1 p.2)(e:∀p∈a,gm Tryz.prog du p.1 p.2)(j:∀p∈c,ma Tryz.prog du p.1 p.2){f:Nat}{l:Func}{m:List Bool}{A:Ty}{U:Ty}{R:Ty}{d:A.den×U.den->Option (R.den×U.den)}(k:find AW f=ab l)(o:l.body.isSome=true)
  (q:∀x,aed (wF b a c) 12 fJ f m A U R x=d x):gm Tryz.prog du f ⟨m,A,U,R,d⟩:=by
 obtain⟨n,g⟩:=Lq.1 o;exact D4 mix (Bt b a c) (fK i e vw j) (G9 b a c) (f:=f) k g (λx y h=>by rw[q];exact h)
def DB{d:List (Nat×BO)}{a:List (Nat×BU)}{e:List (String×BO)}(g:∀p∈d,Holds Tryz.prog du p.1 p.2)(c:∀p∈a,gm Tryz.prog du p.1 p.2)(h:∀p∈e,ma Tryz.prog du p.1 p.2)(j:Func){f:Nat}{A R:Ty}{b:A.den->Option R.den}(i:find AW f=ab j:=by rfl)(k:j.body.isSome=true:=by kernel_rfl)
 (l:∀x,sem (wF d a e) 12 fJ f A R x=b x:=by intro x;kernel_rfl):Holds Tryz.prog du f ⟨A,R,b⟩:=CN g c h i k l
def av{b:List (Nat×BO)}(c:∀p∈b,Holds Tryz.prog du p.1 p.2)(e:Func){f:Nat}{A R:Ty}{a:A.den->Option R.den}(d:find AW f=ab e:=by rfl)(g:e.body.isSome=true:=by kernel_rfl)
 (h:∀x,sem (wF b [] []) 12 fJ f A R x=a x:=by intro x;kernel_rfl):Holds Tryz.prog du f ⟨A,R,a⟩:=CN c cW dZ d g h
def sH{d:List (Nat×BO)}{a:List (Nat×BU)}{e:List (String×BO)}(g:∀p∈d,Holds Tryz.prog du p.1 p.2)(c:∀p∈a,gm Tryz.prog du p.1 p.2)(h:∀p∈e,ma Tryz.prog du p.1 p.2)(j:Func){f:Nat}{k:List Bool}{A:Ty}{U:Ty}{R:Ty}{b:A.den×U.den->Option (R.den×U.den)}(i:find AW f=ab j:=by rfl)(l:j.body.isSome=true:=by kernel_rfl)
 (m:∀x,aed (wF d a e) 12 fJ f k A U R x=b x:=by intro x;kernel_rfl):gm Tryz.prog du f ⟨k,A,U,R,b⟩:=IK g c h i l m
abbrev aB:=Holds Tryz.prog du
def vx:aB 146 ⟨(.pair (.slice .str) Fl),RC,fi⟩:=av ar Tryz.f146
def ew:aB 64 ⟨(.pair (.slice .str) Fl),YF6,bB⟩:=av (aj vx ar) Tryz.f64
def oK:aB 408 ⟨(.pair .str<|.pair (.int .u8) .unit),RC,di⟩:=av ar Tryz.f408
def pP:aB 443 ⟨Fl,(.pair (.int .u32)<|.pair (.int .u32) .unit),ir⟩:=av ar Tryz.f443
def lR:aB 409 ⟨YF7,RC,fy⟩:=av (aj pP ar) Tryz.f409
def DQ:aB 352 ⟨YF7,RC,pM⟩:=av (aj oK<|aj lR ar) Tryz.f352
def nx:aB 275 ⟨Fl,YF7,gy⟩:=av (aj DQ ar) Tryz.f275
def kj:aB 302 ⟨YF7,YF6,cw⟩:=av ar Tryz.f302
def pQ:aB 234 ⟨YF7,YF6,cE⟩:=av (aj kj ar) Tryz.f234
def CO:Holds Tryz.prog du 240 ⟨(.pair (.slice .str) Fl),Fl,lj⟩:=Yc Tryz.func240 (by kernel_rfl) (by kernel_rfl) Tryz.strings_Join_none Tryz.strings_Join
def KB:Holds Tryz.prog du 411 ⟨YF7,agA,vn⟩:=Vl Tryz.func411 (by kernel_rfl) (by kernel_rfl) (λs b w a=>Any.EV Tryz.aa0 (by kernel_rfl) s b w a)
def qj:aB 356 ⟨Fl,agA,fG⟩:=av (aj KB ar) Tryz.f356
def sI:Holds Tryz.prog du 410 ⟨(.pair .str<|.pair (.int .u8) .unit),RC,fM⟩:=SC (spec:=λs c=>Lib.indexByte s (show Int from c).toNat.toUInt8) Tryz.func410 (by kernel_rfl) (by kernel_rfl) (λs c=>Bk _ s) (λs c w=>by
 go_enter Tryz.func410,Tryz.ntmps410
 go_wp2
 rw[run_callFunc_extern Tryz.func444 (by kernel_rfl) (by kernel_rfl) (by kernel_rfl) (e:=Extern.BytealgIndexByte.indexByte)<|by kernel_rfl,Lib.run_indexByteString];simp only[Result.andThen];rw[Oper.upon_value]
 go_wp2
 go_ret
 exact⟨rfl,rfl⟩)
def la:aB 354 ⟨(.pair .str<|.pair (.int .u8) .unit),RC,dx⟩:=av (aj sI ar) Tryz.f354
def Oj:aB 406 ⟨Fl,YF6,r5⟩:=av (aj la ar) Tryz.f406
def Ek:aB 347 ⟨Fl,(.pair .str RC),p6⟩:=av (aj pQ<|aj CO<|aj qj<|aj Oj ar) Tryz.f347
def sJ:aB 442 ⟨YF7,(.pair .str YF6),fN⟩:=av (aj kj ar) Tryz.f442
def DR:aB 407 ⟨YF7,(.pair .str YF6),kM⟩:=av (aj sJ ar) Tryz.f407
def Ha:aB 348 ⟨Fl,(.pair (.int .i64) Fl),r8⟩:=av (aj ew<|aj pQ<|aj DR ar) Tryz.f348
def PO:aB 353 ⟨Fl,YF6,uj⟩:=av (aj nx<|aj Ek<|aj Ha ar) Tryz.f353
def RD:aB 276 ⟨(.pair zc .unit),YF6,zG⟩:=av (aj PO<|aj la ar) Tryz.f276
def Fm:aB 396 ⟨Fl,YF6,jg⟩:=av ar Tryz.f396
def CP:aB 357 ⟨YF7,RC,j7⟩:=av (aj Fm ar) Tryz.f357
def vy:aB 277 ⟨YF7,RC,hM⟩:=av (aj qj<|aj CP ar) Tryz.f277
def KC:aB 413 ⟨(.pair zc Fl),RC,mO⟩:=av (aj vy ar) Tryz.f413
def AY:aB 358 ⟨(.pair (.slice zc) Fl),(.pair (.int .i64) YF6),eM⟩:=av (aj KC ar) Tryz.f358
def Ol:aB 278 ⟨(.pair (.slice zc) Fl),RC,ow⟩:=av (aj AY ar) Tryz.f278
def kk:aB 194 ⟨agB,RC,eN⟩:=av (aj nx<|aj RD<|aj vy<|aj Ol ar) Tryz.f194
def vz:aB 491 ⟨(.pair (.slice .str) agA),YF6,fj⟩:=av ar Tryz.f491
def y6:aB 487 ⟨YF7,YF6,dF⟩:=av (aj qj<|aj vz ar) Tryz.f487
def ek:Holds Tryz.prog du 489 ⟨agB,agB,nC⟩:=by
 refine od (P:=Tryz.prog) (cx:=wF [] []) (bf:=[5]) (e:=zc) (tid:=96) (fn:=Tryz.f489) (s0:=λl=>(pW (λ_=>ah) [.data (.slice zc) l]).put 2 (.data (.slice zc) ([]:List (zc:Ty).den))) mix (Bt [] []) (fK ar cW vw dZ) Tryz.func489 (by kernel_rfl)
  (by rfl) rfl aK aK rfl rfl rfl rfl rfl rfl (λl=>by rfl) (λl=>rfl) (λl=>rfl) (λl=>rfl) (λl=>by rfl) (λl a=>?_)
 have key:∀m:List (zc:Ty).den,fits (len m)=true->ao (fits<|plus (len ([]:List (zc:Ty).den))<|len m) (ab ((app [] m,()):(Ty.pair (.slice zc) .unit).den)) ah=ab (m,()):=by
  intro m c;have e:plus (len ([]:List (zc:Ty).den)) (len m)=len m:=by simp[plus,len]
  rw[e,c];rfl
 exact zk (b:=ao (fits<|plus (len ([]:List (zc:Ty).den))<|len (α:=(zc:Ty).den) l) (ab ((app (α:=(zc:Ty).den) [] l,()):(Ty.pair (.slice zc) .unit).den)) ah) (by rfl) (key l a)
def Zs:aB 502 ⟨(.pair (.slice zc)<|.pair zc .unit),(.pair (.slice zc) RC),tp⟩:=av (aj kk<|aj nx<|aj RD<|aj Ol<|aj AY<|aj y6<|aj ek ar) Tryz.f502
end Go.Proofs.YtcebnmppipejfaaGreatDoor.First
