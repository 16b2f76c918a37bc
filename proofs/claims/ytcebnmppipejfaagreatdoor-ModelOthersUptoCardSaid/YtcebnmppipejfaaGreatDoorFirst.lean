import Derived.Test.YtcebnmppipejfaaGreatDoorRows
import Derived.Test.YtcebnmppipejfaaGreatDoorPlI
import Derived.Test.YtcebnmppipejfaaGreatDoorShelf
set_option linter.unusedVariables false
set_option linter.unusedSectionVars false
set_option linter.unusedSimpArgs false
set_option linter.defProp false
open Option renaming some->ab,none->ah
namespace Go.Proofs.YtcebnmppipejfaaGreatDoor.First
open Go Go.Ge
set_option maxRecDepth 100000
variable [Lp]
def cy(s:List (Nat×Nat))(m:List Nat):Option Lx:=ab ⟨s,m,false⟩
def cz(s:List (Nat×Nat)):Option Lx:=ab ⟨s,[],false⟩
def fp(a:List (Option Lx)):FA:=⟨a,[]⟩
abbrev y5:Ty:=(.pair .str<|.pair (.int .i64)<|.pair (.int .i64)<|.pair .str<|.pair .str .unit)
abbrev Fc:Ty:=(.pair .str .unit)
abbrev YF2:Ty:=(.pair .str<|.pair .str<|.pair (.slice<|.pair .str<|.pair .str Fc) .unit)
abbrev Rn:Ty:=(.pair (.int .i64) .unit)
abbrev YF4:Ty:=(.pair .str<|.pair .str<|.pair (.slice .str)<|.pair .str<|.pair (.int .i64)<|.pair (.int .i64)<|.pair .bool .unit)
abbrev YF5:Ty:=(.pair .str<|.pair (.int .i64)<|.pair (.int .i64)<|.pair (.int .i64)<|.pair (.int .i64)<|.pair (.int .i64)<|.pair (.int .i64) Fc)
abbrev YF6:Ty:=(.pair .bool .unit)
abbrev YF7:Ty:=(.pair .str Fc)
abbrev YF8:Ty:=(.pair .str<|.pair (.slice .str)<|.pair .str YF2)
abbrev YF9:Ty:=(.pair (.int .i64)<|.pair (.int .i64)<|.pair .str<|.pair .str<|.pair (.slice .str)<|.pair .str<|.pair .str Rn)
abbrev ah1:Ty:=(.pair .str<|.pair (.slice .str) YF2)
abbrev age:Ty:=(.pair (.slice .str) .unit)
abbrev agf:Ty:=(.pair (.slice y5) .unit)
noncomputable def fF:Nat->FA
 | 146=>fp [cz [(4,3),(8,3)],ah,ah]
 | 194=>fp [ah,cz [(2,37),(12,3)],ah,ah]
 | 275=>fp [ah]
 | 276=>fp [ah,ah,ah,ah]
 | 278=>fp [ah,ah,ah]
 | 347=>⟨[cy [(2,9),(3,37),(4,28),(11,3)] [4],ah,cy [(2,9),(3,37),(4,28)] [4],ah,ah],[4]⟩
 | 348=>fp [ah,ah,ah]
 | 352=>fp [ah,ah,ah,ah,ah]
 | 355=>fp [cy [(6,3),(13,3)] [2],ah,ah,ah,ah]
 | 356=>fp [ah]
 | 357=>fp [ah,ah,ah,ah,ah]
 | 406=>fp [cz [(2,4),(6,3)],ah,ah]
 | 408=>fp [cz [(4,3),(5,3)],ah,ah]
 | 409=>fp [cz [(9,254),(10,3)],ah,ah,cz [(4,3),(9,254),(11,3)],ah,ah]
 | 412=>fp [cy [(9,3),(10,3)] [1,2],ah,cz [(9,3),(10,3)]]
 | 442=>fp [ah]
 | 443=>fp [cz [(4,254),(5,3)],ah,cz [(6,254),(7,254),(8,3)],ah,cz [(6,254)]]
 | 485=>⟨[ah],[9]⟩
 | 488=>fp [ah,cy [(5,3),(6,3),(0,999999)] [0,1],ah,cy [(5,3),(0,999999)] [0]]
 | 489=>⟨[ah],[5]⟩
 | 491=>fp [ah,cz [(4,4),(13,3)],ah,ah]
 | 492=>fp [cy [(4,3),(8,3)] [1],ah,ah]
 | 502=>⟨[ah,ah,ah,ah],[55]⟩
 | _=>⟨[],[]⟩
def sG:List (Nat×List Dt):=[(203,[.self,.buf (.int .u8) 5]),(326,[])]
def T8:List (Nat×Nat):=[(180,5)]
noncomputable def TL:List (Nat×Spc):=[(489,.clone y5),(503,(.own y5 (.pair (.int .i64) agf) true aZ))]
noncomputable def tys:List (Nat×Ty):=[(3,(.int .i64)),(4,.bool),(5,(.int .u8)),(9,.str),(21,(.int .i32)),(22,(.slice YF9)),(25,(.slice YF8)),(26,(.slice ah1)),(27,(.slice YF4)),(28,(.slice .str)),(29,(.slice<|.pair .str Rn)),(31,(.pair (.slice YF8)<|.pair (.slice ah1)<|.pair (.slice YF4)<|.pair (.slice .str)<|.pair (.slice<|.pair .str Rn) .unit)),(32,(.slice<|.pair (.int .i64)<|.pair .str<|.pair (.int .i64) Fc)),(37,(.int .i64)),(39,(.pair (.int .i64)<|.pair .str<|.pair (.int .i64) Fc)),(43,YF9),(48,(.slice<|.int .i64)),(66,(.pair (.int .i64)<|.pair (.slice YF4)<|.pair (.slice ah1)<|.pair (.slice YF8) .unit)),(67,(.slice<|.pair .str YF7)),(69,ah1),(72,YF8),(74,(.pair .str Rn)),(85,YF4),(86,(.arr 4 .bool)),(96,(.slice y5)),(102,(.slice<|.pair .str age)),(113,(.slice<|.pair (.int .i64) Fc)),(125,(.int .u64)),(139,(.arr 4<|.int .i64)),(156,(.pair .str YF7)),(161,(.slice<|.pair YF5 Fc)),(164,(.slice<|.alt 322 Fc<|.alt 324 Fc<|.alt 326 .unit<|.alt 328 (.pair y5 .unit) .Bz)),(169,(.pair .str age)),(178,(.arr 32<|.int .u8)),(180,(.slice<|.int .u8)),(193,(.pair (.int .i64) Fc)),(197,y5),(200,(.arr 4 .str)),(233,YF5),(235,(.pair YF5 Fc)),(239,(.alt 322 Fc<|.alt 324 Fc<|.alt 326 .unit<|.alt 328 (.pair y5 .unit) .Bz)),(254,(.int .u32)),(255,(.arr 8<|.int .u32)),(257,(.pair .bool<|.pair (.arr 8<|.int .u32) .unit)),(258,(.arr 64<|.int .u8)),(260,(.pair (.pair .bool<|.pair (.arr 8<|.int .u32) .unit)<|.pair (.arr 64<|.int .u8) Rn)),(295,(.int .i64)),(304,(.int .u64)),(307,(.arr 256 .bool)),(313,(.pair .bool<|.pair .str<|.pair (.int .i64)<|.pair .bool YF6)),(322,Fc),(324,Fc),(328,(.pair y5 .unit)),(339,(.arr 8<|.int .u8)),(349,(.arr 64<|.int .u32)),(354,(.int .u64)),(380,(.pair (.int .i64) Rn)),(381,(.arr 11<|.pair (.int .i64) Rn)),(386,(.arr 2 .str)),(391,(.arr 256<|.int .u8)),(393,(.pair (.int .u8)<|.pair (.int .u8) .unit)),(394,(.arr 16<|.pair (.int .u8)<|.pair (.int .u8) .unit))]
noncomputable def AJ:List (Nat×Func):=[(64,Tryz.f64),(146,Tryz.f146),(194,Tryz.f194),(234,Tryz.f234),(275,Tryz.f275),(276,Tryz.f276),(277,Tryz.f277),(278,Tryz.f278),(302,Tryz.f302),(347,Tryz.f347),(348,Tryz.f348),(352,Tryz.f352),(353,Tryz.f353),(354,Tryz.f354),(355,Tryz.f355),(356,Tryz.f356),(357,Tryz.f357),(358,Tryz.f358),(396,Tryz.f396),(406,Tryz.f406),(407,Tryz.f407),(408,Tryz.f408),(409,Tryz.f409),(412,Tryz.f412),(413,Tryz.f413),(442,Tryz.f442),(443,Tryz.f443),(484,Tryz.f484),(485,Tryz.f485),(486,Tryz.f486),(487,Tryz.f487),(488,Tryz.f488),(489,Tryz.f489),(490,Tryz.f490),(491,Tryz.f491),(492,Tryz.f492),(502,Tryz.f502)]
def rv:List Nat:=[99,120,122,131,140,141,151,160,173,187,194,198,199,201,218,230,242,245,246,268,273,277,311,337,358,369,371,375]
def zc:List Nat:=[201,230,273,311,337,358,371,375]
noncomputable def wy(b:List (Nat×BG))(a:List (Nat×BK))(c:List (String×BG):=[]):Ctx:=⟨tys,rv,zc,AJ,b,a,sG,TL,T8,c⟩
def mix:Tryz.prog.follows .mixedOrders=true:=by kernel_rfl
def Wy:∀tid t,find tys tid=ab t->Den Tryz.prog t tid:=aey (by kernel_rfl)
def GZ:∀tid,dA rv tid=true->(∀w,(isAgg tid).run Tryz.prog w=.ok false w)/\(∀w,(Go.sizeOf tid).run Tryz.prog w=.ok 1 w)/\∃z,(∀w,(zeroValue tid).run Tryz.prog w=.ok z w)/\z.oneCell'=true:=ZU (by kernel_rfl)
def G0:∀tid,dA zc tid=true->∃e,Tryz.prog.underlying tid=ab (.pointer e):=ZV (by kernel_rfl)
def N0:∀f a,find AJ f=ab a->Tryz.prog.funcs[f]?=ab a:=aez ((ak Tryz.func64<|ak Tryz.func146<|ak Tryz.func194<|ak Tryz.func234<|ak Tryz.func275<|ak Tryz.func276<|ak Tryz.func277<|ak Tryz.func278<|ak Tryz.func302<|ak Tryz.func347<|ak Tryz.func348<|ak Tryz.func352<|ak Tryz.func353<|ak Tryz.func354<|ak Tryz.func355<|ak Tryz.func356<|ak Tryz.func357<|ak Tryz.func358<|ak Tryz.func396<|ak Tryz.func406<|ak Tryz.func407<|ak Tryz.func408<|ak Tryz.func409<|ak Tryz.func412<|ak Tryz.func413<|ak Tryz.func442<|ak Tryz.func443<|ak Tryz.func484<|ak Tryz.func485<|ak Tryz.func486<|ak Tryz.func487<|ak Tryz.func488<|ak Tryz.func489<|ak Tryz.func490<|ak Tryz.func491<|ak Tryz.func492<|ak Tryz.func502 ZW))
def G1:∀tid a,find sG tid=ab a->LG Tryz.prog tid a=true:=ZX (by kernel_rfl)
def N1:∀tid e,find T8 tid=ab e->Tryz.prog.underlying tid=ab (.slice e):=aeA (by kernel_rfl)
def Bk(b:List (Nat×BG))(a:List (Nat×BK))(c:List (String×BG):=[]):fS Tryz.prog (wy b a c):=⟨Wy,GZ,G0,N0,G1,N1⟩
noncomputable def cx0:Ctx:=⟨tys,rv,zc,AJ,[],[],sG,[],T8,[]⟩
def AK:fS Tryz.prog cx0:=⟨Wy,GZ,G0,N0,G1,N1⟩
def eh:fk Tryz.prog 489 (.clone y5):=by
 refine ra (P:=Tryz.prog) (cx:=cx0) (bf:=[2,5]) (e:=y5) (tid:=96) (fn:=Tryz.f489) (s0:=λl=>((pS (λ_=>ah) [.data (.slice y5) l]).cg 2 { val:=.data (.slice y5) ([]:List (y5:Ty).den),tid:=0,buf:=true,ro:=false,lk:=false,aU:=0 }).put 2 (.whole 2 0)) mix AK (fG ar cW tL dZ) Tryz.func489 (by kernel_rfl)
  (by rfl) rfl aK aK rfl rfl rfl rfl rfl rfl (λl=>by rfl) (λl=>rfl) (λl=>rfl) (λl=>rfl) (λl=>by rfl) (λl a=>?_)
 have key:∀m:List (y5:Ty).den,fits (len m)=true->ao (fits<|plus (len ([]:List (y5:Ty).den))<|len m) (ab<|app [] m) ah=ab m:=by
  intro m c;have e:plus (len ([]:List (y5:Ty).den)) (len m)=len m:=by simp[plus,len]
  rw[e,c];rfl
 exact za (b:=ao (fits<|plus (len ([]:List (y5:Ty).den))<|len (α:=(y5:Ty).den) l) (ab<|app (α:=(y5:Ty).den) [] l) ah) (by rfl) (key l a)
def dY:fk Tryz.prog 503 (.own y5 (.pair (.int .i64) agf) true aZ):=by
 have a:Den Tryz.prog y5 197:=by
  show e7 Tryz.prog y5 false 197 0 []=true
  kernel_rfl
 obtain⟨f,g,b,c,h,i⟩:=a.info;exact x4 (e:=y5) (ρ:=(⟨λx=>if x=29 then 504 else if x=30 then 505 else 503,λx=>if x=24 then 96 else if x=9 then 197 else if x=3 then 3 else if x=4 then 4 else 0,λx=>x⟩:Go.Shelf.Ren)) (nm := "slices.Insert[[]cooperage/api.TreeNode,cooperage/api.TreeNode]") ⟨mix,Tryz.func503.trans (congrArg ab<|by kernel_rfl),
  λd w=>run_callFunc_extern (e:=Extern.SlicesOverlaps.overlaps #[96,96] #[4]) Tryz.func504 (by kernel_rfl) (by kernel_rfl) (by kernel_rfl) (by kernel_rfl) d w,
  by kernel_rfl,by kernel_rfl,by kernel_rfl,λw=>by simp[Go.sizeOf,b,c]<;>kernel_rfl,by simp[b,c]<;>kernel_rfl⟩ aK a (by kernel_rfl) aK aK
def vp:∀p∈TL,fk Tryz.prog p.1 p.2:=(dT eh<|dT dY tL)
def G2(b:List (Nat×BG))(a:List (Nat×BK))(c:List (String×BG):=[]):Qm (wy b a c):=UX (cx:=wy b a c) (show(AJ.all λp=>XO p.2)=true by kernel_rfl)
def dv:BT:=xR
def CF{b:List (Nat×BG)}{a:List (Nat×BK)}{c:List (String×BG)}(i:∀p∈b,Holds Tryz.prog dv p.1 p.2)(e:∀p∈a,gh Tryz.prog dv p.1 p.2)(j:∀p∈c,l6 Tryz.prog dv p.1 p.2){f:Nat}{l:Func}{A R:Ty}{d:A.den->Option R.den}(k:find AJ f=ab l)(n:l.body.isSome=true)
  (o:∀x,sem (wy b a c) 12 fF f A R x=d x):Holds Tryz.prog dv f ⟨A,R,d⟩:=by
 obtain⟨m,g⟩:=La.1 n;exact Gc mix (Bk b a c) (fG i e vp j) (G2 b a c) (f:=f) k g (λx y h=>by rw[o];exact h)
def IA{b:List (Nat×BG)}{a:List (Nat×BK)}{c:List (String×BG)}(i:∀p∈b,Holds Tryz.prog dv p.1 p.2)(e:∀p∈a,gh Tryz.prog dv p.1 p.2)(j:∀p∈c,l6 Tryz.prog dv p.1 p.2){f:Nat}{l:Func}{m:List Bool}{A:Ty}{U:Ty}{R:Ty}{d:A.den×U.den->Option (R.den×U.den)}(k:find AJ f=ab l)(o:l.body.isSome=true)
  (q:∀x,adU (wy b a c) 12 fF f m A U R x=d x):gh Tryz.prog dv f ⟨m,A,U,R,d⟩:=by
 obtain⟨n,g⟩:=La.1 o;exact DQ mix (Bk b a c) (fG i e vp j) (G2 b a c) (f:=f) k g (λx y h=>by rw[q];exact h)
def Dq{d:List (Nat×BG)}{a:List (Nat×BK)}{e:List (String×BG)}(g:∀p∈d,Holds Tryz.prog dv p.1 p.2)(c:∀p∈a,gh Tryz.prog dv p.1 p.2)(h:∀p∈e,l6 Tryz.prog dv p.1 p.2)(j:Func){f:Nat}{A R:Ty}{b:A.den->Option R.den}(i:find AJ f=ab j:=by rfl)(k:j.body.isSome=true:=by kernel_rfl)
 (l:∀x,sem (wy d a e) 12 fF f A R x=b x:=by intro x;kernel_rfl):Holds Tryz.prog dv f ⟨A,R,b⟩:=CF g c h i k l
def av{b:List (Nat×BG)}(c:∀p∈b,Holds Tryz.prog dv p.1 p.2)(e:Func){f:Nat}{A R:Ty}{a:A.den->Option R.den}(d:find AJ f=ab e:=by rfl)(g:e.body.isSome=true:=by kernel_rfl)
 (h:∀x,sem (wy b [] []) 12 fF f A R x=a x:=by intro x;kernel_rfl):Holds Tryz.prog dv f ⟨A,R,a⟩:=CF c cW dZ d g h
def sz{d:List (Nat×BG)}{a:List (Nat×BK)}{e:List (String×BG)}(g:∀p∈d,Holds Tryz.prog dv p.1 p.2)(c:∀p∈a,gh Tryz.prog dv p.1 p.2)(h:∀p∈e,l6 Tryz.prog dv p.1 p.2)(j:Func){f:Nat}{k:List Bool}{A:Ty}{U:Ty}{R:Ty}{b:A.den×U.den->Option (R.den×U.den)}(i:find AJ f=ab j:=by rfl)(l:j.body.isSome=true:=by kernel_rfl)
 (m:∀x,adU (wy d a e) 12 fF f k A U R x=b x:=by intro x;kernel_rfl):gh Tryz.prog dv f ⟨k,A,U,R,b⟩:=IA g c h i l m
abbrev aB:=Holds Tryz.prog dv
def vq:aB 146 ⟨(.pair (.slice .str) Fc),Rn,fb⟩:=av ar Tryz.f146
def eu:aB 64 ⟨(.pair (.slice .str) Fc),YF6,bB⟩:=av (aj vq ar) Tryz.f64
def oF:aB 408 ⟨(.pair .str<|.pair (.int .u8) .unit),Rn,dk⟩:=av ar Tryz.f408
def pN:aB 443 ⟨Fc,(.pair (.int .u32)<|.pair (.int .u32) .unit),hY⟩:=av ar Tryz.f443
def lO:aB 409 ⟨YF7,Rn,fq⟩:=av (aj pN ar) Tryz.f409
def DC:aB 352 ⟨YF7,Rn,pK⟩:=av (aj oF<|aj lO ar) Tryz.f352
def np:aB 275 ⟨Fc,YF7,gr⟩:=av (aj DC ar) Tryz.f275
def kg:aB 302 ⟨YF7,YF6,cA⟩:=av ar Tryz.f302
def pO:aB 234 ⟨YF7,YF6,cE⟩:=av (aj kg ar) Tryz.f234
def CG:Holds Tryz.prog dv 240 ⟨(.pair (.slice .str) Fc),Fc,lf⟩:=XY Tryz.func240 (by kernel_rfl) (by kernel_rfl) Tryz.strings_Join_none Tryz.strings_Join
def Ko:Holds Tryz.prog dv 411 ⟨YF7,age,vg⟩:=U4 Tryz.func411 (by kernel_rfl) (by kernel_rfl) (λs b w a=>Any.EJ Tryz.aaM (by kernel_rfl) s b w a)
def qe:aB 356 ⟨Fc,age,fC⟩:=av (aj Ko ar) Tryz.f356
def sA:Holds Tryz.prog dv 410 ⟨(.pair .str<|.pair (.int .u8) .unit),Rn,fI⟩:=Si (spec:=λs c=>Lib.indexByte s (show Int from c).toNat.toUInt8) Tryz.func410 (by kernel_rfl) (by kernel_rfl) (λs c=>A9 _ s) (λs c w=>by
 go_enter Tryz.func410,Tryz.ntmps410
 go_wp2
 rw[run_callFunc_extern Tryz.func444 (by kernel_rfl) (by kernel_rfl) (by kernel_rfl) (e:=Extern.BytealgIndexByte.indexByte)<|by kernel_rfl,Lib.run_indexByteString];simp only[Result.andThen];rw[Oper.upon_value]
 go_wp2
 go_ret
 exact⟨rfl,rfl⟩)
def kZ:aB 354 ⟨(.pair .str<|.pair (.int .u8) .unit),Rn,dy⟩:=av (aj sA ar) Tryz.f354
def N2:aB 406 ⟨Fc,YF6,rX⟩:=av (aj kZ ar) Tryz.f406
def D6:aB 347 ⟨Fc,(.pair .str Rn),pY⟩:=av (aj pO<|aj CG<|aj qe<|aj N2 ar) Tryz.f347
def sB:aB 442 ⟨YF7,(.pair .str YF6),fJ⟩:=av (aj kg ar) Tryz.f442
def DD:aB 407 ⟨YF7,(.pair .str YF6),kL⟩:=av (aj sB ar) Tryz.f407
def G3:aB 348 ⟨Fc,(.pair (.int .i64) Fc),rY⟩:=av (aj eu<|aj pO<|aj DD ar) Tryz.f348
def Pw:aB 353 ⟨Fc,YF6,tX⟩:=av (aj np<|aj D6<|aj G3 ar) Tryz.f353
def Ro:aB 276 ⟨(.pair y5 .unit),YF6,zx⟩:=av (aj Pw<|aj kZ ar) Tryz.f276
def Fe:aB 396 ⟨Fc,YF6,iZ⟩:=av ar Tryz.f396
def CH:aB 357 ⟨YF7,Rn,jZ⟩:=av (aj Fe ar) Tryz.f357
def vr:aB 277 ⟨YF7,Rn,ha⟩:=av (aj qe<|aj CH ar) Tryz.f277
def Kp:aB 413 ⟨(.pair y5 Fc),Rn,mK⟩:=av (aj vr ar) Tryz.f413
def AL:aB 358 ⟨(.pair (.slice y5) Fc),(.pair (.int .i64) YF6),eH⟩:=av (aj Kp ar) Tryz.f358
def N3:aB 278 ⟨(.pair (.slice y5) Fc),Rn,om⟩:=av (aj AL ar) Tryz.f278
def kh:aB 194 ⟨agf,Rn,eI⟩:=av (aj np<|aj Ro<|aj vr<|aj N3 ar) Tryz.f194
def vt:aB 491 ⟨(.pair (.slice .str) age),YF6,fc⟩:=av ar Tryz.f491
def yW:aB 487 ⟨YF7,YF6,dE⟩:=av (aj qe<|aj vt ar) Tryz.f487
def ej:Holds Tryz.prog dv 489 ⟨agf,agf,nw⟩:=by
 refine n6 (P:=Tryz.prog) (cx:=wy [] []) (bf:=[5]) (e:=y5) (tid:=96) (fn:=Tryz.f489) (s0:=λl=>(pS (λ_=>ah) [.data (.slice y5) l]).put 2 (.data (.slice y5) ([]:List (y5:Ty).den))) mix (Bk [] []) (fG ar cW vp dZ) Tryz.func489 (by kernel_rfl)
  (by rfl) rfl aK aK rfl rfl rfl rfl rfl rfl (λl=>by rfl) (λl=>rfl) (λl=>rfl) (λl=>rfl) (λl=>by rfl) (λl a=>?_)
 have key:∀m:List (y5:Ty).den,fits (len m)=true->ao (fits<|plus (len ([]:List (y5:Ty).den))<|len m) (ab ((app [] m,()):(Ty.pair (.slice y5) .unit).den)) ah=ab (m,()):=by
  intro m c;have e:plus (len ([]:List (y5:Ty).den)) (len m)=len m:=by simp[plus,len]
  rw[e,c];rfl
 exact za (b:=ao (fits<|plus (len ([]:List (y5:Ty).den))<|len (α:=(y5:Ty).den) l) (ab ((app (α:=(y5:Ty).den) [] l,()):(Ty.pair (.slice y5) .unit).den)) ah) (by rfl) (key l a)
def Zd:aB 502 ⟨(.pair (.slice y5)<|.pair y5 .unit),(.pair (.slice y5) Rn),tf⟩:=av (aj kh<|aj np<|aj Ro<|aj N3<|aj AL<|aj yW<|aj ej ar) Tryz.f502
end Go.Proofs.YtcebnmppipejfaaGreatDoor.First
