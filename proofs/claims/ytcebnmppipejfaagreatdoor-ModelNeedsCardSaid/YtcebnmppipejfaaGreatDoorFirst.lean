import Derived.Test.YtcebnmppipejfaaGreatDoorRows
import Derived.Test.YtcebnmppipejfaaGreatDoorPlH
import Derived.Test.YtcebnmppipejfaaGreatDoorShelf
set_option linter.unusedVariables false
set_option linter.unusedSectionVars false
set_option linter.unusedSimpArgs false
namespace Go.Proofs.YtcebnmppipejfaaGreatDoor.First
open Go Go.Ge
set_option maxRecDepth 100000
variable [Lp]
def cy(s:List (Nat×Nat))(m:List Nat):Option D9:=some ⟨s,m,false⟩
def cz(s:List (Nat×Nat)):Option D9:=some ⟨s,[],false⟩
def fp(a:List (Option D9)):sT:=⟨a,[]⟩
abbrev wV:Ty:=(.pair .str<|.pair (.int .i64)<|.pair (.int .i64)<|.pair .str<|.pair .str .unit)
abbrev DP:Ty:=(.pair .str .unit)
abbrev YF2:Ty:=(.pair .str<|.pair .str<|.pair (.slice<|.pair .str<|.pair .str DP) .unit)
abbrev Qe:Ty:=(.pair (.int .i64) .unit)
abbrev YF4:Ty:=(.pair .str<|.pair .str<|.pair (.slice .str)<|.pair .str<|.pair (.int .i64)<|.pair (.int .i64)<|.pair .bool .unit)
abbrev YF5:Ty:=(.pair .str<|.pair (.int .i64)<|.pair (.int .i64)<|.pair (.int .i64)<|.pair (.int .i64)<|.pair (.int .i64)<|.pair (.int .i64) DP)
abbrev YF6:Ty:=(.pair .bool .unit)
abbrev YF7:Ty:=(.pair .str DP)
abbrev YF8:Ty:=(.pair .str<|.pair (.slice .str)<|.pair .str YF2)
abbrev YF9:Ty:=(.pair (.int .i64)<|.pair (.int .i64)<|.pair .str<|.pair .str<|.pair (.slice .str)<|.pair .str<|.pair .str Qe)
abbrev afk:Ty:=(.pair .str<|.pair (.slice .str) YF2)
abbrev adN:Ty:=(.pair (.slice .str) .unit)
abbrev adO:Ty:=(.pair (.slice wV) .unit)
noncomputable def oR:Nat->sT
 | 146=>fp [cz [(4,3),(8,3)],none,none]
 | 194=>fp [none,cz [(2,37),(12,3)],none,none]
 | 275=>fp [none]
 | 276=>fp [none,none,none,none]
 | 278=>fp [none,none,none]
 | 347=>⟨[cy [(2,9),(3,37),(4,28),(11,3)] [4],none,cy [(2,9),(3,37),(4,28)] [4],none,none],[4]⟩
 | 348=>fp [none,none,none]
 | 352=>fp [none,none,none,none,none]
 | 355=>fp [cy [(6,3),(13,3)] [2],none,none,none,none]
 | 356=>fp [none]
 | 357=>fp [none,none,none,none,none]
 | 406=>fp [cz [(2,4),(6,3)],none,none]
 | 408=>fp [cz [(4,3),(5,3)],none,none]
 | 409=>fp [cz [(9,254),(10,3)],none,none,cz [(4,3),(9,254),(11,3)],none,none]
 | 412=>fp [cy [(9,3),(10,3)] [1,2],none,cz [(9,3),(10,3)]]
 | 442=>fp [none]
 | 443=>fp [cz [(4,254),(5,3)],none,cz [(6,254),(7,254),(8,3)],none,cz [(6,254)]]
 | 485=>⟨[none],[9]⟩
 | 488=>fp [none,cy [(5,3),(6,3),(0,999999)] [0,1],none,cy [(5,3),(0,999999)] [0]]
 | 489=>⟨[none],[5]⟩
 | 491=>fp [none,cz [(4,4),(13,3)],none,none]
 | 492=>fp [cy [(4,3),(8,3)] [1],none,none]
 | 502=>⟨[none,none,none,none],[55]⟩
 | _=>⟨[],[]⟩
def sx:List (Nat×List mR):=[(203,[.self,.buf (.int .u8) 5]),(326,[])]
def XW:List (Nat×Nat):=[(180,5)]
noncomputable def Nn:List (Nat×Y2):=[(489,.clone wV),(503,(.own wV (.pair (.int .i64) adO) true aZ))]
noncomputable def tys:List (Nat×Ty):=[(3,(.int .i64)),(4,.bool),(5,(.int .u8)),(9,.str),(21,(.int .i32)),(22,(.slice YF9)),(25,(.slice YF8)),(26,(.slice afk)),(27,(.slice YF4)),(28,(.slice .str)),(29,(.slice<|.pair .str Qe)),(31,(.pair (.slice YF8)<|.pair (.slice afk)<|.pair (.slice YF4)<|.pair (.slice .str)<|.pair (.slice<|.pair .str Qe) .unit)),(32,(.slice<|.pair (.int .i64)<|.pair .str<|.pair (.int .i64) DP)),(37,(.int .i64)),(39,(.pair (.int .i64)<|.pair .str<|.pair (.int .i64) DP)),(43,YF9),(48,(.slice<|.int .i64)),(66,(.pair (.int .i64)<|.pair (.slice YF4)<|.pair (.slice afk)<|.pair (.slice YF8) .unit)),(67,(.slice<|.pair .str YF7)),(69,afk),(72,YF8),(74,(.pair .str Qe)),(85,YF4),(86,(.arr 4 .bool)),(96,(.slice wV)),(102,(.slice<|.pair .str adN)),(113,(.slice<|.pair (.int .i64) DP)),(125,(.int .u64)),(139,(.arr 4<|.int .i64)),(156,(.pair .str YF7)),(161,(.slice<|.pair YF5 DP)),(164,(.slice<|.alt 322 DP<|.alt 324 DP<|.alt 326 .unit<|.alt 328 (.pair wV .unit) .zH)),(169,(.pair .str adN)),(178,(.arr 32<|.int .u8)),(180,(.slice<|.int .u8)),(193,(.pair (.int .i64) DP)),(197,wV),(200,(.arr 4 .str)),(233,YF5),(235,(.pair YF5 DP)),(239,(.alt 322 DP<|.alt 324 DP<|.alt 326 .unit<|.alt 328 (.pair wV .unit) .zH)),(254,(.int .u32)),(255,(.arr 8<|.int .u32)),(257,(.pair .bool<|.pair (.arr 8<|.int .u32) .unit)),(258,(.arr 64<|.int .u8)),(260,(.pair (.pair .bool<|.pair (.arr 8<|.int .u32) .unit)<|.pair (.arr 64<|.int .u8) Qe)),(295,(.int .i64)),(304,(.int .u64)),(307,(.arr 256 .bool)),(313,(.pair .bool<|.pair .str<|.pair (.int .i64)<|.pair .bool YF6)),(322,DP),(324,DP),(328,(.pair wV .unit)),(339,(.arr 8<|.int .u8)),(349,(.arr 64<|.int .u32)),(354,(.int .u64)),(380,(.pair (.int .i64) Qe)),(381,(.arr 11<|.pair (.int .i64) Qe)),(386,(.arr 2 .str)),(391,(.arr 256<|.int .u8)),(393,(.pair (.int .u8)<|.pair (.int .u8) .unit)),(394,(.arr 16<|.pair (.int .u8)<|.pair (.int .u8) .unit))]
noncomputable def yM:List (Nat×Func):=[(64,Tryz.f64),(146,Tryz.f146),(194,Tryz.f194),(234,Tryz.f234),(275,Tryz.f275),(276,Tryz.f276),(277,Tryz.f277),(278,Tryz.f278),(302,Tryz.f302),(347,Tryz.f347),(348,Tryz.f348),(352,Tryz.f352),(353,Tryz.f353),(354,Tryz.f354),(355,Tryz.f355),(356,Tryz.f356),(357,Tryz.f357),(358,Tryz.f358),(396,Tryz.f396),(406,Tryz.f406),(407,Tryz.f407),(408,Tryz.f408),(409,Tryz.f409),(412,Tryz.f412),(413,Tryz.f413),(442,Tryz.f442),(443,Tryz.f443),(484,Tryz.f484),(485,Tryz.f485),(486,Tryz.f486),(487,Tryz.f487),(488,Tryz.f488),(489,Tryz.f489),(490,Tryz.f490),(491,Tryz.f491),(492,Tryz.f492),(502,Tryz.f502)]
def qx:List Nat:=[99,120,122,131,140,141,151,160,173,187,194,198,199,201,218,230,242,245,246,268,273,277,311,337,358,369,371,375]
def kT:List Nat:=[201,230,273,311,337,358,371,375]
noncomputable def tP(b:List (Nat×x4))(a:List (Nat×xd))(c:List (String×x4):=[]):Ctx:=⟨tys,qx,kT,yM,b,a,sx,Nn,XW,c⟩
theorem mix:Tryz.prog.follows .mixedOrders=true:=by kernel_rfl
theorem U3:∀tid t,find tys tid=some t->Den Tryz.prog t tid:=acv (by kernel_rfl)
theorem Fy:∀tid,cK qx tid=true->(∀w,(isAgg tid).run Tryz.prog w=.ok false w)/\(∀w,(Go.sizeOf tid).run Tryz.prog w=.ok 1 w)/\∃z,(∀w,(zeroValue tid).run Tryz.prog w=.ok z w)/\z.oneCell'=true:=Yd (by kernel_rfl)
theorem Fz:∀tid,cK kT tid=true->∃e,Tryz.prog.underlying tid=some (.pointer e):=Ye (by kernel_rfl)
theorem ML:∀f a,find yM f=some a->Tryz.prog.funcs[f]?=some a:=acw ((ah Tryz.func64<|ah Tryz.func146<|ah Tryz.func194<|ah Tryz.func234<|ah Tryz.func275<|ah Tryz.func276<|ah Tryz.func277<|ah Tryz.func278<|ah Tryz.func302<|ah Tryz.func347<|ah Tryz.func348<|ah Tryz.func352<|ah Tryz.func353<|ah Tryz.func354<|ah Tryz.func355<|ah Tryz.func356<|ah Tryz.func357<|ah Tryz.func358<|ah Tryz.func396<|ah Tryz.func406<|ah Tryz.func407<|ah Tryz.func408<|ah Tryz.func409<|ah Tryz.func412<|ah Tryz.func413<|ah Tryz.func442<|ah Tryz.func443<|ah Tryz.func484<|ah Tryz.func485<|ah Tryz.func486<|ah Tryz.func487<|ah Tryz.func488<|ah Tryz.func489<|ah Tryz.func490<|ah Tryz.func491<|ah Tryz.func492<|ah Tryz.func502 Yf))
theorem FA:∀tid a,find sx tid=some a->KH Tryz.prog tid a=true:=Yg (by kernel_rfl)
theorem MM:∀tid e,find XW tid=some e->Tryz.prog.underlying tid=some (.slice e):=acx (by kernel_rfl)
theorem zy(b:List (Nat×x4))(a:List (Nat×xd))(c:List (String×x4):=[]):eS Tryz.prog (tP b a c):=⟨U3,Fy,Fz,ML,FA,MM⟩
noncomputable def cx0:Ctx:=⟨tys,qx,kT,yM,[],[],sx,[],XW,[]⟩
theorem yN:eS Tryz.prog cx0:=⟨U3,Fy,Fz,ML,FA,MM⟩
theorem dD:eF Tryz.prog 489 (.clone wV):=by
 refine oW (P:=Tryz.prog) (cx:=cx0) (bf:=[2,5]) (e:=wV) (tid:=96) (fn:=Tryz.f489) (s0:=λl=>((nM (λ_=>none) [.data (.slice wV) l]).bT 2 { val:=.data (.slice wV) ([]:List (wV:Ty).den),tid:=0,buf:=true,ro:=false,lk:=false,aI:=0 }).put 2 (.whole 2 0)) mix yN (eZ ak cF ra dy) Tryz.func489 (by kernel_rfl)
  (by rfl) rfl (by decide) (by decide) rfl rfl rfl rfl rfl rfl (λl=>by rfl) (λl=>rfl) (λl=>rfl) (λl=>rfl) (λl=>by rfl) (λl a=>?_)
 have key:∀m:List (wV:Ty).den,fits (len m)=true->aj (fits<|plus (len ([]:List (wV:Ty).den))<|len m) (some<|app [] m) none=some m:=by
  intro m c;have e:plus (len ([]:List (wV:Ty).den)) (len m)=len m:=by simp[plus,len]
  rw[e,c];rfl
 exact w8 (b:=aj (fits<|plus (len ([]:List (wV:Ty).den))<|len (α:=(wV:Ty).den) l) (some<|app (α:=(wV:Ty).den) [] l) none) (by rfl) (key l a)
theorem dx:eF Tryz.prog 503 (.own wV (.pair (.int .i64) adO) true aZ):=by
 have a:Den Tryz.prog wV 197:=by
  show ew Tryz.prog wV false 197 0 []=true
  kernel_rfl
 obtain⟨f,g,b,c,h,i⟩:=a.info;exact vx (e:=wV) (ρ:=(⟨λx=>if x=29 then 504 else if x=30 then 505 else 503,λx=>if x=24 then 96 else if x=9 then 197 else if x=3 then 3 else if x=4 then 4 else 0,λx=>x⟩:Go.Shelf.Ren)) (nm := "slices.Insert[[]cooperage/api.TreeNode,cooperage/api.TreeNode]") ⟨mix,Tryz.func503.trans (congrArg some<|by kernel_rfl),
  λd w=>run_callFunc_extern (e:=Extern.SlicesOverlaps.overlaps #[96,96] #[4]) Tryz.func504 (by kernel_rfl) (by kernel_rfl) (by kernel_rfl) (by kernel_rfl) d w,
  by kernel_rfl,by kernel_rfl,by kernel_rfl,λw=>by simp[Go.sizeOf,b,c]<;>kernel_rfl,by simp[b,c]<;>kernel_rfl⟩ (by decide) a (by kernel_rfl) (by decide) (by decide)
theorem sJ:∀p∈Nn,eF Tryz.prog p.1 p.2:=(dv dD<|dv dx ra)
theorem FB(b:List (Nat×x4))(a:List (Nat×xd))(c:List (String×x4):=[]):Pv (tP b a c):=TM (cx:=tP b a c) (show(yM.all λp=>Wi p.2)=true by kernel_rfl)
def cP:fm:=vl
theorem A4{b:List (Nat×x4)}{a:List (Nat×xd)}{c:List (String×x4)}(i:∀p∈b,Holds Tryz.prog cP p.1 p.2)(e:∀p∈a,eP Tryz.prog cP (p.1 / 2) p.2)(j:∀p∈c,kG Tryz.prog cP p.1 p.2){f:Nat}{l:Func}{A R:Ty}{d:A.den->Option R.den}(k:find yM f=some l)(n:l.body.isSome=true)
  (o:∀x,sem (tP b a c) 12 oR f A R x=d x):Holds Tryz.prog cP f ⟨A,R,d⟩:=by
 obtain⟨m,g⟩:=Kg.1 n;exact EM mix (zy b a c) (eZ i e sJ j) (FB b a c) (f:=f) k g (λx y h=>by rw[o];exact h)
theorem Hp{b:List (Nat×x4)}{a:List (Nat×xd)}{c:List (String×x4)}(i:∀p∈b,Holds Tryz.prog cP p.1 p.2)(e:∀p∈a,eP Tryz.prog cP (p.1 / 2) p.2)(j:∀p∈c,kG Tryz.prog cP p.1 p.2){f:Nat}{l:Func}{m:List Bool}{A:Ty}{U:OT}{R:Ty}{d:A.den×U.den->Option (R.den×U.den)}(k:find yM f=some l)(o:l.body.isSome=true)
  (q:∀x,Y9 (tP b a c) 12 oR f m A U R x=d x):eP Tryz.prog cP f ⟨m,A,U,R,d⟩:=by
 obtain⟨n,g⟩:=Kg.1 o;exact Cj mix (zy b a c) (eZ i e sJ j) (FB b a c) (f:=f) k g (λx y h=>by rw[q];exact h)
theorem BI{d:List (Nat×x4)}{a:List (Nat×xd)}{e:List (String×x4)}(g:∀p∈d,Holds Tryz.prog cP p.1 p.2)(c:∀p∈a,eP Tryz.prog cP (p.1 / 2) p.2)(h:∀p∈e,kG Tryz.prog cP p.1 p.2)(j:Func){f:Nat}{A R:Ty}{b:A.den->Option R.den}(i:find yM f=some j:=by rfl)(k:j.body.isSome=true:=by kernel_rfl)
 (l:∀x,sem (tP d a e) 12 oR f A R x=b x:=by intro x;kernel_rfl):Holds Tryz.prog cP f ⟨A,R,b⟩:=A4 g c h i k l
theorem al{b:List (Nat×x4)}(c:∀p∈b,Holds Tryz.prog cP p.1 p.2)(e:Func){f:Nat}{A R:Ty}{a:A.den->Option R.den}(d:find yM f=some e:=by rfl)(g:e.body.isSome=true:=by kernel_rfl)
 (h:∀x,sem (tP b [] []) 12 oR f A R x=a x:=by intro x;kernel_rfl):Holds Tryz.prog cP f ⟨A,R,a⟩:=A4 c cF dy d g h
theorem qa{d:List (Nat×x4)}{a:List (Nat×xd)}{e:List (String×x4)}(g:∀p∈d,Holds Tryz.prog cP p.1 p.2)(c:∀p∈a,eP Tryz.prog cP (p.1 / 2) p.2)(h:∀p∈e,kG Tryz.prog cP p.1 p.2)(j:Func){f:Nat}{k:List Bool}{A:Ty}{U:OT}{R:Ty}{b:A.den×U.den->Option (R.den×U.den)}(i:find yM f=some j:=by rfl)(l:j.body.isSome=true:=by kernel_rfl)
 (m:∀x,Y9 (tP d a e) 12 oR f k A U R x=b x:=by intro x;kernel_rfl):eP Tryz.prog cP f ⟨k,A,U,R,b⟩:=Hp g c h i l m
abbrev ao:=Holds Tryz.prog cP
theorem sK:ao 146 ⟨(.pair (.slice .str) DP),Qe,gd⟩:=al ak Tryz.f146
theorem dO:ao 64 ⟨(.pair (.slice .str) DP),YF6,bI⟩:=al (ag sK ak) Tryz.f64
theorem mN:ao 408 ⟨(.pair .str<|.pair (.int .u8) .unit),Qe,fG⟩:=al ak Tryz.f408
theorem nG:ao 443 ⟨DP,(.pair (.int .u32)<|.pair (.int .u32) .unit),gl⟩:=al ak Tryz.f443
theorem ko:ao 409 ⟨YF7,Qe,eL⟩:=al (ag nG ak) Tryz.f409
theorem B0:ao 352 ⟨YF7,Qe,sY⟩:=al (ag mN<|ag ko ak) Tryz.f352
theorem lR:ao 275 ⟨DP,YF7,jx⟩:=al (ag B0 ak) Tryz.f275
theorem jn:ao 302 ⟨YF7,YF6,cM⟩:=al ak Tryz.f302
theorem nH:ao 234 ⟨YF7,YF6,cT⟩:=al (ag jn ak) Tryz.f234
theorem A5:Holds Tryz.prog cP 240 ⟨(.pair (.slice .str) DP),DP,uD⟩:=Ws Tryz.func240 (by kernel_rfl) (by kernel_rfl) Tryz.strings_Join_none Tryz.strings_Join
theorem Ju:Holds Tryz.prog cP 411 ⟨YF7,adN,zi⟩:=TT Tryz.func411 (by kernel_rfl) (by kernel_rfl) (λs b w a=>Any.Df Tryz.YW (by kernel_rfl) s b w a)
theorem nZ:ao 356 ⟨DP,adN,gH⟩:=al (ag Ju ak) Tryz.f356
theorem qb:Holds Tryz.prog cP 410 ⟨(.pair .str<|.pair (.int .u8) .unit),Qe,iV⟩:=Rb (spec:=λs c=>Lib.indexByte s (show Int from c).toNat.toUInt8) Tryz.func410 (by kernel_rfl) (by kernel_rfl) (λs c=>zh _ s) (λs c w=>by
 go_enter Tryz.func410,Tryz.ntmps410
 go_wp2
 rw[run_callFunc_extern Tryz.func444 (by kernel_rfl) (by kernel_rfl) (by kernel_rfl) (e:=Extern.BytealgIndexByte.indexByte)<|by kernel_rfl,Lib.run_indexByteString];simp only[Result.andThen];rw[Oper.upon_value]
 go_wp2
 go_ret
 exact⟨rfl,rfl⟩)
theorem jO:ao 354 ⟨(.pair .str<|.pair (.int .u8) .unit),Qe,fg⟩:=al (ag qb ak) Tryz.f354
theorem MN:ao 406 ⟨DP,YF6,An⟩:=al (ag jO ak) Tryz.f406
theorem Cy:ao 347 ⟨DP,(.pair .str Qe),wu⟩:=al (ag nH<|ag A5<|ag nZ<|ag MN ak) Tryz.f347
theorem qc:ao 442 ⟨YF7,(.pair .str YF6),iZ⟩:=al (ag jn ak) Tryz.f442
theorem B1:ao 407 ⟨YF7,(.pair .str YF6),sX⟩:=al (ag qc ak) Tryz.f407
theorem FC:ao 348 ⟨DP,(.pair (.int .i64) DP),yq⟩:=al (ag dO<|ag nH<|ag B1 ak) Tryz.f348
theorem On:ao 353 ⟨DP,YF6,Co⟩:=al (ag lR<|ag Cy<|ag FC ak) Tryz.f353
theorem Qf:ao 276 ⟨(.pair wV .unit),YF6,GH⟩:=al (ag On<|ag jO ak) Tryz.f276
theorem DQ:ao 396 ⟨DP,YF6,oH⟩:=al ak Tryz.f396
theorem A6:ao 357 ⟨YF7,Qe,r0⟩:=al (ag DQ ak) Tryz.f357
theorem sL:ao 277 ⟨YF7,Qe,oi⟩:=al (ag nZ<|ag A6 ak) Tryz.f277
theorem Jv:ao 413 ⟨(.pair wV DP),Qe,sC⟩:=al (ag sL ak) Tryz.f413
theorem yO:ao 358 ⟨(.pair (.slice wV) DP),(.pair (.int .i64) YF6),gw⟩:=al (ag Jv ak) Tryz.f358
theorem MO:ao 278 ⟨(.pair (.slice wV) DP),Qe,yy⟩:=al (ag yO ak) Tryz.f278
theorem jo:ao 194 ⟨adO,Qe,e9⟩:=al (ag lR<|ag Qf<|ag sL<|ag MO ak) Tryz.f194
theorem sM:ao 491 ⟨(.pair (.slice .str) adN),YF6,la⟩:=al ak Tryz.f491
theorem wL:ao 487 ⟨YF7,YF6,eX⟩:=al (ag nZ<|ag sM ak) Tryz.f487
theorem dE:Holds Tryz.prog cP 489 ⟨adO,adO,lX⟩:=by
 refine mv (P:=Tryz.prog) (cx:=tP [] []) (bf:=[5]) (e:=wV) (tid:=96) (fn:=Tryz.f489) (s0:=λl=>(nM (λ_=>none) [.data (.slice wV) l]).put 2 (.data (.slice wV) ([]:List (wV:Ty).den))) mix (zy [] []) (eZ ak cF sJ dy) Tryz.func489 (by kernel_rfl)
  (by rfl) rfl (by decide) (by decide) rfl rfl rfl rfl rfl rfl (λl=>by rfl) (λl=>rfl) (λl=>rfl) (λl=>rfl) (λl=>by rfl) (λl a=>?_)
 have key:∀m:List (wV:Ty).den,fits (len m)=true->aj (fits<|plus (len ([]:List (wV:Ty).den))<|len m) (some ((app [] m,()):(Ty.pair (.slice wV) .unit).den)) none=some (m,()):=by
  intro m c;have e:plus (len ([]:List (wV:Ty).den)) (len m)=len m:=by simp[plus,len]
  rw[e,c];rfl
 exact w8 (b:=aj (fits<|plus (len ([]:List (wV:Ty).den))<|len (α:=(wV:Ty).den) l) (some ((app (α:=(wV:Ty).den) [] l,()):(Ty.pair (.slice wV) .unit).den)) none) (by rfl) (key l a)
theorem Xn:ao 502 ⟨(.pair (.slice wV)<|.pair wV .unit),(.pair (.slice wV) Qe),DA⟩:=al (ag jo<|ag lR<|ag Qf<|ag MO<|ag yO<|ag wL<|ag dE ak) Tryz.f502
end Go.Proofs.YtcebnmppipejfaaGreatDoor.First
