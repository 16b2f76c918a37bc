/- The layer's functions keep their contracts: each comes to its plain definition, by the ghost interpreter. -/
import Derived.Test.YtpmecibilnjeiaaGreatDoorRows
import Derived.Test.YtpmecibilnjeiaaGreatDoorPlH
import Derived.Test.YtpmecibilnjeiaaGreatDoorShelf
set_option linter.unusedVariables false
set_option linter.unusedSectionVars false
set_option linter.unusedSimpArgs false
namespace Go.Proofs.YtpmecibilnjeiaaGreatDoor.First
open Go Go.Ge
set_option maxRecDepth 100000
variable [Lp]
def cy(s:List (Nat×Nat))(m:List Nat):Option CT:=some ⟨s,m,false⟩
def cz(s:List (Nat×Nat)):Option CT:=some ⟨s,[],false⟩
def fp(a:List (Option CT)):td:=⟨a,[]⟩
abbrev wF:Ty:=(.pair .str<|.pair (.int .i64)<|.pair (.int .i64)<|.pair .str<|.pair .str .unit)
abbrev FL:Ty:=(.pair .str .unit)
abbrev YF2:Ty:=(.pair .str<|.pair .str<|.pair (.slice<|.pair .str<|.pair .str FL) .unit)
abbrev PX:Ty:=(.pair (.int .i64) .unit)
abbrev YF4:Ty:=(.pair .str<|.pair .str<|.pair (.slice .str)<|.pair .str<|.pair (.int .i64)<|.pair (.int .i64)<|.pair .bool .unit)
abbrev YF5:Ty:=(.pair .str<|.pair (.int .i64)<|.pair (.int .i64)<|.pair (.int .i64)<|.pair (.int .i64)<|.pair (.int .i64)<|.pair (.int .i64) FL)
abbrev YC:Ty:=(.pair .bool .unit)
abbrev YD:Ty:=(.pair .str FL)
abbrev YF8:Ty:=(.pair .str<|.pair (.slice .str)<|.pair .str YF2)
abbrev YF9:Ty:=(.pair .str<|.pair (.slice .str) YF2)
abbrev abo:Ty:=(.pair (.slice wF) .unit)
noncomputable def pA:Nat->td
 | 75=>fp [none,cz [(4,4),(13,3)],none,none]
 | 141=>fp [none,cz [(2,40),(12,3)],none,none]
 | 185=>fp [none]
 | 186=>fp [none,none,none,none]
 | 188=>fp [none,none,none]
 | 218=>fp [none,none,none,none,none]
 | 221=>fp [cy [(6,3),(13,3)] [2],none,none,none,none]
 | 222=>fp [none]
 | 223=>fp [none,none,none,none,none]
 | 231=>fp [none]
 | 260=>fp [cz [(4,3),(5,3)],none,none]
 | 261=>fp [cz [(9,176),(10,3)],none,none,cz [(4,3),(9,176),(11,3)],none,none]
 | 262=>⟨[cy [(2,9),(3,40),(4,25),(11,3)] [4],none,cy [(2,9),(3,40),(4,25)] [4],none,none],[4]⟩
 | 263=>fp [none,none,none]
 | 267=>fp [cy [(9,3),(10,3)] [1,2],none,cz [(9,3),(10,3)]]
 | 293=>fp [cz [(4,176),(5,3)],none,cz [(6,176),(7,176),(8,3)],none,cz [(6,176)]]
 | 294=>fp [cz [(2,4),(6,3)],none,none]
 | 308=>fp [cz [(4,3),(8,3)],none,none]
 | 346=>⟨[none],[9]⟩
 | 349=>fp [none,cy [(5,3),(6,3),(0,999999)] [0,1],none,cy [(5,3),(0,999999)] [0]]
 | 350=>⟨[none],[5]⟩
 | 352=>fp [cy [(4,3),(8,3)] [1],none,none]
 | 362=>⟨[none,none,none,none],[55]⟩
 | _=>⟨[],[]⟩
def sS:List (Nat×List nG):=[(271,[.self,.buf (.int .u8) 5]),(251,[])]
def VC:List (Nat×Nat):=[(59,5)]
noncomputable def Ll:List (Nat×WG):=[(350,.clone wF),(363,(.own wF (.pair (.int .i64) abo) true aO))]
noncomputable def tys:List (Nat×Ty):=[(3,(.int .i64)),(4,.bool),(5,(.int .u8)),(9,.str),(21,(.int .i32)),(22,(.slice YF8)),(23,(.slice YF9)),(24,(.slice YF4)),(25,(.slice .str)),(26,(.slice<|.pair .str PX)),(28,(.pair (.slice YF8)<|.pair (.slice YF9)<|.pair (.slice YF4)<|.pair (.slice .str)<|.pair (.slice<|.pair .str PX) .unit)),(30,YF4),(39,(.slice wF)),(40,(.int .i64)),(48,(.pair (.int .i64)<|.pair (.slice YF4)<|.pair (.slice YF9)<|.pair (.slice YF8) .unit)),(51,(.slice<|.pair .str YD)),(53,YF9),(56,YF8),(58,(.pair .str PX)),(59,(.slice<|.int .u8)),(84,(.slice<|.pair YF5 FL)),(89,wF),(92,(.arr 4<|.int .i64)),(112,(.pair .str YD)),(134,YF5),(136,(.pair YF5 FL)),(141,(.arr 32<|.int .u8)),(176,(.int .u32)),(177,(.arr 8<|.int .u32)),(190,(.slice<|.alt 247 FL<|.alt 249 FL<|.alt 251 .unit<|.alt 253 (.pair wF .unit) .za)),(194,(.alt 247 FL<|.alt 249 FL<|.alt 251 .unit<|.alt 253 (.pair wF .unit) .za)),(200,(.int .u64)),(201,(.arr 64<|.int .u32)),(202,(.int .u64)),(214,(.pair .bool<|.pair .str<|.pair (.int .i64)<|.pair .bool YC)),(226,(.int .i64)),(237,(.arr 256 .bool)),(247,FL),(249,FL),(253,(.pair wF .unit)),(256,(.int .u64)),(263,(.pair .bool<|.pair (.arr 8<|.int .u32) .unit)),(264,(.arr 64<|.int .u8)),(266,(.pair (.pair .bool<|.pair (.arr 8<|.int .u32) .unit)<|.pair (.arr 64<|.int .u8) PX)),(281,(.pair (.int .i64) PX)),(282,(.arr 11<|.pair (.int .i64) PX)),(294,(.arr 8<|.int .u8)),(297,(.arr 2 .str)),(307,(.arr 256<|.int .u8)),(309,(.pair (.int .u8)<|.pair (.int .u8) .unit)),(310,(.arr 16<|.pair (.int .u8)<|.pair (.int .u8) .unit))]
noncomputable def ym:List (Nat×Func):=[(75,Tryz.f75),(141,Tryz.f141),(185,Tryz.f185),(186,Tryz.f186),(187,Tryz.f187),(188,Tryz.f188),(203,Tryz.f203),(218,Tryz.f218),(219,Tryz.f219),(220,Tryz.f220),(221,Tryz.f221),(222,Tryz.f222),(223,Tryz.f223),(224,Tryz.f224),(231,Tryz.f231),(260,Tryz.f260),(261,Tryz.f261),(262,Tryz.f262),(263,Tryz.f263),(266,Tryz.f266),(267,Tryz.f267),(268,Tryz.f268),(273,Tryz.f273),(293,Tryz.f293),(294,Tryz.f294),(296,Tryz.f296),(297,Tryz.f297),(308,Tryz.f308),(345,Tryz.f345),(346,Tryz.f346),(347,Tryz.f347),(348,Tryz.f348),(349,Tryz.f349),(350,Tryz.f350),(351,Tryz.f351),(352,Tryz.f352),(362,Tryz.f362)]
def rb:List Nat:=[65,69,93,94,101,108,113,115,117,125,127,140,147,149,185,208,210,241,245,260,269,289,292,295,303]
def lu:List Nat:=[185,241,260,269,289,292,295,303]
noncomputable def wy(b:List (Nat×xC))(a:List (Nat×wO))(c:List (String×xC):=[]):Ctx:=⟨tys,rb,lu,ym,b,a,sS,Ll,VC,c⟩
theorem mix:Tryz.prog.follows .mixedOrders=true:=by kernel_rfl
theorem SU:∀tid t,find tys tid=some t->Den Tryz.prog t tid:=aac (by kernel_rfl)
theorem Eg:∀tid,cI rb tid=true->(∀w,(isAgg tid).run Tryz.prog w=.ok false w)/\(∀w,(Go.sizeOf tid).run Tryz.prog w=.ok 1 w)/\∃z,(∀w,(zeroValue tid).run Tryz.prog w=.ok z w)/\z.oneCell'=true:=VS (by kernel_rfl)
theorem Eh:∀tid,cI lu tid=true->∃e,Tryz.prog.underlying tid=some (.pointer e):=VT (by kernel_rfl)
theorem KN:∀f a,find ym f=some a->Tryz.prog.funcs[f]?=some a:=aad ((ai Tryz.func75<|ai Tryz.func141<|ai Tryz.func185<|ai Tryz.func186<|ai Tryz.func187<|ai Tryz.func188<|ai Tryz.func203<|ai Tryz.func218<|ai Tryz.func219<|ai Tryz.func220<|ai Tryz.func221<|ai Tryz.func222<|ai Tryz.func223<|ai Tryz.func224<|ai Tryz.func231<|ai Tryz.func260<|ai Tryz.func261<|ai Tryz.func262<|ai Tryz.func263<|ai Tryz.func266<|ai Tryz.func267<|ai Tryz.func268<|ai Tryz.func273<|ai Tryz.func293<|ai Tryz.func294<|ai Tryz.func296<|ai Tryz.func297<|ai Tryz.func308<|ai Tryz.func345<|ai Tryz.func346<|ai Tryz.func347<|ai Tryz.func348<|ai Tryz.func349<|ai Tryz.func350<|ai Tryz.func351<|ai Tryz.func352<|ai Tryz.func362 VU))
theorem Ei:∀tid a,find sS tid=some a->IM Tryz.prog tid a=true:=VV (by kernel_rfl)
theorem KO:∀tid e,find VC tid=some e->Tryz.prog.underlying tid=some (.slice e):=aae (by kernel_rfl)
theorem Ej(b:List (Nat×xC))(a:List (Nat×wO))(c:List (String×xC):=[]):fv Tryz.prog (wy b a c):=⟨SU,Eg,Eh,KN,Ei,KO⟩
noncomputable def cx0:Ctx:=⟨tys,rb,lu,ym,[],[],sS,[],VC,[]⟩
theorem FM:fv Tryz.prog cx0:=⟨SU,Eg,Eh,KN,Ei,KO⟩
theorem dD:fK Tryz.prog 350 (.clone wF):=by
 refine xe (P:=Tryz.prog) (cx:=cx0) (bf:=[2,5]) (e:=wF) (tid:=39) (fn:=Tryz.f350) (s0:=λl=>((uo (λ_=>none) [.data (.slice wF) l]).b4 2 { val:=.data (.slice wF) ([]:List (wF:Ty).den),tid:=0,buf:=true,ro:=false,lk:=false,aM:=0 }).put 2 (.whole 2 0)) mix FM (kg ak dF xV eM) Tryz.func350 (by kernel_rfl)
  (by rfl) rfl (by decide) (by decide) rfl rfl rfl rfl rfl rfl (λl=>by rfl) (λl=>rfl) (λl=>rfl) (λl=>rfl) (λl=>by rfl) (λl a=>?_)
 have key:∀m:List (wF:Ty).den,fits (len m)=true->aj (fits<|plus (len ([]:List (wF:Ty).den))<|len m) (some<|app [] m) none=some m:=by
  intro m c;have e:plus (len ([]:List (wF:Ty).den)) (len m)=len m:=by simp[plus,len]
  rw[e,c];rfl
 exact s9 (b:=aj (fits<|plus (len ([]:List (wF:Ty).den))<|len (α:=(wF:Ty).den) l) (some<|app (α:=(wF:Ty).den) [] l) none) (by rfl) (key l a)
theorem dy:fK Tryz.prog 363 (.own wF (.pair (.int .i64) abo) true aO):=by
 have a:Den Tryz.prog wF 89:=by
  show eZ Tryz.prog wF false 89 0 []=true
  kernel_rfl
 obtain⟨f,g,b,c,h,i⟩:=a.info;exact Dx (e:=wF) (ρ:=(⟨λx=>if x=29 then 364 else if x=30 then 365 else 363,λx=>if x=24 then 39 else if x=9 then 89 else if x=3 then 3 else if x=4 then 4 else 0,λx=>x⟩:Go.Shelf.Ren)) (nm := "slices.Insert[[]cooperage/api.TreeNode,cooperage/api.TreeNode]") ⟨mix,Tryz.func363.trans (congrArg some<|by kernel_rfl),
  λd w=>run_callFunc_extern (e:=Extern.SlicesOverlaps.overlaps #[39,39] #[4]) Tryz.func364 (by kernel_rfl) (by kernel_rfl) (by kernel_rfl) (by kernel_rfl) d w,
  by kernel_rfl,by kernel_rfl,by kernel_rfl,λw=>by simp[Go.sizeOf,b,c]<;>kernel_rfl,by simp[b,c]<;>kernel_rfl⟩ (by decide) a (by kernel_rfl) (by decide) (by decide)
theorem yn:∀p∈Ll,fK Tryz.prog p.1 p.2:=(gy dD<|gy dy xV)
theorem Ek(b:List (Nat×xC))(a:List (Nat×wO))(c:List (String×xC):=[]):Nr (wy b a c):=Ru (cx:=wy b a c) (show(ym.all λp=>T8 p.2)=true by kernel_rfl)
def cT:fD:=vk
theorem An{b:List (Nat×xC)}{a:List (Nat×wO)}{c:List (String×xC)}(i:∀p∈b,Holds Tryz.prog cT p.1 p.2)(e:∀p∈a,eQ Tryz.prog cT (p.1 / 2) p.2)(j:∀p∈c,kY Tryz.prog cT p.1 p.2){f:Nat}{l:Func}{A R:Ty}{d:A.den->Option R.den}(k:find ym f=some l)(n:l.body.isSome=true)
  (o:∀x,sem (wy b a c) 12 pA f A R x=d x):Holds Tryz.prog cT f ⟨A,R,d⟩:=by
 obtain⟨m,g⟩:=Lh.1 n;exact Dv mix (Ej b a c) (kg i e yn j) (Ek b a c) (f:=f) k g (λx y h=>by rw[o];exact h)
theorem FN{b:List (Nat×xC)}{a:List (Nat×wO)}{c:List (String×xC)}(i:∀p∈b,Holds Tryz.prog cT p.1 p.2)(e:∀p∈a,eQ Tryz.prog cT (p.1 / 2) p.2)(j:∀p∈c,kY Tryz.prog cT p.1 p.2){f:Nat}{l:Func}{m:List Bool}{A:Ty}{U:OT}{R:Ty}{d:A.den×U.den->Option (R.den×U.den)}(k:find ym f=some l)(o:l.body.isSome=true)
  (q:∀x,WN (wy b a c) 12 pA f m A U R x=d x):eQ Tryz.prog cT f ⟨m,A,U,R,d⟩:=by
 obtain⟨n,g⟩:=Lh.1 o;exact Bw mix (Ej b a c) (kg i e yn j) (Ek b a c) (f:=f) k g (λx y h=>by rw[q];exact h)
theorem A6{d:List (Nat×xC)}{a:List (Nat×wO)}{e:List (String×xC)}(g:∀p∈d,Holds Tryz.prog cT p.1 p.2)(c:∀p∈a,eQ Tryz.prog cT (p.1 / 2) p.2)(h:∀p∈e,kY Tryz.prog cT p.1 p.2)(j:Func){f:Nat}{A R:Ty}{b:A.den->Option R.den}(i:find ym f=some j:=by rfl)(k:j.body.isSome=true:=by kernel_rfl)
 (l:∀x,sem (wy d a e) 12 pA f A R x=b x:=by intro x;kernel_rfl):Holds Tryz.prog cT f ⟨A,R,b⟩:=An g c h i k l
theorem al{b:List (Nat×xC)}(c:∀p∈b,Holds Tryz.prog cT p.1 p.2)(e:Func){f:Nat}{A R:Ty}{a:A.den->Option R.den}(d:find ym f=some e:=by rfl)(g:e.body.isSome=true:=by kernel_rfl)
 (h:∀x,sem (wy b [] []) 12 pA f A R x=a x:=by intro x;kernel_rfl):Holds Tryz.prog cT f ⟨A,R,a⟩:=An c dF eM d g h
theorem qD{d:List (Nat×xC)}{a:List (Nat×wO)}{e:List (String×xC)}(g:∀p∈d,Holds Tryz.prog cT p.1 p.2)(c:∀p∈a,eQ Tryz.prog cT (p.1 / 2) p.2)(h:∀p∈e,kY Tryz.prog cT p.1 p.2)(j:Func){f:Nat}{k:List Bool}{A:Ty}{U:OT}{R:Ty}{b:A.den×U.den->Option (R.den×U.den)}(i:find ym f=some j:=by rfl)(l:j.body.isSome=true:=by kernel_rfl)
 (m:∀x,WN (wy d a e) 12 pA f k A U R x=b x:=by intro x;kernel_rfl):eQ Tryz.prog cT f ⟨k,A,U,R,b⟩:=FN g c h i l m
abbrev aw:=Holds Tryz.prog cT
theorem dz:aw 75 ⟨(.pair (.slice .str)<|.pair (.slice .str) .unit),YC,bt⟩:=al ak Tryz.f75
theorem nB:aw 260 ⟨(.pair .str<|.pair (.int .u8) .unit),PX,cF⟩:=al ak Tryz.f260
theorem oo:aw 293 ⟨FL,(.pair (.int .u32)<|.pair (.int .u32) .unit),gB⟩:=al ak Tryz.f293
theorem kF:aw 261 ⟨YD,PX,eJ⟩:=al (ag oo ak) Tryz.f261
theorem Bh:aw 218 ⟨YD,PX,oi⟩:=al (ag nB<|ag kF ak) Tryz.f218
theorem mf:aw 185 ⟨FL,YD,fP⟩:=al (ag Bh ak) Tryz.f185
theorem HD:Holds Tryz.prog cT 265 ⟨YD,(.pair (.slice .str) .unit),sU⟩:=RB Tryz.func265 (by kernel_rfl) (by kernel_rfl) (λs b w a=>Any.Cg Tryz.Wz (by kernel_rfl) s b w a)
theorem oQ:aw 222 ⟨FL,(.pair (.slice .str) .unit),eV⟩:=al (ag HD ak) Tryz.f222
theorem qE:Holds Tryz.prog cT 264 ⟨(.pair .str<|.pair (.int .u8) .unit),PX,cE⟩:=Pj (spec:=λs c=>Lib.indexByte s (show Int from c).toNat.toUInt8) Tryz.func264 (by kernel_rfl) (by kernel_rfl) (λs c=>yL _ s) (λs c w=>by
 go_enter Tryz.func264,Tryz.ntmps264
 go_wp2
 rw[run_callFunc_extern Tryz.func298 (by kernel_rfl) (by kernel_rfl) (by kernel_rfl) (e:=Extern.BytealgIndexByte.indexByte)<|by kernel_rfl,Lib.run_indexByteString];simp only[Result.andThen];rw[Oper.upon_value]
 go_wp2
 go_ret
 exact⟨rfl,rfl⟩)
theorem gG:aw 220 ⟨(.pair .str<|.pair (.int .u8) .unit),PX,bT⟩:=al (ag qE ak) Tryz.f220
theorem KP:aw 294 ⟨FL,YC,qd⟩:=al (ag gG ak) Tryz.f294
theorem KQ:Holds Tryz.prog cT 295 ⟨(.pair (.slice .str) FL),FL,uD⟩:=Ui Tryz.func295 (by kernel_rfl) (by kernel_rfl) Tryz.strings_Join_none Tryz.strings_Join
theorem jG:aw 273 ⟨YD,YC,bH⟩:=al ak Tryz.f273
theorem tj:aw 296 ⟨YD,YC,ed⟩:=al (ag jG ak) Tryz.f296
theorem BI:aw 262 ⟨FL,(.pair .str PX),oB⟩:=al (ag oQ<|ag KP<|ag KQ<|ag tj ak) Tryz.f262
theorem qF:aw 231 ⟨YD,(.pair .str YC),dG⟩:=al (ag jG ak) Tryz.f231
theorem tk:aw 203 ⟨YD,(.pair .str YC),ea⟩:=al (ag qF ak) Tryz.f203
theorem sZ:aw 308 ⟨(.pair (.slice .str) FL),PX,gv⟩:=al ak Tryz.f308
theorem qO:aw 297 ⟨(.pair (.slice .str) FL),YC,dN⟩:=al (ag sZ ak) Tryz.f297
theorem El:aw 263 ⟨FL,(.pair (.int .i64) FL),qe⟩:=al (ag tk<|ag tj<|ag qO ak) Tryz.f263
theorem Mg:aw 219 ⟨FL,YC,rN⟩:=al (ag mf<|ag BI<|ag El ak) Tryz.f219
theorem Oe:aw 186 ⟨(.pair wF .unit),YC,xg⟩:=al (ag Mg<|ag gG ak) Tryz.f186
theorem CB:aw 266 ⟨FL,YC,iu⟩:=al ak Tryz.f266
theorem Ao:aw 223 ⟨YD,PX,jw⟩:=al (ag CB ak) Tryz.f223
theorem yW:aw 187 ⟨YD,PX,lD⟩:=al (ag oQ<|ag Ao ak) Tryz.f187
theorem HE:aw 268 ⟨(.pair wF FL),PX,lG⟩:=al (ag yW ak) Tryz.f268
theorem yo:aw 224 ⟨(.pair (.slice wF) FL),(.pair (.int .i64) YC),dV⟩:=al (ag HE ak) Tryz.f224
theorem KR:aw 188 ⟨(.pair (.slice wF) FL),PX,nd⟩:=al (ag yo ak) Tryz.f188
theorem lr:aw 141 ⟨abo,PX,fa⟩:=al (ag mf<|ag Oe<|ag yW<|ag KR ak) Tryz.f141
theorem wz:aw 348 ⟨YD,YC,cW⟩:=al (ag dz<|ag oQ ak) Tryz.f348
theorem dE:Holds Tryz.prog cT 350 ⟨abo,abo,mj⟩:=by
 refine vt (P:=Tryz.prog) (cx:=wy [] []) (bf:=[5]) (e:=wF) (tid:=39) (fn:=Tryz.f350) (s0:=λl=>(uo (λ_=>none) [.data (.slice wF) l]).put 2 (.data (.slice wF) ([]:List (wF:Ty).den))) mix (Ej [] []) (kg ak dF yn eM) Tryz.func350 (by kernel_rfl)
  (by rfl) rfl (by decide) (by decide) rfl rfl rfl rfl rfl rfl (λl=>by rfl) (λl=>rfl) (λl=>rfl) (λl=>rfl) (λl=>by rfl) (λl a=>?_)
 have key:∀m:List (wF:Ty).den,fits (len m)=true->aj (fits<|plus (len ([]:List (wF:Ty).den))<|len m) (some ((app [] m,()):(Ty.pair (.slice wF) .unit).den)) none=some (m,()):=by
  intro m c;have e:plus (len ([]:List (wF:Ty).den)) (len m)=len m:=by simp[plus,len]
  rw[e,c];rfl
 exact s9 (b:=aj (fits<|plus (len ([]:List (wF:Ty).den))<|len (α:=(wF:Ty).den) l) (some ((app (α:=(wF:Ty).den) [] l,()):(Ty.pair (.slice wF) .unit).den)) none) (by rfl) (key l a)
theorem Vf:aw 362 ⟨(.pair (.slice wF)<|.pair wF .unit),(.pair (.slice wF) PX),rk⟩:=al (ag lr<|ag mf<|ag Oe<|ag KR<|ag yo<|ag wz<|ag dE ak) Tryz.f362
end Go.Proofs.YtpmecibilnjeiaaGreatDoor.First
