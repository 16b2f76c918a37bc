/- The layer's functions keep their contracts: each comes to its plain definition, by the ghost interpreter. -/
import Derived.Test.YtdpbdiikloedbaaGreatDoorRows
import Derived.Test.YtdpbdiikloedbaaGreatDoorPlH
import Derived.Test.YtdpbdiikloedbaaGreatDoorShelf
set_option linter.unusedSectionVars false
namespace Go.Proofs.YtdpbdiikloedbaaGreatDoor.First
open Go Go.Ge
set_option maxRecDepth 100000
variable [Lp]
def cy(s:List (Nat×Nat))(m:List Nat):Option CV:=some ⟨s,m,false⟩
def cz(s:List (Nat×Nat)):Option CV:=some ⟨s,[],false⟩
def fp(a:List (Option CV)):tq:=⟨a,[]⟩
abbrev wL:Ty:=(.pair .str<|.pair (.int .i64)<|.pair (.int .i64)<|.pair .str<|.pair .str .unit)
abbrev Et:Ty:=(.pair .str .unit)
abbrev YF2:Ty:=(.pair .str<|.pair .str<|.pair (.slice<|.pair .str<|.pair .str Et) .unit)
abbrev Qc:Ty:=(.pair (.int .i64) .unit)
abbrev YF4:Ty:=(.pair .str<|.pair .str<|.pair (.slice .str)<|.pair .str<|.pair (.int .i64)<|.pair (.int .i64)<|.pair .bool .unit)
abbrev YF5:Ty:=(.pair .str<|.pair (.int .i64)<|.pair (.int .i64)<|.pair (.int .i64)<|.pair (.int .i64)<|.pair (.int .i64)<|.pair (.int .i64) Et)
abbrev Zf:Ty:=(.pair .bool .unit)
abbrev Zg:Ty:=(.pair .str Et)
abbrev YF8:Ty:=(.pair .str<|.pair (.slice .str)<|.pair .str YF2)
abbrev YF9:Ty:=(.pair .str<|.pair (.slice .str) YF2)
abbrev ab8:Ty:=(.pair (.slice .str) .unit)
abbrev ab9:Ty:=(.pair (.slice wL) .unit)
noncomputable def py:Nat->tq
 | 92=>fp [none,cz [(2,32),(12,3)],none,none]
 | 158=>fp [cz [(4,3),(8,3)],none,none]
 | 163=>fp [none]
 | 164=>fp [none,none,none,none]
 | 166=>fp [none,none,none]
 | 236=>⟨[cy [(2,9),(3,32),(4,25),(11,3)] [4],none,cy [(2,9),(3,32),(4,25)] [4],none,none],[4]⟩
 | 237=>fp [none,none,none]
 | 241=>fp [none,none,none,none,none]
 | 244=>fp [cy [(6,3),(13,3)] [2],none,none,none,none]
 | 245=>fp [none]
 | 246=>fp [none,none,none,none,none]
 | 281=>fp [cz [(2,4),(6,3)],none,none]
 | 284=>fp [cz [(4,3),(5,3)],none,none]
 | 285=>fp [cz [(9,196),(10,3)],none,none,cz [(4,3),(9,196),(11,3)],none,none]
 | 288=>fp [cy [(9,3),(10,3)] [1,2],none,cz [(9,3),(10,3)]]
 | 311=>fp [none]
 | 312=>fp [cz [(4,196),(5,3)],none,cz [(6,196),(7,196),(8,3)],none,cz [(6,196)]]
 | 349=>⟨[none],[9]⟩
 | 352=>fp [none,cy [(5,3),(6,3),(0,999999)] [0,1],none,cy [(5,3),(0,999999)] [0]]
 | 353=>⟨[none],[5]⟩
 | 355=>fp [none,cz [(4,4),(13,3)],none,none]
 | 356=>fp [cy [(4,3),(8,3)] [1],none,none]
 | 366=>⟨[none,none,none,none],[55]⟩
 | _=>⟨[],[]⟩
def sZ:List (Nat×List na):=[(171,[.self,.buf (.int .u8) 5]),(264,[])]
def Wd:List (Nat×Nat):=[(100,5)]
noncomputable def Lo:List (Nat×Xk):=[(353,.clone wL),(367,(.own wL (.pair (.int .i64) ab9) true aS))]
noncomputable def tys:List (Nat×Ty):=[(3,(.int .i64)),(4,.bool),(5,(.int .u8)),(9,.str),(21,(.int .i32)),(22,(.slice YF8)),(23,(.slice YF9)),(24,(.slice YF4)),(25,(.slice .str)),(26,(.slice<|.pair .str Qc)),(28,(.pair (.slice YF8)<|.pair (.slice YF9)<|.pair (.slice YF4)<|.pair (.slice .str)<|.pair (.slice<|.pair .str Qc) .unit)),(32,(.int .i64)),(34,(.pair (.int .i64)<|.pair .str<|.pair (.int .i64) Et)),(39,(.arr 2 .str)),(44,YF4),(47,(.slice wL)),(55,(.pair (.int .i64)<|.pair (.slice YF4)<|.pair (.slice YF9)<|.pair (.slice YF8) .unit)),(64,(.slice<|.pair .str ab8)),(78,(.slice<|.pair .str Zg)),(80,YF9),(83,YF8),(85,(.pair .str Qc)),(93,(.slice<|.pair YF5 Et)),(98,wL),(100,(.slice<|.int .u8)),(107,(.slice<|.alt 260 Et<|.alt 262 Et<|.alt 264 .unit<|.alt 266 (.pair wL .unit) .zj)),(112,(.pair .str ab8)),(120,(.arr 32<|.int .u8)),(130,(.arr 4<|.int .i64)),(158,YF5),(160,(.pair YF5 Et)),(165,(.pair .str Zg)),(166,(.int .u64)),(187,(.alt 260 Et<|.alt 262 Et<|.alt 264 .unit<|.alt 266 (.pair wL .unit) .zj)),(196,(.int .u32)),(197,(.arr 8<|.int .u32)),(199,(.pair .bool<|.pair (.arr 8<|.int .u32) .unit)),(200,(.arr 64<|.int .u8)),(202,(.pair (.pair .bool<|.pair (.arr 8<|.int .u32) .unit)<|.pair (.arr 64<|.int .u8) Qc)),(235,(.int .u64)),(240,(.int .i64)),(251,(.arr 256 .bool)),(257,(.pair .bool<|.pair .str<|.pair (.int .i64)<|.pair .bool Zf)),(260,Et),(262,Et),(266,(.pair wL .unit)),(272,(.arr 8<|.int .u8)),(275,(.arr 64<|.int .u32)),(286,(.int .u64)),(313,(.pair (.int .i64) Qc)),(314,(.arr 11<|.pair (.int .i64) Qc)),(318,(.arr 256<|.int .u8)),(320,(.pair (.int .u8)<|.pair (.int .u8) .unit)),(321,(.arr 16<|.pair (.int .u8)<|.pair (.int .u8) .unit))]
noncomputable def yA:List (Nat×Func):=[(86,Tryz.f86),(92,Tryz.f92),(132,Tryz.f132),(158,Tryz.f158),(163,Tryz.f163),(164,Tryz.f164),(165,Tryz.f165),(166,Tryz.f166),(194,Tryz.f194),(236,Tryz.f236),(237,Tryz.f237),(241,Tryz.f241),(242,Tryz.f242),(243,Tryz.f243),(244,Tryz.f244),(245,Tryz.f245),(246,Tryz.f246),(247,Tryz.f247),(271,Tryz.f271),(281,Tryz.f281),(283,Tryz.f283),(284,Tryz.f284),(285,Tryz.f285),(288,Tryz.f288),(289,Tryz.f289),(311,Tryz.f311),(312,Tryz.f312),(348,Tryz.f348),(349,Tryz.f349),(350,Tryz.f350),(351,Tryz.f351),(352,Tryz.f352),(353,Tryz.f353),(354,Tryz.f354),(355,Tryz.f355),(356,Tryz.f356),(366,Tryz.f366)]
def rh:List Nat:=[61,106,117,123,131,132,140,142,150,152,169,182,191,215,238,255,270,290,300,301,308]
def lS:List Nat:=[169,182,238,255,270,290,301,308]
noncomputable def wF(b:List (Nat×xL))(a:List (Nat×xQ))(c:List (String×xL):=[]):Ctx:=⟨tys,rh,lS,yA,b,a,sZ,Lo,Wd,c⟩
theorem mix:Tryz.prog.follows .mixedOrders=true:=by kernel_rfl
theorem Tp:∀tid t,find tys tid=some t->Den Tryz.prog t tid:=aaQ (by kernel_rfl)
theorem D9:∀tid,cP rh tid=true->(∀w,(isAgg tid).run Tryz.prog w=.ok false w)/\(∀w,(Go.sizeOf tid).run Tryz.prog w=.ok 1 w)/\∃z,(∀w,(zeroValue tid).run Tryz.prog w=.ok z w)/\z.oneCell'=true:=Ws (by kernel_rfl)
theorem Ea:∀tid,cP lS tid=true->∃e,Tryz.prog.underlying tid=some (.pointer e):=Wt (by kernel_rfl)
theorem KX:∀f a,find yA f=some a->Tryz.prog.funcs[f]?=some a:=aaR ((ah Tryz.func86<|ah Tryz.func92<|ah Tryz.func132<|ah Tryz.func158<|ah Tryz.func163<|ah Tryz.func164<|ah Tryz.func165<|ah Tryz.func166<|ah Tryz.func194<|ah Tryz.func236<|ah Tryz.func237<|ah Tryz.func241<|ah Tryz.func242<|ah Tryz.func243<|ah Tryz.func244<|ah Tryz.func245<|ah Tryz.func246<|ah Tryz.func247<|ah Tryz.func271<|ah Tryz.func281<|ah Tryz.func283<|ah Tryz.func284<|ah Tryz.func285<|ah Tryz.func288<|ah Tryz.func289<|ah Tryz.func311<|ah Tryz.func312<|ah Tryz.func348<|ah Tryz.func349<|ah Tryz.func350<|ah Tryz.func351<|ah Tryz.func352<|ah Tryz.func353<|ah Tryz.func354<|ah Tryz.func355<|ah Tryz.func356<|ah Tryz.func366 Wu))
theorem Eb:∀tid a,find sZ tid=some a->IU Tryz.prog tid a=true:=Wv (by kernel_rfl)
theorem KY:∀tid e,find Wd tid=some e->Tryz.prog.underlying tid=some (.slice e):=aaS (by kernel_rfl)
theorem Ec(b:List (Nat×xL))(a:List (Nat×xQ))(c:List (String×xL):=[]):fo Tryz.prog (wF b a c):=⟨Tp,D9,Ea,KX,Eb,KY⟩
noncomputable def cx0:Ctx:=⟨tys,rh,lS,yA,[],[],sZ,[],Wd,[]⟩
theorem FM:fo Tryz.prog cx0:=⟨Tp,D9,Ea,KX,Eb,KY⟩
theorem dC:gk Tryz.prog 353 (.clone wL):=by
 refine xn (P:=Tryz.prog) (cx:=cx0) (bf:=[2,5]) (e:=wL) (tid:=47) (fn:=Tryz.f353) (s0:=λl=>((uB (λ_=>none) [.data (.slice wL) l]).b5 2 { val:=.data (.slice wL) ([]:List (wL:Ty).den),tid:=0,buf:=true,ro:=false,lk:=false,aP:=0 }).put 2 (.whole 2 0)) mix FM (jQ al dF ya eK) Tryz.func353 (by kernel_rfl)
  (by rfl) rfl (by decide) (by decide) rfl rfl rfl rfl rfl rfl (λl=>by rfl) (λl=>rfl) (λl=>rfl) (λl=>rfl) (λl=>by rfl) (λl a=>?_)
 have key:∀m:List (wL:Ty).den,fits (len m)=true->aj (fits<|plus (len ([]:List (wL:Ty).den))<|len m) (some<|app [] m) none=some m:=by
  intro m c;have e:plus (len ([]:List (wL:Ty).den)) (len m)=len m:=by simp[plus,len]
  rw[e,c];rfl
 exact tn (b:=aj (fits<|plus (len ([]:List (wL:Ty).den))<|len (α:=(wL:Ty).den) l) (some<|app (α:=(wL:Ty).den) [] l) none) (by rfl) (key l a)
theorem dy:gk Tryz.prog 367 (.own wL (.pair (.int .i64) ab9) true aS):=by
 have a:Den Tryz.prog wL 98:=by
  show eV Tryz.prog wL false 98 0 []=true
  kernel_rfl
 obtain⟨f,g,b,c,h,i⟩:=a.info;exact DA (e:=wL) (ρ:=(⟨λx=>if x=29 then 368 else if x=30 then 369 else 367,λx=>if x=24 then 47 else if x=9 then 98 else if x=3 then 3 else if x=4 then 4 else 0,λx=>x⟩:Go.Shelf.Ren)) (nm := "slices.Insert[[]cooperage/api.TreeNode,cooperage/api.TreeNode]") ⟨mix,Tryz.func367.trans (congrArg some<|by kernel_rfl),
  λd w=>run_callFunc_extern (e:=Extern.SlicesOverlaps.overlaps #[47,47] #[4]) Tryz.func368 (by kernel_rfl) (by kernel_rfl) (by kernel_rfl) (by kernel_rfl) d w,
  by kernel_rfl,by kernel_rfl,by kernel_rfl,λw=>by simp[Go.sizeOf,b,c]<;>kernel_rfl,by simp[b,c]<;>kernel_rfl⟩ (by decide) a (by kernel_rfl) (by decide) (by decide)
theorem yB:∀p∈Lo,gk Tryz.prog p.1 p.2:=(gl dC<|gl dy ya)
theorem Ed(b:List (Nat×xL))(a:List (Nat×xQ))(c:List (String×xL):=[]):Nq (wF b a c):=RX (cx:=wF b a c) (show(yA.all λp=>UD p.2)=true by kernel_rfl)
def cU:fm:=vv
theorem Ap{b:List (Nat×xL)}{a:List (Nat×xQ)}{c:List (String×xL)}(i:∀p∈b,Holds Tryz.prog cU p.1 p.2)(e:∀p∈a,eN Tryz.prog cU p.1 p.2)(j:∀p∈c,kF Tryz.prog cU p.1 p.2){f:Nat}{l:Func}{A R:Ty}{d:A.den->Option R.den}(k:find yA f=some l)(n:l.body.isSome=true)
  (o:∀x,sem (wF b a c) 12 py f A R x=d x):Holds Tryz.prog cU f ⟨A,R,d⟩:=by
 obtain⟨m,g⟩:=Ik.1 n;exact Dy mix (Ec b a c) (jQ i e yB j) (Ed b a c) (f:=f) k g (λx y h=>by rw[o];exact h)
theorem FN{b:List (Nat×xL)}{a:List (Nat×xQ)}{c:List (String×xL)}(i:∀p∈b,Holds Tryz.prog cU p.1 p.2)(e:∀p∈a,eN Tryz.prog cU p.1 p.2)(j:∀p∈c,kF Tryz.prog cU p.1 p.2){f:Nat}{l:Func}{m:List Bool}{A:Ty}{U:OT}{R:Ty}{d:A.den×U.den->Option (R.den×U.den)}(k:find yA f=some l)(o:l.body.isSome=true)
  (q:∀x,Xq (wF b a c) 12 py f m A U R x=d x):eN Tryz.prog cU f ⟨m,A,U,R,d⟩:=by
 obtain⟨n,g⟩:=Ik.1 o;exact BI mix (Ec b a c) (jQ i e yB j) (Ed b a c) (f:=f) k g (λx y h=>by rw[q];exact h)
theorem Ba{d:List (Nat×xL)}{a:List (Nat×xQ)}{e:List (String×xL)}(g:∀p∈d,Holds Tryz.prog cU p.1 p.2)(c:∀p∈a,eN Tryz.prog cU p.1 p.2)(h:∀p∈e,kF Tryz.prog cU p.1 p.2)(j:Func){f:Nat}{A R:Ty}{b:A.den->Option R.den}(i:find yA f=some j:=by rfl)(k:j.body.isSome=true:=by kernel_rfl)
 (l:∀x,sem (wF d a e) 12 py f A R x=b x:=by intro x;kernel_rfl):Holds Tryz.prog cU f ⟨A,R,b⟩:=Ap g c h i k l
theorem ar{b:List (Nat×xL)}(c:∀p∈b,Holds Tryz.prog cU p.1 p.2)(e:Func){f:Nat}{A R:Ty}{a:A.den->Option R.den}(d:find yA f=some e:=by rfl)(g:e.body.isSome=true:=by kernel_rfl)
 (h:∀x,sem (wF b [] []) 12 py f A R x=a x:=by intro x;kernel_rfl):Holds Tryz.prog cU f ⟨A,R,a⟩:=Ap c dF eK d g h
theorem qC{d:List (Nat×xL)}{a:List (Nat×xQ)}{e:List (String×xL)}(g:∀p∈d,Holds Tryz.prog cU p.1 p.2)(c:∀p∈a,eN Tryz.prog cU p.1 p.2)(h:∀p∈e,kF Tryz.prog cU p.1 p.2)(j:Func){f:Nat}{k:List Bool}{A:Ty}{U:OT}{R:Ty}{b:A.den×U.den->Option (R.den×U.den)}(i:find yA f=some j:=by rfl)(l:j.body.isSome=true:=by kernel_rfl)
 (m:∀x,Xq (wF d a e) 12 py f k A U R x=b x:=by intro x;kernel_rfl):eN Tryz.prog cU f ⟨k,A,U,R,b⟩:=FN g c h i l m
abbrev az:=Holds Tryz.prog cU
theorem tj:az 158 ⟨(.pair (.slice .str) Et),Qc,er⟩:=ar al Tryz.f158
theorem fj:az 86 ⟨(.pair (.slice .str) Et),Zf,bu⟩:=ar (ag tj al) Tryz.f86
theorem mX:az 284 ⟨(.pair .str<|.pair (.int .u8) .unit),Qc,cI⟩:=ar al Tryz.f284
theorem n8:az 312 ⟨Et,(.pair (.int .u32)<|.pair (.int .u32) .unit),gr⟩:=ar al Tryz.f312
theorem km:az 285 ⟨Zg,Qc,eH⟩:=ar (ag n8 al) Tryz.f285
theorem Bl:az 241 ⟨Zg,Qc,n0⟩:=ar (ag mX<|ag km al) Tryz.f241
theorem lO:az 163 ⟨Et,Zg,fD⟩:=ar (ag Bl al) Tryz.f163
theorem jq:az 194 ⟨Zg,Zf,cj⟩:=ar al Tryz.f194
theorem n9:az 132 ⟨Zg,Zf,cp⟩:=ar (ag jq al) Tryz.f132
theorem HB:Holds Tryz.prog cU 287 ⟨Zg,ab8,s9⟩:=R4 Tryz.func287 (by kernel_rfl) (by kernel_rfl) (λs b w a=>Any.Ct Tryz.Xg (by kernel_rfl) s b w a)
theorem oI:az 245 ⟨Et,ab8,eS⟩:=ar (ag HB al) Tryz.f245
theorem qD:Holds Tryz.prog cU 286 ⟨(.pair .str<|.pair (.int .u8) .unit),Qc,eX⟩:=Pk (spec:=λs c=>Lib.indexByte s (show Int from c).toNat.toUInt8) Tryz.func286 (by kernel_rfl) (by kernel_rfl) (λs c=>yX _ s) (λs c w=>by
 go_enter Tryz.func286,Tryz.ntmps286
 go_wp2
 rw[run_callFunc_extern Tryz.func313 (by kernel_rfl) (by kernel_rfl) (by kernel_rfl) (e:=Extern.BytealgIndexByte.indexByte)<|by kernel_rfl,Lib.run_indexByteString];simp only[Result.andThen];rw[Oper.upon_value]
 go_wp2
 go_ret
 exact⟨rfl,rfl⟩)
theorem jK:az 243 ⟨(.pair .str<|.pair (.int .u8) .unit),Qc,cN⟩:=ar (ag qD al) Tryz.f243
theorem KZ:az 281 ⟨Et,Zf,qb⟩:=ar (ag jK al) Tryz.f281
theorem K0:Holds Tryz.prog cU 282 ⟨(.pair (.slice .str) Et),Et,uM⟩:=UO Tryz.func282 (by kernel_rfl) (by kernel_rfl) Tryz.strings_Join_none Tryz.strings_Join
theorem BR:az 236 ⟨Et,(.pair .str Qc),om⟩:=ar (ag n9<|ag oI<|ag KZ<|ag K0 al) Tryz.f236
theorem qE:az 311 ⟨Zg,(.pair .str Zf),eY⟩:=ar (ag jq al) Tryz.f311
theorem Bm:az 283 ⟨Zg,(.pair .str Zf),jD⟩:=ar (ag qE al) Tryz.f283
theorem Ee:az 237 ⟨Et,(.pair (.int .i64) Et),qc⟩:=ar (ag fj<|ag n9<|ag Bm al) Tryz.f237
theorem Mo:az 242 ⟨Et,Zf,r8⟩:=ar (ag lO<|ag BR<|ag Ee al) Tryz.f242
theorem Oi:az 164 ⟨(.pair wL .unit),Zf,xA⟩:=ar (ag Mo<|ag jK al) Tryz.f164
theorem CJ:az 271 ⟨Et,Zf,hR⟩:=ar al Tryz.f271
theorem Aq:az 246 ⟨Zg,Qc,jg⟩:=ar (ag CJ al) Tryz.f246
theorem y9:az 165 ⟨Zg,Qc,kX⟩:=ar (ag oI<|ag Aq al) Tryz.f165
theorem HC:az 289 ⟨(.pair wL Et),Qc,la⟩:=ar (ag y9 al) Tryz.f289
theorem yC:az 247 ⟨(.pair (.slice wL) Et),(.pair (.int .i64) Zf),dV⟩:=ar (ag HC al) Tryz.f247
theorem K1:az 166 ⟨(.pair (.slice wL) Et),Qc,mO⟩:=ar (ag yC al) Tryz.f166
theorem kP:az 92 ⟨ab9,Qc,e7⟩:=ar (ag lO<|ag Oi<|ag y9<|ag K1 al) Tryz.f92
theorem tk:az 355 ⟨(.pair (.slice .str) ab8),Zf,et⟩:=ar al Tryz.f355
theorem wG:az 351 ⟨Zg,Zf,cX⟩:=ar (ag oI<|ag tk al) Tryz.f351
theorem dD:Holds Tryz.prog cU 353 ⟨ab9,ab9,lZ⟩:=by
 refine vC (P:=Tryz.prog) (cx:=wF [] []) (bf:=[5]) (e:=wL) (tid:=47) (fn:=Tryz.f353) (s0:=λl=>(uB (λ_=>none) [.data (.slice wL) l]).put 2 (.data (.slice wL) ([]:List (wL:Ty).den))) mix (Ec [] []) (jQ al dF yB eK) Tryz.func353 (by kernel_rfl)
  (by rfl) rfl (by decide) (by decide) rfl rfl rfl rfl rfl rfl (λl=>by rfl) (λl=>rfl) (λl=>rfl) (λl=>rfl) (λl=>by rfl) (λl a=>?_)
 have key:∀m:List (wL:Ty).den,fits (len m)=true->aj (fits<|plus (len ([]:List (wL:Ty).den))<|len m) (some ((app [] m,()):(Ty.pair (.slice wL) .unit).den)) none=some (m,()):=by
  intro m c;have e:plus (len ([]:List (wL:Ty).den)) (len m)=len m:=by simp[plus,len]
  rw[e,c];rfl
 exact tn (b:=aj (fits<|plus (len ([]:List (wL:Ty).den))<|len (α:=(wL:Ty).den) l) (some ((app (α:=(wL:Ty).den) [] l,()):(Ty.pair (.slice wL) .unit).den)) none) (by rfl) (key l a)
theorem VR:az 366 ⟨(.pair (.slice wL)<|.pair wL .unit),(.pair (.slice wL) Qc),ru⟩:=ar (ag kP<|ag lO<|ag Oi<|ag K1<|ag yC<|ag wG<|ag dD al) Tryz.f366
end Go.Proofs.YtdpbdiikloedbaaGreatDoor.First
