/- The layer's functions keep their contracts: each comes to its plain definition, by the ghost interpreter. -/
import Derived.Test.YtjkmocnbjhpilaaGreatDoorRows
import Derived.Test.YtjkmocnbjhpilaaGreatDoorPlE
import Derived.Test.YtjkmocnbjhpilaaGreatDoorShelf
namespace Go.Proofs.YtjkmocnbjhpilaaGreatDoor.First
open Go Go.Ge
set_option linter.unusedVariables false
set_option maxRecDepth 100000
abbrev tN:Ty:=(.pair .str (.pair (.int .i64) (.pair (.int .i64) (.pair .str (.pair .str .unit)))))
abbrev Bn:Ty:=(.pair .str .unit)
abbrev NV:Ty:=(.pair (.int .i64) .unit)
abbrev YD:Ty:=(.pair .str (.pair (.int .i64) (.pair (.int .i64) (.pair (.int .i64) (.pair (.int .i64) (.pair (.int .i64) (.pair (.int .i64) Bn)))))))
abbrev Qa:Ty:=(.pair .bool .unit)
abbrev SE:Ty:=(.pair .str Bn)
abbrev W5:Ty:=(.pair (.slice tN) .unit)
noncomputable def eO:Nat→vw
 | 22=>⟨[none],[]⟩
 | 31=>⟨[none,some ⟨[(2,27),(12,3)],[],false⟩,none,none],[]⟩
 | 49=>⟨[],[]⟩
 | 50=>⟨[none,none,none,none,none],[]⟩
 | 56=>⟨[none,none,none,none],[]⟩
 | 57=>⟨[],[]⟩
 | 58=>⟨[none,none,none],[]⟩
 | 71=>⟨[some ⟨[(9,3),(10,3)],[1,2],false⟩,none,some ⟨[(9,3),(10,3)],[],false⟩],[]⟩
 | 72=>⟨[],[]⟩
 | 73=>⟨[some ⟨[(4,3),(5,3)],[],false⟩,none,none],[]⟩
 | 74=>⟨[some ⟨[(9,145),(10,3)],[],false⟩,none,none,some ⟨[(4,3),(9,145),(11,3)],[],false⟩,none,none],[]⟩
 | 76=>⟨[],[]⟩
 | 77=>⟨[],[]⟩
 | 78=>⟨[some ⟨[(6,3),(13,3)],[2],false⟩,none,none,none,none],[]⟩
 | 79=>⟨[none],[]⟩
 | 80=>⟨[none,none,none,none,none],[]⟩
 | 81=>⟨[some ⟨[(2,9),(3,27),(4,74),(11,3)],[4],false⟩,none,some ⟨[(2,9),(3,27),(4,74)],[4],false⟩,none,none],[4]⟩
 | 82=>⟨[none,none,none],[]⟩
 | 97=>⟨[some ⟨[(4,145),(5,3)],[],false⟩,none,some ⟨[(6,145),(7,145),(8,3)],[],false⟩,none,some ⟨[(6,145)],[],false⟩],[]⟩
 | 100=>⟨[],[]⟩
 | 101=>⟨[some ⟨[(2,4),(6,3)],[],false⟩,none,none],[]⟩
 | 103=>⟨[],[]⟩
 | 104=>⟨[],[]⟩
 | 105=>⟨[],[]⟩
 | 122=>⟨[],[]⟩
 | 123=>⟨[none],[]⟩
 | 124=>⟨[some ⟨[(4,3),(8,3)],[],false⟩,none,none],[]⟩
 | 167=>⟨[],[]⟩
 | 168=>⟨[none],[9]⟩
 | 169=>⟨[],[]⟩
 | 170=>⟨[],[]⟩
 | 171=>⟨[none,some ⟨[(5,3),(6,3),(0,999999)],[0,1],false⟩,none,some ⟨[(5,3),(0,999999)],[0],false⟩],[]⟩
 | 172=>⟨[none],[5]⟩
 | 173=>⟨[],[]⟩
 | 174=>⟨[none,some ⟨[(4,4),(13,3)],[],false⟩,none,none],[]⟩
 | 175=>⟨[some ⟨[(4,3),(8,3)],[1],false⟩,none,none],[]⟩
 | 184=>⟨[none,none,none,none],[55]⟩
 | _=>⟨[],[]⟩
def nV:List (Nat×List kK):=[(89,[.self,.buf (.int .u8) 5]),(124,[])]
def els:List (Nat×Nat):=[(87,5)]
noncomputable def JR:List (Nat×OM):=[(172,.clone tN),(185,(.own tN (.pair (.int .i64) W5) true aH))]
noncomputable def tys:List (Nat×Ty):=[(3,(.int .i64)),(4,.bool),(5,(.int .u8)),(9,.str),(21,(.int .i32)),(22,(.slice tN)),(26,(.slice (.pair YD Bn))),(27,(.int .i64)),(37,tN),(43,(.slice (.pair (.int .i64) Bn))),(48,(.pair (.int .i64) Bn)),(50,YD),(52,(.pair YD Bn)),(65,(.slice (.alt 120 Bn (.alt 122 Bn (.alt 124 .unit (.alt 126 (.pair tN .unit) .vQ)))))),(69,(.alt 120 Bn (.alt 122 Bn (.alt 124 .unit (.alt 126 (.pair tN .unit) .vQ))))),(74,(.slice .str)),(85,(.arr 4 .str)),(87,(.slice (.int .u8))),(113,(.int .u64)),(120,Bn),(122,Bn),(126,(.pair tN .unit)),(128,(.arr 512 (.int .u8))),(130,(.pair (.int .i64) NV)),(131,(.arr 11 (.pair (.int .i64) NV))),(139,(.pair .bool (.pair .str (.pair (.int .i64) (.pair .bool Qa))))),(145,(.int .u32)),(154,(.arr 21 (.int .u8))),(160,(.arr 256 .bool)),(167,(.arr 2 .str)),(170,(.int .u64)),(181,(.arr 256 (.int .u8))),(183,(.pair (.int .u8) (.pair (.int .u8) .unit))),(184,(.arr 16 (.pair (.int .u8) (.pair (.int .u8) .unit))))]
noncomputable def Cd:List (Nat×Func):=[(22,Tryz.f22),(31,Tryz.f31),(49,Tryz.f49),(50,Tryz.f50),(56,Tryz.f56),(57,Tryz.f57),(58,Tryz.f58),(71,Tryz.f71),(72,Tryz.f72),(73,Tryz.f73),(74,Tryz.f74),(76,Tryz.f76),(77,Tryz.f77),(78,Tryz.f78),(79,Tryz.f79),(80,Tryz.f80),(81,Tryz.f81),(82,Tryz.f82),(97,Tryz.f97),(100,Tryz.f100),(101,Tryz.f101),(103,Tryz.f103),(104,Tryz.f104),(105,Tryz.f105),(122,Tryz.f122),(123,Tryz.f123),(124,Tryz.f124),(167,Tryz.f167),(168,Tryz.f168),(169,Tryz.f169),(170,Tryz.f170),(171,Tryz.f171),(172,Tryz.f172),(173,Tryz.f173),(174,Tryz.f174),(175,Tryz.f175),(184,Tryz.f184)]
def mU:List Nat:=[40,42,79,81,83,84,86,107,114,116,135,164]
def tP:List Nat:=[86,107,114,164]
noncomputable def Dy(cF:List (Nat×cZ))(bg:List (Nat×s7))(inv:List (String×cZ):=[]):Ctx:=⟨tys,mU,tP,Cd,cF,bg,nV,JR,els,inv⟩
theorem mix:Tryz.prog.follows .mixedOrders=true:=by kernel_rfl
theorem NW:∀tid t,find tys tid=some t→Den Tryz.prog t tid:=Rn (by kernel_rfl)
theorem A2:∀tid,cT mU tid=true→(∀w,(isAgg tid).run Tryz.prog w=.ok false w)∧(∀w,(Go.sizeOf tid).run Tryz.prog w=.ok 1 w)∧∃z,(∀w,(zeroValue tid).run Tryz.prog w=.ok z w)∧z.oneCell'=true:=Og (by kernel_rfl)
theorem A3:∀tid,cT tP tid=true→∃e,Tryz.prog.underlying tid=some (.pointer e):=Oh (by kernel_rfl)
theorem FX:∀f fn,find Cd f=some fn→Tryz.prog.funcs[f]?=some fn:=Ro ((ak Tryz.func22 (ak Tryz.func31 (ak Tryz.func49 (ak Tryz.func50 (ak Tryz.func56 (ak Tryz.func57 (ak Tryz.func58 (ak Tryz.func71 (ak Tryz.func72 (ak Tryz.func73 (ak Tryz.func74 (ak Tryz.func76 (ak Tryz.func77 (ak Tryz.func78 (ak Tryz.func79 (ak Tryz.func80 (ak Tryz.func81 (ak Tryz.func82 (ak Tryz.func97 (ak Tryz.func100 (ak Tryz.func101 (ak Tryz.func103 (ak Tryz.func104 (ak Tryz.func105 (ak Tryz.func122 (ak Tryz.func123 (ak Tryz.func124 (ak Tryz.func167 (ak Tryz.func168 (ak Tryz.func169 (ak Tryz.func170 (ak Tryz.func171 (ak Tryz.func172 (ak Tryz.func173 (ak Tryz.func174 (ak Tryz.func175 (ak Tryz.func184 Oi))))))))))))))))))))))))))))))))))))))
theorem A4:∀tid fs,find nV tid=some fs→Ec Tryz.prog tid fs=true:=Oj (by kernel_rfl)
theorem FY:∀tid e,find els tid=some e→Tryz.prog.underlying tid=some (.slice e):=Rp (by kernel_rfl)
theorem Im(cF:List (Nat×cZ))(bg:List (Nat×s7))(inv:List (String×cZ):=[]):eG Tryz.prog (Dy cF bg inv):=⟨NW,A2,A3,FX,A4,FY⟩
noncomputable def Qh:Ctx:=⟨tys,mU,tP,Cd,[],[],nV,[],els,[]⟩
theorem NX:eG Tryz.prog Qh:=⟨NW,A2,A3,FX,A4,FY⟩
theorem cO:nu Tryz.prog 172 (.clone tN):=by
 refine HK (P:=Tryz.prog) (cx:=Qh) (bf:=[2,5]) (e:=tN) (tid:=22) (fn:=Tryz.f172) (s0:=fun l=>((Cm (fun _=>none) [.data (.slice tN) l]).bX 2 { val:=.data (.slice tN) ([]:List (tN:Ty).den),tid:=0,buf:=true,ro:=false,lk:=false,ax:=0 }).put 2 (.whole 2 0)) mix NX (rT aB av DU aC) Tryz.func172 (by kernel_rfl)
  (by rfl) rfl (by decide) (by decide) rfl rfl rfl rfl rfl rfl (fun l=>by rfl) (fun l=>rfl) (fun l=>rfl) (fun l=>rfl) (fun l=>by rfl) (fun l hl=>?_)
 have key:∀m:List (tN:Ty).den,fits (len m)=true→au (fits (plus (len ([]:List (tN:Ty).den)) (len m))) (some (app [] m)) none=some m:=by
  intro m hm
  have e:plus (len ([]:List (tN:Ty).den)) (len m)=len m:=by simp[plus,len]
  rw[e,hm]
  rfl
 exact Eq.trans (b:=au (fits (plus (len ([]:List (tN:Ty).den)) (len (α:=(tN:Ty).den) l))) (some (app (α:=(tN:Ty).den) [] l)) none) (by rfl) (key l hl)
theorem cJ:nu Tryz.prog 185 (.own tN (.pair (.int .i64) W5) true aH):=by
 have Gx:Den Tryz.prog tN 37:=by
  show eK Tryz.prog tN false 37 0 []=true
  kernel_rfl
 obtain⟨ie,ze,e1,e2,e3,e4⟩:=Gx.info
 exact Om (e:=tN) (ρ:=(⟨fun x=>if x=29 then 186 else if x=30 then 187 else 185,fun x=>if x=24 then 22 else if x=9 then 37 else if x=3 then 3 else if x=4 then 4 else 0,fun x=>x⟩:Go.Shelf.Ren)) (nm := "slices.Insert[[]cooperage/api.TreeNode,cooperage/api.TreeNode]") ⟨mix,Tryz.func185.trans (congrArg some (by kernel_rfl)),
  fun xs w=>run_callFunc_extern (e:=Extern.SlicesOverlaps.overlaps #[22,22] #[4]) Tryz.func186 (by kernel_rfl) (by kernel_rfl) (by kernel_rfl) (by kernel_rfl) xs w,
  by kernel_rfl,by kernel_rfl,by kernel_rfl,fun w=>by simp[Go.sizeOf,e1,e2]<;>kernel_rfl,by simp[e1,e2]<;>kernel_rfl⟩ (by decide) Gx (by kernel_rfl) (by decide) (by decide)
theorem Ce:∀p∈JR,nu Tryz.prog p.1 p.2:=(uj cO (uj cJ DU))
theorem A5(cF:List (Nat×cZ))(bg:List (Nat×s7))(inv:List (String×cZ):=[]):HF (Dy cF bg inv):=KM (cx:=Dy cF bg inv) (show(Cd.all fun p=>M6 p.2)=true by kernel_rfl)
def aU:eJ:=sG
theorem ay{cF:List (Nat×cZ)}{bg:List (Nat×s7)}{inv:List (String×cZ)}(dG:∀p∈cF,Holds Tryz.prog aU p.1 p.2)(FZ:∀p∈bg,jb Tryz.prog aU p.1 p.2)(hinv:∀p∈inv,mg Tryz.prog aU p.1 p.2){f:Nat}{fn:Func}{A R:Ty}{spec:A.den→Option R.den}(hfn:find Cd f=some fn)(hb:fn.body.isSome=true)
  (hs:∀x,sem (Dy cF bg inv) 12 eO f A R x=spec x):Holds Tryz.prog aU f ⟨A,R,spec⟩:=by
 obtain⟨code,F0⟩:=Option.isSome_iff_exists.1 hb
 exact AA mix (Im cF bg inv) (rT dG FZ Ce hinv) (A5 cF bg inv) (f:=f) hfn F0 (fun x y h=>by rw[hs];exact h)
theorem oR{cF:List (Nat×cZ)}{bg:List (Nat×s7)}{inv:List (String×cZ)}(dG:∀p∈cF,Holds Tryz.prog aU p.1 p.2)(FZ:∀p∈bg,jb Tryz.prog aU p.1 p.2)(hinv:∀p∈inv,mg Tryz.prog aU p.1 p.2){f:Nat}{fn:Func}{ps:List Bool}{A U R:Ty}{spec:A.den×U.den→Option (R.den×U.den)}(hfn:find Cd f=some fn)(hb:fn.body.isSome=true)
  (hs:∀x,SX (Dy cF bg inv) 12 eO f ps A U R x=spec x):jb Tryz.prog aU f ⟨ps,A,U,R,spec⟩:=by
 obtain⟨code,F0⟩:=Option.isSome_iff_exists.1 hb
 exact yA mix (Im cF bg inv) (rT dG FZ Ce hinv) (A5 cF bg inv) (f:=f) hfn F0 (fun x y h=>by rw[hs];exact h)
noncomputable def eS:cZ:=⟨(.pair .str (.pair (.int .u8) .unit)),NV,cj⟩
theorem kI:Holds Tryz.prog aU 73 eS:=ay (cF:=[]) (bg:=[]) (inv:=[]) (aB) (av) (aC) (fn:=Tryz.f73) rfl (by kernel_rfl) (fun x=>by kernel_rfl)
noncomputable def fo:cZ:=⟨Bn,(.pair (.int .u32) (.pair (.int .u32) .unit)),fe⟩
theorem lp:Holds Tryz.prog aU 97 fo:=ay (cF:=[]) (bg:=[]) (inv:=[]) (aB) (av) (aC) (fn:=Tryz.f97) rfl (by kernel_rfl) (fun x=>by kernel_rfl)
noncomputable def dO:cZ:=⟨SE,NV,dM⟩
theorem iO:Holds Tryz.prog aU 74 dO:=ay (cF:=[(97,fo)]) (bg:=[]) (inv:=[]) ((aj lp aB)) (av) (aC) (fn:=Tryz.f74) rfl (by kernel_rfl) (fun x=>by kernel_rfl)
noncomputable def qy:cZ:=⟨SE,NV,ld⟩
theorem yj:Holds Tryz.prog aU 50 qy:=ay (cF:=[(73,eS),(74,dO)]) (bg:=[]) (inv:=[]) ((aj kI (aj iO aB))) (av) (aC) (fn:=Tryz.f50) rfl (by kernel_rfl) (fun x=>by kernel_rfl)
noncomputable def fL:cZ:=⟨Bn,SE,dX⟩
theorem hJ:Holds Tryz.prog aU 22 fL:=ay (cF:=[(50,qy)]) (bg:=[]) (inv:=[]) ((aj yj aB)) (av) (aC) (fn:=Tryz.f22) rfl (by kernel_rfl) (fun x=>by kernel_rfl)
noncomputable def vI:cZ:=⟨SE,(.pair (.slice .str) .unit),qf⟩
theorem Dz:Holds Tryz.prog aU 99 vI:=KV Tryz.func99 (by kernel_rfl) (by kernel_rfl) (fun s b w hs=>Any.zp Tryz.OJ (by kernel_rfl) s b w hs)
noncomputable def jI:cZ:=⟨Bn,(.pair (.slice .str) .unit),dW⟩
theorem lO:Holds Tryz.prog aU 79 jI:=ay (cF:=[(99,vI)]) (bg:=[]) (inv:=[]) ((aj Dz aB)) (av) (aC) (fn:=Tryz.f79) rfl (by kernel_rfl) (fun x=>by kernel_rfl)
noncomputable def gN:cZ:=⟨(.pair .str (.pair (.int .u8) .unit)),NV,ec⟩
theorem nO:Holds Tryz.prog aU 98 gN:=Jg (spec:=fun s c=>Lib.indexByte s (show Int from c).toNat.toUInt8) Tryz.func98 (by kernel_rfl) (by kernel_rfl) (fun s c=>vE _ s) (fun s c w=>by
 go_enter Tryz.func98,Tryz.ntmps98
 go_wp2
 rw[run_callFunc_extern Tryz.func120 (by kernel_rfl) (by kernel_rfl) (by kernel_rfl) (e:=Extern.BytealgIndexByte.indexByte) (by kernel_rfl),Lib.run_indexByteString]
 simp only[Result.andThen]
 rw[Oper.upon_value]
 go_wp2
 go_ret
 exact⟨rfl,rfl⟩)
noncomputable def fq:cZ:=⟨(.pair .str (.pair (.int .u8) .unit)),NV,cv⟩
theorem iu:Holds Tryz.prog aU 77 fq:=ay (cF:=[(98,gN)]) (bg:=[]) (inv:=[]) ((aj nO aB)) (av) (aC) (fn:=Tryz.f77) rfl (by kernel_rfl) (fun x=>by kernel_rfl)
noncomputable def xg:cZ:=⟨Bn,Qa,nA⟩
theorem F1:Holds Tryz.prog aU 101 xg:=ay (cF:=[(77,fq)]) (bg:=[]) (inv:=[]) ((aj iu aB)) (av) (aC) (fn:=Tryz.f101) rfl (by kernel_rfl) (fun x=>by kernel_rfl)
noncomputable def xh:cZ:=⟨(.pair (.slice .str) Bn),Bn,rU⟩
theorem F2:Holds Tryz.prog aU 102 xh:=Nl Tryz.func102 (by kernel_rfl) (by kernel_rfl) Tryz.strings_Join_none Tryz.strings_Join
noncomputable def eu:cZ:=⟨SE,Qa,bT⟩
theorem gO:Holds Tryz.prog aU 122 eu:=ay (cF:=[]) (bg:=[]) (inv:=[]) (aB) (av) (aC) (fn:=Tryz.f122) rfl (by kernel_rfl) (fun x=>by kernel_rfl)
noncomputable def lq:cZ:=⟨SE,Qa,dA⟩
theorem qz:Holds Tryz.prog aU 103 lq:=ay (cF:=[(122,eu)]) (bg:=[]) (inv:=[]) ((aj gO aB)) (av) (aC) (fn:=Tryz.f103) rfl (by kernel_rfl) (fun x=>by kernel_rfl)
noncomputable def tG:cZ:=⟨Bn,(.pair .str NV),lH⟩
theorem yG:Holds Tryz.prog aU 81 tG:=ay (cF:=[(79,jI),(101,xg),(102,xh),(103,lq)]) (bg:=[]) (inv:=[]) ((aj lO (aj F1 (aj F2 (aj qz aB))))) (av) (aC) (fn:=Tryz.f81) rfl (by kernel_rfl) (fun x=>by kernel_rfl)
noncomputable def gP:cZ:=⟨SE,(.pair .str Qa),ef⟩
theorem nP:Holds Tryz.prog aU 123 gP:=ay (cF:=[(122,eu)]) (bg:=[]) (inv:=[]) ((aj gO aB)) (av) (aC) (fn:=Tryz.f123) rfl (by kernel_rfl) (fun x=>by kernel_rfl)
noncomputable def qA:cZ:=⟨SE,(.pair .str Qa),iq⟩
theorem yl:Holds Tryz.prog aU 104 qA:=ay (cF:=[(123,gP)]) (bg:=[]) (inv:=[]) ((aj nP aB)) (av) (aC) (fn:=Tryz.f104) rfl (by kernel_rfl) (fun x=>by kernel_rfl)
noncomputable def jx:cZ:=⟨(.pair (.slice .str) Bn),NV,e7⟩
theorem qk:Holds Tryz.prog aU 124 jx:=ay (cF:=[]) (bg:=[]) (inv:=[]) (aB) (av) (aC) (fn:=Tryz.f124) rfl (by kernel_rfl) (fun x=>by kernel_rfl)
noncomputable def ig:cZ:=⟨(.pair (.slice .str) Bn),Qa,cW⟩
theorem nX:Holds Tryz.prog aU 105 ig:=ay (cF:=[(124,jx)]) (bg:=[]) (inv:=[]) ((aj qk aB)) (av) (aC) (fn:=Tryz.f105) rfl (by kernel_rfl) (fun x=>by kernel_rfl)
noncomputable def vg:cZ:=⟨Bn,(.pair (.int .i64) Bn),nB⟩
theorem A6:Holds Tryz.prog aU 82 vg:=ay (cF:=[(103,lq),(104,qA),(105,ig)]) (bg:=[]) (inv:=[]) ((aj qz (aj yl (aj nX aB)))) (av) (aC) (fn:=Tryz.f82) rfl (by kernel_rfl) (fun x=>by kernel_rfl)
noncomputable def yH:cZ:=⟨Bn,Qa,pz⟩
theorem Hf:Holds Tryz.prog aU 76 yH:=ay (cF:=[(22,fL),(81,tG),(82,vg)]) (bg:=[]) (inv:=[]) ((aj hJ (aj yG (aj A6 aB)))) (av) (aC) (fn:=Tryz.f76) rfl (by kernel_rfl) (fun x=>by kernel_rfl)
noncomputable def Cf:cZ:=⟨(.pair tN .unit),Qa,uu⟩
theorem Io:Holds Tryz.prog aU 56 Cf:=ay (cF:=[(76,yH),(77,fq)]) (bg:=[]) (inv:=[]) ((aj Hf (aj iu aB))) (av) (aC) (fn:=Tryz.f56) rfl (by kernel_rfl) (fun x=>by kernel_rfl)
noncomputable def sx:cZ:=⟨Bn,Qa,fR⟩
theorem zF:Holds Tryz.prog aU 100 sx:=ay (cF:=[]) (bg:=[]) (inv:=[]) (aB) (av) (aC) (fn:=Tryz.f100) rfl (by kernel_rfl) (fun x=>by kernel_rfl)
noncomputable def qa:cZ:=⟨SE,NV,gG⟩
theorem xj:Holds Tryz.prog aU 80 qa:=ay (cF:=[(100,sx)]) (bg:=[]) (inv:=[]) ((aj zF aB)) (av) (aC) (fn:=Tryz.f80) rfl (by kernel_rfl) (fun x=>by kernel_rfl)
noncomputable def lZ:cZ:=⟨SE,NV,e9⟩
theorem ql:Holds Tryz.prog aU 57 lZ:=ay (cF:=[(79,jI),(80,qa)]) (bg:=[]) (inv:=[]) ((aj lO (aj xj aB))) (av) (aC) (fn:=Tryz.f57) rfl (by kernel_rfl) (fun x=>by kernel_rfl)
noncomputable def vJ:cZ:=⟨(.pair tN Bn),NV,jr⟩
theorem DA:Holds Tryz.prog aU 72 vJ:=ay (cF:=[(57,lZ)]) (bg:=[]) (inv:=[]) ((aj ql aB)) (av) (aC) (fn:=Tryz.f72) rfl (by kernel_rfl) (fun x=>by kernel_rfl)
noncomputable def qZ:cZ:=⟨(.pair (.slice tN) Bn),(.pair (.int .i64) Qa),dh⟩
theorem vh:Holds Tryz.prog aU 49 qZ:=ay (cF:=[(72,vJ)]) (bg:=[]) (inv:=[]) ((aj DA aB)) (av) (aC) (fn:=Tryz.f49) rfl (by kernel_rfl) (fun x=>by kernel_rfl)
noncomputable def zG:cZ:=⟨(.pair (.slice tN) Bn),NV,kj⟩
theorem F3:Holds Tryz.prog aU 58 zG:=ay (cF:=[(49,qZ)]) (bg:=[]) (inv:=[]) ((aj vh aB)) (av) (aC) (fn:=Tryz.f58) rfl (by kernel_rfl) (fun x=>by kernel_rfl)
noncomputable def fH:cZ:=⟨W5,NV,dm⟩
theorem gQ:Holds Tryz.prog aU 31 fH:=ay (cF:=[(22,fL),(56,Cf),(57,lZ),(58,zG)]) (bg:=[]) (inv:=[]) ((aj hJ (aj Io (aj ql (aj F3 aB))))) (av) (aC) (fn:=Tryz.f31) rfl (by kernel_rfl) (fun x=>by kernel_rfl)
noncomputable def jy:cZ:=⟨(.pair (.slice .str) (.pair (.slice .str) .unit)),Qa,dH⟩
theorem qm:Holds Tryz.prog aU 174 jy:=ay (cF:=[]) (bg:=[]) (inv:=[]) (aB) (av) (aC) (fn:=Tryz.f174) rfl (by kernel_rfl) (fun x=>by kernel_rfl)
noncomputable def pK:cZ:=⟨SE,Qa,cB⟩
theorem tH:Holds Tryz.prog aU 170 pK:=ay (cF:=[(79,jI),(174,jy)]) (bg:=[]) (inv:=[]) ((aj lO (aj qm aB))) (av) (aC) (fn:=Tryz.f170) rfl (by kernel_rfl) (fun x=>by kernel_rfl)
noncomputable def b6:cZ:=⟨W5,W5,jL⟩
theorem cP:Holds Tryz.prog aU 172 b6:=by
 refine KR (P:=Tryz.prog) (cx:=Dy [] []) (bf:=[5]) (e:=tN) (tid:=22) (fn:=Tryz.f172) (s0:=fun l=>(Cm (fun _=>none) [.data (.slice tN) l]).put 2 (.data (.slice tN) ([]:List (tN:Ty).den))) mix (Im [] []) (rT aB av Ce aC) Tryz.func172 (by kernel_rfl)
  (by rfl) rfl (by decide) (by decide) rfl rfl rfl rfl rfl rfl (fun l=>by rfl) (fun l=>rfl) (fun l=>rfl) (fun l=>rfl) (fun l=>by rfl) (fun l hl=>?_)
 have key:∀m:List (tN:Ty).den,fits (len m)=true→au (fits (plus (len ([]:List (tN:Ty).den)) (len m))) (some ((app [] m,()):(Ty.pair (.slice tN) .unit).den)) none=some (m,()):=by
  intro m hm
  have e:plus (len ([]:List (tN:Ty).den)) (len m)=len m:=by simp[plus,len]
  rw[e,hm]
  rfl
 exact Eq.trans (b:=au (fits (plus (len ([]:List (tN:Ty).den)) (len (α:=(tN:Ty).den) l))) (some ((app (α:=(tN:Ty).den) [] l,()):(Ty.pair (.slice tN) .unit).den)) none) (by rfl) (key l hl)
noncomputable def F4:cZ:=⟨(.pair (.slice tN) (.pair tN .unit)),(.pair (.slice tN) NV),oH⟩
theorem NY:Holds Tryz.prog aU 184 F4:=ay (cF:=[(22,fL),(31,fH),(49,qZ),(56,Cf),(58,zG),(170,pK),(172,b6)]) (bg:=[]) (inv:=[]) ((aj hJ (aj gQ (aj vh (aj Io (aj F3 (aj tH (aj cP aB)))))))) (av) (aC) (fn:=Tryz.f184) rfl (by kernel_rfl) (fun x=>by kernel_rfl)
end Go.Proofs.YtjkmocnbjhpilaaGreatDoor.First
