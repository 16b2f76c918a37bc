/- The layer's functions keep their contracts: each comes to its plain definition, by the ghost interpreter. -/
import Derived.Test.YtpcimoekpbilgaaGreatDoorRows
import Derived.Test.YtpcimoekpbilgaaGreatDoorPlE
import Derived.Test.YtpcimoekpbilgaaGreatDoorShelf
namespace Go.Proofs.YtpcimoekpbilgaaGreatDoor.First
open Go Go.Ge
set_option linter.unusedVariables false
set_option maxRecDepth 100000

abbrev YF0:Ty:=(.pair .str (.pair (.int .i64) (.pair (.int .i64) (.pair .str (.pair .str .unit)))))
abbrev YF1:Ty:=(.pair .str .unit)
abbrev YF2:Ty:=(.pair (.int .i64) .unit)
abbrev YF3:Ty:=(.pair .str (.pair (.int .i64) (.pair (.int .i64) (.pair (.int .i64) (.pair (.int .i64) (.pair (.int .i64) (.pair (.int .i64) YF1)))))))
abbrev YF4:Ty:=(.pair .bool .unit)
abbrev YF5:Ty:=(.pair .str YF1)
abbrev YF6:Ty:=(.pair (.slice YF0) .unit)
noncomputable def plans:Nat→FPlan
 | 24=>⟨[none,some ⟨[(2,27),(12,3)],[],false⟩,none,none],[]⟩
 | 41=>⟨[none],[]⟩
 | 42=>⟨[none,none,none,none],[]⟩
 | 43=>⟨[],[]⟩
 | 44=>⟨[none,none,none],[]⟩
 | 58=>⟨[none,none,none,none,none],[]⟩
 | 59=>⟨[],[]⟩
 | 60=>⟨[],[]⟩
 | 61=>⟨[some ⟨[(6,3),(13,3)],[2],false⟩,none,none,none,none],[]⟩
 | 62=>⟨[none],[]⟩
 | 63=>⟨[none,none,none,none,none],[]⟩
 | 64=>⟨[],[]⟩
 | 65=>⟨[some ⟨[(2,9),(3,27),(4,47),(11,3)],[4],false⟩,none,some ⟨[(2,9),(3,27),(4,47)],[4],false⟩,none,none],[4]⟩
 | 66=>⟨[none,none,none],[]⟩
 | 81=>⟨[some ⟨[(4,3),(5,3)],[],false⟩,none,none],[]⟩
 | 82=>⟨[some ⟨[(9,125),(10,3)],[],false⟩,none,none,some ⟨[(4,3),(9,125),(11,3)],[],false⟩,none,none],[]⟩
 | 85=>⟨[],[]⟩
 | 86=>⟨[some ⟨[(9,3),(10,3)],[1,2],false⟩,none,some ⟨[(9,3),(10,3)],[],false⟩],[]⟩
 | 87=>⟨[],[]⟩
 | 88=>⟨[some ⟨[(2,4),(6,3)],[],false⟩,none,none],[]⟩
 | 90=>⟨[],[]⟩
 | 91=>⟨[],[]⟩
 | 92=>⟨[],[]⟩
 | 109=>⟨[some ⟨[(4,125),(5,3)],[],false⟩,none,some ⟨[(6,125),(7,125),(8,3)],[],false⟩,none,some ⟨[(6,125)],[],false⟩],[]⟩
 | 115=>⟨[],[]⟩
 | 116=>⟨[none],[]⟩
 | 117=>⟨[some ⟨[(4,3),(8,3)],[],false⟩,none,none],[]⟩
 | 165=>⟨[],[]⟩
 | 166=>⟨[none],[9]⟩
 | 167=>⟨[],[]⟩
 | 168=>⟨[],[]⟩
 | 169=>⟨[none,some ⟨[(5,3),(6,3),(0,999999)],[0,1],false⟩,none,some ⟨[(5,3),(0,999999)],[0],false⟩],[]⟩
 | 170=>⟨[none],[5]⟩
 | 171=>⟨[],[]⟩
 | 172=>⟨[none,some ⟨[(4,4),(13,3)],[],false⟩,none,none],[]⟩
 | 173=>⟨[some ⟨[(4,3),(8,3)],[1],false⟩,none,none],[]⟩
 | 183=>⟨[none,none,none,none],[55]⟩
 | _=>⟨[],[]⟩

def objs:List (Nat×List OFld):=[(133,[.self,.buf (.int .u8) 5]),(98,[])]
def els:List (Nat×Nat):=[(51,5)]
noncomputable def spc:List (Nat×Spc):=[(170,.clone YF0),(184,(.own YF0 (.pair (.int .i64) YF6) true P_slices_Insert_api_TreeNode_api_TreeNode))]
noncomputable def tys:List (Nat×Ty):=[(3,(.int .i64)),(4,.bool),(5,(.int .u8)),(9,.str),(21,(.int .i32)),(22,(.slice YF0)),(23,(.slice (.pair YF3 YF1))),(27,(.int .i64)),(36,YF3),(38,(.pair YF3 YF1)),(41,YF0),(47,(.slice .str)),(51,(.slice (.int .u8))),(53,(.slice (.alt 94 YF1 (.alt 96 YF1 (.alt 98 .unit (.alt 100 (.pair YF0 .unit) .noi)))))),(57,(.alt 94 YF1 (.alt 96 YF1 (.alt 98 .unit (.alt 100 (.pair YF0 .unit) .noi))))),(94,YF1),(96,YF1),(100,(.pair YF0 .unit)),(102,(.pair .bool (.pair .str (.pair (.int .i64) (.pair .bool YF4))))),(116,(.arr 256 .bool)),(125,(.int .u32)),(129,(.int .u64)),(130,(.arr 2 .str)),(146,(.pair (.int .i64) YF2)),(147,(.arr 11 (.pair (.int .i64) YF2))),(158,(.arr 256 (.int .u8))),(160,(.pair (.int .u8) (.pair (.int .u8) .unit))),(161,(.arr 16 (.pair (.int .u8) (.pair (.int .u8) .unit))))]
noncomputable def funs:List (Nat×Func):=[(24,Tryz.f24),(41,Tryz.f41),(42,Tryz.f42),(43,Tryz.f43),(44,Tryz.f44),(58,Tryz.f58),(59,Tryz.f59),(60,Tryz.f60),(61,Tryz.f61),(62,Tryz.f62),(63,Tryz.f63),(64,Tryz.f64),(65,Tryz.f65),(66,Tryz.f66),(81,Tryz.f81),(82,Tryz.f82),(85,Tryz.f85),(86,Tryz.f86),(87,Tryz.f87),(88,Tryz.f88),(90,Tryz.f90),(91,Tryz.f91),(92,Tryz.f92),(109,Tryz.f109),(115,Tryz.f115),(116,Tryz.f116),(117,Tryz.f117),(165,Tryz.f165),(166,Tryz.f166),(167,Tryz.f167),(168,Tryz.f168),(169,Tryz.f169),(170,Tryz.f170),(171,Tryz.f171),(172,Tryz.f172),(173,Tryz.f173),(183,Tryz.f183)]
def ones:List Nat:=[66,67,80,83,109,120,131,153]
def ptrs:List Nat:=[83,120,131,153]
noncomputable def cxOf (con:List (Nat×Con)) (rcon:List (Nat×RCon)) (inv:List (String×Con):=[]):Ctx:=⟨tys,ones,ptrs,funs,con,rcon,objs,spc,els,inv⟩

theorem mix:Tryz.prog.follows .mixedOrders=true:=by kernel_rfl

theorem T_ok:∀ tid t,find tys tid=some t→Den Tryz.prog t tid:=tys_ok (by kernel_rfl)
theorem ones_ok:∀ tid,memN ones tid=true→(∀ w,(isAgg tid).run Tryz.prog w = .ok false w)∧(∀ w,(Go.sizeOf tid).run Tryz.prog w = .ok 1 w)∧∃ z,(∀ w,(zeroValue tid).run Tryz.prog w = .ok z w)∧z.oneCell'=true:=ones_of (by kernel_rfl)
theorem ptrs_ok:∀ tid,memN ptrs tid=true→∃ e,Tryz.prog.underlying tid=some (.pointer e):=ptrs_of (by kernel_rfl)
theorem fns_ok:∀ f fn,find funs f=some fn→Tryz.prog.funcs[f]? = some fn:=fns_of ((fns_cons Tryz.func24 (fns_cons Tryz.func41 (fns_cons Tryz.func42 (fns_cons Tryz.func43 (fns_cons Tryz.func44 (fns_cons Tryz.func58 (fns_cons Tryz.func59 (fns_cons Tryz.func60 (fns_cons Tryz.func61 (fns_cons Tryz.func62 (fns_cons Tryz.func63 (fns_cons Tryz.func64 (fns_cons Tryz.func65 (fns_cons Tryz.func66 (fns_cons Tryz.func81 (fns_cons Tryz.func82 (fns_cons Tryz.func85 (fns_cons Tryz.func86 (fns_cons Tryz.func87 (fns_cons Tryz.func88 (fns_cons Tryz.func90 (fns_cons Tryz.func91 (fns_cons Tryz.func92 (fns_cons Tryz.func109 (fns_cons Tryz.func115 (fns_cons Tryz.func116 (fns_cons Tryz.func117 (fns_cons Tryz.func165 (fns_cons Tryz.func166 (fns_cons Tryz.func167 (fns_cons Tryz.func168 (fns_cons Tryz.func169 (fns_cons Tryz.func170 (fns_cons Tryz.func171 (fns_cons Tryz.func172 (fns_cons Tryz.func173 (fns_cons Tryz.func183 fns_nil))))))))))))))))))))))))))))))))))))))
theorem objs_ok:∀ tid fs,find objs tid=some fs→objB Tryz.prog tid fs=true:=objs_of (by kernel_rfl)
theorem els_ok:∀ tid e,find els tid=some e→Tryz.prog.underlying tid=some (.slice e):=els_of (by kernel_rfl)
theorem cx_ok (con:List (Nat×Con)) (rcon:List (Nat×RCon)) (inv:List (String×Con):=[]):CxOk Tryz.prog (cxOf con rcon inv):=⟨T_ok,ones_ok,ptrs_ok,fns_ok,objs_ok,els_ok⟩
noncomputable def cx0:Ctx:=⟨tys,ones,ptrs,funs,[],[],objs,[],els,[]⟩
theorem cx0_ok:CxOk Tryz.prog cx0:=⟨T_ok,ones_ok,ptrs_ok,fns_ok,objs_ok,els_ok⟩
theorem s_slices_Clone_api_TreeNode_api_TreeNode:SpcOk Tryz.prog 170 (.clone YF0):=by
 refine clone_own (P:=Tryz.prog) (cx:=cx0) (bf:=[2,5]) (e:=YF0) (tid:=22) (fn:=Tryz.f170) (s0:=fun l=>((argSt (fun _=>none) [.data (.slice YF0) l]).setBox 2 { val:=.data (.slice YF0) ([]:List (YF0:Ty).den),tid:=0,buf:=true,ro:=false,lk:=false,ver:=0 }).put 2 (.whole 2 0)) mix cx0_ok (conOk_of con_nil rcon_nil spc_nil inv_nil) Tryz.func170 (by kernel_rfl)
  (by rfl) rfl (by decide) (by decide) rfl rfl rfl rfl rfl rfl (fun l=>by rfl) (fun l=>rfl) (fun l=>rfl) (fun l=>rfl) (fun l=>by rfl) (fun l hl=>?_)
 have key:∀ m:List (YF0:Ty).den,fits (len m)=true→sel (fits (plus (len ([]:List (YF0:Ty).den)) (len m))) (some (app [] m)) none=some m:=by
  intro m hm
  have e:plus (len ([]:List (YF0:Ty).den)) (len m)=len m:=by simp [plus,len]
  rw [e,hm]
  rfl
 exact Eq.trans (b:=sel (fits (plus (len ([]:List (YF0:Ty).den)) (len (α:=(YF0:Ty).den) l))) (some (app (α:=(YF0:Ty).den) [] l)) none) (by rfl) (key l hl)
theorem s_slices_Insert_api_TreeNode_api_TreeNode:SpcOk Tryz.prog 184 (.own YF0 (.pair (.int .i64) YF6) true P_slices_Insert_api_TreeNode_api_TreeNode):=by
 have hden:Den Tryz.prog YF0 41:=by
  show denG Tryz.prog YF0 false 41 0 []=true
  kernel_rfl
 obtain ⟨ie,ze,e1,e2,e3,e4⟩:=hden.info
 exact ins_own (e := YF0) (ρ := (⟨fun x => if x = 29 then 185 else if x = 30 then 186 else 184, fun x => if x = 24 then 22 else if x = 9 then 41 else if x = 3 then 3 else if x = 4 then 4 else 0, fun x => x⟩ : Go.Shelf.Ren)) (nm := "slices.Insert[[]cooperage/api.TreeNode,cooperage/api.TreeNode]") ⟨mix, Tryz.func184.trans (congrArg some (by kernel_rfl)),
  fun xs w=>run_callFunc_extern (e:=Extern.SlicesOverlaps.overlaps #[22,22] #[4]) Tryz.func185 (by kernel_rfl) (by kernel_rfl) (by kernel_rfl) (by kernel_rfl) xs w,
  by kernel_rfl,by kernel_rfl,by kernel_rfl,fun w=>by simp [Go.sizeOf,e1,e2] <;> kernel_rfl,by simp [e1,e2] <;> kernel_rfl⟩ (by decide) hden (by kernel_rfl) (by decide) (by decide)
theorem spc_ok:∀ p ∈ spc,SpcOk Tryz.prog p.1 p.2:=(spc_cons s_slices_Clone_api_TreeNode_api_TreeNode (spc_cons s_slices_Insert_api_TreeNode_api_TreeNode spc_nil))
theorem funs_ok (con:List (Nat×Con)) (rcon:List (Nat×RCon)) (inv:List (String×Con):=[]):FnsOk (cxOf con rcon inv):=fnsOk_of (cx:=cxOf con rcon inv) (show (funs.all fun p=>fnOk p.2)=true by kernel_rfl)

def glob:Globs:=noGlobs
theorem holds_at {con:List (Nat×Con)} {rcon:List (Nat×RCon)} {inv:List (String×Con)} (hcon:∀ p ∈ con,Holds Tryz.prog glob p.1 p.2) (hrcon:∀ p ∈ rcon,RHolds Tryz.prog glob p.1 p.2) (hinv:∀ p ∈ inv,IHolds Tryz.prog glob p.1 p.2) {f:Nat} {fn:Func} {A R:Ty} {spec:A.den→Option R.den} (hfn:find funs f=some fn) (hb:fn.body.isSome=true)
  (hs:∀ x,sem (cxOf con rcon inv) 12 plans f A R x=spec x):Holds Tryz.prog glob f ⟨A,R,spec⟩:=by
 obtain ⟨code,hcode⟩:=Option.isSome_iff_exists.1 hb
 exact holds_of_sem mix (cx_ok con rcon inv) (conOk_of hcon hrcon spc_ok hinv) (funs_ok con rcon inv) (f:=f) hfn hcode (fun x y h=>by rw [hs];exact h)

theorem rholds_at {con:List (Nat×Con)} {rcon:List (Nat×RCon)} {inv:List (String×Con)} (hcon:∀ p ∈ con,Holds Tryz.prog glob p.1 p.2) (hrcon:∀ p ∈ rcon,RHolds Tryz.prog glob p.1 p.2) (hinv:∀ p ∈ inv,IHolds Tryz.prog glob p.1 p.2) {f:Nat} {fn:Func} {ps:List Bool} {A U R:Ty} {spec:A.den×U.den→Option (R.den×U.den)} (hfn:find funs f=some fn) (hb:fn.body.isSome=true)
  (hs:∀ x,semR (cxOf con rcon inv) 12 plans f ps A U R x=spec x):RHolds Tryz.prog glob f ⟨ps,A,U,R,spec⟩:=by
 obtain ⟨code,hcode⟩:=Option.isSome_iff_exists.1 hb
 exact rholds_of_sem mix (cx_ok con rcon inv) (conOk_of hcon hrcon spc_ok hinv) (funs_ok con rcon inv) (f:=f) hfn hcode (fun x y h=>by rw [hs];exact h)

noncomputable def c_internal_bytealg_LastIndexByteString:Con:=⟨(.pair .str (.pair (.int .u8) .unit)),YF2,P_internal_bytealg_LastIndexByteString⟩
theorem h_internal_bytealg_LastIndexByteString:Holds Tryz.prog glob 81 c_internal_bytealg_LastIndexByteString:=holds_at (con:=[]) (rcon:=[]) (inv:=[]) (con_nil) (rcon_nil) (inv_nil) (fn:=Tryz.f81) rfl (by kernel_rfl) (fun x=>by kernel_rfl)
noncomputable def c_internal_bytealg_hashStrRev_string:Con:=⟨YF1,(.pair (.int .u32) (.pair (.int .u32) .unit)),P_internal_bytealg_hashStrRev_string⟩
theorem h_internal_bytealg_hashStrRev_string:Holds Tryz.prog glob 109 c_internal_bytealg_hashStrRev_string:=holds_at (con:=[]) (rcon:=[]) (inv:=[]) (con_nil) (rcon_nil) (inv_nil) (fn:=Tryz.f109) rfl (by kernel_rfl) (fun x=>by kernel_rfl)
noncomputable def c_internal_bytealg_LastIndexRabinKarp_string:Con:=⟨YF5,YF2,P_internal_bytealg_LastIndexRabinKarp_string⟩
theorem h_internal_bytealg_LastIndexRabinKarp_string:Holds Tryz.prog glob 82 c_internal_bytealg_LastIndexRabinKarp_string:=holds_at (con:=[(109,c_internal_bytealg_hashStrRev_string)]) (rcon:=[]) (inv:=[]) ((con_cons h_internal_bytealg_hashStrRev_string con_nil)) (rcon_nil) (inv_nil) (fn:=Tryz.f82) rfl (by kernel_rfl) (fun x=>by kernel_rfl)
noncomputable def c_strings_LastIndex:Con:=⟨YF5,YF2,P_strings_LastIndex⟩
theorem h_strings_LastIndex:Holds Tryz.prog glob 58 c_strings_LastIndex:=holds_at (con:=[(81,c_internal_bytealg_LastIndexByteString),(82,c_internal_bytealg_LastIndexRabinKarp_string)]) (rcon:=[]) (inv:=[]) ((con_cons h_internal_bytealg_LastIndexByteString (con_cons h_internal_bytealg_LastIndexRabinKarp_string con_nil))) (rcon_nil) (inv_nil) (fn:=Tryz.f58) rfl (by kernel_rfl) (fun x=>by kernel_rfl)
noncomputable def c_paths_Split:Con:=⟨YF1,YF5,P_paths_Split⟩
theorem h_paths_Split:Holds Tryz.prog glob 41 c_paths_Split:=holds_at (con:=[(58,c_strings_LastIndex)]) (rcon:=[]) (inv:=[]) ((con_cons h_strings_LastIndex con_nil)) (rcon_nil) (inv_nil) (fn:=Tryz.f41) rfl (by kernel_rfl) (fun x=>by kernel_rfl)
noncomputable def c_strings_Split:Con:=⟨YF5,(.pair (.slice .str) .unit),P_strings_Split⟩
theorem h_strings_Split:Holds Tryz.prog glob 84 c_strings_Split:=holds_split Tryz.func84 (by kernel_rfl) (by kernel_rfl) (fun s b w hs=>Any.strings_Split_byte Tryz.lays146 (by kernel_rfl) s b w hs)
noncomputable def c_paths_Parts:Con:=⟨YF1,(.pair (.slice .str) .unit),P_paths_Parts⟩
theorem h_paths_Parts:Holds Tryz.prog glob 62 c_paths_Parts:=holds_at (con:=[(84,c_strings_Split)]) (rcon:=[]) (inv:=[]) ((con_cons h_strings_Split con_nil)) (rcon_nil) (inv_nil) (fn:=Tryz.f62) rfl (by kernel_rfl) (fun x=>by kernel_rfl)
noncomputable def c_internal_stringslite_IndexByte:Con:=⟨(.pair .str (.pair (.int .u8) .unit)),YF2,P_internal_stringslite_IndexByte⟩
theorem h_internal_stringslite_IndexByte:Holds Tryz.prog glob 83 c_internal_stringslite_IndexByte:=holds_str_u8 (spec:=fun s c=>Lib.indexByte s (show Int from c).toNat.toUInt8) Tryz.func83 (by kernel_rfl) (by kernel_rfl) (fun s c=>indexByte_range _ s) (fun s c w=>by
 go_enter Tryz.func83,Tryz.ntmps83
 go_wp2
 rw [run_callFunc_extern Tryz.func110 (by kernel_rfl) (by kernel_rfl) (by kernel_rfl) (e:=Extern.BytealgIndexByte.indexByte) (by kernel_rfl),Lib.run_indexByteString]
 simp only [Result.andThen]
 rw [Oper.upon_value]
 go_wp2
 go_ret
 exact ⟨rfl,rfl⟩)
noncomputable def c_strings_IndexByte:Con:=⟨(.pair .str (.pair (.int .u8) .unit)),YF2,P_strings_IndexByte⟩
theorem h_strings_IndexByte:Holds Tryz.prog glob 60 c_strings_IndexByte:=holds_at (con:=[(83,c_internal_stringslite_IndexByte)]) (rcon:=[]) (inv:=[]) ((con_cons h_internal_stringslite_IndexByte con_nil)) (rcon_nil) (inv_nil) (fn:=Tryz.f60) rfl (by kernel_rfl) (fun x=>by kernel_rfl)
noncomputable def c_paths_isName:Con:=⟨YF1,YF4,P_paths_isName⟩
theorem h_paths_isName:Holds Tryz.prog glob 88 c_paths_isName:=holds_at (con:=[(60,c_strings_IndexByte)]) (rcon:=[]) (inv:=[]) ((con_cons h_strings_IndexByte con_nil)) (rcon_nil) (inv_nil) (fn:=Tryz.f88) rfl (by kernel_rfl) (fun x=>by kernel_rfl)
noncomputable def c_strings_Join:Con:=⟨(.pair (.slice .str) YF1),YF1,P_strings_Join⟩
theorem h_strings_Join:Holds Tryz.prog glob 89 c_strings_Join:=holds_join Tryz.func89 (by kernel_rfl) (by kernel_rfl) Tryz.strings_Join_none Tryz.strings_Join
noncomputable def c_internal_stringslite_HasPrefix:Con:=⟨YF5,YF4,P_internal_stringslite_HasPrefix⟩
theorem h_internal_stringslite_HasPrefix:Holds Tryz.prog glob 115 c_internal_stringslite_HasPrefix:=holds_at (con:=[]) (rcon:=[]) (inv:=[]) (con_nil) (rcon_nil) (inv_nil) (fn:=Tryz.f115) rfl (by kernel_rfl) (fun x=>by kernel_rfl)
noncomputable def c_strings_HasPrefix:Con:=⟨YF5,YF4,P_strings_HasPrefix⟩
theorem h_strings_HasPrefix:Holds Tryz.prog glob 90 c_strings_HasPrefix:=holds_at (con:=[(115,c_internal_stringslite_HasPrefix)]) (rcon:=[]) (inv:=[]) ((con_cons h_internal_stringslite_HasPrefix con_nil)) (rcon_nil) (inv_nil) (fn:=Tryz.f90) rfl (by kernel_rfl) (fun x=>by kernel_rfl)
noncomputable def c_paths_Clean:Con:=⟨YF1,(.pair .str YF2),P_paths_Clean⟩
theorem h_paths_Clean:Holds Tryz.prog glob 65 c_paths_Clean:=holds_at (con:=[(62,c_paths_Parts),(88,c_paths_isName),(89,c_strings_Join),(90,c_strings_HasPrefix)]) (rcon:=[]) (inv:=[]) ((con_cons h_paths_Parts (con_cons h_paths_isName (con_cons h_strings_Join (con_cons h_strings_HasPrefix con_nil))))) (rcon_nil) (inv_nil) (fn:=Tryz.f65) rfl (by kernel_rfl) (fun x=>by kernel_rfl)
noncomputable def c_internal_stringslite_CutPrefix:Con:=⟨YF5,(.pair .str YF4),P_internal_stringslite_CutPrefix⟩
theorem h_internal_stringslite_CutPrefix:Holds Tryz.prog glob 116 c_internal_stringslite_CutPrefix:=holds_at (con:=[(115,c_internal_stringslite_HasPrefix)]) (rcon:=[]) (inv:=[]) ((con_cons h_internal_stringslite_HasPrefix con_nil)) (rcon_nil) (inv_nil) (fn:=Tryz.f116) rfl (by kernel_rfl) (fun x=>by kernel_rfl)
noncomputable def c_strings_CutPrefix:Con:=⟨YF5,(.pair .str YF4),P_strings_CutPrefix⟩
theorem h_strings_CutPrefix:Holds Tryz.prog glob 91 c_strings_CutPrefix:=holds_at (con:=[(116,c_internal_stringslite_CutPrefix)]) (rcon:=[]) (inv:=[]) ((con_cons h_internal_stringslite_CutPrefix con_nil)) (rcon_nil) (inv_nil) (fn:=Tryz.f91) rfl (by kernel_rfl) (fun x=>by kernel_rfl)
noncomputable def c_slices_Index_string_string:Con:=⟨(.pair (.slice .str) YF1),YF2,P_slices_Index_string_string⟩
theorem h_slices_Index_string_string:Holds Tryz.prog glob 117 c_slices_Index_string_string:=holds_at (con:=[]) (rcon:=[]) (inv:=[]) (con_nil) (rcon_nil) (inv_nil) (fn:=Tryz.f117) rfl (by kernel_rfl) (fun x=>by kernel_rfl)
noncomputable def c_slices_Contains_string_string:Con:=⟨(.pair (.slice .str) YF1),YF4,P_slices_Contains_string_string⟩
theorem h_slices_Contains_string_string:Holds Tryz.prog glob 92 c_slices_Contains_string_string:=holds_at (con:=[(117,c_slices_Index_string_string)]) (rcon:=[]) (inv:=[]) ((con_cons h_slices_Index_string_string con_nil)) (rcon_nil) (inv_nil) (fn:=Tryz.f92) rfl (by kernel_rfl) (fun x=>by kernel_rfl)
noncomputable def c_paths_Mark:Con:=⟨YF1,(.pair (.int .i64) YF1),P_paths_Mark⟩
theorem h_paths_Mark:Holds Tryz.prog glob 66 c_paths_Mark:=holds_at (con:=[(90,c_strings_HasPrefix),(91,c_strings_CutPrefix),(92,c_slices_Contains_string_string)]) (rcon:=[]) (inv:=[]) ((con_cons h_strings_HasPrefix (con_cons h_strings_CutPrefix (con_cons h_slices_Contains_string_string con_nil)))) (rcon_nil) (inv_nil) (fn:=Tryz.f66) rfl (by kernel_rfl) (fun x=>by kernel_rfl)
noncomputable def c_tree_isPath:Con:=⟨YF1,YF4,P_tree_isPath⟩
theorem h_tree_isPath:Holds Tryz.prog glob 59 c_tree_isPath:=holds_at (con:=[(41,c_paths_Split),(65,c_paths_Clean),(66,c_paths_Mark)]) (rcon:=[]) (inv:=[]) ((con_cons h_paths_Split (con_cons h_paths_Clean (con_cons h_paths_Mark con_nil)))) (rcon_nil) (inv_nil) (fn:=Tryz.f59) rfl (by kernel_rfl) (fun x=>by kernel_rfl)
noncomputable def c_tree_is:Con:=⟨(.pair YF0 .unit),YF4,P_tree_is⟩
theorem h_tree_is:Holds Tryz.prog glob 42 c_tree_is:=holds_at (con:=[(59,c_tree_isPath),(60,c_strings_IndexByte)]) (rcon:=[]) (inv:=[]) ((con_cons h_tree_isPath (con_cons h_strings_IndexByte con_nil))) (rcon_nil) (inv_nil) (fn:=Tryz.f42) rfl (by kernel_rfl) (fun x=>by kernel_rfl)
noncomputable def c_cmp_isNaN_string:Con:=⟨YF1,YF4,P_cmp_isNaN_string⟩
theorem h_cmp_isNaN_string:Holds Tryz.prog glob 85 c_cmp_isNaN_string:=holds_at (con:=[]) (rcon:=[]) (inv:=[]) (con_nil) (rcon_nil) (inv_nil) (fn:=Tryz.f85) rfl (by kernel_rfl) (fun x=>by kernel_rfl)
noncomputable def c_cmp_Compare_string:Con:=⟨YF5,YF2,P_cmp_Compare_string⟩
theorem h_cmp_Compare_string:Holds Tryz.prog glob 63 c_cmp_Compare_string:=holds_at (con:=[(85,c_cmp_isNaN_string)]) (rcon:=[]) (inv:=[]) ((con_cons h_cmp_isNaN_string con_nil)) (rcon_nil) (inv_nil) (fn:=Tryz.f63) rfl (by kernel_rfl) (fun x=>by kernel_rfl)
noncomputable def c_paths_Compare:Con:=⟨YF5,YF2,P_paths_Compare⟩
theorem h_paths_Compare:Holds Tryz.prog glob 43 c_paths_Compare:=holds_at (con:=[(62,c_paths_Parts),(63,c_cmp_Compare_string)]) (rcon:=[]) (inv:=[]) ((con_cons h_paths_Parts (con_cons h_cmp_Compare_string con_nil))) (rcon_nil) (inv_nil) (fn:=Tryz.f43) rfl (by kernel_rfl) (fun x=>by kernel_rfl)
noncomputable def c_tree_place_c1:Con:=⟨(.pair YF0 YF1),YF2,P_tree_place_c1⟩
theorem h_tree_place_c1:Holds Tryz.prog glob 87 c_tree_place_c1:=holds_at (con:=[(43,c_paths_Compare)]) (rcon:=[]) (inv:=[]) ((con_cons h_paths_Compare con_nil)) (rcon_nil) (inv_nil) (fn:=Tryz.f87) rfl (by kernel_rfl) (fun x=>by kernel_rfl)
noncomputable def c_tree_place:Con:=⟨(.pair (.slice YF0) YF1),(.pair (.int .i64) YF4),P_tree_place⟩
theorem h_tree_place:Holds Tryz.prog glob 64 c_tree_place:=holds_at (con:=[(87,c_tree_place_c1)]) (rcon:=[]) (inv:=[]) ((con_cons h_tree_place_c1 con_nil)) (rcon_nil) (inv_nil) (fn:=Tryz.f64) rfl (by kernel_rfl) (fun x=>by kernel_rfl)
noncomputable def c_tree_dir:Con:=⟨(.pair (.slice YF0) YF1),YF2,P_tree_dir⟩
theorem h_tree_dir:Holds Tryz.prog glob 44 c_tree_dir:=holds_at (con:=[(64,c_tree_place)]) (rcon:=[]) (inv:=[]) ((con_cons h_tree_place con_nil)) (rcon_nil) (inv_nil) (fn:=Tryz.f44) rfl (by kernel_rfl) (fun x=>by kernel_rfl)
noncomputable def c_tree_Check:Con:=⟨YF6,YF2,P_tree_Check⟩
theorem h_tree_Check:Holds Tryz.prog glob 24 c_tree_Check:=holds_at (con:=[(41,c_paths_Split),(42,c_tree_is),(43,c_paths_Compare),(44,c_tree_dir)]) (rcon:=[]) (inv:=[]) ((con_cons h_paths_Split (con_cons h_tree_is (con_cons h_paths_Compare (con_cons h_tree_dir con_nil))))) (rcon_nil) (inv_nil) (fn:=Tryz.f24) rfl (by kernel_rfl) (fun x=>by kernel_rfl)
noncomputable def c_slices_Equal_string_string:Con:=⟨(.pair (.slice .str) (.pair (.slice .str) .unit)),YF4,P_slices_Equal_string_string⟩
theorem h_slices_Equal_string_string:Holds Tryz.prog glob 172 c_slices_Equal_string_string:=holds_at (con:=[]) (rcon:=[]) (inv:=[]) (con_nil) (rcon_nil) (inv_nil) (fn:=Tryz.f172) rfl (by kernel_rfl) (fun x=>by kernel_rfl)
noncomputable def c_paths_Under:Con:=⟨YF5,YF4,P_paths_Under⟩
theorem h_paths_Under:Holds Tryz.prog glob 168 c_paths_Under:=holds_at (con:=[(62,c_paths_Parts),(172,c_slices_Equal_string_string)]) (rcon:=[]) (inv:=[]) ((con_cons h_paths_Parts (con_cons h_slices_Equal_string_string con_nil))) (rcon_nil) (inv_nil) (fn:=Tryz.f168) rfl (by kernel_rfl) (fun x=>by kernel_rfl)
noncomputable def c_slices_Clone_api_TreeNode_api_TreeNode:Con:=⟨YF6,YF6,P_slices_Clone_api_TreeNode_api_TreeNode⟩
theorem h_slices_Clone_api_TreeNode_api_TreeNode:Holds Tryz.prog glob 170 c_slices_Clone_api_TreeNode_api_TreeNode:=by
 refine clone_holds (P:=Tryz.prog) (cx:=cxOf [] []) (bf:=[5]) (e:=YF0) (tid:=22) (fn:=Tryz.f170) (s0:=fun l=>(argSt (fun _=>none) [.data (.slice YF0) l]).put 2 (.data (.slice YF0) ([]:List (YF0:Ty).den))) mix (cx_ok [] []) (conOk_of con_nil rcon_nil spc_ok inv_nil) Tryz.func170 (by kernel_rfl)
  (by rfl) rfl (by decide) (by decide) rfl rfl rfl rfl rfl rfl (fun l=>by rfl) (fun l=>rfl) (fun l=>rfl) (fun l=>rfl) (fun l=>by rfl) (fun l hl=>?_)
 have key:∀ m:List (YF0:Ty).den,fits (len m)=true→sel (fits (plus (len ([]:List (YF0:Ty).den)) (len m))) (some ((app [] m,()):(Ty.pair (.slice YF0) .unit).den)) none=some (m,()):=by
  intro m hm
  have e:plus (len ([]:List (YF0:Ty).den)) (len m)=len m:=by simp [plus,len]
  rw [e,hm]
  rfl
 exact Eq.trans (b:=sel (fits (plus (len ([]:List (YF0:Ty).den)) (len (α:=(YF0:Ty).den) l))) (some ((app (α:=(YF0:Ty).den) [] l,()):(Ty.pair (.slice YF0) .unit).den)) none) (by rfl) (key l hl)
noncomputable def c_tree_Put:Con:=⟨(.pair (.slice YF0) (.pair YF0 .unit)),(.pair (.slice YF0) YF2),P_tree_Put⟩
theorem h_tree_Put:Holds Tryz.prog glob 183 c_tree_Put:=holds_at (con:=[(24,c_tree_Check),(41,c_paths_Split),(42,c_tree_is),(44,c_tree_dir),(64,c_tree_place),(168,c_paths_Under),(170,c_slices_Clone_api_TreeNode_api_TreeNode)]) (rcon:=[]) (inv:=[]) ((con_cons h_tree_Check (con_cons h_paths_Split (con_cons h_tree_is (con_cons h_tree_dir (con_cons h_tree_place (con_cons h_paths_Under (con_cons h_slices_Clone_api_TreeNode_api_TreeNode con_nil)))))))) (rcon_nil) (inv_nil) (fn:=Tryz.f183) rfl (by kernel_rfl) (fun x=>by kernel_rfl)
end Go.Proofs.YtpcimoekpbilgaaGreatDoor.First
