/- sync.Once at this program's numbers: the parts of its slow road (steps of the kit's worked proof of a Once, turned to this program). -/
import Derived.Test.YtkmbhcglaophaaaChecked
import Derived.Test.YtkmbhcglaophaaaPlB
import Derived.WalkKit
import Derived.BigCall
import Derived.Tactics
import Derived.Tactics2
import Derived.Defers
import Derived.Laws.Pointers
import Derived.Laws.LoneSync
import Derived.RegionTactic
import Derived.RegionCalls
import Derived.ChangeAlike
import Derived.Deep.RegionWith
set_option linter.unusedVariables false
set_option linter.unusedSimpArgs false
set_option linter.unusedSectionVars false
namespace Go.Proofs.Ytkmbhcglaophaaa
open Go Go.Ge Go.RowKit
theorem disable(w:World):(callFunc 63 #[]).run Try.prog w=.ok (.value (.tuple #[])) w:=run_call_mark0 Try.func63 (by kernel_rfl) (by kernel_rfl) (by kernel_rfl) .disable (by kernel_rfl) w
theorem enable(w:World):(callFunc 65 #[]).run Try.prog w=.ok (.value (.tuple #[])) w:=run_call_mark0 Try.func65 (by kernel_rfl) (by kernel_rfl) (by kernel_rfl) .enable (by kernel_rfl) w
theorem acquire(a:Addr)(w:World):(callFunc 66 #[.pointer (some a)]).run Try.prog w=.ok (.value (.tuple #[])) w:=run_call_marked Try.func66 (by kernel_rfl) (by kernel_rfl) (by kernel_rfl) .acquire (by kernel_rfl) a w
theorem releaseMerge(a:Addr)(w:World):(callFunc 68 #[.pointer (some a)]).run Try.prog w=.ok (.value (.tuple #[])) w:=run_call_marked Try.func68 (by kernel_rfl) (by kernel_rfl) (by kernel_rfl) .releaseMerge (by kernel_rfl) a w
set_option maxRecDepth 100000 in
set_option maxHeartbeats 1600000 in
theorem wh(a:Addr)(x:Value)(u:FrameMode)(w:World)(hc:w.cell? a=some x)(hz:w.frozen? a=false) :
  CallsD Try.prog 51 #[.pointer (some a),.bool true] u w fun e u' w'=>u'=u∧(e=.returned (.tuple #[])∧w'=w.drew.setCell a (.int .u32 1)):=by
 have IF:w.drew.cell? a=some x:=by go_simp
 have E5:w.drew.frozen? a=false:=by go_simp
 have hst:=run_call_store (P:=Try.prog) Try.func60 (by kernel_rfl) (by kernel_rfl) (by kernel_rfl) (by kernel_rfl) (k:=.u32) (y:=1) IF E5
 go_enter_d Try.func51,Try.ntmps51
 go_wp2
 go_region_calls
 all_goals (go_end0;exact⟨rfl,rfl⟩)
set_option maxRecDepth 100000 in
set_option maxHeartbeats 1600000 in
theorem tY(a:Addr)(u:FrameMode)(w:World)(hc:w.cell? a=some (.int .i32 1))(hz:w.frozen? a=false) :
  CallsD Try.prog 50 #[.pointer (some a)] u w fun e u' w'=>u'=u∧(e=.returned (.tuple #[])∧w'=w.setCell a (.int .i32 0)):=by
 have hd:=disable;have he:=enable;have hr:=releaseMerge;have M7:=run_call_add (P:=Try.prog) Try.func69 (by kernel_rfl) (by kernel_rfl) (by kernel_rfl) .i32 (by kernel_rfl) (y:=-1) (s:=0) hc hz (by simp[go_sem];rfl);have HY:=run_convert_to_unsafe (P:=Try.prog) (src:=103) (dst:=98) Try.underlying103 Try.underlying98 (by kernel_rfl) hc
 go_enter_d Try.func50,Try.ntmps50
 go_wp2
 go_end0
 go_wp2
 go_end0
 exact⟨rfl,rfl⟩
set_option maxRecDepth 100000 in
set_option maxHeartbeats 1600000 in
theorem EW(a:Addr)(w:World)(hc:w.cell? a=some (.int .i32 0))(hz:w.frozen? a=false) :
  Calls Try.prog 49 #[.pointer (some a)] w fun e w'=>e=.returned (.tuple #[])∧w'=w.setCell a (.int .i32 1):=by
 have hd:=disable;have he:=enable;have ha:=acquire;have Pp:=run_call_cas_hit (P:=Try.prog) Try.func64 (by kernel_rfl) (by kernel_rfl) (by kernel_rfl) .i32 (by kernel_rfl) (y:=1) hc hz;have IF:(w.setCell a (.int .i32 1)).cell? a=some (.int .i32 1):=World.cell?_setCell_same w a _ hc;have HY:=run_convert_to_unsafe (P:=Try.prog) (src:=103) (dst:=98) Try.underlying103 Try.underlying98 (by kernel_rfl) IF
 go_enter Try.func49,Try.ntmps49
 go_wp2
 first|go_end0|(simp only[Exit.inBlock,Exit.then];refine bodyPost_ret (results_none rfl _ _ _) rfl ?_)|refine bodyPost_ret (results_none rfl _ _ _) rfl ?_
 go_wp2
 go_end0
 exact⟨rfl,rfl⟩
set_option maxRecDepth 100000 in
set_option maxHeartbeats 1600000 in
theorem xH(b:Nat)(pl:Addr)(s t:List UInt8)(x4:Value)(w:World)(hb:b<w.heap.size)(hpl:pl.block<w.heap.size)(hne:¬b=pl.block)(hp:w.cell? pl=some (.pointer (some ⟨b,0,none⟩)))
  (Gm:Calls Try.prog 7 #[.string ⟨s.toArray⟩] w.drew fun e w'=>e=.returned (.string ⟨t.toArray⟩)∧Below (w.drew).heap.size (w.drew) w')
  (h0:w.cell? ⟨b,0,none⟩=some (.string ⟨s.toArray⟩)) (h4:w.cell? ⟨b,4,none⟩=some x4) (h5:w.cell? ⟨b,5,none⟩=some (.int .i64 0))
  (f4:w.frozen? ⟨b,4,none⟩=false) (f5:w.frozen? ⟨b,5,none⟩=false) :
  Calls Try.prog 24 #[.pointer (some pl)] w fun e w'=>e=.returned (.tuple #[])∧∃wm,Below w.heap.size w wm∧w'=(wm.setCell ⟨b,4,none⟩ (.string ⟨t.toArray⟩)).setCell ⟨b,5,none⟩ (.int .i64 1):=by
 have hp':w.drew.cell? pl=some (.pointer (some ⟨b,0,none⟩)):=by go_simp
 have h0':w.drew.cell? ⟨b,0,none⟩=some (.string ⟨s.toArray⟩):=by go_simp
 have M8:Calls Try.prog 7 #[.string ⟨s.toArray⟩] w.drew fun e w'=>e=.returned (.string ⟨t.toArray⟩)∧Below w.heap.size w w'∧w'.cell? ⟨b,4,none⟩=some x4∧w'.frozen? ⟨b,4,none⟩=false∧w'.cell? pl=some (.pointer (some ⟨b,0,none⟩))∧w'.cell? ⟨b,0,none⟩=some (.string ⟨s.toArray⟩):=by
  refine Gm.mono ?_;rintro e w' ⟨rfl,hw⟩;have hw:Below w.heap.size w w':=⟨hw.os,hw.tape,hw.output,hw.size,hw.block⟩;exact⟨rfl,hw,(hw.cell hb).trans h4,(hw.frozen hb).trans f4,(hw.cell hpl).trans hp,(hw.cell hb).trans h0⟩
 go_enter Try.func24,Try.ntmps24
 go_wp2
 go_region_with (go_at_call 7;refine M8.mono ?_;rintro e w' ⟨rfl,hw,PL,PM,La,PN⟩)
 all_goals
  have Pq:(w'.setCell ⟨b,4,none⟩ (.string ⟨t.toArray⟩)).cell? ⟨b,5,none⟩=some (.int .i64 0):=(World.cell?_setCell_other _ ⟨b,4,none⟩ ⟨b,5,none⟩ _ (by simp)).trans ((hw.cell hb).trans h5);have M9:w'.frozen? ⟨b,5,none⟩=false:=(hw.frozen hb).trans f5;have Pr:(w'.setCell ⟨b,4,none⟩ (.string ⟨t.toArray⟩)).frozen? ⟨b,5,none⟩=false:=by simp[M9]
  have PO:(w'.setCell ⟨b,4,none⟩ (.string ⟨t.toArray⟩)).cell? pl=some (.pointer (some ⟨b,0,none⟩)):=(World.cell?_setCell_other _ ⟨b,4,none⟩ pl _ (fun h=>hne (by rw[←h]))).trans La;have M7:=run_call_add (P:=Try.prog) Try.func40 (by kernel_rfl) (by kernel_rfl) (by kernel_rfl) .i64 (by kernel_rfl) (y:=1) (s:=1) Pq Pr (by simp[go_sem];rfl)
  go_wp2
  go_end0
  exact⟨rfl,w',hw,rfl⟩
theorem Hr(a:Addr)(d:Int)(w:World)(h0:w.cell? a=some (.int .u32 d)):Calls Try.prog 38 #[.pointer (some a)] w fun e w'=>e=.returned (.bool (d != 0))∧w'=w:=by
 have hl:=run_call_load (P:=Try.prog) Try.func48 (by kernel_rfl) (by kernel_rfl) (by kernel_rfl) .u32 (by kernel_rfl) h0
 go_enter Try.func38,Try.ntmps38
 go_wp2
 go_ret
 exact⟨rfl,rfl⟩
set_option maxRecDepth 100000 in
set_option maxHeartbeats 1600000 in
theorem C3(b:Nat)(pl:Addr)(s t:List UInt8)(x4:Value)(w:World)(hb:b<w.heap.size)(hpl:pl.block<w.heap.size)(hne:¬b=pl.block)(hp:w.cell? pl=some (.pointer (some ⟨b,0,none⟩)))
  (Gm:Calls Try.prog 7 #[.string ⟨s.toArray⟩] (w.setCell ⟨b,2,none⟩ (.int .i32 1)).drew fun e w'=>e=.returned (.string ⟨t.toArray⟩)∧Below ((w.setCell ⟨b,2,none⟩ (.int .i32 1)).drew).heap.size ((w.setCell ⟨b,2,none⟩ (.int .i32 1)).drew) w')
  (h0:w.cell? ⟨b,0,none⟩=some (.string ⟨s.toArray⟩)) (h1:w.cell? ⟨b,1,none⟩=some (.int .u32 0)) (h2:w.cell? ⟨b,2,none⟩=some (.int .i32 0)) (h4:w.cell? ⟨b,4,none⟩=some x4) (h5:w.cell? ⟨b,5,none⟩=some (.int .i64 0))
  (f1:w.frozen? ⟨b,1,none⟩=false) (f2:w.frozen? ⟨b,2,none⟩=false) (f4:w.frozen? ⟨b,4,none⟩=false) (f5:w.frozen? ⟨b,5,none⟩=false) :
  Calls Try.prog 39 #[.pointer (some ⟨b,1,none⟩),.func (.func 24) #[] #[.pointer (some pl)]] w fun e w'=>e=.returned (.tuple #[]) ∧
   ∃wm,Below w.heap.size (w.setCell ⟨b,2,none⟩ (.int .i32 1)) wm∧w'=((((wm.setCell ⟨b,4,none⟩ (.string ⟨t.toArray⟩)).setCell ⟨b,5,none⟩ (.int .i64 1)).drew.setCell ⟨b,1,none⟩ (.int .u32 1)).setCell ⟨b,2,none⟩ (.int .i32 0)):=by
 have hsz:(w.setCell ⟨b,2,none⟩ (.int .i32 1)).heap.size=w.heap.size:=by simp
 have KU:∀j,j≠2→(w.setCell ⟨b,2,none⟩ (.int .i32 1)).cell? ⟨b,j,none⟩=w.cell? ⟨b,j,none⟩:=fun j hj=>World.cell?_setCell_other _ ⟨b,2,none⟩ ⟨b,j,none⟩ _ (by simp<;>omega);have hl:=run_call_load (P:=Try.prog) Try.func48 (by kernel_rfl) (by kernel_rfl) (by kernel_rfl) .u32 (by kernel_rfl) (w:=w.setCell ⟨b,2,none⟩ (.int .i32 1)) (a:=⟨b,1,none⟩) (x:=0) ((KU 1 (by decide)).trans h1);have Mz:(w.setCell ⟨b,2,none⟩ (.int .i32 1)).cell? pl=some (.pointer (some ⟨b,0,none⟩)):=(World.cell?_setCell_other _ ⟨b,2,none⟩ pl _ (fun h=>hne (by rw[←h]))).trans hp;have hnot:∀(x:Bool) (w:World),(Op.unary .not (.bool x)).run Try.prog w=.ok (.bool (!x)) w:=fun _ _=>rfl;have Na:=xH b pl s t x4 (w.setCell ⟨b,2,none⟩ (.int .i32 1)) (by rw[hsz];exact hb) (by rw[hsz];exact hpl) hne Mz Gm ((KU 0 (by decide)).trans h0) ((KU 4 (by decide)).trans h4) ((KU 5 (by decide)).trans h5) (by simp[f4]) (by simp[f5])
 go_enter_defers Try.func39,Try.ntmps39
 go_wp2_with (go_at_call 49;refine(EW ⟨b,2,none⟩ _ (by go_simp) (by go_simp)).mono ?_;rintro e w' ⟨rfl,rfl⟩)
 go_wp2_with (first|(go_at_call 38;refine(Hr ⟨b,1,none⟩ 0 _ ((KU 1 (by decide)).trans h1)).mono ?_;rintro e w' ⟨rfl,rfl⟩)|(go_at_call 24;refine Na.mono ?_;rintro e w' ⟨rfl,wm,Br,rfl⟩))
 have cw:∀j,j≠4→j≠5→((wm.setCell ⟨b,4,none⟩ (.string ⟨t.toArray⟩)).setCell ⟨b,5,none⟩ (.int .i64 1)).cell? ⟨b,j,none⟩=wm.cell? ⟨b,j,none⟩:=fun j h4 h5 =>
  (World.cell?_setCell_other _ ⟨b,5,none⟩ ⟨b,j,none⟩ _ (by simp<;>omega)).trans (World.cell?_setCell_other _ ⟨b,4,none⟩ ⟨b,j,none⟩ _ (by simp<;>omega))
 rw[hsz] at Br;have z:∀j,wm.frozen? ⟨b,j,none⟩=w.frozen? ⟨b,j,none⟩:=fun j=>(Br.frozen (p:=⟨b,j,none⟩) hb).trans (by simp);have w1:wm.cell? ⟨b,1,none⟩=some (.int .u32 0):=(Br.cell (p:=⟨b,1,none⟩) hb).trans ((KU 1 (by decide)).trans h1);have w2:wm.cell? ⟨b,2,none⟩=some (.int .i32 1):=(Br.cell (p:=⟨b,2,none⟩) hb).trans (World.cell?_setCell_same w _ _ h2);try go_wp2
 refine leaves_cons (f:=51) (args:=#[.pointer (some ⟨b,1,none⟩),.bool true]) (by simp) (by simp[go_sem]) ?_;refine(wh ⟨b,1,none⟩ (.int .u32 0) .returning _ ((cw 1 (by decide) (by decide)).trans w1) (by simp[z,f1])).mono ?_;rintro e u' w'' ⟨rfl,rfl,rfl⟩;refine leaves_cons (f:=50) (args:=#[.pointer (some ⟨b,2,none⟩)]) (by simp[settle]) (by simp[go_sem]) ?_;refine(tY ⟨b,2,none⟩ _ _ ?_ (by simp[z,f2])).mono ?_
 ·refine(World.cell?_setCell_other _ ⟨b,1,none⟩ ⟨b,2,none⟩ _ (by simp)).trans ?_;rw[World.cell?_drew];exact(cw 2 (by decide) (by decide)).trans w2
 rintro e u' w'' ⟨rfl,rfl,rfl⟩;simp[Leaves,settle,results,Try.results39];exact⟨wm,Br,rfl⟩
set_option maxRecDepth 100000 in
set_option maxHeartbeats 1600000 in
theorem Hs(b:Nat)(pl:Addr)(s t:List UInt8)(x4:Value)(w:World)(hb:b<w.heap.size)(hpl:pl.block<w.heap.size)(hne:¬b=pl.block)(hp:w.cell? pl=some (.pointer (some ⟨b,0,none⟩)))
  (Gm:Calls Try.prog 7 #[.string ⟨s.toArray⟩] (w.setCell ⟨b,2,none⟩ (.int .i32 1)).drew fun e w'=>e=.returned (.string ⟨t.toArray⟩)∧Below ((w.setCell ⟨b,2,none⟩ (.int .i32 1)).drew).heap.size ((w.setCell ⟨b,2,none⟩ (.int .i32 1)).drew) w')
  (h0:w.cell? ⟨b,0,none⟩=some (.string ⟨s.toArray⟩)) (h1:w.cell? ⟨b,1,none⟩=some (.int .u32 0)) (h2:w.cell? ⟨b,2,none⟩=some (.int .i32 0)) (h4:w.cell? ⟨b,4,none⟩=some x4) (h5:w.cell? ⟨b,5,none⟩=some (.int .i64 0))
  (f1:w.frozen? ⟨b,1,none⟩=false) (f2:w.frozen? ⟨b,2,none⟩=false) (f4:w.frozen? ⟨b,4,none⟩=false) (f5:w.frozen? ⟨b,5,none⟩=false) :
  Calls Try.prog 23 #[.pointer (some ⟨b,1,none⟩),.func (.func 24) #[] #[.pointer (some pl)]] w fun e w'=>e=.returned (.tuple #[]) ∧
   ∃wm,Below w.heap.size (w.setCell ⟨b,2,none⟩ (.int .i32 1)) wm∧w'=((((wm.setCell ⟨b,4,none⟩ (.string ⟨t.toArray⟩)).setCell ⟨b,5,none⟩ (.int .i64 1)).drew.setCell ⟨b,1,none⟩ (.int .u32 1)).setCell ⟨b,2,none⟩ (.int .i32 0)):=by
 have hnot:∀(x:Bool) (w:World),(Op.unary .not (.bool x)).run Try.prog w=.ok (.bool (!x)) w:=fun _ _=>rfl
 go_enter Try.func23,Try.ntmps23
 go_wp2_with (first|(go_at_call 39;refine(C3 b pl s t x4 _ hb hpl hne hp Gm h0 h1 h2 h4 h5 f1 f2 f4 f5).mono ?_;rintro e w' ⟨rfl,hx⟩)|(go_at_call 38;refine(Hr ⟨b,1,none⟩ 0 _ h1).mono ?_;rintro e w' ⟨rfl,rfl⟩))
 go_end0
 exact⟨rfl,hx⟩
theorem Jc(a:Addr)(d:Int)(hd:¬d=0)(fv:Value)(w:World)(h0:w.cell? a=some (.int .u32 d))(b:Nat)(ha:a=⟨b,1,none⟩) :
  Calls Try.prog 23 #[.pointer (some a),fv] w fun e w'=>e=.returned (.tuple #[])∧w'=w:=by
 subst ha;have hnot:∀(x:Bool) (w:World),(Op.unary .not (.bool x)).run Try.prog w=.ok (.bool (!x)) w:=fun _ _=>rfl;have hd':(d != 0)=true:=by simp[hd]
 have hb:=Hr ⟨b,1,none⟩ d w h0;rw[hd'] at hb
 go_enter Try.func23,Try.ntmps23
 go_wp2_with (go_at_call 38;refine hb.mono ?_;rintro e w' ⟨rfl,rfl⟩)
 go_end0
 exact⟨rfl,rfl⟩
set_option maxRecDepth 100000 in
set_option maxHeartbeats 1600000 in
theorem C4(b:Nat)(s t:List UInt8)(x4:Value)(w:World)(hb:b<w.heap.size)
  (Gm:Calls Try.prog 7 #[.string ⟨s.toArray⟩] ((w.alloc (.cells #[.pointer (some ⟨b,0,none⟩)] 27)).setCell ⟨b,2,none⟩ (.int .i32 1)).drew fun e w'=>e=.returned (.string ⟨t.toArray⟩)∧Below (((w.alloc (.cells #[.pointer (some ⟨b,0,none⟩)] 27)).setCell ⟨b,2,none⟩ (.int .i32 1)).drew).heap.size (((w.alloc (.cells #[.pointer (some ⟨b,0,none⟩)] 27)).setCell ⟨b,2,none⟩ (.int .i32 1)).drew) w')
  (h0:w.cell? ⟨b,0,none⟩=some (.string ⟨s.toArray⟩)) (h1:w.cell? ⟨b,1,none⟩=some (.int .u32 0)) (h2:w.cell? ⟨b,2,none⟩=some (.int .i32 0)) (h4:w.cell? ⟨b,4,none⟩=some x4) (h5:w.cell? ⟨b,5,none⟩=some (.int .i64 0))
  (f1:w.frozen? ⟨b,1,none⟩=false) (f2:w.frozen? ⟨b,2,none⟩=false) (f4:w.frozen? ⟨b,4,none⟩=false) (f5:w.frozen? ⟨b,5,none⟩=false) :
  Calls Try.prog 12 #[.pointer (some ⟨b,0,none⟩)] w fun e w'=>e=.returned (.string ⟨t.toArray⟩) ∧
   ∃wm,Below (w.heap.size+1) ((w.alloc (.cells #[.pointer (some ⟨b,0,none⟩)] 27)).setCell ⟨b,2,none⟩ (.int .i32 1)) wm∧w'=((((wm.setCell ⟨b,4,none⟩ (.string ⟨t.toArray⟩)).setCell ⟨b,5,none⟩ (.int .i64 1)).drew.setCell ⟨b,1,none⟩ (.int .u32 1)).setCell ⟨b,2,none⟩ (.int .i32 0)):=by
 have Pt:∀(fn:Fn) (first cap:Array Value) (w:World),(Instr.makeFunc fn first cap).run Try.prog w=.ok (.func fn first cap) w:=fun _ _ _ _=>rfl
 let wA:=w.alloc (.cells #[.pointer (some ⟨b,0,none⟩)] 27)
 have Nb:wA.heap.size=w.heap.size+1:=by simp[wA]
 have cA:∀j,wA.cell? ⟨b,j,none⟩=w.cell? ⟨b,j,none⟩:=fun j=>World.cell?_alloc_past _ _ _ hb;have zA:∀j,wA.frozen? ⟨b,j,none⟩=w.frozen? ⟨b,j,none⟩:=fun j=>World.frozen?_alloc_past _ _ _ hb;have p0:wA.cell? ⟨w.heap.size,0,none⟩=some (.pointer (some ⟨b,0,none⟩)):=by simp[wA]
 have Pu:=Hs b ⟨w.heap.size,0,none⟩ s t x4 wA (by rw[Nb];omega) (by rw[Nb];simp) (by simp;omega) p0 Gm ((cA 0).trans h0) ((cA 1).trans h1) ((cA 2).trans h2) ((cA 4).trans h4) ((cA 5).trans h5) ((zA 1).trans f1) ((zA 2).trans f2) ((zA 4).trans f4) ((zA 5).trans f5);have nb:∀j:Nat,(⟨b,j,none⟩:Addr)≠⟨w.heap.size,0,none⟩:=fun j h=>by
  have:=congrArg Addr.block h;simp at this;omega
 have Nc:Calls Try.prog 23 #[.pointer (some ⟨b,1,none⟩),.func (.func 24) #[] #[.pointer (some ⟨w.heap.size,0,none⟩)]] wA fun e w'=>e=.returned (.tuple #[]) ∧
   (∃wm,Below (w.heap.size+1) (wA.setCell ⟨b,2,none⟩ (.int .i32 1)) wm∧w'=((((wm.setCell ⟨b,4,none⟩ (.string ⟨t.toArray⟩)).setCell ⟨b,5,none⟩ (.int .i64 1)).drew.setCell ⟨b,1,none⟩ (.int .u32 1)).setCell ⟨b,2,none⟩ (.int .i32 0))) ∧
   w'.cell? ⟨w.heap.size,0,none⟩=some (.pointer (some ⟨b,0,none⟩))∧w'.cell? ⟨b,4,none⟩=some (.string ⟨t.toArray⟩):=by
  refine Pu.mono ?_;rintro e w' ⟨rfl,wm,Br,rfl⟩;rw[Nb] at Br;refine⟨rfl,⟨wm,Br,rfl⟩,?_,?_⟩
  ·rw[World.cell?_setCell_other _ _ _ _ (nb _),World.cell?_setCell_other _ _ _ _ (nb _),World.cell?_drew,World.cell?_setCell_other _ _ _ _ (nb _),World.cell?_setCell_other _ _ _ _ (nb _),Br.cell (p:=⟨w.heap.size,0,none⟩) (by simp),World.cell?_setCell_other _ _ _ _ (nb _)];exact p0
  ·rw[World.cell?_setCell_other _ ⟨b,2,none⟩ ⟨b,4,none⟩ _ (by simp),World.cell?_setCell_other _ ⟨b,1,none⟩ ⟨b,4,none⟩ _ (by simp),World.cell?_drew,World.cell?_setCell_other _ ⟨b,5,none⟩ ⟨b,4,none⟩ _ (by simp)];refine World.cell?_setCell_same _ _ _ (u:=x4) ?_;rw[Br.cell (p:=⟨b,4,none⟩) (by simp;omega),World.cell?_setCell_other _ ⟨b,2,none⟩ ⟨b,4,none⟩ _ (by simp)];exact(cA 4).trans h4
 go_enter Try.func12,Try.ntmps12
 go_wp2_with (go_at_call 23;refine Nc.mono ?_;rintro e w' ⟨rfl,hx,PR,PS⟩)
 go_ret
 exact⟨rfl,hx⟩
set_option maxRecDepth 100000 in
set_option maxHeartbeats 1600000 in
theorem C5(b:Nat)(d:Int)(hd:¬d=0)(t:List UInt8)(w:World)(hb:b<w.heap.size)
  (h1:w.cell? ⟨b,1,none⟩=some (.int .u32 d)) (h4:w.cell? ⟨b,4,none⟩=some (.string ⟨t.toArray⟩)) :
  Calls Try.prog 12 #[.pointer (some ⟨b,0,none⟩)] w fun e w'=>e=.returned (.string ⟨t.toArray⟩)∧w'=w.alloc (.cells #[.pointer (some ⟨b,0,none⟩)] 27):=by
 have Pt:∀(fn:Fn) (first cap:Array Value) (w:World),(Instr.makeFunc fn first cap).run Try.prog w=.ok (.func fn first cap) w:=fun _ _ _ _=>rfl;have a1:(w.alloc (.cells #[.pointer (some ⟨b,0,none⟩)] 27)).cell? ⟨b,1,none⟩=some (.int .u32 d):=(World.cell?_alloc_past _ _ _ hb).trans h1;have a4:(w.alloc (.cells #[.pointer (some ⟨b,0,none⟩)] 27)).cell? ⟨b,4,none⟩=some (.string ⟨t.toArray⟩):=(World.cell?_alloc_past _ _ _ hb).trans h4;have p0:(w.alloc (.cells #[.pointer (some ⟨b,0,none⟩)] 27)).cell? ⟨w.heap.size,0,none⟩=some (.pointer (some ⟨b,0,none⟩)):=by simp
 go_enter Try.func12,Try.ntmps12
 go_wp2_with (go_at_call 23;refine(Jc ⟨b,1,none⟩ d hd _ _ a1 b rfl).mono ?_;rintro e w' ⟨rfl,rfl⟩)
 go_ret
 exact⟨rfl,rfl⟩
set_option maxRecDepth 100000 in
set_option maxHeartbeats 1600000 in
theorem C6(b:Nat)(n:Int)(w:World)(h5:w.cell? ⟨b,5,none⟩=some (.int .i64 n)) :
  Calls Try.prog 14 #[.pointer (some ⟨b,0,none⟩)] w fun e w'=>e=.returned (.int .i64 n)∧w'=w:=by
 have hl:=run_call_load (P:=Try.prog) Try.func41 (by kernel_rfl) (by kernel_rfl) (by kernel_rfl) .i64 (by kernel_rfl) h5
 go_enter Try.func14,Try.ntmps14
 go_wp2
 go_ret
 exact⟨rfl,rfl⟩
abbrev yg:OT:=(.pair (.dat .str) (.pair (.dat (.pair .unit (.pair (.pair .unit (.pair (.int .u32) .unit)) (.pair (.pair .unit (.pair (.pair (.int .i32) (.pair (.int .u32) .unit)) .unit)) .unit)))) (.pair (.dat .str) (.pair (.dat (.pair .unit (.pair .unit (.pair (.int .i64) .unit)))) .unit))))
abbrev mw:=List UInt8×(Unit×(Unit×Int×Unit)×(Unit×(Int×Int×Unit)×Unit)×Unit)×List UInt8×(Unit×Unit×Int×Unit)×Unit
def mV(o:mw):List Value:=[.string ⟨o.1.toArray⟩,.int .u32 o.2.1.2.1.2.1,.int .i32 o.2.1.2.2.1.2.1.1,.int .u32 o.2.1.2.2.1.2.1.2.1,.string ⟨o.2.2.1.toArray⟩,.int .i64 o.2.2.2.1.2.2.1]
structure zJ (o:mw):Prop where
 bytes:o.1.length≤maxLen
 text:o.2.2.1.length≤maxLen
 done:IntKind.u32.min≤o.2.1.2.1.2.1∧o.2.1.2.1.2.1≤IntKind.u32.max
 state:IntKind.i32.min≤o.2.1.2.2.1.2.1.1∧o.2.1.2.2.1.2.1.1≤IntKind.i32.max
 Ky:IntKind.u32.min≤o.2.1.2.2.1.2.1.2.1∧o.2.1.2.2.1.2.1.2.1≤IntKind.u32.max
 made:IntKind.i64.min≤o.2.2.2.1.2.2.1∧o.2.2.2.1.2.2.1≤IntKind.i64.max
theorem Ht{w:World}{I:Nat→Nat→Prop}{o:mw}{cs:List Value}{bs:List Nat}{ls:List (Option (Nat×Nat))}(h:kg w I yg o cs bs ls):cs=mV o∧bs=[]∧ls=[]∧zJ o:=by
 obtain⟨c1,r1,b1,Nq,l1,PT,rfl,rfl,rfl,⟨⟨rfl,k1⟩,rfl,rfl⟩,h⟩:=h;obtain⟨c2,r2,b2,PU,l2,Lm,rfl,rfl,rfl,⟨hO,rfl,rfl⟩,h⟩:=h;obtain⟨c3,r3,b3,PV,l3,PW,rfl,rfl,rfl,⟨⟨rfl,k3⟩,rfl,rfl⟩,h⟩:=h;obtain⟨c4,r4,b4,PX,l4,PY,rfl,rfl,rfl,⟨hA,rfl,rfl⟩,rfl,rfl,rfl⟩:=h;obtain⟨e1,e2,rfl,rfl,e3,e4,rfl,⟨e5,e6,rfl,rfl,e7,e8,rfl,⟨rfl,d1,d2⟩,rfl⟩,e9,PZ,rfl,⟨m1,m2,rfl,rfl,m3,m4,rfl,⟨s1,s2,rfl,⟨rfl,HK,M3⟩,s3,s4,rfl,⟨rfl,Pv,Pw⟩,rfl⟩,rfl⟩,rfl⟩:=hO;obtain⟨a1,a2,rfl,rfl,a3,a4,rfl,rfl,a5,a6,rfl,⟨rfl,n1,n2⟩,rfl⟩:=hA;exact⟨rfl,rfl,rfl,k1,k3,⟨d1,d2⟩,⟨HK,M3⟩,⟨Pv,Pw⟩,n1,n2⟩
theorem Hu(w:World)(I:Nat→Nat→Prop){o:mw}(k:zJ o):kg w I yg o (mV o) [] [] :=
 ⟨[_],[_,_,_,_,_],[],[],[],[],rfl,rfl,rfl,⟨⟨rfl,k.bytes⟩,rfl,rfl⟩,
  [_,_,_],[_,_],[],[],[],[],rfl,rfl,rfl,⟨⟨[],[_,_,_],rfl,rfl,[_],[_,_],rfl,⟨[],[_],rfl,rfl,[_],[],rfl,⟨rfl,k.done.1,k.done.2⟩,rfl⟩,[_,_],[],rfl,⟨[],[_,_],rfl,rfl,[_,_],[],rfl,⟨[_],[_],rfl,⟨rfl,k.state.1,k.state.2⟩,[_],[],rfl,⟨rfl,k.Ky.1,k.Ky.2⟩,rfl⟩,rfl⟩,rfl⟩,rfl,rfl⟩,
  [_],[_],[],[],[],[],rfl,rfl,rfl,⟨⟨rfl,k.text⟩,rfl,rfl⟩,
  [_],[],[],[],[],[],rfl,rfl,rfl,⟨⟨[],[_],rfl,rfl,[],[_],rfl,rfl,[_],[],rfl,⟨rfl,k.made.1,k.made.2⟩,rfl⟩,rfl,rfl⟩,rfl,rfl,rfl⟩
theorem Hv{w:World}{b:Nat}{o:mw}{cur:Array Value}{T:TypeId}{fr:Nat×Nat}(h:w.heap[b]?=some (.cells cur T fr))(hc:cur.toList=mV o)(ht:gu cur fr) :
  (∀j v,(mV o)[j]?=some v→w.cell? ⟨b,j,none⟩=some v)∧(∀j,j<6→w.frozen? ⟨b,j,none⟩=false)∧b<w.heap.size:=by
 refine⟨fun j v hj=>?_,fun j hj=>?_,(Array.getElem?_eq_some_iff.1 h).1⟩
 ·rw[←hc] at hj;simp only[World.cell?,h];simpa using hj
 ·have:=ht j (by rw[←Fh,hc];exact hj);simp only[World.frozen?,h];simp only[Jq,Fs];omega
theorem nZ{w:World}{b i:Nat}{cur:Array Value}{T:TypeId}{fr:Nat×Nat}(v:Value)(h:w.heap[b]?=some (.cells cur T fr)):(w.setCell ⟨b,i,none⟩ v).heap[b]?=some (.cells (cur.setIfInBounds i v) T fr):=by
 rw[setCell_eq_setRow w b i cur T fr v h];exact setRow_heap w b cur _ T fr h
theorem oK(w:World){b i k:Nat}(v:Value)(h:k≠b):(w.setCell ⟨b,i,none⟩ v).heap[k]?=w.heap[k]?:=by
 simp[World.setCell,Fg,uB h]
theorem mz(w:World)(o:Obj){k:Nat}(h:k<w.heap.size):(w.alloc o).heap[k]?=w.heap[k]?:=by
 show(w.heap.push o)[k]?=_
 rw[Array.getElem?_push,cY (Nat.ne_of_lt h)]
theorem args1{w:World}{I:Nat→Nat→Prop}{o:OT}{T:Nat}{x:Unit}{args:Array Value}{cO:List Value}(h:xS w I [true] .unit (.pair (.ref T o) .unit) x args.toList cO):∃v,args=#[v]∧cO=[v]:=by
 obtain⟨v,rest,r,ha,hp,_,_,rfl,rfl⟩:=h;exact⟨v,Array.toList_inj.1 ha,hp⟩
theorem NX{w:World}{I:Nat→Nat→Prop}{o:mw}{cO:List Value}{bs:List Nat}{ls:List (Option (Nat×Nat))}(h:kg w I (.pair (.ref 44 yg) .unit) (o,()) cO bs ls) :
  ∃b cur T fr,cO=[.pointer (some ⟨b,0,none⟩)]∧bs=[b]∧ls=[]∧(∀off,¬I b off)∧w.heap[b]?=some (.cells cur T fr)∧cur.toList=mV o∧gu cur fr∧(44=0∨T=44)∧zJ o:=by
 obtain⟨c1,c2,b1,b2,l1,l2,rfl,rfl,rfl,⟨b,r,rfl,rfl,hI,cur,T,fr,hh,ht,hT,ho⟩,rfl,rfl,rfl⟩:=h;obtain⟨hc,rfl,rfl,hk⟩:=Ht ho;exact⟨b,cur,T,fr,rfl,rfl,rfl,hI,hh,hc,ht,hT,hk⟩
theorem C7{w:World}{I:Nat→Nat→Prop}{o:mw}{b:Nat}{cur:Array Value}{T:TypeId}{fr:Nat×Nat}(hI:∀off,¬I b off)(h:w.heap[b]?=some (.cells cur T fr))(hc:cur.toList=mV o)(ht:gu cur fr)(hT:44=0∨T=44)(hk:zJ o) :
  kg w I (.pair (.ref 44 yg) .unit) (o,()) [.pointer (some ⟨b,0,none⟩)] [b] [] :=
 ⟨[_],[],[b],[],[],[],rfl,rfl,rfl,⟨b,[],rfl,rfl,hI,cur,T,fr,h,ht,hT,hc▸Hu w I hk⟩,rfl,rfl,rfl⟩
noncomputable def wk(of:List UInt8×Unit→Option (List UInt8×Unit))(x:Unit×mw×Unit):Option ((List UInt8×Unit)×mw×Unit) :=
 br (iG x.2.1.2.1.2.1.2.1 (0:Int))
  (br (iG x.2.1.2.1.2.2.1.2.1.1 (0:Int)) (br (iG x.2.1.2.2.2.1.2.2.1 (0:Int))
   (aj (of (x.2.1.1,())) fun y=>some ((y.1,()),((x.2.1.1,(((),(((),((1:Int),())),(((),(((0:Int),(x.2.1.2.1.2.2.1.2.1.2.1,())),())),()))),(y.1,(((),((),((1:Int),()))),())))),())))
   none) none)
  (some ((x.2.1.2.2.1,()),x.2))
theorem JR{P:Program}{f:Nat}{fn:Func}(hP:P.funcs[f]?=some fn)(hname:(fn.name == "runtime.NumGoroutine")=false)(hb:fn.body.isSome=true):∃fn code,P.funcs[f]?=some fn∧(fn.name == "runtime.NumGoroutine")=false∧fn.body=some code:=by
 obtain⟨code,hc⟩:=Option.isSome_iff_exists.1 hb;exact⟨fn,code,hP,hname,hc⟩
theorem Hw{a b:Int}(h:iG a b=true):a=b:=BD h
theorem Hy{α β:Type}{a:Option α}{f:α→Option β}{y:β}(h:aj a f=some y):∃x,a=some x∧f x=some y:=by
 cases a with
 | none=>cases h
 | some x=>exact⟨x,rfl,h⟩
theorem Hz{α:Type}{c:Bool}{a:Option α}{y:α}(h:br c a none=some y):c=true∧a=some y:=by
 cases c with
 | false=>cases h
 | true=>exact⟨rfl,h⟩
theorem Kz[Lp](s t:List UInt8)(h:eg (s,())=some (t,())):t.length≤maxLen:=by
 unfold eg at h;obtain⟨y1,_,h⟩:=Hy h;obtain⟨_,h⟩:=Hz h;obtain⟨y2,_,h⟩:=Hy h;obtain⟨hf,h⟩:=Hz h;obtain rfl:=(bM (au h)).1;have hf':((([115,104,97,50,53,54,58]:List UInt8).length:Int)+(y2.1.length:Int))≤4294967296:=BD hf;have hb:=pR;show(([115,104,97,50,53,54,58]:List UInt8)++y2.1).length≤maxLen
 rw[oL];omega
theorem C8{G:eN}{of:List UInt8×Unit→Option (List UInt8×Unit)}(Gm:Holds Try.prog G 7 ⟨.pair .str .unit,.pair .str .unit,of⟩)(hlen:∀s t,of (s,())=some (t,())→t.length≤maxLen) :
  fR Try.prog G 12 ⟨[true],.unit,.pair (.ref 44 yg) .unit,.pair .str .unit,wk of⟩ where
 body:=JR Try.func12 (by kernel_rfl) (by kernel_rfl)
 calls:=by
  intro I w args cO bs ls x u y hI hG Mb hargs CN hnd dW;obtain⟨v,rfl,rfl⟩:=args1 hargs;obtain⟨o,_⟩:=u;change mw at o;obtain⟨b,cur,T,fr,hp,rfl,rfl,Me,hh,hc,ht,hT,hk⟩:=NX CN;obtain rfl:=sD hp;obtain⟨hcell,BQ,hb⟩:=Hv hh hc ht;have NY:∀w':World,w'.os=w.os→w'.tape=w.tape→w'.output=w.output→w.heap.size≤w'.heap.size→(∀k,k<w.heap.size→k≠b→w'.heap[k]?=w.heap[k]?)→jR ⟨w.heap.size,(·∈aY [b] []),G⟩ w w' :=
   fun w' h1 h2 h3 h4 h5=>⟨h1,h2,h3,h4,fun k hk=>h5 k (Dc fun q=>hk (.inl q)) fun q=>hk (.inr (by subst q;simp[aY]))⟩
  change wk of ((),(o,()))=some y at dW;unfold wk at dW;cases hd:iG o.2.1.2.1.2.1 (0:Int) with
  | true =>
    rw[hd] at dW;cases hs:iG o.2.1.2.2.1.2.1.1 (0:Int) with
    | false=>rw[hs] at dW;cases dW
    | true =>
    cases hm:iG o.2.2.2.1.2.2.1 (0:Int) with
    | false=>rw[hs,hm] at dW;cases dW
    | true =>
    rw[hs,hm] at dW;cases Jd:of (o.1,()) with
    | none=>change (aj (of (o.1,())) _)=some y at dW;rw[Jd] at dW;cases dW
    | some y1 =>
    obtain⟨t,_⟩:=y1;change (aj (of (o.1,())) _)=some y at dW;rw[Jd] at dW;obtain rfl:=au dW;have hd0:=Hw hd;have hs0:=Hw hs;have hm0:=Hw hm
    let A:=w.alloc (.cells #[.pointer (some ⟨b,0,none⟩)] 27)
    have hA:A.heap[b]?=some (.cells cur T fr):=(mz w _ hb).trans hh;have Px:pN G (A.setCell ⟨b,2,none⟩ (.int .i32 1)).drew:=by
     intro k Q g;obtain⟨ob,h1,h2⟩:=hG k Q g;have Py:k≠b:=fun q=>Mb k Q g (by subst q;simp[aY]);exact⟨ob,((oK A _ Py).trans (mz w _ (Array.getElem?_eq_some_iff.1 h1).1)).trans h1,h2⟩
    have Nd:Calls Try.prog 7 #[.string ⟨o.1.toArray⟩] (A.setCell ⟨b,2,none⟩ (.int .i32 1)).drew fun e w'=>e=.returned (.string ⟨t.toArray⟩)∧Below (A.setCell ⟨b,2,none⟩ (.int .i32 1)).drew.heap.size (A.setCell ⟨b,2,none⟩ (.int .i32 1)).drew w':=by
     refine(Gm.calls (fun _ _=>False) _ #[.string ⟨o.1.toArray⟩] (o.1,()) (t,()) (fun _ _ h=>h.elim) Px ⟨[.string ⟨o.1.toArray⟩],[],rfl,⟨rfl,hk.bytes⟩,rfl⟩ Jd).mono ?_;rintro e w' ⟨v,I',rfl,hw,_,_,_,cs,⟨rfl,_⟩,hv⟩;exact⟨congrArg _ (sD hv),hw⟩
    have NZ:t.length≤maxLen:=hlen _ _ Jd;refine(C4 b o.1 t (.string ⟨o.2.2.1.toArray⟩) w hb Nd (hcell 0 _ rfl) (hcell 1 _ (congrArg (fun d=>some (Value.int .u32 d)) hd0)) (hcell 2 _ (congrArg (fun d=>some (Value.int .i32 d)) hs0)) (hcell 4 _ rfl) (hcell 5 _ (congrArg (fun d=>some (Value.int .i64 d)) hm0))
     (BQ 1 (by decide)) (BQ 2 (by decide)) (BQ 4 (by decide)) (BQ 5 (by decide))).mono ?_
    rintro e w' ⟨rfl,wm,Br,rfl⟩;have h2:wm.heap[b]?=some (.cells (cur.setIfInBounds 2 (.int .i32 1)) T fr):=(Br.block b (by omega)).trans (nZ _ hA);have h4:=nZ (i:=4) (.string ⟨t.toArray⟩) h2;have h5:=nZ (i:=5) (.int .i64 1) h4;have h1:=nZ (w:=((wm.setCell ⟨b,4,none⟩ (.string ⟨t.toArray⟩)).setCell ⟨b,5,none⟩ (.int .i64 1)).drew) (i:=1) (.int .u32 1) h5;have h0:=nZ (i:=2) (.int .i32 0) h1;have hsz:wm.heap.size≥w.heap.size:=by
     have:=Br.size;simp at this;omega
    refine⟨_,I,[],rfl,NY _ Br.os Br.tape Br.output (by simp;omega) ?_,fun _ _ h=>h,?_,fun k off h1 h2=>absurd h1 h2,⟨[_],⟨rfl,NZ⟩,rfl⟩,?_,by simp[aY],fun k h=>by cases h⟩
    ·intro k KG hk2;rw[oK _ _ hk2,oK _ _ hk2];show((wm.setCell ⟨b,4,none⟩ (.string ⟨t.toArray⟩)).setCell ⟨b,5,none⟩ (.int .i64 1)).heap[k]?=_
     rw[oK _ _ hk2,oK _ _ hk2,Br.block k (by omega),oK _ _ hk2];exact mz w _ KG
    ·exact fun k off h=>qe (hI k off h) (by simp;omega)
    ·refine C7 Me h0 ?_ (fun off ho=>ht off (by simpa using ho)) hT ⟨hk.bytes,NZ,(by decide:IntKind.u32.min≤1∧1≤IntKind.u32.max),(by decide:IntKind.i32.min≤0∧0≤IntKind.i32.max),hk.Ky,(by decide:IntKind.i64.min≤1∧1≤IntKind.i64.max)⟩;simp[hc,mV]
  | false =>
    rw[hd] at dW;obtain rfl:=au dW;have hd0:¬o.2.1.2.1.2.1=0:=fun q=>by rw[q] at hd;exact absurd hd (by decide)
    refine(C5 b o.2.1.2.1.2.1 hd0 o.2.2.1 w hb (hcell 1 _ rfl) (hcell 4 _ rfl)).mono ?_;rintro e w' ⟨rfl,rfl⟩;refine⟨_,I,[],rfl,NY _ rfl rfl rfl (by simp) fun k h1 _=>mz w _ h1,fun _ _ h=>h,fun k off h=>qe (hI k off h) (by simp),fun k off h1 h2=>absurd h1 h2,⟨[_],⟨rfl,hk.text⟩,rfl⟩,C7 Me ((mz w _ hb).trans hh) hc ht hT hk,by simp[aY],fun k h=>by cases h⟩
noncomputable def HA(x:Unit×mw×Unit):Option ((Int×Unit)×mw×Unit):=some ((x.2.1.2.2.2.1.2.2.1,()),x.2)
theorem C9{G:eN}:fR Try.prog G 14 ⟨[true],.unit,.pair (.ref 44 yg) .unit,.pair (.int .i64) .unit,HA⟩ where
 body:=JR Try.func14 (by kernel_rfl) (by kernel_rfl)
 calls:=by
  intro I w args cO bs ls x u y hI hG Mb hargs CN hnd dW;obtain⟨v,rfl,rfl⟩:=args1 hargs;obtain⟨o,_⟩:=u;change mw at o;obtain⟨b,cur,T,fr,hp,rfl,rfl,Me,hh,hc,ht,hT,hk⟩:=NX CN;obtain rfl:=sD hp;obtain⟨hcell,BQ,hb⟩:=Hv hh hc ht;obtain rfl:=au dW;refine(C6 b o.2.2.2.1.2.2.1 w (hcell 5 _ rfl)).mono ?_;rintro e w' ⟨rfl,rfl⟩;exact⟨_,I,[],rfl,⟨rfl,rfl,rfl,dB _,fun _ _=>rfl⟩,fun _ _ h=>h,hI,fun k off h1 h2=>absurd h1 h2,⟨[_],⟨rfl,hk.made.1,hk.made.2⟩,rfl⟩,C7 Me hh hc ht hT hk,by simp[aY],fun k h=>by cases h⟩
end Go.Proofs.Ytkmbhcglaophaaa
