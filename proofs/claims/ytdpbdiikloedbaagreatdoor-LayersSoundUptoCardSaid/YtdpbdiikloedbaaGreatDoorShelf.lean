/- Contracts of the library's functions, proved once by the kit, at this program's numbers (written by the kit's tools). -/
import Derived.Shelf.Sort.Plain
import Derived.Shelf.Slices.In.SortNone
import Derived.Shelf.Slices.CompactS
import Derived.Shelf.Strings.Split
import Derived.Shelf.Strings.OnBuilder
import Derived.Shelf.Strings.Repeat
import Derived.Test.YtdpbdiikloedbaaGreatDoorProg
namespace Go.Proofs
open Go.Shelf
def Tryz.Tm:Go.Shelf.Ren:=⟨λ|190=>77|125=>150|258=>149|128=>223|129=>224|302=>214|303=>215|304=>216|305=>217|306=>218|307=>219|308=>220|309=>221|310=>222|333=>266|329=>267|330=>268|334=>269|335=>270|336=>271|344=>302|n=>n,λ|31=>25|9=>9|3=>3|46=>166|0=>0|51=>196|53=>235|4=>4|183=>241|182=>240|131=>245|5=>5|218=>286|222=>290|228=>308|229=>309|n=>n,λ|n=>n⟩
theorem Tryz.Xe:Go.Proofs.Lays.n190 Tryz.prog Tryz.Tm:={
 mixed:=by kernel_rfl
 f125:=Tryz.func150.trans (congrArg some<|by kernel_rfl)
 f128:=Tryz.func223.trans (congrArg some<|by kernel_rfl)
 f129:=Tryz.func224.trans (congrArg some<|by kernel_rfl)
 f190:=Tryz.func77.trans (congrArg some<|by kernel_rfl)
 f258:=Tryz.func149.trans (congrArg some<|by kernel_rfl)
 f302:=Tryz.func214.trans (congrArg some<|by kernel_rfl)
 f303:=Tryz.func215.trans (congrArg some<|by kernel_rfl)
 f304:=Tryz.func216.trans (congrArg some<|by kernel_rfl)
 f305:=Tryz.func217.trans (congrArg some<|by kernel_rfl)
 f306:=Tryz.func218.trans (congrArg some<|by kernel_rfl)
 f307:=Tryz.func219.trans (congrArg some<|by kernel_rfl)
 f308:=Tryz.func220.trans (congrArg some<|by kernel_rfl)
 f309:=Tryz.func221.trans (congrArg some<|by kernel_rfl)
 f310:=Tryz.func222.trans (congrArg some<|by kernel_rfl)
 f329:=Tryz.func267.trans (congrArg some<|by kernel_rfl)
 f330:=Tryz.func268.trans (congrArg some<|by kernel_rfl)
 f333:=Tryz.func266.trans (congrArg some<|by kernel_rfl)
 f334:=Tryz.func269.trans (congrArg some<|by kernel_rfl)
 f335:=Tryz.func270.trans (congrArg some<|by kernel_rfl)
 f336:=Tryz.func271.trans (congrArg some<|by kernel_rfl)
 f344:=Tryz.func302.trans (congrArg some<|by kernel_rfl)
 t0:=Tryz.underlying0
 a0:=Tryz.isAgg0
 z0:=Tryz.sizeOf0
 v0:=Tryz.zeroValue0
 t3:=Tryz.underlying3
 a3:=Tryz.isAgg3
 z3:=Tryz.sizeOf3
 v3:=Tryz.zeroValue3
 t4:=Tryz.underlying4
 a4:=Tryz.isAgg4
 z4:=Tryz.sizeOf4
 v4:=Tryz.zeroValue4
 t5:=Tryz.underlying5
 a5:=Tryz.isAgg5
 z5:=Tryz.sizeOf5
 v5:=Tryz.zeroValue5
 t9:=Tryz.underlying9
 a9:=Tryz.isAgg9
 z9:=Tryz.sizeOf9
 v9:=Tryz.zeroValue9
 t31:=Tryz.underlying25
 a31:=Tryz.isAgg25
 z31:=Tryz.sizeOf25
 v31:=Tryz.zeroValue25
 t46:=Tryz.underlying166
 a46:=Tryz.isAgg166
 z46:=Tryz.sizeOf166
 v46:=Tryz.zeroValue166
 t51:=Tryz.underlying196
 a51:=Tryz.isAgg196
 z51:=Tryz.sizeOf196
 v51:=Tryz.zeroValue196
 t53:=Tryz.underlying235
 a53:=Tryz.isAgg235
 z53:=Tryz.sizeOf235
 v53:=Tryz.zeroValue235
 t131:=Tryz.underlying245
 a131:=Tryz.isAgg245
 z131:=Tryz.sizeOf245
 v131:=Tryz.zeroValue245
 t182:=Tryz.underlying240
 a182:=Tryz.isAgg240
 z182:=Tryz.sizeOf240
 v182:=Tryz.zeroValue240
 t183:=Tryz.underlying241
 a183:=Tryz.isAgg241
 z183:=Tryz.sizeOf241
 v183:=Tryz.zeroValue241
 t218:=Tryz.underlying286
 a218:=Tryz.isAgg286
 z218:=Tryz.sizeOf286
 v218:=Tryz.zeroValue286
 t222:=Tryz.underlying290
 a222:=Tryz.isAgg290
 z222:=Tryz.sizeOf290
 v222:=Tryz.zeroValue290
 t228:=Tryz.underlying308
 a228:=Tryz.isAgg308
 z228:=Tryz.sizeOf308
 v228:=Tryz.zeroValue308
 t229:=Tryz.underlying309
 a229:=Tryz.isAgg309
 z229:=Tryz.sizeOf309
 v229:=Tryz.zeroValue309 }
open Go.Sort Go.RowKit in
theorem Tryz.slices_Sort_string(a b c:Nat)(d:List (List UInt8))(w:World)(h:Holds encStr w a b d.toArray)(f:a<w.heap.size)(g:d.length<4611686018427387904) :
 Calls Tryz.prog 77 #[.slice (some ⟨a,b,none⟩) d.length c] w λe w' =>
  e=.returned (.tuple #[])/\∃n i,w'=grow (putRow encStr (Sort.ahead w n) a b (d.mergeSort λx y=>decide (x<=y)).toArray) i:=Any.slices_Sort_string Tryz.Xe a b c d w h f g
open Go.RowKit Go.Sort in
theorem Tryz.slices_Sort_string_none(p:Option Addr)(a:Nat)(w:World) :
 Calls Tryz.prog 77 #[.slice p 0 a] w λe w'=>e=.returned (.tuple #[])/\w'=w:=Any.slices_Sort_string_none Tryz.Xe p a w
def Tryz.Tn:Go.Shelf.Ren:=⟨λ|194=>78|n=>n,λ|31=>25|9=>9|3=>3|4=>4|0=>0|n=>n,λ|n=>n⟩
theorem Tryz.Xf:Go.Proofs.Lays.n194 Tryz.prog Tryz.Tn:={
 mixed:=by kernel_rfl
 f194:=Tryz.func78.trans (congrArg some<|by kernel_rfl)
 t0:=Tryz.underlying0
 a0:=Tryz.isAgg0
 z0:=Tryz.sizeOf0
 v0:=Tryz.zeroValue0
 t3:=Tryz.underlying3
 a3:=Tryz.isAgg3
 z3:=Tryz.sizeOf3
 v3:=Tryz.zeroValue3
 t4:=Tryz.underlying4
 a4:=Tryz.isAgg4
 z4:=Tryz.sizeOf4
 v4:=Tryz.zeroValue4
 t9:=Tryz.underlying9
 a9:=Tryz.isAgg9
 z9:=Tryz.sizeOf9
 v9:=Tryz.zeroValue9
 t31:=Tryz.underlying25
 a31:=Tryz.isAgg25
 z31:=Tryz.sizeOf25
 v31:=Tryz.zeroValue25 }
open Go.RowKit Go.Lib Go.Sort in
theorem Tryz.slices_Compact_string(a b c:Nat)(d:List (List UInt8))(w:World)(h:Holds encStr w a b d.toArray)(g:d.length<=9223372036854775807)(f:d.length<=c) :
 Calls Tryz.prog 78 #[.slice (some ⟨a,b,none⟩) d.length c] w λe w'=>e=.returned (.slice (some ⟨a,b,none⟩) (Lib.compact d).length c)/\∃q,w'=putRow encStr (Sort.ahead w q) a b (Lib.compact d++List.replicate (d.length-(Lib.compact d).length) []).toArray:=Any.slices_Compact_string Tryz.Xf a b c d w h g f
open Go.RowKit Go.Lib Go.Sort in
theorem Tryz.slices_Compact_string_empty(a:Option Addr)(b:Nat)(w:World) :
 Calls Tryz.prog 78 #[.slice a 0 b] w λe w'=>e=.returned (.slice a 0 b)/\w'=w:=Any.slices_Compact_string_empty Tryz.Xf a b w
def Tryz.To:Go.Shelf.Ren:=⟨λ|146=>287|221=>314|268=>321|138=>322|143=>323|195=>325|197=>273|218=>326|219=>327|260=>303|217=>286|225=>320|224=>319|267=>328|266=>313|314=>329|n=>n,λ|9=>9|31=>25|3=>3|4=>4|0=>0|105=>293|21=>21|5=>5|46=>166|119=>318|139=>321|138=>320|146=>233|51=>196|n=>n,λ|1=>0|3=>1|4=>2|n=>n⟩
theorem Tryz.Xg:Go.Proofs.Lays.n146 Tryz.prog Tryz.To:={
 mixed:=by kernel_rfl
 f138:=Tryz.func322.trans (congrArg some<|by kernel_rfl)
 f143:=Tryz.func323.trans (congrArg some<|by kernel_rfl)
 f146:=Tryz.func287.trans (congrArg some<|by kernel_rfl)
 f195:=Tryz.func325.trans (congrArg some<|by kernel_rfl)
 f197:=Tryz.func273.trans (congrArg some<|by kernel_rfl)
 f217:=Tryz.func286.trans (congrArg some<|by kernel_rfl)
 f218:=Tryz.func326.trans (congrArg some<|by kernel_rfl)
 f219:=Tryz.func327.trans (congrArg some<|by kernel_rfl)
 f221:=Tryz.func314.trans (congrArg some<|by kernel_rfl)
 f224:=Tryz.func319.trans (congrArg some<|by kernel_rfl)
 f225:=Tryz.func320.trans (congrArg some<|by kernel_rfl)
 f260:=Tryz.func303.trans (congrArg some<|by kernel_rfl)
 f266:=Tryz.func313.trans (congrArg some<|by kernel_rfl)
 f267:=Tryz.func328.trans (congrArg some<|by kernel_rfl)
 f268:=Tryz.func321.trans (congrArg some<|by kernel_rfl)
 f314:=Tryz.func329.trans (congrArg some<|by kernel_rfl)
 t0:=Tryz.underlying0
 a0:=Tryz.isAgg0
 z0:=Tryz.sizeOf0
 v0:=Tryz.zeroValue0
 t3:=Tryz.underlying3
 a3:=Tryz.isAgg3
 z3:=Tryz.sizeOf3
 v3:=Tryz.zeroValue3
 t4:=Tryz.underlying4
 a4:=Tryz.isAgg4
 z4:=Tryz.sizeOf4
 v4:=Tryz.zeroValue4
 t5:=Tryz.underlying5
 a5:=Tryz.isAgg5
 z5:=Tryz.sizeOf5
 v5:=Tryz.zeroValue5
 t9:=Tryz.underlying9
 a9:=Tryz.isAgg9
 z9:=Tryz.sizeOf9
 v9:=Tryz.zeroValue9
 t21:=Tryz.underlying21
 a21:=Tryz.isAgg21
 z21:=Tryz.sizeOf21
 v21:=Tryz.zeroValue21
 t31:=Tryz.underlying25
 a31:=Tryz.isAgg25
 z31:=Tryz.sizeOf25
 v31:=Tryz.zeroValue25
 t46:=Tryz.underlying166
 a46:=Tryz.isAgg166
 z46:=Tryz.sizeOf166
 v46:=Tryz.zeroValue166
 t51:=Tryz.underlying196
 a51:=Tryz.isAgg196
 z51:=Tryz.sizeOf196
 v51:=Tryz.zeroValue196
 t105:=Tryz.underlying293
 a105:=Tryz.isAgg293
 z105:=Tryz.sizeOf293
 v105:=Tryz.zeroValue293
 t119:=Tryz.underlying318
 a119:=Tryz.isAgg318
 z119:=Tryz.sizeOf318
 t138:=Tryz.underlying320
 a138:=Tryz.isAgg320
 z138:=Tryz.sizeOf320
 v138:=Tryz.zeroValue320
 t139:=Tryz.underlying321
 a139:=Tryz.isAgg321
 z139:=Tryz.sizeOf321
 v139:=Tryz.zeroValue321
 t146:=Tryz.underlying233
 a146:=Tryz.isAgg233
 z146:=Tryz.sizeOf233
 v146:=Tryz.zeroValue233
 g1:=by kernel_rfl
 g3:=by kernel_rfl
 g4:=by kernel_rfl }
open Go.RowKit Go.Lib in
theorem Tryz.strings_Split(s a:ByteArray)(m:Int)(w:World)(b:s.size<4294967281)(c:w.cell? ⟨0,0,none⟩=some (.int .i64 m))(d:1<=a.size) :
 Calls Tryz.prog 287 #[.string s,.string a] w λe w' =>
  e=.returned (.slice (some ⟨w.heap.size,0,none⟩) (Lib.countB s a+1)<|Lib.countB s a+1)/\w'=w.alloc (.cells ((Lib.splitB a 0 (Lib.countB s a) s).map Value.string).toArray 9):=Any.strings_Split Tryz.Xg (by kernel_rfl) s a m w b c d
def Tryz.GO:Go.Shelf.Ren:=⟨λ|156=>282|165=>145|166=>146|169=>148|240=>212|241=>213|276=>264|277=>265|n=>n,λ|31=>25|9=>9|3=>3|4=>4|0=>0|20=>20|72=>171|76=>175|70=>169|37=>100|75=>174|127=>238|164=>283|5=>5|80=>58|n=>n,λ|n=>n⟩
theorem Tryz.Xh:Go.Proofs.Lays.n156 Tryz.prog Tryz.GO:={
 mixed:=by kernel_rfl
 f156:=Tryz.func282.trans (congrArg some<|by kernel_rfl)
 f165:=Tryz.func145.trans (congrArg some<|by kernel_rfl)
 f166:=Tryz.func146.trans (congrArg some<|by kernel_rfl)
 f169:=Tryz.func148.trans (congrArg some<|by kernel_rfl)
 f240:=Tryz.func212.trans (congrArg some<|by kernel_rfl)
 f241:=Tryz.func213.trans (congrArg some<|by kernel_rfl)
 f276:=Tryz.func264.trans (congrArg some<|by kernel_rfl)
 f277:=Tryz.func265.trans (congrArg some<|by kernel_rfl)
 t0:=Tryz.underlying0
 a0:=Tryz.isAgg0
 z0:=Tryz.sizeOf0
 v0:=Tryz.zeroValue0
 t3:=Tryz.underlying3
 a3:=Tryz.isAgg3
 z3:=Tryz.sizeOf3
 v3:=Tryz.zeroValue3
 t4:=Tryz.underlying4
 a4:=Tryz.isAgg4
 z4:=Tryz.sizeOf4
 v4:=Tryz.zeroValue4
 t9:=Tryz.underlying9
 a9:=Tryz.isAgg9
 z9:=Tryz.sizeOf9
 v9:=Tryz.zeroValue9
 t20:=Tryz.underlying20
 a20:=Tryz.isAgg20
 z20:=Tryz.sizeOf20
 v20:=Tryz.zeroValue20
 t31:=Tryz.underlying25
 a31:=Tryz.isAgg25
 z31:=Tryz.sizeOf25
 v31:=Tryz.zeroValue25
 t37:=Tryz.underlying100
 a37:=Tryz.isAgg100
 z37:=Tryz.sizeOf100
 v37:=Tryz.zeroValue100
 t70:=Tryz.underlying169
 a70:=Tryz.isAgg169
 z70:=Tryz.sizeOf169
 v70:=Tryz.zeroValue169
 t72:=Tryz.underlying171
 a72:=Tryz.isAgg171
 z72:=Tryz.sizeOf171
 v72:=Tryz.zeroValue171
 t75:=Tryz.underlying174
 a75:=Tryz.isAgg174
 z75:=Tryz.sizeOf174
 v75:=Tryz.zeroValue174
 t76:=Tryz.underlying175
 a76:=Tryz.isAgg175
 z76:=Tryz.sizeOf175
 v76:=Tryz.zeroValue175
 t127:=Tryz.underlying238
 a127:=Tryz.isAgg238
 z127:=Tryz.sizeOf238
 v127:=Tryz.zeroValue238
 t164:=Tryz.underlying283
 a164:=Tryz.isAgg283
 z164:=Tryz.sizeOf283
 v164:=Tryz.zeroValue283 }
theorem Tryz.vZ:Builder.Extra Tryz.prog Tryz.GO:={
 sizeBuilder:=by kernel_rfl
 liesBuilder:=by kernel_rfl
 t5:=Tryz.underlying5
 a5:=Tryz.isAgg5
 z5:=Tryz.sizeOf5
 v5:=Tryz.zeroValue5
 infoByte:=by kernel_rfl
 cellsByte:=by kernel_rfl
 sizeByte:=by kernel_rfl
 neB5:=by decide }
open Go.RowKit in
theorem Tryz.strings_Join(h o c:Nat)(d:List ByteArray)(a:ByteArray)(w:World)(b:∀(j:Nat) x,d[j]?=some x->w.cell? ⟨h,o+j,none⟩=some (.string x))(i:h<w.heap.size)(k:d.length<=140737488355328)(f:d.length<=c)(g:(Lib.join (d.map (·.data.toList)) a.data.toList).length<=140737488355328) :
 Calls Tryz.prog 282 #[.slice (some ⟨h,o,none⟩) d.length c,.string a] w λe w'=>e=.returned (.string ⟨(Lib.join (d.map (·.data.toList)) a.data.toList).toArray⟩)/\Below w.heap.size w w':=Any.strings_Join Tryz.Xh Tryz.vZ h o c d a w b i k f g
open Go.RowKit in
theorem Tryz.strings_Join_none(a:Option Addr)(c:Nat)(b:ByteArray)(w:World) :
 Calls Tryz.prog 282 #[.slice a 0 c,.string b] w λe w'=>e=.returned (.string ⟨#[]⟩)/\w'=w:=Any.strings_Join_none Tryz.Xh Tryz.vZ a c b w
def Tryz.GP:Go.Shelf.Ren:=⟨λ|105=>75|212=>144|99=>132|165=>145|166=>146|170=>147|169=>148|263=>210|264=>211|206=>194|240=>212|241=>213|276=>264|277=>265|n=>n,λ|9=>9|3=>3|4=>4|20=>20|0=>0|46=>166|109=>167|5=>5|72=>171|76=>175|51=>196|146=>233|53=>235|148=>236|70=>169|37=>100|75=>174|127=>238|164=>283|80=>58|n=>n,λ|n=>n⟩
theorem Tryz.adI:Go.Proofs.Lays.n105 Tryz.prog Tryz.GP:={
 mixed:=by kernel_rfl
 f99:=Tryz.func132.trans (congrArg some<|by kernel_rfl)
 f105:=Tryz.func75.trans (congrArg some<|by kernel_rfl)
 f165:=Tryz.func145.trans (congrArg some<|by kernel_rfl)
 f166:=Tryz.func146.trans (congrArg some<|by kernel_rfl)
 f169:=Tryz.func148.trans (congrArg some<|by kernel_rfl)
 f170:=Tryz.func147.trans (congrArg some<|by kernel_rfl)
 f206:=Tryz.func194.trans (congrArg some<|by kernel_rfl)
 f212:=Tryz.func144.trans (congrArg some<|by kernel_rfl)
 f240:=Tryz.func212.trans (congrArg some<|by kernel_rfl)
 f241:=Tryz.func213.trans (congrArg some<|by kernel_rfl)
 f263:=Tryz.func210.trans (congrArg some<|by kernel_rfl)
 f264:=Tryz.func211.trans (congrArg some<|by kernel_rfl)
 f276:=Tryz.func264.trans (congrArg some<|by kernel_rfl)
 f277:=Tryz.func265.trans (congrArg some<|by kernel_rfl)
 t0:=Tryz.underlying0
 a0:=Tryz.isAgg0
 z0:=Tryz.sizeOf0
 v0:=Tryz.zeroValue0
 t3:=Tryz.underlying3
 a3:=Tryz.isAgg3
 z3:=Tryz.sizeOf3
 v3:=Tryz.zeroValue3
 t4:=Tryz.underlying4
 a4:=Tryz.isAgg4
 z4:=Tryz.sizeOf4
 v4:=Tryz.zeroValue4
 t5:=Tryz.underlying5
 a5:=Tryz.isAgg5
 z5:=Tryz.sizeOf5
 v5:=Tryz.zeroValue5
 t9:=Tryz.underlying9
 a9:=Tryz.isAgg9
 z9:=Tryz.sizeOf9
 v9:=Tryz.zeroValue9
 t20:=Tryz.underlying20
 a20:=Tryz.isAgg20
 z20:=Tryz.sizeOf20
 v20:=Tryz.zeroValue20
 t37:=Tryz.underlying100
 a37:=Tryz.isAgg100
 z37:=Tryz.sizeOf100
 v37:=Tryz.zeroValue100
 t46:=Tryz.underlying166
 a46:=Tryz.isAgg166
 z46:=Tryz.sizeOf166
 v46:=Tryz.zeroValue166
 t51:=Tryz.underlying196
 a51:=Tryz.isAgg196
 z51:=Tryz.sizeOf196
 v51:=Tryz.zeroValue196
 t53:=Tryz.underlying235
 a53:=Tryz.isAgg235
 z53:=Tryz.sizeOf235
 v53:=Tryz.zeroValue235
 t70:=Tryz.underlying169
 a70:=Tryz.isAgg169
 z70:=Tryz.sizeOf169
 v70:=Tryz.zeroValue169
 t72:=Tryz.underlying171
 a72:=Tryz.isAgg171
 z72:=Tryz.sizeOf171
 v72:=Tryz.zeroValue171
 t75:=Tryz.underlying174
 a75:=Tryz.isAgg174
 z75:=Tryz.sizeOf174
 v75:=Tryz.zeroValue174
 t76:=Tryz.underlying175
 a76:=Tryz.isAgg175
 z76:=Tryz.sizeOf175
 v76:=Tryz.zeroValue175
 t109:=Tryz.underlying167
 a109:=Tryz.isAgg167
 z109:=Tryz.sizeOf167
 v109:=Tryz.zeroValue167
 t127:=Tryz.underlying238
 a127:=Tryz.isAgg238
 z127:=Tryz.sizeOf238
 v127:=Tryz.zeroValue238
 t146:=Tryz.underlying233
 a146:=Tryz.isAgg233
 z146:=Tryz.sizeOf233
 v146:=Tryz.zeroValue233
 t148:=Tryz.underlying236
 a148:=Tryz.isAgg236
 z148:=Tryz.sizeOf236
 v148:=Tryz.zeroValue236
 t164:=Tryz.underlying283
 a164:=Tryz.isAgg283
 z164:=Tryz.sizeOf283
 v164:=Tryz.zeroValue283 }
theorem Tryz.D8:Builder.Extra Tryz.prog Tryz.GP:={
 sizeBuilder:=by kernel_rfl
 liesBuilder:=by kernel_rfl
 t5:=Tryz.underlying5
 a5:=Tryz.isAgg5
 z5:=Tryz.sizeOf5
 v5:=Tryz.zeroValue5
 infoByte:=by kernel_rfl
 cellsByte:=by kernel_rfl
 sizeByte:=by kernel_rfl
 neB5:=by decide }
open Go.RowKit Go.Lib in
theorem Tryz.strings_Repeat(s:ByteArray)(c:Nat)(w:World)(b:c<=9223372036854775807)(a:s.size*c<=140737488355328) :
 Calls Tryz.prog 75 #[.string s,.int .i64 c] w λe w'=>e=.returned (.string ⟨(Lib.repeatL s.data.toList c).toArray⟩)/\Below w.heap.size w w':=Any.strings_Repeat Tryz.adI Tryz.D8 s c w b a
end Go.Proofs
