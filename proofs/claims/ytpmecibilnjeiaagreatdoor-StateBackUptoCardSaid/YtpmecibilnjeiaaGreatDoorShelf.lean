/- Contracts of the library's functions, proved once by the kit, at this program's numbers (written by the kit's tools). -/
import Derived.Shelf.Sort.Plain
import Derived.Shelf.Slices.In.SortNone
import Derived.Shelf.Slices.CompactS
import Derived.Shelf.Strings.Split
import Derived.Shelf.Strings.OnBuilder
import Derived.Shelf.Strings.Repeat
import Derived.Test.YtpmecibilnjeiaaGreatDoorProg
namespace Go.Proofs
open Go.Shelf
def Tryz.SQ:Go.Shelf.Ren:=⟨λ|190=>173|125=>209|258=>208|128=>243|129=>244|302=>234|303=>235|304=>236|305=>237|306=>238|307=>239|308=>240|309=>241|310=>242|333=>275|329=>276|330=>277|334=>278|335=>279|336=>266|344=>300|n=>n,λ|31=>25|9=>9|3=>3|46=>202|0=>0|51=>176|53=>200|4=>4|183=>227|182=>226|131=>218|5=>5|218=>256|222=>260|228=>289|229=>290|n=>n,λ|n=>n⟩
theorem Tryz.Wx:Go.Proofs.Lays.n190 Tryz.prog Tryz.SQ:={
 mixed:=by kernel_rfl
 f125:=Tryz.func209.trans (congrArg some<|by kernel_rfl)
 f128:=Tryz.func243.trans (congrArg some<|by kernel_rfl)
 f129:=Tryz.func244.trans (congrArg some<|by kernel_rfl)
 f190:=Tryz.func173.trans (congrArg some<|by kernel_rfl)
 f258:=Tryz.func208.trans (congrArg some<|by kernel_rfl)
 f302:=Tryz.func234.trans (congrArg some<|by kernel_rfl)
 f303:=Tryz.func235.trans (congrArg some<|by kernel_rfl)
 f304:=Tryz.func236.trans (congrArg some<|by kernel_rfl)
 f305:=Tryz.func237.trans (congrArg some<|by kernel_rfl)
 f306:=Tryz.func238.trans (congrArg some<|by kernel_rfl)
 f307:=Tryz.func239.trans (congrArg some<|by kernel_rfl)
 f308:=Tryz.func240.trans (congrArg some<|by kernel_rfl)
 f309:=Tryz.func241.trans (congrArg some<|by kernel_rfl)
 f310:=Tryz.func242.trans (congrArg some<|by kernel_rfl)
 f329:=Tryz.func276.trans (congrArg some<|by kernel_rfl)
 f330:=Tryz.func277.trans (congrArg some<|by kernel_rfl)
 f333:=Tryz.func275.trans (congrArg some<|by kernel_rfl)
 f334:=Tryz.func278.trans (congrArg some<|by kernel_rfl)
 f335:=Tryz.func279.trans (congrArg some<|by kernel_rfl)
 f336:=Tryz.func266.trans (congrArg some<|by kernel_rfl)
 f344:=Tryz.func300.trans (congrArg some<|by kernel_rfl)
 t0:=Tryz.underlying0
 a0:=Tryz.isAgg0
 z0:=Tryz.sizeOf0
 v0:=Tryz.zeroValue0
 t3:=Tryz.underlying3
 a3:=Tryz.isAgg3
 z3:=Tryz.sizeOf3
 v3:=Tryz.zeroValue3
 t4:=Tryz.underlying4
 a4:=Tryz.isAgg4
 z4:=Tryz.sizeOf4
 v4:=Tryz.zeroValue4
 t5:=Tryz.underlying5
 a5:=Tryz.isAgg5
 z5:=Tryz.sizeOf5
 v5:=Tryz.zeroValue5
 t9:=Tryz.underlying9
 a9:=Tryz.isAgg9
 z9:=Tryz.sizeOf9
 v9:=Tryz.zeroValue9
 t31:=Tryz.underlying25
 a31:=Tryz.isAgg25
 z31:=Tryz.sizeOf25
 v31:=Tryz.zeroValue25
 t46:=Tryz.underlying202
 a46:=Tryz.isAgg202
 z46:=Tryz.sizeOf202
 v46:=Tryz.zeroValue202
 t51:=Tryz.underlying176
 a51:=Tryz.isAgg176
 z51:=Tryz.sizeOf176
 v51:=Tryz.zeroValue176
 t53:=Tryz.underlying200
 a53:=Tryz.isAgg200
 z53:=Tryz.sizeOf200
 v53:=Tryz.zeroValue200
 t131:=Tryz.underlying218
 a131:=Tryz.isAgg218
 z131:=Tryz.sizeOf218
 v131:=Tryz.zeroValue218
 t182:=Tryz.underlying226
 a182:=Tryz.isAgg226
 z182:=Tryz.sizeOf226
 v182:=Tryz.zeroValue226
 t183:=Tryz.underlying227
 a183:=Tryz.isAgg227
 z183:=Tryz.sizeOf227
 v183:=Tryz.zeroValue227
 t218:=Tryz.underlying256
 a218:=Tryz.isAgg256
 z218:=Tryz.sizeOf256
 v218:=Tryz.zeroValue256
 t222:=Tryz.underlying260
 a222:=Tryz.isAgg260
 z222:=Tryz.sizeOf260
 v222:=Tryz.zeroValue260
 t228:=Tryz.underlying289
 a228:=Tryz.isAgg289
 z228:=Tryz.sizeOf289
 v228:=Tryz.zeroValue289
 t229:=Tryz.underlying290
 a229:=Tryz.isAgg290
 z229:=Tryz.sizeOf290
 v229:=Tryz.zeroValue290 }
open Go.Sort Go.RowKit in
theorem Tryz.slices_Sort_string(a b c:Nat)(d:List (List UInt8))(w:World)(h:Holds encStr w a b d.toArray)(f:a<w.heap.size)(g:d.length<4611686018427387904) :
 Calls Tryz.prog 173 #[.slice (some ⟨a,b,none⟩) d.length c] w λe w' =>
  e=.returned (.tuple #[])/\∃n i,w'=grow (putRow encStr (Sort.ahead w n) a b (d.mergeSort λx y=>decide (x<=y)).toArray) i:=Any.slices_Sort_string Tryz.Wx a b c d w h f g
open Go.RowKit Go.Sort in
theorem Tryz.slices_Sort_string_none(p:Option Addr)(a:Nat)(w:World) :
 Calls Tryz.prog 173 #[.slice p 0 a] w λe w'=>e=.returned (.tuple #[])/\w'=w:=Any.slices_Sort_string_none Tryz.Wx p a w
def Tryz.SR:Go.Shelf.Ren:=⟨λ|194=>174|n=>n,λ|31=>25|9=>9|3=>3|4=>4|0=>0|n=>n,λ|n=>n⟩
theorem Tryz.Wy:Go.Proofs.Lays.n194 Tryz.prog Tryz.SR:={
 mixed:=by kernel_rfl
 f194:=Tryz.func174.trans (congrArg some<|by kernel_rfl)
 t0:=Tryz.underlying0
 a0:=Tryz.isAgg0
 z0:=Tryz.sizeOf0
 v0:=Tryz.zeroValue0
 t3:=Tryz.underlying3
 a3:=Tryz.isAgg3
 z3:=Tryz.sizeOf3
 v3:=Tryz.zeroValue3
 t4:=Tryz.underlying4
 a4:=Tryz.isAgg4
 z4:=Tryz.sizeOf4
 v4:=Tryz.zeroValue4
 t9:=Tryz.underlying9
 a9:=Tryz.isAgg9
 z9:=Tryz.sizeOf9
 v9:=Tryz.zeroValue9
 t31:=Tryz.underlying25
 a31:=Tryz.isAgg25
 z31:=Tryz.sizeOf25
 v31:=Tryz.zeroValue25 }
open Go.RowKit Go.Lib Go.Sort in
theorem Tryz.slices_Compact_string(a b c:Nat)(d:List (List UInt8))(w:World)(h:Holds encStr w a b d.toArray)(g:d.length<=9223372036854775807)(f:d.length<=c) :
 Calls Tryz.prog 174 #[.slice (some ⟨a,b,none⟩) d.length c] w λe w'=>e=.returned (.slice (some ⟨a,b,none⟩) (Lib.compact d).length c)/\∃q,w'=putRow encStr (Sort.ahead w q) a b (Lib.compact d++List.replicate (d.length-(Lib.compact d).length) []).toArray:=Any.slices_Compact_string Tryz.Wy a b c d w h g f
open Go.RowKit Go.Lib Go.Sort in
theorem Tryz.slices_Compact_string_empty(a:Option Addr)(b:Nat)(w:World) :
 Calls Tryz.prog 174 #[.slice a 0 b] w λe w'=>e=.returned (.slice a 0 b)/\w'=w:=Any.slices_Compact_string_empty Tryz.Wy a b w
def Tryz.SS:Go.Shelf.Ren:=⟨λ|146=>265|221=>299|268=>309|138=>310|143=>311|195=>321|197=>285|218=>322|219=>323|260=>303|217=>264|225=>319|224=>318|267=>326|266=>298|314=>327|n=>n,λ|9=>9|31=>25|3=>3|4=>4|0=>0|105=>277|21=>21|5=>5|46=>202|119=>307|139=>310|138=>309|146=>284|51=>176|n=>n,λ|1=>0|3=>1|4=>2|n=>n⟩
theorem Tryz.Wz:Go.Proofs.Lays.n146 Tryz.prog Tryz.SS:={
 mixed:=by kernel_rfl
 f138:=Tryz.func310.trans (congrArg some<|by kernel_rfl)
 f143:=Tryz.func311.trans (congrArg some<|by kernel_rfl)
 f146:=Tryz.func265.trans (congrArg some<|by kernel_rfl)
 f195:=Tryz.func321.trans (congrArg some<|by kernel_rfl)
 f197:=Tryz.func285.trans (congrArg some<|by kernel_rfl)
 f217:=Tryz.func264.trans (congrArg some<|by kernel_rfl)
 f218:=Tryz.func322.trans (congrArg some<|by kernel_rfl)
 f219:=Tryz.func323.trans (congrArg some<|by kernel_rfl)
 f221:=Tryz.func299.trans (congrArg some<|by kernel_rfl)
 f224:=Tryz.func318.trans (congrArg some<|by kernel_rfl)
 f225:=Tryz.func319.trans (congrArg some<|by kernel_rfl)
 f260:=Tryz.func303.trans (congrArg some<|by kernel_rfl)
 f266:=Tryz.func298.trans (congrArg some<|by kernel_rfl)
 f267:=Tryz.func326.trans (congrArg some<|by kernel_rfl)
 f268:=Tryz.func309.trans (congrArg some<|by kernel_rfl)
 f314:=Tryz.func327.trans (congrArg some<|by kernel_rfl)
 t0:=Tryz.underlying0
 a0:=Tryz.isAgg0
 z0:=Tryz.sizeOf0
 v0:=Tryz.zeroValue0
 t3:=Tryz.underlying3
 a3:=Tryz.isAgg3
 z3:=Tryz.sizeOf3
 v3:=Tryz.zeroValue3
 t4:=Tryz.underlying4
 a4:=Tryz.isAgg4
 z4:=Tryz.sizeOf4
 v4:=Tryz.zeroValue4
 t5:=Tryz.underlying5
 a5:=Tryz.isAgg5
 z5:=Tryz.sizeOf5
 v5:=Tryz.zeroValue5
 t9:=Tryz.underlying9
 a9:=Tryz.isAgg9
 z9:=Tryz.sizeOf9
 v9:=Tryz.zeroValue9
 t21:=Tryz.underlying21
 a21:=Tryz.isAgg21
 z21:=Tryz.sizeOf21
 v21:=Tryz.zeroValue21
 t31:=Tryz.underlying25
 a31:=Tryz.isAgg25
 z31:=Tryz.sizeOf25
 v31:=Tryz.zeroValue25
 t46:=Tryz.underlying202
 a46:=Tryz.isAgg202
 z46:=Tryz.sizeOf202
 v46:=Tryz.zeroValue202
 t51:=Tryz.underlying176
 a51:=Tryz.isAgg176
 z51:=Tryz.sizeOf176
 v51:=Tryz.zeroValue176
 t105:=Tryz.underlying277
 a105:=Tryz.isAgg277
 z105:=Tryz.sizeOf277
 v105:=Tryz.zeroValue277
 t119:=Tryz.underlying307
 a119:=Tryz.isAgg307
 z119:=Tryz.sizeOf307
 t138:=Tryz.underlying309
 a138:=Tryz.isAgg309
 z138:=Tryz.sizeOf309
 v138:=Tryz.zeroValue309
 t139:=Tryz.underlying310
 a139:=Tryz.isAgg310
 z139:=Tryz.sizeOf310
 v139:=Tryz.zeroValue310
 t146:=Tryz.underlying284
 a146:=Tryz.isAgg284
 z146:=Tryz.sizeOf284
 v146:=Tryz.zeroValue284
 g1:=by kernel_rfl
 g3:=by kernel_rfl
 g4:=by kernel_rfl }
open Go.RowKit Go.Lib in
theorem Tryz.strings_Split(s a:ByteArray)(m:Int)(w:World)(b:s.size<4294967281)(c:w.cell? ⟨0,0,none⟩=some (.int .i64 m))(d:1<=a.size) :
 Calls Tryz.prog 265 #[.string s,.string a] w λe w' =>
  e=.returned (.slice (some ⟨w.heap.size,0,none⟩) (Lib.countB s a+1)<|Lib.countB s a+1)/\w'=w.alloc (.cells ((Lib.splitB a 0 (Lib.countB s a) s).map Value.string).toArray 9):=Any.strings_Split Tryz.Wz (by kernel_rfl) s a m w b c d
def Tryz.GF:Go.Shelf.Ren:=⟨λ|156=>295|165=>306|166=>307|169=>283|240=>302|241=>320|276=>316|277=>325|n=>n,λ|31=>25|9=>9|3=>3|4=>4|0=>0|20=>20|72=>271|76=>299|70=>269|37=>59|75=>273|127=>295|164=>305|5=>5|80=>275|n=>n,λ|n=>n⟩
theorem Tryz.WA:Go.Proofs.Lays.n156 Tryz.prog Tryz.GF:={
 mixed:=by kernel_rfl
 f156:=Tryz.func295.trans (congrArg some<|by kernel_rfl)
 f165:=Tryz.func306.trans (congrArg some<|by kernel_rfl)
 f166:=Tryz.func307.trans (congrArg some<|by kernel_rfl)
 f169:=Tryz.func283.trans (congrArg some<|by kernel_rfl)
 f240:=Tryz.func302.trans (congrArg some<|by kernel_rfl)
 f241:=Tryz.func320.trans (congrArg some<|by kernel_rfl)
 f276:=Tryz.func316.trans (congrArg some<|by kernel_rfl)
 f277:=Tryz.func325.trans (congrArg some<|by kernel_rfl)
 t0:=Tryz.underlying0
 a0:=Tryz.isAgg0
 z0:=Tryz.sizeOf0
 v0:=Tryz.zeroValue0
 t3:=Tryz.underlying3
 a3:=Tryz.isAgg3
 z3:=Tryz.sizeOf3
 v3:=Tryz.zeroValue3
 t4:=Tryz.underlying4
 a4:=Tryz.isAgg4
 z4:=Tryz.sizeOf4
 v4:=Tryz.zeroValue4
 t9:=Tryz.underlying9
 a9:=Tryz.isAgg9
 z9:=Tryz.sizeOf9
 v9:=Tryz.zeroValue9
 t20:=Tryz.underlying20
 a20:=Tryz.isAgg20
 z20:=Tryz.sizeOf20
 v20:=Tryz.zeroValue20
 t31:=Tryz.underlying25
 a31:=Tryz.isAgg25
 z31:=Tryz.sizeOf25
 v31:=Tryz.zeroValue25
 t37:=Tryz.underlying59
 a37:=Tryz.isAgg59
 z37:=Tryz.sizeOf59
 v37:=Tryz.zeroValue59
 t70:=Tryz.underlying269
 a70:=Tryz.isAgg269
 z70:=Tryz.sizeOf269
 v70:=Tryz.zeroValue269
 t72:=Tryz.underlying271
 a72:=Tryz.isAgg271
 z72:=Tryz.sizeOf271
 v72:=Tryz.zeroValue271
 t75:=Tryz.underlying273
 a75:=Tryz.isAgg273
 z75:=Tryz.sizeOf273
 v75:=Tryz.zeroValue273
 t76:=Tryz.underlying299
 a76:=Tryz.isAgg299
 z76:=Tryz.sizeOf299
 v76:=Tryz.zeroValue299
 t127:=Tryz.underlying295
 a127:=Tryz.isAgg295
 z127:=Tryz.sizeOf295
 v127:=Tryz.zeroValue295
 t164:=Tryz.underlying305
 a164:=Tryz.isAgg305
 z164:=Tryz.sizeOf305
 v164:=Tryz.zeroValue305 }
theorem Tryz.vP:Builder.Extra Tryz.prog Tryz.GF:={
 sizeBuilder:=by kernel_rfl
 liesBuilder:=by kernel_rfl
 t5:=Tryz.underlying5
 a5:=Tryz.isAgg5
 z5:=Tryz.sizeOf5
 v5:=Tryz.zeroValue5
 infoByte:=by kernel_rfl
 cellsByte:=by kernel_rfl
 sizeByte:=by kernel_rfl
 neB5:=by decide }
open Go.RowKit in
theorem Tryz.strings_Join(h o c:Nat)(d:List ByteArray)(a:ByteArray)(w:World)(b:∀(j:Nat) x,d[j]?=some x->w.cell? ⟨h,o+j,none⟩=some (.string x))(i:h<w.heap.size)(k:d.length<=140737488355328)(f:d.length<=c)(g:(Lib.join (d.map (·.data.toList)) a.data.toList).length<=140737488355328) :
 Calls Tryz.prog 295 #[.slice (some ⟨h,o,none⟩) d.length c,.string a] w λe w'=>e=.returned (.string ⟨(Lib.join (d.map (·.data.toList)) a.data.toList).toArray⟩)/\Below w.heap.size w w':=Any.strings_Join Tryz.WA Tryz.vP h o c d a w b i k f g
open Go.RowKit in
theorem Tryz.strings_Join_none(a:Option Addr)(c:Nat)(b:ByteArray)(w:World) :
 Calls Tryz.prog 295 #[.slice a 0 c,.string b] w λe w'=>e=.returned (.string ⟨#[]⟩)/\w'=w:=Any.strings_Join_none Tryz.WA Tryz.vP a c b w
end Go.Proofs
