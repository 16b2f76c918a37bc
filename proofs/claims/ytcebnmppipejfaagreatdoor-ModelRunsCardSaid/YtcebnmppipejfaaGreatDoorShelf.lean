/- Contracts of the library's functions, proved once by the kit, at this program's numbers (written by the kit's tools). -/
import Derived.Shelf.Sort.Plain
import Derived.Shelf.Slices.In.SortNone
import Derived.Shelf.Slices.CompactS
import Derived.Shelf.Strings.Split
import Derived.Shelf.Strings.OnBuilder
import Derived.Shelf.Strings.Repeat
import Derived.Test.YtcebnmppipejfaaGreatDoorProg
set_option linter.defProp false
open Option renaming some->aa,none->af
namespace Go.Proofs
open Go.Shelf
def Tryz.aaZ:Go.Shelf.Ren:=⟨λ|190=>181|125=>265|258=>264|128=>334|129=>335|302=>325|303=>326|304=>327|305=>328|306=>329|307=>330|308=>331|309=>332|310=>333|333=>391|329=>392|330=>393|334=>394|335=>395|336=>396|344=>433|n=>n,λ|31=>28|9=>9|3=>3|46=>125|0=>0|51=>254|53=>304|4=>4|183=>296|182=>295|131=>300|5=>5|218=>354|222=>358|228=>375|229=>376|n=>n,λ|n=>n⟩
def Tryz.ae6:Go.Proofs.Lays.n190 Tryz.prog Tryz.aaZ:={
 mixed:=by kernel_rfl
 f125:=Tryz.func265.trans (congrArg aa<|by kernel_rfl)
 f128:=Tryz.func334.trans (congrArg aa<|by kernel_rfl)
 f129:=Tryz.func335.trans (congrArg aa<|by kernel_rfl)
 f190:=Tryz.func181.trans (congrArg aa<|by kernel_rfl)
 f258:=Tryz.func264.trans (congrArg aa<|by kernel_rfl)
 f302:=Tryz.func325.trans (congrArg aa<|by kernel_rfl)
 f303:=Tryz.func326.trans (congrArg aa<|by kernel_rfl)
 f304:=Tryz.func327.trans (congrArg aa<|by kernel_rfl)
 f305:=Tryz.func328.trans (congrArg aa<|by kernel_rfl)
 f306:=Tryz.func329.trans (congrArg aa<|by kernel_rfl)
 f307:=Tryz.func330.trans (congrArg aa<|by kernel_rfl)
 f308:=Tryz.func331.trans (congrArg aa<|by kernel_rfl)
 f309:=Tryz.func332.trans (congrArg aa<|by kernel_rfl)
 f310:=Tryz.func333.trans (congrArg aa<|by kernel_rfl)
 f329:=Tryz.func392.trans (congrArg aa<|by kernel_rfl)
 f330:=Tryz.func393.trans (congrArg aa<|by kernel_rfl)
 f333:=Tryz.func391.trans (congrArg aa<|by kernel_rfl)
 f334:=Tryz.func394.trans (congrArg aa<|by kernel_rfl)
 f335:=Tryz.func395.trans (congrArg aa<|by kernel_rfl)
 f336:=Tryz.func396.trans (congrArg aa<|by kernel_rfl)
 f344:=Tryz.func433.trans (congrArg aa<|by kernel_rfl)
 t0:=Tryz.underlying0
 a0:=Tryz.isAgg0
 z0:=Tryz.sizeOf0
 v0:=Tryz.zeroValue0
 t3:=Tryz.underlying3
 a3:=Tryz.isAgg3
 z3:=Tryz.sizeOf3
 v3:=Tryz.zeroValue3
 t4:=Tryz.underlying4
 a4:=Tryz.isAgg4
 z4:=Tryz.sizeOf4
 v4:=Tryz.zeroValue4
 t5:=Tryz.underlying5
 a5:=Tryz.isAgg5
 z5:=Tryz.sizeOf5
 v5:=Tryz.zeroValue5
 t9:=Tryz.underlying9
 a9:=Tryz.isAgg9
 z9:=Tryz.sizeOf9
 v9:=Tryz.zeroValue9
 t31:=Tryz.underlying28
 a31:=Tryz.isAgg28
 z31:=Tryz.sizeOf28
 v31:=Tryz.zeroValue28
 t46:=Tryz.underlying125
 a46:=Tryz.isAgg125
 z46:=Tryz.sizeOf125
 v46:=Tryz.zeroValue125
 t51:=Tryz.underlying254
 a51:=Tryz.isAgg254
 z51:=Tryz.sizeOf254
 v51:=Tryz.zeroValue254
 t53:=Tryz.underlying304
 a53:=Tryz.isAgg304
 z53:=Tryz.sizeOf304
 v53:=Tryz.zeroValue304
 t131:=Tryz.underlying300
 a131:=Tryz.isAgg300
 z131:=Tryz.sizeOf300
 v131:=Tryz.zeroValue300
 t182:=Tryz.underlying295
 a182:=Tryz.isAgg295
 z182:=Tryz.sizeOf295
 v182:=Tryz.zeroValue295
 t183:=Tryz.underlying296
 a183:=Tryz.isAgg296
 z183:=Tryz.sizeOf296
 v183:=Tryz.zeroValue296
 t218:=Tryz.underlying354
 a218:=Tryz.isAgg354
 z218:=Tryz.sizeOf354
 v218:=Tryz.zeroValue354
 t222:=Tryz.underlying358
 a222:=Tryz.isAgg358
 z222:=Tryz.sizeOf358
 v222:=Tryz.zeroValue358
 t228:=Tryz.underlying375
 a228:=Tryz.isAgg375
 z228:=Tryz.sizeOf375
 v228:=Tryz.zeroValue375
 t229:=Tryz.underlying376
 a229:=Tryz.isAgg376
 z229:=Tryz.sizeOf376
 v229:=Tryz.zeroValue376 }
open Go.Sort Go.RowKit in
def Tryz.slices_Sort_string(a b c:Nat)(d:List (List UInt8))(w:World)(h:Holds encStr w a b d.toArray)(f:a<w.heap.size)(g:d.length<4611686018427387904) :
 Calls Tryz.prog 181 #[.slice (aa ⟨a,b,af⟩) d.length c] w λe w' =>
  e=.returned (.tuple #[])/\∃n i,w'=grow (putRow encStr (Sort.ahead w n) a b (d.mergeSort λx y=>decide (x<=y)).toArray) i:=Any.slices_Sort_string Tryz.ae6 a b c d w h f g
open Go.RowKit Go.Sort in
def Tryz.slices_Sort_string_none(p:Option Addr)(a:Nat)(w:World) :
 Calls Tryz.prog 181 #[.slice p 0 a] w λe w'=>e=.returned (.tuple #[])/\w'=w:=Any.slices_Sort_string_none Tryz.ae6 p a w
def Tryz.aa0:Go.Shelf.Ren:=⟨λ|194=>182|n=>n,λ|31=>28|9=>9|3=>3|4=>4|0=>0|n=>n,λ|n=>n⟩
def Tryz.ae7:Go.Proofs.Lays.n194 Tryz.prog Tryz.aa0:={
 mixed:=by kernel_rfl
 f194:=Tryz.func182.trans (congrArg aa<|by kernel_rfl)
 t0:=Tryz.underlying0
 a0:=Tryz.isAgg0
 z0:=Tryz.sizeOf0
 v0:=Tryz.zeroValue0
 t3:=Tryz.underlying3
 a3:=Tryz.isAgg3
 z3:=Tryz.sizeOf3
 v3:=Tryz.zeroValue3
 t4:=Tryz.underlying4
 a4:=Tryz.isAgg4
 z4:=Tryz.sizeOf4
 v4:=Tryz.zeroValue4
 t9:=Tryz.underlying9
 a9:=Tryz.isAgg9
 z9:=Tryz.sizeOf9
 v9:=Tryz.zeroValue9
 t31:=Tryz.underlying28
 a31:=Tryz.isAgg28
 z31:=Tryz.sizeOf28
 v31:=Tryz.zeroValue28 }
open Go.RowKit Go.Lib Go.Sort in
def Tryz.slices_Compact_string(a b c:Nat)(d:List (List UInt8))(w:World)(h:Holds encStr w a b d.toArray)(g:d.length<=9223372036854775807)(f:d.length<=c) :
 Calls Tryz.prog 182 #[.slice (aa ⟨a,b,af⟩) d.length c] w λe w'=>e=.returned (.slice (aa ⟨a,b,af⟩) (Lib.compact d).length c)/\∃q,w'=putRow encStr (Sort.ahead w q) a b (Lib.compact d++List.replicate (d.length-(Lib.compact d).length) []).toArray:=Any.slices_Compact_string Tryz.ae7 a b c d w h g f
open Go.RowKit Go.Lib Go.Sort in
def Tryz.slices_Compact_string_empty(a:Option Addr)(b:Nat)(w:World) :
 Calls Tryz.prog 182 #[.slice a 0 b] w λe w'=>e=.returned (.slice a 0 b)/\w'=w:=Any.slices_Compact_string_empty Tryz.ae7 a b w
def Tryz.aa1:Go.Shelf.Ren:=⟨λ|146=>411|221=>445|268=>457|138=>458|143=>459|195=>461|197=>398|218=>462|219=>463|260=>434|217=>410|225=>456|224=>455|267=>464|266=>444|314=>465|n=>n,λ|9=>9|31=>28|3=>3|4=>4|0=>0|105=>361|21=>21|5=>5|46=>125|119=>391|139=>394|138=>393|146=>333|51=>254|n=>n,λ|1=>0|3=>1|4=>2|n=>n⟩
def Tryz.ae8:Go.Proofs.Lays.n146 Tryz.prog Tryz.aa1:={
 mixed:=by kernel_rfl
 f138:=Tryz.func458.trans (congrArg aa<|by kernel_rfl)
 f143:=Tryz.func459.trans (congrArg aa<|by kernel_rfl)
 f146:=Tryz.func411.trans (congrArg aa<|by kernel_rfl)
 f195:=Tryz.func461.trans (congrArg aa<|by kernel_rfl)
 f197:=Tryz.func398.trans (congrArg aa<|by kernel_rfl)
 f217:=Tryz.func410.trans (congrArg aa<|by kernel_rfl)
 f218:=Tryz.func462.trans (congrArg aa<|by kernel_rfl)
 f219:=Tryz.func463.trans (congrArg aa<|by kernel_rfl)
 f221:=Tryz.func445.trans (congrArg aa<|by kernel_rfl)
 f224:=Tryz.func455.trans (congrArg aa<|by kernel_rfl)
 f225:=Tryz.func456.trans (congrArg aa<|by kernel_rfl)
 f260:=Tryz.func434.trans (congrArg aa<|by kernel_rfl)
 f266:=Tryz.func444.trans (congrArg aa<|by kernel_rfl)
 f267:=Tryz.func464.trans (congrArg aa<|by kernel_rfl)
 f268:=Tryz.func457.trans (congrArg aa<|by kernel_rfl)
 f314:=Tryz.func465.trans (congrArg aa<|by kernel_rfl)
 t0:=Tryz.underlying0
 a0:=Tryz.isAgg0
 z0:=Tryz.sizeOf0
 v0:=Tryz.zeroValue0
 t3:=Tryz.underlying3
 a3:=Tryz.isAgg3
 z3:=Tryz.sizeOf3
 v3:=Tryz.zeroValue3
 t4:=Tryz.underlying4
 a4:=Tryz.isAgg4
 z4:=Tryz.sizeOf4
 v4:=Tryz.zeroValue4
 t5:=Tryz.underlying5
 a5:=Tryz.isAgg5
 z5:=Tryz.sizeOf5
 v5:=Tryz.zeroValue5
 t9:=Tryz.underlying9
 a9:=Tryz.isAgg9
 z9:=Tryz.sizeOf9
 v9:=Tryz.zeroValue9
 t21:=Tryz.underlying21
 a21:=Tryz.isAgg21
 z21:=Tryz.sizeOf21
 v21:=Tryz.zeroValue21
 t31:=Tryz.underlying28
 a31:=Tryz.isAgg28
 z31:=Tryz.sizeOf28
 v31:=Tryz.zeroValue28
 t46:=Tryz.underlying125
 a46:=Tryz.isAgg125
 z46:=Tryz.sizeOf125
 v46:=Tryz.zeroValue125
 t51:=Tryz.underlying254
 a51:=Tryz.isAgg254
 z51:=Tryz.sizeOf254
 v51:=Tryz.zeroValue254
 t105:=Tryz.underlying361
 a105:=Tryz.isAgg361
 z105:=Tryz.sizeOf361
 v105:=Tryz.zeroValue361
 t119:=Tryz.underlying391
 a119:=Tryz.isAgg391
 z119:=Tryz.sizeOf391
 t138:=Tryz.underlying393
 a138:=Tryz.isAgg393
 z138:=Tryz.sizeOf393
 v138:=Tryz.zeroValue393
 t139:=Tryz.underlying394
 a139:=Tryz.isAgg394
 z139:=Tryz.sizeOf394
 v139:=Tryz.zeroValue394
 t146:=Tryz.underlying333
 a146:=Tryz.isAgg333
 z146:=Tryz.sizeOf333
 v146:=Tryz.zeroValue333
 g1:=by kernel_rfl
 g3:=by kernel_rfl
 g4:=by kernel_rfl }
open Go.RowKit Go.Lib in
def Tryz.strings_Split(s a:ByteArray)(m:Int)(w:World)(b:s.size<4294967281)(c:w.cell? ⟨0,0,af⟩=aa (.int .i64 m))(d:1<=a.size) :
 Calls Tryz.prog 411 #[.string s,.string a] w λe w' =>
  e=.returned (.slice (aa ⟨w.heap.size,0,af⟩) (Lib.countB s a+1)<|Lib.countB s a+1)/\w'=w.alloc (.cells ((Lib.splitB a 0 (Lib.countB s a) s).map Value.string).toArray 9):=Any.strings_Split Tryz.ae8 (by kernel_rfl) s a m w b c d
def Tryz.MV:Go.Shelf.Ren:=⟨λ|156=>240|165=>280|166=>220|169=>221|240=>296|241=>361|276=>368|277=>414|n=>n,λ|31=>28|9=>9|3=>3|4=>4|0=>0|20=>20|72=>203|76=>206|70=>201|37=>180|75=>205|127=>273|164=>343|5=>5|80=>108|n=>n,λ|n=>n⟩
def Tryz.ae9:Go.Proofs.Lays.n156 Tryz.prog Tryz.MV:={
 mixed:=by kernel_rfl
 f156:=Tryz.func240.trans (congrArg aa<|by kernel_rfl)
 f165:=Tryz.func280.trans (congrArg aa<|by kernel_rfl)
 f166:=Tryz.func220.trans (congrArg aa<|by kernel_rfl)
 f169:=Tryz.func221.trans (congrArg aa<|by kernel_rfl)
 f240:=Tryz.func296.trans (congrArg aa<|by kernel_rfl)
 f241:=Tryz.func361.trans (congrArg aa<|by kernel_rfl)
 f276:=Tryz.func368.trans (congrArg aa<|by kernel_rfl)
 f277:=Tryz.func414.trans (congrArg aa<|by kernel_rfl)
 t0:=Tryz.underlying0
 a0:=Tryz.isAgg0
 z0:=Tryz.sizeOf0
 v0:=Tryz.zeroValue0
 t3:=Tryz.underlying3
 a3:=Tryz.isAgg3
 z3:=Tryz.sizeOf3
 v3:=Tryz.zeroValue3
 t4:=Tryz.underlying4
 a4:=Tryz.isAgg4
 z4:=Tryz.sizeOf4
 v4:=Tryz.zeroValue4
 t9:=Tryz.underlying9
 a9:=Tryz.isAgg9
 z9:=Tryz.sizeOf9
 v9:=Tryz.zeroValue9
 t20:=Tryz.underlying20
 a20:=Tryz.isAgg20
 z20:=Tryz.sizeOf20
 v20:=Tryz.zeroValue20
 t31:=Tryz.underlying28
 a31:=Tryz.isAgg28
 z31:=Tryz.sizeOf28
 v31:=Tryz.zeroValue28
 t37:=Tryz.underlying180
 a37:=Tryz.isAgg180
 z37:=Tryz.sizeOf180
 v37:=Tryz.zeroValue180
 t70:=Tryz.underlying201
 a70:=Tryz.isAgg201
 z70:=Tryz.sizeOf201
 v70:=Tryz.zeroValue201
 t72:=Tryz.underlying203
 a72:=Tryz.isAgg203
 z72:=Tryz.sizeOf203
 v72:=Tryz.zeroValue203
 t75:=Tryz.underlying205
 a75:=Tryz.isAgg205
 z75:=Tryz.sizeOf205
 v75:=Tryz.zeroValue205
 t76:=Tryz.underlying206
 a76:=Tryz.isAgg206
 z76:=Tryz.sizeOf206
 v76:=Tryz.zeroValue206
 t127:=Tryz.underlying273
 a127:=Tryz.isAgg273
 z127:=Tryz.sizeOf273
 v127:=Tryz.zeroValue273
 t164:=Tryz.underlying343
 a164:=Tryz.isAgg343
 z164:=Tryz.sizeOf343
 v164:=Tryz.zeroValue343 }
def Tryz.Ae:Builder.Extra Tryz.prog Tryz.MV:={
 sizeBuilder:=by kernel_rfl
 liesBuilder:=by kernel_rfl
 t5:=Tryz.underlying5
 a5:=Tryz.isAgg5
 z5:=Tryz.sizeOf5
 v5:=Tryz.zeroValue5
 infoByte:=by kernel_rfl
 cellsByte:=by kernel_rfl
 sizeByte:=by kernel_rfl
 neB5:=by decide }
open Go.RowKit in
def Tryz.strings_Join(h o c:Nat)(d:List ByteArray)(a:ByteArray)(w:World)(b:∀(j:Nat) x,d[j]?=aa x->w.cell? ⟨h,o+j,af⟩=aa (.string x))(i:h<w.heap.size)(k:d.length<=140737488355328)(f:d.length<=c)(g:(Lib.join (d.map (·.data.toList)) a.data.toList).length<=140737488355328) :
 Calls Tryz.prog 240 #[.slice (aa ⟨h,o,af⟩) d.length c,.string a] w λe w'=>e=.returned (.string ⟨(Lib.join (d.map (·.data.toList)) a.data.toList).toArray⟩)/\Below w.heap.size w w':=Any.strings_Join Tryz.ae9 Tryz.Ae h o c d a w b i k f g
open Go.RowKit in
def Tryz.strings_Join_none(a:Option Addr)(c:Nat)(b:ByteArray)(w:World) :
 Calls Tryz.prog 240 #[.slice a 0 c,.string b] w λe w'=>e=.returned (.string ⟨#[]⟩)/\w'=w:=Any.strings_Join_none Tryz.ae9 Tryz.Ae a c b w
def Tryz.MW:Go.Shelf.Ren:=⟨λ|105=>196|212=>279|99=>234|165=>280|166=>220|170=>281|169=>221|263=>359|264=>360|206=>302|240=>296|241=>361|276=>368|277=>414|n=>n,λ|9=>9|3=>3|4=>4|20=>20|0=>0|46=>125|109=>250|5=>5|72=>203|76=>206|51=>254|146=>333|53=>304|148=>335|70=>201|37=>180|75=>205|127=>273|164=>343|80=>108|n=>n,λ|n=>n⟩
def Tryz.amJ:Go.Proofs.Lays.n105 Tryz.prog Tryz.MW:={
 mixed:=by kernel_rfl
 f99:=Tryz.func234.trans (congrArg aa<|by kernel_rfl)
 f105:=Tryz.func196.trans (congrArg aa<|by kernel_rfl)
 f165:=Tryz.func280.trans (congrArg aa<|by kernel_rfl)
 f166:=Tryz.func220.trans (congrArg aa<|by kernel_rfl)
 f169:=Tryz.func221.trans (congrArg aa<|by kernel_rfl)
 f170:=Tryz.func281.trans (congrArg aa<|by kernel_rfl)
 f206:=Tryz.func302.trans (congrArg aa<|by kernel_rfl)
 f212:=Tryz.func279.trans (congrArg aa<|by kernel_rfl)
 f240:=Tryz.func296.trans (congrArg aa<|by kernel_rfl)
 f241:=Tryz.func361.trans (congrArg aa<|by kernel_rfl)
 f263:=Tryz.func359.trans (congrArg aa<|by kernel_rfl)
 f264:=Tryz.func360.trans (congrArg aa<|by kernel_rfl)
 f276:=Tryz.func368.trans (congrArg aa<|by kernel_rfl)
 f277:=Tryz.func414.trans (congrArg aa<|by kernel_rfl)
 t0:=Tryz.underlying0
 a0:=Tryz.isAgg0
 z0:=Tryz.sizeOf0
 v0:=Tryz.zeroValue0
 t3:=Tryz.underlying3
 a3:=Tryz.isAgg3
 z3:=Tryz.sizeOf3
 v3:=Tryz.zeroValue3
 t4:=Tryz.underlying4
 a4:=Tryz.isAgg4
 z4:=Tryz.sizeOf4
 v4:=Tryz.zeroValue4
 t5:=Tryz.underlying5
 a5:=Tryz.isAgg5
 z5:=Tryz.sizeOf5
 v5:=Tryz.zeroValue5
 t9:=Tryz.underlying9
 a9:=Tryz.isAgg9
 z9:=Tryz.sizeOf9
 v9:=Tryz.zeroValue9
 t20:=Tryz.underlying20
 a20:=Tryz.isAgg20
 z20:=Tryz.sizeOf20
 v20:=Tryz.zeroValue20
 t37:=Tryz.underlying180
 a37:=Tryz.isAgg180
 z37:=Tryz.sizeOf180
 v37:=Tryz.zeroValue180
 t46:=Tryz.underlying125
 a46:=Tryz.isAgg125
 z46:=Tryz.sizeOf125
 v46:=Tryz.zeroValue125
 t51:=Tryz.underlying254
 a51:=Tryz.isAgg254
 z51:=Tryz.sizeOf254
 v51:=Tryz.zeroValue254
 t53:=Tryz.underlying304
 a53:=Tryz.isAgg304
 z53:=Tryz.sizeOf304
 v53:=Tryz.zeroValue304
 t70:=Tryz.underlying201
 a70:=Tryz.isAgg201
 z70:=Tryz.sizeOf201
 v70:=Tryz.zeroValue201
 t72:=Tryz.underlying203
 a72:=Tryz.isAgg203
 z72:=Tryz.sizeOf203
 v72:=Tryz.zeroValue203
 t75:=Tryz.underlying205
 a75:=Tryz.isAgg205
 z75:=Tryz.sizeOf205
 v75:=Tryz.zeroValue205
 t76:=Tryz.underlying206
 a76:=Tryz.isAgg206
 z76:=Tryz.sizeOf206
 v76:=Tryz.zeroValue206
 t109:=Tryz.underlying250
 a109:=Tryz.isAgg250
 z109:=Tryz.sizeOf250
 v109:=Tryz.zeroValue250
 t127:=Tryz.underlying273
 a127:=Tryz.isAgg273
 z127:=Tryz.sizeOf273
 v127:=Tryz.zeroValue273
 t146:=Tryz.underlying333
 a146:=Tryz.isAgg333
 z146:=Tryz.sizeOf333
 v146:=Tryz.zeroValue333
 t148:=Tryz.underlying335
 a148:=Tryz.isAgg335
 z148:=Tryz.sizeOf335
 v148:=Tryz.zeroValue335
 t164:=Tryz.underlying343
 a164:=Tryz.isAgg343
 z164:=Tryz.sizeOf343
 v164:=Tryz.zeroValue343 }
def Tryz.Ke:Builder.Extra Tryz.prog Tryz.MW:={
 sizeBuilder:=by kernel_rfl
 liesBuilder:=by kernel_rfl
 t5:=Tryz.underlying5
 a5:=Tryz.isAgg5
 z5:=Tryz.sizeOf5
 v5:=Tryz.zeroValue5
 infoByte:=by kernel_rfl
 cellsByte:=by kernel_rfl
 sizeByte:=by kernel_rfl
 neB5:=by decide }
open Go.RowKit Go.Lib in
def Tryz.strings_Repeat(s:ByteArray)(c:Nat)(w:World)(b:c<=9223372036854775807)(a:s.size*c<=140737488355328) :
 Calls Tryz.prog 196 #[.string s,.int .i64 c] w λe w'=>e=.returned (.string ⟨(Lib.repeatL s.data.toList c).toArray⟩)/\Below w.heap.size w w':=Any.strings_Repeat Tryz.amJ Tryz.Ke s c w b a
end Go.Proofs
