import Derived.Shelf.Sort.Plain
import Derived.Shelf.Slices.In.SortNone
import Derived.Shelf.Slices.CompactS
import Derived.Shelf.Strings.Split
import Derived.Shelf.Strings.OnBuilder
import Derived.Shelf.Strings.Repeat
import Derived.Shelf.Slices.CompactI
import Derived.Test.YtgklgliokhbcnaaGreatDoorProg
set_option linter.defProp false
namespace Go.Proofs
open Go.Shelf
def Tryz.Wx:Go.Shelf.Ren:=⟨λ|190=>222|125=>309|258=>308|128=>379|129=>380|302=>370|303=>371|304=>372|305=>373|306=>374|307=>375|308=>376|309=>377|310=>378|333=>427|329=>428|330=>429|334=>430|335=>431|336=>432|344=>465|n=>n,λ|31=>25|9=>9|3=>3|46=>158|0=>0|51=>282|53=>343|4=>4|183=>349|182=>348|131=>353|5=>5|218=>397|222=>401|228=>418|229=>419|n=>n,λ|n=>n⟩
def Tryz.aak:Go.Proofs.Lays.n190 Tryz.prog Tryz.Wx:=by constructor<;>first|kernel_rfl|(intro w;kernel_rfl)
def Tryz.Wy:Go.Shelf.Ren:=⟨λ|194=>223|n=>n,λ|31=>25|9=>9|3=>3|4=>4|0=>0|n=>n,λ|n=>n⟩
def Tryz.aal:Go.Proofs.Lays.n194 Tryz.prog Tryz.Wy:=by constructor<;>first|kernel_rfl|(intro w;kernel_rfl)
def Tryz.Wz:Go.Shelf.Ren:=⟨λ|146=>447|221=>477|268=>486|138=>487|143=>488|195=>490|197=>434|218=>491|219=>492|260=>466|217=>446|225=>485|224=>484|267=>493|266=>476|314=>494|n=>n,λ|9=>9|31=>25|3=>3|4=>4|0=>0|105=>404|21=>21|5=>5|46=>158|119=>431|139=>434|138=>433|146=>378|51=>282|n=>n,λ|1=>0|3=>1|4=>2|n=>n⟩
def Tryz.ahN:Go.Proofs.Lays.n146 Tryz.prog Tryz.Wz:=by constructor<;>first|kernel_rfl|(intro w;kernel_rfl)
def Tryz.JE:Go.Shelf.Ren:=⟨λ|156=>289|165=>325|166=>265|169=>266|240=>343|241=>406|276=>413|277=>450|n=>n,λ|31=>25|9=>9|3=>3|4=>4|0=>0|20=>20|72=>244|76=>247|70=>242|37=>196|75=>246|127=>327|164=>388|5=>5|80=>141|n=>n,λ|n=>n⟩
def Tryz.aam:Go.Proofs.Lays.n156 Tryz.prog Tryz.JE:=by constructor<;>first|kernel_rfl|(intro w;kernel_rfl)
def Tryz.yF:Builder.Extra Tryz.prog Tryz.JE:=by constructor<;>first|kernel_rfl|(intro w;kernel_rfl)|decide|(constructor<;>first|kernel_rfl|(intro w;kernel_rfl))
def Tryz.JF:Go.Shelf.Ren:=⟨λ|105=>238|212=>324|99=>283|165=>325|166=>265|170=>326|169=>266|263=>404|264=>405|206=>349|240=>343|241=>406|276=>413|277=>450|n=>n,λ|9=>9|3=>3|4=>4|20=>20|0=>0|46=>158|109=>305|5=>5|72=>244|76=>247|51=>282|146=>378|53=>343|148=>380|70=>242|37=>196|75=>246|127=>327|164=>388|80=>141|n=>n,λ|n=>n⟩
def Tryz.ahO:Go.Proofs.Lays.n105 Tryz.prog Tryz.JF:=by constructor<;>first|kernel_rfl|(intro w;kernel_rfl)
def Tryz.G9:Builder.Extra Tryz.prog Tryz.JF:=by constructor<;>first|kernel_rfl|(intro w;kernel_rfl)|decide|(constructor<;>first|kernel_rfl|(intro w;kernel_rfl))
def Tryz.Py:Go.Shelf.Ren:=⟨λ|20=>92|n=>n,λ|22=>30|3=>3|4=>4|0=>0|n=>n,λ|n=>n⟩
def Tryz.Q7:Go.Proofs.Lays2.n20 Tryz.prog Tryz.Py:=by constructor<;>first|kernel_rfl|(intro w;kernel_rfl)
end Go.Proofs
