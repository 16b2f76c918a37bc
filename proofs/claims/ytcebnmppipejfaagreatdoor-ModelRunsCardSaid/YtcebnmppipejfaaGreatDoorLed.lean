import Derived.Test.YtcebnmppipejfaaGreatDoorChecked
import Derived.Test.YtcebnmppipejfaaGreatDoorCards
import Derived.JoinedCond
import Derived.JoinedOf
import Derived.KernelRfl
set_option linter.unusedVariables false
set_option linter.unusedSimpArgs false
set_option linter.unusedSectionVars false
set_option linter.defProp false
open Option renaming some->aa
namespace Go.Proofs.YtcebnmppipejfaaGreatDoor
open Go
set_option maxRecDepth 100000
def nth:List (List Nat)->Nat->List Nat
 | [],_=>[]
 | x::r,n=>bif Nat.beq n 0 then x else nth r (Nat.pred n)
def bit(m f:Nat):Bool:=Nat.beq (Nat.land (Nat.shiftRight m f) 1) 1
def cv(t:List (List Nat)):Nat->List Nat->List Nat->Nat->List Nat
 | 0,_,seen,_=>seen.reverse
 | _,[],seen,_=>seen.reverse
 | n+1,f::todo,seen,m=>bif bit m f then cv t n todo seen m else cv t n (nth t f++todo) (f::seen) (Nat.lor m<|Nat.shiftLeft 1 f)
def aos(g:Func->List Nat):∀(l:List Func) (f:Nat),(l[f]?).elim [] g=nth (l.map g) f:=by
 intro l;induction l with
 | nil=>intro f;rfl
 | cons a r b =>
   intro f;cases f with
   | zero=>rfl
   | succ f=>exact b f
def SI(m f:Nat):bit m f=m.testBit f:=by
 unfold bit;show Nat.beq (m >>> f &&& 1) 1=m.testBit f
 rw[Nat.testBit,Nat.and_comm 1,Nat.and_one_is_mod];rcases Nat.mod_two_eq_zero_or_one (m >>> f) with h|h<;>rw[h]<;>rfl
def aot(m f x:Nat):bit (Nat.lor m<|Nat.shiftLeft 1 f) x=(x==f||bit m x):=by
 rw[SI,SI];show(m ||| (1 <<< f)).testBit x=_
 rw[Nat.testBit_or,Nat.one_shiftLeft,Nat.testBit_two_pow,Bool.or_comm]
 congr 1
 by_cases h:x=f
 .subst h;simp
 .simp[h,Ne.symm h]
def aou{P:Program}{t:List (List Nat)}(h:P.funcs.toList.map P.leadsTo=t):∀(n:Nat) (todo seen:List Nat) (m:Nat),(∀x,seen.contains x=bit m x)->P.closureVia n todo seen=cv t n todo seen m:=by
 intro n;induction n with
 | zero=>intro todo seen m _;cases todo<;>rfl
 | succ n b =>
   intro todo seen m a;cases todo with
   | nil=>rfl
   | cons f todo =>
     show(if seen.contains f then P.closureVia n todo seen else P.closureVia n ((P.funcs[f]?).elim [] P.leadsTo++todo) (f::seen))=bif bit m f then cv t n todo seen m else cv t n (nth t f++todo) (f::seen) (Nat.lor m<|Nat.shiftLeft 1 f)
     rw[a f];cases c:bit m f with
     | true=>exact b todo seen m a
     | false =>
       have e:(P.funcs[f]?).elim [] P.leadsTo=nth t f:=by
        rw[<-h,<-aos];simp
       rw[e];refine b _ _ _ λx=>?_;rw[aot,List.contains_cons,a x]
def adF{P:Program}{t:List (List Nat)}(h:P.funcs.toList.map P.leadsTo=t)(f n:Nat)(a:1+(t.map λl=>l.length+1).sum=n):P.closure f=cv t n [f] [] 0:=by
 unfold Program.closure;have e:(P.funcs.toList.map λg=>(P.leadsTo g).length+1)=t.map λl=>l.length+1:=by rw[<-h,List.map_map];rfl
 rw[e,a];exact aou h n [f] [] 0 λx=>by simp[SI]
def led:List (List Nat):=[[],[],[1],[7,8,9,10,11,12,13,14,11,11,8],[15,15,16,8,18,19,17,20,21,23,24,22,25,26,11,27,28,11,8],[15,16,14,8,13,25,13,27,11,8],[15,15,16,14,14,8,25,27,25,25,11,8,13,13,8],[16],[9,14,12,18,17],[13],[29],[30,31,32,22,33],[],[34,35,36,37,38,39,40,41,42,43,44,45,46],[47,47,47,48,49,49,49],[50,51],[52],[],[53,53],[],[54],[],[],[55,56],[57,58],[59,23,60,61,20,62,63,64],[19,65,65,21,65,24,66],[59,60,61,20,62,63,67],[19,65,65,21,65,68],[69,70,71,72,73,74,75,76,77,78,79,80,81],[22,82],[22,82],[22],[],[84,86,88,89,92,94,95,83,98,99,100,101],[55,98,102,103,98,104],[55,98,67],[55,98,67,105,98,96,98,106,107],[108],[108],[85,109,55,110,90,110,93,109,111],[112,109,114,113,109,115,116],[85,117,112,118,90,118,93,117,119,34,117,120],[121,117,122,123,103,102,117,104],[18,54,46,125,124,46,126,127,46,128,46],[125,18,54,46,129,85,46,124,90,46,130],[],[131,132,133,134],[135,136,137,138],[],[139,139,140,139,140],[],[],[54],[141],[91,124],[142],[144,143],[145],[18],[],[],[],[],[146],[],[],[147,148,142,149],[49,150],[151,152,137,152,57,152,144,153,152,144,154,152,58,152,138,152,155,156,152,136,157],[57,152,158,159,152,160],[57,152,68],[57,152,138,152,68,138,152,161,162],[57,152,159,152,163],[57,152,159,152,163],[151,164,57,164,165,153,164,165,154,164,166],[167,164,164,168],[151,169,167,169,170,171,153,169,171,154,169,69,169,172],[173,169,174,175,159,158,169,160],[81,176,143,81,170,174,177,81,178,81,172,166],[81,176,179,151,81,143,81,153,81,180],[],[],[],[85],[142,181,182,183,184],[87],[186,187],[55],[91,90],[85,188,189,183],[190],[91,93],[191,193,192],[56],[96,97],[105],[186,194,195],[],[196],[197,198],[200,199,149,201,202],[204,203,206,205,207,113],[208,209],[147,148,149,210,211,212],[56,213,67,214],[194,194,215,217,218,219,216],[198,220,221],[55,98,103,98,98,212],[],[190],[142,222,223,116],[110,124],[224],[],[61,225,226],[],[],[190],[142,222],[123,142,222,227,224,228],[118,124],[229,224,142,222],[60,230,224,231],[193,192,233,232,234],[190],[122,235,119,236],[237,238],[185,237,238,100,239,238],[240,220,221],[122,120,119,111,63,241,199,142],[242,242,243,244],[242,243,242,245],[242,243,242,242,245],[],[58],[246,247],[248,249],[58,49,150,250],[],[],[],[],[251],[252],[],[],[253,199],[],[],[],[243],[],[151,254,255],[256],[],[257,137,248,258],[150],[],[],[49,150,163],[257,257,259,260,260,259,260],[247],[],[],[252],[168],[165,143],[261],[],[261],[252],[175],[171,143],[262],[262],[252],[],[263,136],[],[174,172,170,166],[265,264],[],[266],[185],[267],[268,269,269,270],[271],[272,232],[64],[273],[198],[232],[274],[275,276,277,278],[194,187],[279,234,234,234,234,234,280,220,281,281,281,221,220,221],[282,283],[284,284,221],[],[],[142,285],[63,286],[199],[],[287],[],[],[289,288],[],[142,290],[63,291],[62,293,292,294,288,295],[],[97],[],[277],[],[],[],[296],[],[],[115,297,287,298],[],[299,287],[],[],[300,301],[],[],[],[],[64],[302],[120],[111],[304,303],[],[305,306,303,307],[280,220,220,220,221],[],[308],[263],[308],[263,136],[309,310,311],[312,312],[313],[314],[156],[],[],[],[],[],[],[315,316,317,318],[257,249,314,319,320,314,321,323,322],[324,257],[318],[],[],[],[325,326,327,328,329,330,331,332,333,264,264],[334,335],[],[337,336,338,340,339,342,341],[],[343,344,267,343,345,346,343,346],[],[347,275,348,349,350,350,351],[],[142],[],[352],[353,354],[356,356,355,357],[358],[359,360],[296,361],[],[362],[282,282,282],[296],[363,364],[365,366],[],[],[],[],[],[288],[],[],[62,367],[368],[],[369,370],[],[],[371],[],[],[],[222,237,372],[],[373,374],[375,375],[],[],[376,376,376,376,377,376,376,376,376,376,376],[],[378,379,380,381,381],[382,315,383,384,385,385,323,316,385],[386,387],[315,383,388,389],[324],[386,386],[257,390],[257,390],[386,384,259,322],[257,316,315,324,317,324,390,318],[],[],[331],[391,391],[392,393],[394,394,394,395],[],[331,331,331],[396,396],[331,331],[331,331,331,331],[],[],[],[],[],[397],[397],[398,399],[400,399],[],[267],[401,401,402,403,401,404,401,404,401,404,401,402,401,402,401,402,401,402,401,402,401,405],[],[356,406,240,234],[407,234,64],[],[351],[275,356,349,194],[408,409],[347,275,348],[410],[],[411],[396,396],[412,413],[],[],[414],[415,416,417,418,418,418,418,418,418],[],[419],[],[420],[421,422],[],[],[423],[424,424,424],[],[],[425],[312],[],[],[],[],[426,427,428,428,428,426,426,426,426,426,429],[],[386,387,388],[430,430],[],[386,384,316],[],[],[386,431],[],[432],[331,331],[265],[],[395],[433,433,433],[],[],[434],[435],[436,398],[437],[438,439],[437],[438,354],[440,440,440,440,440,441,441],[354],[442],[],[443],[444],[445],[],[277],[],[],[],[418,418,418,418],[446],[447,447,447],[213,213,213],[],[448],[449,449,449],[],[450,450,450],[451],[],[],[452,452,453,453,453,453,453],[],[],[386,386],[331],[],[354,454,354,455,456],[],[],[337,338,340,342],[],[],[354],[302],[],[],[457,458,459],[],[],[460,460,460],[],[],[],[],[],[],[],[],[461,398],[461,462,459],[463],[],[],[],[410,456,410,455,456,464],[465],[],[],[],[],[],[],[],[],[],[],[],[],[],[],[],[],[],[484],[],[486,485],[194,489,490,488],[487],[356,356,491],[492],[],[],[],[],[495],[],[496,485],[487],[],[],[],[275,356,349,501,502,502],[194,358],[194,276,275,278,358,489,484,358,503],[504,505],[],[506],[507,507,507],[],[],[],[],[],[],[],[]]
def clo:List Nat:=cv led 1562 [3] [] 0
def flat:Tryz.prog.funcs.toList.map Tryz.prog.leadsTo=led:=by kernel_rfl
def fuel:1+(led.map λl=>l.length+1).sum=1562:=by kernel_rfl
def closed:Tryz.prog.closure 3=clo:=adF flat 3 1562 fuel
def unf:Tryz.prog.unfollowed 3=true:=by
 unfold Program.unfollowed;rw[closed];kernel_rfl
def goes:Tryz.prog.goes 3=false:=by
 unfold Program.goes;rw[closed,unf];kernel_rfl
def aov:(Rows.modelRunsRow.unfollowed==Tryz.pinned.checked.prog.unfollowed 3)=true:=by
 rw[show Tryz.pinned.checked.prog.unfollowed 3=true from unf];rfl
def amN:(Rows.modelRunsRow.recurses==Tryz.pinned.checked.prog.recurses 3)=true:=by
 have h:Tryz.pinned.checked.prog.recurses 3=true:=by
  unfold Program.recurses;rw[show Tryz.pinned.checked.prog.unfollowed 3=true from unf];rfl
 rw[h];rfl
def aow:(Rows.modelRunsRow.inPlace==Tryz.pinned.checked.prog.inPlace 3)=true:=by
 unfold Program.inPlace;rw[show Tryz.pinned.checked.prog.closure 3=clo from closed];kernel_rfl
def akH:(Rows.modelRunsRow.named==Tryz.pinned.checked.prog.varsNamed 3)=true:=by
 unfold Program.varsNamed;rw[show Tryz.pinned.checked.prog.closure 3=clo from closed];kernel_rfl
def akI:false=Rows.modelRunsRow.goesBy Tryz.pinned.checked.prog:=by
 have h:Tryz.pinned.checked.prog.funcNamed Rows.modelRunsRow.func=aa 3:=by kernel_rfl
 have a:Tryz.pinned.checked.prog.goes 3=false:=goes;have b:Rows.modelRunsRow.start=.entering:=rfl;unfold OpenClaim.goesBy Program.goesAt Program.goesFrom;rw[h,b,Option.any_some,a];rfl
end Go.Proofs.YtcebnmppipejfaaGreatDoor
