import Derived.Test.YtgklgliokhbcnaaGreatDoorChecked
import Derived.Test.YtgklgliokhbcnaaGreatDoorCards
import Derived.JoinedCond
import Derived.JoinedOf
import Derived.KernelRfl
set_option linter.unusedVariables false
set_option linter.unusedSimpArgs false
set_option linter.unusedSectionVars false
set_option linter.defProp false
open Option renaming some->aa
namespace Go.Proofs.YtgklgliokhbcnaaGreatDoor
open Go
set_option maxRecDepth 100000
def nth:List (List Nat)->Nat->List Nat
 | [],_=>[]
 | x::r,n=>bif Nat.beq n 0 then x else nth r (Nat.pred n)
def bit(m f:Nat):Bool:=Nat.beq (Nat.land (Nat.shiftRight m f) 1) 1
def cv(t:List (List Nat)):Nat->List Nat->List Nat->Nat->List Nat
 | 0,_,seen,_=>seen.reverse
 | _,[],seen,_=>seen.reverse
 | n+1,f::todo,seen,m=>bif bit m f then cv t n todo seen m else cv t n (nth t f++todo) (f::seen) (Nat.lor m<|Nat.shiftLeft 1 f)
def ajH(g:Func->List Nat):∀(l:List Func) (f:Nat),(l[f]?).elim [] g=nth (l.map g) f:=by
 intro l;induction l with
 | nil=>intro f;rfl
 | cons a r b =>
   intro f;cases f with
   | zero=>rfl
   | succ f=>exact b f
def Oh(m f:Nat):bit m f=m.testBit f:=by
 unfold bit;show Nat.beq (m >>> f &&& 1) 1=m.testBit f
 rw[Nat.testBit,Nat.and_comm 1,Nat.and_one_is_mod];rcases Nat.mod_two_eq_zero_or_one (m >>> f) with h|h<;>rw[h]<;>rfl
def ajI(m f x:Nat):bit (Nat.lor m<|Nat.shiftLeft 1 f) x=(x==f||bit m x):=by
 rw[Oh,Oh];show(m ||| (1 <<< f)).testBit x=_
 rw[Nat.testBit_or,Nat.one_shiftLeft,Nat.testBit_two_pow,Bool.or_comm]
 congr 1
 by_cases h:x=f
 .subst h;simp
 .simp[h,Ne.symm h]
def ajJ{P:Program}{t:List (List Nat)}(h:P.funcs.toList.map P.leadsTo=t):∀(n:Nat) (todo seen:List Nat) (m:Nat),(∀x,seen.contains x=bit m x)->P.closureVia n todo seen=cv t n todo seen m:=by
 intro n;induction n with
 | zero=>intro todo seen m _;cases todo<;>rfl
 | succ n b =>
   intro todo seen m a;cases todo with
   | nil=>rfl
   | cons f todo =>
     show(if seen.contains f then P.closureVia n todo seen else P.closureVia n ((P.funcs[f]?).elim [] P.leadsTo++todo) (f::seen))=bif bit m f then cv t n todo seen m else cv t n (nth t f++todo) (f::seen) (Nat.lor m<|Nat.shiftLeft 1 f)
     rw[a f];cases c:bit m f with
     | true=>exact b todo seen m a
     | false =>
       have e:(P.funcs[f]?).elim [] P.leadsTo=nth t f:=by
        rw[<-h,<-ajH];simp
       rw[e];refine b _ _ _ λx=>?_;rw[ajI,List.contains_cons,a x]
def YR{P:Program}{t:List (List Nat)}(h:P.funcs.toList.map P.leadsTo=t)(f n:Nat)(a:1+(t.map λl=>l.length+1).sum=n):P.closure f=cv t n [f] [] 0:=by
 unfold Program.closure;have e:(P.funcs.toList.map λg=>(P.leadsTo g).length+1)=t.map λl=>l.length+1:=by rw[<-h,List.map_map];rfl
 rw[e,a];exact ajJ h n [f] [] 0 λx=>by simp[Oh]
def led:List (List Nat):=[[],[],[1],[6,7,8,9,10,7],[11,7,12,7,13,14,15,7,16,7],[6,17,7,16,18,14,18,13,7,9,8,10,7],[19,17,20],[16,13,16,15],[21,22,23,24],[25,26,27,28,29,30,31],[32,33,34,35,36],[19],[28],[38,37],[39,37],[],[37,41],[42,43],[25,44,45],[46],[],[48,47,50,49,52,53],[54,55],[56,57,55,54,58,59],[],[60],[29,61],[61,29,61],[62,63,64,65,66,67,68,69,70,71,72,73,74],[],[29,61],[29],[35,75],[35,75],[35],[],[],[21,76],[],[40],[77,78,81,82,83,84,79,85],[],[86,86,87,86,87],[],[],[88],[],[89],[],[90],[51],[],[],[91,55,92],[],[],[],[],[93,94,95,96,97,98,99,100,101,102,103,104,105],[],[],[],[106,107,108,107,109,107,111,110,107,111,112,107,113,107,114,107,115,116,107,118,117],[109,107,119,120,107,121],[109,107,122],[109,107,114,107,122,114,107,123,124],[109,107,120,107,125],[109,107,120,107,125],[106,126,109,126,127,110,126,127,112,126,128],[129,126,126,130],[106,131,129,131,132,133,110,131,133,112,131,62,131,134],[135,131,136,137,120,119,131,121],[74,139,138,74,132,136,140,74,141,74,134,128],[74,139,142,106,74,138,74,110,74,143],[],[],[24,22,76,23,76],[],[79,80],[],[],[],[79,80],[],[79],[],[],[],[144],[],[],[145],[],[147,149,151,153,156,158,160,146,163,164,165,166],[152,163,167,168,163,169],[152,163,170],[152,163,170,171,163,161,163,172,173],[174],[174],[148,175,152,176,154,176,157,175,177],[178,175,180,179,175,181,182],[148,183,178,184,154,184,157,183,185,93,183,186],[187,183,188,189,168,167,183,169],[191,190,105,193,192,105,194,195,105,196,105],[193,191,190,105,197,148,105,192,154,105,198],[],[199],[],[200,201],[111,138],[106,202,203],[204],[205],[206],[113,208,207,209],[],[210,108,200,211],[207],[212,213],[],[],[208,207,125],[208,207],[210,210,214,215,215,214,215],[213],[],[],[204],[130],[127,138],[216],[],[216],[204],[137],[133,138],[217],[217],[218],[204],[],[219,118],[],[136,134,132,128],[31,10,26,144,27,28,29,30,144],[220,220],[],[148],[221,222,223,224,225],[150],[227,228],[152],[155,192],[155,154],[148,229,230,224],[232],[155,157],[233,235,234],[159],[221],[161,162],[171],[227,236,237],[],[238],[239,240],[242,241,244,243,245],[247,246,249,248,250,179],[251,252],[253,254,244,255,256,257],[253,254,221,244],[159,258,170,259],[236,236,260,262,263,264,261],[240,265,266],[152,163,168,163,163,257],[],[232],[221,267,268,182],[176,192],[269],[],[270,271,272],[],[],[232],[221,267],[189,221,267,273,269,274],[184,192],[275,269,221,267],[276,277,269,278],[279],[280,280],[235,234,282,281,283],[232],[188,284,185,285],[286,287],[226,286,287,165,288,287],[289,265,266],[188,186,185,177,290,291,241,221],[219],[292],[293],[],[],[],[],[],[],[],[116],[294,295,296,297],[210,201,293,298,299,293,300,302,301],[303,304,305],[306,306],[307,210],[297],[],[],[],[],[],[],[309,308],[],[310],[226],[311],[312,313,313,314],[315],[316,281],[231],[317],[318],[240],[281],[319],[320,321,322,323],[236,228],[324,283,283,283,283,283,325,265,326,326,326,266,265,266],[327,328],[329,329,266],[],[],[221,330],[],[290,331],[241],[],[332],[],[],[334,333],[],[335,241],[],[221,336],[290,337],[339,340,338,341,333,342],[],[162],[],[322],[],[],[],[343],[],[],[181,344,332,345],[],[],[346,332],[],[],[347,348],[],[],[],[],[],[190],[],[231],[349],[186],[177],[351,350],[],[352,353,350,354],[325,265,265,265,266],[],[],[355,356,357,358,358],[359,294,360,361,362,362,302,295,362],[363,364],[294,360,365,366],[307],[363,363],[210,367],[210,367],[363,361,214,301],[210,295,294,307,296,307,367,297],[],[],[],[368,368,368,368,369,368,368,368,368,368,368],[],[],[370,371,372,373,374,375,376,377,378,308,308],[379,380],[],[382,381,383,385,384,387,386],[],[388,389,311,388,390,391,388,391],[],[392,320,393,394,395,395,396],[],[],[221],[],[397],[398,399],[401,401,400,402],[403],[404,405],[343,406],[],[407],[327,327,327],[343],[408,409],[410,411],[],[],[],[],[],[],[333],[],[],[],[339,412],[413],[],[414,415],[],[],[416],[],[],[],[267,286,417],[],[418,419],[],[],[420,421,422,422,422,420,420,420,420,420,423],[],[363,364,365],[424,424],[],[363,361,295],[],[],[363,425],[],[426],[],[],[376],[427,427],[428,429],[430,430,430,431],[],[376,376,376],[432,432],[376,376],[376,376,376,376],[],[],[],[],[],[433],[433],[434,435],[436,435],[],[311],[437,437,438,439,437,440,437,440,437,440,437,438,437,438,437,438,437,438,437,438,437,441],[],[401,442,289,283],[443,283,231],[],[396],[320,401,394,236],[444,445],[392,320,393],[446],[],[447],[432,432],[448,449],[],[],[450],[451,452,453,454,454,454,454,454,454],[],[455],[],[456],[457,458],[],[],[459],[460,460,460],[],[],[461],[462],[],[],[463,463,464,464,464,464,464],[],[],[363,363],[376,376],[309],[],[431],[465,465,465],[],[],[466],[467],[468,434],[469],[470,471],[469],[470,399],[472,472,472,472,472,473,473],[399],[474],[],[475],[476],[477],[],[322],[],[],[],[454,454,454,454],[478],[479,479,479],[258,258,258],[],[480],[481,481,481],[],[482,482,482],[],[],[],[376],[],[399,483,399,484,485],[],[],[382,383,385,387],[],[],[399],[349],[],[],[486,487,488],[],[],[489,489,489],[],[],[],[],[],[490,434],[490,491,488],[492],[],[],[],[446,485,446,484,485,493],[494],[],[],[],[],[],[],[],[],[],[],[],[],[],[],[],[],[],[513],[],[515,514],[236,518,519,517],[516],[401,401,79],[520],[],[],[],[523],[],[524,514],[516],[],[],[],[320,401,394,529,530,530],[236,403],[236,321,320,323,403,518,513,403,531],[532,533],[],[534],[535,535,535],[],[],[],[],[],[],[],[]]
def clo:List Nat:=cv led 1579 [4] [] 0
def flat:Tryz.prog.funcs.toList.map Tryz.prog.leadsTo=led:=by kernel_rfl
def fuel:1+(led.map λl=>l.length+1).sum=1579:=by kernel_rfl
def closed:Tryz.prog.closure 4=clo:=YR flat 4 1579 fuel
def unf:Tryz.prog.unfollowed 4=true:=by
 unfold Program.unfollowed;rw[closed];kernel_rfl
def goes:Tryz.prog.goes 4=false:=by
 unfold Program.goes;rw[closed,unf];kernel_rfl
def ajK:(Rows.linearAloneRow.unfollowed==Tryz.pinned.checked.prog.unfollowed 4)=true:=by
 rw[show Tryz.pinned.checked.prog.unfollowed 4=true from unf];rfl
def ahT:(Rows.linearAloneRow.recurses==Tryz.pinned.checked.prog.recurses 4)=true:=by
 have h:Tryz.pinned.checked.prog.recurses 4=true:=by
  unfold Program.recurses;rw[show Tryz.pinned.checked.prog.unfollowed 4=true from unf];rfl
 rw[h];rfl
def ajL:(Rows.linearAloneRow.inPlace==Tryz.pinned.checked.prog.inPlace 4)=true:=by
 unfold Program.inPlace;rw[show Tryz.pinned.checked.prog.closure 4=clo from closed];kernel_rfl
def af8:(Rows.linearAloneRow.named==Tryz.pinned.checked.prog.varsNamed 4)=true:=by
 unfold Program.varsNamed;rw[show Tryz.pinned.checked.prog.closure 4=clo from closed];kernel_rfl
def af9:false=Rows.linearAloneRow.goesBy Tryz.pinned.checked.prog:=by
 have h:Tryz.pinned.checked.prog.funcNamed Rows.linearAloneRow.func=aa 4:=by kernel_rfl
 have a:Tryz.pinned.checked.prog.goes 4=false:=goes;have hs:Rows.linearAloneRow.start=.entering:=rfl;unfold OpenClaim.goesBy Program.goesAt Program.goesFrom;rw[h,hs,Option.any_some,a];rfl
end Go.Proofs.YtgklgliokhbcnaaGreatDoor
