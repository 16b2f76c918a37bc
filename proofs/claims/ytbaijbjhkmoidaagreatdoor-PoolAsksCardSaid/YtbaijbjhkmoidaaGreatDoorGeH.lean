/- A ghost interpreter of the model's code, and that it tells the truth: part 8. It says of a function of plain data what a call of it comes to. -/
import Derived.Test.YtbaijbjhkmoidaaGreatDoorGeG
set_option linter.unusedVariables false
set_option linter.unusedSimpArgs false
set_option linter.unusedSectionVars false
namespace Go.Ge
open RowKit
section
variable {σ1 σ2:St} {d:Option Nat} {cx:Ctx} {nb:Nat} {bf:List Nat} {inl:Nat→List ay→St→Tree (ay×St)}
theorem tL(hle:Le σ1 σ2)(hb:∀k,d=some k→σ1.mem (nb+k)=σ2.mem (nb+k)){ty:TypeId}{v:ay}:LT σ2 d (gm cx nb bf d ty v σ1) (gm cx nb bf d ty v σ2):=by
 have R:=Rel.refl hle;unfold gm;cases v with
 | undef=>exact LT.bif (LT.ret R)
 | js =>
   simp only;split
   ·rename_i k e _;cases b6 bf k with
    | true=>exact LT.aA hle (hb k rfl)
    | false=>exact LT.GI R
   ·exact LT.ret R
 | _=>exact LT.ret R
theorem E0(hle:Le σ1 σ2){c a b:ay}:LT σ2 d (ju d c a b σ1) (ju d c a b σ2):=by
 have R:=Rel.refl hle;unfold ju;split
 ·split
  ·split
   ·exact LT.ret R
   ·exact LT.fail
  ·exact LT.node (LT.ret R) (LT.ret R)
 ·exact LT.fail
theorem E1(hle:Le σ1 σ2){ty:TypeId}{a:ay}:LT σ2 d (gR cx d ty a σ1) (gR cx d ty a σ2):=by
 have R:=Rel.refl hle;unfold gR;cases a with
 | cell u x=>exact LT.bif (LT.ret R)
 | ptr b aj p =>
   ((try dsimp only);split<;>first|exact LT.fail|(rename_i hq;rw[(hle b) _ hq];try dsimp only))
   exact LT.bif (LT.bind fun x _=>LT.bif (LT.ret R))
 | _=>exact LT.fail
theorem Ah{jw jo:St}(R:Rel σ1 σ2 jw jo){b aj:Nat}{p:List uh}{fit:ay→Bool}{v:ay}:LT σ2 none (storeAt b aj p fit v jw) (storeAt b aj p fit v jo):=by
 unfold storeAt
 ((try dsimp only);split<;>first|exact LT.fail|(rename_i hq;rw[(R.le b) _ hq];try dsimp only))
 exact LT.bif (LT.bind fun x _=>LT.bif (LT.bind fun c _=>LT.store (R.trans (Rel.bJ R.le))))
theorem LT.Sr{c:Bool}{t u t' u':Tree St}(h:LT σ2 d t u)(h':LT σ2 d t' u'):LT σ2 d (bif c then t else t') (bif c then u else u'):=by cases c<;>first|exact h'|exact h
theorem GJ{jw jo:St}(R:Rel σ1 σ2 jw jo){b aj:Nat}{p:List uh}{n:Nat}{v:ay}:LT σ2 none (lC b aj p n v jw) (lC b aj p n v jo):=by
 unfold lC
 ((try dsimp only);split<;>first|exact LT.fail|(rename_i hq;rw[(R.le b) _ hq];try dsimp only))
 exact LT.bif (LT.bind fun x _=>LT.bif (LT.bind fun c _=>LT.bif (LT.store (R.trans (Rel.bJ R.le)))))
theorem Dp(hle:Le σ1 σ2){bf:List Nat}{ty:TypeId}{a v:ay}:LT σ2 none (gX cx bf ty a v σ1) (gX cx bf ty a v σ2):=by
 have R:=Rel.refl hle;unfold gX;cases a with
 | ptr b aj p =>
   ((try dsimp only);split<;>first|exact LT.fail|(rename_i hq;rw[(hle b) _ hq];try dsimp only))
   refine LT.bif (LT.bind fun old _=>?_);split
   ·refine LT.bif (LT.Sr (GJ R) ?_);split
    ·rename_i y jw hg;obtain⟨jo,k1,k2⟩:=sU hle hg;rw[k1];exact Ah k2
    ·exact LT.fail
   ·exact LT.bif (Ah R)
 | _=>exact LT.fail
theorem Jk{n:Int}{lo hi:Option Operand}(ho:∀x∈lo.toList++hi.toList,bN σ1 x=bN σ2 x):bounds σ1 n lo hi=bounds σ2 n lo hi:=by
 unfold bounds;cases lo<;>cases hi<;>simp only<;>simp at ho<;>simp[ho]
theorem Dq(hle:Le σ1 σ2){ty:TypeId}{x:ay}{lo hi:Option Operand}(ho:∀x∈lo.toList++hi.toList,bN σ1 x=bN σ2 x):LT σ2 d (gY cx d ty x lo hi σ1) (gY cx d ty x lo hi σ2):=by
 have R:=Rel.refl hle;have hbd:∀n,bounds σ1 n lo hi=bounds σ2 n lo hi:=fun n=>Jk ho;unfold gY;split
 ·rename_i s _;rw[hbd]
  ((try dsimp only);split<;>first|exact LT.fail|skip)
  exact LT.need (LT.ret R)
 ·rw[hbd];refine LT.bif ?_
  ((try dsimp only);split<;>first|exact LT.fail|skip)
  exact LT.need (LT.ret R)
 ·rename_i u c aj l n _
  ((try dsimp only);split<;>first|exact LT.fail|(rename_i hq;rw[(hle c) _ hq];try dsimp only))
  refine LT.bif ?_;rw[hbd]
  ((try dsimp only);split<;>first|exact LT.fail|skip)
  exact LT.need (LT.ret R)
 ·rename_i u c aj _
  ((try dsimp only);split<;>first|exact LT.fail|(rename_i hq;rw[(hle c) _ hq];try dsimp only))
  refine LT.bif ?_;split
  ·refine LT.bif ?_;split
   ·exact LT.ret R
   ·rw[hbd]
    ((try dsimp only);split<;>first|exact LT.fail|skip)
    exact LT.need (LT.ret R)
  ·exact LT.fail
 ·rw[hbd];refine LT.EZ (fun h=>?_) ?_
  ·simp only[cP] at h⊢;exact⟨kr hle h.1,h.2⟩
  ·((try dsimp only);split<;>first|exact LT.fail|skip)
   exact LT.need (LT.ret R)
 ·rename_i m u c aj _
  ((try dsimp only);split<;>first|exact LT.fail|(rename_i hq;rw[(hle c) _ hq];try dsimp only))
  refine LT.bif ?_;split
  ·rw[hbd];refine LT.bif ?_
   ((try dsimp only);split<;>first|exact LT.fail|skip)
   exact LT.need (LT.ret R)
  ·exact LT.fail
 ·exact LT.fail
theorem Lv(hle:Le σ1 σ2){b aj:Nat}{i:Int}:∀{m k:Nat},LT σ2 d (zk d b aj σ1 i m k) (zk d b aj σ2 i m k):=by
 intro m;induction m with
 | zero=>intro k;exact LT.fail
 | succ m ih=>intro k;exact LT.node (LT.ret (Rel.refl hle)) ih
theorem p7(hle:Le σ1 σ2){ty:TypeId}{x:ay}{i:Int}:LT σ2 d (cQ cx d ty x i σ1) (cQ cx d ty x i σ2):=by
 have R:=Rel.refl hle;unfold cQ;split
 ·exact LT.bif (LT.look fun _=>LT.ret R)
 ·exact LT.bif (LT.look fun _=>LT.ret R)
 ·((try dsimp only);split<;>first|exact LT.fail|(rename_i hq;rw[((fun r (hr:_=some r)=>Ag hle hr)) _ hq];try dsimp only))
  exact LT.bif (LT.need (LT.ret R))
 ·((try dsimp only);split<;>first|exact LT.fail|(rename_i hq;rw[((fun r (hr:_=some r)=>Ag hle hr)) _ hq];try dsimp only))
  exact LT.bif (LT.need (LT.ret R))
 ·exact LT.EZ (fun h=>kr hle h) (LT.need (LT.ret R))
 ·split
  ·refine LT.EZ (fun h=>?_) (Lv hle);simp only[cP] at h⊢;exact⟨h.1,kr hle h.2⟩
  ·exact LT.fail
 ·exact LT.fail
theorem Dr(hle:Le σ1 σ2){ty:TypeId}{x:ay}{i:Int}:LT σ2 d (gZ cx d ty x i σ1) (gZ cx d ty x i σ2):=by
 have R:=Rel.refl hle;unfold gZ;split
 ·refine LT.EZ (fun h=>?_) ?_
  ·simp only[cP] at h⊢;exact⟨h.1,kr hle h.2⟩
  ·split
   ·exact LT.bif (LT.ret R)
   ·exact LT.fail
 ·exact p7 hle
theorem Ds(hle:Le σ1 σ2){ty:TypeId}{x:ay}{i:Int}:LT σ2 d (hJ cx d ty x i σ1) (hJ cx d ty x i σ2):=by
 have R:=Rel.refl hle;unfold hJ;split
 ·exact LT.look fun _=>LT.ret R
 ·exact LT.bif (LT.look fun _=>LT.ret R)
 ·exact LT.fail
theorem w8(hle:Le σ1 σ2){s:TypeId}{x:ay}{k:Nat}:LT σ2 d (dw cx d s x k σ1) (dw cx d s x k σ2):=by
 have R:=Rel.refl hle;unfold dw;split
 ·refine LT.bif ?_;split
  ·exact LT.ret R
  ·exact LT.fail
 ·refine LT.EZ (fun h=>kr hle h) ?_;split
  ·split
   ·exact LT.ret R
   ·exact LT.fail
  ·split
   ·split
    ·exact LT.ret R
    ·exact LT.fail
   ·exact LT.fail
 ·exact LT.fail
theorem Ai(hle:Le σ1 σ2)(hb:∀k,d=some k→σ1.mem (nb+k)=σ2.mem (nb+k)){s t:TypeId}{x:ay}:LT σ2 d (eW cx nb d s t x σ1) (eW cx nb d s t x σ2):=by
 have R:=Rel.refl hle;unfold eW;split
 ·exact LT.ret R
 ·exact LT.ret R
 ·split
  ·exact LT.need (LT.aA hle (hb _ rfl))
  ·exact LT.fail
 ·((try dsimp only);split<;>first|exact LT.fail|(rename_i hq;rw[((fun r (hr:_=some r)=>sS hle hr)) _ hq];try dsimp only))
  exact LT.ret R
 ·exact LT.fail
theorem tM(hle:Le σ1 σ2)(hb:∀k,d=some k→σ1.mem (nb+k)=σ2.mem (nb+k)){ty:TypeId}{s x:ay}:LT σ2 d (fh cx nb d ty s x σ1) (fh cx nb d ty s x σ2):=by
 have R:=Rel.refl hle;unfold fh;split
 ·rename_i k e _
  ((try dsimp only);split<;>first|exact LT.fail|(rename_i hq;rw[((fun r (hr:_=some r)=>Ji hle hr)) _ hq];try dsimp only))
  split
  ·exact LT.need (LT.aA hle (hb _ rfl))
  ·rename_i b aj;cases hq:σ1.mem b with
   | none=>exact LT.fail
   | some bx =>
     rw[hle b bx hq];cases hl:eK e σ1 (.whole b aj) with
     | none=>exact LT.fail
     | some l =>
       rw[sS hle hl];simp only;cases (bx.lk||!O8 cx ty bx.tid) with
       | true=>exact LT.fail
       | false=>exact LT.need (LT.GI (Rel.bJ hle))
  ·exact LT.fail
 ·exact LT.fail
theorem Lw(hle:Le σ1 σ2):∀{o:OT} {v:ay} {r},cj σ1.mem o v=some r→cj σ2.mem o v=some r:=by
 intro o;induction o with
 | dat t=>intro v r h;exact h
 | buf e cq =>
   intro v r h;cases v<;>first|(cases h;done)|skip
   rename_i b aj;simp only[cj] at h⊢;cases hb:σ1.mem b with
   | none=>rw[hb] at h;cases h
   | some bx=>rw[hb] at h;rw[hle b bx hb];exact h
 | ref tid o ih =>
   intro v r h;cases v<;>first|(cases h;done)|skip
   rename_i b aj UJ;cases UJ with
   | cons _ _=>cases h
   | nil =>
     simp only[cj] at h⊢;cases hb:σ1.mem b with
     | none=>rw[hb] at h;cases h
     | some bx =>
       rw[hb] at h;rw[hle b bx hb];simp only at h⊢;cases hcd:(Nat.beq bx.aj aj&&!bx.buf&&!bx.lk&&!bx.ro&&Nat.beq bx.tid tid) with
       | false=>rw[hcd] at h;cases h
       | true =>
         rw[hcd] at h;simp only[jk] at h⊢;cases hr:cj σ1.mem o bx.val with
         | none=>rw[hr] at h;cases h
         | some q=>rw[hr] at h;rw[ih hr];exact h
 | pair p q pY pg =>
   intro v r h;unfold cj at h;split at h
   case h_2=>cases h
   split at h
   case h_2=>cases h
   rename_i h1 h2;cases h;exact wY (pY h1) (pg h2)
 | unit=>intro v r h;exact h
theorem GK(hle:Le σ1 σ2):∀{ps:List Bool} {A:Ty} {U:OT} {vs:List ay} {r},eG σ1 ps A U vs=some r→eG σ2 ps A U vs=some r:=by
 intro ps;induction ps with
 | nil=>intro A U vs r h;exact h
 | cons q ps ih =>
   intro A U vs r h;cases q with
   | false =>
     cases A<;>first|(cases h;done)|skip
     cases vs with
     | nil=>cases h
     | cons v vs =>
       simp only[eG] at h⊢;split at h
       ·rename_i h1 h2;rw[h1,ih h2];exact h
       ·cases h
   | true =>
     cases U<;>first|(cases h;done)|skip
     rename_i o U;cases o<;>first|(cases h;done)|skip
     cases vs with
     | nil=>cases h
     | cons v vs =>
       simp only[eG] at h⊢;split at h
       ·rename_i h1 h2;rw[Lw hle h1,ih h2];exact h
       ·cases h
theorem Rel.gN(hle:Le σ1 σ2){U:OT}{y:U.den}{N M:List (Nat×Nat)}:Rel σ1 σ2 (Go.Ge.gN U y N M σ1) (Go.Ge.gN U y N M σ2) where
 s1:=rfl
 s2:=rfl
 m:=fun b=>by
  rw[eX,eX];cases fI U y N (M.map fun p=>(p.1,p.2+1)) b with
  | some bx=>rfl
  | none =>
    cases h:σ1.mem b with
    | some x=>exact hle b x h
    | none=>rfl
 nv:=fun b h=>by
  rw[eX] at h;cases hc:fI U y N (M.map fun p=>(p.1,p.2+1)) b with
  | some bx=>rw[hc] at h;cases h
  | none=>rw[hc] at h;exact h
theorem Jl(hle:Le σ1 σ2){f:Nat}{args:List ay}(Qk:find cx.fH f≠none∨find cx.D2 f=none):LT σ2 d (o7 cx rL d f args σ1) (o7 cx inl d f args σ2):=by
 have R:=Rel.refl hle;unfold o7;split
 ·split
  ·have key:∀{A:Ty} {vs:List ay} {x:A.den},fy σ1 A vs=some x→fy σ2 A vs=some x:=by
    intro A;induction A with
    | pair t r F3 ihr =>
      intro vs x hl;cases vs with
      | nil=>cases hl
      | cons v vs =>
        simp only[fy] at hl⊢;split at hl
        ·rename_i p q hp hq;rw[H9 hle hp,ihr hq];exact hl
        ·cases hl
    | unit=>intro vs x hl;cases vs<;>exact hl
    | _=>intro vs x hl;cases vs<;>cases hl
   ((try dsimp only);split<;>first|exact LT.fail|(rename_i hq;rw[((fun r (hr:_=some r)=>key hr)) _ hq];try dsimp only))
   exact LT.look fun _=>LT.ret R
  ·split
   ·rename_i x jw hg;obtain⟨jo,k1,k2⟩:=uB hle hg;rw[k1];exact LT.look fun _=>LT.ret k2
   ·exact LT.fail
 ·rename_i hn;rw[Qk.resolve_left fun q=>q hn];split
  ·rename_i hs;cases hs
  ·split
   ·rename_i k hk;cases hr:eG σ1 k.ps k.A k.U args with
    | none=>exact fun y hy=>by cases hy
    | some r =>
      rw[GK hle hr];exact LT.bif (LT.look fun y=>LT.ret (Rel.gN hle))
   ·exact fun y hy=>by cases hy
theorem LT.NH{jw jo:St}(R:Rel σ1 σ2 jw jo){k:Nat}{b:Nat}(hb:σ1.mem b=σ2.mem b){val:ay}{tid:TypeId}{buf:Bool}{v:Nat→ay} :
  LT σ2 (some k) (jw.aA b val tid buf fun aj σ=>.ret (σ.put k (v aj))) (jo.aA b val tid buf fun aj σ=>.ret (σ.put k (v aj))):=by
 have hq:jw.mem b=jo.mem b:=by
  rw[R.m b];cases h:jw.mem b with
  | some x=>rfl
  | none=>simp only;rw[←hb,R.nv b h]
 unfold St.aA;rw[←hq];cases jw.mem b with
 | none=>exact LT.GI (R.trans (Rel.bJ R.le))
 | some bx =>
   simp only;cases bx.lk with
   | true=>exact LT.fail
   | false=>exact LT.GI (R.trans (Rel.bJ R.le))
theorem Dt(hle:Le σ1 σ2)(hb:∀k,d=some k→σ1.mem (nb+k)=σ2.mem (nb+k)){e:Ty}{args:List ay}:LT σ2 d (hU nb e d args σ1) (hU nb e d args σ2):=by
 unfold hU;split
 ·split
  ·rename_i l jw hg;obtain⟨jo,k1,k2⟩:=sU hle hg;rw[k1];exact LT.bif (LT.need (LT.NH k2 (hb _ rfl)))
  ·exact LT.fail
 ·exact LT.fail
theorem Du(hle:Le σ1 σ2)(hb:∀k,d=some k→σ1.mem (nb+k)=σ2.mem (nb+k)){g:Nat}{args:List ay}:LT σ2 d (hY nb g d args σ1) (hY nb g d args σ2):=by
 unfold hY;split
 ·exact LT.fail
 ·exact LT.fail
 ·exact LT.aA hle (hb _ rfl) (v:=fun aj=>.fn g [(_,aj)])
 ·exact LT.fail
theorem Jm{jw jo:St}(h:Le jw jo){e:Ty}{v:ay}{r:Nat×Nat×aY×List e.den}(hl:qu e jw v=some r):qu e jo v=some r:=by
 cases v with
 | part b aj lo n =>
   simp only[qu] at hl⊢;cases hb:jw.mem b with
   | none=>rw[hb] at hl;cases hl
   | some bx=>rw[hb] at hl;rw[h b bx hb];exact hl
 | whole b aj =>
   simp only[qu] at hl⊢;cases hb:jw.mem b with
   | none=>rw[hb] at hl;cases hl
   | some bx=>rw[hb] at hl;rw[h b bx hb];exact hl
 | _=>cases hl
theorem GL(hle:Le σ1 σ2){e A:Ty}{res:Bool}{spec:List e.den→A.den→Option (List e.den)}{args:List ay}:LT σ2 d (lD e A res spec d args σ1) (lD e A res spec d args σ2):=by
 unfold lD;split
 ·split
  ·rename_i x jw hg;obtain⟨jo,k1,k2⟩:=uB hle hg;rw[k1];simp only;split
   ·rename_i b aj bx l OS;rw[Jm k2.le OS];simp only;refine LT.look fun l'=>?_;cases res with
    | true =>
      cases d with
      | none=>exact LT.fail
      | some k=>exact LT.GI (k2.trans (Rel.bJ k2.le))
    | false=>cases d<;>exact LT.bif (LT.ret (k2.trans (Rel.bJ k2.le)))
   ·exact LT.fail
  ·exact LT.fail
 ·exact LT.fail
theorem GM(hle:Le σ1 σ2)(hb:∀k,d=some k→σ1.mem (nb+k)=σ2.mem (nb+k)){f:Nat}{args:List ay}(Qk:nL cx bf d f=none→(find cx.fH f≠none∨find cx.D2 f=none)∨(find cx.fH f=none∧∃e,find cx.D2 f=some (.clone e)))(hcs:∀s,nL cx bf d f=some s→(∃e,s=.clone e)∨(∃e A r q,s=.own e A r q)∨∃g,s=.rG g) :
  LT σ2 d (mV cx nb bf rL d f args σ1) (mV cx nb bf inl d f args σ2):=by
 unfold mV;split
 ·exact Dt hle hb
 ·exact GL hle
 ·exact Du hle hb
 ·rename_i h1 h2 h3;have hn:nL cx bf d f=none:=by
   cases hq:nL cx bf d f with
   | none=>rfl
   | some s =>
     rcases hcs s hq with ⟨e,rfl⟩|⟨e,A,r,q,rfl⟩|⟨g,rfl⟩
     ·exact absurd hq (h1 e)
     ·exact absurd hq (h2 e A r q)
     ·exact absurd hq (h3 g)
  rcases Qk hn with hc|⟨hc,e,he⟩
  ·exact Jl hle hc
  ·unfold o7;rw[hc,he];exact LT.fail
theorem E2{s:Ka}{f:Nat}(h:nL cx bf d f=some s):(∃e,s=.clone e)∨(∃e A r q,s=.own e A r q)∨∃g,s=.rG g:=by
 unfold nL at h;split at h
 ·rename_i e he;split at h
  ·obtain rfl:=ax h;exact .inl ⟨e,rfl⟩
  ·cases h
 ·obtain rfl:=ax h;exact .inr (.inl ⟨_,_,_,_,rfl⟩)
 ·obtain rfl:=ax h;exact .inr (.inr ⟨_,rfl⟩)
 ·cases h
theorem Jn:∀{ps:List (Nat×Operand)} {k:Nat},(∀x∈ps.map (·.2),bN σ1 x=bN σ2 x)→rJ σ1 k ps=rJ σ2 k ps:=by
 intro ps;induction ps with
 | nil=>intro k _;rfl
 | cons p r ih =>
   obtain⟨j,x⟩:=p;intro k h;simp only[rJ];rw[h x (by simp),ih (k:=k+1) fun y hy=>h y (by simp at hy⊢;exact .inr hy)]
theorem E3{fs:List jl}:∀{ps:List (Nat×Operand)} {v:ay},(∀x∈ps.map (·.2),bN σ1 x=bN σ2 x)→iG σ1 fs v ps=iG σ2 fs v ps:=by
 intro ps;induction ps with
 | nil=>intro v _;rfl
 | cons p r ih =>
   obtain⟨k,x⟩:=p;intro v h;simp only[iG];rw[h x (by simp)];have hr:∀u,iG σ1 fs u r=iG σ2 fs u r:=fun u=>ih (v:=u) fun y hy=>h y (by simp at hy⊢;exact .inr hy);simp only[hr]
theorem Jo(hle:Le σ1 σ2){o:Oper}{ge:Option Nat}(hge:jv o σ2=ge)(h3:cls cx ge o≠3)(hop:∀x∈dA o.op,bN σ1 x=bN σ2 x)(hb:∀k,o.dst=some k→σ1.mem (nb+k)=σ2.mem (nb+k)) :
  LT σ2 o.dst (jY cx nb bf rL o σ1) (jY cx nb bf inl o σ2):=by
 have R:=Rel.refl hle;unfold jY;cases ho:o.op with
 | move x=>simp only[ho,dA] at hop⊢;rw[hop x (by simp)];exact tL hle hb
 | assign x=>simp only[ho,dA] at hop⊢;rw[hop x (by simp)];exact tL hle hb
 | pick c a b=>simp only[ho,dA] at hop⊢;rw[hop c (by simp),hop a (by simp),hop b (by simp)];exact E0 hle
 | alloc e =>
   simp only;split
   ·rename_i k t hk hT;rw[hk];unfold nB;split
    ·exact absurd (by simp[cls,ho,hT]) h3
    ·exact LT.aA hle (hb k hk)
   ·rename_i k hk hT;rw[hk];split
    ·rename_i hO;exact absurd (by simp[cls,ho,hT,hO]) h3
    ·exact LT.bif (LT.aA hle (hb k hk))
   ·exact LT.fail
 | box e x =>
   simp only[ho,dA] at hop⊢;rw[hop x (by simp)];cases hk:o.dst with
   | none=>exact LT.fail
   | some k =>
     have hO:find cx.mU e=none:=by
      cases hO:find cx.mU e with
      | none=>rfl
      | some fs=>exact absurd (by simp[cls,ho,hO]) h3
     cases bN σ2 x<;>simp only[uT,hO]<;>first|exact LT.fail|exact LT.aA hle (hb k hk)
 | build t ps =>
   simp only[ho,dA] at hop⊢;split
   ·split
    ·rename_i hg;obtain⟨jo,k1,k2⟩:=BA hle hop hg;rw[k1];exact LT.ret k2
    ·exact LT.fail
   ·split
    ·rename_i hg;obtain⟨jo,k1,k2⟩:=vG hle hop hg;rw[k1];exact LT.ret k2
    ·exact LT.fail
   ·split
    ·split
     ·rw[E3 hop];split
      ·exact LT.ret R
      ·exact LT.ret R
      ·exact LT.fail
     ·exact LT.fail
    ·exact LT.fail
   ·exact LT.fail
 | buildSlice t n ps =>
   simp only[ho,dA] at hop⊢;split
   ·split
    ·rename_i k aW hparts;have hk:=(uz aW).1;rw[hk];exact LT.aA hle (hb k hk)
    ·refine LT.bif ?_;split
     ·rename_i hg;obtain⟨jo,k1,k2⟩:=vG hle hop hg;rw[k1];exact LT.ret k2
     ·exact LT.fail
   ·unfold sM;rw[Jn hop];split
    ·rename_i k e v hk _ _;rw[hk];exact LT.bif (LT.aA hle (hb _ hk))
    ·exact LT.fail
   ·exact LT.fail
 | load t a=>simp only[ho,dA] at hop⊢;rw[hop a (by simp)];exact E1 hle
 | store t a x =>
   simp only[ho,dA] at hop⊢;rw[hop a (by simp),hop x (by simp)];cases hk:o.dst with
   | none=>exact Dp hle
   | some k=>exact LT.fail
 | nilCheck x =>
   simp only[ho,dA] at hop⊢;rw[hop x (by simp)];cases bN σ2 x with
   | ptr b aj p=>exact LT.EZ (fun h=>kr hle h) (LT.ret R)
   | cell t x=>exact LT.ret R
   | fn f c=>exact LT.ret R
   | _=>exact LT.fail
 | binOp op xt x y yt =>
   simp only[ho,dA] at hop⊢;rw[hop x (by simp),hop y (by simp)];intro z hz;obtain⟨v,h1,h2⟩:=bind_some hz;have hb:(KU σ2 (find cx.T xt) (b6 cx.en xt) op (bN σ2 x) (bN σ2 y)).run=some v:=by
    unfold KU at h1⊢;split at h1
    ·obtain⟨hc,h3⟩:=aq h1;simp only[cP] at hc;rw[kr hle hc.1,hc.2];exact h3
    ·obtain⟨hc,h3⟩:=aq h1;simp only[cP] at hc;rw[kr hle hc.1,hc.2];exact h3
    ·exact h1
   rw[Tree.run_bind,hb];exact LT.ret R z h2
 | unOp op t x=>simp only[ho,dA] at hop⊢;rw[hop x (by simp)];exact LT.bind fun _ _=>LT.ret R
 | convert s t x=>simp only[ho,dA] at hop⊢;rw[hop x (by simp)];exact Ai hle hb
 | makeFunc fn first caps =>
   simp only[ho,dA] at hop⊢;cases fn with
   | func f =>
     simp only;have:caps.toList.map (bN σ1)=caps.toList.map (bN σ2):=FX fun x hx=>hop x (sK _ hx);rw[this];split
     ·exact LT.ret R
     ·exact LT.fail
   | _=>exact LT.fail
 | slice t x lo hi m =>
   simp only[ho,dA] at hop⊢;cases m with
   | some m=>exact LT.fail
   | none =>
     simp only;rw[hop x (by simp)];exact Dq hle fun y hy=>hop y (nF _ hy)
 | fieldAddr s x k=>simp only[ho,dA] at hop⊢;rw[hop x (by simp)];exact w8 hle
 | field xt x k =>
   simp only[ho,dA] at hop⊢;rw[hop x (by simp)];split
   ·refine LT.bif ?_;split
    ·exact LT.ret R
    ·exact LT.fail
   ·exact LT.fail
 | indexAddr t x i =>
   simp only[ho,dA] at hop⊢;rw[hop x (by simp),hop i (by simp)];split
   ·cases b6 bf 5000000 with
    | true=>exact Dr hle
    | false=>exact p7 hle
   ·exact LT.fail
 | index t x i =>
   simp only[ho,dA] at hop⊢;rw[hop x (by simp),hop i (by simp)];split
   ·exact Ds hle
   ·exact LT.fail
 | makeSlice t l c =>
   simp only[ho,dA] at hop⊢;rw[hop l (by simp),hop c (by simp)];cases hk:o.dst with
   | none=>exact LT.fail
   | some k =>
     split
     ·rename_i k' _ _ _ _ _ hk' _ _ _;obtain rfl:=ax hk';exact LT.need (LT.need (LT.aA hle (hb k hk)))
     ·exact LT.fail
 | extract t k =>
   simp only[ho,dA] at hop⊢;rw[hop t (by simp)];split
   ·((try dsimp only);split<;>first|exact LT.fail|skip)
    exact LT.ret R
   ·exact LT.fail
 | call c =>
   simp only[ho,dA] at hop⊢;have hargs:c.args.toList.map (bN σ1)=c.args.toList.map (bN σ2):=FX fun x hx=>hop x (sK _ hx);unfold nM;rw[hargs];cases hc:c.callee with
   | builtin b =>
     simp only;split
     ·rename_i x t _ _;cases HV (find cx.T t) x with
      | true =>
        simp only[jk]
        ((try dsimp only);split<;>first|exact LT.fail|(rename_i hq;rw[((fun r (hr:_=some r)=>Lu hle hr)) _ hq];try dsimp only))
        exact LT.ret R
      | false =>
        simp only[gj];split
        ·refine LT.EZ (fun h=>?_) (LT.ret R);simp only[cP] at h⊢;exact⟨kr hle h.1,h.2⟩
        ·exact LT.fail
     ·split
      ·exact tM hle hb
      ·exact tM hle hb
      ·exact LT.fail
     ·exact absurd (by simp[cls,ho,hc]) h3
     ·exact absurd (by simp[cls,ho,hc]) h3
     ·exact LT.bind fun _ _=>LT.ret R
     ·exact LT.bind fun _ _=>LT.ret R
     ·exact LT.fail
   | value f =>
     simp only;rw[hop f (by rw[hc];simp)];split
     ·rename_i g caps hop;have Lr:(caps.all fun b=>live σ1 b.1 b.2)=true→(caps.all fun b=>live σ2 b.1 b.2)=true:=fun h=>by
       rw[yb] at h⊢;exact fun b hm=>kr hle (h b hm)
      refine LT.EZ Lr (GM hle hb (fun hq=>?_) fun s hs=>E2 hs);have heq:ge=some g:=by rw[←hge];simp[jv,ho,hc,hop]
      cases dc:find cx.fH g with
      | some c=>exact .inl (.inl (by simp))
      | none =>
        cases Dn:find cx.D2 g with
        | none=>exact .inl (.inr rfl)
        | some s =>
          refine .inr ⟨rfl,?_⟩;cases s with
          | clone e=>exact⟨e,rfl⟩
          | own e A r q=>simp[nL,Dn] at hq
          | rG g=>simp[nL,Dn] at hq
          | _=>exact absurd (by simp[cls,ho,hc,heq,dc,Dn]) h3
     ·exact LT.fail
   | invoke r m =>
     simp only;rw[hop r (by rw[hc];simp)];unfold kY;split
     ·split
      ·rename_i hg;obtain⟨jo,k1,k2⟩:=uB hle hg;rw[k1];exact LT.look fun _=>LT.ret k2
      ·exact LT.fail
     ·exact LT.fail
 | makeInterface u x =>
   simp only[ho,dA] at hop⊢;rw[hop x (by simp)];unfold kX;split
   ·split
    ·split
     ·rename_i hg;obtain⟨jo,k1,k2⟩:=sU hle hg;rw[k1];exact LT.ret k2
     ·exact LT.fail
    ·exact LT.fail
   ·exact LT.fail
 | _=>exact LT.fail
end
end Go.Ge
namespace Go.Ge
open RowKit
theorem jx{l:List Nat}{t:Nat}:b6 l t=true↔t∈l:=by
 induction l with
 | nil=>simp[b6]
 | cons i r ih =>
   simp only[b6,zd,CH,ih];constructor
   ·rintro(h|h)
    ·exact .inl (dz h)
    ·exact .inr h
   ·rintro(h|h)
    ·subst h;exact .inl (by simp)
    ·exact .inr h
theorem gq{l:List Nat}{t:Nat}:b6 l t=false↔t∉l:=by
 rw[←jx];simp
theorem GN{l:List Operand}{t:Nat}(h:Operand.tmp t∈l):t∈tmpsOf l:=by
 induction l with
 | nil=>cases h
 | cons x r ih =>
   rcases List.mem_cons.1 h with h'|h'
   ·subst h';exact nG ..
   ·clear h;have h:=h';cases x<;>simp only[tmpsOf]
    case tmp k=>exact nF _ (ih h)
    all_goals exact ih h
section
variable {cx:Ctx} {nb:Nat} {bf:List Nat} {inl:Nat→List ay→St→Tree (ay×St)} {σ σ' τ:St}
structure E4 (cx:Ctx) (nb:Nat) (o:Oper) (fp:Fp):Prop where
 own:∀k,o.dst=some k→nb+k∈fp.rd
 sub:∀b∈fp.wr,b∈fp.rd
 w1:cls cx fp.fn o≠0→∀k,o.dst=some k→nb+k∈fp.wr
 w2:cls cx fp.fn o≠0→cls cx fp.fn o≠1→∀b∈fp.rd,b∈fp.wr
 c3:cls cx fp.fn o≠3
theorem yW(o:Oper)(σ:St)(h:(pS cx nb o σ).yP=false):E4 cx nb o (pS cx nb o σ):=by
 have hown:∀k,o.dst=some k→nb+k∈Go.Ge.own nb o:=fun k hk=>by simp[Go.Ge.own,hk]
 unfold pS at h⊢;dsimp only at h⊢;split at h<;>rename_i hc
 ·exact⟨fun k hk=>tC _ (hown k hk),fun b hb=>(nomatch hb),fun h0=>absurd hc h0,fun h0=>absurd hc h0,by rw[hc];decide⟩
 ·exact⟨fun k hk=>tC _ (hown k hk),fun b hb=>tC _ hb,fun _ k hk=>hown k hk,fun _ h1=>absurd hc h1,by rw[hc];decide⟩
 ·exact⟨fun k hk=>tC _ (hown k hk),fun b hb=>hb,fun _ k hk=>tC _ (hown k hk),fun _ _ b hb=>hb,by rw[hc];decide⟩
 ·cases h
theorem NI{ts rd:List Nat}:Le { (σ.only ts rd) with slots:=σ.slots } σ:=fun b bx hb=>by
 simp only[St.only] at hb;cases hm:b6 rd b with
 | true=>rw[hm] at hb;exact hb
 | false=>rw[hm] at hb;cases hb
theorem E5{ts rd:List Nat}:Le (σ.only ts rd) σ:=fun b bx hb=>NI (ts:=ts) b bx hb
theorem E6{l:List Operand}{rd:List Nat}{x:Operand}(hx:x∈l):bN (σ.only (tmpsOf l) rd) x=bN σ x:=by
 cases x with
 | tmp t =>
   have:=jx.2 (GN hx);simp only[bN,St.only,this,jk]
 | _=>rfl
theorem NJ{a b:Option Nat}(h:Qt a b=true):a=b:=by
 cases a<;>cases b<;>first|rfl|cases h|exact congrArg some (dz h)
theorem BB(o:Oper)(rd:List Nat):jv o (σ.only (tmpsOf (dA o.op)) rd)=jv o σ:=by
 unfold jv;split
 ·rename_i c hc;split
  ·rename_i x hx;rw[E6 (by rw[hc];simp[dA,hx])]
  ·rfl
 ·rfl
theorem sV{fp:Fp}{o:Oper}(hf:fp.yP=false→E4 cx nb o fp)(hr:(fB cx nb bf inl fp o σ).run=some σ'):(jY cx nb bf inl o σ).run=some σ':=by
 unfold fB at hr;cases Dv:fp.yP with
 | true=>rw[Dv] at hr;exact hr
 | false =>
   have hf:=hf Dv;rw[Dv] at hr;simp only[gj] at hr;obtain⟨τ,h1,h2⟩:=bind_some hr;obtain rfl:=ax h2;obtain⟨hfn,h1⟩:=aq h1;have hfn:=NJ hfn;have Ss:jv o σ=fp.fn:=by rw[←hfn];exact(BB ..).symm
   have hL:=Jo (cx:=cx) (nb:=nb) (bf:=bf) (inl:=inl) (σ1:=σ.only (tmpsOf (dA o.op)) fp.rd) (σ2:=σ) E5 (o:=o) Ss hf.c3 (fun x hx=>E6 hx)
    (fun k hk=>by simp only[St.only,jx.2 (hf.own k hk),jk]) τ h1
   rw[hL];have hC:=GG (cx:=cx) (nb:=nb) (bf:=bf) (σ:=σ.only (tmpsOf (dA o.op)) fp.rd) (o:=o) (p:=fun b=>b∈fp.wr) hfn hf.c3 (fun h0 k hk=>hf.w1 h0 k hk) (fun h0 h1 b hb=>by
    refine hf.w2 h0 h1 b ?_;simp only[St.only] at hb;cases hm:b6 fp.rd b with
    | true=>exact jx.1 hm
    | false=>rw[hm] at hb;exact absurd rfl hb) τ h1
   have hm:(fun b=>match τ.mem b with|some x=>some x|none=>σ.mem b)=fun b=>bif b6 fp.wr b then τ.mem b else σ.mem b:=by
    funext b;have hrd:b∈fp.rd→(σ.only (tmpsOf (dA o.op)) fp.rd).mem b=σ.mem b:=fun h=>by simp only[St.only,jx.2 h,jk]
    cases hw:b6 fp.wr b with
    | true =>
      simp only[jk];cases hq:τ.mem b with
      | some x=>rfl
      | none =>
        simp only;rw[←hrd (hf.sub b (jx.1 hw))];rcases hC b with k|k
        ·rw[←k,hq]
        ·exact absurd hq k.1
    | false =>
      simp only[gj];rcases hC b with k|k
      ·rw[k];cases hq:(σ.only (tmpsOf (dA o.op)) fp.rd).mem b with
       | none=>rfl
       | some x=>simp only;exact(E5 b x hq).symm
      ·exact absurd k.2 (gq.1 hw)
   unfold lift lay;exact congrArg (fun m=>some (St.mk _ m)) hm
theorem sW{a b:List Nat}(h:IY a b=true){x:Nat}(hx:x∈a):x∉b:=by
 simp only[IY,yb,iE] at h;exact gq.1 (h x hx)
theorem apart_spec{x y:Oper}{f g:Fp}(h:apart x y f g=true):f.yP=false∧g.yP=false∧(∀b∈f.wr,b∉g.rd)∧(∀b∈g.wr,b∉f.rd) ∧
  (∀d,x.dst=some d→d∉tmpsOf (dA y.op))∧(∀d,y.dst=some d→d∉tmpsOf (dA x.op))∧(∀d e,x.dst=some d→y.dst=some e→d≠e):=by
 simp only[apart,cP,iE] at h;obtain⟨⟨⟨⟨⟨h1,h2⟩,h3⟩,h4⟩,h5⟩,h6⟩:=h;refine⟨h1,h2,fun b hb=>sW h3 hb,fun b hb=>sW h4 hb,fun d hd=>?_,fun d hd=>?_,fun d e hd he=>?_⟩
 ·rw[hd] at h5;simp only[cP,iE] at h5;exact gq.1 h5.1
 ·rw[hd] at h6;simp only[iE] at h6;exact gq.1 h6
 ·rw[hd,he] at h5;simp only[cP,iE] at h5;intro q;subst q;simp at h5
theorem vH{d:Option Nat}{wr ts rd:List Nat}(h1:∀k,d=some k→k∉ts)(h2:∀b∈wr,b∉rd):(lay σ d wr τ).only ts rd=σ.only ts rd:=by
 unfold St.only lay
 congr 1
 ·funext t;cases hm:b6 ts t with
  | false=>rfl
  | true =>
    simp only[jk];cases d with
    | none=>rfl
    | some k =>
      have:t≠k:=fun e=>h1 k rfl (by rw[←e];exact jx.1 hm);simp[fJ this]
 ·funext b;cases hm:b6 rd b with
  | false=>rfl
  | true =>
    have:b∉wr:=fun hw=>h2 b hw (jx.1 hm);simp[gq.2 this]
theorem Lx{oi oj:Oper}{fi fj:Fp}{σ1 σ2:St}(hap:apart oi oj fi fj=true)(hsi:∀b∈fi.wr,b∈fi.rd)(h1:(fB cx nb bf inl fi oi σ).run=some σ1)(h2:(fB cx nb bf inl fj oj σ1).run=some σ2) :
  ∃Ly,(fB cx nb bf inl fj oj σ).run=some Ly∧(fB cx nb bf inl fi oi Ly).run=some σ2:=by
 obtain⟨b1,b2,w1,w2,d1,d2,d3⟩:=apart_spec hap;unfold fB at h1 h2⊢;rw[b1] at h1;rw[b2] at h2;simp only[b1,b2,gj] at h1 h2⊢;obtain⟨RD,i1,i2⟩:=bind_some h1;obtain rfl:=ax i2;obtain⟨Qn,j1,j2⟩:=bind_some h2;obtain rfl:=ax j2;rw[vH d1 w1] at j1;refine⟨lay σ oj.dst fj.wr Qn,by rw[Tree.run_bind,j1];rfl,?_⟩;rw[vH d2 w2,Tree.run_bind,i1];show some _=some _
 congr 1
 unfold lay
 congr 1
 ·cases hi:oi.dst with
  | none=>rfl
  | some k =>
    cases hj:oj.dst with
    | none=>rfl
    | some e =>
      have hne:=d3 k e hi hj;funext t;dsimp only;by_cases q1:t=k
      ·subst q1;simp[fJ hne]
      ·by_cases q2:t=e
       ·subst q2;simp[fJ q1]
       ·simp[fJ q1,fJ q2]
 ·funext b;dsimp only;cases hw1:b6 fi.wr b with
  | false=>rfl
  | true =>
    have:b∉fj.wr:=fun hw=>w2 b hw (hsi b (jx.1 hw1));simp[gq.2 this]
inductive Reach (ops:Array Oper):Nat→Nat→Prop where
 | step {i:Nat} {o:Oper} {e:Edge} (h:ops[i]?=some o) (he:e∈o.after) (hb:Region.binds .any e=true):Reach ops i e.on
 | more {i k:Nat} {o:Oper} {e:Edge} (h:ops[i]?=some o) (he:e∈o.after) (hb:Region.binds .any e=true) (r:Reach ops e.on k):Reach ops i k
def Dw(ops:Array Oper)(listed:Array Bool):Prop:=∀i o e,listed.getD i false=true→ops[i]?=some o→e∈o.after→Region.binds .any e=true→listed.getD e.on false=true
theorem Reach.listed{ops:Array Oper}{listed:Array Bool}(hs:Dw ops listed){i k:Nat}(h:Reach ops i k):listed.getD i false=true→listed.getD k false=true:=by
 induction h with
 | step h he hb=>exact fun hl=>hs _ _ _ hl h he hb
 | more h he hb r ih=>exact fun hl=>ih (hs _ _ _ hl h he hb)
theorem Reach.ready{ops:Array Oper}{listed:Array Bool}(hs:Dw ops listed){i k:Nat}(h:Reach ops i k)(hr:i∈Region.ready .any ops listed):listed.getD k false=true:=by
 obtain⟨_,o,ho,hall⟩:=mem_ready.1 hr;cases h with
 | step h he hb =>
   obtain rfl:=ax (ho.symm.trans h);exact hall _ he hb
 | more h he hb r =>
   obtain rfl:=ax (ho.symm.trans h);exact r.listed hs (hall _ he hb)
theorem Dw.list{ops:Array Oper}{listed:Array Bool}(hs:Dw ops listed){i:Nat}(hr:i∈Region.ready .any ops listed):Dw ops (listed.setIfInBounds i true):=by
 obtain⟨_,oi,UK,hall⟩:=mem_ready.1 hr;have up:∀k,listed.getD k false=true→(listed.setIfInBounds i true).getD k false=true:=by
  intro k hk;by_cases e:i=k
  ·subst e;rcases wC i listed.size with h'|h'
   ·simp[h']
   ·simp[Ks h'] at hk
  ·rw[getD_set_ne false e];exact hk
 intro j o e hj ho he hb;by_cases q:i=j
 ·subst q;obtain rfl:=ax (UK.symm.trans ho);exact up _ (hall e he hb)
 ·rw[getD_set_ne false q] at hj;exact up _ (hs j o e hj ho he hb)
theorem E7{listed:Array Bool}{i:Nat}(h0:listed.getD i true=false)(h1:listed.getD i false=true):False:=by
 rcases wC i listed.size with h'|h'
 ·simp[h'] at h0 h1;rw[h0] at h1;cases h1
 ·simp[Ks h'] at h1
def lJ(ops:Array Oper)(done:List rM):Prop:=∀k,∀b,Nat.testBit (maskAt done k) b=true→Reach ops k b
theorem uC{ops:Array Oper}{done:List rM}(hd:lJ ops done){i:Nat}{o:Oper}(ho:ops[i]?=some o){b:Nat}(h:Nat.testBit (mask done o) b=true):Reach ops i b:=by
 unfold mask at h;have key:∀l:List Edge,(∀e∈l,e∈o.after)→Nat.testBit (nC done l) b=true→Reach ops i b:=by
  intro l;induction l with
  | nil=>intro _ h;simp[nC] at h
  | cons e r ih =>
    intro hl h;simp only[nC] at h;cases hb:Region.binds .any e with
    | false=>rw[hb] at h;exact ih (fun e' he'=>hl e' (nF _ he')) h
    | true =>
      rw[hb] at h;simp only[jk,Nat.testBit_or,zd] at h;rcases h with (h|h)|h
      ·exact ih (fun e' he'=>hl e' (nF _ he')) h
      ·rw[Nat.testBit_two_pow] at h;have:e.on=b:=by simpa using h
       subst this;exact .step ho (hl e (nG ..)) hb
      ·exact .more ho (hl e (nG ..)) hb (hd _ _ h)
 exact key _ (fun e he=>by simpa using he) h
theorem lJ.nil{ops:Array Oper}:lJ ops []:=fun k b h=>by simp[maskAt] at h
theorem lJ.cons{ops:Array Oper}{done:List rM}(hd:lJ ops done){i:Nat}{o:Oper}{f:Fp}(ho:ops[i]?=some o):lJ ops ((i,o,f,mask done o)::done):=by
 intro k b h;simp only[maskAt] at h;cases hk:Nat.beq i k with
 | true =>
   rw[hk] at h;obtain rfl:=dz hk;exact uC hd ho h
 | false=>rw[hk] at h;exact hd k b h
def LA(cx:Ctx)(nb:Nat)(bf:List Nat)(inl:Nat→List ay→St→Tree (ay×St))(ops:Array Oper)(fp:Nat→Fp)(Q:St→Prop):Nat→Array Bool→St→Prop
 | 0,listed,σ=>Region.ready .any ops listed=[]∧Q σ
 | n+1,listed,σ=>(Region.ready .any ops listed=[]→Q σ) ∧
  ∀i∈Region.ready .any ops listed,∃o σ',ops[i]?=some o∧o.guard=none∧(fB cx nb bf inl (fp i) o σ).run=some σ'∧LA cx nb bf inl ops fp Q n (listed.setIfInBounds i true) σ'
variable {ops:Array Oper} {fp:Nat→Fp} {Q:St→Prop}
theorem GO{i:Nat}{oi:Oper}(hi:ops[i]?=some oi)(RE:oi.guard=none)(hsub:∀b∈(fp i).wr,b∈(fp i).rd):∀(n:Nat) (listed:Array Bool) (σ σ1:St),
  Dw ops listed→(∀j oj,ops[j]?=some oj→j≠i→listed.getD j true=false→Reach ops j i∨apart oi oj (fp i) (fp j)=true) →
  i∈Region.ready .any ops listed→(fB cx nb bf inl (fp i) oi σ).run=some σ1→LA cx nb bf inl ops fp Q n (listed.setIfInBounds i true) σ1→LA cx nb bf inl ops fp Q (n+1) listed σ:=by
 intro n;induction n with
 | zero =>
   intro listed σ σ1 nY hfree hr h1 H;refine⟨fun h=>(by rw[h] at hr;cases hr),fun j hj=>?_⟩;by_cases hji:j=i
   ·subst hji;exact⟨oi,σ1,hi,RE,h1,H⟩
   ·have:=ready_mono hj hji;rw[H.1] at this;cases this
 | succ n ih =>
   intro listed σ σ1 nY hfree hr h1 H;refine⟨fun h=>(by rw[h] at hr;cases hr),fun j hj=>?_⟩;by_cases hji:j=i
   ·subst hji;exact⟨oi,σ1,hi,RE,h1,H⟩
   ·obtain⟨oj,σ2,Py,UL,h2,H2⟩:=H.2 j (ready_mono hj hji);obtain⟨LB,UM,LC,hall⟩:=mem_ready.1 hj;rw[Py] at LC;obtain rfl:=ax LC;have hap:apart oi oj (fp i) (fp j)=true:=by
     rcases hfree j oj Py hji LB with hw|hap
     ·exact(E7 (mem_ready.1 hr).1 (hw.ready nY hj)).elim
     ·exact hap
    obtain⟨Ly,k1,k2⟩:=Lx hap hsub h1 h2;refine⟨oj,Ly,Py,UL,k1,ih (listed.setIfInBounds j true) Ly σ2 (nY.list hj) (fun k ok hk hki hun=>hfree k ok hk hki ?_) (ready_mono hr (zh hji)) k2 ?_⟩
    ·by_cases LD:j=k
     ·subst LD;exact LB
     ·rw[getD_set_ne true LD] at hun;exact hun
    ·rw[Oy _ _ hji];exact H2
end
end Go.Ge
namespace Go.Ge
open RowKit
section
variable {P:Program} {B:ld} {N:Nat} {γ:Gh} {cx:Ctx} {nb:Nat} {bf:List Nat} {inl:Nat→List ay→St→Tree (ay×St)} {σ σ' τ:St} {ops:Array Oper} {fp:Nat→Fp}
def NK(cx:Ctx)(nb:Nat)(bf:List Nat)(inl:Nat→List ay→St→Tree (ay×St))(ops:Array Oper)(fp:Nat→Fp):Nat→List Oper→St→St→Prop
 | _,[],σ,σ'=>σ=σ'
 | k,o::l,σ,σ'=>o.guard=none∧((fp k).yP=false→E4 cx nb o (fp k))∧((fp k).yP=true→(fp k).wr=[])∧(∀e∈o.after,Region.binds .any e=true→e.on<k) ∧
  (∀j oj,l[j]?=some oj→Reach ops (k+1+j) k∨apart o oj (fp k) (fp (k+1+j))=true) ∧
  ∃σ1,(fB cx nb bf inl (fp k) o σ).run=some σ1∧NK cx nb bf inl ops fp (k+1) l σ1 σ'
theorem Aj{o:Oper}{f fk:Fp}{k m mk:Nat}{ok:Oper}{r:List rM}(h:loose o f m ((k,ok,fk,mk)::r)=true):(Nat.testBit m k=true∨apart ok o fk f=true)∧loose o f m r=true:=by
 simp only[loose,cP,zd] at h;exact h
theorem LF(o:Oper)(σ:St)(h:(pS cx nb o σ).yP=true):(pS cx nb o σ).wr=[]:=by
 unfold pS at h⊢;dsimp only at h⊢;split at h<;>first|cases h|skip
 rfl
theorem Dx:∀(l:List Oper) (k:Nat) (done:List rM) (σ:St),(∀j o,l[j]?=some o→ops[k+j]?=some o)→lJ ops done→(zo cx nb bf inl (number k l) done σ).run=some σ' →
  ∃fs:List (Fp×Nat),fs.length=l.length∧(∀j m b,fs[j]?=some m→Nat.testBit m.2 b=true→Reach ops (k+j) b) ∧
   ∀fp:Nat→Fp,(∀j f,fs[j]?=some f→fp (k+j)=f.1)→NK cx nb bf inl ops fp k l σ σ'∧∀j o f,l[j]?=some o→fs[j]?=some f→loose o (fp (k+j)) f.2 done=true:=by
 intro l;induction l with
 | nil =>
   intro k done σ _ _ h;exact⟨[],rfl,fun j m b h=>absurd h (by simp),fun fp _=>⟨ax h,fun j o f hj=>absurd hj (by simp)⟩⟩
 | cons o l ih =>
   intro k done σ hl hm h;simp only[number,zo] at h;split at h
   ·cases h
   ·rename_i hg;obtain⟨hc,h1⟩:=aq h;obtain⟨σ1,h2,h3⟩:=bind_some h1;simp only[cP] at hc;have hk:ops[k]?=some o:=hl 0 o rfl;obtain⟨fs,f1,fm,f2⟩:=ih (k+1) _ σ1 (fun j o' hj=>by have:=hl (j+1) o' (by simpa using hj);rw[←this];congr 1;omega) (hm.cons hk) h3;refine⟨(pS cx nb o σ,mask done o)::fs,by simp[f1],fun j m b hj hb=>?_,fun fp Kg=>?_⟩
    ·cases j with
     | zero=>obtain rfl:=ax hj;exact uC hm hk hb
     | succ j=>have:=fm j m b (by simpa using hj) hb;rw[show k+(j+1)=k+1+j by omega];exact this
    have h0:fp k=pS cx nb o σ:=Kg 0 _ rfl;obtain⟨g1,g2⟩:=f2 fp fun j f hj=>by have:=Kg (j+1) f (by simpa using hj);rw[←this];congr 1;omega
    refine⟨⟨hg,fun hb=>by rw[h0] at hb⊢;exact yW o σ hb,fun hb=>by rw[h0] at hb⊢;exact LF o σ hb,fun e he hb=>?_,fun j oj hj=>?_,σ1,by rw[h0];exact h2,g1⟩,fun j o' f hj hf=>?_⟩
    ·have:=hc.2;rw[←Array.all_toList,yb] at this;have:=this e (by simpa using he);rw[hb] at this;have:=ya (by simpa [Nat.blt] using this);omega
    ·obtain⟨f,hf⟩:∃f,fs[j]?=some f:=⟨_,qV (by rw[f1];exact(List.getElem?_eq_some_iff.1 hj).1)⟩;rcases(Aj (g2 j oj f hj hf)).1 with q|q
     ·exact .inl (fm j f k hf q)
     ·rw[h0];exact .inr q
    ·cases j with
     | zero =>
       obtain rfl:=ax hj;obtain rfl:=ax hf;rw[uf,h0];exact hc.1
     | succ j =>
       have:=(Aj (g2 j o' f (by simpa using hj) (by simpa using hf))).2;rw[show k+(j+1)=k+1+j by omega];exact this
theorem LG:∀(l:List Oper) (k:Nat) (listed:Array Bool) (σ:St),(∀j,l[j]?=ops[k+j]?)→listed.size=ops.size→(∀j,j<k→j<ops.size→listed.getD j false=true) →
  (∀j,k≤j→j<ops.size→listed.getD j true=false)→Dw ops listed→NK cx nb bf inl ops fp k l σ σ'→LA cx nb bf inl ops fp (·=σ') l.length listed σ:=by
 intro l;induction l with
 | nil =>
   intro k listed σ hl hs h1 h2 nY h;refine⟨?_,h⟩;cases hr:Region.ready .any ops listed with
   | nil=>rfl
   | cons i r =>
     exfalso;have hi:i∈Region.ready .any ops listed:=by rw[hr];exact nG ..
     obtain⟨g1,o,g2,_⟩:=mem_ready.1 hi;have hlt:i<ops.size:=(Array.getElem?_eq_some_iff.1 g2).1;rcases wC i k with hk|hk
     ·have:=h1 i hk hlt;simp[hs,hlt] at this g1;rw[this] at g1;cases g1
     ·have:=hl (i-k);rw[show k+(i-k)=i by omega,g2] at this;cases this
 | cons o l ih =>
   intro k listed σ hl hs h1 h2 nY h;have hk:ops[k]?=some o:=by simpa using(hl 0).symm
   have hlt:k<ops.size:=(Array.getElem?_eq_some_iff.1 hk).1;obtain⟨c1,c2,NL,c3,c4,σ1,c5,c6⟩:=h;have Ak:k∈Region.ready .any ops listed:=mem_ready.2 ⟨h2 k (kS _) hlt,o,hk,fun e he hb=>by
    have:=c3 e he hb;exact h1 e.on this (by omega)⟩
   refine GO hk c1 (fun b hb=>?_) l.length listed σ σ1 nY (fun j oj hj hne hun=>?_) Ak c5 (ih (k+1) _ σ1 (fun j=>?_) (by simp[hs]) (fun j hj M0=>?_) (fun j hj M0=>?_) (nY.list Ak) c6)
   ·cases Dv:(fp k).yP with
    | true=>rw[NL Dv] at hb;cases hb
    | false=>exact(c2 Dv).sub b hb
   ·have LH:j<ops.size:=(Array.getElem?_eq_some_iff.1 hj).1;rcases wC j k with LD|LD
    ·exfalso;have:=h1 j LD LH;simp[hs,LH] at this hun;rw[this] at hun;cases hun
    ·have hq:=hl (j-k);rw[show k+(j-k)=j by omega,hj] at hq;obtain⟨m,hm⟩:∃m,j-k=m+1:=⟨j-k-1,by omega⟩;rw[hm] at hq;have:=c4 m oj (by simpa using hq);rw[show k+1+m=j by omega] at this;exact this
   ·have:=hl (j+1);rw[show k+1+j=k+(j+1) by omega,←this];simp
   ·by_cases e:j=k
    ·subst e;simp[hs,hlt]
    ·rw[getD_set_ne false (zh e)];exact h1 j (by omega) M0
   ·rw[getD_set_ne true (by omega:k≠j)];exact h2 j (by omega) M0
theorem Al:∀{l:List Oper} {k j:Nat} {o:Oper},l[j]?=some o→(k+j,o)∈number k l:=by
 intro l;induction l with
 | nil=>intro k j o h;cases h
 | cons p l ih =>
   intro k j o h;cases j with
   | zero=>obtain rfl:=ax h;exact nG ..
   | succ j=>exact nF _ (by rw[show k+(j+1)=k+1+j by omega];exact ih (by simpa using h))
theorem Am{d:Nat}:∀{items:List (Nat×Oper)},jc d items=false→∀{i:Nat} {o:Oper},(i,o)∈items→o.dst≠some d:=fun h _ _ hm=>Gz h _ _ hm
theorem BC(hc:eo P cx)(dc:jP P B.G cx)(iq:oE P B.G inl){Q:Exit→Act→World→Prop}(Kg:∀i o,ops[i]?=some o→(fp i).yP=false→E4 cx nb o (fp i))
  (hd:∀o∈ops.toList,∀k,o.dst=some k→k<N):∀(n:Nat) (listed:Array Bool) (σ:St) (γ:Gh) (a:Act) (w:World),LA cx nb bf inl ops fp (·=σ') n listed σ→bZ B N γ σ a w →
   (∀γ' a' w',bZ B N γ' σ' a' w'→Ext B γ σ.mem w γ' σ'.mem w'→Fr (number 0 ops.toList) a a'→Q .normal a' w')→wpAny P .any ops Q n listed a w:=by
 intro n;induction n with
 | zero =>
   intro listed σ γ a w h hs hK;obtain⟨h1,rfl⟩:=h;exact⟨h1,hK γ a w hs (Ext.refl _ _ _ _) fun t _=>rfl⟩
 | succ n ih =>
   intro listed σ γ a w h hs hK;refine⟨fun h0=>?_,fun i hi=>?_⟩
   ·obtain rfl:=h.1 h0;exact hK γ a w hs (Ext.refl _ _ _ _) fun t _=>rfl
   ·obtain⟨o,σ1,h1,h2,h3,h4⟩:=h.2 i hi;have hmem:o∈ops.toList:=by
     have:=KE h1;simpa using this
    have Ia:(i,o)∈number 0 ops.toList:=by
     have:=Al (l:=ops.toList) (k:=0) (j:=i) (o:=o) (by simpa using h1);simpa using this
    unfold wpOp;rw[h1];dsimp only;have hw:Region.wanted o (yielded ops a.tmps)=true:=by unfold Region.wanted;rw[h2]
    rw[hw];simp only[jr];refine .inl (zW hc dc iq hs (hd o hmem) (sV (Kg i o h1) h3) fun ff v w1 s1 x1=>?_);refine ih _ σ1 ff _ w1 h4 s1 fun tG a2 w2 s2 x2 f2=>hK tG a2 w2 s2 (x1.trans x2) fun t ht=>?_;rw[f2 t ht,er (Am ht Ia)]
theorem bZ.draw{a:Act}{w:World}(h:bZ B N γ σ a w)(n:Nat):bZ B N γ σ a { w with drawn:=n }∧Ext B γ σ.mem w γ σ.mem { w with drawn:=n }:=by
 obtain⟨m1,m2⟩:=h.ok.Rz (w':={ w with drawn:=n }) (I':=γ.I) ⟨rfl,rfl,rfl,kS _,fun _ _=>rfl⟩ (fun _ _ k=>k) (fun b o k=>h.ok.mW b o k) (fun b o k k'=>absurd k k');exact⟨h.go m2 m1,m2⟩
theorem Dy(l8:P.follows .mixedOrders=true)(hc:eo P cx)(dc:jP P B.G cx)(iq:oE P B.G inl){Q:Exit→Act→World→Prop}{id:Nat}{a:Act}{w:World}
  (hd:∀o∈ops.toList,∀k,o.dst=some k→k<N) (hr:(zo cx nb bf inl (number 0 ops.toList) [] σ).run=some σ') (h:bZ B N γ σ a w)
  (hK:∀γ' a' w',bZ B N γ' σ' a' w'→Ext B γ σ.mem w γ' σ'.mem w'→Fr (number 0 ops.toList) a a'→Q .normal a' w'):(Code.region id ops true).wp P Q a w:=by
 refine wp_region_any l8 ?_;obtain⟨fs,f1,fm,f2⟩:=Dx (ops:=ops) ops.toList 0 [] σ (fun j o hj=>by simpa using hj) lJ.nil hr
 let fp:Nat→Fp:=fun i=>(fs[i]?.map (·.1)).getD ⟨[],[],true,none⟩
 obtain⟨g1,_⟩:=f2 fp fun j f hj=>by simp[fp,hj]
 have key:∀(l:List Oper) (k:Nat) (σ:St),NK cx nb bf inl ops fp k l σ σ'→∀j o,l[j]?=some o→(fp (k+j)).yP=false→E4 cx nb o (fp (k+j)):=by
  intro l;induction l with
  | nil=>intro k σ _ j o hj;cases hj
  | cons o l ih =>
    intro k σ hL j o' hj;obtain⟨c1,c2,NL,c3,c4,σ1,c5,c6⟩:=hL;cases j with
    | zero=>obtain rfl:=ax hj;exact c2
    | succ j=>rw[show k+(j+1)=k+1+j by omega];exact ih (k+1) σ1 c6 j o' (by simpa using hj)
 have hA:=LG (ops:=ops) (cx:=cx) (nb:=nb) (bf:=bf) (inl:=inl) (fp:=fp) (σ':=σ') ops.toList 0 (Array.replicate ops.size false) σ (by simp) (by simp) (fun j hj=>by omega)
  (fun j _ hj=>by simp[hj]) (fun i o e hi=>by
   exfalso;rcases wC i ops.size with h'|h'<;>simp[h'] at hi) g1
 obtain⟨s1,x1⟩:=h.draw (w.drawn+1);refine BC hc dc iq (fun i o hi=>by have:=key _ 0 σ g1 i o (by simpa using hi);simpa using this) hd _ _ σ γ a _ (by simpa using hA) s1 fun γ' a' w' s x f=>hK γ' a' w' s (x1.trans x) f
end
end Go.Ge
namespace Go.Ge
open RowKit
section
variable {cx:Ctx} {nb:Nat} {bf:List Nat} {inl:Nat→List ay→St→Tree (ay×St)} {ops:Array Oper} {fp:Nat→Fp}
abbrev A5:=St×(Nat→Bool)
def uD(ops:Array Oper)(o:Oper)(s:A5):Option Bool:=match o.guard with
 | none=>some true
 | some (g,want)=>match(ops[g]?).bind (·.dst) with
   | none=>none
   | some dg=>bif s.2 g then some false else match s.1.slots dg with
     | .data .bool c=>some ((show Bool from c)==want)
     | _=>none
def jj(cx:Ctx)(nb:Nat)(bf:List Nat)(inl:Nat→List ay→St→Tree (ay×St))(ops:Array Oper)(f:Fp)(i:Nat)(o:Oper)(s:A5):Option A5:=match uD ops o s with
 | none=>none
 | some true=>(fB cx nb bf inl f o s.1).run.map fun σ=>(σ,s.2)
 | some false=>some (s.1.aD o.dst .undef,eU i s.2)
def QY:St:={ slots:=fun _=>.undef,mem:=fun _=>none }
theorem E8(σ:St)(d:Option Nat):σ.aD d .undef=lay σ d [] QY:=by
 unfold lay;cases d with
 | none=>rfl
 | some k=>rfl
theorem Cm{f:Fp}{i:Nat}{o:Oper}{s s':A5}(hb:f.yP=false)(h:jj cx nb bf inl ops f i o s=some s'):∃b wr τ,uD ops o s=some b∧s'=(lay s.1 o.dst wr τ,bif b then s.2 else eU i s.2)∧(∀x∈wr,x∈f.wr) ∧
  ∀s0:A5,uD ops o s0=some b→(b=true→s0.1.only (tmpsOf (dA o.op)) f.rd=s.1.only (tmpsOf (dA o.op)) f.rd)→jj cx nb bf inl ops f i o s0=some (lay s0.1 o.dst wr τ,bif b then s0.2 else eU i s0.2):=by
 unfold jj at h;cases hd:uD ops o s with
 | none=>rw[hd] at h;cases h
 | some b =>
   rw[hd] at h;cases b with
   | true =>
     simp only at h;obtain⟨σ',h1,rfl⟩:=Option.map_eq_some_iff.1 h;unfold fB at h1;rw[hb] at h1;simp only[gj] at h1;obtain⟨τ,h2,h3⟩:=bind_some h1;obtain rfl:=ax h3;refine⟨true,f.wr,τ,rfl,rfl,fun x hx=>hx,fun s0 h0 h4=>?_⟩;unfold jj;rw[h0];simp only;unfold fB;rw[hb];simp only[gj];rw[Tree.run_bind,h4 rfl,h2];rfl
   | false =>
     simp only at h;obtain rfl:=ax h;refine⟨false,[],QY,rfl,by rw[E8];rfl,fun x hx=>(nomatch hx),fun s0 h0 _=>?_⟩;unfold jj;rw[h0];simp only;rw[E8];rfl
theorem E9{i j:Nat}{x y:Oper}{f g:Fp}(h:rN ops i j x y f g=true):f.yP=false∧g.yP=false∧(∀b∈f.wr,b∉g.rd)∧(∀b∈g.wr,b∉f.rd)∧pT x j=true∧pT y i=true ∧
  (∀d,x.dst=some d→d∉uj ops y)∧(∀d,y.dst=some d→d∉uj ops x)∧(∀d e,x.dst=some d→y.dst=some e→d≠e):=by
 simp only[rN,cP,iE] at h;obtain⟨⟨⟨⟨⟨⟨⟨h1,h2⟩,h3⟩,h4⟩,g1⟩,g2⟩,h5⟩,h6⟩:=h;refine⟨h1,h2,fun b hb=>sW h3 hb,fun b hb=>sW h4 hb,g1,g2,fun d hd=>?_,fun d hd=>?_,fun d e hd he=>?_⟩
 ·rw[hd] at h5;simp only[cP,iE] at h5;exact gq.1 h5.1
 ·rw[hd] at h6;simp only[iE] at h6;exact gq.1 h6
 ·rw[hd,he] at h5;simp only[cP,iE] at h5;intro q;subst q;simp at h5
theorem An{i:Nat}{o:Oper}{s:A5}{d:Option Nat}{wr:List Nat}{τ:St}{b:Bool}(hg:pT o i=true)(hd:∀k,d=some k→k∉uj ops o):uD ops o (lay s.1 d wr τ,bif b then s.2 else eU i s.2)=uD ops o s:=by
 unfold uD;cases hgd:o.guard with
 | none=>rfl
 | some p =>
   obtain⟨g,want⟩:=p;dsimp only;cases FQ:(ops[g]?).bind (·.dst) with
   | none=>rfl
   | some dg =>
     dsimp only;have RE:Nat.beq g i=false:=by
      unfold pT at hg;rw[hgd] at hg;simpa using hg
     have h1:(bif b then s.2 else eU i s.2) g=s.2 g:=by
      cases b with
      | true=>rfl
      | false=>simp only[gj,eU,RE,IP]
     have h2:(lay s.1 d wr τ).slots dg=s.1.slots dg:=by
      unfold lay;cases d with
      | none=>rfl
      | some k =>
        have hne:dg≠k:=fun e=>hd k rfl (by
         unfold uj B7;rw[hgd];dsimp only;rw[FQ];subst e;exact nG ..)
        simp[fJ hne]
     rw[h1,h2]
theorem LI(σ:St){di dj:Option Nat}{wi wj:List Nat}{RD Qn:St}(hd:∀d e,di=some d→dj=some e→d≠e)(hw:∀b∈wi,b∉wj):lay (lay σ dj wj Qn) di wi RD=lay (lay σ di wi RD) dj wj Qn:=by
 unfold lay
 congr 1
 ·cases di with
  | none=>rfl
  | some k =>
    cases dj with
    | none=>rfl
    | some e =>
      have hne:=hd k e rfl rfl;funext t;dsimp only;by_cases q1:t=k
      ·subst q1;simp[fJ hne]
      ·by_cases q2:t=e
       ·subst q2;simp[fJ q1]
       ·simp[fJ q1,fJ q2]
 ·funext b;dsimp only;cases hw1:b6 wi b with
  | false=>rfl
  | true =>
    have:b∉wj:=hw b (jx.1 hw1);simp[gq.2 this]
theorem GP{i j:Nat}{oi oj:Oper}{fi fj:Fp}{s s1 s2:A5}(hap:rN ops i j oi oj fi fj=true)(hsi:∀b∈fi.wr,b∈fi.rd)(h1:jj cx nb bf inl ops fi i oi s=some s1)(h2:jj cx nb bf inl ops fj j oj s1=some s2) :
  ∃s1',jj cx nb bf inl ops fj j oj s=some s1'∧jj cx nb bf inl ops fi i oi s1'=some s2:=by
 obtain⟨b1,b2,w1,w2,g1,g2,d1,d2,d3⟩:=E9 hap;obtain⟨bi,wi,RD,e1,e2,e3,e4⟩:=Cm b1 h1;subst e2;obtain⟨bj,wj,Qn,k1,k2,k3,k4⟩:=Cm b2 h2;subst k2;rw[An g2 d1] at k1;have tm:∀{o:Oper} {k:Nat},k∉uj ops o→k∉tmpsOf (dA o.op):=fun h hm=>h (sK _ hm);have hj:=k4 s k1 fun _=>(vH (fun k hk=>tm (d1 k hk)) (fun b hb=>w1 b (e3 b hb))).symm;refine⟨_,hj,?_⟩;have hi:=e4 (lay s.1 oj.dst wj Qn,bif bj then s.2 else eU j s.2) (by rw[An g1 d2];exact e1) fun _=>vH (fun k hk=>tm (d2 k hk)) (fun b hb=>w2 b (k3 b hb));rw[hi]
 congr 1
 refine Prod.ext ?_ ?_
 ·exact LI s.1 d3 (fun b hb hb2=>w2 b (k3 b hb2) (hsi b (e3 b hb)))
 ·dsimp only;cases bi<;>cases bj<;>first|rfl|skip
  simp only[gj];funext k;simp only[eU];cases Nat.beq k i<;>cases Nat.beq k j<;>rfl
def Dz(cx:Ctx)(nb:Nat)(bf:List Nat)(inl:Nat→List ay→St→Tree (ay×St))(ops:Array Oper)(fp:Nat→Fp)(Q:A5→Prop):Nat→Array Bool→A5→Prop
 | 0,listed,s=>Region.ready .any ops listed=[]∧Q s
 | n+1,listed,s=>(Region.ready .any ops listed=[]→Q s) ∧
  ∀i∈Region.ready .any ops listed,∃o s',ops[i]?=some o∧jj cx nb bf inl ops (fp i) i o s=some s'∧Dz cx nb bf inl ops fp Q n (listed.setIfInBounds i true) s'
variable {Q:A5→Prop}
theorem GQ{i:Nat}{oi:Oper}(hi:ops[i]?=some oi)(hsub:∀b∈(fp i).wr,b∈(fp i).rd):∀(n:Nat) (listed:Array Bool) (s s1:A5),
  Dw ops listed→(∀j oj,ops[j]?=some oj→j≠i→listed.getD j true=false→Reach ops j i∨rN ops i j oi oj (fp i) (fp j)=true) →
  i∈Region.ready .any ops listed→jj cx nb bf inl ops (fp i) i oi s=some s1→Dz cx nb bf inl ops fp Q n (listed.setIfInBounds i true) s1→Dz cx nb bf inl ops fp Q (n+1) listed s:=by
 intro n;induction n with
 | zero =>
   intro listed s s1 nY hfree hr h1 H;refine⟨fun h=>(by rw[h] at hr;cases hr),fun j hj=>?_⟩;by_cases hji:j=i
   ·subst hji;exact⟨oi,s1,hi,h1,H⟩
   ·have:=ready_mono hj hji;rw[H.1] at this;cases this
 | succ n ih =>
   intro listed s s1 nY hfree hr h1 H;refine⟨fun h=>(by rw[h] at hr;cases hr),fun j hj=>?_⟩;by_cases hji:j=i
   ·subst hji;exact⟨oi,s1,hi,h1,H⟩
   ·obtain⟨oj,s2,Py,h2,H2⟩:=H.2 j (ready_mono hj hji);obtain⟨LB,UM,LC,hall⟩:=mem_ready.1 hj;rw[Py] at LC;obtain rfl:=ax LC;have hap:rN ops i j oi oj (fp i) (fp j)=true:=by
     rcases hfree j oj Py hji LB with hw|hap
     ·exact(E7 (mem_ready.1 hr).1 (hw.ready nY hj)).elim
     ·exact hap
    obtain⟨s1',k1,k2⟩:=GP hap hsub h1 h2;refine⟨oj,s1',Py,k1,ih (listed.setIfInBounds j true) s1' s2 (nY.list hj) (fun k ok hk hki hun=>hfree k ok hk hki ?_) (ready_mono hr (zh hji)) k2 ?_⟩
    ·by_cases LD:j=k
     ·subst LD;exact LB
     ·rw[getD_set_ne true LD] at hun;exact hun
    ·rw[Oy _ _ hji];exact H2
end
end Go.Ge
namespace Go.Ge
open RowKit
section
variable {P:Program} {B:ld} {N:Nat} {γ:Gh} {cx:Ctx} {nb:Nat} {bf:List Nat} {inl:Nat→List ay→St→Tree (ay×St)} {σ σ':St} {ops:Array Oper} {fp:Nat→Fp}
theorem LJ{σ:St}{d:Nat}{v:ay}(h:σ.slots d=v):σ.put d v=σ:=by
 unfold St.put;obtain⟨sl,mm⟩:=σ
 congr 1
 funext t;cases hb:Nat.beq t d with
 | true=>obtain rfl:=dz hb;exact h.symm
 | false=>rfl
def NM(cx:Ctx)(nb:Nat)(bf:List Nat)(inl:Nat→List ay→St→Tree (ay×St))(ops:Array Oper)(fp:Nat→Fp):Nat→List Oper→A5→A5→Prop
 | _,[],s,s'=>s=s'
 | k,o::l,s,s'=>(((fp k).yP=false→E4 cx nb o (fp k))∧((fp k).yP=true→(fp k).wr=[]))∧(∀e∈o.after,Region.binds .any e=true→e.on<k) ∧
  (∀j oj,l[j]?=some oj→Reach ops (k+1+j) k∨rN ops k (k+1+j) o oj (fp k) (fp (k+1+j))=true) ∧
  ∃s1,jj cx nb bf inl ops (fp k) k o s=some s1∧NM cx nb bf inl ops fp (k+1) l s1 s'
theorem xS{i:Nat}{o:Oper}{f fk:Fp}{k m mk:Nat}{ok:Oper}{r:List rM}(h:uk ops i o f m ((k,ok,fk,mk)::r)=true):(Nat.testBit m k=true∨rN ops k i ok o fk f=true)∧uk ops i o f m r=true:=by
 simp only[uk,cP,zd] at h;exact h
theorem Ao{i:Nat}{o:Oper}{r:List (Nat×Oper)}{done:List rM}{sk:Nat→Bool}(h:(mM cx nb bf inl ops ((i,o)::r) done σ sk).run=some σ') :
  ∃s1:A5,uk ops i o (pS cx nb o σ) (mask done o) done=true∧(∀e∈o.after,Region.binds .any e=true→e.on<i)∧jj cx nb bf inl ops (pS cx nb o σ) i o (σ,sk)=some s1 ∧
   (mM cx nb bf inl ops r ((i,o,pS cx nb o σ,mask done o)::done) s1.1 s1.2).run=some σ':=by
 simp only[mM] at h;obtain⟨hc,h1⟩:=aq h;simp only[cP] at hc;obtain⟨Su,RF⟩:=hc;have QZ:∀e∈o.after,Region.binds .any e=true→e.on<i:=fun e he hb=>by
  rw[←Array.all_toList,yb] at RF;have:=RF e (by simpa using he);rw[hb] at this;have:=ya (by simpa [Nat.blt] using this);omega
 suffices ∃s1:A5,jj cx nb bf inl ops (pS cx nb o σ) i o (σ,sk)=some s1∧(mM cx nb bf inl ops r ((i,o,pS cx nb o σ,mask done o)::done) s1.1 s1.2).run=some σ' by
  obtain⟨s1,k1,k2⟩:=this;exact⟨s1,Su,QZ,k1,k2⟩
 split at h1
 ·rename_i hg;obtain⟨σ1,h2,h3⟩:=bind_some h1;refine⟨(σ1,sk),?_,h3⟩;have hd:uD ops o (σ,sk)=some true:=by unfold uD;rw[hg]
  unfold jj;rw[hd];dsimp only;rw[h2];rfl
 ·rename_i g want hg;split at h1
  ·cases h1
  ·rename_i dg FQ;cases NN:sk g with
   | true =>
     rw[NN] at h1;refine⟨(σ.aD o.dst .undef,eU i sk),?_,h1⟩;have hd:uD ops o (σ,sk)=some false:=by unfold uD;rw[hg];dsimp only;rw[FQ];dsimp only;rw[NN];rfl
     unfold jj;rw[hd]
   | false =>
     rw[NN] at h1;simp only[gj] at h1;split at h1
     ·rename_i c vE;change Bool at c;have hn:=eI h1;have hd:uD ops o (σ,sk)=some (c==want):=by unfold uD;rw[hg];dsimp only;rw[FQ];dsimp only;rw[NN];simp only[gj];rw[vE]
      have hput:=LJ vE;have run:∀{σ1:St},(fB cx nb bf inl (pS cx nb o σ) o σ).run=some σ1→(c==want)=true→jj cx nb bf inl ops (pS cx nb o σ) i o (σ,sk)=some (σ1,sk):=fun h2 hw=>by
       unfold jj;rw[hd,hw];dsimp only;rw[h2];rfl
      have skip:(c==want)=false→jj cx nb bf inl ops (pS cx nb o σ) i o (σ,sk)=some (σ.aD o.dst .undef,eU i sk):=fun hw=>by
       unfold jj;rw[hd,hw]
      cases c with
      | true =>
        simp only[jk] at hn;rw[hput] at hn;cases want with
        | true=>obtain⟨σ1,h2,h3⟩:=bind_some hn;exact⟨(σ1,sk),run h2 rfl,h3⟩
        | false=>exact⟨_,skip rfl,hn⟩
      | false =>
        simp only[gj] at hn;rw[hput] at hn;cases want with
        | true=>exact⟨_,skip rfl,hn⟩
        | false=>obtain⟨σ1,h2,h3⟩:=bind_some hn;exact⟨(σ1,sk),run h2 rfl,h3⟩
     ·cases h1
theorem BD:∀(l:List Oper) (k:Nat) (done:List rM) (σ:St) (sk:Nat→Bool),(∀j o,l[j]?=some o→ops[k+j]?=some o)→lJ ops done→(mM cx nb bf inl ops (number k l) done σ sk).run=some σ' →
  ∃(fs:List (Fp×Nat)) (Q0:Nat→Bool),fs.length=l.length∧(∀j m b,fs[j]?=some m→Nat.testBit m.2 b=true→Reach ops (k+j) b) ∧
   ∀fp:Nat→Fp,(∀j f,fs[j]?=some f→fp (k+j)=f.1)→NM cx nb bf inl ops fp k l (σ,sk) (σ',Q0)∧∀j o f,l[j]?=some o→fs[j]?=some f→uk ops (k+j) o (fp (k+j)) f.2 done=true:=by
 intro l;induction l with
 | nil =>
   intro k done σ sk _ _ h;obtain rfl:=ax h;exact⟨[],sk,rfl,fun j m b h=>absurd h (by simp),fun fp _=>⟨rfl,fun j o f hj=>absurd hj (by simp)⟩⟩
 | cons o l ih =>
   intro k done σ sk hl hm h;obtain⟨s1,h2,h3,h4,h5⟩:=Ao (r:=number (k+1) l) h;have hk:ops[k]?=some o:=hl 0 o rfl;obtain⟨fs,Q0,f1,fm,f2⟩:=ih (k+1) _ s1.1 s1.2 (fun j o' hj=>by have:=hl (j+1) o' (by simpa using hj);rw[←this];congr 1;omega) (hm.cons hk) h5;refine⟨(pS cx nb o σ,mask done o)::fs,Q0,by simp[f1],fun j m b hj hb=>?_,fun fp Kg=>?_⟩
   ·cases j with
    | zero=>obtain rfl:=ax hj;exact uC hm hk hb
    | succ j=>have:=fm j m b (by simpa using hj) hb;rw[show k+(j+1)=k+1+j by omega];exact this
   have h0:fp k=pS cx nb o σ:=Kg 0 _ rfl;obtain⟨g1,g2⟩:=f2 fp fun j f hj=>by have:=Kg (j+1) f (by simpa using hj);rw[←this];congr 1;omega
   refine⟨⟨⟨fun hb=>by rw[h0] at hb⊢;exact yW o σ hb,fun hb=>by rw[h0] at hb⊢;exact LF o σ hb⟩,h3,fun j oj hj=>?_,s1,by rw[h0];exact h4,g1⟩,fun j o' f hj hf=>?_⟩
   ·obtain⟨f,hf⟩:∃f,fs[j]?=some f:=⟨_,qV (by rw[f1];exact(List.getElem?_eq_some_iff.1 hj).1)⟩;rcases(xS (g2 j oj f hj hf)).1 with q|q
    ·exact .inl (fm j f k hf q)
    ·rw[h0];exact .inr q
   ·cases j with
    | zero =>
      obtain rfl:=ax hj;obtain rfl:=ax hf;rw[uf,h0];exact h2
    | succ j =>
      have:=(xS (g2 j o' f (by simpa using hj) (by simpa using hf))).2;rw[show k+(j+1)=k+1+j by omega];exact this
theorem LK{s':A5}:∀(l:List Oper) (k:Nat) (listed:Array Bool) (s:A5),(∀j,l[j]?=ops[k+j]?)→listed.size=ops.size→(∀j,j<k→j<ops.size→listed.getD j false=true) →
  (∀j,k≤j→j<ops.size→listed.getD j true=false)→Dw ops listed→NM cx nb bf inl ops fp k l s s'→Dz cx nb bf inl ops fp (·=s') l.length listed s:=by
 intro l;induction l with
 | nil =>
   intro k listed s hl hs h1 h2 nY h;refine⟨?_,h⟩;cases hr:Region.ready .any ops listed with
   | nil=>rfl
   | cons i r =>
     exfalso;have hi:i∈Region.ready .any ops listed:=by rw[hr];exact nG ..
     obtain⟨g1,o,g2,_⟩:=mem_ready.1 hi;have hlt:i<ops.size:=(Array.getElem?_eq_some_iff.1 g2).1;rcases wC i k with hk|hk
     ·have:=h1 i hk hlt;simp[hs,hlt] at this g1;rw[this] at g1;cases g1
     ·have:=hl (i-k);rw[show k+(i-k)=i by omega,g2] at this;cases this
 | cons o l ih =>
   intro k listed s hl hs h1 h2 nY h;have hk:ops[k]?=some o:=by simpa using(hl 0).symm
   have hlt:k<ops.size:=(Array.getElem?_eq_some_iff.1 hk).1;obtain⟨c2,c3,c4,s1,c5,c6⟩:=h;have Ak:k∈Region.ready .any ops listed:=mem_ready.2 ⟨h2 k (kS _) hlt,o,hk,fun e he hb=>by
    have:=c3 e he hb;exact h1 e.on this (by omega)⟩
   refine GQ hk (fun b hb=>by
    cases Dv:(fp k).yP with
    | true=>rw[c2.2 Dv] at hb;cases hb
    | false=>exact(c2.1 Dv).sub b hb) l.length listed s s1 nY (fun j oj hj hne hun=>?_) Ak c5 (ih (k+1) _ s1 (fun j=>?_) (by simp[hs]) (fun j hj M0=>?_) (fun j hj M0=>?_) (nY.list Ak) c6)
   ·have LH:j<ops.size:=(Array.getElem?_eq_some_iff.1 hj).1;rcases wC j k with LD|LD
    ·exfalso;have:=h1 j LD LH;simp[hs,LH] at this hun;rw[this] at hun;cases hun
    ·have hq:=hl (j-k);rw[show k+(j-k)=j by omega,hj] at hq;obtain⟨m,hm⟩:∃m,j-k=m+1:=⟨j-k-1,by omega⟩;rw[hm] at hq;have:=c4 m oj (by simpa using hq);rw[show k+1+m=j by omega] at this;exact this
   ·have:=hl (j+1);rw[show k+1+j=k+(j+1) by omega,←this];simp
   ·by_cases e:j=k
    ·subst e;simp[hs,hlt]
    ·rw[getD_set_ne false (zh e)];exact h1 j (by omega) M0
   ·rw[getD_set_ne true (by omega:k≠j)];exact h2 j (by omega) M0
theorem GR(hkeep:∀f vals σ v σ',(inl f vals σ).run=some (v,σ')→aN σ σ'):∀(l:List Oper) (k:Nat) (done:List rM) (σ σ':St) (sk:Nat→Bool),(mM cx nb bf inl ops (number k l) done σ sk).run=some σ'→aN σ σ':=by
 intro l;induction l with
 | nil=>intro k done σ σ' sk h;obtain rfl:=ax h;exact aN.refl _
 | cons o l ih =>
   intro k done σ σ' sk h;obtain⟨s1,h2,h3,h4,h5⟩:=Ao (r:=number (k+1) l) h;refine aN.trans ?_ (ih _ _ _ _ _ h5);unfold jj at h4;split at h4
   ·cases h4
   ·obtain⟨σ1,q1,rfl⟩:=Option.map_eq_some_iff.1 h4;exact rZ hkeep σ1 (sV (fun hb=>yW o σ hb) q1)
   ·obtain rfl:=ax h4;exact aN.aD _ _ _
end
end Go.Ge
namespace Go.Ge
open RowKit
section
variable {P:Program} {B:ld} {N:Nat} {γ:Gh} {cx:Ctx} {nb:Nat} {bf:List Nat} {inl:Nat→List ay→St→Tree (ay×St)} {σ σ':St} {ops:Array Oper} {fp:Nat→Fp}
theorem GS{l:List Oper}{j:Nat}{o:Oper}{d:Nat}(h:l[j]?=some o)(hd:o.dst=some d):d∈gO.wI l:=by
 induction l generalizing j with
 | nil=>cases h
 | cons p l ih =>
   cases j with
   | zero=>obtain rfl:=ax h;simp only[gO.wI,hd];exact nG ..
   | succ j =>
     have:=ih (j:=j) (by simpa using h);simp only[gO.wI];split
     ·exact nF _ this
     ·exact this
theorem Ap:∀{l:List Oper},gO l=true→∀{i j:Nat} {x y:Oper} {d:Nat},i<j→l[i]?=some x→l[j]?=some y→x.dst=some d→y.dst≠some d:=by
 intro l;induction l with
 | nil=>intro _ i j x y d _ h;cases h
 | cons p l ih =>
   intro h i j x y d hij hx hy hd he;simp only[gO,cP] at h;obtain⟨m,rfl⟩:∃m,j=m+1:=⟨j-1,by omega⟩;have hy':l[m]?=some y:=by simpa using hy
   cases i with
   | zero =>
     obtain rfl:=ax hx;have h1:=h.1;rw[hd] at h1;simp only[iE] at h1;exact gq.1 h1 (GS hy' he)
   | succ i=>exact ih h.2 (i:=i) (j:=m) (by omega) (by simpa using hx) hy' hd he
theorem GU(h:gO ops.toList=true){i j:Nat}{x y:Oper}{d:Nat}(hij:i≠j)(hx:ops[i]?=some x)(hy:ops[j]?=some y)(hd:x.dst=some d):y.dst≠some d:=by
 rcases Nat.lt_or_gt_of_ne hij with h1|h1
 ·exact Ap h h1 (by simpa using hx) (by simpa using hy) hd
 ·intro he;exact Ap h h1 (by simpa using hy) (by simpa using hx) he hd
def GV(ops:Array Oper)(sk:Nat→Bool)(listed:Array Bool)(a:Act):Prop:=∀k,sk k=true→yielded ops a.tmps k=none∧listed.getD k true=true
theorem oG{a:Act}{i k:Nat}{o:Oper}{v:Value}(hnt:gO ops.toList=true)(hi:ops[i]?=some o)(hne:k≠i):yielded ops (a.put o.dst v).tmps k=yielded ops a.tmps k:=by
 unfold yielded;cases hk:ops[k]? with
 | none=>rfl
 | some y =>
   simp only[CF];cases hd:y.dst with
   | none=>rfl
   | some dk =>
     simp only[CF];have:o.dst≠some dk:=GU hnt hne hk hi hd;rw[er this]
theorem GV.run{sk:Nat→Bool}{listed:Array Bool}{a:Act}{i:Nat}{o:Oper}{v:Value}(h:GV ops sk listed a)(hnt:gO ops.toList=true)(hi:ops[i]?=some o)(hl:listed.getD i true=false):GV ops sk (listed.setIfInBounds i true) (a.put o.dst v):=fun k hk=>by
 obtain⟨h1,h2⟩:=h k hk;have hne:k≠i:=fun e=>by subst e;rw[h2] at hl;cases hl
 exact⟨by rw[oG hnt hi hne];exact h1,by rw[getD_set_ne true (zh hne)];exact h2⟩
theorem GV.skip{sk:Nat→Bool}{listed:Array Bool}{a:Act}{i:Nat}{o:Oper}(h:GV ops sk listed a)(hnt:gO ops.toList=true)(hi:ops[i]?=some o)(hl:listed.getD i true=false):GV ops (eU i sk) (listed.setIfInBounds i true) (a.put o.dst Go.undef):=fun k hk=>by
 by_cases hne:k=i
 ·subst hne;refine⟨vC hi,?_⟩;rcases wC k listed.size with h'|h'
  ·simp[h']
  ·simp[Ks h'] at hl
 ·have hk':sk k=true:=by
   simp only[eU,fJ hne,IP] at hk;exact hk
  obtain⟨h1,h2⟩:=h k hk';exact⟨by rw[oG hnt hi hne];exact h1,by rw[getD_set_ne true (zh hne)];exact h2⟩
theorem BE(hc:eo P cx)(dc:jP P B.G cx)(iq:oE P B.G inl){Q:Exit→Act→World→Prop}(hnt:gO ops.toList=true)(Kg:∀i o,ops[i]?=some o→(fp i).yP=false→E4 cx nb o (fp i))
  (hd:∀o∈ops.toList,∀k,o.dst=some k→k<N):∀(n:Nat) (listed:Array Bool) (s:A5) (γ:Gh) (a:Act) (w:World),Dz cx nb bf inl ops fp (fun s=>s.1=σ') n listed s→bZ B N γ s.1 a w→GV ops s.2 listed a →
   (∀γ' a' w',bZ B N γ' σ' a' w'→Ext B γ s.1.mem w γ' σ'.mem w'→Fr (number 0 ops.toList) a a'→Q .normal a' w')→wpAny P .any ops Q n listed a w:=by
 intro n;induction n with
 | zero =>
   intro listed s γ a w h hs NN hK;obtain⟨h1,h2⟩:=h;rw[←h2] at hK;exact⟨h1,hK γ a w hs (Ext.refl _ _ _ _) fun t _=>rfl⟩
 | succ n ih =>
   intro listed s γ a w h hs NN hK;refine⟨fun h0=>?_,fun i hi=>?_⟩
   ·have h2:=h.1 h0;rw[←h2] at hK;exact hK γ a w hs (Ext.refl _ _ _ _) fun t _=>rfl
   ·obtain⟨o,s1,h1,h3,h4⟩:=h.2 i hi;have hun:=(mem_ready.1 hi).1;have hmem:o∈ops.toList:=by
     have:=KE h1;simpa using this
    have Ia:(i,o)∈number 0 ops.toList:=by
     have:=Al (l:=ops.toList) (k:=0) (j:=i) (o:=o) (by simpa using h1);simpa using this
    have hw:∀b,uD ops o s=some b→Region.wanted o (yielded ops a.tmps)=b:=by
     intro b hb;unfold uD at hb;cases hgd:o.guard with
     | none =>
       rw[hgd] at hb;obtain rfl:=ax hb;unfold Region.wanted;rw[hgd]
     | some p =>
       obtain⟨g,want⟩:=p;rw[hgd] at hb;dsimp only at hb;split at hb
       ·cases hb
       ·rename_i dg FQ;cases hg:s.2 g with
        | true =>
          rw[hg] at hb;obtain rfl:=ax hb;unfold Region.wanted;rw[hgd];simp only[(NN g hg).1];rfl
        | false =>
          rw[hg] at hb;simp only[gj] at hb;split at hb
          ·rename_i c vE;change Bool at c;obtain rfl:=ax hb;have ht:=xQ hs vE;unfold Region.wanted;rw[hgd];simp only[yielded,FQ,CF,ht];cases c<;>cases want<;>rfl
          ·cases hb
    unfold wpOp;rw[h1];dsimp only;unfold jj at h3;split at h3
    ·cases h3
    ·rename_i Pz;obtain⟨σ1,q1,rfl⟩:=Option.map_eq_some_iff.1 h3;rw[hw true Pz];simp only[jr];refine .inl (zW hc dc iq hs (hd o hmem) (sV (Kg i o h1) q1) fun ff v w1 s1 x1=>?_);refine ih _ (σ1,s.2) ff _ w1 h4 s1 (NN.run hnt h1 hun) fun tG a2 w2 s2 x2 f2=>hK tG a2 w2 s2 (x1.trans x2) fun t ht=>?_;rw[f2 t ht,er (Am ht Ia)]
    ·rename_i Pz;obtain rfl:=ax h3;rw[hw false Pz];simp only[FY,wD];have hs1:bZ B N γ (s.1.aD o.dst .undef) (a.put o.dst Go.undef) w:=hs.nR (hd o hmem) ⟨_,rfl⟩;have hm:(s.1.aD o.dst .undef).mem=s.1.mem:=by cases o.dst<;>rfl
     refine ih _ (s.1.aD o.dst .undef,eU i s.2) γ _ w h4 hs1 (NN.skip hnt h1 hun) fun tG a2 w2 s2 x2 f2=>hK tG a2 w2 s2 (by rw[←hm];exact x2) fun t ht=>?_;rw[f2 t ht,er (Am ht Ia)]
theorem Dz.mono{Q Q':A5→Prop}(hq:∀s,Q s→Q' s):∀{n:Nat} {listed:Array Bool} {s:A5},Dz cx nb bf inl ops fp Q n listed s→Dz cx nb bf inl ops fp Q' n listed s:=by
 intro n;induction n with
 | zero=>intro listed s h;exact⟨h.1,hq _ h.2⟩
 | succ n ih =>
   intro listed s h;refine⟨fun h0=>hq _ (h.1 h0),fun i hi=>?_⟩;obtain⟨o,s',h1,h2,h3⟩:=h.2 i hi;exact⟨o,s',h1,h2,ih h3⟩
theorem DA(l8:P.follows .mixedOrders=true)(hc:eo P cx)(dc:jP P B.G cx)(iq:oE P B.G inl){Q:Exit→Act→World→Prop}{id:Nat}{a:Act}{w:World}(hnt:gO ops.toList=true)
  (hd:∀o∈ops.toList,∀k,o.dst=some k→k<N) (hr:(mM cx nb bf inl ops (number 0 ops.toList) [] σ (fun _=>false)).run=some σ') (h:bZ B N γ σ a w)
  (hK:∀γ' a' w',bZ B N γ' σ' a' w'→Ext B γ σ.mem w γ' σ'.mem w'→Fr (number 0 ops.toList) a a'→Q .normal a' w'):(Code.region id ops true).wp P Q a w:=by
 refine wp_region_any l8 ?_;obtain⟨fs,Q0,f1,fm,f2⟩:=BD (ops:=ops) ops.toList 0 [] σ (fun _=>false) (fun j o hj=>by simpa using hj) lJ.nil hr
 let fp:Nat→Fp:=fun i=>(fs[i]?.map (·.1)).getD ⟨[],[],true,none⟩
 obtain⟨g1,_⟩:=f2 fp fun j f hj=>by simp[fp,hj]
 have key:∀(l:List Oper) (k:Nat) (s s':A5),NM cx nb bf inl ops fp k l s s'→∀j o,l[j]?=some o→(fp (k+j)).yP=false→E4 cx nb o (fp (k+j)):=by
  intro l;induction l with
  | nil=>intro k s s' _ j o hj;cases hj
  | cons o l ih =>
    intro k s s' hL j o' hj;obtain⟨c2,c3,c4,s1,c5,c6⟩:=hL;cases j with
    | zero=>obtain rfl:=ax hj;exact c2.1
    | succ j=>rw[show k+(j+1)=k+1+j by omega];exact ih (k+1) s1 s' c6 j o' (by simpa using hj)
 have hA:=LK (ops:=ops) (cx:=cx) (nb:=nb) (bf:=bf) (inl:=inl) (fp:=fp) (s':=(σ',Q0)) ops.toList 0 (Array.replicate ops.size false) (σ,fun _=>false) (by simp) (by simp) (fun j hj=>by omega)
  (fun j _ hj=>by simp[hj]) (fun i o e hi=>by
   exfalso;rcases wC i ops.size with h'|h'<;>simp[h'] at hi) g1
 have UN:=Dz.mono (Q':=fun s:A5=>s.1=σ') (fun s hs=>by rw[hs]) hA;obtain⟨s1,x1⟩:=h.draw (w.drawn+1);refine BE hc dc iq hnt (fun i o hi=>by have:=key _ 0 _ _ g1 i o (by simpa using hi);simpa using this) hd _ _ (σ,fun _=>false) γ a _ (by simpa using UN) s1 (fun k hk=>by cases hk) fun γ' a' w' s x f=>hK γ' a' w' s (x1.trans x) f
theorem Fa(l8:P.follows .mixedOrders=true)(hc:eo P cx)(dc:jP P B.G cx)(iq:oE P B.G inl){Q:Exit→Act→World→Prop}{id:Nat}{a:Act}{w:World}
  (hd:∀o∈ops.toList,∀k,o.dst=some k→k<N) (hr:(pU cx nb bf inl ops σ).run=some σ') (h:bZ B N γ σ a w)
  (hK:∀γ' a' w',bZ B N γ' σ' a' w'→Ext B γ σ.mem w γ' σ'.mem w'→Fr (number 0 ops.toList) a a'→Q .normal a' w'):(Code.region id ops true).wp P Q a w:=by
 unfold pU at hr;cases hg:ops.any fun o=>o.guard.isSome with
 | true =>
   rw[hg] at hr;obtain⟨hnt,hr2⟩:=aq (show(bif gO ops.toList then mM cx nb bf inl ops (number 0 ops.toList) [] σ (fun _=>false) else .fail).run=some σ' from hr);exact DA l8 hc dc iq hnt hd hr2 h hK
 | false =>
   rw[hg] at hr;exact Dy l8 hc dc iq hd hr h hK
end
end Go.Ge
namespace Go.Ge
open RowKit
def mZ(f:Nat→aY→Bool)(mem:Nat→Option aY):Nat→Option aY:=fun b=>match mem b with|some bx=>some { bx with lk:=f b bx }|none=>none
section
variable {P:Program} {B:ld} {N:Nat} {γ Km:Gh} {mem m0 me m1:Nat→Option aY} {w w0:World} {f:Nat→aY→Bool}
theorem Cn{b:Nat}{bx:aY}(h:mem b=some bx):mZ f mem b=some { bx with lk:=f b bx }:=by simp[mZ,h]
theorem Fb{b:Nat}{bx:aY}(h:mZ f mem b=some bx):∃cc,mem b=some cc∧bx={ cc with lk:=f b cc }:=by
 simp only[mZ] at h;split at h
 ·rename_i cc h0;exact⟨cc,h0,(ax h).symm⟩
 ·cases h
theorem Ext.mZ:Ext B γ mem w γ (mZ f mem) w where
 below:=nD.refl _ _
 I:=fun _ _ h=>h
 mX:=fun _ _ h=>.inl h
 cells:=fun _ _ _=>rfl
 boxes:=fun b bx hb=>⟨_,Cn hb,kS _,fun _=>⟨rfl,rfl,rfl⟩⟩
theorem aV.mZ(h:aV B γ mem w):aV B γ (Go.Ge.mZ f mem) w:=by
 have hne:∀{b},Go.Ge.mZ f mem b≠none→mem b≠none:=by
  intro b hb hq;apply hb;simp[Go.Ge.mZ,hq]
 exact
  { bG:=h.bG
    base:=h.base
    boxes:=fun b bx hb=>by
     obtain⟨cc,h0,rfl⟩:=Fb hb;exact(h.boxes b cc h0).keep (Ext.mZ (B:=B) (γ:=γ) (w:=w) (f:=f) (mem:=mem)) rfl (fun _ _ _=>rfl)
    inj:=fun b c blk k k' hb hc h1 h2=>h.inj b c blk k k' (hne hb) (hne hc) h1 h2
    fresh:=fun b blk k hb h1=>h.fresh b blk k (hne hb) h1
    mW:=h.mW
    sep:=fun b bx blk k off hb h1 hi=>by
     obtain⟨cc,h0,rfl⟩:=Fb hb;exact h.sep b cc blk k off h0 h1 hi }
theorem bZ.mZ{σ:St}{a:Act}(h:bZ B N γ σ a w):bZ B N γ { σ with mem:=Go.Ge.mZ f σ.mem } a w:=h.go Ext.mZ h.ok.mZ
def Mid(m0 me m1:Nat→Option aY):Prop:=∀b cc,m0 b=some cc→∃oH,m1 b=some oH∧cc.aj≤oH.aj ∧
 (oH.aj=cc.aj→∃rA,me b=some rA∧rA.aj=cc.aj∧rA.buf=oH.buf∧rA.row=oH.row)
theorem iH.down(hm:Mid m0 me m1){b aj:Nat}{K0 K K':aY→Prop}(h0:iH m0 b aj K0)(h:iH me b aj K)(hK:∀rA oH:aY,rA.buf=oH.buf→rA.row=oH.row→K rA→K' oH):iH m1 b aj K':=by
 obtain⟨cc,h1,h2,_⟩:=h0;obtain⟨rA,k1,k2,k3⟩:=h;obtain⟨oH,l1,l2,l3⟩:=hm b cc h1;refine⟨oH,l1,by omega,fun e=>?_⟩;obtain⟨Sv,q1,q2,q3,q4⟩:=l3 (by omega);rw[k1] at q1;obtain rfl:=ax q1;exact hK rA oH q3 q4 (k3 (by omega))
theorem bH.down(hm:Mid m0 me m1):∀{v:ay} {m:Mode} {us vs:List Value},bH Km m0 w0 v m us→bH γ me w v m vs→bH γ m1 w v m vs:=by
 intro v;induction v with
 | undef=>intro m us vs _ r;cases m<;>exact r
 | data t x=>intro m us vs _ r;cases m<;>exact r
 | js=>intro m us vs _ r;cases m<;>exact r
 | kW=>intro m us vs _ r;cases m<;>exact r
 | cell t x=>intro m us vs _ r;cases m<;>exact r
 | nl=>intro m us vs _ r;cases m<;>exact r
 | lV=>intro m us vs _ r;cases m<;>exact r
 | oB b aj =>
   intro m us vs r0 r;cases m with
   | many=>exact r
   | cells=>exact⟨r.1,r0.2.down hm r.2 fun _ _ _ _ k=>k⟩
   | val=>exact⟨r.1,r0.2.down hm r.2 fun _ _ _ _ k=>k⟩
 | ptr b aj p =>
   intro m us vs r0 r;cases m with
   | many=>exact r
   | cells=>exact⟨r.1,r0.2.down hm r.2 fun _ _ _ _ k=>k⟩
   | val=>exact⟨r.1,r0.2.down hm r.2 fun _ _ _ _ k=>k⟩
 | whole b aj =>
   intro m us vs r0 r;cases m with
   | many=>exact r
   | cells=>exact⟨r.1,r0.2.down hm r.2 fun _ _ e1 e2 k=>by rw[←e1,←e2];exact k⟩
   | val=>exact⟨r.1,r0.2.down hm r.2 fun _ _ e1 e2 k=>by rw[←e1,←e2];exact k⟩
 | part b aj lo n =>
   intro m us vs r0 r;cases m with
   | many=>exact r
   | cells=>exact⟨r.1,r0.2.down hm r.2 fun _ _ e1 e2 k=>by unfold u6 at k⊢;rw[←e1,←e2];exact k⟩
   | val=>exact⟨r.1,r0.2.down hm r.2 fun _ _ e1 e2 k=>by unfold u6 at k⊢;rw[←e1,←e2];exact k⟩
 | win b aj q e k lo n =>
   intro m us vs r0 r;cases m with
   | many=>exact r
   | cells=>exact⟨r.1,r0.2.down hm r.2 fun _ _ e1 e2 k=>k⟩
   | val=>exact⟨r.1,r0.2.down hm r.2 fun _ _ e1 e2 k=>k⟩
 | fn f caps =>
   intro m us vs r0 r;cases m with
   | many=>exact r
   | cells=>obtain⟨_,_,_,s⟩:=r0;obtain⟨arr,r1,r2,r3⟩:=r;exact⟨arr,r1,r2,fun i b aj hc=>(s i b aj hc).down hm (r3 i b aj hc) fun _ _ _ _ k=>k⟩
   | val=>obtain⟨_,_,_,s⟩:=r0;obtain⟨arr,r1,r2,r3⟩:=r;exact⟨arr,r1,r2,fun i b aj hc=>(s i b aj hc).down hm (r3 i b aj hc) fun _ _ _ _ k=>k⟩
 | mix a b gy iu =>
   intro m us vs r0 r;cases m with
   | cells=>obtain⟨_,_,_,s1,s2⟩:=r0;obtain⟨c1,c2,r0,r1,r2⟩:=r;exact⟨c1,c2,r0,gy s1 r1,iu s2 r2⟩
   | val=>obtain⟨_,_,_,s1,s2⟩:=r0;obtain⟨c1,c2,r0,r1,r2⟩:=r;exact⟨c1,c2,r0,gy s1 r1,iu s2 r2⟩
   | many=>obtain⟨_,_,_,s1,s2⟩:=r0;obtain⟨c1,c2,r0,r1,r2⟩:=r;exact⟨c1,c2,r0,gy s1 r1,iu s2 r2⟩
 | om u ih =>
   intro m us vs r0 r;cases m with
   | val=>obtain⟨_,_,s⟩:=r0;obtain⟨arr,r1,r2⟩:=r;exact⟨arr,r1,ih s r2⟩
   | cells=>exact r
   | many=>exact r
def LL(M V:Nat→Bool)(m0 me m1:Nat→Option aY):Prop:=∀b cc,m0 b=some cc→∃rA oH,me b=some rA∧m1 b=some oH∧rA.buf=cc.buf∧oH.buf=cc.buf∧oH.row=rA.row ∧
 oH.aj=(bif M b&&(cc.buf||V b) then cc.aj+1 else cc.aj)∧((M b&&(cc.buf||V b))=false→rA.aj=cc.aj)
theorem LL.mid{M V:Nat→Bool}(h:LL M V m0 me m1):Mid m0 me m1:=fun b cc hb=>by
 obtain⟨rA,oH,h1,h2,h3,h4,h5,h6,h7⟩:=h b cc hb;cases hc:(M b&&(cc.buf||V b)) with
 | true =>
   rw[hc] at h6;simp only[jk] at h6;exact⟨oH,h2,by omega,fun e=>absurd e (by omega)⟩
 | false =>
   rw[hc] at h6;simp only[gj] at h6;exact⟨oH,h2,by omega,fun e=>⟨rA,h1,h7 hc,h3.trans h4.symm,h5.symm⟩⟩
def Aq:Sh→ay→Prop
 | .d _,_=>True
 | .k v,u=>v=u
 | .m a b,u=>∃p q,u=.mix p q∧Aq a p∧Aq b q
theorem NO(v:ay):Aq (Nc v) v:=by
 induction v with
 | mix a b gy iu=>exact⟨a,b,rfl,gy,iu⟩
 | data t x=>trivial
 | _=>rfl
theorem LM{t:Ty}{v:ay}{y:t.den}(h:IQ t v=some y){m:Mode}{vs:List Value}(hv:bH γ me w v m vs):bH γ m1 w (.data t y) m vs:=by
 unfold IQ at h;split at h
 ·obtain⟨q,hq⟩:=Ty.gL h;subst q;subst hq;cases m<;>exact hv
 ·split at h
  ·obtain rfl:=ax h;cases m with
   | many=>exact hv
   | cells=>exact .inl ⟨⟨none,hv⟩,rfl⟩
   | val=>exact⟨[.slice none 0 0],.inl ⟨⟨none,rfl⟩,rfl⟩,(show vs=[Value.slice none 0 0] from hv)⟩
  ·cases h
 ·cases h
theorem Fc{M V:Nat→Bool}{gC jS:St}(hc:LL M V gC.mem jS.mem m1)(hV:∀b x,V b=true→gC.mem b=some x→x.buf=false){u v:ay}(hs:qx V gC jS u v=true){m:Mode}{us vs:List Value}(h0:bH Km gC.mem w0 u m us)(he:bH γ jS.mem w v m vs) :
  bH γ m1 w (bump M V u) m vs:=by
 unfold qx at hs;split at hs
 ·rename_i b aj p b' Ew p';simp only[cP] at hs;obtain⟨⟨h1,h3⟩,h2⟩:=hs;obtain rfl:=dz h1;obtain rfl:=F6 h3;have still:aj=Ew→(M b&&V b)=false→bH γ m1 w (bump M V (.ptr b aj p)) m vs:=by
   intro e q;subst e;have e:bump M V (.ptr b aj p)=.ptr b aj p:=by simp only[bump,q];rfl
   rw[e];exact bH.down hc.mid h0 he
  cases Q1:V b with
  | false =>
    rw[Q1] at h2;exact still (dz h2) (by simp[Q1])
  | true =>
    rw[Q1] at h2;simp only[jk] at h2;split at h2
    ·rename_i x y hx hy;simp only[cP] at h2;have h4:=dz h2.1;have h5:=dz h2.2;obtain⟨rA,oH,g1,g2,g3,g4,g5,g6,g7⟩:=hc b x hx;rw[hy] at g1;obtain rfl:=ax g1;cases hM:M b with
     | false=>exact still (by have:=g7 (by simp[hM]);omega) (by simp[hM])
     | true =>
       have e:bump M V (.ptr b aj p)=.ptr b (aj+1) p:=by simp only[bump,hM,Q1];rfl
       have hv1:oH.aj=aj+1:=by rw[g6,hM,Q1];simp;omega
       rw[e];cases m with
       | many=>exact he
       | cells=>exact⟨he.1,oH,g2,by omega,fun _=>aJ hy h5 he.2⟩
       | val=>exact⟨he.1,oH,g2,by omega,fun _=>aJ hy h5 he.2⟩
    ·cases h2
 ·rename_i b aj b' Ew;simp only[cP] at hs;obtain⟨h1,h2⟩:=hs;obtain rfl:=dz h1;split at h2
  ·rename_i x y hx hy;simp only[cP] at h2;obtain⟨⟨h3,h4⟩,h5⟩:=h2;have h3:=dz h3;have h4:=dz h4;obtain⟨rA,oH,g1,g2,g3,g4,g5,g6,g7⟩:=hc b x hx;rw[hy] at g1;obtain rfl:=ax g1;have TI:x.buf=true:=by rw[←g3];exact h5
   have key:∀v1,oH.aj=v1→((∃v,vs=[v]∧v.oneCell'=true)∧iH jS.mem b Ew fun bx=>∃e n,bx.buf=true∧bx.row=some (e,n) ∧
     ((γ.loc b=none∧vs=[.slice none 0 0])∨∃blk cap,γ.loc b=some (blk,cap)∧vs=[.slice (some ⟨blk,0,none⟩) n cap])) →
     ((∃v,vs=[v]∧v.oneCell'=true)∧iH m1 b v1 fun bx=>∃e n,bx.buf=true∧bx.row=some (e,n) ∧
     ((γ.loc b=none∧vs=[.slice none 0 0])∨∃blk cap,γ.loc b=some (blk,cap)∧vs=[.slice (some ⟨blk,0,none⟩) n cap])):=by
    intro v1 hv1 hr;have hk:=aJ hy h4 hr.2;exact⟨hr.1,oH,g2,by omega,fun _=>by obtain⟨e,n,q1,q2,q3⟩:=hk;exact⟨e,n,g4.trans TI,g5.trans q2,q3⟩⟩
   have hv1:∃v1,bump M V (.whole b aj)=.whole b v1∧oH.aj=v1:=by
    unfold bump;cases hM:M b with
    | true=>exact⟨aj+1,by simp[hM],by rw[g6,hM,TI,←h3];rfl⟩
    | false=>exact⟨aj,by simp[hM],by rw[g6,hM,←h3];rfl⟩
   obtain⟨v1,e1,e2⟩:=hv1;rw[e1];cases m with
   | many=>exact he
   | cells=>exact key v1 e2 he
   | val=>exact key v1 e2 he
  ·cases h2
 ·rename_i f caps f' TJ;simp only[cP] at hs;obtain rfl:=dz hs.1;obtain rfl:=F7 hs.2;exact bH.down hc.mid h0 he
 ·cases m<;>exact he
 ·cases m<;>exact he
 ·simp only[cP] at hs;obtain rfl:=dz hs.1;obtain rfl:=dz hs.2;exact bH.down hc.mid h0 he
 ·cases hs
theorem LN{V:Nat→Bool}{gC σ:St}{u v:ay}:Sh.out V gC σ (.k u) v=bif qx V gC σ u v then some () else none:=rfl
theorem Q2{V:Nat→Bool}{gC σ:St}{a b:Sh}{v w:ay}:Sh.out V gC σ (.m a b) (.mix v w)=(match Sh.out V gC σ a v,Sh.out V gC σ b w with
 | some x,some y=>some ((x,y):(Sh.m a b).ty.den)
 | _,_=>none):=rfl
theorem Ib{M V:Nat→Bool}{gC jS:St}(hc:LL M V gC.mem jS.mem m1)(hV:∀b x,V b=true→gC.mem b=some x→x.buf=false):∀{s:Sh} {u v:ay} {y:s.ty.den} {m:Mode} {us vs:List Value},Aq s u→Sh.out V gC jS s v=some y →
  bH Km gC.mem w0 u m us→bH γ jS.mem w v m vs→bH γ m1 w (s.lF M V y) m vs:=by
 intro s;induction s with
 | d t=>intro u v y m us vs _ ho _ he;exact LM ho he
 | k x =>
   intro u v y m us vs hk ho h0 he;obtain rfl:=hk;rw[LN] at ho;cases hs:qx V gC jS x v with
   | false=>rw[hs] at ho;cases ho
   | true=>exact Fc hc hV hs h0 he
 | m a b gy iu =>
   intro u v y m us vs hk ho h0 he;obtain⟨p,q,rfl,k1,k2⟩:=hk;cases v with
   | mix v1 v2 =>
     rw[Q2] at ho;split at ho
     ·rename_i y1 y2 o1 o2;obtain rfl:=ax ho;cases m with
      | cells=>obtain⟨_,_,_,s1,s2⟩:=h0;obtain⟨c1,c2,r0,r1,r2⟩:=he;exact⟨c1,c2,r0,gy k1 o1 s1 r1,iu k2 o2 s2 r2⟩
      | val=>obtain⟨_,_,_,s1,s2⟩:=h0;obtain⟨c1,c2,r0,r1,r2⟩:=he;exact⟨c1,c2,r0,gy k1 o1 s1 r1,iu k2 o2 s2 r2⟩
      | many=>obtain⟨_,_,_,s1,s2⟩:=h0;obtain⟨c1,c2,r0,r1,r2⟩:=he;exact⟨c1,c2,r0,gy k1 o1 s1 r1,iu k2 o2 s2 r2⟩
     ·cases ho
   | _=>cases ho
theorem Jp{t:Ty}{v:ay}{y:t.den}(h:IQ t v=some y):(v=.data t y)∨(v=.js∧∃e,t=.slice e):=by
 unfold IQ at h;split at h
 ·obtain⟨q,hq⟩:=Ty.gL h;subst q;subst hq;exact .inl rfl
 ·split at h
  ·exact .inr ⟨rfl,_,rfl⟩
  ·cases h
 ·cases h
theorem Ic{M V:Nat→Bool}{gC jS:St}{s:Sh}{rA oH:aY}{y:s.ty.den}(ho:Sh.out V gC jS s rA.val=some y)(hv:oH.val=s.lF M V y)(hb:oH.buf=rA.buf)(aW:rA.buf=true→∃e l,rA.val=.data (.slice e) l) :
  oH.row=rA.row∧(rA.buf=true→oH.val=rA.val):=by
 have Q3:∀t x,rA.val=.data t x→oH.val=rA.val:=by
  intro t x hx;rw[hx] at ho;cases s with
  | d u =>
    obtain⟨q,hq⟩:=Ty.gL (show Ty.to t u x=some y from ho);subst q;subst hq;rw[hv,hx];rfl
  | k z=>rw[LN] at ho;unfold qx at ho;cases z<;>cases ho
  | m a b=>cases ho
 have hrow:∀{b1 b2:aY},b1.buf=b2.buf→b1.val=b2.val→b1.row=b2.row:=by
  intro b1 b2 h1 h2;unfold aY.row;rw[h1,h2]
 cases hx:rA.val with
 | data t x =>
   have:=Q3 t x hx;exact⟨hrow hb this,fun _=>by rw[this,hx]⟩
 | _ =>
   refine⟨?_,fun h=>by obtain⟨e,l,q⟩:=aW h;rw[hx] at q;cases q⟩;cases hq:rA.buf with
   | true=>obtain⟨e,l,q⟩:=aW hq;rw[hx] at q;cases q
   | false =>
     have e1:rA.row=none:=by unfold aY.row;rw[hq,hx]
     rw[e1];unfold aY.row;rw[hb,hq,hv];rw[hx] at ho;cases s with
     | d u =>
       rcases Jp (show IQ u _=some y from ho) with q|⟨q,e,rfl⟩
       ·first|cases q|exact absurd hx (by rw[q];intro k;cases k)
       ·rfl
     | k z =>
       rw[LN] at ho;simp only[Sh.lF];have hnd:∀t x,bump M V z≠.data t x:=by
        intro t x q;cases z with
        | data t' x'=>unfold qx at ho;cases ho
        | whole b v=>simp only[bump] at q;cases hM:M b<;>rw[hM] at q<;>cases q
        | ptr b v p=>simp only[bump] at q;cases hM:(M b&&V b)<;>rw[hM] at q<;>cases q
        | _=>cases q
       split<;>first|rfl|(rename_i hh;exact absurd hh (hnd _ _))
     | m a b=>rfl
end
end Go.Ge
