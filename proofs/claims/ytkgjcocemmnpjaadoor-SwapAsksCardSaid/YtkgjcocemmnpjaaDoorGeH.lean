/- A ghost interpreter of the model's code, and that it tells the truth: part 8. It says of a function of plain data what a call of it comes to. -/
import Derived.Test.YtkgjcocemmnpjaaDoorGeG
set_option linter.unusedVariables false
set_option linter.unusedSimpArgs false
set_option linter.unusedSectionVars false
namespace Go.Ge
open RowKit
section
variable {σ1 σ2:St} {d:Option Nat} {cx:Ctx} {nb:Nat} {bf:List Nat} {inl:Nat→List au→St→Tree (au×St)}
theorem n9(hle:Le σ1 σ2)(hb:∀k,d=some k→σ1.mem (nb+k)=σ2.mem (nb+k)){ty:TypeId}{v:au}:LT σ2 d (eF cx nb bf d ty v σ1) (eF cx nb bf d ty v σ2):=by
 have R:=Rel.refl hle;unfold eF;cases v with
 | undef=>exact LT.bif (LT.ret R)
 | gk =>
   simp only;split
   ·rename_i k e _;cases bN bf k with
    | true=>exact LT.ay hle (hb k rfl)
    | false=>exact LT.AE R
   ·exact LT.ret R
 | _=>exact LT.ret R
theorem yV(hle:Le σ1 σ2){c a b:au}:LT σ2 d (gm d c a b σ1) (gm d c a b σ2):=by
 have R:=Rel.refl hle;unfold gm;split
 ·split
  ·split
   ·exact LT.ret R
   ·exact LT.fail
  ·exact LT.node (LT.ret R) (LT.ret R)
 ·exact LT.fail
theorem yW(hle:Le σ1 σ2){ty:TypeId}{a:au}:LT σ2 d (fc cx d ty a σ1) (fc cx d ty a σ2):=by
 have R:=Rel.refl hle;unfold fc;cases a with
 | cell u x=>exact LT.bif (LT.ret R)
 | ptr b ag p =>
   ((try dsimp only);split<;>first|exact LT.fail|(rename_i hq;rw[(hle b) _ hq];try dsimp only))
   exact LT.bif (LT.bind fun x _=>LT.bif (LT.ret R))
 | _=>exact LT.fail
theorem uo{gq gi:St}(R:Rel σ1 σ2 gq gi){b ag:Nat}{p:List oz}{fit:au→Bool}{v:au}:LT σ2 none (storeAt b ag p fit v gq) (storeAt b ag p fit v gi):=by
 unfold storeAt
 ((try dsimp only);split<;>first|exact LT.fail|(rename_i hq;rw[(R.le b) _ hq];try dsimp only))
 exact LT.bif (LT.bind fun x _=>LT.bif (LT.bind fun c _=>LT.store (R.trans (Rel.bt R.le))))
theorem LT.JR{c:Bool}{t u t' u':Tree St}(h:LT σ2 d t u)(h':LT σ2 d t' u'):LT σ2 d (bif c then t else t') (bif c then u else u'):=by cases c<;>first|exact h'|exact h
theorem AF{gq gi:St}(R:Rel σ1 σ2 gq gi){b ag:Nat}{p:List oz}{n:Nat}{v:au}:LT σ2 none (iE b ag p n v gq) (iE b ag p n v gi):=by
 unfold iE
 ((try dsimp only);split<;>first|exact LT.fail|(rename_i hq;rw[(R.le b) _ hq];try dsimp only))
 exact LT.bif (LT.bind fun x _=>LT.bif (LT.bind fun c _=>LT.bif (LT.store (R.trans (Rel.bt R.le)))))
theorem xz(hle:Le σ1 σ2){bf:List Nat}{ty:TypeId}{a v:au}:LT σ2 none (fh cx bf ty a v σ1) (fh cx bf ty a v σ2):=by
 have R:=Rel.refl hle;unfold fh;cases a with
 | ptr b ag p =>
   ((try dsimp only);split<;>first|exact LT.fail|(rename_i hq;rw[(hle b) _ hq];try dsimp only))
   refine LT.bif (LT.bind fun old _=>?_);split
   ·refine LT.bif (LT.JR (AF R) ?_);split
    ·rename_i y gq hg;obtain⟨gi,k1,k2⟩:=nI hle hg;rw[k1];exact uo k2
    ·exact LT.fail
   ·exact LT.bif (uo R)
 | _=>exact LT.fail
theorem Cg{n:Int}{lo hi:Option Operand}(ho:∀x∈lo.toList++hi.toList,bz σ1 x=bz σ2 x):bounds σ1 n lo hi=bounds σ2 n lo hi:=by
 unfold bounds;cases lo<;>cases hi<;>simp only<;>simp at ho<;>simp[ho]
theorem xA(hle:Le σ1 σ2){ty:TypeId}{x:au}{lo hi:Option Operand}(ho:∀x∈lo.toList++hi.toList,bz σ1 x=bz σ2 x):LT σ2 d (fo cx d ty x lo hi σ1) (fo cx d ty x lo hi σ2):=by
 have R:=Rel.refl hle;have hbd:∀n,bounds σ1 n lo hi=bounds σ2 n lo hi:=fun n=>Cg ho;unfold fo;split
 ·rename_i s _;rw[hbd]
  ((try dsimp only);split<;>first|exact LT.fail|skip)
  exact LT.need (LT.ret R)
 ·rw[hbd];refine LT.bif ?_
  ((try dsimp only);split<;>first|exact LT.fail|skip)
  exact LT.need (LT.ret R)
 ·rename_i u c ag l n _
  ((try dsimp only);split<;>first|exact LT.fail|(rename_i hq;rw[(hle c) _ hq];try dsimp only))
  refine LT.bif ?_;rw[hbd]
  ((try dsimp only);split<;>first|exact LT.fail|skip)
  exact LT.need (LT.ret R)
 ·rename_i u c ag _
  ((try dsimp only);split<;>first|exact LT.fail|(rename_i hq;rw[(hle c) _ hq];try dsimp only))
  refine LT.bif ?_;split
  ·refine LT.bif ?_;split
   ·exact LT.ret R
   ·rw[hbd]
    ((try dsimp only);split<;>first|exact LT.fail|skip)
    exact LT.need (LT.ret R)
  ·exact LT.fail
 ·rw[hbd];refine LT.yU (fun h=>?_) ?_
  ·simp only[cA] at h⊢;exact⟨gY hle h.1,h.2⟩
  ·((try dsimp only);split<;>first|exact LT.fail|skip)
   exact LT.need (LT.ret R)
 ·rename_i m u c ag _
  ((try dsimp only);split<;>first|exact LT.fail|(rename_i hq;rw[(hle c) _ hq];try dsimp only))
  refine LT.bif ?_;split
  ·rw[hbd];refine LT.bif ?_
   ((try dsimp only);split<;>first|exact LT.fail|skip)
   exact LT.need (LT.ret R)
  ·exact LT.fail
 ·exact LT.fail
theorem DK(hle:Le σ1 σ2){b ag:Nat}{i:Int}:∀{m k:Nat},LT σ2 d (sX d b ag σ1 i m k) (sX d b ag σ2 i m k):=by
 intro m;induction m with
 | zero=>intro k;exact LT.fail
 | succ m ih=>intro k;exact LT.node (LT.ret (Rel.refl hle)) ih
theorem lC(hle:Le σ1 σ2){ty:TypeId}{x:au}{i:Int}:LT σ2 d (cu cx d ty x i σ1) (cu cx d ty x i σ2):=by
 have R:=Rel.refl hle;unfold cu;split
 ·exact LT.bif (LT.look fun _=>LT.ret R)
 ·exact LT.bif (LT.look fun _=>LT.ret R)
 ·((try dsimp only);split<;>first|exact LT.fail|(rename_i hq;rw[((fun r (hr:_=some r)=>uk hle hr)) _ hq];try dsimp only))
  exact LT.bif (LT.need (LT.ret R))
 ·((try dsimp only);split<;>first|exact LT.fail|(rename_i hq;rw[((fun r (hr:_=some r)=>uk hle hr)) _ hq];try dsimp only))
  exact LT.bif (LT.need (LT.ret R))
 ·exact LT.yU (fun h=>gY hle h) (LT.need (LT.ret R))
 ·split
  ·refine LT.yU (fun h=>?_) (DK hle);simp only[cA] at h⊢;exact⟨h.1,gY hle h.2⟩
  ·exact LT.fail
 ·exact LT.fail
theorem xB(hle:Le σ1 σ2){ty:TypeId}{x:au}{i:Int}:LT σ2 d (fq cx d ty x i σ1) (fq cx d ty x i σ2):=by
 have R:=Rel.refl hle;unfold fq;split
 ·refine LT.yU (fun h=>?_) ?_
  ·simp only[cA] at h⊢;exact⟨h.1,gY hle h.2⟩
  ·split
   ·exact LT.bif (LT.ret R)
   ·exact LT.fail
 ·exact lC hle
theorem xC(hle:Le σ1 σ2){ty:TypeId}{x:au}{i:Int}:LT σ2 d (fu cx d ty x i σ1) (fu cx d ty x i σ2):=by
 have R:=Rel.refl hle;unfold fu;split
 ·exact LT.look fun _=>LT.ret R
 ·exact LT.bif (LT.look fun _=>LT.ret R)
 ·exact LT.fail
theorem qJ(hle:Le σ1 σ2){s:TypeId}{x:au}{k:Nat}:LT σ2 d (cF cx d s x k σ1) (cF cx d s x k σ2):=by
 have R:=Rel.refl hle;unfold cF;split
 ·refine LT.bif ?_;split
  ·exact LT.ret R
  ·exact LT.fail
 ·refine LT.yU (fun h=>gY hle h) ?_;split
  ·split
   ·exact LT.ret R
   ·exact LT.fail
  ·split
   ·split
    ·exact LT.ret R
    ·exact LT.fail
   ·exact LT.fail
 ·exact LT.fail
theorem uq(hle:Le σ1 σ2)(hb:∀k,d=some k→σ1.mem (nb+k)=σ2.mem (nb+k)){s t:TypeId}{x:au}:LT σ2 d (dI cx nb d s t x σ1) (dI cx nb d s t x σ2):=by
 have R:=Rel.refl hle;unfold dI;split
 ·exact LT.ret R
 ·exact LT.ret R
 ·split
  ·exact LT.need (LT.ay hle (hb _ rfl))
  ·exact LT.fail
 ·((try dsimp only);split<;>first|exact LT.fail|(rename_i hq;rw[((fun r (hr:_=some r)=>nH hle hr)) _ hq];try dsimp only))
  exact LT.ret R
 ·exact LT.fail
theorem oa(hle:Le σ1 σ2)(hb:∀k,d=some k→σ1.mem (nb+k)=σ2.mem (nb+k)){ty:TypeId}{s x:au}:LT σ2 d (dM cx nb d ty s x σ1) (dM cx nb d ty s x σ2):=by
 have R:=Rel.refl hle;unfold dM;split
 ·rename_i k e _
  ((try dsimp only);split<;>first|exact LT.fail|(rename_i hq;rw[((fun r (hr:_=some r)=>Ce hle hr)) _ hq];try dsimp only))
  split
  ·exact LT.need (LT.ay hle (hb _ rfl))
  ·rename_i b ag;cases hq:σ1.mem b with
   | none=>exact LT.fail
   | some bx =>
     rw[hle b bx hq];cases hl:dw e σ1 (.whole b ag) with
     | none=>exact LT.fail
     | some l =>
       rw[nH hle hl];simp only;cases (bx.lk||!GS cx ty bx.tid) with
       | true=>exact LT.fail
       | false=>exact LT.need (LT.AE (Rel.bt hle))
  ·exact LT.fail
 ·exact LT.fail
theorem DL(hle:Le σ1 σ2):∀{o:OT} {v:au} {r},bV σ1.mem o v=some r→bV σ2.mem o v=some r:=by
 intro o;induction o with
 | dat t=>intro v r h;exact h
 | buf e bX =>
   intro v r h;cases v<;>first|(cases h;done)|skip
   rename_i b ag;simp only[bV] at h⊢;cases hb:σ1.mem b with
   | none=>rw[hb] at h;cases h
   | some bx=>rw[hb] at h;rw[hle b bx hb];exact h
 | ref tid o ih =>
   intro v r h;cases v<;>first|(cases h;done)|skip
   rename_i b ag Lx;cases Lx with
   | cons _ _=>cases h
   | nil =>
     simp only[bV] at h⊢;cases hb:σ1.mem b with
     | none=>rw[hb] at h;cases h
     | some bx =>
       rw[hb] at h;rw[hle b bx hb];simp only at h⊢;cases hcd:(Nat.beq bx.ag ag&&!bx.buf&&!bx.lk&&!bx.ro&&Nat.beq bx.tid tid) with
       | false=>rw[hcd] at h;cases h
       | true =>
         rw[hcd] at h;simp only[gD] at h⊢;cases hr:bV σ1.mem o bx.val with
         | none=>rw[hr] at h;cases h
         | some q=>rw[hr] at h;rw[ih hr];exact h
 | pair p q lq kO =>
   intro v r h;unfold bV at h;split at h
   case h_2=>cases h
   split at h
   case h_2=>cases h
   rename_i h1 h2;cases h;exact qH (lq h1) (kO h2)
 | unit=>intro v r h;exact h
theorem AG(hle:Le σ1 σ2):∀{ps:List Bool} {A:Ty} {U:OT} {vs:List au} {r},dm σ1 ps A U vs=some r→dm σ2 ps A U vs=some r:=by
 intro ps;induction ps with
 | nil=>intro A U vs r h;exact h
 | cons q ps ih =>
   intro A U vs r h;cases q with
   | false =>
     cases A<;>first|(cases h;done)|skip
     cases vs with
     | nil=>cases h
     | cons v vs =>
       simp only[dm] at h⊢;split at h
       ·rename_i h1 h2;rw[h1,ih h2];exact h
       ·cases h
   | true =>
     cases U<;>first|(cases h;done)|skip
     rename_i o U;cases o<;>first|(cases h;done)|skip
     cases vs with
     | nil=>cases h
     | cons v vs =>
       simp only[dm] at h⊢;split at h
       ·rename_i h1 h2;rw[DL hle h1,ih h2];exact h
       ·cases h
theorem Rel.eY(hle:Le σ1 σ2){U:OT}{y:U.den}{N M:List (Nat×Nat)}:Rel σ1 σ2 (Go.Ge.eY U y N M σ1) (Go.Ge.eY U y N M σ2) where
 s1:=rfl
 s2:=rfl
 m:=fun b=>by
  rw[dJ,dJ];cases dZ U y N (M.map fun p=>(p.1,p.2+1)) b with
  | some bx=>rfl
  | none =>
    cases h:σ1.mem b with
    | some x=>exact hle b x h
    | none=>rfl
 nv:=fun b h=>by
  rw[dJ] at h;cases hc:dZ U y N (M.map fun p=>(p.1,p.2+1)) b with
  | some bx=>rw[hc] at h;cases h
  | none=>rw[hc] at h;exact h
theorem Ch(hle:Le σ1 σ2){f:Nat}{args:List au}(HT:find cx.gE f≠none∨find cx.x6 f=none):LT σ2 d (kJ cx oV d f args σ1) (kJ cx inl d f args σ2):=by
 have R:=Rel.refl hle;unfold kJ;split
 ·split
  ·have key:∀{A:Ty} {vs:List au} {x:A.den},dR σ1 A vs=some x→dR σ2 A vs=some x:=by
    intro A;induction A with
    | pair t r zS ihr =>
      intro vs x hl;cases vs with
      | nil=>cases hl
      | cons v vs =>
        simp only[dR] at hl⊢;split at hl
        ·rename_i p q hp hq;rw[Bs hle hp,ihr hq];exact hl
        ·cases hl
    | unit=>intro vs x hl;cases vs<;>exact hl
    | _=>intro vs x hl;cases vs<;>cases hl
   ((try dsimp only);split<;>first|exact LT.fail|(rename_i hq;rw[((fun r (hr:_=some r)=>key hr)) _ hq];try dsimp only))
   exact LT.look fun _=>LT.ret R
  ·split
   ·rename_i x gq hg;obtain⟨gi,k1,k2⟩:=oK hle hg;rw[k1];exact LT.look fun _=>LT.ret k2
   ·exact LT.fail
 ·rename_i hn;rw[HT.resolve_left fun q=>q hn];split
  ·rename_i hs;cases hs
  ·split
   ·rename_i k hk;cases hr:dm σ1 k.ps k.A k.U args with
    | none=>exact fun y hy=>by cases hy
    | some r =>
      rw[AG hle hr];exact LT.bif (LT.look fun y=>LT.ret (Rel.eY hle))
   ·exact fun y hy=>by cases hy
theorem LT.Fs{gq gi:St}(R:Rel σ1 σ2 gq gi){k:Nat}{b:Nat}(hb:σ1.mem b=σ2.mem b){val:au}{tid:TypeId}{buf:Bool}{v:Nat→au} :
  LT σ2 (some k) (gq.ay b val tid buf fun ag σ=>.ret (σ.put k (v ag))) (gi.ay b val tid buf fun ag σ=>.ret (σ.put k (v ag))):=by
 have hq:gq.mem b=gi.mem b:=by
  rw[R.m b];cases h:gq.mem b with
  | some x=>rfl
  | none=>simp only;rw[←hb,R.nv b h]
 unfold St.ay;rw[←hq];cases gq.mem b with
 | none=>exact LT.AE (R.trans (Rel.bt R.le))
 | some bx =>
   simp only;cases bx.lk with
   | true=>exact LT.fail
   | false=>exact LT.AE (R.trans (Rel.bt R.le))
theorem xD(hle:Le σ1 σ2)(hb:∀k,d=some k→σ1.mem (nb+k)=σ2.mem (nb+k)){e:Ty}{args:List au}:LT σ2 d (fy nb e d args σ1) (fy nb e d args σ2):=by
 unfold fy;split
 ·split
  ·rename_i l gq hg;obtain⟨gi,k1,k2⟩:=nI hle hg;rw[k1];exact LT.bif (LT.need (LT.Fs k2 (hb _ rfl)))
  ·exact LT.fail
 ·exact LT.fail
theorem Ci{gq gi:St}(h:Le gq gi){e:Ty}{v:au}{r:Nat×Nat×aR×List e.den}(hl:mH e gq v=some r):mH e gi v=some r:=by
 cases v with
 | part b ag lo n =>
   simp only[mH] at hl⊢;cases hb:gq.mem b with
   | none=>rw[hb] at hl;cases hl
   | some bx=>rw[hb] at hl;rw[h b bx hb];exact hl
 | whole b ag =>
   simp only[mH] at hl⊢;cases hb:gq.mem b with
   | none=>rw[hb] at hl;cases hl
   | some bx=>rw[hb] at hl;rw[h b bx hb];exact hl
 | _=>cases hl
theorem AH(hle:Le σ1 σ2){e A:Ty}{res:Bool}{spec:List e.den→A.den→Option (List e.den)}{args:List au}:LT σ2 d (iF e A res spec d args σ1) (iF e A res spec d args σ2):=by
 unfold iF;split
 ·split
  ·rename_i x gq hg;obtain⟨gi,k1,k2⟩:=oK hle hg;rw[k1];simp only;split
   ·rename_i b ag bx l Gw;rw[Ci k2.le Gw];simp only;refine LT.look fun l'=>?_;cases res with
    | true =>
      cases d with
      | none=>exact LT.fail
      | some k=>exact LT.AE (k2.trans (Rel.bt k2.le))
    | false=>cases d<;>exact LT.bif (LT.ret (k2.trans (Rel.bt k2.le)))
   ·exact LT.fail
  ·exact LT.fail
 ·exact LT.fail
theorem AJ(hle:Le σ1 σ2)(hb:∀k,d=some k→σ1.mem (nb+k)=σ2.mem (nb+k)){f:Nat}{args:List au}(HT:kI cx bf d f=none→(find cx.gE f≠none∨find cx.x6 f=none)∨(find cx.gE f=none∧∃e,find cx.x6 f=some (.clone e)))(hcs:∀s,kI cx bf d f=some s→(∃e,s=.clone e)∨∃e A r q,s=.own e A r q) :
  LT σ2 d (jk cx nb bf oV d f args σ1) (jk cx nb bf inl d f args σ2):=by
 unfold jk;split
 ·exact xD hle hb
 ·exact AH hle
 ·rename_i h1 h2;have hn:kI cx bf d f=none:=by
   cases hq:kI cx bf d f with
   | none=>rfl
   | some s =>
     rcases hcs s hq with ⟨e,rfl⟩|⟨e,A,r,q,rfl⟩
     ·exact absurd hq (h1 e)
     ·exact absurd hq (h2 e A r q)
  rcases HT hn with hc|⟨hc,e,he⟩
  ·exact Ch hle hc
  ·unfold kJ;rw[hc,he];exact LT.fail
theorem yX{s:EE}{f:Nat}(h:kI cx bf d f=some s):(∃e,s=.clone e)∨∃e A r q,s=.own e A r q:=by
 unfold kI at h;split at h
 ·rename_i e he;split at h
  ·obtain rfl:=aq h;exact .inl ⟨e,rfl⟩
  ·cases h
 ·obtain rfl:=aq h;exact .inr ⟨_,_,_,_,rfl⟩
 ·cases h
theorem Cj:∀{ps:List (Nat×Operand)} {k:Nat},(∀x∈ps.map (·.2),bz σ1 x=bz σ2 x)→mI σ1 k ps=mI σ2 k ps:=by
 intro ps;induction ps with
 | nil=>intro k _;rfl
 | cons p r ih =>
   obtain⟨j,x⟩:=p;intro k h;simp only[mI];rw[h x (by simp),ih (k:=k+1) fun y hy=>h y (by simp at hy⊢;exact .inr hy)]
theorem yY{fs:List gf}:∀{ps:List (Nat×Operand)} {v:au},(∀x∈ps.map (·.2),bz σ1 x=bz σ2 x)→fH σ1 fs v ps=fH σ2 fs v ps:=by
 intro ps;induction ps with
 | nil=>intro v _;rfl
 | cons p r ih =>
   obtain⟨k,x⟩:=p;intro v h;simp only[fH];rw[h x (by simp)];have hr:∀u,fH σ1 fs u r=fH σ2 fs u r:=fun u=>ih (v:=u) fun y hy=>h y (by simp at hy⊢;exact .inr hy);simp only[hr]
theorem Ck(hle:Le σ1 σ2){o:Oper}{ge:Option Nat}(hge:gp o σ2=ge)(h3:cls cx ge o≠3)(hop:∀x∈cH o.op,bz σ1 x=bz σ2 x)(hb:∀k,o.dst=some k→σ1.mem (nb+k)=σ2.mem (nb+k)) :
  LT σ2 o.dst (gP cx nb bf oV o σ1) (gP cx nb bf inl o σ2):=by
 have R:=Rel.refl hle;unfold gP;cases ho:o.op with
 | move x=>simp only[ho,cH] at hop⊢;rw[hop x (by simp)];exact n9 hle hb
 | assign x=>simp only[ho,cH] at hop⊢;rw[hop x (by simp)];exact n9 hle hb
 | pick c a b=>simp only[ho,cH] at hop⊢;rw[hop c (by simp),hop a (by simp),hop b (by simp)];exact yV hle
 | alloc e =>
   simp only;split
   ·rename_i k t hk hT;rw[hk];unfold ju;split
    ·exact absurd (by simp[cls,ho,hT]) h3
    ·exact LT.ay hle (hb k hk)
   ·rename_i k hk hT;rw[hk];split
    ·rename_i hO;exact absurd (by simp[cls,ho,hT,hO]) h3
    ·exact LT.bif (LT.ay hle (hb k hk))
   ·exact LT.fail
 | box e x =>
   simp only[ho,cH] at hop⊢;rw[hop x (by simp)];cases hk:o.dst with
   | none=>exact LT.fail
   | some k =>
     have hO:find cx.jz e=none:=by
      cases hO:find cx.jz e with
      | none=>rfl
      | some fs=>exact absurd (by simp[cls,ho,hO]) h3
     cases bz σ2 x<;>simp only[oU,hO]<;>first|exact LT.fail|exact LT.ay hle (hb k hk)
 | build t ps =>
   simp only[ho,cH] at hop⊢;split
   ·split
    ·rename_i hg;obtain⟨gi,k1,k2⟩:=vA hle hop hg;rw[k1];exact LT.ret k2
    ·exact LT.fail
   ·split
    ·rename_i hg;obtain⟨gi,k1,k2⟩:=pY hle hop hg;rw[k1];exact LT.ret k2
    ·exact LT.fail
   ·split
    ·split
     ·rw[yY hop];split
      ·exact LT.ret R
      ·exact LT.ret R
      ·exact LT.fail
     ·exact LT.fail
    ·exact LT.fail
   ·exact LT.fail
 | buildSlice t n ps =>
   simp only[ho,cH] at hop⊢;split
   ·split
    ·rename_i k aQ hparts;have hk:=(oI aQ).1;rw[hk];exact LT.ay hle (hb k hk)
    ·refine LT.bif ?_;split
     ·rename_i hg;obtain⟨gi,k1,k2⟩:=pY hle hop hg;rw[k1];exact LT.ret k2
     ·exact LT.fail
   ·unfold nB;rw[Cj hop];split
    ·rename_i k e v hk _ _;rw[hk];exact LT.bif (LT.ay hle (hb _ hk))
    ·exact LT.fail
   ·exact LT.fail
 | load t a=>simp only[ho,cH] at hop⊢;rw[hop a (by simp)];exact yW hle
 | store t a x =>
   simp only[ho,cH] at hop⊢;rw[hop a (by simp),hop x (by simp)];cases hk:o.dst with
   | none=>exact xz hle
   | some k=>exact LT.fail
 | nilCheck x =>
   simp only[ho,cH] at hop⊢;rw[hop x (by simp)];cases bz σ2 x with
   | ptr b ag p=>exact LT.yU (fun h=>gY hle h) (LT.ret R)
   | cell t x=>exact LT.ret R
   | fn f c=>exact LT.ret R
   | _=>exact LT.fail
 | binOp op xt x y yt =>
   simp only[ho,cH] at hop⊢;rw[hop x (by simp),hop y (by simp)];intro z hz;obtain⟨v,h1,h2⟩:=bind_some hz;have hb:(Dd σ2 (find cx.T xt) (bN cx.eo xt) op (bz σ2 x) (bz σ2 y)).run=some v:=by
    unfold Dd at h1⊢;split at h1
    ·obtain⟨hc,h3⟩:=ah h1;simp only[cA] at hc;rw[gY hle hc.1,hc.2];exact h3
    ·obtain⟨hc,h3⟩:=ah h1;simp only[cA] at hc;rw[gY hle hc.1,hc.2];exact h3
    ·exact h1
   rw[Tree.run_bind,hb];exact LT.ret R z h2
 | unOp op t x=>simp only[ho,cH] at hop⊢;rw[hop x (by simp)];exact LT.bind fun _ _=>LT.ret R
 | convert s t x=>simp only[ho,cH] at hop⊢;rw[hop x (by simp)];exact uq hle hb
 | makeFunc fn first caps =>
   simp only[ho,cH] at hop⊢;cases fn with
   | func f =>
     simp only;have:caps.toList.map (bz σ1)=caps.toList.map (bz σ2):=BI fun x hx=>hop x (nU _ hx);rw[this];split
     ·exact LT.ret R
     ·exact LT.fail
   | _=>exact LT.fail
 | slice t x lo hi m =>
   simp only[ho,cH] at hop⊢;cases m with
   | some m=>exact LT.fail
   | none =>
     simp only;rw[hop x (by simp)];exact xA hle fun y hy=>hop y (jx _ hy)
 | fieldAddr s x k=>simp only[ho,cH] at hop⊢;rw[hop x (by simp)];exact qJ hle
 | field xt x k =>
   simp only[ho,cH] at hop⊢;rw[hop x (by simp)];split
   ·refine LT.bif ?_;split
    ·exact LT.ret R
    ·exact LT.fail
   ·exact LT.fail
 | indexAddr t x i =>
   simp only[ho,cH] at hop⊢;rw[hop x (by simp),hop i (by simp)];split
   ·cases bN bf 5000000 with
    | true=>exact xB hle
    | false=>exact lC hle
   ·exact LT.fail
 | index t x i =>
   simp only[ho,cH] at hop⊢;rw[hop x (by simp),hop i (by simp)];split
   ·exact xC hle
   ·exact LT.fail
 | makeSlice t l c =>
   simp only[ho,cH] at hop⊢;rw[hop l (by simp),hop c (by simp)];cases hk:o.dst with
   | none=>exact LT.fail
   | some k =>
     split
     ·rename_i k' _ _ _ _ _ hk' _ _ _;obtain rfl:=aq hk';exact LT.need (LT.need (LT.ay hle (hb k hk)))
     ·exact LT.fail
 | extract t k =>
   simp only[ho,cH] at hop⊢;rw[hop t (by simp)];split
   ·((try dsimp only);split<;>first|exact LT.fail|skip)
    exact LT.ret R
   ·exact LT.fail
 | call c =>
   simp only[ho,cH] at hop⊢;have hargs:c.args.toList.map (bz σ1)=c.args.toList.map (bz σ2):=BI fun x hx=>hop x (nU _ hx);unfold jD;rw[hargs];cases hc:c.callee with
   | builtin b =>
     simp only;split
     ·rename_i x t _ _;cases Bk (find cx.T t) x with
      | true =>
        simp only[gD]
        ((try dsimp only);split<;>first|exact LT.fail|(rename_i hq;rw[((fun r (hr:_=some r)=>DJ hle hr)) _ hq];try dsimp only))
        exact LT.ret R
      | false =>
        simp only[eD];split
        ·refine LT.yU (fun h=>?_) (LT.ret R);simp only[cA] at h⊢;exact⟨gY hle h.1,h.2⟩
        ·exact LT.fail
     ·split
      ·exact oa hle hb
      ·exact oa hle hb
      ·exact LT.fail
     ·exact absurd (by simp[cls,ho,hc]) h3
     ·exact absurd (by simp[cls,ho,hc]) h3
     ·exact LT.bind fun _ _=>LT.ret R
     ·exact LT.bind fun _ _=>LT.ret R
     ·exact LT.fail
   | value f =>
     simp only;rw[hop f (by rw[hc];simp)];split
     ·rename_i g caps hop;have DH:(caps.all fun b=>live σ1 b.1 b.2)=true→(caps.all fun b=>live σ2 b.1 b.2)=true:=fun h=>by
       rw[rS] at h⊢;exact fun b hm=>gY hle (h b hm)
      refine LT.yU DH (AJ hle hb (fun hq=>?_) fun s hs=>yX hs);have heq:ge=some g:=by rw[←hge];simp[gp,ho,hc,hop]
      cases cQ:find cx.gE g with
      | some c=>exact .inl (.inl (by simp))
      | none =>
        cases yT:find cx.x6 g with
        | none=>exact .inl (.inr rfl)
        | some s =>
          refine .inr ⟨rfl,?_⟩;cases s with
          | clone e=>exact⟨e,rfl⟩
          | own e A r q=>simp[kI,yT] at hq
          | _=>exact absurd (by simp[cls,ho,hc,heq,cQ,yT]) h3
     ·exact LT.fail
   | invoke r m =>
     simp only;rw[hop r (by rw[hc];simp)];unfold ir;split
     ·split
      ·rename_i hg;obtain⟨gi,k1,k2⟩:=oK hle hg;rw[k1];exact LT.look fun _=>LT.ret k2
      ·exact LT.fail
     ·exact LT.fail
 | makeInterface u x =>
   simp only[ho,cH] at hop⊢;rw[hop x (by simp)];unfold iq;split
   ·split
    ·split
     ·rename_i hg;obtain⟨gi,k1,k2⟩:=nI hle hg;rw[k1];exact LT.ret k2
     ·exact LT.fail
    ·exact LT.fail
   ·exact LT.fail
 | _=>exact LT.fail
end
end Go.Ge
namespace Go.Ge
open RowKit
theorem gr{l:List Nat}{t:Nat}:bN l t=true↔t∈l:=by
 induction l with
 | nil=>simp[bN]
 | cons i r ih =>
   simp only[bN,sR,wG,ih];constructor
   ·rintro(h|h)
    ·exact .inl (cK h)
    ·exact .inr h
   ·rintro(h|h)
    ·subst h;exact .inl (by simp)
    ·exact .inr h
theorem eI{l:List Nat}{t:Nat}:bN l t=false↔t∉l:=by
 rw[←gr];simp
theorem AK{l:List Operand}{t:Nat}(h:Operand.tmp t∈l):t∈tmpsOf l:=by
 induction l with
 | nil=>cases h
 | cons x r ih =>
   rcases List.mem_cons.1 h with h'|h'
   ·subst h';exact jy ..
   ·clear h;have h:=h';cases x<;>simp only[tmpsOf]
    case tmp k=>exact jx _ (ih h)
    all_goals exact ih h
section
variable {cx:Ctx} {nb:Nat} {bf:List Nat} {inl:Nat→List au→St→Tree (au×St)} {σ σ' τ:St}
structure yZ (cx:Ctx) (nb:Nat) (o:Oper) (fp:Fp):Prop where
 own:∀k,o.dst=some k→nb+k∈fp.rd
 sub:∀b∈fp.wr,b∈fp.rd
 w1:cls cx fp.fn o≠0→∀k,o.dst=some k→nb+k∈fp.wr
 w2:cls cx fp.fn o≠0→cls cx fp.fn o≠1→∀b∈fp.rd,b∈fp.wr
 c3:cls cx fp.fn o≠3
theorem sN(o:Oper)(σ:St)(h:(kX cx nb o σ).sG=false):yZ cx nb o (kX cx nb o σ):=by
 have hown:∀k,o.dst=some k→nb+k∈Go.Ge.own nb o:=fun k hk=>by simp[Go.Ge.own,hk]
 unfold kX at h⊢;dsimp only at h⊢;split at h<;>rename_i hc
 ·exact⟨fun k hk=>oQ _ (hown k hk),fun b hb=>(nomatch hb),fun h0=>absurd hc h0,fun h0=>absurd hc h0,by rw[hc];decide⟩
 ·exact⟨fun k hk=>oQ _ (hown k hk),fun b hb=>oQ _ hb,fun _ k hk=>hown k hk,fun _ h1=>absurd hc h1,by rw[hc];decide⟩
 ·exact⟨fun k hk=>oQ _ (hown k hk),fun b hb=>hb,fun _ k hk=>oQ _ (hown k hk),fun _ _ b hb=>hb,by rw[hc];decide⟩
 ·cases h
theorem Ft{ts rd:List Nat}:Le { (σ.only ts rd) with slots:=σ.slots } σ:=fun b bx hb=>by
 simp only[St.only] at hb;cases hm:bN rd b with
 | true=>rw[hm] at hb;exact hb
 | false=>rw[hm] at hb;cases hb
theorem za{ts rd:List Nat}:Le (σ.only ts rd) σ:=fun b bx hb=>Ft (ts:=ts) b bx hb
theorem zb{l:List Operand}{rd:List Nat}{x:Operand}(hx:x∈l):bz (σ.only (tmpsOf l) rd) x=bz σ x:=by
 cases x with
 | tmp t =>
   have:=gr.2 (AK hx);simp only[bz,St.only,this,gD]
 | _=>rfl
theorem Fu{a b:Option Nat}(h:Ib a b=true):a=b:=by
 cases a<;>cases b<;>first|rfl|cases h|exact congrArg some (cK h)
theorem vB(o:Oper)(rd:List Nat):gp o (σ.only (tmpsOf (cH o.op)) rd)=gp o σ:=by
 unfold gp;split
 ·rename_i c hc;split
  ·rename_i x hx;rw[zb (by rw[hc];simp[cH,hx])]
  ·rfl
 ·rfl
theorem nJ{fp:Fp}{o:Oper}(hf:fp.sG=false→yZ cx nb o fp)(hr:(dU cx nb bf inl fp o σ).run=some σ'):(gP cx nb bf inl o σ).run=some σ':=by
 unfold dU at hr;cases xE:fp.sG with
 | true=>rw[xE] at hr;exact hr
 | false =>
   have hf:=hf xE;rw[xE] at hr;simp only[eD] at hr;obtain⟨τ,h1,h2⟩:=bind_some hr;obtain rfl:=aq h2;obtain⟨hfn,h1⟩:=ah h1;have hfn:=Fu hfn;have JS:gp o σ=fp.fn:=by rw[←hfn];exact(vB ..).symm
   have hL:=Ck (cx:=cx) (nb:=nb) (bf:=bf) (inl:=inl) (σ1:=σ.only (tmpsOf (cH o.op)) fp.rd) (σ2:=σ) za (o:=o) JS hf.c3 (fun x hx=>zb hx)
    (fun k hk=>by simp only[St.only,gr.2 (hf.own k hk),gD]) τ h1
   rw[hL];have hC:=AB (cx:=cx) (nb:=nb) (bf:=bf) (σ:=σ.only (tmpsOf (cH o.op)) fp.rd) (o:=o) (p:=fun b=>b∈fp.wr) hfn hf.c3 (fun h0 k hk=>hf.w1 h0 k hk) (fun h0 h1 b hb=>by
    refine hf.w2 h0 h1 b ?_;simp only[St.only] at hb;cases hm:bN fp.rd b with
    | true=>exact gr.1 hm
    | false=>rw[hm] at hb;exact absurd rfl hb) τ h1
   have hm:(fun b=>match τ.mem b with|some x=>some x|none=>σ.mem b)=fun b=>bif bN fp.wr b then τ.mem b else σ.mem b:=by
    funext b;have hrd:b∈fp.rd→(σ.only (tmpsOf (cH o.op)) fp.rd).mem b=σ.mem b:=fun h=>by simp only[St.only,gr.2 h,gD]
    cases hw:bN fp.wr b with
    | true =>
      simp only[gD];cases hq:τ.mem b with
      | some x=>rfl
      | none =>
        simp only;rw[←hrd (hf.sub b (gr.1 hw))];rcases hC b with k|k
        ·rw[←k,hq]
        ·exact absurd hq k.1
    | false =>
      simp only[eD];rcases hC b with k|k
      ·rw[k];cases hq:(σ.only (tmpsOf (cH o.op)) fp.rd).mem b with
       | none=>rfl
       | some x=>simp only;exact(za b x hq).symm
      ·exact absurd k.2 (eI.1 hw)
   unfold lift lay;exact congrArg (fun m=>some (St.mk _ m)) hm
theorem nK{a b:List Nat}(h:BX a b=true){x:Nat}(hx:x∈a):x∉b:=by
 simp only[BX,rS,ny] at h;exact eI.1 (h x hx)
theorem apart_spec{x y:Oper}{f g:Fp}(h:apart x y f g=true):f.sG=false∧g.sG=false∧(∀b∈f.wr,b∉g.rd)∧(∀b∈g.wr,b∉f.rd) ∧
  (∀d,x.dst=some d→d∉tmpsOf (cH y.op))∧(∀d,y.dst=some d→d∉tmpsOf (cH x.op))∧(∀d e,x.dst=some d→y.dst=some e→d≠e):=by
 simp only[apart,cA,ny] at h;obtain⟨⟨⟨⟨⟨h1,h2⟩,h3⟩,h4⟩,h5⟩,h6⟩:=h;refine⟨h1,h2,fun b hb=>nK h3 hb,fun b hb=>nK h4 hb,fun d hd=>?_,fun d hd=>?_,fun d e hd he=>?_⟩
 ·rw[hd] at h5;simp only[cA,ny] at h5;exact eI.1 h5.1
 ·rw[hd] at h6;simp only[ny] at h6;exact eI.1 h6
 ·rw[hd,he] at h5;simp only[cA,ny] at h5;intro q;subst q;simp at h5
theorem pZ{d:Option Nat}{wr ts rd:List Nat}(h1:∀k,d=some k→k∉ts)(h2:∀b∈wr,b∉rd):(lay σ d wr τ).only ts rd=σ.only ts rd:=by
 unfold St.only lay
 congr 1
 ·funext t;cases hm:bN ts t with
  | false=>rfl
  | true =>
    simp only[gD];cases d with
    | none=>rfl
    | some k =>
      have:t≠k:=fun e=>h1 k rfl (by rw[←e];exact gr.1 hm);simp[ec this]
 ·funext b;cases hm:bN rd b with
  | false=>rfl
  | true =>
    have:b∉wr:=fun hw=>h2 b hw (gr.1 hm);simp[eI.2 this]
theorem DM{oi oj:Oper}{fi fj:Fp}{σ1 σ2:St}(hap:apart oi oj fi fj=true)(hsi:∀b∈fi.wr,b∈fi.rd)(h1:(dU cx nb bf inl fi oi σ).run=some σ1)(h2:(dU cx nb bf inl fj oj σ1).run=some σ2) :
  ∃DN,(dU cx nb bf inl fj oj σ).run=some DN∧(dU cx nb bf inl fi oi DN).run=some σ2:=by
 obtain⟨b1,b2,w1,w2,d1,d2,d3⟩:=apart_spec hap;unfold dU at h1 h2⊢;rw[b1] at h1;rw[b2] at h2;simp only[b1,b2,eD] at h1 h2⊢;obtain⟨Jf,i1,i2⟩:=bind_some h1;obtain rfl:=aq i2;obtain⟨HW,j1,j2⟩:=bind_some h2;obtain rfl:=aq j2;rw[pZ d1 w1] at j1;refine⟨lay σ oj.dst fj.wr HW,by rw[Tree.run_bind,j1];rfl,?_⟩;rw[pZ d2 w2,Tree.run_bind,i1];show some _=some _
 congr 1
 unfold lay
 congr 1
 ·cases hi:oi.dst with
  | none=>rfl
  | some k =>
    cases hj:oj.dst with
    | none=>rfl
    | some e =>
      have hne:=d3 k e hi hj;funext t;dsimp only;by_cases q1:t=k
      ·subst q1;simp[ec hne]
      ·by_cases q2:t=e
       ·subst q2;simp[ec q1]
       ·simp[ec q1,ec q2]
 ·funext b;dsimp only;cases hw1:bN fi.wr b with
  | false=>rfl
  | true =>
    have:b∉fj.wr:=fun hw=>w2 b hw (hsi b (gr.1 hw1));simp[eI.2 this]
inductive Reach (ops:Array Oper):Nat→Nat→Prop where
 | step {i:Nat} {o:Oper} {e:Edge} (h:ops[i]?=some o) (he:e∈o.after) (hb:Region.binds .any e=true):Reach ops i e.on
 | more {i k:Nat} {o:Oper} {e:Edge} (h:ops[i]?=some o) (he:e∈o.after) (hb:Region.binds .any e=true) (r:Reach ops e.on k):Reach ops i k
def xF(ops:Array Oper)(listed:Array Bool):Prop:=∀i o e,listed.getD i false=true→ops[i]?=some o→e∈o.after→Region.binds .any e=true→listed.getD e.on false=true
theorem Reach.listed{ops:Array Oper}{listed:Array Bool}(hs:xF ops listed){i k:Nat}(h:Reach ops i k):listed.getD i false=true→listed.getD k false=true:=by
 induction h with
 | step h he hb=>exact fun hl=>hs _ _ _ hl h he hb
 | more h he hb r ih=>exact fun hl=>ih (hs _ _ _ hl h he hb)
theorem Reach.ready{ops:Array Oper}{listed:Array Bool}(hs:xF ops listed){i k:Nat}(h:Reach ops i k)(hr:i∈Region.ready .any ops listed):listed.getD k false=true:=by
 obtain⟨_,o,ho,hall⟩:=mem_ready.1 hr;cases h with
 | step h he hb =>
   obtain rfl:=aq (ho.symm.trans h);exact hall _ he hb
 | more h he hb r =>
   obtain rfl:=aq (ho.symm.trans h);exact r.listed hs (hall _ he hb)
theorem xF.list{ops:Array Oper}{listed:Array Bool}(hs:xF ops listed){i:Nat}(hr:i∈Region.ready .any ops listed):xF ops (listed.setIfInBounds i true):=by
 obtain⟨_,oi,Ly,hall⟩:=mem_ready.1 hr;have up:∀k,listed.getD k false=true→(listed.setIfInBounds i true).getD k false=true:=by
  intro k hk;by_cases e:i=k
  ·subst e;rcases qk i listed.size with h'|h'
   ·simp[h']
   ·simp[CS h'] at hk
  ·rw[getD_set_ne false e];exact hk
 intro j o e hj ho he hb;by_cases q:i=j
 ·subst q;obtain rfl:=aq (Ly.symm.trans ho);exact up _ (hall e he hb)
 ·rw[getD_set_ne false q] at hj;exact up _ (hs j o e hj ho he hb)
theorem zd{listed:Array Bool}{i:Nat}(h0:listed.getD i true=false)(h1:listed.getD i false=true):False:=by
 rcases qk i listed.size with h'|h'
 ·simp[h'] at h0 h1;rw[h0] at h1;cases h1
 ·simp[CS h'] at h1
def iL(ops:Array Oper)(done:List mJ):Prop:=∀k,∀b,Nat.testBit (maskAt done k) b=true→Reach ops k b
theorem oL{ops:Array Oper}{done:List mJ}(hd:iL ops done){i:Nat}{o:Oper}(ho:ops[i]?=some o){b:Nat}(h:Nat.testBit (mask done o) b=true):Reach ops i b:=by
 unfold mask at h;have key:∀l:List Edge,(∀e∈l,e∈o.after)→Nat.testBit (jv done l) b=true→Reach ops i b:=by
  intro l;induction l with
  | nil=>intro _ h;simp[jv] at h
  | cons e r ih =>
    intro hl h;simp only[jv] at h;cases hb:Region.binds .any e with
    | false=>rw[hb] at h;exact ih (fun e' he'=>hl e' (jx _ he')) h
    | true =>
      rw[hb] at h;simp only[gD,Nat.testBit_or,sR] at h;rcases h with (h|h)|h
      ·exact ih (fun e' he'=>hl e' (jx _ he')) h
      ·rw[Nat.testBit_two_pow] at h;have:e.on=b:=by simpa using h
       subst this;exact .step ho (hl e (jy ..)) hb
      ·exact .more ho (hl e (jy ..)) hb (hd _ _ h)
 exact key _ (fun e he=>by simpa using he) h
theorem iL.nil{ops:Array Oper}:iL ops []:=fun k b h=>by simp[maskAt] at h
theorem iL.cons{ops:Array Oper}{done:List mJ}(hd:iL ops done){i:Nat}{o:Oper}{f:Fp}(ho:ops[i]?=some o):iL ops ((i,o,f,mask done o)::done):=by
 intro k b h;simp only[maskAt] at h;cases hk:Nat.beq i k with
 | true =>
   rw[hk] at h;obtain rfl:=cK hk;exact oL hd ho h
 | false=>rw[hk] at h;exact hd k b h
def DO(cx:Ctx)(nb:Nat)(bf:List Nat)(inl:Nat→List au→St→Tree (au×St))(ops:Array Oper)(fp:Nat→Fp)(Q:St→Prop):Nat→Array Bool→St→Prop
 | 0,listed,σ=>Region.ready .any ops listed=[]∧Q σ
 | n+1,listed,σ=>(Region.ready .any ops listed=[]→Q σ) ∧
  ∀i∈Region.ready .any ops listed,∃o σ',ops[i]?=some o∧o.guard=none∧(dU cx nb bf inl (fp i) o σ).run=some σ'∧DO cx nb bf inl ops fp Q n (listed.setIfInBounds i true) σ'
variable {ops:Array Oper} {fp:Nat→Fp} {Q:St→Prop}
theorem AL{i:Nat}{oi:Oper}(hi:ops[i]?=some oi)(Jg:oi.guard=none)(hsub:∀b∈(fp i).wr,b∈(fp i).rd):∀(n:Nat) (listed:Array Bool) (σ σ1:St),
  xF ops listed→(∀j oj,ops[j]?=some oj→j≠i→listed.getD j true=false→Reach ops j i∨apart oi oj (fp i) (fp j)=true) →
  i∈Region.ready .any ops listed→(dU cx nb bf inl (fp i) oi σ).run=some σ1→DO cx nb bf inl ops fp Q n (listed.setIfInBounds i true) σ1→DO cx nb bf inl ops fp Q (n+1) listed σ:=by
 intro n;induction n with
 | zero =>
   intro listed σ σ1 jQ hfree hr h1 H;refine⟨fun h=>(by rw[h] at hr;cases hr),fun j hj=>?_⟩;by_cases hji:j=i
   ·subst hji;exact⟨oi,σ1,hi,Jg,h1,H⟩
   ·have:=ready_mono hj hji;rw[H.1] at this;cases this
 | succ n ih =>
   intro listed σ σ1 jQ hfree hr h1 H;refine⟨fun h=>(by rw[h] at hr;cases hr),fun j hj=>?_⟩;by_cases hji:j=i
   ·subst hji;exact⟨oi,σ1,hi,Jg,h1,H⟩
   ·obtain⟨oj,σ2,Hj,LA,h2,H2⟩:=H.2 j (ready_mono hj hji);obtain⟨DP,LB,DQ,hall⟩:=mem_ready.1 hj;rw[Hj] at DQ;obtain rfl:=aq DQ;have hap:apart oi oj (fp i) (fp j)=true:=by
     rcases hfree j oj Hj hji DP with hw|hap
     ·exact(zd (mem_ready.1 hr).1 (hw.ready jQ hj)).elim
     ·exact hap
    obtain⟨DN,k1,k2⟩:=DM hap hsub h1 h2;refine⟨oj,DN,Hj,LA,k1,ih (listed.setIfInBounds j true) DN σ2 (jQ.list hj) (fun k ok hk hki hun=>hfree k ok hk hki ?_) (ready_mono hr (vK hji)) k2 ?_⟩
    ·by_cases DR:j=k
     ·subst DR;exact DP
     ·rw[getD_set_ne true DR] at hun;exact hun
    ·rw[F8 _ _ hji];exact H2
end
end Go.Ge
namespace Go.Ge
open RowKit
section
variable {P:Program} {B:iy} {N:Nat} {γ:Gh} {cx:Ctx} {nb:Nat} {bf:List Nat} {inl:Nat→List au→St→Tree (au×St)} {σ σ' τ:St} {ops:Array Oper} {fp:Nat→Fp}
def Fv(cx:Ctx)(nb:Nat)(bf:List Nat)(inl:Nat→List au→St→Tree (au×St))(ops:Array Oper)(fp:Nat→Fp):Nat→List Oper→St→St→Prop
 | _,[],σ,σ'=>σ=σ'
 | k,o::l,σ,σ'=>o.guard=none∧((fp k).sG=false→yZ cx nb o (fp k))∧((fp k).sG=true→(fp k).wr=[])∧(∀e∈o.after,Region.binds .any e=true→e.on<k) ∧
  (∀j oj,l[j]?=some oj→Reach ops (k+1+j) k∨apart o oj (fp k) (fp (k+1+j))=true) ∧
  ∃σ1,(dU cx nb bf inl (fp k) o σ).run=some σ1∧Fv cx nb bf inl ops fp (k+1) l σ1 σ'
theorem ur{o:Oper}{f fk:Fp}{k m mk:Nat}{ok:Oper}{r:List mJ}(h:loose o f m ((k,ok,fk,mk)::r)=true):(Nat.testBit m k=true∨apart ok o fk f=true)∧loose o f m r=true:=by
 simp only[loose,cA,sR] at h;exact h
theorem DS(o:Oper)(σ:St)(h:(kX cx nb o σ).sG=true):(kX cx nb o σ).wr=[]:=by
 unfold kX at h⊢;dsimp only at h⊢;split at h<;>first|cases h|skip
 rfl
theorem xG:∀(l:List Oper) (k:Nat) (done:List mJ) (σ:St),(∀j o,l[j]?=some o→ops[k+j]?=some o)→iL ops done→(s6 cx nb bf inl (number k l) done σ).run=some σ' →
  ∃fs:List (Fp×Nat),fs.length=l.length∧(∀j m b,fs[j]?=some m→Nat.testBit m.2 b=true→Reach ops (k+j) b) ∧
   ∀fp:Nat→Fp,(∀j f,fs[j]?=some f→fp (k+j)=f.1)→Fv cx nb bf inl ops fp k l σ σ'∧∀j o f,l[j]?=some o→fs[j]?=some f→loose o (fp (k+j)) f.2 done=true:=by
 intro l;induction l with
 | nil =>
   intro k done σ _ _ h;exact⟨[],rfl,fun j m b h=>absurd h (by simp),fun fp _=>⟨aq h,fun j o f hj=>absurd hj (by simp)⟩⟩
 | cons o l ih =>
   intro k done σ hl hm h;simp only[number,s6] at h;split at h
   ·cases h
   ·rename_i hg;obtain⟨hc,h1⟩:=ah h;obtain⟨σ1,h2,h3⟩:=bind_some h1;simp only[cA] at hc;have hk:ops[k]?=some o:=hl 0 o rfl;obtain⟨fs,f1,fm,f2⟩:=ih (k+1) _ σ1 (fun j o' hj=>by have:=hl (j+1) o' (by simpa using hj);rw[←this];congr 1;omega) (hm.cons hk) h3;refine⟨(kX cx nb o σ,mask done o)::fs,by simp[f1],fun j m b hj hb=>?_,fun fp CM=>?_⟩
    ·cases j with
     | zero=>obtain rfl:=aq hj;exact oL hm hk hb
     | succ j=>have:=fm j m b (by simpa using hj) hb;rw[show k+(j+1)=k+1+j by omega];exact this
    have h0:fp k=kX cx nb o σ:=CM 0 _ rfl;obtain⟨g1,g2⟩:=f2 fp fun j f hj=>by have:=CM (j+1) f (by simpa using hj);rw[←this];congr 1;omega
    refine⟨⟨hg,fun hb=>by rw[h0] at hb⊢;exact sN o σ hb,fun hb=>by rw[h0] at hb⊢;exact DS o σ hb,fun e he hb=>?_,fun j oj hj=>?_,σ1,by rw[h0];exact h2,g1⟩,fun j o' f hj hf=>?_⟩
    ·have:=hc.2;rw[←Array.all_toList,rS] at this;have:=this e (by simpa using he);rw[hb] at this;have:=rR (by simpa [Nat.blt] using this);omega
    ·obtain⟨f,hf⟩:∃f,fs[j]?=some f:=⟨_,qg (by rw[f1];exact(List.getElem?_eq_some_iff.1 hj).1)⟩;rcases(ur (g2 j oj f hj hf)).1 with q|q
     ·exact .inl (fm j f k hf q)
     ·rw[h0];exact .inr q
    ·cases j with
     | zero =>
       obtain rfl:=aq hj;obtain rfl:=aq hf;rw[ow,h0];exact hc.1
     | succ j =>
       have:=(ur (g2 j o' f (by simpa using hj) (by simpa using hf))).2;rw[show k+(j+1)=k+1+j by omega];exact this
theorem DT:∀(l:List Oper) (k:Nat) (listed:Array Bool) (σ:St),(∀j,l[j]?=ops[k+j]?)→listed.size=ops.size→(∀j,j<k→j<ops.size→listed.getD j false=true) →
  (∀j,k≤j→j<ops.size→listed.getD j true=false)→xF ops listed→Fv cx nb bf inl ops fp k l σ σ'→DO cx nb bf inl ops fp (·=σ') l.length listed σ:=by
 intro l;induction l with
 | nil =>
   intro k listed σ hl hs h1 h2 jQ h;refine⟨?_,h⟩;cases hr:Region.ready .any ops listed with
   | nil=>rfl
   | cons i r =>
     exfalso;have hi:i∈Region.ready .any ops listed:=by rw[hr];exact jy ..
     obtain⟨g1,o,g2,_⟩:=mem_ready.1 hi;have hlt:i<ops.size:=(Array.getElem?_eq_some_iff.1 g2).1;rcases qk i k with hk|hk
     ·have:=h1 i hk hlt;simp[hs,hlt] at this g1;rw[this] at g1;cases g1
     ·have:=hl (i-k);rw[show k+(i-k)=i by omega,g2] at this;cases this
 | cons o l ih =>
   intro k listed σ hl hs h1 h2 jQ h;have hk:ops[k]?=some o:=by simpa using(hl 0).symm
   have hlt:k<ops.size:=(Array.getElem?_eq_some_iff.1 hk).1;obtain⟨c1,c2,Ky,c3,c4,σ1,c5,c6⟩:=h;have uu:k∈Region.ready .any ops listed:=mem_ready.2 ⟨h2 k (en _) hlt,o,hk,fun e he hb=>by
    have:=c3 e he hb;exact h1 e.on this (by omega)⟩
   refine AL hk c1 (fun b hb=>?_) l.length listed σ σ1 jQ (fun j oj hj hne hun=>?_) uu c5 (ih (k+1) _ σ1 (fun j=>?_) (by simp[hs]) (fun j hj Hl=>?_) (fun j hj Hl=>?_) (jQ.list uu) c6)
   ·cases xE:(fp k).sG with
    | true=>rw[Ky xE] at hb;cases hb
    | false=>exact(c2 xE).sub b hb
   ·have DU:j<ops.size:=(Array.getElem?_eq_some_iff.1 hj).1;rcases qk j k with DR|DR
    ·exfalso;have:=h1 j DR DU;simp[hs,DU] at this hun;rw[this] at hun;cases hun
    ·have hq:=hl (j-k);rw[show k+(j-k)=j by omega,hj] at hq;obtain⟨m,hm⟩:∃m,j-k=m+1:=⟨j-k-1,by omega⟩;rw[hm] at hq;have:=c4 m oj (by simpa using hq);rw[show k+1+m=j by omega] at this;exact this
   ·have:=hl (j+1);rw[show k+1+j=k+(j+1) by omega,←this];simp
   ·by_cases e:j=k
    ·subst e;simp[hs,hlt]
    ·rw[getD_set_ne false (vK e)];exact h1 j (by omega) Hl
   ·rw[getD_set_ne true (by omega:k≠j)];exact h2 j (by omega) Hl
theorem uv:∀{l:List Oper} {k j:Nat} {o:Oper},l[j]?=some o→(k+j,o)∈number k l:=by
 intro l;induction l with
 | nil=>intro k j o h;cases h
 | cons p l ih =>
   intro k j o h;cases j with
   | zero=>obtain rfl:=aq h;exact jy ..
   | succ j=>exact jx _ (by rw[show k+(j+1)=k+1+j by omega];exact ih (by simpa using h))
theorem uw{d:Nat}:∀{items:List (Nat×Oper)},fV d items=false→∀{i:Nat} {o:Oper},(i,o)∈items→o.dst≠some d:=fun h _ _ hm=>Au h _ _ hm
theorem vC(hc:dy P cx)(cQ:ia P B.G cx)(fD:jY P B.G inl){Q:Exit→Act→World→Prop}(CM:∀i o,ops[i]?=some o→(fp i).sG=false→yZ cx nb o (fp i))
  (hd:∀o∈ops.toList,∀k,o.dst=some k→k<N):∀(n:Nat) (listed:Array Bool) (σ:St) (γ:Gh) (a:Act) (w:World),DO cx nb bf inl ops fp (·=σ') n listed σ→bP B N γ σ a w →
   (∀γ' a' w',bP B N γ' σ' a' w'→Ext B γ σ.mem w γ' σ'.mem w'→Fr (number 0 ops.toList) a a'→Q .normal a' w')→wpAny P .any ops Q n listed a w:=by
 intro n;induction n with
 | zero =>
   intro listed σ γ a w h hs hK;obtain⟨h1,rfl⟩:=h;exact⟨h1,hK γ a w hs (Ext.refl _ _ _ _) fun t _=>rfl⟩
 | succ n ih =>
   intro listed σ γ a w h hs hK;refine⟨fun h0=>?_,fun i hi=>?_⟩
   ·obtain rfl:=h.1 h0;exact hK γ a w hs (Ext.refl _ _ _ _) fun t _=>rfl
   ·obtain⟨o,σ1,h1,h2,h3,h4⟩:=h.2 i hi;have hmem:o∈ops.toList:=by
     have:=GO h1;simpa using this
    have Bt:(i,o)∈number 0 ops.toList:=by
     have:=uv (l:=ops.toList) (k:=0) (j:=i) (o:=o) (by simpa using h1);simpa using this
    unfold wpOp;rw[h1];dsimp only;have hw:Region.wanted o (yielded ops a.tmps)=true:=by unfold Region.wanted;rw[h2]
    rw[hw];simp only[iP];refine .inl (tX hc cQ fD hs (hd o hmem) (nJ (CM i o h1) h3) fun dX v w1 s1 x1=>?_);refine ih _ σ1 dX _ w1 h4 s1 fun nY a2 w2 s2 x2 f2=>hK nY a2 w2 s2 (x1.trans x2) fun t ht=>?_;rw[f2 t ht,cV (uw ht Bt)]
theorem bP.draw{a:Act}{w:World}(h:bP B N γ σ a w)(n:Nat):bP B N γ σ a { w with drawn:=n }∧Ext B γ σ.mem w γ σ.mem { w with drawn:=n }:=by
 obtain⟨m1,m2⟩:=h.ok.I9 (w':={ w with drawn:=n }) (I':=γ.I) ⟨rfl,rfl,rfl,en _,fun _ _=>rfl⟩ (fun _ _ k=>k) (fun b o k=>h.ok.jJ b o k) (fun b o k k'=>absurd k k');exact⟨h.go m2 m1,m2⟩
theorem xH(lD:P.follows .mixedOrders=true)(hc:dy P cx)(cQ:ia P B.G cx)(fD:jY P B.G inl){Q:Exit→Act→World→Prop}{id:Nat}{a:Act}{w:World}
  (hd:∀o∈ops.toList,∀k,o.dst=some k→k<N) (hr:(s6 cx nb bf inl (number 0 ops.toList) [] σ).run=some σ') (h:bP B N γ σ a w)
  (hK:∀γ' a' w',bP B N γ' σ' a' w'→Ext B γ σ.mem w γ' σ'.mem w'→Fr (number 0 ops.toList) a a'→Q .normal a' w'):(Code.region id ops true).wp P Q a w:=by
 refine wp_region_any lD ?_;obtain⟨fs,f1,fm,f2⟩:=xG (ops:=ops) ops.toList 0 [] σ (fun j o hj=>by simpa using hj) iL.nil hr
 let fp:Nat→Fp:=fun i=>(fs[i]?.map (·.1)).getD ⟨[],[],true,none⟩
 obtain⟨g1,_⟩:=f2 fp fun j f hj=>by simp[fp,hj]
 have key:∀(l:List Oper) (k:Nat) (σ:St),Fv cx nb bf inl ops fp k l σ σ'→∀j o,l[j]?=some o→(fp (k+j)).sG=false→yZ cx nb o (fp (k+j)):=by
  intro l;induction l with
  | nil=>intro k σ _ j o hj;cases hj
  | cons o l ih =>
    intro k σ hL j o' hj;obtain⟨c1,c2,Ky,c3,c4,σ1,c5,c6⟩:=hL;cases j with
    | zero=>obtain rfl:=aq hj;exact c2
    | succ j=>rw[show k+(j+1)=k+1+j by omega];exact ih (k+1) σ1 c6 j o' (by simpa using hj)
 have hA:=DT (ops:=ops) (cx:=cx) (nb:=nb) (bf:=bf) (inl:=inl) (fp:=fp) (σ':=σ') ops.toList 0 (Array.replicate ops.size false) σ (by simp) (by simp) (fun j hj=>by omega)
  (fun j _ hj=>by simp[hj]) (fun i o e hi=>by
   exfalso;rcases qk i ops.size with h'|h'<;>simp[h'] at hi) g1
 obtain⟨s1,x1⟩:=h.draw (w.drawn+1);refine vC hc cQ fD (fun i o hi=>by have:=key _ 0 σ g1 i o (by simpa using hi);simpa using this) hd _ _ σ γ a _ (by simpa using hA) s1 fun γ' a' w' s x f=>hK γ' a' w' s (x1.trans x) f
end
end Go.Ge
namespace Go.Ge
open RowKit
section
variable {cx:Ctx} {nb:Nat} {bf:List Nat} {inl:Nat→List au→St→Tree (au×St)} {ops:Array Oper} {fp:Nat→Fp}
abbrev uX:=St×(Nat→Bool)
def oM(ops:Array Oper)(o:Oper)(s:uX):Option Bool:=match o.guard with
 | none=>some true
 | some (g,want)=>match(ops[g]?).bind (·.dst) with
   | none=>none
   | some dg=>bif s.2 g then some false else match s.1.slots dg with
     | .data .bool c=>some ((show Bool from c)==want)
     | _=>none
def gb(cx:Ctx)(nb:Nat)(bf:List Nat)(inl:Nat→List au→St→Tree (au×St))(ops:Array Oper)(f:Fp)(i:Nat)(o:Oper)(s:uX):Option uX:=match oM ops o s with
 | none=>none
 | some true=>(dU cx nb bf inl f o s.1).run.map fun σ=>(σ,s.2)
 | some false=>some (s.1.aD o.dst .undef,dB i s.2)
def ID:St:={ slots:=fun _=>.undef,mem:=fun _=>none }
theorem zf(σ:St)(d:Option Nat):σ.aD d .undef=lay σ d [] ID:=by
 unfold lay;cases d with
 | none=>rfl
 | some k=>rfl
theorem v8{f:Fp}{i:Nat}{o:Oper}{s s':uX}(hb:f.sG=false)(h:gb cx nb bf inl ops f i o s=some s'):∃b wr τ,oM ops o s=some b∧s'=(lay s.1 o.dst wr τ,bif b then s.2 else dB i s.2)∧(∀x∈wr,x∈f.wr) ∧
  ∀s0:uX,oM ops o s0=some b→(b=true→s0.1.only (tmpsOf (cH o.op)) f.rd=s.1.only (tmpsOf (cH o.op)) f.rd)→gb cx nb bf inl ops f i o s0=some (lay s0.1 o.dst wr τ,bif b then s0.2 else dB i s0.2):=by
 unfold gb at h;cases hd:oM ops o s with
 | none=>rw[hd] at h;cases h
 | some b =>
   rw[hd] at h;cases b with
   | true =>
     simp only at h;obtain⟨σ',h1,rfl⟩:=Option.map_eq_some_iff.1 h;unfold dU at h1;rw[hb] at h1;simp only[eD] at h1;obtain⟨τ,h2,h3⟩:=bind_some h1;obtain rfl:=aq h3;refine⟨true,f.wr,τ,rfl,rfl,fun x hx=>hx,fun s0 h0 h4=>?_⟩;unfold gb;rw[h0];simp only;unfold dU;rw[hb];simp only[eD];rw[Tree.run_bind,h4 rfl,h2];rfl
   | false =>
     simp only at h;obtain rfl:=aq h;refine⟨false,[],ID,rfl,by rw[zf];rfl,fun x hx=>(nomatch hx),fun s0 h0 _=>?_⟩;unfold gb;rw[h0];simp only;rw[zf];rfl
theorem zg{i j:Nat}{x y:Oper}{f g:Fp}(h:mK ops i j x y f g=true):f.sG=false∧g.sG=false∧(∀b∈f.wr,b∉g.rd)∧(∀b∈g.wr,b∉f.rd)∧kY x j=true∧kY y i=true ∧
  (∀d,x.dst=some d→d∉oA ops y)∧(∀d,y.dst=some d→d∉oA ops x)∧(∀d e,x.dst=some d→y.dst=some e→d≠e):=by
 simp only[mK,cA,ny] at h;obtain⟨⟨⟨⟨⟨⟨⟨h1,h2⟩,h3⟩,h4⟩,g1⟩,g2⟩,h5⟩,h6⟩:=h;refine⟨h1,h2,fun b hb=>nK h3 hb,fun b hb=>nK h4 hb,g1,g2,fun d hd=>?_,fun d hd=>?_,fun d e hd he=>?_⟩
 ·rw[hd] at h5;simp only[cA,ny] at h5;exact eI.1 h5.1
 ·rw[hd] at h6;simp only[ny] at h6;exact eI.1 h6
 ·rw[hd,he] at h5;simp only[cA,ny] at h5;intro q;subst q;simp at h5
theorem ux{i:Nat}{o:Oper}{s:uX}{d:Option Nat}{wr:List Nat}{τ:St}{b:Bool}(hg:kY o i=true)(hd:∀k,d=some k→k∉oA ops o):oM ops o (lay s.1 d wr τ,bif b then s.2 else dB i s.2)=oM ops o s:=by
 unfold oM;cases hgd:o.guard with
 | none=>rfl
 | some p =>
   obtain⟨g,want⟩:=p;dsimp only;cases HX:(ops[g]?).bind (·.dst) with
   | none=>rfl
   | some dg =>
     dsimp only;have Jg:Nat.beq g i=false:=by
      unfold kY at hg;rw[hgd] at hg;simpa using hg
     have h1:(bif b then s.2 else dB i s.2) g=s.2 g:=by
      cases b with
      | true=>rfl
      | false=>simp only[eD,dB,Jg,BN]
     have h2:(lay s.1 d wr τ).slots dg=s.1.slots dg:=by
      unfold lay;cases d with
      | none=>rfl
      | some k =>
        have hne:dg≠k:=fun e=>hd k rfl (by
         unfold oA vM;rw[hgd];dsimp only;rw[HX];subst e;exact jy ..)
        simp[ec hne]
     rw[h1,h2]
theorem DV(σ:St){di dj:Option Nat}{wi wj:List Nat}{Jf HW:St}(hd:∀d e,di=some d→dj=some e→d≠e)(hw:∀b∈wi,b∉wj):lay (lay σ dj wj HW) di wi Jf=lay (lay σ di wi Jf) dj wj HW:=by
 unfold lay
 congr 1
 ·cases di with
  | none=>rfl
  | some k =>
    cases dj with
    | none=>rfl
    | some e =>
      have hne:=hd k e rfl rfl;funext t;dsimp only;by_cases q1:t=k
      ·subst q1;simp[ec hne]
      ·by_cases q2:t=e
       ·subst q2;simp[ec q1]
       ·simp[ec q1,ec q2]
 ·funext b;dsimp only;cases hw1:bN wi b with
  | false=>rfl
  | true =>
    have:b∉wj:=hw b (gr.1 hw1);simp[eI.2 this]
theorem AM{i j:Nat}{oi oj:Oper}{fi fj:Fp}{s s1 s2:uX}(hap:mK ops i j oi oj fi fj=true)(hsi:∀b∈fi.wr,b∈fi.rd)(h1:gb cx nb bf inl ops fi i oi s=some s1)(h2:gb cx nb bf inl ops fj j oj s1=some s2) :
  ∃s1',gb cx nb bf inl ops fj j oj s=some s1'∧gb cx nb bf inl ops fi i oi s1'=some s2:=by
 obtain⟨b1,b2,w1,w2,g1,g2,d1,d2,d3⟩:=zg hap;obtain⟨bi,wi,Jf,e1,e2,e3,e4⟩:=v8 b1 h1;subst e2;obtain⟨bj,wj,HW,k1,k2,k3,k4⟩:=v8 b2 h2;subst k2;rw[ux g2 d1] at k1;have tm:∀{o:Oper} {k:Nat},k∉oA ops o→k∉tmpsOf (cH o.op):=fun h hm=>h (nU _ hm);have hj:=k4 s k1 fun _=>(pZ (fun k hk=>tm (d1 k hk)) (fun b hb=>w1 b (e3 b hb))).symm;refine⟨_,hj,?_⟩;have hi:=e4 (lay s.1 oj.dst wj HW,bif bj then s.2 else dB j s.2) (by rw[ux g1 d2];exact e1) fun _=>pZ (fun k hk=>tm (d2 k hk)) (fun b hb=>w2 b (k3 b hb));rw[hi]
 congr 1
 refine Prod.ext ?_ ?_
 ·exact DV s.1 d3 (fun b hb hb2=>w2 b (k3 b hb2) (hsi b (e3 b hb)))
 ·dsimp only;cases bi<;>cases bj<;>first|rfl|skip
  simp only[eD];funext k;simp only[dB];cases Nat.beq k i<;>cases Nat.beq k j<;>rfl
def xI(cx:Ctx)(nb:Nat)(bf:List Nat)(inl:Nat→List au→St→Tree (au×St))(ops:Array Oper)(fp:Nat→Fp)(Q:uX→Prop):Nat→Array Bool→uX→Prop
 | 0,listed,s=>Region.ready .any ops listed=[]∧Q s
 | n+1,listed,s=>(Region.ready .any ops listed=[]→Q s) ∧
  ∀i∈Region.ready .any ops listed,∃o s',ops[i]?=some o∧gb cx nb bf inl ops (fp i) i o s=some s'∧xI cx nb bf inl ops fp Q n (listed.setIfInBounds i true) s'
variable {Q:uX→Prop}
theorem AN{i:Nat}{oi:Oper}(hi:ops[i]?=some oi)(hsub:∀b∈(fp i).wr,b∈(fp i).rd):∀(n:Nat) (listed:Array Bool) (s s1:uX),
  xF ops listed→(∀j oj,ops[j]?=some oj→j≠i→listed.getD j true=false→Reach ops j i∨mK ops i j oi oj (fp i) (fp j)=true) →
  i∈Region.ready .any ops listed→gb cx nb bf inl ops (fp i) i oi s=some s1→xI cx nb bf inl ops fp Q n (listed.setIfInBounds i true) s1→xI cx nb bf inl ops fp Q (n+1) listed s:=by
 intro n;induction n with
 | zero =>
   intro listed s s1 jQ hfree hr h1 H;refine⟨fun h=>(by rw[h] at hr;cases hr),fun j hj=>?_⟩;by_cases hji:j=i
   ·subst hji;exact⟨oi,s1,hi,h1,H⟩
   ·have:=ready_mono hj hji;rw[H.1] at this;cases this
 | succ n ih =>
   intro listed s s1 jQ hfree hr h1 H;refine⟨fun h=>(by rw[h] at hr;cases hr),fun j hj=>?_⟩;by_cases hji:j=i
   ·subst hji;exact⟨oi,s1,hi,h1,H⟩
   ·obtain⟨oj,s2,Hj,h2,H2⟩:=H.2 j (ready_mono hj hji);obtain⟨DP,LB,DQ,hall⟩:=mem_ready.1 hj;rw[Hj] at DQ;obtain rfl:=aq DQ;have hap:mK ops i j oi oj (fp i) (fp j)=true:=by
     rcases hfree j oj Hj hji DP with hw|hap
     ·exact(zd (mem_ready.1 hr).1 (hw.ready jQ hj)).elim
     ·exact hap
    obtain⟨s1',k1,k2⟩:=AM hap hsub h1 h2;refine⟨oj,s1',Hj,k1,ih (listed.setIfInBounds j true) s1' s2 (jQ.list hj) (fun k ok hk hki hun=>hfree k ok hk hki ?_) (ready_mono hr (vK hji)) k2 ?_⟩
    ·by_cases DR:j=k
     ·subst DR;exact DP
     ·rw[getD_set_ne true DR] at hun;exact hun
    ·rw[F8 _ _ hji];exact H2
end
end Go.Ge
namespace Go.Ge
open RowKit
section
variable {P:Program} {B:iy} {N:Nat} {γ:Gh} {cx:Ctx} {nb:Nat} {bf:List Nat} {inl:Nat→List au→St→Tree (au×St)} {σ σ':St} {ops:Array Oper} {fp:Nat→Fp}
theorem DW{σ:St}{d:Nat}{v:au}(h:σ.slots d=v):σ.put d v=σ:=by
 unfold St.put;obtain⟨sl,mm⟩:=σ
 congr 1
 funext t;cases hb:Nat.beq t d with
 | true=>obtain rfl:=cK hb;exact h.symm
 | false=>rfl
def Fw(cx:Ctx)(nb:Nat)(bf:List Nat)(inl:Nat→List au→St→Tree (au×St))(ops:Array Oper)(fp:Nat→Fp):Nat→List Oper→uX→uX→Prop
 | _,[],s,s'=>s=s'
 | k,o::l,s,s'=>(((fp k).sG=false→yZ cx nb o (fp k))∧((fp k).sG=true→(fp k).wr=[]))∧(∀e∈o.after,Region.binds .any e=true→e.on<k) ∧
  (∀j oj,l[j]?=some oj→Reach ops (k+1+j) k∨mK ops k (k+1+j) o oj (fp k) (fp (k+1+j))=true) ∧
  ∃s1,gb cx nb bf inl ops (fp k) k o s=some s1∧Fw cx nb bf inl ops fp (k+1) l s1 s'
theorem rD{i:Nat}{o:Oper}{f fk:Fp}{k m mk:Nat}{ok:Oper}{r:List mJ}(h:oB ops i o f m ((k,ok,fk,mk)::r)=true):(Nat.testBit m k=true∨mK ops k i ok o fk f=true)∧oB ops i o f m r=true:=by
 simp only[oB,cA,sR] at h;exact h
theorem uy{i:Nat}{o:Oper}{r:List (Nat×Oper)}{done:List mJ}{sk:Nat→Bool}(h:(jf cx nb bf inl ops ((i,o)::r) done σ sk).run=some σ') :
  ∃s1:uX,oB ops i o (kX cx nb o σ) (mask done o) done=true∧(∀e∈o.after,Region.binds .any e=true→e.on<i)∧gb cx nb bf inl ops (kX cx nb o σ) i o (σ,sk)=some s1 ∧
   (jf cx nb bf inl ops r ((i,o,kX cx nb o σ,mask done o)::done) s1.1 s1.2).run=some σ':=by
 simp only[jf] at h;obtain⟨hc,h1⟩:=ah h;simp only[cA] at hc;obtain⟨JT,Jh⟩:=hc;have IE:∀e∈o.after,Region.binds .any e=true→e.on<i:=fun e he hb=>by
  rw[←Array.all_toList,rS] at Jh;have:=Jh e (by simpa using he);rw[hb] at this;have:=rR (by simpa [Nat.blt] using this);omega
 suffices ∃s1:uX,gb cx nb bf inl ops (kX cx nb o σ) i o (σ,sk)=some s1∧(jf cx nb bf inl ops r ((i,o,kX cx nb o σ,mask done o)::done) s1.1 s1.2).run=some σ' by
  obtain⟨s1,k1,k2⟩:=this;exact⟨s1,JT,IE,k1,k2⟩
 split at h1
 ·rename_i hg;obtain⟨σ1,h2,h3⟩:=bind_some h1;refine⟨(σ1,sk),?_,h3⟩;have hd:oM ops o (σ,sk)=some true:=by unfold oM;rw[hg]
  unfold gb;rw[hd];dsimp only;rw[h2];rfl
 ·rename_i g want hg;split at h1
  ·cases h1
  ·rename_i dg HX;cases Fx:sk g with
   | true =>
     rw[Fx] at h1;refine⟨(σ.aD o.dst .undef,dB i sk),?_,h1⟩;have hd:oM ops o (σ,sk)=some false:=by unfold oM;rw[hg];dsimp only;rw[HX];dsimp only;rw[Fx];rfl
     unfold gb;rw[hd]
   | false =>
     rw[Fx] at h1;simp only[eD] at h1;split at h1
     ·rename_i c pW;change Bool at c;have hn:=dn h1;have hd:oM ops o (σ,sk)=some (c==want):=by unfold oM;rw[hg];dsimp only;rw[HX];dsimp only;rw[Fx];simp only[eD];rw[pW]
      have hput:=DW pW;have run:∀{σ1:St},(dU cx nb bf inl (kX cx nb o σ) o σ).run=some σ1→(c==want)=true→gb cx nb bf inl ops (kX cx nb o σ) i o (σ,sk)=some (σ1,sk):=fun h2 hw=>by
       unfold gb;rw[hd,hw];dsimp only;rw[h2];rfl
      have skip:(c==want)=false→gb cx nb bf inl ops (kX cx nb o σ) i o (σ,sk)=some (σ.aD o.dst .undef,dB i sk):=fun hw=>by
       unfold gb;rw[hd,hw]
      cases c with
      | true =>
        simp only[gD] at hn;rw[hput] at hn;cases want with
        | true=>obtain⟨σ1,h2,h3⟩:=bind_some hn;exact⟨(σ1,sk),run h2 rfl,h3⟩
        | false=>exact⟨_,skip rfl,hn⟩
      | false =>
        simp only[eD] at hn;rw[hput] at hn;cases want with
        | true=>exact⟨_,skip rfl,hn⟩
        | false=>obtain⟨σ1,h2,h3⟩:=bind_some hn;exact⟨(σ1,sk),run h2 rfl,h3⟩
     ·cases h1
theorem vD:∀(l:List Oper) (k:Nat) (done:List mJ) (σ:St) (sk:Nat→Bool),(∀j o,l[j]?=some o→ops[k+j]?=some o)→iL ops done→(jf cx nb bf inl ops (number k l) done σ sk).run=some σ' →
  ∃(fs:List (Fp×Nat)) (IF:Nat→Bool),fs.length=l.length∧(∀j m b,fs[j]?=some m→Nat.testBit m.2 b=true→Reach ops (k+j) b) ∧
   ∀fp:Nat→Fp,(∀j f,fs[j]?=some f→fp (k+j)=f.1)→Fw cx nb bf inl ops fp k l (σ,sk) (σ',IF)∧∀j o f,l[j]?=some o→fs[j]?=some f→oB ops (k+j) o (fp (k+j)) f.2 done=true:=by
 intro l;induction l with
 | nil =>
   intro k done σ sk _ _ h;obtain rfl:=aq h;exact⟨[],sk,rfl,fun j m b h=>absurd h (by simp),fun fp _=>⟨rfl,fun j o f hj=>absurd hj (by simp)⟩⟩
 | cons o l ih =>
   intro k done σ sk hl hm h;obtain⟨s1,h2,h3,h4,h5⟩:=uy (r:=number (k+1) l) h;have hk:ops[k]?=some o:=hl 0 o rfl;obtain⟨fs,IF,f1,fm,f2⟩:=ih (k+1) _ s1.1 s1.2 (fun j o' hj=>by have:=hl (j+1) o' (by simpa using hj);rw[←this];congr 1;omega) (hm.cons hk) h5;refine⟨(kX cx nb o σ,mask done o)::fs,IF,by simp[f1],fun j m b hj hb=>?_,fun fp CM=>?_⟩
   ·cases j with
    | zero=>obtain rfl:=aq hj;exact oL hm hk hb
    | succ j=>have:=fm j m b (by simpa using hj) hb;rw[show k+(j+1)=k+1+j by omega];exact this
   have h0:fp k=kX cx nb o σ:=CM 0 _ rfl;obtain⟨g1,g2⟩:=f2 fp fun j f hj=>by have:=CM (j+1) f (by simpa using hj);rw[←this];congr 1;omega
   refine⟨⟨⟨fun hb=>by rw[h0] at hb⊢;exact sN o σ hb,fun hb=>by rw[h0] at hb⊢;exact DS o σ hb⟩,h3,fun j oj hj=>?_,s1,by rw[h0];exact h4,g1⟩,fun j o' f hj hf=>?_⟩
   ·obtain⟨f,hf⟩:∃f,fs[j]?=some f:=⟨_,qg (by rw[f1];exact(List.getElem?_eq_some_iff.1 hj).1)⟩;rcases(rD (g2 j oj f hj hf)).1 with q|q
    ·exact .inl (fm j f k hf q)
    ·rw[h0];exact .inr q
   ·cases j with
    | zero =>
      obtain rfl:=aq hj;obtain rfl:=aq hf;rw[ow,h0];exact h2
    | succ j =>
      have:=(rD (g2 j o' f (by simpa using hj) (by simpa using hf))).2;rw[show k+(j+1)=k+1+j by omega];exact this
theorem DX{s':uX}:∀(l:List Oper) (k:Nat) (listed:Array Bool) (s:uX),(∀j,l[j]?=ops[k+j]?)→listed.size=ops.size→(∀j,j<k→j<ops.size→listed.getD j false=true) →
  (∀j,k≤j→j<ops.size→listed.getD j true=false)→xF ops listed→Fw cx nb bf inl ops fp k l s s'→xI cx nb bf inl ops fp (·=s') l.length listed s:=by
 intro l;induction l with
 | nil =>
   intro k listed s hl hs h1 h2 jQ h;refine⟨?_,h⟩;cases hr:Region.ready .any ops listed with
   | nil=>rfl
   | cons i r =>
     exfalso;have hi:i∈Region.ready .any ops listed:=by rw[hr];exact jy ..
     obtain⟨g1,o,g2,_⟩:=mem_ready.1 hi;have hlt:i<ops.size:=(Array.getElem?_eq_some_iff.1 g2).1;rcases qk i k with hk|hk
     ·have:=h1 i hk hlt;simp[hs,hlt] at this g1;rw[this] at g1;cases g1
     ·have:=hl (i-k);rw[show k+(i-k)=i by omega,g2] at this;cases this
 | cons o l ih =>
   intro k listed s hl hs h1 h2 jQ h;have hk:ops[k]?=some o:=by simpa using(hl 0).symm
   have hlt:k<ops.size:=(Array.getElem?_eq_some_iff.1 hk).1;obtain⟨c2,c3,c4,s1,c5,c6⟩:=h;have uu:k∈Region.ready .any ops listed:=mem_ready.2 ⟨h2 k (en _) hlt,o,hk,fun e he hb=>by
    have:=c3 e he hb;exact h1 e.on this (by omega)⟩
   refine AN hk (fun b hb=>by
    cases xE:(fp k).sG with
    | true=>rw[c2.2 xE] at hb;cases hb
    | false=>exact(c2.1 xE).sub b hb) l.length listed s s1 jQ (fun j oj hj hne hun=>?_) uu c5 (ih (k+1) _ s1 (fun j=>?_) (by simp[hs]) (fun j hj Hl=>?_) (fun j hj Hl=>?_) (jQ.list uu) c6)
   ·have DU:j<ops.size:=(Array.getElem?_eq_some_iff.1 hj).1;rcases qk j k with DR|DR
    ·exfalso;have:=h1 j DR DU;simp[hs,DU] at this hun;rw[this] at hun;cases hun
    ·have hq:=hl (j-k);rw[show k+(j-k)=j by omega,hj] at hq;obtain⟨m,hm⟩:∃m,j-k=m+1:=⟨j-k-1,by omega⟩;rw[hm] at hq;have:=c4 m oj (by simpa using hq);rw[show k+1+m=j by omega] at this;exact this
   ·have:=hl (j+1);rw[show k+1+j=k+(j+1) by omega,←this];simp
   ·by_cases e:j=k
    ·subst e;simp[hs,hlt]
    ·rw[getD_set_ne false (vK e)];exact h1 j (by omega) Hl
   ·rw[getD_set_ne true (by omega:k≠j)];exact h2 j (by omega) Hl
theorem AO(hkeep:∀f vals σ v σ',(inl f vals σ).run=some (v,σ')→aH σ σ'):∀(l:List Oper) (k:Nat) (done:List mJ) (σ σ':St) (sk:Nat→Bool),(jf cx nb bf inl ops (number k l) done σ sk).run=some σ'→aH σ σ':=by
 intro l;induction l with
 | nil=>intro k done σ σ' sk h;obtain rfl:=aq h;exact aH.refl _
 | cons o l ih =>
   intro k done σ σ' sk h;obtain⟨s1,h2,h3,h4,h5⟩:=uy (r:=number (k+1) l) h;refine aH.trans ?_ (ih _ _ _ _ _ h5);unfold gb at h4;split at h4
   ·cases h4
   ·obtain⟨σ1,q1,rfl⟩:=Option.map_eq_some_iff.1 h4;exact mV hkeep σ1 (nJ (fun hb=>sN o σ hb) q1)
   ·obtain rfl:=aq h4;exact aH.aD _ _ _
end
end Go.Ge
namespace Go.Ge
open RowKit
section
variable {P:Program} {B:iy} {N:Nat} {γ:Gh} {cx:Ctx} {nb:Nat} {bf:List Nat} {inl:Nat→List au→St→Tree (au×St)} {σ σ':St} {ops:Array Oper} {fp:Nat→Fp}
theorem AP{l:List Oper}{j:Nat}{o:Oper}{d:Nat}(h:l[j]?=some o)(hd:o.dst=some d):d∈eZ.qp l:=by
 induction l generalizing j with
 | nil=>cases h
 | cons p l ih =>
   cases j with
   | zero=>obtain rfl:=aq h;simp only[eZ.qp,hd];exact jy ..
   | succ j =>
     have:=ih (j:=j) (by simpa using h);simp only[eZ.qp];split
     ·exact jx _ this
     ·exact this
theorem uz:∀{l:List Oper},eZ l=true→∀{i j:Nat} {x y:Oper} {d:Nat},i<j→l[i]?=some x→l[j]?=some y→x.dst=some d→y.dst≠some d:=by
 intro l;induction l with
 | nil=>intro _ i j x y d _ h;cases h
 | cons p l ih =>
   intro h i j x y d hij hx hy hd he;simp only[eZ,cA] at h;obtain⟨m,rfl⟩:∃m,j=m+1:=⟨j-1,by omega⟩;have hy':l[m]?=some y:=by simpa using hy
   cases i with
   | zero =>
     obtain rfl:=aq hx;have h1:=h.1;rw[hd] at h1;simp only[ny] at h1;exact eI.1 h1 (AP hy' he)
   | succ i=>exact ih h.2 (i:=i) (j:=m) (by omega) (by simpa using hx) hy' hd he
theorem AQ(h:eZ ops.toList=true){i j:Nat}{x y:Oper}{d:Nat}(hij:i≠j)(hx:ops[i]?=some x)(hy:ops[j]?=some y)(hd:x.dst=some d):y.dst≠some d:=by
 rcases Nat.lt_or_gt_of_ne hij with h1|h1
 ·exact uz h h1 (by simpa using hx) (by simpa using hy) hd
 ·intro he;exact uz h h1 (by simpa using hy) (by simpa using hx) he hd
def AR(ops:Array Oper)(sk:Nat→Bool)(listed:Array Bool)(a:Act):Prop:=∀k,sk k=true→yielded ops a.tmps k=none∧listed.getD k true=true
theorem j9{a:Act}{i k:Nat}{o:Oper}{v:Value}(hnt:eZ ops.toList=true)(hi:ops[i]?=some o)(hne:k≠i):yielded ops (a.put o.dst v).tmps k=yielded ops a.tmps k:=by
 unfold yielded;cases hk:ops[k]? with
 | none=>rfl
 | some y =>
   simp only[wE];cases hd:y.dst with
   | none=>rfl
   | some dk =>
     simp only[wE];have:o.dst≠some dk:=AQ hnt hne hk hi hd;rw[cV this]
theorem AR.run{sk:Nat→Bool}{listed:Array Bool}{a:Act}{i:Nat}{o:Oper}{v:Value}(h:AR ops sk listed a)(hnt:eZ ops.toList=true)(hi:ops[i]?=some o)(hl:listed.getD i true=false):AR ops sk (listed.setIfInBounds i true) (a.put o.dst v):=fun k hk=>by
 obtain⟨h1,h2⟩:=h k hk;have hne:k≠i:=fun e=>by subst e;rw[h2] at hl;cases hl
 exact⟨by rw[j9 hnt hi hne];exact h1,by rw[getD_set_ne true (vK hne)];exact h2⟩
theorem AR.skip{sk:Nat→Bool}{listed:Array Bool}{a:Act}{i:Nat}{o:Oper}(h:AR ops sk listed a)(hnt:eZ ops.toList=true)(hi:ops[i]?=some o)(hl:listed.getD i true=false):AR ops (dB i sk) (listed.setIfInBounds i true) (a.put o.dst Go.undef):=fun k hk=>by
 by_cases hne:k=i
 ·subst hne;refine⟨pU hi,?_⟩;rcases qk k listed.size with h'|h'
  ·simp[h']
  ·simp[CS h'] at hl
 ·have hk':sk k=true:=by
   simp only[dB,ec hne,BN] at hk;exact hk
  obtain⟨h1,h2⟩:=h k hk';exact⟨by rw[j9 hnt hi hne];exact h1,by rw[getD_set_ne true (vK hne)];exact h2⟩
theorem vE(hc:dy P cx)(cQ:ia P B.G cx)(fD:jY P B.G inl){Q:Exit→Act→World→Prop}(hnt:eZ ops.toList=true)(CM:∀i o,ops[i]?=some o→(fp i).sG=false→yZ cx nb o (fp i))
  (hd:∀o∈ops.toList,∀k,o.dst=some k→k<N):∀(n:Nat) (listed:Array Bool) (s:uX) (γ:Gh) (a:Act) (w:World),xI cx nb bf inl ops fp (fun s=>s.1=σ') n listed s→bP B N γ s.1 a w→AR ops s.2 listed a →
   (∀γ' a' w',bP B N γ' σ' a' w'→Ext B γ s.1.mem w γ' σ'.mem w'→Fr (number 0 ops.toList) a a'→Q .normal a' w')→wpAny P .any ops Q n listed a w:=by
 intro n;induction n with
 | zero =>
   intro listed s γ a w h hs Fx hK;obtain⟨h1,h2⟩:=h;rw[←h2] at hK;exact⟨h1,hK γ a w hs (Ext.refl _ _ _ _) fun t _=>rfl⟩
 | succ n ih =>
   intro listed s γ a w h hs Fx hK;refine⟨fun h0=>?_,fun i hi=>?_⟩
   ·have h2:=h.1 h0;rw[←h2] at hK;exact hK γ a w hs (Ext.refl _ _ _ _) fun t _=>rfl
   ·obtain⟨o,s1,h1,h3,h4⟩:=h.2 i hi;have hun:=(mem_ready.1 hi).1;have hmem:o∈ops.toList:=by
     have:=GO h1;simpa using this
    have Bt:(i,o)∈number 0 ops.toList:=by
     have:=uv (l:=ops.toList) (k:=0) (j:=i) (o:=o) (by simpa using h1);simpa using this
    have hw:∀b,oM ops o s=some b→Region.wanted o (yielded ops a.tmps)=b:=by
     intro b hb;unfold oM at hb;cases hgd:o.guard with
     | none =>
       rw[hgd] at hb;obtain rfl:=aq hb;unfold Region.wanted;rw[hgd]
     | some p =>
       obtain⟨g,want⟩:=p;rw[hgd] at hb;dsimp only at hb;split at hb
       ·cases hb
       ·rename_i dg HX;cases hg:s.2 g with
        | true =>
          rw[hg] at hb;obtain rfl:=aq hb;unfold Region.wanted;rw[hgd];simp only[(Fx g hg).1];rfl
        | false =>
          rw[hg] at hb;simp only[eD] at hb;split at hb
          ·rename_i c pW;change Bool at c;obtain rfl:=aq hb;have ht:=rB hs pW;unfold Region.wanted;rw[hgd];simp only[yielded,HX,wE,ht];cases c<;>cases want<;>rfl
          ·cases hb
    unfold wpOp;rw[h1];dsimp only;unfold gb at h3;split at h3
    ·cases h3
    ·rename_i Ho;obtain⟨σ1,q1,rfl⟩:=Option.map_eq_some_iff.1 h3;rw[hw true Ho];simp only[iP];refine .inl (tX hc cQ fD hs (hd o hmem) (nJ (CM i o h1) q1) fun dX v w1 s1 x1=>?_);refine ih _ (σ1,s.2) dX _ w1 h4 s1 (Fx.run hnt h1 hun) fun nY a2 w2 s2 x2 f2=>hK nY a2 w2 s2 (x1.trans x2) fun t ht=>?_;rw[f2 t ht,cV (uw ht Bt)]
    ·rename_i Ho;obtain rfl:=aq h3;rw[hw false Ho];simp only[zM,sS];have hs1:bP B N γ (s.1.aD o.dst .undef) (a.put o.dst Go.undef) w:=hs.lf (hd o hmem) ⟨_,rfl⟩;have hm:(s.1.aD o.dst .undef).mem=s.1.mem:=by cases o.dst<;>rfl
     refine ih _ (s.1.aD o.dst .undef,dB i s.2) γ _ w h4 hs1 (Fx.skip hnt h1 hun) fun nY a2 w2 s2 x2 f2=>hK nY a2 w2 s2 (by rw[←hm];exact x2) fun t ht=>?_;rw[f2 t ht,cV (uw ht Bt)]
theorem xI.mono{Q Q':uX→Prop}(hq:∀s,Q s→Q' s):∀{n:Nat} {listed:Array Bool} {s:uX},xI cx nb bf inl ops fp Q n listed s→xI cx nb bf inl ops fp Q' n listed s:=by
 intro n;induction n with
 | zero=>intro listed s h;exact⟨h.1,hq _ h.2⟩
 | succ n ih =>
   intro listed s h;refine⟨fun h0=>hq _ (h.1 h0),fun i hi=>?_⟩;obtain⟨o,s',h1,h2,h3⟩:=h.2 i hi;exact⟨o,s',h1,h2,ih h3⟩
theorem xJ(lD:P.follows .mixedOrders=true)(hc:dy P cx)(cQ:ia P B.G cx)(fD:jY P B.G inl){Q:Exit→Act→World→Prop}{id:Nat}{a:Act}{w:World}(hnt:eZ ops.toList=true)
  (hd:∀o∈ops.toList,∀k,o.dst=some k→k<N) (hr:(jf cx nb bf inl ops (number 0 ops.toList) [] σ (fun _=>false)).run=some σ') (h:bP B N γ σ a w)
  (hK:∀γ' a' w',bP B N γ' σ' a' w'→Ext B γ σ.mem w γ' σ'.mem w'→Fr (number 0 ops.toList) a a'→Q .normal a' w'):(Code.region id ops true).wp P Q a w:=by
 refine wp_region_any lD ?_;obtain⟨fs,IF,f1,fm,f2⟩:=vD (ops:=ops) ops.toList 0 [] σ (fun _=>false) (fun j o hj=>by simpa using hj) iL.nil hr
 let fp:Nat→Fp:=fun i=>(fs[i]?.map (·.1)).getD ⟨[],[],true,none⟩
 obtain⟨g1,_⟩:=f2 fp fun j f hj=>by simp[fp,hj]
 have key:∀(l:List Oper) (k:Nat) (s s':uX),Fw cx nb bf inl ops fp k l s s'→∀j o,l[j]?=some o→(fp (k+j)).sG=false→yZ cx nb o (fp (k+j)):=by
  intro l;induction l with
  | nil=>intro k s s' _ j o hj;cases hj
  | cons o l ih =>
    intro k s s' hL j o' hj;obtain⟨c2,c3,c4,s1,c5,c6⟩:=hL;cases j with
    | zero=>obtain rfl:=aq hj;exact c2.1
    | succ j=>rw[show k+(j+1)=k+1+j by omega];exact ih (k+1) s1 s' c6 j o' (by simpa using hj)
 have hA:=DX (ops:=ops) (cx:=cx) (nb:=nb) (bf:=bf) (inl:=inl) (fp:=fp) (s':=(σ',IF)) ops.toList 0 (Array.replicate ops.size false) (σ,fun _=>false) (by simp) (by simp) (fun j hj=>by omega)
  (fun j _ hj=>by simp[hj]) (fun i o e hi=>by
   exfalso;rcases qk i ops.size with h'|h'<;>simp[h'] at hi) g1
 have LC:=xI.mono (Q':=fun s:uX=>s.1=σ') (fun s hs=>by rw[hs]) hA;obtain⟨s1,x1⟩:=h.draw (w.drawn+1);refine vE hc cQ fD hnt (fun i o hi=>by have:=key _ 0 _ _ g1 i o (by simpa using hi);simpa using this) hd _ _ (σ,fun _=>false) γ a _ (by simpa using LC) s1 (fun k hk=>by cases hk) fun γ' a' w' s x f=>hK γ' a' w' s (x1.trans x) f
theorem zh(lD:P.follows .mixedOrders=true)(hc:dy P cx)(cQ:ia P B.G cx)(fD:jY P B.G inl){Q:Exit→Act→World→Prop}{id:Nat}{a:Act}{w:World}
  (hd:∀o∈ops.toList,∀k,o.dst=some k→k<N) (hr:(kZ cx nb bf inl ops σ).run=some σ') (h:bP B N γ σ a w)
  (hK:∀γ' a' w',bP B N γ' σ' a' w'→Ext B γ σ.mem w γ' σ'.mem w'→Fr (number 0 ops.toList) a a'→Q .normal a' w'):(Code.region id ops true).wp P Q a w:=by
 unfold kZ at hr;cases hg:ops.any fun o=>o.guard.isSome with
 | true =>
   rw[hg] at hr;obtain⟨hnt,hr2⟩:=ah (show(bif eZ ops.toList then jf cx nb bf inl ops (number 0 ops.toList) [] σ (fun _=>false) else .fail).run=some σ' from hr);exact xJ lD hc cQ fD hnt hd hr2 h hK
 | false =>
   rw[hg] at hr;exact xH lD hc cQ fD hd hr h hK
end
end Go.Ge
namespace Go.Ge
open RowKit
def jn(f:Nat→aR→Bool)(mem:Nat→Option aR):Nat→Option aR:=fun b=>match mem b with|some bx=>some { bx with lk:=f b bx }|none=>none
section
variable {P:Program} {B:iy} {N:Nat} {γ CR:Gh} {mem m0 me m1:Nat→Option aR} {w w0:World} {f:Nat→aR→Bool}
theorem we{b:Nat}{bx:aR}(h:mem b=some bx):jn f mem b=some { bx with lk:=f b bx }:=by simp[jn,h]
theorem zi{b:Nat}{bx:aR}(h:jn f mem b=some bx):∃bT,mem b=some bT∧bx={ bT with lk:=f b bT }:=by
 simp only[jn] at h;split at h
 ·rename_i bT h0;exact⟨bT,h0,(aq h).symm⟩
 ·cases h
theorem Ext.jn:Ext B γ mem w γ (jn f mem) w where
 below:=jI.refl _ _
 I:=fun _ _ h=>h
 jK:=fun _ _ h=>.inl h
 cells:=fun _ _ _=>rfl
 boxes:=fun b bx hb=>⟨_,we hb,en _,fun _=>⟨rfl,rfl,rfl⟩⟩
theorem aN.jn(h:aN B γ mem w):aN B γ (Go.Ge.jn f mem) w:=by
 have hne:∀{b},Go.Ge.jn f mem b≠none→mem b≠none:=by
  intro b hb hq;apply hb;simp[Go.Ge.jn,hq]
 exact
  { b6:=h.b6
    base:=h.base
    boxes:=fun b bx hb=>by
     obtain⟨bT,h0,rfl⟩:=zi hb;exact(h.boxes b bT h0).keep (Ext.jn (B:=B) (γ:=γ) (w:=w) (f:=f) (mem:=mem)) rfl (fun _ _ _=>rfl)
    inj:=fun b c blk k k' hb hc h1 h2=>h.inj b c blk k k' (hne hb) (hne hc) h1 h2
    fresh:=fun b blk k hb h1=>h.fresh b blk k (hne hb) h1
    jJ:=h.jJ
    sep:=fun b bx blk k off hb h1 hi=>by
     obtain⟨bT,h0,rfl⟩:=zi hb;exact h.sep b bT blk k off h0 h1 hi }
theorem bP.jn{σ:St}{a:Act}(h:bP B N γ σ a w):bP B N γ { σ with mem:=Go.Ge.jn f σ.mem } a w:=h.go Ext.jn h.ok.jn
def Mid(m0 me m1:Nat→Option aR):Prop:=∀b bT,m0 b=some bT→∃ke,m1 b=some ke∧bT.ag≤ke.ag ∧
 (ke.ag=bT.ag→∃mB,me b=some mB∧mB.ag=bT.ag∧mB.buf=ke.buf∧mB.row=ke.row)
theorem fI.down(hm:Mid m0 me m1){b ag:Nat}{K0 K K':aR→Prop}(h0:fI m0 b ag K0)(h:fI me b ag K)(hK:∀mB ke:aR,mB.buf=ke.buf→mB.row=ke.row→K mB→K' ke):fI m1 b ag K':=by
 obtain⟨bT,h1,h2,_⟩:=h0;obtain⟨mB,k1,k2,k3⟩:=h;obtain⟨ke,l1,l2,l3⟩:=hm b bT h1;refine⟨ke,l1,by omega,fun e=>?_⟩;obtain⟨JU,q1,q2,q3,q4⟩:=l3 (by omega);rw[k1] at q1;obtain rfl:=aq q1;exact hK mB ke q3 q4 (k3 (by omega))
theorem br.down(hm:Mid m0 me m1):∀{v:au} {m:Mode} {us vs:List Value},br CR m0 w0 v m us→br γ me w v m vs→br γ m1 w v m vs:=by
 intro v;induction v with
 | undef=>intro m us vs _ r;cases m<;>exact r
 | data t x=>intro m us vs _ r;cases m<;>exact r
 | gk=>intro m us vs _ r;cases m<;>exact r
 | ij=>intro m us vs _ r;cases m<;>exact r
 | cell t x=>intro m us vs _ r;cases m<;>exact r
 | nl=>intro m us vs _ r;cases m<;>exact r
 | iQ=>intro m us vs _ r;cases m<;>exact r
 | jV b ag =>
   intro m us vs r0 r;cases m with
   | many=>exact r
   | cells=>exact⟨r.1,r0.2.down hm r.2 fun _ _ _ _ k=>k⟩
   | val=>exact⟨r.1,r0.2.down hm r.2 fun _ _ _ _ k=>k⟩
 | ptr b ag p =>
   intro m us vs r0 r;cases m with
   | many=>exact r
   | cells=>exact⟨r.1,r0.2.down hm r.2 fun _ _ _ _ k=>k⟩
   | val=>exact⟨r.1,r0.2.down hm r.2 fun _ _ _ _ k=>k⟩
 | whole b ag =>
   intro m us vs r0 r;cases m with
   | many=>exact r
   | cells=>exact⟨r.1,r0.2.down hm r.2 fun _ _ e1 e2 k=>by rw[←e1,←e2];exact k⟩
   | val=>exact⟨r.1,r0.2.down hm r.2 fun _ _ e1 e2 k=>by rw[←e1,←e2];exact k⟩
 | part b ag lo n =>
   intro m us vs r0 r;cases m with
   | many=>exact r
   | cells=>exact⟨r.1,r0.2.down hm r.2 fun _ _ e1 e2 k=>by unfold o8 at k⊢;rw[←e1,←e2];exact k⟩
   | val=>exact⟨r.1,r0.2.down hm r.2 fun _ _ e1 e2 k=>by unfold o8 at k⊢;rw[←e1,←e2];exact k⟩
 | win b ag q e k lo n =>
   intro m us vs r0 r;cases m with
   | many=>exact r
   | cells=>exact⟨r.1,r0.2.down hm r.2 fun _ _ e1 e2 k=>k⟩
   | val=>exact⟨r.1,r0.2.down hm r.2 fun _ _ e1 e2 k=>k⟩
 | fn f caps =>
   intro m us vs r0 r;cases m with
   | many=>exact r
   | cells=>obtain⟨_,_,_,s⟩:=r0;obtain⟨arr,r1,r2,r3⟩:=r;exact⟨arr,r1,r2,fun i b ag hc=>(s i b ag hc).down hm (r3 i b ag hc) fun _ _ _ _ k=>k⟩
   | val=>obtain⟨_,_,_,s⟩:=r0;obtain⟨arr,r1,r2,r3⟩:=r;exact⟨arr,r1,r2,fun i b ag hc=>(s i b ag hc).down hm (r3 i b ag hc) fun _ _ _ _ k=>k⟩
 | mix a b eN fE =>
   intro m us vs r0 r;cases m with
   | cells=>obtain⟨_,_,_,s1,s2⟩:=r0;obtain⟨c1,c2,r0,r1,r2⟩:=r;exact⟨c1,c2,r0,eN s1 r1,fE s2 r2⟩
   | val=>obtain⟨_,_,_,s1,s2⟩:=r0;obtain⟨c1,c2,r0,r1,r2⟩:=r;exact⟨c1,c2,r0,eN s1 r1,fE s2 r2⟩
   | many=>obtain⟨_,_,_,s1,s2⟩:=r0;obtain⟨c1,c2,r0,r1,r2⟩:=r;exact⟨c1,c2,r0,eN s1 r1,fE s2 r2⟩
 | jT u ih =>
   intro m us vs r0 r;cases m with
   | val=>obtain⟨_,_,s⟩:=r0;obtain⟨arr,r1,r2⟩:=r;exact⟨arr,r1,ih s r2⟩
   | cells=>exact r
   | many=>exact r
def DY(M V:Nat→Bool)(m0 me m1:Nat→Option aR):Prop:=∀b bT,m0 b=some bT→∃mB ke,me b=some mB∧m1 b=some ke∧mB.buf=bT.buf∧ke.buf=bT.buf∧ke.row=mB.row ∧
 ke.ag=(bif M b&&(bT.buf||V b) then bT.ag+1 else bT.ag)∧((M b&&(bT.buf||V b))=false→mB.ag=bT.ag)
theorem DY.mid{M V:Nat→Bool}(h:DY M V m0 me m1):Mid m0 me m1:=fun b bT hb=>by
 obtain⟨mB,ke,h1,h2,h3,h4,h5,h6,h7⟩:=h b bT hb;cases hc:(M b&&(bT.buf||V b)) with
 | true =>
   rw[hc] at h6;simp only[gD] at h6;exact⟨ke,h2,by omega,fun e=>absurd e (by omega)⟩
 | false =>
   rw[hc] at h6;simp only[eD] at h6;exact⟨ke,h2,by omega,fun e=>⟨mB,h1,h7 hc,h3.trans h4.symm,h5.symm⟩⟩
def uA:Sh→au→Prop
 | .d _,_=>True
 | .k v,u=>v=u
 | .m a b,u=>∃p q,u=.mix p q∧uA a p∧uA b q
theorem Fy(v:au):uA (EX v) v:=by
 induction v with
 | mix a b eN fE=>exact⟨a,b,rfl,eN,fE⟩
 | data t x=>trivial
 | _=>rfl
theorem DZ{t:Ty}{v:au}{y:t.den}(h:BS t v=some y){m:Mode}{vs:List Value}(hv:br γ me w v m vs):br γ m1 w (.data t y) m vs:=by
 unfold BS at h;split at h
 ·obtain⟨q,hq⟩:=Ty.eW h;subst q;subst hq;cases m<;>exact hv
 ·split at h
  ·obtain rfl:=aq h;cases m with
   | many=>exact hv
   | cells=>exact .inl ⟨⟨none,hv⟩,rfl⟩
   | val=>exact⟨[.slice none 0 0],.inl ⟨⟨none,rfl⟩,rfl⟩,(show vs=[Value.slice none 0 0] from hv)⟩
  ·cases h
 ·cases h
theorem zj{M V:Nat→Bool}{eR gJ:St}(hc:DY M V eR.mem gJ.mem m1)(hV:∀b x,V b=true→eR.mem b=some x→x.buf=false){u v:au}(hs:lP V eR gJ u v=true){m:Mode}{us vs:List Value}(h0:br CR eR.mem w0 u m us)(he:br γ gJ.mem w v m vs) :
  br γ m1 w (bump M V u) m vs:=by
 unfold lP at hs;split at hs
 ·rename_i b ag p b' Aa p';simp only[cA] at hs;obtain⟨⟨h1,h3⟩,h2⟩:=hs;obtain rfl:=cK h1;obtain rfl:=zV h3;have still:ag=Aa→(M b&&V b)=false→br γ m1 w (bump M V (.ptr b ag p)) m vs:=by
   intro e q;subst e;have e:bump M V (.ptr b ag p)=.ptr b ag p:=by simp only[bump,q];rfl
   rw[e];exact br.down hc.mid h0 he
  cases IG:V b with
  | false =>
    rw[IG] at h2;exact still (cK h2) (by simp[IG])
  | true =>
    rw[IG] at h2;simp only[gD] at h2;split at h2
    ·rename_i x y hx hy;simp only[cA] at h2;have h4:=cK h2.1;have h5:=cK h2.2;obtain⟨mB,ke,g1,g2,g3,g4,g5,g6,g7⟩:=hc b x hx;rw[hy] at g1;obtain rfl:=aq g1;cases hM:M b with
     | false=>exact still (by have:=g7 (by simp[hM]);omega) (by simp[hM])
     | true =>
       have e:bump M V (.ptr b ag p)=.ptr b (ag+1) p:=by simp only[bump,hM,IG];rfl
       have hv1:ke.ag=ag+1:=by rw[g6,hM,IG];simp;omega
       rw[e];cases m with
       | many=>exact he
       | cells=>exact⟨he.1,ke,g2,by omega,fun _=>aF hy h5 he.2⟩
       | val=>exact⟨he.1,ke,g2,by omega,fun _=>aF hy h5 he.2⟩
    ·cases h2
 ·rename_i b ag b' Aa;simp only[cA] at hs;obtain⟨h1,h2⟩:=hs;obtain rfl:=cK h1;split at h2
  ·rename_i x y hx hy;simp only[cA] at h2;obtain⟨⟨h3,h4⟩,h5⟩:=h2;have h3:=cK h3;have h4:=cK h4;obtain⟨mB,ke,g1,g2,g3,g4,g5,g6,g7⟩:=hc b x hx;rw[hy] at g1;obtain rfl:=aq g1;have Kz:x.buf=true:=by rw[←g3];exact h5
   have key:∀v1,ke.ag=v1→((∃v,vs=[v]∧v.oneCell'=true)∧fI gJ.mem b Aa fun bx=>∃e n,bx.buf=true∧bx.row=some (e,n) ∧
     ((γ.loc b=none∧vs=[.slice none 0 0])∨∃blk cap,γ.loc b=some (blk,cap)∧vs=[.slice (some ⟨blk,0,none⟩) n cap])) →
     ((∃v,vs=[v]∧v.oneCell'=true)∧fI m1 b v1 fun bx=>∃e n,bx.buf=true∧bx.row=some (e,n) ∧
     ((γ.loc b=none∧vs=[.slice none 0 0])∨∃blk cap,γ.loc b=some (blk,cap)∧vs=[.slice (some ⟨blk,0,none⟩) n cap])):=by
    intro v1 hv1 hr;have hk:=aF hy h4 hr.2;exact⟨hr.1,ke,g2,by omega,fun _=>by obtain⟨e,n,q1,q2,q3⟩:=hk;exact⟨e,n,g4.trans Kz,g5.trans q2,q3⟩⟩
   have hv1:∃v1,bump M V (.whole b ag)=.whole b v1∧ke.ag=v1:=by
    unfold bump;cases hM:M b with
    | true=>exact⟨ag+1,by simp[hM],by rw[g6,hM,Kz,←h3];rfl⟩
    | false=>exact⟨ag,by simp[hM],by rw[g6,hM,←h3];rfl⟩
   obtain⟨v1,e1,e2⟩:=hv1;rw[e1];cases m with
   | many=>exact he
   | cells=>exact key v1 e2 he
   | val=>exact key v1 e2 he
  ·cases h2
 ·rename_i f caps f' KA;simp only[cA] at hs;obtain rfl:=cK hs.1;obtain rfl:=zW hs.2;exact br.down hc.mid h0 he
 ·cases m<;>exact he
 ·cases m<;>exact he
 ·simp only[cA] at hs;obtain rfl:=cK hs.1;obtain rfl:=cK hs.2;exact br.down hc.mid h0 he
 ·cases hs
theorem D0{V:Nat→Bool}{eR σ:St}{u v:au}:Sh.out V eR σ (.k u) v=bif lP V eR σ u v then some () else none:=rfl
theorem II{V:Nat→Bool}{eR σ:St}{a b:Sh}{v w:au}:Sh.out V eR σ (.m a b) (.mix v w)=(match Sh.out V eR σ a v,Sh.out V eR σ b w with
 | some x,some y=>some ((x,y):(Sh.m a b).ty.den)
 | _,_=>none):=rfl
theorem Bu{M V:Nat→Bool}{eR gJ:St}(hc:DY M V eR.mem gJ.mem m1)(hV:∀b x,V b=true→eR.mem b=some x→x.buf=false):∀{s:Sh} {u v:au} {y:s.ty.den} {m:Mode} {us vs:List Value},uA s u→Sh.out V eR gJ s v=some y →
  br CR eR.mem w0 u m us→br γ gJ.mem w v m vs→br γ m1 w (s.iH M V y) m vs:=by
 intro s;induction s with
 | d t=>intro u v y m us vs _ ho _ he;exact DZ ho he
 | k x =>
   intro u v y m us vs hk ho h0 he;obtain rfl:=hk;rw[D0] at ho;cases hs:lP V eR gJ x v with
   | false=>rw[hs] at ho;cases ho
   | true=>exact zj hc hV hs h0 he
 | m a b eN fE =>
   intro u v y m us vs hk ho h0 he;obtain⟨p,q,rfl,k1,k2⟩:=hk;cases v with
   | mix v1 v2 =>
     rw[II] at ho;split at ho
     ·rename_i y1 y2 o1 o2;obtain rfl:=aq ho;cases m with
      | cells=>obtain⟨_,_,_,s1,s2⟩:=h0;obtain⟨c1,c2,r0,r1,r2⟩:=he;exact⟨c1,c2,r0,eN k1 o1 s1 r1,fE k2 o2 s2 r2⟩
      | val=>obtain⟨_,_,_,s1,s2⟩:=h0;obtain⟨c1,c2,r0,r1,r2⟩:=he;exact⟨c1,c2,r0,eN k1 o1 s1 r1,fE k2 o2 s2 r2⟩
      | many=>obtain⟨_,_,_,s1,s2⟩:=h0;obtain⟨c1,c2,r0,r1,r2⟩:=he;exact⟨c1,c2,r0,eN k1 o1 s1 r1,fE k2 o2 s2 r2⟩
     ·cases ho
   | _=>cases ho
theorem Cl{t:Ty}{v:au}{y:t.den}(h:BS t v=some y):(v=.data t y)∨(v=.gk∧∃e,t=.slice e):=by
 unfold BS at h;split at h
 ·obtain⟨q,hq⟩:=Ty.eW h;subst q;subst hq;exact .inl rfl
 ·split at h
  ·exact .inr ⟨rfl,_,rfl⟩
  ·cases h
 ·cases h
theorem Bw{M V:Nat→Bool}{eR gJ:St}{s:Sh}{mB ke:aR}{y:s.ty.den}(ho:Sh.out V eR gJ s mB.val=some y)(hv:ke.val=s.iH M V y)(hb:ke.buf=mB.buf)(aQ:mB.buf=true→∃e l,mB.val=.data (.slice e) l) :
  ke.row=mB.row∧(mB.buf=true→ke.val=mB.val):=by
 have IJ:∀t x,mB.val=.data t x→ke.val=mB.val:=by
  intro t x hx;rw[hx] at ho;cases s with
  | d u =>
    obtain⟨q,hq⟩:=Ty.eW (show Ty.to t u x=some y from ho);subst q;subst hq;rw[hv,hx];rfl
  | k z=>rw[D0] at ho;unfold lP at ho;cases z<;>cases ho
  | m a b=>cases ho
 have hrow:∀{b1 b2:aR},b1.buf=b2.buf→b1.val=b2.val→b1.row=b2.row:=by
  intro b1 b2 h1 h2;unfold aR.row;rw[h1,h2]
 cases hx:mB.val with
 | data t x =>
   have:=IJ t x hx;exact⟨hrow hb this,fun _=>by rw[this,hx]⟩
 | _ =>
   refine⟨?_,fun h=>by obtain⟨e,l,q⟩:=aQ h;rw[hx] at q;cases q⟩;cases hq:mB.buf with
   | true=>obtain⟨e,l,q⟩:=aQ hq;rw[hx] at q;cases q
   | false =>
     have e1:mB.row=none:=by unfold aR.row;rw[hq,hx]
     rw[e1];unfold aR.row;rw[hb,hq,hv];rw[hx] at ho;cases s with
     | d u =>
       rcases Cl (show BS u _=some y from ho) with q|⟨q,e,rfl⟩
       ·first|cases q|exact absurd hx (by rw[q];intro k;cases k)
       ·rfl
     | k z =>
       rw[D0] at ho;simp only[Sh.iH];have hnd:∀t x,bump M V z≠.data t x:=by
        intro t x q;cases z with
        | data t' x'=>unfold lP at ho;cases ho
        | whole b v=>simp only[bump] at q;cases hM:M b<;>rw[hM] at q<;>cases q
        | ptr b v p=>simp only[bump] at q;cases hM:(M b&&V b)<;>rw[hM] at q<;>cases q
        | _=>cases q
       split<;>first|rfl|(rename_i hh;exact absurd hh (hnd _ _))
     | m a b=>rfl
end
end Go.Ge
namespace Go.Ge
open RowKit
section
variable {P:Program} {B:iy} {N:Nat} {γ CR:Gh} {w w0:World} {eR gJ:St} {a a0:Act} {M V:Nat→Bool}
theorem D1:∀{l:List (Nat×Sh)} {x:(HL l).den},EY V eR gJ l=some x→∀t,(wM M V l x t=none∧∀s,(t,s)∉l)∨∃s y,(t,s)∈l∧Sh.out V eR gJ s (gJ.slots t)=some y∧wM M V l x t=some (s.iH M V y):=by
 intro l;induction l with
 | nil=>intro x _ t;exact .inl ⟨rfl,fun s h=>by cases h⟩
 | cons p r ih =>
   obtain⟨i,s⟩:=p;intro x h t;simp only[EY] at h;split at h
   ·rename_i y z h1 h2;obtain rfl:=aq h;by_cases e:t=i
    ·subst e;refine .inr ⟨s,y,jy ..,h1,?_⟩;show(bif Nat.beq t t then some (s.iH M V y) else wM M V r z t)=_
     simp
    ·have hb:Nat.beq t i=false:=ec e;have hq:wM M V ((i,s)::r) ((y,z):(HL ((i,s)::r)).den) t=wM M V r z t:=by
      show(bif Nat.beq t i then some (s.iH M V y) else wM M V r z t)=_
      rw[hb];rfl
     rw[hq];rcases ih h2 t with ⟨k1,k2⟩|⟨s',y',k1,k2,k3⟩
     ·refine .inl ⟨k1,fun s' hm=>?_⟩;rcases List.mem_cons.1 hm with hm|hm
      ·exact e (bY hm).1
      ·exact k2 s' hm
     ·exact .inr ⟨s',y',jx _ k1,k2,k3⟩
   ·cases h
theorem oN{fz mv:Bool}{bx b:aR}(h:qU fz mv bx b=true):(bx.ro=true→(b.ro||fz)=true)∧bx.buf=b.buf∧((b.buf||mv)=false→bx.ag=b.ag):=by
 simp only[qU,cA,sR,beq_iff_eq] at h;obtain⟨⟨⟨h1,h2⟩,h3⟩,h4⟩:=h;refine⟨fun hr=>by rcases h1 with h1|h1<;>simp[h1,←hr],h3,fun hb=>?_⟩;obtain⟨hb,hm⟩:=Bool.or_eq_false_iff.1 hb;rcases h4 with (h4|h4)|h4
 ·rw[h3,hb] at h4;cases h4
 ·rw[hm] at h4;cases h4
 ·exact cK h4
theorem Cm{fz mv:Bool}{bx b:aR}(h:qU fz mv bx b=true):bx.tid=b.tid:=by
 simp only[qU,cA] at h;exact cK h.1.1.2
theorem zk{fz:Bool}:∀{l:List (Nat×Sh×aR)} {x:(GV l).den},EZ V fz eR gJ l=some x→∀t,(s7 fz M V l x t=none∧jF l t=false) ∨
  ∃s b y bx,jF l t=true∧(t,s,b)∈l∧gJ.mem t=some bx∧qU fz (V t) bx b=true∧Sh.out V eR gJ s bx.val=some y∧s7 fz M V l x t=some { b with val:=s.iH M V y,ro:=b.ro||fz,ag:=bif b.buf||V t then b.ag+1 else b.ag }:=by
 intro l;induction l with
 | nil=>intro x _ t;exact .inl ⟨rfl,rfl⟩
 | cons p r ih =>
   obtain⟨i,s,b⟩:=p;intro x h t;simp only[EZ] at h;split at h
   ·rename_i bx gN;cases hok:qU fz (V i) bx b with
    | false=>rw[hok] at h;cases h
    | true =>
      rw[hok] at h;simp only[gD] at h;split at h
      ·rename_i y z h1 h2;obtain rfl:=aq h;by_cases e:t=i
       ·subst e;refine .inr ⟨s,b,y,bx,by simp[jF],jy ..,gN,hok,h1,?_⟩;show(bif Nat.beq t t then some { b with val:=s.iH M V y,ro:=b.ro||fz,ag:=bif b.buf||V t then b.ag+1 else b.ag } else s7 fz M V r z t)=_
        simp
       ·have hb:Nat.beq t i=false:=ec e;have hq:s7 fz M V ((i,s,b)::r) ((y,z):(GV ((i,s,b)::r)).den) t=s7 fz M V r z t:=by
         show(bif Nat.beq t i then some { b with val:=s.iH M V y,ro:=b.ro||fz,ag:=bif b.buf||V t then b.ag+1 else b.ag } else s7 fz M V r z t)=_
         rw[hb];rfl
        have G6:jF ((i,s,b)::r) t=jF r t:=by simp only[jF,hb,BN]
        rw[hq,G6];rcases ih h2 t with k|⟨s',b',y',eg,k0,k1,k2⟩
        ·exact .inl k
        ·exact .inr ⟨s',b',y',eg,k0,jx _ k1,k2⟩
      ·cases h
   ·cases h
structure nL (k:Carry) (eR:St):Prop where
 S:∀t s,(t,s)∈k.S→uA s (eR.slots t)
 M:∀b s bx,(b,s,bx)∈k.M→eR.mem b=some bx∧uA s bx.val∧bx.lk=false
 V:∀b x,k.V b=true→eR.mem b=some x→x.buf=false
theorem Hp{cx:Ctx}{σ:St}:∀{p:List (Nat×Nat)} {l:List (Nat×Sh)},I3 cx σ p=some l→∀t s,(t,s)∈l→uA s (σ.slots t):=by
 intro p;induction p with
 | nil=>intro l h t s hm;obtain rfl:=aq h;cases hm
 | cons q r ih =>
   obtain⟨i,ty⟩:=q;intro l h t s hm;simp only[I3] at h;split at h
   ·cases h
   ·rename_i l' hl';have fin:∀s0,uA s0 (σ.slots i)→some ((i,s0)::l')=some l→uA s (σ.slots t):=by
     intro s0 h0 e;obtain rfl:=aq e;rcases List.mem_cons.1 hm with hm|hm
     ·obtain⟨rfl,rfl⟩:=bY hm;exact h0
     ·exact ih hl' t s hm
    cases hty:Nat.beq ty 999999 with
    | true =>
      rw[hty] at h;simp only[gD] at h;split at h
      ·rename_i b v hv;exact fin (.k _) hv.symm h
      ·obtain rfl:=aq h;exact ih hl' t s hm
    | false =>
    rw[hty] at h;simp only[eD] at h;split at h
    ·exact fin (.d _) trivial h
    ·split at h
     ·exact fin (.d _) trivial h
     ·cases h
    ·split at h
     ·exact fin (.d _) trivial h
     ·cases h
    ·exact fin (.k _) rfl h
theorem D2{σ:St}:∀{p:List Nat} {l:List (Nat×Sh×aR)},Ig σ p=some l→∀b s bx,(b,s,bx)∈l→σ.mem b=some bx∧uA s bx.val∧bx.lk=false:=by
 intro p;induction p with
 | nil=>intro l h b s bx hm;obtain rfl:=aq h;cases hm
 | cons i r ih =>
   intro l h b s bx hm;simp only[Ig] at h;split at h
   ·rename_i bT l' hb hl';cases hlk:bT.lk with
    | true=>rw[hlk] at h;cases h
    | false =>
      rw[hlk] at h;obtain rfl:=aq h;rcases List.mem_cons.1 hm with hm|hm
      ·injection hm with e1 hm
       injection hm with e2 e3
       subst e1;subst e2;subst e3;exact⟨hb,Fy _,hlk⟩
      ·exact ih hl' b s bx hm
   ·cases h
theorem lX{cx:Ctx}{nb:Nat}{bf:List Nat}{σ:St}{p:yc}{k:Carry}(h:sJ cx nb bf σ p=some k):nL k σ:=by
 unfold sJ at h;split at h
 ·rename_i s m hs hm;obtain rfl:=aq h;refine⟨Hp hs,D2 hm,fun b x hb hx=>?_⟩;simp only[Ih,hx,cA,ny] at hb;exact hb.2.1
 ·cases h
theorem Fz{l:List (Nat×Sh×aR)}{b:Nat}(h:jF l b=true):∃s bx,(b,s,bx)∈l:=by
 induction l with
 | nil=>cases h
 | cons p r ih =>
   obtain⟨i,s,bx⟩:=p;simp only[jF,sR] at h;rcases h with h|h
   ·obtain rfl:=cK h;exact⟨s,bx,jy ..⟩
   ·obtain⟨s',eg,hm⟩:=ih h;exact⟨s',eg,jx _ hm⟩
theorem iT{k:Carry}{fz lock:Bool}{wr:List Nat}{x:k.ty.den}(hk:nL k eR)(h0:bP B N CR eR a0 w0)(he:bP B N γ gJ a w)(hx:Ext B CR eR.mem w0 γ gJ.mem w)
  (hf:∀t,bN wr t=false→a.tmps[t]?=a0.tmps[t]?) (hkeep:∀b bx,eR.mem b=some bx→jF k.M b=false→∃bl,gJ.mem b=some { bx with lk:=bl }) (ho:k.out fz eR gJ=some x) :
  bP B N γ (k.iH fz lock wr eR x) a w∧Ext B CR eR.mem w0 γ (k.iH fz lock wr eR x).mem w:=by
 unfold Carry.out at ho;split at ho
 case h_2=>cases ho
 rename_i xs xm hxs KB;obtain rfl:=aq ho;generalize IK:k.iH fz lock wr eR (xs,xm)=σ1;have pW:∀t,σ1.slots t=match wM (jF k.M) k.V k.S xs t with|some v=>v|none=>bif bN wr t then .undef else eR.slots t:=fun t=>by rw[←IK];rfl
 have hmem:∀b,σ1.mem b=match s7 fz (jF k.M) k.V k.M xm b with|some bx=>some bx|none=>match eR.mem b with|some bx=>some { bx with lk:=bx.lk||lock }|none=>none:=fun b=>by rw[←IK];rfl
 have FA:∀b,jF k.M b=false→σ1.mem b=match eR.mem b with|some bx=>some { bx with lk:=bx.lk||lock }|none=>none:=by
  intro b hb;rw[hmem b];rcases zk (M:=jF k.M) KB b with ⟨q,_⟩|⟨s,b',y,bx,q,_⟩
  ·rw[q]
  ·rw[hb] at q;cases q
 have here:∀b,jF k.M b=true→∃s b0 y bx,eR.mem b=some b0∧uA s b0.val∧gJ.mem b=some bx∧qU fz (k.V b) bx b0=true∧Sh.out k.V eR gJ s bx.val=some y ∧
   σ1.mem b=some { b0 with val:=s.iH (jF k.M) k.V y,ro:=b0.ro||fz,ag:=bif b0.buf||k.V b then b0.ag+1 else b0.ag }:=by
  intro b hb;rcases zk (M:=jF k.M) KB b with ⟨_,q⟩|⟨s,b0,y,bx,q,q1,q2,q3,q4,q5⟩
  ·rw[hb] at q;cases q
  ·obtain⟨k1,k2,_⟩:=hk.M b s b0 q1;exact⟨s,b0,y,bx,k1,k2,q2,q3,q4,by rw[hmem b,q5]⟩
 have D3:∀b bx,gJ.mem b=some bx→bx.buf=true→∃e l,bx.val=.data (.slice e) l:=by
  intro b bx hb aQ;have:=he.ok.boxes b bx hb;rw[bB,aQ] at this;obtain⟨e,l,q,_⟩:=this;exact⟨e,l,q⟩
 have hC:DY (jF k.M) k.V eR.mem gJ.mem σ1.mem:=by
  intro b bT hb;cases hin:jF k.M b with
  | false =>
    obtain⟨bl,Fi⟩:=hkeep b bT hb hin;have h1:=FA b hin;rw[hb] at h1;exact⟨_,_,Fi,h1,rfl,rfl,rfl,by simp,fun _=>rfl⟩
  | true =>
    obtain⟨s,b0,y,bx,g1,g2,g3,g4,g5,g6⟩:=here b hin;rw[hb] at g1;obtain rfl:=aq g1;obtain⟨o1,o2,o3⟩:=oN g4;obtain⟨r1,r2⟩:=Bw (M:=jF k.M) (V:=k.V) (ke:={ bT with val:=s.iH (jF k.M) k.V y,ro:=bT.ro||fz,ag:=bif bT.buf||k.V b then bT.ag+1 else bT.ag }) g5 rfl o2.symm (D3 b bx g3);refine⟨bx,_,g3,g6,o2,rfl,r1,by simp,fun hq=>o3 ?_⟩;simpa using hq
 have hE:Ext B CR eR.mem w0 γ σ1.mem w :=
  { below:=hx.below
    I:=hx.I
    jK:=hx.jK
    cells:=hx.cells
    boxes:=fun b bT hb=>by
     obtain⟨mB,ke,c1,c2,c3,c4,c5,c6,c7⟩:=hC b bT hb;obtain⟨JU,e1,e2,e3⟩:=hx.boxes b bT hb;rw[c1] at e1;obtain rfl:=aq e1;cases hq:(jF k.M b&&(bT.buf||k.V b)) with
     | true =>
       rw[hq] at c6;simp only[gD] at c6;exact⟨ke,c2,by omega,fun e=>absurd e (by omega)⟩
     | false =>
       rw[hq] at c6;simp only[eD] at c6;obtain⟨r1,r2,r3⟩:=e3 (c7 hq);exact⟨ke,c2,by omega,fun _=>⟨r1,c4,c5.trans r3⟩⟩ }
 refine⟨⟨fun t=>?_,he.size,he.defers,?_⟩,hE⟩
 ·rw[pW t];rcases D1 (M:=jF k.M) hxs t with ⟨q,_⟩|⟨s,y,q1,q2,q3⟩
  ·rw[q];simp only;cases hw:bN wr t with
   | true=>exact⟨_,rfl⟩
   | false =>
     have:a.tmps.getD t undef=a0.tmps.getD t undef:=by simp only[zJ,hf t hw]
     rw[this];exact(h0.slots t).ext hE
  ·rw[q3];exact Bu hC hk.V (hk.S t s q1) q2 (h0.slots t) (he.slots t)
 ·have hne:∀b,σ1.mem b≠none→∃bT,eR.mem b=some bT:=by
   intro b hb;cases hin:jF k.M b with
   | true=>obtain⟨s,b0,y,bx,g1,_⟩:=here b hin;exact⟨b0,g1⟩
   | false =>
     rw[FA b hin] at hb;cases hq:eR.mem b with
     | none=>rw[hq] at hb;exact absurd rfl hb
     | some bT=>exact⟨bT,rfl⟩
  have Hq:∀b,σ1.mem b≠none→gJ.mem b≠none:=by
   intro b hb;obtain⟨bT,h1⟩:=hne b hb;obtain⟨mB,ke,c1,_⟩:=hC b bT h1;rw[c1];simp
  exact
   { b6:=he.ok.b6
     base:=he.ok.base
     boxes:=fun b ke hb=>by
      cases hin:jF k.M b with
      | true =>
        obtain⟨s,b0,y,bx,g1,g2,g3,g4,g5,g6⟩:=here b hin;rw[hb] at g6;obtain rfl:=aq g6;obtain⟨o1,o2,o3⟩:=oN g4;have o4:=Cm g4;obtain⟨r1,r2⟩:=Bw (M:=jF k.M) (V:=k.V) (ke:={ b0 with val:=s.iH (jF k.M) k.V y,ro:=b0.ro||fz,ag:=bif b0.buf||k.V b then b0.ag+1 else b0.ag }) g5 rfl o2.symm (D3 b bx g3);have eH:=he.ok.boxes b bx g3;have AU:=h0.ok.boxes b b0 g1;unfold bB at eH AU⊢;dsimp only at r2⊢;rcases F9 bx.buf with hb1|hb1
        ·rw[hb1] at eH;rw[←o2,hb1,r2 hb1,←o4];exact eH
        ·rw[hb1] at eH;rw[←o2,hb1];rw[←o2,hb1] at AU;obtain⟨_,_,_,_,_,_,_,_,_,z⟩:=AU;obtain⟨blk,cap,cur,tid,fr,z1,z2,z3,de,z4⟩:=eH;exact⟨blk,cap,cur,tid,fr,z1,z2,z3,o4▸de,Bu hC hk.V g2 g5 z z4⟩
      | false =>
        have h1:=FA b hin;rw[hb] at h1;cases hq:eR.mem b with
        | none=>rw[hq] at h1;cases h1
        | some bT =>
          rw[hq] at h1;obtain rfl:=aq h1;obtain⟨bl,Fi⟩:=hkeep b bT hq hin;have eH:=he.ok.boxes b _ Fi;have AU:=h0.ok.boxes b bT hq;unfold bB at eH AU⊢;dsimp only at eH⊢;rcases F9 bT.buf with hb1|hb1
          ·rw[hb1] at eH⊢;exact eH
          ·rw[hb1] at eH AU⊢;obtain⟨_,_,_,_,_,_,_,_,_,z⟩:=AU;obtain⟨blk,cap,cur,tid,fr,z1,z2,z3,de,z4⟩:=eH;exact⟨blk,cap,cur,tid,fr,z1,z2,z3,de,br.down hC.mid z z4⟩
     inj:=fun b c blk k1 k2 hb hc h1 h2=>he.ok.inj b c blk k1 k2 (Hq b hb) (Hq c hc) h1 h2
     fresh:=fun b blk k1 hb h1=>he.ok.fresh b blk k1 (Hq b hb) h1
     jJ:=he.ok.jJ
     sep:=fun b ke blk k1 off hb h1 hi=>by
      obtain⟨bT,q0⟩:=hne b (by rw[hb];simp);obtain⟨mB,LD,c1,c2,c3,c4,c5,c6,c7⟩:=hC b bT q0;rw[hb] at c2;obtain rfl:=aq c2;obtain⟨s1,s2⟩:=he.ok.sep b mB blk k1 off c1 h1 hi;have hro:mB.ro=true→ke.ro=true:=by
       cases hin:jF k.M b with
       | true =>
         obtain⟨s,b0,y,bx,g1,g2,g3,g4,g5,g6⟩:=here b hin;rw[c1] at g3;obtain rfl:=aq g3;rw[hb] at g6;obtain rfl:=aq g6;exact(oN g4).1
       | false =>
         have h1:=FA b hin;rw[hb,q0] at h1;obtain rfl:=aq h1;obtain⟨bl,Fi⟩:=hkeep b bT q0 hin;rw[c1] at Fi;obtain rfl:=aq Fi;exact fun h=>h
      exact⟨hro s1,fun aQ e n hr=>s2 (by rw[c3,←c4];exact aQ) e n (by rw[←c5];exact hr)⟩ }
end
end Go.Ge
