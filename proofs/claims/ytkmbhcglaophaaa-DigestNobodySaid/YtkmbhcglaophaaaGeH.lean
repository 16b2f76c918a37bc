/- A ghost interpreter of the model's code, and that it tells the truth: part 8. It says of a function of plain data what a call of it comes to. -/
import Derived.Test.YtkmbhcglaophaaaGeG
set_option linter.unusedVariables false
set_option linter.unusedSimpArgs false
set_option linter.unusedSectionVars false
namespace Go.Ge
open RowKit
section
variable {σ1 σ2:St} {d:Option Nat} {cx:Ctx} {nb:Nat} {bf:List Nat} {inl:Nat→List av→St→Tree (av×St)}
theorem o8(hle:Le σ1 σ2)(hb:∀k,d=some k→σ1.mem (nb+k)=σ2.mem (nb+k)){ty:TypeId}{v:av}:LT σ2 d (eB cx nb bf d ty v σ1) (eB cx nb bf d ty v σ2):=by
 have R:=Rel.refl hle;unfold eB;cases v with
 | undef=>exact LT.bif (LT.ret R)
 | gA =>
   simp only;split
   ·rename_i k e _;cases bC bf k with
    | true=>exact LT.ay hle (hb k rfl)
    | false=>exact LT.Cn R
   ·exact LT.ret R
 | _=>exact LT.ret R
theorem AQ(hle:Le σ1 σ2){c a b:av}:LT σ2 d (gB d c a b σ1) (gB d c a b σ2):=by
 have R:=Rel.refl hle;unfold gB;split
 ·split
  ·split
   ·exact LT.ret R
   ·exact LT.fail
  ·exact LT.node (LT.ret R) (LT.ret R)
 ·exact LT.fail
theorem AR(hle:Le σ1 σ2){ty:TypeId}{a:av}:LT σ2 d (fh cx d ty a σ1) (fh cx d ty a σ2):=by
 have R:=Rel.refl hle;unfold fh;cases a with
 | cell u x=>exact LT.bif (LT.ret R)
 | ptr b ag p =>
   ((try dsimp only);split<;>first|exact LT.fail|(rename_i hq;rw[(hle b) _ hq];try dsimp only))
   exact LT.bif (LT.bind fun x _=>LT.bif (LT.ret R))
 | _=>exact LT.fail
theorem vE{gD gy:St}(R:Rel σ1 σ2 gD gy){b ag:Nat}{p:List pI}{fit:av→Bool}{v:av}:LT σ2 none (storeAt b ag p fit v gD) (storeAt b ag p fit v gy):=by
 unfold storeAt
 ((try dsimp only);split<;>first|exact LT.fail|(rename_i hq;rw[(R.le b) _ hq];try dsimp only))
 exact LT.bif (LT.bind fun x _=>LT.bif (LT.bind fun c _=>LT.store (R.trans (Rel.aW R.le))))
theorem LT.MK{c:Bool}{t u t' u':Tree St}(h:LT σ2 d t u)(h':LT σ2 d t' u'):LT σ2 d (bif c then t else t') (bif c then u else u'):=by cases c<;>first|exact h'|exact h
theorem Co{gD gy:St}(R:Rel σ1 σ2 gD gy){b ag:Nat}{p:List pI}{n:Nat}{v:av}:LT σ2 none (iV b ag p n v gD) (iV b ag p n v gy):=by
 unfold iV
 ((try dsimp only);split<;>first|exact LT.fail|(rename_i hq;rw[(R.le b) _ hq];try dsimp only))
 exact LT.bif (LT.bind fun x _=>LT.bif (LT.bind fun c _=>LT.bif (LT.store (R.trans (Rel.aW R.le)))))
theorem zg(hle:Le σ1 σ2){bf:List Nat}{ty:TypeId}{a v:av}:LT σ2 none (fq cx bf ty a v σ1) (fq cx bf ty a v σ2):=by
 have R:=Rel.refl hle;unfold fq;cases a with
 | ptr b ag p =>
   ((try dsimp only);split<;>first|exact LT.fail|(rename_i hq;rw[(hle b) _ hq];try dsimp only))
   refine LT.bif (LT.bind fun old _=>?_);split
   ·refine LT.bif (LT.MK (Co R) ?_);split
    ·rename_i y gD hg;obtain⟨gy,k1,k2⟩:=oD hle hg;rw[k1];exact vE k2
    ·exact LT.fail
   ·exact LT.bif (vE R)
 | _=>exact LT.fail
theorem Em{n:Int}{lo hi:Option Operand}(ho:∀x∈lo.toList++hi.toList,aZ σ1 x=aZ σ2 x):bounds σ1 n lo hi=bounds σ2 n lo hi:=by
 unfold bounds;cases lo<;>cases hi<;>simp only<;>simp at ho<;>simp[ho]
theorem zh(hle:Le σ1 σ2){ty:TypeId}{x:av}{lo hi:Option Operand}(ho:∀x∈lo.toList++hi.toList,aZ σ1 x=aZ σ2 x):LT σ2 d (fu cx d ty x lo hi σ1) (fu cx d ty x lo hi σ2):=by
 have R:=Rel.refl hle;have hbd:∀n,bounds σ1 n lo hi=bounds σ2 n lo hi:=fun n=>Em ho;unfold fu;split
 ·rename_i s _;rw[hbd]
  ((try dsimp only);split<;>first|exact LT.fail|skip)
  exact LT.need (LT.ret R)
 ·rw[hbd];refine LT.bif ?_
  ((try dsimp only);split<;>first|exact LT.fail|skip)
  exact LT.need (LT.ret R)
 ·rename_i u c ag l n _
  ((try dsimp only);split<;>first|exact LT.fail|(rename_i hq;rw[(hle c) _ hq];try dsimp only))
  refine LT.bif ?_;rw[hbd]
  ((try dsimp only);split<;>first|exact LT.fail|skip)
  exact LT.need (LT.ret R)
 ·rename_i u c ag _
  ((try dsimp only);split<;>first|exact LT.fail|(rename_i hq;rw[(hle c) _ hq];try dsimp only))
  refine LT.bif ?_;split
  ·refine LT.bif ?_;split
   ·exact LT.ret R
   ·rw[hbd]
    ((try dsimp only);split<;>first|exact LT.fail|skip)
    exact LT.need (LT.ret R)
  ·exact LT.fail
 ·rw[hbd];refine LT.AP (fun h=>?_) ?_
  ·simp only[bY] at h⊢;exact⟨iq hle h.1,h.2⟩
  ·((try dsimp only);split<;>first|exact LT.fail|skip)
   exact LT.need (LT.ret R)
 ·rename_i m u c ag _
  ((try dsimp only);split<;>first|exact LT.fail|(rename_i hq;rw[(hle c) _ hq];try dsimp only))
  refine LT.bif ?_;split
  ·rw[hbd];refine LT.bif ?_
   ((try dsimp only);split<;>first|exact LT.fail|skip)
   exact LT.need (LT.ret R)
  ·exact LT.fail
 ·exact LT.fail
theorem Gq(hle:Le σ1 σ2){b ag:Nat}{i:Int}:∀{m k:Nat},LT σ2 d (uE d b ag σ1 i m k) (uE d b ag σ2 i m k):=by
 intro m;induction m with
 | zero=>intro k;exact LT.fail
 | succ m ih=>intro k;exact LT.node (LT.ret (Rel.refl hle)) ih
theorem mj(hle:Le σ1 σ2){ty:TypeId}{x:av}{i:Int}:LT σ2 d (bW cx d ty x i σ1) (bW cx d ty x i σ2):=by
 have R:=Rel.refl hle;unfold bW;split
 ·exact LT.bif (LT.look fun _=>LT.ret R)
 ·exact LT.bif (LT.look fun _=>LT.ret R)
 ·((try dsimp only);split<;>first|exact LT.fail|(rename_i hq;rw[((fun r (hr:_=some r)=>vD hle hr)) _ hq];try dsimp only))
  exact LT.bif (LT.need (LT.ret R))
 ·((try dsimp only);split<;>first|exact LT.fail|(rename_i hq;rw[((fun r (hr:_=some r)=>vD hle hr)) _ hq];try dsimp only))
  exact LT.bif (LT.need (LT.ret R))
 ·exact LT.AP (fun h=>iq hle h) (LT.need (LT.ret R))
 ·split
  ·refine LT.AP (fun h=>?_) (Gq hle);simp only[bY] at h⊢;exact⟨h.1,iq hle h.2⟩
  ·exact LT.fail
 ·exact LT.fail
theorem zi(hle:Le σ1 σ2){ty:TypeId}{x:av}{i:Int}:LT σ2 d (fy cx d ty x i σ1) (fy cx d ty x i σ2):=by
 have R:=Rel.refl hle;unfold fy;split
 ·refine LT.AP (fun h=>?_) ?_
  ·simp only[bY] at h⊢;exact⟨h.1,iq hle h.2⟩
  ·split
   ·exact LT.bif (LT.ret R)
   ·exact LT.fail
 ·exact mj hle
theorem zj(hle:Le σ1 σ2){ty:TypeId}{x:av}{i:Int}:LT σ2 d (fA cx d ty x i σ1) (fA cx d ty x i σ2):=by
 have R:=Rel.refl hle;unfold fA;split
 ·exact LT.look fun _=>LT.ret R
 ·exact LT.bif (LT.look fun _=>LT.ret R)
 ·exact LT.fail
theorem sg(hle:Le σ1 σ2){s:TypeId}{x:av}{k:Nat}:LT σ2 d (b9 cx d s x k σ1) (b9 cx d s x k σ2):=by
 have R:=Rel.refl hle;unfold b9;split
 ·refine LT.bif ?_;split
  ·exact LT.ret R
  ·exact LT.fail
 ·refine LT.AP (fun h=>iq hle h) ?_;split
  ·split
   ·exact LT.ret R
   ·exact LT.fail
  ·split
   ·split
    ·exact LT.ret R
    ·exact LT.fail
   ·exact LT.fail
 ·exact LT.fail
theorem vF(hle:Le σ1 σ2)(hb:∀k,d=some k→σ1.mem (nb+k)=σ2.mem (nb+k)){s t:TypeId}{x:av}:LT σ2 d (dz cx nb d s t x σ1) (dz cx nb d s t x σ2):=by
 have R:=Rel.refl hle;unfold dz;split
 ·exact LT.ret R
 ·exact LT.ret R
 ·split
  ·exact LT.need (LT.ay hle (hb _ rfl))
  ·exact LT.fail
 ·((try dsimp only);split<;>first|exact LT.fail|(rename_i hq;rw[((fun r (hr:_=some r)=>oC hle hr)) _ hq];try dsimp only))
  exact LT.ret R
 ·exact LT.fail
theorem o9(hle:Le σ1 σ2)(hb:∀k,d=some k→σ1.mem (nb+k)=σ2.mem (nb+k)){ty:TypeId}{s x:av}:LT σ2 d (dG cx nb d ty s x σ1) (dG cx nb d ty s x σ2):=by
 have R:=Rel.refl hle;unfold dG;split
 ·rename_i k e _
  ((try dsimp only);split<;>first|exact LT.fail|(rename_i hq;rw[((fun r (hr:_=some r)=>Ek hle hr)) _ hq];try dsimp only))
  split
  ·exact LT.need (LT.ay hle (hb _ rfl))
  ·rename_i b ag;cases hq:σ1.mem b with
   | none=>exact LT.fail
   | some bx =>
     rw[hle b bx hq];cases hl:cV e σ1 (.whole b ag) with
     | none=>exact LT.fail
     | some l =>
       rw[oC hle hl];simp only;cases (bx.lk||!JZ cx ty bx.tid) with
       | true=>exact LT.fail
       | false=>exact LT.need (LT.Cn (Rel.aW hle))
  ·exact LT.fail
 ·exact LT.fail
theorem Gr(hle:Le σ1 σ2):∀{o:OT} {v:av} {r},bJ σ1.mem o v=some r→bJ σ2.mem o v=some r:=by
 intro o;induction o with
 | dat t=>intro v r h;exact h
 | buf e bN =>
   intro v r h;cases v<;>first|(cases h;done)|skip
   rename_i b ag;simp only[bJ] at h⊢;cases hb:σ1.mem b with
   | none=>rw[hb] at h;cases h
   | some bx=>rw[hb] at h;rw[hle b bx hb];exact h
 | ref tid o ih =>
   intro v r h;cases v<;>first|(cases h;done)|skip
   rename_i b ag OK;cases OK with
   | cons _ _=>cases h
   | nil =>
     simp only[bJ] at h⊢;cases hb:σ1.mem b with
     | none=>rw[hb] at h;cases h
     | some bx =>
       rw[hb] at h;rw[hle b bx hb];simp only at h⊢;cases hcd:(Nat.beq bx.ag ag&&!bx.buf&&!bx.lk&&!bx.ro&&Nat.beq bx.tid tid) with
       | false=>rw[hcd] at h;cases h
       | true =>
         rw[hcd] at h;simp only[bZ] at h⊢;cases hr:bJ σ1.mem o bx.val with
         | none=>rw[hr] at h;cases h
         | some q=>rw[hr] at h;rw[ih hr];exact h
 | pair p q l8 lG =>
   intro v r h;unfold bJ at h;split at h
   case h_2=>cases h
   split at h
   case h_2=>cases h
   rename_i h1 h2;cases h;exact r8 (l8 h1) (lG h2)
 | unit=>intro v r h;exact h
theorem Cp(hle:Le σ1 σ2):∀{ps:List Bool} {A:Ty} {U:OT} {vs:List av} {r},cS σ1 ps A U vs=some r→cS σ2 ps A U vs=some r:=by
 intro ps;induction ps with
 | nil=>intro A U vs r h;exact h
 | cons q ps ih =>
   intro A U vs r h;cases q with
   | false =>
     cases A<;>first|(cases h;done)|skip
     cases vs with
     | nil=>cases h
     | cons v vs =>
       simp only[cS] at h⊢;split at h
       ·rename_i h1 h2;rw[h1,ih h2];exact h
       ·cases h
   | true =>
     cases U<;>first|(cases h;done)|skip
     rename_i o U;cases o<;>first|(cases h;done)|skip
     cases vs with
     | nil=>cases h
     | cons v vs =>
       simp only[cS] at h⊢;split at h
       ·rename_i h1 h2;rw[Gr hle h1,ih h2];exact h
       ·cases h
theorem Rel.fc(hle:Le σ1 σ2){U:OT}{y:U.den}{N M:List (Nat×Nat)}:Rel σ1 σ2 (Go.Ge.fc U y N M σ1) (Go.Ge.fc U y N M σ2) where
 s1:=rfl
 s2:=rfl
 m:=fun b=>by
  rw[dA,dA];cases dN U y N (M.map fun p=>(p.1,p.2+1)) b with
  | some bx=>rfl
  | none =>
    cases h:σ1.mem b with
    | some x=>exact hle b x h
    | none=>rfl
 nv:=fun b h=>by
  rw[dA] at h;cases hc:dN U y N (M.map fun p=>(p.1,p.2+1)) b with
  | some bx=>rw[hc] at h;cases h
  | none=>rw[hc] at h;exact h
theorem En(hle:Le σ1 σ2){f:Nat}{args:List av}(KL:find cx.gX f≠none∨find cx.zY f=none):LT σ2 d (lC cx Aa d f args σ1) (lC cx inl d f args σ2):=by
 have R:=Rel.refl hle;unfold lC;split
 ·split
  ·have key:∀{A:Ty} {vs:List av} {x:A.den},eI σ1 A vs=some x→eI σ2 A vs=some x:=by
    intro A;induction A with
    | pair t r BH ihr =>
      intro vs x hl;cases vs with
      | nil=>cases hl
      | cons v vs =>
        simp only[eI] at hl⊢;split at hl
        ·rename_i p q hp hq;rw[Dv hle hp,ihr hq];exact hl
        ·cases hl
    | unit=>intro vs x hl;cases vs<;>exact hl
    | _=>intro vs x hl;cases vs<;>cases hl
   ((try dsimp only);split<;>first|exact LT.fail|(rename_i hq;rw[((fun r (hr:_=some r)=>key hr)) _ hq];try dsimp only))
   exact LT.look fun _=>LT.ret R
  ·split
   ·rename_i x gD hg;obtain⟨gy,k1,k2⟩:=pX hle hg;rw[k1];exact LT.look fun _=>LT.ret k2
   ·exact LT.fail
 ·rename_i hn;rw[KL.resolve_left fun q=>q hn];split
  ·rename_i hs;cases hs
  ·split
   ·rename_i k hk;cases hr:cS σ1 k.ps k.A k.U args with
    | none=>exact fun y hy=>by cases hy
    | some r =>
      rw[Cp hle hr];exact LT.bif (LT.look fun y=>LT.ret (Rel.fc hle))
   ·exact fun y hy=>by cases hy
theorem LT.Ir{gD gy:St}(R:Rel σ1 σ2 gD gy){k:Nat}{b:Nat}(hb:σ1.mem b=σ2.mem b){val:av}{tid:TypeId}{buf:Bool}{v:Nat→av} :
  LT σ2 (some k) (gD.ay b val tid buf fun ag σ=>.ret (σ.put k (v ag))) (gy.ay b val tid buf fun ag σ=>.ret (σ.put k (v ag))):=by
 have hq:gD.mem b=gy.mem b:=by
  rw[R.m b];cases h:gD.mem b with
  | some x=>rfl
  | none=>simp only;rw[←hb,R.nv b h]
 unfold St.ay;rw[←hq];cases gD.mem b with
 | none=>exact LT.Cn (R.trans (Rel.aW R.le))
 | some bx =>
   simp only;cases bx.lk with
   | true=>exact LT.fail
   | false=>exact LT.Cn (R.trans (Rel.aW R.le))
theorem zk(hle:Le σ1 σ2)(hb:∀k,d=some k→σ1.mem (nb+k)=σ2.mem (nb+k)){e:Ty}{args:List av}:LT σ2 d (fB nb e d args σ1) (fB nb e d args σ2):=by
 unfold fB;split
 ·split
  ·rename_i l gD hg;obtain⟨gy,k1,k2⟩:=oD hle hg;rw[k1];exact LT.bif (LT.need (LT.Ir k2 (hb _ rfl)))
  ·exact LT.fail
 ·exact LT.fail
theorem Eo{gD gy:St}(h:Le gD gy){e:Ty}{v:av}{r:Nat×Nat×aI×List e.den}(hl:nB e gD v=some r):nB e gy v=some r:=by
 cases v with
 | part b ag lo n =>
   simp only[nB] at hl⊢;cases hb:gD.mem b with
   | none=>rw[hb] at hl;cases hl
   | some bx=>rw[hb] at hl;rw[h b bx hb];exact hl
 | whole b ag =>
   simp only[nB] at hl⊢;cases hb:gD.mem b with
   | none=>rw[hb] at hl;cases hl
   | some bx=>rw[hb] at hl;rw[h b bx hb];exact hl
 | _=>cases hl
theorem Cq(hle:Le σ1 σ2){e A:Ty}{res:Bool}{spec:List e.den→A.den→Option (List e.den)}{args:List av}:LT σ2 d (iW e A res spec d args σ1) (iW e A res spec d args σ2):=by
 unfold iW;split
 ·split
  ·rename_i x gD hg;obtain⟨gy,k1,k2⟩:=pX hle hg;rw[k1];simp only;split
   ·rename_i b ag bx l JJ;rw[Eo k2.le JJ];simp only;refine LT.look fun l'=>?_;cases res with
    | true =>
      cases d with
      | none=>exact LT.fail
      | some k=>exact LT.Cn (k2.trans (Rel.aW k2.le))
    | false=>cases d<;>exact LT.bif (LT.ret (k2.trans (Rel.aW k2.le)))
   ·exact LT.fail
  ·exact LT.fail
 ·exact LT.fail
theorem Cr(hle:Le σ1 σ2)(hb:∀k,d=some k→σ1.mem (nb+k)=σ2.mem (nb+k)){f:Nat}{args:List av}(KL:lB cx bf d f=none→(find cx.gX f≠none∨find cx.zY f=none)∨(find cx.gX f=none∧∃e,find cx.zY f=some (.clone e)))(hcs:∀s,lB cx bf d f=some s→(∃e,s=.clone e)∨∃e A r q,s=.own e A r q) :
  LT σ2 d (jI cx nb bf Aa d f args σ1) (jI cx nb bf inl d f args σ2):=by
 unfold jI;split
 ·exact zk hle hb
 ·exact Cq hle
 ·rename_i h1 h2;have hn:lB cx bf d f=none:=by
   cases hq:lB cx bf d f with
   | none=>rfl
   | some s =>
     rcases hcs s hq with ⟨e,rfl⟩|⟨e,A,r,q,rfl⟩
     ·exact absurd hq (h1 e)
     ·exact absurd hq (h2 e A r q)
  rcases KL hn with hc|⟨hc,e,he⟩
  ·exact En hle hc
  ·unfold lC;rw[hc,he];exact LT.fail
theorem AS{s:EZ}{f:Nat}(h:lB cx bf d f=some s):(∃e,s=.clone e)∨∃e A r q,s=.own e A r q:=by
 unfold lB at h;split at h
 ·rename_i e he;split at h
  ·obtain rfl:=au h;exact .inl ⟨e,rfl⟩
  ·cases h
 ·obtain rfl:=au h;exact .inr ⟨_,_,_,_,rfl⟩
 ·cases h
theorem Ep:∀{ps:List (Nat×Operand)} {k:Nat},(∀x∈ps.map (·.2),aZ σ1 x=aZ σ2 x)→nC σ1 k ps=nC σ2 k ps:=by
 intro ps;induction ps with
 | nil=>intro k _;rfl
 | cons p r ih =>
   obtain⟨j,x⟩:=p;intro k h;simp only[nC];rw[h x (by simp),ih (k:=k+1) fun y hy=>h y (by simp at hy⊢;exact .inr hy)]
theorem AU{fs:List gr}:∀{ps:List (Nat×Operand)} {v:av},(∀x∈ps.map (·.2),aZ σ1 x=aZ σ2 x)→fL σ1 fs v ps=fL σ2 fs v ps:=by
 intro ps;induction ps with
 | nil=>intro v _;rfl
 | cons p r ih =>
   obtain⟨k,x⟩:=p;intro v h;simp only[fL];rw[h x (by simp)];have hr:∀u,fL σ1 fs u r=fL σ2 fs u r:=fun u=>ih (v:=u) fun y hy=>h y (by simp at hy⊢;exact .inr hy);simp only[hr]
theorem Er(hle:Le σ1 σ2){o:Oper}{ge:Option Nat}(hge:gC o σ2=ge)(h3:cls cx ge o≠3)(hop:∀x∈cg o.op,aZ σ1 x=aZ σ2 x)(hb:∀k,o.dst=some k→σ1.mem (nb+k)=σ2.mem (nb+k)) :
  LT σ2 o.dst (gY cx nb bf Aa o σ1) (gY cx nb bf inl o σ2):=by
 have R:=Rel.refl hle;unfold gY;cases ho:o.op with
 | move x=>simp only[ho,cg] at hop⊢;rw[hop x (by simp)];exact o8 hle hb
 | assign x=>simp only[ho,cg] at hop⊢;rw[hop x (by simp)];exact o8 hle hb
 | pick c a b=>simp only[ho,cg] at hop⊢;rw[hop c (by simp),hop a (by simp),hop b (by simp)];exact AQ hle
 | alloc e =>
   simp only;split
   ·rename_i k t hk hT;rw[hk];unfold jP;split
    ·exact absurd (by simp[cls,ho,hT]) h3
    ·exact LT.ay hle (hb k hk)
   ·rename_i k hk hT;rw[hk];split
    ·rename_i hO;exact absurd (by simp[cls,ho,hT,hO]) h3
    ·exact LT.bif (LT.ay hle (hb k hk))
   ·exact LT.fail
 | box e x =>
   simp only[ho,cg] at hop⊢;rw[hop x (by simp)];cases hk:o.dst with
   | none=>exact LT.fail
   | some k =>
     have hO:find cx.jV e=none:=by
      cases hO:find cx.jV e with
      | none=>rfl
      | some fs=>exact absurd (by simp[cls,ho,hO]) h3
     cases aZ σ2 x<;>simp only[qj,hO]<;>first|exact LT.fail|exact LT.ay hle (hb k hk)
 | build t ps =>
   simp only[ho,cg] at hop⊢;split
   ·split
    ·rename_i hg;obtain⟨gy,k1,k2⟩:=xj hle hop hg;rw[k1];exact LT.ret k2
    ·exact LT.fail
   ·split
    ·rename_i hg;obtain⟨gy,k1,k2⟩:=qT hle hop hg;rw[k1];exact LT.ret k2
    ·exact LT.fail
   ·split
    ·split
     ·rw[AU hop];split
      ·exact LT.ret R
      ·exact LT.ret R
      ·exact LT.fail
     ·exact LT.fail
    ·exact LT.fail
   ·exact LT.fail
 | buildSlice t n ps =>
   simp only[ho,cg] at hop⊢;split
   ·split
    ·rename_i k aJ hparts;have hk:=(pV aJ).1;rw[hk];exact LT.ay hle (hb k hk)
    ·refine LT.bif ?_;split
     ·rename_i hg;obtain⟨gy,k1,k2⟩:=qT hle hop hg;rw[k1];exact LT.ret k2
     ·exact LT.fail
   ·unfold oq;rw[Ep hop];split
    ·rename_i k e v hk _ _;rw[hk];exact LT.bif (LT.ay hle (hb _ hk))
    ·exact LT.fail
   ·exact LT.fail
 | load t a=>simp only[ho,cg] at hop⊢;rw[hop a (by simp)];exact AR hle
 | store t a x =>
   simp only[ho,cg] at hop⊢;rw[hop a (by simp),hop x (by simp)];cases hk:o.dst with
   | none=>exact zg hle
   | some k=>exact LT.fail
 | nilCheck x =>
   simp only[ho,cg] at hop⊢;rw[hop x (by simp)];cases aZ σ2 x with
   | ptr b ag p=>exact LT.AP (fun h=>iq hle h) (LT.ret R)
   | cell t x=>exact LT.ret R
   | fn f c=>exact LT.ret R
   | _=>exact LT.fail
 | binOp op xt x y yt =>
   simp only[ho,cg] at hop⊢;rw[hop x (by simp),hop y (by simp)];intro z hz;obtain⟨v,h1,h2⟩:=bind_some hz;have hb:(FL σ2 (find cx.T xt) (bC cx.cO xt) op (aZ σ2 x) (aZ σ2 y)).run=some v:=by
    unfold FL at h1⊢;split at h1
    ·obtain⟨hc,h3⟩:=ai h1;simp only[bY] at hc;rw[iq hle hc.1,hc.2];exact h3
    ·obtain⟨hc,h3⟩:=ai h1;simp only[bY] at hc;rw[iq hle hc.1,hc.2];exact h3
    ·exact h1
   rw[Tree.run_bind,hb];exact LT.ret R z h2
 | unOp op t x=>simp only[ho,cg] at hop⊢;rw[hop x (by simp)];exact LT.bind fun _ _=>LT.ret R
 | convert s t x=>simp only[ho,cg] at hop⊢;rw[hop x (by simp)];exact vF hle hb
 | makeFunc fn first caps =>
   simp only[ho,cg] at hop⊢;cases fn with
   | func f =>
     simp only;have:caps.toList.map (aZ σ1)=caps.toList.map (aZ σ2):=BB fun x hx=>hop x (qc _ hx);rw[this];split
     ·exact LT.ret R
     ·exact LT.fail
   | _=>exact LT.fail
 | slice t x lo hi m =>
   simp only[ho,cg] at hop⊢;cases m with
   | some m=>exact LT.fail
   | none =>
     simp only;rw[hop x (by simp)];exact zh hle fun y hy=>hop y (jT _ hy)
 | fieldAddr s x k=>simp only[ho,cg] at hop⊢;rw[hop x (by simp)];exact sg hle
 | field xt x k =>
   simp only[ho,cg] at hop⊢;rw[hop x (by simp)];split
   ·refine LT.bif ?_;split
    ·exact LT.ret R
    ·exact LT.fail
   ·exact LT.fail
 | indexAddr t x i =>
   simp only[ho,cg] at hop⊢;rw[hop x (by simp),hop i (by simp)];split
   ·cases bC bf 5000000 with
    | true=>exact zi hle
    | false=>exact mj hle
   ·exact LT.fail
 | index t x i =>
   simp only[ho,cg] at hop⊢;rw[hop x (by simp),hop i (by simp)];split
   ·exact zj hle
   ·exact LT.fail
 | makeSlice t l c =>
   simp only[ho,cg] at hop⊢;rw[hop l (by simp),hop c (by simp)];cases hk:o.dst with
   | none=>exact LT.fail
   | some k =>
     split
     ·rename_i k' _ _ _ _ _ hk' _ _ _;obtain rfl:=au hk';exact LT.need (LT.need (LT.ay hle (hb k hk)))
     ·exact LT.fail
 | extract t k =>
   simp only[ho,cg] at hop⊢;rw[hop t (by simp)];split
   ·((try dsimp only);split<;>first|exact LT.fail|skip)
    exact LT.ret R
   ·exact LT.fail
 | call c =>
   simp only[ho,cg] at hop⊢;have hargs:c.args.toList.map (aZ σ1)=c.args.toList.map (aZ σ2):=BB fun x hx=>hop x (qc _ hx);unfold jZ;rw[hargs];cases hc:c.callee with
   | builtin b =>
     simp only;split
     ·rename_i x t _ _;cases Dl (find cx.T t) x with
      | true =>
        simp only[bZ]
        ((try dsimp only);split<;>first|exact LT.fail|(rename_i hq;rw[((fun r (hr:_=some r)=>Gp hle hr)) _ hq];try dsimp only))
        exact LT.ret R
      | false =>
        simp only[ez];split
        ·refine LT.AP (fun h=>?_) (LT.ret R);simp only[bY] at h⊢;exact⟨iq hle h.1,h.2⟩
        ·exact LT.fail
     ·split
      ·exact o9 hle hb
      ·exact o9 hle hb
      ·exact LT.fail
     ·exact absurd (by simp[cls,ho,hc]) h3
     ·exact absurd (by simp[cls,ho,hc]) h3
     ·exact LT.bind fun _ _=>LT.ret R
     ·exact LT.bind fun _ _=>LT.ret R
     ·exact LT.fail
   | value f =>
     simp only;rw[hop f (by rw[hc];simp)];split
     ·rename_i g caps hop;have Gl:(caps.all fun b=>live σ1 b.1 b.2)=true→(caps.all fun b=>live σ2 b.1 b.2)=true:=fun h=>by
       rw[tr] at h⊢;exact fun b hm=>iq hle (h b hm)
      refine LT.AP Gl (Cr hle hb (fun hq=>?_) fun s hs=>AS hs);have heq:ge=some g:=by rw[←hge];simp[gC,ho,hc,hop]
      cases dy:find cx.gX g with
      | some c=>exact .inl (.inl (by simp))
      | none =>
        cases AO:find cx.zY g with
        | none=>exact .inl (.inr rfl)
        | some s =>
          refine .inr ⟨rfl,?_⟩;cases s with
          | clone e=>exact⟨e,rfl⟩
          | own e A r q=>simp[lB,AO] at hq
          | _=>exact absurd (by simp[cls,ho,hc,heq,dy,AO]) h3
     ·exact LT.fail
   | invoke r m =>
     simp only;rw[hop r (by rw[hc];simp)];unfold iN;split
     ·split
      ·rename_i hg;obtain⟨gy,k1,k2⟩:=pX hle hg;rw[k1];exact LT.look fun _=>LT.ret k2
      ·exact LT.fail
     ·exact LT.fail
 | makeInterface u x =>
   simp only[ho,cg] at hop⊢;rw[hop x (by simp)];unfold iM;split
   ·split
    ·split
     ·rename_i hg;obtain⟨gy,k1,k2⟩:=oD hle hg;rw[k1];exact LT.ret k2
     ·exact LT.fail
    ·exact LT.fail
   ·exact LT.fail
 | _=>exact LT.fail
end
end Go.Ge
namespace Go.Ge
open RowKit
theorem gE{l:List Nat}{t:Nat}:bC l t=true↔t∈l:=by
 induction l with
 | nil=>simp[bC]
 | cons i r ih =>
   simp only[bC,uz,zU,ih];constructor
   ·rintro(h|h)
    ·exact .inl (cB h)
    ·exact .inr h
   ·rintro(h|h)
    ·subst h;exact .inl (by simp)
    ·exact .inr h
theorem eD{l:List Nat}{t:Nat}:bC l t=false↔t∉l:=by
 rw[←gE];simp
theorem Cs{l:List Operand}{t:Nat}(h:Operand.tmp t∈l):t∈tmpsOf l:=by
 induction l with
 | nil=>cases h
 | cons x r ih =>
   rcases List.mem_cons.1 h with h'|h'
   ·subst h';exact jU ..
   ·clear h;have h:=h';cases x<;>simp only[tmpsOf]
    case tmp k=>exact jT _ (ih h)
    all_goals exact ih h
section
variable {cx:Ctx} {nb:Nat} {bf:List Nat} {inl:Nat→List av→St→Tree (av×St)} {σ σ' τ:St}
structure AV (cx:Ctx) (nb:Nat) (o:Oper) (fp:Fp):Prop where
 own:∀k,o.dst=some k→nb+k∈fp.rd
 sub:∀b∈fp.wr,b∈fp.rd
 w1:cls cx fp.fn o≠0→∀k,o.dst=some k→nb+k∈fp.wr
 w2:cls cx fp.fn o≠0→cls cx fp.fn o≠1→∀b∈fp.rd,b∈fp.wr
 c3:cls cx fp.fn o≠3
theorem uv(o:Oper)(σ:St)(h:(lU cx nb o σ).ug=false):AV cx nb o (lU cx nb o σ):=by
 have hown:∀k,o.dst=some k→nb+k∈Go.Ge.own nb o:=fun k hk=>by simp[Go.Ge.own,hk]
 unfold lU at h⊢;dsimp only at h⊢;split at h<;>rename_i hc
 ·exact⟨fun k hk=>rB _ (hown k hk),fun b hb=>(nomatch hb),fun h0=>absurd hc h0,fun h0=>absurd hc h0,by rw[hc];decide⟩
 ·exact⟨fun k hk=>rB _ (hown k hk),fun b hb=>rB _ hb,fun _ k hk=>hown k hk,fun _ h1=>absurd hc h1,by rw[hc];decide⟩
 ·exact⟨fun k hk=>rB _ (hown k hk),fun b hb=>hb,fun _ k hk=>rB _ (hown k hk),fun _ _ b hb=>hb,by rw[hc];decide⟩
 ·cases h
theorem Is{ts rd:List Nat}:Le { (σ.only ts rd) with slots:=σ.slots } σ:=fun b bx hb=>by
 simp only[St.only] at hb;cases hm:bC rd b with
 | true=>rw[hm] at hb;exact hb
 | false=>rw[hm] at hb;cases hb
theorem AW{ts rd:List Nat}:Le (σ.only ts rd) σ:=fun b bx hb=>Is (ts:=ts) b bx hb
theorem AX{l:List Operand}{rd:List Nat}{x:Operand}(hx:x∈l):aZ (σ.only (tmpsOf l) rd) x=aZ σ x:=by
 cases x with
 | tmp t =>
   have:=gE.2 (Cs hx);simp only[aZ,St.only,this,bZ]
 | _=>rfl
theorem It{a b:Option Nat}(h:KV a b=true):a=b:=by
 cases a<;>cases b<;>first|rfl|cases h|exact congrArg some (cB h)
theorem xk(o:Oper)(rd:List Nat):gC o (σ.only (tmpsOf (cg o.op)) rd)=gC o σ:=by
 unfold gC;split
 ·rename_i c hc;split
  ·rename_i x hx;rw[AX (by rw[hc];simp[cg,hx])]
  ·rfl
 ·rfl
theorem oE{fp:Fp}{o:Oper}(hf:fp.ug=false→AV cx nb o fp)(hr:(dK cx nb bf inl fp o σ).run=some σ'):(gY cx nb bf inl o σ).run=some σ':=by
 unfold dK at hr;cases zl:fp.ug with
 | true=>rw[zl] at hr;exact hr
 | false =>
   have hf:=hf zl;rw[zl] at hr;simp only[ez] at hr;obtain⟨τ,h1,h2⟩:=bind_some hr;obtain rfl:=au h2;obtain⟨hfn,h1⟩:=ai h1;have hfn:=It hfn;have ML:gC o σ=fp.fn:=by rw[←hfn];exact(xk ..).symm
   have hL:=Er (cx:=cx) (nb:=nb) (bf:=bf) (inl:=inl) (σ1:=σ.only (tmpsOf (cg o.op)) fp.rd) (σ2:=σ) AW (o:=o) ML hf.c3 (fun x hx=>AX hx)
    (fun k hk=>by simp only[St.only,gE.2 (hf.own k hk),bZ]) τ h1
   rw[hL];have hC:=Cl (cx:=cx) (nb:=nb) (bf:=bf) (σ:=σ.only (tmpsOf (cg o.op)) fp.rd) (o:=o) (p:=fun b=>b∈fp.wr) hfn hf.c3 (fun h0 k hk=>hf.w1 h0 k hk) (fun h0 h1 b hb=>by
    refine hf.w2 h0 h1 b ?_;simp only[St.only] at hb;cases hm:bC fp.rd b with
    | true=>exact gE.1 hm
    | false=>rw[hm] at hb;exact absurd rfl hb) τ h1
   have hm:(fun b=>match τ.mem b with|some x=>some x|none=>σ.mem b)=fun b=>bif bC fp.wr b then τ.mem b else σ.mem b:=by
    funext b;have hrd:b∈fp.rd→(σ.only (tmpsOf (cg o.op)) fp.rd).mem b=σ.mem b:=fun h=>by simp only[St.only,gE.2 h,bZ]
    cases hw:bC fp.wr b with
    | true =>
      simp only[bZ];cases hq:τ.mem b with
      | some x=>rfl
      | none =>
        simp only;rw[←hrd (hf.sub b (gE.1 hw))];rcases hC b with k|k
        ·rw[←k,hq]
        ·exact absurd hq k.1
    | false =>
      simp only[ez];rcases hC b with k|k
      ·rw[k];cases hq:(σ.only (tmpsOf (cg o.op)) fp.rd).mem b with
       | none=>rfl
       | some x=>simp only;exact(AW b x hq).symm
      ·exact absurd k.2 (eD.1 hw)
   unfold lift lay;exact congrArg (fun m=>some (St.mk _ m)) hm
theorem oF{a b:List Nat}(h:D3 a b=true){x:Nat}(hx:x∈a):x∉b:=by
 simp only[D3,tr,oh] at h;exact eD.1 (h x hx)
theorem apart_spec{x y:Oper}{f g:Fp}(h:apart x y f g=true):f.ug=false∧g.ug=false∧(∀b∈f.wr,b∉g.rd)∧(∀b∈g.wr,b∉f.rd) ∧
  (∀d,x.dst=some d→d∉tmpsOf (cg y.op))∧(∀d,y.dst=some d→d∉tmpsOf (cg x.op))∧(∀d e,x.dst=some d→y.dst=some e→d≠e):=by
 simp only[apart,bY,oh] at h;obtain⟨⟨⟨⟨⟨h1,h2⟩,h3⟩,h4⟩,h5⟩,h6⟩:=h;refine⟨h1,h2,fun b hb=>oF h3 hb,fun b hb=>oF h4 hb,fun d hd=>?_,fun d hd=>?_,fun d e hd he=>?_⟩
 ·rw[hd] at h5;simp only[bY,oh] at h5;exact eD.1 h5.1
 ·rw[hd] at h6;simp only[oh] at h6;exact eD.1 h6
 ·rw[hd,he] at h5;simp only[bY,oh] at h5;intro q;subst q;simp at h5
theorem qU{d:Option Nat}{wr ts rd:List Nat}(h1:∀k,d=some k→k∉ts)(h2:∀b∈wr,b∉rd):(lay σ d wr τ).only ts rd=σ.only ts rd:=by
 unfold St.only lay
 congr 1
 ·funext t;cases hm:bC ts t with
  | false=>rfl
  | true =>
    simp only[bZ];cases d with
    | none=>rfl
    | some k =>
      have:t≠k:=fun e=>h1 k rfl (by rw[←e];exact gE.1 hm);simp[dO this]
 ·funext b;cases hm:bC rd b with
  | false=>rfl
  | true =>
    have:b∉wr:=fun hw=>h2 b hw (gE.1 hm);simp[eD.2 this]
theorem Gs{oi oj:Oper}{fi fj:Fp}{σ1 σ2:St}(hap:apart oi oj fi fj=true)(hsi:∀b∈fi.wr,b∈fi.rd)(h1:(dK cx nb bf inl fi oi σ).run=some σ1)(h2:(dK cx nb bf inl fj oj σ1).run=some σ2) :
  ∃Gt,(dK cx nb bf inl fj oj σ).run=some Gt∧(dK cx nb bf inl fi oi Gt).run=some σ2:=by
 obtain⟨b1,b2,w1,w2,d1,d2,d3⟩:=apart_spec hap;unfold dK at h1 h2⊢;rw[b1] at h1;rw[b2] at h2;simp only[b1,b2,ez] at h1 h2⊢;obtain⟨L2,i1,i2⟩:=bind_some h1;obtain rfl:=au i2;obtain⟨KO,j1,j2⟩:=bind_some h2;obtain rfl:=au j2;rw[qU d1 w1] at j1;refine⟨lay σ oj.dst fj.wr KO,by rw[Tree.run_bind,j1];rfl,?_⟩;rw[qU d2 w2,Tree.run_bind,i1];show some _=some _
 congr 1
 unfold lay
 congr 1
 ·cases hi:oi.dst with
  | none=>rfl
  | some k =>
    cases hj:oj.dst with
    | none=>rfl
    | some e =>
      have hne:=d3 k e hi hj;funext t;dsimp only;by_cases q1:t=k
      ·subst q1;simp[dO hne]
      ·by_cases q2:t=e
       ·subst q2;simp[dO q1]
       ·simp[dO q1,dO q2]
 ·funext b;dsimp only;cases hw1:bC fi.wr b with
  | false=>rfl
  | true =>
    have:b∉fj.wr:=fun hw=>w2 b hw (hsi b (gE.1 hw1));simp[eD.2 this]
inductive Reach (ops:Array Oper):Nat→Nat→Prop where
 | step {i:Nat} {o:Oper} {e:Edge} (h:ops[i]?=some o) (he:e∈o.after) (hb:Region.binds .any e=true):Reach ops i e.on
 | more {i k:Nat} {o:Oper} {e:Edge} (h:ops[i]?=some o) (he:e∈o.after) (hb:Region.binds .any e=true) (r:Reach ops e.on k):Reach ops i k
def zm(ops:Array Oper)(listed:Array Bool):Prop:=∀i o e,listed.getD i false=true→ops[i]?=some o→e∈o.after→Region.binds .any e=true→listed.getD e.on false=true
theorem Reach.listed{ops:Array Oper}{listed:Array Bool}(hs:zm ops listed){i k:Nat}(h:Reach ops i k):listed.getD i false=true→listed.getD k false=true:=by
 induction h with
 | step h he hb=>exact fun hl=>hs _ _ _ hl h he hb
 | more h he hb r ih=>exact fun hl=>ih (hs _ _ _ hl h he hb)
theorem Reach.ready{ops:Array Oper}{listed:Array Bool}(hs:zm ops listed){i k:Nat}(h:Reach ops i k)(hr:i∈Region.ready .any ops listed):listed.getD k false=true:=by
 obtain⟨_,o,ho,hall⟩:=mem_ready.1 hr;cases h with
 | step h he hb =>
   obtain rfl:=au (ho.symm.trans h);exact hall _ he hb
 | more h he hb r =>
   obtain rfl:=au (ho.symm.trans h);exact r.listed hs (hall _ he hb)
theorem zm.list{ops:Array Oper}{listed:Array Bool}(hs:zm ops listed){i:Nat}(hr:i∈Region.ready .any ops listed):zm ops (listed.setIfInBounds i true):=by
 obtain⟨_,oi,OL,hall⟩:=mem_ready.1 hr;have up:∀k,listed.getD k false=true→(listed.setIfInBounds i true).getD k false=true:=by
  intro k hk;by_cases e:i=k
  ·subst e;rcases rF i listed.size with h'|h'
   ·simp[h']
   ·simp[Ff h'] at hk
  ·rw[getD_set_ne false e];exact hk
 intro j o e hj ho he hb;by_cases q:i=j
 ·subst q;obtain rfl:=au (OL.symm.trans ho);exact up _ (hall e he hb)
 ·rw[getD_set_ne false q] at hj;exact up _ (hs j o e hj ho he hb)
theorem AY{listed:Array Bool}{i:Nat}(h0:listed.getD i true=false)(h1:listed.getD i false=true):False:=by
 rcases rF i listed.size with h'|h'
 ·simp[h'] at h0 h1;rw[h0] at h1;cases h1
 ·simp[Ff h'] at h1
def jb(ops:Array Oper)(done:List nD):Prop:=∀k,∀b,Nat.testBit (uI done k) b=true→Reach ops k b
theorem pY{ops:Array Oper}{done:List nD}(hd:jb ops done){i:Nat}{o:Oper}(ho:ops[i]?=some o){b:Nat}(h:Nat.testBit (mask done o) b=true):Reach ops i b:=by
 unfold mask at h;have key:∀l:List Edge,(∀e∈l,e∈o.after)→Nat.testBit (jQ done l) b=true→Reach ops i b:=by
  intro l;induction l with
  | nil=>intro _ h;simp[jQ] at h
  | cons e r ih =>
    intro hl h;simp only[jQ] at h;cases hb:Region.binds .any e with
    | false=>rw[hb] at h;exact ih (fun e' he'=>hl e' (jT _ he')) h
    | true =>
      rw[hb] at h;simp only[bZ,Nat.testBit_or,uz] at h;rcases h with (h|h)|h
      ·exact ih (fun e' he'=>hl e' (jT _ he')) h
      ·rw[Nat.testBit_two_pow] at h;have:e.on=b:=by simpa using h
       subst this;exact .step ho (hl e (jU ..)) hb
      ·exact .more ho (hl e (jU ..)) hb (hd _ _ h)
 exact key _ (fun e he=>by simpa using he) h
theorem jb.nil{ops:Array Oper}:jb ops []:=fun k b h=>by simp[uI] at h
theorem jb.cons{ops:Array Oper}{done:List nD}(hd:jb ops done){i:Nat}{o:Oper}{f:Fp}(ho:ops[i]?=some o):jb ops ((i,o,f,mask done o)::done):=by
 intro k b h;simp only[uI] at h;cases hk:Nat.beq i k with
 | true =>
   rw[hk] at h;obtain rfl:=cB hk;exact pY hd ho h
 | false=>rw[hk] at h;exact hd k b h
def Gu(cx:Ctx)(nb:Nat)(bf:List Nat)(inl:Nat→List av→St→Tree (av×St))(ops:Array Oper)(fp:Nat→Fp)(Q:St→Prop):Nat→Array Bool→St→Prop
 | 0,listed,σ=>Region.ready .any ops listed=[]∧Q σ
 | n+1,listed,σ=>(Region.ready .any ops listed=[]→Q σ) ∧
  ∀i∈Region.ready .any ops listed,∃o σ',ops[i]?=some o∧o.guard=none∧(dK cx nb bf inl (fp i) o σ).run=some σ'∧Gu cx nb bf inl ops fp Q n (listed.setIfInBounds i true) σ'
variable {ops:Array Oper} {fp:Nat→Fp} {Q:St→Prop}
theorem Ct{i:Nat}{oi:Oper}(hi:ops[i]?=some oi)(L3:oi.guard=none)(hsub:∀b∈(fp i).wr,b∈(fp i).rd):∀(n:Nat) (listed:Array Bool) (σ σ1:St),
  zm ops listed→(∀j oj,ops[j]?=some oj→j≠i→listed.getD j true=false→Reach ops j i∨apart oi oj (fp i) (fp j)=true) →
  i∈Region.ready .any ops listed→(dK cx nb bf inl (fp i) oi σ).run=some σ1→Gu cx nb bf inl ops fp Q n (listed.setIfInBounds i true) σ1→Gu cx nb bf inl ops fp Q (n+1) listed σ:=by
 intro n;induction n with
 | zero =>
   intro listed σ σ1 kr hfree hr h1 H;refine⟨fun h=>(by rw[h] at hr;cases hr),fun j hj=>?_⟩;by_cases hji:j=i
   ·subst hji;exact⟨oi,σ1,hi,L3,h1,H⟩
   ·have:=ready_mono hj hji;rw[H.1] at this;cases this
 | succ n ih =>
   intro listed σ σ1 kr hfree hr h1 H;refine⟨fun h=>(by rw[h] at hr;cases hr),fun j hj=>?_⟩;by_cases hji:j=i
   ·subst hji;exact⟨oi,σ1,hi,L3,h1,H⟩
   ·obtain⟨oj,σ2,Kj,OM,h2,H2⟩:=H.2 j (ready_mono hj hji);obtain⟨Gv,ON,Gw,hall⟩:=mem_ready.1 hj;rw[Kj] at Gw;obtain rfl:=au Gw;have hap:apart oi oj (fp i) (fp j)=true:=by
     rcases hfree j oj Kj hji Gv with hw|hap
     ·exact(AY (mem_ready.1 hr).1 (hw.ready kr hj)).elim
     ·exact hap
    obtain⟨Gt,k1,k2⟩:=Gs hap hsub h1 h2;refine⟨oj,Gt,Kj,OM,k1,ih (listed.setIfInBounds j true) Gt σ2 (kr.list hj) (fun k ok hk hki hun=>hfree k ok hk hki ?_) (ready_mono hr (uB hji)) k2 ?_⟩
    ·by_cases Gx:j=k
     ·subst Gx;exact Gv
     ·rw[getD_set_ne true Gx] at hun;exact hun
    ·rw[Jn _ _ hji];exact H2
end
end Go.Ge
namespace Go.Ge
open RowKit
section
variable {P:Program} {B:iP} {N:Nat} {γ:Gh} {cx:Ctx} {nb:Nat} {bf:List Nat} {inl:Nat→List av→St→Tree (av×St)} {σ σ' τ:St} {ops:Array Oper} {fp:Nat→Fp}
def Iu(cx:Ctx)(nb:Nat)(bf:List Nat)(inl:Nat→List av→St→Tree (av×St))(ops:Array Oper)(fp:Nat→Fp):Nat→List Oper→St→St→Prop
 | _,[],σ,σ'=>σ=σ'
 | k,o::l,σ,σ'=>o.guard=none∧((fp k).ug=false→AV cx nb o (fp k))∧((fp k).ug=true→(fp k).wr=[])∧(∀e∈o.after,Region.binds .any e=true→e.on<k) ∧
  (∀j oj,l[j]?=some oj→Reach ops (k+1+j) k∨apart o oj (fp k) (fp (k+1+j))=true) ∧
  ∃σ1,(dK cx nb bf inl (fp k) o σ).run=some σ1∧Iu cx nb bf inl ops fp (k+1) l σ1 σ'
theorem vG{o:Oper}{f fk:Fp}{k m mk:Nat}{ok:Oper}{r:List nD}(h:loose o f m ((k,ok,fk,mk)::r)=true):(Nat.testBit m k=true∨apart ok o fk f=true)∧loose o f m r=true:=by
 simp only[loose,bY,uz] at h;exact h
theorem Gy(o:Oper)(σ:St)(h:(lU cx nb o σ).ug=true):(lU cx nb o σ).wr=[]:=by
 unfold lU at h⊢;dsimp only at h⊢;split at h<;>first|cases h|skip
 rfl
theorem zn:∀(l:List Oper) (k:Nat) (done:List nD) (σ:St),(∀j o,l[j]?=some o→ops[k+j]?=some o)→jb ops done→(uJ cx nb bf inl (number k l) done σ).run=some σ' →
  ∃fs:List (Fp×Nat),fs.length=l.length∧(∀j m b,fs[j]?=some m→Nat.testBit m.2 b=true→Reach ops (k+j) b) ∧
   ∀fp:Nat→Fp,(∀j f,fs[j]?=some f→fp (k+j)=f.1)→Iu cx nb bf inl ops fp k l σ σ'∧∀j o f,l[j]?=some o→fs[j]?=some f→loose o (fp (k+j)) f.2 done=true:=by
 intro l;induction l with
 | nil =>
   intro k done σ _ _ h;exact⟨[],rfl,fun j m b h=>absurd h (by simp),fun fp _=>⟨au h,fun j o f hj=>absurd hj (by simp)⟩⟩
 | cons o l ih =>
   intro k done σ hl hm h;simp only[number,uJ] at h;split at h
   ·cases h
   ·rename_i hg;obtain⟨hc,h1⟩:=ai h;obtain⟨σ1,h2,h3⟩:=bind_some h1;simp only[bY] at hc;have hk:ops[k]?=some o:=hl 0 o rfl;obtain⟨fs,f1,fm,f2⟩:=ih (k+1) _ σ1 (fun j o' hj=>by have:=hl (j+1) o' (by simpa using hj);rw[←this];congr 1;omega) (hm.cons hk) h3;refine⟨(lU cx nb o σ,mask done o)::fs,by simp[f1],fun j m b hj hb=>?_,fun fp E4=>?_⟩
    ·cases j with
     | zero=>obtain rfl:=au hj;exact pY hm hk hb
     | succ j=>have:=fm j m b (by simpa using hj) hb;rw[show k+(j+1)=k+1+j by omega];exact this
    have h0:fp k=lU cx nb o σ:=E4 0 _ rfl;obtain⟨g1,g2⟩:=f2 fp fun j f hj=>by have:=E4 (j+1) f (by simpa using hj);rw[←this];congr 1;omega
    refine⟨⟨hg,fun hb=>by rw[h0] at hb⊢;exact uv o σ hb,fun hb=>by rw[h0] at hb⊢;exact Gy o σ hb,fun e he hb=>?_,fun j oj hj=>?_,σ1,by rw[h0];exact h2,g1⟩,fun j o' f hj hf=>?_⟩
    ·have:=hc.2;rw[←Array.all_toList,tr] at this;have:=this e (by simpa using he);rw[hb] at this;have:=tq (by simpa [Nat.blt] using this);omega
    ·obtain⟨f,hf⟩:∃f,fs[j]?=some f:=⟨_,sC (by rw[f1];exact(List.getElem?_eq_some_iff.1 hj).1)⟩;rcases(vG (g2 j oj f hj hf)).1 with q|q
     ·exact .inl (fm j f k hf q)
     ·rw[h0];exact .inr q
    ·cases j with
     | zero =>
       obtain rfl:=au hj;obtain rfl:=au hf;rw[pH,h0];exact hc.1
     | succ j =>
       have:=(vG (g2 j o' f (by simpa using hj) (by simpa using hf))).2;rw[show k+(j+1)=k+1+j by omega];exact this
theorem Gz:∀(l:List Oper) (k:Nat) (listed:Array Bool) (σ:St),(∀j,l[j]?=ops[k+j]?)→listed.size=ops.size→(∀j,j<k→j<ops.size→listed.getD j false=true) →
  (∀j,k≤j→j<ops.size→listed.getD j true=false)→zm ops listed→Iu cx nb bf inl ops fp k l σ σ'→Gu cx nb bf inl ops fp (·=σ') l.length listed σ:=by
 intro l;induction l with
 | nil =>
   intro k listed σ hl hs h1 h2 kr h;refine⟨?_,h⟩;cases hr:Region.ready .any ops listed with
   | nil=>rfl
   | cons i r =>
     exfalso;have hi:i∈Region.ready .any ops listed:=by rw[hr];exact jU ..
     obtain⟨g1,o,g2,_⟩:=mem_ready.1 hi;have hlt:i<ops.size:=(Array.getElem?_eq_some_iff.1 g2).1;rcases rF i k with hk|hk
     ·have:=h1 i hk hlt;simp[hs,hlt] at this g1;rw[this] at g1;cases g1
     ·have:=hl (i-k);rw[show k+(i-k)=i by omega,g2] at this;cases this
 | cons o l ih =>
   intro k listed σ hl hs h1 h2 kr h;have hk:ops[k]?=some o:=by simpa using(hl 0).symm
   have hlt:k<ops.size:=(Array.getElem?_eq_some_iff.1 hk).1;obtain⟨c1,c2,L4,c3,c4,σ1,c5,c6⟩:=h;have vH:k∈Region.ready .any ops listed:=mem_ready.2 ⟨h2 k (dB _) hlt,o,hk,fun e he hb=>by
    have:=c3 e he hb;exact h1 e.on this (by omega)⟩
   refine Ct hk c1 (fun b hb=>?_) l.length listed σ σ1 kr (fun j oj hj hne hun=>?_) vH c5 (ih (k+1) _ σ1 (fun j=>?_) (by simp[hs]) (fun j hj HJ=>?_) (fun j hj HJ=>?_) (kr.list vH) c6)
   ·cases zl:(fp k).ug with
    | true=>rw[L4 zl] at hb;cases hb
    | false=>exact(c2 zl).sub b hb
   ·have GA:j<ops.size:=(Array.getElem?_eq_some_iff.1 hj).1;rcases rF j k with Gx|Gx
    ·exfalso;have:=h1 j Gx GA;simp[hs,GA] at this hun;rw[this] at hun;cases hun
    ·have hq:=hl (j-k);rw[show k+(j-k)=j by omega,hj] at hq;obtain⟨m,hm⟩:∃m,j-k=m+1:=⟨j-k-1,by omega⟩;rw[hm] at hq;have:=c4 m oj (by simpa using hq);rw[show k+1+m=j by omega] at this;exact this
   ·have:=hl (j+1);rw[show k+1+j=k+(j+1) by omega,←this];simp
   ·by_cases e:j=k
    ·subst e;simp[hs,hlt]
    ·rw[getD_set_ne false (uB e)];exact h1 j (by omega) HJ
   ·rw[getD_set_ne true (by omega:k≠j)];exact h2 j (by omega) HJ
theorem vI:∀{l:List Oper} {k j:Nat} {o:Oper},l[j]?=some o→(k+j,o)∈number k l:=by
 intro l;induction l with
 | nil=>intro k j o h;cases h
 | cons p l ih =>
   intro k j o h;cases j with
   | zero=>obtain rfl:=au h;exact jU ..
   | succ j=>exact jT _ (by rw[show k+(j+1)=k+1+j by omega];exact ih (by simpa using h))
theorem vJ{d:Nat}:∀{items:List (Nat×Oper)},gi d items=false→∀{i:Nat} {o:Oper},(i,o)∈items→o.dst≠some d:=fun h _ _ hm=>Ce h _ _ hm
theorem xo(hc:dw P cx)(dy:jD P B.G cx)(fE:mb P B.G inl){Q:Exit→Act→World→Prop}(E4:∀i o,ops[i]?=some o→(fp i).ug=false→AV cx nb o (fp i))
  (hd:∀o∈ops.toList,∀k,o.dst=some k→k<N):∀(n:Nat) (listed:Array Bool) (σ:St) (γ:Gh) (a:Act) (w:World),Gu cx nb bf inl ops fp (·=σ') n listed σ→bE B N γ σ a w →
   (∀γ' a' w',bE B N γ' σ' a' w'→Ext B γ σ.mem w γ' σ'.mem w'→Fr (number 0 ops.toList) a a'→Q .normal a' w')→wpAny P .any ops Q n listed a w:=by
 intro n;induction n with
 | zero =>
   intro listed σ γ a w h hs hK;obtain⟨h1,rfl⟩:=h;exact⟨h1,hK γ a w hs (Ext.refl _ _ _ _) fun t _=>rfl⟩
 | succ n ih =>
   intro listed σ γ a w h hs hK;refine⟨fun h0=>?_,fun i hi=>?_⟩
   ·obtain rfl:=h.1 h0;exact hK γ a w hs (Ext.refl _ _ _ _) fun t _=>rfl
   ·obtain⟨o,σ1,h1,h2,h3,h4⟩:=h.2 i hi;have hmem:o∈ops.toList:=by
     have:=Jt h1;simpa using this
    have Dw:(i,o)∈number 0 ops.toList:=by
     have:=vI (l:=ops.toList) (k:=0) (j:=i) (o:=o) (by simpa using h1);simpa using this
    unfold wpOp;rw[h1];dsimp only;have hw:Region.wanted o (yielded ops a.tmps)=true:=by unfold Region.wanted;rw[h2]
    rw[hw];simp only[iE];refine .inl (vo hc dy fE hs (hd o hmem) (oE (E4 i o h1) h3) fun dS v w1 s1 x1=>?_);refine ih _ σ1 dS _ w1 h4 s1 fun oY a2 w2 s2 x2 f2=>hK oY a2 w2 s2 (x1.trans x2) fun t ht=>?_;rw[f2 t ht,cK (vJ ht Dw)]
theorem bE.draw{a:Act}{w:World}(h:bE B N γ σ a w)(n:Nat):bE B N γ σ a { w with drawn:=n }∧Ext B γ σ.mem w γ σ.mem { w with drawn:=n }:=by
 obtain⟨m1,m2⟩:=h.ok.LY (w':={ w with drawn:=n }) (I':=γ.I) ⟨rfl,rfl,rfl,dB _,fun _ _=>rfl⟩ (fun _ _ k=>k) (fun b o k=>h.ok.kO b o k) (fun b o k k'=>absurd k k');exact⟨h.go m2 m1,m2⟩
theorem zo(qV:P.follows .mixedOrders=true)(hc:dw P cx)(dy:jD P B.G cx)(fE:mb P B.G inl){Q:Exit→Act→World→Prop}{id:Nat}{a:Act}{w:World}
  (hd:∀o∈ops.toList,∀k,o.dst=some k→k<N) (hr:(uJ cx nb bf inl (number 0 ops.toList) [] σ).run=some σ') (h:bE B N γ σ a w)
  (hK:∀γ' a' w',bE B N γ' σ' a' w'→Ext B γ σ.mem w γ' σ'.mem w'→Fr (number 0 ops.toList) a a'→Q .normal a' w'):(Code.region id ops true).wp P Q a w:=by
 refine wp_region_any qV ?_;obtain⟨fs,f1,fm,f2⟩:=zn (ops:=ops) ops.toList 0 [] σ (fun j o hj=>by simpa using hj) jb.nil hr
 let fp:Nat→Fp:=fun i=>(fs[i]?.map (·.1)).getD ⟨[],[],true,none⟩
 obtain⟨g1,_⟩:=f2 fp fun j f hj=>by simp[fp,hj]
 have key:∀(l:List Oper) (k:Nat) (σ:St),Iu cx nb bf inl ops fp k l σ σ'→∀j o,l[j]?=some o→(fp (k+j)).ug=false→AV cx nb o (fp (k+j)):=by
  intro l;induction l with
  | nil=>intro k σ _ j o hj;cases hj
  | cons o l ih =>
    intro k σ hL j o' hj;obtain⟨c1,c2,L4,c3,c4,σ1,c5,c6⟩:=hL;cases j with
    | zero=>obtain rfl:=au hj;exact c2
    | succ j=>rw[show k+(j+1)=k+1+j by omega];exact ih (k+1) σ1 c6 j o' (by simpa using hj)
 have hA:=Gz (ops:=ops) (cx:=cx) (nb:=nb) (bf:=bf) (inl:=inl) (fp:=fp) (σ':=σ') ops.toList 0 (Array.replicate ops.size false) σ (by simp) (by simp) (fun j hj=>by omega)
  (fun j _ hj=>by simp[hj]) (fun i o e hi=>by
   exfalso;rcases rF i ops.size with h'|h'<;>simp[h'] at hi) g1
 obtain⟨s1,x1⟩:=h.draw (w.drawn+1);refine xo hc dy fE (fun i o hi=>by have:=key _ 0 σ g1 i o (by simpa using hi);simpa using this) hd _ _ σ γ a _ (by simpa using hA) s1 fun γ' a' w' s x f=>hK γ' a' w' s (x1.trans x) f
end
end Go.Ge
namespace Go.Ge
open RowKit
section
variable {cx:Ctx} {nb:Nat} {bf:List Nat} {inl:Nat→List av→St→Tree (av×St)} {ops:Array Oper} {fp:Nat→Fp}
abbrev wC:=St×(Nat→Bool)
def pZ(ops:Array Oper)(o:Oper)(s:wC):Option Bool:=match o.guard with
 | none=>some true
 | some (g,want)=>match(ops[g]?).bind (·.dst) with
   | none=>none
   | some dg=>bif s.2 g then some false else match s.1.slots dg with
     | .data .bool c=>some ((show Bool from c)==want)
     | _=>none
def gq(cx:Ctx)(nb:Nat)(bf:List Nat)(inl:Nat→List av→St→Tree (av×St))(ops:Array Oper)(f:Fp)(i:Nat)(o:Oper)(s:wC):Option wC:=match pZ ops o s with
 | none=>none
 | some true=>(dK cx nb bf inl f o s.1).run.map fun σ=>(σ,s.2)
 | some false=>some (s.1.aA o.dst .undef,dn i s.2)
def Lo:St:={ slots:=fun _=>.undef,mem:=fun _=>none }
theorem AZ(σ:St)(d:Option Nat):σ.aA d .undef=lay σ d [] Lo:=by
 unfold lay;cases d with
 | none=>rfl
 | some k=>rfl
theorem x5{f:Fp}{i:Nat}{o:Oper}{s s':wC}(hb:f.ug=false)(h:gq cx nb bf inl ops f i o s=some s'):∃b wr τ,pZ ops o s=some b∧s'=(lay s.1 o.dst wr τ,bif b then s.2 else dn i s.2)∧(∀x∈wr,x∈f.wr) ∧
  ∀s0:wC,pZ ops o s0=some b→(b=true→s0.1.only (tmpsOf (cg o.op)) f.rd=s.1.only (tmpsOf (cg o.op)) f.rd)→gq cx nb bf inl ops f i o s0=some (lay s0.1 o.dst wr τ,bif b then s0.2 else dn i s0.2):=by
 unfold gq at h;cases hd:pZ ops o s with
 | none=>rw[hd] at h;cases h
 | some b =>
   rw[hd] at h;cases b with
   | true =>
     simp only at h;obtain⟨σ',h1,rfl⟩:=Option.map_eq_some_iff.1 h;unfold dK at h1;rw[hb] at h1;simp only[ez] at h1;obtain⟨τ,h2,h3⟩:=bind_some h1;obtain rfl:=au h3;refine⟨true,f.wr,τ,rfl,rfl,fun x hx=>hx,fun s0 h0 h4=>?_⟩;unfold gq;rw[h0];simp only;unfold dK;rw[hb];simp only[ez];rw[Tree.run_bind,h4 rfl,h2];rfl
   | false =>
     simp only at h;obtain rfl:=au h;refine⟨false,[],Lo,rfl,by rw[AZ];rfl,fun x hx=>(nomatch hx),fun s0 h0 _=>?_⟩;unfold gq;rw[h0];simp only;rw[AZ];rfl
theorem A0{i j:Nat}{x y:Oper}{f g:Fp}(h:nE ops i j x y f g=true):f.ug=false∧g.ug=false∧(∀b∈f.wr,b∉g.rd)∧(∀b∈g.wr,b∉f.rd)∧lV x j=true∧lV y i=true ∧
  (∀d,x.dst=some d→d∉pK ops y)∧(∀d,y.dst=some d→d∉pK ops x)∧(∀d e,x.dst=some d→y.dst=some e→d≠e):=by
 simp only[nE,bY,oh] at h;obtain⟨⟨⟨⟨⟨⟨⟨h1,h2⟩,h3⟩,h4⟩,g1⟩,g2⟩,h5⟩,h6⟩:=h;refine⟨h1,h2,fun b hb=>oF h3 hb,fun b hb=>oF h4 hb,g1,g2,fun d hd=>?_,fun d hd=>?_,fun d e hd he=>?_⟩
 ·rw[hd] at h5;simp only[bY,oh] at h5;exact eD.1 h5.1
 ·rw[hd] at h6;simp only[oh] at h6;exact eD.1 h6
 ·rw[hd,he] at h5;simp only[bY,oh] at h5;intro q;subst q;simp at h5
theorem vK{i:Nat}{o:Oper}{s:wC}{d:Option Nat}{wr:List Nat}{τ:St}{b:Bool}(hg:lV o i=true)(hd:∀k,d=some k→k∉pK ops o):pZ ops o (lay s.1 d wr τ,bif b then s.2 else dn i s.2)=pZ ops o s:=by
 unfold pZ;cases hgd:o.guard with
 | none=>rfl
 | some p =>
   obtain⟨g,want⟩:=p;dsimp only;cases KP:(ops[g]?).bind (·.dst) with
   | none=>rfl
   | some dg =>
     dsimp only;have L3:Nat.beq g i=false:=by
      unfold lV at hg;rw[hgd] at hg;simpa using hg
     have h1:(bif b then s.2 else dn i s.2) g=s.2 g:=by
      cases b with
      | true=>rfl
      | false=>simp only[ez,dn,L3,DW]
     have h2:(lay s.1 d wr τ).slots dg=s.1.slots dg:=by
      unfold lay;cases d with
      | none=>rfl
      | some k =>
        have hne:dg≠k:=fun e=>hd k rfl (by
         unfold pK xN;rw[hgd];dsimp only;rw[KP];subst e;exact jU ..)
        simp[dO hne]
     rw[h1,h2]
theorem GB(σ:St){di dj:Option Nat}{wi wj:List Nat}{L2 KO:St}(hd:∀d e,di=some d→dj=some e→d≠e)(hw:∀b∈wi,b∉wj):lay (lay σ dj wj KO) di wi L2=lay (lay σ di wi L2) dj wj KO:=by
 unfold lay
 congr 1
 ·cases di with
  | none=>rfl
  | some k =>
    cases dj with
    | none=>rfl
    | some e =>
      have hne:=hd k e rfl rfl;funext t;dsimp only;by_cases q1:t=k
      ·subst q1;simp[dO hne]
      ·by_cases q2:t=e
       ·subst q2;simp[dO q1]
       ·simp[dO q1,dO q2]
 ·funext b;dsimp only;cases hw1:bC wi b with
  | false=>rfl
  | true =>
    have:b∉wj:=hw b (gE.1 hw1);simp[eD.2 this]
theorem Cu{i j:Nat}{oi oj:Oper}{fi fj:Fp}{s s1 s2:wC}(hap:nE ops i j oi oj fi fj=true)(hsi:∀b∈fi.wr,b∈fi.rd)(h1:gq cx nb bf inl ops fi i oi s=some s1)(h2:gq cx nb bf inl ops fj j oj s1=some s2) :
  ∃s1',gq cx nb bf inl ops fj j oj s=some s1'∧gq cx nb bf inl ops fi i oi s1'=some s2:=by
 obtain⟨b1,b2,w1,w2,g1,g2,d1,d2,d3⟩:=A0 hap;obtain⟨bi,wi,L2,e1,e2,e3,e4⟩:=x5 b1 h1;subst e2;obtain⟨bj,wj,KO,k1,k2,k3,k4⟩:=x5 b2 h2;subst k2;rw[vK g2 d1] at k1;have tm:∀{o:Oper} {k:Nat},k∉pK ops o→k∉tmpsOf (cg o.op):=fun h hm=>h (qc _ hm);have hj:=k4 s k1 fun _=>(qU (fun k hk=>tm (d1 k hk)) (fun b hb=>w1 b (e3 b hb))).symm;refine⟨_,hj,?_⟩;have hi:=e4 (lay s.1 oj.dst wj KO,bif bj then s.2 else dn j s.2) (by rw[vK g1 d2];exact e1) fun _=>qU (fun k hk=>tm (d2 k hk)) (fun b hb=>w2 b (k3 b hb));rw[hi]
 congr 1
 refine Prod.ext ?_ ?_
 ·exact GB s.1 d3 (fun b hb hb2=>w2 b (k3 b hb2) (hsi b (e3 b hb)))
 ·dsimp only;cases bi<;>cases bj<;>first|rfl|skip
  simp only[ez];funext k;simp only[dn];cases Nat.beq k i<;>cases Nat.beq k j<;>rfl
def zp(cx:Ctx)(nb:Nat)(bf:List Nat)(inl:Nat→List av→St→Tree (av×St))(ops:Array Oper)(fp:Nat→Fp)(Q:wC→Prop):Nat→Array Bool→wC→Prop
 | 0,listed,s=>Region.ready .any ops listed=[]∧Q s
 | n+1,listed,s=>(Region.ready .any ops listed=[]→Q s) ∧
  ∀i∈Region.ready .any ops listed,∃o s',ops[i]?=some o∧gq cx nb bf inl ops (fp i) i o s=some s'∧zp cx nb bf inl ops fp Q n (listed.setIfInBounds i true) s'
variable {Q:wC→Prop}
theorem Cv{i:Nat}{oi:Oper}(hi:ops[i]?=some oi)(hsub:∀b∈(fp i).wr,b∈(fp i).rd):∀(n:Nat) (listed:Array Bool) (s s1:wC),
  zm ops listed→(∀j oj,ops[j]?=some oj→j≠i→listed.getD j true=false→Reach ops j i∨nE ops i j oi oj (fp i) (fp j)=true) →
  i∈Region.ready .any ops listed→gq cx nb bf inl ops (fp i) i oi s=some s1→zp cx nb bf inl ops fp Q n (listed.setIfInBounds i true) s1→zp cx nb bf inl ops fp Q (n+1) listed s:=by
 intro n;induction n with
 | zero =>
   intro listed s s1 kr hfree hr h1 H;refine⟨fun h=>(by rw[h] at hr;cases hr),fun j hj=>?_⟩;by_cases hji:j=i
   ·subst hji;exact⟨oi,s1,hi,h1,H⟩
   ·have:=ready_mono hj hji;rw[H.1] at this;cases this
 | succ n ih =>
   intro listed s s1 kr hfree hr h1 H;refine⟨fun h=>(by rw[h] at hr;cases hr),fun j hj=>?_⟩;by_cases hji:j=i
   ·subst hji;exact⟨oi,s1,hi,h1,H⟩
   ·obtain⟨oj,s2,Kj,h2,H2⟩:=H.2 j (ready_mono hj hji);obtain⟨Gv,ON,Gw,hall⟩:=mem_ready.1 hj;rw[Kj] at Gw;obtain rfl:=au Gw;have hap:nE ops i j oi oj (fp i) (fp j)=true:=by
     rcases hfree j oj Kj hji Gv with hw|hap
     ·exact(AY (mem_ready.1 hr).1 (hw.ready kr hj)).elim
     ·exact hap
    obtain⟨s1',k1,k2⟩:=Cu hap hsub h1 h2;refine⟨oj,s1',Kj,k1,ih (listed.setIfInBounds j true) s1' s2 (kr.list hj) (fun k ok hk hki hun=>hfree k ok hk hki ?_) (ready_mono hr (uB hji)) k2 ?_⟩
    ·by_cases Gx:j=k
     ·subst Gx;exact Gv
     ·rw[getD_set_ne true Gx] at hun;exact hun
    ·rw[Jn _ _ hji];exact H2
end
end Go.Ge
namespace Go.Ge
open RowKit
section
variable {P:Program} {B:iP} {N:Nat} {γ:Gh} {cx:Ctx} {nb:Nat} {bf:List Nat} {inl:Nat→List av→St→Tree (av×St)} {σ σ':St} {ops:Array Oper} {fp:Nat→Fp}
theorem GC{σ:St}{d:Nat}{v:av}(h:σ.slots d=v):σ.put d v=σ:=by
 unfold St.put;obtain⟨sl,mm⟩:=σ
 congr 1
 funext t;cases hb:Nat.beq t d with
 | true=>obtain rfl:=cB hb;exact h.symm
 | false=>rfl
def Iv(cx:Ctx)(nb:Nat)(bf:List Nat)(inl:Nat→List av→St→Tree (av×St))(ops:Array Oper)(fp:Nat→Fp):Nat→List Oper→wC→wC→Prop
 | _,[],s,s'=>s=s'
 | k,o::l,s,s'=>(((fp k).ug=false→AV cx nb o (fp k))∧((fp k).ug=true→(fp k).wr=[]))∧(∀e∈o.after,Region.binds .any e=true→e.on<k) ∧
  (∀j oj,l[j]?=some oj→Reach ops (k+1+j) k∨nE ops k (k+1+j) o oj (fp k) (fp (k+1+j))=true) ∧
  ∃s1,gq cx nb bf inl ops (fp k) k o s=some s1∧Iv cx nb bf inl ops fp (k+1) l s1 s'
theorem sX{i:Nat}{o:Oper}{f fk:Fp}{k m mk:Nat}{ok:Oper}{r:List nD}(h:pL ops i o f m ((k,ok,fk,mk)::r)=true):(Nat.testBit m k=true∨nE ops k i ok o fk f=true)∧pL ops i o f m r=true:=by
 simp only[pL,bY,uz] at h;exact h
theorem vL{i:Nat}{o:Oper}{r:List (Nat×Oper)}{done:List nD}{sk:Nat→Bool}(h:(jA cx nb bf inl ops ((i,o)::r) done σ sk).run=some σ') :
  ∃s1:wC,pL ops i o (lU cx nb o σ) (mask done o) done=true∧(∀e∈o.after,Region.binds .any e=true→e.on<i)∧gq cx nb bf inl ops (lU cx nb o σ) i o (σ,sk)=some s1 ∧
   (jA cx nb bf inl ops r ((i,o,lU cx nb o σ,mask done o)::done) s1.1 s1.2).run=some σ':=by
 simp only[jA] at h;obtain⟨hc,h1⟩:=ai h;simp only[bY] at hc;obtain⟨MM,L5⟩:=hc;have Lq:∀e∈o.after,Region.binds .any e=true→e.on<i:=fun e he hb=>by
  rw[←Array.all_toList,tr] at L5;have:=L5 e (by simpa using he);rw[hb] at this;have:=tq (by simpa [Nat.blt] using this);omega
 suffices ∃s1:wC,gq cx nb bf inl ops (lU cx nb o σ) i o (σ,sk)=some s1∧(jA cx nb bf inl ops r ((i,o,lU cx nb o σ,mask done o)::done) s1.1 s1.2).run=some σ' by
  obtain⟨s1,k1,k2⟩:=this;exact⟨s1,MM,Lq,k1,k2⟩
 split at h1
 ·rename_i hg;obtain⟨σ1,h2,h3⟩:=bind_some h1;refine⟨(σ1,sk),?_,h3⟩;have hd:pZ ops o (σ,sk)=some true:=by unfold pZ;rw[hg]
  unfold gq;rw[hd];dsimp only;rw[h2];rfl
 ·rename_i g want hg;split at h1
  ·cases h1
  ·rename_i dg KP;cases Iw:sk g with
   | true =>
     rw[Iw] at h1;refine⟨(σ.aA o.dst .undef,dn i sk),?_,h1⟩;have hd:pZ ops o (σ,sk)=some false:=by unfold pZ;rw[hg];dsimp only;rw[KP];dsimp only;rw[Iw];rfl
     unfold gq;rw[hd]
   | false =>
     rw[Iw] at h1;simp only[ez] at h1;split at h1
     ·rename_i c qR;change Bool at c;have hn:=cT h1;have hd:pZ ops o (σ,sk)=some (c==want):=by unfold pZ;rw[hg];dsimp only;rw[KP];dsimp only;rw[Iw];simp only[ez];rw[qR]
      have hput:=GC qR;have run:∀{σ1:St},(dK cx nb bf inl (lU cx nb o σ) o σ).run=some σ1→(c==want)=true→gq cx nb bf inl ops (lU cx nb o σ) i o (σ,sk)=some (σ1,sk):=fun h2 hw=>by
       unfold gq;rw[hd,hw];dsimp only;rw[h2];rfl
      have skip:(c==want)=false→gq cx nb bf inl ops (lU cx nb o σ) i o (σ,sk)=some (σ.aA o.dst .undef,dn i sk):=fun hw=>by
       unfold gq;rw[hd,hw]
      cases c with
      | true =>
        simp only[bZ] at hn;rw[hput] at hn;cases want with
        | true=>obtain⟨σ1,h2,h3⟩:=bind_some hn;exact⟨(σ1,sk),run h2 rfl,h3⟩
        | false=>exact⟨_,skip rfl,hn⟩
      | false =>
        simp only[ez] at hn;rw[hput] at hn;cases want with
        | true=>exact⟨_,skip rfl,hn⟩
        | false=>obtain⟨σ1,h2,h3⟩:=bind_some hn;exact⟨(σ1,sk),run h2 rfl,h3⟩
     ·cases h1
theorem xp:∀(l:List Oper) (k:Nat) (done:List nD) (σ:St) (sk:Nat→Bool),(∀j o,l[j]?=some o→ops[k+j]?=some o)→jb ops done→(jA cx nb bf inl ops (number k l) done σ sk).run=some σ' →
  ∃(fs:List (Fp×Nat)) (Lr:Nat→Bool),fs.length=l.length∧(∀j m b,fs[j]?=some m→Nat.testBit m.2 b=true→Reach ops (k+j) b) ∧
   ∀fp:Nat→Fp,(∀j f,fs[j]?=some f→fp (k+j)=f.1)→Iv cx nb bf inl ops fp k l (σ,sk) (σ',Lr)∧∀j o f,l[j]?=some o→fs[j]?=some f→pL ops (k+j) o (fp (k+j)) f.2 done=true:=by
 intro l;induction l with
 | nil =>
   intro k done σ sk _ _ h;obtain rfl:=au h;exact⟨[],sk,rfl,fun j m b h=>absurd h (by simp),fun fp _=>⟨rfl,fun j o f hj=>absurd hj (by simp)⟩⟩
 | cons o l ih =>
   intro k done σ sk hl hm h;obtain⟨s1,h2,h3,h4,h5⟩:=vL (r:=number (k+1) l) h;have hk:ops[k]?=some o:=hl 0 o rfl;obtain⟨fs,Lr,f1,fm,f2⟩:=ih (k+1) _ s1.1 s1.2 (fun j o' hj=>by have:=hl (j+1) o' (by simpa using hj);rw[←this];congr 1;omega) (hm.cons hk) h5;refine⟨(lU cx nb o σ,mask done o)::fs,Lr,by simp[f1],fun j m b hj hb=>?_,fun fp E4=>?_⟩
   ·cases j with
    | zero=>obtain rfl:=au hj;exact pY hm hk hb
    | succ j=>have:=fm j m b (by simpa using hj) hb;rw[show k+(j+1)=k+1+j by omega];exact this
   have h0:fp k=lU cx nb o σ:=E4 0 _ rfl;obtain⟨g1,g2⟩:=f2 fp fun j f hj=>by have:=E4 (j+1) f (by simpa using hj);rw[←this];congr 1;omega
   refine⟨⟨⟨fun hb=>by rw[h0] at hb⊢;exact uv o σ hb,fun hb=>by rw[h0] at hb⊢;exact Gy o σ hb⟩,h3,fun j oj hj=>?_,s1,by rw[h0];exact h4,g1⟩,fun j o' f hj hf=>?_⟩
   ·obtain⟨f,hf⟩:∃f,fs[j]?=some f:=⟨_,sC (by rw[f1];exact(List.getElem?_eq_some_iff.1 hj).1)⟩;rcases(sX (g2 j oj f hj hf)).1 with q|q
    ·exact .inl (fm j f k hf q)
    ·rw[h0];exact .inr q
   ·cases j with
    | zero =>
      obtain rfl:=au hj;obtain rfl:=au hf;rw[pH,h0];exact h2
    | succ j =>
      have:=(sX (g2 j o' f (by simpa using hj) (by simpa using hf))).2;rw[show k+(j+1)=k+1+j by omega];exact this
theorem GD{s':wC}:∀(l:List Oper) (k:Nat) (listed:Array Bool) (s:wC),(∀j,l[j]?=ops[k+j]?)→listed.size=ops.size→(∀j,j<k→j<ops.size→listed.getD j false=true) →
  (∀j,k≤j→j<ops.size→listed.getD j true=false)→zm ops listed→Iv cx nb bf inl ops fp k l s s'→zp cx nb bf inl ops fp (·=s') l.length listed s:=by
 intro l;induction l with
 | nil =>
   intro k listed s hl hs h1 h2 kr h;refine⟨?_,h⟩;cases hr:Region.ready .any ops listed with
   | nil=>rfl
   | cons i r =>
     exfalso;have hi:i∈Region.ready .any ops listed:=by rw[hr];exact jU ..
     obtain⟨g1,o,g2,_⟩:=mem_ready.1 hi;have hlt:i<ops.size:=(Array.getElem?_eq_some_iff.1 g2).1;rcases rF i k with hk|hk
     ·have:=h1 i hk hlt;simp[hs,hlt] at this g1;rw[this] at g1;cases g1
     ·have:=hl (i-k);rw[show k+(i-k)=i by omega,g2] at this;cases this
 | cons o l ih =>
   intro k listed s hl hs h1 h2 kr h;have hk:ops[k]?=some o:=by simpa using(hl 0).symm
   have hlt:k<ops.size:=(Array.getElem?_eq_some_iff.1 hk).1;obtain⟨c2,c3,c4,s1,c5,c6⟩:=h;have vH:k∈Region.ready .any ops listed:=mem_ready.2 ⟨h2 k (dB _) hlt,o,hk,fun e he hb=>by
    have:=c3 e he hb;exact h1 e.on this (by omega)⟩
   refine Cv hk (fun b hb=>by
    cases zl:(fp k).ug with
    | true=>rw[c2.2 zl] at hb;cases hb
    | false=>exact(c2.1 zl).sub b hb) l.length listed s s1 kr (fun j oj hj hne hun=>?_) vH c5 (ih (k+1) _ s1 (fun j=>?_) (by simp[hs]) (fun j hj HJ=>?_) (fun j hj HJ=>?_) (kr.list vH) c6)
   ·have GA:j<ops.size:=(Array.getElem?_eq_some_iff.1 hj).1;rcases rF j k with Gx|Gx
    ·exfalso;have:=h1 j Gx GA;simp[hs,GA] at this hun;rw[this] at hun;cases hun
    ·have hq:=hl (j-k);rw[show k+(j-k)=j by omega,hj] at hq;obtain⟨m,hm⟩:∃m,j-k=m+1:=⟨j-k-1,by omega⟩;rw[hm] at hq;have:=c4 m oj (by simpa using hq);rw[show k+1+m=j by omega] at this;exact this
   ·have:=hl (j+1);rw[show k+1+j=k+(j+1) by omega,←this];simp
   ·by_cases e:j=k
    ·subst e;simp[hs,hlt]
    ·rw[getD_set_ne false (uB e)];exact h1 j (by omega) HJ
   ·rw[getD_set_ne true (by omega:k≠j)];exact h2 j (by omega) HJ
theorem Cw(hkeep:∀f vals σ v σ',(inl f vals σ).run=some (v,σ')→aE σ σ'):∀(l:List Oper) (k:Nat) (done:List nD) (σ σ':St) (sk:Nat→Bool),(jA cx nb bf inl ops (number k l) done σ sk).run=some σ'→aE σ σ':=by
 intro l;induction l with
 | nil=>intro k done σ σ' sk h;obtain rfl:=au h;exact aE.refl _
 | cons o l ih =>
   intro k done σ σ' sk h;obtain⟨s1,h2,h3,h4,h5⟩:=vL (r:=number (k+1) l) h;refine aE.trans ?_ (ih _ _ _ _ _ h5);unfold gq at h4;split at h4
   ·cases h4
   ·obtain⟨σ1,q1,rfl⟩:=Option.map_eq_some_iff.1 h4;exact nP hkeep σ1 (oE (fun hb=>uv o σ hb) q1)
   ·obtain rfl:=au h4;exact aE.aA _ _ _
end
end Go.Ge
namespace Go.Ge
open RowKit
section
variable {P:Program} {B:iP} {N:Nat} {γ:Gh} {cx:Ctx} {nb:Nat} {bf:List Nat} {inl:Nat→List av→St→Tree (av×St)} {σ σ':St} {ops:Array Oper} {fp:Nat→Fp}
theorem Cx{l:List Oper}{j:Nat}{o:Oper}{d:Nat}(h:l[j]?=some o)(hd:o.dst=some d):d∈fe.rL l:=by
 induction l generalizing j with
 | nil=>cases h
 | cons p l ih =>
   cases j with
   | zero=>obtain rfl:=au h;simp only[fe.rL,hd];exact jU ..
   | succ j =>
     have:=ih (j:=j) (by simpa using h);simp only[fe.rL];split
     ·exact jT _ this
     ·exact this
theorem vM:∀{l:List Oper},fe l=true→∀{i j:Nat} {x y:Oper} {d:Nat},i<j→l[i]?=some x→l[j]?=some y→x.dst=some d→y.dst≠some d:=by
 intro l;induction l with
 | nil=>intro _ i j x y d _ h;cases h
 | cons p l ih =>
   intro h i j x y d hij hx hy hd he;simp only[fe,bY] at h;obtain⟨m,rfl⟩:∃m,j=m+1:=⟨j-1,by omega⟩;have hy':l[m]?=some y:=by simpa using hy
   cases i with
   | zero =>
     obtain rfl:=au hx;have h1:=h.1;rw[hd] at h1;simp only[oh] at h1;exact eD.1 h1 (Cx hy' he)
   | succ i=>exact ih h.2 (i:=i) (j:=m) (by omega) (by simpa using hx) hy' hd he
theorem Cy(h:fe ops.toList=true){i j:Nat}{x y:Oper}{d:Nat}(hij:i≠j)(hx:ops[i]?=some x)(hy:ops[j]?=some y)(hd:x.dst=some d):y.dst≠some d:=by
 rcases Nat.lt_or_gt_of_ne hij with h1|h1
 ·exact vM h h1 (by simpa using hx) (by simpa using hy) hd
 ·intro he;exact vM h h1 (by simpa using hy) (by simpa using hx) he hd
def Cz(ops:Array Oper)(sk:Nat→Bool)(listed:Array Bool)(a:Act):Prop:=∀k,sk k=true→yielded ops a.tmps k=none∧listed.getD k true=true
theorem kY{a:Act}{i k:Nat}{o:Oper}{v:Value}(hnt:fe ops.toList=true)(hi:ops[i]?=some o)(hne:k≠i):yielded ops (a.put o.dst v).tmps k=yielded ops a.tmps k:=by
 unfold yielded;cases hk:ops[k]? with
 | none=>rfl
 | some y =>
   simp only[zQ];cases hd:y.dst with
   | none=>rfl
   | some dk =>
     simp only[zQ];have:o.dst≠some dk:=Cy hnt hne hk hi hd;rw[cK this]
theorem Cz.run{sk:Nat→Bool}{listed:Array Bool}{a:Act}{i:Nat}{o:Oper}{v:Value}(h:Cz ops sk listed a)(hnt:fe ops.toList=true)(hi:ops[i]?=some o)(hl:listed.getD i true=false):Cz ops sk (listed.setIfInBounds i true) (a.put o.dst v):=fun k hk=>by
 obtain⟨h1,h2⟩:=h k hk;have hne:k≠i:=fun e=>by subst e;rw[h2] at hl;cases hl
 exact⟨by rw[kY hnt hi hne];exact h1,by rw[getD_set_ne true (uB hne)];exact h2⟩
theorem Cz.skip{sk:Nat→Bool}{listed:Array Bool}{a:Act}{i:Nat}{o:Oper}(h:Cz ops sk listed a)(hnt:fe ops.toList=true)(hi:ops[i]?=some o)(hl:listed.getD i true=false):Cz ops (dn i sk) (listed.setIfInBounds i true) (a.put o.dst Go.undef):=fun k hk=>by
 by_cases hne:k=i
 ·subst hne;refine⟨qP hi,?_⟩;rcases rF k listed.size with h'|h'
  ·simp[h']
  ·simp[Ff h'] at hl
 ·have hk':sk k=true:=by
   simp only[dn,dO hne,DW] at hk;exact hk
  obtain⟨h1,h2⟩:=h k hk';exact⟨by rw[kY hnt hi hne];exact h1,by rw[getD_set_ne true (uB hne)];exact h2⟩
theorem xq(hc:dw P cx)(dy:jD P B.G cx)(fE:mb P B.G inl){Q:Exit→Act→World→Prop}(hnt:fe ops.toList=true)(E4:∀i o,ops[i]?=some o→(fp i).ug=false→AV cx nb o (fp i))
  (hd:∀o∈ops.toList,∀k,o.dst=some k→k<N):∀(n:Nat) (listed:Array Bool) (s:wC) (γ:Gh) (a:Act) (w:World),zp cx nb bf inl ops fp (fun s=>s.1=σ') n listed s→bE B N γ s.1 a w→Cz ops s.2 listed a →
   (∀γ' a' w',bE B N γ' σ' a' w'→Ext B γ s.1.mem w γ' σ'.mem w'→Fr (number 0 ops.toList) a a'→Q .normal a' w')→wpAny P .any ops Q n listed a w:=by
 intro n;induction n with
 | zero =>
   intro listed s γ a w h hs Iw hK;obtain⟨h1,h2⟩:=h;rw[←h2] at hK;exact⟨h1,hK γ a w hs (Ext.refl _ _ _ _) fun t _=>rfl⟩
 | succ n ih =>
   intro listed s γ a w h hs Iw hK;refine⟨fun h0=>?_,fun i hi=>?_⟩
   ·have h2:=h.1 h0;rw[←h2] at hK;exact hK γ a w hs (Ext.refl _ _ _ _) fun t _=>rfl
   ·obtain⟨o,s1,h1,h3,h4⟩:=h.2 i hi;have hun:=(mem_ready.1 hi).1;have hmem:o∈ops.toList:=by
     have:=Jt h1;simpa using this
    have Dw:(i,o)∈number 0 ops.toList:=by
     have:=vI (l:=ops.toList) (k:=0) (j:=i) (o:=o) (by simpa using h1);simpa using this
    have hw:∀b,pZ ops o s=some b→Region.wanted o (yielded ops a.tmps)=b:=by
     intro b hb;unfold pZ at hb;cases hgd:o.guard with
     | none =>
       rw[hgd] at hb;obtain rfl:=au hb;unfold Region.wanted;rw[hgd]
     | some p =>
       obtain⟨g,want⟩:=p;rw[hgd] at hb;dsimp only at hb;split at hb
       ·cases hb
       ·rename_i dg KP;cases hg:s.2 g with
        | true =>
          rw[hg] at hb;obtain rfl:=au hb;unfold Region.wanted;rw[hgd];simp only[(Iw g hg).1];rfl
        | false =>
          rw[hg] at hb;simp only[ez] at hb;split at hb
          ·rename_i c qR;change Bool at c;obtain rfl:=au hb;have ht:=sV hs qR;unfold Region.wanted;rw[hgd];simp only[yielded,KP,zQ,ht];cases c<;>cases want<;>rfl
          ·cases hb
    unfold wpOp;rw[h1];dsimp only;unfold gq at h3;split at h3
    ·cases h3
    ·rename_i Kk;obtain⟨σ1,q1,rfl⟩:=Option.map_eq_some_iff.1 h3;rw[hw true Kk];simp only[iE];refine .inl (vo hc dy fE hs (hd o hmem) (oE (E4 i o h1) q1) fun dS v w1 s1 x1=>?_);refine ih _ (σ1,s.2) dS _ w1 h4 s1 (Iw.run hnt h1 hun) fun oY a2 w2 s2 x2 f2=>hK oY a2 w2 s2 (x1.trans x2) fun t ht=>?_;rw[f2 t ht,cK (vJ ht Dw)]
    ·rename_i Kk;obtain rfl:=au h3;rw[hw false Kk];simp only[BC,rG];have hs1:bE B N γ (s.1.aA o.dst .undef) (a.put o.dst Go.undef) w:=hs.nG (hd o hmem) ⟨_,rfl⟩;have hm:(s.1.aA o.dst .undef).mem=s.1.mem:=by cases o.dst<;>rfl
     refine ih _ (s.1.aA o.dst .undef,dn i s.2) γ _ w h4 hs1 (Iw.skip hnt h1 hun) fun oY a2 w2 s2 x2 f2=>hK oY a2 w2 s2 (by rw[←hm];exact x2) fun t ht=>?_;rw[f2 t ht,cK (vJ ht Dw)]
theorem zp.mono{Q Q':wC→Prop}(hq:∀s,Q s→Q' s):∀{n:Nat} {listed:Array Bool} {s:wC},zp cx nb bf inl ops fp Q n listed s→zp cx nb bf inl ops fp Q' n listed s:=by
 intro n;induction n with
 | zero=>intro listed s h;exact⟨h.1,hq _ h.2⟩
 | succ n ih =>
   intro listed s h;refine⟨fun h0=>hq _ (h.1 h0),fun i hi=>?_⟩;obtain⟨o,s',h1,h2,h3⟩:=h.2 i hi;exact⟨o,s',h1,h2,ih h3⟩
theorem zq(qV:P.follows .mixedOrders=true)(hc:dw P cx)(dy:jD P B.G cx)(fE:mb P B.G inl){Q:Exit→Act→World→Prop}{id:Nat}{a:Act}{w:World}(hnt:fe ops.toList=true)
  (hd:∀o∈ops.toList,∀k,o.dst=some k→k<N) (hr:(jA cx nb bf inl ops (number 0 ops.toList) [] σ (fun _=>false)).run=some σ') (h:bE B N γ σ a w)
  (hK:∀γ' a' w',bE B N γ' σ' a' w'→Ext B γ σ.mem w γ' σ'.mem w'→Fr (number 0 ops.toList) a a'→Q .normal a' w'):(Code.region id ops true).wp P Q a w:=by
 refine wp_region_any qV ?_;obtain⟨fs,Lr,f1,fm,f2⟩:=xp (ops:=ops) ops.toList 0 [] σ (fun _=>false) (fun j o hj=>by simpa using hj) jb.nil hr
 let fp:Nat→Fp:=fun i=>(fs[i]?.map (·.1)).getD ⟨[],[],true,none⟩
 obtain⟨g1,_⟩:=f2 fp fun j f hj=>by simp[fp,hj]
 have key:∀(l:List Oper) (k:Nat) (s s':wC),Iv cx nb bf inl ops fp k l s s'→∀j o,l[j]?=some o→(fp (k+j)).ug=false→AV cx nb o (fp (k+j)):=by
  intro l;induction l with
  | nil=>intro k s s' _ j o hj;cases hj
  | cons o l ih =>
    intro k s s' hL j o' hj;obtain⟨c2,c3,c4,s1,c5,c6⟩:=hL;cases j with
    | zero=>obtain rfl:=au hj;exact c2.1
    | succ j=>rw[show k+(j+1)=k+1+j by omega];exact ih (k+1) s1 s' c6 j o' (by simpa using hj)
 have hA:=GD (ops:=ops) (cx:=cx) (nb:=nb) (bf:=bf) (inl:=inl) (fp:=fp) (s':=(σ',Lr)) ops.toList 0 (Array.replicate ops.size false) (σ,fun _=>false) (by simp) (by simp) (fun j hj=>by omega)
  (fun j _ hj=>by simp[hj]) (fun i o e hi=>by
   exfalso;rcases rF i ops.size with h'|h'<;>simp[h'] at hi) g1
 have OO:=zp.mono (Q':=fun s:wC=>s.1=σ') (fun s hs=>by rw[hs]) hA;obtain⟨s1,x1⟩:=h.draw (w.drawn+1);refine xq hc dy fE hnt (fun i o hi=>by have:=key _ 0 _ _ g1 i o (by simpa using hi);simpa using this) hd _ _ (σ,fun _=>false) γ a _ (by simpa using OO) s1 (fun k hk=>by cases hk) fun γ' a' w' s x f=>hK γ' a' w' s (x1.trans x) f
theorem A1(qV:P.follows .mixedOrders=true)(hc:dw P cx)(dy:jD P B.G cx)(fE:mb P B.G inl){Q:Exit→Act→World→Prop}{id:Nat}{a:Act}{w:World}
  (hd:∀o∈ops.toList,∀k,o.dst=some k→k<N) (hr:(lW cx nb bf inl ops σ).run=some σ') (h:bE B N γ σ a w)
  (hK:∀γ' a' w',bE B N γ' σ' a' w'→Ext B γ σ.mem w γ' σ'.mem w'→Fr (number 0 ops.toList) a a'→Q .normal a' w'):(Code.region id ops true).wp P Q a w:=by
 unfold lW at hr;cases hg:ops.any fun o=>o.guard.isSome with
 | true =>
   rw[hg] at hr;obtain⟨hnt,hr2⟩:=ai (show(bif fe ops.toList then jA cx nb bf inl ops (number 0 ops.toList) [] σ (fun _=>false) else .fail).run=some σ' from hr);exact zq qV hc dy fE hnt hd hr2 h hK
 | false =>
   rw[hg] at hr;exact zo qV hc dy fE hd hr h hK
end
end Go.Ge
namespace Go.Ge
open RowKit
def jL(f:Nat→aI→Bool)(mem:Nat→Option aI):Nat→Option aI:=fun b=>match mem b with|some bx=>some { bx with lk:=f b bx }|none=>none
section
variable {P:Program} {B:iP} {N:Nat} {γ Fa:Gh} {mem m0 me m1:Nat→Option aI} {w w0:World} {f:Nat→aI→Bool}
theorem x6{b:Nat}{bx:aI}(h:mem b=some bx):jL f mem b=some { bx with lk:=f b bx }:=by simp[jL,h]
theorem A2{b:Nat}{bx:aI}(h:jL f mem b=some bx):∃bF,mem b=some bF∧bx={ bF with lk:=f b bF }:=by
 simp only[jL] at h;split at h
 ·rename_i bF h0;exact⟨bF,h0,(au h).symm⟩
 ·cases h
theorem Ext.jL:Ext B γ mem w γ (jL f mem) w where
 below:=jR.refl _ _
 I:=fun _ _ h=>h
 kP:=fun _ _ h=>.inl h
 cells:=fun _ _ _=>rfl
 boxes:=fun b bx hb=>⟨_,x6 hb,dB _,fun _=>⟨rfl,rfl,rfl⟩⟩
theorem aG.jL(h:aG B γ mem w):aG B γ (Go.Ge.jL f mem) w:=by
 have hne:∀{b},Go.Ge.jL f mem b≠none→mem b≠none:=by
  intro b hb hq;apply hb;simp[Go.Ge.jL,hq]
 exact
  { bX:=h.bX
    base:=h.base
    boxes:=fun b bx hb=>by
     obtain⟨bF,h0,rfl⟩:=A2 hb;exact(h.boxes b bF h0).keep (Ext.jL (B:=B) (γ:=γ) (w:=w) (f:=f) (mem:=mem)) rfl (fun _ _ _=>rfl)
    inj:=fun b c blk k k' hb hc h1 h2=>h.inj b c blk k k' (hne hb) (hne hc) h1 h2
    fresh:=fun b blk k hb h1=>h.fresh b blk k (hne hb) h1
    kO:=h.kO
    sep:=fun b bx blk k off hb h1 hi=>by
     obtain⟨bF,h0,rfl⟩:=A2 hb;exact h.sep b bF blk k off h0 h1 hi }
theorem bE.jL{σ:St}{a:Act}(h:bE B N γ σ a w):bE B N γ { σ with mem:=Go.Ge.jL f σ.mem } a w:=h.go Ext.jL h.ok.jL
def Mid(m0 me m1:Nat→Option aI):Prop:=∀b bF,m0 b=some bF→∃kZ,m1 b=some kZ∧bF.ag≤kZ.ag ∧
 (kZ.ag=bF.ag→∃nq,me b=some nq∧nq.ag=bF.ag∧nq.buf=kZ.buf∧nq.row=kZ.row)
theorem fM.down(hm:Mid m0 me m1){b ag:Nat}{K0 K K':aI→Prop}(h0:fM m0 b ag K0)(h:fM me b ag K)(hK:∀nq kZ:aI,nq.buf=kZ.buf→nq.row=kZ.row→K nq→K' kZ):fM m1 b ag K':=by
 obtain⟨bF,h1,h2,_⟩:=h0;obtain⟨nq,k1,k2,k3⟩:=h;obtain⟨kZ,l1,l2,l3⟩:=hm b bF h1;refine⟨kZ,l1,by omega,fun e=>?_⟩;obtain⟨MN,q1,q2,q3,q4⟩:=l3 (by omega);rw[k1] at q1;obtain rfl:=au q1;exact hK nq kZ q3 q4 (k3 (by omega))
theorem aV.down(hm:Mid m0 me m1):∀{v:av} {m:Mode} {us vs:List Value},aV Fa m0 w0 v m us→aV γ me w v m vs→aV γ m1 w v m vs:=by
 intro v;induction v with
 | undef=>intro m us vs _ r;cases m<;>exact r
 | data t x=>intro m us vs _ r;cases m<;>exact r
 | gA=>intro m us vs _ r;cases m<;>exact r
 | iL=>intro m us vs _ r;cases m<;>exact r
 | cell t x=>intro m us vs _ r;cases m<;>exact r
 | nl=>intro m us vs _ r;cases m<;>exact r
 | jg=>intro m us vs _ r;cases m<;>exact r
 | kS b ag =>
   intro m us vs r0 r;cases m with
   | many=>exact r
   | cells=>exact⟨r.1,r0.2.down hm r.2 fun _ _ _ _ k=>k⟩
   | val=>exact⟨r.1,r0.2.down hm r.2 fun _ _ _ _ k=>k⟩
 | ptr b ag p =>
   intro m us vs r0 r;cases m with
   | many=>exact r
   | cells=>exact⟨r.1,r0.2.down hm r.2 fun _ _ _ _ k=>k⟩
   | val=>exact⟨r.1,r0.2.down hm r.2 fun _ _ _ _ k=>k⟩
 | whole b ag =>
   intro m us vs r0 r;cases m with
   | many=>exact r
   | cells=>exact⟨r.1,r0.2.down hm r.2 fun _ _ e1 e2 k=>by rw[←e1,←e2];exact k⟩
   | val=>exact⟨r.1,r0.2.down hm r.2 fun _ _ e1 e2 k=>by rw[←e1,←e2];exact k⟩
 | part b ag lo n =>
   intro m us vs r0 r;cases m with
   | many=>exact r
   | cells=>exact⟨r.1,r0.2.down hm r.2 fun _ _ e1 e2 k=>by unfold qq at k⊢;rw[←e1,←e2];exact k⟩
   | val=>exact⟨r.1,r0.2.down hm r.2 fun _ _ e1 e2 k=>by unfold qq at k⊢;rw[←e1,←e2];exact k⟩
 | win b ag q e k lo n =>
   intro m us vs r0 r;cases m with
   | many=>exact r
   | cells=>exact⟨r.1,r0.2.down hm r.2 fun _ _ e1 e2 k=>k⟩
   | val=>exact⟨r.1,r0.2.down hm r.2 fun _ _ e1 e2 k=>k⟩
 | fn f caps =>
   intro m us vs r0 r;cases m with
   | many=>exact r
   | cells=>obtain⟨_,_,_,s⟩:=r0;obtain⟨arr,r1,r2,r3⟩:=r;exact⟨arr,r1,r2,fun i b ag hc=>(s i b ag hc).down hm (r3 i b ag hc) fun _ _ _ _ k=>k⟩
   | val=>obtain⟨_,_,_,s⟩:=r0;obtain⟨arr,r1,r2,r3⟩:=r;exact⟨arr,r1,r2,fun i b ag hc=>(s i b ag hc).down hm (r3 i b ag hc) fun _ _ _ _ k=>k⟩
 | mix a b eH fF =>
   intro m us vs r0 r;cases m with
   | cells=>obtain⟨_,_,_,s1,s2⟩:=r0;obtain⟨c1,c2,r0,r1,r2⟩:=r;exact⟨c1,c2,r0,eH s1 r1,fF s2 r2⟩
   | val=>obtain⟨_,_,_,s1,s2⟩:=r0;obtain⟨c1,c2,r0,r1,r2⟩:=r;exact⟨c1,c2,r0,eH s1 r1,fF s2 r2⟩
   | many=>obtain⟨_,_,_,s1,s2⟩:=r0;obtain⟨c1,c2,r0,r1,r2⟩:=r;exact⟨c1,c2,r0,eH s1 r1,fF s2 r2⟩
 | kN u ih =>
   intro m us vs r0 r;cases m with
   | val=>obtain⟨_,_,s⟩:=r0;obtain⟨arr,r1,r2⟩:=r;exact⟨arr,r1,ih s r2⟩
   | cells=>exact r
   | many=>exact r
def GF(M V:Nat→Bool)(m0 me m1:Nat→Option aI):Prop:=∀b bF,m0 b=some bF→∃nq kZ,me b=some nq∧m1 b=some kZ∧nq.buf=bF.buf∧kZ.buf=bF.buf∧kZ.row=nq.row ∧
 kZ.ag=(bif M b&&(bF.buf||V b) then bF.ag+1 else bF.ag)∧((M b&&(bF.buf||V b))=false→nq.ag=bF.ag)
theorem GF.mid{M V:Nat→Bool}(h:GF M V m0 me m1):Mid m0 me m1:=fun b bF hb=>by
 obtain⟨nq,kZ,h1,h2,h3,h4,h5,h6,h7⟩:=h b bF hb;cases hc:(M b&&(bF.buf||V b)) with
 | true =>
   rw[hc] at h6;simp only[bZ] at h6;exact⟨kZ,h2,by omega,fun e=>absurd e (by omega)⟩
 | false =>
   rw[hc] at h6;simp only[ez] at h6;exact⟨kZ,h2,by omega,fun e=>⟨nq,h1,h7 hc,h3.trans h4.symm,h5.symm⟩⟩
def vN:Sh→av→Prop
 | .d _,_=>True
 | .k v,u=>v=u
 | .m a b,u=>∃p q,u=.mix p q∧vN a p∧vN b q
theorem Ix(v:av):vN (HR v) v:=by
 induction v with
 | mix a b eH fF=>exact⟨a,b,rfl,eH,fF⟩
 | data t x=>trivial
 | _=>rfl
theorem GG{t:Ty}{v:av}{y:t.den}(h:DY t v=some y){m:Mode}{vs:List Value}(hv:aV γ me w v m vs):aV γ m1 w (.data t y) m vs:=by
 unfold DY at h;split at h
 ·obtain⟨q,hq⟩:=Ty.eY h;subst q;subst hq;cases m<;>exact hv
 ·split at h
  ·obtain rfl:=au h;cases m with
   | many=>exact hv
   | cells=>exact .inl ⟨⟨none,hv⟩,rfl⟩
   | val=>exact⟨[.slice none 0 0],.inl ⟨⟨none,rfl⟩,rfl⟩,(show vs=[Value.slice none 0 0] from hv)⟩
  ·cases h
 ·cases h
theorem A3{M V:Nat→Bool}{eM gU:St}(hc:GF M V eM.mem gU.mem m1)(hV:∀b x,V b=true→eM.mem b=some x→x.buf=false){u v:av}(hs:mL V eM gU u v=true){m:Mode}{us vs:List Value}(h0:aV Fa eM.mem w0 u m us)(he:aV γ gU.mem w v m vs) :
  aV γ m1 w (tw M V u) m vs:=by
 unfold mL at hs;split at hs
 ·rename_i b ag p b' BT p';simp only[bY] at hs;obtain⟨⟨h1,h3⟩,h2⟩:=hs;obtain rfl:=cB h1;obtain rfl:=BK h3;have still:ag=BT→(M b&&V b)=false→aV γ m1 w (tw M V (.ptr b ag p)) m vs:=by
   intro e q;subst e;have e:tw M V (.ptr b ag p)=.ptr b ag p:=by simp only[tw,q];rfl
   rw[e];exact aV.down hc.mid h0 he
  cases Ls:V b with
  | false =>
    rw[Ls] at h2;exact still (cB h2) (by simp[Ls])
  | true =>
    rw[Ls] at h2;simp only[bZ] at h2;split at h2
    ·rename_i x y hx hy;simp only[bY] at h2;have h4:=cB h2.1;have h5:=cB h2.2;obtain⟨nq,kZ,g1,g2,g3,g4,g5,g6,g7⟩:=hc b x hx;rw[hy] at g1;obtain rfl:=au g1;cases hM:M b with
     | false=>exact still (by have:=g7 (by simp[hM]);omega) (by simp[hM])
     | true =>
       have e:tw M V (.ptr b ag p)=.ptr b (ag+1) p:=by simp only[tw,hM,Ls];rfl
       have hv1:kZ.ag=ag+1:=by rw[g6,hM,Ls];simp;omega
       rw[e];cases m with
       | many=>exact he
       | cells=>exact⟨he.1,kZ,g2,by omega,fun _=>aD hy h5 he.2⟩
       | val=>exact⟨he.1,kZ,g2,by omega,fun _=>aD hy h5 he.2⟩
    ·cases h2
 ·rename_i b ag b' BT;simp only[bY] at hs;obtain⟨h1,h2⟩:=hs;obtain rfl:=cB h1;split at h2
  ·rename_i x y hx hy;simp only[bY] at h2;obtain⟨⟨h3,h4⟩,h5⟩:=h2;have h3:=cB h3;have h4:=cB h4;obtain⟨nq,kZ,g1,g2,g3,g4,g5,g6,g7⟩:=hc b x hx;rw[hy] at g1;obtain rfl:=au g1;have NL:x.buf=true:=by rw[←g3];exact h5
   have key:∀v1,kZ.ag=v1→((∃v,vs=[v]∧v.oneCell'=true)∧fM gU.mem b BT fun bx=>∃e n,bx.buf=true∧bx.row=some (e,n) ∧
     ((γ.loc b=none∧vs=[.slice none 0 0])∨∃blk cap,γ.loc b=some (blk,cap)∧vs=[.slice (some ⟨blk,0,none⟩) n cap])) →
     ((∃v,vs=[v]∧v.oneCell'=true)∧fM m1 b v1 fun bx=>∃e n,bx.buf=true∧bx.row=some (e,n) ∧
     ((γ.loc b=none∧vs=[.slice none 0 0])∨∃blk cap,γ.loc b=some (blk,cap)∧vs=[.slice (some ⟨blk,0,none⟩) n cap])):=by
    intro v1 hv1 hr;have hk:=aD hy h4 hr.2;exact⟨hr.1,kZ,g2,by omega,fun _=>by obtain⟨e,n,q1,q2,q3⟩:=hk;exact⟨e,n,g4.trans NL,g5.trans q2,q3⟩⟩
   have hv1:∃v1,tw M V (.whole b ag)=.whole b v1∧kZ.ag=v1:=by
    unfold tw;cases hM:M b with
    | true=>exact⟨ag+1,by simp[hM],by rw[g6,hM,NL,←h3];rfl⟩
    | false=>exact⟨ag,by simp[hM],by rw[g6,hM,←h3];rfl⟩
   obtain⟨v1,e1,e2⟩:=hv1;rw[e1];cases m with
   | many=>exact he
   | cells=>exact key v1 e2 he
   | val=>exact key v1 e2 he
  ·cases h2
 ·rename_i f caps f' NM;simp only[bY] at hs;obtain rfl:=cB hs.1;obtain rfl:=BL hs.2;exact aV.down hc.mid h0 he
 ·cases m<;>exact he
 ·cases m<;>exact he
 ·simp only[bY] at hs;obtain rfl:=cB hs.1;obtain rfl:=cB hs.2;exact aV.down hc.mid h0 he
 ·cases hs
theorem GH{V:Nat→Bool}{eM σ:St}{u v:av}:Sh.out V eM σ (.k u) v=bif mL V eM σ u v then some () else none:=rfl
theorem Lt{V:Nat→Bool}{eM σ:St}{a b:Sh}{v w:av}:Sh.out V eM σ (.m a b) (.mix v w)=(match Sh.out V eM σ a v,Sh.out V eM σ b w with
 | some x,some y=>some ((x,y):(Sh.m a b).ty.den)
 | _,_=>none):=rfl
theorem Dx{M V:Nat→Bool}{eM gU:St}(hc:GF M V eM.mem gU.mem m1)(hV:∀b x,V b=true→eM.mem b=some x→x.buf=false):∀{s:Sh} {u v:av} {y:s.ty.den} {m:Mode} {us vs:List Value},vN s u→Sh.out V eM gU s v=some y →
  aV Fa eM.mem w0 u m us→aV γ gU.mem w v m vs→aV γ m1 w (s.jh M V y) m vs:=by
 intro s;induction s with
 | d t=>intro u v y m us vs _ ho _ he;exact GG ho he
 | k x =>
   intro u v y m us vs hk ho h0 he;obtain rfl:=hk;rw[GH] at ho;cases hs:mL V eM gU x v with
   | false=>rw[hs] at ho;cases ho
   | true=>exact A3 hc hV hs h0 he
 | m a b eH fF =>
   intro u v y m us vs hk ho h0 he;obtain⟨p,q,rfl,k1,k2⟩:=hk;cases v with
   | mix v1 v2 =>
     rw[Lt] at ho;split at ho
     ·rename_i y1 y2 o1 o2;obtain rfl:=au ho;cases m with
      | cells=>obtain⟨_,_,_,s1,s2⟩:=h0;obtain⟨c1,c2,r0,r1,r2⟩:=he;exact⟨c1,c2,r0,eH k1 o1 s1 r1,fF k2 o2 s2 r2⟩
      | val=>obtain⟨_,_,_,s1,s2⟩:=h0;obtain⟨c1,c2,r0,r1,r2⟩:=he;exact⟨c1,c2,r0,eH k1 o1 s1 r1,fF k2 o2 s2 r2⟩
      | many=>obtain⟨_,_,_,s1,s2⟩:=h0;obtain⟨c1,c2,r0,r1,r2⟩:=he;exact⟨c1,c2,r0,eH k1 o1 s1 r1,fF k2 o2 s2 r2⟩
     ·cases ho
   | _=>cases ho
theorem Es{t:Ty}{v:av}{y:t.den}(h:DY t v=some y):(v=.data t y)∨(v=.gA∧∃e,t=.slice e):=by
 unfold DY at h;split at h
 ·obtain⟨q,hq⟩:=Ty.eY h;subst q;subst hq;exact .inl rfl
 ·split at h
  ·exact .inr ⟨rfl,_,rfl⟩
  ·cases h
 ·cases h
theorem Dy{M V:Nat→Bool}{eM gU:St}{s:Sh}{nq kZ:aI}{y:s.ty.den}(ho:Sh.out V eM gU s nq.val=some y)(hv:kZ.val=s.jh M V y)(hb:kZ.buf=nq.buf)(aJ:nq.buf=true→∃e l,nq.val=.data (.slice e) l) :
  kZ.row=nq.row∧(nq.buf=true→kZ.val=nq.val):=by
 have Lu:∀t x,nq.val=.data t x→kZ.val=nq.val:=by
  intro t x hx;rw[hx] at ho;cases s with
  | d u =>
    obtain⟨q,hq⟩:=Ty.eY (show Ty.to t u x=some y from ho);subst q;subst hq;rw[hv,hx];rfl
  | k z=>rw[GH] at ho;unfold mL at ho;cases z<;>cases ho
  | m a b=>cases ho
 have hrow:∀{b1 b2:aI},b1.buf=b2.buf→b1.val=b2.val→b1.row=b2.row:=by
  intro b1 b2 h1 h2;unfold aI.row;rw[h1,h2]
 cases hx:nq.val with
 | data t x =>
   have:=Lu t x hx;exact⟨hrow hb this,fun _=>by rw[this,hx]⟩
 | _ =>
   refine⟨?_,fun h=>by obtain⟨e,l,q⟩:=aJ h;rw[hx] at q;cases q⟩;cases hq:nq.buf with
   | true=>obtain⟨e,l,q⟩:=aJ hq;rw[hx] at q;cases q
   | false =>
     have e1:nq.row=none:=by unfold aI.row;rw[hq,hx]
     rw[e1];unfold aI.row;rw[hb,hq,hv];rw[hx] at ho;cases s with
     | d u =>
       rcases Es (show DY u _=some y from ho) with q|⟨q,e,rfl⟩
       ·first|cases q|exact absurd hx (by rw[q];intro k;cases k)
       ·rfl
     | k z =>
       rw[GH] at ho;simp only[Sh.jh];have hnd:∀t x,tw M V z≠.data t x:=by
        intro t x q;cases z with
        | data t' x'=>unfold mL at ho;cases ho
        | whole b v=>simp only[tw] at q;cases hM:M b<;>rw[hM] at q<;>cases q
        | ptr b v p=>simp only[tw] at q;cases hM:(M b&&V b)<;>rw[hM] at q<;>cases q
        | _=>cases q
       split<;>first|rfl|(rename_i hh;exact absurd hh (hnd _ _))
     | m a b=>rfl
end
end Go.Ge
namespace Go.Ge
open RowKit
section
variable {P:Program} {B:iP} {N:Nat} {γ Fa:Gh} {w w0:World} {eM gU:St} {a a0:Act} {M V:Nat→Bool}
theorem GI:∀{l:List (Nat×Sh)} {x:(KC l).den},HS V eM gU l=some x→∀t,(yw M V l x t=none∧∀s,(t,s)∉l)∨∃s y,(t,s)∈l∧Sh.out V eM gU s (gU.slots t)=some y∧yw M V l x t=some (s.jh M V y):=by
 intro l;induction l with
 | nil=>intro x _ t;exact .inl ⟨rfl,fun s h=>by cases h⟩
 | cons p r ih =>
   obtain⟨i,s⟩:=p;intro x h t;simp only[HS] at h;split at h
   ·rename_i y z h1 h2;obtain rfl:=au h;by_cases e:t=i
    ·subst e;refine .inr ⟨s,y,jU ..,h1,?_⟩;show(bif Nat.beq t t then some (s.jh M V y) else yw M V r z t)=_
     simp
    ·have hb:Nat.beq t i=false:=dO e;have hq:yw M V ((i,s)::r) ((y,z):(KC ((i,s)::r)).den) t=yw M V r z t:=by
      show(bif Nat.beq t i then some (s.jh M V y) else yw M V r z t)=_
      rw[hb];rfl
     rw[hq];rcases ih h2 t with ⟨k1,k2⟩|⟨s',y',k1,k2,k3⟩
     ·refine .inl ⟨k1,fun s' hm=>?_⟩;rcases List.mem_cons.1 hm with hm|hm
      ·exact e (bM hm).1
      ·exact k2 s' hm
     ·exact .inr ⟨s',y',jT _ k1,k2,k3⟩
   ·cases h
theorem p4{fz mv:Bool}{bx b:aI}(h:sF fz mv bx b=true):(bx.ro=true→(b.ro||fz)=true)∧bx.buf=b.buf∧((b.buf||mv)=false→bx.ag=b.ag):=by
 simp only[sF,bY,uz,beq_iff_eq] at h;obtain⟨⟨⟨h1,h2⟩,h3⟩,h4⟩:=h;refine⟨fun hr=>by rcases h1 with h1|h1<;>simp[h1,←hr],h3,fun hb=>?_⟩;obtain⟨hb,hm⟩:=Bool.or_eq_false_iff.1 hb;rcases h4 with (h4|h4)|h4
 ·rw[h3,hb] at h4;cases h4
 ·rw[hm] at h4;cases h4
 ·exact cB h4
theorem Et{fz mv:Bool}{bx b:aI}(h:sF fz mv bx b=true):bx.tid=b.tid:=by
 simp only[sF,bY] at h;exact cB h.1.1.2
theorem A4{fz:Bool}:∀{l:List (Nat×Sh×aI)} {x:(J0 l).den},HT V fz eM gU l=some x→∀t,(uK fz M V l x t=none∧j8 l t=false) ∨
  ∃s b y bx,j8 l t=true∧(t,s,b)∈l∧gU.mem t=some bx∧sF fz (V t) bx b=true∧Sh.out V eM gU s bx.val=some y∧uK fz M V l x t=some { b with val:=s.jh M V y,ro:=b.ro||fz,ag:=bif b.buf||V t then b.ag+1 else b.ag }:=by
 intro l;induction l with
 | nil=>intro x _ t;exact .inl ⟨rfl,rfl⟩
 | cons p r ih =>
   obtain⟨i,s,b⟩:=p;intro x h t;simp only[HT] at h;split at h
   ·rename_i bx gW;cases hok:sF fz (V i) bx b with
    | false=>rw[hok] at h;cases h
    | true =>
      rw[hok] at h;simp only[bZ] at h;split at h
      ·rename_i y z h1 h2;obtain rfl:=au h;by_cases e:t=i
       ·subst e;refine .inr ⟨s,b,y,bx,by simp[j8],jU ..,gW,hok,h1,?_⟩;show(bif Nat.beq t t then some { b with val:=s.jh M V y,ro:=b.ro||fz,ag:=bif b.buf||V t then b.ag+1 else b.ag } else uK fz M V r z t)=_
        simp
       ·have hb:Nat.beq t i=false:=dO e;have hq:uK fz M V ((i,s,b)::r) ((y,z):(J0 ((i,s,b)::r)).den) t=uK fz M V r z t:=by
         show(bif Nat.beq t i then some { b with val:=s.jh M V y,ro:=b.ro||fz,ag:=bif b.buf||V t then b.ag+1 else b.ag } else uK fz M V r z t)=_
         rw[hb];rfl
        have Ka:j8 ((i,s,b)::r) t=j8 r t:=by simp only[j8,hb,DW]
        rw[hq,Ka];rcases ih h2 t with k|⟨s',b',y',dQ,k0,k1,k2⟩
        ·exact .inl k
        ·exact .inr ⟨s',b',y',dQ,k0,jT _ k1,k2⟩
      ·cases h
   ·cases h
structure oG (k:Carry) (eM:St):Prop where
 S:∀t s,(t,s)∈k.S→vN s (eM.slots t)
 M:∀b s bx,(b,s,bx)∈k.M→eM.mem b=some bx∧vN s bx.val∧bx.lk=false
 V:∀b x,k.V b=true→eM.mem b=some x→x.buf=false
theorem Kl{cx:Ctx}{σ:St}:∀{p:List (Nat×Nat)} {l:List (Nat×Sh)},LS cx σ p=some l→∀t s,(t,s)∈l→vN s (σ.slots t):=by
 intro p;induction p with
 | nil=>intro l h t s hm;obtain rfl:=au h;cases hm
 | cons q r ih =>
   obtain⟨i,ty⟩:=q;intro l h t s hm;simp only[LS] at h;split at h
   ·cases h
   ·rename_i l' hl';have fin:∀s0,vN s0 (σ.slots i)→some ((i,s0)::l')=some l→vN s (σ.slots t):=by
     intro s0 h0 e;obtain rfl:=au e;rcases List.mem_cons.1 hm with hm|hm
     ·obtain⟨rfl,rfl⟩:=bM hm;exact h0
     ·exact ih hl' t s hm
    cases hty:Nat.beq ty 999999 with
    | true =>
      rw[hty] at h;simp only[bZ] at h;split at h
      ·rename_i b v hv;exact fin (.k _) hv.symm h
      ·obtain rfl:=au h;exact ih hl' t s hm
    | false =>
    rw[hty] at h;simp only[ez] at h;split at h
    ·exact fin (.d _) trivial h
    ·split at h
     ·exact fin (.d _) trivial h
     ·cases h
    ·split at h
     ·exact fin (.d _) trivial h
     ·cases h
    ·exact fin (.k _) rfl h
theorem GJ{σ:St}:∀{p:List Nat} {l:List (Nat×Sh×aI)},KX σ p=some l→∀b s bx,(b,s,bx)∈l→σ.mem b=some bx∧vN s bx.val∧bx.lk=false:=by
 intro p;induction p with
 | nil=>intro l h b s bx hm;obtain rfl:=au h;cases hm
 | cons i r ih =>
   intro l h b s bx hm;simp only[KX] at h;split at h
   ·rename_i bF l' hb hl';cases hlk:bF.lk with
    | true=>rw[hlk] at h;cases h
    | false =>
      rw[hlk] at h;obtain rfl:=au h;rcases List.mem_cons.1 hm with hm|hm
      ·injection hm with e1 hm
       injection hm with e2 e3
       subst e1;subst e2;subst e3;exact⟨hb,Ix _,hlk⟩
      ·exact ih hl' b s bx hm
   ·cases h
theorem mT{cx:Ctx}{nb:Nat}{bf:List Nat}{σ:St}{p:Ac}{k:Carry}(h:uk cx nb bf σ p=some k):oG k σ:=by
 unfold uk at h;split at h
 ·rename_i s m hs hm;obtain rfl:=au h;refine⟨Kl hs,GJ hm,fun b x hb hx=>?_⟩;simp only[KY,hx,bY,oh] at hb;exact hb.2.1
 ·cases h
theorem Iy{l:List (Nat×Sh×aI)}{b:Nat}(h:j8 l b=true):∃s bx,(b,s,bx)∈l:=by
 induction l with
 | nil=>cases h
 | cons p r ih =>
   obtain⟨i,s,bx⟩:=p;simp only[j8,uz] at h;rcases h with h|h
   ·obtain rfl:=cB h;exact⟨s,bx,jU ..⟩
   ·obtain⟨s',dQ,hm⟩:=ih h;exact⟨s',dQ,jT _ hm⟩
theorem jk{k:Carry}{fz lock:Bool}{wr:List Nat}{x:k.ty.den}(hk:oG k eM)(h0:bE B N Fa eM a0 w0)(he:bE B N γ gU a w)(hx:Ext B Fa eM.mem w0 γ gU.mem w)
  (hf:∀t,bC wr t=false→a.tmps[t]?=a0.tmps[t]?) (hkeep:∀b bx,eM.mem b=some bx→j8 k.M b=false→∃bl,gU.mem b=some { bx with lk:=bl }) (ho:k.out fz eM gU=some x) :
  bE B N γ (k.jh fz lock wr eM x) a w∧Ext B Fa eM.mem w0 γ (k.jh fz lock wr eM x).mem w:=by
 unfold Carry.out at ho;split at ho
 case h_2=>cases ho
 rename_i xs xm hxs NN;obtain rfl:=au ho;generalize Lv:k.jh fz lock wr eM (xs,xm)=σ1;have qR:∀t,σ1.slots t=match yw (j8 k.M) k.V k.S xs t with|some v=>v|none=>bif bC wr t then .undef else eM.slots t:=fun t=>by rw[←Lv];rfl
 have hmem:∀b,σ1.mem b=match uK fz (j8 k.M) k.V k.M xm b with|some bx=>some bx|none=>match eM.mem b with|some bx=>some { bx with lk:=bx.lk||lock }|none=>none:=fun b=>by rw[←Lv];rfl
 have Iz:∀b,j8 k.M b=false→σ1.mem b=match eM.mem b with|some bx=>some { bx with lk:=bx.lk||lock }|none=>none:=by
  intro b hb;rw[hmem b];rcases A4 (M:=j8 k.M) NN b with ⟨q,_⟩|⟨s,b',y,bx,q,_⟩
  ·rw[q]
  ·rw[hb] at q;cases q
 have here:∀b,j8 k.M b=true→∃s b0 y bx,eM.mem b=some b0∧vN s b0.val∧gU.mem b=some bx∧sF fz (k.V b) bx b0=true∧Sh.out k.V eM gU s bx.val=some y ∧
   σ1.mem b=some { b0 with val:=s.jh (j8 k.M) k.V y,ro:=b0.ro||fz,ag:=bif b0.buf||k.V b then b0.ag+1 else b0.ag }:=by
  intro b hb;rcases A4 (M:=j8 k.M) NN b with ⟨_,q⟩|⟨s,b0,y,bx,q,q1,q2,q3,q4,q5⟩
  ·rw[hb] at q;cases q
  ·obtain⟨k1,k2,_⟩:=hk.M b s b0 q1;exact⟨s,b0,y,bx,k1,k2,q2,q3,q4,by rw[hmem b,q5]⟩
 have GK:∀b bx,gU.mem b=some bx→bx.buf=true→∃e l,bx.val=.data (.slice e) l:=by
  intro b bx hb aJ;have:=he.ok.boxes b bx hb;rw[bn,aJ] at this;obtain⟨e,l,q,_⟩:=this;exact⟨e,l,q⟩
 have hC:GF (j8 k.M) k.V eM.mem gU.mem σ1.mem:=by
  intro b bF hb;cases hin:j8 k.M b with
  | false =>
    obtain⟨bl,Ij⟩:=hkeep b bF hb hin;have h1:=Iz b hin;rw[hb] at h1;exact⟨_,_,Ij,h1,rfl,rfl,rfl,by simp,fun _=>rfl⟩
  | true =>
    obtain⟨s,b0,y,bx,g1,g2,g3,g4,g5,g6⟩:=here b hin;rw[hb] at g1;obtain rfl:=au g1;obtain⟨o1,o2,o3⟩:=p4 g4;obtain⟨r1,r2⟩:=Dy (M:=j8 k.M) (V:=k.V) (kZ:={ bF with val:=s.jh (j8 k.M) k.V y,ro:=bF.ro||fz,ag:=bif bF.buf||k.V b then bF.ag+1 else bF.ag }) g5 rfl o2.symm (GK b bx g3);refine⟨bx,_,g3,g6,o2,rfl,r1,by simp,fun hq=>o3 ?_⟩;simpa using hq
 have hE:Ext B Fa eM.mem w0 γ σ1.mem w :=
  { below:=hx.below
    I:=hx.I
    kP:=hx.kP
    cells:=hx.cells
    boxes:=fun b bF hb=>by
     obtain⟨nq,kZ,c1,c2,c3,c4,c5,c6,c7⟩:=hC b bF hb;obtain⟨MN,e1,e2,e3⟩:=hx.boxes b bF hb;rw[c1] at e1;obtain rfl:=au e1;cases hq:(j8 k.M b&&(bF.buf||k.V b)) with
     | true =>
       rw[hq] at c6;simp only[bZ] at c6;exact⟨kZ,c2,by omega,fun e=>absurd e (by omega)⟩
     | false =>
       rw[hq] at c6;simp only[ez] at c6;obtain⟨r1,r2,r3⟩:=e3 (c7 hq);exact⟨kZ,c2,by omega,fun _=>⟨r1,c4,c5.trans r3⟩⟩ }
 refine⟨⟨fun t=>?_,he.size,he.defers,?_⟩,hE⟩
 ·rw[qR t];rcases GI (M:=j8 k.M) hxs t with ⟨q,_⟩|⟨s,y,q1,q2,q3⟩
  ·rw[q];simp only;cases hw:bC wr t with
   | true=>exact⟨_,rfl⟩
   | false =>
     have:a.tmps.getD t undef=a0.tmps.getD t undef:=by simp only[Bx,hf t hw]
     rw[this];exact(h0.slots t).ext hE
  ·rw[q3];exact Dx hC hk.V (hk.S t s q1) q2 (h0.slots t) (he.slots t)
 ·have hne:∀b,σ1.mem b≠none→∃bF,eM.mem b=some bF:=by
   intro b hb;cases hin:j8 k.M b with
   | true=>obtain⟨s,b0,y,bx,g1,_⟩:=here b hin;exact⟨b0,g1⟩
   | false =>
     rw[Iz b hin] at hb;cases hq:eM.mem b with
     | none=>rw[hq] at hb;exact absurd rfl hb
     | some bF=>exact⟨bF,rfl⟩
  have Km:∀b,σ1.mem b≠none→gU.mem b≠none:=by
   intro b hb;obtain⟨bF,h1⟩:=hne b hb;obtain⟨nq,kZ,c1,_⟩:=hC b bF h1;rw[c1];simp
  exact
   { bX:=he.ok.bX
     base:=he.ok.base
     boxes:=fun b kZ hb=>by
      cases hin:j8 k.M b with
      | true =>
        obtain⟨s,b0,y,bx,g1,g2,g3,g4,g5,g6⟩:=here b hin;rw[hb] at g6;obtain rfl:=au g6;obtain⟨o1,o2,o3⟩:=p4 g4;have o4:=Et g4;obtain⟨r1,r2⟩:=Dy (M:=j8 k.M) (V:=k.V) (kZ:={ b0 with val:=s.jh (j8 k.M) k.V y,ro:=b0.ro||fz,ag:=bif b0.buf||k.V b then b0.ag+1 else b0.ag }) g5 rfl o2.symm (GK b bx g3);have ew:=he.ok.boxes b bx g3;have CA:=h0.ok.boxes b b0 g1;unfold bn at ew CA⊢;dsimp only at r2⊢;rcases Jo bx.buf with hb1|hb1
        ·rw[hb1] at ew;rw[←o2,hb1,r2 hb1,←o4];exact ew
        ·rw[hb1] at ew;rw[←o2,hb1];rw[←o2,hb1] at CA;obtain⟨_,_,_,_,_,_,_,_,_,z⟩:=CA;obtain⟨blk,cap,cur,tid,fr,z1,z2,z3,cQ,z4⟩:=ew;exact⟨blk,cap,cur,tid,fr,z1,z2,z3,o4▸cQ,Dx hC hk.V g2 g5 z z4⟩
      | false =>
        have h1:=Iz b hin;rw[hb] at h1;cases hq:eM.mem b with
        | none=>rw[hq] at h1;cases h1
        | some bF =>
          rw[hq] at h1;obtain rfl:=au h1;obtain⟨bl,Ij⟩:=hkeep b bF hq hin;have ew:=he.ok.boxes b _ Ij;have CA:=h0.ok.boxes b bF hq;unfold bn at ew CA⊢;dsimp only at ew⊢;rcases Jo bF.buf with hb1|hb1
          ·rw[hb1] at ew⊢;exact ew
          ·rw[hb1] at ew CA⊢;obtain⟨_,_,_,_,_,_,_,_,_,z⟩:=CA;obtain⟨blk,cap,cur,tid,fr,z1,z2,z3,cQ,z4⟩:=ew;exact⟨blk,cap,cur,tid,fr,z1,z2,z3,cQ,aV.down hC.mid z z4⟩
     inj:=fun b c blk k1 k2 hb hc h1 h2=>he.ok.inj b c blk k1 k2 (Km b hb) (Km c hc) h1 h2
     fresh:=fun b blk k1 hb h1=>he.ok.fresh b blk k1 (Km b hb) h1
     kO:=he.ok.kO
     sep:=fun b kZ blk k1 off hb h1 hi=>by
      obtain⟨bF,q0⟩:=hne b (by rw[hb];simp);obtain⟨nq,OP,c1,c2,c3,c4,c5,c6,c7⟩:=hC b bF q0;rw[hb] at c2;obtain rfl:=au c2;obtain⟨s1,s2⟩:=he.ok.sep b nq blk k1 off c1 h1 hi;have hro:nq.ro=true→kZ.ro=true:=by
       cases hin:j8 k.M b with
       | true =>
         obtain⟨s,b0,y,bx,g1,g2,g3,g4,g5,g6⟩:=here b hin;rw[c1] at g3;obtain rfl:=au g3;rw[hb] at g6;obtain rfl:=au g6;exact(p4 g4).1
       | false =>
         have h1:=Iz b hin;rw[hb,q0] at h1;obtain rfl:=au h1;obtain⟨bl,Ij⟩:=hkeep b bF q0 hin;rw[c1] at Ij;obtain rfl:=au Ij;exact fun h=>h
      exact⟨hro s1,fun aJ e n hr=>s2 (by rw[c3,←c4];exact aJ) e n (by rw[←c5];exact hr)⟩ }
end
end Go.Ge
