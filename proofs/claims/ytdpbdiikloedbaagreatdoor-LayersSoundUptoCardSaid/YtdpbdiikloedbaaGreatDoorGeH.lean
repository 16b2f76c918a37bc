/- A ghost interpreter of the model's code, and that it tells the truth: part 8. It says of a function of plain data what a call of it comes to. -/
import Derived.Test.YtdpbdiikloedbaaGreatDoorGeG
set_option linter.unusedSectionVars false
namespace Go.Ge
open RowKit
section
variable {bG cf:St} {d:Option Nat} {cx:Ctx} {nb:Nat} {bf:List Nat} {inl:Nat->List aO->St->Tree (aO×St)}
theorem BG(a:Le bG cf)(c:∀k,d=some k->bG.mem (nb+k)=cf.mem (nb+k)){b:TypeId}{v:aO}:LT cf d (js cx nb bf d b v bG) (js cx nb bf d b v cf):=by
 have R:=Rel.refl a;unfold js;cases v with
 | undef=>exact LT.bif (LT.ret R)
 | oa =>
   simp only;split
   .rename_i k e _;cases cP bf k with
    | true=>exact LT.aT a (c k rfl)
    | false=>exact LT.Uo R
   .exact LT.ret R
 | _=>exact LT.ret R
theorem RF(e:Le bG cf){c a b:aO}:LT cf d (oc d c a b bG) (oc d c a b cf):=by
 have R:=Rel.refl e;unfold oc;split
 .split
  .split
   .exact LT.ret R
   .exact LT.fail
  .exact LT.node (LT.ret R) (LT.ret R)
 .exact LT.fail
theorem RG(c:Le bG cf){e:TypeId}{a:aO}:LT cf d (kS cx d e a bG) (kS cx d e a cf):=by
 have R:=Rel.refl c;unfold kS;cases a with
 | cell u x=>exact LT.bif (LT.ret R)
 | ptr b aP p =>
   ((try dsimp only);split<;>first|exact LT.fail|(rename_i g;rw[(c b) _ g];try dsimp only))
   exact LT.bif (LT.bind λx _=>LT.bif (LT.ret R))
 | _=>exact LT.fail
theorem Jt{a e:St}(R:Rel bG cf a e){b g:Nat}{p:List B9}{h:aO->Bool}{v:aO}:LT cf none (storeAt b g p h v a) (storeAt b g p h v e):=by
 unfold storeAt
 ((try dsimp only);split<;>first|exact LT.fail|(rename_i i;rw[(R.le b) _ i];try dsimp only))
 exact LT.bif (LT.bind λx _=>LT.bif (LT.bind λc _=>LT.store (R.trans<|Rel.b5 R.le)))
theorem LT.ahQ{c:Bool}{t u a b:Tree St}(h:LT cf d t u)(e:LT cf d a b):LT cf d (bif c then t else a) (bif c then u else b):=by cases c<;>first|exact e|exact h
theorem Up{a e:St}(R:Rel bG cf a e){b g:Nat}{p:List B9}{n:Nat}{v:aO}:LT cf none (rJ b g p n v a) (rJ b g p n v e):=by
 unfold rJ
 ((try dsimp only);split<;>first|exact LT.fail|(rename_i h;rw[(R.le b) _ h];try dsimp only))
 exact LT.bif (LT.bind λx _=>LT.bif (LT.bind λc _=>LT.bif (LT.store<|R.trans<|Rel.b5 R.le)))
theorem O3(c:Le bG cf){e:List Nat}{g:TypeId}{a v:aO}:LT cf none (lr cx e g a v bG) (lr cx e g a v cf):=by
 have R:=Rel.refl c;unfold lr;cases a with
 | ptr b aP p =>
   ((try dsimp only);split<;>first|exact LT.fail|(rename_i h;rw[(c b) _ h];try dsimp only))
   refine LT.bif (LT.bind λi _=>?_);split
   .refine LT.bif (LT.ahQ (Up R) ?_);split
    .rename_i y ui j;obtain⟨sz,k,l⟩:=AH c j;rw[k];exact Jt l
    .exact LT.fail
   .exact LT.bif (Jt R)
 | _=>exact LT.fail
theorem XH{n:Int}{a b:Option Operand}(c:∀x∈a.toList++b.toList,cD bG x=cD cf x):bounds bG n a b=bounds cf n a b:=by
 unfold bounds;cases a<;>cases b<;>simp only<;>simp at c<;>simp[c]
theorem O4(b:Le bG cf){k:TypeId}{x:aO}{e g:Option Operand}(o:∀x∈e.toList++g.toList,cD bG x=cD cf x):LT cf d (lu cx d k x e g bG) (lu cx d k x e g cf):=by
 have R:=Rel.refl b;have a:∀n,bounds bG n e g=bounds cf n e g:=λn=>XH o;unfold lu;split
 .rename_i s _;rw[a]
  ((try dsimp only);split<;>first|exact LT.fail|skip)
  exact LT.need (LT.ret R)
 .rw[a];refine LT.bif ?_
  ((try dsimp only);split<;>first|exact LT.fail|skip)
  exact LT.need (LT.ret R)
 .rename_i u c i l n _
  ((try dsimp only);split<;>first|exact LT.fail|(rename_i j;rw[(b c) _ j];try dsimp only))
  refine LT.bif ?_;rw[a]
  ((try dsimp only);split<;>first|exact LT.fail|skip)
  exact LT.need (LT.ret R)
 .rename_i u c i _
  ((try dsimp only);split<;>first|exact LT.fail|(rename_i j;rw[(b c) _ j];try dsimp only))
  refine LT.bif ?_;split
  .refine LT.bif ?_;split
   .exact LT.ret R
   .rw[a]
    ((try dsimp only);split<;>first|exact LT.fail|skip)
    exact LT.need (LT.ret R)
  .exact LT.fail
 .rw[a];refine LT.RE (λh=>?_) ?_
  .simp only[dv] at h⊢;exact⟨p8 b h.1,h.2⟩
  ·((try dsimp only);split<;>first|exact LT.fail|skip)
   exact LT.need (LT.ret R)
 .rename_i m u c i _
  ((try dsimp only);split<;>first|exact LT.fail|(rename_i j;rw[(b c) _ j];try dsimp only))
  refine LT.bif ?_;split
  .rw[a];refine LT.bif ?_
   ((try dsimp only);split<;>first|exact LT.fail|skip)
   exact LT.need (LT.ret R)
  .exact LT.fail
 .exact LT.fail
theorem aaw(c:Le bG cf){b a:Nat}{i:Int}:∀{m k:Nat},LT cf d (IE d b a bG i m k) (IE d b a cf i m k):=by
 intro m;induction m with
 | zero=>intro k;exact LT.fail
 | succ m e=>intro k;exact LT.node (LT.ret<|Rel.refl c) e
theorem xk(a:Le bG cf){e:TypeId}{x:aO}{i:Int}:LT cf d (ek cx d e x i bG) (ek cx d e x i cf):=by
 have R:=Rel.refl a;unfold ek;split
 .exact LT.bif (LT.look λ_=>LT.ret R)
 .exact LT.bif (LT.look λ_=>LT.ret R)
 ·((try dsimp only);split<;>first|exact LT.fail|(rename_i b;rw[((λr (c:_=some r)=>Js a c)) _ b];try dsimp only))
  exact LT.bif (LT.need<|LT.ret R)
 ·((try dsimp only);split<;>first|exact LT.fail|(rename_i b;rw[((λr (c:_=some r)=>Js a c)) _ b];try dsimp only))
  exact LT.bif (LT.need<|LT.ret R)
 .exact LT.RE (λh=>p8 a h) (LT.need<|LT.ret R)
 .split
  .refine LT.RE (λh=>?_) (aaw a);simp only[dv] at h⊢;exact⟨h.1,p8 a h.2⟩
  .exact LT.fail
 .exact LT.fail
theorem O5(a:Le bG cf){b:TypeId}{x:aO}{i:Int}:LT cf d (lv cx d b x i bG) (lv cx d b x i cf):=by
 have R:=Rel.refl a;unfold lv;split
 .refine LT.RE (λh=>?_) ?_
  .simp only[dv] at h⊢;exact⟨h.1,p8 a h.2⟩
  .split
   .exact LT.bif (LT.ret R)
   .exact LT.fail
 .exact xk a
theorem O6(a:Le bG cf){b:TypeId}{x:aO}{i:Int}:LT cf d (lz cx d b x i bG) (lz cx d b x i cf):=by
 have R:=Rel.refl a;unfold lz;split
 .exact LT.look λ_=>LT.ret R
 .exact LT.bif (LT.look λ_=>LT.ret R)
 .exact LT.fail
theorem EY(a:Le bG cf){s:TypeId}{x:aO}{k:Nat}:LT cf d (eQ cx d s x k bG) (eQ cx d s x k cf):=by
 have R:=Rel.refl a;unfold eQ;split
 .refine LT.bif ?_;split
  .exact LT.ret R
  .exact LT.fail
 .refine LT.RE (λh=>p8 a h) ?_;split
  .split
   .exact LT.ret R
   .exact LT.fail
  .split
   .split
    .exact LT.ret R
    .exact LT.fail
   .exact LT.fail
 .exact LT.fail
theorem Ju(a:Le bG cf)(b:∀k,d=some k->bG.mem (nb+k)=cf.mem (nb+k)){s t:TypeId}{x:aO}:LT cf d (gI cx nb d s t x bG) (gI cx nb d s t x cf):=by
 have R:=Rel.refl a;unfold gI;split
 .exact LT.ret R
 .exact LT.ret R
 .split
  .exact LT.need (LT.aT a<|b _ rfl)
  .exact LT.fail
 ·((try dsimp only);split<;>first|exact LT.fail|(rename_i c;rw[((λr (e:_=some r)=>AG a e)) _ c];try dsimp only))
  exact LT.ret R
 .exact LT.fail
theorem BH(a:Le bG cf)(j:∀k,d=some k->bG.mem (nb+k)=cf.mem (nb+k)){c:TypeId}{s x:aO}:LT cf d (gY cx nb d c s x bG) (gY cx nb d c s x cf):=by
 have R:=Rel.refl a;unfold gY;split
 .rename_i k e _
  ((try dsimp only);split<;>first|exact LT.fail|(rename_i g;rw[((λr (m:_=some r)=>XF a m)) _ g];try dsimp only))
  split
  .exact LT.need (LT.aT a<|j _ rfl)
  .rename_i b h;cases g:bG.mem b with
   | none=>exact LT.fail
   | some i =>
     rw[a b i g];cases n:gd e bG (.whole b h) with
     | none=>exact LT.fail
     | some l =>
       rw[AG a n];simp only;cases (i.lk||!aei cx c i.tid) with
       | true=>exact LT.fail
       | false=>exact LT.need (LT.Uo<|Rel.b5 a)
  .exact LT.fail
 .exact LT.fail
theorem aax(g:Le bG cf):∀{o:OT} {v:aO} {r},dE bG.mem o v=some r->dE cf.mem o v=some r:=by
 intro o;induction o with
 | zl t=>intro v r h;exact h
 | buf e s =>
   intro v r h;cases v<;>first|(cases h;done)|skip
   rename_i b i;simp only[dE] at h⊢;cases c:bG.mem b with
   | none=>rw[c] at h;cases h
   | some a=>rw[c] at h;rw[g b a c];exact h
 | ref tid o u =>
   intro v r h;cases v<;>first|(cases h;done)|skip
   rename_i b i k;cases k with
   | cons _ _=>cases h
   | nil =>
     simp only[dE] at h⊢;cases c:bG.mem b with
     | none=>rw[c] at h;cases h
     | some a =>
       rw[c] at h;rw[g b a c];simp only at h⊢;cases j:(Nat.beq a.aP i&&!a.buf&&!a.lk&&!a.ro&&Nat.beq a.tid tid) with
       | false=>rw[j] at h;cases h
       | true =>
         rw[j] at h;simp only[eC] at h⊢;cases l:dE bG.mem o a.val with
         | none=>rw[l] at h;cases h
         | some q=>rw[l] at h;rw[u l];exact h
 | pair p q m n =>
   intro v r h;unfold dE at h;split at h
   case h_2=>cases h
   split at h
   case h_2=>cases h
   rename_i x y;cases h;exact EW (m x) (n y)
 | unit=>intro v r h;exact h
theorem Uq(a:Le bG cf):∀{ps:List Bool} {A:Ty} {U:OT} {vs:List aO} {r},fS bG ps A U vs=some r->fS cf ps A U vs=some r:=by
 intro ps;induction ps with
 | nil=>intro A U vs r h;exact h
 | cons q ps e =>
   intro A U vs r h;cases q with
   | false =>
     cases A<;>first|(cases h;done)|skip
     cases vs with
     | nil=>cases h
     | cons v vs =>
       simp only[fS] at h⊢;split at h
       .rename_i b c;rw[b,e c];exact h
       .cases h
   | true =>
     cases U<;>first|(cases h;done)|skip
     rename_i o U;cases o<;>first|(cases h;done)|skip
     cases vs with
     | nil=>cases h
     | cons v vs =>
       simp only[fS] at h⊢;split at h
       .rename_i b c;rw[aax a b,e c];exact h
       .cases h
theorem Rel.kB(a:Le bG cf){U:OT}{y:U.den}{N M:List (Nat×Nat)}:Rel bG cf (Go.Ge.kB U y N M bG) (Go.Ge.kB U y N M cf) where
 s1:=rfl
 s2:=rfl
 m:=λb=>by
  rw[gJ,gJ];cases iH U y N (M.map λp=>(p.1,p.2+1)) b with
  | some e=>rfl
  | none =>
    cases h:bG.mem b with
    | some x=>exact a b x h
    | none=>rfl
 nv:=λb h=>by
  rw[gJ] at h;cases c:iH U y N (M.map λp=>(p.1,p.2+1)) b with
  | some e=>rw[c] at h;cases h
  | none=>rw[c] at h;exact h
theorem XI(a:Le bG cf){f:Nat}{b:List aO}(e:find cx.Zl f≠none\/find cx.Lo f=none):LT cf d (wk cx zr d f b bG) (wk cx inl d f b cf):=by
 have R:=Rel.refl a;unfold wk;split
 .split
  .have key:∀{A:Ty} {vs:List aO} {x:A.den},iv bG A vs=some x->iv cf A vs=some x:=by
    intro A;induction A with
    | pair t r l g =>
      intro vs x c;cases vs with
      | nil=>cases c
      | cons v vs =>
        simp only[iv] at c⊢;split at c
        .rename_i p q m h;rw[Wl a m,g h];exact c
        .cases c
    | unit=>intro vs x c;cases vs<;>exact c
    | _=>intro vs x c;cases vs<;>cases c
   ((try dsimp only);split<;>first|exact LT.fail|(rename_i h;rw[((λr (i:_=some r)=>key i)) _ h];try dsimp only))
   exact LT.look λ_=>LT.ret R
  .split
   .rename_i x ui n;obtain⟨sz,o,s⟩:=Cn a n;rw[o];exact LT.look λ_=>LT.ret s
   .exact LT.fail
 .rename_i u;rw[e.resolve_left λq=>q u];split
  .rename_i z;cases z
  .split
   .rename_i k C;cases i:fS bG k.ps k.A k.U b with
    | none=>exact λy j=>by cases j
    | some r =>
      rw[Uq a i];exact LT.bif (LT.look λy=>LT.ret (Rel.kB a))
   .exact λy j=>by cases j
theorem LT.acJ{a c:St}(R:Rel bG cf a c){k:Nat}{b:Nat}(l:bG.mem b=cf.mem b){g:aO}{i:TypeId}{j:Bool}{v:Nat->aO} :
  LT cf (some k) (a.aT b g i j λe σ=>.ret (σ.put k<|v e)) (c.aT b g i j λe σ=>.ret (σ.put k<|v e)):=by
 have n:a.mem b=c.mem b:=by
  rw[R.m b];cases h:a.mem b with
  | some x=>rfl
  | none=>simp only;rw[<-l,R.nv b h]
 unfold St.aT;rw[<-n];cases a.mem b with
 | none=>exact LT.Uo (R.trans<|Rel.b5 R.le)
 | some o =>
   simp only;cases o.lk with
   | true=>exact LT.fail
   | false=>exact LT.Uo (R.trans<|Rel.b5 R.le)
theorem O7(b:Le bG cf)(c:∀k,d=some k->bG.mem (nb+k)=cf.mem (nb+k)){e:Ty}{a:List aO}:LT cf d (lA nb e d a bG) (lA nb e d a cf):=by
 unfold lA;split
 .split
  .rename_i l ui g;obtain⟨sz,h,i⟩:=AH b g;rw[h];exact LT.bif (LT.need<|LT.acJ i<|c _ rfl)
  .exact LT.fail
 .exact LT.fail
theorem O8(b:Le bG cf)(e:∀k,d=some k->bG.mem (nb+k)=cf.mem (nb+k)){g:Nat}{a:List aO}:LT cf d (lB nb g d a bG) (lB nb g d a cf):=by
 unfold lB;split
 .exact LT.fail
 .exact LT.fail
 .exact LT.aT b (e _ rfl) (v:=λc=>.fn g [(_,c)])
 .exact LT.fail
theorem XJ{c i:St}(h:Le c i){e:Ty}{v:aO}{r:Nat×Nat×bF×List e.den}(a:xU e c v=some r):xU e i v=some r:=by
 cases v with
 | part b aP lo n =>
   simp only[xU] at a⊢;cases g:c.mem b with
   | none=>rw[g] at a;cases a
   | some j=>rw[g] at a;rw[h b j g];exact a
 | whole b aP =>
   simp only[xU] at a⊢;cases g:c.mem b with
   | none=>rw[g] at a;cases a
   | some j=>rw[g] at a;rw[h b j g];exact a
 | _=>cases a
theorem Ur(i:Le bG cf){e A:Ty}{g:Bool}{a:List e.den->A.den->Option (List e.den)}{c:List aO}:LT cf d (rK e A g a d c bG) (rK e A g a d c cf):=by
 unfold rK;split
 .split
  .rename_i x ui m;obtain⟨sz,n,h⟩:=Cn i m;rw[n];simp only;split
   .rename_i b o p l j;rw[XJ h.le j];simp only;refine LT.look λq=>?_;cases g with
    | true =>
      cases d with
      | none=>exact LT.fail
      | some k=>exact LT.Uo (h.trans<|Rel.b5 h.le)
    | false=>cases d<;>exact LT.bif (LT.ret<|h.trans<|Rel.b5 h.le)
   .exact LT.fail
  .exact LT.fail
 .exact LT.fail
theorem Us(a:Le bG cf)(l:∀k,d=some k->bG.mem (nb+k)=cf.mem (nb+k)){f:Nat}{b:List aO}(h:uy cx bf d f=none->(find cx.Zl f≠none\/find cx.Lo f=none)\/(find cx.Zl f=none/\∃e,find cx.Lo f=some (.clone e)))(i:∀s,uy cx bf d f=some s->(∃e,s=.clone e)\/(∃e A r q,s=.own e A r q)\/∃g,s=.CR g) :
  LT cf d (tH cx nb bf zr d f b bG) (tH cx nb bf inl d f b cf):=by
 unfold tH;split
 .exact O7 a l
 .exact Ur a
 .exact O8 a l
 .rename_i m n o;have p:uy cx bf d f=none:=by
   cases c:uy cx bf d f with
   | none=>rfl
   | some s =>
     rcases i s c with ⟨e,rfl⟩|⟨e,A,r,q,rfl⟩|⟨g,rfl⟩
     .exact absurd c (m e)
     .exact absurd c (n e A r q)
     .exact absurd c (o g)
  rcases h p with j|⟨j,e,t⟩
  .exact XI a j
  .unfold wk;rw[j,t];exact LT.fail
theorem RH{s:Xk}{f:Nat}(h:uy cx bf d f=some s):(∃e,s=.clone e)\/(∃e A r q,s=.own e A r q)\/∃g,s=.CR g:=by
 unfold uy at h;split at h
 .rename_i e a;split at h
  .obtain rfl:=aI h;exact .inl ⟨e,rfl⟩
  .cases h
 .obtain rfl:=aI h;exact .inr (.inl ⟨_,_,_,_,rfl⟩)
 .obtain rfl:=aI h;exact .inr (.inr ⟨_,rfl⟩)
 .cases h
theorem XK:∀{ps:List (Nat×Operand)} {k:Nat},(∀x∈ps.map (·.2),cD bG x=cD cf x)->zq bG k ps=zq cf k ps:=by
 intro ps;induction ps with
 | nil=>intro k _;rfl
 | cons p r b =>
   obtain⟨j,x⟩:=p;intro k h;simp only[zq];rw[h x<|by simp,b (k:=k+1) λy a=>h y (by simp at a⊢;exact .inr a)]
theorem RI{a:List na}:∀{ps:List (Nat×Operand)} {v:aO},(∀x∈ps.map (·.2),cD bG x=cD cf x)->mw bG a v ps=mw cf a v ps:=by
 intro ps;induction ps with
 | nil=>intro v _;rfl
 | cons p r c =>
   obtain⟨k,x⟩:=p;intro v h;simp only[mw];rw[h x<|by simp];have e:∀u,mw bG a u r=mw cf a u r:=λu=>c (v:=u) λy b=>h y (by simp at b⊢;exact .inr b);simp only[e]
theorem XL(C:Le bG cf){o:Oper}{ge:Option Nat}(hge:od o cf=ge)(J:cls cx ge o≠3)(j:∀x∈eU o.op,cD bG x=cD cf x)(G:∀k,o.dst=some k->bG.mem (nb+k)=cf.mem (nb+k)) :
  LT cf o.dst (pS cx nb bf zr o bG) (pS cx nb bf inl o cf):=by
 have R:=Rel.refl C;unfold pS;cases D:o.op with
 | move x=>simp only[D,eU] at j⊢;rw[j x<|by simp];exact BG C G
 | assign x=>simp only[D,eU] at j⊢;rw[j x<|by simp];exact BG C G
 | pick c a b=>simp only[D,eU] at j⊢;rw[j c<|by simp,j a (by simp),j b (by simp)];exact RF C
 | alloc e =>
   simp only;split
   .rename_i k t F hT;rw[F];unfold uf;split
    .exact absurd (by simp[cls,D,hT]) J
    .exact LT.aT C (G k F)
   .rename_i k F hT;rw[F];split
    .rename_i U;exact absurd (by simp[cls,D,hT,U]) J
    .exact LT.bif (LT.aT C<|G k F)
   .exact LT.fail
 | box e x =>
   simp only[D,eU] at j⊢;rw[j x<|by simp];cases F:o.dst with
   | none=>exact LT.fail
   | some k =>
     have U:find cx.sZ e=none:=by
      cases U:find cx.sZ e with
      | none=>rfl
      | some fs=>exact absurd (by simp[cls,D,U]) J
     cases cD cf x<;>simp only[CU,U]<;>first|exact LT.fail|exact LT.aT C (G k F)
 | build t ps =>
   simp only[D,eU] at j⊢;split
   .split
    .rename_i K;obtain⟨sz,L,M⟩:=LN C j K;rw[L];exact LT.ret M
    .exact LT.fail
   .split
    .rename_i K;obtain⟨sz,L,M⟩:=Ds C j K;rw[L];exact LT.ret M
    .exact LT.fail
   .split
    .split
     .rw[RI j];split
      .exact LT.ret R
      .exact LT.ret R
      .exact LT.fail
     .exact LT.fail
    .exact LT.fail
   .exact LT.fail
 | buildSlice t n ps =>
   simp only[D,eU] at j⊢;split
   .split
    .rename_i k V Y;have F:=(Cl V).1;rw[F];exact LT.aT C (G k F)
    .refine LT.bif ?_;split
     .rename_i K;obtain⟨sz,L,M⟩:=Ds C j K;rw[L];exact LT.ret M
     .exact LT.fail
   .unfold Az;rw[XK j];split
    .rename_i k e v F _ _;rw[F];exact LT.bif (LT.aT C<|G _ F)
    .exact LT.fail
   .exact LT.fail
 | load t a=>simp only[D,eU] at j⊢;rw[j a<|by simp];exact RG C
 | store t a x =>
   simp only[D,eU] at j⊢;rw[j a<|by simp,j x (by simp)];cases F:o.dst with
   | none=>exact O3 C
   | some k=>exact LT.fail
 | nilCheck x =>
   simp only[D,eU] at j⊢;rw[j x<|by simp];cases cD cf x with
   | ptr b aP p=>exact LT.RE (λh=>p8 C h) (LT.ret R)
   | cell t x=>exact LT.ret R
   | fn f c=>exact LT.ret R
   | _=>exact LT.fail
 | binOp op xt x y yt =>
   simp only[D,eU] at j⊢;rw[j x<|by simp,j y (by simp)];intro z hz;obtain⟨v,W,h2⟩:=bind_some hz;have G:(Z1 cf (find cx.T xt) (cP cx.lS xt) op (cD cf x)<|cD cf y).run=some v:=by
    unfold Z1 at W⊢;split at W
    .obtain⟨H,J⟩:=aC W;simp only[dv] at H;rw[p8 C H.1,H.2];exact J
    .obtain⟨H,J⟩:=aC W;simp only[dv] at H;rw[p8 C H.1,H.2];exact J
    .exact W
   rw[Tree.run_bind,G];exact LT.ret R z h2
 | unOp op t x=>simp only[D,eU] at j⊢;rw[j x<|by simp];exact LT.bind λ_ _=>LT.ret R
 | convert s t x=>simp only[D,eU] at j⊢;rw[j x<|by simp];exact Ju C G
 | makeFunc fn first E =>
   simp only[D,eU] at j⊢;cases fn with
   | func f =>
     simp only;have:E.toList.map (cD bG)=E.toList.map (cD cf):=Il λx hx=>j x (mY _ hx);rw[this];split
     .exact LT.ret R
     .exact LT.fail
   | _=>exact LT.fail
 | slice t x lo hi m =>
   simp only[D,eU] at j⊢;cases m with
   | some m=>exact LT.fail
   | none =>
     simp only;rw[j x<|by simp];exact O4 C λy hy=>j y (nX _ hy)
 | fieldAddr s x k=>simp only[D,eU] at j⊢;rw[j x<|by simp];exact EY C
 | field xt x k =>
   simp only[D,eU] at j⊢;rw[j x<|by simp];split
   .refine LT.bif ?_;split
    .exact LT.ret R
    .exact LT.fail
   .exact LT.fail
 | indexAddr t x i =>
   simp only[D,eU] at j⊢;rw[j x<|by simp,j i (by simp)];split
   .cases cP bf 5000000 with
    | true=>exact O5 C
    | false=>exact xk C
   .exact LT.fail
 | index t x i =>
   simp only[D,eU] at j⊢;rw[j x<|by simp,j i (by simp)];split
   .exact O6 C
   .exact LT.fail
 | makeSlice t l c =>
   simp only[D,eU] at j⊢;rw[j l<|by simp,j c (by simp)];cases F:o.dst with
   | none=>exact LT.fail
   | some k =>
     split
     .rename_i k' _ _ _ _ _ hk' _ _ _;obtain rfl:=aI hk';exact LT.need (LT.need<|LT.aT C<|G k F)
     .exact LT.fail
 | extract t k =>
   simp only[D,eU] at j⊢;rw[j t<|by simp];split
   ·((try dsimp only);split<;>first|exact LT.fail|skip)
    exact LT.ret R
   .exact LT.fail
 | call c =>
   simp only[D,eU] at j⊢;have O:c.args.toList.map (cD bG)=c.args.toList.map (cD cf):=Il λx hx=>j x (mY _ hx);unfold uz;rw[O];cases H:c.callee with
   | builtin b =>
     simp only;split
     .rename_i x t _ _;cases We (find cx.T t) x with
      | true =>
        simp only[eC]
        ((try dsimp only);split<;>first|exact LT.fail|(rename_i Z;rw[((λr (hr:_=some r)=>aav C hr)) _ Z];try dsimp only))
        exact LT.ret R
      | false =>
        simp only[iT];split
        .refine LT.RE (λh=>?_) (LT.ret R);simp only[dv] at h⊢;exact⟨p8 C h.1,h.2⟩
        .exact LT.fail
     .split
      .exact BH C G
      .exact BH C G
      .exact LT.fail
     .exact absurd (by simp[cls,D,H]) J
     .exact absurd (by simp[cls,D,H]) J
     .exact LT.bind λ_ _=>LT.ret R
     .exact LT.bind λ_ _=>LT.ret R
     .exact LT.fail
   | value f =>
     simp only;rw[j f<|by rw[H];simp];split
     .rename_i g E j;have S:(E.all λb=>live bG b.1 b.2)=true->(E.all λb=>live cf b.1 b.2)=true:=λh=>by
       rw[ra] at h⊢;exact λb hm=>p8 C (h b hm)
      refine LT.RE S (Us C G (λZ=>?_) λs hs=>RH hs);have heq:ge=some g:=by rw[<-hge];simp[od,D,H,j]
      cases X:find cx.Zl g with
      | some c=>exact .inl (.inl<|by simp)
      | none =>
        cases I:find cx.Lo g with
        | none=>exact .inl (.inr rfl)
        | some s =>
          refine .inr ⟨rfl,?_⟩;cases s with
          | clone e=>exact⟨e,rfl⟩
          | own e A r q=>simp[uy,I] at Z
          | CR g=>simp[uy,I] at Z
          | _=>exact absurd (by simp[cls,D,H,heq,X,I]) J
     .exact LT.fail
   | invoke r m =>
     simp only;rw[j r<|by rw[H];simp];unfold rj;split
     .split
      .rename_i K;obtain⟨sz,L,M⟩:=Cn C K;rw[L];exact LT.look λ_=>LT.ret M
      .exact LT.fail
     .exact LT.fail
 | makeInterface u x =>
   simp only[D,eU] at j⊢;rw[j x<|by simp];unfold ri;split
   .split
    .split
     .rename_i K;obtain⟨sz,L,M⟩:=AH C K;rw[L];exact LT.ret M
     .exact LT.fail
    .exact LT.fail
   .exact LT.fail
 | _=>exact LT.fail
end
end Go.Ge
namespace Go.Ge
open RowKit
theorem oe{l:List Nat}{t:Nat}:cP l t=true↔t∈l:=by
 induction l with
 | nil=>simp[cP]
 | cons i r a =>
   simp only[cP,wc,fP,a];constructor
   .rintro(h|h)
    .exact .inl (eT h)
    .exact .inr h
   .rintro(h|h)
    .subst h;exact .inl (by simp)
    .exact .inr h
theorem ju{l:List Nat}{t:Nat}:cP l t=false↔t∉l:=by
 rw[<-oe];simp
theorem Ut{l:List Operand}{t:Nat}(h:Operand.tmp t∈l):t∈tmpsOf l:=by
 induction l with
 | nil=>cases h
 | cons x r b =>
   rcases fP.1 h with a|a
   .subst a;exact mo ..
   .clear h;have h:=a;cases x<;>simp only[tmpsOf]
    case tmp k=>exact nX _ (b h)
    all_goals exact b h
section
variable {cx:Ctx} {nb:Nat} {bf:List Nat} {inl:Nat->List aO->St->Tree (aO×St)} {σ bb τ:St}
structure RJ (cx:Ctx) (nb:Nat) (o:Oper) (fp:Fp):Prop where
 own:∀k,o.dst=some k->nb+k∈fp.rd
 sub:∀b∈fp.wr,b∈fp.rd
 w1:cls cx fp.fn o≠0->∀k,o.dst=some k->nb+k∈fp.wr
 w2:cls cx fp.fn o≠0->cls cx fp.fn o≠1->∀b∈fp.rd,b∈fp.wr
 c3:cls cx fp.fn o≠3
theorem HW(o:Oper)(j:St)(h:(w8 cx nb o j).HP=false):RJ cx nb o (w8 cx nb o j):=by
 have a:∀k,o.dst=some k->nb+k∈Go.Ge.own nb o:=λk c=>by simp[Go.Ge.own,c]
 unfold w8 at h⊢;dsimp only at h⊢;split at h<;>rename_i g
 .exact⟨λk c=>mZ _ (a k c),λb e=>(nomatch e),λi=>absurd g i,λi=>absurd g i,by rw[g];decide⟩
 .exact⟨λk c=>mZ _ (a k c),λb e=>mZ _ e,λ_ k c=>a k c,λ_ l=>absurd g l,by rw[g];decide⟩
 .exact⟨λk c=>mZ _ (a k c),λb e=>e,λ_ k c=>mZ _ (a k c),λ_ _ b e=>e,by rw[g];decide⟩
 .cases h
theorem acK{ts c:List Nat}:Le { (σ.only ts c) with slots:=σ.slots } σ:=λb g a=>by
 simp only[St.only] at a;cases e:cP c b with
 | true=>rw[e] at a;exact a
 | false=>rw[e] at a;cases a
theorem RL{ts a:List Nat}:Le (σ.only ts a) σ:=λb c e=>acK (ts:=ts) b c e
theorem RM{l:List Operand}{a:List Nat}{x:Operand}(b:x∈l):cD (σ.only (tmpsOf l) a) x=cD σ x:=by
 cases x with
 | tmp t =>
   have:=oe.2 (Ut b);simp only[cD,St.only,this,eC]
 | _=>rfl
theorem acL{a b:Option Nat}(h:afq a b=true):a=b:=by
 cases a<;>cases b<;>first|rfl|cases h|exact congrArg some (eT h)
theorem LO(o:Oper)(a:List Nat):od o (σ.only (tmpsOf<|eU o.op) a)=od o σ:=by
 unfold od;split
 .rename_i c b;split
  .rename_i x e;rw[RM<|by rw[b];simp[eU,e]]
  .rfl
 .rfl
theorem AJ{a:Fp}{o:Oper}(g:a.HP=false->RJ cx nb o a)(i:(ix cx nb bf inl a o σ).run=some bb):(pS cx nb bf inl o σ).run=some bb:=by
 unfold ix at i;cases c:a.HP with
 | true=>rw[c] at i;exact i
 | false =>
   have g:=g c;rw[c] at i;simp only[iT] at i;obtain⟨τ,j,y⟩:=bind_some i;obtain rfl:=aI y;obtain⟨e,j⟩:=aC j;have e:=acL e;have l:od o σ=a.fn:=by rw[<-e];exact(LO ..).symm
   have z:=XL (cx:=cx) (nb:=nb) (bf:=bf) (inl:=inl) (bG:=σ.only (tmpsOf<|eU o.op) a.rd) (cf:=σ) RL (o:=o) l g.c3 (λx A=>RM A)
    (λk r=>by simp only[St.only,oe.2 (g.own k r),eC]) τ j
   rw[z];have hC:=Um (cx:=cx) (nb:=nb) (bf:=bf) (σ:=σ.only (tmpsOf<|eU o.op) a.rd) (o:=o) (p:=λb=>b∈a.wr) e g.c3 (λs k r=>g.w1 s k r) (λs j b t=>by
    refine g.w2 s j b ?_;simp only[St.only] at t;cases n:cP a.rd b with
    | true=>exact oe.1 n
    | false=>rw[n] at t;exact absurd rfl t) τ j
   have n:(λb=>match τ.mem b with|some x=>some x|none=>σ.mem b)=λb=>bif cP a.wr b then τ.mem b else σ.mem b:=by
    funext b;have u:b∈a.rd->(σ.only (tmpsOf<|eU o.op) a.rd).mem b=σ.mem b:=λh=>by simp only[St.only,oe.2 h,eC]
    cases v:cP a.wr b with
    | true =>
      simp only[eC];cases q:τ.mem b with
      | some x=>rfl
      | none =>
        simp only;rw[<-u (g.sub b<|oe.1 v)];rcases hC b with k|k
        .rw[<-k,q]
        .exact absurd q k.1
    | false =>
      simp only[iT];rcases hC b with k|k
      .rw[k];cases q:(σ.only (tmpsOf<|eU o.op) a.rd).mem b with
       | none=>rfl
       | some x=>simp only;exact(RL b x q).symm
      .exact absurd k.2 (ju.1 v)
   unfold lift lay;exact congrArg (λm=>some (St.mk _ m)) n
theorem AK{a b:List Nat}(h:Xp a b=true){x:Nat}(c:x∈a):x∉b:=by
 simp only[Xp,ra,jL] at h;exact ju.1 (h x c)
theorem apart_spec{x y:Oper}{f g:Fp}(h:apart x y f g=true):f.HP=false/\g.HP=false/\(∀b∈f.wr,b∉g.rd)/\(∀b∈g.wr,b∉f.rd) /\
  (∀d,x.dst=some d->d∉tmpsOf (eU y.op))/\(∀d,y.dst=some d->d∉tmpsOf (eU x.op))/\(∀d e,x.dst=some d->y.dst=some e->d≠e):=by
 simp only[apart,dv,jL] at h;obtain⟨⟨⟨⟨⟨k,l⟩,m⟩,n⟩,a⟩,i⟩:=h;refine⟨k,l,λb j=>AK m j,λb j=>AK n j,λd c=>?_,λd c=>?_,λd e c o=>?_⟩
 .rw[c] at a;simp only[dv,jL] at a;exact ju.1 a.1
 .rw[c] at i;simp only[jL] at i;exact ju.1 i
 .rw[c,o] at a;simp only[dv,jL] at a;intro q;subst q;simp at a
theorem Dt{d:Option Nat}{g a c:List Nat}(i:∀k,d=some k->k∉a)(j:∀b∈g,b∉c):(lay σ d g τ).only a c=σ.only a c:=by
 unfold St.only lay
 congr 1
 .funext t;cases h:cP a t with
  | false=>rfl
  | true =>
    simp only[eC];cases d with
    | none=>rfl
    | some k =>
      have:t≠k:=λe=>i k rfl (by rw[<-e];exact oe.1 h);simp[iI this]
 .funext b;cases h:cP c b with
  | false=>rfl
  | true =>
    have:b∉g:=λl=>j b l (oe.1 h);simp[ju.2 this]
theorem aay{l g:Oper}{c h:Fp}{i j:St}(o:apart l g c h=true)(p:∀b∈c.wr,b∈c.rd)(m:(ix cx nb bf inl c l σ).run=some i)(n:(ix cx nb bf inl h g i).run=some j) :
  ∃a,(ix cx nb bf inl h g σ).run=some a/\(ix cx nb bf inl c l a).run=some j:=by
 obtain⟨v,x,C,y,D,E,F⟩:=apart_spec o;unfold ix at m n⊢;rw[v] at m;rw[x] at n;simp only[v,x,iT] at m n⊢;obtain⟨G,H,I⟩:=bind_some m;obtain rfl:=aI I;obtain⟨q,z,J⟩:=bind_some n;obtain rfl:=aI J;rw[Dt D C] at z;refine⟨lay σ g.dst h.wr q,by rw[Tree.run_bind,z];rfl,?_⟩;rw[Dt E y,Tree.run_bind,H];show some _=some _
 congr 1
 unfold lay
 congr 1
 .cases hi:l.dst with
  | none=>rfl
  | some k =>
    cases K:g.dst with
    | none=>rfl
    | some e =>
      have r:=F k e hi K;funext t;dsimp only;by_cases s:t=k
      .subst s;simp[iI r]
      .by_cases A:t=e
       .subst A;simp[iI s]
       .simp[iI s,iI A]
 .funext b;dsimp only;cases u:cP c.wr b with
  | false=>rfl
  | true =>
    have:b∉h.wr:=λL=>y b L (p b<|oe.1 u);simp[ju.2 this]
inductive Reach (ops:Array Oper):Nat->Nat->Prop where
 | step {i:Nat} {o:Oper} {e:Edge} (h:ops[i]?=some o) (he:e∈o.after) (hb:Region.binds .any e=true):Reach ops i e.on
 | more {i k:Nat} {o:Oper} {e:Edge} (h:ops[i]?=some o) (he:e∈o.after) (hb:Region.binds .any e=true) (r:Reach ops e.on k):Reach ops i k
def O9(b:Array Oper)(a:Array Bool):Prop:=∀i o e,a.getD i false=true->b[i]?=some o->e∈o.after->Region.binds .any e=true->a.getD e.on false=true
theorem Reach.listed{b:Array Oper}{a:Array Bool}(j:O9 b a){i k:Nat}(h:Reach b i k):a.getD i false=true->a.getD k false=true:=by
 induction h with
 | step h c e=>exact λg=>j _ _ _ g h c e
 | more h c e r l=>exact λg=>l (j _ _ _ g h c e)
theorem Reach.ready{c:Array Oper}{a:Array Bool}(l:O9 c a){i k:Nat}(h:Reach c i k)(m:i∈Region.ready .any c a):a.getD k false=true:=by
 obtain⟨_,o,j,b⟩:=mem_ready.1 m;cases h with
 | step h e g =>
   obtain rfl:=aI (j.symm.trans h);exact b _ e g
 | more h e g r =>
   obtain rfl:=aI (j.symm.trans h);exact r.listed l (b _ e g)
theorem O9.list{b:Array Oper}{a:Array Bool}(s:O9 b a){i:Nat}(t:i∈Region.ready .any b a):O9 b (a.setIfInBounds i true):=by
 obtain⟨_,u,g,c⟩:=mem_ready.1 t;have up:∀k,a.getD k false=true->(a.setIfInBounds i true).getD k false=true:=by
  intro k l;by_cases e:i=k
  .subst e;rcases sY i a.size with h|h
   .simp[h]
   .simp[QA h] at l
  .rw[getD_set_ne false e];exact l
 intro j o e m n p r;by_cases q:i=j
 .subst q;obtain rfl:=aI (g.symm.trans n);exact up _ (c e p r)
 .rw[getD_set_ne false q] at m;exact up _ (s j o e m n p r)
theorem RN{a:Array Bool}{i:Nat}(e:a.getD i true=false)(b:a.getD i false=true):False:=by
 rcases sY i a.size with c|c
 .simp[c] at e b;rw[e] at b;cases b
 .simp[QA c] at b
def rP(ops:Array Oper)(a:List zt):Prop:=∀k,∀b,Nat.testBit (maskAt a k) b=true->Reach ops k b
theorem Co{c:Array Oper}{a:List zt}(q:rP c a){i:Nat}{o:Oper}(n:c[i]?=some o){b:Nat}(h:Nat.testBit (mask a o) b=true):Reach c i b:=by
 unfold mask at h;have key:∀l:List Edge,(∀e∈l,e∈o.after)->Nat.testBit (ug a l) b=true->Reach c i b:=by
  intro l;induction l with
  | nil=>intro _ h;simp[ug] at h
  | cons e r p =>
    intro j h;simp only[ug] at h;cases k:Region.binds .any e with
    | false=>rw[k] at h;exact p (λm g=>j m (nX _ g)) h
    | true =>
      rw[k] at h;simp only[eC,Nat.testBit_or,wc] at h;rcases h with (h|h)|h
      .exact p (λm g=>j m (nX _ g)) h
      .rw[Nat.testBit_two_pow] at h;have:e.on=b:=by simpa using h
       subst this;exact .step n (j e<|mo ..) k
      .exact .more n (j e<|mo ..) k (q _ _ h)
 exact key _ (λe s=>by simpa using s) h
theorem rP.nil{ops:Array Oper}:rP ops []:=λk b h=>by simp[maskAt] at h
theorem rP.cons{ops:Array Oper}{a:List zt}(e:rP ops a){i:Nat}{o:Oper}{f:Fp}(g:ops[i]?=some o):rP ops ((i,o,f,mask a o)::a):=by
 intro k b h;simp only[maskAt] at h;cases c:Nat.beq i k with
 | true =>
   rw[c] at h;obtain rfl:=eT c;exact Co e g h
 | false=>rw[c] at h;exact e k b h
def aaz(b:Ctx)(c:Nat)(e:List Nat)(inl:Nat->List aO->St->Tree (aO×St))(a:Array Oper)(g:Nat->Fp)(Q:St->Prop):Nat->Array Bool->St->Prop
 | 0,listed,σ=>Region.ready .any a listed=[]/\Q σ
 | n+1,listed,σ=>(Region.ready .any a listed=[]->Q σ) /\
  ∀i∈Region.ready .any a listed,∃o bb,a[i]?=some o/\o.guard=none/\(ix b c e inl (g i) o σ).run=some bb/\aaz b c e inl a g Q n (listed.setIfInBounds i true) bb
variable {ops:Array Oper} {fp:Nat->Fp} {Q:St->Prop}
theorem Uu{i:Nat}{o:Oper}(D:ops[i]?=some o)(u:o.guard=none)(v:∀b∈(fp i).wr,b∈(fp i).rd):∀(n:Nat) (listed:Array Bool) (σ bG:St),
  O9 ops listed->(∀j s,ops[j]?=some s->j≠i->listed.getD j true=false->Reach ops j i\/apart o s (fp i) (fp j)=true) ->
  i∈Region.ready .any ops listed->(ix cx nb bf inl (fp i) o σ).run=some bG->aaz cx nb bf inl ops fp Q n (listed.setIfInBounds i true) bG->aaz cx nb bf inl ops fp Q (n+1) listed σ:=by
 intro n;induction n with
 | zero =>
   intro listed σ bG c e p z H;refine⟨λh=>(by rw[h] at p;cases p),λj t=>?_⟩;by_cases a:j=i
   .subst a;exact⟨o,bG,D,u,z,H⟩
   .have:=ready_mono t a;rw[H.1] at this;cases this
 | succ n F =>
   intro listed σ bG c e p z H;refine⟨λh=>(by rw[h] at p;cases p),λj t=>?_⟩;by_cases a:j=i
   .subst a;exact⟨o,bG,D,u,z,H⟩
   .obtain⟨s,cf,q,A,G,I⟩:=H.2 j (ready_mono t a);obtain⟨g,J,l,E⟩:=mem_ready.1 t;rw[q] at l;obtain rfl:=aI l;have r:apart o s (fp i) (fp j)=true:=by
     rcases e j s q a g with K|r
     .exact(RN (mem_ready.1 p).1<|K.ready c t).elim
     .exact r
    obtain⟨m,L,M⟩:=aay r v z G;refine⟨s,m,q,A,L,F (listed.setIfInBounds j true) m cf (c.list t) (λk O R C x=>e k O R C ?_) (ready_mono p<|F2 a) M ?_⟩
    .by_cases y:j=k
     .subst y;exact g
     .rw[getD_set_ne true y] at x;exact x
    .rw[adW _ _ a];exact I
end
end Go.Ge
namespace Go.Ge
open RowKit
section
variable {P:Program} {B:qK} {N:Nat} {γ:Gh} {cx:Ctx} {nb:Nat} {bf:List Nat} {inl:Nat->List aO->St->Tree (aO×St)} {σ bb τ:St} {ops:Array Oper} {fp:Nat->Fp}
def acM(cx:Ctx)(nb:Nat)(bf:List Nat)(inl:Nat->List aO->St->Tree (aO×St))(ops:Array Oper)(fp:Nat->Fp):Nat->List Oper->St->St->Prop
 | _,[],σ,bb=>σ=bb
 | k,o::l,σ,bb=>o.guard=none/\((fp k).HP=false->RJ cx nb o (fp k))/\((fp k).HP=true->(fp k).wr=[])/\(∀e∈o.after,Region.binds .any e=true->e.on<k) /\
  (∀j a,l[j]?=some a->Reach ops (k+1+j) k\/apart o a (fp k) (fp<|k+1+j)=true) /\
  ∃bG,(ix cx nb bf inl (fp k) o σ).run=some bG/\acM cx nb bf inl ops fp (k+1) l bG bb
theorem Jv{o:Oper}{f a:Fp}{k m c:Nat}{b:Oper}{r:List zt}(h:loose o f m ((k,b,a,c)::r)=true):(Nat.testBit m k=true\/apart b o a f=true)/\loose o f m r=true:=by
 simp only[loose,dv,wc] at h;exact h
theorem aaA(o:Oper)(a:St)(h:(w8 cx nb o a).HP=true):(w8 cx nb o a).wr=[]:=by
 unfold w8 at h⊢;dsimp only at h⊢;split at h<;>first|cases h|skip
 rfl
theorem Pb:∀(l:List Oper) (k:Nat) (done:List zt) (σ:St),(∀j o,l[j]?=some o->ops[k+j]?=some o)->rP ops done->(II cx nb bf inl (number k l) done σ).run=some bb ->
  ∃g:List (Fp×Nat),g.length=l.length/\(∀j m b,g[j]?=some m->Nat.testBit m.2 b=true->Reach ops (k+j) b) /\
   ∀fp:Nat->Fp,(∀j f,g[j]?=some f->fp (k+j)=f.1)->acM cx nb bf inl ops fp k l σ bb/\∀j o f,l[j]?=some o->g[j]?=some f->loose o (fp<|k+j) f.2 done=true:=by
 intro l;induction l with
 | nil =>
   intro k done σ _ _ h;exact⟨[],rfl,λj m b h=>absurd h (by simp),λfp _=>⟨aI h,λj o f a=>absurd a (by simp)⟩⟩
 | cons o l A =>
   intro k done σ t u h;simp only[number,II] at h;split at h
   .cases h
   .rename_i C;obtain⟨r,D⟩:=aC h;obtain⟨bG,E,F⟩:=bind_some D;simp only[dv] at r;have v:ops[k]?=some o:=t 0 o rfl;obtain⟨g,x,y,G⟩:=A (k+1) _ bG (λj s a=>by have:=t (j+1) s (by simpa using a);rw[<-this];congr 1;omega) (u.cons v) F;refine⟨(w8 cx nb o σ,mask done o)::g,by simp[x],λj m b a c=>?_,λfp i=>?_⟩
    .cases j with
     | zero=>obtain rfl:=aI a;exact Co u v c
     | succ j=>have:=y j m b (by simpa using a) c;rw[show k+(j+1)=k+1+j by omega];exact this
    have n:fp k=w8 cx nb o σ:=i 0 _ rfl;obtain⟨H,z⟩:=G fp λj f a=>by have:=i (j+1) f (by simpa using a);rw[<-this];congr 1;omega
    refine⟨⟨C,λc=>by rw[n] at c⊢;exact HW o σ c,λc=>by rw[n] at c⊢;exact aaA o σ c,λe I c=>?_,λj J a=>?_,bG,by rw[n];exact E,H⟩,λj s f a p=>?_⟩
    .have:=r.2;rw[<-Array.all_toList,ra] at this;have:=this e (by simpa using I);rw[c] at this;have:=GV (by simpa [Nat.blt] using this);omega
    .obtain⟨f,p⟩:∃f,g[j]?=some f:=⟨_,fN (by rw[x];exact(fq.1 a).1)⟩;rcases(Jv<|z j J f a p).1 with q|q
     .exact .inl (y j f k p q)
     .rw[n];exact .inr q
    .cases j with
     | zero =>
       obtain rfl:=aI a;obtain rfl:=aI p;rw[wS,n];exact r.1
     | succ j =>
       have:=(Jv<|z j s f (by simpa using a)<|by simpa using p).2;rw[show k+(j+1)=k+1+j by omega];exact this
theorem aaB:∀(l:List Oper) (k:Nat) (listed:Array Bool) (σ:St),(∀j,l[j]?=ops[k+j]?)->listed.size=ops.size->(∀j,j<k->j<ops.size->listed.getD j false=true) ->
  (∀j,k<=j->j<ops.size->listed.getD j true=false)->O9 ops listed->acM cx nb bf inl ops fp k l σ bb->aaz cx nb bf inl ops fp (·=bb) l.length listed σ:=by
 intro l;induction l with
 | nil =>
   intro k listed σ u v x C a h;refine⟨?_,h⟩;cases H:Region.ready .any ops listed with
   | nil=>rfl
   | cons i r =>
     exfalso;have hi:i∈Region.ready .any ops listed:=by rw[H];exact mo ..
     obtain⟨D,o,G,_⟩:=mem_ready.1 hi;have g:i<ops.size:=(vk.1 G).1;rcases sY i k with t|t
     .have:=x i t g;simp[v,g] at this D;rw[this] at D;cases D
     .have:=u (i-k);rw[show k+(i-k)=i by omega,G] at this;cases this
 | cons o l I =>
   intro k listed σ u v x C a h;have t:ops[k]?=some o:=by simpa using(u 0).symm
   have g:k<ops.size:=(vk.1 t).1;obtain⟨J,K,E,L,M,bG,O,R⟩:=h;have c:k∈Region.ready .any ops listed:=mem_ready.2 ⟨C k (cg _) g,o,t,λe S y=>by
    have:=L e S y;exact x e.on this (by omega)⟩
   refine Uu t J (λb y=>?_) l.length listed σ bG a (λj T A U q=>?_) c O (I (k+1) _ bG (λj=>?_) (by simp[v]) (λj A s=>?_) (λj A s=>?_) (a.list c) R)
   .cases n:(fp k).HP with
    | true=>rw[E n] at y;cases y
    | false=>exact(K n).sub b y
   .have p:j<ops.size:=(vk.1 A).1;rcases sY j k with z|z
    .exfalso;have:=x j z p;simp[v,p] at this q;rw[this] at q;cases q
    .have F:=u (j-k);rw[show k+(j-k)=j by omega,A] at F;obtain⟨m,V⟩:∃m,j-k=m+1:=⟨j-k-1,by omega⟩;rw[V] at F;have:=M m T (by simpa using F);rw[show k+1+m=j by omega] at this;exact this
   .have:=u (j+1);rw[show k+1+j=k+(j+1) by omega,<-this];simp
   .by_cases e:j=k
    .subst e;simp[v,g]
    .rw[getD_set_ne false<|F2 e];exact x j (by omega) s
   .rw[getD_set_ne true (by omega:k≠j)];exact C j (by omega) s
theorem Jw:∀{l:List Oper} {k j:Nat} {o:Oper},l[j]?=some o->(k+j,o)∈number k l:=by
 intro l;induction l with
 | nil=>intro k j o h;cases h
 | cons p l a =>
   intro k j o h;cases j with
   | zero=>obtain rfl:=aI h;exact mo ..
   | succ j=>exact nX _ (by rw[show k+(j+1)=k+1+j by omega];exact a (by simpa using h))
theorem Jx{d:Nat}:∀{items:List (Nat×Oper)},nd d items=false->∀{i:Nat} {o:Oper},(i,o)∈items->o.dst≠some d:=λh _ _ a=>Ug h _ _ a
theorem LP(z:fo P cx)(e:pA P B.G cx)(g:vz P B.G inl){Q:Exit->Act->World->Prop}(r:∀i o,ops[i]?=some o->(fp i).HP=false->RJ cx nb o (fp i))
  (A:∀o∈ops.toList,∀k,o.dst=some k->k<N):∀(n:Nat) (listed:Array Bool) (σ:St) (γ:Gh) (a:Act) (w:World),aaz cx nb bf inl ops fp (·=bb) n listed σ->cW B N γ σ a w ->
   (∀bQ s w',cW B N bQ bb s w'->Ext B γ σ.mem w bQ bb.mem w'->Fr (number 0 ops.toList) a s->Q .normal s w')->wpAny P .any ops Q n listed a w:=by
 intro n;induction n with
 | zero =>
   intro listed σ γ a w h p q;obtain⟨c,rfl⟩:=h;exact⟨c,q γ a w p (Ext.refl _ _ _ _) λt _=>rfl⟩
 | succ n C =>
   intro listed σ γ a w h p q;refine⟨λD=>?_,λi E=>?_⟩
   .obtain rfl:=h.1 D;exact q γ a w p (Ext.refl _ _ _ _) λt _=>rfl
   .obtain⟨o,bG,c,F,H,I⟩:=h.2 i E;have m:o∈ops.toList:=by
     have:=ZB c;simpa using this
    have b:(i,o)∈number 0 ops.toList:=by
     have:=Jw (l:=ops.toList) (k:=0) (j:=i) (o:=o) (by simpa using c);simpa using this
    unfold wpOp;rw[c];dsimp only;have J:Region.wanted o (yielded ops a.tmps)=true:=by unfold Region.wanted;rw[F]
    rw[J];simp only[ky];refine .inl (Jf z e g p (A o m) (AJ (r i o c) H) λu v K L M=>?_);refine C _ bG u _ K I L λx O R S T U=>q x O R S (M.trans T) λt y=>?_;rw[U t y,fC (Jx y b)]
theorem cW.draw{a:Act}{w:World}(h:cW B N γ σ a w)(n:Nat):cW B N γ σ a { w with drawn:=n }/\Ext B γ σ.mem w γ σ.mem { w with drawn:=n }:=by
 obtain⟨m1,c⟩:=h.ok.far (w':={ w with drawn:=n }) (I':=γ.I) ⟨rfl,rfl,rfl,cg _,λ_ _=>rfl⟩ (λ_ _ k=>k) (λb o k=>h.ok.tu b o k) (λb o k e=>absurd k e);exact⟨h.go c m1,c⟩
theorem Pc(c:P.follows .mixedOrders=true)(t:fo P cx)(g:pA P B.G cx)(m:vz P B.G inl){Q:Exit->Act->World->Prop}{id:Nat}{a:Act}{w:World}
  (u:∀o∈ops.toList,∀k,o.dst=some k->k<N) (v:(II cx nb bf inl (number 0 ops.toList) [] σ).run=some bb) (h:cW B N γ σ a w)
  (y:∀bQ n w',cW B N bQ bb n w'->Ext B γ σ.mem w bQ bb.mem w'->Fr (number 0 ops.toList) a n->Q .normal n w'):(Code.region id ops true).wp P Q a w:=by
 refine wp_region_any c ?_;obtain⟨z,L,M,A⟩:=Pb (ops:=ops) ops.toList 0 [] σ (λj o b=>by simpa using b) rP.nil v
 let fp:Nat->Fp:=λi=>(z[i]?.map (·.1)).getD ⟨[],[],true,none⟩
 obtain⟨q,_⟩:=A fp λj f b=>by simp[fp,b]
 have key:∀(l:List Oper) (k:Nat) (σ:St),acM cx nb bf inl ops fp k l σ bb->∀j o,l[j]?=some o->(fp<|k+j).HP=false->RJ cx nb o (fp<|k+j):=by
  intro l;induction l with
  | nil=>intro k σ _ j o b;cases b
  | cons o l C =>
    intro k σ D j E b;obtain⟨O,F,H,R,S,bG,T,I⟩:=D;cases j with
    | zero=>obtain rfl:=aI b;exact F
    | succ j=>rw[show k+(j+1)=k+1+j by omega];exact C (k+1) bG I j E (by simpa using b)
 have hA:=aaB (ops:=ops) (cx:=cx) (nb:=nb) (bf:=bf) (inl:=inl) (fp:=fp) (bb:=bb) ops.toList 0 (Array.replicate ops.size false) σ (by simp) (by simp) (λj b=>by omega)
  (λj _ b=>by simp[b]) (λi o e p=>by
   exfalso;rcases sY i ops.size with r|r<;>simp[r] at p) q
 obtain⟨J,K⟩:=h.draw (w.drawn+1);refine LP t g m (λi o p=>by have:=key _ 0 σ q i o (by simpa using p);simpa using this) u _ _ σ γ a _ (by simpa using hA) J λbQ n w' s x f=>y bQ n w' s (K.trans x) f
end
end Go.Ge
namespace Go.Ge
open RowKit
section
variable {cx:Ctx} {nb:Nat} {bf:List Nat} {inl:Nat->List aO->St->Tree (aO×St)} {ops:Array Oper} {fp:Nat->Fp}
abbrev Lk:=St×(Nat->Bool)
def Cp(a:Array Oper)(o:Oper)(s:Lk):Option Bool:=match o.guard with
 | none=>some true
 | some (g,want)=>match(a[g]?).bind (·.dst) with
   | none=>none
   | some dg=>bif s.2 g then some false else match s.1.slots dg with
     | .data .bool c=>some ((show Bool from c)==want)
     | _=>none
def nV(b:Ctx)(c:Nat)(e:List Nat)(inl:Nat->List aO->St->Tree (aO×St))(a:Array Oper)(f:Fp)(i:Nat)(o:Oper)(s:Lk):Option Lk:=match Cp a o s with
 | none=>none
 | some true=>(ix b c e inl f o s.1).run.map λσ=>(σ,s.2)
 | some false=>some (s.1.ba o.dst .undef,gz i s.2)
def afV:St:={ slots:=λ_=>.undef,mem:=λ_=>none }
theorem RO(a:St)(d:Option Nat):a.ba d .undef=lay a d [] afV:=by
 unfold lay;cases d with
 | none=>rfl
 | some k=>rfl
theorem Nj{f:Fp}{i:Nat}{o:Oper}{s k:Lk}(l:f.HP=false)(h:nV cx nb bf inl ops f i o s=some k):∃b e τ,Cp ops o s=some b/\k=(lay s.1 o.dst e τ,bif b then s.2 else gz i s.2)/\(∀x∈e,x∈f.wr) /\
  ∀a:Lk,Cp ops o a=some b->(b=true->a.1.only (tmpsOf<|eU o.op) f.rd=s.1.only (tmpsOf<|eU o.op) f.rd)->nV cx nb bf inl ops f i o a=some (lay a.1 o.dst e τ,bif b then a.2 else gz i a.2):=by
 unfold nV at h;cases hd:Cp ops o s with
 | none=>rw[hd] at h;cases h
 | some b =>
   rw[hd] at h;cases b with
   | true =>
     simp only at h;obtain⟨bb,c,rfl⟩:=qY.1 h;unfold ix at c;rw[l] at c;simp only[iT] at c;obtain⟨τ,m,n⟩:=bind_some c;obtain rfl:=aI n;refine⟨true,f.wr,τ,rfl,rfl,λx g=>g,λa j p=>?_⟩;unfold nV;rw[j];simp only;unfold ix;rw[l];simp only[iT];rw[Tree.run_bind,p rfl,m];rfl
   | false =>
     simp only at h;obtain rfl:=aI h;refine⟨false,[],afV,rfl,by rw[RO];rfl,λx g=>(nomatch g),λa j _=>?_⟩;unfold nV;rw[j];simp only;rw[RO];rfl
theorem RP{i j:Nat}{x y:Oper}{f g:Fp}(h:zu ops i j x y f g=true):f.HP=false/\g.HP=false/\(∀b∈f.wr,b∉g.rd)/\(∀b∈g.wr,b∉f.rd)/\w9 x j=true/\w9 y i=true /\
  (∀d,x.dst=some d->d∉Ca ops y)/\(∀d,y.dst=some d->d∉Ca ops x)/\(∀d e,x.dst=some d->y.dst=some e->d≠e):=by
 simp only[zu,dv,jL] at h;obtain⟨⟨⟨⟨⟨⟨⟨m,n⟩,o⟩,p⟩,r⟩,s⟩,a⟩,k⟩:=h;refine⟨m,n,λb l=>AK o l,λb l=>AK p l,r,s,λd c=>?_,λd c=>?_,λd e c t=>?_⟩
 .rw[c] at a;simp only[dv,jL] at a;exact ju.1 a.1
 .rw[c] at k;simp only[jL] at k;exact ju.1 k
 .rw[c,t] at a;simp only[dv,jL] at a;intro q;subst q;simp at a
theorem Jy{i:Nat}{o:Oper}{s:Lk}{d:Option Nat}{m:List Nat}{n:St}{b:Bool}(c:w9 o i=true)(r:∀k,d=some k->k∉Ca ops o):Cp ops o (lay s.1 d m n,bif b then s.2 else gz i s.2)=Cp ops o s:=by
 unfold Cp;cases a:o.guard with
 | none=>rfl
 | some p =>
   obtain⟨g,q⟩:=p;dsimp only;cases h:(ops[g]?).bind (·.dst) with
   | none=>rfl
   | some dg =>
     dsimp only;have j:Nat.beq g i=false:=by
      unfold w9 at c;rw[a] at c;simpa using c
     have t:(bif b then s.2 else gz i s.2) g=s.2 g:=by
      cases b with
      | true=>rfl
      | false=>simp only[iT,gz,j,yN]
     have u:(lay s.1 d m n).slots dg=s.1.slots dg:=by
      unfold lay;cases d with
      | none=>rfl
      | some k =>
        have l:dg≠k:=λe=>r k rfl (by
         unfold Ca M5;rw[a];dsimp only;rw[h];subst e;exact mo ..)
        simp[iI l]
     rw[t,u]
theorem aaC(o:St){g h:Option Nat}{i j:List Nat}{a c:St}(q:∀d e,g=some d->h=some e->d≠e)(r:∀b∈i,b∉j):lay (lay o h j c) g i a=lay (lay o g i a) h j c:=by
 unfold lay
 congr 1
 .cases g with
  | none=>rfl
  | some k =>
    cases h with
    | none=>rfl
    | some e =>
      have l:=q k e rfl rfl;funext t;dsimp only;by_cases m:t=k
      .subst m;simp[iI l]
      .by_cases p:t=e
       .subst p;simp[iI m]
       .simp[iI m,iI p]
 .funext b;dsimp only;cases n:cP i b with
  | false=>rfl
  | true =>
    have:b∉j:=r b (oe.1 n);simp[ju.2 this]
theorem Uv{i j:Nat}{l g:Oper}{a m:Fp}{s u v:Lk}(n:zu ops i j l g a m=true)(p:∀b∈a.wr,b∈a.rd)(G:nV cx nb bf inl ops a i l s=some u)(H:nV cx nb bf inl ops m j g u=some v) :
  ∃c,nV cx nb bf inl ops m j g s=some c/\nV cx nb bf inl ops a i l c=some v:=by
 obtain⟨I,J,K,x,L,M,y,z,O⟩:=RP n;obtain⟨R,wi,S,T,U,A,V⟩:=Nj I G;subst U;obtain⟨C,W,q,D,X,E,Y⟩:=Nj J H;subst X;rw[Jy M y] at D;have F:∀{o:Oper} {k:Nat},k∉Ca ops o->k∉tmpsOf (eU o.op):=λh Z=>h (mY _ Z);have hj:=Y s D λ_=>(Dt (λk r=>F (y k r)) λb e=>K b (A b e)).symm;refine⟨_,hj,?_⟩;have hi:=V (lay s.1 g.dst W q,bif C then s.2 else gz j s.2) (by rw[Jy L z];exact T) λ_=>Dt (λk r=>F (z k r)) (λb e=>x b (E b e));rw[hi]
 congr 1
 refine IB ?_ ?_
 .exact aaC s.1 O (λb e t=>x b (E b t) (p b<|A b e))
 .dsimp only;cases R<;>cases C<;>first|rfl|skip
  simp only[iT];funext k;simp only[gz];cases Nat.beq k i<;>cases Nat.beq k j<;>rfl
def Pd(b:Ctx)(c:Nat)(e:List Nat)(inl:Nat->List aO->St->Tree (aO×St))(a:Array Oper)(g:Nat->Fp)(Q:Lk->Prop):Nat->Array Bool->Lk->Prop
 | 0,listed,s=>Region.ready .any a listed=[]/\Q s
 | n+1,listed,s=>(Region.ready .any a listed=[]->Q s) /\
  ∀i∈Region.ready .any a listed,∃o h,a[i]?=some o/\nV b c e inl a (g i) i o s=some h/\Pd b c e inl a g Q n (listed.setIfInBounds i true) h
variable {Q:Lk->Prop}
theorem Uw{i:Nat}{q:Oper}(C:ops[i]?=some q)(u:∀b∈(fp i).wr,b∈(fp i).rd):∀(n:Nat) (listed:Array Bool) (s s1:Lk),
  O9 ops listed->(∀j r,ops[j]?=some r->j≠i->listed.getD j true=false->Reach ops j i\/zu ops i j q r (fp i) (fp j)=true) ->
  i∈Region.ready .any ops listed->nV cx nb bf inl ops (fp i) i q s=some s1->Pd cx nb bf inl ops fp Q n (listed.setIfInBounds i true) s1->Pd cx nb bf inl ops fp Q (n+1) listed s:=by
 intro n;induction n with
 | zero =>
   intro listed s s1 c e m z H;refine⟨λh=>(by rw[h] at m;cases m),λj t=>?_⟩;by_cases a:j=i
   .subst a;exact⟨q,s1,C,z,H⟩
   .have:=ready_mono t a;rw[H.1] at this;cases this
 | succ n E =>
   intro listed s s1 c e m z H;refine⟨λh=>(by rw[h] at m;cases m),λj t=>?_⟩;by_cases a:j=i
   .subst a;exact⟨q,s1,C,z,H⟩
   .obtain⟨r,F,o,G,I⟩:=H.2 j (ready_mono t a);obtain⟨g,J,l,D⟩:=mem_ready.1 t;rw[o] at l;obtain rfl:=aI l;have p:zu ops i j q r (fp i) (fp j)=true:=by
     rcases e j r o a g with K|p
     .exact(RN (mem_ready.1 m).1<|K.ready c t).elim
     .exact p
    obtain⟨v,L,M⟩:=Uv p u z G;refine⟨r,v,o,L,E (listed.setIfInBounds j true) v F (c.list t) (λk O R A x=>e k O R A ?_) (ready_mono m<|F2 a) M ?_⟩
    .by_cases y:j=k
     .subst y;exact g
     .rw[getD_set_ne true y] at x;exact x
    .rw[adW _ _ a];exact I
end
end Go.Ge
namespace Go.Ge
open RowKit
section
variable {P:Program} {B:qK} {N:Nat} {γ:Gh} {cx:Ctx} {nb:Nat} {bf:List Nat} {inl:Nat->List aO->St->Tree (aO×St)} {σ bb:St} {ops:Array Oper} {fp:Nat->Fp}
theorem aaD{a:St}{d:Nat}{v:aO}(h:a.slots d=v):a.put d v=a:=by
 unfold St.put;obtain⟨c,e⟩:=a
 congr 1
 funext t;cases b:Nat.beq t d with
 | true=>obtain rfl:=eT b;exact h.symm
 | false=>rfl
def acN(cx:Ctx)(nb:Nat)(bf:List Nat)(inl:Nat->List aO->St->Tree (aO×St))(ops:Array Oper)(fp:Nat->Fp):Nat->List Oper->Lk->Lk->Prop
 | _,[],s,s'=>s=s'
 | k,o::l,s,s'=>(((fp k).HP=false->RJ cx nb o (fp k))/\((fp k).HP=true->(fp k).wr=[]))/\(∀e∈o.after,Region.binds .any e=true->e.on<k) /\
  (∀j a,l[j]?=some a->Reach ops (k+1+j) k\/zu ops k (k+1+j) o a (fp k) (fp<|k+1+j)=true) /\
  ∃b,nV cx nb bf inl ops (fp k) k o s=some b/\acN cx nb bf inl ops fp (k+1) l b s'
theorem Gl{i:Nat}{o:Oper}{f a:Fp}{k m c:Nat}{b:Oper}{r:List zt}(h:Cb ops i o f m ((k,b,a,c)::r)=true):(Nat.testBit m k=true\/zu ops k i b o a f=true)/\Cb ops i o f m r=true:=by
 simp only[Cb,dv,wc] at h;exact h
theorem Jz{i:Nat}{o:Oper}{r:List (Nat×Oper)}{a:List zt}{j:Nat->Bool}(h:(tp cx nb bf inl ops ((i,o)::r) a σ j).run=some bb) :
  ∃m:Lk,Cb ops i o (w8 cx nb o σ) (mask a o) a=true/\(∀e∈o.after,Region.binds .any e=true->e.on<i)/\nV cx nb bf inl ops (w8 cx nb o σ) i o (σ,j)=some m /\
   (tp cx nb bf inl ops r ((i,o,w8 cx nb o σ,mask a o)::a) m.1 m.2).run=some bb:=by
 simp only[tp] at h;obtain⟨C,k⟩:=aC h;simp only[dv] at C;obtain⟨z,u⟩:=C;have s:∀e∈o.after,Region.binds .any e=true->e.on<i:=λe D E=>by
  rw[<-Array.all_toList,ra] at u;have:=u e (by simpa using D);rw[E] at this;have:=GV (by simpa [Nat.blt] using this);omega
 suffices ∃m:Lk,nV cx nb bf inl ops (w8 cx nb o σ) i o (σ,j)=some m/\(tp cx nb bf inl ops r ((i,o,w8 cx nb o σ,mask a o)::a) m.1 m.2).run=some bb by
  obtain⟨m,F,G⟩:=this;exact⟨m,z,s,F,G⟩
 split at k
 .rename_i y;obtain⟨bG,t,v⟩:=bind_some k;refine⟨(bG,j),?_,v⟩;have hd:Cp ops o (σ,j)=some true:=by unfold Cp;rw[y]
  unfold nV;rw[hd];dsimp only;rw[t];rfl
 .rename_i g b y;split at k
  .cases k
  .rename_i H x;cases n:j g with
   | true =>
     rw[n] at k;refine⟨(σ.ba o.dst .undef,gz i j),?_,k⟩;have hd:Cp ops o (σ,j)=some false:=by unfold Cp;rw[y];dsimp only;rw[x];dsimp only;rw[n];rfl
     unfold nV;rw[hd]
   | false =>
     rw[n] at k;simp only[iT] at k;split at k
     .rename_i c l;change Bool at c;have p:=fT k;have hd:Cp ops o (σ,j)=some (c==b):=by unfold Cp;rw[y];dsimp only;rw[x];dsimp only;rw[n];simp only[iT];rw[l]
      have q:=aaD l;have run:∀{bG:St},(ix cx nb bf inl (w8 cx nb o σ) o σ).run=some bG->(c==b)=true->nV cx nb bf inl ops (w8 cx nb o σ) i o (σ,j)=some (bG,j):=λt A=>by
       unfold nV;rw[hd,A];dsimp only;rw[t];rfl
      have skip:(c==b)=false->nV cx nb bf inl ops (w8 cx nb o σ) i o (σ,j)=some (σ.ba o.dst .undef,gz i j):=λA=>by
       unfold nV;rw[hd,A]
      cases c with
      | true =>
        simp only[eC] at p;rw[q] at p;cases b with
        | true=>obtain⟨bG,t,v⟩:=bind_some p;exact⟨(bG,j),run t rfl,v⟩
        | false=>exact⟨_,skip rfl,p⟩
      | false =>
        simp only[iT] at p;rw[q] at p;cases b with
        | true=>exact⟨_,skip rfl,p⟩
        | false=>obtain⟨bG,t,v⟩:=bind_some p;exact⟨(bG,j),run t rfl,v⟩
     .cases k
theorem LQ:∀(l:List Oper) (k:Nat) (done:List zt) (σ:St) (i:Nat->Bool),(∀j o,l[j]?=some o->ops[k+j]?=some o)->rP ops done->(tp cx nb bf inl ops (number k l) done σ i).run=some bb ->
  ∃(e:List (Fp×Nat)) (g:Nat->Bool),e.length=l.length/\(∀j m b,e[j]?=some m->Nat.testBit m.2 b=true->Reach ops (k+j) b) /\
   ∀fp:Nat->Fp,(∀j f,e[j]?=some f->fp (k+j)=f.1)->acN cx nb bf inl ops fp k l (σ,i) (bb,g)/\∀j o f,l[j]?=some o->e[j]?=some f->Cb ops (k+j) o (fp<|k+j) f.2 done=true:=by
 intro l;induction l with
 | nil =>
   intro k done σ i _ _ h;obtain rfl:=aI h;exact⟨[],i,rfl,λj m b h=>absurd h (by simp),λfp _=>⟨rfl,λj o f a=>absurd a (by simp)⟩⟩
 | cons o l D =>
   intro k done σ i v x h;obtain⟨t,E,F,G,H⟩:=Jz (r:=number (k+1) l) h;have y:ops[k]?=some o:=v 0 o rfl;obtain⟨e,g,z,A,I⟩:=D (k+1) _ t.1 t.2 (λj u a=>by have:=v (j+1) u (by simpa using a);rw[<-this];congr 1;omega) (x.cons y) H;refine⟨(w8 cx nb o σ,mask done o)::e,g,by simp[z],λj m b a c=>?_,λfp n=>?_⟩
   .cases j with
    | zero=>obtain rfl:=aI a;exact Co x y c
    | succ j=>have:=A j m b (by simpa using a) c;rw[show k+(j+1)=k+1+j by omega];exact this
   have p:fp k=w8 cx nb o σ:=n 0 _ rfl;obtain⟨J,C⟩:=I fp λj f a=>by have:=n (j+1) f (by simpa using a);rw[<-this];congr 1;omega
   refine⟨⟨⟨λc=>by rw[p] at c⊢;exact HW o σ c,λc=>by rw[p] at c⊢;exact aaA o σ c⟩,F,λj K a=>?_,t,by rw[p];exact G,J⟩,λj u f a s=>?_⟩
   .obtain⟨f,s⟩:∃f,e[j]?=some f:=⟨_,fN (by rw[z];exact(fq.1 a).1)⟩;rcases(Gl<|C j K f a s).1 with q|q
    .exact .inl (A j f k s q)
    .rw[p];exact .inr q
   .cases j with
    | zero =>
      obtain rfl:=aI a;obtain rfl:=aI s;rw[wS,p];exact E
    | succ j =>
      have:=(Gl<|C j u f (by simpa using a)<|by simpa using s).2;rw[show k+(j+1)=k+1+j by omega];exact this
theorem aaE{s':Lk}:∀(l:List Oper) (k:Nat) (listed:Array Bool) (s:Lk),(∀j,l[j]?=ops[k+j]?)->listed.size=ops.size->(∀j,j<k->j<ops.size->listed.getD j false=true) ->
  (∀j,k<=j->j<ops.size->listed.getD j true=false)->O9 ops listed->acN cx nb bf inl ops fp k l s s'->Pd cx nb bf inl ops fp (·=s') l.length listed s:=by
 intro l;induction l with
 | nil =>
   intro k listed s v x y D a h;refine⟨?_,h⟩;cases J:Region.ready .any ops listed with
   | nil=>rfl
   | cons i r =>
     exfalso;have hi:i∈Region.ready .any ops listed:=by rw[J];exact mo ..
     obtain⟨E,o,G,_⟩:=mem_ready.1 hi;have g:i<ops.size:=(vk.1 G).1;rcases sY i k with u|u
     .have:=y i u g;simp[x,g] at this E;rw[this] at E;cases E
     .have:=v (i-k);rw[show k+(i-k)=i by omega,G] at this;cases this
 | cons o l K =>
   intro k listed s v x y D a h;have u:ops[k]?=some o:=by simpa using(v 0).symm
   have g:k<ops.size:=(vk.1 u).1;obtain⟨H,L,M,I,O,R⟩:=h;have c:k∈Region.ready .any ops listed:=mem_ready.2 ⟨D k (cg _) g,o,u,λe S z=>by
    have:=L e S z;exact y e.on this (by omega)⟩
   refine Uw u (λb z=>by
    cases n:(fp k).HP with
    | true=>rw[H.2 n] at z;cases z
    | false=>exact(H.1 n).sub b z) l.length listed s I a (λj T C U q=>?_) c O (K (k+1) _ I (λj=>?_) (by simp[x]) (λj C t=>?_) (λj C t=>?_) (a.list c) R)
   .have p:j<ops.size:=(vk.1 C).1;rcases sY j k with A|A
    .exfalso;have:=y j A p;simp[x,p] at this q;rw[this] at q;cases q
    .have F:=v (j-k);rw[show k+(j-k)=j by omega,C] at F;obtain⟨m,V⟩:∃m,j-k=m+1:=⟨j-k-1,by omega⟩;rw[V] at F;have:=M m T (by simpa using F);rw[show k+1+m=j by omega] at this;exact this
   .have:=v (j+1);rw[show k+1+j=k+(j+1) by omega,<-this];simp
   .by_cases e:j=k
    .subst e;simp[x,g]
    .rw[getD_set_ne false<|F2 e];exact y j (by omega) t
   .rw[getD_set_ne true (by omega:k≠j)];exact D j (by omega) t
theorem Ux(a:∀f b σ v bb,(inl f b σ).run=some (v,bb)->bo σ bb):∀(l:List Oper) (k:Nat) (done:List zt) (σ bb:St) (e:Nat->Bool),(tp cx nb bf inl ops (number k l) done σ e).run=some bb->bo σ bb:=by
 intro l;induction l with
 | nil=>intro k done σ bb e h;obtain rfl:=aI h;exact bo.refl _
 | cons o l g =>
   intro k done σ bb e h;obtain⟨n,p,q,c,i⟩:=Jz (r:=number (k+1) l) h;refine bo.trans ?_ (g _ _ _ _ _ i);unfold nV at c;split at c
   .cases c
   .obtain⟨bG,j,rfl⟩:=qY.1 c;exact zF a bG (AJ (λm=>HW o σ m) j)
   .obtain rfl:=aI c;exact bo.ba _ _ _
end
end Go.Ge
namespace Go.Ge
open RowKit
section
variable {P:Program} {B:qK} {N:Nat} {γ:Gh} {cx:Ctx} {nb:Nat} {bf:List Nat} {inl:Nat->List aO->St->Tree (aO×St)} {σ bb:St} {ops:Array Oper} {fp:Nat->Fp}
theorem Uy{l:List Oper}{j:Nat}{o:Oper}{d:Nat}(h:l[j]?=some o)(a:o.dst=some d):d∈kC.ED l:=by
 induction l generalizing j with
 | nil=>cases h
 | cons p l b =>
   cases j with
   | zero=>obtain rfl:=aI h;simp only[kC.ED,a];exact mo ..
   | succ j =>
     have:=b (j:=j) (by simpa using h);simp only[kC.ED];split
     .exact nX _ this
     .exact this
theorem JA:∀{l:List Oper},kC l=true->∀{i j:Nat} {x y:Oper} {d:Nat},i<j->l[i]?=some x->l[j]?=some y->x.dst=some d->y.dst≠some d:=by
 intro l;induction l with
 | nil=>intro _ i j x y d _ h;cases h
 | cons p l k =>
   intro h i j x y d n c o e g;simp only[kC,dv] at h;obtain⟨m,rfl⟩:∃m,j=m+1:=⟨j-1,by omega⟩;have a:l[m]?=some y:=by simpa using o
   cases i with
   | zero =>
     obtain rfl:=aI c;have b:=h.1;rw[e] at b;simp only[jL] at b;exact ju.1 b (Uy a g)
   | succ i=>exact k h.2 (i:=i) (j:=m) (by omega) (by simpa using c) a e g
theorem Uz(h:kC ops.toList=true){i j:Nat}{x y:Oper}{d:Nat}(a:i≠j)(c:ops[i]?=some x)(e:ops[j]?=some y)(g:x.dst=some d):y.dst≠some d:=by
 rcases Nat.lt_or_gt_of_ne a with b|b
 .exact JA h b (by simpa using c) (by simpa using e) g
 .intro k;exact JA h b (by simpa using e) (by simpa using c) k g
def UA(c:Array Oper)(e:Nat->Bool)(b:Array Bool)(a:Act):Prop:=∀k,e k=true->yielded c a.tmps k=none/\b.getD k true=true
theorem vB{a:Act}{i k:Nat}{o:Oper}{v:Value}(b:kC ops.toList=true)(e:ops[i]?=some o)(c:k≠i):yielded ops (a.put o.dst v).tmps k=yielded ops a.tmps k:=by
 unfold yielded;cases g:ops[k]? with
 | none=>rfl
 | some y =>
   simp only[FY];cases hd:y.dst with
   | none=>rfl
   | some h =>
     simp only[FY];have:o.dst≠some h:=Uz b c g e hd;rw[fC this]
theorem UA.run{j:Nat->Bool}{b:Array Bool}{a:Act}{i:Nat}{o:Oper}{v:Value}(h:UA ops j b a)(g:kC ops.toList=true)(n:ops[i]?=some o)(l:b.getD i true=false):UA ops j (b.setIfInBounds i true) (a.put o.dst v):=λk p=>by
 obtain⟨q,m⟩:=h k p;have c:k≠i:=λe=>by subst e;rw[m] at l;cases l
 exact⟨by rw[vB g n c];exact q,by rw[getD_set_ne true<|F2 c];exact m⟩
theorem UA.skip{e:Nat->Bool}{b:Array Bool}{a:Act}{i:Nat}{o:Oper}(h:UA ops e b a)(g:kC ops.toList=true)(m:ops[i]?=some o)(p:b.getD i true=false):UA ops (gz i e) (b.setIfInBounds i true) (a.put o.dst Go.undef):=λk n=>by
 by_cases c:k=i
 .subst c;refine⟨Dp m,?_⟩;rcases sY k b.size with j|j
  .simp[j]
  .simp[QA j] at p
 .have l:e k=true:=by
   simp only[gz,iI c,yN] at n;exact n
  obtain⟨q,r⟩:=h k l;exact⟨by rw[vB g m c];exact q,by rw[getD_set_ne true<|F2 c];exact r⟩
theorem LR(hc:fo P cx)(F:pA P B.G cx)(H:vz P B.G inl){Q:Exit->Act->World->Prop}(I:kC ops.toList=true)(M:∀i o,ops[i]?=some o->(fp i).HP=false->RJ cx nb o (fp i))
  (hd:∀o∈ops.toList,∀k,o.dst=some k->k<N):∀(n:Nat) (listed:Array Bool) (s:Lk) (γ:Gh) (a:Act) (w:World),Pd cx nb bf inl ops fp (λs=>s.1=bb) n listed s->cW B N γ s.1 a w->UA ops s.2 listed a ->
   (∀bQ O w',cW B N bQ bb O w'->Ext B γ s.1.mem w bQ bb.mem w'->Fr (number 0 ops.toList) a O->Q .normal O w')->wpAny P .any ops Q n listed a w:=by
 intro n;induction n with
 | zero =>
   intro listed s γ a w h E u z;obtain⟨x,R⟩:=h;rw[<-R] at z;exact⟨x,z γ a w E (Ext.refl _ _ _ _) λt _=>rfl⟩
 | succ n ih =>
   intro listed s γ a w h E u z;refine⟨λh0=>?_,λi hi=>?_⟩
   .have R:=h.1 h0;rw[<-R] at z;exact z γ a w E (Ext.refl _ _ _ _) λt _=>rfl
   .obtain⟨o,s1,x,J,h4⟩:=h.2 i hi;have K:=(mem_ready.1 hi).1;have y:o∈ops.toList:=by
     have:=ZB x;simpa using this
    have m:(i,o)∈number 0 ops.toList:=by
     have:=Jw (l:=ops.toList) (k:=0) (j:=i) (o:=o) (by simpa using x);simpa using this
    have hw:∀b,Cp ops o s=some b->Region.wanted o (yielded ops a.tmps)=b:=by
     intro b e;unfold Cp at e;cases q:o.guard with
     | none =>
       rw[q] at e;obtain rfl:=aI e;unfold Region.wanted;rw[q]
     | some p =>
       obtain⟨g,L⟩:=p;rw[q] at e;dsimp only at e;split at e
       .cases e
       .rename_i dg S;cases T:s.2 g with
        | true =>
          rw[T] at e;obtain rfl:=aI e;unfold Region.wanted;rw[q];simp only[(u g T).1];rfl
        | false =>
          rw[T] at e;simp only[iT] at e;split at e
          .rename_i c A;change Bool at c;obtain rfl:=aI e;have C:=Gj E A;unfold Region.wanted;rw[q];simp only[yielded,S,FY,C];cases c<;>cases L<;>rfl
          .cases e
    unfold wpOp;rw[x];dsimp only;unfold nV at J;split at J
    .cases J
    .rename_i r;obtain⟨bG,q1,rfl⟩:=qY.1 J;rw[hw true r];simp only[ky];refine .inl (Jf hc F H E (hd o y) (AJ (M i o x) q1) λU v w1 s1 x1=>?_);refine ih _ (bG,s.2) U _ w1 h4 s1 (u.run I x K) λD V W X Y Z=>z D V W X (x1.trans Y) λt C=>?_;rw[Z t C,fC (Jx C m)]
    .rename_i r;obtain rfl:=aI J;rw[hw false r];simp only[Iu,pR];have hs1:cW B N γ (s.1.ba o.dst .undef) (a.put o.dst Go.undef) w:=E.uE (hd o y) ⟨_,rfl⟩;have hm:(s.1.ba o.dst .undef).mem=s.1.mem:=by cases o.dst<;>rfl
     refine ih _ (s.1.ba o.dst .undef,gz i s.2) γ _ w h4 hs1 (u.skip I x K) λD V W X Y Z=>z D V W X (by rw[<-hm];exact Y) λt C=>?_;rw[Z t C,fC (Jx C m)]
theorem Pd.mono{Q Q':Lk->Prop}(a:∀s,Q s->Q' s):∀{n:Nat} {listed:Array Bool} {s:Lk},Pd cx nb bf inl ops fp Q n listed s->Pd cx nb bf inl ops fp Q' n listed s:=by
 intro n;induction n with
 | zero=>intro listed s h;exact⟨h.1,a _ h.2⟩
 | succ n b =>
   intro listed s h;refine⟨λc=>a _ (h.1 c),λi e=>?_⟩;obtain⟨o,g,j,k,l⟩:=h.2 i e;exact⟨o,g,j,k,b l⟩
theorem Pe(c:P.follows .mixedOrders=true)(z:fo P cx)(g:pA P B.G cx)(m:vz P B.G inl){Q:Exit->Act->World->Prop}{id:Nat}{a:Act}{w:World}(p:kC ops.toList=true)
  (A:∀o∈ops.toList,∀k,o.dst=some k->k<N) (C:(tp cx nb bf inl ops (number 0 ops.toList) [] σ λ_=>false).run=some bb) (h:cW B N γ σ a w)
  (D:∀bQ n w',cW B N bQ bb n w'->Ext B γ σ.mem w bQ bb.mem w'->Fr (number 0 ops.toList) a n->Q .normal n w'):(Code.region id ops true).wp P Q a w:=by
 refine wp_region_any c ?_;obtain⟨E,q,S,T,F⟩:=LQ (ops:=ops) ops.toList 0 [] σ (λ_=>false) (λj o b=>by simpa using b) rP.nil C
 let fp:Nat->Fp:=λi=>(E[i]?.map (·.1)).getD ⟨[],[],true,none⟩
 obtain⟨v,_⟩:=F fp λj f b=>by simp[fp,b]
 have key:∀(l:List Oper) (k:Nat) (s s':Lk),acN cx nb bf inl ops fp k l s s'->∀j o,l[j]?=some o->(fp<|k+j).HP=false->RJ cx nb o (fp<|k+j):=by
  intro l;induction l with
  | nil=>intro k s s' _ j o b;cases b
  | cons o l H =>
    intro k s s' I j J b;obtain⟨K,U,V,r,W,L⟩:=I;cases j with
    | zero=>obtain rfl:=aI b;exact K.1
    | succ j=>rw[show k+(j+1)=k+1+j by omega];exact H (k+1) r s' L j J (by simpa using b)
 have hA:=aaE (ops:=ops) (cx:=cx) (nb:=nb) (bf:=bf) (inl:=inl) (fp:=fp) (s':=(bb,q)) ops.toList 0 (Array.replicate ops.size false) (σ,λ_=>false) (by simp) (by simp) (λj b=>by omega)
  (λj _ b=>by simp[b]) (λi o e t=>by
   exfalso;rcases sY i ops.size with y|y<;>simp[y] at t) v
 have u:=Pd.mono (Q':=λs:Lk=>s.1=bb) (λs M=>by rw[M]) hA;obtain⟨r,O⟩:=h.draw (w.drawn+1);refine LR z g m p (λi o t=>by have:=key _ 0 _ _ v i o (by simpa using t);simpa using this) A _ _ (σ,λ_=>false) γ a _ (by simpa using u) r (λk R=>by cases R) λbQ n w' s x f=>D bQ n w' s (O.trans x) f
theorem RQ(b:P.follows .mixedOrders=true)(m:fo P cx)(c:pA P B.G cx)(e:vz P B.G inl){Q:Exit->Act->World->Prop}{id:Nat}{a:Act}{w:World}
  (n:∀o∈ops.toList,∀k,o.dst=some k->k<N) (g:(xa cx nb bf inl ops σ).run=some bb) (h:cW B N γ σ a w)
  (p:∀bQ i w',cW B N bQ bb i w'->Ext B γ σ.mem w bQ bb.mem w'->Fr (number 0 ops.toList) a i->Q .normal i w'):(Code.region id ops true).wp P Q a w:=by
 unfold xa at g;cases q:ops.any λo=>o.guard.isSome with
 | true =>
   rw[q] at g;obtain⟨j,l⟩:=aC (show(bif kC ops.toList then tp cx nb bf inl ops (number 0 ops.toList) [] σ (λ_=>false) else .fail).run=some bb from g);exact Pe b m c e j n l h p
 | false =>
   rw[q] at g;exact Pc b m c e n g h p
end
end Go.Ge
namespace Go.Ge
open RowKit
def tJ(f:Nat->bF->Bool)(mem:Nat->Option bF):Nat->Option bF:=λb=>match mem b with|some a=>some { a with lk:=f b a }|none=>none
section
variable {P:Program} {B:qK} {N:Nat} {γ γ0:Gh} {mem m0 me m1:Nat->Option bF} {w w0:World} {f:Nat->bF->Bool}
theorem Nk{b:Nat}{a:bF}(h:mem b=some a):tJ f mem b=some { a with lk:=f b a }:=by simp[tJ,h]
theorem RR{b:Nat}{c:bF}(h:tJ f mem b=some c):∃a,mem b=some a/\c={ a with lk:=f b a }:=by
 simp only[tJ] at h;split at h
 .rename_i a e;exact⟨a,e,(aI h).symm⟩
 .cases h
theorem Ext.tJ:Ext B γ mem w γ (tJ f mem) w where
 below:=uD.refl _ _
 I:=λ_ _ h=>h
 pZ:=λ_ _ h=>.inl h
 cells:=λ_ _ _=>rfl
 boxes:=λb c a=>⟨_,Nk a,cg _,λ_=>⟨rfl,rfl,rfl⟩⟩
theorem bB.tJ(h:bB B γ mem w):bB B γ (Go.Ge.tJ f mem) w:=by
 have g:∀{b},Go.Ge.tJ f mem b≠none->mem b≠none:=by
  intro b e m;apply e;simp[Go.Ge.tJ,m]
 exact
  { cU:=h.cU
    base:=h.base
    boxes:=λb n e=>by
     obtain⟨i,h0,rfl⟩:=RR e;exact(h.boxes b i h0).keep (Ext.tJ (B:=B) (γ:=γ) (w:=w) (f:=f) (mem:=mem)) rfl (λ_ _ _=>rfl)
    inj:=λb c a k o e p j q=>h.inj b c a k o (g e) (g p) j q
    fresh:=λb a k e j=>h.fresh b a k (g e) j
    tu:=h.tu
    sep:=λb n a k l e j r=>by
     obtain⟨i,h0,rfl⟩:=RR e;exact h.sep b i a k l h0 j r }
theorem cW.tJ{b:St}{a:Act}(h:cW B N γ b a w):cW B N γ { b with mem:=Go.Ge.tJ f b.mem } a w:=h.go Ext.tJ h.ok.tJ
def Mid(g h i:Nat->Option bF):Prop:=∀b c,g b=some c->∃a,i b=some a/\c.aP<=a.aP /\
 (a.aP=c.aP->∃e,h b=some e/\e.aP=c.aP/\e.buf=a.buf/\e.row=a.row)
theorem mx.down(m:Mid m0 me m1){b g:Nat}{n K j:bF->Prop}(o:mx m0 b g n)(h:mx me b g K)(p:∀c a:bF,c.buf=a.buf->c.row=a.row->K c->j a):mx m1 b g j:=by
 obtain⟨i,q,y,_⟩:=o;obtain⟨c,r,z,s⟩:=h;obtain⟨a,t,A,u⟩:=m b i q;refine⟨a,t,by omega,λe=>?_⟩;obtain⟨k,l,C,v,x⟩:=u (by omega);rw[r] at l;obtain rfl:=aI l;exact p c a v x (s<|by omega)
theorem cl.down(g:Mid m0 me m1):∀{v:aO} {m:Mode} {us vs:List Value},cl γ0 m0 w0 v m us->cl γ me w v m vs->cl γ m1 w v m vs:=by
 intro v;induction v with
 | undef=>intro m us vs _ r;cases m<;>exact r
 | data t x=>intro m us vs _ r;cases m<;>exact r
 | oa=>intro m us vs _ r;cases m<;>exact r
 | rf=>intro m us vs _ r;cases m<;>exact r
 | cell t x=>intro m us vs _ r;cases m<;>exact r
 | nl=>intro m us vs _ r;cases m<;>exact r
 | ss=>intro m us vs _ r;cases m<;>exact r
 | vu b aP =>
   intro m us vs c r;cases m with
   | many=>exact r
   | cells=>exact⟨r.1,c.2.down g r.2 λ_ _ _ _ k=>k⟩
   | val=>exact⟨r.1,c.2.down g r.2 λ_ _ _ _ k=>k⟩
 | ptr b aP p =>
   intro m us vs c r;cases m with
   | many=>exact r
   | cells=>exact⟨r.1,c.2.down g r.2 λ_ _ _ _ k=>k⟩
   | val=>exact⟨r.1,c.2.down g r.2 λ_ _ _ _ k=>k⟩
 | whole b aP =>
   intro m us vs c r;cases m with
   | many=>exact r
   | cells=>exact⟨r.1,c.2.down g r.2 λ_ _ o y k=>by rw[<-o,<-y];exact k⟩
   | val=>exact⟨r.1,c.2.down g r.2 λ_ _ o y k=>by rw[<-o,<-y];exact k⟩
 | part b aP lo n =>
   intro m us vs c r;cases m with
   | many=>exact r
   | cells=>exact⟨r.1,c.2.down g r.2 λ_ _ o y k=>by unfold C3 at k⊢;rw[<-o,<-y];exact k⟩
   | val=>exact⟨r.1,c.2.down g r.2 λ_ _ o y k=>by unfold C3 at k⊢;rw[<-o,<-y];exact k⟩
 | win b aP q e k lo n =>
   intro m us vs c r;cases m with
   | many=>exact r
   | cells=>exact⟨r.1,c.2.down g r.2 λ_ _ o y k=>k⟩
   | val=>exact⟨r.1,c.2.down g r.2 λ_ _ o y k=>k⟩
 | fn f I =>
   intro m us vs c r;cases m with
   | many=>exact r
   | cells=>obtain⟨_,_,_,s⟩:=c;obtain⟨h,j,l,H⟩:=r;exact⟨h,j,l,λi b aP C=>(s i b aP C).down g (H i b aP C) λ_ _ _ _ k=>k⟩
   | val=>obtain⟨_,_,_,s⟩:=c;obtain⟨h,j,l,H⟩:=r;exact⟨h,j,l,λi b aP C=>(s i b aP C).down g (H i b aP C) λ_ _ _ _ k=>k⟩
 | mix a b z A =>
   intro m us vs c r;cases m with
   | cells=>obtain⟨_,_,_,D,E⟩:=c;obtain⟨F,G,c,j,l⟩:=r;exact⟨F,G,c,z D j,A E l⟩
   | val=>obtain⟨_,_,_,D,E⟩:=c;obtain⟨F,G,c,j,l⟩:=r;exact⟨F,G,c,z D j,A E l⟩
   | many=>obtain⟨_,_,_,D,E⟩:=c;obtain⟨F,G,c,j,l⟩:=r;exact⟨F,G,c,z D j,A E l⟩
 | yP u J =>
   intro m us vs c r;cases m with
   | val=>obtain⟨_,_,s⟩:=c;obtain⟨h,j,l⟩:=r;exact⟨h,j,J s l⟩
   | cells=>exact r
   | many=>exact r
def aaF(M:Nat->Bool)(V:Nat->Bool->Bool)(e g h:Nat->Option bF):Prop:=∀b a,e b=some a->∃c Nl,g b=some c/\h b=some Nl/\c.buf=a.buf/\Nl.buf=a.buf/\Nl.row=c.row /\
 Nl.aP=(bif M b&&V b a.buf then a.aP+1 else a.aP)/\((M b&&V b a.buf)=false->c.aP=a.aP)
theorem aaF.mid{M:Nat->Bool}{V:Nat->Bool->Bool}(h:aaF M V m0 me m1):Mid m0 me m1:=λb a l=>by
 obtain⟨i,c,m,k,n,o,p,g,q⟩:=h b a l;cases j:(M b&&V b a.buf) with
 | true =>
   rw[j] at g;simp only[eC] at g;exact⟨c,k,by omega,λe=>absurd e (by omega)⟩
 | false =>
   rw[j] at g;simp only[iT] at g;exact⟨c,k,by omega,λe=>⟨i,m,q j,n.trans o.symm,p.symm⟩⟩
def JB:Sh->aO->Prop
 | .d _,_=>True
 | .k v,u=>v=u
 | .m a b,u=>∃p q,u=.mix p q/\JB a p/\JB b q
theorem acO(v:aO):JB (acn v) v:=by
 induction v with
 | mix a b c e=>exact⟨a,b,rfl,c,e⟩
 | data t x=>trivial
 | _=>rfl
theorem aaG{t:Ty}{v:aO}{y:t.den}(h:toD t v=some y){m:Mode}{b:List Value}(a:cl γ me w v m b):cl γ m1 w (.data t y) m b:=by
 unfold toD at h;split at h
 .obtain⟨q,c⟩:=Ty.kz h;subst q;subst c;cases m<;>exact a
 .split at h
  .obtain rfl:=aI h;cases m with
   | many=>exact a
   | cells=>exact .inl ⟨⟨none,a⟩,rfl⟩
   | val=>exact⟨[.slice none 0 0],.inl ⟨⟨none,rfl⟩,rfl⟩,(show b=[Value.slice none 0 0] from a)⟩
  .cases h
 .cases h
theorem RS{M:Nat->Bool}{V:Nat->Bool->Bool}{r s:St}(G:aaF M V r.mem s.mem m1)(hV:∀b x,V b false=true->r.mem b=some x->x.buf=false){u v:aO}(h:xX V r s u v=true){m:Mode}{us t:List Value}(S:cl γ0 r.mem w0 u m us)(i:cl γ s.mem w v m t) :
  cl γ m1 w (bump M V u) m t:=by
 unfold xX at h;split at h
 .rename_i b a p b' k p';simp only[dv] at h;obtain⟨⟨T,E⟩,g⟩:=h;obtain rfl:=eT T;obtain rfl:=TS E;have still:a=k->(M b&&V b false)=false->cl γ m1 w (bump M V<|.ptr b a p) m t:=by
   intro e q;subst e;have e:bump M V (.ptr b a p)=.ptr b a p:=by simp only[bump,q];rfl
   rw[e];exact cl.down G.mid S i
  cases j:V b false with
  | false =>
    rw[j] at g;exact still (eT g) (by simp[j])
  | true =>
    rw[j] at g;simp only[eC] at g;split at g
    .rename_i x y J F;simp only[dv] at g;have K:=eT g.1;have L:=eT g.2;obtain⟨U,c,H,O,X,Y,Z,R,g7⟩:=G b x J;rw[F] at H;obtain rfl:=aI H;cases z:M b with
     | false=>exact still (by have:=g7 (by simp[z]);omega) (by simp[z])
     | true =>
       have e:bump M V (.ptr b a p)=.ptr b (a+1) p:=by simp only[bump,z,j];rfl
       have C:c.aP=a+1:=by rw[R,z,hV b x j J,j];simp;omega
       rw[e];cases m with
       | many=>exact i
       | cells=>exact⟨i.1,c,O,by omega,λ_=>bk F L i.2⟩
       | val=>exact⟨i.1,c,O,by omega,λ_=>bk F L i.2⟩
    .cases g
 .rename_i b a b' k;simp only[dv] at h;obtain⟨T,g⟩:=h;obtain rfl:=eT T;split at g
  .rename_i x y J F;simp only[dv] at g;obtain⟨⟨E,K⟩,L⟩:=g;have E:=eT E;have K:=eT K;obtain⟨U,c,H,O,X,Y,Z,R,g7⟩:=G b x J;rw[F] at H;obtain rfl:=aI H;have D:x.buf=true:=by rw[<-X];exact L
   have key:∀A,c.aP=A->((∃v,t=[v]/\v.oneCell'=true)/\mx s.mem b k λI=>∃e n,I.buf=true/\I.row=some (e,n) /\
     ((γ.loc b=none/\t=[.slice none 0 0])\/∃l o,γ.loc b=some (l,o)/\t=[.slice (some ⟨l,0,none⟩) n o])) ->
     ((∃v,t=[v]/\v.oneCell'=true)/\mx m1 b A λI=>∃e n,I.buf=true/\I.row=some (e,n) /\
     ((γ.loc b=none/\t=[.slice none 0 0])\/∃l o,γ.loc b=some (l,o)/\t=[.slice (some ⟨l,0,none⟩) n o])):=by
    intro A C hr;have hk:=bk F K hr.2;exact⟨hr.1,c,O,by omega,λ_=>by obtain⟨e,n,q1,q2,q3⟩:=hk;exact⟨e,n,Y.trans D,Z.trans q2,q3⟩⟩
   have C:∃A,bump M V (.whole b a)=.whole b A/\c.aP=A:=by
    unfold bump;cases z:(M b&&V b true) with
    | true=>exact⟨a+1,by simp[z],by rw[R,D,z,<-E];rfl⟩
    | false=>exact⟨a,by simp[z],by rw[R,D,z,<-E];rfl⟩
   obtain⟨A,e1,e2⟩:=C;rw[e1];cases m with
   | many=>exact i
   | cells=>exact key A e2 i
   | val=>exact key A e2 i
  .cases g
 .rename_i f afp f' W;simp only[dv] at h;obtain rfl:=eT h.1;obtain rfl:=TT h.2;exact cl.down G.mid S i
 .cases m<;>exact i
 .cases m<;>exact i
 .simp only[dv] at h;obtain rfl:=eT h.1;obtain rfl:=eT h.2;exact cl.down G.mid S i
 .cases h
theorem aaH{V:Nat->Bool->Bool}{a b:St}{u v:aO}:Sh.out V a b (.k u) v=bif xX V a b u v then some () else none:=rfl
theorem afW{V:Nat->Bool->Bool}{c e:St}{a b:Sh}{v w:aO}:Sh.out V c e (.m a b) (.mix v w)=(match Sh.out V c e a v,Sh.out V c e b w with
 | some x,some y=>some ((x,y):(Sh.m a b).ty.den)
 | _,_=>none):=rfl
theorem Wm{M:Nat->Bool}{V:Nat->Bool->Bool}{c g:St}(K:aaF M V c.mem g.mem m1)(L:∀b x,V b false=true->c.mem b=some x->x.buf=false):∀{s:Sh} {u v:aO} {y:s.ty.den} {m:Mode} {us vs:List Value},JB s u->Sh.out V c g s v=some y ->
  cl γ0 c.mem w0 u m us->cl γ g.mem w v m vs->cl γ m1 w (s.pW M V y) m vs:=by
 intro s;induction s with
 | d t=>intro u v y m us vs _ e _ h;exact aaG e h
 | k x =>
   intro u v y m us vs E e l h;obtain rfl:=E;rw[aaH] at e;cases J:xX V c g x v with
   | false=>rw[J] at e;cases e
   | true=>exact RS K L J l h
 | m a b i j =>
   intro u v y m us vs E e l h;obtain⟨p,q,rfl,F,G⟩:=E;cases v with
   | mix O R =>
     rw[afW] at e;split at e
     .rename_i S T H I;obtain rfl:=aI e;cases m with
      | cells=>obtain⟨_,_,_,n,o⟩:=l;obtain⟨r,z,A,C,D⟩:=h;exact⟨r,z,A,i F H n C,j G I o D⟩
      | val=>obtain⟨_,_,_,n,o⟩:=l;obtain⟨r,z,A,C,D⟩:=h;exact⟨r,z,A,i F H n C,j G I o D⟩
      | many=>obtain⟨_,_,_,n,o⟩:=l;obtain⟨r,z,A,C,D⟩:=h;exact⟨r,z,A,i F H n C,j G I o D⟩
     .cases e
   | _=>cases e
theorem XM{t:Ty}{v:aO}{y:t.den}(h:toD t v=some y):(v=.data t y)\/(v=.oa/\∃e,t=.slice e):=by
 unfold toD at h;split at h
 .obtain⟨q,a⟩:=Ty.kz h;subst q;subst a;exact .inl rfl
 .split at h
  .exact .inr ⟨rfl,_,rfl⟩
  .cases h
 .cases h
theorem Wn{M:Nat->Bool}{V:Nat->Bool->Bool}{C D:St}{s:Sh}{c Nl:bF}{y:s.ty.den}(g:Sh.out V C D s c.val=some y)(G:Nl.val=s.pW M V y)(H:Nl.buf=c.buf)(j:c.buf=true->∃e l,c.val=.data (.slice e) l) :
  Nl.row=c.row/\(c.buf=true->Nl.val=c.val):=by
 have n:∀t x,c.val=.data t x->Nl.val=c.val:=by
  intro t x i;rw[i] at g;cases s with
  | d u =>
    obtain⟨q,o⟩:=Ty.kz (show Ty.to t u x=some y from g);subst q;subst o;rw[G,i];rfl
  | k z=>rw[aaH] at g;unfold xX at g;cases z<;>cases g
  | m a b=>cases g
 have r:∀{b1 A:bF},b1.buf=A.buf->b1.val=A.val->b1.row=A.row:=by
  intro b1 A I J;unfold bF.row;rw[I,J]
 cases i:c.val with
 | data t x =>
   have:=n t x i;exact⟨r H this,λ_=>by rw[this,i]⟩
 | _ =>
   refine⟨?_,λh=>by obtain⟨e,l,q⟩:=j h;rw[i] at q;cases q⟩;cases o:c.buf with
   | true=>obtain⟨e,l,q⟩:=j o;rw[i] at q;cases q
   | false =>
     have K:c.row=none:=by unfold bF.row;rw[o,i]
     rw[K];unfold bF.row;rw[H,o,G];rw[i] at g;cases s with
     | d u =>
       rcases XM (show toD u _=some y from g) with q|⟨q,e,rfl⟩
       .first|cases q|exact absurd i (by rw[q];intro k;cases k)
       .rfl
     | k z =>
       rw[aaH] at g;simp only[Sh.pW];have E:∀t x,bump M V z≠.data t x:=by
        intro t x q;cases z with
        | data O R=>unfold xX at g;cases g
        | whole b v=>simp only[bump] at q;cases F:(M b&&V b true)<;>rw[F] at q<;>cases q
        | ptr b v p=>simp only[bump] at q;cases F:(M b&&V b false)<;>rw[F] at q<;>cases q
        | _=>cases q
       split<;>first|rfl|(rename_i L;exact absurd L (E _ _))
     | m a b=>rfl
end
end Go.Ge
