/- A ghost interpreter of the model's code, and that it tells the truth: part 7. It says of a function of plain data what a call of it comes to. -/
import Derived.Test.YtdpbdiikloedbaaGreatDoorGeF
import Derived.Tactics
set_option linter.unusedSectionVars false
namespace Go.Ge
open RowKit
def bo(σ c:St):Prop:=∀b e,σ.mem b=some e->e.lk=true->c.mem b=some e
theorem bo.refl(σ:St):bo σ σ:=λ_ _ h _=>h
theorem bo.trans{σ e c:St}(h:bo σ e)(k:bo e c):bo σ c:=λb bx g f=>k b bx (h b bx g f) f
theorem bo.put(b:St)(d:Nat)(v:aO):bo b (b.put d v):=λ_ _ h _=>h
theorem bo.ba(b:St)(d:Option Nat)(v:aO):bo b (b.ba d v):=by cases d<;>exact λ_ _ h _=>h
theorem bo.aat{e c:St}(h:c.mem=e.mem):bo e c:=λb g f _=>by rw[h];exact f
theorem iY{g:St}{b:Nat}{k:bF}(h:∀f,g.mem b=some f->f.lk=false):bo g (g.b5 b k):=λc cx i j=>by
 by_cases e:c=b
 .subst e;rw[h cx i] at j;cases j
 .rw[uF,aV _ e];exact i
theorem kp{j:Type}{e:St}{b:Nat}{val:aO}{tid:TypeId}{buf:Bool}{k:Nat->St->Tree j}{y:j}(h:(e.aT b val tid buf k).run=some y) :
  ∃aP,bo e (e.b5 b { val,tid,buf,ro:=false,lk:=false,aP })/\(k aP<|e.b5 b { val,tid,buf,ro:=false,lk:=false,aP }).run=some y:=by
 unfold St.aT at h;split at h
 .rename_i l f;cases g:l.lk with
  | true=>rw[g] at h;cases h
  | false =>
    rw[g] at h;exact⟨l.aP+1,iY (λi c=>by rw[f] at c;obtain rfl:=aI c;exact g),h⟩
 .rename_i f;exact⟨0,iY (λi c=>by rw[f] at c;cases c),h⟩
theorem Gg{g f:St}{b:Nat}(h:freeze g b=some f):bo g f:=by
 unfold freeze at h;split at h
 .rename_i i k;cases c:i.ro with
  | true=>simp only[c,eC,sq] at h;rw[<-h];exact bo.refl _
  | false =>
    cases e:i.lk with
    | true=>simp[c,e] at h
    | false =>
      simp only[c,e,iT,sq] at h;rw[<-h];exact iY λl j=>by rw[k] at j;obtain rfl:=aI j;exact e
 .cases h
theorem OQ:∀{v:aO} {σ bb:St},gy σ v=some bb->bo σ bb:=by
 intro v;induction v with
 | mix p q c e =>
   intro σ bb h;obtain⟨bG,f,g⟩:=vx h;exact(c f).trans (e g)
 | whole b aP=>intro σ bb h;exact Gg h
 | part b aP lo n=>intro σ bb h;exact Gg h
 | _=>intro σ bb h;obtain rfl:=aI h;exact bo.refl _
theorem pC{t:Ty}{x:t.den}{v:aO}{c b:St}(h:wW c t v=some (x,b)):bo c b:=by
 unfold wW at h;split at h
 .split at h
  .obtain⟨_,rfl⟩:=br (aI h);exact bo.refl _
  .cases h
 .split at h
  .rename_i y bG f e;obtain⟨_,rfl⟩:=br (aI h);exact OQ e
  .cases h
theorem p7:∀{A:Ty} {x:A.den} {vs:List aO} {σ bb:St},kA σ A vs=some (x,bb)->bo σ bb:=by
 intro A;induction A with
 | pair t r e c =>
   intro x vs σ bb b;cases vs with
   | nil=>cases b
   | cons v vs =>
     simp only[kA] at b;split at b
     .rename_i p bG f;split at b
      .rename_i q cf g;obtain⟨_,rfl⟩:=br (aI b);exact(pC f).trans (c g)
      .cases b
     .cases b
 | unit =>
   intro x vs σ bb b;cases vs with
   | nil=>obtain⟨_,rfl⟩:=br (aI b);exact bo.refl _
   | cons v vs=>cases b
 | _=>intro x vs σ bb b;cases vs<;>cases b
theorem He{t:Ty}:∀{parts:List (Nat×Operand)} {x b:t.den} {σ bb:St},gf σ t x parts=some (b,bb)->bo σ bb:=by
 intro parts;induction parts with
 | nil=>intro x b σ bb h;obtain⟨_,rfl⟩:=br (aI h);exact bo.refl _
 | cons p r c =>
   obtain⟨k,o⟩:=p;intro x b σ bb h;simp only[gf] at h;split at h
   .split at h
    .rename_i e;split at h
     .exact(pC e).trans (c h)
     .cases h
    .cases h
   .cases h
theorem zE{e:Ty}:∀{parts:List (Nat×Operand)} {l c:List e.den} {σ bb:St},fR σ e l parts=some (c,bb)->bo σ bb:=by
 intro parts;induction parts with
 | nil=>intro x i σ bb h;obtain⟨_,rfl⟩:=br (aI h);exact bo.refl _
 | cons p r f =>
   obtain⟨k,o⟩:=p;intro l c σ bb h;simp only[fR] at h;split at h
   .rename_i g;cases b:Nat.blt k l.length with
    | false=>rw[b] at h;cases h
    | true=>rw[b] at h;exact(pC g).trans (f h)
   .cases h
theorem Dm{b g:Nat}{p:List B9}{h:aO->Bool}{u:aO}{n e:St}(f:(storeAt b g p h u n).run=some e):bo n e:=by
 unfold storeAt at f;split at f
 case h_2=>exact absurd f (by intro k;cases k)
 rename_i x s;obtain⟨o,i⟩:=aC f;simp only[dv,jL] at o;obtain⟨t,y,j⟩:=bind_some i;obtain⟨q,l⟩:=aC j;obtain⟨c,z,m⟩:=bind_some l;obtain rfl:=aI m;exact iY λv r=>by rw[s] at r;obtain rfl:=aI r;exact o.1.2
theorem OR{b g:Nat}{p:List B9}{n:Nat}{u:aO}{o e:St}(f:(rJ b g p n u o).run=some e):bo o e:=by
 unfold rJ at f;split at f
 case h_2=>exact absurd f (by intro k;cases k)
 rename_i z t;obtain⟨q,h⟩:=aC f;simp only[dv,jL] at q;obtain⟨v,A,i⟩:=bind_some h;obtain⟨r,j⟩:=aC i;obtain⟨c,C,l⟩:=bind_some j;obtain⟨x,m⟩:=aC l;obtain rfl:=aI m;exact iY λy s=>by rw[t] at s;obtain rfl:=aI s;exact q.1.1.1.2
theorem Jg{m:Ctx}{i:List Nat}{n:TypeId}{x y:aO}{g c:St}(f:(lr m i n x y g).run=some c):bo g c:=by
 unfold lr at f;split at f
 case h_2=>exact absurd f (by intro k;cases k)
 split at f
 case h_2=>exact absurd f (by intro k;cases k)
 obtain⟨j,h⟩:=aC f;obtain⟨o,s,e⟩:=bind_some h;split at e
 .rename_i u _;obtain⟨q,b⟩:=aC e;cases l:cP i 8000000&&Z4 u y with
  | true=>rw[l] at b;exact OR b
  | false =>
  rw[l] at b;replace b:(match wW g u y with|some (y,g)=>storeAt _ _ _ (Xo u) (.data u y) g|none=>.fail).run=some c:=b;split at b
  .rename_i r;exact(pC r).trans (Dm b)
  .exact absurd b (by intro k;cases k)
 .obtain⟨q,b⟩:=aC e;exact Dm b
theorem yU{j:Ctx}{m:Nat}{d:Option Nat}{n:TypeId}{s x:aO}{h f:St}(b:(gY j m d n s x h).run=some f):bo h f:=by
 unfold gY at b;split at b
 case h_2=>exact absurd b (by intro k;cases k)
 split at b
 case h_2=>exact absurd b (by intro k;cases k)
 split at b
 .obtain⟨o,c⟩:=cv b;obtain⟨q,r,t⟩:=kp c;obtain rfl:=aI t;exact r.trans (bo.put _ _ _)
 .split at b
  case h_2=>exact absurd b (by intro k;cases k)
  rename_i y l u z;obtain⟨e,g⟩:=x6 b;have e:=(vl.1 e).1;obtain⟨o,c⟩:=cv g;obtain rfl:=aI c;exact(iY λv i=>by rw[u] at i;obtain rfl:=aI i;exact e).trans (bo.put _ _ _)
 .exact absurd b (by intro k;cases k)
theorem wq{e:Ty}{m:List e.den}{b n:Nat}{q:List B9}{o:Nat->Ty->Bool}{u:Int}{j i:St}(l:(jO e m b n q o u j).run=some i):bo j i:=by
 unfold jO at l;split at l
 case h_2=>exact absurd l (by intro k;cases k)
 rename_i z v;obtain⟨s,f⟩:=aC l;simp only[dv,jL] at s;have fin:∀{su:bF},bo j (j.b5 b su):=λ{su}=>iY λx t=>by rw[v] at t;obtain rfl:=aI t;exact s.1.2
 split at f
 .split at f
  .split at f
   .obtain rfl:=aI f;exact fin
   .exact absurd f (by intro k;cases k)
  .exact absurd f (by intro k;cases k)
 .obtain⟨y,_,g⟩:=bind_some f;split at g
  .obtain⟨_,h⟩:=aC g;split at h
   .obtain⟨c,_,r⟩:=bind_some h;obtain rfl:=aI r;exact fin
   .exact absurd h (by intro k;cases k)
  .exact absurd g (by intro k;cases k)
theorem Gi{e:Ty}{h:Int->List e.den}{t:aO}{g:St}{r:Int×St}(b:(EB e h t g).run=some r):bo g r.2:=by
 unfold EB at b;split at b
 .obtain⟨bG,c,f⟩:=bind_some b;obtain rfl:=aI f;exact wq c
 .split at b
  .obtain⟨bG,c,f⟩:=bind_some b;obtain rfl:=aI f;exact wq c
  .exact absurd b (by intro k;cases k)
 .obtain⟨bG,c,f⟩:=bind_some b;obtain rfl:=aI f;exact wq c
 .exact absurd b (by intro k;cases k)
theorem Rt{m:Nat->Option bF}:∀{o:OT} {v:aO} {u:o.den} {N M:List (Nat×Nat)},dE m o v=some (u,N,M)->∀b∈bq N M,∀j,m b=some j->j.lk=false:=by
 intro o;induction o with
 | zl t =>
   intro v u N M h;unfold dE at h;split at h
   .cases h;intro b k;cases k
   .cases h
 | buf e s =>
   intro v u N M h;unfold dE at h;split at h
   case h_2=>cases h
   rename_i b l;split at h
   case h_2=>cases h
   rename_i j k;cases g:(Nat.beq j.aP l&&j.buf&&!j.lk&&!j.ro&&Nat.beq j.tid s&&Nat.blt 0 e.size) with
   | false=>rw[g] at h;cases h
   | true =>
     rw[g] at h;simp only[dv,jL] at g;simp only[eC] at h;split at h
     case h_2=>cases h
     split at h
     case h_2=>cases h
     cases h;intro c i cx f;have:c=b:=by simpa [bq] using i
     subst this;rw[k] at f;obtain rfl:=aI f;exact g.1.1.1.2
 | ref tid o C =>
   intro v u N M h;unfold dE at h;split at h
   case h_2=>cases h
   rename_i b l;split at h
   case h_2=>cases h
   rename_i j k;cases g:(Nat.beq j.aP l&&!j.buf&&!j.lk&&!j.ro&&Nat.beq j.tid tid) with
   | false=>rw[g] at h;cases h
   | true =>
     rw[g] at h;simp only[dv,jL] at g;simp only[eC] at h;split at h
     case h_2=>cases h
     rename_i G D E F;cases h;intro c i cx f;unfold bq at i;simp only[sX,zi,fP] at i;rcases i with rfl|i
     .rw[k] at f;obtain rfl:=aI f;exact g.1.1.2
     .exact C F c i cx f
 | pair p q n r =>
   intro v u N M h;unfold dE at h;split at h
   case h_2=>cases h
   split at h
   case h_2=>cases h
   rename_i x D E y H I z A;cases h;intro c i cx f;unfold bq at i;simp only[xO,pO] at i;rcases i with (i|i)|(i|i)
   .exact n z c (mZ _ i) cx f
   .exact r A c (mZ _ i) cx f
   .exact n z c (mY _ i) cx f
   .exact r A c (mY _ i) cx f
 | unit =>
   intro v u N M h;unfold dE at h;split at h
   case h_2=>cases h
   cases h;intro b k;cases k
theorem Ud{j:St}:∀{ps:List Bool} {A:Ty} {U:OT} {vs:List aO} {x:A.den} {u:U.den} {N M:List (Nat×Nat)},fS j ps A U vs=some (x,u,N,M)->∀b∈bq N M,∀k,j.mem b=some k->k.lk=false:=by
 intro ps;induction ps with
 | nil =>
   intro A U vs x u N M h;cases A<;>first|(cases h;done)|skip
   cases U<;>first|(cases h;done)|skip
   cases vs with
   | cons v r=>cases h
   | nil=>cases h;intro b m;cases m
 | cons p ps i =>
   intro A U vs x u N M h;cases p with
   | false =>
     cases A<;>first|(cases h;done)|skip
     cases vs with
     | nil=>cases h
     | cons v r =>
       simp only[fS] at h;split at h
       .rename_i g;cases h;exact i g
       .cases h
   | true =>
     cases U<;>first|(cases h;done)|skip
     rename_i o U;cases o<;>first|(cases h;done)|skip
     cases vs with
     | nil=>cases h
     | cons v r =>
       simp only[fS] at h;split at h
       .rename_i n q s t y z C l g;cases h;intro c e cx f;unfold bq at e;simp only[xO,pO] at e;rcases e with (e|e)|(e|e)
        .exact Rt l c (mZ _ e) cx f
        .exact i g c (mZ _ e) cx f
        .exact Rt l c (mY _ e) cx f
        .exact i g c (mY _ e) cx f
       .cases h
theorem OS{f:List Bool}{A:Ty}{U:OT}{g:List aO}{x:A.den}{u y:U.den}{N M:List (Nat×Nat)}{c:St}(h:fS c f A U g=some (x,u,N,M)):bo c (kB U y N M c):=λb i e j=>by
 rw[gJ];cases hv:iH U y N (M.map λp=>(p.1,p.2+1)) b with
 | none=>exact e
 | some v =>
   have:=Ud h b (by have:=pe hv;rwa [uH] at this) i e;rw[j] at this;cases this
theorem OU{s:Xk}{d:Option Nat}{f:List aO}{j g:St}(b:(Ay s d f j).run=some g):bo j g:=by
 unfold Ay at b;split at b
 .split at b
  case h_2=>cases b
  split at b
  case h_2=>cases b
  obtain⟨_,c⟩:=aC b;obtain rfl:=aI c;exact bo.ba _ _ _
 .split at b
  case h_2=>cases b
  split at b
  case h_2=>cases b
  obtain⟨_,c⟩:=aC b;split at c
  case h_2=>cases c
  rename_i m i;obtain⟨h,e⟩:=aC c;simp only[dv,jL] at h;split at e
  case h_2=>cases e
  obtain rfl:=aI e;exact(iY λl k=>by rw[i] at k;obtain rfl:=aI k;exact h.1.1.2).trans (bo.ba _ _ _)
 .cases b
theorem Ue{b c:Nat}:∀{h:List na} {j:Nat} {σ:St} {r:aO×St},(mkObj b c h j σ).run=some r->bo σ r.2:=by
 intro h;induction h with
 | nil=>intro j σ r g;obtain rfl:=aI g;exact bo.refl _
 | cons f q m =>
   intro j σ r g;cases f with
   | buf e n =>
     obtain⟨_,i⟩:=aC g;obtain⟨c,o,s⟩:=kp i;obtain⟨y,k,l⟩:=bind_some s;obtain rfl:=aI l;have:=m k;exact o.trans this
   | _ =>
     obtain⟨y,k,l⟩:=bind_some g;obtain rfl:=aI l;have:=m k;exact this
theorem OV{b:Nat}:∀{c:List na} {j:Nat} {v:aO} {σ:St} {r:aO×St},(nc b c j v σ).run=some r->bo σ r.2:=by
 intro c;induction c with
 | nil =>
   intro j v σ r g;obtain rfl:=Gb g;exact bo.refl _
 | cons f q k =>
   intro j v σ r g;rcases De g with ⟨x,u,y,rfl,h,rfl⟩|⟨e,l,u,rfl,t,i⟩
   .have:=k h;exact this
   .obtain⟨m,n,o⟩:=kp i;obtain⟨y,h,s⟩:=bind_some o;obtain rfl:=aI s;have:=k h;exact n.trans this
theorem Ru{q:Ctx}{inl:Nat->List aO->St->Tree (aO×St)}(l:∀f i j v g,(inl f i j).run=some (v,g)->bo j g){d:Option Nat}{f:Nat}{i:List aO}{j g:St}
  (b:(wk q inl d f i j).run=some g):bo j g:=by
 unfold wk at b;split at b
 .split at b
  .split at b
   .obtain⟨y,o,h⟩:=b4 b;obtain rfl:=aI h;exact bo.ba _ _ _
   .exact absurd b (by intro k;cases k)
  .split at b
   .rename_i m;obtain⟨y,o,h⟩:=b4 b;obtain rfl:=aI h;exact(p7 m).trans (bo.ba _ _ _)
   .exact absurd b (by intro k;cases k)
 .have e:((inl f i j).bind λr=>.ret (r.2.ba d r.1):Tree St).run=some g->bo j g:=by
   intro b;obtain⟨r,n,h⟩:=bind_some b;obtain rfl:=aI h;exact(l _ _ _ _ _ n).trans (bo.ba _ _ _)
  split at b
  .exact OU b
  split at b
  .rename_i c s;split at b
   .rename_i x u N M m;obtain⟨_,b⟩:=aC b;obtain⟨y,o,h⟩:=b4 b;obtain rfl:=aI h;exact(OS m).trans (bo.ba _ _ _)
   .exact e b
  .exact e b
theorem Jh{h:Nat}{e:Ty}{d:Option Nat}{c:List aO}{g f:St}(b:(lA h e d c g).run=some f):bo g f:=by
 unfold lA at b;split at b
 case h_2=>cases b
 split at b
 case h_2=>cases b
 rename_i i;obtain⟨_,b⟩:=aC b;obtain⟨_,b⟩:=cv b;obtain⟨j,k,l⟩:=kp b;obtain rfl:=aI l;exact((pC i).trans k).trans (bo.ba _ (some _) _)
theorem OW{e A:Ty}{f:Bool}{g:List e.den->A.den->Option (List e.den)}{d:Option Nat}{h:List aO}{q i:St}(c:(rK e A f g d h q).run=some i):bo q i:=by
 unfold rK at c;split at c
 case h_2=>cases c
 split at c
 case h_2=>cases c
 rename_i m;split at c
 case h_2=>cases c
 rename_i b v C l n;obtain⟨D,_,c⟩:=b4 c;obtain⟨x,r,s,o,y,t,_⟩:=sy n;have key:∀j,bo _ (St.b5 _ b j):=λj=>iY λz u=>by rw[x] at u;obtain rfl:=aI u;exact o
 cases f with
 | true =>
   cases d with
   | none=>cases c
   | some k=>obtain rfl:=aI c;exact((p7 m).trans<|key _).trans (bo.ba _ (some _) _)
 | false =>
   cases d with
   | none=>obtain⟨_,c⟩:=aC c;obtain rfl:=aI c;exact((p7 m).trans<|key _).trans (bo.ba _ none _)
   | some k=>obtain⟨_,c⟩:=aC c;obtain rfl:=aI c;exact((p7 m).trans<|key _).trans (bo.ba _ (some _) _)
theorem Ji{h g:Nat}{d:Option Nat}{c:List aO}{f e:St}(b:(lB h g d c f).run=some e):bo f e:=by
 unfold lB at b;split at b
 .cases b
 .cases b
 .obtain⟨i,j,k⟩:=kp b;obtain rfl:=aI k;exact j.trans (bo.ba _ (some _) _)
 .cases b
theorem OX{i:Ctx}{j:Nat}{k:List Nat}{inl:Nat->List aO->St->Tree (aO×St)}(g:∀f b h v c,(inl f b h).run=some (v,c)->bo h c){d:Option Nat}{f:Nat}{b:List aO}{h c:St}
  (e:(tH i j k inl d f b h).run=some c):bo h c:=by
 unfold tH at e;split at e
 .exact Jh e
 .exact OW e
 .exact Ji e
 .exact Ru g e
end Go.Ge
namespace Go.Ge
open RowKit
def au(σ:St)(T:Tree St):Prop:=∀y,T.run=some y->bo σ y
theorem au.fail{σ:St}:au σ .fail:=λy h=>by cases h
theorem au.ret{σ b:St}(h:bo σ b):au σ (.ret b):=λy c=>by obtain rfl:=aI c;exact h
theorem au.bif{b:St}{c:Bool}{t:Tree St}(h:au b t):au b (bif c then t else .fail):=λy e=>h y (aC e).2
theorem au.need{b:St}{c:Bool}{t:Tree St}(h:au b t):au b (.need c t):=λy e=>h y (cv e).2
theorem au.look{b:St}{T:Type}{o:Option T}{k:T->Tree St}(h:∀x,au b (k x)):au b (.look o k):=λy c=>by obtain⟨x,_,e⟩:=b4 c;exact h x y e
theorem au.node{σ:St}{c:Bool}{t e:Tree St}(h:au σ t)(k:au σ e):au σ (.node c t e):=λy b=>by
 have:=fT b;cases c with
 | true=>exact h y this
 | false=>exact k y this
theorem au.bind{σ:St}{α:Type}{t:Tree α}{f:α->Tree St}(h:∀x,t.run=some x->au σ (f x)):au σ (t.bind f):=λy b=>by obtain⟨x,c,e⟩:=bind_some b;exact h x c y e
theorem au.aT{c:St}{b:Nat}{e:aO}{tid:TypeId}{f:Bool}{d:Nat}{v:Nat->aO}:au c (c.aT b e tid f λaP c=>.ret (c.put d<|v aP)):=λy g=>by
 obtain⟨aP,h,i⟩:=kp g;obtain rfl:=aI i;exact h.trans (bo.put _ _ _)
section
variable {cx:Ctx} {nb:Nat} {bf:List Nat} {inl:Nat->List aO->St->Tree (aO×St)} {d:Option Nat} {σ:St}
theorem yV{b:TypeId}{v:aO}:au σ (js cx nb bf d b v σ):=by
 unfold js;split
 ·(repeat' (first|exact au.fail|exact au.ret (bo.ba _ _ _)|exact au.ret (bo.put _ _ _)|exact au.aT|refine au.bif ?_|refine au.need ?_|refine au.look λ_=>?_|refine au.node ?_ ?_|refine au.bind λ_ _=>?_|split))
 .split
  .rename_i k e _;cases cP bf k with
   | true=>exact au.aT
   | false=>exact au.ret (bo.put _ _ _)
  .exact au.ret (bo.ba _ _ _)
 .exact au.ret (bo.ba _ _ _)
theorem LC{c a b:aO}:au σ (oc d c a b σ):=by unfold oc;(repeat' (first|exact au.fail|exact au.ret (bo.ba _ _ _)|exact au.ret (bo.put _ _ _)|exact au.aT|refine au.bif ?_|refine au.need ?_|refine au.look λ_=>?_|refine au.node ?_ ?_|refine au.bind λ_ _=>?_|split))
theorem LD{b:TypeId}{a:aO}:au σ (kS cx d b a σ):=by unfold kS;(repeat' (first|exact au.fail|exact au.ret (bo.ba _ _ _)|exact au.ret (bo.put _ _ _)|exact au.aT|refine au.bif ?_|refine au.need ?_|refine au.look λ_=>?_|refine au.node ?_ ?_|refine au.bind λ_ _=>?_|split))
theorem Jj{b:TypeId}{x:aO}{c e:Option Operand}:au σ (lu cx d b x c e σ):=by unfold lu;(repeat' (first|exact au.fail|exact au.ret (bo.ba _ _ _)|exact au.ret (bo.put _ _ _)|exact au.aT|refine au.bif ?_|refine au.need ?_|refine au.look λ_=>?_|refine au.node ?_ ?_|refine au.bind λ_ _=>?_|split))
theorem Uf{b c:Nat}{i:Int}:∀{m k:Nat},au σ (IE d b c σ i m k):=by
 intro m;induction m with
 | zero=>intro k;exact au.fail
 | succ m e=>intro k;exact au.node (au.ret<|bo.ba _ _ _) e
theorem uJ{b:TypeId}{x:aO}{i:Int}:au σ (ek cx d b x i σ):=by
 unfold ek;split
 case h_6=>split
           .exact au.bif Uf
           .exact au.fail
 all_goals (repeat' (first|exact au.fail|exact au.ret (bo.ba _ _ _)|exact au.ret (bo.put _ _ _)|exact au.aT|refine au.bif ?_|refine au.need ?_|refine au.look λ_=>?_|refine au.node ?_ ?_|refine au.bind λ_ _=>?_|split))
theorem Jk{b:TypeId}{x:aO}{i:Int}:au σ (lv cx d b x i σ):=by
 unfold lv;split
 .refine au.bif ?_;split
  .exact au.bif (au.ret<|bo.ba _ _ _)
  .exact au.fail
 .exact uJ
theorem Jl{b:TypeId}{x:aO}{i:Int}:au σ (lz cx d b x i σ):=by unfold lz;(repeat' (first|exact au.fail|exact au.ret (bo.ba _ _ _)|exact au.ret (bo.put _ _ _)|exact au.aT|refine au.bif ?_|refine au.need ?_|refine au.look λ_=>?_|refine au.node ?_ ?_|refine au.bind λ_ _=>?_|split))
theorem Cm{s:TypeId}{x:aO}{k:Nat}:au σ (eQ cx d s x k σ):=by unfold eQ;(repeat' (first|exact au.fail|exact au.ret (bo.ba _ _ _)|exact au.ret (bo.put _ _ _)|exact au.aT|refine au.bif ?_|refine au.need ?_|refine au.look λ_=>?_|refine au.node ?_ ?_|refine au.bind λ_ _=>?_|split))
theorem EX{s t:TypeId}{x:aO}:au σ (gI cx nb d s t x σ):=by unfold gI;(repeat' (first|exact au.fail|exact au.ret (bo.ba _ _ _)|exact au.ret (bo.put _ _ _)|exact au.aT|refine au.bif ?_|refine au.need ?_|refine au.look λ_=>?_|refine au.node ?_ ?_|refine au.bind λ_ _=>?_|split))
theorem BE{b:TypeId}{t x:aO}:au σ (wX cx d b t x σ):=by
 unfold wX;split
 .split
  .exact au.fail
  .exact au.bind λr c=>au.ret ((Gi c).trans<|bo.ba _ _ _)
 .exact au.fail
theorem Jm{b:TypeId}{t:aO}:au σ (wY cx b t σ):=by
 unfold wY;split
 .exact au.bind λr c=>au.ret (Gi c)
 .exact au.fail
theorem Hf{c:String}{e:List aO}:au σ (rj cx d c e σ):=by
 intro bb b;unfold rj at b;split at b
 .split at b
  .rename_i g;obtain⟨y,h,f⟩:=b4 b;obtain rfl:=aI f;exact(p7 g).trans (bo.ba _ _ _)
  .exact absurd b (by intro k;cases k)
 .exact absurd b (by intro k;cases k)
theorem Jn{c u:TypeId}{x:aO}:au σ (ri cx d c u x σ):=by
 intro bb b;unfold ri at b;split at b
 .split at b
  .split at b
   .rename_i e;obtain rfl:=aI b;exact(pC e).trans (bo.ba _ _ _)
   .exact absurd b (by intro k;cases k)
  .exact absurd b (by intro k;cases k)
 .exact absurd b (by intro k;cases k)
theorem LF(b:∀f e σ v bb,(inl f e σ).run=some (v,bb)->bo σ bb){h:TypeId}{c:Call}:au σ (uz cx nb bf inl d h c σ):=by
 unfold uz;split
 .split
  ·(repeat' (first|exact au.fail|exact au.ret (bo.ba _ _ _)|exact au.ret (bo.put _ _ _)|exact au.aT|refine au.bif ?_|refine au.need ?_|refine au.look λ_=>?_|refine au.node ?_ ?_|refine au.bind λ_ _=>?_|split))
  .split
   .exact λy g=>yU g
   .exact λy g=>yU g
   .exact au.fail
  .split
   .exact BE
   .exact BE
   .exact au.fail
  .split
   .exact Jm
   .exact au.fail
  ·(repeat' (first|exact au.fail|exact au.ret (bo.ba _ _ _)|exact au.ret (bo.put _ _ _)|exact au.aT|refine au.bif ?_|refine au.need ?_|refine au.look λ_=>?_|refine au.node ?_ ?_|refine au.bind λ_ _=>?_|split))
  ·(repeat' (first|exact au.fail|exact au.ret (bo.ba _ _ _)|exact au.ret (bo.put _ _ _)|exact au.aT|refine au.bif ?_|refine au.need ?_|refine au.look λ_=>?_|refine au.node ?_ ?_|refine au.bind λ_ _=>?_|split))
  .exact au.fail
 .split
  .exact au.bif λy g=>OX b g
  .exact au.fail
 .exact Hf
theorem zF(c:∀f e σ v bb,(inl f e σ).run=some (v,bb)->bo σ bb){o:Oper}:au σ (pS cx nb bf inl o σ):=by
 unfold pS;split
 case h_1=>exact yV
 case h_2=>exact yV
 case h_3=>exact LC
 case h_4 =>
  split
  .unfold uf;split
   .refine au.bif λy b=>?_;obtain⟨i,j,k⟩:=kp b;exact j.trans (au.aT y k)
   .exact au.aT
  .split
   .refine au.bind λr h=>?_;exact λy b=>(Ue h).trans (au.aT y b)
   .exact au.bif au.aT
  .exact au.fail
 case h_5 =>
  unfold CU;split
  .exact au.fail
  .exact au.fail
  .split
   .refine au.bind λr h=>?_;exact λy b=>(OV h).trans (au.aT y b)
   .exact au.aT
  .exact au.fail
 case h_6 =>
  split
  .split
   .rename_i g;exact au.ret ((He g).trans<|bo.ba _ _ _)
   .exact au.fail
  .split
   .rename_i g;exact au.ret ((zE g).trans<|bo.ba _ _ _)
   .exact au.fail
  ·(repeat' (first|exact au.fail|exact au.ret (bo.ba _ _ _)|exact au.ret (bo.put _ _ _)|exact au.aT|refine au.bif ?_|refine au.need ?_|refine au.look λ_=>?_|refine au.node ?_ ?_|refine au.bind λ_ _=>?_|split))
  .exact au.fail
 case h_7 =>
  split
  .split
   .exact au.aT
   .refine au.bif ?_;split
    .rename_i g;exact au.ret ((zE g).trans<|bo.ba _ _ _)
    .exact au.fail
  .unfold Az;(repeat' (first|exact au.fail|exact au.ret (bo.ba _ _ _)|exact au.ret (bo.put _ _ _)|exact au.aT|refine au.bif ?_|refine au.need ?_|refine au.look λ_=>?_|refine au.node ?_ ?_|refine au.bind λ_ _=>?_|split))
  .exact au.fail
 case h_8=>exact LD
 case h_9=>split
           .exact λy b=>Jg b
           .exact au.fail
 case h_10=>(repeat' (first|exact au.fail|exact au.ret (bo.ba _ _ _)|exact au.ret (bo.put _ _ _)|exact au.aT|refine au.bif ?_|refine au.need ?_|refine au.look λ_=>?_|refine au.node ?_ ?_|refine au.bind λ_ _=>?_|split))
 case h_11=>(repeat' (first|exact au.fail|exact au.ret (bo.ba _ _ _)|exact au.ret (bo.put _ _ _)|exact au.aT|refine au.bif ?_|refine au.need ?_|refine au.look λ_=>?_|refine au.node ?_ ?_|refine au.bind λ_ _=>?_|split))
 case h_12=>(repeat' (first|exact au.fail|exact au.ret (bo.ba _ _ _)|exact au.ret (bo.put _ _ _)|exact au.aT|refine au.bif ?_|refine au.need ?_|refine au.look λ_=>?_|refine au.node ?_ ?_|refine au.bind λ_ _=>?_|split))
 case h_13=>exact EX
 case h_14=>(repeat' (first|exact au.fail|exact au.ret (bo.ba _ _ _)|exact au.ret (bo.put _ _ _)|exact au.aT|refine au.bif ?_|refine au.need ?_|refine au.look λ_=>?_|refine au.node ?_ ?_|refine au.bind λ_ _=>?_|split))
 case h_15=>exact Jj
 case h_16=>exact Cm
 case h_17=>(repeat' (first|exact au.fail|exact au.ret (bo.ba _ _ _)|exact au.ret (bo.put _ _ _)|exact au.aT|refine au.bif ?_|refine au.need ?_|refine au.look λ_=>?_|refine au.node ?_ ?_|refine au.bind λ_ _=>?_|split))
 case h_18=>split
            .cases cP bf 5000000 with
             | true=>exact Jk
             | false=>exact uJ
            .exact au.fail
 case h_19=>split
            .exact Jl
            .exact au.fail
 case h_20=>(repeat' (first|exact au.fail|exact au.ret (bo.ba _ _ _)|exact au.ret (bo.put _ _ _)|exact au.aT|refine au.bif ?_|refine au.need ?_|refine au.look λ_=>?_|refine au.node ?_ ?_|refine au.bind λ_ _=>?_|split))
 case h_21=>(repeat' (first|exact au.fail|exact au.ret (bo.ba _ _ _)|exact au.ret (bo.put _ _ _)|exact au.aT|refine au.bif ?_|refine au.need ?_|refine au.look λ_=>?_|refine au.node ?_ ?_|refine au.bind λ_ _=>?_|split))
 case h_22=>exact LF c
 case h_23=>exact Jn
 case h_24=>exact au.fail
end
end Go.Ge
namespace Go.Ge
open RowKit
theorem mx.shrink{g f:Nat->Option bF}(l:∀b c,g b=some c->f b=some { c with lk:=true }){b i:Nat}{m K:bF->Prop}(n:mx g b i m)(h:mx f b i K)
  (o:∀c,K { c with lk:=true }->K c):mx g b i K:=by
 obtain⟨c,j,q,_⟩:=n;obtain⟨r,k,t,s⟩:=h;rw[l b c j] at k;obtain rfl:=aI k;exact⟨c,j,q,λe=>o c (s e)⟩
theorem cl.shrink{M C:Gh}{y o:Nat->Option bF}{w J:World}(g:∀b K,y b=some K->o b=some { K with lk:=true }):∀{v:aO} {m:Mode} {us vs:List Value},
  cl M y w v m us->cl C o J v m vs->cl C y J v m vs:=by
 intro v;induction v with
 | undef=>intro m us vs _ r;cases m<;>exact r
 | data t x=>intro m us vs _ r;cases m<;>exact r
 | oa=>intro m us vs _ r;cases m<;>exact r
 | rf=>intro m us vs _ r;cases m<;>exact r
 | cell t x=>intro m us vs _ r;cases m<;>exact r
 | nl=>intro m us vs _ r;cases m<;>exact r
 | ss=>intro m us vs _ r;cases m<;>exact r
 | vu b aP =>
   intro m us vs c r;cases m with
   | many=>exact r
   | cells=>exact⟨r.1,c.2.shrink g r.2 λ_ k=>k⟩
   | val=>exact⟨r.1,c.2.shrink g r.2 λ_ k=>k⟩
 | ptr b aP p =>
   intro m us vs c r;cases m with
   | many=>exact r
   | cells=>exact⟨r.1,c.2.shrink g r.2 λ_ k=>k⟩
   | val=>exact⟨r.1,c.2.shrink g r.2 λ_ k=>k⟩
 | whole b aP =>
   intro m us vs c r;cases m with
   | many=>exact r
   | cells=>exact⟨r.1,c.2.shrink g r.2 λ_ k=>k⟩
   | val=>exact⟨r.1,c.2.shrink g r.2 λ_ k=>k⟩
 | part b aP lo n =>
   intro m us vs c r;cases m with
   | many=>exact r
   | cells=>exact⟨r.1,c.2.shrink g r.2 λ_ k=>k⟩
   | val=>exact⟨r.1,c.2.shrink g r.2 λ_ k=>k⟩
 | win b aP q e k lo n =>
   intro m us vs c r;cases m with
   | many=>exact r
   | cells=>exact⟨r.1,c.2.shrink g r.2 λ_ k=>k⟩
   | val=>exact⟨r.1,c.2.shrink g r.2 λ_ k=>k⟩
 | fn f L =>
   intro m us vs c r;cases m with
   | many=>exact r
   | cells=>obtain⟨_,_,_,s⟩:=c;obtain⟨h,j,l,I⟩:=r;exact⟨h,j,l,λi b aP D=>(s i b aP D).shrink g (I i b aP D) λ_ k=>k⟩
   | val=>obtain⟨_,_,_,s⟩:=c;obtain⟨h,j,l,I⟩:=r;exact⟨h,j,l,λi b aP D=>(s i b aP D).shrink g (I i b aP D) λ_ k=>k⟩
 | mix a b z A =>
   intro m us vs c r;cases m with
   | cells=>obtain⟨_,_,_,E,F⟩:=c;obtain⟨G,H,c,j,l⟩:=r;exact⟨G,H,c,z E j,A F l⟩
   | val=>obtain⟨_,_,_,E,F⟩:=c;obtain⟨G,H,c,j,l⟩:=r;exact⟨G,H,c,z E j,A F l⟩
   | many=>obtain⟨_,_,_,E,F⟩:=c;obtain⟨G,H,c,j,l⟩:=r;exact⟨G,H,c,z E j,A F l⟩
 | yP u O =>
   intro m us vs c r;cases m with
   | val=>obtain⟨_,_,s⟩:=c;obtain⟨h,j,l⟩:=r;exact⟨h,j,O s l⟩
   | cells=>exact r
   | many=>exact r
theorem bB.unlock{B:qK}{x m:Gh}{e l:Nat->Option bF}{w y:World}(h:bB B x e w)(t:∀b f,e b=some f->l b=some { f with lk:=true })
  (q:bB B m l y) (u:Ext B x (λi=>match e i with|some b=>some { b with lk:=true }|none=>none) w m l y):bB B m e y/\Ext B x e w m e y:=by
 have v:∀b f,e b=some f->m.loc b=x.loc b:=by
  intro b f g;obtain⟨C,k1,k2,k3⟩:=u.boxes b { f with lk:=true } (by simp[g]);rw[t b f g] at k1;obtain rfl:=aI k1;exact(k3 rfl).1
 have r:∀b,e b≠none->l b≠none:=by
  intro b g;cases A:e b with
  | none=>exact absurd A g
  | some f=>rw[t b f A];simp
 refine⟨?_,⟨u.below,u.I,u.pZ,u.cells,λb f g=>⟨f,g,cg _,λ_=>⟨v b f g,rfl,rfl⟩⟩⟩⟩;exact
  { cU:=q.cU
    base:=q.base
    boxes:=λb f g=>by
     have n:=h.boxes b f g;have s:=q.boxes b _ (t b f g);unfold cE at n s⊢;cases o:f.buf with
     | true=>rw[o] at s;exact s
     | false =>
       rw[o] at n s;obtain⟨_,_,_,_,_,_,_,_,_,D⟩:=n;obtain⟨j,cap,cur,tid,fr,k1,k2,k3,acx,E⟩:=s;exact⟨j,cap,cur,tid,fr,k1,k2,k3,acx,D.shrink t E⟩
    inj:=λb c j k F g G n s=>q.inj b c j k F (r b g) (r c G) n s
    fresh:=λb j k g n=>q.fresh b j k (r b g) n
    tu:=q.tu
    sep:=λb f j k z g n H=>by
     have:=q.sep b _ j k z (t b f g) n H;exact this }
theorem Ext.iw{B:qK}{γ:Gh}{σ:St}{w:World}:Ext B γ σ.mem w γ σ.iw.mem w where
 below:=uD.refl _ _
 I:=λ_ _ h=>h
 pZ:=λ_ _ h=>.inl h
 cells:=λ_ _ _=>rfl
 boxes:=λb c e=>⟨{ c with lk:=true },by simp[St.iw,e],cg _,λ_=>⟨rfl,rfl,rfl⟩⟩
theorem bB.iw{B:qK}{γ:Gh}{σ:St}{w:World}(h:bB B γ σ.mem w):bB B γ σ.iw.mem w:=by
 have inv:∀{b j},σ.iw.mem b=some j->∃e,σ.mem b=some e/\j={ e with lk:=true }:=by
  intro b j f;simp only[St.iw] at f;split at f
  .rename_i e h0;exact⟨e,h0,(aI f).symm⟩
  .cases f
 have i:∀{b},σ.iw.mem b≠none->σ.mem b≠none:=by
  intro b f n;apply f;simp[St.iw,n]
 exact
  { cU:=h.cU
    base:=h.base
    boxes:=λb j f=>by
     obtain⟨e,h0,rfl⟩:=inv f;have:=(h.boxes b e h0).keep (Ext.iw (B:=B) (γ:=γ) (σ:=σ) (w:=w)) rfl (λ_ _ _=>rfl);exact this
    inj:=λb c g k o f q l r=>h.inj b c g k o (i f) (i q) l r
    fresh:=λb g k f l=>h.fresh b g k (i f) l
    tu:=h.tu
    sep:=λb j g k m f l s=>by
     obtain⟨e,h0,rfl⟩:=inv f;exact h.sep b e g k m h0 l s }
theorem cW.iw{B:qK}{N:Nat}{γ:Gh}{σ:St}{a:Act}{w:World}(h:cW B N γ σ a w):cW B N γ σ.iw a w where
 slots:=λt=>(h.slots t).ext (Ext.iw (B:=B))
 size:=h.size
 defers:=h.defers
 ok:=h.ok.iw
theorem OY{e f:St}(h:bo e.iw f):∀b c,e.mem b=some c->f.mem b=some { c with lk:=true }:=λb c g=>h b _ (by simp[St.iw,g]) rfl
end Go.Ge
namespace Go.Ge
open RowKit
inductive qM (all:Array Oper) (G:List (Nat×Bool)):List (Nat×Oper)->List Oper->Prop
 | nil:qM all G [] []
 | cons {i:Nat} {o o':Oper} {r:List (Nat×Oper)} {l:List Oper}:all[i]?=some o->(o'=o\/∃g,o.guard=some g/\g∈G/\o'={ o with guard:=none })->qM all G r l->qM all G ((i,o')::r) (o::l)
theorem qM.mono{c:Array Oper}{G e:List (Nat×Bool)}(f:∀g∈G,g∈e){b:List (Nat×Oper)}{l:List Oper}(h:qM c G b l):qM c e b l:=by
 induction h with
 | nil=>exact .nil
 | cons i j _ k=>exact .cons i (j.imp id λ⟨g,m,n,o⟩=>⟨g,m,f g n,o⟩) k
theorem Rv{b:Array Oper}{G:List (Nat×Bool)}{j:Nat}{want:Bool}:∀{items:List (Nat×Oper)} {l:List Oper} {inner:List Nat},qM b G items l ->
  ∃e f,l=e++f/\qM b ((j,want)::G) (under j want inner items).1 e/\qM b G (under j want inner items).2 f:=by
 intro items l inner h;induction h generalizing inner with
 | nil=>exact⟨[],[],rfl,.nil,.nil⟩
 | @cons i o m r l q n D y =>
   unfold under;cases k:xV m.guard j want with
   | true =>
     simp only[eC];obtain⟨e,f,s,t,u⟩:=y (inner:=i::inner);refine⟨o::e,f,by rw[s];rfl,.cons q (.inr ?_) t,u⟩;have E:m=o:=by
      rcases n with n|⟨g,z,A,v⟩
      .exact n
      .rw[v] at k;cases k
     subst E;unfold xV at k;split at k
     .rename_i F C x;simp only[dv] at k;have H:=eT k.1;have I:C=want:=by simpa using k.2
      subst H;subst I;exact⟨(F,C),x,mo ..,rfl⟩
     .cases k
   | false =>
     simp only[iT];have both:∀c:Bool,∃e f,o::l=e++f /\
       qM b ((j,want)::G) (bif c then((i,m)::(under j want (i::inner) r).1,(under j want (i::inner) r).2) else([],(i,m)::r)).1 e /\
       qM b G (bif c then((i,m)::(under j want (i::inner) r).1,(under j want (i::inner) r).2) else([],(i,m)::r)).2 f:=by
      intro c;cases c with
      | true =>
        obtain⟨e,f,s,t,u⟩:=y (inner:=i::inner);exact⟨o::e,f,by rw[s];rfl,.cons q (n.imp id λ⟨g,z,A,v⟩=>⟨g,z,nX _ A,v⟩) t,u⟩
      | false=>exact⟨[],o::l,rfl,.nil,.cons q n D⟩
     exact both _
theorem Ug{d:Nat}:∀{items:List (Nat×Oper)},nd d items=false->∀i o,(i,o)∈items->o.dst≠some d:=by
 intro items;induction items with
 | nil=>intro _ i o h;cases h
 | cons p r c =>
   obtain⟨f,g⟩:=p;intro h i o b;simp only[nd,vl] at h;rcases fP.1 b with b|b
   .obtain⟨rfl,rfl⟩:=br b;intro e;rw[e] at h;simp at h
   .exact c h.2 i o b
section
variable {P:Program} {B:qK} {N:Nat} {γ:Gh} {σ bb:St} {a:Act} {w w':World} {cx:Ctx} {nb:Nat} {bf:List Nat} {inl:Nat->List aO->St->Tree (aO×St)} {all:Array Oper}
def Rw(c:Array Oper)(G:List (Nat×Bool))(a:Act)(b:List (Nat×Oper)):Prop :=
 ∀g∈G,∃e,(c[g.1]?).bind (·.dst)=some e/\a.tmps[e]?=some (.bool g.2)/\nd e b=false
theorem Rw.wanted{G:List (Nat×Bool)}{b:List (Nat×Oper)}(h:Rw all G a b){o:Oper}{g:Nat×Bool}(c:o.guard=some g)(e:g∈G):Region.wanted o (yielded all a.tmps)=true:=by
 obtain⟨k,f,i,_⟩:=h g e;obtain⟨j,want⟩:=g;unfold Region.wanted;rw[c];simp only[yielded,f,FY,i];simp
def Fr(b:List (Nat×Oper))(a c:Act):Prop:=∀t,nd t b=false->c.tmps[t]?=a.tmps[t]?
theorem fC{a:Act}{d:Option Nat}{v:Value}{t:Nat}(h:d≠some t):(a.put d v).tmps[t]?=a.tmps[t]?:=by
 cases d with
 | none=>rfl
 | some k =>
   have:k≠t:=λe=>h (by rw[e]);simp[Act.put,Array.getElem?_setIfInBounds_ne this]
theorem xh{d i:Nat}{o:Oper}{r:List (Nat×Oper)}(h:nd d ((i,o)::r)=false):o.dst≠some d/\nd d r=false:=by
 simp only[nd,vl] at h;refine⟨λe=>?_,h.2⟩;rw[e] at h;simp at h
theorem Rx(t:Nat):∀(items:List (Nat×Oper)),(σ.undef items).slots t=bif nd t items then .undef else σ.slots t:=by
 intro items;induction items with
 | nil=>rfl
 | cons p r b =>
   obtain⟨i,o⟩:=p;simp only[St.undef,nd];cases hd:o.dst with
   | none=>simp only[St.ba,yN];exact b
   | some k =>
     simp only[St.ba,St.put];cases c:Nat.beq k t with
     | true=>obtain rfl:=eT c;simp
     | false =>
       have:Nat.beq t k=false:=iI (λe=>by subst e;simp at c);rw[this];simp only[iT,yN];exact b
theorem uh:∀(items:List (Nat×Oper)),(σ.undef items).mem=σ.mem:=by
 intro items;induction items with
 | nil=>rfl
 | cons p r b =>
   obtain⟨i,o⟩:=p;simp only[St.undef];cases o.dst<;>exact b
theorem cW.undef(h:cW B N γ σ a w){b:List (Nat×Oper)}{c:Act}(f:Fr b a c)(g:c.tmps.size=N)(i:c.defers=[]):cW B N γ (σ.undef b) c w where
 slots:=λt=>by
  rw[Rx,uh];cases j:nd t b with
  | true=>exact⟨_,rfl⟩
  | false =>
    have:=f t j;have e:c.tmps.getD t Go.undef=a.tmps.getD t Go.undef:=by simp only[TO,this]
    rw[e];exact h.slots t
 size:=g
 defers:=i
 ok:=by rw[uh];exact h.ok
theorem Dn{d:Option Nat}{k:Nat}(h:yielded all a.tmps k=none):yielded all (a.put d Go.undef).tmps k=none:=by
 unfold yielded at h⊢;cases f:(all[k]?).bind (·.dst) with
 | none=>rfl
 | some b =>
   rw[f] at h;simp only[FY] at h⊢;by_cases e:d=some b
   .subst e;simp only[Act.put];rw[Zq];simp only[ky];by_cases c:b<a.tmps.size
    .rw[aQ c];rfl
    .rw[aM c]
   .rw[fC e];exact h
theorem Dp{i:Nat}{o:Oper}(h:all[i]?=some o):yielded all (a.put o.dst Go.undef).tmps i=none:=by
 unfold yielded;rw[h];simp only[FY];cases hd:o.dst with
 | none=>rfl
 | some d =>
   simp only[FY,Act.put];rw[Zq];simp only[ky];by_cases b:d<a.tmps.size
   .rw[aQ b];rfl
   .rw[aM b]
theorem Uh{G:List (Nat×Bool)}{j F:Nat}{e c:Bool}{Q:Exit->Act->World->Prop}(V:(all[j]?).bind (·.dst)=some F)(H:c≠e) :
  ∀{items:List (Nat×Oper)} {l:List Oper} {inner:List Nat} {a:Act},qM all G items l->a.tmps[F]?=some (.bool c)->nd F (under j e inner items).1=false->(∀k∈inner,yielded all a.tmps k=none) ->
   ∃v y,l=v++y/\v.length=(under j e inner items).1.length/\∀f,(∀s,Fr (under j e inner items).1 a s->s.tmps.size=a.tmps.size->s.defers=a.defers->wpList P all Q f s w) ->
    wpList P all Q (v++f) a w:=by
 intro items l inner a h;induction h generalizing inner a with
 | nil=>intro _ _ _;exact⟨[],[],rfl,rfl,λf u=>u a (λt _=>rfl) rfl rfl⟩
 | @cons i o q r l W x h3 X =>
   intro T U z;have one:∀(I:Oper),I.dst=o.dst->Region.wanted o (yielded all a.tmps)=false->(under j e inner ((i,q)::r)).1=(i,I)::(under j e (i::inner) r).1 ->
     ∃v y,o::l=v++y/\v.length=(under j e inner ((i,q)::r)).1.length/\∀f,(∀s,Fr (under j e inner ((i,q)::r)).1 a s->s.tmps.size=a.tmps.size->s.defers=a.defers->wpList P all Q f s w) ->
     wpList P all Q (v++f) a w:=by
    intro I A Y C;rw[C] at U⊢;obtain⟨D,J⟩:=xh U;rw[A] at D;obtain⟨v,y,Z,e2,e3⟩:=X (inner:=i::inner) (a:=a.put o.dst Go.undef) (by rw[fC D];exact T) J (λk u=>by
     rcases fP.1 u with rfl|u
     .exact Dp W
     .exact Dn (z k u))
    refine⟨o::v,y,by rw[Z];rfl,by simp[e2],λf u=>?_⟩;show wpList P all Q (o::(v++f)) a w
    unfold wpList;rw[Y];simp only[Iu,pR];refine e3 f λs f1 f2 f3=>u s (λt ht=>?_) (f2.trans<|Q9 _ _ _) (f3.trans<|put_defers _ _ _);obtain⟨E,K⟩:=xh ht;rw[A] at E;rw[f1 t K,fC E]
   cases n:xV q.guard j e with
   | true =>
     have L:q=o:=by
      rcases x with x|⟨g,k1,k2,M⟩
      .exact x
      .rw[M] at n;cases n
     subst L;have m:q.guard=some (j,e):=by
      unfold xV at n;split at n
      .rename_i i' b' m;simp only[dv] at n;have h9:=eT n.1;have h8:b'=e:=by simpa using n.2
       rw[m,h9,h8]
      .cases n
     refine one { q with guard:=none } rfl ?_ (by simp only[under,n,eC]);unfold Region.wanted;rw[m];simp only[yielded,V,FY,T];cases c<;>cases e<;>first|rfl|exact absurd rfl H
   | false =>
     cases m:q.guard with
     | none =>
       have C:(under j e inner ((i,q)::r)).1=[]:=by
        rw[m] at n;simp only[under,m,n,iT]
       rw[C];exact⟨[],o::l,rfl,rfl,λf u=>u a (λt _=>rfl) rfl rfl⟩
     | some g =>
       obtain⟨k,b⟩:=g;rw[m] at n;cases O:inner.any (Nat.beq k) with
       | true =>
         have L:q=o:=by
          rcases x with x|⟨g,k1,k2,M⟩
          .exact x
          .rw[M] at m;cases m
         subst L;refine one q rfl ?_ (by simp only[under,m,n,O,iT,eC]);obtain⟨k',R,S⟩:=FZ.1 O;obtain rfl:=eT S;unfold Region.wanted;rw[m];simp only[z k R];rfl
       | false =>
         have C:(under j e inner ((i,q)::r)).1=[]:=by simp only[under,m,n,O,iT]
         rw[C];exact⟨[],o::l,rfl,rfl,λf u=>u a (λt _=>rfl) rfl rfl⟩
end
end Go.Ge
namespace Go.Ge
open RowKit
section
variable {P:Program} {B:qK} {N:Nat} {γ:Gh} {σ bb:St} {a:Act} {w w':World} {cx:Ctx} {nb:Nat} {bf:List Nat} {inl:Nat->List aO->St->Tree (aO×St)} {all:Array Oper}
theorem Jo(c:St)(b:List (Nat×Oper)):bo c (c.undef b):=bo.aat (uh b)
theorem Dq(g:∀f h σ v bb,(inl f h σ).run=some (v,bb)->bo σ bb):∀(n:Nat) (items:List (Nat×Oper)) (σ:St),au σ (pT cx nb bf inl all n items σ):=by
 intro n;induction n with
 | zero=>intro items σ;exact au.fail
 | succ n k =>
   intro items σ;cases items with
   | nil=>exact au.ret (bo.refl _)
   | cons p r =>
     obtain⟨i,o⟩:=p;unfold pT;split
     .exact au.bind λbG l y e=>(zF g bG l).trans (k _ _ y e)
     .rename_i j b D;dsimp only;split
      .exact au.fail
      .rename_i z A;split
       .rename_i c E F u m q;cases G:nd z (under j b [] ((i,o)::r)).1 with
        | true=>exact au.fail
        | false =>
          simp only[iT];split
          .exact au.fail
          .cases C:HO cx (under j b [] ((i,o)::r)).1 with
           | true =>
             simp only[eC];intro y e;obtain⟨cf,l,s⟩:=bind_some e;refine bo.trans ?_ (k _ _ y s);refine(au.node (σ:=σ) ?_ ?_) cf l
             .refine au.bind λτ t=>?_;split
              .exact au.ret ((k _ _ τ t).trans<|bo.ba _ _ _)
              .exact au.fail
             .split
              .exact au.ret ((Jo _ _).trans<|bo.ba _ _ _)
              .exact au.fail
           | false =>
             simp only[iT];split
             .intro y e;rw[Tree.zo] at e;obtain⟨x,l,s⟩:=Bc.1 e;exact((Jo _ _).trans<|bo.put _ _ _).trans (k _ _ y s)
             .exact au.fail
       .exact au.fail
theorem Wj{e:Nat->Option bF}{t:Ty}{v:aO}{x:t.den}{b:Value}(h:toD t v=some x)(f:cl γ e w v .val [b]){c:Nat->Option bF}:cl γ c w (.data t x) .val [b]:=by
 unfold toD at h;split at h
 .obtain⟨q,g⟩:=Ty.kz h;subst q;subst g;exact f
 .split at h
  .obtain rfl:=aI h;obtain rfl:b=_:=by simpa [cl] using f
   exact⟨[.slice none 0 0],.inl ⟨⟨none,rfl⟩,rfl⟩,rfl⟩
  .cases h
 .cases h
theorem qM.length{G:List (Nat×Bool)}{b:List (Nat×Oper)}{l:List Oper}(h:qM all G b l):b.length=l.length:=by
 induction h with
 | nil=>rfl
 | cons _ _ _ c=>simp[c]
theorem Ui{i:Oper}{j:Nat}{b:Bool}{v:aO}{K:Act->World->Prop}{Q:Exit->Act->World->Prop}(h:cW B N γ σ a w)(m:a.tmps[j]?=some (.bool b)){f:Bool}(n:b=f)
  (e:xW σ i j f=some v) (o:∀y,cl γ σ.mem w v .val [y]->K (a.put i.dst y) w):i.wp P a w K Q:=by
 unfold xW at e;split at e
 .rename_i c x y k;cases l:Nat.beq c j with
  | false=>rw[l] at e;cases e
  | true =>
    obtain rfl:=eT l;rw[l] at e;obtain rfl:=aI e;subst n;have q:a.eval (.tmp c)=.bool b:=by simp[Act.eval,m]
    unfold Oper.wp;have g:(execOp a.eval i).run P w=.ok (.value<|a.eval<|bif b then x else y) w:=by
     simp only[execOp,k,q];cases b<;>rfl
    rw[g];exact o _ (h.cD _)
 .cases e
theorem Rw.put{G:List (Nat×Bool)}{i:Nat}{o:Oper}{r:List (Nat×Oper)}(h:Rw all G a ((i,o)::r))(v:Value):Rw all G (a.put o.dst v) r:=by
 intro g b;obtain⟨c,e,f,j⟩:=h g b;obtain⟨k,l⟩:=xh j;exact⟨c,e,by rw[fC k];exact f,l⟩
theorem Uj{d j:Nat}{b:Bool}:∀{items:List (Nat×Oper)} {inner:List Nat},nd d items=(nd d (under j b inner items).1||nd d (under j b inner items).2):=by
 intro items;induction items with
 | nil=>intro inner;rfl
 | cons p r e =>
   obtain⟨i,o⟩:=p;intro inner;unfold under;cases f:xV o.guard j b with
   | true=>simp only[eC,nd,V9];rw[e (inner:=i::inner)]
   | false =>
     simp only[iT];have both:∀c:Bool,nd d ((i,o)::r)=(nd d (bif c then((i,o)::(under j b (i::inner) r).1,(under j b (i::inner) r).2) else([],(i,o)::r)).1 ||
       nd d (bif c then((i,o)::(under j b (i::inner) r).1,(under j b (i::inner) r).2) else([],(i,o)::r)).2):=by
      intro c;cases c with
      | true=>simp only[eC,nd,V9];rw[e (inner:=i::inner)]
      | false=>simp[nd]
     exact both _
theorem Uk{p:Option Nat->Prop}{j:Nat}{want:Bool}:∀{items:List (Nat×Oper)} {inner:List Nat},(∀i o,(i,o)∈items->p o.dst) ->
  (∀i o,(i,o)∈(under j want inner items).1->p o.dst)/\(∀i o,(i,o)∈(under j want inner items).2->p o.dst):=by
 intro items;induction items with
 | nil=>intro inner h;exact⟨h,h⟩
 | cons q r l =>
   obtain⟨e,f⟩:=q;intro inner h;have m:=h e f (mo ..);have n:∀i o,(i,o)∈r->p o.dst:=λi o b=>h i o (nX _ b);unfold under;cases s:xV f.guard j want with
   | true =>
     simp only[eC];obtain⟨g,k⟩:=l (inner:=e::inner) n;refine⟨λi o b=>?_,k⟩;rcases fP.1 b with b|b
     .obtain⟨_,rfl⟩:=br b;exact m
     .exact g i o b
   | false =>
     simp only[iT];have both:∀c:Bool,(∀i o,(i,o)∈(bif c then((e,f)::(under j want (e::inner) r).1,(under j want (e::inner) r).2) else([],(e,f)::r)).1->p o.dst) /\
       (∀i o,(i,o)∈(bif c then((e,f)::(under j want (e::inner) r).1,(under j want (e::inner) r).2) else([],(e,f)::r)).2->p o.dst):=by
      intro c;cases c with
      | true =>
        obtain⟨g,k⟩:=l (inner:=e::inner) n;refine⟨λi o b=>?_,k⟩;rcases fP.1 b with b|b
        .obtain⟨_,rfl⟩:=br b;exact m
        .exact g i o b
      | false=>exact⟨λi o b=>(by cases b),h⟩
     exact both _
theorem Gj{t:Nat}{b:Bool}(h:cW B N γ σ a w)(f:σ.slots t=.data .bool b):a.tmps[t]?=some (.bool b):=by
 have:=h.slots t;rw[f] at this;have e:=xZ this;rw[TO] at e;cases c:a.tmps[t]? with
 | none=>rw[c] at e;cases e
 | some y=>rw[c] at e;exact congrArg some e
theorem Ry{b:Type}{c want:Bool}{t e:Tree b}{y:b}(h:(Tree.node (bif want then c else nt c) t e).run=some y):(c=want/\t.run=some y)\/(c≠want/\c=(!want)/\e.run=some y):=by
 have:=fT h;cases c<;>cases want
 .exact .inl ⟨rfl,this⟩
 .exact .inr ⟨by simp,rfl,this⟩
 .exact .inr ⟨by simp,rfl,this⟩
 .exact .inl ⟨rfl,this⟩
theorem LG(hc:fo P cx)(XD:pA P B.G cx)(XC:vz P B.G inl)(afQ:∀f aew σ v bb,(inl f aew σ).run=some (v,bb)->bo σ bb){Q:Exit->Act->World->Prop} :
  ∀(n:Nat) {items:List (Nat×Oper)} {l rest:List Oper} {σ bb:St} {γ:Gh} {a:Act} {w:World} {G:List (Nat×Bool)},qM all G items l->Rw all G a items->(∀i o,(i,o)∈items->∀k,o.dst=some k->k<N) ->
   (pT cx nb bf inl all n items σ).run=some bb->cW B N γ σ a w ->
   (∀bQ a' w',cW B N bQ bb a' w'->Ext B γ σ.mem w bQ bb.mem w'->Fr items a a'->wpList P all Q rest a' w')->wpList P all Q (l++rest) a w:=by
 intro n;induction n with
 | zero=>intro items l rest σ bb γ a w G _ _ _ q;cases q
 | succ n ih =>
   intro items l rest σ bb γ a w G hit hG hd q h hK;cases hit with
   | nil =>
     obtain rfl:=aI q;exact hK γ a w h (Ext.refl _ _ _ _) (λt _=>rfl)
   | @cons i o o' r l h1 h2 h3 =>
     have M:o'.dst=o.dst:=by rcases h2 with rfl|⟨_,_,_,rfl⟩<;>rfl
     unfold pT at q;split at q
     .rename_i hg;obtain⟨bG,r1,r2⟩:=bind_some q;have hw:Region.wanted o (yielded all a.tmps)=true:=by
       rcases h2 with rfl|⟨g,k1,k2,k3⟩
       .unfold Region.wanted;rw[hg]
       .exact hG.wanted k1 k2
      have r1':(pS cx nb bf inl o σ).run=some bG:=by
       rcases h2 with rfl|⟨g,k1,k2,rfl⟩
       .exact r1
       .exact r1
      show wpList P all Q (o::(l++rest)) a w
      unfold wpList;rw[hw];simp only[ky];refine .inl (Jf hc XD XC h (λk O=>hd i o' (mo ..) k (by rw[M];exact O)) r1' λs v J R x1=>?_);have hG':=hG.put v;rw[M] at hG';refine ih h3 hG' (λi o hm=>hd i o (nX _ hm)) r2 R λS a2 w2 s2 x2 f2=>hK S a2 w2 s2 (x1.trans x2) λt ht=>?_;obtain⟨t1,Y⟩:=xh ht;rw[f2 t Y,fC (by rw[<-M];exact t1)]
     .rename_i j want hg;dsimp only at q;split at q
      .exact absurd q (by intro k;cases k)
      rename_i dj hdj;split at q
      case h_2=>exact absurd q (by intro k;cases k)
      rename_i c ip pk E afR aau;change Bool at c;cases hh:nd dj (under j want [] ((i,o')::r)).1 with
      | true=>rw[hh] at q;exact absurd q (by intro k;cases k)
      | false =>
      rw[hh] at q;simp only[iT] at q;split at q
      .exact absurd q (by intro k;cases k)
      rename_i hpg;have T:a.tmps[dj]?=some (.bool c):=Gj h afR;obtain⟨l1,l2,e1,I1,I2⟩:=Rv (j:=j) (want:=want) (inner:=[]) (qM.cons h1 h2 h3);obtain⟨d1,d2⟩:=Uk (p:=λd=>∀k,d=some k->k<N) (j:=j) (want:=want) (inner:=[]) hd;have U:∀d,nd d ((i,o')::r)=(nd d (under j want [] ((i,o')::r)).1||nd d (under j want [] ((i,o')::r)).2):=λd=>Uj;have afS:=λ(m:c≠want)=>Uh (P:=P) (w:=w) (Q:=Q) hdj m (qM.cons h1 h2 h3) T hh (λk O=>by cases O);generalize hg1:(under j want [] ((i,o')::r)).1=X at *;rw[aau] at I2 d2 U;cases I2 with
      | @cons _ u _ _ Z p1 p2 p3 =>
      have F:pk.dst=u.dst:=by rcases p2 with rfl|⟨_,_,_,rfl⟩<;>rfl
      have ahN:pk.op=u.op:=by rcases p2 with rfl|⟨_,_,_,rfl⟩<;>rfl
      rw[e1,kR];have A:∀{d},nd d ((i,o')::r)=false->nd d X=false/\u.dst≠some d/\nd d E=false:=by
       intro d Wk;rw[U] at Wk;simp only[vl] at Wk;obtain⟨q1,q2⟩:=xh Wk.2;exact⟨Wk.1,by rw[<-F];exact q1,q2⟩
      have tail:∀(s:Gh) (τ cf:St) (z:Act) (J:World) (v:aO) (b:Bool),cW B N s τ z J->Fr X a z->c=b->xW τ pk dj b=some v ->
        (∀y,cl s τ.mem J v .val [y]->∃S,cW B N S cf (z.put u.dst y) J/\Ext B γ σ.mem w S cf.mem J)->(pT cx nb bf inl all n E cf).run=some bb ->
        wpList P all Q (u::Z++rest) z J:=by
       intro s τ cf z J v b R D hcb C hy H;have hGp:Rw all G z ((ip,pk)::E):=λg V=>by
        obtain⟨dj',k1,k2,k3⟩:=hG g V;obtain⟨q1,q2,q3⟩:=A k3;refine⟨dj',k1,by rw[D dj' q1];exact k2,?_⟩;simp only[nd,vl];refine⟨?_,q3⟩;cases L:pk.dst with
        | none=>rfl
        | some k=>exact iI λe=>q2 (by rw[<-F,L,e])
       have hwp:Region.wanted u (yielded all z.tmps)=true:=by
        rcases p2 with rfl|⟨g,k1,k2,k3⟩
        .unfold Region.wanted;rw[hpg]
        .exact hGp.wanted k1 k2
       show wpList P all Q (u::(Z++rest)) z J
       unfold wpList;rw[hwp];simp only[ky];have ahO:xW τ u dj b=some v:=by rw[<-C];unfold xW;rw[ahN]
       refine .inl (Ui R (by rw[D dj hh];exact T) hcb ahO λy hyr=>?_);obtain⟨S,s2,x2⟩:=hy y hyr;have hGr:=hGp.put y;rw[F] at hGr;refine ih p3 hGr (λi o hm=>d2 i o (nX _ hm)) H s2 λγ3 a3 w3 s3 x3 f3=>hK γ3 a3 w3 s3 (x2.trans x3) λt ht=>?_;obtain⟨q1,q2,q3⟩:=A ht;rw[f3 t q3,fC q2,D t q1]
      have W:∀(τ:St) (d:Option Nat) (v:aO),(τ.ba d v).mem=τ.mem:=λτ d v=>by cases d<;>rfl
      have L:∀k,u.dst=some k->k<N:=λk O=>d2 ip pk (mo ..) k (by rw[F];exact O);have hG1:c=want->Rw all ((j,want)::G) a X:=λm g V=>by
       rcases fP.1 V with rfl|V
       .exact⟨dj,hdj,by rw[<-m];exact T,hh⟩
       .obtain⟨dj',k1,k2,k3⟩:=hG g V;exact⟨dj',k1,k2,(A k3).1⟩
      have gz:c≠want->(∀z,Fr X a z->z.tmps.size=a.tmps.size->z.defers=a.defers->wpList P all Q (u::Z++rest) z w)->wpList P all Q (l1++(u::Z++rest)) a w:=by
       intro m O;obtain⟨m1,m2,q1,q2,q3⟩:=afS m;rw[e1] at q1;obtain⟨rfl,rfl⟩:=List.append_inj q1 (by rw[q2,I1.length]);exact q3 _ O
      cases OM:HO cx X with
      | true =>
        rw[OM] at q;simp only[eC] at q;obtain⟨cf,I,H⟩:=bind_some q;rcases Ry (c:=c) (want:=want) I with ⟨m,I⟩|⟨m,hcn,I⟩
        .obtain⟨τ,t1,Y⟩:=bind_some I;split at Y
         .rename_i v C;obtain rfl:=aI Y;refine ih I1 (hG1 m) d1 t1 h λs z J R x1 D=>tail s τ _ z J v want R D m C (λy hy=>⟨s,?_,?_⟩) H
          .rw[F];exact R.uE L hy
          .rw[W];exact x1
         .exact absurd Y (by intro k;cases k)
        .split at I
         .rename_i v C;obtain rfl:=aI I;refine gz m λz D f2 f3=>tail γ (σ.undef X) _ z w v (!want) (h.undef D (f2.trans h.size)<|f3.trans h.defers) D hcn C (λy hy=>⟨γ,?_,?_⟩) H
          .rw[F];exact(h.undef D (f2.trans h.size)<|f3.trans h.defers).uE L hy
          .rw[W,uh];exact Ext.refl _ _ _ _
         .exact absurd I (by intro k;cases k)
      | false =>
        rw[OM] at q;simp only[iT] at q;split at q
        case h_2=>exact absurd q (by intro k;cases k)
        rename_i t dp hT hdp;rw[Tree.zo] at q;obtain⟨x,I,H⟩:=Bc.1 q;have K:u.dst=some dp:=by rw[<-F];exact hdp
        rcases Ry (c:=c) (want:=want) I with ⟨m,I⟩|⟨m,hcn,I⟩
        .obtain⟨τ,t1,Y⟩:=bind_some I;split at Y
         .rename_i x' C;obtain rfl:=aI Y;obtain⟨v,hv1,hv2⟩:=Bc.1 C;refine ih I1 (hG1 m) d1 t1 h.iw λs z J R x1 D=>tail s τ _ z J v want R D m hv1 (λy hy=>?_) H;obtain⟨m1,m2⟩:=h.ok.unlock (OY<|Dq afQ n X _ τ t1) R.ok x1;have hS:cW B N s σ a J:=h.go m2 m1;have hS2:=hS.undef D R.size R.defers;refine⟨s,?_,?_⟩
          .rw[K];exact hS2.uE (d:=some dp) (λk O=>L k (by rw[K];exact O)) (Wj hv2 hy)
          .show Ext B γ σ.mem w s (σ.undef X).mem J
           rw[uh];exact m2
         .exact absurd Y (by intro k;cases k)
        .split at I
         .rename_i x' C;obtain rfl:=aI I;obtain⟨v,hv1,hv2⟩:=Bc.1 C;refine gz m λz D f2 f3=>tail γ (σ.undef X) _ z w v (!want) (h.undef D (f2.trans h.size)<|f3.trans h.defers) D hcn hv1 (λy hy=>⟨γ,?_,?_⟩) H
          .rw[K];exact(h.undef D (f2.trans h.size)<|f3.trans h.defers).uE (d:=some dp) (λk O=>L k (by rw[K];exact O)) (Wj hv2 hy)
          .show Ext B γ σ.mem w γ (σ.undef X).mem w
           rw[uh];exact Ext.refl _ _ _ _
         .exact absurd I (by intro k;cases k)
end
end Go.Ge
namespace Go.Ge
open RowKit
section
variable {P:Program} {B:qK} {N:Nat} {γ:Gh} {σ bb:St} {a:Act} {w w':World} {cx:Ctx} {nb:Nat} {bf:List Nat} {inl:Nat->List aO->St->Tree (aO×St)} {ops:Array Oper}
theorem OZ:∀{l:List Oper} {k:Nat},(∀j,l[j]?=ops[k+j]?)->qM ops [] (number k l) l:=by
 intro l;induction l with
 | nil=>intro k _;exact .nil
 | cons o l b =>
   intro k h;refine .cons ?_ (.inl rfl) (b λj=>by have:=h (j+1);simpa [xP,Wa 1 j] using this);have:=h 0;simpa using this.symm
theorem Ul:∀{l:List Oper} {k i:Nat} {o:Oper},(i,o)∈number k l->o∈l:=by
 intro l;induction l with
 | nil=>intro k i o h;cases h
 | cons p l b =>
   intro k i o h;rcases fP.1 h with h|h
   .obtain⟨_,rfl⟩:=br h;exact mo ..
   .exact nX _ (b h)
theorem O0(q:fo P cx)(c:pA P B.G cx)(e:vz P B.G inl)(b:∀f m σ v bb,(inl f m σ).run=some (v,bb)->bo σ bb){Q:Exit->Act->World->Prop}{id:Nat}
  (r:∀o∈ops.toList,∀k,o.dst=some k->k<N) (t:(IH cx nb bf inl ops σ).run=some bb) (h:cW B N γ σ a w)
  (u:∀bQ n w',cW B N bQ bb n w'->Ext B γ σ.mem w bQ bb.mem w'->Fr (number 0 ops.toList) a n->Q .normal n w'):(Code.region id ops false).wp P Q a w:=by
 refine wp_region_list ?_;have:=LG (all:=ops) (Q:=Q) (rest:=[]) q c e b _ (OZ (l:=ops.toList) (k:=0) λj=>by simp) (λg y=>by cases y) (λi o z=>r o (Ul z)) t h
  (λbQ n w' s x f=>wpList_nil (u bQ n w' s x f))
 simpa using this
end
end Go.Ge
namespace Go.Ge
open RowKit
def iz(p:Nat->Prop)(e c:St):Prop:=∀b,c.mem b=e.mem b\/(c.mem b≠none/\p b)
section
variable {p:Nat->Prop} {σ τ ρ:St}
theorem iz.refl(σ:St):iz p σ σ:=λ_=>.inl rfl
theorem iz.aat(h:τ.mem=σ.mem):iz p σ τ:=λb=>.inl (by rw[h])
theorem iz.trans(h:iz p σ τ)(k:iz p τ ρ):iz p σ ρ:=λb=>by
 rcases k b with c|c
 .rcases h b with e|⟨e,f⟩
  .exact .inl (c.trans e)
  .exact .inr ⟨by rw[c];exact e,f⟩
 .exact .inr c
theorem iz.ba(b:St)(d:Option Nat)(v:aO):iz p b (b.ba d v):=by cases d<;>exact λ_=>.inl rfl
theorem iz.put(b:St)(d:Nat)(v:aO):iz p b (b.put d v):=λ_=>.inl rfl
theorem iz.b5{b:Nat}{bx:bF}(h:p b):iz p σ (σ.b5 b bx):=λc=>by
 by_cases e:c=b
 .subst e;exact .inr ⟨by simp[St.b5],h⟩
 .exact .inl (by rw[uF,aV _ e])
end
def aH(p:Nat->Prop)(b:St)(T:Tree St):Prop:=∀y,T.run=some y->iz p b y
section
variable {p:Nat->Prop} {σ:St}
theorem aH.fail:aH p σ .fail:=λy h=>by cases h
theorem aH.ret{b:St}(h:iz p σ b):aH p σ (.ret b):=λy c=>by obtain rfl:=aI c;exact h
theorem aH.bif{c:Bool}{t:Tree St}(h:aH p σ t):aH p σ (bif c then t else .fail):=λy b=>h y (aC b).2
theorem aH.need{c:Bool}{t:Tree St}(h:aH p σ t):aH p σ (.need c t):=λy b=>h y (cv b).2
theorem aH.look{T:Type}{o:Option T}{k:T->Tree St}(h:∀x,aH p σ (k x)):aH p σ (.look o k):=λy b=>by obtain⟨x,_,c⟩:=b4 b;exact h x y c
theorem aH.node{c:Bool}{t e:Tree St}(h:aH p σ t)(k:aH p σ e):aH p σ (.node c t e):=λy b=>by
 have:=fT b;cases c with
 | true=>exact h y this
 | false=>exact k y this
theorem aH.bind{α:Type}{t:Tree α}{f:α->Tree St}(h:∀x,t.run=some x->aH p σ (f x)):aH p σ (t.bind f):=λy b=>by obtain⟨x,c,e⟩:=bind_some b;exact h x c y e
theorem aH.aT{b:Nat}{c:aO}{tid:TypeId}{e:Bool}{d:Nat}{v:Nat->aO}(h:p b):aH p σ (σ.aT b c tid e λaP σ=>.ret (σ.put d<|v aP)):=λy f=>by
 obtain⟨aP,i,g⟩:=kp f;obtain rfl:=aI g;exact(iz.b5 h).trans (iz.put _ _ _)
theorem Jp{g e:St}{b:Nat}(j:∀b,g.mem b≠none->p b)(h:freeze g b=some e):iz p g e:=by
 unfold freeze at h;split at h
 .rename_i i k;cases c:i.ro with
  | true=>simp only[c,eC,sq] at h;rw[<-h];exact iz.refl _
  | false =>
    cases f:i.lk with
    | true=>simp[c,f] at h
    | false =>
      simp only[c,f,iT,sq] at h;rw[<-h];exact iz.b5 (j b<|by rw[k];simp)
 .cases h
def Hg(p:Nat->Prop)(e c:St):Prop:=(∀b,e.mem b≠none->p b)->iz p e c/\∀b,c.mem b≠none->p b
theorem Hg.refl(σ:St):Hg p σ σ:=λh=>⟨iz.refl _,h⟩
theorem Hg.trans{σ b c:St}(h:Hg p σ b)(k:Hg p b c):Hg p σ c:=λe=>by
 obtain⟨f,g⟩:=h e;obtain⟨i,j⟩:=k g;exact⟨f.trans i,j⟩
theorem Hg.of{e c:St}(h:(∀b,e.mem b≠none->p b)->iz p e c):Hg p e c:=λf=>by
 refine⟨h f,λb g=>?_⟩;rcases h f b with k|k
 .exact f b (by rw[<-k];exact g)
 .exact k.2
theorem Rz:∀{v:aO} {σ bb:St},gy σ v=some bb->Hg p σ bb:=by
 intro v;induction v with
 | mix p q c e =>
   intro σ bb h;obtain⟨bG,g,i⟩:=vx h;exact(c g).trans (e i)
 | whole b aP=>intro σ bb h;exact Hg.of λf=>Jp f h
 | part b aP lo n=>intro σ bb h;exact Hg.of λf=>Jp f h
 | _=>intro σ bb h;obtain rfl:=aI h;exact Hg.refl _
theorem xj{t:Ty}{x:t.den}{v:aO}{c b:St}(h:wW c t v=some (x,b)):Hg p c b:=by
 unfold wW at h;split at h
 .split at h
  .obtain⟨_,rfl⟩:=br (aI h);exact Hg.refl _
  .cases h
 .split at h
  .rename_i y bG f e;obtain⟨_,rfl⟩:=br (aI h);exact Rz e
  .cases h
theorem zG:∀{A:Ty} {x:A.den} {vs:List aO} {σ bb:St},kA σ A vs=some (x,bb)->Hg p σ bb:=by
 intro A;induction A with
 | pair t r e c =>
   intro x vs σ bb b;cases vs with
   | nil=>cases b
   | cons v vs =>
     simp only[kA] at b;split at b
     .rename_i p bG f;split at b
      .rename_i q cf g;obtain⟨_,rfl⟩:=br (aI b);exact(xj f).trans (c g)
      .cases b
     .cases b
 | unit =>
   intro x vs σ bb b;cases vs with
   | nil=>obtain⟨_,rfl⟩:=br (aI b);exact Hg.refl _
   | cons v vs=>cases b
 | _=>intro x vs σ bb b;cases vs<;>cases b
theorem Jq{t:Ty}:∀{parts:List (Nat×Operand)} {x b:t.den} {σ bb:St},gf σ t x parts=some (b,bb)->Hg p σ bb:=by
 intro parts;induction parts with
 | nil=>intro x b σ bb h;obtain⟨_,rfl⟩:=br (aI h);exact Hg.refl _
 | cons p r c =>
   obtain⟨k,o⟩:=p;intro x b σ bb h;simp only[gf] at h;split at h
   .split at h
    .rename_i e;split at h
     .exact(xj e).trans (c h)
     .cases h
    .cases h
   .cases h
theorem BF{e:Ty}:∀{parts:List (Nat×Operand)} {l c:List e.den} {σ bb:St},fR σ e l parts=some (c,bb)->Hg p σ bb:=by
 intro parts;induction parts with
 | nil=>intro x i σ bb h;obtain⟨_,rfl⟩:=br (aI h);exact Hg.refl _
 | cons p r f =>
   obtain⟨k,o⟩:=p;intro l c σ bb h;simp only[fR] at h;split at h
   .rename_i g;cases b:Nat.blt k l.length with
    | false=>rw[b] at h;cases h
    | true=>rw[b] at h;exact(xj g).trans (f h)
   .cases h
theorem Gk{b g:Nat}{q:List B9}{h:aO->Bool}{u:aO}{n e:St}(f:(storeAt b g q h u n).run=some e):Hg p n e:=Hg.of λr=>by
 unfold storeAt at f;split at f
 case h_2=>exact absurd f (by intro k;cases k)
 rename_i v s;obtain⟨x,i⟩:=aC f;obtain⟨t,y,j⟩:=bind_some i;obtain⟨o,l⟩:=aC j;obtain⟨c,z,m⟩:=bind_some l;obtain rfl:=aI m;exact iz.b5 (r b<|by rw[s];simp)
theorem RA{b g:Nat}{r:List B9}{n:Nat}{u:aO}{o e:St}(f:(rJ b g r n u o).run=some e):Hg p o e:=Hg.of λs=>by
 unfold rJ at f;split at f
 case h_2=>exact absurd f (by intro k;cases k)
 rename_i y t;obtain⟨z,h⟩:=aC f;obtain⟨v,A,i⟩:=bind_some h;obtain⟨q,j⟩:=aC i;obtain⟨c,C,l⟩:=bind_some j;obtain⟨x,m⟩:=aC l;obtain rfl:=aI m;exact iz.b5 (s b<|by rw[t];simp)
theorem LH{m:Ctx}{i:List Nat}{n:TypeId}{x y:aO}{g c:St}(f:(lr m i n x y g).run=some c):Hg p g c:=by
 unfold lr at f;split at f
 case h_2=>exact absurd f (by intro k;cases k)
 split at f
 case h_2=>exact absurd f (by intro k;cases k)
 obtain⟨j,h⟩:=aC f;obtain⟨o,s,e⟩:=bind_some h;split at e
 .rename_i u _;obtain⟨q,b⟩:=aC e;cases l:cP i 8000000&&Z4 u y with
  | true=>rw[l] at b;exact RA b
  | false =>
  rw[l] at b;replace b:(match wW g u y with|some (y,g)=>storeAt _ _ _ (Xo u) (.data u y) g|none=>.fail).run=some c:=b;split at b
  .rename_i r;exact(xj r).trans (Gk b)
  .exact absurd b (by intro k;cases k)
 .obtain⟨q,b⟩:=aC e;exact Gk b
theorem zH{j:Ctx}{i:Nat}{d:Option Nat}{m:TypeId}{s x:aO}{g f:St}(n:∀k,d=some k->p (i+k))(o:∀b,g.mem b≠none->p b)(c:(gY j i d m s x g).run=some f):iz p g f:=by
 unfold gY at c;split at c
 case h_2=>exact absurd c (by intro k;cases k)
 split at c
 case h_2=>exact absurd c (by intro k;cases k)
 split at c
 .obtain⟨q,e⟩:=cv c;exact aH.aT (n _ rfl) _ e
 .split at c
  case h_2=>exact absurd c (by intro k;cases k)
  rename_i u l r v;obtain⟨t,h⟩:=x6 c;obtain⟨q,e⟩:=cv h;obtain rfl:=aI e;exact(iz.b5<|o _<|by rw[r];simp).trans (iz.put _ _ _)
 .exact absurd c (by intro k;cases k)
theorem Jr{b:Nat}{f:aO}{g:TypeId}{i:Bool}{d:Nat}{v:Nat->aO}{e c:St}(h:p b)(k:(e.aT b f g i λj e=>.ret (e.put d<|v j)).run=some c):iz p e c:=aH.aT h _ k
theorem LI{i:Nat}{e:Ty}{d:Option Nat}{f:List aO}{h g:St}(j:∀k,d=some k->p (i+k))(l:∀b,h.mem b≠none->p b)(c:(lA i e d f h).run=some g):iz p h g:=by
 unfold lA at c;split at c
 case h_2=>cases c
 split at c
 case h_2=>cases c
 rename_i m;obtain⟨_,c⟩:=aC c;obtain⟨_,c⟩:=cv c;exact((xj m) l).1.trans (Jr (j _ rfl) c)
theorem LJ{h g:Nat}{d:Option Nat}{c:List aO}{i e:St}(j:∀k,d=some k->p (h+k))(b:(lB h g d c i).run=some e):iz p i e:=by
 unfold lB at b;split at b
 .cases b
 .cases b
 .exact Jr (v:=λf=>.fn g [(_,f)]) (j _ rfl) b
 .cases b
theorem RB{e A:Ty}{f:Bool}{g:List e.den->A.den->Option (List e.den)}{d:Option Nat}{h:List aO}{m i:St}(q:∀b,m.mem b≠none->p b)(c:(rK e A f g d h m).run=some i):iz p m i:=by
 unfold rK at c;split at c
 case h_2=>cases c
 split at c
 case h_2=>cases c
 rename_i x bG r;split at c
 case h_2=>cases c
 rename_i b s v l n;obtain⟨y,_,c⟩:=b4 c;obtain⟨t,_⟩:=sy n;obtain⟨o,u⟩:=(zG r) q;have key:∀j,iz p bG (bG.b5 b j):=λj=>iz.b5 (u b<|by rw[t];simp);cases f with
 | true =>
   cases d with
   | none=>cases c
   | some k=>obtain rfl:=aI c;exact(o.trans<|key _).trans (iz.put _ _ _)
 | false =>
   cases d with
   | none=>obtain⟨_,c⟩:=aC c;obtain rfl:=aI c;exact(o.trans<|key _).trans (iz.ba _ none _)
   | some k=>obtain⟨_,c⟩:=aC c;obtain rfl:=aI c;exact(o.trans<|key _).trans (iz.ba _ (some _) _)
end
section
variable {cx:Ctx} {nb:Nat} {bf:List Nat} {d:Option Nat} {σ:St} {p:Nat->Prop}
theorem O1{c a b:aO}:aH p σ (oc d c a b σ):=by unfold oc;(repeat' (first|exact aH.fail|exact aH.ret (iz.ba _ _ _)|exact aH.ret (iz.put _ _ _)|exact aH.aT (by assumption)|refine aH.bif ?_|refine aH.need ?_|refine aH.look λ_=>?_|refine aH.node ?_ ?_|refine aH.bind λ_ _=>?_|split))
theorem O2{b:TypeId}{a:aO}:aH p σ (kS cx d b a σ):=by unfold kS;(repeat' (first|exact aH.fail|exact aH.ret (iz.ba _ _ _)|exact aH.ret (iz.put _ _ _)|exact aH.aT (by assumption)|refine aH.bif ?_|refine aH.need ?_|refine aH.look λ_=>?_|refine aH.node ?_ ?_|refine aH.bind λ_ _=>?_|split))
theorem LK{b:TypeId}{x:aO}{c e:Option Operand}:aH p σ (lu cx d b x c e σ):=by unfold lu;(repeat' (first|exact aH.fail|exact aH.ret (iz.ba _ _ _)|exact aH.ret (iz.put _ _ _)|exact aH.aT (by assumption)|refine aH.bif ?_|refine aH.need ?_|refine aH.look λ_=>?_|refine aH.node ?_ ?_|refine aH.bind λ_ _=>?_|split))
theorem XE{b c:Nat}{i:Int}:∀{m k:Nat},aH p σ (IE d b c σ i m k):=by
 intro m;induction m with
 | zero=>intro k;exact aH.fail
 | succ m e=>intro k;exact aH.node (aH.ret<|iz.ba _ _ _) e
theorem vA{b:TypeId}{x:aO}{i:Int}:aH p σ (ek cx d b x i σ):=by
 unfold ek;split
 case h_6=>split
           .exact aH.bif XE
           .exact aH.fail
 all_goals (repeat' (first|exact aH.fail|exact aH.ret (iz.ba _ _ _)|exact aH.ret (iz.put _ _ _)|exact aH.aT (by assumption)|refine aH.bif ?_|refine aH.need ?_|refine aH.look λ_=>?_|refine aH.node ?_ ?_|refine aH.bind λ_ _=>?_|split))
theorem LL{b:TypeId}{x:aO}{i:Int}:aH p σ (lv cx d b x i σ):=by
 unfold lv;split
 .refine aH.bif ?_;split
  .exact aH.bif (aH.ret<|iz.ba _ _ _)
  .exact aH.fail
 .exact vA
theorem LM{b:TypeId}{x:aO}{i:Int}:aH p σ (lz cx d b x i σ):=by unfold lz;(repeat' (first|exact aH.fail|exact aH.ret (iz.ba _ _ _)|exact aH.ret (iz.put _ _ _)|exact aH.aT (by assumption)|refine aH.bif ?_|refine aH.need ?_|refine aH.look λ_=>?_|refine aH.node ?_ ?_|refine aH.bind λ_ _=>?_|split))
theorem Dr{s:TypeId}{x:aO}{k:Nat}:aH p σ (eQ cx d s x k σ):=by unfold eQ;(repeat' (first|exact aH.fail|exact aH.ret (iz.ba _ _ _)|exact aH.ret (iz.put _ _ _)|exact aH.aT (by assumption)|refine aH.bif ?_|refine aH.need ?_|refine aH.look λ_=>?_|refine aH.node ?_ ?_|refine aH.bind λ_ _=>?_|split))
theorem zI{b:TypeId}{v:aO}(c:∀k,d=some k->p (nb+k)):aH p σ (js cx nb bf d b v σ):=by
 unfold js;split
 ·(repeat' (first|exact aH.fail|exact aH.ret (iz.ba _ _ _)|exact aH.ret (iz.put _ _ _)|exact aH.aT (by assumption)|refine aH.bif ?_|refine aH.need ?_|refine aH.look λ_=>?_|refine aH.node ?_ ?_|refine aH.bind λ_ _=>?_|split))
 .split
  .rename_i k e _;cases cP bf k with
   | true=>exact aH.aT (c _ rfl)
   | false=>exact aH.ret (iz.put _ _ _)
  .exact aH.ret (iz.ba _ _ _)
 .exact aH.ret (iz.ba _ _ _)
theorem Hh{s t:TypeId}{x:aO}(b:∀k,d=some k->p (nb+k)):aH p σ (gI cx nb d s t x σ):=by
 unfold gI;split
 ·(repeat' (first|exact aH.fail|exact aH.ret (iz.ba _ _ _)|exact aH.ret (iz.put _ _ _)|exact aH.aT (by assumption)|refine aH.bif ?_|refine aH.need ?_|refine aH.look λ_=>?_|refine aH.node ?_ ?_|refine aH.bind λ_ _=>?_|split))
 ·(repeat' (first|exact aH.fail|exact aH.ret (iz.ba _ _ _)|exact aH.ret (iz.put _ _ _)|exact aH.aT (by assumption)|refine aH.bif ?_|refine aH.need ?_|refine aH.look λ_=>?_|refine aH.node ?_ ?_|refine aH.bind λ_ _=>?_|split))
 .split
  .exact aH.need (aH.aT<|b _ rfl)
  .exact aH.fail
 ·(repeat' (first|exact aH.fail|exact aH.ret (iz.ba _ _ _)|exact aH.ret (iz.put _ _ _)|exact aH.aT (by assumption)|refine aH.bif ?_|refine aH.need ?_|refine aH.look λ_=>?_|refine aH.node ?_ ?_|refine aH.bind λ_ _=>?_|split))
 ·(repeat' (first|exact aH.fail|exact aH.ret (iz.ba _ _ _)|exact aH.ret (iz.put _ _ _)|exact aH.aT (by assumption)|refine aH.bif ?_|refine aH.need ?_|refine aH.look λ_=>?_|refine aH.node ?_ ?_|refine aH.bind λ_ _=>?_|split))
theorem Nh{l:Nat->Option bF}:∀{o:OT} {v:aO} {u:o.den} {N M:List (Nat×Nat)},dE l o v=some (u,N,M)->∀b∈bq N M,l b≠none:=by
 intro o;induction o with
 | zl t =>
   intro v u N M h;unfold dE at h;split at h
   .cases h;intro b j;cases j
   .cases h
 | buf e r =>
   intro v u N M h;unfold dE at h;split at h
   case h_2=>cases h
   rename_i b k;split at h
   case h_2=>cases h
   rename_i g j;cases i:(Nat.beq g.aP k&&g.buf&&!g.lk&&!g.ro&&Nat.beq g.tid r&&Nat.blt 0 e.size) with
   | false=>rw[i] at h;cases h
   | true =>
     rw[i] at h;simp only[eC] at h;split at h
     case h_2=>cases h
     split at h
     case h_2=>cases h
     cases h;intro c f;have:c=b:=by simpa [bq] using f
     subst this;rw[j];simp
 | ref tid o A =>
   intro v u N M h;unfold dE at h;split at h
   case h_2=>cases h
   rename_i b k;split at h
   case h_2=>cases h
   rename_i g j;cases i:(Nat.beq g.aP k&&!g.buf&&!g.lk&&!g.ro&&Nat.beq g.tid tid) with
   | false=>rw[i] at h;cases h
   | true =>
     rw[i] at h;simp only[eC] at h;split at h
     case h_2=>cases h
     rename_i F C D E;cases h;intro c f;unfold bq at f;simp only[sX,zi,fP] at f;rcases f with rfl|f
     .rw[j];simp
     .exact A E c f
 | pair p q m n =>
   intro v u N M h;unfold dE at h;split at h
   case h_2=>cases h
   split at h
   case h_2=>cases h
   rename_i x C D y G H s z;cases h;intro c f;unfold bq at f;simp only[xO,pO] at f;rcases f with (f|f)|(f|f)
   .exact m s c (mZ _ f)
   .exact n z c (mZ _ f)
   .exact m s c (mY _ f)
   .exact n z c (mY _ f)
 | unit =>
   intro v u N M h;unfold dE at h;split at h
   case h_2=>cases h
   cases h;intro b j;cases j
theorem RC{i:St}:∀{ps:List Bool} {A:Ty} {U:OT} {vs:List aO} {x:A.den} {u:U.den} {N M:List (Nat×Nat)},fS i ps A U vs=some (x,u,N,M)->∀b∈bq N M,i.mem b≠none:=by
 intro ps;induction ps with
 | nil =>
   intro A U vs x u N M h;cases A<;>first|(cases h;done)|skip
   cases U<;>first|(cases h;done)|skip
   cases vs with
   | cons v r=>cases h
   | nil=>cases h;intro b k;cases k
 | cons q ps g =>
   intro A U vs x u N M h;cases q with
   | false =>
     cases A<;>first|(cases h;done)|skip
     cases vs with
     | nil=>cases h
     | cons v r =>
       simp only[fS] at h;split at h
       .rename_i f;cases h;exact g f
       .cases h
   | true =>
     cases U<;>first|(cases h;done)|skip
     rename_i o U;cases o<;>first|(cases h;done)|skip
     cases vs with
     | nil=>cases h
     | cons v r =>
       simp only[fS] at h;split at h
       .rename_i l m n s t y z j f;cases h;intro c e;unfold bq at e;simp only[xO,pO] at e;rcases e with (e|e)|(e|e)
        .exact Nh j c (mZ _ e)
        .exact g f c (mZ _ e)
        .exact Nh j c (mY _ e)
        .exact g f c (mY _ e)
       .cases h
theorem RD{c:List Bool}{A:Ty}{U:OT}{e:List aO}{x:A.den}{u y:U.den}{N M:List (Nat×Nat)}(h:fS σ c A U e=some (x,u,N,M))(f:∀b,σ.mem b≠none->p b):iz p σ (kB U y N M σ):=λb=>by
 rw[gJ];cases hv:iH U y N (M.map λp=>(p.1,p.2+1)) b with
 | none=>exact .inl rfl
 | some v=>exact .inr ⟨by simp,f b (RC h b (by have:=pe hv;rwa [uH] at this))⟩
theorem Um{o:Oper}{i:Option Nat}(T:od o σ=i)(I:cls cx i o≠3)(C:cls cx i o≠0->∀k,o.dst=some k->p (nb+k))(F:cls cx i o≠0->cls cx i o≠1->∀b,σ.mem b≠none->p b):aH p σ (pS cx nb bf zr o σ):=by
 unfold pS;split
 case h_1 x h=>exact zI (C<|by simp[cls,h])
 case h_2 x h=>exact zI (C<|by simp[cls,h])
 case h_3=>exact O1
 case h_4 e h =>
  split
  .rename_i k t R L;have h0:cls cx i o≠0:=by
    cases t<;>simp[cls,h,L]
   unfold uf;split
   .exact absurd (by simp[cls,h,L]) I
   .exact aH.aT (C h0 _<|by assumption)
  .rename_i L;split
   .rename_i J;exact absurd (by simp[cls,h,L,J]) I
   .rename_i J;exact aH.bif (aH.aT<|C (by simp[cls,h,L,J]) _<|by assumption)
  .exact aH.fail
 case h_5 e x h =>
  unfold CU;split
  .exact aH.fail
  .exact aH.fail
  .split
   .rename_i J;exact absurd (by simp[cls,h,J]) I
   .rename_i J;exact aH.aT (C (by simp[cls,h,J]) _<|by assumption)
  .exact aH.fail
 case h_6 t ps h =>
  have D:=F (by simp[cls,h]) (by simp[cls,h]);split
  .split
   .rename_i H;exact aH.ret ((Jq H D).1.trans<|iz.ba _ _ _)
   .exact aH.fail
  .split
   .rename_i H;exact aH.ret ((BF H D).1.trans<|iz.ba _ _ _)
   .exact aH.fail
  ·(repeat' (first|exact aH.fail|exact aH.ret (iz.ba _ _ _)|exact aH.ret (iz.put _ _ _)|exact aH.aT (by assumption)|refine aH.bif ?_|refine aH.need ?_|refine aH.look λ_=>?_|refine aH.node ?_ ?_|refine aH.bind λ_ _=>?_|split))
  .exact aH.fail
 case h_7 t n ps h =>
  have D:=F (by simp[cls,h]) (by simp[cls,h]);split
  .split
   .rename_i k O S;exact aH.aT (C (by simp[cls,h]) k (Cl O).1)
   .refine aH.bif ?_;split
    .rename_i H;exact aH.ret ((BF H D).1.trans<|iz.ba _ _ _)
    .exact aH.fail
  .unfold Az;split
   .exact aH.bif (aH.aT<|C (by simp[cls,h]) _<|by assumption)
   .exact aH.fail
  .exact aH.fail
 case h_8=>exact O2
 case h_9 t a x h =>
  have D:=F (by simp[cls,h]) (by simp[cls,h]);split
  .exact λy E=>(LH E D).1
  .exact aH.fail
 case h_10=>(repeat' (first|exact aH.fail|exact aH.ret (iz.ba _ _ _)|exact aH.ret (iz.put _ _ _)|exact aH.aT (by assumption)|refine aH.bif ?_|refine aH.need ?_|refine aH.look λ_=>?_|refine aH.node ?_ ?_|refine aH.bind λ_ _=>?_|split))
 case h_11=>(repeat' (first|exact aH.fail|exact aH.ret (iz.ba _ _ _)|exact aH.ret (iz.put _ _ _)|exact aH.aT (by assumption)|refine aH.bif ?_|refine aH.need ?_|refine aH.look λ_=>?_|refine aH.node ?_ ?_|refine aH.bind λ_ _=>?_|split))
 case h_12=>(repeat' (first|exact aH.fail|exact aH.ret (iz.ba _ _ _)|exact aH.ret (iz.put _ _ _)|exact aH.aT (by assumption)|refine aH.bif ?_|refine aH.need ?_|refine aH.look λ_=>?_|refine aH.node ?_ ?_|refine aH.bind λ_ _=>?_|split))
 case h_13 s t x h=>exact Hh (C<|by simp[cls,h])
 case h_14=>(repeat' (first|exact aH.fail|exact aH.ret (iz.ba _ _ _)|exact aH.ret (iz.put _ _ _)|exact aH.aT (by assumption)|refine aH.bif ?_|refine aH.need ?_|refine aH.look λ_=>?_|refine aH.node ?_ ?_|refine aH.bind λ_ _=>?_|split))
 case h_15=>exact LK
 case h_16=>exact Dr
 case h_17=>(repeat' (first|exact aH.fail|exact aH.ret (iz.ba _ _ _)|exact aH.ret (iz.put _ _ _)|exact aH.aT (by assumption)|refine aH.bif ?_|refine aH.need ?_|refine aH.look λ_=>?_|refine aH.node ?_ ?_|refine aH.bind λ_ _=>?_|split))
 case h_18=>split
            .cases cP bf 5000000 with
             | true=>exact LL
             | false=>exact vA
            .exact aH.fail
 case h_19=>split
            .exact LM
            .exact aH.fail
 case h_20 t l c h =>
  split
  .exact aH.need (aH.need<|aH.aT<|C (by simp[cls,h]) _<|by assumption)
  .exact aH.fail
 case h_21=>(repeat' (first|exact aH.fail|exact aH.ret (iz.ba _ _ _)|exact aH.ret (iz.put _ _ _)|exact aH.aT (by assumption)|refine aH.bif ?_|refine aH.need ?_|refine aH.look λ_=>?_|refine aH.node ?_ ?_|refine aH.bind λ_ _=>?_|split))
 case h_22 c h =>
  unfold uz;split
  .rename_i b H;split
   ·(repeat' (first|exact aH.fail|exact aH.ret (iz.ba _ _ _)|exact aH.ret (iz.put _ _ _)|exact aH.aT (by assumption)|refine aH.bif ?_|refine aH.need ?_|refine aH.look λ_=>?_|refine aH.node ?_ ?_|refine aH.bind λ_ _=>?_|split))
   .have m:cls cx i o≠0:=by simp[cls,h,H]
    have z:cls cx i o≠1:=by simp[cls,h,H]
    split
    .exact λy E=>zH (C m) (F m z) E
    .exact λy E=>zH (C m) (F m z) E
    .exact aH.fail
   .exact absurd (by simp[cls,h,H]) I
   .exact absurd (by simp[cls,h,H]) I
   ·(repeat' (first|exact aH.fail|exact aH.ret (iz.ba _ _ _)|exact aH.ret (iz.put _ _ _)|exact aH.aT (by assumption)|refine aH.bif ?_|refine aH.need ?_|refine aH.look λ_=>?_|refine aH.node ?_ ?_|refine aH.bind λ_ _=>?_|split))
   ·(repeat' (first|exact aH.fail|exact aH.ret (iz.ba _ _ _)|exact aH.ret (iz.put _ _ _)|exact aH.aT (by assumption)|refine aH.bif ?_|refine aH.need ?_|refine aH.look λ_=>?_|refine aH.node ?_ ?_|refine aH.bind λ_ _=>?_|split))
   .exact aH.fail
  .rename_i f G;split
   .rename_i g W U;refine aH.bif ?_;have q:i=some g:=by rw[<-T];simp[od,h,G,U]
    unfold tH;split
    .rename_i e Q;have key:cls cx i o=2:=by simp[cls,h,G,q,pB Q]
     have m:cls cx i o≠0:=by rw[key];simp
     have z:cls cx i o≠1:=by rw[key];simp
     exact λy E=>LI (C m) (F m z) E
    .rename_i e A r s Q;have key:cls cx i o=2:=by simp[cls,h,G,q,pB Q]
     have m:cls cx i o≠0:=by rw[key];simp
     have z:cls cx i o≠1:=by rw[key];simp
     exact λy E=>RB (F m z) E
    .rename_i g' Q;have key:cls cx i o=2:=by simp[cls,h,G,q,pB Q]
     have m:cls cx i o≠0:=by rw[key];simp
     exact λy E=>LJ (C m) E
    rename_i X Y Z;unfold wk;split
    .rename_i Zl j;split
     .split
      .exact aH.look λ_=>aH.ret (iz.ba _ _ _)
      .exact aH.fail
     .rename_i V;have key:cls cx i o=2:=by
       unfold cls;simp only[h,G,q];split
       .rfl
       .rfl
       .rfl
       .simp[j,V]
      have m:cls cx i o≠0:=by rw[key];simp
      have z:cls cx i o≠1:=by rw[key];simp
      split
      .rename_i K;exact aH.look λ_=>aH.ret ((zG K<|F m z).1.trans<|iz.ba _ _ _)
      .exact aH.fail
    .rename_i j;split
     .rename_i s v;unfold Ay;split
      .exact absurd (by simp[cls,h,G,q,j,v]) I
      .exact absurd (by simp[cls,h,G,q,j,v]) I
      .exact aH.fail
     .rename_i v;split
      .rename_i k R;have key:cls cx i o=2:=by simp[cls,h,G,q,j,v,R]
       have m:cls cx i o≠0:=by rw[key];simp
       have z:cls cx i o≠1:=by rw[key];simp
       split
       .rename_i x u N M K;exact aH.bif (aH.look λy=>aH.ret ((RD K<|F m z).trans<|iz.ba _ _ _))
       .exact λy E=>by cases E
      .rename_i R;exact absurd (by simp[cls,h,G,q,j,v,R]) I
   .exact aH.fail
  .rename_i r name G;have key:cls cx i o=2:=by simp[cls,h,G]
   have m:cls cx i o≠0:=by rw[key];simp
   have z:cls cx i o≠1:=by rw[key];simp
   unfold rj;split
   .split
    .rename_i K;exact aH.look λ_=>aH.ret ((zG K<|F m z).1.trans<|iz.ba _ _ _)
    .exact aH.fail
   .exact aH.fail
 case h_23 u x h =>
  have key:cls cx i o=2:=by simp[cls,h]
  have m:cls cx i o≠0:=by rw[key];simp
  have z:cls cx i o≠1:=by rw[key];simp
  unfold ri;split
  .split
   .split
    .rename_i K;exact aH.ret ((xj K<|F m z).1.trans<|iz.ba _ _ _)
    .exact aH.fail
   .exact aH.fail
  .exact aH.fail
 case h_24=>exact aH.fail
end
end Go.Ge
namespace Go.Ge
open RowKit
def Le(c e:St):Prop:=∀b f,c.mem b=some f->e.mem b=some f
structure Rel (bG cf ui sz:St):Prop where
 s1:ui.slots=bG.slots
 s2:sz.slots=cf.slots
 m:∀b,sz.mem b=match ui.mem b with|some x=>some x|none=>cf.mem b
 nv:∀b,ui.mem b=none->bG.mem b=none
section
variable {bG cf ui sz ρ1 ρ2:St}
theorem Rel.refl(h:Le bG cf):Rel bG cf bG cf where
 s1:=rfl
 s2:=rfl
 m:=λb=>by
  cases c:bG.mem b with
  | none=>rfl
  | some x=>exact h b x c
 nv:=λ_ h=>h
theorem Rel.le(h:Rel bG cf ui sz):Le ui sz:=λb bx c=>by rw[h.m,c]
theorem Rel.trans(h:Rel bG cf ui sz)(k:Rel ui sz ρ1 ρ2):Rel bG cf ρ1 ρ2 where
 s1:=k.s1.trans h.s1
 s2:=k.s2.trans h.s2
 m:=λb=>by
  rw[k.m b];cases c:ρ1.mem b with
  | some x=>rfl
  | none=>simp only;rw[h.m b,k.nv b c]
 nv:=λb c=>h.nv b (k.nv b c)
theorem Rel.b5(f:Le bG cf){b:Nat}{bx:bF}:Rel bG cf (bG.b5 b bx) (cf.b5 b bx) where
 s1:=rfl
 s2:=rfl
 m:=λc=>by
  by_cases e:c=b
  .subst e;simp[St.b5]
  .rw[uF,uF,aV _ e,aV _ e];exact(Rel.refl f).m c
 nv:=λc g=>by
  by_cases e:c=b
  .subst e;simp[St.b5] at g
  .rw[uF,aV _ e] at g;exact g
theorem AF{b c:St}(h:c.slots=b.slots)(x:Operand):cD c x=cD b x:=by
 cases x<;>simp[cD,h]
theorem AG(h:Le bG cf){e:Ty}{v:aO}{l:List e.den}(c:gd e bG v=some l):gd e cf v=some l:=by
 unfold gd at c⊢;cases v with
 | whole b aP =>
   simp only at c⊢;cases f:bG.mem b with
   | none=>rw[f] at c;cases c
   | some g=>rw[f] at c;rw[h b g f];exact c
 | part b aP lo n =>
   simp only at c⊢;cases f:bG.mem b with
   | none=>rw[f] at c;cases c
   | some g=>rw[f] at c;rw[h b g f];exact c
 | data u y=>cases u<;>exact c
 | _=>exact c
theorem Wl(h:Le bG cf):∀{t:Ty} {v:aO} {x:t.den},qJ bG t v=some x->qJ cf t v=some x:=by
 intro t;induction t with
 | slice e l=>intro v x c;exact AG h c
 | pair a b f g =>
   intro v x c;cases v with
   | mix p q =>
     obtain⟨y,z,i,j,rfl⟩:=Dd c;exact M7 (f i) (g j)
   | data u y=>exact c
   | _=>cases c
 | alt u a r f k =>
   intro v x c;cases v with
   | ss=>exact(pz c).2.1 _
   | _=>exact c
 | _=>intro v x c;cases v<;>exact c
theorem p8(h:Le bG cf){b c:Nat}(e:live bG b c=true):live cf b c=true:=by
 unfold live at e⊢;cases f:bG.mem b with
 | none=>rw[f] at e;cases e
 | some g=>rw[f] at e;rw[h b g f];exact e
theorem aav(h:Le bG cf){v:aO}{n:Int}(c:lenOf bG v=some n):lenOf cf v=some n:=by
 unfold lenOf at c⊢;cases v with
 | whole b aP =>
   simp only at c⊢;cases e:bG.mem b with
   | none=>rw[e] at c;cases c
   | some f=>rw[e] at c;rw[h b f e];exact c
 | part b aP lo g =>
   simp only at c⊢;cases hv:live bG b aP with
   | false=>rw[hv] at c;cases c
   | true=>rw[hv] at c;rw[p8 h hv];exact c
 | data u y=>cases u<;>exact c
 | _=>exact c
theorem XF(h:Le bG cf){e:Ty}{v:aO}{l:List e.den}(b:ux e bG v=some l):ux e cf v=some l:=by
 unfold ux at b⊢;split at b
 .exact b
 .exact AG h b
theorem Js(h:Le bG cf){b c:Nat}{r:Ty×Int}(e:xS bG b c=some r):xS cf b c=some r:=by
 unfold xS at e⊢;cases f:bG.mem b with
 | none=>rw[f] at e;cases e
 | some g=>rw[f] at e;rw[h b g f];exact e
theorem Ni(h:Le bG cf){b:Nat}(c:freeze bG b=some ui):∃sz,freeze cf b=some sz/\Rel bG cf ui sz:=by
 unfold freeze at c⊢;cases g:bG.mem b with
 | none=>rw[g] at c;cases c
 | some i =>
   rw[g] at c;rw[h b i g];simp only at c⊢;cases e:i.ro with
   | true =>
     simp only[e,eC,sq] at c⊢;subst c;exact⟨_,rfl,Rel.refl h⟩
   | false =>
     cases f:i.lk with
     | true=>simp[e,f] at c
     | false =>
       simp only[e,f,iT,sq] at c⊢;subst c;exact⟨_,rfl,Rel.b5 h⟩
theorem Un:∀{v:aO} {bG cf ui:St},Le bG cf->gy bG v=some ui->∃sz,gy cf v=some sz/\Rel bG cf ui sz:=by
 intro v;induction v with
 | mix p q e f =>
   intro bG cf ui h c;obtain⟨ρ1,i,j⟩:=vx c;obtain⟨ρ2,k,g⟩:=e h i;obtain⟨sz,l,m⟩:=f g.le j;exact⟨sz,by simp only[gy,k,l],g.trans m⟩
 | whole b aP=>intro bG cf ui h c;exact Ni h c
 | part b aP lo n=>intro bG cf ui h c;exact Ni h c
 | _=>intro bG cf ui h c;obtain rfl:=aI c;exact⟨_,rfl,Rel.refl h⟩
theorem AH(h:Le bG cf){t:Ty}{x:t.den}{v:aO}(b:wW bG t v=some (x,ui)):∃sz,wW cf t v=some (x,sz)/\Rel bG cf ui sz:=by
 unfold wW at b⊢;cases v with
 | data u y =>
   simp only at b⊢;split at b
   .rename_i z i;obtain⟨rfl,rfl⟩:=br (aI b);exact⟨_,rfl,Rel.refl h⟩
   .cases b
 | _ =>
   simp only at b⊢;split at b
   .rename_i y ρ1 c e;obtain⟨rfl,rfl⟩:=br (aI b);obtain⟨sz,f,g⟩:=Un h e;rw[Wl h c,f];exact⟨sz,rfl,g⟩
   .cases b
theorem Cn:∀{A:Ty} {x:A.den} {vs:List aO} {bG cf ui:St},Le bG cf->kA bG A vs=some (x,ui)->∃sz,kA cf A vs=some (x,sz)/\Rel bG cf ui sz:=by
 intro A;induction A with
 | pair t r g c =>
   intro x vs bG cf ui h b;cases vs with
   | nil=>cases b
   | cons v vs =>
     simp only[kA] at b⊢;split at b
     .rename_i p ρ1 i;obtain⟨ρ2,j,e⟩:=AH h i;split at b
      .rename_i q f k;obtain⟨rfl,rfl⟩:=br (aI b);obtain⟨sz,l,m⟩:=c e.le k;exact⟨sz,by simp only[j,l],e.trans m⟩
      .cases b
     .cases b
 | unit =>
   intro x vs bG cf ui h b;cases vs with
   | nil=>obtain⟨rfl,rfl⟩:=br (aI b);exact⟨_,rfl,Rel.refl h⟩
   | cons v vs=>cases b
 | _=>intro x vs bG cf ui h b;cases vs<;>cases b
theorem LN{t:Ty}:∀{parts:List (Nat×Operand)} {x e:t.den} {bG cf ui:St},Le bG cf->(∀o∈parts.map (·.2),cD bG o=cD cf o)->gf bG t x parts=some (e,ui) ->
  ∃sz,gf cf t x parts=some (e,sz)/\Rel bG cf ui sz:=by
 intro parts;induction parts with
 | nil=>intro x e bG cf ui h g b;obtain⟨rfl,rfl⟩:=br (aI b);exact⟨_,rfl,Rel.refl h⟩
 | cons p r j =>
   obtain⟨k,o⟩:=p;intro x e bG cf ui h g b;have l:cD bG o=cD cf o:=g o (by simp);simp only[gf] at b⊢;split at b
   .rename_i u A;split at b
    .rename_i y ρ1 i;rw[l] at i;obtain⟨ρ2,m,f⟩:=AH h i;split at b
     .rename_i z n;obtain⟨sz,q,s⟩:=j f.le (λv c=>by rw[AF f.s1,AF f.s2];exact g v (by simp at c⊢;exact .inr c)) b;exact⟨sz,by simp only[m,n,q],f.trans s⟩
     .cases b
    .cases b
   .cases b
theorem Ds{e:Ty}:∀{parts:List (Nat×Operand)} {l i:List e.den} {bG cf ui:St},Le bG cf->(∀o∈parts.map (·.2),cD bG o=cD cf o)->fR bG e l parts=some (i,ui) ->
  ∃sz,fR cf e l parts=some (i,sz)/\Rel bG cf ui sz:=by
 intro parts;induction parts with
 | nil=>intro x z bG cf ui h j b;obtain⟨rfl,rfl⟩:=br (aI b);exact⟨_,rfl,Rel.refl h⟩
 | cons p r n =>
   obtain⟨k,o⟩:=p;intro l i bG cf ui h j b;have q:cD bG o=cD cf o:=j o (by simp);simp only[fR] at b⊢;split at b
   .rename_i y ρ1 m;rw[q] at m;obtain⟨ρ2,s,g⟩:=AH h m;cases c:Nat.blt k l.length with
    | false=>rw[c] at b;cases b
    | true =>
      rw[c] at b;obtain⟨sz,t,u⟩:=n g.le (λv f=>by rw[AF g.s1,AF g.s2];exact j v (by simp at f⊢;exact .inr f)) b;exact⟨sz,by simp only[s,eC,t],g.trans u⟩
   .cases b
def lift(c:St)(d:Option Nat)(y:St):St :=
 { slots:=match d with|some d=>λt=>bif Nat.beq t d then y.slots d else c.slots t|none=>c.slots
   mem:=λb=>match y.mem b with|some x=>some x|none=>c.mem b }
theorem XG(R:Rel bG cf ui sz)(d:Option Nat)(v:aO):lift cf d (ui.ba d v)=sz.ba d v:=by
 have c:(λb=>match ui.mem b with|some x=>some x|none=>cf.mem b)=sz.mem:=funext λb=>(R.m b).symm;cases d with
 | none=>simp only[lift,St.ba,c,<-R.s2]
 | some d =>
   simp only[lift,St.ba,St.put,c,<-R.s2]
   congr 1
   funext t;cases e:Nat.beq t d with
   | true=>simp
   | false=>simp
def LT(b:St)(d:Option Nat)(c e:Tree St):Prop:=∀y,c.run=some y->e.run=some (lift b d y)
variable {d:Option Nat}
theorem LT.fail{T:Tree St}:LT cf d .fail T:=λy h=>by cases h
theorem LT.ret(R:Rel bG cf ui sz){v:aO}:LT cf d (.ret<|ui.ba d v) (.ret<|sz.ba d v):=λy h=>by
 obtain rfl:=aI h;rw[XG R];rfl
theorem LT.Uo(R:Rel bG cf ui sz){k:Nat}{v:aO}:LT cf (some k) (.ret<|ui.put k v) (.ret<|sz.put k v):=LT.ret (d:=some k) R
theorem LT.store(R:Rel bG cf ui sz):LT cf none (.ret ui) (.ret sz):=LT.ret (d:=none) (v:=.undef) R
theorem LT.bif{c:Bool}{t u:Tree St}(h:LT cf d t u):LT cf d (bif c then t else .fail) (bif c then u else .fail):=by cases c<;>first|exact LT.fail|exact h
theorem LT.RE{c b:Bool}{t u:Tree St}(e:c=true->b=true)(h:LT cf d t u):LT cf d (bif c then t else .fail) (bif b then u else .fail):=by
 cases c with
 | false=>exact LT.fail
 | true=>rw[e rfl];exact h
theorem LT.need{c:Bool}{t u:Tree St}(h:LT cf d t u):LT cf d (.need c t) (.need c u):=λy b=>by
 obtain⟨rfl,e⟩:=cv b;exact h y e
theorem LT.look{T:Type}{o:Option T}{k b:T->Tree St}(h:∀x,LT cf d (k x) (b x)):LT cf d (.look o k) (.look o b):=λy c=>by
 obtain⟨x,rfl,e⟩:=b4 c;exact h x y e
theorem LT.node{c:Bool}{t e b f:Tree St}(h:LT cf d t b)(k:LT cf d e f):LT cf d (.node c t e) (.node c b f):=λy g=>by
 have:=fT g;cases c with
 | true=>exact h y this
 | false=>exact k y this
theorem LT.bind{α:Type}{t:Tree α}{f g:α->Tree St}(h:∀x,t.run=some x->LT cf d (f x) (g x)):LT cf d (t.bind f) (t.bind g):=λy c=>by
 obtain⟨x,b,e⟩:=bind_some c;rw[Tree.run_bind,b];exact h x b y e
theorem LT.aT(c:Le bG cf){k:Nat}{b:Nat}(g:bG.mem b=cf.mem b){e:aO}{tid:TypeId}{f:Bool}{v:Nat->aO} :
  LT cf (some k) (bG.aT b e tid f λaP σ=>.ret (σ.put k<|v aP)) (cf.aT b e tid f λaP σ=>.ret (σ.put k<|v aP)):=by
 unfold St.aT;rw[<-g];cases h:bG.mem b with
 | none=>exact LT.Uo (Rel.b5 c)
 | some bx =>
   simp only;cases bx.lk with
   | true=>exact LT.fail
   | false=>exact LT.Uo (Rel.b5 c)
theorem LT.mem(c:Le bG cf){b:Nat}{f g:Option bF->Tree St}(i:f none=.fail)(h:∀bx,bG.mem b=some bx->LT cf d (f<|some bx) (g<|some bx)):LT cf d (f<|bG.mem b) (g<|cf.mem b):=by
 cases e:bG.mem b with
 | none=>rw[i];exact LT.fail
 | some bx=>rw[c b bx e];exact h bx e
end
end Go.Ge
