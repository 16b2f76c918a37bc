/- A ghost interpreter of the model's code, and that it tells the truth: part 7. It says of a function of plain data what a call of it comes to. -/
import Derived.Test.YtpmecibilnjeiaaGreatDoorGeF
import Derived.Tactics
set_option linter.unusedVariables false
set_option linter.unusedSimpArgs false
set_option linter.unusedSectionVars false
namespace Go.Ge
open RowKit
def bj(σ c:St):Prop:=∀b e,σ.mem b=some e->e.lk=true->c.mem b=some e
theorem bj.refl(σ:St):bj σ σ:=λ_ _ h _=>h
theorem bj.trans{σ e c:St}(h:bj σ e)(k:bj e c):bj σ c:=λb bx g f=>k b bx (h b bx g f) f
theorem bj.put(b:St)(d:Nat)(v:aL):bj b (b.put d v):=λ_ _ h _=>h
theorem bj.aW(b:St)(d:Option Nat)(v:aL):bj b (b.aW d v):=by cases d<;>exact λ_ _ h _=>h
theorem bj.ZP{e c:St}(h:c.mem=e.mem):bj e c:=λb g f _=>by rw[h];exact f
theorem jn{g:St}{b:Nat}{k:bB}(h:∀f,g.mem b=some f->f.lk=false):bj g (g.b4 b k):=λc cx i j=>by
 by_cases e:c=b
 .subst e;rw[h cx i] at j;cases j
 .rw[uv,aS _ e];exact i
theorem kI{j:Type}{e:St}{b:Nat}{val:aL}{tid:TypeId}{buf:Bool}{k:Nat->St->Tree j}{y:j}(h:(e.aQ b val tid buf k).run=some y) :
  ∃aM,bj e (e.b4 b { val,tid,buf,ro:=false,lk:=false,aM })/\(k aM<|e.b4 b { val,tid,buf,ro:=false,lk:=false,aM }).run=some y:=by
 unfold St.aQ at h;split at h
 .rename_i l f;cases g:l.lk with
  | true=>rw[g] at h;cases h
  | false =>
    rw[g] at h;exact⟨l.aM+1,jn (λi c=>by rw[f] at c;obtain rfl:=aG c;exact g),h⟩
 .rename_i f;exact⟨0,jn (λi c=>by rw[f] at c;cases c),h⟩
theorem Gb{g f:St}{b:Nat}(h:freeze g b=some f):bj g f:=by
 unfold freeze at h;split at h
 .rename_i i k;cases c:i.ro with
  | true=>simp only[c,ev,sa] at h;rw[<-h];exact bj.refl _
  | false =>
    cases e:i.lk with
    | true=>simp[c,e] at h
    | false =>
      simp only[c,e,iU,sa] at h;rw[<-h];exact jn λl j=>by rw[k] at j;obtain rfl:=aG j;exact e
 .cases h
theorem OO:∀{v:aL} {σ bb:St},gL σ v=some bb->bj σ bb:=by
 intro v;induction v with
 | mix p q c e =>
   intro σ bb h;obtain⟨bC,f,g⟩:=vm h;exact(c f).trans (e g)
 | whole b aM=>intro σ bb h;exact Gb h
 | part b aM lo n=>intro σ bb h;exact Gb h
 | _=>intro σ bb h;obtain rfl:=aG h;exact bj.refl _
theorem pE{t:Ty}{x:t.den}{v:aL}{c b:St}(h:wQ c t v=some (x,b)):bj c b:=by
 unfold wQ at h;split at h
 .split at h
  .obtain⟨_,rfl⟩:=bk (aG h);exact bj.refl _
  .cases h
 .split at h
  .rename_i y bC f e;obtain⟨_,rfl⟩:=bk (aG h);exact OO e
  .cases h
theorem p9:∀{A:Ty} {x:A.den} {vs:List aL} {σ bb:St},kS σ A vs=some (x,bb)->bj σ bb:=by
 intro A;induction A with
 | pair t r e c =>
   intro x vs σ bb b;cases vs with
   | nil=>cases b
   | cons v vs =>
     simp only[kS] at b;split at b
     .rename_i p bC f;split at b
      .rename_i q cc g;obtain⟨_,rfl⟩:=bk (aG b);exact(pE f).trans (c g)
      .cases b
     .cases b
 | unit =>
   intro x vs σ bb b;cases vs with
   | nil=>obtain⟨_,rfl⟩:=bk (aG b);exact bj.refl _
   | cons v vs=>cases b
 | _=>intro x vs σ bb b;cases vs<;>cases b
theorem G6{t:Ty}:∀{parts:List (Nat×Operand)} {x b:t.den} {σ bb:St},gr σ t x parts=some (b,bb)->bj σ bb:=by
 intro parts;induction parts with
 | nil=>intro x b σ bb h;obtain⟨_,rfl⟩:=bk (aG h);exact bj.refl _
 | cons p r c =>
   obtain⟨k,o⟩:=p;intro x b σ bb h;simp only[gr] at h;split at h
   .split at h
    .rename_i e;split at h
     .exact(pE e).trans (c h)
     .cases h
    .cases h
   .cases h
theorem uA{e:Ty}:∀{parts:List (Nat×Operand)} {l c:List e.den} {σ bb:St},fm σ e l parts=some (c,bb)->bj σ bb:=by
 intro parts;induction parts with
 | nil=>intro x i σ bb h;obtain⟨_,rfl⟩:=bk (aG h);exact bj.refl _
 | cons p r f =>
   obtain⟨k,o⟩:=p;intro l c σ bb h;simp only[fm] at h;split at h
   .rename_i g;cases b:Nat.blt k l.length with
    | false=>rw[b] at h;cases h
    | true=>rw[b] at h;exact(pE g).trans (f h)
   .cases h
theorem Dj{b g:Nat}{p:List BV}{h:aL->Bool}{u:aL}{n e:St}(f:(storeAt b g p h u n).run=some e):bj n e:=by
 unfold storeAt at f;split at f
 case h_2=>exact absurd f (by intro k;cases k)
 rename_i x s;obtain⟨o,i⟩:=ay f;simp only[dv,j7] at o;obtain⟨t,y,j⟩:=bind_some i;obtain⟨q,l⟩:=ay j;obtain⟨c,z,m⟩:=bind_some l;obtain rfl:=aG m;exact jn λv r=>by rw[s] at r;obtain rfl:=aG r;exact o.1.2
theorem OP{b g:Nat}{p:List BV}{n:Nat}{u:aL}{o e:St}(f:(rA b g p n u o).run=some e):bj o e:=by
 unfold rA at f;split at f
 case h_2=>exact absurd f (by intro k;cases k)
 rename_i z t;obtain⟨q,h⟩:=ay f;simp only[dv,j7] at q;obtain⟨v,A,i⟩:=bind_some h;obtain⟨r,j⟩:=ay i;obtain⟨c,C,l⟩:=bind_some j;obtain⟨x,m⟩:=ay l;obtain rfl:=aG m;exact jn λy s=>by rw[t] at s;obtain rfl:=aG s;exact q.1.1.1.2
theorem Jf{m:Ctx}{i:List Nat}{n:TypeId}{x y:aL}{g c:St}(f:(lS m i n x y g).run=some c):bj g c:=by
 unfold lS at f;split at f
 case h_2=>exact absurd f (by intro k;cases k)
 split at f
 case h_2=>exact absurd f (by intro k;cases k)
 obtain⟨j,h⟩:=ay f;obtain⟨o,s,e⟩:=bind_some h;split at e
 .rename_i u _;obtain⟨q,b⟩:=ay e;cases l:cI i 8000000&&Zr u y with
  | true=>rw[l] at b;exact OP b
  | false =>
  rw[l] at b;replace b:(match wQ g u y with|some (y,g)=>storeAt _ _ _ (WK u) (.data u y) g|none=>.fail).run=some c:=b;split at b
  .rename_i r;exact(pE r).trans (Dj b)
  .exact absurd b (by intro k;cases k)
 .obtain⟨q,b⟩:=ay e;exact Dj b
theorem yI{j:Ctx}{m:Nat}{d:Option Nat}{n:TypeId}{s x:aL}{h f:St}(b:(iq j m d n s x h).run=some f):bj h f:=by
 unfold iq at b;split at b
 case h_2=>exact absurd b (by intro k;cases k)
 split at b
 case h_2=>exact absurd b (by intro k;cases k)
 split at b
 .obtain⟨o,c⟩:=cl b;obtain⟨q,r,t⟩:=kI c;obtain rfl:=aG t;exact r.trans (bj.put _ _ _)
 .split at b
  case h_2=>exact absurd b (by intro k;cases k)
  rename_i y l u z;obtain⟨e,g⟩:=xR b;have e:=(vW.1 e).1;obtain⟨o,c⟩:=cl g;obtain rfl:=aG c;exact(jn λv i=>by rw[u] at i;obtain rfl:=aG i;exact e).trans (bj.put _ _ _)
 .exact absurd b (by intro k;cases k)
theorem wb{e:Ty}{m:List e.den}{b n:Nat}{q:List BV}{o:Nat->Ty->Bool}{u:Int}{j i:St}(l:(ke e m b n q o u j).run=some i):bj j i:=by
 unfold ke at l;split at l
 case h_2=>exact absurd l (by intro k;cases k)
 rename_i z v;obtain⟨s,f⟩:=ay l;simp only[dv,j7] at s;have fin:∀{si:bB},bj j (j.b4 b si):=λ{si}=>jn λx t=>by rw[v] at t;obtain rfl:=aG t;exact s.1.2
 split at f
 .split at f
  .split at f
   .obtain rfl:=aG f;exact fin
   .exact absurd f (by intro k;cases k)
  .exact absurd f (by intro k;cases k)
 .obtain⟨y,_,g⟩:=bind_some f;split at g
  .obtain⟨_,h⟩:=ay g;split at h
   .obtain⟨c,_,r⟩:=bind_some h;obtain rfl:=aG r;exact fin
   .exact absurd h (by intro k;cases k)
  .exact absurd g (by intro k;cases k)
theorem Gc{e:Ty}{h:Int->List e.den}{t:aL}{g:St}{r:Int×St}(b:(EK e h t g).run=some r):bj g r.2:=by
 unfold EK at b;split at b
 .obtain⟨bC,c,f⟩:=bind_some b;obtain rfl:=aG f;exact wb c
 .split at b
  .obtain⟨bC,c,f⟩:=bind_some b;obtain rfl:=aG f;exact wb c
  .exact absurd b (by intro k;cases k)
 .obtain⟨bC,c,f⟩:=bind_some b;obtain rfl:=aG f;exact wb c
 .exact absurd b (by intro k;cases k)
theorem Q0{m:Nat->Option bB}:∀{o:OT} {v:aL} {u:o.den} {N M:List (Nat×Nat)},db m o v=some (u,N,M)->∀b∈bo N M,∀j,m b=some j->j.lk=false:=by
 intro o;induction o with
 | zf t =>
   intro v u N M h;unfold db at h;split at h
   .cases h;intro b k;cases k
   .cases h
 | buf e s =>
   intro v u N M h;unfold db at h;split at h
   case h_2=>cases h
   rename_i b l;split at h
   case h_2=>cases h
   rename_i j k;cases g:(Nat.beq j.aM l&&j.buf&&!j.lk&&!j.ro&&Nat.beq j.tid s&&Nat.blt 0 e.size) with
   | false=>rw[g] at h;cases h
   | true =>
     rw[g] at h;simp only[dv,j7] at g;simp only[ev] at h;split at h
     case h_2=>cases h
     split at h
     case h_2=>cases h
     cases h;intro c i cx f;have:c=b:=by simpa [bo] using i
     subst this;rw[k] at f;obtain rfl:=aG f;exact g.1.1.1.2
 | ref tid o C =>
   intro v u N M h;unfold db at h;split at h
   case h_2=>cases h
   rename_i b l;split at h
   case h_2=>cases h
   rename_i j k;cases g:(Nat.beq j.aM l&&!j.buf&&!j.lk&&!j.ro&&Nat.beq j.tid tid) with
   | false=>rw[g] at h;cases h
   | true =>
     rw[g] at h;simp only[dv,j7] at g;simp only[ev] at h;split at h
     case h_2=>cases h
     rename_i G D E F;cases h;intro c i cx f;unfold bo at i;simp only[tq,y8,gd] at i;rcases i with rfl|i
     .rw[k] at f;obtain rfl:=aG f;exact g.1.1.2
     .exact C F c i cx f
 | pair p q n r =>
   intro v u N M h;unfold db at h;split at h
   case h_2=>cases h
   split at h
   case h_2=>cases h
   rename_i x D E y H I z A;cases h;intro c i cx f;unfold bo at i;simp only[xE,ra] at i;rcases i with (i|i)|(i|i)
   .exact n z c (mI _ i) cx f
   .exact r A c (mI _ i) cx f
   .exact n z c (nC _ i) cx f
   .exact r A c (nC _ i) cx f
 | unit =>
   intro v u N M h;unfold db at h;split at h
   case h_2=>cases h
   cases h;intro b k;cases k
 | dM =>
   intro v u N M h;unfold db at h;split at h
   case h_2=>cases h
   cases h;intro b k;cases k
theorem TI{j:St}:∀{ps:List Bool} {A:Ty} {U:OT} {vs:List aL} {x:A.den} {u:U.den} {N M:List (Nat×Nat)},ew j ps A U vs=some (x,u,N,M)->∀b∈bo N M,∀k,j.mem b=some k->k.lk=false:=by
 intro ps;induction ps with
 | nil =>
   intro A U vs x u N M h;cases A<;>first|(cases h;done)|skip
   cases U<;>first|(cases h;done)|skip
   cases vs with
   | cons v r=>cases h
   | nil=>cases h;intro b m;cases m
 | cons p ps i =>
   intro A U vs x u N M h;cases p with
   | false =>
     cases A<;>first|(cases h;done)|skip
     cases vs with
     | nil=>cases h
     | cons v r =>
       simp only[ew] at h;split at h
       .rename_i g;cases h;exact i g
       .cases h
   | true =>
     cases U<;>first|(cases h;done)|skip
     rename_i o U;cases o<;>first|(cases h;done)|skip
     case dM =>
      cases vs with
      | nil=>cases h
      | cons v r =>
        cases v<;>first|(cases h;done)|skip
        simp only[ew] at h;split at h
        .rename_i g;cases h;exact i g
        .cases h
     cases vs with
     | nil=>cases h
     | cons v r =>
       simp only[ew] at h;split at h
       .rename_i n q s t y z C l g;cases h;intro c e cx f;unfold bo at e;simp only[xE,ra] at e;rcases e with (e|e)|(e|e)
        .exact Q0 l c (mI _ e) cx f
        .exact i g c (mI _ e) cx f
        .exact Q0 l c (nC _ e) cx f
        .exact i g c (nC _ e) cx f
       .cases h
theorem OQ{f:List Bool}{A:Ty}{U:OT}{g:List aL}{x:A.den}{u y:U.den}{N M:List (Nat×Nat)}{c:St}(h:ew c f A U g=some (x,u,N,M)):bj c (kT U y N M c):=λb i e j=>by
 rw[gX];cases hv:iV U y N (M.map λp=>(p.1,p.2+1)) b with
 | none=>exact e
 | some v =>
   have:=TI h b (by have:=pg hv;rwa [uy] at this) i e;rw[j] at this;cases this
theorem OR{s:WG}{d:Option Nat}{f:List aL}{j g:St}(b:(Au s d f j).run=some g):bj j g:=by
 unfold Au at b;split at b
 .split at b
  case h_2=>cases b
  split at b
  case h_2=>cases b
  obtain⟨_,c⟩:=ay b;obtain rfl:=aG c;exact bj.aW _ _ _
 .split at b
  case h_2=>cases b
  split at b
  case h_2=>cases b
  obtain⟨_,c⟩:=ay b;split at c
  case h_2=>cases c
  rename_i m i;obtain⟨h,e⟩:=ay c;simp only[dv,j7] at h;split at e
  case h_2=>cases e
  obtain rfl:=aG e;exact(jn λl k=>by rw[i] at k;obtain rfl:=aG k;exact h.1.1.2).trans (bj.aW _ _ _)
 .cases b
theorem TJ{b c:Nat}:∀{h:List nG} {j:Nat} {σ:St} {r:aL×St},(mkObj b c h j σ).run=some r->bj σ r.2:=by
 intro h;induction h with
 | nil=>intro j σ r g;obtain rfl:=aG g;exact bj.refl _
 | cons f q m =>
   intro j σ r g;cases f with
   | buf e n =>
     obtain⟨_,i⟩:=ay g;obtain⟨c,o,s⟩:=kI i;obtain⟨y,k,l⟩:=bind_some s;obtain rfl:=aG l;have:=m k;exact o.trans this
   | _ =>
     obtain⟨y,k,l⟩:=bind_some g;obtain rfl:=aG l;have:=m k;exact this
theorem OS{b:Nat}:∀{c:List nG} {j:Nat} {v:aL} {σ:St} {r:aL×St},(nH b c j v σ).run=some r->bj σ r.2:=by
 intro c;induction c with
 | nil =>
   intro j v σ r g;obtain rfl:=F7 g;exact bj.refl _
 | cons f q k =>
   intro j v σ r g;rcases Db g with ⟨x,u,y,rfl,h,rfl⟩|⟨e,l,u,rfl,t,i⟩
   .have:=k h;exact this
   .obtain⟨m,n,o⟩:=kI i;obtain⟨y,h,s⟩:=bind_some o;obtain rfl:=aG s;have:=k h;exact n.trans this
theorem Q1{q:Ctx}{inl:Nat->List aL->St->Tree (aL×St)}(l:∀f i j v g,(inl f i j).run=some (v,g)->bj j g){d:Option Nat}{f:Nat}{i:List aL}{j g:St}
  (b:(v7 q inl d f i j).run=some g):bj j g:=by
 unfold v7 at b;split at b
 .split at b
  .split at b
   .obtain⟨y,o,h⟩:=bY b;obtain rfl:=aG h;exact bj.aW _ _ _
   .exact absurd b (by intro k;cases k)
  .split at b
   .rename_i m;obtain⟨y,o,h⟩:=bY b;obtain rfl:=aG h;exact(p9 m).trans (bj.aW _ _ _)
   .exact absurd b (by intro k;cases k)
 .have e:((inl f i j).bind λr=>.ret (r.2.aW d r.1):Tree St).run=some g->bj j g:=by
   intro b;obtain⟨r,n,h⟩:=bind_some b;obtain rfl:=aG h;exact(l _ _ _ _ _ n).trans (bj.aW _ _ _)
  split at b
  .exact OR b
  split at b
  .rename_i c s;split at b
   .rename_i x u N M m;obtain⟨_,b⟩:=ay b;obtain⟨y,o,h⟩:=bY b;obtain rfl:=aG h;exact(OQ m).trans (bj.aW _ _ _)
   .exact e b
  .exact e b
theorem Jg{h:Nat}{e:Ty}{d:Option Nat}{c:List aL}{g f:St}(b:(lW h e d c g).run=some f):bj g f:=by
 unfold lW at b;split at b
 case h_2=>cases b
 split at b
 case h_2=>cases b
 rename_i i;obtain⟨_,b⟩:=ay b;obtain⟨_,b⟩:=cl b;obtain⟨j,k,l⟩:=kI b;obtain rfl:=aG l;exact((pE i).trans k).trans (bj.aW _ (some _) _)
theorem OU{e A:Ty}{f:Bool}{g:List e.den->A.den->Option (List e.den)}{d:Option Nat}{h:List aL}{q i:St}(c:(rB e A f g d h q).run=some i):bj q i:=by
 unfold rB at c;split at c
 case h_2=>cases c
 split at c
 case h_2=>cases c
 rename_i m;split at c
 case h_2=>cases c
 rename_i b v C l n;obtain⟨D,_,c⟩:=bY c;obtain⟨x,r,s,o,y,t,_⟩:=so n;have key:∀j,bj _ (St.b4 _ b j):=λj=>jn λz u=>by rw[x] at u;obtain rfl:=aG u;exact o
 cases f with
 | true =>
   cases d with
   | none=>cases c
   | some k=>obtain rfl:=aG c;exact((p9 m).trans<|key _).trans (bj.aW _ (some _) _)
 | false =>
   cases d with
   | none=>obtain⟨_,c⟩:=ay c;obtain rfl:=aG c;exact((p9 m).trans<|key _).trans (bj.aW _ none _)
   | some k=>obtain⟨_,c⟩:=ay c;obtain rfl:=aG c;exact((p9 m).trans<|key _).trans (bj.aW _ (some _) _)
theorem Jh{h g:Nat}{d:Option Nat}{c:List aL}{f e:St}(b:(lX h g d c f).run=some e):bj f e:=by
 unfold lX at b;split at b
 .cases b
 .cases b
 .obtain⟨i,j,k⟩:=kI (ay b).2;obtain rfl:=aG k;exact j.trans (bj.aW _ (some _) _)
 .cases b
theorem OV{i:Ctx}{j:Nat}{k:List Nat}{inl:Nat->List aL->St->Tree (aL×St)}(g:∀f b h v c,(inl f b h).run=some (v,c)->bj h c){d:Option Nat}{f:Nat}{b:List aL}{h c:St}
  (e:(tu i j k inl d f b h).run=some c):bj h c:=by
 unfold tu at e;split at e
 .exact Jg e
 .exact OU e
 .exact Jh e
 .exact Q1 g e
end Go.Ge
namespace Go.Ge
open RowKit
def au(σ:St)(T:Tree St):Prop:=∀y,T.run=some y->bj σ y
theorem au.fail{σ:St}:au σ .fail:=λy h=>by cases h
theorem au.ret{σ b:St}(h:bj σ b):au σ (.ret b):=λy c=>by obtain rfl:=aG c;exact h
theorem au.bif{b:St}{c:Bool}{t:Tree St}(h:au b t):au b (bif c then t else .fail):=λy e=>h y (ay e).2
theorem au.need{b:St}{c:Bool}{t:Tree St}(h:au b t):au b (.need c t):=λy e=>h y (cl e).2
theorem au.look{b:St}{T:Type}{o:Option T}{k:T->Tree St}(h:∀x,au b (k x)):au b (.look o k):=λy c=>by obtain⟨x,_,e⟩:=bY c;exact h x y e
theorem au.node{σ:St}{c:Bool}{t e:Tree St}(h:au σ t)(k:au σ e):au σ (.node c t e):=λy b=>by
 have:=gg b;cases c with
 | true=>exact h y this
 | false=>exact k y this
theorem au.bind{σ:St}{α:Type}{t:Tree α}{f:α->Tree St}(h:∀x,t.run=some x->au σ (f x)):au σ (t.bind f):=λy b=>by obtain⟨x,c,e⟩:=bind_some b;exact h x c y e
theorem au.aQ{c:St}{b:Nat}{e:aL}{tid:TypeId}{f:Bool}{d:Nat}{v:Nat->aL}:au c (c.aQ b e tid f λaM c=>.ret (c.put d<|v aM)):=λy g=>by
 obtain⟨aM,h,i⟩:=kI g;obtain rfl:=aG i;exact h.trans (bj.put _ _ _)
section
variable {cx:Ctx} {nb:Nat} {bf:List Nat} {inl:Nat->List aL->St->Tree (aL×St)} {d:Option Nat} {σ:St}
theorem yJ{b:TypeId}{v:aL}:au σ (jK cx nb bf d b v σ):=by
 unfold jK;split
 ·(repeat' (first|exact au.fail|exact au.ret (bj.aW _ _ _)|exact au.ret (bj.put _ _ _)|exact au.aQ|refine au.bif ?_|refine au.need ?_|refine au.look λ_=>?_|refine au.node ?_ ?_|refine au.bind λ_ _=>?_|split))
 .split
  .rename_i k e _;cases cI bf k with
   | true=>exact au.aQ
   | false=>exact au.ret (bj.put _ _ _)
  .exact au.ret (bj.aW _ _ _)
 .exact au.ret (bj.aW _ _ _)
theorem Lx{c a b:aL}:au σ (ou d c a b σ):=by unfold ou;(repeat' (first|exact au.fail|exact au.ret (bj.aW _ _ _)|exact au.ret (bj.put _ _ _)|exact au.aQ|refine au.bif ?_|refine au.need ?_|refine au.look λ_=>?_|refine au.node ?_ ?_|refine au.bind λ_ _=>?_|split))
theorem Ly{b:TypeId}{a:aL}:au σ (lv cx d b a σ):=by unfold lv;(repeat' (first|exact au.fail|exact au.ret (bj.aW _ _ _)|exact au.ret (bj.put _ _ _)|exact au.aQ|refine au.bif ?_|refine au.need ?_|refine au.look λ_=>?_|refine au.node ?_ ?_|refine au.bind λ_ _=>?_|split))
theorem Ji{b:TypeId}{x:aL}{c e:Option Operand}:au σ (lT cx d b x c e σ):=by unfold lT;(repeat' (first|exact au.fail|exact au.ret (bj.aW _ _ _)|exact au.ret (bj.put _ _ _)|exact au.aQ|refine au.bif ?_|refine au.need ?_|refine au.look λ_=>?_|refine au.node ?_ ?_|refine au.bind λ_ _=>?_|split))
theorem TK{b c:Nat}{i:Int}:∀{m k:Nat},au σ (IB d b c σ i m k):=by
 intro m;induction m with
 | zero=>intro k;exact au.fail
 | succ m e=>intro k;exact au.node (au.ret<|bj.aW _ _ _) e
theorem uB{b:TypeId}{x:aL}{i:Int}:au σ (eo cx d b x i σ):=by
 unfold eo;split
 case h_6=>split
           .exact au.bif TK
           .exact au.fail
 all_goals (repeat' (first|exact au.fail|exact au.ret (bj.aW _ _ _)|exact au.ret (bj.put _ _ _)|exact au.aQ|refine au.bif ?_|refine au.need ?_|refine au.look λ_=>?_|refine au.node ?_ ?_|refine au.bind λ_ _=>?_|split))
theorem Jj{b:TypeId}{x:aL}{i:Int}:au σ (lU cx d b x i σ):=by
 unfold lU;split
 .refine au.bif ?_;split
  .exact au.bif (au.ret<|bj.aW _ _ _)
  .exact au.fail
 .exact uB
theorem Jk{b:TypeId}{x:aL}{i:Int}:au σ (lV cx d b x i σ):=by unfold lV;(repeat' (first|exact au.fail|exact au.ret (bj.aW _ _ _)|exact au.ret (bj.put _ _ _)|exact au.aQ|refine au.bif ?_|refine au.need ?_|refine au.look λ_=>?_|refine au.node ?_ ?_|refine au.bind λ_ _=>?_|split))
theorem Ca{s:TypeId}{x:aL}{k:Nat}:au σ (eT cx d s x k σ):=by unfold eT;(repeat' (first|exact au.fail|exact au.ret (bj.aW _ _ _)|exact au.ret (bj.put _ _ _)|exact au.aQ|refine au.bif ?_|refine au.need ?_|refine au.look λ_=>?_|refine au.node ?_ ?_|refine au.bind λ_ _=>?_|split))
theorem E5{s t:TypeId}{x:aL}:au σ (gW cx nb d s t x σ):=by unfold gW;(repeat' (first|exact au.fail|exact au.ret (bj.aW _ _ _)|exact au.ret (bj.put _ _ _)|exact au.aQ|refine au.bif ?_|refine au.need ?_|refine au.look λ_=>?_|refine au.node ?_ ?_|refine au.bind λ_ _=>?_|split))
theorem Bs{b:TypeId}{t x:aL}:au σ (wR cx d b t x σ):=by
 unfold wR;split
 .split
  .exact au.fail
  .exact au.bind λr c=>au.ret ((Gc c).trans<|bj.aW _ _ _)
 .exact au.fail
theorem Jl{b:TypeId}{t:aL}:au σ (wS cx b t σ):=by
 unfold wS;split
 .exact au.bind λr c=>au.ret (Gc c)
 .exact au.fail
theorem G7{c:String}{e:List aL}:au σ (rf cx d c e σ):=by
 intro bb b;unfold rf at b;split at b
 .split at b
  .rename_i g;obtain⟨y,h,f⟩:=bY b;obtain rfl:=aG f;exact(p9 g).trans (bj.aW _ _ _)
  .exact absurd b (by intro k;cases k)
 .exact absurd b (by intro k;cases k)
theorem Jm{c u:TypeId}{x:aL}:au σ (re cx d c u x σ):=by
 intro bb b;unfold re at b;split at b
 .split at b
  .split at b
   .rename_i e;obtain rfl:=aG b;exact(pE e).trans (bj.aW _ _ _)
   .exact absurd b (by intro k;cases k)
  .exact absurd b (by intro k;cases k)
 .exact absurd b (by intro k;cases k)
theorem LA(b:∀f e σ v bb,(inl f e σ).run=some (v,bb)->bj σ bb){h:TypeId}{c:Call}:au σ (uj cx nb bf inl d h c σ):=by
 unfold uj;split
 .split
  ·(repeat' (first|exact au.fail|exact au.ret (bj.aW _ _ _)|exact au.ret (bj.put _ _ _)|exact au.aQ|refine au.bif ?_|refine au.need ?_|refine au.look λ_=>?_|refine au.node ?_ ?_|refine au.bind λ_ _=>?_|split))
  .split
   .exact λy g=>yI g
   .exact λy g=>yI g
   .exact au.fail
  .split
   .exact Bs
   .exact Bs
   .exact au.fail
  .split
   .exact Jl
   .exact au.fail
  ·(repeat' (first|exact au.fail|exact au.ret (bj.aW _ _ _)|exact au.ret (bj.put _ _ _)|exact au.aQ|refine au.bif ?_|refine au.need ?_|refine au.look λ_=>?_|refine au.node ?_ ?_|refine au.bind λ_ _=>?_|split))
  ·(repeat' (first|exact au.fail|exact au.ret (bj.aW _ _ _)|exact au.ret (bj.put _ _ _)|exact au.aQ|refine au.bif ?_|refine au.need ?_|refine au.look λ_=>?_|refine au.node ?_ ?_|refine au.bind λ_ _=>?_|split))
  .exact au.fail
 .split
  .exact au.bif λy g=>OV b g
  .exact au.fail
 .exact G7
theorem zA(e:∀f g σ v bb,(inl f g σ).run=some (v,bb)->bj σ bb){o:Oper}:au σ (pW cx nb bf inl o σ):=by
 unfold pW;split
 case h_1=>exact yJ
 case h_2=>exact yJ
 case h_3=>exact Lx
 case h_4 =>
  split
  .unfold tV;split
   .refine au.bif λy b=>?_;obtain⟨i,j,k⟩:=kI b;exact j.trans (au.aQ y k)
   .exact au.aQ
  .split
   .refine au.bind λr h=>?_;exact λy b=>(TJ h).trans (au.aQ y b)
   .exact au.bif au.aQ
  .exact au.fail
 case h_5 =>
  unfold CS;split
  .exact au.fail
  .exact au.fail
  .split
   .refine au.bind λr h=>?_;exact λy b=>(OS h).trans (au.aQ y b)
   .exact au.aQ
  .exact au.fail
 case h_6 =>
  split
  .split
   .rename_i c;exact au.ret ((G6 c).trans<|bj.aW _ _ _)
   .exact au.fail
  .split
   .rename_i c;exact au.ret ((uA c).trans<|bj.aW _ _ _)
   .exact au.fail
  ·(repeat' (first|exact au.fail|exact au.ret (bj.aW _ _ _)|exact au.ret (bj.put _ _ _)|exact au.aQ|refine au.bif ?_|refine au.need ?_|refine au.look λ_=>?_|refine au.node ?_ ?_|refine au.bind λ_ _=>?_|split))
  .exact au.fail
 case h_7 =>
  split
  .split
   .exact au.aQ
   .refine au.bif ?_;split
    .rename_i c;split
     .exact λy b=>(uA c).trans (au.aQ _ b)
     .exact au.ret ((uA c).trans<|bj.aW _ _ _)
    .exact au.fail
  .unfold Av;(repeat' (first|exact au.fail|exact au.ret (bj.aW _ _ _)|exact au.ret (bj.put _ _ _)|exact au.aQ|refine au.bif ?_|refine au.need ?_|refine au.look λ_=>?_|refine au.node ?_ ?_|refine au.bind λ_ _=>?_|split))
  .exact au.fail
 case h_8=>exact Ly
 case h_9=>split
           .exact λy b=>Jf b
           .exact au.fail
 case h_10=>(repeat' (first|exact au.fail|exact au.ret (bj.aW _ _ _)|exact au.ret (bj.put _ _ _)|exact au.aQ|refine au.bif ?_|refine au.need ?_|refine au.look λ_=>?_|refine au.node ?_ ?_|refine au.bind λ_ _=>?_|split))
 case h_11=>(repeat' (first|exact au.fail|exact au.ret (bj.aW _ _ _)|exact au.ret (bj.put _ _ _)|exact au.aQ|refine au.bif ?_|refine au.need ?_|refine au.look λ_=>?_|refine au.node ?_ ?_|refine au.bind λ_ _=>?_|split))
 case h_12=>(repeat' (first|exact au.fail|exact au.ret (bj.aW _ _ _)|exact au.ret (bj.put _ _ _)|exact au.aQ|refine au.bif ?_|refine au.need ?_|refine au.look λ_=>?_|refine au.node ?_ ?_|refine au.bind λ_ _=>?_|split))
 case h_13=>exact E5
 case h_14=>(repeat' (first|exact au.fail|exact au.ret (bj.aW _ _ _)|exact au.ret (bj.put _ _ _)|exact au.aQ|refine au.bif ?_|refine au.need ?_|refine au.look λ_=>?_|refine au.node ?_ ?_|refine au.bind λ_ _=>?_|split))
 case h_15=>exact Ji
 case h_16=>exact Ca
 case h_17=>(repeat' (first|exact au.fail|exact au.ret (bj.aW _ _ _)|exact au.ret (bj.put _ _ _)|exact au.aQ|refine au.bif ?_|refine au.need ?_|refine au.look λ_=>?_|refine au.node ?_ ?_|refine au.bind λ_ _=>?_|split))
 case h_18=>split
            .cases cI bf 5000000 with
             | true=>exact Jj
             | false=>exact uB
            .exact au.fail
 case h_19=>split
            .exact Jk
            .exact au.fail
 case h_20=>(repeat' (first|exact au.fail|exact au.ret (bj.aW _ _ _)|exact au.ret (bj.put _ _ _)|exact au.aQ|refine au.bif ?_|refine au.need ?_|refine au.look λ_=>?_|refine au.node ?_ ?_|refine au.bind λ_ _=>?_|split))
 case h_21=>(repeat' (first|exact au.fail|exact au.ret (bj.aW _ _ _)|exact au.ret (bj.put _ _ _)|exact au.aQ|refine au.bif ?_|refine au.need ?_|refine au.look λ_=>?_|refine au.node ?_ ?_|refine au.bind λ_ _=>?_|split))
 case h_22=>exact LA e
 case h_23=>exact Jm
 case h_24=>exact au.fail
end
end Go.Ge
namespace Go.Ge
open RowKit
theorem mO.shrink{g f:Nat->Option bB}(l:∀b c,g b=some c->f b=some { c with lk:=true }){b i:Nat}{m K:bB->Prop}(n:mO g b i m)(h:mO f b i K)
  (o:∀c,K { c with lk:=true }->K c):mO g b i K:=by
 obtain⟨c,j,q,_⟩:=n;obtain⟨r,k,t,s⟩:=h;rw[l b c j] at k;obtain rfl:=aG k;exact⟨c,j,q,λe=>o c (s e)⟩
theorem cf.shrink{M C:Gh}{y o:Nat->Option bB}{w J:World}(g:∀b K,y b=some K->o b=some { K with lk:=true }):∀{v:aL} {m:Mode} {us vs:List Value},
  cf M y w v m us->cf C o J v m vs->cf C y J v m vs:=by
 intro v;induction v with
 | undef=>intro m us vs _ r;cases m<;>exact r
 | data t x=>intro m us vs _ r;cases m<;>exact r
 | oq=>intro m us vs _ r;cases m<;>exact r
 | dM=>intro m us vs _ r;cases m<;>exact r
 | cell t x=>intro m us vs _ r;cases m<;>exact r
 | nl=>intro m us vs _ r;cases m<;>exact r
 | sf=>intro m us vs _ r;cases m<;>exact r
 | vj b aM =>
   intro m us vs c r;cases m with
   | many=>exact r
   | cells=>exact⟨r.1,c.2.shrink g r.2 λ_ k=>k⟩
   | val=>exact⟨r.1,c.2.shrink g r.2 λ_ k=>k⟩
 | ptr b aM p =>
   intro m us vs c r;cases m with
   | many=>exact r
   | cells=>exact⟨r.1,c.2.shrink g r.2 λ_ k=>k⟩
   | val=>exact⟨r.1,c.2.shrink g r.2 λ_ k=>k⟩
 | whole b aM =>
   intro m us vs c r;cases m with
   | many=>exact r
   | cells=>exact⟨r.1,c.2.shrink g r.2 λ_ k=>k⟩
   | val=>exact⟨r.1,c.2.shrink g r.2 λ_ k=>k⟩
 | part b aM lo n =>
   intro m us vs c r;cases m with
   | many=>exact r
   | cells=>exact⟨r.1,c.2.shrink g r.2 λ_ k=>k⟩
   | val=>exact⟨r.1,c.2.shrink g r.2 λ_ k=>k⟩
 | win b aM q e k lo n =>
   intro m us vs c r;cases m with
   | many=>exact r
   | cells=>exact⟨r.1,c.2.shrink g r.2 λ_ k=>k⟩
   | val=>exact⟨r.1,c.2.shrink g r.2 λ_ k=>k⟩
 | fn f L =>
   intro m us vs c r;cases m with
   | many=>exact r
   | cells=>obtain⟨_,_,_,s⟩:=c;obtain⟨h,j,l,I⟩:=r;exact⟨h,j,l,λi b aM D=>(s i b aM D).shrink g (I i b aM D) λ_ k=>k⟩
   | val=>obtain⟨_,_,_,s⟩:=c;obtain⟨h,j,l,I⟩:=r;exact⟨h,j,l,λi b aM D=>(s i b aM D).shrink g (I i b aM D) λ_ k=>k⟩
 | mix a b z A =>
   intro m us vs c r;cases m with
   | cells=>obtain⟨_,_,_,E,F⟩:=c;obtain⟨G,H,c,j,l⟩:=r;exact⟨G,H,c,z E j,A F l⟩
   | val=>obtain⟨_,_,_,E,F⟩:=c;obtain⟨G,H,c,j,l⟩:=r;exact⟨G,H,c,z E j,A F l⟩
   | many=>obtain⟨_,_,_,E,F⟩:=c;obtain⟨G,H,c,j,l⟩:=r;exact⟨G,H,c,z E j,A F l⟩
 | yC u O =>
   intro m us vs c r;cases m with
   | val=>obtain⟨_,_,s⟩:=c;obtain⟨h,j,l⟩:=r;exact⟨h,j,O s l⟩
   | cells=>exact r
   | many=>exact r
theorem bu.unlock{B:qM}{x m:Gh}{e l:Nat->Option bB}{w y:World}(h:bu B x e w)(t:∀b f,e b=some f->l b=some { f with lk:=true })
  (q:bu B m l y) (u:Ext B x (λi=>match e i with|some b=>some { b with lk:=true }|none=>none) w m l y):bu B m e y/\Ext B x e w m e y:=by
 have v:∀b f,e b=some f->m.loc b=x.loc b:=by
  intro b f g;obtain⟨C,k1,k2,k3⟩:=u.boxes b { f with lk:=true } (by simp[g]);rw[t b f g] at k1;obtain rfl:=aG k1;exact(k3 rfl).1
 have r:∀b,e b≠none->l b≠none:=by
  intro b g;cases A:e b with
  | none=>exact absurd A g
  | some f=>rw[t b f A];simp
 refine⟨?_,⟨u.below,u.I,u.ox,u.cells,λb f g=>⟨f,g,bZ _,λ_=>⟨v b f g,rfl,rfl⟩⟩⟩⟩;exact
  { cT:=q.cT
    base:=q.base
    boxes:=λb f g=>by
     have n:=h.boxes b f g;have s:=q.boxes b _ (t b f g);unfold cB at n s⊢;cases o:f.buf with
     | true=>rw[o] at s;exact s
     | false =>
       rw[o] at n s;obtain⟨_,_,_,_,_,_,_,_,_,D⟩:=n;obtain⟨j,cap,cur,tid,fr,k1,k2,k3,abH,E⟩:=s;exact⟨j,cap,cur,tid,fr,k1,k2,k3,abH,D.shrink t E⟩
    inj:=λb c j k F g G n s=>q.inj b c j k F (r b g) (r c G) n s
    fresh:=λb j k g n=>q.fresh b j k (r b g) n
    sg:=q.sg
    sep:=λb f j k z g n H=>by
     have:=q.sep b _ j k z (t b f g) n H;exact this }
theorem Ext.iJ{B:qM}{γ:Gh}{σ:St}{w:World}:Ext B γ σ.mem w γ σ.iJ.mem w where
 below:=tX.refl _ _
 I:=λ_ _ h=>h
 ox:=λ_ _ h=>.inl h
 cells:=λ_ _ _=>rfl
 boxes:=λb c e=>⟨{ c with lk:=true },by simp[St.iJ,e],bZ _,λ_=>⟨rfl,rfl,rfl⟩⟩
theorem bu.iJ{B:qM}{γ:Gh}{σ:St}{w:World}(h:bu B γ σ.mem w):bu B γ σ.iJ.mem w:=by
 have inv:∀{b j},σ.iJ.mem b=some j->∃e,σ.mem b=some e/\j={ e with lk:=true }:=by
  intro b j f;simp only[St.iJ] at f;split at f
  .rename_i e h0;exact⟨e,h0,(aG f).symm⟩
  .cases f
 have i:∀{b},σ.iJ.mem b≠none->σ.mem b≠none:=by
  intro b f n;apply f;simp[St.iJ,n]
 exact
  { cT:=h.cT
    base:=h.base
    boxes:=λb j f=>by
     obtain⟨e,h0,rfl⟩:=inv f;have:=(h.boxes b e h0).keep (Ext.iJ (B:=B) (γ:=γ) (σ:=σ) (w:=w)) rfl (λ_ _ _=>rfl);exact this
    inj:=λb c g k o f q l r=>h.inj b c g k o (i f) (i q) l r
    fresh:=λb g k f l=>h.fresh b g k (i f) l
    sg:=h.sg
    sep:=λb j g k m f l s=>by
     obtain⟨e,h0,rfl⟩:=inv f;exact h.sep b e g k m h0 l s }
theorem cM.iJ{B:qM}{N:Nat}{γ:Gh}{σ:St}{a:Act}{w:World}(h:cM B N γ σ a w):cM B N γ σ.iJ a w where
 slots:=λt=>(h.slots t).ext (Ext.iJ (B:=B))
 size:=h.size
 defers:=h.defers
 ok:=h.ok.iJ
theorem OW{e f:St}(h:bj e.iJ f):∀b c,e.mem b=some c->f.mem b=some { c with lk:=true }:=λb c g=>h b _ (by simp[St.iJ,g]) rfl
end Go.Ge
namespace Go.Ge
open RowKit
inductive qQ (all:Array Oper) (G:List (Nat×Bool)):List (Nat×Oper)->List Oper->Prop
 | nil:qQ all G [] []
 | cons {i:Nat} {o o':Oper} {r:List (Nat×Oper)} {l:List Oper}:all[i]?=some o->(o'=o\/∃g,o.guard=some g/\g∈G/\o'={ o with guard:=none })->qQ all G r l->qQ all G ((i,o')::r) (o::l)
theorem qQ.mono{c:Array Oper}{G e:List (Nat×Bool)}(f:∀g∈G,g∈e){b:List (Nat×Oper)}{l:List Oper}(h:qQ c G b l):qQ c e b l:=by
 induction h with
 | nil=>exact .nil
 | cons i j _ k=>exact .cons i (j.imp id λ⟨g,m,n,o⟩=>⟨g,m,f g n,o⟩) k
theorem Q2{b:Array Oper}{G:List (Nat×Bool)}{j:Nat}{want:Bool}:∀{items:List (Nat×Oper)} {l:List Oper} {inner:List Nat},qQ b G items l ->
  ∃e f,l=e++f/\qQ b ((j,want)::G) (under j want inner items).1 e/\qQ b G (under j want inner items).2 f:=by
 intro items l inner h;induction h generalizing inner with
 | nil=>exact⟨[],[],rfl,.nil,.nil⟩
 | @cons i o m r l q n D y =>
   unfold under;cases k:xK m.guard j want with
   | true =>
     simp only[ev];obtain⟨e,f,s,t,u⟩:=y (inner:=i::inner);refine⟨o::e,f,by rw[s];rfl,.cons q (.inr ?_) t,u⟩;have E:m=o:=by
      rcases n with n|⟨g,z,A,v⟩
      .exact n
      .rw[v] at k;cases k
     subst E;unfold xK at k;split at k
     .rename_i F C x;simp only[dv] at k;have H:=eX k.1;have I:C=want:=by simpa using k.2
      subst H;subst I;exact⟨(F,C),x,mJ ..,rfl⟩
     .cases k
   | false =>
     simp only[iU];have both:∀c:Bool,∃e f,o::l=e++f /\
       qQ b ((j,want)::G) (bif c then((i,m)::(under j want (i::inner) r).1,(under j want (i::inner) r).2) else([],(i,m)::r)).1 e /\
       qQ b G (bif c then((i,m)::(under j want (i::inner) r).1,(under j want (i::inner) r).2) else([],(i,m)::r)).2 f:=by
      intro c;cases c with
      | true =>
        obtain⟨e,f,s,t,u⟩:=y (inner:=i::inner);exact⟨o::e,f,by rw[s];rfl,.cons q (n.imp id λ⟨g,z,A,v⟩=>⟨g,z,oh _ A,v⟩) t,u⟩
      | false=>exact⟨[],o::l,rfl,.nil,.cons q n D⟩
     exact both _
theorem TL{d:Nat}:∀{items:List (Nat×Oper)},nI d items=false->∀i o,(i,o)∈items->o.dst≠some d:=by
 intro items;induction items with
 | nil=>intro _ i o h;cases h
 | cons p r c =>
   obtain⟨f,g⟩:=p;intro h i o b;simp only[nI,vW] at h;rcases gd.1 b with b|b
   .obtain⟨rfl,rfl⟩:=bk b;intro e;rw[e] at h;simp at h
   .exact c h.2 i o b
section
variable {P:Program} {B:qM} {N:Nat} {γ:Gh} {σ bb:St} {a:Act} {w w':World} {cx:Ctx} {nb:Nat} {bf:List Nat} {inl:Nat->List aL->St->Tree (aL×St)} {all:Array Oper}
def Q3(c:Array Oper)(G:List (Nat×Bool))(a:Act)(b:List (Nat×Oper)):Prop :=
 ∀g∈G,∃e,(c[g.1]?).bind (·.dst)=some e/\a.tmps[e]?=some (.bool g.2)/\nI e b=false
theorem Q3.wanted{G:List (Nat×Bool)}{b:List (Nat×Oper)}(h:Q3 all G a b){o:Oper}{g:Nat×Bool}(c:o.guard=some g)(e:g∈G):Region.wanted o (yielded all a.tmps)=true:=by
 obtain⟨k,f,i,_⟩:=h g e;obtain⟨j,want⟩:=g;unfold Region.wanted;rw[c];simp only[yielded,f,FX,i];simp
def Fr(b:List (Nat×Oper))(a c:Act):Prop:=∀t,nI t b=false->c.tmps[t]?=a.tmps[t]?
theorem fN{a:Act}{d:Option Nat}{v:Value}{t:Nat}(h:d≠some t):(a.put d v).tmps[t]?=a.tmps[t]?:=by
 cases d with
 | none=>rfl
 | some k =>
   have:k≠t:=λe=>h (by rw[e]);simp[Act.put,Array.getElem?_setIfInBounds_ne this]
theorem xa{d i:Nat}{o:Oper}{r:List (Nat×Oper)}(h:nI d ((i,o)::r)=false):o.dst≠some d/\nI d r=false:=by
 simp only[nI,vW] at h;refine⟨λe=>?_,h.2⟩;rw[e] at h;simp at h
theorem Q4(t:Nat):∀(items:List (Nat×Oper)),(σ.undef items).slots t=bif nI t items then .undef else σ.slots t:=by
 intro items;induction items with
 | nil=>rfl
 | cons p r b =>
   obtain⟨i,o⟩:=p;simp only[St.undef,nI];cases hd:o.dst with
   | none=>simp only[St.aW,yA];exact b
   | some k =>
     simp only[St.aW,St.put];cases c:Nat.beq k t with
     | true=>obtain rfl:=eX c;simp
     | false =>
       have:Nat.beq t k=false:=iW (λe=>by subst e;simp at c);rw[this];simp only[iU,yA];exact b
theorem tY:∀(items:List (Nat×Oper)),(σ.undef items).mem=σ.mem:=by
 intro items;induction items with
 | nil=>rfl
 | cons p r b =>
   obtain⟨i,o⟩:=p;simp only[St.undef];cases o.dst<;>exact b
theorem cM.undef(h:cM B N γ σ a w){b:List (Nat×Oper)}{c:Act}(f:Fr b a c)(g:c.tmps.size=N)(i:c.defers=[]):cM B N γ (σ.undef b) c w where
 slots:=λt=>by
  rw[Q4,tY];cases j:nI t b with
  | true=>exact⟨_,rfl⟩
  | false =>
    have:=f t j;have e:c.tmps.getD t Go.undef=a.tmps.getD t Go.undef:=by simp only[Ti,this]
    rw[e];exact h.slots t
 size:=g
 defers:=i
 ok:=by rw[tY];exact h.ok
theorem Dk{d:Option Nat}{k:Nat}(h:yielded all a.tmps k=none):yielded all (a.put d Go.undef).tmps k=none:=by
 unfold yielded at h⊢;cases f:(all[k]?).bind (·.dst) with
 | none=>rfl
 | some b =>
   rw[f] at h;simp only[FX] at h⊢;by_cases e:d=some b
   .subst e;simp only[Act.put];rw[YL];simp only[kQ];by_cases c:b<a.tmps.size
    .rw[aV c];rfl
    .rw[aX c]
   .rw[fN e];exact h
theorem Dl{i:Nat}{o:Oper}(h:all[i]?=some o):yielded all (a.put o.dst Go.undef).tmps i=none:=by
 unfold yielded;rw[h];simp only[FX];cases hd:o.dst with
 | none=>rfl
 | some d =>
   simp only[FX,Act.put];rw[YL];simp only[kQ];by_cases b:d<a.tmps.size
   .rw[aV b];rfl
   .rw[aX b]
theorem TM{G:List (Nat×Bool)}{j F:Nat}{e c:Bool}{Q:Exit->Act->World->Prop}(V:(all[j]?).bind (·.dst)=some F)(H:c≠e) :
  ∀{items:List (Nat×Oper)} {l:List Oper} {inner:List Nat} {a:Act},qQ all G items l->a.tmps[F]?=some (.bool c)->nI F (under j e inner items).1=false->(∀k∈inner,yielded all a.tmps k=none) ->
   ∃v y,l=v++y/\v.length=(under j e inner items).1.length/\∀f,(∀s,Fr (under j e inner items).1 a s->s.tmps.size=a.tmps.size->s.defers=a.defers->wpList P all Q f s w) ->
    wpList P all Q (v++f) a w:=by
 intro items l inner a h;induction h generalizing inner a with
 | nil=>intro _ _ _;exact⟨[],[],rfl,rfl,λf u=>u a (λt _=>rfl) rfl rfl⟩
 | @cons i o q r l W x h3 X =>
   intro T U z;have one:∀(I:Oper),I.dst=o.dst->Region.wanted o (yielded all a.tmps)=false->(under j e inner ((i,q)::r)).1=(i,I)::(under j e (i::inner) r).1 ->
     ∃v y,o::l=v++y/\v.length=(under j e inner ((i,q)::r)).1.length/\∀f,(∀s,Fr (under j e inner ((i,q)::r)).1 a s->s.tmps.size=a.tmps.size->s.defers=a.defers->wpList P all Q f s w) ->
     wpList P all Q (v++f) a w:=by
    intro I A Y C;rw[C] at U⊢;obtain⟨D,J⟩:=xa U;rw[A] at D;obtain⟨v,y,Z,e2,e3⟩:=X (inner:=i::inner) (a:=a.put o.dst Go.undef) (by rw[fN D];exact T) J (λk u=>by
     rcases gd.1 u with rfl|u
     .exact Dl W
     .exact Dk (z k u))
    refine⟨o::v,y,by rw[Z];rfl,by simp[e2],λf u=>?_⟩;show wpList P all Q (o::(v++f)) a w
    unfold wpList;rw[Y];simp only[Is,pV];refine e3 f λs f1 f2 f3=>u s (λt ht=>?_) (f2.trans<|QI _ _ _) (f3.trans<|put_defers _ _ _);obtain⟨E,K⟩:=xa ht;rw[A] at E;rw[f1 t K,fN E]
   cases n:xK q.guard j e with
   | true =>
     have L:q=o:=by
      rcases x with x|⟨g,k1,k2,M⟩
      .exact x
      .rw[M] at n;cases n
     subst L;have m:q.guard=some (j,e):=by
      unfold xK at n;split at n
      .rename_i i' b' m;simp only[dv] at n;have h9:=eX n.1;have h8:b'=e:=by simpa using n.2
       rw[m,h9,h8]
      .cases n
     refine one { q with guard:=none } rfl ?_ (by simp only[under,n,ev]);unfold Region.wanted;rw[m];simp only[yielded,V,FX,T];cases c<;>cases e<;>first|rfl|exact absurd rfl H
   | false =>
     cases m:q.guard with
     | none =>
       have C:(under j e inner ((i,q)::r)).1=[]:=by
        rw[m] at n;simp only[under,m,n,iU]
       rw[C];exact⟨[],o::l,rfl,rfl,λf u=>u a (λt _=>rfl) rfl rfl⟩
     | some g =>
       obtain⟨k,b⟩:=g;rw[m] at n;cases O:inner.any (Nat.beq k) with
       | true =>
         have L:q=o:=by
          rcases x with x|⟨g,k1,k2,M⟩
          .exact x
          .rw[M] at m;cases m
         subst L;refine one q rfl ?_ (by simp only[under,m,n,O,iU,ev]);obtain⟨k',R,S⟩:=Za.1 O;obtain rfl:=eX S;unfold Region.wanted;rw[m];simp only[z k R];rfl
       | false =>
         have C:(under j e inner ((i,q)::r)).1=[]:=by simp only[under,m,n,O,iU]
         rw[C];exact⟨[],o::l,rfl,rfl,λf u=>u a (λt _=>rfl) rfl rfl⟩
end
end Go.Ge
namespace Go.Ge
open RowKit
section
variable {P:Program} {B:qM} {N:Nat} {γ:Gh} {σ bb:St} {a:Act} {w w':World} {cx:Ctx} {nb:Nat} {bf:List Nat} {inl:Nat->List aL->St->Tree (aL×St)} {all:Array Oper}
theorem Jn(c:St)(b:List (Nat×Oper)):bj c (c.undef b):=bj.ZP (tY b)
theorem Dm(g:∀f h σ v bb,(inl f h σ).run=some (v,bb)->bj σ bb):∀(n:Nat) (items:List (Nat×Oper)) (σ:St),au σ (pX cx nb bf inl all n items σ):=by
 intro n;induction n with
 | zero=>intro items σ;exact au.fail
 | succ n k =>
   intro items σ;cases items with
   | nil=>exact au.ret (bj.refl _)
   | cons p r =>
     obtain⟨i,o⟩:=p;unfold pX;split
     .exact au.bind λbC l y e=>(zA g bC l).trans (k _ _ y e)
     .rename_i j b D;dsimp only;split
      .exact au.fail
      .rename_i z A;split
       .rename_i c E F u m q;cases G:nI z (under j b [] ((i,o)::r)).1 with
        | true=>exact au.fail
        | false =>
          simp only[iU];split
          .exact au.fail
          .cases C:HV cx (under j b [] ((i,o)::r)).1 with
           | true =>
             simp only[ev];intro y e;obtain⟨cc,l,s⟩:=bind_some e;refine bj.trans ?_ (k _ _ y s);refine(au.node (σ:=σ) ?_ ?_) cc l
             .refine au.bind λτ t=>?_;split
              .exact au.ret ((k _ _ τ t).trans<|bj.aW _ _ _)
              .exact au.fail
             .split
              .exact au.ret ((Jn _ _).trans<|bj.aW _ _ _)
              .exact au.fail
           | false =>
             simp only[iU];split
             .intro y e;rw[Tree.zi] at e;obtain⟨x,l,s⟩:=A7.1 e;exact((Jn _ _).trans<|bj.put _ _ _).trans (k _ _ y s)
             .exact au.fail
       .exact au.fail
theorem VI{e:Nat->Option bB}{t:Ty}{v:aL}{x:t.den}{b:Value}(h:toD t v=some x)(f:cf γ e w v .val [b]){c:Nat->Option bB}:cf γ c w (.data t x) .val [b]:=by
 unfold toD at h;split at h
 .obtain⟨q,g⟩:=Ty.kR h;subst q;subst g;exact f
 .split at h
  .obtain rfl:=aG h;obtain rfl:b=_:=by simpa [cf] using f
   exact⟨[.slice none 0 0],.inl ⟨⟨none,rfl⟩,rfl⟩,rfl⟩
  .cases h
 .cases h
theorem qQ.length{G:List (Nat×Bool)}{b:List (Nat×Oper)}{l:List Oper}(h:qQ all G b l):b.length=l.length:=by
 induction h with
 | nil=>rfl
 | cons _ _ _ c=>simp[c]
theorem TN{i:Oper}{j:Nat}{b:Bool}{v:aL}{K:Act->World->Prop}{Q:Exit->Act->World->Prop}(h:cM B N γ σ a w)(m:a.tmps[j]?=some (.bool b)){f:Bool}(n:b=f)
  (e:xL σ i j f=some v) (o:∀y,cf γ σ.mem w v .val [y]->K (a.put i.dst y) w):i.wp P a w K Q:=by
 unfold xL at e;split at e
 .rename_i c x y k;cases l:Nat.beq c j with
  | false=>rw[l] at e;cases e
  | true =>
    obtain rfl:=eX l;rw[l] at e;obtain rfl:=aG e;subst n;have q:a.eval (.tmp c)=.bool b:=by simp[Act.eval,m]
    unfold Oper.wp;have g:(execOp a.eval i).run P w=.ok (.value<|a.eval<|bif b then x else y) w:=by
     simp only[execOp,k,q];cases b<;>rfl
    rw[g];exact o _ (h.cu _)
 .cases e
theorem Q3.put{G:List (Nat×Bool)}{i:Nat}{o:Oper}{r:List (Nat×Oper)}(h:Q3 all G a ((i,o)::r))(v:Value):Q3 all G (a.put o.dst v) r:=by
 intro g b;obtain⟨c,e,f,j⟩:=h g b;obtain⟨k,l⟩:=xa j;exact⟨c,e,by rw[fN k];exact f,l⟩
theorem TO{d j:Nat}{b:Bool}:∀{items:List (Nat×Oper)} {inner:List Nat},nI d items=(nI d (under j b inner items).1||nI d (under j b inner items).2):=by
 intro items;induction items with
 | nil=>intro inner;rfl
 | cons p r e =>
   obtain⟨i,o⟩:=p;intro inner;unfold under;cases f:xK o.guard j b with
   | true=>simp only[ev,nI,Vx];rw[e (inner:=i::inner)]
   | false =>
     simp only[iU];have both:∀c:Bool,nI d ((i,o)::r)=(nI d (bif c then((i,o)::(under j b (i::inner) r).1,(under j b (i::inner) r).2) else([],(i,o)::r)).1 ||
       nI d (bif c then((i,o)::(under j b (i::inner) r).1,(under j b (i::inner) r).2) else([],(i,o)::r)).2):=by
      intro c;cases c with
      | true=>simp only[ev,nI,Vx];rw[e (inner:=i::inner)]
      | false=>simp[nI]
     exact both _
theorem TP{p:Option Nat->Prop}{j:Nat}{want:Bool}:∀{items:List (Nat×Oper)} {inner:List Nat},(∀i o,(i,o)∈items->p o.dst) ->
  (∀i o,(i,o)∈(under j want inner items).1->p o.dst)/\(∀i o,(i,o)∈(under j want inner items).2->p o.dst):=by
 intro items;induction items with
 | nil=>intro inner h;exact⟨h,h⟩
 | cons q r l =>
   obtain⟨e,f⟩:=q;intro inner h;have m:=h e f (mJ ..);have n:∀i o,(i,o)∈r->p o.dst:=λi o b=>h i o (oh _ b);unfold under;cases s:xK f.guard j want with
   | true =>
     simp only[ev];obtain⟨g,k⟩:=l (inner:=e::inner) n;refine⟨λi o b=>?_,k⟩;rcases gd.1 b with b|b
     .obtain⟨_,rfl⟩:=bk b;exact m
     .exact g i o b
   | false =>
     simp only[iU];have both:∀c:Bool,(∀i o,(i,o)∈(bif c then((e,f)::(under j want (e::inner) r).1,(under j want (e::inner) r).2) else([],(e,f)::r)).1->p o.dst) /\
       (∀i o,(i,o)∈(bif c then((e,f)::(under j want (e::inner) r).1,(under j want (e::inner) r).2) else([],(e,f)::r)).2->p o.dst):=by
      intro c;cases c with
      | true =>
        obtain⟨g,k⟩:=l (inner:=e::inner) n;refine⟨λi o b=>?_,k⟩;rcases gd.1 b with b|b
        .obtain⟨_,rfl⟩:=bk b;exact m
        .exact g i o b
      | false=>exact⟨λi o b=>(by cases b),h⟩
     exact both _
theorem Gd{t:Nat}{b:Bool}(h:cM B N γ σ a w)(f:σ.slots t=.data .bool b):a.tmps[t]?=some (.bool b):=by
 have:=h.slots t;rw[f] at this;have e:=xO this;rw[Ti] at e;cases c:a.tmps[t]? with
 | none=>rw[c] at e;cases e
 | some y=>rw[c] at e;exact congrArg some e
theorem Q5{b:Type}{c want:Bool}{t e:Tree b}{y:b}(h:(Tree.node (bif want then c else nt c) t e).run=some y):(c=want/\t.run=some y)\/(c≠want/\c=(!want)/\e.run=some y):=by
 have:=gg h;cases c<;>cases want
 .exact .inl ⟨rfl,this⟩
 .exact .inr ⟨by simp,rfl,this⟩
 .exact .inr ⟨by simp,rfl,this⟩
 .exact .inl ⟨rfl,this⟩
theorem LB(hc:fv P cx)(W0:pC P B.G cx)(abR:vn P B.G inl)(afg:∀f adT σ v bb,(inl f adT σ).run=some (v,bb)->bj σ bb){Q:Exit->Act->World->Prop} :
  ∀(n:Nat) {items:List (Nat×Oper)} {l rest:List Oper} {σ bb:St} {γ:Gh} {a:Act} {w:World} {G:List (Nat×Bool)},qQ all G items l->Q3 all G a items->(∀i o,(i,o)∈items->∀k,o.dst=some k->k<N) ->
   (pX cx nb bf inl all n items σ).run=some bb->cM B N γ σ a w ->
   (∀bM a' w',cM B N bM bb a' w'->Ext B γ σ.mem w bM bb.mem w'->Fr items a a'->wpList P all Q rest a' w')->wpList P all Q (l++rest) a w:=by
 intro n;induction n with
 | zero=>intro items l rest σ bb γ a w G _ _ _ q;cases q
 | succ n ih =>
   intro items l rest σ bb γ a w G hit hG hd q h hK;cases hit with
   | nil =>
     obtain rfl:=aG q;exact hK γ a w h (Ext.refl _ _ _ _) (λt _=>rfl)
   | @cons i o o' r l h1 h2 h3 =>
     have M:o'.dst=o.dst:=by rcases h2 with rfl|⟨_,_,_,rfl⟩<;>rfl
     unfold pX at q;split at q
     .rename_i hg;obtain⟨bC,r1,r2⟩:=bind_some q;have hw:Region.wanted o (yielded all a.tmps)=true:=by
       rcases h2 with rfl|⟨g,k1,k2,k3⟩
       .unfold Region.wanted;rw[hg]
       .exact hG.wanted k1 k2
      have r1':(pW cx nb bf inl o σ).run=some bC:=by
       rcases h2 with rfl|⟨g,k1,k2,rfl⟩
       .exact r1
       .exact r1
      show wpList P all Q (o::(l++rest)) a w
      unfold wpList;rw[hw];simp only[kQ];refine .inl (Je hc W0 abR h (λk O=>hd i o' (mJ ..) k (by rw[M];exact O)) r1' λs v J R x1=>?_);have hG':=hG.put v;rw[M] at hG';refine ih h3 hG' (λi o hm=>hd i o (oh _ hm)) r2 R λS a2 w2 s2 x2 f2=>hK S a2 w2 s2 (x1.trans x2) λt ht=>?_;obtain⟨t1,Y⟩:=xa ht;rw[f2 t Y,fN (by rw[<-M];exact t1)]
     .rename_i j want hg;dsimp only at q;split at q
      .exact absurd q (by intro k;cases k)
      rename_i dj hdj;split at q
      case h_2=>exact absurd q (by intro k;cases k)
      rename_i c ip pk E afh ZQ;change Bool at c;cases hh:nI dj (under j want [] ((i,o')::r)).1 with
      | true=>rw[hh] at q;exact absurd q (by intro k;cases k)
      | false =>
      rw[hh] at q;simp only[iU] at q;split at q
      .exact absurd q (by intro k;cases k)
      rename_i hpg;have T:a.tmps[dj]?=some (.bool c):=Gd h afh;obtain⟨l1,l2,e1,I1,I2⟩:=Q2 (j:=j) (want:=want) (inner:=[]) (qQ.cons h1 h2 h3);obtain⟨d1,d2⟩:=TP (p:=λd=>∀k,d=some k->k<N) (j:=j) (want:=want) (inner:=[]) hd;have U:∀d,nI d ((i,o')::r)=(nI d (under j want [] ((i,o')::r)).1||nI d (under j want [] ((i,o')::r)).2):=λd=>TO;have afi:=λ(m:c≠want)=>TM (P:=P) (w:=w) (Q:=Q) hdj m (qQ.cons h1 h2 h3) T hh (λk O=>by cases O);generalize hg1:(under j want [] ((i,o')::r)).1=X at *;rw[ZQ] at I2 d2 U;cases I2 with
      | @cons _ u _ _ Z p1 p2 p3 =>
      have F:pk.dst=u.dst:=by rcases p2 with rfl|⟨_,_,_,rfl⟩<;>rfl
      have ahj:pk.op=u.op:=by rcases p2 with rfl|⟨_,_,_,rfl⟩<;>rfl
      rw[e1,kP];have A:∀{d},nI d ((i,o')::r)=false->nI d X=false/\u.dst≠some d/\nI d E=false:=by
       intro d VJ;rw[U] at VJ;simp only[vW] at VJ;obtain⟨q1,q2⟩:=xa VJ.2;exact⟨VJ.1,by rw[<-F];exact q1,q2⟩
      have tail:∀(s:Gh) (τ cc:St) (z:Act) (J:World) (v:aL) (b:Bool),cM B N s τ z J->Fr X a z->c=b->xL τ pk dj b=some v ->
        (∀y,cf s τ.mem J v .val [y]->∃S,cM B N S cc (z.put u.dst y) J/\Ext B γ σ.mem w S cc.mem J)->(pX cx nb bf inl all n E cc).run=some bb ->
        wpList P all Q (u::Z++rest) z J:=by
       intro s τ cc z J v b R D hcb C hy H;have hGp:Q3 all G z ((ip,pk)::E):=λg V=>by
        obtain⟨dj',k1,k2,k3⟩:=hG g V;obtain⟨q1,q2,q3⟩:=A k3;refine⟨dj',k1,by rw[D dj' q1];exact k2,?_⟩;simp only[nI,vW];refine⟨?_,q3⟩;cases L:pk.dst with
        | none=>rfl
        | some k=>exact iW λe=>q2 (by rw[<-F,L,e])
       have hwp:Region.wanted u (yielded all z.tmps)=true:=by
        rcases p2 with rfl|⟨g,k1,k2,k3⟩
        .unfold Region.wanted;rw[hpg]
        .exact hGp.wanted k1 k2
       show wpList P all Q (u::(Z++rest)) z J
       unfold wpList;rw[hwp];simp only[kQ];have ahk:xL τ u dj b=some v:=by rw[<-C];unfold xL;rw[ahj]
       refine .inl (TN R (by rw[D dj hh];exact T) hcb ahk λy hyr=>?_);obtain⟨S,s2,x2⟩:=hy y hyr;have hGr:=hGp.put y;rw[F] at hGr;refine ih p3 hGr (λi o hm=>d2 i o (oh _ hm)) H s2 λγ3 a3 w3 s3 x3 f3=>hK γ3 a3 w3 s3 (x2.trans x3) λt ht=>?_;obtain⟨q1,q2,q3⟩:=A ht;rw[f3 t q3,fN q2,D t q1]
      have W:∀(τ:St) (d:Option Nat) (v:aL),(τ.aW d v).mem=τ.mem:=λτ d v=>by cases d<;>rfl
      have L:∀k,u.dst=some k->k<N:=λk O=>d2 ip pk (mJ ..) k (by rw[F];exact O);have hG1:c=want->Q3 all ((j,want)::G) a X:=λm g V=>by
       rcases gd.1 V with rfl|V
       .exact⟨dj,hdj,by rw[<-m];exact T,hh⟩
       .obtain⟨dj',k1,k2,k3⟩:=hG g V;exact⟨dj',k1,k2,(A k3).1⟩
      have gM:c≠want->(∀z,Fr X a z->z.tmps.size=a.tmps.size->z.defers=a.defers->wpList P all Q (u::Z++rest) z w)->wpList P all Q (l1++(u::Z++rest)) a w:=by
       intro m O;obtain⟨m1,m2,q1,q2,q3⟩:=afi m;rw[e1] at q1;obtain⟨rfl,rfl⟩:=List.append_inj q1 (by rw[q2,I1.length]);exact q3 _ O
      cases OK:HV cx X with
      | true =>
        rw[OK] at q;simp only[ev] at q;obtain⟨cc,I,H⟩:=bind_some q;rcases Q5 (c:=c) (want:=want) I with ⟨m,I⟩|⟨m,hcn,I⟩
        .obtain⟨τ,t1,Y⟩:=bind_some I;split at Y
         .rename_i v C;obtain rfl:=aG Y;refine ih I1 (hG1 m) d1 t1 h λs z J R x1 D=>tail s τ _ z J v want R D m C (λy hy=>⟨s,?_,?_⟩) H
          .rw[F];exact R.ur L hy
          .rw[W];exact x1
         .exact absurd Y (by intro k;cases k)
        .split at I
         .rename_i v C;obtain rfl:=aG I;refine gM m λz D f2 f3=>tail γ (σ.undef X) _ z w v (!want) (h.undef D (f2.trans h.size)<|f3.trans h.defers) D hcn C (λy hy=>⟨γ,?_,?_⟩) H
          .rw[F];exact(h.undef D (f2.trans h.size)<|f3.trans h.defers).ur L hy
          .rw[W,tY];exact Ext.refl _ _ _ _
         .exact absurd I (by intro k;cases k)
      | false =>
        rw[OK] at q;simp only[iU] at q;split at q
        case h_2=>exact absurd q (by intro k;cases k)
        rename_i t dp hT hdp;rw[Tree.zi] at q;obtain⟨x,I,H⟩:=A7.1 q;have K:u.dst=some dp:=by rw[<-F];exact hdp
        rcases Q5 (c:=c) (want:=want) I with ⟨m,I⟩|⟨m,hcn,I⟩
        .obtain⟨τ,t1,Y⟩:=bind_some I;split at Y
         .rename_i x' C;obtain rfl:=aG Y;obtain⟨v,hv1,hv2⟩:=A7.1 C;refine ih I1 (hG1 m) d1 t1 h.iJ λs z J R x1 D=>tail s τ _ z J v want R D m hv1 (λy hy=>?_) H;obtain⟨m1,m2⟩:=h.ok.unlock (OW<|Dm afg n X _ τ t1) R.ok x1;have hS:cM B N s σ a J:=h.go m2 m1;have hS2:=hS.undef D R.size R.defers;refine⟨s,?_,?_⟩
          .rw[K];exact hS2.ur (d:=some dp) (λk O=>L k (by rw[K];exact O)) (VI hv2 hy)
          .show Ext B γ σ.mem w s (σ.undef X).mem J
           rw[tY];exact m2
         .exact absurd Y (by intro k;cases k)
        .split at I
         .rename_i x' C;obtain rfl:=aG I;obtain⟨v,hv1,hv2⟩:=A7.1 C;refine gM m λz D f2 f3=>tail γ (σ.undef X) _ z w v (!want) (h.undef D (f2.trans h.size)<|f3.trans h.defers) D hcn hv1 (λy hy=>⟨γ,?_,?_⟩) H
          .rw[K];exact(h.undef D (f2.trans h.size)<|f3.trans h.defers).ur (d:=some dp) (λk O=>L k (by rw[K];exact O)) (VI hv2 hy)
          .show Ext B γ σ.mem w γ (σ.undef X).mem w
           rw[tY];exact Ext.refl _ _ _ _
         .exact absurd I (by intro k;cases k)
end
end Go.Ge
namespace Go.Ge
open RowKit
section
variable {P:Program} {B:qM} {N:Nat} {γ:Gh} {σ bb:St} {a:Act} {w w':World} {cx:Ctx} {nb:Nat} {bf:List Nat} {inl:Nat->List aL->St->Tree (aL×St)} {ops:Array Oper}
theorem OX:∀{l:List Oper} {k:Nat},(∀j,l[j]?=ops[k+j]?)->qQ ops [] (number k l) l:=by
 intro l;induction l with
 | nil=>intro k _;exact .nil
 | cons o l b =>
   intro k h;refine .cons ?_ (.inl rfl) (b λj=>by have:=h (j+1);simpa [xF,Vz 1 j] using this);have:=h 0;simpa using this.symm
theorem TQ:∀{l:List Oper} {k i:Nat} {o:Oper},(i,o)∈number k l->o∈l:=by
 intro l;induction l with
 | nil=>intro k i o h;cases h
 | cons p l b =>
   intro k i o h;rcases gd.1 h with h|h
   .obtain⟨_,rfl⟩:=bk h;exact mJ ..
   .exact oh _ (b h)
theorem OY(q:fv P cx)(c:pC P B.G cx)(e:vn P B.G inl)(b:∀f m σ v bb,(inl f m σ).run=some (v,bb)->bj σ bb){Q:Exit->Act->World->Prop}{id:Nat}
  (r:∀o∈ops.toList,∀k,o.dst=some k->k<N) (t:(ID cx nb bf inl ops σ).run=some bb) (h:cM B N γ σ a w)
  (u:∀bM n w',cM B N bM bb n w'->Ext B γ σ.mem w bM bb.mem w'->Fr (number 0 ops.toList) a n->Q .normal n w'):(Code.region id ops false).wp P Q a w:=by
 refine wp_region_list ?_;have:=LB (all:=ops) (Q:=Q) (rest:=[]) q c e b _ (OX (l:=ops.toList) (k:=0) λj=>by simp) (λg y=>by cases y) (λi o z=>r o (TQ z)) t h
  (λbM n w' s x f=>wpList_nil (u bM n w' s x f))
 simpa using this
end
end Go.Ge
namespace Go.Ge
open RowKit
def iM(p:Nat->Prop)(e c:St):Prop:=∀b,c.mem b=e.mem b\/(c.mem b≠none/\p b)
section
variable {p:Nat->Prop} {σ τ ρ:St}
theorem iM.refl(σ:St):iM p σ σ:=λ_=>.inl rfl
theorem iM.ZP(h:τ.mem=σ.mem):iM p σ τ:=λb=>.inl (by rw[h])
theorem iM.trans(h:iM p σ τ)(k:iM p τ ρ):iM p σ ρ:=λb=>by
 rcases k b with c|c
 .rcases h b with e|⟨e,f⟩
  .exact .inl (c.trans e)
  .exact .inr ⟨by rw[c];exact e,f⟩
 .exact .inr c
theorem iM.aW(b:St)(d:Option Nat)(v:aL):iM p b (b.aW d v):=by cases d<;>exact λ_=>.inl rfl
theorem iM.put(b:St)(d:Nat)(v:aL):iM p b (b.put d v):=λ_=>.inl rfl
theorem iM.b4{b:Nat}{bx:bB}(h:p b):iM p σ (σ.b4 b bx):=λc=>by
 by_cases e:c=b
 .subst e;exact .inr ⟨by simp[St.b4],h⟩
 .exact .inl (by rw[uv,aS _ e])
end
def aH(p:Nat->Prop)(b:St)(T:Tree St):Prop:=∀y,T.run=some y->iM p b y
section
variable {p:Nat->Prop} {σ:St}
theorem aH.fail:aH p σ .fail:=λy h=>by cases h
theorem aH.ret{b:St}(h:iM p σ b):aH p σ (.ret b):=λy c=>by obtain rfl:=aG c;exact h
theorem aH.bif{c:Bool}{t:Tree St}(h:aH p σ t):aH p σ (bif c then t else .fail):=λy b=>h y (ay b).2
theorem aH.need{c:Bool}{t:Tree St}(h:aH p σ t):aH p σ (.need c t):=λy b=>h y (cl b).2
theorem aH.look{T:Type}{o:Option T}{k:T->Tree St}(h:∀x,aH p σ (k x)):aH p σ (.look o k):=λy b=>by obtain⟨x,_,c⟩:=bY b;exact h x y c
theorem aH.node{c:Bool}{t e:Tree St}(h:aH p σ t)(k:aH p σ e):aH p σ (.node c t e):=λy b=>by
 have:=gg b;cases c with
 | true=>exact h y this
 | false=>exact k y this
theorem aH.bind{α:Type}{t:Tree α}{f:α->Tree St}(h:∀x,t.run=some x->aH p σ (f x)):aH p σ (t.bind f):=λy b=>by obtain⟨x,c,e⟩:=bind_some b;exact h x c y e
theorem aH.aQ{b:Nat}{c:aL}{tid:TypeId}{e:Bool}{d:Nat}{v:Nat->aL}(h:p b):aH p σ (σ.aQ b c tid e λaM σ=>.ret (σ.put d<|v aM)):=λy f=>by
 obtain⟨aM,i,g⟩:=kI f;obtain rfl:=aG g;exact(iM.b4 h).trans (iM.put _ _ _)
theorem Jo{g e:St}{b:Nat}(j:∀b,g.mem b≠none->p b)(h:freeze g b=some e):iM p g e:=by
 unfold freeze at h;split at h
 .rename_i i k;cases c:i.ro with
  | true=>simp only[c,ev,sa] at h;rw[<-h];exact iM.refl _
  | false =>
    cases f:i.lk with
    | true=>simp[c,f] at h
    | false =>
      simp only[c,f,iU,sa] at h;rw[<-h];exact iM.b4 (j b<|by rw[k];simp)
 .cases h
def G8(p:Nat->Prop)(e c:St):Prop:=(∀b,e.mem b≠none->p b)->iM p e c/\∀b,c.mem b≠none->p b
theorem G8.refl(σ:St):G8 p σ σ:=λh=>⟨iM.refl _,h⟩
theorem G8.trans{σ b c:St}(h:G8 p σ b)(k:G8 p b c):G8 p σ c:=λe=>by
 obtain⟨f,g⟩:=h e;obtain⟨i,j⟩:=k g;exact⟨f.trans i,j⟩
theorem G8.of{e c:St}(h:(∀b,e.mem b≠none->p b)->iM p e c):G8 p e c:=λf=>by
 refine⟨h f,λb g=>?_⟩;rcases h f b with k|k
 .exact f b (by rw[<-k];exact g)
 .exact k.2
theorem Q6:∀{v:aL} {σ bb:St},gL σ v=some bb->G8 p σ bb:=by
 intro v;induction v with
 | mix p q c e =>
   intro σ bb h;obtain⟨bC,g,i⟩:=vm h;exact(c g).trans (e i)
 | whole b aM=>intro σ bb h;exact G8.of λf=>Jo f h
 | part b aM lo n=>intro σ bb h;exact G8.of λf=>Jo f h
 | _=>intro σ bb h;obtain rfl:=aG h;exact G8.refl _
theorem xc{t:Ty}{x:t.den}{v:aL}{c b:St}(h:wQ c t v=some (x,b)):G8 p c b:=by
 unfold wQ at h;split at h
 .split at h
  .obtain⟨_,rfl⟩:=bk (aG h);exact G8.refl _
  .cases h
 .split at h
  .rename_i y bC f e;obtain⟨_,rfl⟩:=bk (aG h);exact Q6 e
  .cases h
theorem zB:∀{A:Ty} {x:A.den} {vs:List aL} {σ bb:St},kS σ A vs=some (x,bb)->G8 p σ bb:=by
 intro A;induction A with
 | pair t r e c =>
   intro x vs σ bb b;cases vs with
   | nil=>cases b
   | cons v vs =>
     simp only[kS] at b;split at b
     .rename_i p bC f;split at b
      .rename_i q cc g;obtain⟨_,rfl⟩:=bk (aG b);exact(xc f).trans (c g)
      .cases b
     .cases b
 | unit =>
   intro x vs σ bb b;cases vs with
   | nil=>obtain⟨_,rfl⟩:=bk (aG b);exact G8.refl _
   | cons v vs=>cases b
 | _=>intro x vs σ bb b;cases vs<;>cases b
theorem Jp{t:Ty}:∀{parts:List (Nat×Operand)} {x b:t.den} {σ bb:St},gr σ t x parts=some (b,bb)->G8 p σ bb:=by
 intro parts;induction parts with
 | nil=>intro x b σ bb h;obtain⟨_,rfl⟩:=bk (aG h);exact G8.refl _
 | cons p r c =>
   obtain⟨k,o⟩:=p;intro x b σ bb h;simp only[gr] at h;split at h
   .split at h
    .rename_i e;split at h
     .exact(xc e).trans (c h)
     .cases h
    .cases h
   .cases h
theorem wc{e:Ty}:∀{parts:List (Nat×Operand)} {l c:List e.den} {σ bb:St},fm σ e l parts=some (c,bb)->G8 p σ bb:=by
 intro parts;induction parts with
 | nil=>intro x i σ bb h;obtain⟨_,rfl⟩:=bk (aG h);exact G8.refl _
 | cons p r f =>
   obtain⟨k,o⟩:=p;intro l c σ bb h;simp only[fm] at h;split at h
   .rename_i g;cases b:Nat.blt k l.length with
    | false=>rw[b] at h;cases h
    | true=>rw[b] at h;exact(xc g).trans (f h)
   .cases h
theorem Gf{b g:Nat}{q:List BV}{h:aL->Bool}{u:aL}{n e:St}(f:(storeAt b g q h u n).run=some e):G8 p n e:=G8.of λr=>by
 unfold storeAt at f;split at f
 case h_2=>exact absurd f (by intro k;cases k)
 rename_i v s;obtain⟨x,i⟩:=ay f;obtain⟨t,y,j⟩:=bind_some i;obtain⟨o,l⟩:=ay j;obtain⟨c,z,m⟩:=bind_some l;obtain rfl:=aG m;exact iM.b4 (r b<|by rw[s];simp)
theorem Q7{b g:Nat}{r:List BV}{n:Nat}{u:aL}{o e:St}(f:(rA b g r n u o).run=some e):G8 p o e:=G8.of λs=>by
 unfold rA at f;split at f
 case h_2=>exact absurd f (by intro k;cases k)
 rename_i y t;obtain⟨z,h⟩:=ay f;obtain⟨v,A,i⟩:=bind_some h;obtain⟨q,j⟩:=ay i;obtain⟨c,C,l⟩:=bind_some j;obtain⟨x,m⟩:=ay l;obtain rfl:=aG m;exact iM.b4 (s b<|by rw[t];simp)
theorem LC{m:Ctx}{i:List Nat}{n:TypeId}{x y:aL}{g c:St}(f:(lS m i n x y g).run=some c):G8 p g c:=by
 unfold lS at f;split at f
 case h_2=>exact absurd f (by intro k;cases k)
 split at f
 case h_2=>exact absurd f (by intro k;cases k)
 obtain⟨j,h⟩:=ay f;obtain⟨o,s,e⟩:=bind_some h;split at e
 .rename_i u _;obtain⟨q,b⟩:=ay e;cases l:cI i 8000000&&Zr u y with
  | true=>rw[l] at b;exact Q7 b
  | false =>
  rw[l] at b;replace b:(match wQ g u y with|some (y,g)=>storeAt _ _ _ (WK u) (.data u y) g|none=>.fail).run=some c:=b;split at b
  .rename_i r;exact(xc r).trans (Gf b)
  .exact absurd b (by intro k;cases k)
 .obtain⟨q,b⟩:=ay e;exact Gf b
theorem zC{j:Ctx}{i:Nat}{d:Option Nat}{m:TypeId}{s x:aL}{g f:St}(n:∀k,d=some k->p (i+k))(o:∀b,g.mem b≠none->p b)(c:(iq j i d m s x g).run=some f):iM p g f:=by
 unfold iq at c;split at c
 case h_2=>exact absurd c (by intro k;cases k)
 split at c
 case h_2=>exact absurd c (by intro k;cases k)
 split at c
 .obtain⟨q,e⟩:=cl c;exact aH.aQ (n _ rfl) _ e
 .split at c
  case h_2=>exact absurd c (by intro k;cases k)
  rename_i u l r v;obtain⟨t,h⟩:=xR c;obtain⟨q,e⟩:=cl h;obtain rfl:=aG e;exact(iM.b4<|o _<|by rw[r];simp).trans (iM.put _ _ _)
 .exact absurd c (by intro k;cases k)
theorem Jq{b:Nat}{f:aL}{g:TypeId}{i:Bool}{d:Nat}{v:Nat->aL}{e c:St}(h:p b)(k:(e.aQ b f g i λj e=>.ret (e.put d<|v j)).run=some c):iM p e c:=aH.aQ h _ k
theorem LD{i:Nat}{e:Ty}{d:Option Nat}{f:List aL}{h g:St}(j:∀k,d=some k->p (i+k))(l:∀b,h.mem b≠none->p b)(c:(lW i e d f h).run=some g):iM p h g:=by
 unfold lW at c;split at c
 case h_2=>cases c
 split at c
 case h_2=>cases c
 rename_i m;obtain⟨_,c⟩:=ay c;obtain⟨_,c⟩:=cl c;exact((xc m) l).1.trans (Jq (j _ rfl) c)
theorem LF{h g:Nat}{d:Option Nat}{c:List aL}{i e:St}(j:∀k,d=some k->p (h+k))(b:(lX h g d c i).run=some e):iM p i e:=by
 unfold lX at b;split at b
 .cases b
 .cases b
 .exact Jq (v:=λf=>.fn g [(_,f)]) (j _ rfl) (ay b).2
 .cases b
theorem Q8{e A:Ty}{f:Bool}{g:List e.den->A.den->Option (List e.den)}{d:Option Nat}{h:List aL}{m i:St}(q:∀b,m.mem b≠none->p b)(c:(rB e A f g d h m).run=some i):iM p m i:=by
 unfold rB at c;split at c
 case h_2=>cases c
 split at c
 case h_2=>cases c
 rename_i x bC r;split at c
 case h_2=>cases c
 rename_i b s v l n;obtain⟨y,_,c⟩:=bY c;obtain⟨t,_⟩:=so n;obtain⟨o,u⟩:=(zB r) q;have key:∀j,iM p bC (bC.b4 b j):=λj=>iM.b4 (u b<|by rw[t];simp);cases f with
 | true =>
   cases d with
   | none=>cases c
   | some k=>obtain rfl:=aG c;exact(o.trans<|key _).trans (iM.put _ _ _)
 | false =>
   cases d with
   | none=>obtain⟨_,c⟩:=ay c;obtain rfl:=aG c;exact(o.trans<|key _).trans (iM.aW _ none _)
   | some k=>obtain⟨_,c⟩:=ay c;obtain rfl:=aG c;exact(o.trans<|key _).trans (iM.aW _ (some _) _)
end
section
variable {cx:Ctx} {nb:Nat} {bf:List Nat} {d:Option Nat} {σ:St} {p:Nat->Prop}
theorem OZ{c a b:aL}:aH p σ (ou d c a b σ):=by unfold ou;(repeat' (first|exact aH.fail|exact aH.ret (iM.aW _ _ _)|exact aH.ret (iM.put _ _ _)|exact aH.aQ (by assumption)|refine aH.bif ?_|refine aH.need ?_|refine aH.look λ_=>?_|refine aH.node ?_ ?_|refine aH.bind λ_ _=>?_|split))
theorem O0{b:TypeId}{a:aL}:aH p σ (lv cx d b a σ):=by unfold lv;(repeat' (first|exact aH.fail|exact aH.ret (iM.aW _ _ _)|exact aH.ret (iM.put _ _ _)|exact aH.aQ (by assumption)|refine aH.bif ?_|refine aH.need ?_|refine aH.look λ_=>?_|refine aH.node ?_ ?_|refine aH.bind λ_ _=>?_|split))
theorem LG{b:TypeId}{x:aL}{c e:Option Operand}:aH p σ (lT cx d b x c e σ):=by unfold lT;(repeat' (first|exact aH.fail|exact aH.ret (iM.aW _ _ _)|exact aH.ret (iM.put _ _ _)|exact aH.aQ (by assumption)|refine aH.bif ?_|refine aH.need ?_|refine aH.look λ_=>?_|refine aH.node ?_ ?_|refine aH.bind λ_ _=>?_|split))
theorem W1{b c:Nat}{i:Int}:∀{m k:Nat},aH p σ (IB d b c σ i m k):=by
 intro m;induction m with
 | zero=>intro k;exact aH.fail
 | succ m e=>intro k;exact aH.node (aH.ret<|iM.aW _ _ _) e
theorem vp{b:TypeId}{x:aL}{i:Int}:aH p σ (eo cx d b x i σ):=by
 unfold eo;split
 case h_6=>split
           .exact aH.bif W1
           .exact aH.fail
 all_goals (repeat' (first|exact aH.fail|exact aH.ret (iM.aW _ _ _)|exact aH.ret (iM.put _ _ _)|exact aH.aQ (by assumption)|refine aH.bif ?_|refine aH.need ?_|refine aH.look λ_=>?_|refine aH.node ?_ ?_|refine aH.bind λ_ _=>?_|split))
theorem LH{b:TypeId}{x:aL}{i:Int}:aH p σ (lU cx d b x i σ):=by
 unfold lU;split
 .refine aH.bif ?_;split
  .exact aH.bif (aH.ret<|iM.aW _ _ _)
  .exact aH.fail
 .exact vp
theorem LI{b:TypeId}{x:aL}{i:Int}:aH p σ (lV cx d b x i σ):=by unfold lV;(repeat' (first|exact aH.fail|exact aH.ret (iM.aW _ _ _)|exact aH.ret (iM.put _ _ _)|exact aH.aQ (by assumption)|refine aH.bif ?_|refine aH.need ?_|refine aH.look λ_=>?_|refine aH.node ?_ ?_|refine aH.bind λ_ _=>?_|split))
theorem Dn{s:TypeId}{x:aL}{k:Nat}:aH p σ (eT cx d s x k σ):=by unfold eT;(repeat' (first|exact aH.fail|exact aH.ret (iM.aW _ _ _)|exact aH.ret (iM.put _ _ _)|exact aH.aQ (by assumption)|refine aH.bif ?_|refine aH.need ?_|refine aH.look λ_=>?_|refine aH.node ?_ ?_|refine aH.bind λ_ _=>?_|split))
theorem zD{b:TypeId}{v:aL}(c:∀k,d=some k->p (nb+k)):aH p σ (jK cx nb bf d b v σ):=by
 unfold jK;split
 ·(repeat' (first|exact aH.fail|exact aH.ret (iM.aW _ _ _)|exact aH.ret (iM.put _ _ _)|exact aH.aQ (by assumption)|refine aH.bif ?_|refine aH.need ?_|refine aH.look λ_=>?_|refine aH.node ?_ ?_|refine aH.bind λ_ _=>?_|split))
 .split
  .rename_i k e _;cases cI bf k with
   | true=>exact aH.aQ (c _ rfl)
   | false=>exact aH.ret (iM.put _ _ _)
  .exact aH.ret (iM.aW _ _ _)
 .exact aH.ret (iM.aW _ _ _)
theorem G9{s t:TypeId}{x:aL}(b:∀k,d=some k->p (nb+k)):aH p σ (gW cx nb d s t x σ):=by
 unfold gW;split
 ·(repeat' (first|exact aH.fail|exact aH.ret (iM.aW _ _ _)|exact aH.ret (iM.put _ _ _)|exact aH.aQ (by assumption)|refine aH.bif ?_|refine aH.need ?_|refine aH.look λ_=>?_|refine aH.node ?_ ?_|refine aH.bind λ_ _=>?_|split))
 ·(repeat' (first|exact aH.fail|exact aH.ret (iM.aW _ _ _)|exact aH.ret (iM.put _ _ _)|exact aH.aQ (by assumption)|refine aH.bif ?_|refine aH.need ?_|refine aH.look λ_=>?_|refine aH.node ?_ ?_|refine aH.bind λ_ _=>?_|split))
 .split
  .exact aH.need (aH.aQ<|b _ rfl)
  .exact aH.fail
 ·(repeat' (first|exact aH.fail|exact aH.ret (iM.aW _ _ _)|exact aH.ret (iM.put _ _ _)|exact aH.aQ (by assumption)|refine aH.bif ?_|refine aH.need ?_|refine aH.look λ_=>?_|refine aH.node ?_ ?_|refine aH.bind λ_ _=>?_|split))
 ·(repeat' (first|exact aH.fail|exact aH.ret (iM.aW _ _ _)|exact aH.ret (iM.put _ _ _)|exact aH.aQ (by assumption)|refine aH.bif ?_|refine aH.need ?_|refine aH.look λ_=>?_|refine aH.node ?_ ?_|refine aH.bind λ_ _=>?_|split))
theorem Ni{l:Nat->Option bB}:∀{o:OT} {v:aL} {u:o.den} {N M:List (Nat×Nat)},db l o v=some (u,N,M)->∀b∈bo N M,l b≠none:=by
 intro o;induction o with
 | zf t =>
   intro v u N M h;unfold db at h;split at h
   .cases h;intro b j;cases j
   .cases h
 | buf e r =>
   intro v u N M h;unfold db at h;split at h
   case h_2=>cases h
   rename_i b k;split at h
   case h_2=>cases h
   rename_i g j;cases i:(Nat.beq g.aM k&&g.buf&&!g.lk&&!g.ro&&Nat.beq g.tid r&&Nat.blt 0 e.size) with
   | false=>rw[i] at h;cases h
   | true =>
     rw[i] at h;simp only[ev] at h;split at h
     case h_2=>cases h
     split at h
     case h_2=>cases h
     cases h;intro c f;have:c=b:=by simpa [bo] using f
     subst this;rw[j];simp
 | ref tid o A =>
   intro v u N M h;unfold db at h;split at h
   case h_2=>cases h
   rename_i b k;split at h
   case h_2=>cases h
   rename_i g j;cases i:(Nat.beq g.aM k&&!g.buf&&!g.lk&&!g.ro&&Nat.beq g.tid tid) with
   | false=>rw[i] at h;cases h
   | true =>
     rw[i] at h;simp only[ev] at h;split at h
     case h_2=>cases h
     rename_i F C D E;cases h;intro c f;unfold bo at f;simp only[tq,y8,gd] at f;rcases f with rfl|f
     .rw[j];simp
     .exact A E c f
 | pair p q m n =>
   intro v u N M h;unfold db at h;split at h
   case h_2=>cases h
   split at h
   case h_2=>cases h
   rename_i x C D y G H s z;cases h;intro c f;unfold bo at f;simp only[xE,ra] at f;rcases f with (f|f)|(f|f)
   .exact m s c (mI _ f)
   .exact n z c (mI _ f)
   .exact m s c (nC _ f)
   .exact n z c (nC _ f)
 | unit =>
   intro v u N M h;unfold db at h;split at h
   case h_2=>cases h
   cases h;intro b j;cases j
 | dM =>
   intro v u N M h;unfold db at h;split at h
   case h_2=>cases h
   cases h;intro b j;cases j
theorem Q9{i:St}:∀{ps:List Bool} {A:Ty} {U:OT} {vs:List aL} {x:A.den} {u:U.den} {N M:List (Nat×Nat)},ew i ps A U vs=some (x,u,N,M)->∀b∈bo N M,i.mem b≠none:=by
 intro ps;induction ps with
 | nil =>
   intro A U vs x u N M h;cases A<;>first|(cases h;done)|skip
   cases U<;>first|(cases h;done)|skip
   cases vs with
   | cons v r=>cases h
   | nil=>cases h;intro b k;cases k
 | cons q ps g =>
   intro A U vs x u N M h;cases q with
   | false =>
     cases A<;>first|(cases h;done)|skip
     cases vs with
     | nil=>cases h
     | cons v r =>
       simp only[ew] at h;split at h
       .rename_i f;cases h;exact g f
       .cases h
   | true =>
     cases U<;>first|(cases h;done)|skip
     rename_i o U;cases o<;>first|(cases h;done)|skip
     case dM =>
      cases vs with
      | nil=>cases h
      | cons v r =>
        cases v<;>first|(cases h;done)|skip
        simp only[ew] at h;split at h
        .rename_i f;cases h;exact g f
        .cases h
     cases vs with
     | nil=>cases h
     | cons v r =>
       simp only[ew] at h;split at h
       .rename_i l m n s t y z j f;cases h;intro c e;unfold bo at e;simp only[xE,ra] at e;rcases e with (e|e)|(e|e)
        .exact Ni j c (mI _ e)
        .exact g f c (mI _ e)
        .exact Ni j c (nC _ e)
        .exact g f c (nC _ e)
       .cases h
theorem Ra{c:List Bool}{A:Ty}{U:OT}{e:List aL}{x:A.den}{u y:U.den}{N M:List (Nat×Nat)}(h:ew σ c A U e=some (x,u,N,M))(f:∀b,σ.mem b≠none->p b):iM p σ (kT U y N M σ):=λb=>by
 rw[gX];cases hv:iV U y N (M.map λp=>(p.1,p.2+1)) b with
 | none=>exact .inl rfl
 | some v=>exact .inr ⟨by simp,f b (Q9 h b (by have:=pg hv;rwa [uy] at this))⟩
theorem abT{f:Nat}{b:List aL}{k:wO}(h:find cx.Om (WL f b)=some k):adE cx f=true:=by
 unfold adE;split
 .rfl
 .rename_i c;unfold WL at h;split at h
  .rw[h]
  .rw[c] at h;cases h
theorem TR{o:Oper}{i:Option Nat}(T:ow o σ=i)(I:cls cx i o≠3)(C:cls cx i o≠0->∀k,o.dst=some k->p (nb+k))(F:cls cx i o≠0->cls cx i o≠1->∀b,σ.mem b≠none->p b):aH p σ (pW cx nb bf zm o σ):=by
 unfold pW;split
 case h_1 x h=>exact zD (C<|by simp[cls,h])
 case h_2 x h=>exact zD (C<|by simp[cls,h])
 case h_3=>exact OZ
 case h_4 e h =>
  split
  .rename_i k t R L;have h0:cls cx i o≠0:=by
    cases t<;>simp[cls,h,L]
   unfold tV;split
   .exact absurd (by simp[cls,h,L]) I
   .exact aH.aQ (C h0 _<|by assumption)
  .rename_i L;split
   .rename_i J;exact absurd (by simp[cls,h,L,J]) I
   .rename_i J;exact aH.bif (aH.aQ<|C (by simp[cls,h,L,J]) _<|by assumption)
  .exact aH.fail
 case h_5 e x h =>
  unfold CS;split
  .exact aH.fail
  .exact aH.fail
  .split
   .rename_i J;exact absurd (by simp[cls,h,J]) I
   .rename_i J;exact aH.aQ (C (by simp[cls,h,J]) _<|by assumption)
  .exact aH.fail
 case h_6 t ps h =>
  have z:=F (by simp[cls,h]) (by simp[cls,h]);split
  .split
   .rename_i G;exact aH.ret ((Jp G z).1.trans<|iM.aW _ _ _)
   .exact aH.fail
  .split
   .rename_i G;exact aH.ret ((wc G z).1.trans<|iM.aW _ _ _)
   .exact aH.fail
  ·(repeat' (first|exact aH.fail|exact aH.ret (iM.aW _ _ _)|exact aH.ret (iM.put _ _ _)|exact aH.aQ (by assumption)|refine aH.bif ?_|refine aH.need ?_|refine aH.look λ_=>?_|refine aH.node ?_ ?_|refine aH.bind λ_ _=>?_|split))
  .exact aH.fail
 case h_7 t n ps h =>
  have z:=F (by simp[cls,h]) (by simp[cls,h]);split
  .split
   .rename_i k O S;exact aH.aQ (C (by simp[cls,h]) k (B9 O).1)
   .refine aH.bif ?_;split
    .rename_i G;split
     .rename_i k R;exact λy m=>(wc G z).1.trans (aH.aQ (C (by simp[cls,h]) k<|vo R) _ m)
     .exact aH.ret ((wc G z).1.trans<|iM.aW _ _ _)
    .exact aH.fail
  .unfold Av;split
   .exact aH.bif (aH.aQ<|C (by simp[cls,h]) _<|by assumption)
   .exact aH.fail
  .exact aH.fail
 case h_8=>exact O0
 case h_9 t a x h =>
  have z:=F (by simp[cls,h]) (by simp[cls,h]);split
  .exact λy m=>(LC m z).1
  .exact aH.fail
 case h_10=>(repeat' (first|exact aH.fail|exact aH.ret (iM.aW _ _ _)|exact aH.ret (iM.put _ _ _)|exact aH.aQ (by assumption)|refine aH.bif ?_|refine aH.need ?_|refine aH.look λ_=>?_|refine aH.node ?_ ?_|refine aH.bind λ_ _=>?_|split))
 case h_11=>(repeat' (first|exact aH.fail|exact aH.ret (iM.aW _ _ _)|exact aH.ret (iM.put _ _ _)|exact aH.aQ (by assumption)|refine aH.bif ?_|refine aH.need ?_|refine aH.look λ_=>?_|refine aH.node ?_ ?_|refine aH.bind λ_ _=>?_|split))
 case h_12=>(repeat' (first|exact aH.fail|exact aH.ret (iM.aW _ _ _)|exact aH.ret (iM.put _ _ _)|exact aH.aQ (by assumption)|refine aH.bif ?_|refine aH.need ?_|refine aH.look λ_=>?_|refine aH.node ?_ ?_|refine aH.bind λ_ _=>?_|split))
 case h_13 s t x h=>exact G9 (C<|by simp[cls,h])
 case h_14=>(repeat' (first|exact aH.fail|exact aH.ret (iM.aW _ _ _)|exact aH.ret (iM.put _ _ _)|exact aH.aQ (by assumption)|refine aH.bif ?_|refine aH.need ?_|refine aH.look λ_=>?_|refine aH.node ?_ ?_|refine aH.bind λ_ _=>?_|split))
 case h_15=>exact LG
 case h_16=>exact Dn
 case h_17=>(repeat' (first|exact aH.fail|exact aH.ret (iM.aW _ _ _)|exact aH.ret (iM.put _ _ _)|exact aH.aQ (by assumption)|refine aH.bif ?_|refine aH.need ?_|refine aH.look λ_=>?_|refine aH.node ?_ ?_|refine aH.bind λ_ _=>?_|split))
 case h_18=>split
            .cases cI bf 5000000 with
             | true=>exact LH
             | false=>exact vp
            .exact aH.fail
 case h_19=>split
            .exact LI
            .exact aH.fail
 case h_20 t l c h =>
  split
  .exact aH.need (aH.need<|aH.aQ<|C (by simp[cls,h]) _<|by assumption)
  .exact aH.fail
 case h_21=>(repeat' (first|exact aH.fail|exact aH.ret (iM.aW _ _ _)|exact aH.ret (iM.put _ _ _)|exact aH.aQ (by assumption)|refine aH.bif ?_|refine aH.need ?_|refine aH.look λ_=>?_|refine aH.node ?_ ?_|refine aH.bind λ_ _=>?_|split))
 case h_22 c h =>
  unfold uj;split
  .rename_i b G;split
   ·(repeat' (first|exact aH.fail|exact aH.ret (iM.aW _ _ _)|exact aH.ret (iM.put _ _ _)|exact aH.aQ (by assumption)|refine aH.bif ?_|refine aH.need ?_|refine aH.look λ_=>?_|refine aH.node ?_ ?_|refine aH.bind λ_ _=>?_|split))
   .have j:cls cx i o≠0:=by simp[cls,h,G]
    have D:cls cx i o≠1:=by simp[cls,h,G]
    split
    .exact λy m=>zC (C j) (F j D) m
    .exact λy m=>zC (C j) (F j D) m
    .exact aH.fail
   .exact absurd (by simp[cls,h,G]) I
   .exact absurd (by simp[cls,h,G]) I
   ·(repeat' (first|exact aH.fail|exact aH.ret (iM.aW _ _ _)|exact aH.ret (iM.put _ _ _)|exact aH.aQ (by assumption)|refine aH.bif ?_|refine aH.need ?_|refine aH.look λ_=>?_|refine aH.node ?_ ?_|refine aH.bind λ_ _=>?_|split))
   ·(repeat' (first|exact aH.fail|exact aH.ret (iM.aW _ _ _)|exact aH.ret (iM.put _ _ _)|exact aH.aQ (by assumption)|refine aH.bif ?_|refine aH.need ?_|refine aH.look λ_=>?_|refine aH.node ?_ ?_|refine aH.bind λ_ _=>?_|split))
   .exact aH.fail
  .rename_i f H;split
   .rename_i g W U;refine aH.bif ?_;have q:i=some (QC g):=by rw[<-T];simp[ow,h,H,U]
    generalize QC g=g' at q⊢;unfold tu;split
    .rename_i e Q;have key:cls cx i o=2:=by simp[cls,h,H,q,pD Q]
     have j:cls cx i o≠0:=by rw[key];simp
     have D:cls cx i o≠1:=by rw[key];simp
     exact λy m=>LD (C j) (F j D) m
    .rename_i e A r s Q;have key:cls cx i o=2:=by simp[cls,h,H,q,pD Q]
     have j:cls cx i o≠0:=by rw[key];simp
     have D:cls cx i o≠1:=by rw[key];simp
     exact λy m=>Q8 (F j D) m
    .rename_i g' Q;have key:cls cx i o=2:=by simp[cls,h,H,q,pD Q]
     have j:cls cx i o≠0:=by rw[key];simp
     exact λy m=>LF (C j) m
    rename_i X Y Z;unfold v7;split
    .rename_i YH v;split
     .split
      .exact aH.look λ_=>aH.ret (iM.aW _ _ _)
      .exact aH.fail
     .rename_i V;have key:cls cx i o=2:=by
       unfold cls;simp only[h,H,q];split
       .rfl
       .rfl
       .rfl
       .simp[v,V]
      have j:cls cx i o≠0:=by rw[key];simp
      have D:cls cx i o≠1:=by rw[key];simp
      split
      .rename_i K;exact aH.look λ_=>aH.ret ((zB K<|F j D).1.trans<|iM.aW _ _ _)
      .exact aH.fail
    .rename_i v;split
     .rename_i s E;unfold Au;split
      .exact absurd (by simp[cls,h,H,q,v,E]) I
      .exact absurd (by simp[cls,h,H,q,v,E]) I
      .exact aH.fail
     .rename_i E;split
      .rename_i k R;have key:cls cx i o=2:=by simp[cls,h,H,q,v,E,abT R]
       have j:cls cx i o≠0:=by rw[key];simp
       have D:cls cx i o≠1:=by rw[key];simp
       split
       .rename_i x u N M K;exact aH.bif (aH.look λy=>aH.ret ((Ra K<|F j D).trans<|iM.aW _ _ _))
       .exact λy m=>by cases m
      .exact λy m=>by cases m
   .exact aH.fail
  .rename_i r name H;have key:cls cx i o=2:=by simp[cls,h,H]
   have j:cls cx i o≠0:=by rw[key];simp
   have D:cls cx i o≠1:=by rw[key];simp
   unfold rf;split
   .split
    .rename_i K;exact aH.look λ_=>aH.ret ((zB K<|F j D).1.trans<|iM.aW _ _ _)
    .exact aH.fail
   .exact aH.fail
 case h_23 u x h =>
  have key:cls cx i o=2:=by simp[cls,h]
  have j:cls cx i o≠0:=by rw[key];simp
  have D:cls cx i o≠1:=by rw[key];simp
  unfold re;split
  .split
   .split
    .rename_i K;exact aH.ret ((xc K<|F j D).1.trans<|iM.aW _ _ _)
    .exact aH.fail
   .exact aH.fail
  .exact aH.fail
 case h_24=>exact aH.fail
end
end Go.Ge
