import Derived.Test.YtcebnmppipejfaaGreatDoorGeF
import Derived.Tactics
set_option linter.unusedVariables false
set_option linter.unusedSimpArgs false
set_option linter.unusedSectionVars false
namespace Go.Ge
open RowKit
def bj(σ c:St):Prop:=∀b e,σ.mem b=some e->e.lk=true->c.mem b=some e
theorem bj.refl(σ:St):bj σ σ:=λ_ _ h _=>h
theorem bj.trans{σ e c:St}(h:bj σ e)(k:bj e c):bj σ c:=λb bx g f=>k b bx (h b bx g f) f
theorem bj.put(b:St)(d:Nat)(v:aK):bj b (b.put d v):=λ_ _ h _=>h
theorem bj.aS(b:St)(d:Option Nat)(v:aK):bj b (b.aS d v):=by cases d<;>exact λ_ _ h _=>h
theorem bj.ab5{e c:St}(h:c.mem=e.mem):bj e c:=λb g f _=>by rw[h];exact f
theorem iT{g:St}{b:Nat}{k:Box}(h:∀f,g.mem b=some f->f.lk=false):bj g (g.bT b k):=λc cx i j=>by
 by_cases e:c=b
 .subst e;rw[h cx i] at j;cases j
 .rw[ur,aN _ e];exact i
theorem iU{j:Type}{e:St}{b:Nat}{val:aK}{tid:TypeId}{buf:Bool}{k:Nat->St->Tree j}{y:j}(h:(e.aJ b val tid buf k).run=some y) :
  ∃aI,bj e (e.bT b { val,tid,buf,ro:=false,lk:=false,aI })/\(k aI<|e.bT b { val,tid,buf,ro:=false,lk:=false,aI }).run=some y:=by
 unfold St.aJ at h;split at h
 .rename_i l f;cases g:l.lk with
  | true=>rw[g] at h;cases h
  | false =>
    rw[g] at h;exact⟨l.aI+1,iT (λi c=>by rw[f] at c;obtain rfl:=aE c;exact g),h⟩
 .rename_i f;exact⟨0,iT (λi c=>by rw[f] at c;cases c),h⟩
theorem HT{g f:St}{b:Nat}(h:freeze g b=some f):bj g f:=by
 unfold freeze at h;split at h
 .rename_i i k;cases c:i.ro with
  | true=>simp only[c,eG,su] at h;rw[<-h];exact bj.refl _
  | false =>
    cases e:i.lk with
    | true=>simp[c,e] at h
    | false =>
      simp only[c,e,iD,su] at h;rw[<-h];exact iT λl j=>by rw[k] at j;obtain rfl:=aE j;exact e
 .cases h
theorem QJ:∀{v:aK} {σ aV:St},gp σ v=some aV->bj σ aV:=by
 intro v;induction v with
 | mix p q c e =>
   intro σ aV h;obtain⟨bA,f,g⟩:=vn h;exact(c f).trans (e g)
 | whole b aI=>intro σ aV h;exact HT h
 | part b aI lo n=>intro σ aV h;exact HT h
 | _=>intro σ aV h;obtain rfl:=aE h;exact bj.refl _
theorem oV{t:Ty}{x:t.den}{v:aK}{c b:St}(h:xf c t v=some (x,b)):bj c b:=by
 unfold xf at h;split at h
 .split at h
  .obtain⟨_,rfl⟩:=dz (aE h);exact bj.refl _
  .cases h
 .split at h
  .rename_i y bA f e;obtain⟨_,rfl⟩:=dz (aE h);exact QJ e
  .cases h
theorem pG:∀{A:Ty} {x:A.den} {vs:List aK} {σ aV:St},kA σ A vs=some (x,aV)->bj σ aV:=by
 intro A;induction A with
 | pair t r e c =>
   intro x vs σ aV b;cases vs with
   | nil=>cases b
   | cons v vs =>
     simp only[kA] at b;split at b
     .rename_i p bA f;split at b
      .rename_i q b6 g;obtain⟨_,rfl⟩:=dz (aE b);exact(oV f).trans (c g)
      .cases b
     .cases b
 | unit =>
   intro x vs σ aV b;cases vs with
   | nil=>obtain⟨_,rfl⟩:=dz (aE b);exact bj.refl _
   | cons v vs=>cases b
 | _=>intro x vs σ aV b;cases vs<;>cases b
theorem IQ{t:Ty}:∀{parts:List (Nat×Operand)} {x b:t.den} {σ aV:St},ga σ t x parts=some (b,aV)->bj σ aV:=by
 intro parts;induction parts with
 | nil=>intro x b σ aV h;obtain⟨_,rfl⟩:=dz (aE h);exact bj.refl _
 | cons p r c =>
   obtain⟨k,o⟩:=p;intro x b σ aV h;simp only[ga] at h;split at h
   .split at h
    .rename_i e;split at h
     .exact(oV e).trans (c h)
     .cases h
    .cases h
   .cases h
theorem ux{e:Ty}:∀{parts:List (Nat×Operand)} {l c:List e.den} {σ aV:St},fb σ e l parts=some (c,aV)->bj σ aV:=by
 intro parts;induction parts with
 | nil=>intro x i σ aV h;obtain⟨_,rfl⟩:=dz (aE h);exact bj.refl _
 | cons p r f =>
   obtain⟨k,o⟩:=p;intro l c σ aV h;simp only[fb] at h;split at h
   .rename_i g;cases b:Nat.blt k l.length with
    | false=>rw[b] at h;cases h
    | true=>rw[b] at h;exact(oV g).trans (f h)
   .cases h
theorem EA{b g:Nat}{p:List CU}{h:aK->Bool}{u:aK}{n e:St}(f:(storeAt b g p h u n).run=some e):bj n e:=by
 unfold storeAt at f;split at f
 case h_2=>exact absurd f (by intro k;cases k)
 rename_i x s;obtain⟨o,i⟩:=aw f;simp only[dF,kS] at o;obtain⟨t,y,j⟩:=bind_some i;obtain⟨q,l⟩:=aw j;obtain⟨c,z,m⟩:=bind_some l;obtain rfl:=aE m;exact iT λv r=>by rw[s] at r;obtain rfl:=aE r;exact o.1.2
theorem EB{b g:Nat}{p:List CU}{n:Nat}{u:aK}{o e:St}(f:(oh b g p n u o).run=some e):bj o e:=by
 unfold oh at f;split at f
 case h_2=>exact absurd f (by intro k;cases k)
 rename_i z t;obtain⟨q,h⟩:=aw f;simp only[dF,kS] at q;obtain⟨v,A,i⟩:=bind_some h;obtain⟨r,j⟩:=aw i;obtain⟨c,C,l⟩:=bind_some j;obtain⟨x,m⟩:=aw l;obtain rfl:=aE m;exact iT λy s=>by rw[t] at s;obtain rfl:=aE s;exact q.1.1.1.2
theorem K4{m:Ctx}{i:List Nat}{n:TypeId}{x y:aK}{g c:St}(f:(lD m i n x y g).run=some c):bj g c:=by
 unfold lD at f;split at f
 case h_2=>exact absurd f (by intro k;cases k)
 split at f
 case h_2=>exact absurd f (by intro k;cases k)
 obtain⟨j,h⟩:=aw f;obtain⟨o,s,e⟩:=bind_some h;split at e
 .rename_i u _;obtain⟨q,b⟩:=aw e;cases l:cK i 8000000&&abF u y with
  | true=>rw[l] at b;exact EB b
  | false =>
  rw[l] at b;replace b:(match xf g u y with|some (y,g)=>storeAt _ _ _ (Y6 u) (.data u y) g|none=>.fail).run=some c:=b;split at b
  .rename_i r;exact(oV r).trans (EA b)
  .exact absurd b (by intro k;cases k)
 .obtain⟨q,b⟩:=aw e;exact EA b
theorem zd{j:Ctx}{m:Nat}{d:Option Nat}{n:TypeId}{s x:aK}{h f:St}(b:(gV j m d n s x h).run=some f):bj h f:=by
 unfold gV at b;split at b
 case h_2=>exact absurd b (by intro k;cases k)
 split at b
 case h_2=>exact absurd b (by intro k;cases k)
 split at b
 .obtain⟨o,c⟩:=ck b;obtain⟨q,r,t⟩:=iU c;obtain rfl:=aE t;exact r.trans (bj.put _ _ _)
 .split at b
  case h_2=>exact absurd b (by intro k;cases k)
  rename_i y l u z;obtain⟨e,g⟩:=yl b;have e:=(BK.1 e).1;obtain⟨o,c⟩:=ck g;obtain rfl:=aE c;exact(iT λv i=>by rw[u] at i;obtain rfl:=aE i;exact e).trans (bj.put _ _ _)
 .exact absurd b (by intro k;cases k)
theorem wj{e:Ty}{m:List e.den}{b n:Nat}{q:List CU}{o:Nat->Ty->Bool}{u:Int}{j i:St}(l:(jR e m b n q o u j).run=some i):bj j i:=by
 unfold jR at l;split at l
 case h_2=>exact absurd l (by intro k;cases k)
 rename_i z v;obtain⟨s,f⟩:=aw l;simp only[dF,kS] at s;have fin:∀{rN:Box},bj j (j.bT b rN):=λ{rN}=>iT λx t=>by rw[v] at t;obtain rfl:=aE t;exact s.1.2
 split at f
 .split at f
  .split at f
   .obtain rfl:=aE f;exact fin
   .exact absurd f (by intro k;cases k)
  .exact absurd f (by intro k;cases k)
 .obtain⟨y,_,g⟩:=bind_some f;split at g
  .obtain⟨_,h⟩:=aw g;split at h
   .obtain⟨c,_,r⟩:=bind_some h;obtain rfl:=aE r;exact fin
   .exact absurd h (by intro k;cases k)
  .exact absurd g (by intro k;cases k)
theorem HU{e:Ty}{h:Int->List e.den}{t:aK}{g:St}{r:Int×St}(b:(FX e h t g).run=some r):bj g r.2:=by
 unfold FX at b;split at b
 .obtain⟨bA,c,f⟩:=bind_some b;obtain rfl:=aE f;exact wj c
 .split at b
  .obtain⟨bA,c,f⟩:=bind_some b;obtain rfl:=aE f;exact wj c
  .exact absurd b (by intro k;cases k)
 .obtain⟨bA,c,f⟩:=bind_some b;obtain rfl:=aE f;exact wj c
 .exact absurd b (by intro k;cases k)
theorem Th{m:Nat->Option Box}:∀{o:OT} {v:aK} {u:o.den} {N M:List (Nat×Nat)},dd m o v=some (u,N,M)->∀b∈bo N M,∀j,m b=some j->j.lk=false:=by
 intro o;induction o with
 | zL t =>
   intro v u N M h;unfold dd at h;split at h
   .cases h;intro b k;cases k
   .cases h
 | buf e s =>
   intro v u N M h;unfold dd at h;split at h
   case h_2=>cases h
   rename_i b l;split at h
   case h_2=>cases h
   rename_i j k;cases g:(Nat.beq j.aI l&&j.buf&&!j.lk&&!j.ro&&Nat.beq j.tid s&&Nat.blt 0 e.size) with
   | false=>rw[g] at h;cases h
   | true =>
     rw[g] at h;simp only[dF,kS] at g;simp only[eG] at h;split at h
     case h_2=>cases h
     split at h
     case h_2=>cases h
     cases h;intro c i cx f;have:c=b:=by simpa [bo] using i
     subst this;rw[k] at f;obtain rfl:=aE f;exact g.1.1.1.2
 | ref tid o C =>
   intro v u N M h;unfold dd at h;split at h
   case h_2=>cases h
   rename_i b l;split at h
   case h_2=>cases h
   rename_i j k;cases g:(Nat.beq j.aI l&&!j.buf&&!j.lk&&!j.ro&&Nat.beq j.tid tid) with
   | false=>rw[g] at h;cases h
   | true =>
     rw[g] at h;simp only[dF,kS] at g;simp only[eG] at h;split at h
     case h_2=>cases h
     rename_i G D E F;cases h;intro c i cx f;unfold bo at i;simp only[tg,zP,fY] at i;rcases i with rfl|i
     .rw[k] at f;obtain rfl:=aE f;exact g.1.1.2
     .exact C F c i cx f
 | pair p q n r =>
   intro v u N M h;unfold dd at h;split at h
   case h_2=>cases h
   split at h
   case h_2=>cases h
   rename_i x D E y H I z A;cases h;intro c i cx f;unfold bo at i;simp only[CR,sv] at i;rcases i with (i|i)|(i|i)
   .exact n z c (nB _ i) cx f
   .exact r A c (nB _ i) cx f
   .exact n z c (mP _ i) cx f
   .exact r A c (mP _ i) cx f
 | unit =>
   intro v u N M h;unfold dd at h;split at h
   case h_2=>cases h
   cases h;intro b k;cases k
 | dK =>
   intro v u N M h;unfold dd at h;split at h
   case h_2=>cases h
   cases h;intro b k;cases k
theorem VS{j:St}:∀{ps:List Bool} {A:Ty} {U:OT} {vs:List aK} {x:A.den} {u:U.den} {N M:List (Nat×Nat)},eC j ps A U vs=some (x,u,N,M)->∀b∈bo N M,∀k,j.mem b=some k->k.lk=false:=by
 intro ps;induction ps with
 | nil =>
   intro A U vs x u N M h;cases A<;>first|(cases h;done)|skip
   cases U<;>first|(cases h;done)|skip
   cases vs with
   | cons v r=>cases h
   | nil=>cases h;intro b m;cases m
 | cons p ps i =>
   intro A U vs x u N M h;cases p with
   | false =>
     cases A<;>first|(cases h;done)|skip
     cases vs with
     | nil=>cases h
     | cons v r =>
       simp only[eC] at h;split at h
       .rename_i g;cases h;exact i g
       .cases h
   | true =>
     cases U<;>first|(cases h;done)|skip
     rename_i o U;cases o<;>first|(cases h;done)|skip
     case dK =>
      cases vs with
      | nil=>cases h
      | cons v r =>
        cases v<;>first|(cases h;done)|skip
        simp only[eC] at h;split at h
        .rename_i g;cases h;exact i g
        .cases h
     cases vs with
     | nil=>cases h
     | cons v r =>
       simp only[eC] at h;split at h
       .rename_i n q s t y z C l g;cases h;intro c e cx f;unfold bo at e;simp only[CR,sv] at e;rcases e with (e|e)|(e|e)
        .exact Th l c (nB _ e) cx f
        .exact i g c (nB _ e) cx f
        .exact Th l c (mP _ e) cx f
        .exact i g c (mP _ e) cx f
       .cases h
theorem QK{f:List Bool}{A:Ty}{U:OT}{g:List aK}{x:A.den}{u y:U.den}{N M:List (Nat×Nat)}{c:St}(h:eC c f A U g=some (x,u,N,M)):bj c (kB U y N M c):=λb i e j=>by
 rw[gE];cases hv:iE U y N (M.map λp=>(p.1,p.2+1)) b with
 | none=>exact e
 | some v =>
   have:=VS h b (by have:=oF hv;rwa [uv] at this) i e;rw[j] at this;cases this
theorem QL{s:Y2}{d:Option Nat}{f:List aK}{j g:St}(b:(Bh s d f j).run=some g):bj j g:=by
 unfold Bh at b;split at b
 .split at b
  case h_2=>cases b
  split at b
  case h_2=>cases b
  obtain⟨_,c⟩:=aw b;obtain rfl:=aE c;exact bj.aS _ _ _
 .split at b
  case h_2=>cases b
  split at b
  case h_2=>cases b
  obtain⟨_,c⟩:=aw b;split at c
  case h_2=>cases c
  rename_i m i;obtain⟨h,e⟩:=aw c;simp only[dF,kS] at h;split at e
  case h_2=>cases e
  obtain rfl:=aE e;exact(iT λl k=>by rw[i] at k;obtain rfl:=aE k;exact h.1.1.2).trans (bj.aS _ _ _)
 .cases b
theorem VT{b c:Nat}:∀{h:List mR} {j:Nat} {σ:St} {r:aK×St},(mkObj b c h j σ).run=some r->bj σ r.2:=by
 intro h;induction h with
 | nil=>intro j σ r g;obtain rfl:=aE g;exact bj.refl _
 | cons f q m =>
   intro j σ r g;cases f with
   | buf e n =>
     obtain⟨_,i⟩:=aw g;obtain⟨c,o,s⟩:=iU i;obtain⟨y,k,l⟩:=bind_some s;obtain rfl:=aE l;have:=m k;exact o.trans this
   | _ =>
     obtain⟨y,k,l⟩:=bind_some g;obtain rfl:=aE l;have:=m k;exact this
theorem QM{b:Nat}:∀{c:List mR} {j:Nat} {v:aK} {σ:St} {r:aK×St},(mS b c j v σ).run=some r->bj σ r.2:=by
 intro c;induction c with
 | nil =>
   intro j v σ r g;obtain rfl:=HO g;exact bj.refl _
 | cons f q k =>
   intro j v σ r g;rcases Es g with ⟨x,u,y,rfl,h,rfl⟩|⟨e,l,u,rfl,t,i⟩
   .have:=k h;exact this
   .obtain⟨m,n,o⟩:=iU i;obtain⟨y,h,s⟩:=bind_some o;obtain rfl:=aE s;have:=k h;exact n.trans this
theorem Ti{q:Ctx}{inl:Nat->List aK->St->Tree (aK×St)}(l:∀f i j v g,(inl f i j).run=some (v,g)->bj j g){d:Option Nat}{f:Nat}{i:List aK}{j g:St}
  (b:(wc q inl d f i j).run=some g):bj j g:=by
 unfold wc at b;split at b
 .split at b
  .split at b
   .obtain⟨y,o,h⟩:=bX b;obtain rfl:=aE h;exact bj.aS _ _ _
   .exact absurd b (by intro k;cases k)
  .split at b
   .rename_i m;obtain⟨y,o,h⟩:=bX b;obtain rfl:=aE h;exact(pG m).trans (bj.aS _ _ _)
   .exact absurd b (by intro k;cases k)
 .have e:((inl f i j).bind λr=>.ret (r.2.aS d r.1):Tree St).run=some g->bj j g:=by
   intro b;obtain⟨r,n,h⟩:=bind_some b;obtain rfl:=aE h;exact(l _ _ _ _ _ n).trans (bj.aS _ _ _)
  split at b
  .exact QL b
  split at b
  .rename_i c s;split at b
   .rename_i x u N M m;obtain⟨_,b⟩:=aw b;obtain⟨y,o,h⟩:=bX b;obtain rfl:=aE h;exact(QK m).trans (bj.aS _ _ _)
   .exact e b
  .exact e b
theorem K5{h:Nat}{e:Ty}{d:Option Nat}{c:List aK}{g f:St}(b:(lH h e d c g).run=some f):bj g f:=by
 unfold lH at b;split at b
 case h_2=>cases b
 split at b
 case h_2=>cases b
 rename_i i;obtain⟨_,b⟩:=aw b;obtain⟨_,b⟩:=ck b;obtain⟨j,k,l⟩:=iU b;obtain rfl:=aE l;exact((oV i).trans k).trans (bj.aS _ (some _) _)
theorem QN{e A:Ty}{f:Bool}{g:List e.den->A.den->Option (List e.den)}{d:Option Nat}{h:List aK}{q i:St}(c:(qU e A f g d h q).run=some i):bj q i:=by
 unfold qU at c;split at c
 case h_2=>cases c
 split at c
 case h_2=>cases c
 rename_i m;split at c
 case h_2=>cases c
 rename_i b v C l n;obtain⟨D,_,c⟩:=bX c;obtain⟨x,r,s,o,y,t,_⟩:=rR n;have key:∀j,bj _ (St.bT _ b j):=λj=>iT λz u=>by rw[x] at u;obtain rfl:=aE u;exact o
 cases f with
 | true =>
   cases d with
   | none=>cases c
   | some k=>obtain rfl:=aE c;exact((pG m).trans<|key _).trans (bj.aS _ (some _) _)
 | false =>
   cases d with
   | none=>obtain⟨_,c⟩:=aw c;obtain rfl:=aE c;exact((pG m).trans<|key _).trans (bj.aS _ none _)
   | some k=>obtain⟨_,c⟩:=aw c;obtain rfl:=aE c;exact((pG m).trans<|key _).trans (bj.aS _ (some _) _)
theorem K6{h g:Nat}{d:Option Nat}{c:List aK}{f e:St}(b:(lI h g d c f).run=some e):bj f e:=by
 unfold lI at b;split at b
 .cases b
 .cases b
 .obtain⟨i,j,k⟩:=iU (aw b).2;obtain rfl:=aE k;exact j.trans (bj.aS _ (some _) _)
 .cases b
theorem QO{i:Ctx}{j:Nat}{k:List Nat}{inl:Nat->List aK->St->Tree (aK×St)}(g:∀f b h v c,(inl f b h).run=some (v,c)->bj h c){d:Option Nat}{f:Nat}{b:List aK}{h c:St}
  (e:(ti i j k inl d f b h).run=some c):bj h c:=by
 unfold ti at e;split at e
 .exact K5 e
 .exact QN e
 .exact K6 e
 .exact Ti g e
end Go.Ge
namespace Go.Ge
open RowKit
def ar(σ:St)(T:Tree St):Prop:=∀y,T.run=some y->bj σ y
theorem ar.fail{σ:St}:ar σ .fail:=λy h=>by cases h
theorem ar.ret{σ b:St}(h:bj σ b):ar σ (.ret b):=λy c=>by obtain rfl:=aE c;exact h
theorem ar.bif{b:St}{c:Bool}{t:Tree St}(h:ar b t):ar b (bif c then t else .fail):=λy e=>h y (aw e).2
theorem ar.need{b:St}{c:Bool}{t:Tree St}(h:ar b t):ar b (.need c t):=λy e=>h y (ck e).2
theorem ar.look{b:St}{T:Type}{o:Option T}{k:T->Tree St}(h:∀x,ar b (k x)):ar b (.look o k):=λy c=>by obtain⟨x,_,e⟩:=bX c;exact h x y e
theorem ar.node{σ:St}{c:Bool}{t e:Tree St}(h:ar σ t)(k:ar σ e):ar σ (.node c t e):=λy b=>by
 have:=fP b;cases c with
 | true=>exact h y this
 | false=>exact k y this
theorem ar.bind{σ:St}{α:Type}{t:Tree α}{f:α->Tree St}(h:∀x,t.run=some x->ar σ (f x)):ar σ (t.bind f):=λy b=>by obtain⟨x,c,e⟩:=bind_some b;exact h x c y e
theorem ar.aJ{c:St}{b:Nat}{e:aK}{tid:TypeId}{f:Bool}{d:Nat}{v:Nat->aK}:ar c (c.aJ b e tid f λaI c=>.ret (c.put d<|v aI)):=λy g=>by
 obtain⟨aI,h,i⟩:=iU g;obtain rfl:=aE i;exact h.trans (bj.put _ _ _)
theorem QP{e:Ctx}{f:TypeId}{x:aK}{c:St}:ar c (D6 e f x c):=λy b=>by
 unfold D6 at b;split at b
 .obtain⟨_,g⟩:=aw b;obtain⟨h,i,j⟩:=iU g;exact i.trans (EB j)
 .exact absurd b (by intro k;cases k)
theorem NA{c d:Nat}{t:Ty}{k:Nat}{b:St}:ar b (uf c d t k b):=by
 unfold uf;split
 .exact ar.bif ar.aJ
 .exact ar.fail
section
variable {cx:Ctx} {nb:Nat} {bf:List Nat} {inl:Nat->List aK->St->Tree (aK×St)} {d:Option Nat} {σ:St}
theorem zf{b:TypeId}{v:aK}:ar σ (js cx nb bf d b v σ):=by
 unfold js;split
 ·(repeat' (first|exact ar.fail|exact ar.ret (bj.aS _ _ _)|exact ar.ret (bj.put _ _ _)|exact ar.aJ|refine ar.bif ?_|refine ar.need ?_|refine ar.look λ_=>?_|refine ar.node ?_ ?_|refine ar.bind λ_ _=>?_|split))
 .split
  .rename_i k e _;cases cK bf k with
   | true=>exact ar.aJ
   | false=>exact ar.ret (bj.put _ _ _)
  .exact ar.ret (bj.aS _ _ _)
 .exact ar.ret (bj.aS _ _ _)
theorem NB{c a b:aK}:ar σ (nK d c a b σ):=by unfold nK;(repeat' (first|exact ar.fail|exact ar.ret (bj.aS _ _ _)|exact ar.ret (bj.put _ _ _)|exact ar.aJ|refine ar.bif ?_|refine ar.need ?_|refine ar.look λ_=>?_|refine ar.node ?_ ?_|refine ar.bind λ_ _=>?_|split))
theorem NC{b:TypeId}{a:aK}:ar σ (kU cx d b a σ):=by unfold kU;(repeat' (first|exact ar.fail|exact ar.ret (bj.aS _ _ _)|exact ar.ret (bj.put _ _ _)|exact ar.aJ|refine ar.bif ?_|refine ar.need ?_|refine ar.look λ_=>?_|refine ar.node ?_ ?_|refine ar.bind λ_ _=>?_|split))
theorem K7{b:TypeId}{x:aK}{c e:Option Operand}:ar σ (lE cx d b x c e σ):=by unfold lE;(repeat' (first|exact ar.fail|exact ar.ret (bj.aS _ _ _)|exact ar.ret (bj.put _ _ _)|exact ar.aJ|refine ar.bif ?_|refine ar.need ?_|refine ar.look λ_=>?_|refine ar.node ?_ ?_|refine ar.bind λ_ _=>?_|split))
theorem VU{b c:Nat}{i:Int}:∀{m k:Nat},ar σ (Kw d b c σ i m k):=by
 intro m;induction m with
 | zero=>intro k;exact ar.fail
 | succ m e=>intro k;exact ar.node (ar.ret<|bj.aS _ _ _) e
theorem uy{b:TypeId}{x:aK}{i:Int}:ar σ (ev cx d b x i σ):=by
 unfold ev;split
 case h_6=>split
           .exact ar.bif VU
           .exact ar.fail
 all_goals (repeat' (first|exact ar.fail|exact ar.ret (bj.aS _ _ _)|exact ar.ret (bj.put _ _ _)|exact ar.aJ|refine ar.bif ?_|refine ar.need ?_|refine ar.look λ_=>?_|refine ar.node ?_ ?_|refine ar.bind λ_ _=>?_|split))
theorem K8{b:TypeId}{x:aK}{i:Int}:ar σ (lF cx d b x i σ):=by
 unfold lF;split
 .refine ar.bif ?_;split
  .exact ar.bif (ar.ret<|bj.aS _ _ _)
  .exact ar.fail
 .exact uy
theorem K9{b:TypeId}{x:aK}{i:Int}:ar σ (lG cx d b x i σ):=by unfold lG;(repeat' (first|exact ar.fail|exact ar.ret (bj.aS _ _ _)|exact ar.ret (bj.put _ _ _)|exact ar.aJ|refine ar.bif ?_|refine ar.need ?_|refine ar.look λ_=>?_|refine ar.node ?_ ?_|refine ar.bind λ_ _=>?_|split))
theorem C9{s:TypeId}{x:aK}{k:Nat}:ar σ (eU cx d s x k σ):=by unfold eU;(repeat' (first|exact ar.fail|exact ar.ret (bj.aS _ _ _)|exact ar.ret (bj.put _ _ _)|exact ar.aJ|refine ar.bif ?_|refine ar.need ?_|refine ar.look λ_=>?_|refine ar.node ?_ ?_|refine ar.bind λ_ _=>?_|split))
theorem Gk{s t:TypeId}{x:aK}:ar σ (gD cx nb d s t x σ):=by unfold gD;(repeat' (first|exact ar.fail|exact ar.ret (bj.aS _ _ _)|exact ar.ret (bj.put _ _ _)|exact ar.aJ|refine ar.bif ?_|refine ar.need ?_|refine ar.look λ_=>?_|refine ar.node ?_ ?_|refine ar.bind λ_ _=>?_|split))
theorem Cg{b:TypeId}{t x:aK}:ar σ (xg cx d b t x σ):=by
 unfold xg;split
 .split
  .exact ar.fail
  .exact ar.bind λr c=>ar.ret ((HU c).trans<|bj.aS _ _ _)
 .exact ar.fail
theorem La{b:TypeId}{t:aK}:ar σ (xh cx b t σ):=by
 unfold xh;split
 .exact ar.bind λr c=>ar.ret (HU c)
 .exact ar.fail
theorem IU{c:String}{e:List aK}:ar σ (qz cx d c e σ):=by
 intro aV b;unfold qz at b;split at b
 .split at b
  .rename_i g;obtain⟨y,h,f⟩:=bX b;obtain rfl:=aE f;exact(pG g).trans (bj.aS _ _ _)
  .exact absurd b (by intro k;cases k)
 .exact absurd b (by intro k;cases k)
theorem Lb{c u:TypeId}{x:aK}:ar σ (qy cx d c u x σ):=by
 intro aV b;unfold qy at b;split at b
 .split at b
  .split at b
   .rename_i e;obtain rfl:=aE b;exact(oV e).trans (bj.aS _ _ _)
   .exact absurd b (by intro k;cases k)
  .exact absurd b (by intro k;cases k)
 .exact absurd b (by intro k;cases k)
theorem ND(b:∀f e σ v aV,(inl f e σ).run=some (v,aV)->bj σ aV){h:TypeId}{c:Call}:ar σ (ui cx nb bf inl d h c σ):=by
 unfold ui;split
 .split
  ·(repeat' (first|exact ar.fail|exact ar.ret (bj.aS _ _ _)|exact ar.ret (bj.put _ _ _)|exact ar.aJ|refine ar.bif ?_|refine ar.need ?_|refine ar.look λ_=>?_|refine ar.node ?_ ?_|refine ar.bind λ_ _=>?_|split))
  .split
   .exact λy g=>zd g
   .exact λy g=>zd g
   .exact ar.fail
  .split
   .exact Cg
   .exact Cg
   .exact ar.fail
  .split
   .exact La
   .exact ar.fail
  ·(repeat' (first|exact ar.fail|exact ar.ret (bj.aS _ _ _)|exact ar.ret (bj.put _ _ _)|exact ar.aJ|refine ar.bif ?_|refine ar.need ?_|refine ar.look λ_=>?_|refine ar.node ?_ ?_|refine ar.bind λ_ _=>?_|split))
  ·(repeat' (first|exact ar.fail|exact ar.ret (bj.aS _ _ _)|exact ar.ret (bj.put _ _ _)|exact ar.aJ|refine ar.bif ?_|refine ar.need ?_|refine ar.look λ_=>?_|refine ar.node ?_ ?_|refine ar.bind λ_ _=>?_|split))
  .exact ar.fail
 .split
  .exact ar.bif λy g=>QO b g
  .exact ar.fail
 .exact IU
theorem Af(e:∀f g σ v aV,(inl f g σ).run=some (v,aV)->bj σ aV){o:Oper}:ar σ (pw cx nb bf inl o σ):=by
 unfold pw;split
 case h_1=>exact zf
 case h_2=>exact zf
 case h_3=>exact NB
 case h_4 =>
  split
  .unfold tT;split
   .refine ar.bif λy b=>?_;obtain⟨i,j,k⟩:=iU b;exact j.trans (ar.aJ y k)
   .exact ar.aJ
  .split
   .refine ar.bind λr h=>?_;exact λy b=>(VT h).trans (ar.aJ y b)
   .exact ar.bif ar.aJ
  .exact ar.fail
 case h_5 =>
  unfold D8;split
  .exact ar.fail
  .exact ar.fail
  .split
   .refine ar.bind λr h=>?_;exact λy b=>(QM h).trans (ar.aJ y b)
   .exact ar.aJ
  .exact ar.fail
 case h_6 =>
  split
  .split
   .exact NA
   split
   .rename_i c;exact ar.ret ((IQ c).trans<|bj.aS _ _ _)
   .exact ar.fail
  .split
   .rename_i c;exact ar.ret ((ux c).trans<|bj.aS _ _ _)
   .exact ar.fail
  ·(repeat' (first|exact ar.fail|exact ar.ret (bj.aS _ _ _)|exact ar.ret (bj.put _ _ _)|exact ar.aJ|refine ar.bif ?_|refine ar.need ?_|refine ar.look λ_=>?_|refine ar.node ?_ ?_|refine ar.bind λ_ _=>?_|split))
  .exact ar.fail
 case h_7 =>
  split
  .split
   .exact ar.aJ
   .refine ar.bif ?_;split
    .rename_i c;split
     .exact λy b=>(ux c).trans (ar.aJ _ b)
     .exact ar.ret ((ux c).trans<|bj.aS _ _ _)
    .exact ar.fail
  .unfold Bi;(repeat' (first|exact ar.fail|exact ar.ret (bj.aS _ _ _)|exact ar.ret (bj.put _ _ _)|exact ar.aJ|refine ar.bif ?_|refine ar.need ?_|refine ar.look λ_=>?_|refine ar.node ?_ ?_|refine ar.bind λ_ _=>?_|split))
  .exact ar.fail
 case h_8=>exact NC
 case h_9 t x z _ =>
  split
  .cases cK bf 8000001&&ya z with
   | true=>exact QP
   | false=>exact λy b=>K4 b
  .exact ar.fail
 case h_10=>(repeat' (first|exact ar.fail|exact ar.ret (bj.aS _ _ _)|exact ar.ret (bj.put _ _ _)|exact ar.aJ|refine ar.bif ?_|refine ar.need ?_|refine ar.look λ_=>?_|refine ar.node ?_ ?_|refine ar.bind λ_ _=>?_|split))
 case h_11=>(repeat' (first|exact ar.fail|exact ar.ret (bj.aS _ _ _)|exact ar.ret (bj.put _ _ _)|exact ar.aJ|refine ar.bif ?_|refine ar.need ?_|refine ar.look λ_=>?_|refine ar.node ?_ ?_|refine ar.bind λ_ _=>?_|split))
 case h_12=>(repeat' (first|exact ar.fail|exact ar.ret (bj.aS _ _ _)|exact ar.ret (bj.put _ _ _)|exact ar.aJ|refine ar.bif ?_|refine ar.need ?_|refine ar.look λ_=>?_|refine ar.node ?_ ?_|refine ar.bind λ_ _=>?_|split))
 case h_13=>exact Gk
 case h_14=>(repeat' (first|exact ar.fail|exact ar.ret (bj.aS _ _ _)|exact ar.ret (bj.put _ _ _)|exact ar.aJ|refine ar.bif ?_|refine ar.need ?_|refine ar.look λ_=>?_|refine ar.node ?_ ?_|refine ar.bind λ_ _=>?_|split))
 case h_15=>exact K7
 case h_16=>exact C9
 case h_17=>(repeat' (first|exact ar.fail|exact ar.ret (bj.aS _ _ _)|exact ar.ret (bj.put _ _ _)|exact ar.aJ|refine ar.bif ?_|refine ar.need ?_|refine ar.look λ_=>?_|refine ar.node ?_ ?_|refine ar.bind λ_ _=>?_|split))
 case h_18=>split
            .cases cK bf 5000000 with
             | true=>exact K8
             | false=>exact uy
            .exact ar.fail
 case h_19=>split
            .exact K9
            .exact ar.fail
 case h_20=>(repeat' (first|exact ar.fail|exact ar.ret (bj.aS _ _ _)|exact ar.ret (bj.put _ _ _)|exact ar.aJ|refine ar.bif ?_|refine ar.need ?_|refine ar.look λ_=>?_|refine ar.node ?_ ?_|refine ar.bind λ_ _=>?_|split))
 case h_21=>(repeat' (first|exact ar.fail|exact ar.ret (bj.aS _ _ _)|exact ar.ret (bj.put _ _ _)|exact ar.aJ|refine ar.bif ?_|refine ar.need ?_|refine ar.look λ_=>?_|refine ar.node ?_ ?_|refine ar.bind λ_ _=>?_|split))
 case h_22=>exact ND e
 case h_23=>exact Lb
 case h_24=>exact ar.fail
end
end Go.Ge
namespace Go.Ge
open RowKit
theorem mn.shrink{g f:Nat->Option Box}(l:∀b c,g b=some c->f b=some { c with lk:=true }){b i:Nat}{m K:Box->Prop}(n:mn g b i m)(h:mn f b i K)
  (o:∀c,K { c with lk:=true }->K c):mn g b i K:=by
 obtain⟨c,j,q,_⟩:=n;obtain⟨r,k,t,s⟩:=h;rw[l b c j] at k;obtain rfl:=aE k;exact⟨c,j,q,λe=>o c (s e)⟩
theorem b5.shrink{M C:Gh}{y o:Nat->Option Box}{w J:World}(g:∀b K,y b=some K->o b=some { K with lk:=true }):∀{v:aK} {m:Mode} {us vs:List Value},
  b5 M y w v m us->b5 C o J v m vs->b5 C y J v m vs:=by
 intro v;induction v with
 | undef=>intro m us vs _ r;cases m<;>exact r
 | data t x=>intro m us vs _ r;cases m<;>exact r
 | nJ=>intro m us vs _ r;cases m<;>exact r
 | dK=>intro m us vs _ r;cases m<;>exact r
 | cell t x=>intro m us vs _ r;cases m<;>exact r
 | nl=>intro m us vs _ r;cases m<;>exact r
 | rL=>intro m us vs _ r;cases m<;>exact r
 | vk b aI =>
   intro m us vs c r;cases m with
   | many=>exact r
   | cells=>exact⟨r.1,c.2.shrink g r.2 λ_ k=>k⟩
   | val=>exact⟨r.1,c.2.shrink g r.2 λ_ k=>k⟩
 | ptr b aI p =>
   intro m us vs c r;cases m with
   | many=>exact r
   | cells=>exact⟨r.1,c.2.shrink g r.2 λ_ k=>k⟩
   | val=>exact⟨r.1,c.2.shrink g r.2 λ_ k=>k⟩
 | whole b aI =>
   intro m us vs c r;cases m with
   | many=>exact r
   | cells=>exact⟨r.1,c.2.shrink g r.2 λ_ k=>k⟩
   | val=>exact⟨r.1,c.2.shrink g r.2 λ_ k=>k⟩
 | part b aI lo n =>
   intro m us vs c r;cases m with
   | many=>exact r
   | cells=>exact⟨r.1,c.2.shrink g r.2 λ_ k=>k⟩
   | val=>exact⟨r.1,c.2.shrink g r.2 λ_ k=>k⟩
 | win b aI q e k lo n =>
   intro m us vs c r;cases m with
   | many=>exact r
   | cells=>exact⟨r.1,c.2.shrink g r.2 λ_ k=>k⟩
   | val=>exact⟨r.1,c.2.shrink g r.2 λ_ k=>k⟩
 | fn f L =>
   intro m us vs c r;cases m with
   | many=>exact r
   | cells=>obtain⟨_,_,_,s⟩:=c;obtain⟨h,j,l,I⟩:=r;exact⟨h,j,l,λi b aI D=>(s i b aI D).shrink g (I i b aI D) λ_ k=>k⟩
   | val=>obtain⟨_,_,_,s⟩:=c;obtain⟨h,j,l,I⟩:=r;exact⟨h,j,l,λi b aI D=>(s i b aI D).shrink g (I i b aI D) λ_ k=>k⟩
 | mix a b z A =>
   intro m us vs c r;cases m with
   | cells=>obtain⟨_,_,_,E,F⟩:=c;obtain⟨G,H,c,j,l⟩:=r;exact⟨G,H,c,z E j,A F l⟩
   | val=>obtain⟨_,_,_,E,F⟩:=c;obtain⟨G,H,c,j,l⟩:=r;exact⟨G,H,c,z E j,A F l⟩
   | many=>obtain⟨_,_,_,E,F⟩:=c;obtain⟨G,H,c,j,l⟩:=r;exact⟨G,H,c,z E j,A F l⟩
 | y7 u O =>
   intro m us vs c r;cases m with
   | val=>obtain⟨_,_,s⟩:=c;obtain⟨h,j,l⟩:=r;exact⟨h,j,O s l⟩
   | cells=>exact r
   | many=>exact r
theorem bu.unlock{B:qA}{x m:Gh}{e l:Nat->Option Box}{w y:World}(h:bu B x e w)(t:∀b f,e b=some f->l b=some { f with lk:=true })
  (q:bu B m l y) (u:Ext B x (λi=>match e i with|some b=>some { b with lk:=true }|none=>none) w m l y):bu B m e y/\Ext B x e w m e y:=by
 have v:∀b f,e b=some f->m.loc b=x.loc b:=by
  intro b f g;obtain⟨C,k1,k2,k3⟩:=u.boxes b { f with lk:=true } (by simp[g]);rw[t b f g] at k1;obtain rfl:=aE k1;exact(k3 rfl).1
 have r:∀b,e b≠none->l b≠none:=by
  intro b g;cases A:e b with
  | none=>exact absurd A g
  | some f=>rw[t b f A];simp
 refine⟨?_,⟨u.below,u.I,u.pC,u.cells,λb f g=>⟨f,g,cD _,λ_=>⟨v b f g,rfl,rfl⟩⟩⟩⟩;exact
  { cP:=q.cP
    base:=q.base
    boxes:=λb f g=>by
     have n:=h.boxes b f g;have s:=q.boxes b _ (t b f g);unfold cJ at n s⊢;cases o:f.buf with
     | true=>rw[o] at s;exact s
     | false =>
       rw[o] at n s;obtain⟨_,_,_,_,_,_,_,_,_,D⟩:=n;obtain⟨j,cap,cur,tid,fr,k1,k2,k3,aec,E⟩:=s;exact⟨j,cap,cur,tid,fr,k1,k2,k3,aec,D.shrink t E⟩
    inj:=λb c j k F g G n s=>q.inj b c j k F (r b g) (r c G) n s
    fresh:=λb j k g n=>q.fresh b j k (r b g) n
    sV:=q.sV
    sep:=λb f j k z g n H=>by
     have:=q.sep b _ j k z (t b f g) n H;exact this }
theorem Ext.ij{B:qA}{γ:Gh}{σ:St}{w:World}:Ext B γ σ.mem w γ σ.ij.mem w where
 below:=tV.refl _ _
 I:=λ_ _ h=>h
 pC:=λ_ _ h=>.inl h
 cells:=λ_ _ _=>rfl
 boxes:=λb c e=>⟨{ c with lk:=true },by simp[St.ij,e],cD _,λ_=>⟨rfl,rfl,rfl⟩⟩
theorem bu.ij{B:qA}{γ:Gh}{σ:St}{w:World}(h:bu B γ σ.mem w):bu B γ σ.ij.mem w:=by
 have inv:∀{b j},σ.ij.mem b=some j->∃e,σ.mem b=some e/\j={ e with lk:=true }:=by
  intro b j f;simp only[St.ij] at f;split at f
  .rename_i e h0;exact⟨e,h0,(aE f).symm⟩
  .cases f
 have i:∀{b},σ.ij.mem b≠none->σ.mem b≠none:=by
  intro b f n;apply f;simp[St.ij,n]
 exact
  { cP:=h.cP
    base:=h.base
    boxes:=λb j f=>by
     obtain⟨e,h0,rfl⟩:=inv f;have:=(h.boxes b e h0).keep (Ext.ij (B:=B) (γ:=γ) (σ:=σ) (w:=w)) rfl (λ_ _ _=>rfl);exact this
    inj:=λb c g k o f q l r=>h.inj b c g k o (i f) (i q) l r
    fresh:=λb g k f l=>h.fresh b g k (i f) l
    sV:=h.sV
    sep:=λb j g k m f l s=>by
     obtain⟨e,h0,rfl⟩:=inv f;exact h.sep b e g k m h0 l s }
theorem cQ.ij{B:qA}{N:Nat}{γ:Gh}{σ:St}{a:Act}{w:World}(h:cQ B N γ σ a w):cQ B N γ σ.ij a w where
 slots:=λt=>(h.slots t).ext (Ext.ij (B:=B))
 size:=h.size
 defers:=h.defers
 ok:=h.ok.ij
theorem QQ{e f:St}(h:bj e.ij f):∀b c,e.mem b=some c->f.mem b=some { c with lk:=true }:=λb c g=>h b _ (by simp[St.ij,g]) rfl
end Go.Ge
namespace Go.Ge
open RowKit
inductive qk (all:Array Oper) (G:List (Nat×Bool)):List (Nat×Oper)->List Oper->Prop
 | nil:qk all G [] []
 | cons {i:Nat} {o o':Oper} {r:List (Nat×Oper)} {l:List Oper}:all[i]?=some o->(o'=o\/∃g,o.guard=some g/\g∈G/\o'={ o with guard:=none })->qk all G r l->qk all G ((i,o')::r) (o::l)
theorem qk.mono{c:Array Oper}{G e:List (Nat×Bool)}(f:∀g∈G,g∈e){b:List (Nat×Oper)}{l:List Oper}(h:qk c G b l):qk c e b l:=by
 induction h with
 | nil=>exact .nil
 | cons i j _ k=>exact .cons i (j.imp id λ⟨g,m,n,o⟩=>⟨g,m,f g n,o⟩) k
theorem Tj{b:Array Oper}{G:List (Nat×Bool)}{j:Nat}{want:Bool}:∀{items:List (Nat×Oper)} {l:List Oper} {inner:List Nat},qk b G items l ->
  ∃e f,l=e++f/\qk b ((j,want)::G) (under j want inner items).1 e/\qk b G (under j want inner items).2 f:=by
 intro items l inner h;induction h generalizing inner with
 | nil=>exact⟨[],[],rfl,.nil,.nil⟩
 | @cons i o m r l q n D y =>
   unfold under;cases k:ye m.guard j want with
   | true =>
     simp only[eG];obtain⟨e,f,s,t,u⟩:=y (inner:=i::inner);refine⟨o::e,f,by rw[s];rfl,.cons q (.inr ?_) t,u⟩;have E:m=o:=by
      rcases n with n|⟨g,z,A,v⟩
      .exact n
      .rw[v] at k;cases k
     subst E;unfold ye at k;split at k
     .rename_i F C x;simp only[dF] at k;have H:=eT k.1;have I:C=want:=by simpa using k.2
      subst H;subst I;exact⟨(F,C),x,oB ..,rfl⟩
     .cases k
   | false =>
     simp only[iD];have both:∀c:Bool,∃e f,o::l=e++f /\
       qk b ((j,want)::G) (bif c then((i,m)::(under j want (i::inner) r).1,(under j want (i::inner) r).2) else([],(i,m)::r)).1 e /\
       qk b G (bif c then((i,m)::(under j want (i::inner) r).1,(under j want (i::inner) r).2) else([],(i,m)::r)).2 f:=by
      intro c;cases c with
      | true =>
        obtain⟨e,f,s,t,u⟩:=y (inner:=i::inner);exact⟨o::e,f,by rw[s];rfl,.cons q (n.imp id λ⟨g,z,A,v⟩=>⟨g,z,oA _ A,v⟩) t,u⟩
      | false=>exact⟨[],o::l,rfl,.nil,.cons q n D⟩
     exact both _
theorem VV{d:Nat}:∀{items:List (Nat×Oper)},mT d items=false->∀i o,(i,o)∈items->o.dst≠some d:=by
 intro items;induction items with
 | nil=>intro _ i o h;cases h
 | cons p r c =>
   obtain⟨f,g⟩:=p;intro h i o b;simp only[mT,BK] at h;rcases fY.1 b with b|b
   .obtain⟨rfl,rfl⟩:=dz b;intro e;rw[e] at h;simp at h
   .exact c h.2 i o b
section
variable {P:Program} {B:qA} {N:Nat} {γ:Gh} {σ aV:St} {a:Act} {w w':World} {cx:Ctx} {nb:Nat} {bf:List Nat} {inl:Nat->List aK->St->Tree (aK×St)} {all:Array Oper}
def Tk(c:Array Oper)(G:List (Nat×Bool))(a:Act)(b:List (Nat×Oper)):Prop :=
 ∀g∈G,∃e,(c[g.1]?).bind (·.dst)=some e/\a.tmps[e]?=some (.bool g.2)/\mT e b=false
theorem Tk.wanted{G:List (Nat×Bool)}{b:List (Nat×Oper)}(h:Tk all G a b){o:Oper}{g:Nat×Bool}(c:o.guard=some g)(e:g∈G):Region.wanted o (yielded all a.tmps)=true:=by
 obtain⟨k,f,i,_⟩:=h g e;obtain⟨j,want⟩:=g;unfold Region.wanted;rw[c];simp only[yielded,f,HA,i];simp
def Fr(b:List (Nat×Oper))(a c:Act):Prop:=∀t,mT t b=false->c.tmps[t]?=a.tmps[t]?
theorem fx{a:Act}{d:Option Nat}{v:Value}{t:Nat}(h:d≠some t):(a.put d v).tmps[t]?=a.tmps[t]?:=by
 cases d with
 | none=>rfl
 | some k =>
   have:k≠t:=λe=>h (by rw[e]);simp[Act.put,Array.getElem?_setIfInBounds_ne this]
theorem xy{d i:Nat}{o:Oper}{r:List (Nat×Oper)}(h:mT d ((i,o)::r)=false):o.dst≠some d/\mT d r=false:=by
 simp only[mT,BK] at h;refine⟨λe=>?_,h.2⟩;rw[e] at h;simp at h
theorem Tl(t:Nat):∀(items:List (Nat×Oper)),(σ.undef items).slots t=bif mT t items then .undef else σ.slots t:=by
 intro items;induction items with
 | nil=>rfl
 | cons p r b =>
   obtain⟨i,o⟩:=p;simp only[St.undef,mT];cases hd:o.dst with
   | none=>simp only[St.aS,B6];exact b
   | some k =>
     simp only[St.aS,St.put];cases c:Nat.beq k t with
     | true=>obtain rfl:=eT c;simp
     | false =>
       have:Nat.beq t k=false:=iF (λe=>by subst e;simp at c);rw[this];simp only[iD,B6];exact b
theorem tW:∀(items:List (Nat×Oper)),(σ.undef items).mem=σ.mem:=by
 intro items;induction items with
 | nil=>rfl
 | cons p r b =>
   obtain⟨i,o⟩:=p;simp only[St.undef];cases o.dst<;>exact b
theorem cQ.undef(h:cQ B N γ σ a w){b:List (Nat×Oper)}{c:Act}(f:Fr b a c)(g:c.tmps.size=N)(i:c.defers=[]):cQ B N γ (σ.undef b) c w where
 slots:=λt=>by
  rw[Tl,tW];cases j:mT t b with
  | true=>exact⟨_,rfl⟩
  | false =>
    have:=f t j;have e:c.tmps.getD t Go.undef=a.tmps.getD t Go.undef:=by simp only[Vs,this]
    rw[e];exact h.slots t
 size:=g
 defers:=i
 ok:=by rw[tW];exact h.ok
theorem EC{d:Option Nat}{k:Nat}(h:yielded all a.tmps k=none):yielded all (a.put d Go.undef).tmps k=none:=by
 unfold yielded at h⊢;cases f:(all[k]?).bind (·.dst) with
 | none=>rfl
 | some b =>
   rw[f] at h;simp only[HA] at h⊢;by_cases e:d=some b
   .subst e;simp only[Act.put];rw[aaW];simp only[mh];by_cases c:b<a.tmps.size
    .rw[bd c];rfl
    .rw[bb c]
   .rw[fx e];exact h
theorem ED{i:Nat}{o:Oper}(h:all[i]?=some o):yielded all (a.put o.dst Go.undef).tmps i=none:=by
 unfold yielded;rw[h];simp only[HA];cases hd:o.dst with
 | none=>rfl
 | some d =>
   simp only[HA,Act.put];rw[aaW];simp only[mh];by_cases b:d<a.tmps.size
   .rw[bd b];rfl
   .rw[bb b]
theorem VW{G:List (Nat×Bool)}{j F:Nat}{e c:Bool}{Q:Exit->Act->World->Prop}(V:(all[j]?).bind (·.dst)=some F)(H:c≠e) :
  ∀{items:List (Nat×Oper)} {l:List Oper} {inner:List Nat} {a:Act},qk all G items l->a.tmps[F]?=some (.bool c)->mT F (under j e inner items).1=false->(∀k∈inner,yielded all a.tmps k=none) ->
   ∃v y,l=v++y/\v.length=(under j e inner items).1.length/\∀f,(∀s,Fr (under j e inner items).1 a s->s.tmps.size=a.tmps.size->s.defers=a.defers->wpList P all Q f s w) ->
    wpList P all Q (v++f) a w:=by
 intro items l inner a h;induction h generalizing inner a with
 | nil=>intro _ _ _;exact⟨[],[],rfl,rfl,λf u=>u a (λt _=>rfl) rfl rfl⟩
 | @cons i o q r l W x h3 X =>
   intro T U z;have one:∀(I:Oper),I.dst=o.dst->Region.wanted o (yielded all a.tmps)=false->(under j e inner ((i,q)::r)).1=(i,I)::(under j e (i::inner) r).1 ->
     ∃v y,o::l=v++y/\v.length=(under j e inner ((i,q)::r)).1.length/\∀f,(∀s,Fr (under j e inner ((i,q)::r)).1 a s->s.tmps.size=a.tmps.size->s.defers=a.defers->wpList P all Q f s w) ->
     wpList P all Q (v++f) a w:=by
    intro I A Y C;rw[C] at U⊢;obtain⟨D,J⟩:=xy U;rw[A] at D;obtain⟨v,y,Z,e2,e3⟩:=X (inner:=i::inner) (a:=a.put o.dst Go.undef) (by rw[fx D];exact T) J (λk u=>by
     rcases fY.1 u with rfl|u
     .exact ED W
     .exact EC (z k u))
    refine⟨o::v,y,by rw[Z];rfl,by simp[e2],λf u=>?_⟩;show wpList P all Q (o::(v++f)) a w
    unfold wpList;rw[Y];simp only[Kn,sR];refine e3 f λs f1 f2 f3=>u s (λt ht=>?_) (f2.trans<|SZ _ _ _) (f3.trans<|put_defers _ _ _);obtain⟨E,K⟩:=xy ht;rw[A] at E;rw[f1 t K,fx E]
   cases n:ye q.guard j e with
   | true =>
     have L:q=o:=by
      rcases x with x|⟨g,k1,k2,M⟩
      .exact x
      .rw[M] at n;cases n
     subst L;have m:q.guard=some (j,e):=by
      unfold ye at n;split at n
      .rename_i i' b' m;simp only[dF] at n;have h9:=eT n.1;have h8:b'=e:=by simpa using n.2
       rw[m,h9,h8]
      .cases n
     refine one { q with guard:=none } rfl ?_ (by simp only[under,n,eG]);unfold Region.wanted;rw[m];simp only[yielded,V,HA,T];cases c<;>cases e<;>first|rfl|exact absurd rfl H
   | false =>
     cases m:q.guard with
     | none =>
       have C:(under j e inner ((i,q)::r)).1=[]:=by
        rw[m] at n;simp only[under,m,n,iD]
       rw[C];exact⟨[],o::l,rfl,rfl,λf u=>u a (λt _=>rfl) rfl rfl⟩
     | some g =>
       obtain⟨k,b⟩:=g;rw[m] at n;cases O:inner.any (Nat.beq k) with
       | true =>
         have L:q=o:=by
          rcases x with x|⟨g,k1,k2,M⟩
          .exact x
          .rw[M] at m;cases m
         subst L;refine one q rfl ?_ (by simp only[under,m,n,O,iD,eG]);obtain⟨k',R,S⟩:=XK.1 O;obtain rfl:=eT S;unfold Region.wanted;rw[m];simp only[z k R];rfl
       | false =>
         have C:(under j e inner ((i,q)::r)).1=[]:=by simp only[under,m,n,O,iD]
         rw[C];exact⟨[],o::l,rfl,rfl,λf u=>u a (λt _=>rfl) rfl rfl⟩
end
end Go.Ge
namespace Go.Ge
open RowKit
section
variable {P:Program} {B:qA} {N:Nat} {γ:Gh} {σ aV:St} {a:Act} {w w':World} {cx:Ctx} {nb:Nat} {bf:List Nat} {inl:Nat->List aK->St->Tree (aK×St)} {all:Array Oper}
theorem Lc(c:St)(b:List (Nat×Oper)):bj c (c.undef b):=bj.ab5 (tW b)
theorem EE(g:∀f h σ v aV,(inl f h σ).run=some (v,aV)->bj σ aV):∀(n:Nat) (items:List (Nat×Oper)) (σ:St),ar σ (px cx nb bf inl all n items σ):=by
 intro n;induction n with
 | zero=>intro items σ;exact ar.fail
 | succ n k =>
   intro items σ;cases items with
   | nil=>exact ar.ret (bj.refl _)
   | cons p r =>
     obtain⟨i,o⟩:=p;unfold px;split
     .exact ar.bind λbA l y e=>(Af g bA l).trans (k _ _ y e)
     .rename_i j b D;dsimp only;split
      .exact ar.fail
      .rename_i z A;split
       .rename_i c E F u m q;cases G:mT z (under j b [] ((i,o)::r)).1 with
        | true=>exact ar.fail
        | false =>
          simp only[iD];split
          .exact ar.fail
          .cases C:JM cx (under j b [] ((i,o)::r)).1 with
           | true =>
             simp only[eG];intro y e;obtain⟨b6,l,s⟩:=bind_some e;refine bj.trans ?_ (k _ _ y s);refine(ar.node (σ:=σ) ?_ ?_) b6 l
             .refine ar.bind λτ t=>?_;split
              .exact ar.ret ((k _ _ τ t).trans<|bj.aS _ _ _)
              .exact ar.fail
             .split
              .exact ar.ret ((Lc _ _).trans<|bj.aS _ _ _)
              .exact ar.fail
           | false =>
             simp only[iD];split
             .intro y e;rw[Tree.D3] at e;obtain⟨x,l,s⟩:=zM.1 e;exact((Lc _ _).trans<|bj.put _ _ _).trans (k _ _ y s)
             .exact ar.fail
       .exact ar.fail
theorem X3{e:Nat->Option Box}{t:Ty}{v:aK}{x:t.den}{b:Value}(h:toD t v=some x)(f:b5 γ e w v .val [b]){c:Nat->Option Box}:b5 γ c w (.data t x) .val [b]:=by
 unfold toD at h;split at h
 .obtain⟨q,g⟩:=Ty.kz h;subst q;subst g;exact f
 .split at h
  .obtain rfl:=aE h;obtain rfl:b=_:=by simpa [b5] using f
   exact⟨[.slice none 0 0],.inl ⟨⟨none,rfl⟩,rfl⟩,rfl⟩
  .cases h
 .cases h
theorem qk.length{G:List (Nat×Bool)}{b:List (Nat×Oper)}{l:List Oper}(h:qk all G b l):b.length=l.length:=by
 induction h with
 | nil=>rfl
 | cons _ _ _ c=>simp[c]
theorem VX{i:Oper}{j:Nat}{b:Bool}{v:aK}{K:Act->World->Prop}{Q:Exit->Act->World->Prop}(h:cQ B N γ σ a w)(m:a.tmps[j]?=some (.bool b)){f:Bool}(n:b=f)
  (e:yf σ i j f=some v) (o:∀y,b5 γ σ.mem w v .val [y]->K (a.put i.dst y) w):i.wp P a w K Q:=by
 unfold yf at e;split at e
 .rename_i c x y k;cases l:Nat.beq c j with
  | false=>rw[l] at e;cases e
  | true =>
    obtain rfl:=eT l;rw[l] at e;obtain rfl:=aE e;subst n;have q:a.eval (.tmp c)=.bool b:=by simp[Act.eval,m]
    unfold Oper.wp;have g:(execOp a.eval i).run P w=.ok (.value<|a.eval<|bif b then x else y) w:=by
     simp only[execOp,k,q];cases b<;>rfl
    rw[g];exact o _ (h.cp _)
 .cases e
theorem Tk.put{G:List (Nat×Bool)}{i:Nat}{o:Oper}{r:List (Nat×Oper)}(h:Tk all G a ((i,o)::r))(v:Value):Tk all G (a.put o.dst v) r:=by
 intro g b;obtain⟨c,e,f,j⟩:=h g b;obtain⟨k,l⟩:=xy j;exact⟨c,e,by rw[fx k];exact f,l⟩
theorem VY{d j:Nat}{b:Bool}:∀{items:List (Nat×Oper)} {inner:List Nat},mT d items=(mT d (under j b inner items).1||mT d (under j b inner items).2):=by
 intro items;induction items with
 | nil=>intro inner;rfl
 | cons p r e =>
   obtain⟨i,o⟩:=p;intro inner;unfold under;cases f:ye o.guard j b with
   | true=>simp only[eG,mT,aby];rw[e (inner:=i::inner)]
   | false =>
     simp only[iD];have both:∀c:Bool,mT d ((i,o)::r)=(mT d (bif c then((i,o)::(under j b (i::inner) r).1,(under j b (i::inner) r).2) else([],(i,o)::r)).1 ||
       mT d (bif c then((i,o)::(under j b (i::inner) r).1,(under j b (i::inner) r).2) else([],(i,o)::r)).2):=by
      intro c;cases c with
      | true=>simp only[eG,mT,aby];rw[e (inner:=i::inner)]
      | false=>simp[mT]
     exact both _
theorem VZ{p:Option Nat->Prop}{j:Nat}{want:Bool}:∀{items:List (Nat×Oper)} {inner:List Nat},(∀i o,(i,o)∈items->p o.dst) ->
  (∀i o,(i,o)∈(under j want inner items).1->p o.dst)/\(∀i o,(i,o)∈(under j want inner items).2->p o.dst):=by
 intro items;induction items with
 | nil=>intro inner h;exact⟨h,h⟩
 | cons q r l =>
   obtain⟨e,f⟩:=q;intro inner h;have m:=h e f (oB ..);have n:∀i o,(i,o)∈r->p o.dst:=λi o b=>h i o (oA _ b);unfold under;cases s:ye f.guard j want with
   | true =>
     simp only[eG];obtain⟨g,k⟩:=l (inner:=e::inner) n;refine⟨λi o b=>?_,k⟩;rcases fY.1 b with b|b
     .obtain⟨_,rfl⟩:=dz b;exact m
     .exact g i o b
   | false =>
     simp only[iD];have both:∀c:Bool,(∀i o,(i,o)∈(bif c then((e,f)::(under j want (e::inner) r).1,(under j want (e::inner) r).2) else([],(e,f)::r)).1->p o.dst) /\
       (∀i o,(i,o)∈(bif c then((e,f)::(under j want (e::inner) r).1,(under j want (e::inner) r).2) else([],(e,f)::r)).2->p o.dst):=by
      intro c;cases c with
      | true =>
        obtain⟨g,k⟩:=l (inner:=e::inner) n;refine⟨λi o b=>?_,k⟩;rcases fY.1 b with b|b
        .obtain⟨_,rfl⟩:=dz b;exact m
        .exact g i o b
      | false=>exact⟨λi o b=>(by cases b),h⟩
     exact both _
theorem HV{t:Nat}{b:Bool}(h:cQ B N γ σ a w)(f:σ.slots t=.data .bool b):a.tmps[t]?=some (.bool b):=by
 have:=h.slots t;rw[f] at this;have e:=yi this;rw[Vs] at e;cases c:a.tmps[t]? with
 | none=>rw[c] at e;cases e
 | some y=>rw[c] at e;exact congrArg some e
theorem Tm{b:Type}{c want:Bool}{t e:Tree b}{y:b}(h:(Tree.node (bif want then c else nt c) t e).run=some y):(c=want/\t.run=some y)\/(c≠want/\c=(!want)/\e.run=some y):=by
 have:=fP h;cases c<;>cases want
 .exact .inl ⟨rfl,this⟩
 .exact .inr ⟨by simp,rfl,this⟩
 .exact .inr ⟨by simp,rfl,this⟩
 .exact .inl ⟨rfl,this⟩
theorem NF(hc:eS P cx)(Zl:oT P B.G cx)(aem:vq P B.G inl)(ahz:∀f agc σ v aV,(inl f agc σ).run=some (v,aV)->bj σ aV){Q:Exit->Act->World->Prop} :
  ∀(n:Nat) {items:List (Nat×Oper)} {l rest:List Oper} {σ aV:St} {γ:Gh} {a:Act} {w:World} {G:List (Nat×Bool)},qk all G items l->Tk all G a items->(∀i o,(i,o)∈items->∀k,o.dst=some k->k<N) ->
   (px cx nb bf inl all n items σ).run=some aV->cQ B N γ σ a w ->
   (∀bG a' w',cQ B N bG aV a' w'->Ext B γ σ.mem w bG aV.mem w'->Fr items a a'->wpList P all Q rest a' w')->wpList P all Q (l++rest) a w:=by
 intro n;induction n with
 | zero=>intro items l rest σ aV γ a w G _ _ _ q;cases q
 | succ n ih =>
   intro items l rest σ aV γ a w G hit hG hd q h hK;cases hit with
   | nil =>
     obtain rfl:=aE q;exact hK γ a w h (Ext.refl _ _ _ _) (λt _=>rfl)
   | @cons i o o' r l h1 h2 h3 =>
     have M:o'.dst=o.dst:=by rcases h2 with rfl|⟨_,_,_,rfl⟩<;>rfl
     unfold px at q;split at q
     .rename_i hg;obtain⟨bA,r1,r2⟩:=bind_some q;have hw:Region.wanted o (yielded all a.tmps)=true:=by
       rcases h2 with rfl|⟨g,k1,k2,k3⟩
       .unfold Region.wanted;rw[hg]
       .exact hG.wanted k1 k2
      have r1':(pw cx nb bf inl o σ).run=some bA:=by
       rcases h2 with rfl|⟨g,k1,k2,rfl⟩
       .exact r1
       .exact r1
      show wpList P all Q (o::(l++rest)) a w
      unfold wpList;rw[hw];simp only[mh];refine .inl (K3 hc Zl aem h (λk O=>hd i o' (oB ..) k (by rw[M];exact O)) r1' λs v J R x1=>?_);have hG':=hG.put v;rw[M] at hG';refine ih h3 hG' (λi o hm=>hd i o (oA _ hm)) r2 R λS a2 w2 s2 x2 f2=>hK S a2 w2 s2 (x1.trans x2) λt ht=>?_;obtain⟨t1,Y⟩:=xy ht;rw[f2 t Y,fx (by rw[<-M];exact t1)]
     .rename_i j want hg;dsimp only at q;split at q
      .exact absurd q (by intro k;cases k)
      rename_i dj hdj;split at q
      case h_2=>exact absurd q (by intro k;cases k)
      rename_i c ip pk E ahA ab6;change Bool at c;cases hh:mT dj (under j want [] ((i,o')::r)).1 with
      | true=>rw[hh] at q;exact absurd q (by intro k;cases k)
      | false =>
      rw[hh] at q;simp only[iD] at q;split at q
      .exact absurd q (by intro k;cases k)
      rename_i hpg;have T:a.tmps[dj]?=some (.bool c):=HV h ahA;obtain⟨l1,l2,e1,I1,I2⟩:=Tj (j:=j) (want:=want) (inner:=[]) (qk.cons h1 h2 h3);obtain⟨d1,d2⟩:=VZ (p:=λd=>∀k,d=some k->k<N) (j:=j) (want:=want) (inner:=[]) hd;have U:∀d,mT d ((i,o')::r)=(mT d (under j want [] ((i,o')::r)).1||mT d (under j want [] ((i,o')::r)).2):=λd=>VY;have ahB:=λ(m:c≠want)=>VW (P:=P) (w:=w) (Q:=Q) hdj m (qk.cons h1 h2 h3) T hh (λk O=>by cases O);generalize hg1:(under j want [] ((i,o')::r)).1=X at *;rw[ab6] at I2 d2 U;cases I2 with
      | @cons _ u _ _ Z p1 p2 p3 =>
      have F:pk.dst=u.dst:=by rcases p2 with rfl|⟨_,_,_,rfl⟩<;>rfl
      have ajg:pk.op=u.op:=by rcases p2 with rfl|⟨_,_,_,rfl⟩<;>rfl
      rw[e1,oC];have A:∀{d},mT d ((i,o')::r)=false->mT d X=false/\u.dst≠some d/\mT d E=false:=by
       intro d X4;rw[U] at X4;simp only[BK] at X4;obtain⟨q1,q2⟩:=xy X4.2;exact⟨X4.1,by rw[<-F];exact q1,q2⟩
      have tail:∀(s:Gh) (τ b6:St) (z:Act) (J:World) (v:aK) (b:Bool),cQ B N s τ z J->Fr X a z->c=b->yf τ pk dj b=some v ->
        (∀y,b5 s τ.mem J v .val [y]->∃S,cQ B N S b6 (z.put u.dst y) J/\Ext B γ σ.mem w S b6.mem J)->(px cx nb bf inl all n E b6).run=some aV ->
        wpList P all Q (u::Z++rest) z J:=by
       intro s τ b6 z J v b R D hcb C hy H;have hGp:Tk all G z ((ip,pk)::E):=λg V=>by
        obtain⟨dj',k1,k2,k3⟩:=hG g V;obtain⟨q1,q2,q3⟩:=A k3;refine⟨dj',k1,by rw[D dj' q1];exact k2,?_⟩;simp only[mT,BK];refine⟨?_,q3⟩;cases L:pk.dst with
        | none=>rfl
        | some k=>exact iF λe=>q2 (by rw[<-F,L,e])
       have hwp:Region.wanted u (yielded all z.tmps)=true:=by
        rcases p2 with rfl|⟨g,k1,k2,k3⟩
        .unfold Region.wanted;rw[hpg]
        .exact hGp.wanted k1 k2
       show wpList P all Q (u::(Z++rest)) z J
       unfold wpList;rw[hwp];simp only[mh];have ajh:yf τ u dj b=some v:=by rw[<-C];unfold yf;rw[ajg]
       refine .inl (VX R (by rw[D dj hh];exact T) hcb ajh λy hyr=>?_);obtain⟨S,s2,x2⟩:=hy y hyr;have hGr:=hGp.put y;rw[F] at hGr;refine ih p3 hGr (λi o hm=>d2 i o (oA _ hm)) H s2 λγ3 a3 w3 s3 x3 f3=>hK γ3 a3 w3 s3 (x2.trans x3) λt ht=>?_;obtain⟨q1,q2,q3⟩:=A ht;rw[f3 t q3,fx q2,D t q1]
      have W:∀(τ:St) (d:Option Nat) (v:aK),(τ.aS d v).mem=τ.mem:=λτ d v=>by cases d<;>rfl
      have L:∀k,u.dst=some k->k<N:=λk O=>d2 ip pk (oB ..) k (by rw[F];exact O);have hG1:c=want->Tk all ((j,want)::G) a X:=λm g V=>by
       rcases fY.1 V with rfl|V
       .exact⟨dj,hdj,by rw[<-m];exact T,hh⟩
       .obtain⟨dj',k1,k2,k3⟩:=hG g V;exact⟨dj',k1,k2,(A k3).1⟩
      have gq:c≠want->(∀z,Fr X a z->z.tmps.size=a.tmps.size->z.defers=a.defers->wpList P all Q (u::Z++rest) z w)->wpList P all Q (l1++(u::Z++rest)) a w:=by
       intro m O;obtain⟨m1,m2,q1,q2,q3⟩:=ahB m;rw[e1] at q1;obtain⟨rfl,rfl⟩:=List.append_inj q1 (by rw[q2,I1.length]);exact q3 _ O
      cases QF:JM cx X with
      | true =>
        rw[QF] at q;simp only[eG] at q;obtain⟨b6,I,H⟩:=bind_some q;rcases Tm (c:=c) (want:=want) I with ⟨m,I⟩|⟨m,hcn,I⟩
        .obtain⟨τ,t1,Y⟩:=bind_some I;split at Y
         .rename_i v C;obtain rfl:=aE Y;refine ih I1 (hG1 m) d1 t1 h λs z J R x1 D=>tail s τ _ z J v want R D m C (λy hy=>⟨s,?_,?_⟩) H
          .rw[F];exact R.uo L hy
          .rw[W];exact x1
         .exact absurd Y (by intro k;cases k)
        .split at I
         .rename_i v C;obtain rfl:=aE I;refine gq m λz D f2 f3=>tail γ (σ.undef X) _ z w v (!want) (h.undef D (f2.trans h.size)<|f3.trans h.defers) D hcn C (λy hy=>⟨γ,?_,?_⟩) H
          .rw[F];exact(h.undef D (f2.trans h.size)<|f3.trans h.defers).uo L hy
          .rw[W,tW];exact Ext.refl _ _ _ _
         .exact absurd I (by intro k;cases k)
      | false =>
        rw[QF] at q;simp only[iD] at q;split at q
        case h_2=>exact absurd q (by intro k;cases k)
        rename_i t dp hT hdp;rw[Tree.D3] at q;obtain⟨x,I,H⟩:=zM.1 q;have K:u.dst=some dp:=by rw[<-F];exact hdp
        rcases Tm (c:=c) (want:=want) I with ⟨m,I⟩|⟨m,hcn,I⟩
        .obtain⟨τ,t1,Y⟩:=bind_some I;split at Y
         .rename_i x' C;obtain rfl:=aE Y;obtain⟨v,hv1,hv2⟩:=zM.1 C;refine ih I1 (hG1 m) d1 t1 h.ij λs z J R x1 D=>tail s τ _ z J v want R D m hv1 (λy hy=>?_) H;obtain⟨m1,m2⟩:=h.ok.unlock (QQ<|EE ahz n X _ τ t1) R.ok x1;have hS:cQ B N s σ a J:=h.go m2 m1;have hS2:=hS.undef D R.size R.defers;refine⟨s,?_,?_⟩
          .rw[K];exact hS2.uo (d:=some dp) (λk O=>L k (by rw[K];exact O)) (X3 hv2 hy)
          .show Ext B γ σ.mem w s (σ.undef X).mem J
           rw[tW];exact m2
         .exact absurd Y (by intro k;cases k)
        .split at I
         .rename_i x' C;obtain rfl:=aE I;obtain⟨v,hv1,hv2⟩:=zM.1 C;refine gq m λz D f2 f3=>tail γ (σ.undef X) _ z w v (!want) (h.undef D (f2.trans h.size)<|f3.trans h.defers) D hcn hv1 (λy hy=>⟨γ,?_,?_⟩) H
          .rw[K];exact(h.undef D (f2.trans h.size)<|f3.trans h.defers).uo (d:=some dp) (λk O=>L k (by rw[K];exact O)) (X3 hv2 hy)
          .show Ext B γ σ.mem w γ (σ.undef X).mem w
           rw[tW];exact Ext.refl _ _ _ _
         .exact absurd I (by intro k;cases k)
end
end Go.Ge
namespace Go.Ge
open RowKit
section
variable {P:Program} {B:qA} {N:Nat} {γ:Gh} {σ aV:St} {a:Act} {w w':World} {cx:Ctx} {nb:Nat} {bf:List Nat} {inl:Nat->List aK->St->Tree (aK×St)} {ops:Array Oper}
theorem QR:∀{l:List Oper} {k:Nat},(∀j,l[j]?=ops[k+j]?)->qk ops [] (number k l) l:=by
 intro l;induction l with
 | nil=>intro k _;exact .nil
 | cons o l b =>
   intro k h;refine .cons ?_ (.inl rfl) (b λj=>by have:=h (j+1);simpa [x8,XR 1 j] using this);have:=h 0;simpa using this.symm
theorem V0:∀{l:List Oper} {k i:Nat} {o:Oper},(i,o)∈number k l->o∈l:=by
 intro l;induction l with
 | nil=>intro k i o h;cases h
 | cons p l b =>
   intro k i o h;rcases fY.1 h with h|h
   .obtain⟨_,rfl⟩:=dz h;exact oB ..
   .exact oA _ (b h)
theorem QS(q:eS P cx)(c:oT P B.G cx)(e:vq P B.G inl)(b:∀f m σ v aV,(inl f m σ).run=some (v,aV)->bj σ aV){Q:Exit->Act->World->Prop}{id:Nat}
  (r:∀o∈ops.toList,∀k,o.dst=some k->k<N) (t:(Ky cx nb bf inl ops σ).run=some aV) (h:cQ B N γ σ a w)
  (u:∀bG n w',cQ B N bG aV n w'->Ext B γ σ.mem w bG aV.mem w'->Fr (number 0 ops.toList) a n->Q .normal n w'):(Code.region id ops false).wp P Q a w:=by
 refine wp_region_list ?_;have:=NF (all:=ops) (Q:=Q) (rest:=[]) q c e b _ (QR (l:=ops.toList) (k:=0) λj=>by simp) (λg y=>by cases y) (λi o z=>r o (V0 z)) t h
  (λbG n w' s x f=>wpList_nil (u bG n w' s x f))
 simpa using this
end
end Go.Ge
namespace Go.Ge
open RowKit
def ir(p:Nat->Prop)(e c:St):Prop:=∀b,c.mem b=e.mem b\/(c.mem b≠none/\p b)
section
variable {p:Nat->Prop} {σ τ ρ:St}
theorem ir.refl(σ:St):ir p σ σ:=λ_=>.inl rfl
theorem ir.ab5(h:τ.mem=σ.mem):ir p σ τ:=λb=>.inl (by rw[h])
theorem ir.trans(h:ir p σ τ)(k:ir p τ ρ):ir p σ ρ:=λb=>by
 rcases k b with c|c
 .rcases h b with e|⟨e,f⟩
  .exact .inl (c.trans e)
  .exact .inr ⟨by rw[c];exact e,f⟩
 .exact .inr c
theorem ir.aS(b:St)(d:Option Nat)(v:aK):ir p b (b.aS d v):=by cases d<;>exact λ_=>.inl rfl
theorem ir.put(b:St)(d:Nat)(v:aK):ir p b (b.put d v):=λ_=>.inl rfl
theorem ir.bT{b:Nat}{bx:Box}(h:p b):ir p σ (σ.bT b bx):=λc=>by
 by_cases e:c=b
 .subst e;exact .inr ⟨by simp[St.bT],h⟩
 .exact .inl (by rw[ur,aN _ e])
end
def aC(p:Nat->Prop)(b:St)(T:Tree St):Prop:=∀y,T.run=some y->ir p b y
section
variable {p:Nat->Prop} {σ:St}
theorem aC.fail:aC p σ .fail:=λy h=>by cases h
theorem aC.ret{b:St}(h:ir p σ b):aC p σ (.ret b):=λy c=>by obtain rfl:=aE c;exact h
theorem aC.bif{c:Bool}{t:Tree St}(h:aC p σ t):aC p σ (bif c then t else .fail):=λy b=>h y (aw b).2
theorem aC.need{c:Bool}{t:Tree St}(h:aC p σ t):aC p σ (.need c t):=λy b=>h y (ck b).2
theorem aC.look{T:Type}{o:Option T}{k:T->Tree St}(h:∀x,aC p σ (k x)):aC p σ (.look o k):=λy b=>by obtain⟨x,_,c⟩:=bX b;exact h x y c
theorem aC.node{c:Bool}{t e:Tree St}(h:aC p σ t)(k:aC p σ e):aC p σ (.node c t e):=λy b=>by
 have:=fP b;cases c with
 | true=>exact h y this
 | false=>exact k y this
theorem aC.bind{α:Type}{t:Tree α}{f:α->Tree St}(h:∀x,t.run=some x->aC p σ (f x)):aC p σ (t.bind f):=λy b=>by obtain⟨x,c,e⟩:=bind_some b;exact h x c y e
theorem aC.aJ{b:Nat}{c:aK}{tid:TypeId}{e:Bool}{d:Nat}{v:Nat->aK}(h:p b):aC p σ (σ.aJ b c tid e λaI σ=>.ret (σ.put d<|v aI)):=λy f=>by
 obtain⟨aI,i,g⟩:=iU f;obtain rfl:=aE g;exact(ir.bT h).trans (ir.put _ _ _)
theorem Ld{g e:St}{b:Nat}(j:∀b,g.mem b≠none->p b)(h:freeze g b=some e):ir p g e:=by
 unfold freeze at h;split at h
 .rename_i i k;cases c:i.ro with
  | true=>simp only[c,eG,su] at h;rw[<-h];exact ir.refl _
  | false =>
    cases f:i.lk with
    | true=>simp[c,f] at h
    | false =>
      simp only[c,f,iD,su] at h;rw[<-h];exact ir.bT (j b<|by rw[k];simp)
 .cases h
def IV(p:Nat->Prop)(e c:St):Prop:=(∀b,e.mem b≠none->p b)->ir p e c/\∀b,c.mem b≠none->p b
theorem IV.refl(σ:St):IV p σ σ:=λh=>⟨ir.refl _,h⟩
theorem IV.trans{σ b c:St}(h:IV p σ b)(k:IV p b c):IV p σ c:=λe=>by
 obtain⟨f,g⟩:=h e;obtain⟨i,j⟩:=k g;exact⟨f.trans i,j⟩
theorem IV.of{e c:St}(h:(∀b,e.mem b≠none->p b)->ir p e c):IV p e c:=λf=>by
 refine⟨h f,λb g=>?_⟩;rcases h f b with k|k
 .exact f b (by rw[<-k];exact g)
 .exact k.2
theorem Tn:∀{v:aK} {σ aV:St},gp σ v=some aV->IV p σ aV:=by
 intro v;induction v with
 | mix p q c e =>
   intro σ aV h;obtain⟨bA,g,i⟩:=vn h;exact(c g).trans (e i)
 | whole b aI=>intro σ aV h;exact IV.of λf=>Ld f h
 | part b aI lo n=>intro σ aV h;exact IV.of λf=>Ld f h
 | _=>intro σ aV h;obtain rfl:=aE h;exact IV.refl _
theorem xz{t:Ty}{x:t.den}{v:aK}{c b:St}(h:xf c t v=some (x,b)):IV p c b:=by
 unfold xf at h;split at h
 .split at h
  .obtain⟨_,rfl⟩:=dz (aE h);exact IV.refl _
  .cases h
 .split at h
  .rename_i y bA f e;obtain⟨_,rfl⟩:=dz (aE h);exact Tn e
  .cases h
theorem Ag:∀{A:Ty} {x:A.den} {vs:List aK} {σ aV:St},kA σ A vs=some (x,aV)->IV p σ aV:=by
 intro A;induction A with
 | pair t r e c =>
   intro x vs σ aV b;cases vs with
   | nil=>cases b
   | cons v vs =>
     simp only[kA] at b;split at b
     .rename_i p bA f;split at b
      .rename_i q b6 g;obtain⟨_,rfl⟩:=dz (aE b);exact(xz f).trans (c g)
      .cases b
     .cases b
 | unit =>
   intro x vs σ aV b;cases vs with
   | nil=>obtain⟨_,rfl⟩:=dz (aE b);exact IV.refl _
   | cons v vs=>cases b
 | _=>intro x vs σ aV b;cases vs<;>cases b
theorem Lf{t:Ty}:∀{parts:List (Nat×Operand)} {x b:t.den} {σ aV:St},ga σ t x parts=some (b,aV)->IV p σ aV:=by
 intro parts;induction parts with
 | nil=>intro x b σ aV h;obtain⟨_,rfl⟩:=dz (aE h);exact IV.refl _
 | cons p r c =>
   obtain⟨k,o⟩:=p;intro x b σ aV h;simp only[ga] at h;split at h
   .split at h
    .rename_i e;split at h
     .exact(xz e).trans (c h)
     .cases h
    .cases h
   .cases h
theorem wk{e:Ty}:∀{parts:List (Nat×Operand)} {l c:List e.den} {σ aV:St},fb σ e l parts=some (c,aV)->IV p σ aV:=by
 intro parts;induction parts with
 | nil=>intro x i σ aV h;obtain⟨_,rfl⟩:=dz (aE h);exact IV.refl _
 | cons p r f =>
   obtain⟨k,o⟩:=p;intro l c σ aV h;simp only[fb] at h;split at h
   .rename_i g;cases b:Nat.blt k l.length with
    | false=>rw[b] at h;cases h
    | true=>rw[b] at h;exact(xz g).trans (f h)
   .cases h
theorem HW{b g:Nat}{q:List CU}{h:aK->Bool}{u:aK}{n e:St}(f:(storeAt b g q h u n).run=some e):IV p n e:=IV.of λr=>by
 unfold storeAt at f;split at f
 case h_2=>exact absurd f (by intro k;cases k)
 rename_i v s;obtain⟨x,i⟩:=aw f;obtain⟨t,y,j⟩:=bind_some i;obtain⟨o,l⟩:=aw j;obtain⟨c,z,m⟩:=bind_some l;obtain rfl:=aE m;exact ir.bT (r b<|by rw[s];simp)
theorem To{b g:Nat}{r:List CU}{n:Nat}{u:aK}{o e:St}(f:(oh b g r n u o).run=some e):IV p o e:=IV.of λs=>by
 unfold oh at f;split at f
 case h_2=>exact absurd f (by intro k;cases k)
 rename_i y t;obtain⟨z,h⟩:=aw f;obtain⟨v,A,i⟩:=bind_some h;obtain⟨q,j⟩:=aw i;obtain⟨c,C,l⟩:=bind_some j;obtain⟨x,m⟩:=aw l;obtain rfl:=aE m;exact ir.bT (s b<|by rw[t];simp)
theorem NG{m:Ctx}{i:List Nat}{n:TypeId}{x y:aK}{g c:St}(f:(lD m i n x y g).run=some c):IV p g c:=by
 unfold lD at f;split at f
 case h_2=>exact absurd f (by intro k;cases k)
 split at f
 case h_2=>exact absurd f (by intro k;cases k)
 obtain⟨j,h⟩:=aw f;obtain⟨o,s,e⟩:=bind_some h;split at e
 .rename_i u _;obtain⟨q,b⟩:=aw e;cases l:cK i 8000000&&abF u y with
  | true=>rw[l] at b;exact To b
  | false =>
  rw[l] at b;replace b:(match xf g u y with|some (y,g)=>storeAt _ _ _ (Y6 u) (.data u y) g|none=>.fail).run=some c:=b;split at b
  .rename_i r;exact(xz r).trans (HW b)
  .exact absurd b (by intro k;cases k)
 .obtain⟨q,b⟩:=aw e;exact HW b
theorem Ah{j:Ctx}{i:Nat}{d:Option Nat}{m:TypeId}{s x:aK}{g f:St}(n:∀k,d=some k->p (i+k))(o:∀b,g.mem b≠none->p b)(c:(gV j i d m s x g).run=some f):ir p g f:=by
 unfold gV at c;split at c
 case h_2=>exact absurd c (by intro k;cases k)
 split at c
 case h_2=>exact absurd c (by intro k;cases k)
 split at c
 .obtain⟨q,e⟩:=ck c;exact aC.aJ (n _ rfl) _ e
 .split at c
  case h_2=>exact absurd c (by intro k;cases k)
  rename_i u l r v;obtain⟨t,h⟩:=yl c;obtain⟨q,e⟩:=ck h;obtain rfl:=aE e;exact(ir.bT<|o _<|by rw[r];simp).trans (ir.put _ _ _)
 .exact absurd c (by intro k;cases k)
theorem Lg{b:Nat}{f:aK}{g:TypeId}{i:Bool}{d:Nat}{v:Nat->aK}{e c:St}(h:p b)(k:(e.aJ b f g i λj e=>.ret (e.put d<|v j)).run=some c):ir p e c:=aC.aJ h _ k
theorem NH{i:Nat}{e:Ty}{d:Option Nat}{f:List aK}{h g:St}(j:∀k,d=some k->p (i+k))(l:∀b,h.mem b≠none->p b)(c:(lH i e d f h).run=some g):ir p h g:=by
 unfold lH at c;split at c
 case h_2=>cases c
 split at c
 case h_2=>cases c
 rename_i m;obtain⟨_,c⟩:=aw c;obtain⟨_,c⟩:=ck c;exact((xz m) l).1.trans (Lg (j _ rfl) c)
theorem NI{h g:Nat}{d:Option Nat}{c:List aK}{i e:St}(j:∀k,d=some k->p (h+k))(b:(lI h g d c i).run=some e):ir p i e:=by
 unfold lI at b;split at b
 .cases b
 .cases b
 .exact Lg (v:=λf=>.fn g [(_,f)]) (j _ rfl) (aw b).2
 .cases b
theorem Tp{e A:Ty}{f:Bool}{g:List e.den->A.den->Option (List e.den)}{d:Option Nat}{h:List aK}{m i:St}(q:∀b,m.mem b≠none->p b)(c:(qU e A f g d h m).run=some i):ir p m i:=by
 unfold qU at c;split at c
 case h_2=>cases c
 split at c
 case h_2=>cases c
 rename_i x bA r;split at c
 case h_2=>cases c
 rename_i b s v l n;obtain⟨y,_,c⟩:=bX c;obtain⟨t,_⟩:=rR n;obtain⟨o,u⟩:=(Ag r) q;have key:∀j,ir p bA (bA.bT b j):=λj=>ir.bT (u b<|by rw[t];simp);cases f with
 | true =>
   cases d with
   | none=>cases c
   | some k=>obtain rfl:=aE c;exact(o.trans<|key _).trans (ir.put _ _ _)
 | false =>
   cases d with
   | none=>obtain⟨_,c⟩:=aw c;obtain rfl:=aE c;exact(o.trans<|key _).trans (ir.aS _ none _)
   | some k=>obtain⟨_,c⟩:=aw c;obtain rfl:=aE c;exact(o.trans<|key _).trans (ir.aS _ (some _) _)
end
section
variable {cx:Ctx} {nb:Nat} {bf:List Nat} {d:Option Nat} {σ:St} {p:Nat->Prop}
theorem QT{c a b:aK}:aC p σ (nK d c a b σ):=by unfold nK;(repeat' (first|exact aC.fail|exact aC.ret (ir.aS _ _ _)|exact aC.ret (ir.put _ _ _)|exact aC.aJ (by assumption)|refine aC.bif ?_|refine aC.need ?_|refine aC.look λ_=>?_|refine aC.node ?_ ?_|refine aC.bind λ_ _=>?_|split))
theorem QU{b:TypeId}{a:aK}:aC p σ (kU cx d b a σ):=by unfold kU;(repeat' (first|exact aC.fail|exact aC.ret (ir.aS _ _ _)|exact aC.ret (ir.put _ _ _)|exact aC.aJ (by assumption)|refine aC.bif ?_|refine aC.need ?_|refine aC.look λ_=>?_|refine aC.node ?_ ?_|refine aC.bind λ_ _=>?_|split))
theorem NJ{b:TypeId}{x:aK}{c e:Option Operand}:aC p σ (lE cx d b x c e σ):=by unfold lE;(repeat' (first|exact aC.fail|exact aC.ret (ir.aS _ _ _)|exact aC.ret (ir.put _ _ _)|exact aC.aJ (by assumption)|refine aC.bif ?_|refine aC.need ?_|refine aC.look λ_=>?_|refine aC.node ?_ ?_|refine aC.bind λ_ _=>?_|split))
theorem Zm{b c:Nat}{i:Int}:∀{m k:Nat},aC p σ (Kw d b c σ i m k):=by
 intro m;induction m with
 | zero=>intro k;exact aC.fail
 | succ m e=>intro k;exact aC.node (aC.ret<|ir.aS _ _ _) e
theorem vu{b:TypeId}{x:aK}{i:Int}:aC p σ (ev cx d b x i σ):=by
 unfold ev;split
 case h_6=>split
           .exact aC.bif Zm
           .exact aC.fail
 all_goals (repeat' (first|exact aC.fail|exact aC.ret (ir.aS _ _ _)|exact aC.ret (ir.put _ _ _)|exact aC.aJ (by assumption)|refine aC.bif ?_|refine aC.need ?_|refine aC.look λ_=>?_|refine aC.node ?_ ?_|refine aC.bind λ_ _=>?_|split))
theorem NK{b:TypeId}{x:aK}{i:Int}:aC p σ (lF cx d b x i σ):=by
 unfold lF;split
 .refine aC.bif ?_;split
  .exact aC.bif (aC.ret<|ir.aS _ _ _)
  .exact aC.fail
 .exact vu
theorem NL{b:TypeId}{x:aK}{i:Int}:aC p σ (lG cx d b x i σ):=by unfold lG;(repeat' (first|exact aC.fail|exact aC.ret (ir.aS _ _ _)|exact aC.ret (ir.put _ _ _)|exact aC.aJ (by assumption)|refine aC.bif ?_|refine aC.need ?_|refine aC.look λ_=>?_|refine aC.node ?_ ?_|refine aC.bind λ_ _=>?_|split))
theorem EF{s:TypeId}{x:aK}{k:Nat}:aC p σ (eU cx d s x k σ):=by unfold eU;(repeat' (first|exact aC.fail|exact aC.ret (ir.aS _ _ _)|exact aC.ret (ir.put _ _ _)|exact aC.aJ (by assumption)|refine aC.bif ?_|refine aC.need ?_|refine aC.look λ_=>?_|refine aC.node ?_ ?_|refine aC.bind λ_ _=>?_|split))
theorem Ai{b:TypeId}{v:aK}(c:∀k,d=some k->p (nb+k)):aC p σ (js cx nb bf d b v σ):=by
 unfold js;split
 ·(repeat' (first|exact aC.fail|exact aC.ret (ir.aS _ _ _)|exact aC.ret (ir.put _ _ _)|exact aC.aJ (by assumption)|refine aC.bif ?_|refine aC.need ?_|refine aC.look λ_=>?_|refine aC.node ?_ ?_|refine aC.bind λ_ _=>?_|split))
 .split
  .rename_i k e _;cases cK bf k with
   | true=>exact aC.aJ (c _ rfl)
   | false=>exact aC.ret (ir.put _ _ _)
  .exact aC.ret (ir.aS _ _ _)
 .exact aC.ret (ir.aS _ _ _)
theorem IW{s t:TypeId}{x:aK}(b:∀k,d=some k->p (nb+k)):aC p σ (gD cx nb d s t x σ):=by
 unfold gD;split
 ·(repeat' (first|exact aC.fail|exact aC.ret (ir.aS _ _ _)|exact aC.ret (ir.put _ _ _)|exact aC.aJ (by assumption)|refine aC.bif ?_|refine aC.need ?_|refine aC.look λ_=>?_|refine aC.node ?_ ?_|refine aC.bind λ_ _=>?_|split))
 ·(repeat' (first|exact aC.fail|exact aC.ret (ir.aS _ _ _)|exact aC.ret (ir.put _ _ _)|exact aC.aJ (by assumption)|refine aC.bif ?_|refine aC.need ?_|refine aC.look λ_=>?_|refine aC.node ?_ ?_|refine aC.bind λ_ _=>?_|split))
 .split
  .exact aC.need (aC.aJ<|b _ rfl)
  .exact aC.fail
 ·(repeat' (first|exact aC.fail|exact aC.ret (ir.aS _ _ _)|exact aC.ret (ir.put _ _ _)|exact aC.aJ (by assumption)|refine aC.bif ?_|refine aC.need ?_|refine aC.look λ_=>?_|refine aC.node ?_ ?_|refine aC.bind λ_ _=>?_|split))
 ·(repeat' (first|exact aC.fail|exact aC.ret (ir.aS _ _ _)|exact aC.ret (ir.put _ _ _)|exact aC.aJ (by assumption)|refine aC.bif ?_|refine aC.need ?_|refine aC.look λ_=>?_|refine aC.node ?_ ?_|refine aC.bind λ_ _=>?_|split))
theorem Pn{l:Nat->Option Box}:∀{o:OT} {v:aK} {u:o.den} {N M:List (Nat×Nat)},dd l o v=some (u,N,M)->∀b∈bo N M,l b≠none:=by
 intro o;induction o with
 | zL t =>
   intro v u N M h;unfold dd at h;split at h
   .cases h;intro b j;cases j
   .cases h
 | buf e r =>
   intro v u N M h;unfold dd at h;split at h
   case h_2=>cases h
   rename_i b k;split at h
   case h_2=>cases h
   rename_i g j;cases i:(Nat.beq g.aI k&&g.buf&&!g.lk&&!g.ro&&Nat.beq g.tid r&&Nat.blt 0 e.size) with
   | false=>rw[i] at h;cases h
   | true =>
     rw[i] at h;simp only[eG] at h;split at h
     case h_2=>cases h
     split at h
     case h_2=>cases h
     cases h;intro c f;have:c=b:=by simpa [bo] using f
     subst this;rw[j];simp
 | ref tid o A =>
   intro v u N M h;unfold dd at h;split at h
   case h_2=>cases h
   rename_i b k;split at h
   case h_2=>cases h
   rename_i g j;cases i:(Nat.beq g.aI k&&!g.buf&&!g.lk&&!g.ro&&Nat.beq g.tid tid) with
   | false=>rw[i] at h;cases h
   | true =>
     rw[i] at h;simp only[eG] at h;split at h
     case h_2=>cases h
     rename_i F C D E;cases h;intro c f;unfold bo at f;simp only[tg,zP,fY] at f;rcases f with rfl|f
     .rw[j];simp
     .exact A E c f
 | pair p q m n =>
   intro v u N M h;unfold dd at h;split at h
   case h_2=>cases h
   split at h
   case h_2=>cases h
   rename_i x C D y G H s z;cases h;intro c f;unfold bo at f;simp only[CR,sv] at f;rcases f with (f|f)|(f|f)
   .exact m s c (nB _ f)
   .exact n z c (nB _ f)
   .exact m s c (mP _ f)
   .exact n z c (mP _ f)
 | unit =>
   intro v u N M h;unfold dd at h;split at h
   case h_2=>cases h
   cases h;intro b j;cases j
 | dK =>
   intro v u N M h;unfold dd at h;split at h
   case h_2=>cases h
   cases h;intro b j;cases j
theorem Tq{i:St}:∀{ps:List Bool} {A:Ty} {U:OT} {vs:List aK} {x:A.den} {u:U.den} {N M:List (Nat×Nat)},eC i ps A U vs=some (x,u,N,M)->∀b∈bo N M,i.mem b≠none:=by
 intro ps;induction ps with
 | nil =>
   intro A U vs x u N M h;cases A<;>first|(cases h;done)|skip
   cases U<;>first|(cases h;done)|skip
   cases vs with
   | cons v r=>cases h
   | nil=>cases h;intro b k;cases k
 | cons q ps g =>
   intro A U vs x u N M h;cases q with
   | false =>
     cases A<;>first|(cases h;done)|skip
     cases vs with
     | nil=>cases h
     | cons v r =>
       simp only[eC] at h;split at h
       .rename_i f;cases h;exact g f
       .cases h
   | true =>
     cases U<;>first|(cases h;done)|skip
     rename_i o U;cases o<;>first|(cases h;done)|skip
     case dK =>
      cases vs with
      | nil=>cases h
      | cons v r =>
        cases v<;>first|(cases h;done)|skip
        simp only[eC] at h;split at h
        .rename_i f;cases h;exact g f
        .cases h
     cases vs with
     | nil=>cases h
     | cons v r =>
       simp only[eC] at h;split at h
       .rename_i l m n s t y z j f;cases h;intro c e;unfold bo at e;simp only[CR,sv] at e;rcases e with (e|e)|(e|e)
        .exact Pn j c (nB _ e)
        .exact g f c (nB _ e)
        .exact Pn j c (mP _ e)
        .exact g f c (mP _ e)
       .cases h
theorem Tr{c:List Bool}{A:Ty}{U:OT}{e:List aK}{x:A.den}{u y:U.den}{N M:List (Nat×Nat)}(h:eC σ c A U e=some (x,u,N,M))(f:∀b,σ.mem b≠none->p b):ir p σ (kB U y N M σ):=λb=>by
 rw[gE];cases hv:iE U y N (M.map λp=>(p.1,p.2+1)) b with
 | none=>exact .inl rfl
 | some v=>exact .inr ⟨by simp,f b (Tq h b (by have:=oF hv;rwa [uv] at this))⟩
theorem aeo{f:Nat}{b:List aK}{k:xd}(h:find cx.Ql (Y7 f b)=some k):afX cx f=true:=by
 unfold afX;split
 .rfl
 .rename_i c;unfold Y7 at h;split at h
  .rw[h]
  .rw[c] at h;cases h
theorem V1{o:Oper}{i:Option Nat}(T:nL o σ=i)(I:cls cx i o≠3)(z:cls cx i o≠0->∀k,o.dst=some k->p (nb+k))(F:cls cx i o≠0->cls cx i o≠1->∀b,σ.mem b≠none->p b):aC p σ (pw cx nb bf zV o σ):=by
 unfold pw;split
 case h_1 x h=>exact Ai (z<|by simp[cls,h])
 case h_2 x h=>exact Ai (z<|by simp[cls,h])
 case h_3=>exact QT
 case h_4 e h =>
  split
  .rename_i k t R L;have h0:cls cx i o≠0:=by
    cases t<;>simp[cls,h,L]
   unfold tT;split
   .exact absurd (by simp[cls,h,L]) I
   .exact aC.aJ (z h0 _<|by assumption)
  .rename_i L;split
   .rename_i J;exact absurd (by simp[cls,h,L,J]) I
   .rename_i J;exact aC.bif (aC.aJ<|z (by simp[cls,h,L,J]) _<|by assumption)
  .exact aC.fail
 case h_5 e x h =>
  unfold D8;split
  .exact aC.fail
  .exact aC.fail
  .split
   .rename_i J;exact absurd (by simp[cls,h,J]) I
   .rename_i J;exact aC.aJ (z (by simp[cls,h,J]) _<|by assumption)
  .exact aC.fail
 case h_6 t ps h =>
  have C:=F (by simp[cls,h]) (by simp[cls,h]);split
  .split
   .rename_i d0 k0 hz;unfold uf;split
    .exact aC.bif (aC.aJ<|z (by simp[cls,h]) d0 (z7 hz).1)
    .exact aC.fail
   split
   .rename_i G;exact aC.ret ((Lf G C).1.trans<|ir.aS _ _ _)
   .exact aC.fail
  .split
   .rename_i G;exact aC.ret ((wk G C).1.trans<|ir.aS _ _ _)
   .exact aC.fail
  ·(repeat' (first|exact aC.fail|exact aC.ret (ir.aS _ _ _)|exact aC.ret (ir.put _ _ _)|exact aC.aJ (by assumption)|refine aC.bif ?_|refine aC.need ?_|refine aC.look λ_=>?_|refine aC.node ?_ ?_|refine aC.bind λ_ _=>?_|split))
  .exact aC.fail
 case h_7 t n ps h =>
  have C:=F (by simp[cls,h]) (by simp[cls,h]);split
  .split
   .rename_i k O S;exact aC.aJ (z (by simp[cls,h]) k (C8 O).1)
   .refine aC.bif ?_;split
    .rename_i G;split
     .rename_i k R;exact λy m=>(wk G C).1.trans (aC.aJ (z (by simp[cls,h]) k<|vt R) _ m)
     .exact aC.ret ((wk G C).1.trans<|ir.aS _ _ _)
    .exact aC.fail
  .unfold Bi;split
   .exact aC.bif (aC.aJ<|z (by simp[cls,h]) _<|by assumption)
   .exact aC.fail
  .exact aC.fail
 case h_8=>exact QU
 case h_9 t a x h =>
  cases U:ya x with
  | true=>exact absurd (by simp[cls,h,U]) I
  | false =>
  have C:=F (by simp[cls,h,U]) (by simp[cls,h,U]);split
  .rw[abt];exact λy m=>(NG m C).1
  .exact aC.fail
 case h_10=>(repeat' (first|exact aC.fail|exact aC.ret (ir.aS _ _ _)|exact aC.ret (ir.put _ _ _)|exact aC.aJ (by assumption)|refine aC.bif ?_|refine aC.need ?_|refine aC.look λ_=>?_|refine aC.node ?_ ?_|refine aC.bind λ_ _=>?_|split))
 case h_11=>(repeat' (first|exact aC.fail|exact aC.ret (ir.aS _ _ _)|exact aC.ret (ir.put _ _ _)|exact aC.aJ (by assumption)|refine aC.bif ?_|refine aC.need ?_|refine aC.look λ_=>?_|refine aC.node ?_ ?_|refine aC.bind λ_ _=>?_|split))
 case h_12=>(repeat' (first|exact aC.fail|exact aC.ret (ir.aS _ _ _)|exact aC.ret (ir.put _ _ _)|exact aC.aJ (by assumption)|refine aC.bif ?_|refine aC.need ?_|refine aC.look λ_=>?_|refine aC.node ?_ ?_|refine aC.bind λ_ _=>?_|split))
 case h_13 s t x h=>exact IW (z<|by simp[cls,h])
 case h_14=>(repeat' (first|exact aC.fail|exact aC.ret (ir.aS _ _ _)|exact aC.ret (ir.put _ _ _)|exact aC.aJ (by assumption)|refine aC.bif ?_|refine aC.need ?_|refine aC.look λ_=>?_|refine aC.node ?_ ?_|refine aC.bind λ_ _=>?_|split))
 case h_15=>exact NJ
 case h_16=>exact EF
 case h_17=>(repeat' (first|exact aC.fail|exact aC.ret (ir.aS _ _ _)|exact aC.ret (ir.put _ _ _)|exact aC.aJ (by assumption)|refine aC.bif ?_|refine aC.need ?_|refine aC.look λ_=>?_|refine aC.node ?_ ?_|refine aC.bind λ_ _=>?_|split))
 case h_18=>split
            .cases cK bf 5000000 with
             | true=>exact NK
             | false=>exact vu
            .exact aC.fail
 case h_19=>split
            .exact NL
            .exact aC.fail
 case h_20 t l c h =>
  split
  .exact aC.need (aC.need<|aC.aJ<|z (by simp[cls,h]) _<|by assumption)
  .exact aC.fail
 case h_21=>(repeat' (first|exact aC.fail|exact aC.ret (ir.aS _ _ _)|exact aC.ret (ir.put _ _ _)|exact aC.aJ (by assumption)|refine aC.bif ?_|refine aC.need ?_|refine aC.look λ_=>?_|refine aC.node ?_ ?_|refine aC.bind λ_ _=>?_|split))
 case h_22 c h =>
  unfold ui;split
  .rename_i b G;split
   ·(repeat' (first|exact aC.fail|exact aC.ret (ir.aS _ _ _)|exact aC.ret (ir.put _ _ _)|exact aC.aJ (by assumption)|refine aC.bif ?_|refine aC.need ?_|refine aC.look λ_=>?_|refine aC.node ?_ ?_|refine aC.bind λ_ _=>?_|split))
   .have j:cls cx i o≠0:=by simp[cls,h,G]
    have D:cls cx i o≠1:=by simp[cls,h,G]
    split
    .exact λy m=>Ah (z j) (F j D) m
    .exact λy m=>Ah (z j) (F j D) m
    .exact aC.fail
   .exact absurd (by simp[cls,h,G]) I
   .exact absurd (by simp[cls,h,G]) I
   ·(repeat' (first|exact aC.fail|exact aC.ret (ir.aS _ _ _)|exact aC.ret (ir.put _ _ _)|exact aC.aJ (by assumption)|refine aC.bif ?_|refine aC.need ?_|refine aC.look λ_=>?_|refine aC.node ?_ ?_|refine aC.bind λ_ _=>?_|split))
   ·(repeat' (first|exact aC.fail|exact aC.ret (ir.aS _ _ _)|exact aC.ret (ir.put _ _ _)|exact aC.aJ (by assumption)|refine aC.bif ?_|refine aC.need ?_|refine aC.look λ_=>?_|refine aC.node ?_ ?_|refine aC.bind λ_ _=>?_|split))
   .exact aC.fail
  .rename_i f H;split
   .rename_i g X V;refine aC.bif ?_;have q:i=some (SS g):=by rw[<-T];simp[nL,h,H,V]
    generalize SS g=g' at q⊢;unfold ti;split
    .rename_i e Q;have key:cls cx i o=2:=by simp[cls,h,H,q,oU Q]
     have j:cls cx i o≠0:=by rw[key];simp
     have D:cls cx i o≠1:=by rw[key];simp
     exact λy m=>NH (z j) (F j D) m
    .rename_i e A r s Q;have key:cls cx i o=2:=by simp[cls,h,H,q,oU Q]
     have j:cls cx i o≠0:=by rw[key];simp
     have D:cls cx i o≠1:=by rw[key];simp
     exact λy m=>Tp (F j D) m
    .rename_i g' Q;have key:cls cx i o=2:=by simp[cls,h,H,q,oU Q]
     have j:cls cx i o≠0:=by rw[key];simp
     exact λy m=>NI (z j) m
    rename_i Y Z al9;unfold wc;split
    .rename_i con v;split
     .split
      .exact aC.look λ_=>aC.ret (ir.aS _ _ _)
      .exact aC.fail
     .rename_i W;have key:cls cx i o=2:=by
       unfold cls;simp only[h,H,q];split
       .rfl
       .rfl
       .rfl
       .simp[v,W]
      have j:cls cx i o≠0:=by rw[key];simp
      have D:cls cx i o≠1:=by rw[key];simp
      split
      .rename_i K;exact aC.look λ_=>aC.ret ((Ag K<|F j D).1.trans<|ir.aS _ _ _)
      .exact aC.fail
    .rename_i v;split
     .rename_i s E;unfold Bh;split
      .exact absurd (by simp[cls,h,H,q,v,E]) I
      .exact absurd (by simp[cls,h,H,q,v,E]) I
      .exact aC.fail
     .rename_i E;split
      .rename_i k R;have key:cls cx i o=2:=by simp[cls,h,H,q,v,E,aeo R]
       have j:cls cx i o≠0:=by rw[key];simp
       have D:cls cx i o≠1:=by rw[key];simp
       split
       .rename_i x u N M K;exact aC.bif (aC.look λy=>aC.ret ((Tr K<|F j D).trans<|ir.aS _ _ _))
       .exact λy m=>by cases m
      .exact λy m=>by cases m
   .exact aC.fail
  .rename_i r name H;have key:cls cx i o=2:=by simp[cls,h,H]
   have j:cls cx i o≠0:=by rw[key];simp
   have D:cls cx i o≠1:=by rw[key];simp
   unfold qz;split
   .split
    .rename_i K;exact aC.look λ_=>aC.ret ((Ag K<|F j D).1.trans<|ir.aS _ _ _)
    .exact aC.fail
   .exact aC.fail
 case h_23 u x h =>
  have key:cls cx i o=2:=by simp[cls,h]
  have j:cls cx i o≠0:=by rw[key];simp
  have D:cls cx i o≠1:=by rw[key];simp
  unfold qy;split
  .split
   .split
    .rename_i K;exact aC.ret ((xz K<|F j D).1.trans<|ir.aS _ _ _)
    .exact aC.fail
   .exact aC.fail
  .exact aC.fail
 case h_24=>exact aC.fail
end
end Go.Ge
