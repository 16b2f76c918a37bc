/- A ghost interpreter of the model's code, and that it tells the truth: part 7. It says of a function of plain data what a call of it comes to. -/
import Derived.Test.YtbaijbjhkmoidaaGreatDoorGeF
import Derived.Tactics
set_option linter.unusedVariables false
set_option linter.unusedSimpArgs false
set_option linter.unusedSectionVars false
namespace Go.Ge
open RowKit
def aM(σ c:St):Prop:=∀b e,σ.mem b=some e->e.lk=true->c.mem b=some e
theorem aM.refl(σ:St):aM σ σ:=λ_ _ h _=>h
theorem aM.trans{σ e c:St}(h:aM σ e)(k:aM e c):aM σ c:=λb bx g f=>k b bx (h b bx g f) f
theorem aM.put(b:St)(d:Nat)(v:ax):aM b (b.put d v):=λ_ _ h _=>h
theorem aM.aA(b:St)(d:Option Nat)(v:ax):aM b (b.aA d v):=by cases d<;>exact λ_ _ h _=>h
theorem aM.Ka{e c:St}(h:c.mem=e.mem):aM e c:=λb g f _=>by rw[h];exact f
theorem fx{g:St}{b:Nat}{k:aS}(h:∀f,g.mem b=some f->f.lk=false):aM g (g.bI b k):=λc cx i j=>by
 by_cases e:c=b
 .subst e;rw[h cx i] at j;cases j
 .rw[mQ,az _ e];exact i
theorem da{j:Type}{e:St}{b:Nat}{val:ax}{tid:TypeId}{buf:Bool}{k:Nat->St->Tree j}{y:j}(h:(e.aw b val tid buf k).run=some y) :
  ∃au,aM e (e.bI b { val,tid,buf,ro:=false,lk:=false,au })/\(k au<|e.bI b { val,tid,buf,ro:=false,lk:=false,au }).run=some y:=by
 unfold St.aw at h;split at h
 .rename_i l f;cases g:l.lk with
  | true=>rw[g] at h;cases h
  | false =>
    rw[g] at h;exact⟨l.au+1,fx (λi c=>by rw[f] at c;obtain rfl:=aq c;exact g),h⟩
 .rename_i f;exact⟨0,fx (λi c=>by rw[f] at c;cases c),h⟩
theorem ve{g f:St}{b:Nat}(h:freeze g b=some f):aM g f:=by
 unfold freeze at h;split at h
 .rename_i i k;cases c:i.ro with
  | true=>simp only[c,cd,j7] at h;rw[<-h];exact aM.refl _
  | false =>
    cases e:i.lk with
    | true=>simp[c,e] at h
    | false =>
      simp only[c,e,fk,j7] at h;rw[<-h];exact fx λl j=>by rw[k] at j;obtain rfl:=aq j;exact e
 .cases h
theorem Bk:∀{v:ax} {σ aB:St},eA σ v=some aB->aM σ aB:=by
 intro v;induction v with
 | mix p q c e =>
   intro σ aB h;obtain⟨aV,f,g⟩:=nC h;exact(c f).trans (e g)
 | whole b au=>intro σ aB h;exact ve h
 | part b au lo n=>intro σ aB h;exact ve h
 | _=>intro σ aB h;obtain rfl:=aq h;exact aM.refl _
theorem jX{t:Ty}{x:t.den}{v:ax}{c b:St}(h:om c t v=some (x,b)):aM c b:=by
 unfold om at h;split at h
 .split at h
  .obtain⟨_,rfl⟩:=b8 (aq h);exact aM.refl _
  .cases h
 .split at h
  .rename_i y aV f e;obtain⟨_,rfl⟩:=b8 (aq h);exact Bk e
  .cases h
theorem kp:∀{A:Ty} {x:A.den} {c:List ax} {σ aB:St},gE σ A c=some (x,aB)->aM σ aB:=by
 intro A;induction A with
 | pair t r f e =>
   intro x c σ aB b;cases c with
   | nil=>cases b
   | cons v c =>
     simp only[gE] at b;split at b
     .rename_i p aV g;split at b
      .rename_i q br h;obtain⟨_,rfl⟩:=b8 (aq b);exact(jX g).trans (e h)
      .cases b
     .cases b
 | unit =>
   intro x c σ aB b;cases c with
   | nil=>obtain⟨_,rfl⟩:=b8 (aq b);exact aM.refl _
   | cons v c=>cases b
 | _=>intro x c σ aB b;cases c<;>cases b
theorem vM{t:Ty}:∀{parts:List (Nat×Operand)} {x b:t.den} {σ aB:St},en σ t x parts=some (b,aB)->aM σ aB:=by
 intro parts;induction parts with
 | nil=>intro x b σ aB h;obtain⟨_,rfl⟩:=b8 (aq h);exact aM.refl _
 | cons p r c =>
   obtain⟨k,o⟩:=p;intro x b σ aB h;simp only[en] at h;split at h
   .split at h
    .rename_i e;split at h
     .exact(jX e).trans (c h)
     .cases h
    .cases h
   .cases h
theorem mU{e:Ty}:∀{parts:List (Nat×Operand)} {l c:List e.den} {σ aB:St},du σ e l parts=some (c,aB)->aM σ aB:=by
 intro parts;induction parts with
 | nil=>intro x i σ aB h;obtain⟨_,rfl⟩:=b8 (aq h);exact aM.refl _
 | cons p r f =>
   obtain⟨k,o⟩:=p;intro l c σ aB h;simp only[du] at h;split at h
   .rename_i g;cases b:Nat.blt k l.length with
    | false=>rw[b] at h;cases h
    | true=>rw[b] at h;exact(jX g).trans (f h)
   .cases h
theorem tp{b g:Nat}{p:List rW}{h:ax->Bool}{u:ax}{n e:St}(f:(storeAt b g p h u n).run=some e):aM n e:=by
 unfold storeAt at f;split at f
 case h_2=>exact absurd f (by intro k;cases k)
 rename_i x s;obtain⟨o,i⟩:=ak f;simp only[cA,fO] at o;obtain⟨t,y,j⟩:=bind_some i;obtain⟨q,l⟩:=ak j;obtain⟨c,z,m⟩:=bind_some l;obtain rfl:=aq m;exact fx λv r=>by rw[s] at r;obtain rfl:=aq r;exact o.1.2
theorem tq{b g:Nat}{p:List rW}{n:Nat}{u:ax}{o e:St}(f:(jE b g p n u o).run=some e):aM o e:=by
 unfold jE at f;split at f
 case h_2=>exact absurd f (by intro k;cases k)
 rename_i z t;obtain⟨q,h⟩:=ak f;simp only[cA,fO] at q;obtain⟨v,A,i⟩:=bind_some h;obtain⟨r,j⟩:=ak i;obtain⟨c,C,l⟩:=bind_some j;obtain⟨x,m⟩:=ak l;obtain rfl:=aq m;exact fx λy s=>by rw[t] at s;obtain rfl:=aq s;exact q.1.1.1.2
theorem xB{m:Ctx}{i:List Nat}{n:TypeId}{x y:ax}{g c:St}(f:(gZ m i n x y g).run=some c):aM g c:=by
 unfold gZ at f;split at f
 case h_2=>exact absurd f (by intro k;cases k)
 split at f
 case h_2=>exact absurd f (by intro k;cases k)
 obtain⟨j,h⟩:=ak f;obtain⟨o,s,e⟩:=bind_some h;split at e
 .rename_i u _;obtain⟨q,b⟩:=ak e;cases l:bJ i 8000000&&JF u y with
  | true=>rw[l] at b;exact tq b
  | false =>
  rw[l] at b;replace b:(match om g u y with|some (y,g)=>storeAt _ _ _ (Hm u) (.data u y) g|none=>.fail).run=some c:=b;split at b
  .rename_i r;exact(jX r).trans (tp b)
  .exact absurd b (by intro k;cases k)
 .obtain⟨q,b⟩:=ak e;exact tp b
theorem pL{j:Ctx}{m:Nat}{d:Option Nat}{n:TypeId}{s x:ax}{h f:St}(b:(eS j m d n s x h).run=some f):aM h f:=by
 unfold eS at b;split at b
 case h_2=>exact absurd b (by intro k;cases k)
 split at b
 case h_2=>exact absurd b (by intro k;cases k)
 split at b
 .obtain⟨o,c⟩:=bM b;obtain⟨q,r,t⟩:=da c;obtain rfl:=aq t;exact r.trans (aM.put _ _ _)
 .split at b
  case h_2=>exact absurd b (by intro k;cases k)
  rename_i y l u z;obtain⟨e,g⟩:=pn b;have e:=(wD.1 e).1;obtain⟨o,c⟩:=bM g;obtain rfl:=aq c;exact(fx λv i=>by rw[u] at i;obtain rfl:=aq i;exact e).trans (aM.put _ _ _)
 .exact absurd b (by intro k;cases k)
theorem nV{e:Ty}{m:List e.den}{b n:Nat}{q:List rW}{o:Nat->Ty->Bool}{u:Int}{j i:St}(l:(gi e m b n q o u j).run=some i):aM j i:=by
 unfold gi at l;split at l
 case h_2=>exact absurd l (by intro k;cases k)
 rename_i z v;obtain⟨s,f⟩:=ak l;simp only[cA,fO] at s;have fin:∀{j9:aS},aM j (j.bI b j9):=λ{j9}=>fx λx t=>by rw[v] at t;obtain rfl:=aq t;exact s.1.2
 split at f
 .split at f
  .split at f
   .obtain rfl:=aq f;exact fin
   .exact absurd f (by intro k;cases k)
  .exact absurd f (by intro k;cases k)
 .obtain⟨y,_,g⟩:=bind_some f;split at g
  .obtain⟨_,h⟩:=ak g;split at h
   .obtain⟨c,_,r⟩:=bind_some h;obtain rfl:=aq r;exact fin
   .exact absurd h (by intro k;cases k)
  .exact absurd g (by intro k;cases k)
theorem vf{e:Ty}{h:Int->List e.den}{t:ax}{g:St}{r:Int×St}(b:(uj e h t g).run=some r):aM g r.2:=by
 unfold uj at b;split at b
 .obtain⟨aV,c,f⟩:=bind_some b;obtain rfl:=aq f;exact nV c
 .split at b
  .obtain⟨aV,c,f⟩:=bind_some b;obtain rfl:=aq f;exact nV c
  .exact absurd b (by intro k;cases k)
 .obtain⟨aV,c,f⟩:=bind_some b;obtain rfl:=aq f;exact nV c
 .exact absurd b (by intro k;cases k)
theorem Dc{m:Nat->Option aS}:∀{o:OT} {v:ax} {u:o.den} {N M:List (Nat×Nat)},bE m o v=some (u,N,M)->∀b∈aF N M,∀j,m b=some j->j.lk=false:=by
 intro o;induction o with
 | bW t =>
   intro v u N M h;unfold bE at h;split at h
   .cases h;intro b l;cases l
   .cases h
 | buf e A =>
   intro v u N M h;unfold bE at h;split at h
   case h_2=>cases h
   rename_i b k;split at h
   case h_2=>cases h
   rename_i j l;cases f:(Nat.beq j.au k&&j.buf&&!j.lk&&!j.ro&&Nat.beq j.tid A&&Nat.blt 0 e.size) with
   | false=>rw[f] at h;cases h
   | true =>
     rw[f] at h;simp only[cA,fO] at f;simp only[cd] at h;split at h
     case h_2=>cases h
     split at h
     case h_2=>cases h
     cases h;intro c i cx g;have:c=b:=by simpa [aF] using i
     subst this;rw[l] at g;obtain rfl:=aq g;exact f.1.1.1.2
 | map =>
   intro v u N M h;unfold bE at h;split at h
   case h_2=>cases h
   rename_i b k;split at h
   case h_2=>cases h
   rename_i j l;cases f:(Nat.beq j.au k&&j.buf&&!j.lk&&!j.ro) with
   | false=>rw[f] at h;cases h
   | true =>
     rw[f] at h;simp only[cA,fO] at f;simp only[cd] at h;split at h
     case h_2=>cases h
     cases h;intro c i cx g;have:c=b:=by simpa [aF] using i
     subst this;rw[l] at g;obtain rfl:=aq g;exact f.1.2
 | ref tid o s =>
   intro v u N M h;unfold bE at h;split at h
   case h_2=>cases h
   rename_i b k;split at h
   case h_2=>cases h
   rename_i j l;cases f:(Nat.beq j.au k&&!j.buf&&!j.lk&&!j.ro&&Nat.beq j.tid tid) with
   | false=>rw[f] at h;cases h
   | true =>
     rw[f] at h;simp only[cA,fO] at f;simp only[cd] at h;split at h
     case h_2=>cases h
     rename_i G C D z;cases h;intro c i cx g;unfold aF at i;simp only[fY,wF,eR] at i;rcases i with rfl|i
     .rw[l] at g;obtain rfl:=aq g;exact f.1.1.2
     .exact s z c i cx g
 | rf tid o s =>
   intro v u N M h;unfold bE at h;split at h
   case h_2=>cases h
   rename_i b k;split at h
   case h_2=>cases h
   rename_i j l;cases f:(Nat.beq j.au k&&!j.buf&&!j.lk&&!j.ro&&Nat.beq j.tid tid) with
   | false=>rw[f] at h;cases h
   | true =>
     rw[f] at h;simp only[cA,fO] at f;simp only[cd] at h;split at h
     case h_2=>cases h
     rename_i G C D z;cases h;intro c i cx g;unfold aF at i;simp only[fY,lW,eR] at i;rcases i with i|rfl|i
     .exact s z c (by unfold aF;exact iw _ i) cx g
     .rw[l] at g;obtain rfl:=aq g;exact f.1.1.2
     .exact s z c (by unfold aF;exact pR _ i) cx g
 | pair p q n r =>
   intro v u N M h;unfold bE at h;split at h
   case h_2=>cases h
   split at h
   case h_2=>cases h
   rename_i x C D y H I E F;cases h;intro c i cx g;unfold aF at i;simp only[oY,lW] at i;rcases i with (i|i)|(i|i)
   .exact n E c (iw _ i) cx g
   .exact r F c (iw _ i) cx g
   .exact n E c (pR _ i) cx g
   .exact r F c (pR _ i) cx g
 | unit =>
   intro v u N M h;unfold bE at h;split at h
   case h_2=>cases h
   cases h;intro b l;cases l
 | cB =>
   intro v u N M h;unfold bE at h;split at h
   case h_2=>cases h
   cases h;intro b l;cases l
theorem ES{k:St}:∀{ps:List Bool} {A:Ty} {U:OT} {g:List ax} {x:A.den} {u:U.den} {N M:List (Nat×Nat)},cV k ps A U g=some (x,u,N,M)->∀b∈aF N M,∀l,k.mem b=some l->l.lk=false:=by
 intro ps;induction ps with
 | nil =>
   intro A U g x u N M h;cases A<;>first|(cases h;done)|skip
   cases U<;>first|(cases h;done)|skip
   cases g with
   | cons v r=>cases h
   | nil=>cases h;intro b n;cases n
 | cons p ps j =>
   intro A U g x u N M h;cases p with
   | false =>
     cases A<;>first|(cases h;done)|skip
     cases g with
     | nil=>cases h
     | cons v r =>
       simp only[cV] at h;split at h
       .rename_i i;cases h;exact j i
       .cases h
   | true =>
     cases U<;>first|(cases h;done)|skip
     rename_i o U;cases o<;>first|(cases h;done)|skip
     case cB =>
      cases g with
      | nil=>cases h
      | cons v r =>
        cases v<;>first|(cases h;done)|skip
        simp only[cV] at h;split at h
        .rename_i i;cases h;exact j i
        .cases h
     cases g with
     | nil=>cases h
     | cons v r =>
       simp only[cV] at h;split at h
       .rename_i q s t y z C D m i;cases h;intro c e cx f;unfold aF at e;simp only[oY,lW] at e;rcases e with (e|e)|(e|e)
        .exact Dc m c (iw _ e) cx f
        .exact j i c (iw _ e) cx f
        .exact Dc m c (pR _ e) cx f
        .exact j i c (pR _ e) cx f
       .cases h
theorem Bm{f:List Bool}{A:Ty}{U:OT}{g:List ax}{x:A.den}{u y:U.den}{N M:List (Nat×Nat)}{c:St}(h:cV c f A U g=some (x,u,N,M)):aM c (gG U y N M c):=λb i e j=>by
 rw[eK];cases hv:dF U y N (M.map λp=>(p.1,p.2+1)) b with
 | none=>exact e
 | some v =>
   have:=ES h b (by have:=iI hv;rwa [mS] at this) i e;rw[j] at this;cases this
theorem Bn{s:IW}{d:Option Nat}{f:List ax}{j g:St}(b:(qV s d f j).run=some g):aM j g:=by
 unfold qV at b;split at b
 .split at b
  case h_2=>cases b
  split at b
  case h_2=>cases b
  obtain⟨_,c⟩:=ak b;obtain rfl:=aq c;exact aM.aA _ _ _
 .split at b
  case h_2=>cases b
  split at b
  case h_2=>cases b
  obtain⟨_,c⟩:=ak b;split at c
  case h_2=>cases c
  rename_i m i;obtain⟨h,e⟩:=ak c;simp only[cA,fO] at h;split at e
  case h_2=>cases e
  obtain rfl:=aq e;exact(fx λl k=>by rw[i] at k;obtain rfl:=aq k;exact h.1.1.2).trans (aM.aA _ _ _)
 .split at b
  case h_2=>cases b
  obtain⟨y,n,c⟩:=bo b;obtain rfl:=aq c;exact aM.aA _ _ _
 .cases b
theorem ET{b c:Nat}:∀{k:List jl} {j:Nat} {σ:St} {r:ax×St},(mkObj b c k j σ).run=some r->aM σ r.2:=by
 intro k;induction k with
 | nil=>intro j σ r g;obtain rfl:=aq g;exact aM.refl _
 | cons f q l =>
   intro j σ r g;cases f with
   | buf e s =>
     obtain⟨_,m⟩:=ak g;obtain⟨c,n,o⟩:=da m;obtain⟨y,h,i⟩:=bind_some o;obtain rfl:=aq i;have:=l h;exact n.trans this
   | map =>
     obtain⟨c,n,o⟩:=da g;obtain⟨y,h,i⟩:=bind_some o;obtain rfl:=aq i;have:=l h;exact n.trans this
   | _ =>
     obtain⟨y,h,i⟩:=bind_some g;obtain rfl:=aq i;have:=l h;exact this
theorem Bo{b:Nat}:∀{h:List jl} {j:Nat} {v:ax} {σ:St} {r:ax×St},(eC b h j v σ).run=some r->aM σ r.2:=by
 intro h;induction h with
 | nil =>
   intro j v σ r i;obtain rfl:=u9 i;exact aM.refl _
 | cons f q k =>
   intro j v σ r i;rcases td i with ⟨x,u,y,rfl,g,rfl⟩|⟨e,s,u,rfl,t,c⟩|⟨u,rfl,c⟩
   rotate_right
   .obtain⟨l,m,n⟩:=da c;obtain⟨y,g,o⟩:=bind_some n;obtain rfl:=aq o;have:=k g;exact m.trans this
   .have:=k g;exact this
   .obtain⟨l,m,n⟩:=da c;obtain⟨y,g,o⟩:=bind_some n;obtain rfl:=aq o;have:=k g;exact m.trans this
theorem Dd{q:Ctx}{inl:Nat->List ax->St->Tree (ax×St)}(l:∀f i j v g,(inl f i j).run=some (v,g)->aM j g){d:Option Nat}{f:Nat}{i:List ax}{j g:St}
  (b:(nS q inl d f i j).run=some g):aM j g:=by
 unfold nS at b;split at b
 .split at b
  .split at b
   .obtain⟨y,o,h⟩:=bo b;obtain rfl:=aq h;exact aM.aA _ _ _
   .exact absurd b (by intro k;cases k)
  .split at b
   .rename_i m;obtain⟨y,o,h⟩:=bo b;obtain rfl:=aq h;exact(kp m).trans (aM.aA _ _ _)
   .exact absurd b (by intro k;cases k)
 .have e:((inl f i j).bind λr=>.ret (r.2.aA d r.1):Tree St).run=some g->aM j g:=by
   intro b;obtain⟨r,n,h⟩:=bind_some b;obtain rfl:=aq h;exact(l _ _ _ _ _ n).trans (aM.aA _ _ _)
  split at b
  .exact Bn b
  split at b
  .rename_i c s;split at b
   .rename_i x u N M m;obtain⟨_,b⟩:=ak b;obtain⟨y,o,h⟩:=bo b;obtain rfl:=aq h;exact(Bm m).trans (aM.aA _ _ _)
   .exact e b
  .exact e b
theorem xC{h:Nat}{e:Ty}{d:Option Nat}{c:List ax}{g f:St}(b:(hW h e d c g).run=some f):aM g f:=by
 unfold hW at b;split at b
 case h_2=>cases b
 split at b
 case h_2=>cases b
 rename_i i;obtain⟨_,b⟩:=ak b;obtain⟨_,b⟩:=bM b;obtain⟨j,k,l⟩:=da b;obtain rfl:=aq l;exact((jX i).trans k).trans (aM.aA _ (some _) _)
theorem Bp{e A:Ty}{f:Bool}{g:List e.den->A.den->Option (List e.den)}{d:Option Nat}{h:List ax}{q i:St}(c:(ld e A f g d h q).run=some i):aM q i:=by
 unfold ld at c;split at c
 case h_2=>cases c
 split at c
 case h_2=>cases c
 rename_i m;split at c
 case h_2=>cases c
 rename_i b v C l n;obtain⟨D,_,c⟩:=bo c;obtain⟨x,r,s,o,y,t,_⟩:=lF n;have key:∀j,aM _ (St.bI _ b j):=λj=>fx λz u=>by rw[x] at u;obtain rfl:=aq u;exact o
 cases f with
 | true =>
   cases d with
   | none=>cases c
   | some k=>obtain rfl:=aq c;exact((kp m).trans<|key _).trans (aM.aA _ (some _) _)
 | false =>
   cases d with
   | none=>obtain⟨_,c⟩:=ak c;obtain rfl:=aq c;exact((kp m).trans<|key _).trans (aM.aA _ none _)
   | some k=>obtain⟨_,c⟩:=ak c;obtain rfl:=aq c;exact((kp m).trans<|key _).trans (aM.aA _ (some _) _)
theorem xD{h g:Nat}{d:Option Nat}{c:List ax}{f e:St}(b:(hY h g d c f).run=some e):aM f e:=by
 unfold hY at b;split at b
 .cases b
 .cases b
 .obtain⟨i,j,k⟩:=da (ak b).2;obtain rfl:=aq k;exact j.trans (aM.aA _ (some _) _)
 .cases b
theorem Bq{h T:Nat}{d:Option Nat}{c:List ax}{f e:St}(b:(sP h T d c f).run=some e):aM f e:=by
 unfold sP at b;split at b
 case h_2=>cases b
 split at b
 case h_2=>cases b
 split at b
 case h_2=>cases b
 obtain⟨_,b⟩:=ak b;split at b
 case h_2=>cases b
 obtain⟨_,b⟩:=ak b;split at b
 case h_2=>cases b
 obtain⟨i,j,k⟩:=da b;obtain⟨g,l,m⟩:=da k;obtain rfl:=aq m;exact(j.trans l).trans (aM.aA _ (some _) _)
theorem Br{i:Ctx}{j:Nat}{k:List Nat}{inl:Nat->List ax->St->Tree (ax×St)}(g:∀f b h v c,(inl f b h).run=some (v,c)->aM h c){d:Option Nat}{f:Nat}{b:List ax}{h c:St}
  (e:(mn i j k inl d f b h).run=some c):aM h c:=by
 unfold mn at e;split at e
 .exact xC e
 .exact Bp e
 .exact xD e
 .exact Bq e
 .exact Dd g e
end Go.Ge
namespace Go.Ge
open RowKit
def aj(σ:St)(T:Tree St):Prop:=∀y,T.run=some y->aM σ y
theorem aj.fail{σ:St}:aj σ .fail:=λy h=>by cases h
theorem aj.ret{σ b:St}(h:aM σ b):aj σ (.ret b):=λy c=>by obtain rfl:=aq c;exact h
theorem aj.bif{b:St}{c:Bool}{t:Tree St}(h:aj b t):aj b (bif c then t else .fail):=λy e=>h y (ak e).2
theorem aj.need{b:St}{c:Bool}{t:Tree St}(h:aj b t):aj b (.need c t):=λy e=>h y (bM e).2
theorem aj.look{σ:St}{T:Type}{o:Option T}{k:T->Tree St}(h:∀x,aj σ (k x)):aj σ (.look o k):=λy b=>by obtain⟨x,_,c⟩:=bo b;exact h x y c
theorem aj.node{σ:St}{c:Bool}{t e:Tree St}(h:aj σ t)(k:aj σ e):aj σ (.node c t e):=λy b=>by
 have:=eh b;cases c with
 | true=>exact h y this
 | false=>exact k y this
theorem aj.bind{σ:St}{α:Type}{t:Tree α}{f:α->Tree St}(h:∀x,t.run=some x->aj σ (f x)):aj σ (t.bind f):=λy b=>by obtain⟨x,c,e⟩:=bind_some b;exact h x c y e
theorem aj.aw{c:St}{b:Nat}{e:ax}{tid:TypeId}{f:Bool}{d:Nat}{v:Nat->ax}:aj c (c.aw b e tid f λau c=>.ret (c.put d<|v au)):=λy g=>by
 obtain⟨au,h,i⟩:=da g;obtain rfl:=aq i;exact h.trans (aM.put _ _ _)
theorem Bs{e:Ctx}{f:TypeId}{x:ax}{c:St}:aj c (sO e f x c):=λy b=>by
 unfold sO at b;split at b
 .obtain⟨_,g⟩:=ak b;obtain⟨h,i,j⟩:=da g;exact i.trans (tq j)
 .exact absurd b (by intro k;cases k)
theorem zg{c d:Nat}{t:Ty}{k:Nat}{b:St}:aj b (mK c d t k b):=by
 unfold mK;split
 .exact aj.bif aj.aw
 .exact aj.fail
section
variable {cx:Ctx} {nb:Nat} {bf:List Nat} {inl:Nat->List ax->St->Tree (ax×St)} {d:Option Nat} {σ:St}
theorem pM{b:TypeId}{v:ax}:aj σ (fQ cx nb bf d b v σ):=by
 unfold fQ;split
 ·(repeat' (first|exact aj.fail|exact aj.ret (aM.aA _ _ _)|exact aj.ret (aM.put _ _ _)|exact aj.aw|refine aj.bif ?_|refine aj.need ?_|refine aj.look λ_=>?_|refine aj.node ?_ ?_|refine aj.bind λ_ _=>?_|split))
 .split
  .rename_i k e _;cases bJ bf k with
   | true=>exact aj.aw
   | false=>exact aj.ret (aM.put _ _ _)
  .exact aj.ret (aM.aA _ _ _)
 .exact aj.ret (aM.aA _ _ _)
theorem zh{c a b:ax}:aj σ (jw d c a b σ):=by unfold jw;(repeat' (first|exact aj.fail|exact aj.ret (aM.aA _ _ _)|exact aj.ret (aM.put _ _ _)|exact aj.aw|refine aj.bif ?_|refine aj.need ?_|refine aj.look λ_=>?_|refine aj.node ?_ ?_|refine aj.bind λ_ _=>?_|split))
theorem zi{b:TypeId}{a:ax}:aj σ (gO cx d b a σ):=by unfold gO;(repeat' (first|exact aj.fail|exact aj.ret (aM.aA _ _ _)|exact aj.ret (aM.put _ _ _)|exact aj.aw|refine aj.bif ?_|refine aj.need ?_|refine aj.look λ_=>?_|refine aj.node ?_ ?_|refine aj.bind λ_ _=>?_|split))
theorem xE{b:TypeId}{x:ax}{c e:Option Operand}:aj σ (hJ cx d b x c e σ):=by unfold hJ;(repeat' (first|exact aj.fail|exact aj.ret (aM.aA _ _ _)|exact aj.ret (aM.put _ _ _)|exact aj.aw|refine aj.bif ?_|refine aj.need ?_|refine aj.look λ_=>?_|refine aj.node ?_ ?_|refine aj.bind λ_ _=>?_|split))
theorem EU{b c:Nat}{i:Int}:∀{m k:Nat},aj σ (wP d b c σ i m k):=by
 intro m;induction m with
 | zero=>intro k;exact aj.fail
 | succ m e=>intro k;exact aj.node (aj.ret<|aM.aA _ _ _) e
theorem mV{b:TypeId}{x:ax}{i:Int}:aj σ (cR cx d b x i σ):=by
 unfold cR;split
 case h_6=>split
           .exact aj.bif EU
           .exact aj.fail
 all_goals (repeat' (first|exact aj.fail|exact aj.ret (aM.aA _ _ _)|exact aj.ret (aM.put _ _ _)|exact aj.aw|refine aj.bif ?_|refine aj.need ?_|refine aj.look λ_=>?_|refine aj.node ?_ ?_|refine aj.bind λ_ _=>?_|split))
theorem xF{b:TypeId}{x:ax}{i:Int}:aj σ (hM cx d b x i σ):=by
 unfold hM;split
 .refine aj.bif ?_;split
  .exact aj.bif (aj.ret<|aM.aA _ _ _)
  .exact aj.fail
 .exact mV
theorem xG{b:TypeId}{x:ax}{i:Int}:aj σ (hU cx d b x i σ):=by unfold hU;(repeat' (first|exact aj.fail|exact aj.ret (aM.aA _ _ _)|exact aj.ret (aM.put _ _ _)|exact aj.aw|refine aj.bif ?_|refine aj.need ?_|refine aj.look λ_=>?_|refine aj.node ?_ ?_|refine aj.bind λ_ _=>?_|split))
theorem sj{s:TypeId}{x:ax}{k:Nat}:aj σ (di cx d s x k σ):=by unfold di;(repeat' (first|exact aj.fail|exact aj.ret (aM.aA _ _ _)|exact aj.ret (aM.put _ _ _)|exact aj.aw|refine aj.bif ?_|refine aj.need ?_|refine aj.look λ_=>?_|refine aj.node ?_ ?_|refine aj.bind λ_ _=>?_|split))
theorem uH{s t:TypeId}{x:ax}:aj σ (eI cx nb d s t x σ):=by unfold eI;(repeat' (first|exact aj.fail|exact aj.ret (aM.aA _ _ _)|exact aj.ret (aM.put _ _ _)|exact aj.aw|refine aj.bif ?_|refine aj.need ?_|refine aj.look λ_=>?_|refine aj.node ?_ ?_|refine aj.bind λ_ _=>?_|split))
theorem rM{b:TypeId}{t x:ax}:aj σ (oo cx d b t x σ):=by
 unfold oo;split
 .split
  .exact aj.fail
  .exact aj.bind λr c=>aj.ret ((vf c).trans<|aM.aA _ _ _)
 .exact aj.fail
theorem xH{b:TypeId}{t:ax}:aj σ (oq cx b t σ):=by
 unfold oq;split
 .exact aj.bind λr c=>aj.ret (vf c)
 .exact aj.fail
theorem vN{c:String}{e:List ax}:aj σ (kT cx d c e σ):=by
 intro aB b;unfold kT at b;split at b
 .split at b
  .rename_i g;obtain⟨y,h,f⟩:=bo b;obtain rfl:=aq f;exact(kp g).trans (aM.aA _ _ _)
  .exact absurd b (by intro k;cases k)
 .exact absurd b (by intro k;cases k)
theorem xI{c u:TypeId}{x:ax}:aj σ (kS cx d c u x σ):=by
 intro aB b;unfold kS at b;split at b
 .split at b
  .split at b
   .rename_i e;obtain rfl:=aq b;exact(jX e).trans (aM.aA _ _ _)
   .exact absurd b (by intro k;cases k)
  .exact absurd b (by intro k;cases k)
 .exact absurd b (by intro k;cases k)
theorem zj(b:∀f e σ v aB,(inl f e σ).run=some (v,aB)->aM σ aB){h:TypeId}{c:Call}:aj σ (mM cx nb bf inl d h c σ):=by
 unfold mM;split
 .split
  ·(repeat' (first|exact aj.fail|exact aj.ret (aM.aA _ _ _)|exact aj.ret (aM.put _ _ _)|exact aj.aw|refine aj.bif ?_|refine aj.need ?_|refine aj.look λ_=>?_|refine aj.node ?_ ?_|refine aj.bind λ_ _=>?_|split))
  .split
   .exact λy g=>pL g
   .exact λy g=>pL g
   .exact aj.fail
  .split
   .exact rM
   .exact rM
   .exact aj.fail
  .split
   .exact xH
   .exact aj.fail
  ·(repeat' (first|exact aj.fail|exact aj.ret (aM.aA _ _ _)|exact aj.ret (aM.put _ _ _)|exact aj.aw|refine aj.bif ?_|refine aj.need ?_|refine aj.look λ_=>?_|refine aj.node ?_ ?_|refine aj.bind λ_ _=>?_|split))
  ·(repeat' (first|exact aj.fail|exact aj.ret (aM.aA _ _ _)|exact aj.ret (aM.put _ _ _)|exact aj.aw|refine aj.bif ?_|refine aj.need ?_|refine aj.look λ_=>?_|refine aj.node ?_ ?_|refine aj.bind λ_ _=>?_|split))
  .exact aj.fail
 .split
  .exact aj.bif λy g=>Br b g
  .exact aj.fail
 .exact vN
theorem qq(e:∀f g σ v aB,(inl f g σ).run=some (v,aB)->aM σ aB){o:Oper}:aj σ (kd cx nb bf inl o σ):=by
 unfold kd;split
 case h_1=>exact pM
 case h_2=>exact pM
 case h_3=>exact zh
 case h_4 =>
  split
  .unfold mC;split
   .refine aj.bif λy b=>?_;obtain⟨i,j,k⟩:=da b;exact j.trans (aj.aw y k)
   .exact aj.aw
  .split
   .refine aj.bind λr h=>?_;exact λy b=>(ET h).trans (aj.aw y b)
   .exact aj.bif aj.aw
  .exact aj.fail
 case h_5 =>
  unfold sQ;split
  .exact aj.fail
  .exact aj.fail
  .split
   .refine aj.bind λr h=>?_;exact λy b=>(Bo h).trans (aj.aw y b)
   .exact aj.aw
  .exact aj.fail
 case h_6 =>
  split
  .split
   .exact zg
   split
   .rename_i c;exact aj.ret ((vM c).trans<|aM.aA _ _ _)
   .exact aj.fail
  .split
   .rename_i c;exact aj.ret ((mU c).trans<|aM.aA _ _ _)
   .exact aj.fail
  ·(repeat' (first|exact aj.fail|exact aj.ret (aM.aA _ _ _)|exact aj.ret (aM.put _ _ _)|exact aj.aw|refine aj.bif ?_|refine aj.need ?_|refine aj.look λ_=>?_|refine aj.node ?_ ?_|refine aj.bind λ_ _=>?_|split))
  .exact aj.fail
 case h_7 =>
  split
  .split
   .exact aj.aw
   .refine aj.bif ?_;split
    .rename_i c;split
     .exact λy b=>(mU c).trans (aj.aw _ b)
     .exact aj.ret ((mU c).trans<|aM.aA _ _ _)
    .exact aj.fail
  .unfold qW;(repeat' (first|exact aj.fail|exact aj.ret (aM.aA _ _ _)|exact aj.ret (aM.put _ _ _)|exact aj.aw|refine aj.bif ?_|refine aj.need ?_|refine aj.look λ_=>?_|refine aj.node ?_ ?_|refine aj.bind λ_ _=>?_|split))
  .exact aj.fail
 case h_8=>exact zi
 case h_9 t x z _ =>
  split
  .cases bJ bf 8000001&&o7 z with
   | true=>exact Bs
   | false=>exact λy b=>xB b
  .exact aj.fail
 case h_10=>(repeat' (first|exact aj.fail|exact aj.ret (aM.aA _ _ _)|exact aj.ret (aM.put _ _ _)|exact aj.aw|refine aj.bif ?_|refine aj.need ?_|refine aj.look λ_=>?_|refine aj.node ?_ ?_|refine aj.bind λ_ _=>?_|split))
 case h_11=>(repeat' (first|exact aj.fail|exact aj.ret (aM.aA _ _ _)|exact aj.ret (aM.put _ _ _)|exact aj.aw|refine aj.bif ?_|refine aj.need ?_|refine aj.look λ_=>?_|refine aj.node ?_ ?_|refine aj.bind λ_ _=>?_|split))
 case h_12=>(repeat' (first|exact aj.fail|exact aj.ret (aM.aA _ _ _)|exact aj.ret (aM.put _ _ _)|exact aj.aw|refine aj.bif ?_|refine aj.need ?_|refine aj.look λ_=>?_|refine aj.node ?_ ?_|refine aj.bind λ_ _=>?_|split))
 case h_13=>exact uH
 case h_14=>(repeat' (first|exact aj.fail|exact aj.ret (aM.aA _ _ _)|exact aj.ret (aM.put _ _ _)|exact aj.aw|refine aj.bif ?_|refine aj.need ?_|refine aj.look λ_=>?_|refine aj.node ?_ ?_|refine aj.bind λ_ _=>?_|split))
 case h_15=>exact xE
 case h_16=>exact sj
 case h_17=>(repeat' (first|exact aj.fail|exact aj.ret (aM.aA _ _ _)|exact aj.ret (aM.put _ _ _)|exact aj.aw|refine aj.bif ?_|refine aj.need ?_|refine aj.look λ_=>?_|refine aj.node ?_ ?_|refine aj.bind λ_ _=>?_|split))
 case h_18=>split
            .cases bJ bf 5000000 with
             | true=>exact xF
             | false=>exact mV
            .exact aj.fail
 case h_19=>split
            .exact xG
            .exact aj.fail
 case h_20=>(repeat' (first|exact aj.fail|exact aj.ret (aM.aA _ _ _)|exact aj.ret (aM.put _ _ _)|exact aj.aw|refine aj.bif ?_|refine aj.need ?_|refine aj.look λ_=>?_|refine aj.node ?_ ?_|refine aj.bind λ_ _=>?_|split))
 case h_21=>(repeat' (first|exact aj.fail|exact aj.ret (aM.aA _ _ _)|exact aj.ret (aM.put _ _ _)|exact aj.aw|refine aj.bif ?_|refine aj.need ?_|refine aj.look λ_=>?_|refine aj.node ?_ ?_|refine aj.bind λ_ _=>?_|split))
 case h_22=>exact zj e
 case h_23=>exact xI
 case h_24=>exact aj.fail
end
end Go.Ge
namespace Go.Ge
open RowKit
theorem gC.shrink{g f:Nat->Option aS}(l:∀b c,g b=some c->f b=some { c with lk:=true }){b i:Nat}{m K:aS->Prop}(n:gC g b i m)(h:gC f b i K)
  (o:∀c,K { c with lk:=true }->K c):gC g b i K:=by
 obtain⟨c,j,q,_⟩:=n;obtain⟨r,k,t,s⟩:=h;rw[l b c j] at k;obtain rfl:=aq k;exact⟨c,j,q,λe=>o c (s e)⟩
theorem bw.shrink{Q E:Gh}{A z:Nat->Option aS}{w L:World}(h:∀b M,A b=some M->z b=some { M with lk:=true }):∀{v:ax} {m:Mode} {us g:List Value},
  bw Q A w v m us->bw E z L v m g->bw E A L v m g:=by
 intro v;induction v with
 | undef=>intro m us g _ r;cases m<;>exact r
 | data t x=>intro m us g _ r;cases m<;>exact r
 | jt=>intro m us g _ r;cases m<;>exact r
 | cB=>intro m us g _ r;cases m<;>exact r
 | vv=>intro m us g _ r;cases m<;>exact r
 | cell t x=>intro m us g _ r;cases m<;>exact r
 | nl=>intro m us g _ r;cases m<;>exact r
 | lA=>intro m us g _ r;cases m<;>exact r
 | ny b au =>
   intro m us g c r;cases m with
   | many=>exact r
   | cells=>exact⟨r.1,c.2.shrink h r.2 λ_ k=>k⟩
   | val=>exact⟨r.1,c.2.shrink h r.2 λ_ k=>k⟩
 | ptr b au p =>
   intro m us g c r;cases m with
   | many=>exact r
   | cells=>exact⟨r.1,c.2.shrink h r.2 λ_ k=>k⟩
   | val=>exact⟨r.1,c.2.shrink h r.2 λ_ k=>k⟩
 | whole b au =>
   intro m us g c r;cases m with
   | many=>exact r
   | cells=>exact⟨r.1,c.2.shrink h r.2 λ_ k=>k⟩
   | val=>exact⟨r.1,c.2.shrink h r.2 λ_ k=>k⟩
 | kM b au =>
   intro m us g c r;cases m with
   | many=>exact r
   | cells=>exact⟨r.1,c.2.shrink h r.2 λ_ k=>k⟩
   | val=>exact⟨r.1,c.2.shrink h r.2 λ_ k=>k⟩
 | ju l=>intro m us g _ r;cases m<;>exact r
 | part b au lo n =>
   intro m us g c r;cases m with
   | many=>exact r
   | cells=>exact⟨r.1,c.2.shrink h r.2 λ_ k=>k⟩
   | val=>exact⟨r.1,c.2.shrink h r.2 λ_ k=>k⟩
 | win b au q e k lo n =>
   intro m us g c r;cases m with
   | many=>exact r
   | cells=>exact⟨r.1,c.2.shrink h r.2 λ_ k=>k⟩
   | val=>exact⟨r.1,c.2.shrink h r.2 λ_ k=>k⟩
 | fn f O =>
   intro m us g c r;cases m with
   | many=>exact r
   | cells=>obtain⟨_,_,_,s⟩:=c;obtain⟨j,o,y,K⟩:=r;exact⟨j,o,y,λi b au F=>(s i b au F).shrink h (K i b au F) λ_ k=>k⟩
   | val=>obtain⟨_,_,_,s⟩:=c;obtain⟨j,o,y,K⟩:=r;exact⟨j,o,y,λi b au F=>(s i b au F).shrink h (K i b au F) λ_ k=>k⟩
 | mix a b C D =>
   intro m us g c r;cases m with
   | cells=>obtain⟨_,_,_,G,H⟩:=c;obtain⟨I,J,c,o,y⟩:=r;exact⟨I,J,c,C G o,D H y⟩
   | val=>obtain⟨_,_,_,G,H⟩:=c;obtain⟨I,J,c,o,y⟩:=r;exact⟨I,J,c,C G o,D H y⟩
   | many=>obtain⟨_,_,_,G,H⟩:=c;obtain⟨I,J,c,o,y⟩:=r;exact⟨I,J,c,C G o,D H y⟩
 | pG u R =>
   intro m us g c r;cases m with
   | val=>obtain⟨_,_,s⟩:=c;obtain⟨j,o,y⟩:=r;exact⟨j,o,R s y⟩
   | cells=>exact r
   | many=>exact r
theorem aO.unlock{B:Own}{x m:Gh}{e l:Nat->Option aS}{w y:World}(h:aO B x e w)(t:∀b f,e b=some f->l b=some { f with lk:=true })
  (q:aO B m l y) (u:Ext B x (λi=>match e i with|some b=>some { b with lk:=true }|none=>none) w m l y):aO B m e y/\Ext B x e w m e y:=by
 have v:∀b f,e b=some f->m.loc b=x.loc b:=by
  intro b f g;obtain⟨C,k1,k2,k3⟩:=u.boxes b { f with lk:=true } (by simp[g]);rw[t b f g] at k1;obtain rfl:=aq k1;exact(k3 rfl).1
 have r:∀b,e b≠none->l b≠none:=by
  intro b g;cases A:e b with
  | none=>exact absurd A g
  | some f=>rw[t b f A];simp
 refine⟨?_,⟨u.below,u.I,u.mo,u.cells,λb f g=>⟨f,g,cU _,λ_=>⟨v b f g,rfl,rfl⟩⟩⟩⟩;exact
  { bD:=q.bD
    base:=q.base
    boxes:=λb f g=>by
     have n:=h.boxes b f g;have s:=q.boxes b _ (t b f g);unfold ca at n s⊢;cases o:f.buf with
     | true=>rw[o] at s;exact s
     | false =>
       rw[o] at n s;obtain⟨_,_,_,_,_,_,_,_,_,D⟩:=n;obtain⟨j,cap,cur,tid,fr,k1,k2,k3,JZ,E⟩:=s;exact⟨j,cap,cur,tid,fr,k1,k2,k3,JZ,D.shrink t E⟩
    inj:=λb c j k F g G n s=>q.inj b c j k F (r b g) (r c G) n s
    fresh:=λb j k g n=>q.fresh b j k (r b g) n
    lX:=q.lX
    sep:=λb f j k z g n H=>by
     have:=q.sep b _ j k z (t b f g) n H;exact this }
theorem Ext.fb{B:Own}{γ:Gh}{σ:St}{w:World}:Ext B γ σ.mem w γ σ.fb.mem w where
 below:=lg.refl _ _
 I:=λ_ _ h=>h
 mo:=λ_ _ h=>.inl h
 cells:=λ_ _ _=>rfl
 boxes:=λb c e=>⟨{ c with lk:=true },by simp[St.fb,e],cU _,λ_=>⟨rfl,rfl,rfl⟩⟩
theorem aO.fb{B:Own}{γ:Gh}{σ:St}{w:World}(h:aO B γ σ.mem w):aO B γ σ.fb.mem w:=by
 have inv:∀{b j},σ.fb.mem b=some j->∃e,σ.mem b=some e/\j={ e with lk:=true }:=by
  intro b j f;simp only[St.fb] at f;split at f
  .rename_i e h0;exact⟨e,h0,(aq f).symm⟩
  .cases f
 have i:∀{b},σ.fb.mem b≠none->σ.mem b≠none:=by
  intro b f n;apply f;simp[St.fb,n]
 exact
  { bD:=h.bD
    base:=h.base
    boxes:=λb j f=>by
     obtain⟨e,h0,rfl⟩:=inv f;have:=(h.boxes b e h0).keep (Ext.fb (B:=B) (γ:=γ) (σ:=σ) (w:=w)) rfl (λ_ _ _=>rfl);exact this
    inj:=λb c g k o f q l r=>h.inj b c g k o (i f) (i q) l r
    fresh:=λb g k f l=>h.fresh b g k (i f) l
    lX:=h.lX
    sep:=λb j g k m f l s=>by
     obtain⟨e,h0,rfl⟩:=inv f;exact h.sep b e g k m h0 l s }
theorem b6.fb{B:Own}{N:Nat}{γ:Gh}{σ:St}{a:Act}{w:World}(h:b6 B N γ σ a w):b6 B N γ σ.fb a w where
 slots:=λt=>(h.slots t).ext (Ext.fb (B:=B))
 size:=h.size
 defers:=h.defers
 ok:=h.ok.fb
theorem Bt{e f:St}(h:aM e.fb f):∀b c,e.mem b=some c->f.mem b=some { c with lk:=true }:=λb c g=>h b _ (by simp[St.fb,g]) rfl
end Go.Ge
namespace Go.Ge
open RowKit
inductive kO (all:Array Oper) (G:List (Nat×Bool)):List (Nat×Oper)->List Oper->Prop
 | nil:kO all G [] []
 | cons {i:Nat} {o o':Oper} {r:List (Nat×Oper)} {l:List Oper}:all[i]?=some o->(o'=o\/∃g,o.guard=some g/\g∈G/\o'={ o with guard:=none })->kO all G r l->kO all G ((i,o')::r) (o::l)
theorem kO.mono{c:Array Oper}{G e:List (Nat×Bool)}(f:∀g∈G,g∈e){b:List (Nat×Oper)}{l:List Oper}(h:kO c G b l):kO c e b l:=by
 induction h with
 | nil=>exact .nil
 | cons i j _ k=>exact .cons i (j.imp id λ⟨g,m,n,o⟩=>⟨g,m,f g n,o⟩) k
theorem De{b:Array Oper}{G:List (Nat×Bool)}{j:Nat}{want:Bool}:∀{items:List (Nat×Oper)} {l:List Oper} {inner:List Nat},kO b G items l ->
  ∃e f,l=e++f/\kO b ((j,want)::G) (under j want inner items).1 e/\kO b G (under j want inner items).2 f:=by
 intro items l inner h;induction h generalizing inner with
 | nil=>exact⟨[],[],rfl,.nil,.nil⟩
 | @cons i o m r l q n D y =>
   unfold under;cases k:pb m.guard j want with
   | true =>
     simp only[cd];obtain⟨e,f,s,t,u⟩:=y (inner:=i::inner);refine⟨o::e,f,by rw[s];rfl,.cons q (.inr ?_) t,u⟩;have E:m=o:=by
      rcases n with n|⟨g,z,A,v⟩
      .exact n
      .rw[v] at k;cases k
     subst E;unfold pb at k;split at k
     .rename_i F C x;simp only[cA] at k;have H:=cG k.1;have I:C=want:=by simpa using k.2
      subst H;subst I;exact⟨(F,C),x,kQ ..,rfl⟩
     .cases k
   | false =>
     simp only[fk];have both:∀c:Bool,∃e f,o::l=e++f /\
       kO b ((j,want)::G) (bif c then((i,m)::(under j want (i::inner) r).1,(under j want (i::inner) r).2) else([],(i,m)::r)).1 e /\
       kO b G (bif c then((i,m)::(under j want (i::inner) r).1,(under j want (i::inner) r).2) else([],(i,m)::r)).2 f:=by
      intro c;cases c with
      | true =>
        obtain⟨e,f,s,t,u⟩:=y (inner:=i::inner);exact⟨o::e,f,by rw[s];rfl,.cons q (n.imp id λ⟨g,z,A,v⟩=>⟨g,z,kJ _ A,v⟩) t,u⟩
      | false=>exact⟨[],o::l,rfl,.nil,.cons q n D⟩
     exact both _
theorem EV{d:Nat}:∀{items:List (Nat×Oper)},iZ d items=false->∀i o,(i,o)∈items->o.dst≠some d:=by
 intro items;induction items with
 | nil=>intro _ i o h;cases h
 | cons p r c =>
   obtain⟨f,g⟩:=p;intro h i o b;simp only[iZ,wD] at h;rcases eR.1 b with b|b
   .obtain⟨rfl,rfl⟩:=b8 b;intro e;rw[e] at h;simp at h
   .exact c h.2 i o b
section
variable {P:Program} {B:Own} {N:Nat} {γ:Gh} {σ aB:St} {a:Act} {w w':World} {cx:Ctx} {nb:Nat} {bf:List Nat} {inl:Nat->List ax->St->Tree (ax×St)} {all:Array Oper}
def Df(c:Array Oper)(G:List (Nat×Bool))(a:Act)(b:List (Nat×Oper)):Prop :=
 ∀g∈G,∃e,(c[g.1]?).bind (·.dst)=some e/\a.tmps[e]?=some (.bool g.2)/\iZ e b=false
theorem Df.wanted{G:List (Nat×Bool)}{b:List (Nat×Oper)}(h:Df all G a b){o:Oper}{g:Nat×Bool}(c:o.guard=some g)(e:g∈G):Region.wanted o (yielded all a.tmps)=true:=by
 obtain⟨k,f,i,_⟩:=h g e;obtain⟨j,want⟩:=g;unfold Region.wanted;rw[c];simp only[yielded,f,AP,i];simp
def Fr(b:List (Nat×Oper))(a c:Act):Prop:=∀t,iZ t b=false->c.tmps[t]?=a.tmps[t]?
theorem dV{a:Act}{d:Option Nat}{v:Value}{t:Nat}(h:d≠some t):(a.put d v).tmps[t]?=a.tmps[t]?:=by
 cases d with
 | none=>rfl
 | some k =>
   have:k≠t:=λe=>h (by rw[e]);simp[Act.put,Array.getElem?_setIfInBounds_ne this]
theorem oG{d i:Nat}{o:Oper}{r:List (Nat×Oper)}(h:iZ d ((i,o)::r)=false):o.dst≠some d/\iZ d r=false:=by
 simp only[iZ,wD] at h;refine⟨λe=>?_,h.2⟩;rw[e] at h;simp at h
theorem Dg(t:Nat):∀(items:List (Nat×Oper)),(σ.undef items).slots t=bif iZ t items then .undef else σ.slots t:=by
 intro items;induction items with
 | nil=>rfl
 | cons p r b =>
   obtain⟨i,o⟩:=p;simp only[St.undef,iZ];cases f:o.dst with
   | none=>simp only[St.aA,zW];exact b
   | some k =>
     simp only[St.aA,St.put];cases c:Nat.beq k t with
     | true=>obtain rfl:=cG c;simp
     | false =>
       have:Nat.beq t k=false:=fm (λe=>by subst e;simp at c);rw[this];simp only[fk,zW];exact b
theorem mG:∀(items:List (Nat×Oper)),(σ.undef items).mem=σ.mem:=by
 intro items;induction items with
 | nil=>rfl
 | cons p r b =>
   obtain⟨i,o⟩:=p;simp only[St.undef];cases o.dst<;>exact b
theorem b6.undef(h:b6 B N γ σ a w){b:List (Nat×Oper)}{c:Act}(f:Fr b a c)(g:c.tmps.size=N)(i:c.defers=[]):b6 B N γ (σ.undef b) c w where
 slots:=λt=>by
  rw[Dg,mG];cases j:iZ t b with
  | true=>exact⟨_,rfl⟩
  | false =>
    have:=f t j;have e:c.tmps.getD t Go.undef=a.tmps.getD t Go.undef:=by simp only[Eo,this]
    rw[e];exact h.slots t
 size:=g
 defers:=i
 ok:=by rw[mG];exact h.ok
theorem tr{d:Option Nat}{k:Nat}(h:yielded all a.tmps k=none):yielded all (a.put d Go.undef).tmps k=none:=by
 unfold yielded at h⊢;cases c:(all[k]?).bind (·.dst) with
 | none=>rfl
 | some b =>
   rw[c] at h;simp only[AP] at h⊢;by_cases e:d=some b
   .subst e;simp only[Act.put];rw[I9];simp only[jr];by_cases hs:b<a.tmps.size
    .rw[bH hs];rfl
    .rw[bp hs]
   .rw[dV e];exact h
theorem tu{i:Nat}{o:Oper}(h:all[i]?=some o):yielded all (a.put o.dst Go.undef).tmps i=none:=by
 unfold yielded;rw[h];simp only[AP];cases b:o.dst with
 | none=>rfl
 | some d =>
   simp only[AP,Act.put];rw[I9];simp only[jr];by_cases hs:d<a.tmps.size
   .rw[bH hs];rfl
   .rw[bp hs]
theorem EW{G:List (Nat×Bool)}{j F:Nat}{e c:Bool}{Q:Exit->Act->World->Prop}(V:(all[j]?).bind (·.dst)=some F)(H:c≠e) :
  ∀{items:List (Nat×Oper)} {l:List Oper} {inner:List Nat} {a:Act},kO all G items l->a.tmps[F]?=some (.bool c)->iZ F (under j e inner items).1=false->(∀k∈inner,yielded all a.tmps k=none) ->
   ∃v y,l=v++y/\v.length=(under j e inner items).1.length/\∀f,(∀s,Fr (under j e inner items).1 a s->s.tmps.size=a.tmps.size->s.defers=a.defers->wpList P all Q f s w) ->
    wpList P all Q (v++f) a w:=by
 intro items l inner a h;induction h generalizing inner a with
 | nil=>intro _ _ _;exact⟨[],[],rfl,rfl,λf u=>u a (λt _=>rfl) rfl rfl⟩
 | @cons i o q r l W x h3 X =>
   intro T U z;have one:∀(I:Oper),I.dst=o.dst->Region.wanted o (yielded all a.tmps)=false->(under j e inner ((i,q)::r)).1=(i,I)::(under j e (i::inner) r).1 ->
     ∃v y,o::l=v++y/\v.length=(under j e inner ((i,q)::r)).1.length/\∀f,(∀s,Fr (under j e inner ((i,q)::r)).1 a s->s.tmps.size=a.tmps.size->s.defers=a.defers->wpList P all Q f s w) ->
     wpList P all Q (v++f) a w:=by
    intro I A Y C;rw[C] at U⊢;obtain⟨D,J⟩:=oG U;rw[A] at D;obtain⟨v,y,Z,e2,e3⟩:=X (inner:=i::inner) (a:=a.put o.dst Go.undef) (by rw[dV D];exact T) J (λk u=>by
     rcases eR.1 u with rfl|u
     .exact tu W
     .exact tr (z k u))
    refine⟨o::v,y,by rw[Z];rfl,by simp[e2],λf u=>?_⟩;show wpList P all Q (o::(v++f)) a w
    unfold wpList;rw[Y];simp only[Et,ug];refine e3 f λs f1 f2 f3=>u s (λt ht=>?_) (f2.trans<|CR _ _ _) (f3.trans<|put_defers _ _ _);obtain⟨E,K⟩:=oG ht;rw[A] at E;rw[f1 t K,dV E]
   cases n:pb q.guard j e with
   | true =>
     have L:q=o:=by
      rcases x with x|⟨g,k1,k2,M⟩
      .exact x
      .rw[M] at n;cases n
     subst L;have m:q.guard=some (j,e):=by
      unfold pb at n;split at n
      .rename_i i' b' m;simp only[cA] at n;have h9:=cG n.1;have h8:b'=e:=by simpa using n.2
       rw[m,h9,h8]
      .cases n
     refine one { q with guard:=none } rfl ?_ (by simp only[under,n,cd]);unfold Region.wanted;rw[m];simp only[yielded,V,AP,T];cases c<;>cases e<;>first|rfl|exact absurd rfl H
   | false =>
     cases m:q.guard with
     | none =>
       have C:(under j e inner ((i,q)::r)).1=[]:=by
        rw[m] at n;simp only[under,m,n,fk]
       rw[C];exact⟨[],o::l,rfl,rfl,λf u=>u a (λt _=>rfl) rfl rfl⟩
     | some g =>
       obtain⟨k,b⟩:=g;rw[m] at n;cases O:inner.any (Nat.beq k) with
       | true =>
         have L:q=o:=by
          rcases x with x|⟨g,k1,k2,M⟩
          .exact x
          .rw[M] at m;cases m
         subst L;refine one q rfl ?_ (by simp only[under,m,n,O,fk,cd]);obtain⟨k',R,S⟩:=List.any_eq_true.1 O;obtain rfl:=cG S;unfold Region.wanted;rw[m];simp only[z k R];rfl
       | false =>
         have C:(under j e inner ((i,q)::r)).1=[]:=by simp only[under,m,n,O,fk]
         rw[C];exact⟨[],o::l,rfl,rfl,λf u=>u a (λt _=>rfl) rfl rfl⟩
end
end Go.Ge
namespace Go.Ge
open RowKit
section
variable {P:Program} {B:Own} {N:Nat} {γ:Gh} {σ aB:St} {a:Act} {w w':World} {cx:Ctx} {nb:Nat} {bf:List Nat} {inl:Nat->List ax->St->Tree (ax×St)} {all:Array Oper}
theorem xJ(c:St)(b:List (Nat×Oper)):aM c (c.undef b):=aM.Ka (mG b)
theorem tw(g:∀f h σ v aB,(inl f h σ).run=some (v,aB)->aM σ aB):∀(n:Nat) (items:List (Nat×Oper)) (σ:St),aj σ (ke cx nb bf inl all n items σ):=by
 intro n;induction n with
 | zero=>intro items σ;exact aj.fail
 | succ n k =>
   intro items σ;cases items with
   | nil=>exact aj.ret (aM.refl _)
   | cons p r =>
     obtain⟨i,o⟩:=p;unfold ke;split
     .exact aj.bind λaV l y e=>(qq g aV l).trans (k _ _ y e)
     .rename_i j b D;dsimp only;split
      .exact aj.fail
      .rename_i z A;split
       .rename_i c E F u m q;cases G:iZ z (under j b [] ((i,o)::r)).1 with
        | true=>exact aj.fail
        | false =>
          simp only[fk];split
          .exact aj.fail
          .cases C:wc cx (under j b [] ((i,o)::r)).1 with
           | true =>
             simp only[cd];intro y e;obtain⟨br,l,s⟩:=bind_some e;refine aM.trans ?_ (k _ _ y s);refine(aj.node (σ:=σ) ?_ ?_) br l
             .refine aj.bind λτ t=>?_;split
              .exact aj.ret ((k _ _ τ t).trans<|aM.aA _ _ _)
              .exact aj.fail
             .split
              .exact aj.ret ((xJ _ _).trans<|aM.aA _ _ _)
              .exact aj.fail
           | false =>
             simp only[fk];split
             .intro y e;rw[Tree.sL] at e;obtain⟨x,l,s⟩:=pZ.1 e;exact((xJ _ _).trans<|aM.put _ _ _).trans (k _ _ y s)
             .exact aj.fail
       .exact aj.fail
theorem GC{e:Nat->Option aS}{t:Ty}{v:ax}{x:t.den}{b:Value}(h:toD t v=some x)(f:bw γ e w v .val [b]){c:Nat->Option aS}:bw γ c w (.data t x) .val [b]:=by
 unfold toD at h;split at h
 .obtain⟨q,g⟩:=Ty.fZ h;subst q;subst g;exact f
 .split at h
  .obtain rfl:=aq h;obtain rfl:b=_:=by simpa [bw] using f
   exact⟨[.slice none 0 0],.inl ⟨⟨none,rfl⟩,rfl⟩,rfl⟩
  .cases h
 .cases h
theorem kO.length{G:List (Nat×Bool)}{b:List (Nat×Oper)}{l:List Oper}(h:kO all G b l):b.length=l.length:=by
 induction h with
 | nil=>rfl
 | cons _ _ _ c=>simp[c]
theorem EX{i:Oper}{j:Nat}{b:Bool}{v:ax}{K:Act->World->Prop}{Q:Exit->Act->World->Prop}(h:b6 B N γ σ a w)(m:a.tmps[j]?=some (.bool b)){f:Bool}(n:b=f)
  (e:pc σ i j f=some v) (o:∀y,bw γ σ.mem w v .val [y]->K (a.put i.dst y) w):i.wp P a w K Q:=by
 unfold pc at e;split at e
 .rename_i c x y k;cases l:Nat.beq c j with
  | false=>rw[l] at e;cases e
  | true =>
    obtain rfl:=cG l;rw[l] at e;obtain rfl:=aq e;subst n;have q:a.eval (.tmp c)=.bool b:=by simp[Act.eval,m]
    unfold Oper.wp;have g:(execOp a.eval i).run P w=.ok (.value<|a.eval<|bif b then x else y) w:=by
     simp only[execOp,k,q];cases b<;>rfl
    rw[g];exact o _ (h.bG _)
 .cases e
theorem Df.put{G:List (Nat×Bool)}{i:Nat}{o:Oper}{r:List (Nat×Oper)}(h:Df all G a ((i,o)::r))(v:Value):Df all G (a.put o.dst v) r:=by
 intro g b;obtain⟨c,e,f,j⟩:=h g b;obtain⟨k,l⟩:=oG j;exact⟨c,e,by rw[dV k];exact f,l⟩
theorem EY{d j:Nat}{b:Bool}:∀{items:List (Nat×Oper)} {inner:List Nat},iZ d items=(iZ d (under j b inner items).1||iZ d (under j b inner items).2):=by
 intro items;induction items with
 | nil=>intro inner;rfl
 | cons p r e =>
   obtain⟨i,o⟩:=p;intro inner;unfold under;cases f:pb o.guard j b with
   | true=>simp only[cd,iZ,Jx];rw[e (inner:=i::inner)]
   | false =>
     simp only[fk];have both:∀c:Bool,iZ d ((i,o)::r)=(iZ d (bif c then((i,o)::(under j b (i::inner) r).1,(under j b (i::inner) r).2) else([],(i,o)::r)).1 ||
       iZ d (bif c then((i,o)::(under j b (i::inner) r).1,(under j b (i::inner) r).2) else([],(i,o)::r)).2):=by
      intro c;cases c with
      | true=>simp only[cd,iZ,Jx];rw[e (inner:=i::inner)]
      | false=>simp[iZ]
     exact both _
theorem EZ{p:Option Nat->Prop}{j:Nat}{want:Bool}:∀{items:List (Nat×Oper)} {inner:List Nat},(∀i o,(i,o)∈items->p o.dst) ->
  (∀i o,(i,o)∈(under j want inner items).1->p o.dst)/\(∀i o,(i,o)∈(under j want inner items).2->p o.dst):=by
 intro items;induction items with
 | nil=>intro inner h;exact⟨h,h⟩
 | cons q r l =>
   obtain⟨e,f⟩:=q;intro inner h;have m:=h e f (kQ ..);have n:∀i o,(i,o)∈r->p o.dst:=λi o b=>h i o (kJ _ b);unfold under;cases s:pb f.guard j want with
   | true =>
     simp only[cd];obtain⟨g,k⟩:=l (inner:=e::inner) n;refine⟨λi o b=>?_,k⟩;rcases eR.1 b with b|b
     .obtain⟨_,rfl⟩:=b8 b;exact m
     .exact g i o b
   | false =>
     simp only[fk];have both:∀c:Bool,(∀i o,(i,o)∈(bif c then((e,f)::(under j want (e::inner) r).1,(under j want (e::inner) r).2) else([],(e,f)::r)).1->p o.dst) /\
       (∀i o,(i,o)∈(bif c then((e,f)::(under j want (e::inner) r).1,(under j want (e::inner) r).2) else([],(e,f)::r)).2->p o.dst):=by
      intro c;cases c with
      | true =>
        obtain⟨g,k⟩:=l (inner:=e::inner) n;refine⟨λi o b=>?_,k⟩;rcases eR.1 b with b|b
        .obtain⟨_,rfl⟩:=b8 b;exact m
        .exact g i o b
      | false=>exact⟨λi o b=>(by cases b),h⟩
     exact both _
theorem vg{t:Nat}{b:Bool}(h:b6 B N γ σ a w)(f:σ.slots t=.data .bool b):a.tmps[t]?=some (.bool b):=by
 have:=h.slots t;rw[f] at this;have e:=pf this;rw[Eo] at e;cases c:a.tmps[t]? with
 | none=>rw[c] at e;cases e
 | some y=>rw[c] at e;exact congrArg some e
theorem Dh{b:Type}{c want:Bool}{t e:Tree b}{y:b}(h:(Tree.node (bif want then c else nt c) t e).run=some y):(c=want/\t.run=some y)\/(c≠want/\c=(!want)/\e.run=some y):=by
 have:=eh h;cases c<;>cases want
 .exact .inl ⟨rfl,this⟩
 .exact .inr ⟨by simp,rfl,this⟩
 .exact .inr ⟨by simp,rfl,this⟩
 .exact .inl ⟨rfl,this⟩
theorem zk(hc:df P cx)(Di:jy P B.G cx)(L7:nE P B.G inl)(O6:∀f HE σ v aB,(inl f HE σ).run=some (v,aB)->aM σ aB){Q:Exit->Act->World->Prop} :
  ∀(n:Nat) {items:List (Nat×Oper)} {l rest:List Oper} {σ aB:St} {γ:Gh} {a:Act} {w:World} {G:List (Nat×Bool)},kO all G items l->Df all G a items->(∀i o,(i,o)∈items->∀k,o.dst=some k->k<N) ->
   (ke cx nb bf inl all n items σ).run=some aB->b6 B N γ σ a w ->
   (∀bc a' w',b6 B N bc aB a' w'->Ext B γ σ.mem w bc aB.mem w'->Fr items a a'->wpList P all Q rest a' w')->wpList P all Q (l++rest) a w:=by
 intro n;induction n with
 | zero=>intro items l rest σ aB γ a w G _ _ _ q;cases q
 | succ n ih =>
   intro items l rest σ aB γ a w G hit hG hd q h hK;cases hit with
   | nil =>
     obtain rfl:=aq q;exact hK γ a w h (Ext.refl _ _ _ _) (λt _=>rfl)
   | @cons i o o' r l h1 h2 h3 =>
     have M:o'.dst=o.dst:=by rcases h2 with rfl|⟨_,_,_,rfl⟩<;>rfl
     unfold ke at q;split at q
     .rename_i hg;obtain⟨aV,r1,r2⟩:=bind_some q;have hw:Region.wanted o (yielded all a.tmps)=true:=by
       rcases h2 with rfl|⟨g,k1,k2,k3⟩
       .unfold Region.wanted;rw[hg]
       .exact hG.wanted k1 k2
      have SV:(kd cx nb bf inl o σ).run=some aV:=by
       rcases h2 with rfl|⟨g,k1,k2,rfl⟩
       .exact r1
       .exact r1
      show wpList P all Q (o::(l++rest)) a w
      unfold wpList;rw[hw];simp only[jr];refine .inl (xA hc Di L7 h (λk O=>hd i o' (kQ ..) k (by rw[M];exact O)) SV λs v J R x1=>?_);have Rz:=hG.put v;rw[M] at Rz;refine ih h3 Rz (λi o hm=>hd i o (kJ _ hm)) r2 R λS a2 w2 s2 x2 f2=>hK S a2 w2 s2 (x1.trans x2) λt ht=>?_;obtain⟨t1,Y⟩:=oG ht;rw[f2 t Y,dV (by rw[<-M];exact t1)]
     .rename_i j want hg;dsimp only at q;split at q
      .exact absurd q (by intro k;cases k)
      rename_i dj RA;split at q
      case h_2=>exact absurd q (by intro k;cases k)
      rename_i c ip pk E O7 O8;change Bool at c;cases hh:iZ dj (under j want [] ((i,o')::r)).1 with
      | true=>rw[hh] at q;exact absurd q (by intro k;cases k)
      | false =>
      rw[hh] at q;simp only[fk] at q;split at q
      .exact absurd q (by intro k;cases k)
      rename_i SW;have T:a.tmps[dj]?=some (.bool c):=vg h O7;obtain⟨l1,l2,e1,I1,I2⟩:=De (j:=j) (want:=want) (inner:=[]) (kO.cons h1 h2 h3);obtain⟨d1,d2⟩:=EZ (p:=λd=>∀k,d=some k->k<N) (j:=j) (want:=want) (inner:=[]) hd;have U:∀d,iZ d ((i,o')::r)=(iZ d (under j want [] ((i,o')::r)).1||iZ d (under j want [] ((i,o')::r)).2):=λd=>EY;have O9:=λ(m:c≠want)=>EW (P:=P) (w:=w) (Q:=Q) RA m (kO.cons h1 h2 h3) T hh (λk O=>by cases O);generalize RB:(under j want [] ((i,o')::r)).1=X at *;rw[O8] at I2 d2 U;cases I2 with
      | @cons _ u _ _ Z p1 p2 p3 =>
      have F:pk.dst=u.dst:=by rcases p2 with rfl|⟨_,_,_,rfl⟩<;>rfl
      have QC:pk.op=u.op:=by rcases p2 with rfl|⟨_,_,_,rfl⟩<;>rfl
      rw[e1,mj];have A:∀{d},iZ d ((i,o')::r)=false->iZ d X=false/\u.dst≠some d/\iZ d E=false:=by
       intro d GD;rw[U] at GD;simp only[wD] at GD;obtain⟨q1,q2⟩:=oG GD.2;exact⟨GD.1,by rw[<-F];exact q1,q2⟩
      have tail:∀(s:Gh) (τ br:St) (z:Act) (J:World) (v:ax) (b:Bool),b6 B N s τ z J->Fr X a z->c=b->pc τ pk dj b=some v ->
        (∀y,bw s τ.mem J v .val [y]->∃S,b6 B N S br (z.put u.dst y) J/\Ext B γ σ.mem w S br.mem J)->(ke cx nb bf inl all n E br).run=some aB ->
        wpList P all Q (u::Z++rest) z J:=by
       intro s τ br z J v b R D SX C hy H;have RC:Df all G z ((ip,pk)::E):=λg V=>by
        obtain⟨PH,k1,k2,k3⟩:=hG g V;obtain⟨q1,q2,q3⟩:=A k3;refine⟨PH,k1,by rw[D PH q1];exact k2,?_⟩;simp only[iZ,wD];refine⟨?_,q3⟩;cases L:pk.dst with
        | none=>rfl
        | some k=>exact fm λe=>q2 (by rw[<-F,L,e])
       have SY:Region.wanted u (yielded all z.tmps)=true:=by
        rcases p2 with rfl|⟨g,k1,k2,k3⟩
        .unfold Region.wanted;rw[SW]
        .exact RC.wanted k1 k2
       show wpList P all Q (u::(Z++rest)) z J
       unfold wpList;rw[SY];simp only[jr];have QD:pc τ u dj b=some v:=by rw[<-C];unfold pc;rw[QC]
       refine .inl (EX R (by rw[D dj hh];exact T) SX QD λy SZ=>?_);obtain⟨S,s2,x2⟩:=hy y SZ;have RD:=RC.put y;rw[F] at RD;refine ih p3 RD (λi o hm=>d2 i o (kJ _ hm)) H s2 λS0 a3 w3 s3 x3 f3=>hK S0 a3 w3 s3 (x2.trans x3) λt ht=>?_;obtain⟨q1,q2,q3⟩:=A ht;rw[f3 t q3,dV q2,D t q1]
      have W:∀(τ:St) (d:Option Nat) (v:ax),(τ.aA d v).mem=τ.mem:=λτ d v=>by cases d<;>rfl
      have L:∀k,u.dst=some k->k<N:=λk O=>d2 ip pk (kQ ..) k (by rw[F];exact O);have RE:c=want->Df all ((j,want)::G) a X:=λm g V=>by
       rcases eR.1 V with rfl|V
       .exact⟨dj,RA,by rw[<-m];exact T,hh⟩
       .obtain⟨PH,k1,k2,k3⟩:=hG g V;exact⟨PH,k1,k2,(A k3).1⟩
      have eD:c≠want->(∀z,Fr X a z->z.tmps.size=a.tmps.size->z.defers=a.defers->wpList P all Q (u::Z++rest) z w)->wpList P all Q (l1++(u::Z++rest)) a w:=by
       intro m O;obtain⟨m1,m2,q1,q2,q3⟩:=O9 m;rw[e1] at q1;obtain⟨rfl,rfl⟩:=List.append_inj q1 (by rw[q2,I1.length]);exact q3 _ O
      cases HD:wc cx X with
      | true =>
        rw[HD] at q;simp only[cd] at q;obtain⟨br,I,H⟩:=bind_some q;rcases Dh (c:=c) (want:=want) I with ⟨m,I⟩|⟨m,O5,I⟩
        .obtain⟨τ,t1,Y⟩:=bind_some I;split at Y
         .rename_i v C;obtain rfl:=aq Y;refine ih I1 (RE m) d1 t1 h λs z J R x1 D=>tail s τ _ z J v want R D m C (λy hy=>⟨s,?_,?_⟩) H
          .rw[F];exact R.mP L hy
          .rw[W];exact x1
         .exact absurd Y (by intro k;cases k)
        .split at I
         .rename_i v C;obtain rfl:=aq I;refine eD m λz D f2 f3=>tail γ (σ.undef X) _ z w v (!want) (h.undef D (f2.trans h.size)<|f3.trans h.defers) D O5 C (λy hy=>⟨γ,?_,?_⟩) H
          .rw[F];exact(h.undef D (f2.trans h.size)<|f3.trans h.defers).mP L hy
          .rw[W,mG];exact Ext.refl _ _ _ _
         .exact absurd I (by intro k;cases k)
      | false =>
        rw[HD] at q;simp only[fk] at q;split at q
        case h_2=>exact absurd q (by intro k;cases k)
        rename_i t dp hT S1;rw[Tree.sL] at q;obtain⟨x,I,H⟩:=pZ.1 q;have K:u.dst=some dp:=by rw[<-F];exact S1
        rcases Dh (c:=c) (want:=want) I with ⟨m,I⟩|⟨m,O5,I⟩
        .obtain⟨τ,t1,Y⟩:=bind_some I;split at Y
         .rename_i x' C;obtain rfl:=aq Y;obtain⟨v,L8,Oy⟩:=pZ.1 C;refine ih I1 (RE m) d1 t1 h.fb λs z J R x1 D=>tail s τ _ z J v want R D m L8 (λy hy=>?_) H;obtain⟨m1,m2⟩:=h.ok.unlock (Bt<|tw O6 n X _ τ t1) R.ok x1;have hS:b6 B N s σ a J:=h.go m2 m1;have S2:=hS.undef D R.size R.defers;refine⟨s,?_,?_⟩
          .rw[K];exact S2.mP (d:=some dp) (λk O=>L k (by rw[K];exact O)) (GC Oy hy)
          .show Ext B γ σ.mem w s (σ.undef X).mem J
           rw[mG];exact m2
         .exact absurd Y (by intro k;cases k)
        .split at I
         .rename_i x' C;obtain rfl:=aq I;obtain⟨v,L8,Oy⟩:=pZ.1 C;refine eD m λz D f2 f3=>tail γ (σ.undef X) _ z w v (!want) (h.undef D (f2.trans h.size)<|f3.trans h.defers) D O5 L8 (λy hy=>⟨γ,?_,?_⟩) H
          .rw[K];exact(h.undef D (f2.trans h.size)<|f3.trans h.defers).mP (d:=some dp) (λk O=>L k (by rw[K];exact O)) (GC Oy hy)
          .show Ext B γ σ.mem w γ (σ.undef X).mem w
           rw[mG];exact Ext.refl _ _ _ _
         .exact absurd I (by intro k;cases k)
end
end Go.Ge
namespace Go.Ge
open RowKit
section
variable {P:Program} {B:Own} {N:Nat} {γ:Gh} {σ aB:St} {a:Act} {w w':World} {cx:Ctx} {nb:Nat} {bf:List Nat} {inl:Nat->List ax->St->Tree (ax×St)} {ops:Array Oper}
theorem Bu:∀{l:List Oper} {k:Nat},(∀j,l[j]?=ops[k+j]?)->kO ops [] (number k l) l:=by
 intro l;induction l with
 | nil=>intro k _;exact .nil
 | cons o l b =>
   intro k h;refine .cons ?_ (.inl rfl) (b λj=>by have:=h (j+1);simpa [ud,Gr 1 j] using this);have:=h 0;simpa using this.symm
theorem E0:∀{l:List Oper} {k i:Nat} {o:Oper},(i,o)∈number k l->o∈l:=by
 intro l;induction l with
 | nil=>intro k i o h;cases h
 | cons p l b =>
   intro k i o h;rcases eR.1 h with h|h
   .obtain⟨_,rfl⟩:=b8 h;exact kQ ..
   .exact kJ _ (b h)
theorem Bw(q:df P cx)(c:jy P B.G cx)(e:nE P B.G inl)(b:∀f m σ v aB,(inl f m σ).run=some (v,aB)->aM σ aB){Q:Exit->Act->World->Prop}{id:Nat}
  (r:∀o∈ops.toList,∀k,o.dst=some k->k<N) (t:(wR cx nb bf inl ops σ).run=some aB) (h:b6 B N γ σ a w)
  (u:∀bc n w',b6 B N bc aB n w'->Ext B γ σ.mem w bc aB.mem w'->Fr (number 0 ops.toList) a n->Q .normal n w'):(Code.region id ops false).wp P Q a w:=by
 refine wp_region_list ?_;have:=zk (all:=ops) (Q:=Q) (rest:=[]) q c e b _ (Bu (l:=ops.toList) (k:=0) λj=>by simp) (λg y=>by cases y) (λi o z=>r o (E0 z)) t h
  (λbc n w' s x f=>wpList_nil (u bc n w' s x f))
 simpa using this
end
end Go.Ge
namespace Go.Ge
open RowKit
def eU(p:Nat->Prop)(e c:St):Prop:=∀b,c.mem b=e.mem b\/(c.mem b≠none/\p b)
section
variable {p:Nat->Prop} {σ τ ρ:St}
theorem eU.refl(σ:St):eU p σ σ:=λ_=>.inl rfl
theorem eU.Ka(h:τ.mem=σ.mem):eU p σ τ:=λb=>.inl (by rw[h])
theorem eU.trans(h:eU p σ τ)(k:eU p τ ρ):eU p σ ρ:=λb=>by
 rcases k b with c|c
 .rcases h b with e|⟨e,f⟩
  .exact .inl (c.trans e)
  .exact .inr ⟨by rw[c];exact e,f⟩
 .exact .inr c
theorem eU.aA(b:St)(d:Option Nat)(v:ax):eU p b (b.aA d v):=by cases d<;>exact λ_=>.inl rfl
theorem eU.put(b:St)(d:Nat)(v:ax):eU p b (b.put d v):=λ_=>.inl rfl
theorem eU.bI{b:Nat}{bx:aS}(h:p b):eU p σ (σ.bI b bx):=λc=>by
 by_cases e:c=b
 .subst e;exact .inr ⟨by simp[St.bI],h⟩
 .exact .inl (by rw[mQ,az _ e])
end
def ar(p:Nat->Prop)(b:St)(T:Tree St):Prop:=∀y,T.run=some y->eU p b y
section
variable {p:Nat->Prop} {σ:St}
theorem ar.fail:ar p σ .fail:=λy h=>by cases h
theorem ar.ret{b:St}(h:eU p σ b):ar p σ (.ret b):=λy c=>by obtain rfl:=aq c;exact h
theorem ar.bif{c:Bool}{t:Tree St}(h:ar p σ t):ar p σ (bif c then t else .fail):=λy b=>h y (ak b).2
theorem ar.need{c:Bool}{t:Tree St}(h:ar p σ t):ar p σ (.need c t):=λy b=>h y (bM b).2
theorem ar.look{T:Type}{o:Option T}{k:T->Tree St}(h:∀x,ar p σ (k x)):ar p σ (.look o k):=λy b=>by obtain⟨x,_,c⟩:=bo b;exact h x y c
theorem ar.node{c:Bool}{t e:Tree St}(h:ar p σ t)(k:ar p σ e):ar p σ (.node c t e):=λy b=>by
 have:=eh b;cases c with
 | true=>exact h y this
 | false=>exact k y this
theorem ar.bind{α:Type}{t:Tree α}{f:α->Tree St}(h:∀x,t.run=some x->ar p σ (f x)):ar p σ (t.bind f):=λy b=>by obtain⟨x,c,e⟩:=bind_some b;exact h x c y e
theorem ar.aw{b:Nat}{c:ax}{tid:TypeId}{e:Bool}{d:Nat}{v:Nat->ax}(h:p b):ar p σ (σ.aw b c tid e λau σ=>.ret (σ.put d<|v au)):=λy f=>by
 obtain⟨au,i,g⟩:=da f;obtain rfl:=aq g;exact(eU.bI h).trans (eU.put _ _ _)
theorem xK{g e:St}{b:Nat}(j:∀b,g.mem b≠none->p b)(h:freeze g b=some e):eU p g e:=by
 unfold freeze at h;split at h
 .rename_i i k;cases c:i.ro with
  | true=>simp only[c,cd,j7] at h;rw[<-h];exact eU.refl _
  | false =>
    cases f:i.lk with
    | true=>simp[c,f] at h
    | false =>
      simp only[c,f,fk,j7] at h;rw[<-h];exact eU.bI (j b<|by rw[k];simp)
 .cases h
def vO(p:Nat->Prop)(e c:St):Prop:=(∀b,e.mem b≠none->p b)->eU p e c/\∀b,c.mem b≠none->p b
theorem vO.refl(σ:St):vO p σ σ:=λh=>⟨eU.refl _,h⟩
theorem vO.trans{σ b c:St}(h:vO p σ b)(k:vO p b c):vO p σ c:=λe=>by
 obtain⟨f,g⟩:=h e;obtain⟨i,j⟩:=k g;exact⟨f.trans i,j⟩
theorem vO.of{e c:St}(h:(∀b,e.mem b≠none->p b)->eU p e c):vO p e c:=λf=>by
 refine⟨h f,λb g=>?_⟩;rcases h f b with k|k
 .exact f b (by rw[<-k];exact g)
 .exact k.2
theorem Dj:∀{v:ax} {σ aB:St},eA σ v=some aB->vO p σ aB:=by
 intro v;induction v with
 | mix p q c e =>
   intro σ aB h;obtain⟨aV,g,i⟩:=nC h;exact(c g).trans (e i)
 | whole b au=>intro σ aB h;exact vO.of λf=>xK f h
 | part b au lo n=>intro σ aB h;exact vO.of λf=>xK f h
 | _=>intro σ aB h;obtain rfl:=aq h;exact vO.refl _
theorem oH{t:Ty}{x:t.den}{v:ax}{c b:St}(h:om c t v=some (x,b)):vO p c b:=by
 unfold om at h;split at h
 .split at h
  .obtain⟨_,rfl⟩:=b8 (aq h);exact vO.refl _
  .cases h
 .split at h
  .rename_i y aV f e;obtain⟨_,rfl⟩:=b8 (aq h);exact Dj e
  .cases h
theorem qs:∀{A:Ty} {x:A.den} {c:List ax} {σ aB:St},gE σ A c=some (x,aB)->vO p σ aB:=by
 intro A;induction A with
 | pair t r f e =>
   intro x c σ aB b;cases c with
   | nil=>cases b
   | cons v c =>
     simp only[gE] at b;split at b
     .rename_i p aV g;split at b
      .rename_i q br h;obtain⟨_,rfl⟩:=b8 (aq b);exact(oH g).trans (e h)
      .cases b
     .cases b
 | unit =>
   intro x c σ aB b;cases c with
   | nil=>obtain⟨_,rfl⟩:=b8 (aq b);exact vO.refl _
   | cons v c=>cases b
 | _=>intro x c σ aB b;cases c<;>cases b
theorem xL{t:Ty}:∀{parts:List (Nat×Operand)} {x b:t.den} {σ aB:St},en σ t x parts=some (b,aB)->vO p σ aB:=by
 intro parts;induction parts with
 | nil=>intro x b σ aB h;obtain⟨_,rfl⟩:=b8 (aq h);exact vO.refl _
 | cons p r c =>
   obtain⟨k,o⟩:=p;intro x b σ aB h;simp only[en] at h;split at h
   .split at h
    .rename_i e;split at h
     .exact(oH e).trans (c h)
     .cases h
    .cases h
   .cases h
theorem nW{e:Ty}:∀{parts:List (Nat×Operand)} {l c:List e.den} {σ aB:St},du σ e l parts=some (c,aB)->vO p σ aB:=by
 intro parts;induction parts with
 | nil=>intro x i σ aB h;obtain⟨_,rfl⟩:=b8 (aq h);exact vO.refl _
 | cons p r f =>
   obtain⟨k,o⟩:=p;intro l c σ aB h;simp only[du] at h;split at h
   .rename_i g;cases b:Nat.blt k l.length with
    | false=>rw[b] at h;cases h
    | true=>rw[b] at h;exact(oH g).trans (f h)
   .cases h
theorem vh{b g:Nat}{q:List rW}{h:ax->Bool}{u:ax}{n e:St}(f:(storeAt b g q h u n).run=some e):vO p n e:=vO.of λr=>by
 unfold storeAt at f;split at f
 case h_2=>exact absurd f (by intro k;cases k)
 rename_i v s;obtain⟨x,i⟩:=ak f;obtain⟨t,y,j⟩:=bind_some i;obtain⟨o,l⟩:=ak j;obtain⟨c,z,m⟩:=bind_some l;obtain rfl:=aq m;exact eU.bI (r b<|by rw[s];simp)
theorem Dl{b g:Nat}{r:List rW}{n:Nat}{u:ax}{o e:St}(f:(jE b g r n u o).run=some e):vO p o e:=vO.of λs=>by
 unfold jE at f;split at f
 case h_2=>exact absurd f (by intro k;cases k)
 rename_i y t;obtain⟨z,h⟩:=ak f;obtain⟨v,A,i⟩:=bind_some h;obtain⟨q,j⟩:=ak i;obtain⟨c,C,l⟩:=bind_some j;obtain⟨x,m⟩:=ak l;obtain rfl:=aq m;exact eU.bI (s b<|by rw[t];simp)
theorem zl{m:Ctx}{i:List Nat}{n:TypeId}{x y:ax}{g c:St}(f:(gZ m i n x y g).run=some c):vO p g c:=by
 unfold gZ at f;split at f
 case h_2=>exact absurd f (by intro k;cases k)
 split at f
 case h_2=>exact absurd f (by intro k;cases k)
 obtain⟨j,h⟩:=ak f;obtain⟨o,s,e⟩:=bind_some h;split at e
 .rename_i u _;obtain⟨q,b⟩:=ak e;cases l:bJ i 8000000&&JF u y with
  | true=>rw[l] at b;exact Dl b
  | false =>
  rw[l] at b;replace b:(match om g u y with|some (y,g)=>storeAt _ _ _ (Hm u) (.data u y) g|none=>.fail).run=some c:=b;split at b
  .rename_i r;exact(oH r).trans (vh b)
  .exact absurd b (by intro k;cases k)
 .obtain⟨q,b⟩:=ak e;exact vh b
theorem qt{j:Ctx}{i:Nat}{d:Option Nat}{m:TypeId}{s x:ax}{g f:St}(n:∀k,d=some k->p (i+k))(o:∀b,g.mem b≠none->p b)(c:(eS j i d m s x g).run=some f):eU p g f:=by
 unfold eS at c;split at c
 case h_2=>exact absurd c (by intro k;cases k)
 split at c
 case h_2=>exact absurd c (by intro k;cases k)
 split at c
 .obtain⟨q,e⟩:=bM c;exact ar.aw (n _ rfl) _ e
 .split at c
  case h_2=>exact absurd c (by intro k;cases k)
  rename_i u l r v;obtain⟨t,h⟩:=pn c;obtain⟨q,e⟩:=bM h;obtain rfl:=aq e;exact(eU.bI<|o _<|by rw[r];simp).trans (eU.put _ _ _)
 .exact absurd c (by intro k;cases k)
theorem xM{b:Nat}{f:ax}{g:TypeId}{i:Bool}{d:Nat}{v:Nat->ax}{e c:St}(h:p b)(k:(e.aw b f g i λj e=>.ret (e.put d<|v j)).run=some c):eU p e c:=ar.aw h _ k
theorem zm{i:Nat}{e:Ty}{d:Option Nat}{f:List ax}{h g:St}(j:∀k,d=some k->p (i+k))(l:∀b,h.mem b≠none->p b)(c:(hW i e d f h).run=some g):eU p h g:=by
 unfold hW at c;split at c
 case h_2=>cases c
 split at c
 case h_2=>cases c
 rename_i m;obtain⟨_,c⟩:=ak c;obtain⟨_,c⟩:=bM c;exact((oH m) l).1.trans (xM (j _ rfl) c)
theorem zn{h g:Nat}{d:Option Nat}{c:List ax}{i e:St}(j:∀k,d=some k->p (h+k))(b:(hY h g d c i).run=some e):eU p i e:=by
 unfold hY at b;split at b
 .cases b
 .cases b
 .exact xM (v:=λf=>.fn g [(_,f)]) (j _ rfl) (ak b).2
 .cases b
theorem Dm{e A:Ty}{f:Bool}{g:List e.den->A.den->Option (List e.den)}{d:Option Nat}{h:List ax}{m i:St}(q:∀b,m.mem b≠none->p b)(c:(ld e A f g d h m).run=some i):eU p m i:=by
 unfold ld at c;split at c
 case h_2=>cases c
 split at c
 case h_2=>cases c
 rename_i x aV r;split at c
 case h_2=>cases c
 rename_i b s v l n;obtain⟨y,_,c⟩:=bo c;obtain⟨t,_⟩:=lF n;obtain⟨o,u⟩:=(qs r) q;have key:∀j,eU p aV (aV.bI b j):=λj=>eU.bI (u b<|by rw[t];simp);cases f with
 | true =>
   cases d with
   | none=>cases c
   | some k=>obtain rfl:=aq c;exact(o.trans<|key _).trans (eU.put _ _ _)
 | false =>
   cases d with
   | none=>obtain⟨_,c⟩:=ak c;obtain rfl:=aq c;exact(o.trans<|key _).trans (eU.aA _ none _)
   | some k=>obtain⟨_,c⟩:=ak c;obtain rfl:=aq c;exact(o.trans<|key _).trans (eU.aA _ (some _) _)
end
section
variable {cx:Ctx} {nb:Nat} {bf:List Nat} {d:Option Nat} {σ:St} {p:Nat->Prop}
theorem Bx{c a b:ax}:ar p σ (jw d c a b σ):=by unfold jw;(repeat' (first|exact ar.fail|exact ar.ret (eU.aA _ _ _)|exact ar.ret (eU.put _ _ _)|exact ar.aw (by assumption)|refine ar.bif ?_|refine ar.need ?_|refine ar.look λ_=>?_|refine ar.node ?_ ?_|refine ar.bind λ_ _=>?_|split))
theorem Bz{b:TypeId}{a:ax}:ar p σ (gO cx d b a σ):=by unfold gO;(repeat' (first|exact ar.fail|exact ar.ret (eU.aA _ _ _)|exact ar.ret (eU.put _ _ _)|exact ar.aw (by assumption)|refine ar.bif ?_|refine ar.need ?_|refine ar.look λ_=>?_|refine ar.node ?_ ?_|refine ar.bind λ_ _=>?_|split))
theorem zo{b:TypeId}{x:ax}{c e:Option Operand}:ar p σ (hJ cx d b x c e σ):=by unfold hJ;(repeat' (first|exact ar.fail|exact ar.ret (eU.aA _ _ _)|exact ar.ret (eU.put _ _ _)|exact ar.aw (by assumption)|refine ar.bif ?_|refine ar.need ?_|refine ar.look λ_=>?_|refine ar.node ?_ ?_|refine ar.bind λ_ _=>?_|split))
theorem HG{b c:Nat}{i:Int}:∀{m k:Nat},ar p σ (wP d b c σ i m k):=by
 intro m;induction m with
 | zero=>intro k;exact ar.fail
 | succ m e=>intro k;exact ar.node (ar.ret<|eU.aA _ _ _) e
theorem nG{b:TypeId}{x:ax}{i:Int}:ar p σ (cR cx d b x i σ):=by
 unfold cR;split
 case h_6=>split
           .exact ar.bif HG
           .exact ar.fail
 all_goals (repeat' (first|exact ar.fail|exact ar.ret (eU.aA _ _ _)|exact ar.ret (eU.put _ _ _)|exact ar.aw (by assumption)|refine ar.bif ?_|refine ar.need ?_|refine ar.look λ_=>?_|refine ar.node ?_ ?_|refine ar.bind λ_ _=>?_|split))
theorem zp{b:TypeId}{x:ax}{i:Int}:ar p σ (hM cx d b x i σ):=by
 unfold hM;split
 .refine ar.bif ?_;split
  .exact ar.bif (ar.ret<|eU.aA _ _ _)
  .exact ar.fail
 .exact nG
theorem zq{b:TypeId}{x:ax}{i:Int}:ar p σ (hU cx d b x i σ):=by unfold hU;(repeat' (first|exact ar.fail|exact ar.ret (eU.aA _ _ _)|exact ar.ret (eU.put _ _ _)|exact ar.aw (by assumption)|refine ar.bif ?_|refine ar.need ?_|refine ar.look λ_=>?_|refine ar.node ?_ ?_|refine ar.bind λ_ _=>?_|split))
theorem tz{s:TypeId}{x:ax}{k:Nat}:ar p σ (di cx d s x k σ):=by unfold di;(repeat' (first|exact ar.fail|exact ar.ret (eU.aA _ _ _)|exact ar.ret (eU.put _ _ _)|exact ar.aw (by assumption)|refine ar.bif ?_|refine ar.need ?_|refine ar.look λ_=>?_|refine ar.node ?_ ?_|refine ar.bind λ_ _=>?_|split))
theorem qu{b:TypeId}{v:ax}(c:∀k,d=some k->p (nb+k)):ar p σ (fQ cx nb bf d b v σ):=by
 unfold fQ;split
 ·(repeat' (first|exact ar.fail|exact ar.ret (eU.aA _ _ _)|exact ar.ret (eU.put _ _ _)|exact ar.aw (by assumption)|refine ar.bif ?_|refine ar.need ?_|refine ar.look λ_=>?_|refine ar.node ?_ ?_|refine ar.bind λ_ _=>?_|split))
 .split
  .rename_i k e _;cases bJ bf k with
   | true=>exact ar.aw (c _ rfl)
   | false=>exact ar.ret (eU.put _ _ _)
  .exact ar.ret (eU.aA _ _ _)
 .exact ar.ret (eU.aA _ _ _)
theorem vP{s t:TypeId}{x:ax}(b:∀k,d=some k->p (nb+k)):ar p σ (eI cx nb d s t x σ):=by
 unfold eI;split
 ·(repeat' (first|exact ar.fail|exact ar.ret (eU.aA _ _ _)|exact ar.ret (eU.put _ _ _)|exact ar.aw (by assumption)|refine ar.bif ?_|refine ar.need ?_|refine ar.look λ_=>?_|refine ar.node ?_ ?_|refine ar.bind λ_ _=>?_|split))
 ·(repeat' (first|exact ar.fail|exact ar.ret (eU.aA _ _ _)|exact ar.ret (eU.put _ _ _)|exact ar.aw (by assumption)|refine ar.bif ?_|refine ar.need ?_|refine ar.look λ_=>?_|refine ar.node ?_ ?_|refine ar.bind λ_ _=>?_|split))
 .split
  .exact ar.need (ar.aw<|b _ rfl)
  .exact ar.fail
 ·(repeat' (first|exact ar.fail|exact ar.ret (eU.aA _ _ _)|exact ar.ret (eU.put _ _ _)|exact ar.aw (by assumption)|refine ar.bif ?_|refine ar.need ?_|refine ar.look λ_=>?_|refine ar.node ?_ ?_|refine ar.bind λ_ _=>?_|split))
 ·(repeat' (first|exact ar.fail|exact ar.ret (eU.aA _ _ _)|exact ar.ret (eU.put _ _ _)|exact ar.aw (by assumption)|refine ar.bif ?_|refine ar.need ?_|refine ar.look λ_=>?_|refine ar.node ?_ ?_|refine ar.bind λ_ _=>?_|split))
theorem Af{l:Nat->Option aS}:∀{o:OT} {v:ax} {u:o.den} {N M:List (Nat×Nat)},bE l o v=some (u,N,M)->∀b∈aF N M,l b≠none:=by
 intro o;induction o with
 | bW t =>
   intro v u N M h;unfold bE at h;split at h
   .cases h;intro b k;cases k
   .cases h
 | buf e z =>
   intro v u N M h;unfold bE at h;split at h
   case h_2=>cases h
   rename_i b j;split at h
   case h_2=>cases h
   rename_i i k;cases g:(Nat.beq i.au j&&i.buf&&!i.lk&&!i.ro&&Nat.beq i.tid z&&Nat.blt 0 e.size) with
   | false=>rw[g] at h;cases h
   | true =>
     rw[g] at h;simp only[cd] at h;split at h
     case h_2=>cases h
     split at h
     case h_2=>cases h
     cases h;intro c f;have:c=b:=by simpa [aF] using f
     subst this;rw[k];simp
 | map =>
   intro v u N M h;unfold bE at h;split at h
   case h_2=>cases h
   rename_i b j;split at h
   case h_2=>cases h
   rename_i i k;cases g:(Nat.beq i.au j&&i.buf&&!i.lk&&!i.ro) with
   | false=>rw[g] at h;cases h
   | true =>
     rw[g] at h;simp only[cd] at h;split at h
     case h_2=>cases h
     cases h;intro c f;have:c=b:=by simpa [aF] using f
     subst this;rw[k];simp
 | ref tid o r =>
   intro v u N M h;unfold bE at h;split at h
   case h_2=>cases h
   rename_i b j;split at h
   case h_2=>cases h
   rename_i i k;cases g:(Nat.beq i.au j&&!i.buf&&!i.lk&&!i.ro&&Nat.beq i.tid tid) with
   | false=>rw[g] at h;cases h
   | true =>
     rw[g] at h;simp only[cd] at h;split at h
     case h_2=>cases h
     rename_i F A C s;cases h;intro c f;unfold aF at f;simp only[fY,wF,eR] at f;rcases f with rfl|f
     .rw[k];simp
     .exact r s c f
 | rf tid o r =>
   intro v u N M h;unfold bE at h;split at h
   case h_2=>cases h
   rename_i b j;split at h
   case h_2=>cases h
   rename_i i k;cases g:(Nat.beq i.au j&&!i.buf&&!i.lk&&!i.ro&&Nat.beq i.tid tid) with
   | false=>rw[g] at h;cases h
   | true =>
     rw[g] at h;simp only[cd] at h;split at h
     case h_2=>cases h
     rename_i F A C s;cases h;intro c f;unfold aF at f;simp only[fY,lW,eR] at f;rcases f with f|rfl|f
     .exact r s c (by unfold aF;exact iw _ f)
     .rw[k];simp
     .exact r s c (by unfold aF;exact pR _ f)
 | pair p q m n =>
   intro v u N M h;unfold bE at h;split at h
   case h_2=>cases h
   split at h
   case h_2=>cases h
   rename_i x A C y G H D E;cases h;intro c f;unfold aF at f;simp only[oY,lW] at f;rcases f with (f|f)|(f|f)
   .exact m D c (iw _ f)
   .exact n E c (iw _ f)
   .exact m D c (pR _ f)
   .exact n E c (pR _ f)
 | unit =>
   intro v u N M h;unfold bE at h;split at h
   case h_2=>cases h
   cases h;intro b k;cases k
 | cB =>
   intro v u N M h;unfold bE at h;split at h
   case h_2=>cases h
   cases h;intro b k;cases k
theorem Dp{j:St}:∀{ps:List Bool} {A:Ty} {U:OT} {f:List ax} {x:A.den} {u:U.den} {N M:List (Nat×Nat)},cV j ps A U f=some (x,u,N,M)->∀b∈aF N M,j.mem b≠none:=by
 intro ps;induction ps with
 | nil =>
   intro A U f x u N M h;cases A<;>first|(cases h;done)|skip
   cases U<;>first|(cases h;done)|skip
   cases f with
   | cons v r=>cases h
   | nil=>cases h;intro b l;cases l
 | cons q ps i =>
   intro A U f x u N M h;cases q with
   | false =>
     cases A<;>first|(cases h;done)|skip
     cases f with
     | nil=>cases h
     | cons v r =>
       simp only[cV] at h;split at h
       .rename_i g;cases h;exact i g
       .cases h
   | true =>
     cases U<;>first|(cases h;done)|skip
     rename_i o U;cases o<;>first|(cases h;done)|skip
     case cB =>
      cases f with
      | nil=>cases h
      | cons v r =>
        cases v<;>first|(cases h;done)|skip
        simp only[cV] at h;split at h
        .rename_i g;cases h;exact i g
        .cases h
     cases f with
     | nil=>cases h
     | cons v r =>
       simp only[cV] at h;split at h
       .rename_i m n s t y z C k g;cases h;intro c e;unfold aF at e;simp only[oY,lW] at e;rcases e with (e|e)|(e|e)
        .exact Af k c (iw _ e)
        .exact i g c (iw _ e)
        .exact Af k c (pR _ e)
        .exact i g c (pR _ e)
       .cases h
theorem Dq{c:List Bool}{A:Ty}{U:OT}{e:List ax}{x:A.den}{u y:U.den}{N M:List (Nat×Nat)}(h:cV σ c A U e=some (x,u,N,M))(f:∀b,σ.mem b≠none->p b):eU p σ (gG U y N M σ):=λb=>by
 rw[eK];cases hv:dF U y N (M.map λp=>(p.1,p.2+1)) b with
 | none=>exact .inl rfl
 | some v=>exact .inr ⟨by simp,f b (Dp h b (by have:=iI hv;rwa [mS] at this))⟩
theorem L9{f:Nat}{b:List ax}{k:sK}(h:find cx.rX (Ho f b)=some k):NF cx f=true:=by
 unfold NF;split
 .rfl
 .rename_i c;unfold Ho at h;split at h
  .rw[h]
  .rw[c] at h;cases h
theorem E1{o:Oper}{i:Option Nat}(V:iC o σ=i)(I:cls cx i o≠3)(z:cls cx i o≠0->∀k,o.dst=some k->p (nb+k))(F:cls cx i o≠0->cls cx i o≠1->∀b,σ.mem b≠none->p b):ar p σ (kd cx nb bf qc o σ):=by
 unfold kd;split
 case h_1 x h=>exact qu (z<|by simp[cls,h])
 case h_2 x h=>exact qu (z<|by simp[cls,h])
 case h_3=>exact Bx
 case h_4 e h =>
  split
  .rename_i k t S J;have h0:cls cx i o≠0:=by
    cases t<;>simp[cls,h,J]
   unfold mC;split
   .exact absurd (by simp[cls,h,J]) I
   .exact ar.aw (z h0 _<|by assumption)
  .rename_i J;split
   .rename_i K;exact absurd (by simp[cls,h,J,K]) I
   .rename_i K;exact ar.bif (ar.aw<|z (by simp[cls,h,J,K]) _<|by assumption)
  .exact ar.fail
 case h_5 e x h =>
  unfold sQ;split
  .exact ar.fail
  .exact ar.fail
  .split
   .rename_i K;exact absurd (by simp[cls,h,K]) I
   .rename_i K;exact ar.aw (z (by simp[cls,h,K]) _<|by assumption)
  .exact ar.fail
 case h_6 t ps h =>
  have C:=F (by simp[cls,h]) (by simp[cls,h]);split
  .split
   .rename_i d0 k0 hz;unfold mK;split
    .exact ar.bif (ar.aw<|z (by simp[cls,h]) d0 (qk hz).1)
    .exact ar.fail
   split
   .rename_i G;exact ar.ret ((xL G C).1.trans<|eU.aA _ _ _)
   .exact ar.fail
  .split
   .rename_i G;exact ar.ret ((nW G C).1.trans<|eU.aA _ _ _)
   .exact ar.fail
  ·(repeat' (first|exact ar.fail|exact ar.ret (eU.aA _ _ _)|exact ar.ret (eU.put _ _ _)|exact ar.aw (by assumption)|refine ar.bif ?_|refine ar.need ?_|refine ar.look λ_=>?_|refine ar.node ?_ ?_|refine ar.bind λ_ _=>?_|split))
  .exact ar.fail
 case h_7 t n ps h =>
  have C:=F (by simp[cls,h]) (by simp[cls,h]);split
  .split
   .rename_i k Q U;exact ar.aw (z (by simp[cls,h]) k (si Q).1)
   .refine ar.bif ?_;split
    .rename_i G;split
     .rename_i k S;exact λy q=>(nW G C).1.trans (ar.aw (z (by simp[cls,h]) k<|nF S) _ q)
     .exact ar.ret ((nW G C).1.trans<|eU.aA _ _ _)
    .exact ar.fail
  .unfold qW;split
   .exact ar.bif (ar.aw<|z (by simp[cls,h]) _<|by assumption)
   .exact ar.fail
  .exact ar.fail
 case h_8=>exact Bz
 case h_9 t a x h =>
  cases W:o7 x with
  | true=>exact absurd (by simp[cls,h,W]) I
  | false =>
  have C:=F (by simp[cls,h,W]) (by simp[cls,h,W]);split
  .rw[Bool.and_false];exact λy q=>(zl q C).1
  .exact ar.fail
 case h_10=>(repeat' (first|exact ar.fail|exact ar.ret (eU.aA _ _ _)|exact ar.ret (eU.put _ _ _)|exact ar.aw (by assumption)|refine ar.bif ?_|refine ar.need ?_|refine ar.look λ_=>?_|refine ar.node ?_ ?_|refine ar.bind λ_ _=>?_|split))
 case h_11=>(repeat' (first|exact ar.fail|exact ar.ret (eU.aA _ _ _)|exact ar.ret (eU.put _ _ _)|exact ar.aw (by assumption)|refine ar.bif ?_|refine ar.need ?_|refine ar.look λ_=>?_|refine ar.node ?_ ?_|refine ar.bind λ_ _=>?_|split))
 case h_12=>(repeat' (first|exact ar.fail|exact ar.ret (eU.aA _ _ _)|exact ar.ret (eU.put _ _ _)|exact ar.aw (by assumption)|refine ar.bif ?_|refine ar.need ?_|refine ar.look λ_=>?_|refine ar.node ?_ ?_|refine ar.bind λ_ _=>?_|split))
 case h_13 s t x h=>exact vP (z<|by simp[cls,h])
 case h_14=>(repeat' (first|exact ar.fail|exact ar.ret (eU.aA _ _ _)|exact ar.ret (eU.put _ _ _)|exact ar.aw (by assumption)|refine ar.bif ?_|refine ar.need ?_|refine ar.look λ_=>?_|refine ar.node ?_ ?_|refine ar.bind λ_ _=>?_|split))
 case h_15=>exact zo
 case h_16=>exact tz
 case h_17=>(repeat' (first|exact ar.fail|exact ar.ret (eU.aA _ _ _)|exact ar.ret (eU.put _ _ _)|exact ar.aw (by assumption)|refine ar.bif ?_|refine ar.need ?_|refine ar.look λ_=>?_|refine ar.node ?_ ?_|refine ar.bind λ_ _=>?_|split))
 case h_18=>split
            .cases bJ bf 5000000 with
             | true=>exact zp
             | false=>exact nG
            .exact ar.fail
 case h_19=>split
            .exact zq
            .exact ar.fail
 case h_20 t l c h =>
  split
  .exact ar.need (ar.need<|ar.aw<|z (by simp[cls,h]) _<|by assumption)
  .exact ar.fail
 case h_21=>(repeat' (first|exact ar.fail|exact ar.ret (eU.aA _ _ _)|exact ar.ret (eU.put _ _ _)|exact ar.aw (by assumption)|refine ar.bif ?_|refine ar.need ?_|refine ar.look λ_=>?_|refine ar.node ?_ ?_|refine ar.bind λ_ _=>?_|split))
 case h_22 c h =>
  unfold mM;split
  .rename_i b G;split
   ·(repeat' (first|exact ar.fail|exact ar.ret (eU.aA _ _ _)|exact ar.ret (eU.put _ _ _)|exact ar.aw (by assumption)|refine ar.bif ?_|refine ar.need ?_|refine ar.look λ_=>?_|refine ar.node ?_ ?_|refine ar.bind λ_ _=>?_|split))
   .have j:cls cx i o≠0:=by simp[cls,h,G]
    have D:cls cx i o≠1:=by simp[cls,h,G]
    split
    .exact λy q=>qt (z j) (F j D) q
    .exact λy q=>qt (z j) (F j D) q
    .exact ar.fail
   .exact absurd (by simp[cls,h,G]) I
   .exact absurd (by simp[cls,h,G]) I
   ·(repeat' (first|exact ar.fail|exact ar.ret (eU.aA _ _ _)|exact ar.ret (eU.put _ _ _)|exact ar.aw (by assumption)|refine ar.bif ?_|refine ar.need ?_|refine ar.look λ_=>?_|refine ar.node ?_ ?_|refine ar.bind λ_ _=>?_|split))
   ·(repeat' (first|exact ar.fail|exact ar.ret (eU.aA _ _ _)|exact ar.ret (eU.put _ _ _)|exact ar.aw (by assumption)|refine ar.bif ?_|refine ar.need ?_|refine ar.look λ_=>?_|refine ar.node ?_ ?_|refine ar.bind λ_ _=>?_|split))
   .exact ar.fail
  .rename_i f H;split
   .rename_i g Nz X;refine ar.bif ?_;have m:i=some (AU g):=by rw[<-V];simp[iC,h,H,X]
    generalize AU g=g' at m⊢;unfold mn;split
    .rename_i e L;have key:cls cx i o=2:=by simp[cls,h,H,m,fw L]
     have j:cls cx i o≠0:=by rw[key];simp
     have D:cls cx i o≠1:=by rw[key];simp
     exact λy q=>zm (z j) (F j D) q
    .rename_i e A r s L;have key:cls cx i o=2:=by simp[cls,h,H,m,fw L]
     have j:cls cx i o≠0:=by rw[key];simp
     have D:cls cx i o≠1:=by rw[key];simp
     exact λy q=>Dm (F j D) q
    .rename_i g' L;have key:cls cx i o=2:=by simp[cls,h,H,m,fw L]
     have j:cls cx i o≠0:=by rw[key];simp
     exact λy q=>zn (z j) q
    .rename_i T L;have Y:=fw L;exact absurd (by simp[cls,h,H,m,Y]) I
    rename_i S3 S4 S5 R;unfold nS;split
    .rename_i Cr v;split
     .split
      .exact ar.look λ_=>ar.ret (eU.aA _ _ _)
      .exact ar.fail
     .rename_i Z;have key:cls cx i o=2:=by
       unfold cls;simp only[h,H,m];split
       .rfl
       .rfl
       .rfl
       .rename_i T J;exact absurd (by simp[kR,J]) (R T)
       .simp[v,Z]
      have j:cls cx i o≠0:=by rw[key];simp
      have D:cls cx i o≠1:=by rw[key];simp
      split
      .rename_i O;exact ar.look λ_=>ar.ret ((qs O<|F j D).1.trans<|eU.aA _ _ _)
      .exact ar.fail
    .rename_i v;split
     .rename_i s E;unfold qV;split
      .exact absurd (by simp[cls,h,H,m,v,E]) I
      .exact absurd (by simp[cls,h,H,m,v,E]) I
      .split
       .exact ar.look λ_=>ar.ret (eU.aA _ _ _)
       .exact ar.fail
      .exact ar.fail
     .rename_i E;split
      .rename_i k S;have key:cls cx i o=2:=by simp[cls,h,H,m,v,E,L9 S]
       have j:cls cx i o≠0:=by rw[key];simp
       have D:cls cx i o≠1:=by rw[key];simp
       split
       .rename_i x u N M O;exact ar.bif (ar.look λy=>ar.ret ((Dq O<|F j D).trans<|eU.aA _ _ _))
       .exact λy q=>by cases q
      .exact λy q=>by cases q
   .exact ar.fail
  .rename_i r name H;have key:cls cx i o=2:=by simp[cls,h,H]
   have j:cls cx i o≠0:=by rw[key];simp
   have D:cls cx i o≠1:=by rw[key];simp
   unfold kT;split
   .split
    .rename_i O;exact ar.look λ_=>ar.ret ((qs O<|F j D).1.trans<|eU.aA _ _ _)
    .exact ar.fail
   .exact ar.fail
 case h_23 u x h =>
  have key:cls cx i o=2:=by simp[cls,h]
  have j:cls cx i o≠0:=by rw[key];simp
  have D:cls cx i o≠1:=by rw[key];simp
  unfold kS;split
  .split
   .split
    .rename_i O;exact ar.ret ((oH O<|F j D).1.trans<|eU.aA _ _ _)
    .exact ar.fail
   .exact ar.fail
  .exact ar.fail
 case h_24=>exact ar.fail
end
end Go.Ge
