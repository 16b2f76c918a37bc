/- A ghost interpreter of the model's code, and that it tells the truth: part 8. It says of a function of plain data what a call of it comes to. -/
import Derived.Test.YtbaijbjhkmoidaaGreatDoorGeG
set_option linter.unusedVariables false
set_option linter.unusedSimpArgs false
set_option linter.unusedSectionVars false
namespace Go.Ge
open RowKit
def Le(a c:St):Prop:=∀b e,a.mem b=some e->c.mem b=some e
structure Rel (aV br mH lG:St):Prop where
 s1:mH.slots=aV.slots
 s2:lG.slots=br.slots
 m:∀b,lG.mem b=match mH.mem b with|some x=>some x|none=>br.mem b
 nv:∀b,mH.mem b=none->aV.mem b=none
section
variable {aV br mH lG Np Oz:St}
theorem Rel.refl(h:Le aV br):Rel aV br aV br where
 s1:=rfl
 s2:=rfl
 m:=λb=>by
  cases a:aV.mem b with
  | none=>rfl
  | some x=>exact h b x a
 nv:=λ_ h=>h
theorem Rel.le(h:Rel aV br mH lG):Le mH lG:=λb c a=>by rw[h.m,a]
theorem Rel.trans(h:Rel aV br mH lG)(k:Rel mH lG Np Oz):Rel aV br Np Oz where
 s1:=k.s1.trans h.s1
 s2:=k.s2.trans h.s2
 m:=λb=>by
  rw[k.m b];cases a:Np.mem b with
  | some x=>rfl
  | none=>simp only;rw[h.m b,k.nv b a]
 nv:=λb a=>h.nv b (k.nv b a)
theorem Rel.bI(a:Le aV br){b:Nat}{bx:aS}:Rel aV br (aV.bI b bx) (br.bI b bx) where
 s1:=rfl
 s2:=rfl
 m:=λc=>by
  by_cases e:c=b
  .subst e;simp[St.bI]
  .rw[mQ,mQ,az _ e,az _ e];exact(Rel.refl a).m c
 nv:=λc f=>by
  by_cases e:c=b
  .subst e;simp[St.bI] at f
  .rw[mQ,az _ e] at f;exact f
theorem qZ{a b:St}(h:b.slots=a.slots)(x:Operand):bG b x=bG a x:=by
 cases x<;>simp[bG,h]
theorem ra(h:Le aV br){e:Ty}{v:ax}{l:List e.den}(a:ek e aV v=some l):ek e br v=some l:=by
 unfold ek at a⊢;cases v with
 | whole b au =>
   simp only at a⊢;cases c:aV.mem b with
   | none=>rw[c] at a;cases a
   | some f=>rw[c] at a;rw[h b f c];exact a
 | part b au lo n =>
   simp only at a⊢;cases c:aV.mem b with
   | none=>rw[c] at a;cases a
   | some f=>rw[c] at a;rw[h b f c];exact a
 | data u y=>cases u<;>exact a
 | _=>exact a
theorem wq(h:Le aV br):∀{t:Ty} {v:ax} {x:t.den},jv aV t v=some x->jv br t v=some x:=by
 intro t;induction t with
 | slice e l=>intro v x c;exact ra h c
 | pair a b f g =>
   intro v x c;cases v with
   | mix p q =>
     obtain⟨y,z,i,j,rfl⟩:=tc c;exact z8 (f i) (g j)
   | data u y=>exact c
   | _=>cases c
 | alt u a r f k =>
   intro v x c;cases v with
   | lA=>exact(jW c).2.1 _
   | _=>exact c
 | _=>intro v x c;cases v<;>exact c
theorem kq(h:Le aV br){b a:Nat}(c:live aV b a=true):live br b a=true:=by
 unfold live at c⊢;cases e:aV.mem b with
 | none=>rw[e] at c;cases c
 | some f=>rw[e] at c;rw[h b f e];exact c
theorem Kb(h:Le aV br){v:ax}{n:Int}(a:lenOf aV v=some n):lenOf br v=some n:=by
 unfold lenOf at a⊢;cases v with
 | whole b au =>
   simp only at a⊢;cases c:aV.mem b with
   | none=>rw[c] at a;cases a
   | some e=>rw[c] at a;rw[h b e c];exact a
 | part b au lo f =>
   simp only at a⊢;cases hv:live aV b au with
   | false=>rw[hv] at a;cases a
   | true=>rw[hv] at a;rw[kq h hv];exact a
 | data u y=>cases u<;>exact a
 | _=>exact a
theorem HH(h:Le aV br){e:Ty}{v:ax}{l:List e.den}(a:mL e aV v=some l):mL e br v=some l:=by
 unfold mL at a⊢;split at a
 .exact a
 .exact ra h a
theorem xN(h:Le aV br){b a:Nat}{r:Ty×Int}(c:o8 aV b a=some r):o8 br b a=some r:=by
 unfold o8 at c⊢;cases e:aV.mem b with
 | none=>rw[e] at c;cases c
 | some f=>rw[e] at c;rw[h b f e];exact c
theorem Ag(h:Le aV br){b:Nat}(a:freeze aV b=some mH):∃lG,freeze br b=some lG/\Rel aV br mH lG:=by
 unfold freeze at a⊢;cases f:aV.mem b with
 | none=>rw[f] at a;cases a
 | some g =>
   rw[f] at a;rw[h b g f];simp only at a⊢;cases c:g.ro with
   | true =>
     simp only[c,cd,j7] at a⊢;subst a;exact⟨_,rfl,Rel.refl h⟩
   | false =>
     cases e:g.lk with
     | true=>simp[c,e] at a
     | false =>
       simp only[c,e,fk,j7] at a⊢;subst a;exact⟨_,rfl,Rel.bI h⟩
theorem E2:∀{v:ax} {aV br mH:St},Le aV br->eA aV v=some mH->∃lG,eA br v=some lG/\Rel aV br mH lG:=by
 intro v;induction v with
 | mix p q c e =>
   intro aV br mH h a;obtain⟨Np,g,i⟩:=nC a;obtain⟨Oz,j,f⟩:=c h g;obtain⟨lG,k,l⟩:=e f.le i;exact⟨lG,by simp only[eA,j,k],f.trans l⟩
 | whole b au=>intro aV br mH h a;exact Ag h a
 | part b au lo n=>intro aV br mH h a;exact Ag h a
 | _=>intro aV br mH h a;obtain rfl:=aq a;exact⟨_,rfl,Rel.refl h⟩
theorem rb(h:Le aV br){t:Ty}{x:t.den}{v:ax}(a:om aV t v=some (x,mH)):∃lG,om br t v=some (x,lG)/\Rel aV br mH lG:=by
 unfold om at a⊢;cases v with
 | data u y =>
   simp only at a⊢;split at a
   .rename_i z g;obtain⟨rfl,rfl⟩:=b8 (aq a);exact⟨_,rfl,Rel.refl h⟩
   .cases a
 | _ =>
   simp only at a⊢;split at a
   .rename_i y Np b c;obtain⟨rfl,rfl⟩:=b8 (aq a);obtain⟨lG,e,f⟩:=E2 h c;rw[wq h b,e];exact⟨lG,rfl,f⟩
   .cases a
theorem sk:∀{A:Ty} {x:A.den} {b:List ax} {aV br mH:St},Le aV br->gE aV A b=some (x,mH)->∃lG,gE br A b=some (x,lG)/\Rel aV br mH lG:=by
 intro A;induction A with
 | pair t r g c =>
   intro x b aV br mH h a;cases b with
   | nil=>cases a
   | cons v b =>
     simp only[gE] at a⊢;split at a
     .rename_i p Np i;obtain⟨Oz,j,e⟩:=rb h i;split at a
      .rename_i q f k;obtain⟨rfl,rfl⟩:=b8 (aq a);obtain⟨lG,l,m⟩:=c e.le k;exact⟨lG,by simp only[j,l],e.trans m⟩
      .cases a
     .cases a
 | unit =>
   intro x b aV br mH h a;cases b with
   | nil=>obtain⟨rfl,rfl⟩:=b8 (aq a);exact⟨_,rfl,Rel.refl h⟩
   | cons v b=>cases a
 | _=>intro x b aV br mH h a;cases b<;>cases a
theorem zr{t:Ty}:∀{parts:List (Nat×Operand)} {x c:t.den} {aV br mH:St},Le aV br->(∀o∈parts.map (·.2),bG aV o=bG br o)->en aV t x parts=some (c,mH) ->
  ∃lG,en br t x parts=some (c,lG)/\Rel aV br mH lG:=by
 intro parts;induction parts with
 | nil=>intro x c aV br mH h f a;obtain⟨rfl,rfl⟩:=b8 (aq a);exact⟨_,rfl,Rel.refl h⟩
 | cons p r i =>
   obtain⟨k,o⟩:=p;intro x c aV br mH h f a;have j:bG aV o=bG br o:=f o (by simp);simp only[en] at a⊢;split at a
   .rename_i u v;split at a
    .rename_i y Np g;rw[j] at g;obtain⟨Oz,l,e⟩:=rb h g;split at a
     .rename_i z m;obtain⟨lG,n,q⟩:=i e.le (λs b=>by rw[qZ e.s1,qZ e.s2];exact f s (by simp at b⊢;exact .inr b)) a;exact⟨lG,by simp only[l,m,n],e.trans q⟩
     .cases a
    .cases a
   .cases a
theorem tA{e:Ty}:∀{parts:List (Nat×Operand)} {l g:List e.den} {aV br mH:St},Le aV br->(∀o∈parts.map (·.2),bG aV o=bG br o)->du aV e l parts=some (g,mH) ->
  ∃lG,du br e l parts=some (g,lG)/\Rel aV br mH lG:=by
 intro parts;induction parts with
 | nil=>intro x v aV br mH h i a;obtain⟨rfl,rfl⟩:=b8 (aq a);exact⟨_,rfl,Rel.refl h⟩
 | cons p r m =>
   obtain⟨k,o⟩:=p;intro l g aV br mH h i a;have n:bG aV o=bG br o:=i o (by simp);simp only[du] at a⊢;split at a
   .rename_i y Np j;rw[n] at j;obtain⟨Oz,q,f⟩:=rb h j;cases b:Nat.blt k l.length with
    | false=>rw[b] at a;cases a
    | true =>
      rw[b] at a;obtain⟨lG,s,t⟩:=m f.le (λu c=>by rw[qZ f.s1,qZ f.s2];exact i u (by simp at c⊢;exact .inr c)) a;exact⟨lG,by simp only[q,cd,s],f.trans t⟩
   .cases a
def lift(a:St)(d:Option Nat)(y:St):St :=
 { slots:=match d with|some d=>λt=>bif Nat.beq t d then y.slots d else a.slots t|none=>a.slots
   mem:=λb=>match y.mem b with|some x=>some x|none=>a.mem b }
theorem HI(R:Rel aV br mH lG)(d:Option Nat)(v:ax):lift br d (mH.aA d v)=lG.aA d v:=by
 have a:(λb=>match mH.mem b with|some x=>some x|none=>br.mem b)=lG.mem:=funext λb=>(R.m b).symm;cases d with
 | none=>simp only[lift,St.aA,a,<-R.s2]
 | some d =>
   simp only[lift,St.aA,St.put,a,<-R.s2]
   congr 1
   funext t;cases c:Nat.beq t d with
   | true=>simp
   | false=>simp
def LT(a:St)(d:Option Nat)(b c:Tree St):Prop:=∀y,b.run=some y->c.run=some (lift a d y)
variable {d:Option Nat}
theorem LT.fail{T:Tree St}:LT br d .fail T:=λy h=>by cases h
theorem LT.ret(R:Rel aV br mH lG){v:ax}:LT br d (.ret<|mH.aA d v) (.ret<|lG.aA d v):=λy h=>by
 obtain rfl:=aq h;rw[HI R];rfl
theorem LT.E3(R:Rel aV br mH lG){k:Nat}{v:ax}:LT br (some k) (.ret<|mH.put k v) (.ret<|lG.put k v):=LT.ret (d:=some k) R
theorem LT.store(R:Rel aV br mH lG):LT br none (.ret mH) (.ret lG):=LT.ret (d:=none) (v:=.undef) R
theorem LT.bif{c:Bool}{t u:Tree St}(h:LT br d t u):LT br d (bif c then t else .fail) (bif c then u else .fail):=by cases c<;>first|exact LT.fail|exact h
theorem LT.zt{c a:Bool}{t u:Tree St}(b:c=true->a=true)(h:LT br d t u):LT br d (bif c then t else .fail) (bif a then u else .fail):=by
 cases c with
 | false=>exact LT.fail
 | true=>rw[b rfl];exact h
theorem LT.need{c:Bool}{t u:Tree St}(h:LT br d t u):LT br d (.need c t) (.need c u):=λy a=>by
 obtain⟨rfl,b⟩:=bM a;exact h y b
theorem LT.look{T:Type}{o:Option T}{k a:T->Tree St}(h:∀x,LT br d (k x) (a x)):LT br d (.look o k) (.look o a):=λy b=>by
 obtain⟨x,rfl,c⟩:=bo b;exact h x y c
theorem LT.node{c:Bool}{t e a b:Tree St}(h:LT br d t a)(k:LT br d e b):LT br d (.node c t e) (.node c a b):=λy f=>by
 have:=eh f;cases c with
 | true=>exact h y this
 | false=>exact k y this
theorem LT.bind{α:Type}{t:Tree α}{f g:α->Tree St}(h:∀x,t.run=some x->LT br d (f x) (g x)):LT br d (t.bind f) (t.bind g):=λy b=>by
 obtain⟨x,a,c⟩:=bind_some b;rw[Tree.run_bind,a];exact h x a y c
theorem LT.aw(a:Le aV br){k:Nat}{b:Nat}(f:aV.mem b=br.mem b){c:ax}{tid:TypeId}{e:Bool}{v:Nat->ax} :
  LT br (some k) (aV.aw b c tid e λau σ=>.ret (σ.put k<|v au)) (br.aw b c tid e λau σ=>.ret (σ.put k<|v au)):=by
 unfold St.aw;rw[<-f];cases g:aV.mem b with
 | none=>exact LT.E3 (Rel.bI a)
 | some bx =>
   simp only;cases bx.lk with
   | true=>exact LT.fail
   | false=>exact LT.E3 (Rel.bI a)
theorem LT.mem(a:Le aV br){b:Nat}{f g:Option aS->Tree St}(e:f none=.fail)(h:∀bx,aV.mem b=some bx->LT br d (f<|some bx) (g<|some bx)):LT br d (f<|aV.mem b) (g<|br.mem b):=by
 cases c:aV.mem b with
 | none=>rw[e];exact LT.fail
 | some bx=>rw[a b bx c];exact h bx c
end
end Go.Ge
namespace Go.Ge
open RowKit
section
variable {aV br:St} {d:Option Nat} {cx:Ctx} {nb:Nat} {bf:List Nat} {inl:Nat->List ax->St->Tree (ax×St)}
theorem rN(a:Le aV br)(c:∀k,d=some k->aV.mem (nb+k)=br.mem (nb+k)){b:TypeId}{v:ax}:LT br d (fQ cx nb bf d b v aV) (fQ cx nb bf d b v br):=by
 have R:=Rel.refl a;unfold fQ;cases v with
 | undef=>exact LT.bif (LT.ret R)
 | jt =>
   simp only;split
   .rename_i k e _;cases bJ bf k with
    | true=>exact LT.aw a (c k rfl)
    | false=>exact LT.E3 R
   .exact LT.ret R
 | _=>exact LT.ret R
theorem Dr(e:Le aV br){c a b:ax}:LT br d (jw d c a b aV) (jw d c a b br):=by
 have R:=Rel.refl e;unfold jw;split
 .split
  .split
   .exact LT.ret R
   .exact LT.fail
  .exact LT.node (LT.ret R) (LT.ret R)
 .exact LT.fail
theorem Ds(c:Le aV br){e:TypeId}{a:ax}:LT br d (gO cx d e a aV) (gO cx d e a br):=by
 have R:=Rel.refl c;unfold gO;cases a with
 | cell u x=>exact LT.bif (LT.ret R)
 | ptr b au p =>
   ((try dsimp only);split<;>first|exact LT.fail|(rename_i f;rw[(c b) _ f];try dsimp only))
   exact LT.bif (LT.bind λx _=>LT.bif (LT.ret R))
 | _=>exact LT.fail
theorem xO{a e:St}(R:Rel aV br a e){b f:Nat}{p:List rW}{g:ax->Bool}{v:ax}:LT br none (storeAt b f p g v a) (storeAt b f p g v e):=by
 unfold storeAt
 ((try dsimp only);split<;>first|exact LT.fail|(rename_i h;rw[(R.le b) _ h];try dsimp only))
 exact LT.bif (LT.bind λx _=>LT.bif (LT.bind λc _=>LT.store (R.trans<|Rel.bI R.le)))
theorem LT.QE{c:Bool}{t u a b:Tree St}(h:LT br d t u)(e:LT br d a b):LT br d (bif c then t else a) (bif c then u else b):=by cases c<;>first|exact e|exact h
theorem E4{a e:St}(R:Rel aV br a e){b f:Nat}{p:List rW}{n:Nat}{v:ax}:LT br none (jE b f p n v a) (jE b f p n v e):=by
 unfold jE
 ((try dsimp only);split<;>first|exact LT.fail|(rename_i g;rw[(R.le b) _ g];try dsimp only))
 exact LT.bif (LT.bind λx _=>LT.bif (LT.bind λc _=>LT.bif (LT.store<|R.trans<|Rel.bI R.le)))
theorem BA(c:Le aV br){e:List Nat}{f:TypeId}{a v:ax}:LT br none (gZ cx e f a v aV) (gZ cx e f a v br):=by
 have R:=Rel.refl c;unfold gZ;cases a with
 | ptr b au p =>
   ((try dsimp only);split<;>first|exact LT.fail|(rename_i g;rw[(c b) _ g];try dsimp only))
   refine LT.bif (LT.bind λh _=>?_);split
   .refine LT.bif (LT.QE (E4 R) ?_);split
    .rename_i y mH i;obtain⟨lG,j,k⟩:=rb c i;rw[j];exact xO k
    .exact LT.fail
   .exact LT.bif (xO R)
 | _=>exact LT.fail
theorem HJ{n:Int}{a b:Option Operand}(c:∀x∈a.toList++b.toList,bG aV x=bG br x):bounds aV n a b=bounds br n a b:=by
 unfold bounds;cases a<;>cases b<;>simp only<;>simp at c<;>simp[c]
theorem BB(b:Le aV br){j:TypeId}{x:ax}{e f:Option Operand}(k:∀x∈e.toList++f.toList,bG aV x=bG br x):LT br d (hJ cx d j x e f aV) (hJ cx d j x e f br):=by
 have R:=Rel.refl b;have a:∀n,bounds aV n e f=bounds br n e f:=λn=>HJ k;unfold hJ;split
 .rename_i s _;rw[a]
  ((try dsimp only);split<;>first|exact LT.fail|skip)
  exact LT.need (LT.ret R)
 .rw[a];refine LT.bif ?_
  ((try dsimp only);split<;>first|exact LT.fail|skip)
  exact LT.need (LT.ret R)
 .rename_i u c g l n _
  ((try dsimp only);split<;>first|exact LT.fail|(rename_i i;rw[(b c) _ i];try dsimp only))
  refine LT.bif ?_;rw[a]
  ((try dsimp only);split<;>first|exact LT.fail|skip)
  exact LT.need (LT.ret R)
 .rename_i u c g _
  ((try dsimp only);split<;>first|exact LT.fail|(rename_i i;rw[(b c) _ i];try dsimp only))
  refine LT.bif ?_;split
  .refine LT.bif ?_;split
   .exact LT.ret R
   .rw[a]
    ((try dsimp only);split<;>first|exact LT.fail|skip)
    exact LT.need (LT.ret R)
  .exact LT.fail
 .rw[a];refine LT.zt (λh=>?_) ?_
  .simp only[cA] at h⊢;exact⟨kq b h.1,h.2⟩
  ·((try dsimp only);split<;>first|exact LT.fail|skip)
   exact LT.need (LT.ret R)
 .rename_i m u c g _
  ((try dsimp only);split<;>first|exact LT.fail|(rename_i i;rw[(b c) _ i];try dsimp only))
  refine LT.bif ?_;split
  .rw[a];refine LT.bif ?_
   ((try dsimp only);split<;>first|exact LT.fail|skip)
   exact LT.need (LT.ret R)
  .exact LT.fail
 .exact LT.fail
theorem Kc(c:Le aV br){b a:Nat}{i:Int}:∀{m k:Nat},LT br d (wP d b a aV i m k) (wP d b a br i m k):=by
 intro m;induction m with
 | zero=>intro k;exact LT.fail
 | succ m e=>intro k;exact LT.node (LT.ret<|Rel.refl c) e
theorem oI(a:Le aV br){e:TypeId}{x:ax}{i:Int}:LT br d (cR cx d e x i aV) (cR cx d e x i br):=by
 have R:=Rel.refl a;unfold cR;split
 .exact LT.bif (LT.look λ_=>LT.ret R)
 .exact LT.bif (LT.look λ_=>LT.ret R)
 ·((try dsimp only);split<;>first|exact LT.fail|(rename_i b;rw[((λr (c:_=some r)=>xN a c)) _ b];try dsimp only))
  exact LT.bif (LT.need<|LT.ret R)
 ·((try dsimp only);split<;>first|exact LT.fail|(rename_i b;rw[((λr (c:_=some r)=>xN a c)) _ b];try dsimp only))
  exact LT.bif (LT.need<|LT.ret R)
 .exact LT.zt (λh=>kq a h) (LT.need<|LT.ret R)
 .split
  .refine LT.zt (λh=>?_) (Kc a);simp only[cA] at h⊢;exact⟨h.1,kq a h.2⟩
  .exact LT.fail
 .exact LT.fail
theorem BC(a:Le aV br){b:TypeId}{x:ax}{i:Int}:LT br d (hM cx d b x i aV) (hM cx d b x i br):=by
 have R:=Rel.refl a;unfold hM;split
 .refine LT.zt (λh=>?_) ?_
  .simp only[cA] at h⊢;exact⟨h.1,kq a h.2⟩
  .split
   .exact LT.bif (LT.ret R)
   .exact LT.fail
 .exact oI a
theorem BD(a:Le aV br){b:TypeId}{x:ax}{i:Int}:LT br d (hU cx d b x i aV) (hU cx d b x i br):=by
 have R:=Rel.refl a;unfold hU;split
 .exact LT.look λ_=>LT.ret R
 .exact LT.bif (LT.look λ_=>LT.ret R)
 .exact LT.fail
theorem uI(a:Le aV br){s:TypeId}{x:ax}{k:Nat}:LT br d (di cx d s x k aV) (di cx d s x k br):=by
 have R:=Rel.refl a;unfold di;split
 .refine LT.bif ?_;split
  .exact LT.ret R
  .exact LT.fail
 .refine LT.zt (λh=>kq a h) ?_;split
  .split
   .exact LT.ret R
   .exact LT.fail
  .split
   .split
    .exact LT.ret R
    .exact LT.fail
   .exact LT.fail
 .exact LT.fail
theorem xP(a:Le aV br)(b:∀k,d=some k->aV.mem (nb+k)=br.mem (nb+k)){s t:TypeId}{x:ax}:LT br d (eI cx nb d s t x aV) (eI cx nb d s t x br):=by
 have R:=Rel.refl a;unfold eI;split
 .exact LT.ret R
 .exact LT.ret R
 .split
  .exact LT.need (LT.aw a<|b _ rfl)
  .exact LT.fail
 ·((try dsimp only);split<;>first|exact LT.fail|(rename_i c;rw[((λr (e:_=some r)=>ra a e)) _ c];try dsimp only))
  exact LT.ret R
 .exact LT.fail
theorem rO(a:Le aV br)(i:∀k,d=some k->aV.mem (nb+k)=br.mem (nb+k)){c:TypeId}{s x:ax}:LT br d (eS cx nb d c s x aV) (eS cx nb d c s x br):=by
 have R:=Rel.refl a;unfold eS;split
 .rename_i k e _
  ((try dsimp only);split<;>first|exact LT.fail|(rename_i f;rw[((λr (j:_=some r)=>HH a j)) _ f];try dsimp only))
  split
  .exact LT.need (LT.aw a<|i _ rfl)
  .rename_i b g;cases f:aV.mem b with
   | none=>exact LT.fail
   | some h =>
     rw[a b h f];cases m:ek e aV (.whole b g) with
     | none=>exact LT.fail
     | some l =>
       rw[ra a m];simp only;cases (h.lk||!NC cx c h.tid) with
       | true=>exact LT.fail
       | false=>exact LT.need (LT.E3<|Rel.bI a)
  .exact LT.fail
 .exact LT.fail
theorem Kd(i:Le aV br):∀{o:OT} {v:ax} {r},bE aV.mem o v=some r->bE br.mem o v=some r:=by
 intro o;induction o with
 | bW t=>intro v r h;exact h
 | buf e s =>
   intro v r h;cases v<;>first|(cases h;done)|skip
   rename_i b f;simp only[bE] at h⊢;cases c:aV.mem b with
   | none=>rw[c] at h;cases h
   | some a=>rw[c] at h;rw[i b a c];exact h
 | map =>
   intro v r h;cases v<;>first|(cases h;done)|skip
   rename_i b f;simp only[bE] at h⊢;cases c:aV.mem b with
   | none=>rw[c] at h;cases h
   | some a=>rw[c] at h;rw[i b a c];exact h
 | ref tid o l =>
   intro v r h;cases v<;>first|(cases h;done)|skip
   rename_i b f j;cases j with
   | cons _ _=>cases h
   | nil =>
     simp only[bE] at h⊢;cases c:aV.mem b with
     | none=>rw[c] at h;cases h
     | some a =>
       rw[c] at h;rw[i b a c];simp only at h⊢;cases g:(Nat.beq a.au f&&!a.buf&&!a.lk&&!a.ro&&Nat.beq a.tid tid) with
       | false=>rw[g] at h;cases h
       | true =>
         rw[g] at h;simp only[cd] at h⊢;cases k:bE aV.mem o a.val with
         | none=>rw[k] at h;cases h
         | some q=>rw[k] at h;rw[l k];exact h
 | rf tid o l =>
   intro v r h;cases v<;>first|(cases h;done)|skip
   rename_i b f j;cases j with
   | cons _ _=>cases h
   | nil =>
     simp only[bE] at h⊢;cases c:aV.mem b with
     | none=>rw[c] at h;cases h
     | some a =>
       rw[c] at h;rw[i b a c];simp only at h⊢;cases g:(Nat.beq a.au f&&!a.buf&&!a.lk&&!a.ro&&Nat.beq a.tid tid) with
       | false=>rw[g] at h;cases h
       | true =>
         rw[g] at h;simp only[cd] at h⊢;cases k:bE aV.mem o a.val with
         | none=>rw[k] at h;cases h
         | some q=>rw[k] at h;rw[l k];exact h
 | pair p q m n =>
   intro v r h;unfold bE at h;split at h
   case h_2=>cases h
   split at h
   case h_2=>cases h
   rename_i u w;cases h;exact oE (m u) (n w)
 | unit=>intro v r h;exact h
 | cB=>intro v r h;exact h
theorem E5(c:Le aV br):∀{ps:List Bool} {A:Ty} {U:OT} {a:List ax} {r},cV aV ps A U a=some r->cV br ps A U a=some r:=by
 intro ps;induction ps with
 | nil=>intro A U a r h;exact h
 | cons q ps e =>
   intro A U a r h;cases q with
   | false =>
     cases A<;>first|(cases h;done)|skip
     cases a with
     | nil=>cases h
     | cons v a =>
       simp only[cV] at h⊢;split at h
       .rename_i f b;rw[f,e b];exact h
       .cases h
   | true =>
     cases U<;>first|(cases h;done)|skip
     rename_i o U;cases o<;>first|(cases h;done)|skip
     case cB =>
      cases a with
      | nil=>cases h
      | cons v a =>
        cases v<;>first|(cases h;done)|skip
        simp only[cV] at h⊢;split at h
        .rename_i b;rw[e b];exact h
        .cases h
     cases a with
     | nil=>cases h
     | cons v a =>
       simp only[cV] at h⊢;split at h
       .rename_i f b;rw[Kd c f,e b];exact h
       .cases h
theorem Rel.gG(a:Le aV br){U:OT}{y:U.den}{N M:List (Nat×Nat)}:Rel aV br (Go.Ge.gG U y N M aV) (Go.Ge.gG U y N M br) where
 s1:=rfl
 s2:=rfl
 m:=λb=>by
  rw[eK,eK];cases dF U y N (M.map λp=>(p.1,p.2+1)) b with
  | some e=>rfl
  | none =>
    cases h:aV.mem b with
    | some x=>exact a b x h
    | none=>rfl
 nv:=λb h=>by
  rw[eK] at h;cases c:dF U y N (M.map λp=>(p.1,p.2+1)) b with
  | some e=>rw[c] at h;cases h
  | none=>rw[c] at h;exact h
theorem Ke(f:Le aV br):∀{ps:List Bool} {A:Ty} {g:List ax} {x:A.den},rE aV ps A g=some x->rE br ps A g=some x:=by
 intro ps;induction ps with
 | nil=>intro A g x h;cases A<;>cases g<;>first|(cases h;done)|exact h
 | cons p ps l =>
   intro A g x i;cases A<;>cases g<;>first|(cases i;done)|skip
   rename_i t r v g;simp only[rE] at i⊢;split at i
   .rename_i a b e m;rw[l m];cases p with
    | false =>
      rw[show(bif false then p8 br t v else jv br t v)=some a from wq f e];exact i
    | true =>
      have key:p8 br t v=some a:=by
       have e:p8 aV t v=some a:=e;unfold p8 at e⊢;split at e
       .split at e
        case h_2=>cases e
        rename_i n j;rw[f _ _ j];dsimp only at e⊢;have zt:∀{c:Bool} {p q:Option t.den},(∀y,p=some y->q=some y)->(bif c then p else none)=some a->(bif c then q else none)=some a:=λ{c _ _} h k=>by cases c with
         | false=>cases k
         | true=>exact h _ k
        exact zt (λy h=>wq f h) e
       .exact e
       .cases e
      rw[show(bif true then p8 br t v else jv br t v)=some a from key];exact i
   .cases i
theorem HK(b:Le aV br){f:Nat}{a:List ax}(c:(find cx.Cr f≠none\/find cx.yT f=none)\/∃h A R s,find cx.yT f=some (.look h A R s)):LT br d (nS cx qc d f a aV) (nS cx inl d f a br):=by
 have R:=Rel.refl b;unfold nS;split
 .split
  .have key:∀{A:Ty} {e:List ax} {x:A.den},ef aV A e=some x->ef br A e=some x:=by
    intro A;induction A with
    | pair t r o i =>
      intro e x g;cases e with
      | nil=>cases g
      | cons v e =>
        simp only[ef] at g⊢;split at g
        .rename_i p q u j;rw[wq b u,i j];exact g
        .cases g
    | unit=>intro e x g;cases e<;>exact g
    | _=>intro e x g;cases e<;>cases g
   ((try dsimp only);split<;>first|exact LT.fail|(rename_i j;rw[((λr (l:_=some r)=>key l)) _ j];try dsimp only))
   exact LT.look λ_=>LT.ret R
  .split
   .rename_i x mH w;obtain⟨lG,z,C⟩:=sk b w;rw[z];exact LT.look λ_=>LT.ret C
   .exact LT.fail
 .rename_i D;rcases c with c|⟨h,A,n,s,c⟩
  case inr =>
   rw[c];show LT br d (match rE aV h A a with|some x=>.look (s x) λy=>.ret (aV.aA d<|kb n y)|none=>.fail) (match rE br h A a with|some x=>.look (s x) λy=>.ret (br.aA d<|kb n y)|none=>.fail)
   cases hx:rE aV h A a with
   | none=>exact LT.fail
   | some x =>
     simp only;rw[Ke b hx];exact LT.look λ_=>LT.ret R
  rw[c.resolve_left λq=>q D];split
  .rename_i E;cases E
  .split
   .rename_i k F;cases l:cV aV k.ps k.A k.U a with
    | none=>exact λy m=>by cases m
    | some r =>
      rw[E5 b l];exact LT.bif (LT.look λy=>LT.ret (Rel.gG b))
   .exact λy m=>by cases m
theorem LT.GF{a c:St}(R:Rel aV br a c){k:Nat}{b:Nat}(j:aV.mem b=br.mem b){f:ax}{g:TypeId}{i:Bool}{v:Nat->ax} :
  LT br (some k) (a.aw b f g i λe σ=>.ret (σ.put k<|v e)) (c.aw b f g i λe σ=>.ret (σ.put k<|v e)):=by
 have l:a.mem b=c.mem b:=by
  rw[R.m b];cases h:a.mem b with
  | some x=>rfl
  | none=>simp only;rw[<-j,R.nv b h]
 unfold St.aw;rw[<-l];cases a.mem b with
 | none=>exact LT.E3 (R.trans<|Rel.bI R.le)
 | some n =>
   simp only;cases n.lk with
   | true=>exact LT.fail
   | false=>exact LT.E3 (R.trans<|Rel.bI R.le)
theorem BE(b:Le aV br)(c:∀k,d=some k->aV.mem (nb+k)=br.mem (nb+k)){e:Ty}{a:List ax}:LT br d (hW nb e d a aV) (hW nb e d a br):=by
 unfold hW;split
 .split
  .rename_i l mH f;obtain⟨lG,g,h⟩:=rb b f;rw[g];exact LT.bif (LT.need<|LT.GF h<|c _ rfl)
  .exact LT.fail
 .exact LT.fail
theorem BF(b:Le aV br)(e:∀k,d=some k->aV.mem (nb+k)=br.mem (nb+k)){g:Nat}{a:List ax}:LT br d (hY nb g d a aV) (hY nb g d a br):=by
 unfold hY;split
 .exact LT.fail
 .exact LT.fail
 .exact LT.bif (LT.aw b (e _ rfl) (v:=λc=>.fn g [(_,c)]))
 .exact LT.fail
theorem HL{c g:St}(h:Le c g){e:Ty}{v:ax}{r:Nat×Nat×aS×List e.den}(a:pa e c v=some r):pa e g v=some r:=by
 cases v with
 | part b au lo n =>
   simp only[pa] at a⊢;cases f:c.mem b with
   | none=>rw[f] at a;cases a
   | some i=>rw[f] at a;rw[h b i f];exact a
 | whole b au =>
   simp only[pa] at a⊢;cases f:c.mem b with
   | none=>rw[f] at a;cases a
   | some i=>rw[f] at a;rw[h b i f];exact a
 | _=>cases a
theorem E6(h:Le aV br){e A:Ty}{f:Bool}{a:List e.den->A.den->Option (List e.den)}{c:List ax}:LT br d (ld e A f a d c aV) (ld e A f a d c br):=by
 unfold ld;split
 .split
  .rename_i x mH j;obtain⟨lG,m,g⟩:=sk h j;rw[m];simp only;split
   .rename_i b n o l i;rw[HL g.le i];simp only;refine LT.look λp=>?_;cases f with
    | true =>
      cases d with
      | none=>exact LT.fail
      | some k=>exact LT.E3 (g.trans<|Rel.bI g.le)
    | false=>cases d<;>exact LT.bif (LT.ret<|g.trans<|Rel.bI g.le)
   .exact LT.fail
  .exact LT.fail
 .exact LT.fail
theorem E7(a:Le aV br)(n:∀k,d=some k->aV.mem (nb+k)=br.mem (nb+k)){f:Nat}{b:List ax}(j:kR cx bf d f=none->((find cx.Cr f≠none\/find cx.yT f=none)\/∃o A R s,find cx.yT f=some (.look o A R s))\/(find cx.Cr f=none/\∃e,find cx.yT f=some (.clone e)))(c:∀s,kR cx bf d f=some s->(∃e,s=.clone e)\/(∃e A r q,s=.own e A r q)\/∃g,s=.p7 g) :
  LT br d (mn cx nb bf qc d f b aV) (mn cx nb bf inl d f b br):=by
 unfold mn;split
 .exact BE a n
 .exact E6 a
 .exact BF a n
 .rename_i T l;rcases c _ l with ⟨e,h⟩|⟨e,A,r,q,h⟩|⟨g,h⟩<;>cases h
 .rename_i p t u w;have v:kR cx bf d f=none:=by
   cases i:kR cx bf d f with
   | none=>rfl
   | some s =>
     rcases c s i with ⟨e,rfl⟩|⟨e,A,r,q,rfl⟩|⟨g,rfl⟩
     .exact absurd i (p e)
     .exact absurd i (t e A r q)
     .exact absurd i (u g)
  rcases j v with m|⟨m,e,l⟩
  .exact HK a m
  .unfold nS;rw[m,l];exact LT.fail
theorem Dt{s:IW}{f:Nat}(h:kR cx bf d f=some s):(∃e,s=.clone e)\/(∃e A r q,s=.own e A r q)\/(∃g,s=.p7 g)\/∃T,s=.Ni T:=by
 unfold kR at h;split at h
 .rename_i e a;split at h
  .obtain rfl:=aq h;exact .inl ⟨e,rfl⟩
  .cases h
 .obtain rfl:=aq h;exact .inr (.inl ⟨_,_,_,_,rfl⟩)
 .obtain rfl:=aq h;exact .inr (.inr<|.inl ⟨_,rfl⟩)
 .obtain rfl:=aq h;exact .inr (.inr<|.inr ⟨_,rfl⟩)
 .cases h
theorem HM:∀{ps:List (Nat×Operand)} {k:Nat},(∀x∈ps.map (·.2),bG aV x=bG br x)->qb aV k ps=qb br k ps:=by
 intro ps;induction ps with
 | nil=>intro k _;rfl
 | cons p r b =>
   obtain⟨j,x⟩:=p;intro k h;simp only[qb];rw[h x<|by simp,b (k:=k+1) λy a=>h y (by simp at a⊢;exact .inr a)]
theorem Du{a:List jl}:∀{ps:List (Nat×Operand)} {v:ax},(∀x∈ps.map (·.2),bG aV x=bG br x)->gP aV a v ps=gP br a v ps:=by
 intro ps;induction ps with
 | nil=>intro v _;rfl
 | cons p r c =>
   obtain⟨k,x⟩:=p;intro v h;simp only[gP];rw[h x<|by simp];have e:∀u,gP aV a u r=gP br a u r:=λu=>c (v:=u) λy b=>h y (by simp at b⊢;exact .inr b);simp only[e]
theorem HN(w:Le aV br){o:Oper}{ge:Option Nat}(V:iC o br=ge)(I:cls cx ge o≠3)(j:∀x∈dm o.op,bG aV x=bG br x)(F:∀k,o.dst=some k->aV.mem (nb+k)=br.mem (nb+k)) :
  LT br o.dst (kd cx nb bf qc o aV) (kd cx nb bf inl o br):=by
 have R:=Rel.refl w;unfold kd;cases C:o.op with
 | move x=>simp only[C,dm] at j⊢;rw[j x<|by simp];exact rN w F
 | assign x=>simp only[C,dm] at j⊢;rw[j x<|by simp];exact rN w F
 | pick c a b=>simp only[C,dm] at j⊢;rw[j c<|by simp,j a (by simp),j b (by simp)];exact Dr w
 | alloc e =>
   simp only;split
   .rename_i k t D hT;rw[D];unfold mC;split
    .exact absurd (by simp[cls,C,hT]) I
    .exact LT.aw w (F k D)
   .rename_i k D hT;rw[D];split
    .rename_i W;exact absurd (by simp[cls,C,hT,W]) I
    .exact LT.bif (LT.aw w<|F k D)
   .exact LT.fail
 | box e x =>
   simp only[C,dm] at j⊢;rw[j x<|by simp];cases D:o.dst with
   | none=>exact LT.fail
   | some k =>
     have W:find cx.nk e=none:=by
      cases W:find cx.nk e with
      | none=>rfl
      | some fs=>exact absurd (by simp[cls,C,W]) I
     cases bG br x<;>simp only[sQ,W]<;>first|exact LT.fail|exact LT.aw w (F k D)
 | build t ps =>
   simp only[C,dm] at j⊢;split
   .split
    .rename_i d0 k0 hz;obtain⟨D,_⟩:=qk hz;unfold mK;rw[D];split
     .exact LT.bif (LT.aw w<|F d0 D)
     .exact LT.fail
    split
    .rename_i K;obtain⟨lG,L,J⟩:=zr w j K;rw[L];exact LT.ret J
    .exact LT.fail
   .split
    .rename_i K;obtain⟨lG,L,J⟩:=tA w j K;rw[L];exact LT.ret J
    .exact LT.fail
   .split
    .split
     .rw[Du j];split
      .exact LT.ret R
      .exact LT.ret R
      .exact LT.fail
     .exact LT.fail
    .exact LT.fail
   .exact LT.fail
 | buildSlice t n ps =>
   simp only[C,dm] at j⊢;split
   .split
    .rename_i k X QF;have D:=(si X).1;rw[D];exact LT.aw w (F k D)
    .refine LT.bif ?_;split
     .rename_i K;obtain⟨lG,L,J⟩:=tA w j K;rw[L];split
      .rename_i k D;dsimp only;rw[nF D];exact LT.GF J (F k<|nF D)
      .exact LT.ret J
     .exact LT.fail
   .unfold qW;rw[HM j];split
    .rename_i k e v D _ _;rw[D];exact LT.bif (LT.aw w<|F _ D)
    .exact LT.fail
   .exact LT.fail
 | load t a=>simp only[C,dm] at j⊢;rw[j a<|by simp];exact Ds w
 | store t a x =>
   simp only[C,dm] at j⊢;rw[j a<|by simp,j x (by simp)];cases M:o7 x with
   | true=>exact absurd (by simp[cls,C,M]) I
   | false =>
   cases D:o.dst with
   | none =>
     rw[Bool.and_false];exact BA w
   | some k=>exact LT.fail
 | nilCheck x =>
   simp only[C,dm] at j⊢;rw[j x<|by simp];cases bG br x with
   | ptr b au p=>exact LT.zt (λh=>kq w h) (LT.ret R)
   | cell t x=>exact LT.ret R
   | fn f c=>exact LT.ret R
   | _=>exact LT.fail
 | binOp op xt x y yt =>
   simp only[C,dm] at j⊢;rw[j x<|by simp,j y (by simp)];intro z hz;obtain⟨v,Y,h2⟩:=bind_some hz;have F:(JD br (find cx.T xt) (bJ cx.iy xt) op (bG br x)<|bG br y).run=some v:=by
    unfold JD at Y⊢;split at Y
    .obtain⟨G,I⟩:=ak Y;simp only[cA] at G;rw[kq w G.1,G.2];exact I
    .obtain⟨G,I⟩:=ak Y;simp only[cA] at G;rw[kq w G.1,G.2];exact I
    .exact Y
   rw[Tree.run_bind,F];exact LT.ret R z h2
 | unOp op t x=>simp only[C,dm] at j⊢;rw[j x<|by simp];exact LT.bind λ_ _=>LT.ret R
 | convert s t x=>simp only[C,dm] at j⊢;rw[j x<|by simp];exact xP w F
 | makeFunc fn first E =>
   simp only[C,dm] at j⊢;cases fn with
   | func f =>
     simp only;have:E.toList.map (bG aV)=E.toList.map (bG br):=Cv λx Z=>j x (pR _ Z);rw[this];split
     .exact LT.bif (LT.ret R)
     .rename_i x Z _;rw[j x<|iw _<|by rw[Z];exact gD.2 rfl];split
      .exact LT.bif (LT.ret R)
      .exact LT.fail
     .exact LT.fail
   | _=>exact LT.fail
 | slice t x lo hi m =>
   simp only[C,dm] at j⊢;cases m with
   | some m=>exact LT.fail
   | none =>
     simp only;rw[j x<|by simp];exact BB w λy hy=>j y (kJ _ hy)
 | fieldAddr s x k=>simp only[C,dm] at j⊢;rw[j x<|by simp];exact uI w
 | field xt x k =>
   simp only[C,dm] at j⊢;rw[j x<|by simp];split
   .refine LT.bif ?_;split
    .exact LT.ret R
    .exact LT.fail
   .exact LT.fail
 | indexAddr t x i =>
   simp only[C,dm] at j⊢;rw[j x<|by simp,j i (by simp)];split
   .cases bJ bf 5000000 with
    | true=>exact BC w
    | false=>exact oI w
   .exact LT.fail
 | index t x i =>
   simp only[C,dm] at j⊢;rw[j x<|by simp,j i (by simp)];split
   .exact BD w
   .exact LT.fail
 | makeSlice t l c =>
   simp only[C,dm] at j⊢;rw[j l<|by simp,j c (by simp)];cases D:o.dst with
   | none=>exact LT.fail
   | some k =>
     split
     .rename_i k' _ _ _ _ _ QB _ _ _;obtain rfl:=aq QB;exact LT.need (LT.need<|LT.aw w<|F k D)
     .exact LT.fail
 | extract t k =>
   simp only[C,dm] at j⊢;rw[j t<|by simp];split
   ·((try dsimp only);split<;>first|exact LT.fail|skip)
    exact LT.ret R
   .exact LT.fail
 | call c =>
   simp only[C,dm] at j⊢;have O:c.args.toList.map (bG aV)=c.args.toList.map (bG br):=Cv λx Z=>j x (pR _ Z);unfold mM;rw[O];cases G:c.callee with
   | builtin b =>
     simp only;split
     .rename_i x t _ _;cases Gv (find cx.T t) x with
      | true =>
        simp only[cd]
        ((try dsimp only);split<;>first|exact LT.fail|(rename_i M;rw[((λr (hr:_=some r)=>Kb w hr)) _ M];try dsimp only))
        exact LT.ret R
      | false =>
        simp only[fk];split
        .refine LT.zt (λh=>?_) (LT.ret R);simp only[cA] at h⊢;exact⟨kq w h.1,h.2⟩
        .exact LT.fail
     .split
      .exact rO w F
      .exact rO w F
      .exact LT.fail
     .exact absurd (by simp[cls,C,G]) I
     .exact absurd (by simp[cls,C,G]) I
     .exact LT.bind λ_ _=>LT.ret R
     .exact LT.bind λ_ _=>LT.ret R
     .exact LT.fail
   | value f =>
     simp only;rw[j f<|by rw[G];simp];split
     .rename_i g E j;have S:(E.all λb=>live aV b.1 b.2)=true->(E.all λb=>live br b.1 b.2)=true:=λh=>by
       rw[tZ] at h⊢;exact λb hm=>kq w (h b hm)
      have U:ge=some (AU g):=by rw[<-V];simp[iC,C,G,j]
      refine LT.zt S (E7 w F (λM=>?_) λs hs=>by
       rcases Dt hs with h|h|h|⟨T,rfl⟩
       .exact .inl h
       .exact .inr (.inl h)
       .exact .inr (.inr h)
       .exact absurd (by simp[cls,C,G,U,fw hs]) I)
      have U:ge=some (AU g):=by rw[<-V];simp[iC,C,G,j]
      cases Di:find cx.Cr (AU g) with
      | some c=>exact .inl (.inl<|.inl<|by simp)
      | none =>
        cases H:find cx.yT (AU g) with
        | none=>exact .inl (.inl<|.inr rfl)
        | some s =>
          by_cases IX:∃ps A R q,s=.look ps A R q
          .obtain⟨ps,A,R,q,rfl⟩:=IX;exact .inl (.inr ⟨ps,A,R,q,rfl⟩)
          refine .inr ⟨rfl,?_⟩;cases s with
          | look ps A R q=>exact absurd ⟨ps,A,R,q,rfl⟩ IX
          | clone e=>exact⟨e,rfl⟩
          | own e A r q=>simp[kR,H] at M
          | p7 g=>simp[kR,H] at M
          | Ni T=>simp[kR,H] at M
          | _=>exact absurd (by simp[cls,C,G,U,Di,H]) I
     .exact LT.fail
   | invoke r m =>
     simp only;rw[j r<|by rw[G];simp];unfold kT;split
     .split
      .rename_i K;obtain⟨lG,L,J⟩:=sk w K;rw[L];exact LT.look λ_=>LT.ret J
      .exact LT.fail
     .exact LT.fail
 | makeInterface u x =>
   simp only[C,dm] at j⊢;rw[j x<|by simp];unfold kS;split
   .split
    .split
     .rename_i K;obtain⟨lG,L,J⟩:=rb w K;rw[L];exact LT.ret J
     .exact LT.fail
    .exact LT.fail
   .exact LT.fail
 | _=>exact LT.fail
end
end Go.Ge
namespace Go.Ge
open RowKit
theorem jz{l:List Nat}{t:Nat}:bJ l t=true↔t∈l:=by
 induction l with
 | nil=>simp[bJ]
 | cons i r a =>
   simp only[bJ,wG,eR,a];constructor
   .rintro(h|h)
    .exact .inl (cG h)
    .exact .inr h
   .rintro(h|h)
    .subst h;exact .inl (by simp)
    .exact .inr h
theorem fS{l:List Nat}{t:Nat}:bJ l t=false↔t∉l:=by
 rw[<-jz];simp
theorem E8{l:List Operand}{t:Nat}(h:Operand.tmp t∈l):t∈tmpsOf l:=by
 induction l with
 | nil=>cases h
 | cons x r b =>
   rcases eR.1 h with a|a
   .subst a;exact kQ ..
   .clear h;have h:=a;cases x<;>simp only[tmpsOf]
    case tmp k=>exact kJ _ (b h)
    all_goals exact b h
section
variable {cx:Ctx} {nb:Nat} {bf:List Nat} {inl:Nat->List ax->St->Tree (ax×St)} {σ aB τ:St}
structure Dv (cx:Ctx) (nb:Nat) (o:Oper) (fp:Fp):Prop where
 own:∀k,o.dst=some k->nb+k∈fp.rd
 sub:∀b∈fp.wr,b∈fp.rd
 w1:cls cx fp.fn o≠0->∀k,o.dst=some k->nb+k∈fp.wr
 w2:cls cx fp.fn o≠0->cls cx fp.fn o≠1->∀b∈fp.rd,b∈fp.wr
 c3:cls cx fp.fn o≠3
theorem wu(o:Oper)(i:St)(h:(ou cx nb o i).we=false):Dv cx nb o (ou cx nb o i):=by
 have a:∀k,o.dst=some k->nb+k∈Go.Ge.own nb o:=λk c=>by simp[Go.Ge.own,c]
 unfold ou at h⊢;dsimp only at h⊢;split at h<;>rename_i f
 .exact⟨λk c=>iw _ (a k c),λb e=>(nomatch e),λg=>absurd f g,λg=>absurd f g,by rw[f];decide⟩
 .exact⟨λk c=>iw _ (a k c),λb e=>iw _ e,λ_ k c=>a k c,λ_ j=>absurd f j,by rw[f];decide⟩
 .exact⟨λk c=>iw _ (a k c),λb e=>e,λ_ k c=>iw _ (a k c),λ_ _ b e=>e,by rw[f];decide⟩
 .cases h
theorem Ma{ts c:List Nat}:Le { (σ.only ts c) with slots:=σ.slots } σ:=λb f a=>by
 simp only[St.only] at a;cases e:bJ c b with
 | true=>rw[e] at a;exact a
 | false=>rw[e] at a;cases a
theorem Dw{ts a:List Nat}:Le (σ.only ts a) σ:=λb c e=>Ma (ts:=ts) b c e
theorem Dx{l:List Operand}{a:List Nat}{x:Operand}(b:x∈l):bG (σ.only (tmpsOf l) a) x=bG σ x:=by
 cases x with
 | tmp t =>
   have:=jz.2 (E8 b);simp only[bG,St.only,this,cd]
 | _=>rfl
theorem Mb{a b:Option Nat}(h:OD a b=true):a=b:=by
 cases a<;>cases b<;>first|rfl|cases h|exact congrArg some (cG h)
theorem zu(o:Oper)(a:List Nat):iC o (σ.only (tmpsOf<|dm o.op) a)=iC o σ:=by
 unfold iC;split
 .rename_i c b;split
  .rename_i x e;rw[Dx<|by rw[b];simp[dm,e]]
  .rfl
 .rfl
theorem re{a:Fp}{o:Oper}(f:a.we=false->Dv cx nb o a)(g:(fc cx nb bf inl a o σ).run=some aB):(kd cx nb bf inl o σ).run=some aB:=by
 unfold fc at g;cases c:a.we with
 | true=>rw[c] at g;exact g
 | false =>
   have f:=f c;rw[c] at g;simp only[fk] at g;obtain⟨τ,i,w⟩:=bind_some g;obtain rfl:=aq w;obtain⟨e,i⟩:=ak i;have e:=Mb e;have j:iC o σ=a.fn:=by rw[<-e];exact(zu ..).symm
   have y:=HN (cx:=cx) (nb:=nb) (bf:=bf) (inl:=inl) (aV:=σ.only (tmpsOf<|dm o.op) a.rd) (br:=σ) Dw (o:=o) j f.c3 (λx z=>Dx z)
    (λk q=>by simp only[St.only,jz.2 (f.own k q),cd]) τ i
   rw[y];have u:=E1 (cx:=cx) (nb:=nb) (bf:=bf) (σ:=σ.only (tmpsOf<|dm o.op) a.rd) (o:=o) (p:=λb=>b∈a.wr) e f.c3 (λr k q=>f.w1 r k q) (λr i b s=>by
    refine f.w2 r i b ?_;simp only[St.only] at s;cases l:bJ a.rd b with
    | true=>exact jz.1 l
    | false=>rw[l] at s;exact absurd rfl s) τ i
   have l:(λb=>match τ.mem b with|some x=>some x|none=>σ.mem b)=λb=>bif bJ a.wr b then τ.mem b else σ.mem b:=by
    funext b;have t:b∈a.rd->(σ.only (tmpsOf<|dm o.op) a.rd).mem b=σ.mem b:=λh=>by simp only[St.only,jz.2 h,cd]
    cases v:bJ a.wr b with
    | true =>
      simp only[cd];cases n:τ.mem b with
      | some x=>rfl
      | none =>
        simp only;rw[<-t (f.sub b<|jz.1 v)];rcases u b with k|k
        .rw[<-k,n]
        .exact absurd n k.1
    | false =>
      simp only[fk];rcases u b with k|k
      .rw[k];cases n:(σ.only (tmpsOf<|dm o.op) a.rd).mem b with
       | none=>rfl
       | some x=>simp only;exact(Dw b x n).symm
      .exact absurd k.2 (fS.1 v)
   unfold lift lay;exact congrArg (λm=>some (St.mk _ m)) l
theorem rh{a b:List Nat}(h:Hp a b=true){x:Nat}(c:x∈a):x∉b:=by
 simp only[Hp,tZ,fO] at h;exact fS.1 (h x c)
theorem apart_spec{x y:Oper}{f g:Fp}(h:apart x y f g=true):f.we=false/\g.we=false/\(∀b∈f.wr,b∉g.rd)/\(∀b∈g.wr,b∉f.rd) /\
  (∀d,x.dst=some d->d∉tmpsOf (dm y.op))/\(∀d,y.dst=some d->d∉tmpsOf (dm x.op))/\(∀d e,x.dst=some d->y.dst=some e->d≠e):=by
 simp only[apart,cA,fO] at h;obtain⟨⟨⟨⟨⟨k,l⟩,m⟩,n⟩,a⟩,i⟩:=h;refine⟨k,l,λb j=>rh m j,λb j=>rh n j,λd c=>?_,λd c=>?_,λd e c o=>?_⟩
 .rw[c] at a;simp only[cA,fO] at a;exact fS.1 a.1
 .rw[c] at i;simp only[fO] at i;exact fS.1 i
 .rw[c,o] at a;simp only[cA,fO] at a;intro q;subst q;simp at a
theorem tB{d:Option Nat}{f a c:List Nat}(h:∀k,d=some k->k∉a)(i:∀b∈f,b∉c):(lay σ d f τ).only a c=σ.only a c:=by
 unfold St.only lay
 congr 1
 .funext t;cases g:bJ a t with
  | false=>rfl
  | true =>
    simp only[cd];cases d with
    | none=>rfl
    | some k =>
      have:t≠k:=λe=>h k rfl (by rw[<-e];exact jz.1 g);simp[fm this]
 .funext b;cases g:bJ c b with
  | false=>rfl
  | true =>
    have:b∉f:=λj=>i b j (jz.1 g);simp[fS.2 this]
theorem Kf{j f:Oper}{c g:Fp}{h i:St}(n:apart j f c g=true)(o:∀b∈c.wr,b∈c.rd)(l:(fc cx nb bf inl c j σ).run=some h)(m:(fc cx nb bf inl g f h).run=some i) :
  ∃a,(fc cx nb bf inl g f σ).run=some a/\(fc cx nb bf inl c j a).run=some i:=by
 obtain⟨u,v,z,w,A,C,D⟩:=apart_spec n;unfold fc at l m⊢;rw[u] at l;rw[v] at m;simp only[u,v,fk] at l m⊢;obtain⟨E,F,G⟩:=bind_some l;obtain rfl:=aq G;obtain⟨p,x,H⟩:=bind_some m;obtain rfl:=aq H;rw[tB A z] at x;refine⟨lay σ f.dst g.wr p,by rw[Tree.run_bind,x];rfl,?_⟩;rw[tB C w,Tree.run_bind,F];show some _=some _
 congr 1
 unfold lay
 congr 1
 .cases I:j.dst with
  | none=>rfl
  | some k =>
    cases J:f.dst with
    | none=>rfl
    | some e =>
      have q:=D k e I J;funext t;dsimp only;by_cases r:t=k
      .subst r;simp[fm q]
      .by_cases y:t=e
       .subst y;simp[fm r]
       .simp[fm r,fm y]
 .funext b;dsimp only;cases s:bJ c.wr b with
  | false=>rfl
  | true =>
    have:b∉g.wr:=λK=>w b K (o b<|jz.1 s);simp[fS.2 this]
inductive Reach (ops:Array Oper):Nat->Nat->Prop where
 | step {i:Nat} {o:Oper} {e:Edge} (h:ops[i]?=some o) (he:e∈o.after) (hb:Region.binds .any e=true):Reach ops i e.on
 | more {i k:Nat} {o:Oper} {e:Edge} (h:ops[i]?=some o) (he:e∈o.after) (hb:Region.binds .any e=true) (r:Reach ops e.on k):Reach ops i k
def BG(b:Array Oper)(a:Array Bool):Prop:=∀i o e,a.getD i false=true->b[i]?=some o->e∈o.after->Region.binds .any e=true->a.getD e.on false=true
theorem Reach.listed{b:Array Oper}{a:Array Bool}(g:BG b a){i k:Nat}(h:Reach b i k):a.getD i false=true->a.getD k false=true:=by
 induction h with
 | step h c e=>exact λf=>g _ _ _ f h c e
 | more h c e r j=>exact λf=>j (g _ _ _ f h c e)
theorem Reach.ready{c:Array Oper}{a:Array Bool}(j:BG c a){i k:Nat}(h:Reach c i k)(l:i∈Region.ready .any c a):a.getD k false=true:=by
 obtain⟨_,o,g,b⟩:=mem_ready.1 l;cases h with
 | step h e f =>
   obtain rfl:=aq (g.symm.trans h);exact b _ e f
 | more h e f r =>
   obtain rfl:=aq (g.symm.trans h);exact r.listed j (b _ e f)
theorem BG.list{b:Array Oper}{a:Array Bool}(r:BG b a){i:Nat}(s:i∈Region.ready .any b a):BG b (a.setIfInBounds i true):=by
 obtain⟨_,t,f,c⟩:=mem_ready.1 s;have up:∀k,a.getD k false=true->(a.setIfInBounds i true).getD k false=true:=by
  intro k h;by_cases e:i=k
  .subst e;rcases ue i a.size with g|g
   .simp[g]
   .simp[I5 g] at h
  .rw[getD_set_ne false e];exact h
 intro j o e l m n p;by_cases q:i=j
 .subst q;obtain rfl:=aq (f.symm.trans m);exact up _ (c e n p)
 .rw[getD_set_ne false q] at l;exact up _ (r j o e l m n p)
theorem Dy{a:Array Bool}{i:Nat}(e:a.getD i true=false)(b:a.getD i false=true):False:=by
 rcases ue i a.size with c|c
 .simp[c] at e b;rw[e] at b;cases b
 .simp[I5 c] at b
def ll(ops:Array Oper)(a:List qd):Prop:=∀k,∀b,Nat.testBit (maskAt a k) b=true->Reach ops k b
theorem sn{c:Array Oper}{a:List qd}(p:ll c a){i:Nat}{o:Oper}(m:c[i]?=some o){b:Nat}(h:Nat.testBit (mask a o) b=true):Reach c i b:=by
 unfold mask at h;have key:∀l:List Edge,(∀e∈l,e∈o.after)->Nat.testBit (mD a l) b=true->Reach c i b:=by
  intro l;induction l with
  | nil=>intro _ h;simp[mD] at h
  | cons e r n =>
    intro g h;simp only[mD] at h;cases j:Region.binds .any e with
    | false=>rw[j] at h;exact n (λk f=>g k (kJ _ f)) h
    | true =>
      rw[j] at h;simp only[cd,Nat.testBit_or,wG] at h;rcases h with (h|h)|h
      .exact n (λk f=>g k (kJ _ f)) h
      .rw[Nat.testBit_two_pow] at h;have:e.on=b:=by simpa using h
       subst this;exact .step m (g e<|kQ ..) j
      .exact .more m (g e<|kQ ..) j (p _ _ h)
 exact key _ (λe q=>by simpa using q) h
theorem ll.nil{ops:Array Oper}:ll ops []:=λk b h=>by simp[maskAt] at h
theorem ll.cons{ops:Array Oper}{a:List qd}(e:ll ops a){i:Nat}{o:Oper}{f:Fp}(g:ops[i]?=some o):ll ops ((i,o,f,mask a o)::a):=by
 intro k b h;simp only[maskAt] at h;cases c:Nat.beq i k with
 | true =>
   rw[c] at h;obtain rfl:=cG c;exact sn e g h
 | false=>rw[c] at h;exact e k b h
def Kg(b:Ctx)(c:Nat)(e:List Nat)(inl:Nat->List ax->St->Tree (ax×St))(a:Array Oper)(f:Nat->Fp)(Q:St->Prop):Nat->Array Bool->St->Prop
 | 0,listed,σ=>Region.ready .any a listed=[]/\Q σ
 | n+1,listed,σ=>(Region.ready .any a listed=[]->Q σ) /\
  ∀i∈Region.ready .any a listed,∃o aB,a[i]?=some o/\o.guard=none/\(fc b c e inl (f i) o σ).run=some aB/\Kg b c e inl a f Q n (listed.setIfInBounds i true) aB
variable {ops:Array Oper} {fp:Nat->Fp} {Q:St->Prop}
theorem E9{i:Nat}{m:Oper}(A:ops[i]?=some m)(t:m.guard=none)(u:∀b∈(fp i).wr,b∈(fp i).rd):∀(n:Nat) (listed:Array Bool) (σ aV:St),
  BG ops listed->(∀j r,ops[j]?=some r->j≠i->listed.getD j true=false->Reach ops j i\/apart m r (fp i) (fp j)=true) ->
  i∈Region.ready .any ops listed->(fc cx nb bf inl (fp i) m σ).run=some aV->Kg cx nb bf inl ops fp Q n (listed.setIfInBounds i true) aV->Kg cx nb bf inl ops fp Q (n+1) listed σ:=by
 intro n;induction n with
 | zero =>
   intro listed σ aV c e o x H;refine⟨λh=>(by rw[h] at o;cases o),λj s=>?_⟩;by_cases a:j=i
   .subst a;exact⟨m,aV,A,t,x,H⟩
   .have:=ready_mono s a;rw[H.1] at this;cases this
 | succ n D =>
   intro listed σ aV c e o x H;refine⟨λh=>(by rw[h] at o;cases o),λj s=>?_⟩;by_cases a:j=i
   .subst a;exact⟨m,aV,A,t,x,H⟩
   .obtain⟨r,br,p,y,E,F⟩:=H.2 j (ready_mono s a);obtain⟨f,G,g,C⟩:=mem_ready.1 s;rw[p] at g;obtain rfl:=aq g;have q:apart m r (fp i) (fp j)=true:=by
     rcases e j r p a f with I|q
     .exact(Dy (mem_ready.1 o).1<|I.ready c s).elim
     .exact q
    obtain⟨l,J,K⟩:=Kf q u x E;refine⟨r,l,p,y,J,D (listed.setIfInBounds j true) l br (c.list s) (λk L M z v=>e k L M z ?_) (ready_mono o<|wM a) K ?_⟩
    .by_cases w:j=k
     .subst w;exact f
     .rw[getD_set_ne true w] at v;exact v
    .rw[M9 _ _ a];exact F
end
end Go.Ge
namespace Go.Ge
open RowKit
section
variable {P:Program} {B:Own} {N:Nat} {γ:Gh} {cx:Ctx} {nb:Nat} {bf:List Nat} {inl:Nat->List ax->St->Tree (ax×St)} {σ aB τ:St} {ops:Array Oper} {fp:Nat->Fp}
def Mc(cx:Ctx)(nb:Nat)(bf:List Nat)(inl:Nat->List ax->St->Tree (ax×St))(ops:Array Oper)(fp:Nat->Fp):Nat->List Oper->St->St->Prop
 | _,[],σ,aB=>σ=aB
 | k,o::l,σ,aB=>o.guard=none/\((fp k).we=false->Dv cx nb o (fp k))/\((fp k).we=true->(fp k).wr=[])/\(∀e∈o.after,Region.binds .any e=true->e.on<k) /\
  (∀j a,l[j]?=some a->Reach ops (k+1+j) k\/apart o a (fp k) (fp<|k+1+j)=true) /\
  ∃aV,(fc cx nb bf inl (fp k) o σ).run=some aV/\Mc cx nb bf inl ops fp (k+1) l aV aB
theorem xQ{o:Oper}{f a:Fp}{k m c:Nat}{b:Oper}{r:List qd}(h:loose o f m ((k,b,a,c)::r)=true):(Nat.testBit m k=true\/apart b o a f=true)/\loose o f m r=true:=by
 simp only[loose,cA,wG] at h;exact h
theorem Kh(o:Oper)(a:St)(h:(ou cx nb o a).we=true):(ou cx nb o a).wr=[]:=by
 unfold ou at h⊢;dsimp only at h⊢;split at h<;>first|cases h|skip
 rfl
theorem BH:∀(l:List Oper) (k:Nat) (done:List qd) (σ:St),(∀j o,l[j]?=some o->ops[k+j]?=some o)->ll ops done->(wS cx nb bf inl (number k l) done σ).run=some aB ->
  ∃g:List (Fp×Nat),g.length=l.length/\(∀j m b,g[j]?=some m->Nat.testBit m.2 b=true->Reach ops (k+j) b) /\
   ∀fp:Nat->Fp,(∀j f,g[j]?=some f->fp (k+j)=f.1)->Mc cx nb bf inl ops fp k l σ aB/\∀j o f,l[j]?=some o->g[j]?=some f->loose o (fp<|k+j) f.2 done=true:=by
 intro l;induction l with
 | nil =>
   intro k done σ _ _ h;exact⟨[],rfl,λj m b h=>absurd h (by simp),λfp _=>⟨aq h,λj o f a=>absurd a (by simp)⟩⟩
 | cons o l z =>
   intro k done σ t u h;simp only[number,wS] at h;split at h
   .cases h
   .rename_i A;obtain⟨r,C⟩:=ak h;obtain⟨aV,D,E⟩:=bind_some C;simp only[cA] at r;have v:ops[k]?=some o:=t 0 o rfl;obtain⟨g,w,x,F⟩:=z (k+1) _ aV (λj s a=>by have:=t (j+1) s (by simpa using a);rw[<-this];congr 1;omega) (u.cons v) E;refine⟨(ou cx nb o σ,mask done o)::g,by simp[w],λj m b a c=>?_,λfp i=>?_⟩
    .cases j with
     | zero=>obtain rfl:=aq a;exact sn u v c
     | succ j=>have:=x j m b (by simpa using a) c;rw[show k+(j+1)=k+1+j by omega];exact this
    have n:fp k=ou cx nb o σ:=i 0 _ rfl;obtain⟨G,y⟩:=F fp λj f a=>by have:=i (j+1) f (by simpa using a);rw[<-this];congr 1;omega
    refine⟨⟨A,λc=>by rw[n] at c⊢;exact wu o σ c,λc=>by rw[n] at c⊢;exact Kh o σ c,λe H c=>?_,λj I a=>?_,aV,by rw[n];exact D,G⟩,λj s f a p=>?_⟩
    .have:=r.2;rw[<-Array.all_toList,tZ] at this;have:=this e (by simpa using H);rw[c] at this;have:=rT (by simpa [Nat.blt] using this);omega
    .obtain⟨f,p⟩:∃f,g[j]?=some f:=⟨_,nP (by rw[w];exact(sE.1 a).1)⟩;rcases(xQ<|y j I f a p).1 with q|q
     .exact .inl (x j f k p q)
     .rw[n];exact .inr q
    .cases j with
     | zero =>
       obtain rfl:=aq a;obtain rfl:=aq p;rw[rq,n];exact r.1
     | succ j =>
       have:=(xQ<|y j s f (by simpa using a)<|by simpa using p).2;rw[show k+(j+1)=k+1+j by omega];exact this
theorem Ki:∀(l:List Oper) (k:Nat) (listed:Array Bool) (σ:St),(∀j,l[j]?=ops[k+j]?)->listed.size=ops.size->(∀j,j<k->j<ops.size->listed.getD j false=true) ->
  (∀j,k<=j->j<ops.size->listed.getD j true=false)->BG ops listed->Mc cx nb bf inl ops fp k l σ aB->Kg cx nb bf inl ops fp (·=aB) l.length listed σ:=by
 intro l;induction l with
 | nil =>
   intro k listed σ t u v z a h;refine⟨?_,h⟩;cases F:Region.ready .any ops listed with
   | nil=>rfl
   | cons i r =>
     exfalso;have G:i∈Region.ready .any ops listed:=by rw[F];exact kQ ..
     obtain⟨A,o,E,_⟩:=mem_ready.1 G;have f:i<ops.size:=(oc.1 E).1;rcases ue i k with s|s
     .have:=v i s f;simp[u,f] at this A;rw[this] at A;cases A
     .have:=t (i-k);rw[show k+(i-k)=i by omega,E] at this;cases this
 | cons o l H =>
   intro k listed σ t u v z a h;have s:ops[k]?=some o:=by simpa using(t 0).symm
   have f:k<ops.size:=(oc.1 s).1;obtain⟨I,J,C,K,L,aV,M,O⟩:=h;have c:k∈Region.ready .any ops listed:=mem_ready.2 ⟨z k (cU _) f,o,s,λe R w=>by
    have:=K e R w;exact v e.on this (by omega)⟩
   refine E9 s I (λb w=>?_) l.length listed σ aV a (λj S y T p=>?_) c M (H (k+1) _ aV (λj=>?_) (by simp[u]) (λj y q=>?_) (λj y q=>?_) (a.list c) O)
   .cases g:(fp k).we with
    | true=>rw[C g] at w;cases w
    | false=>exact(J g).sub b w
   .have n:j<ops.size:=(oc.1 y).1;rcases ue j k with x|x
    .exfalso;have:=v j x n;simp[u,n] at this p;rw[this] at p;cases p
    .have D:=t (j-k);rw[show k+(j-k)=j by omega,y] at D;obtain⟨m,U⟩:∃m,j-k=m+1:=⟨j-k-1,by omega⟩;rw[U] at D;have:=L m S (by simpa using D);rw[show k+1+m=j by omega] at this;exact this
   .have:=t (j+1);rw[show k+1+j=k+(j+1) by omega,<-this];simp
   .by_cases e:j=k
    .subst e;simp[u,f]
    .rw[getD_set_ne false<|wM e];exact v j (by omega) q
   .rw[getD_set_ne true (by omega:k≠j)];exact z j (by omega) q
theorem xR:∀{l:List Oper} {k j:Nat} {o:Oper},l[j]?=some o->(k+j,o)∈number k l:=by
 intro l;induction l with
 | nil=>intro k j o h;cases h
 | cons p l a =>
   intro k j o h;cases j with
   | zero=>obtain rfl:=aq h;exact kQ ..
   | succ j=>exact kJ _ (by rw[show k+(j+1)=k+1+j by omega];exact a (by simpa using h))
theorem xS{d:Nat}:∀{items:List (Nat×Oper)},iZ d items=false->∀{i:Nat} {o:Oper},(i,o)∈items->o.dst≠some d:=λh _ _ a=>EV h _ _ a
theorem zv(y:df P cx)(e:jy P B.G cx)(f:nE P B.G inl){Q:Exit->Act->World->Prop}(q:∀i o,ops[i]?=some o->(fp i).we=false->Dv cx nb o (fp i))
  (z:∀o∈ops.toList,∀k,o.dst=some k->k<N):∀(n:Nat) (listed:Array Bool) (σ:St) (γ:Gh) (a:Act) (w:World),Kg cx nb bf inl ops fp (·=aB) n listed σ->b6 B N γ σ a w ->
   (∀bc r w',b6 B N bc aB r w'->Ext B γ σ.mem w bc aB.mem w'->Fr (number 0 ops.toList) a r->Q .normal r w')->wpAny P .any ops Q n listed a w:=by
 intro n;induction n with
 | zero =>
   intro listed σ γ a w h m p;obtain⟨c,rfl⟩:=h;exact⟨c,p γ a w m (Ext.refl _ _ _ _) λt _=>rfl⟩
 | succ n A =>
   intro listed σ γ a w h m p;refine⟨λC=>?_,λi D=>?_⟩
   .obtain rfl:=h.1 C;exact p γ a w m (Ext.refl _ _ _ _) λt _=>rfl
   .obtain⟨o,aV,c,E,F,H⟩:=h.2 i D;have g:o∈ops.toList:=by
     have:=Jg c;simpa using this
    have b:(i,o)∈number 0 ops.toList:=by
     have:=xR (l:=ops.toList) (k:=0) (j:=i) (o:=o) (by simpa using c);simpa using this
    unfold wpOp;rw[c];dsimp only;have I:Region.wanted o (yielded ops a.tmps)=true:=by unfold Region.wanted;rw[E]
    rw[I];simp only[jr];refine .inl (xA y e f m (z o g) (re (q i o c) F) λs v J K L=>?_);refine A _ aV s _ J H K λu M O R S T=>p u M O R (L.trans S) λt x=>?_;rw[T t x,dV (xS x b)]
theorem b6.draw{a:Act}{w:World}(h:b6 B N γ σ a w)(n:Nat):b6 B N γ σ a { w with drawn:=n }/\Ext B γ σ.mem w γ σ.mem { w with drawn:=n }:=by
 obtain⟨m1,c⟩:=h.ok.OS (w':={ w with drawn:=n }) (I':=γ.I) ⟨rfl,rfl,rfl,cU _,λ_ _=>rfl⟩ (λ_ _ k=>k) (λb o k=>h.ok.lX b o k) (λb o k e=>absurd k e);exact⟨h.go c m1,c⟩
theorem BI(c:P.follows .mixedOrders=true)(t:df P cx)(g:jy P B.G cx)(m:nE P B.G inl){Q:Exit->Act->World->Prop}{id:Nat}{a:Act}{w:World}
  (u:∀o∈ops.toList,∀k,o.dst=some k->k<N) (v:(wS cx nb bf inl (number 0 ops.toList) [] σ).run=some aB) (h:b6 B N γ σ a w)
  (y:∀bc n w',b6 B N bc aB n w'->Ext B γ σ.mem w bc aB.mem w'->Fr (number 0 ops.toList) a n->Q .normal n w'):(Code.region id ops true).wp P Q a w:=by
 refine wp_region_any c ?_;obtain⟨z,M,O,A⟩:=BH (ops:=ops) ops.toList 0 [] σ (λj o b=>by simpa using b) ll.nil v
 let fp:Nat->Fp:=λi=>(z[i]?.map (·.1)).getD ⟨[],[],true,none⟩
 obtain⟨q,_⟩:=A fp λj f b=>by simp[fp,b]
 have key:∀(l:List Oper) (k:Nat) (σ:St),Mc cx nb bf inl ops fp k l σ aB->∀j o,l[j]?=some o->(fp<|k+j).we=false->Dv cx nb o (fp<|k+j):=by
  intro l;induction l with
  | nil=>intro k σ _ j o b;cases b
  | cons o l C =>
    intro k σ D j E b;obtain⟨R,F,H,S,T,aV,U,I⟩:=D;cases j with
    | zero=>obtain rfl:=aq b;exact F
    | succ j=>rw[show k+(j+1)=k+1+j by omega];exact C (k+1) aV I j E (by simpa using b)
 have J:=Ki (ops:=ops) (cx:=cx) (nb:=nb) (bf:=bf) (inl:=inl) (fp:=fp) (aB:=aB) ops.toList 0 (Array.replicate ops.size false) σ (by simp) (by simp) (λj b=>by omega)
  (λj _ b=>by simp[b]) (λi o e p=>by
   exfalso;rcases ue i ops.size with r|r<;>simp[r] at p) q
 obtain⟨K,L⟩:=h.draw (w.drawn+1);refine zv t g m (λi o p=>by have:=key _ 0 σ q i o (by simpa using p);simpa using this) u _ _ σ γ a _ (by simpa using J) K λbc n w' s x f=>y bc n w' s (L.trans x) f
end
end Go.Ge
namespace Go.Ge
open RowKit
section
variable {cx:Ctx} {nb:Nat} {bf:List Nat} {inl:Nat->List ax->St->Tree (ax×St)} {ops:Array Oper} {fp:Nat->Fp}
abbrev yU:=St×(Nat->Bool)
def so(a:Array Oper)(o:Oper)(s:yU):Option Bool:=match o.guard with
 | none=>some true
 | some (g,want)=>match(a[g]?).bind (·.dst) with
   | none=>none
   | some dg=>bif s.2 g then some false else match s.1.slots dg with
     | .data .bool c=>some ((show Bool from c)==want)
     | _=>none
def jk(b:Ctx)(c:Nat)(e:List Nat)(inl:Nat->List ax->St->Tree (ax×St))(a:Array Oper)(f:Fp)(i:Nat)(o:Oper)(s:yU):Option yU:=match so a o s with
 | none=>none
 | some true=>(fc b c e inl f o s.1).run.map λσ=>(σ,s.2)
 | some false=>some (s.1.aA o.dst .undef,eD i s.2)
def Pb:St:={ slots:=λ_=>.undef,mem:=λ_=>none }
theorem Dz(a:St)(d:Option Nat):a.aA d .undef=lay a d [] Pb:=by
 unfold lay;cases d with
 | none=>rfl
 | some k=>rfl
theorem Ah{f:Fp}{i:Nat}{o:Oper}{s k:yU}(l:f.we=false)(h:jk cx nb bf inl ops f i o s=some k):∃b e τ,so ops o s=some b/\k=(lay s.1 o.dst e τ,bif b then s.2 else eD i s.2)/\(∀x∈e,x∈f.wr) /\
  ∀a:yU,so ops o a=some b->(b=true->a.1.only (tmpsOf<|dm o.op) f.rd=s.1.only (tmpsOf<|dm o.op) f.rd)->jk cx nb bf inl ops f i o a=some (lay a.1 o.dst e τ,bif b then a.2 else eD i a.2):=by
 unfold jk at h;cases m:so ops o s with
 | none=>rw[m] at h;cases h
 | some b =>
   rw[m] at h;cases b with
   | true =>
     simp only at h;obtain⟨aB,c,rfl⟩:=pS.1 h;unfold fc at c;rw[l] at c;simp only[fk] at c;obtain⟨τ,n,p⟩:=bind_some c;obtain rfl:=aq p;refine⟨true,f.wr,τ,rfl,rfl,λx g=>g,λa j q=>?_⟩;unfold jk;rw[j];simp only;unfold fc;rw[l];simp only[fk];rw[Tree.run_bind,q rfl,n];rfl
   | false =>
     simp only at h;obtain rfl:=aq h;refine⟨false,[],Pb,rfl,by rw[Dz];rfl,λx g=>(nomatch g),λa j _=>?_⟩;unfold jk;rw[j];simp only;rw[Dz];rfl
theorem DA{i j:Nat}{x y:Oper}{f g:Fp}(h:qe ops i j x y f g=true):f.we=false/\g.we=false/\(∀b∈f.wr,b∉g.rd)/\(∀b∈g.wr,b∉f.rd)/\ow x j=true/\ow y i=true /\
  (∀d,x.dst=some d->d∉rZ ops y)/\(∀d,y.dst=some d->d∉rZ ops x)/\(∀d e,x.dst=some d->y.dst=some e->d≠e):=by
 simp only[qe,cA,fO] at h;obtain⟨⟨⟨⟨⟨⟨⟨m,n⟩,o⟩,p⟩,r⟩,s⟩,a⟩,k⟩:=h;refine⟨m,n,λb l=>rh o l,λb l=>rh p l,r,s,λd c=>?_,λd c=>?_,λd e c t=>?_⟩
 .rw[c] at a;simp only[cA,fO] at a;exact fS.1 a.1
 .rw[c] at k;simp only[fO] at k;exact fS.1 k
 .rw[c,t] at a;simp only[cA,fO] at a;intro q;subst q;simp at a
theorem xT{i:Nat}{o:Oper}{s:yU}{d:Option Nat}{l:List Nat}{m:St}{b:Bool}(c:ow o i=true)(q:∀k,d=some k->k∉rZ ops o):so ops o (lay s.1 d l m,bif b then s.2 else eD i s.2)=so ops o s:=by
 unfold so;cases a:o.guard with
 | none=>rfl
 | some p =>
   obtain⟨g,n⟩:=p;dsimp only;cases f:(ops[g]?).bind (·.dst) with
   | none=>rfl
   | some dg =>
     dsimp only;have h:Nat.beq g i=false:=by
      unfold ow at c;rw[a] at c;simpa using c
     have r:(bif b then s.2 else eD i s.2) g=s.2 g:=by
      cases b with
      | true=>rfl
      | false=>simp only[fk,eD,h,zW]
     have t:(lay s.1 d l m).slots dg=s.1.slots dg:=by
      unfold lay;cases d with
      | none=>rfl
      | some k =>
        have j:dg≠k:=λe=>q k rfl (by
         unfold rZ zZ;rw[a];dsimp only;rw[f];subst e;exact kQ ..)
        simp[fm j]
     rw[r,t]
theorem Kj(n:St){f g:Option Nat}{h i:List Nat}{a c:St}(p:∀d e,f=some d->g=some e->d≠e)(q:∀b∈h,b∉i):lay (lay n g i c) f h a=lay (lay n f h a) g i c:=by
 unfold lay
 congr 1
 .cases f with
  | none=>rfl
  | some k =>
    cases g with
    | none=>rfl
    | some e =>
      have j:=p k e rfl rfl;funext t;dsimp only;by_cases l:t=k
      .subst l;simp[fm j]
      .by_cases o:t=e
       .subst o;simp[fm l]
       .simp[fm l,fm o]
 .funext b;dsimp only;cases m:bJ h b with
  | false=>rfl
  | true =>
    have:b∉i:=q b (jz.1 m);simp[fS.2 this]
theorem Fa{i j:Nat}{g f:Oper}{a l:Fp}{s t u:yU}(m:qe ops i j g f a l=true)(n:∀b∈a.wr,b∈a.rd)(E:jk cx nb bf inl ops a i g s=some t)(F:jk cx nb bf inl ops l j f t=some u) :
  ∃c,jk cx nb bf inl ops l j f s=some c/\jk cx nb bf inl ops a i g c=some u:=by
 obtain⟨G,H,I,v,J,K,w,x,L⟩:=DA m;obtain⟨M,wi,O,R,S,y,T⟩:=Ah G E;subst S;obtain⟨z,U,p,A,V,C,W⟩:=Ah H F;subst V;rw[xT K w] at A;have D:∀{o:Oper} {k:Nat},k∉rZ ops o->k∉tmpsOf (dm o.op):=λh X=>h (pR _ X);have Y:=W s A λ_=>(tB (λk q=>D (w k q)) λb e=>I b (y b e)).symm;refine⟨_,Y,?_⟩;have Z:=T (lay s.1 f.dst U p,bif z then s.2 else eD j s.2) (by rw[xT J x];exact R) λ_=>tB (λk q=>D (x k q)) (λb e=>v b (C b e));rw[Z]
 congr 1
 refine Prod.ext ?_ ?_
 .exact Kj s.1 L (λb e r=>v b (C b r) (n b<|y b e))
 .dsimp only;cases M<;>cases z<;>first|rfl|skip
  simp only[fk];funext k;simp only[eD];cases Nat.beq k i<;>cases Nat.beq k j<;>rfl
def BJ(b:Ctx)(c:Nat)(e:List Nat)(inl:Nat->List ax->St->Tree (ax×St))(a:Array Oper)(f:Nat->Fp)(Q:yU->Prop):Nat->Array Bool->yU->Prop
 | 0,listed,s=>Region.ready .any a listed=[]/\Q s
 | n+1,listed,s=>(Region.ready .any a listed=[]->Q s) /\
  ∀i∈Region.ready .any a listed,∃o g,a[i]?=some o/\jk b c e inl a (f i) i o s=some g/\BJ b c e inl a f Q n (listed.setIfInBounds i true) g
variable {Q:yU->Prop}
theorem Fb{i:Nat}{p:Oper}(z:ops[i]?=some p)(t:∀b∈(fp i).wr,b∈(fp i).rd):∀(n:Nat) (listed:Array Bool) (s s1:yU),
  BG ops listed->(∀j q,ops[j]?=some q->j≠i->listed.getD j true=false->Reach ops j i\/qe ops i j p q (fp i) (fp j)=true) ->
  i∈Region.ready .any ops listed->jk cx nb bf inl ops (fp i) i p s=some s1->BJ cx nb bf inl ops fp Q n (listed.setIfInBounds i true) s1->BJ cx nb bf inl ops fp Q (n+1) listed s:=by
 intro n;induction n with
 | zero =>
   intro listed s s1 c e l x H;refine⟨λh=>(by rw[h] at l;cases l),λj r=>?_⟩;by_cases a:j=i
   .subst a;exact⟨p,s1,z,x,H⟩
   .have:=ready_mono r a;rw[H.1] at this;cases this
 | succ n C =>
   intro listed s s1 c e l x H;refine⟨λh=>(by rw[h] at l;cases l),λj r=>?_⟩;by_cases a:j=i
   .subst a;exact⟨p,s1,z,x,H⟩
   .obtain⟨q,D,m,E,F⟩:=H.2 j (ready_mono r a);obtain⟨f,G,g,A⟩:=mem_ready.1 r;rw[m] at g;obtain rfl:=aq g;have o:qe ops i j p q (fp i) (fp j)=true:=by
     rcases e j q m a f with I|o
     .exact(Dy (mem_ready.1 l).1<|I.ready c r).elim
     .exact o
    obtain⟨u,J,K⟩:=Fa o t x E;refine⟨q,u,m,J,C (listed.setIfInBounds j true) u D (c.list r) (λk L M y v=>e k L M y ?_) (ready_mono l<|wM a) K ?_⟩
    .by_cases w:j=k
     .subst w;exact f
     .rw[getD_set_ne true w] at v;exact v
    .rw[M9 _ _ a];exact F
end
end Go.Ge
namespace Go.Ge
open RowKit
section
variable {P:Program} {B:Own} {N:Nat} {γ:Gh} {cx:Ctx} {nb:Nat} {bf:List Nat} {inl:Nat->List ax->St->Tree (ax×St)} {σ aB:St} {ops:Array Oper} {fp:Nat->Fp}
theorem Kk{a:St}{d:Nat}{v:ax}(h:a.slots d=v):a.put d v=a:=by
 unfold St.put;obtain⟨c,e⟩:=a
 congr 1
 funext t;cases b:Nat.beq t d with
 | true=>obtain rfl:=cG b;exact h.symm
 | false=>rfl
def Md(cx:Ctx)(nb:Nat)(bf:List Nat)(inl:Nat->List ax->St->Tree (ax×St))(ops:Array Oper)(fp:Nat->Fp):Nat->List Oper->yU->yU->Prop
 | _,[],s,s'=>s=s'
 | k,o::l,s,s'=>(((fp k).we=false->Dv cx nb o (fp k))/\((fp k).we=true->(fp k).wr=[]))/\(∀e∈o.after,Region.binds .any e=true->e.on<k) /\
  (∀j a,l[j]?=some a->Reach ops (k+1+j) k\/qe ops k (k+1+j) o a (fp k) (fp<|k+1+j)=true) /\
  ∃b,jk cx nb bf inl ops (fp k) k o s=some b/\Md cx nb bf inl ops fp (k+1) l b s'
theorem vi{i:Nat}{o:Oper}{f a:Fp}{k m c:Nat}{b:Oper}{r:List qd}(h:r0 ops i o f m ((k,b,a,c)::r)=true):(Nat.testBit m k=true\/qe ops k i b o a f=true)/\r0 ops i o f m r=true:=by
 simp only[r0,cA,wG] at h;exact h
theorem xU{i:Nat}{o:Oper}{r:List (Nat×Oper)}{a:List qd}{f:Nat->Bool}(h:(ma cx nb bf inl ops ((i,o)::r) a σ f).run=some aB) :
  ∃l:yU,r0 ops i o (ou cx nb o σ) (mask a o) a=true/\(∀e∈o.after,Region.binds .any e=true->e.on<i)/\jk cx nb bf inl ops (ou cx nb o σ) i o (σ,f)=some l /\
   (ma cx nb bf inl ops r ((i,o,ou cx nb o σ,mask a o)::a) l.1 l.2).run=some aB:=by
 simp only[ma] at h;obtain⟨A,j⟩:=ak h;simp only[cA] at A;obtain⟨y,u⟩:=A;have q:∀e∈o.after,Region.binds .any e=true->e.on<i:=λe C D=>by
  rw[<-Array.all_toList,tZ] at u;have:=u e (by simpa using C);rw[D] at this;have:=rT (by simpa [Nat.blt] using this);omega
 suffices ∃l:yU,jk cx nb bf inl ops (ou cx nb o σ) i o (σ,f)=some l/\(ma cx nb bf inl ops r ((i,o,ou cx nb o σ,mask a o)::a) l.1 l.2).run=some aB by
  obtain⟨l,E,F⟩:=this;exact⟨l,y,q,E,F⟩
 split at j
 .rename_i x;obtain⟨aV,s,v⟩:=bind_some j;refine⟨(aV,f),?_,v⟩;have t:so ops o (σ,f)=some true:=by unfold so;rw[x]
  unfold jk;rw[t];dsimp only;rw[s];rfl
 .rename_i g b x;split at j
  .cases j
  .rename_i G w;cases m:f g with
   | true =>
     rw[m] at j;refine⟨(σ.aA o.dst .undef,eD i f),?_,j⟩;have t:so ops o (σ,f)=some false:=by unfold so;rw[x];dsimp only;rw[w];dsimp only;rw[m];rfl
     unfold jk;rw[t]
   | false =>
     rw[m] at j;simp only[fk] at j;split at j
     .rename_i c k;change Bool at c;have n:=eh j;have t:so ops o (σ,f)=some (c==b):=by unfold so;rw[x];dsimp only;rw[w];dsimp only;rw[m];simp only[fk];rw[k]
      have p:=Kk k;have run:∀{aV:St},(fc cx nb bf inl (ou cx nb o σ) o σ).run=some aV->(c==b)=true->jk cx nb bf inl ops (ou cx nb o σ) i o (σ,f)=some (aV,f):=λs z=>by
       unfold jk;rw[t,z];dsimp only;rw[s];rfl
      have skip:(c==b)=false->jk cx nb bf inl ops (ou cx nb o σ) i o (σ,f)=some (σ.aA o.dst .undef,eD i f):=λz=>by
       unfold jk;rw[t,z]
      cases c with
      | true =>
        simp only[cd] at n;rw[p] at n;cases b with
        | true=>obtain⟨aV,s,v⟩:=bind_some n;exact⟨(aV,f),run s rfl,v⟩
        | false=>exact⟨_,skip rfl,n⟩
      | false =>
        simp only[fk] at n;rw[p] at n;cases b with
        | true=>exact⟨_,skip rfl,n⟩
        | false=>obtain⟨aV,s,v⟩:=bind_some n;exact⟨(aV,f),run s rfl,v⟩
     .cases j
theorem zw:∀(l:List Oper) (k:Nat) (done:List qd) (σ:St) (i:Nat->Bool),(∀j o,l[j]?=some o->ops[k+j]?=some o)->ll ops done->(ma cx nb bf inl ops (number k l) done σ i).run=some aB ->
  ∃(e:List (Fp×Nat)) (g:Nat->Bool),e.length=l.length/\(∀j m b,e[j]?=some m->Nat.testBit m.2 b=true->Reach ops (k+j) b) /\
   ∀fp:Nat->Fp,(∀j f,e[j]?=some f->fp (k+j)=f.1)->Md cx nb bf inl ops fp k l (σ,i) (aB,g)/\∀j o f,l[j]?=some o->e[j]?=some f->r0 ops (k+j) o (fp<|k+j) f.2 done=true:=by
 intro l;induction l with
 | nil =>
   intro k done σ i _ _ h;obtain rfl:=aq h;exact⟨[],i,rfl,λj m b h=>absurd h (by simp),λfp _=>⟨rfl,λj o f a=>absurd a (by simp)⟩⟩
 | cons o l C =>
   intro k done σ i v w h;obtain⟨t,D,E,F,G⟩:=xU (r:=number (k+1) l) h;have x:ops[k]?=some o:=v 0 o rfl;obtain⟨e,g,y,z,H⟩:=C (k+1) _ t.1 t.2 (λj u a=>by have:=v (j+1) u (by simpa using a);rw[<-this];congr 1;omega) (w.cons x) G;refine⟨(ou cx nb o σ,mask done o)::e,g,by simp[y],λj m b a c=>?_,λfp n=>?_⟩
   .cases j with
    | zero=>obtain rfl:=aq a;exact sn w x c
    | succ j=>have:=z j m b (by simpa using a) c;rw[show k+(j+1)=k+1+j by omega];exact this
   have p:fp k=ou cx nb o σ:=n 0 _ rfl;obtain⟨I,A⟩:=H fp λj f a=>by have:=n (j+1) f (by simpa using a);rw[<-this];congr 1;omega
   refine⟨⟨⟨λc=>by rw[p] at c⊢;exact wu o σ c,λc=>by rw[p] at c⊢;exact Kh o σ c⟩,E,λj J a=>?_,t,by rw[p];exact F,I⟩,λj u f a s=>?_⟩
   .obtain⟨f,s⟩:∃f,e[j]?=some f:=⟨_,nP (by rw[y];exact(sE.1 a).1)⟩;rcases(vi<|A j J f a s).1 with q|q
    .exact .inl (z j f k s q)
    .rw[p];exact .inr q
   .cases j with
    | zero =>
      obtain rfl:=aq a;obtain rfl:=aq s;rw[rq,p];exact D
    | succ j =>
      have:=(vi<|A j u f (by simpa using a)<|by simpa using s).2;rw[show k+(j+1)=k+1+j by omega];exact this
theorem Kl{s':yU}:∀(l:List Oper) (k:Nat) (listed:Array Bool) (s:yU),(∀j,l[j]?=ops[k+j]?)->listed.size=ops.size->(∀j,j<k->j<ops.size->listed.getD j false=true) ->
  (∀j,k<=j->j<ops.size->listed.getD j true=false)->BG ops listed->Md cx nb bf inl ops fp k l s s'->BJ cx nb bf inl ops fp (·=s') l.length listed s:=by
 intro l;induction l with
 | nil =>
   intro k listed s u v w A a h;refine⟨?_,h⟩;cases H:Region.ready .any ops listed with
   | nil=>rfl
   | cons i r =>
     exfalso;have I:i∈Region.ready .any ops listed:=by rw[H];exact kQ ..
     obtain⟨C,o,E,_⟩:=mem_ready.1 I;have f:i<ops.size:=(oc.1 E).1;rcases ue i k with t|t
     .have:=w i t f;simp[v,f] at this C;rw[this] at C;cases C
     .have:=u (i-k);rw[show k+(i-k)=i by omega,E] at this;cases this
 | cons o l J =>
   intro k listed s u v w A a h;have t:ops[k]?=some o:=by simpa using(u 0).symm
   have f:k<ops.size:=(oc.1 t).1;obtain⟨F,K,L,G,M,O⟩:=h;have c:k∈Region.ready .any ops listed:=mem_ready.2 ⟨A k (cU _) f,o,t,λe R x=>by
    have:=K e R x;exact w e.on this (by omega)⟩
   refine Fb t (λb x=>by
    cases g:(fp k).we with
    | true=>rw[F.2 g] at x;cases x
    | false=>exact(F.1 g).sub b x) l.length listed s G a (λj S z T p=>?_) c M (J (k+1) _ G (λj=>?_) (by simp[v]) (λj z q=>?_) (λj z q=>?_) (a.list c) O)
   .have n:j<ops.size:=(oc.1 z).1;rcases ue j k with y|y
    .exfalso;have:=w j y n;simp[v,n] at this p;rw[this] at p;cases p
    .have D:=u (j-k);rw[show k+(j-k)=j by omega,z] at D;obtain⟨m,U⟩:∃m,j-k=m+1:=⟨j-k-1,by omega⟩;rw[U] at D;have:=L m S (by simpa using D);rw[show k+1+m=j by omega] at this;exact this
   .have:=u (j+1);rw[show k+1+j=k+(j+1) by omega,<-this];simp
   .by_cases e:j=k
    .subst e;simp[v,f]
    .rw[getD_set_ne false<|wM e];exact w j (by omega) q
   .rw[getD_set_ne true (by omega:k≠j)];exact A j (by omega) q
theorem Fc(a:∀f b σ v aB,(inl f b σ).run=some (v,aB)->aM σ aB):∀(l:List Oper) (k:Nat) (done:List qd) (σ aB:St) (e:Nat->Bool),(ma cx nb bf inl ops (number k l) done σ e).run=some aB->aM σ aB:=by
 intro l;induction l with
 | nil=>intro k done σ aB e h;obtain rfl:=aq h;exact aM.refl _
 | cons o l g =>
   intro k done σ aB e h;obtain⟨n,p,q,c,i⟩:=xU (r:=number (k+1) l) h;refine aM.trans ?_ (g _ _ _ _ _ i);unfold jk at c;split at c
   .cases c
   .obtain⟨aV,j,rfl⟩:=pS.1 c;exact qq a aV (re (λm=>wu o σ m) j)
   .obtain rfl:=aq c;exact aM.aA _ _ _
end
end Go.Ge
namespace Go.Ge
open RowKit
section
variable {P:Program} {B:Own} {N:Nat} {γ:Gh} {cx:Ctx} {nb:Nat} {bf:List Nat} {inl:Nat->List ax->St->Tree (ax×St)} {σ aB:St} {ops:Array Oper} {fp:Nat->Fp}
theorem Fe{l:List Oper}{j:Nat}{o:Oper}{d:Nat}(h:l[j]?=some o)(a:o.dst=some d):d∈gH.uk l:=by
 induction l generalizing j with
 | nil=>cases h
 | cons p l b =>
   cases j with
   | zero=>obtain rfl:=aq h;simp only[gH.uk,a];exact kQ ..
   | succ j =>
     have:=b (j:=j) (by simpa using h);simp only[gH.uk];split
     .exact kJ _ this
     .exact this
theorem xV:∀{l:List Oper},gH l=true->∀{i j:Nat} {x y:Oper} {d:Nat},i<j->l[i]?=some x->l[j]?=some y->x.dst=some d->y.dst≠some d:=by
 intro l;induction l with
 | nil=>intro _ i j x y d _ h;cases h
 | cons p l g =>
   intro h i j x y d k c n e f;simp only[gH,cA] at h;obtain⟨m,rfl⟩:∃m,j=m+1:=⟨j-1,by omega⟩;have a:l[m]?=some y:=by simpa using n
   cases i with
   | zero =>
     obtain rfl:=aq c;have b:=h.1;rw[e] at b;simp only[fO] at b;exact fS.1 b (Fe a f)
   | succ i=>exact g h.2 (i:=i) (j:=m) (by omega) (by simpa using c) a e f
theorem Ff(h:gH ops.toList=true){i j:Nat}{x y:Oper}{d:Nat}(a:i≠j)(c:ops[i]?=some x)(e:ops[j]?=some y)(f:x.dst=some d):y.dst≠some d:=by
 rcases Nat.lt_or_gt_of_ne a with b|b
 .exact xV h b (by simpa using c) (by simpa using e) f
 .intro g;exact xV h b (by simpa using e) (by simpa using c) g f
def Fg(c:Array Oper)(e:Nat->Bool)(b:Array Bool)(a:Act):Prop:=∀k,e k=true->yielded c a.tmps k=none/\b.getD k true=true
theorem nH{a:Act}{i k:Nat}{o:Oper}{v:Value}(b:gH ops.toList=true)(e:ops[i]?=some o)(c:k≠i):yielded ops (a.put o.dst v).tmps k=yielded ops a.tmps k:=by
 unfold yielded;cases f:ops[k]? with
 | none=>rfl
 | some y =>
   simp only[AP];cases g:y.dst with
   | none=>rfl
   | some h =>
     simp only[AP];have:o.dst≠some h:=Ff b c f e g;rw[dV this]
theorem Fg.run{g:Nat->Bool}{b:Array Bool}{a:Act}{i:Nat}{o:Oper}{v:Value}(h:Fg ops g b a)(f:gH ops.toList=true)(m:ops[i]?=some o)(j:b.getD i true=false):Fg ops g (b.setIfInBounds i true) (a.put o.dst v):=λk n=>by
 obtain⟨p,l⟩:=h k n;have c:k≠i:=λe=>by subst e;rw[l] at j;cases j
 exact⟨by rw[nH f m c];exact p,by rw[getD_set_ne true<|wM c];exact l⟩
theorem Fg.skip{e:Nat->Bool}{b:Array Bool}{a:Act}{i:Nat}{o:Oper}(h:Fg ops e b a)(f:gH ops.toList=true)(l:ops[i]?=some o)(n:b.getD i true=false):Fg ops (eD i e) (b.setIfInBounds i true) (a.put o.dst Go.undef):=λk m=>by
 by_cases c:k=i
 .subst c;refine⟨tu l,?_⟩;rcases ue k b.size with g|g
  .simp[g]
  .simp[I5 g] at n
 .have j:e k=true:=by
   simp only[eD,fm c,zW] at m;exact m
  obtain⟨p,q⟩:=h k j;exact⟨by rw[nH f l c];exact p,by rw[getD_set_ne true<|wM c];exact q⟩
theorem zx(hc:df P cx)(E:jy P B.G cx)(F:nE P B.G inl){Q:Exit->Act->World->Prop}(H:gH ops.toList=true)(L:∀i o,ops[i]?=some o->(fp i).we=false->Dv cx nb o (fp i))
  (hd:∀o∈ops.toList,∀k,o.dst=some k->k<N):∀(n:Nat) (listed:Array Bool) (s:yU) (γ:Gh) (a:Act) (w:World),BJ cx nb bf inl ops fp (λs=>s.1=aB) n listed s->b6 B N γ s.1 a w->Fg ops s.2 listed a ->
   (∀bc M w',b6 B N bc aB M w'->Ext B γ s.1.mem w bc aB.mem w'->Fr (number 0 ops.toList) a M->Q .normal M w')->wpAny P .any ops Q n listed a w:=by
 intro n;induction n with
 | zero =>
   intro listed s γ a w h D r y;obtain⟨u,O⟩:=h;rw[<-O] at y;exact⟨u,y γ a w D (Ext.refl _ _ _ _) λt _=>rfl⟩
 | succ n ih =>
   intro listed s γ a w h D r y;refine⟨λh0=>?_,λi hi=>?_⟩
   .have O:=h.1 h0;rw[<-O] at y;exact y γ a w D (Ext.refl _ _ _ _) λt _=>rfl
   .obtain⟨o,s1,u,I,h4⟩:=h.2 i hi;have J:=(mem_ready.1 hi).1;have x:o∈ops.toList:=by
     have:=Jg u;simpa using this
    have f:(i,o)∈number 0 ops.toList:=by
     have:=xR (l:=ops.toList) (k:=0) (j:=i) (o:=o) (by simpa using u);simpa using this
    have hw:∀b,so ops o s=some b->Region.wanted o (yielded ops a.tmps)=b:=by
     intro b e;unfold so at e;cases m:o.guard with
     | none =>
       rw[m] at e;obtain rfl:=aq e;unfold Region.wanted;rw[m]
     | some p =>
       obtain⟨g,K⟩:=p;rw[m] at e;dsimp only at e;split at e
       .cases e
       .rename_i dg R;cases S:s.2 g with
        | true =>
          rw[S] at e;obtain rfl:=aq e;unfold Region.wanted;rw[m];simp only[(r g S).1];rfl
        | false =>
          rw[S] at e;simp only[fk] at e;split at e
          .rename_i c z;change Bool at c;obtain rfl:=aq e;have A:=vg D z;unfold Region.wanted;rw[m];simp only[yielded,R,AP,A];cases c<;>cases K<;>rfl
          .cases e
    unfold wpOp;rw[u];dsimp only;unfold jk at I;split at I
    .cases I
    .rename_i q;obtain⟨aV,q1,rfl⟩:=pS.1 I;rw[hw true q];simp only[jr];refine .inl (xA hc E F D (hd o x) (re (L i o u) q1) λT v w1 s1 x1=>?_);refine ih _ (aV,s.2) T _ w1 h4 s1 (r.run H u J) λC U V W X Y=>y C U V W (x1.trans X) λt A=>?_;rw[Y t A,dV (xS A f)]
    .rename_i q;obtain rfl:=aq I;rw[hw false q];simp only[Et,ug];have Z:b6 B N γ (s.1.aA o.dst .undef) (a.put o.dst Go.undef) w:=D.mP (hd o x) ⟨_,rfl⟩;have hm:(s.1.aA o.dst .undef).mem=s.1.mem:=by cases o.dst<;>rfl
     refine ih _ (s.1.aA o.dst .undef,eD i s.2) γ _ w h4 Z (r.skip H u J) λC U V W X Y=>y C U V W (by rw[<-hm];exact X) λt A=>?_;rw[Y t A,dV (xS A f)]
theorem BJ.mono{Q Q':yU->Prop}(a:∀s,Q s->Q' s):∀{n:Nat} {listed:Array Bool} {s:yU},BJ cx nb bf inl ops fp Q n listed s->BJ cx nb bf inl ops fp Q' n listed s:=by
 intro n;induction n with
 | zero=>intro listed s h;exact⟨h.1,a _ h.2⟩
 | succ n b =>
   intro listed s h;refine⟨λc=>a _ (h.1 c),λi e=>?_⟩;obtain⟨o,f,g,j,k⟩:=h.2 i e;exact⟨o,f,g,j,b k⟩
theorem BK(c:P.follows .mixedOrders=true)(z:df P cx)(g:jy P B.G cx)(m:nE P B.G inl){Q:Exit->Act->World->Prop}{id:Nat}{a:Act}{w:World}(p:gH ops.toList=true)
  (A:∀o∈ops.toList,∀k,o.dst=some k->k<N) (C:(ma cx nb bf inl ops (number 0 ops.toList) [] σ λ_=>false).run=some aB) (h:b6 B N γ σ a w)
  (D:∀bc n w',b6 B N bc aB n w'->Ext B γ σ.mem w bc aB.mem w'->Fr (number 0 ops.toList) a n->Q .normal n w'):(Code.region id ops true).wp P Q a w:=by
 refine wp_region_any c ?_;obtain⟨E,q,T,U,F⟩:=zw (ops:=ops) ops.toList 0 [] σ (λ_=>false) (λj o b=>by simpa using b) ll.nil C
 let fp:Nat->Fp:=λi=>(E[i]?.map (·.1)).getD ⟨[],[],true,none⟩
 obtain⟨v,_⟩:=F fp λj f b=>by simp[fp,b]
 have key:∀(l:List Oper) (k:Nat) (s s':yU),Md cx nb bf inl ops fp k l s s'->∀j o,l[j]?=some o->(fp<|k+j).we=false->Dv cx nb o (fp<|k+j):=by
  intro l;induction l with
  | nil=>intro k s s' _ j o b;cases b
  | cons o l H =>
    intro k s s' I j J b;obtain⟨K,V,W,r,X,L⟩:=I;cases j with
    | zero=>obtain rfl:=aq b;exact K.1
    | succ j=>rw[show k+(j+1)=k+1+j by omega];exact H (k+1) r s' L j J (by simpa using b)
 have M:=Kl (ops:=ops) (cx:=cx) (nb:=nb) (bf:=bf) (inl:=inl) (fp:=fp) (s':=(aB,q)) ops.toList 0 (Array.replicate ops.size false) (σ,λ_=>false) (by simp) (by simp) (λj b=>by omega)
  (λj _ b=>by simp[b]) (λi o e t=>by
   exfalso;rcases ue i ops.size with y|y<;>simp[y] at t) v
 have u:=BJ.mono (Q':=λs:yU=>s.1=aB) (λs O=>by rw[O]) M;obtain⟨r,R⟩:=h.draw (w.drawn+1);refine zx z g m p (λi o t=>by have:=key _ 0 _ _ v i o (by simpa using t);simpa using this) A _ _ (σ,λ_=>false) γ a _ (by simpa using u) r (λk S=>by cases S) λbc n w' s x f=>D bc n w' s (R.trans x) f
theorem DB(b:P.follows .mixedOrders=true)(l:df P cx)(c:jy P B.G cx)(e:nE P B.G inl){Q:Exit->Act->World->Prop}{id:Nat}{a:Act}{w:World}
  (m:∀o∈ops.toList,∀k,o.dst=some k->k<N) (f:(ox cx nb bf inl ops σ).run=some aB) (h:b6 B N γ σ a w)
  (n:∀bc g w',b6 B N bc aB g w'->Ext B γ σ.mem w bc aB.mem w'->Fr (number 0 ops.toList) a g->Q .normal g w'):(Code.region id ops true).wp P Q a w:=by
 unfold ox at f;cases p:ops.any λo=>o.guard.isSome with
 | true =>
   rw[p] at f;obtain⟨i,j⟩:=ak (show(bif gH ops.toList then ma cx nb bf inl ops (number 0 ops.toList) [] σ (λ_=>false) else .fail).run=some aB from f);exact BK b l c e i m j h n
 | false =>
   rw[p] at f;exact BI b l c e m f h n
end
end Go.Ge
